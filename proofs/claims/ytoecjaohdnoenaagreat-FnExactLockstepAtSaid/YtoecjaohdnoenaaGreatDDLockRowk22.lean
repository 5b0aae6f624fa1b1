/-
  Rules, data and contracts of functions: part 23 of the proof.
  Conditions: those that each theorem names.
-/
import Derived.Test.YtoecjaohdnoenaaGreatDDLockRowk21
set_option linter.unusedSimpArgs false
set_option linter.unusedVariables false
set_option maxRecDepth 8000
set_option maxHeartbeats 8000000
namespace Go.Proofs.YtoecjaohdnoenaaGreat
section
open Go.RowKit

theorem Zd {l:TLevel} {x y s:Int} (hl:levelOk l=true) (h1:1≤s∧s≤16) (h:solidM l x y s=false):(0≤x∧x≤400)∧(0≤y∧y≤400):=by
 obtain⟨l3,l12,w,w4,w20,hw⟩:=Yr hl
 have hn:¬hits l x y s:=fun hh=>by rw[Ki hh] at h; cases h
 have:¬(x<0∨y<0∨(w:Int)*16-s<x∨(l.Rows.length:Int)*16-s<y):=fun q=>hn (out_hits hw h1.1 q)
 omega
theorem solidAt_eq {l:TLevel} {x y s:Int} (hl:levelOk l=true) (h1:1≤s∧s≤16):solidAt l x y s=solidM l x y s:=by
 rw[solidAt,Yq.2 h1,hl]; rfl
theorem steer_and {i:Int} {k m:Int} (h:(pressed i k&&decide (((i.toNat &&& m.toNat:Nat):Int)=0))=true):(pressed i k && !pressed i m)=true:=by
 simp only[Gqh,decide_eq_true_eq,Gq8] at h ⊢
 exact⟨h.1,Gqa (fun q=>q h.2)⟩
theorem steer_no {i:Int} {k m:Int} (h:(pressed i k&&decide (((i.toNat &&& m.toNat:Nat):Int)=0))=false):(pressed i k && !pressed i m)=false:=by
 rw[←Gxn] at h ⊢
 intro q
 simp only[Gqh,decide_eq_true_eq,Gq8,pressed,decide_eq_false_iff_not,Classical.not_not] at h q
 exact h q
@[reducible] def stB (K O X Y VX VY A L T:Int):List V1 := [jn K,jn O,jn X,jn Y,jn VX,jn VY,jn A,jn L,jn T]
theorem I_SteerPlayer (l:TLevel) (b:TBody) (i:Int) (hg:Enc.gd l) (hl:levelOk l=true) (gb:Enc.gd b) (hk:b.Kind=0) (ho:0≤b.Owner∧b.Owner≤3) (hf:1≤b.Life) (hi:0≤i∧i≤15) (hb:bodyM l (b.Owner+1) b=true) (ht:0≤b.Timer∧b.Timer≤20) (hv : -15≤b.VY∧b.VY≤15) (hp:solidM l b.X b.Y 12=false):Con Tryz.prog 286 [] [ag l,ag b,ai i] [] (.tu [.ag ((Enc.e (steer l b i).1).map (V1.rd [])),.c (bv (steer l b i).2)]):=by
 obtain⟨⟨px1,px2⟩,⟨py1,py2⟩⟩:=Zd hl (by decide) hp
 have c1:=Xq l hg
 have c2:=Xr b.Owner 0 3
 have c3:=Xr i 0 15
 have c4:=I_BodyOk l (b.Owner+1) b hg gb (by omega)
 rw[hl] at c1
 rw[Yq.2 ho] at c2
 rw[Yq.2 hi] at c3
 rw[hl,hb] at c4
 have f1:decide (b.Kind≠0)=false:=Gqa (fun q=>q hk)
 have f2:decide (b.Life<1)=false:=Gqa (by omega)
 have cs:=I_SolidAt l b.X (b.Y+1) 12 hg ⟨by omega,by omega⟩ ⟨by omega,by omega⟩
 rw[solidAt_eq hl (by decide)] at cs
 have cz:Con Tryz.prog 271 [] [ai 0] [] (I 12):=I_SizeOf 0
 obtain⟨T,hT⟩:∃ T,T=(if 0<b.Timer then b.Timer-1 else b.Timer):=⟨_,rfl⟩
 have hT1:0≤T∧T≤20:=by rw[hT]; split <;> omega
 obtain⟨R,hR⟩:∃ R,R=(pressed i 2 && !pressed i 1):=⟨_,rfl⟩
 obtain⟨Lf,hLf⟩:∃ Lf,Lf=(pressed i 1 && !pressed i 2):=⟨_,rfl⟩
 rw[steer,←hT,←hR,←hLf]
 refine Con.of Tryz.func286 J Tryz.ntmps286 J (fun E => ?_)
 refine Wz [144,46,4,93] ?_;refine zx (Qj J J (c1) J) J ?_;refine Wz [2,58,49,7,58,15,7,58] ?_;refine zx (Qj J J (c2) J) J ?_;refine Wz [3,2,7,9,75] ?_;refine zx (Qj J J (c3) J) J ?_;refine Wz [2,79,92,3,120,123,3,92,3] ?_;refine zx (Qj J J (c4) J) J ?_;refine Wz [3,2,7,9,31,234,6] ?_
 refine A_join (⟨101,[(2,I i),(3,.o (.c (.ptr 0 0))),(4,.o (.c (.ptr 1 0))),(6,.o (.c (.ptr 2 0)))],[.box ((Enc.e l).map (V1.rd [])),.box (stB b.Kind b.Owner b.X b.Y b.VX b.VY b.Aim b.Life T),.box (stB 0 0 0 0 0 0 0 0 0)]⟩:St) ?_ ?_
 ·refine Xb rfl (fun h => ?_) (fun h => ?_)
  ·have h:=Gqc h
   have hT2:b.Timer-1=T:=by rw[hT,if_pos h]
   refine Wz [23,21,51,151,89] ?_
   exact Mid.n (by rw[←hT2]; exact Ux [0,1,2])
  ·have h:=Gqd h
   have hT2:b.Timer=T:=by rw[hT,if_neg h]
   refine Qh ?_
   exact Mid.n (by rw[←hT2]; exact Ux [0,1,2])
 refine Wz [18,195,131,83,195,131,4,5,48,13,169] ?_;refine zx (Qt.grdT J J J (.hit .stop) (fun hgrd=>Q4 J J J)) J ?_;refine Wz [42,6] ?_
 refine A_join (⟨101,[(2,I i),(3,.o (.c (.ptr 0 0))),(4,.o (.c (.ptr 1 0))),(6,.o (.c (.ptr 2 0))),(8,B (pressed i 1)),(9,B (pressed i 2))],[.box ((Enc.e l).map (V1.rd [])),.box (stB b.Kind b.Owner b.X b.Y (if R=true then 3 else 0) b.VY (if R=true then 1 else b.Aim) b.Life T),.box (stB 0 0 0 0 0 0 0 0 0)]⟩:St) ?_ ?_
 ·refine Xb rfl (fun h => ?_) (fun h => ?_)
  ·have h2:R=true:=by rw[hR]; exact h
   refine Wz [5,48,23,151,89] ?_
   exact Mid.n (by rw[if_pos h2,if_pos h2]; exact Ux [0,1,2])
  ·have h2:¬R=true:=by rw[hR]; intro q; exact Gxw (Eq.trans (h).symm q)
   refine Qh ?_
   exact Mid.n (by rw[if_neg h2,if_neg h2]; exact Ux [0,1,2])
 refine Wz [13,169] ?_;refine zx (Qt.grdT J J J (.hit .stop) (fun hgrd=>Q4 J J J)) J ?_;refine Wz [42,6] ?_
 refine A_join (⟨101,[(2,I i),(3,.o (.c (.ptr 0 0))),(4,.o (.c (.ptr 1 0))),(6,.o (.c (.ptr 2 0))),(8,B (pressed i 1)),(9,B (pressed i 2))],[.box ((Enc.e l).map (V1.rd [])),.box (stB b.Kind b.Owner b.X b.Y (if Lf=true then -3 else if R=true then 3 else 0) b.VY (if Lf=true then -1 else if R=true then 1 else b.Aim) b.Life T),.box (stB 0 0 0 0 0 0 0 0 0)]⟩:St) ?_ ?_
 ·refine Xb rfl (fun h => ?_) (fun h => ?_)
  ·have h2:Lf=true:=by rw[hLf]; exact h
   refine Wz [5,48,23,151,89] ?_
   exact Mid.n (by rw[if_pos h2,if_pos h2]; exact Ux [0,1,2])
  ·have h2:¬Lf=true:=by rw[hLf]; intro q; exact Gxw (Eq.trans (h).symm q)
   refine Qh ?_
   exact Mid.n (by rw[if_neg h2,if_neg h2]; exact Ux [0,1,2])
 obtain⟨vx,hvx⟩:∃ vx,vx=(if Lf=true then -3 else if R=true then 3 else 0):=⟨_,rfl⟩
 obtain⟨am,ham⟩:∃ am,am=(if Lf=true then -1 else if R=true then 1 else b.Aim):=⟨_,rfl⟩
 rw[←hvx,←ham]
 obtain⟨Fi,hFi⟩:∃ Fi,Fi=(pressed i 8&&decide (T=0)):=⟨_,rfl⟩
 rw[←hFi]
 by_cases hJ:pressed i 4=true
 ·have fJ:decide (((i.toNat &&& (4:Int).toNat:Nat):Int)≠0)=true:=hJ
  cases hs:solidM l b.X (b.Y+1) 12 with
  | true =>
   rw[hs] at cs
   rw[hJ]
   refine Wz [14,14,300,1,246,159,1,177,27,27,220] ?_;refine Kw (Qt.yes J J J (Qj J J (cz) J)) J ?_;refine Wz [273,96,16,11,23,48,75,195,131,80,190,42,6] ?_
   refine Xb J (fun h => ?_) (fun h => ?_)
   ·have h2:Fi=true:=by rw[hFi]; exact h
    rw[h2]
    refine Wz [5,48,30,110,4,88,55] ?_
    exact Xn J J J J J (Ur [] J J J)
   ·have h2:Fi=false:=by rw[hFi]; exact h
    rw[h2]
    refine Wz [25,30,110,85] ?_
    exact Xn J J J J J (Ur [] J J J)
  | false =>
   rw[hs] at cs
   rw[hJ]
   refine Wz [14,14,300,1,246,159,1,177,27,27,220] ?_;refine Kw (Qt.yes J J J (Qj J J (cz) J)) J ?_;refine Wz [273,96,16,102,23,21,123,247,48,75,195,131,80,190,42,6] ?_
   refine Xb J (fun h => ?_) (fun h => ?_)
   ·have h2:Fi=true:=by rw[hFi]; exact h
    rw[h2]
    refine Wz [5,48,30,110,4,88,55] ?_
    exact Xn J J J J J (Ur [] J J J)
   ·have h2:Fi=false:=by rw[hFi]; exact h
    rw[h2]
    refine Wz [25,30,110,85] ?_
    exact Xn J J J J J (Ur [] J J J)
 ·have fJ:decide (((i.toNat &&& (4:Int).toNat:Nat):Int)≠0)=false:=by simpa[pressed] using hJ
  rw[show pressed i 4=false by simpa using hJ]
  refine Wz [14,14,300,1,246,159,1,127,73,16,102,23,21,123,247,48,75,195,131,80,190,42,6] ?_
  refine Xb J (fun h => ?_) (fun h => ?_)
  ·have h2:Fi=true:=by rw[hFi]; exact h
   rw[h2]
   refine Wz [5,48,30,110,4,88,55] ?_
   exact Xn J J J J J (Ur [] J J J)
  ·have h2:Fi=false:=by rw[hFi]; exact h
   rw[h2]
   refine Wz [25,30,110,85] ?_
   exact Xn J J J J J (Ur [] J J J)
theorem S_l02Steer (l:TLevel) (b:TBody) (i:Int) (hg:Enc.gd l) (hl:levelOk l=true) (hk:b.Kind=0) (hi:0≤i∧i≤15) (ht:0≤b.Timer∧b.Timer≤20) (hv : -15≤b.VY∧b.VY≤15) (hp:solidM l b.X b.Y 12=false):Con Tryz.prog 279 [] [ag l,ag b,ai i] [] (.tu [.ag ((Enc.e (steer l b i).1).map (V1.rd [])),.c (bv (steer l b i).2)]):=by
 obtain⟨⟨px1,px2⟩,⟨py1,py2⟩⟩:=Zd hl (by decide) hp
 have cs:=S_l02Solid l b.X (b.Y+1) 12 hl ⟨by omega,by omega⟩ ⟨by omega,by omega⟩ (by decide) (by decide)
 have cz:Con Tryz.prog 264 [] [ai b.Kind] [] (I 12):=by rw[hk]; exact S_SizeOf 0
 obtain⟨T,hT⟩:∃ T,T=(if 0<b.Timer then b.Timer-1 else b.Timer):=⟨_,rfl⟩
 have hT1:0≤T∧T≤20:=by rw[hT]; split <;> omega
 obtain⟨R,hR⟩:∃ R,R=(pressed i 2 && !pressed i 1):=⟨_,rfl⟩
 obtain⟨Lf,hLf⟩:∃ Lf,Lf=(pressed i 1 && !pressed i 2):=⟨_,rfl⟩
 rw[steer,←hT,←hR,←hLf]
 refine Con.of Tryz.func279 J Tryz.ntmps279 J (fun E => ?_)
 refine Wz [144,46,4,31,234,6] ?_
 refine A_join (⟨68,[(2,I i),(3,.o (.c (.ptr 0 0))),(4,.o (.c (.ptr 1 0))),(6,.o (.c (.ptr 2 0)))],[.box ((Enc.e l).map (V1.rd [])),.box (stB b.Kind b.Owner b.X b.Y b.VX b.VY b.Aim b.Life T),.box (stB 0 0 0 0 0 0 0 0 0)]⟩:St) ?_ ?_
 ·refine Xb rfl (fun h => ?_) (fun h => ?_)
  ·have h:=Gqc h
   have hT2:b.Timer-1=T:=by rw[hT,if_pos h]
   refine Wz [23,21,51,151,89] ?_
   exact Mid.n (by rw[←hT2]; exact Ux [0,1,2])
  ·have h:=Gqd h
   have hT2:b.Timer=T:=by rw[hT,if_neg h]
   refine Qh ?_
   exact Mid.n (by rw[←hT2]; exact Ux [0,1,2])
 refine Wz [5,48,75,195,131,0,169] ?_;refine zx (Qt.grdT J J J (.hit .stop) (fun hgrd=>Zg J J J J (by omega))) J ?_;refine Wz [190,42,6] ?_
 refine A_join (⟨68,[(2,I i),(3,.o (.c (.ptr 0 0))),(4,.o (.c (.ptr 1 0))),(6,.o (.c (.ptr 2 0)))],[.box ((Enc.e l).map (V1.rd [])),.box (stB b.Kind b.Owner b.X b.Y (if R=true then 3 else 0) b.VY (if R=true then 1 else b.Aim) b.Life T),.box (stB 0 0 0 0 0 0 0 0 0)]⟩:St) ?_ ?_
 ·refine Xb rfl (fun h => ?_) (fun h => ?_)
  ·have h2:R=true:=by rw[hR]; exact steer_and h
   refine Wz [5,48,23,151,89] ?_
   exact Mid.n (by rw[if_pos h2,if_pos h2]; exact Ux [0,1,2])
  ·have h2:¬R=true:=by rw[hR]; intro q; exact Gxw (Eq.trans (steer_no h).symm q)
   refine Qh ?_
   exact Mid.n (by rw[if_neg h2,if_neg h2]; exact Ux [0,1,2])
 refine Wz [75,195,131,0,169] ?_;refine zx (Qt.grdT J J J (.hit .stop) (fun hgrd=>Zg J J J J (by omega))) J ?_;refine Wz [190,42,6] ?_
 refine A_join (⟨68,[(2,I i),(3,.o (.c (.ptr 0 0))),(4,.o (.c (.ptr 1 0))),(6,.o (.c (.ptr 2 0)))],[.box ((Enc.e l).map (V1.rd [])),.box (stB b.Kind b.Owner b.X b.Y (if Lf=true then -3 else if R=true then 3 else 0) b.VY (if Lf=true then -1 else if R=true then 1 else b.Aim) b.Life T),.box (stB 0 0 0 0 0 0 0 0 0)]⟩:St) ?_ ?_
 ·refine Xb rfl (fun h => ?_) (fun h => ?_)
  ·have h2:Lf=true:=by rw[hLf]; exact steer_and h
   refine Wz [5,48,23,151,89] ?_
   exact Mid.n (by rw[if_pos h2,if_pos h2]; exact Ux [0,1,2])
  ·have h2:¬Lf=true:=by rw[hLf]; intro q; exact Gxw (Eq.trans (steer_no h).symm q)
   refine Qh ?_
   exact Mid.n (by rw[if_neg h2,if_neg h2]; exact Ux [0,1,2])
 obtain⟨vx,hvx⟩:∃ vx,vx=(if Lf=true then -3 else if R=true then 3 else 0):=⟨_,rfl⟩
 obtain⟨am,ham⟩:∃ am,am=(if Lf=true then -1 else if R=true then 1 else b.Aim):=⟨_,rfl⟩
 rw[←hvx,←ham]
 obtain⟨Fi,hFi⟩:∃ Fi,Fi=(pressed i 8&&decide (T=0)):=⟨_,rfl⟩
 rw[←hFi]
 by_cases hJ:pressed i 4=true
 ·have fJ:decide (((i.toNat &&& (4:Int).toNat:Nat):Int)≠0)=true:=hJ
  cases hs:solidM l b.X (b.Y+1) 12 with
  | true =>
   rw[hs] at cs
   rw[hJ]
   refine Wz [14,14] ?_;refine Xi u8_17 u8_18 u8_19 J ?_;refine Wz [1,246,159,1,177,27,27,220,27] ?_;refine Kw (Qt.yes J J J (Qj J J (cz) J)) J ?_;refine Wz [273,96,16,11,23,48,75,195,131,80,190,42,6] ?_
   refine Xb J (fun h => ?_) (fun h => ?_)
   ·have h2:Fi=true:=by rw[hFi]; exact h
    rw[h2]
    refine Wz [5,48,30,110,4,88,55] ?_
    exact Xn J J J J J (Ur [] J J J)
   ·have h2:Fi=false:=by rw[hFi]; exact h
    rw[h2]
    refine Wz [25,30,110,85] ?_
    exact Xn J J J J J (Ur [] J J J)
  | false =>
   rw[hs] at cs
   rw[hJ]
   refine Wz [14,14] ?_;refine Xi u8_17 u8_18 u8_19 J ?_;refine Wz [1,246,159,1,177,27,27,220,27] ?_;refine Kw (Qt.yes J J J (Qj J J (cz) J)) J ?_;refine Wz [273,96,16,102,23,21,123,247,48,75,195,131,80,190,42,6] ?_
   refine Xb J (fun h => ?_) (fun h => ?_)
   ·have h2:Fi=true:=by rw[hFi]; exact h
    rw[h2]
    refine Wz [5,48,30,110,4,88,55] ?_
    exact Xn J J J J J (Ur [] J J J)
   ·have h2:Fi=false:=by rw[hFi]; exact h
    rw[h2]
    refine Wz [25,30,110,85] ?_
    exact Xn J J J J J (Ur [] J J J)
 ·have fJ:decide (((i.toNat &&& (4:Int).toNat:Nat):Int)≠0)=false:=by simpa[pressed] using hJ
  rw[show pressed i 4=false by simpa using hJ]
  refine Wz [14,14] ?_;refine Xi u8_17 u8_18 u8_19 J ?_;refine Wz [1,246,159,1,127,240,73,16,102,23,21,123,247,48,75,195,131,80,190,42,6] ?_
  refine Xb J (fun h => ?_) (fun h => ?_)
  ·have h2:Fi=true:=by rw[hFi]; exact h
   rw[h2]
   refine Wz [5,48,30,110,4,88,55] ?_
   exact Xn J J J J J (Ur [] J J J)
  ·have h2:Fi=false:=by rw[hFi]; exact h
   rw[h2]
   refine Wz [25,30,110,85] ?_
   exact Xn J J J J J (Ur [] J J J)
end
section
open Go.RowKit

theorem Kh {hit:Int→Bool} {step:Int}:∀ (n:Nat) (x:Int),hit x=false→hit (slide hit step n x).1=false
 |0,x,h=>h
 |n+1,x,h=>by
  rw[slide]
  split
  ·exact h
  ·exact Kh n (x+step) (by rename_i q; simpa using q)
section
variable {P:Program} {E:Env} {st st':St}
theorem A_joinb {c d:Code} {id:Nat} {Q Q':Exit→St→Prop} (st':St) (h1:AWP P E c (blk id (Mid st')) st) (h2:AWP P E d Q' st'):AWP P E c (blk id (thn (AWP P E d Q') Q)) st :=
 AWP.mono (fun e s h=>by
  have hh:=h.h
  cases e with
  |normal=>obtain⟨_,hw⟩:=hh.h; exact⟨⟨AWP.weak hw h2⟩⟩
  | exit id' =>
   by_cases hi:id'=id
   ·subst hi
    have hh:(if id'=id' then Mid st' .normal s else Mid st' (.exit id') s):=hh
    rw[if_pos rfl] at hh
    obtain⟨_,hw⟩:=hh.h
    exact Xl (Q0 (AWP.weak hw h2))
   ·have hh:(if id'=id then Mid st' .normal s else Mid st' (.exit id') s):=hh
    rw[if_neg hi] at hh
    obtain⟨he,_⟩:=hh.h
    cases he
  |goto l=>obtain⟨he,_⟩:=Mid.h hh; cases he
  |ret=>obtain⟨he,_⟩:=Mid.h hh; cases he
  |panic c=>obtain⟨he,_⟩:=Mid.h hh; cases he
  |outgrown=>obtain⟨he,_⟩:=Mid.h hh; cases he) h1
end
theorem I_MoveBody (l:TLevel) (b:TBody) (hg:Enc.gd l) (hl:levelOk l=true) (hk:0≤b.Kind∧b.Kind≤2) (hp:solidM l b.X b.Y (sizeOf b.Kind)=false) (hx : -15≤b.VX∧b.VX≤15) (hy : -15≤b.VY∧b.VY≤15):Con Tryz.prog 288 [] [ag l,ag b] [] (.tu [.ag ((Enc.e (moveM l b).1).map (V1.rd [])),.c (bv (moveM l b).2)]):=by
 obtain⟨s4,s12⟩:=size_pos hk
 obtain⟨s,hs⟩:∃ s,s=sizeOf b.Kind:=⟨_,rfl⟩
 rw[←hs] at s4 s12 hp
 have cz:=I_SizeOf b.Kind
 rw[←hs] at cz
 obtain⟨⟨px1,px2⟩,⟨py1,py2⟩⟩:=Zd hl ⟨by omega,by omega⟩ hp
 obtain⟨X1,b1,hR⟩:∃ X1 b1,(X1,b1)=moveX l b:=⟨_,_,rfl⟩
 obtain⟨Y1,b2,hS⟩:∃ Y1 b2,(Y1,b2)=moveY l b:=⟨_,_,rfl⟩
 obtain⟨N,hN⟩:∃ N,N=b.VX.natAbs:=⟨_,rfl⟩
 obtain⟨M,hM⟩:∃ M,M=b.VY.natAbs:=⟨_,rfl⟩
 obtain⟨d,hd⟩:∃ d,d=dirOf b.VX:=⟨_,rfl⟩
 obtain⟨e,he⟩:∃ e,e=dirOf b.VY:=⟨_,rfl⟩
 have hd1 : -1≤d∧d≤1:=by rw[hd,dirOf]; split <;> omega
 have he1 : -1≤e∧e≤1:=by rw[he,dirOf]; split <;> omega
 have hR1:slide (fun z=>solidM l z b.Y s) d (N-0) b.X=(X1,b1):=by rw[hs,hd,hN]; exact hR.symm
 have hR2:slide (fun z=>solidM l X1 z s) e (M-0) b.Y=(Y1,b2):=by rw[show X1=(moveX l b).1 by rw[←hR],hs,he,hM]; exact hS.symm
 have hp2:solidM l X1 b.Y s=false:=by have h:=Kh (hit:=fun z=>solidM l z b.Y s) (step:=d) (N-0) b.X hp; rw[hR1] at h; exact h
 have hmm:moveM l b=(⟨b.Kind,b.Owner,X1,Y1,if b1=true then 0 else b.VX,if b2=true then 0 else b.VY,b.Aim,b.Life,b.Timer⟩,b1 || b2):=by rw[moveM,←hR,←hS]
 rw[hmm]
 have hNb:N≤15:=by omega
 have hMb:M≤15:=by omega
 have ca:=I_SolidAt l b.X b.Y s hg ⟨by omega,by omega⟩ ⟨by omega,by omega⟩
 rw[solidAt_eq hl ⟨by omega,by omega⟩,hp] at ca
 have c1:=Xr b.VX (-15) 15
 have c2:=Xr b.VY (-15) 15
 rw[Yq.2 hx] at c1
 rw[Yq.2 hy] at c2
 have d1:=I_direction b.VX hx
 have d2:=I_direction b.VY hy
 rw[←hd,←hN] at d1
 rw[←he,←hM] at d2
 refine Con.of Tryz.func288 J Tryz.ntmps288 J (fun E => ?_)
 refine Wz [144,46,4,29] ?_;refine zx (Qj J J (cz) J) J ?_;refine Wz [4,93,21,21,0] ?_;refine zx (Qj J J (ca) J) J ?_;refine Wz [9,31] ?_;refine zx (Qj J J (c1) J) J ?_;refine Wz [2,58] ?_;refine zx (Qj J J (c2) J) J ?_;refine Wz [3,2,7,9,22,29] ?_;refine M1 (Zl J J (d1) J J J) J J ?_;refine Wz [219,165,165,87,4,26] ?_
 refine A_joinb (⟨88,[(2,.o (.c (.ptr 0 0))),(3,.o (.c (.ptr 1 0))),(4,.o (.c (.ptr 2 0))),(6,I s),(7,B b1)],[.box ((Enc.e l).map (V1.rd [])),.box (stB b.Kind b.Owner X1 b.Y (if b1=true then 0 else b.VX) b.VY b.Aim b.Life b.Timer),.box (stB 0 0 0 0 0 0 0 0 0)]⟩:St) ?_ ?_
 ·skip
  refine Xj (fun m__ st=>∃ (k:Nat) (x:Int),N-k=m__∧(k≤N∧solidM l x b.Y s=false∧slide (fun z=>solidM l z b.Y s) d (N-k) x=(X1,b1))∧st=(⟨_,[(2,.o (.c (.ptr 0 0))),(3,.o (.c (.ptr 1 0))),(4,.o (.c (.ptr 2 0))),(6,I s),(7,B false),(8,I d),(9,I N),(10,I k)],[.box ((Enc.e l).map (V1.rd [])),.box (stB b.Kind b.Owner x b.Y b.VX b.VY b.Aim b.Life b.Timer),.box (stB 0 0 0 0 0 0 0 0 0)]⟩:St)) _ ⟨_,⟨0,b.X,J,⟨by omega,hp,hR1⟩,J⟩,Ux [0,1,2]⟩ ?_
  rintro m_A _ ⟨k,x,hk_A,hp_A,rfl⟩
  obtain⟨hkn,hfr,hsl⟩:=hp_A
  obtain⟨⟨qx1,qx2⟩,_⟩:=Zd hl ⟨by omega,by omega⟩ hfr
  by_cases hlt:k<N
  ·have hb:decide ((k:Int)<N)=true:=Gqb (by omega)
   have cs:=I_solid l (x+d) b.Y s hl ⟨by omega,by omega⟩ ⟨by omega,by omega⟩ (by omega) (by omega)
   obtain⟨m,hm⟩:∃ m,N-k=m+1:=⟨N-k-1,by omega⟩
   cases hh:solidM l (x+d) b.Y s with
   |true =>
    rw[hh] at cs
    rw[hm,slide_hit (hit:=fun z=>solidM l z b.Y s) hh] at hsl
    obtain⟨rfl,rfl⟩:=Prod.mk.inj hsl
    refine Wz [13,59,8,93,21,95,21,0,221,11,5,48,22,274,248,275,145] ?_
    exact Mid.n (Ux [0,1,2])
   |false =>
    rw[hh] at cs
    rw[hm,slide_go (hit:=fun z=>solidM l z b.Y s) hh] at hsl
    refine Wz [13,59,8,93,21,95,21,0,221,9,23,21,95,151,121] ?_
    refine⟨_,(by omega),_,⟨k+1,x+d,J,⟨by omega,hh,by rw[show N-(k+1)=m by omega]; exact hsl⟩,J⟩,Ux [0,1,2]⟩
  ·have hb:decide ((k:Int)<N)=false:=Gqa (by omega)
   rw[show N-k=0 by omega,slide] at hsl
   obtain⟨rfl,rfl⟩:=Prod.mk.inj hsl
   refine Wz [13,15,102,150] ?_
   exact Mid.n (Ux [0,1,2])
 refine Wz [29] ?_;refine M1 (Zl J J (d2) J J J) J J ?_;refine Wz [219,165,165,87,4,26] ?_
 refine A_joinb (⟨88,[(2,.o (.c (.ptr 0 0))),(3,.o (.c (.ptr 1 0))),(4,.o (.c (.ptr 2 0))),(6,I s),(7,B (b1 || b2))],[.box ((Enc.e l).map (V1.rd [])),.box (stB b.Kind b.Owner X1 Y1 (if b1=true then 0 else b.VX) (if b2=true then 0 else b.VY) b.Aim b.Life b.Timer),.box (stB 0 0 0 0 0 0 0 0 0)]⟩:St) ?_ ?_
 ·skip
  refine Xj (fun m__ st=>∃ (k:Nat) (y:Int),M-k=m__∧(k≤M∧solidM l X1 y s=false∧slide (fun z=>solidM l X1 z s) e (M-k) y=(Y1,b2))∧st=(⟨_,[(2,.o (.c (.ptr 0 0))),(3,.o (.c (.ptr 1 0))),(4,.o (.c (.ptr 2 0))),(6,I s),(7,B b1),(8,I e),(9,I M),(11,I k)],[.box ((Enc.e l).map (V1.rd [])),.box (stB b.Kind b.Owner X1 y (if b1=true then 0 else b.VX) b.VY b.Aim b.Life b.Timer),.box (stB 0 0 0 0 0 0 0 0 0)]⟩:St)) _ ⟨_,⟨0,b.Y,J,⟨by omega,hp2,hR2⟩,J⟩,Ux [0,1,2]⟩ ?_
  rintro m_B _ ⟨k,y,hk_B,hp_B,rfl⟩
  obtain⟨hkn,hfr,hsl⟩:=hp_B
  obtain⟨_,⟨qx1,qx2⟩⟩:=Zd hl ⟨by omega,by omega⟩ hfr
  by_cases hlt:k<M
  ·have hb:decide ((k:Int)<M)=true:=Gqb (by omega)
   have cs:=I_solid l X1 (y+e) s hl ⟨by omega,by omega⟩ ⟨by omega,by omega⟩ (by omega) (by omega)
   obtain⟨m,hm⟩:∃ m,M-k=m+1:=⟨M-k-1,by omega⟩
   cases hh:solidM l X1 (y+e) s with
   |true =>
    rw[hh] at cs
    rw[hm,slide_hit (hit:=fun z=>solidM l X1 z s) hh] at hsl
    obtain⟨rfl,rfl⟩:=Prod.mk.inj hsl
    refine Wz [13,59,8,93,21,21,95,0,221,11,5,48,22,274,248,275,145] ?_
    exact Mid.n (Up [0,1,2] J (by kernel_rfl) (.c J (.c J (.c J (.c J (.cons (by cases b1 <;> rfl) (.nil)))))))
   |false =>
    rw[hh] at cs
    rw[hm,slide_go (hit:=fun z=>solidM l X1 z s) hh] at hsl
    refine Wz [13,59,8,93,21,21,95,0,221,9,23,21,95,151,121] ?_
    refine⟨_,(by omega),_,⟨k+1,y+e,J,⟨by omega,hh,by rw[show M-(k+1)=m by omega]; exact hsl⟩,J⟩,Ux [0,1,2]⟩
  ·have hb:decide ((k:Int)<M)=false:=Gqa (by omega)
   rw[show M-k=0 by omega,slide] at hsl
   obtain⟨rfl,rfl⟩:=Prod.mk.inj hsl
   refine Wz [13,15,102,150] ?_
   exact Mid.n (Up [0,1,2] J (by kernel_rfl) (.c J (.c J (.c J (.c J (.cons (by cases b1 <;> rfl) (.nil)))))))
 refine Wz [30,0,110,85] ?_
 exact Xn J J J J J (Ur [] J J J)
theorem S_l02Move (l:TLevel) (b:TBody) (hg:Enc.gd l) (hl:levelOk l=true) (hk:0≤b.Kind∧b.Kind≤2) (hp:solidM l b.X b.Y (sizeOf b.Kind)=false) (hx : -15≤b.VX∧b.VX≤15) (hy : -15≤b.VY∧b.VY≤15):Con Tryz.prog 281 [] [ag l,ag b] [] (.tu [.ag ((Enc.e (moveM l b).1).map (V1.rd [])),.c (bv (moveM l b).2)]):=by
 obtain⟨s4,s12⟩:=size_pos hk
 obtain⟨s,hs⟩:∃ s,s=sizeOf b.Kind:=⟨_,rfl⟩
 rw[←hs] at s4 s12 hp
 have cz:=S_SizeOf b.Kind
 rw[←hs] at cz
 obtain⟨⟨px1,px2⟩,⟨py1,py2⟩⟩:=Zd hl ⟨by omega,by omega⟩ hp
 obtain⟨X1,b1,hR⟩:∃ X1 b1,(X1,b1)=moveX l b:=⟨_,_,rfl⟩
 obtain⟨Y1,b2,hS⟩:∃ Y1 b2,(Y1,b2)=moveY l b:=⟨_,_,rfl⟩
 obtain⟨N,hN⟩:∃ N,N=b.VX.natAbs:=⟨_,rfl⟩
 obtain⟨M,hM⟩:∃ M,M=b.VY.natAbs:=⟨_,rfl⟩
 obtain⟨d,hd⟩:∃ d,d=dirOf b.VX:=⟨_,rfl⟩
 obtain⟨e,he⟩:∃ e,e=dirOf b.VY:=⟨_,rfl⟩
 have hd1 : -1≤d∧d≤1:=by rw[hd,dirOf]; split <;> omega
 have he1 : -1≤e∧e≤1:=by rw[he,dirOf]; split <;> omega
 have hR1:slide (fun z=>solidM l z b.Y s) d (N-0) b.X=(X1,b1):=by rw[hs,hd,hN]; exact hR.symm
 have hR2:slide (fun z=>solidM l X1 z s) e (M-0) b.Y=(Y1,b2):=by rw[show X1=(moveX l b).1 by rw[←hR],hs,he,hM]; exact hS.symm
 have hp2:solidM l X1 b.Y s=false:=by have h:=Kh (hit:=fun z=>solidM l z b.Y s) (step:=d) (N-0) b.X hp; rw[hR1] at h; exact h
 have hmm:moveM l b=(⟨b.Kind,b.Owner,X1,Y1,if b1=true then 0 else b.VX,if b2=true then 0 else b.VY,b.Aim,b.Life,b.Timer⟩,b1 || b2):=by rw[moveM,←hR,←hS]
 rw[hmm]
 have hNb:N≤15:=by omega
 have hMb:M≤15:=by omega
 refine Con.of Tryz.func281 J Tryz.ntmps281 J (fun E => ?_)
 refine Wz [144,46,4,29] ?_;refine zx (Qj J J (cz) J) J ?_;refine Wz [4,22,22,29,66,63] ?_
 refine A_join (⟨65,[(2,.o (.c (.ptr 0 0))),(3,.o (.c (.ptr 1 0))),(4,.o (.c (.ptr 2 0))),(6,I s),(7,B false),(8,I d),(9,I N)],[.box ((Enc.e l).map (V1.rd [])),.box (stB b.Kind b.Owner b.X b.Y b.VX b.VY b.Aim b.Life b.Timer),.box (stB 0 0 0 0 0 0 0 0 0)]⟩:St) ?_ ?_
 ·refine Xb rfl (fun h => ?_) (fun h => ?_)
  ·have h:=Gqc h
   obtain rfl:d = -1:=by rw[hd,dirOf,if_pos h]
   have hq:(N:Int) = -b.VX:=by omega
   refine Wz [22,23,0,299,87,89] ?_
   exact Mid.n (Up [0,1,2] J (by kernel_rfl) (.c J (.c J (.c J (.c J (.c J (.c J (.cons (by rw[hq]; rfl) (.nil)))))))))
  ·have h:=Gqd h
   obtain rfl:d=1:=by rw[hd,dirOf,if_neg h]
   have hq:(N:Int)=b.VX:=by omega
   refine Qh ?_
   exact Mid.n (Up [0,1,2] J (by kernel_rfl) (.c J (.c J (.c J (.c J (.c J (.c J (.cons (by rw[hq]; rfl) (.nil)))))))))
 refine Wz [212] ?_
 refine A_joinb (⟨65,[(2,.o (.c (.ptr 0 0))),(3,.o (.c (.ptr 1 0))),(4,.o (.c (.ptr 2 0))),(6,I s),(7,B b1)],[.box ((Enc.e l).map (V1.rd [])),.box (stB b.Kind b.Owner X1 b.Y (if b1=true then 0 else b.VX) b.VY b.Aim b.Life b.Timer),.box (stB 0 0 0 0 0 0 0 0 0)]⟩:St) ?_ ?_
 ·skip
  refine Xj (fun m__ st=>∃ (k:Nat) (x:Int),N-k=m__∧(k≤N∧solidM l x b.Y s=false∧slide (fun z=>solidM l z b.Y s) d (N-k) x=(X1,b1))∧st=(⟨_,[(2,.o (.c (.ptr 0 0))),(3,.o (.c (.ptr 1 0))),(4,.o (.c (.ptr 2 0))),(6,I s),(7,B false),(8,I d),(9,I ((N:Int)-k))],[.box ((Enc.e l).map (V1.rd [])),.box (stB b.Kind b.Owner x b.Y b.VX b.VY b.Aim b.Life b.Timer),.box (stB 0 0 0 0 0 0 0 0 0)]⟩:St)) _ ⟨(fun (k:Nat) (x:Int)=>(⟨_,[(2,.o (.c (.ptr 0 0))),(3,.o (.c (.ptr 1 0))),(4,.o (.c (.ptr 2 0))),(6,I s),(7,B false),(8,I d),(9,I ((N:Int)-k))],[.box ((Enc.e l).map (V1.rd [])),.box (stB b.Kind b.Owner x b.Y b.VX b.VY b.Aim b.Life b.Timer),.box (stB 0 0 0 0 0 0 0 0 0)]⟩:St)) (0) (b.X),⟨0,b.X,J,⟨by omega,hp,hR1⟩,J⟩,Up [0,1,2] J (by kernel_rfl) (.c J (.c J (.c J (.c J (.c J (.c J (.cons (by rw[show ((N:Int)-((0:Nat):Int))=(N:Int) by omega]; rfl) (.nil))))))))⟩ ?_
  rintro m_A _ ⟨k,x,hk_A,hp_A,rfl⟩
  obtain⟨hkn,hfr,hsl⟩:=hp_A
  obtain⟨⟨qx1,qx2⟩,_⟩:=Zd hl ⟨by omega,by omega⟩ hfr
  by_cases hlt:k<N
  ·have hb:decide ((0:Int)<(N:Int)-k)=true:=Gqb (by omega)
   have cs:=S_l02Solid l (x+d) b.Y s hl ⟨by omega,by omega⟩ ⟨by omega,by omega⟩ (by omega) (by omega)
   obtain⟨m,hm⟩:∃ m,N-k=m+1:=⟨N-k-1,by omega⟩
   cases hh:solidM l (x+d) b.Y s with
   |true =>
    rw[hh] at cs
    rw[hm,slide_hit (hit:=fun z=>solidM l z b.Y s) hh] at hsl
    obtain⟨rfl,rfl⟩:=Prod.mk.inj hsl
    refine Wz [75,126,11,8,93,21,95,21,0,221,11,5,48,22,274,248,275,145] ?_
    exact Mid.n (Ux [0,1,2])
   |false =>
    rw[hh] at cs
    rw[hm,slide_go (hit:=fun z=>solidM l z b.Y s) hh] at hsl
    refine Wz [75,126,11,8,93,21,95,21,0,221,9,23,21,95,151,89,206,51,4] ?_
    refine⟨_,(by omega),(fun (k:Nat) (x:Int)=>(⟨_,[(2,.o (.c (.ptr 0 0))),(3,.o (.c (.ptr 1 0))),(4,.o (.c (.ptr 2 0))),(6,I s),(7,B false),(8,I d),(9,I ((N:Int)-k))],[.box ((Enc.e l).map (V1.rd [])),.box (stB b.Kind b.Owner x b.Y b.VX b.VY b.Aim b.Life b.Timer),.box (stB 0 0 0 0 0 0 0 0 0)]⟩:St)) (k+1) (x+d),⟨k+1,x+d,J,⟨by omega,hh,by rw[show N-(k+1)=m by omega]; exact hsl⟩,J⟩,Up [0,1,2] J (by kernel_rfl) (.c J (.c J (.c J (.c J (.c J (.c J (.cons (by rw[show ((N:Int)-((k+1:Nat):Int))=(N:Int)-k-1 by omega]; rfl) (.nil))))))))⟩
  ·have hb:decide ((0:Int)<(N:Int)-k)=false:=Gqa (by omega)
   rw[show N-k=0 by omega,slide] at hsl
   obtain⟨rfl,rfl⟩:=Prod.mk.inj hsl
   refine Wz [75,126,102,150] ?_
   exact Mid.n (Ux [0,1,2])
 refine Wz [22,29,66,63] ?_
 refine A_join (⟨65,[(2,.o (.c (.ptr 0 0))),(3,.o (.c (.ptr 1 0))),(4,.o (.c (.ptr 2 0))),(6,I s),(7,B b1),(8,I e),(9,I M)],[.box ((Enc.e l).map (V1.rd [])),.box (stB b.Kind b.Owner X1 b.Y (if b1=true then 0 else b.VX) b.VY b.Aim b.Life b.Timer),.box (stB 0 0 0 0 0 0 0 0 0)]⟩:St) ?_ ?_
 ·refine Xb rfl (fun h => ?_) (fun h => ?_)
  ·have h:=Gqc h
   obtain rfl:e = -1:=by rw[he,dirOf,if_pos h]
   have hq:(M:Int) = -b.VY:=by omega
   refine Wz [22,23,0,299,87,89] ?_
   exact Mid.n (Up [0,1,2] J (by kernel_rfl) (.c J (.c J (.c J (.c J (.c J (.c J (.cons (by rw[hq]; rfl) (.nil)))))))))
  ·have h:=Gqd h
   obtain rfl:e=1:=by rw[he,dirOf,if_neg h]
   have hq:(M:Int)=b.VY:=by omega
   refine Qh ?_
   exact Mid.n (Up [0,1,2] J (by kernel_rfl) (.c J (.c J (.c J (.c J (.c J (.c J (.cons (by rw[hq]; rfl) (.nil)))))))))
 refine Wz [212] ?_
 refine A_joinb (⟨65,[(2,.o (.c (.ptr 0 0))),(3,.o (.c (.ptr 1 0))),(4,.o (.c (.ptr 2 0))),(6,I s),(7,B (b1 || b2))],[.box ((Enc.e l).map (V1.rd [])),.box (stB b.Kind b.Owner X1 Y1 (if b1=true then 0 else b.VX) (if b2=true then 0 else b.VY) b.Aim b.Life b.Timer),.box (stB 0 0 0 0 0 0 0 0 0)]⟩:St) ?_ ?_
 ·skip
  refine Xj (fun m__ st=>∃ (k:Nat) (y:Int),M-k=m__∧(k≤M∧solidM l X1 y s=false∧slide (fun z=>solidM l X1 z s) e (M-k) y=(Y1,b2))∧st=(⟨_,[(2,.o (.c (.ptr 0 0))),(3,.o (.c (.ptr 1 0))),(4,.o (.c (.ptr 2 0))),(6,I s),(7,B b1),(8,I e),(9,I ((M:Int)-k))],[.box ((Enc.e l).map (V1.rd [])),.box (stB b.Kind b.Owner X1 y (if b1=true then 0 else b.VX) b.VY b.Aim b.Life b.Timer),.box (stB 0 0 0 0 0 0 0 0 0)]⟩:St)) _ ⟨(fun (k:Nat) (y:Int)=>(⟨_,[(2,.o (.c (.ptr 0 0))),(3,.o (.c (.ptr 1 0))),(4,.o (.c (.ptr 2 0))),(6,I s),(7,B b1),(8,I e),(9,I ((M:Int)-k))],[.box ((Enc.e l).map (V1.rd [])),.box (stB b.Kind b.Owner X1 y (if b1=true then 0 else b.VX) b.VY b.Aim b.Life b.Timer),.box (stB 0 0 0 0 0 0 0 0 0)]⟩:St)) (0) (b.Y),⟨0,b.Y,J,⟨by omega,hp2,hR2⟩,J⟩,Up [0,1,2] J (by kernel_rfl) (.c J (.c J (.c J (.c J (.c J (.c J (.cons (by rw[show ((M:Int)-((0:Nat):Int))=(M:Int) by omega]; rfl) (.nil))))))))⟩ ?_
  rintro m_B _ ⟨k,y,hk_B,hp_B,rfl⟩
  obtain⟨hkn,hfr,hsl⟩:=hp_B
  obtain⟨_,⟨qx1,qx2⟩⟩:=Zd hl ⟨by omega,by omega⟩ hfr
  by_cases hlt:k<M
  ·have hb:decide ((0:Int)<(M:Int)-k)=true:=Gqb (by omega)
   have cs:=S_l02Solid l X1 (y+e) s hl ⟨by omega,by omega⟩ ⟨by omega,by omega⟩ (by omega) (by omega)
   obtain⟨m,hm⟩:∃ m,M-k=m+1:=⟨M-k-1,by omega⟩
   cases hh:solidM l X1 (y+e) s with
   |true =>
    rw[hh] at cs
    rw[hm,slide_hit (hit:=fun z=>solidM l X1 z s) hh] at hsl
    obtain⟨rfl,rfl⟩:=Prod.mk.inj hsl
    refine Wz [75,126,11,8,93,21,21,95,0,221,11,5,48,22,274,248,275,145] ?_
    exact Mid.n (Up [0,1,2] J (by kernel_rfl) (.c J (.c J (.c J (.c J (.cons (by cases b1 <;> rfl) (.nil)))))))
   |false =>
    rw[hh] at cs
    rw[hm,slide_go (hit:=fun z=>solidM l X1 z s) hh] at hsl
    refine Wz [75,126,11,8,93,21,21,95,0,221,9,23,21,95,151,89,206,51,4] ?_
    refine⟨_,(by omega),(fun (k:Nat) (y:Int)=>(⟨_,[(2,.o (.c (.ptr 0 0))),(3,.o (.c (.ptr 1 0))),(4,.o (.c (.ptr 2 0))),(6,I s),(7,B b1),(8,I e),(9,I ((M:Int)-k))],[.box ((Enc.e l).map (V1.rd [])),.box (stB b.Kind b.Owner X1 y (if b1=true then 0 else b.VX) b.VY b.Aim b.Life b.Timer),.box (stB 0 0 0 0 0 0 0 0 0)]⟩:St)) (k+1) (y+e),⟨k+1,y+e,J,⟨by omega,hh,by rw[show M-(k+1)=m by omega]; exact hsl⟩,J⟩,Up [0,1,2] J (by kernel_rfl) (.c J (.c J (.c J (.c J (.c J (.c J (.cons (by rw[show ((M:Int)-((k+1:Nat):Int))=(M:Int)-k-1 by omega]; rfl) (.nil))))))))⟩
  ·have hb:decide ((0:Int)<(M:Int)-k)=false:=Gqa (by omega)
   rw[show M-k=0 by omega,slide] at hsl
   obtain⟨rfl,rfl⟩:=Prod.mk.inj hsl
   refine Wz [75,126,102,150] ?_
   exact Mid.n (Up [0,1,2] J (by kernel_rfl) (.c J (.c J (.c J (.c J (.cons (by cases b1 <;> rfl) (.nil)))))))
 refine Wz [30,0,110,85] ?_
 exact Xn J J J J J (Ur [] J J J)
end
section
open Go.RowKit

def metC (bs:List TBody) (b:TBody) (o:Int) (k:Nat):Bool:=match bs[k]? with
 |none=>false
 |some p=>(decide ((k:Int)≠o)&&decide (0<p.Life))&&meetM p b
def metF (bs:List TBody) (b:TBody) (o:Int):Nat→Option Nat
 |0=>none
 |n+1=>match metF bs b o n with
  |some k=>some k
  |none=>if metC bs b o n=true then some n else none
def metI (bs:List TBody) (b:TBody) (o:Int) (n:Nat):Int:=match metF bs b o n with
 |some k=>k
 |none => -1
section
variable {bs:List TBody} {b p:TBody} {o:Int} {k n:Nat}
theorem metC_at (h:bs[k]? = some p):metC bs b o k=((decide ((k:Int)≠o)&&decide (0<p.Life))&&meetM p b):=by rw[metC,h]
theorem metF_no (h:metF bs b o k=none) (hc:metC bs b o k=false):metF bs b o (k+1)=none:=by rw[metF,h]; simp[hc]
theorem metF_hit (h:metF bs b o k=none) (hc:metC bs b o k=true):∀ {n:Nat},k<n→metF bs b o n=some k
 | n+1,hlt=>by
  rcases Gqp k n with h1 | h1
  ·rw[metF,metF_hit h hc h1]
  ·have:k=n:=by omega
   subst this
   rw[metF,h]; simp[hc]
theorem metF_lt:∀ {n:Nat},metF bs b o n=some k→k<n∧metC bs b o k=true
 |0,h=>by cases h
 | n+1,h=>by
  rw[metF] at h
  cases hm:metF bs b o n with
  |some j =>
   rw[hm] at h
   cases h
   have:=metF_lt hm
   exact⟨by omega,this.2⟩
  |none =>
   rw[hm] at h
   simp only at h
   split at h
   ·cases h; rename_i hc; exact⟨by omega,hc⟩
   ·cases h
theorem metC_life (h:metC bs b o k=true):∃ p,bs[k]? = some p∧0<p.Life∧(k:Int)≠o∧meetM p b=true:=by
 unfold metC at h
 split at h
 ·cases h
 ·rename_i p hp
  simp only[Gqh,decide_eq_true_eq] at h
  exact⟨p,hp,h.1.2,h.1.1,h.2⟩
end
theorem Yf {α:Type} [Enc α] {xs:List α} {i:Nat} {x:α} (h:xs[i]? = some x):(els xs)[(i:Int).toNat]? = some (Enc.e x):=by simp[els,h]
theorem Kk {α:Type} {xs:List α} {i:Nat} (h:i<xs.length):∃ x,xs[i]? = some x:=⟨xs[i],Gqf h⟩
theorem I_playerMet (w:TWorld) (b:TBody) (o:Int) (hn:w.Scores.length≤w.Bodies.length) (h4:w.Scores.length≤4) (hp:∀ k p,k<w.Scores.length→w.Bodies[k]? = some p→Placed p) (hb:Placed b):Con Tryz.prog 289 [.box [.ref 1,jn w.Tick,jn w.Seed,.ref 2,.ref 3],.row 1 (els w.Level.Rows),.row 1 (els w.Scores),.row 9 (els w.Bodies),.gh 0 (.c (.ptr 0 0)),.gh 6 (.c (.ref 3))] [.c (.ptr 0 0),ag b,ai o] [.box [.ref 1,jn w.Tick,jn w.Seed,.ref 2,.ref 3],.row 1 (els w.Level.Rows),.row 1 (els w.Scores),.row 9 (els w.Bodies),.gh 0 (.c (.ptr 0 0)),.gh 6 (.c (.ref 3))] (I (metI w.Bodies b o w.Scores.length)):=by
 have hls:=Yc w.Scores
 have hlb:=Yc w.Bodies
 refine Con.of Tryz.func289 J Tryz.ntmps289 J (fun E => ?_)
 refine Wz [98,66,50,33,133,76] ?_;refine Xj (fun m st=>∃ k:Nat,k+m=w.Scores.length∧(metF w.Bodies b o k=none)∧st=(⟨_,[(0,.o (.c (.ptr 0 0))),(2,I o),(4,.o (.c (.ptr 6 0))),(12,I (els w.Scores).length),(13,I k)],[.box [.ref 1,jn w.Tick,jn w.Seed,.ref 2,.ref 3],.row 1 (els w.Level.Rows),.row 1 (els w.Scores),.row 9 (els w.Bodies),.gh 0 (.c (.ptr 0 0)),.gh 6 (.c (.ref 3)),.box ((Enc.e b).map (V1.rd []))]⟩:St)) (w.Scores.length) ⟨_,⟨0,by omega,J,J⟩,Ux [0,1,2,3,4,5,6]⟩ ?_
 rintro m_A _ ⟨k,hk_A,hp_A,rfl⟩
 by_cases hlt:k<w.Scores.length
 ·have hb0:decide ((k:Int)<(els w.Scores).length)=true:=Gqb (by omega)
  obtain⟨p,hp1⟩:=Kk (xs:=w.Bodies) (i:=k) (by omega)
  have he:=Yf hp1
  have cm:=I_BodiesMeet p b (hp k p hlt hp1) hb
  have hc:=metC_at (b:=b) (o:=o) hp1
  by_cases h1:(k:Int)=o
  ·have f1:decide ((k:Int)≠o)=false:=Gqa (fun q=>q h1)
   refine Wz [5,15,6,14,82,105,4,14,276,1,1,159,1,127,181,73,1,127,181,73,16,132,100] ?_
   exact⟨w.Scores.length-(k+1),by omega,_,⟨k+1,by omega,metF_no hp_A (by rw[hc,f1]; rfl),J⟩,Ux [0,1,2,3,4,5,6]⟩
  have f1:decide ((k:Int)≠o)=true:=Gqb h1
  by_cases h2:0<p.Life
  ·have f2:decide (0<p.Life)=true:=Gqb h2
   cases h3:meetM p b with
   |false =>
    rw[h3] at cm
    refine Wz [5,15,6,14,82,105,4,14,276,1,1,159,1,37,170,27,37,146,196,167,249,96,1,37,170,27,37,146,277,177] ?_;refine Kw (Qt.yes J J J (Qj J J (cm) J)) J ?_;refine Wz [96,16,132,100] ?_
    exact⟨w.Scores.length-(k+1),by omega,_,⟨k+1,by omega,metF_no hp_A (by rw[hc,h3,Gxo]),J⟩,Ux [0,1,2,3,4,5,6]⟩
   |true =>
    rw[h3] at cm
    refine Wz [5,15,6,14,82,105,4,14,276,1,1,159,1,37,170,27,37,146,196,167,249,96,1,37,170,27,37,146,277,177] ?_;refine Kw (Qt.yes J J J (Qj J J (cm) J)) J ?_;refine Wz [96,16,11,18,4,88,119] ?_
    exact Uq J (Ur [0,1,2,3,4,5] J J (Xs (by rw[metI,metF_hit hp_A (by rw[hc,f1,f2,h3]; rfl) hlt])))
  ·have f2:decide (0<p.Life)=false:=Gqa h2
   refine Wz [5,15,6,14,82,105,4,14,276,1,1,159,1,37,170,27,37,146,196,167,249,96,1,127,181,73,16,132,100] ?_
   exact⟨w.Scores.length-(k+1),by omega,_,⟨k+1,by omega,metF_no hp_A (by rw[hc,f2,Gxo,Bool.false_and]),J⟩,Ux [0,1,2,3,4,5,6]⟩
 ·have hb0:decide ((k:Int)<(els w.Scores).length)=false:=Gqa (by omega)
  have hk:k=w.Scores.length:=by omega
  refine Wz [5,15,6,14,166,38,72] ?_
  exact Uq J (Ur [0,1,2,3,4,5] J J (Xs (by rw[metI,←hk,hp_A])))
theorem S_l02Meets (w:TWorld) (b:TBody) (o:Int) (hn:w.Scores.length≤w.Bodies.length) (h4:w.Scores.length≤4) (hp:∀ k p,k<w.Scores.length→w.Bodies[k]? = some p→Placed p) (hb:Placed b):Con Tryz.prog 302 [.box [.ref 1,jn w.Tick,jn w.Seed,.ref 2,.ref 3],.row 1 (els w.Level.Rows),.row 1 (els w.Scores),.row 9 (els w.Bodies),.gh 0 (.c (.ptr 0 0)),.gh 6 (.c (.ref 3))] [.c (.ptr 0 0),ag b,ai o] [.box [.ref 1,jn w.Tick,jn w.Seed,.ref 2,.ref 3],.row 1 (els w.Level.Rows),.row 1 (els w.Scores),.row 9 (els w.Bodies),.gh 0 (.c (.ptr 0 0)),.gh 6 (.c (.ref 3))] (I (metI w.Bodies b o w.Scores.length)):=by
 have hls:=Yc w.Scores
 have hlb:=Yc w.Bodies
 refine Con.of Tryz.func302 J Tryz.ntmps302 J (fun E => ?_)
 refine Wz [36,26] ?_;refine Xj (fun m st=>∃ k:Nat,k+m=w.Scores.length∧(metF w.Bodies b o k=none)∧st=(⟨_,[(0,.o (.c (.ptr 0 0))),(2,I o),(4,.o (.c (.ptr 6 0))),(7,I k)],[.box [.ref 1,jn w.Tick,jn w.Seed,.ref 2,.ref 3],.row 1 (els w.Level.Rows),.row 1 (els w.Scores),.row 9 (els w.Bodies),.gh 0 (.c (.ptr 0 0)),.gh 6 (.c (.ref 3)),.box ((Enc.e b).map (V1.rd []))]⟩:St)) (w.Scores.length) ⟨_,⟨0,by omega,J,J⟩,Ux [0,1,2,3,4,5,6]⟩ ?_
 rintro m_A _ ⟨k,hk_A,hp_A,rfl⟩
 by_cases hlt:k<w.Scores.length
 ·have hb0:decide ((k:Int)<(els w.Scores).length)=true:=Gqb (by omega)
  obtain⟨p,hp1⟩:=Kk (xs:=w.Bodies) (i:=k) (by omega)
  have he:=Yf hp1
  have cm:=S_BodiesMeet p b (hp k p hlt hp1) hb
  have hc:=metC_at (b:=b) (o:=o) hp1
  by_cases h1:(k:Int)=o
  ·have f1:decide ((k:Int)≠o)=false:=Gqa (fun q=>q h1)
   refine Wz [13,50,33,59,81,278,1,1,159,1,127,181,73,1,127,181,73,16,53] ?_
   exact⟨w.Scores.length-(k+1),by omega,_,⟨k+1,by omega,metF_no hp_A (by rw[hc,f1]; rfl),J⟩,Ux [0,1,2,3,4,5,6]⟩
  have f1:decide ((k:Int)≠o)=true:=Gqb h1
  by_cases h2:0<p.Life
  ·have f2:decide (0<p.Life)=true:=Gqb h2
   cases h3:meetM p b with
   |false =>
    rw[h3] at cm
    refine Wz [13,50,33,59,81,278,1,1,159,1,37,170,27,37,146,196,167,249,96,1,37,170,27,37,146,277,177] ?_;refine Kw (Qt.yes J J J (Qj J J (cm) J)) J ?_;refine Wz [96,16,53] ?_
    exact⟨w.Scores.length-(k+1),by omega,_,⟨k+1,by omega,metF_no hp_A (by rw[hc,h3,Gxo]),J⟩,Ux [0,1,2,3,4,5,6]⟩
   |true =>
    rw[h3] at cm
    refine Wz [13,50,33,59,81,278,1,1,159,1,37,170,27,37,146,196,167,249,96,1,37,170,27,37,146,277,177] ?_;refine Kw (Qt.yes J J J (Qj J J (cm) J)) J ?_;refine Wz [96,16,11,18,4,88,119] ?_
    exact Uq J (Ur [0,1,2,3,4,5] J J (Xs (by rw[metI,metF_hit hp_A (by rw[hc,f1,f2,h3]; rfl) hlt])))
  ·have f2:decide (0<p.Life)=false:=Gqa h2
   refine Wz [13,50,33,59,81,278,1,1,159,1,37,170,27,37,146,196,167,249,96,1,127,181,73,16,53] ?_
   exact⟨w.Scores.length-(k+1),by omega,_,⟨k+1,by omega,metF_no hp_A (by rw[hc,f2,Gxo,Bool.false_and]),J⟩,Ux [0,1,2,3,4,5,6]⟩
 ·have hb0:decide ((k:Int)<(els w.Scores).length)=false:=Gqa (by omega)
  have hk:k=w.Scores.length:=by omega
  refine Wz [13,50,33,15,102,38,72] ?_
  exact Uq J (Ur [0,1,2,3,4,5] J J (Xs (by rw[metI,←hk,hp_A])))
def addM (ss:List Int) (k:Nat):List Int:=match ss[k]? with
 |none=>ss
 |some s=>ss.set k (min (s+1) 1000000)
theorem addM_at {ss:List Int} {k:Nat} {s:Int} (h:ss[k]? = some s):addM ss k=ss.set k (min (s+1) 1000000):=by rw[addM,h]
theorem addM_els {ss:List Int} {k:Nat} {s:Int} (h:ss[k]? = some s):els (addM ss k)=(els ss).set (k:Int).toNat (splice (Enc.e s) 0 [.v (.int .i64 (min (s+1) 1000000))]):=by
 rw[addM_at h,Ye]; rfl
theorem addM_same {ss:List Int} {k:Nat} {s:Int} (h:ss[k]? = some s) (hs:¬s<1000000) (h1:s≤1000000):addM ss k=ss:=by
 rw[addM_at h,show min (s+1) 1000000=s by omega]
 obtain⟨hk,rfl⟩:=Gql.1 h
 exact List.set_getElem_self hk
theorem I_addScore (w:TWorld) (k:Nat) (s:Int) (hs:w.Scores[k]? = some s) (h0:0≤s∧s≤1000000):Con Tryz.prog 290 [.box [.ref 1,jn w.Tick,jn w.Seed,.ref 2,.ref 3],.row 1 (els w.Level.Rows),.row 1 (els w.Scores),.row 9 (els w.Bodies),.gh 0 (.c (.ptr 0 0)),.gh 5 (.c (.ref 3))] [.c (.ptr 0 0),ai k] [.box [.ref 1,jn w.Tick,jn w.Seed,.ref 2,.ref 3],.row 1 (els w.Level.Rows),.row 1 (els (addM w.Scores k)),.row 9 (els w.Bodies),.gh 0 (.c (.ptr 0 0)),.gh 5 (.c (.ref 3))] (.tu []):=by
 have hls:=Yc w.Scores
 have hk:=Yn hs
 have he:=Yf hs
 by_cases h1:s<1000000
 ·have f1:decide (s<1000000)=true:=Gqb h1
  rw[addM_els hs,show min (s+1) 1000000=s+1 by omega]
  refine Con.of Tryz.func290 J Tryz.ntmps290 J (fun E => ?_)
  refine Wz [18,50,0,68,141,59,23,0,50,0,68,141,123,68,112,89,209] ?_
  exact Xo J (Ur [0,1,2,3,4,5] J J J)
 ·have f1:decide (s<1000000)=false:=Gqa h1
  rw[addM_same hs h1 h0.2]
  refine Con.of Tryz.func290 J Tryz.ntmps290 J (fun E => ?_)
  refine Wz [18,50,0,68,141,15,132,209] ?_
  exact Xo J (Ur [0,1,2,3,4,5] J J J)
theorem S_l02Point (w:TWorld) (k:Nat) (s:Int) (hs:w.Scores[k]? = some s) (h0:0≤s∧s≤1000000):Con Tryz.prog 303 [.box [.ref 1,jn w.Tick,jn w.Seed,.ref 2,.ref 3],.row 1 (els w.Level.Rows),.row 1 (els w.Scores),.row 9 (els w.Bodies),.gh 0 (.c (.ptr 0 0)),.gh 5 (.c (.ref 3))] [.c (.ptr 0 0),ai k] [.box [.ref 1,jn w.Tick,jn w.Seed,.ref 2,.ref 3],.row 1 (els w.Level.Rows),.row 1 (els (addM w.Scores k)),.row 9 (els w.Bodies),.gh 0 (.c (.ptr 0 0)),.gh 5 (.c (.ref 3))] (.tu []):=by
 have hls:=Yc w.Scores
 have hk:=Yn hs
 have he:=Yf hs
 rw[addM_els hs]
 refine Con.of Tryz.func303 J Tryz.ntmps303 J (fun E => ?_)
 skip
 refine Xi [[],[0],[0,1],[0,1,2],[],[],[5],[5,6],[5,6,7],[],[5,6,7,8,9],[5,6,7,8,9,10],[5,6,7,8,9,10,11],[5,6,7,8,9,10,11,12],(u9 14),(u9 15)] [[],[4],[4,5],[4,5,6],[],[],[9],[9,10],[9,10,11],[],[9,10,11,12,13],[9,10,11,12,13,14],[9,10,11,12,13,14,15],[9,10,11,12,13,14,15,16],[4,5,6,7,8,9,10,11,12,13,14,15,16,17],[4,5,6,7,8,9,10,11,12,13,14,15,16,17,18]] [[8,9,10,11,12,13,14,15,16,17],[8,9,10,11,12,13,14,15,16,17],[8,9,10,11,12,13,14,15,16,17],[8,9,10,11,12,13,14,15,16,17],[4,5,6,7,9,10,11,12,13,14,15,16,17],[4,5,6,7,8,13],[4,5,6,7,8,13],[4,5,6,7,8,13],[4,5,6,7,8,13],[4,5,6,7,8,9,10,11,12],[4,5,6,7,8],[4,5,6,7,8],[4,5,6,7,8],[4,5,6,7,8],[],[],[0,4]] J ?_;refine Wz [1,117,32,1,1,117,32,1,152,201] ?_;refine Kw (Qs J J J J (by omega)) J (Kw (q_min J J J J) J ?_);refine Wz [152,16,112,89,209] ?_
 exact Xo J (Ur [0,1,2,3,4,5] J J J)
end
section
open Go.RowKit

theorem colSp_len (row:ByteArray) (r:Nat):∀ n,(colSp row r n).length≤n
 |0=>Gqi _
 |n+1=>by have:=colSp_len row r n; rw[colSp]; split <;> simp <;> omega
theorem rowSp_len {rows:List ByteArray} {w:Nat} (hw:∀ (r:Nat) (hr:r<rows.length),(rows[r]).size=w):∀ n,(rowSp rows n).length≤n*w
 |0=>by simp[rowSp]
 | n+1=>by
  have h:=rowSp_len hw n
  rw[rowSp]
  cases hr:rows[n]? with
  |none=>simp only; rw[Nat.add_mul]; omega
  |some row =>
   obtain⟨h1,h2⟩:=Gql.1 hr
   have h3:=colSp_len row n row.size
   have h4:row.size=w:=by rw[←h2]; exact hw n h1
   simp only[Gqv]
   rw[Nat.add_mul]
   omega
def spotsM (l:TLevel):List (List Int):=rowSp l.Rows l.Rows.length
theorem spots_len {l:TLevel} (hl:levelOk l=true):(spotsM l).length≤240:=by
 obtain⟨l3,l12,w,w4,w20,hw⟩:=Yr hl
 have h:=rowSp_len hw l.Rows.length
 have h2:l.Rows.length*w≤12*20:=Nat.mul_le_mul l12 w20
 unfold spotsM
 omega
theorem colSp_at {row:ByteArray} {r:Nat}:∀ {n:Nat} {s:List Int},s∈colSp row r n→∃ c:Nat,c<n∧byteAt row c=111∧s = [(c:Int)*16+4,(r:Int)*16+4]
 |0,s,h=>by simp[colSp] at h
 | n+1,s,h=>by
  rw[colSp] at h
  split at h
  ·rename_i hb
   rcases Gqt.1 h with h | h
   ·obtain⟨c,h1,h2⟩:=colSp_at h; exact⟨c,by omega,h2⟩
   ·exact⟨n,by omega,hb,by simpa using h⟩
  ·obtain⟨c,h1,h2⟩:=colSp_at h; exact⟨c,by omega,h2⟩
theorem rowSp_at {rows:List ByteArray}:∀ {n:Nat} {s:List Int},s∈rowSp rows n→∃ (r c:Nat) (row:ByteArray),r<n∧rows[r]? = some row∧c<row.size∧byteAt row c=111∧s = [(c:Int)*16+4,(r:Int)*16+4]
 |0,s,h=>by simp[rowSp] at h
 | n+1,s,h=>by
  rw[rowSp] at h
  cases hr:rows[n]? with
  |none=>rw[hr] at h; obtain⟨r,c,row,h1,h2⟩:=rowSp_at h; exact⟨r,c,row,by omega,h2⟩
  |some row =>
   rw[hr] at h
   rcases Gqt.1 h with h | h
   ·obtain⟨r,c,row,h1,h2⟩:=rowSp_at h; exact⟨r,c,row,by omega,h2⟩
   ·obtain⟨c,h1,h2⟩:=colSp_at h; exact⟨n,c,row,by omega,hr,h1,h2⟩
theorem sp_hit {row:ByteArray} {r c:Nat} {A:List (List Int)} {x y:Int} (h:byteAt row c=111) (hx:x=(c:Int)*16+4) (hy:y=(r:Int)*16+4):els (A++colSp row r (c+1))=els (A++colSp row r c) ++ [[.sl 1 (els [x,y])]]:=by
 rw[colSp,if_pos h,←Gq6,Ya,hx,hy]; rfl
theorem sp_skip {row:ByteArray} {r c:Nat} (h:¬byteAt row c=111):colSp row r (c+1)=colSp row r c:=by rw[colSp,if_neg h]
theorem sp_row {rows:List ByteArray} {row:ByteArray} {r:Nat} (h:rows[r]? = some row):rowSp rows (r+1)=rowSp rows r++colSp row r row.size:=by rw[rowSp,h]
theorem row2w {a:Ob} {k:Nat} {x y:List (List T)} (h:x=y) : [a,Ob.row k x] = [a,Ob.row k y]:=by rw[h]
theorem I_SpotsOf (l:TLevel) (hg:Enc.gd l) (hl:levelOk l=true):Con Tryz.prog 255 [] [ag l] [.row 1 (els (spotsM l))] (.o (.c (.ref 0))):=by
 have hc:=Xq l hg
 rw[hl] at hc
 have hlr:=Yc l.Rows
 obtain⟨l3,l12,w,w4,w20,hw⟩:=Yr hl
 have hrl:=rowSp_len hw
 refine Con.of Tryz.func255 J Tryz.ntmps255 J (fun E => ?_)
 refine Wz [36,93] ?_;refine zx (Qj J J (hc) J) J ?_;refine Wz [2,9,22,31,10,133,76] ?_
 refine AWP.pre ?_ (W_nil 3 1 J)
 refine Xj (fun m st=>∃ r:Nat,r+m=l.Rows.length∧(True)∧st=(⟨_,[(1,.o (.c (.ptr 0 0))),(3,.o (.c (.ref 1))),(11,L l.Rows),(12,I (els l.Rows).length),(13,I r)],[.box ((Enc.e l).map (V1.rd [])),.row 1 (els (rowSp l.Rows r))]⟩:St)) (l.Rows.length) ⟨_,⟨0,by omega,trivial,J⟩,Ux [0,1]⟩ ?_
 rintro m_A _ ⟨r,hk_A,hp_A,rfl⟩
 by_cases h3:r<l.Rows.length
 ·have hb0:decide ((r:Int)<(els l.Rows).length)=true:=Gqb (by omega)
  have hat:=Yb h3
  have hwr:=hw r h3
  have hrow:=Gqf h3
  generalize l.Rows[r]=row at hat hwr hrow
  have hr1:=hrl r
  have hr2:r*w≤12*20:=Nat.mul_le_mul (by omega) w20
  refine Wz [5,15,6,14,82,105,47,87,4,22,76] ?_;refine Xj (fun m st=>∃ c:Nat,c+m=row.size∧(True)∧st=(⟨_,[(1,.o (.c (.ptr 0 0))),(3,.o (.c (.ref 1))),(4,I r),(5,S row),(6,I c),(11,L l.Rows),(12,I (els l.Rows).length),(13,I r)],[.box ((Enc.e l).map (V1.rd [])),.row 1 (els (rowSp l.Rows r++colSp row r c))]⟩:St)) (row.size) ⟨(fun c:Nat=>(⟨_,[(1,.o (.c (.ptr 0 0))),(3,.o (.c (.ref 1))),(4,I r),(5,S row),(6,I c),(11,L l.Rows),(12,I (els l.Rows).length),(13,I r)],[.box ((Enc.e l).map (V1.rd [])),.row 1 (els (rowSp l.Rows r++colSp row r c))]⟩:St)) 0,⟨0,by omega,trivial,J⟩,Up [0,1] J (row2w (by rw[colSp,Gqw])) (.c J (.c J (.c J (.c J (.c J (.c J (.c J (.c J (.nil)))))))))⟩ ?_
  rintro m_D _ ⟨c,hk_D,hp_D,rfl⟩
  have hcl:=colSp_len row r c
  have hel:=Yc (rowSp l.Rows r++colSp row r c)
  rw[Gqv] at hel
  by_cases h4:c<row.size
  ·have hb1:decide ((c:Int)<row.size)=true:=Gqb (by omega)
   have hbt:=X9 row c
   have hbt2:=X9 row (c:Int).toNat
   by_cases ho:byteAt row c=111
   ·have hb2:decide (byteAt row (c:Int).toNat=111)=true:=Gqb ho
    refine Wz [13,137,59,8,17,256,295,11,23,43,143,123,0,143,123,125] ?_;refine AL.weak (Wk.sbrow (q:=2) (es:=els [(c:Int)*16+4,(r:Int)*16+4]) J J (Gq2 J)) ?_;refine Wz [125,135,99] ?_
    exact⟨row.size-(c+1),by omega,(fun c:Nat=>(⟨_,[(1,.o (.c (.ptr 0 0))),(3,.o (.c (.ref 1))),(4,I r),(5,S row),(6,I c),(11,L l.Rows),(12,I (els l.Rows).length),(13,I r)],[.box ((Enc.e l).map (V1.rd [])),.row 1 (els (rowSp l.Rows r++colSp row r c))]⟩:St)) (c+1),⟨c+1,by omega,trivial,J⟩,Up [0,1] J (row2w (sp_hit ho (by omega) (by omega))) (.c J (.c J (.c J (.c J (.c J (.c J (.c J (.c J (.nil)))))))))⟩
   ·have hb2:decide (byteAt row (c:Int).toNat=111)=false:=Gqa ho
    refine Wz [13,137,59,8,17,163,12,53] ?_
    exact⟨row.size-(c+1),by omega,_,⟨c+1,by omega,trivial,J⟩,(by rw[sp_skip ho]; exact Ux [0,1])⟩
  ·have hb1:decide ((c:Int)<row.size)=false:=Gqa (by omega)
   have hk:c=row.size:=by omega
   refine Wz [13,137,15,102,150,100] ?_
   exact⟨l.Rows.length-(r+1),by omega,_,⟨r+1,by omega,trivial,J⟩,(by rw[sp_row hrow,hk]; exact Ux [0,1])⟩
 ·have hb0:decide ((r:Int)<(els l.Rows).length)=false:=Gqa (by omega)
  have hk:r=l.Rows.length:=by omega
  refine Wz [5,15,6,14,166,54] ?_
  exact Uq J (Ur [1] J (by rw[spotsM,←hk]; rfl) J)
theorem S_SpotsOf (l:TLevel) (hg:Enc.gd l) (hl:levelOk l=true):Con Tryz.prog 284 [] [ag l] [.row 1 (els (spotsM l))] (.o (.c (.ref 0))):=by
 have hc:=S_LevelOk l hg
 rw[hl] at hc
 have hlr:=Yc l.Rows
 obtain⟨l3,l12,w,w4,w20,hw⟩:=Yr hl
 have hrl:=rowSp_len hw
 refine Con.of Tryz.func284 J Tryz.ntmps284 J (fun E => ?_)
 refine Wz [36,5,228,4,26] ?_;refine Xj (fun m st=>∃ r:Nat,r+m=l.Rows.length∧(True)∧st=(⟨_,[(1,.o (.c (.ptr 0 0))),(3,.o (.c (.ref 1))),(4,I r)],[.box ((Enc.e l).map (V1.rd [])),.row 1 (els (rowSp l.Rows r))]⟩:St)) (l.Rows.length) ⟨_,⟨0,by omega,trivial,J⟩,Ux [0,1]⟩ ?_
 rintro m_A _ ⟨r,hk_A,hp_A,rfl⟩
 by_cases h3:r<l.Rows.length
 ·have hb0:decide ((r:Int)<(els l.Rows).length)=true:=Gqb (by omega)
  have hat:=Yb h3
  have hwr:=hw r h3
  have hrow:=Gqf h3
  generalize l.Rows[r]=row at hat hwr hrow
  have hr1:=hrl r
  have hr2:r*w≤12*20:=Nat.mul_le_mul (by omega) w20
  refine Wz [75,21,10,15,79,92,3] ?_;refine zx (Qj J J (hc) J) J ?_;refine Wz [24,11,8,22,76] ?_;refine Xj (fun m st=>∃ c:Nat,c+m=row.size∧(True)∧st=(⟨_,[(1,.o (.c (.ptr 0 0))),(3,.o (.c (.ref 1))),(4,I r),(5,I c)],[.box ((Enc.e l).map (V1.rd [])),.row 1 (els (rowSp l.Rows r++colSp row r c))]⟩:St)) (row.size) ⟨(fun c:Nat=>(⟨_,[(1,.o (.c (.ptr 0 0))),(3,.o (.c (.ref 1))),(4,I r),(5,I c)],[.box ((Enc.e l).map (V1.rd [])),.row 1 (els (rowSp l.Rows r++colSp row r c))]⟩:St)) 0,⟨0,by omega,trivial,J⟩,Up [0,1] J (row2w (by rw[colSp,Gqw])) (.c J (.c J (.c J (.c J (.nil)))))⟩ ?_
  rintro m_D _ ⟨c,hk_D,hp_D,rfl⟩
  have hcl:=colSp_len row r c
  have hel:=Yc (rowSp l.Rows r++colSp row r c)
  rw[Gqv] at hel
  by_cases h4:c<row.size
  ·have hb1:decide ((c:Int)<row.size)=true:=Gqb (by omega)
   have hbt:=X9 row c
   have hbt2:=X9 row (c:Int).toNat
   by_cases ho:byteAt row c=111
   ·have hb2:decide (byteAt row (c:Int).toNat=111)=true:=Gqb ho
    refine Wz [75,21,0,47,137,59,8,62,47,0,256,295,11,23,43,143,123,0,143,123,125] ?_;refine AL.weak (Wk.sbrow (q:=2) (es:=els [16*(c:Int)+4,16*(r:Int)+4]) J J (Gq2 J)) ?_;refine Wz [125,135,99] ?_
    exact⟨row.size-(c+1),by omega,(fun c:Nat=>(⟨_,[(1,.o (.c (.ptr 0 0))),(3,.o (.c (.ref 1))),(4,I r),(5,I c)],[.box ((Enc.e l).map (V1.rd [])),.row 1 (els (rowSp l.Rows r++colSp row r c))]⟩:St)) (c+1),⟨c+1,by omega,trivial,J⟩,Up [0,1] J (row2w (sp_hit ho (by omega) (by omega))) (.c J (.c J (.c J (.c J (.nil)))))⟩
   ·have hb2:decide (byteAt row (c:Int).toNat=111)=false:=Gqa ho
    refine Wz [75,21,0,47,137,59,8,62,47,0,163,12,53] ?_
    exact⟨row.size-(c+1),by omega,_,⟨c+1,by omega,trivial,J⟩,(by rw[sp_skip ho]; exact Ux [0,1])⟩
  ·have hb1:decide ((c:Int)<row.size)=false:=Gqa (by omega)
   have hk:c=row.size:=by omega
   refine Wz [75,21,0,47,137,15,102,150,194] ?_
   exact⟨l.Rows.length-(r+1),by omega,_,⟨r+1,by omega,trivial,J⟩,(by rw[sp_row hrow,hk]; exact Ux [0,1])⟩
 ·have hb0:decide ((r:Int)<(els l.Rows).length)=false:=Gqa (by omega)
  have hk:r=l.Rows.length:=by omega
  refine Wz [75,21,10,15,40,7,102,54] ?_
  exact Uq J (Ur [1] J (by rw[spotsM,←hk]; rfl) J)
end
end Go.Proofs.YtoecjaohdnoenaaGreat
