/-
  Rules, data and contracts of functions: part 26 of the proof.
  Conditions: those that each theorem names.
-/
import Derived.Test.YtalaljeokcpfnaaGreatDDPlayRowk24
set_option linter.unusedSimpArgs false
set_option linter.unusedVariables false
set_option maxRecDepth 8000
set_option maxHeartbeats 8000000
namespace Go.Proofs.YtalaljeokcpfnaaGreat
section
open Tryz
open Go.RowKit

theorem I_NextRandom (s:Int) (h:0≤s∧s≤65535):Co 244 [] [ai s] [] (I (nextR s)):=by
 have f1:decide (s<0)=false:=Gqa Aqa 
 have f2:decide (65535<s)=false:=Gqa Aqa 
 refine Con.o func244 ntmps244 fun E=>?_;refine Wz [95,19,14,111,5,97,144,13,167,36] ?_
 exact E_w [] J (X0 (by rw[nextR,if_pos h]))
theorem and_64k (n:Int) (h:0≤n):((n.toNat &&& (65535:Int).toNat:Nat):Int)=n%65536:=by
 have:=Gx9 n.toNat 16
 rw[show (65535:Int).toNat=2 ^ 16-1 from rfl,this]
 omega
theorem S_NextRandom (s:Int) (h:0≤s∧s≤65535):Co 256 [] [ai s] [] (I (nextR s)):=by
 have hc:=Yg s 0 65535
 rw[Zm.2 h] at hc
 refine Con.o func256 ntmps256 fun E=>?_;refine Wz [95] ?_;refine kc0 hc ?_;refine Wz [6,97,144,13,219,36] ?_
 exact E_w [] J (X0 (by rw[nextR,if_pos h,and_64k _ Aqa]))
theorem I_RandomBelow (s n:Int) (h:0≤s∧s≤65535) (hn:1≤n∧n≤4096):Co 246 [] [ai s,ai n] [] (.tu [.c (jn (nextR s)),.c (jn (belowR s n))]):=by
 have f1:decide (s<0)=false:=Gqa Aqa 
 have f2:decide (65535<s)=false:=Gqa Aqa 
 have f3:decide (n<1)=false:=Gqa Aqa 
 have f4:decide (4096<n)=false:=Gqa Aqa 
 have hc:=I_NextRandom s h
 have hr:=Zz s
 refine Con.o func246 ntmps246 fun E=>?_;refine Wz [3,26,143,14,111,5,14,19,5,14,111,5,97] ?_;refine kc0 hc ?_;refine Wz [16] ?_;refine Xi u8_31 [[],[],[24],[],[24,25,26],[23],(gg [4,1,23,5])] [[24,25,26,27],[4,23,26],[4,23,26],[4,23,24,25],[4,23],[24,25,26,27],[]] J ?_;refine Wz [35] ?_;refine Uq (q_quo J J J J Aqa) J (Uq (Qa J J J) J (Uq (Vn J J J J Aqa) J ?_));refine Wz [162,162,12,1,73] ?_
 exact Bzj
theorem S_RandomBelow (s n:Int) (h:0≤s∧s≤65535) (hn:1≤n∧n≤4096):Co 258 [] [ai s,ai n] [] (.tu [.c (jn (nextR s)),.c (jn (belowR s n))]):=by
 have c1:=Yg s 0 65535
 have c2:=Yg n 1 4096
 rw[Zm.2 h] at c1
 rw[Zm.2 hn] at c2
 have hc:=S_NextRandom s h
 have hr:=Zz s
 refine Con.o func258 ntmps258 fun E=>?_;refine Wz [3,26,40] ?_;refine kc0 c1 ?_;refine Wz [6,14] ?_;refine kc0 c2 ?_;refine Wz [2,6,5,97] ?_;refine kc0 hc ?_;refine Wz [16] ?_;refine Xi u8_31 [[],[],[18],[],[18,19,20],[17],(gg [4,1,17,5])] [[18,19,20,21],[4,17,20],[4,17,20],[4,17,18,19],[4,17],[18,19,20,21],[]] J ?_;refine Wz [35] ?_;refine Uq (q_quo J J J J Aqa) J (Uq (Qa J J J) J (Uq (Vn J J J J Aqa) J ?_));refine Wz [162,162,12,1,73] ?_
 exact Bzj
theorem I_ShotOf (b:TBody) (hx:0≤b.X∧b.X≤1000) (hy:0≤b.Y∧b.Y≤1000) (ha : -1≤b.Aim∧b.Aim≤1):Co 264 [] [ag b] [] (.o (.ag ((Enc.e (shotOf b)).map (V1.rd [])))):=by
 have va_:=@Xy; have vb_:=@func264; have vc_:=@ntmps264; exact Bqm
theorem S_ShotOf (b:TBody) (hx:0≤b.X∧b.X≤1000) (hy:0≤b.Y∧b.Y≤1000) (ha : -1≤b.Aim∧b.Aim≤1):Co 253 [] [ag b] [] (.o (.ag ((Enc.e (shotOf b)).map (V1.rd [])))):=by
 have va_:=@Yg; have vb_:=@func253; have vc_:=@ntmps253; exact Bqm
theorem I_direction (v:Int) (h : -15≤v∧v≤15):Co 273 [] [ai v] [] (.tu [.c (jn (dirOf v)),.c (jn v.natAbs)]):=by
 by_cases hv:v<0
 ·have f1:decide (v<0)=true:=Gqb hv
  refine Con.o func273 ntmps273 fun E=>?_;refine Wz [3,26,143,32,11,288,26,76] ?_
  exact Xq J J J (Yh [] Aqc J J (tu2 (by rw[dirOf,if_pos hv]) Aqa))
 ·have f1:decide (v<0)=false:=Gqa hv
  refine Con.o func273 ntmps273 fun E=>?_;refine Wz [3,26,126,11,26,36] ?_
  exact Xq J J J (Yh [] Aqc J J (tu2 (by rw[dirOf,if_neg hv]) Aqa))
theorem I_BodiesMeet (a b:TBody) (ha:Placed a) (hb:Placed b):Co 274 [] [ag a,ag b] [] (B (meetM a b)):=by
 have sa:=size_pos ha.k
 have sb:=size_pos hb.k
 obtain⟨ax1,ax2⟩:=ha.x
 obtain⟨ay1,ay2⟩:=ha.y
 obtain⟨bx1,bx2⟩:=hb.x
 obtain⟨by1,by2⟩:=hb.y
 have c1:=I_SizeOf a.Kind
 have c2:=I_SizeOf b.Kind
 have f1:decide (sizeOf a.Kind=0)=false:=Gqa Aqa 
 have f2:decide (sizeOf b.Kind=0)=false:=Gqa Aqa 
 have x1:decide (a.X<0)=false:=Gqa Aqa 
 have x2:decide (1000<a.X)=false:=Gqa Aqa 
 have x3:decide (a.Y<0)=false:=Gqa Aqa 
 have x4:decide (1000<a.Y)=false:=Gqa Aqa 
 have x5:decide (b.X<0)=false:=Gqa Aqa 
 have x6:decide (1000<b.X)=false:=Gqa Aqa 
 have x7:decide (b.Y<0)=false:=Gqa Aqa 
 have x8:decide (1000<b.Y)=false:=Gqa Aqa 
 refine Con.o func274 ntmps274 fun E=>?_;refine Wz [43,131,8,18] ?_;refine kc0 c1 ?_;refine Wz [8,18] ?_;refine kc0 c2 ?_;refine Wz [40,20,14,20,5,99,31,31,116] ?_;refine zx (q_lensb J J J) J ?_;refine Wz [138,34] ?_;refine A_lt 4 (fun k => [(2,Aqf 0),(3,Aqf 1),(5,I (sizeOf a.Kind)),(6,I (sizeOf b.Kind)),(29,.o (.c (.sb 2 4 1))),(30,I 4),(31,I k)]) (fun k => [.box (Aqi a),.box (Aqi b),.box [jn a.X,jn a.Y,jn b.X,jn b.Y]]) (Yj [0,1,2] Aqb) ?_
 intro m_A k hk_A
 have hk:k=0∨k=1∨k=2∨k=3∨k=4:=Aqa
 rcases hk with hk | hk | hk | hk | hk
 ·subst hk
  refine Wz [3,289,1,4,117,9,3,225,197,44,19,14,111,5,151,104] ?_
  exact⟨4-(0+1),Aqa,_,⟨0+1,Aqa,trivial,J⟩,Yj [0,1,2] Aqb⟩
 ·subst hk
  refine Wz [3,289,1,4,117,9,3,225,197,44,19,14,111,5,151,104] ?_
  exact⟨4-(1+1),Aqa,_,⟨1+1,Aqa,trivial,J⟩,Yj [0,1,2] Aqb⟩
 ·subst hk
  refine Wz [3,289,1,4,117,9,3,225,197,44,19,14,111,5,151,104] ?_
  exact⟨4-(2+1),Aqa,_,⟨2+1,Aqa,trivial,J⟩,Yj [0,1,2] Aqb⟩
 ·subst hk
  refine Wz [3,289,1,4,117,9,3,225,197,44,19,14,111,5,151,104] ?_
  exact⟨4-(3+1),Aqa,_,⟨3+1,Aqa,trivial,J⟩,Yj [0,1,2] Aqb⟩
 ·subst hk
  refine Wz [3] ?_;refine zx (Qr (b:=false) J J J J Aqc) J ?_;refine Wz [1,4,90,30,173,0,13,160,125,267,268,269,270,271,66,125,267,268,269,270,271,66,125,267,268,269,270,271,66,36] ?_
  exact Bzh
theorem S_BodiesMeet (a b:TBody) (ha:Placed a) (hb:Placed b):Co 275 [] [ag a,ag b] [] (B (meetM a b)):=by
 have sa:=size_pos ha.k
 have sb:=size_pos hb.k
 obtain⟨ax1,ax2⟩:=ha.x
 obtain⟨ay1,ay2⟩:=ha.y
 obtain⟨bx1,bx2⟩:=hb.x
 obtain⟨by1,by2⟩:=hb.y
 have c1:=S_SizeOf a.Kind
 have c2:=S_SizeOf b.Kind
 have c3:=Yg a.X 0 1000
 have c4:=Yg a.Y 0 1000
 have c5:=Yg b.X 0 1000
 have c6:=Yg b.Y 0 1000
 rw[Zm.2 ha.x] at c3
 rw[Zm.2 ha.y] at c4
 rw[Zm.2 hb.x] at c5
 rw[Zm.2 hb.y] at c6
 have f1:decide (sizeOf a.Kind=0)=false:=Gqa Aqa 
 have f2:decide (sizeOf b.Kind=0)=false:=Gqa Aqa 
 refine Con.o func275 ntmps275 fun E=>?_;refine Wz [43,131,8,18] ?_;refine kc0 c1 ?_;refine Wz [8,18] ?_;refine kc0 c2 ?_;refine Wz [40,20,14,20,5,71] ?_;refine kc0 c3 ?_;refine Wz [2,6,5,71] ?_;refine kc0 c4 ?_;refine Wz [2,6,5,71] ?_;refine kc0 c5 ?_;refine Wz [2,6,5,71] ?_;refine kc0 c6 ?_;refine Wz [2,6,5,28,173,0,13,160,125,267,268,269,270,271,66,125,267,268,269,270,271,66,125,267,268,269,270,271,66,36] ?_
 exact Bzh
end
section
open Tryz
open Go.RowKit

theorem Kg {l:TLevel} {x y s:Int} (hl:levelOk l=true) (h1:1≤s∧s≤16) (h:solidM l x y s=false):(0≤x∧x≤400)∧(0≤y∧y≤400):=by
 obtain⟨l3,l12,w,w4,w20,hw⟩:=Zp hl
 have hn:¬hits l x y s:=fun hh=>by rw[V8 hh] at h; cases h
 have:¬(x<0∨y<0∨(w:Int)*16-s<x∨(l.Rows.length:Int)*16-s<y):=fun q=>hn (out_hits hw h1.1 q)
 omega
theorem solidAt_eq {l:TLevel} {x y s:Int} (hl:levelOk l=true) (h1:1≤s∧s≤16):solidAt l x y s=solidM l x y s:=by
 rw[solidAt,Zm.2 h1,hl]; rfl
theorem steer_and {i:Int} {k m:Int} (h:(pressed i k&&decide (((i.toNat &&& m.toNat:Nat):Int)=0))=true):(pressed i k && !pressed i m)=true:=by
 simp only[Gqh,decide_eq_true_eq,Gq6] at h ⊢
 exact⟨h.1,Gqa (fun q=>q h.2)⟩
theorem steer_no {i:Int} {k m:Int} (h:(pressed i k&&decide (((i.toNat &&& m.toNat:Nat):Int)=0))=false):(pressed i k && !pressed i m)=false:=by
 rw[←Gxu] at h ⊢
 intro q
 simp only[Gqh,decide_eq_true_eq,Gq6,pressed,decide_eq_false_iff_not,Classical.not_not] at h q
 exact h q
@[reducible] def stB (K O X Y VX VY A L T:Int):List V1 := [jn K,jn O,jn X,jn Y,jn VX,jn VY,jn A,jn L,jn T]
theorem I_SteerPlayer (l:TLevel) (b:TBody) (i:Int) (hg:Enc.gd l) (hl:levelOk l=true) (gb:Enc.gd b) (hk:b.Kind=0) (ho:0≤b.Owner∧b.Owner≤3) (hf:1≤b.Life) (hi:0≤i∧i≤15) (hb:bodyM l (b.Owner+1) b=true) (ht:0≤b.Timer∧b.Timer≤20) (hv : -15≤b.VY∧b.VY≤15) (hp:solidM l b.X b.Y 12=false):Co 263 [] [ag l,ag b,ai i] [] (.tu [.ag ((Enc.e (steer l b i).1).map (V1.rd [])),.c (bv (steer l b i).2)]):=by
 obtain⟨⟨px1,px2⟩,⟨py1,py2⟩⟩:=Kg hl Aqc hp
 have c1:=Xv l hg
 have c2:=Xy b.Owner 0 3
 have c3:=Xy i 0 15
 have c4:=I_BodyOk l (b.Owner+1) b hg gb Aqa 
 rw[hl] at c1
 rw[Zm.2 ho] at c2
 rw[Zm.2 hi] at c3
 rw[hl,hb] at c4
 have f1:decide (b.Kind≠0)=false:=Gqa (fun q=>q hk)
 have f2:decide (b.Life<1)=false:=Gqa Aqa 
 have cs:=I_SolidAt l b.X (b.Y+1) 12 hg ⟨Aqa,Aqa⟩ ⟨Aqa,Aqa⟩
 rw[solidAt_eq hl Aqc] at cs
 have cz:Co 233 [] [ai 0] [] (I 12):=I_SizeOf 0
 obtain⟨T,hT⟩:∃ T,T=(if 0<b.Timer then b.Timer-1 else b.Timer):=⟨_,rfl⟩
 have hT1:0≤T∧T≤20:=by rw[hT]; split <;> omega
 obtain⟨R,hR⟩:∃ R,R=(pressed i 2 && !pressed i 1):=⟨_,rfl⟩
 obtain⟨Lf,hLf⟩:∃ Lf,Lf=(pressed i 1 && !pressed i 2):=⟨_,rfl⟩
 rw[steer,←hT,←hR,←hLf]
 refine Con.o func263 ntmps263 fun E=>?_;refine Wz [43,131,82,16,7] ?_;refine kc0 c1 ?_;refine Wz [6,71,22,5,71,19,5,71] ?_;refine kc0 c2 ?_;refine Wz [2,6,5,28,41] ?_;refine kc0 c3 ?_;refine Wz [6,21,85,2,112,13,2,85,2] ?_;refine kc0 c4 ?_;refine Wz [2,6,5,135,18,222,1] ?_
 refine A_join (⟨101,[(2,I i),(3,Aqf 0),(4,Aqf 1),(6,Aqf 2)],[.box (Aqi l),.box (stB b.Kind b.Owner b.X b.Y b.VX b.VY b.Aim b.Life T),.box (stB 0 0 0 0 0 0 0 0 0)]⟩:St) ?_ ?_
 ·refine Xb rfl (fun h=>?_) (fun h=>?_)
  ·have h:=Gqc h
   have hT2:b.Timer-1=T:=by rw[hT,if_pos h]
   refine Wz [94,31,29,121,53] ?_
   exact Mid.n Bx0
  ·have h:=Gqd h
   have hT2:b.Timer=T:=by rw[hT,if_neg h]
   refine Qh ?_
   exact Mid.n Bx0
 refine Wz [11,219,150,44,219,150,8,3,52,15,171] ?_;refine zx (Qt.grdT J J J (.hit .stop) (fun hgrd=>Q4 J J J)) J ?_;refine Wz [66,1] ?_
 refine A_join (⟨101,[(2,I i),(3,Aqf 0),(4,Aqf 1),(6,Aqf 2),(8,B (pressed i 1)),(9,B (pressed i 2))],[.box (Aqi l),.box (stB b.Kind b.Owner b.X b.Y (if R=true then 3 else 0) b.VY (if R=true then 1 else b.Aim) b.Life T),.box (stB 0 0 0 0 0 0 0 0 0)]⟩:St) ?_ ?_
 ·refine Xb rfl (fun h=>?_) (fun h=>?_)
  ·have h2:R=true:=by rw[hR]; exact h
   refine Wz [3,52,94,121,53] ?_
   exact Mid.n Bx1
  ·have h2:¬R=true:=by rw[hR]; intro q; exact Gx7 (Eq.trans (h).symm q)
   refine Qh ?_
   exact Mid.n Bx2
 refine Wz [15,171] ?_;refine zx (Qt.grdT J J J (.hit .stop) (fun hgrd=>Q4 J J J)) J ?_;refine Wz [66,1] ?_
 refine A_join (⟨101,[(2,I i),(3,Aqf 0),(4,Aqf 1),(6,Aqf 2),(8,B (pressed i 1)),(9,B (pressed i 2))],[.box (Aqi l),.box (stB b.Kind b.Owner b.X b.Y (if Lf=true then -3 else if R=true then 3 else 0) b.VY (if Lf=true then -1 else if R=true then 1 else b.Aim) b.Life T),.box (stB 0 0 0 0 0 0 0 0 0)]⟩:St) ?_ ?_
 ·refine Xb rfl (fun h=>?_) (fun h=>?_)
  ·have h2:Lf=true:=by rw[hLf]; exact h
   refine Wz [3,52,94,121,53] ?_
   exact Mid.n Bx1
  ·have h2:¬Lf=true:=by rw[hLf]; intro q; exact Gx7 (Eq.trans (h).symm q)
   refine Qh ?_
   exact Mid.n Bx2
 obtain⟨vx,hvx⟩:∃ vx,vx=(if Lf=true then -3 else if R=true then 3 else 0):=⟨_,rfl⟩
 obtain⟨am,ham⟩:∃ am,am=(if Lf=true then -1 else if R=true then 1 else b.Aim):=⟨_,rfl⟩
 rw[←hvx,←ham]
 obtain⟨Fi,hFi⟩:∃ Fi,Fi=(pressed i 8&&decide (T=0)):=⟨_,rfl⟩
 rw[←hFi]
 by_cases hJ:pressed i 4=true
 ·have fJ:decide (((i.toNat &&& (4:Int).toNat:Nat):Int)≠0)=true:=hJ
  cases hs:solidM l b.X (b.Y+1) 12 with
  | true =>
   rw[hs] at cs
   rw[hJ]
   refine Wz [4,4] ?_;refine Xi u8_32 u8_33 u8_34 J ?_;refine Wz [17,272,176,17,210,24,24,246] ?_;refine Uq (Qt.yes J J J (Qj J J (cz) J)) J ?_;refine Uq (Qt.yes J J J (Qj J J (cs) J)) J ?_;refine Wz [88,12,32,94,52,41,219,150,125,227,66,1] ?_
   refine Xb J (fun h=>?_) (fun h=>?_)
   ·have h2:Fi=true:=Bxj
    rw[h2]
    refine Wz [3,52,7,47,76] ?_
    exact Bzk
   ·have h2:Fi=false:=Bxj
    rw[h2]
    refine Wz [42,7,47,36] ?_
    exact Bzk
  | false =>
   rw[hs] at cs
   rw[hJ]
   refine Wz [4,4] ?_;refine Xi u8_32 u8_33 u8_34 J ?_;refine Wz [17,272,176,17,210,24,24,246] ?_;refine Uq (Qt.yes J J J (Qj J J (cz) J)) J ?_;refine Uq (Qt.yes J J J (Qj J J (cs) J)) J ?_;refine Wz [88,12,165,94,31,13,261,52,41,219,150,125,227,66,1] ?_
   refine Xb J (fun h=>?_) (fun h=>?_)
   ·have h2:Fi=true:=Bxj
    rw[h2]
    refine Wz [3,52,7,47,76] ?_
    exact Bzk
   ·have h2:Fi=false:=Bxj
    rw[h2]
    refine Wz [42,7,47,36] ?_
    exact Bzk
 ·have fJ:decide (((i.toNat &&& (4:Int).toNat:Nat):Int)≠0)=false:=by simpa[pressed] using hJ
  rw[show pressed i 4=false by simpa using hJ]
  refine Wz [4,4] ?_;refine Xi u8_32 u8_33 u8_34 J ?_;refine Wz [17,272,176,118,127,84,12,165,94,31,13,261,52,41,219,150,125,227,66,1] ?_
  refine Xb J (fun h=>?_) (fun h=>?_)
  ·have h2:Fi=true:=Bxj
   rw[h2]
   refine Wz [3,52,7,47,76] ?_
   exact Bzk
  ·have h2:Fi=false:=Bxj
   rw[h2]
   refine Wz [42,7,47,36] ?_
   exact Bzk
theorem S_l02Steer (l:TLevel) (b:TBody) (i:Int) (hg:Enc.gd l) (hl:levelOk l=true) (hk:b.Kind=0) (hi:0≤i∧i≤15) (ht:0≤b.Timer∧b.Timer≤20) (hv : -15≤b.VY∧b.VY≤15) (hp:solidM l b.X b.Y 12=false):Co 252 [] [ag l,ag b,ai i] [] (.tu [.ag ((Enc.e (steer l b i).1).map (V1.rd [])),.c (bv (steer l b i).2)]):=by
 obtain⟨⟨px1,px2⟩,⟨py1,py2⟩⟩:=Kg hl Aqc hp
 have cs:=S_l02Solid l b.X (b.Y+1) 12 hl ⟨Aqa,Aqa⟩ ⟨Aqa,Aqa⟩ Aqc Aqc 
 have cz:Co 187 [] [ai b.Kind] [] (I 12):=by rw[hk]; exact S_SizeOf 0
 obtain⟨T,hT⟩:∃ T,T=(if 0<b.Timer then b.Timer-1 else b.Timer):=⟨_,rfl⟩
 have hT1:0≤T∧T≤20:=by rw[hT]; split <;> omega
 obtain⟨R,hR⟩:∃ R,R=(pressed i 2 && !pressed i 1):=⟨_,rfl⟩
 obtain⟨Lf,hLf⟩:∃ Lf,Lf=(pressed i 1 && !pressed i 2):=⟨_,rfl⟩
 rw[steer,←hT,←hR,←hLf]
 refine Con.o func252 ntmps252 fun E=>?_;refine Wz [43,131,82,16,18,222,1] ?_
 refine A_join (⟨68,[(2,I i),(3,Aqf 0),(4,Aqf 1),(6,Aqf 2)],[.box (Aqi l),.box (stB b.Kind b.Owner b.X b.Y b.VX b.VY b.Aim b.Life T),.box (stB 0 0 0 0 0 0 0 0 0)]⟩:St) ?_ ?_
 ·refine Xb rfl (fun h=>?_) (fun h=>?_)
  ·have h:=Gqc h
   have hT2:b.Timer-1=T:=by rw[hT,if_pos h]
   refine Wz [94,31,29,121,53] ?_
   exact Mid.n Bx0
  ·have h:=Gqd h
   have hT2:b.Timer=T:=by rw[hT,if_neg h]
   refine Qh ?_
   exact Mid.n Bx0
 refine Wz [3,52,41,219,150,0,171] ?_;refine zx (Qt.grdT J J J (.hit .stop) (fun hgrd=>Kk J J J J Aqa)) J ?_;refine Wz [227,66,1] ?_
 refine A_join (⟨68,[(2,I i),(3,Aqf 0),(4,Aqf 1),(6,Aqf 2)],[.box (Aqi l),.box (stB b.Kind b.Owner b.X b.Y (if R=true then 3 else 0) b.VY (if R=true then 1 else b.Aim) b.Life T),.box (stB 0 0 0 0 0 0 0 0 0)]⟩:St) ?_ ?_
 ·refine Xb rfl (fun h=>?_) (fun h=>?_)
  ·have h2:R=true:=by rw[hR]; exact steer_and h
   refine Wz [3,52,94,121,53] ?_
   exact Mid.n Bx1
  ·have h2:¬R=true:=by rw[hR]; intro q; exact Gx7 (Eq.trans (steer_no h).symm q)
   refine Qh ?_
   exact Mid.n Bx2
 refine Wz [41,219,150,0,171] ?_;refine zx (Qt.grdT J J J (.hit .stop) (fun hgrd=>Kk J J J J Aqa)) J ?_;refine Wz [227,66,1] ?_
 refine A_join (⟨68,[(2,I i),(3,Aqf 0),(4,Aqf 1),(6,Aqf 2)],[.box (Aqi l),.box (stB b.Kind b.Owner b.X b.Y (if Lf=true then -3 else if R=true then 3 else 0) b.VY (if Lf=true then -1 else if R=true then 1 else b.Aim) b.Life T),.box (stB 0 0 0 0 0 0 0 0 0)]⟩:St) ?_ ?_
 ·refine Xb rfl (fun h=>?_) (fun h=>?_)
  ·have h2:Lf=true:=by rw[hLf]; exact steer_and h
   refine Wz [3,52,94,121,53] ?_
   exact Mid.n Bx1
  ·have h2:¬Lf=true:=by rw[hLf]; intro q; exact Gx7 (Eq.trans (steer_no h).symm q)
   refine Qh ?_
   exact Mid.n Bx2
 obtain⟨vx,hvx⟩:∃ vx,vx=(if Lf=true then -3 else if R=true then 3 else 0):=⟨_,rfl⟩
 obtain⟨am,ham⟩:∃ am,am=(if Lf=true then -1 else if R=true then 1 else b.Aim):=⟨_,rfl⟩
 rw[←hvx,←ham]
 obtain⟨Fi,hFi⟩:∃ Fi,Fi=(pressed i 8&&decide (T=0)):=⟨_,rfl⟩
 rw[←hFi]
 by_cases hJ:pressed i 4=true
 ·have fJ:decide (((i.toNat &&& (4:Int).toNat:Nat):Int)≠0)=true:=hJ
  cases hs:solidM l b.X (b.Y+1) 12 with
  | true =>
   rw[hs] at cs
   rw[hJ]
   refine Wz [4,4] ?_;refine Xi u8_35 u8_36 u8_37 J ?_;refine Wz [17,272,176,17,210,24,24,246,24] ?_;refine Uq (Qt.yes J J J (Qj J J (cz) J)) J ?_;refine Uq (Qt.yes J J J (Qj J J (cs) J)) J ?_;refine Wz [88,12,32,94,52,41,219,150,125,227,66,1] ?_
   refine Xb J (fun h=>?_) (fun h=>?_)
   ·have h2:Fi=true:=Bxj
    rw[h2]
    refine Wz [3,52,7,47,76] ?_
    exact Bzk
   ·have h2:Fi=false:=Bxj
    rw[h2]
    refine Wz [42,7,47,36] ?_
    exact Bzk
  | false =>
   rw[hs] at cs
   rw[hJ]
   refine Wz [4,4] ?_;refine Xi u8_35 u8_36 u8_37 J ?_;refine Wz [17,272,176,17,210,24,24,246,24] ?_;refine Uq (Qt.yes J J J (Qj J J (cz) J)) J ?_;refine Uq (Qt.yes J J J (Qj J J (cs) J)) J ?_;refine Wz [88,12,165,94,31,13,261,52,41,219,150,125,227,66,1] ?_
   refine Xb J (fun h=>?_) (fun h=>?_)
   ·have h2:Fi=true:=Bxj
    rw[h2]
    refine Wz [3,52,7,47,76] ?_
    exact Bzk
   ·have h2:Fi=false:=Bxj
    rw[h2]
    refine Wz [42,7,47,36] ?_
    exact Bzk
 ·have fJ:decide (((i.toNat &&& (4:Int).toNat:Nat):Int)≠0)=false:=by simpa[pressed] using hJ
  rw[show pressed i 4=false by simpa using hJ]
  refine Wz [4,4] ?_;refine Xi u8_35 u8_36 u8_37 J ?_;refine Wz [17,272,176,118,127,199,84,12,165,94,31,13,261,52,41,219,150,125,227,66,1] ?_
  refine Xb J (fun h=>?_) (fun h=>?_)
  ·have h2:Fi=true:=Bxj
   rw[h2]
   refine Wz [3,52,7,47,76] ?_
   exact Bzk
  ·have h2:Fi=false:=Bxj
   rw[h2]
   refine Wz [42,7,47,36] ?_
   exact Bzk
end
section
open Tryz
open Go.RowKit

theorem V7 {hit:Int→Bool} {step:Int}:∀ (n:Nat) (x:Int),hit x=false→hit (slide hit step n x).1=false
 |0,x,h=>h
 |n+1,x,h=>by
  rw[slide]
  split
  ·exact h
  ·exact V7 n (x+step) (by rename_i q; simpa using q)
section
variable {P:Program} {E:Env} {st st':St}
theorem A_joinb {c d:Code} {id:Nat} {Q Q':Exit→St→Prop} (st':St) (h1:AWP P E c (blk id (Mid st')) st) (h2:AWP P E d Q' st'):AWP P E c (blk id (thn (AWP P E d Q') Q)) st :=
 AWP.mono (fun e s h=>by
  have hh:=h.h
  cases e with
  |normal=>obtain⟨_,hw⟩:=hh.h; exact⟨⟨AWP.weak hw h2⟩⟩
  | exit id' =>
   by_cases hi:id'=id
   ·subst hi
    have hh:(if id'=id' then Mid st' .normal s else Mid st' (.exit id') s):=hh
    rw[if_pos rfl] at hh
    obtain⟨_,hw⟩:=hh.h
    exact Xl (Q0 (AWP.weak hw h2))
   ·have hh:(if id'=id then Mid st' .normal s else Mid st' (.exit id') s):=hh
    rw[if_neg hi] at hh
    obtain⟨he,_⟩:=hh.h
    cases he
  |goto l=>obtain⟨he,_⟩:=Mid.h hh; cases he
  |ret=>obtain⟨he,_⟩:=Mid.h hh; cases he
  |panic c=>obtain⟨he,_⟩:=Mid.h hh; cases he
  |outgrown=>obtain⟨he,_⟩:=Mid.h hh; cases he) h1
end
theorem I_MoveBody (l:TLevel) (b:TBody) (hg:Enc.gd l) (hl:levelOk l=true) (hk:0≤b.Kind∧b.Kind≤2) (hp:solidM l b.X b.Y (sizeOf b.Kind)=false) (hx : -15≤b.VX∧b.VX≤15) (hy : -15≤b.VY∧b.VY≤15):Co 265 [] [ag l,ag b] [] (.tu [.ag ((Enc.e (moveM l b).1).map (V1.rd [])),.c (bv (moveM l b).2)]):=by
 obtain⟨s4,s12⟩:=size_pos hk
 obtain⟨s,hs⟩:∃ s,s=sizeOf b.Kind:=⟨_,rfl⟩
 rw[←hs] at s4 s12 hp
 have cz:=I_SizeOf b.Kind
 rw[←hs] at cz
 obtain⟨⟨px1,px2⟩,⟨py1,py2⟩⟩:=Kg hl ⟨Aqa,Aqa⟩ hp
 obtain⟨X1,b1,hR⟩:∃ X1 b1,(X1,b1)=moveX l b:=⟨_,_,rfl⟩
 obtain⟨Y1,b2,hS⟩:∃ Y1 b2,(Y1,b2)=moveY l b:=⟨_,_,rfl⟩
 obtain⟨N,hN⟩:∃ N,N=b.VX.natAbs:=⟨_,rfl⟩
 obtain⟨M,hM⟩:∃ M,M=b.VY.natAbs:=⟨_,rfl⟩
 obtain⟨d,hd⟩:∃ d,d=dirOf b.VX:=⟨_,rfl⟩
 obtain⟨e,he⟩:∃ e,e=dirOf b.VY:=⟨_,rfl⟩
 have hd1 : -1≤d∧d≤1:=by rw[hd,dirOf]; split <;> omega
 have he1 : -1≤e∧e≤1:=by rw[he,dirOf]; split <;> omega
 have hR1:slide (fun z=>solidM l z b.Y s) d (N-0) b.X=(X1,b1):=by rw[hs,hd,hN]; exact hR.symm
 have hR2:slide (fun z=>solidM l X1 z s) e (M-0) b.Y=(Y1,b2):=by rw[show X1=(moveX l b).1 by rw[←hR],hs,he,hM]; exact hS.symm
 have hp2:solidM l X1 b.Y s=false:=Bze
 have hmm:moveM l b=(⟨b.Kind,b.Owner,X1,Y1,if b1=true then 0 else b.VX,if b2=true then 0 else b.VY,b.Aim,b.Life,b.Timer⟩,b1 || b2):=by rw[moveM,←hR,←hS]
 rw[hmm]
 have hNb:N≤15:=Aqa
 have hMb:M≤15:=Aqa
 have ca:=I_SolidAt l b.X b.Y s hg ⟨Aqa,Aqa⟩ ⟨Aqa,Aqa⟩
 rw[solidAt_eq hl ⟨Aqa,Aqa⟩,hp] at ca
 have c1:=Xy b.VX (-15) 15
 have c2:=Xy b.VY (-15) 15
 rw[Zm.2 hx] at c1
 rw[Zm.2 hy] at c2
 have d1:=I_direction b.VX hx
 have d2:=I_direction b.VY hy
 rw[←hd,←hN] at d1
 rw[←he,←hM] at d2
 refine Con.o func265 ntmps265 fun E=>?_;refine Wz [43,131,82,8,18] ?_;refine kc0 cz ?_;refine Wz [16,7,31,68] ?_;refine kc0 ca ?_;refine Wz [135,18] ?_;refine kc0 c1 ?_;refine Wz [6,71] ?_;refine kc0 c2 ?_;refine Wz [2,6,5,28,23,18] ?_;refine kc1 d1 ?_;refine Wz [120,26,16,51] ?_
 refine A_joinb (⟨88,[(2,Aqf 0),(3,Aqf 1),(4,Aqf 2),(6,I s),(7,B b1)],[.box (Aqi l),.box (stB b.Kind b.Owner X1 b.Y (if b1=true then 0 else b.VX) b.VY b.Aim b.Life b.Timer),.box (stB 0 0 0 0 0 0 0 0 0)]⟩:St) ?_ ?_
 ·skip
  refine Xj (fun m__ st=>∃ (k:Nat) (x:Int),N-k=m__∧(k≤N∧solidM l x b.Y s=false∧slide (fun z=>solidM l z b.Y s) d (N-k) x=(X1,b1))∧st=(⟨_,[(2,Aqf 0),(3,Aqf 1),(4,Aqf 2),(6,I s),(7,B false),(8,I d),(9,I N),(10,I k)],[.box (Aqi l),.box (stB b.Kind b.Owner x b.Y b.VX b.VY b.Aim b.Life b.Timer),.box (stB 0 0 0 0 0 0 0 0 0)]⟩:St)) _ ⟨_,⟨0,b.X,J,⟨Aqa,hp,hR1⟩,J⟩,Yj [0,1,2] Aqb⟩ ?_
  rintro m_A _ ⟨k,x,hk_A,hp_A,rfl⟩
  obtain⟨hkn,hfr,hsl⟩:=hp_A
  obtain⟨⟨qx1,qx2⟩,_⟩:=Kg hl ⟨Aqa,Aqa⟩ hfr
  by_cases hlt:k<N
  ·have hb:decide ((k:Int)<N)=true:=Gqb Aqa 
   have cs:=I_solid l (x+d) b.Y s hl ⟨Aqa,Aqa⟩ ⟨Aqa,Aqa⟩ Aqa Aqa 
   obtain⟨m,hm⟩:∃ m,N-k=m+1:=⟨N-k-1,Aqa⟩
   cases hh:solidM l (x+d) b.Y s with
   |true =>
    rw[hh] at cs
    rw[hm,slide_hit (hit:=fun z=>solidM l z b.Y s) hh] at hsl
    obtain⟨rfl,rfl⟩:=Prod.mk.inj hsl
    refine Wz [15,77,4,7,68,13,68,247,32,3,52,23,180,273,298,181] ?_
    exact Mid.n (Yj [0,1,2] Aqb)
   |false =>
    rw[hh] at cs
    rw[hm,slide_go (hit:=fun z=>solidM l z b.Y s) hh] at hsl
    refine Wz [15,77,4,7,68,13,68,247,28,94,68,13,121,130] ?_
    refine⟨_, Aqa,_,⟨k+1,x+d,J,⟨Aqa,hh,by rw[show N-(k+1)=m by omega]; exact hsl⟩,J⟩,Yj [0,1,2] Aqb⟩
  ·have hb:decide ((k:Int)<N)=false:=Gqa Aqa 
   rw[show N-k=0 by omega,slide] at hsl
   obtain⟨rfl,rfl⟩:=Prod.mk.inj hsl
   refine Wz [15,92,180,181] ?_
   exact Mid.n (Yj [0,1,2] Aqb)
 refine Wz [18] ?_;refine kc1 d2 ?_;refine Wz [120,26,16,51] ?_
 refine A_joinb (⟨88,[(2,Aqf 0),(3,Aqf 1),(4,Aqf 2),(6,I s),(7,B (b1 || b2))],[.box (Aqi l),.box (stB b.Kind b.Owner X1 Y1 (if b1=true then 0 else b.VX) (if b2=true then 0 else b.VY) b.Aim b.Life b.Timer),.box (stB 0 0 0 0 0 0 0 0 0)]⟩:St) ?_ ?_
 ·skip
  refine Xj (fun m__ st=>∃ (k:Nat) (y:Int),M-k=m__∧(k≤M∧solidM l X1 y s=false∧slide (fun z=>solidM l X1 z s) e (M-k) y=(Y1,b2))∧st=(⟨_,[(2,Aqf 0),(3,Aqf 1),(4,Aqf 2),(6,I s),(7,B b1),(8,I e),(9,I M),(11,I k)],[.box (Aqi l),.box (stB b.Kind b.Owner X1 y (if b1=true then 0 else b.VX) b.VY b.Aim b.Life b.Timer),.box (stB 0 0 0 0 0 0 0 0 0)]⟩:St)) _ ⟨_,⟨0,b.Y,J,⟨Aqa,hp2,hR2⟩,J⟩,Yj [0,1,2] Aqb⟩ ?_
  rintro m_B _ ⟨k,y,hk_B,hp_B,rfl⟩
  obtain⟨hkn,hfr,hsl⟩:=hp_B
  obtain⟨_,⟨qx1,qx2⟩⟩:=Kg hl ⟨Aqa,Aqa⟩ hfr
  by_cases hlt:k<M
  ·have hb:decide ((k:Int)<M)=true:=Gqb Aqa 
   have cs:=I_solid l X1 (y+e) s hl ⟨Aqa,Aqa⟩ ⟨Aqa,Aqa⟩ Aqa Aqa 
   obtain⟨m,hm⟩:∃ m,M-k=m+1:=⟨M-k-1,Aqa⟩
   cases hh:solidM l X1 (y+e) s with
   |true =>
    rw[hh] at cs
    rw[hm,slide_hit (hit:=fun z=>solidM l X1 z s) hh] at hsl
    obtain⟨rfl,rfl⟩:=Prod.mk.inj hsl
    refine Wz [15,77,4,7,31,68,13,0,247,32,3,52,23,180,273,298,181] ?_
    exact Mid.n (Yk [0,1,2] Aqc J Aqb (.c J (.c J (.c J (.c J (.cons (by cases b1 <;> rfl) (.nil)))))))
   |false =>
    rw[hh] at cs
    rw[hm,slide_go (hit:=fun z=>solidM l X1 z s) hh] at hsl
    refine Wz [15,77,4,7,31,68,13,0,247,28,94,68,13,121,130] ?_
    refine⟨_, Aqa,_,⟨k+1,y+e,J,⟨Aqa,hh,by rw[show M-(k+1)=m by omega]; exact hsl⟩,J⟩,Yj [0,1,2] Aqb⟩
  ·have hb:decide ((k:Int)<M)=false:=Gqa Aqa 
   rw[show M-k=0 by omega,slide] at hsl
   obtain⟨rfl,rfl⟩:=Prod.mk.inj hsl
   refine Wz [15,92,180,181] ?_
   exact Mid.n (Yk [0,1,2] Aqc J Aqb (.c J (.c J (.c J (.c J (.cons (by cases b1 <;> rfl) (.nil)))))))
 refine Wz [7,0,47,36] ?_
 exact Bzk
theorem S_l02Move (l:TLevel) (b:TBody) (hg:Enc.gd l) (hl:levelOk l=true) (hk:0≤b.Kind∧b.Kind≤2) (hp:solidM l b.X b.Y (sizeOf b.Kind)=false) (hx : -15≤b.VX∧b.VX≤15) (hy : -15≤b.VY∧b.VY≤15):Co 254 [] [ag l,ag b] [] (.tu [.ag ((Enc.e (moveM l b).1).map (V1.rd [])),.c (bv (moveM l b).2)]):=by
 obtain⟨s4,s12⟩:=size_pos hk
 obtain⟨s,hs⟩:∃ s,s=sizeOf b.Kind:=⟨_,rfl⟩
 rw[←hs] at s4 s12 hp
 have cz:=S_SizeOf b.Kind
 rw[←hs] at cz
 obtain⟨⟨px1,px2⟩,⟨py1,py2⟩⟩:=Kg hl ⟨Aqa,Aqa⟩ hp
 obtain⟨X1,b1,hR⟩:∃ X1 b1,(X1,b1)=moveX l b:=⟨_,_,rfl⟩
 obtain⟨Y1,b2,hS⟩:∃ Y1 b2,(Y1,b2)=moveY l b:=⟨_,_,rfl⟩
 obtain⟨N,hN⟩:∃ N,N=b.VX.natAbs:=⟨_,rfl⟩
 obtain⟨M,hM⟩:∃ M,M=b.VY.natAbs:=⟨_,rfl⟩
 obtain⟨d,hd⟩:∃ d,d=dirOf b.VX:=⟨_,rfl⟩
 obtain⟨e,he⟩:∃ e,e=dirOf b.VY:=⟨_,rfl⟩
 have hd1 : -1≤d∧d≤1:=by rw[hd,dirOf]; split <;> omega
 have he1 : -1≤e∧e≤1:=by rw[he,dirOf]; split <;> omega
 have hR1:slide (fun z=>solidM l z b.Y s) d (N-0) b.X=(X1,b1):=by rw[hs,hd,hN]; exact hR.symm
 have hR2:slide (fun z=>solidM l X1 z s) e (M-0) b.Y=(Y1,b2):=by rw[show X1=(moveX l b).1 by rw[←hR],hs,he,hM]; exact hS.symm
 have hp2:solidM l X1 b.Y s=false:=Bze
 have hmm:moveM l b=(⟨b.Kind,b.Owner,X1,Y1,if b1=true then 0 else b.VX,if b2=true then 0 else b.VY,b.Aim,b.Life,b.Timer⟩,b1 || b2):=by rw[moveM,←hR,←hS]
 rw[hmm]
 have hNb:N≤15:=Aqa
 have hMb:M≤15:=Aqa
 refine Con.o func254 ntmps254 fun E=>?_;refine Wz [43,131,82,8,18] ?_;refine kc0 cz ?_;refine Wz [8,23,23,18,40,58] ?_
 refine A_join (⟨65,[(2,Aqf 0),(3,Aqf 1),(4,Aqf 2),(6,I s),(7,B false),(8,I d),(9,I N)],[.box (Aqi l),.box (stB b.Kind b.Owner b.X b.Y b.VX b.VY b.Aim b.Life b.Timer),.box (stB 0 0 0 0 0 0 0 0 0)]⟩:St) ?_ ?_
 ·refine Xb rfl (fun h=>?_) (fun h=>?_)
  ·have h:=Gqc h
   obtain rfl:d = -1:=by rw[hd,dirOf,if_pos h]
   have hq:(N:Int) = -b.VX:=Aqa
   refine Wz [23,27,288,26,53] ?_
   exact Mid.n (Yk [0,1,2] Aqc J Aqb (.c J (.c J (.c J (.c J (.c J (.c J (.cons (by rw[hq]; rfl) (.nil)))))))))
  ·have h:=Gqd h
   obtain rfl:d=1:=by rw[hd,dirOf,if_neg h]
   have hq:(N:Int)=b.VX:=Aqa
   refine Qh ?_
   exact Mid.n (Yk [0,1,2] Aqc J Aqb (.c J (.c J (.c J (.c J (.c J (.c J (.cons (by rw[hq]; rfl) (.nil)))))))))
 refine Wz [4,34] ?_
 refine A_joinb (⟨65,[(2,Aqf 0),(3,Aqf 1),(4,Aqf 2),(6,I s),(7,B b1)],[.box (Aqi l),.box (stB b.Kind b.Owner X1 b.Y (if b1=true then 0 else b.VX) b.VY b.Aim b.Life b.Timer),.box (stB 0 0 0 0 0 0 0 0 0)]⟩:St) ?_ ?_
 ·skip
  refine Xj (fun m__ st=>∃ (k:Nat) (x:Int),N-k=m__∧(k≤N∧solidM l x b.Y s=false∧slide (fun z=>solidM l z b.Y s) d (N-k) x=(X1,b1))∧st=(⟨_,[(2,Aqf 0),(3,Aqf 1),(4,Aqf 2),(6,I s),(7,B false),(8,I d),(9,I ((N:Int)-k))],[.box (Aqi l),.box (stB b.Kind b.Owner x b.Y b.VX b.VY b.Aim b.Life b.Timer),.box (stB 0 0 0 0 0 0 0 0 0)]⟩:St)) _ ⟨(fun (k:Nat) (x:Int)=>(⟨_,[(2,Aqf 0),(3,Aqf 1),(4,Aqf 2),(6,I s),(7,B false),(8,I d),(9,I ((N:Int)-k))],[.box (Aqi l),.box (stB b.Kind b.Owner x b.Y b.VX b.VY b.Aim b.Life b.Timer),.box (stB 0 0 0 0 0 0 0 0 0)]⟩:St)) (0) (b.X),⟨0,b.X,J,⟨Aqa,hp,hR1⟩,J⟩,Yk [0,1,2] Aqc J Aqb (.c J (.c J (.c J (.c J (.c J (.c J (.cons (by rw[show ((N:Int)-((0:Nat):Int))=(N:Int) by omega]; rfl) (.nil))))))))⟩ ?_
  rintro m_A _ ⟨k,x,hk_A,hp_A,rfl⟩
  obtain⟨hkn,hfr,hsl⟩:=hp_A
  obtain⟨⟨qx1,qx2⟩,_⟩:=Kg hl ⟨Aqa,Aqa⟩ hfr
  by_cases hlt:k<N
  ·have hb:decide ((0:Int)<(N:Int)-k)=true:=Gqb Aqa 
   have cs:=S_l02Solid l (x+d) b.Y s hl ⟨Aqa,Aqa⟩ ⟨Aqa,Aqa⟩ Aqa Aqa 
   obtain⟨m,hm⟩:∃ m,N-k=m+1:=⟨N-k-1,Aqa⟩
   cases hh:solidM l (x+d) b.Y s with
   |true =>
    rw[hh] at cs
    rw[hm,slide_hit (hit:=fun z=>solidM l z b.Y s) hh] at hsl
    obtain⟨rfl,rfl⟩:=Prod.mk.inj hsl
    refine Wz [41,111,32,9,4,7,68,13,68,247,32,3,52,23,180,273,298,181] ?_
    exact Mid.n (Yj [0,1,2] Aqb)
   |false =>
    rw[hh] at cs
    rw[hm,slide_go (hit:=fun z=>solidM l z b.Y s) hh] at hsl
    refine Wz [41,111,32,9,4,7,68,13,68,247,28,94,68,13,121,53,194,29,8] ?_
    refine⟨_, Aqa,(fun (k:Nat) (x:Int)=>(⟨_,[(2,Aqf 0),(3,Aqf 1),(4,Aqf 2),(6,I s),(7,B false),(8,I d),(9,I ((N:Int)-k))],[.box (Aqi l),.box (stB b.Kind b.Owner x b.Y b.VX b.VY b.Aim b.Life b.Timer),.box (stB 0 0 0 0 0 0 0 0 0)]⟩:St)) (k+1) (x+d),⟨k+1,x+d,J,⟨Aqa,hh,by rw[show N-(k+1)=m by omega]; exact hsl⟩,J⟩,Yk [0,1,2] Aqc J Aqb (.c J (.c J (.c J (.c J (.c J (.c J (.cons (by rw[show ((N:Int)-((k+1:Nat):Int))=(N:Int)-k-1 by omega]; rfl) (.nil))))))))⟩
  ·have hb:decide ((0:Int)<(N:Int)-k)=false:=Gqa Aqa 
   rw[show N-k=0 by omega,slide] at hsl
   obtain⟨rfl,rfl⟩:=Prod.mk.inj hsl
   refine Wz [41,111,165,180,181] ?_
   exact Mid.n (Yj [0,1,2] Aqb)
 refine Wz [23,18,40,58] ?_
 refine A_join (⟨65,[(2,Aqf 0),(3,Aqf 1),(4,Aqf 2),(6,I s),(7,B b1),(8,I e),(9,I M)],[.box (Aqi l),.box (stB b.Kind b.Owner X1 b.Y (if b1=true then 0 else b.VX) b.VY b.Aim b.Life b.Timer),.box (stB 0 0 0 0 0 0 0 0 0)]⟩:St) ?_ ?_
 ·refine Xb rfl (fun h=>?_) (fun h=>?_)
  ·have h:=Gqc h
   obtain rfl:e = -1:=by rw[he,dirOf,if_pos h]
   have hq:(M:Int) = -b.VY:=Aqa
   refine Wz [23,27,288,26,53] ?_
   exact Mid.n (Yk [0,1,2] Aqc J Aqb (.c J (.c J (.c J (.c J (.c J (.c J (.cons (by rw[hq]; rfl) (.nil)))))))))
  ·have h:=Gqd h
   obtain rfl:e=1:=by rw[he,dirOf,if_neg h]
   have hq:(M:Int)=b.VY:=Aqa
   refine Qh ?_
   exact Mid.n (Yk [0,1,2] Aqc J Aqb (.c J (.c J (.c J (.c J (.c J (.c J (.cons (by rw[hq]; rfl) (.nil)))))))))
 refine Wz [4,34] ?_
 refine A_joinb (⟨65,[(2,Aqf 0),(3,Aqf 1),(4,Aqf 2),(6,I s),(7,B (b1 || b2))],[.box (Aqi l),.box (stB b.Kind b.Owner X1 Y1 (if b1=true then 0 else b.VX) (if b2=true then 0 else b.VY) b.Aim b.Life b.Timer),.box (stB 0 0 0 0 0 0 0 0 0)]⟩:St) ?_ ?_
 ·skip
  refine Xj (fun m__ st=>∃ (k:Nat) (y:Int),M-k=m__∧(k≤M∧solidM l X1 y s=false∧slide (fun z=>solidM l X1 z s) e (M-k) y=(Y1,b2))∧st=(⟨_,[(2,Aqf 0),(3,Aqf 1),(4,Aqf 2),(6,I s),(7,B b1),(8,I e),(9,I ((M:Int)-k))],[.box (Aqi l),.box (stB b.Kind b.Owner X1 y (if b1=true then 0 else b.VX) b.VY b.Aim b.Life b.Timer),.box (stB 0 0 0 0 0 0 0 0 0)]⟩:St)) _ ⟨(fun (k:Nat) (y:Int)=>(⟨_,[(2,Aqf 0),(3,Aqf 1),(4,Aqf 2),(6,I s),(7,B b1),(8,I e),(9,I ((M:Int)-k))],[.box (Aqi l),.box (stB b.Kind b.Owner X1 y (if b1=true then 0 else b.VX) b.VY b.Aim b.Life b.Timer),.box (stB 0 0 0 0 0 0 0 0 0)]⟩:St)) (0) (b.Y),⟨0,b.Y,J,⟨Aqa,hp2,hR2⟩,J⟩,Yk [0,1,2] Aqc J Aqb (.c J (.c J (.c J (.c J (.c J (.c J (.cons (by rw[show ((M:Int)-((0:Nat):Int))=(M:Int) by omega]; rfl) (.nil))))))))⟩ ?_
  rintro m_B _ ⟨k,y,hk_B,hp_B,rfl⟩
  obtain⟨hkn,hfr,hsl⟩:=hp_B
  obtain⟨_,⟨qx1,qx2⟩⟩:=Kg hl ⟨Aqa,Aqa⟩ hfr
  by_cases hlt:k<M
  ·have hb:decide ((0:Int)<(M:Int)-k)=true:=Gqb Aqa 
   have cs:=S_l02Solid l X1 (y+e) s hl ⟨Aqa,Aqa⟩ ⟨Aqa,Aqa⟩ Aqa Aqa 
   obtain⟨m,hm⟩:∃ m,M-k=m+1:=⟨M-k-1,Aqa⟩
   cases hh:solidM l X1 (y+e) s with
   |true =>
    rw[hh] at cs
    rw[hm,slide_hit (hit:=fun z=>solidM l X1 z s) hh] at hsl
    obtain⟨rfl,rfl⟩:=Prod.mk.inj hsl
    refine Wz [41,111,32,9,4,7,31,68,13,0,247,32,3,52,23,180,273,298,181] ?_
    exact Mid.n (Yk [0,1,2] Aqc J Aqb (.c J (.c J (.c J (.c J (.cons (by cases b1 <;> rfl) (.nil)))))))
   |false =>
    rw[hh] at cs
    rw[hm,slide_go (hit:=fun z=>solidM l X1 z s) hh] at hsl
    refine Wz [41,111,32,9,4,7,31,68,13,0,247,28,94,68,13,121,53,194,29,8] ?_
    refine⟨_, Aqa,(fun (k:Nat) (y:Int)=>(⟨_,[(2,Aqf 0),(3,Aqf 1),(4,Aqf 2),(6,I s),(7,B b1),(8,I e),(9,I ((M:Int)-k))],[.box (Aqi l),.box (stB b.Kind b.Owner X1 y (if b1=true then 0 else b.VX) b.VY b.Aim b.Life b.Timer),.box (stB 0 0 0 0 0 0 0 0 0)]⟩:St)) (k+1) (y+e),⟨k+1,y+e,J,⟨Aqa,hh,by rw[show M-(k+1)=m by omega]; exact hsl⟩,J⟩,Yk [0,1,2] Aqc J Aqb (.c J (.c J (.c J (.c J (.c J (.c J (.cons (by rw[show ((M:Int)-((k+1:Nat):Int))=(M:Int)-k-1 by omega]; rfl) (.nil))))))))⟩
  ·have hb:decide ((0:Int)<(M:Int)-k)=false:=Gqa Aqa 
   rw[show M-k=0 by omega,slide] at hsl
   obtain⟨rfl,rfl⟩:=Prod.mk.inj hsl
   refine Wz [41,111,165,180,181] ?_
   exact Mid.n (Yk [0,1,2] Aqc J Aqb (.c J (.c J (.c J (.c J (.cons (by cases b1 <;> rfl) (.nil)))))))
 refine Wz [7,0,47,36] ?_
 exact Bzk
end
end Go.Proofs.YtalaljeokcpfnaaGreat
