/-
  Rules, data and contracts of functions: part 20 of the proof.
  Conditions: those that each theorem names.
-/
import Derived.Test.YtpmacgnmlmmojaaGreatDoorDDDiagRowk18
set_option linter.unusedSimpArgs false
set_option linter.unusedVariables false
set_option maxRecDepth 8000
set_option maxHeartbeats 8000000
namespace Go.Proofs.YtpmacgnmlmmojaaGreatDoor
section
open Go.RowKit

theorem I_NextRandom (s:Int) (h:0≤s∧s≤65535):Con Tryz.prog 201 [] [ai s] [] (I (nextR s)):=by
 have f1:decide (s<0)=false:=Gqa (by omega)
 have f2:decide (65535<s)=false:=Gqa (by omega)
 refine Con.of Tryz.func201 J Tryz.ntmps201 J (fun E => ?_)
 refine Wz [1,113,11,84,45,6,145,30,191,48] ?_
 exact V3 J (V4 [] J J (Xv (by rw[nextR,if_pos h])))
theorem and_64k (n:Int) (h:0≤n):((n.toNat &&& (65535:Int).toNat:Nat):Int)=n%65536:=by
 have:=Nat.and_two_pow_sub_one_eq_mod n.toNat 16
 rw[show (65535:Int).toNat=2 ^ 16-1 from rfl,this]
 omega
theorem S_NextRandom (s:Int) (h:0≤s∧s≤65535):Con Tryz.prog 261 [] [ai s] [] (I (nextR s)):=by
 have hc:=Xz s 0 65535
 rw[Yr.2 h] at hc
 refine Con.of Tryz.func261 J Tryz.ntmps261 J (fun E => ?_)
 refine Wz [74] ?_;refine zx (Qj J J (hc) J) J ?_;refine Wz [76,6,145,30,195,48] ?_
 exact V3 J (V4 [] J J (Xv (by rw[nextR,if_pos h,and_64k _ (by omega)])))
theorem I_RandomBelow (s n:Int) (h:0≤s∧s≤65535) (hn:1≤n∧n≤4096):Con Tryz.prog 203 [] [ai s,ai n] [] (.tu [.c (jn (nextR s)),.c (jn (belowR s n))]):=by
 have f1:decide (s<0)=false:=Gqa (by omega)
 have f2:decide (65535<s)=false:=Gqa (by omega)
 have f3:decide (n<1)=false:=Gqa (by omega)
 have f4:decide (4096<n)=false:=Gqa (by omega)
 have hc:=I_NextRandom s h
 have hr:=Yx s
 refine Con.of Tryz.func203 J Tryz.ntmps203 J (fun E => ?_)
 refine Wz [1,60,113,11,84,7,11,13,7,11,84,45,6] ?_;refine zx (Qj J J (hc) J) J ?_;refine Wz [2,17] ?_;refine Xi u8_13 [[],[],[24],[],[24,25,26],[23],[4,23,24,25,26,27]] [[24,25,26,27],[4,23,26],[4,23,26],[4,23,24,25],[4,23],[24,25,26,27],[]] J ?_;refine Wz [104] ?_;refine Ki (q_quo J J J J (by omega)) J (Ki (Qa J J J) J (Ki (q_rem J J J J (by omega)) J ?_));refine Wz [167,167,9,3,68] ?_
 exact Xq J J J (V4 [] J J J)
theorem S_RandomBelow (s n:Int) (h:0≤s∧s≤65535) (hn:1≤n∧n≤4096):Con Tryz.prog 263 [] [ai s,ai n] [] (.tu [.c (jn (nextR s)),.c (jn (belowR s n))]):=by
 have c1:=Xz s 0 65535
 have c2:=Xz n 1 4096
 rw[Yr.2 h] at c1
 rw[Yr.2 hn] at c2
 have hc:=S_NextRandom s h
 have hr:=Yx s
 refine Con.of Tryz.func263 J Tryz.ntmps263 J (fun E => ?_)
 refine Wz [1,60,46] ?_;refine zx (Qj J J (c1) J) J ?_;refine Wz [15,11] ?_;refine zx (Qj J J (c2) J) J ?_;refine Wz [71,45,6] ?_;refine zx (Qj J J (hc) J) J ?_;refine Wz [2,17] ?_;refine Xi u8_13 [[],[],[18],[],[18,19,20],[17],[4,17,18,19,20,21]] [[18,19,20,21],[4,17,20],[4,17,20],[4,17,18,19],[4,17],[18,19,20,21],[]] J ?_;refine Wz [104] ?_;refine Ki (q_quo J J J J (by omega)) J (Ki (Qa J J J) J (Ki (q_rem J J J J (by omega)) J ?_));refine Wz [167,167,9,3,68] ?_
 exact Xq J J J (V4 [] J J J)
theorem I_ShotOf (b:TBody) (hx:0≤b.X∧b.X≤1000) (hy:0≤b.Y∧b.Y≤1000) (ha : -1≤b.Aim∧b.Aim≤1):Con Tryz.prog 225 [] [ag b] [] (.o (.ag ((Enc.e (shotOf b)).map (V1.rd [])))):=by
 have c1:=Xu b.X 0 1000
 have c2:=Xu b.Y 0 1000
 have c3:=Xu b.Aim (-1) 1
 rw[Yr.2 hx] at c1
 rw[Yr.2 hy] at c2
 rw[Yr.2 ha] at c3
 refine Con.of Tryz.func225 J Tryz.ntmps225 J (fun E => ?_)
 refine Wz [118,21] ?_;refine zx (Qj J J (c1) J) J ?_;refine Wz [15,24] ?_;refine zx (Qj J J (c2) J) J ?_;refine Wz [71,7,24] ?_;refine zx (Qj J J (c3) J) J ?_;refine Wz [71,45,14,10,30,10,30,10,145,133,120,68] ?_
 exact Xm J J J J (V4 [] J J J)
theorem S_ShotOf (b:TBody) (hx:0≤b.X∧b.X≤1000) (hy:0≤b.Y∧b.Y≤1000) (ha : -1≤b.Aim∧b.Aim≤1):Con Tryz.prog 258 [] [ag b] [] (.o (.ag ((Enc.e (shotOf b)).map (V1.rd [])))):=by
 have c1:=Xz b.X 0 1000
 have c2:=Xz b.Y 0 1000
 have c3:=Xz b.Aim (-1) 1
 rw[Yr.2 hx] at c1
 rw[Yr.2 hy] at c2
 rw[Yr.2 ha] at c3
 refine Con.of Tryz.func258 J Tryz.ntmps258 J (fun E => ?_)
 refine Wz [118,21] ?_;refine zx (Qj J J (c1) J) J ?_;refine Wz [15,24] ?_;refine zx (Qj J J (c2) J) J ?_;refine Wz [71,7,24] ?_;refine zx (Qj J J (c3) J) J ?_;refine Wz [71,45,14,10,30,10,30,10,145,133,120,68] ?_
 exact Xm J J J J (V4 [] J J J)
theorem I_direction (v:Int) (h : -15≤v∧v≤15):Con Tryz.prog 242 [] [ai v] [] (.tu [.c (jn (dirOf v)),.c (jn v.natAbs)]):=by
 by_cases hv:v<0
 ·have f1:decide (v<0)=true:=Gqb hv
  refine Con.of Tryz.func242 J Tryz.ntmps242 J (fun E => ?_)
  refine Wz [1,60,113,22,6,289,60,116] ?_
  exact Xq J J J (V4 [] J J (tu2 (by rw[dirOf,if_pos hv]) (by omega)))
 ·have f1:decide (v<0)=false:=Gqa hv
  refine Con.of Tryz.func242 J Tryz.ntmps242 J (fun E => ?_)
  refine Wz [1,60,59,6,60,48] ?_
  exact Xq J J J (V4 [] J J (tu2 (by rw[dirOf,if_neg hv]) (by omega)))
theorem I_BodiesMeet (a b:TBody) (ha:Placed a) (hb:Placed b):Con Tryz.prog 243 [] [ag a,ag b] [] (B (meetM a b)):=by
 have sa:=size_pos ha.k
 have sb:=size_pos hb.k
 obtain⟨ax1,ax2⟩:=ha.x
 obtain⟨ay1,ay2⟩:=ha.y
 obtain⟨bx1,bx2⟩:=hb.x
 obtain⟨by1,by2⟩:=hb.y
 have c1:=I_SizeOf a.Kind
 have c2:=I_SizeOf b.Kind
 have f1:decide (sizeOf a.Kind=0)=false:=Gqa (by omega)
 have f2:decide (sizeOf b.Kind=0)=false:=Gqa (by omega)
 have x1:decide (a.X<0)=false:=Gqa (by omega)
 have x2:decide (1000<a.X)=false:=Gqa (by omega)
 have x3:decide (a.Y<0)=false:=Gqa (by omega)
 have x4:decide (1000<a.Y)=false:=Gqa (by omega)
 have x5:decide (b.X<0)=false:=Gqa (by omega)
 have x6:decide (1000<b.X)=false:=Gqa (by omega)
 have x7:decide (b.Y<0)=false:=Gqa (by omega)
 have x8:decide (1000<b.Y)=false:=Gqa (by omega)
 refine Con.of Tryz.func243 J Tryz.ntmps243 J (fun E => ?_)
 refine Wz [100,14] ?_;refine zx (Qj J J (c1) J) J ?_;refine Wz [2,14] ?_;refine zx (Qj J J (c2) J) J ?_;refine Wz [46,8,11,8,7,304,10,10,53] ?_;refine zx (q_lensb J J J) J ?_;refine Wz [140,64] ?_;refine Xj (fun m st=>∃ k:Nat,k+m=4∧(True)∧st=(⟨_,[(2,.o (.c (.ptr 0 0))),(3,.o (.c (.ptr 1 0))),(5,I (sizeOf a.Kind)),(6,I (sizeOf b.Kind)),(29,.o (.c (.sb 2 4 1))),(30,I 4),(31,I k)],[.box ((Enc.e a).map (V1.rd [])),.box ((Enc.e b).map (V1.rd [])),.box [jn a.X,jn a.Y,jn b.X,jn b.Y]]⟩:St)) (4) ⟨_,⟨0,by omega,trivial,J⟩,Ua [0,1,2]⟩ ?_
 rintro m_A _ ⟨k,hk_A,hp_A,rfl⟩
 have hk:k=0∨k=1∨k=2∨k=3∨k=4:=by omega
 rcases hk with hk | hk | hk | hk | hk
 ·subst hk
  refine Wz [1,216,117,51,16,1,188,187,73,13,11,84,7,127,54] ?_
  exact⟨4-(0+1),by omega,_,⟨0+1,by omega,trivial,J⟩,Ua [0,1,2]⟩
 ·subst hk
  refine Wz [1,216,117,51,16,1,188,187,73,13,11,84,7,127,54] ?_
  exact⟨4-(1+1),by omega,_,⟨1+1,by omega,trivial,J⟩,Ua [0,1,2]⟩
 ·subst hk
  refine Wz [1,216,117,51,16,1,188,187,73,13,11,84,7,127,54] ?_
  exact⟨4-(2+1),by omega,_,⟨2+1,by omega,trivial,J⟩,Ua [0,1,2]⟩
 ·subst hk
  refine Wz [1,216,117,51,16,1,188,187,73,13,11,84,7,127,54] ?_
  exact⟨4-(3+1),by omega,_,⟨3+1,by omega,trivial,J⟩,Ua [0,1,2]⟩
 ·subst hk
  refine Wz [1] ?_;refine zx (Qr (b:=false) J J J J (by decide)) J ?_;refine Wz [117,156,29,14,10,0,30,192,0,125,126,239,240,241,242,243,69,0,125,126,239,240,241,242,243,69,0,125,126,239,240,241,242,243,69,48] ?_
  exact V3 J (V4 [] J J J)
theorem S_BodiesMeet (a b:TBody) (ha:Placed a) (hb:Placed b):Con Tryz.prog 289 [] [ag a,ag b] [] (B (meetM a b)):=by
 have sa:=size_pos ha.k
 have sb:=size_pos hb.k
 obtain⟨ax1,ax2⟩:=ha.x
 obtain⟨ay1,ay2⟩:=ha.y
 obtain⟨bx1,bx2⟩:=hb.x
 obtain⟨by1,by2⟩:=hb.y
 have c1:=S_SizeOf a.Kind
 have c2:=S_SizeOf b.Kind
 have c3:=Xz a.X 0 1000
 have c4:=Xz a.Y 0 1000
 have c5:=Xz b.X 0 1000
 have c6:=Xz b.Y 0 1000
 rw[Yr.2 ha.x] at c3
 rw[Yr.2 ha.y] at c4
 rw[Yr.2 hb.x] at c5
 rw[Yr.2 hb.y] at c6
 have f1:decide (sizeOf a.Kind=0)=false:=Gqa (by omega)
 have f2:decide (sizeOf b.Kind=0)=false:=Gqa (by omega)
 refine Con.of Tryz.func289 J Tryz.ntmps289 J (fun E => ?_)
 refine Wz [100,14] ?_;refine zx (Qj J J (c1) J) J ?_;refine Wz [2,14] ?_;refine zx (Qj J J (c2) J) J ?_;refine Wz [46,8,11,8,7,24] ?_;refine zx (Qj J J (c3) J) J ?_;refine Wz [71,7,24] ?_;refine zx (Qj J J (c4) J) J ?_;refine Wz [71,7,24] ?_;refine zx (Qj J J (c5) J) J ?_;refine Wz [71,7,24] ?_;refine zx (Qj J J (c6) J) J ?_;refine Wz [71,45,14,10,0,30,192,0,125,126,239,240,241,242,243,69,0,125,126,239,240,241,242,243,69,0,125,126,239,240,241,242,243,69,48] ?_
 exact V3 J (V4 [] J J J)
end
section
open Go.RowKit

theorem Y5 {l:TLevel} {x y s:Int} (hl:levelOk l=true) (h1:1≤s∧s≤16) (h:solidM l x y s=false):(0≤x∧x≤400)∧(0≤y∧y≤400):=by
 obtain⟨l3,l12,w,w4,w20,hw⟩:=Ys hl
 have hn:¬hits l x y s:=fun hh=>by rw[Z6 hh] at h; cases h
 have:¬(x<0∨y<0∨(w:Int)*16-s<x∨(l.Rows.length:Int)*16-s<y):=fun q=>hn (out_hits hw h1.1 q)
 omega
theorem solidAt_eq {l:TLevel} {x y s:Int} (hl:levelOk l=true) (h1:1≤s∧s≤16):solidAt l x y s=solidM l x y s:=by
 rw[solidAt,Yr.2 h1,hl]; rfl
theorem steer_and {i:Int} {k m:Int} (h:(pressed i k&&decide (((i.toNat &&& m.toNat:Nat):Int)=0))=true):(pressed i k && !pressed i m)=true:=by
 simp only[Gqg,decide_eq_true_eq,Gq6] at h ⊢
 exact⟨h.1,Gqa (fun q=>q h.2)⟩
theorem steer_no {i:Int} {k m:Int} (h:(pressed i k&&decide (((i.toNat &&& m.toNat:Nat):Int)=0))=false):(pressed i k && !pressed i m)=false:=by
 rw[←Gxq] at h ⊢
 intro q
 simp only[Gqg,decide_eq_true_eq,Gq6,pressed,decide_eq_false_iff_not,Classical.not_not] at h q
 exact h q
@[reducible] def stB (K O X Y VX VY A L T:Int):List V1 := [jn K,jn O,jn X,jn Y,jn VX,jn VY,jn A,jn L,jn T]
theorem I_SteerPlayer (l:TLevel) (b:TBody) (i:Int) (hg:Enc.gd l) (hl:levelOk l=true) (gb:Enc.gd b) (hk:b.Kind=0) (ho:0≤b.Owner∧b.Owner≤3) (hf:1≤b.Life) (hi:0≤i∧i≤15) (hb:bodyM l (b.Owner+1) b=true) (ht:0≤b.Timer∧b.Timer≤20) (hv : -15≤b.VY∧b.VY≤15) (hp:solidM l b.X b.Y 12=false):Con Tryz.prog 224 [] [ag l,ag b,ai i] [] (.tu [.ag ((Enc.e (steer l b i).1).map (V1.rd [])),.c (bv (steer l b i).2)]):=by
 obtain⟨⟨px1,px2⟩,⟨py1,py2⟩⟩:=Y5 hl (by decide) hp
 have c1:=Xs l hg
 have c2:=Xu b.Owner 0 3
 have c3:=Xu i 0 15
 have c4:=I_BodyOk l (b.Owner+1) b hg gb (by omega)
 rw[hl] at c1
 rw[Yr.2 ho] at c2
 rw[Yr.2 hi] at c3
 rw[hl,hb] at c4
 have f1:decide (b.Kind≠0)=false:=Gqa (fun q=>q hk)
 have f2:decide (b.Life<1)=false:=Gqa (by omega)
 have cs:=I_SolidAt l b.X (b.Y+1) 12 hg ⟨by omega,by omega⟩ ⟨by omega,by omega⟩
 rw[solidAt_eq hl (by decide)] at cs
 have cz:Con Tryz.prog 223 [] [ai 0] [] (I 12):=I_SizeOf 0
 obtain⟨T,hT⟩:∃ T,T=(if 0<b.Timer then b.Timer-1 else b.Timer):=⟨_,rfl⟩
 have hT1:0≤T∧T≤20:=by rw[hT]; split <;> omega
 obtain⟨R,hR⟩:∃ R,R=(pressed i 2 && !pressed i 1):=⟨_,rfl⟩
 obtain⟨Lf,hLf⟩:∃ Lf,Lf=(pressed i 1 && !pressed i 2):=⟨_,rfl⟩
 rw[steer,←hT,←hR,←hLf]
 refine Con.of Tryz.func224 J Tryz.ntmps224 J (fun E => ?_)
 refine Wz [147,61,2,31] ?_;refine zx (Qj J J (c1) J) J ?_;refine Wz [15,24,58,7,24,13,7,24] ?_;refine zx (Qj J J (c2) J) J ?_;refine Wz [71,45,36] ?_;refine zx (Qj J J (c3) J) J ?_;refine Wz [15,25,39,5,101,30,5,39,5] ?_;refine zx (Qj J J (c4) J) J ?_;refine Wz [71,45,21,268,3] ?_
 refine A_join (⟨101,[(2,I i),(3,.o (.c (.ptr 0 0))),(4,.o (.c (.ptr 1 0))),(6,.o (.c (.ptr 2 0)))],[.box ((Enc.e l).map (V1.rd [])),.box (stB b.Kind b.Owner b.X b.Y b.VX b.VY b.Aim b.Life T),.box (stB 0 0 0 0 0 0 0 0 0)]⟩:St) ?_ ?_
 ·refine Xb rfl (fun h => ?_) (fun h => ?_)
  ·have h:=Gqd h
   have hT2:b.Timer-1=T:=by rw[hT,if_pos h]
   refine Wz [115,10,35,152,52] ?_
   exact Mid.n (by rw[←hT2]; exact Ua [0,1,2])
  ·have h:=Gqf h
   have hT2:b.Timer=T:=by rw[hT,if_neg h]
   refine Qh ?_
   exact Mid.n (by rw[←hT2]; exact Ua [0,1,2])
 refine Wz [6,195,142,73,195,142,2,1,20,18,181] ?_;refine zx (Qt.grdT J J J (.hit .stop) (fun hgrd=>Q4 J J J)) J ?_;refine Wz [69,3] ?_
 refine A_join (⟨101,[(2,I i),(3,.o (.c (.ptr 0 0))),(4,.o (.c (.ptr 1 0))),(6,.o (.c (.ptr 2 0))),(8,B (pressed i 1)),(9,B (pressed i 2))],[.box ((Enc.e l).map (V1.rd [])),.box (stB b.Kind b.Owner b.X b.Y (if R=true then 3 else 0) b.VY (if R=true then 1 else b.Aim) b.Life T),.box (stB 0 0 0 0 0 0 0 0 0)]⟩:St) ?_ ?_
 ·refine Xb rfl (fun h => ?_) (fun h => ?_)
  ·have h2:R=true:=by rw[hR]; exact h
   refine Wz [1,20,115,152,52] ?_
   exact Mid.n (by rw[if_pos h2,if_pos h2]; exact Ua [0,1,2])
  ·have h2:¬R=true:=by rw[hR]; intro q; exact Gxx (Eq.trans (h).symm q)
   refine Qh ?_
   exact Mid.n (by rw[if_neg h2,if_neg h2]; exact Ua [0,1,2])
 refine Wz [18,181] ?_;refine zx (Qt.grdT J J J (.hit .stop) (fun hgrd=>Q4 J J J)) J ?_;refine Wz [69,3] ?_
 refine A_join (⟨101,[(2,I i),(3,.o (.c (.ptr 0 0))),(4,.o (.c (.ptr 1 0))),(6,.o (.c (.ptr 2 0))),(8,B (pressed i 1)),(9,B (pressed i 2))],[.box ((Enc.e l).map (V1.rd [])),.box (stB b.Kind b.Owner b.X b.Y (if Lf=true then -3 else if R=true then 3 else 0) b.VY (if Lf=true then -1 else if R=true then 1 else b.Aim) b.Life T),.box (stB 0 0 0 0 0 0 0 0 0)]⟩:St) ?_ ?_
 ·refine Xb rfl (fun h => ?_) (fun h => ?_)
  ·have h2:Lf=true:=by rw[hLf]; exact h
   refine Wz [1,20,115,152,52] ?_
   exact Mid.n (by rw[if_pos h2,if_pos h2]; exact Ua [0,1,2])
  ·have h2:¬Lf=true:=by rw[hLf]; intro q; exact Gxx (Eq.trans (h).symm q)
   refine Qh ?_
   exact Mid.n (by rw[if_neg h2,if_neg h2]; exact Ua [0,1,2])
 obtain⟨vx,hvx⟩:∃ vx,vx=(if Lf=true then -3 else if R=true then 3 else 0):=⟨_,rfl⟩
 obtain⟨am,ham⟩:∃ am,am=(if Lf=true then -1 else if R=true then 1 else b.Aim):=⟨_,rfl⟩
 rw[←hvx,←ham]
 obtain⟨Fi,hFi⟩:∃ Fi,Fi=(pressed i 8&&decide (T=0)):=⟨_,rfl⟩
 rw[←hFi]
 by_cases hJ:pressed i 4=true
 ·have fJ:decide (((i.toNat &&& (4:Int).toNat:Nat):Int)≠0)=true:=hJ
  cases hs:solidM l b.X (b.Y+1) 12 with
  | true =>
   rw[hs] at cs
   rw[hJ]
   refine Wz [17,17,290,4,244,154,4,178,38,38,217] ?_;refine Ki (Qt.yes J J J (Qj J J (cz) J)) J ?_;refine Wz [273,55,9,22,115,20,36,195,142,0,125,126,189,69,3] ?_
   refine Xb J (fun h => ?_) (fun h => ?_)
   ·have h2:Fi=true:=by rw[hFi]; exact h
    rw[h2]
    refine Wz [1,20,79,33,116] ?_
    exact Xn J J J J J (V4 [] J J J)
   ·have h2:Fi=false:=by rw[hFi]; exact h
    rw[h2]
    refine Wz [27,79,33,48] ?_
    exact Xn J J J J J (V4 [] J J J)
  | false =>
   rw[hs] at cs
   rw[hJ]
   refine Wz [17,17,290,4,244,154,4,178,38,38,217] ?_;refine Ki (Qt.yes J J J (Qj J J (cz) J)) J ?_;refine Wz [273,55,9,130,115,10,30,179,20,36,195,142,0,125,126,189,69,3] ?_
   refine Xb J (fun h => ?_) (fun h => ?_)
   ·have h2:Fi=true:=by rw[hFi]; exact h
    rw[h2]
    refine Wz [1,20,79,33,116] ?_
    exact Xn J J J J J (V4 [] J J J)
   ·have h2:Fi=false:=by rw[hFi]; exact h
    rw[h2]
    refine Wz [27,79,33,48] ?_
    exact Xn J J J J J (V4 [] J J J)
 ·have fJ:decide (((i.toNat &&& (4:Int).toNat:Nat):Int)≠0)=false:=by simpa[pressed] using hJ
  rw[show pressed i 4=false by simpa using hJ]
  refine Wz [17,17,290,4,244,154,90,102,43,9,130,115,10,30,179,20,36,195,142,0,125,126,189,69,3] ?_
  refine Xb J (fun h => ?_) (fun h => ?_)
  ·have h2:Fi=true:=by rw[hFi]; exact h
   rw[h2]
   refine Wz [1,20,79,33,116] ?_
   exact Xn J J J J J (V4 [] J J J)
  ·have h2:Fi=false:=by rw[hFi]; exact h
   rw[h2]
   refine Wz [27,79,33,48] ?_
   exact Xn J J J J J (V4 [] J J J)
theorem S_l02Steer (l:TLevel) (b:TBody) (i:Int) (hg:Enc.gd l) (hl:levelOk l=true) (hk:b.Kind=0) (hi:0≤i∧i≤15) (ht:0≤b.Timer∧b.Timer≤20) (hv : -15≤b.VY∧b.VY≤15) (hp:solidM l b.X b.Y 12=false):Con Tryz.prog 257 [] [ag l,ag b,ai i] [] (.tu [.ag ((Enc.e (steer l b i).1).map (V1.rd [])),.c (bv (steer l b i).2)]):=by
 obtain⟨⟨px1,px2⟩,⟨py1,py2⟩⟩:=Y5 hl (by decide) hp
 have cs:=S_l02Solid l b.X (b.Y+1) 12 hl ⟨by omega,by omega⟩ ⟨by omega,by omega⟩ (by decide) (by decide)
 have cz:Con Tryz.prog 221 [] [ai b.Kind] [] (I 12):=by rw[hk]; exact S_SizeOf 0
 obtain⟨T,hT⟩:∃ T,T=(if 0<b.Timer then b.Timer-1 else b.Timer):=⟨_,rfl⟩
 have hT1:0≤T∧T≤20:=by rw[hT]; split <;> omega
 obtain⟨R,hR⟩:∃ R,R=(pressed i 2 && !pressed i 1):=⟨_,rfl⟩
 obtain⟨Lf,hLf⟩:∃ Lf,Lf=(pressed i 1 && !pressed i 2):=⟨_,rfl⟩
 rw[steer,←hT,←hR,←hLf]
 refine Con.of Tryz.func257 J Tryz.ntmps257 J (fun E => ?_)
 refine Wz [147,61,2,21,268,3] ?_
 refine A_join (⟨68,[(2,I i),(3,.o (.c (.ptr 0 0))),(4,.o (.c (.ptr 1 0))),(6,.o (.c (.ptr 2 0)))],[.box ((Enc.e l).map (V1.rd [])),.box (stB b.Kind b.Owner b.X b.Y b.VX b.VY b.Aim b.Life T),.box (stB 0 0 0 0 0 0 0 0 0)]⟩:St) ?_ ?_
 ·refine Xb rfl (fun h => ?_) (fun h => ?_)
  ·have h:=Gqd h
   have hT2:b.Timer-1=T:=by rw[hT,if_pos h]
   refine Wz [115,10,35,152,52] ?_
   exact Mid.n (by rw[←hT2]; exact Ua [0,1,2])
  ·have h:=Gqf h
   have hT2:b.Timer=T:=by rw[hT,if_neg h]
   refine Qh ?_
   exact Mid.n (by rw[←hT2]; exact Ua [0,1,2])
 refine Wz [1,20,36,195,142,0,181] ?_;refine zx (Qt.grdT J J J (.hit .stop) (fun hgrd=>Y7 J J J J (by omega))) J ?_;refine Wz [189,69,3] ?_
 refine A_join (⟨68,[(2,I i),(3,.o (.c (.ptr 0 0))),(4,.o (.c (.ptr 1 0))),(6,.o (.c (.ptr 2 0)))],[.box ((Enc.e l).map (V1.rd [])),.box (stB b.Kind b.Owner b.X b.Y (if R=true then 3 else 0) b.VY (if R=true then 1 else b.Aim) b.Life T),.box (stB 0 0 0 0 0 0 0 0 0)]⟩:St) ?_ ?_
 ·refine Xb rfl (fun h => ?_) (fun h => ?_)
  ·have h2:R=true:=by rw[hR]; exact steer_and h
   refine Wz [1,20,115,152,52] ?_
   exact Mid.n (by rw[if_pos h2,if_pos h2]; exact Ua [0,1,2])
  ·have h2:¬R=true:=by rw[hR]; intro q; exact Gxx (Eq.trans (steer_no h).symm q)
   refine Qh ?_
   exact Mid.n (by rw[if_neg h2,if_neg h2]; exact Ua [0,1,2])
 refine Wz [36,195,142,0,181] ?_;refine zx (Qt.grdT J J J (.hit .stop) (fun hgrd=>Y7 J J J J (by omega))) J ?_;refine Wz [189,69,3] ?_
 refine A_join (⟨68,[(2,I i),(3,.o (.c (.ptr 0 0))),(4,.o (.c (.ptr 1 0))),(6,.o (.c (.ptr 2 0)))],[.box ((Enc.e l).map (V1.rd [])),.box (stB b.Kind b.Owner b.X b.Y (if Lf=true then -3 else if R=true then 3 else 0) b.VY (if Lf=true then -1 else if R=true then 1 else b.Aim) b.Life T),.box (stB 0 0 0 0 0 0 0 0 0)]⟩:St) ?_ ?_
 ·refine Xb rfl (fun h => ?_) (fun h => ?_)
  ·have h2:Lf=true:=by rw[hLf]; exact steer_and h
   refine Wz [1,20,115,152,52] ?_
   exact Mid.n (by rw[if_pos h2,if_pos h2]; exact Ua [0,1,2])
  ·have h2:¬Lf=true:=by rw[hLf]; intro q; exact Gxx (Eq.trans (steer_no h).symm q)
   refine Qh ?_
   exact Mid.n (by rw[if_neg h2,if_neg h2]; exact Ua [0,1,2])
 obtain⟨vx,hvx⟩:∃ vx,vx=(if Lf=true then -3 else if R=true then 3 else 0):=⟨_,rfl⟩
 obtain⟨am,ham⟩:∃ am,am=(if Lf=true then -1 else if R=true then 1 else b.Aim):=⟨_,rfl⟩
 rw[←hvx,←ham]
 obtain⟨Fi,hFi⟩:∃ Fi,Fi=(pressed i 8&&decide (T=0)):=⟨_,rfl⟩
 rw[←hFi]
 by_cases hJ:pressed i 4=true
 ·have fJ:decide (((i.toNat &&& (4:Int).toNat:Nat):Int)≠0)=true:=hJ
  cases hs:solidM l b.X (b.Y+1) 12 with
  | true =>
   rw[hs] at cs
   rw[hJ]
   refine Wz [17,17,291,4,244,154,4,178,38,38,217,38] ?_;refine Ki (Qt.yes J J J (Qj J J (cz) J)) J ?_;refine Wz [273,55,9,22,115,20,36,195,142,0,125,126,189,69,3] ?_
   refine Xb J (fun h => ?_) (fun h => ?_)
   ·have h2:Fi=true:=by rw[hFi]; exact h
    rw[h2]
    refine Wz [1,20,79,33,116] ?_
    exact Xn J J J J J (V4 [] J J J)
   ·have h2:Fi=false:=by rw[hFi]; exact h
    rw[h2]
    refine Wz [27,79,33,48] ?_
    exact Xn J J J J J (V4 [] J J J)
  | false =>
   rw[hs] at cs
   rw[hJ]
   refine Wz [17,17,291,4,244,154,4,178,38,38,217,38] ?_;refine Ki (Qt.yes J J J (Qj J J (cz) J)) J ?_;refine Wz [273,55,9,130,115,10,30,179,20,36,195,142,0,125,126,189,69,3] ?_
   refine Xb J (fun h => ?_) (fun h => ?_)
   ·have h2:Fi=true:=by rw[hFi]; exact h
    rw[h2]
    refine Wz [1,20,79,33,116] ?_
    exact Xn J J J J J (V4 [] J J J)
   ·have h2:Fi=false:=by rw[hFi]; exact h
    rw[h2]
    refine Wz [27,79,33,48] ?_
    exact Xn J J J J J (V4 [] J J J)
 ·have fJ:decide (((i.toNat &&& (4:Int).toNat:Nat):Int)≠0)=false:=by simpa[pressed] using hJ
  rw[show pressed i 4=false by simpa using hJ]
  refine Wz [17,17,291,4,244,154,90,102,202,43,9,130,115,10,30,179,20,36,195,142,0,125,126,189,69,3] ?_
  refine Xb J (fun h => ?_) (fun h => ?_)
  ·have h2:Fi=true:=by rw[hFi]; exact h
   rw[h2]
   refine Wz [1,20,79,33,116] ?_
   exact Xn J J J J J (V4 [] J J J)
  ·have h2:Fi=false:=by rw[hFi]; exact h
   rw[h2]
   refine Wz [27,79,33,48] ?_
   exact Xn J J J J J (V4 [] J J J)
end
section
open Go.RowKit

theorem Z5 {hit:Int→Bool} {step:Int}:∀ (n:Nat) (x:Int),hit x=false→hit (slide hit step n x).1=false
 |0,x,h=>h
 |n+1,x,h=>by
  rw[slide]
  split
  ·exact h
  ·exact Z5 n (x+step) (by rename_i q; simpa using q)
section
variable {P:Program} {E:Env} {st st':St}
theorem A_joinb {c d:Code} {id:Nat} {Q Q':Exit→St→Prop} (st':St) (h1:AWP P E c (blk id (Mid st')) st) (h2:AWP P E d Q' st'):AWP P E c (blk id (thn (AWP P E d Q') Q)) st :=
 AWP.mono (fun e s h=>by
  have hh:=h.h
  cases e with
  |normal=>obtain⟨_,hw⟩:=hh.h; exact⟨⟨AWP.weak hw h2⟩⟩
  | exit id' =>
   by_cases hi:id'=id
   ·subst hi
    have hh:(if id'=id' then Mid st' .normal s else Mid st' (.exit id') s):=hh
    rw[if_pos rfl] at hh
    obtain⟨_,hw⟩:=hh.h
    exact Xl (Q0 (AWP.weak hw h2))
   ·have hh:(if id'=id then Mid st' .normal s else Mid st' (.exit id') s):=hh
    rw[if_neg hi] at hh
    obtain⟨he,_⟩:=hh.h
    cases he
  |goto l=>obtain⟨he,_⟩:=Mid.h hh; cases he
  |ret=>obtain⟨he,_⟩:=Mid.h hh; cases he
  |panic c=>obtain⟨he,_⟩:=Mid.h hh; cases he
  |outgrown=>obtain⟨he,_⟩:=Mid.h hh; cases he) h1
end
theorem I_MoveBody (l:TLevel) (b:TBody) (hg:Enc.gd l) (hl:levelOk l=true) (hk:0≤b.Kind∧b.Kind≤2) (hp:solidM l b.X b.Y (sizeOf b.Kind)=false) (hx : -15≤b.VX∧b.VX≤15) (hy : -15≤b.VY∧b.VY≤15):Con Tryz.prog 226 [] [ag l,ag b] [] (.tu [.ag ((Enc.e (moveM l b).1).map (V1.rd [])),.c (bv (moveM l b).2)]):=by
 obtain⟨s4,s12⟩:=size_pos hk
 obtain⟨s,hs⟩:∃ s,s=sizeOf b.Kind:=⟨_,rfl⟩
 rw[←hs] at s4 s12 hp
 have cz:=I_SizeOf b.Kind
 rw[←hs] at cz
 obtain⟨⟨px1,px2⟩,⟨py1,py2⟩⟩:=Y5 hl ⟨by omega,by omega⟩ hp
 obtain⟨X1,b1,hR⟩:∃ X1 b1,(X1,b1)=moveX l b:=⟨_,_,rfl⟩
 obtain⟨Y1,b2,hS⟩:∃ Y1 b2,(Y1,b2)=moveY l b:=⟨_,_,rfl⟩
 obtain⟨N,hN⟩:∃ N,N=b.VX.natAbs:=⟨_,rfl⟩
 obtain⟨M,hM⟩:∃ M,M=b.VY.natAbs:=⟨_,rfl⟩
 obtain⟨d,hd⟩:∃ d,d=dirOf b.VX:=⟨_,rfl⟩
 obtain⟨e,he⟩:∃ e,e=dirOf b.VY:=⟨_,rfl⟩
 have hd1 : -1≤d∧d≤1:=by rw[hd,dirOf]; split <;> omega
 have he1 : -1≤e∧e≤1:=by rw[he,dirOf]; split <;> omega
 have hR1:slide (fun z=>solidM l z b.Y s) d (N-0) b.X=(X1,b1):=by rw[hs,hd,hN]; exact hR.symm
 have hR2:slide (fun z=>solidM l X1 z s) e (M-0) b.Y=(Y1,b2):=by rw[show X1=(moveX l b).1 by rw[←hR],hs,he,hM]; exact hS.symm
 have hp2:solidM l X1 b.Y s=false:=by have h:=Z5 (hit:=fun z=>solidM l z b.Y s) (step:=d) (N-0) b.X hp; rw[hR1] at h; exact h
 have hmm:moveM l b=(⟨b.Kind,b.Owner,X1,Y1,if b1=true then 0 else b.VX,if b2=true then 0 else b.VY,b.Aim,b.Life,b.Timer⟩,b1 || b2):=by rw[moveM,←hR,←hS]
 rw[hmm]
 have hNb:N≤15:=by omega
 have hMb:M≤15:=by omega
 have ca:=I_SolidAt l b.X b.Y s hg ⟨by omega,by omega⟩ ⟨by omega,by omega⟩
 rw[solidAt_eq hl ⟨by omega,by omega⟩,hp] at ca
 have c1:=Xu b.VX (-15) 15
 have c2:=Xu b.VY (-15) 15
 rw[Yr.2 hx] at c1
 rw[Yr.2 hy] at c2
 have d1:=I_direction b.VX hx
 have d2:=I_direction b.VY hy
 rw[←hd,←hN] at d1
 rw[←he,←hM] at d2
 refine Con.of Tryz.func226 J Tryz.ntmps226 J (fun E => ?_)
 refine Wz [147,61,2,14] ?_;refine zx (Qj J J (cz) J) J ?_;refine Wz [2,31,10,10,0] ?_;refine zx (Qj J J (ca) J) J ?_;refine Wz [47,21] ?_;refine zx (Qj J J (c1) J) J ?_;refine Wz [15,24] ?_;refine zx (Qj J J (c2) J) J ?_;refine Wz [71,45,34,14] ?_;refine M1 (Zc J J (d1) J J J) J J ?_;refine Wz [138,56,56,60,2,42] ?_
 refine A_joinb (⟨88,[(2,.o (.c (.ptr 0 0))),(3,.o (.c (.ptr 1 0))),(4,.o (.c (.ptr 2 0))),(6,I s),(7,B b1)],[.box ((Enc.e l).map (V1.rd [])),.box (stB b.Kind b.Owner X1 b.Y (if b1=true then 0 else b.VX) b.VY b.Aim b.Life b.Timer),.box (stB 0 0 0 0 0 0 0 0 0)]⟩:St) ?_ ?_
 ·skip
  refine Xj (fun m__ st=>∃ (k:Nat) (x:Int),N-k=m__∧(k≤N∧solidM l x b.Y s=false∧slide (fun z=>solidM l z b.Y s) d (N-k) x=(X1,b1))∧st=(⟨_,[(2,.o (.c (.ptr 0 0))),(3,.o (.c (.ptr 1 0))),(4,.o (.c (.ptr 2 0))),(6,I s),(7,B false),(8,I d),(9,I N),(10,I k)],[.box ((Enc.e l).map (V1.rd [])),.box (stB b.Kind b.Owner x b.Y b.VX b.VY b.Aim b.Life b.Timer),.box (stB 0 0 0 0 0 0 0 0 0)]⟩:St)) _ ⟨_,⟨0,b.X,J,⟨by omega,hp,hR1⟩,J⟩,Ua [0,1,2]⟩ ?_
  rintro m_A _ ⟨k,x,hk_A,hp_A,rfl⟩
  obtain⟨hkn,hfr,hsl⟩:=hp_A
  obtain⟨⟨qx1,qx2⟩,_⟩:=Y5 hl ⟨by omega,by omega⟩ hfr
  by_cases hlt:k<N
  ·have hb:decide ((k:Int)<N)=true:=Gqb (by omega)
   have cs:=I_solid l (x+d) b.Y s hl ⟨by omega,by omega⟩ ⟨by omega,by omega⟩ (by omega) (by omega)
   obtain⟨m,hm⟩:∃ m,N-k=m+1:=⟨N-k-1,by omega⟩
   cases hh:solidM l (x+d) b.Y s with
   |true =>
    rw[hh] at cs
    rw[hm,slide_hit (hit:=fun z=>solidM l z b.Y s) hh] at hsl
    obtain⟨rfl,rfl⟩:=Prod.mk.inj hsl
    refine Wz [18,105,16,31,10,0,30,10,0,218,22,1,20,34,158,245,274,159] ?_
    exact Mid.n (Ua [0,1,2])
   |false =>
    rw[hh] at cs
    rw[hm,slide_go (hit:=fun z=>solidM l z b.Y s) hh] at hsl
    refine Wz [18,105,16,31,10,0,30,10,0,218,47,115,10,0,30,152,52,135] ?_
    refine⟨_,(by omega),_,⟨k+1,x+d,J,⟨by omega,hh,by rw[show N-(k+1)=m by omega]; exact hsl⟩,J⟩,Ua [0,1,2]⟩
  ·have hb:decide ((k:Int)<N)=false:=Gqa (by omega)
   rw[show N-k=0 by omega,slide] at hsl
   obtain⟨rfl,rfl⟩:=Prod.mk.inj hsl
   refine Wz [18,13,130,158,159] ?_
   exact Mid.n (Ua [0,1,2])
 refine Wz [14] ?_;refine M1 (Zc J J (d2) J J J) J J ?_;refine Wz [138,56,56,60,2,42] ?_
 refine A_joinb (⟨88,[(2,.o (.c (.ptr 0 0))),(3,.o (.c (.ptr 1 0))),(4,.o (.c (.ptr 2 0))),(6,I s),(7,B (b1 || b2))],[.box ((Enc.e l).map (V1.rd [])),.box (stB b.Kind b.Owner X1 Y1 (if b1=true then 0 else b.VX) (if b2=true then 0 else b.VY) b.Aim b.Life b.Timer),.box (stB 0 0 0 0 0 0 0 0 0)]⟩:St) ?_ ?_
 ·skip
  refine Xj (fun m__ st=>∃ (k:Nat) (y:Int),M-k=m__∧(k≤M∧solidM l X1 y s=false∧slide (fun z=>solidM l X1 z s) e (M-k) y=(Y1,b2))∧st=(⟨_,[(2,.o (.c (.ptr 0 0))),(3,.o (.c (.ptr 1 0))),(4,.o (.c (.ptr 2 0))),(6,I s),(7,B b1),(8,I e),(9,I M),(11,I k)],[.box ((Enc.e l).map (V1.rd [])),.box (stB b.Kind b.Owner X1 y (if b1=true then 0 else b.VX) b.VY b.Aim b.Life b.Timer),.box (stB 0 0 0 0 0 0 0 0 0)]⟩:St)) _ ⟨_,⟨0,b.Y,J,⟨by omega,hp2,hR2⟩,J⟩,Ua [0,1,2]⟩ ?_
  rintro m_B _ ⟨k,y,hk_B,hp_B,rfl⟩
  obtain⟨hkn,hfr,hsl⟩:=hp_B
  obtain⟨_,⟨qx1,qx2⟩⟩:=Y5 hl ⟨by omega,by omega⟩ hfr
  by_cases hlt:k<M
  ·have hb:decide ((k:Int)<M)=true:=Gqb (by omega)
   have cs:=I_solid l X1 (y+e) s hl ⟨by omega,by omega⟩ ⟨by omega,by omega⟩ (by omega) (by omega)
   obtain⟨m,hm⟩:∃ m,M-k=m+1:=⟨M-k-1,by omega⟩
   cases hh:solidM l X1 (y+e) s with
   |true =>
    rw[hh] at cs
    rw[hm,slide_hit (hit:=fun z=>solidM l X1 z s) hh] at hsl
    obtain⟨rfl,rfl⟩:=Prod.mk.inj hsl
    refine Wz [18,105,16,31,10,10,0,30,0,218,22,1,20,34,158,245,274,159] ?_
    exact Mid.n (V0 [0,1,2] J (by kernel_rfl) (.c J (.c J (.c J (.c J (.cons (by cases b1 <;> rfl) (.nil)))))))
   |false =>
    rw[hh] at cs
    rw[hm,slide_go (hit:=fun z=>solidM l X1 z s) hh] at hsl
    refine Wz [18,105,16,31,10,10,0,30,0,218,47,115,10,0,30,152,52,135] ?_
    refine⟨_,(by omega),_,⟨k+1,y+e,J,⟨by omega,hh,by rw[show M-(k+1)=m by omega]; exact hsl⟩,J⟩,Ua [0,1,2]⟩
  ·have hb:decide ((k:Int)<M)=false:=Gqa (by omega)
   rw[show M-k=0 by omega,slide] at hsl
   obtain⟨rfl,rfl⟩:=Prod.mk.inj hsl
   refine Wz [18,13,130,158,159] ?_
   exact Mid.n (V0 [0,1,2] J (by kernel_rfl) (.c J (.c J (.c J (.c J (.cons (by cases b1 <;> rfl) (.nil)))))))
 refine Wz [124,33,48] ?_
 exact Xn J J J J J (V4 [] J J J)
theorem S_l02Move (l:TLevel) (b:TBody) (hg:Enc.gd l) (hl:levelOk l=true) (hk:0≤b.Kind∧b.Kind≤2) (hp:solidM l b.X b.Y (sizeOf b.Kind)=false) (hx : -15≤b.VX∧b.VX≤15) (hy : -15≤b.VY∧b.VY≤15):Con Tryz.prog 259 [] [ag l,ag b] [] (.tu [.ag ((Enc.e (moveM l b).1).map (V1.rd [])),.c (bv (moveM l b).2)]):=by
 obtain⟨s4,s12⟩:=size_pos hk
 obtain⟨s,hs⟩:∃ s,s=sizeOf b.Kind:=⟨_,rfl⟩
 rw[←hs] at s4 s12 hp
 have cz:=S_SizeOf b.Kind
 rw[←hs] at cz
 obtain⟨⟨px1,px2⟩,⟨py1,py2⟩⟩:=Y5 hl ⟨by omega,by omega⟩ hp
 obtain⟨X1,b1,hR⟩:∃ X1 b1,(X1,b1)=moveX l b:=⟨_,_,rfl⟩
 obtain⟨Y1,b2,hS⟩:∃ Y1 b2,(Y1,b2)=moveY l b:=⟨_,_,rfl⟩
 obtain⟨N,hN⟩:∃ N,N=b.VX.natAbs:=⟨_,rfl⟩
 obtain⟨M,hM⟩:∃ M,M=b.VY.natAbs:=⟨_,rfl⟩
 obtain⟨d,hd⟩:∃ d,d=dirOf b.VX:=⟨_,rfl⟩
 obtain⟨e,he⟩:∃ e,e=dirOf b.VY:=⟨_,rfl⟩
 have hd1 : -1≤d∧d≤1:=by rw[hd,dirOf]; split <;> omega
 have he1 : -1≤e∧e≤1:=by rw[he,dirOf]; split <;> omega
 have hR1:slide (fun z=>solidM l z b.Y s) d (N-0) b.X=(X1,b1):=by rw[hs,hd,hN]; exact hR.symm
 have hR2:slide (fun z=>solidM l X1 z s) e (M-0) b.Y=(Y1,b2):=by rw[show X1=(moveX l b).1 by rw[←hR],hs,he,hM]; exact hS.symm
 have hp2:solidM l X1 b.Y s=false:=by have h:=Z5 (hit:=fun z=>solidM l z b.Y s) (step:=d) (N-0) b.X hp; rw[hR1] at h; exact h
 have hmm:moveM l b=(⟨b.Kind,b.Owner,X1,Y1,if b1=true then 0 else b.VX,if b2=true then 0 else b.VY,b.Aim,b.Life,b.Timer⟩,b1 || b2):=by rw[moveM,←hR,←hS]
 rw[hmm]
 have hNb:N≤15:=by omega
 have hMb:M≤15:=by omega
 refine Con.of Tryz.func259 J Tryz.ntmps259 J (fun E => ?_)
 refine Wz [147,61,2,14] ?_;refine zx (Qj J J (cz) J) J ?_;refine Wz [2,34,34,14,46,67] ?_
 refine A_join (⟨65,[(2,.o (.c (.ptr 0 0))),(3,.o (.c (.ptr 1 0))),(4,.o (.c (.ptr 2 0))),(6,I s),(7,B false),(8,I d),(9,I N)],[.box ((Enc.e l).map (V1.rd [])),.box (stB b.Kind b.Owner b.X b.Y b.VX b.VY b.Aim b.Life b.Timer),.box (stB 0 0 0 0 0 0 0 0 0)]⟩:St) ?_ ?_
 ·refine Xb rfl (fun h => ?_) (fun h => ?_)
  ·have h:=Gqd h
   obtain rfl:d = -1:=by rw[hd,dirOf,if_pos h]
   have hq:(N:Int) = -b.VX:=by omega
   refine Wz [34,65,289,149] ?_
   exact Mid.n (V0 [0,1,2] J (by kernel_rfl) (.c J (.c J (.c J (.c J (.c J (.c J (.cons (by rw[hq]; rfl) (.nil)))))))))
  ·have h:=Gqf h
   obtain rfl:d=1:=by rw[hd,dirOf,if_neg h]
   have hq:(N:Int)=b.VX:=by omega
   refine Qh ?_
   exact Mid.n (V0 [0,1,2] J (by kernel_rfl) (.c J (.c J (.c J (.c J (.c J (.c J (.cons (by rw[hq]; rfl) (.nil)))))))))
 refine Wz [170] ?_
 refine A_joinb (⟨65,[(2,.o (.c (.ptr 0 0))),(3,.o (.c (.ptr 1 0))),(4,.o (.c (.ptr 2 0))),(6,I s),(7,B b1)],[.box ((Enc.e l).map (V1.rd [])),.box (stB b.Kind b.Owner X1 b.Y (if b1=true then 0 else b.VX) b.VY b.Aim b.Life b.Timer),.box (stB 0 0 0 0 0 0 0 0 0)]⟩:St) ?_ ?_
 ·skip
  refine Xj (fun m__ st=>∃ (k:Nat) (x:Int),N-k=m__∧(k≤N∧solidM l x b.Y s=false∧slide (fun z=>solidM l z b.Y s) d (N-k) x=(X1,b1))∧st=(⟨_,[(2,.o (.c (.ptr 0 0))),(3,.o (.c (.ptr 1 0))),(4,.o (.c (.ptr 2 0))),(6,I s),(7,B false),(8,I d),(9,I ((N:Int)-k))],[.box ((Enc.e l).map (V1.rd [])),.box (stB b.Kind b.Owner x b.Y b.VX b.VY b.Aim b.Life b.Timer),.box (stB 0 0 0 0 0 0 0 0 0)]⟩:St)) _ ⟨(fun (k:Nat) (x:Int)=>(⟨_,[(2,.o (.c (.ptr 0 0))),(3,.o (.c (.ptr 1 0))),(4,.o (.c (.ptr 2 0))),(6,I s),(7,B false),(8,I d),(9,I ((N:Int)-k))],[.box ((Enc.e l).map (V1.rd [])),.box (stB b.Kind b.Owner x b.Y b.VX b.VY b.Aim b.Life b.Timer),.box (stB 0 0 0 0 0 0 0 0 0)]⟩:St)) (0) (b.X),⟨0,b.X,J,⟨by omega,hp,hR1⟩,J⟩,V0 [0,1,2] J (by kernel_rfl) (.c J (.c J (.c J (.c J (.c J (.c J (.cons (by rw[show ((N:Int)-((0:Nat):Int))=(N:Int) by omega]; rfl) (.nil))))))))⟩ ?_
  rintro m_A _ ⟨k,x,hk_A,hp_A,rfl⟩
  obtain⟨hkn,hfr,hsl⟩:=hp_A
  obtain⟨⟨qx1,qx2⟩,_⟩:=Y5 hl ⟨by omega,by omega⟩ hfr
  by_cases hlt:k<N
  ·have hb:decide ((0:Int)<(N:Int)-k)=true:=Gqb (by omega)
   have cs:=S_l02Solid l (x+d) b.Y s hl ⟨by omega,by omega⟩ ⟨by omega,by omega⟩ (by omega) (by omega)
   obtain⟨m,hm⟩:∃ m,N-k=m+1:=⟨N-k-1,by omega⟩
   cases hh:solidM l (x+d) b.Y s with
   |true =>
    rw[hh] at cs
    rw[hm,slide_hit (hit:=fun z=>solidM l z b.Y s) hh] at hsl
    obtain⟨rfl,rfl⟩:=Prod.mk.inj hsl
    refine Wz [36,84,22,16,31,10,0,30,10,0,218,22,1,20,34,158,245,274,159] ?_
    exact Mid.n (Ua [0,1,2])
   |false =>
    rw[hh] at cs
    rw[hm,slide_go (hit:=fun z=>solidM l z b.Y s) hh] at hsl
    refine Wz [36,84,22,16,31,10,0,30,10,0,218,47,115,10,0,30,152,52,172,35,2] ?_
    refine⟨_,(by omega),(fun (k:Nat) (x:Int)=>(⟨_,[(2,.o (.c (.ptr 0 0))),(3,.o (.c (.ptr 1 0))),(4,.o (.c (.ptr 2 0))),(6,I s),(7,B false),(8,I d),(9,I ((N:Int)-k))],[.box ((Enc.e l).map (V1.rd [])),.box (stB b.Kind b.Owner x b.Y b.VX b.VY b.Aim b.Life b.Timer),.box (stB 0 0 0 0 0 0 0 0 0)]⟩:St)) (k+1) (x+d),⟨k+1,x+d,J,⟨by omega,hh,by rw[show N-(k+1)=m by omega]; exact hsl⟩,J⟩,V0 [0,1,2] J (by kernel_rfl) (.c J (.c J (.c J (.c J (.c J (.c J (.cons (by rw[show ((N:Int)-((k+1:Nat):Int))=(N:Int)-k-1 by omega]; rfl) (.nil))))))))⟩
  ·have hb:decide ((0:Int)<(N:Int)-k)=false:=Gqa (by omega)
   rw[show N-k=0 by omega,slide] at hsl
   obtain⟨rfl,rfl⟩:=Prod.mk.inj hsl
   refine Wz [36,84,130,158,159] ?_
   exact Mid.n (Ua [0,1,2])
 refine Wz [34,14,46,67] ?_
 refine A_join (⟨65,[(2,.o (.c (.ptr 0 0))),(3,.o (.c (.ptr 1 0))),(4,.o (.c (.ptr 2 0))),(6,I s),(7,B b1),(8,I e),(9,I M)],[.box ((Enc.e l).map (V1.rd [])),.box (stB b.Kind b.Owner X1 b.Y (if b1=true then 0 else b.VX) b.VY b.Aim b.Life b.Timer),.box (stB 0 0 0 0 0 0 0 0 0)]⟩:St) ?_ ?_
 ·refine Xb rfl (fun h => ?_) (fun h => ?_)
  ·have h:=Gqd h
   obtain rfl:e = -1:=by rw[he,dirOf,if_pos h]
   have hq:(M:Int) = -b.VY:=by omega
   refine Wz [34,65,289,149] ?_
   exact Mid.n (V0 [0,1,2] J (by kernel_rfl) (.c J (.c J (.c J (.c J (.c J (.c J (.cons (by rw[hq]; rfl) (.nil)))))))))
  ·have h:=Gqf h
   obtain rfl:e=1:=by rw[he,dirOf,if_neg h]
   have hq:(M:Int)=b.VY:=by omega
   refine Qh ?_
   exact Mid.n (V0 [0,1,2] J (by kernel_rfl) (.c J (.c J (.c J (.c J (.c J (.c J (.cons (by rw[hq]; rfl) (.nil)))))))))
 refine Wz [170] ?_
 refine A_joinb (⟨65,[(2,.o (.c (.ptr 0 0))),(3,.o (.c (.ptr 1 0))),(4,.o (.c (.ptr 2 0))),(6,I s),(7,B (b1 || b2))],[.box ((Enc.e l).map (V1.rd [])),.box (stB b.Kind b.Owner X1 Y1 (if b1=true then 0 else b.VX) (if b2=true then 0 else b.VY) b.Aim b.Life b.Timer),.box (stB 0 0 0 0 0 0 0 0 0)]⟩:St) ?_ ?_
 ·skip
  refine Xj (fun m__ st=>∃ (k:Nat) (y:Int),M-k=m__∧(k≤M∧solidM l X1 y s=false∧slide (fun z=>solidM l X1 z s) e (M-k) y=(Y1,b2))∧st=(⟨_,[(2,.o (.c (.ptr 0 0))),(3,.o (.c (.ptr 1 0))),(4,.o (.c (.ptr 2 0))),(6,I s),(7,B b1),(8,I e),(9,I ((M:Int)-k))],[.box ((Enc.e l).map (V1.rd [])),.box (stB b.Kind b.Owner X1 y (if b1=true then 0 else b.VX) b.VY b.Aim b.Life b.Timer),.box (stB 0 0 0 0 0 0 0 0 0)]⟩:St)) _ ⟨(fun (k:Nat) (y:Int)=>(⟨_,[(2,.o (.c (.ptr 0 0))),(3,.o (.c (.ptr 1 0))),(4,.o (.c (.ptr 2 0))),(6,I s),(7,B b1),(8,I e),(9,I ((M:Int)-k))],[.box ((Enc.e l).map (V1.rd [])),.box (stB b.Kind b.Owner X1 y (if b1=true then 0 else b.VX) b.VY b.Aim b.Life b.Timer),.box (stB 0 0 0 0 0 0 0 0 0)]⟩:St)) (0) (b.Y),⟨0,b.Y,J,⟨by omega,hp2,hR2⟩,J⟩,V0 [0,1,2] J (by kernel_rfl) (.c J (.c J (.c J (.c J (.c J (.c J (.cons (by rw[show ((M:Int)-((0:Nat):Int))=(M:Int) by omega]; rfl) (.nil))))))))⟩ ?_
  rintro m_B _ ⟨k,y,hk_B,hp_B,rfl⟩
  obtain⟨hkn,hfr,hsl⟩:=hp_B
  obtain⟨_,⟨qx1,qx2⟩⟩:=Y5 hl ⟨by omega,by omega⟩ hfr
  by_cases hlt:k<M
  ·have hb:decide ((0:Int)<(M:Int)-k)=true:=Gqb (by omega)
   have cs:=S_l02Solid l X1 (y+e) s hl ⟨by omega,by omega⟩ ⟨by omega,by omega⟩ (by omega) (by omega)
   obtain⟨m,hm⟩:∃ m,M-k=m+1:=⟨M-k-1,by omega⟩
   cases hh:solidM l X1 (y+e) s with
   |true =>
    rw[hh] at cs
    rw[hm,slide_hit (hit:=fun z=>solidM l X1 z s) hh] at hsl
    obtain⟨rfl,rfl⟩:=Prod.mk.inj hsl
    refine Wz [36,84,22,16,31,10,10,0,30,0,218,22,1,20,34,158,245,274,159] ?_
    exact Mid.n (V0 [0,1,2] J (by kernel_rfl) (.c J (.c J (.c J (.c J (.cons (by cases b1 <;> rfl) (.nil)))))))
   |false =>
    rw[hh] at cs
    rw[hm,slide_go (hit:=fun z=>solidM l X1 z s) hh] at hsl
    refine Wz [36,84,22,16,31,10,10,0,30,0,218,47,115,10,0,30,152,52,172,35,2] ?_
    refine⟨_,(by omega),(fun (k:Nat) (y:Int)=>(⟨_,[(2,.o (.c (.ptr 0 0))),(3,.o (.c (.ptr 1 0))),(4,.o (.c (.ptr 2 0))),(6,I s),(7,B b1),(8,I e),(9,I ((M:Int)-k))],[.box ((Enc.e l).map (V1.rd [])),.box (stB b.Kind b.Owner X1 y (if b1=true then 0 else b.VX) b.VY b.Aim b.Life b.Timer),.box (stB 0 0 0 0 0 0 0 0 0)]⟩:St)) (k+1) (y+e),⟨k+1,y+e,J,⟨by omega,hh,by rw[show M-(k+1)=m by omega]; exact hsl⟩,J⟩,V0 [0,1,2] J (by kernel_rfl) (.c J (.c J (.c J (.c J (.c J (.c J (.cons (by rw[show ((M:Int)-((k+1:Nat):Int))=(M:Int)-k-1 by omega]; rfl) (.nil))))))))⟩
  ·have hb:decide ((0:Int)<(M:Int)-k)=false:=Gqa (by omega)
   rw[show M-k=0 by omega,slide] at hsl
   obtain⟨rfl,rfl⟩:=Prod.mk.inj hsl
   refine Wz [36,84,130,158,159] ?_
   exact Mid.n (V0 [0,1,2] J (by kernel_rfl) (.c J (.c J (.c J (.c J (.cons (by cases b1 <;> rfl) (.nil)))))))
 refine Wz [124,33,48] ?_
 exact Xn J J J J J (V4 [] J J J)
end
section
open Go.RowKit

def metC (bs:List TBody) (b:TBody) (o:Int) (k:Nat):Bool:=match bs[k]? with
 |none=>false
 |some p=>(decide ((k:Int)≠o)&&decide (0<p.Life))&&meetM p b
def metF (bs:List TBody) (b:TBody) (o:Int):Nat→Option Nat
 |0=>none
 |n+1=>match metF bs b o n with
  |some k=>some k
  |none=>if metC bs b o n=true then some n else none
def metI (bs:List TBody) (b:TBody) (o:Int) (n:Nat):Int:=match metF bs b o n with
 |some k=>k
 |none => -1
section
variable {bs:List TBody} {b p:TBody} {o:Int} {k n:Nat}
theorem metC_at (h:bs[k]? = some p):metC bs b o k=((decide ((k:Int)≠o)&&decide (0<p.Life))&&meetM p b):=by rw[metC,h]
theorem metF_no (h:metF bs b o k=none) (hc:metC bs b o k=false):metF bs b o (k+1)=none:=by rw[metF,h]; simp[hc]
theorem metF_hit (h:metF bs b o k=none) (hc:metC bs b o k=true):∀ {n:Nat},k<n→metF bs b o n=some k
 | n+1,hlt=>by
  rcases Gqn k n with h1 | h1
  ·rw[metF,metF_hit h hc h1]
  ·have:k=n:=by omega
   subst this
   rw[metF,h]; simp[hc]
theorem metF_lt:∀ {n:Nat},metF bs b o n=some k→k<n∧metC bs b o k=true
 |0,h=>by cases h
 | n+1,h=>by
  rw[metF] at h
  cases hm:metF bs b o n with
  |some j =>
   rw[hm] at h
   cases h
   have:=metF_lt hm
   exact⟨by omega,this.2⟩
  |none =>
   rw[hm] at h
   simp only at h
   split at h
   ·cases h; rename_i hc; exact⟨by omega,hc⟩
   ·cases h
theorem metC_life (h:metC bs b o k=true):∃ p,bs[k]? = some p∧0<p.Life∧(k:Int)≠o∧meetM p b=true:=by
 unfold metC at h
 split at h
 ·cases h
 ·rename_i p hp
  simp only[Gqg,decide_eq_true_eq] at h
  exact⟨p,hp,h.1.2,h.1.1,h.2⟩
end
theorem Yh {α:Type} [Enc α] {xs:List α} {i:Nat} {x:α} (h:xs[i]? = some x):(els xs)[(i:Int).toNat]? = some (Enc.e x):=by simp[els,h]
theorem Z7 {α:Type} {xs:List α} {i:Nat} (h:i<xs.length):∃ x,xs[i]? = some x:=⟨xs[i],Gqe h⟩
theorem I_playerMet (w:TWorld) (b:TBody) (o:Int) (hn:w.Scores.length≤w.Bodies.length) (h4:w.Scores.length≤4) (hp:∀ k p,k<w.Scores.length→w.Bodies[k]? = some p→Placed p) (hb:Placed b):Con Tryz.prog 227 [.box [.ref 1,jn w.Tick,jn w.Seed,.ref 2,.ref 3],.row 1 (els w.Level.Rows),.row 1 (els w.Scores),.row 9 (els w.Bodies),.gh 0 (.c (.ptr 0 0)),.gh 6 (.c (.ref 3))] [.c (.ptr 0 0),ag b,ai o] [.box [.ref 1,jn w.Tick,jn w.Seed,.ref 2,.ref 3],.row 1 (els w.Level.Rows),.row 1 (els w.Scores),.row 9 (els w.Bodies),.gh 0 (.c (.ptr 0 0)),.gh 6 (.c (.ref 3))] (I (metI w.Bodies b o w.Scores.length)):=by
 have hls:=Ye w.Scores
 have hlb:=Ye w.Bodies
 refine Con.of Tryz.func227 J Tryz.ntmps227 J (fun E => ?_)
 refine Wz [194,46,37,41,140,64] ?_;refine Xj (fun m st=>∃ k:Nat,k+m=w.Scores.length∧(metF w.Bodies b o k=none)∧st=(⟨_,[(0,.o (.c (.ptr 0 0))),(2,I o),(4,.o (.c (.ptr 6 0))),(12,I (els w.Scores).length),(13,I k)],[.box [.ref 1,jn w.Tick,jn w.Seed,.ref 2,.ref 3],.row 1 (els w.Level.Rows),.row 1 (els w.Scores),.row 9 (els w.Bodies),.gh 0 (.c (.ptr 0 0)),.gh 6 (.c (.ref 3)),.box ((Enc.e b).map (V1.rd []))]⟩:St)) (w.Scores.length) ⟨_,⟨0,by omega,J,J⟩,Ua [0,1,2,3,4,5,6]⟩ ?_
 rintro m_A _ ⟨k,hk_A,hp_A,rfl⟩
 by_cases hlt:k<w.Scores.length
 ·have hb0:decide ((k:Int)<(els w.Scores).length)=true:=Gqb (by omega)
  obtain⟨p,hp1⟩:=Z7 (xs:=w.Bodies) (i:=k) (by omega)
  have he:=Yh hp1
  have cm:=I_BodiesMeet p b (hp k p hlt hp1) hb
  have hc:=metC_at (b:=b) (o:=o) hp1
  by_cases h1:(k:Int)=o
  ·have f1:decide ((k:Int)≠o)=false:=Gqa (fun q=>q h1)
   refine Wz [1,13,117,51,50,2,17,275,104,154,90,102,173,43,90,102,173,43,9,127,54] ?_
   exact⟨w.Scores.length-(k+1),by omega,_,⟨k+1,by omega,metF_no hp_A (by rw[hc,f1]; rfl),J⟩,Ua [0,1,2,3,4,5,6]⟩
  have f1:decide ((k:Int)≠o)=true:=Gqb h1
  by_cases h2:0<p.Life
  ·have f2:decide (0<p.Life)=true:=Gqb h2
   cases h3:meetM p b with
   |false =>
    rw[h3] at cm
    refine Wz [1,13,117,51,50,2,17,275,104,154,4,66,174,62,148,196,168,246,55,4,66,174,62,148,276,178] ?_;refine Ki (Qt.yes J J J (Qj J J (cm) J)) J ?_;refine Wz [55,9,127,54] ?_
    exact⟨w.Scores.length-(k+1),by omega,_,⟨k+1,by omega,metF_no hp_A (by rw[hc,h3,Gxu]),J⟩,Ua [0,1,2,3,4,5,6]⟩
   |true =>
    rw[h3] at cm
    refine Wz [1,13,117,51,50,2,17,275,104,154,4,66,174,62,148,196,168,246,55,4,66,174,62,148,276,178] ?_;refine Ki (Qt.yes J J J (Qj J J (cm) J)) J ?_;refine Wz [55,9,22,6,182,40] ?_
    exact V3 J (V4 [0,1,2,3,4,5] J J (Xv (by rw[metI,metF_hit hp_A (by rw[hc,f1,f2,h3]; rfl) hlt])))
  ·have f2:decide (0<p.Life)=false:=Gqa h2
   refine Wz [1,13,117,51,50,2,17,275,104,154,4,66,174,62,148,196,168,246,55,90,102,173,43,9,127,54] ?_
   exact⟨w.Scores.length-(k+1),by omega,_,⟨k+1,by omega,metF_no hp_A (by rw[hc,f2,Gxu,Bool.false_and]),J⟩,Ua [0,1,2,3,4,5,6]⟩
 ·have hb0:decide ((k:Int)<(els w.Scores).length)=false:=Gqa (by omega)
  have hk:k=w.Scores.length:=by omega
  refine Wz [1,13,117,156,29,98] ?_
  exact V3 J (V4 [0,1,2,3,4,5] J J (Xv (by rw[metI,←hk,hp_A])))
theorem S_l02Meets (w:TWorld) (b:TBody) (o:Int) (hn:w.Scores.length≤w.Bodies.length) (h4:w.Scores.length≤4) (hp:∀ k p,k<w.Scores.length→w.Bodies[k]? = some p→Placed p) (hb:Placed b):Con Tryz.prog 278 [.box [.ref 1,jn w.Tick,jn w.Seed,.ref 2,.ref 3],.row 1 (els w.Level.Rows),.row 1 (els w.Scores),.row 9 (els w.Bodies),.gh 0 (.c (.ptr 0 0)),.gh 6 (.c (.ref 3))] [.c (.ptr 0 0),ag b,ai o] [.box [.ref 1,jn w.Tick,jn w.Seed,.ref 2,.ref 3],.row 1 (els w.Level.Rows),.row 1 (els w.Scores),.row 9 (els w.Bodies),.gh 0 (.c (.ptr 0 0)),.gh 6 (.c (.ref 3))] (I (metI w.Bodies b o w.Scores.length)):=by
 have hls:=Ye w.Scores
 have hlb:=Ye w.Bodies
 refine Con.of Tryz.func278 J Tryz.ntmps278 J (fun E => ?_)
 refine Wz [44,42] ?_;refine Xj (fun m st=>∃ k:Nat,k+m=w.Scores.length∧(metF w.Bodies b o k=none)∧st=(⟨_,[(0,.o (.c (.ptr 0 0))),(2,I o),(4,.o (.c (.ptr 6 0))),(7,I k)],[.box [.ref 1,jn w.Tick,jn w.Seed,.ref 2,.ref 3],.row 1 (els w.Level.Rows),.row 1 (els w.Scores),.row 9 (els w.Bodies),.gh 0 (.c (.ptr 0 0)),.gh 6 (.c (.ref 3)),.box ((Enc.e b).map (V1.rd []))]⟩:St)) (w.Scores.length) ⟨_,⟨0,by omega,J,J⟩,Ua [0,1,2,3,4,5,6]⟩ ?_
 rintro m_A _ ⟨k,hk_A,hp_A,rfl⟩
 by_cases hlt:k<w.Scores.length
 ·have hb0:decide ((k:Int)<(els w.Scores).length)=true:=Gqb (by omega)
  obtain⟨p,hp1⟩:=Z7 (xs:=w.Bodies) (i:=k) (by omega)
  have he:=Yh hp1
  have cm:=S_BodiesMeet p b (hp k p hlt hp1) hb
  have hc:=metC_at (b:=b) (o:=o) hp1
  by_cases h1:(k:Int)=o
  ·have f1:decide ((k:Int)≠o)=false:=Gqa (fun q=>q h1)
   refine Wz [18,37,41,105,108,277,104,154,90,102,173,43,90,102,173,43,9,80] ?_
   exact⟨w.Scores.length-(k+1),by omega,_,⟨k+1,by omega,metF_no hp_A (by rw[hc,f1]; rfl),J⟩,Ua [0,1,2,3,4,5,6]⟩
  have f1:decide ((k:Int)≠o)=true:=Gqb h1
  by_cases h2:0<p.Life
  ·have f2:decide (0<p.Life)=true:=Gqb h2
   cases h3:meetM p b with
   |false =>
    rw[h3] at cm
    refine Wz [18,37,41,105,108,277,104,154,4,66,174,62,148,196,168,246,55,4,66,174,62,148,276,178] ?_;refine Ki (Qt.yes J J J (Qj J J (cm) J)) J ?_;refine Wz [55,9,80] ?_
    exact⟨w.Scores.length-(k+1),by omega,_,⟨k+1,by omega,metF_no hp_A (by rw[hc,h3,Gxu]),J⟩,Ua [0,1,2,3,4,5,6]⟩
   |true =>
    rw[h3] at cm
    refine Wz [18,37,41,105,108,277,104,154,4,66,174,62,148,196,168,246,55,4,66,174,62,148,276,178] ?_;refine Ki (Qt.yes J J J (Qj J J (cm) J)) J ?_;refine Wz [55,9,22,6,182,40] ?_
    exact V3 J (V4 [0,1,2,3,4,5] J J (Xv (by rw[metI,metF_hit hp_A (by rw[hc,f1,f2,h3]; rfl) hlt])))
  ·have f2:decide (0<p.Life)=false:=Gqa h2
   refine Wz [18,37,41,105,108,277,104,154,4,66,174,62,148,196,168,246,55,90,102,173,43,9,80] ?_
   exact⟨w.Scores.length-(k+1),by omega,_,⟨k+1,by omega,metF_no hp_A (by rw[hc,f2,Gxu,Bool.false_and]),J⟩,Ua [0,1,2,3,4,5,6]⟩
 ·have hb0:decide ((k:Int)<(els w.Scores).length)=false:=Gqa (by omega)
  have hk:k=w.Scores.length:=by omega
  refine Wz [18,37,41,13,130,29,98] ?_
  exact V3 J (V4 [0,1,2,3,4,5] J J (Xv (by rw[metI,←hk,hp_A])))
def addM (ss:List Int) (k:Nat):List Int:=match ss[k]? with
 |none=>ss
 |some s=>ss.set k (min (s+1) 1000000)
theorem addM_at {ss:List Int} {k:Nat} {s:Int} (h:ss[k]? = some s):addM ss k=ss.set k (min (s+1) 1000000):=by rw[addM,h]
theorem addM_els {ss:List Int} {k:Nat} {s:Int} (h:ss[k]? = some s):els (addM ss k)=(els ss).set (k:Int).toNat (splice (Enc.e s) 0 [.v (.int .i64 (min (s+1) 1000000))]):=by
 rw[addM_at h,Yg]; rfl
theorem addM_same {ss:List Int} {k:Nat} {s:Int} (h:ss[k]? = some s) (hs:¬s<1000000) (h1:s≤1000000):addM ss k=ss:=by
 rw[addM_at h,show min (s+1) 1000000=s by omega]
 obtain⟨hk,rfl⟩:=Gqm.1 h
 exact List.set_getElem_self hk
theorem I_addScore (w:TWorld) (k:Nat) (s:Int) (hs:w.Scores[k]? = some s) (h0:0≤s∧s≤1000000):Con Tryz.prog 228 [.box [.ref 1,jn w.Tick,jn w.Seed,.ref 2,.ref 3],.row 1 (els w.Level.Rows),.row 1 (els w.Scores),.row 9 (els w.Bodies),.gh 0 (.c (.ptr 0 0)),.gh 5 (.c (.ref 3))] [.c (.ptr 0 0),ai k] [.box [.ref 1,jn w.Tick,jn w.Seed,.ref 2,.ref 3],.row 1 (els w.Level.Rows),.row 1 (els (addM w.Scores k)),.row 9 (els w.Bodies),.gh 0 (.c (.ptr 0 0)),.gh 5 (.c (.ref 3))] (.tu []):=by
 have hls:=Ye w.Scores
 have hk:=Yo hs
 have he:=Yh hs
 by_cases h1:s<1000000
 ·have f1:decide (s<1000000)=true:=Gqb h1
  rw[addM_els hs,show min (s+1) 1000000=s+1 by omega]
  refine Con.of Tryz.func228 J Tryz.ntmps228 J (fun E => ?_)
  refine Wz [6,37,0,99,128,105,65,37,0,99,128,30,99,91,52,203] ?_
  exact Xo J (V4 [0,1,2,3,4,5] J J J)
 ·have f1:decide (s<1000000)=false:=Gqa h1
  rw[addM_same hs h1 h0.2]
  refine Con.of Tryz.func228 J Tryz.ntmps228 J (fun E => ?_)
  refine Wz [6,37,0,99,128,13,127,203] ?_
  exact Xo J (V4 [0,1,2,3,4,5] J J J)
theorem S_l02Point (w:TWorld) (k:Nat) (s:Int) (hs:w.Scores[k]? = some s) (h0:0≤s∧s≤1000000):Con Tryz.prog 279 [.box [.ref 1,jn w.Tick,jn w.Seed,.ref 2,.ref 3],.row 1 (els w.Level.Rows),.row 1 (els w.Scores),.row 9 (els w.Bodies),.gh 0 (.c (.ptr 0 0)),.gh 5 (.c (.ref 3))] [.c (.ptr 0 0),ai k] [.box [.ref 1,jn w.Tick,jn w.Seed,.ref 2,.ref 3],.row 1 (els w.Level.Rows),.row 1 (els (addM w.Scores k)),.row 9 (els w.Bodies),.gh 0 (.c (.ptr 0 0)),.gh 5 (.c (.ref 3))] (.tu []):=by
 have hls:=Ye w.Scores
 have hk:=Yo hs
 have he:=Yh hs
 rw[addM_els hs]
 refine Con.of Tryz.func279 J Tryz.ntmps279 J (fun E => ?_)
 skip
 refine Xi [[],[0],[0,1],[0,1,2],[],[],[5],[5,6],[5,6,7],[],[5,6,7,8,9],[5,6,7,8,9,10],[5,6,7,8,9,10,11],[5,6,7,8,9,10,11,12],(u9 14),(u9 15)] [[],[4],[4,5],[4,5,6],[],[],[9],[9,10],[9,10,11],[],[9,10,11,12,13],[9,10,11,12,13,14],[9,10,11,12,13,14,15],[9,10,11,12,13,14,15,16],[4,5,6,7,8,9,10,11,12,13,14,15,16,17],[4,5,6,7,8,9,10,11,12,13,14,15,16,17,18]] [[8,9,10,11,12,13,14,15,16,17],[8,9,10,11,12,13,14,15,16,17],[8,9,10,11,12,13,14,15,16,17],[8,9,10,11,12,13,14,15,16,17],[4,5,6,7,9,10,11,12,13,14,15,16,17],[4,5,6,7,8,13],[4,5,6,7,8,13],[4,5,6,7,8,13],[4,5,6,7,8,13],[4,5,6,7,8,9,10,11,12],[4,5,6,7,8],[4,5,6,7,8],[4,5,6,7,8],[4,5,6,7,8],[],[],[0,4]] J ?_;refine Wz [4,106,19,104,106,19,4,134,175,292,293,134,9,91,52,203] ?_
 exact Xo J (V4 [0,1,2,3,4,5] J J J)
end
end Go.Proofs.YtpmacgnmlmmojaaGreatDoor
