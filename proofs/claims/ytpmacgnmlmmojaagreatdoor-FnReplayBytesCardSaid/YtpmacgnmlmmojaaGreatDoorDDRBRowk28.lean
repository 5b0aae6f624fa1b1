/-
  Rules, data and contracts of functions: part 29 of the proof.
  Conditions: those that each theorem names.
-/
import Derived.Test.YtpmacgnmlmmojaaGreatDoorDDRBRowk27
set_option linter.unusedSimpArgs false
set_option linter.unusedVariables false
set_option maxRecDepth 8000
set_option maxHeartbeats 8000000
namespace Go.Proofs.YtpmacgnmlmmojaaGreatDoor
section
open Go.RowKit

theorem Vd {hit:Int→Bool} {step:Int}:∀ (n:Nat) (x:Int),hit x=false→hit (slide hit step n x).1=false
 |0,x,h=>h
 |n+1,x,h=>by
  rw[slide]
  split
  ·exact h
  ·exact Vd n (x+step) (by rename_i q; simpa using q)
section
variable {P:Program} {E:Env} {st st':St}
theorem A_joinb {c d:Code} {id:Nat} {Q Q':Exit→St→Prop} (st':St) (h1:AWP P E c (blk id (Mid st')) st) (h2:AWP P E d Q' st'):AWP P E c (blk id (thn (AWP P E d Q') Q)) st :=
 AWP.mono (fun e s h=>by
  have hh:=h.h
  cases e with
  |normal=>obtain⟨_,hw⟩:=hh.h; exact⟨⟨AWP.weak hw h2⟩⟩
  | exit id' =>
   by_cases hi:id'=id
   ·subst hi
    have hh:(if id'=id' then Mid st' .normal s else Mid st' (.exit id') s):=hh
    rw[if_pos rfl] at hh
    obtain⟨_,hw⟩:=hh.h
    exact Xk (Q0 (AWP.weak hw h2))
   ·have hh:(if id'=id then Mid st' .normal s else Mid st' (.exit id') s):=hh
    rw[if_neg hi] at hh
    obtain⟨he,_⟩:=hh.h
    cases he
  |goto l=>obtain⟨he,_⟩:=Mid.h hh; cases he
  |ret=>obtain⟨he,_⟩:=Mid.h hh; cases he
  |panic c=>obtain⟨he,_⟩:=Mid.h hh; cases he
  |outgrown=>obtain⟨he,_⟩:=Mid.h hh; cases he) h1
end
theorem I_MoveBody (l:TLevel) (b:TBody) (hg:Enc.gd l) (hl:levelOk l=true) (hk:0≤b.Kind∧b.Kind≤2) (hp:solidM l b.X b.Y (sizeOf b.Kind)=false) (hx : -15≤b.VX∧b.VX≤15) (hy : -15≤b.VY∧b.VY≤15):Con Tryz.prog 226 [] [ag l,ag b] [] (.tu [.ag ((Enc.e (moveM l b).1).map (V1.rd [])),.c (bv (moveM l b).2)]):=by
 obtain⟨s4,s12⟩:=size_pos hk
 obtain⟨s,hs⟩:∃ s,s=sizeOf b.Kind:=⟨_,rfl⟩
 rw[←hs] at s4 s12 hp
 have cz:=I_SizeOf b.Kind
 rw[←hs] at cz
 obtain⟨⟨px1,px2⟩,⟨py1,py2⟩⟩:=Z7 hl ⟨by omega,by omega⟩ hp
 obtain⟨X1,b1,hR⟩:∃ X1 b1,(X1,b1)=moveX l b:=⟨_,_,rfl⟩
 obtain⟨Y1,b2,hS⟩:∃ Y1 b2,(Y1,b2)=moveY l b:=⟨_,_,rfl⟩
 obtain⟨N,hN⟩:∃ N,N=b.VX.natAbs:=⟨_,rfl⟩
 obtain⟨M,hM⟩:∃ M,M=b.VY.natAbs:=⟨_,rfl⟩
 obtain⟨d,hd⟩:∃ d,d=dirOf b.VX:=⟨_,rfl⟩
 obtain⟨e,he⟩:∃ e,e=dirOf b.VY:=⟨_,rfl⟩
 have hd1 : -1≤d∧d≤1:=by rw[hd,dirOf]; split <;> omega
 have he1 : -1≤e∧e≤1:=by rw[he,dirOf]; split <;> omega
 have hR1:slide (fun z=>solidM l z b.Y s) d (N-0) b.X=(X1,b1):=by rw[hs,hd,hN]; exact hR.symm
 have hR2:slide (fun z=>solidM l X1 z s) e (M-0) b.Y=(Y1,b2):=by rw[show X1=(moveX l b).1 by rw[←hR],hs,he,hM]; exact hS.symm
 have hp2:solidM l X1 b.Y s=false:=by have h:=Vd (hit:=fun z=>solidM l z b.Y s) (step:=d) (N-0) b.X hp; rw[hR1] at h; exact h
 have hmm:moveM l b=(⟨b.Kind,b.Owner,X1,Y1,if b1=true then 0 else b.VX,if b2=true then 0 else b.VY,b.Aim,b.Life,b.Timer⟩,b1 || b2):=by rw[moveM,←hR,←hS]
 rw[hmm]
 have hNb:N≤15:=by omega
 have hMb:M≤15:=by omega
 have ca:=I_SolidAt l b.X b.Y s hg ⟨by omega,by omega⟩ ⟨by omega,by omega⟩
 rw[solidAt_eq hl ⟨by omega,by omega⟩,hp] at ca
 have c1:=Xx b.VX (-15) 15
 have c2:=Xx b.VY (-15) 15
 rw[Zn.2 hx] at c1
 rw[Zn.2 hy] at c2
 have d1:=I_direction b.VX hx
 have d2:=I_direction b.VY hy
 rw[←hd,←hN] at d1
 rw[←he,←hM] at d2
 refine Con.of Tryz.func226 J Tryz.ntmps226 J (fun E => ?_)
 refine Wz [55,129,90,11,14] ?_;refine zx (Qj J J (cz) J) J ?_;refine Wz [23,6,146,0] ?_;refine zx (Qj J J (ca) J) J ?_;refine Wz [97,72,14] ?_;refine zx (Qj J J (c1) J) J ?_;refine Wz [16,27] ?_;refine zx (Qj J J (c2) J) J ?_;refine Wz [83,38,36,14] ?_;refine V6 (Kh J J (d1) J J J) J ?_;refine Wz [118,23,63] ?_
 refine A_joinb (⟨88,[(2,.o (.c (.ptr 0 0))),(3,.o (.c (.ptr 1 0))),(4,.o (.c (.ptr 2 0))),(6,I s),(7,B b1)],[.box ((Enc.e l).map (V1.rd [])),.box (stB b.Kind b.Owner X1 b.Y (if b1=true then 0 else b.VX) b.VY b.Aim b.Life b.Timer),.box (stB 0 0 0 0 0 0 0 0 0)]⟩:St) ?_ ?_
 ·skip
  refine Xi (fun m__ st=>∃ (k:Nat) (x:Int),N-k=m__∧(k≤N∧solidM l x b.Y s=false∧slide (fun z=>solidM l z b.Y s) d (N-k) x=(X1,b1))∧st=(⟨_,[(2,.o (.c (.ptr 0 0))),(3,.o (.c (.ptr 1 0))),(4,.o (.c (.ptr 2 0))),(6,I s),(7,B false),(8,I d),(9,I N),(10,I k)],[.box ((Enc.e l).map (V1.rd [])),.box (stB b.Kind b.Owner x b.Y b.VX b.VY b.Aim b.Life b.Timer),.box (stB 0 0 0 0 0 0 0 0 0)]⟩:St)) _ ⟨_,⟨0,b.X,J,⟨by omega,hp,hR1⟩,J⟩,Gs [0,1,2]⟩ ?_
  rintro m_A _ ⟨k,x,hk_A,hp_A,rfl⟩
  obtain⟨hkn,hfr,hsl⟩:=hp_A
  obtain⟨⟨qx1,qx2⟩,_⟩:=Z7 hl ⟨by omega,by omega⟩ hfr
  by_cases hlt:k<N
  ·have hb:decide ((k:Int)<N)=true:=Gqb (by omega)
   have cs:=I_solid l (x+d) b.Y s hl ⟨by omega,by omega⟩ ⟨by omega,by omega⟩ (by omega) (by omega)
   obtain⟨m,hm⟩:∃ m,N-k=m+1:=⟨N-k-1,by omega⟩
   cases hh:solidM l (x+d) b.Y s with
   |true =>
    rw[hh] at cs
    rw[hm,slide_hit (hit:=fun z=>solidM l z b.Y s) hh] at hsl
    obtain⟨rfl,rfl⟩:=Prod.mk.inj hsl
    refine Wz [24,57,26,102,30,46,30,0,217,28,60,36,162,242,276,163] ?_
    exact Mid.n (Gs [0,1,2])
   |false =>
    rw[hh] at cs
    rw[hm,slide_go (hit:=fun z=>solidM l z b.Y s) hh] at hsl
    refine Wz [24,57,26,102,30,46,30,0,217,38,128,30,46,103,74,43] ?_
    refine⟨_,(by omega),_,⟨k+1,x+d,J,⟨by omega,hh,by rw[show N-(k+1)=m by omega]; exact hsl⟩,J⟩,Gs [0,1,2]⟩
  ·have hb:decide ((k:Int)<N)=false:=Gqa (by omega)
   rw[show N-k=0 by omega,slide] at hsl
   obtain⟨rfl,rfl⟩:=Prod.mk.inj hsl
   refine Wz [24,5,97,162,163] ?_
   exact Mid.n (Gs [0,1,2])
 refine Wz [14] ?_;refine V6 (Kh J J (d2) J J J) J ?_;refine Wz [118,23,63] ?_
 refine A_joinb (⟨88,[(2,.o (.c (.ptr 0 0))),(3,.o (.c (.ptr 1 0))),(4,.o (.c (.ptr 2 0))),(6,I s),(7,B (b1 || b2))],[.box ((Enc.e l).map (V1.rd [])),.box (stB b.Kind b.Owner X1 Y1 (if b1=true then 0 else b.VX) (if b2=true then 0 else b.VY) b.Aim b.Life b.Timer),.box (stB 0 0 0 0 0 0 0 0 0)]⟩:St) ?_ ?_
 ·skip
  refine Xi (fun m__ st=>∃ (k:Nat) (y:Int),M-k=m__∧(k≤M∧solidM l X1 y s=false∧slide (fun z=>solidM l X1 z s) e (M-k) y=(Y1,b2))∧st=(⟨_,[(2,.o (.c (.ptr 0 0))),(3,.o (.c (.ptr 1 0))),(4,.o (.c (.ptr 2 0))),(6,I s),(7,B b1),(8,I e),(9,I M),(11,I k)],[.box ((Enc.e l).map (V1.rd [])),.box (stB b.Kind b.Owner X1 y (if b1=true then 0 else b.VX) b.VY b.Aim b.Life b.Timer),.box (stB 0 0 0 0 0 0 0 0 0)]⟩:St)) _ ⟨_,⟨0,b.Y,J,⟨by omega,hp2,hR2⟩,J⟩,Gs [0,1,2]⟩ ?_
  rintro m_B _ ⟨k,y,hk_B,hp_B,rfl⟩
  obtain⟨hkn,hfr,hsl⟩:=hp_B
  obtain⟨_,⟨qx1,qx2⟩⟩:=Z7 hl ⟨by omega,by omega⟩ hfr
  by_cases hlt:k<M
  ·have hb:decide ((k:Int)<M)=true:=Gqb (by omega)
   have cs:=I_solid l X1 (y+e) s hl ⟨by omega,by omega⟩ ⟨by omega,by omega⟩ (by omega) (by omega)
   obtain⟨m,hm⟩:∃ m,M-k=m+1:=⟨M-k-1,by omega⟩
   cases hh:solidM l X1 (y+e) s with
   |true =>
    rw[hh] at cs
    rw[hm,slide_hit (hit:=fun z=>solidM l X1 z s) hh] at hsl
    obtain⟨rfl,rfl⟩:=Prod.mk.inj hsl
    refine Wz [24,57,26,102,146,46,0,217,28,60,36,162,242,276,163] ?_
    exact Mid.n (Gp [0,1,2] J (.c J (.c J (.c J (.c J (.cons (by cases b1 <;> rfl) (.nil)))))))
   |false =>
    rw[hh] at cs
    rw[hm,slide_go (hit:=fun z=>solidM l X1 z s) hh] at hsl
    refine Wz [24,57,26,102,146,46,0,217,38,128,30,46,103,74,43] ?_
    refine⟨_,(by omega),_,⟨k+1,y+e,J,⟨by omega,hh,by rw[show M-(k+1)=m by omega]; exact hsl⟩,J⟩,Gs [0,1,2]⟩
  ·have hb:decide ((k:Int)<M)=false:=Gqa (by omega)
   rw[show M-k=0 by omega,slide] at hsl
   obtain⟨rfl,rfl⟩:=Prod.mk.inj hsl
   refine Wz [24,5,97,162,163] ?_
   exact Mid.n (Gp [0,1,2] J (.c J (.c J (.c J (.c J (.cons (by cases b1 <;> rfl) (.nil)))))))
 refine Wz [6,0,115] ?_
 exact G4 J J (Gr [] J J J)
theorem S_l02Move (l:TLevel) (b:TBody) (hg:Enc.gd l) (hl:levelOk l=true) (hk:0≤b.Kind∧b.Kind≤2) (hp:solidM l b.X b.Y (sizeOf b.Kind)=false) (hx : -15≤b.VX∧b.VX≤15) (hy : -15≤b.VY∧b.VY≤15):Con Tryz.prog 259 [] [ag l,ag b] [] (.tu [.ag ((Enc.e (moveM l b).1).map (V1.rd [])),.c (bv (moveM l b).2)]):=by
 obtain⟨s4,s12⟩:=size_pos hk
 obtain⟨s,hs⟩:∃ s,s=sizeOf b.Kind:=⟨_,rfl⟩
 rw[←hs] at s4 s12 hp
 have cz:=S_SizeOf b.Kind
 rw[←hs] at cz
 obtain⟨⟨px1,px2⟩,⟨py1,py2⟩⟩:=Z7 hl ⟨by omega,by omega⟩ hp
 obtain⟨X1,b1,hR⟩:∃ X1 b1,(X1,b1)=moveX l b:=⟨_,_,rfl⟩
 obtain⟨Y1,b2,hS⟩:∃ Y1 b2,(Y1,b2)=moveY l b:=⟨_,_,rfl⟩
 obtain⟨N,hN⟩:∃ N,N=b.VX.natAbs:=⟨_,rfl⟩
 obtain⟨M,hM⟩:∃ M,M=b.VY.natAbs:=⟨_,rfl⟩
 obtain⟨d,hd⟩:∃ d,d=dirOf b.VX:=⟨_,rfl⟩
 obtain⟨e,he⟩:∃ e,e=dirOf b.VY:=⟨_,rfl⟩
 have hd1 : -1≤d∧d≤1:=by rw[hd,dirOf]; split <;> omega
 have he1 : -1≤e∧e≤1:=by rw[he,dirOf]; split <;> omega
 have hR1:slide (fun z=>solidM l z b.Y s) d (N-0) b.X=(X1,b1):=by rw[hs,hd,hN]; exact hR.symm
 have hR2:slide (fun z=>solidM l X1 z s) e (M-0) b.Y=(Y1,b2):=by rw[show X1=(moveX l b).1 by rw[←hR],hs,he,hM]; exact hS.symm
 have hp2:solidM l X1 b.Y s=false:=by have h:=Vd (hit:=fun z=>solidM l z b.Y s) (step:=d) (N-0) b.X hp; rw[hR1] at h; exact h
 have hmm:moveM l b=(⟨b.Kind,b.Owner,X1,Y1,if b1=true then 0 else b.VX,if b2=true then 0 else b.VY,b.Aim,b.Life,b.Timer⟩,b1 || b2):=by rw[moveM,←hR,←hS]
 rw[hmm]
 have hNb:N≤15:=by omega
 have hMb:M≤15:=by omega
 refine Con.of Tryz.func259 J Tryz.ntmps259 J (fun E => ?_)
 refine Wz [55,129,90,11,14] ?_;refine zx (Qj J J (cz) J) J ?_;refine Wz [11,36,36,14,52,119] ?_
 refine A_join (⟨65,[(2,.o (.c (.ptr 0 0))),(3,.o (.c (.ptr 1 0))),(4,.o (.c (.ptr 2 0))),(6,I s),(7,B false),(8,I d),(9,I N)],[.box ((Enc.e l).map (V1.rd [])),.box (stB b.Kind b.Owner b.X b.Y b.VX b.VY b.Aim b.Life b.Timer),.box (stB 0 0 0 0 0 0 0 0 0)]⟩:St) ?_ ?_
 ·refine Xb rfl (fun h => ?_) (fun h => ?_)
  ·have h:=Gqi h
   obtain rfl:d = -1:=by rw[hd,dirOf,if_pos h]
   have hq:(N:Int) = -b.VX:=by omega
   refine Wz [36,22,255,34,159] ?_
   exact Mid.n (Gp [0,1,2] J (.c J (.c J (.c J (.c J (.c J (.c J (.cons (by rw[hq]; rfl) (.nil)))))))))
  ·have h:=Gqj h
   obtain rfl:d=1:=by rw[hd,dirOf,if_neg h]
   have hq:(N:Int)=b.VX:=by omega
   refine Qh ?_
   exact Mid.n (Gp [0,1,2] J (.c J (.c J (.c J (.c J (.c J (.c J (.cons (by rw[hq]; rfl) (.nil)))))))))
 refine Wz [12,33] ?_
 refine A_joinb (⟨65,[(2,.o (.c (.ptr 0 0))),(3,.o (.c (.ptr 1 0))),(4,.o (.c (.ptr 2 0))),(6,I s),(7,B b1)],[.box ((Enc.e l).map (V1.rd [])),.box (stB b.Kind b.Owner X1 b.Y (if b1=true then 0 else b.VX) b.VY b.Aim b.Life b.Timer),.box (stB 0 0 0 0 0 0 0 0 0)]⟩:St) ?_ ?_
 ·skip
  refine Xi (fun m__ st=>∃ (k:Nat) (x:Int),N-k=m__∧(k≤N∧solidM l x b.Y s=false∧slide (fun z=>solidM l z b.Y s) d (N-k) x=(X1,b1))∧st=(⟨_,[(2,.o (.c (.ptr 0 0))),(3,.o (.c (.ptr 1 0))),(4,.o (.c (.ptr 2 0))),(6,I s),(7,B false),(8,I d),(9,I ((N:Int)-k))],[.box ((Enc.e l).map (V1.rd [])),.box (stB b.Kind b.Owner x b.Y b.VX b.VY b.Aim b.Life b.Timer),.box (stB 0 0 0 0 0 0 0 0 0)]⟩:St)) _ ⟨(fun (k:Nat) (x:Int)=>(⟨_,[(2,.o (.c (.ptr 0 0))),(3,.o (.c (.ptr 1 0))),(4,.o (.c (.ptr 2 0))),(6,I s),(7,B false),(8,I d),(9,I ((N:Int)-k))],[.box ((Enc.e l).map (V1.rd [])),.box (stB b.Kind b.Owner x b.Y b.VX b.VY b.Aim b.Life b.Timer),.box (stB 0 0 0 0 0 0 0 0 0)]⟩:St)) (0) (b.X),⟨0,b.X,J,⟨by omega,hp,hR1⟩,J⟩,Gp [0,1,2] J (.c J (.c J (.c J (.c J (.c J (.c J (.cons (by rw[show ((N:Int)-((0:Nat):Int))=(N:Int) by omega]; rfl) (.nil))))))))⟩ ?_
  rintro m_A _ ⟨k,x,hk_A,hp_A,rfl⟩
  obtain⟨hkn,hfr,hsl⟩:=hp_A
  obtain⟨⟨qx1,qx2⟩,_⟩:=Z7 hl ⟨by omega,by omega⟩ hfr
  by_cases hlt:k<N
  ·have hb:decide ((0:Int)<(N:Int)-k)=true:=Gqb (by omega)
   have cs:=S_l02Solid l (x+d) b.Y s hl ⟨by omega,by omega⟩ ⟨by omega,by omega⟩ (by omega) (by omega)
   obtain⟨m,hm⟩:∃ m,N-k=m+1:=⟨N-k-1,by omega⟩
   cases hh:solidM l (x+d) b.Y s with
   |true =>
    rw[hh] at cs
    rw[hm,slide_hit (hit:=fun z=>solidM l z b.Y s) hh] at hsl
    obtain⟨rfl,rfl⟩:=Prod.mk.inj hsl
    refine Wz [25,172,15,26,102,30,46,30,0,217,28,60,36,162,242,276,163] ?_
    exact Mid.n (Gs [0,1,2])
   |false =>
    rw[hh] at cs
    rw[hm,slide_go (hit:=fun z=>solidM l z b.Y s) hh] at hsl
    refine Wz [25,172,15,26,102,30,46,30,0,217,38,128,30,46,103,74,22,71,11] ?_
    refine⟨_,(by omega),(fun (k:Nat) (x:Int)=>(⟨_,[(2,.o (.c (.ptr 0 0))),(3,.o (.c (.ptr 1 0))),(4,.o (.c (.ptr 2 0))),(6,I s),(7,B false),(8,I d),(9,I ((N:Int)-k))],[.box ((Enc.e l).map (V1.rd [])),.box (stB b.Kind b.Owner x b.Y b.VX b.VY b.Aim b.Life b.Timer),.box (stB 0 0 0 0 0 0 0 0 0)]⟩:St)) (k+1) (x+d),⟨k+1,x+d,J,⟨by omega,hh,by rw[show N-(k+1)=m by omega]; exact hsl⟩,J⟩,Gp [0,1,2] J (.c J (.c J (.c J (.c J (.c J (.c J (.cons (by rw[show ((N:Int)-((k+1:Nat):Int))=(N:Int)-k-1 by omega]; rfl) (.nil))))))))⟩
  ·have hb:decide ((0:Int)<(N:Int)-k)=false:=Gqa (by omega)
   rw[show N-k=0 by omega,slide] at hsl
   obtain⟨rfl,rfl⟩:=Prod.mk.inj hsl
   refine Wz [25,172,97,162,163] ?_
   exact Mid.n (Gs [0,1,2])
 refine Wz [36,14,52,119] ?_
 refine A_join (⟨65,[(2,.o (.c (.ptr 0 0))),(3,.o (.c (.ptr 1 0))),(4,.o (.c (.ptr 2 0))),(6,I s),(7,B b1),(8,I e),(9,I M)],[.box ((Enc.e l).map (V1.rd [])),.box (stB b.Kind b.Owner X1 b.Y (if b1=true then 0 else b.VX) b.VY b.Aim b.Life b.Timer),.box (stB 0 0 0 0 0 0 0 0 0)]⟩:St) ?_ ?_
 ·refine Xb rfl (fun h => ?_) (fun h => ?_)
  ·have h:=Gqi h
   obtain rfl:e = -1:=by rw[he,dirOf,if_pos h]
   have hq:(M:Int) = -b.VY:=by omega
   refine Wz [36,22,255,34,159] ?_
   exact Mid.n (Gp [0,1,2] J (.c J (.c J (.c J (.c J (.c J (.c J (.cons (by rw[hq]; rfl) (.nil)))))))))
  ·have h:=Gqj h
   obtain rfl:e=1:=by rw[he,dirOf,if_neg h]
   have hq:(M:Int)=b.VY:=by omega
   refine Qh ?_
   exact Mid.n (Gp [0,1,2] J (.c J (.c J (.c J (.c J (.c J (.c J (.cons (by rw[hq]; rfl) (.nil)))))))))
 refine Wz [12,33] ?_
 refine A_joinb (⟨65,[(2,.o (.c (.ptr 0 0))),(3,.o (.c (.ptr 1 0))),(4,.o (.c (.ptr 2 0))),(6,I s),(7,B (b1 || b2))],[.box ((Enc.e l).map (V1.rd [])),.box (stB b.Kind b.Owner X1 Y1 (if b1=true then 0 else b.VX) (if b2=true then 0 else b.VY) b.Aim b.Life b.Timer),.box (stB 0 0 0 0 0 0 0 0 0)]⟩:St) ?_ ?_
 ·skip
  refine Xi (fun m__ st=>∃ (k:Nat) (y:Int),M-k=m__∧(k≤M∧solidM l X1 y s=false∧slide (fun z=>solidM l X1 z s) e (M-k) y=(Y1,b2))∧st=(⟨_,[(2,.o (.c (.ptr 0 0))),(3,.o (.c (.ptr 1 0))),(4,.o (.c (.ptr 2 0))),(6,I s),(7,B b1),(8,I e),(9,I ((M:Int)-k))],[.box ((Enc.e l).map (V1.rd [])),.box (stB b.Kind b.Owner X1 y (if b1=true then 0 else b.VX) b.VY b.Aim b.Life b.Timer),.box (stB 0 0 0 0 0 0 0 0 0)]⟩:St)) _ ⟨(fun (k:Nat) (y:Int)=>(⟨_,[(2,.o (.c (.ptr 0 0))),(3,.o (.c (.ptr 1 0))),(4,.o (.c (.ptr 2 0))),(6,I s),(7,B b1),(8,I e),(9,I ((M:Int)-k))],[.box ((Enc.e l).map (V1.rd [])),.box (stB b.Kind b.Owner X1 y (if b1=true then 0 else b.VX) b.VY b.Aim b.Life b.Timer),.box (stB 0 0 0 0 0 0 0 0 0)]⟩:St)) (0) (b.Y),⟨0,b.Y,J,⟨by omega,hp2,hR2⟩,J⟩,Gp [0,1,2] J (.c J (.c J (.c J (.c J (.c J (.c J (.cons (by rw[show ((M:Int)-((0:Nat):Int))=(M:Int) by omega]; rfl) (.nil))))))))⟩ ?_
  rintro m_B _ ⟨k,y,hk_B,hp_B,rfl⟩
  obtain⟨hkn,hfr,hsl⟩:=hp_B
  obtain⟨_,⟨qx1,qx2⟩⟩:=Z7 hl ⟨by omega,by omega⟩ hfr
  by_cases hlt:k<M
  ·have hb:decide ((0:Int)<(M:Int)-k)=true:=Gqb (by omega)
   have cs:=S_l02Solid l X1 (y+e) s hl ⟨by omega,by omega⟩ ⟨by omega,by omega⟩ (by omega) (by omega)
   obtain⟨m,hm⟩:∃ m,M-k=m+1:=⟨M-k-1,by omega⟩
   cases hh:solidM l X1 (y+e) s with
   |true =>
    rw[hh] at cs
    rw[hm,slide_hit (hit:=fun z=>solidM l X1 z s) hh] at hsl
    obtain⟨rfl,rfl⟩:=Prod.mk.inj hsl
    refine Wz [25,172,15,26,102,146,46,0,217,28,60,36,162,242,276,163] ?_
    exact Mid.n (Gp [0,1,2] J (.c J (.c J (.c J (.c J (.cons (by cases b1 <;> rfl) (.nil)))))))
   |false =>
    rw[hh] at cs
    rw[hm,slide_go (hit:=fun z=>solidM l X1 z s) hh] at hsl
    refine Wz [25,172,15,26,102,146,46,0,217,38,128,30,46,103,74,22,71,11] ?_
    refine⟨_,(by omega),(fun (k:Nat) (y:Int)=>(⟨_,[(2,.o (.c (.ptr 0 0))),(3,.o (.c (.ptr 1 0))),(4,.o (.c (.ptr 2 0))),(6,I s),(7,B b1),(8,I e),(9,I ((M:Int)-k))],[.box ((Enc.e l).map (V1.rd [])),.box (stB b.Kind b.Owner X1 y (if b1=true then 0 else b.VX) b.VY b.Aim b.Life b.Timer),.box (stB 0 0 0 0 0 0 0 0 0)]⟩:St)) (k+1) (y+e),⟨k+1,y+e,J,⟨by omega,hh,by rw[show M-(k+1)=m by omega]; exact hsl⟩,J⟩,Gp [0,1,2] J (.c J (.c J (.c J (.c J (.c J (.c J (.cons (by rw[show ((M:Int)-((k+1:Nat):Int))=(M:Int)-k-1 by omega]; rfl) (.nil))))))))⟩
  ·have hb:decide ((0:Int)<(M:Int)-k)=false:=Gqa (by omega)
   rw[show M-k=0 by omega,slide] at hsl
   obtain⟨rfl,rfl⟩:=Prod.mk.inj hsl
   refine Wz [25,172,97,162,163] ?_
   exact Mid.n (Gp [0,1,2] J (.c J (.c J (.c J (.c J (.cons (by cases b1 <;> rfl) (.nil)))))))
 refine Wz [6,0,115] ?_
 exact G4 J J (Gr [] J J J)
end
section
open Go.RowKit

def metC (bs:List TBody) (b:TBody) (o:Int) (k:Nat):Bool:=match bs[k]? with
 |none=>false
 |some p=>(decide ((k:Int)≠o)&&decide (0<p.Life))&&meetM p b
def metF (bs:List TBody) (b:TBody) (o:Int):Nat→Option Nat
 |0=>none
 |n+1=>match metF bs b o n with
  |some k=>some k
  |none=>if metC bs b o n=true then some n else none
def metI (bs:List TBody) (b:TBody) (o:Int) (n:Nat):Int:=match metF bs b o n with
 |some k=>k
 |none => -1
section
variable {bs:List TBody} {b p:TBody} {o:Int} {k n:Nat}
theorem metC_at (h:bs[k]? = some p):metC bs b o k=((decide ((k:Int)≠o)&&decide (0<p.Life))&&meetM p b):=by rw[metC,h]
theorem metF_no (h:metF bs b o k=none) (hc:metC bs b o k=false):metF bs b o (k+1)=none:=by rw[metF,h]; simp[hc]
theorem metF_hit (h:metF bs b o k=none) (hc:metC bs b o k=true):∀ {n:Nat},k<n→metF bs b o n=some k
 | n+1,hlt=>by
  rcases Gqp k n with h1 | h1
  ·rw[metF,metF_hit h hc h1]
  ·have:k=n:=by omega
   subst this
   rw[metF,h]; simp[hc]
theorem metF_lt:∀ {n:Nat},metF bs b o n=some k→k<n∧metC bs b o k=true
 |0,h=>by cases h
 | n+1,h=>by
  rw[metF] at h
  cases hm:metF bs b o n with
  |some j =>
   rw[hm] at h
   cases h
   have:=metF_lt hm
   exact⟨by omega,this.2⟩
  |none =>
   rw[hm] at h
   simp only at h
   split at h
   ·cases h; rename_i hc; exact⟨by omega,hc⟩
   ·cases h
theorem metC_life (h:metC bs b o k=true):∃ p,bs[k]? = some p∧0<p.Life∧(k:Int)≠o∧meetM p b=true:=by
 unfold metC at h
 split at h
 ·cases h
 ·rename_i p hp
  simp only[Gqg,decide_eq_true_eq] at h
  exact⟨p,hp,h.1.2,h.1.1,h.2⟩
end
theorem Zb {α:Type} [Enc α] {xs:List α} {i:Nat} {x:α} (h:xs[i]? = some x):(els xs)[(i:Int).toNat]? = some (Enc.e x):=by simp[els,h]
theorem Vf {α:Type} {xs:List α} {i:Nat} (h:i<xs.length):∃ x,xs[i]? = some x:=⟨xs[i],Gqd h⟩
theorem I_playerMet (w:TWorld) (b:TBody) (o:Int) (hn:w.Scores.length≤w.Bodies.length) (h4:w.Scores.length≤4) (hp:∀ k p,k<w.Scores.length→w.Bodies[k]? = some p→Placed p) (hb:Placed b):Con Tryz.prog 227 [.box [.ref 1,jn w.Tick,jn w.Seed,.ref 2,.ref 3],.row 1 (els w.Level.Rows),.row 1 (els w.Scores),.row 9 (els w.Bodies),.gh 0 (.c (.ptr 0 0)),.gh 6 (.c (.ref 3))] [.c (.ptr 0 0),ag b,ai o] [.box [.ref 1,jn w.Tick,jn w.Seed,.ref 2,.ref 3],.row 1 (els w.Level.Rows),.row 1 (els w.Scores),.row 9 (els w.Bodies),.gh 0 (.c (.ptr 0 0)),.gh 6 (.c (.ref 3))] (I (metI w.Bodies b o w.Scores.length)):=by
 have hls:=Y9 w.Scores
 have hlb:=Y9 w.Bodies
 refine Con.of Tryz.func227 J Tryz.ntmps227 J (fun E => ?_)
 refine Wz [55,52,44,98,131,33] ?_;refine Xi (fun m st=>∃ k:Nat,k+m=w.Scores.length∧(metF w.Bodies b o k=none)∧st=(⟨_,[(0,.o (.c (.ptr 0 0))),(2,I o),(4,.o (.c (.ptr 6 0))),(12,I (els w.Scores).length),(13,I k)],[.box [.ref 1,jn w.Tick,jn w.Seed,.ref 2,.ref 3],.row 1 (els w.Level.Rows),.row 1 (els w.Scores),.row 9 (els w.Bodies),.gh 0 (.c (.ptr 0 0)),.gh 6 (.c (.ref 3)),.box ((Enc.e b).map (V1.rd []))]⟩:St)) (w.Scores.length) ⟨_,⟨0,by omega,J,J⟩,Gs [0,1,2,3,4,5,6]⟩ ?_
 rintro m_A _ ⟨k,hk_A,hp_A,rfl⟩
 by_cases hlt:k<w.Scores.length
 ·have hb0:decide ((k:Int)<(els w.Scores).length)=true:=Gqb (by omega)
  obtain⟨p,hp1⟩:=Vf (xs:=w.Bodies) (i:=k) (by omega)
  have he:=Zb hp1
  have cm:=I_BodiesMeet p b (hp k p hlt hp1) hb
  have hc:=metC_at (b:=b) (o:=o) hp1
  by_cases h1:(k:Int)=o
  ·have f1:decide ((k:Int)≠o)=false:=Gqa (fun q=>q h1)
   refine Wz [1,5,39,65,77,23,277,29,176,4,80,80,188,101,4,80,80,188,101,17,62,64] ?_
   exact⟨w.Scores.length-(k+1),by omega,_,⟨k+1,by omega,metF_no hp_A (by rw[hc,f1]; rfl),J⟩,Gs [0,1,2,3,4,5,6]⟩
  have f1:decide ((k:Int)≠o)=true:=Gqb h1
  by_cases h2:0<p.Life
  ·have f2:decide (0<p.Life)=true:=Gqb h2
   cases h3:meetM p b with
   |false =>
    rw[h3] at cm
    refine Wz [1,5,39,65,77,23,277,29,176,4,47,182,42,47,153,196,177,243,112,4,47,182,42,47,153,278,183] ?_;refine Vx (Qt.yes J J J (Qj J J (cm) J)) J ?_;refine Wz [112,17,62,64] ?_
    exact⟨w.Scores.length-(k+1),by omega,_,⟨k+1,by omega,metF_no hp_A (by rw[hc,h3,Bool.and_false]),J⟩,Gs [0,1,2,3,4,5,6]⟩
   |true =>
    rw[h3] at cm
    refine Wz [1,5,39,65,77,23,277,29,176,4,47,182,42,47,153,196,177,243,112,4,47,182,42,47,153,278,183] ?_;refine Vx (Qt.yes J J J (Qj J J (cm) J)) J ?_;refine Wz [112,17,15,10,88,53] ?_
    exact Gq J (Gr [0,1,2,3,4,5] J J (Xz (by rw[metI,metF_hit hp_A (by rw[hc,f1,f2,h3]; rfl) hlt])))
  ·have f2:decide (0<p.Life)=false:=Gqa h2
   refine Wz [1,5,39,65,77,23,277,29,176,4,47,182,42,47,153,196,177,243,112,4,80,80,188,101,17,62,64] ?_
   exact⟨w.Scores.length-(k+1),by omega,_,⟨k+1,by omega,metF_no hp_A (by rw[hc,f2,Bool.and_false,Bool.false_and]),J⟩,Gs [0,1,2,3,4,5,6]⟩
 ·have hb0:decide ((k:Int)<(els w.Scores).length)=false:=Gqa (by omega)
  have hk:k=w.Scores.length:=by omega
  refine Wz [1,5,39,175,40,1,19] ?_
  exact Gq J (Gr [0,1,2,3,4,5] J J (Xz (by rw[metI,←hk,hp_A])))
theorem S_l02Meets (w:TWorld) (b:TBody) (o:Int) (hn:w.Scores.length≤w.Bodies.length) (h4:w.Scores.length≤4) (hp:∀ k p,k<w.Scores.length→w.Bodies[k]? = some p→Placed p) (hb:Placed b):Con Tryz.prog 278 [.box [.ref 1,jn w.Tick,jn w.Seed,.ref 2,.ref 3],.row 1 (els w.Level.Rows),.row 1 (els w.Scores),.row 9 (els w.Bodies),.gh 0 (.c (.ptr 0 0)),.gh 6 (.c (.ref 3))] [.c (.ptr 0 0),ag b,ai o] [.box [.ref 1,jn w.Tick,jn w.Seed,.ref 2,.ref 3],.row 1 (els w.Level.Rows),.row 1 (els w.Scores),.row 9 (els w.Bodies),.gh 0 (.c (.ptr 0 0)),.gh 6 (.c (.ref 3))] (I (metI w.Bodies b o w.Scores.length)):=by
 have hls:=Y9 w.Scores
 have hlb:=Y9 w.Bodies
 refine Con.of Tryz.func278 J Tryz.ntmps278 J (fun E => ?_)
 refine Wz [55,23,63] ?_;refine Xi (fun m st=>∃ k:Nat,k+m=w.Scores.length∧(metF w.Bodies b o k=none)∧st=(⟨_,[(0,.o (.c (.ptr 0 0))),(2,I o),(4,.o (.c (.ptr 6 0))),(7,I k)],[.box [.ref 1,jn w.Tick,jn w.Seed,.ref 2,.ref 3],.row 1 (els w.Level.Rows),.row 1 (els w.Scores),.row 9 (els w.Bodies),.gh 0 (.c (.ptr 0 0)),.gh 6 (.c (.ref 3)),.box ((Enc.e b).map (V1.rd []))]⟩:St)) (w.Scores.length) ⟨_,⟨0,by omega,J,J⟩,Gs [0,1,2,3,4,5,6]⟩ ?_
 rintro m_A _ ⟨k,hk_A,hp_A,rfl⟩
 by_cases hlt:k<w.Scores.length
 ·have hb0:decide ((k:Int)<(els w.Scores).length)=true:=Gqb (by omega)
  obtain⟨p,hp1⟩:=Vf (xs:=w.Bodies) (i:=k) (by omega)
  have he:=Zb hp1
  have cm:=S_BodiesMeet p b (hp k p hlt hp1) hb
  have hc:=metC_at (b:=b) (o:=o) hp1
  by_cases h1:(k:Int)=o
  ·have f1:decide ((k:Int)≠o)=false:=Gqa (fun q=>q h1)
   refine Wz [24,44,98,57,26,12,279,29,176,4,80,80,188,101,4,80,80,188,101,17,62,43] ?_
   exact⟨w.Scores.length-(k+1),by omega,_,⟨k+1,by omega,metF_no hp_A (by rw[hc,f1]; rfl),J⟩,Gs [0,1,2,3,4,5,6]⟩
  have f1:decide ((k:Int)≠o)=true:=Gqb h1
  by_cases h2:0<p.Life
  ·have f2:decide (0<p.Life)=true:=Gqb h2
   cases h3:meetM p b with
   |false =>
    rw[h3] at cm
    refine Wz [24,44,98,57,26,12,279,29,176,4,47,182,42,47,153,196,177,243,112,4,47,182,42,47,153,278,183] ?_;refine Vx (Qt.yes J J J (Qj J J (cm) J)) J ?_;refine Wz [112,17,62,43] ?_
    exact⟨w.Scores.length-(k+1),by omega,_,⟨k+1,by omega,metF_no hp_A (by rw[hc,h3,Bool.and_false]),J⟩,Gs [0,1,2,3,4,5,6]⟩
   |true =>
    rw[h3] at cm
    refine Wz [24,44,98,57,26,12,279,29,176,4,47,182,42,47,153,196,177,243,112,4,47,182,42,47,153,278,183] ?_;refine Vx (Qt.yes J J J (Qj J J (cm) J)) J ?_;refine Wz [112,17,15,10,88,53] ?_
    exact Gq J (Gr [0,1,2,3,4,5] J J (Xz (by rw[metI,metF_hit hp_A (by rw[hc,f1,f2,h3]; rfl) hlt])))
  ·have f2:decide (0<p.Life)=false:=Gqa h2
   refine Wz [24,44,98,57,26,12,279,29,176,4,47,182,42,47,153,196,177,243,112,4,80,80,188,101,17,62,43] ?_
   exact⟨w.Scores.length-(k+1),by omega,_,⟨k+1,by omega,metF_no hp_A (by rw[hc,f2,Bool.and_false,Bool.false_and]),J⟩,Gs [0,1,2,3,4,5,6]⟩
 ·have hb0:decide ((k:Int)<(els w.Scores).length)=false:=Gqa (by omega)
  have hk:k=w.Scores.length:=by omega
  refine Wz [24,44,98,5,61,1,19] ?_
  exact Gq J (Gr [0,1,2,3,4,5] J J (Xz (by rw[metI,←hk,hp_A])))
def addM (ss:List Int) (k:Nat):List Int:=match ss[k]? with
 |none=>ss
 |some s=>ss.set k (min (s+1) 1000000)
theorem addM_at {ss:List Int} {k:Nat} {s:Int} (h:ss[k]? = some s):addM ss k=ss.set k (min (s+1) 1000000):=by rw[addM,h]
theorem addM_els {ss:List Int} {k:Nat} {s:Int} (h:ss[k]? = some s):els (addM ss k)=(els ss).set (k:Int).toNat (splice (Enc.e s) 0 [.v (.int .i64 (min (s+1) 1000000))]):=by
 rw[addM_at h,els_set]; rfl
theorem addM_same {ss:List Int} {k:Nat} {s:Int} (h:ss[k]? = some s) (hs:¬s<1000000) (h1:s≤1000000):addM ss k=ss:=by
 rw[addM_at h,show min (s+1) 1000000=s by omega]
 obtain⟨hk,rfl⟩:=Gqo.1 h
 exact List.set_getElem_self hk
theorem I_addScore (w:TWorld) (k:Nat) (s:Int) (hs:w.Scores[k]? = some s) (h0:0≤s∧s≤1000000):Con Tryz.prog 228 [.box [.ref 1,jn w.Tick,jn w.Seed,.ref 2,.ref 3],.row 1 (els w.Level.Rows),.row 1 (els w.Scores),.row 9 (els w.Bodies),.gh 0 (.c (.ptr 0 0)),.gh 5 (.c (.ref 3))] [.c (.ptr 0 0),ai k] [.box [.ref 1,jn w.Tick,jn w.Seed,.ref 2,.ref 3],.row 1 (els w.Level.Rows),.row 1 (els (addM w.Scores k)),.row 9 (els w.Bodies),.gh 0 (.c (.ptr 0 0)),.gh 5 (.c (.ref 3))] (.tu []):=by
 have hls:=Y9 w.Scores
 have hk:=Zk hs
 have he:=Zb hs
 by_cases h1:s<1000000
 ·have f1:decide (s<1000000)=true:=Gqb h1
  rw[addM_els hs,show min (s+1) 1000000=s+1 by omega]
  refine Con.of Tryz.func228 J Tryz.ntmps228 J (fun E => ?_)
  refine Wz [10,44,0,41,70,57,22,44,0,41,70,35,41,173,159,207] ?_
  exact Xn J (Gr [0,1,2,3,4,5] J J J)
 ·have f1:decide (s<1000000)=false:=Gqa h1
  rw[addM_same hs h1 h0.2]
  refine Con.of Tryz.func228 J Tryz.ntmps228 J (fun E => ?_)
  refine Wz [10,44,0,41,70,5,97,302,207] ?_
  exact Xn J (Gr [0,1,2,3,4,5] J J J)
theorem S_l02Point (w:TWorld) (k:Nat) (s:Int) (hs:w.Scores[k]? = some s) (h0:0≤s∧s≤1000000):Con Tryz.prog 279 [.box [.ref 1,jn w.Tick,jn w.Seed,.ref 2,.ref 3],.row 1 (els w.Level.Rows),.row 1 (els w.Scores),.row 9 (els w.Bodies),.gh 0 (.c (.ptr 0 0)),.gh 5 (.c (.ref 3))] [.c (.ptr 0 0),ai k] [.box [.ref 1,jn w.Tick,jn w.Seed,.ref 2,.ref 3],.row 1 (els w.Level.Rows),.row 1 (els (addM w.Scores k)),.row 9 (els w.Bodies),.gh 0 (.c (.ptr 0 0)),.gh 5 (.c (.ref 3))] (.tu []):=by
 have hls:=Y9 w.Scores
 have hk:=Zk hs
 have he:=Zb hs
 rw[addM_els hs]
 refine Con.of Tryz.func279 J Tryz.ntmps279 J (fun E => ?_)
 skip
 refine Xh [[],[0],[0,1],[0,1,2],[],[],[5],[5,6],[5,6,7],[],[5,6,7,8,9],[5,6,7,8,9,10],[5,6,7,8,9,10,11],[5,6,7,8,9,10,11,12],(u9 14),(u9 15)] [[],[4],[4,5],[4,5,6],[],[],[9],[9,10],[9,10,11],[],[9,10,11,12,13],[9,10,11,12,13,14],[9,10,11,12,13,14,15],[9,10,11,12,13,14,15,16],[4,5,6,7,8,9,10,11,12,13,14,15,16,17],[4,5,6,7,8,9,10,11,12,13,14,15,16,17,18]] [[8,9,10,11,12,13,14,15,16,17],[8,9,10,11,12,13,14,15,16,17],[8,9,10,11,12,13,14,15,16,17],[8,9,10,11,12,13,14,15,16,17],[4,5,6,7,9,10,11,12,13,14,15,16,17],[4,5,6,7,8,13],[4,5,6,7,8,13],[4,5,6,7,8,13],[4,5,6,7,8,13],[4,5,6,7,8,9,10,11,12],[4,5,6,7,8],[4,5,6,7,8],[4,5,6,7,8],[4,5,6,7,8],[],[],[0,4]] J ?_;refine Wz [4,104,29,104,4,79,109,164] ?_;refine Vx (q_min J J J J) J ?_;refine Wz [79,17,173,159,207] ?_
 exact Xn J (Gr [0,1,2,3,4,5] J J J)
end
section
open Go.RowKit

theorem colSp_len (row:ByteArray) (r:Nat):∀ n,(colSp row r n).length≤n
 |0=>Gqf _
 |n+1=>by have:=colSp_len row r n; rw[colSp]; split <;> simp <;> omega
theorem rowSp_len {rows:List ByteArray} {w:Nat} (hw:∀ (r:Nat) (hr:r<rows.length),(rows[r]).size=w):∀ n,(rowSp rows n).length≤n*w
 |0=>by simp[rowSp]
 | n+1=>by
  have h:=rowSp_len hw n
  rw[rowSp]
  cases hr:rows[n]? with
  |none=>simp only; rw[Nat.add_mul]; omega
  |some row =>
   obtain⟨h1,h2⟩:=Gqo.1 hr
   have h3:=colSp_len row n row.size
   have h4:row.size=w:=by rw[←h2]; exact hw n h1
   simp only[Gqe]
   rw[Nat.add_mul]
   omega
def spotsM (l:TLevel):List (List Int):=rowSp l.Rows l.Rows.length
theorem spots_len {l:TLevel} (hl:levelOk l=true):(spotsM l).length≤240:=by
 obtain⟨l3,l12,w,w4,w20,hw⟩:=Zt hl
 have h:=rowSp_len hw l.Rows.length
 have h2:l.Rows.length*w≤12*20:=Nat.mul_le_mul l12 w20
 unfold spotsM
 omega
theorem colSp_at {row:ByteArray} {r:Nat}:∀ {n:Nat} {s:List Int},s∈colSp row r n→∃ c:Nat,c<n∧byteAt row c=111∧s = [(c:Int)*16+4,(r:Int)*16+4]
 |0,s,h=>by simp[colSp] at h
 | n+1,s,h=>by
  rw[colSp] at h
  split at h
  ·rename_i hb
   rcases Gqm.1 h with h | h
   ·obtain⟨c,h1,h2⟩:=colSp_at h; exact⟨c,by omega,h2⟩
   ·exact⟨n,by omega,hb,by simpa using h⟩
  ·obtain⟨c,h1,h2⟩:=colSp_at h; exact⟨c,by omega,h2⟩
theorem rowSp_at {rows:List ByteArray}:∀ {n:Nat} {s:List Int},s∈rowSp rows n→∃ (r c:Nat) (row:ByteArray),r<n∧rows[r]? = some row∧c<row.size∧byteAt row c=111∧s = [(c:Int)*16+4,(r:Int)*16+4]
 |0,s,h=>by simp[rowSp] at h
 | n+1,s,h=>by
  rw[rowSp] at h
  cases hr:rows[n]? with
  |none=>rw[hr] at h; obtain⟨r,c,row,h1,h2⟩:=rowSp_at h; exact⟨r,c,row,by omega,h2⟩
  |some row =>
   rw[hr] at h
   rcases Gqm.1 h with h | h
   ·obtain⟨r,c,row,h1,h2⟩:=rowSp_at h; exact⟨r,c,row,by omega,h2⟩
   ·obtain⟨c,h1,h2⟩:=colSp_at h; exact⟨n,c,row,by omega,hr,h1,h2⟩
theorem sp_hit {row:ByteArray} {r c:Nat} {A:List (List Int)} {x y:Int} (h:byteAt row c=111) (hx:x=(c:Int)*16+4) (hy:y=(r:Int)*16+4):els (A++colSp row r (c+1))=els (A++colSp row r c) ++ [[.sl 1 (els [x,y])]]:=by
 rw[colSp,if_pos h,←Gqn,Y6,hx,hy]; rfl
theorem sp_skip {row:ByteArray} {r c:Nat} (h:¬byteAt row c=111):colSp row r (c+1)=colSp row r c:=by rw[colSp,if_neg h]
theorem sp_row {rows:List ByteArray} {row:ByteArray} {r:Nat} (h:rows[r]? = some row):rowSp rows (r+1)=rowSp rows r++colSp row r row.size:=by rw[rowSp,h]
theorem row2w {a:Ob} {k:Nat} {x y:List (List T)} (h:x=y) : [a,Ob.row k x] = [a,Ob.row k y]:=by rw[h]
theorem I_SpotsOf (l:TLevel) (hg:Enc.gd l) (hl:levelOk l=true):Con Tryz.prog 202 [] [ag l] [.row 1 (els (spotsM l))] (.o (.c (.ref 0))):=by
 have hc:=Xt l hg
 rw[hl] at hc
 have hlr:=Y9 l.Rows
 obtain⟨l3,l12,w,w4,w20,hw⟩:=Zt hl
 have hrl:=rowSp_len hw
 refine Con.of Tryz.func202 J Tryz.ntmps202 J (fun E => ?_)
 refine Wz [55,23,6] ?_;refine zx (Qj J J (hc) J) J ?_;refine Wz [16,38,36,12,14,21,131,33] ?_
 refine AWP.pre ?_ (W_nil 3 1 J)
 refine Xi (fun m st=>∃ r:Nat,r+m=l.Rows.length∧(True)∧st=(⟨_,[(1,.o (.c (.ptr 0 0))),(3,.o (.c (.ref 1))),(11,L l.Rows),(12,I (els l.Rows).length),(13,I r)],[.box ((Enc.e l).map (V1.rd [])),.row 1 (els (rowSp l.Rows r))]⟩:St)) (l.Rows.length) ⟨_,⟨0,by omega,trivial,J⟩,Gs [0,1]⟩ ?_
 rintro m_A _ ⟨r,hk_A,hp_A,rfl⟩
 by_cases h3:r<l.Rows.length
 ·have hb0:decide ((r:Int)<(els l.Rows).length)=true:=Gqb (by omega)
  have hat:=Y7 h3
  have hwr:=hw r h3
  have hrow:=Gqd h3
  generalize l.Rows[r]=row at hat hwr hrow
  have hr1:=hrl r
  have hr2:r*w≤12*20:=Nat.mul_le_mul (by omega) w20
  refine Wz [1,5,39,65,77,49,34,11,63] ?_;refine Xi (fun m st=>∃ c:Nat,c+m=row.size∧(True)∧st=(⟨_,[(1,.o (.c (.ptr 0 0))),(3,.o (.c (.ref 1))),(4,I r),(5,S row),(6,I c),(11,L l.Rows),(12,I (els l.Rows).length),(13,I r)],[.box ((Enc.e l).map (V1.rd [])),.row 1 (els (rowSp l.Rows r++colSp row r c))]⟩:St)) (row.size) ⟨(fun c:Nat=>(⟨_,[(1,.o (.c (.ptr 0 0))),(3,.o (.c (.ref 1))),(4,I r),(5,S row),(6,I c),(11,L l.Rows),(12,I (els l.Rows).length),(13,I r)],[.box ((Enc.e l).map (V1.rd [])),.row 1 (els (rowSp l.Rows r++colSp row r c))]⟩:St)) 0,⟨0,by omega,trivial,J⟩,Yg [0,1] (by decide) J (row2w (by rw[colSp,Gxg])) (.c J (.c J (.c J (.c J (.c J (.c J (.c J (.c J (.nil)))))))))⟩ ?_
  rintro m_D _ ⟨c,hk_D,hp_D,rfl⟩
  have hcl:=colSp_len row r c
  have hel:=Y9 (rowSp l.Rows r++colSp row r c)
  rw[Gqe] at hel
  by_cases h4:c<row.size
  ·have hb1:decide ((c:Int)<row.size)=true:=Gqb (by omega)
   have hbt:=Yu row c
   have hbt2:=Yu row (c:Int).toNat
   by_cases ho:byteAt row c=111
   ·have hb2:decide (byteAt row (c:Int).toNat=111)=true:=Gqb ho
    refine Wz [50,57,123,139,236,15,22,0,67,35,0,67,35,45] ?_;refine AL.weak (Wk.sbrow (q:=2) (es:=els [(c:Int)*16+4,(r:Int)*16+4]) J J (Gqq J)) ?_;refine Wz [45,108,105] ?_
    exact⟨row.size-(c+1),by omega,(fun c:Nat=>(⟨_,[(1,.o (.c (.ptr 0 0))),(3,.o (.c (.ref 1))),(4,I r),(5,S row),(6,I c),(11,L l.Rows),(12,I (els l.Rows).length),(13,I r)],[.box ((Enc.e l).map (V1.rd [])),.row 1 (els (rowSp l.Rows r++colSp row r c))]⟩:St)) (c+1),⟨c+1,by omega,trivial,J⟩,Yg [0,1] (by decide) J (row2w (sp_hit ho (by omega) (by omega))) (.c J (.c J (.c J (.c J (.c J (.c J (.c J (.c J (.nil)))))))))⟩
   ·have hb2:decide (byteAt row (c:Int).toNat=111)=false:=Gqa ho
    refine Wz [50,57,123,137,13,62,43] ?_
    exact⟨row.size-(c+1),by omega,_,⟨c+1,by omega,trivial,J⟩,(by rw[sp_skip ho]; exact Gs [0,1])⟩
  ·have hb1:decide ((c:Int)<row.size)=false:=Gqa (by omega)
   have hk:c=row.size:=by omega
   refine Wz [50,5,97,162,163,204,64] ?_
   exact⟨l.Rows.length-(r+1),by omega,_,⟨r+1,by omega,trivial,J⟩,(by rw[sp_row hrow,hk]; exact Gs [0,1])⟩
 ·have hb0:decide ((r:Int)<(els l.Rows).length)=false:=Gqa (by omega)
  have hk:r=l.Rows.length:=by omega
  refine Wz [1,5,39,175,40,10,19] ?_
  exact Gq J (Gr [1] J (by rw[spotsM,←hk]; rfl) J)
theorem S_SpotsOf (l:TLevel) (hg:Enc.gd l) (hl:levelOk l=true):Con Tryz.prog 262 [] [ag l] [.row 1 (els (spotsM l))] (.o (.c (.ref 0))):=by
 have hc:=S_LevelOk l hg
 rw[hl] at hc
 have hlr:=Y9 l.Rows
 obtain⟨l3,l12,w,w4,w20,hw⟩:=Zt hl
 have hrl:=rowSp_len hw
 refine Con.of Tryz.func262 J Tryz.ntmps262 J (fun E => ?_)
 refine Wz [55,11,1,179,23,63] ?_;refine Xi (fun m st=>∃ r:Nat,r+m=l.Rows.length∧(True)∧st=(⟨_,[(1,.o (.c (.ptr 0 0))),(3,.o (.c (.ref 1))),(4,I r)],[.box ((Enc.e l).map (V1.rd [])),.row 1 (els (rowSp l.Rows r))]⟩:St)) (l.Rows.length) ⟨_,⟨0,by omega,trivial,J⟩,Gs [0,1]⟩ ?_
 rintro m_A _ ⟨r,hk_A,hp_A,rfl⟩
 by_cases h3:r<l.Rows.length
 ·have hb0:decide ((r:Int)<(els l.Rows).length)=true:=Gqb (by omega)
  have hat:=Y7 h3
  have hwr:=hw r h3
  have hrow:=Gqd h3
  generalize l.Rows[r]=row at hat hwr hrow
  have hr1:=hrl r
  have hr2:r*w≤12*20:=Nat.mul_le_mul (by omega) w20
  refine Wz [25,30,21,5,18,48,3] ?_;refine zx (Qj J J (hc) J) J ?_;refine Wz [9,15,26,63] ?_;refine Xi (fun m st=>∃ c:Nat,c+m=row.size∧(True)∧st=(⟨_,[(1,.o (.c (.ptr 0 0))),(3,.o (.c (.ref 1))),(4,I r),(5,I c)],[.box ((Enc.e l).map (V1.rd [])),.row 1 (els (rowSp l.Rows r++colSp row r c))]⟩:St)) (row.size) ⟨(fun c:Nat=>(⟨_,[(1,.o (.c (.ptr 0 0))),(3,.o (.c (.ref 1))),(4,I r),(5,I c)],[.box ((Enc.e l).map (V1.rd [])),.row 1 (els (rowSp l.Rows r++colSp row r c))]⟩:St)) 0,⟨0,by omega,trivial,J⟩,Yg [0,1] (by decide) J (row2w (by rw[colSp,Gxg])) (.c J (.c J (.c J (.c J (.nil)))))⟩ ?_
  rintro m_D _ ⟨c,hk_D,hp_D,rfl⟩
  have hcl:=colSp_len row r c
  have hel:=Y9 (rowSp l.Rows r++colSp row r c)
  rw[Gqe] at hel
  by_cases h4:c<row.size
  ·have hb1:decide ((c:Int)<row.size)=true:=Gqb (by omega)
   have hbt:=Yu row c
   have hbt2:=Yu row (c:Int).toNat
   by_cases ho:byteAt row c=111
   ·have hb2:decide (byteAt row (c:Int).toNat=111)=true:=Gqb ho
    refine Wz [25,30,0,49,143,57,26,14,0,49,0,139,236,15,22,0,67,35,0,67,35,45] ?_;refine AL.weak (Wk.sbrow (q:=2) (es:=els [16*(c:Int)+4,16*(r:Int)+4]) J J (Gqq J)) ?_;refine Wz [45,108,105] ?_
    exact⟨row.size-(c+1),by omega,(fun c:Nat=>(⟨_,[(1,.o (.c (.ptr 0 0))),(3,.o (.c (.ref 1))),(4,I r),(5,I c)],[.box ((Enc.e l).map (V1.rd [])),.row 1 (els (rowSp l.Rows r++colSp row r c))]⟩:St)) (c+1),⟨c+1,by omega,trivial,J⟩,Yg [0,1] (by decide) J (row2w (sp_hit ho (by omega) (by omega))) (.c J (.c J (.c J (.c J (.nil)))))⟩
   ·have hb2:decide (byteAt row (c:Int).toNat=111)=false:=Gqa ho
    refine Wz [25,30,0,49,143,57,26,14,0,49,0,137,13,62,43] ?_
    exact⟨row.size-(c+1),by omega,_,⟨c+1,by omega,trivial,J⟩,(by rw[sp_skip ho]; exact Gs [0,1])⟩
  ·have hb1:decide ((c:Int)<row.size)=false:=Gqa (by omega)
   have hk:c=row.size:=by omega
   refine Wz [25,30,0,49,143,5,97,162,163,204,43] ?_
   exact⟨l.Rows.length-(r+1),by omega,_,⟨r+1,by omega,trivial,J⟩,(by rw[sp_row hrow,hk]; exact Gs [0,1])⟩
 ·have hb0:decide ((r:Int)<(els l.Rows).length)=false:=Gqa (by omega)
  have hk:r=l.Rows.length:=by omega
  refine Wz [25,30,21,5,91,7,61,10,19] ?_
  exact Gq J (Gr [1] J (by rw[spotsM,←hk]; rfl) J)
end
section
open Go.RowKit

def tick1 (b:TBody):TBody:=⟨b.Kind,b.Owner,b.X,b.Y,b.VX,b.VY,b.Aim,b.Life,b.Timer-1⟩
noncomputable def plOne (l:TLevel) (i:Int) (k:Nat) (bs:List TBody) (b:TBody):List TBody :=
 if b.Life=0 then bs.set k (if b.Timer-1=0 then fresh l k else tick1 b)
 else if (steer l b i).2=true∧bs.length<24 then bs.set k (steer l b i).1 ++ [shotOf (steer l b i).1] else bs.set k (steer l b i).1
noncomputable def plM (l:TLevel) (row:List Int) (bs:List TBody):Nat→List TBody
 |0=>bs
 |k+1=>match (plM l row bs k)[k]? with
  |none=>plM l row bs k
  |some b=>plOne l (row.getD k 0) k (plM l row bs k) b
structure BM (l:TLevel) (n:Nat) (b:TBody):Prop where
 k:0≤b.Kind∧b.Kind≤2
 o:0≤b.Owner∧b.Owner<n
 p:solidM l b.X b.Y (sizeOf b.Kind)=false
 vx : -15≤b.VX∧b.VX≤15
 vy : -15≤b.VY∧b.VY≤15
 f:0≤b.Life∧b.Life≤3
structure LM (l:TLevel) (n:Nat) (bs:List TBody):Prop where
 len:n≤bs.length∧bs.length≤24
 at_:∀ k b,bs[k]? = some b→BM l n b∧(b.Kind=0↔k<n)
structure PlI (l:TLevel) (n k:Nat) (b:TBody):Prop where
 kd:b.Kind=0
 ow:b.Owner=k
 am:b.Aim=1∨b.Aim = -1
 tm:0≤b.Timer∧b.Timer≤20
 dd:b.Life=0→1≤b.Timer
 bm:bodyM l (b.Owner+1) b=true
theorem body_facts {l:TLevel} {n k:Nat} {b:TBody} (h:bodyAt l n k b=true):BM l n b∧(b.Kind=0↔k<n)∧(0≤b.Timer∧b.Timer≤25)∧(k<n→PlI l n k b):=by
 unfold bodyAt at h
 rw[Gqg] at h
 obtain⟨h1,h2⟩:=h
 have h1':=h1
 simp only[bodyM,Gqg,Gq9,Zn] at h1
 obtain⟨hk,ho,hp,hvx,hvy,ht⟩:=h1
 have hbm:bodyM l (b.Owner+1) b=true:=by
  simp only[bodyM,Gqg,Gq9,Zn]
  exact⟨hk,⟨ho.1,by omega⟩,hp,hvx,hvy,ht⟩
 unfold tailM at ht
 by_cases hkn:k<n
 ·rw[if_pos hkn,decide_eq_true_eq] at h2
  rw[if_pos h2.1,Gqg,Gqg,decide_eq_true_eq,Zn] at ht
  obtain⟨⟨ha,hf⟩,htm⟩:=ht
  have htt:(0≤b.Timer∧b.Timer≤20)∧(b.Life=0→1≤b.Timer):=by
   split at htm
   ·have:=Zn.1 htm; exact⟨by omega,fun _=>this.1⟩
   ·have:=Zn.1 htm; exact⟨by omega,fun h=>absurd h (by assumption)⟩
  exact⟨⟨hk,⟨ho.1,by omega⟩,hp,hvx,hvy,hf⟩,⟨fun _=>hkn,fun _=>h2.1⟩,by omega,fun _=>⟨h2.1,h2.2,ha,htt.1,htt.2,hbm⟩⟩
 ·rw[if_neg hkn,decide_eq_true_eq] at h2
  rw[if_neg h2] at ht
  have htt:(0≤b.Life∧b.Life≤3)∧(0≤b.Timer∧b.Timer≤25):=by
   split at ht
   ·rw[Gqg,decide_eq_true_eq,Zn] at ht; omega
   ·rw[decide_eq_true_eq] at ht; omega
  exact⟨⟨hk,⟨ho.1,by omega⟩,hp,hvx,hvy,htt.1⟩,⟨fun h=>absurd h h2,fun h=>absurd h hkn⟩,htt.2,fun h=>absurd h hkn⟩
theorem LM.set {l:TLevel} {n k:Nat} {bs:List TBody} {b b':TBody} (h:LM l n bs) (hb:bs[k]? = some b) (h1:BM l n b') (h2:b'.Kind=b.Kind):LM l n (bs.set k b'):=by
 refine⟨by rw[Gxm]; exact h.len,fun j c hc => ?_⟩
 rw[List.getElem?_set] at hc
 split at hc
 ·rename_i e
  subst e
  split at hc
  ·cases hc; exact⟨h1,by rw[h2]; exact (h.at_ _ _ hb).2⟩
  ·cases hc
 ·exact h.at_ _ _ hc
theorem LM.app {l:TLevel} {n:Nat} {bs:List TBody} {c:TBody} (h:LM l n bs) (hl:bs.length<24) (h1:BM l n c) (h2:c.Kind≠0):LM l n (bs ++ [c]):=by
 have:=h.len
 refine⟨by rw[Gqe]; simp; omega,fun j d hd => ?_⟩
 rw[List.getElem?_append] at hd
 split at hd
 ·exact h.at_ _ _ hd
 ·rename_i hj
  have hj2:=Zk hd
  simp only[List.length_singleton] at hj2
  have:j=bs.length:=by omega
  subst this
  simp only[Gx9,Gxa,Option.some.injEq] at hd
  subst hd
  exact⟨h1,fun h=>absurd h h2,fun h=>by omega⟩
theorem shot_free {l:TLevel} {x y:Int} (h:solidM l x y 12=false):solidM l (x+4) (y+4) 4=false:=by
 refine solidM_F fun ⟨r,c,h1,h2,h3,h4,hw⟩ => ?_
 have:hits l x y 12:=⟨r,c,by omega,by omega,by omega,by omega,hw⟩
 rw[Ve this] at h
 cases h
theorem steer_aim {l:TLevel} {b:TBody} {i:Int} (h:b.Aim=1∨b.Aim = -1):(steer l b i).1.Aim=1∨(steer l b i).1.Aim = -1:=by
 simp only[steer]
 split
 ·exact .inr rfl
 ·split
  ·exact .inl rfl
  ·exact h
theorem steer_time {l:TLevel} {b:TBody} {i:Int} (h:0≤b.Timer∧b.Timer≤20):0≤(steer l b i).1.Timer∧(steer l b i).1.Timer≤20:=by
 simp only[steer]
 split
 ·omega
 ·split <;> omega
theorem BM.steer {l:TLevel} {n:Nat} {b:TBody} (h:BM l n b) (i:Int):BM l n (steer l b i).1:=by
 obtain⟨hk,ho,hp,hvx,hvy,hf⟩:=h
 refine⟨hk,ho,hp,?_,?_,hf⟩
 ·simp only[Go.Proofs.YtpmacgnmlmmojaaGreatDoor.steer]
  split
  ·omega
  ·split <;> omega
 ·simp only[Go.Proofs.YtpmacgnmlmmojaaGreatDoor.steer]
  split
  ·omega
  ·rw[Int.min_def]; split <;> omega
theorem BM.shot {l:TLevel} {n:Nat} {b:TBody} (h:BM l n b) (hk:b.Kind=0) (ha:b.Aim=1∨b.Aim = -1):BM l n (shotOf b) :=
 ⟨by simp[shotOf],h.o,by have:=h.p; rw[hk] at this; exact shot_free this,by simp only[shotOf]; omega,by simp[shotOf],by simp[shotOf]⟩
theorem BM.fresh {l:TLevel} (hl:levelOk l=true) {n k:Nat} (hk:k<n) (hn:n≤4):BM l n (fresh l k):=by
 obtain⟨h1,h2,h3⟩:=fresh_free hl (p:=(k:Int)) ⟨by omega,by omega⟩
 exact⟨by simp[Go.Proofs.YtpmacgnmlmmojaaGreatDoor.fresh],by simp only[Go.Proofs.YtpmacgnmlmmojaaGreatDoor.fresh]; omega,h1,by simp[Go.Proofs.YtpmacgnmlmmojaaGreatDoor.fresh],by simp[Go.Proofs.YtpmacgnmlmmojaaGreatDoor.fresh],by simp[Go.Proofs.YtpmacgnmlmmojaaGreatDoor.fresh]⟩
theorem BM.placed {l:TLevel} (hl:levelOk l=true) {n:Nat} {b:TBody} (h:BM l n b):Placed b∧(b.X≤400∧b.Y≤400):=by
 have hs:=size_pos h.k
 have:=Z7 hl ⟨by omega,by omega⟩ h.p
 exact⟨⟨h.k,by omega,by omega⟩,by omega⟩
structure P1 (l:TLevel) (n:Nat) (bs0 bs:List TBody) (k:Nat):Prop where
 lm:LM l n bs
 old:∀ j,k≤j→j<n→bs[j]? = bs0[j]?
 tm:∀ b∈bs,0≤b.Timer∧b.Timer≤25
theorem P1.start {l:TLevel} {n:Nat} {bs:List TBody} (h1:n≤bs.length∧bs.length≤24) (h:bodiesOk l n bs):P1 l n bs bs 0:=by
 have hat:∀ k b,bs[k]? = some b→bodyAt l n k b=true:=fun k b hb=>by
  obtain⟨h2,rfl⟩:=Gqo.1 hb
  exact h k h2
 refine⟨⟨h1,fun k b hb => ?_⟩,fun _ _ _=>rfl,fun b hb => ?_⟩
 ·have:=body_facts (hat k b hb); exact⟨this.1,this.2.1⟩
 ·obtain⟨k,hk⟩:=List.getElem?_of_mem hb
  exact (body_facts (hat k b hk)).2.2.1
theorem old_at {l:TLevel} {n k:Nat} {bs:List TBody} {b:TBody} (h:bodiesOk l n bs) (hb:bs[k]? = some b) (hk:k<n):PlI l n k b:=by
 obtain⟨h2,rfl⟩:=Gqo.1 hb
 exact (body_facts (h k h2)).2.2.2 hk
section
variable {l:TLevel} {n k:Nat} {bs0 bs:List TBody} {b b':TBody}
theorem P1.set (h:P1 l n bs0 bs k) (hb:bs[k]? = some b) (h1:BM l n b') (h2:b'.Kind=b.Kind) (ht:0≤b'.Timer∧b'.Timer≤25):P1 l n bs0 (bs.set k b') (k+1) :=
 ⟨h.lm.set hb h1 h2,fun j hj hn=>by rw[Gxb (by omega)]; exact h.old j (by omega) hn,fun c hc=>by
  rcases Gzb hc with h3 | h3
  ·exact h.tm c h3
  ·subst h3; exact ht⟩
theorem P1.app (h:P1 l n bs0 bs k) (hl:bs.length<24) {c:TBody} (h1:BM l n c) (h2:c.Kind≠0) (ht:0≤c.Timer∧c.Timer≤25):P1 l n bs0 (bs ++ [c]) k :=
 ⟨h.lm.app hl h1 h2,fun j hj hn=>by have:=h.lm.len; rw[Gqz (by omega)]; exact h.old j hj hn,fun d hd=>by
  rcases Gqm.1 hd with h3 | h3
  ·exact h.tm d h3
  ·rw[Gq7] at h3; subst h3; exact ht⟩
end
theorem P1.one {l:TLevel} (hl:levelOk l=true) {n k:Nat} (hn:n≤4) {bs0 bs:List TBody} {b:TBody} (h:P1 l n bs0 bs k) (hk:k<n) (hb:bs[k]? = some b) (hI:PlI l n k b) (i:Int):P1 l n bs0 (plOne l i k bs b) (k+1):=by
 have hB:=(h.lm.at_ k b hb).1
 unfold plOne
 split
 ·split
  ·exact h.set hb (BM.fresh hl hk hn) (by rw[hI.kd]; rfl) (by simp[fresh])
  ·rename_i hf ht
   have:=hI.dd hf
   have:=hI.tm
   exact h.set hb ⟨hB.k,hB.o,hB.p,hB.vx,hB.vy,hB.f⟩ J (by simp only[tick1]; omega)
 ·have hs:=steer_time (l:=l) (i:=i) hI.tm
  have h1:=h.set hb (hB.steer i) (by rfl) ⟨hs.1,by omega⟩
  split
  ·rename_i hc
   exact h1.app (by rw[Gxm]; exact hc.2) ((hB.steer i).shot hI.kd (steer_aim hI.am)) (by simp[shotOf]) (by simp[shotOf])
  ·exact h1
theorem P1.all {l:TLevel} (hl:levelOk l=true) {n:Nat} (hn:n≤4) {bs:List TBody} (h1:n≤bs.length∧bs.length≤24) (h:bodiesOk l n bs) (row:List Int):∀ k,k≤n→P1 l n bs (plM l row bs k) k
 |0,_=>P1.start h1 h
 |k+1,hk=>by
  have hp:=P1.all hl hn h1 h row k (by omega)
  have hlk:k<(plM l row bs k).length:=by have:=hp.lm.len; omega
  obtain⟨b,hb⟩:=Vf hlk
  have ho:=hp.old k (Gqf _) (by omega)
  rw[plM,hb]
  exact hp.one hl hn (by omega) hb (old_at h (by rw[←ho]; exact hb) (by omega)) _

/-! ### Moving -/
noncomputable def mvOne (l:TLevel) (b:TBody):Option TBody :=
 if b.Kind=0∧0<b.Life then some (moveM l b).1
 else if b.Kind=1 then if (moveM l b).2=true∨b.Timer-1=0 then none else some (tick1 (moveM l b).1)
 else some b
noncomputable def mvM (l:TLevel) (bs:List TBody):List TBody:=bs.filterMap (mvOne l)
theorem BM.move {l:TLevel} {n:Nat} {b:TBody} (h:BM l n b):BM l n (moveM l b).1:=by
 obtain⟨hk,ho,hp,hvx,hvy,hf⟩:=h
 have h1:solidM l (moveX l b).1 b.Y (sizeOf b.Kind)=false:=Vd (hit:=fun x=>solidM l x b.Y (sizeOf b.Kind)) _ _ hp
 have h2:solidM l (moveX l b).1 (moveY l b).1 (sizeOf b.Kind)=false:=Vd (hit:=fun y=>solidM l (moveX l b).1 y (sizeOf b.Kind)) _ _ h1
 refine⟨hk,ho,h2,?_,?_,hf⟩
 ·simp only[moveM]; split <;> omega
 ·simp only[moveM]; split <;> omega
theorem mvOne_ok {l:TLevel} {n:Nat} {b c:TBody} (h:BM l n b) (hc:mvOne l b=some c):BM l n c∧c.Kind=b.Kind:=by
 unfold mvOne at hc
 split at hc
 ·cases hc; exact⟨h.move,rfl⟩
 ·split at hc
  ·split at hc
   ·cases hc
   ·cases hc
    have:=h.move
    exact⟨⟨this.k,this.o,this.p,this.vx,this.vy,this.f⟩,J⟩
  ·cases hc; exact⟨h,rfl⟩
theorem mvOne_pl {l:TLevel} {b:TBody} (h:b.Kind=0):∃ c,mvOne l b=some c:=by
 unfold mvOne
 split
 ·exact⟨_,rfl⟩
 ·rw[if_neg (by omega)]; exact⟨_,rfl⟩
theorem fmap_len {α β:Type} {f:α→Option β}:∀ (xs:List α),(∀ x∈xs,∃ y,f x=some y)→(xs.filterMap f).length=xs.length
 | [],_=>rfl
 |x::xs,h=>by
  obtain⟨y,hy⟩:=h x (by simp)
  rw[List.filterMap_cons,hy]
  simp only[Gqt]
  rw[fmap_len xs fun z hz=>h z (by simp[hz])]
theorem LM.move {l:TLevel} {n:Nat} {bs:List TBody} (h:LM l n bs):LM l n (mvM l bs):=by
 have hlen:=h.len
 have hA:∀ a∈bs.take n,BM l n a∧a.Kind=0:=fun a ha=>by
  obtain⟨j,hj⟩:=List.getElem?_of_mem ha
  rw[Gxi] at hj
  split at hj
  ·have:=h.at_ _ _ hj; exact⟨this.1,this.2.2 (by assumption)⟩
  ·cases hj
 have hB:∀ a∈bs.drop n,BM l n a∧a.Kind≠0:=fun a ha=>by
  obtain⟨j,hj⟩:=List.getElem?_of_mem ha
  rw[Gq5] at hj
  have:=h.at_ _ _ hj
  exact⟨this.1,fun e=>by have:=this.2.1 e; omega⟩
 have hs:mvM l bs=(bs.take n).filterMap (mvOne l)++(bs.drop n).filterMap (mvOne l):=by
  rw[mvM,←List.filterMap_append,Gx1]
 have hl1:((bs.take n).filterMap (mvOne l)).length=n:=by
  rw[fmap_len _ fun a ha=>mvOne_pl (hA a ha).2,Gqx]; omega
 have hl2:=List.length_filterMap_le (mvOne l) (bs.drop n)
 rw[Gq0] at hl2
 rw[hs]
 refine⟨by rw[Gqe,hl1]; omega,fun k b hb => ?_⟩
 rw[List.getElem?_append,hl1] at hb
 split at hb
 ·obtain⟨a,ha,hab⟩:=List.mem_filterMap.1 (Gqu hb)
  have h1:=hA a ha
  have h2:=mvOne_ok h1.1 hab
  exact⟨h2.1,fun _=>by assumption,fun _=>by rw[h2.2,h1.2]⟩
 ·obtain⟨a,ha,hab⟩:=List.mem_filterMap.1 (Gqu hb)
  have h1:=hB a ha
  have h2:=mvOne_ok h1.1 hab
  exact⟨h2.1,fun e=>absurd (by rw[←h2.2]; exact e) h1.2,fun e=>absurd e (by assumption)⟩
theorem mv_next {l:TLevel} {bs:List TBody} {k:Nat} {b:TBody} (h:bs[k]? = some b):(bs.take (k+1)).filterMap (mvOne l)=(bs.take k).filterMap (mvOne l)++(mvOne l b).toList:=by
 obtain⟨hk,rfl⟩:=Gqo.1 h
 rw[Gxd hk,List.filterMap_append]
 congr 1
end
end Go.Proofs.YtpmacgnmlmmojaaGreatDoor
