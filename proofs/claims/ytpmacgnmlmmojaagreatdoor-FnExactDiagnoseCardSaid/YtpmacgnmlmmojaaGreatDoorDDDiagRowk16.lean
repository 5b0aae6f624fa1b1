/-
  Rules, data and contracts of functions: part 17 of the proof.
  Conditions: those that each theorem names.
-/
import Derived.Test.YtpmacgnmlmmojaaGreatDoorDDDiagRowk15
set_option linter.unusedSimpArgs false
set_option linter.unusedVariables false
set_option maxRecDepth 8000
set_option maxHeartbeats 8000000
namespace Go.Proofs.YtpmacgnmlmmojaaGreatDoor
section
open Go.RowKit

theorem S_LevelOk (x:TLevel) (hg:Enc.gd x):Con Tryz.prog 187 [] [ag x] [] (B (levelOk x)):=by
 obtain⟨rows⟩:=x
 have hn:Enc.gd rows:=hg
 have hn1:=hn.1
 have hlx:=Ye rows
 refine Con.of Tryz.func187 J Tryz.ntmps187 J (fun E => ?_)
 refine Wz [44,21,12] ?_;refine zx (Qj J J (Xz (els rows).length 3 12) J) J ?_;refine Wz [15,3] ?_
 refine Xb J (fun h => ?_) (fun h => ?_)
 ·refine Wz [107] ?_
  exact V3 J (V4 [] J J (Xk (by simp[inR] at h; simp[levelOk]; omega)))
 have h:3≤rows.length∧rows.length≤12:=by simp[inR] at h; omega
 have h0:0<rows.length:=by omega
 have hat0:(els rows)[(0:Int).toNat]? = some (Enc.e rows[0]):=Yd h0
 have hw:=width_at h0
 obtain⟨w,hw'⟩:∃ w,w=rows[0].size:=⟨_,rfl⟩
 rw[←hw'] at hw
 have hg0:rows[0].size≤9223372036854775807:=hn.2 _ (Gqi h0)
 refine Wz [27,14,63,143,2,34,1,53,2,42] ?_;refine Xj (fun m st=>∃ (k:Nat) (s:Seen×Bool),k+m=rows.length∧(rowsM rows w k=some s∧(0<k→4≤w∧w≤20))∧st=(⟨_,[(1,.o (.c (.ptr 0 0))),(3,I w),(4,B s.2),(5,.o (.c (.sb 1 4 1))),(6,I k)],[.box [.rd [] (sl rows)],.box [vb s.1.1,vb s.1.2.1,vb s.1.2.2.1,vb s.1.2.2.2]]⟩:St)) (rows.length) ⟨(fun (k:Nat) (s:Seen×Bool)=>(⟨_,[(1,.o (.c (.ptr 0 0))),(3,I w),(4,B s.2),(5,.o (.c (.sb 1 4 1))),(6,I k)],[.box [.rd [] (sl rows)],.box [vb s.1.1,vb s.1.2.1,vb s.1.2.2.1,vb s.1.2.2.2]]⟩:St)) 0 (((false,false,false,false),false)),⟨0,((false,false,false,false),false),by omega,⟨J,by omega⟩,J⟩,V0 [0,1] J (by kernel_rfl) (.c J (.cons (Xv (by omega)) (.c J (.c J (.c J (.nil))))))⟩ ?_
 rintro m_A _ ⟨k,s,hk_A,hp_A,rfl⟩
 refine Wz [36,10,87] ?_
 refine Xb J (fun h => ?_) (fun h => ?_)
 ·have h3:k<rows.length:=by have:=Gqd h; omega
  have hat:=Yd h3
  have hwc:((rows[0].size:Nat):Int)=w:=by omega
  have hgk:rows[k].size≤9223372036854775807:=hn.2 _ (Gqi h3)
  refine Wz [16,21,0,63,143,0,142,0,132] ?_;refine zx (Kx J (.hit .stop) (fun hgrd=>Qj J J (Xz w 4 20) J)) J ?_;refine Wz [272,28,3] ?_
  refine Xb J (fun h4 => ?_) (fun h4 => ?_)
  ·simp only[Gqu,decide_eq_true_eq,Gq6,inR,Gxt,decide_eq_false_iff_not] at h4
   refine Wz [123,94,157,83] ?_
   refine V3 J (V4 [] J J (Xk ?_))
   by_cases h4':rows[k].size=w
   ·have:¬(4≤w∧w≤20):=by omega
    simp only[levelOk,hw]
    rcases Gqn w 4 with h9 | h9
    ·simp[show ¬4≤w by omega]
    ·simp[show ¬w≤20 by omega]
   ·exact (level_no (l:=⟨rows⟩) h3 hw (rows_bad h3 h4')).symm
  simp only[Gqt,decide_eq_false_iff_not,Gxe,inR,Gqg,decide_eq_true_eq] at h4
  have h1:4≤w∧w≤20:=by omega
  have h4:rows[k].size=w:=by omega
  have hrn:=rows_next hp_A.1 h3 h4
  obtain⟨er,her⟩:∃ er,er=(decide (k=0) || decide (k+1=rows.length)):=⟨_,rfl⟩
  rw[←her] at hrn
  refine Wz [27,1,151] ?_;refine Xj (fun m st=>∃ (c:Nat) (u:Seen×Bool),c+m=w∧(colsM rows[k] er w s c=some u)∧st=(⟨_,[(1,.o (.c (.ptr 0 0))),(3,I w),(4,B u.2),(5,.o (.c (.sb 1 4 1))),(6,I k),(7,I c)],[.box [.rd [] (sl rows)],.box [vb u.1.1,vb u.1.2.1,vb u.1.2.2.1,vb u.1.2.2.2]]⟩:St)) (w) ⟨_,⟨0,s,by omega,J,J⟩,Ua [0,1]⟩ ?_
  rintro m_D _ ⟨c,u,hk_D,hp_D,rfl⟩
  refine Wz [18,67] ?_
  refine Xb J (fun h5 => ?_) (fun h5 => ?_)
  ·have h5:c<w:=by have:=Gqd h5; omega
   have hcn:=cols_next hp_D
   obtain⟨t,ht⟩:∃ t,byteAt rows[k] (c:Int).toNat=t:=⟨_,rfl⟩
   rw[show byteAt rows[k] c=t from ht] at hcn
   have htb:0≤t∧t≤255:=ht▸Ya _ _
   obtain⟨⟨sa,sb,sc,sd⟩,so⟩:=u
   obtain⟨e,he⟩:∃ e,e=(er || decide (c=0) || decide (c+1=w)):=⟨_,rfl⟩
   rw[←he] at hcn
   refine Wz [16,32,63,0,259,73,201,0,132] ?_;refine zx (Kx J (.hit .stop) (fun hgrd=>Ze J J J J)) J ?_;refine Wz [28,0,132,207,234,260] ?_;refine zx (Kx J (.hit (.hit (.hit (.hit .stop)))) (fun hgrd=>Xc J J J J (by omega))) J ?_;refine zx (Kx J (.hit (.hit (.hit (.hit (.hit .stop))))) (fun hgrd=>Ze J J J J)) J ?_;refine Wz [28,0,132,269] ?_;refine zx (Kx J (.hit (.hit .stop)) (fun hgrd=>Xc J J J J (by omega))) J ?_;refine zx (Kx J (.hit (.hit (.hit .stop))) (fun hgrd=>Ze J J J J)) J ?_;refine Wz [28,2,170,6,201,2] ?_
   have hee:(decide ((k:Int)=0) || decide ((c:Int)=0) || decide ((k:Int)=((els rows).length:Int)-1) || decide ((c:Int)=(w:Int)-1))=e:=by
    rw[he,her,hlx]
    have g1:decide ((k:Int)=0)=decide (k=0):=by simp
    have g2:decide ((k:Int)=(rows.length:Int)-1)=decide (k+1=rows.length):=decide_eq_decide.2 (by omega)
    have g3:decide ((c:Int)=0)=decide (c=0):=by simp
    have g4:decide ((c:Int)=(w:Int)-1)=decide (c+1=w):=decide_eq_decide.2 (by omega)
    rw[g1,g2,g3,g4]
    cases decide (k=0) <;> cases decide (c=0) <;> cases decide (k+1=rows.length) <;> rfl
   clear he her
   have hbad:colsM rows[k] er w s (c+1)=none→levelOk ⟨rows⟩=false:=fun hc=>level_no (l:=⟨rows⟩) h3 hw (hrn.trans (cols_none hc (by omega)))
   refine AWP.pre (st':=(⟨_,[(1,.o (.c (.ptr 0 0))),(3,I w),(4,B so),(5,.o (.c (.sb 1 4 1))),(6,I k),(7,I c),(8,VI .u8 t),(9,B e),(73,B (decide (t=35)))],[.box [.rd [] (sl rows)],.box [vb sa,vb sb,vb sc,vb sd]]⟩:St)) ?_ (V0 [0,1] J (by kernel_rfl) (.c J (.c J (.c J (.c J (.c J (.c J (.c J (.cons (Xk hee) (.c J (.nil)))))))))))
   by_cases h7:t=35
   ·subst h7
    refine Wz [51,144,172,0,132] ?_;refine zx (Kx J (.hit .stop) (fun hgrd=>Qw (b:=false) J J J J (by decide))) J ?_;refine Wz [28,82] ?_
    exact⟨w-(c+1),by omega,(fun (c:Nat) (u:Seen×Bool)=>(⟨_,[(1,.o (.c (.ptr 0 0))),(3,I w),(4,B u.2),(5,.o (.c (.sb 1 4 1))),(6,I k),(7,I c)],[.box [.rd [] (sl rows)],.box [vb u.1.1,vb u.1.2.1,vb u.1.2.2.1,vb u.1.2.2.2]]⟩:St)) (c+1) (((sa,sb,sc,sd),so)),⟨c+1,((sa,sb,sc,sd),so),by omega,hcn.trans (by simp[tileM]),J⟩,V0 [0,1] J (by kernel_rfl) (.c J (.c J (.cons (Xk (by simp)) (.c J (.c J (.c J (.nil)))))))⟩
   cases e
   case true =>
    have f1:decide (t=35)=false:=Gqa h7
    refine Xb J (fun h=>absurd (Gqd h) h7) (fun _ => ?_)
    refine Wz [23,131,77,86,86,131,86,86,86,86,86,86,77,26,2,51,123,177,94,157,40] ?_
    exact V3 J (V4 [] J J (Xk (hbad (hcn.trans (by simp[tileM,h7]))).symm))
   refine Xb J (fun h=>absurd (Gqd h) h7) (fun _ => ?_)
   rcases (by omega:t=49∨t=50∨t=51∨t=52∨t=111∨t=46∨(t≠35∧t≠49∧t≠50∧t≠51∧t≠52∧t≠111∧t≠46)) with rfl | rfl | rfl | rfl | rfl | rfl | ht7
   ·refine Wz [6,25] ?_
    refine Wz [25,155,5,11,155,5,26,5,11,13,5,11,84,5,7,5,26,7,70,6,197,11,208,26,2,51,18,164,188,187,3] ?_
    refine Xb J (fun h8 => ?_) (fun h8 => ?_)
    ·have h8:sa=true:=h8
     subst h8
     refine Wz [123,94,94,157,40] ?_
     exact V3 J (V4 [] J J (Xk (hbad (hcn.trans (by simp[tileM]))).symm))
    ·have h8:sa=false:=h8
     subst h8
     refine Wz [27,81,164,188,210,52,172,0,132,236,28,82] ?_
     exact⟨w-(c+1),by omega,(fun (c:Nat) (u:Seen×Bool)=>(⟨_,[(1,.o (.c (.ptr 0 0))),(3,I w),(4,B u.2),(5,.o (.c (.sb 1 4 1))),(6,I k),(7,I c)],[.box [.rd [] (sl rows)],.box [vb u.1.1,vb u.1.2.1,vb u.1.2.2.1,vb u.1.2.2.2]]⟩:St)) (c+1) (((true,sb,sc,sd),true)),⟨c+1,((true,sb,sc,sd),true),by omega,hcn.trans (by simp[tileM]),J⟩,V0 [0,1] J (by kernel_rfl) (.c J (.c J (.cons (Xk (by simp)) (.c J (.c J (.c J (.nil)))))))⟩
   ·refine Wz [6,25] ?_
    refine Wz [25,155,5,11,155,5,26,5,11,13,5,11,84,5,7,5,26,7,70,6,197,11,208,26,2,51,18,164,188,187,3] ?_
    refine Xb J (fun h8 => ?_) (fun h8 => ?_)
    ·have h8:sb=true:=h8
     subst h8
     refine Wz [123,94,94,157,40] ?_
     exact V3 J (V4 [] J J (Xk (hbad (hcn.trans (by simp[tileM]))).symm))
    ·have h8:sb=false:=h8
     subst h8
     refine Wz [27,81,164,188,210,52,172,0,132,236,28,82] ?_
     exact⟨w-(c+1),by omega,(fun (c:Nat) (u:Seen×Bool)=>(⟨_,[(1,.o (.c (.ptr 0 0))),(3,I w),(4,B u.2),(5,.o (.c (.sb 1 4 1))),(6,I k),(7,I c)],[.box [.rd [] (sl rows)],.box [vb u.1.1,vb u.1.2.1,vb u.1.2.2.1,vb u.1.2.2.2]]⟩:St)) (c+1) (((sa,true,sc,sd),true)),⟨c+1,((sa,true,sc,sd),true),by omega,hcn.trans (by simp[tileM]),J⟩,V0 [0,1] J (by kernel_rfl) (.c J (.c J (.cons (Xk (by simp)) (.c J (.c J (.c J (.nil)))))))⟩
   ·refine Wz [6,25] ?_
    refine Wz [25,155,5,11,155,5,26,5,11,13,5,11,84,5,7,5,26,7,70,6,197,11,208,26,2,51,18,164,188,187,3] ?_
    refine Xb J (fun h8 => ?_) (fun h8 => ?_)
    ·have h8:sc=true:=h8
     subst h8
     refine Wz [123,94,94,157,40] ?_
     exact V3 J (V4 [] J J (Xk (hbad (hcn.trans (by simp[tileM]))).symm))
    ·have h8:sc=false:=h8
     subst h8
     refine Wz [27,81,164,188,210,52,172,0,132,236,28,82] ?_
     exact⟨w-(c+1),by omega,(fun (c:Nat) (u:Seen×Bool)=>(⟨_,[(1,.o (.c (.ptr 0 0))),(3,I w),(4,B u.2),(5,.o (.c (.sb 1 4 1))),(6,I k),(7,I c)],[.box [.rd [] (sl rows)],.box [vb u.1.1,vb u.1.2.1,vb u.1.2.2.1,vb u.1.2.2.2]]⟩:St)) (c+1) (((sa,sb,true,sd),true)),⟨c+1,((sa,sb,true,sd),true),by omega,hcn.trans (by simp[tileM]),J⟩,V0 [0,1] J (by kernel_rfl) (.c J (.c J (.cons (Xk (by simp)) (.c J (.c J (.c J (.nil)))))))⟩
   ·refine Wz [6,25] ?_
    refine Wz [25,155,5,11,155,5,26,5,11,13,5,11,84,5,7,5,26,7,70,6,197,11,208,26,2,51,18,164,188,187,3] ?_
    refine Xb J (fun h8 => ?_) (fun h8 => ?_)
    ·have h8:sd=true:=h8
     subst h8
     refine Wz [123,94,94,157,40] ?_
     exact V3 J (V4 [] J J (Xk (hbad (hcn.trans (by simp[tileM]))).symm))
    ·have h8:sd=false:=h8
     subst h8
     refine Wz [27,81,164,188,210,52,172,0,132,236,28,82] ?_
     exact⟨w-(c+1),by omega,(fun (c:Nat) (u:Seen×Bool)=>(⟨_,[(1,.o (.c (.ptr 0 0))),(3,I w),(4,B u.2),(5,.o (.c (.sb 1 4 1))),(6,I k),(7,I c)],[.box [.rd [] (sl rows)],.box [vb u.1.1,vb u.1.2.1,vb u.1.2.2.1,vb u.1.2.2.2]]⟩:St)) (c+1) (((sa,sb,sc,true),true)),⟨c+1,((sa,sb,sc,true),true),by omega,hcn.trans (by simp[tileM]),J⟩,V0 [0,1] J (by kernel_rfl) (.c J (.c J (.cons (Xk (by simp)) (.c J (.c J (.c J (.nil)))))))⟩
   ·refine Wz [6,25] ?_
    refine Wz [25,58,5,95,5,7,5,95,77,86,86,77,5,7,7,70,6,197,11,237,26,70,144,172,0,132,236,28,82] ?_
    exact⟨w-(c+1),by omega,(fun (c:Nat) (u:Seen×Bool)=>(⟨_,[(1,.o (.c (.ptr 0 0))),(3,I w),(4,B u.2),(5,.o (.c (.sb 1 4 1))),(6,I k),(7,I c)],[.box [.rd [] (sl rows)],.box [vb u.1.1,vb u.1.2.1,vb u.1.2.2.1,vb u.1.2.2.2]]⟩:St)) (c+1) (((sa,sb,sc,sd),true)),⟨c+1,((sa,sb,sc,sd),true),by omega,hcn.trans (by simp[tileM]),J⟩,V0 [0,1] J (by kernel_rfl) (.c J (.c J (.cons (Xk (by simp)) (.c J (.c J (.c J (.nil)))))))⟩
   ·refine Wz [6,25] ?_
    refine Wz [25,155,5,11,58,5,26,5,95,77,86,86,77,5,7,7,70,6,137,95,7,70,144,172,0,132,236,28,82] ?_
    exact⟨w-(c+1),by omega,(fun (c:Nat) (u:Seen×Bool)=>(⟨_,[(1,.o (.c (.ptr 0 0))),(3,I w),(4,B u.2),(5,.o (.c (.sb 1 4 1))),(6,I k),(7,I c)],[.box [.rd [] (sl rows)],.box [vb u.1.1,vb u.1.2.1,vb u.1.2.2.1,vb u.1.2.2.2]]⟩:St)) (c+1) (((sa,sb,sc,sd),true)),⟨c+1,((sa,sb,sc,sd),true),by omega,hcn.trans (by simp[tileM]),J⟩,V0 [0,1] J (by kernel_rfl) (.c J (.c J (.cons (Xk (by simp)) (.c J (.c J (.c J (.nil)))))))⟩
   ·refine Wz [6,25] ?_
    refine Wz [25,142,5,0,181,270,5,69,5,0,181] ?_;refine zx (Qt.grdT J J J (.hit .stop) (fun hgrd=>Zp J J J J)) J ?_;refine zx (Qt.grdT J J J (.hit (.hit .stop)) (fun hgrd=>Qa J J J)) J ?_;refine zx (Qt.grd2F J J J (.hit1 (.hit1 (.hit1 .stop))) (fun hgrd hgrd2=>Qa J J J)) J ?_;refine zx (Qt.grd2F J J J (.hit (.hit1 (.hit1 (.hit1 .stop)))) (fun hgrd hgrd2=>q_gtr J J J J)) J ?_;refine zx (Qt.grdT J J J (.part (.part (.hit (.hit (.hit .stop))))) (fun hgrd=>Zs J J J J)) J ?_;refine Wz [5,69,7,2] ?_
    refine Xb J (fun h8 => ?_) (fun h8 => ?_)
    ·refine Wz [123,177,94,271] ?_
     refine Wz [94,40] ?_
     exact V3 J (V4 [] J J (Xk (hbad (hcn.trans (by simp[tileM,ht7]))).symm))
    ·simp only[Gxt,Gqt,Bool.false_or,decide_eq_false_iff_not,Classical.not_not] at h8
     omega
  ·have h5:c=w:=by have:=Gqf h5; omega
   rw[h5] at hp_D
   rw[hp_D] at hrn
   refine Wz [158,159,135] ?_
   exact⟨rows.length-(k+1),by omega,_,⟨k+1,u,by omega,⟨hrn,fun _=>h1⟩,J⟩,Ua [0,1]⟩
 ·have h3:¬((k:Int)<(els rows).length):=Gqf h
  have hk:k=rows.length:=by omega
  subst hk
  refine Wz [111] ?_
  exact V3 J (V4 [] J J (Xk (by
   unfold levelOk
   rw[hw,hp_A.1]
   have h1:=hp_A.2 (by omega)
   have:3≤rows.length∧rows.length≤12∧4≤w∧w≤20:=by omega
   simp[this])))
end
section
open Go.RowKit
end
section
open Go.RowKit

inductive Den1:V1→V1→Prop
 |same (x:V1):Den1 x x
 |nil (qs:List Nat) (k:Nat):Den1 (.rd qs (.v (.slice none 0 0))) (.rd qs (.sl k []))
inductive DenL:List V1→List V1→Prop
 |nil:DenL [] []
 |cons {x y:V1} {xs ys:List V1} (h:Den1 x y) (t:DenL xs ys):DenL (x::xs) (y::ys)
inductive Den2:V2→V2→Prop
 |same (x:V2):Den2 x x
 |ag {xs ys:List V1} (h:DenL xs ys):Den2 (.ag xs) (.ag ys)
inductive DenA:List V2→List V2→Prop
 |nil:DenA [] []
 |cons {x y:V2} {xs ys:List V2} (h:Den2 x y) (t:DenA xs ys):DenA (x::xs) (y::ys)
section
variable {w:World} {H:Hs} {F:Nat→Prop}
theorem Den1.r {x y:V1} (h:Den1 x y) {v:Value} (hx:R1 w H F x v):R1 w H F y v:=by
 cases h with
 |same=>exact hx
 |nil qs k=>obtain⟨rfl,_⟩:=RO.plain hx; exact .nil _ _ _ (by simp)
theorem DenL.r:∀ {xs ys:List V1},DenL xs ys→xs.length=ys.length∧∀ (i:Nat) (y:V1),ys[i]? = some y→∃ x,xs[i]? = some x∧Den1 x y
 |_,_,.nil=>⟨rfl,fun i y h=>by simp at h⟩
 |_,_,.cons (x:=x) h t=>by
  obtain⟨h1,h2⟩:=DenL.r t
  refine⟨by simp[h1],fun i y hy => ?_⟩
  cases i with
  |zero=>simp at hy; subst hy; exact⟨x,rfl,h⟩
  |succ i=>simpa using h2 i y (by simpa using hy)
theorem Den2.r {x y:V2} (h:Den2 x y) {v:Value} (hx:R2 w H F x v):R2 w H F y v:=by
 cases h with
 |same=>exact hx
 |ag h =>
  obtain⟨h1,h2⟩:=h.r
  obtain⟨us,e,hl,hr⟩:=hx
  refine⟨us,e,by omega,fun i y u h3 h4 => ?_⟩
  obtain⟨x,h5,h6⟩:=h2 i y h3
  exact h6.r (hr i x u h5 h4)
theorem DenA.r:∀ {xs ys:List V2},DenA xs ys→xs.length=ys.length∧∀ (i:Nat) (y:V2),ys[i]? = some y→∃ x,xs[i]? = some x∧Den2 x y
 |_,_,.nil=>⟨rfl,fun i y h=>by simp at h⟩
 |_,_,.cons (x:=x) h t=>by
  obtain⟨h1,h2⟩:=DenA.r t
  refine⟨by simp[h1],fun i y hy => ?_⟩
  cases i with
  |zero=>simp at hy; subst hy; exact⟨x,rfl,h⟩
  |succ i=>simpa using h2 i y (by simpa using hy)
end
def nilV:V1 := .rd [] (.v (.slice none 0 0))
theorem I_copyLevel (x:TLevel) (hg:Enc.gd x) (hL:x.Rows.length≤1048576):Con Tryz.prog 76 [] [ag x] [.row 1 (els x.Rows)] (.o (.ag [.ref 0])):=by
 have hlx:=Ye x.Rows
 have hg1:=hg.1
 refine Con.of Tryz.func76 J Tryz.ntmps76 J (fun E => ?_)
 refine Wz [118,14] ?_;refine M_appnil J J J J J J J J (Yf _) (els_k _) (by omega) (by omega) ?_;refine Wz [133,120,68] ?_
 exact Xm J J J J (V4 [2] J J J)
theorem S_copyLevel (x:TLevel) (hg:Enc.gd x) (hL:x.Rows.length≤1048576):Con Tryz.prog 113 [] [ag x] [.row 1 (els x.Rows)] (.o (.ag [.ref 0])):=by
 have hlx:=Ye x.Rows
 have hg1:=hg.1
 have h00:([]:List (List T)).length=0:=rfl
 refine Con.of Tryz.func113 J Tryz.ntmps113 J (fun E => ?_)
 refine Wz [118,1,193,10] ?_;refine M_app J J J J J J J J J J (Yf _) (els_k _) (by omega) (by omega) ?_;refine Wz [133,120,68] ?_
 exact Xm J J J J (V4 [2] J J J)
end
section
open Go.RowKit

theorem rowsM_size {rows:List ByteArray} {w:Nat}:∀ n s,rowsM rows w n=some s→∀ r,r<n→∃ row,rows[r]? = some row∧row.size=w
 |0,s,_=>fun r hr=>by omega
 | n+1,s,h=>fun r hr=>by
  rw[rowsM] at h
  split at h
  ·cases h
  ·rename_i s1 h1
   split at h
   ·cases h
   ·rename_i row hrow
    split at h
    ·rename_i hw
     by_cases e:r=n
     ·subst e; exact⟨row,hrow,hw⟩
     ·exact rowsM_size n s1 h1 r (by omega)
    ·cases h
theorem Ys {l:TLevel} (h:levelOk l=true):3≤l.Rows.length∧l.Rows.length≤12∧∃ w,4≤w∧w≤20∧∀ (r:Nat) (hr:r<l.Rows.length),(l.Rows[r]).size=w:=by
 unfold levelOk at h
 simp only[Gqg,decide_eq_true_eq] at h
 obtain⟨⟨⟨⟨h1,h2⟩,h3⟩,h4⟩,h5⟩:=h
 refine⟨h1,h2,widthM l.Rows,h3,h4,fun r hr => ?_⟩
 split at h5
 ·rename_i s hs
  obtain⟨row,h6,h7⟩:=rowsM_size _ s hs r hr
  rw[Gqe hr] at h6
  simp only[Option.some.injEq] at h6
  rw[h6]; exact h7
 ·cases h5
def sizeOf (k:Int):Int:=if k=0 then 12 else if k=1 then 4 else if k=2 then 8 else 0
theorem I_SizeOf (k:Int):Con Tryz.prog 223 [] [ai k] [] (I (sizeOf k)):=by
 by_cases h0:k=0
 ·have hb:decide (k=0)=true:=Gqb h0
  rw[show sizeOf k=12 by rw[sizeOf,if_pos h0]]
  refine Con.of Tryz.func223 J Tryz.ntmps223 J (fun E => ?_)
  refine Wz [74,3,64,1,8,2,51,123,177,83] ?_
  exact V3 J (V4 [] J J J)
 have hb0:decide (k=0)=false:=Gqa h0
 by_cases h1:k=1
 ·have hb:decide (k=1)=true:=Gqb h1
  rw[show sizeOf k=4 by rw[sizeOf,if_neg h0,if_pos h1]]
  refine Con.of Tryz.func223 J Tryz.ntmps223 J (fun E => ?_)
  refine Wz [74,3,64,1,8,70,1,8,2,51,123,177,83] ?_
  exact V3 J (V4 [] J J J)
 have hb1:decide (k=1)=false:=Gqa h1
 by_cases h2:k=2
 ·have hb:decide (k=2)=true:=Gqb h2
  rw[show sizeOf k=8 by rw[sizeOf,if_neg h0,if_neg h1,if_pos h2]]
  refine Con.of Tryz.func223 J Tryz.ntmps223 J (fun E => ?_)
  refine Wz [74,3,64,1,8,70,1,8,70,1,8,2,51,123,177,83] ?_
  exact V3 J (V4 [] J J J)
 have hb2:decide (k=2)=false:=Gqa h2
 rw[show sizeOf k=0 by rw[sizeOf,if_neg h0,if_neg h1,if_neg h2]]
 refine Con.of Tryz.func223 J Tryz.ntmps223 J (fun E => ?_)
 refine Wz [74,3,64,1,8,70,1,8,70,1,8,70,144,150,98] ?_
 exact V3 J (V4 [] J J J)
theorem S_SizeOf (k:Int):Con Tryz.prog 221 [] [ai k] [] (I (sizeOf k)):=by
 by_cases h0:k=0
 ·have hb:decide (k=0)=true:=Gqb h0
  rw[show sizeOf k=12 by rw[sizeOf,if_pos h0]]
  refine Con.of Tryz.func221 J Tryz.ntmps221 J (fun E => ?_)
  refine Wz [74,3,64,1,8,2,51,123,177,83] ?_
  exact V3 J (V4 [] J J J)
 have hb0:decide (k=0)=false:=Gqa h0
 by_cases h1:k=1
 ·have hb:decide (k=1)=true:=Gqb h1
  rw[show sizeOf k=4 by rw[sizeOf,if_neg h0,if_pos h1]]
  refine Con.of Tryz.func221 J Tryz.ntmps221 J (fun E => ?_)
  refine Wz [74,3,64,1,8,70,1,8,2,51,123,177,83] ?_
  exact V3 J (V4 [] J J J)
 have hb1:decide (k=1)=false:=Gqa h1
 by_cases h2:k=2
 ·have hb:decide (k=2)=true:=Gqb h2
  rw[show sizeOf k=8 by rw[sizeOf,if_neg h0,if_neg h1,if_pos h2]]
  refine Con.of Tryz.func221 J Tryz.ntmps221 J (fun E => ?_)
  refine Wz [74,3,64,1,8,70,1,8,70,1,8,2,51,123,177,83] ?_
  exact V3 J (V4 [] J J J)
 have hb2:decide (k=2)=false:=Gqa h2
 rw[show sizeOf k=0 by rw[sizeOf,if_neg h0,if_neg h1,if_neg h2]]
 refine Con.of Tryz.func221 J Tryz.ntmps221 J (fun E => ?_)
 refine Wz [74,3,64,1,8,70,1,8,70,1,8,70,144,150,98] ?_
 exact V3 J (V4 [] J J J)
def wallAt (l:TLevel) (r c:Int):Prop:=∀ (q:Nat) (hq:q<l.Rows.length),r=q→0≤c→c<(l.Rows[q]).size→byteAt (l.Rows[q]) c.toNat=35
def hits (l:TLevel) (x y s:Int):Prop:=∃ r c:Int,y/16≤r∧r≤(y+s-1)/16∧x/16≤c∧c≤(x+s-1)/16∧wallAt l r c
noncomputable def solidM (l:TLevel) (x y s:Int):Bool:=@decide (hits l x y s) (Classical.propDecidable _)
theorem Z6 {l:TLevel} {x y s:Int} (h:hits l x y s):solidM l x y s=true:=@decide_eq_true _ (Classical.propDecidable _) h
theorem solidM_F {l:TLevel} {x y s:Int} (h:¬hits l x y s):solidM l x y s=false:=@decide_eq_false _ (Classical.propDecidable _) h
theorem wall_tile {l:TLevel} {r c:Nat} (hr:r<l.Rows.length) (h:byteAt (l.Rows[r]) c=35):wallAt l r c:=fun q hq e h0 h1=>by
 have:q=r:=by omega
 subst this
 exact h
theorem no_wall {l:TLevel} {r c:Nat} (hr:r<l.Rows.length) (hc:c<(l.Rows[r]).size) (h:byteAt (l.Rows[r]) c≠35):¬wallAt l r c:=fun hw=>h (hw r hr rfl (by omega) (by omega))
theorem out_hits {l:TLevel} {x y s:Int} {w:Nat} (hw:∀ (r:Nat) (hr:r<l.Rows.length),(l.Rows[r]).size=w) (h1:1≤s) (h:x<0∨y<0∨(w:Int)*16-s<x∨(l.Rows.length:Int)*16-s<y):hits l x y s:=by
 by_cases hx:x<0
 ·exact⟨y/16,x/16,by omega,by omega,by omega,by omega,fun q hq e h0 h1=>by omega⟩
 by_cases hy:y<0
 ·exact⟨y/16,x/16,by omega,by omega,by omega,by omega,fun q hq e h0 h1=>by omega⟩
 by_cases hx2:(w:Int)*16-s<x
 ·exact⟨y/16,(x+s-1)/16,by omega,by omega,by omega,by omega,fun q hq e h0 h1=>by have:=hw q hq; omega⟩
 ·exact⟨(y+s-1)/16,x/16,by omega,by omega,by omega,by omega,fun q hq e h0 h1=>by omega⟩
def freeR (l:TLevel) (x s:Int) (a b:Int):Prop:=∀ r c:Int,a≤r→r<b→x/16≤c→c≤(x+s-1)/16→¬wallAt l r c
def freeC (l:TLevel) (r:Int) (a b:Int):Prop:=∀ c:Int,a≤c→c<b→¬wallAt l r c
theorem free_all {l:TLevel} {x y s b:Int} (h:freeR l x s (y/16) b) (hb:(y+s-1)/16<b):¬hits l x y s:=fun ⟨r,c,h1,h2,h3,h4,h5⟩=>h r c h1 (by omega) h3 h4 h5
theorem free_row {l:TLevel} {x s a b e:Int} (h:freeR l x s a b) (hc:freeC l b (x/16) e) (he:(x+s-1)/16<e):freeR l x s a (b+1):=fun r c h1 h2 h3 h4=>by
 by_cases hr:r<b
 ·exact h r c h1 hr h3 h4
 ·have:r=b:=by omega
  subst this
  exact hc c h3 (by omega)
theorem free_col {l:TLevel} {r a b:Int} (h:freeC l r a b) (hn:¬wallAt l r b):freeC l r a (b+1):=fun c h1 h2=>by
 by_cases hc:c<b
 ·exact h c h1 hc
 ·have:c=b:=by omega
  subst this
  exact hn
theorem I_solid (l:TLevel) (x y s:Int) (hl:levelOk l=true) (hx:I64 x) (hy:I64 y) (h1:1≤s) (h16:s≤16):Con Tryz.prog 241 [] [ag l,ai x,ai y,ai s] [] (B (solidM l x y s)):=by
 obtain⟨hx1,hx2⟩:=hx
 obtain⟨hy1,hy2⟩:=hy
 obtain⟨f3,f12,w,w4,w20,hw⟩:=Ys hl
 have hlx:=Ye l.Rows
 have h0:0<l.Rows.length:=by omega
 have hat0:(els l.Rows)[(0:Int).toNat]? = some (Enc.e l.Rows[0]):=Yd h0
 have hw0:=hw 0 h0
 refine Con.of Tryz.func241 J Tryz.ntmps241 J (fun E => ?_)
 refine Wz [44,14,63,143,145,2,14,12,145,46,192,0,132] ?_;refine zx (Kx J (.hit .stop) (fun hgrd=>Zp J J J J)) J ?_;refine Wz [28,0,132,269,238] ?_;refine zx (Kx J (.hit (.hit (.hit .stop))) (fun hgrd=>Xc J J J J (by omega))) J ?_;refine zx (Kx J (.hit (.hit (.hit (.hit .stop)))) (fun hgrd=>q_gtr J J J J)) J ?_;refine Wz [28,0,132,269,238] ?_;refine zx (Kx J (.hit (.hit (.hit .stop))) (fun hgrd=>Xc J J J J (by omega))) J ?_;refine zx (Kx J (.hit (.hit (.hit (.hit .stop)))) (fun hgrd=>q_gtr J J J J)) J ?_;refine Wz [28,3] ?_
 refine Xb J (fun h => ?_) (fun h => ?_)
 ·simp only[Gqu,decide_eq_true_eq] at h
  rw[Z6 (out_hits hw h1 (by omega))]
  refine Wz [107] ?_
  exact V3 J (V4 [] J J J)
 simp only[Gqt,decide_eq_false_iff_not] at h
 refine Wz [27,36,185,151] ?_;refine Xj (fun m__ st=>∃ (r:Nat),((y+s-1)/16+1).toNat-r=m__∧(y/16≤r∧(r:Int)≤(y+s-1)/16+1∧freeR l x s (y/16) r)∧st=(⟨_,[(1,I x),(2,I y),(3,I s),(4,.o (.c (.ptr 0 0))),(11,I r)],[.box ((Enc.e l).map (V1.rd []))]⟩:St)) _ ⟨(fun (r:Nat)=>(⟨_,[(1,I x),(2,I y),(3,I s),(4,.o (.c (.ptr 0 0))),(11,I r)],[.box ((Enc.e l).map (V1.rd []))]⟩:St)) ((y/16).toNat),⟨(y/16).toNat,J,⟨by omega,by omega,fun r c h1 h2=>by omega⟩,J⟩,V0 [0] J (by kernel_rfl) (.c J (.c J (.c J (.c J (.cons (Xv (by omega)) (.nil))))))⟩ ?_
 rintro m_A _ ⟨r,hk_A,hp_A,rfl⟩
 obtain⟨hr1,hr2,hfr⟩:=hp_A
 refine Wz [18,0,30,35,185,225,3] ?_
 refine Xb J (fun h5 => ?_) (fun h5 => ?_)
 ·have h5:=Gqd h5
  have hrl:r<l.Rows.length:=by omega
  have hat:=Yd hrl
  have hwr:=hw r hrl
  refine Wz [50,185,151] ?_;refine Xj (fun m__ st=>∃ (c:Nat),((x+s-1)/16+1).toNat-c=m__∧(x/16≤c∧(c:Int)≤(x+s-1)/16+1∧freeC l r (x/16) c)∧st=(⟨_,[(1,I x),(2,I y),(3,I s),(4,.o (.c (.ptr 0 0))),(11,I r),(12,I c)],[.box ((Enc.e l).map (V1.rd []))]⟩:St)) _ ⟨(fun (c:Nat)=>(⟨_,[(1,I x),(2,I y),(3,I s),(4,.o (.c (.ptr 0 0))),(11,I r),(12,I c)],[.box ((Enc.e l).map (V1.rd []))]⟩:St)) ((x/16).toNat),⟨(x/16).toNat,J,⟨by omega,by omega,fun c h1 h2=>by omega⟩,J⟩,V0 [0] J (by kernel_rfl) (.c J (.c J (.c J (.c J (.c J (.cons (Xv (by omega)) (.nil)))))))⟩ ?_
  rintro m_B _ ⟨c,hk_B,hp_B,rfl⟩
  obtain⟨hc1,hc2,hfc⟩:=hp_B
  refine Wz [18,0,30,35,185,225,3] ?_
  refine Xb J (fun h6 => ?_) (fun h6 => ?_)
  ·have h6:=Gqd h6
   refine Wz [16,32,63,0,165,201,3] ?_
   refine Xb J (fun h7 => ?_) (fun h7 => ?_)
   ·have h7:=Gqd h7
    rw[Z6 ⟨(r:Int),(c:Int),hr1,by omega,hc1,by omega,wall_tile hrl h7⟩]
    refine Wz [123,200,40] ?_
    exact V3 J (V4 [] J J J)
   ·have h7:=Gqf h7
    refine Wz [144,135] ?_
    refine⟨_,(by omega),_,⟨c+1,J,⟨by omega,by omega,free_col hfc (no_wall hrl (by omega) h7)⟩,J⟩,Ua [0]⟩
  ·have h6:=Gqf h6
   refine Wz [158,159,135] ?_
   refine⟨_,(by omega),_,⟨r+1,J,⟨by omega,by omega,free_row hfr hfc (by omega)⟩,J⟩,Ua [0]⟩
 ·have h5:=Gqf h5
  rw[solidM_F (free_all hfr (by omega))]
  refine Wz [29,98] ?_
  exact V3 J (V4 [] J J J)
theorem S_l02Solid (l:TLevel) (x y s:Int) (hl:levelOk l=true) (hx:I64 x) (hy:I64 y) (h1:1≤s) (h16:s≤16):Con Tryz.prog 220 [] [ag l,ai x,ai y,ai s] [] (B (solidM l x y s)):=by
 obtain⟨hx1,hx2⟩:=hx
 obtain⟨hy1,hy2⟩:=hy
 obtain⟨f3,f12,w,w4,w20,hw⟩:=Ys hl
 have hlx:=Ye l.Rows
 refine Con.of Tryz.func220 J Tryz.ntmps220 J (fun E => ?_)
 refine Wz [194,46] ?_;refine zx (Qj J J (Xz x 0 1000) J) J ?_;refine Wz [15,0,132] ?_;refine zx (Kx J (.hit .stop) (fun hgrd=>Qj J J (Xz y 0 1000) J)) J ?_;refine Wz [272,28,3] ?_
 refine Xb J (fun h => ?_) (fun h => ?_)
 ·have h:¬(0≤x∧x≤1000)∨¬(0≤y∧y≤1000):=by
   rw[←Yr,←Yr]
   simpa using h
  rw[Z6 (out_hits hw h1 (by omega))]
  refine Wz [107] ?_
  exact V3 J (V4 [] J J J)
 have h:(0≤x∧x≤1000)∧(0≤y∧y≤1000):=by
  rw[←Yr,←Yr]
  simpa using h
 refine Wz [27,36,185,151] ?_;refine Xj (fun m__ st=>∃ (r:Nat),((y+s-1)/16+1).toNat-r=m__∧(y/16≤r∧(r:Int)≤(y+s-1)/16+1∧freeR l x s (y/16) r)∧st=(⟨_,[(1,I x),(2,I y),(3,I s),(4,.o (.c (.ptr 0 0))),(9,I r)],[.box ((Enc.e l).map (V1.rd []))]⟩:St)) _ ⟨(fun (r:Nat)=>(⟨_,[(1,I x),(2,I y),(3,I s),(4,.o (.c (.ptr 0 0))),(9,I r)],[.box ((Enc.e l).map (V1.rd []))]⟩:St)) ((y/16).toNat),⟨(y/16).toNat,J,⟨by omega,by omega,fun r c h1 h2=>by omega⟩,J⟩,V0 [0] J (by kernel_rfl) (.c J (.c J (.c J (.c J (.cons (Xv (by omega)) (.nil))))))⟩ ?_
 rintro m_A _ ⟨r,hk_A,hp_A,rfl⟩
 obtain⟨hr1,hr2,hfr⟩:=hp_A
 refine Wz [18,0,30,35,185,225,3] ?_
 refine Xb J (fun h5 => ?_) (fun h5 => ?_)
 ·have h5:=Gqd h5
  refine Wz [50,185,151] ?_;refine Xj (fun m__ st=>∃ (c:Nat),((x+s-1)/16+1).toNat-c=m__∧(x/16≤c∧(c:Int)≤(x+s-1)/16+1∧freeC l r (x/16) c)∧st=(⟨_,[(1,I x),(2,I y),(3,I s),(4,.o (.c (.ptr 0 0))),(9,I r),(10,I c)],[.box ((Enc.e l).map (V1.rd []))]⟩:St)) _ ⟨(fun (c:Nat)=>(⟨_,[(1,I x),(2,I y),(3,I s),(4,.o (.c (.ptr 0 0))),(9,I r),(10,I c)],[.box ((Enc.e l).map (V1.rd []))]⟩:St)) ((x/16).toNat),⟨(x/16).toNat,J,⟨by omega,by omega,fun c h1 h2=>by omega⟩,J⟩,V0 [0] J (by kernel_rfl) (.c J (.c J (.c J (.c J (.c J (.cons (Xv (by omega)) (.nil)))))))⟩ ?_
  rintro m_B _ ⟨c,hk_B,hp_B,rfl⟩
  obtain⟨hc1,hc2,hfc⟩:=hp_B
  refine Wz [18,0,30,35,185,225,3] ?_
  refine Xb J (fun h6 => ?_) (fun h6 => ?_)
  ·have h6:=Gqd h6
   by_cases hrl:r<l.Rows.length
   ·have hat:=Yd hrl
    have hb:decide (((els l.Rows).length:Int)≤r)=false:=Gqa (by omega)
    by_cases hcl:c<(l.Rows[r]).size
    ·have hb2:decide (((l.Rows[r]).size:Int)≤c)=false:=Gqa (by omega)
     by_cases h7:byteAt (l.Rows[r]) c=35
     ·have hb3:decide (byteAt (l.Rows[r]) (c:Int).toNat=35)=true:=Gqb h7
      rw[Z6 ⟨(r:Int),(c:Int),hr1,by omega,hc1,by omega,wall_tile hrl h7⟩]
      refine Wz [50,10,12,137,11,101,25,211,5,212,5,143,5,137,7,24,25,211,5,212,5,25,259,5,288,7,97,200,40] ?_
      exact V3 J (V4 [] J J J)
     ·have hb3:decide (byteAt (l.Rows[r]) (c:Int).toNat=35)=false:=Gqa h7
      refine Wz [50,10,12,137,11,101,25,211,5,212,5,143,5,137,7,24,25,211,5,212,5,25,165,5,8,7,80] ?_
      refine⟨_,(by omega),_,⟨c+1,J,⟨by omega,by omega,free_col hfc (no_wall hrl hcl h7)⟩,J⟩,Ua [0]⟩
    ·have hb2:decide (((l.Rows[r]).size:Int)≤c)=true:=Gqb (by omega)
     rw[Z6 ⟨(r:Int),(c:Int),hr1,by omega,hc1,by omega,fun q hq e g0 g1=>by have:q=r:=(by omega); subst this; omega⟩]
     refine Wz [50,10,12,137,11,101,25,211,5,212,5,143,5,137,7,78,131,131,26,97,200,40] ?_
     exact V3 J (V4 [] J J J)
   ·have hb:decide (((els l.Rows).length:Int)≤r)=true:=Gqb (by omega)
    rw[Z6 ⟨(r:Int),(c:Int),hr1,by omega,hc1,by omega,fun q hq e g0 g1=>by omega⟩]
    refine Wz [50,10,12,137,78,131,131,26,78,131,131,26,97,200,40] ?_
    exact V3 J (V4 [] J J J)
  ·have h6:=Gqf h6
   refine Wz [158,159,135] ?_
   refine⟨_,(by omega),_,⟨r+1,J,⟨by omega,by omega,free_row hfr hfc (by omega)⟩,J⟩,Ua [0]⟩
 ·have h5:=Gqf h5
  rw[solidM_F (free_all hfr (by omega))]
  refine Wz [29,98] ?_
  exact V3 J (V4 [] J J J)
noncomputable def solidAt (l:TLevel) (x y s:Int):Bool:=(!inR s 1 16 || !levelOk l) || solidM l x y s
theorem I_SolidAt (l:TLevel) (x y s:Int) (hg:Enc.gd l) (hx:I64 x) (hy:I64 y):Con Tryz.prog 222 [] [ag l,ai x,ai y,ai s] [] (B (solidAt l x y s)):=by
 have hc:=Xs l hg
 by_cases hs:¬(1≤s∧s≤16)
 ·have hf:inR s 1 16=false:=by rw[←Gxq,Yr]; exact hs
  rw[show solidAt l x y s=true by rw[solidAt,hf]; rfl]
  refine Con.of Tryz.func222 J Tryz.ntmps222 J (fun E => ?_)
  refine Wz [194,46,192,0,132,286,28,0] ?_;refine zx (Qt.grdF J J J .stop (fun hgrd=>Qu J J J J J J)) J ?_;refine zx (Kx J (.hit .stop) (fun hgrd=>Qj J J (hc) J)) J ?_;refine Wz [272,28,3] ?_
  refine Xb J (fun h => ?_) (fun h => ?_)
  ·refine Wz [107] ?_
   exact V3 J (V4 [] J J J)
  ·simp only[Gqt,decide_eq_false_iff_not] at h
   omega
 have hs:=Classical.not_not.1 hs
 have hb1:decide (s<1)=false:=Gqa (by omega)
 have hb2:decide (16<s)=false:=Gqa (by omega)
 cases ho:levelOk l with
 |false =>
  rw[ho] at hc
  rw[show solidAt l x y s=true by rw[solidAt,ho]; simp]
  refine Con.of Tryz.func222 J Tryz.ntmps222 J (fun E => ?_)
  refine Wz [194,113,11,84,7,25,39,5] ?_;refine zx (Qj J J (hc) J) J ?_;refine Wz [71,7,57] ?_
  exact V3 J (V4 [] J J J)
 |true =>
  rw[ho] at hc
  rw[show solidAt l x y s=solidM l x y s by rw[solidAt,ho,Yr.2 hs]; rfl]
  have hd:=I_solid l x y s ho hx hy hs.1 hs.2
  refine Con.of Tryz.func222 J Tryz.ntmps222 J (fun E => ?_)
  refine Wz [194,113,11,84,7,25,39,5] ?_;refine zx (Qj J J (hc) J) J ?_;refine Wz [71,45,124,0,0] ?_;refine zx (Qj J J (hd) J) J ?_;refine Wz [48] ?_
  exact V3 J (V4 [] J J J)
end
section
open Go.RowKit

def tailM (b:TBody):Bool :=
 if b.Kind=0 then (decide (b.Aim=1∨b.Aim = -1)&&inR b.Life 0 3)&&(if b.Life=0 then inR b.Timer 1 20 else inR b.Timer 0 12)
 else if b.Kind=1 then decide (b.Aim=0∧b.Life=0)&&inR b.Timer 1 25
 else decide (b.Owner=0∧b.Aim=0∧b.Life=0∧b.Timer=0)
noncomputable def bodyM (l:TLevel) (n:Int) (b:TBody):Bool :=
 inR b.Kind 0 2&&(inR b.Owner 0 (n-1)&&(!solidM l b.X b.Y (sizeOf b.Kind)&&(inR b.VX (-15) 15&&(inR b.VY (-15) 15&&tailM b))))
theorem size_in {k:Int} (h:inR k 0 2=true):1≤sizeOf k∧sizeOf k≤16:=by
 have:=Yr.1 h
 unfold sizeOf
 split
 ·omega
 ·split
  ·omega
  ·split <;> omega
theorem S_l02Body (l:TLevel) (n:Int) (b:TBody) (hg:Enc.gd l) (hl:levelOk l=true) (hb:Enc.gd b) (hn:0≤n∧n≤1099511627776):Con Tryz.prog 189 [] [ag l,ai n,ag b] [] (B (bodyM l n b)):=by
 obtain⟨b1,b2,b3,b4,b5,b6,b7,b8,b9⟩:=hb
 have h1:=Xz b.Kind 0 2
 have hsz:=S_SizeOf b.Kind
 have h2:=Xz b.Owner 0 (n-1)
 have h4:=Xz b.VX (-15) 15
 have h5:=Xz b.VY (-15) 15
 cases e1:inR b.Kind 0 2 with
 |false =>
  rw[e1] at h1
  rw[show bodyM l n b=false by rw[bodyM,e1]; rfl]
  refine Con.of Tryz.func189 J Tryz.ntmps189 J (fun E => ?_)
  refine Wz [100,17,17,213,19] ?_;refine Ki (Qj J J (h1) J) J ?_;refine Wz [136,90,202,55,90,102,173,55,90,55,90,55,9,57] ?_
  exact V3 J (V4 [] J J J)
 | true =>
  rw[e1] at h1
  cases e2:inR b.Owner 0 (n-1) with
  |false =>
   rw[e2] at h2
   rw[show bodyM l n b=false by rw[bodyM,e1,e2]; rfl]
   refine Con.of Tryz.func189 J Tryz.ntmps189 J (fun E => ?_)
   refine Wz [100,17,17,213,19] ?_;refine Ki (Qj J J (h1) J) J ?_;refine Wz [136,4,62,227] ?_;refine Ki (Qt.yes J J J (Qj J J (h2) J)) J ?_;refine Wz [166,43,90,102,173,55,90,55,90,55,9,57] ?_
   exact V3 J (V4 [] J J J)
  | true =>
   rw[e2] at h2
   have hs16:=size_in e1
   have h3:=S_l02Solid l b.X b.Y (sizeOf b.Kind) hl b3 b4 hs16.1 hs16.2
   cases e3:solidM l b.X b.Y (sizeOf b.Kind) with
   |true =>
    rw[e3] at h3
    rw[show bodyM l n b=false by rw[bodyM,e1,e2,e3]; rfl]
    refine Con.of Tryz.func189 J Tryz.ntmps189 J (fun E => ?_)
    refine Wz [100,17,17,213,19] ?_;refine Ki (Qj J J (h1) J) J ?_;refine Wz [136,4,62,227] ?_;refine Ki (Qt.yes J J J (Qj J J (h2) J)) J ?_;refine Wz [166,43,4,178,38,38,38] ?_;refine Ki (Qt.yes J J J (Qj J J (hsz) J)) J ?_;refine Ki (Qt.yes J J J (Qj J J (h3) J)) J ?_;refine Wz [43,90,55,90,55,9,57] ?_
    exact V3 J (V4 [] J J J)
   | false =>
    rw[e3] at h3
    cases e4:inR b.VX (-15) 15 with
    |false =>
     rw[e4] at h4
     rw[show bodyM l n b=false by rw[bodyM,e1,e2,e3,e4]; rfl]
     refine Con.of Tryz.func189 J Tryz.ntmps189 J (fun E => ?_)
     refine Wz [100,17,17,213,19] ?_;refine Ki (Qj J J (h1) J) J ?_;refine Wz [136,4,62,227] ?_;refine Ki (Qt.yes J J J (Qj J J (h2) J)) J ?_;refine Wz [166,43,4,178,38,38,38] ?_;refine Ki (Qt.yes J J J (Qj J J (hsz) J)) J ?_;refine Ki (Qt.yes J J J (Qj J J (h3) J)) J ?_;refine Wz [43,4,38] ?_;refine Ki (Qt.yes J J J (Qj J J (h4) J)) J ?_;refine Wz [166,43,90,55,9,57] ?_
     exact V3 J (V4 [] J J J)
    | true =>
     rw[e4] at h4
     cases e5:inR b.VY (-15) 15 with
     |false =>
      rw[e5] at h5
      rw[show bodyM l n b=false by rw[bodyM,e1,e2,e3,e4,e5]; rfl]
      refine Con.of Tryz.func189 J Tryz.ntmps189 J (fun E => ?_)
      refine Wz [100,17,17,213,19] ?_;refine Ki (Qj J J (h1) J) J ?_;refine Wz [136,4,62,227] ?_;refine Ki (Qt.yes J J J (Qj J J (h2) J)) J ?_;refine Wz [166,43,4,178,38,38,38] ?_;refine Ki (Qt.yes J J J (Qj J J (hsz) J)) J ?_;refine Ki (Qt.yes J J J (Qj J J (h3) J)) J ?_;refine Wz [43,4,38] ?_;refine Ki (Qt.yes J J J (Qj J J (h4) J)) J ?_;refine Wz [166,43,4,38] ?_;refine Ki (Qt.yes J J J (Qj J J (h5) J)) J ?_;refine Wz [166,43,9,57] ?_
      exact V3 J (V4 [] J J J)
     | true =>
      rw[e5] at h5
      rw[show bodyM l n b=tailM b by rw[bodyM,e1,e2,e3,e4,e5]; rfl]
      by_cases k0:b.Kind=0
      ·have hk:decide (b.Kind=0)=true:=Gqb k0
       refine Con.of Tryz.func189 J Tryz.ntmps189 J (fun E => ?_)
       refine Wz [100,17,17,213,19] ?_;refine Ki (Qj J J (h1) J) J ?_;refine Wz [136,4,62,227] ?_;refine Ki (Qt.yes J J J (Qj J J (h2) J)) J ?_;refine Wz [166,43,4,178,38,38,38] ?_;refine Ki (Qt.yes J J J (Qj J J (hsz) J)) J ?_;refine Ki (Qt.yes J J J (Qj J J (h3) J)) J ?_;refine Wz [43,4,38] ?_;refine Ki (Qt.yes J J J (Qj J J (h4) J)) J ?_;refine Wz [166,43,4,38] ?_;refine Ki (Qt.yes J J J (Qj J J (h5) J)) J ?_;refine Wz [166,43,9,47,21,3,64,1,8,2,51,21,142,0,125,126] ?_;refine zx (Qt.grdT J J J (.hit (.hit .stop)) (fun hgrd=>Zr J J J J)) J ?_;refine Wz [69,109] ?_;refine zx (Kx J (.hit (.hit .stop)) (fun hgrd=>Qj J J (Xz b.Life 0 3) J)) J ?_;refine Wz [146,28,3] ?_
       refine Xb J (fun h => ?_) (fun h => ?_)
       ·rw[show tailM b=false by
         rw[tailM,if_pos k0]
         simp only[Gqu,Gqg,decide_eq_true_eq,Gq6] at h
         rcases h with h | h
         ·rw[Gqa (by omega)]; rfl
         ·rw[h]; simp]
        refine Wz [123,94,83] ?_
        exact V3 J (V4 [] J J J)
       simp only[Gqt,Gxt,decide_eq_false_iff_not,Gxe] at h
       have ht:tailM b=if b.Life=0 then inR b.Timer 1 20 else inR b.Timer 0 12:=by
        rw[tailM,if_pos k0,Gqb (by omega),h.2]; rfl
       by_cases l0:b.Life=0
       ·have hk2:decide (b.Life=0)=true:=Gqb l0
        rw[ht,if_pos l0]
        refine Wz [27,21,8,22,14] ?_;refine zx (Qj J J (Xz b.Timer 1 20) J) J ?_;refine Wz [182,94,83] ?_
        exact V3 J (V4 [] J J J)
       ·have hk2:decide (b.Life=0)=false:=Gqa l0
        rw[ht,if_neg l0]
        refine Wz [27,21,8,47,14] ?_;refine zx (Qj J J (Xz b.Timer 0 12) J) J ?_;refine Wz [182,177,83] ?_
        exact V3 J (V4 [] J J J)
      have hk:decide (b.Kind=0)=false:=Gqa k0
      by_cases k1:b.Kind=1
      ·have hk1:decide (b.Kind=1)=true:=Gqb k1
       refine Con.of Tryz.func189 J Tryz.ntmps189 J (fun E => ?_)
       refine Wz [100,17,17,213,19] ?_;refine Ki (Qj J J (h1) J) J ?_;refine Wz [136,4,62,227] ?_;refine Ki (Qt.yes J J J (Qj J J (h2) J)) J ?_;refine Wz [166,43,4,178,38,38,38] ?_;refine Ki (Qt.yes J J J (Qj J J (hsz) J)) J ?_;refine Ki (Qt.yes J J J (Qj J J (h3) J)) J ?_;refine Wz [43,4,38] ?_;refine Ki (Qt.yes J J J (Qj J J (h4) J)) J ?_;refine Wz [166,43,4,38] ?_;refine Ki (Qt.yes J J J (Qj J J (h5) J)) J ?_;refine Wz [166,43,9,47,21,3,64,1,8,70,1,8,2,51,14,201,0,125,126,189,69,0,125,126] ?_;refine zx (Qt.grdT J J J (.hit (.hit .stop)) (fun hgrd=>Qj J J (Xz b.Timer 1 25) J)) J ?_;refine Wz [69,182,177,83] ?_
       exact V3 J (V4 [] J J (Xk (by rw[tailM,if_neg k0,if_pos k1,←Bool.decide_and])))
      ·have hk1:decide (b.Kind=1)=false:=Gqa k1
       refine Con.of Tryz.func189 J Tryz.ntmps189 J (fun E => ?_)
       refine Wz [100,17,17,213,19] ?_;refine Ki (Qj J J (h1) J) J ?_;refine Wz [136,4,62,227] ?_;refine Ki (Qt.yes J J J (Qj J J (h2) J)) J ?_;refine Wz [166,43,4,178,38,38,38] ?_;refine Ki (Qt.yes J J J (Qj J J (hsz) J)) J ?_;refine Ki (Qt.yes J J J (Qj J J (h3) J)) J ?_;refine Wz [43,4,38] ?_;refine Ki (Qt.yes J J J (Qj J J (h4) J)) J ?_;refine Wz [166,43,4,38] ?_;refine Ki (Qt.yes J J J (Qj J J (h5) J)) J ?_;refine Wz [166,43,9,47,21,3,64,1,8,70,1,8,70,144,150,14,201,0,125,126,189,69,0,125,126,189,69,0,125,126,189,69,48] ?_
       exact V3 J (V4 [] J J (Xk (by rw[tailM,if_neg k0,if_neg k1]; simp only[Bool.decide_and,Bool.and_assoc])))
theorem I_BodyOk (l:TLevel) (n:Int) (b:TBody) (hg:Enc.gd l) (hb:Enc.gd b) (hn:0≤n∧n≤1099511627776):Con Tryz.prog 192 [] [ag l,ai n,ag b] [] (B (levelOk l&&bodyM l n b)):=by
 obtain⟨b1,b2,b3,b4,b5,b6,b7,b8,b9⟩:=hb
 have hc:=Xs l hg
 cases hl:levelOk l with
 |false =>
  rw[hl] at hc
  rw[Bool.false_and]
  refine Con.of Tryz.func192 J Tryz.ntmps192 J (fun E => ?_)
  refine Wz [100,31] ?_;refine zx (Qj J J (hc) J) J ?_;refine Wz [15,95,77,26,95,77,26,57] ?_
  exact V3 J (V4 [] J J J)
 | true =>
  rw[hl] at hc
  rw[Bool.true_and]
  refine Con.of Tryz.func192 J Tryz.ntmps192 J (fun E => ?_)
  refine Wz [100,31] ?_;refine zx (Qj J J (hc) J) J ?_;refine Wz [15,24,192,7,109] ?_;refine zx (Kx J (.hit (.hit .stop)) (fun hgrd=>q_gtr J J J J)) J ?_;refine Wz [28,3] ?_
  refine Xb J (fun h => ?_) (fun h => ?_)
  ·simp only[Gqu,decide_eq_true_eq] at h
   have e1:inR b.Kind 0 2=false:=by rw[←Gxq,Yr]; omega
   rw[show bodyM l n b=false by rw[bodyM,e1]; rfl]
   refine Wz [107] ?_
   exact V3 J (V4 [] J J J)
  simp only[Gqt,decide_eq_false_iff_not] at h
  have e1:inR b.Kind 0 2=true:=Yr.2 (by omega)
  have hs16:=size_in e1
  refine Wz [27,21,192,109,238] ?_;refine zx (Kx J (.hit (.hit (.hit .stop))) (fun hgrd=>q_geq J J J J)) J ?_;refine Wz [28,109] ?_;refine zx (Kx J (.hit (.hit .stop)) (fun hgrd=>Ze J J J J)) J ?_;refine zx (Kx J (.hit (.hit (.hit .stop))) (fun hgrd=>Qa J J J)) J ?_;refine zx (Qt.grd2T J J J (.hit1 (.hit1 (.hit1 (.hit1 .stop)))) (fun hgrd hgrd2=>Qf J J J J (by decide))) J ?_;refine zx (Qt.grd2T J J J (.hit (.hit1 (.hit1 (.hit1 (.hit1 .stop))))) (fun hgrd hgrd2=>Qg J J J J J)) J ?_;refine zx (Qt.grd2T J J J (.hit (.hit (.hit1 (.hit1 (.hit1 (.hit1 .stop)))))) (fun hgrd hgrd2=>Zr J J J J)) J ?_;refine zx (Kx J (.part (.part (.part (.hit (.hit (.hit (.hit .stop))))))) (fun hgrd=>Y6 J J J J)) J ?_;refine Wz [28,3] ?_
  refine Xb J (fun h2 => ?_) (fun h2 => ?_)
  ·simp only[Gqu,Gqg,decide_eq_true_eq] at h2
   rw[show bodyM l n b=false by
    by_cases ho:0≤b.Owner∧b.Owner≤n-1
    ·have hk:b.Kind=2∧b.Owner≠0:=by omega
     have ht:tailM b=false:=by rw[tailM,if_neg (by omega),if_neg (by omega),Gqa (fun hh=>hk.2 hh.1)]
     rw[bodyM,ht]; simp
    ·have e2:inR b.Owner 0 (n-1)=false:=by rw[←Gxq,Yr]; exact ho
     rw[bodyM,e2]; simp]
   refine Wz [107] ?_
   exact V3 J (V4 [] J J J)
  simp only[Gqt,Gxt,decide_eq_false_iff_not] at h2
  have e2:inR b.Owner 0 (n-1)=true:=Yr.2 (by omega)
  have hsz:=I_SizeOf b.Kind
  have h3:=I_SolidAt l b.X b.Y (sizeOf b.Kind) hg b3 b4
  rw[show solidAt l b.X b.Y (sizeOf b.Kind)=solidM l b.X b.Y (sizeOf b.Kind) by rw[solidAt,hl,Yr.2 hs16]; rfl] at h3
  cases e3:solidM l b.X b.Y (sizeOf b.Kind) with
  |true =>
   rw[e3] at h3
   rw[show bodyM l n b=false by rw[bodyM,e1,e2,e3]; rfl]
   refine Wz [27,17,17] ?_;refine Xi u8_9 u8_10 u8_11 J ?_;refine Wz [72,19,19,19] ?_;refine Ki (Qj J J (hsz) J) J ?_;refine Ki (Qj J J (h3) J) J ?_;refine Wz [9,57] ?_
   exact V3 J (V4 [] J J J)
  | false =>
   rw[e3] at h3
   refine Wz [27,17,17] ?_;refine Xi u8_9 u8_10 u8_11 J ?_;refine Wz [72,19,19,19] ?_;refine Ki (Qj J J (hsz) J) J ?_;refine Ki (Qj J J (h3) J) J ?_;refine Wz [9,47,21] ?_;refine zx (Qj J J (Xu b.VX (-15) 15) J) J ?_;refine Wz [15,109] ?_;refine zx (Kx J (.hit (.hit .stop)) (fun hgrd=>Qj J J (Xu b.VY (-15) 15) J)) J ?_;refine Wz [146,28,3] ?_
   refine Xb J (fun h4 => ?_) (fun h4 => ?_)
   ·simp only[Gqu,Gq6] at h4
    rw[show bodyM l n b=false by rw[bodyM]; rcases h4 with h4 | h4 <;> rw[h4] <;> simp]
    refine Wz [107] ?_
    exact V3 J (V4 [] J J J)
   simp only[Gqt,Gxe] at h4
   rw[show bodyM l n b=tailM b by rw[bodyM,e1,e2,e3,h4.1,h4.2]; rfl]
   by_cases k0:b.Kind=0
   ·have hk:decide (b.Kind=0)=true:=Gqb k0
    refine Wz [27,21,8,22,21,142,0,125,126] ?_;refine zx (Qt.grdT J J J (.hit (.hit .stop)) (fun hgrd=>Zr J J J J)) J ?_;refine Wz [69,109] ?_;refine zx (Kx J (.hit (.hit .stop)) (fun hgrd=>Qj J J (Xu b.Life 0 3) J)) J ?_;refine Wz [146,28,3] ?_
    refine Xb J (fun h => ?_) (fun h => ?_)
    ·rw[show tailM b=false by
      rw[tailM,if_pos k0]
      simp only[Gqu,Gqg,decide_eq_true_eq,Gq6] at h
      rcases h with h | h
      ·rw[Gqa (by omega)]; rfl
      ·rw[h]; simp]
     refine Wz [123,271,83] ?_
     exact V3 J (V4 [] J J J)
    simp only[Gqt,Gxt,decide_eq_false_iff_not,Gxe] at h
    have hlf:=Yr.1 h.2
    have ht:tailM b=if b.Life=0 then inR b.Timer 1 20 else inR b.Timer 0 12:=by
     rw[tailM,if_pos k0,Gqb (by omega),h.2]; rfl
    by_cases l0:b.Life=0
    ·have hk2:decide (0<b.Life)=false:=Gqa (by omega)
     rw[ht,if_pos l0]
     refine Wz [27,21,84,47,14] ?_;refine zx (Qj J J (Xu b.Timer 1 20) J) J ?_;refine Wz [116] ?_
     exact V3 J (V4 [] J J J)
    ·have hk2:decide (0<b.Life)=true:=Gqb (by omega)
     rw[ht,if_neg l0]
     refine Wz [27,21,84,22,14] ?_;refine zx (Qj J J (Xu b.Timer 0 12) J) J ?_;refine Wz [182,271,83] ?_
     exact V3 J (V4 [] J J J)
   have hk:decide (b.Kind=0)=false:=Gqa k0
   refine Wz [27,21,8,47,21,142,109] ?_;refine zx (Kx J (.hit (.hit .stop)) (fun hgrd=>Zr J J J J)) J ?_;refine Wz [28,3] ?_
   refine Xb J (fun h5 => ?_) (fun h5 => ?_)
   ·simp only[Gqu,decide_eq_true_eq] at h5
    rw[show tailM b=false by
     rw[tailM,if_neg k0]
     split
     ·rw[Gqa (by omega)]; rfl
     ·exact Gqa (by omega)]
    refine Wz [107] ?_
    exact V3 J (V4 [] J J J)
   simp only[Gqt,decide_eq_false_iff_not] at h5
   by_cases k1:b.Kind=1
   ·have hk1:decide (b.Kind=1)=true:=Gqb k1
    rw[show tailM b=inR b.Timer 1 25 by rw[tailM,if_neg k0,if_pos k1,Gqb (by omega)]; rfl]
    refine Wz [27,21,8,22,14] ?_;refine zx (Qj J J (Xu b.Timer 1 25) J) J ?_;refine Wz [116] ?_
    exact V3 J (V4 [] J J J)
   ·have hk1:decide (b.Kind=1)=false:=Gqa k1
    rw[show tailM b=decide (b.Timer=0) by rw[tailM,if_neg k0,if_neg k1]; exact decide_eq_decide.2 (by omega)]
    refine Wz [27,21,8,47,14,201,48] ?_
    exact V3 J (V4 [] J J J)
end
end Go.Proofs.YtpmacgnmlmmojaaGreatDoor
