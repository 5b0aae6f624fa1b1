/-
  Rules, data and contracts of functions: part 17 of the proof.
  Conditions: those that each theorem names.
-/
import Derived.Test.YtfklmiijhcajdaaGreatDDTellRowk15
set_option linter.unusedSimpArgs false
set_option linter.unusedVariables false
set_option maxRecDepth 8000
set_option maxHeartbeats 8000000
namespace Go.Proofs.YtfklmiijhcajdaaGreat
section
open Go.RowKit

theorem S_LevelOk (x:TLevel) (hg:Enc.gd x):Con Tryz.prog 164 [] [ag x] [] (B (levelOk x)):=by
 obtain⟨rows⟩:=x
 have hn:Enc.gd rows:=hg
 have hn1:=hn.1
 have hlx:=Yi rows
 refine Con.of Tryz.func164 J Tryz.ntmps164 J (fun E => ?_)
 refine Wz [21,34,14] ?_;refine zx (Qj J J (X0 (els rows).length 3 12) J) J ?_;refine Wz [5,6] ?_
 refine Xb J (fun h => ?_) (fun h => ?_)
 ·refine Wz [39] ?_
  exact Xl J J (X1 [] Aqc J J (Xi (by simp[inR] at h; simp[levelOk]; omega)))
 have h:3≤rows.length∧rows.length≤12:=by simp[inR] at h; omega
 have h0:0<rows.length:=Aqa
 have hat0:(els rows)[(0:Int).toNat]? = some (Enc.e rows[0]):=Yg h0
 have hw:=width_at h0
 obtain⟨w,hw'⟩:∃ w,w=rows[0].size:=⟨_,rfl⟩
 rw[←hw'] at hw
 have hg0:rows[0].size≤9223372036854775807:=hn.2 _ (Gqe h0)
 refine Wz [15,23,80,116,2,12,3,138,2,11] ?_;refine Xh (fun m st=>∃ (k:Nat) (s:Seen×Bool),k+m=rows.length∧(rowsM rows w k=some s∧(0<k→4≤w∧w≤20))∧st=(⟨_,[(1,Aqf 0),(3,I w),(4,B s.2),(5,.o (.c (.sb 1 4 1))),(6,I k)],[.box [.rd [] (sl rows)],.box [vb s.1.1,vb s.1.2.1,vb s.1.2.2.1,vb s.1.2.2.2]]⟩:St)) (rows.length) ⟨(fun (k:Nat) (s:Seen×Bool)=>(⟨_,[(1,Aqf 0),(3,I w),(4,B s.2),(5,.o (.c (.sb 1 4 1))),(6,I k)],[.box [.rd [] (sl rows)],.box [vb s.1.1,vb s.1.2.1,vb s.1.2.2.1,vb s.1.2.2.2]]⟩:St)) 0 (((false,false,false,false),false)),⟨0,((false,false,false,false),false),Aqa,⟨J,Aqa⟩,J⟩,X4 [0,1] Aqc J Aqb (.c J (.cons (Xq Aqa) (.c J (.c J (.c J (.nil))))))⟩ ?_
 rintro m_A _ ⟨k,s,hk_A,hp_A,rfl⟩
 refine Wz [56,89,38] ?_
 refine Xb J (fun h => ?_) (fun h => ?_)
 ·have h3:k<rows.length:=by have:=Gqc h; omega
  have hat:=Yg h3
  have hwc:((rows[0].size:Nat):Int)=w:=Aqa
  have hgk:rows[k].size≤9223372036854775807:=hn.2 _ (Gqe h3)
  refine Wz [7,34,0,80,116,0,158,0,109] ?_;refine zx (Qt.grdF J J J (.hit .stop) (fun hgrd=>Qj J J (X0 w 4 20) J)) J ?_;refine Wz [175,51] ?_
  refine Xb J (fun h4 => ?_) (fun h4 => ?_)
  ·simp only[Gqr,decide_eq_true_eq,Gq8,inR,Gxp,decide_eq_false_iff_not] at h4
   refine Wz [77,103,147,69] ?_
   refine Xl J J (X1 [] Aqc J J (Xi ?_))
   by_cases h4':rows[k].size=w
   ·have:¬(4≤w∧w≤20):=Aqa
    simp only[levelOk,hw]
    rcases Gqq w 4 with h9 | h9
    ·simp[show ¬4≤w by omega]
    ·simp[show ¬w≤20 by omega]
   ·exact (level_no (l:=⟨rows⟩) h3 hw (rows_bad h3 h4')).symm
  simp only[Gql,decide_eq_false_iff_not,Gqu,inR,Gqi,decide_eq_true_eq] at h4
  have h1:4≤w∧w≤20:=Aqa
  have h4:rows[k].size=w:=Aqa
  have hrn:=rows_next hp_A.1 h3 h4
  obtain⟨er,her⟩:∃ er,er=(decide (k=0) || decide (k+1=rows.length)):=⟨_,rfl⟩
  rw[←her] at hrn
  refine Wz [15,12,178] ?_;refine Xh (fun m st=>∃ (c:Nat) (u:Seen×Bool),c+m=w∧(colsM rows[k] er w s c=some u)∧st=(⟨_,[(1,Aqf 0),(3,I w),(4,B u.2),(5,.o (.c (.sb 1 4 1))),(6,I k),(7,I c)],[.box [.rd [] (sl rows)],.box [vb u.1.1,vb u.1.2.1,vb u.1.2.2.1,vb u.1.2.2.2]]⟩:St)) (w) ⟨_,⟨0,s,Aqa,J,J⟩,X3 [0,1] Aqb⟩ ?_
  rintro m_D _ ⟨c,u,hk_D,hp_D,rfl⟩
  refine Wz [43,38] ?_
  refine Xb J (fun h5 => ?_) (fun h5 => ?_)
  ·have h5:c<w:=by have:=Gqc h5; omega
   have hcn:=cols_next hp_D
   obtain⟨t,ht⟩:∃ t,byteAt rows[k] (c:Int).toNat=t:=⟨_,rfl⟩
   rw[show byteAt rows[k] c=t from ht] at hcn
   have htb:0≤t∧t≤255:=ht▸byteAt_lt _ _
   obtain⟨⟨sa,sb,sc,sd⟩,so⟩:=u
   obtain⟨e,he⟩:∃ e,e=(er || decide (c=0) || decide (c+1=w)):=⟨_,rfl⟩
   rw[←he] at hcn
   refine Wz [7,75,133,114,208,40,189,0,109] ?_;refine zx (Qt.grdF J J J (.hit .stop) (fun hgrd=>Zu J J J J)) J ?_;refine Wz [110,0,109,181,209,216] ?_;refine zx (Qt.grdF J J J (.hit (.hit (.hit (.hit .stop)))) (fun hgrd=>Xc J J J J Aqa)) J ?_;refine zx (Qt.grdF J J J (.hit (.hit (.hit (.hit (.hit .stop))))) (fun hgrd=>Zu J J J J)) J ?_;refine Wz [110,0,109,244] ?_;refine zx (Qt.grdF J J J (.hit (.hit .stop)) (fun hgrd=>Xc J J J J Aqa)) J ?_;refine zx (Qt.grdF J J J (.hit (.hit (.hit .stop))) (fun hgrd=>Zu J J J J)) J ?_;refine Wz [110,2,205,10,189,2] ?_
   have hee:(decide ((k:Int)=0) || decide ((c:Int)=0) || decide ((k:Int)=((els rows).length:Int)-1) || decide ((c:Int)=(w:Int)-1))=e:=by
    rw[he,her,hlx]
    have g1:decide ((k:Int)=0)=decide (k=0):=Aqd
    have g2:decide ((k:Int)=(rows.length:Int)-1)=decide (k+1=rows.length):=decide_eq_decide.2 Aqa 
    have g3:decide ((c:Int)=0)=decide (c=0):=Aqd
    have g4:decide ((c:Int)=(w:Int)-1)=decide (c+1=w):=decide_eq_decide.2 Aqa 
    rw[g1,g2,g3,g4]
    cases decide (k=0) <;> cases decide (c=0) <;> cases decide (k+1=rows.length) <;> rfl
   clear he her
   have hbad:colsM rows[k] er w s (c+1)=none→levelOk ⟨rows⟩=false:=fun hc=>level_no (l:=⟨rows⟩) h3 hw (hrn.trans (cols_none hc Aqa))
   refine AWP.pre (st':=(⟨_,[(1,Aqf 0),(3,I w),(4,B so),(5,.o (.c (.sb 1 4 1))),(6,I k),(7,I c),(8,VI .u8 t),(9,B e),(73,B (decide (t=35)))],[.box [.rd [] (sl rows)],.box [vb sa,vb sb,vb sc,vb sd]]⟩:St)) ?_ (X4 [0,1] Aqc J Aqb (.c J (.c J (.c J (.c J (.c J (.c J (.c J (.cons (Xi hee) (.c J (.nil)))))))))))
   by_cases h7:t=35
   ·subst h7
    refine Wz [144,123,50,63,109] ?_;refine zx (Qt.grdF J J J (.hit .stop) (fun hgrd=>Qw (b:=false) J J J J Aqc)) J ?_;refine Wz [110,87] ?_
    exact⟨w-(c+1),Aqa,(fun (c:Nat) (u:Seen×Bool)=>(⟨_,[(1,Aqf 0),(3,I w),(4,B u.2),(5,.o (.c (.sb 1 4 1))),(6,I k),(7,I c)],[.box [.rd [] (sl rows)],.box [vb u.1.1,vb u.1.2.1,vb u.1.2.2.1,vb u.1.2.2.2]]⟩:St)) (c+1) (((sa,sb,sc,sd),so)),⟨c+1,((sa,sb,sc,sd),so),Aqa,hcn.trans (by simp[tileM]),J⟩,X4 [0,1] Aqc J Aqb (.c J (.c J (.cons (Xi Aqd) (.c J (.c J (.c J (.nil)))))))⟩
   cases e
   case true =>
    have f1:decide (t=35)=false:=Gqa h7
    refine Xb J (fun h=>absurd (Gqc h) h7) (fun _ => ?_)
    refine Wz [9,47,159,111,111,47,111,111,111,111,111,111,159,60,2,144,77,172,103,147,141] ?_
    exact Xl J J (X1 [] Aqc J J (Xi (hbad (hcn.trans (by simp[tileM,h7]))).symm))
   refine Xb J (fun h=>absurd (Gqc h) h7) (fun _ => ?_)
   rcases (by omega:t=49∨t=50∨t=51∨t=52∨t=111∨t=46∨(t≠35∧t≠49∧t≠50∧t≠51∧t≠52∧t≠111∧t≠46)) with rfl | rfl | rfl | rfl | rfl | rfl | ht7
   ·refine Wz [9,1] ?_
    refine Wz [70,149,1,28,149,1,60,1,28,134,1,28,160,1,22,1,60,22,2,106,10,182,28,194,60,2,144,43,154,198,124,6] ?_
    refine Xb J (fun h8 => ?_) (fun h8 => ?_)
    ·have h8:sa=true:=h8
     subst h8
     refine Wz [77,103,103,147,141] ?_
     exact Xl J J (X1 [] Aqc J J (Xi (hbad (hcn.trans (by simp[tileM]))).symm))
    ·have h8:sa=false:=h8
     subst h8
     refine Wz [15,63,154,198,196,85,50,63,109,219,110,87] ?_
     exact⟨w-(c+1),Aqa,(fun (c:Nat) (u:Seen×Bool)=>(⟨_,[(1,Aqf 0),(3,I w),(4,B u.2),(5,.o (.c (.sb 1 4 1))),(6,I k),(7,I c)],[.box [.rd [] (sl rows)],.box [vb u.1.1,vb u.1.2.1,vb u.1.2.2.1,vb u.1.2.2.2]]⟩:St)) (c+1) (((true,sb,sc,sd),true)),⟨c+1,((true,sb,sc,sd),true),Aqa,hcn.trans (by simp[tileM]),J⟩,X4 [0,1] Aqc J Aqb (.c J (.c J (.cons (Xi Aqd) (.c J (.c J (.c J (.nil)))))))⟩
   ·refine Wz [9,1] ?_
    refine Wz [70,149,1,28,149,1,60,1,28,134,1,28,160,1,22,1,60,22,2,106,10,182,28,194,60,2,144,43,154,198,124,6] ?_
    refine Xb J (fun h8 => ?_) (fun h8 => ?_)
    ·have h8:sb=true:=h8
     subst h8
     refine Wz [77,103,103,147,141] ?_
     exact Xl J J (X1 [] Aqc J J (Xi (hbad (hcn.trans (by simp[tileM]))).symm))
    ·have h8:sb=false:=h8
     subst h8
     refine Wz [15,63,154,198,196,85,50,63,109,219,110,87] ?_
     exact⟨w-(c+1),Aqa,(fun (c:Nat) (u:Seen×Bool)=>(⟨_,[(1,Aqf 0),(3,I w),(4,B u.2),(5,.o (.c (.sb 1 4 1))),(6,I k),(7,I c)],[.box [.rd [] (sl rows)],.box [vb u.1.1,vb u.1.2.1,vb u.1.2.2.1,vb u.1.2.2.2]]⟩:St)) (c+1) (((sa,true,sc,sd),true)),⟨c+1,((sa,true,sc,sd),true),Aqa,hcn.trans (by simp[tileM]),J⟩,X4 [0,1] Aqc J Aqb (.c J (.c J (.cons (Xi Aqd) (.c J (.c J (.c J (.nil)))))))⟩
   ·refine Wz [9,1] ?_
    refine Wz [70,149,1,28,149,1,60,1,28,134,1,28,160,1,22,1,60,22,2,106,10,182,28,194,60,2,144,43,154,198,124,6] ?_
    refine Xb J (fun h8 => ?_) (fun h8 => ?_)
    ·have h8:sc=true:=h8
     subst h8
     refine Wz [77,103,103,147,141] ?_
     exact Xl J J (X1 [] Aqc J J (Xi (hbad (hcn.trans (by simp[tileM]))).symm))
    ·have h8:sc=false:=h8
     subst h8
     refine Wz [15,63,154,198,196,85,50,63,109,219,110,87] ?_
     exact⟨w-(c+1),Aqa,(fun (c:Nat) (u:Seen×Bool)=>(⟨_,[(1,Aqf 0),(3,I w),(4,B u.2),(5,.o (.c (.sb 1 4 1))),(6,I k),(7,I c)],[.box [.rd [] (sl rows)],.box [vb u.1.1,vb u.1.2.1,vb u.1.2.2.1,vb u.1.2.2.2]]⟩:St)) (c+1) (((sa,sb,true,sd),true)),⟨c+1,((sa,sb,true,sd),true),Aqa,hcn.trans (by simp[tileM]),J⟩,X4 [0,1] Aqc J Aqb (.c J (.c J (.cons (Xi Aqd) (.c J (.c J (.c J (.nil)))))))⟩
   ·refine Wz [9,1] ?_
    refine Wz [70,149,1,28,149,1,60,1,28,134,1,28,160,1,22,1,60,22,2,106,10,182,28,194,60,2,144,43,154,198,124,6] ?_
    refine Xb J (fun h8 => ?_) (fun h8 => ?_)
    ·have h8:sd=true:=h8
     subst h8
     refine Wz [77,103,103,147,141] ?_
     exact Xl J J (X1 [] Aqc J J (Xi (hbad (hcn.trans (by simp[tileM]))).symm))
    ·have h8:sd=false:=h8
     subst h8
     refine Wz [15,63,154,198,196,85,50,63,109,219,110,87] ?_
     exact⟨w-(c+1),Aqa,(fun (c:Nat) (u:Seen×Bool)=>(⟨_,[(1,Aqf 0),(3,I w),(4,B u.2),(5,.o (.c (.sb 1 4 1))),(6,I k),(7,I c)],[.box [.rd [] (sl rows)],.box [vb u.1.1,vb u.1.2.1,vb u.1.2.2.1,vb u.1.2.2.2]]⟩:St)) (c+1) (((sa,sb,sc,true),true)),⟨c+1,((sa,sb,sc,true),true),Aqa,hcn.trans (by simp[tileM]),J⟩,X4 [0,1] Aqc J Aqb (.c J (.c J (.cons (Xi Aqd) (.c J (.c J (.c J (.nil)))))))⟩
   ·refine Wz [9,1] ?_
    refine Wz [70,118,1,0,47,1,22,1,0,47,159,111,111,159,1,22,22,2,106,10,182,28] ?_;refine z9b J Aqe ?_;refine Wz [60,2,106,123,50,63,109,219,110,87] ?_
    exact⟨w-(c+1),Aqa,(fun (c:Nat) (u:Seen×Bool)=>(⟨_,[(1,Aqf 0),(3,I w),(4,B u.2),(5,.o (.c (.sb 1 4 1))),(6,I k),(7,I c)],[.box [.rd [] (sl rows)],.box [vb u.1.1,vb u.1.2.1,vb u.1.2.2.1,vb u.1.2.2.2]]⟩:St)) (c+1) (((sa,sb,sc,sd),true)),⟨c+1,((sa,sb,sc,sd),true),Aqa,hcn.trans (by simp[tileM]),J⟩,X4 [0,1] Aqc J Aqb (.c J (.c J (.cons (Xi Aqd) (.c J (.c J (.c J (.nil)))))))⟩
   ·refine Wz [9,1] ?_
    refine Wz [70,149,1,28,118,1,60,1,0,47,159,111,111,159,1,22,22,2,106,10,165,0,47,22,2,106,123,50,63,109,219,110,87] ?_
    exact⟨w-(c+1),Aqa,(fun (c:Nat) (u:Seen×Bool)=>(⟨_,[(1,Aqf 0),(3,I w),(4,B u.2),(5,.o (.c (.sb 1 4 1))),(6,I k),(7,I c)],[.box [.rd [] (sl rows)],.box [vb u.1.1,vb u.1.2.1,vb u.1.2.2.1,vb u.1.2.2.2]]⟩:St)) (c+1) (((sa,sb,sc,sd),true)),⟨c+1,((sa,sb,sc,sd),true),Aqa,hcn.trans (by simp[tileM]),J⟩,X4 [0,1] Aqc J Aqb (.c J (.c J (.cons (Xi Aqd) (.c J (.c J (.c J (.nil)))))))⟩
   ·refine Wz [9,1] ?_
    refine Wz [70,158,1,0,146,245,1,25,1,0,146] ?_;refine zx (Qt.grdT J J J (.hit .stop) (fun hgrd=>Z9 J J J J)) J ?_;refine zx (Qt.grdT J J J (.hit (.hit .stop)) (fun hgrd=>Qa J J J)) J ?_;refine zx (Qt.grd2F J J J (.hit1 (.hit1 (.hit1 .stop))) (fun hgrd hgrd2=>Qa J J J)) J ?_;refine zx (Qt.grd2F J J J (.hit (.hit1 (.hit1 (.hit1 .stop)))) (fun hgrd hgrd2=>Zz J J J J)) J ?_;refine zx (Qt.grdT J J J (.part (.part (.hit (.hit (.hit .stop))))) (fun hgrd=>Kd J J J J)) J ?_;refine Wz [1,25,22,2] ?_
    refine Xb J (fun h8 => ?_) (fun h8 => ?_)
    ·refine Wz [77,172,103,197] ?_
     refine Wz [103,141] ?_
     exact Xl J J (X1 [] Aqc J J (Xi (hbad (hcn.trans (by simp[tileM,ht7]))).symm))
    ·simp only[Gxp,Gql,Bool.false_or,decide_eq_false_iff_not,Classical.not_not] at h8
     omega
  ·have h5:c=w:=by have:=Gqd h5; omega
   rw[h5] at hp_D
   rw[hp_D] at hrn
   refine Wz [218,231] ?_
   exact⟨rows.length-(k+1),Aqa,_,⟨k+1,u,Aqa,⟨hrn,fun _=>h1⟩,J⟩,X3 [0,1] Aqb⟩
 ·have h3:¬((k:Int)<(els rows).length):=Gqd h
  have hk:k=rows.length:=Aqa
  subst hk
  refine Wz [31] ?_
  exact Xl J J (X1 [] Aqc J J (Xi (by
   unfold levelOk
   rw[hw,hp_A.1]
   have h1:=hp_A.2 Aqa 
   have:3≤rows.length∧rows.length≤12∧4≤w∧w≤20:=Aqa
   simp[this])))
end
section
open Go.RowKit

theorem rowsM_size {rows:List ByteArray} {w:Nat}:∀ n s,rowsM rows w n=some s→∀ r,r<n→∃ row,rows[r]? = some row∧row.size=w
 |0,s,_=>fun r hr=>by omega
 | n+1,s,h=>fun r hr=>by
  rw[rowsM] at h
  split at h
  ·cases h
  ·rename_i s1 h1
   split at h
   ·cases h
   ·rename_i row hrow
    split at h
    ·rename_i hw
     by_cases e:r=n
     ·subst e; exact⟨row,hrow,hw⟩
     ·exact rowsM_size n s1 h1 r Aqa 
    ·cases h
theorem Yz {l:TLevel} (h:levelOk l=true):3≤l.Rows.length∧l.Rows.length≤12∧∃ w,4≤w∧w≤20∧∀ (r:Nat) (hr:r<l.Rows.length),(l.Rows[r]).size=w:=by
 unfold levelOk at h
 simp only[Gqi,decide_eq_true_eq] at h
 obtain⟨⟨⟨⟨h1,h2⟩,h3⟩,h4⟩,h5⟩:=h
 refine⟨h1,h2,widthM l.Rows,h3,h4,fun r hr => ?_⟩
 split at h5
 ·rename_i s hs
  obtain⟨row,h6,h7⟩:=rowsM_size _ s hs r hr
  rw[Gqf hr] at h6
  simp only[Option.some.injEq] at h6
  rw[h6]; exact h7
 ·cases h5
def sizeOf (k:Int):Int:=if k=0 then 12 else if k=1 then 4 else if k=2 then 8 else 0
theorem I_SizeOf (k:Int):Con Tryz.prog 278 [] [ai k] [] (I (sizeOf k)):=by
 by_cases h0:k=0
 ·have hb:decide (k=0)=true:=Gqb h0
  rw[show sizeOf k=12 by rw[sizeOf,if_pos h0]]
  refine Con.of Tryz.func278 J Tryz.ntmps278 J (fun E => ?_)
  refine Wz [125,97,3,86,2,144,77,172,69] ?_
  exact Xl J J (X1 [] Aqc J J J)
 have hb0:decide (k=0)=false:=Gqa h0
 by_cases h1:k=1
 ·have hb:decide (k=1)=true:=Gqb h1
  rw[show sizeOf k=4 by rw[sizeOf,if_neg h0,if_pos h1]]
  refine Con.of Tryz.func278 J Tryz.ntmps278 J (fun E => ?_)
  refine Wz [125,97,3,86,2,106,3,86,2,144,77,172,69] ?_
  exact Xl J J (X1 [] Aqc J J J)
 have hb1:decide (k=1)=false:=Gqa h1
 by_cases h2:k=2
 ·have hb:decide (k=2)=true:=Gqb h2
  rw[show sizeOf k=8 by rw[sizeOf,if_neg h0,if_neg h1,if_pos h2]]
  refine Con.of Tryz.func278 J Tryz.ntmps278 J (fun E => ?_)
  refine Wz [125,97,3,86,2,106,3,86,2,106,3,86,2,144,77,172,69] ?_
  exact Xl J J (X1 [] Aqc J J J)
 have hb2:decide (k=2)=false:=Gqa h2
 rw[show sizeOf k=0 by rw[sizeOf,if_neg h0,if_neg h1,if_neg h2]]
 refine Con.of Tryz.func278 J Tryz.ntmps278 J (fun E => ?_)
 refine Wz [125,97,3,86,2,106,3,86,2,106,3,86,2,106,123,50,67] ?_
 exact Xl J J (X1 [] Aqc J J J)
theorem S_SizeOf (k:Int):Con Tryz.prog 308 [] [ai k] [] (I (sizeOf k)):=by
 by_cases h0:k=0
 ·have hb:decide (k=0)=true:=Gqb h0
  rw[show sizeOf k=12 by rw[sizeOf,if_pos h0]]
  refine Con.of Tryz.func308 J Tryz.ntmps308 J (fun E => ?_)
  refine Wz [125,97,3,86,2,144,77,172,69] ?_
  exact Xl J J (X1 [] Aqc J J J)
 have hb0:decide (k=0)=false:=Gqa h0
 by_cases h1:k=1
 ·have hb:decide (k=1)=true:=Gqb h1
  rw[show sizeOf k=4 by rw[sizeOf,if_neg h0,if_pos h1]]
  refine Con.of Tryz.func308 J Tryz.ntmps308 J (fun E => ?_)
  refine Wz [125,97,3,86,2,106,3,86,2,144,77,172,69] ?_
  exact Xl J J (X1 [] Aqc J J J)
 have hb1:decide (k=1)=false:=Gqa h1
 by_cases h2:k=2
 ·have hb:decide (k=2)=true:=Gqb h2
  rw[show sizeOf k=8 by rw[sizeOf,if_neg h0,if_neg h1,if_pos h2]]
  refine Con.of Tryz.func308 J Tryz.ntmps308 J (fun E => ?_)
  refine Wz [125,97,3,86,2,106,3,86,2,106,3,86,2,144,77,172,69] ?_
  exact Xl J J (X1 [] Aqc J J J)
 have hb2:decide (k=2)=false:=Gqa h2
 rw[show sizeOf k=0 by rw[sizeOf,if_neg h0,if_neg h1,if_neg h2]]
 refine Con.of Tryz.func308 J Tryz.ntmps308 J (fun E => ?_)
 refine Wz [125,97,3,86,2,106,3,86,2,106,3,86,2,106,123,50,67] ?_
 exact Xl J J (X1 [] Aqc J J J)
def wallAt (l:TLevel) (r c:Int):Prop:=∀ (q:Nat) (hq:q<l.Rows.length),r=q→0≤c→c<(l.Rows[q]).size→byteAt (l.Rows[q]) c.toNat=35
def hits (l:TLevel) (x y s:Int):Prop:=∃ r c:Int,y/16≤r∧r≤(y+s-1)/16∧x/16≤c∧c≤(x+s-1)/16∧wallAt l r c
noncomputable def solidM (l:TLevel) (x y s:Int):Bool:=@decide (hits l x y s) (Classical.propDecidable _)
theorem Ko {l:TLevel} {x y s:Int} (h:hits l x y s):solidM l x y s=true:=@decide_eq_true _ (Classical.propDecidable _) h
theorem solidM_F {l:TLevel} {x y s:Int} (h:¬hits l x y s):solidM l x y s=false:=@decide_eq_false _ (Classical.propDecidable _) h
theorem wall_tile {l:TLevel} {r c:Nat} (hr:r<l.Rows.length) (h:byteAt (l.Rows[r]) c=35):wallAt l r c:=fun q hq e h0 h1=>by
 have:q=r:=Aqa
 subst this
 exact h
theorem no_wall {l:TLevel} {r c:Nat} (hr:r<l.Rows.length) (hc:c<(l.Rows[r]).size) (h:byteAt (l.Rows[r]) c≠35):¬wallAt l r c:=fun hw=>h (hw r hr rfl Aqa Aqa)
theorem out_hits {l:TLevel} {x y s:Int} {w:Nat} (hw:∀ (r:Nat) (hr:r<l.Rows.length),(l.Rows[r]).size=w) (h1:1≤s) (h:x<0∨y<0∨(w:Int)*16-s<x∨(l.Rows.length:Int)*16-s<y):hits l x y s:=by
 by_cases hx:x<0
 ·exact⟨y/16,x/16,Aqa,Aqa,Aqa,Aqa,fun q hq e h0 h1=>by omega⟩
 by_cases hy:y<0
 ·exact⟨y/16,x/16,Aqa,Aqa,Aqa,Aqa,fun q hq e h0 h1=>by omega⟩
 by_cases hx2:(w:Int)*16-s<x
 ·exact⟨y/16,(x+s-1)/16,Aqa,Aqa,Aqa,Aqa,fun q hq e h0 h1=>by have:=hw q hq; omega⟩
 ·exact⟨(y+s-1)/16,x/16,Aqa,Aqa,Aqa,Aqa,fun q hq e h0 h1=>by omega⟩
def freeR (l:TLevel) (x s:Int) (a b:Int):Prop:=∀ r c:Int,a≤r→r<b→x/16≤c→c≤(x+s-1)/16→¬wallAt l r c
def freeC (l:TLevel) (r:Int) (a b:Int):Prop:=∀ c:Int,a≤c→c<b→¬wallAt l r c
theorem free_all {l:TLevel} {x y s b:Int} (h:freeR l x s (y/16) b) (hb:(y+s-1)/16<b):¬hits l x y s:=fun ⟨r,c,h1,h2,h3,h4,h5⟩=>h r c h1 Aqa h3 h4 h5
theorem free_row {l:TLevel} {x s a b e:Int} (h:freeR l x s a b) (hc:freeC l b (x/16) e) (he:(x+s-1)/16<e):freeR l x s a (b+1):=fun r c h1 h2 h3 h4=>by
 by_cases hr:r<b
 ·exact h r c h1 hr h3 h4
 ·have:r=b:=Aqa
  subst this
  exact hc c h3 Aqa 
theorem free_col {l:TLevel} {r a b:Int} (h:freeC l r a b) (hn:¬wallAt l r b):freeC l r a (b+1):=fun c h1 h2=>by
 by_cases hc:c<b
 ·exact h c h1 hc
 ·have:c=b:=Aqa
  subst this
  exact hn
theorem I_solid (l:TLevel) (x y s:Int) (hl:levelOk l=true) (hx:I64 x) (hy:I64 y) (h1:1≤s) (h16:s≤16):Con Tryz.prog 321 [] [ag l,ai x,ai y,ai s] [] (B (solidM l x y s)):=by
 obtain⟨hx1,hx2⟩:=hx
 obtain⟨hy1,hy2⟩:=hy
 obtain⟨f3,f12,w,w4,w20,hw⟩:=Yz hl
 have hlx:=Yi l.Rows
 have h0:0<l.Rows.length:=Aqa
 have hat0:(els l.Rows)[(0:Int).toNat]? = some (Enc.e l.Rows[0]):=Yg h0
 have hw0:=hw 0 h0
 refine Con.of Tryz.func321 J Tryz.ntmps321 J (fun E => ?_)
 refine Wz [21,23,80,116,155,2,23,14,155,73,153,0,109] ?_;refine zx (Qt.grdF J J J (.hit .stop) (fun hgrd=>Z9 J J J J)) J ?_;refine Wz [110,0,109,244,166] ?_;refine zx (Qt.grdF J J J (.hit (.hit (.hit .stop))) (fun hgrd=>Xc J J J J Aqa)) J ?_;refine zx (Qt.grdF J J J (.hit (.hit (.hit (.hit .stop)))) (fun hgrd=>Zz J J J J)) J ?_;refine Wz [110,0,109,244,166] ?_;refine zx (Qt.grdF J J J (.hit (.hit (.hit .stop))) (fun hgrd=>Xc J J J J Aqa)) J ?_;refine zx (Qt.grdF J J J (.hit (.hit (.hit (.hit .stop)))) (fun hgrd=>Zz J J J J)) J ?_;refine Wz [51] ?_
 refine Xb J (fun h => ?_) (fun h => ?_)
 ·simp only[Gqr,decide_eq_true_eq] at h
  rw[Ko (out_hits hw h1 Aqa)]
  refine Wz [39] ?_
  exact Xl J J (X1 [] Aqc J J J)
 simp only[Gql,decide_eq_false_iff_not] at h
 refine Wz [15,56,171,246] ?_;refine Xh (fun m__ st=>∃ (r:Nat),((y+s-1)/16+1).toNat-r=m__∧(y/16≤r∧(r:Int)≤(y+s-1)/16+1∧freeR l x s (y/16) r)∧st=(⟨_,[(1,I x),(2,I y),(3,I s),(4,Aqf 0),(11,I r)],[.box (Aqi l)]⟩:St)) _ ⟨(fun (r:Nat)=>(⟨_,[(1,I x),(2,I y),(3,I s),(4,Aqf 0),(11,I r)],[.box (Aqi l)]⟩:St)) ((y/16).toNat),⟨(y/16).toNat,J,⟨Aqa,Aqa,fun r c h1 h2=>by omega⟩,J⟩,X4 [0] Aqc J Aqb (.c J (.c J (.c J (.c J (.cons (Xq Aqa) (.nil))))))⟩ ?_
 rintro m_A _ ⟨r,hk_A,hp_A,rfl⟩
 obtain⟨hr1,hr2,hfr⟩:=hp_A
 refine Wz [43,0,18,84,171,193,6] ?_
 refine Xb J (fun h5 => ?_) (fun h5 => ?_)
 ·have h5:=Gqc h5
  have hrl:r<l.Rows.length:=Aqa
  have hat:=Yg hrl
  have hwr:=hw r hrl
  refine Wz [7,10,171,246] ?_;refine Xh (fun m__ st=>∃ (c:Nat),((x+s-1)/16+1).toNat-c=m__∧(x/16≤c∧(c:Int)≤(x+s-1)/16+1∧freeC l r (x/16) c)∧st=(⟨_,[(1,I x),(2,I y),(3,I s),(4,Aqf 0),(11,I r),(12,I c)],[.box (Aqi l)]⟩:St)) _ ⟨(fun (c:Nat)=>(⟨_,[(1,I x),(2,I y),(3,I s),(4,Aqf 0),(11,I r),(12,I c)],[.box (Aqi l)]⟩:St)) ((x/16).toNat),⟨(x/16).toNat,J,⟨Aqa,Aqa,fun c h1 h2=>by omega⟩,J⟩,X4 [0] Aqc J Aqb (.c J (.c J (.c J (.c J (.c J (.cons (Xq Aqa) (.nil)))))))⟩ ?_
  rintro m_B _ ⟨c,hk_B,hp_B,rfl⟩
  obtain⟨hc1,hc2,hfc⟩:=hp_B
  refine Wz [43,0,18,84,171,193,6] ?_
  refine Xb J (fun h6 => ?_) (fun h6 => ?_)
  ·have h6:=Gqc h6
   refine Wz [7,75,133,114] ?_;refine zx (q_byte J J J J Aqa) J ?_;refine Wz [189,6] ?_
   refine Xb J (fun h7 => ?_) (fun h7 => ?_)
   ·have h7:=Gqc h7
    rw[Ko ⟨(r:Int),(c:Int),hr1,Aqa,hc1,Aqa,wall_tile hrl h7⟩]
    refine Wz [77,179,141] ?_
    exact Xl J J (X1 [] Aqc J J J)
   ·have h7:=Gqd h7
    refine Wz [62] ?_
    refine⟨_, Aqa,_,⟨c+1,J,⟨Aqa,Aqa,free_col hfc (no_wall hrl Aqa h7)⟩,J⟩,X3 [0] Aqb⟩
  ·have h6:=Gqd h6
   refine Wz [218,231] ?_
   refine⟨_, Aqa,_,⟨r+1,J,⟨Aqa,Aqa,free_row hfr hfc Aqa⟩,J⟩,X3 [0] Aqb⟩
 ·have h5:=Gqd h5
  rw[solidM_F (free_all hfr Aqa)]
  refine Wz [20,67] ?_
  exact Xl J J (X1 [] Aqc J J J)
theorem S_l02Solid (l:TLevel) (x y s:Int) (hl:levelOk l=true) (hx:I64 x) (hy:I64 y) (h1:1≤s) (h16:s≤16):Con Tryz.prog 307 [] [ag l,ai x,ai y,ai s] [] (B (solidM l x y s)):=by
 obtain⟨hx1,hx2⟩:=hx
 obtain⟨hy1,hy2⟩:=hy
 obtain⟨f3,f12,w,w4,w20,hw⟩:=Yz hl
 have hlx:=Yi l.Rows
 refine Con.of Tryz.func307 J Tryz.ntmps307 J (fun E => ?_)
 refine Wz [76,73] ?_;refine zx (Qj J J (X0 x 0 1000) J) J ?_;refine Wz [5,0,109] ?_;refine zx (Qt.grdF J J J (.hit .stop) (fun hgrd=>Qj J J (X0 y 0 1000) J)) J ?_;refine Wz [175,51] ?_
 refine Xb J (fun h => ?_) (fun h => ?_)
 ·have h:¬(0≤x∧x≤1000)∨¬(0≤y∧y≤1000):=by
   rw[←Yx,←Yx]
   simpa using h
  rw[Ko (out_hits hw h1 Aqa)]
  refine Wz [39] ?_
  exact Xl J J (X1 [] Aqc J J J)
 have h:(0≤x∧x≤1000)∧(0≤y∧y≤1000):=by
  rw[←Yx,←Yx]
  simpa using h
 refine Wz [15,56,171,246] ?_;refine Xh (fun m__ st=>∃ (r:Nat),((y+s-1)/16+1).toNat-r=m__∧(y/16≤r∧(r:Int)≤(y+s-1)/16+1∧freeR l x s (y/16) r)∧st=(⟨_,[(1,I x),(2,I y),(3,I s),(4,Aqf 0),(9,I r)],[.box (Aqi l)]⟩:St)) _ ⟨(fun (r:Nat)=>(⟨_,[(1,I x),(2,I y),(3,I s),(4,Aqf 0),(9,I r)],[.box (Aqi l)]⟩:St)) ((y/16).toNat),⟨(y/16).toNat,J,⟨Aqa,Aqa,fun r c h1 h2=>by omega⟩,J⟩,X4 [0] Aqc J Aqb (.c J (.c J (.c J (.c J (.cons (Xq Aqa) (.nil))))))⟩ ?_
 rintro m_A _ ⟨r,hk_A,hp_A,rfl⟩
 obtain⟨hr1,hr2,hfr⟩:=hp_A
 refine Wz [43,0,18,84,171,193,6] ?_
 refine Xb J (fun h5 => ?_) (fun h5 => ?_)
 ·have h5:=Gqc h5
  refine Wz [7,10,171,246] ?_;refine Xh (fun m__ st=>∃ (c:Nat),((x+s-1)/16+1).toNat-c=m__∧(x/16≤c∧(c:Int)≤(x+s-1)/16+1∧freeC l r (x/16) c)∧st=(⟨_,[(1,I x),(2,I y),(3,I s),(4,Aqf 0),(9,I r),(10,I c)],[.box (Aqi l)]⟩:St)) _ ⟨(fun (c:Nat)=>(⟨_,[(1,I x),(2,I y),(3,I s),(4,Aqf 0),(9,I r),(10,I c)],[.box (Aqi l)]⟩:St)) ((x/16).toNat),⟨(x/16).toNat,J,⟨Aqa,Aqa,fun c h1 h2=>by omega⟩,J⟩,X4 [0] Aqc J Aqb (.c J (.c J (.c J (.c J (.c J (.cons (Xq Aqa) (.nil)))))))⟩ ?_
  rintro m_B _ ⟨c,hk_B,hp_B,rfl⟩
  obtain⟨hc1,hc2,hfc⟩:=hp_B
  refine Wz [43,0,18,84,171,193,6] ?_
  refine Xb J (fun h6 => ?_) (fun h6 => ?_)
  ·have h6:=Gqc h6
   by_cases hrl:r<l.Rows.length
   ·have hat:=Yg hrl
    have hb:decide (((els l.Rows).length:Int)≤r)=false:=Gqa Aqa 
    by_cases hcl:c<(l.Rows[r]).size
    ·have hb2:decide (((l.Rows[r]).size:Int)≤c)=false:=Gqa Aqa 
     by_cases h7:byteAt (l.Rows[r]) c=35
     ·have hb3:decide (byteAt (l.Rows[r]) (c:Int).toNat=35)=true:=Gqb h7
      rw[Ko ⟨(r:Int),(c:Int),hr1,Aqa,hc1,Aqa,wall_tile hrl h7⟩]
      refine Wz [7,10,89,165,28,55,1,124,1,70,133,1,167,1,116,1,165,22,70,55,1,124,1,70,133,1,167,1,70,208,1] ?_;refine zx (Qv (b:=true) J J J J Aqc) J ?_;refine Wz [22,24,77,179,141] ?_
      exact Xl J J (X1 [] Aqc J J J)
     ·have hb3:decide (byteAt (l.Rows[r]) (c:Int).toNat=35)=false:=Gqa h7
      refine Wz [7,10,89,165,28,55,1,124,1,70,133,1,167,1,116,1,165,22,70,55,1,124,1,70,133,1,167,1,70] ?_;refine zx (q_byte J J J J Aqa) J ?_;refine Wz [1,86,22,81,62] ?_
      refine⟨_, Aqa,_,⟨c+1,J,⟨Aqa,Aqa,free_col hfc (no_wall hrl hcl h7)⟩,J⟩,X3 [0] Aqb⟩
    ·have hb2:decide (((l.Rows[r]).size:Int)≤c)=true:=Gqb Aqa 
     rw[Ko ⟨(r:Int),(c:Int),hr1,Aqa,hc1,Aqa,fun q hq e g0 g1=>by have:q=r:=Aqa; subst this; omega⟩]
     refine Wz [7,10,89,165,28,55,1,124,1,70,133,1,167,1,116,1,165,22,0,47,47,47,47,60,24,77,179,141] ?_
     exact Xl J J (X1 [] Aqc J J J)
   ·have hb:decide (((els l.Rows).length:Int)≤r)=true:=Gqb Aqa 
    rw[Ko ⟨(r:Int),(c:Int),hr1,Aqa,hc1,Aqa,fun q hq e g0 g1=>by omega⟩]
    refine Wz [7,10,89,165,0,47,47,47,47,60,0,47,47,47,47,60,24,77,179,141] ?_
    exact Xl J J (X1 [] Aqc J J J)
  ·have h6:=Gqd h6
   refine Wz [218,231] ?_
   refine⟨_, Aqa,_,⟨r+1,J,⟨Aqa,Aqa,free_row hfr hfc Aqa⟩,J⟩,X3 [0] Aqb⟩
 ·have h5:=Gqd h5
  rw[solidM_F (free_all hfr Aqa)]
  refine Wz [20,67] ?_
  exact Xl J J (X1 [] Aqc J J J)
noncomputable def solidAt (l:TLevel) (x y s:Int):Bool:=(!inR s 1 16 || !levelOk l) || solidM l x y s
theorem I_SolidAt (l:TLevel) (x y s:Int) (hg:Enc.gd l) (hx:I64 x) (hy:I64 y):Con Tryz.prog 277 [] [ag l,ai x,ai y,ai s] [] (B (solidAt l x y s)):=by
 have hc:=I_LevelOk l hg
 by_cases hs:¬(1≤s∧s≤16)
 ·have hf:inR s 1 16=false:=by rw[←Gxd,Yx]; exact hs
  rw[show solidAt l x y s=true by rw[solidAt,hf]; rfl]
  refine Con.of Tryz.func277 J Tryz.ntmps277 J (fun E => ?_)
  refine Wz [76,73,153,0,109,230,110,0,269] ?_;refine zx (Qt.grdF J J J (.hit .stop) (fun hgrd=>Qj J J (hc) J)) J ?_;refine Wz [175,51] ?_
  refine Xb J (fun h => ?_) (fun h => ?_)
  ·refine Wz [39] ?_
   exact Xl J J (X1 [] Aqc J J J)
  ·simp only[Gql,decide_eq_false_iff_not] at h
   omega
 have hs:=Classical.not_not.1 hs
 have hb1:decide (s<1)=false:=Gqa Aqa 
 have hb2:decide (16<s)=false:=Gqa Aqa 
 cases ho:levelOk l with
 |false =>
  rw[ho] at hc
  rw[show solidAt l x y s=true by rw[solidAt,ho]; simp]
  refine Con.of Tryz.func277 J Tryz.ntmps277 J (fun E => ?_)
  refine Wz [76,119,28,160,22,70,37,1] ?_;refine zx (Qj J J (hc) J) J ?_;refine Wz [1,5,22,26] ?_
  exact Xl J J (X1 [] Aqc J J J)
 |true =>
  rw[ho] at hc
  rw[show solidAt l x y s=solidM l x y s by rw[solidAt,ho,Yx.2 hs]; rfl]
  have hd:=I_solid l x y s ho hx hy hs.1 hs.2
  refine Con.of Tryz.func277 J Tryz.ntmps277 J (fun E => ?_)
  refine Wz [76,119,28,160,22,70,37,1] ?_;refine zx (Qj J J (hc) J) J ?_;refine Wz [1,5,22,33,90,127,0] ?_;refine zx (Qj J J (hd) J) J ?_;refine Wz [53] ?_
  exact Xl J J (X1 [] Aqc J J J)
end
section
open Go.RowKit

def tailM (b:TBody):Bool :=
 if b.Kind=0 then (decide (b.Aim=1∨b.Aim = -1)&&inR b.Life 0 3)&&(if b.Life=0 then inR b.Timer 1 20 else inR b.Timer 0 12)
 else if b.Kind=1 then decide (b.Aim=0∧b.Life=0)&&inR b.Timer 1 25
 else decide (b.Owner=0∧b.Aim=0∧b.Life=0∧b.Timer=0)
noncomputable def bodyM (l:TLevel) (n:Int) (b:TBody):Bool :=
 inR b.Kind 0 2&&(inR b.Owner 0 (n-1)&&(!solidM l b.X b.Y (sizeOf b.Kind)&&(inR b.VX (-15) 15&&(inR b.VY (-15) 15&&tailM b))))
theorem size_in {k:Int} (h:inR k 0 2=true):1≤sizeOf k∧sizeOf k≤16:=by
 have:=Yx.1 h
 unfold sizeOf
 split
 ·omega
 ·split
  ·omega
  ·split <;> omega
theorem S_l02Body (l:TLevel) (n:Int) (b:TBody) (hg:Enc.gd l) (hl:levelOk l=true) (hb:Enc.gd b) (hn:0≤n∧n≤1099511627776):Con Tryz.prog 254 [] [ag l,ai n,ag b] [] (B (bodyM l n b)):=by
 obtain⟨b1,b2,b3,b4,b5,b6,b7,b8,b9⟩:=hb
 have h1:=X0 b.Kind 0 2
 have hsz:=S_SizeOf b.Kind
 have h2:=X0 b.Owner 0 (n-1)
 have h4:=X0 b.VX (-15) 15
 have h5:=X0 b.VY (-15) 15
 cases e1:inR b.Kind 0 2 with
 |false =>
  rw[e1] at h1
  rw[show bodyM l n b=false by rw[bodyM,e1]; rfl]
  refine Con.of Tryz.func254 J Tryz.ntmps254 J (fun E => ?_)
  refine Wz [96,17,17,199,8] ?_;refine DR.s (Qj J J (h1) J) J J ?_;refine Wz [74,4,65,270,129,4,65,65,220,129,4,65,129,4,65,129,13,26] ?_
  exact Xl J J (X1 [] Aqc J J J)
 | true =>
  rw[e1] at h1
  cases e2:inR b.Owner 0 (n-1) with
  |false =>
   rw[e2] at h2
   rw[show bodyM l n b=false by rw[bodyM,e1,e2]; rfl]
   refine Con.of Tryz.func254 J Tryz.ntmps254 J (fun E => ?_)
   refine Wz [96,17,17,199,8] ?_;refine DR.s (Qj J J (h1) J) J J ?_;refine Wz [74,4,35,72,210] ?_;refine DR.s (Qt.yes J J J (Qj J J (h2) J)) J J ?_;refine Wz [142,91,4,65,65,220,129,4,65,129,4,65,129,13,26] ?_
   exact Xl J J (X1 [] Aqc J J J)
  | true =>
   rw[e2] at h2
   have hs16:=size_in e1
   have h3:=S_l02Solid l b.X b.Y (sizeOf b.Kind) hl b3 b4 hs16.1 hs16.2
   cases e3:solidM l b.X b.Y (sizeOf b.Kind) with
   |true =>
    rw[e3] at h3
    rw[show bodyM l n b=false by rw[bodyM,e1,e2,e3]; rfl]
    refine Con.of Tryz.func254 J Tryz.ntmps254 J (fun E => ?_)
    refine Wz [96,17,17,199,8] ?_;refine DR.s (Qj J J (h1) J) J J ?_;refine Wz [74,4,35,72,210] ?_;refine DR.s (Qt.yes J J J (Qj J J (h2) J)) J J ?_;refine Wz [142,91,4,221,35,35,35] ?_;refine DR.s (Qt.yes J J J (Qj J J (hsz) J)) J J ?_;refine DR.s (Qt.yes J J J (Qj J J (h3) J)) J J ?_;refine Wz [91,4,65,129,4,65,129,13,26] ?_
    exact Xl J J (X1 [] Aqc J J J)
   | false =>
    rw[e3] at h3
    cases e4:inR b.VX (-15) 15 with
    |false =>
     rw[e4] at h4
     rw[show bodyM l n b=false by rw[bodyM,e1,e2,e3,e4]; rfl]
     refine Con.of Tryz.func254 J Tryz.ntmps254 J (fun E => ?_)
     refine Wz [96,17,17,199,8] ?_;refine DR.s (Qj J J (h1) J) J J ?_;refine Wz [74,4,35,72,210] ?_;refine DR.s (Qt.yes J J J (Qj J J (h2) J)) J J ?_;refine Wz [142,91,4,221,35,35,35] ?_;refine DR.s (Qt.yes J J J (Qj J J (hsz) J)) J J ?_;refine DR.s (Qt.yes J J J (Qj J J (h3) J)) J J ?_;refine Wz [91,4,35] ?_;refine DR.s (Qt.yes J J J (Qj J J (h4) J)) J J ?_;refine Wz [142,91,4,65,129,13,26] ?_
     exact Xl J J (X1 [] Aqc J J J)
    | true =>
     rw[e4] at h4
     cases e5:inR b.VY (-15) 15 with
     |false =>
      rw[e5] at h5
      rw[show bodyM l n b=false by rw[bodyM,e1,e2,e3,e4,e5]; rfl]
      refine Con.of Tryz.func254 J Tryz.ntmps254 J (fun E => ?_)
      refine Wz [96,17,17,199,8] ?_;refine DR.s (Qj J J (h1) J) J J ?_;refine Wz [74,4,35,72,210] ?_;refine DR.s (Qt.yes J J J (Qj J J (h2) J)) J J ?_;refine Wz [142,91,4,221,35,35,35] ?_;refine DR.s (Qt.yes J J J (Qj J J (hsz) J)) J J ?_;refine DR.s (Qt.yes J J J (Qj J J (h3) J)) J J ?_;refine Wz [91,4,35] ?_;refine DR.s (Qt.yes J J J (Qj J J (h4) J)) J J ?_;refine Wz [142,91,4,35] ?_;refine DR.s (Qt.yes J J J (Qj J J (h5) J)) J J ?_;refine Wz [142,91,13,26] ?_
      exact Xl J J (X1 [] Aqc J J J)
     | true =>
      rw[e5] at h5
      rw[show bodyM l n b=tailM b by rw[bodyM,e1,e2,e3,e4,e5]; rfl]
      by_cases k0:b.Kind=0
      ·have hk:decide (b.Kind=0)=true:=Gqb k0
       refine Con.of Tryz.func254 J Tryz.ntmps254 J (fun E => ?_)
       refine Wz [96,17,17,199,8] ?_;refine DR.s (Qj J J (h1) J) J J ?_;refine Wz [74,4,35,72,210] ?_;refine DR.s (Qt.yes J J J (Qj J J (h2) J)) J J ?_;refine Wz [142,91,4,221,35,35,35] ?_;refine DR.s (Qt.yes J J J (Qj J J (hsz) J)) J J ?_;refine DR.s (Qt.yes J J J (Qj J J (h3) J)) J J ?_;refine Wz [91,4,35] ?_;refine DR.s (Qt.yes J J J (Qj J J (h4) J)) J J ?_;refine Wz [142,91,4,35] ?_;refine DR.s (Qt.yes J J J (Qj J J (h5) J)) J J ?_;refine Wz [142,91,13,33,34,97,3,86,2,144,34,158,58,271,25,102] ?_;refine zx (Qt.grdF J J J (.hit (.hit .stop)) (fun hgrd=>Qj J J (X0 b.Life 0 3) J)) J ?_;refine Wz [104,51] ?_
       refine Xb J (fun h => ?_) (fun h => ?_)
       ·rw[show tailM b=false by
         rw[tailM,if_pos k0]
         simp only[Gqr,Gqi,decide_eq_true_eq,Gq8] at h
         rcases h with h | h
         ·rw[Gqa Aqa]; rfl
         ·rw[h]; simp]
        refine Wz [77,103,69] ?_
        exact Xl J J (X1 [] Aqc J J J)
       simp only[Gql,Gxp,decide_eq_false_iff_not,Gqu] at h
       have ht:tailM b=if b.Life=0 then inR b.Timer 1 20 else inR b.Timer 0 12:=by
        rw[tailM,if_pos k0,Gqb Aqa,h.2]; rfl
       by_cases l0:b.Life=0
       ·have hk2:decide (b.Life=0)=true:=Gqb l0
        rw[ht,if_pos l0]
        refine Wz [15,34,86,24,23] ?_;refine zx (Qj J J (X0 b.Timer 1 20) J) J ?_;refine Wz [2,135,103,69] ?_
        exact Xl J J (X1 [] Aqc J J J)
       ·have hk2:decide (b.Life=0)=false:=Gqa l0
        rw[ht,if_neg l0]
        refine Wz [15,34,86,33,23] ?_;refine zx (Qj J J (X0 b.Timer 0 12) J) J ?_;refine Wz [2,135,172,69] ?_
        exact Xl J J (X1 [] Aqc J J J)
      have hk:decide (b.Kind=0)=false:=Gqa k0
      by_cases k1:b.Kind=1
      ·have hk1:decide (b.Kind=1)=true:=Gqb k1
       refine Con.of Tryz.func254 J Tryz.ntmps254 J (fun E => ?_)
       refine Wz [96,17,17,199,8] ?_;refine DR.s (Qj J J (h1) J) J J ?_;refine Wz [74,4,35,72,210] ?_;refine DR.s (Qt.yes J J J (Qj J J (h2) J)) J J ?_;refine Wz [142,91,4,221,35,35,35] ?_;refine DR.s (Qt.yes J J J (Qj J J (hsz) J)) J J ?_;refine DR.s (Qt.yes J J J (Qj J J (h3) J)) J J ?_;refine Wz [91,4,35] ?_;refine DR.s (Qt.yes J J J (Qj J J (h4) J)) J J ?_;refine Wz [142,91,4,35] ?_;refine DR.s (Qt.yes J J J (Qj J J (h5) J)) J J ?_;refine Wz [142,91,13,33,34,97,3,86,2,106,3,86,2,144,23,189,58,247,25,58] ?_;refine zx (Qt.grdT J J J (.hit (.hit .stop)) (fun hgrd=>Qj J J (X0 b.Timer 1 25) J)) J ?_;refine Wz [25,2,135,172,69] ?_
       exact Xl J J (X1 [] Aqc J J (Xi (by rw[tailM,if_neg k0,if_pos k1,←Bool.decide_and])))
      ·have hk1:decide (b.Kind=1)=false:=Gqa k1
       refine Con.of Tryz.func254 J Tryz.ntmps254 J (fun E => ?_)
       refine Wz [96,17,17,199,8] ?_;refine DR.s (Qj J J (h1) J) J J ?_;refine Wz [74,4,35,72,210] ?_;refine DR.s (Qt.yes J J J (Qj J J (h2) J)) J J ?_;refine Wz [142,91,4,221,35,35,35] ?_;refine DR.s (Qt.yes J J J (Qj J J (hsz) J)) J J ?_;refine DR.s (Qt.yes J J J (Qj J J (h3) J)) J J ?_;refine Wz [91,4,35] ?_;refine DR.s (Qt.yes J J J (Qj J J (h4) J)) J J ?_;refine Wz [142,91,4,35] ?_;refine DR.s (Qt.yes J J J (Qj J J (h5) J)) J J ?_;refine Wz [142,91,13,33,34,97,3,86,2,106,3,86,2,106,123,50,23,189,58,247,25,58,247,25,58,247,25,53] ?_
       exact Xl J J (X1 [] Aqc J J (Xi (by rw[tailM,if_neg k0,if_neg k1]; simp only[Bool.decide_and,Bool.and_assoc])))
theorem I_BodyOk (l:TLevel) (n:Int) (b:TBody) (hg:Enc.gd l) (hb:Enc.gd b) (hn:0≤n∧n≤1099511627776):Con Tryz.prog 188 [] [ag l,ai n,ag b] [] (B (levelOk l&&bodyM l n b)):=by
 obtain⟨b1,b2,b3,b4,b5,b6,b7,b8,b9⟩:=hb
 have hc:=I_LevelOk l hg
 cases hl:levelOk l with
 |false =>
  rw[hl] at hc
  rw[Bool.false_and]
  refine Con.of Tryz.func188 J Tryz.ntmps188 J (fun E => ?_)
  refine Wz [96,107,37] ?_;refine zx (Qj J J (hc) J) J ?_;refine Wz [5,0,47,159,60,0,47,159,60,26] ?_
  exact Xl J J (X1 [] Aqc J J J)
 | true =>
  rw[hl] at hc
  rw[Bool.true_and]
  refine Con.of Tryz.func188 J Tryz.ntmps188 J (fun E => ?_)
  refine Wz [96,107,37] ?_;refine zx (Qj J J (hc) J) J ?_;refine Wz [5,70,55,1,124,1,153,22,102,272,51] ?_
  refine Xb J (fun h => ?_) (fun h => ?_)
  ·simp only[Gqr,decide_eq_true_eq] at h
   have e1:inR b.Kind 0 2=false:=by rw[←Gxd,Yx]; omega
   rw[show bodyM l n b=false by rw[bodyM,e1]; rfl]
   refine Wz [39] ?_
   exact Xl J J (X1 [] Aqc J J J)
  simp only[Gql,decide_eq_false_iff_not] at h
  have e1:inR b.Kind 0 2=true:=Yx.2 Aqa 
  have hs16:=size_in e1
  refine Wz [15,34,153,102,166] ?_;refine zx (Qt.grdF J J J (.hit (.hit (.hit .stop))) (fun hgrd=>q_geq J J J J)) J ?_;refine Wz [98] ?_;refine zx (Qt.grdF J J J (.hit (.hit .stop)) (fun hgrd=>Zu J J J J)) J ?_;refine zx (Qt.grdF J J J (.hit (.hit (.hit .stop))) (fun hgrd=>Qa J J J)) J ?_;refine zx (Qt.grd2T J J J (.hit1 (.hit1 (.hit1 (.hit1 .stop)))) (fun hgrd hgrd2=>Qf J J J J Aqc)) J ?_;refine zx (Qt.grd2T J J J (.hit (.hit1 (.hit1 (.hit1 (.hit1 .stop))))) (fun hgrd hgrd2=>Qg J J J J J)) J ?_;refine zx (Qt.grd2T J J J (.hit (.hit (.hit1 (.hit1 (.hit1 (.hit1 .stop)))))) (fun hgrd hgrd2=>Kb J J J J)) J ?_;refine zx (Qt.grdF J J J (.part (.part (.part (.hit (.hit (.hit (.hit .stop))))))) (fun hgrd=>Zm J J J J)) J ?_;refine Wz [51] ?_
  refine Xb J (fun h2 => ?_) (fun h2 => ?_)
  ·simp only[Gqr,Gqi,decide_eq_true_eq] at h2
   rw[show bodyM l n b=false by
    by_cases ho:0≤b.Owner∧b.Owner≤n-1
    ·have hk:b.Kind=2∧b.Owner≠0:=Aqa
     have ht:tailM b=false:=by rw[tailM,if_neg Aqa,if_neg Aqa,Gqa (fun hh=>hk.2 hh.1)]
     rw[bodyM,ht]; simp
    ·have e2:inR b.Owner 0 (n-1)=false:=by rw[←Gxd,Yx]; exact ho
     rw[bodyM,e2]; simp]
   refine Wz [39] ?_
   exact Xl J J (X1 [] Aqc J J J)
  simp only[Gql,Gxp,decide_eq_false_iff_not] at h2
  have e2:inR b.Owner 0 (n-1)=true:=Yx.2 Aqa 
  have hsz:=I_SizeOf b.Kind
  have h3:=I_SolidAt l b.X b.Y (sizeOf b.Kind) hg b3 b4
  rw[show solidAt l b.X b.Y (sizeOf b.Kind)=solidM l b.X b.Y (sizeOf b.Kind) by rw[solidAt,hl,Yx.2 hs16]; rfl] at h3
  cases e3:solidM l b.X b.Y (sizeOf b.Kind) with
  |true =>
   rw[e3] at h3
   rw[show bodyM l n b=false by rw[bodyM,e1,e2,e3]; rfl]
   refine Wz [15,17,17] ?_;refine Xg u8_9 u8_10 u8_11 J ?_;refine Wz [190,8,8,8] ?_;refine DR.s (Qj J J (hsz) J) J J ?_;refine DR.s (Qj J J (h3) J) J J ?_;refine Wz [13,26] ?_
   exact Xl J J (X1 [] Aqc J J J)
  | false =>
   rw[e3] at h3
   refine Wz [15,17,17] ?_;refine Xg u8_9 u8_10 u8_11 J ?_;refine Wz [190,8,8,8] ?_;refine DR.s (Qj J J (hsz) J) J J ?_;refine DR.s (Qj J J (h3) J) J J ?_;refine Wz [13,33,34] ?_;refine zx (Qj J J (Xo b.VX (-15) 15) J) J ?_;refine Wz [5,102] ?_;refine zx (Qt.grdF J J J (.hit (.hit .stop)) (fun hgrd=>Qj J J (Xo b.VY (-15) 15) J)) J ?_;refine Wz [104,51] ?_
   refine Xb J (fun h4 => ?_) (fun h4 => ?_)
   ·simp only[Gqr,Gq8] at h4
    rw[show bodyM l n b=false by rw[bodyM]; rcases h4 with h4 | h4 <;> rw[h4] <;> simp]
    refine Wz [39] ?_
    exact Xl J J (X1 [] Aqc J J J)
   simp only[Gql,Gqu] at h4
   rw[show bodyM l n b=tailM b by rw[bodyM,e1,e2,e3,h4.1,h4.2]; rfl]
   by_cases k0:b.Kind=0
   ·have hk:decide (b.Kind=0)=true:=Gqb k0
    refine Wz [15,34,86,24,34,158,58,271,25,102] ?_;refine zx (Qt.grdF J J J (.hit (.hit .stop)) (fun hgrd=>Qj J J (Xo b.Life 0 3) J)) J ?_;refine Wz [104,51] ?_
    refine Xb J (fun h => ?_) (fun h => ?_)
    ·rw[show tailM b=false by
      rw[tailM,if_pos k0]
      simp only[Gqr,Gqi,decide_eq_true_eq,Gq8] at h
      rcases h with h | h
      ·rw[Gqa Aqa]; rfl
      ·rw[h]; simp]
     refine Wz [77,197,69] ?_
     exact Xl J J (X1 [] Aqc J J J)
    simp only[Gql,Gxp,decide_eq_false_iff_not,Gqu] at h
    have hlf:=Yx.1 h.2
    have ht:tailM b=if b.Life=0 then inR b.Timer 1 20 else inR b.Timer 0 12:=by
     rw[tailM,if_pos k0,Gqb Aqa,h.2]; rfl
    by_cases l0:b.Life=0
    ·have hk2:decide (0<b.Life)=false:=Gqa Aqa 
     rw[ht,if_pos l0]
     refine Wz [15,34,160,33,23] ?_;refine zx (Qj J J (Xo b.Timer 1 20) J) J ?_;refine Wz [2,135,69] ?_
     exact Xl J J (X1 [] Aqc J J J)
    ·have hk2:decide (0<b.Life)=true:=Gqb Aqa 
     rw[ht,if_neg l0]
     refine Wz [15,34,160,24,23] ?_;refine zx (Qj J J (Xo b.Timer 0 12) J) J ?_;refine Wz [2,135,197,69] ?_
     exact Xl J J (X1 [] Aqc J J J)
   have hk:decide (b.Kind=0)=false:=Gqa k0
   refine Wz [15,34,86,33,34,158,102] ?_;refine zx (Qt.grdF J J J (.hit (.hit .stop)) (fun hgrd=>Kb J J J J)) J ?_;refine Wz [51] ?_
   refine Xb J (fun h5 => ?_) (fun h5 => ?_)
   ·simp only[Gqr,decide_eq_true_eq] at h5
    rw[show tailM b=false by
     rw[tailM,if_neg k0]
     split
     ·rw[Gqa Aqa]; rfl
     ·exact Gqa Aqa]
    refine Wz [39] ?_
    exact Xl J J (X1 [] Aqc J J J)
   simp only[Gql,decide_eq_false_iff_not] at h5
   by_cases k1:b.Kind=1
   ·have hk1:decide (b.Kind=1)=true:=Gqb k1
    rw[show tailM b=inR b.Timer 1 25 by rw[tailM,if_neg k0,if_pos k1,Gqb Aqa]; rfl]
    refine Wz [15,34,86,24,23] ?_;refine zx (Qj J J (Xo b.Timer 1 25) J) J ?_;refine Wz [2,135,69] ?_
    exact Xl J J (X1 [] Aqc J J J)
   ·have hk1:decide (b.Kind=1)=false:=Gqa k1
    rw[show tailM b=decide (b.Timer=0) by rw[tailM,if_neg k0,if_neg k1]; exact decide_eq_decide.2 Aqa]
    refine Wz [15,34,86,33,23,189,53] ?_
    exact Xl J J (X1 [] Aqc J J J)
end
section
open Go.RowKit

noncomputable def bodyAt (l:TLevel) (n k:Nat) (b:TBody):Bool:=bodyM l n b&&(if k<n then decide (b.Kind=0∧b.Owner=k) else decide (b.Kind≠0))
def bodiesOk (l:TLevel) (n:Nat) (bs:List TBody):Prop:=∀ (k:Nat) (hk:k<bs.length),bodyAt l n k bs[k]=true
def scoresOk (ss:List Int):Bool:=ss.all fun x=>inR x 0 1000000
noncomputable def worldOk (w:TWorld):Bool:=@decide (levelOk w.Level=true∧inR w.Tick 0 100000=true∧inR w.Seed 0 65535=true∧(1≤w.Scores.length∧w.Scores.length≤4)∧scoresOk w.Scores=true∧(w.Scores.length≤w.Bodies.length∧w.Bodies.length≤24)∧bodiesOk w.Level w.Scores.length w.Bodies) (Classical.propDecidable _)
theorem worldOk_T {w:TWorld} (h:levelOk w.Level=true∧inR w.Tick 0 100000=true∧inR w.Seed 0 65535=true∧(1≤w.Scores.length∧w.Scores.length≤4)∧scoresOk w.Scores=true∧(w.Scores.length≤w.Bodies.length∧w.Bodies.length≤24)∧bodiesOk w.Level w.Scores.length w.Bodies):worldOk w=true:=@decide_eq_true _ (Classical.propDecidable _) h
theorem Ku {w:TWorld} (h:¬(levelOk w.Level=true∧inR w.Tick 0 100000=true∧inR w.Seed 0 65535=true∧(1≤w.Scores.length∧w.Scores.length≤4)∧scoresOk w.Scores=true∧(w.Scores.length≤w.Bodies.length∧w.Bodies.length≤24)∧bodiesOk w.Level w.Scores.length w.Bodies)):worldOk w=false:=@decide_eq_false _ (Classical.propDecidable _) h
theorem Kv {w:TWorld} (h:worldOk w=true):levelOk w.Level=true∧inR w.Tick 0 100000=true∧inR w.Seed 0 65535=true∧(1≤w.Scores.length∧w.Scores.length≤4)∧scoresOk w.Scores=true∧(w.Scores.length≤w.Bodies.length∧w.Bodies.length≤24)∧bodiesOk w.Level w.Scores.length w.Bodies:=@of_decide_eq_true _ (Classical.propDecidable _) h
theorem score_no {ss:List Int} {k:Nat} (h:k<ss.length) (hn:inR ss[k] 0 1000000=false):scoresOk ss=false:=by
 rw[scoresOk,←Gxd,Gqn]
 intro hh
 rw[hh _ (Gqe h)] at hn
 cases hn
theorem I_WorldOk (x:TWorld) (hg:Enc.gd x):Con Tryz.prog 91 [] [ag x] [] (B (worldOk x)):=by
 obtain⟨gL,gT,gS,gSc,gB⟩:=hg
 have g1:=gSc.1
 have g2:=gB.1
 have hls:=Yi x.Scores
 have hlb:=Yi x.Bodies
 have hc:=I_LevelOk x.Level gL
 refine Con.of Tryz.func91 J Tryz.ntmps91 J (fun E => ?_)
 refine Wz [21,191] ?_;refine zx (Qj J J (hc) J) J ?_;refine Wz [5,102] ?_;refine zx (Qt.grdF J J J (.hit (.hit .stop)) (fun hgrd=>Qj J J (Xo x.Tick 0 100000) J)) J ?_;refine Wz [104,98] ?_;refine zx (Qt.grdF J J J (.hit (.hit .stop)) (fun hgrd=>Qj J J (Xo x.Seed 0 65535) J)) J ?_;refine Wz [104,51] ?_
 refine Xb J (fun h => ?_) (fun h => ?_)
 ·simp only[Gqr,Gq8] at h
  rw[Ku (fun hh=>by rcases h with (h | h) | h; rw[hh.1] at h; cases h; rw[hh.2.1] at h; cases h; rw[hh.2.2.1] at h; cases h)]
  refine Wz [39] ?_
  exact Xl J J (X1 [] Aqc J J J)
 simp only[Gql,Gqu] at h
 obtain⟨⟨hL,hT⟩,hS⟩:=h
 refine Wz [15,23,14,73,153,0,109,230,51] ?_
 refine Xb J (fun h => ?_) (fun h => ?_)
 ·simp only[Gqr,decide_eq_true_eq] at h
  rw[Ku (fun hh=>by have:=hh.2.2.2.1; omega)]
  refine Wz [39] ?_
  exact Xl J J (X1 [] Aqc J J J)
 simp only[Gql,decide_eq_false_iff_not] at h
 refine Wz [15,34,117,97] ?_;refine Xh (fun m st=>∃ k:Nat,k+m=x.Scores.length∧((x.Scores.take k).all (fun y=>inR y 0 1000000)=true)∧st=(⟨_,[(1,Aqf 0),(3,I (els x.Scores).length),(34,L x.Scores),(35,I (els x.Scores).length),(36,I k)],[.box (Aqi x)]⟩:St)) (x.Scores.length) ⟨_,⟨0,Aqa,Aqd,J⟩,X3 [0] Aqb⟩ ?_
 rintro m_A _ ⟨k,hk_A,hp_A,rfl⟩
 refine Wz [3,38,17] ?_
 refine Xb J (fun h3 => ?_) (fun h3 => ?_)
 ·have h3:k<x.Scores.length:=by have:=Gqc h3; omega
  have hat:=Yg h3
  cases e:inR x.Scores[k] 0 1000000 with
  |false =>
   have hb:=Xo x.Scores[k] 0 1000000
   rw[e] at hb
   rw[Ku (fun hh=>by have h9:=hh.2.2.2.2.1; rw[score_no h3 e] at h9; cases h9)]
   refine Wz [7,3,80,40] ?_;refine zx (Qj J J (hb) J) J ?_;refine Wz [5,24,54] ?_
   exact Xl J J (X1 [] Aqc J J J)
  |true =>
   have hb:=Xo x.Scores[k] 0 1000000
   rw[e] at hb
   refine Wz [7,3,80,40] ?_;refine zx (Qj J J (hb) J) J ?_;refine Wz [5,81,123,50,57,18,0,6] ?_
   exact⟨x.Scores.length-(k+1),Aqa,_,⟨k+1,Aqa,X8 hp_A h3 e,J⟩,X3 [0] Aqb⟩
 have h3:¬k<x.Scores.length:=by have:=Gqd h3; omega
 have hall:scoresOk x.Scores=true:=X7 hp_A Aqa 
 refine Wz [20,34,117,153,102,140,215,51] ?_
 refine Xb J (fun h5 => ?_) (fun h5 => ?_)
 ·simp only[Gqr,decide_eq_true_eq] at h5
  rw[Ku (fun hh=>by have:=hh.2.2.2.2.2.1; omega)]
  refine Wz [39] ?_
  exact Xl J J (X1 [] Aqc J J J)
 simp only[Gql,decide_eq_false_iff_not] at h5
 refine Wz [15,34,117,97] ?_;refine Xh (fun m st=>∃ k:Nat,k+m=x.Bodies.length∧((∀ (j:Nat) (hj:j<x.Bodies.length),j<k→bodyAt x.Level x.Scores.length j x.Bodies[j]=true))∧st=(⟨_,[(1,Aqf 0),(3,I (els x.Scores).length),(56,L x.Bodies),(57,I (els x.Bodies).length),(58,I k)],[.box (Aqi x)]⟩:St)) (x.Bodies.length) ⟨_,⟨0,Aqa,fun j hj h0=>by omega,J⟩,X3 [0] Aqb⟩ ?_
 rintro m_C _ ⟨k,hk_C,hp_C,rfl⟩
 refine Wz [3,38,17] ?_
 refine Xb J (fun h6 => ?_) (fun h6 => ?_)
 ·have h6:k<x.Bodies.length:=by have:=Gqc h6; omega
  have hat:=Yg h6
  have gb:=gB.2 _ (Gqe h6)
  have hb:=I_BodyOk x.Level (els x.Scores).length x.Bodies[k] gL gb Aqa 
  rw[hL,Bool.true_and] at hb
  have hlen:((els x.Scores).length:Int)=(x.Scores.length:Int):=by rw[hls]
  cases e:bodyM x.Level (els x.Scores).length x.Bodies[k] with
  |false =>
   rw[e] at hb
   rw[Ku (fun hh=>by have h9:=hh.2.2.2.2.2.2 k h6; rw[bodyAt,←hlen,e] at h9; cases h9)]
   refine Wz [7,10,46,36,32,48,191,0,37] ?_;refine zx (Qj J J (hb) J) J ?_;refine Wz [5,24,77,103,147,69] ?_
   exact Xl J J (X1 [] Aqc J J J)
  | true =>
   rw[e] at hb
   rw[hlen] at e
   by_cases hkn:(k:Int)<(els x.Scores).length
   ·have hd:decide ((k:Int)<(els x.Scores).length)=true:=Gqb hkn
    have hd2:decide (((els x.Scores).length:Int)≤k)=false:=Gqa Aqa 
    refine Wz [7,10,46,36,32,48,191,0,37] ?_;refine zx (Qj J J (hb) J) J ?_;refine Wz [64,43,134,70,55,1,124,1,158,1,102,166,273,1,110,60,6] ?_
    refine Xb J (fun h7 => ?_) (fun h7 => ?_)
    ·simp only[Gqr,decide_eq_true_eq] at h7
     rw[Ku (fun hh=>by have h9:=hh.2.2.2.2.2.2 k h6; rw[bodyAt,e,if_pos Aqa] at h9; have:=Gqc h9; omega)]
     refine Wz [77,103,147,69] ?_
     exact Xl J J (X1 [] Aqc J J J)
    ·simp only[Gql,decide_eq_false_iff_not] at h7
     refine Wz [15,9,165,0,47,159,22,81,123,50,57,18,0,6] ?_
     exact⟨x.Bodies.length-(k+1),Aqa,_,⟨k+1,Aqa,fun j hj h0=>by by_cases hjk:j=k; subst hjk; rw[bodyAt,e,if_pos Aqa]; exact Gqb Aqa; exact hp_C j hj Aqa,J⟩,X3 [0] Aqb⟩
   ·have hd:decide ((k:Int)<(els x.Scores).length)=false:=Gqa hkn
    have hd2:decide (((els x.Scores).length:Int)≤k)=true:=Gqb Aqa 
    by_cases k0:x.Bodies[k].Kind=0
    ·have hd3:decide (x.Bodies[k].Kind=0)=true:=Gqb k0
     rw[Ku (fun hh=>by have h9:=hh.2.2.2.2.2.2 k h6; rw[bodyAt,e,if_neg Aqa] at h9; have:=Gqc h9; omega)]
     refine Wz [7,10,46,36,32,48,191,0,37] ?_;refine zx (Qj J J (hb) J) J ?_;refine Wz [64,43,134,0,47,47,111,111,111,111,159,22,33,9,165,70,55,1,124,1,86,60,24,54] ?_
     exact Xl J J (X1 [] Aqc J J J)
    ·have hd3:decide (x.Bodies[k].Kind=0)=false:=Gqa k0
     refine Wz [7,10,46,36,32,48,191,0,37] ?_;refine zx (Qj J J (hb) J) J ?_;refine Wz [64,43,134,0,47,47,111,111,111,111,159,22,33,9,165,70,55,1,124,1,86,60,81,123,50,57,18,0,6] ?_
     exact⟨x.Bodies.length-(k+1),Aqa,_,⟨k+1,Aqa,fun j hj h0=>by by_cases hjk:j=k; subst hjk; rw[bodyAt,e,if_neg Aqa]; exact Gqb k0; exact hp_C j hj Aqa,J⟩,X3 [0] Aqb⟩
 have h6:¬k<x.Bodies.length:=by have:=Gqd h6; omega
 rw[worldOk_T ⟨hL,hT,hS,Aqa,hall,Aqa,fun j hj=>hp_C j hj Aqa⟩]
 refine Wz [20,67] ?_
 exact Xl J J (X1 [] Aqc J J J)
theorem S_WorldOk (x:TWorld) (hg:Enc.gd x):Con Tryz.prog 168 [] [ag x] [] (B (worldOk x)):=by
 obtain⟨gL,gT,gS,gSc,gB⟩:=hg
 have g1:=gSc.1
 have g2:=gB.1
 have hls:=Yi x.Scores
 have hlb:=Yi x.Bodies
 have hc:=S_LevelOk x.Level gL
 refine Con.of Tryz.func168 J Tryz.ntmps168 J (fun E => ?_)
 refine Wz [21,23,14,2,191] ?_;refine zx (Qj J J (hc) J) J ?_;refine Wz [5,102] ?_;refine zx (Qt.grdF J J J (.hit (.hit .stop)) (fun hgrd=>Qj J J (X0 x.Tick 0 100000) J)) J ?_;refine Wz [104,98] ?_;refine zx (Qt.grdF J J J (.hit (.hit .stop)) (fun hgrd=>Qj J J (X0 x.Seed 0 65535) J)) J ?_;refine Wz [104,110,0,109] ?_;refine zx (Qt.grdF J J J (.hit .stop) (fun hgrd=>Qj J J (X0 (els x.Scores).length 1 4) J)) J ?_;refine Wz [175,98,140,176] ?_;refine zx (Qt.grdF J J J (.hit (.hit (.hit (.hit .stop)))) (fun hgrd=>Qj J J (X0 (els x.Bodies).length (els x.Scores).length 24) J)) J ?_;refine zx (Qt.grdF J J J (.hit (.hit (.hit (.hit (.hit .stop))))) (fun hgrd=>Q4 J J J)) J ?_;refine Wz [51] ?_
 refine Xb J (fun h => ?_) (fun h => ?_)
 ·simp only[Gqr,Gq8] at h
  rw[Ku (fun hh=>by rcases h with (((h | h) | h) | h) | h; rw[hh.1] at h; cases h; rw[hh.2.1] at h; cases h; rw[hh.2.2.1] at h; cases h; rw[←Gxd,Yx] at h; have:=hh.2.2.2.1; omega; rw[←Gxd,Yx] at h; have:=hh.2.2.2.2.2.1; omega)]
  refine Wz [39] ?_
  exact Xl J J (X1 [] Aqc J J J)
 simp only[Gql,Gqu] at h
 obtain⟨⟨⟨⟨hL,hT⟩,hS⟩,hN⟩,hB⟩:=h
 have hN:=Yx.1 hN
 have hB:=Yx.1 hB
 refine Wz [15,11] ?_;refine Xh (fun m st=>∃ k:Nat,k+m=x.Scores.length∧((x.Scores.take k).all (fun y=>inR y 0 1000000)=true)∧st=(⟨_,[(1,Aqf 0),(3,I (els x.Scores).length),(4,I k)],[.box (Aqi x)]⟩:St)) (x.Scores.length) ⟨_,⟨0,Aqa,Aqd,J⟩,X3 [0] Aqb⟩ ?_
 rintro m_A _ ⟨k,hk_A,hp_A,rfl⟩
 refine Wz [43,38] ?_
 refine Xb J (fun h3 => ?_) (fun h3 => ?_)
 ·have h3:k<x.Scores.length:=by have:=Gqc h3; omega
  have hat:=Yg h3
  have hb:=X0 x.Scores[k] 0 1000000
  cases e:inR x.Scores[k] 0 1000000 with
  |false =>
   rw[e] at hb
   rw[Ku (fun hh=>by have h9:=hh.2.2.2.2.1; rw[score_no h3 e] at h9; cases h9)]
   refine Wz [7,75,80] ?_;refine zx (Qj J J (hb) J) J ?_;refine Wz [5,24,54] ?_
   exact Xl J J (X1 [] Aqc J J J)
  |true =>
   rw[e] at hb
   refine Wz [7,75,80] ?_;refine zx (Qj J J (hb) J) J ?_;refine Wz [5,81,62] ?_
   exact⟨x.Scores.length-(k+1),Aqa,_,⟨k+1,Aqa,X8 hp_A h3 e,J⟩,X3 [0] Aqb⟩
 have h3:¬k<x.Scores.length:=by have:=Gqd h3; omega
 have hall:scoresOk x.Scores=true:=X7 hp_A Aqa 
 refine Wz [20,11] ?_;refine Xh (fun m st=>∃ k:Nat,k+m=x.Bodies.length∧((∀ (j:Nat) (hj:j<x.Bodies.length),j<k→bodyAt x.Level x.Scores.length j x.Bodies[j]=true))∧st=(⟨_,[(1,Aqf 0),(3,I (els x.Scores).length),(5,I k)],[.box (Aqi x)]⟩:St)) (x.Bodies.length) ⟨_,⟨0,Aqa,fun j hj h0=>by omega,J⟩,X3 [0] Aqb⟩ ?_
 rintro m_C _ ⟨k,hk_C,hp_C,rfl⟩
 refine Wz [56,89,38] ?_
 refine Xb J (fun h6 => ?_) (fun h6 => ?_)
 ·have h6:k<x.Bodies.length:=by have:=Gqc h6; omega
  have hat:=Yg h6
  have gb:=gB.2 _ (Gqe h6)
  have hb:=S_l02Body x.Level (els x.Scores).length x.Bodies[k] gL hL gb Aqa 
  have hlen:((els x.Scores).length:Int)=(x.Scores.length:Int):=by rw[hls]
  cases e:bodyM x.Level (els x.Scores).length x.Bodies[k] with
  |false =>
   rw[e] at hb
   rw[Ku (fun hh=>by have h9:=hh.2.2.2.2.2.2 k h6; rw[bodyAt,←hlen,e] at h9; cases h9)]
   refine Wz [7,75,46,36,48,101,37] ?_;refine zx (Qj J J (hb) J) J ?_;refine Wz [5,0,47,47,47,159,60,0,47,47,111,111,111,111,159,60,24,54] ?_
   exact Xl J J (X1 [] Aqc J J J)
  | true =>
   rw[e] at hb
   rw[hlen] at e
   by_cases hkn:(k:Int)<(els x.Scores).length
   ·have hd:decide ((k:Int)<(els x.Scores).length)=true:=Gqb hkn
    by_cases k0:x.Bodies[k].Kind=0
    ·have hd3:decide (x.Bodies[k].Kind=0)=true:=Gqb k0
     by_cases ho:x.Bodies[k].Owner≠(k:Int)
     ·have hd4:decide (x.Bodies[k].Owner≠(k:Int))=true:=Gqb ho
      rw[Ku (fun hh=>by have h9:=hh.2.2.2.2.2.2 k h6; rw[bodyAt,e,if_pos Aqa] at h9; have:=Gqc h9; omega)]
      refine Wz [7,75,46,36,48,101,37] ?_;refine zx (Qj J J (hb) J) J ?_;refine Wz [5,70,55,1,124,1,86,1,28,134,1,232,22,28,70,134,1,70,55,1,124,1,70,118,1,60,22,24,54] ?_
      exact Xl J J (X1 [] Aqc J J J)
     ·have hd4:decide (x.Bodies[k].Owner≠(k:Int))=false:=Gqa ho
      refine Wz [7,75,46,36,48,101,37] ?_;refine zx (Qj J J (hb) J) J ?_;refine Wz [5,70,55,1,124,1,86,1,28,134,1,232,22,28,70,134,1,70,55,1,124,1,70,118,1,60,22,81,62] ?_
      exact⟨x.Bodies.length-(k+1),Aqa,_,⟨k+1,Aqa,fun j hj h0=>by by_cases hjk:j=k; subst hjk; rw[bodyAt,e,if_pos Aqa]; exact Gqb Aqa; exact hp_C j hj Aqa,J⟩,X3 [0] Aqb⟩
    ·have hd3:decide (x.Bodies[k].Kind=0)=false:=Gqa k0
     rw[Ku (fun hh=>by have h9:=hh.2.2.2.2.2.2 k h6; rw[bodyAt,e,if_pos Aqa] at h9; have:=Gqc h9; omega)]
     refine Wz [7,75,46,36,48,101,37] ?_;refine zx (Qj J J (hb) J) J ?_;refine Wz [5,70,55,1,124,1,86,1,28,134,1,232,22,0,47,47,111,111,111,111,159,60,24,54] ?_
     exact Xl J J (X1 [] Aqc J J J)
   ·have hd:decide ((k:Int)<(els x.Scores).length)=false:=Gqa hkn
    by_cases k0:x.Bodies[k].Kind=0
    ·have hd3:decide (x.Bodies[k].Kind=0)=true:=Gqb k0
     rw[Ku (fun hh=>by have h9:=hh.2.2.2.2.2.2 k h6; rw[bodyAt,e,if_neg Aqa] at h9; have:=Gqc h9; omega)]
     refine Wz [7,75,46,36,48,101,37] ?_;refine zx (Qj J J (hb) J) J ?_;refine Wz [5,70,55,1,124,1,86,1,28,134,1,232,22,0,47,47,111,111,111,111,159,60,24,54] ?_
     exact Xl J J (X1 [] Aqc J J J)
    ·have hd3:decide (x.Bodies[k].Kind=0)=false:=Gqa k0
     refine Wz [7,75,46,36,48,101,37] ?_;refine zx (Qj J J (hb) J) J ?_;refine Wz [5,70,55,1,124,1,86,1,28,134,1,232,22,28,70,134,1,0,47,47,1,22,22,81,62] ?_
     exact⟨x.Bodies.length-(k+1),Aqa,_,⟨k+1,Aqa,fun j hj h0=>by by_cases hjk:j=k; subst hjk; rw[bodyAt,e,if_neg Aqa]; exact Gqb k0; exact hp_C j hj Aqa,J⟩,X3 [0] Aqb⟩
 have h6:¬k<x.Bodies.length:=by have:=Gqd h6; omega
 rw[worldOk_T ⟨hL,hT,hS,Aqa,hall,Aqa,fun j hj=>hp_C j hj Aqa⟩]
 refine Wz [20,67] ?_
 exact Xl J J (X1 [] Aqc J J J)
end
end Go.Proofs.YtfklmiijhcajdaaGreat
