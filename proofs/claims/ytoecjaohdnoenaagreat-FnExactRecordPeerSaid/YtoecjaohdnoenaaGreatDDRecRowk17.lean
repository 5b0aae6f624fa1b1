/-
  Rules, data and contracts of functions: part 18 of the proof.
  Conditions: those that each theorem names.
-/
import Derived.Test.YtoecjaohdnoenaaGreatDDRecRowk16
set_option linter.unusedSimpArgs false
set_option linter.unusedVariables false
set_option maxRecDepth 8000
set_option maxHeartbeats 8000000
namespace Go.Proofs.YtoecjaohdnoenaaGreat
section
open Go.RowKit

theorem S_LevelOk (x:TLevel) (hg:Enc.gd x):Con Tryz.prog 154 [] [ag x] [] (B (levelOk x)):=by
 obtain⟨rows⟩:=x
 have hn:Enc.gd rows:=hg
 have hn1:=hn.1
 have hlx:=Yx rows
 refine Con.of Tryz.func154 J Tryz.ntmps154 J (fun E => ?_)
 refine Wz [82,42,7] ?_;refine zx (Qj J J (Ya (els rows).length 3 12) J) J ?_;refine Wz [9,3] ?_
 refine Xb J (fun h => ?_) (fun h => ?_)
 ·refine Wz [98] ?_
  exact Gb J (Gc [] J J (Xk (by simp[inR] at h; simp[levelOk]; omega)))
 have h:3≤rows.length∧rows.length≤12:=by simp[inR] at h; omega
 have h0:0<rows.length:=by omega
 have hat0:(els rows)[(0:Int).toNat]? = some (Enc.e rows[0]):=Yv h0
 have hw:=width_at h0
 obtain⟨w,hw'⟩:∃ w,w=rows[0].size:=⟨_,rfl⟩
 rw[←hw'] at hw
 have hg0:rows[0].size≤9223372036854775807:=hn.2 _ (Gqj h0)
 refine Wz [22,23,59,72,2,32,4,101,2,46] ?_;refine Xj (fun m st=>∃ (k:Nat) (s:Seen×Bool),k+m=rows.length∧(rowsM rows w k=some s∧(0<k→4≤w∧w≤20))∧st=(⟨_,[(1,.o (.c (.ptr 0 0))),(3,I w),(4,B s.2),(5,.o (.c (.sb 1 4 1))),(6,I k)],[.box [.rd [] (sl rows)],.box [vb s.1.1,vb s.1.2.1,vb s.1.2.2.1,vb s.1.2.2.2]]⟩:St)) (rows.length) ⟨(fun (k:Nat) (s:Seen×Bool)=>(⟨_,[(1,.o (.c (.ptr 0 0))),(3,I w),(4,B s.2),(5,.o (.c (.sb 1 4 1))),(6,I k)],[.box [.rd [] (sl rows)],.box [vb s.1.1,vb s.1.2.1,vb s.1.2.2.1,vb s.1.2.2.2]]⟩:St)) 0 (((false,false,false,false),false)),⟨0,((false,false,false,false),false),by omega,⟨J,by omega⟩,J⟩,Ga [0,1] J (by kernel_rfl) (.c J (.cons (Xz (by omega)) (.c J (.c J (.c J (.nil))))))⟩ ?_
 rintro m_A _ ⟨k,s,hk_A,hp_A,rfl⟩
 refine Wz [40,16,7,37] ?_
 refine Xb J (fun h => ?_) (fun h => ?_)
 ·have h3:k<rows.length:=by have:=Gqe h; omega
  have hat:=Yv h3
  have hwc:((rows[0].size:Nat):Int)=w:=by omega
  have hgk:rows[k].size≤9223372036854775807:=hn.2 _ (Gqj h3)
  refine Wz [11,42,0,59,72,0,150,106] ?_;refine zx (Vz J (.hit .stop) (fun hgrd=>Qj J J (Ya w 4 20) J)) J ?_;refine Wz [274,103] ?_
  refine Xb J (fun h4 => ?_) (fun h4 => ?_)
  ·simp only[Gqr,decide_eq_true_eq,Gq7,inR,Gxn,decide_eq_false_iff_not] at h4
   refine Wz [26,62,145,64] ?_
   refine Gb J (Gc [] J J (Xk ?_))
   by_cases h4':rows[k].size=w
   ·have:¬(4≤w∧w≤20):=by omega
    simp only[levelOk,hw]
    rcases Gqo w 4 with h9 | h9
    ·simp[show ¬4≤w by omega]
    ·simp[show ¬w≤20 by omega]
   ·exact (level_no (l:=⟨rows⟩) h3 hw (rows_bad h3 h4')).symm
  simp only[Gqn,decide_eq_false_iff_not,Gq4,inR,Gqi,decide_eq_true_eq] at h4
  have h1:4≤w∧w≤20:=by omega
  have h4:rows[k].size=w:=by omega
  have hrn:=rows_next hp_A.1 h3 h4
  obtain⟨er,her⟩:∃ er,er=(decide (k=0) || decide (k+1=rows.length)):=⟨_,rfl⟩
  rw[←her] at hrn
  refine Wz [22,32,44] ?_;refine Xj (fun m st=>∃ (c:Nat) (u:Seen×Bool),c+m=w∧(colsM rows[k] er w s c=some u)∧st=(⟨_,[(1,.o (.c (.ptr 0 0))),(3,I w),(4,B u.2),(5,.o (.c (.sb 1 4 1))),(6,I k),(7,I c)],[.box [.rd [] (sl rows)],.box [vb u.1.1,vb u.1.2.1,vb u.1.2.2.1,vb u.1.2.2.2]]⟩:St)) (w) ⟨_,⟨0,s,by omega,J,J⟩,Gi [0,1]⟩ ?_
  rintro m_D _ ⟨c,u,hk_D,hp_D,rfl⟩
  refine Wz [20,37] ?_
  refine Xb J (fun h5 => ?_) (fun h5 => ?_)
  ·have h5:c<w:=by have:=Gqe h5; omega
   have hcn:=cols_next hp_D
   obtain⟨t,ht⟩:∃ t,byteAt rows[k] (c:Int).toNat=t:=⟨_,rfl⟩
   rw[show byteAt rows[k] c=t from ht] at hcn
   have htb:0≤t∧t≤255:=ht▸Yq _ _
   obtain⟨⟨sa,sb,sc,sd⟩,so⟩:=u
   obtain⟨e,he⟩:∃ e,e=(er || decide (c=0) || decide (c+1=w)):=⟨_,rfl⟩
   rw[←he] at hcn
   refine Wz [11,52,59,0,158,49,186,106] ?_;refine zx (Vz J (.hit .stop) (fun hgrd=>Z5 J J J J)) J ?_;refine Wz [80,106,187,200,210,295] ?_;refine zx (Vz J (.hit (.hit (.hit (.hit (.hit .stop))))) (fun hgrd=>Z5 J J J J)) J ?_;refine Wz [80,106,256] ?_;refine zx (Vz J (.hit (.hit .stop)) (fun hgrd=>Xc J J J J (by omega))) J ?_;refine zx (Vz J (.hit (.hit (.hit .stop))) (fun hgrd=>Z5 J J J J)) J ?_;refine Wz [80,2,155,10,186,2] ?_
   have hee:(decide ((k:Int)=0) || decide ((c:Int)=0) || decide ((k:Int)=((els rows).length:Int)-1) || decide ((c:Int)=(w:Int)-1))=e:=by
    rw[he,her,hlx]
    have g1:decide ((k:Int)=0)=decide (k=0):=by simp
    have g2:decide ((k:Int)=(rows.length:Int)-1)=decide (k+1=rows.length):=decide_eq_decide.2 (by omega)
    have g3:decide ((c:Int)=0)=decide (c=0):=by simp
    have g4:decide ((c:Int)=(w:Int)-1)=decide (c+1=w):=decide_eq_decide.2 (by omega)
    rw[g1,g2,g3,g4]
    cases decide (k=0) <;> cases decide (c=0) <;> cases decide (k+1=rows.length) <;> rfl
   clear he her
   have hbad:colsM rows[k] er w s (c+1)=none→levelOk ⟨rows⟩=false:=fun hc=>level_no (l:=⟨rows⟩) h3 hw (hrn.trans (cols_none hc (by omega)))
   refine AWP.pre (st':=(⟨_,[(1,.o (.c (.ptr 0 0))),(3,I w),(4,B so),(5,.o (.c (.sb 1 4 1))),(6,I k),(7,I c),(8,VI .u8 t),(9,B e),(73,B (decide (t=35)))],[.box [.rd [] (sl rows)],.box [vb sa,vb sb,vb sc,vb sd]]⟩:St)) ?_ (Ga [0,1] J (by kernel_rfl) (.c J (.c J (.c J (.c J (.c J (.c J (.c J (.cons (Xk hee) (.c J (.nil)))))))))))
   by_cases h7:t=35
   ·subst h7
    refine Wz [83,157,168,106] ?_;refine zx (Vz J (.hit .stop) (fun hgrd=>Qw (b:=false) J J J J (by decide))) J ?_;refine Wz [80,104] ?_
    exact⟨w-(c+1),by omega,(fun (c:Nat) (u:Seen×Bool)=>(⟨_,[(1,.o (.c (.ptr 0 0))),(3,I w),(4,B u.2),(5,.o (.c (.sb 1 4 1))),(6,I k),(7,I c)],[.box [.rd [] (sl rows)],.box [vb u.1.1,vb u.1.2.1,vb u.1.2.2.1,vb u.1.2.2.2]]⟩:St)) (c+1) (((sa,sb,sc,sd),so)),⟨c+1,((sa,sb,sc,sd),so),by omega,hcn.trans (by simp[tileM]),J⟩,Ga [0,1] J (by kernel_rfl) (.c J (.c J (.cons (Xk (by simp)) (.c J (.c J (.c J (.nil)))))))⟩
   cases e
   case true =>
    have f1:decide (t=35)=false:=Gqa h7
    refine Xb J (fun h=>absurd (Gqe h) h7) (fun _ => ?_)
    refine Wz [13,57,70,116,116,57,116,116,116,116,116,116,70,25,2,83,26,174,62,145,69] ?_
    exact Gb J (Gc [] J J (Xk (hbad (hcn.trans (by simp[tileM,h7]))).symm))
   refine Xb J (fun h=>absurd (Gqe h) h7) (fun _ => ?_)
   rcases (by omega:t=49∨t=50∨t=51∨t=52∨t=111∨t=46∨(t≠35∧t≠49∧t≠50∧t≠51∧t≠52∧t≠111∧t≠46)) with rfl | rfl | rfl | rfl | rfl | rfl | ht7
   ·refine Wz [10,31] ?_
    refine Wz [31,160,1,19,160,1,25,1,19,12,1,19,86,1,6,1,25,6,108,10,202,19,217,25,2,83,20,169,189,188,3] ?_
    refine Xb J (fun h8 => ?_) (fun h8 => ?_)
    ·have h8:sa=true:=h8
     subst h8
     refine Wz [26,62,62,145,69] ?_
     exact Gb J (Gc [] J J (Xk (hbad (hcn.trans (by simp[tileM]))).symm))
    ·have h8:sa=false:=h8
     subst h8
     refine Wz [22,33,0,169,189,219,51,168,106,234,80,104] ?_
     exact⟨w-(c+1),by omega,(fun (c:Nat) (u:Seen×Bool)=>(⟨_,[(1,.o (.c (.ptr 0 0))),(3,I w),(4,B u.2),(5,.o (.c (.sb 1 4 1))),(6,I k),(7,I c)],[.box [.rd [] (sl rows)],.box [vb u.1.1,vb u.1.2.1,vb u.1.2.2.1,vb u.1.2.2.2]]⟩:St)) (c+1) (((true,sb,sc,sd),true)),⟨c+1,((true,sb,sc,sd),true),by omega,hcn.trans (by simp[tileM]),J⟩,Ga [0,1] J (by kernel_rfl) (.c J (.c J (.cons (Xk (by simp)) (.c J (.c J (.c J (.nil)))))))⟩
   ·refine Wz [10,31] ?_
    refine Wz [31,160,1,19,160,1,25,1,19,12,1,19,86,1,6,1,25,6,108,10,202,19,217,25,2,83,20,169,189,188,3] ?_
    refine Xb J (fun h8 => ?_) (fun h8 => ?_)
    ·have h8:sb=true:=h8
     subst h8
     refine Wz [26,62,62,145,69] ?_
     exact Gb J (Gc [] J J (Xk (hbad (hcn.trans (by simp[tileM]))).symm))
    ·have h8:sb=false:=h8
     subst h8
     refine Wz [22,33,0,169,189,219,51,168,106,234,80,104] ?_
     exact⟨w-(c+1),by omega,(fun (c:Nat) (u:Seen×Bool)=>(⟨_,[(1,.o (.c (.ptr 0 0))),(3,I w),(4,B u.2),(5,.o (.c (.sb 1 4 1))),(6,I k),(7,I c)],[.box [.rd [] (sl rows)],.box [vb u.1.1,vb u.1.2.1,vb u.1.2.2.1,vb u.1.2.2.2]]⟩:St)) (c+1) (((sa,true,sc,sd),true)),⟨c+1,((sa,true,sc,sd),true),by omega,hcn.trans (by simp[tileM]),J⟩,Ga [0,1] J (by kernel_rfl) (.c J (.c J (.cons (Xk (by simp)) (.c J (.c J (.c J (.nil)))))))⟩
   ·refine Wz [10,31] ?_
    refine Wz [31,160,1,19,160,1,25,1,19,12,1,19,86,1,6,1,25,6,108,10,202,19,217,25,2,83,20,169,189,188,3] ?_
    refine Xb J (fun h8 => ?_) (fun h8 => ?_)
    ·have h8:sc=true:=h8
     subst h8
     refine Wz [26,62,62,145,69] ?_
     exact Gb J (Gc [] J J (Xk (hbad (hcn.trans (by simp[tileM]))).symm))
    ·have h8:sc=false:=h8
     subst h8
     refine Wz [22,33,0,169,189,219,51,168,106,234,80,104] ?_
     exact⟨w-(c+1),by omega,(fun (c:Nat) (u:Seen×Bool)=>(⟨_,[(1,.o (.c (.ptr 0 0))),(3,I w),(4,B u.2),(5,.o (.c (.sb 1 4 1))),(6,I k),(7,I c)],[.box [.rd [] (sl rows)],.box [vb u.1.1,vb u.1.2.1,vb u.1.2.2.1,vb u.1.2.2.2]]⟩:St)) (c+1) (((sa,sb,true,sd),true)),⟨c+1,((sa,sb,true,sd),true),by omega,hcn.trans (by simp[tileM]),J⟩,Ga [0,1] J (by kernel_rfl) (.c J (.c J (.cons (Xk (by simp)) (.c J (.c J (.c J (.nil)))))))⟩
   ·refine Wz [10,31] ?_
    refine Wz [31,160,1,19,160,1,25,1,19,12,1,19,86,1,6,1,25,6,108,10,202,19,217,25,2,83,20,169,189,188,3] ?_
    refine Xb J (fun h8 => ?_) (fun h8 => ?_)
    ·have h8:sd=true:=h8
     subst h8
     refine Wz [26,62,62,145,69] ?_
     exact Gb J (Gc [] J J (Xk (hbad (hcn.trans (by simp[tileM]))).symm))
    ·have h8:sd=false:=h8
     subst h8
     refine Wz [22,33,0,169,189,219,51,168,106,234,80,104] ?_
     exact⟨w-(c+1),by omega,(fun (c:Nat) (u:Seen×Bool)=>(⟨_,[(1,.o (.c (.ptr 0 0))),(3,I w),(4,B u.2),(5,.o (.c (.sb 1 4 1))),(6,I k),(7,I c)],[.box [.rd [] (sl rows)],.box [vb u.1.1,vb u.1.2.1,vb u.1.2.2.1,vb u.1.2.2.2]]⟩:St)) (c+1) (((sa,sb,sc,true),true)),⟨c+1,((sa,sb,sc,true),true),by omega,hcn.trans (by simp[tileM]),J⟩,Ga [0,1] J (by kernel_rfl) (.c J (.c J (.cons (Xk (by simp)) (.c J (.c J (.c J (.nil)))))))⟩
   ·refine Wz [10,31] ?_
    refine Wz [31,24,1,0,57,1,6,1,0,57,70,116,116,70,1,6,6,108,10,202,19] ?_;refine z9b J (by assumption) ?_;refine Wz [25,108,157,168,106,234,80,104] ?_
    exact⟨w-(c+1),by omega,(fun (c:Nat) (u:Seen×Bool)=>(⟨_,[(1,.o (.c (.ptr 0 0))),(3,I w),(4,B u.2),(5,.o (.c (.sb 1 4 1))),(6,I k),(7,I c)],[.box [.rd [] (sl rows)],.box [vb u.1.1,vb u.1.2.1,vb u.1.2.2.1,vb u.1.2.2.2]]⟩:St)) (c+1) (((sa,sb,sc,sd),true)),⟨c+1,((sa,sb,sc,sd),true),by omega,hcn.trans (by simp[tileM]),J⟩,Ga [0,1] J (by kernel_rfl) (.c J (.c J (.cons (Xk (by simp)) (.c J (.c J (.c J (.nil)))))))⟩
   ·refine Wz [10,31] ?_
    refine Wz [31,160,1,19,24,1,25,1,0,57,70,116,116,70,1,6,6,108,10,143,0,57,6,108,157,168,106,234,80,104] ?_
    exact⟨w-(c+1),by omega,(fun (c:Nat) (u:Seen×Bool)=>(⟨_,[(1,.o (.c (.ptr 0 0))),(3,I w),(4,B u.2),(5,.o (.c (.sb 1 4 1))),(6,I k),(7,I c)],[.box [.rd [] (sl rows)],.box [vb u.1.1,vb u.1.2.1,vb u.1.2.2.1,vb u.1.2.2.2]]⟩:St)) (c+1) (((sa,sb,sc,sd),true)),⟨c+1,((sa,sb,sc,sd),true),by omega,hcn.trans (by simp[tileM]),J⟩,Ga [0,1] J (by kernel_rfl) (.c J (.c J (.cons (Xk (by simp)) (.c J (.c J (.c J (.nil)))))))⟩
   ·refine Wz [10,31] ?_
    refine Wz [31,150,1,0,156,273,1,79,1,0,156] ?_;refine zx (Qt.grdT J J J (.hit .stop) (fun hgrd=>Kh J J J J)) J ?_;refine zx (Qt.grdT J J J (.hit (.hit .stop)) (fun hgrd=>Qa J J J)) J ?_;refine zx (Qt.grd2F J J J (.hit1 (.hit1 (.hit1 .stop))) (fun hgrd hgrd2=>Qa J J J)) J ?_;refine zx (Qt.grd2F J J J (.hit (.hit1 (.hit1 (.hit1 .stop)))) (fun hgrd hgrd2=>Z9 J J J J)) J ?_;refine zx (Qt.grdT J J J (.part (.part (.hit (.hit (.hit .stop))))) (fun hgrd=>Kk J J J J)) J ?_;refine Wz [1,79,6,2] ?_
    refine Xb J (fun h8 => ?_) (fun h8 => ?_)
    ·refine Wz [26,174,62,220] ?_
     refine Wz [62,69] ?_
     exact Gb J (Gc [] J J (Xk (hbad (hcn.trans (by simp[tileM,ht7]))).symm))
    ·simp only[Gxn,Gqn,Bool.false_or,decide_eq_false_iff_not,Classical.not_not] at h8
     omega
  ·have h5:c=w:=by have:=Gqf h5; omega
   rw[h5] at hp_D
   rw[hp_D] at hrn
   refine Wz [162,163,129] ?_
   exact⟨rows.length-(k+1),by omega,_,⟨k+1,u,by omega,⟨hrn,fun _=>h1⟩,J⟩,Gi [0,1]⟩
 ·have h3:¬((k:Int)<(els rows).length):=Gqf h
  have hk:k=rows.length:=by omega
  subst hk
  refine Wz [89,17] ?_
  exact Gb J (Gc [] J J (Xk (by
   unfold levelOk
   rw[hw,hp_A.1]
   have h1:=hp_A.2 (by omega)
   have:3≤rows.length∧rows.length≤12∧4≤w∧w≤20:=by omega
   simp[this])))
end
section
open Go.RowKit

theorem rowsM_size {rows:List ByteArray} {w:Nat}:∀ n s,rowsM rows w n=some s→∀ r,r<n→∃ row,rows[r]? = some row∧row.size=w
 |0,s,_=>fun r hr=>by omega
 | n+1,s,h=>fun r hr=>by
  rw[rowsM] at h
  split at h
  ·cases h
  ·rename_i s1 h1
   split at h
   ·cases h
   ·rename_i row hrow
    split at h
    ·rename_i hw
     by_cases e:r=n
     ·subst e; exact⟨row,hrow,hw⟩
     ·exact rowsM_size n s1 h1 r (by omega)
    ·cases h
theorem Ze {l:TLevel} (h:levelOk l=true):3≤l.Rows.length∧l.Rows.length≤12∧∃ w,4≤w∧w≤20∧∀ (r:Nat) (hr:r<l.Rows.length),(l.Rows[r]).size=w:=by
 unfold levelOk at h
 simp only[Gqi,decide_eq_true_eq] at h
 obtain⟨⟨⟨⟨h1,h2⟩,h3⟩,h4⟩,h5⟩:=h
 refine⟨h1,h2,widthM l.Rows,h3,h4,fun r hr => ?_⟩
 split at h5
 ·rename_i s hs
  obtain⟨row,h6,h7⟩:=rowsM_size _ s hs r hr
  rw[Gqd hr] at h6
  simp only[Option.some.injEq] at h6
  rw[h6]; exact h7
 ·cases h5
def sizeOf (k:Int):Int:=if k=0 then 12 else if k=1 then 4 else if k=2 then 8 else 0
theorem I_SizeOf (k:Int):Con Tryz.prog 271 [] [ai k] [] (I (sizeOf k)):=by
 by_cases h0:k=0
 ·have hb:decide (k=0)=true:=Gqb h0
  rw[show sizeOf k=12 by rw[sizeOf,if_pos h0]]
  refine Con.of Tryz.func271 J Tryz.ntmps271 J (fun E => ?_)
  refine Wz [87,3,44,4,15,2,83,26,174,64] ?_
  exact Gb J (Gc [] J J J)
 have hb0:decide (k=0)=false:=Gqa h0
 by_cases h1:k=1
 ·have hb:decide (k=1)=true:=Gqb h1
  rw[show sizeOf k=4 by rw[sizeOf,if_neg h0,if_pos h1]]
  refine Con.of Tryz.func271 J Tryz.ntmps271 J (fun E => ?_)
  refine Wz [87,3,44,4,15,108,4,15,2,83,26,174,64] ?_
  exact Gb J (Gc [] J J J)
 have hb1:decide (k=1)=false:=Gqa h1
 by_cases h2:k=2
 ·have hb:decide (k=2)=true:=Gqb h2
  rw[show sizeOf k=8 by rw[sizeOf,if_neg h0,if_neg h1,if_pos h2]]
  refine Con.of Tryz.func271 J Tryz.ntmps271 J (fun E => ?_)
  refine Wz [87,3,44,4,15,108,4,15,108,4,15,2,83,26,174,64] ?_
  exact Gb J (Gc [] J J J)
 have hb2:decide (k=2)=false:=Gqa h2
 rw[show sizeOf k=0 by rw[sizeOf,if_neg h0,if_neg h1,if_neg h2]]
 refine Con.of Tryz.func271 J Tryz.ntmps271 J (fun E => ?_)
 refine Wz [87,3,44,4,15,108,4,15,108,4,15,108,157,122,26,48] ?_
 exact Gb J (Gc [] J J J)
theorem S_SizeOf (k:Int):Con Tryz.prog 264 [] [ai k] [] (I (sizeOf k)):=by
 by_cases h0:k=0
 ·have hb:decide (k=0)=true:=Gqb h0
  rw[show sizeOf k=12 by rw[sizeOf,if_pos h0]]
  refine Con.of Tryz.func264 J Tryz.ntmps264 J (fun E => ?_)
  refine Wz [87,3,44,4,15,2,83,26,174,64] ?_
  exact Gb J (Gc [] J J J)
 have hb0:decide (k=0)=false:=Gqa h0
 by_cases h1:k=1
 ·have hb:decide (k=1)=true:=Gqb h1
  rw[show sizeOf k=4 by rw[sizeOf,if_neg h0,if_pos h1]]
  refine Con.of Tryz.func264 J Tryz.ntmps264 J (fun E => ?_)
  refine Wz [87,3,44,4,15,108,4,15,2,83,26,174,64] ?_
  exact Gb J (Gc [] J J J)
 have hb1:decide (k=1)=false:=Gqa h1
 by_cases h2:k=2
 ·have hb:decide (k=2)=true:=Gqb h2
  rw[show sizeOf k=8 by rw[sizeOf,if_neg h0,if_neg h1,if_pos h2]]
  refine Con.of Tryz.func264 J Tryz.ntmps264 J (fun E => ?_)
  refine Wz [87,3,44,4,15,108,4,15,108,4,15,2,83,26,174,64] ?_
  exact Gb J (Gc [] J J J)
 have hb2:decide (k=2)=false:=Gqa h2
 rw[show sizeOf k=0 by rw[sizeOf,if_neg h0,if_neg h1,if_neg h2]]
 refine Con.of Tryz.func264 J Tryz.ntmps264 J (fun E => ?_)
 refine Wz [87,3,44,4,15,108,4,15,108,4,15,108,157,122,26,48] ?_
 exact Gb J (Gc [] J J J)
def wallAt (l:TLevel) (r c:Int):Prop:=∀ (q:Nat) (hq:q<l.Rows.length),r=q→0≤c→c<(l.Rows[q]).size→byteAt (l.Rows[q]) c.toNat=35
def hits (l:TLevel) (x y s:Int):Prop:=∃ r c:Int,y/16≤r∧r≤(y+s-1)/16∧x/16≤c∧c≤(x+s-1)/16∧wallAt l r c
noncomputable def solidM (l:TLevel) (x y s:Int):Bool:=@decide (hits l x y s) (Classical.propDecidable _)
theorem K3 {l:TLevel} {x y s:Int} (h:hits l x y s):solidM l x y s=true:=@decide_eq_true _ (Classical.propDecidable _) h
theorem solidM_F {l:TLevel} {x y s:Int} (h:¬hits l x y s):solidM l x y s=false:=@decide_eq_false _ (Classical.propDecidable _) h
theorem wall_tile {l:TLevel} {r c:Nat} (hr:r<l.Rows.length) (h:byteAt (l.Rows[r]) c=35):wallAt l r c:=fun q hq e h0 h1=>by
 have:q=r:=by omega
 subst this
 exact h
theorem no_wall {l:TLevel} {r c:Nat} (hr:r<l.Rows.length) (hc:c<(l.Rows[r]).size) (h:byteAt (l.Rows[r]) c≠35):¬wallAt l r c:=fun hw=>h (hw r hr rfl (by omega) (by omega))
theorem out_hits {l:TLevel} {x y s:Int} {w:Nat} (hw:∀ (r:Nat) (hr:r<l.Rows.length),(l.Rows[r]).size=w) (h1:1≤s) (h:x<0∨y<0∨(w:Int)*16-s<x∨(l.Rows.length:Int)*16-s<y):hits l x y s:=by
 by_cases hx:x<0
 ·exact⟨y/16,x/16,by omega,by omega,by omega,by omega,fun q hq e h0 h1=>by omega⟩
 by_cases hy:y<0
 ·exact⟨y/16,x/16,by omega,by omega,by omega,by omega,fun q hq e h0 h1=>by omega⟩
 by_cases hx2:(w:Int)*16-s<x
 ·exact⟨y/16,(x+s-1)/16,by omega,by omega,by omega,by omega,fun q hq e h0 h1=>by have:=hw q hq; omega⟩
 ·exact⟨(y+s-1)/16,x/16,by omega,by omega,by omega,by omega,fun q hq e h0 h1=>by omega⟩
def freeR (l:TLevel) (x s:Int) (a b:Int):Prop:=∀ r c:Int,a≤r→r<b→x/16≤c→c≤(x+s-1)/16→¬wallAt l r c
def freeC (l:TLevel) (r:Int) (a b:Int):Prop:=∀ c:Int,a≤c→c<b→¬wallAt l r c
theorem free_all {l:TLevel} {x y s b:Int} (h:freeR l x s (y/16) b) (hb:(y+s-1)/16<b):¬hits l x y s:=fun ⟨r,c,h1,h2,h3,h4,h5⟩=>h r c h1 (by omega) h3 h4 h5
theorem free_row {l:TLevel} {x s a b e:Int} (h:freeR l x s a b) (hc:freeC l b (x/16) e) (he:(x+s-1)/16<e):freeR l x s a (b+1):=fun r c h1 h2 h3 h4=>by
 by_cases hr:r<b
 ·exact h r c h1 hr h3 h4
 ·have:r=b:=by omega
  subst this
  exact hc c h3 (by omega)
theorem free_col {l:TLevel} {r a b:Int} (h:freeC l r a b) (hn:¬wallAt l r b):freeC l r a (b+1):=fun c h1 h2=>by
 by_cases hc:c<b
 ·exact h c h1 hc
 ·have:c=b:=by omega
  subst this
  exact hn
theorem I_solid (l:TLevel) (x y s:Int) (hl:levelOk l=true) (hx:I64 x) (hy:I64 y) (h1:1≤s) (h16:s≤16):Con Tryz.prog 299 [] [ag l,ai x,ai y,ai s] [] (B (solidM l x y s)):=by
 obtain⟨hx1,hx2⟩:=hx
 obtain⟨hy1,hy2⟩:=hy
 obtain⟨f3,f12,w,w4,w20,hw⟩:=Ze hl
 have hlx:=Yx l.Rows
 have h0:0<l.Rows.length:=by omega
 have hat0:(els l.Rows)[(0:Int).toNat]? = some (Enc.e l.Rows[0]):=Yv h0
 have hw0:=hw 0 h0
 refine Con.of Tryz.func299 J Tryz.ntmps299 J (fun E => ?_)
 refine Wz [82,23,59,72,117,2,23,7,117,78,152,106,297,80,106,256,235] ?_;refine zx (Vz J (.hit (.hit (.hit .stop))) (fun hgrd=>Xc J J J J (by omega))) J ?_;refine Wz [298,80,106,256,235] ?_;refine zx (Vz J (.hit (.hit (.hit .stop))) (fun hgrd=>Xc J J J J (by omega))) J ?_;refine Wz [298,103] ?_
 refine Xb J (fun h => ?_) (fun h => ?_)
 ·simp only[Gqr,decide_eq_true_eq] at h
  rw[K3 (out_hits hw h1 (by omega))]
  refine Wz [98] ?_
  exact Gb J (Gc [] J J J)
 simp only[Gqn,decide_eq_false_iff_not] at h
 refine Wz [22,40,179,192] ?_;refine Xj (fun m__ st=>∃ (r:Nat),((y+s-1)/16+1).toNat-r=m__∧(y/16≤r∧(r:Int)≤(y+s-1)/16+1∧freeR l x s (y/16) r)∧st=(⟨_,[(1,I x),(2,I y),(3,I s),(4,.o (.c (.ptr 0 0))),(11,I r)],[.box ((Enc.e l).map (V1.rd []))]⟩:St)) _ ⟨(fun (r:Nat)=>(⟨_,[(1,I x),(2,I y),(3,I s),(4,.o (.c (.ptr 0 0))),(11,I r)],[.box ((Enc.e l).map (V1.rd []))]⟩:St)) ((y/16).toNat),⟨(y/16).toNat,J,⟨by omega,by omega,fun r c h1 h2=>by omega⟩,J⟩,Ga [0] J (by kernel_rfl) (.c J (.c J (.c J (.c J (.cons (Xz (by omega)) (.nil))))))⟩ ?_
 rintro m_A _ ⟨r,hk_A,hp_A,rfl⟩
 obtain⟨hr1,hr2,hfr⟩:=hp_A
 refine Wz [20,0,18,65,179,214,3] ?_
 refine Xb J (fun h5 => ?_) (fun h5 => ?_)
 ·have h5:=Gqe h5
  have hrl:r<l.Rows.length:=by omega
  have hat:=Yv hrl
  have hwr:=hw r hrl
  refine Wz [107,179,192] ?_;refine Xj (fun m__ st=>∃ (c:Nat),((x+s-1)/16+1).toNat-c=m__∧(x/16≤c∧(c:Int)≤(x+s-1)/16+1∧freeC l r (x/16) c)∧st=(⟨_,[(1,I x),(2,I y),(3,I s),(4,.o (.c (.ptr 0 0))),(11,I r),(12,I c)],[.box ((Enc.e l).map (V1.rd []))]⟩:St)) _ ⟨(fun (c:Nat)=>(⟨_,[(1,I x),(2,I y),(3,I s),(4,.o (.c (.ptr 0 0))),(11,I r),(12,I c)],[.box ((Enc.e l).map (V1.rd []))]⟩:St)) ((x/16).toNat),⟨(x/16).toNat,J,⟨by omega,by omega,fun c h1 h2=>by omega⟩,J⟩,Ga [0] J (by kernel_rfl) (.c J (.c J (.c J (.c J (.c J (.cons (Xz (by omega)) (.nil)))))))⟩ ?_
  rintro m_B _ ⟨c,hk_B,hp_B,rfl⟩
  obtain⟨hc1,hc2,hfc⟩:=hp_B
  refine Wz [20,0,18,65,179,214,3] ?_
  refine Xb J (fun h6 => ?_) (fun h6 => ?_)
  ·have h6:=Gqe h6
   refine Wz [11,52,59,0,146,186,3] ?_
   refine Xb J (fun h7 => ?_) (fun h7 => ?_)
   ·have h7:=Gqe h7
    rw[K3 ⟨(r:Int),(c:Int),hr1,by omega,hc1,by omega,wall_tile hrl h7⟩]
    refine Wz [26,191,69] ?_
    exact Gb J (Gc [] J J J)
   ·have h7:=Gqf h7
    refine Wz [157,129] ?_
    refine⟨_,(by omega),_,⟨c+1,J,⟨by omega,by omega,free_col hfc (no_wall hrl (by omega) h7)⟩,J⟩,Gi [0]⟩
  ·have h6:=Gqf h6
   refine Wz [162,163,129] ?_
   refine⟨_,(by omega),_,⟨r+1,J,⟨by omega,by omega,free_row hfr hfc (by omega)⟩,J⟩,Gi [0]⟩
 ·have h5:=Gqf h5
  rw[solidM_F (free_all hfr (by omega))]
  refine Wz [27,26,48] ?_
  exact Gb J (Gc [] J J J)
theorem S_l02Solid (l:TLevel) (x y s:Int) (hl:levelOk l=true) (hx:I64 x) (hy:I64 y) (h1:1≤s) (h16:s≤16):Con Tryz.prog 263 [] [ag l,ai x,ai y,ai s] [] (B (solidM l x y s)):=by
 obtain⟨hx1,hx2⟩:=hx
 obtain⟨hy1,hy2⟩:=hy
 obtain⟨f3,f12,w,w4,w20,hw⟩:=Ze hl
 have hlx:=Yx l.Rows
 refine Con.of Tryz.func263 J Tryz.ntmps263 J (fun E => ?_)
 refine Wz [203,78] ?_;refine zx (Qj J J (Ya x 0 1000) J) J ?_;refine Wz [9,106] ?_;refine zx (Vz J (.hit .stop) (fun hgrd=>Qj J J (Ya y 0 1000) J)) J ?_;refine Wz [274,103] ?_
 refine Xb J (fun h => ?_) (fun h => ?_)
 ·have h:¬(0≤x∧x≤1000)∨¬(0≤y∧y≤1000):=by
   rw[←Za,←Za]
   simpa using h
  rw[K3 (out_hits hw h1 (by omega))]
  refine Wz [98] ?_
  exact Gb J (Gc [] J J J)
 have h:(0≤x∧x≤1000)∧(0≤y∧y≤1000):=by
  rw[←Za,←Za]
  simpa using h
 refine Wz [22,40,179,192] ?_;refine Xj (fun m__ st=>∃ (r:Nat),((y+s-1)/16+1).toNat-r=m__∧(y/16≤r∧(r:Int)≤(y+s-1)/16+1∧freeR l x s (y/16) r)∧st=(⟨_,[(1,I x),(2,I y),(3,I s),(4,.o (.c (.ptr 0 0))),(9,I r)],[.box ((Enc.e l).map (V1.rd []))]⟩:St)) _ ⟨(fun (r:Nat)=>(⟨_,[(1,I x),(2,I y),(3,I s),(4,.o (.c (.ptr 0 0))),(9,I r)],[.box ((Enc.e l).map (V1.rd []))]⟩:St)) ((y/16).toNat),⟨(y/16).toNat,J,⟨by omega,by omega,fun r c h1 h2=>by omega⟩,J⟩,Ga [0] J (by kernel_rfl) (.c J (.c J (.c J (.c J (.cons (Xz (by omega)) (.nil))))))⟩ ?_
 rintro m_A _ ⟨r,hk_A,hp_A,rfl⟩
 obtain⟨hr1,hr2,hfr⟩:=hp_A
 refine Wz [20,0,18,65,179,214,3] ?_
 refine Xb J (fun h5 => ?_) (fun h5 => ?_)
 ·have h5:=Gqe h5
  refine Wz [107,179,192] ?_;refine Xj (fun m__ st=>∃ (c:Nat),((x+s-1)/16+1).toNat-c=m__∧(x/16≤c∧(c:Int)≤(x+s-1)/16+1∧freeC l r (x/16) c)∧st=(⟨_,[(1,I x),(2,I y),(3,I s),(4,.o (.c (.ptr 0 0))),(9,I r),(10,I c)],[.box ((Enc.e l).map (V1.rd []))]⟩:St)) _ ⟨(fun (c:Nat)=>(⟨_,[(1,I x),(2,I y),(3,I s),(4,.o (.c (.ptr 0 0))),(9,I r),(10,I c)],[.box ((Enc.e l).map (V1.rd []))]⟩:St)) ((x/16).toNat),⟨(x/16).toNat,J,⟨by omega,by omega,fun c h1 h2=>by omega⟩,J⟩,Ga [0] J (by kernel_rfl) (.c J (.c J (.c J (.c J (.c J (.cons (Xz (by omega)) (.nil)))))))⟩ ?_
  rintro m_B _ ⟨c,hk_B,hp_B,rfl⟩
  obtain⟨hc1,hc2,hfc⟩:=hp_B
  refine Wz [20,0,18,65,179,214,3] ?_
  refine Xb J (fun h6 => ?_) (fun h6 => ?_)
  ·have h6:=Gqe h6
   by_cases hrl:r<l.Rows.length
   ·have hat:=Yv hrl
    have hb:decide (((els l.Rows).length:Int)≤r)=false:=Gqa (by omega)
    by_cases hcl:c<(l.Rows[r]).size
    ·have hb2:decide (((l.Rows[r]).size:Int)≤c)=false:=Gqa (by omega)
     by_cases h7:byteAt (l.Rows[r]) c=35
     ·have hb3:decide (byteAt (l.Rows[r]) (c:Int).toNat=35)=true:=Gqb h7
      rw[K3 ⟨(r:Int),(c:Int),hr1,by omega,hc1,by omega,wall_tile hrl h7⟩]
      refine Wz [107,16,7,143,19,136,31,110,1,221,1,72,1,143,6,54,31,110,1,221,1,31,158,1,257,6,29,26,191,69] ?_
      exact Gb J (Gc [] J J J)
     ·have hb3:decide (byteAt (l.Rows[r]) (c:Int).toNat=35)=false:=Gqa h7
      refine Wz [107,16,7,143,19,136,31,110,1,221,1,72,1,143,6,54,31,110,1,221,1,31,146,1,15,6,100] ?_
      refine⟨_,(by omega),_,⟨c+1,J,⟨by omega,by omega,free_col hfc (no_wall hrl hcl h7)⟩,J⟩,Gi [0]⟩
    ·have hb2:decide (((l.Rows[r]).size:Int)≤c)=true:=Gqb (by omega)
     rw[K3 ⟨(r:Int),(c:Int),hr1,by omega,hc1,by omega,fun q hq e g0 g1=>by have:q=r:=(by omega); subst this; omega⟩]
     refine Wz [107,16,7,143,19,136,31,110,1,221,1,72,1,143,6,45,161,112,26,191,69] ?_
     exact Gb J (Gc [] J J J)
   ·have hb:decide (((els l.Rows).length:Int)≤r)=true:=Gqb (by omega)
    rw[K3 ⟨(r:Int),(c:Int),hr1,by omega,hc1,by omega,fun q hq e g0 g1=>by omega⟩]
    refine Wz [107,16,7,143,45,161,25,45,161,112,26,191,69] ?_
    exact Gb J (Gc [] J J J)
  ·have h6:=Gqf h6
   refine Wz [162,163,129] ?_
   refine⟨_,(by omega),_,⟨r+1,J,⟨by omega,by omega,free_row hfr hfc (by omega)⟩,J⟩,Gi [0]⟩
 ·have h5:=Gqf h5
  rw[solidM_F (free_all hfr (by omega))]
  refine Wz [27,26,48] ?_
  exact Gb J (Gc [] J J J)
noncomputable def solidAt (l:TLevel) (x y s:Int):Bool:=(!inR s 1 16 || !levelOk l) || solidM l x y s
theorem I_SolidAt (l:TLevel) (x y s:Int) (hg:Enc.gd l) (hx:I64 x) (hy:I64 y):Con Tryz.prog 270 [] [ag l,ai x,ai y,ai s] [] (B (solidAt l x y s)):=by
 have hc:=Xu l hg
 by_cases hs:¬(1≤s∧s≤16)
 ·have hf:inR s 1 16=false:=by rw[←Gxp,Za]; exact hs
  rw[show solidAt l x y s=true by rw[solidAt,hf]; rfl]
  refine Con.of Tryz.func270 J Tryz.ntmps270 J (fun E => ?_)
  refine Wz [203,78,152,106,229,80,0] ?_;refine zx (Qt.grdF J J J .stop (fun hgrd=>Qu J J J J J J)) J ?_;refine zx (Vz J (.hit .stop) (fun hgrd=>Qj J J (hc) J)) J ?_;refine Wz [274,103] ?_
  refine Xb J (fun h => ?_) (fun h => ?_)
  ·refine Wz [98] ?_
   exact Gb J (Gc [] J J J)
  ·simp only[Gqn,decide_eq_false_iff_not] at h
   omega
 have hs:=Classical.not_not.1 hs
 have hb1:decide (s<1)=false:=Gqa (by omega)
 have hb2:decide (16<s)=false:=Gqa (by omega)
 cases ho:levelOk l with
 |false =>
  rw[ho] at hc
  rw[show solidAt l x y s=true by rw[solidAt,ho]; simp]
  refine Con.of Tryz.func270 J Tryz.ntmps270 J (fun E => ?_)
  refine Wz [203,148,19,86,6,31,92,1] ?_;refine zx (Qj J J (hc) J) J ?_;refine Wz [1,9,6,39] ?_
  exact Gb J (Gc [] J J J)
 |true =>
  rw[ho] at hc
  rw[show solidAt l x y s=solidM l x y s by rw[solidAt,ho,Za.2 hs]; rfl]
  have hd:=I_solid l x y s ho hx hy hs.1 hs.2
  refine Con.of Tryz.func270 J Tryz.ntmps270 J (fun E => ?_)
  refine Wz [203,148,19,86,6,31,92,1] ?_;refine zx (Qj J J (hc) J) J ?_;refine Wz [1,9,60,14,132,0] ?_;refine zx (Qj J J (hd) J) J ?_;refine Wz [17] ?_
  exact Gb J (Gc [] J J J)
end
section
open Go.RowKit

def tailM (b:TBody):Bool :=
 if b.Kind=0 then (decide (b.Aim=1∨b.Aim = -1)&&inR b.Life 0 3)&&(if b.Life=0 then inR b.Timer 1 20 else inR b.Timer 0 12)
 else if b.Kind=1 then decide (b.Aim=0∧b.Life=0)&&inR b.Timer 1 25
 else decide (b.Owner=0∧b.Aim=0∧b.Life=0∧b.Timer=0)
noncomputable def bodyM (l:TLevel) (n:Int) (b:TBody):Bool :=
 inR b.Kind 0 2&&(inR b.Owner 0 (n-1)&&(!solidM l b.X b.Y (sizeOf b.Kind)&&(inR b.VX (-15) 15&&(inR b.VY (-15) 15&&tailM b))))
theorem size_in {k:Int} (h:inR k 0 2=true):1≤sizeOf k∧sizeOf k≤16:=by
 have:=Za.1 h
 unfold sizeOf
 split
 ·omega
 ·split
  ·omega
  ·split <;> omega
theorem S_l02Body (l:TLevel) (n:Int) (b:TBody) (hg:Enc.gd l) (hl:levelOk l=true) (hb:Enc.gd b) (hn:0≤n∧n≤1099511627776):Con Tryz.prog 225 [] [ag l,ai n,ag b] [] (B (bodyM l n b)):=by
 obtain⟨b1,b2,b3,b4,b5,b6,b7,b8,b9⟩:=hb
 have h1:=Ya b.Kind 0 2
 have hsz:=S_SizeOf b.Kind
 have h2:=Ya b.Owner 0 (n-1)
 have h4:=Ya b.VX (-15) 15
 have h5:=Ya b.VY (-15) 15
 cases e1:inR b.Kind 0 2 with
 |false =>
  rw[e1] at h1
  rw[show bodyM l n b=false by rw[bodyM,e1]; rfl]
  refine Con.of Tryz.func225 J Tryz.ntmps225 J (fun E => ?_)
  refine Wz [130,8,8,222,28] ?_;refine Vk (Qj J J (h1) J) J ?_;refine Wz [147,5,61,258,113,5,61,61,193,113,5,61,113,5,61,113,21,39] ?_
  exact Gb J (Gc [] J J J)
 | true =>
  rw[e1] at h1
  cases e2:inR b.Owner 0 (n-1) with
  |false =>
   rw[e2] at h2
   rw[show bodyM l n b=false by rw[bodyM,e1,e2]; rfl]
   refine Con.of Tryz.func225 J Tryz.ntmps225 J (fun E => ?_)
   refine Wz [130,8,8,222,28] ?_;refine Vk (Qj J J (h1) J) J ?_;refine Wz [147,5,35,68,230] ?_;refine Vk (Qt.yes J J J (Qj J J (h2) J)) J ?_;refine Wz [170,90,5,61,61,193,113,5,61,113,5,61,113,21,39] ?_
   exact Gb J (Gc [] J J J)
  | true =>
   rw[e2] at h2
   have hs16:=size_in e1
   have h3:=S_l02Solid l b.X b.Y (sizeOf b.Kind) hl b3 b4 hs16.1 hs16.2
   cases e3:solidM l b.X b.Y (sizeOf b.Kind) with
   |true =>
    rw[e3] at h3
    rw[show bodyM l n b=false by rw[bodyM,e1,e2,e3]; rfl]
    refine Con.of Tryz.func225 J Tryz.ntmps225 J (fun E => ?_)
    refine Wz [130,8,8,222,28] ?_;refine Vk (Qj J J (h1) J) J ?_;refine Wz [147,5,35,68,230] ?_;refine Vk (Qt.yes J J J (Qj J J (h2) J)) J ?_;refine Wz [170,90,5,180,35,35,35] ?_;refine Vk (Qt.yes J J J (Qj J J (hsz) J)) J ?_;refine Vk (Qt.yes J J J (Qj J J (h3) J)) J ?_;refine Wz [90,5,61,113,5,61,113,21,39] ?_
    exact Gb J (Gc [] J J J)
   | false =>
    rw[e3] at h3
    cases e4:inR b.VX (-15) 15 with
    |false =>
     rw[e4] at h4
     rw[show bodyM l n b=false by rw[bodyM,e1,e2,e3,e4]; rfl]
     refine Con.of Tryz.func225 J Tryz.ntmps225 J (fun E => ?_)
     refine Wz [130,8,8,222,28] ?_;refine Vk (Qj J J (h1) J) J ?_;refine Wz [147,5,35,68,230] ?_;refine Vk (Qt.yes J J J (Qj J J (h2) J)) J ?_;refine Wz [170,90,5,180,35,35,35] ?_;refine Vk (Qt.yes J J J (Qj J J (hsz) J)) J ?_;refine Vk (Qt.yes J J J (Qj J J (h3) J)) J ?_;refine Wz [90,5,35] ?_;refine Vk (Qt.yes J J J (Qj J J (h4) J)) J ?_;refine Wz [170,90,5,61,113,21,39] ?_
     exact Gb J (Gc [] J J J)
    | true =>
     rw[e4] at h4
     cases e5:inR b.VY (-15) 15 with
     |false =>
      rw[e5] at h5
      rw[show bodyM l n b=false by rw[bodyM,e1,e2,e3,e4,e5]; rfl]
      refine Con.of Tryz.func225 J Tryz.ntmps225 J (fun E => ?_)
      refine Wz [130,8,8,222,28] ?_;refine Vk (Qj J J (h1) J) J ?_;refine Wz [147,5,35,68,230] ?_;refine Vk (Qt.yes J J J (Qj J J (h2) J)) J ?_;refine Wz [170,90,5,180,35,35,35] ?_;refine Vk (Qt.yes J J J (Qj J J (hsz) J)) J ?_;refine Vk (Qt.yes J J J (Qj J J (h3) J)) J ?_;refine Wz [90,5,35] ?_;refine Vk (Qt.yes J J J (Qj J J (h4) J)) J ?_;refine Wz [170,90,5,35] ?_;refine Vk (Qt.yes J J J (Qj J J (h5) J)) J ?_;refine Wz [170,90,21,39] ?_
      exact Gb J (Gc [] J J J)
     | true =>
      rw[e5] at h5
      rw[show bodyM l n b=tailM b by rw[bodyM,e1,e2,e3,e4,e5]; rfl]
      by_cases k0:b.Kind=0
      ·have hk:decide (b.Kind=0)=true:=Gqb k0
       refine Con.of Tryz.func225 J Tryz.ntmps225 J (fun E => ?_)
       refine Wz [130,8,8,222,28] ?_;refine Vk (Qj J J (h1) J) J ?_;refine Wz [147,5,35,68,230] ?_;refine Vk (Qt.yes J J J (Qj J J (h2) J)) J ?_;refine Wz [170,90,5,180,35,35,35] ?_;refine Vk (Qt.yes J J J (Qj J J (hsz) J)) J ?_;refine Vk (Qt.yes J J J (Qj J J (h3) J)) J ?_;refine Wz [90,5,35] ?_;refine Vk (Qt.yes J J J (Qj J J (h4) J)) J ?_;refine Wz [170,90,5,35] ?_;refine Vk (Qt.yes J J J (Qj J J (h5) J)) J ?_;refine Wz [170,90,21,41,42,3,44,4,15,2,83,42,150,0,133,134] ?_;refine zx (Qt.grdT J J J (.hit (.hit .stop)) (fun hgrd=>Kj J J J J)) J ?_;refine Wz [79,111] ?_;refine zx (Vz J (.hit (.hit .stop)) (fun hgrd=>Qj J J (Ya b.Life 0 3) J)) J ?_;refine Wz [139,103] ?_
       refine Xb J (fun h => ?_) (fun h => ?_)
       ·rw[show tailM b=false by
         rw[tailM,if_pos k0]
         simp only[Gqr,Gqi,decide_eq_true_eq,Gq7] at h
         rcases h with h | h
         ·rw[Gqa (by omega)]; rfl
         ·rw[h]; simp]
        refine Wz [26,62,64] ?_
        exact Gb J (Gc [] J J J)
       simp only[Gqn,Gxn,decide_eq_false_iff_not,Gq4] at h
       have ht:tailM b=if b.Life=0 then inR b.Timer 1 20 else inR b.Timer 0 12:=by
        rw[tailM,if_pos k0,Gqb (by omega),h.2]; rfl
       by_cases l0:b.Life=0
       ·have hk2:decide (b.Life=0)=true:=Gqb l0
        rw[ht,if_pos l0]
        refine Wz [22,42,15,29,23] ?_;refine zx (Qj J J (Ya b.Timer 1 20) J) J ?_;refine Wz [135,62,64] ?_
        exact Gb J (Gc [] J J J)
       ·have hk2:decide (b.Life=0)=false:=Gqa l0
        rw[ht,if_neg l0]
        refine Wz [22,42,15,41,23] ?_;refine zx (Qj J J (Ya b.Timer 0 12) J) J ?_;refine Wz [135,174,64] ?_
        exact Gb J (Gc [] J J J)
      have hk:decide (b.Kind=0)=false:=Gqa k0
      by_cases k1:b.Kind=1
      ·have hk1:decide (b.Kind=1)=true:=Gqb k1
       refine Con.of Tryz.func225 J Tryz.ntmps225 J (fun E => ?_)
       refine Wz [130,8,8,222,28] ?_;refine Vk (Qj J J (h1) J) J ?_;refine Wz [147,5,35,68,230] ?_;refine Vk (Qt.yes J J J (Qj J J (h2) J)) J ?_;refine Wz [170,90,5,180,35,35,35] ?_;refine Vk (Qt.yes J J J (Qj J J (hsz) J)) J ?_;refine Vk (Qt.yes J J J (Qj J J (h3) J)) J ?_;refine Wz [90,5,35] ?_;refine Vk (Qt.yes J J J (Qj J J (h4) J)) J ?_;refine Wz [170,90,5,35] ?_;refine Vk (Qt.yes J J J (Qj J J (h5) J)) J ?_;refine Wz [170,90,21,41,42,3,44,4,15,108,4,15,2,83,23,186,0,133,134,190,79,0,133,134] ?_;refine zx (Qt.grdT J J J (.hit (.hit .stop)) (fun hgrd=>Qj J J (Ya b.Timer 1 25) J)) J ?_;refine Wz [79,135,174,64] ?_
       exact Gb J (Gc [] J J (Xk (by rw[tailM,if_neg k0,if_pos k1,←Bool.decide_and])))
      ·have hk1:decide (b.Kind=1)=false:=Gqa k1
       refine Con.of Tryz.func225 J Tryz.ntmps225 J (fun E => ?_)
       refine Wz [130,8,8,222,28] ?_;refine Vk (Qj J J (h1) J) J ?_;refine Wz [147,5,35,68,230] ?_;refine Vk (Qt.yes J J J (Qj J J (h2) J)) J ?_;refine Wz [170,90,5,180,35,35,35] ?_;refine Vk (Qt.yes J J J (Qj J J (hsz) J)) J ?_;refine Vk (Qt.yes J J J (Qj J J (h3) J)) J ?_;refine Wz [90,5,35] ?_;refine Vk (Qt.yes J J J (Qj J J (h4) J)) J ?_;refine Wz [170,90,5,35] ?_;refine Vk (Qt.yes J J J (Qj J J (h5) J)) J ?_;refine Wz [170,90,21,41,42,3,44,4,15,108,4,15,108,157,122,23,186,0,133,134,190,79,0,133,134,190,79,0,133,134,190,79,17] ?_
       exact Gb J (Gc [] J J (Xk (by rw[tailM,if_neg k0,if_neg k1]; simp only[Bool.decide_and,Bool.and_assoc])))
theorem I_BodyOk (l:TLevel) (n:Int) (b:TBody) (hg:Enc.gd l) (hb:Enc.gd b) (hn:0≤n∧n≤1099511627776):Con Tryz.prog 238 [] [ag l,ai n,ag b] [] (B (levelOk l&&bodyM l n b)):=by
 obtain⟨b1,b2,b3,b4,b5,b6,b7,b8,b9⟩:=hb
 have hc:=Xu l hg
 cases hl:levelOk l with
 |false =>
  rw[hl] at hc
  rw[Bool.false_and]
  refine Con.of Tryz.func238 J Tryz.ntmps238 J (fun E => ?_)
  refine Wz [130,55] ?_;refine zx (Qj J J (hc) J) J ?_;refine Wz [9,0,57,70,25,0,57,70,25,39] ?_
  exact Gb J (Gc [] J J J)
 | true =>
  rw[hl] at hc
  rw[Bool.true_and]
  refine Con.of Tryz.func238 J Tryz.ntmps238 J (fun E => ?_)
  refine Wz [130,55] ?_;refine zx (Qj J J (hc) J) J ?_;refine Wz [9,54,152,6,111] ?_;refine zx (Vz J (.hit (.hit .stop)) (fun hgrd=>Z9 J J J J)) J ?_;refine Wz [103] ?_
  refine Xb J (fun h => ?_) (fun h => ?_)
  ·simp only[Gqr,decide_eq_true_eq] at h
   have e1:inR b.Kind 0 2=false:=by rw[←Gxp,Za]; omega
   rw[show bodyM l n b=false by rw[bodyM,e1]; rfl]
   refine Wz [98] ?_
   exact Gb J (Gc [] J J J)
  simp only[Gqn,decide_eq_false_iff_not] at h
  have e1:inR b.Kind 0 2=true:=Za.2 (by omega)
  have hs16:=size_in e1
  refine Wz [22,42,152,111,235] ?_;refine zx (Vz J (.hit (.hit (.hit .stop))) (fun hgrd=>q_geq J J J J)) J ?_;refine Wz [80,111] ?_;refine zx (Vz J (.hit (.hit .stop)) (fun hgrd=>Z5 J J J J)) J ?_;refine zx (Vz J (.hit (.hit (.hit .stop))) (fun hgrd=>Qa J J J)) J ?_;refine zx (Qt.grd2T J J J (.hit1 (.hit1 (.hit1 (.hit1 .stop)))) (fun hgrd hgrd2=>Qf J J J J (by decide))) J ?_;refine zx (Qt.grd2T J J J (.hit (.hit1 (.hit1 (.hit1 (.hit1 .stop))))) (fun hgrd hgrd2=>Qg J J J J J)) J ?_;refine zx (Qt.grd2T J J J (.hit (.hit (.hit1 (.hit1 (.hit1 (.hit1 .stop)))))) (fun hgrd hgrd2=>Kj J J J J)) J ?_;refine zx (Vz J (.part (.part (.part (.hit (.hit (.hit (.hit .stop))))))) (fun hgrd=>Zt J J J J)) J ?_;refine Wz [103] ?_
  refine Xb J (fun h2 => ?_) (fun h2 => ?_)
  ·simp only[Gqr,Gqi,decide_eq_true_eq] at h2
   rw[show bodyM l n b=false by
    by_cases ho:0≤b.Owner∧b.Owner≤n-1
    ·have hk:b.Kind=2∧b.Owner≠0:=by omega
     have ht:tailM b=false:=by rw[tailM,if_neg (by omega),if_neg (by omega),Gqa (fun hh=>hk.2 hh.1)]
     rw[bodyM,ht]; simp
    ·have e2:inR b.Owner 0 (n-1)=false:=by rw[←Gxp,Za]; exact ho
     rw[bodyM,e2]; simp]
   refine Wz [98] ?_
   exact Gb J (Gc [] J J J)
  simp only[Gqn,Gxn,decide_eq_false_iff_not] at h2
  have e2:inR b.Owner 0 (n-1)=true:=Za.2 (by omega)
  have hsz:=I_SizeOf b.Kind
  have h3:=I_SolidAt l b.X b.Y (sizeOf b.Kind) hg b3 b4
  rw[show solidAt l b.X b.Y (sizeOf b.Kind)=solidM l b.X b.Y (sizeOf b.Kind) by rw[solidAt,hl,Za.2 hs16]; rfl] at h3
  cases e3:solidM l b.X b.Y (sizeOf b.Kind) with
  |true =>
   rw[e3] at h3
   rw[show bodyM l n b=false by rw[bodyM,e1,e2,e3]; rfl]
   refine Wz [22,8,8] ?_;refine Xi u8_9 u8_10 u8_11 J ?_;refine Wz [114,28,28,28] ?_;refine Vk (Qj J J (hsz) J) J ?_;refine Vk (Qj J J (h3) J) J ?_;refine Wz [21,39] ?_
   exact Gb J (Gc [] J J J)
  | false =>
   rw[e3] at h3
   refine Wz [22,8,8] ?_;refine Xi u8_9 u8_10 u8_11 J ?_;refine Wz [114,28,28,28] ?_;refine Vk (Qj J J (hsz) J) J ?_;refine Vk (Qj J J (h3) J) J ?_;refine Wz [21,41,42] ?_;refine zx (Qj J J (Xx b.VX (-15) 15) J) J ?_;refine Wz [9,111] ?_;refine zx (Vz J (.hit (.hit .stop)) (fun hgrd=>Qj J J (Xx b.VY (-15) 15) J)) J ?_;refine Wz [139,103] ?_
   refine Xb J (fun h4 => ?_) (fun h4 => ?_)
   ·simp only[Gqr,Gq7] at h4
    rw[show bodyM l n b=false by rw[bodyM]; rcases h4 with h4 | h4 <;> rw[h4] <;> simp]
    refine Wz [98] ?_
    exact Gb J (Gc [] J J J)
   simp only[Gqn,Gq4] at h4
   rw[show bodyM l n b=tailM b by rw[bodyM,e1,e2,e3,h4.1,h4.2]; rfl]
   by_cases k0:b.Kind=0
   ·have hk:decide (b.Kind=0)=true:=Gqb k0
    refine Wz [22,42,15,29,42,150,0,133,134] ?_;refine zx (Qt.grdT J J J (.hit (.hit .stop)) (fun hgrd=>Kj J J J J)) J ?_;refine Wz [79,111] ?_;refine zx (Vz J (.hit (.hit .stop)) (fun hgrd=>Qj J J (Xx b.Life 0 3) J)) J ?_;refine Wz [139,103] ?_
    refine Xb J (fun h => ?_) (fun h => ?_)
    ·rw[show tailM b=false by
      rw[tailM,if_pos k0]
      simp only[Gqr,Gqi,decide_eq_true_eq,Gq7] at h
      rcases h with h | h
      ·rw[Gqa (by omega)]; rfl
      ·rw[h]; simp]
     refine Wz [26,220,64] ?_
     exact Gb J (Gc [] J J J)
    simp only[Gqn,Gxn,decide_eq_false_iff_not,Gq4] at h
    have hlf:=Za.1 h.2
    have ht:tailM b=if b.Life=0 then inR b.Timer 1 20 else inR b.Timer 0 12:=by
     rw[tailM,if_pos k0,Gqb (by omega),h.2]; rfl
    by_cases l0:b.Life=0
    ·have hk2:decide (0<b.Life)=false:=Gqa (by omega)
     rw[ht,if_pos l0]
     refine Wz [22,42,86,41,23] ?_;refine zx (Qj J J (Xx b.Timer 1 20) J) J ?_;refine Wz [137] ?_
     exact Gb J (Gc [] J J J)
    ·have hk2:decide (0<b.Life)=true:=Gqb (by omega)
     rw[ht,if_neg l0]
     refine Wz [22,42,86,29,23] ?_;refine zx (Qj J J (Xx b.Timer 0 12) J) J ?_;refine Wz [135,220,64] ?_
     exact Gb J (Gc [] J J J)
   have hk:decide (b.Kind=0)=false:=Gqa k0
   refine Wz [22,42,15,41,42,150,111] ?_;refine zx (Vz J (.hit (.hit .stop)) (fun hgrd=>Kj J J J J)) J ?_;refine Wz [103] ?_
   refine Xb J (fun h5 => ?_) (fun h5 => ?_)
   ·simp only[Gqr,decide_eq_true_eq] at h5
    rw[show tailM b=false by
     rw[tailM,if_neg k0]
     split
     ·rw[Gqa (by omega)]; rfl
     ·exact Gqa (by omega)]
    refine Wz [98] ?_
    exact Gb J (Gc [] J J J)
   simp only[Gqn,decide_eq_false_iff_not] at h5
   by_cases k1:b.Kind=1
   ·have hk1:decide (b.Kind=1)=true:=Gqb k1
    rw[show tailM b=inR b.Timer 1 25 by rw[tailM,if_neg k0,if_pos k1,Gqb (by omega)]; rfl]
    refine Wz [22,42,15,29,23] ?_;refine zx (Qj J J (Xx b.Timer 1 25) J) J ?_;refine Wz [137] ?_
    exact Gb J (Gc [] J J J)
   ·have hk1:decide (b.Kind=1)=false:=Gqa k1
    rw[show tailM b=decide (b.Timer=0) by rw[tailM,if_neg k0,if_neg k1]; exact decide_eq_decide.2 (by omega)]
    refine Wz [22,42,15,41,23,186,17] ?_
    exact Gb J (Gc [] J J J)
end
section
open Go.RowKit

noncomputable def bodyAt (l:TLevel) (n k:Nat) (b:TBody):Bool:=bodyM l n b&&(if k<n then decide (b.Kind=0∧b.Owner=k) else decide (b.Kind≠0))
def bodiesOk (l:TLevel) (n:Nat) (bs:List TBody):Prop:=∀ (k:Nat) (hk:k<bs.length),bodyAt l n k bs[k]=true
def scoresOk (ss:List Int):Bool:=ss.all fun x=>inR x 0 1000000
noncomputable def worldOk (w:TWorld):Bool:=@decide (levelOk w.Level=true∧inR w.Tick 0 100000=true∧inR w.Seed 0 65535=true∧(1≤w.Scores.length∧w.Scores.length≤4)∧scoresOk w.Scores=true∧(w.Scores.length≤w.Bodies.length∧w.Bodies.length≤24)∧bodiesOk w.Level w.Scores.length w.Bodies) (Classical.propDecidable _)
theorem worldOk_T {w:TWorld} (h:levelOk w.Level=true∧inR w.Tick 0 100000=true∧inR w.Seed 0 65535=true∧(1≤w.Scores.length∧w.Scores.length≤4)∧scoresOk w.Scores=true∧(w.Scores.length≤w.Bodies.length∧w.Bodies.length≤24)∧bodiesOk w.Level w.Scores.length w.Bodies):worldOk w=true:=@decide_eq_true _ (Classical.propDecidable _) h
theorem Ve {w:TWorld} (h:¬(levelOk w.Level=true∧inR w.Tick 0 100000=true∧inR w.Seed 0 65535=true∧(1≤w.Scores.length∧w.Scores.length≤4)∧scoresOk w.Scores=true∧(w.Scores.length≤w.Bodies.length∧w.Bodies.length≤24)∧bodiesOk w.Level w.Scores.length w.Bodies)):worldOk w=false:=@decide_eq_false _ (Classical.propDecidable _) h
theorem Vf {w:TWorld} (h:worldOk w=true):levelOk w.Level=true∧inR w.Tick 0 100000=true∧inR w.Seed 0 65535=true∧(1≤w.Scores.length∧w.Scores.length≤4)∧scoresOk w.Scores=true∧(w.Scores.length≤w.Bodies.length∧w.Bodies.length≤24)∧bodiesOk w.Level w.Scores.length w.Bodies:=@of_decide_eq_true _ (Classical.propDecidable _) h
theorem score_no {ss:List Int} {k:Nat} (h:k<ss.length) (hn:inR ss[k] 0 1000000=false):scoresOk ss=false:=by
 rw[scoresOk,←Gxp,Gqm]
 intro hh
 rw[hh _ (Gqj h)] at hn
 cases hn
theorem Xw (x:TWorld) (hg:Enc.gd x):Con Tryz.prog 193 [] [ag x] [] (B (worldOk x)):=by
 obtain⟨gL,gT,gS,gSc,gB⟩:=hg
 have g1:=gSc.1
 have g2:=gB.1
 have hls:=Yx x.Scores
 have hlb:=Yx x.Bodies
 have hc:=Xu x.Level gL
 refine Con.of Tryz.func193 J Tryz.ntmps193 J (fun E => ?_)
 refine Wz [82,211] ?_;refine zx (Qj J J (hc) J) J ?_;refine Wz [9,111] ?_;refine zx (Vz J (.hit (.hit .stop)) (fun hgrd=>Qj J J (Xx x.Tick 0 100000) J)) J ?_;refine Wz [139,80,111] ?_;refine zx (Vz J (.hit (.hit .stop)) (fun hgrd=>Qj J J (Xx x.Seed 0 65535) J)) J ?_;refine Wz [139,103] ?_
 refine Xb J (fun h => ?_) (fun h => ?_)
 ·simp only[Gqr,Gq7] at h
  rw[Ve (fun hh=>by rcases h with (h | h) | h; rw[hh.1] at h; cases h; rw[hh.2.1] at h; cases h; rw[hh.2.2.1] at h; cases h)]
  refine Wz [98] ?_
  exact Gb J (Gc [] J J J)
 simp only[Gqn,Gq4] at h
 obtain⟨⟨hL,hT⟩,hS⟩:=h
 refine Wz [22,23,7,78,152,106,229,103] ?_
 refine Xb J (fun h => ?_) (fun h => ?_)
 ·simp only[Gqr,decide_eq_true_eq] at h
  rw[Ve (fun hh=>by have:=hh.2.2.2.1; omega)]
  refine Wz [98] ?_
  exact Gb J (Gc [] J J J)
 simp only[Gqn,decide_eq_false_iff_not] at h
 refine Wz [22,42,7,142,44] ?_;refine Xj (fun m st=>∃ k:Nat,k+m=x.Scores.length∧((x.Scores.take k).all (fun y=>inR y 0 1000000)=true)∧st=(⟨_,[(1,.o (.c (.ptr 0 0))),(3,I (els x.Scores).length),(34,L x.Scores),(35,I (els x.Scores).length),(36,I k)],[.box ((Enc.e x).map (V1.rd []))]⟩:St)) (x.Scores.length) ⟨_,⟨0,by omega,by simp,J⟩,Gi [0]⟩ ?_
 rintro m_A _ ⟨k,hk_A,hp_A,rfl⟩
 refine Wz [4,37,8] ?_
 refine Xb J (fun h3 => ?_) (fun h3 => ?_)
 ·have h3:k<x.Scores.length:=by have:=Gqe h3; omega
  have hat:=Yv h3
  cases e:inR x.Scores[k] 0 1000000 with
  |false =>
   have hb:=Xx x.Scores[k] 0 1000000
   rw[e] at hb
   rw[Ve (fun hh=>by have h9:=hh.2.2.2.2.1; rw[score_no h3 e] at h9; cases h9)]
   refine Wz [11,4,59,49] ?_;refine zx (Qj J J (hb) J) J ?_;refine Wz [9,29,26,69] ?_
   exact Gb J (Gc [] J J J)
  |true =>
   have hb:=Xx x.Scores[k] 0 1000000
   rw[e] at hb
   refine Wz [11,4,59,49] ?_;refine zx (Qj J J (hb) J) J ?_;refine Wz [9,140,93] ?_
   exact⟨x.Scores.length-(k+1),by omega,_,⟨k+1,by omega,Yi hp_A h3 e,J⟩,Gi [0]⟩
 have h3:¬k<x.Scores.length:=by have:=Gqf h3; omega
 have hall:scoresOk x.Scores=true:=G4 hp_A
 refine Wz [27,42,7,0,152,111,209,255,103] ?_
 refine Xb J (fun h5 => ?_) (fun h5 => ?_)
 ·simp only[Gqr,decide_eq_true_eq] at h5
  rw[Ve (fun hh=>by have:=hh.2.2.2.2.2.1; omega)]
  refine Wz [98] ?_
  exact Gb J (Gc [] J J J)
 simp only[Gqn,decide_eq_false_iff_not] at h5
 refine Wz [22,42,7,142,44] ?_;refine Xj (fun m st=>∃ k:Nat,k+m=x.Bodies.length∧((∀ (j:Nat) (hj:j<x.Bodies.length),j<k→bodyAt x.Level x.Scores.length j x.Bodies[j]=true))∧st=(⟨_,[(1,.o (.c (.ptr 0 0))),(3,I (els x.Scores).length),(56,L x.Bodies),(57,I (els x.Bodies).length),(58,I k)],[.box ((Enc.e x).map (V1.rd []))]⟩:St)) (x.Bodies.length) ⟨_,⟨0,by omega,fun j hj h0=>by omega,J⟩,Gi [0]⟩ ?_
 rintro m_C _ ⟨k,hk_C,hp_C,rfl⟩
 refine Wz [4,37,8] ?_
 refine Xb J (fun h6 => ?_) (fun h6 => ?_)
 ·have h6:k<x.Bodies.length:=by have:=Gqe h6; omega
  have hat:=Yv h6
  have gb:=gB.2 _ (Gqj h6)
  have hb:=I_BodyOk x.Level (els x.Scores).length x.Bodies[k] gL gb (by omega)
  rw[hL,Bool.true_and] at hb
  have hlen:((els x.Scores).length:Int)=(x.Scores.length:Int):=by rw[hls]
  cases e:bodyM x.Level (els x.Scores).length x.Bodies[k] with
  |false =>
   rw[e] at hb
   rw[Ve (fun hh=>by have h9:=hh.2.2.2.2.2.2 k h6; rw[bodyAt,←hlen,e] at h9; cases h9)]
   refine Wz [107,110,131,66,38,56,211,0,92] ?_;refine zx (Qj J J (hb) J) J ?_;refine Wz [9,29,26,62,145,64] ?_
   exact Gb J (Gc [] J J J)
  | true =>
   rw[e] at hb
   rw[hlen] at e
   by_cases hkn:(k:Int)<(els x.Scores).length
   ·have hd:decide ((k:Int)<(els x.Scores).length)=true:=Gqb hkn
    have hd2:decide (((els x.Scores).length:Int)≤k)=false:=Gqa (by omega)
    refine Wz [107,110,131,66,38,56,211,0,92] ?_;refine zx (Qj J J (hb) J) J ?_;refine Wz [73,20,12,54,150,1,111,235] ?_;refine zx (Vz J (.hit (.hit (.hit .stop))) (fun hgrd=>Kj J J J J)) J ?_;refine Wz [1,80,25,3] ?_
    refine Xb J (fun h7 => ?_) (fun h7 => ?_)
    ·simp only[Gqr,decide_eq_true_eq] at h7
     rw[Ve (fun hh=>by have h9:=hh.2.2.2.2.2.2 k h6; rw[bodyAt,e,if_pos (by omega)] at h9; have:=Gqe h9; omega)]
     refine Wz [26,62,145,64] ?_
     exact Gb J (Gc [] J J J)
    ·simp only[Gqn,decide_eq_false_iff_not] at h7
     refine Wz [22,13,143,0,57,70,6,140,93] ?_
     exact⟨x.Bodies.length-(k+1),by omega,_,⟨k+1,by omega,fun j hj h0=>by by_cases hjk:j=k; subst hjk; rw[bodyAt,e,if_pos (by omega)]; exact Gqb (by omega); exact hp_C j hj (by omega),J⟩,Gi [0]⟩
   ·have hd:decide ((k:Int)<(els x.Scores).length)=false:=Gqa hkn
    have hd2:decide (((els x.Scores).length:Int)≤k)=true:=Gqb (by omega)
    by_cases k0:x.Bodies[k].Kind=0
    ·have hd3:decide (x.Bodies[k].Kind=0)=true:=Gqb k0
     rw[Ve (fun hh=>by have h9:=hh.2.2.2.2.2.2 k h6; rw[bodyAt,e,if_neg (by omega)] at h9; have:=Gqe h9; omega)]
     refine Wz [107,110,131,66,38,56,211,0,92] ?_;refine zx (Qj J J (hb) J) J ?_;refine Wz [73,20,12,45,116,116,116,116,70,60,13,143,54,15,112,26,69] ?_
     exact Gb J (Gc [] J J J)
    ·have hd3:decide (x.Bodies[k].Kind=0)=false:=Gqa k0
     refine Wz [107,110,131,66,38,56,211,0,92] ?_;refine zx (Qj J J (hb) J) J ?_;refine Wz [73,20,12,45,116,116,116,116,70,60,13,143,54,15,25,140,93] ?_
     exact⟨x.Bodies.length-(k+1),by omega,_,⟨k+1,by omega,fun j hj h0=>by by_cases hjk:j=k; subst hjk; rw[bodyAt,e,if_neg (by omega)]; exact Gqb k0; exact hp_C j hj (by omega),J⟩,Gi [0]⟩
 have h6:¬k<x.Bodies.length:=by have:=Gqf h6; omega
 rw[worldOk_T ⟨hL,hT,hS,by omega,hall,by omega,fun j hj=>hp_C j hj (by omega)⟩]
 refine Wz [27,26,48] ?_
 exact Gb J (Gc [] J J J)
theorem S_WorldOk (x:TWorld) (hg:Enc.gd x):Con Tryz.prog 157 [] [ag x] [] (B (worldOk x)):=by
 obtain⟨gL,gT,gS,gSc,gB⟩:=hg
 have g1:=gSc.1
 have g2:=gB.1
 have hls:=Yx x.Scores
 have hlb:=Yx x.Bodies
 have hc:=S_LevelOk x.Level gL
 refine Con.of Tryz.func157 J Tryz.ntmps157 J (fun E => ?_)
 refine Wz [82,23,7,2,211] ?_;refine zx (Qj J J (hc) J) J ?_;refine Wz [9,111] ?_;refine zx (Vz J (.hit (.hit .stop)) (fun hgrd=>Qj J J (Ya x.Tick 0 100000) J)) J ?_;refine Wz [139,80,111] ?_;refine zx (Vz J (.hit (.hit .stop)) (fun hgrd=>Qj J J (Ya x.Seed 0 65535) J)) J ?_;refine Wz [139,80,106] ?_;refine zx (Vz J (.hit .stop) (fun hgrd=>Qj J J (Ya (els x.Scores).length 1 4) J)) J ?_;refine Wz [274,80,111,209,259] ?_;refine zx (Vz J (.hit (.hit (.hit (.hit .stop)))) (fun hgrd=>Qj J J (Ya (els x.Bodies).length (els x.Scores).length 24) J)) J ?_;refine zx (Vz J (.hit (.hit (.hit (.hit (.hit .stop))))) (fun hgrd=>Q4 J J J)) J ?_;refine Wz [103] ?_
 refine Xb J (fun h => ?_) (fun h => ?_)
 ·simp only[Gqr,Gq7] at h
  rw[Ve (fun hh=>by rcases h with (((h | h) | h) | h) | h; rw[hh.1] at h; cases h; rw[hh.2.1] at h; cases h; rw[hh.2.2.1] at h; cases h; rw[←Gxp,Za] at h; have:=hh.2.2.2.1; omega; rw[←Gxp,Za] at h; have:=hh.2.2.2.2.2.1; omega)]
  refine Wz [98] ?_
  exact Gb J (Gc [] J J J)
 simp only[Gqn,Gq4] at h
 obtain⟨⟨⟨⟨hL,hT⟩,hS⟩,hN⟩,hB⟩:=h
 have hN:=Za.1 hN
 have hB:=Za.1 hB
 refine Wz [22,46] ?_;refine Xj (fun m st=>∃ k:Nat,k+m=x.Scores.length∧((x.Scores.take k).all (fun y=>inR y 0 1000000)=true)∧st=(⟨_,[(1,.o (.c (.ptr 0 0))),(3,I (els x.Scores).length),(4,I k)],[.box ((Enc.e x).map (V1.rd []))]⟩:St)) (x.Scores.length) ⟨_,⟨0,by omega,by simp,J⟩,Gi [0]⟩ ?_
 rintro m_A _ ⟨k,hk_A,hp_A,rfl⟩
 refine Wz [20,37] ?_
 refine Xb J (fun h3 => ?_) (fun h3 => ?_)
 ·have h3:k<x.Scores.length:=by have:=Gqe h3; omega
  have hat:=Yv h3
  have hb:=Ya x.Scores[k] 0 1000000
  cases e:inR x.Scores[k] 0 1000000 with
  |false =>
   rw[e] at hb
   rw[Ve (fun hh=>by have h9:=hh.2.2.2.2.1; rw[score_no h3 e] at h9; cases h9)]
   refine Wz [11,52,59] ?_;refine zx (Qj J J (hb) J) J ?_;refine Wz [9,29,26,69] ?_
   exact Gb J (Gc [] J J J)
  |true =>
   rw[e] at hb
   refine Wz [11,52,59] ?_;refine zx (Qj J J (hb) J) J ?_;refine Wz [9,100] ?_
   exact⟨x.Scores.length-(k+1),by omega,_,⟨k+1,by omega,Yi hp_A h3 e,J⟩,Gi [0]⟩
 have h3:¬k<x.Scores.length:=by have:=Gqf h3; omega
 have hall:scoresOk x.Scores=true:=G4 hp_A
 refine Wz [27,46] ?_;refine Xj (fun m st=>∃ k:Nat,k+m=x.Bodies.length∧((∀ (j:Nat) (hj:j<x.Bodies.length),j<k→bodyAt x.Level x.Scores.length j x.Bodies[j]=true))∧st=(⟨_,[(1,.o (.c (.ptr 0 0))),(3,I (els x.Scores).length),(5,I k)],[.box ((Enc.e x).map (V1.rd []))]⟩:St)) (x.Bodies.length) ⟨_,⟨0,by omega,fun j hj h0=>by omega,J⟩,Gi [0]⟩ ?_
 rintro m_C _ ⟨k,hk_C,hp_C,rfl⟩
 refine Wz [40,16,7,37] ?_
 refine Xb J (fun h6 => ?_) (fun h6 => ?_)
 ·have h6:k<x.Bodies.length:=by have:=Gqe h6; omega
  have hat:=Yv h6
  have gb:=gB.2 _ (Gqj h6)
  have hb:=S_l02Body x.Level (els x.Scores).length x.Bodies[k] gL hL gb (by omega)
  have hlen:((els x.Scores).length:Int)=(x.Scores.length:Int):=by rw[hls]
  cases e:bodyM x.Level (els x.Scores).length x.Bodies[k] with
  |false =>
   rw[e] at hb
   rw[Ve (fun hh=>by have h9:=hh.2.2.2.2.2.2 k h6; rw[bodyAt,←hlen,e] at h9; cases h9)]
   refine Wz [11,52,110,131,94,120,92] ?_;refine zx (Qj J J (hb) J) J ?_;refine Wz [9,45,57,70,25,45,116,116,116,116,70,112,26,69] ?_
   exact Gb J (Gc [] J J J)
  | true =>
   rw[e] at hb
   rw[hlen] at e
   by_cases hkn:(k:Int)<(els x.Scores).length
   ·have hd:decide ((k:Int)<(els x.Scores).length)=true:=Gqb hkn
    by_cases k0:x.Bodies[k].Kind=0
    ·have hd3:decide (x.Bodies[k].Kind=0)=true:=Gqb k0
     by_cases ho:x.Bodies[k].Owner≠(k:Int)
     ·have hd4:decide (x.Bodies[k].Owner≠(k:Int))=true:=Gqb ho
      rw[Ve (fun hh=>by have h9:=hh.2.2.2.2.2.2 k h6; rw[bodyAt,e,if_pos (by omega)] at h9; have:=Gqe h9; omega)]
      refine Wz [11,52,110,131,94,120,92] ?_;refine zx (Qj J J (hb) J) J ?_;refine Wz [9,54,15,1,19,12,1,260,6,81,12,1,54,31,24,1,25,6,29,26,69] ?_
      exact Gb J (Gc [] J J J)
     ·have hd4:decide (x.Bodies[k].Owner≠(k:Int))=false:=Gqa ho
      refine Wz [11,52,110,131,94,120,92] ?_;refine zx (Qj J J (hb) J) J ?_;refine Wz [9,54,15,1,19,12,1,260,6,81,12,1,54,31,24,1,25,6,100] ?_
      exact⟨x.Bodies.length-(k+1),by omega,_,⟨k+1,by omega,fun j hj h0=>by by_cases hjk:j=k; subst hjk; rw[bodyAt,e,if_pos (by omega)]; exact Gqb (by omega); exact hp_C j hj (by omega),J⟩,Gi [0]⟩
    ·have hd3:decide (x.Bodies[k].Kind=0)=false:=Gqa k0
     rw[Ve (fun hh=>by have h9:=hh.2.2.2.2.2.2 k h6; rw[bodyAt,e,if_pos (by omega)] at h9; have:=Gqe h9; omega)]
     refine Wz [11,52,110,131,94,120,92] ?_;refine zx (Qj J J (hb) J) J ?_;refine Wz [9,54,15,1,19,12,1,260,6,45,116,116,116,116,70,112,26,69] ?_
     exact Gb J (Gc [] J J J)
   ·have hd:decide ((k:Int)<(els x.Scores).length)=false:=Gqa hkn
    by_cases k0:x.Bodies[k].Kind=0
    ·have hd3:decide (x.Bodies[k].Kind=0)=true:=Gqb k0
     rw[Ve (fun hh=>by have h9:=hh.2.2.2.2.2.2 k h6; rw[bodyAt,e,if_neg (by omega)] at h9; have:=Gqe h9; omega)]
     refine Wz [11,52,110,131,94,120,92] ?_;refine zx (Qj J J (hb) J) J ?_;refine Wz [9,54,15,1,19,12,1,260,6,45,116,116,116,116,70,112,26,69] ?_
     exact Gb J (Gc [] J J J)
    ·have hd3:decide (x.Bodies[k].Kind=0)=false:=Gqa k0
     refine Wz [11,52,110,131,94,120,92] ?_;refine zx (Qj J J (hb) J) J ?_;refine Wz [9,54,15,1,19,12,1,260,6,81,12,1,45,1,6,6,100] ?_
     exact⟨x.Bodies.length-(k+1),by omega,_,⟨k+1,by omega,fun j hj h0=>by by_cases hjk:j=k; subst hjk; rw[bodyAt,e,if_neg (by omega)]; exact Gqb k0; exact hp_C j hj (by omega),J⟩,Gi [0]⟩
 have h6:¬k<x.Bodies.length:=by have:=Gqf h6; omega
 rw[worldOk_T ⟨hL,hT,hS,by omega,hall,by omega,fun j hj=>hp_C j hj (by omega)⟩]
 refine Wz [27,26,48] ?_
 exact Gb J (Gc [] J J J)
end
end Go.Proofs.YtoecjaohdnoenaaGreat
