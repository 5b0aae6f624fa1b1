/-
  Rules, data and contracts of functions: part 22 of the proof.
  Conditions: those that each theorem names.
-/
import Derived.Test.YtpmacgnmlmmojaaGreatDoorDDRBRowk20
set_option linter.unusedSimpArgs false
set_option linter.unusedVariables false
set_option maxHeartbeats 4000000
namespace Go.Proofs.YtpmacgnmlmmojaaGreatDoor
section
open Go.RowKit

theorem S_LevelOk (x:TLevel) (hg:Enc.gd x):Con Tryz.prog 187 [] [ag x] [] (B (levelOk x)):=by
 obtain⟨rows⟩:=x
 have hn:Enc.gd rows:=hg
 have hn1:=hn.1
 have hlx:=Y9 rows
 refine Con.of Tryz.func187 J Tryz.ntmps187 J (fun E => ?_)
 refine Wz [55,23,14,21] ?_;refine zx (Qj J J (S_in (els rows).length 3 12) J) J ?_;refine Wz [16,2] ?_
 refine Xb J (fun h => ?_) (fun h => ?_)
 ·refine Wz [1,31] ?_
  exact Gq J (Gr [] J J (Xj (by simp[inR] at h; simp[levelOk]; omega)))
 have h:3≤rows.length∧rows.length≤12:=by simp[inR] at h; omega
 have h0:0<rows.length:=by omega
 have hat0:(els rows)[(0:Int).toNat]? = some (Enc.e rows[0]):=Y7 h0
 have hw:=width_at h0
 obtain⟨w,hw'⟩:∃ w,w=rows[0].size:=⟨_,rfl⟩
 rw[←hw'] at hw
 have hg0:rows[0].size≤9223372036854775807:=hn.2 _ (Gql h0)
 refine Wz [54,14,49,143,11,36,1,45,23,63] ?_;refine Xi (fun m st=>∃ (k:Nat) (s:Seen×Bool),k+m=rows.length∧(rowsM rows w k=some s∧(0<k→4≤w∧w≤20))∧st=(⟨_,[(1,.o (.c (.ptr 0 0))),(3,I w),(4,B s.2),(5,.o (.c (.sb 1 4 1))),(6,I k)],[.box [.rd [] (sl rows)],.box [vb s.1.1,vb s.1.2.1,vb s.1.2.2.1,vb s.1.2.2.2]]⟩:St)) (rows.length) ⟨(fun (k:Nat) (s:Seen×Bool)=>(⟨_,[(1,.o (.c (.ptr 0 0))),(3,I w),(4,B s.2),(5,.o (.c (.sb 1 4 1))),(6,I k)],[.box [.rd [] (sl rows)],.box [vb s.1.1,vb s.1.2.1,vb s.1.2.2.1,vb s.1.2.2.2]]⟩:St)) 0 (((false,false,false,false),false)),⟨0,((false,false,false,false),false),by omega,⟨J,by omega⟩,J⟩,Gp [0,1] J (.c J (.cons (Xz (by omega)) (.c J (.c J (.c J (.nil))))))⟩ ?_
 rintro m_A _ ⟨k,s,hk_A,hp_A,rfl⟩
 refine Wz [25,30,21,119] ?_
 refine Xb J (fun h => ?_) (fun h => ?_)
 ·have h3:k<rows.length:=by have:=Gqi h; omega
  have hat:=Y7 h3
  have hwc:((rows[0].size:Nat):Int)=w:=by omega
  have hgk:rows[k].size≤9223372036854775807:=hn.2 _ (Gql h3)
  refine Wz [26,12,14,0,49,143,0,149,89] ?_;refine zx (Uk J (.hit .stop) (fun hgrd=>Qj J J (S_in w 4 20) J)) J ?_;refine Wz [249,110] ?_
  refine Xb J (fun h4 => ?_) (fun h4 => ?_)
  ·simp only[Gqs,decide_eq_true_eq,Gq9,inR,Gxu,decide_eq_false_iff_not] at h4
   refine Wz [1,85,53] ?_
   refine Gq J (Gr [] J J (Xj ?_))
   by_cases h4':rows[k].size=w
   ·have:¬(4≤w∧w≤20):=by omega
    simp only[levelOk,hw]
    rcases Gqp w 4 with h9 | h9
    ·simp[show ¬4≤w by omega]
    ·simp[show ¬w≤20 by omega]
   ·exact (level_no (l:=⟨rows⟩) h3 hw (rows_bad h3 h4')).symm
  simp only[Gqv,decide_eq_false_iff_not,Gxr,inR,Gqg,decide_eq_true_eq] at h4
  have h1:4≤w∧w≤20:=by omega
  have h4:rows[k].size=w:=by omega
  have hrn:=rows_next hp_A.1 h3 h4
  obtain⟨er,her⟩:∃ er,er=(decide (k=0) || decide (k+1=rows.length)):=⟨_,rfl⟩
  rw[←her] at hrn
  refine Wz [54,63] ?_;refine Xi (fun m st=>∃ (c:Nat) (u:Seen×Bool),c+m=w∧(colsM rows[k] er w s c=some u)∧st=(⟨_,[(1,.o (.c (.ptr 0 0))),(3,I w),(4,B u.2),(5,.o (.c (.sb 1 4 1))),(6,I k),(7,I c)],[.box [.rd [] (sl rows)],.box [vb u.1.1,vb u.1.2.1,vb u.1.2.2.1,vb u.1.2.2.2]]⟩:St)) (w) ⟨_,⟨0,s,by omega,J,J⟩,Gs [0,1]⟩ ?_
  rintro m_D _ ⟨c,u,hk_D,hp_D,rfl⟩
  refine Wz [24,119] ?_
  refine Xb J (fun h5 => ?_) (fun h5 => ?_)
  ·have h5:c<w:=by have:=Gqi h5; omega
   have hcn:=cols_next hp_D
   obtain⟨t,ht⟩:∃ t,byteAt rows[k] (c:Int).toNat=t:=⟨_,rfl⟩
   rw[show byteAt rows[k] c=t from ht] at hcn
   have htb:0≤t∧t≤255:=ht▸Yu _ _
   obtain⟨⟨sa,sb,sc,sd⟩,so⟩:=u
   obtain⟨e,he⟩:∃ e,e=(er || decide (c=0) || decide (c+1=w)):=⟨_,rfl⟩
   rw[←he] at hcn
   refine Wz [26,14,0,49,0,139,32,186,89] ?_;refine zx (Uk J (.hit .stop) (fun hgrd=>Kj J J J J)) J ?_;refine Wz [120,89,230,231,232,290] ?_;refine zx (Uk J (.hit (.hit (.hit (.hit (.hit .stop))))) (fun hgrd=>Kj J J J J)) J ?_;refine Wz [120,89,252] ?_;refine zx (Uk J (.hit (.hit .stop)) (fun hgrd=>Xc J J J J (by omega))) J ?_;refine zx (Uk J (.hit (.hit (.hit .stop))) (fun hgrd=>Kj J J J J)) J ?_;refine Wz [120,23,33,10,186,11] ?_
   have hee:(decide ((k:Int)=0) || decide ((c:Int)=0) || decide ((k:Int)=((els rows).length:Int)-1) || decide ((c:Int)=(w:Int)-1))=e:=by
    rw[he,her,hlx]
    have g1:decide ((k:Int)=0)=decide (k=0):=by simp
    have g2:decide ((k:Int)=(rows.length:Int)-1)=decide (k+1=rows.length):=decide_eq_decide.2 (by omega)
    have g3:decide ((c:Int)=0)=decide (c=0):=by simp
    have g4:decide ((c:Int)=(w:Int)-1)=decide (c+1=w):=decide_eq_decide.2 (by omega)
    rw[g1,g2,g3,g4]
    cases decide (k=0) <;> cases decide (c=0) <;> cases decide (k+1=rows.length) <;> rfl
   clear he her
   have hbad:colsM rows[k] er w s (c+1)=none→levelOk ⟨rows⟩=false:=fun hc=>level_no (l:=⟨rows⟩) h3 hw (hrn.trans (cols_none hc (by omega)))
   refine AWP.pre (st':=(⟨_,[(1,.o (.c (.ptr 0 0))),(3,I w),(4,B so),(5,.o (.c (.sb 1 4 1))),(6,I k),(7,I c),(8,VI .u8 t),(9,B e),(73,B (decide (t=35)))],[.box [.rd [] (sl rows)],.box [vb sa,vb sb,vb sc,vb sd]]⟩:St)) ?_ (Gp [0,1] J (.c J (.c J (.c J (.c J (.c J (.c J (.c J (.cons (Xj hee) (.c J (.nil)))))))))))
   by_cases h7:t=35
   ·subst h7
    refine Wz [65,158,22,89] ?_;refine zx (Uk J (.hit .stop) (fun hgrd=>Qw (b:=false) J J J J (by decide))) J ?_;refine Wz [120,105] ?_
    exact⟨w-(c+1),by omega,(fun (c:Nat) (u:Seen×Bool)=>(⟨_,[(1,.o (.c (.ptr 0 0))),(3,I w),(4,B u.2),(5,.o (.c (.sb 1 4 1))),(6,I k),(7,I c)],[.box [.rd [] (sl rows)],.box [vb u.1.1,vb u.1.2.1,vb u.1.2.2.1,vb u.1.2.2.2]]⟩:St)) (c+1) (((sa,sb,sc,sd),so)),⟨c+1,((sa,sb,sc,sd),so),by omega,hcn.trans (by simp[tileM]),J⟩,Gp [0,1] J (.c J (.c J (.cons (Xj (by simp)) (.c J (.c J (.c J (.nil)))))))⟩
   cases e
   case true =>
    have f1:decide (t=35)=false:=Gqa h7
    refine Xb J (fun h=>absurd (Gqi h) h7) (fun _ => ?_)
    refine Wz [37,135,114,95,95,135,95,95,95,95,95,95,56,11,65,1,88,134,142,133,53] ?_
    exact Gq J (Gr [] J J (Xj (hbad (hcn.trans (by simp[tileM,h7]))).symm))
   refine Xb J (fun h=>absurd (Gqi h) h7) (fun _ => ?_)
   rcases (by omega:t=49∨t=50∨t=51∨t=52∨t=111∨t=46∨(t≠35∧t≠49∧t≠50∧t≠51∧t≠52∧t≠111∧t≠46)) with rfl | rfl | rfl | rfl | rfl | rfl | ht7
   ·refine Wz [10,18] ?_
    refine Wz [18,161,3,8,161,3,9,3,8,5,3,8,172,3,7,3,9,7,92,10,199,8,212,9,11,65,24,171,189,160,2] ?_
    refine Xb J (fun h8 => ?_) (fun h8 => ?_)
    ·have h8:sa=true:=h8
     subst h8
     refine Wz [1,85,134,142,133,53] ?_
     exact Gq J (Gr [] J J (Xj (hbad (hcn.trans (by simp[tileM]))).symm))
    ·have h8:sa=false:=h8
     subst h8
     refine Wz [54,22,0,171,189,180,74,22,89,233,120,105] ?_
     exact⟨w-(c+1),by omega,(fun (c:Nat) (u:Seen×Bool)=>(⟨_,[(1,.o (.c (.ptr 0 0))),(3,I w),(4,B u.2),(5,.o (.c (.sb 1 4 1))),(6,I k),(7,I c)],[.box [.rd [] (sl rows)],.box [vb u.1.1,vb u.1.2.1,vb u.1.2.2.1,vb u.1.2.2.2]]⟩:St)) (c+1) (((true,sb,sc,sd),true)),⟨c+1,((true,sb,sc,sd),true),by omega,hcn.trans (by simp[tileM]),J⟩,Gp [0,1] J (.c J (.c J (.cons (Xj (by simp)) (.c J (.c J (.c J (.nil)))))))⟩
   ·refine Wz [10,18] ?_
    refine Wz [18,161,3,8,161,3,9,3,8,5,3,8,172,3,7,3,9,7,92,10,199,8,212,9,11,65,24,171,189,160,2] ?_
    refine Xb J (fun h8 => ?_) (fun h8 => ?_)
    ·have h8:sb=true:=h8
     subst h8
     refine Wz [1,85,134,142,133,53] ?_
     exact Gq J (Gr [] J J (Xj (hbad (hcn.trans (by simp[tileM]))).symm))
    ·have h8:sb=false:=h8
     subst h8
     refine Wz [54,22,0,171,189,180,74,22,89,233,120,105] ?_
     exact⟨w-(c+1),by omega,(fun (c:Nat) (u:Seen×Bool)=>(⟨_,[(1,.o (.c (.ptr 0 0))),(3,I w),(4,B u.2),(5,.o (.c (.sb 1 4 1))),(6,I k),(7,I c)],[.box [.rd [] (sl rows)],.box [vb u.1.1,vb u.1.2.1,vb u.1.2.2.1,vb u.1.2.2.2]]⟩:St)) (c+1) (((sa,true,sc,sd),true)),⟨c+1,((sa,true,sc,sd),true),by omega,hcn.trans (by simp[tileM]),J⟩,Gp [0,1] J (.c J (.c J (.cons (Xj (by simp)) (.c J (.c J (.c J (.nil)))))))⟩
   ·refine Wz [10,18] ?_
    refine Wz [18,161,3,8,161,3,9,3,8,5,3,8,172,3,7,3,9,7,92,10,199,8,212,9,11,65,24,171,189,160,2] ?_
    refine Xb J (fun h8 => ?_) (fun h8 => ?_)
    ·have h8:sc=true:=h8
     subst h8
     refine Wz [1,85,134,142,133,53] ?_
     exact Gq J (Gr [] J J (Xj (hbad (hcn.trans (by simp[tileM]))).symm))
    ·have h8:sc=false:=h8
     subst h8
     refine Wz [54,22,0,171,189,180,74,22,89,233,120,105] ?_
     exact⟨w-(c+1),by omega,(fun (c:Nat) (u:Seen×Bool)=>(⟨_,[(1,.o (.c (.ptr 0 0))),(3,I w),(4,B u.2),(5,.o (.c (.sb 1 4 1))),(6,I k),(7,I c)],[.box [.rd [] (sl rows)],.box [vb u.1.1,vb u.1.2.1,vb u.1.2.2.1,vb u.1.2.2.2]]⟩:St)) (c+1) (((sa,sb,true,sd),true)),⟨c+1,((sa,sb,true,sd),true),by omega,hcn.trans (by simp[tileM]),J⟩,Gp [0,1] J (.c J (.c J (.cons (Xj (by simp)) (.c J (.c J (.c J (.nil)))))))⟩
   ·refine Wz [10,18] ?_
    refine Wz [18,161,3,8,161,3,9,3,8,5,3,8,172,3,7,3,9,7,92,10,199,8,212,9,11,65,24,171,189,160,2] ?_
    refine Xb J (fun h8 => ?_) (fun h8 => ?_)
    ·have h8:sd=true:=h8
     subst h8
     refine Wz [1,85,134,142,133,53] ?_
     exact Gq J (Gr [] J J (Xj (hbad (hcn.trans (by simp[tileM]))).symm))
    ·have h8:sd=false:=h8
     subst h8
     refine Wz [54,22,0,171,189,180,74,22,89,233,120,105] ?_
     exact⟨w-(c+1),by omega,(fun (c:Nat) (u:Seen×Bool)=>(⟨_,[(1,.o (.c (.ptr 0 0))),(3,I w),(4,B u.2),(5,.o (.c (.sb 1 4 1))),(6,I k),(7,I c)],[.box [.rd [] (sl rows)],.box [vb u.1.1,vb u.1.2.1,vb u.1.2.2.1,vb u.1.2.2.2]]⟩:St)) (c+1) (((sa,sb,sc,true),true)),⟨c+1,((sa,sb,sc,true),true),by omega,hcn.trans (by simp[tileM]),J⟩,Gp [0,1] J (.c J (.c J (.cons (Xj (by simp)) (.c J (.c J (.c J (.nil)))))))⟩
   ·refine Wz [10,18] ?_
    refine Wz [18,81,3,91,3,7,3,91,114,95,95,114,3,7,7,92,10,199,8,195,9,92,158,22,89,233,120,105] ?_
    exact⟨w-(c+1),by omega,(fun (c:Nat) (u:Seen×Bool)=>(⟨_,[(1,.o (.c (.ptr 0 0))),(3,I w),(4,B u.2),(5,.o (.c (.sb 1 4 1))),(6,I k),(7,I c)],[.box [.rd [] (sl rows)],.box [vb u.1.1,vb u.1.2.1,vb u.1.2.2.1,vb u.1.2.2.2]]⟩:St)) (c+1) (((sa,sb,sc,sd),true)),⟨c+1,((sa,sb,sc,sd),true),by omega,hcn.trans (by simp[tileM]),J⟩,Gp [0,1] J (.c J (.c J (.cons (Xj (by simp)) (.c J (.c J (.c J (.nil)))))))⟩
   ·refine Wz [10,18] ?_
    refine Wz [18,161,3,8,81,3,9,3,91,114,95,95,114,3,7,7,92,10,132,91,7,92,158,22,89,233,120,105] ?_
    exact⟨w-(c+1),by omega,(fun (c:Nat) (u:Seen×Bool)=>(⟨_,[(1,.o (.c (.ptr 0 0))),(3,I w),(4,B u.2),(5,.o (.c (.sb 1 4 1))),(6,I k),(7,I c)],[.box [.rd [] (sl rows)],.box [vb u.1.1,vb u.1.2.1,vb u.1.2.2.1,vb u.1.2.2.2]]⟩:St)) (c+1) (((sa,sb,sc,sd),true)),⟨c+1,((sa,sb,sc,sd),true),by omega,hcn.trans (by simp[tileM]),J⟩,Gp [0,1] J (.c J (.c J (.cons (Xj (by simp)) (.c J (.c J (.c J (.nil)))))))⟩
   ·refine Wz [10,18] ?_
    refine Wz [18,149,3,0,154,267,3,84,3,0,154] ?_;refine zx (Qt.grdT J J J (.hit .stop) (fun hgrd=>Ku J J J J)) J ?_;refine zx (Qt.grdT J J J (.hit (.hit .stop)) (fun hgrd=>Qa J J J)) J ?_;refine zx (Qt.grd2F J J J (.hit1 (.hit1 (.hit1 .stop))) (fun hgrd hgrd2=>Qa J J J)) J ?_;refine zx (Qt.grd2F J J J (.hit (.hit1 (.hit1 (.hit1 .stop)))) (fun hgrd hgrd2=>Kn J J J J)) J ?_;refine zx (Qt.grdT J J J (.part (.part (.hit (.hit (.hit .stop))))) (fun hgrd=>Kx J J J J)) J ?_;refine Wz [3,84,7,11] ?_
    refine Xb J (fun h8 => ?_) (fun h8 => ?_)
    ·refine Wz [1,88,134,211] ?_
     refine Wz [134,133,53] ?_
     exact Gq J (Gr [] J J (Xj (hbad (hcn.trans (by simp[tileM,ht7]))).symm))
    ·simp only[Gxu,Gqv,Bool.false_or,decide_eq_false_iff_not,Classical.not_not] at h8
     omega
  ·have h5:c=w:=by have:=Gqj h5; omega
   rw[h5] at hp_D
   rw[hp_D] at hrn
   refine Wz [162,163,204,43] ?_
   exact⟨rows.length-(k+1),by omega,_,⟨k+1,u,by omega,⟨hrn,fun _=>h1⟩,J⟩,Gs [0,1]⟩
 ·have h3:¬((k:Int)<(els rows).length):=Gqj h
  have hk:k=rows.length:=by omega
  subst hk
  refine Wz [40,10,19] ?_
  exact Gq J (Gr [] J J (Xj (by
   unfold levelOk
   rw[hw,hp_A.1]
   have h1:=hp_A.2 (by omega)
   have:3≤rows.length∧rows.length≤12∧4≤w∧w≤20:=by omega
   simp[this])))
end
section
open Go.RowKit

def replayOk (r:TReplay):Bool:=levelOk r.Level&&inR r.Players 1 4&&inR r.Seed 0 65535&&inR r.Every 1 100&&decide (r.Rows.length≤400)&&(r.Rows.all fun row=>rowOk row r.Players)&&decide ((r.Keys.length:Int)=(r.Rows.length:Int)/r.Every)
theorem replay_no {r:TReplay} (h:((!levelOk r.Level || !inR r.Players 1 4) || !inR r.Seed 0 65535)=true∨((!inR r.Every 1 100) || decide (400<(r.Rows.length:Int)))=true∨(r.Rows.all fun row=>rowOk row r.Players)=false):replayOk r=false:=by
 unfold replayOk
 rcases h with h | h | h
 ·simp only[Gqs,Gq9] at h
  rcases h with (h | h) | h <;> simp[h]
 ·simp only[Gqs,Gq9,decide_eq_true_eq] at h
  rcases h with h | h
  ·simp[h]
  ·simp[show ¬r.Rows.length≤400 by omega]
 ·simp[h]
theorem replay_yes {r:TReplay} (h1:((!levelOk r.Level || !inR r.Players 1 4) || !inR r.Seed 0 65535)=false) (h2:((!inR r.Every 1 100) || decide (400<(r.Rows.length:Int)))=false) (h3:(r.Rows.all fun row=>rowOk row r.Players)=true):replayOk r=decide ((r.Keys.length:Int)=(r.Rows.length:Int)/r.Every):=by
 simp only[Gqv,Gxr,decide_eq_false_iff_not] at h1 h2
 unfold replayOk
 rw[h3]
 simp[h1,h2,show r.Rows.length≤400 by omega]

theorem Xv (x:TReplay) (hg:Enc.gd x):Con Tryz.prog 62 [] [ag x] [] (B (replayOk x)):=by
 obtain⟨g_Level,g_Players,g_Seed,g_Every,g_Rows,g_Keys⟩:=hg
 have g1:=g_Rows.1
 have g2:=g_Keys.1
 have hlr:=Y9 x.Rows
 have hlk:=Y9 x.Keys
 have cl:=Xt x.Level g_Level
 refine Con.of Tryz.func62 J Tryz.ntmps62 J (fun E => ?_)
 refine Wz [55,23,82] ?_;refine zx (Qj J J (cl) J) J ?_;refine Wz [16,0,140,141] ?_;refine zx (Uk J (.hit (.hit .stop)) (fun hgrd=>Qj J J (Xx x.Players 1 4) J)) J ?_;refine Wz [190,120,0,140,141] ?_;refine zx (Uk J (.hit (.hit .stop)) (fun hgrd=>Qj J J (Xx x.Seed 0 65535) J)) J ?_;refine Wz [190,110] ?_
 refine Xb J (fun h1 => ?_) (fun h1 => ?_)
 ·refine Wz [1,31] ?_
  exact Gq J (Gr [] J J (Xj (replay_no (.inl h1)).symm))
 refine AWP.pre (st':=(⟨_,[(1,.o (.c (.ptr 0 0)))],[.box ((Enc.e x).map (V1.rd []))]⟩:St)) ?_ (Gs [0])
 refine Wz [72,14] ?_;refine zx (Qj J J (Xx x.Every 1 100) J) J ?_;refine Wz [16,0,140,141,250,251,110] ?_
 refine Xb J (fun h2 => ?_) (fun h2 => ?_)
 ·refine Wz [1,31] ?_
  exact Gq J (Gr [] J J (Xj (replay_no (.inr (.inl (by rwa[hlr] at h2)))).symm))
 rw[hlr] at h2
 have hE:1≤x.Every:=by
  simp only[Gqv,Gxr,Zn] at h2
  exact h2.1.1
 refine Wz [72,14,21,131,33] ?_;refine Xi (fun m st=>∃ k:Nat,k+m=x.Rows.length∧((x.Rows.take k).all (fun row=>rowOk row x.Players)=true)∧st=(⟨_,[(1,.o (.c (.ptr 0 0))),(32,L x.Rows),(33,I (els x.Rows).length),(34,I k)],[.box ((Enc.e x).map (V1.rd []))]⟩:St)) (x.Rows.length) ⟨_,⟨0,by omega,by simp,J⟩,Gs [0]⟩ ?_
 rintro m_A _ ⟨k,hk_A,hp_A,rfl⟩
 refine Wz [1,100,39] ?_
 refine Xb J (fun h => ?_) (fun h => ?_)
 ·have h3:k<x.Rows.length:=by have:=Gqi h; omega
  have hat:=Y7 h3
  have hc:=I_rowOk x.Rows[k] x.Players (g_Rows.2 _ (Gql h3))
  refine Wz [26,1,49,32,30] ?_;refine zx (Qj J J (hc) J) J ?_;refine Wz [16,2] ?_
  refine Xb J (fun h4 => ?_) (fun h4 => ?_)
  ·refine Wz [1,88,142] ?_
   refine Wz [73] ?_
   exact Gq J (Gr [] J J (Xj (replay_no (.inr (.inr (all_no h3 (by simpa using h4))))).symm))
  ·refine Wz [158,299,0,159] ?_
   refine Q0 ?_
   exact⟨x.Rows.length-(k+1),by omega,_,⟨k+1,by omega,Yj hp_A h3 (by simpa using h4),J⟩,Gs [0]⟩
 ·have h3:¬((k:Int)<(els x.Rows).length):=Gqj h
  refine Wz [40,12] ?_;refine Xh u8_3 [[],[44],[44,45],[],[47],[47,48],[],[50],[47,48,49,50,51],[44,45,46,47,48,49,50,51,52],[44,45,46,47,48,49,50,51,52,53]] [[47,48,49,50,51,52],[47,48,49,50,51,52],[47,48,49,50,51,52],[44,45,46,50,51],[44,45,46,50,51],[44,45,46,50,51],[44,45,46,47,48,49],[44,45,46,47,48,49],[44,45,46],[],[]] J ?_;refine Wz [66,197,66,197,66,224] ?_;refine Vx (Kj J J J J) J ?_;refine Wz [150,17,2,205,145] ?_
  exact Gq J (Gr [] J J (Xj (by rw[replay_yes h1 h2 (all_end hp_A (by omega)),hlr,hlk])))
theorem X9 (x:TReplay) (hg:Enc.gd x):Con Tryz.prog 205 [] [ag x] [] (B (replayOk x)):=by
 obtain⟨g_Level,g_Players,g_Seed,g_Every,g_Rows,g_Keys⟩:=hg
 have g1:=g_Rows.1
 have g2:=g_Keys.1
 have hlr:=Y9 x.Rows
 have hlk:=Y9 x.Keys
 have cl:=S_LevelOk x.Level g_Level
 refine Con.of Tryz.func205 J Tryz.ntmps205 J (fun E => ?_)
 refine Wz [55,23,82] ?_;refine zx (Qj J J (cl) J) J ?_;refine Wz [16,0,140,141] ?_;refine zx (Uk J (.hit (.hit .stop)) (fun hgrd=>Qj J J (S_in x.Players 1 4) J)) J ?_;refine Wz [190,120,0,140,141] ?_;refine zx (Uk J (.hit (.hit .stop)) (fun hgrd=>Qj J J (S_in x.Seed 0 65535) J)) J ?_;refine Wz [190,120,0,140,141] ?_;refine zx (Uk J (.hit (.hit .stop)) (fun hgrd=>Qj J J (S_in x.Every 1 100) J)) J ?_;refine Wz [190,120,0,140,141,250,251,110] ?_
 refine Xb J (fun h1 => ?_) (fun h1 => ?_)
 ·rw[hlr,Bool.or_assoc,Gqs] at h1
  refine Wz [1,31] ?_
  exact Gq J (Gr [] J J (Xj (replay_no (h1.imp_right .inl)).symm))
 rw[hlr,Bool.or_assoc,Gqv] at h1
 have hE:1≤x.Every:=by
  have h2:=h1.2
  simp only[Gqv,Gxr,Zn] at h2
  exact h2.1.1
 refine AWP.pre (st':=(⟨_,[(1,.o (.c (.ptr 0 0)))],[.box ((Enc.e x).map (V1.rd []))]⟩:St)) ?_ (Gs [0])
 refine Wz [72,63] ?_;refine Xi (fun m st=>∃ k:Nat,k+m=x.Rows.length∧((x.Rows.take k).all (fun row=>rowOk row x.Players)=true)∧st=(⟨_,[(1,.o (.c (.ptr 0 0))),(3,I k)],[.box ((Enc.e x).map (V1.rd []))]⟩:St)) (x.Rows.length) ⟨_,⟨0,by omega,by simp,J⟩,Gs [0]⟩ ?_
 rintro m_A _ ⟨k,hk_A,hp_A,rfl⟩
 refine Wz [25,30,21,119] ?_
 refine Xb J (fun h => ?_) (fun h => ?_)
 ·have h3:k<x.Rows.length:=by have:=Gqi h; omega
  have hat:=Y7 h3
  have hc:=S_rowOk x.Rows[k] x.Players (g_Rows.2 _ (Gql h3))
  refine Wz [26,12] ?_;refine Xh [[],[0],[],[0,1,2],(u9 4),[],[5],(u9 7),(u9 8)] [[],[39],[],[39,40,41],[39,40,41,42],[],[44],[39,40,41,42,43,44,45],[39,40,41,42,43,44,45,46]] [[41,44,45],[41,44,45],[39,40,44,45],[44,45],[44,45],[39,40,41,42,43],[39,40,41,42,43],[],[]] J ?_;refine Wz [66,4,121,66] ?_;refine Vx (Qj J J (hc) J) J ?_;refine Wz [206,17,2] ?_
  refine Xb J (fun h4 => ?_) (fun h4 => ?_)
  ·refine Wz [1,88,142] ?_
   refine Wz [73] ?_
   exact Gq J (Gr [] J J (Xj (replay_no (.inr (.inr (all_no h3 (by simpa using h4))))).symm))
  ·refine Wz [158,22,35] ?_
   refine Wz [11] ?_
   exact⟨x.Rows.length-(k+1),by omega,_,⟨k+1,by omega,Yj hp_A h3 (by simpa using h4),J⟩,Gs [0]⟩
 ·have h3:¬((k:Int)<(els x.Rows).length):=Gqj h
  refine Wz [40,12] ?_;refine Xh u8_3 [[],[48],[48,49],[],[51],[51,52],[],[54],[51,52,53,54,55],[48,49,50,51,52,53,54,55,56],[48,49,50,51,52,53,54,55,56,57]] [[51,52,53,54,55,56],[51,52,53,54,55,56],[51,52,53,54,55,56],[48,49,50,54,55],[48,49,50,54,55],[48,49,50,54,55],[48,49,50,51,52,53],[48,49,50,51,52,53],[48,49,50],[],[]] J ?_;refine Wz [66,197,66,197,66,224] ?_;refine Vx (Kj J J J J) J ?_;refine Wz [150,17,2,205,145] ?_
  exact Gq J (Gr [] J J (Xj (by rw[replay_yes h1.1 h1.2 (all_end hp_A (by omega)),hlr,hlk])))
end
section
open Go.RowKit

def slashB:ByteArray:=⟨#[47]⟩
def keysB (ks:List ByteArray):Nat→ByteArray
 |0=>bs []
 |k+1=>keysB ks k++packText (ks.getD k ⟨#[]⟩)
def encB (r:TReplay):ByteArray:=packText (joinB r.Level.Rows slashB)++packInts [r.Players,r.Seed,r.Every,(r.Rows.length:Int)]++colsB r.Rows r.Players.toNat++keysB r.Keys r.Keys.length
def encodeReplay (r:TReplay):ByteArray:=if replayOk r=true then sealText (encB r) else ⟨#[]⟩
theorem app_nilB (s:ByteArray):s++bs []=s:=ByteArray.append_empty
end
section
open Go.RowKit

def V2.mapk (k:V1→V1):V2→V2
 | .c x => .c (k x)
 | .ag xs => .ag (xs.map k)
def V.mapk (k:V1→V1):V→V
 | .o x => .o (x.mapk k)
 | .tu xs => .tu (xs.map (V2.mapk k))
 | .iff cs x => .iff cs (x.mapk k)
def Ob.mapk (k:V1→V1):Ob→Ob
 | .box cs => .box (cs.map k)
 | .gh i x => .gh i (x.mapk k)
 |ob=>ob

section
variable {P:Program} {E:Env} {ops:Array Oper} {o:Oper} {st:St} {n:Nat} {rest:List Oper} {QQ:Exit→St→Prop} {w w':World} {H H':Hs} {F F':Nat→Prop} {a:Act}

theorem R2.mapk {k:V1→V1} (hk:∀ x v,R1 w H F x v→R1 w' H' F' (k x) v) {x:V2} {v:Value} (h:R2 w H F x v):R2 w' H' F' (x.mapk k) v:=by
 cases x with
 |c x=>exact hk _ _ h
 |ag xs =>
  obtain⟨us,e,hl,hr⟩:=h
  refine⟨us,e,by simpa using hl,fun i x u h1 h2 => ?_⟩
  rw[Gqh] at h1
  obtain⟨y,h3,rfl⟩:=Option.map_eq_some_iff.1 h1
  exact hk _ _ (hr i y u h3 h2)
theorem RV.mapk {k:V1→V1} (hk:∀ x v,R1 w H F x v→R1 w' H' F' (k x) v) {x:V} {v:Value} (h:RV w H F x v):RV w' H' F' (x.mapk k) v:=by
 cases x with
 |o x=>exact R2.mapk hk h
 |tu xs =>
  obtain⟨us,e,hl,hr⟩:=h
  refine⟨us,e,by simpa using hl,fun i x u h1 h2 => ?_⟩
  rw[Gqh] at h1
  obtain⟨y,h3,rfl⟩:=Option.map_eq_some_iff.1 h1
  exact R2.mapk hk (hr i y u h3 h2)
 |iff cs x=>exact⟨fun hc=>R2.mapk hk (h.1 hc),h.2⟩
theorem RB.mapk {k:V1→V1} (hk:∀ x v,R1 w H F x v→R1 w' H' F' (k x) v) {p:Nat} (hp:H' p=H p) {ob:Ob} (h:RB w H F p ob) (hk0:∀ t,k (.rd [] t) = .rd [] t:=by intro t; rfl):RB w' H' F' p (ob.mapk k):=by
 cases ob with
 |gone=>exact hp.trans h
 |hole=>trivial
 |box cs =>
  obtain⟨g,t,vs,e,hl,hr⟩:=h
  refine⟨g,t,vs,hp.trans e,by simpa using hl,fun i c u h1 h2 => ?_⟩
  rw[Gqh] at h1
  obtain⟨y,h3,rfl⟩:=Option.map_eq_some_iff.1 h1
  exact⟨hk _ _ (hr i y u h3 h2).1,(hr i y u h3 h2).2⟩
 |row k es=>obtain⟨v,fp,e⟩:=h; exact⟨v,fp,hp.trans e⟩
 |gh i x=>obtain⟨v,e,hr⟩:=h; exact⟨v,hp.trans e,R2.mapk hk hr⟩
 |shr es=>obtain⟨us,v,fp,e,hl,hr⟩:=h; exact⟨us,v,fp,hp.trans e,hl,fun i t u h1 h2=>by have:=hk _ _ (hr i t u h1 h2); rwa[hk0] at this⟩
 |bl=>obtain⟨v,fp,e⟩:=h; exact⟨v,fp,hp.trans e⟩
theorem R0.mapk (h:R0 w H F st a) (k:V1→V1) (hk:∀ x v,R1 w H F x v→R1 w' H' F (k x) v) (hok:Ok w' H' F) (objs':List Ob) (hob:∀ p,RB w' H' F p (objs'.getD p .gone)) :
  R0 w' H' F ⟨st.n,st.tmps.map fun e=>(e.1,e.2.mapk k),objs'⟩ a:=by
 refine⟨hok,hob,fun d => ?_,h.size,h.defers⟩
 have hl:∀ l:List (Nat×V),RV w H F (look l d) (a.tmps.getD d undef)→RV w' H' F (look (l.map fun e=>(e.1,e.2.mapk k)) d) (a.tmps.getD d undef):=by
  intro l
  induction l with
  |nil=>intro _; trivial
  |cons e l ih =>
   obtain⟨e1,e2⟩:=e
   rw[List.map_cons,Zu,Zu]
   split
   ·exact RV.mapk hk
   ·exact ih
 exact hl _ (h.tmp d)

def idxN:List Nat→Nat→Nat→Option Nat
 | [],_,_=>none
 |r::rs,p,i=>match Nat.beq r p with
  |true=>some i
  |false=>idxN rs p (i+1)
theorem idxN_ok:∀ (ρ:List Nat) (p i j:Nat),idxN ρ p i=some j→i≤j∧ρ[j-i]? = some p
 | [],p,i,j,h=>by simp[idxN] at h
 | r::rs,p,i,j,h=>by
  rw[idxN] at h
  split at h
  ·rename_i e
   have:=Gxf e
   simp only[Option.some.injEq] at h
   subst h this
   exact⟨Gqf _,by simp⟩
  ·obtain⟨h1,h2⟩:=idxN_ok rs p (i+1) j h
   exact⟨by omega,by rw[show j-i=(j-(i+1))+1 by omega,Gx4]; exact h2⟩
theorem idxN_none:∀ (ρ:List Nat) (p i:Nat),idxN ρ p i=none→p∉ρ
 | [],p,i,_=>by simp
 | r::rs,p,i,h=>by
  rw[idxN] at h
  split at h
  ·cases h
  ·rename_i e
   have h1:=idxN_none rs p (i+1) h
   intro hp
   rcases List.mem_cons.1 hp with rfl | hp
   ·rw[show Nat.beq p p=true from Gxy p] at e; cases e
   ·exact h1 hp
def offN (ρ qs:List Nat):Bool:=qs.all fun q => !memN ρ q
def V1.killw (ps kc:List Nat):V1→V1
 | .rd qs x=>match offN ps qs with
  |true => .rd qs x
  |false=>match x with
   | .v u => .rd [] (.v u)
   |_ => .un
 | .ref p=>match memN ps p with
  |false => .ref p
  |true=>match memN kc p with
   |true => .ref p
   |false => .un
 | .ptr p i=>match memN ps p with
  |false => .ptr p i
  |true=>match memN kc p with
   |true => .ptr p i
   |false => .un
 | .el p k i j=>match memN ps p with
  |false => .el p k i j
  |true=>match memN kc p with
   |true => .el p k i j
   |false => .un
 | .sb p n k=>match memN ps p with
  |false => .sb p n k
  |true => .un
 | .rp qs xs=>match offN ps qs with
  |true => .rp qs xs
  |false => .un
 | .le p k i j=>match memN ps p with
  |false => .le p k i j
  |true => .un
 | .hd p n=>match memN ps p with
  |false => .hd p n
  |true => .un
 | .tl p k n=>match memN ps p with
  |false => .tl p k n
  |true=>match memN kc p with
   |true => .tl p k n
   |false => .un
 | .un => .un
def Place (x y:Pc):Prop:=(∃ t v fp t' fp',x = .ow t v fp∧y = .ow t' v fp')∨∃ g t vs t' vs',x = .box g t vs∧y = .box g t' vs'

theorem offN_ok {ρ qs:List Nat} (h:offN ρ qs=true):∀ q∈qs,q∉ρ:=fun q hq=>by
 have:=Gqk.1 h q hq
 simp only[Gq9] at this
 exact memN_not this
theorem R1.killw {ps kc:List Nat} (hok:Ok w H F) (ht:Turn w H w' H' ps) (hkc:∀ p∈kc,Place (H p) (H' p)) {x:V1} {v:Value} (h:R1 w H F x v):R1 w' H' F (x.killw ps kc) v:=by
 have hoff:∀ qs:List Nat,offN ps qs=true→(qs.all fun q => !ps.contains q)=true:=fun qs hq=>Gqk.2 fun q hm=>by simpa using offN_ok hq q hm
 have hone:∀ p,memN ps p=false→(!ps.contains p)=true:=fun p hp=>by simpa using memN_not hp
 cases x with
 | rd qs x =>
  simp only[V1.killw]
  split
  ·rename_i hq; exact R1.turn hok ht (x := .rd qs x) (hoff qs hq) h
  ·split
   ·obtain⟨rfl,h1⟩:=RO.plain h; exact RO.v _ h1
   ·trivial
 | ref p =>
  simp only[V1.killw]
  split
  ·rename_i hp; exact R1.turn hok ht (x := .ref p) (hone p hp) h
  ·split
   ·rename_i hp
    obtain⟨x,fp,e⟩:=h
    rcases hkc p ((Zx _ _).1 hp) with ⟨t,v',fp1,t',fp2,e1,e2⟩ | ⟨g,t,vs,t',vs',e1,e2⟩
    ·rw[e] at e1
     simp only[Pc.ow.injEq] at e1
     obtain⟨_,rfl,_⟩:=e1
     exact⟨t',fp2,e2⟩
    ·rw[e] at e1; cases e1
   ·trivial
 | ptr p i =>
  simp only[V1.killw]
  split
  ·rename_i hp; exact R1.turn hok ht (x := .ptr p i) (hone p hp) h
  ·split
   ·rename_i hp
    obtain⟨g0,t0,vs0,e,hv⟩:=h
    rcases hkc p ((Zx _ _).1 hp) with ⟨t,v',fp1,t',fp2,e1,e2⟩ | ⟨g,t,vs,t',vs',e1,e2⟩
    ·rw[e] at e1; cases e1
    ·rw[e] at e1
     simp only[Pc.box.injEq] at e1
     obtain⟨rfl,_,_⟩:=e1
     exact⟨_,_,_,e2,hv⟩
   ·trivial
 | el p k i j =>
  simp only[V1.killw]
  split
  ·rename_i hp; exact R1.turn hok ht (x := .el p k i j) (hone p hp) h
  ·split
   ·rename_i hp
    obtain⟨b,o,n,c,x,fp,e,hv⟩:=h
    rcases hkc p ((Zx _ _).1 hp) with ⟨t,v',fp1,t',fp2,e1,e2⟩ | ⟨g,t,vs,t',vs',e1,e2⟩
    ·rw[e] at e1
     simp only[Pc.ow.injEq] at e1
     obtain⟨_,rfl,_⟩:=e1
     exact⟨b,o,n,c,t',fp2,e2,hv⟩
    ·rw[e] at e1; cases e1
   ·trivial
 |sb p n k =>
  simp only[V1.killw]
  split
  ·rename_i hp; exact R1.turn hok ht (x := .sb p n k) (hone p hp) h
  ·trivial
 |rp qs xs =>
  simp only[V1.killw]
  split
  ·rename_i hq; exact R1.turn hok ht (x := .rp qs xs) (hoff qs hq) h
  ·trivial
 |le p k i j =>
  simp only[V1.killw]
  split
  ·rename_i hp; exact R1.turn hok ht (x := .le p k i j) (hone p hp) h
  ·trivial
 |hd p n =>
  simp only[V1.killw]
  split
  ·rename_i hp; exact R1.turn hok ht (x := .hd p n) (hone p hp) h
  ·trivial
 | tl p k n =>
  simp only[V1.killw]
  split
  ·rename_i hp; exact R1.turn hok ht (x := .tl p k n) (hone p hp) h
  ·split
   ·rename_i hp
    obtain⟨A,A',m,c,x,fp,e,hv⟩:=h
    rcases hkc p ((Zx _ _).1 hp) with ⟨t,v',fp1,t',fp2,e1,e2⟩ | ⟨g,t,vs,t',vs',e1,e2⟩
    ·rw[e] at e1
     simp only[Pc.ow.injEq] at e1
     obtain⟨_,rfl,_⟩:=e1
     exact⟨A,A',m,c,t',fp2,e2,hv⟩
    ·rw[e] at e1; cases e1
   ·trivial
 |un=>trivial

theorem R1.sub {H1:Hs} {F1:Nat→Prop} (hs:∀ q,H q ≠ .nil→H1 q=H q) (hF:∀ b,F b→F1 b) {x:V1} {v:Value} (h:R1 w H F x v):R1 w H1 F1 x v:=by
 have hin:∀ {qs:List Nat} {b:Nat},inP H F qs b→inP H1 F1 qs b:=fun hb=>by
  rcases hb with hb | ⟨q,hq,x,v,fp,e,hb⟩
  ·exact .inl (hF _ hb)
  ·exact .inr ⟨q,hq,x,v,fp,by rw[hs q (by rw[e]; simp),e],hb⟩
 cases x with
 |rd qs x=>exact RO.weak h fun b hb _=>hin hb
 |ref p=>obtain⟨x,fp,e⟩:=h; exact⟨x,fp,by rw[hs p (by rw[e]; simp),e]⟩
 |ptr p i=>obtain⟨g,t,vs,e,hv⟩:=h; exact⟨g,t,vs,by rw[hs p (by rw[e]; simp),e],hv⟩
 |sb p n k=>obtain⟨g,t,vs,e,hv⟩:=h; exact⟨g,t,vs,by rw[hs p (by rw[e]; simp),e],hv⟩
 |el p k i j=>obtain⟨b,o,n,c,x,fp,e,hv⟩:=h; exact⟨b,o,n,c,x,fp,by rw[hs p (by rw[e]; simp),e],hv⟩
 |le p k i j=>obtain⟨b,o,n,c,x,fp,e,hv⟩:=h; exact⟨b,o,n,c,x,fp,by rw[hs p (by rw[e]; simp),e],hv⟩
 |hd p n=>obtain⟨A,m,c,x,fp,e,hv⟩:=h; exact⟨A,m,c,x,fp,by rw[hs p (by rw[e]; simp),e],hv⟩
 |tl p k n=>obtain⟨A,A',m,c,x,fp,e,hv⟩:=h; exact⟨A,A',m,c,x,fp,by rw[hs p (by rw[e]; simp),e],hv⟩
 |rp qs xs =>
  obtain⟨b,o,hv,hb,hc⟩:=h
  refine⟨b,o,hv,hin hb,fun j t hj => ?_⟩
  obtain⟨u,h1,h2⟩:=hc j t hj
  exact⟨u,h1,RO.weak h2 fun b hb _=>hin hb⟩
 |un=>trivial
theorem R2.sub {H1:Hs} {F1:Nat→Prop} (hs:∀ q,H q ≠ .nil→H1 q=H q) (hF:∀ b,F b→F1 b) {x:V2} {v:Value} (h:R2 w H F x v):R2 w H1 F1 x v:=by
 cases x with
 |c x=>exact R1.sub hs hF h
 |ag xs=>obtain⟨us,e,hl,hr⟩:=h; exact⟨us,e,hl,fun i x u h1 h2=>R1.sub hs hF (hr i x u h1 h2)⟩
theorem RB.sub {H1:Hs} {F1:Nat→Prop} (hs:∀ q,H q ≠ .nil→H1 q=H q) (hF:∀ b,F b→F1 b) {p:Nat} {ob:Ob} (hp:H p ≠ .nil) (h:RB w H F p ob):RB w H1 F1 p ob:=by
 cases ob with
 |gone=>exact absurd h hp
 |hole=>trivial
 |box cs=>obtain⟨g,t,vs,e,hl,hr⟩:=h; exact⟨g,t,vs,by rw[hs p hp,e],hl,fun i c u h1 h2=>⟨R1.sub hs hF (hr i c u h1 h2).1,(hr i c u h1 h2).2⟩⟩
 |row k es=>obtain⟨v,fp,e⟩:=h; exact⟨v,fp,by rw[hs p hp,e]⟩
 |gh i x=>obtain⟨v,e,hr⟩:=h; exact⟨v,by rw[hs p hp,e],R2.sub hs hF hr⟩
 |shr es=>obtain⟨us,v,fp,e,hl,hr⟩:=h; exact⟨us,v,fp,by rw[hs p hp,e],hl,fun i t u h1 h2=>R1.sub hs hF (hr i t u h1 h2)⟩
 |bl=>obtain⟨v,fp,e⟩:=h; exact⟨v,fp,by rw[hs p hp,e]⟩

def phi (ρ:List Nat) (m N q:Nat):Nat:=match Nat.blt q ρ.length with
 |true=>ρ.getD q 0
 |false=>N+(q-(ρ.length+m))
section
variable {H2:Hs} {F2:Nat→Prop} {φ:Nat→Nat}
theorem plantw1 (hpl:∀ q,H2 q ≠ .nil→(∀ i v,H2 q ≠ .gh i v)→H' (φ q)=H2 q) {x:V1} {v:Value} (hc:x.closed=true) (hx:R1 w H2 F2 x v):R1 w H' F (x.ren φ) v:=by
 cases x with
 |rd ps x =>
  cases x with
  |v x=>obtain⟨rfl,h⟩:=RO.plain hx; exact RO.v _ h
  |sl k es=>simp[V1.closed] at hc
  |un=>exact RO.un _ (RO.one hx)
  |bl=>exact RO.bl _ _ _ _ (RO.one hx)
 |ref q=>obtain⟨x,fp,e⟩:=hx; exact⟨x,fp,by rw[hpl q (by rw[e]; simp) (by rw[e]; simp),e]⟩
 |ptr q i=>obtain⟨g,t,vs,e,hv⟩:=hx; exact⟨g,t,vs,by rw[hpl q (by rw[e]; simp) (by rw[e]; simp),e],hv⟩
 |sb q i j=>obtain⟨g,t,vs,e,hv⟩:=hx; exact⟨g,t,vs,by rw[hpl q (by rw[e]; simp) (by rw[e]; simp),e],hv⟩
 |el q k i j=>obtain⟨b,o,n',c,x,fp,e,hv⟩:=hx; exact⟨b,o,n',c,x,fp,by rw[hpl q (by rw[e]; simp) (by rw[e]; simp),e],hv⟩
 |rp=>simp[V1.closed] at hc
 |le q k i j=>obtain⟨b,o,n',c,x,fp,e,hv⟩:=hx; exact⟨b,o,n',c,x,fp,by rw[hpl q (by rw[e]; simp) (by rw[e]; simp),e],hv⟩
 |hd q i=>obtain⟨A,m',c,x,fp,e,hv⟩:=hx; exact⟨A,m',c,x,fp,by rw[hpl q (by rw[e]; simp) (by rw[e]; simp),e],hv⟩
 |tl q k i=>obtain⟨A,A',m',c,x,fp,e,hv⟩:=hx; exact⟨A,A',m',c,x,fp,by rw[hpl q (by rw[e]; simp) (by rw[e]; simp),e],hv⟩
 |un=>trivial
def Ob.back:Ob→Bool
 | .box cs=>cs.all V1.closed
 | .row _ _=>true
 | .bl _ _ _=>true
 |_=>false
end
def setL {α:Type}:List α→List Nat→List α→List α
 |l,r::rs,o::os=>setL (l.set r o) rs os
 |l,_,_=>l
theorem setL_len {α:Type}:∀ (rs:List Nat) (os:List α) (l:List α),(setL l rs os).length=l.length
 | [],os,l=>by cases os <;> rfl
 |r::rs,[],l=>rfl
 |r::rs,o::os,l=>by rw[setL,setL_len rs os,Gxm]
theorem setL_out {α:Type} {d:α}:∀ (rs:List Nat) (os:List α) (l:List α) (p:Nat),p∉rs→(setL l rs os).getD p d=l.getD p d
 | [],os,l,p,_=>by cases os <;> rfl
 |r::rs,[],l,p,_=>rfl
 |r::rs,o::os,l,p,hp=>by
  rw[setL,setL_out rs os _ p (fun h=>hp (by simp[h])),Gqc,Gxb (fun e=>hp (by simp[e])),Gqc]
theorem setL_in {α:Type} {d:α}:∀ (rs:List Nat) (os:List α) (l:List α) (q p:Nat) (x:α),rs.Nodup→(∀ r∈rs,r<l.length)→rs[q]? = some p→os[q]? = some x→(setL l rs os).getD p d=x
 | [],os,l,q,p,x,_,_,h,_=>by simp at h
 |r::rs,[],l,q,p,x,_,_,_,h=>by simp at h
 | r::rs,o::os,l,q,p,x,hn,hl,h1,h2=>by
  obtain⟨n1,n2⟩:=Gxq.1 hn
  cases q with
  |zero =>
   simp only[Gxa,Option.some.injEq] at h1 h2
   subst h1 h2
   rw[setL,setL_out rs os _ r n1,Gqc,Gxl (hl r (by simp))]
   rfl
  |succ q =>
   rw[setL]
   exact setL_in rs os _ q p x n2 (fun r hr=>by rw[Gxm]; exact hl r (by simp[hr])) (by simpa using h1) (by simpa using h2)
def gh1 (g:Nat×V2):Ob := .gh g.1 g.2
def gsrc (args:List V2) (lo:List Ob) (i:Nat):Option V2 :=
 match args[i]? with
 |some x=>some x
 |none=>match lo[i-args.length]? with
  |some (.row _ _)=>some (.c (.ref (i-args.length)))
  |_=>none
def pcV:Pc→Value
 | .ow _ v _=>v
 |_=>undef
def plc:V1→Option Nat
 | .ref q=>some q
 | .ptr q _=>some q
 |_=>none

def pickC:V2→Nat→Option V1
 | .c x,_=>some x
 | .ag xs,j=>xs[j]?
def pickU:V2→Value→Nat→Value
 | .c _,v,_=>v
 | .ag _,v,j=>match v with
  | .agg us=>us.toList.getD j undef
  |_=>undef
theorem R2.cell {x:V2} {v:Value} {j:Nat} {c:V1} (h:R2 w H F x v) (hp:pickC x j=some c):R1 w H F c (pickU x v j):=by
 cases x with
 |c x=>simp only[pickC,Option.some.injEq] at hp; subst hp; exact h
 |ag xs =>
  obtain⟨us,rfl,hl,hr⟩:=h
  have hj:j<us.length:=by rw[hl]; exact Zk hp
  have:=hr j c _ hp (Gqd hj)
  simpa[pickU,Gqc,hj] using this

end
end
end Go.Proofs.YtpmacgnmlmmojaaGreatDoor
