/-
  Rules, data and contracts of functions: part 18 of the proof.
  Conditions: those that each theorem names.
-/
import Derived.Test.YtalaljeokcpfnaaGreatDDPlayRowk16
set_option linter.unusedSimpArgs false
set_option linter.unusedVariables false
set_option maxRecDepth 8000
set_option maxHeartbeats 8000000
namespace Go.Proofs.YtalaljeokcpfnaaGreat
section
open Go.RowKit

abbrev Seen:=Bool×Bool×Bool×Bool
def tileM (e:Bool) (t:Int) (s:Seen×Bool):Option (Seen×Bool) :=
 if t=35 then some s else if e then none else
 if t=49 then (if s.1.1 then none else some ((true,s.1.2),true)) else
 if t=50 then (if s.1.2.1 then none else some ((s.1.1,true,s.1.2.2),true)) else
 if t=51 then (if s.1.2.2.1 then none else some ((s.1.1,s.1.2.1,true,s.1.2.2.2),true)) else
 if t=52 then (if s.1.2.2.2 then none else some ((s.1.1,s.1.2.1,s.1.2.2.1,true),true)) else
 if t=111∨t=46 then some (s.1,true) else none
def colsM (row:ByteArray) (er:Bool) (w:Nat) (s:Seen×Bool):Nat→Option (Seen×Bool)
 |0=>some s
 |c+1=>match colsM row er w s c with
  |none=>none
  |some s'=>tileM (er || decide (c=0) || decide (c+1=w)) (byteAt row c) s'
def rowsM (rows:List ByteArray) (w:Nat):Nat→Option (Seen×Bool)
 |0=>some ((false,false,false,false),false)
 | r+1=>match rowsM rows w r with
  |none=>none
  |some s=>match rows[r]? with
   |none=>none
   |some row=>if row.size=w then colsM row (decide (r=0) || decide (r+1=rows.length)) w s w else none
def widthM (rows:List ByteArray):Nat:=match rows[0]? with
 |some row=>row.size
 |none=>0
def levelOk (l:TLevel):Bool:=decide (3≤l.Rows.length)&&decide (l.Rows.length≤12)&&decide (4≤widthM l.Rows)&&decide (widthM l.Rows≤20)&&match rowsM l.Rows (widthM l.Rows) l.Rows.length with
 |some s=>s.2
 |none=>false

@[reducible] def vb (b:Bool):V1 := .rd [] (.v (.bool b))
section
variable {rows:List ByteArray} {row:ByteArray} {w k c:Nat} {s s':Seen×Bool} {er:Bool}
theorem rows_none {n:Nat} (h:rowsM rows w k=none) (hk:k≤n):rowsM rows w n=none:=by
 induction n with
 | zero => have:k=0:=Aqa
           subst this; exact h
 | succ n ih =>
  rcases Gqr n k with h1 | h1
  ·have:k=n+1:=Aqa
   subst this; exact h
  ·simp[rowsM,ih h1]
theorem cols_none {n:Nat} (h:colsM row er w s c=none) (hc:c≤n):colsM row er w s n=none:=by
 induction n with
 | zero => have:c=0:=Aqa
           subst this; exact h
 | succ n ih =>
  rcases Gqr n c with h1 | h1
  ·have:c=n+1:=Aqa
   subst this; exact h
  ·simp[colsM,ih h1]
theorem rows_next (h:rowsM rows w k=some s) (hk:k<rows.length) (hw:rows[k].size=w):rowsM rows w (k+1)=colsM rows[k] (decide (k=0) || decide (k+1=rows.length)) w s w:=by
 rw[rowsM,h]
 simp[Gqg hk,hw]
theorem rows_bad (hk:k<rows.length) (hw:rows[k].size≠w):rowsM rows w (k+1)=none:=by
 rw[rowsM]
 cases rowsM rows w k with
 |none=>rfl
 |some s=>simp[Gqg hk,hw]
theorem cols_next (h:colsM row er w s c=some s'):colsM row er w s (c+1)=tileM (er || decide (c=0) || decide (c+1=w)) (byteAt row c) s':=by
 rw[colsM,h]
theorem level_no {l:TLevel} (hk:k<l.Rows.length) (hw:widthM l.Rows=w) (h:rowsM l.Rows w (k+1)=none):levelOk l=false:=by
 unfold levelOk
 rw[hw,rows_none h Aqa]
 simp
theorem width_at (h:0<rows.length):widthM rows=rows[0].size:=by simp[widthM,Gqg h]
end
end
section
open Tryz
open Go.RowKit

theorem Xv (x:TLevel) (hg:Enc.gd x):Co 93 [] [ag x] [] (B (levelOk x)):=by
 obtain⟨rows⟩:=x
 have hn:Enc.gd rows:=hg
 have hn1:=hn.1
 have hlx:=Y7 rows
 refine Con.o func93 ntmps93 fun E=>?_;refine Wz [43,16,109,160,60,179,280,75] ?_
 refine Xb J (fun h=>?_) (fun h=>?_)
 ·simp only[Gqq,decide_eq_true_eq] at h
  refine Wz [69] ?_
  exact E_w [] J (Xk (by simp[levelOk]; omega))
 simp only[Gqm,decide_eq_false_iff_not] at h
 have h0:0<rows.length:=Aqa
 have hat0:(els rows)[(0:Int).toNat]? = some (Enc.e rows[0]):=Y4 h0
 have hw:=width_at h0
 refine Wz [42,18,100,38,40,160,103,239,75] ?_
 refine Xb J (fun h1=>?_) (fun h1=>?_)
 ·simp only[Gqq,decide_eq_true_eq] at h1
  refine Wz [69] ?_
  exact E_w [] J (Xk (by simp[levelOk]; omega))
 simp only[Gqm,decide_eq_false_iff_not] at h1
 obtain⟨w,hw'⟩:∃ w,w=rows[0].size:=⟨_,rfl⟩
 rw[←hw'] at hw h1
 refine Wz [42,3,82,1,23,4,109,138,34] ?_;refine Xj (fun m st=>∃ (k:Nat) (s:Seen×Bool),k+m=rows.length∧(rowsM rows w k=some s)∧st=(⟨_,[(1,Aqf 0),(3,I w),(4,Aqf 1),(5,B s.2),(33,L rows),(34,I (els rows).length),(35,I k)],[.box [.rd [] (sl rows)],.box [vb false,vb s.1.1,vb s.1.2.1,vb s.1.2.2.1,vb s.1.2.2.2]]⟩:St)) (rows.length) ⟨(fun (k:Nat) (s:Seen×Bool)=>(⟨_,[(1,Aqf 0),(3,I w),(4,Aqf 1),(5,B s.2),(33,L rows),(34,I (els rows).length),(35,I k)],[.box [.rd [] (sl rows)],.box [vb false,vb s.1.1,vb s.1.2.1,vb s.1.2.2.1,vb s.1.2.2.2]]⟩:St)) 0 (((false,false,false,false),false)),⟨0,((false,false,false,false),false),Aqa,J,J⟩,Yk [0,1] Aqc J Aqb (.c J (.cons (X0 Aqa) (.c J (.c J (.c J (.c J (.c J (.nil))))))))⟩ ?_
 rintro m_A _ ⟨k,s,hk_A,hp_A,rfl⟩
 refine Wz [3,58,4] ?_
 refine Xb J (fun h=>?_) (fun h=>?_)
 ·have h3:k<rows.length:=Bqx
  have hat:=Y4 h3
  have hgk:rows[k].size≤9223372036854775807:=hn.2 _ (Gqe h3)
  refine Wz [9,11,100,26,40,38,0,150,1] ?_
  refine Xb J (fun h4=>?_) (fun h4=>?_)
  ·have h4:¬rows[k].size=w:=by have:=Gqc h4; omega
   refine Wz [45,93,161,89] ?_
   exact E_w [] J (Xk (level_no (l:=⟨rows⟩) h3 hw (rows_bad h3 h4)).symm)
  have h4:rows[k].size=w:=by have:=Gqd h4; omega
  have hrn:=rows_next hp_A h3 h4
  obtain⟨er,her⟩:∃ er,er=(decide (k=0) || decide (k+1=rows.length)):=⟨_,rfl⟩
  rw[←her] at hrn
  refine Wz [42,51] ?_;refine Xj (fun m st=>∃ (c:Nat) (u:Seen×Bool),c+m=w∧(colsM rows[k] er w s c=some u)∧st=(⟨_,[(1,Aqf 0),(3,I w),(4,Aqf 1),(5,B u.2),(6,I k),(7,S rows[k]),(8,I c),(33,L rows),(34,I (els rows).length),(35,I k)],[.box [.rd [] (sl rows)],.box [vb false,vb u.1.1,vb u.1.2.1,vb u.1.2.2.1,vb u.1.2.2.2]]⟩:St)) (w) ⟨_,⟨0,s,Aqa,J,J⟩,Yj [0,1] Aqb⟩ ?_
  rintro m_D _ ⟨c,u,hk_D,hp_D,rfl⟩
  refine Wz [15,58] ?_
  refine Xb J (fun h5=>?_) (fun h5=>?_)
  ·have h5:c<w:=Bxv
   have hcn:=cols_next hp_D
   obtain⟨t,ht⟩:∃ t,byteAt rows[k] (c:Int).toNat=t:=⟨_,rfl⟩
   rw[show byteAt rows[k] c=t from ht] at hcn
   have htb:0≤t∧t≤255:=ht▸Yy _ _
   obtain⟨⟨sa,sb,sc,sd⟩,so⟩:=u
   obtain⟨e,he⟩:∃ e,e=(er || decide (c=0) || decide (c+1=w)):=⟨_,rfl⟩
   rw[←he] at hcn
   refine Wz [9,10,168,44,216,103,195,217,241] ?_;refine zx (Qt.grdF J J J (.hit (.hit (.hit (.hit .stop)))) (fun hgrd=>Xc J J J J Aqa)) J ?_;refine zx (Qt.grdF J J J (.hit (.hit (.hit (.hit (.hit .stop))))) (fun hgrd=>Kt J J J J)) J ?_;refine Wz [54,103] ?_;refine zx (Qt.grdF J J J (.hit .stop) (fun hgrd=>Kt J J J J)) J ?_;refine Wz [54,103,281] ?_;refine zx (Qt.grdF J J J (.hit (.hit .stop)) (fun hgrd=>Xc J J J J Aqa)) J ?_;refine zx (Qt.grdF J J J (.hit (.hit (.hit .stop))) (fun hgrd=>Kt J J J J)) J ?_;refine Wz [54,40,0,171] ?_;refine zx (Qt.grdT J J J (.hit .stop) (fun hgrd=>Vk J J J J)) J ?_;refine Wz [66,1] ?_
   have hee:(decide ((k:Int)=0) || decide ((k:Int)=((els rows).length:Int)-1) || decide ((c:Int)=0) || decide ((c:Int)=(w:Int)-1))=e:=by
    rw[he,her,hlx]
    have g1:decide ((k:Int)=0)=decide (k=0):=Aqd
    have g2:decide ((k:Int)=(rows.length:Int)-1)=decide (k+1=rows.length):=decide_eq_decide.2 Aqa 
    have g3:decide ((c:Int)=0)=decide (c=0):=Aqd
    have g4:decide ((c:Int)=(w:Int)-1)=decide (c+1=w):=decide_eq_decide.2 Aqa 
    rw[g1,g2,g3,g4]
   clear he her
   have hbad:colsM rows[k] er w s (c+1)=none→levelOk ⟨rows⟩=false:=fun hc=>level_no (l:=⟨rows⟩) h3 hw (hrn.trans (cols_none hc Aqa))
   refine Xb J (fun h6=>?_) (fun h6=>?_)
   ·rw[hee] at h6
    simp only[Gqh,decide_eq_true_eq] at h6
    refine Wz [45,93,161,57] ?_
    exact E_w [] J (Xk (hbad (hcn.trans (by simp[tileM,h6]))).symm)
   rw[hee] at h6
   have h7:t=35∨e=false:=by
    simp only[Gxp,decide_eq_false_iff_not,Classical.not_not] at h6
    exact h6.symm
   clear h6 hee
   refine AWP.kp [1,1,3,0,4,2,5,0,6,0,7,0,8,0,9,0,33,0,34,0,35,0] [] 2 [(0,.box [.rd [] (sl rows)]),(1,.box [vb false,vb sa,vb sb,vb sc,vb sd])] ?_
   rcases h7 with rfl | h7
   ·refine Wz [9,11] ?_
    refine zx (Ky (b:=false) J J J J Aqc) J ?_;refine Wz [0,87,5,8,90,11,233,0,87,5,0,87,5,8,90,149,133,11,233,81] ?_
    exact Bjl
   subst h7
   rcases (by omega:t=35∨t=49∨t=50∨t=51∨t=52∨t=111∨t=46∨(t≠35∧t≠49∧t≠50∧t≠51∧t≠52∧t≠111∧t≠46)) with rfl | rfl | rfl | rfl | rfl | rfl | rfl | ht7
   ·refine Wz [9,11] ?_
    refine zx (Ky (b:=false) J J J J Aqc) J ?_;refine Wz [0,87,5,8,90,11,233,0,87,5,0,87,5,8,90,149,133,11,233,81] ?_
    exact Bjl
   ·refine Wz [9,11] ?_
    refine Wz [234,14,242,46,8,117,41,196,243,197,1] ?_
    refine Xb J (fun h8=>?_) (fun h8=>?_)
    ·have h8:sa=true:=h8
     subst h8
     refine Wz [45,93,93,161,57] ?_
     exact Bzt
    ·have h8:sa=false:=h8
     subst h8
     refine Wz [42,27,196,243,244,53,133,11,186,32,94,110] ?_
     exact⟨w-(c+1),Aqa,_,⟨c+1,((true,sb,sc,sd),true),Aqa,hcn.trans Bq3,J⟩,Yj [0,1] Aqb⟩
   ·refine Wz [9,11] ?_
    refine Wz [234,14,242,46,8,117,41,196,243,197,1] ?_
    refine Xb J (fun h8=>?_) (fun h8=>?_)
    ·have h8:sb=true:=h8
     subst h8
     refine Wz [45,93,93,161,57] ?_
     exact Bzt
    ·have h8:sb=false:=h8
     subst h8
     refine Wz [42,27,196,243,244,53,133,11,186,32,94,110] ?_
     exact⟨w-(c+1),Aqa,_,⟨c+1,((sa,true,sc,sd),true),Aqa,hcn.trans Bq3,J⟩,Yj [0,1] Aqb⟩
   ·refine Wz [9,11] ?_
    refine Wz [234,14,242,46,8,117,41,196,243,197,1] ?_
    refine Xb J (fun h8=>?_) (fun h8=>?_)
    ·have h8:sc=true:=h8
     subst h8
     refine Wz [45,93,93,161,57] ?_
     exact Bzt
    ·have h8:sc=false:=h8
     subst h8
     refine Wz [42,27,196,243,244,53,133,11,186,32,94,110] ?_
     exact⟨w-(c+1),Aqa,_,⟨c+1,((sa,sb,true,sd),true),Aqa,hcn.trans Bq3,J⟩,Yj [0,1] Aqb⟩
   ·refine Wz [9,11] ?_
    refine Wz [234,14,242,46,8,117,41,196,243,197,1] ?_
    refine Xb J (fun h8=>?_) (fun h8=>?_)
    ·have h8:sd=true:=h8
     subst h8
     refine Wz [45,93,93,161,57] ?_
     exact Bzt
    ·have h8:sd=false:=h8
     subst h8
     refine Wz [42,27,196,243,244,53,133,11,186,32,94,110] ?_
     exact⟨w-(c+1),Aqa,_,⟨c+1,((sa,sb,sc,true),true),Aqa,hcn.trans Bq3,J⟩,Yj [0,1] Aqb⟩
   ·refine Wz [9,11] ?_
    refine Wz [234,14] ?_;refine zx (Ve (b:=false) J J J J Aqc) J ?_;refine Wz [46,8,90,11,186,14,233,46,0,87,5,8,90,149,133,11,186,32,94,110] ?_
    exact Bjm
   ·refine Wz [9,11] ?_
    refine zx (Ky (b:=false) J J J J Aqc) J ?_;refine Wz [0,87,5,8,90,11,186,14,186,46,14,233,46,8,90,149,133,11,186,32,94,110] ?_
    exact Bjm
   ·refine Wz [9,11,224] ?_
    refine Wz [0,171] ?_;refine zx (Qt.grdT J J J (.hit .stop) (fun hgrd=>q_leq J J J J)) J ?_;refine Wz [66,8] ?_
    refine Xb J (fun h8=>?_) (fun h8=>?_)
    ·simp only[Gqh,decide_eq_true_eq] at h8
     omega
    refine Wz [11,150,0,171] ?_;refine zx (Qt.grdT J J J (.hit .stop) (fun hgrd=>Vk J J J J)) J ?_;refine Wz [66,0,171] ?_;refine zx (Qt.grdT J J J (.hit .stop) (fun hgrd=>Vk J J J J)) J ?_;refine Wz [66,8] ?_
    refine Xb J (fun h9=>?_) (fun h9=>?_)
    ·refine Wz [45,198,93,235] ?_
     refine Wz [93,57] ?_
     exact E_w [] J (Xk (hbad (hcn.trans (by simp[tileM,ht7]))).symm)
    ·simp only[Gxp,decide_eq_false_iff_not,Classical.not_not] at h9
     omega
  ·have h5:c=w:=Bxw
   rw[h5] at hp_D
   rw[hp_D] at hrn
   refine Wz [180,181,104] ?_
   exact⟨rows.length-(k+1),Aqa,_,⟨k+1,u,Aqa,hrn,J⟩,Yj [0,1] Aqb⟩
 ·have h3:¬((k:Int)<(els rows).length):=Gqd h
  have hk:k=rows.length:=Aqa
  subst hk
  refine Wz [74] ?_
  exact E_w [] J (Xk (by
   unfold levelOk
   rw[hw,hp_A]
   have:3≤rows.length∧rows.length≤12∧4≤w∧w≤20:=Aqa
   simp[this]))
end
section
open Tryz
open Go.RowKit

theorem S_LevelOk (x:TLevel) (hg:Enc.gd x):Co 69 [] [ag x] [] (B (levelOk x)):=by
 obtain⟨rows⟩:=x
 have hn:Enc.gd rows:=hg
 have hn1:=hn.1
 have hlx:=Y7 rows
 refine Con.o func69 ntmps69 fun E=>?_;refine Wz [43,16,109] ?_;refine kc0 (Yg (els rows).length 3 12) ?_;refine Wz [6,1] ?_
 refine Xb J (fun h=>?_) (fun h=>?_)
 ·refine Wz [69] ?_
  exact E_w [] J (Xk (by simp[inR] at h; simp[levelOk]; omega))
 have h:3≤rows.length∧rows.length≤12:=by simp[inR] at h; omega
 have h0:0<rows.length:=Aqa
 have hat0:(els rows)[(0:Int).toNat]? = some (Enc.e rows[0]):=Y4 h0
 have hw:=width_at h0
 obtain⟨w,hw'⟩:∃ w,w=rows[0].size:=⟨_,rfl⟩
 rw[←hw'] at hw
 have hg0:rows[0].size≤9223372036854775807:=hn.2 _ (Gqe h0)
 refine Wz [42,18,100,38,8,23,3,116,16,51] ?_;refine Xj (fun m st=>∃ (k:Nat) (s:Seen×Bool),k+m=rows.length∧(rowsM rows w k=some s∧(0<k→4≤w∧w≤20))∧st=(⟨_,[(1,Aqf 0),(3,I w),(4,B s.2),(5,.o (.c (.sb 1 4 1))),(6,I k)],[.box [.rd [] (sl rows)],.box [vb s.1.1,vb s.1.2.1,vb s.1.2.2.1,vb s.1.2.2.2]]⟩:St)) (rows.length) ⟨(fun (k:Nat) (s:Seen×Bool)=>(⟨_,[(1,Aqf 0),(3,I w),(4,B s.2),(5,.o (.c (.sb 1 4 1))),(6,I k)],[.box [.rd [] (sl rows)],.box [vb s.1.1,vb s.1.2.1,vb s.1.2.2.1,vb s.1.2.2.2]]⟩:St)) 0 (((false,false,false,false),false)),⟨0,((false,false,false,false),false),Aqa,⟨J,Aqa⟩,J⟩,Yk [0,1] Aqc J Aqb (.c J (.cons (X0 Aqa) (.c J (.c J (.c J (.nil))))))⟩ ?_
 rintro m_A _ ⟨k,s,hk_A,hp_A,rfl⟩
 refine Wz [41,105,58] ?_
 refine Xb J (fun h=>?_) (fun h=>?_)
 ·have h3:k<rows.length:=Bqx
  have hat:=Y4 h3
  have hwc:((rows[0].size:Nat):Int)=w:=Aqa
  have hgk:rows[k].size≤9223372036854775807:=hn.2 _ (Gqe h3)
  refine Wz [9,4,65,100,38,0,150,103] ?_;refine zx (Qt.grdF J J J (.hit .stop) (fun hgrd=>Qj J J (Yg w 4 20) J)) J ?_;refine Wz [207,75] ?_
  refine Xb J (fun h4=>?_) (fun h4=>?_)
  ·simp only[Gqq,decide_eq_true_eq,Gq6,inR,Gxp,decide_eq_false_iff_not] at h4
   refine Wz [45,93,161,89] ?_
   refine E_w [] J (Xk ?_)
   by_cases h4':rows[k].size=w
   ·have:¬(4≤w∧w≤20):=Aqa
    simp only[levelOk,hw]
    rcases Gqr w 4 with h9 | h9
    ·simp[show ¬4≤w by omega]
    ·simp[show ¬w≤20 by omega]
   ·exact (level_no (l:=⟨rows⟩) h3 hw (rows_bad h3 h4')).symm
  simp only[Gqm,decide_eq_false_iff_not,Gq0,inR,Gqh,decide_eq_true_eq] at h4
  have h1:4≤w∧w≤20:=Aqa
  have h4:rows[k].size=w:=Aqa
  have hrn:=rows_next hp_A.1 h3 h4
  obtain⟨er,her⟩:∃ er,er=(decide (k=0) || decide (k+1=rows.length)):=⟨_,rfl⟩
  rw[←her] at hrn
  refine Wz [42,51] ?_;refine Xj (fun m st=>∃ (c:Nat) (u:Seen×Bool),c+m=w∧(colsM rows[k] er w s c=some u)∧st=(⟨_,[(1,Aqf 0),(3,I w),(4,B u.2),(5,.o (.c (.sb 1 4 1))),(6,I k),(7,I c)],[.box [.rd [] (sl rows)],.box [vb u.1.1,vb u.1.2.1,vb u.1.2.2.1,vb u.1.2.2.2]]⟩:St)) (w) ⟨_,⟨0,s,Aqa,J,J⟩,Yj [0,1] Aqb⟩ ?_
  rintro m_D _ ⟨c,u,hk_D,hp_D,rfl⟩
  refine Wz [15,58] ?_
  refine Xb J (fun h5=>?_) (fun h5=>?_)
  ·have h5:c<w:=Bxv
   have hcn:=cols_next hp_D
   obtain⟨t,ht⟩:∃ t,byteAt rows[k] (c:Int).toNat=t:=⟨_,rfl⟩
   rw[show byteAt rows[k] c=t from ht] at hcn
   have htb:0≤t∧t≤255:=ht▸Yy _ _
   obtain⟨⟨sa,sb,sc,sd⟩,so⟩:=u
   obtain⟨e,he⟩:∃ e,e=(er || decide (c=0) || decide (c+1=w)):=⟨_,rfl⟩
   rw[←he] at hcn
   refine Wz [9,65,158,48,168,44,216,103] ?_;refine zx (Qt.grdF J J J (.hit .stop) (fun hgrd=>Kt J J J J)) J ?_;refine Wz [54,103,195,217,241] ?_;refine zx (Qt.grdF J J J (.hit (.hit (.hit (.hit .stop)))) (fun hgrd=>Xc J J J J Aqa)) J ?_;refine zx (Qt.grdF J J J (.hit (.hit (.hit (.hit (.hit .stop))))) (fun hgrd=>Kt J J J J)) J ?_;refine Wz [54,103,281] ?_;refine zx (Qt.grdF J J J (.hit (.hit .stop)) (fun hgrd=>Xc J J J J Aqa)) J ?_;refine zx (Qt.grdF J J J (.hit (.hit (.hit .stop))) (fun hgrd=>Kt J J J J)) J ?_;refine Wz [54,16,34,11,216,8] ?_
   have hee:(decide ((k:Int)=0) || decide ((c:Int)=0) || decide ((k:Int)=((els rows).length:Int)-1) || decide ((c:Int)=(w:Int)-1))=e:=by
    rw[he,her,hlx]
    have g1:decide ((k:Int)=0)=decide (k=0):=Aqd
    have g2:decide ((k:Int)=(rows.length:Int)-1)=decide (k+1=rows.length):=decide_eq_decide.2 Aqa 
    have g3:decide ((c:Int)=0)=decide (c=0):=Aqd
    have g4:decide ((c:Int)=(w:Int)-1)=decide (c+1=w):=decide_eq_decide.2 Aqa 
    rw[g1,g2,g3,g4]
    cases decide (k=0) <;> cases decide (c=0) <;> cases decide (k+1=rows.length) <;> rfl
   clear he her
   have hbad:colsM rows[k] er w s (c+1)=none→levelOk ⟨rows⟩=false:=fun hc=>level_no (l:=⟨rows⟩) h3 hw (hrn.trans (cols_none hc Aqa))
   refine AWP.pre (st':=(⟨_,[(1,Aqf 0),(3,I w),(4,B so),(5,.o (.c (.sb 1 4 1))),(6,I k),(7,I c),(8,VI .u8 t),(9,B e),(73,B (decide (t=35)))],[.box [.rd [] (sl rows)],.box [vb sa,vb sb,vb sc,vb sd]]⟩:St)) ?_ (Yk [0,1] Aqc J Aqb (.c J (.c J (.c J (.c J (.c J (.c J (.c J (.cons (Xk hee) (.c J (.nil)))))))))))
   by_cases h7:t=35
   ·subst h7
    refine Wz [117,149,194,103] ?_;refine zx (Qt.grdF J J J (.hit .stop) (fun hgrd=>Qw (b:=false) J J J J Aqc)) J ?_;refine Wz [54,110] ?_
    exact⟨w-(c+1),Aqa,(fun (c:Nat) (u:Seen×Bool)=>(⟨_,[(1,Aqf 0),(3,I w),(4,B u.2),(5,.o (.c (.sb 1 4 1))),(6,I k),(7,I c)],[.box [.rd [] (sl rows)],.box [vb u.1.1,vb u.1.2.1,vb u.1.2.2.1,vb u.1.2.2.2]]⟩:St)) (c+1) (((sa,sb,sc,sd),so)),⟨c+1,((sa,sb,sc,sd),so),Aqa,hcn.trans Bq3,J⟩,Yk [0,1] Aqc J Aqb (.c J (.c J (.cons (Xk Aqd) (.c J (.c J (.c J (.nil)))))))⟩
   cases e
   case true =>
    have f1:decide (t=35)=false:=Gqa h7
    refine Xb J (fun h=>absurd (Gqc h) h7) (fun _=>?_)
    refine Wz [10,87,80,139,139,87,139,139,139,139,139,139,80,46,8,117,45,198,93,161,57] ?_
    exact E_w [] J (Xk (hbad (hcn.trans (by simp[tileM,h7]))).symm)
   refine Xb J (fun h=>absurd (Gqc h) h7) (fun _=>?_)
   rcases (by omega:t=49∨t=50∨t=51∨t=52∨t=111∨t=46∨(t≠35∧t≠49∧t≠50∧t≠51∧t≠52∧t≠111∧t≠46)) with rfl | rfl | rfl | rfl | rfl | rfl | ht7
   ·refine Wz [11,21] ?_
    refine Wz [21,186,2,14,186,2,46,2,14,19,2,14,111,2,5,2,46,5,8,90,11,234,14,242,46,8,117,15,196,225,197,1] ?_
    refine Xb J (fun h8=>?_) (fun h8=>?_)
    ·have h8:sa=true:=h8
     subst h8
     refine Wz [45,93,93,161,57] ?_
     exact Bzt
    ·have h8:sa=false:=h8
     subst h8
     refine Wz [42,27,0,196,225,244,53,194,103,260,54,110] ?_
     exact⟨w-(c+1),Aqa,(fun (c:Nat) (u:Seen×Bool)=>(⟨_,[(1,Aqf 0),(3,I w),(4,B u.2),(5,.o (.c (.sb 1 4 1))),(6,I k),(7,I c)],[.box [.rd [] (sl rows)],.box [vb u.1.1,vb u.1.2.1,vb u.1.2.2.1,vb u.1.2.2.2]]⟩:St)) (c+1) (((true,sb,sc,sd),true)),⟨c+1,((true,sb,sc,sd),true),Aqa,hcn.trans Bq3,J⟩,Yk [0,1] Aqc J Aqb (.c J (.c J (.cons (Xk Aqd) (.c J (.c J (.c J (.nil)))))))⟩
   ·refine Wz [11,21] ?_
    refine Wz [21,186,2,14,186,2,46,2,14,19,2,14,111,2,5,2,46,5,8,90,11,234,14,242,46,8,117,15,196,225,197,1] ?_
    refine Xb J (fun h8=>?_) (fun h8=>?_)
    ·have h8:sb=true:=h8
     subst h8
     refine Wz [45,93,93,161,57] ?_
     exact Bzt
    ·have h8:sb=false:=h8
     subst h8
     refine Wz [42,27,0,196,225,244,53,194,103,260,54,110] ?_
     exact⟨w-(c+1),Aqa,(fun (c:Nat) (u:Seen×Bool)=>(⟨_,[(1,Aqf 0),(3,I w),(4,B u.2),(5,.o (.c (.sb 1 4 1))),(6,I k),(7,I c)],[.box [.rd [] (sl rows)],.box [vb u.1.1,vb u.1.2.1,vb u.1.2.2.1,vb u.1.2.2.2]]⟩:St)) (c+1) (((sa,true,sc,sd),true)),⟨c+1,((sa,true,sc,sd),true),Aqa,hcn.trans Bq3,J⟩,Yk [0,1] Aqc J Aqb (.c J (.c J (.cons (Xk Aqd) (.c J (.c J (.c J (.nil)))))))⟩
   ·refine Wz [11,21] ?_
    refine Wz [21,186,2,14,186,2,46,2,14,19,2,14,111,2,5,2,46,5,8,90,11,234,14,242,46,8,117,15,196,225,197,1] ?_
    refine Xb J (fun h8=>?_) (fun h8=>?_)
    ·have h8:sc=true:=h8
     subst h8
     refine Wz [45,93,93,161,57] ?_
     exact Bzt
    ·have h8:sc=false:=h8
     subst h8
     refine Wz [42,27,0,196,225,244,53,194,103,260,54,110] ?_
     exact⟨w-(c+1),Aqa,(fun (c:Nat) (u:Seen×Bool)=>(⟨_,[(1,Aqf 0),(3,I w),(4,B u.2),(5,.o (.c (.sb 1 4 1))),(6,I k),(7,I c)],[.box [.rd [] (sl rows)],.box [vb u.1.1,vb u.1.2.1,vb u.1.2.2.1,vb u.1.2.2.2]]⟩:St)) (c+1) (((sa,sb,true,sd),true)),⟨c+1,((sa,sb,true,sd),true),Aqa,hcn.trans Bq3,J⟩,Yk [0,1] Aqc J Aqb (.c J (.c J (.cons (Xk Aqd) (.c J (.c J (.c J (.nil)))))))⟩
   ·refine Wz [11,21] ?_
    refine Wz [21,186,2,14,186,2,46,2,14,19,2,14,111,2,5,2,46,5,8,90,11,234,14,242,46,8,117,15,196,225,197,1] ?_
    refine Xb J (fun h8=>?_) (fun h8=>?_)
    ·have h8:sd=true:=h8
     subst h8
     refine Wz [45,93,93,161,57] ?_
     exact Bzt
    ·have h8:sd=false:=h8
     subst h8
     refine Wz [42,27,0,196,225,244,53,194,103,260,54,110] ?_
     exact⟨w-(c+1),Aqa,(fun (c:Nat) (u:Seen×Bool)=>(⟨_,[(1,Aqf 0),(3,I w),(4,B u.2),(5,.o (.c (.sb 1 4 1))),(6,I k),(7,I c)],[.box [.rd [] (sl rows)],.box [vb u.1.1,vb u.1.2.1,vb u.1.2.2.1,vb u.1.2.2.2]]⟩:St)) (c+1) (((sa,sb,sc,true),true)),⟨c+1,((sa,sb,sc,true),true),Aqa,hcn.trans Bq3,J⟩,Yk [0,1] Aqc J Aqb (.c J (.c J (.cons (Xk Aqd) (.c J (.c J (.c J (.nil)))))))⟩
   ·refine Wz [11,21] ?_
    refine Wz [21,22,2,0,87,2,5,2,0,87,80,139,139,80,2,5,5,8,90,11,234,14] ?_;refine z9b J Aqe ?_;refine Wz [46,8,90,149,194,103,260,54,110] ?_
    exact Bjn
   ·refine Wz [11,21] ?_
    refine Wz [21,186,2,14,22,2,46,2,0,87,80,139,139,80,2,5,5,8,90,11,169,0,87,5,8,90,149,194,103,260,54,110] ?_
    exact Bjn
   ·refine Wz [11,21] ?_
    refine Wz [21,150,2,0,171] ?_;refine zx (Qt.grdT J J J (.hit .stop) (fun hgrd=>Vk J J J J)) J ?_;refine Wz [2,66,2,0,171] ?_;refine zx (Qt.grdT J J J (.hit .stop) (fun hgrd=>Vh J J J J)) J ?_;refine zx (Qt.grdT J J J (.hit (.hit .stop)) (fun hgrd=>Qa J J J)) J ?_;refine zx (Qt.grd2F J J J (.hit1 (.hit1 (.hit1 .stop))) (fun hgrd hgrd2=>Qa J J J)) J ?_;refine zx (Qt.grd2F J J J (.hit (.hit1 (.hit1 (.hit1 .stop)))) (fun hgrd hgrd2=>Kz J J J J)) J ?_;refine zx (Qt.grdT J J J (.part (.part (.hit (.hit (.hit .stop))))) (fun hgrd=>Vm J J J J)) J ?_;refine Wz [2,66,5,8] ?_
    refine Xb J (fun h8=>?_) (fun h8=>?_)
    ·refine Wz [45,198,93,235] ?_
     refine Wz [93,57] ?_
     exact E_w [] J (Xk (hbad (hcn.trans (by simp[tileM,ht7]))).symm)
    ·simp only[Gxp,Gqm,Bool.false_or,decide_eq_false_iff_not,Classical.not_not] at h8
     omega
  ·have h5:c=w:=Bxw
   rw[h5] at hp_D
   rw[hp_D] at hrn
   refine Wz [180,181,226] ?_
   exact⟨rows.length-(k+1),Aqa,_,⟨k+1,u,Aqa,⟨hrn,fun _=>h1⟩,J⟩,Yj [0,1] Aqb⟩
 ·have h3:¬((k:Int)<(els rows).length):=Gqd h
  have hk:k=rows.length:=Aqa
  subst hk
  refine Wz [74] ?_
  exact E_w [] J (Xk (by
   unfold levelOk
   rw[hw,hp_A.1]
   have h1:=hp_A.2 Aqa 
   have:3≤rows.length∧rows.length≤12∧4≤w∧w≤20:=Aqa
   simp[this]))
end
section
open Tryz
open Go.RowKit

theorem rowsM_size {rows:List ByteArray} {w:Nat}:∀ n s,rowsM rows w n=some s→∀ r,r<n→∃ row,rows[r]? = some row∧row.size=w
 |0,s,_=>fun r hr=>by omega
 | n+1,s,h=>fun r hr=>by
  rw[rowsM] at h
  split at h
  ·cases h
  ·rename_i s1 h1
   split at h
   ·cases h
   ·rename_i row hrow
    split at h
    ·rename_i hw
     by_cases e:r=n
     ·subst e; exact⟨row,hrow,hw⟩
     ·exact rowsM_size n s1 h1 r Aqa 
    ·cases h
theorem Zp {l:TLevel} (h:levelOk l=true):3≤l.Rows.length∧l.Rows.length≤12∧∃ w,4≤w∧w≤20∧∀ (r:Nat) (hr:r<l.Rows.length),(l.Rows[r]).size=w:=by
 unfold levelOk at h
 simp only[Gqh,decide_eq_true_eq] at h
 obtain⟨⟨⟨⟨h1,h2⟩,h3⟩,h4⟩,h5⟩:=h
 refine⟨h1,h2,widthM l.Rows,h3,h4,fun r hr=>?_⟩
 split at h5
 ·rename_i s hs
  obtain⟨row,h6,h7⟩:=rowsM_size _ s hs r hr
  rw[Gqg hr] at h6
  simp only[Option.some.injEq] at h6
  rw[h6]; exact h7
 ·cases h5
def sizeOf (k:Int):Int:=if k=0 then 12 else if k=1 then 4 else if k=2 then 8 else 0
theorem I_SizeOf (k:Int):Co 233 [] [ai k] [] (I (sizeOf k)):=by
 have va_:=@func233; have vb_:=@ntmps233; exact Bqg
theorem S_SizeOf (k:Int):Co 187 [] [ai k] [] (I (sizeOf k)):=by
 have va_:=@func187; have vb_:=@ntmps187; exact Bqg
def wallAt (l:TLevel) (r c:Int):Prop:=∀ (q:Nat) (hq:q<l.Rows.length),r=q→0≤c→c<(l.Rows[q]).size→byteAt (l.Rows[q]) c.toNat=35
def hits (l:TLevel) (x y s:Int):Prop:=∃ r c:Int,y/16≤r∧r≤(y+s-1)/16∧x/16≤c∧c≤(x+s-1)/16∧wallAt l r c
noncomputable def solidM (l:TLevel) (x y s:Int):Bool:=@decide (hits l x y s) (Classical.propDecidable _)
theorem V8 {l:TLevel} {x y s:Int} (h:hits l x y s):solidM l x y s=true:=@decide_eq_true _ (Classical.propDecidable _) h
theorem solidM_F {l:TLevel} {x y s:Int} (h:¬hits l x y s):solidM l x y s=false:=@decide_eq_false _ (Classical.propDecidable _) h
theorem wall_tile {l:TLevel} {r c:Nat} (hr:r<l.Rows.length) (h:byteAt (l.Rows[r]) c=35):wallAt l r c:=fun q hq e h0 h1=>by
 have:q=r:=Aqa
 subst this
 exact h
theorem no_wall {l:TLevel} {r c:Nat} (hr:r<l.Rows.length) (hc:c<(l.Rows[r]).size) (h:byteAt (l.Rows[r]) c≠35):¬wallAt l r c:=fun hw=>h (hw r hr rfl Aqa Aqa)
theorem out_hits {l:TLevel} {x y s:Int} {w:Nat} (hw:∀ (r:Nat) (hr:r<l.Rows.length),(l.Rows[r]).size=w) (h1:1≤s) (h:x<0∨y<0∨(w:Int)*16-s<x∨(l.Rows.length:Int)*16-s<y):hits l x y s:=by
 by_cases hx:x<0
 ·exact⟨y/16,x/16,Aqa,Aqa,Aqa,Aqa,fun q hq e h0 h1=>by omega⟩
 by_cases hy:y<0
 ·exact⟨y/16,x/16,Aqa,Aqa,Aqa,Aqa,fun q hq e h0 h1=>by omega⟩
 by_cases hx2:(w:Int)*16-s<x
 ·exact⟨y/16,(x+s-1)/16,Aqa,Aqa,Aqa,Aqa,fun q hq e h0 h1=>by have:=hw q hq; omega⟩
 ·exact⟨(y+s-1)/16,x/16,Aqa,Aqa,Aqa,Aqa,fun q hq e h0 h1=>by omega⟩
def freeR (l:TLevel) (x s:Int) (a b:Int):Prop:=∀ r c:Int,a≤r→r<b→x/16≤c→c≤(x+s-1)/16→¬wallAt l r c
def freeC (l:TLevel) (r:Int) (a b:Int):Prop:=∀ c:Int,a≤c→c<b→¬wallAt l r c
theorem free_all {l:TLevel} {x y s b:Int} (h:freeR l x s (y/16) b) (hb:(y+s-1)/16<b):¬hits l x y s:=fun ⟨r,c,h1,h2,h3,h4,h5⟩=>h r c h1 Aqa h3 h4 h5
theorem free_row {l:TLevel} {x s a b e:Int} (h:freeR l x s a b) (hc:freeC l b (x/16) e) (he:(x+s-1)/16<e):freeR l x s a (b+1):=fun r c h1 h2 h3 h4=>by
 by_cases hr:r<b
 ·exact h r c h1 hr h3 h4
 ·have:r=b:=Aqa
  subst this
  exact hc c h3 Aqa 
theorem free_col {l:TLevel} {r a b:Int} (h:freeC l r a b) (hn:¬wallAt l r b):freeC l r a (b+1):=fun c h1 h2=>by
 by_cases hc:c<b
 ·exact h c h1 hc
 ·have:c=b:=Aqa
  subst this
  exact hn
theorem I_solid (l:TLevel) (x y s:Int) (hl:levelOk l=true) (hx:I64 x) (hy:I64 y) (h1:1≤s) (h16:s≤16):Co 259 [] [ag l,ai x,ai y,ai s] [] (B (solidM l x y s)):=by
 obtain⟨hx1,hx2⟩:=hx
 obtain⟨hy1,hy2⟩:=hy
 obtain⟨f3,f12,w,w4,w20,hw⟩:=Zp hl
 have hlx:=Y7 l.Rows
 have h0:0<l.Rows.length:=Aqa
 have hat0:(els l.Rows)[(0:Int).toNat]? = some (Enc.e l.Rows[0]):=Y4 h0
 have hw0:=hw 0 h0
 refine Con.o func259 ntmps259 fun E=>?_;refine Wz [96,18,100,38,144,8,109,144,40,160,103] ?_;refine zx (Qt.grdF J J J (.hit .stop) (fun hgrd=>Vh J J J J)) J ?_;refine Wz [54,103,281,208] ?_;refine zx (Qt.grdF J J J (.hit (.hit (.hit .stop))) (fun hgrd=>Xc J J J J Aqa)) J ?_;refine zx (Qt.grdF J J J (.hit (.hit (.hit (.hit .stop)))) (fun hgrd=>Kz J J J J)) J ?_;refine Wz [54,103,281,208] ?_;refine zx (Qt.grdF J J J (.hit (.hit (.hit .stop))) (fun hgrd=>Xc J J J J Aqa)) J ?_;refine zx (Qt.grdF J J J (.hit (.hit (.hit (.hit .stop)))) (fun hgrd=>Kz J J J J)) J ?_;refine Wz [75] ?_
 refine Xb J (fun h=>?_) (fun h=>?_)
 ·simp only[Gqq,decide_eq_true_eq] at h
  rw[V8 (out_hits hw h1 Aqa)]
  refine Wz [69] ?_
  exact Bzh
 simp only[Gqm,decide_eq_false_iff_not] at h
 refine Wz [42,41,205,8,34] ?_;refine Xj (fun m__ st=>∃ (r:Nat),((y+s-1)/16+1).toNat-r=m__∧(y/16≤r∧(r:Int)≤(y+s-1)/16+1∧freeR l x s (y/16) r)∧st=(⟨_,[(1,I x),(2,I y),(3,I s),(4,Aqf 0),(11,I r)],[.box (Aqi l)]⟩:St)) _ ⟨(fun (r:Nat)=>(⟨_,[(1,I x),(2,I y),(3,I s),(4,Aqf 0),(11,I r)],[.box (Aqi l)]⟩:St)) ((y/16).toNat),⟨(y/16).toNat,J,⟨Aqa,Aqa,fun r c h1 h2=>by omega⟩,J⟩,Yk [0] Aqc J Aqb (.c J (.c J (.c J (.c J (.cons (X0 Aqa) (.nil))))))⟩ ?_
 rintro m_A _ ⟨r,hk_A,hp_A,rfl⟩
 obtain⟨hr1,hr2,hfr⟩:=hp_A
 refine Wz [15,0,13,29,205,237,1] ?_
 refine Xb J (fun h5=>?_) (fun h5=>?_)
 ·have h5:=Gqc h5
  have hrl:r<l.Rows.length:=Aqa
  have hat:=Y4 hrl
  have hwr:=hw r hrl
  refine Wz [9,11,205,8,34] ?_;refine Xj (fun m__ st=>∃ (c:Nat),((x+s-1)/16+1).toNat-c=m__∧(x/16≤c∧(c:Int)≤(x+s-1)/16+1∧freeC l r (x/16) c)∧st=(⟨_,[(1,I x),(2,I y),(3,I s),(4,Aqf 0),(11,I r),(12,I c)],[.box (Aqi l)]⟩:St)) _ ⟨(fun (c:Nat)=>(⟨_,[(1,I x),(2,I y),(3,I s),(4,Aqf 0),(11,I r),(12,I c)],[.box (Aqi l)]⟩:St)) ((x/16).toNat),⟨(x/16).toNat,J,⟨Aqa,Aqa,fun c h1 h2=>by omega⟩,J⟩,Yk [0] Aqc J Aqb (.c J (.c J (.c J (.c J (.c J (.cons (X0 Aqa) (.nil)))))))⟩ ?_
  rintro m_B _ ⟨c,hk_B,hp_B,rfl⟩
  obtain⟨hc1,hc2,hfc⟩:=hp_B
  refine Wz [15,0,13,29,205,237,1] ?_
  refine Xb J (fun h6=>?_) (fun h6=>?_)
  ·have h6:=Gqc h6
   refine Wz [9,65,158,48,172,216,1] ?_
   refine Xb J (fun h7=>?_) (fun h7=>?_)
   ·have h7:=Gqc h7
    rw[V8 ⟨(r:Int),(c:Int),hr1,Aqa,hc1,Aqa,wall_tile hrl h7⟩]
    refine Wz [45,215,57] ?_
    exact Bzh
   ·have h7:=Gqd h7
    refine Wz [149,226] ?_
    refine⟨_, Aqa,_,⟨c+1,J,⟨Aqa,Aqa,free_col hfc (no_wall hrl Aqa h7)⟩,J⟩,Yj [0] Aqb⟩
  ·have h6:=Gqd h6
   refine Wz [180,181,226] ?_
   refine⟨_, Aqa,_,⟨r+1,J,⟨Aqa,Aqa,free_row hfr hfc Aqa⟩,J⟩,Yj [0] Aqb⟩
 ·have h5:=Gqd h5
  rw[solidM_F (free_all hfr Aqa)]
  refine Wz [30,101] ?_
  exact Bzh
theorem S_l02Solid (l:TLevel) (x y s:Int) (hl:levelOk l=true) (hx:I64 x) (hy:I64 y) (h1:1≤s) (h16:s≤16):Co 186 [] [ag l,ai x,ai y,ai s] [] (B (solidM l x y s)):=by
 obtain⟨hx1,hx2⟩:=hx
 obtain⟨hy1,hy2⟩:=hy
 obtain⟨f3,f12,w,w4,w20,hw⟩:=Zp hl
 have hlx:=Y7 l.Rows
 refine Con.o func186 ntmps186 fun E=>?_;refine Wz [43,40] ?_;refine kc0 (Yg x 0 1000) ?_;refine Wz [6,103] ?_;refine zx (Qt.grdF J J J (.hit .stop) (fun hgrd=>Qj J J (Yg y 0 1000) J)) J ?_;refine Wz [207,75] ?_
 refine Xb J (fun h=>?_) (fun h=>?_)
 ·have h:¬(0≤x∧x≤1000)∨¬(0≤y∧y≤1000):=by
   rw[←Zm,←Zm]
   simpa using h
  rw[V8 (out_hits hw h1 Aqa)]
  refine Wz [69] ?_
  exact Bzh
 have h:(0≤x∧x≤1000)∧(0≤y∧y≤1000):=by
  rw[←Zm,←Zm]
  simpa using h
 refine Wz [42,41,205,8,34] ?_;refine Xj (fun m__ st=>∃ (r:Nat),((y+s-1)/16+1).toNat-r=m__∧(y/16≤r∧(r:Int)≤(y+s-1)/16+1∧freeR l x s (y/16) r)∧st=(⟨_,[(1,I x),(2,I y),(3,I s),(4,Aqf 0),(9,I r)],[.box (Aqi l)]⟩:St)) _ ⟨(fun (r:Nat)=>(⟨_,[(1,I x),(2,I y),(3,I s),(4,Aqf 0),(9,I r)],[.box (Aqi l)]⟩:St)) ((y/16).toNat),⟨(y/16).toNat,J,⟨Aqa,Aqa,fun r c h1 h2=>by omega⟩,J⟩,Yk [0] Aqc J Aqb (.c J (.c J (.c J (.c J (.cons (X0 Aqa) (.nil))))))⟩ ?_
 rintro m_A _ ⟨r,hk_A,hp_A,rfl⟩
 obtain⟨hr1,hr2,hfr⟩:=hp_A
 refine Wz [15,0,13,29,205,237,1] ?_
 refine Xb J (fun h5=>?_) (fun h5=>?_)
 ·have h5:=Gqc h5
  refine Wz [9,11,205,8,34] ?_;refine Xj (fun m__ st=>∃ (c:Nat),((x+s-1)/16+1).toNat-c=m__∧(x/16≤c∧(c:Int)≤(x+s-1)/16+1∧freeC l r (x/16) c)∧st=(⟨_,[(1,I x),(2,I y),(3,I s),(4,Aqf 0),(9,I r),(10,I c)],[.box (Aqi l)]⟩:St)) _ ⟨(fun (c:Nat)=>(⟨_,[(1,I x),(2,I y),(3,I s),(4,Aqf 0),(9,I r),(10,I c)],[.box (Aqi l)]⟩:St)) ((x/16).toNat),⟨(x/16).toNat,J,⟨Aqa,Aqa,fun c h1 h2=>by omega⟩,J⟩,Yk [0] Aqc J Aqb (.c J (.c J (.c J (.c J (.c J (.cons (X0 Aqa) (.nil)))))))⟩ ?_
  rintro m_B _ ⟨c,hk_B,hp_B,rfl⟩
  obtain⟨hc1,hc2,hfc⟩:=hp_B
  refine Wz [15,0,13,29,205,237,1] ?_
  refine Xb J (fun h6=>?_) (fun h6=>?_)
  ·have h6:=Gqc h6
   by_cases hrl:r<l.Rows.length
   ·have hat:=Y4 hrl
    have hb:decide (((els l.Rows).length:Int)≤r)=false:=Gqa Aqa 
    by_cases hcl:c<(l.Rows[r]).size
    ·have hb2:decide (((l.Rows[r]).size:Int)≤c)=false:=Gqa Aqa 
     by_cases h7:byteAt (l.Rows[r]) c=35
     ·have hb3:decide (byteAt (l.Rows[r]) (c:Int).toNat=35)=true:=Gqb h7
      rw[V8 ⟨(r:Int),(c:Int),hr1,Aqa,hc1,Aqa,wall_tile hrl h7⟩]
      refine Wz [9,11,105,169,14,112,21,158,2,209,2,38,2,169,5,71,21,158,2,209,2,21,168,2,282,5,32,45,215,57] ?_
      exact Bzh
     ·have hb3:decide (byteAt (l.Rows[r]) (c:Int).toNat=35)=false:=Gqa h7
      refine Wz [9,11,105,169,14,112,21,158,2,209,2,38,2,169,5,71,21,158,2,209,2,21,172,2,20,5,81] ?_
      refine⟨_, Aqa,_,⟨c+1,J,⟨Aqa,Aqa,free_col hfc (no_wall hrl hcl h7)⟩,J⟩,Yj [0] Aqb⟩
    ·have hb2:decide (((l.Rows[r]).size:Int)≤c)=true:=Gqb Aqa 
     rw[V8 ⟨(r:Int),(c:Int),hr1,Aqa,hc1,Aqa,fun q hq e g0 g1=>by have:q=r:=Aqa; subst this; omega⟩]
     refine Wz [9,11,105,169,14,112,21,158,2,209,2,38,2,169,5,55,182,83,45,215,57] ?_
     exact Bzh
   ·have hb:decide (((els l.Rows).length:Int)≤r)=true:=Gqb Aqa 
    rw[V8 ⟨(r:Int),(c:Int),hr1,Aqa,hc1,Aqa,fun q hq e g0 g1=>by omega⟩]
    refine Wz [9,11,105,169,55,182,46,55,182,83,45,215,57] ?_
    exact Bzh
  ·have h6:=Gqd h6
   refine Wz [180,181,226] ?_
   refine⟨_, Aqa,_,⟨r+1,J,⟨Aqa,Aqa,free_row hfr hfc Aqa⟩,J⟩,Yj [0] Aqb⟩
 ·have h5:=Gqd h5
  rw[solidM_F (free_all hfr Aqa)]
  refine Wz [30,101] ?_
  exact Bzh
noncomputable def solidAt (l:TLevel) (x y s:Int):Bool:=(!inR s 1 16 || !levelOk l) || solidM l x y s
theorem I_SolidAt (l:TLevel) (x y s:Int) (hg:Enc.gd l) (hx:I64 x) (hy:I64 y):Co 232 [] [ag l,ai x,ai y,ai s] [] (B (solidAt l x y s)):=by
 have hc:=Xv l hg
 by_cases hs:¬(1≤s∧s≤16)
 ·have hf:inR s 1 16=false:=by rw[←Gxu,Zm]; exact hs
  rw[show solidAt l x y s=true by rw[solidAt,hf]; rfl]
  refine Con.o func232 ntmps232 fun E=>?_;refine Wz [43,40,160,103,239,54,0] ?_;refine zx (Qt.grdF J J J .stop (fun hgrd=>Qu J J J J J J)) J ?_;refine zx (Qt.grdF J J J (.hit .stop) (fun hgrd=>Qj J J (hc) J)) J ?_;refine Wz [207,75] ?_
  refine Xb J (fun h=>?_) (fun h=>?_)
  ·refine Wz [69] ?_
   exact Bzh
  ·simp only[Gqm,decide_eq_false_iff_not] at h
   omega
 have hs:=Classical.not_not.1 hs
 have hb1:decide (s<1)=false:=Gqa Aqa 
 have hb2:decide (16<s)=false:=Gqa Aqa 
 cases ho:levelOk l with
 |false =>
  rw[ho] at hc
  rw[show solidAt l x y s=true by rw[solidAt,ho]; simp]
  refine Con.o func232 ntmps232 fun E=>?_;refine Wz [43,143,14,111,5,21,85,2] ?_;refine kc0 hc ?_;refine Wz [2,6,5,115] ?_
  exact Bzh
 |true =>
  rw[ho] at hc
  rw[show solidAt l x y s=solidM l x y s by rw[solidAt,ho,Zm.2 hs]; rfl]
  have hd:=I_solid l x y s ho hx hy hs.1 hs.2
  refine Con.o func232 ntmps232 fun E=>?_;refine Wz [43,143,14,111,5,21,85,2] ?_;refine kc0 hc ?_;refine Wz [2,6,5,28,7,141,0] ?_;refine kc0 hd ?_;refine Wz [36] ?_
  exact Bzh
end
end Go.Proofs.YtalaljeokcpfnaaGreat
