/-
  Rules, data and contracts of functions: part 19 of the proof.
  Conditions: those that each theorem names.
-/
import Derived.Test.YtoecjaohdnoenaaGreatDDJoinRowk17
set_option linter.unusedSimpArgs false
set_option linter.unusedVariables false
set_option maxRecDepth 8000
set_option maxHeartbeats 8000000
namespace Go.Proofs.YtoecjaohdnoenaaGreat
section
open Go.RowKit

abbrev Seen:=Bool×Bool×Bool×Bool
def tileM (e:Bool) (t:Int) (s:Seen×Bool):Option (Seen×Bool) :=
 if t=35 then some s else if e then none else
 if t=49 then (if s.1.1 then none else some ((true,s.1.2),true)) else
 if t=50 then (if s.1.2.1 then none else some ((s.1.1,true,s.1.2.2),true)) else
 if t=51 then (if s.1.2.2.1 then none else some ((s.1.1,s.1.2.1,true,s.1.2.2.2),true)) else
 if t=52 then (if s.1.2.2.2 then none else some ((s.1.1,s.1.2.1,s.1.2.2.1,true),true)) else
 if t=111∨t=46 then some (s.1,true) else none
def colsM (row:ByteArray) (er:Bool) (w:Nat) (s:Seen×Bool):Nat→Option (Seen×Bool)
 |0=>some s
 |c+1=>match colsM row er w s c with
  |none=>none
  |some s'=>tileM (er || decide (c=0) || decide (c+1=w)) (byteAt row c) s'
def rowsM (rows:List ByteArray) (w:Nat):Nat→Option (Seen×Bool)
 |0=>some ((false,false,false,false),false)
 | r+1=>match rowsM rows w r with
  |none=>none
  |some s=>match rows[r]? with
   |none=>none
   |some row=>if row.size=w then colsM row (decide (r=0) || decide (r+1=rows.length)) w s w else none
def widthM (rows:List ByteArray):Nat:=match rows[0]? with
 |some row=>row.size
 |none=>0
def levelOk (l:TLevel):Bool:=decide (3≤l.Rows.length)&&decide (l.Rows.length≤12)&&decide (4≤widthM l.Rows)&&decide (widthM l.Rows≤20)&&match rowsM l.Rows (widthM l.Rows) l.Rows.length with
 |some s=>s.2
 |none=>false

@[reducible] def vb (b:Bool):V1 := .rd [] (.v (.bool b))
section
variable {rows:List ByteArray} {row:ByteArray} {w k c:Nat} {s s':Seen×Bool} {er:Bool}
theorem rows_none {n:Nat} (h:rowsM rows w k=none) (hk:k≤n):rowsM rows w n=none:=by
 induction n with
 | zero => have:k=0:=by omega
           subst this; exact h
 | succ n ih =>
  rcases Gqq n k with h1 | h1
  ·have:k=n+1:=by omega
   subst this; exact h
  ·simp[rowsM,ih h1]
theorem cols_none {n:Nat} (h:colsM row er w s c=none) (hc:c≤n):colsM row er w s n=none:=by
 induction n with
 | zero => have:c=0:=by omega
           subst this; exact h
 | succ n ih =>
  rcases Gqq n c with h1 | h1
  ·have:c=n+1:=by omega
   subst this; exact h
  ·simp[colsM,ih h1]
theorem rows_next (h:rowsM rows w k=some s) (hk:k<rows.length) (hw:rows[k].size=w):rowsM rows w (k+1)=colsM rows[k] (decide (k=0) || decide (k+1=rows.length)) w s w:=by
 rw[rowsM,h]
 simp[Gqg hk,hw]
theorem rows_bad (hk:k<rows.length) (hw:rows[k].size≠w):rowsM rows w (k+1)=none:=by
 rw[rowsM]
 cases rowsM rows w k with
 |none=>rfl
 |some s=>simp[Gqg hk,hw]
theorem cols_next (h:colsM row er w s c=some s'):colsM row er w s (c+1)=tileM (er || decide (c=0) || decide (c+1=w)) (byteAt row c) s':=by
 rw[colsM,h]
theorem level_no {l:TLevel} (hk:k<l.Rows.length) (hw:widthM l.Rows=w) (h:rowsM l.Rows w (k+1)=none):levelOk l=false:=by
 unfold levelOk
 rw[hw,rows_none h (by omega)]
 simp
theorem width_at (h:0<rows.length):widthM rows=rows[0].size:=by simp[widthM,Gqg h]
end
end
section
open Go.RowKit

theorem I_LevelOk (x:TLevel) (hg:Enc.gd x):Con Tryz.prog 163 [] [ag x] [] (B (levelOk x)):=by
 obtain⟨rows⟩:=x
 have hn:Enc.gd rows:=hg
 have hn1:=hn.1
 have hlx:=Yf rows
 refine Con.of Tryz.func163 J Tryz.ntmps163 J (fun E => ?_)
 refine Wz [124,36,67,153,110,150,240,43] ?_
 refine Q9 J (fun h => ?_) (fun h => ?_)
 ·simp only[Gqo,decide_eq_true_eq] at h
  refine Wz [35] ?_
  exact Xk J J (Xw [] (by decide) J J (Xg (by simp[levelOk]; omega)))
 simp only[Gql,decide_eq_false_iff_not] at h
 have h0:0<rows.length:=by omega
 have hat0:(els rows)[(0:Int).toNat]? = some (Enc.e rows[0]):=Yc h0
 have hw:=width_at h0
 refine Wz [64,41,92,126,46,153,0,95,213,43] ?_
 refine Q9 J (fun h1 => ?_) (fun h1 => ?_)
 ·simp only[Gqo,decide_eq_true_eq] at h1
  refine Wz [35] ?_
  exact Xk J J (Xw [] (by decide) J J (Xg (by simp[levelOk]; omega)))
 simp only[Gql,decide_eq_false_iff_not] at h1
 obtain⟨w,hw'⟩:∃ w,w=rows[0].size:=⟨_,rfl⟩
 rw[←hw'] at hw h1
 refine Wz [64,1,40,4,1,36,18,123,102] ?_;refine Xf (fun m st=>∃ (k:Nat) (s:Seen×Bool),k+m=rows.length∧(rowsM rows w k=some s)∧st=(⟨_,[(1,.o (.c (.ptr 0 0))),(3,I w),(4,.o (.c (.ptr 1 0))),(5,B s.2),(33,L rows),(34,I (els rows).length),(35,I k)],[.box [.rd [] (sl rows)],.box [vb false,vb s.1.1,vb s.1.2.1,vb s.1.2.2.1,vb s.1.2.2.2]]⟩:St)) (rows.length) ⟨(fun (k:Nat) (s:Seen×Bool)=>(⟨_,[(1,.o (.c (.ptr 0 0))),(3,I w),(4,.o (.c (.ptr 1 0))),(5,B s.2),(33,L rows),(34,I (els rows).length),(35,I k)],[.box [.rd [] (sl rows)],.box [vb false,vb s.1.1,vb s.1.2.1,vb s.1.2.2.1,vb s.1.2.2.2]]⟩:St)) 0 (((false,false,false,false),false)),⟨0,((false,false,false,false),false),by omega,J,J⟩,Xz [0,1] (by decide) J (by kernel_rfl) (.c J (.cons (Xn (by omega)) (.c J (.c J (.c J (.c J (.c J (.nil))))))))⟩ ?_
 rintro m_A _ ⟨k,s,hk_A,hp_A,rfl⟩
 refine Wz [1,38,20] ?_
 refine Q9 J (fun h => ?_) (fun h => ?_)
 ·have h3:k<rows.length:=by have:=Gqc h; omega
  have hat:=Yc h3
  have hgk:rows[k].size≤9223372036854775807:=hn.2 _ (Gqd h3)
  refine Wz [6,9,92,149,46,126,0,160,4] ?_
  refine Q9 J (fun h4 => ?_) (fun h4 => ?_)
  ·have h4:¬rows[k].size=w:=by have:=Gqc h4; omega
   refine Wz [66,82,139,31] ?_
   exact Xk J J (Xw [] (by decide) J J (Xg (level_no (l:=⟨rows⟩) h3 hw (rows_bad h3 h4)).symm))
  have h4:rows[k].size=w:=by have:=Gqe h4; omega
  have hrn:=rows_next hp_A h3 h4
  obtain⟨er,her⟩:∃ er,er=(decide (k=0) || decide (k+1=rows.length)):=⟨_,rfl⟩
  rw[←her] at hrn
  refine Wz [64,1,44] ?_;refine Xf (fun m st=>∃ (c:Nat) (u:Seen×Bool),c+m=w∧(colsM rows[k] er w s c=some u)∧st=(⟨_,[(1,.o (.c (.ptr 0 0))),(3,I w),(4,.o (.c (.ptr 1 0))),(5,B u.2),(6,I k),(7,S rows[k]),(8,I c),(33,L rows),(34,I (els rows).length),(35,I k)],[.box [.rd [] (sl rows)],.box [vb false,vb u.1.1,vb u.1.2.1,vb u.1.2.2.1,vb u.1.2.2.2]]⟩:St)) (w) ⟨_,⟨0,s,by omega,J,J⟩,Xy [0,1] (by kernel_rfl)⟩ ?_
  rintro m_D _ ⟨c,u,hk_D,hp_D,rfl⟩
  refine Wz [25,38] ?_
  refine Q9 J (fun h5 => ?_) (fun h5 => ?_)
  ·have h5:c<w:=by have:=Gqc h5; omega
   have hcn:=cols_next hp_D
   obtain⟨t,ht⟩:∃ t,byteAt rows[k] (c:Int).toNat=t:=⟨_,rfl⟩
   rw[show byteAt rows[k] c=t from ht] at hcn
   have htb:0≤t∧t≤255:=ht▸byteAt_lt _ _
   obtain⟨⟨sa,sb,sc,sd⟩,so⟩:=u
   obtain⟨e,he⟩:∃ e,e=(er || decide (c=0) || decide (c+1=w)):=⟨_,rfl⟩
   rw[←he] at hcn
   refine Wz [6,7,183,19,174,0,95,188,214,221] ?_;refine zx (Qt.grdF J J J (.hit (.hit (.hit (.hit .stop)))) (fun hgrd=>Xa J J J J (by omega))) J ?_;refine zx (Qt.grdF J J J (.hit (.hit (.hit (.hit (.hit .stop))))) (fun hgrd=>Zo J J J J)) J ?_;refine Wz [115,0,95] ?_;refine zx (Qt.grdF J J J (.hit .stop) (fun hgrd=>Zo J J J J)) J ?_;refine Wz [115,0,95,236] ?_;refine zx (Qt.grdF J J J (.hit (.hit .stop)) (fun hgrd=>Xa J J J J (by omega))) J ?_;refine zx (Qt.grdF J J J (.hit (.hit (.hit .stop))) (fun hgrd=>Zo J J J J)) J ?_;refine Wz [115,36,131,163,254,49,4] ?_
   have hee:(decide ((k:Int)=0) || decide ((k:Int)=((els rows).length:Int)-1) || decide ((c:Int)=0) || decide ((c:Int)=(w:Int)-1))=e:=by
    rw[he,her,hlx]
    have g1:decide ((k:Int)=0)=decide (k=0):=by simp
    have g2:decide ((k:Int)=(rows.length:Int)-1)=decide (k+1=rows.length):=decide_eq_decide.2 (by omega)
    have g3:decide ((c:Int)=0)=decide (c=0):=by simp
    have g4:decide ((c:Int)=(w:Int)-1)=decide (c+1=w):=decide_eq_decide.2 (by omega)
    rw[g1,g2,g3,g4]
   clear he her
   have hbad:colsM rows[k] er w s (c+1)=none→levelOk ⟨rows⟩=false:=fun hc=>level_no (l:=⟨rows⟩) h3 hw (hrn.trans (cols_none hc (by omega)))
   refine Q9 J (fun h6 => ?_) (fun h6 => ?_)
   ·rw[hee] at h6
    simp only[Gqk,decide_eq_true_eq] at h6
    refine Wz [66,82,139,137] ?_
    exact Xk J J (Xw [] (by decide) J J (Xg (hbad (hcn.trans (by simp[tileM,h6]))).symm))
   rw[hee] at h6
   have h7:t=35∨e=false:=by
    simp only[Gxf,decide_eq_false_iff_not,Classical.not_not] at h6
    exact h6.symm
   clear h6 hee
   refine AWP.pre (st':=(⟨_,[(1,.o (.c (.ptr 0 0))),(3,I w),(4,.o (.c (.ptr 1 0))),(5,B so),(6,I k),(7,S rows[k]),(8,I c),(9,VI .u8 t),(33,L rows),(34,I (els rows).length),(35,I k)],[.box [.rd [] (sl rows)],.box [vb false,vb sa,vb sb,vb sc,vb sd]]⟩:St)) ?_ (Xy [0,1] (by kernel_rfl))
   rcases h7 with rfl | h7
   ·refine Wz [6,9] ?_
    refine Wz [268,0,118,15,5,109,9,222,0,118,15,0,118,15,5,109,128,59,9,222,79,58] ?_
    exact⟨w-(c+1),by omega,_,⟨c+1,((sa,sb,sc,sd),so),by omega,hcn.trans (by simp[tileM]),J⟩,Xy [0,1] (by kernel_rfl)⟩
   subst h7
   rcases (by omega:t=35∨t=49∨t=50∨t=51∨t=52∨t=111∨t=46∨(t≠35∧t≠49∧t≠50∧t≠51∧t≠52∧t≠111∧t≠46)) with rfl | rfl | rfl | rfl | rfl | rfl | rfl | ht7
   ·refine Wz [6,9] ?_
    refine Wz [268,0,118,15,5,109,9,222,0,118,15,0,118,15,5,109,128,59,9,222,79,58] ?_
    exact⟨w-(c+1),by omega,_,⟨c+1,((sa,sb,sc,sd),so),by omega,hcn.trans (by simp[tileM]),J⟩,Xy [0,1] (by kernel_rfl)⟩
   ·refine Wz [6,9] ?_
    refine Wz [189,22,202,28,5,151,69,161,203,133,4] ?_
    refine Q9 J (fun h8 => ?_) (fun h8 => ?_)
    ·have h8:sa=true:=h8
     subst h8
     refine Wz [66,82,82,139,137] ?_
     exact Xk J J (Xw [] (by decide) J J (Xg (hbad (hcn.trans (by simp[tileM]))).symm))
    ·have h8:sa=false:=h8
     subst h8
     refine Wz [64,106,161,203,204,127,59,9,154,17,75,76] ?_
     exact⟨w-(c+1),by omega,_,⟨c+1,((true,sb,sc,sd),true),by omega,hcn.trans (by simp[tileM]),J⟩,Xy [0,1] (by kernel_rfl)⟩
   ·refine Wz [6,9] ?_
    refine Wz [189,22,202,28,5,151,69,161,203,133,4] ?_
    refine Q9 J (fun h8 => ?_) (fun h8 => ?_)
    ·have h8:sb=true:=h8
     subst h8
     refine Wz [66,82,82,139,137] ?_
     exact Xk J J (Xw [] (by decide) J J (Xg (hbad (hcn.trans (by simp[tileM]))).symm))
    ·have h8:sb=false:=h8
     subst h8
     refine Wz [64,106,161,203,204,127,59,9,154,17,75,76] ?_
     exact⟨w-(c+1),by omega,_,⟨c+1,((sa,true,sc,sd),true),by omega,hcn.trans (by simp[tileM]),J⟩,Xy [0,1] (by kernel_rfl)⟩
   ·refine Wz [6,9] ?_
    refine Wz [189,22,202,28,5,151,69,161,203,133,4] ?_
    refine Q9 J (fun h8 => ?_) (fun h8 => ?_)
    ·have h8:sc=true:=h8
     subst h8
     refine Wz [66,82,82,139,137] ?_
     exact Xk J J (Xw [] (by decide) J J (Xg (hbad (hcn.trans (by simp[tileM]))).symm))
    ·have h8:sc=false:=h8
     subst h8
     refine Wz [64,106,161,203,204,127,59,9,154,17,75,76] ?_
     exact⟨w-(c+1),by omega,_,⟨c+1,((sa,sb,true,sd),true),by omega,hcn.trans (by simp[tileM]),J⟩,Xy [0,1] (by kernel_rfl)⟩
   ·refine Wz [6,9] ?_
    refine Wz [189,22,202,28,5,151,69,161,203,133,4] ?_
    refine Q9 J (fun h8 => ?_) (fun h8 => ?_)
    ·have h8:sd=true:=h8
     subst h8
     refine Wz [66,82,82,139,137] ?_
     exact Xk J J (Xw [] (by decide) J J (Xg (hbad (hcn.trans (by simp[tileM]))).symm))
    ·have h8:sd=false:=h8
     subst h8
     refine Wz [64,106,161,203,204,127,59,9,154,17,75,76] ?_
     exact⟨w-(c+1),by omega,_,⟨c+1,((sa,sb,sc,true),true),by omega,hcn.trans (by simp[tileM]),J⟩,Xy [0,1] (by kernel_rfl)⟩
   ·refine Wz [6,9] ?_
    refine Wz [189,22] ?_;refine zx (Zy (b:=false) J J J J (by decide)) J ?_;refine Wz [28,5,109,9,154,22,222,28,0,118,15,5,109,128,59,9,154,17,75,76] ?_
    exact⟨w-(c+1),by omega,_,⟨c+1,((sa,sb,sc,sd),true),by omega,hcn.trans (by simp[tileM]),J⟩,Xy [0,1] (by kernel_rfl)⟩
   ·refine Wz [6,9] ?_
    refine Wz [268,0,118,15,5,109,9,154,22,154,28,22,222,28,5,109,128,59,9,154,17,75,76] ?_
    exact⟨w-(c+1),by omega,_,⟨c+1,((sa,sb,sc,sd),true),by omega,hcn.trans (by simp[tileM]),J⟩,Xy [0,1] (by kernel_rfl)⟩
   ·refine Wz [6,9,212] ?_
    refine Wz [0,163] ?_;refine zx (Qt.grdT J J J (.hit .stop) (fun hgrd=>q_leq J J J J)) J ?_;refine Wz [49,5] ?_
    refine Q9 J (fun h8 => ?_) (fun h8 => ?_)
    ·simp only[Gqk,decide_eq_true_eq] at h8
     omega
    refine Wz [9,160,0,163,254,49,0,163,254,49,5] ?_
    refine Q9 J (fun h9 => ?_) (fun h9 => ?_)
    ·refine Wz [66,172,82,201] ?_
     refine Wz [82,137] ?_
     exact Xk J J (Xw [] (by decide) J J (Xg (hbad (hcn.trans (by simp[tileM,ht7]))).symm))
    ·simp only[Gxf,decide_eq_false_iff_not,Classical.not_not] at h9
     omega
  ·have h5:c=w:=by have:=Gqe h5; omega
   rw[h5] at hp_D
   rw[hp_D] at hrn
   refine Wz [223,59,75,8,0,4] ?_
   exact⟨rows.length-(k+1),by omega,_,⟨k+1,u,by omega,hrn,J⟩,Xy [0,1] (by kernel_rfl)⟩
 ·have h3:¬((k:Int)<(els rows).length):=Gqe h
  have hk:k=rows.length:=by omega
  subst hk
  refine Wz [27] ?_
  exact Xk J J (Xw [] (by decide) J J (Xg (by
   unfold levelOk
   rw[hw,hp_A]
   have:3≤rows.length∧rows.length≤12∧4≤w∧w≤20:=by omega
   simp[this])))
end
section
open Go.RowKit

theorem S_LevelOk (x:TLevel) (hg:Enc.gd x):Con Tryz.prog 154 [] [ag x] [] (B (levelOk x)):=by
 obtain⟨rows⟩:=x
 have hn:Enc.gd rows:=hg
 have hn1:=hn.1
 have hlx:=Yf rows
 refine Con.of Tryz.func154 J Tryz.ntmps154 J (fun E => ?_)
 refine Wz [124,36,67] ?_;refine zx (Qj J J (Xv (els rows).length 3 12) J) J ?_;refine Wz [3,4] ?_
 refine Q9 J (fun h => ?_) (fun h => ?_)
 ·refine Wz [35] ?_
  exact Xk J J (Xw [] (by decide) J J (Xg (by simp[inR] at h; simp[levelOk]; omega)))
 have h:3≤rows.length∧rows.length≤12:=by simp[inR] at h; omega
 have h0:0<rows.length:=by omega
 have hat0:(els rows)[(0:Int).toNat]? = some (Enc.e rows[0]):=Yc h0
 have hw:=width_at h0
 obtain⟨w,hw'⟩:∃ w,w=rows[0].size:=⟨_,rfl⟩
 rw[←hw'] at hw
 have hg0:rows[0].size≤9223372036854775807:=hn.2 _ (Gqd h0)
 refine Wz [64,41,92,126,5,1,5,1,136,130] ?_;refine Xf (fun m st=>∃ (k:Nat) (s:Seen×Bool),k+m=rows.length∧(rowsM rows w k=some s∧(0<k→4≤w∧w≤20))∧st=(⟨_,[(1,.o (.c (.ptr 0 0))),(3,I w),(4,B s.2),(5,.o (.c (.sb 1 4 1))),(6,I k)],[.box [.rd [] (sl rows)],.box [vb s.1.1,vb s.1.2.1,vb s.1.2.2.1,vb s.1.2.2.2]]⟩:St)) (rows.length) ⟨(fun (k:Nat) (s:Seen×Bool)=>(⟨_,[(1,.o (.c (.ptr 0 0))),(3,I w),(4,B s.2),(5,.o (.c (.sb 1 4 1))),(6,I k)],[.box [.rd [] (sl rows)],.box [vb s.1.1,vb s.1.2.1,vb s.1.2.2.1,vb s.1.2.2.2]]⟩:St)) 0 (((false,false,false,false),false)),⟨0,((false,false,false,false),false),by omega,⟨J,by omega⟩,J⟩,Xz [0,1] (by decide) J (by kernel_rfl) (.c J (.cons (Xn (by omega)) (.c J (.c J (.c J (.nil))))))⟩ ?_
 rintro m_A _ ⟨k,s,hk_A,hp_A,rfl⟩
 refine Wz [69,67,38] ?_
 refine Q9 J (fun h => ?_) (fun h => ?_)
 ·have h3:k<rows.length:=by have:=Gqc h; omega
  have hat:=Yc h3
  have hwc:((rows[0].size:Nat):Int)=w:=by omega
  have hgk:rows[k].size≤9223372036854775807:=hn.2 _ (Gqd h3)
  refine Wz [6,87,18,0,92,126,0,160,0,95] ?_;refine zx (Qt.grdF J J J (.hit .stop) (fun hgrd=>Qj J J (Xv w 4 20) J)) J ?_;refine Wz [194,43] ?_
  refine Q9 J (fun h4 => ?_) (fun h4 => ?_)
  ·simp only[Gqo,decide_eq_true_eq,Gxd,inR,Gxf,decide_eq_false_iff_not] at h4
   refine Wz [66,82,139,31] ?_
   refine Xk J J (Xw [] (by decide) J J (Xg ?_))
   by_cases h4':rows[k].size=w
   ·have:¬(4≤w∧w≤20):=by omega
    simp only[levelOk,hw]
    rcases Gqq w 4 with h9 | h9
    ·simp[show ¬4≤w by omega]
    ·simp[show ¬w≤20 by omega]
   ·exact (level_no (l:=⟨rows⟩) h3 hw (rows_bad h3 h4')).symm
  simp only[Gql,decide_eq_false_iff_not,Gqy,inR,Gqk,decide_eq_true_eq] at h4
  have h1:4≤w∧w≤20:=by omega
  have h4:rows[k].size=w:=by omega
  have hrn:=rows_next hp_A.1 h3 h4
  obtain⟨er,her⟩:∃ er,er=(decide (k=0) || decide (k+1=rows.length)):=⟨_,rfl⟩
  rw[←her] at hrn
  refine Wz [64,1,44] ?_;refine Xf (fun m st=>∃ (c:Nat) (u:Seen×Bool),c+m=w∧(colsM rows[k] er w s c=some u)∧st=(⟨_,[(1,.o (.c (.ptr 0 0))),(3,I w),(4,B u.2),(5,.o (.c (.sb 1 4 1))),(6,I k),(7,I c)],[.box [.rd [] (sl rows)],.box [vb u.1.1,vb u.1.2.1,vb u.1.2.2.1,vb u.1.2.2.2]]⟩:St)) (w) ⟨_,⟨0,s,by omega,J,J⟩,Xy [0,1] (by kernel_rfl)⟩ ?_
  rintro m_D _ ⟨c,u,hk_D,hp_D,rfl⟩
  refine Wz [25,38] ?_
  refine Q9 J (fun h5 => ?_) (fun h5 => ?_)
  ·have h5:c<w:=by have:=Gqc h5; omega
   have hcn:=cols_next hp_D
   obtain⟨t,ht⟩:∃ t,byteAt rows[k] (c:Int).toNat=t:=⟨_,rfl⟩
   rw[show byteAt rows[k] c=t from ht] at hcn
   have htb:0≤t∧t≤255:=ht▸byteAt_lt _ _
   obtain⟨⟨sa,sb,sc,sd⟩,so⟩:=u
   obtain⟨e,he⟩:∃ e,e=(er || decide (c=0) || decide (c+1=w)):=⟨_,rfl⟩
   rw[←he] at hcn
   refine Wz [6,71,148,117,183,19,174,0,95] ?_;refine zx (Qt.grdF J J J (.hit .stop) (fun hgrd=>Zo J J J J)) J ?_;refine Wz [115,0,95,188,214,221] ?_;refine zx (Qt.grdF J J J (.hit (.hit (.hit (.hit .stop)))) (fun hgrd=>Xa J J J J (by omega))) J ?_;refine zx (Qt.grdF J J J (.hit (.hit (.hit (.hit (.hit .stop))))) (fun hgrd=>Zo J J J J)) J ?_;refine Wz [115,0,95,236] ?_;refine zx (Qt.grdF J J J (.hit (.hit .stop)) (fun hgrd=>Xa J J J J (by omega))) J ?_;refine zx (Qt.grdF J J J (.hit (.hit (.hit .stop))) (fun hgrd=>Zo J J J J)) J ?_;refine Wz [115,5,20,210,9,174,5] ?_
   have hee:(decide ((k:Int)=0) || decide ((c:Int)=0) || decide ((k:Int)=((els rows).length:Int)-1) || decide ((c:Int)=(w:Int)-1))=e:=by
    rw[he,her,hlx]
    have g1:decide ((k:Int)=0)=decide (k=0):=by simp
    have g2:decide ((k:Int)=(rows.length:Int)-1)=decide (k+1=rows.length):=decide_eq_decide.2 (by omega)
    have g3:decide ((c:Int)=0)=decide (c=0):=by simp
    have g4:decide ((c:Int)=(w:Int)-1)=decide (c+1=w):=decide_eq_decide.2 (by omega)
    rw[g1,g2,g3,g4]
    cases decide (k=0) <;> cases decide (c=0) <;> cases decide (k+1=rows.length) <;> rfl
   clear he her
   have hbad:colsM rows[k] er w s (c+1)=none→levelOk ⟨rows⟩=false:=fun hc=>level_no (l:=⟨rows⟩) h3 hw (hrn.trans (cols_none hc (by omega)))
   refine AWP.pre (st':=(⟨_,[(1,.o (.c (.ptr 0 0))),(3,I w),(4,B so),(5,.o (.c (.sb 1 4 1))),(6,I k),(7,I c),(8,VI .u8 t),(9,B e),(73,B (decide (t=35)))],[.box [.rd [] (sl rows)],.box [vb sa,vb sb,vb sc,vb sd]]⟩:St)) ?_ (Xz [0,1] (by decide) J (by kernel_rfl) (.c J (.c J (.c J (.c J (.c J (.c J (.c J (.cons (Xg hee) (.c J (.nil)))))))))))
   by_cases h7:t=35
   ·subst h7
    refine Wz [151,128,59,78,95] ?_;refine zx (Qt.grdF J J J (.hit .stop) (fun hgrd=>Qw (b:=false) J J J J (by decide))) J ?_;refine Wz [115,76] ?_
    exact⟨w-(c+1),by omega,(fun (c:Nat) (u:Seen×Bool)=>(⟨_,[(1,.o (.c (.ptr 0 0))),(3,I w),(4,B u.2),(5,.o (.c (.sb 1 4 1))),(6,I k),(7,I c)],[.box [.rd [] (sl rows)],.box [vb u.1.1,vb u.1.2.1,vb u.1.2.2.1,vb u.1.2.2.2]]⟩:St)) (c+1) (((sa,sb,sc,sd),so)),⟨c+1,((sa,sb,sc,sd),so),by omega,hcn.trans (by simp[tileM]),J⟩,Xz [0,1] (by decide) J (by kernel_rfl) (.c J (.c J (.cons (Xg (by simp)) (.c J (.c J (.c J (.nil)))))))⟩
   cases e
   case true =>
    have f1:decide (t=35)=false:=Gqa h7
    refine Q9 J (fun h=>absurd (Gqc h) h7) (fun _ => ?_)
    refine Wz [7,118,104,111,111,118,111,111,111,111,111,111,104,28,5,151,66,172,82,139,137] ?_
    exact Xk J J (Xw [] (by decide) J J (Xg (hbad (hcn.trans (by simp[tileM,h7]))).symm))
   refine Q9 J (fun h=>absurd (Gqc h) h7) (fun _ => ?_)
   rcases (by omega:t=49∨t=50∨t=51∨t=52∨t=111∨t=46∨(t≠35∧t≠49∧t≠50∧t≠51∧t≠52∧t≠111∧t≠46)) with rfl | rfl | rfl | rfl | rfl | rfl | ht7
   ·refine Wz [7,2] ?_
    refine Wz [26,154,2,22,154,2,28,2,22,108,2,22,190,2,15,2,28,15,5,109,9,189,22,202,28,5,151,25,161,205,133,4] ?_
    refine Q9 J (fun h8 => ?_) (fun h8 => ?_)
    ·have h8:sa=true:=h8
     subst h8
     refine Wz [66,82,82,139,137] ?_
     exact Xk J J (Xw [] (by decide) J J (Xg (hbad (hcn.trans (by simp[tileM]))).symm))
    ·have h8:sa=false:=h8
     subst h8
     refine Wz [64,78,161,205,204,127,59,78,95,224,115,76] ?_
     exact⟨w-(c+1),by omega,(fun (c:Nat) (u:Seen×Bool)=>(⟨_,[(1,.o (.c (.ptr 0 0))),(3,I w),(4,B u.2),(5,.o (.c (.sb 1 4 1))),(6,I k),(7,I c)],[.box [.rd [] (sl rows)],.box [vb u.1.1,vb u.1.2.1,vb u.1.2.2.1,vb u.1.2.2.2]]⟩:St)) (c+1) (((true,sb,sc,sd),true)),⟨c+1,((true,sb,sc,sd),true),by omega,hcn.trans (by simp[tileM]),J⟩,Xz [0,1] (by decide) J (by kernel_rfl) (.c J (.c J (.cons (Xg (by simp)) (.c J (.c J (.c J (.nil)))))))⟩
   ·refine Wz [7,2] ?_
    refine Wz [26,154,2,22,154,2,28,2,22,108,2,22,190,2,15,2,28,15,5,109,9,189,22,202,28,5,151,25,161,205,133,4] ?_
    refine Q9 J (fun h8 => ?_) (fun h8 => ?_)
    ·have h8:sb=true:=h8
     subst h8
     refine Wz [66,82,82,139,137] ?_
     exact Xk J J (Xw [] (by decide) J J (Xg (hbad (hcn.trans (by simp[tileM]))).symm))
    ·have h8:sb=false:=h8
     subst h8
     refine Wz [64,78,161,205,204,127,59,78,95,224,115,76] ?_
     exact⟨w-(c+1),by omega,(fun (c:Nat) (u:Seen×Bool)=>(⟨_,[(1,.o (.c (.ptr 0 0))),(3,I w),(4,B u.2),(5,.o (.c (.sb 1 4 1))),(6,I k),(7,I c)],[.box [.rd [] (sl rows)],.box [vb u.1.1,vb u.1.2.1,vb u.1.2.2.1,vb u.1.2.2.2]]⟩:St)) (c+1) (((sa,true,sc,sd),true)),⟨c+1,((sa,true,sc,sd),true),by omega,hcn.trans (by simp[tileM]),J⟩,Xz [0,1] (by decide) J (by kernel_rfl) (.c J (.c J (.cons (Xg (by simp)) (.c J (.c J (.c J (.nil)))))))⟩
   ·refine Wz [7,2] ?_
    refine Wz [26,154,2,22,154,2,28,2,22,108,2,22,190,2,15,2,28,15,5,109,9,189,22,202,28,5,151,25,161,205,133,4] ?_
    refine Q9 J (fun h8 => ?_) (fun h8 => ?_)
    ·have h8:sc=true:=h8
     subst h8
     refine Wz [66,82,82,139,137] ?_
     exact Xk J J (Xw [] (by decide) J J (Xg (hbad (hcn.trans (by simp[tileM]))).symm))
    ·have h8:sc=false:=h8
     subst h8
     refine Wz [64,78,161,205,204,127,59,78,95,224,115,76] ?_
     exact⟨w-(c+1),by omega,(fun (c:Nat) (u:Seen×Bool)=>(⟨_,[(1,.o (.c (.ptr 0 0))),(3,I w),(4,B u.2),(5,.o (.c (.sb 1 4 1))),(6,I k),(7,I c)],[.box [.rd [] (sl rows)],.box [vb u.1.1,vb u.1.2.1,vb u.1.2.2.1,vb u.1.2.2.2]]⟩:St)) (c+1) (((sa,sb,true,sd),true)),⟨c+1,((sa,sb,true,sd),true),by omega,hcn.trans (by simp[tileM]),J⟩,Xz [0,1] (by decide) J (by kernel_rfl) (.c J (.c J (.cons (Xg (by simp)) (.c J (.c J (.c J (.nil)))))))⟩
   ·refine Wz [7,2] ?_
    refine Wz [26,154,2,22,154,2,28,2,22,108,2,22,190,2,15,2,28,15,5,109,9,189,22,202,28,5,151,25,161,205,133,4] ?_
    refine Q9 J (fun h8 => ?_) (fun h8 => ?_)
    ·have h8:sd=true:=h8
     subst h8
     refine Wz [66,82,82,139,137] ?_
     exact Xk J J (Xw [] (by decide) J J (Xg (hbad (hcn.trans (by simp[tileM]))).symm))
    ·have h8:sd=false:=h8
     subst h8
     refine Wz [64,78,161,205,204,127,59,78,95,224,115,76] ?_
     exact⟨w-(c+1),by omega,(fun (c:Nat) (u:Seen×Bool)=>(⟨_,[(1,.o (.c (.ptr 0 0))),(3,I w),(4,B u.2),(5,.o (.c (.sb 1 4 1))),(6,I k),(7,I c)],[.box [.rd [] (sl rows)],.box [vb u.1.1,vb u.1.2.1,vb u.1.2.2.1,vb u.1.2.2.2]]⟩:St)) (c+1) (((sa,sb,sc,true),true)),⟨c+1,((sa,sb,sc,true),true),by omega,hcn.trans (by simp[tileM]),J⟩,Xz [0,1] (by decide) J (by kernel_rfl) (.c J (.c J (.cons (Xg (by simp)) (.c J (.c J (.c J (.nil)))))))⟩
   ·refine Wz [7,2] ?_
    refine Wz [26,83,2,0,118,2,15,2,0,118,104,111,111,104,2,15,15,5,109,9,189,22] ?_;refine z9b J (by assumption) ?_;refine Wz [28,5,109,128,59,78,95,224,115,76] ?_
    exact⟨w-(c+1),by omega,(fun (c:Nat) (u:Seen×Bool)=>(⟨_,[(1,.o (.c (.ptr 0 0))),(3,I w),(4,B u.2),(5,.o (.c (.sb 1 4 1))),(6,I k),(7,I c)],[.box [.rd [] (sl rows)],.box [vb u.1.1,vb u.1.2.1,vb u.1.2.2.1,vb u.1.2.2.2]]⟩:St)) (c+1) (((sa,sb,sc,sd),true)),⟨c+1,((sa,sb,sc,sd),true),by omega,hcn.trans (by simp[tileM]),J⟩,Xz [0,1] (by decide) J (by kernel_rfl) (.c J (.c J (.cons (Xg (by simp)) (.c J (.c J (.c J (.nil)))))))⟩
   ·refine Wz [7,2] ?_
    refine Wz [26,154,2,22,83,2,28,2,0,118,104,111,111,104,2,15,15,5,109,9,167,0,118,15,5,109,128,59,78,95,224,115,76] ?_
    exact⟨w-(c+1),by omega,(fun (c:Nat) (u:Seen×Bool)=>(⟨_,[(1,.o (.c (.ptr 0 0))),(3,I w),(4,B u.2),(5,.o (.c (.sb 1 4 1))),(6,I k),(7,I c)],[.box [.rd [] (sl rows)],.box [vb u.1.1,vb u.1.2.1,vb u.1.2.2.1,vb u.1.2.2.2]]⟩:St)) (c+1) (((sa,sb,sc,sd),true)),⟨c+1,((sa,sb,sc,sd),true),by omega,hcn.trans (by simp[tileM]),J⟩,Xz [0,1] (by decide) J (by kernel_rfl) (.c J (.c J (.cons (Xg (by simp)) (.c J (.c J (.c J (.nil)))))))⟩
   ·refine Wz [7,2] ?_
    refine Wz [26,160,2,0,163,254,2,49,2,0,163] ?_;refine zx (Qt.grdT J J J (.hit .stop) (fun hgrd=>Z1 J J J J)) J ?_;refine zx (Qt.grdT J J J (.hit (.hit .stop)) (fun hgrd=>Qa J J J)) J ?_;refine zx (Qt.grd2F J J J (.hit1 (.hit1 (.hit1 .stop))) (fun hgrd hgrd2=>Qa J J J)) J ?_;refine zx (Qt.grd2F J J J (.hit (.hit1 (.hit1 (.hit1 .stop)))) (fun hgrd hgrd2=>Zt J J J J)) J ?_;refine zx (Qt.grdT J J J (.part (.part (.hit (.hit (.hit .stop))))) (fun hgrd=>Z6 J J J J)) J ?_;refine Wz [2,49,15,5] ?_
    refine Q9 J (fun h8 => ?_) (fun h8 => ?_)
    ·refine Wz [66,172,82,201] ?_
     refine Wz [82,137] ?_
     exact Xk J J (Xw [] (by decide) J J (Xg (hbad (hcn.trans (by simp[tileM,ht7]))).symm))
    ·simp only[Gxf,Gql,Bool.false_or,decide_eq_false_iff_not,Classical.not_not] at h8
     omega
  ·have h5:c=w:=by have:=Gqe h5; omega
   rw[h5] at hp_D
   rw[hp_D] at hrn
   refine Wz [223,241] ?_
   exact⟨rows.length-(k+1),by omega,_,⟨k+1,u,by omega,⟨hrn,fun _=>h1⟩,J⟩,Xy [0,1] (by kernel_rfl)⟩
 ·have h3:¬((k:Int)<(els rows).length):=Gqe h
  have hk:k=rows.length:=by omega
  subst hk
  refine Wz [27] ?_
  exact Xk J J (Xw [] (by decide) J J (Xg (by
   unfold levelOk
   rw[hw,hp_A.1]
   have h1:=hp_A.2 (by omega)
   have:3≤rows.length∧rows.length≤12∧4≤w∧w≤20:=by omega
   simp[this])))
end
section
open Go.RowKit
end
section
open Go.RowKit

inductive Den1:V1→V1→Prop
 |same (x:V1):Den1 x x
 |nil (qs:List Nat) (k:Nat):Den1 (.rd qs (.v (.slice none 0 0))) (.rd qs (.sl k []))
inductive DenL:List V1→List V1→Prop
 |nil:DenL [] []
 |cons {x y:V1} {xs ys:List V1} (h:Den1 x y) (t:DenL xs ys):DenL (x::xs) (y::ys)
inductive Den2:V2→V2→Prop
 |same (x:V2):Den2 x x
 |ag {xs ys:List V1} (h:DenL xs ys):Den2 (.ag xs) (.ag ys)
inductive DenA:List V2→List V2→Prop
 |nil:DenA [] []
 |cons {x y:V2} {xs ys:List V2} (h:Den2 x y) (t:DenA xs ys):DenA (x::xs) (y::ys)
section
variable {w:World} {H:Hs} {F:Nat→Prop}
theorem Den1.r {x y:V1} (h:Den1 x y) {v:Value} (hx:R1 w H F x v):R1 w H F y v:=by
 cases h with
 |same=>exact hx
 |nil qs k=>obtain⟨rfl,_⟩:=RO.plain hx; exact .nil _ _ _ (by simp)
theorem DenL.r:∀ {xs ys:List V1},DenL xs ys→xs.length=ys.length∧∀ (i:Nat) (y:V1),ys[i]? = some y→∃ x,xs[i]? = some x∧Den1 x y
 |_,_,.nil=>⟨rfl,fun i y h=>by simp at h⟩
 |_,_,.cons (x:=x) h t=>by
  obtain⟨h1,h2⟩:=DenL.r t
  refine⟨by simp[h1],fun i y hy => ?_⟩
  cases i with
  |zero=>simp at hy; subst hy; exact⟨x,rfl,h⟩
  |succ i=>simpa using h2 i y (by simpa using hy)
theorem Den2.r {x y:V2} (h:Den2 x y) {v:Value} (hx:R2 w H F x v):R2 w H F y v:=by
 cases h with
 |same=>exact hx
 |ag h =>
  obtain⟨h1,h2⟩:=h.r
  obtain⟨us,e,hl,hr⟩:=hx
  refine⟨us,e,by omega,fun i y u h3 h4 => ?_⟩
  obtain⟨x,h5,h6⟩:=h2 i y h3
  exact h6.r (hr i x u h5 h4)
theorem DenA.r:∀ {xs ys:List V2},DenA xs ys→xs.length=ys.length∧∀ (i:Nat) (y:V2),ys[i]? = some y→∃ x,xs[i]? = some x∧Den2 x y
 |_,_,.nil=>⟨rfl,fun i y h=>by simp at h⟩
 |_,_,.cons (x:=x) h t=>by
  obtain⟨h1,h2⟩:=DenA.r t
  refine⟨by simp[h1],fun i y hy => ?_⟩
  cases i with
  |zero=>simp at hy; subst hy; exact⟨x,rfl,h⟩
  |succ i=>simpa using h2 i y (by simpa using hy)
end
def nilV:V1 := .rd [] (.v (.slice none 0 0))
theorem I_copyLevel (x:TLevel) (hg:Enc.gd x) (hL:x.Rows.length≤1048576):Con Tryz.prog 65 [] [ag x] [.row 1 (els x.Rows)] (.o (.ag [.ref 0])):=by
 have hlx:=Yf x.Rows
 have hg1:=hg.1
 refine Con.of Tryz.func65 J Tryz.ntmps65 J (fun E => ?_)
 refine Wz [85,4,41] ?_;refine M_appnil J J J J J J J J (Yg _) (Ye _) (by omega) (by omega) ?_;refine Wz [144,30,99] ?_
 exact Xi J J J J (Xw [2] (by decide) J J J)
theorem S_copyLevel (x:TLevel) (hg:Enc.gd x) (hL:x.Rows.length≤1048576):Con Tryz.prog 56 [] [ag x] [.row 1 (els x.Rows)] (.o (.ag [.ref 0])):=by
 have hlx:=Yf x.Rows
 have hg1:=hg.1
 have h00:([]:List (List T)).length=0:=rfl
 refine Con.of Tryz.func56 J Tryz.ntmps56 J (fun E => ?_)
 refine Wz [85,4,1,159,18] ?_;refine M_app J J J J J J J J J J (Yg _) (Ye _) (by omega) (by omega) ?_;refine Wz [144,30,99] ?_
 exact Xi J J J J (Xw [2] (by decide) J J J)
end
section
open Go.RowKit

theorem rowsM_size {rows:List ByteArray} {w:Nat}:∀ n s,rowsM rows w n=some s→∀ r,r<n→∃ row,rows[r]? = some row∧row.size=w
 |0,s,_=>fun r hr=>by omega
 | n+1,s,h=>fun r hr=>by
  rw[rowsM] at h
  split at h
  ·cases h
  ·rename_i s1 h1
   split at h
   ·cases h
   ·rename_i row hrow
    split at h
    ·rename_i hw
     by_cases e:r=n
     ·subst e; exact⟨row,hrow,hw⟩
     ·exact rowsM_size n s1 h1 r (by omega)
    ·cases h
theorem level_facts {l:TLevel} (h:levelOk l=true):3≤l.Rows.length∧l.Rows.length≤12∧∃ w,4≤w∧w≤20∧∀ (r:Nat) (hr:r<l.Rows.length),(l.Rows[r]).size=w:=by
 unfold levelOk at h
 simp only[Gqk,decide_eq_true_eq] at h
 obtain⟨⟨⟨⟨h1,h2⟩,h3⟩,h4⟩,h5⟩:=h
 refine⟨h1,h2,widthM l.Rows,h3,h4,fun r hr => ?_⟩
 split at h5
 ·rename_i s hs
  obtain⟨row,h6,h7⟩:=rowsM_size _ s hs r hr
  rw[Gqg hr] at h6
  simp only[Option.some.injEq] at h6
  rw[h6]; exact h7
 ·cases h5
def sizeOf (k:Int):Int:=if k=0 then 12 else if k=1 then 4 else if k=2 then 8 else 0
theorem I_SizeOf (k:Int):Con Tryz.prog 271 [] [ai k] [] (I (sizeOf k)):=by
 by_cases h0:k=0
 ·have hb:decide (k=0)=true:=Gqb h0
  rw[show sizeOf k=12 by rw[sizeOf,if_pos h0]]
  refine Con.of Tryz.func271 J Tryz.ntmps271 J (fun E => ?_)
  refine Wz [138,102,1,88,5,151,66,172,31] ?_
  exact Xk J J (Xw [] (by decide) J J J)
 have hb0:decide (k=0)=false:=Gqa h0
 by_cases h1:k=1
 ·have hb:decide (k=1)=true:=Gqb h1
  rw[show sizeOf k=4 by rw[sizeOf,if_neg h0,if_pos h1]]
  refine Con.of Tryz.func271 J Tryz.ntmps271 J (fun E => ?_)
  refine Wz [138,102,1,88,5,109,1,88,5,151,66,172,31] ?_
  exact Xk J J (Xw [] (by decide) J J J)
 have hb1:decide (k=1)=false:=Gqa h1
 by_cases h2:k=2
 ·have hb:decide (k=2)=true:=Gqb h2
  rw[show sizeOf k=8 by rw[sizeOf,if_neg h0,if_neg h1,if_pos h2]]
  refine Con.of Tryz.func271 J Tryz.ntmps271 J (fun E => ?_)
  refine Wz [138,102,1,88,5,109,1,88,5,109,1,88,5,151,66,172,31] ?_
  exact Xk J J (Xw [] (by decide) J J J)
 have hb2:decide (k=2)=false:=Gqa h2
 rw[show sizeOf k=0 by rw[sizeOf,if_neg h0,if_neg h1,if_neg h2]]
 refine Con.of Tryz.func271 J Tryz.ntmps271 J (fun E => ?_)
 refine Wz [138,102,1,88,5,109,1,88,5,109,1,88,5,109,128,59,61] ?_
 exact Xk J J (Xw [] (by decide) J J J)
theorem S_SizeOf (k:Int):Con Tryz.prog 264 [] [ai k] [] (I (sizeOf k)):=by
 by_cases h0:k=0
 ·have hb:decide (k=0)=true:=Gqb h0
  rw[show sizeOf k=12 by rw[sizeOf,if_pos h0]]
  refine Con.of Tryz.func264 J Tryz.ntmps264 J (fun E => ?_)
  refine Wz [138,102,1,88,5,151,66,172,31] ?_
  exact Xk J J (Xw [] (by decide) J J J)
 have hb0:decide (k=0)=false:=Gqa h0
 by_cases h1:k=1
 ·have hb:decide (k=1)=true:=Gqb h1
  rw[show sizeOf k=4 by rw[sizeOf,if_neg h0,if_pos h1]]
  refine Con.of Tryz.func264 J Tryz.ntmps264 J (fun E => ?_)
  refine Wz [138,102,1,88,5,109,1,88,5,151,66,172,31] ?_
  exact Xk J J (Xw [] (by decide) J J J)
 have hb1:decide (k=1)=false:=Gqa h1
 by_cases h2:k=2
 ·have hb:decide (k=2)=true:=Gqb h2
  rw[show sizeOf k=8 by rw[sizeOf,if_neg h0,if_neg h1,if_pos h2]]
  refine Con.of Tryz.func264 J Tryz.ntmps264 J (fun E => ?_)
  refine Wz [138,102,1,88,5,109,1,88,5,109,1,88,5,151,66,172,31] ?_
  exact Xk J J (Xw [] (by decide) J J J)
 have hb2:decide (k=2)=false:=Gqa h2
 rw[show sizeOf k=0 by rw[sizeOf,if_neg h0,if_neg h1,if_neg h2]]
 refine Con.of Tryz.func264 J Tryz.ntmps264 J (fun E => ?_)
 refine Wz [138,102,1,88,5,109,1,88,5,109,1,88,5,109,128,59,61] ?_
 exact Xk J J (Xw [] (by decide) J J J)
def wallAt (l:TLevel) (r c:Int):Prop:=∀ (q:Nat) (hq:q<l.Rows.length),r=q→0≤c→c<(l.Rows[q]).size→byteAt (l.Rows[q]) c.toNat=35
def hits (l:TLevel) (x y s:Int):Prop:=∃ r c:Int,y/16≤r∧r≤(y+s-1)/16∧x/16≤c∧c≤(x+s-1)/16∧wallAt l r c
noncomputable def solidM (l:TLevel) (x y s:Int):Bool:=@decide (hits l x y s) (Classical.propDecidable _)
theorem solidM_T {l:TLevel} {x y s:Int} (h:hits l x y s):solidM l x y s=true:=@decide_eq_true _ (Classical.propDecidable _) h
theorem solidM_F {l:TLevel} {x y s:Int} (h:¬hits l x y s):solidM l x y s=false:=@decide_eq_false _ (Classical.propDecidable _) h
theorem wall_tile {l:TLevel} {r c:Nat} (hr:r<l.Rows.length) (h:byteAt (l.Rows[r]) c=35):wallAt l r c:=fun q hq e h0 h1=>by
 have:q=r:=by omega
 subst this
 exact h
theorem no_wall {l:TLevel} {r c:Nat} (hr:r<l.Rows.length) (hc:c<(l.Rows[r]).size) (h:byteAt (l.Rows[r]) c≠35):¬wallAt l r c:=fun hw=>h (hw r hr rfl (by omega) (by omega))
theorem out_hits {l:TLevel} {x y s:Int} {w:Nat} (hw:∀ (r:Nat) (hr:r<l.Rows.length),(l.Rows[r]).size=w) (h1:1≤s) (h:x<0∨y<0∨(w:Int)*16-s<x∨(l.Rows.length:Int)*16-s<y):hits l x y s:=by
 by_cases hx:x<0
 ·exact⟨y/16,x/16,by omega,by omega,by omega,by omega,fun q hq e h0 h1=>by omega⟩
 by_cases hy:y<0
 ·exact⟨y/16,x/16,by omega,by omega,by omega,by omega,fun q hq e h0 h1=>by omega⟩
 by_cases hx2:(w:Int)*16-s<x
 ·exact⟨y/16,(x+s-1)/16,by omega,by omega,by omega,by omega,fun q hq e h0 h1=>by have:=hw q hq; omega⟩
 ·exact⟨(y+s-1)/16,x/16,by omega,by omega,by omega,by omega,fun q hq e h0 h1=>by omega⟩
def freeR (l:TLevel) (x s:Int) (a b:Int):Prop:=∀ r c:Int,a≤r→r<b→x/16≤c→c≤(x+s-1)/16→¬wallAt l r c
def freeC (l:TLevel) (r:Int) (a b:Int):Prop:=∀ c:Int,a≤c→c<b→¬wallAt l r c
theorem free_all {l:TLevel} {x y s b:Int} (h:freeR l x s (y/16) b) (hb:(y+s-1)/16<b):¬hits l x y s:=fun ⟨r,c,h1,h2,h3,h4,h5⟩=>h r c h1 (by omega) h3 h4 h5
theorem free_row {l:TLevel} {x s a b e:Int} (h:freeR l x s a b) (hc:freeC l b (x/16) e) (he:(x+s-1)/16<e):freeR l x s a (b+1):=fun r c h1 h2 h3 h4=>by
 by_cases hr:r<b
 ·exact h r c h1 hr h3 h4
 ·have:r=b:=by omega
  subst this
  exact hc c h3 (by omega)
theorem free_col {l:TLevel} {r a b:Int} (h:freeC l r a b) (hn:¬wallAt l r b):freeC l r a (b+1):=fun c h1 h2=>by
 by_cases hc:c<b
 ·exact h c h1 hc
 ·have:c=b:=by omega
  subst this
  exact hn
theorem I_solid (l:TLevel) (x y s:Int) (hl:levelOk l=true) (hx:I64 x) (hy:I64 y) (h1:1≤s) (h16:s≤16):Con Tryz.prog 299 [] [ag l,ai x,ai y,ai s] [] (B (solidM l x y s)):=by
 obtain⟨hx1,hx2⟩:=hx
 obtain⟨hy1,hy2⟩:=hy
 obtain⟨f3,f12,w,w4,w20,hw⟩:=level_facts hl
 have hlx:=Yf l.Rows
 have h0:0<l.Rows.length:=by omega
 have hat0:(els l.Rows)[(0:Int).toNat]? = some (Enc.e l.Rows[0]):=Yc h0
 have hw0:=hw 0 h0
 refine Con.of Tryz.func299 J Tryz.ntmps299 J (fun E => ?_)
 refine Wz [47,41,92,126,171,5,41,14,171,46,153,0,95] ?_;refine zx (Qt.grdF J J J (.hit .stop) (fun hgrd=>Z1 J J J J)) J ?_;refine Wz [115,0,95,236,168] ?_;refine zx (Qt.grdF J J J (.hit (.hit (.hit .stop))) (fun hgrd=>Xa J J J J (by omega))) J ?_;refine zx (Qt.grdF J J J (.hit (.hit (.hit (.hit .stop)))) (fun hgrd=>Zt J J J J)) J ?_;refine Wz [115,0,95,236,168] ?_;refine zx (Qt.grdF J J J (.hit (.hit (.hit .stop))) (fun hgrd=>Xa J J J J (by omega))) J ?_;refine zx (Qt.grdF J J J (.hit (.hit (.hit (.hit .stop)))) (fun hgrd=>Zt J J J J)) J ?_;refine Wz [43] ?_
 refine Q9 J (fun h => ?_) (fun h => ?_)
 ·simp only[Gqo,decide_eq_true_eq] at h
  rw[solidM_T (out_hits hw h1 (by omega))]
  refine Wz [35] ?_
  exact Xk J J (Xw [] (by decide) J J J)
 simp only[Gql,decide_eq_false_iff_not] at h
 refine Wz [48,0,173,44] ?_;refine Xf (fun m__ st=>∃ (r:Nat),((y+s-1)/16+1).toNat-r=m__∧(y/16≤r∧(r:Int)≤(y+s-1)/16+1∧freeR l x s (y/16) r)∧st=(⟨_,[(1,I x),(2,I y),(3,I s),(4,.o (.c (.ptr 0 0))),(11,I r)],[.box ((Enc.e l).map (V1.rd []))]⟩:St)) _ ⟨(fun (r:Nat)=>(⟨_,[(1,I x),(2,I y),(3,I s),(4,.o (.c (.ptr 0 0))),(11,I r)],[.box ((Enc.e l).map (V1.rd []))]⟩:St)) ((y/16).toNat),⟨(y/16).toNat,J,⟨by omega,by omega,fun r c h1 h2=>by omega⟩,J⟩,Xz [0] (by decide) J (by kernel_rfl) (.c J (.c J (.c J (.c J (.cons (Xn (by omega)) (.nil))))))⟩ ?_
 rintro m_A _ ⟨r,hk_A,hp_A,rfl⟩
 obtain⟨hr1,hr2,hfr⟩:=hp_A
 refine Wz [25,0,8,74,173,199,4] ?_
 refine Q9 J (fun h5 => ?_) (fun h5 => ?_)
 ·have h5:=Gqc h5
  have hrl:r<l.Rows.length:=by omega
  have hat:=Yc hrl
  have hwr:=hw r hrl
  refine Wz [6,9,173,44] ?_;refine Xf (fun m__ st=>∃ (c:Nat),((x+s-1)/16+1).toNat-c=m__∧(x/16≤c∧(c:Int)≤(x+s-1)/16+1∧freeC l r (x/16) c)∧st=(⟨_,[(1,I x),(2,I y),(3,I s),(4,.o (.c (.ptr 0 0))),(11,I r),(12,I c)],[.box ((Enc.e l).map (V1.rd []))]⟩:St)) _ ⟨(fun (c:Nat)=>(⟨_,[(1,I x),(2,I y),(3,I s),(4,.o (.c (.ptr 0 0))),(11,I r),(12,I c)],[.box ((Enc.e l).map (V1.rd []))]⟩:St)) ((x/16).toNat),⟨(x/16).toNat,J,⟨by omega,by omega,fun c h1 h2=>by omega⟩,J⟩,Xz [0] (by decide) J (by kernel_rfl) (.c J (.c J (.c J (.c J (.c J (.cons (Xn (by omega)) (.nil)))))))⟩ ?_
  rintro m_B _ ⟨c,hk_B,hp_B,rfl⟩
  obtain⟨hc1,hc2,hfc⟩:=hp_B
  refine Wz [25,0,8,74,173,199,4] ?_
  refine Q9 J (fun h6 => ?_) (fun h6 => ?_)
  ·have h6:=Gqc h6
   refine Wz [6,71,148,117] ?_;refine zx (q_byte J J J J (by omega)) J ?_;refine Wz [174,4] ?_
   refine Q9 J (fun h7 => ?_) (fun h7 => ?_)
   ·have h7:=Gqc h7
    rw[solidM_T ⟨(r:Int),(c:Int),hr1,by omega,hc1,by omega,wall_tile hrl h7⟩]
    refine Wz [66,182,137] ?_
    exact Xk J J (Xw [] (by decide) J J J)
   ·have h7:=Gqe h7
    refine Wz [58] ?_
    refine⟨_,(by omega),_,⟨c+1,J,⟨by omega,by omega,free_col hfc (no_wall hrl (by omega) h7)⟩,J⟩,Xy [0] (by kernel_rfl)⟩
  ·have h6:=Gqe h6
   refine Wz [223,241] ?_
   refine⟨_,(by omega),_,⟨r+1,J,⟨by omega,by omega,free_row hfr hfc (by omega)⟩,J⟩,Xy [0] (by kernel_rfl)⟩
 ·have h5:=Gqe h5
  rw[solidM_F (free_all hfr (by omega))]
  refine Wz [16,61] ?_
  exact Xk J J (Xw [] (by decide) J J J)
theorem S_l02Solid (l:TLevel) (x y s:Int) (hl:levelOk l=true) (hx:I64 x) (hy:I64 y) (h1:1≤s) (h16:s≤16):Con Tryz.prog 263 [] [ag l,ai x,ai y,ai s] [] (B (solidM l x y s)):=by
 obtain⟨hx1,hx2⟩:=hx
 obtain⟨hy1,hy2⟩:=hy
 obtain⟨f3,f12,w,w4,w20,hw⟩:=level_facts hl
 have hlx:=Yf l.Rows
 refine Con.of Tryz.func263 J Tryz.ntmps263 J (fun E => ?_)
 refine Wz [124,46] ?_;refine zx (Qj J J (Xv x 0 1000) J) J ?_;refine Wz [3,0,95] ?_;refine zx (Qt.grdF J J J (.hit .stop) (fun hgrd=>Qj J J (Xv y 0 1000) J)) J ?_;refine Wz [194,43] ?_
 refine Q9 J (fun h => ?_) (fun h => ?_)
 ·have h:¬(0≤x∧x≤1000)∨¬(0≤y∧y≤1000):=by
   rw[←Yu,←Yu]
   simpa using h
  rw[solidM_T (out_hits hw h1 (by omega))]
  refine Wz [35] ?_
  exact Xk J J (Xw [] (by decide) J J J)
 have h:(0≤x∧x≤1000)∧(0≤y∧y≤1000):=by
  rw[←Yu,←Yu]
  simpa using h
 refine Wz [48,0,173,44] ?_;refine Xf (fun m__ st=>∃ (r:Nat),((y+s-1)/16+1).toNat-r=m__∧(y/16≤r∧(r:Int)≤(y+s-1)/16+1∧freeR l x s (y/16) r)∧st=(⟨_,[(1,I x),(2,I y),(3,I s),(4,.o (.c (.ptr 0 0))),(9,I r)],[.box ((Enc.e l).map (V1.rd []))]⟩:St)) _ ⟨(fun (r:Nat)=>(⟨_,[(1,I x),(2,I y),(3,I s),(4,.o (.c (.ptr 0 0))),(9,I r)],[.box ((Enc.e l).map (V1.rd []))]⟩:St)) ((y/16).toNat),⟨(y/16).toNat,J,⟨by omega,by omega,fun r c h1 h2=>by omega⟩,J⟩,Xz [0] (by decide) J (by kernel_rfl) (.c J (.c J (.c J (.c J (.cons (Xn (by omega)) (.nil))))))⟩ ?_
 rintro m_A _ ⟨r,hk_A,hp_A,rfl⟩
 obtain⟨hr1,hr2,hfr⟩:=hp_A
 refine Wz [25,0,8,74,173,199,4] ?_
 refine Q9 J (fun h5 => ?_) (fun h5 => ?_)
 ·have h5:=Gqc h5
  refine Wz [6,9,173,44] ?_;refine Xf (fun m__ st=>∃ (c:Nat),((x+s-1)/16+1).toNat-c=m__∧(x/16≤c∧(c:Int)≤(x+s-1)/16+1∧freeC l r (x/16) c)∧st=(⟨_,[(1,I x),(2,I y),(3,I s),(4,.o (.c (.ptr 0 0))),(9,I r),(10,I c)],[.box ((Enc.e l).map (V1.rd []))]⟩:St)) _ ⟨(fun (c:Nat)=>(⟨_,[(1,I x),(2,I y),(3,I s),(4,.o (.c (.ptr 0 0))),(9,I r),(10,I c)],[.box ((Enc.e l).map (V1.rd []))]⟩:St)) ((x/16).toNat),⟨(x/16).toNat,J,⟨by omega,by omega,fun c h1 h2=>by omega⟩,J⟩,Xz [0] (by decide) J (by kernel_rfl) (.c J (.c J (.c J (.c J (.c J (.cons (Xn (by omega)) (.nil)))))))⟩ ?_
  rintro m_B _ ⟨c,hk_B,hp_B,rfl⟩
  obtain⟨hc1,hc2,hfc⟩:=hp_B
  refine Wz [25,0,8,74,173,199,4] ?_
  refine Q9 J (fun h6 => ?_) (fun h6 => ?_)
  ·have h6:=Gqc h6
   by_cases hrl:r<l.Rows.length
   ·have hat:=Yc hrl
    have hb:decide (((els l.Rows).length:Int)≤r)=false:=Gqa (by omega)
    by_cases hcl:c<(l.Rows[r]).size
    ·have hb2:decide (((l.Rows[r]).size:Int)≤c)=false:=Gqa (by omega)
     by_cases h7:byteAt (l.Rows[r]) c=35
     ·have hb3:decide (byteAt (l.Rows[r]) (c:Int).toNat=35)=true:=Gqb h7
      rw[solidM_T ⟨(r:Int),(c:Int),hr1,by omega,hc1,by omega,wall_tile hrl h7⟩]
      refine Wz [6,9,67,167,22,81,2,133,2,26,148,2,195,2,126,2,167,15,26,81,2,133,2,26,148,2,195,2,26,183,2] ?_;refine zx (Qv (b:=true) J J J J (by decide)) J ?_;refine Wz [15,17,66,182,137] ?_
      exact Xk J J (Xw [] (by decide) J J J)
     ·have hb3:decide (byteAt (l.Rows[r]) (c:Int).toNat=35)=false:=Gqa h7
      refine Wz [6,9,67,167,22,81,2,133,2,26,148,2,195,2,126,2,167,15,26,81,2,133,2,26,148,2,195,2,26] ?_;refine zx (q_byte J J J J (by omega)) J ?_;refine Wz [2,88,15,79,58] ?_
      refine⟨_,(by omega),_,⟨c+1,J,⟨by omega,by omega,free_col hfc (no_wall hrl hcl h7)⟩,J⟩,Xy [0] (by kernel_rfl)⟩
    ·have hb2:decide (((l.Rows[r]).size:Int)≤c)=true:=Gqb (by omega)
     rw[solidM_T ⟨(r:Int),(c:Int),hr1,by omega,hc1,by omega,fun q hq e g0 g1=>by have:q=r:=(by omega); subst this; omega⟩]
     refine Wz [6,9,67,167,22,81,2,133,2,26,148,2,195,2,126,2,167,15,0,91,91,28,17,66,182,137] ?_
     exact Xk J J (Xw [] (by decide) J J J)
   ·have hb:decide (((els l.Rows).length:Int)≤r)=true:=Gqb (by omega)
    rw[solidM_T ⟨(r:Int),(c:Int),hr1,by omega,hc1,by omega,fun q hq e g0 g1=>by omega⟩]
    refine Wz [6,9,67,167,0,91,91,28,0,91,91,28,17,66,182,137] ?_
    exact Xk J J (Xw [] (by decide) J J J)
  ·have h6:=Gqe h6
   refine Wz [223,241] ?_
   refine⟨_,(by omega),_,⟨r+1,J,⟨by omega,by omega,free_row hfr hfc (by omega)⟩,J⟩,Xy [0] (by kernel_rfl)⟩
 ·have h5:=Gqe h5
  rw[solidM_F (free_all hfr (by omega))]
  refine Wz [16,61] ?_
  exact Xk J J (Xw [] (by decide) J J J)
noncomputable def solidAt (l:TLevel) (x y s:Int):Bool:=(!inR s 1 16 || !levelOk l) || solidM l x y s
theorem I_SolidAt (l:TLevel) (x y s:Int) (hg:Enc.gd l) (hx:I64 x) (hy:I64 y):Con Tryz.prog 270 [] [ag l,ai x,ai y,ai s] [] (B (solidAt l x y s)):=by
 have hc:=I_LevelOk l hg
 by_cases hs:¬(1≤s∧s≤16)
 ·have hf:inR s 1 16=false:=by rw[←Gxo,Yu]; exact hs
  rw[show solidAt l x y s=true by rw[solidAt,hf]; rfl]
  refine Con.of Tryz.func270 J Tryz.ntmps270 J (fun E => ?_)
  refine Wz [124,46,153,0,95,213,115,0,269] ?_;refine zx (Qt.grdF J J J (.hit .stop) (fun hgrd=>Qj J J (hc) J)) J ?_;refine Wz [194,43] ?_
  refine Q9 J (fun h => ?_) (fun h => ?_)
  ·refine Wz [35] ?_
   exact Xk J J (Xw [] (by decide) J J J)
  ·simp only[Gql,decide_eq_false_iff_not] at h
   omega
 have hs:=Classical.not_not.1 hs
 have hb1:decide (s<1)=false:=Gqa (by omega)
 have hb2:decide (16<s)=false:=Gqa (by omega)
 cases ho:levelOk l with
 |false =>
  rw[ho] at hc
  rw[show solidAt l x y s=true by rw[solidAt,ho]; simp]
  refine Con.of Tryz.func270 J Tryz.ntmps270 J (fun E => ?_)
  refine Wz [124,80,22,190,15,26,53,2] ?_;refine zx (Qj J J (hc) J) J ?_;refine Wz [2,3,15,23] ?_
  exact Xk J J (Xw [] (by decide) J J J)
 |true =>
  rw[ho] at hc
  rw[show solidAt l x y s=solidM l x y s by rw[solidAt,ho,Yu.2 hs]; rfl]
  have hd:=I_solid l x y s ho hx hy hs.1 hs.2
  refine Con.of Tryz.func270 J Tryz.ntmps270 J (fun E => ?_)
  refine Wz [124,80,22,190,15,26,53,2] ?_;refine zx (Qj J J (hc) J) J ?_;refine Wz [2,3,15,54,45,131,0,270,52] ?_
  exact Xk J J (Xw [] (by decide) J J J)
end
end Go.Proofs.YtoecjaohdnoenaaGreat
