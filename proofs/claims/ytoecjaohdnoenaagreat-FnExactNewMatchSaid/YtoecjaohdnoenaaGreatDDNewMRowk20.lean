/-
  Rules, data and contracts of functions: part 21 of the proof.
  Conditions: those that each theorem names.
-/
import Derived.Test.YtoecjaohdnoenaaGreatDDNewMRowk19
set_option linter.unusedSimpArgs false
set_option linter.unusedVariables false
set_option maxRecDepth 8000
set_option maxHeartbeats 8000000
namespace Go.Proofs.YtoecjaohdnoenaaGreat
section
open Go.RowKit

theorem openF_35 {rows:List ByteArray} {row:ByteArray} {r c:Nat} (h:byteAt row c=35):openF rows row r c=openF rows row r (c+1):=by
 cases ho:openF rows row r c with
 |some x=>rw[Y0 ho]
 |none=>rw[Y1 ho,if_pos h]
theorem tu2 {x y x' y':Int} (h1:x=x') (h2:y=y'):V.tu [.c (jn x),.c (jn y)]=V.tu [.c (jn x'),.c (jn y')]:=by rw[h1,h2]
theorem I_StartOf (l:TLevel) (p:Int) (hg:Enc.gd l) (hl:levelOk l=true) (hp:0≤p∧p≤3):Con Tryz.prog 249 [] [ag l,ai p] [] (.tu [.c (jn (spX (startT l p))),.c (jn (spY (startT l p)))]):=by
 have hc:=Xj l hg
 rw[hl] at hc
 have hlr:=X6 l.Rows
 have hx:l.Rows.length≤9223372036854775807:=hg.1
 obtain⟨l3,l12,w,w4,w20,hw⟩:=Yl hl
 have b1:decide (p<0)=false:=Gqa (by omega)
 have b2:decide (p≥4)=false:=Gqa (by omega)
 refine Con.of Tryz.func249 J Tryz.ntmps249 J (fun E => ?_)
 refine Wz [113,96,189,20,157,15,44,38,1] ?_;refine zx (Qj J J (hc) J) J ?_;refine Wz [1,5,15,26,33,33,27,104,2,50] ?_;refine Xe (fun m st=>∃ r:Nat,r+m=l.Rows.length∧(tileF (isDig p) l.Rows r=none)∧st=(⟨_,[(1,I p),(2,.o (.c (.ptr 0 0))),(6,I (spX (tileF isOpen l.Rows r))),(7,I (spY (tileF isOpen l.Rows r))),(23,L l.Rows),(24,I (els l.Rows).length),(25,I r)],[.box ((Enc.e l).map (V1.rd []))]⟩:St)) (l.Rows.length) ⟨_,⟨0,by omega,J,J⟩,Xv [0] (by kernel_rfl)⟩ ?_
 rintro m_A _ ⟨r,hk_A,hp_A,rfl⟩
 refine Wz [7,12,16] ?_
 refine Q8 J (fun h => ?_) (fun h => ?_)
 ·have h3:r<l.Rows.length:=by have:=Gqc h; omega
  have hat:=X5 h3
  have hwr:=hw r h3
  have hrow:=Gqe h3
  generalize l.Rows[r]=row at hat hwr hrow
  refine Wz [9,4,84,96,3,33,50] ?_;refine Xe (fun m st=>∃ c:Nat,c+m=row.size∧(colF (isDig p) row c=none)∧st=(⟨_,[(1,I p),(2,.o (.c (.ptr 0 0))),(6,I (spX (openF l.Rows row r c))),(7,I (spY (openF l.Rows row r c))),(8,I r),(9,S row),(10,I c),(23,L l.Rows),(24,I (els l.Rows).length),(25,I r)],[.box ((Enc.e l).map (V1.rd []))]⟩:St)) (row.size) ⟨(fun c:Nat=>(⟨_,[(1,I p),(2,.o (.c (.ptr 0 0))),(6,I (spX (openF l.Rows row r c))),(7,I (spY (openF l.Rows row r c))),(8,I r),(9,S row),(10,I c),(23,L l.Rows),(24,I (els l.Rows).length),(25,I r)],[.box ((Enc.e l).map (V1.rd []))]⟩:St)) 0,⟨0,by omega,J,J⟩,Xw [0] (by decide) J (by kernel_rfl) (.c J (.c J (.cons (Xl (by rw[openF_zero])) (.cons (Xl (by rw[openF_zero])) (.c J (.c J (.c J (.c J (.c J (.c J (.nil)))))))))))⟩ ?_
  rintro m_D _ ⟨c,hk_D,hp_D,rfl⟩
  refine Wz [28,136,12] ?_
  refine Q8 J (fun h4 => ?_) (fun h4 => ?_)
  ·have h4:c<row.size:=by have:=Gqc h4; omega
   have hbt:=X4 row c
   have hbt2:=X4 row (c:Int).toNat
   by_cases hd:byteAt row c=49+p
   ·have hb:decide (byteAt row (c:Int).toNat=49+p)=true:=Gqb hd
    rw[start_dig hp_A hrow hp_D h4 hd]
    clear hd
    refine Wz [9,28,146,0,14,166,31,101,4,114,14,0,114,14,96,109,63,118,88] ?_
    exact E_tmp2 J J J (Xt [] (by decide) J J (tu2 (show (c:Int)*16+2=16*(c:Int)+2 by omega) (show (r:Int)*16+2=16*(r:Int)+2 by omega)))
   have hb:decide (byteAt row (c:Int).toNat=49+p)=false:=Gqa hd
   have hnd:=colF_step hp_D (show isDig p (byteAt row c)=false from Gqa hd)
   by_cases h35:byteAt row c=35
   ·have hb3:decide (byteAt row (c:Int).toNat≠35)=false:=Gqa (fun q=>q h35)
    have hnx:spX (openF l.Rows row r c)=spX (openF l.Rows row r (c+1)):=by rw[openF_35 h35]
    have hny:spY (openF l.Rows row r c)=spY (openF l.Rows row r (c+1)):=by rw[openF_35 h35]
    clear h35
    refine Wz [9,28,146,0,14,166,31,26,10,146,62,65,15,57] ?_
    exact⟨row.size-(c+1),by omega,(fun c:Nat=>(⟨_,[(1,I p),(2,.o (.c (.ptr 0 0))),(6,I (spX (openF l.Rows row r c))),(7,I (spY (openF l.Rows row r c))),(8,I r),(9,S row),(10,I c),(23,L l.Rows),(24,I (els l.Rows).length),(25,I r)],[.box ((Enc.e l).map (V1.rd []))]⟩:St)) (c+1),⟨c+1,by omega,hnd,J⟩,Xw [0] (by decide) J (by kernel_rfl) (.c J (.c J (.cons (Xl hnx) (.cons (Xl hny) (.c J (.c J (.c J (.c J (.c J (.c J (.nil)))))))))))⟩
   have hb3:decide (byteAt row (c:Int).toNat≠35)=true:=Gqb h35
   have h35':=h35
   cases ho:openF l.Rows row r c with
   |some x =>
    have hlt:decide (spX (openF l.Rows row r c)<0)=false:=Gqa (by rw[spX_neg,ho]; simp)
    have hnx:spX (some x)=spX (openF l.Rows row r (c+1)):=by rw[Y0 ho]
    have hny:spY (some x)=spY (openF l.Rows row r (c+1)):=by rw[Y0 ho]
    rw[ho] at hlt
    refine Wz [9,28,146,0,14,166,31,26,10,146,62,20,67,29,57] ?_
    exact⟨row.size-(c+1),by omega,(fun c:Nat=>(⟨_,[(1,I p),(2,.o (.c (.ptr 0 0))),(6,I (spX (openF l.Rows row r c))),(7,I (spY (openF l.Rows row r c))),(8,I r),(9,S row),(10,I c),(23,L l.Rows),(24,I (els l.Rows).length),(25,I r)],[.box ((Enc.e l).map (V1.rd []))]⟩:St)) (c+1),⟨c+1,by omega,hnd,J⟩,Xw [0] (by decide) J (by kernel_rfl) (.c J (.c J (.cons (Xl hnx) (.cons (Xl hny) (.c J (.c J (.c J (.c J (.c J (.c J (.nil)))))))))))⟩
   |none =>
    have hlt:decide (spX none<0)=true:=rfl
    have hnx:(c:Int)*16+2=spX (openF l.Rows row r (c+1)):=by rw[Y1 ho,if_neg h35']; show (c:Int)*16+2=16*(c:Int)+2; omega
    have hny:(r:Int)*16+2=spY (openF l.Rows row r (c+1)):=by rw[Y1 ho,if_neg h35']; show (r:Int)*16+2=16*(r:Int)+2; omega
    refine Wz [9,28,146,0,14,166,31,26,10,146,62,20,67,29,101,4,114,171,75,114,14,56] ?_
    exact⟨row.size-(c+1),by omega,(fun c:Nat=>(⟨_,[(1,I p),(2,.o (.c (.ptr 0 0))),(6,I (spX (openF l.Rows row r c))),(7,I (spY (openF l.Rows row r c))),(8,I r),(9,S row),(10,I c),(23,L l.Rows),(24,I (els l.Rows).length),(25,I r)],[.box ((Enc.e l).map (V1.rd []))]⟩:St)) (c+1),⟨c+1,by omega,hnd,J⟩,Xw [0] (by decide) J (by kernel_rfl) (.c J (.c J (.cons (Xl hnx) (.cons (Xl hny) (.c J (.c J (.c J (.c J (.c J (.c J (.nil)))))))))))⟩
  ·have h4:c=row.size:=by have:=Gqg h4; omega
   subst h4
   refine Wz [178,60,100,14,0,2] ?_
   exact⟨l.Rows.length-(r+1),by omega,(fun r:Nat=>(⟨_,[(1,I p),(2,.o (.c (.ptr 0 0))),(6,I (spX (tileF isOpen l.Rows r))),(7,I (spY (tileF isOpen l.Rows r))),(23,L l.Rows),(24,I (els l.Rows).length),(25,I r)],[.box ((Enc.e l).map (V1.rd []))]⟩:St)) (r+1),⟨r+1,by omega,tileF_step hp_A hrow hp_D,J⟩,Xw [0] (by decide) J (by kernel_rfl) (.c J (.c J (.cons (Xl (by rw[←openF_end hrow])) (.cons (Xl (by rw[←openF_end hrow])) (.c J (.c J (.c J (.nil))))))))⟩
 ·have h3:r=l.Rows.length:=by have:=Gqg h; omega
  rw[start_open hp_A h3]
  refine Wz [68,10,96,46] ?_
  exact E_tmp2 J J J (Xt [] (by decide) J J J)
theorem S_StartOf (l:TLevel) (p:Int) (hg:Enc.gd l) (hl:levelOk l=true) (hp:0≤p∧p≤3):Con Tryz.prog 247 [] [ag l,ai p] [] (.tu [.c (jn (spX (startT l p))),.c (jn (spY (startT l p)))]):=by
 have hc:=S_LevelOk l hg
 rw[hl] at hc
 have hlr:=X6 l.Rows
 have hx:l.Rows.length≤9223372036854775807:=hg.1
 obtain⟨l3,l12,w,w4,w20,hw⟩:=Yl hl
 have hci:=Xs p 0 3
 rw[Yk.2 hp] at hci
 refine Con.of Tryz.func247 J Tryz.ntmps247 J (fun E => ?_)
 refine Wz [113,96,3,33,33,112,38] ?_;refine zx (Qj J J (hc) J) J ?_;refine Wz [5,20] ?_;refine zx (Qj J J (hci) J) J ?_;refine Wz [1,5,15,26,39] ?_;refine Xe (fun m st=>∃ r:Nat,r+m=l.Rows.length∧(tileF (isDig p) l.Rows r=none)∧st=(⟨_,[(1,I p),(2,.o (.c (.ptr 0 0))),(6,I (spX (tileF isOpen l.Rows r))),(7,I (spY (tileF isOpen l.Rows r))),(8,I r)],[.box ((Enc.e l).map (V1.rd []))]⟩:St)) (l.Rows.length) ⟨_,⟨0,by omega,J,J⟩,Xv [0] (by kernel_rfl)⟩ ?_
 rintro m_A _ ⟨r,hk_A,hp_A,rfl⟩
 refine Wz [111,13,21,12] ?_
 refine Q8 J (fun h => ?_) (fun h => ?_)
 ·have h3:r<l.Rows.length:=by have:=Gqc h; omega
  have hat:=X5 h3
  have hwr:=hw r h3
  have hrow:=Gqe h3
  generalize l.Rows[r]=row at hat hwr hrow
  refine Wz [9,33,50] ?_;refine Xe (fun m st=>∃ c:Nat,c+m=row.size∧(colF (isDig p) row c=none)∧st=(⟨_,[(1,I p),(2,.o (.c (.ptr 0 0))),(6,I (spX (openF l.Rows row r c))),(7,I (spY (openF l.Rows row r c))),(8,I r),(9,I c)],[.box ((Enc.e l).map (V1.rd []))]⟩:St)) (row.size) ⟨(fun c:Nat=>(⟨_,[(1,I p),(2,.o (.c (.ptr 0 0))),(6,I (spX (openF l.Rows row r c))),(7,I (spY (openF l.Rows row r c))),(8,I r),(9,I c)],[.box ((Enc.e l).map (V1.rd []))]⟩:St)) 0,⟨0,by omega,J,J⟩,Xw [0] (by decide) J (by kernel_rfl) (.c J (.c J (.cons (Xl (by rw[openF_zero])) (.cons (Xl (by rw[openF_zero])) (.c J (.c J (.nil)))))))⟩ ?_
  rintro m_D _ ⟨c,hk_D,hp_D,rfl⟩
  refine Wz [111,13,0,84,136,12] ?_
  refine Q8 J (fun h4 => ?_) (fun h4 => ?_)
  ·have h4:c<row.size:=by have:=Gqc h4; omega
   have hbt:=X4 row c
   have hbt2:=X4 row (c:Int).toNat
   by_cases hd:byteAt row c=49+p
   ·have hb:decide (byteAt row (c:Int).toNat-49=p)=true:=Gqb (by show byteAt row c-49=p; omega)
    have hb3:decide (byteAt row (c:Int).toNat≠35)=true:=Gqb (by show byteAt row c≠35; omega)
    rw[start_dig hp_A hrow hp_D h4 hd]
    clear hd
    cases ho:openF l.Rows row r c with
    |some x =>
     have hlt:decide (spX (openF l.Rows row r c)<0)=false:=Gqa (by rw[spX_neg,ho]; simp)
     rw[ho] at hlt
     refine Wz [9,36,128,91,146,98,62,20,67,29,20,159,1,97,1,44,31,15,101,4,114,171,75,114,171,4,159,97,0,31,101,10,96,109,151,88] ?_
     exact E_tmp2 J J J (Xt [] (by decide) J J J)
    |none =>
     have hlt:decide (spX none<0)=true:=rfl
     refine Wz [9,36,128,91,146,98,62,20,67,29,65,119,125,29,101,4,114,171,75,114,171,4,159,97,0,31,101,10,96,109,151,88] ?_
     exact E_tmp2 J J J (Xt [] (by decide) J J J)
   have hb:decide (byteAt row (c:Int).toNat-49=p)=false:=Gqa (by show ¬byteAt row c-49=p; omega)
   have hnd:=colF_step hp_D (show isDig p (byteAt row c)=false from Gqa hd)
   by_cases h35:byteAt row c=35
   ·have hb3:decide (byteAt row (c:Int).toNat≠35)=false:=Gqa (fun q=>q h35)
    have hnx:spX (openF l.Rows row r c)=spX (openF l.Rows row r (c+1)):=by rw[openF_35 h35]
    have hny:spY (openF l.Rows row r c)=spY (openF l.Rows row r (c+1)):=by rw[openF_35 h35]
    clear h35
    refine Wz [9,36,128,91,146,98,62,65,15,20,159,1,97,1,44,31,15,26,4,159,97,0,31,57] ?_
    exact⟨row.size-(c+1),by omega,(fun c:Nat=>(⟨_,[(1,I p),(2,.o (.c (.ptr 0 0))),(6,I (spX (openF l.Rows row r c))),(7,I (spY (openF l.Rows row r c))),(8,I r),(9,I c)],[.box ((Enc.e l).map (V1.rd []))]⟩:St)) (c+1),⟨c+1,by omega,hnd,J⟩,Xw [0] (by decide) J (by kernel_rfl) (.c J (.c J (.cons (Xl hnx) (.cons (Xl hny) (.c J (.c J (.nil)))))))⟩
   have hb3:decide (byteAt row (c:Int).toNat≠35)=true:=Gqb h35
   have h35':=h35
   cases ho:openF l.Rows row r c with
   |some x =>
    have hlt:decide (spX (openF l.Rows row r c)<0)=false:=Gqa (by rw[spX_neg,ho]; simp)
    have hnx:spX (some x)=spX (openF l.Rows row r (c+1)):=by rw[Y0 ho]
    have hny:spY (some x)=spY (openF l.Rows row r (c+1)):=by rw[Y0 ho]
    rw[ho] at hlt
    refine Wz [9,36,128,91,146,98,62,20,67,29,20,159,1,97,1,44,31,15,26,4,159,97,0,31,57] ?_
    exact⟨row.size-(c+1),by omega,(fun c:Nat=>(⟨_,[(1,I p),(2,.o (.c (.ptr 0 0))),(6,I (spX (openF l.Rows row r c))),(7,I (spY (openF l.Rows row r c))),(8,I r),(9,I c)],[.box ((Enc.e l).map (V1.rd []))]⟩:St)) (c+1),⟨c+1,by omega,hnd,J⟩,Xw [0] (by decide) J (by kernel_rfl) (.c J (.c J (.cons (Xl hnx) (.cons (Xl hny) (.c J (.c J (.nil)))))))⟩
   |none =>
    have hlt:decide (spX none<0)=true:=rfl
    have hnx:16*(c:Int)+2=spX (openF l.Rows row r (c+1)):=by rw[Y1 ho,if_neg h35']; rfl
    have hny:16*(r:Int)+2=spY (openF l.Rows row r (c+1)):=by rw[Y1 ho,if_neg h35']; rfl
    refine Wz [9,36,128,91,146,98,62,20,67,29,65,119,125,29,101,4,114,171,75,114,171,4,159,97,0,31,57] ?_
    exact⟨row.size-(c+1),by omega,(fun c:Nat=>(⟨_,[(1,I p),(2,.o (.c (.ptr 0 0))),(6,I (spX (openF l.Rows row r c))),(7,I (spY (openF l.Rows row r c))),(8,I r),(9,I c)],[.box ((Enc.e l).map (V1.rd []))]⟩:St)) (c+1),⟨c+1,by omega,hnd,J⟩,Xw [0] (by decide) J (by kernel_rfl) (.c J (.c J (.cons (Xl hnx) (.cons (Xl hny) (.c J (.c J (.nil)))))))⟩
  ·have h4:c=row.size:=by have:=Gqg h4; omega
   subst h4
   refine Wz [178,168] ?_
   exact⟨l.Rows.length-(r+1),by omega,(fun r:Nat=>(⟨_,[(1,I p),(2,.o (.c (.ptr 0 0))),(6,I (spX (tileF isOpen l.Rows r))),(7,I (spY (tileF isOpen l.Rows r))),(8,I r)],[.box ((Enc.e l).map (V1.rd []))]⟩:St)) (r+1),⟨r+1,by omega,tileF_step hp_A hrow hp_D,J⟩,Xw [0] (by decide) J (by kernel_rfl) (.c J (.c J (.cons (Xl (by rw[←openF_end hrow])) (.cons (Xl (by rw[←openF_end hrow])) (.c J (.nil))))))⟩
 ·have h3:r=l.Rows.length:=by have:=Gqg h; omega
  rw[start_open hp_A h3]
  refine Wz [68,10,96,46] ?_
  exact E_tmp2 J J J (Xt [] (by decide) J J J)
end
section
open Go.RowKit

theorem I_fresh (l:TLevel) (p:Int) (hg:Enc.gd l) (hl:levelOk l=true) (hp:0≤p∧p≤3):Con Tryz.prog 215 [] [ag l,ai p] [] (.o (.ag ((Enc.e (fresh l p)).map (V1.rd [])))):=by
 have hc:=I_StartOf l p hg hl hp
 refine Con.of Tryz.func215 J Tryz.ntmps215 J (fun E => ?_)
 refine Wz [113,22,2,40,0] ?_;refine M1 (Y8 J J (hc) J J J) J J ?_;refine Wz [195,149,149,96,3,156,115,49,116,117] ?_
 exact E_cell J J J J (Xt [] (by decide) J J J)
theorem S_fresh (l:TLevel) (p:Int) (hg:Enc.gd l) (hl:levelOk l=true) (hp:0≤p∧p≤3):Con Tryz.prog 213 [] [ag l,ai p] [] (.o (.ag ((Enc.e (fresh l p)).map (V1.rd [])))):=by
 have hc:=S_StartOf l p hg hl hp
 refine Con.of Tryz.func213 J Tryz.ntmps213 J (fun E => ?_)
 refine Wz [113,22,2,40,0] ?_;refine M1 (Y8 J J (hc) J J J) J J ?_;refine Wz [195,149,149,96,3,156,115,49,116,117] ?_
 exact E_cell J J J J (Xt [] (by decide) J J J)
theorem row6w {a b c d e:Ob} {k:Nat} {x y:List (List T)} (h:x=y) : [a,b,c,d,e,Ob.row k x] = [a,b,c,d,e,Ob.row k y]:=by rw[h]
def freshs (l:TLevel) (k:Nat):List TBody:=(List.range k).map fun (k:Nat)=>fresh l (k:Int)
theorem freshs_succ (l:TLevel) (k:Nat):freshs l (k+1)=freshs l k ++ [fresh l k]:=by simp[freshs,List.range_succ]
theorem freshs_len (l:TLevel) (k:Nat):(freshs l k).length=k:=by simp[freshs]
theorem zeros_els (n:Nat):els (List.replicate n (0:Int))=List.replicate n [.v (.int .i64 0)]:=by simp[els,Enc.e]
theorem newWorld_gd {l:TLevel} {n:Nat} {seed:Int} (hg:Enc.gd l) (hl:levelOk l=true) (hn:1≤n∧n≤4) (hs:inR seed 0 65535=true):Enc.gd (newWorld l n seed):=by
 have h0:I64 0:=⟨by decide,by decide⟩
 have hsd:=Yk.1 hs
 refine⟨hg,h0,⟨by show (-9223372036854775808:Int)≤seed; omega,by show seed≤9223372036854775807; omega⟩,⟨by simp[newWorld]; omega,fun x hx => ?_⟩,⟨by simp[newWorld]; omega,fun b hb => ?_⟩⟩
 ·have:x=0:=by simpa[newWorld] using Gxo hx
  rw[this]; exact h0
 ·simp only[newWorld,Gqs,List.mem_range] at hb
  obtain⟨k,hk,rfl⟩:=hb
  obtain⟨_,h3,h4⟩:=fresh_free hl (p:=(k:Int)) (by omega)
  exact⟨h0,⟨by show (-9223372036854775808:Int)≤(k:Int); omega,by show (k:Int)≤9223372036854775807; omega⟩,⟨by omega,by omega⟩,⟨by omega,by omega⟩,h0,h0,⟨by simp only[fresh]; omega,by simp only[fresh]; omega⟩,⟨by simp only[fresh]; omega,by simp only[fresh]; omega⟩,h0⟩
theorem I_NewWorld (l:TLevel) (n:Nat) (seed:Int) (hg:Enc.gd l) (hL:l.Rows.length≤1048576) (hl:levelOk l=true) (hn:1≤n∧n≤4) (hs:inR seed 0 65535=true):Con Tryz.prog 138 [] [ag l,ai n,ai seed] (ownO (Enc.e (newWorld l n seed))) (.tu [.ag (ownV 0 (Enc.e (newWorld l n seed))),.c (bv true)]):=by
 have c1:=Xj l hg
 have c2:=Xk n 1 4
 have c3:=Xk seed 0 65535
 rw[hl] at c1
 rw[Yk.2 (by omega)] at c2
 rw[hs] at c3
 have hwk:=I_WorldOk (newWorld l n seed) (newWorld_gd hg hl hn hs)
 rw[newWorld_ok hl hn hs] at hwk
 have hcl:=I_copyLevel l hg hL
 refine Con.of Tryz.func138 J Tryz.ntmps138 J (fun E => ?_)
 refine Wz [113,22,3,112,38] ?_;refine zx (Qj J J (c1) J) J ?_;refine Wz [5,20] ?_;refine zx (Qj J J (c2) J) J ?_;refine Wz [1,5,15,20] ?_;refine zx (Qj J J (c3) J) J ?_;refine Wz [1,5,15,26,16] ?_
 refine AWP.pre (st':=(⟨_,[(1,I n),(2,I seed),(3,.o (.c (.ptr 0 0))),(6,.o (.c (.ptr 1 0)))],[.box ((Enc.e l).map (V1.rd [])),.box [nilV,jn 0,jn 0,nilV,nilV]]⟩:St)) ?_ (Xv [0,1] (by kernel_rfl))
 skip
 refine Xd [[],[0],[],[],[3],(u9 5),[],(u9 7)] [[],[24],[],[],[27],[24,25,26,27,28],[],[8,24,25,26,27,28,29]] [[8,26,27,28],[8,26,27,28],[8,24,25,27,28],[8,24,25,26],[8,24,25,26],[8],[24,25,26,27,28,29],[]] J (DR.s (Qu J J J J J J) J J ?_);refine DR.s (Y8 J J (hcl) J J J) J J ?_;refine Wz [142] ?_;refine DR.s (q_make 0 J J J J (by omega) (by omega) (by omega) J (by decide)) J J ?_;refine Wz [245,196,30] ?_
 refine AL.weak (st':=(⟨_,[(1,I n),(3,.o (.c (.ptr 0 0))),(6,.o (.c (.ptr 1 0))),(8,.o (.c (.ptr 4 0))),(29,.o (.ag [.ref 2,jn 0,jn seed,.ref 3,nilV]))],[.box ((Enc.e l).map (V1.rd [])),.box [nilV,jn 0,jn 0,nilV,nilV],.row 1 (els l.Rows),.row 1 (els (List.replicate n (0:Int))),.box [nilV,jn 0,jn 0,nilV,nilV]]⟩:St)) (by rw[zeros_els]; exact Xv [0,1,2,3,4] (by kernel_rfl)) ?_
 refine Wz [49,39] ?_
 refine AWP.pre (st':=(⟨_,[(1,I n),(3,.o (.c (.ptr 0 0))),(6,.o (.c (.ptr 1 0))),(8,.o (.c (.ptr 4 0))),(9,I 0)],[.box ((Enc.e l).map (V1.rd [])),.box [nilV,jn 0,jn 0,nilV,nilV],.row 1 (els l.Rows),.row 1 (els (List.replicate n (0:Int))),.box [.ref 2,jn 0,jn seed,.ref 3,nilV]]⟩:St)) ?_ (Xv [0,1,2,3,4] (by kernel_rfl))
 refine AWP.pre ?_ (Wk.nilbox (p:=4) (i:=4) 9 J J)
 refine Xe (fun m st=>∃ k:Nat,k+m=n∧(True)∧st=(⟨_,[(1,I n),(3,.o (.c (.ptr 0 0))),(6,.o (.c (.ptr 1 0))),(8,.o (.c (.ptr 4 0))),(9,I k)],[.box ((Enc.e l).map (V1.rd [])),.box [nilV,jn 0,jn 0,nilV,nilV],.row 1 (els l.Rows),.row 1 (els (List.replicate n (0:Int))),.box [.ref 2,jn 0,jn seed,.ref 3,.ref 5],.row 9 (els (freshs l k))]⟩:St)) (n) ⟨_,⟨0,by omega,trivial,J⟩,Xv [0,1,2,3,4,5] (by kernel_rfl)⟩ ?_
 rintro m_A _ ⟨k,hk_A,hp_A,rfl⟩
 have hlk:=X6 (freshs l k)
 have hlk2:=freshs_len l k
 refine Wz [28,12] ?_
 refine Q8 J (fun h => ?_) (fun h => ?_)
 ·have h3:k<n:=by have:=Gqc h; omega
  have hf:=I_fresh l k hg hl (by omega)
  refine Wz [9] ?_;refine Xd u8_12 [[],[35],[],[],[37,38],[37,38,39],[35,36,37,38,39,40],[35,36,37,38,39,40,41],[35,36,37,38,39,40,41,42]] [[37,38,39,40],[37,38,39,40],[35,36,38],[35,36,37],[35,36],[35,36],[],[],[]] J ?_;refine Wz [32,147,8] ?_;refine DR.s (Y8 J J (hf) J J J) J J ?_;refine Wz [184,30] ?_;refine AL.weak (st':=(⟨_,[(1,I n),(3,.o (.c (.ptr 0 0))),(6,.o (.c (.ptr 1 0))),(8,.o (.c (.ptr 4 0))),(9,I k),(36,.o (.c (.ref 5))),(40,.o (.c (.sb 6 1 9)))],[.box ((Enc.e l).map (V1.rd [])),.box [nilV,jn 0,jn 0,nilV,nilV],.row 1 (els l.Rows),.row 1 (els (List.replicate n (0:Int))),.box [.ref 2,jn 0,jn seed,.ref 3,.ref 5],.row 9 (els (freshs l k)),.box [jn 0,jn (k:Int),jn (spX (startT l k)),jn (spY (startT l k)),jn 0,jn 0,jn 1,jn 3,jn 0]]⟩:St)) (Xv [0,1,2,3,4,5,6] (by kernel_rfl)) ?_;refine Wz [203,185,137] ?_
  exact⟨n-(k+1),by omega,(fun k:Nat=>(⟨_,[(1,I n),(3,.o (.c (.ptr 0 0))),(6,.o (.c (.ptr 1 0))),(8,.o (.c (.ptr 4 0))),(9,I k)],[.box ((Enc.e l).map (V1.rd [])),.box [nilV,jn 0,jn 0,nilV,nilV],.row 1 (els l.Rows),.row 1 (els (List.replicate n (0:Int))),.box [.ref 2,jn 0,jn seed,.ref 3,.ref 5],.row 9 (els (freshs l k))]⟩:St)) (k+1),⟨k+1,by omega,trivial,J⟩,Xw [0,1,2,3,4,5] (by decide) J (row6w (by rw[freshs_succ]; simp[els]; rfl)) (.c J (.c J (.c J (.c J (.c J (.nil))))))⟩
 have h3:k=n:=by have:=Gqg h; omega
 subst h3
 refine Wz [68,112,38] ?_;refine zx (Qj J J (hwk) J) J ?_;refine Wz [53,40,110,46] ?_
 exact Xh J J J J J (Xt [2,3,5] (by decide) J J J)
theorem reps_succ (k:Nat):els (List.replicate k (0:Int)) ++ [[.v (.int .i64 0)]]=els (List.replicate (k+1) (0:Int)):=by rw[List.replicate_succ']; simp[els,Enc.e]
theorem row65 {a b c d e:Ob} {k:Nat} {x y:List (List T)} (h:x=y) : [a,b,c,d,Ob.row k x,e] = [a,b,c,d,Ob.row k y,e]:=by rw[h]
end
section
open Go.RowKit

structure TTrack where
 Inputs:(List Int)
 deriving DecidableEq
instance:Enc TTrack:=⟨1,by omega,fun x => [sl x.Inputs],fun _=>rfl,fun x=>Enc.gd x.Inputs,fun x=>Enc.wt x.Inputs⟩
theorem TTrack.same {x y:TTrack} (h0:x.Inputs=y.Inputs):x=y:=by cases x; cases y; simp_all
structure TSave where
 Tick:Int
 Delta:ByteArray
 deriving DecidableEq
instance:Enc TSave:=⟨2,by omega,fun x => [.v (.int .i64 x.Tick),.v (.string x.Delta)],fun _=>rfl,fun x=>Enc.gd x.Tick∧Enc.gd x.Delta,fun x=>Enc.wt x.Delta⟩
theorem TSave.same {x y:TSave} (h0:x.Tick=y.Tick) (h1:x.Delta=y.Delta):x=y:=by cases x; cases y; simp_all
structure TFault where
 Tick:Int
 Player:Int
 Add:Int
 deriving DecidableEq
instance:Enc TFault:=⟨3,by omega,fun x => [.v (.int .i64 x.Tick),.v (.int .i64 x.Player),.v (.int .i64 x.Add)],fun _=>rfl,fun x=>Enc.gd x.Tick∧Enc.gd x.Player∧Enc.gd x.Add,fun x=>0⟩
theorem TFault.same {x y:TFault} (h0:x.Tick=y.Tick) (h1:x.Player=y.Player) (h2:x.Add=y.Add):x=y:=by cases x; cases y; simp_all
structure TPacket where
 From:Int
 Tick:Int
 First:Int
 Inputs:(List Int)
 Acks:(List Int)
 SumTick:Int
 Sum:Int
 Time:Int
 Echo:Int
 deriving DecidableEq
instance:Enc TPacket:=⟨9,by omega,fun x => [.v (.int .i64 x.From),.v (.int .i64 x.Tick),.v (.int .i64 x.First),sl x.Inputs,sl x.Acks,.v (.int .i64 x.SumTick),.v (.int .i64 x.Sum),.v (.int .i64 x.Time),.v (.int .i64 x.Echo)],fun _=>rfl,fun x=>Enc.gd x.From∧Enc.gd x.Tick∧Enc.gd x.First∧Enc.gd x.Inputs∧Enc.gd x.Acks∧Enc.gd x.SumTick∧Enc.gd x.Sum∧Enc.gd x.Time∧Enc.gd x.Echo,fun x=>Enc.wt x.Inputs+Enc.wt x.Acks⟩
theorem TPacket.same {x y:TPacket} (h0:x.From=y.From) (h1:x.Tick=y.Tick) (h2:x.First=y.First) (h3:x.Inputs=y.Inputs) (h4:x.Acks=y.Acks) (h5:x.SumTick=y.SumTick) (h6:x.Sum=y.Sum) (h7:x.Time=y.Time) (h8:x.Echo=y.Echo):x=y:=by cases x; cases y; simp_all
structure TPeer where
 Me:Int
 Delay:Int
 Ahead:Int
 Seed:Int
 Tracks:(List TTrack)
 Base:TWorld
 Now:TWorld
 Used:(List (List Int))
 Saves:(List TSave)
 Sums:(List Int)
 Fault:TFault
 Rolls:Int
 Again:Int
 deriving DecidableEq
instance:Enc TPeer:=⟨23,by omega,fun x => [.v (.int .i64 x.Me),.v (.int .i64 x.Delay),.v (.int .i64 x.Ahead),.v (.int .i64 x.Seed),sl x.Tracks,sl x.Base.Level.Rows,.v (.int .i64 x.Base.Tick),.v (.int .i64 x.Base.Seed),sl x.Base.Scores,sl x.Base.Bodies,sl x.Now.Level.Rows,.v (.int .i64 x.Now.Tick),.v (.int .i64 x.Now.Seed),sl x.Now.Scores,sl x.Now.Bodies,sl x.Used,sl x.Saves,sl x.Sums,.v (.int .i64 x.Fault.Tick),.v (.int .i64 x.Fault.Player),.v (.int .i64 x.Fault.Add),.v (.int .i64 x.Rolls),.v (.int .i64 x.Again)],fun _=>rfl,fun x=>Enc.gd x.Me∧Enc.gd x.Delay∧Enc.gd x.Ahead∧Enc.gd x.Seed∧Enc.gd x.Tracks∧Enc.gd x.Base∧Enc.gd x.Now∧Enc.gd x.Used∧Enc.gd x.Saves∧Enc.gd x.Sums∧Enc.gd x.Fault∧Enc.gd x.Rolls∧Enc.gd x.Again,fun x=>Enc.wt x.Tracks+Enc.wt x.Base+Enc.wt x.Now+Enc.wt x.Used+Enc.wt x.Saves+Enc.wt x.Sums+Enc.wt x.Fault⟩
theorem TPeer.same {x y:TPeer} (h0:x.Me=y.Me) (h1:x.Delay=y.Delay) (h2:x.Ahead=y.Ahead) (h3:x.Seed=y.Seed) (h4:x.Tracks=y.Tracks) (h5:x.Base=y.Base) (h6:x.Now=y.Now) (h7:x.Used=y.Used) (h8:x.Saves=y.Saves) (h9:x.Sums=y.Sums) (h10:x.Fault=y.Fault) (h11:x.Rolls=y.Rolls) (h12:x.Again=y.Again):x=y:=by cases x; cases y; simp_all

theorem eq_Track (x y:TTrack) (hg:Enc.gd x):Con Tryz.prog 202 [] [ag x,ag y] [] (B (decide (x=y))):=by
 have g_Inputs:Enc.gd x.Inputs:=hg
 by_cases e_Inputs:¬x.Inputs=y.Inputs
 ·have hc:=eq_IntS x.Inputs y.Inputs g_Inputs
  rw[Gqa e_Inputs] at hc
  refine Con.of Tryz.func202 J Tryz.ntmps202 J (fun E => ?_)
  refine Wz [19] ?_;refine zx (Qj J J (hc) J) J ?_;refine Wz [5,37] ?_
  exact Xi J J (Xt [] (by decide) J J (Xf (Gqa fun e=>e_Inputs (by rw[e])).symm))
 have e_Inputs:=Classical.not_not.1 e_Inputs
 have hc_Inputs:=eq_IntS x.Inputs y.Inputs g_Inputs
 rw[Gqb e_Inputs] at hc_Inputs
 refine Con.of Tryz.func202 J Tryz.ntmps202 J (fun E => ?_)
 refine Wz [19] ?_;refine zx (Qj J J (hc_Inputs) J) J ?_;refine Wz [53,138] ?_
 exact Xi J J (Xt [] (by decide) J J (Xf (Gqb (TTrack.same e_Inputs)).symm))
theorem eq_Save (x y:TSave) (hg:Enc.gd x):Con Tryz.prog 203 [] [ag x,ag y] [] (B (decide (x=y))):=by
 obtain⟨g_Tick,g_Delta⟩:=hg
 by_cases e_Tick:¬x.Tick=y.Tick
 ·have hk:decide (x.Tick≠y.Tick)=true:=by simp[e_Tick]
  refine Con.of Tryz.func203 J Tryz.ntmps203 J (fun E => ?_)
  refine Wz [19,18] ?_
  exact Xi J J (Xt [] (by decide) J J (Xf (Gqa fun e=>e_Tick (by rw[e])).symm))
 have e_Tick:=Classical.not_not.1 e_Tick
 have k_Tick:decide (x.Tick≠y.Tick)=false:=by simp[e_Tick]
 by_cases e_Delta:¬x.Delta=y.Delta
 ·have hk:decide (x.Delta≠y.Delta)=true:=by simp[e_Delta]
  refine Con.of Tryz.func203 J Tryz.ntmps203 J (fun E => ?_)
  refine Wz [19,78,228,37] ?_
  exact Xi J J (Xt [] (by decide) J J (Xf (Gqa fun e=>e_Delta (by rw[e])).symm))
 have e_Delta:=Classical.not_not.1 e_Delta
 have k_Delta:decide (x.Delta≠y.Delta)=false:=by simp[e_Delta]
 refine Con.of Tryz.func203 J Tryz.ntmps203 J (fun E => ?_)
 refine Wz [19,78,228,26,138] ?_
 exact Xi J J (Xt [] (by decide) J J (Xf (Gqb (TSave.same e_Tick e_Delta)).symm))
theorem to_Fault (x:TFault) (hg:Enc.wt x≤1048576):Con Tryz.prog 46 [] [ag x] (ownO (Enc.e x)) (.o (.ag (ownV 0 (Enc.e x)))):=by
 refine Con.of Tryz.func46 J Tryz.ntmps46 J (fun E => ?_)
 refine Wz [113,22,2,7,22,2,24,95,24,95,24,95,40,49,116,117] ?_
 exact E_cell J J J J (Xt [] (by decide) J J J)
theorem eq_Fault (x y:TFault) (hg:Enc.gd x):Con Tryz.prog 77 [] [ag x,ag y] [] (B (decide (x=y))):=by
 obtain⟨g_Tick,g_Player,g_Add⟩:=hg
 by_cases e_Tick:¬x.Tick=y.Tick
 ·have hk:decide (x.Tick≠y.Tick)=true:=by simp[e_Tick]
  refine Con.of Tryz.func77 J Tryz.ntmps77 J (fun E => ?_)
  refine Wz [19,18] ?_
  exact Xi J J (Xt [] (by decide) J J (Xf (Gqa fun e=>e_Tick (by rw[e])).symm))
 have e_Tick:=Classical.not_not.1 e_Tick
 have k_Tick:decide (x.Tick≠y.Tick)=false:=by simp[e_Tick]
 by_cases e_Player:¬x.Player=y.Player
 ·have hk:decide (x.Player≠y.Player)=true:=by simp[e_Player]
  refine Con.of Tryz.func77 J Tryz.ntmps77 J (fun E => ?_)
  refine Wz [19,78,18] ?_
  exact Xi J J (Xt [] (by decide) J J (Xf (Gqa fun e=>e_Player (by rw[e])).symm))
 have e_Player:=Classical.not_not.1 e_Player
 have k_Player:decide (x.Player≠y.Player)=false:=by simp[e_Player]
 by_cases e_Add:¬x.Add=y.Add
 ·have hk:decide (x.Add≠y.Add)=true:=by simp[e_Add]
  refine Con.of Tryz.func77 J Tryz.ntmps77 J (fun E => ?_)
  refine Wz [19,85,18] ?_
  exact Xi J J (Xt [] (by decide) J J (Xf (Gqa fun e=>e_Add (by rw[e])).symm))
 have e_Add:=Classical.not_not.1 e_Add
 have k_Add:decide (x.Add≠y.Add)=false:=by simp[e_Add]
 refine Con.of Tryz.func77 J Tryz.ntmps77 J (fun E => ?_)
 refine Wz [19,85,62,26,138] ?_
 exact Xi J J (Xt [] (by decide) J J (Xf (Gqb (TFault.same e_Tick e_Player e_Add)).symm))
theorem eq_TrackS (xs ys:List TTrack) (hn:Enc.gd xs):Con Tryz.prog 110 [] [al xs,al ys] [] (B (decide (xs=ys))):=by
 have hn1:=hn.1
 have hlx:=X6 xs
 have hly:=X6 ys
 by_cases hl:xs.length=ys.length
 ·have hb:decide (((els xs).length:Int)≠((els ys).length:Int))=false:=by rw[hlx,hly,hl]; simp
  refine Con.of Tryz.func110 J Tryz.ntmps110 J (fun E => ?_)
  refine Wz [79,62,26,39] ?_;refine Xe (fun m st=>∃ k:Nat,k+m=xs.length∧(xs.take k=ys.take k)∧st=(⟨_,[(0,L xs),(1,L ys),(5,I k)],[]⟩:St)) (xs.length) ⟨_,⟨0,by omega,by simp,J⟩,Xv [] (by kernel_rfl)⟩ ?_
  rintro m_A _ ⟨k,hk_A,hp_A,rfl⟩
  refine Wz [23,12] ?_
  refine Q8 J (fun h => ?_) (fun h => ?_)
  ·have h3:k<xs.length:=by have:=Gqc h; omega
   have h4:k<ys.length:=by omega
   have hat:=X5 h3
   have hat2:=X5 h4
   have hc:=eq_Track xs[k] ys[k] (hn.2 _ (Gqf h3))
   by_cases he:xs[k]=ys[k]
   ·rw[Gqb he] at hc
    refine Wz [45,103,54,54] ?_;refine DR.s (Qj J J (hc) J) J J ?_;refine Wz [87,57] ?_
    exact⟨xs.length-(k+1),by omega,_,⟨k+1,by omega,Yd h3 h4 hp_A he,J⟩,Xv [] (by kernel_rfl)⟩
   ·rw[Gqa he] at hc
    refine Wz [45,103,54,54] ?_;refine DR.s (Qj J J (hc) J) J J ?_;refine Wz [87,74] ?_
    exact Xi J J (Xt [] (by decide) J J (Xf (eq_ne h3 h4 he).symm))
  ·have h3:¬((k:Int)<(els xs).length):=Gqg h
   refine Wz [94] ?_
   exact Xi J J (Xt [] (by decide) J J (Xf (Yb (by omega) hl hp_A).symm))
 ·have hb:decide (((els xs).length:Int)≠((els ys).length:Int))=true:=by rw[hlx,hly]; simp; omega
  refine Con.of Tryz.func110 J Tryz.ntmps110 J (fun E => ?_)
  refine Wz [79,18] ?_
  exact Xi J J (Xt [] (by decide) J J (Xf (Yc hl).symm))
theorem eq_SaveS (xs ys:List TSave) (hn:Enc.gd xs):Con Tryz.prog 111 [] [al xs,al ys] [] (B (decide (xs=ys))):=by
 have hn1:=hn.1
 have hlx:=X6 xs
 have hly:=X6 ys
 by_cases hl:xs.length=ys.length
 ·have hb:decide (((els xs).length:Int)≠((els ys).length:Int))=false:=by rw[hlx,hly,hl]; simp
  refine Con.of Tryz.func111 J Tryz.ntmps111 J (fun E => ?_)
  refine Wz [79,62,26,39] ?_;refine Xe (fun m st=>∃ k:Nat,k+m=xs.length∧(xs.take k=ys.take k)∧st=(⟨_,[(0,L xs),(1,L ys),(5,I k)],[]⟩:St)) (xs.length) ⟨_,⟨0,by omega,by simp,J⟩,Xv [] (by kernel_rfl)⟩ ?_
  rintro m_A _ ⟨k,hk_A,hp_A,rfl⟩
  refine Wz [23,12] ?_
  refine Q8 J (fun h => ?_) (fun h => ?_)
  ·have h3:k<xs.length:=by have:=Gqc h; omega
   have h4:k<ys.length:=by omega
   have hat:=X5 h3
   have hat2:=X5 h4
   have hc:=eq_Save xs[k] ys[k] (hn.2 _ (Gqf h3))
   by_cases he:xs[k]=ys[k]
   ·rw[Gqb he] at hc
    refine Wz [45,103,54,54] ?_;refine DR.s (Qj J J (hc) J) J J ?_;refine Wz [87,57] ?_
    exact⟨xs.length-(k+1),by omega,_,⟨k+1,by omega,Yd h3 h4 hp_A he,J⟩,Xv [] (by kernel_rfl)⟩
   ·rw[Gqa he] at hc
    refine Wz [45,103,54,54] ?_;refine DR.s (Qj J J (hc) J) J J ?_;refine Wz [87,74] ?_
    exact Xi J J (Xt [] (by decide) J J (Xf (eq_ne h3 h4 he).symm))
  ·have h3:¬((k:Int)<(els xs).length):=Gqg h
   refine Wz [94] ?_
   exact Xi J J (Xt [] (by decide) J J (Xf (Yb (by omega) hl hp_A).symm))
 ·have hb:decide (((els xs).length:Int)≠((els ys).length:Int))=true:=by rw[hlx,hly]; simp; omega
  refine Con.of Tryz.func111 J Tryz.ntmps111 J (fun E => ?_)
  refine Wz [79,18] ?_
  exact Xi J J (Xt [] (by decide) J J (Xf (Yc hl).symm))
end
section
open Go.RowKit

theorem els_snoc {α:Type} [Enc α] {xs:List α} {k:Nat} (h:k<xs.length):els (xs.take (k+1))=els (xs.take k) ++ [Enc.e xs[k]]:=by
 rw[Gxm h]
 exact List.map_append
theorem I_copyInts (xs:List Int) (hL:xs.length≤1048576):Con Tryz.prog 160 [] [al xs] [.row 1 (els xs)] (.o (.c (.ref 0))):=by
 have hlx:=X6 xs
 refine Con.of Tryz.func160 J Tryz.ntmps160 J (fun E => ?_)
 refine Wz [33,4] ?_;refine M_appnil J J J J J J J J (X8 _) (els_k _) (by omega) (by omega) ?_;refine Wz [46] ?_
 exact Xi J J (Xt [0] (by decide) J J J)
theorem I_copyRows (xs:List (List Int)) (hg:Enc.gd xs) (hL:xs.length≤1048576) (hr:∀ r∈xs,r.length≤1048576):Con Tryz.prog 66 [] [al xs] [.row 1 (els xs)] (.o (.c (.ref 0))):=by
 have hlx:=X6 xs
 refine Con.of Tryz.func66 J Tryz.ntmps66 J (fun E => ?_)
 refine Wz [33,258,2,50] ?_
 refine AWP.pre ?_ (W_nil 3 1 J)
 refine Xe (fun m st=>∃ k:Nat,k+m=xs.length∧(True)∧st=(⟨_,[(3,.o (.c (.ref 0))),(6,L xs),(7,I (els xs).length),(8,I k)],[.row 1 (els (xs.take k))]⟩:St)) (xs.length) ⟨_,⟨0,by omega,trivial,J⟩,Xv [0] (by kernel_rfl)⟩ ?_
 rintro m_A _ ⟨k,hk_A,hp_A,rfl⟩
 have hl2:(els (xs.take k)).length=k:=by rw[X6]; simp; omega
 refine Wz [7,12,16] ?_
 refine Q8 J (fun h => ?_) (fun h => ?_)
 ·have h3:k<xs.length:=by have:=Gqc h; omega
  have hat:=X5 h3
  refine Wz [9,7,84,3,92] ?_;refine M1 (Y8 J J (I_copyInts xs[k] (hr _ (Gqf h3))) J J J) J J ?_;refine Wz [107,203,96,134,60,100,14,0,2] ?_
  exact⟨xs.length-(k+1),by omega,(fun k:Nat=>(⟨_,[(3,.o (.c (.ref 0))),(6,L xs),(7,I (els xs).length),(8,I k)],[.row 1 (els (xs.take k))]⟩:St)) (k+1),⟨k+1,by omega,trivial,J⟩,Xw [0] (by decide) J (Zy (els_snoc h3)) (.c J (.c J (.c J (.c J (.nil)))))⟩
 ·have h3:¬((k:Int)<(els xs).length):=Gqg h
  have hk:xs.take k=xs:=Gqk (by omega)
  refine Wz [43] ?_
  exact Xi J J (Xt [0] (by decide) J (Zy (by rw[hk])) J)
section
variable {P:Program} {ops:Array Oper} {o:Oper} {st:St} {m:Nat} {t e:TypeId} {y z:Operand} {zs:List Value} {by_:Nat}
theorem q_appz0 {ps:List Nat} {q kk:Nat} [hm:TyMake P t e zs by_] (ho:o.op = .call { callee := .builtin .append,args:=#[y,z],argTypes:=#[t,t] }) (hg:o.guard=none) (hy:st.ev y = .o (.c (.sb q 0 kk))) (hz:st.ev z = .o (.c (.rd ps (.sl kk [])))) (hkz:kk=zs.length) (hz0:zs.isEmpty=false):Qt P ops o st (.o (.c (.sb q 0 kk))) [] m :=
 .pure hg fun a w H F hr=>by
  have hzn:zs ≠ []:=by intro e; rw[e] at hz0; cases hz0
  subst hkz
  obtain⟨g,tt,vs,b1,b2,b3,b4⟩:=hr.v1 hy
  have h7:=src_any (P:=P) (t:=t) (e:=e) (by_:=by_) (kk:=zs.length) hr rfl hzn (hr.v1 hz) (es' := []) rfl (fun e he=>by simp at he) (fun e he=>by simp at he)
  obtain⟨i,hi,hzz⟩:=Option.map_eq_some_iff.1 hm.info
  simp only[Prod.mk.injEq] at hzz
  have h8:Src P i.size t (a.eval z) 0 [] w:=by rw[hzz.2.1]; simpa[flatV] using h7
  refine⟨a.eval y,Ye ho ?_,hr.v1 hy⟩
  rw[b4]
  exact run_append_room_src (P:=P) w t t o.type e i hm.slice hi g 0 0 0 (a.eval z) 0 [] h8 (Gqi _) (by simp) (by simp)
end
end
section
open Go.RowKit

def pressed (i k:Int):Bool:=decide (((i.toNat &&& k.toNat:Nat):Int)≠0)
noncomputable def steer (l:TLevel) (b:TBody) (i:Int):TBody×Bool :=
 (⟨b.Kind,b.Owner,b.X,b.Y,
  if (pressed i 1 && !pressed i 2)=true then -3 else if (pressed i 2 && !pressed i 1)=true then 3 else 0,
  if (pressed i 4&&solidM l b.X (b.Y+1) 12)=true then -9 else min (b.VY+1) 8,
  if (pressed i 1 && !pressed i 2)=true then -1 else if (pressed i 2 && !pressed i 1)=true then 1 else b.Aim,
  b.Life,
  if (pressed i 8&&decide ((if 0<b.Timer then b.Timer-1 else b.Timer)=0))=true then 12 else (if 0<b.Timer then b.Timer-1 else b.Timer)⟩,
  pressed i 8&&decide ((if 0<b.Timer then b.Timer-1 else b.Timer)=0))
def slide (hit:Int→Bool) (step:Int):Nat→Int→Int×Bool
 |0,x=>(x,false)
 |n+1,x=>if hit (x+step)=true then (x,true) else slide hit step n (x+step)
def dirOf (v:Int):Int:=if v<0 then -1 else 1
noncomputable def moveX (l:TLevel) (b:TBody):Int×Bool:=slide (fun x=>solidM l x b.Y (sizeOf b.Kind)) (dirOf b.VX) b.VX.natAbs b.X
noncomputable def moveY (l:TLevel) (b:TBody):Int×Bool:=slide (fun y=>solidM l (moveX l b).1 y (sizeOf b.Kind)) (dirOf b.VY) b.VY.natAbs b.Y
noncomputable def moveM (l:TLevel) (b:TBody):TBody×Bool :=
 (⟨b.Kind,b.Owner,(moveX l b).1,(moveY l b).1,if (moveX l b).2=true then 0 else b.VX,if (moveY l b).2=true then 0 else b.VY,b.Aim,b.Life,b.Timer⟩,(moveX l b).2 || (moveY l b).2)
def shotOf (b:TBody):TBody:=⟨1,b.Owner,b.X+4,b.Y+4,6*b.Aim,0,0,0,25⟩
def meetM (a b:TBody):Bool :=
 ((decide (a.X<b.X+sizeOf b.Kind)&&decide (b.X<a.X+sizeOf a.Kind))&&decide (a.Y<b.Y+sizeOf b.Kind))&&decide (b.Y<a.Y+sizeOf a.Kind)
structure Placed (b:TBody):Prop where
 k:0≤b.Kind∧b.Kind≤2
 x:0≤b.X∧b.X≤1000
 y:0≤b.Y∧b.Y≤1000
end
section
open Go.RowKit

section
variable {P:Program} {E:Env} {ops:Array Oper} {o:Oper} {st:St} {n:Nat} {y:Operand}
end
structure Mid (st':St) (e:Exit) (st:St):Prop where
 h:e = .normal∧Wk st st'
section
variable {P:Program} {E:Env} {st st':St}
theorem Mid.n (h:Wk st st'):Mid st' .normal st:=⟨rfl,h⟩
end
end
section
open Go.RowKit
end
section
open Go.RowKit
end
section
open Go.RowKit

theorem slide_free {hit:Int→Bool} {step:Int}:∀ (n:Nat) (x:Int),hit x=false→hit (slide hit step n x).1=false
 |0,x,h=>h
 |n+1,x,h=>by
  rw[slide]
  split
  ·exact h
  ·exact slide_free n (x+step) (by rename_i q; simpa using q)
section
variable {P:Program} {E:Env} {st st':St}
end
end
section
open Go.RowKit

def metC (bs:List TBody) (b:TBody) (o:Int) (k:Nat):Bool:=match bs[k]? with
 |none=>false
 |some p=>(decide ((k:Int)≠o)&&decide (0<p.Life))&&meetM p b
def metF (bs:List TBody) (b:TBody) (o:Int):Nat→Option Nat
 |0=>none
 |n+1=>match metF bs b o n with
  |some k=>some k
  |none=>if metC bs b o n=true then some n else none
section
variable {bs:List TBody} {b p:TBody} {o:Int} {k n:Nat}
theorem metF_lt:∀ {n:Nat},metF bs b o n=some k→k<n∧metC bs b o k=true
 |0,h=>by cases h
 | n+1,h=>by
  rw[metF] at h
  cases hm:metF bs b o n with
  |some j =>
   rw[hm] at h
   cases h
   have:=metF_lt hm
   exact⟨by omega,this.2⟩
  |none =>
   rw[hm] at h
   simp only at h
   split at h
   ·cases h; rename_i hc; exact⟨by omega,hc⟩
   ·cases h
theorem metC_life (h:metC bs b o k=true):∃ p,bs[k]? = some p∧0<p.Life∧(k:Int)≠o∧meetM p b=true:=by
 unfold metC at h
 split at h
 ·cases h
 ·rename_i p hp
  simp only[Gqj,decide_eq_true_eq] at h
  exact⟨p,hp,h.1.2,h.1.1,h.2⟩
end
theorem some_sm {α:Type} {xs:List α} {i:Nat} (h:i<xs.length):∃ x,xs[i]? = some x:=⟨xs[i],Gqe h⟩
def addM (ss:List Int) (k:Nat):List Int:=match ss[k]? with
 |none=>ss
 |some s=>ss.set k (min (s+1) 1000000)
end
section
open Go.RowKit
end
section
open Go.RowKit

def tick1 (b:TBody):TBody:=⟨b.Kind,b.Owner,b.X,b.Y,b.VX,b.VY,b.Aim,b.Life,b.Timer-1⟩
noncomputable def plOne (l:TLevel) (i:Int) (k:Nat) (bs:List TBody) (b:TBody):List TBody :=
 if b.Life=0 then bs.set k (if b.Timer-1=0 then fresh l k else tick1 b)
 else if (steer l b i).2=true∧bs.length<24 then bs.set k (steer l b i).1 ++ [shotOf (steer l b i).1] else bs.set k (steer l b i).1
noncomputable def plM (l:TLevel) (row:List Int) (bs:List TBody):Nat→List TBody
 |0=>bs
 |k+1=>match (plM l row bs k)[k]? with
  |none=>plM l row bs k
  |some b=>plOne l (row.getD k 0) k (plM l row bs k) b
structure BM (l:TLevel) (n:Nat) (b:TBody):Prop where
 k:0≤b.Kind∧b.Kind≤2
 o:0≤b.Owner∧b.Owner<n
 p:solidM l b.X b.Y (sizeOf b.Kind)=false
 vx : -15≤b.VX∧b.VX≤15
 vy : -15≤b.VY∧b.VY≤15
 f:0≤b.Life∧b.Life≤3
structure LM (l:TLevel) (n:Nat) (bs:List TBody):Prop where
 len:n≤bs.length∧bs.length≤24
 at_:∀ k b,bs[k]? = some b→BM l n b∧(b.Kind=0↔k<n)
structure PlI (l:TLevel) (n k:Nat) (b:TBody):Prop where
 kd:b.Kind=0
 ow:b.Owner=k
 am:b.Aim=1∨b.Aim = -1
 tm:0≤b.Timer∧b.Timer≤20
 dd:b.Life=0→1≤b.Timer
 bm:bodyM l (b.Owner+1) b=true
theorem body_facts {l:TLevel} {n k:Nat} {b:TBody} (h:bodyAt l n k b=true):BM l n b∧(b.Kind=0↔k<n)∧(0≤b.Timer∧b.Timer≤25)∧(k<n→PlI l n k b):=by
 unfold bodyAt at h
 rw[Gqj] at h
 obtain⟨h1,h2⟩:=h
 have h1':=h1
 simp only[bodyM,Gqj,Gxd,Yk] at h1
 obtain⟨hk,ho,hp,hvx,hvy,ht⟩:=h1
 have hbm:bodyM l (b.Owner+1) b=true:=by
  simp only[bodyM,Gqj,Gxd,Yk]
  exact⟨hk,⟨ho.1,by omega⟩,hp,hvx,hvy,ht⟩
 unfold tailM at ht
 by_cases hkn:k<n
 ·rw[if_pos hkn,decide_eq_true_eq] at h2
  rw[if_pos h2.1,Gqj,Gqj,decide_eq_true_eq,Yk] at ht
  obtain⟨⟨ha,hf⟩,htm⟩:=ht
  have htt:(0≤b.Timer∧b.Timer≤20)∧(b.Life=0→1≤b.Timer):=by
   split at htm
   ·have:=Yk.1 htm; exact⟨by omega,fun _=>this.1⟩
   ·have:=Yk.1 htm; exact⟨by omega,fun h=>absurd h (by assumption)⟩
  exact⟨⟨hk,⟨ho.1,by omega⟩,hp,hvx,hvy,hf⟩,⟨fun _=>hkn,fun _=>h2.1⟩,by omega,fun _=>⟨h2.1,h2.2,ha,htt.1,htt.2,hbm⟩⟩
 ·rw[if_neg hkn,decide_eq_true_eq] at h2
  rw[if_neg h2] at ht
  have htt:(0≤b.Life∧b.Life≤3)∧(0≤b.Timer∧b.Timer≤25):=by
   split at ht
   ·rw[Gqj,decide_eq_true_eq,Yk] at ht; omega
   ·rw[decide_eq_true_eq] at ht; omega
  exact⟨⟨hk,⟨ho.1,by omega⟩,hp,hvx,hvy,htt.1⟩,⟨fun h=>absurd h h2,fun h=>absurd h hkn⟩,htt.2,fun h=>absurd h hkn⟩
theorem LM.set {l:TLevel} {n k:Nat} {bs:List TBody} {b b':TBody} (h:LM l n bs) (hb:bs[k]? = some b) (h1:BM l n b') (h2:b'.Kind=b.Kind):LM l n (bs.set k b'):=by
 refine⟨by rw[Gq2]; exact h.len,fun j c hc => ?_⟩
 rw[List.getElem?_set] at hc
 split at hc
 ·rename_i e
  subst e
  split at hc
  ·cases hc; exact⟨h1,by rw[h2]; exact (h.at_ _ _ hb).2⟩
  ·cases hc
 ·exact h.at_ _ _ hc
theorem LM.app {l:TLevel} {n:Nat} {bs:List TBody} {c:TBody} (h:LM l n bs) (hl:bs.length<24) (h1:BM l n c) (h2:c.Kind≠0):LM l n (bs ++ [c]):=by
 have:=h.len
 refine⟨by rw[Gqu]; simp; omega,fun j d hd => ?_⟩
 rw[List.getElem?_append] at hd
 split at hd
 ·exact h.at_ _ _ hd
 ·rename_i hj
  have hj2:=Yh hd
  simp only[List.length_singleton] at hj2
  have:j=bs.length:=by omega
  subst this
  simp only[Nat.sub_self,Gxc,Option.some.injEq] at hd
  subst hd
  exact⟨h1,fun h=>absurd h h2,fun h=>by omega⟩
theorem shot_free {l:TLevel} {x y:Int} (h:solidM l x y 12=false):solidM l (x+4) (y+4) 4=false:=by
 refine solidM_F fun ⟨r,c,h1,h2,h3,h4,hw⟩ => ?_
 have:hits l x y 12:=⟨r,c,by omega,by omega,by omega,by omega,hw⟩
 rw[solidM_T this] at h
 cases h
theorem steer_aim {l:TLevel} {b:TBody} {i:Int} (h:b.Aim=1∨b.Aim = -1):(steer l b i).1.Aim=1∨(steer l b i).1.Aim = -1:=by
 simp only[steer]
 split
 ·exact .inr rfl
 ·split
  ·exact .inl rfl
  ·exact h
theorem steer_time {l:TLevel} {b:TBody} {i:Int} (h:0≤b.Timer∧b.Timer≤20):0≤(steer l b i).1.Timer∧(steer l b i).1.Timer≤20:=by
 simp only[steer]
 split
 ·omega
 ·split <;> omega
theorem BM.steer {l:TLevel} {n:Nat} {b:TBody} (h:BM l n b) (i:Int):BM l n (steer l b i).1:=by
 obtain⟨hk,ho,hp,hvx,hvy,hf⟩:=h
 refine⟨hk,ho,hp,?_,?_,hf⟩
 ·simp only[Go.Proofs.YtoecjaohdnoenaaGreat.steer]
  split
  ·omega
  ·split <;> omega
 ·simp only[Go.Proofs.YtoecjaohdnoenaaGreat.steer]
  split
  ·omega
  ·rw[Int.min_def]; split <;> omega
theorem BM.shot {l:TLevel} {n:Nat} {b:TBody} (h:BM l n b) (hk:b.Kind=0) (ha:b.Aim=1∨b.Aim = -1):BM l n (shotOf b) :=
 ⟨by simp[shotOf],h.o,by have:=h.p; rw[hk] at this; exact shot_free this,by simp only[shotOf]; omega,by simp[shotOf],by simp[shotOf]⟩
theorem BM.fresh {l:TLevel} (hl:levelOk l=true) {n k:Nat} (hk:k<n) (hn:n≤4):BM l n (fresh l k):=by
 obtain⟨h1,h2,h3⟩:=fresh_free hl (p:=(k:Int)) ⟨by omega,by omega⟩
 exact⟨by simp[Go.Proofs.YtoecjaohdnoenaaGreat.fresh],by simp only[Go.Proofs.YtoecjaohdnoenaaGreat.fresh]; omega,h1,by simp[Go.Proofs.YtoecjaohdnoenaaGreat.fresh],by simp[Go.Proofs.YtoecjaohdnoenaaGreat.fresh],by simp[Go.Proofs.YtoecjaohdnoenaaGreat.fresh]⟩
structure P1 (l:TLevel) (n:Nat) (bs0 bs:List TBody) (k:Nat):Prop where
 lm:LM l n bs
 old:∀ j,k≤j→j<n→bs[j]? = bs0[j]?
 tm:∀ b∈bs,0≤b.Timer∧b.Timer≤25
theorem P1.start {l:TLevel} {n:Nat} {bs:List TBody} (h1:n≤bs.length∧bs.length≤24) (h:bodiesOk l n bs):P1 l n bs bs 0:=by
 have hat:∀ k b,bs[k]? = some b→bodyAt l n k b=true:=fun k b hb=>by
  obtain⟨h2,rfl⟩:=Gqn.1 hb
  exact h k h2
 refine⟨⟨h1,fun k b hb => ?_⟩,fun _ _ _=>rfl,fun b hb => ?_⟩
 ·have:=body_facts (hat k b hb); exact⟨this.1,this.2.1⟩
 ·obtain⟨k,hk⟩:=List.getElem?_of_mem hb
  exact (body_facts (hat k b hk)).2.2.1
theorem old_at {l:TLevel} {n k:Nat} {bs:List TBody} {b:TBody} (h:bodiesOk l n bs) (hb:bs[k]? = some b) (hk:k<n):PlI l n k b:=by
 obtain⟨h2,rfl⟩:=Gqn.1 hb
 exact (body_facts (h k h2)).2.2.2 hk
section
variable {l:TLevel} {n k:Nat} {bs0 bs:List TBody} {b b':TBody}
theorem P1.set (h:P1 l n bs0 bs k) (hb:bs[k]? = some b) (h1:BM l n b') (h2:b'.Kind=b.Kind) (ht:0≤b'.Timer∧b'.Timer≤25):P1 l n bs0 (bs.set k b') (k+1) :=
 ⟨h.lm.set hb h1 h2,fun j hj hn=>by rw[Gq8 (by omega)]; exact h.old j (by omega) hn,fun c hc=>by
  rcases List.mem_or_eq_of_mem_set hc with h3 | h3
  ·exact h.tm c h3
  ·subst h3; exact ht⟩
theorem P1.app (h:P1 l n bs0 bs k) (hl:bs.length<24) {c:TBody} (h1:BM l n c) (h2:c.Kind≠0) (ht:0≤c.Timer∧c.Timer≤25):P1 l n bs0 (bs ++ [c]) k :=
 ⟨h.lm.app hl h1 h2,fun j hj hn=>by have:=h.lm.len; rw[Gq1 (by omega)]; exact h.old j hj hn,fun d hd=>by
  rcases Gqw.1 hd with h3 | h3
  ·exact h.tm d h3
  ·rw[List.mem_singleton] at h3; subst h3; exact ht⟩
end
theorem P1.one {l:TLevel} (hl:levelOk l=true) {n k:Nat} (hn:n≤4) {bs0 bs:List TBody} {b:TBody} (h:P1 l n bs0 bs k) (hk:k<n) (hb:bs[k]? = some b) (hI:PlI l n k b) (i:Int):P1 l n bs0 (plOne l i k bs b) (k+1):=by
 have hB:=(h.lm.at_ k b hb).1
 unfold plOne
 split
 ·split
  ·exact h.set hb (BM.fresh hl hk hn) (by rw[hI.kd]; rfl) (by simp[fresh])
  ·rename_i hf ht
   have:=hI.dd hf
   have:=hI.tm
   exact h.set hb ⟨hB.k,hB.o,hB.p,hB.vx,hB.vy,hB.f⟩ J (by simp only[tick1]; omega)
 ·have hs:=steer_time (l:=l) (i:=i) hI.tm
  have h1:=h.set hb (hB.steer i) (by rfl) ⟨hs.1,by omega⟩
  split
  ·rename_i hc
   exact h1.app (by rw[Gq2]; exact hc.2) ((hB.steer i).shot hI.kd (steer_aim hI.am)) (by simp[shotOf]) (by simp[shotOf])
  ·exact h1
theorem P1.all {l:TLevel} (hl:levelOk l=true) {n:Nat} (hn:n≤4) {bs:List TBody} (h1:n≤bs.length∧bs.length≤24) (h:bodiesOk l n bs) (row:List Int):∀ k,k≤n→P1 l n bs (plM l row bs k) k
 |0,_=>P1.start h1 h
 |k+1,hk=>by
  have hp:=P1.all hl hn h1 h row k (by omega)
  have hlk:k<(plM l row bs k).length:=by have:=hp.lm.len; omega
  obtain⟨b,hb⟩:=some_sm hlk
  have ho:=hp.old k (Gqi _) (by omega)
  rw[plM,hb]
  exact hp.one hl hn (by omega) hb (old_at h (by rw[←ho]; exact hb) (by omega)) _

/-! ### Moving -/
noncomputable def mvOne (l:TLevel) (b:TBody):Option TBody :=
 if b.Kind=0∧0<b.Life then some (moveM l b).1
 else if b.Kind=1 then if (moveM l b).2=true∨b.Timer-1=0 then none else some (tick1 (moveM l b).1)
 else some b
noncomputable def mvM (l:TLevel) (bs:List TBody):List TBody:=bs.filterMap (mvOne l)
theorem BM.move {l:TLevel} {n:Nat} {b:TBody} (h:BM l n b):BM l n (moveM l b).1:=by
 obtain⟨hk,ho,hp,hvx,hvy,hf⟩:=h
 have h1:solidM l (moveX l b).1 b.Y (sizeOf b.Kind)=false:=slide_free (hit:=fun x=>solidM l x b.Y (sizeOf b.Kind)) _ _ hp
 have h2:solidM l (moveX l b).1 (moveY l b).1 (sizeOf b.Kind)=false:=slide_free (hit:=fun y=>solidM l (moveX l b).1 y (sizeOf b.Kind)) _ _ h1
 refine⟨hk,ho,h2,?_,?_,hf⟩
 ·simp only[moveM]; split <;> omega
 ·simp only[moveM]; split <;> omega
theorem mvOne_ok {l:TLevel} {n:Nat} {b c:TBody} (h:BM l n b) (hc:mvOne l b=some c):BM l n c∧c.Kind=b.Kind:=by
 unfold mvOne at hc
 split at hc
 ·cases hc; exact⟨h.move,rfl⟩
 ·split at hc
  ·split at hc
   ·cases hc
   ·cases hc
    have:=h.move
    exact⟨⟨this.k,this.o,this.p,this.vx,this.vy,this.f⟩,J⟩
  ·cases hc; exact⟨h,rfl⟩
theorem mvOne_pl {l:TLevel} {b:TBody} (h:b.Kind=0):∃ c,mvOne l b=some c:=by
 unfold mvOne
 split
 ·exact⟨_,rfl⟩
 ·rw[if_neg (by omega)]; exact⟨_,rfl⟩
theorem fmap_len {α β:Type} {f:α→Option β}:∀ (xs:List α),(∀ x∈xs,∃ y,f x=some y)→(xs.filterMap f).length=xs.length
 | [],_=>rfl
 |x::xs,h=>by
  obtain⟨y,hy⟩:=h x (by simp)
  rw[List.filterMap_cons,hy]
  simp only[Gq7]
  rw[fmap_len xs fun z hz=>h z (by simp[hz])]
theorem LM.move {l:TLevel} {n:Nat} {bs:List TBody} (h:LM l n bs):LM l n (mvM l bs):=by
 have hlen:=h.len
 have hA:∀ a∈bs.take n,BM l n a∧a.Kind=0:=fun a ha=>by
  obtain⟨j,hj⟩:=List.getElem?_of_mem ha
  rw[Gxf] at hj
  split at hj
  ·have:=h.at_ _ _ hj; exact⟨this.1,this.2.2 (by assumption)⟩
  ·cases hj
 have hB:∀ a∈bs.drop n,BM l n a∧a.Kind≠0:=fun a ha=>by
  obtain⟨j,hj⟩:=List.getElem?_of_mem ha
  rw[List.getElem?_drop] at hj
  have:=h.at_ _ _ hj
  exact⟨this.1,fun e=>by have:=this.2.1 e; omega⟩
 have hs:mvM l bs=(bs.take n).filterMap (mvOne l)++(bs.drop n).filterMap (mvOne l):=by
  rw[mvM,←List.filterMap_append,Gxe]
 have hl1:((bs.take n).filterMap (mvOne l)).length=n:=by
  rw[fmap_len _ fun a ha=>mvOne_pl (hA a ha).2,List.length_take]; omega
 have hl2:=List.length_filterMap_le (mvOne l) (bs.drop n)
 rw[List.length_drop] at hl2
 rw[hs]
 refine⟨by rw[Gqu,hl1]; omega,fun k b hb => ?_⟩
 rw[List.getElem?_append,hl1] at hb
 split at hb
 ·obtain⟨a,ha,hab⟩:=List.mem_filterMap.1 (Gq5 hb)
  have h1:=hA a ha
  have h2:=mvOne_ok h1.1 hab
  exact⟨h2.1,fun _=>by assumption,fun _=>by rw[h2.2,h1.2]⟩
 ·obtain⟨a,ha,hab⟩:=List.mem_filterMap.1 (Gq5 hb)
  have h1:=hB a ha
  have h2:=mvOne_ok h1.1 hab
  exact⟨h2.1,fun e=>absurd (by rw[←h2.2]; exact e) h1.2,fun e=>absurd e (by assumption)⟩
end
section
open Go.RowKit

structure PH (w:TWorld) (row:List Int):Prop where
 hg:Enc.gd w.Level
 gb:∀ b∈w.Bodies,Enc.gd b
 hl:levelOk w.Level=true
 n4:1≤w.Scores.length∧w.Scores.length≤4
 len:w.Scores.length≤w.Bodies.length∧w.Bodies.length≤24
 bs:bodiesOk w.Level w.Scores.length w.Bodies
 rl:row.length=w.Scores.length
 ri:∀ i∈row,0≤i∧i≤15
end
section
open Go.RowKit
end
section
open Go.RowKit

def hitB (p:TBody):TBody:=⟨p.Kind,p.Owner,p.X,p.Y,if p.Life-1=0 then 0 else p.VX,if p.Life-1=0 then 0 else p.VY,p.Aim,p.Life-1,if p.Life-1=0 then 20 else p.Timer⟩
def shOne (n:Nat) (s:List TBody×List Int) (b:TBody):List TBody×List Int :=
 if b.Kind=1 then match metF s.1 b b.Owner n with
  |none=>s
  |some k=>match s.1[k]? with
   |none=>s
   |some p=>(s.1.set k (hitB p),if p.Life-1=0 then addM s.2 b.Owner.toNat else s.2)
 else s
def shS (n:Nat) (t:List TBody) (s:List TBody×List Int):Nat→List TBody×List Int
 |0=>s
 |j+1=>match t[j]? with
  |none=>shS n t s j
  |some b=>shOne n (shS n t s j) b
section
variable {l:TLevel} {n k j:Nat} {t bs bs0 lf:List TBody} {ss ss0:List Int} {s:List TBody×List Int} {b p:TBody}
theorem addM_len {ss:List Int} {k:Nat}:(addM ss k).length=ss.length:=by unfold addM; split <;> simp
theorem addM_rng {ss:List Int} {k:Nat} (h:∀ x∈ss,0≤x∧x≤1000000):∀ x∈addM ss k,0≤x∧x≤1000000:=by
 intro x hx
 unfold addM at hx
 split at hx
 ·exact h x hx
 ·rename_i s hs
  rcases List.mem_or_eq_of_mem_set hx with h1 | h1
  ·exact h x h1
  ·have:=h s (Gq5 hs); omega
theorem BM.hit (h:BM l n p) (hl:0<p.Life):BM l n (hitB p):=by
 obtain⟨hk,ho,hp,hvx,hvy,hf⟩:=h
 refine⟨hk,ho,hp,?_,?_,?_⟩
 ·simp only[hitB]; split <;> omega
 ·simp only[hitB]; split <;> omega
 ·simp only[hitB]; omega
structure SI (l:TLevel) (n:Nat) (bs0:List TBody) (s:List TBody×List Int):Prop where
 lm:LM l n s.1
 len:s.1.length=bs0.length
 tl:∀ k,n≤k→s.1[k]? = bs0[k]?
 sl:s.2.length=n
 sc:∀ x∈s.2,0≤x∧x≤1000000
theorem SI.one (h:SI l n bs0 s) (b:TBody):SI l n bs0 (shOne n s b):=by
 unfold shOne
 split
 ·split
  ·exact h
  ·rename_i k hk
   obtain⟨h1,h2⟩:=metF_lt hk
   obtain⟨p,hp,hlf,_,_⟩:=metC_life h2
   rw[hp]
   have hB:=h.lm.at_ k p hp
   refine⟨h.lm.set hp (hB.1.hit hlf) J,by simp[h.len],fun j hj=>by simp only; rw[Gq8 (by omega)]; exact h.tl j hj,?_,?_⟩
   ·simp only
    split
    ·rw[addM_len]; exact h.sl
    ·exact h.sl
   ·simp only
    split
    ·exact addM_rng h.sc
    ·exact h.sc
 ·exact h
theorem SI.all (h:SI l n bs0 s) (t:List TBody):∀ j,SI l n bs0 (shS n t s j)
 |0=>h
 |j+1=>by
  rw[shS]
  split
  ·exact SI.all h t j
  ·exact (SI.all h t j).one _
theorem SI.start (h:LM l n bs) (h1:ss.length=n) (h2:∀ x∈ss,0≤x∧x≤1000000):SI l n bs (bs,ss):=⟨h,rfl,fun _ _=>rfl,h1,h2⟩
end
end
end Go.Proofs.YtoecjaohdnoenaaGreat
