/-
  Rules, data and contracts of functions: part 28 of the proof.
  Conditions: those that each theorem names.
-/
import Derived.Test.YtpmacgnmlmmojaaGreatDoorDDRBRowk26
set_option linter.unusedSimpArgs false
set_option linter.unusedVariables false
set_option maxRecDepth 8000
set_option maxHeartbeats 8000000
namespace Go.Proofs.YtpmacgnmlmmojaaGreatDoor
section
open Go.RowKit

theorem openF_35 {rows:List ByteArray} {row:ByteArray} {r c:Nat} (h:byteAt row c=35):openF rows row r c=openF rows row r (c+1):=by
 cases ho:openF rows row r c with
 |some x=>rw[Z1 ho]
 |none=>rw[Z3 ho,if_pos h]
theorem tu2 {x y x' y':Int} (h1:x=x') (h2:y=y'):V.tu [.c (jn x),.c (jn y)]=V.tu [.c (jn x'),.c (jn y')]:=by rw[h1,h2]
theorem I_StartOf (l:TLevel) (p:Int) (hg:Enc.gd l) (hl:levelOk l=true) (hp:0≤p∧p≤3):Con Tryz.prog 191 [] [ag l,ai p] [] (.tu [.c (jn (spX (startT l p))),.c (jn (spY (startT l p)))]):=by
 have hc:=Xt l hg
 rw[hl] at hc
 have hlr:=Y9 l.Rows
 have hx:l.Rows.length≤9223372036854775807:=hg.1
 obtain⟨l3,l12,w,w4,w20,hw⟩:=Zt hl
 have b1:decide (p<0)=false:=Gqa (by omega)
 have b2:decide (p≥4)=false:=Gqa (by omega)
 refine Con.of Tryz.func191 J Tryz.ntmps191 J (fun E => ?_)
 refine Wz [55,34,52,5,8,132,7,18,48,3] ?_;refine zx (Qj J J (hc) J) J ?_;refine Wz [83,38,36,36,12,14,21,131,33] ?_;refine Xi (fun m st=>∃ r:Nat,r+m=l.Rows.length∧(tileF (isDig p) l.Rows r=none)∧st=(⟨_,[(1,I p),(2,.o (.c (.ptr 0 0))),(6,I (spX (tileF isOpen l.Rows r))),(7,I (spY (tileF isOpen l.Rows r))),(23,L l.Rows),(24,I (els l.Rows).length),(25,I r)],[.box ((Enc.e l).map (V1.rd []))]⟩:St)) (l.Rows.length) ⟨_,⟨0,by omega,J,J⟩,Gs [0]⟩ ?_
 rintro m_A _ ⟨r,hk_A,hp_A,rfl⟩
 refine Wz [1,100,39] ?_
 refine Xb J (fun h => ?_) (fun h => ?_)
 ·have h3:r<l.Rows.length:=by have:=Gqi h; omega
  have hat:=Y7 h3
  have hwr:=hw r h3
  have hrow:=Gqd h3
  generalize l.Rows[r]=row at hat hwr hrow
  refine Wz [77,49,34,11,63] ?_;refine Xi (fun m st=>∃ c:Nat,c+m=row.size∧(colF (isDig p) row c=none)∧st=(⟨_,[(1,I p),(2,.o (.c (.ptr 0 0))),(6,I (spX (openF l.Rows row r c))),(7,I (spY (openF l.Rows row r c))),(8,I r),(9,S row),(10,I c),(23,L l.Rows),(24,I (els l.Rows).length),(25,I r)],[.box ((Enc.e l).map (V1.rd []))]⟩:St)) (row.size) ⟨(fun c:Nat=>(⟨_,[(1,I p),(2,.o (.c (.ptr 0 0))),(6,I (spX (openF l.Rows row r c))),(7,I (spY (openF l.Rows row r c))),(8,I r),(9,S row),(10,I c),(23,L l.Rows),(24,I (els l.Rows).length),(25,I r)],[.box ((Enc.e l).map (V1.rd []))]⟩:St)) 0,⟨0,by omega,J,J⟩,Gp [0] J (.c J (.c J (.cons (Xz (by rw[openF_zero])) (.cons (Xz (by rw[openF_zero])) (.c J (.c J (.c J (.c J (.c J (.c J (.nil)))))))))))⟩ ?_
  rintro m_D _ ⟨c,hk_D,hp_D,rfl⟩
  refine Wz [50,119] ?_
  refine Xb J (fun h4 => ?_) (fun h4 => ?_)
  ·have h4:c<row.size:=by have:=Gqi h4; omega
   have hbt:=Yu row c
   have hbt2:=Yu row (c:Int).toNat
   by_cases hd:byteAt row c=49+p
   ·have hb:decide (byteAt row (c:Int).toNat=49+p)=true:=Gqb hd
    rw[start_dig hp_A hrow hp_D h4 hd]
    clear hd
    refine Wz [26,24,137,46,187,13,15,10,67,35,0,67,35,34,85,142,133,53] ?_
    exact Xp J J J (Gr [] J J (tu2 (show (c:Int)*16+2=16*(c:Int)+2 by omega) (show (r:Int)*16+2=16*(r:Int)+2 by omega)))
   have hb:decide (byteAt row (c:Int).toNat=49+p)=false:=Gqa hd
   have hnd:=colF_step hp_D (show isDig p (byteAt row c)=false from Gqa hd)
   by_cases h35:byteAt row c=35
   ·have hb3:decide (byteAt row (c:Int).toNat≠35)=false:=Gqa (fun q=>q h35)
    have hnx:spX (openF l.Rows row r c)=spX (openF l.Rows row r (c+1)):=by rw[openF_35 h35]
    have hny:spY (openF l.Rows row r c)=spY (openF l.Rows row r (c+1)):=by rw[openF_35 h35]
    clear h35
    refine Wz [26,24,137,46,187,13,86,137,81,91,7,62,43] ?_
    exact⟨row.size-(c+1),by omega,(fun c:Nat=>(⟨_,[(1,I p),(2,.o (.c (.ptr 0 0))),(6,I (spX (openF l.Rows row r c))),(7,I (spY (openF l.Rows row r c))),(8,I r),(9,S row),(10,I c),(23,L l.Rows),(24,I (els l.Rows).length),(25,I r)],[.box ((Enc.e l).map (V1.rd []))]⟩:St)) (c+1),⟨c+1,by omega,hnd,J⟩,Gp [0] J (.c J (.c J (.cons (Xz hnx) (.cons (Xz hny) (.c J (.c J (.c J (.c J (.c J (.c J (.nil)))))))))))⟩
   have hb3:decide (byteAt row (c:Int).toNat≠35)=true:=Gqb h35
   have h35':=h35
   cases ho:openF l.Rows row r c with
   |some x =>
    have hlt:decide (spX (openF l.Rows row r c)<0)=false:=Gqa (by rw[spX_neg,ho]; simp)
    have hnx:spX (some x)=spX (openF l.Rows row r (c+1)):=by rw[Z1 ho]
    have hny:spY (some x)=spY (openF l.Rows row r (c+1)):=by rw[Z1 ho]
    rw[ho] at hlt
    refine Wz [26,24,137,46,187,13,86,137,81,8,5,9,62,43] ?_
    exact⟨row.size-(c+1),by omega,(fun c:Nat=>(⟨_,[(1,I p),(2,.o (.c (.ptr 0 0))),(6,I (spX (openF l.Rows row r c))),(7,I (spY (openF l.Rows row r c))),(8,I r),(9,S row),(10,I c),(23,L l.Rows),(24,I (els l.Rows).length),(25,I r)],[.box ((Enc.e l).map (V1.rd []))]⟩:St)) (c+1),⟨c+1,by omega,hnd,J⟩,Gp [0] J (.c J (.c J (.cons (Xz hnx) (.cons (Xz hny) (.c J (.c J (.c J (.c J (.c J (.c J (.nil)))))))))))⟩
   |none =>
    have hlt:decide (spX none<0)=true:=rfl
    have hnx:(c:Int)*16+2=spX (openF l.Rows row r (c+1)):=by rw[Z3 ho,if_neg h35']; show (c:Int)*16+2=16*(c:Int)+2; omega
    have hny:(r:Int)*16+2=spY (openF l.Rows row r (c+1)):=by rw[Z3 ho,if_neg h35']; show (r:Int)*16+2=16*(r:Int)+2; omega
    refine Wz [26,24,137,46,187,13,86,137,81,8,5,9,15,10,67,136,22,67,35,105] ?_
    exact⟨row.size-(c+1),by omega,(fun c:Nat=>(⟨_,[(1,I p),(2,.o (.c (.ptr 0 0))),(6,I (spX (openF l.Rows row r c))),(7,I (spY (openF l.Rows row r c))),(8,I r),(9,S row),(10,I c),(23,L l.Rows),(24,I (els l.Rows).length),(25,I r)],[.box ((Enc.e l).map (V1.rd []))]⟩:St)) (c+1),⟨c+1,by omega,hnd,J⟩,Gp [0] J (.c J (.c J (.cons (Xz hnx) (.cons (Xz hny) (.c J (.c J (.c J (.c J (.c J (.c J (.nil)))))))))))⟩
  ·have h4:c=row.size:=by have:=Gqj h4; omega
   subst h4
   refine Wz [162,163,204,64] ?_
   exact⟨l.Rows.length-(r+1),by omega,(fun r:Nat=>(⟨_,[(1,I p),(2,.o (.c (.ptr 0 0))),(6,I (spX (tileF isOpen l.Rows r))),(7,I (spY (tileF isOpen l.Rows r))),(23,L l.Rows),(24,I (els l.Rows).length),(25,I r)],[.box ((Enc.e l).map (V1.rd []))]⟩:St)) (r+1),⟨r+1,by omega,tileF_step hp_A hrow hp_D,J⟩,Gp [0] J (.c J (.c J (.cons (Xz (by rw[←openF_end hrow])) (.cons (Xz (by rw[←openF_end hrow])) (.c J (.c J (.c J (.nil))))))))⟩
 ·have h3:r=l.Rows.length:=by have:=Gqj h; omega
  rw[start_open hp_A h3]
  refine Wz [40,37,34,19] ?_
  exact Xp J J J (Gr [] J J J)
theorem S_StartOf (l:TLevel) (p:Int) (hg:Enc.gd l) (hl:levelOk l=true) (hp:0≤p∧p≤3):Con Tryz.prog 188 [] [ag l,ai p] [] (.tu [.c (jn (spX (startT l p))),.c (jn (spY (startT l p)))]):=by
 have hc:=S_LevelOk l hg
 rw[hl] at hc
 have hlr:=Y9 l.Rows
 have hx:l.Rows.length≤9223372036854775807:=hg.1
 obtain⟨l3,l12,w,w4,w20,hw⟩:=Zt hl
 have hci:=S_in p 0 3
 rw[Zn.2 hp] at hci
 refine Con.of Tryz.func188 J Tryz.ntmps188 J (fun E => ?_)
 refine Wz [55,34,11,36,36,102] ?_;refine zx (Qj J J (hc) J) J ?_;refine Wz [16,8] ?_;refine zx (Qj J J (hci) J) J ?_;refine Wz [83,97,72,63] ?_;refine Xi (fun m st=>∃ r:Nat,r+m=l.Rows.length∧(tileF (isDig p) l.Rows r=none)∧st=(⟨_,[(1,I p),(2,.o (.c (.ptr 0 0))),(6,I (spX (tileF isOpen l.Rows r))),(7,I (spY (tileF isOpen l.Rows r))),(8,I r)],[.box ((Enc.e l).map (V1.rd []))]⟩:St)) (l.Rows.length) ⟨_,⟨0,by omega,J,J⟩,Gs [0]⟩ ?_
 rintro m_A _ ⟨r,hk_A,hp_A,rfl⟩
 refine Wz [25,30,21,119] ?_
 refine Xb J (fun h => ?_) (fun h => ?_)
 ·have h3:r<l.Rows.length:=by have:=Gqi h; omega
  have hat:=Y7 h3
  have hwr:=hw r h3
  have hrow:=Gqd h3
  generalize l.Rows[r]=row at hat hwr hrow
  refine Wz [26,63] ?_;refine Xi (fun m st=>∃ c:Nat,c+m=row.size∧(colF (isDig p) row c=none)∧st=(⟨_,[(1,I p),(2,.o (.c (.ptr 0 0))),(6,I (spX (openF l.Rows row r c))),(7,I (spY (openF l.Rows row r c))),(8,I r),(9,I c)],[.box ((Enc.e l).map (V1.rd []))]⟩:St)) (row.size) ⟨(fun c:Nat=>(⟨_,[(1,I p),(2,.o (.c (.ptr 0 0))),(6,I (spX (openF l.Rows row r c))),(7,I (spY (openF l.Rows row r c))),(8,I r),(9,I c)],[.box ((Enc.e l).map (V1.rd []))]⟩:St)) 0,⟨0,by omega,J,J⟩,Gp [0] J (.c J (.c J (.cons (Xz (by rw[openF_zero])) (.cons (Xz (by rw[openF_zero])) (.c J (.c J (.nil)))))))⟩ ?_
  rintro m_D _ ⟨c,hk_D,hp_D,rfl⟩
  refine Wz [25,30,0,49,143,119] ?_
  refine Xb J (fun h4 => ?_) (fun h4 => ?_)
  ·have h4:c<row.size:=by have:=Gqi h4; omega
   have hbt:=Yu row c
   have hbt2:=Yu row (c:Int).toNat
   by_cases hd:byteAt row c=49+p
   ·have hb:decide (byteAt row (c:Int).toNat-49=p)=true:=Gqb (by show byteAt row c-49=p; omega)
    have hb3:decide (byteAt row (c:Int).toNat≠35)=true:=Gqb (by show byteAt row c≠35; omega)
    rw[start_dig hp_A hrow hp_D h4 hd]
    clear hd
    cases ho:openF l.Rows row r c with
    |some x =>
     have hlt:decide (spX (openF l.Rows row r c)<0)=false:=Gqa (by rw[spX_neg,ho]; simp)
     rw[ho] at hlt
     refine Wz [26,14,0,49,0,137,52,81,8,5,9,8,166,3,87,18,13,7,15,10,67,136,22,67,136,10,166,71,0,13,15,37,34,88,142,133,53] ?_
     exact Xp J J J (Gr [] J J J)
    |none =>
     have hlt:decide (spX none<0)=true:=rfl
     refine Wz [26,14,0,49,0,137,52,81,8,5,9,20,56,15,10,67,136,22,67,136,10,166,71,0,13,15,37,34,88,142,133,53] ?_
     exact Xp J J J (Gr [] J J J)
   have hb:decide (byteAt row (c:Int).toNat-49=p)=false:=Gqa (by show ¬byteAt row c-49=p; omega)
   have hnd:=colF_step hp_D (show isDig p (byteAt row c)=false from Gqa hd)
   by_cases h35:byteAt row c=35
   ·have hb3:decide (byteAt row (c:Int).toNat≠35)=false:=Gqa (fun q=>q h35)
    have hnx:spX (openF l.Rows row r c)=spX (openF l.Rows row r (c+1)):=by rw[openF_35 h35]
    have hny:spY (openF l.Rows row r c)=spY (openF l.Rows row r (c+1)):=by rw[openF_35 h35]
    clear h35
    refine Wz [26,14,0,49,0,137,52,81,91,7,8,166,3,87,18,13,7,76,166,71,0,13,62,43] ?_
    exact⟨row.size-(c+1),by omega,(fun c:Nat=>(⟨_,[(1,I p),(2,.o (.c (.ptr 0 0))),(6,I (spX (openF l.Rows row r c))),(7,I (spY (openF l.Rows row r c))),(8,I r),(9,I c)],[.box ((Enc.e l).map (V1.rd []))]⟩:St)) (c+1),⟨c+1,by omega,hnd,J⟩,Gp [0] J (.c J (.c J (.cons (Xz hnx) (.cons (Xz hny) (.c J (.c J (.nil)))))))⟩
   have hb3:decide (byteAt row (c:Int).toNat≠35)=true:=Gqb h35
   have h35':=h35
   cases ho:openF l.Rows row r c with
   |some x =>
    have hlt:decide (spX (openF l.Rows row r c)<0)=false:=Gqa (by rw[spX_neg,ho]; simp)
    have hnx:spX (some x)=spX (openF l.Rows row r (c+1)):=by rw[Z1 ho]
    have hny:spY (some x)=spY (openF l.Rows row r (c+1)):=by rw[Z1 ho]
    rw[ho] at hlt
    refine Wz [26,14,0,49,0,137,52,81,8,5,9,8,166,3,87,18,13,7,76,166,71,0,13,62,43] ?_
    exact⟨row.size-(c+1),by omega,(fun c:Nat=>(⟨_,[(1,I p),(2,.o (.c (.ptr 0 0))),(6,I (spX (openF l.Rows row r c))),(7,I (spY (openF l.Rows row r c))),(8,I r),(9,I c)],[.box ((Enc.e l).map (V1.rd []))]⟩:St)) (c+1),⟨c+1,by omega,hnd,J⟩,Gp [0] J (.c J (.c J (.cons (Xz hnx) (.cons (Xz hny) (.c J (.c J (.nil)))))))⟩
   |none =>
    have hlt:decide (spX none<0)=true:=rfl
    have hnx:16*(c:Int)+2=spX (openF l.Rows row r (c+1)):=by rw[Z3 ho,if_neg h35']; rfl
    have hny:16*(r:Int)+2=spY (openF l.Rows row r (c+1)):=by rw[Z3 ho,if_neg h35']; rfl
    refine Wz [26,14,0,49,0,137,52,81,8,5,9,20,56,15,10,67,136,22,67,136,10,166,71,0,13,62,43] ?_
    exact⟨row.size-(c+1),by omega,(fun c:Nat=>(⟨_,[(1,I p),(2,.o (.c (.ptr 0 0))),(6,I (spX (openF l.Rows row r c))),(7,I (spY (openF l.Rows row r c))),(8,I r),(9,I c)],[.box ((Enc.e l).map (V1.rd []))]⟩:St)) (c+1),⟨c+1,by omega,hnd,J⟩,Gp [0] J (.c J (.c J (.cons (Xz hnx) (.cons (Xz hny) (.c J (.c J (.nil)))))))⟩
  ·have h4:c=row.size:=by have:=Gqj h4; omega
   subst h4
   refine Wz [162,163,204,43] ?_
   exact⟨l.Rows.length-(r+1),by omega,(fun r:Nat=>(⟨_,[(1,I p),(2,.o (.c (.ptr 0 0))),(6,I (spX (tileF isOpen l.Rows r))),(7,I (spY (tileF isOpen l.Rows r))),(8,I r)],[.box ((Enc.e l).map (V1.rd []))]⟩:St)) (r+1),⟨r+1,by omega,tileF_step hp_A hrow hp_D,J⟩,Gp [0] J (.c J (.c J (.cons (Xz (by rw[←openF_end hrow])) (.cons (Xz (by rw[←openF_end hrow])) (.c J (.nil))))))⟩
 ·have h3:r=l.Rows.length:=by have:=Gqj h; omega
  rw[start_open hp_A h3]
  refine Wz [40,37,34,19] ?_
  exact Xp J J J (Gr [] J J J)
end
section
open Go.RowKit

theorem I_fresh (l:TLevel) (p:Int) (hg:Enc.gd l) (hl:levelOk l=true) (hp:0≤p∧p≤3):Con Tryz.prog 118 [] [ag l,ai p] [] (.o (.ag ((Enc.e (fresh l p)).map (V1.rd [])))):=by
 have hc:=I_StartOf l p hg hl hp
 refine Con.of Tryz.func118 J Tryz.ntmps118 J (fun E => ?_)
 refine Wz [51,2,6,0] ?_;refine V6 (Kh J J (hc) J J J) J ?_;refine Wz [118,96,0,151,126,145] ?_
 exact Xl J J J J (Gr [] J J J)
theorem S_fresh (l:TLevel) (p:Int) (hg:Enc.gd l) (hl:levelOk l=true) (hp:0≤p∧p≤3):Con Tryz.prog 114 [] [ag l,ai p] [] (.o (.ag ((Enc.e (fresh l p)).map (V1.rd [])))):=by
 have hc:=S_StartOf l p hg hl hp
 refine Con.of Tryz.func114 J Tryz.ntmps114 J (fun E => ?_)
 refine Wz [51,2,6,0] ?_;refine V6 (Kh J J (hc) J J J) J ?_;refine Wz [118,96,0,151,126,145] ?_
 exact Xl J J J J (Gr [] J J J)
theorem row6w {a b c d e:Ob} {k:Nat} {x y:List (List T)} (h:x=y) : [a,b,c,d,e,Ob.row k x] = [a,b,c,d,e,Ob.row k y]:=by rw[h]
def freshs (l:TLevel) (k:Nat):List TBody:=(List.range k).map fun (k:Nat)=>fresh l (k:Int)
theorem freshs_succ (l:TLevel) (k:Nat):freshs l (k+1)=freshs l k ++ [fresh l k]:=by simp[freshs,List.range_succ]
theorem freshs_len (l:TLevel) (k:Nat):(freshs l k).length=k:=by simp[freshs]
theorem zeros_els (n:Nat):els (List.replicate n (0:Int))=List.replicate n [.v (.int .i64 0)]:=by simp[els,Enc.e]
theorem Zy {l:TLevel} {n:Nat} {seed:Int} (hg:Enc.gd l) (hl:levelOk l=true) (hn:1≤n∧n≤4) (hs:inR seed 0 65535=true):Enc.gd (newWorld l n seed):=by
 have h0:I64 0:=⟨by decide,by decide⟩
 have hsd:=Zn.1 hs
 refine⟨hg,h0,⟨by show (-9223372036854775808:Int)≤seed; omega,by show seed≤9223372036854775807; omega⟩,⟨by simp[newWorld]; omega,fun x hx => ?_⟩,⟨by simp[newWorld]; omega,fun b hb => ?_⟩⟩
 ·have:x=0:=by simpa[newWorld] using Gx5 hx
  rw[this]; exact h0
 ·simp only[newWorld,Gqr,List.mem_range] at hb
  obtain⟨k,hk,rfl⟩:=hb
  obtain⟨_,h3,h4⟩:=fresh_free hl (p:=(k:Int)) (by omega)
  exact⟨h0,⟨by show (-9223372036854775808:Int)≤(k:Int); omega,by show (k:Int)≤9223372036854775807; omega⟩,⟨by omega,by omega⟩,⟨by omega,by omega⟩,h0,h0,⟨by simp only[fresh]; omega,by simp only[fresh]; omega⟩,⟨by simp only[fresh]; omega,by simp only[fresh]; omega⟩,h0⟩
theorem I_NewWorld (l:TLevel) (n:Nat) (seed:Int) (hg:Enc.gd l) (hL:l.Rows.length≤1048576) (hl:levelOk l=true) (hn:1≤n∧n≤4) (hs:inR seed 0 65535=true):Con Tryz.prog 39 [] [ag l,ai n,ai seed] (ownO (Enc.e (newWorld l n seed))) (.tu [.ag (ownV 0 (Enc.e (newWorld l n seed))),.c (bv true)]):=by
 have c1:=Xt l hg
 have c2:=Xx n 1 4
 have c3:=Xx seed 0 65535
 rw[hl] at c1
 rw[Zn.2 (by omega)] at c2
 rw[hs] at c3
 have hwk:=I_WorldOk (newWorld l n seed) (Zy hg hl hn hs)
 rw[newWorld_ok hl hn hs] at hwk
 have hcl:=Xy l hg hL
 refine Con.of Tryz.func39 J Tryz.ntmps39 J (fun E => ?_)
 refine Wz [51,23,6] ?_;refine zx (Qj J J (c1) J) J ?_;refine Wz [16,8] ?_;refine zx (Qj J J (c2) J) J ?_;refine Wz [83,8] ?_;refine zx (Qj J J (c3) J) J ?_;refine Wz [83,97,72] ?_
 refine AWP.pre (st':=(⟨_,[(1,I n),(2,I seed),(3,.o (.c (.ptr 0 0))),(6,.o (.c (.ptr 1 0)))],[.box ((Enc.e l).map (V1.rd [])),.box [nilV,jn 0,jn 0,nilV,nilV]]⟩:St)) ?_ (Gs [0,1])
 skip
 refine Xh [[],[0],[],[],[3],(u9 5),[],(u9 7)] [[],[24],[],[],[27],[24,25,26,27,28],[],[8,24,25,26,27,28,29]] [[8,26,27,28],[8,26,27,28],[8,24,25,27,28],[8,24,25,26],[8,24,25,26],[8],[24,25,26,27,28,29],[]] J (Vx (Qu J J J J J J) J ?_);refine Vx (Kh J J (hcl) J J J) J ?_;refine Wz [29] ?_;refine Vx (q_make 0 J J J J (by omega) (by omega) (by omega) J (by decide)) J ?_;refine Wz [260,184,17] ?_
 refine AL.weak (st':=(⟨_,[(1,I n),(3,.o (.c (.ptr 0 0))),(6,.o (.c (.ptr 1 0))),(8,.o (.c (.ptr 4 0))),(29,.o (.ag [.ref 2,jn 0,jn seed,.ref 3,nilV]))],[.box ((Enc.e l).map (V1.rd [])),.box [nilV,jn 0,jn 0,nilV,nilV],.row 1 (els l.Rows),.row 1 (els (List.replicate n (0:Int))),.box [nilV,jn 0,jn 0,nilV,nilV]]⟩:St)) (by rw[zeros_els]; exact Gs [0,1,2,3,4]) ?_
 refine Wz [138,12,63] ?_
 refine AWP.pre (st':=(⟨_,[(1,I n),(3,.o (.c (.ptr 0 0))),(6,.o (.c (.ptr 1 0))),(8,.o (.c (.ptr 4 0))),(9,I 0)],[.box ((Enc.e l).map (V1.rd [])),.box [nilV,jn 0,jn 0,nilV,nilV],.row 1 (els l.Rows),.row 1 (els (List.replicate n (0:Int))),.box [.ref 2,jn 0,jn seed,.ref 3,nilV]]⟩:St)) ?_ (Gs [0,1,2,3,4])
 refine AWP.pre ?_ (Wk.nilbox (p:=4) (i:=4) 9 J J)
 refine Xi (fun m st=>∃ k:Nat,k+m=n∧(True)∧st=(⟨_,[(1,I n),(3,.o (.c (.ptr 0 0))),(6,.o (.c (.ptr 1 0))),(8,.o (.c (.ptr 4 0))),(9,I k)],[.box ((Enc.e l).map (V1.rd [])),.box [nilV,jn 0,jn 0,nilV,nilV],.row 1 (els l.Rows),.row 1 (els (List.replicate n (0:Int))),.box [.ref 2,jn 0,jn seed,.ref 3,.ref 5],.row 9 (els (freshs l k))]⟩:St)) (n) ⟨_,⟨0,by omega,trivial,J⟩,Gs [0,1,2,3,4,5]⟩ ?_
 rintro m_A _ ⟨k,hk_A,hp_A,rfl⟩
 have hlk:=Y9 (freshs l k)
 have hlk2:=freshs_len l k
 refine Wz [24,119] ?_
 refine Xb J (fun h => ?_) (fun h => ?_)
 ·have h3:k<n:=by have:=Gqi h; omega
  have hf:=I_fresh l k hg hl (by omega)
  refine Wz [26] ?_;refine Xh u8_13 [[],[35],[],[],[37,38],[37,38,39],[35,36,37,38,39,40],[35,36,37,38,39,40,41],[35,36,37,38,39,40,41,42]] [[37,38,39,40],[37,38,39,40],[35,36,38],[35,36,37],[35,36],[35,36],[],[],[]] J ?_;refine Wz [66,99,4] ?_;refine Vx (Kh J J (hf) J J J) J ?_;refine Wz [181,17] ?_;refine AL.weak (st':=(⟨_,[(1,I n),(3,.o (.c (.ptr 0 0))),(6,.o (.c (.ptr 1 0))),(8,.o (.c (.ptr 4 0))),(9,I k),(36,.o (.c (.ref 5))),(40,.o (.c (.sb 6 1 9)))],[.box ((Enc.e l).map (V1.rd [])),.box [nilV,jn 0,jn 0,nilV,nilV],.row 1 (els l.Rows),.row 1 (els (List.replicate n (0:Int))),.box [.ref 2,jn 0,jn seed,.ref 3,.ref 5],.row 9 (els (freshs l k)),.box [jn 0,jn (k:Int),jn (spX (startT l k)),jn (spY (startT l k)),jn 0,jn 0,jn 1,jn 3,jn 0]]⟩:St)) (Gs [0,1,2,3,4,5,6]) ?_;refine Wz [108,103,74,43] ?_
  exact⟨n-(k+1),by omega,(fun k:Nat=>(⟨_,[(1,I n),(3,.o (.c (.ptr 0 0))),(6,.o (.c (.ptr 1 0))),(8,.o (.c (.ptr 4 0))),(9,I k)],[.box ((Enc.e l).map (V1.rd [])),.box [nilV,jn 0,jn 0,nilV,nilV],.row 1 (els l.Rows),.row 1 (els (List.replicate n (0:Int))),.box [.ref 2,jn 0,jn seed,.ref 3,.ref 5],.row 9 (els (freshs l k))]⟩:St)) (k+1),⟨k+1,by omega,trivial,J⟩,Yg [0,1,2,3,4,5] (by decide) J (row6w (by rw[freshs_succ]; simp[els]; rfl)) (.c J (.c J (.c J (.c J (.c J (.nil))))))⟩
 have h3:k=n:=by have:=Gqj h; omega
 subst h3
 refine Wz [40,102] ?_;refine zx (Qj J J (hwk) J) J ?_;refine Wz [16,38,6,115] ?_
 exact G4 J J (Gr [2,3,5] J J J)
theorem reps_succ (k:Nat):els (List.replicate k (0:Int)) ++ [[.v (.int .i64 0)]]=els (List.replicate (k+1) (0:Int)):=by rw[List.replicate_succ']; simp[els,Enc.e]
theorem row65 {a b c d e:Ob} {k:Nat} {x y:List (List T)} (h:x=y) : [a,b,c,d,Ob.row k x,e] = [a,b,c,d,Ob.row k y,e]:=by rw[h]
theorem S_NewWorld (l:TLevel) (n:Nat) (seed:Int) (hg:Enc.gd l) (hL:l.Rows.length≤1048576) (hl:levelOk l=true) (hn:1≤n∧n≤4) (hs:inR seed 0 65535=true):Con Tryz.prog 37 [] [ag l,ai n,ai seed] (ownO (Enc.e (newWorld l n seed))) (.tu [.ag (ownV 0 (Enc.e (newWorld l n seed))),.c (bv true)]):=by
 have hwk:=S_WorldOk (newWorld l n seed) (Zy hg hl hn hs)
 rw[newWorld_ok hl hn hs] at hwk
 have hcl:=Yb l hg hL
 refine Con.of Tryz.func37 J Tryz.ntmps37 J (fun E => ?_)
 refine Wz [51,11,6] ?_;refine V6 (Kh J J (hcl) J J J) J ?_;refine Wz [0,151,75,12,63] ?_
 refine AWP.pre (st':=(⟨_,[(1,I n),(3,.o (.c (.ptr 0 0))),(6,.o (.c (.ptr 1 0))),(8,.o (.c (.ptr 3 0))),(9,I 0)],[.box ((Enc.e l).map (V1.rd [])),.box [nilV,jn 0,jn 0,nilV,nilV],.row 1 (els l.Rows),.box [.ref 2,jn 0,jn seed,nilV,nilV]]⟩:St)) ?_ (Gs [0,1,2,3])
 refine AWP.pre ?_ (Wk.nilbox (p:=3) (i:=3) 1 J J)
 refine AWP.pre ?_ (Wk.nilbox (p:=3) (i:=4) 9 J J)
 refine Xi (fun m st=>∃ k:Nat,k+m=n∧(True)∧st=(⟨_,[(1,I n),(3,.o (.c (.ptr 0 0))),(6,.o (.c (.ptr 1 0))),(8,.o (.c (.ptr 3 0))),(9,I k)],[.box ((Enc.e l).map (V1.rd [])),.box [nilV,jn 0,jn 0,nilV,nilV],.row 1 (els l.Rows),.box [.ref 2,jn 0,jn seed,.ref 4,.ref 5],.row 1 (els (List.replicate k (0:Int))),.row 9 (els (freshs l k))]⟩:St)) (n) ⟨_,⟨0,by omega,trivial,J⟩,Gs [0,1,2,3,4,5]⟩ ?_
 rintro m_A _ ⟨k,hk_A,hp_A,rfl⟩
 have hlk:=Y9 (freshs l k)
 have hlk2:=freshs_len l k
 have hl0:(els (List.replicate k (0:Int))).length=k:=by rw[Y9,Gxs]
 have f2:decide ((k:Int)≤4)=true:=Gqb (by omega)
 by_cases h3:k<n
 ·have f1:decide ((k:Int)<n)=true:=Gqb (by omega)
  have hf:=S_fresh l k hg hl (by omega)
  refine Wz [24,5,8,195,9,15,26,14,45,148,60] ?_
  refine AWP.pre (st':=(⟨_,[(1,I n),(3,.o (.c (.ptr 0 0))),(6,.o (.c (.ptr 1 0))),(8,.o (.c (.ptr 3 0))),(9,I k)],[.box ((Enc.e l).map (V1.rd [])),.box [nilV,jn 0,jn 0,nilV,nilV],.row 1 (els l.Rows),.box [.ref 2,jn 0,jn seed,.ref 4,.ref 5],.row 1 (els (List.replicate (k+1) (0:Int))),.row 9 (els (freshs l k))]⟩:St)) ?_ (Yg [0,1,2,3,4,5] (by decide) J ((row65 (reps_succ k).symm)) (.c J (.c J (.c J (.c J (.c J (.nil)))))))
  refine Xh u8_13 [[],[28],[],[],[30,31],[30,31,32],[28,29,30,31,32,33],[28,29,30,31,32,33,34],[28,29,30,31,32,33,34,35]] [[30,31,32,33],[30,31,32,33],[28,29,31],[28,29,30],[28,29],[28,29],[],[],[]] J ?_;refine Wz [66,99,4] ?_;refine Vx (Kh J J (hf) J J J) J ?_;refine Wz [181,17] ?_;refine AL.weak (st':=(⟨_,[(1,I n),(3,.o (.c (.ptr 0 0))),(6,.o (.c (.ptr 1 0))),(8,.o (.c (.ptr 3 0))),(9,I k),(29,.o (.c (.ref 5))),(33,.o (.c (.sb 6 1 9)))],[.box ((Enc.e l).map (V1.rd [])),.box [nilV,jn 0,jn 0,nilV,nilV],.row 1 (els l.Rows),.box [.ref 2,jn 0,jn seed,.ref 4,.ref 5],.row 1 (els (List.replicate (k+1) (0:Int))),.row 9 (els (freshs l k)),.box [jn 0,jn (k:Int),jn (spX (startT l k)),jn (spY (startT l k)),jn 0,jn 0,jn 1,jn 3,jn 0]]⟩:St)) (Gs [0,1,2,3,4,5,6]) ?_;refine Wz [108,103,74,43] ?_
  exact⟨n-(k+1),by omega,(fun k:Nat=>(⟨_,[(1,I n),(3,.o (.c (.ptr 0 0))),(6,.o (.c (.ptr 1 0))),(8,.o (.c (.ptr 3 0))),(9,I k)],[.box ((Enc.e l).map (V1.rd [])),.box [nilV,jn 0,jn 0,nilV,nilV],.row 1 (els l.Rows),.box [.ref 2,jn 0,jn seed,.ref 4,.ref 5],.row 1 (els (List.replicate k (0:Int))),.row 9 (els (freshs l k))]⟩:St)) (k+1),⟨k+1,by omega,trivial,J⟩,Yg [0,1,2,3,4,5] (by decide) J (row6w (by rw[freshs_succ]; simp[els]; rfl)) (.c J (.c J (.c J (.c J (.c J (.nil))))))⟩
 have f1:decide ((k:Int)<n)=false:=Gqa (by omega)
 have h3:k=n:=by omega
 subst h3
 refine Wz [24,5,91,7,61,102] ?_;refine zx (Qj J J (hwk) J) J ?_;refine Wz [16,38,6,115] ?_
 exact G4 J J (Gr [2,4,5] J J J)
end
section
open Go.RowKit

theorem I_NextRandom (s:Int) (h:0≤s∧s≤65535):Con Tryz.prog 201 [] [ai s] [] (I (nextR s)):=by
 have f1:decide (s<0)=false:=Gqa (by omega)
 have f2:decide (65535<s)=false:=Gqa (by omega)
 refine Con.of Tryz.func201 J Tryz.ntmps201 J (fun E => ?_)
 refine Wz [94,5,8,113,76,67,35,111,19] ?_
 exact Gq J (Gr [] J J (Xz (by rw[nextR,if_pos h])))
theorem and_64k (n:Int) (h:0≤n):((n.toNat &&& (65535:Int).toNat:Nat):Int)=n%65536:=by
 have:=Gzg n.toNat 16
 rw[show (65535:Int).toNat=2 ^ 16-1 from rfl,this]
 omega
theorem S_NextRandom (s:Int) (h:0≤s∧s≤65535):Con Tryz.prog 261 [] [ai s] [] (I (nextR s)):=by
 have hc:=S_in s 0 65535
 rw[Zn.2 h] at hc
 refine Con.of Tryz.func261 J Tryz.ntmps261 J (fun E => ?_)
 refine Wz [94] ?_;refine zx (Qj J J (hc) J) J ?_;refine Wz [16,76,67,35,193,19] ?_
 exact Gq J (Gr [] J J (Xz (by rw[nextR,if_pos h,and_64k _ (by omega)])))
theorem I_RandomBelow (s n:Int) (h:0≤s∧s≤65535) (hn:1≤n∧n≤4096):Con Tryz.prog 203 [] [ai s,ai n] [] (.tu [.c (jn (nextR s)),.c (jn (belowR s n))]):=by
 have f1:decide (s<0)=false:=Gqa (by omega)
 have f2:decide (65535<s)=false:=Gqa (by omega)
 have f3:decide (n<1)=false:=Gqa (by omega)
 have f4:decide (4096<n)=false:=Gqa (by omega)
 have hc:=I_NextRandom s h
 have hr:=Zz s
 refine Con.of Tryz.func203 J Tryz.ntmps203 J (fun E => ?_)
 refine Wz [1,34,52,5,8,113,8,5,7,8,113,76] ?_;refine zx (Qj J J (hc) J) J ?_;refine Wz [23] ?_;refine Xh u8_14 [[],[],[24],[],[24,25,26],[23],[4,23,24,25,26,27]] [[24,25,26,27],[4,23,26],[4,23,26],[4,23,24,25],[4,23],[24,25,26,27],[]] J ?_;refine Wz [29,224,4,271,150,150,17,2,205,145] ?_
 exact Xp J J J (Gr [] J J J)
theorem S_RandomBelow (s n:Int) (h:0≤s∧s≤65535) (hn:1≤n∧n≤4096):Con Tryz.prog 263 [] [ai s,ai n] [] (.tu [.c (jn (nextR s)),.c (jn (belowR s n))]):=by
 have c1:=S_in s 0 65535
 have c2:=S_in n 1 4096
 rw[Zn.2 h] at c1
 rw[Zn.2 hn] at c2
 have hc:=S_NextRandom s h
 have hr:=Zz s
 refine Con.of Tryz.func263 J Tryz.ntmps263 J (fun E => ?_)
 refine Wz [1,34,52] ?_;refine zx (Qj J J (c1) J) J ?_;refine Wz [16,8] ?_;refine zx (Qj J J (c2) J) J ?_;refine Wz [83,76] ?_;refine zx (Qj J J (hc) J) J ?_;refine Wz [23] ?_;refine Xh u8_14 [[],[],[18],[],[18,19,20],[17],[4,17,18,19,20,21]] [[18,19,20,21],[4,17,20],[4,17,20],[4,17,18,19],[4,17],[18,19,20,21],[]] J ?_;refine Wz [29,224,4,271,150,150,17,2,205,145] ?_
 exact Xp J J J (Gr [] J J J)
theorem I_ShotOf (b:TBody) (hx:0≤b.X∧b.X≤1000) (hy:0≤b.Y∧b.Y≤1000) (ha : -1≤b.Aim∧b.Aim≤1):Con Tryz.prog 225 [] [ag b] [] (.o (.ag ((Enc.e (shotOf b)).map (V1.rd [])))):=by
 have c1:=Xx b.X 0 1000
 have c2:=Xx b.Y 0 1000
 have c3:=Xx b.Aim (-1) 1
 rw[Zn.2 hx] at c1
 rw[Zn.2 hy] at c2
 rw[Zn.2 ha] at c3
 refine Con.of Tryz.func225 J Tryz.ntmps225 J (fun E => ?_)
 refine Wz [51,39,14] ?_;refine zx (Qj J J (c1) J) J ?_;refine Wz [16,27] ?_;refine zx (Qj J J (c2) J) J ?_;refine Wz [83,27] ?_;refine zx (Qj J J (c3) J) J ?_;refine Wz [83,38,14,30,35,30,35,30,67,151,126,145] ?_
 exact Xl J J J J (Gr [] J J J)
theorem S_ShotOf (b:TBody) (hx:0≤b.X∧b.X≤1000) (hy:0≤b.Y∧b.Y≤1000) (ha : -1≤b.Aim∧b.Aim≤1):Con Tryz.prog 258 [] [ag b] [] (.o (.ag ((Enc.e (shotOf b)).map (V1.rd [])))):=by
 have c1:=S_in b.X 0 1000
 have c2:=S_in b.Y 0 1000
 have c3:=S_in b.Aim (-1) 1
 rw[Zn.2 hx] at c1
 rw[Zn.2 hy] at c2
 rw[Zn.2 ha] at c3
 refine Con.of Tryz.func258 J Tryz.ntmps258 J (fun E => ?_)
 refine Wz [51,39,14] ?_;refine zx (Qj J J (c1) J) J ?_;refine Wz [16,27] ?_;refine zx (Qj J J (c2) J) J ?_;refine Wz [83,27] ?_;refine zx (Qj J J (c3) J) J ?_;refine Wz [83,38,14,30,35,30,35,30,67,151,126,145] ?_
 exact Xl J J J J (Gr [] J J J)
theorem I_direction (v:Int) (h : -15≤v∧v≤15):Con Tryz.prog 242 [] [ai v] [] (.tu [.c (jn (dirOf v)),.c (jn v.natAbs)]):=by
 by_cases hv:v<0
 ·have f1:decide (v<0)=true:=Gqb hv
  refine Con.of Tryz.func242 J Tryz.ntmps242 J (fun E => ?_)
  refine Wz [1,34,52,57,10,255,34,31] ?_
  exact Xp J J J (Gr [] J J (tu2 (by rw[dirOf,if_pos hv]) (by omega)))
 ·have f1:decide (v<0)=false:=Gqa hv
  refine Con.of Tryz.func242 J Tryz.ntmps242 J (fun E => ?_)
  refine Wz [1,34,52,5,76,34,19] ?_
  exact Xp J J J (Gr [] J J (tu2 (by rw[dirOf,if_neg hv]) (by omega)))
theorem I_BodiesMeet (a b:TBody) (ha:Placed a) (hb:Placed b):Con Tryz.prog 243 [] [ag a,ag b] [] (B (meetM a b)):=by
 have sa:=size_pos ha.k
 have sb:=size_pos hb.k
 obtain⟨ax1,ax2⟩:=ha.x
 obtain⟨ay1,ay2⟩:=ha.y
 obtain⟨bx1,bx2⟩:=hb.x
 obtain⟨by1,by2⟩:=hb.y
 have c1:=I_SizeOf a.Kind
 have c2:=I_SizeOf b.Kind
 have f1:decide (sizeOf a.Kind=0)=false:=Gqa (by omega)
 have f2:decide (sizeOf b.Kind=0)=false:=Gqa (by omega)
 have x1:decide (a.X<0)=false:=Gqa (by omega)
 have x2:decide (1000<a.X)=false:=Gqa (by omega)
 have x3:decide (a.Y<0)=false:=Gqa (by omega)
 have x4:decide (1000<a.Y)=false:=Gqa (by omega)
 have x5:decide (b.X<0)=false:=Gqa (by omega)
 have x6:decide (1000<b.X)=false:=Gqa (by omega)
 have x7:decide (b.Y<0)=false:=Gqa (by omega)
 have x8:decide (1000<b.Y)=false:=Gqa (by omega)
 refine Con.of Tryz.func243 J Tryz.ntmps243 J (fun E => ?_)
 refine Wz [55,129,11,14] ?_;refine zx (Qj J J (c1) J) J ?_;refine Wz [11,14] ?_;refine zx (Qj J J (c2) J) J ?_;refine Wz [52,13,8,13,7,97,72,14,146,30,45] ?_;refine zx (q_lensb J J J) J ?_;refine Wz [131,33] ?_;refine Xi (fun m st=>∃ k:Nat,k+m=4∧(True)∧st=(⟨_,[(2,.o (.c (.ptr 0 0))),(3,.o (.c (.ptr 1 0))),(5,I (sizeOf a.Kind)),(6,I (sizeOf b.Kind)),(29,.o (.c (.sb 2 4 1))),(30,I 4),(31,I k)],[.box ((Enc.e a).map (V1.rd [])),.box ((Enc.e b).map (V1.rd [])),.box [jn a.X,jn a.Y,jn b.X,jn b.Y]]⟩:St)) (4) ⟨_,⟨0,by omega,trivial,J⟩,Gs [0,1,2]⟩ ?_
 rintro m_A _ ⟨k,hk_A,hp_A,rfl⟩
 have hk:k=0∨k=1∨k=2∨k=3∨k=4:=by omega
 rcases hk with hk | hk | hk | hk | hk
 ·subst hk
  refine Wz [1,272,39,65,26,1,189,160,32,5,8,113,62,64] ?_
  exact⟨4-(0+1),by omega,_,⟨0+1,by omega,trivial,J⟩,Gs [0,1,2]⟩
 ·subst hk
  refine Wz [1,272,39,65,26,1,189,160,32,5,8,113,62,64] ?_
  exact⟨4-(1+1),by omega,_,⟨1+1,by omega,trivial,J⟩,Gs [0,1,2]⟩
 ·subst hk
  refine Wz [1,272,39,65,26,1,189,160,32,5,8,113,62,64] ?_
  exact⟨4-(2+1),by omega,_,⟨2+1,by omega,trivial,J⟩,Gs [0,1,2]⟩
 ·subst hk
  refine Wz [1,272,39,65,26,1,189,160,32,5,8,113,62,64] ?_
  exact⟨4-(3+1),by omega,_,⟨3+1,by omega,trivial,J⟩,Gs [0,1,2]⟩
 ·subst hk
  refine Wz [1] ?_;refine zx (Qr (b:=false) J J J J (by decide)) J ?_;refine Wz [39,175,40,14,30,46,100,0,156,157,237,238,239,240,241,84,0,156,157,237,238,239,240,241,84,0,156,157,237,238,239,240,241,84,19] ?_
  exact Gq J (Gr [] J J J)
theorem S_BodiesMeet (a b:TBody) (ha:Placed a) (hb:Placed b):Con Tryz.prog 289 [] [ag a,ag b] [] (B (meetM a b)):=by
 have sa:=size_pos ha.k
 have sb:=size_pos hb.k
 obtain⟨ax1,ax2⟩:=ha.x
 obtain⟨ay1,ay2⟩:=ha.y
 obtain⟨bx1,bx2⟩:=hb.x
 obtain⟨by1,by2⟩:=hb.y
 have c1:=S_SizeOf a.Kind
 have c2:=S_SizeOf b.Kind
 have c3:=S_in a.X 0 1000
 have c4:=S_in a.Y 0 1000
 have c5:=S_in b.X 0 1000
 have c6:=S_in b.Y 0 1000
 rw[Zn.2 ha.x] at c3
 rw[Zn.2 ha.y] at c4
 rw[Zn.2 hb.x] at c5
 rw[Zn.2 hb.y] at c6
 have f1:decide (sizeOf a.Kind=0)=false:=Gqa (by omega)
 have f2:decide (sizeOf b.Kind=0)=false:=Gqa (by omega)
 refine Con.of Tryz.func289 J Tryz.ntmps289 J (fun E => ?_)
 refine Wz [55,129,11,14] ?_;refine zx (Qj J J (c1) J) J ?_;refine Wz [11,14] ?_;refine zx (Qj J J (c2) J) J ?_;refine Wz [52,13,8,13,7,27] ?_;refine zx (Qj J J (c3) J) J ?_;refine Wz [83,27] ?_;refine zx (Qj J J (c4) J) J ?_;refine Wz [83,27] ?_;refine zx (Qj J J (c5) J) J ?_;refine Wz [83,27] ?_;refine zx (Qj J J (c6) J) J ?_;refine Wz [83,38,14,30,46,100,0,156,157,237,238,239,240,241,84,0,156,157,237,238,239,240,241,84,0,156,157,237,238,239,240,241,84,19] ?_
 exact Gq J (Gr [] J J J)
end
section
open Go.RowKit

theorem Z7 {l:TLevel} {x y s:Int} (hl:levelOk l=true) (h1:1≤s∧s≤16) (h:solidM l x y s=false):(0≤x∧x≤400)∧(0≤y∧y≤400):=by
 obtain⟨l3,l12,w,w4,w20,hw⟩:=Zt hl
 have hn:¬hits l x y s:=fun hh=>by rw[Ve hh] at h; cases h
 have:¬(x<0∨y<0∨(w:Int)*16-s<x∨(l.Rows.length:Int)*16-s<y):=fun q=>hn (out_hits hw h1.1 q)
 omega
theorem solidAt_eq {l:TLevel} {x y s:Int} (hl:levelOk l=true) (h1:1≤s∧s≤16):solidAt l x y s=solidM l x y s:=by
 rw[solidAt,Zn.2 h1,hl]; rfl
theorem steer_and {i:Int} {k m:Int} (h:(pressed i k&&decide (((i.toNat &&& m.toNat:Nat):Int)=0))=true):(pressed i k && !pressed i m)=true:=by
 simp only[Gqg,decide_eq_true_eq,Gq9] at h ⊢
 exact⟨h.1,Gqa (fun q=>q h.2)⟩
theorem steer_no {i:Int} {k m:Int} (h:(pressed i k&&decide (((i.toNat &&& m.toNat:Nat):Int)=0))=false):(pressed i k && !pressed i m)=false:=by
 rw[←Gx6] at h ⊢
 intro q
 simp only[Gqg,decide_eq_true_eq,Gq9,pressed,decide_eq_false_iff_not,Classical.not_not] at h q
 exact h q
@[reducible] def stB (K O X Y VX VY A L T:Int):List V1 := [jn K,jn O,jn X,jn Y,jn VX,jn VY,jn A,jn L,jn T]
theorem I_SteerPlayer (l:TLevel) (b:TBody) (i:Int) (hg:Enc.gd l) (hl:levelOk l=true) (gb:Enc.gd b) (hk:b.Kind=0) (ho:0≤b.Owner∧b.Owner≤3) (hf:1≤b.Life) (hi:0≤i∧i≤15) (hb:bodyM l (b.Owner+1) b=true) (ht:0≤b.Timer∧b.Timer≤20) (hv : -15≤b.VY∧b.VY≤15) (hp:solidM l b.X b.Y 12=false):Con Tryz.prog 224 [] [ag l,ag b,ai i] [] (.tu [.ag ((Enc.e (steer l b i).1).map (V1.rd [])),.c (bv (steer l b i).2)]):=by
 obtain⟨⟨px1,px2⟩,⟨py1,py2⟩⟩:=Z7 hl (by decide) hp
 have c1:=Xt l hg
 have c2:=Xx b.Owner 0 3
 have c3:=Xx i 0 15
 have c4:=I_BodyOk l (b.Owner+1) b hg gb (by omega)
 rw[hl] at c1
 rw[Zn.2 ho] at c2
 rw[Zn.2 hi] at c3
 rw[hl,hb] at c4
 have f1:decide (b.Kind≠0)=false:=Gqa (fun q=>q hk)
 have f2:decide (b.Life<1)=false:=Gqa (by omega)
 have cs:=I_SolidAt l b.X (b.Y+1) 12 hg ⟨by omega,by omega⟩ ⟨by omega,by omega⟩
 rw[solidAt_eq hl (by decide)] at cs
 have cz:Con Tryz.prog 223 [] [ai 0] [] (I 12):=I_SizeOf 0
 obtain⟨T,hT⟩:∃ T,T=(if 0<b.Timer then b.Timer-1 else b.Timer):=⟨_,rfl⟩
 have hT1:0≤T∧T≤20:=by rw[hT]; split <;> omega
 obtain⟨R,hR⟩:∃ R,R=(pressed i 2 && !pressed i 1):=⟨_,rfl⟩
 obtain⟨Lf,hLf⟩:∃ Lf,Lf=(pressed i 1 && !pressed i 2):=⟨_,rfl⟩
 rw[steer,←hT,←hR,←hLf]
 refine Con.of Tryz.func224 J Tryz.ntmps224 J (fun E => ?_)
 refine Wz [55,129,90,23,6] ?_;refine zx (Qj J J (c1) J) J ?_;refine Wz [16,27,116,27,5,7,27] ?_;refine zx (Qj J J (c2) J) J ?_;refine Wz [83,38,25] ?_;refine zx (Qj J J (c3) J) J ?_;refine Wz [16,18,48,3,59,35,3,48,3] ?_;refine zx (Qj J J (c4) J) J ?_;refine Wz [83,97,72,14,248,2] ?_
 refine A_join (⟨101,[(2,I i),(3,.o (.c (.ptr 0 0))),(4,.o (.c (.ptr 1 0))),(6,.o (.c (.ptr 2 0)))],[.box ((Enc.e l).map (V1.rd [])),.box (stB b.Kind b.Owner b.X b.Y b.VX b.VY b.Aim b.Life T),.box (stB 0 0 0 0 0 0 0 0 0)]⟩:St) ?_ ?_
 ·refine Xb rfl (fun h => ?_) (fun h => ?_)
  ·have h:=Gqi h
   have hT2:b.Timer-1=T:=by rw[hT,if_pos h]
   refine Wz [128,30,71,103,159] ?_
   exact Mid.n (by rw[←hT2]; exact Gs [0,1,2])
  ·have h:=Gqj h
   have hT2:b.Timer=T:=by rw[hT,if_neg h]
   refine Qh ?_
   exact Mid.n (by rw[←hT2]; exact Gs [0,1,2])
 refine Wz [10,193,149,32,193,149,11,1,60,24,154] ?_;refine zx (Qt.grdT J J J (.hit .stop) (fun hgrd=>Q4 J J J)) J ?_;refine Wz [84,2] ?_
 refine A_join (⟨101,[(2,I i),(3,.o (.c (.ptr 0 0))),(4,.o (.c (.ptr 1 0))),(6,.o (.c (.ptr 2 0))),(8,B (pressed i 1)),(9,B (pressed i 2))],[.box ((Enc.e l).map (V1.rd [])),.box (stB b.Kind b.Owner b.X b.Y (if R=true then 3 else 0) b.VY (if R=true then 1 else b.Aim) b.Life T),.box (stB 0 0 0 0 0 0 0 0 0)]⟩:St) ?_ ?_
 ·refine Xb rfl (fun h => ?_) (fun h => ?_)
  ·have h2:R=true:=by rw[hR]; exact h
   refine Wz [1,60,128,103,159] ?_
   exact Mid.n (by rw[if_pos h2,if_pos h2]; exact Gs [0,1,2])
  ·have h2:¬R=true:=by rw[hR]; intro q; exact Gx0 (Eq.trans (h).symm q)
   refine Qh ?_
   exact Mid.n (by rw[if_neg h2,if_neg h2]; exact Gs [0,1,2])
 refine Wz [24,154] ?_;refine zx (Qt.grdT J J J (.hit .stop) (fun hgrd=>Q4 J J J)) J ?_;refine Wz [84,2] ?_
 refine A_join (⟨101,[(2,I i),(3,.o (.c (.ptr 0 0))),(4,.o (.c (.ptr 1 0))),(6,.o (.c (.ptr 2 0))),(8,B (pressed i 1)),(9,B (pressed i 2))],[.box ((Enc.e l).map (V1.rd [])),.box (stB b.Kind b.Owner b.X b.Y (if Lf=true then -3 else if R=true then 3 else 0) b.VY (if Lf=true then -1 else if R=true then 1 else b.Aim) b.Life T),.box (stB 0 0 0 0 0 0 0 0 0)]⟩:St) ?_ ?_
 ·refine Xb rfl (fun h => ?_) (fun h => ?_)
  ·have h2:Lf=true:=by rw[hLf]; exact h
   refine Wz [1,60,128,103,159] ?_
   exact Mid.n (by rw[if_pos h2,if_pos h2]; exact Gs [0,1,2])
  ·have h2:¬Lf=true:=by rw[hLf]; intro q; exact Gx0 (Eq.trans (h).symm q)
   refine Qh ?_
   exact Mid.n (by rw[if_neg h2,if_neg h2]; exact Gs [0,1,2])
 obtain⟨vx,hvx⟩:∃ vx,vx=(if Lf=true then -3 else if R=true then 3 else 0):=⟨_,rfl⟩
 obtain⟨am,ham⟩:∃ am,am=(if Lf=true then -1 else if R=true then 1 else b.Aim):=⟨_,rfl⟩
 rw[←hvx,←ham]
 obtain⟨Fi,hFi⟩:∃ Fi,Fi=(pressed i 8&&decide (T=0)):=⟨_,rfl⟩
 rw[←hFi]
 by_cases hJ:pressed i 4=true
 ·have fJ:decide (((i.toNat &&& (4:Int).toNat:Nat):Int)≠0)=true:=hJ
  cases hs:solidM l b.X (b.Y+1) 12 with
  | true =>
   rw[hs] at cs
   rw[hJ]
   refine Wz [12,12,294,4,226,176,4,183,42,42,273] ?_;refine Vx (Qt.yes J J J (Qj J J (cz) J)) J ?_;refine Wz [274,112,17,15,128,60,25,193,149,0,156,157,191,84,2] ?_
   refine Xb J (fun h => ?_) (fun h => ?_)
   ·have h2:Fi=true:=by rw[hFi]; exact h
    rw[h2]
    refine Wz [1,60,6,152] ?_
    exact G4 J J (Gr [] J J J)
   ·have h2:Fi=false:=by rw[hFi]; exact h
    rw[h2]
    refine Wz [54,6,115] ?_
    exact G4 J J (Gr [] J J J)
  | false =>
   rw[hs] at cs
   rw[hJ]
   refine Wz [12,12,294,4,226,176,4,183,42,42,273] ?_;refine Vx (Qt.yes J J J (Qj J J (cz) J)) J ?_;refine Wz [274,112,17,97,128,30,35,275,60,25,193,149,0,156,157,191,84,2] ?_
   refine Xb J (fun h => ?_) (fun h => ?_)
   ·have h2:Fi=true:=by rw[hFi]; exact h
    rw[h2]
    refine Wz [1,60,6,152] ?_
    exact G4 J J (Gr [] J J J)
   ·have h2:Fi=false:=by rw[hFi]; exact h
    rw[h2]
    refine Wz [54,6,115] ?_
    exact G4 J J (Gr [] J J J)
 ·have fJ:decide (((i.toNat &&& (4:Int).toNat:Nat):Int)≠0)=false:=by simpa[pressed] using hJ
  rw[show pressed i 4=false by simpa using hJ]
  refine Wz [12,12,294,4,226,176,4,80,80,101,17,97,128,30,35,275,60,25,193,149,0,156,157,191,84,2] ?_
  refine Xb J (fun h => ?_) (fun h => ?_)
  ·have h2:Fi=true:=by rw[hFi]; exact h
   rw[h2]
   refine Wz [1,60,6,152] ?_
   exact G4 J J (Gr [] J J J)
  ·have h2:Fi=false:=by rw[hFi]; exact h
   rw[h2]
   refine Wz [54,6,115] ?_
   exact G4 J J (Gr [] J J J)
theorem S_l02Steer (l:TLevel) (b:TBody) (i:Int) (hg:Enc.gd l) (hl:levelOk l=true) (hk:b.Kind=0) (hi:0≤i∧i≤15) (ht:0≤b.Timer∧b.Timer≤20) (hv : -15≤b.VY∧b.VY≤15) (hp:solidM l b.X b.Y 12=false):Con Tryz.prog 257 [] [ag l,ag b,ai i] [] (.tu [.ag ((Enc.e (steer l b i).1).map (V1.rd [])),.c (bv (steer l b i).2)]):=by
 obtain⟨⟨px1,px2⟩,⟨py1,py2⟩⟩:=Z7 hl (by decide) hp
 have cs:=S_l02Solid l b.X (b.Y+1) 12 hl ⟨by omega,by omega⟩ ⟨by omega,by omega⟩ (by decide) (by decide)
 have cz:Con Tryz.prog 221 [] [ai b.Kind] [] (I 12):=by rw[hk]; exact S_SizeOf 0
 obtain⟨T,hT⟩:∃ T,T=(if 0<b.Timer then b.Timer-1 else b.Timer):=⟨_,rfl⟩
 have hT1:0≤T∧T≤20:=by rw[hT]; split <;> omega
 obtain⟨R,hR⟩:∃ R,R=(pressed i 2 && !pressed i 1):=⟨_,rfl⟩
 obtain⟨Lf,hLf⟩:∃ Lf,Lf=(pressed i 1 && !pressed i 2):=⟨_,rfl⟩
 rw[steer,←hT,←hR,←hLf]
 refine Con.of Tryz.func257 J Tryz.ntmps257 J (fun E => ?_)
 refine Wz [55,129,90,23,14,248,2] ?_
 refine A_join (⟨68,[(2,I i),(3,.o (.c (.ptr 0 0))),(4,.o (.c (.ptr 1 0))),(6,.o (.c (.ptr 2 0)))],[.box ((Enc.e l).map (V1.rd [])),.box (stB b.Kind b.Owner b.X b.Y b.VX b.VY b.Aim b.Life T),.box (stB 0 0 0 0 0 0 0 0 0)]⟩:St) ?_ ?_
 ·refine Xb rfl (fun h => ?_) (fun h => ?_)
  ·have h:=Gqi h
   have hT2:b.Timer-1=T:=by rw[hT,if_pos h]
   refine Wz [128,30,71,103,159] ?_
   exact Mid.n (by rw[←hT2]; exact Gs [0,1,2])
  ·have h:=Gqj h
   have hT2:b.Timer=T:=by rw[hT,if_neg h]
   refine Qh ?_
   exact Mid.n (by rw[←hT2]; exact Gs [0,1,2])
 refine Wz [1,60,25,193,149,0,154] ?_;refine zx (Qt.grdT J J J (.hit .stop) (fun hgrd=>Ka J J J J (by omega))) J ?_;refine Wz [191,84,2] ?_
 refine A_join (⟨68,[(2,I i),(3,.o (.c (.ptr 0 0))),(4,.o (.c (.ptr 1 0))),(6,.o (.c (.ptr 2 0)))],[.box ((Enc.e l).map (V1.rd [])),.box (stB b.Kind b.Owner b.X b.Y (if R=true then 3 else 0) b.VY (if R=true then 1 else b.Aim) b.Life T),.box (stB 0 0 0 0 0 0 0 0 0)]⟩:St) ?_ ?_
 ·refine Xb rfl (fun h => ?_) (fun h => ?_)
  ·have h2:R=true:=by rw[hR]; exact steer_and h
   refine Wz [1,60,128,103,159] ?_
   exact Mid.n (by rw[if_pos h2,if_pos h2]; exact Gs [0,1,2])
  ·have h2:¬R=true:=by rw[hR]; intro q; exact Gx0 (Eq.trans (steer_no h).symm q)
   refine Qh ?_
   exact Mid.n (by rw[if_neg h2,if_neg h2]; exact Gs [0,1,2])
 refine Wz [25,193,149,0,154] ?_;refine zx (Qt.grdT J J J (.hit .stop) (fun hgrd=>Ka J J J J (by omega))) J ?_;refine Wz [191,84,2] ?_
 refine A_join (⟨68,[(2,I i),(3,.o (.c (.ptr 0 0))),(4,.o (.c (.ptr 1 0))),(6,.o (.c (.ptr 2 0)))],[.box ((Enc.e l).map (V1.rd [])),.box (stB b.Kind b.Owner b.X b.Y (if Lf=true then -3 else if R=true then 3 else 0) b.VY (if Lf=true then -1 else if R=true then 1 else b.Aim) b.Life T),.box (stB 0 0 0 0 0 0 0 0 0)]⟩:St) ?_ ?_
 ·refine Xb rfl (fun h => ?_) (fun h => ?_)
  ·have h2:Lf=true:=by rw[hLf]; exact steer_and h
   refine Wz [1,60,128,103,159] ?_
   exact Mid.n (by rw[if_pos h2,if_pos h2]; exact Gs [0,1,2])
  ·have h2:¬Lf=true:=by rw[hLf]; intro q; exact Gx0 (Eq.trans (steer_no h).symm q)
   refine Qh ?_
   exact Mid.n (by rw[if_neg h2,if_neg h2]; exact Gs [0,1,2])
 obtain⟨vx,hvx⟩:∃ vx,vx=(if Lf=true then -3 else if R=true then 3 else 0):=⟨_,rfl⟩
 obtain⟨am,ham⟩:∃ am,am=(if Lf=true then -1 else if R=true then 1 else b.Aim):=⟨_,rfl⟩
 rw[←hvx,←ham]
 obtain⟨Fi,hFi⟩:∃ Fi,Fi=(pressed i 8&&decide (T=0)):=⟨_,rfl⟩
 rw[←hFi]
 by_cases hJ:pressed i 4=true
 ·have fJ:decide (((i.toNat &&& (4:Int).toNat:Nat):Int)≠0)=true:=hJ
  cases hs:solidM l b.X (b.Y+1) 12 with
  | true =>
   rw[hs] at cs
   rw[hJ]
   refine Wz [12,12,295,4,226,176,4,183,42,42,273,42] ?_;refine Vx (Qt.yes J J J (Qj J J (cz) J)) J ?_;refine Wz [274,112,17,15,128,60,25,193,149,0,156,157,191,84,2] ?_
   refine Xb J (fun h => ?_) (fun h => ?_)
   ·have h2:Fi=true:=by rw[hFi]; exact h
    rw[h2]
    refine Wz [1,60,6,152] ?_
    exact G4 J J (Gr [] J J J)
   ·have h2:Fi=false:=by rw[hFi]; exact h
    rw[h2]
    refine Wz [54,6,115] ?_
    exact G4 J J (Gr [] J J J)
  | false =>
   rw[hs] at cs
   rw[hJ]
   refine Wz [12,12,295,4,226,176,4,183,42,42,273,42] ?_;refine Vx (Qt.yes J J J (Qj J J (cz) J)) J ?_;refine Wz [274,112,17,97,128,30,35,275,60,25,193,149,0,156,157,191,84,2] ?_
   refine Xb J (fun h => ?_) (fun h => ?_)
   ·have h2:Fi=true:=by rw[hFi]; exact h
    rw[h2]
    refine Wz [1,60,6,152] ?_
    exact G4 J J (Gr [] J J J)
   ·have h2:Fi=false:=by rw[hFi]; exact h
    rw[h2]
    refine Wz [54,6,115] ?_
    exact G4 J J (Gr [] J J J)
 ·have fJ:decide (((i.toNat &&& (4:Int).toNat:Nat):Int)≠0)=false:=by simpa[pressed] using hJ
  rw[show pressed i 4=false by simpa using hJ]
  refine Wz [12,12,295,4,226,176,4,80,80,258,101,17,97,128,30,35,275,60,25,193,149,0,156,157,191,84,2] ?_
  refine Xb J (fun h => ?_) (fun h => ?_)
  ·have h2:Fi=true:=by rw[hFi]; exact h
   rw[h2]
   refine Wz [1,60,6,152] ?_
   exact G4 J J (Gr [] J J J)
  ·have h2:Fi=false:=by rw[hFi]; exact h
   rw[h2]
   refine Wz [54,6,115] ?_
   exact G4 J J (Gr [] J J J)
end
end Go.Proofs.YtpmacgnmlmmojaaGreatDoor
