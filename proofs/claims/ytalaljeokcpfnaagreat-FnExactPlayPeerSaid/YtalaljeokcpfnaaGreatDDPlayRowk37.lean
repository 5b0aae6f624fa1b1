/-
  Rules, data and contracts of functions: part 38 of the proof.
  Conditions: those that each theorem names.
-/
import Derived.Test.YtalaljeokcpfnaaGreatDDPlayRowk36
set_option linter.unusedSimpArgs false
set_option linter.unusedVariables false
set_option maxRecDepth 8000
set_option maxHeartbeats 8000000
namespace Go.Proofs.YtalaljeokcpfnaaGreat
section
open Tryz
open Go.RowKit

theorem I_ReadWorld (lv:TLevel) (s:ByteArray) (hg:Enc.gd lv) (hL:lv.Rows.length≤1048576) (hs:s.size≤1099511627776):Co 211 [] [ag lv,astr s] (ownO (Enc.e (rwW (readWorld lv s)))) (.tu [.ag (ownV 0 (Enc.e (rwW (readWorld lv s)))),.c (bv (rwB (readWorld lv s)))]):=by
 have hui:=I_UnpackInts s 0 hs ⟨Aqa,Aqa⟩
 cases hu:unpackInts s 0 with
 |none =>
  rw[hu] at hui
  rw[Vu hu]
  refine Con.o func211 ntmps211 fun E=>?_;refine Wz [59,44] ?_;refine kc1 hui ?_;refine Wz [102,72,55,46,0,87,80,83,3,137,47,76] ?_
  exact Bzp
 | some r =>
  obtain⟨l,pos⟩:=r
  rw[hu] at hui
  obtain⟨_,hu1,hu2,hu3,hu4⟩:=Uf hu
  have hll:=Y7 l
  refine Con.o func211 ntmps211 fun E=>?_;refine Wz [59,44] ?_;refine kc1 hui ?_;refine Wz [102,72,14,21,38,2,150,5,103] ?_;refine zx (Qt.grdF J J J (.hit .stop) (fun hgrd=>Vc J J J J)) J ?_;refine zx (Qt.grdF J J J (.hit (.hit .stop)) (fun hgrd=>Vh J J J J)) J ?_;refine Wz [75] ?_
  refine Xb J (fun h=>?_) (fun h=>?_)
  ·simp only[Gqq,decide_eq_true_eq] at h
   rw[Vt hu (fun hh=>by have:=hh.2.1.1; omega)]
   refine Wz [3,137,47,76] ?_
   exact Bzp
  simp only[Gqm,decide_eq_false_iff_not] at h
  have ha0:=Y5 (l:=l) (j:=0) Aqa 0 rfl
  have ha1:=Y5 (l:=l) (j:=1) Aqa 1 rfl
  have ha2:=Y5 (l:=l) (j:=2) Aqa 2 rfl
  obtain⟨l2,hl2⟩:∃ l2,l.getD 2 0=l2:=⟨_,rfl⟩
  rw[hl2] at ha2
  have hl264:I64 l2:=by
   rw[←hl2,Gqf,Gqg Aqa]
   exact hu4 _ (Gqe _)
  have hl21:=hl264.1
  have hl22:=hl264.2
  have hbt:=Xy l2 1 4
  by_cases hin:inR l2 1 4=true
  case neg =>
   have hf:inR l2 1 4=false:=by simpa using hin
   rw[hf] at hbt
   rw[Vt hu (fun hh=>by have:=hh.2.1.2.1; rw[hl2,←Zm] at this; exact hin this)]
   refine Wz [42,11,106,146,40] ?_;refine kc0 hbt ?_;refine Wz [6,55,80,83,3,137,47,76] ?_
   exact Bzp
  rw[hin] at hbt
  have hin2:=Zm.1 hin
  obtain⟨p,rfl⟩:∃ p:Nat,l2=p:=⟨l2.toNat,Aqa⟩
  refine Wz [42,11,106,146,40] ?_;refine kc0 hbt ?_;refine Wz [6,14,33,2,21,13,2,160,5,1] ?_
  refine Xb J (fun h2=>?_) (fun h2=>?_)
  ·have h2:=Gqc h2
   rw[Vt hu (fun hh=>by have:=hh.2.1.2.2.1; omega)]
   refine Wz [3,137,47,76] ?_
   exact Bzp
  have h2:=Gqd h2
  refine Wz [108] ?_;refine Xi [[],[0],[],[2],[2,3],[],[5],[5,6],(u9 8),[],(u9 10)] [[],[48],[],[50],[50,51],[],[53],[53,54],(gg [48,8]),[],(gg [10,1,48,9])] (tt [[10,1,50,6],[10,1,50,6],[10,1,48,2,53,3],[10,1,48,2,53,3],[10,1,48,2,53,3],[10,1,48,5],[10,1,48,5],[10,1,48,5],[10,1],[48,9],[]]) J (Uq (Qu J J J J J J) J ?_);refine Uq (Kr J J (I_copyLevel lv hg hL) J J J) J ?_;refine Wz [17,129,163,17,129,163,257,221,12] ?_;refine AL.kp [4,2,9,0,10,5] [(6,Aqg 2),(56,.o (.ag [Aqk 3,jv (l.getD 0 0),jv (l.getD 1 0),nilV,nilV]))] 5 [(0,.box (Aqi lv)),(1,.box [nilV,jv 0,jv 0,nilV,nilV]),(4,.box [nilV,jv 0,jv 0,nilV,nilV])] ?_
  have hpl:(p:Int)≤4:=hin2.2
  have hcl:=Clone_ints ((l.drop 3).take p) Bqz Bqz
  rw[show al ((l.drop 3).take p) = .c (.rd [] (.sl 1 (((els l).take ((3:Int)+(p:Int)).toNat).drop (3:Int).toNat))) by
   rw[show ((3:Int)+(p:Int)).toNat=3+p by omega,show (3:Int).toNat=3 from rfl,List.drop_take,←els_dropE,←Zd,show 3+p-3=p by omega]; rfl] at hcl
  obtain⟨rest,hrest⟩:∃ rest,rest=l.drop (3+p):=⟨_,rfl⟩
  have hre:(els l).drop ((3:Int)+(p:Int)).toNat=els rest:=by rw[show ((3:Int)+(p:Int)).toNat=3+p by omega,←els_dropE,hrest]
  have hrl:rest.length=l.length-(3+p):=by rw[hrest]; simp
  have hrl2:=Y7 rest
  have hdl:((els l).drop ((3:Int)+(p:Int)).toNat).length=l.length-(3+p):=by rw[Gq9,hll]; congr 1
  refine Wz [39,10,13] ?_;refine zx (q_partr J J J J J J J Aqa) J ?_;refine kc1 hcl ?_;refine Wz [52,10,13] ?_;refine zx (q_partr1 J J J J J J Aqa) J ?_;refine Wz [40,25,167,150,103] ?_;refine zx (Qt.grdF J J J (.hit .stop) (fun hgrd=>Vb J J J)) J ?_;refine zx (Qt.grdF J J J (.hit (.hit .stop)) (fun hgrd=>q_quo J J J J Aqa)) J ?_;refine Wz [280,75] ?_
  refine Xb J (fun h3=>?_) (fun h3=>?_)
  ·simp only[Gqq,decide_eq_true_eq] at h3
   rw[Vt hu (fun hh=>by
    have h8:=hh.2.1.2.2.2
    have h9:=(Uj hh.2.2).2.2.2.2.2.1.2
    have h10:(worldOf lv l).Bodies.length=(l.length-3-(l.getD 2 0).toNat)/9:=Yu _ _
    rw[hl2] at h8 h10
    omega)]
   refine Wz [3,137,47,76] ?_
   exact Bzv
  simp only[Gqm,decide_eq_false_iff_not] at h3
  obtain⟨nb,hn⟩:∃ nb,rest.length=9*nb:=⟨rest.length/9,Aqa⟩
  have hform:formOk l:=⟨Aqa,by rw[hl2]; exact hin2,by rw[hl2]; omega,by rw[hl2]; omega⟩
  have hwo:worldOf lv l=⟨lv,l.getD 0 0,l.getD 1 0,(l.drop 3).take p,bodiesOf rest nb⟩:=by
   rw[worldOf,hl2,Int.toNat_natCast,←hrest,show (l.length-3-p)/9=nb by omega]
  have hwg:=worldOf_gd (lv:=lv) hg hu4 Aqa 
  rw[hwo] at hwg
  refine AWP.pre (st':=(⟨_,[(4,Aqf 1),(10,Aqf 4),(11,.o (.c (.rd [2] (.sl 1 (els rest)))))],[.box (Aqi lv),.box [nilV,jv 0,jv 0,nilV,nilV],.row 1 (els l),.row 1 (els lv.Rows),.box [Aqk 3,jv (l.getD 0 0),jv (l.getD 1 0),Aqk 5,nilV],.row 1 (els ((l.drop 3).take p))]⟩:St)) ?_ (Yk [0,1,2,3,4,5] Aqc J Aqb (.c J (.c J (.cons (rdE hre) (.nil)))))
  refine AWP.pre ?_ (Wk.nilbox (p:=4) (i:=4) 9 J J)
  refine Wz [108,51] ?_;refine Xj (fun m st=>∃ k:Nat,k+m=nb∧(True)∧st=(⟨_,[(4,Aqf 1),(10,Aqf 4),(11,.o (.c (.rd [2] (.sl 1 (els rest))))),(12,I (9*(k:Int)))],[.box (Aqi lv),.box [nilV,jv 0,jv 0,nilV,nilV],.row 1 (els l),.row 1 (els lv.Rows),.box [Aqk 3,jv (l.getD 0 0),jv (l.getD 1 0),Aqk 5,Aqk 6],.row 1 (els ((l.drop 3).take p)),.row 9 (els (bodiesOf rest k))]⟩:St)) (nb) ⟨(fun k:Nat=>(⟨_,[(4,Aqf 1),(10,Aqf 4),(11,.o (.c (.rd [2] (.sl 1 (els rest))))),(12,I (9*(k:Int)))],[.box (Aqi lv),.box [nilV,jv 0,jv 0,nilV,nilV],.row 1 (els l),.row 1 (els lv.Rows),.box [Aqk 3,jv (l.getD 0 0),jv (l.getD 1 0),Aqk 5,Aqk 6],.row 1 (els ((l.drop 3).take p)),.row 9 (els (bodiesOf rest k))]⟩:St)) 0,⟨0,Aqa,trivial,J⟩,Yk [0,1,2,3,4,5,6] Aqc J Aqb (.c J (.c J (.c J (.cons (X0 Aqd) (.nil)))))⟩ ?_
  rintro m_A _ ⟨k,hk_A,hp_A,rfl⟩
  have hlbk:=Y7 (bodiesOf rest k)
  have hlbk2:=Yu rest k
  refine Wz [114] ?_
  refine Xb J (fun h4=>?_) (fun h4=>?_)
  ·have h4:=Gqc h4
   have hk9:9*k+9≤rest.length:=Aqa
   have hc0:=Y0 (rest:=rest) (m:=k) Aqa (j:=0) Aqa (9*(k:Int)+9) (9*(k:Int)) J J 0 rfl
   have hc1:=Y0 (rest:=rest) (m:=k) Aqa (j:=1) Aqa (9*(k:Int)+9) (9*(k:Int)) J J 1 rfl
   have hc2:=Y0 (rest:=rest) (m:=k) Aqa (j:=2) Aqa (9*(k:Int)+9) (9*(k:Int)) J J 2 rfl
   have hc3:=Y0 (rest:=rest) (m:=k) Aqa (j:=3) Aqa (9*(k:Int)+9) (9*(k:Int)) J J 3 rfl
   have hc4:=Y0 (rest:=rest) (m:=k) Aqa (j:=4) Aqa (9*(k:Int)+9) (9*(k:Int)) J J 4 rfl
   have hc5:=Y0 (rest:=rest) (m:=k) Aqa (j:=5) Aqa (9*(k:Int)+9) (9*(k:Int)) J J 5 rfl
   have hc6:=Y0 (rest:=rest) (m:=k) Aqa (j:=6) Aqa (9*(k:Int)+9) (9*(k:Int)) J J 6 rfl
   have hc7:=Y0 (rest:=rest) (m:=k) Aqa (j:=7) Aqa (9*(k:Int)+9) (9*(k:Int)) J J 7 rfl
   have hc8:=Y0 (rest:=rest) (m:=k) Aqa (j:=8) Aqa (9*(k:Int)+9) (9*(k:Int)) J J 8 rfl
   have hlbk3:(els (bodiesOf rest k)).length=k:=Aqa
   have hlt:(9*(k:Int)+9≤(els rest).length):=Aqa
   have hk24:k≤24:=Aqa
   have hknb:k<nb:=Aqa
   clear hwg hwo hform hre hcl hdl h3 h2 hin2 hin hbt hl264 hl21 hl22 ha0 ha1 ha2 h hu1 hu2 hu3 hu4 hll hui hrl hrl2 hn hpl hlbk hlbk2 hp_A hk9 h4
   refine Wz [9,50,13] ?_;refine zx (q_part J J J J J J Aqa) J ?_;refine Wz [8] ?_;refine Xi [[],[0],[],[2],[2,3],[],[5],[5,6],[],[8],[8,9],[],[11],[11,12],[],[14],[14,15],[],[17],[17,18],[],[20],[20,21],[],[23],[23,24],[],[26],[26,27],(gg [2,27]),(gg [2,28]),(u9 31),(u9 32),(u9 33)] (tt [[],[89,1],[],[91,1],[91,2],[],[94,1],[94,2],[],[97,1],[97,2],[],[100,1],[100,2],[],[103,1],[103,2],[],[106,1],[106,2],[],[109,1],[109,2],[],[112,1],[112,2],[],[115,1],[115,2],[91,27],[91,28],[89,31],[89,32],[89,33]]) (tt [[91,29],[91,29],[89,2,94,24],[89,2,94,24],[89,2,94,24],[89,5,97,21],[89,5,97,21],[89,5,97,21],[89,8,100,18],[89,8,100,18],[89,8,100,18],[89,11,103,15],[89,11,103,15],[89,11,103,15],[89,14,106,12],[89,14,106,12],[89,14,106,12],[89,17,109,9],[89,17,109,9],[89,17,109,9],[89,20,112,6],[89,20,112,6],[89,20,112,6],[89,23,115,3],[89,23,115,3],[89,23,115,3],[89,26],[89,26],[89,26],[89,2],[89,2],[],[],[]]) J ?_;refine Wz [67,64,17,64,17,64,17,64,17,64,17,64,17,64,17,64,17,64] ?_;refine DR.s (x := .o (.ag [jv ((rest.drop (9*k)).getD 0 0),jv ((rest.drop (9*k)).getD 1 0),jv ((rest.drop (9*k)).getD 2 0),jv ((rest.drop (9*k)).getD 3 0),jv ((rest.drop (9*k)).getD 4 0),jv ((rest.drop (9*k)).getD 5 0),jv ((rest.drop (9*k)).getD 6 0),jv ((rest.drop (9*k)).getD 7 0),jv ((rest.drop (9*k)).getD 8 0)])) (Ko J J J J Aqb) J J ?_;refine Wz [153,12] ?_;refine AL.kp [4,2,10,5,12,0] [(11,.o (.c (.rd [2] (.sl 1 (els rest))))),(90,Aqg 6),(119,.o (.c (.sb 7 1 9)))] 8 [(0,.box (Aqi lv)),(1,.box [nilV,jv 0,jv 0,nilV,nilV]),(4,.box [Aqk 3,jv (l.getD 0 0),jv (l.getD 1 0),Aqk 5,Aqk 6]),(7,.box [jv ((rest.drop (9*k)).getD 0 0),jv ((rest.drop (9*k)).getD 1 0),jv ((rest.drop (9*k)).getD 2 0),jv ((rest.drop (9*k)).getD 3 0),jv ((rest.drop (9*k)).getD 4 0),jv ((rest.drop (9*k)).getD 5 0),jv ((rest.drop (9*k)).getD 6 0),jv ((rest.drop (9*k)).getD 7 0),jv ((rest.drop (9*k)).getD 8 0)])] ?_;refine Wz [122,121,130] ?_
   exact⟨nb-(k+1),Aqa,(fun k:Nat=>(⟨_,[(4,Aqf 1),(10,Aqf 4),(11,.o (.c (.rd [2] (.sl 1 (els rest))))),(12,I (9*(k:Int)))],[.box (Aqi lv),.box [nilV,jv 0,jv 0,nilV,nilV],.row 1 (els l),.row 1 (els lv.Rows),.box [Aqk 3,jv (l.getD 0 0),jv (l.getD 1 0),Aqk 5,Aqk 6],.row 1 (els ((l.drop 3).take p)),.row 9 (els (bodiesOf rest k))]⟩:St)) (k+1),⟨k+1,Aqa,trivial,J⟩,Yk [0,1,2,3,4,5,6] Aqc J (row7 (by rw[bodiesOf_snoc,Y3]; rfl)) (.c J (.c J (.c J (.cons (X0 Aqa) (.nil)))))⟩
  ·have h4:=Gqd h4
   have hkn:k=nb:=Aqa
   subst hkn
   have hwk:=Xx ⟨lv,l.getD 0 0,l.getD 1 0,(l.drop 3).take p,bodiesOf rest k⟩ hwg
   cases ho:worldOk ⟨lv,l.getD 0 0,l.getD 1 0,(l.drop 3).take p,bodiesOf rest k⟩ with
   |false =>
    rw[ho] at hwk
    rw[Vt hu (fun hh=>by have h9:=hh.2.2; rw[hwo,ho] at h9; cases h9)]
    refine Wz [30,4,7] ?_;refine kc0 hwk ?_;refine Wz [6,32,3,137,47,76] ?_
    exact Xn J J J J J (Yi [1,1,9] [7,8,9] J J Aqc J J J)
   |true =>
    rw[ho] at hwk
    rw[Vv hu ⟨Aqa,hform,by rw[hwo]; exact ho⟩,hwo]
    refine Wz [30,4,7] ?_;refine kc0 hwk ?_;refine Wz [6,28,7,47,36] ?_
    exact Xn J J J J J (Yh [3,5,6] Aqc J J J)
end
section
open Tryz
open Go.RowKit

theorem row6 {a b c d e:Ob} {k:Nat} {x y:List (List T)} (h:x=y) : [a,b,c,d,e,Ob.row k x] = [a,b,c,d,e,Ob.row k y]:=by rw[h]
theorem plain_dt (l:List Int) (a b:Nat):plainT (((els l).take a).drop b):=fun e he=>Y8 l e (Gxt (Gxj he))
theorem k_dt (l:List Int) (a b:Nat):∀ e∈((els l).take a).drop b,e.length=1:=fun e he=>Y6 l e (Gxt (Gxj he))
theorem world_bytes_eq {lv:TLevel} {s:ByteArray} {l:List Int} {pos:Nat} (hu:unpackInts s 0=some (l,pos)) (hp:pos=s.size) (hf:formOk l):worldBytes (worldOf lv l)=s↔worldOk (worldOf lv l)=true:=by
 have hcn:=unpackInts_canon hu
 have hb:=bytesL_all s pos Aqa 
 have hs:packInts l=s:=by rw[hcn]; exact hb.2 hp
 cases ho:worldOk (worldOf lv l) with
 |true =>
  rw[show worldBytes (worldOf lv l)=packInts (worldInts (worldOf lv l)) by rw[worldBytes,ho]; exact if_pos rfl,worldOf_ints hf]
  exact⟨fun _=>rfl,fun _=>hs⟩
 |false =>
  rw[show worldBytes (worldOf lv l)=⟨#[]⟩ by rw[worldBytes,ho]; exact if_neg Aqc]
  refine⟨fun h=>?_,fun h=>by cases h⟩
  have h1:=(Uf hu).2.1
  rw[hp,←h] at h1
  exact absurd h1 Aqc 
theorem body_cells {l rest:List Int} {c q:Nat} (hr:rest=l.drop c):Enc.e (bodyOf (rest.drop (9*q))) = [.v (.int .i64 (l.getD (c+9*q+0) 0)),.v (.int .i64 (l.getD (c+9*q+1) 0)),.v (.int .i64 (l.getD (c+9*q+2) 0)),.v (.int .i64 (l.getD (c+9*q+3) 0)),.v (.int .i64 (l.getD (c+9*q+4) 0)),.v (.int .i64 (l.getD (c+9*q+5) 0)),.v (.int .i64 (l.getD (c+9*q+6) 0)),.v (.int .i64 (l.getD (c+9*q+7) 0)),.v (.int .i64 (l.getD (c+9*q+8) 0))]:=by
 have h:∀ j,(rest.drop (9*q)).getD j 0=l.getD (c+9*q+j) 0:=fun j=>by
  rw[hr,List.drop_drop,Gqf,Gqf,Gq7]
 show [T.v (.int .i64 ((rest.drop (9*q)).getD 0 0)),.v (.int .i64 ((rest.drop (9*q)).getD 1 0)),.v (.int .i64 ((rest.drop (9*q)).getD 2 0)),.v (.int .i64 ((rest.drop (9*q)).getD 3 0)),.v (.int .i64 ((rest.drop (9*q)).getD 4 0)),.v (.int .i64 ((rest.drop (9*q)).getD 5 0)),.v (.int .i64 ((rest.drop (9*q)).getD 6 0)),.v (.int .i64 ((rest.drop (9*q)).getD 7 0)),.v (.int .i64 ((rest.drop (9*q)).getD 8 0))]=_
 simp only[h]
theorem S_ReadWorld (lv:TLevel) (s:ByteArray) (hg:Enc.gd lv) (hL:lv.Rows.length≤1048576) (hs:s.size≤1099511627776):Co 191 [] [ag lv,astr s] (ownO (Enc.e (rwW (readWorld lv s)))) (.tu [.ag (ownV 0 (Enc.e (rwW (readWorld lv s)))),.c (bv (rwB (readWorld lv s)))]):=by
 have hui:=S_UnpackInts s 0 hs ⟨Aqa,Aqa⟩
 cases hu:unpackInts s 0 with
 |none =>
  rw[hu] at hui
  rw[Vu hu]
  refine Con.o func191 ntmps191 fun E=>?_;refine Wz [59,44] ?_;refine kc1 hui ?_;refine Wz [102,72,55,46,0,87,80,46,55,80,46,55,87,80,46,55,182,80,83,3,137,47,76] ?_
  exact Bzp
 | some r =>
  obtain⟨l,pos⟩:=r
  rw[hu] at hui
  obtain⟨_,hu1,hu2,hu3,hu4⟩:=Uf hu
  have hll:=Y7 l
  by_cases c1:(pos:Int)≠s.size
  ·have hb1:decide ((pos:Int)≠s.size)=true:=Gqb c1
   rw[Vt hu (fun hh=>by have:=hh.1; omega)]
   refine Con.o func191 ntmps191 fun E=>?_;refine Wz [59,44] ?_;refine kc1 hui ?_;refine Wz [102,72,14,21,38,2,22,5,0,87,80,46,55,80,46,55,87,80,46,55,182,80,83,3,137,47,76] ?_
   exact Bzp
  have hb1:decide ((pos:Int)≠s.size)=false:=Gqa c1
  by_cases c2:((els l).length:Int)<3
  ·have hb2:decide (((els l).length:Int)<3)=true:=Gqb c2
   rw[Vt hu (fun hh=>by have:=hh.2.1.1; omega)]
   refine Con.o func191 ntmps191 fun E=>?_;refine Wz [59,44] ?_;refine kc1 hui ?_;refine Wz [102,72,14,21,38,2,22,5,14,33,2,19,5,55,80,46,55,87,80,46,55,182,80,83,3,137,47,76] ?_
   exact Bzp
  have hb2:decide (((els l).length:Int)<3)=false:=Gqa c2
  have ha0:=Y5 (l:=l) (j:=0) Aqa 0 rfl
  have ha1:=Y5 (l:=l) (j:=1) Aqa 1 rfl
  have ha2:=Y5 (l:=l) (j:=2) Aqa 2 rfl
  obtain⟨l2,hl2⟩:∃ l2,l.getD 2 0=l2:=⟨_,rfl⟩
  rw[hl2] at ha2
  have hbt:=Yg l2 1 4
  by_cases hin:inR l2 1 4=true
  case neg =>
   have hf:inR l2 1 4=false:=by simpa using hin
   rw[hf] at hbt
   rw[Vt hu (fun hh=>by have:=hh.2.1.2.1; rw[hl2,←Zm] at this; exact hin this)]
   refine Con.o func191 ntmps191 fun E=>?_;refine Wz [59,44] ?_;refine kc1 hui ?_;refine Wz [102,72,14,21,38,2,22,5,14,33,2,19,5,14,106,2,146,2] ?_;refine kc0 hbt ?_;refine Wz [2,6,5,55,87,80,46,55,182,80,83,3,137,47,76] ?_
   exact Bzp
  rw[hin] at hbt
  have hin2:=Zm.1 hin
  obtain⟨p,rfl⟩:∃ p:Nat,l2=p:=⟨l2.toNat,Aqa⟩
  by_cases c4:((els l).length:Int)<3+(p:Int)
  ·have hb4:decide (((els l).length:Int)<3+(p:Int))=true:=Gqb c4
   rw[Vt hu (fun hh=>by have:=hh.2.1.2.2.1; omega)]
   refine Con.o func191 ntmps191 fun E=>?_;refine Wz [59,44] ?_;refine kc1 hui ?_;refine Wz [102,72,14,21,38,2,22,5,14,33,2,19,5,14,106,2,146,2] ?_;refine kc0 hbt ?_;refine Wz [2,6,5,14,33,2,21,106,2,146,2,13,2,19,5,55,182,80,83,3,137,47,76] ?_
   exact Bzp
  have hb4:decide (((els l).length:Int)<3+(p:Int))=false:=Gqa c4
  by_cases c5:(((els l).length:Int)-3-(p:Int))%9≠0
  ·have hb5:decide ((((els l).length:Int)-3-(p:Int))%9≠0)=true:=Gqb c5
   rw[Vt hu (fun hh=>by have:=hh.2.1.2.2.2; rw[hl2] at this; omega)]
   refine Con.o func191 ntmps191 fun E=>?_;refine Wz [59,44] ?_;refine kc1 hui ?_;refine Wz [102,72,14,21,38,2,22,5,14,33,2,19,5,14,106,2,146,2] ?_;refine kc0 hbt ?_;refine Wz [2,6,5,14,33,2,21,106,2,146,2,13,2,19,5,14,33,2,29,2,21,106,2,146,2,29,2,167,2,22,5,32,3,137,47,76] ?_
   exact Bzp
  have hb5:decide ((((els l).length:Int)-3-(p:Int))%9≠0)=false:=Gqa c5
  obtain⟨rest,hrest⟩:∃ rest,rest=l.drop (3+p):=⟨_,rfl⟩
  have hrl:rest.length=l.length-(3+p):=by rw[hrest]; simp
  obtain⟨nb,hn⟩:∃ nb,rest.length=9*nb:=⟨rest.length/9,Aqa⟩
  have hform:formOk l:=⟨Aqa,by rw[hl2]; exact hin2,by rw[hl2]; omega,by rw[hl2]; omega⟩
  have hwo:worldOf lv l=⟨lv,l.getD 0 0,l.getD 1 0,(l.drop 3).take p,bodiesOf rest nb⟩:=by
   rw[worldOf,hl2,Int.toNat_natCast,←hrest,show (l.length-3-p)/9=nb by omega]
  have hwg:=worldOf_gd (lv:=lv) hg hu4 Aqa 
  rw[hwo] at hwg
  have hwb:=world_bytes_eq (lv:=lv) hu Aqa hform
  rw[hwo] at hwb
  have hpl:((((els l).take ((3:Int)+(p:Int)).toNat).drop (3:Int).toNat)).length=p:=by
   rw[Gq9,Gq4,hll]; omega
  have hsc:els ((l.drop 3).take p)=(((els l).take ((3:Int)+(p:Int)).toNat).drop (3:Int).toNat):=by
   rw[show ((3:Int)+(p:Int)).toNat=3+p by omega,show (3:Int).toNat=3 from rfl,List.drop_take,←els_dropE,←Zd,show 3+p-3=p by omega]
  refine Con.o func191 ntmps191 fun E=>?_;refine Wz [59,44] ?_;refine kc1 hui ?_;refine Wz [102,72,14,21,38,2,22,5,14,33,2,19,5,14,106,2,146,2] ?_;refine kc0 hbt ?_;refine Wz [2,6,5,14,33,2,21,106,2,146,2,13,2,19,5,14,33,2,29,2,21,106,2,146,2,29,2,167,2,22,5,97,106,146,49,4] ?_;refine Xi [[],[0],[],[2],[2,3],[],[5],[5,6],[],[],[],[9,10],[0,1,8,9,10,11],(u9 13),[],(u9 15)] (tt [[],[63,1],[],[65,1],[65,2],[],[68,1],[68,2],[],[],[],[72,2],[63,2,71,4],[63,13],[],[10,1,63,14]]) (tt [[10,1,65,10],[10,1,65,10],[10,1,63,2,68,8],[10,1,63,2,68,8],[10,1,63,2,68,8],[10,1,63,5,71,5],[10,1,63,5,71,5],[10,1,63,5,71,5],[10,1,63,8,72,3],[10,1,63,9,73,1],[10,1,63,10],[10,1,63,9],[10,1,65,6],[10,1],[63,14],[]]) J (Uq (Qu J J J J J J) J ?_);refine Uq (Kr J J (S_copyLevel lv hg hL) J J J) J ?_;refine Wz [17,129,163,17,129,163,232,35] ?_;refine Uq (q_partr J J J J J J J Aqa) J ?_;refine Uq (q_appz J J J J J J (plain_dt _ _ _) (k_dt _ _ _) Aqa Aqa Aqa) J ?_;refine Wz [257,221,12] ?_;refine AL.weak (st':=(⟨_,[(1,S s),(4,Aqf 1),(6,Aqg 2),(9,I (3+(p:Int))),(10,Aqf 4),(76,.o (.ag [Aqk 3,jv (l.getD 0 0),jv (l.getD 1 0),Aqk 5,nilV]))],[.box (Aqi lv),.box [nilV,jv 0,jv 0,nilV,nilV],.row 1 (els l),.row 1 (els lv.Rows),.box [nilV,jv 0,jv 0,nilV,nilV],.row 1 (els ((l.drop 3).take p))]⟩:St)) (Yk [0,1,2,3,6,5] Aqc J (row6 hsc) (.c J (.c J (.c J (.c J (.c J (.c J (.nil)))))))) ?_;refine AL.weak (Wk.refl _) ?_;refine Wz [39,41,8,34] ?_
  refine AWP.pre ?_ (Wk.nilbox (p:=4) (i:=4) 9 J J)
  skip
  refine Xj (fun m st=>∃ q:Nat,q+m=nb∧(True)∧st=(⟨_,[(1,S s),(4,Aqf 1),(6,Aqg 2),(10,Aqf 4),(11,I ((3+p+9*q:Nat):Int))],[.box (Aqi lv),.box [nilV,jv 0,jv 0,nilV,nilV],.row 1 (els l),.row 1 (els lv.Rows),.box [Aqk 3,jv (l.getD 0 0),jv (l.getD 1 0),Aqk 5,Aqk 6],.row 1 (els ((l.drop 3).take p)),.row 9 (els (bodiesOf rest q))]⟩:St)) (nb) ⟨(fun q:Nat=>(⟨_,[(1,S s),(4,Aqf 1),(6,Aqg 2),(10,Aqf 4),(11,I ((3+p+9*q:Nat):Int))],[.box (Aqi lv),.box [nilV,jv 0,jv 0,nilV,nilV],.row 1 (els l),.row 1 (els lv.Rows),.box [Aqk 3,jv (l.getD 0 0),jv (l.getD 1 0),Aqk 5,Aqk 6],.row 1 (els ((l.drop 3).take p)),.row 9 (els (bodiesOf rest q))]⟩:St)) 0,⟨0,Aqa,trivial,J⟩,Yk [0,1,2,3,4,5,6] Aqc J Aqb (.c J (.c J (.c J (.c J (.cons (X0 Aqa) (.nil))))))⟩ ?_
  rintro m_A _ ⟨q,hk_A,hp_A,rfl⟩
  have hlbk:=Y7 (bodiesOf rest q)
  have hlbk2:=Yu rest q
  by_cases h4:((3+p+9*q:Nat):Int)<(els l).length
  ·have hb6:decide (((3+p+9*q:Nat):Int)<(els l).length)=true:=Gqb h4
   have hc0:=Y5 (l:=l) (j:=3+p+9*q+0) Aqa (((3+p+9*q:Nat):Int)) Aqa 
   have hc1:=Y5 (l:=l) (j:=3+p+9*q+1) Aqa (((3+p+9*q:Nat):Int)+1) Aqa 
   have hc2:=Y5 (l:=l) (j:=3+p+9*q+2) Aqa (((3+p+9*q:Nat):Int)+2) Aqa 
   have hc3:=Y5 (l:=l) (j:=3+p+9*q+3) Aqa (((3+p+9*q:Nat):Int)+3) Aqa 
   have hc4:=Y5 (l:=l) (j:=3+p+9*q+4) Aqa (((3+p+9*q:Nat):Int)+4) Aqa 
   have hc5:=Y5 (l:=l) (j:=3+p+9*q+5) Aqa (((3+p+9*q:Nat):Int)+5) Aqa 
   have hc6:=Y5 (l:=l) (j:=3+p+9*q+6) Aqa (((3+p+9*q:Nat):Int)+6) Aqa 
   have hc7:=Y5 (l:=l) (j:=3+p+9*q+7) Aqa (((3+p+9*q:Nat):Int)+7) Aqa 
   have hc8:=Y5 (l:=l) (j:=3+p+9*q+8) Aqa (((3+p+9*q:Nat):Int)+8) Aqa 
   have hbc:=body_cells (q:=q) hrest
   have hq24:(els (bodiesOf rest q)).length≤1099511627776:=Aqa
   have hlt:((3+p+9*q:Nat):Int)+9≤(els l).length:=Aqa
   have hidx:(3+p+9*q:Nat)≤1099511627776:=Aqa
   have hqnb:q<nb:=Aqa
   clear hwg hwo hwb hform hsc hbt hin2 hin ha0 ha1 ha2 hl2 hb1 hb2 hb4 hb5 c1 c2 c4 c5 hu1 hu2 hu3 hu4 hui hpl hrl hn hll hlbk hlbk2 hp_A
   refine Wz [15,33,77] ?_;refine Xi (tt [[],[0,1],[],[],[2,2],[2,3],[],[],[7,1],[6,3],[6,4],[],[],[12,1],[11,3],[11,4],[],[],[17,1],[16,3],[16,4],[],[],[22,1],[21,3],[21,4],[],[],[27,1],[26,3],[26,4],[],[],[32,1],[31,3],[31,4],[],[],[37,1],[36,3],[36,4],[],[],[42,1],[41,3],[41,4],[2,44],[2,45],[0,48],[0,49],[0,50]]) (tt [[],[84,1],[],[],[86,2],[86,3],[],[],[91,1],[90,3],[90,4],[],[],[96,1],[95,3],[95,4],[],[],[101,1],[100,3],[100,4],[],[],[106,1],[105,3],[105,4],[],[],[111,1],[110,3],[110,4],[],[],[116,1],[115,3],[115,4],[],[],[121,1],[120,3],[120,4],[],[],[126,1],[125,3],[125,4],[86,44],[86,45],[84,48],[84,49],[84,50]]) (tt [[86,46],[86,46],[84,2,87,1,90,40],[84,3,90,40],[84,2,90,40],[84,2,90,40],[84,6,91,2,95,35],[84,7,95,35],[84,7,95,35],[84,6,95,35],[84,6,95,35],[84,11,96,2,100,30],[84,12,100,30],[84,12,100,30],[84,11,100,30],[84,11,100,30],[84,16,101,2,105,25],[84,17,105,25],[84,17,105,25],[84,16,105,25],[84,16,105,25],[84,21,106,2,110,20],[84,22,110,20],[84,22,110,20],[84,21,110,20],[84,21,110,20],[84,26,111,2,115,15],[84,27,115,15],[84,27,115,15],[84,26,115,15],[84,26,115,15],[84,31,116,2,120,10],[84,32,120,10],[84,32,120,10],[84,31,120,10],[84,31,120,10],[84,36,121,2,125,5],[84,37,125,5],[84,37,125,5],[84,36,125,5],[84,36,125,5],[84,41,126,2],[84,42],[84,42],[84,41],[84,41],[84,2],[84,2],[],[],[]]) J ?_;refine Wz [37,35] ?_;refine Uq (Q3 J J J J J Aqa Aqe) J ?_;refine Wz [163,35,187,129,163,35,187,129,163,35,187,129,163,35,187,129,163,35,187,129,163,35,187,129,163,35,187,129,163,35,187] ?_;refine Uq (Q3 J J J J J Aqa Aqe) J (Uq (Q7 J J J J Aqe J) J ?_);refine DR.s (x := .o (.ag [jv (l.getD (3+p+9*q+0) 0),jv (l.getD (3+p+9*q+1) 0),jv (l.getD (3+p+9*q+2) 0),jv (l.getD (3+p+9*q+3) 0),jv (l.getD (3+p+9*q+4) 0),jv (l.getD (3+p+9*q+5) 0),jv (l.getD (3+p+9*q+6) 0),jv (l.getD (3+p+9*q+7) 0),jv (l.getD (3+p+9*q+8) 0)])) (Ko J J J J Aqb) J J ?_;refine Wz [153,12] ?_;refine AL.kp [1,0,4,2,10,5,11,0] [(6,Aqg 2),(85,Aqg 6),(131,.o (.c (.sb 7 1 9)))] 8 [(0,.box (Aqi lv)),(1,.box [nilV,jv 0,jv 0,nilV,nilV]),(4,.box [Aqk 3,jv (l.getD 0 0),jv (l.getD 1 0),Aqk 5,Aqk 6]),(7,.box [jv (l.getD (3+p+9*q+0) 0),jv (l.getD (3+p+9*q+1) 0),jv (l.getD (3+p+9*q+2) 0),jv (l.getD (3+p+9*q+3) 0),jv (l.getD (3+p+9*q+4) 0),jv (l.getD (3+p+9*q+5) 0),jv (l.getD (3+p+9*q+6) 0),jv (l.getD (3+p+9*q+7) 0),jv (l.getD (3+p+9*q+8) 0)])] ?_;refine Wz [122,121,130] ?_
   exact⟨nb-(q+1),Aqa,(fun q:Nat=>(⟨_,[(1,S s),(4,Aqf 1),(6,Aqg 2),(10,Aqf 4),(11,I ((3+p+9*q:Nat):Int))],[.box (Aqi lv),.box [nilV,jv 0,jv 0,nilV,nilV],.row 1 (els l),.row 1 (els lv.Rows),.box [Aqk 3,jv (l.getD 0 0),jv (l.getD 1 0),Aqk 5,Aqk 6],.row 1 (els ((l.drop 3).take p)),.row 9 (els (bodiesOf rest q))]⟩:St)) (q+1),⟨q+1,Aqa,trivial,J⟩,Yk [0,1,2,3,4,5,6] Aqc J (row7 (by rw[bodiesOf_snoc,Y3,show els [bodyOf (rest.drop (9*q))] = [Enc.e (bodyOf (rest.drop (9*q)))] from J,hbc]; rfl)) (.c J (.c J (.c J (.c J (.cons (X0 Aqa) (.nil))))))⟩
  ·have hb6:decide (((3+p+9*q:Nat):Int)<(els l).length)=false:=Gqa h4
   have hqn:q=nb:=Aqa
   subst hqn
   have hwk:=Ye ⟨lv,l.getD 0 0,l.getD 1 0,(l.drop 3).take p,bodiesOf rest q⟩ hwg
   cases ho:worldOk ⟨lv,l.getD 0 0,l.getD 1 0,(l.drop 3).take p,bodiesOf rest q⟩ with
   |false =>
    have hne:decide (worldBytes ⟨lv,l.getD 0 0,l.getD 1 0,(l.drop 3).take p,bodiesOf rest q⟩≠s)=true:=Gqb fun h=>by rw[hwb,ho] at h; cases h
    rw[Vt hu (fun hh=>by have h9:=hh.2.2; rw[hwo,ho] at h9; cases h9)]
    refine Wz [15,33,92,30,4,7] ?_;refine kc0 hwk ?_;refine Wz [0,240,32,3,137,47,76] ?_
    exact Xn J J J J J (Yi [1,1,9] [7,8,9] J J Aqc J J J)
   |true =>
    have hne:decide (worldBytes ⟨lv,l.getD 0 0,l.getD 1 0,(l.drop 3).take p,bodiesOf rest q⟩≠s)=false:=Gqa fun h=>h (hwb.2 ho)
    rw[Vv hu ⟨Aqa,hform,by rw[hwo]; exact ho⟩,hwo]
    refine Wz [15,33,92,30,4,7] ?_;refine kc0 hwk ?_;refine Wz [0,240,28,7,47,36] ?_
    exact Xn J J J J J (Yh [3,5,6] Aqc J J J)
end
section
open Go.RowKit

def keyText (s:ByteArray) (keys:List ByteArray):Nat→Option ByteArray
 |0=>some s
 | n+1=>match keyText s keys n with
  |none=>none
  |some t=>match keys[n]? with
   |none=>none
   |some d=>applyD t d
theorem keyText_none {s:ByteArray} {keys:List ByteArray} {i:Nat} (h:keyText s keys i=none):∀ {n:Nat},i≤n→keyText s keys n=none
 |0,hn=>by have:i=0:=Aqa; subst this; exact h
 |n+1,hn=>by
  by_cases e:i=n+1
  ·subst e; exact h
  ·rw[keyText,keyText_none h Aqa]
theorem keyText_step {s t d:ByteArray} {keys:List ByteArray} {n:Nat} (h:keyText s keys n=some t) (hk:keys[n]? = some d):keyText s keys (n+1)=applyD t d:=by rw[keyText,h]; simp only[hk]
theorem keyText_len {s:ByteArray} {keys:List ByteArray} (hs:s.size≤20000):∀ {n:Nat} {t:ByteArray},keyText s keys n=some t→t.size≤20000
 |0,t,h=>by cases h; exact hs
 | n+1,t,h=>by
  rw[keyText] at h
  split at h
  ·cases h
  ·split at h
   ·cases h
   ·exact applyD_len h
structure ROk (r:TReplay):Prop where
 l:levelOk r.Level=true
 p:1≤r.Players∧r.Players≤4
 s:inR r.Seed 0 65535=true
 e:1≤r.Every∧r.Every≤100
 k:r.Keys.length≤400
theorem Yz (w:TWorld):(worldBytes w).size≤20000:=by
 unfold worldBytes
 split
 ·rename_i h
  have hw:=Uj h
  have h1:=packInts_size (worldInts w)
  have h2:=flat_length w.Bodies
  have h3:(worldInts w).length=3+w.Scores.length+9*w.Bodies.length:=by
   simp only[worldInts,Gql,Gqw,List.length_nil]; omega
  have h4:=hw.2.2.2.1
  have h5:=hw.2.2.2.2.2.1
  omega
 ·decide
section
variable {r:TReplay} {n:Nat} {s:ByteArray} {w:TWorld}
variable (h:keyText (worldBytes (newWorld r.Level r.Players.toNat r.Seed)) r.Keys n=some s)
include h
end
end
section
open Go.RowKit

def inAt (t:Nat) (x:TTrack):Int:=x.Inputs.getD t 0
def rowAt (l:List TTrack) (t:Nat):List Int:=l.map (inAt t)
theorem all_at {l:List TTrack} (h:tracksOk l=true) {k:Nat} (hk:k<l.length):trackOk l[k]=true:=by
 unfold tracksOk at h
 rw[Gqh] at h
 exact Gqp.1 h.2 _ (Gqe hk)
end
section
open Go.RowKit

structure RunIn (W:Nat→TWorld) (l:List TTrack) (f:TFault) (t:Nat):Prop where
 wi:∀ k,k≤t→WorIn (W k)
 st:∀ k,k<t→W (k+1)=stepF (W k) (rowAt l k) f
 sl_:∀ k,k<t→(stepW (W k) (rowAt l k)).Scores.length=(W k).Scores.length
 ss:∀ k,k<t→∀ s∈(stepW (W k) (rowAt l k)).Scores,0≤s∧s≤1000000
 lv:∀ k,k<t→(stepW (W k) (rowAt l k)).Level=(W k).Level
 gr:∀ k,k<t→Enc.gd (rowAt l k)
 kn:∀ k,k<t→∀ x∈l,k<x.Inputs.length
end
section
open Tryz
open Go.RowKit

theorem faultS_len {f:TFault} {w:TWorld}:(faultS f w).Scores.length=w.Scores.length:=Gqu
theorem fault_fit {w:TWorld} {f:TFault} (hw:WorIn w) (ho:worldOk w=true) (hf:0≤f.Add):worldOk (faultS f w)=true∧WorIn (faultS f w):=by
 have hs:=V5 ho
 obtain⟨g1,g2,g3,g4,g5,g6,g7⟩:=Uj ho
 have hl:=faultS_len (f:=f) (w:=w)
 have hg0:0≤w.Scores.getD f.Player.toNat 0:=by
  rw[Gqf]
  cases hx:w.Scores[f.Player.toNat]? with
  |none=>simp
  |some x=>exact (hs x (Gqn hx)).1
 have hm:∀ x∈(faultS f w).Scores,0≤x∧x≤1000000:=fun x hx=>by
  rcases Gxv hx with h1 | h1
  ·exact hs x h1
  ·rw[h1]; omega
 refine⟨worldOk_T ⟨g1,g2,g3,by rw[hl]; exact g4,Gqp.2 fun x hx=>Zm.2 (hm x hx),by rw[hl]; exact g6,by rw[hl]; exact g7⟩,?_⟩
 obtain⟨⟨a1,a2,a3,a4,a5⟩,b1,b2,b3⟩:=hw
 exact⟨⟨a1,a2,a3,⟨by rw[hl]; exact a4.1,fun x hx=>by have:=hm x hx; exact⟨Aqa,Aqa⟩⟩,a5⟩,b1,by rw[hl]; exact b2,b3⟩
structure Fit (n:Nat) (l:TLevel) (w:TWorld):Prop where
 wi:WorIn w
 ok:worldOk w=true
 sn:w.Scores.length=n
 lv:w.Level=l
theorem Fit.step {n:Nat} {l:TLevel} {w:TWorld} (h:Fit n l w) (row:List Int):Fit n l (stepW w row) :=
 ⟨step_in h.wi,stepW_ok h.wi.gd h.ok,(stepW_fits h.wi.gd).2.1.trans h.sn,by rw[stepW_level]; exact h.lv⟩
theorem Fit.stepF {n:Nat} {l:TLevel} {w:TWorld} (h:Fit n l w) (row:List Int) (f:TFault):Fit n l (Go.Proofs.YtalaljeokcpfnaaGreat.stepF w row f):=by
 have h1:=h.step row
 unfold Go.Proofs.YtalaljeokcpfnaaGreat.stepF
 split
 ·rename_i hd
  obtain⟨k1,_,_⟩:=hd
  unfold faultOk at k1
  simp only[Gqh,Zm] at k1
  have h2:=fault_fit h1.wi h1.ok (f:=f) Aqa 
  exact⟨h2.2,h2.1,faultS_len.trans h1.sn,h1.lv⟩
 ·exact h1
theorem least_le {l:List TTrack}:∀ m k,k<m→leastK l m≤lenAt l k
 |0,k,h=>by omega
 |m+1,k,h=>by
  rw[leastK]
  rcases Nat.eq_or_lt_of_le (Nat.le_of_lt_succ h) with e | e
  ·subst e; exact Nat.min_le_right _ _
  ·exact Gxo (Nat.min_le_left _ _) (least_le m k e)
theorem known_all {l:List TTrack} {k:Nat} (h:k<knownTicks l):∀ x∈l,k<x.Inputs.length:=fun x hx=>by
 unfold knownTicks at h
 split at h
 ·obtain⟨i,hi,rfl⟩:=List.getElem_of_mem hx
  have h1:=least_le (l:=l) l.length i hi
  rw[Zn hi] at h1
  omega
 ·omega
theorem S_FaultyStep (w:TWorld) (row:List Int) (f:TFault) (hg:Enc.gd w) (gr:Enc.gd row) (gf:Enc.gd f) (h1:w.Level.Rows.length≤1048576) (h2:w.Scores.length≤1048576) (h3:w.Bodies.length≤1048576) (hl:(stepW w row).Scores.length=w.Scores.length) (hs:∀ x∈(stepW w row).Scores,0≤x∧x≤1000000) (hlv:(stepW w row).Level=w.Level):Co 143 [] [ag w,al row,ag f] (wR (stepF w row f) []) (.o (.ag [Aqk 0,jn (stepF w row f).Tick,jn (stepF w row f).Seed,Aqk 1,Aqk 2])):=by
 have cs:=S_StepWorld w row hg gr h1 h2 h3
 have hls:=Y7 w.Scores
 have cf:=S_FaultOk f (els w.Scores).length Aqa Aqa 
 rw[←hlv] at cs
 rw[show faultOk f ((els w.Scores).length:Int)=faultOk f w.Scores.length by rw[hls]] at cf
 obtain⟨_,gt,_,_,_⟩:=hg
 obtain⟨ft,fp,fa⟩:=gf
 unfold stepF
 obtain⟨v,hv⟩:∃ v,stepW w row=v:=⟨_,rfl⟩
 rw[hv] at cs hl hs ⊢
 by_cases hd:faultD f w v
 case neg =>
  rw[if_neg hd]
  by_cases k1:faultOk f w.Scores.length=true
  case neg =>
   have k1:faultOk f w.Scores.length=false:=by simpa using k1
   rw[k1] at cf
   refine Con.o func143 ntmps143 fun E=>?_;refine Wz [43,131,82,1,7,0,250,91,4,7,105] ?_;refine kc0 cf ?_;refine Wz [55,80,5,55,80,5,28,7,39,73] ?_
   exact Bzr
  rw[k1] at cf
  by_cases k2:v.Tick=f.Tick
  case neg =>
   have k2':decide (v.Tick=f.Tick)=false:=Gqa k2
   refine Con.o func143 ntmps143 fun E=>?_;refine Wz [43,131,82,1,7,0,250,91,4,7,105] ?_;refine kc0 cf ?_;refine Wz [71,112,20,46,55,80,5,28,7,39,73] ?_
   exact Bzr
  have k2':decide (v.Tick=f.Tick)=true:=Gqb k2
  have k3:decide (w.Tick<f.Tick)=false:=Gqa (fun h=>hd ⟨k1,k2,by rw[k2]; exact h⟩)
  refine Con.o func143 ntmps143 fun E=>?_;refine Wz [43,131,82,1,7,0,250,91,4,7,105] ?_;refine kc0 cf ?_;refine Wz [71,112,20,46,71,112,111,46,28,7,39,73] ?_
  exact Bzr
 rw[if_pos hd]
 obtain⟨k1,k2,k3⟩:=hd
 have hfo:=k1
 unfold faultOk at hfo
 simp only[Gqh,decide_eq_true_eq,Zm] at hfo
 obtain⟨⟨⟨_,p0⟩,p1⟩,a1⟩:=hfo
 obtain⟨q,hq⟩:∃ q:Nat,f.Player=q:=⟨f.Player.toNat,Aqa⟩
 obtain⟨s,hsq⟩:=Ua (xs:=v.Scores) (i:=q) Aqa 
 have he:=Za hsq
 have hlv2:=Y7 v.Scores
 have hs0:=hs s (Gqn hsq)
 have hS:(faultS f v).Scores=v.Scores.set q (min (s+f.Add) 1000000):=by
  unfold faultS
  rw[hq]
  simp only[Int.toNat_natCast,Gqf,hsq,Option.getD_some]
 have hE:els (faultS f v).Scores=(els v.Scores).set (f.Player).toNat (splice (Enc.e s) 0 [.v (.int .i64 (min (s+f.Add) 1000000))]):=by
  rw[hS,Y9,hq]; rfl
 have hP:wR (faultS f v) [] = [.row 1 (els v.Level.Rows),.row 1 ((els v.Scores).set (f.Player).toNat (splice (Enc.e s) 0 [.v (.int .i64 (min (s+f.Add) 1000000))])),.row 9 (els v.Bodies)]:=by rw[←hE]; rfl
 rw[hP]
 rw[k1] at cf
 have k2':decide (v.Tick=f.Tick)=true:=Gqb k2
 have k3:decide (w.Tick<f.Tick)=true:=Gqb Aqa 
 refine Con.o func143 ntmps143 fun E=>?_;refine Wz [43,131,82,1,7,0,250,91,4,7,105] ?_;refine kc0 cf ?_;refine Wz [71,112,20,46,71,112,111,83] ?_;refine AWP.kp [3,1,5,2,6,3,7,7] [] 7 [(0,.box (wD w)),(1,.box [jn f.Tick,jn f.Player,jn f.Add]),(2,.box [nv,jn 0,jn 0,nv,nv]),(6,.box [Aqk 3,jn v.Tick,jn v.Seed,Aqk 4,Aqk 5])] ?_
 rw[←hq] at he
 refine Xi u8_75 (tt [[],[30,1],[],[32,1],[],[34,1],[],[36,1],[34,4],[34,5],[],[40,1],[34,8],[34,9],[30,14],[30,15]]) (tt [[32,12],[32,12],[30,2,34,10],[30,2,34,10],[30,4,36,2,40,2],[30,4,36,2,40,2],[30,6,40,2],[30,6,40,2],[30,4,40,2],[30,4,40,2],[30,10],[30,10],[30,4],[30,4],[],[]]) J ?_;refine Wz [37,37,37,37,129,163,37,187] ?_;refine Uq (q_min J J J J) J ?_;refine Wz [129,12,170,1,7,39,73] ?_
 exact Bzr
end
end Go.Proofs.YtalaljeokcpfnaaGreat
