/-
  Rules, data and contracts of functions: part 29 of the proof.
  Conditions: those that each theorem names.
-/
import Derived.Test.YtoecjaohdnoenaaGreatDDJoinRowk26
import Derived.Test.YtoecjaohdnoenaaGreatDDJoinRowk27
set_option linter.unusedSimpArgs false
set_option linter.unusedVariables false
set_option maxRecDepth 8000
set_option maxHeartbeats 8000000
namespace Go.Proofs.YtoecjaohdnoenaaGreat
section
open Go.RowKit

section
variable {P:Program} {E:Env} {ops:Array Oper} {o:Oper} {n:Nat} {ts:List (Nat×V)} {obs:List Ob} {rest:List Oper} {Q:Exit→St→Prop} {t:TypeId} {y z:Operand} {p kk i j:Nat} {es:List (List T)} {e:List T}
end
end
section
open Go.RowKit

theorem I_ReadWorld (lv:TLevel) (s:ByteArray) (hg:Enc.gd lv) (hL:lv.Rows.length≤1048576) (hs:s.size≤1099511627776):Con Tryz.prog 221 [] [ag lv,astr s] (ownO (Enc.e (rwW (readWorld lv s)))) (.tu [.ag (ownV 0 (Enc.e (rwW (readWorld lv s)))),.c (bv (rwB (readWorld lv s)))]):=by
 have hui:=I_UnpackInts s 0 hs ⟨by omega,by omega⟩
 cases hu:unpackInts s 0 with
 |none =>
  rw[hu] at hui
  rw[Kb hu]
  refine Con.of Tryz.func221 J Tryz.ntmps221 J (fun E => ?_)
  refine Wz [85,19] ?_;refine M1 (Zm J J (hui) J J J) J J ?_;refine Wz [134,135,155,60,46,3,0,91,28,0,118,104,28,17,1,144,77,72,31] ?_
  exact Xj J J J J J (Xx [1,1,9] [3,4,5] J J (by decide) J J J)
 | some r =>
  obtain⟨l,pos⟩:=r
  rw[hu] at hui
  obtain⟨_,hu1,hu2,hu3,hu4⟩:=Kn hu
  have hll:=Yf l
  refine Con.of Tryz.func221 J Tryz.ntmps221 J (fun E => ?_)
  refine Wz [85,19] ?_;refine M1 (Zm J J (hui) J J J) J J ?_;refine Wz [134,135,155,60,46,3,22,26,126,2,160,15,0,95] ?_;refine zx (Qt.grdF J J J (.hit .stop) (fun hgrd=>Zw J J J J)) J ?_;refine zx (Qt.grdF J J J (.hit (.hit .stop)) (fun hgrd=>Z1 J J J J)) J ?_;refine Wz [43] ?_
  refine Q9 J (fun h => ?_) (fun h => ?_)
  ·simp only[Gqo,decide_eq_true_eq] at h
   rw[Ka hu (fun hh=>by have:=hh.2.1.1; omega)]
   refine Wz [1,144,77,72,31] ?_
   exact Xj J J J J J (Xx [1,1,9] [3,4,5] J J (by decide) J J J)
  simp only[Gql,decide_eq_false_iff_not] at h
  have ha0:=Yd (l:=l) (j:=0) (by omega) 0 rfl
  have ha1:=Yd (l:=l) (j:=1) (by omega) 1 rfl
  have ha2:=Yd (l:=l) (j:=2) (by omega) 2 rfl
  obtain⟨l2,hl2⟩:∃ l2,l.getD 2 0=l2:=⟨_,rfl⟩
  rw[hl2] at ha2
  have hl264:I64 l2:=by
   rw[←hl2,Gqf,Gqg (by omega)]
   exact hu4 _ (Gqd _)
  have hl21:=hl264.1
  have hl22:=hl264.2
  have hbt:=Xm l2 1 4
  by_cases hin:inR l2 1 4=true
  case neg =>
   have hf:inR l2 1 4=false:=by simpa using hin
   rw[hf] at hbt
   rw[Ka hu (fun hh=>by have:=hh.2.1.2.1; rw[hl2,←Yu] at this; exact hin this)]
   refine Wz [64,9,178,179,46] ?_;refine zx (Qj J J (hbt) J) J ?_;refine Wz [3,0,91,104,28,17,1,144,77,72,31] ?_
   exact Xj J J J J J (Xx [1,1,9] [3,4,5] J J (by decide) J J J)
  rw[hin] at hbt
  have hin2:=Yu.1 hin
  obtain⟨p,rfl⟩:∃ p:Nat,l2=p:=⟨l2.toNat,by omega⟩
  refine Wz [64,9,178,179,46] ?_;refine zx (Qj J J (hbt) J) J ?_;refine Wz [3,22,62,2,26,8,2,153,15,4] ?_
  refine Q9 J (fun h2 => ?_) (fun h2 => ?_)
  ·have h2:=Gqc h2
   rw[Ka hu (fun hh=>by have:=hh.2.1.2.2.1; omega)]
   refine Wz [1,144,77,72,31] ?_
   exact Xj J J J J J (Xx [1,1,9] [3,4,5] J J (by decide) J J J)
  have h2:=Gqe h2
  refine Wz [242] ?_;refine Xe [[],[0],[],[2],[2,3],[],[5],[5,6],(u9 8),[],(u9 10)] [[],[48],[],[50],[50,51],[],[53],[53,54],[48,49,50,51,52,53,54,55],[],[10,48,49,50,51,52,53,54,55,56]] [[10,50,51,52,53,54,55],[10,50,51,52,53,54,55],[10,48,49,53,54,55],[10,48,49,53,54,55],[10,48,49,53,54,55],[10,48,49,50,51,52],[10,48,49,50,51,52],[10,48,49,50,51,52],[10],[48,49,50,51,52,53,54,55,56],[]] J (DR.s (Qu J J J J J J) J J ?_);refine DR.s (Zm J J (I_copyLevel lv hg hL) J J J) J J ?_;refine Wz [11,187,180,11,187,180,245,216,12] ?_;refine AL.weak (st':=(⟨_,[(4,.o (.c (.ptr 1 0))),(6,.o (.c (.ref 2))),(9,I p),(10,.o (.c (.ptr 4 0))),(56,.o (.ag [.ref 3,jv (l.getD 0 0),jv (l.getD 1 0),nilV,nilV]))],[.box ((Enc.e lv).map (V1.rd [])),.box [nilV,jv 0,jv 0,nilV,nilV],.row 1 (els l),.row 1 (els lv.Rows),.box [nilV,jv 0,jv 0,nilV,nilV]]⟩:St)) (Xy [0,1,2,3,4] (by kernel_rfl)) ?_
  have hpl:(p:Int)≤4:=hin2.2
  have hcl:=Clone_ints ((l.drop 3).take p) (by simp; omega) (by simp; omega)
  rw[show al ((l.drop 3).take p) = .c (.rd [] (.sl 1 (((els l).take ((3:Int)+(p:Int)).toNat).drop (3:Int).toNat))) by
   rw[show ((3:Int)+(p:Int)).toNat=3+p by omega,show (3:Int).toNat=3 from rfl,List.drop_take,←els_dropE,←els_takeE2,show 3+p-3=p by omega]; rfl] at hcl
  obtain⟨rest,hrest⟩:∃ rest,rest=l.drop (3+p):=⟨_,rfl⟩
  have hre:(els l).drop ((3:Int)+(p:Int)).toNat=els rest:=by rw[show ((3:Int)+(p:Int)).toNat=3+p by omega,←els_dropE,hrest]
  have hrl:rest.length=l.length-(3+p):=by rw[hrest]; simp
  have hrl2:=Yf rest
  have hdl:((els l).drop ((3:Int)+(p:Int)).toNat).length=l.length-(3+p):=by rw[List.length_drop,hll]; congr 1
  refine Wz [30,7,8] ?_;refine zx (q_partr J J J J J J J (by omega)) J ?_;refine M1 (Zm J J (hcl) J J J) J J ?_;refine Wz [86,7,8] ?_;refine zx (q_partr1 J J J J J J (by omega)) J ?_;refine Wz [46,14,211,160,0,95] ?_;refine zx (Qt.grdF J J J (.hit .stop) (fun hgrd=>Zv J J J)) J ?_;refine zx (Qt.grdF J J J (.hit (.hit .stop)) (fun hgrd=>q_quo J J J J (by omega))) J ?_;refine Wz [240,43] ?_
  refine Q9 J (fun h3 => ?_) (fun h3 => ?_)
  ·simp only[Gqo,decide_eq_true_eq] at h3
   rw[Ka hu (fun hh=>by
    have h8:=hh.2.1.2.2.2
    have h9:=(Kr hh.2.2).2.2.2.2.2.1.2
    have h10:(worldOf lv l).Bodies.length=(l.length-3-(l.getD 2 0).toNat)/9:=X7 _ _
    rw[hl2] at h8 h10
    omega)]
   refine Wz [1,144,77,72,31] ?_
   exact Xj J J J J J (Xx [1,1,9] [6,7,8] J J (by decide) J J J)
  simp only[Gql,decide_eq_false_iff_not] at h3
  obtain⟨nb,hn⟩:∃ nb,rest.length=9*nb:=⟨rest.length/9,by omega⟩
  have hform:formOk l:=⟨by omega,by rw[hl2]; exact hin2,by rw[hl2]; omega,by rw[hl2]; omega⟩
  have hwo:worldOf lv l=⟨lv,l.getD 0 0,l.getD 1 0,(l.drop 3).take p,bodiesOf rest nb⟩:=by
   rw[worldOf,hl2,Int.toNat_natCast,←hrest,show (l.length-3-p)/9=nb by omega]
  have hwg:=worldOf_gd (lv:=lv) hg hu4 (by omega)
  rw[hwo] at hwg
  refine AWP.pre (st':=(⟨_,[(4,.o (.c (.ptr 1 0))),(10,.o (.c (.ptr 4 0))),(11,.o (.c (.rd [2] (.sl 1 (els rest)))))],[.box ((Enc.e lv).map (V1.rd [])),.box [nilV,jv 0,jv 0,nilV,nilV],.row 1 (els l),.row 1 (els lv.Rows),.box [.ref 3,jv (l.getD 0 0),jv (l.getD 1 0),.ref 5,nilV],.row 1 (els ((l.drop 3).take p))]⟩:St)) ?_ (Xz [0,1,2,3,4,5] (by decide) J (by kernel_rfl) (.c J (.c J (.cons (rdE hre) (.nil)))))
  refine AWP.pre ?_ (Wk.nilbox (p:=4) (i:=4) 9 J J)
  refine Wz [48,44] ?_;refine Xf (fun m st=>∃ k:Nat,k+m=nb∧(True)∧st=(⟨_,[(4,.o (.c (.ptr 1 0))),(10,.o (.c (.ptr 4 0))),(11,.o (.c (.rd [2] (.sl 1 (els rest))))),(12,I (9*(k:Int)))],[.box ((Enc.e lv).map (V1.rd [])),.box [nilV,jv 0,jv 0,nilV,nilV],.row 1 (els l),.row 1 (els lv.Rows),.box [.ref 3,jv (l.getD 0 0),jv (l.getD 1 0),.ref 5,.ref 6],.row 1 (els ((l.drop 3).take p)),.row 9 (els (bodiesOf rest k))]⟩:St)) (nb) ⟨(fun k:Nat=>(⟨_,[(4,.o (.c (.ptr 1 0))),(10,.o (.c (.ptr 4 0))),(11,.o (.c (.rd [2] (.sl 1 (els rest))))),(12,I (9*(k:Int)))],[.box ((Enc.e lv).map (V1.rd [])),.box [nilV,jv 0,jv 0,nilV,nilV],.row 1 (els l),.row 1 (els lv.Rows),.box [.ref 3,jv (l.getD 0 0),jv (l.getD 1 0),.ref 5,.ref 6],.row 1 (els ((l.drop 3).take p)),.row 9 (els (bodiesOf rest k))]⟩:St)) 0,⟨0,by omega,trivial,J⟩,Xz [0,1,2,3,4,5,6] (by decide) J (by kernel_rfl) (.c J (.c J (.c J (.cons (Xn (by simp)) (.nil)))))⟩ ?_
  rintro m_A _ ⟨k,hk_A,hp_A,rfl⟩
  have hlbk:=Yf (bodiesOf rest k)
  have hlbk2:=X7 rest k
  refine Wz [57] ?_
  refine Q9 J (fun h4 => ?_) (fun h4 => ?_)
  ·have h4:=Gqc h4
   have hk9:9*k+9≤rest.length:=by omega
   have hc0:=X9 (rest:=rest) (m:=k) (by omega) (j:=0) (by omega) (9*(k:Int)+9) (9*(k:Int)) J J 0 rfl
   have hc1:=X9 (rest:=rest) (m:=k) (by omega) (j:=1) (by omega) (9*(k:Int)+9) (9*(k:Int)) J J 1 rfl
   have hc2:=X9 (rest:=rest) (m:=k) (by omega) (j:=2) (by omega) (9*(k:Int)+9) (9*(k:Int)) J J 2 rfl
   have hc3:=X9 (rest:=rest) (m:=k) (by omega) (j:=3) (by omega) (9*(k:Int)+9) (9*(k:Int)) J J 3 rfl
   have hc4:=X9 (rest:=rest) (m:=k) (by omega) (j:=4) (by omega) (9*(k:Int)+9) (9*(k:Int)) J J 4 rfl
   have hc5:=X9 (rest:=rest) (m:=k) (by omega) (j:=5) (by omega) (9*(k:Int)+9) (9*(k:Int)) J J 5 rfl
   have hc6:=X9 (rest:=rest) (m:=k) (by omega) (j:=6) (by omega) (9*(k:Int)+9) (9*(k:Int)) J J 6 rfl
   have hc7:=X9 (rest:=rest) (m:=k) (by omega) (j:=7) (by omega) (9*(k:Int)+9) (9*(k:Int)) J J 7 rfl
   have hc8:=X9 (rest:=rest) (m:=k) (by omega) (j:=8) (by omega) (9*(k:Int)+9) (9*(k:Int)) J J 8 rfl
   have hlbk3:(els (bodiesOf rest k)).length=k:=by omega
   have hlt:(9*(k:Int)+9≤(els rest).length):=by omega
   have hk24:k≤24:=by omega
   have hknb:k<nb:=by omega
   clear hwg hwo hform hre hcl hdl h3 h2 hin2 hin hbt hl264 hl21 hl22 ha0 ha1 ha2 h hu1 hu2 hu3 hu4 hll hui hrl hrl2 hn hpl hlbk hlbk2 hp_A hk9 h4
   refine Wz [6,157,8] ?_;refine zx (q_part J J J J J J (by omega)) J ?_;refine Wz [5] ?_;refine Xe [[],[0],[],[2],[2,3],[],[5],[5,6],[],[8],[8,9],[],[11],[11,12],[],[14],[14,15],[],[17],[17,18],[],[20],[20,21],[],[23],[23,24],[],[26],[26,27],[2,3,4,5,6,7,8,9,10,11,12,13,14,15,16,17,18,19,20,21,22,23,24,25,26,27,28],[2,3,4,5,6,7,8,9,10,11,12,13,14,15,16,17,18,19,20,21,22,23,24,25,26,27,28,29],(u9 31),(u9 32),(u9 33)] [[],[89],[],[91],[91,92],[],[94],[94,95],[],[97],[97,98],[],[100],[100,101],[],[103],[103,104],[],[106],[106,107],[],[109],[109,110],[],[112],[112,113],[],[115],[115,116],[91,92,93,94,95,96,97,98,99,100,101,102,103,104,105,106,107,108,109,110,111,112,113,114,115,116,117],[91,92,93,94,95,96,97,98,99,100,101,102,103,104,105,106,107,108,109,110,111,112,113,114,115,116,117,118],[89,90,91,92,93,94,95,96,97,98,99,100,101,102,103,104,105,106,107,108,109,110,111,112,113,114,115,116,117,118,119],[89,90,91,92,93,94,95,96,97,98,99,100,101,102,103,104,105,106,107,108,109,110,111,112,113,114,115,116,117,118,119,120],[89,90,91,92,93,94,95,96,97,98,99,100,101,102,103,104,105,106,107,108,109,110,111,112,113,114,115,116,117,118,119,120,121]] [[91,92,93,94,95,96,97,98,99,100,101,102,103,104,105,106,107,108,109,110,111,112,113,114,115,116,117,118,119],[91,92,93,94,95,96,97,98,99,100,101,102,103,104,105,106,107,108,109,110,111,112,113,114,115,116,117,118,119],[89,90,94,95,96,97,98,99,100,101,102,103,104,105,106,107,108,109,110,111,112,113,114,115,116,117],[89,90,94,95,96,97,98,99,100,101,102,103,104,105,106,107,108,109,110,111,112,113,114,115,116,117],[89,90,94,95,96,97,98,99,100,101,102,103,104,105,106,107,108,109,110,111,112,113,114,115,116,117],[89,90,91,92,93,97,98,99,100,101,102,103,104,105,106,107,108,109,110,111,112,113,114,115,116,117],[89,90,91,92,93,97,98,99,100,101,102,103,104,105,106,107,108,109,110,111,112,113,114,115,116,117],[89,90,91,92,93,97,98,99,100,101,102,103,104,105,106,107,108,109,110,111,112,113,114,115,116,117],[89,90,91,92,93,94,95,96,100,101,102,103,104,105,106,107,108,109,110,111,112,113,114,115,116,117],[89,90,91,92,93,94,95,96,100,101,102,103,104,105,106,107,108,109,110,111,112,113,114,115,116,117],[89,90,91,92,93,94,95,96,100,101,102,103,104,105,106,107,108,109,110,111,112,113,114,115,116,117],[89,90,91,92,93,94,95,96,97,98,99,103,104,105,106,107,108,109,110,111,112,113,114,115,116,117],[89,90,91,92,93,94,95,96,97,98,99,103,104,105,106,107,108,109,110,111,112,113,114,115,116,117],[89,90,91,92,93,94,95,96,97,98,99,103,104,105,106,107,108,109,110,111,112,113,114,115,116,117],[89,90,91,92,93,94,95,96,97,98,99,100,101,102,106,107,108,109,110,111,112,113,114,115,116,117],[89,90,91,92,93,94,95,96,97,98,99,100,101,102,106,107,108,109,110,111,112,113,114,115,116,117],[89,90,91,92,93,94,95,96,97,98,99,100,101,102,106,107,108,109,110,111,112,113,114,115,116,117],[89,90,91,92,93,94,95,96,97,98,99,100,101,102,103,104,105,109,110,111,112,113,114,115,116,117],[89,90,91,92,93,94,95,96,97,98,99,100,101,102,103,104,105,109,110,111,112,113,114,115,116,117],[89,90,91,92,93,94,95,96,97,98,99,100,101,102,103,104,105,109,110,111,112,113,114,115,116,117],[89,90,91,92,93,94,95,96,97,98,99,100,101,102,103,104,105,106,107,108,112,113,114,115,116,117],[89,90,91,92,93,94,95,96,97,98,99,100,101,102,103,104,105,106,107,108,112,113,114,115,116,117],[89,90,91,92,93,94,95,96,97,98,99,100,101,102,103,104,105,106,107,108,112,113,114,115,116,117],[89,90,91,92,93,94,95,96,97,98,99,100,101,102,103,104,105,106,107,108,109,110,111,115,116,117],[89,90,91,92,93,94,95,96,97,98,99,100,101,102,103,104,105,106,107,108,109,110,111,115,116,117],[89,90,91,92,93,94,95,96,97,98,99,100,101,102,103,104,105,106,107,108,109,110,111,115,116,117],[89,90,91,92,93,94,95,96,97,98,99,100,101,102,103,104,105,106,107,108,109,110,111,112,113,114],[89,90,91,92,93,94,95,96,97,98,99,100,101,102,103,104,105,106,107,108,109,110,111,112,113,114],[89,90,91,92,93,94,95,96,97,98,99,100,101,102,103,104,105,106,107,108,109,110,111,112,113,114],[89,90],[89,90],[],[],[]] J ?_;refine Wz [13,50,21,50,21,50,21,50,21,50,21,50,21,50,21,50,21,50,21] ?_;refine DR.s (x := .o (.ag [jv ((rest.drop (9*k)).getD 0 0),jv ((rest.drop (9*k)).getD 1 0),jv ((rest.drop (9*k)).getD 2 0),jv ((rest.drop (9*k)).getD 3 0),jv ((rest.drop (9*k)).getD 4 0),jv ((rest.drop (9*k)).getD 5 0),jv ((rest.drop (9*k)).getD 6 0),jv ((rest.drop (9*k)).getD 7 0),jv ((rest.drop (9*k)).getD 8 0)])) (Zk J J J J (by kernel_rfl)) J J ?_;refine Wz [146,12] ?_;refine AL.weak (st':=(⟨_,[(4,.o (.c (.ptr 1 0))),(10,.o (.c (.ptr 4 0))),(11,.o (.c (.rd [2] (.sl 1 (els rest))))),(12,I (9*(k:Int))),(90,.o (.c (.ref 6))),(119,.o (.c (.sb 7 1 9)))],[.box ((Enc.e lv).map (V1.rd [])),.box [nilV,jv 0,jv 0,nilV,nilV],.row 1 (els l),.row 1 (els lv.Rows),.box [.ref 3,jv (l.getD 0 0),jv (l.getD 1 0),.ref 5,.ref 6],.row 1 (els ((l.drop 3).take p)),.row 9 (els (bodiesOf rest k)),.box [jv ((rest.drop (9*k)).getD 0 0),jv ((rest.drop (9*k)).getD 1 0),jv ((rest.drop (9*k)).getD 2 0),jv ((rest.drop (9*k)).getD 3 0),jv ((rest.drop (9*k)).getD 4 0),jv ((rest.drop (9*k)).getD 5 0),jv ((rest.drop (9*k)).getD 6 0),jv ((rest.drop (9*k)).getD 7 0),jv ((rest.drop (9*k)).getD 8 0)]]⟩:St)) (Xy [0,1,2,3,4,5,6,7] (by kernel_rfl)) ?_;refine Wz [125,140,93] ?_
   exact⟨nb-(k+1),by omega,(fun k:Nat=>(⟨_,[(4,.o (.c (.ptr 1 0))),(10,.o (.c (.ptr 4 0))),(11,.o (.c (.rd [2] (.sl 1 (els rest))))),(12,I (9*(k:Int)))],[.box ((Enc.e lv).map (V1.rd [])),.box [nilV,jv 0,jv 0,nilV,nilV],.row 1 (els l),.row 1 (els lv.Rows),.box [.ref 3,jv (l.getD 0 0),jv (l.getD 1 0),.ref 5,.ref 6],.row 1 (els ((l.drop 3).take p)),.row 9 (els (bodiesOf rest k))]⟩:St)) (k+1),⟨k+1,by omega,trivial,J⟩,Xz [0,1,2,3,4,5,6] (by decide) J (row7 (by rw[bodiesOf_snoc,Yb]; rfl)) (.c J (.c J (.c J (.cons (Xn (by omega)) (.nil)))))⟩
  ·have h4:=Gqe h4
   have hkn:k=nb:=by omega
   subst hkn
   have hwk:=I_WorldOk ⟨lv,l.getD 0 0,l.getD 1 0,(l.drop 3).take p,bodiesOf rest k⟩ hwg
   cases ho:worldOk ⟨lv,l.getD 0 0,l.getD 1 0,(l.drop 3).take p,bodiesOf rest k⟩ with
   |false =>
    rw[ho] at hwk
    rw[Ka hu (fun hh=>by have h9:=hh.2.2; rw[hwo,ho] at h9; cases h9)]
    refine Wz [16,87,53] ?_;refine zx (Qj J J (hwk) J) J ?_;refine Wz [3,17,1,144,77,72,31] ?_
    exact Xj J J J J J (Xx [1,1,9] [7,8,9] J J (by decide) J J J)
   |true =>
    rw[ho] at hwk
    rw[Kc hu ⟨by omega,hform,by rw[hwo]; exact ho⟩,hwo]
    refine Wz [16,87,53] ?_;refine zx (Qj J J (hwk) J) J ?_;refine Wz [3,54,45,77,52] ?_
    exact Xj J J J J J (Xw [3,5,6] (by decide) J J J)
end
section
open Go.RowKit

theorem row6 {a b c d e:Ob} {k:Nat} {x y:List (List T)} (h:x=y) : [a,b,c,d,e,Ob.row k x] = [a,b,c,d,e,Ob.row k y]:=by rw[h]
theorem plain_dt (l:List Int) (a b:Nat):plainT (((els l).take a).drop b):=fun e he=>Yg l e (List.mem_of_mem_take (List.mem_of_mem_drop he))
theorem k_dt (l:List Int) (a b:Nat):∀ e∈((els l).take a).drop b,e.length=1:=fun e he=>Ye l e (List.mem_of_mem_take (List.mem_of_mem_drop he))
theorem world_bytes_eq {lv:TLevel} {s:ByteArray} {l:List Int} {pos:Nat} (hu:unpackInts s 0=some (l,pos)) (hp:pos=s.size) (hf:formOk l):worldBytes (worldOf lv l)=s↔worldOk (worldOf lv l)=true:=by
 have hcn:=unpackInts_canon hu
 have hb:=bytesL_all s pos (by omega)
 have hs:packInts l=s:=by rw[hcn]; exact hb.2 hp
 cases ho:worldOk (worldOf lv l) with
 |true =>
  rw[show worldBytes (worldOf lv l)=packInts (worldInts (worldOf lv l)) by rw[worldBytes,ho]; exact if_pos rfl,worldOf_ints hf]
  exact⟨fun _=>rfl,fun _=>hs⟩
 |false =>
  rw[show worldBytes (worldOf lv l)=⟨#[]⟩ by rw[worldBytes,ho]; exact if_neg (by decide)]
  refine⟨fun h => ?_,fun h=>by cases h⟩
  have h1:=(Kn hu).2.1
  rw[hp,←h] at h1
  exact absurd h1 (by decide)
theorem body_cells {l rest:List Int} {c q:Nat} (hr:rest=l.drop c):Enc.e (bodyOf (rest.drop (9*q))) = [.v (.int .i64 (l.getD (c+9*q+0) 0)),.v (.int .i64 (l.getD (c+9*q+1) 0)),.v (.int .i64 (l.getD (c+9*q+2) 0)),.v (.int .i64 (l.getD (c+9*q+3) 0)),.v (.int .i64 (l.getD (c+9*q+4) 0)),.v (.int .i64 (l.getD (c+9*q+5) 0)),.v (.int .i64 (l.getD (c+9*q+6) 0)),.v (.int .i64 (l.getD (c+9*q+7) 0)),.v (.int .i64 (l.getD (c+9*q+8) 0))]:=by
 have h:∀ j,(rest.drop (9*q)).getD j 0=l.getD (c+9*q+j) 0:=fun j=>by
  rw[hr,List.drop_drop,Gqf,Gqf,Gxg]
 show [T.v (.int .i64 ((rest.drop (9*q)).getD 0 0)),.v (.int .i64 ((rest.drop (9*q)).getD 1 0)),.v (.int .i64 ((rest.drop (9*q)).getD 2 0)),.v (.int .i64 ((rest.drop (9*q)).getD 3 0)),.v (.int .i64 ((rest.drop (9*q)).getD 4 0)),.v (.int .i64 ((rest.drop (9*q)).getD 5 0)),.v (.int .i64 ((rest.drop (9*q)).getD 6 0)),.v (.int .i64 ((rest.drop (9*q)).getD 7 0)),.v (.int .i64 ((rest.drop (9*q)).getD 8 0))]=_
 simp only[h]
theorem S_ReadWorld (lv:TLevel) (s:ByteArray) (hg:Enc.gd lv) (hL:lv.Rows.length≤1048576) (hs:s.size≤1099511627776):Con Tryz.prog 219 [] [ag lv,astr s] (ownO (Enc.e (rwW (readWorld lv s)))) (.tu [.ag (ownV 0 (Enc.e (rwW (readWorld lv s)))),.c (bv (rwB (readWorld lv s)))]):=by
 have hui:=S_UnpackInts s 0 hs ⟨by omega,by omega⟩
 cases hu:unpackInts s 0 with
 |none =>
  rw[hu] at hui
  rw[Kb hu]
  refine Con.of Tryz.func219 J Tryz.ntmps219 J (fun E => ?_)
  refine Wz [85,19] ?_;refine M1 (Zm J J (hui) J J J) J J ?_;refine Wz [134,135,155,60,46,3,0,91,28,0,118,104,28,0,91,104,28,0,91,118,104,28,0,91,91,104,28,17,1,144,77,72,31] ?_
  exact Xj J J J J J (Xx [1,1,9] [3,4,5] J J (by decide) J J J)
 | some r =>
  obtain⟨l,pos⟩:=r
  rw[hu] at hui
  obtain⟨_,hu1,hu2,hu3,hu4⟩:=Kn hu
  have hll:=Yf l
  by_cases c1:(pos:Int)≠s.size
  ·have hb1:decide ((pos:Int)≠s.size)=true:=Gqb c1
   rw[Ka hu (fun hh=>by have:=hh.1; omega)]
   refine Con.of Tryz.func219 J Tryz.ntmps219 J (fun E => ?_)
   refine Wz [85,19] ?_;refine M1 (Zm J J (hui) J J J) J J ?_;refine Wz [134,135,155,60,46,3,22,26,126,2,83,15,0,118,104,28,0,91,104,28,0,91,118,104,28,0,91,91,104,28,17,1,144,77,72,31] ?_
   exact Xj J J J J J (Xx [1,1,9] [3,4,5] J J (by decide) J J J)
  have hb1:decide ((pos:Int)≠s.size)=false:=Gqa c1
  by_cases c2:((els l).length:Int)<3
  ·have hb2:decide (((els l).length:Int)<3)=true:=Gqb c2
   rw[Ka hu (fun hh=>by have:=hh.2.1.1; omega)]
   refine Con.of Tryz.func219 J Tryz.ntmps219 J (fun E => ?_)
   refine Wz [85,19] ?_;refine M1 (Zm J J (hui) J J J) J J ?_;refine Wz [134,135,155,60,46,3,22,26,126,2,83,15,22,62,2,108,15,0,91,104,28,0,91,118,104,28,0,91,91,104,28,17,1,144,77,72,31] ?_
   exact Xj J J J J J (Xx [1,1,9] [3,4,5] J J (by decide) J J J)
  have hb2:decide (((els l).length:Int)<3)=false:=Gqa c2
  have ha0:=Yd (l:=l) (j:=0) (by omega) 0 rfl
  have ha1:=Yd (l:=l) (j:=1) (by omega) 1 rfl
  have ha2:=Yd (l:=l) (j:=2) (by omega) 2 rfl
  obtain⟨l2,hl2⟩:∃ l2,l.getD 2 0=l2:=⟨_,rfl⟩
  rw[hl2] at ha2
  have hbt:=Xv l2 1 4
  by_cases hin:inR l2 1 4=true
  case neg =>
   have hf:inR l2 1 4=false:=by simpa using hin
   rw[hf] at hbt
   rw[Ka hu (fun hh=>by have:=hh.2.1.2.1; rw[hl2,←Yu] at this; exact hin this)]
   refine Con.of Tryz.func219 J Tryz.ntmps219 J (fun E => ?_)
   refine Wz [85,19] ?_;refine M1 (Zm J J (hui) J J J) J J ?_;refine Wz [134,135,155,60,46,3,22,26,126,2,83,15,22,62,2,108,15,22,178,2,179,2] ?_;refine zx (Qj J J (hbt) J) J ?_;refine Wz [2,3,15,0,91,118,104,28,0,91,91,104,28,17,1,144,77,72,31] ?_
   exact Xj J J J J J (Xx [1,1,9] [3,4,5] J J (by decide) J J J)
  rw[hin] at hbt
  have hin2:=Yu.1 hin
  obtain⟨p,rfl⟩:∃ p:Nat,l2=p:=⟨l2.toNat,by omega⟩
  by_cases c4:((els l).length:Int)<3+(p:Int)
  ·have hb4:decide (((els l).length:Int)<3+(p:Int))=true:=Gqb c4
   rw[Ka hu (fun hh=>by have:=hh.2.1.2.2.1; omega)]
   refine Con.of Tryz.func219 J Tryz.ntmps219 J (fun E => ?_)
   refine Wz [85,19] ?_;refine M1 (Zm J J (hui) J J J) J J ?_;refine Wz [134,135,155,60,46,3,22,26,126,2,83,15,22,62,2,108,15,22,178,2,179,2] ?_;refine zx (Qj J J (hbt) J) J ?_;refine Wz [2,3,15,22,62,2,26,178,2,179,2,8,2,108,15,0,91,91,104,28,17,1,144,77,72,31] ?_
   exact Xj J J J J J (Xx [1,1,9] [3,4,5] J J (by decide) J J J)
  have hb4:decide (((els l).length:Int)<3+(p:Int))=false:=Gqa c4
  by_cases c5:(((els l).length:Int)-3-(p:Int))%9≠0
  ·have hb5:decide ((((els l).length:Int)-3-(p:Int))%9≠0)=true:=Gqb c5
   rw[Ka hu (fun hh=>by have:=hh.2.1.2.2.2; rw[hl2] at this; omega)]
   refine Con.of Tryz.func219 J Tryz.ntmps219 J (fun E => ?_)
   refine Wz [85,19] ?_;refine M1 (Zm J J (hui) J J J) J J ?_;refine Wz [134,135,155,60,46,3,22,26,126,2,83,15,22,62,2,108,15,22,178,2,179,2] ?_;refine zx (Qj J J (hbt) J) J ?_;refine Wz [2,3,15,22,62,2,26,178,2,179,2,8,2,108,15,22,62,2,74,2,26,178,2,179,2,74,2,211,2,83,15,17,1,144,77,72,31] ?_
   exact Xj J J J J J (Xx [1,1,9] [3,4,5] J J (by decide) J J J)
  have hb5:decide ((((els l).length:Int)-3-(p:Int))%9≠0)=false:=Gqa c5
  obtain⟨rest,hrest⟩:∃ rest,rest=l.drop (3+p):=⟨_,rfl⟩
  have hrl:rest.length=l.length-(3+p):=by rw[hrest]; simp
  obtain⟨nb,hn⟩:∃ nb,rest.length=9*nb:=⟨rest.length/9,by omega⟩
  have hform:formOk l:=⟨by omega,by rw[hl2]; exact hin2,by rw[hl2]; omega,by rw[hl2]; omega⟩
  have hwo:worldOf lv l=⟨lv,l.getD 0 0,l.getD 1 0,(l.drop 3).take p,bodiesOf rest nb⟩:=by
   rw[worldOf,hl2,Int.toNat_natCast,←hrest,show (l.length-3-p)/9=nb by omega]
  have hwg:=worldOf_gd (lv:=lv) hg hu4 (by omega)
  rw[hwo] at hwg
  have hwb:=world_bytes_eq (lv:=lv) hu (by omega) hform
  rw[hwo] at hwb
  have hpl:((((els l).take ((3:Int)+(p:Int)).toNat).drop (3:Int).toNat)).length=p:=by
   rw[List.length_drop,List.length_take,hll]; omega
  have hsc:els ((l.drop 3).take p)=(((els l).take ((3:Int)+(p:Int)).toNat).drop (3:Int).toNat):=by
   rw[show ((3:Int)+(p:Int)).toNat=3+p by omega,show (3:Int).toNat=3 from rfl,List.drop_take,←els_dropE,←els_takeE2,show 3+p-3=p by omega]
  refine Con.of Tryz.func219 J Tryz.ntmps219 J (fun E => ?_)
  refine Wz [85,19] ?_;refine M1 (Zm J J (hui) J J J) J J ?_;refine Wz [134,135,155,60,46,3,22,26,126,2,83,15,22,62,2,108,15,22,178,2,179,2] ?_;refine zx (Qj J J (hbt) J) J ?_;refine Wz [2,3,15,22,62,2,26,178,2,179,2,8,2,108,15,22,62,2,74,2,26,178,2,179,2,74,2,211,2,83,15,54,9,178,179,253,20] ?_;refine Xe [[],[0],[],[2],[2,3],[],[5],[5,6],[],[],[],[9,10],[0,1,8,9,10,11],(u9 13),[],(u9 15)] [[],[63],[],[65],[65,66],[],[68],[68,69],[],[],[],[72,73],[63,64,71,72,73,74],[63,64,65,66,67,68,69,70,71,72,73,74,75],[],[10,63,64,65,66,67,68,69,70,71,72,73,74,75,76]] [[10,65,66,67,68,69,70,71,72,73,74],[10,65,66,67,68,69,70,71,72,73,74],[10,63,64,68,69,70,71,72,73,74,75],[10,63,64,68,69,70,71,72,73,74,75],[10,63,64,68,69,70,71,72,73,74,75],[10,63,64,65,66,67,71,72,73,74,75],[10,63,64,65,66,67,71,72,73,74,75],[10,63,64,65,66,67,71,72,73,74,75],[10,63,64,65,66,67,68,69,70,72,73,74],[10,63,64,65,66,67,68,69,70,71,73],[10,63,64,65,66,67,68,69,70,71,72],[10,63,64,65,66,67,68,69,70,71],[10,65,66,67,68,69,70],[10],[63,64,65,66,67,68,69,70,71,72,73,74,75,76],[]] J (DR.s (Qu J J J J J J) J J ?_);refine DR.s (Zm J J (S_copyLevel lv hg hL) J J J) J J ?_;refine Wz [11,187,180,11,187,180,185,11,11] ?_;refine DR.s (q_partr J J J J J J J (by omega)) J J ?_;refine DR.s (q_appz J J J J J J (plain_dt _ _ _) (k_dt _ _ _) (by omega) (by omega) (by omega)) J J ?_;refine Wz [245,216,12] ?_;refine AL.weak (st':=(⟨_,[(1,S s),(4,.o (.c (.ptr 1 0))),(6,.o (.c (.ref 2))),(9,I (3+(p:Int))),(10,.o (.c (.ptr 4 0))),(76,.o (.ag [.ref 3,jv (l.getD 0 0),jv (l.getD 1 0),.ref 5,nilV]))],[.box ((Enc.e lv).map (V1.rd [])),.box [nilV,jv 0,jv 0,nilV,nilV],.row 1 (els l),.row 1 (els lv.Rows),.box [nilV,jv 0,jv 0,nilV,nilV],.row 1 (els ((l.drop 3).take p))]⟩:St)) (Xz [0,1,2,3,6,5] (by decide) J (row6 hsc) (.c J (.c J (.c J (.c J (.c J (.c J (.nil)))))))) ?_;refine AL.weak (Wk.refl _) ?_;refine Wz [30,69,44] ?_
  refine AWP.pre ?_ (Wk.nilbox (p:=4) (i:=4) 9 J J)
  skip
  refine Xf (fun m st=>∃ q:Nat,q+m=nb∧(True)∧st=(⟨_,[(1,S s),(4,.o (.c (.ptr 1 0))),(6,.o (.c (.ref 2))),(10,.o (.c (.ptr 4 0))),(11,I ((3+p+9*q:Nat):Int))],[.box ((Enc.e lv).map (V1.rd [])),.box [nilV,jv 0,jv 0,nilV,nilV],.row 1 (els l),.row 1 (els lv.Rows),.box [.ref 3,jv (l.getD 0 0),jv (l.getD 1 0),.ref 5,.ref 6],.row 1 (els ((l.drop 3).take p)),.row 9 (els (bodiesOf rest q))]⟩:St)) (nb) ⟨(fun q:Nat=>(⟨_,[(1,S s),(4,.o (.c (.ptr 1 0))),(6,.o (.c (.ref 2))),(10,.o (.c (.ptr 4 0))),(11,I ((3+p+9*q:Nat):Int))],[.box ((Enc.e lv).map (V1.rd [])),.box [nilV,jv 0,jv 0,nilV,nilV],.row 1 (els l),.row 1 (els lv.Rows),.box [.ref 3,jv (l.getD 0 0),jv (l.getD 1 0),.ref 5,.ref 6],.row 1 (els ((l.drop 3).take p)),.row 9 (els (bodiesOf rest q))]⟩:St)) 0,⟨0,by omega,trivial,J⟩,Xz [0,1,2,3,4,5,6] (by decide) J (by kernel_rfl) (.c J (.c J (.c J (.c J (.cons (Xn (by omega)) (.nil))))))⟩ ?_
  rintro m_A _ ⟨q,hk_A,hp_A,rfl⟩
  have hlbk:=Yf (bodiesOf rest q)
  have hlbk2:=X7 rest q
  by_cases h4:((3+p+9*q:Nat):Int)<(els l).length
  ·have hb6:decide (((3+p+9*q:Nat):Int)<(els l).length)=true:=Gqb h4
   have hc0:=Yd (l:=l) (j:=3+p+9*q+0) (by omega) (((3+p+9*q:Nat):Int)) (by omega)
   have hc1:=Yd (l:=l) (j:=3+p+9*q+1) (by omega) (((3+p+9*q:Nat):Int)+1) (by omega)
   have hc2:=Yd (l:=l) (j:=3+p+9*q+2) (by omega) (((3+p+9*q:Nat):Int)+2) (by omega)
   have hc3:=Yd (l:=l) (j:=3+p+9*q+3) (by omega) (((3+p+9*q:Nat):Int)+3) (by omega)
   have hc4:=Yd (l:=l) (j:=3+p+9*q+4) (by omega) (((3+p+9*q:Nat):Int)+4) (by omega)
   have hc5:=Yd (l:=l) (j:=3+p+9*q+5) (by omega) (((3+p+9*q:Nat):Int)+5) (by omega)
   have hc6:=Yd (l:=l) (j:=3+p+9*q+6) (by omega) (((3+p+9*q:Nat):Int)+6) (by omega)
   have hc7:=Yd (l:=l) (j:=3+p+9*q+7) (by omega) (((3+p+9*q:Nat):Int)+7) (by omega)
   have hc8:=Yd (l:=l) (j:=3+p+9*q+8) (by omega) (((3+p+9*q:Nat):Int)+8) (by omega)
   have hbc:=body_cells (q:=q) hrest
   have hq24:(els (bodiesOf rest q)).length≤1099511627776:=by omega
   have hlt:((3+p+9*q:Nat):Int)+9≤(els l).length:=by omega
   have hidx:(3+p+9*q:Nat)≤1099511627776:=by omega
   have hqnb:q<nb:=by omega
   clear hwg hwo hwb hform hsc hbt hin2 hin ha0 ha1 ha2 hl2 hb1 hb2 hb4 hb5 c1 c2 c4 c5 hu1 hu2 hu3 hu4 hui hpl hrl hn hll hlbk hlbk2 hp_A
   refine Wz [25,62,73] ?_;refine Xe [[],[0],[],[],[2,3],[2,3,4],[],[],[7],[6,7,8],[6,7,8,9],[],[],[12],[11,12,13],[11,12,13,14],[],[],[17],[16,17,18],[16,17,18,19],[],[],[22],[21,22,23],[21,22,23,24],[],[],[27],[26,27,28],[26,27,28,29],[],[],[32],[31,32,33],[31,32,33,34],[],[],[37],[36,37,38],[36,37,38,39],[],[],[42],[41,42,43],[41,42,43,44],[2,3,4,5,6,7,8,9,10,11,12,13,14,15,16,17,18,19,20,21,22,23,24,25,26,27,28,29,30,31,32,33,34,35,36,37,38,39,40,41,42,43,44,45],[2,3,4,5,6,7,8,9,10,11,12,13,14,15,16,17,18,19,20,21,22,23,24,25,26,27,28,29,30,31,32,33,34,35,36,37,38,39,40,41,42,43,44,45,46],(u9 48),(u9 49),(u9 50)] [[],[84],[],[],[86,87],[86,87,88],[],[],[91],[90,91,92],[90,91,92,93],[],[],[96],[95,96,97],[95,96,97,98],[],[],[101],[100,101,102],[100,101,102,103],[],[],[106],[105,106,107],[105,106,107,108],[],[],[111],[110,111,112],[110,111,112,113],[],[],[116],[115,116,117],[115,116,117,118],[],[],[121],[120,121,122],[120,121,122,123],[],[],[126],[125,126,127],[125,126,127,128],[86,87,88,89,90,91,92,93,94,95,96,97,98,99,100,101,102,103,104,105,106,107,108,109,110,111,112,113,114,115,116,117,118,119,120,121,122,123,124,125,126,127,128,129],[86,87,88,89,90,91,92,93,94,95,96,97,98,99,100,101,102,103,104,105,106,107,108,109,110,111,112,113,114,115,116,117,118,119,120,121,122,123,124,125,126,127,128,129,130],[84,85,86,87,88,89,90,91,92,93,94,95,96,97,98,99,100,101,102,103,104,105,106,107,108,109,110,111,112,113,114,115,116,117,118,119,120,121,122,123,124,125,126,127,128,129,130,131],[84,85,86,87,88,89,90,91,92,93,94,95,96,97,98,99,100,101,102,103,104,105,106,107,108,109,110,111,112,113,114,115,116,117,118,119,120,121,122,123,124,125,126,127,128,129,130,131,132],[84,85,86,87,88,89,90,91,92,93,94,95,96,97,98,99,100,101,102,103,104,105,106,107,108,109,110,111,112,113,114,115,116,117,118,119,120,121,122,123,124,125,126,127,128,129,130,131,132,133]] [[86,87,88,89,90,91,92,93,94,95,96,97,98,99,100,101,102,103,104,105,106,107,108,109,110,111,112,113,114,115,116,117,118,119,120,121,122,123,124,125,126,127,128,129,130,131],[86,87,88,89,90,91,92,93,94,95,96,97,98,99,100,101,102,103,104,105,106,107,108,109,110,111,112,113,114,115,116,117,118,119,120,121,122,123,124,125,126,127,128,129,130,131],[84,85,87,90,91,92,93,94,95,96,97,98,99,100,101,102,103,104,105,106,107,108,109,110,111,112,113,114,115,116,117,118,119,120,121,122,123,124,125,126,127,128,129],[84,85,86,90,91,92,93,94,95,96,97,98,99,100,101,102,103,104,105,106,107,108,109,110,111,112,113,114,115,116,117,118,119,120,121,122,123,124,125,126,127,128,129],[84,85,90,91,92,93,94,95,96,97,98,99,100,101,102,103,104,105,106,107,108,109,110,111,112,113,114,115,116,117,118,119,120,121,122,123,124,125,126,127,128,129],[84,85,90,91,92,93,94,95,96,97,98,99,100,101,102,103,104,105,106,107,108,109,110,111,112,113,114,115,116,117,118,119,120,121,122,123,124,125,126,127,128,129],[84,85,86,87,88,89,91,92,95,96,97,98,99,100,101,102,103,104,105,106,107,108,109,110,111,112,113,114,115,116,117,118,119,120,121,122,123,124,125,126,127,128,129],[84,85,86,87,88,89,90,95,96,97,98,99,100,101,102,103,104,105,106,107,108,109,110,111,112,113,114,115,116,117,118,119,120,121,122,123,124,125,126,127,128,129],[84,85,86,87,88,89,90,95,96,97,98,99,100,101,102,103,104,105,106,107,108,109,110,111,112,113,114,115,116,117,118,119,120,121,122,123,124,125,126,127,128,129],[84,85,86,87,88,89,95,96,97,98,99,100,101,102,103,104,105,106,107,108,109,110,111,112,113,114,115,116,117,118,119,120,121,122,123,124,125,126,127,128,129],[84,85,86,87,88,89,95,96,97,98,99,100,101,102,103,104,105,106,107,108,109,110,111,112,113,114,115,116,117,118,119,120,121,122,123,124,125,126,127,128,129],[84,85,86,87,88,89,90,91,92,93,94,96,97,100,101,102,103,104,105,106,107,108,109,110,111,112,113,114,115,116,117,118,119,120,121,122,123,124,125,126,127,128,129],[84,85,86,87,88,89,90,91,92,93,94,95,100,101,102,103,104,105,106,107,108,109,110,111,112,113,114,115,116,117,118,119,120,121,122,123,124,125,126,127,128,129],[84,85,86,87,88,89,90,91,92,93,94,95,100,101,102,103,104,105,106,107,108,109,110,111,112,113,114,115,116,117,118,119,120,121,122,123,124,125,126,127,128,129],[84,85,86,87,88,89,90,91,92,93,94,100,101,102,103,104,105,106,107,108,109,110,111,112,113,114,115,116,117,118,119,120,121,122,123,124,125,126,127,128,129],[84,85,86,87,88,89,90,91,92,93,94,100,101,102,103,104,105,106,107,108,109,110,111,112,113,114,115,116,117,118,119,120,121,122,123,124,125,126,127,128,129],[84,85,86,87,88,89,90,91,92,93,94,95,96,97,98,99,101,102,105,106,107,108,109,110,111,112,113,114,115,116,117,118,119,120,121,122,123,124,125,126,127,128,129],[84,85,86,87,88,89,90,91,92,93,94,95,96,97,98,99,100,105,106,107,108,109,110,111,112,113,114,115,116,117,118,119,120,121,122,123,124,125,126,127,128,129],[84,85,86,87,88,89,90,91,92,93,94,95,96,97,98,99,100,105,106,107,108,109,110,111,112,113,114,115,116,117,118,119,120,121,122,123,124,125,126,127,128,129],[84,85,86,87,88,89,90,91,92,93,94,95,96,97,98,99,105,106,107,108,109,110,111,112,113,114,115,116,117,118,119,120,121,122,123,124,125,126,127,128,129],[84,85,86,87,88,89,90,91,92,93,94,95,96,97,98,99,105,106,107,108,109,110,111,112,113,114,115,116,117,118,119,120,121,122,123,124,125,126,127,128,129],[84,85,86,87,88,89,90,91,92,93,94,95,96,97,98,99,100,101,102,103,104,106,107,110,111,112,113,114,115,116,117,118,119,120,121,122,123,124,125,126,127,128,129],[84,85,86,87,88,89,90,91,92,93,94,95,96,97,98,99,100,101,102,103,104,105,110,111,112,113,114,115,116,117,118,119,120,121,122,123,124,125,126,127,128,129],[84,85,86,87,88,89,90,91,92,93,94,95,96,97,98,99,100,101,102,103,104,105,110,111,112,113,114,115,116,117,118,119,120,121,122,123,124,125,126,127,128,129],[84,85,86,87,88,89,90,91,92,93,94,95,96,97,98,99,100,101,102,103,104,110,111,112,113,114,115,116,117,118,119,120,121,122,123,124,125,126,127,128,129],[84,85,86,87,88,89,90,91,92,93,94,95,96,97,98,99,100,101,102,103,104,110,111,112,113,114,115,116,117,118,119,120,121,122,123,124,125,126,127,128,129],[84,85,86,87,88,89,90,91,92,93,94,95,96,97,98,99,100,101,102,103,104,105,106,107,108,109,111,112,115,116,117,118,119,120,121,122,123,124,125,126,127,128,129],[84,85,86,87,88,89,90,91,92,93,94,95,96,97,98,99,100,101,102,103,104,105,106,107,108,109,110,115,116,117,118,119,120,121,122,123,124,125,126,127,128,129],[84,85,86,87,88,89,90,91,92,93,94,95,96,97,98,99,100,101,102,103,104,105,106,107,108,109,110,115,116,117,118,119,120,121,122,123,124,125,126,127,128,129],[84,85,86,87,88,89,90,91,92,93,94,95,96,97,98,99,100,101,102,103,104,105,106,107,108,109,115,116,117,118,119,120,121,122,123,124,125,126,127,128,129],[84,85,86,87,88,89,90,91,92,93,94,95,96,97,98,99,100,101,102,103,104,105,106,107,108,109,115,116,117,118,119,120,121,122,123,124,125,126,127,128,129],[84,85,86,87,88,89,90,91,92,93,94,95,96,97,98,99,100,101,102,103,104,105,106,107,108,109,110,111,112,113,114,116,117,120,121,122,123,124,125,126,127,128,129],[84,85,86,87,88,89,90,91,92,93,94,95,96,97,98,99,100,101,102,103,104,105,106,107,108,109,110,111,112,113,114,115,120,121,122,123,124,125,126,127,128,129],[84,85,86,87,88,89,90,91,92,93,94,95,96,97,98,99,100,101,102,103,104,105,106,107,108,109,110,111,112,113,114,115,120,121,122,123,124,125,126,127,128,129],[84,85,86,87,88,89,90,91,92,93,94,95,96,97,98,99,100,101,102,103,104,105,106,107,108,109,110,111,112,113,114,120,121,122,123,124,125,126,127,128,129],[84,85,86,87,88,89,90,91,92,93,94,95,96,97,98,99,100,101,102,103,104,105,106,107,108,109,110,111,112,113,114,120,121,122,123,124,125,126,127,128,129],[84,85,86,87,88,89,90,91,92,93,94,95,96,97,98,99,100,101,102,103,104,105,106,107,108,109,110,111,112,113,114,115,116,117,118,119,121,122,125,126,127,128,129],[84,85,86,87,88,89,90,91,92,93,94,95,96,97,98,99,100,101,102,103,104,105,106,107,108,109,110,111,112,113,114,115,116,117,118,119,120,125,126,127,128,129],[84,85,86,87,88,89,90,91,92,93,94,95,96,97,98,99,100,101,102,103,104,105,106,107,108,109,110,111,112,113,114,115,116,117,118,119,120,125,126,127,128,129],[84,85,86,87,88,89,90,91,92,93,94,95,96,97,98,99,100,101,102,103,104,105,106,107,108,109,110,111,112,113,114,115,116,117,118,119,125,126,127,128,129],[84,85,86,87,88,89,90,91,92,93,94,95,96,97,98,99,100,101,102,103,104,105,106,107,108,109,110,111,112,113,114,115,116,117,118,119,125,126,127,128,129],[84,85,86,87,88,89,90,91,92,93,94,95,96,97,98,99,100,101,102,103,104,105,106,107,108,109,110,111,112,113,114,115,116,117,118,119,120,121,122,123,124,126,127],[84,85,86,87,88,89,90,91,92,93,94,95,96,97,98,99,100,101,102,103,104,105,106,107,108,109,110,111,112,113,114,115,116,117,118,119,120,121,122,123,124,125],[84,85,86,87,88,89,90,91,92,93,94,95,96,97,98,99,100,101,102,103,104,105,106,107,108,109,110,111,112,113,114,115,116,117,118,119,120,121,122,123,124,125],[84,85,86,87,88,89,90,91,92,93,94,95,96,97,98,99,100,101,102,103,104,105,106,107,108,109,110,111,112,113,114,115,116,117,118,119,120,121,122,123,124],[84,85,86,87,88,89,90,91,92,93,94,95,96,97,98,99,100,101,102,103,104,105,106,107,108,109,110,111,112,113,114,115,116,117,118,119,120,121,122,123,124],[84,85],[84,85],[],[],[]] J ?_;refine Wz [13,11,11] ?_;refine DR.s (Q2 J J J J J (by omega) (by assumption)) J J ?_;refine Wz [180,11,11,175,187,180,11,11,175,187,180,11,11,175,187,180,11,11,175,187,180,11,11,175,187,180,11,11,175,187,180,11,11,175,187,180,11,11,175] ?_;refine DR.s (Q2 J J J J J (by omega) (by assumption)) J J (DR.s (Q5 J J J J (by assumption) J) J J ?_);refine DR.s (x := .o (.ag [jv (l.getD (3+p+9*q+0) 0),jv (l.getD (3+p+9*q+1) 0),jv (l.getD (3+p+9*q+2) 0),jv (l.getD (3+p+9*q+3) 0),jv (l.getD (3+p+9*q+4) 0),jv (l.getD (3+p+9*q+5) 0),jv (l.getD (3+p+9*q+6) 0),jv (l.getD (3+p+9*q+7) 0),jv (l.getD (3+p+9*q+8) 0)])) (Zk J J J J (by kernel_rfl)) J J ?_;refine Wz [146,12] ?_;refine AL.weak (st':=(⟨_,[(1,S s),(4,.o (.c (.ptr 1 0))),(6,.o (.c (.ref 2))),(10,.o (.c (.ptr 4 0))),(11,I ((3+p+9*q:Nat):Int)),(85,.o (.c (.ref 6))),(131,.o (.c (.sb 7 1 9)))],[.box ((Enc.e lv).map (V1.rd [])),.box [nilV,jv 0,jv 0,nilV,nilV],.row 1 (els l),.row 1 (els lv.Rows),.box [.ref 3,jv (l.getD 0 0),jv (l.getD 1 0),.ref 5,.ref 6],.row 1 (els ((l.drop 3).take p)),.row 9 (els (bodiesOf rest q)),.box [jv (l.getD (3+p+9*q+0) 0),jv (l.getD (3+p+9*q+1) 0),jv (l.getD (3+p+9*q+2) 0),jv (l.getD (3+p+9*q+3) 0),jv (l.getD (3+p+9*q+4) 0),jv (l.getD (3+p+9*q+5) 0),jv (l.getD (3+p+9*q+6) 0),jv (l.getD (3+p+9*q+7) 0),jv (l.getD (3+p+9*q+8) 0)]]⟩:St)) (Xy [0,1,2,3,4,5,6,7] (by kernel_rfl)) ?_;refine Wz [125,140,93] ?_
   exact⟨nb-(q+1),by omega,(fun q:Nat=>(⟨_,[(1,S s),(4,.o (.c (.ptr 1 0))),(6,.o (.c (.ref 2))),(10,.o (.c (.ptr 4 0))),(11,I ((3+p+9*q:Nat):Int))],[.box ((Enc.e lv).map (V1.rd [])),.box [nilV,jv 0,jv 0,nilV,nilV],.row 1 (els l),.row 1 (els lv.Rows),.box [.ref 3,jv (l.getD 0 0),jv (l.getD 1 0),.ref 5,.ref 6],.row 1 (els ((l.drop 3).take p)),.row 9 (els (bodiesOf rest q))]⟩:St)) (q+1),⟨q+1,by omega,trivial,J⟩,Xz [0,1,2,3,4,5,6] (by decide) J (row7 (by rw[bodiesOf_snoc,Yb,show els [bodyOf (rest.drop (9*q))] = [Enc.e (bodyOf (rest.drop (9*q)))] from J,hbc]; rfl)) (.c J (.c J (.c J (.c J (.cons (Xn (by omega)) (.nil))))))⟩
  ·have hb6:decide (((3+p+9*q:Nat):Int)<(els l).length)=false:=Gqa h4
   have hqn:q=nb:=by omega
   subst hqn
   have hwk:=S_WorldBytes ⟨lv,l.getD 0 0,l.getD 1 0,(l.drop 3).take p,bodiesOf rest q⟩ hwg
   cases ho:worldOk ⟨lv,l.getD 0 0,l.getD 1 0,(l.drop 3).take p,bodiesOf rest q⟩ with
   |false =>
    have hne:decide (worldBytes ⟨lv,l.getD 0 0,l.getD 1 0,(l.drop 3).take p,bodiesOf rest q⟩≠s)=true:=Gqb fun h=>by rw[hwb,ho] at h; cases h
    rw[Ka hu (fun hh=>by have h9:=hh.2.2; rw[hwo,ho] at h9; cases h9)]
    refine Wz [25,62,32,16,87,53] ?_;refine zx (Qj J J (hwk) J) J ?_;refine Wz [0,220,17,1,144,77,72,31] ?_
    exact Xj J J J J J (Xx [1,1,9] [7,8,9] J J (by decide) J J J)
   |true =>
    have hne:decide (worldBytes ⟨lv,l.getD 0 0,l.getD 1 0,(l.drop 3).take p,bodiesOf rest q⟩≠s)=false:=Gqa fun h=>h (hwb.2 ho)
    rw[Kc hu ⟨by omega,hform,by rw[hwo]; exact ho⟩,hwo]
    refine Wz [25,62,32,16,87,53] ?_;refine zx (Qj J J (hwk) J) J ?_;refine Wz [0,220,54,45,77,52] ?_
    exact Xj J J J J J (Xw [3,5,6] (by decide) J J J)
end
section
open Go.RowKit

theorem I_NewSpectator (lv:TLevel) (s:ByteArray) (hg:Enc.gd lv) (hL:lv.Rows.length≤1048576) (hs:s.size≤1099511627776):Con Tryz.prog 148 [] [ag lv,astr s] (ownO (Enc.e (⟨rwW (readWorld lv s),0⟩:TSpectator))) (.tu [.ag (ownV 0 (Enc.e (⟨rwW (readWorld lv s),0⟩:TSpectator))),.c (bv (rwB (readWorld lv s)))]):=by
 have hr:=I_ReadWorld lv s hg hL hs
 cases hw:readWorld lv s with
 |none =>
  rw[hw] at hr
  refine Con.of Tryz.func148 J Tryz.ntmps148 J (fun E => ?_)
  refine Wz [85,5,45,0] ?_;refine M1 (Zm J J (hr) J J J) J J ?_;refine Wz [134,135,40,77,46,3,17,1,144,77,72,31] ?_
  exact Xj J J J J J (Xx [1,1,9] [6,7,8] J J (by decide) J J J)
 |some w =>
  rw[hw] at hr
  refine Con.of Tryz.func148 J Tryz.ntmps148 J (fun E => ?_)
  refine Wz [85,5,45,0] ?_;refine M1 (Zm J J (hr) J J J) J J ?_;refine Wz [134,135,40,77,46,3,54,45,144,77,52] ?_
  exact Xj J J J J J (Xw [2,3,4] (by decide) J J J)
theorem S_NewSpectator (lv:TLevel) (s:ByteArray) (hg:Enc.gd lv) (hL:lv.Rows.length≤1048576) (hs:s.size≤1099511627776):Con Tryz.prog 145 [] [ag lv,astr s] (ownO (Enc.e (⟨rwW (readWorld lv s),0⟩:TSpectator))) (.tu [.ag (ownV 0 (Enc.e (⟨rwW (readWorld lv s),0⟩:TSpectator))),.c (bv (rwB (readWorld lv s)))]):=by
 have hr:=S_ReadWorld lv s hg hL hs
 generalize readWorld lv s=r at hr
 refine Con.of Tryz.func145 J Tryz.ntmps145 J (fun E => ?_)
 refine Wz [85,5,45,0] ?_;refine M1 (Zm J J (hr) J J J) J J ?_;refine Wz [134,135,40,77,5,45,144,0,77,52] ?_
 exact Xj J J J J J (Xw [2,3,4] (by decide) J J J)
end
section
open Go.RowKit

noncomputable def snapshotOf (p:TPeer):ByteArray:=if peerOk p=true then worldBytes p.Base else ⟨#[]⟩
theorem I_SnapshotOf (p:TPeer) (g:Enc.gd p):Con Tryz.prog 149 [] [ag p] [] (S (snapshotOf p)):=by
 have hc:=I_PeerOk p g
 have hd:=I_WorldBytes p.Base g.2.2.2.2.2.1
 cases ho:peerOk p with
 |false =>
  rw[ho] at hc
  rw[show snapshotOf p=⟨#[]⟩ by rw[snapshotOf,ho]; exact if_neg (by decide)]
  refine Con.of Tryz.func149 J Tryz.ntmps149 J (fun E => ?_)
  refine Wz [124,36,53] ?_;refine zx (Qj J J (hc) J) J ?_;refine Wz [3,23] ?_
  exact Xk J J (Xw [] (by decide) J J J)
 |true =>
  rw[ho] at hc
  rw[show snapshotOf p=worldBytes p.Base by rw[snapshotOf,ho]; exact if_pos rfl]
  refine Con.of Tryz.func149 J Tryz.ntmps149 J (fun E => ?_)
  refine Wz [124,36,53] ?_;refine zx (Qj J J (hc) J) J ?_;refine Wz [3,54,162,270,52] ?_
  exact Xk J J (Xw [] (by decide) J J J)
theorem S_SnapshotOf (p:TPeer) (g:Enc.gd p):Con Tryz.prog 146 [] [ag p] [] (S (snapshotOf p)):=by
 have hc:=S_PeerOk p g
 have hd:=S_WorldBytes p.Base g.2.2.2.2.2.1
 cases ho:peerOk p with
 |false =>
  rw[ho] at hc
  rw[show snapshotOf p=⟨#[]⟩ by rw[snapshotOf,ho]; exact if_neg (by decide)]
  refine Con.of Tryz.func146 J Tryz.ntmps146 J (fun E => ?_)
  refine Wz [124,36,53] ?_;refine zx (Qj J J (hc) J) J ?_;refine Wz [3,23] ?_
  exact Xk J J (Xw [] (by decide) J J J)
 |true =>
  rw[ho] at hc
  rw[show snapshotOf p=worldBytes p.Base by rw[snapshotOf,ho]; exact if_pos rfl]
  refine Con.of Tryz.func146 J Tryz.ntmps146 J (fun E => ?_)
  refine Wz [124,36,53] ?_;refine zx (Qj J J (hc) J) J ?_;refine Wz [3,54,162,270,52] ?_
  exact Xk J J (Xw [] (by decide) J J J)
end
section
open Go.RowKit

def zeroB (b:UInt8):Bool:=b == 0
def someB (b:UInt8):Bool := !(b == 0)
def packZ (l:List UInt8):List UInt8:=match l with
 | [] => []
 |x::r=>encVar (((x::r).takeWhile zeroB).length:Nat)++(encVar ((((x::r).dropWhile zeroB).takeWhile someB).length:Nat)++((x::r).dropWhile zeroB).takeWhile someB)++packZ (((x::r).dropWhile zeroB).dropWhile someB)
termination_by l.length
decreasing_by
 by_cases h:zeroB x=true
 ·rw[List.dropWhile_cons,if_pos h]
  have h1:=(List.dropWhile_sublist someB (l:=r.dropWhile zeroB)).length_le
  have h2:=(List.dropWhile_sublist zeroB (l:=r)).length_le
  simp only[Gq4]; omega
 ·rw[List.dropWhile_cons,if_neg h,List.dropWhile_cons,if_pos (by simpa[zeroB,someB] using h)]
  have h1:=(List.dropWhile_sublist someB (l:=r)).length_le
  simp only[Gq4]; omega
def uzGo (s:ByteArray) (strict:Bool):Nat→Nat→List UInt8→Option (List UInt8)
 |0,pos,out=>if pos<s.size then none else some out
 | f+1,pos,out=>if pos<s.size then (match decVar s pos with
  |none=>none
  |some (n,j)=>match unpackText s ((pos:Int)+(j:Int)) with
   |none=>none
   |some (t,k)=>if (20000:Int)-out.length<n+t.size then none else if strict=true∧n=0∧t.size=0 then none else uzGo s strict f (pos+j+k) (out++List.replicate n.toNat 0++t.data.toList)) else some out
def unpackZ (strict:Bool) (s:ByteArray):Option ByteArray:=match uzGo s strict s.size 0 [] with
 |none=>none
 |some out=>if bs (packZ out)=s then some (bs out) else none
end
section
open Go.RowKit

section
variable {P:Program} {E:Env} {ops:Array Oper} {rest:List Oper} {o:Oper} {QQ:Exit→St→Prop} {st:St} {t:TypeId} {y z:Operand} {qs:List Nat}
end
end
section
open Go.RowKit
end
section
open Go.RowKit

def xorB (a:ByteArray) (i:Nat) (x:UInt8):UInt8:=if i<a.size then UInt8.ofNat (x.toNat^^^(byteAt a i).toNat) else x
def xorL (a b:ByteArray):List UInt8:=(List.range b.size).map fun i=>xorB a i (b.data.toList.getD i 0)
def xorText (a b:ByteArray):ByteArray:=bs (xorL a b)
end
section
open Go.RowKit

section
variable {s:ByteArray} {b:Bool} {pos f j k:Nat} {acc:List UInt8} {n:Int} {t:ByteArray} (hp:pos<s.size)
include hp
end
def applyD (base delta:ByteArray):Option ByteArray:=match decVar delta 0 with
 |none=>none
 |some (n,j)=>match unpackZ true (delta.extract j delta.size) with
  |none=>none
  |some x=>if (x.size:Int)=n then some (xorText base x) else none
end
section
open Go.RowKit

structure RepIn (y:TReplay):Prop where
 gd:Enc.gd y
 h1:y.Level.Rows.length≤1048576
 h2:y.Keys.length≤1048576
 h3:y.Rows.length≤1048576
 h4:tot y.Rows≤1048576
structure WorIn (w:TWorld):Prop where
 gd:Enc.gd w
 h1:w.Level.Rows.length≤1048576
 h2:w.Scores.length≤1048576
 h3:w.Bodies.length≤1048576
theorem wor_zero:WorIn zeroWorld:=⟨⟨⟨by simp[zeroWorld],fun x hx=>by simp[zeroWorld] at hx⟩,⟨by decide,by decide⟩,⟨by decide,by decide⟩,⟨by simp[zeroWorld],fun x hx=>by simp[zeroWorld] at hx⟩,⟨by simp[zeroWorld],fun x hx=>by simp[zeroWorld] at hx⟩⟩,by simp[zeroWorld],by simp[zeroWorld],by simp[zeroWorld]⟩
theorem read_in {lv:TLevel} {s:ByteArray} (hg:Enc.gd lv) (hL:lv.Rows.length≤1048576) (hs:s.size≤1099511627776):WorIn (rwW (readWorld lv s)):=by
 cases hu:unpackInts s 0 with
 |none=>rw[Kb hu]; exact wor_zero
 | some r =>
  obtain⟨l,pos⟩:=r
  obtain⟨_,hu1,hu2,hu3,hu4⟩:=Kn hu
  by_cases hp:pos=s.size∧formOk l∧worldOk (worldOf lv l)=true
  ·rw[Kc hu hp]
   have hw:=Kr hp.2.2
   exact⟨worldOf_gd hg hu4 (by omega),hL,Nat.le_trans hw.2.2.2.1.2 (by decide),Nat.le_trans hw.2.2.2.2.2.1.2 (by decide)⟩
  ·rw[Ka hu hp]; exact wor_zero
end
section
open Go.RowKit

def keyText (s:ByteArray) (keys:List ByteArray):Nat→Option ByteArray
 |0=>some s
 | n+1=>match keyText s keys n with
  |none=>none
  |some t=>match keys[n]? with
   |none=>none
   |some d=>applyD t d
structure ROk (r:TReplay):Prop where
 l:levelOk r.Level=true
 p:1≤r.Players∧r.Players≤4
 s:inR r.Seed 0 65535=true
 e:1≤r.Every∧r.Every≤100
 k:r.Keys.length≤400
theorem bytes_len (w:TWorld):(worldBytes w).size≤20000:=by
 unfold worldBytes
 split
 ·rename_i h
  have hw:=Kr h
  have h1:=packInts_size (worldInts w)
  have h2:=flat_length w.Bodies
  have h3:(worldInts w).length=3+w.Scores.length+9*w.Bodies.length:=by
   simp only[worldInts,Gqr,Gq4,List.length_nil]; omega
  have h4:=hw.2.2.2.1
  have h5:=hw.2.2.2.2.2.1
  omega
 ·decide
section
variable {r:TReplay} {n:Nat} {s:ByteArray} {w:TWorld}
variable (h:keyText (worldBytes (newWorld r.Level r.Players.toNat r.Seed)) r.Keys n=some s)
include h
end
end
end Go.Proofs.YtoecjaohdnoenaaGreat
