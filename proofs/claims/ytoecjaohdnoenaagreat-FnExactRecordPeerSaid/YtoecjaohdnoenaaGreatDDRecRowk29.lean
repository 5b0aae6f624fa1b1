/-
  Rules, data and contracts of functions: part 30 of the proof.
  Conditions: those that each theorem names.
-/
import Derived.Test.YtoecjaohdnoenaaGreatDDRecRowk28
set_option linter.unusedSimpArgs false
set_option linter.unusedVariables false
set_option maxRecDepth 8000
set_option maxHeartbeats 8000000
namespace Go.Proofs.YtoecjaohdnoenaaGreat
section
open Go.RowKit

theorem I_ReadWorld (lv:TLevel) (s:ByteArray) (hg:Enc.gd lv) (hL:lv.Rows.length≤1048576) (hs:s.size≤1099511627776):Con Tryz.prog 221 [] [ag lv,astr s] (ownO (Enc.e (rwW (readWorld lv s)))) (.tu [.ag (ownV 0 (Enc.e (rwW (readWorld lv s)))),.c (bv (rwB (readWorld lv s)))]):=by
 have hui:=I_UnpackInts s 0 hs ⟨by omega,by omega⟩
 cases hu:unpackInts s 0 with
 |none =>
  rw[hu] at hui
  rw[Ks hu]
  refine Con.of Tryz.func221 J Tryz.ntmps221 J (fun E => ?_)
  refine Wz [53,49] ?_;refine M1 (Z3 J J (hui) J J J) J J ?_;refine Wz [84,45,25,0,57,70,25,50,77,63] ?_
  exact qo J J (Yc [1,1,9] [3,4,5] J J (by decide) J J J)
 | some r =>
  obtain⟨l,pos⟩:=r
  rw[hu] at hui
  obtain⟨_,hu1,hu2,hu3,hu4⟩:=Vb hu
  have hll:=Yx l
  refine Con.of Tryz.func221 J Tryz.ntmps221 J (fun E => ?_)
  refine Wz [53,49] ?_;refine M1 (Z3 J J (hui) J J J) J J ?_;refine Wz [84,81,72,1,150,6,106] ?_;refine zx (Vz J (.hit .stop) (fun hgrd=>Kc J J J J)) J ?_;refine zx (Vz J (.hit (.hit .stop)) (fun hgrd=>Kh J J J J)) J ?_;refine Wz [103] ?_
  refine Xb J (fun h => ?_) (fun h => ?_)
  ·simp only[Gqr,decide_eq_true_eq] at h
   rw[Kr hu (fun hh=>by have:=hh.2.1.1; omega)]
   refine Wz [4,77,63] ?_
   exact qo J J (Yc [1,1,9] [3,4,5] J J (by decide) J J J)
  simp only[Gqn,decide_eq_false_iff_not] at h
  have ha0:=Yw (l:=l) (j:=0) (by omega) 0 rfl
  have ha1:=Yw (l:=l) (j:=1) (by omega) 1 rfl
  have ha2:=Yw (l:=l) (j:=2) (by omega) 2 rfl
  obtain⟨l2,hl2⟩:∃ l2,l.getD 2 0=l2:=⟨_,rfl⟩
  rw[hl2] at ha2
  have hl264:I64 l2:=by
   rw[←hl2,Gqc,Gqd (by omega)]
   exact hu4 _ (Gqj _)
  have hl21:=hl264.1
  have hl22:=hl264.2
  have hbt:=Xx l2 1 4
  by_cases hin:inR l2 1 4=true
  case neg =>
   have hf:inR l2 1 4=false:=by simpa using hin
   rw[hf] at hbt
   rw[Kr hu (fun hh=>by have:=hh.2.1.2.1; rw[hl2,←Za] at this; exact hin this)]
   refine Wz [22,10,47,124,78] ?_;refine zx (Qj J J (hbt) J) J ?_;refine Wz [9,45,70,25,50,77,63] ?_
   exact qo J J (Yc [1,1,9] [3,4,5] J J (by decide) J J J)
  rw[hin] at hbt
  have hin2:=Za.1 hin
  obtain⟨p,rfl⟩:∃ p:Nat,l2=p:=⟨l2.toNat,by omega⟩
  refine Wz [22,10,47,124,78] ?_;refine zx (Qj J J (hbt) J) J ?_;refine Wz [9,19,97,31,18,1,152,6,3] ?_
  refine Xb J (fun h2 => ?_) (fun h2 => ?_)
  ·have h2:=Gqe h2
   rw[Kr hu (fun hh=>by have:=hh.2.1.2.2.1; omega)]
   refine Wz [4,77,63] ?_
   exact qo J J (Yc [1,1,9] [3,4,5] J J (by decide) J J J)
  have h2:=Gqf h2
  refine Wz [22,8] ?_;refine Xi [[],[0],[],[2],[2,3],[],[5],[5,6],(u9 8),[],(u9 10)] [[],[48],[],[50],[50,51],[],[53],[53,54],[48,49,50,51,52,53,54,55],[],[10,48,49,50,51,52,53,54,55,56]] [[10,50,51,52,53,54,55],[10,50,51,52,53,54,55],[10,48,49,53,54,55],[10,48,49,53,54,55],[10,48,49,53,54,55],[10,48,49,50,51,52],[10,48,49,50,51,52],[10,48,49,50,51,52],[10],[48,49,50,51,52,53,54,55,56],[]] J (Vk (Qu J J J J J J) J ?_);refine Vk (Z3 J J (Xy lv hg hL) J J J) J ?_;refine Wz [5,128,151,5,128,151,279,195,21] ?_;refine AL.weak (st':=(⟨_,[(4,.o (.c (.ptr 1 0))),(6,.o (.c (.ref 2))),(9,I p),(10,.o (.c (.ptr 4 0))),(56,.o (.ag [.ref 3,jv (l.getD 0 0),jv (l.getD 1 0),nilV,nilV]))],[.box ((Enc.e lv).map (V1.rd [])),.box [nilV,jv 0,jv 0,nilV,nilV],.row 1 (els l),.row 1 (els lv.Rows),.box [nilV,jv 0,jv 0,nilV,nilV]]⟩:St)) (Gi [0,1,2,3,4]) ?_
  have hpl:(p:Int)≤4:=hin2.2
  have hcl:=Clone_ints ((l.drop 3).take p) (by simp; omega) (by simp; omega)
  rw[show al ((l.drop 3).take p) = .c (.rd [] (.sl 1 (((els l).take ((3:Int)+(p:Int)).toNat).drop (3:Int).toNat))) by
   rw[show ((3:Int)+(p:Int)).toNat=3+p by omega,show (3:Int).toNat=3 from rfl,List.drop_take,←els_dropE,←Y0,show 3+p-3=p by omega]; rfl] at hcl
  obtain⟨rest,hrest⟩:∃ rest,rest=l.drop (3+p):=⟨_,rfl⟩
  have hre:(els l).drop ((3:Int)+(p:Int)).toNat=els rest:=by rw[show ((3:Int)+(p:Int)).toNat=3+p by omega,←els_dropE,hrest]
  have hrl:rest.length=l.length-(3+p):=by rw[hrest]; simp
  have hrl2:=Yx rest
  have hdl:((els l).drop ((3:Int)+(p:Int)).toNat).length=l.length-(3+p):=by rw[Gxa,hll]; congr 1
  refine Wz [56,13,18] ?_;refine zx (q_partr J J J J J J J (by omega)) J ?_;refine M1 (Z3 J J (hcl) J J J) J J ?_;refine Wz [30,13,18] ?_;refine zx (q_partr1 J J J J J J (by omega)) J ?_;refine Wz [78,7,149,150,106] ?_;refine zx (Vz J (.hit .stop) (fun hgrd=>Kb J J J)) J ?_;refine zx (Vz J (.hit (.hit .stop)) (fun hgrd=>q_quo J J J J (by omega))) J ?_;refine Wz [255,103] ?_
  refine Xb J (fun h3 => ?_) (fun h3 => ?_)
  ·simp only[Gqr,decide_eq_true_eq] at h3
   rw[Kr hu (fun hh=>by
    have h8:=hh.2.1.2.2.2
    have h9:=(Vf hh.2.2).2.2.2.2.2.1.2
    have h10:(worldOf lv l).Bodies.length=(l.length-3-(l.getD 2 0).toNat)/9:=Ym _ _
    rw[hl2] at h8 h10
    omega)]
   refine Wz [4,77,63] ?_
   exact qo J J (Yc [1,1,9] [6,7,8] J J (by decide) J J J)
  simp only[Gqn,decide_eq_false_iff_not] at h3
  obtain⟨nb,hn⟩:∃ nb,rest.length=9*nb:=⟨rest.length/9,by omega⟩
  have hform:formOk l:=⟨by omega,by rw[hl2]; exact hin2,by rw[hl2]; omega,by rw[hl2]; omega⟩
  have hwo:worldOf lv l=⟨lv,l.getD 0 0,l.getD 1 0,(l.drop 3).take p,bodiesOf rest nb⟩:=by
   rw[worldOf,hl2,Int.toNat_natCast,←hrest,show (l.length-3-p)/9=nb by omega]
  have hwg:=worldOf_gd (lv:=lv) hg hu4 (by omega)
  rw[hwo] at hwg
  refine AWP.pre (st':=(⟨_,[(4,.o (.c (.ptr 1 0))),(10,.o (.c (.ptr 4 0))),(11,.o (.c (.rd [2] (.sl 1 (els rest)))))],[.box ((Enc.e lv).map (V1.rd [])),.box [nilV,jv 0,jv 0,nilV,nilV],.row 1 (els l),.row 1 (els lv.Rows),.box [.ref 3,jv (l.getD 0 0),jv (l.getD 1 0),.ref 5,nilV],.row 1 (els ((l.drop 3).take p))]⟩:St)) ?_ (Ga [0,1,2,3,4,5] J (by kernel_rfl) (.c J (.c J (.cons (rdE hre) (.nil)))))
  refine AWP.pre ?_ (Wk.nilbox (p:=4) (i:=4) 9 J J)
  refine Wz [22,46] ?_;refine Xj (fun m st=>∃ k:Nat,k+m=nb∧(True)∧st=(⟨_,[(4,.o (.c (.ptr 1 0))),(10,.o (.c (.ptr 4 0))),(11,.o (.c (.rd [2] (.sl 1 (els rest))))),(12,I (9*(k:Int)))],[.box ((Enc.e lv).map (V1.rd [])),.box [nilV,jv 0,jv 0,nilV,nilV],.row 1 (els l),.row 1 (els lv.Rows),.box [.ref 3,jv (l.getD 0 0),jv (l.getD 1 0),.ref 5,.ref 6],.row 1 (els ((l.drop 3).take p)),.row 9 (els (bodiesOf rest k))]⟩:St)) (nb) ⟨(fun k:Nat=>(⟨_,[(4,.o (.c (.ptr 1 0))),(10,.o (.c (.ptr 4 0))),(11,.o (.c (.rd [2] (.sl 1 (els rest))))),(12,I (9*(k:Int)))],[.box ((Enc.e lv).map (V1.rd [])),.box [nilV,jv 0,jv 0,nilV,nilV],.row 1 (els l),.row 1 (els lv.Rows),.box [.ref 3,jv (l.getD 0 0),jv (l.getD 1 0),.ref 5,.ref 6],.row 1 (els ((l.drop 3).take p)),.row 9 (els (bodiesOf rest k))]⟩:St)) 0,⟨0,by omega,trivial,J⟩,Ga [0,1,2,3,4,5,6] J (by kernel_rfl) (.c J (.c J (.c J (.cons (Xz (by simp)) (.nil)))))⟩ ?_
  rintro m_A _ ⟨k,hk_A,hp_A,rfl⟩
  have hlbk:=Yx (bodiesOf rest k)
  have hlbk2:=Ym rest k
  refine Wz [20,7,37] ?_
  refine Xb J (fun h4 => ?_) (fun h4 => ?_)
  ·have h4:=Gqe h4
   have hk9:9*k+9≤rest.length:=by omega
   have hc0:=Ys (rest:=rest) (m:=k) (by omega) (j:=0) (by omega) (9*(k:Int)+9) (9*(k:Int)) J J 0 rfl
   have hc1:=Ys (rest:=rest) (m:=k) (by omega) (j:=1) (by omega) (9*(k:Int)+9) (9*(k:Int)) J J 1 rfl
   have hc2:=Ys (rest:=rest) (m:=k) (by omega) (j:=2) (by omega) (9*(k:Int)+9) (9*(k:Int)) J J 2 rfl
   have hc3:=Ys (rest:=rest) (m:=k) (by omega) (j:=3) (by omega) (9*(k:Int)+9) (9*(k:Int)) J J 3 rfl
   have hc4:=Ys (rest:=rest) (m:=k) (by omega) (j:=4) (by omega) (9*(k:Int)+9) (9*(k:Int)) J J 4 rfl
   have hc5:=Ys (rest:=rest) (m:=k) (by omega) (j:=5) (by omega) (9*(k:Int)+9) (9*(k:Int)) J J 5 rfl
   have hc6:=Ys (rest:=rest) (m:=k) (by omega) (j:=6) (by omega) (9*(k:Int)+9) (9*(k:Int)) J J 6 rfl
   have hc7:=Ys (rest:=rest) (m:=k) (by omega) (j:=7) (by omega) (9*(k:Int)+9) (9*(k:Int)) J J 7 rfl
   have hc8:=Ys (rest:=rest) (m:=k) (by omega) (j:=8) (by omega) (9*(k:Int)+9) (9*(k:Int)) J J 8 rfl
   have hlbk3:(els (bodiesOf rest k)).length=k:=by omega
   have hlt:(9*(k:Int)+9≤(els rest).length):=by omega
   have hk24:k≤24:=by omega
   have hknb:k<nb:=by omega
   clear hwg hwo hform hre hcl hdl h3 h2 hin2 hin hbt hl264 hl21 hl22 ha0 ha1 ha2 h hu1 hu2 hu3 hu4 hll hui hrl hrl2 hn hpl hlbk hlbk2 hp_A hk9 h4
   refine Wz [11,99,18] ?_;refine zx (q_part J J J J J J (by omega)) J ?_;refine Wz [2] ?_;refine Xi [[],[0],[],[2],[2,3],[],[5],[5,6],[],[8],[8,9],[],[11],[11,12],[],[14],[14,15],[],[17],[17,18],[],[20],[20,21],[],[23],[23,24],[],[26],[26,27],[2,3,4,5,6,7,8,9,10,11,12,13,14,15,16,17,18,19,20,21,22,23,24,25,26,27,28],[2,3,4,5,6,7,8,9,10,11,12,13,14,15,16,17,18,19,20,21,22,23,24,25,26,27,28,29],(u9 31),(u9 32),(u9 33)] [[],[89],[],[91],[91,92],[],[94],[94,95],[],[97],[97,98],[],[100],[100,101],[],[103],[103,104],[],[106],[106,107],[],[109],[109,110],[],[112],[112,113],[],[115],[115,116],[91,92,93,94,95,96,97,98,99,100,101,102,103,104,105,106,107,108,109,110,111,112,113,114,115,116,117],[91,92,93,94,95,96,97,98,99,100,101,102,103,104,105,106,107,108,109,110,111,112,113,114,115,116,117,118],[89,90,91,92,93,94,95,96,97,98,99,100,101,102,103,104,105,106,107,108,109,110,111,112,113,114,115,116,117,118,119],[89,90,91,92,93,94,95,96,97,98,99,100,101,102,103,104,105,106,107,108,109,110,111,112,113,114,115,116,117,118,119,120],[89,90,91,92,93,94,95,96,97,98,99,100,101,102,103,104,105,106,107,108,109,110,111,112,113,114,115,116,117,118,119,120,121]] [[91,92,93,94,95,96,97,98,99,100,101,102,103,104,105,106,107,108,109,110,111,112,113,114,115,116,117,118,119],[91,92,93,94,95,96,97,98,99,100,101,102,103,104,105,106,107,108,109,110,111,112,113,114,115,116,117,118,119],[89,90,94,95,96,97,98,99,100,101,102,103,104,105,106,107,108,109,110,111,112,113,114,115,116,117],[89,90,94,95,96,97,98,99,100,101,102,103,104,105,106,107,108,109,110,111,112,113,114,115,116,117],[89,90,94,95,96,97,98,99,100,101,102,103,104,105,106,107,108,109,110,111,112,113,114,115,116,117],[89,90,91,92,93,97,98,99,100,101,102,103,104,105,106,107,108,109,110,111,112,113,114,115,116,117],[89,90,91,92,93,97,98,99,100,101,102,103,104,105,106,107,108,109,110,111,112,113,114,115,116,117],[89,90,91,92,93,97,98,99,100,101,102,103,104,105,106,107,108,109,110,111,112,113,114,115,116,117],[89,90,91,92,93,94,95,96,100,101,102,103,104,105,106,107,108,109,110,111,112,113,114,115,116,117],[89,90,91,92,93,94,95,96,100,101,102,103,104,105,106,107,108,109,110,111,112,113,114,115,116,117],[89,90,91,92,93,94,95,96,100,101,102,103,104,105,106,107,108,109,110,111,112,113,114,115,116,117],[89,90,91,92,93,94,95,96,97,98,99,103,104,105,106,107,108,109,110,111,112,113,114,115,116,117],[89,90,91,92,93,94,95,96,97,98,99,103,104,105,106,107,108,109,110,111,112,113,114,115,116,117],[89,90,91,92,93,94,95,96,97,98,99,103,104,105,106,107,108,109,110,111,112,113,114,115,116,117],[89,90,91,92,93,94,95,96,97,98,99,100,101,102,106,107,108,109,110,111,112,113,114,115,116,117],[89,90,91,92,93,94,95,96,97,98,99,100,101,102,106,107,108,109,110,111,112,113,114,115,116,117],[89,90,91,92,93,94,95,96,97,98,99,100,101,102,106,107,108,109,110,111,112,113,114,115,116,117],[89,90,91,92,93,94,95,96,97,98,99,100,101,102,103,104,105,109,110,111,112,113,114,115,116,117],[89,90,91,92,93,94,95,96,97,98,99,100,101,102,103,104,105,109,110,111,112,113,114,115,116,117],[89,90,91,92,93,94,95,96,97,98,99,100,101,102,103,104,105,109,110,111,112,113,114,115,116,117],[89,90,91,92,93,94,95,96,97,98,99,100,101,102,103,104,105,106,107,108,112,113,114,115,116,117],[89,90,91,92,93,94,95,96,97,98,99,100,101,102,103,104,105,106,107,108,112,113,114,115,116,117],[89,90,91,92,93,94,95,96,97,98,99,100,101,102,103,104,105,106,107,108,112,113,114,115,116,117],[89,90,91,92,93,94,95,96,97,98,99,100,101,102,103,104,105,106,107,108,109,110,111,115,116,117],[89,90,91,92,93,94,95,96,97,98,99,100,101,102,103,104,105,106,107,108,109,110,111,115,116,117],[89,90,91,92,93,94,95,96,97,98,99,100,101,102,103,104,105,106,107,108,109,110,111,115,116,117],[89,90,91,92,93,94,95,96,97,98,99,100,101,102,103,104,105,106,107,108,109,110,111,112,113,114],[89,90,91,92,93,94,95,96,97,98,99,100,101,102,103,104,105,106,107,108,109,110,111,112,113,114],[89,90,91,92,93,94,95,96,97,98,99,100,101,102,103,104,105,106,107,108,109,110,111,112,113,114],[89,90],[89,90],[],[],[]] J ?_;refine Wz [28,5,85,5,85,5,85,5,85,5,85,5,85,5,85,5,85,5,85] ?_;refine DR.s (x := .o (.ag [jv ((rest.drop (9*k)).getD 0 0),jv ((rest.drop (9*k)).getD 1 0),jv ((rest.drop (9*k)).getD 2 0),jv ((rest.drop (9*k)).getD 3 0),jv ((rest.drop (9*k)).getD 4 0),jv ((rest.drop (9*k)).getD 5 0),jv ((rest.drop (9*k)).getD 6 0),jv ((rest.drop (9*k)).getD 7 0),jv ((rest.drop (9*k)).getD 8 0)])) (Zz J J J J (by kernel_rfl)) J J ?_;refine Wz [176,21] ?_;refine AL.weak (st':=(⟨_,[(4,.o (.c (.ptr 1 0))),(10,.o (.c (.ptr 4 0))),(11,.o (.c (.rd [2] (.sl 1 (els rest))))),(12,I (9*(k:Int))),(90,.o (.c (.ref 6))),(119,.o (.c (.sb 7 1 9)))],[.box ((Enc.e lv).map (V1.rd [])),.box [nilV,jv 0,jv 0,nilV,nilV],.row 1 (els l),.row 1 (els lv.Rows),.box [.ref 3,jv (l.getD 0 0),jv (l.getD 1 0),.ref 5,.ref 6],.row 1 (els ((l.drop 3).take p)),.row 9 (els (bodiesOf rest k)),.box [jv ((rest.drop (9*k)).getD 0 0),jv ((rest.drop (9*k)).getD 1 0),jv ((rest.drop (9*k)).getD 2 0),jv ((rest.drop (9*k)).getD 3 0),jv ((rest.drop (9*k)).getD 4 0),jv ((rest.drop (9*k)).getD 5 0),jv ((rest.drop (9*k)).getD 6 0),jv ((rest.drop (9*k)).getD 7 0),jv ((rest.drop (9*k)).getD 8 0)]]⟩:St)) (Gi [0,1,2,3,4,5,6,7]) ?_;refine Wz [121,144,51,129] ?_
   exact⟨nb-(k+1),by omega,(fun k:Nat=>(⟨_,[(4,.o (.c (.ptr 1 0))),(10,.o (.c (.ptr 4 0))),(11,.o (.c (.rd [2] (.sl 1 (els rest))))),(12,I (9*(k:Int)))],[.box ((Enc.e lv).map (V1.rd [])),.box [nilV,jv 0,jv 0,nilV,nilV],.row 1 (els l),.row 1 (els lv.Rows),.box [.ref 3,jv (l.getD 0 0),jv (l.getD 1 0),.ref 5,.ref 6],.row 1 (els ((l.drop 3).take p)),.row 9 (els (bodiesOf rest k))]⟩:St)) (k+1),⟨k+1,by omega,trivial,J⟩,Ga [0,1,2,3,4,5,6] J (row7 (by rw[bodiesOf_snoc,Yu]; rfl)) (.c J (.c J (.c J (.cons (Xz (by omega)) (.nil)))))⟩
  ·have h4:=Gqf h4
   have hkn:k=nb:=by omega
   subst hkn
   have hwk:=Xw ⟨lv,l.getD 0 0,l.getD 1 0,(l.drop 3).take p,bodiesOf rest k⟩ hwg
   cases ho:worldOk ⟨lv,l.getD 0 0,l.getD 1 0,(l.drop 3).take p,bodiesOf rest k⟩ with
   |false =>
    rw[ho] at hwk
    rw[Kr hu (fun hh=>by have h9:=hh.2.2; rw[hwo,ho] at h9; cases h9)]
    refine Wz [27,55] ?_;refine zx (Qj J J (hwk) J) J ?_;refine Wz [9,50,77,63] ?_
    exact qo J J (Yc [1,1,9] [7,8,9] J J (by decide) J J J)
   |true =>
    rw[ho] at hwk
    rw[Kt hu ⟨by omega,hform,by rw[hwo]; exact ho⟩,hwo]
    refine Wz [27,55] ?_;refine zx (Qj J J (hwk) J) J ?_;refine Wz [73,14,36,17] ?_
    exact qo J J (Gc [3,5,6] J J J)
end
section
open Go.RowKit

theorem row6 {a b c d e:Ob} {k:Nat} {x y:List (List T)} (h:x=y) : [a,b,c,d,e,Ob.row k x] = [a,b,c,d,e,Ob.row k y]:=by rw[h]
theorem plain_dt (l:List Int) (a b:Nat):plainT (((els l).take a).drop b):=fun e he=>Yy l e (Gxk (Gx0 he))
theorem k_dt (l:List Int) (a b:Nat):∀ e∈((els l).take a).drop b,e.length=1:=fun e he=>els_k l e (Gxk (Gx0 he))
theorem world_bytes_eq {lv:TLevel} {s:ByteArray} {l:List Int} {pos:Nat} (hu:unpackInts s 0=some (l,pos)) (hp:pos=s.size) (hf:formOk l):worldBytes (worldOf lv l)=s↔worldOk (worldOf lv l)=true:=by
 have hcn:=unpackInts_canon hu
 have hb:=bytesL_all s pos (by omega)
 have hs:packInts l=s:=by rw[hcn]; exact hb.2 hp
 cases ho:worldOk (worldOf lv l) with
 |true =>
  rw[show worldBytes (worldOf lv l)=packInts (worldInts (worldOf lv l)) by rw[worldBytes,ho]; exact if_pos rfl,worldOf_ints hf]
  exact⟨fun _=>rfl,fun _=>hs⟩
 |false =>
  rw[show worldBytes (worldOf lv l)=⟨#[]⟩ by rw[worldBytes,ho]; exact if_neg (by decide)]
  refine⟨fun h => ?_,fun h=>by cases h⟩
  have h1:=(Vb hu).2.1
  rw[hp,←h] at h1
  exact absurd h1 (by decide)
theorem body_cells {l rest:List Int} {c q:Nat} (hr:rest=l.drop c):Enc.e (bodyOf (rest.drop (9*q))) = [.v (.int .i64 (l.getD (c+9*q+0) 0)),.v (.int .i64 (l.getD (c+9*q+1) 0)),.v (.int .i64 (l.getD (c+9*q+2) 0)),.v (.int .i64 (l.getD (c+9*q+3) 0)),.v (.int .i64 (l.getD (c+9*q+4) 0)),.v (.int .i64 (l.getD (c+9*q+5) 0)),.v (.int .i64 (l.getD (c+9*q+6) 0)),.v (.int .i64 (l.getD (c+9*q+7) 0)),.v (.int .i64 (l.getD (c+9*q+8) 0))]:=by
 have h:∀ j,(rest.drop (9*q)).getD j 0=l.getD (c+9*q+j) 0:=fun j=>by
  rw[hr,List.drop_drop,Gqc,Gqc,Gq5]
 show [T.v (.int .i64 ((rest.drop (9*q)).getD 0 0)),.v (.int .i64 ((rest.drop (9*q)).getD 1 0)),.v (.int .i64 ((rest.drop (9*q)).getD 2 0)),.v (.int .i64 ((rest.drop (9*q)).getD 3 0)),.v (.int .i64 ((rest.drop (9*q)).getD 4 0)),.v (.int .i64 ((rest.drop (9*q)).getD 5 0)),.v (.int .i64 ((rest.drop (9*q)).getD 6 0)),.v (.int .i64 ((rest.drop (9*q)).getD 7 0)),.v (.int .i64 ((rest.drop (9*q)).getD 8 0))]=_
 simp only[h]
theorem S_ReadWorld (lv:TLevel) (s:ByteArray) (hg:Enc.gd lv) (hL:lv.Rows.length≤1048576) (hs:s.size≤1099511627776):Con Tryz.prog 219 [] [ag lv,astr s] (ownO (Enc.e (rwW (readWorld lv s)))) (.tu [.ag (ownV 0 (Enc.e (rwW (readWorld lv s)))),.c (bv (rwB (readWorld lv s)))]):=by
 have hui:=S_UnpackInts s 0 hs ⟨by omega,by omega⟩
 cases hu:unpackInts s 0 with
 |none =>
  rw[hu] at hui
  rw[Ks hu]
  refine Con.of Tryz.func219 J Tryz.ntmps219 J (fun E => ?_)
  refine Wz [53,49] ?_;refine M1 (Z3 J J (hui) J J J) J J ?_;refine Wz [84,45,25,0,57,70,25,45,70,25,45,57,70,25,45,161,70,25,50,77,63] ?_
  exact qo J J (Yc [1,1,9] [3,4,5] J J (by decide) J J J)
 | some r =>
  obtain⟨l,pos⟩:=r
  rw[hu] at hui
  obtain⟨_,hu1,hu2,hu3,hu4⟩:=Vb hu
  have hll:=Yx l
  by_cases c1:(pos:Int)≠s.size
  ·have hb1:decide ((pos:Int)≠s.size)=true:=Gqb c1
   rw[Kr hu (fun hh=>by have:=hh.1; omega)]
   refine Con.of Tryz.func219 J Tryz.ntmps219 J (fun E => ?_)
   refine Wz [53,49] ?_;refine M1 (Z3 J J (hui) J J J) J J ?_;refine Wz [84,81,72,1,24,6,0,57,70,25,45,70,25,45,57,70,25,45,161,70,25,50,77,63] ?_
   exact qo J J (Yc [1,1,9] [3,4,5] J J (by decide) J J J)
  have hb1:decide ((pos:Int)≠s.size)=false:=Gqa c1
  by_cases c2:((els l).length:Int)<3
  ·have hb2:decide (((els l).length:Int)<3)=true:=Gqb c2
   rw[Kr hu (fun hh=>by have:=hh.2.1.1; omega)]
   refine Con.of Tryz.func219 J Tryz.ntmps219 J (fun E => ?_)
   refine Wz [53,49] ?_;refine M1 (Z3 J J (hui) J J J) J J ?_;refine Wz [84,81,72,1,24,6,19,97,12,6,45,70,25,45,57,70,25,45,161,70,25,50,77,63] ?_
   exact qo J J (Yc [1,1,9] [3,4,5] J J (by decide) J J J)
  have hb2:decide (((els l).length:Int)<3)=false:=Gqa c2
  have ha0:=Yw (l:=l) (j:=0) (by omega) 0 rfl
  have ha1:=Yw (l:=l) (j:=1) (by omega) 1 rfl
  have ha2:=Yw (l:=l) (j:=2) (by omega) 2 rfl
  obtain⟨l2,hl2⟩:∃ l2,l.getD 2 0=l2:=⟨_,rfl⟩
  rw[hl2] at ha2
  have hbt:=Ya l2 1 4
  by_cases hin:inR l2 1 4=true
  case neg =>
   have hf:inR l2 1 4=false:=by simpa using hin
   rw[hf] at hbt
   rw[Kr hu (fun hh=>by have:=hh.2.1.2.1; rw[hl2,←Za] at this; exact hin this)]
   refine Con.of Tryz.func219 J Tryz.ntmps219 J (fun E => ?_)
   refine Wz [53,49] ?_;refine M1 (Z3 J J (hui) J J J) J J ?_;refine Wz [84,81,72,1,24,6,19,97,12,6,19,47,1,124,1] ?_;refine zx (Qj J J (hbt) J) J ?_;refine Wz [1,9,6,45,57,70,25,45,161,70,25,50,77,63] ?_
   exact qo J J (Yc [1,1,9] [3,4,5] J J (by decide) J J J)
  rw[hin] at hbt
  have hin2:=Za.1 hin
  obtain⟨p,rfl⟩:∃ p:Nat,l2=p:=⟨l2.toNat,by omega⟩
  by_cases c4:((els l).length:Int)<3+(p:Int)
  ·have hb4:decide (((els l).length:Int)<3+(p:Int))=true:=Gqb c4
   rw[Kr hu (fun hh=>by have:=hh.2.1.2.2.1; omega)]
   refine Con.of Tryz.func219 J Tryz.ntmps219 J (fun E => ?_)
   refine Wz [53,49] ?_;refine M1 (Z3 J J (hui) J J J) J J ?_;refine Wz [84,81,72,1,24,6,19,97,12,6,19,47,1,124,1] ?_;refine zx (Qj J J (hbt) J) J ?_;refine Wz [1,9,6,19,97,31,47,1,124,1,18,1,12,6,45,161,70,25,50,77,63] ?_
   exact qo J J (Yc [1,1,9] [3,4,5] J J (by decide) J J J)
  have hb4:decide (((els l).length:Int)<3+(p:Int))=false:=Gqa c4
  by_cases c5:(((els l).length:Int)-3-(p:Int))%9≠0
  ·have hb5:decide ((((els l).length:Int)-3-(p:Int))%9≠0)=true:=Gqb c5
   rw[Kr hu (fun hh=>by have:=hh.2.1.2.2.2; rw[hl2] at this; omega)]
   refine Con.of Tryz.func219 J Tryz.ntmps219 J (fun E => ?_)
   refine Wz [53,49] ?_;refine M1 (Z3 J J (hui) J J J) J J ?_;refine Wz [84,81,72,1,24,6,19,97,12,6,19,47,1,124,1] ?_;refine zx (Qj J J (hbt) J) J ?_;refine Wz [1,9,6,19,97,31,47,1,124,1,18,1,12,6,19,97,118,31,47,1,124,1,118,149,1,24,6,50,77,63] ?_
   exact qo J J (Yc [1,1,9] [3,4,5] J J (by decide) J J J)
  have hb5:decide ((((els l).length:Int)-3-(p:Int))%9≠0)=false:=Gqa c5
  obtain⟨rest,hrest⟩:∃ rest,rest=l.drop (3+p):=⟨_,rfl⟩
  have hrl:rest.length=l.length-(3+p):=by rw[hrest]; simp
  obtain⟨nb,hn⟩:∃ nb,rest.length=9*nb:=⟨rest.length/9,by omega⟩
  have hform:formOk l:=⟨by omega,by rw[hl2]; exact hin2,by rw[hl2]; omega,by rw[hl2]; omega⟩
  have hwo:worldOf lv l=⟨lv,l.getD 0 0,l.getD 1 0,(l.drop 3).take p,bodiesOf rest nb⟩:=by
   rw[worldOf,hl2,Int.toNat_natCast,←hrest,show (l.length-3-p)/9=nb by omega]
  have hwg:=worldOf_gd (lv:=lv) hg hu4 (by omega)
  rw[hwo] at hwg
  have hwb:=world_bytes_eq (lv:=lv) hu (by omega) hform
  rw[hwo] at hwb
  have hpl:((((els l).take ((3:Int)+(p:Int)).toNat).drop (3:Int).toNat)).length=p:=by
   rw[Gxa,Gqz,hll]; omega
  have hsc:els ((l.drop 3).take p)=(((els l).take ((3:Int)+(p:Int)).toNat).drop (3:Int).toNat):=by
   rw[show ((3:Int)+(p:Int)).toNat=3+p by omega,show (3:Int).toNat=3 from rfl,List.drop_take,←els_dropE,←Y0,show 3+p-3=p by omega]
  refine Con.of Tryz.func219 J Tryz.ntmps219 J (fun E => ?_)
  refine Wz [53,49] ?_;refine M1 (Z3 J J (hui) J J J) J J ?_;refine Wz [84,81,72,1,24,6,19,97,12,6,19,47,1,124,1] ?_;refine zx (Qj J J (hbt) J) J ?_;refine Wz [1,9,6,19,97,31,47,1,124,1,18,1,12,6,19,97,118,31,47,1,124,1,118,149,1,24,60,10,47,124,105,8] ?_;refine Xi [[],[0],[],[2],[2,3],[],[5],[5,6],[],[],[],[9,10],[0,1,8,9,10,11],(u9 13),[],(u9 15)] [[],[63],[],[65],[65,66],[],[68],[68,69],[],[],[],[72,73],[63,64,71,72,73,74],[63,64,65,66,67,68,69,70,71,72,73,74,75],[],[10,63,64,65,66,67,68,69,70,71,72,73,74,75,76]] [[10,65,66,67,68,69,70,71,72,73,74],[10,65,66,67,68,69,70,71,72,73,74],[10,63,64,68,69,70,71,72,73,74,75],[10,63,64,68,69,70,71,72,73,74,75],[10,63,64,68,69,70,71,72,73,74,75],[10,63,64,65,66,67,71,72,73,74,75],[10,63,64,65,66,67,71,72,73,74,75],[10,63,64,65,66,67,71,72,73,74,75],[10,63,64,65,66,67,68,69,70,72,73,74],[10,63,64,65,66,67,68,69,70,71,73],[10,63,64,65,66,67,68,69,70,71,72],[10,63,64,65,66,67,68,69,70,71],[10,65,66,67,68,69,70],[10],[63,64,65,66,67,68,69,70,71,72,73,74,75,76],[]] J (Vk (Qu J J J J J J) J ?_);refine Vk (Z3 J J (X9 lv hg hL) J J J) J ?_;refine Wz [5,128,151,5,128,151,270,34] ?_;refine Vk (q_partr J J J J J J J (by omega)) J ?_;refine Vk (q_appz J J J J J J (plain_dt _ _ _) (k_dt _ _ _) (by omega) (by omega) (by omega)) J ?_;refine Wz [279,195,21] ?_;refine AL.weak (st':=(⟨_,[(1,S s),(4,.o (.c (.ptr 1 0))),(6,.o (.c (.ref 2))),(9,I (3+(p:Int))),(10,.o (.c (.ptr 4 0))),(76,.o (.ag [.ref 3,jv (l.getD 0 0),jv (l.getD 1 0),.ref 5,nilV]))],[.box ((Enc.e lv).map (V1.rd [])),.box [nilV,jv 0,jv 0,nilV,nilV],.row 1 (els l),.row 1 (els lv.Rows),.box [nilV,jv 0,jv 0,nilV,nilV],.row 1 (els ((l.drop 3).take p))]⟩:St)) (Ga [0,1,2,3,6,5] J (row6 hsc) (.c J (.c J (.c J (.c J (.c J (.c J (.nil)))))))) ?_;refine AL.weak (Wk.refl _) ?_;refine Wz [56,40,192] ?_
  refine AWP.pre ?_ (Wk.nilbox (p:=4) (i:=4) 9 J J)
  skip
  refine Xj (fun m st=>∃ q:Nat,q+m=nb∧(True)∧st=(⟨_,[(1,S s),(4,.o (.c (.ptr 1 0))),(6,.o (.c (.ref 2))),(10,.o (.c (.ptr 4 0))),(11,I ((3+p+9*q:Nat):Int))],[.box ((Enc.e lv).map (V1.rd [])),.box [nilV,jv 0,jv 0,nilV,nilV],.row 1 (els l),.row 1 (els lv.Rows),.box [.ref 3,jv (l.getD 0 0),jv (l.getD 1 0),.ref 5,.ref 6],.row 1 (els ((l.drop 3).take p)),.row 9 (els (bodiesOf rest q))]⟩:St)) (nb) ⟨(fun q:Nat=>(⟨_,[(1,S s),(4,.o (.c (.ptr 1 0))),(6,.o (.c (.ref 2))),(10,.o (.c (.ptr 4 0))),(11,I ((3+p+9*q:Nat):Int))],[.box ((Enc.e lv).map (V1.rd [])),.box [nilV,jv 0,jv 0,nilV,nilV],.row 1 (els l),.row 1 (els lv.Rows),.box [.ref 3,jv (l.getD 0 0),jv (l.getD 1 0),.ref 5,.ref 6],.row 1 (els ((l.drop 3).take p)),.row 9 (els (bodiesOf rest q))]⟩:St)) 0,⟨0,by omega,trivial,J⟩,Ga [0,1,2,3,4,5,6] J (by kernel_rfl) (.c J (.c J (.c J (.c J (.cons (Xz (by omega)) (.nil))))))⟩ ?_
  rintro m_A _ ⟨q,hk_A,hp_A,rfl⟩
  have hlbk:=Yx (bodiesOf rest q)
  have hlbk2:=Ym rest q
  by_cases h4:((3+p+9*q:Nat):Int)<(els l).length
  ·have hb6:decide (((3+p+9*q:Nat):Int)<(els l).length)=true:=Gqb h4
   have hc0:=Yw (l:=l) (j:=3+p+9*q+0) (by omega) (((3+p+9*q:Nat):Int)) (by omega)
   have hc1:=Yw (l:=l) (j:=3+p+9*q+1) (by omega) (((3+p+9*q:Nat):Int)+1) (by omega)
   have hc2:=Yw (l:=l) (j:=3+p+9*q+2) (by omega) (((3+p+9*q:Nat):Int)+2) (by omega)
   have hc3:=Yw (l:=l) (j:=3+p+9*q+3) (by omega) (((3+p+9*q:Nat):Int)+3) (by omega)
   have hc4:=Yw (l:=l) (j:=3+p+9*q+4) (by omega) (((3+p+9*q:Nat):Int)+4) (by omega)
   have hc5:=Yw (l:=l) (j:=3+p+9*q+5) (by omega) (((3+p+9*q:Nat):Int)+5) (by omega)
   have hc6:=Yw (l:=l) (j:=3+p+9*q+6) (by omega) (((3+p+9*q:Nat):Int)+6) (by omega)
   have hc7:=Yw (l:=l) (j:=3+p+9*q+7) (by omega) (((3+p+9*q:Nat):Int)+7) (by omega)
   have hc8:=Yw (l:=l) (j:=3+p+9*q+8) (by omega) (((3+p+9*q:Nat):Int)+8) (by omega)
   have hbc:=body_cells (q:=q) hrest
   have hq24:(els (bodiesOf rest q)).length≤1099511627776:=by omega
   have hlt:((3+p+9*q:Nat):Int)+9≤(els l).length:=by omega
   have hidx:(3+p+9*q:Nat)≤1099511627776:=by omega
   have hqnb:q<nb:=by omega
   clear hwg hwo hwb hform hsc hbt hin2 hin ha0 ha1 ha2 hl2 hb1 hb2 hb4 hb5 c1 c2 c4 c5 hu1 hu2 hu3 hu4 hui hpl hrl hn hll hlbk hlbk2 hp_A
   refine Wz [20,102,75,11] ?_;refine Xi [[],[0],[],[],[2,3],[2,3,4],[],[],[7],[6,7,8],[6,7,8,9],[],[],[12],[11,12,13],[11,12,13,14],[],[],[17],[16,17,18],[16,17,18,19],[],[],[22],[21,22,23],[21,22,23,24],[],[],[27],[26,27,28],[26,27,28,29],[],[],[32],[31,32,33],[31,32,33,34],[],[],[37],[36,37,38],[36,37,38,39],[],[],[42],[41,42,43],[41,42,43,44],[2,3,4,5,6,7,8,9,10,11,12,13,14,15,16,17,18,19,20,21,22,23,24,25,26,27,28,29,30,31,32,33,34,35,36,37,38,39,40,41,42,43,44,45],[2,3,4,5,6,7,8,9,10,11,12,13,14,15,16,17,18,19,20,21,22,23,24,25,26,27,28,29,30,31,32,33,34,35,36,37,38,39,40,41,42,43,44,45,46],(u9 48),(u9 49),(u9 50)] [[],[84],[],[],[86,87],[86,87,88],[],[],[91],[90,91,92],[90,91,92,93],[],[],[96],[95,96,97],[95,96,97,98],[],[],[101],[100,101,102],[100,101,102,103],[],[],[106],[105,106,107],[105,106,107,108],[],[],[111],[110,111,112],[110,111,112,113],[],[],[116],[115,116,117],[115,116,117,118],[],[],[121],[120,121,122],[120,121,122,123],[],[],[126],[125,126,127],[125,126,127,128],[86,87,88,89,90,91,92,93,94,95,96,97,98,99,100,101,102,103,104,105,106,107,108,109,110,111,112,113,114,115,116,117,118,119,120,121,122,123,124,125,126,127,128,129],[86,87,88,89,90,91,92,93,94,95,96,97,98,99,100,101,102,103,104,105,106,107,108,109,110,111,112,113,114,115,116,117,118,119,120,121,122,123,124,125,126,127,128,129,130],[84,85,86,87,88,89,90,91,92,93,94,95,96,97,98,99,100,101,102,103,104,105,106,107,108,109,110,111,112,113,114,115,116,117,118,119,120,121,122,123,124,125,126,127,128,129,130,131],[84,85,86,87,88,89,90,91,92,93,94,95,96,97,98,99,100,101,102,103,104,105,106,107,108,109,110,111,112,113,114,115,116,117,118,119,120,121,122,123,124,125,126,127,128,129,130,131,132],[84,85,86,87,88,89,90,91,92,93,94,95,96,97,98,99,100,101,102,103,104,105,106,107,108,109,110,111,112,113,114,115,116,117,118,119,120,121,122,123,124,125,126,127,128,129,130,131,132,133]] [[86,87,88,89,90,91,92,93,94,95,96,97,98,99,100,101,102,103,104,105,106,107,108,109,110,111,112,113,114,115,116,117,118,119,120,121,122,123,124,125,126,127,128,129,130,131],[86,87,88,89,90,91,92,93,94,95,96,97,98,99,100,101,102,103,104,105,106,107,108,109,110,111,112,113,114,115,116,117,118,119,120,121,122,123,124,125,126,127,128,129,130,131],[84,85,87,90,91,92,93,94,95,96,97,98,99,100,101,102,103,104,105,106,107,108,109,110,111,112,113,114,115,116,117,118,119,120,121,122,123,124,125,126,127,128,129],[84,85,86,90,91,92,93,94,95,96,97,98,99,100,101,102,103,104,105,106,107,108,109,110,111,112,113,114,115,116,117,118,119,120,121,122,123,124,125,126,127,128,129],[84,85,90,91,92,93,94,95,96,97,98,99,100,101,102,103,104,105,106,107,108,109,110,111,112,113,114,115,116,117,118,119,120,121,122,123,124,125,126,127,128,129],[84,85,90,91,92,93,94,95,96,97,98,99,100,101,102,103,104,105,106,107,108,109,110,111,112,113,114,115,116,117,118,119,120,121,122,123,124,125,126,127,128,129],[84,85,86,87,88,89,91,92,95,96,97,98,99,100,101,102,103,104,105,106,107,108,109,110,111,112,113,114,115,116,117,118,119,120,121,122,123,124,125,126,127,128,129],[84,85,86,87,88,89,90,95,96,97,98,99,100,101,102,103,104,105,106,107,108,109,110,111,112,113,114,115,116,117,118,119,120,121,122,123,124,125,126,127,128,129],[84,85,86,87,88,89,90,95,96,97,98,99,100,101,102,103,104,105,106,107,108,109,110,111,112,113,114,115,116,117,118,119,120,121,122,123,124,125,126,127,128,129],[84,85,86,87,88,89,95,96,97,98,99,100,101,102,103,104,105,106,107,108,109,110,111,112,113,114,115,116,117,118,119,120,121,122,123,124,125,126,127,128,129],[84,85,86,87,88,89,95,96,97,98,99,100,101,102,103,104,105,106,107,108,109,110,111,112,113,114,115,116,117,118,119,120,121,122,123,124,125,126,127,128,129],[84,85,86,87,88,89,90,91,92,93,94,96,97,100,101,102,103,104,105,106,107,108,109,110,111,112,113,114,115,116,117,118,119,120,121,122,123,124,125,126,127,128,129],[84,85,86,87,88,89,90,91,92,93,94,95,100,101,102,103,104,105,106,107,108,109,110,111,112,113,114,115,116,117,118,119,120,121,122,123,124,125,126,127,128,129],[84,85,86,87,88,89,90,91,92,93,94,95,100,101,102,103,104,105,106,107,108,109,110,111,112,113,114,115,116,117,118,119,120,121,122,123,124,125,126,127,128,129],[84,85,86,87,88,89,90,91,92,93,94,100,101,102,103,104,105,106,107,108,109,110,111,112,113,114,115,116,117,118,119,120,121,122,123,124,125,126,127,128,129],[84,85,86,87,88,89,90,91,92,93,94,100,101,102,103,104,105,106,107,108,109,110,111,112,113,114,115,116,117,118,119,120,121,122,123,124,125,126,127,128,129],[84,85,86,87,88,89,90,91,92,93,94,95,96,97,98,99,101,102,105,106,107,108,109,110,111,112,113,114,115,116,117,118,119,120,121,122,123,124,125,126,127,128,129],[84,85,86,87,88,89,90,91,92,93,94,95,96,97,98,99,100,105,106,107,108,109,110,111,112,113,114,115,116,117,118,119,120,121,122,123,124,125,126,127,128,129],[84,85,86,87,88,89,90,91,92,93,94,95,96,97,98,99,100,105,106,107,108,109,110,111,112,113,114,115,116,117,118,119,120,121,122,123,124,125,126,127,128,129],[84,85,86,87,88,89,90,91,92,93,94,95,96,97,98,99,105,106,107,108,109,110,111,112,113,114,115,116,117,118,119,120,121,122,123,124,125,126,127,128,129],[84,85,86,87,88,89,90,91,92,93,94,95,96,97,98,99,105,106,107,108,109,110,111,112,113,114,115,116,117,118,119,120,121,122,123,124,125,126,127,128,129],[84,85,86,87,88,89,90,91,92,93,94,95,96,97,98,99,100,101,102,103,104,106,107,110,111,112,113,114,115,116,117,118,119,120,121,122,123,124,125,126,127,128,129],[84,85,86,87,88,89,90,91,92,93,94,95,96,97,98,99,100,101,102,103,104,105,110,111,112,113,114,115,116,117,118,119,120,121,122,123,124,125,126,127,128,129],[84,85,86,87,88,89,90,91,92,93,94,95,96,97,98,99,100,101,102,103,104,105,110,111,112,113,114,115,116,117,118,119,120,121,122,123,124,125,126,127,128,129],[84,85,86,87,88,89,90,91,92,93,94,95,96,97,98,99,100,101,102,103,104,110,111,112,113,114,115,116,117,118,119,120,121,122,123,124,125,126,127,128,129],[84,85,86,87,88,89,90,91,92,93,94,95,96,97,98,99,100,101,102,103,104,110,111,112,113,114,115,116,117,118,119,120,121,122,123,124,125,126,127,128,129],[84,85,86,87,88,89,90,91,92,93,94,95,96,97,98,99,100,101,102,103,104,105,106,107,108,109,111,112,115,116,117,118,119,120,121,122,123,124,125,126,127,128,129],[84,85,86,87,88,89,90,91,92,93,94,95,96,97,98,99,100,101,102,103,104,105,106,107,108,109,110,115,116,117,118,119,120,121,122,123,124,125,126,127,128,129],[84,85,86,87,88,89,90,91,92,93,94,95,96,97,98,99,100,101,102,103,104,105,106,107,108,109,110,115,116,117,118,119,120,121,122,123,124,125,126,127,128,129],[84,85,86,87,88,89,90,91,92,93,94,95,96,97,98,99,100,101,102,103,104,105,106,107,108,109,115,116,117,118,119,120,121,122,123,124,125,126,127,128,129],[84,85,86,87,88,89,90,91,92,93,94,95,96,97,98,99,100,101,102,103,104,105,106,107,108,109,115,116,117,118,119,120,121,122,123,124,125,126,127,128,129],[84,85,86,87,88,89,90,91,92,93,94,95,96,97,98,99,100,101,102,103,104,105,106,107,108,109,110,111,112,113,114,116,117,120,121,122,123,124,125,126,127,128,129],[84,85,86,87,88,89,90,91,92,93,94,95,96,97,98,99,100,101,102,103,104,105,106,107,108,109,110,111,112,113,114,115,120,121,122,123,124,125,126,127,128,129],[84,85,86,87,88,89,90,91,92,93,94,95,96,97,98,99,100,101,102,103,104,105,106,107,108,109,110,111,112,113,114,115,120,121,122,123,124,125,126,127,128,129],[84,85,86,87,88,89,90,91,92,93,94,95,96,97,98,99,100,101,102,103,104,105,106,107,108,109,110,111,112,113,114,120,121,122,123,124,125,126,127,128,129],[84,85,86,87,88,89,90,91,92,93,94,95,96,97,98,99,100,101,102,103,104,105,106,107,108,109,110,111,112,113,114,120,121,122,123,124,125,126,127,128,129],[84,85,86,87,88,89,90,91,92,93,94,95,96,97,98,99,100,101,102,103,104,105,106,107,108,109,110,111,112,113,114,115,116,117,118,119,121,122,125,126,127,128,129],[84,85,86,87,88,89,90,91,92,93,94,95,96,97,98,99,100,101,102,103,104,105,106,107,108,109,110,111,112,113,114,115,116,117,118,119,120,125,126,127,128,129],[84,85,86,87,88,89,90,91,92,93,94,95,96,97,98,99,100,101,102,103,104,105,106,107,108,109,110,111,112,113,114,115,116,117,118,119,120,125,126,127,128,129],[84,85,86,87,88,89,90,91,92,93,94,95,96,97,98,99,100,101,102,103,104,105,106,107,108,109,110,111,112,113,114,115,116,117,118,119,125,126,127,128,129],[84,85,86,87,88,89,90,91,92,93,94,95,96,97,98,99,100,101,102,103,104,105,106,107,108,109,110,111,112,113,114,115,116,117,118,119,125,126,127,128,129],[84,85,86,87,88,89,90,91,92,93,94,95,96,97,98,99,100,101,102,103,104,105,106,107,108,109,110,111,112,113,114,115,116,117,118,119,120,121,122,123,124,126,127],[84,85,86,87,88,89,90,91,92,93,94,95,96,97,98,99,100,101,102,103,104,105,106,107,108,109,110,111,112,113,114,115,116,117,118,119,120,121,122,123,124,125],[84,85,86,87,88,89,90,91,92,93,94,95,96,97,98,99,100,101,102,103,104,105,106,107,108,109,110,111,112,113,114,115,116,117,118,119,120,121,122,123,124,125],[84,85,86,87,88,89,90,91,92,93,94,95,96,97,98,99,100,101,102,103,104,105,106,107,108,109,110,111,112,113,114,115,116,117,118,119,120,121,122,123,124],[84,85,86,87,88,89,90,91,92,93,94,95,96,97,98,99,100,101,102,103,104,105,106,107,108,109,110,111,112,113,114,115,116,117,118,119,120,121,122,123,124],[84,85],[84,85],[],[],[]] J ?_;refine Wz [28,34] ?_;refine Vk (Q3 J J J J J (by omega) (by assumption)) J ?_;refine Wz [151,34,181,128,151,34,181,128,151,34,181,128,151,34,181,128,151,34,181,128,151,34,181,128,151,34,181,128,151,34,181] ?_;refine Vk (Q3 J J J J J (by omega) (by assumption)) J (Vk (Q7 J J J J (by assumption) J) J ?_);refine DR.s (x := .o (.ag [jv (l.getD (3+p+9*q+0) 0),jv (l.getD (3+p+9*q+1) 0),jv (l.getD (3+p+9*q+2) 0),jv (l.getD (3+p+9*q+3) 0),jv (l.getD (3+p+9*q+4) 0),jv (l.getD (3+p+9*q+5) 0),jv (l.getD (3+p+9*q+6) 0),jv (l.getD (3+p+9*q+7) 0),jv (l.getD (3+p+9*q+8) 0)])) (Zz J J J J (by kernel_rfl)) J J ?_;refine Wz [176,21] ?_;refine AL.weak (st':=(⟨_,[(1,S s),(4,.o (.c (.ptr 1 0))),(6,.o (.c (.ref 2))),(10,.o (.c (.ptr 4 0))),(11,I ((3+p+9*q:Nat):Int)),(85,.o (.c (.ref 6))),(131,.o (.c (.sb 7 1 9)))],[.box ((Enc.e lv).map (V1.rd [])),.box [nilV,jv 0,jv 0,nilV,nilV],.row 1 (els l),.row 1 (els lv.Rows),.box [.ref 3,jv (l.getD 0 0),jv (l.getD 1 0),.ref 5,.ref 6],.row 1 (els ((l.drop 3).take p)),.row 9 (els (bodiesOf rest q)),.box [jv (l.getD (3+p+9*q+0) 0),jv (l.getD (3+p+9*q+1) 0),jv (l.getD (3+p+9*q+2) 0),jv (l.getD (3+p+9*q+3) 0),jv (l.getD (3+p+9*q+4) 0),jv (l.getD (3+p+9*q+5) 0),jv (l.getD (3+p+9*q+6) 0),jv (l.getD (3+p+9*q+7) 0),jv (l.getD (3+p+9*q+8) 0)]]⟩:St)) (Gi [0,1,2,3,4,5,6,7]) ?_;refine Wz [121,144,51,129] ?_
   exact⟨nb-(q+1),by omega,(fun q:Nat=>(⟨_,[(1,S s),(4,.o (.c (.ptr 1 0))),(6,.o (.c (.ref 2))),(10,.o (.c (.ptr 4 0))),(11,I ((3+p+9*q:Nat):Int))],[.box ((Enc.e lv).map (V1.rd [])),.box [nilV,jv 0,jv 0,nilV,nilV],.row 1 (els l),.row 1 (els lv.Rows),.box [.ref 3,jv (l.getD 0 0),jv (l.getD 1 0),.ref 5,.ref 6],.row 1 (els ((l.drop 3).take p)),.row 9 (els (bodiesOf rest q))]⟩:St)) (q+1),⟨q+1,by omega,trivial,J⟩,Ga [0,1,2,3,4,5,6] J (row7 (by rw[bodiesOf_snoc,Yu,show els [bodyOf (rest.drop (9*q))] = [Enc.e (bodyOf (rest.drop (9*q)))] from J,hbc]; rfl)) (.c J (.c J (.c J (.c J (.cons (Xz (by omega)) (.nil))))))⟩
  ·have hb6:decide (((3+p+9*q:Nat):Int)<(els l).length)=false:=Gqa h4
   have hqn:q=nb:=by omega
   subst hqn
   have hwk:=X8 ⟨lv,l.getD 0 0,l.getD 1 0,(l.drop 3).take p,bodiesOf rest q⟩ hwg
   cases ho:worldOk ⟨lv,l.getD 0 0,l.getD 1 0,(l.drop 3).take p,bodiesOf rest q⟩ with
   |false =>
    have hne:decide (worldBytes ⟨lv,l.getD 0 0,l.getD 1 0,(l.drop 3).take p,bodiesOf rest q⟩≠s)=true:=Gqb fun h=>by rw[hwb,ho] at h; cases h
    rw[Kr hu (fun hh=>by have h9:=hh.2.2; rw[hwo,ho] at h9; cases h9)]
    refine Wz [20,102,12,76,27,55] ?_;refine zx (Qj J J (hwk) J) J ?_;refine Wz [0,226,50,77,63] ?_
    exact qo J J (Yc [1,1,9] [7,8,9] J J (by decide) J J J)
   |true =>
    have hne:decide (worldBytes ⟨lv,l.getD 0 0,l.getD 1 0,(l.drop 3).take p,bodiesOf rest q⟩≠s)=false:=Gqa fun h=>h (hwb.2 ho)
    rw[Kt hu ⟨by omega,hform,by rw[hwo]; exact ho⟩,hwo]
    refine Wz [20,102,12,76,27,55] ?_;refine zx (Qj J J (hwk) J) J ?_;refine Wz [0,226,41,14,36,17] ?_
    exact qo J J (Gc [3,5,6] J J J)
end
section
open Go.RowKit

def keyText (s:ByteArray) (keys:List ByteArray):Nat→Option ByteArray
 |0=>some s
 | n+1=>match keyText s keys n with
  |none=>none
  |some t=>match keys[n]? with
   |none=>none
   |some d=>applyD t d
theorem keyText_none {s:ByteArray} {keys:List ByteArray} {i:Nat} (h:keyText s keys i=none):∀ {n:Nat},i≤n→keyText s keys n=none
 |0,hn=>by have:i=0:=(by omega); subst this; exact h
 |n+1,hn=>by
  by_cases e:i=n+1
  ·subst e; exact h
  ·rw[keyText,keyText_none h (by omega)]
theorem keyText_step {s t d:ByteArray} {keys:List ByteArray} {n:Nat} (h:keyText s keys n=some t) (hk:keys[n]? = some d):keyText s keys (n+1)=applyD t d:=by rw[keyText,h]; simp only[hk]
theorem keyText_len {s:ByteArray} {keys:List ByteArray} (hs:s.size≤20000):∀ {n:Nat} {t:ByteArray},keyText s keys n=some t→t.size≤20000
 |0,t,h=>by cases h; exact hs
 | n+1,t,h=>by
  rw[keyText] at h
  split at h
  ·cases h
  ·split at h
   ·cases h
   ·exact applyD_len h
structure ROk (r:TReplay):Prop where
 l:levelOk r.Level=true
 p:1≤r.Players∧r.Players≤4
 s:inR r.Seed 0 65535=true
 e:1≤r.Every∧r.Every≤100
 k:r.Keys.length≤400
theorem rok {r:TReplay} (h:replayOk r=true):ROk r:=by
 unfold replayOk at h
 simp only[Gqi,decide_eq_true_eq,Za] at h
 obtain⟨⟨⟨⟨⟨⟨h1,h2⟩,h3⟩,h4⟩,h5⟩,h6⟩,h7⟩:=h
 refine⟨h1,h2,Za.2 h3,h4,?_⟩
 have:(r.Rows.length:Int)/r.Every≤r.Rows.length:=Int.ediv_le_self _ (by omega)
 omega
noncomputable def keyWorld (r:TReplay) (k:Nat):Option TWorld:=match keyText (worldBytes (newWorld r.Level r.Players.toNat r.Seed)) r.Keys k with
 |none=>none
 |some s=>match readWorld r.Level s with
  |none=>none
  |some w=>if w.Tick=(k:Int)*r.Every∧(w.Scores.length:Int)=r.Players then some w else none
noncomputable def keyAt (r:TReplay) (k:Int):Option TWorld:=if replayOk r=true ∧ -1≤k∧k<r.Keys.length then (if k<0 then some (newWorld r.Level r.Players.toNat r.Seed) else keyWorld r (k+1).toNat) else none
theorem keyWorld_0 (r:TReplay) (hl:levelOk r.Level=true) (hp:1≤r.Players∧r.Players≤4) (hs:inR r.Seed 0 65535=true):keyWorld r 0=some (newWorld r.Level r.Players.toNat r.Seed):=by
 rw[keyWorld,keyText]
 simp only[newWorld_back hl (n:=r.Players.toNat) (by omega) hs]
 rw[if_pos]
 constructor
 ·show (0:Int)=((0:Nat):Int)*r.Every; simp
 ·simp only[newWorld,Gxw]; omega
theorem Yr (w:TWorld):(worldBytes w).size≤20000:=by
 unfold worldBytes
 split
 ·rename_i h
  have hw:=Vf h
  have h1:=packInts_size (worldInts w)
  have h2:=flat_length w.Bodies
  have h3:(worldInts w).length=3+w.Scores.length+9*w.Bodies.length:=by
   simp only[worldInts,Gqg,Gqx,List.length_nil]; omega
  have h4:=hw.2.2.2.1
  have h5:=hw.2.2.2.2.2.1
  omega
 ·decide
theorem keyAt_bad {r:TReplay} {k:Int} (h:¬(replayOk r=true ∧ -1≤k∧k<r.Keys.length)):keyAt r k=none:=if_neg h
theorem keyAt_neg {r:TReplay} {k:Int} (h:replayOk r=true ∧ -1≤k∧k<r.Keys.length) (hk:k<0):keyAt r k=some (newWorld r.Level r.Players.toNat r.Seed):=by rw[keyAt,if_pos h,if_pos hk]
theorem keyAt_pos {r:TReplay} {k:Int} (h:replayOk r=true ∧ -1≤k∧k<r.Keys.length) (hk:¬k<0):keyAt r k=keyWorld r (k+1).toNat:=by rw[keyAt,if_pos h,if_neg hk]
theorem keyAt_all {r:TReplay} {k:Int} (h:replayOk r=true ∧ -1≤k∧k<r.Keys.length):keyAt r k=keyWorld r (k+1).toNat:=by
 by_cases hk:k<0
 ·have hr:=rok h.1
  rw[keyAt_neg h hk,show (k+1).toNat=0 by omega,keyWorld_0 r hr.l hr.p hr.s]
 ·exact keyAt_pos h hk
section
variable {r:TReplay} {n:Nat} {s:ByteArray} {w:TWorld}
theorem Zc (h:keyText (worldBytes (newWorld r.Level r.Players.toNat r.Seed)) r.Keys n=none):keyWorld r n=none:=by rw[keyWorld,h]
variable (h:keyText (worldBytes (newWorld r.Level r.Players.toNat r.Seed)) r.Keys n=some s)
include h
theorem Zd (h2:readWorld r.Level s=none):keyWorld r n=none:=by rw[keyWorld,h]; simp only[h2]
theorem Zb (h2:readWorld r.Level s=some w) (hn:¬(w.Tick=(n:Int)*r.Every∧(w.Scores.length:Int)=r.Players)):keyWorld r n=none:=by rw[keyWorld,h]; simp only[h2]; rw[if_neg hn]
theorem keyWorld_yes (h2:readWorld r.Level s=some w) (hn:w.Tick=(n:Int)*r.Every∧(w.Scores.length:Int)=r.Players):keyWorld r n=some w:=by rw[keyWorld,h]; simp only[h2]; rw[if_pos hn]
end
theorem keyAt_in {r:TReplay} {k:Int} (hr:RepIn r):WorIn (rwW (keyAt r k)):=by
 by_cases hv:replayOk r=true ∧ -1≤k∧k<r.Keys.length
 ·rw[keyAt_all hv]
  cases ht:keyText (worldBytes (newWorld r.Level r.Players.toNat r.Seed)) r.Keys (k+1).toNat with
  |none=>rw[Zc ht]; exact Vd
  | some s =>
   have hl:=keyText_len (Yr _) ht
   cases hw:readWorld r.Level s with
   |none=>rw[Zd ht hw]; exact Vd
   | some w =>
    by_cases hc:w.Tick=((k+1).toNat:Int)*r.Every∧(w.Scores.length:Int)=r.Players
    ·have:=read_in (lv:=r.Level) (s:=s) hr.gd.1 hr.h1 (by omega)
     rw[hw] at this
     rw[keyWorld_yes ht hw hc]
     exact this
    ·rw[Zb ht hw hc]; exact Vd
 ·rw[keyAt_bad hv]; exact Vd
theorem key_mul {k e:Int} (h0:0≤k) (h1:k≤400) (h2:1≤e) (h3:e≤100):0≤k*e∧k*e≤40000:=⟨Int.mul_nonneg h0 (by omega),by
 have:=Int.mul_le_mul h1 h3 (by omega) (by omega)
 omega⟩
theorem I_KeyAt (r:TReplay) (k:Int) (hg:Enc.gd r) (hk:I64 k) (ir:RepIn r) (hks:∀ x∈r.Keys,x.size≤1048576):Con Tryz.prog 240 [] [ag r,ai k] (ownO (Enc.e (rwW (keyAt r k)))) (.tu [.ag (ownV 0 (Enc.e (rwW (keyAt r k)))),.c (bv (rwB (keyAt r k)))]):=by
 have cr:=Xv r hg
 have hlk:=Yx r.Keys
 obtain⟨hk1,hk2⟩:=hk
 have hL:=ir.h1
 refine Con.of Tryz.func240 J Tryz.ntmps240 J (fun E => ?_)
 refine Wz [53,2,55] ?_;refine zx (Qj J J (cr) J) J ?_;refine Wz [9,106,297,80,106,187,200,210] ?_;refine zx (Vz J (.hit (.hit (.hit (.hit .stop)))) (fun hgrd=>q_geq J J J J)) J ?_;refine Wz [103] ?_
 refine Xb J (fun h => ?_) (fun h => ?_)
 ·rw[keyAt_bad (fun ⟨q1,q2,q3⟩=>by rw[q1] at h; simp at h; omega)]
  refine Wz [4,77,63] ?_
  exact qo J J (Yc [1,1,9] [2,3,4] J J (by decide) J J J)
 simp only[Gqn,Gq4,decide_eq_false_iff_not] at h
 have hv:replayOk r=true ∧ -1≤k∧k<r.Keys.length:=⟨h.1.1,by omega,by omega⟩
 have hr:=rok hv.1
 obtain⟨hp1,hp2⟩:=hr.p
 have hnw:=I_NewWorld r.Level r.Players.toNat r.Seed hg.1 hL hr.l (by omega) hr.s
 rw[show ((r.Players.toNat:Nat):Int)=r.Players by omega] at hnw
 have hgn:=newWorld_gd (n:=r.Players.toNat) hg.1 hr.l (by omega) hr.s
 have hwb:=I_WorldBytes _ hgn
 have hbl:=Yr (newWorld r.Level r.Players.toNat r.Seed)
 refine AWP.pre (st':=(⟨_,[(1,I k),(2,.o (.c (.ptr 0 0))),(4,.o (.c (.ptr 1 0)))],[.box ((Enc.e r).map (V1.rd [])),.box [nilV,jn 0,jn 0,nilV,nilV]]⟩:St)) ?_ (Gi [0,1])
 by_cases hk0:k<0
 ·have e0:decide (k<0)=true:=Gqb hk0
  rw[keyAt_neg hv hk0]
  refine Wz [22,185,16,16] ?_;refine M1 (Z3 J J (hnw) J J J) J J ?_;refine Wz [71,66,36,88,19,12,6,29,14,0,63] ?_
  exact qo J J (Gc [2,3,4] J J J)
 have e0:decide (k<0)=false:=Gqa hk0
 rw[keyAt_pos hv hk0]
 obtain⟨s0,hs0⟩:∃ s0,s0=worldBytes (newWorld r.Level r.Players.toNat r.Seed):=⟨_,rfl⟩
 rw[←hs0] at hwb hbl
 obtain⟨K,hK⟩:∃ K:Nat,k+1=K:=⟨(k+1).toNat,by omega⟩
 have hKl:K≤r.Keys.length:=by omega
 have htl:((els r.Keys).take (k+1).toNat).length=K:=by rw[Gqz]; omega
 have hkk:=hr.k
 rw[show (k+1).toNat=K by omega]
 refine Wz [22,185,16,16] ?_;refine M1 (Z3 J J (hnw) J J J) J J ?_;refine Wz [71,66,36,88,19,12,60,14] ?_;refine zx (Qj J J (hwb) J) J ?_;refine Wz [2,42,0,18] ?_;refine zx (q_part0 J J J J J (by omega)) J ?_;refine Wz [7,142,44] ?_;refine Xj (fun m st=>∃ (i:Nat) (t:ByteArray),i+m=K∧(keyText s0 r.Keys i=some t)∧st=(⟨_,[(1,I k),(2,.o (.c (.ptr 0 0))),(4,.o (.c (.ptr 1 0))),(8,S t),(53,.o (.c (.rd [] (.sl 1 ((els r.Keys).take (k+1).toNat))))),(54,I K),(55,I i)],[.box ((Enc.e r).map (V1.rd [])),.box [nilV,jn 0,jn 0,nilV,nilV]]⟩:St)) (K) ⟨(fun (i:Nat) (t:ByteArray)=>(⟨_,[(1,I k),(2,.o (.c (.ptr 0 0))),(4,.o (.c (.ptr 1 0))),(8,S t),(53,.o (.c (.rd [] (.sl 1 ((els r.Keys).take (k+1).toNat))))),(54,I K),(55,I i)],[.box ((Enc.e r).map (V1.rd [])),.box [nilV,jn 0,jn 0,nilV,nilV]]⟩:St)) 0 (s0),⟨0,s0,by omega,J,J⟩,Ga [0,1] J (by kernel_rfl) (.c J (.c J (.c J (.c J (.c J (.cons (Xz (by rw[htl])) (.c J (.nil))))))))⟩ ?_
 rintro m_A _ ⟨i,t,hk_A,hp_A,rfl⟩
 have htz:=keyText_len hbl hp_A
 refine Wz [4,37,8] ?_
 refine Xb J (fun h3 => ?_) (fun h3 => ?_)
 ·have h3:i<K:=by have:=Gqe h3; omega
  have hil:i<r.Keys.length:=by omega
  have hki:=Gqd hil
  have hat:((els r.Keys).take (k+1).toNat)[(i:Int).toNat]? = some (Enc.e (r.Keys[i])):=by
   rw[Gq9,if_pos (by omega)]
   exact Yv hil
  have hdz:=hks _ (Gqj hil)
  generalize r.Keys[i]=d at hki hat hdz
  have hap:=I_ApplyDelta t d (by omega) (by omega)
  have hst:=keyText_step hp_A hki
  cases hx:applyD t d with
  |none =>
   rw[hx] at hap hst
   rw[Zc (by rw[←hs0]; exact keyText_none hst (by omega))]
   refine Wz [11,4,59,2,13] ?_;refine M1 (Z3 J J (hap) J J J) J J ?_;refine Wz [71,38,88,50,77,36,135,62,145,64] ?_
   exact qo J J (Yc [1,1,9] [2,3,4] J J (by decide) J J J)
  |some t' =>
   rw[hx] at hap hst
   refine Wz [11,4,59,2,13] ?_;refine M1 (Z3 J J (hap) J J J) J J ?_;refine Wz [71,38,88,41,33,141,93] ?_
   exact⟨K-(i+1),by omega,_,⟨i+1,t',by omega,hst,J⟩,Gi [0,1]⟩
 have h3:i=K:=by have:=Gqf h3; omega
 subst h3
 have hrw:=I_ReadWorld r.Level t hg.1 hL (by omega)
 have hkt:keyText (worldBytes (newWorld r.Level r.Players.toNat r.Seed)) r.Keys i=some t:=by rw[←hs0]; exact hp_A
 have hmul:=key_mul (k:=k+1) (e:=r.Every) (by omega) (by omega) hr.e.1 hr.e.2
 cases hw:readWorld r.Level t with
 |none =>
  rw[hw] at hrw
  rw[Zd hkt hw]
  refine Wz [27,120] ?_;refine M1 (Z3 J J (hrw) J J J) J J ?_;refine Wz [71,66,36,88,45,161,25,45,57,25,50,77,63] ?_
  exact qo J J (Yc [1,1,9] [6,7,8] J J (by decide) J J J)
 | some w =>
  rw[hw] at hrw
  have hls:=Yx w.Scores
  by_cases c1:w.Tick=(k+1)*r.Every
  ·have e1:decide (w.Tick≠(k+1)*r.Every)=false:=Gqa (fun q=>q c1)
   by_cases c2:(w.Scores.length:Int)=r.Players
   ·have e2:decide (((els w.Scores).length:Int)≠r.Players)=false:=Gqa (by rw[hls]; exact fun q=>q c2)
    rw[keyWorld_yes hkt hw ⟨by rw[←hK]; exact c1,c2⟩]
    refine Wz [27,120] ?_;refine M1 (Z3 J J (hrw) J J J) J J ?_;refine Wz [71,66,36,88,54,31,18,1,136,117,1,24,6,54,97,136,24,60,14,36,17] ?_
    exact qo J J (Gc [2,3,4] J J J)
   ·have e2:decide (((els w.Scores).length:Int)≠r.Players)=true:=Gqb (by rw[hls]; exact c2)
    rw[Zb hkt hw (fun q=>c2 q.2)]
    refine Wz [27,120] ?_;refine M1 (Z3 J J (hrw) J J J) J J ?_;refine Wz [71,66,36,88,54,31,18,1,136,117,1,24,6,54,97,136,24,6,50,77,63] ?_
    exact qo J J (Yc [1,1,9] [6,7,8] J J (by decide) J J J)
  ·have e1:decide (w.Tick≠(k+1)*r.Every)=true:=Gqb c1
   rw[Zb hkt hw (fun q=>c1 (by rw[hK]; exact q.1))]
   refine Wz [27,120] ?_;refine M1 (Z3 J J (hrw) J J J) J J ?_;refine Wz [71,66,36,88,54,31,18,1,136,117,1,24,6,45,57,25,50,77,63] ?_
   exact qo J J (Yc [1,1,9] [6,7,8] J J (by decide) J J J)
theorem S_KeyAt (r:TReplay) (k:Int) (hg:Enc.gd r) (hk:I64 k) (ir:RepIn r) (hks:∀ x∈r.Keys,x.size≤1048576):Con Tryz.prog 233 [] [ag r,ai k] (ownO (Enc.e (rwW (keyAt r k)))) (.tu [.ag (ownV 0 (Enc.e (rwW (keyAt r k)))),.c (bv (rwB (keyAt r k)))]):=by
 have cr:=X7 r hg
 have hlk:=Yx r.Keys
 have hgk:=ir.h2
 obtain⟨hk1,hk2⟩:=hk
 have hL:=ir.h1
 have ci:=Ya k (-1) (((els r.Keys).length:Int)-1)
 refine Con.of Tryz.func233 J Tryz.ntmps233 J (fun E => ?_)
 refine Wz [53,2,55] ?_;refine zx (Qj J J (cr) J) J ?_;refine Wz [9,106,187,200,210,295] ?_;refine zx (Vz J (.hit (.hit (.hit (.hit (.hit .stop))))) (fun hgrd=>Qj J J (ci) J)) J ?_;refine zx (Vz J (.hit (.hit (.hit (.hit (.hit (.hit .stop)))))) (fun hgrd=>Q4 J J J)) J ?_;refine Wz [103] ?_
 refine Xb J (fun h => ?_) (fun h => ?_)
 ·rw[keyAt_bad (fun ⟨q1,q2,q3⟩=>by rw[q1,Za.2 (by omega)] at h; exact absurd h (by decide))]
  refine Wz [4,77,63] ?_
  exact qo J J (Yc [1,1,9] [2,3,4] J J (by decide) J J J)
 simp only[Gqn,Gq4,Za] at h
 have hv:replayOk r=true ∧ -1≤k∧k<r.Keys.length:=⟨h.1,by omega,by omega⟩
 have hr:=rok hv.1
 obtain⟨hp1,hp2⟩:=hr.p
 have hnw:=S_NewWorld r.Level r.Players.toNat r.Seed hg.1 hL hr.l (by omega) hr.s
 rw[show ((r.Players.toNat:Nat):Int)=r.Players by omega] at hnw
 have hgn:=newWorld_gd (n:=r.Players.toNat) hg.1 hr.l (by omega) hr.s
 have hwb:=X8 _ hgn
 have hbl:=Yr (newWorld r.Level r.Players.toNat r.Seed)
 refine AWP.pre (st':=(⟨_,[(1,I k),(2,.o (.c (.ptr 0 0))),(4,.o (.c (.ptr 1 0)))],[.box ((Enc.e r).map (V1.rd [])),.box [nilV,jn 0,jn 0,nilV,nilV]]⟩:St)) ?_ (Gi [0,1])
 rw[keyAt_all hv]
 obtain⟨s0,hs0⟩:∃ s0,s0=worldBytes (newWorld r.Level r.Players.toNat r.Seed):=⟨_,rfl⟩
 rw[←hs0] at hwb hbl
 obtain⟨K,hK⟩:∃ K:Nat,k+1=K:=⟨(k+1).toNat,by omega⟩
 have hKl:K≤r.Keys.length:=by omega
 have hkk:=hr.k
 rw[show (k+1).toNat=K by omega]
 refine Wz [22,185,16,16] ?_;refine M1 (Z3 J J (hnw) J J J) J J ?_;refine Wz [71,66,36,2,14] ?_;refine zx (Qj J J (hwb) J) J ?_;refine Wz [2,46] ?_;refine Xj (fun m st=>∃ (i:Nat) (t:ByteArray),i+m=K∧(keyText s0 r.Keys i=some t)∧st=(⟨_,[(1,I k),(2,.o (.c (.ptr 0 0))),(4,.o (.c (.ptr 1 0))),(8,S t),(9,I i)],[.box ((Enc.e r).map (V1.rd [])),.box [nilV,jn 0,jn 0,nilV,nilV]]⟩:St)) (K) ⟨_,⟨0,s0,by omega,J,J⟩,Gi [0,1]⟩ ?_
 rintro m_A _ ⟨i,t,hk_A,hp_A,rfl⟩
 have htz:=keyText_len hbl hp_A
 refine Wz [20,214,3] ?_
 refine Xb J (fun h3 => ?_) (fun h3 => ?_)
 ·have h3:i<K:=by have:=Gqe h3; omega
  have hil:i<r.Keys.length:=by omega
  have hki:=Gqd hil
  have hat:=Yv hil
  have hdz:=hks _ (Gqj hil)
  generalize r.Keys[i]=d at hki hat hdz
  have hap:=S_ApplyDelta t d (by omega) (by omega)
  have hst:=keyText_step hp_A hki
  cases hx:applyD t d with
  |none =>
   rw[hx] at hap hst
   rw[Zc (by rw[←hs0]; exact keyText_none hst (by omega))]
   refine Wz [107,58,59] ?_;refine M1 (Z3 J J (hap) J J J) J J ?_;refine Wz [71,38,88,50,77,36,135,62,145,64] ?_
   exact qo J J (Yc [1,1,9] [2,3,4] J J (by decide) J J J)
  |some t' =>
   rw[hx] at hap hst
   refine Wz [107,58,59] ?_;refine M1 (Z3 J J (hap) J J J) J J ?_;refine Wz [71,38,88,41,33,104] ?_
   exact⟨K-(i+1),by omega,_,⟨i+1,t',by omega,hst,J⟩,Gi [0,1]⟩
 have h3:i=K:=by have:=Gqf h3; omega
 subst h3
 have hrw:=S_ReadWorld r.Level t hg.1 hL (by omega)
 have hkt:keyText (worldBytes (newWorld r.Level r.Players.toNat r.Seed)) r.Keys i=some t:=by rw[←hs0]; exact hp_A
 have hmul:=key_mul (k:=k+1) (e:=r.Every) (by omega) (by omega) hr.e.1 hr.e.2
 cases hw:readWorld r.Level t with
 |none =>
  rw[hw] at hrw
  rw[Zd hkt hw]
  refine Wz [27,120] ?_;refine M1 (Z3 J J (hrw) J J J) J J ?_;refine Wz [71,66,36,88,45,161,25,45,57,25,50,77,63] ?_
  exact qo J J (Yc [1,1,9] [6,7,8] J J (by decide) J J J)
 | some w =>
  rw[hw] at hrw
  have hls:=Yx w.Scores
  by_cases c1:w.Tick=(k+1)*r.Every
  ·have e1:decide (w.Tick≠(k+1)*r.Every)=false:=Gqa (fun q=>q c1)
   by_cases c2:(w.Scores.length:Int)=r.Players
   ·have e2:decide (((els w.Scores).length:Int)≠r.Players)=false:=Gqa (by rw[hls]; exact fun q=>q c2)
    rw[keyWorld_yes hkt hw ⟨by rw[←hK]; exact c1,c2⟩]
    refine Wz [27,120] ?_;refine M1 (Z3 J J (hrw) J J J) J J ?_;refine Wz [71,66,36,88,54,31,18,1,136,117,1,24,6,54,97,136,24,60,14,36,17] ?_
    exact qo J J (Gc [2,3,4] J J J)
   ·have e2:decide (((els w.Scores).length:Int)≠r.Players)=true:=Gqb (by rw[hls]; exact c2)
    rw[Zb hkt hw (fun q=>c2 q.2)]
    refine Wz [27,120] ?_;refine M1 (Z3 J J (hrw) J J J) J J ?_;refine Wz [71,66,36,88,54,31,18,1,136,117,1,24,6,54,97,136,24,6,50,77,63] ?_
    exact qo J J (Yc [1,1,9] [6,7,8] J J (by decide) J J J)
  ·have e1:decide (w.Tick≠(k+1)*r.Every)=true:=Gqb c1
   rw[Zb hkt hw (fun q=>c1 (by rw[hK]; exact q.1))]
   refine Wz [27,120] ?_;refine M1 (Z3 J J (hrw) J J J) J J ?_;refine Wz [71,66,36,88,54,31,18,1,136,117,1,24,6,45,57,25,50,77,63] ?_
   exact qo J J (Yc [1,1,9] [6,7,8] J J (by decide) J J J)
end
section
open Go.RowKit
end
end Go.Proofs.YtoecjaohdnoenaaGreat
