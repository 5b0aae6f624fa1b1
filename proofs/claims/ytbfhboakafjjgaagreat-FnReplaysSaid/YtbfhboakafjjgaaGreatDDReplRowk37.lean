/-
  Parts of the proof (rules, data, and what functions of the program and of the reference return), among them: KeyAt, in the program and in the reference; PlayReplay, in the program and in the reference.
  Conditions: those that each theorem names.
-/
import Derived.Test.YtbfhboakafjjgaaGreatDDReplRowk22
import Derived.Test.YtbfhboakafjjgaaGreatDDReplRowk24
import Derived.Test.YtbfhboakafjjgaaGreatDDReplRowk35
import Derived.Test.YtbfhboakafjjgaaGreatDDReplRowk36
set_option linter.unusedSimpArgs false
set_option linter.unusedVariables false
set_option maxRecDepth 8000
set_option maxHeartbeats 8000000
namespace Go.Proofs.YtbfhboakafjjgaaGreat
section
open Go.RowKit

theorem I_ReadWorld (lv : TLevel) (s : ByteArray) (hg : Enc.gd lv) (hL : lv.Rows.length ≤ 1048576) (hs : s.size ≤ 1099511627776) : Con Tryz.prog 58 [] [ag lv,astr s] (ownO (Enc.e (rwW (readWorld lv s)))) (.tu [.ag (ownV 0 (Enc.e (rwW (readWorld lv s)))),.c (bv (rwB (readWorld lv s)))]) := by
 have hui := I_UnpackInts s 0 hs ⟨by omega,by omega⟩
 cases hu : unpackInts s 0 with
 | none =>
  rw [hu] at hui
  rw [readWorld_none hu]
  refine Con.of Tryz.func58 J Tryz.ntmps58 J (fun E => ?_)
  refine zy (M1 (Qq J J J J) J J (M1 (Qx J J J) J J (z1 J (zz (zy (z0 J ?_))))));refine M1 (Zo J J (hui) J J J) J J ?_;refine zx (Q8 J J J) J (ze J (ze J (ze J (z1 J (z1 J (z1 J (zz (Qd (zy ?_)))))))));refine z0 J (zn J (z0 J (z6 J (z6 J (z6 J (z6 J (zpT J (z0 J (z6 J (z6 J (z6 J ?_)))))))))));refine zpT J (zz (Qm J (zy (zx (Zl J J J J J) J ?_))));refine Qy J J J J J J J J J (z1 J (zz (Xa (T_r (F_r ?_)))))
  exact Xn J J J J J (X6 [1,1,9] [3,4,5] J J (by decide) J J J)
 | some r =>
  obtain ⟨l,pos⟩ := r
  rw [hu] at hui
  obtain ⟨_,hu1,hu2,hu3,hu4⟩ := unpackInts_some hu
  have hll := Yp l
  refine Con.of Tryz.func58 J Tryz.ntmps58 J (fun E => ?_)
  refine zy (M1 (Qq J J J J) J J (M1 (Qx J J J) J J (z1 J (zz (zy (z0 J ?_))))));refine M1 (Zo J J (hui) J J J) J J ?_;refine zx (Q8 J J J) J (ze J (ze J (ze J (z1 J (z1 J (z1 J (zz (Qd (zy ?_)))))))));refine z0 J (zn J (z0 J (z5 J (z0 J (z5 J (z0 J (z5 J (zx (Zy J J J) J (z5 J (zx (Z4 J J J J) J (zpF J ?_)))))))))));refine z0 J ?_;refine zx (Qt.grdF J J J .stop (fun hgrd => Qa J J J)) J ?_;refine zx (Qt.grdF J J J (.hit .stop) (fun hgrd => Zx J J J J)) J ?_;refine zx (Qt.grdF J J J (.hit (.hit .stop)) (fun hgrd => Z1 J J J J)) J ?_;refine zx (Z5 J J J J) J (zz ?_)
  refine Xb J (fun h => ?_) (fun h => ?_)
  ·simp only [Bool.or_eq_true,decide_eq_true_eq] at h
   rw [Z9 hu (fun hh => by have := hh.2.1.1; omega)]
   refine zy (zx (Zl J J J J J) J ?_);refine Qy J J J J J J J J J (z1 J (zz (Xa (T_r (F_r ?_)))))
   exact Xn J J J J J (X6 [1,1,9] [3,4,5] J J (by decide) J J J)
  simp only [Bool.or_eq_false_iff,decide_eq_false_iff_not] at h
  have ha0 := els_getD (l := l) (j := 0) (by omega) 0 rfl
  have ha1 := els_getD (l := l) (j := 1) (by omega) 1 rfl
  have ha2 := els_getD (l := l) (j := 2) (by omega) 2 rfl
  obtain ⟨l2,hl2⟩ : ∃ l2,l.getD 2 0 = l2 := ⟨_,rfl⟩
  rw [hl2] at ha2
  have hl264 : I64 l2 := by
   rw [← hl2,List.getD_eq_getElem?_getD,List.getElem?_eq_getElem (by omega)]
   exact hu4 _ (List.getElem_mem _)
  have hl21 := hl264.1
  have hl22 := hl264.2
  have hbt := Xv l2 1 4
  by_cases hin : inR l2 1 4 = true
  case neg =>
   have hf : inR l2 1 4 = false := by simpa using hin
   rw [hf] at hbt
   rw [Z9 hu (fun hh => by have := hh.2.1.2.1; rw [hl2,← Y3] at this; exact hin this)]
   refine Qh (Q0 (zy (z0 J (zx (Q3 J J J J J (by omega) (by omega)) J (zx (Q7 J J J J (by assumption) J) J (z1 J (zz (Qd (Qd ?_)))))))));refine Qc (z0 J ?_);refine zx (Qj J J (hbt) J) J ?_;refine zn J (z0 J (z6 J (z6 J (z6 J (z6 J (z6 J (zpT J (zz (Qm J (Qd ?_))))))))));refine Qc (zx (Zl J J J J J) J ?_);refine Qy J J J J J J J J J (z1 J (zz (Xa (T_r (F_r ?_)))))
   exact Xn J J J J J (X6 [1,1,9] [3,4,5] J J (by decide) J J J)
  rw [hin] at hbt
  have hin2 := Y3.1 hin
  obtain ⟨p,rfl⟩ : ∃ p : Nat,l2 = p := ⟨l2.toNat,by omega⟩
  refine Qh (Q0 (zy (z0 J (zx (Q3 J J J J J (by omega) (by omega)) J (zx (Q7 J J J J (by assumption) J) J (z1 J (zz (Qd (Qd ?_)))))))));refine Qc (z0 J ?_);refine zx (Qj J J (hbt) J) J ?_;refine zn J (z0 J (z5 J (z0 J (z5 J (zx (Zx J J J J) J (z5 J (z0 J (z5 J (z7 J (by omega) (z5 J (zx (Z1 J J J J) J ?_)))))))))));refine zpF J (zz ?_)
  refine Xb J (fun h2 => ?_) (fun h2 => ?_)
  ·have h2 := of_decide_eq_true h2
   rw [Z9 hu (fun hh => by have := hh.2.1.2.2.1; omega)]
   refine zy (zx (Zl J J J J J) J ?_);refine Qy J J J J J J J J J (z1 J (zz (Xa (T_r (F_r ?_)))))
   exact Xn J J J J J (X6 [1,1,9] [3,4,5] J J (by decide) J J J)
  have h2 := of_decide_eq_false h2
  refine Qh (Q0 (Qd (Xi [[],[0],[],[2],[2,3],[],[5],[5,6],(u9 8),[],(u9 10)] [[],[48],[],[50],[50,51],[],[53],[53,54],[48,49,50,51,52,53,54,55],[],[10,48,49,50,51,52,53,54,55,56]] [[10,50,51,52,53,54,55],[10,50,51,52,53,54,55],[10,48,49,53,54,55],[10,48,49,53,54,55],[10,48,49,53,54,55],[10,48,49,50,51,52],[10,48,49,50,51,52],[10,48,49,50,51,52],[10],[48,49,50,51,52,53,54,55,56],[]] J (DR.s (Qu J J J J J J) J J ?_))));refine DR.s (Zo J J (Xw lv hg hL) J J J) J J ?_;refine DR.s (Qa J J J) J J (DR.s (Q3 J J J J J (by omega) (by omega)) J J (DR.s (Q7 J J J J (by assumption) J) J J (DR.s (Qa J J J) J J (DR.s (Q3 J J J J J (by omega) (by omega)) J J (DR.s (Q7 J J J J (by assumption) J) J J (DR.s (Zl J J J J J) J J (DR.s (Qx J J J) J J (DR.stop (by kernel_rfl) (by kernel_rfl) ?_))))))));refine AL.weak (st' := (⟨_,[(4,.o (.c (.ptr 1 0))),(6,.o (.c (.ref 2))),(9,I p),(10,.o (.c (.ptr 4 0))),(56,.o (.ag [.ref 3,jv (l.getD 0 0),jv (l.getD 1 0),nilV,nilV]))],[.box ((Enc.e lv).map (V1.rd [])),.box [nilV,jv 0,jv 0,nilV,nilV],.row 1 (els l),.row 1 (els lv.Rows),.box [nilV,jv 0,jv 0,nilV,nilV]]⟩ : St)) (W_gj [0,1,2,3,4] (by kernel_rfl)) ?_
  have hpl : (p : Int) ≤ 4 := hin2.2
  have hcl := Clone_ints ((l.drop 3).take p) (by simp; omega) (by simp; omega)
  rw [show al ((l.drop 3).take p) = .c (.rd [] (.sl 1 (((els l).take ((3 : Int) + (p : Int)).toNat).drop (3 : Int).toNat))) by
   rw [show ((3 : Int) + (p : Int)).toNat = 3 + p by omega,show (3 : Int).toNat = 3 from rfl,List.drop_take,← els_dropE,← Ys,show 3 + p - 3 = p by omega]; rfl] at hcl
  obtain ⟨rest,hrest⟩ : ∃ rest,rest = l.drop (3 + p) := ⟨_,rfl⟩
  have hre : (els l).drop ((3 : Int) + (p : Int)).toNat = els rest := by rw [show ((3 : Int) + (p : Int)).toNat = 3 + p by omega,← els_dropE,hrest]
  have hrl : rest.length = l.length - (3 + p) := by rw [hrest]; simp
  have hrl2 := Yp rest
  have hdl : ((els l).drop ((3 : Int) + (p : Int)).toNat).length = l.length - (3 + p) := by rw [List.length_drop,hll]; congr 1
  refine Qy J J J J J J J J J (zz (zy (z0 J (z0 J (z7 J (by omega) (zx (q_partr J J J J J J J (by omega)) J ?_))))));refine M1 (Zo J J (hcl) J J J) J J ?_;refine z2 J J J ?_;refine Q5 J J J J J J J J (zz (zy (z0 J (z0 J (z7 J (by omega) (zx (q_partr1 J J J J J J (by omega)) J (z1 J (zz ?_))))))));refine Qd (zy (z0 J (zx (Zw J J J) J (zx (Z6 J J J J (by omega)) J (zx (Z4 J J J J) J (z0 J ?_))))));refine zx (Qt.grdF J J J .stop (fun hgrd => Qa J J J)) J ?_;refine zx (Qt.grdF J J J (.hit .stop) (fun hgrd => Zw J J J)) J ?_;refine zx (Qt.grdF J J J (.hit (.hit .stop)) (fun hgrd => q_quo J J J J (by omega))) J ?_;refine zx (Qt.grdF J J J (.hit (.hit (.hit .stop))) (fun hgrd => Zu J J J J)) J ?_;refine zx (Z5 J J J J) J (zz ?_)
  refine Xb J (fun h3 => ?_) (fun h3 => ?_)
  ·simp only [Bool.or_eq_true,decide_eq_true_eq] at h3
   rw [Z9 hu (fun hh => by
    have h8 := hh.2.1.2.2.2
    have h9 := (Ko hh.2.2).2.2.2.2.2.1.2
    have h10 : (worldOf lv l).Bodies.length = (l.length - 3 - (l.getD 2 0).toNat) / 9 := bodiesOf_len _ _
    rw [hl2] at h8 h10
    omega)]
   refine zy (zx (Zl J J J J J) J ?_);refine Qy J J J J J J J J J (z1 J (zz (Xa (T_r (F_r ?_)))))
   exact Xn J J J J J (X6 [1,1,9] [6,7,8] J J (by decide) J J J)
  simp only [Bool.or_eq_false_iff,decide_eq_false_iff_not] at h3
  obtain ⟨nb,hn⟩ : ∃ nb,rest.length = 9 * nb := ⟨rest.length / 9,by omega⟩
  have hform : formOk l := ⟨by omega,by rw [hl2]; exact hin2,by rw [hl2]; omega,by rw [hl2]; omega⟩
  have hwo : worldOf lv l = ⟨lv,l.getD 0 0,l.getD 1 0,(l.drop 3).take p,bodiesOf rest nb⟩ := by
   rw [worldOf,hl2,Int.toNat_natCast,← hrest,show (l.length - 3 - p) / 9 = nb by omega]
  have hwg := worldOf_gd (lv := lv) hg hu4 (by omega)
  rw [hwo] at hwg
  refine AWP.pre (st' := (⟨_,[(4,.o (.c (.ptr 1 0))),(10,.o (.c (.ptr 4 0))),(11,.o (.c (.rd [2] (.sl 1 (els rest)))))],[.box ((Enc.e lv).map (V1.rd [])),.box [nilV,jv 0,jv 0,nilV,nilV],.row 1 (els l),.row 1 (els lv.Rows),.box [.ref 3,jv (l.getD 0 0),jv (l.getD 1 0),.ref 5,nilV],.row 1 (els ((l.drop 3).take p))]⟩ : St)) ?_ (X7 [0,1,2,3,4,5] (by decide) J (by kernel_rfl) (.c J (.c J (.cons (rdE hre) (.nil)))))
  refine AWP.pre ?_ (Wk.nilbox (p := 4) (i := 4) 9 J J)
  refine Qh (Q0 (Qd (zy (z1 J (zz (Qk ?_))))));refine A_lq (fun m st => ∃ k : Nat,k + m = nb ∧ (True) ∧ st = (⟨_,[(4,.o (.c (.ptr 1 0))),(10,.o (.c (.ptr 4 0))),(11,.o (.c (.rd [2] (.sl 1 (els rest))))),(12,I (9 * (k : Int)))],[.box ((Enc.e lv).map (V1.rd [])),.box [nilV,jv 0,jv 0,nilV,nilV],.row 1 (els l),.row 1 (els lv.Rows),.box [.ref 3,jv (l.getD 0 0),jv (l.getD 1 0),.ref 5,.ref 6],.row 1 (els ((l.drop 3).take p)),.row 9 (els (bodiesOf rest k))]⟩ : St)) (nb) ⟨(fun k : Nat => (⟨_,[(4,.o (.c (.ptr 1 0))),(10,.o (.c (.ptr 4 0))),(11,.o (.c (.rd [2] (.sl 1 (els rest))))),(12,I (9 * (k : Int)))],[.box ((Enc.e lv).map (V1.rd [])),.box [nilV,jv 0,jv 0,nilV,nilV],.row 1 (els l),.row 1 (els lv.Rows),.box [.ref 3,jv (l.getD 0 0),jv (l.getD 1 0),.ref 5,.ref 6],.row 1 (els ((l.drop 3).take p)),.row 9 (els (bodiesOf rest k))]⟩ : St)) 0,⟨0,by omega,trivial,J⟩,X7 [0,1,2,3,4,5,6] (by decide) J (by kernel_rfl) (.c J (.c J (.c J (.cons (Xx (by simp)) (.nil)))))⟩ ?_
  rintro m_A _ ⟨k,hk_A,hp_A,rfl⟩
  have hlbk := Yp (bodiesOf rest k)
  have hlbk2 := bodiesOf_len rest k
  refine Qd (zy (z0 J (z0 J (zx (Zw J J J) J (zx (Z1 J J J J) J (zz ?_))))))
  refine Xb J (fun h4 => ?_) (fun h4 => ?_)
  ·have h4 := of_decide_eq_true h4
   have hk9 : 9 * k + 9 ≤ rest.length := by omega
   have hc0 := Yk (rest := rest) (m := k) (by omega) (j := 0) (by omega) (9 * (k : Int) + 9) (9 * (k : Int)) J J 0 rfl
   have hc1 := Yk (rest := rest) (m := k) (by omega) (j := 1) (by omega) (9 * (k : Int) + 9) (9 * (k : Int)) J J 1 rfl
   have hc2 := Yk (rest := rest) (m := k) (by omega) (j := 2) (by omega) (9 * (k : Int) + 9) (9 * (k : Int)) J J 2 rfl
   have hc3 := Yk (rest := rest) (m := k) (by omega) (j := 3) (by omega) (9 * (k : Int) + 9) (9 * (k : Int)) J J 3 rfl
   have hc4 := Yk (rest := rest) (m := k) (by omega) (j := 4) (by omega) (9 * (k : Int) + 9) (9 * (k : Int)) J J 4 rfl
   have hc5 := Yk (rest := rest) (m := k) (by omega) (j := 5) (by omega) (9 * (k : Int) + 9) (9 * (k : Int)) J J 5 rfl
   have hc6 := Yk (rest := rest) (m := k) (by omega) (j := 6) (by omega) (9 * (k : Int) + 9) (9 * (k : Int)) J J 6 rfl
   have hc7 := Yk (rest := rest) (m := k) (by omega) (j := 7) (by omega) (9 * (k : Int) + 9) (9 * (k : Int)) J J 7 rfl
   have hc8 := Yk (rest := rest) (m := k) (by omega) (j := 8) (by omega) (9 * (k : Int) + 9) (9 * (k : Int)) J J 8 rfl
   have hlbk3 : (els (bodiesOf rest k)).length = k := by omega
   have hlt : (9 * (k : Int) + 9 ≤ (els rest).length) := by omega
   have hk24 : k ≤ 24 := by omega
   have hknb : k < nb := by omega
   clear hwg hwo hform hre hcl hdl h3 h2 hin2 hin hbt hl264 hl21 hl22 ha0 ha1 ha2 h hu1 hu2 hu3 hu4 hll hui hrl hrl2 hn hpl hlbk hlbk2 hp_A hk9 h4
   refine Qh (Q0 (Qd (Qk (zy (z0 J (z0 J (z0 J (z7 J (by omega) (zx (q_part J J J J J J (by omega)) J (z1 J ?_))))))))));refine zz (Xi [[],[0],[],[2],[2,3],[],[5],[5,6],[],[8],[8,9],[],[11],[11,12],[],[14],[14,15],[],[17],[17,18],[],[20],[20,21],[],[23],[23,24],[],[26],[26,27],[2,3,4,5,6,7,8,9,10,11,12,13,14,15,16,17,18,19,20,21,22,23,24,25,26,27,28],[2,3,4,5,6,7,8,9,10,11,12,13,14,15,16,17,18,19,20,21,22,23,24,25,26,27,28,29],(u9 31),(u9 32),(u9 33)] [[],[89],[],[91],[91,92],[],[94],[94,95],[],[97],[97,98],[],[100],[100,101],[],[103],[103,104],[],[106],[106,107],[],[109],[109,110],[],[112],[112,113],[],[115],[115,116],[91,92,93,94,95,96,97,98,99,100,101,102,103,104,105,106,107,108,109,110,111,112,113,114,115,116,117],[91,92,93,94,95,96,97,98,99,100,101,102,103,104,105,106,107,108,109,110,111,112,113,114,115,116,117,118],[89,90,91,92,93,94,95,96,97,98,99,100,101,102,103,104,105,106,107,108,109,110,111,112,113,114,115,116,117,118,119],[89,90,91,92,93,94,95,96,97,98,99,100,101,102,103,104,105,106,107,108,109,110,111,112,113,114,115,116,117,118,119,120],[89,90,91,92,93,94,95,96,97,98,99,100,101,102,103,104,105,106,107,108,109,110,111,112,113,114,115,116,117,118,119,120,121]] [[91,92,93,94,95,96,97,98,99,100,101,102,103,104,105,106,107,108,109,110,111,112,113,114,115,116,117,118,119],[91,92,93,94,95,96,97,98,99,100,101,102,103,104,105,106,107,108,109,110,111,112,113,114,115,116,117,118,119],[89,90,94,95,96,97,98,99,100,101,102,103,104,105,106,107,108,109,110,111,112,113,114,115,116,117],[89,90,94,95,96,97,98,99,100,101,102,103,104,105,106,107,108,109,110,111,112,113,114,115,116,117],[89,90,94,95,96,97,98,99,100,101,102,103,104,105,106,107,108,109,110,111,112,113,114,115,116,117],[89,90,91,92,93,97,98,99,100,101,102,103,104,105,106,107,108,109,110,111,112,113,114,115,116,117],[89,90,91,92,93,97,98,99,100,101,102,103,104,105,106,107,108,109,110,111,112,113,114,115,116,117],[89,90,91,92,93,97,98,99,100,101,102,103,104,105,106,107,108,109,110,111,112,113,114,115,116,117],[89,90,91,92,93,94,95,96,100,101,102,103,104,105,106,107,108,109,110,111,112,113,114,115,116,117],[89,90,91,92,93,94,95,96,100,101,102,103,104,105,106,107,108,109,110,111,112,113,114,115,116,117],[89,90,91,92,93,94,95,96,100,101,102,103,104,105,106,107,108,109,110,111,112,113,114,115,116,117],[89,90,91,92,93,94,95,96,97,98,99,103,104,105,106,107,108,109,110,111,112,113,114,115,116,117],[89,90,91,92,93,94,95,96,97,98,99,103,104,105,106,107,108,109,110,111,112,113,114,115,116,117],[89,90,91,92,93,94,95,96,97,98,99,103,104,105,106,107,108,109,110,111,112,113,114,115,116,117],[89,90,91,92,93,94,95,96,97,98,99,100,101,102,106,107,108,109,110,111,112,113,114,115,116,117],[89,90,91,92,93,94,95,96,97,98,99,100,101,102,106,107,108,109,110,111,112,113,114,115,116,117],[89,90,91,92,93,94,95,96,97,98,99,100,101,102,106,107,108,109,110,111,112,113,114,115,116,117],[89,90,91,92,93,94,95,96,97,98,99,100,101,102,103,104,105,109,110,111,112,113,114,115,116,117],[89,90,91,92,93,94,95,96,97,98,99,100,101,102,103,104,105,109,110,111,112,113,114,115,116,117],[89,90,91,92,93,94,95,96,97,98,99,100,101,102,103,104,105,109,110,111,112,113,114,115,116,117],[89,90,91,92,93,94,95,96,97,98,99,100,101,102,103,104,105,106,107,108,112,113,114,115,116,117],[89,90,91,92,93,94,95,96,97,98,99,100,101,102,103,104,105,106,107,108,112,113,114,115,116,117],[89,90,91,92,93,94,95,96,97,98,99,100,101,102,103,104,105,106,107,108,112,113,114,115,116,117],[89,90,91,92,93,94,95,96,97,98,99,100,101,102,103,104,105,106,107,108,109,110,111,115,116,117],[89,90,91,92,93,94,95,96,97,98,99,100,101,102,103,104,105,106,107,108,109,110,111,115,116,117],[89,90,91,92,93,94,95,96,97,98,99,100,101,102,103,104,105,106,107,108,109,110,111,115,116,117],[89,90,91,92,93,94,95,96,97,98,99,100,101,102,103,104,105,106,107,108,109,110,111,112,113,114],[89,90,91,92,93,94,95,96,97,98,99,100,101,102,103,104,105,106,107,108,109,110,111,112,113,114],[89,90,91,92,93,94,95,96,97,98,99,100,101,102,103,104,105,106,107,108,109,110,111,112,113,114],[89,90],[89,90],[],[],[]] J (DR.s (Qf J J J J (by decide)) J J (DR.s (Qg J J J J J) J J (DR.s (Qa J J J) J J (DR.s (Q2 J J J J (by omega) (by assumption) J) J J (DR.s (Z0 J J J J) J J (DR.s (Qa J J J) J J (DR.s (Q2 J J J J (by omega) (by assumption) J) J J (DR.s (Z0 J J J J) J J (DR.s (Qa J J J) J J ?_))))))))));refine DR.s (Q2 J J J J (by omega) (by assumption) J) J J (DR.s (Z0 J J J J) J J (DR.s (Qa J J J) J J (DR.s (Q2 J J J J (by omega) (by assumption) J) J J (DR.s (Z0 J J J J) J J (DR.s (Qa J J J) J J (DR.s (Q2 J J J J (by omega) (by assumption) J) J J (DR.s (Z0 J J J J) J J (DR.s (Qa J J J) J J (DR.s (Q2 J J J J (by omega) (by assumption) J) J J (DR.s (Z0 J J J J) J J (DR.s (Qa J J J) J J ?_)))))))))));refine DR.s (Q2 J J J J (by omega) (by assumption) J) J J (DR.s (Z0 J J J J) J J (DR.s (Qa J J J) J J (DR.s (Q2 J J J J (by omega) (by assumption) J) J J (DR.s (Z0 J J J J) J J (DR.s (Qa J J J) J J (DR.s (Q2 J J J J (by omega) (by assumption) J) J J (DR.s (Z0 J J J J) J J ?_)))))));refine DR.s (x := .o (.ag [jv ((rest.drop (9 * k)).getD 0 0),jv ((rest.drop (9 * k)).getD 1 0),jv ((rest.drop (9 * k)).getD 2 0),jv ((rest.drop (9 * k)).getD 3 0),jv ((rest.drop (9 * k)).getD 4 0),jv ((rest.drop (9 * k)).getD 5 0),jv ((rest.drop (9 * k)).getD 6 0),jv ((rest.drop (9 * k)).getD 7 0),jv ((rest.drop (9 * k)).getD 8 0)])) (Zl J J J J (by kernel_rfl)) J J ?_;refine DR.s (Zj J J J J J J) J J (DR.stop (by kernel_rfl) (by kernel_rfl) ?_);refine AL.weak (st' := (⟨_,[(4,.o (.c (.ptr 1 0))),(10,.o (.c (.ptr 4 0))),(11,.o (.c (.rd [2] (.sl 1 (els rest))))),(12,I (9 * (k : Int))),(90,.o (.c (.ref 6))),(119,.o (.c (.sb 7 1 9)))],[.box ((Enc.e lv).map (V1.rd [])),.box [nilV,jv 0,jv 0,nilV,nilV],.row 1 (els l),.row 1 (els lv.Rows),.box [.ref 3,jv (l.getD 0 0),jv (l.getD 1 0),.ref 5,.ref 6],.row 1 (els ((l.drop 3).take p)),.row 9 (els (bodiesOf rest k)),.box [jv ((rest.drop (9 * k)).getD 0 0),jv ((rest.drop (9 * k)).getD 1 0),jv ((rest.drop (9 * k)).getD 2 0),jv ((rest.drop (9 * k)).getD 3 0),jv ((rest.drop (9 * k)).getD 4 0),jv ((rest.drop (9 * k)).getD 5 0),jv ((rest.drop (9 * k)).getD 6 0),jv ((rest.drop (9 * k)).getD 7 0),jv ((rest.drop (9 * k)).getD 8 0)]]⟩ : St)) (W_gj [0,1,2,3,4,5,6,7] (by kernel_rfl)) ?_;refine Xy J J J J J J J J J J J J J J (by omega) (by omega) ?_;refine z2 J J J ?_;refine Q5 J J J J J J J J (Qe (Q1 (Q0 (Qc (z0 J (z7 J (by omega) (z1 J (zz ?_))))))))
   exact ⟨nb - (k + 1),by omega,(fun k : Nat => (⟨_,[(4,.o (.c (.ptr 1 0))),(10,.o (.c (.ptr 4 0))),(11,.o (.c (.rd [2] (.sl 1 (els rest))))),(12,I (9 * (k : Int)))],[.box ((Enc.e lv).map (V1.rd [])),.box [nilV,jv 0,jv 0,nilV,nilV],.row 1 (els l),.row 1 (els lv.Rows),.box [.ref 3,jv (l.getD 0 0),jv (l.getD 1 0),.ref 5,.ref 6],.row 1 (els ((l.drop 3).take p)),.row 9 (els (bodiesOf rest k))]⟩ : St)) (k + 1),⟨k + 1,by omega,trivial,J⟩,X7 [0,1,2,3,4,5,6] (by decide) J (row7 (by rw [bodiesOf_snoc,Yn]; rfl)) (.c J (.c J (.c J (.cons (Xx (by omega)) (.nil)))))⟩
  ·have h4 := of_decide_eq_false h4
   have hkn : k = nb := by omega
   subst hkn
   have hwk := I_WorldOk ⟨lv,l.getD 0 0,l.getD 1 0,(l.drop 3).take p,bodiesOf rest k⟩ hwg
   cases ho : worldOk ⟨lv,l.getD 0 0,l.getD 1 0,(l.drop 3).take p,bodiesOf rest k⟩ with
   | false =>
    rw [ho] at hwk
    rw [Z9 hu (fun hh => by have h9 := hh.2.2; rw [hwo,ho] at h9; cases h9)]
    refine Q9 (T_x (T_x (Xl (Q0 (Qd (zy (z4 J J J ?_)))))));refine zx (Qj J J (hwk) J) J ?_;refine zn J (zz (Qm J (zy (zx (Zl J J J J J) J ?_))));refine Qy J J J J J J J J J (z1 J (zz (Xa (T_r (F_r ?_)))))
    exact Xn J J J J J (X6 [1,1,9] [7,8,9] J J (by decide) J J J)
   | true =>
    rw [ho] at hwk
    rw [Ka hu ⟨by omega,hform,by rw [hwo]; exact ho⟩,hwo]
    refine Q9 (T_x (T_x (Xl (Q0 (Qd (zy (z4 J J J ?_)))))));refine zx (Qj J J (hwk) J) J ?_;refine zn J (zz (Ql J (Qh (Q0 (zy (z4 J J J ?_))))));refine Qy J J J J J J J J J (z1 J (zz (Xa (F_r ?_))))
    exact Xn J J J J J (X5 [3,5,6] (by decide) J J J)
end
section
open Go.RowKit
end
section
open Go.RowKit

def keyText (s : ByteArray) (keys : List ByteArray) : Nat → Option ByteArray
 | 0 => some s
 | n + 1 => match keyText s keys n with
  | none => none
  | some t => match keys[n]? with
   | none => none
   | some d => applyD t d
theorem keyText_none {s : ByteArray} {keys : List ByteArray} {i : Nat} (h : keyText s keys i = none) : ∀ {n : Nat},i ≤ n → keyText s keys n = none
 | 0,hn => by have : i = 0 := (by omega); subst this; exact h
 | n + 1,hn => by
  by_cases e : i = n + 1
  ·subst e; exact h
  ·rw [keyText,keyText_none h (by omega)]
theorem keyText_step {s t d : ByteArray} {keys : List ByteArray} {n : Nat} (h : keyText s keys n = some t) (hk : keys[n]? = some d) : keyText s keys (n + 1) = applyD t d := by rw [keyText,h]; simp only [hk]
theorem keyText_len {s : ByteArray} {keys : List ByteArray} (hs : s.size ≤ 20000) : ∀ {n : Nat} {t : ByteArray},keyText s keys n = some t → t.size ≤ 20000
 | 0,t,h => by cases h; exact hs
 | n + 1,t,h => by
  rw [keyText] at h
  split at h
  ·cases h
  ·split at h
   ·cases h
   ·exact applyD_len h
structure ROk (r : TReplay) : Prop where
 l : levelOk r.Level = true
 p : 1 ≤ r.Players ∧ r.Players ≤ 4
 s : inR r.Seed 0 65535 = true
 e : 1 ≤ r.Every ∧ r.Every ≤ 100
 k : r.Keys.length ≤ 400
theorem rok {r : TReplay} (h : replayOk r = true) : ROk r := by
 unfold replayOk at h
 simp only [Bool.and_eq_true,decide_eq_true_eq,Y3] at h
 obtain ⟨⟨⟨⟨⟨⟨h1,h2⟩,h3⟩,h4⟩,h5⟩,h6⟩,h7⟩ := h
 refine ⟨h1,h2,Y3.2 h3,h4,?_⟩
 have : (r.Rows.length : Int) / r.Every ≤ r.Rows.length := Int.ediv_le_self _ (by omega)
 omega
noncomputable def keyWorld (r : TReplay) (k : Nat) : Option TWorld := match keyText (worldBytes (newWorld r.Level r.Players.toNat r.Seed)) r.Keys k with
 | none => none
 | some s => match readWorld r.Level s with
  | none => none
  | some w => if w.Tick = (k : Int) * r.Every ∧ (w.Scores.length : Int) = r.Players then some w else none
noncomputable def keyAt (r : TReplay) (k : Int) : Option TWorld := if replayOk r = true ∧ -1 ≤ k ∧ k < r.Keys.length then (if k < 0 then some (newWorld r.Level r.Players.toNat r.Seed) else keyWorld r (k + 1).toNat) else none
theorem keyWorld_0 (r : TReplay) (hl : levelOk r.Level = true) (hp : 1 ≤ r.Players ∧ r.Players ≤ 4) (hs : inR r.Seed 0 65535 = true) : keyWorld r 0 = some (newWorld r.Level r.Players.toNat r.Seed) := by
 rw [keyWorld,keyText]
 simp only [newWorld_back hl (n := r.Players.toNat) (by omega) hs]
 rw [if_pos]
 constructor
 ·show (0 : Int) = ((0 : Nat) : Int) * r.Every; simp
 ·simp only [newWorld,List.length_replicate]; omega
theorem Yj (w : TWorld) : (worldBytes w).size ≤ 20000 := by
 unfold worldBytes
 split
 ·rename_i h
  have hw := Ko h
  have h1 := packInts_size (worldInts w)
  have h2 := flat_length w.Bodies
  have h3 : (worldInts w).length = 3 + w.Scores.length + 9 * w.Bodies.length := by
   simp only [worldInts,List.length_append,List.length_cons,List.length_nil]; omega
  have h4 := hw.2.2.2.1
  have h5 := hw.2.2.2.2.2.1
  omega
 ·decide
theorem keyAt_bad {r : TReplay} {k : Int} (h : ¬ (replayOk r = true ∧ -1 ≤ k ∧ k < r.Keys.length)) : keyAt r k = none := if_neg h
theorem keyAt_neg {r : TReplay} {k : Int} (h : replayOk r = true ∧ -1 ≤ k ∧ k < r.Keys.length) (hk : k < 0) : keyAt r k = some (newWorld r.Level r.Players.toNat r.Seed) := by rw [keyAt,if_pos h,if_pos hk]
theorem keyAt_pos {r : TReplay} {k : Int} (h : replayOk r = true ∧ -1 ≤ k ∧ k < r.Keys.length) (hk : ¬ k < 0) : keyAt r k = keyWorld r (k + 1).toNat := by rw [keyAt,if_pos h,if_neg hk]
theorem keyAt_all {r : TReplay} {k : Int} (h : replayOk r = true ∧ -1 ≤ k ∧ k < r.Keys.length) : keyAt r k = keyWorld r (k + 1).toNat := by
 by_cases hk : k < 0
 ·have hr := rok h.1
  rw [keyAt_neg h hk,show (k + 1).toNat = 0 by omega,keyWorld_0 r hr.l hr.p hr.s]
 ·exact keyAt_pos h hk
section
variable {r : TReplay} {n : Nat} {s : ByteArray} {w : TWorld}
theorem keyWorld_none1 (h : keyText (worldBytes (newWorld r.Level r.Players.toNat r.Seed)) r.Keys n = none) : keyWorld r n = none := by rw [keyWorld,h]
variable (h : keyText (worldBytes (newWorld r.Level r.Players.toNat r.Seed)) r.Keys n = some s)
include h
theorem keyWorld_none2 (h2 : readWorld r.Level s = none) : keyWorld r n = none := by rw [keyWorld,h]; simp only [h2]
theorem keyWorld_no (h2 : readWorld r.Level s = some w) (hn : ¬ (w.Tick = (n : Int) * r.Every ∧ (w.Scores.length : Int) = r.Players)) : keyWorld r n = none := by rw [keyWorld,h]; simp only [h2]; rw [if_neg hn]
theorem keyWorld_yes (h2 : readWorld r.Level s = some w) (hn : w.Tick = (n : Int) * r.Every ∧ (w.Scores.length : Int) = r.Players) : keyWorld r n = some w := by rw [keyWorld,h]; simp only [h2]; rw [if_pos hn]
end
theorem keyAt_in {r : TReplay} {k : Int} (hr : RepIn r) : WorIn (rwW (keyAt r k)) := by
 by_cases hv : replayOk r = true ∧ -1 ≤ k ∧ k < r.Keys.length
 ·rw [keyAt_all hv]
  cases ht : keyText (worldBytes (newWorld r.Level r.Players.toNat r.Seed)) r.Keys (k + 1).toNat with
  | none => rw [keyWorld_none1 ht]; exact Km
  | some s =>
   have hl := keyText_len (Yj _) ht
   cases hw : readWorld r.Level s with
   | none => rw [keyWorld_none2 ht hw]; exact Km
   | some w =>
    by_cases hc : w.Tick = ((k + 1).toNat : Int) * r.Every ∧ (w.Scores.length : Int) = r.Players
    ·have := read_in (lv := r.Level) (s := s) hr.gd.1 hr.h1 (by omega)
     rw [hw] at this
     rw [keyWorld_yes ht hw hc]
     exact this
    ·rw [keyWorld_no ht hw hc]; exact Km
 ·rw [keyAt_bad hv]; exact Km
theorem key_mul {k e : Int} (h0 : 0 ≤ k) (h1 : k ≤ 400) (h2 : 1 ≤ e) (h3 : e ≤ 100) : 0 ≤ k * e ∧ k * e ≤ 40000 := ⟨Int.mul_nonneg h0 (by omega),by
 have := Int.mul_le_mul h1 h3 (by omega) (by omega)
 omega⟩
theorem I_KeyAt (r : TReplay) (k : Int) (hg : Enc.gd r) (hk : I64 k) (ir : RepIn r) (hks : ∀ x ∈ r.Keys,x.size ≤ 1048576) : Con Tryz.prog 19 [] [ag r,ai k] (ownO (Enc.e (rwW (keyAt r k)))) (.tu [.ag (ownV 0 (Enc.e (rwW (keyAt r k)))),.c (bv (rwB (keyAt r k)))]) := by
 have cr := Xu r hg
 have hlk := Yp r.Keys
 obtain ⟨hk1,hk2⟩ := hk
 have hL := ir.h1
 refine Con.of Tryz.func19 J Tryz.ntmps19 J (fun E => ?_)
 refine zy (M1 (Qq J J J J) J J (M1 (Qx J J J) J J (z1 J (zz (Qd (zy (z4 J J J ?_)))))));refine zx (Qj J J (cr) J) J ?_;refine zn J (z0 J ?_);refine zx (Qt.grdF J J J .stop (fun hgrd => Qa J J J)) J ?_;refine zx (Qt.grdF J J J (.hit .stop) (fun hgrd => Z1 J J J J)) J ?_;refine zx (Z5 J J J J) J (z0 J ?_);refine zx (Qt.grdF J J J .stop (fun hgrd => Qa J J J)) J ?_;refine zx (Qt.grdF J J J (.hit .stop) (fun hgrd => Qf J J J J (by decide))) J ?_;refine zx (Qt.grdF J J J (.hit (.hit .stop)) (fun hgrd => Qg J J J J J)) J ?_;refine zx (Qt.grdF J J J (.hit (.hit (.hit .stop))) (fun hgrd => Zw J J J)) J ?_;refine zx (Qt.grdF J J J (.hit (.hit (.hit (.hit .stop)))) (fun hgrd => q_geq J J J J)) J ?_;refine zx (Z5 J J J J) J (zz ?_)
 refine Xb J (fun h => ?_) (fun h => ?_)
 ·rw [keyAt_bad (fun ⟨q1,q2,q3⟩ => by rw [q1] at h; simp at h; omega)]
  refine zy (zx (Zl J J J J J) J ?_);refine Qy J J J J J J J J J (z1 J (zz (Xa (T_r (F_r ?_)))))
  exact Xn J J J J J (X6 [1,1,9] [2,3,4] J J (by decide) J J J)
 simp only [Bool.or_eq_false_iff,Bool.not_eq_false',decide_eq_false_iff_not] at h
 have hv : replayOk r = true ∧ -1 ≤ k ∧ k < r.Keys.length := ⟨h.1.1,by omega,by omega⟩
 have hr := rok hv.1
 obtain ⟨hp1,hp2⟩ := hr.p
 have hnw := I_NewWorld r.Level r.Players.toNat r.Seed hg.1 hL hr.l (by omega) hr.s
 rw [show ((r.Players.toNat : Nat) : Int) = r.Players by omega] at hnw
 have hgn := Y9 (n := r.Players.toNat) hg.1 hr.l (by omega) hr.s
 have hwb := I_WorldBytes _ hgn
 have hbl := Yj (newWorld r.Level r.Players.toNat r.Seed)
 refine AWP.pre (st' := (⟨_,[(1,I k),(2,.o (.c (.ptr 0 0))),(4,.o (.c (.ptr 1 0)))],[.box ((Enc.e r).map (V1.rd [])),.box [nilV,jn 0,jn 0,nilV,nilV]]⟩ : St)) ?_ (W_gj [0,1] (by kernel_rfl))
 by_cases hk0 : k < 0
 ·have e0 : decide (k < 0) = true := decide_eq_true hk0
  rw [keyAt_neg hv hk0]
  refine Qh (Q0 (zy (z2 J J J (z4 J J J (z2 J J J (z3 J (z2 J J J (z3 J ?_))))))));refine M1 (Zo J J (hnw) J J J) J J ?_;refine zx (Q8 J J J) J (ze J (ze J (M1 (Qx J J J) J J ?_)));refine Qy J J J J J J J J J (z1 J (zz (Qd (zy (z0 J (zn J (z0 J (z5 J (z0 J ?_)))))))));refine z5 J (z9a J (by assumption) (zpF J (zz (Qm J (zy (z4 J J J (z0 J ?_)))))));refine Qy J J J J J J J J J (z1 J (zz (Xa (T_r (F_r ?_)))))
  exact Xn J J J J J (X5 [2,3,4] (by decide) J J J)
 have e0 : decide (k < 0) = false := decide_eq_false hk0
 rw [keyAt_pos hv hk0]
 obtain ⟨s0,hs0⟩ : ∃ s0,s0 = worldBytes (newWorld r.Level r.Players.toNat r.Seed) := ⟨_,rfl⟩
 rw [← hs0] at hwb hbl
 obtain ⟨K,hK⟩ : ∃ K : Nat,k + 1 = K := ⟨(k + 1).toNat,by omega⟩
 have hKl : K ≤ r.Keys.length := by omega
 have htl : ((els r.Keys).take (k + 1).toNat).length = K := by rw [List.length_take]; omega
 have hkk := hr.k
 rw [show (k + 1).toNat = K by omega]
 refine Qh (Q0 (zy (z2 J J J (z4 J J J (z2 J J J (z3 J (z2 J J J (z3 J ?_))))))));refine M1 (Zo J J (hnw) J J J) J J ?_;refine zx (Q8 J J J) J (ze J (ze J (M1 (Qx J J J) J J ?_)));refine Qy J J J J J J J J J (z1 J (zz (Qd (zy (z0 J (zn J (z0 J (z5 J (z0 J ?_)))))))));refine z5 J (z9a J (by assumption) (zpF J (zz (Ql J (Qh (Q0 (zy (z4 J J J ?_))))))));refine zx (Qj J J (hwb) J) J ?_;refine z1 J (zz (Qd (zy (z2 J J J (z3 J (z0 J (z7 J (by omega) (zx (q_part0 J J J J J (by omega)) J (zx (Zw J J J) J ?_)))))))));refine z0 J (zz (Qk ?_));refine A_lq (fun m st => ∃ (i : Nat) (t : ByteArray),i + m = K ∧ (keyText s0 r.Keys i = some t) ∧ st = (⟨_,[(1,I k),(2,.o (.c (.ptr 0 0))),(4,.o (.c (.ptr 1 0))),(8,S t),(53,.o (.c (.rd [] (.sl 1 ((els r.Keys).take (k + 1).toNat))))),(54,I K),(55,I i)],[.box ((Enc.e r).map (V1.rd [])),.box [nilV,jn 0,jn 0,nilV,nilV]]⟩ : St)) (K) ⟨(fun (i : Nat) (t : ByteArray) => (⟨_,[(1,I k),(2,.o (.c (.ptr 0 0))),(4,.o (.c (.ptr 1 0))),(8,S t),(53,.o (.c (.rd [] (.sl 1 ((els r.Keys).take (k + 1).toNat))))),(54,I K),(55,I i)],[.box ((Enc.e r).map (V1.rd [])),.box [nilV,jn 0,jn 0,nilV,nilV]]⟩ : St)) 0 (s0),⟨0,s0,by omega,J,J⟩,X7 [0,1] (by decide) J (by kernel_rfl) (.c J (.c J (.c J (.c J (.c J (.cons (Xx (by rw [htl])) (.c J (.nil))))))))⟩ ?_
 rintro m_A _ ⟨i,t,hk_A,hp_A,rfl⟩
 have htz := keyText_len hbl hp_A
 refine zy (zx (Z1 J J J J) J (zz (Qd ?_)))
 refine Xb J (fun h3 => ?_) (fun h3 => ?_)
 ·have h3 : i < K := by have := of_decide_eq_true h3; omega
  have hil : i < r.Keys.length := by omega
  have hki := List.getElem?_eq_getElem hil
  have hat : ((els r.Keys).take (k + 1).toNat)[(i : Int).toNat]? = some (Enc.e (r.Keys[i])) := by
   rw [List.getElem?_take,if_pos (by omega)]
   exact Yo hil
  have hdz := hks _ (List.getElem_mem hil)
  generalize r.Keys[i] = d at hki hat hdz
  have hap := I_ApplyDelta t d (by omega) (by omega)
  have hst := keyText_step hp_A hki
  cases hx : applyD t d with
  | none =>
   rw [hx] at hap hst
   rw [keyWorld_none1 (by rw [← hs0]; exact keyText_none hst (by omega))]
   refine Qh (Q0 (Qd (Qk (zy (zx (Q2 J J J J (by omega) (by assumption) J) J (zx (Z0 J J J J) J (z1 J (zz (Qd ?_)))))))));refine Qc (z0 J (z0 J ?_));refine M1 (Zo J J (hap) J J J) J J ?_;refine zx (Q8 J J J) J (ze J (ze J (z1 J (z1 J (zz (Qd (zy (z0 J (zn J ?_)))))))));refine zz (Qm J (zy (zx (Zl J J J J J) J ?_)));refine Qy J J J J J J J J J (z1 J (zz (Xa (T_r (B_r (T_r (T_r (B_r (T_r (F_r ?_))))))))))
   exact Xn J J J J J (X6 [1,1,9] [2,3,4] J J (by decide) J J J)
  | some t' =>
   rw [hx] at hap hst
   refine Qh (Q0 (Qd (Qk (zy (zx (Q2 J J J J (by omega) (by assumption) J) J (zx (Z0 J J J J) J (z1 J (zz (Qd ?_)))))))));refine Qc (z0 J (z0 J ?_));refine M1 (Zo J J (hap) J J J) J J ?_;refine zx (Q8 J J J) J (ze J (ze J (z1 J (z1 J (zz (Qd (zy (z0 J (zn J ?_)))))))));refine zz (Ql J (Qh (Q0 (Qc (z0 J (z1 J (Qe (Q1 (Q0 (Qc ?_))))))))));refine z7 J (by omega) (z0 J (zz ?_))
   exact ⟨K - (i + 1),by omega,_,⟨i + 1,t',by omega,hst,J⟩,W_gj [0,1] (by kernel_rfl)⟩
 have h3 : i = K := by have := of_decide_eq_false h3; omega
 subst h3
 have hrw := I_ReadWorld r.Level t hg.1 hL (by omega)
 have hkt : keyText (worldBytes (newWorld r.Level r.Players.toNat r.Seed)) r.Keys i = some t := by rw [← hs0]; exact hp_A
 have hmul := key_mul (k := k + 1) (e := r.Every) (by omega) (by omega) hr.e.1 hr.e.2
 cases hw : readWorld r.Level t with
 | none =>
  rw [hw] at hrw
  rw [keyWorld_none2 hkt hw]
  refine Q9 (T_x (T_x (Xl (Q0 (zy (z2 J J J (z4 J J J (z0 J ?_))))))));refine M1 (Zo J J (hrw) J J J) J J ?_;refine zx (Q8 J J J) J (ze J (ze J (M1 (Qx J J J) J J ?_)));refine Qy J J J J J J J J J (z1 J (zz (Qd (zy (z0 J (zn J (z0 J (z6 J (z6 J ?_)))))))));refine z6 J (z6 J (z6 J (z6 J (z6 J (z6 J (zpT J (z0 J (z6 J (z6 J (z6 J (z6 J ?_)))))))))));refine z6 J (z6 J (zpT J (zz (Qm J (zy (zx (Zl J J J J J) J ?_))))));refine Qy J J J J J J J J J (z1 J (zz (Xa (T_r (F_r ?_)))))
  exact Xn J J J J J (X6 [1,1,9] [6,7,8] J J (by decide) J J J)
 | some w =>
  rw [hw] at hrw
  have hls := Yp w.Scores
  by_cases c1 : w.Tick = (k + 1) * r.Every
  ·have e1 : decide (w.Tick ≠ (k + 1) * r.Every) = false := decide_eq_false (fun q => q c1)
   by_cases c2 : (w.Scores.length : Int) = r.Players
   ·have e2 : decide (((els w.Scores).length : Int) ≠ r.Players) = false := decide_eq_false (by rw [hls]; exact fun q => q c2)
    rw [keyWorld_yes hkt hw ⟨by rw [← hK]; exact c1,c2⟩]
    refine Q9 (T_x (T_x (Xl (Q0 (zy (z2 J J J (z4 J J J (z0 J ?_))))))));refine M1 (Zo J J (hrw) J J J) J J ?_;refine zx (Q8 J J J) J (ze J (ze J (M1 (Qx J J J) J J ?_)));refine Qy J J J J J J J J J (z1 J (zz (Qd (zy (z0 J (zn J (z0 J (z5 J (z2 J J J ?_)))))))));refine z5 J (z3 J (z5 J (z0 J (z5 J (z7 J (by omega) (z5 J (z2 J J J (z5 J (z3 J (z5 J (zx (Z3 J J J J (by omega)) J ?_)))))))))));refine z5 J (z9f J (by assumption) (zpF J (z0 J (z5 J (z2 J J J (z5 J (z3 J (z5 J (zx (Zx J J J J) J (z5 J (z2 J J J ?_)))))))))));refine z5 J (z3 J (z5 J (z9f J (by assumption) (zpF J (zz (Ql J (Qh (Q0 (zy ?_)))))))));refine z4 J J J ?_;refine Qy J J J J J J J J J (z1 J (zz (Xa (F_r ?_))))
    exact Xn J J J J J (X5 [2,3,4] (by decide) J J J)
   ·have e2 : decide (((els w.Scores).length : Int) ≠ r.Players) = true := decide_eq_true (by rw [hls]; exact c2)
    rw [keyWorld_no hkt hw (fun q => c2 q.2)]
    refine Q9 (T_x (T_x (Xl (Q0 (zy (z2 J J J (z4 J J J (z0 J ?_))))))));refine M1 (Zo J J (hrw) J J J) J J ?_;refine zx (Q8 J J J) J (ze J (ze J (M1 (Qx J J J) J J ?_)));refine Qy J J J J J J J J J (z1 J (zz (Qd (zy (z0 J (zn J (z0 J (z5 J (z2 J J J ?_)))))))));refine z5 J (z3 J (z5 J (z0 J (z5 J (z7 J (by omega) (z5 J (z2 J J J (z5 J (z3 J (z5 J (zx (Z3 J J J J (by omega)) J ?_)))))))))));refine z5 J (z9f J (by assumption) (zpF J (z0 J (z5 J (z2 J J J (z5 J (z3 J (z5 J (zx (Zx J J J J) J (z5 J (z2 J J J ?_)))))))))));refine z5 J (z3 J (z5 J (z9f J (by assumption) (zpF J (zz (Qm J (zy (zx (Zl J J J J J) J ?_))))))));refine Qy J J J J J J J J J (z1 J (zz (Xa (T_r (F_r ?_)))))
    exact Xn J J J J J (X6 [1,1,9] [6,7,8] J J (by decide) J J J)
  ·have e1 : decide (w.Tick ≠ (k + 1) * r.Every) = true := decide_eq_true c1
   rw [keyWorld_no hkt hw (fun q => c1 (by rw [hK]; exact q.1))]
   refine Q9 (T_x (T_x (Xl (Q0 (zy (z2 J J J (z4 J J J (z0 J ?_))))))));refine M1 (Zo J J (hrw) J J J) J J ?_;refine zx (Q8 J J J) J (ze J (ze J (M1 (Qx J J J) J J ?_)));refine Qy J J J J J J J J J (z1 J (zz (Qd (zy (z0 J (zn J (z0 J (z5 J (z2 J J J ?_)))))))));refine z5 J (z3 J (z5 J (z0 J (z5 J (z7 J (by omega) (z5 J (z2 J J J (z5 J (z3 J (z5 J (zx (Z3 J J J J (by omega)) J ?_)))))))))));refine z5 J (z9f J (by assumption) (zpF J (z0 J (z6 J (z6 J (z6 J (z6 J (z6 J (z6 J (zpT J (Qe ?_)))))))))));refine Q0 (Qm J (zy (zx (Zl J J J J J) J ?_)));refine Qy J J J J J J J J J (z1 J (zz (Xa (T_r (F_r ?_)))))
   exact Xn J J J J J (X6 [1,1,9] [6,7,8] J J (by decide) J J J)
end
section
open Go.RowKit

noncomputable def playM (r : TReplay) (k : Int) : Option TWorld := if replayOk r = true ∧ 0 ≤ k ∧ k ≤ r.Rows.length then some (runM (newWorld r.Level r.Players.toNat r.Seed) (r.Rows.take k.toNat)) else none
theorem play_no {r : TReplay} {k : Int} (h : ¬ (replayOk r = true ∧ 0 ≤ k ∧ k ≤ r.Rows.length)) : playM r k = none := if_neg h
theorem play_yes {r : TReplay} {k : Int} (h : replayOk r = true ∧ 0 ≤ k ∧ k ≤ r.Rows.length) : playM r k = some (runM (newWorld r.Level r.Players.toNat r.Seed) (r.Rows.take k.toNat)) := if_pos h
theorem new_in {r : TReplay} (ir : RepIn r) (h : replayOk r = true) : WorIn (newWorld r.Level r.Players.toNat r.Seed) := by
 have hr := rok h
 have hp := hr.p
 refine ⟨Y9 (n := r.Players.toNat) ir.gd.1 hr.l (by omega) hr.s,ir.h1,?_,?_⟩
 ·simp only [newWorld,List.length_replicate]; omega
 ·simp only [newWorld,List.length_map,List.length_range]; omega
theorem play_in {r : TReplay} {k : Int} (ir : RepIn r) : WorIn (rwW (playM r k)) := by
 by_cases h : replayOk r = true ∧ 0 ≤ k ∧ k ≤ r.Rows.length
 ·rw [play_yes h]
  exact ran_in _ (new_in ir h.1)
 ·rw [play_no h]
  exact Km
theorem takes_els {r : TReplay} {k : Int} : (els r.Rows).take k.toNat = els (r.Rows.take k.toNat) := (Ys _ _).symm
theorem I_PlayReplay (r : TReplay) (k : Int) (hg : Enc.gd r) (hk : I64 k) (ir : RepIn r) : Con Tryz.prog 13 [] [ag r,ai k] (ownO (Enc.e (rwW (playM r k)))) (.tu [.ag (ownV 0 (Enc.e (rwW (playM r k)))),.c (bv (rwB (playM r k)))]) := by
 have cr := Xu r hg
 have hlk := Yp r.Rows
 obtain ⟨hk1,hk2⟩ := hk
 have hL := ir.h1
 refine Con.of Tryz.func13 J Tryz.ntmps13 J (fun E => ?_)
 refine zy (M1 (Qq J J J J) J J (M1 (Qx J J J) J J (z1 J (zz (Qd (zy (z4 J J J ?_)))))));refine zx (Qj J J (cr) J) J ?_;refine zn J (z0 J ?_);refine zx (Qt.grdF J J J .stop (fun hgrd => Qa J J J)) J ?_;refine zx (Qt.grdF J J J (.hit .stop) (fun hgrd => Z1 J J J J)) J ?_;refine zx (Z5 J J J J) J (z0 J ?_);refine zx (Qt.grdF J J J .stop (fun hgrd => Qa J J J)) J ?_;refine zx (Qt.grdF J J J (.hit .stop) (fun hgrd => Qf J J J J (by decide))) J ?_;refine zx (Qt.grdF J J J (.hit (.hit .stop)) (fun hgrd => Qg J J J J J)) J ?_;refine zx (Qt.grdF J J J (.hit (.hit (.hit .stop))) (fun hgrd => Zw J J J)) J ?_;refine zx (Qt.grdF J J J (.hit (.hit (.hit (.hit .stop)))) (fun hgrd => Zu J J J J)) J ?_;refine zx (Z5 J J J J) J (zz ?_)
 refine Xb J (fun h => ?_) (fun h => ?_)
 ·rw [play_no (fun ⟨q1,q2,q3⟩ => by rw [q1] at h; simp at h; omega)]
  refine zy (zx (Zl J J J J J) J ?_);refine Qy J J J J J J J J J (z1 J (zz (Xa (T_r (F_r ?_)))))
  exact Xn J J J J J (X6 [1,1,9] [2,3,4] J J (by decide) J J J)
 simp only [Bool.or_eq_false_iff,Bool.not_eq_false',decide_eq_false_iff_not] at h
 have hv : replayOk r = true ∧ 0 ≤ k ∧ k ≤ r.Rows.length := ⟨h.1.1,by omega,by omega⟩
 have hr := rok hv.1
 obtain ⟨hp1,hp2⟩ := hr.p
 have hnw := I_NewWorld r.Level r.Players.toNat r.Seed hg.1 hL hr.l (by omega) hr.s
 rw [show ((r.Players.toNat : Nat) : Int) = r.Players by omega] at hnw
 have iw := new_in ir hv.1
 have hrw := I_RunWorld _ (r.Rows.take k.toNat) iw (Enc.gd_take hg.2.2.2.2.1 _)
 have hrw : Con Tryz.prog 44 [] [ag (newWorld r.Level r.Players.toNat r.Seed),.c (.rd [] (.sl (Enc.k (List Int)) ((els r.Rows).take k.toNat)))] (ownO (Enc.e (runM (newWorld r.Level r.Players.toNat r.Seed) (r.Rows.take k.toNat)))) (.o (.ag (ownV 0 (Enc.e (runM (newWorld r.Level r.Players.toNat r.Seed) (r.Rows.take k.toNat)))))) := by rw [takes_els]; exact hrw
 rw [play_yes hv]
 generalize newWorld r.Level r.Players.toNat r.Seed = w at hnw hrw
 refine AWP.pre (st' := (⟨_,[(1,I k),(2,.o (.c (.ptr 0 0))),(4,.o (.c (.ptr 1 0)))],[.box ((Enc.e r).map (V1.rd [])),.box [nilV,jn 0,jn 0,nilV,nilV]]⟩ : St)) ?_ (W_gj [0,1] (by kernel_rfl))
 refine Qh (Q0 (zy (z2 J J J (z4 J J J (z2 J J J (z3 J (z2 J J J (z3 J ?_))))))));refine M1 (Zo J J (hnw) J J J) J J ?_;refine zx (Q8 J J J) J (ze J (ze J (M1 (Qx J J J) J J ?_)));refine Qy J J J J J J J J J (z1 J (zz (Qd (zy (z0 J (zn J (zz (Ql J ?_))))))));refine Qh (Q0 (Qd ?_))
 have hq : (0 : Int) ≤ k ∧ k ≤ ((els r.Rows).length : Nat) := by omega
 refine Xi [[],[],[1],[],[1,2,3],(u9 5),(u9 6),(u9 7)] [[],[],[37],[],[37,38,39],[36,37,38,39,40],[36,37,38,39,40,41],[36,37,38,39,40,41]] [[37,38,39,40],[36,39],[36,39],[36,37,38],[36],[],[],[]] J (DR.s (Qu J J J J J J) J J (DR.s (Qf J J J J (by decide)) J J (DR.s (Qg J J J J J) J J (DR.s (Qa J J J) J J (DR.s (q_part0 J J J J J hq) J J ?_)))));refine DR.s (Zo J J (hrw) J J J) J J ?_;refine DR.stop (by kernel_rfl) (by kernel_rfl) ?_;refine Qy J J J J J J J J J (z1 J (zz (Xa (F_r ?_))))
 exact Xn J J J J J (X5 [6,7,8] (by decide) J J J)
end
end Go.Proofs.YtbfhboakafjjgaaGreat
