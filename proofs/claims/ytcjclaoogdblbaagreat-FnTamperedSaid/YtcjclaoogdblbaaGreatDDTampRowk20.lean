/-
  Parts of the proof (rules, data, and what functions of the program and of the reference return), among them: Comparing replays: what SameReplay and what it calls return, in the program and in the reference; Comparing replays, second part: levels and replays.
  Conditions: those that each theorem names.
-/
import Derived.Test.YtcjclaoogdblbaaGreatDDTampRowk10
import Derived.Test.YtcjclaoogdblbaaGreatDDTampRowk14
import Derived.Test.YtcjclaoogdblbaaGreatDDTampRowk18
import Derived.Test.YtcjclaoogdblbaaGreatDDTampRowk19
set_option linter.unusedSimpArgs false
set_option linter.unusedVariables false
set_option maxRecDepth 8000
set_option maxHeartbeats 8000000
namespace Go.Proofs.YtcjclaoogdblbaaGreat
section
open Go.RowKit

theorem row6 {a b c d e : Ob} {k : Nat} {x y : List (List T)} (h : x = y) : [a,b,c,d,e,Ob.row k x] = [a,b,c,d,e,Ob.row k y] := by rw [h]
theorem plain_dt (l : List Int) (a b : Nat) : plainT (((els l).take a).drop b) := fun e he => Yy l e (List.mem_of_mem_take (List.mem_of_mem_drop he))
theorem k_dt (l : List Int) (a b : Nat) : ∀ e ∈ ((els l).take a).drop b,e.length = 1 := fun e he => els_k l e (List.mem_of_mem_take (List.mem_of_mem_drop he))
theorem world_bytes_eq {lv : TLevel} {s : ByteArray} {l : List Int} {pos : Nat} (hu : unpackInts s 0 = some (l,pos)) (hp : pos = s.size) (hf : formOk l) : worldBytes (worldOf lv l) = s ↔ worldOk (worldOf lv l) = true := by
 have hcn := unpackInts_canon hu
 have hb := bytesL_all s pos (by omega)
 have hs : packInts l = s := by rw [hcn]; exact hb.2 hp
 cases ho : worldOk (worldOf lv l) with
 | true =>
  rw [show worldBytes (worldOf lv l) = packInts (worldInts (worldOf lv l)) by rw [worldBytes,ho]; exact if_pos rfl,worldOf_ints hf]
  exact ⟨fun _ => rfl,fun _ => hs⟩
 | false =>
  rw [show worldBytes (worldOf lv l) = ⟨#[]⟩ by rw [worldBytes,ho]; exact if_neg (by decide)]
  refine ⟨fun h => ?_,fun h => by cases h⟩
  have h1 := (K4 hu).2.1
  rw [hp,← h] at h1
  exact absurd h1 (by decide)
theorem body_cells {l rest : List Int} {c q : Nat} (hr : rest = l.drop c) : Enc.e (bodyOf (rest.drop (9 * q))) = [.v (.int .i64 (l.getD (c + 9 * q + 0) 0)),.v (.int .i64 (l.getD (c + 9 * q + 1) 0)),.v (.int .i64 (l.getD (c + 9 * q + 2) 0)),.v (.int .i64 (l.getD (c + 9 * q + 3) 0)),.v (.int .i64 (l.getD (c + 9 * q + 4) 0)),.v (.int .i64 (l.getD (c + 9 * q + 5) 0)),.v (.int .i64 (l.getD (c + 9 * q + 6) 0)),.v (.int .i64 (l.getD (c + 9 * q + 7) 0)),.v (.int .i64 (l.getD (c + 9 * q + 8) 0))] := by
 have h : ∀ j,(rest.drop (9 * q)).getD j 0 = l.getD (c + 9 * q + j) 0 := fun j => by
  rw [hr,List.drop_drop,List.getD_eq_getElem?_getD,List.getD_eq_getElem?_getD,List.getElem?_drop]
 show [T.v (.int .i64 ((rest.drop (9 * q)).getD 0 0)),.v (.int .i64 ((rest.drop (9 * q)).getD 1 0)),.v (.int .i64 ((rest.drop (9 * q)).getD 2 0)),.v (.int .i64 ((rest.drop (9 * q)).getD 3 0)),.v (.int .i64 ((rest.drop (9 * q)).getD 4 0)),.v (.int .i64 ((rest.drop (9 * q)).getD 5 0)),.v (.int .i64 ((rest.drop (9 * q)).getD 6 0)),.v (.int .i64 ((rest.drop (9 * q)).getD 7 0)),.v (.int .i64 ((rest.drop (9 * q)).getD 8 0))] = _
 simp only [h]
theorem S_ReadWorld (lv : TLevel) (s : ByteArray) (hg : Enc.gd lv) (hL : lv.Rows.length ≤ 1048576) (hs : s.size ≤ 1099511627776) : Con Tryz.prog 87 [] [ag lv,astr s] (ownO (Enc.e (rwW (readWorld lv s)))) (.tu [.ag (ownV 0 (Enc.e (rwW (readWorld lv s)))),.c (bv (rwB (readWorld lv s)))]) := by
 have hui := S_UnpackInts s 0 hs ⟨by omega,by omega⟩
 cases hu : unpackInts s 0 with
 | none =>
  rw [hu] at hui
  rw [Kr hu]
  refine Con.of Tryz.func87 J Tryz.ntmps87 J (fun E => ?_)
  refine zy (Un (Gf J) J (Un (Gh J J) J (z1 J (zz (zy (z0 J ?_))))));refine Un (Z3 J J (hui) J J J) J ?_;refine zx (Ga J) J (ze J (ze J (ze J (z1 J (z1 J (z1 J (zz (Qd (zy ?_)))))))));refine z0 J (zn J (z0 J (z6 J (z6 J (z6 J (z6 J (zpT J (z0 J (z6 J (z6 J (z6 J ?_)))))))))));refine zpT J (z0 J (z6 J (z6 J (z6 J (z6 J (z6 J (zpT J (z0 J (z6 J (z6 J (z6 J ?_)))))))))));refine z6 J (z6 J (z6 J (z6 J (zpT J (z0 J (z6 J (z6 J (z6 J (z6 J (z6 J (z6 J ?_)))))))))));refine z6 J (z6 J (z6 J (zpT J (zz (Qm J (zy (zx (Zz J J J J J) J ?_)))))));refine G1 J J (z1 J (zz (Xa (T_r (F_r ?_)))))
  exact G7 J J (X9 [1,1,9] [3,4,5] J J (by decide) J J J)
 | some r =>
  obtain ⟨l,pos⟩ := r
  rw [hu] at hui
  obtain ⟨_,hu1,hu2,hu3,hu4⟩ := K4 hu
  have hll := Yx l
  by_cases c1 : (pos : Int) ≠ s.size
  ·have hb1 : decide ((pos : Int) ≠ s.size) = true := decide_eq_true c1
   rw [Kq hu (fun hh => by have := hh.1; omega)]
   refine Con.of Tryz.func87 J Tryz.ntmps87 J (fun E => ?_)
   refine zy (Un (Gf J) J (Un (Gh J J) J (z1 J (zz (zy (z0 J ?_))))));refine Un (Z3 J J (hui) J J J) J ?_;refine zx (Ga J) J (ze J (ze J (ze J (z1 J (z1 J (z1 J (zz (Qd (zy ?_)))))))));refine z0 J (zn J (z0 J (z5 J (z0 J (z5 J (z0 J (z5 J (zx (Kd J J J) J (z5 J (Gn J (zpF J ?_)))))))))));refine z0 J (z6 J (z6 J (z6 J (zpT J (z0 J (z6 J (z6 J (z6 J (z6 J (z6 J (zpT J ?_)))))))))));refine z0 J (z6 J (z6 J (z6 J (z6 J (z6 J (z6 J (z6 J (zpT J (z0 J (z6 J (z6 J ?_)))))))))));refine z6 J (z6 J (z6 J (z6 J (z6 J (z6 J (z6 J (zpT J (zz (Qm J (Qd ?_))))))))));refine Qc (zx (Zz J J J J J) J ?_);refine G1 J J (z1 J (zz (Xa (T_r (F_r ?_)))))
   exact G7 J J (X9 [1,1,9] [3,4,5] J J (by decide) J J J)
  have hb1 : decide ((pos : Int) ≠ s.size) = false := decide_eq_false c1
  by_cases c2 : ((els l).length : Int) < 3
  ·have hb2 : decide (((els l).length : Int) < 3) = true := decide_eq_true c2
   rw [Kq hu (fun hh => by have := hh.2.1.1; omega)]
   refine Con.of Tryz.func87 J Tryz.ntmps87 J (fun E => ?_)
   refine zy (Un (Gf J) J (Un (Gh J J) J (z1 J (zz (zy (z0 J ?_))))));refine Un (Z3 J J (hui) J J J) J ?_;refine zx (Ga J) J (ze J (ze J (ze J (z1 J (z1 J (z1 J (zz (Qd (zy ?_)))))))));refine z0 J (zn J (z0 J (z5 J (z0 J (z5 J (z0 J (z5 J (zx (Kd J J J) J (z5 J (Gn J (zpF J ?_)))))))))));refine z0 J (z5 J (z0 J (z5 J (zx (Kc J J J J) J (z5 J (U1 J (zpF J (z0 J (z6 J (z6 J (z6 J ?_)))))))))));refine z6 J (z6 J (zpT J (z0 J (z6 J (z6 J (z6 J (z6 J (z6 J (z6 J (z6 J (zpT J ?_)))))))))));refine z0 J (z6 J (z6 J (z6 J (z6 J (z6 J (z6 J (z6 J (z6 J (z6 J (zpT J (Qe ?_)))))))))));refine Q0 (Qm J (zy (zx (Zz J J J J J) J ?_)));refine G1 J J (z1 J (zz (Xa (T_r (F_r ?_)))))
   exact G7 J J (X9 [1,1,9] [3,4,5] J J (by decide) J J J)
  have hb2 : decide (((els l).length : Int) < 3) = false := decide_eq_false c2
  have ha0 := Yw (l := l) (j := 0) (by omega) 0 rfl
  have ha1 := Yw (l := l) (j := 1) (by omega) 1 rfl
  have ha2 := Yw (l := l) (j := 2) (by omega) 2 rfl
  obtain ⟨l2,hl2⟩ : ∃ l2,l.getD 2 0 = l2 := ⟨_,rfl⟩
  rw [hl2] at ha2
  have hbt := S_in l2 1 4
  by_cases hin : inR l2 1 4 = true
  case neg =>
   have hf : inR l2 1 4 = false := by simpa using hin
   rw [hf] at hbt
   rw [Kq hu (fun hh => by have := hh.2.1.2.1; rw [hl2,← Za] at this; exact hin this)]
   refine Con.of Tryz.func87 J Tryz.ntmps87 J (fun E => ?_)
   refine zy (Un (Gf J) J (Un (Gh J J) J (z1 J (zz (zy (z0 J ?_))))));refine Un (Z3 J J (hui) J J J) J ?_;refine zx (Ga J) J (ze J (ze J (ze J (z1 J (z1 J (z1 J (zz (Qd (zy ?_)))))))));refine z0 J (zn J (z0 J (z5 J (z0 J (z5 J (z0 J (z5 J (zx (Kd J J J) J (z5 J (Gn J (zpF J ?_)))))))))));refine z0 J (z5 J (z0 J (z5 J (zx (Kc J J J J) J (z5 J (U1 J (zpF J (z0 J (z5 J (z0 J (z5 J ?_)))))))))));refine zx (Q3 J J J J J (by omega) (by omega)) J (z5 J (zx (qk J (by assumption) J) J (z5 J ?_)));refine zx (Qj J J (hbt) J) J ?_;refine z5 J (zn J (zpF J (z0 J (z6 J (z6 J (z6 J (z6 J (z6 J (z6 J (z6 J (zpT J ?_)))))))))));refine z0 J (z6 J (z6 J (z6 J (z6 J (z6 J (z6 J (z6 J (z6 J (z6 J (zpT J (Qe ?_)))))))))));refine Q0 (Qm J (zy (zx (Zz J J J J J) J ?_)));refine G1 J J (z1 J (zz (Xa (T_r (F_r ?_)))))
   exact G7 J J (X9 [1,1,9] [3,4,5] J J (by decide) J J J)
  rw [hin] at hbt
  have hin2 := Za.1 hin
  obtain ⟨p,rfl⟩ : ∃ p : Nat,l2 = p := ⟨l2.toNat,by omega⟩
  by_cases c4 : ((els l).length : Int) < 3 + (p : Int)
  ·have hb4 : decide (((els l).length : Int) < 3 + (p : Int)) = true := decide_eq_true c4
   rw [Kq hu (fun hh => by have := hh.2.1.2.2.1; omega)]
   refine Con.of Tryz.func87 J Tryz.ntmps87 J (fun E => ?_)
   refine zy (Un (Gf J) J (Un (Gh J J) J (z1 J (zz (zy (z0 J ?_))))));refine Un (Z3 J J (hui) J J J) J ?_;refine zx (Ga J) J (ze J (ze J (ze J (z1 J (z1 J (z1 J (zz (Qd (zy ?_)))))))));refine z0 J (zn J (z0 J (z5 J (z0 J (z5 J (z0 J (z5 J (zx (Kd J J J) J (z5 J (Gn J (zpF J ?_)))))))))));refine z0 J (z5 J (z0 J (z5 J (zx (Kc J J J J) J (z5 J (U1 J (zpF J (z0 J (z5 J (z0 J (z5 J ?_)))))))))));refine zx (Q3 J J J J J (by omega) (by omega)) J (z5 J (zx (qk J (by assumption) J) J (z5 J ?_)));refine zx (Qj J J (hbt) J) J ?_;refine z5 J (zn J (zpF J (z0 J (z5 J (z0 J (z5 J (zx (Kc J J J J) J (z5 J (z0 J (z5 J (zx (Q3 J J J J J (by omega) (by omega)) J ?_)))))))))));refine z5 J (zx (qk J (by assumption) J) J (z5 J (Uh J (z5 J (U1 J (zpF J (z0 J (z6 J (z6 J (z6 J (z6 J ?_)))))))))));refine z6 J (z6 J (z6 J (z6 J (z6 J (zpT J (zz (Qm J (zy (zx (Zz J J J J J) J ?_)))))))));refine G1 J J (z1 J (zz (Xa (T_r (F_r ?_)))))
   exact G7 J J (X9 [1,1,9] [3,4,5] J J (by decide) J J J)
  have hb4 : decide (((els l).length : Int) < 3 + (p : Int)) = false := decide_eq_false c4
  by_cases c5 : (((els l).length : Int) - 3 - (p : Int)) % 9 ≠ 0
  ·have hb5 : decide ((((els l).length : Int) - 3 - (p : Int)) % 9 ≠ 0) = true := decide_eq_true c5
   rw [Kq hu (fun hh => by have := hh.2.1.2.2.2; rw [hl2] at this; omega)]
   refine Con.of Tryz.func87 J Tryz.ntmps87 J (fun E => ?_)
   refine zy (Un (Gf J) J (Un (Gh J J) J (z1 J (zz (zy (z0 J ?_))))));refine Un (Z3 J J (hui) J J J) J ?_;refine zx (Ga J) J (ze J (ze J (ze J (z1 J (z1 J (z1 J (zz (Qd (zy ?_)))))))));refine z0 J (zn J (z0 J (z5 J (z0 J (z5 J (z0 J (z5 J (zx (Kd J J J) J (z5 J (Gn J (zpF J ?_)))))))))));refine z0 J (z5 J (z0 J (z5 J (zx (Kc J J J J) J (z5 J (U1 J (zpF J (z0 J (z5 J (z0 J (z5 J ?_)))))))))));refine zx (Q3 J J J J J (by omega) (by omega)) J (z5 J (zx (qk J (by assumption) J) J (z5 J ?_)));refine zx (Qj J J (hbt) J) J ?_;refine z5 J (zn J (zpF J (z0 J (z5 J (z0 J (z5 J (zx (Kc J J J J) J (z5 J (z0 J (z5 J (zx (Q3 J J J J J (by omega) (by omega)) J ?_)))))))))));refine z5 J (zx (qk J (by assumption) J) J (z5 J (Uh J (z5 J (U1 J (zpF J (z0 J (z5 J (z0 J (z5 J (zx (Kc J J J J) J ?_)))))))))));refine z5 J (Ux J (z5 J (z0 J (z5 J (zx (Q3 J J J J J (by omega) (by omega)) J (z5 J (zx (qk J (by assumption) J) J (z5 J (Ux J (z5 J (zx (Ul J) J ?_)))))))))));refine z5 J (Gn J (zpF J (zz (Qm J (zy (zx (Zz J J J J J) J ?_))))));refine G1 J J (z1 J (zz (Xa (T_r (F_r ?_)))))
   exact G7 J J (X9 [1,1,9] [3,4,5] J J (by decide) J J J)
  have hb5 : decide ((((els l).length : Int) - 3 - (p : Int)) % 9 ≠ 0) = false := decide_eq_false c5
  obtain ⟨rest,hrest⟩ : ∃ rest,rest = l.drop (3 + p) := ⟨_,rfl⟩
  have hrl : rest.length = l.length - (3 + p) := by rw [hrest]; simp
  obtain ⟨nb,hn⟩ : ∃ nb,rest.length = 9 * nb := ⟨rest.length / 9,by omega⟩
  have hform : formOk l := ⟨by omega,by rw [hl2]; exact hin2,by rw [hl2]; omega,by rw [hl2]; omega⟩
  have hwo : worldOf lv l = ⟨lv,l.getD 0 0,l.getD 1 0,(l.drop 3).take p,bodiesOf rest nb⟩ := by
   rw [worldOf,hl2,Int.toNat_natCast,← hrest,show (l.length - 3 - p) / 9 = nb by omega]
  have hwg := worldOf_gd (lv := lv) hg hu4 (by omega)
  rw [hwo] at hwg
  have hwb := world_bytes_eq (lv := lv) hu (by omega) hform
  rw [hwo] at hwb
  have hpl : ((((els l).take ((3 : Int) + (p : Int)).toNat).drop (3 : Int).toNat)).length = p := by
   rw [List.length_drop,List.length_take,hll]; omega
  have hsc : els ((l.drop 3).take p) = (((els l).take ((3 : Int) + (p : Int)).toNat).drop (3 : Int).toNat) := by
   rw [show ((3 : Int) + (p : Int)).toNat = 3 + p by omega,show (3 : Int).toNat = 3 from rfl,List.drop_take,← els_dropE,← Y0,show 3 + p - 3 = p by omega]
  refine Con.of Tryz.func87 J Tryz.ntmps87 J (fun E => ?_)
  refine zy (Un (Gf J) J (Un (Gh J J) J (z1 J (zz (zy (z0 J ?_))))));refine Un (Z3 J J (hui) J J J) J ?_;refine zx (Ga J) J (ze J (ze J (ze J (z1 J (z1 J (z1 J (zz (Qd (zy ?_)))))))));refine z0 J (zn J (z0 J (z5 J (z0 J (z5 J (z0 J (z5 J (zx (Kd J J J) J (z5 J (Gn J (zpF J ?_)))))))))));refine z0 J (z5 J (z0 J (z5 J (zx (Kc J J J J) J (z5 J (U1 J (zpF J (z0 J (z5 J (z0 J (z5 J ?_)))))))))));refine zx (Q3 J J J J J (by omega) (by omega)) J (z5 J (zx (qk J (by assumption) J) J (z5 J ?_)));refine zx (Qj J J (hbt) J) J ?_;refine z5 J (zn J (zpF J (z0 J (z5 J (z0 J (z5 J (zx (Kc J J J J) J (z5 J (z0 J (z5 J (zx (Q3 J J J J J (by omega) (by omega)) J ?_)))))))))));refine z5 J (zx (qk J (by assumption) J) J (z5 J (Uh J (z5 J (U1 J (zpF J (z0 J (z5 J (z0 J (z5 J (zx (Kc J J J J) J ?_)))))))))));refine z5 J (Ux J (z5 J (z0 J (z5 J (zx (Q3 J J J J J (by omega) (by omega)) J (z5 J (zx (qk J (by assumption) J) J (z5 J (Ux J (z5 J (zx (Ul J) J ?_)))))))))));refine z5 J (Gn J (zpF J (zz (Ql J (Qh (Q0 (zy (z0 J (zx (Q3 J J J J J (by omega) (by omega)) J ?_)))))))));refine zx (qk J (by assumption) J) J (Uh J (z1 J (zz (Qd (Xh [[],[0],[],[2],[2,3],[],[5],[5,6],[],[],[],[9,10],[0,1,8,9,10,11],(u9 13),[],(u9 15)] [[],[63],[],[65],[65,66],[],[68],[68,69],[],[],[],[72,73],[63,64,71,72,73,74],[63,64,65,66,67,68,69,70,71,72,73,74,75],[],[10,63,64,65,66,67,68,69,70,71,72,73,74,75,76]] [[10,65,66,67,68,69,70,71,72,73,74],[10,65,66,67,68,69,70,71,72,73,74],[10,63,64,68,69,70,71,72,73,74,75],[10,63,64,68,69,70,71,72,73,74,75],[10,63,64,68,69,70,71,72,73,74,75],[10,63,64,65,66,67,71,72,73,74,75],[10,63,64,65,66,67,71,72,73,74,75],[10,63,64,65,66,67,71,72,73,74,75],[10,63,64,65,66,67,68,69,70,72,73,74],[10,63,64,65,66,67,68,69,70,71,73],[10,63,64,65,66,67,68,69,70,71,72],[10,63,64,65,66,67,68,69,70,71],[10,65,66,67,68,69,70],[10],[63,64,65,66,67,68,69,70,71,72,73,74,75,76],[]] J (Ve (Vs J J) J ?_))))));refine Ve (Z3 J J (X6 lv hg hL) J J J) J ?_;refine Ve (Vo J) J (Ve (Q3 J J J J J (by omega) (by omega)) J (Ve (qk J (by assumption) J) J (Ve (Vo J) J (Ve (Q3 J J J J J (by omega) (by omega)) J (Ve (qk J (by assumption) J) J (Ve (Zy J J J) J (Ve (Vo J) J (Ve (Vo J) J (Ve (q_partr J J J J J J J (by omega)) J ?_)))))))));refine Ve (q_appz J J J J J J (plain_dt _ _ _) (k_dt _ _ _) (by omega) (by omega) (by omega)) J ?_;refine Ve (Zz J J J J J) J (Ve (Gh J J) J (Vd ?_));refine AL.weak (st' := (⟨_,[(1,S s),(4,.o (.c (.ptr 1 0))),(6,.o (.c (.ref 2))),(9,I (3 + (p : Int))),(10,.o (.c (.ptr 4 0))),(76,.o (.ag [.ref 3,jv (l.getD 0 0),jv (l.getD 1 0),.ref 5,nilV]))],[.box ((Enc.e lv).map (V1.rd [])),.box [nilV,jv 0,jv 0,nilV,nilV],.row 1 (els l),.row 1 (els lv.Rows),.box [nilV,jv 0,jv 0,nilV,nilV],.row 1 (els ((l.drop 3).take p))]⟩ : St)) (Yb [0,1,2,3,6,5] (by decide) J (row6 hsc) (.c J (.c J (.c J (.c J (.c J (.c J (.nil)))))))) ?_;refine AL.weak (Wk.refl _) ?_;refine G1 J J (zz (Qd (zy (z0 J (z1 J (zz (Qk ?_)))))))
  refine AWP.pre ?_ (Wk.nilbox (p := 4) (i := 4) 9 J J)
  skip
  refine Xi (fun m st => ∃ q : Nat,q + m = nb ∧ (True) ∧ st = (⟨_,[(1,S s),(4,.o (.c (.ptr 1 0))),(6,.o (.c (.ref 2))),(10,.o (.c (.ptr 4 0))),(11,I ((3 + p + 9 * q : Nat) : Int))],[.box ((Enc.e lv).map (V1.rd [])),.box [nilV,jv 0,jv 0,nilV,nilV],.row 1 (els l),.row 1 (els lv.Rows),.box [.ref 3,jv (l.getD 0 0),jv (l.getD 1 0),.ref 5,.ref 6],.row 1 (els ((l.drop 3).take p)),.row 9 (els (bodiesOf rest q))]⟩ : St)) (nb) ⟨(fun q : Nat => (⟨_,[(1,S s),(4,.o (.c (.ptr 1 0))),(6,.o (.c (.ref 2))),(10,.o (.c (.ptr 4 0))),(11,I ((3 + p + 9 * q : Nat) : Int))],[.box ((Enc.e lv).map (V1.rd [])),.box [nilV,jv 0,jv 0,nilV,nilV],.row 1 (els l),.row 1 (els lv.Rows),.box [.ref 3,jv (l.getD 0 0),jv (l.getD 1 0),.ref 5,.ref 6],.row 1 (els ((l.drop 3).take p)),.row 9 (els (bodiesOf rest q))]⟩ : St)) 0,⟨0,by omega,trivial,J⟩,V6 [0,1,2,3,4,5,6] J (.c J (.c J (.c J (.c J (.cons (Xv (by omega)) (.nil))))))⟩ ?_
  rintro m_A _ ⟨q,hk_A,hp_A,rfl⟩
  have hlbk := Yx (bodiesOf rest q)
  have hlbk2 := Yk rest q
  by_cases h4 : ((3 + p + 9 * q : Nat) : Int) < (els l).length
  ·have hb6 : decide (((3 + p + 9 * q : Nat) : Int) < (els l).length) = true := decide_eq_true h4
   have hc0 := Yw (l := l) (j := 3 + p + 9 * q + 0) (by omega) (((3 + p + 9 * q : Nat) : Int)) (by omega)
   have hc1 := Yw (l := l) (j := 3 + p + 9 * q + 1) (by omega) (((3 + p + 9 * q : Nat) : Int) + 1) (by omega)
   have hc2 := Yw (l := l) (j := 3 + p + 9 * q + 2) (by omega) (((3 + p + 9 * q : Nat) : Int) + 2) (by omega)
   have hc3 := Yw (l := l) (j := 3 + p + 9 * q + 3) (by omega) (((3 + p + 9 * q : Nat) : Int) + 3) (by omega)
   have hc4 := Yw (l := l) (j := 3 + p + 9 * q + 4) (by omega) (((3 + p + 9 * q : Nat) : Int) + 4) (by omega)
   have hc5 := Yw (l := l) (j := 3 + p + 9 * q + 5) (by omega) (((3 + p + 9 * q : Nat) : Int) + 5) (by omega)
   have hc6 := Yw (l := l) (j := 3 + p + 9 * q + 6) (by omega) (((3 + p + 9 * q : Nat) : Int) + 6) (by omega)
   have hc7 := Yw (l := l) (j := 3 + p + 9 * q + 7) (by omega) (((3 + p + 9 * q : Nat) : Int) + 7) (by omega)
   have hc8 := Yw (l := l) (j := 3 + p + 9 * q + 8) (by omega) (((3 + p + 9 * q : Nat) : Int) + 8) (by omega)
   have hbc := body_cells (q := q) hrest
   have hq24 : (els (bodiesOf rest q)).length ≤ 1099511627776 := by omega
   have hlt : ((3 + p + 9 * q : Nat) : Int) + 9 ≤ (els l).length := by omega
   have hidx : (3 + p + 9 * q : Nat) ≤ 1099511627776 := by omega
   have hqnb : q < nb := by omega
   clear hwg hwo hwb hform hsc hbt hin2 hin ha0 ha1 ha2 hl2 hb1 hb2 hb4 hb5 c1 c2 c4 c5 hu1 hu2 hu3 hu4 hui hpl hrl hn hll hlbk hlbk2 hp_A
   refine Qd (zy (z0 J (z0 J (zx (Kc J J J J) J (U1 J (zz (Qm J (Qh (Q0 ?_)))))))));refine Qd (Qk (Xh [[],[0],[],[],[2,3],[2,3,4],[],[],[7],[6,7,8],[6,7,8,9],[],[],[12],[11,12,13],[11,12,13,14],[],[],[17],[16,17,18],[16,17,18,19],[],[],[22],[21,22,23],[21,22,23,24],[],[],[27],[26,27,28],[26,27,28,29],[],[],[32],[31,32,33],[31,32,33,34],[],[],[37],[36,37,38],[36,37,38,39],[],[],[42],[41,42,43],[41,42,43,44],[2,3,4,5,6,7,8,9,10,11,12,13,14,15,16,17,18,19,20,21,22,23,24,25,26,27,28,29,30,31,32,33,34,35,36,37,38,39,40,41,42,43,44,45],[2,3,4,5,6,7,8,9,10,11,12,13,14,15,16,17,18,19,20,21,22,23,24,25,26,27,28,29,30,31,32,33,34,35,36,37,38,39,40,41,42,43,44,45,46],(u9 48),(u9 49),(u9 50)] [[],[84],[],[],[86,87],[86,87,88],[],[],[91],[90,91,92],[90,91,92,93],[],[],[96],[95,96,97],[95,96,97,98],[],[],[101],[100,101,102],[100,101,102,103],[],[],[106],[105,106,107],[105,106,107,108],[],[],[111],[110,111,112],[110,111,112,113],[],[],[116],[115,116,117],[115,116,117,118],[],[],[121],[120,121,122],[120,121,122,123],[],[],[126],[125,126,127],[125,126,127,128],[86,87,88,89,90,91,92,93,94,95,96,97,98,99,100,101,102,103,104,105,106,107,108,109,110,111,112,113,114,115,116,117,118,119,120,121,122,123,124,125,126,127,128,129],[86,87,88,89,90,91,92,93,94,95,96,97,98,99,100,101,102,103,104,105,106,107,108,109,110,111,112,113,114,115,116,117,118,119,120,121,122,123,124,125,126,127,128,129,130],[84,85,86,87,88,89,90,91,92,93,94,95,96,97,98,99,100,101,102,103,104,105,106,107,108,109,110,111,112,113,114,115,116,117,118,119,120,121,122,123,124,125,126,127,128,129,130,131],[84,85,86,87,88,89,90,91,92,93,94,95,96,97,98,99,100,101,102,103,104,105,106,107,108,109,110,111,112,113,114,115,116,117,118,119,120,121,122,123,124,125,126,127,128,129,130,131,132],[84,85,86,87,88,89,90,91,92,93,94,95,96,97,98,99,100,101,102,103,104,105,106,107,108,109,110,111,112,113,114,115,116,117,118,119,120,121,122,123,124,125,126,127,128,129,130,131,132,133]] [[86,87,88,89,90,91,92,93,94,95,96,97,98,99,100,101,102,103,104,105,106,107,108,109,110,111,112,113,114,115,116,117,118,119,120,121,122,123,124,125,126,127,128,129,130,131],[86,87,88,89,90,91,92,93,94,95,96,97,98,99,100,101,102,103,104,105,106,107,108,109,110,111,112,113,114,115,116,117,118,119,120,121,122,123,124,125,126,127,128,129,130,131],[84,85,87,90,91,92,93,94,95,96,97,98,99,100,101,102,103,104,105,106,107,108,109,110,111,112,113,114,115,116,117,118,119,120,121,122,123,124,125,126,127,128,129],[84,85,86,90,91,92,93,94,95,96,97,98,99,100,101,102,103,104,105,106,107,108,109,110,111,112,113,114,115,116,117,118,119,120,121,122,123,124,125,126,127,128,129],[84,85,90,91,92,93,94,95,96,97,98,99,100,101,102,103,104,105,106,107,108,109,110,111,112,113,114,115,116,117,118,119,120,121,122,123,124,125,126,127,128,129],[84,85,90,91,92,93,94,95,96,97,98,99,100,101,102,103,104,105,106,107,108,109,110,111,112,113,114,115,116,117,118,119,120,121,122,123,124,125,126,127,128,129],[84,85,86,87,88,89,91,92,95,96,97,98,99,100,101,102,103,104,105,106,107,108,109,110,111,112,113,114,115,116,117,118,119,120,121,122,123,124,125,126,127,128,129],[84,85,86,87,88,89,90,95,96,97,98,99,100,101,102,103,104,105,106,107,108,109,110,111,112,113,114,115,116,117,118,119,120,121,122,123,124,125,126,127,128,129],[84,85,86,87,88,89,90,95,96,97,98,99,100,101,102,103,104,105,106,107,108,109,110,111,112,113,114,115,116,117,118,119,120,121,122,123,124,125,126,127,128,129],[84,85,86,87,88,89,95,96,97,98,99,100,101,102,103,104,105,106,107,108,109,110,111,112,113,114,115,116,117,118,119,120,121,122,123,124,125,126,127,128,129],[84,85,86,87,88,89,95,96,97,98,99,100,101,102,103,104,105,106,107,108,109,110,111,112,113,114,115,116,117,118,119,120,121,122,123,124,125,126,127,128,129],[84,85,86,87,88,89,90,91,92,93,94,96,97,100,101,102,103,104,105,106,107,108,109,110,111,112,113,114,115,116,117,118,119,120,121,122,123,124,125,126,127,128,129],[84,85,86,87,88,89,90,91,92,93,94,95,100,101,102,103,104,105,106,107,108,109,110,111,112,113,114,115,116,117,118,119,120,121,122,123,124,125,126,127,128,129],[84,85,86,87,88,89,90,91,92,93,94,95,100,101,102,103,104,105,106,107,108,109,110,111,112,113,114,115,116,117,118,119,120,121,122,123,124,125,126,127,128,129],[84,85,86,87,88,89,90,91,92,93,94,100,101,102,103,104,105,106,107,108,109,110,111,112,113,114,115,116,117,118,119,120,121,122,123,124,125,126,127,128,129],[84,85,86,87,88,89,90,91,92,93,94,100,101,102,103,104,105,106,107,108,109,110,111,112,113,114,115,116,117,118,119,120,121,122,123,124,125,126,127,128,129],[84,85,86,87,88,89,90,91,92,93,94,95,96,97,98,99,101,102,105,106,107,108,109,110,111,112,113,114,115,116,117,118,119,120,121,122,123,124,125,126,127,128,129],[84,85,86,87,88,89,90,91,92,93,94,95,96,97,98,99,100,105,106,107,108,109,110,111,112,113,114,115,116,117,118,119,120,121,122,123,124,125,126,127,128,129],[84,85,86,87,88,89,90,91,92,93,94,95,96,97,98,99,100,105,106,107,108,109,110,111,112,113,114,115,116,117,118,119,120,121,122,123,124,125,126,127,128,129],[84,85,86,87,88,89,90,91,92,93,94,95,96,97,98,99,105,106,107,108,109,110,111,112,113,114,115,116,117,118,119,120,121,122,123,124,125,126,127,128,129],[84,85,86,87,88,89,90,91,92,93,94,95,96,97,98,99,105,106,107,108,109,110,111,112,113,114,115,116,117,118,119,120,121,122,123,124,125,126,127,128,129],[84,85,86,87,88,89,90,91,92,93,94,95,96,97,98,99,100,101,102,103,104,106,107,110,111,112,113,114,115,116,117,118,119,120,121,122,123,124,125,126,127,128,129],[84,85,86,87,88,89,90,91,92,93,94,95,96,97,98,99,100,101,102,103,104,105,110,111,112,113,114,115,116,117,118,119,120,121,122,123,124,125,126,127,128,129],[84,85,86,87,88,89,90,91,92,93,94,95,96,97,98,99,100,101,102,103,104,105,110,111,112,113,114,115,116,117,118,119,120,121,122,123,124,125,126,127,128,129],[84,85,86,87,88,89,90,91,92,93,94,95,96,97,98,99,100,101,102,103,104,110,111,112,113,114,115,116,117,118,119,120,121,122,123,124,125,126,127,128,129],[84,85,86,87,88,89,90,91,92,93,94,95,96,97,98,99,100,101,102,103,104,110,111,112,113,114,115,116,117,118,119,120,121,122,123,124,125,126,127,128,129],[84,85,86,87,88,89,90,91,92,93,94,95,96,97,98,99,100,101,102,103,104,105,106,107,108,109,111,112,115,116,117,118,119,120,121,122,123,124,125,126,127,128,129],[84,85,86,87,88,89,90,91,92,93,94,95,96,97,98,99,100,101,102,103,104,105,106,107,108,109,110,115,116,117,118,119,120,121,122,123,124,125,126,127,128,129],[84,85,86,87,88,89,90,91,92,93,94,95,96,97,98,99,100,101,102,103,104,105,106,107,108,109,110,115,116,117,118,119,120,121,122,123,124,125,126,127,128,129],[84,85,86,87,88,89,90,91,92,93,94,95,96,97,98,99,100,101,102,103,104,105,106,107,108,109,115,116,117,118,119,120,121,122,123,124,125,126,127,128,129],[84,85,86,87,88,89,90,91,92,93,94,95,96,97,98,99,100,101,102,103,104,105,106,107,108,109,115,116,117,118,119,120,121,122,123,124,125,126,127,128,129],[84,85,86,87,88,89,90,91,92,93,94,95,96,97,98,99,100,101,102,103,104,105,106,107,108,109,110,111,112,113,114,116,117,120,121,122,123,124,125,126,127,128,129],[84,85,86,87,88,89,90,91,92,93,94,95,96,97,98,99,100,101,102,103,104,105,106,107,108,109,110,111,112,113,114,115,120,121,122,123,124,125,126,127,128,129],[84,85,86,87,88,89,90,91,92,93,94,95,96,97,98,99,100,101,102,103,104,105,106,107,108,109,110,111,112,113,114,115,120,121,122,123,124,125,126,127,128,129],[84,85,86,87,88,89,90,91,92,93,94,95,96,97,98,99,100,101,102,103,104,105,106,107,108,109,110,111,112,113,114,120,121,122,123,124,125,126,127,128,129],[84,85,86,87,88,89,90,91,92,93,94,95,96,97,98,99,100,101,102,103,104,105,106,107,108,109,110,111,112,113,114,120,121,122,123,124,125,126,127,128,129],[84,85,86,87,88,89,90,91,92,93,94,95,96,97,98,99,100,101,102,103,104,105,106,107,108,109,110,111,112,113,114,115,116,117,118,119,121,122,125,126,127,128,129],[84,85,86,87,88,89,90,91,92,93,94,95,96,97,98,99,100,101,102,103,104,105,106,107,108,109,110,111,112,113,114,115,116,117,118,119,120,125,126,127,128,129],[84,85,86,87,88,89,90,91,92,93,94,95,96,97,98,99,100,101,102,103,104,105,106,107,108,109,110,111,112,113,114,115,116,117,118,119,120,125,126,127,128,129],[84,85,86,87,88,89,90,91,92,93,94,95,96,97,98,99,100,101,102,103,104,105,106,107,108,109,110,111,112,113,114,115,116,117,118,119,125,126,127,128,129],[84,85,86,87,88,89,90,91,92,93,94,95,96,97,98,99,100,101,102,103,104,105,106,107,108,109,110,111,112,113,114,115,116,117,118,119,125,126,127,128,129],[84,85,86,87,88,89,90,91,92,93,94,95,96,97,98,99,100,101,102,103,104,105,106,107,108,109,110,111,112,113,114,115,116,117,118,119,120,121,122,123,124,126,127],[84,85,86,87,88,89,90,91,92,93,94,95,96,97,98,99,100,101,102,103,104,105,106,107,108,109,110,111,112,113,114,115,116,117,118,119,120,121,122,123,124,125],[84,85,86,87,88,89,90,91,92,93,94,95,96,97,98,99,100,101,102,103,104,105,106,107,108,109,110,111,112,113,114,115,116,117,118,119,120,121,122,123,124,125],[84,85,86,87,88,89,90,91,92,93,94,95,96,97,98,99,100,101,102,103,104,105,106,107,108,109,110,111,112,113,114,115,116,117,118,119,120,121,122,123,124],[84,85,86,87,88,89,90,91,92,93,94,95,96,97,98,99,100,101,102,103,104,105,106,107,108,109,110,111,112,113,114,115,116,117,118,119,120,121,122,123,124],[84,85],[84,85],[],[],[]] J (Ve (Vq J J) J (Ve (Vr J) J (Ve (Vo J) J (Ve (Vo J) J (Ve (Q3 J J J J J (by omega) (by assumption)) J (Ve (qk J (by assumption) J) J (Ve (Vo J) J (Ve (Vo J) J (Ve (Vt J) J ?_)))))))))));refine Ve (Q3 J J J J J (by omega) (by omega)) J (Ve (qk J (by assumption) J) J (Ve (Vo J) J (Ve (Vo J) J (Ve (Vt J) J (Ve (Q3 J J J J J (by omega) (by omega)) J (Ve (qk J (by assumption) J) J (Ve (Vo J) J (Ve (Vo J) J (Ve (Vt J) J (Ve (Q3 J J J J J (by omega) (by omega)) J (Ve (qk J (by assumption) J) J ?_)))))))))));refine Ve (Vo J) J (Ve (Vo J) J (Ve (Vt J) J (Ve (Q3 J J J J J (by omega) (by omega)) J (Ve (qk J (by assumption) J) J (Ve (Vo J) J (Ve (Vo J) J (Ve (Vt J) J (Ve (Q3 J J J J J (by omega) (by omega)) J (Ve (qk J (by assumption) J) J (Ve (Vo J) J (Ve (Vo J) J ?_)))))))))));refine Ve (Vt J) J (Ve (Q3 J J J J J (by omega) (by omega)) J (Ve (qk J (by assumption) J) J (Ve (Vo J) J (Ve (Vo J) J (Ve (Vt J) J (Ve (Q3 J J J J J (by omega) (by omega)) J (Ve (qk J (by assumption) J) J (Ve (Vo J) J (Ve (Vo J) J (Ve (Vt J) J (Ve (Q3 J J J J J (by omega) (by assumption)) J ?_)))))))))));refine Ve (qk J (by assumption) J) J ?_;refine DR.s (x := .o (.ag [jv (l.getD (3 + p + 9 * q + 0) 0),jv (l.getD (3 + p + 9 * q + 1) 0),jv (l.getD (3 + p + 9 * q + 2) 0),jv (l.getD (3 + p + 9 * q + 3) 0),jv (l.getD (3 + p + 9 * q + 4) 0),jv (l.getD (3 + p + 9 * q + 5) 0),jv (l.getD (3 + p + 9 * q + 6) 0),jv (l.getD (3 + p + 9 * q + 7) 0),jv (l.getD (3 + p + 9 * q + 8) 0)])) (Zz J J J J (by kernel_rfl)) J J ?_;refine Ve (Uo J J) J (Vd ?_);refine AL.weak (st' := (⟨_,[(1,S s),(4,.o (.c (.ptr 1 0))),(6,.o (.c (.ref 2))),(10,.o (.c (.ptr 4 0))),(11,I ((3 + p + 9 * q : Nat) : Int)),(85,.o (.c (.ref 6))),(131,.o (.c (.sb 7 1 9)))],[.box ((Enc.e lv).map (V1.rd [])),.box [nilV,jv 0,jv 0,nilV,nilV],.row 1 (els l),.row 1 (els lv.Rows),.box [.ref 3,jv (l.getD 0 0),jv (l.getD 1 0),.ref 5,.ref 6],.row 1 (els ((l.drop 3).take p)),.row 9 (els (bodiesOf rest q)),.box [jv (l.getD (3 + p + 9 * q + 0) 0),jv (l.getD (3 + p + 9 * q + 1) 0),jv (l.getD (3 + p + 9 * q + 2) 0),jv (l.getD (3 + p + 9 * q + 3) 0),jv (l.getD (3 + p + 9 * q + 4) 0),jv (l.getD (3 + p + 9 * q + 5) 0),jv (l.getD (3 + p + 9 * q + 6) 0),jv (l.getD (3 + p + 9 * q + 7) 0),jv (l.getD (3 + p + 9 * q + 8) 0)]]⟩ : St)) (Uf [0,1,2,3,4,5,6,7]) ?_;refine Xw J J J J J J J J J J J J J J (by omega) (by omega) ?_;refine Gg J J ?_;refine Gl J (Qe (Q1 (Q0 (Qc (z0 J (Uh J (z1 J (zz ?_))))))))
   exact ⟨nb - (q + 1),by omega,(fun q : Nat => (⟨_,[(1,S s),(4,.o (.c (.ptr 1 0))),(6,.o (.c (.ref 2))),(10,.o (.c (.ptr 4 0))),(11,I ((3 + p + 9 * q : Nat) : Int))],[.box ((Enc.e lv).map (V1.rd [])),.box [nilV,jv 0,jv 0,nilV,nilV],.row 1 (els l),.row 1 (els lv.Rows),.box [.ref 3,jv (l.getD 0 0),jv (l.getD 1 0),.ref 5,.ref 6],.row 1 (els ((l.drop 3).take p)),.row 9 (els (bodiesOf rest q))]⟩ : St)) (q + 1),⟨q + 1,by omega,trivial,J⟩,Yb [0,1,2,3,4,5,6] (by decide) J (row7 (by rw [bodiesOf_snoc,Yu,show els [bodyOf (rest.drop (9 * q))] = [Enc.e (bodyOf (rest.drop (9 * q)))] from J,hbc]; rfl)) (.c J (.c J (.c J (.c J (.cons (Xv (by omega)) (.nil))))))⟩
  ·have hb6 : decide (((3 + p + 9 * q : Nat) : Int) < (els l).length) = false := decide_eq_false h4
   have hqn : q = nb := by omega
   subst hqn
   have hwk := X5 ⟨lv,l.getD 0 0,l.getD 1 0,(l.drop 3).take p,bodiesOf rest q⟩ hwg
   cases ho : worldOk ⟨lv,l.getD 0 0,l.getD 1 0,(l.drop 3).take p,bodiesOf rest q⟩ with
   | false =>
    have hne : decide (worldBytes ⟨lv,l.getD 0 0,l.getD 1 0,(l.drop 3).take p,bodiesOf rest q⟩ ≠ s) = true := decide_eq_true fun h => by rw [hwb,ho] at h; cases h
    rw [Kq hu (fun hh => by have h9 := hh.2.2; rw [hwo,ho] at h9; cases h9)]
    refine Qd (zy (z0 J (z0 J (zx (Kc J J J J) J (U1 J (zz (Ql J (Q9 (T_x ?_)))))))));refine T_x (Xk (Q0 (Qd (zy (Gw J J ?_)))));refine zx (Qj J J (hwk) J) J ?_;refine z0 J (zx (Km J J J J (by assumption)) J (zz (Qm J (zy (zx (Zz J J J J J) J ?_)))));refine G1 J J (z1 J (zz (Xa (T_r (F_r ?_)))))
    exact G7 J J (X9 [1,1,9] [7,8,9] J J (by decide) J J J)
   | true =>
    have hne : decide (worldBytes ⟨lv,l.getD 0 0,l.getD 1 0,(l.drop 3).take p,bodiesOf rest q⟩ ≠ s) = false := decide_eq_false fun h => h (hwb.2 ho)
    rw [Ks hu ⟨by omega,hform,by rw [hwo]; exact ho⟩,hwo]
    refine Qd (zy (z0 J (z0 J (zx (Kc J J J J) J (U1 J (zz (Ql J (Q9 (T_x ?_)))))))));refine T_x (Xk (Q0 (Qd (zy (Gw J J ?_)))));refine zx (Qj J J (hwk) J) J ?_;refine z0 J (zx (Km J J J J (by assumption)) J (zz (Ql J (Qh (Q0 (zy (Gw J J ?_)))))));refine G1 J J (z1 J (zz (Xa (F_r ?_))))
    exact G7 J J (Ue [3,5,6] J J J)
end
section
open Go.RowKit

def keyText (s : ByteArray) (keys : List ByteArray) : Nat → Option ByteArray
 | 0 => some s
 | n + 1 => match keyText s keys n with
  | none => none
  | some t => match keys[n]? with
   | none => none
   | some d => applyD t d
theorem keyText_none {s : ByteArray} {keys : List ByteArray} {i : Nat} (h : keyText s keys i = none) : ∀ {n : Nat},i ≤ n → keyText s keys n = none
 | 0,hn => by have : i = 0 := (by omega); subst this; exact h
 | n + 1,hn => by
  by_cases e : i = n + 1
  ·subst e; exact h
  ·rw [keyText,keyText_none h (by omega)]
theorem Zb {s t d : ByteArray} {keys : List ByteArray} {n : Nat} (h : keyText s keys n = some t) (hk : keys[n]? = some d) : keyText s keys (n + 1) = applyD t d := by rw [keyText,h]; simp only [hk]
theorem keyText_len {s : ByteArray} {keys : List ByteArray} (hs : s.size ≤ 20000) : ∀ {n : Nat} {t : ByteArray},keyText s keys n = some t → t.size ≤ 20000
 | 0,t,h => by cases h; exact hs
 | n + 1,t,h => by
  rw [keyText] at h
  split at h
  ·cases h
  ·split at h
   ·cases h
   ·exact applyD_len h
structure ROk (r : TReplay) : Prop where
 l : levelOk r.Level = true
 p : 1 ≤ r.Players ∧ r.Players ≤ 4
 s : inR r.Seed 0 65535 = true
 e : 1 ≤ r.Every ∧ r.Every ≤ 100
 k : r.Keys.length ≤ 400
theorem rok {r : TReplay} (h : replayOk r = true) : ROk r := by
 unfold replayOk at h
 simp only [Bool.and_eq_true,decide_eq_true_eq,Za] at h
 obtain ⟨⟨⟨⟨⟨⟨h1,h2⟩,h3⟩,h4⟩,h5⟩,h6⟩,h7⟩ := h
 refine ⟨h1,h2,Za.2 h3,h4,?_⟩
 have : (r.Rows.length : Int) / r.Every ≤ r.Rows.length := Int.ediv_le_self _ (by omega)
 omega
noncomputable def keyWorld (r : TReplay) (k : Nat) : Option TWorld := match keyText (worldBytes (newWorld r.Level r.Players.toNat r.Seed)) r.Keys k with
 | none => none
 | some s => match readWorld r.Level s with
  | none => none
  | some w => if w.Tick = (k : Int) * r.Every ∧ (w.Scores.length : Int) = r.Players then some w else none
noncomputable def keyAt (r : TReplay) (k : Int) : Option TWorld := if replayOk r = true ∧ -1 ≤ k ∧ k < r.Keys.length then (if k < 0 then some (newWorld r.Level r.Players.toNat r.Seed) else keyWorld r (k + 1).toNat) else none
theorem keyWorld_0 (r : TReplay) (hl : levelOk r.Level = true) (hp : 1 ≤ r.Players ∧ r.Players ≤ 4) (hs : inR r.Seed 0 65535 = true) : keyWorld r 0 = some (newWorld r.Level r.Players.toNat r.Seed) := by
 rw [keyWorld,keyText]
 simp only [newWorld_back hl (n := r.Players.toNat) (by omega) hs]
 rw [if_pos]
 constructor
 ·show (0 : Int) = ((0 : Nat) : Int) * r.Every; simp
 ·simp only [newWorld,List.length_replicate]; omega
theorem Yp (w : TWorld) : (worldBytes w).size ≤ 20000 := by
 unfold worldBytes
 split
 ·rename_i h
  have hw := K8 h
  have h1 := packInts_size (worldInts w)
  have h2 := flat_length w.Bodies
  have h3 : (worldInts w).length = 3 + w.Scores.length + 9 * w.Bodies.length := by
   simp only [worldInts,List.length_append,List.length_cons,List.length_nil]; omega
  have h4 := hw.2.2.2.1
  have h5 := hw.2.2.2.2.2.1
  omega
 ·decide
theorem keyAt_bad {r : TReplay} {k : Int} (h : ¬ (replayOk r = true ∧ -1 ≤ k ∧ k < r.Keys.length)) : keyAt r k = none := if_neg h
theorem keyAt_neg {r : TReplay} {k : Int} (h : replayOk r = true ∧ -1 ≤ k ∧ k < r.Keys.length) (hk : k < 0) : keyAt r k = some (newWorld r.Level r.Players.toNat r.Seed) := by rw [keyAt,if_pos h,if_pos hk]
theorem keyAt_pos {r : TReplay} {k : Int} (h : replayOk r = true ∧ -1 ≤ k ∧ k < r.Keys.length) (hk : ¬ k < 0) : keyAt r k = keyWorld r (k + 1).toNat := by rw [keyAt,if_pos h,if_neg hk]
theorem keyAt_all {r : TReplay} {k : Int} (h : replayOk r = true ∧ -1 ≤ k ∧ k < r.Keys.length) : keyAt r k = keyWorld r (k + 1).toNat := by
 by_cases hk : k < 0
 ·have hr := rok h.1
  rw [keyAt_neg h hk,show (k + 1).toNat = 0 by omega,keyWorld_0 r hr.l hr.p hr.s]
 ·exact keyAt_pos h hk
section
variable {r : TReplay} {n : Nat} {s : ByteArray} {w : TWorld}
theorem Zd (h : keyText (worldBytes (newWorld r.Level r.Players.toNat r.Seed)) r.Keys n = none) : keyWorld r n = none := by rw [keyWorld,h]
variable (h : keyText (worldBytes (newWorld r.Level r.Players.toNat r.Seed)) r.Keys n = some s)
include h
theorem Ze (h2 : readWorld r.Level s = none) : keyWorld r n = none := by rw [keyWorld,h]; simp only [h2]
theorem Zc (h2 : readWorld r.Level s = some w) (hn : ¬ (w.Tick = (n : Int) * r.Every ∧ (w.Scores.length : Int) = r.Players)) : keyWorld r n = none := by rw [keyWorld,h]; simp only [h2]; rw [if_neg hn]
theorem Zf (h2 : readWorld r.Level s = some w) (hn : w.Tick = (n : Int) * r.Every ∧ (w.Scores.length : Int) = r.Players) : keyWorld r n = some w := by rw [keyWorld,h]; simp only [h2]; rw [if_pos hn]
end
theorem keyAt_in {r : TReplay} {k : Int} (hr : RepIn r) : WorIn (rwW (keyAt r k)) := by
 by_cases hv : replayOk r = true ∧ -1 ≤ k ∧ k < r.Keys.length
 ·rw [keyAt_all hv]
  cases ht : keyText (worldBytes (newWorld r.Level r.Players.toNat r.Seed)) r.Keys (k + 1).toNat with
  | none => rw [Zd ht]; exact K6
  | some s =>
   have hl := keyText_len (Yp _) ht
   cases hw : readWorld r.Level s with
   | none => rw [Ze ht hw]; exact K6
   | some w =>
    by_cases hc : w.Tick = ((k + 1).toNat : Int) * r.Every ∧ (w.Scores.length : Int) = r.Players
    ·have := read_in (lv := r.Level) (s := s) hr.gd.1 hr.h1 (by omega)
     rw [hw] at this
     rw [Zf ht hw hc]
     exact this
    ·rw [Zc ht hw hc]; exact K6
 ·rw [keyAt_bad hv]; exact K6
theorem key_mul {k e : Int} (h0 : 0 ≤ k) (h1 : k ≤ 400) (h2 : 1 ≤ e) (h3 : e ≤ 100) : 0 ≤ k * e ∧ k * e ≤ 40000 := ⟨Int.mul_nonneg h0 (by omega),by
 have := Int.mul_le_mul h1 h3 (by omega) (by omega)
 omega⟩
theorem I_KeyAt (r : TReplay) (k : Int) (hg : Enc.gd r) (hk : I64 k) (ir : RepIn r) (hks : ∀ x ∈ r.Keys,x.size ≤ 1048576) : Con Tryz.prog 8 [] [ag r,ai k] (ownO (Enc.e (rwW (keyAt r k)))) (.tu [.ag (ownV 0 (Enc.e (rwW (keyAt r k)))),.c (bv (rwB (keyAt r k)))]) := by
 have cr := I_ReplayOk r hg
 have hlk := Yx r.Keys
 obtain ⟨hk1,hk2⟩ := hk
 have hL := ir.h1
 refine Con.of Tryz.func8 J Tryz.ntmps8 J (fun E => ?_)
 refine zy (Un (Gf J) J (Un (Gh J J) J (z1 J (zz (Qd (zy (Gw J J ?_)))))));refine zx (Qj J J (cr) J) J ?_;refine zn J (z0 J ?_);refine zx (Qt.grdF J J J .stop (fun hgrd => Vo J)) J ?_;refine zx (Uj J (.hit .stop) (fun hgrd => Vi J)) J ?_;refine zx (Uk J) J (z0 J ?_);refine zx (Qt.grdF J J J .stop (fun hgrd => Vo J)) J ?_;refine zx (Uj J (.hit .stop) (fun hgrd => Vq J J)) J ?_;refine zx (Uj J (.hit (.hit .stop)) (fun hgrd => Vr J)) J ?_;refine zx (Uj J (.hit (.hit (.hit .stop))) (fun hgrd => Kb J J J)) J ?_;refine zx (Uj J (.hit (.hit (.hit (.hit .stop)))) (fun hgrd => q_geq J J J J)) J ?_;refine zx (Uk J) J (zz ?_)
 refine Xb J (fun h => ?_) (fun h => ?_)
 ·rw [keyAt_bad (fun ⟨q1,q2,q3⟩ => by rw [q1] at h; simp at h; omega)]
  refine zy (zx (Zz J J J J J) J ?_);refine G1 J J (z1 J (zz (Xa (T_r (F_r ?_)))))
  exact G7 J J (X9 [1,1,9] [2,3,4] J J (by decide) J J J)
 simp only [Bool.or_eq_false_iff,Bool.not_eq_false',decide_eq_false_iff_not] at h
 have hv : replayOk r = true ∧ -1 ≤ k ∧ k < r.Keys.length := ⟨h.1.1,by omega,by omega⟩
 have hr := rok hv.1
 obtain ⟨hp1,hp2⟩ := hr.p
 have hnw := I_NewWorld r.Level r.Players.toNat r.Seed hg.1 hL hr.l (by omega) hr.s
 rw [show ((r.Players.toNat : Nat) : Int) = r.Players by omega] at hnw
 have hgn := Zl (n := r.Players.toNat) hg.1 hr.l (by omega) hr.s
 have hwb := I_WorldBytes _ hgn
 have hbl := Yp (newWorld r.Level r.Players.toNat r.Seed)
 refine AWP.pre (st' := (⟨_,[(1,I k),(2,.o (.c (.ptr 0 0))),(4,.o (.c (.ptr 1 0)))],[.box ((Enc.e r).map (V1.rd [])),.box [nilV,jn 0,jn 0,nilV,nilV]]⟩ : St)) ?_ (Uf [0,1])
 by_cases hk0 : k < 0
 ·have e0 : decide (k < 0) = true := decide_eq_true hk0
  rw [keyAt_neg hv hk0]
  refine Qh (Q0 (zy (Gg J J (Gw J J (Gg J J (z3 J (Gg J J (z3 J ?_))))))));refine Un (Z3 J J (hnw) J J J) J ?_;refine zx (Ga J) J (ze J (ze J (Un (Gh J J) J ?_)));refine G1 J J (z1 J (zz (Qd (zy (z0 J (zn J (z0 J (z5 J (z0 J ?_)))))))));refine z5 J (U1 J (zpF J (zz (Qm J (zy (Gw J J (z0 J ?_)))))));refine G1 J J (z1 J (zz (Xa (T_r (F_r ?_)))))
  exact G7 J J (Ue [2,3,4] J J J)
 have e0 : decide (k < 0) = false := decide_eq_false hk0
 rw [keyAt_pos hv hk0]
 obtain ⟨s0,hs0⟩ : ∃ s0,s0 = worldBytes (newWorld r.Level r.Players.toNat r.Seed) := ⟨_,rfl⟩
 rw [← hs0] at hwb hbl
 obtain ⟨K,hK⟩ : ∃ K : Nat,k + 1 = K := ⟨(k + 1).toNat,by omega⟩
 have hKl : K ≤ r.Keys.length := by omega
 have htl : ((els r.Keys).take (k + 1).toNat).length = K := by rw [List.length_take]; omega
 have hkk := hr.k
 rw [show (k + 1).toNat = K by omega]
 refine Qh (Q0 (zy (Gg J J (Gw J J (Gg J J (z3 J (Gg J J (z3 J ?_))))))));refine Un (Z3 J J (hnw) J J J) J ?_;refine zx (Ga J) J (ze J (ze J (Un (Gh J J) J ?_)));refine G1 J J (z1 J (zz (Qd (zy (z0 J (zn J (z0 J (z5 J (z0 J ?_)))))))));refine z5 J (U1 J (zpF J (zz (Ql J (Qh (Q0 (zy (Gw J J ?_))))))));refine zx (Qj J J (hwb) J) J ?_;refine z1 J (zz (Qd (zy (Gg J J (z3 J (z0 J (Uh J (zx (q_part0 J J J J J (by omega)) J (zx (Kb J J J) J ?_)))))))));refine z0 J (zz (Qk ?_));refine Xi (fun m st => ∃ (i : Nat) (t : ByteArray),i + m = K ∧ (keyText s0 r.Keys i = some t) ∧ st = (⟨_,[(1,I k),(2,.o (.c (.ptr 0 0))),(4,.o (.c (.ptr 1 0))),(8,S t),(53,.o (.c (.rd [] (.sl 1 ((els r.Keys).take (k + 1).toNat))))),(54,I K),(55,I i)],[.box ((Enc.e r).map (V1.rd [])),.box [nilV,jn 0,jn 0,nilV,nilV]]⟩ : St)) (K) ⟨(fun (i : Nat) (t : ByteArray) => (⟨_,[(1,I k),(2,.o (.c (.ptr 0 0))),(4,.o (.c (.ptr 1 0))),(8,S t),(53,.o (.c (.rd [] (.sl 1 ((els r.Keys).take (k + 1).toNat))))),(54,I K),(55,I i)],[.box ((Enc.e r).map (V1.rd [])),.box [nilV,jn 0,jn 0,nilV,nilV]]⟩ : St)) 0 (s0),⟨0,s0,by omega,J,J⟩,V6 [0,1] J (.c J (.c J (.c J (.c J (.c J (.cons (Xv (by rw [htl])) (.c J (.nil))))))))⟩ ?_
 rintro m_A _ ⟨i,t,hk_A,hp_A,rfl⟩
 have htz := keyText_len hbl hp_A
 refine zy (zx (Vi J) J (zz (Qd ?_)))
 refine Xb J (fun h3 => ?_) (fun h3 => ?_)
 ·have h3 : i < K := by have := of_decide_eq_true h3; omega
  have hil : i < r.Keys.length := by omega
  have hki := List.getElem?_eq_getElem hil
  have hat : ((els r.Keys).take (k + 1).toNat)[(i : Int).toNat]? = some (Enc.e (r.Keys[i])) := by
   rw [List.getElem?_take,if_pos (by omega)]
   exact Yv hil
  have hdz := hks _ (List.getElem_mem hil)
  generalize r.Keys[i] = d at hki hat hdz
  have hap := I_ApplyDelta t d (by omega) (by omega)
  have hst := Zb hp_A hki
  cases hx : applyD t d with
  | none =>
   rw [hx] at hap hst
   rw [Zd (by rw [← hs0]; exact keyText_none hst (by omega))]
   refine Qh (Q0 (Qd (Qk (zy (zx (Q2 J J J J (by omega) (by assumption) J) J (zx (Ug J) J (z1 J (zz (Qd ?_)))))))));refine Qc (z0 J (z0 J ?_));refine Un (Z3 J J (hap) J J J) J ?_;refine zx (Ga J) J (ze J (ze J (z1 J (z1 J (zz (Qd (zy (z0 J (zn J ?_)))))))));refine zz (Qm J (zy (zx (Zz J J J J J) J ?_)));refine G1 J J (z1 J (zz (Xa (T_r (B_r (T_r (T_r (B_r (T_r (F_r ?_))))))))))
   exact G7 J J (X9 [1,1,9] [2,3,4] J J (by decide) J J J)
  | some t' =>
   rw [hx] at hap hst
   refine Qh (Q0 (Qd (Qk (zy (zx (Q2 J J J J (by omega) (by assumption) J) J (zx (Ug J) J (z1 J (zz (Qd ?_)))))))));refine Qc (z0 J (z0 J ?_));refine Un (Z3 J J (hap) J J J) J ?_;refine zx (Ga J) J (ze J (ze J (z1 J (z1 J (zz (Qd (zy (z0 J (zn J ?_)))))))));refine zz (Ql J (Qh (Q0 (Qc (z0 J (z1 J (Qe (Q1 (Q0 (Qc ?_))))))))));refine Uh J (z0 J (zz ?_))
   exact ⟨K - (i + 1),by omega,_,⟨i + 1,t',by omega,hst,J⟩,Uf [0,1]⟩
 have h3 : i = K := by have := of_decide_eq_false h3; omega
 subst h3
 have hrw := I_ReadWorld r.Level t hg.1 hL (by omega)
 have hkt : keyText (worldBytes (newWorld r.Level r.Players.toNat r.Seed)) r.Keys i = some t := by rw [← hs0]; exact hp_A
 have hmul := key_mul (k := k + 1) (e := r.Every) (by omega) (by omega) hr.e.1 hr.e.2
 cases hw : readWorld r.Level t with
 | none =>
  rw [hw] at hrw
  rw [Ze hkt hw]
  refine Q9 (T_x (T_x (Xk (Q0 (zy (Gg J J (Gw J J (z0 J ?_))))))));refine Un (Z3 J J (hrw) J J J) J ?_;refine zx (Ga J) J (ze J (ze J (Un (Gh J J) J ?_)));refine G1 J J (z1 J (zz (Qd (zy (z0 J (zn J (z0 J (z6 J (z6 J ?_)))))))));refine z6 J (z6 J (z6 J (z6 J (z6 J (z6 J (zpT J (z0 J (z6 J (z6 J (z6 J (z6 J ?_)))))))))));refine z6 J (z6 J (zpT J (zz (Qm J (zy (zx (Zz J J J J J) J ?_))))));refine G1 J J (z1 J (zz (Xa (T_r (F_r ?_)))))
  exact G7 J J (X9 [1,1,9] [6,7,8] J J (by decide) J J J)
 | some w =>
  rw [hw] at hrw
  have hls := Yx w.Scores
  by_cases c1 : w.Tick = (k + 1) * r.Every
  ·have e1 : decide (w.Tick ≠ (k + 1) * r.Every) = false := decide_eq_false (fun q => q c1)
   by_cases c2 : (w.Scores.length : Int) = r.Players
   ·have e2 : decide (((els w.Scores).length : Int) ≠ r.Players) = false := decide_eq_false (by rw [hls]; exact fun q => q c2)
    rw [Zf hkt hw ⟨by rw [← hK]; exact c1,c2⟩]
    refine Q9 (T_x (T_x (Xk (Q0 (zy (Gg J J (Gw J J (z0 J ?_))))))));refine Un (Z3 J J (hrw) J J J) J ?_;refine zx (Ga J) J (ze J (ze J (Un (Gh J J) J ?_)));refine G1 J J (z1 J (zz (Qd (zy (z0 J (zn J (z0 J (z5 J (Gg J J ?_)))))))));refine z5 J (z3 J (z5 J (z0 J (z5 J (Uh J (z5 J (Gg J J (z5 J (z3 J (z5 J (zx (Uw J) J ?_)))))))))));refine z5 J (Gn J (zpF J (z0 J (z5 J (Gg J J (z5 J (z3 J (z5 J (zx (Kc J J J J) J (z5 J (Gg J J ?_)))))))))));refine z5 J (z3 J (z5 J (Gn J (zpF J (zz (Ql J (Qh (Q0 (zy ?_)))))))));refine Gw J J ?_;refine G1 J J (z1 J (zz (Xa (F_r ?_))))
    exact G7 J J (Ue [2,3,4] J J J)
   ·have e2 : decide (((els w.Scores).length : Int) ≠ r.Players) = true := decide_eq_true (by rw [hls]; exact c2)
    rw [Zc hkt hw (fun q => c2 q.2)]
    refine Q9 (T_x (T_x (Xk (Q0 (zy (Gg J J (Gw J J (z0 J ?_))))))));refine Un (Z3 J J (hrw) J J J) J ?_;refine zx (Ga J) J (ze J (ze J (Un (Gh J J) J ?_)));refine G1 J J (z1 J (zz (Qd (zy (z0 J (zn J (z0 J (z5 J (Gg J J ?_)))))))));refine z5 J (z3 J (z5 J (z0 J (z5 J (Uh J (z5 J (Gg J J (z5 J (z3 J (z5 J (zx (Uw J) J ?_)))))))))));refine z5 J (Gn J (zpF J (z0 J (z5 J (Gg J J (z5 J (z3 J (z5 J (zx (Kc J J J J) J (z5 J (Gg J J ?_)))))))))));refine z5 J (z3 J (z5 J (Gn J (zpF J (zz (Qm J (zy (zx (Zz J J J J J) J ?_))))))));refine G1 J J (z1 J (zz (Xa (T_r (F_r ?_)))))
    exact G7 J J (X9 [1,1,9] [6,7,8] J J (by decide) J J J)
  ·have e1 : decide (w.Tick ≠ (k + 1) * r.Every) = true := decide_eq_true c1
   rw [Zc hkt hw (fun q => c1 (by rw [hK]; exact q.1))]
   refine Q9 (T_x (T_x (Xk (Q0 (zy (Gg J J (Gw J J (z0 J ?_))))))));refine Un (Z3 J J (hrw) J J J) J ?_;refine zx (Ga J) J (ze J (ze J (Un (Gh J J) J ?_)));refine G1 J J (z1 J (zz (Qd (zy (z0 J (zn J (z0 J (z5 J (Gg J J ?_)))))))));refine z5 J (z3 J (z5 J (z0 J (z5 J (Uh J (z5 J (Gg J J (z5 J (z3 J (z5 J (zx (Uw J) J ?_)))))))))));refine z5 J (Gn J (zpF J (z0 J (z6 J (z6 J (z6 J (z6 J (z6 J (z6 J (zpT J (Qe ?_)))))))))));refine Q0 (Qm J (zy (zx (Zz J J J J J) J ?_)));refine G1 J J (z1 J (zz (Xa (T_r (F_r ?_)))))
   exact G7 J J (X9 [1,1,9] [6,7,8] J J (by decide) J J J)
theorem S_KeyAt (r : TReplay) (k : Int) (hg : Enc.gd r) (hk : I64 k) (ir : RepIn r) (hks : ∀ x ∈ r.Keys,x.size ≤ 1048576) : Con Tryz.prog 71 [] [ag r,ai k] (ownO (Enc.e (rwW (keyAt r k)))) (.tu [.ag (ownV 0 (Enc.e (rwW (keyAt r k)))),.c (bv (rwB (keyAt r k)))]) := by
 have cr := X4 r hg
 have hlk := Yx r.Keys
 have hgk := ir.h2
 obtain ⟨hk1,hk2⟩ := hk
 have hL := ir.h1
 have ci := S_in k (-1) (((els r.Keys).length : Int) - 1)
 refine Con.of Tryz.func71 J Tryz.ntmps71 J (fun E => ?_)
 refine zy (Un (Gf J) J (Un (Gh J J) J (z1 J (zz (Qd (zy (Gw J J ?_)))))));refine zx (Qj J J (cr) J) J ?_;refine zn J (z0 J ?_);refine zx (Qt.grdF J J J .stop (fun hgrd => Vo J)) J ?_;refine zx (Uj J (.hit .stop) (fun hgrd => Vq J J)) J ?_;refine zx (Uj J (.hit (.hit .stop)) (fun hgrd => Vr J)) J ?_;refine zx (Uj J (.hit (.hit (.hit .stop))) (fun hgrd => Kb J J J)) J ?_;refine zx (Uj J (.hit (.hit (.hit (.hit .stop)))) (fun hgrd => Xc J J J J (by omega))) J ?_;refine zx (Uj J (.hit (.hit (.hit (.hit (.hit .stop))))) (fun hgrd => Qj J J (ci) J)) J ?_;refine zx (Uj J (.hit (.hit (.hit (.hit (.hit (.hit .stop)))))) (fun hgrd => V3 J)) J ?_;refine zx (Uk J) J (zz ?_)
 refine Xb J (fun h => ?_) (fun h => ?_)
 ·rw [keyAt_bad (fun ⟨q1,q2,q3⟩ => by rw [q1,Za.2 (by omega)] at h; exact absurd h (by decide))]
  refine zy (zx (Zz J J J J J) J ?_);refine G1 J J (z1 J (zz (Xa (T_r (F_r ?_)))))
  exact G7 J J (X9 [1,1,9] [2,3,4] J J (by decide) J J J)
 simp only [Bool.or_eq_false_iff,Bool.not_eq_false',Za] at h
 have hv : replayOk r = true ∧ -1 ≤ k ∧ k < r.Keys.length := ⟨h.1,by omega,by omega⟩
 have hr := rok hv.1
 obtain ⟨hp1,hp2⟩ := hr.p
 have hnw := S_NewWorld r.Level r.Players.toNat r.Seed hg.1 hL hr.l (by omega) hr.s
 rw [show ((r.Players.toNat : Nat) : Int) = r.Players by omega] at hnw
 have hgn := Zl (n := r.Players.toNat) hg.1 hr.l (by omega) hr.s
 have hwb := X5 _ hgn
 have hbl := Yp (newWorld r.Level r.Players.toNat r.Seed)
 refine AWP.pre (st' := (⟨_,[(1,I k),(2,.o (.c (.ptr 0 0))),(4,.o (.c (.ptr 1 0)))],[.box ((Enc.e r).map (V1.rd [])),.box [nilV,jn 0,jn 0,nilV,nilV]]⟩ : St)) ?_ (Uf [0,1])
 rw [keyAt_all hv]
 obtain ⟨s0,hs0⟩ : ∃ s0,s0 = worldBytes (newWorld r.Level r.Players.toNat r.Seed) := ⟨_,rfl⟩
 rw [← hs0] at hwb hbl
 obtain ⟨K,hK⟩ : ∃ K : Nat,k + 1 = K := ⟨(k + 1).toNat,by omega⟩
 have hKl : K ≤ r.Keys.length := by omega
 have hkk := hr.k
 rw [show (k + 1).toNat = K by omega]
 refine Qh (Q0 (zy (Gg J J (Gw J J (Gg J J (z3 J (Gg J J (z3 J ?_))))))));refine Un (Z3 J J (hnw) J J J) J ?_;refine zx (Ga J) J (ze J (ze J (Un (Gh J J) J ?_)));refine G1 J J (z1 J (zz (zy (Gw J J ?_))));refine zx (Qj J J (hwb) J) J ?_;refine z1 J (zz (Qd (zy (z1 J (zz (Qk ?_))))));refine Xi (fun m st => ∃ (i : Nat) (t : ByteArray),i + m = K ∧ (keyText s0 r.Keys i = some t) ∧ st = (⟨_,[(1,I k),(2,.o (.c (.ptr 0 0))),(4,.o (.c (.ptr 1 0))),(8,S t),(9,I i)],[.box ((Enc.e r).map (V1.rd [])),.box [nilV,jn 0,jn 0,nilV,nilV]]⟩ : St)) (K) ⟨_,⟨0,s0,by omega,J,J⟩,Uf [0,1]⟩ ?_
 rintro m_A _ ⟨i,t,hk_A,hp_A,rfl⟩
 have htz := keyText_len hbl hp_A
 refine Qd (zy (z0 J (z0 J (zx (q_leq J J J J) J (zz ?_)))))
 refine Xb J (fun h3 => ?_) (fun h3 => ?_)
 ·have h3 : i < K := by have := of_decide_eq_true h3; omega
  have hil : i < r.Keys.length := by omega
  have hki := List.getElem?_eq_getElem hil
  have hat := Yv hil
  have hdz := hks _ (List.getElem_mem hil)
  generalize r.Keys[i] = d at hki hat hdz
  have hap := S_ApplyDelta t d (by omega) (by omega)
  have hst := Zb hp_A hki
  cases hx : applyD t d with
  | none =>
   rw [hx] at hap hst
   rw [Zd (by rw [← hs0]; exact keyText_none hst (by omega))]
   refine Qh (Q0 (Qd (Qk (zy (z0 J (Gg J J (z3 J (z0 J (zx (Q2 J J J J (by omega) (by assumption) J) J (zx (Ug J) J ?_))))))))));refine Un (Z3 J J (hap) J J J) J ?_;refine zx (Ga J) J (ze J (ze J (z1 J (z1 J (zz (Qd (zy (z0 J (zn J ?_)))))))));refine zz (Qm J (zy (zx (Zz J J J J J) J ?_)));refine G1 J J (z1 J (zz (Xa (T_r (B_r (T_r (T_r (B_r (T_r (F_r ?_))))))))))
   exact G7 J J (X9 [1,1,9] [2,3,4] J J (by decide) J J J)
  | some t' =>
   rw [hx] at hap hst
   refine Qh (Q0 (Qd (Qk (zy (z0 J (Gg J J (z3 J (z0 J (zx (Q2 J J J J (by omega) (by assumption) J) J (zx (Ug J) J ?_))))))))));refine Un (Z3 J J (hap) J J J) J ?_;refine zx (Ga J) J (ze J (ze J (z1 J (z1 J (zz (Qd (zy (z0 J (zn J ?_)))))))));refine zz (Ql J (Qh (Q0 (Qc (z0 J (z1 J (Qe (Q1 (Q0 (Qc ?_))))))))));refine z0 J (Uh J (z1 J (zz ?_)))
   exact ⟨K - (i + 1),by omega,_,⟨i + 1,t',by omega,hst,J⟩,Uf [0,1]⟩
 have h3 : i = K := by have := of_decide_eq_false h3; omega
 subst h3
 have hrw := S_ReadWorld r.Level t hg.1 hL (by omega)
 have hkt : keyText (worldBytes (newWorld r.Level r.Players.toNat r.Seed)) r.Keys i = some t := by rw [← hs0]; exact hp_A
 have hmul := key_mul (k := k + 1) (e := r.Every) (by omega) (by omega) hr.e.1 hr.e.2
 cases hw : readWorld r.Level t with
 | none =>
  rw [hw] at hrw
  rw [Ze hkt hw]
  refine Q9 (T_x (T_x (Xk (Q0 (zy (Gg J J (Gw J J (z0 J ?_))))))));refine Un (Z3 J J (hrw) J J J) J ?_;refine zx (Ga J) J (ze J (ze J (Un (Gh J J) J ?_)));refine G1 J J (z1 J (zz (Qd (zy (z0 J (zn J (z0 J (z6 J (z6 J ?_)))))))));refine z6 J (z6 J (z6 J (z6 J (z6 J (z6 J (zpT J (z0 J (z6 J (z6 J (z6 J (z6 J ?_)))))))))));refine z6 J (z6 J (zpT J (zz (Qm J (zy (zx (Zz J J J J J) J ?_))))));refine G1 J J (z1 J (zz (Xa (T_r (F_r ?_)))))
  exact G7 J J (X9 [1,1,9] [6,7,8] J J (by decide) J J J)
 | some w =>
  rw [hw] at hrw
  have hls := Yx w.Scores
  by_cases c1 : w.Tick = (k + 1) * r.Every
  ·have e1 : decide (w.Tick ≠ (k + 1) * r.Every) = false := decide_eq_false (fun q => q c1)
   by_cases c2 : (w.Scores.length : Int) = r.Players
   ·have e2 : decide (((els w.Scores).length : Int) ≠ r.Players) = false := decide_eq_false (by rw [hls]; exact fun q => q c2)
    rw [Zf hkt hw ⟨by rw [← hK]; exact c1,c2⟩]
    refine Q9 (T_x (T_x (Xk (Q0 (zy (Gg J J (Gw J J (z0 J ?_))))))));refine Un (Z3 J J (hrw) J J J) J ?_;refine zx (Ga J) J (ze J (ze J (Un (Gh J J) J ?_)));refine G1 J J (z1 J (zz (Qd (zy (z0 J (zn J (z0 J (z5 J (Gg J J ?_)))))))));refine z5 J (z3 J (z5 J (z0 J (z5 J (Uh J (z5 J (Gg J J (z5 J (z3 J (z5 J (zx (Uw J) J ?_)))))))))));refine z5 J (Gn J (zpF J (z0 J (z5 J (Gg J J (z5 J (z3 J (z5 J (zx (Kc J J J J) J (z5 J (Gg J J ?_)))))))))));refine z5 J (z3 J (z5 J (Gn J (zpF J (zz (Ql J (Qh (Q0 (zy ?_)))))))));refine Gw J J ?_;refine G1 J J (z1 J (zz (Xa (F_r ?_))))
    exact G7 J J (Ue [2,3,4] J J J)
   ·have e2 : decide (((els w.Scores).length : Int) ≠ r.Players) = true := decide_eq_true (by rw [hls]; exact c2)
    rw [Zc hkt hw (fun q => c2 q.2)]
    refine Q9 (T_x (T_x (Xk (Q0 (zy (Gg J J (Gw J J (z0 J ?_))))))));refine Un (Z3 J J (hrw) J J J) J ?_;refine zx (Ga J) J (ze J (ze J (Un (Gh J J) J ?_)));refine G1 J J (z1 J (zz (Qd (zy (z0 J (zn J (z0 J (z5 J (Gg J J ?_)))))))));refine z5 J (z3 J (z5 J (z0 J (z5 J (Uh J (z5 J (Gg J J (z5 J (z3 J (z5 J (zx (Uw J) J ?_)))))))))));refine z5 J (Gn J (zpF J (z0 J (z5 J (Gg J J (z5 J (z3 J (z5 J (zx (Kc J J J J) J (z5 J (Gg J J ?_)))))))))));refine z5 J (z3 J (z5 J (Gn J (zpF J (zz (Qm J (zy (zx (Zz J J J J J) J ?_))))))));refine G1 J J (z1 J (zz (Xa (T_r (F_r ?_)))))
    exact G7 J J (X9 [1,1,9] [6,7,8] J J (by decide) J J J)
  ·have e1 : decide (w.Tick ≠ (k + 1) * r.Every) = true := decide_eq_true c1
   rw [Zc hkt hw (fun q => c1 (by rw [hK]; exact q.1))]
   refine Q9 (T_x (T_x (Xk (Q0 (zy (Gg J J (Gw J J (z0 J ?_))))))));refine Un (Z3 J J (hrw) J J J) J ?_;refine zx (Ga J) J (ze J (ze J (Un (Gh J J) J ?_)));refine G1 J J (z1 J (zz (Qd (zy (z0 J (zn J (z0 J (z5 J (Gg J J ?_)))))))));refine z5 J (z3 J (z5 J (z0 J (z5 J (Uh J (z5 J (Gg J J (z5 J (z3 J (z5 J (zx (Uw J) J ?_)))))))))));refine z5 J (Gn J (zpF J (z0 J (z6 J (z6 J (z6 J (z6 J (z6 J (z6 J (zpT J (Qe ?_)))))))))));refine Q0 (Qm J (zy (zx (Zz J J J J J) J ?_)));refine G1 J J (z1 J (zz (Xa (T_r (F_r ?_)))))
   exact G7 J J (X9 [1,1,9] [6,7,8] J J (by decide) J J J)
end
section
open Go.RowKit

noncomputable def playM (r : TReplay) (k : Int) : Option TWorld := if replayOk r = true ∧ 0 ≤ k ∧ k ≤ r.Rows.length then some (runM (newWorld r.Level r.Players.toNat r.Seed) (r.Rows.take k.toNat)) else none
theorem play_no {r : TReplay} {k : Int} (h : ¬ (replayOk r = true ∧ 0 ≤ k ∧ k ≤ r.Rows.length)) : playM r k = none := if_neg h
theorem play_yes {r : TReplay} {k : Int} (h : replayOk r = true ∧ 0 ≤ k ∧ k ≤ r.Rows.length) : playM r k = some (runM (newWorld r.Level r.Players.toNat r.Seed) (r.Rows.take k.toNat)) := if_pos h
theorem new_in {r : TReplay} (ir : RepIn r) (h : replayOk r = true) : WorIn (newWorld r.Level r.Players.toNat r.Seed) := by
 have hr := rok h
 have hp := hr.p
 refine ⟨Zl (n := r.Players.toNat) ir.gd.1 hr.l (by omega) hr.s,ir.h1,?_,?_⟩
 ·simp only [newWorld,List.length_replicate]; omega
 ·simp only [newWorld,List.length_map,List.length_range]; omega
theorem play_in {r : TReplay} {k : Int} (ir : RepIn r) : WorIn (rwW (playM r k)) := by
 by_cases h : replayOk r = true ∧ 0 ≤ k ∧ k ≤ r.Rows.length
 ·rw [play_yes h]
  exact ran_in _ (new_in ir h.1)
 ·rw [play_no h]
  exact K6
theorem takes_els {r : TReplay} {k : Int} : (els r.Rows).take k.toNat = els (r.Rows.take k.toNat) := (Y0 _ _).symm
theorem I_PlayReplay (r : TReplay) (k : Int) (hg : Enc.gd r) (hk : I64 k) (ir : RepIn r) : Con Tryz.prog 15 [] [ag r,ai k] (ownO (Enc.e (rwW (playM r k)))) (.tu [.ag (ownV 0 (Enc.e (rwW (playM r k)))),.c (bv (rwB (playM r k)))]) := by
 have cr := I_ReplayOk r hg
 have hlk := Yx r.Rows
 obtain ⟨hk1,hk2⟩ := hk
 have hL := ir.h1
 refine Con.of Tryz.func15 J Tryz.ntmps15 J (fun E => ?_)
 refine zy (Un (Gf J) J (Un (Gh J J) J (z1 J (zz (Qd (zy (Gw J J ?_)))))));refine zx (Qj J J (cr) J) J ?_;refine zn J (z0 J ?_);refine zx (Qt.grdF J J J .stop (fun hgrd => Vo J)) J ?_;refine zx (Uj J (.hit .stop) (fun hgrd => Vi J)) J ?_;refine zx (Uk J) J (z0 J ?_);refine zx (Qt.grdF J J J .stop (fun hgrd => Vo J)) J ?_;refine zx (Uj J (.hit .stop) (fun hgrd => Vq J J)) J ?_;refine zx (Uj J (.hit (.hit .stop)) (fun hgrd => Vr J)) J ?_;refine zx (Uj J (.hit (.hit (.hit .stop))) (fun hgrd => Kb J J J)) J ?_;refine zx (Uj J (.hit (.hit (.hit (.hit .stop)))) (fun hgrd => Z9 J J J J)) J ?_;refine zx (Uk J) J (zz ?_)
 refine Xb J (fun h => ?_) (fun h => ?_)
 ·rw [play_no (fun ⟨q1,q2,q3⟩ => by rw [q1] at h; simp at h; omega)]
  refine zy (zx (Zz J J J J J) J ?_);refine G1 J J (z1 J (zz (Xa (T_r (F_r ?_)))))
  exact G7 J J (X9 [1,1,9] [2,3,4] J J (by decide) J J J)
 simp only [Bool.or_eq_false_iff,Bool.not_eq_false',decide_eq_false_iff_not] at h
 have hv : replayOk r = true ∧ 0 ≤ k ∧ k ≤ r.Rows.length := ⟨h.1.1,by omega,by omega⟩
 have hr := rok hv.1
 obtain ⟨hp1,hp2⟩ := hr.p
 have hnw := I_NewWorld r.Level r.Players.toNat r.Seed hg.1 hL hr.l (by omega) hr.s
 rw [show ((r.Players.toNat : Nat) : Int) = r.Players by omega] at hnw
 have iw := new_in ir hv.1
 have hrw := I_RunWorld _ (r.Rows.take k.toNat) iw (Enc.gd_take hg.2.2.2.2.1 _)
 have hrw : Con Tryz.prog 37 [] [ag (newWorld r.Level r.Players.toNat r.Seed),.c (.rd [] (.sl (Enc.k (List Int)) ((els r.Rows).take k.toNat)))] (ownO (Enc.e (runM (newWorld r.Level r.Players.toNat r.Seed) (r.Rows.take k.toNat)))) (.o (.ag (ownV 0 (Enc.e (runM (newWorld r.Level r.Players.toNat r.Seed) (r.Rows.take k.toNat)))))) := by rw [takes_els]; exact hrw
 rw [play_yes hv]
 generalize newWorld r.Level r.Players.toNat r.Seed = w at hnw hrw
 refine AWP.pre (st' := (⟨_,[(1,I k),(2,.o (.c (.ptr 0 0))),(4,.o (.c (.ptr 1 0)))],[.box ((Enc.e r).map (V1.rd [])),.box [nilV,jn 0,jn 0,nilV,nilV]]⟩ : St)) ?_ (Uf [0,1])
 refine Qh (Q0 (zy (Gg J J (Gw J J (Gg J J (z3 J (Gg J J (z3 J ?_))))))));refine Un (Z3 J J (hnw) J J J) J ?_;refine zx (Ga J) J (ze J (ze J (Un (Gh J J) J ?_)));refine G1 J J (z1 J (zz (Qd (zy (z0 J (zn J (zz (Ql J ?_))))))));refine Qh (Q0 (Qd ?_))
 have hq : (0 : Int) ≤ k ∧ k ≤ ((els r.Rows).length : Nat) := by omega
 refine Xh [[],[],[1],[],[1,2,3],(u9 5),(u9 6),(u9 7)] [[],[],[37],[],[37,38,39],[36,37,38,39,40],[36,37,38,39,40,41],[36,37,38,39,40,41]] [[37,38,39,40],[36,39],[36,39],[36,37,38],[36],[],[],[]] J (Ve (Vs J J) J (Ve (Vq J J) J (Ve (Vr J) J (Ve (Vo J) J (Ve (q_part0 J J J J J hq) J ?_)))));refine Ve (Z3 J J (hrw) J J J) J ?_;refine Vd ?_;refine G1 J J (z1 J (zz (Xa (F_r ?_))))
 exact G7 J J (Ue [6,7,8] J J J)
end
section
open Go.RowKit

noncomputable def seekM (r : TReplay) (t : Int) : Option TWorld :=
 if replayOk r = true ∧ 0 ≤ t ∧ t ≤ r.Rows.length then
  (match keyAt r (t / r.Every - 1) with
  | none => none
  | some w => some (runM w ((r.Rows.take t.toNat).drop (t / r.Every * r.Every).toNat)))
 else none
theorem seek_no {r : TReplay} {t : Int} (h : ¬ (replayOk r = true ∧ 0 ≤ t ∧ t ≤ r.Rows.length)) : seekM r t = none := if_neg h
theorem seek_none {r : TReplay} {t : Int} (h : replayOk r = true ∧ 0 ≤ t ∧ t ≤ r.Rows.length) (hk : keyAt r (t / r.Every - 1) = none) : seekM r t = none := by rw [seekM,if_pos h,hk]
theorem seek_some {r : TReplay} {t : Int} {w : TWorld} (h : replayOk r = true ∧ 0 ≤ t ∧ t ≤ r.Rows.length) (hk : keyAt r (t / r.Every - 1) = some w) : seekM r t = some (runM w ((r.Rows.take t.toNat).drop (t / r.Every * r.Every).toNat)) := by rw [seekM,if_pos h,hk]
theorem seek_in {r : TReplay} {t : Int} (ir : RepIn r) : WorIn (rwW (seekM r t)) := by
 by_cases h : replayOk r = true ∧ 0 ≤ t ∧ t ≤ r.Rows.length
 ·have hi := keyAt_in (k := t / r.Every - 1) ir
  cases hk : keyAt r (t / r.Every - 1) with
  | none => rw [seek_none h hk]; exact K6
  | some w =>
   rw [hk] at hi
   rw [seek_some h hk]
   exact ran_in _ hi
 ·rw [seek_no h]; exact K6
theorem seek_els {xs : List (List Int)} {a b : Nat} : ((els xs).take a).drop b = els ((xs.take a).drop b) := by rw [els,els,List.map_drop,List.map_take]
theorem gd_part {xs : List (List Int)} (h : Enc.gd xs) (a b : Nat) : Enc.gd ((xs.take a).drop b) := ⟨by have := h.1; rw [List.length_drop,List.length_take]; omega,fun x hx => h.2 x (List.mem_of_mem_take (List.mem_of_mem_drop hx))⟩
theorem S_SeekReplay (r : TReplay) (t : Int) (hg : Enc.gd r) (ht : I64 t) (ir : RepIn r) (hks : ∀ x ∈ r.Keys,x.size ≤ 1048576) : Con Tryz.prog 70 [] [ag r,ai t] (ownO (Enc.e (rwW (seekM r t)))) (.tu [.ag (ownV 0 (Enc.e (rwW (seekM r t)))),.c (bv (rwB (seekM r t)))]) := by
 have cr := X4 r hg
 have hlk := Yx r.Rows
 have hrl := ir.h3
 obtain ⟨hk1,hk2⟩ := ht
 have ci := S_in t 0 ((els r.Rows).length : Int)
 refine Con.of Tryz.func70 J Tryz.ntmps70 J (fun E => ?_)
 refine zy (Un (Gf J) J (Un (Gh J J) J (z1 J (zz (Qd (zy (Gw J J ?_)))))));refine zx (Qj J J (cr) J) J ?_;refine zn J (z0 J ?_);refine zx (Qt.grdF J J J .stop (fun hgrd => Vo J)) J ?_;refine zx (Uj J (.hit .stop) (fun hgrd => Vq J J)) J ?_;refine zx (Uj J (.hit (.hit .stop)) (fun hgrd => Vr J)) J ?_;refine zx (Uj J (.hit (.hit (.hit .stop))) (fun hgrd => Kb J J J)) J ?_;refine zx (Uj J (.hit (.hit (.hit (.hit .stop)))) (fun hgrd => Qj J J (ci) J)) J ?_;refine zx (Uj J (.hit (.hit (.hit (.hit (.hit .stop))))) (fun hgrd => V3 J)) J ?_;refine zx (Uk J) J (zz ?_)
 refine Xb J (fun h => ?_) (fun h => ?_)
 ·rw [seek_no (fun ⟨q1,q2,q3⟩ => by rw [q1,Za.2 (by omega)] at h; exact absurd h (by decide))]
  refine zy (zx (Zz J J J J J) J ?_);refine G1 J J (z1 J (zz (Xa (T_r (F_r ?_)))))
  exact G7 J J (X9 [1,1,9] [2,3,4] J J (by decide) J J J)
 simp only [Bool.or_eq_false_iff,Bool.not_eq_false',Za] at h
 have hv : replayOk r = true ∧ 0 ≤ t ∧ t ≤ r.Rows.length := ⟨h.1,by omega,by omega⟩
 have hr := rok hv.1
 obtain ⟨he1,he2⟩ := hr.e
 obtain ⟨K,hK⟩ : ∃ K,K = t / r.Every := ⟨_,rfl⟩
 have hK0 : 0 ≤ K := by rw [hK]; exact Int.ediv_nonneg hv.2.1 (by omega)
 have hKt : K ≤ t := by rw [hK]; exact Int.ediv_le_self _ hv.2.1
 have hm0 : 0 ≤ K * r.Every := Int.mul_nonneg hK0 (by omega)
 have hmt : K * r.Every ≤ t := by rw [hK]; exact Int.ediv_mul_le t (by omega)
 have hka := S_KeyAt r (K - 1) hg ⟨by omega,by omega⟩ ir hks
 have hin := keyAt_in (k := K - 1) ir
 refine Qh (Q0 (zy (z0 J (Gg J J (z3 J (zx (q_quo J J J J (by omega)) J (z1 J (zz (Qd ?_)))))))));refine Qc (Gw J J (z0 J (Ux J ?_)));refine AL.weak (st' := (⟨_,[(1,I t),(2,.o (.c (.ptr 0 0))),(4,.o (.c (.ptr 1 0))),(6,I K),(26,.o (.ag ((Enc.e r).map (V1.rd [])))),(28,I (K - 1))],[.box ((Enc.e r).map (V1.rd [])),.box [nilV,jn 0,jn 0,nilV,nilV]]⟩ : St)) (V6 [0,1] J (.c J (.c J (.c J (.cons (Xv (by rw [hK])) (.c J (.cons (Xv (by rw [hK])) (.nil)))))))) ?_
 cases hk : keyAt r (K - 1) with
 | none =>
  rw [hk] at hka
  rw [seek_none hv (by rw [← hK]; exact hk)]
  refine Un (Z3 J J (hka) J J J) J ?_;refine zx (Ga J) J (ze J (ze J (Un (Gh J J) J ?_)));refine G1 J J (z1 J (zz (Qd (zy (z0 J (zn J (zz (Qm J ?_))))))));refine zy (zx (Zz J J J J J) J ?_);refine G1 J J (z1 J (zz (Xa (T_r (F_r ?_)))))
  exact G7 J J (X9 [1,1,9] [6,7,8] J J (by decide) J J J)
 | some w =>
  rw [hk] at hka hin
  rw [seek_some hv (by rw [← hK]; exact hk),← hK]
  have iw : WorIn w := hin
  have hrw := S_RunWorld w ((r.Rows.take t.toNat).drop (K * r.Every).toNat) iw (gd_part hg.2.2.2.2.1 _ _)
  have hrw : Con Tryz.prog 84 [] [ag w,.c (.rd [] (.sl (Enc.k (List Int)) (((els r.Rows).take t.toNat).drop (K * r.Every).toNat)))] (ownO (Enc.e (runM w ((r.Rows.take t.toNat).drop (K * r.Every).toNat)))) (.o (.ag (ownV 0 (Enc.e (runM w ((r.Rows.take t.toNat).drop (K * r.Every).toNat)))))) := by rw [seek_els]; exact hrw
  generalize runM w ((r.Rows.take t.toNat).drop (K * r.Every).toNat) = z at hrw
  have hq : (0 : Int) ≤ K * r.Every ∧ K * r.Every ≤ t ∧ t ≤ ((els r.Rows).length : Nat) := by omega
  refine Un (Z3 J J (hka) J J J) J ?_;refine zx (Ga J) J (ze J (ze J (Un (Gh J J) J ?_)));refine G1 J J (z1 J (zz (Qd (zy (z0 J (zn J (zz (Ql J ?_))))))));refine Qh (Q0 (Qd (Xh [[],[],[1],[],[],[4],[3,4,5],[],[1,2,3,4,5,6,7],(u9 9),(u9 10),(u9 11)] [[],[],[36],[],[],[39],[38,39,40],[],[36,37,38,39,40,41,42],[35,36,37,38,39,40,41,42,43],[35,36,37,38,39,40,41,42,43,44],[35,36,37,38,39,40,41,42,43,44]] [[36,37,38,39,40,41,42,43],[35,38,39,40,41,42],[35,38,39,40,41,42],[35,36,37,39,40,42],[35,36,37,38,42],[35,36,37,38,42],[35,36,37,42],[35,36,37,38,39,40,41],[35],[],[],[]] J (Ve (Vs J J) J (Ve (Vq J J) J (Ve (Vr J) J (Ve (Vo J) J (Ve (Vq J J) J (Ve (Vr J) J (Ve (Uw J) J (Ve (Vo J) J ?_)))))))))));refine Ve (q_part J J J J J J hq) J ?_;refine Ve (Z3 J J (hrw) J J J) J ?_;refine Vd ?_;refine G1 J J (z1 J (zz (Xa (F_r ?_))))
  exact G7 J J (Ue [6,7,8] J J J)
end
section
open Go.RowKit

theorem slEqS (xs ys : List ByteArray) (hn : Enc.gd xs) : Con Tryz.prog 61 [] [al xs,al ys] [] (B (decide (xs = ys))) := by
 have hn1 := hn.1
 have hlx := Yx xs
 have hly := Yx ys
 by_cases hl : xs.length = ys.length
 ·have hb : decide (((els xs).length : Int) ≠ ((els ys).length : Int)) = false := by rw [hlx,hly,hl]; simp
  refine Con.of Tryz.func61 J Tryz.ntmps61 J (fun E => ?_)
  refine zy (z1 J (zz (Qd (zy (z0 J (zx (Kb J J J) J (z0 J (zx (Kb J J J) J ?_))))))));refine Gn J (zz (Ql J (Qh (Q0 (Qd (zy (z0 J (zx (Kb J J J) J (z0 J ?_)))))))));refine zz (Qk ?_);refine Xi (fun m st => ∃ k : Nat,k + m = xs.length ∧ (xs.take k = ys.take k) ∧ st = (⟨_,[(0,L xs),(1,L ys),(12,I (els xs).length),(13,I k)],[]⟩ : St)) (xs.length) ⟨_,⟨0,by omega,by simp,J⟩,Uf []⟩ ?_
  rintro m_A _ ⟨k,hk_A,hp_A,rfl⟩
  refine zy (zx (Vi J) J (zz (Qd ?_)))
  refine Xb J (fun h => ?_) (fun h => ?_)
  ·have h3 : k < xs.length := by have := of_decide_eq_true h; omega
   have h4 : k < ys.length := by omega
   have hat := Yv h3
   have hat2 := Yv h4
   by_cases he : xs[k] = ys[k]
   ·have hk : decide (xs[k] ≠ ys[k]) = false := by simp [he]
    refine Qh (Q0 (Qd (Qk (zy (z0 J (z1 J (zz (Qd (Xh u8_38 u8_39 u8_40 J ?_)))))))));refine Ve (Vo J) J (Ve (Vo J) J (Ve (Q2 J J J J (by omega) (by assumption) J) J (Ve (Ug J) J (Ve (Vo J) J (Ve (Vo J) J (Ve (Q2 J J J J (by omega) (by assumption) J) J (Ve (Ug J) J (Ve (Km J J J J (by assumption)) J (Vd (zz ?_))))))))));refine Ql J (Qh (Q1 (Q0 (Qc (Uh J (z0 J (zz ?_)))))))
    exact ⟨xs.length - (k + 1),by omega,_,⟨k + 1,by omega,eq_next h3 h4 hp_A he,J⟩,Uf []⟩
   ·have hk : decide (xs[k] ≠ ys[k]) = true := by simp [he]
    refine Qh (Q0 (Qd (Qk (zy (z0 J (z1 J (zz (Qd (Xh u8_38 u8_39 u8_40 J ?_)))))))));refine Ve (Vo J) J (Ve (Vo J) J (Ve (Q2 J J J J (by omega) (by assumption) J) J (Ve (Ug J) J (Ve (Vo J) J (Ve (Vo J) J (Ve (Q2 J J J J (by omega) (by assumption) J) J (Ve (Ug J) J (Ve (Km J J J J (by assumption)) J (Vd (zz ?_))))))))));refine Qm J (zy (z1 J (zz (Xa (B_r (T_r (T_r (B_r (T_r ?_)))))))));refine F_r ?_
    exact Ud J (Ue [] J J (Xj (eq_ne h3 h4 he).symm))
  ·have h3 : ¬ ((k : Int) < (els xs).length) := of_decide_eq_false h
   refine Q9 (T_x (T_x (Xk (Q0 (zy (z1 J (zz (Xa (F_r ?_)))))))))
   exact Ud J (Ue [] J J (Xj (eq_all (by omega) hl hp_A).symm))
 ·have hb : decide (((els xs).length : Int) ≠ ((els ys).length : Int)) = true := by rw [hlx,hly]; simp; omega
  refine Con.of Tryz.func61 J Tryz.ntmps61 J (fun E => ?_)
  refine zy (z1 J (zz (Qd (zy (z0 J (zx (Kb J J J) J (z0 J (zx (Kb J J J) J ?_))))))));refine Gn J (zz (Qm J (zy (z1 J (zz (Xa (T_r (F_r ?_))))))))
  exact Ud J (Ue [] J J (Xj (eq_len hl).symm))
theorem slEqI (xs ys : List Int) (hn : Enc.gd xs) : Con Tryz.prog 39 [] [al xs,al ys] [] (B (decide (xs = ys))) := by
 have hn1 := hn.1
 have hlx := Yx xs
 have hly := Yx ys
 by_cases hl : xs.length = ys.length
 ·have hb : decide (((els xs).length : Int) ≠ ((els ys).length : Int)) = false := by rw [hlx,hly,hl]; simp
  refine Con.of Tryz.func39 J Tryz.ntmps39 J (fun E => ?_)
  refine zy (z1 J (zz (Qd (zy (z0 J (zx (Kb J J J) J (z0 J (zx (Kb J J J) J ?_))))))));refine Gn J (zz (Ql J (Qh (Q0 (Qd (zy (z0 J (zx (Kb J J J) J (z0 J ?_)))))))));refine zz (Qk ?_);refine Xi (fun m st => ∃ k : Nat,k + m = xs.length ∧ (xs.take k = ys.take k) ∧ st = (⟨_,[(0,L xs),(1,L ys),(12,I (els xs).length),(13,I k)],[]⟩ : St)) (xs.length) ⟨_,⟨0,by omega,by simp,J⟩,Uf []⟩ ?_
  rintro m_A _ ⟨k,hk_A,hp_A,rfl⟩
  refine zy (zx (Vi J) J (zz (Qd ?_)))
  refine Xb J (fun h => ?_) (fun h => ?_)
  ·have h3 : k < xs.length := by have := of_decide_eq_true h; omega
   have h4 : k < ys.length := by omega
   have hat := Yv h3
   have hat2 := Yv h4
   by_cases he : xs[k] = ys[k]
   ·have hk : decide (xs[k] ≠ ys[k]) = false := by simp [he]
    refine Qh (Q0 (Qd (Qk (zy (z0 J (z1 J (zz (Qd (Xh u8_38 u8_39 u8_40 J ?_)))))))));refine Ve (Vo J) J (Ve (Vo J) J (Ve (Q2 J J J J (by omega) (by assumption) J) J (Ve (Ug J) J (Ve (Vo J) J (Ve (Vo J) J (Ve (Q2 J J J J (by omega) (by assumption) J) J (Ve (Ug J) J (Ve (Vy J) J (Vd (zz ?_))))))))));refine Ql J (Qh (Q1 (Q0 (Qc (Uh J (z0 J (zz ?_)))))))
    exact ⟨xs.length - (k + 1),by omega,_,⟨k + 1,by omega,eq_next h3 h4 hp_A he,J⟩,Uf []⟩
   ·have hk : decide (xs[k] ≠ ys[k]) = true := by simp [he]
    refine Qh (Q0 (Qd (Qk (zy (z0 J (z1 J (zz (Qd (Xh u8_38 u8_39 u8_40 J ?_)))))))));refine Ve (Vo J) J (Ve (Vo J) J (Ve (Q2 J J J J (by omega) (by assumption) J) J (Ve (Ug J) J (Ve (Vo J) J (Ve (Vo J) J (Ve (Q2 J J J J (by omega) (by assumption) J) J (Ve (Ug J) J (Ve (Vy J) J (Vd (zz ?_))))))))));refine Qm J (zy (z1 J (zz (Xa (B_r (T_r (T_r (B_r (T_r ?_)))))))));refine F_r ?_
    exact Ud J (Ue [] J J (Xj (eq_ne h3 h4 he).symm))
  ·have h3 : ¬ ((k : Int) < (els xs).length) := of_decide_eq_false h
   refine Q9 (T_x (T_x (Xk (Q0 (zy (z1 J (zz (Xa (F_r ?_)))))))))
   exact Ud J (Ue [] J J (Xj (eq_all (by omega) hl hp_A).symm))
 ·have hb : decide (((els xs).length : Int) ≠ ((els ys).length : Int)) = true := by rw [hlx,hly]; simp; omega
  refine Con.of Tryz.func39 J Tryz.ntmps39 J (fun E => ?_)
  refine zy (z1 J (zz (Qd (zy (z0 J (zx (Kb J J J) J (z0 J (zx (Kb J J J) J ?_))))))));refine Gn J (zz (Qm J (zy (z1 J (zz (Xa (T_r (F_r ?_))))))))
  exact Ud J (Ue [] J J (Xj (eq_len hl).symm))
theorem S_ints (xs ys : List Int) (hn : Enc.gd xs) : Con Tryz.prog 26 [] [al xs,al ys] [] (B (decide (xs = ys))) := by
 have hn1 := hn.1
 have hlx := Yx xs
 have hly := Yx ys
 by_cases hl : xs.length = ys.length
 ·have hb : decide (((els xs).length : Int) ≠ ((els ys).length : Int)) = false := by rw [hlx,hly,hl]; simp
  refine Con.of Tryz.func26 J Tryz.ntmps26 J (fun E => ?_)
  refine zy (z1 J (zz (Qd (zy (z0 J (zx (Kb J J J) J (z0 J (zx (Kb J J J) J ?_))))))));refine Gn J (zz (Ql J (Qh (Q0 (Qd (zy (z1 J (zz ?_))))))));refine Qk ?_;refine Xi (fun m st => ∃ k : Nat,k + m = xs.length ∧ (xs.take k = ys.take k) ∧ st = (⟨_,[(0,L xs),(1,L ys),(5,I k)],[]⟩ : St)) (xs.length) ⟨_,⟨0,by omega,by simp,J⟩,Uf []⟩ ?_
  rintro m_A _ ⟨k,hk_A,hp_A,rfl⟩
  refine Qd (zy (z0 J (z0 J (zx (Kb J J J) J (zx (Vi J) J (zz ?_))))))
  refine Xb J (fun h => ?_) (fun h => ?_)
  ·have h3 : k < xs.length := by have := of_decide_eq_true h; omega
   have h4 : k < ys.length := by omega
   have hat := Yv h3
   have hat2 := Yv h4
   by_cases he : xs[k] = ys[k]
   ·have hk : decide (xs[k] ≠ ys[k]) = false := by simp [he]
    refine Qh (Q0 (Qd (Qk (Qd (Xh u8_38 u8_41 u8_42 J (Ve (Vo J) J (Ve (Vo J) J (Ve (Q2 J J J J (by omega) (by assumption) J) J (Ve (Ug J) J (Ve (Vo J) J (Ve (Vo J) J ?_)))))))))));refine Ve (Q2 J J J J (by omega) (by assumption) J) J (Ve (Ug J) J (Ve (Vy J) J (Vd (zz (Ql J (Qh (Q1 (Q0 (Qc (z0 J ?_))))))))));refine Uh J (z1 J (zz ?_))
    exact ⟨xs.length - (k + 1),by omega,_,⟨k + 1,by omega,eq_next h3 h4 hp_A he,J⟩,Uf []⟩
   ·have hk : decide (xs[k] ≠ ys[k]) = true := by simp [he]
    refine Qh (Q0 (Qd (Qk (Qd (Xh u8_38 u8_41 u8_42 J (Ve (Vo J) J (Ve (Vo J) J (Ve (Q2 J J J J (by omega) (by assumption) J) J (Ve (Ug J) J (Ve (Vo J) J (Ve (Vo J) J ?_)))))))))));refine Ve (Q2 J J J J (by omega) (by assumption) J) J (Ve (Ug J) J (Ve (Vy J) J (Vd (zz (Qm J (zy (z1 J (zz ?_))))))));refine Xa (B_r (T_r (T_r (B_r (T_r (F_r ?_))))))
    exact Ud J (Ue [] J J (Xj (eq_ne h3 h4 he).symm))
  ·have h3 : ¬ ((k : Int) < (els xs).length) := of_decide_eq_false h
   refine Q9 (T_x (T_x (Xk (Q0 (zy (z1 J (zz (Xa (F_r ?_)))))))))
   exact Ud J (Ue [] J J (Xj (eq_all (by omega) hl hp_A).symm))
 ·have hb : decide (((els xs).length : Int) ≠ ((els ys).length : Int)) = true := by rw [hlx,hly]; simp; omega
  refine Con.of Tryz.func26 J Tryz.ntmps26 J (fun E => ?_)
  refine zy (z1 J (zz (Qd (zy (z0 J (zx (Kb J J J) J (z0 J (zx (Kb J J J) J ?_))))))));refine Gn J (zz (Qm J (zy (z1 J (zz (Xa (T_r (F_r ?_))))))))
  exact Ud J (Ue [] J J (Xj (eq_len hl).symm))
theorem I_sameLevel (x y : TLevel) (hg : Enc.gd x) : Con Tryz.prog 38 [] [ag x,ag y] [] (B (decide (x = y))) := by
 have h : decide (x.Rows = y.Rows) = decide (x = y) := by cases x; cases y; simp
 refine Con.of Tryz.func38 J Tryz.ntmps38 J (fun E => ?_)
 refine zy (Un (Gf J) J (Un (Gf J) J (z1 J (zz (zy (Gg J J (z3 J (Gg J J ?_))))))));refine z3 J ?_;refine zx (Qj J J (slEqS x.Rows y.Rows hg) J) J ?_;refine z1 J (zz (Xa (F_r ?_)))
 exact Ud J (Ue [] J J (Xj h))
end
section
open Go.RowKit

theorem S_sameLevel (x y : TLevel) (hg : Enc.gd x) : Con Tryz.prog 27 [] [ag x,ag y] [] (B (decide (x = y))) := by
 have he : decide (x.Rows = y.Rows) = decide (x = y) := by cases x; cases y; simp
 rw [← he]
 clear he
 obtain ⟨xs⟩ := x
 obtain ⟨ys⟩ := y
 have hn : Enc.gd xs := hg
 have hn1 := hn.1
 show Con _ _ _ _ _ (B (decide (xs = ys)))
 have hlx := Yx xs
 have hly := Yx ys
 by_cases hl : xs.length = ys.length
 ·have hb : decide (((els xs).length : Int) ≠ ((els ys).length : Int)) = false := by rw [hlx,hly,hl]; simp
  refine Con.of Tryz.func27 J Tryz.ntmps27 J (fun E => ?_)
  refine zy (Un (Gf J) J (Un (Gf J) J (z1 J (zz (Qd (zy (Gg J J (z3 J ?_))))))));refine zx (Kb J J J) J (Gg J J (z3 J (zx (Kb J J J) J (Gn J (zz (Ql J (Qh (Q0 (Qd (Qd ?_))))))))));refine Qc (z1 J (zz (Qk ?_)));refine Xi (fun m st => ∃ k : Nat,k + m = xs.length ∧ (xs.take k = ys.take k) ∧ st = (⟨_,[(2,.o (.c (.ptr 0 0))),(3,.o (.c (.ptr 1 0))),(5,I k)],[.box [.rd [] (sl xs)],.box [.rd [] (sl ys)]]⟩ : St)) (xs.length) ⟨_,⟨0,by omega,by simp,J⟩,Uf [0,1]⟩ ?_
  rintro m_A _ ⟨k,hk_A,hp_A,rfl⟩
  refine Qd (zy (z0 J (Gg J J (z3 J (zx (Kb J J J) J (zx (Vi J) J (zz ?_)))))))
  refine Xb J (fun h => ?_) (fun h => ?_)
  ·have h3 : k < xs.length := by have := of_decide_eq_true h; omega
   have h4 : k < ys.length := by omega
   have hat := Yv h3
   have hat2 := Yv h4
   by_cases he : xs[k] = ys[k]
   ·have hk : decide (xs[k] ≠ ys[k]) = false := by simp [he]
    refine Qh (Q0 (Qd (Qk (Qd (Xh u8_43 u8_44 u8_45 J (Ve (Vq J J) J (Ve (Vr J) J (Ve (Vo J) J (Ve (Q2 J J J J (by omega) (by assumption) J) J (Ve (Ug J) J (Ve (Vq J J) J ?_)))))))))));refine Ve (Vr J) J (Ve (Vo J) J (Ve (Q2 J J J J (by omega) (by assumption) J) J (Ve (Ug J) J (Ve (Km J J J J (by assumption)) J (Vd (zz (Ql J (Qh (Q1 (Q0 ?_))))))))));refine Qc (z0 J (Uh J (z1 J (zz ?_))))
    exact ⟨xs.length - (k + 1),by omega,_,⟨k + 1,by omega,eq_next h3 h4 hp_A he,J⟩,Uf [0,1]⟩
   ·have hk : decide (xs[k] ≠ ys[k]) = true := by simp [he]
    refine Qh (Q0 (Qd (Qk (Qd (Xh u8_43 u8_44 u8_45 J (Ve (Vq J J) J (Ve (Vr J) J (Ve (Vo J) J (Ve (Q2 J J J J (by omega) (by assumption) J) J (Ve (Ug J) J (Ve (Vq J J) J ?_)))))))))));refine Ve (Vr J) J (Ve (Vo J) J (Ve (Q2 J J J J (by omega) (by assumption) J) J (Ve (Ug J) J (Ve (Km J J J J (by assumption)) J (Vd (zz (Qm J (zy (z1 J ?_)))))))));refine zz (Xa (B_r (T_r (T_r (B_r (T_r (F_r ?_)))))))
    exact Ud J (Ue [] J J (Xj (eq_ne h3 h4 he).symm))
  ·have h3 : ¬ ((k : Int) < (els xs).length) := of_decide_eq_false h
   refine Q9 (T_x (T_x (Xk (Q0 (zy (z1 J (zz (Xa (F_r ?_)))))))))
   exact Ud J (Ue [] J J (Xj (eq_all (by omega) hl hp_A).symm))
 ·have hb : decide (((els xs).length : Int) ≠ ((els ys).length : Int)) = true := by rw [hlx,hly]; simp; omega
  refine Con.of Tryz.func27 J Tryz.ntmps27 J (fun E => ?_)
  refine zy (Un (Gf J) J (Un (Gf J) J (z1 J (zz (Qd (zy (Gg J J (z3 J ?_))))))));refine zx (Kb J J J) J (Gg J J (z3 J (zx (Kb J J J) J (Gn J (zz (Qm J (zy (z1 J (Qe ?_)))))))));refine Q0 (Xa (T_r (F_r ?_)))
  exact Ud J (Ue [] J J (Xj (eq_len hl).symm))
end
end Go.Proofs.YtcjclaoogdblbaaGreat
