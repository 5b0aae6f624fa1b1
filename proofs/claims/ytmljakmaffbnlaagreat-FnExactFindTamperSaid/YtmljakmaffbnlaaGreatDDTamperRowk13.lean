/-
  ReadWorld of the reference.
  Conditions: texts of at most 2^40 bytes, a level of at most 2^20 rows.
  KeyAt, in the program and in the reference.
  Conditions: a replay of at most 2^20 pieces.
  PlayReplay, in the program and in the reference.
  Conditions: a replay of at most 2^20 pieces.
  SeekReplay, in the program and in the reference.
  Conditions: a replay of at most 2^20 pieces.
  Comparing replays: what SameReplay and what it calls return, in the program and in the reference.
  Conditions: none.
  Comparing replays, second part: levels and replays.
  Conditions: none.
-/
import Derived.Test.YtmljakmaffbnlaaGreatDDTamperRowk8
import Derived.Test.YtmljakmaffbnlaaGreatDDTamperRowk10
import Derived.Test.YtmljakmaffbnlaaGreatDDTamperRowk12
set_option linter.unusedSimpArgs false
set_option linter.unusedVariables false
set_option maxRecDepth 8000
namespace Go.Proofs.YtmljakmaffbnlaaGreat
section
open Go.RowKit

theorem row6 {a b c d e : Ob} {k : Nat} {x y : List (List T)} (h : x = y) : [a,b,c,d,e,Ob.row k x] = [a,b,c,d,e,Ob.row k y] := by rw [h]
theorem plain_dt (l : List Int) (a b : Nat) : plainT (((els l).take a).drop b) := fun e he => Ym l e (List.mem_of_mem_take (List.mem_of_mem_drop he))
theorem k_dt (l : List Int) (a b : Nat) : ∀ e ∈ ((els l).take a).drop b,e.length = 1 := fun e he => els_k l e (List.mem_of_mem_take (List.mem_of_mem_drop he))
theorem world_bytes_eq {lv : TLevel} {s : ByteArray} {l : List Int} {pos : Nat} (hu : unpackInts s 0 = some (l,pos)) (hp : pos = s.size) (hf : formOk l) : worldBytes (worldOf lv l) = s ↔ worldOk (worldOf lv l) = true := by
 have hcn := unpackInts_canon hu
 have hb := bytesL_all s pos (by omega)
 have hs : packInts l = s := by rw [hcn]; exact hb.2 hp
 cases ho : worldOk (worldOf lv l) with
 | true =>
  rw [show worldBytes (worldOf lv l) = packInts (worldInts (worldOf lv l)) by rw [worldBytes,ho]; exact if_pos rfl,worldOf_ints hf]
  exact ⟨fun _ => rfl,fun _ => hs⟩
 | false =>
  rw [show worldBytes (worldOf lv l) = ⟨#[]⟩ by rw [worldBytes,ho]; exact if_neg (by decide)]
  refine ⟨fun h => ?_,fun h => by cases h⟩
  have h1 := (Kn hu).2.1
  rw [hp,← h] at h1
  exact absurd h1 (by decide)
theorem body_cells {l rest : List Int} {c q : Nat} (hr : rest = l.drop c) : Enc.e (bodyOf (rest.drop (9 * q))) = [.v (.int .i64 (l.getD (c + 9 * q + 0) 0)),.v (.int .i64 (l.getD (c + 9 * q + 1) 0)),.v (.int .i64 (l.getD (c + 9 * q + 2) 0)),.v (.int .i64 (l.getD (c + 9 * q + 3) 0)),.v (.int .i64 (l.getD (c + 9 * q + 4) 0)),.v (.int .i64 (l.getD (c + 9 * q + 5) 0)),.v (.int .i64 (l.getD (c + 9 * q + 6) 0)),.v (.int .i64 (l.getD (c + 9 * q + 7) 0)),.v (.int .i64 (l.getD (c + 9 * q + 8) 0))] := by
 have h : ∀ j,(rest.drop (9 * q)).getD j 0 = l.getD (c + 9 * q + j) 0 := fun j => by
  rw [hr,List.drop_drop,List.getD_eq_getElem?_getD,List.getD_eq_getElem?_getD,List.getElem?_drop]
 show [T.v (.int .i64 ((rest.drop (9 * q)).getD 0 0)),.v (.int .i64 ((rest.drop (9 * q)).getD 1 0)),.v (.int .i64 ((rest.drop (9 * q)).getD 2 0)),.v (.int .i64 ((rest.drop (9 * q)).getD 3 0)),.v (.int .i64 ((rest.drop (9 * q)).getD 4 0)),.v (.int .i64 ((rest.drop (9 * q)).getD 5 0)),.v (.int .i64 ((rest.drop (9 * q)).getD 6 0)),.v (.int .i64 ((rest.drop (9 * q)).getD 7 0)),.v (.int .i64 ((rest.drop (9 * q)).getD 8 0))] = _
 simp only [h]
set_option maxHeartbeats 8000000 in
theorem S_ReadWorld (lv : TLevel) (s : ByteArray) (hg : Enc.gd lv) (hL : lv.Rows.length ≤ 1048576) (hs : s.size ≤ 1099511627776) : Con Tryz.prog 71 [] [ag lv,astr s] (ownO (Enc.e (rwW (readWorld lv s)))) (.tu [.ag (ownV 0 (Enc.e (rwW (readWorld lv s)))),.c (bv (rwB (readWorld lv s)))]) := by
 have hui := S_UnpackInts s 0 hs ⟨by omega,by omega⟩
 cases hu : unpackInts s 0 with
 | none =>
  rw [hu] at hui
  rw [Z9 hu]
  refine Con.of Tryz.func71 J Tryz.ntmps71 J (fun E => ?_)
  refine zy (M1 (Qq J J J J) J J (M1 (Qx J J J) J J (z1 J (zz (zy (z0 J ?_))))));refine M1 (Zm J J (hui) J J J) J J ?_;refine zx (Q8 J J J) J (ze J (ze J (ze J (z1 J (z1 J (z1 J (zz (Qd (zy ?_)))))))));refine z0 J (zn J (z0 J (z6 J (z6 J (z6 J (z6 J (zpT J (z0 J (z6 J (z6 J (z6 J ?_)))))))))));refine zpT J (z0 J (z6 J (z6 J (z6 J (z6 J (z6 J (zpT J (z0 J (z6 J (z6 J (z6 J ?_)))))))))));refine z6 J (z6 J (z6 J (z6 J (zpT J (z0 J (z6 J (z6 J (z6 J (z6 J (z6 J (z6 J ?_)))))))))));refine z6 J (z6 J (z6 J (zpT J (zz (Qm J (zy (zx (Zj J J J J J) J ?_)))))));refine Qy J J J J J J J J J (z1 J (zz (Xa (T_r (F_r ?_)))))
  exact Xn J J J J J (X4 [1,1,9] [3,4,5] J J (by decide) J J J)
 | some r =>
  obtain ⟨l,pos⟩ := r
  rw [hu] at hui
  obtain ⟨_,hu1,hu2,hu3,hu4⟩ := Kn hu
  have hll := Yl l
  by_cases c1 : (pos : Int) ≠ s.size
  ·have hb1 : decide ((pos : Int) ≠ s.size) = true := decide_eq_true c1
   rw [Z8 hu (fun hh => by have := hh.1; omega)]
   refine Con.of Tryz.func71 J Tryz.ntmps71 J (fun E => ?_)
   refine zy (M1 (Qq J J J J) J J (M1 (Qx J J J) J J (z1 J (zz (zy (z0 J ?_))))));refine M1 (Zm J J (hui) J J J) J J ?_;refine zx (Q8 J J J) J (ze J (ze J (ze J (z1 J (z1 J (z1 J (zz (Qd (zy ?_)))))))));refine z0 J (zn J (z0 J (z5 J (z0 J (z5 J (z0 J (z5 J (zx (Zw J J J) J (z5 J (z9f J (by assumption) (zpF J ?_)))))))))));refine z0 J (z6 J (z6 J (z6 J (zpT J (z0 J (z6 J (z6 J (z6 J (z6 J (z6 J (zpT J ?_)))))))))));refine z0 J (z6 J (z6 J (z6 J (z6 J (z6 J (z6 J (z6 J (zpT J (z0 J (z6 J (z6 J ?_)))))))))));refine z6 J (z6 J (z6 J (z6 J (z6 J (z6 J (z6 J (zpT J (zz (Qm J (Qd ?_))))))))));refine Qc (zx (Zj J J J J J) J ?_);refine Qy J J J J J J J J J (z1 J (zz (Xa (T_r (F_r ?_)))))
   exact Xn J J J J J (X4 [1,1,9] [3,4,5] J J (by decide) J J J)
  have hb1 : decide ((pos : Int) ≠ s.size) = false := decide_eq_false c1
  by_cases c2 : ((els l).length : Int) < 3
  ·have hb2 : decide (((els l).length : Int) < 3) = true := decide_eq_true c2
   rw [Z8 hu (fun hh => by have := hh.2.1.1; omega)]
   refine Con.of Tryz.func71 J Tryz.ntmps71 J (fun E => ?_)
   refine zy (M1 (Qq J J J J) J J (M1 (Qx J J J) J J (z1 J (zz (zy (z0 J ?_))))));refine M1 (Zm J J (hui) J J J) J J ?_;refine zx (Q8 J J J) J (ze J (ze J (ze J (z1 J (z1 J (z1 J (zz (Qd (zy ?_)))))))));refine z0 J (zn J (z0 J (z5 J (z0 J (z5 J (z0 J (z5 J (zx (Zw J J J) J (z5 J (z9f J (by assumption) (zpF J ?_)))))))))));refine z0 J (z5 J (z0 J (z5 J (zx (Zv J J J J) J (z5 J (z9a J (by assumption) (zpF J (z0 J (z6 J (z6 J (z6 J ?_)))))))))));refine z6 J (z6 J (zpT J (z0 J (z6 J (z6 J (z6 J (z6 J (z6 J (z6 J (z6 J (zpT J ?_)))))))))));refine z0 J (z6 J (z6 J (z6 J (z6 J (z6 J (z6 J (z6 J (z6 J (z6 J (zpT J (Qe ?_)))))))))));refine Q0 (Qm J (zy (zx (Zj J J J J J) J ?_)));refine Qy J J J J J J J J J (z1 J (zz (Xa (T_r (F_r ?_)))))
   exact Xn J J J J J (X4 [1,1,9] [3,4,5] J J (by decide) J J J)
  have hb2 : decide (((els l).length : Int) < 3) = false := decide_eq_false c2
  have ha0 := Yk (l := l) (j := 0) (by omega) 0 rfl
  have ha1 := Yk (l := l) (j := 1) (by omega) 1 rfl
  have ha2 := Yk (l := l) (j := 2) (by omega) 2 rfl
  obtain ⟨l2,hl2⟩ : ∃ l2,l.getD 2 0 = l2 := ⟨_,rfl⟩
  rw [hl2] at ha2
  have hbt := S_in l2 1 4
  by_cases hin : inR l2 1 4 = true
  case neg =>
   have hf : inR l2 1 4 = false := by simpa using hin
   rw [hf] at hbt
   rw [Z8 hu (fun hh => by have := hh.2.1.2.1; rw [hl2,← Yx] at this; exact hin this)]
   refine Con.of Tryz.func71 J Tryz.ntmps71 J (fun E => ?_)
   refine zy (M1 (Qq J J J J) J J (M1 (Qx J J J) J J (z1 J (zz (zy (z0 J ?_))))));refine M1 (Zm J J (hui) J J J) J J ?_;refine zx (Q8 J J J) J (ze J (ze J (ze J (z1 J (z1 J (z1 J (zz (Qd (zy ?_)))))))));refine z0 J (zn J (z0 J (z5 J (z0 J (z5 J (z0 J (z5 J (zx (Zw J J J) J (z5 J (z9f J (by assumption) (zpF J ?_)))))))))));refine z0 J (z5 J (z0 J (z5 J (zx (Zv J J J J) J (z5 J (z9a J (by assumption) (zpF J (z0 J (z5 J (z0 J (z5 J ?_)))))))))));refine zx (Q3 J J J J J (by omega) (by omega)) J (z5 J (zx (Q7 J J J J (by assumption) J) J (z5 J ?_)));refine zx (Qj J J (hbt) J) J ?_;refine z5 J (zn J (zpF J (z0 J (z6 J (z6 J (z6 J (z6 J (z6 J (z6 J (z6 J (zpT J ?_)))))))))));refine z0 J (z6 J (z6 J (z6 J (z6 J (z6 J (z6 J (z6 J (z6 J (z6 J (zpT J (Qe ?_)))))))))));refine Q0 (Qm J (zy (zx (Zj J J J J J) J ?_)));refine Qy J J J J J J J J J (z1 J (zz (Xa (T_r (F_r ?_)))))
   exact Xn J J J J J (X4 [1,1,9] [3,4,5] J J (by decide) J J J)
  rw [hin] at hbt
  have hin2 := Yx.1 hin
  obtain ⟨p,rfl⟩ : ∃ p : Nat,l2 = p := ⟨l2.toNat,by omega⟩
  by_cases c4 : ((els l).length : Int) < 3 + (p : Int)
  ·have hb4 : decide (((els l).length : Int) < 3 + (p : Int)) = true := decide_eq_true c4
   rw [Z8 hu (fun hh => by have := hh.2.1.2.2.1; omega)]
   refine Con.of Tryz.func71 J Tryz.ntmps71 J (fun E => ?_)
   refine zy (M1 (Qq J J J J) J J (M1 (Qx J J J) J J (z1 J (zz (zy (z0 J ?_))))));refine M1 (Zm J J (hui) J J J) J J ?_;refine zx (Q8 J J J) J (ze J (ze J (ze J (z1 J (z1 J (z1 J (zz (Qd (zy ?_)))))))));refine z0 J (zn J (z0 J (z5 J (z0 J (z5 J (z0 J (z5 J (zx (Zw J J J) J (z5 J (z9f J (by assumption) (zpF J ?_)))))))))));refine z0 J (z5 J (z0 J (z5 J (zx (Zv J J J J) J (z5 J (z9a J (by assumption) (zpF J (z0 J (z5 J (z0 J (z5 J ?_)))))))))));refine zx (Q3 J J J J J (by omega) (by omega)) J (z5 J (zx (Q7 J J J J (by assumption) J) J (z5 J ?_)));refine zx (Qj J J (hbt) J) J ?_;refine z5 J (zn J (zpF J (z0 J (z5 J (z0 J (z5 J (zx (Zv J J J J) J (z5 J (z0 J (z5 J (zx (Q3 J J J J J (by omega) (by omega)) J ?_)))))))))));refine z5 J (zx (Q7 J J J J (by assumption) J) J (z5 J (z7 J (by omega) (z5 J (z9a J (by assumption) (zpF J (z0 J (z6 J (z6 J (z6 J (z6 J ?_)))))))))));refine z6 J (z6 J (z6 J (z6 J (z6 J (zpT J (zz (Qm J (zy (zx (Zj J J J J J) J ?_)))))))));refine Qy J J J J J J J J J (z1 J (zz (Xa (T_r (F_r ?_)))))
   exact Xn J J J J J (X4 [1,1,9] [3,4,5] J J (by decide) J J J)
  have hb4 : decide (((els l).length : Int) < 3 + (p : Int)) = false := decide_eq_false c4
  by_cases c5 : (((els l).length : Int) - 3 - (p : Int)) % 9 ≠ 0
  ·have hb5 : decide ((((els l).length : Int) - 3 - (p : Int)) % 9 ≠ 0) = true := decide_eq_true c5
   rw [Z8 hu (fun hh => by have := hh.2.1.2.2.2; rw [hl2] at this; omega)]
   refine Con.of Tryz.func71 J Tryz.ntmps71 J (fun E => ?_)
   refine zy (M1 (Qq J J J J) J J (M1 (Qx J J J) J J (z1 J (zz (zy (z0 J ?_))))));refine M1 (Zm J J (hui) J J J) J J ?_;refine zx (Q8 J J J) J (ze J (ze J (ze J (z1 J (z1 J (z1 J (zz (Qd (zy ?_)))))))));refine z0 J (zn J (z0 J (z5 J (z0 J (z5 J (z0 J (z5 J (zx (Zw J J J) J (z5 J (z9f J (by assumption) (zpF J ?_)))))))))));refine z0 J (z5 J (z0 J (z5 J (zx (Zv J J J J) J (z5 J (z9a J (by assumption) (zpF J (z0 J (z5 J (z0 J (z5 J ?_)))))))))));refine zx (Q3 J J J J J (by omega) (by omega)) J (z5 J (zx (Q7 J J J J (by assumption) J) J (z5 J ?_)));refine zx (Qj J J (hbt) J) J ?_;refine z5 J (zn J (zpF J (z0 J (z5 J (z0 J (z5 J (zx (Zv J J J J) J (z5 J (z0 J (z5 J (zx (Q3 J J J J J (by omega) (by omega)) J ?_)))))))))));refine z5 J (zx (Q7 J J J J (by assumption) J) J (z5 J (z7 J (by omega) (z5 J (z9a J (by assumption) (zpF J (z0 J (z5 J (z0 J (z5 J (zx (Zv J J J J) J ?_)))))))))));refine z5 J (z8 J (by omega) (z5 J (z0 J (z5 J (zx (Q3 J J J J J (by omega) (by omega)) J (z5 J (zx (Q7 J J J J (by assumption) J) J (z5 J (z8 J (by omega) (z5 J (zx (q_rem J J J J (by omega)) J ?_)))))))))));refine z5 J (z9f J (by assumption) (zpF J (zz (Qm J (zy (zx (Zj J J J J J) J ?_))))));refine Qy J J J J J J J J J (z1 J (zz (Xa (T_r (F_r ?_)))))
   exact Xn J J J J J (X4 [1,1,9] [3,4,5] J J (by decide) J J J)
  have hb5 : decide ((((els l).length : Int) - 3 - (p : Int)) % 9 ≠ 0) = false := decide_eq_false c5
  obtain ⟨rest,hrest⟩ : ∃ rest,rest = l.drop (3 + p) := ⟨_,rfl⟩
  have hrl : rest.length = l.length - (3 + p) := by rw [hrest]; simp
  obtain ⟨nb,hn⟩ : ∃ nb,rest.length = 9 * nb := ⟨rest.length / 9,by omega⟩
  have hform : formOk l := ⟨by omega,by rw [hl2]; exact hin2,by rw [hl2]; omega,by rw [hl2]; omega⟩
  have hwo : worldOf lv l = ⟨lv,l.getD 0 0,l.getD 1 0,(l.drop 3).take p,bodiesOf rest nb⟩ := by
   rw [worldOf,hl2,Int.toNat_natCast,← hrest,show (l.length - 3 - p) / 9 = nb by omega]
  have hwg := worldOf_gd (lv := lv) hg hu4 (by omega)
  rw [hwo] at hwg
  have hwb := world_bytes_eq (lv := lv) hu (by omega) hform
  rw [hwo] at hwb
  have hpl : ((((els l).take ((3 : Int) + (p : Int)).toNat).drop (3 : Int).toNat)).length = p := by
   rw [List.length_drop,List.length_take,hll]; omega
  have hsc : els ((l.drop 3).take p) = (((els l).take ((3 : Int) + (p : Int)).toNat).drop (3 : Int).toNat) := by
   rw [show ((3 : Int) + (p : Int)).toNat = 3 + p by omega,show (3 : Int).toNat = 3 from rfl,List.drop_take,← els_dropE,← Yo,show 3 + p - 3 = p by omega]
  refine Con.of Tryz.func71 J Tryz.ntmps71 J (fun E => ?_)
  refine zy (M1 (Qq J J J J) J J (M1 (Qx J J J) J J (z1 J (zz (zy (z0 J ?_))))));refine M1 (Zm J J (hui) J J J) J J ?_;refine zx (Q8 J J J) J (ze J (ze J (ze J (z1 J (z1 J (z1 J (zz (Qd (zy ?_)))))))));refine z0 J (zn J (z0 J (z5 J (z0 J (z5 J (z0 J (z5 J (zx (Zw J J J) J (z5 J (z9f J (by assumption) (zpF J ?_)))))))))));refine z0 J (z5 J (z0 J (z5 J (zx (Zv J J J J) J (z5 J (z9a J (by assumption) (zpF J (z0 J (z5 J (z0 J (z5 J ?_)))))))))));refine zx (Q3 J J J J J (by omega) (by omega)) J (z5 J (zx (Q7 J J J J (by assumption) J) J (z5 J ?_)));refine zx (Qj J J (hbt) J) J ?_;refine z5 J (zn J (zpF J (z0 J (z5 J (z0 J (z5 J (zx (Zv J J J J) J (z5 J (z0 J (z5 J (zx (Q3 J J J J J (by omega) (by omega)) J ?_)))))))))));refine z5 J (zx (Q7 J J J J (by assumption) J) J (z5 J (z7 J (by omega) (z5 J (z9a J (by assumption) (zpF J (z0 J (z5 J (z0 J (z5 J (zx (Zv J J J J) J ?_)))))))))));refine z5 J (z8 J (by omega) (z5 J (z0 J (z5 J (zx (Q3 J J J J J (by omega) (by omega)) J (z5 J (zx (Q7 J J J J (by assumption) J) J (z5 J (z8 J (by omega) (z5 J (zx (q_rem J J J J (by omega)) J ?_)))))))))));refine z5 J (z9f J (by assumption) (zpF J (zz (Ql J (Qh (Q0 (zy (z0 J (zx (Q3 J J J J J (by omega) (by omega)) J ?_)))))))));refine zx (Q7 J J J J (by assumption) J) J (z7 J (by omega) (z1 J (zz (Qd (Xi [[],[0],[],[2],[2,3],[],[5],[5,6],[],[],[],[9,10],[0,1,8,9,10,11],(u9 13),[],(u9 15)] [[],[63],[],[65],[65,66],[],[68],[68,69],[],[],[],[72,73],[63,64,71,72,73,74],[63,64,65,66,67,68,69,70,71,72,73,74,75],[],[10,63,64,65,66,67,68,69,70,71,72,73,74,75,76]] [[10,65,66,67,68,69,70,71,72,73,74],[10,65,66,67,68,69,70,71,72,73,74],[10,63,64,68,69,70,71,72,73,74,75],[10,63,64,68,69,70,71,72,73,74,75],[10,63,64,68,69,70,71,72,73,74,75],[10,63,64,65,66,67,71,72,73,74,75],[10,63,64,65,66,67,71,72,73,74,75],[10,63,64,65,66,67,71,72,73,74,75],[10,63,64,65,66,67,68,69,70,72,73,74],[10,63,64,65,66,67,68,69,70,71,73],[10,63,64,65,66,67,68,69,70,71,72],[10,63,64,65,66,67,68,69,70,71],[10,65,66,67,68,69,70],[10],[63,64,65,66,67,68,69,70,71,72,73,74,75,76],[]] J (DR.s (Qu J J J J J J) J J ?_))))));refine DR.s (Zm J J (S_copyLevel lv hg hL) J J J) J J ?_;refine DR.s (Qa J J J) J J (DR.s (Q3 J J J J J (by omega) (by omega)) J J (DR.s (Q7 J J J J (by assumption) J) J J (DR.s (Qa J J J) J J (DR.s (Q3 J J J J J (by omega) (by omega)) J J (DR.s (Q7 J J J J (by assumption) J) J J (DR.s (q_bslicez J J J) J J (DR.s (Qa J J J) J J (DR.s (Qa J J J) J J (DR.s (q_partr J J J J J J J (by omega)) J J ?_)))))))));refine DR.s (q_appz J J J J J J (plain_dt _ _ _) (k_dt _ _ _) (by omega) (by omega) (by omega)) J J ?_;refine DR.s (Zj J J J J J) J J (DR.s (Qx J J J) J J (DR.stop (by kernel_rfl) (by kernel_rfl) ?_));refine AL.weak (st' := (⟨_,[(1,S s),(4,.o (.c (.ptr 1 0))),(6,.o (.c (.ref 2))),(9,I (3 + (p : Int))),(10,.o (.c (.ptr 4 0))),(76,.o (.ag [.ref 3,jv (l.getD 0 0),jv (l.getD 1 0),.ref 5,nilV]))],[.box ((Enc.e lv).map (V1.rd [])),.box [nilV,jv 0,jv 0,nilV,nilV],.row 1 (els l),.row 1 (els lv.Rows),.box [nilV,jv 0,jv 0,nilV,nilV],.row 1 (els ((l.drop 3).take p))]⟩ : St)) (X5 [0,1,2,3,6,5] (by decide) J (row6 hsc) (.c J (.c J (.c J (.c J (.c J (.c J (.nil)))))))) ?_;refine AL.weak (Wk.refl _) ?_;refine Qy J J J J J J J J J (zz (Qd (zy (z0 J (z1 J (zz (Qk ?_)))))))
  refine AWP.pre ?_ (Wk.nilbox (p := 4) (i := 4) 9 J J)
  skip
  refine Xj (fun m st => ∃ q : Nat,q + m = nb ∧ (True) ∧ st = (fun q : Nat => (⟨_,[(1,S s),(4,.o (.c (.ptr 1 0))),(6,.o (.c (.ref 2))),(10,.o (.c (.ptr 4 0))),(11,I ((3 + p + 9 * q : Nat) : Int))],[.box ((Enc.e lv).map (V1.rd [])),.box [nilV,jv 0,jv 0,nilV,nilV],.row 1 (els l),.row 1 (els lv.Rows),.box [.ref 3,jv (l.getD 0 0),jv (l.getD 1 0),.ref 5,.ref 6],.row 1 (els ((l.drop 3).take p)),.row 9 (els (bodiesOf rest q))]⟩ : St)) q) (nb) ⟨(fun q : Nat => (⟨_,[(1,S s),(4,.o (.c (.ptr 1 0))),(6,.o (.c (.ref 2))),(10,.o (.c (.ptr 4 0))),(11,I ((3 + p + 9 * q : Nat) : Int))],[.box ((Enc.e lv).map (V1.rd [])),.box [nilV,jv 0,jv 0,nilV,nilV],.row 1 (els l),.row 1 (els lv.Rows),.box [.ref 3,jv (l.getD 0 0),jv (l.getD 1 0),.ref 5,.ref 6],.row 1 (els ((l.drop 3).take p)),.row 9 (els (bodiesOf rest q))]⟩ : St)) 0,X5 [0,1,2,3,4,5,6] (by decide) J (J) (.c J (.c J (.c J (.c J (.cons (Xw (by omega)) (.nil)))))),0,by omega,trivial,J⟩ ?_
  rintro m_A _ ⟨q,hk_A,hp_A,rfl⟩
  have hlbk := Yl (bodiesOf rest q)
  have hlbk2 := Yc rest q
  by_cases h4 : ((3 + p + 9 * q : Nat) : Int) < (els l).length
  ·have hb6 : decide (((3 + p + 9 * q : Nat) : Int) < (els l).length) = true := decide_eq_true h4
   have hc0 := Yk (l := l) (j := 3 + p + 9 * q + 0) (by omega) (((3 + p + 9 * q : Nat) : Int)) (by omega)
   have hc1 := Yk (l := l) (j := 3 + p + 9 * q + 1) (by omega) (((3 + p + 9 * q : Nat) : Int) + 1) (by omega)
   have hc2 := Yk (l := l) (j := 3 + p + 9 * q + 2) (by omega) (((3 + p + 9 * q : Nat) : Int) + 2) (by omega)
   have hc3 := Yk (l := l) (j := 3 + p + 9 * q + 3) (by omega) (((3 + p + 9 * q : Nat) : Int) + 3) (by omega)
   have hc4 := Yk (l := l) (j := 3 + p + 9 * q + 4) (by omega) (((3 + p + 9 * q : Nat) : Int) + 4) (by omega)
   have hc5 := Yk (l := l) (j := 3 + p + 9 * q + 5) (by omega) (((3 + p + 9 * q : Nat) : Int) + 5) (by omega)
   have hc6 := Yk (l := l) (j := 3 + p + 9 * q + 6) (by omega) (((3 + p + 9 * q : Nat) : Int) + 6) (by omega)
   have hc7 := Yk (l := l) (j := 3 + p + 9 * q + 7) (by omega) (((3 + p + 9 * q : Nat) : Int) + 7) (by omega)
   have hc8 := Yk (l := l) (j := 3 + p + 9 * q + 8) (by omega) (((3 + p + 9 * q : Nat) : Int) + 8) (by omega)
   have hbc := body_cells (q := q) hrest
   have hq24 : (els (bodiesOf rest q)).length ≤ 1099511627776 := by omega
   have hlt : ((3 + p + 9 * q : Nat) : Int) + 9 ≤ (els l).length := by omega
   have hidx : (3 + p + 9 * q : Nat) ≤ 1099511627776 := by omega
   have hqnb : q < nb := by omega
   clear hwg hwo hwb hform hsc hbt hin2 hin ha0 ha1 ha2 hl2 hb1 hb2 hb4 hb5 c1 c2 c4 c5 hu1 hu2 hu3 hu4 hui hpl hrl hn hll hlbk hlbk2 hp_A
   refine Qd (zy (z0 J (z0 J (zx (Zv J J J J) J (z9a J (by assumption) (zz (Qm J (Qh (Q0 ?_)))))))));refine Qd (Qk (Xi [[],[0],[],[],[2,3],[2,3,4],[],[],[7],[6,7,8],[6,7,8,9],[],[],[12],[11,12,13],[11,12,13,14],[],[],[17],[16,17,18],[16,17,18,19],[],[],[22],[21,22,23],[21,22,23,24],[],[],[27],[26,27,28],[26,27,28,29],[],[],[32],[31,32,33],[31,32,33,34],[],[],[37],[36,37,38],[36,37,38,39],[],[],[42],[41,42,43],[41,42,43,44],[2,3,4,5,6,7,8,9,10,11,12,13,14,15,16,17,18,19,20,21,22,23,24,25,26,27,28,29,30,31,32,33,34,35,36,37,38,39,40,41,42,43,44,45],[2,3,4,5,6,7,8,9,10,11,12,13,14,15,16,17,18,19,20,21,22,23,24,25,26,27,28,29,30,31,32,33,34,35,36,37,38,39,40,41,42,43,44,45,46],(u9 48),(u9 49),(u9 50)] [[],[84],[],[],[86,87],[86,87,88],[],[],[91],[90,91,92],[90,91,92,93],[],[],[96],[95,96,97],[95,96,97,98],[],[],[101],[100,101,102],[100,101,102,103],[],[],[106],[105,106,107],[105,106,107,108],[],[],[111],[110,111,112],[110,111,112,113],[],[],[116],[115,116,117],[115,116,117,118],[],[],[121],[120,121,122],[120,121,122,123],[],[],[126],[125,126,127],[125,126,127,128],[86,87,88,89,90,91,92,93,94,95,96,97,98,99,100,101,102,103,104,105,106,107,108,109,110,111,112,113,114,115,116,117,118,119,120,121,122,123,124,125,126,127,128,129],[86,87,88,89,90,91,92,93,94,95,96,97,98,99,100,101,102,103,104,105,106,107,108,109,110,111,112,113,114,115,116,117,118,119,120,121,122,123,124,125,126,127,128,129,130],[84,85,86,87,88,89,90,91,92,93,94,95,96,97,98,99,100,101,102,103,104,105,106,107,108,109,110,111,112,113,114,115,116,117,118,119,120,121,122,123,124,125,126,127,128,129,130,131],[84,85,86,87,88,89,90,91,92,93,94,95,96,97,98,99,100,101,102,103,104,105,106,107,108,109,110,111,112,113,114,115,116,117,118,119,120,121,122,123,124,125,126,127,128,129,130,131,132],[84,85,86,87,88,89,90,91,92,93,94,95,96,97,98,99,100,101,102,103,104,105,106,107,108,109,110,111,112,113,114,115,116,117,118,119,120,121,122,123,124,125,126,127,128,129,130,131,132,133]] [[86,87,88,89,90,91,92,93,94,95,96,97,98,99,100,101,102,103,104,105,106,107,108,109,110,111,112,113,114,115,116,117,118,119,120,121,122,123,124,125,126,127,128,129,130,131],[86,87,88,89,90,91,92,93,94,95,96,97,98,99,100,101,102,103,104,105,106,107,108,109,110,111,112,113,114,115,116,117,118,119,120,121,122,123,124,125,126,127,128,129,130,131],[84,85,87,90,91,92,93,94,95,96,97,98,99,100,101,102,103,104,105,106,107,108,109,110,111,112,113,114,115,116,117,118,119,120,121,122,123,124,125,126,127,128,129],[84,85,86,90,91,92,93,94,95,96,97,98,99,100,101,102,103,104,105,106,107,108,109,110,111,112,113,114,115,116,117,118,119,120,121,122,123,124,125,126,127,128,129],[84,85,90,91,92,93,94,95,96,97,98,99,100,101,102,103,104,105,106,107,108,109,110,111,112,113,114,115,116,117,118,119,120,121,122,123,124,125,126,127,128,129],[84,85,90,91,92,93,94,95,96,97,98,99,100,101,102,103,104,105,106,107,108,109,110,111,112,113,114,115,116,117,118,119,120,121,122,123,124,125,126,127,128,129],[84,85,86,87,88,89,91,92,95,96,97,98,99,100,101,102,103,104,105,106,107,108,109,110,111,112,113,114,115,116,117,118,119,120,121,122,123,124,125,126,127,128,129],[84,85,86,87,88,89,90,95,96,97,98,99,100,101,102,103,104,105,106,107,108,109,110,111,112,113,114,115,116,117,118,119,120,121,122,123,124,125,126,127,128,129],[84,85,86,87,88,89,90,95,96,97,98,99,100,101,102,103,104,105,106,107,108,109,110,111,112,113,114,115,116,117,118,119,120,121,122,123,124,125,126,127,128,129],[84,85,86,87,88,89,95,96,97,98,99,100,101,102,103,104,105,106,107,108,109,110,111,112,113,114,115,116,117,118,119,120,121,122,123,124,125,126,127,128,129],[84,85,86,87,88,89,95,96,97,98,99,100,101,102,103,104,105,106,107,108,109,110,111,112,113,114,115,116,117,118,119,120,121,122,123,124,125,126,127,128,129],[84,85,86,87,88,89,90,91,92,93,94,96,97,100,101,102,103,104,105,106,107,108,109,110,111,112,113,114,115,116,117,118,119,120,121,122,123,124,125,126,127,128,129],[84,85,86,87,88,89,90,91,92,93,94,95,100,101,102,103,104,105,106,107,108,109,110,111,112,113,114,115,116,117,118,119,120,121,122,123,124,125,126,127,128,129],[84,85,86,87,88,89,90,91,92,93,94,95,100,101,102,103,104,105,106,107,108,109,110,111,112,113,114,115,116,117,118,119,120,121,122,123,124,125,126,127,128,129],[84,85,86,87,88,89,90,91,92,93,94,100,101,102,103,104,105,106,107,108,109,110,111,112,113,114,115,116,117,118,119,120,121,122,123,124,125,126,127,128,129],[84,85,86,87,88,89,90,91,92,93,94,100,101,102,103,104,105,106,107,108,109,110,111,112,113,114,115,116,117,118,119,120,121,122,123,124,125,126,127,128,129],[84,85,86,87,88,89,90,91,92,93,94,95,96,97,98,99,101,102,105,106,107,108,109,110,111,112,113,114,115,116,117,118,119,120,121,122,123,124,125,126,127,128,129],[84,85,86,87,88,89,90,91,92,93,94,95,96,97,98,99,100,105,106,107,108,109,110,111,112,113,114,115,116,117,118,119,120,121,122,123,124,125,126,127,128,129],[84,85,86,87,88,89,90,91,92,93,94,95,96,97,98,99,100,105,106,107,108,109,110,111,112,113,114,115,116,117,118,119,120,121,122,123,124,125,126,127,128,129],[84,85,86,87,88,89,90,91,92,93,94,95,96,97,98,99,105,106,107,108,109,110,111,112,113,114,115,116,117,118,119,120,121,122,123,124,125,126,127,128,129],[84,85,86,87,88,89,90,91,92,93,94,95,96,97,98,99,105,106,107,108,109,110,111,112,113,114,115,116,117,118,119,120,121,122,123,124,125,126,127,128,129],[84,85,86,87,88,89,90,91,92,93,94,95,96,97,98,99,100,101,102,103,104,106,107,110,111,112,113,114,115,116,117,118,119,120,121,122,123,124,125,126,127,128,129],[84,85,86,87,88,89,90,91,92,93,94,95,96,97,98,99,100,101,102,103,104,105,110,111,112,113,114,115,116,117,118,119,120,121,122,123,124,125,126,127,128,129],[84,85,86,87,88,89,90,91,92,93,94,95,96,97,98,99,100,101,102,103,104,105,110,111,112,113,114,115,116,117,118,119,120,121,122,123,124,125,126,127,128,129],[84,85,86,87,88,89,90,91,92,93,94,95,96,97,98,99,100,101,102,103,104,110,111,112,113,114,115,116,117,118,119,120,121,122,123,124,125,126,127,128,129],[84,85,86,87,88,89,90,91,92,93,94,95,96,97,98,99,100,101,102,103,104,110,111,112,113,114,115,116,117,118,119,120,121,122,123,124,125,126,127,128,129],[84,85,86,87,88,89,90,91,92,93,94,95,96,97,98,99,100,101,102,103,104,105,106,107,108,109,111,112,115,116,117,118,119,120,121,122,123,124,125,126,127,128,129],[84,85,86,87,88,89,90,91,92,93,94,95,96,97,98,99,100,101,102,103,104,105,106,107,108,109,110,115,116,117,118,119,120,121,122,123,124,125,126,127,128,129],[84,85,86,87,88,89,90,91,92,93,94,95,96,97,98,99,100,101,102,103,104,105,106,107,108,109,110,115,116,117,118,119,120,121,122,123,124,125,126,127,128,129],[84,85,86,87,88,89,90,91,92,93,94,95,96,97,98,99,100,101,102,103,104,105,106,107,108,109,115,116,117,118,119,120,121,122,123,124,125,126,127,128,129],[84,85,86,87,88,89,90,91,92,93,94,95,96,97,98,99,100,101,102,103,104,105,106,107,108,109,115,116,117,118,119,120,121,122,123,124,125,126,127,128,129],[84,85,86,87,88,89,90,91,92,93,94,95,96,97,98,99,100,101,102,103,104,105,106,107,108,109,110,111,112,113,114,116,117,120,121,122,123,124,125,126,127,128,129],[84,85,86,87,88,89,90,91,92,93,94,95,96,97,98,99,100,101,102,103,104,105,106,107,108,109,110,111,112,113,114,115,120,121,122,123,124,125,126,127,128,129],[84,85,86,87,88,89,90,91,92,93,94,95,96,97,98,99,100,101,102,103,104,105,106,107,108,109,110,111,112,113,114,115,120,121,122,123,124,125,126,127,128,129],[84,85,86,87,88,89,90,91,92,93,94,95,96,97,98,99,100,101,102,103,104,105,106,107,108,109,110,111,112,113,114,120,121,122,123,124,125,126,127,128,129],[84,85,86,87,88,89,90,91,92,93,94,95,96,97,98,99,100,101,102,103,104,105,106,107,108,109,110,111,112,113,114,120,121,122,123,124,125,126,127,128,129],[84,85,86,87,88,89,90,91,92,93,94,95,96,97,98,99,100,101,102,103,104,105,106,107,108,109,110,111,112,113,114,115,116,117,118,119,121,122,125,126,127,128,129],[84,85,86,87,88,89,90,91,92,93,94,95,96,97,98,99,100,101,102,103,104,105,106,107,108,109,110,111,112,113,114,115,116,117,118,119,120,125,126,127,128,129],[84,85,86,87,88,89,90,91,92,93,94,95,96,97,98,99,100,101,102,103,104,105,106,107,108,109,110,111,112,113,114,115,116,117,118,119,120,125,126,127,128,129],[84,85,86,87,88,89,90,91,92,93,94,95,96,97,98,99,100,101,102,103,104,105,106,107,108,109,110,111,112,113,114,115,116,117,118,119,125,126,127,128,129],[84,85,86,87,88,89,90,91,92,93,94,95,96,97,98,99,100,101,102,103,104,105,106,107,108,109,110,111,112,113,114,115,116,117,118,119,125,126,127,128,129],[84,85,86,87,88,89,90,91,92,93,94,95,96,97,98,99,100,101,102,103,104,105,106,107,108,109,110,111,112,113,114,115,116,117,118,119,120,121,122,123,124,126,127],[84,85,86,87,88,89,90,91,92,93,94,95,96,97,98,99,100,101,102,103,104,105,106,107,108,109,110,111,112,113,114,115,116,117,118,119,120,121,122,123,124,125],[84,85,86,87,88,89,90,91,92,93,94,95,96,97,98,99,100,101,102,103,104,105,106,107,108,109,110,111,112,113,114,115,116,117,118,119,120,121,122,123,124,125],[84,85,86,87,88,89,90,91,92,93,94,95,96,97,98,99,100,101,102,103,104,105,106,107,108,109,110,111,112,113,114,115,116,117,118,119,120,121,122,123,124],[84,85,86,87,88,89,90,91,92,93,94,95,96,97,98,99,100,101,102,103,104,105,106,107,108,109,110,111,112,113,114,115,116,117,118,119,120,121,122,123,124],[84,85],[84,85],[],[],[]] J (DR.s (Qf J J J J (by decide)) J J (DR.s (Qg J J J J J) J J (DR.s (Qa J J J) J J (DR.s (Qa J J J) J J (DR.s (Q3 J J J J J (by omega) (by assumption)) J J (DR.s (Q7 J J J J (by assumption) J) J J (DR.s (Qa J J J) J J (DR.s (Qa J J J) J J (DR.s (Qs J J J J (by omega)) J J ?_)))))))))));refine DR.s (Q3 J J J J J (by omega) (by omega)) J J (DR.s (Q7 J J J J (by assumption) J) J J (DR.s (Qa J J J) J J (DR.s (Qa J J J) J J (DR.s (Qs J J J J (by omega)) J J (DR.s (Q3 J J J J J (by omega) (by omega)) J J (DR.s (Q7 J J J J (by assumption) J) J J (DR.s (Qa J J J) J J (DR.s (Qa J J J) J J (DR.s (Qs J J J J (by omega)) J J (DR.s (Q3 J J J J J (by omega) (by omega)) J J (DR.s (Q7 J J J J (by assumption) J) J J ?_)))))))))));refine DR.s (Qa J J J) J J (DR.s (Qa J J J) J J (DR.s (Qs J J J J (by omega)) J J (DR.s (Q3 J J J J J (by omega) (by omega)) J J (DR.s (Q7 J J J J (by assumption) J) J J (DR.s (Qa J J J) J J (DR.s (Qa J J J) J J (DR.s (Qs J J J J (by omega)) J J (DR.s (Q3 J J J J J (by omega) (by omega)) J J (DR.s (Q7 J J J J (by assumption) J) J J (DR.s (Qa J J J) J J (DR.s (Qa J J J) J J ?_)))))))))));refine DR.s (Qs J J J J (by omega)) J J (DR.s (Q3 J J J J J (by omega) (by omega)) J J (DR.s (Q7 J J J J (by assumption) J) J J (DR.s (Qa J J J) J J (DR.s (Qa J J J) J J (DR.s (Qs J J J J (by omega)) J J (DR.s (Q3 J J J J J (by omega) (by omega)) J J (DR.s (Q7 J J J J (by assumption) J) J J (DR.s (Qa J J J) J J (DR.s (Qa J J J) J J (DR.s (Qs J J J J (by omega)) J J (DR.s (Q3 J J J J J (by omega) (by assumption)) J J ?_)))))))))));refine DR.s (Q7 J J J J (by assumption) J) J J ?_;refine DR.s (x := .o (.ag [jv (l.getD (3 + p + 9 * q + 0) 0),jv (l.getD (3 + p + 9 * q + 1) 0),jv (l.getD (3 + p + 9 * q + 2) 0),jv (l.getD (3 + p + 9 * q + 3) 0),jv (l.getD (3 + p + 9 * q + 4) 0),jv (l.getD (3 + p + 9 * q + 5) 0),jv (l.getD (3 + p + 9 * q + 6) 0),jv (l.getD (3 + p + 9 * q + 7) 0),jv (l.getD (3 + p + 9 * q + 8) 0)])) (Zj J J J J J) J J ?_;refine DR.s (Zh J J J J J J) J J (DR.stop (by kernel_rfl) (by kernel_rfl) ?_);refine AL.weak (st' := (⟨_,[(1,S s),(4,.o (.c (.ptr 1 0))),(6,.o (.c (.ref 2))),(10,.o (.c (.ptr 4 0))),(11,I ((3 + p + 9 * q : Nat) : Int)),(85,.o (.c (.ref 6))),(131,.o (.c (.sb 7 1 9)))],[.box ((Enc.e lv).map (V1.rd [])),.box [nilV,jv 0,jv 0,nilV,nilV],.row 1 (els l),.row 1 (els lv.Rows),.box [.ref 3,jv (l.getD 0 0),jv (l.getD 1 0),.ref 5,.ref 6],.row 1 (els ((l.drop 3).take p)),.row 9 (els (bodiesOf rest q)),.box [jv (l.getD (3 + p + 9 * q + 0) 0),jv (l.getD (3 + p + 9 * q + 1) 0),jv (l.getD (3 + p + 9 * q + 2) 0),jv (l.getD (3 + p + 9 * q + 3) 0),jv (l.getD (3 + p + 9 * q + 4) 0),jv (l.getD (3 + p + 9 * q + 5) 0),jv (l.getD (3 + p + 9 * q + 6) 0),jv (l.getD (3 + p + 9 * q + 7) 0),jv (l.getD (3 + p + 9 * q + 8) 0)]]⟩ : St)) (X5 [0,1,2,3,4,5,6,7] (by decide) J (J) (.c J (.c J (.c J (.c J (.c J (.c J (.c J (.nil))))))))) ?_;refine Xx J J J J J J J J J J J J J J (by omega) (by omega) ?_;refine z2 J J J ?_;refine Q5 J J J J J J J J (Qe (Q1 (Q0 (Qc (z0 J (z7 J (by omega) (z1 J (zz ?_))))))))
   exact ⟨nb - (q + 1),by omega,(fun q : Nat => (⟨_,[(1,S s),(4,.o (.c (.ptr 1 0))),(6,.o (.c (.ref 2))),(10,.o (.c (.ptr 4 0))),(11,I ((3 + p + 9 * q : Nat) : Int))],[.box ((Enc.e lv).map (V1.rd [])),.box [nilV,jv 0,jv 0,nilV,nilV],.row 1 (els l),.row 1 (els lv.Rows),.box [.ref 3,jv (l.getD 0 0),jv (l.getD 1 0),.ref 5,.ref 6],.row 1 (els ((l.drop 3).take p)),.row 9 (els (bodiesOf rest q))]⟩ : St)) (q + 1),X5 [0,1,2,3,4,5,6] (by decide) J (row7 (by rw [bodiesOf_snoc,Yi,show els [bodyOf (rest.drop (9 * q))] = [Enc.e (bodyOf (rest.drop (9 * q)))] from J,hbc]; rfl)) (.c J (.c J (.c J (.c J (.cons (Xw (by omega)) (.nil)))))),q + 1,by omega,trivial,J⟩
  ·have hb6 : decide (((3 + p + 9 * q : Nat) : Int) < (els l).length) = false := decide_eq_false h4
   have hqn : q = nb := by omega
   subst hqn
   have hwk := S_WorldBytes ⟨lv,l.getD 0 0,l.getD 1 0,(l.drop 3).take p,bodiesOf rest q⟩ hwg
   cases ho : worldOk ⟨lv,l.getD 0 0,l.getD 1 0,(l.drop 3).take p,bodiesOf rest q⟩ with
   | false =>
    have hne : decide (worldBytes ⟨lv,l.getD 0 0,l.getD 1 0,(l.drop 3).take p,bodiesOf rest q⟩ ≠ s) = true := decide_eq_true fun h => by rw [hwb,ho] at h; cases h
    rw [Z8 hu (fun hh => by have h9 := hh.2.2; rw [hwo,ho] at h9; cases h9)]
    refine Qd (zy (z0 J (z0 J (zx (Zv J J J J) J (z9a J (by assumption) (zz (Ql J (Q9 (T_x ?_)))))))));refine T_x (Xl (Q0 (Qd (zy (z4 J J J ?_)))));refine zx (Qj J J (hwk) J) J ?_;refine z0 J (zx (Z4 J J J J (by assumption)) J (zz (Qm J (zy (zx (Zj J J J J J) J ?_)))));refine Qy J J J J J J J J J (z1 J (zz (Xa (T_r (F_r ?_)))))
    exact Xn J J J J J (X4 [1,1,9] [7,8,9] J J (by decide) J J J)
   | true =>
    have hne : decide (worldBytes ⟨lv,l.getD 0 0,l.getD 1 0,(l.drop 3).take p,bodiesOf rest q⟩ ≠ s) = false := decide_eq_false fun h => h (hwb.2 ho)
    rw [Ka hu ⟨by omega,hform,by rw [hwo]; exact ho⟩,hwo]
    refine Qd (zy (z0 J (z0 J (zx (Zv J J J J) J (z9a J (by assumption) (zz (Ql J (Q9 (T_x ?_)))))))));refine T_x (Xl (Q0 (Qd (zy (z4 J J J ?_)))));refine zx (Qj J J (hwk) J) J ?_;refine z0 J (zx (Z4 J J J J (by assumption)) J (zz (Ql J (Qh (Q0 (zy (z4 J J J ?_)))))));refine Qy J J J J J J J J J (z1 J (zz (Xa (F_r ?_))))
    exact Xn J J J J J (X3 [3,5,6] (by decide) J J J)
end
section
open Go.RowKit

def keyText (s : ByteArray) (keys : List ByteArray) : Nat → Option ByteArray
 | 0 => some s
 | n + 1 => match keyText s keys n with
  | none => none
  | some t => match keys[n]? with
   | none => none
   | some d => applyD t d
theorem keyText_none {s : ByteArray} {keys : List ByteArray} {i : Nat} (h : keyText s keys i = none) : ∀ {n : Nat},i ≤ n → keyText s keys n = none
 | 0,hn => by have : i = 0 := (by omega); subst this; exact h
 | n + 1,hn => by
  by_cases e : i = n + 1
  ·subst e; exact h
  ·rw [keyText,keyText_none h (by omega)]
theorem keyText_step {s t d : ByteArray} {keys : List ByteArray} {n : Nat} (h : keyText s keys n = some t) (hk : keys[n]? = some d) : keyText s keys (n + 1) = applyD t d := by rw [keyText,h]; simp only [hk]
theorem keyText_len {s : ByteArray} {keys : List ByteArray} (hs : s.size ≤ 20000) : ∀ {n : Nat} {t : ByteArray},keyText s keys n = some t → t.size ≤ 20000
 | 0,t,h => by cases h; exact hs
 | n + 1,t,h => by
  rw [keyText] at h
  split at h
  ·cases h
  ·split at h
   ·cases h
   ·exact applyD_len h
structure ROk (r : TReplay) : Prop where
 l : levelOk r.Level = true
 p : 1 ≤ r.Players ∧ r.Players ≤ 4
 s : inR r.Seed 0 65535 = true
 e : 1 ≤ r.Every ∧ r.Every ≤ 100
 k : r.Keys.length ≤ 400
theorem rok {r : TReplay} (h : replayOk r = true) : ROk r := by
 unfold replayOk at h
 simp only [Bool.and_eq_true,decide_eq_true_eq,Yx] at h
 obtain ⟨⟨⟨⟨⟨⟨h1,h2⟩,h3⟩,h4⟩,h5⟩,h6⟩,h7⟩ := h
 refine ⟨h1,h2,Yx.2 h3,h4,?_⟩
 have : (r.Rows.length : Int) / r.Every ≤ r.Rows.length := Int.ediv_le_self _ (by omega)
 omega
noncomputable def keyWorld (r : TReplay) (k : Nat) : Option TWorld := match keyText (worldBytes (newWorld r.Level r.Players.toNat r.Seed)) r.Keys k with
 | none => none
 | some s => match readWorld r.Level s with
  | none => none
  | some w => if w.Tick = (k : Int) * r.Every ∧ (w.Scores.length : Int) = r.Players then some w else none
noncomputable def keyAt (r : TReplay) (k : Int) : Option TWorld := if replayOk r = true ∧ -1 ≤ k ∧ k < r.Keys.length then (if k < 0 then some (newWorld r.Level r.Players.toNat r.Seed) else keyWorld r (k + 1).toNat) else none
theorem keyWorld_0 (r : TReplay) (hl : levelOk r.Level = true) (hp : 1 ≤ r.Players ∧ r.Players ≤ 4) (hs : inR r.Seed 0 65535 = true) : keyWorld r 0 = some (newWorld r.Level r.Players.toNat r.Seed) := by
 rw [keyWorld,keyText]
 simp only [newWorld_back hl (n := r.Players.toNat) (by omega) hs]
 rw [if_pos]
 constructor
 ·show (0 : Int) = ((0 : Nat) : Int) * r.Every; simp
 ·simp only [newWorld,List.length_replicate]; omega
theorem bytes_len (w : TWorld) : (worldBytes w).size ≤ 20000 := by
 unfold worldBytes
 split
 ·rename_i h
  have hw := Kq h
  have h1 := packInts_size (worldInts w)
  have h2 := flat_length w.Bodies
  have h3 : (worldInts w).length = 3 + w.Scores.length + 9 * w.Bodies.length := by
   simp only [worldInts,List.length_append,List.length_cons,List.length_nil]; omega
  have h4 := hw.2.2.2.1
  have h5 := hw.2.2.2.2.2.1
  omega
 ·decide
theorem keyAt_bad {r : TReplay} {k : Int} (h : ¬ (replayOk r = true ∧ -1 ≤ k ∧ k < r.Keys.length)) : keyAt r k = none := if_neg h
theorem keyAt_neg {r : TReplay} {k : Int} (h : replayOk r = true ∧ -1 ≤ k ∧ k < r.Keys.length) (hk : k < 0) : keyAt r k = some (newWorld r.Level r.Players.toNat r.Seed) := by rw [keyAt,if_pos h,if_pos hk]
theorem keyAt_pos {r : TReplay} {k : Int} (h : replayOk r = true ∧ -1 ≤ k ∧ k < r.Keys.length) (hk : ¬ k < 0) : keyAt r k = keyWorld r (k + 1).toNat := by rw [keyAt,if_pos h,if_neg hk]
theorem keyAt_all {r : TReplay} {k : Int} (h : replayOk r = true ∧ -1 ≤ k ∧ k < r.Keys.length) : keyAt r k = keyWorld r (k + 1).toNat := by
 by_cases hk : k < 0
 ·have hr := rok h.1
  rw [keyAt_neg h hk,show (k + 1).toNat = 0 by omega,keyWorld_0 r hr.l hr.p hr.s]
 ·exact keyAt_pos h hk
section
variable {r : TReplay} {n : Nat} {s : ByteArray} {w : TWorld}
theorem Yz (h : keyText (worldBytes (newWorld r.Level r.Players.toNat r.Seed)) r.Keys n = none) : keyWorld r n = none := by rw [keyWorld,h]
variable (h : keyText (worldBytes (newWorld r.Level r.Players.toNat r.Seed)) r.Keys n = some s)
include h
theorem Y0 (h2 : readWorld r.Level s = none) : keyWorld r n = none := by rw [keyWorld,h]; simp only [h2]
theorem Yy (h2 : readWorld r.Level s = some w) (hn : ¬ (w.Tick = (n : Int) * r.Every ∧ (w.Scores.length : Int) = r.Players)) : keyWorld r n = none := by rw [keyWorld,h]; simp only [h2]; rw [if_neg hn]
theorem keyWorld_yes (h2 : readWorld r.Level s = some w) (hn : w.Tick = (n : Int) * r.Every ∧ (w.Scores.length : Int) = r.Players) : keyWorld r n = some w := by rw [keyWorld,h]; simp only [h2]; rw [if_pos hn]
end
theorem keyAt_in {r : TReplay} {k : Int} (hr : RepIn r) : WorIn (rwW (keyAt r k)) := by
 by_cases hv : replayOk r = true ∧ -1 ≤ k ∧ k < r.Keys.length
 ·rw [keyAt_all hv]
  cases ht : keyText (worldBytes (newWorld r.Level r.Players.toNat r.Seed)) r.Keys (k + 1).toNat with
  | none => rw [Yz ht]; exact wor_zero
  | some s =>
   have hl := keyText_len (bytes_len _) ht
   cases hw : readWorld r.Level s with
   | none => rw [Y0 ht hw]; exact wor_zero
   | some w =>
    by_cases hc : w.Tick = ((k + 1).toNat : Int) * r.Every ∧ (w.Scores.length : Int) = r.Players
    ·have := read_in (lv := r.Level) (s := s) hr.gd.1 hr.h1 (by omega)
     rw [hw] at this
     rw [keyWorld_yes ht hw hc]
     exact this
    ·rw [Yy ht hw hc]; exact wor_zero
 ·rw [keyAt_bad hv]; exact wor_zero
theorem key_mul {k e : Int} (h0 : 0 ≤ k) (h1 : k ≤ 400) (h2 : 1 ≤ e) (h3 : e ≤ 100) : 0 ≤ k * e ∧ k * e ≤ 40000 := ⟨Int.mul_nonneg h0 (by omega),by
 have := Int.mul_le_mul h1 h3 (by omega) (by omega)
 omega⟩
set_option maxHeartbeats 8000000 in
theorem I_KeyAt (r : TReplay) (k : Int) (hg : Enc.gd r) (hk : I64 k) (ir : RepIn r) (hks : ∀ x ∈ r.Keys,x.size ≤ 1048576) : Con Tryz.prog 39 [] [ag r,ai k] (ownO (Enc.e (rwW (keyAt r k)))) (.tu [.ag (ownV 0 (Enc.e (rwW (keyAt r k)))),.c (bv (rwB (keyAt r k)))]) := by
 have cr := I_ReplayOk r hg
 have hlk := Yl r.Keys
 obtain ⟨hk1,hk2⟩ := hk
 have hL := ir.h1
 refine Con.of Tryz.func39 J Tryz.ntmps39 J (fun E => ?_)
 refine zy (M1 (Qq J J J J) J J (M1 (Qx J J J) J J (z1 J (zz (Qd (zy (z4 J J J ?_)))))));refine zx (Qj J J (cr) J) J ?_;refine zn J (z0 J ?_);refine zx (Qt.grdF J J J .stop (fun hgrd => Qa J J J)) J ?_;refine zx (Qt.grdF J J J (.hit .stop) (fun hgrd => Zz J J J J)) J ?_;refine zx (Z3 J J J J) J (z0 J ?_);refine zx (Qt.grdF J J J .stop (fun hgrd => Qa J J J)) J ?_;refine zx (Qt.grdF J J J (.hit .stop) (fun hgrd => Qf J J J J (by decide))) J ?_;refine zx (Qt.grdF J J J (.hit (.hit .stop)) (fun hgrd => Qg J J J J J)) J ?_;refine zx (Qt.grdF J J J (.hit (.hit (.hit .stop))) (fun hgrd => Zu J J J)) J ?_;refine zx (Qt.grdF J J J (.hit (.hit (.hit (.hit .stop)))) (fun hgrd => q_geq J J J J)) J ?_;refine zx (Z3 J J J J) J (zz ?_)
 refine Xb J (fun h => ?_) (fun h => ?_)
 ·rw [keyAt_bad (fun ⟨q1,q2,q3⟩ => by rw [q1] at h; simp at h; omega)]
  refine zy (zx (Zj J J J J J) J ?_);refine Qy J J J J J J J J J (z1 J (zz (Xa (T_r (F_r ?_)))))
  exact Xn J J J J J (X4 [1,1,9] [2,3,4] J J (by decide) J J J)
 simp only [Bool.or_eq_false_iff,Bool.not_eq_false',decide_eq_false_iff_not] at h
 have hv : replayOk r = true ∧ -1 ≤ k ∧ k < r.Keys.length := ⟨h.1.1,by omega,by omega⟩
 have hr := rok hv.1
 obtain ⟨hp1,hp2⟩ := hr.p
 have hnw := I_NewWorld r.Level r.Players.toNat r.Seed hg.1 hL hr.l (by omega) hr.s
 rw [show ((r.Players.toNat : Nat) : Int) = r.Players by omega] at hnw
 have hgn := Y6 (n := r.Players.toNat) hg.1 hr.l (by omega) hr.s
 have hwb := I_WorldBytes _ hgn
 have hbl := bytes_len (newWorld r.Level r.Players.toNat r.Seed)
 refine AWP.pre (st' := (⟨_,[(1,I k),(2,.o (.c (.ptr 0 0))),(4,.o (.c (.ptr 1 0)))],[.box ((Enc.e r).map (V1.rd [])),.box [nilV,jn 0,jn 0,nilV,nilV]]⟩ : St)) ?_ (X5 [0,1] (by decide) J (J) (.c J (.c J (.c J (.nil)))))
 by_cases hk0 : k < 0
 ·have e0 : decide (k < 0) = true := decide_eq_true hk0
  rw [keyAt_neg hv hk0]
  refine Qh (Q0 (zy (z2 J J J (z4 J J J (z2 J J J (z3 J (z2 J J J (z3 J ?_))))))));refine M1 (Zm J J (hnw) J J J) J J ?_;refine zx (Q8 J J J) J (ze J (ze J (M1 (Qx J J J) J J ?_)));refine Qy J J J J J J J J J (z1 J (zz (Qd (zy (z0 J (zn J (z0 J (z5 J (z0 J ?_)))))))));refine z5 J (z9a J (by assumption) (zpF J (zz (Qm J (zy (z4 J J J (z0 J ?_)))))));refine Qy J J J J J J J J J (z1 J (zz (Xa (T_r (F_r ?_)))))
  exact Xn J J J J J (X3 [2,3,4] (by decide) J J J)
 have e0 : decide (k < 0) = false := decide_eq_false hk0
 rw [keyAt_pos hv hk0]
 obtain ⟨s0,hs0⟩ : ∃ s0,s0 = worldBytes (newWorld r.Level r.Players.toNat r.Seed) := ⟨_,rfl⟩
 rw [← hs0] at hwb hbl
 obtain ⟨K,hK⟩ : ∃ K : Nat,k + 1 = K := ⟨(k + 1).toNat,by omega⟩
 have hKl : K ≤ r.Keys.length := by omega
 have htl : ((els r.Keys).take (k + 1).toNat).length = K := by rw [List.length_take]; omega
 have hkk := hr.k
 rw [show (k + 1).toNat = K by omega]
 refine Qh (Q0 (zy (z2 J J J (z4 J J J (z2 J J J (z3 J (z2 J J J (z3 J ?_))))))));refine M1 (Zm J J (hnw) J J J) J J ?_;refine zx (Q8 J J J) J (ze J (ze J (M1 (Qx J J J) J J ?_)));refine Qy J J J J J J J J J (z1 J (zz (Qd (zy (z0 J (zn J (z0 J (z5 J (z0 J ?_)))))))));refine z5 J (z9a J (by assumption) (zpF J (zz (Ql J (Qh (Q0 (zy (z4 J J J ?_))))))));refine zx (Qj J J (hwb) J) J ?_;refine z1 J (zz (Qd (zy (z2 J J J (z3 J (z0 J (z7 J (by omega) (zx (q_part0 J J J J J (by omega)) J (zx (Zu J J J) J ?_)))))))));refine z0 J (zz (Qk ?_));refine Xj (fun m st => ∃ (i : Nat) (t : ByteArray),i + m = K ∧ (keyText s0 r.Keys i = some t) ∧ st = (fun (i : Nat) (t : ByteArray) => (⟨_,[(1,I k),(2,.o (.c (.ptr 0 0))),(4,.o (.c (.ptr 1 0))),(8,S t),(53,.o (.c (.rd [] (.sl 1 ((els r.Keys).take (k + 1).toNat))))),(54,I K),(55,I i)],[.box ((Enc.e r).map (V1.rd [])),.box [nilV,jn 0,jn 0,nilV,nilV]]⟩ : St)) i t) (K) ⟨(fun (i : Nat) (t : ByteArray) => (⟨_,[(1,I k),(2,.o (.c (.ptr 0 0))),(4,.o (.c (.ptr 1 0))),(8,S t),(53,.o (.c (.rd [] (.sl 1 ((els r.Keys).take (k + 1).toNat))))),(54,I K),(55,I i)],[.box ((Enc.e r).map (V1.rd [])),.box [nilV,jn 0,jn 0,nilV,nilV]]⟩ : St)) 0 (s0),X5 [0,1] (by decide) J (J) (.c J (.c J (.c J (.c J (.c J (.cons (Xw (by rw [htl])) (.c J (.nil)))))))),0,s0,by omega,J,J⟩ ?_
 rintro m_A _ ⟨i,t,hk_A,hp_A,rfl⟩
 have htz := keyText_len hbl hp_A
 refine zy (zx (Zz J J J J) J (zz (Qd ?_)))
 refine Xb J (fun h3 => ?_) (fun h3 => ?_)
 ·have h3 : i < K := by have := of_decide_eq_true h3; omega
  have hil : i < r.Keys.length := by omega
  have hki := List.getElem?_eq_getElem hil
  have hat : ((els r.Keys).take (k + 1).toNat)[(i : Int).toNat]? = some (Enc.e (r.Keys[i])) := by
   rw [List.getElem?_take,if_pos (by omega)]
   exact Yj hil
  have hdz := hks _ (List.getElem_mem hil)
  generalize r.Keys[i] = d at hki hat hdz
  have hap := I_ApplyDelta t d (by omega) (by omega)
  have hst := keyText_step hp_A hki
  cases hx : applyD t d with
  | none =>
   rw [hx] at hap hst
   rw [Yz (by rw [← hs0]; exact keyText_none hst (by omega))]
   refine Qh (Q0 (Qd (Qk (zy (zx (Q2 J J J J (by omega) (by assumption) J) J (zx (Zx J J J J) J (z1 J (zz (Qd ?_)))))))));refine Qc (z0 J (z0 J ?_));refine M1 (Zm J J (hap) J J J) J J ?_;refine zx (Q8 J J J) J (ze J (ze J (z1 J (z1 J (zz (Qd (zy (z0 J (zn J ?_)))))))));refine zz (Qm J (zy (zx (Zj J J J J J) J ?_)));refine Qy J J J J J J J J J (z1 J (zz (Xa (T_r (B_r (T_r (T_r (B_r (T_r (F_r ?_))))))))))
   exact Xn J J J J J (X4 [1,1,9] [2,3,4] J J (by decide) J J J)
  | some t' =>
   rw [hx] at hap hst
   refine Qh (Q0 (Qd (Qk (zy (zx (Q2 J J J J (by omega) (by assumption) J) J (zx (Zx J J J J) J (z1 J (zz (Qd ?_)))))))));refine Qc (z0 J (z0 J ?_));refine M1 (Zm J J (hap) J J J) J J ?_;refine zx (Q8 J J J) J (ze J (ze J (z1 J (z1 J (zz (Qd (zy (z0 J (zn J ?_)))))))));refine zz (Ql J (Qh (Q0 (Qc (z0 J (z1 J (Qe (Q1 (Q0 (Qc ?_))))))))));refine z7 J (by omega) (z0 J (zz ?_))
   exact ⟨K - (i + 1),by omega,(fun (i : Nat) (t : ByteArray) => (⟨_,[(1,I k),(2,.o (.c (.ptr 0 0))),(4,.o (.c (.ptr 1 0))),(8,S t),(53,.o (.c (.rd [] (.sl 1 ((els r.Keys).take (k + 1).toNat))))),(54,I K),(55,I i)],[.box ((Enc.e r).map (V1.rd [])),.box [nilV,jn 0,jn 0,nilV,nilV]]⟩ : St)) (i + 1) (t'),X5 [0,1] (by decide) J (J) (.c J (.c J (.c J (.c J (.c J (.c J (.c J (.nil)))))))),i + 1,t',by omega,hst,J⟩
 have h3 : i = K := by have := of_decide_eq_false h3; omega
 subst h3
 have hrw := I_ReadWorld r.Level t hg.1 hL (by omega)
 have hkt : keyText (worldBytes (newWorld r.Level r.Players.toNat r.Seed)) r.Keys i = some t := by rw [← hs0]; exact hp_A
 have hmul := key_mul (k := k + 1) (e := r.Every) (by omega) (by omega) hr.e.1 hr.e.2
 cases hw : readWorld r.Level t with
 | none =>
  rw [hw] at hrw
  rw [Y0 hkt hw]
  refine Q9 (T_x (T_x (Xl (Q0 (zy (z2 J J J (z4 J J J (z0 J ?_))))))));refine M1 (Zm J J (hrw) J J J) J J ?_;refine zx (Q8 J J J) J (ze J (ze J (M1 (Qx J J J) J J ?_)));refine Qy J J J J J J J J J (z1 J (zz (Qd (zy (z0 J (zn J (z0 J (z6 J (z6 J ?_)))))))));refine z6 J (z6 J (z6 J (z6 J (z6 J (z6 J (zpT J (z0 J (z6 J (z6 J (z6 J (z6 J ?_)))))))))));refine z6 J (z6 J (zpT J (zz (Qm J (zy (zx (Zj J J J J J) J ?_))))));refine Qy J J J J J J J J J (z1 J (zz (Xa (T_r (F_r ?_)))))
  exact Xn J J J J J (X4 [1,1,9] [6,7,8] J J (by decide) J J J)
 | some w =>
  rw [hw] at hrw
  have hls := Yl w.Scores
  by_cases c1 : w.Tick = (k + 1) * r.Every
  ·have e1 : decide (w.Tick ≠ (k + 1) * r.Every) = false := decide_eq_false (fun q => q c1)
   by_cases c2 : (w.Scores.length : Int) = r.Players
   ·have e2 : decide (((els w.Scores).length : Int) ≠ r.Players) = false := decide_eq_false (by rw [hls]; exact fun q => q c2)
    rw [keyWorld_yes hkt hw ⟨by rw [← hK]; exact c1,c2⟩]
    refine Q9 (T_x (T_x (Xl (Q0 (zy (z2 J J J (z4 J J J (z0 J ?_))))))));refine M1 (Zm J J (hrw) J J J) J J ?_;refine zx (Q8 J J J) J (ze J (ze J (M1 (Qx J J J) J J ?_)));refine Qy J J J J J J J J J (z1 J (zz (Qd (zy (z0 J (zn J (z0 J (z5 J (z2 J J J ?_)))))))));refine z5 J (z3 J (z5 J (z0 J (z5 J (z7 J (by omega) (z5 J (z2 J J J (z5 J (z3 J (z5 J (zx (Z0 J J J J (by omega)) J ?_)))))))))));refine z5 J (z9f J (by assumption) (zpF J (z0 J (z5 J (z2 J J J (z5 J (z3 J (z5 J (zx (Zv J J J J) J (z5 J (z2 J J J ?_)))))))))));refine z5 J (z3 J (z5 J (z9f J (by assumption) (zpF J (zz (Ql J (Qh (Q0 (zy ?_)))))))));refine z4 J J J ?_;refine Qy J J J J J J J J J (z1 J (zz (Xa (F_r ?_))))
    exact Xn J J J J J (X3 [2,3,4] (by decide) J J J)
   ·have e2 : decide (((els w.Scores).length : Int) ≠ r.Players) = true := decide_eq_true (by rw [hls]; exact c2)
    rw [Yy hkt hw (fun q => c2 q.2)]
    refine Q9 (T_x (T_x (Xl (Q0 (zy (z2 J J J (z4 J J J (z0 J ?_))))))));refine M1 (Zm J J (hrw) J J J) J J ?_;refine zx (Q8 J J J) J (ze J (ze J (M1 (Qx J J J) J J ?_)));refine Qy J J J J J J J J J (z1 J (zz (Qd (zy (z0 J (zn J (z0 J (z5 J (z2 J J J ?_)))))))));refine z5 J (z3 J (z5 J (z0 J (z5 J (z7 J (by omega) (z5 J (z2 J J J (z5 J (z3 J (z5 J (zx (Z0 J J J J (by omega)) J ?_)))))))))));refine z5 J (z9f J (by assumption) (zpF J (z0 J (z5 J (z2 J J J (z5 J (z3 J (z5 J (zx (Zv J J J J) J (z5 J (z2 J J J ?_)))))))))));refine z5 J (z3 J (z5 J (z9f J (by assumption) (zpF J (zz (Qm J (zy (zx (Zj J J J J J) J ?_))))))));refine Qy J J J J J J J J J (z1 J (zz (Xa (T_r (F_r ?_)))))
    exact Xn J J J J J (X4 [1,1,9] [6,7,8] J J (by decide) J J J)
  ·have e1 : decide (w.Tick ≠ (k + 1) * r.Every) = true := decide_eq_true c1
   rw [Yy hkt hw (fun q => c1 (by rw [hK]; exact q.1))]
   refine Q9 (T_x (T_x (Xl (Q0 (zy (z2 J J J (z4 J J J (z0 J ?_))))))));refine M1 (Zm J J (hrw) J J J) J J ?_;refine zx (Q8 J J J) J (ze J (ze J (M1 (Qx J J J) J J ?_)));refine Qy J J J J J J J J J (z1 J (zz (Qd (zy (z0 J (zn J (z0 J (z5 J (z2 J J J ?_)))))))));refine z5 J (z3 J (z5 J (z0 J (z5 J (z7 J (by omega) (z5 J (z2 J J J (z5 J (z3 J (z5 J (zx (Z0 J J J J (by omega)) J ?_)))))))))));refine z5 J (z9f J (by assumption) (zpF J (z0 J (z6 J (z6 J (z6 J (z6 J (z6 J (z6 J (zpT J (Qe ?_)))))))))));refine Q0 (Qm J (zy (zx (Zj J J J J J) J ?_)));refine Qy J J J J J J J J J (z1 J (zz (Xa (T_r (F_r ?_)))))
   exact Xn J J J J J (X4 [1,1,9] [6,7,8] J J (by decide) J J J)
set_option maxHeartbeats 8000000 in
theorem S_KeyAt (r : TReplay) (k : Int) (hg : Enc.gd r) (hk : I64 k) (ir : RepIn r) (hks : ∀ x ∈ r.Keys,x.size ≤ 1048576) : Con Tryz.prog 33 [] [ag r,ai k] (ownO (Enc.e (rwW (keyAt r k)))) (.tu [.ag (ownV 0 (Enc.e (rwW (keyAt r k)))),.c (bv (rwB (keyAt r k)))]) := by
 have cr := S_ReplayOk r hg
 have hlk := Yl r.Keys
 have hgk := ir.h2
 obtain ⟨hk1,hk2⟩ := hk
 have hL := ir.h1
 have ci := S_in k (-1) (((els r.Keys).length : Int) - 1)
 refine Con.of Tryz.func33 J Tryz.ntmps33 J (fun E => ?_)
 refine zy (M1 (Qq J J J J) J J (M1 (Qx J J J) J J (z1 J (zz (Qd (zy (z4 J J J ?_)))))));refine zx (Qj J J (cr) J) J ?_;refine zn J (z0 J ?_);refine zx (Qt.grdF J J J .stop (fun hgrd => Qa J J J)) J ?_;refine zx (Qt.grdF J J J (.hit .stop) (fun hgrd => Qf J J J J (by decide))) J ?_;refine zx (Qt.grdF J J J (.hit (.hit .stop)) (fun hgrd => Qg J J J J J)) J ?_;refine zx (Qt.grdF J J J (.hit (.hit (.hit .stop))) (fun hgrd => Zu J J J)) J ?_;refine zx (Qt.grdF J J J (.hit (.hit (.hit (.hit .stop)))) (fun hgrd => Xc J J J J (by omega))) J ?_;refine zx (Qt.grdF J J J (.hit (.hit (.hit (.hit (.hit .stop))))) (fun hgrd => Qj J J (ci) J)) J ?_;refine zx (Qt.grdF J J J (.hit (.hit (.hit (.hit (.hit (.hit .stop)))))) (fun hgrd => Q4 J J J)) J ?_;refine zx (Z3 J J J J) J (zz ?_)
 refine Xb J (fun h => ?_) (fun h => ?_)
 ·rw [keyAt_bad (fun ⟨q1,q2,q3⟩ => by rw [q1,Yx.2 (by omega)] at h; exact absurd h (by decide))]
  refine zy (zx (Zj J J J J J) J ?_);refine Qy J J J J J J J J J (z1 J (zz (Xa (T_r (F_r ?_)))))
  exact Xn J J J J J (X4 [1,1,9] [2,3,4] J J (by decide) J J J)
 simp only [Bool.or_eq_false_iff,Bool.not_eq_false',Yx] at h
 have hv : replayOk r = true ∧ -1 ≤ k ∧ k < r.Keys.length := ⟨h.1,by omega,by omega⟩
 have hr := rok hv.1
 obtain ⟨hp1,hp2⟩ := hr.p
 have hnw := S_NewWorld r.Level r.Players.toNat r.Seed hg.1 hL hr.l (by omega) hr.s
 rw [show ((r.Players.toNat : Nat) : Int) = r.Players by omega] at hnw
 have hgn := Y6 (n := r.Players.toNat) hg.1 hr.l (by omega) hr.s
 have hwb := S_WorldBytes _ hgn
 have hbl := bytes_len (newWorld r.Level r.Players.toNat r.Seed)
 refine AWP.pre (st' := (⟨_,[(1,I k),(2,.o (.c (.ptr 0 0))),(4,.o (.c (.ptr 1 0)))],[.box ((Enc.e r).map (V1.rd [])),.box [nilV,jn 0,jn 0,nilV,nilV]]⟩ : St)) ?_ (X5 [0,1] (by decide) J (J) (.c J (.c J (.c J (.nil)))))
 rw [keyAt_all hv]
 obtain ⟨s0,hs0⟩ : ∃ s0,s0 = worldBytes (newWorld r.Level r.Players.toNat r.Seed) := ⟨_,rfl⟩
 rw [← hs0] at hwb hbl
 obtain ⟨K,hK⟩ : ∃ K : Nat,k + 1 = K := ⟨(k + 1).toNat,by omega⟩
 have hKl : K ≤ r.Keys.length := by omega
 have hkk := hr.k
 rw [show (k + 1).toNat = K by omega]
 refine Qh (Q0 (zy (z2 J J J (z4 J J J (z2 J J J (z3 J (z2 J J J (z3 J ?_))))))));refine M1 (Zm J J (hnw) J J J) J J ?_;refine zx (Q8 J J J) J (ze J (ze J (M1 (Qx J J J) J J ?_)));refine Qy J J J J J J J J J (z1 J (zz (zy (z4 J J J ?_))));refine zx (Qj J J (hwb) J) J ?_;refine z1 J (zz (Qd (zy (z1 J (zz (Qk ?_))))));refine Xj (fun m st => ∃ (i : Nat) (t : ByteArray),i + m = K ∧ (keyText s0 r.Keys i = some t) ∧ st = (fun (i : Nat) (t : ByteArray) => (⟨_,[(1,I k),(2,.o (.c (.ptr 0 0))),(4,.o (.c (.ptr 1 0))),(8,S t),(9,I i)],[.box ((Enc.e r).map (V1.rd [])),.box [nilV,jn 0,jn 0,nilV,nilV]]⟩ : St)) i t) (K) ⟨(fun (i : Nat) (t : ByteArray) => (⟨_,[(1,I k),(2,.o (.c (.ptr 0 0))),(4,.o (.c (.ptr 1 0))),(8,S t),(9,I i)],[.box ((Enc.e r).map (V1.rd [])),.box [nilV,jn 0,jn 0,nilV,nilV]]⟩ : St)) 0 (s0),X5 [0,1] (by decide) J (J) (.c J (.c J (.c J (.c J (.c J (.nil)))))),0,s0,by omega,J,J⟩ ?_
 rintro m_A _ ⟨i,t,hk_A,hp_A,rfl⟩
 have htz := keyText_len hbl hp_A
 refine Qd (zy (z0 J (z0 J (zx (q_leq J J J J) J (zz ?_)))))
 refine Xb J (fun h3 => ?_) (fun h3 => ?_)
 ·have h3 : i < K := by have := of_decide_eq_true h3; omega
  have hil : i < r.Keys.length := by omega
  have hki := List.getElem?_eq_getElem hil
  have hat := Yj hil
  have hdz := hks _ (List.getElem_mem hil)
  generalize r.Keys[i] = d at hki hat hdz
  have hap := S_ApplyDelta t d (by omega) (by omega)
  have hst := keyText_step hp_A hki
  cases hx : applyD t d with
  | none =>
   rw [hx] at hap hst
   rw [Yz (by rw [← hs0]; exact keyText_none hst (by omega))]
   refine Qh (Q0 (Qd (Qk (zy (z0 J (z2 J J J (z3 J (z0 J (zx (Q2 J J J J (by omega) (by assumption) J) J (zx (Zx J J J J) J ?_))))))))));refine M1 (Zm J J (hap) J J J) J J ?_;refine zx (Q8 J J J) J (ze J (ze J (z1 J (z1 J (zz (Qd (zy (z0 J (zn J ?_)))))))));refine zz (Qm J (zy (zx (Zj J J J J J) J ?_)));refine Qy J J J J J J J J J (z1 J (zz (Xa (T_r (B_r (T_r (T_r (B_r (T_r (F_r ?_))))))))))
   exact Xn J J J J J (X4 [1,1,9] [2,3,4] J J (by decide) J J J)
  | some t' =>
   rw [hx] at hap hst
   refine Qh (Q0 (Qd (Qk (zy (z0 J (z2 J J J (z3 J (z0 J (zx (Q2 J J J J (by omega) (by assumption) J) J (zx (Zx J J J J) J ?_))))))))));refine M1 (Zm J J (hap) J J J) J J ?_;refine zx (Q8 J J J) J (ze J (ze J (z1 J (z1 J (zz (Qd (zy (z0 J (zn J ?_)))))))));refine zz (Ql J (Qh (Q0 (Qc (z0 J (z1 J (Qe (Q1 (Q0 (Qc ?_))))))))));refine z0 J (z7 J (by omega) (z1 J (zz ?_)))
   exact ⟨K - (i + 1),by omega,(fun (i : Nat) (t : ByteArray) => (⟨_,[(1,I k),(2,.o (.c (.ptr 0 0))),(4,.o (.c (.ptr 1 0))),(8,S t),(9,I i)],[.box ((Enc.e r).map (V1.rd [])),.box [nilV,jn 0,jn 0,nilV,nilV]]⟩ : St)) (i + 1) (t'),X5 [0,1] (by decide) J (J) (.c J (.c J (.c J (.c J (.c J (.nil)))))),i + 1,t',by omega,hst,J⟩
 have h3 : i = K := by have := of_decide_eq_false h3; omega
 subst h3
 have hrw := S_ReadWorld r.Level t hg.1 hL (by omega)
 have hkt : keyText (worldBytes (newWorld r.Level r.Players.toNat r.Seed)) r.Keys i = some t := by rw [← hs0]; exact hp_A
 have hmul := key_mul (k := k + 1) (e := r.Every) (by omega) (by omega) hr.e.1 hr.e.2
 cases hw : readWorld r.Level t with
 | none =>
  rw [hw] at hrw
  rw [Y0 hkt hw]
  refine Q9 (T_x (T_x (Xl (Q0 (zy (z2 J J J (z4 J J J (z0 J ?_))))))));refine M1 (Zm J J (hrw) J J J) J J ?_;refine zx (Q8 J J J) J (ze J (ze J (M1 (Qx J J J) J J ?_)));refine Qy J J J J J J J J J (z1 J (zz (Qd (zy (z0 J (zn J (z0 J (z6 J (z6 J ?_)))))))));refine z6 J (z6 J (z6 J (z6 J (z6 J (z6 J (zpT J (z0 J (z6 J (z6 J (z6 J (z6 J ?_)))))))))));refine z6 J (z6 J (zpT J (zz (Qm J (zy (zx (Zj J J J J J) J ?_))))));refine Qy J J J J J J J J J (z1 J (zz (Xa (T_r (F_r ?_)))))
  exact Xn J J J J J (X4 [1,1,9] [6,7,8] J J (by decide) J J J)
 | some w =>
  rw [hw] at hrw
  have hls := Yl w.Scores
  by_cases c1 : w.Tick = (k + 1) * r.Every
  ·have e1 : decide (w.Tick ≠ (k + 1) * r.Every) = false := decide_eq_false (fun q => q c1)
   by_cases c2 : (w.Scores.length : Int) = r.Players
   ·have e2 : decide (((els w.Scores).length : Int) ≠ r.Players) = false := decide_eq_false (by rw [hls]; exact fun q => q c2)
    rw [keyWorld_yes hkt hw ⟨by rw [← hK]; exact c1,c2⟩]
    refine Q9 (T_x (T_x (Xl (Q0 (zy (z2 J J J (z4 J J J (z0 J ?_))))))));refine M1 (Zm J J (hrw) J J J) J J ?_;refine zx (Q8 J J J) J (ze J (ze J (M1 (Qx J J J) J J ?_)));refine Qy J J J J J J J J J (z1 J (zz (Qd (zy (z0 J (zn J (z0 J (z5 J (z2 J J J ?_)))))))));refine z5 J (z3 J (z5 J (z0 J (z5 J (z7 J (by omega) (z5 J (z2 J J J (z5 J (z3 J (z5 J (zx (Z0 J J J J (by omega)) J ?_)))))))))));refine z5 J (z9f J (by assumption) (zpF J (z0 J (z5 J (z2 J J J (z5 J (z3 J (z5 J (zx (Zv J J J J) J (z5 J (z2 J J J ?_)))))))))));refine z5 J (z3 J (z5 J (z9f J (by assumption) (zpF J (zz (Ql J (Qh (Q0 (zy ?_)))))))));refine z4 J J J ?_;refine Qy J J J J J J J J J (z1 J (zz (Xa (F_r ?_))))
    exact Xn J J J J J (X3 [2,3,4] (by decide) J J J)
   ·have e2 : decide (((els w.Scores).length : Int) ≠ r.Players) = true := decide_eq_true (by rw [hls]; exact c2)
    rw [Yy hkt hw (fun q => c2 q.2)]
    refine Q9 (T_x (T_x (Xl (Q0 (zy (z2 J J J (z4 J J J (z0 J ?_))))))));refine M1 (Zm J J (hrw) J J J) J J ?_;refine zx (Q8 J J J) J (ze J (ze J (M1 (Qx J J J) J J ?_)));refine Qy J J J J J J J J J (z1 J (zz (Qd (zy (z0 J (zn J (z0 J (z5 J (z2 J J J ?_)))))))));refine z5 J (z3 J (z5 J (z0 J (z5 J (z7 J (by omega) (z5 J (z2 J J J (z5 J (z3 J (z5 J (zx (Z0 J J J J (by omega)) J ?_)))))))))));refine z5 J (z9f J (by assumption) (zpF J (z0 J (z5 J (z2 J J J (z5 J (z3 J (z5 J (zx (Zv J J J J) J (z5 J (z2 J J J ?_)))))))))));refine z5 J (z3 J (z5 J (z9f J (by assumption) (zpF J (zz (Qm J (zy (zx (Zj J J J J J) J ?_))))))));refine Qy J J J J J J J J J (z1 J (zz (Xa (T_r (F_r ?_)))))
    exact Xn J J J J J (X4 [1,1,9] [6,7,8] J J (by decide) J J J)
  ·have e1 : decide (w.Tick ≠ (k + 1) * r.Every) = true := decide_eq_true c1
   rw [Yy hkt hw (fun q => c1 (by rw [hK]; exact q.1))]
   refine Q9 (T_x (T_x (Xl (Q0 (zy (z2 J J J (z4 J J J (z0 J ?_))))))));refine M1 (Zm J J (hrw) J J J) J J ?_;refine zx (Q8 J J J) J (ze J (ze J (M1 (Qx J J J) J J ?_)));refine Qy J J J J J J J J J (z1 J (zz (Qd (zy (z0 J (zn J (z0 J (z5 J (z2 J J J ?_)))))))));refine z5 J (z3 J (z5 J (z0 J (z5 J (z7 J (by omega) (z5 J (z2 J J J (z5 J (z3 J (z5 J (zx (Z0 J J J J (by omega)) J ?_)))))))))));refine z5 J (z9f J (by assumption) (zpF J (z0 J (z6 J (z6 J (z6 J (z6 J (z6 J (z6 J (zpT J (Qe ?_)))))))))));refine Q0 (Qm J (zy (zx (Zj J J J J J) J ?_)));refine Qy J J J J J J J J J (z1 J (zz (Xa (T_r (F_r ?_)))))
   exact Xn J J J J J (X4 [1,1,9] [6,7,8] J J (by decide) J J J)
end
section
open Go.RowKit

noncomputable def playM (r : TReplay) (k : Int) : Option TWorld := if replayOk r = true ∧ 0 ≤ k ∧ k ≤ r.Rows.length then some (runM (newWorld r.Level r.Players.toNat r.Seed) (r.Rows.take k.toNat)) else none
theorem play_no {r : TReplay} {k : Int} (h : ¬ (replayOk r = true ∧ 0 ≤ k ∧ k ≤ r.Rows.length)) : playM r k = none := if_neg h
theorem play_yes {r : TReplay} {k : Int} (h : replayOk r = true ∧ 0 ≤ k ∧ k ≤ r.Rows.length) : playM r k = some (runM (newWorld r.Level r.Players.toNat r.Seed) (r.Rows.take k.toNat)) := if_pos h
theorem new_in {r : TReplay} (ir : RepIn r) (h : replayOk r = true) : WorIn (newWorld r.Level r.Players.toNat r.Seed) := by
 have hr := rok h
 have hp := hr.p
 refine ⟨Y6 (n := r.Players.toNat) ir.gd.1 hr.l (by omega) hr.s,ir.h1,?_,?_⟩
 ·simp only [newWorld,List.length_replicate]; omega
 ·simp only [newWorld,List.length_map,List.length_range]; omega
theorem play_in {r : TReplay} {k : Int} (ir : RepIn r) : WorIn (rwW (playM r k)) := by
 by_cases h : replayOk r = true ∧ 0 ≤ k ∧ k ≤ r.Rows.length
 ·rw [play_yes h]
  exact ran_in _ (new_in ir h.1)
 ·rw [play_no h]
  exact wor_zero
theorem takes_els {r : TReplay} {k : Int} : (els r.Rows).take k.toNat = els (r.Rows.take k.toNat) := (Yo _ _).symm
set_option maxHeartbeats 8000000 in
theorem I_PlayReplay (r : TReplay) (k : Int) (hg : Enc.gd r) (hk : I64 k) (ir : RepIn r) : Con Tryz.prog 40 [] [ag r,ai k] (ownO (Enc.e (rwW (playM r k)))) (.tu [.ag (ownV 0 (Enc.e (rwW (playM r k)))),.c (bv (rwB (playM r k)))]) := by
 have cr := I_ReplayOk r hg
 have hlk := Yl r.Rows
 obtain ⟨hk1,hk2⟩ := hk
 have hL := ir.h1
 refine Con.of Tryz.func40 J Tryz.ntmps40 J (fun E => ?_)
 refine zy (M1 (Qq J J J J) J J (M1 (Qx J J J) J J (z1 J (zz (Qd (zy (z4 J J J ?_)))))));refine zx (Qj J J (cr) J) J ?_;refine zn J (z0 J ?_);refine zx (Qt.grdF J J J .stop (fun hgrd => Qa J J J)) J ?_;refine zx (Qt.grdF J J J (.hit .stop) (fun hgrd => Zz J J J J)) J ?_;refine zx (Z3 J J J J) J (z0 J ?_);refine zx (Qt.grdF J J J .stop (fun hgrd => Qa J J J)) J ?_;refine zx (Qt.grdF J J J (.hit .stop) (fun hgrd => Qf J J J J (by decide))) J ?_;refine zx (Qt.grdF J J J (.hit (.hit .stop)) (fun hgrd => Qg J J J J J)) J ?_;refine zx (Qt.grdF J J J (.hit (.hit (.hit .stop))) (fun hgrd => Zu J J J)) J ?_;refine zx (Qt.grdF J J J (.hit (.hit (.hit (.hit .stop)))) (fun hgrd => Zs J J J J)) J ?_;refine zx (Z3 J J J J) J (zz ?_)
 refine Xb J (fun h => ?_) (fun h => ?_)
 ·rw [play_no (fun ⟨q1,q2,q3⟩ => by rw [q1] at h; simp at h; omega)]
  refine zy (zx (Zj J J J J J) J ?_);refine Qy J J J J J J J J J (z1 J (zz (Xa (T_r (F_r ?_)))))
  exact Xn J J J J J (X4 [1,1,9] [2,3,4] J J (by decide) J J J)
 simp only [Bool.or_eq_false_iff,Bool.not_eq_false',decide_eq_false_iff_not] at h
 have hv : replayOk r = true ∧ 0 ≤ k ∧ k ≤ r.Rows.length := ⟨h.1.1,by omega,by omega⟩
 have hr := rok hv.1
 obtain ⟨hp1,hp2⟩ := hr.p
 have hnw := I_NewWorld r.Level r.Players.toNat r.Seed hg.1 hL hr.l (by omega) hr.s
 rw [show ((r.Players.toNat : Nat) : Int) = r.Players by omega] at hnw
 have iw := new_in ir hv.1
 have hrw := I_RunWorld _ (r.Rows.take k.toNat) iw (Enc.gd_take hg.2.2.2.2.1 _)
 have hrw : Con Tryz.prog 62 [] [ag (newWorld r.Level r.Players.toNat r.Seed),.c (.rd [] (.sl (Enc.k (List Int)) ((els r.Rows).take k.toNat)))] (ownO (Enc.e (runM (newWorld r.Level r.Players.toNat r.Seed) (r.Rows.take k.toNat)))) (.o (.ag (ownV 0 (Enc.e (runM (newWorld r.Level r.Players.toNat r.Seed) (r.Rows.take k.toNat)))))) := by rw [takes_els]; exact hrw
 rw [play_yes hv]
 generalize newWorld r.Level r.Players.toNat r.Seed = w at hnw hrw
 refine AWP.pre (st' := (⟨_,[(1,I k),(2,.o (.c (.ptr 0 0))),(4,.o (.c (.ptr 1 0)))],[.box ((Enc.e r).map (V1.rd [])),.box [nilV,jn 0,jn 0,nilV,nilV]]⟩ : St)) ?_ (X5 [0,1] (by decide) J (J) (.c J (.c J (.c J (.nil)))))
 refine Qh (Q0 (zy (z2 J J J (z4 J J J (z2 J J J (z3 J (z2 J J J (z3 J ?_))))))));refine M1 (Zm J J (hnw) J J J) J J ?_;refine zx (Q8 J J J) J (ze J (ze J (M1 (Qx J J J) J J ?_)));refine Qy J J J J J J J J J (z1 J (zz (Qd (zy (z0 J (zn J (zz (Ql J ?_))))))));refine Qh (Q0 (Qd ?_))
 have hq : (0 : Int) ≤ k ∧ k ≤ ((els r.Rows).length : Nat) := by omega
 refine Xi u8_44 [[],[],[37],[],[37,38,39],[36,37,38,39,40],[36,37,38,39,40,41],[36,37,38,39,40,41]] [[37,38,39,40],[36,39],[36,39],[36,37,38],[36],[],[],[]] J (DR.s (Qu J J J J J J) J J (DR.s (Qf J J J J (by decide)) J J (DR.s (Qg J J J J J) J J (DR.s (Qa J J J) J J (DR.s (q_part0 J J J J J hq) J J ?_)))));refine DR.s (Zm J J (hrw) J J J) J J ?_;refine DR.stop (by kernel_rfl) (by kernel_rfl) ?_;refine Qy J J J J J J J J J (z1 J (zz (Xa (F_r ?_))))
 exact Xn J J J J J (X3 [6,7,8] (by decide) J J J)
set_option maxHeartbeats 8000000 in
theorem S_PlayReplay (r : TReplay) (k : Int) (hg : Enc.gd r) (hk : I64 k) (ir : RepIn r) : Con Tryz.prog 34 [] [ag r,ai k] (ownO (Enc.e (rwW (playM r k)))) (.tu [.ag (ownV 0 (Enc.e (rwW (playM r k)))),.c (bv (rwB (playM r k)))]) := by
 have cr := S_ReplayOk r hg
 have hlk := Yl r.Rows
 obtain ⟨hk1,hk2⟩ := hk
 have hL := ir.h1
 have ci := S_in k 0 ((els r.Rows).length : Int)
 refine Con.of Tryz.func34 J Tryz.ntmps34 J (fun E => ?_)
 refine zy (M1 (Qq J J J J) J J (M1 (Qx J J J) J J (z1 J (zz (Qd (zy (z4 J J J ?_)))))));refine zx (Qj J J (cr) J) J ?_;refine zn J (z0 J ?_);refine zx (Qt.grdF J J J .stop (fun hgrd => Qa J J J)) J ?_;refine zx (Qt.grdF J J J (.hit .stop) (fun hgrd => Qf J J J J (by decide))) J ?_;refine zx (Qt.grdF J J J (.hit (.hit .stop)) (fun hgrd => Qg J J J J J)) J ?_;refine zx (Qt.grdF J J J (.hit (.hit (.hit .stop))) (fun hgrd => Zu J J J)) J ?_;refine zx (Qt.grdF J J J (.hit (.hit (.hit (.hit .stop)))) (fun hgrd => Qj J J (ci) J)) J ?_;refine zx (Qt.grdF J J J (.hit (.hit (.hit (.hit (.hit .stop))))) (fun hgrd => Q4 J J J)) J ?_;refine zx (Z3 J J J J) J (zz ?_)
 refine Xb J (fun h => ?_) (fun h => ?_)
 ·rw [play_no (fun ⟨q1,q2,q3⟩ => by rw [q1,Yx.2 (by omega)] at h; exact absurd h (by decide))]
  refine zy (zx (Zj J J J J J) J ?_);refine Qy J J J J J J J J J (z1 J (zz (Xa (T_r (F_r ?_)))))
  exact Xn J J J J J (X4 [1,1,9] [2,3,4] J J (by decide) J J J)
 simp only [Bool.or_eq_false_iff,Bool.not_eq_false',Yx] at h
 have hv : replayOk r = true ∧ 0 ≤ k ∧ k ≤ r.Rows.length := ⟨h.1,by omega,by omega⟩
 have hr := rok hv.1
 obtain ⟨hp1,hp2⟩ := hr.p
 have hnw := S_NewWorld r.Level r.Players.toNat r.Seed hg.1 hL hr.l (by omega) hr.s
 rw [show ((r.Players.toNat : Nat) : Int) = r.Players by omega] at hnw
 have iw := new_in ir hv.1
 have hrw := S_RunWorld _ (r.Rows.take k.toNat) iw (Enc.gd_take hg.2.2.2.2.1 _)
 have hrw : Con Tryz.prog 61 [] [ag (newWorld r.Level r.Players.toNat r.Seed),.c (.rd [] (.sl (Enc.k (List Int)) ((els r.Rows).take k.toNat)))] (ownO (Enc.e (runM (newWorld r.Level r.Players.toNat r.Seed) (r.Rows.take k.toNat)))) (.o (.ag (ownV 0 (Enc.e (runM (newWorld r.Level r.Players.toNat r.Seed) (r.Rows.take k.toNat)))))) := by rw [takes_els]; exact hrw
 rw [play_yes hv]
 generalize newWorld r.Level r.Players.toNat r.Seed = w at hnw hrw
 refine AWP.pre (st' := (⟨_,[(1,I k),(2,.o (.c (.ptr 0 0))),(4,.o (.c (.ptr 1 0)))],[.box ((Enc.e r).map (V1.rd [])),.box [nilV,jn 0,jn 0,nilV,nilV]]⟩ : St)) ?_ (X5 [0,1] (by decide) J (J) (.c J (.c J (.c J (.nil)))))
 refine Qh (Q0 (zy (z2 J J J (z4 J J J (z2 J J J (z3 J (z2 J J J (z3 J ?_))))))));refine M1 (Zm J J (hnw) J J J) J J ?_;refine zx (Q8 J J J) J (ze J (ze J (M1 (Qx J J J) J J ?_)));refine Qy J J J J J J J J J (z1 J (zz (Qd ?_)))
 have hq : (0 : Int) ≤ k ∧ k ≤ ((els r.Rows).length : Nat) := by omega
 refine Xi u8_44 [[],[],[31],[],[31,32,33],[30,31,32,33,34],[30,31,32,33,34,35],[30,31,32,33,34,35]] [[31,32,33,34],[30,33],[30,33],[30,31,32],[30],[],[],[]] J (DR.s (Qu J J J J J J) J J (DR.s (Qf J J J J (by decide)) J J (DR.s (Qg J J J J J) J J (DR.s (Qa J J J) J J (DR.s (q_part0 J J J J J hq) J J ?_)))));refine DR.s (Zm J J (hrw) J J J) J J ?_;refine DR.stop (by kernel_rfl) (by kernel_rfl) ?_;refine Qy J J J J J J J J J (z1 J (zz (Xa (F_r ?_))))
 exact Xn J J J J J (X3 [6,7,8] (by decide) J J J)
end
section
open Go.RowKit
end
section
open Go.RowKit

set_option maxHeartbeats 2000000 in
theorem slEqS (xs ys : List ByteArray) (hn : Enc.gd xs) : Con Tryz.prog 118 [] [al xs,al ys] [] (B (decide (xs = ys))) := by
 have hn1 := hn.1
 have hlx := Yl xs
 have hly := Yl ys
 by_cases hl : xs.length = ys.length
 ·have hb : decide (((els xs).length : Int) ≠ ((els ys).length : Int)) = false := by rw [hlx,hly,hl]; simp
  refine Con.of Tryz.func118 J Tryz.ntmps118 J (fun E => ?_)
  refine zy (z1 J (zz (Qd (zy (z0 J (zx (Zu J J J) J (z0 J (zx (Zu J J J) J ?_))))))));refine z9f J (by assumption) (zz (Ql J (Qh (Q0 (Qd (zy (z0 J (zx (Zu J J J) J (z0 J ?_)))))))));refine zz (Qk ?_);refine Xj (fun m st => ∃ k : Nat,k + m = xs.length ∧ (xs.take k = ys.take k) ∧ st = (fun k : Nat => (⟨_,[(0,L xs),(1,L ys),(12,I (els xs).length),(13,I k)],[]⟩ : St)) k) (xs.length) ⟨(fun k : Nat => (⟨_,[(0,L xs),(1,L ys),(12,I (els xs).length),(13,I k)],[]⟩ : St)) 0,X5 [] (by decide) J (J) (.c J (.c J (.c J (.c J (.nil))))),0,by omega,by simp,J⟩ ?_
  rintro m_A _ ⟨k,hk_A,hp_A,rfl⟩
  refine zy (zx (Zz J J J J) J (zz (Qd ?_)))
  refine Xb J (fun h => ?_) (fun h => ?_)
  ·have h3 : k < xs.length := by have := of_decide_eq_true h; omega
   have h4 : k < ys.length := by omega
   have hat := Yj h3
   have hat2 := Yj h4
   by_cases he : xs[k] = ys[k]
   ·have hk : decide (xs[k] ≠ ys[k]) = false := by simp [he]
    refine Qh (Q0 (Qd (Qk (zy (z0 J (z1 J (zz (Qd (Xi u8_0 u8_45 u8_46 J ?_)))))))));refine DR.s (Qa J J J) J J (DR.s (Qa J J J) J J (DR.s (Q2 J J J J (by omega) (by assumption) J) J J (DR.s (Zx J J J J) J J (DR.s (Qa J J J) J J (DR.s (Qa J J J) J J (DR.s (Q2 J J J J (by omega) (by assumption) J) J J (DR.s (Zx J J J J) J J (DR.s (Z4 J J J J (by assumption)) J J (DR.stop (by kernel_rfl) (by kernel_rfl) (zz ?_))))))))));refine Ql J (Qh (Q1 (Q0 (Qc (z7 J (by omega) (z0 J (zz ?_)))))))
    exact ⟨xs.length - (k + 1),by omega,(fun k : Nat => (⟨_,[(0,L xs),(1,L ys),(12,I (els xs).length),(13,I k)],[]⟩ : St)) (k + 1),X5 [] (by decide) J (J) (.c J (.c J (.c J (.c J (.nil))))),k + 1,by omega,eq_next h3 h4 hp_A he,J⟩
   ·have hk : decide (xs[k] ≠ ys[k]) = true := by simp [he]
    refine Qh (Q0 (Qd (Qk (zy (z0 J (z1 J (zz (Qd (Xi u8_0 u8_45 u8_46 J ?_)))))))));refine DR.s (Qa J J J) J J (DR.s (Qa J J J) J J (DR.s (Q2 J J J J (by omega) (by assumption) J) J J (DR.s (Zx J J J J) J J (DR.s (Qa J J J) J J (DR.s (Qa J J J) J J (DR.s (Q2 J J J J (by omega) (by assumption) J) J J (DR.s (Zx J J J J) J J (DR.s (Z4 J J J J (by assumption)) J J (DR.stop (by kernel_rfl) (by kernel_rfl) (zz ?_))))))))));refine Qm J (zy (z1 J (zz (Xa (B_r (T_r (T_r (B_r (T_r ?_)))))))));refine F_r ?_
    exact Xp J J (X3 [] (by decide) J J (Xk (eq_ne h3 h4 he).symm))
  ·have h3 : ¬ ((k : Int) < (els xs).length) := of_decide_eq_false h
   refine Q9 (T_x (T_x (Xl (Q0 (zy (z1 J (zz (Xa (F_r ?_)))))))))
   exact Xp J J (X3 [] (by decide) J J (Xk (eq_all (by omega) hl hp_A).symm))
 ·have hb : decide (((els xs).length : Int) ≠ ((els ys).length : Int)) = true := by rw [hlx,hly]; simp; omega
  refine Con.of Tryz.func118 J Tryz.ntmps118 J (fun E => ?_)
  refine zy (z1 J (zz (Qd (zy (z0 J (zx (Zu J J J) J (z0 J (zx (Zu J J J) J ?_))))))));refine z9f J (by assumption) (zz (Qm J (zy (z1 J (zz (Xa (T_r (F_r ?_))))))))
  exact Xp J J (X3 [] (by decide) J J (Xk (eq_len hl).symm))
set_option maxHeartbeats 2000000 in
theorem slEqI (xs ys : List Int) (hn : Enc.gd xs) : Con Tryz.prog 80 [] [al xs,al ys] [] (B (decide (xs = ys))) := by
 have hn1 := hn.1
 have hlx := Yl xs
 have hly := Yl ys
 by_cases hl : xs.length = ys.length
 ·have hb : decide (((els xs).length : Int) ≠ ((els ys).length : Int)) = false := by rw [hlx,hly,hl]; simp
  refine Con.of Tryz.func80 J Tryz.ntmps80 J (fun E => ?_)
  refine zy (z1 J (zz (Qd (zy (z0 J (zx (Zu J J J) J (z0 J (zx (Zu J J J) J ?_))))))));refine z9f J (by assumption) (zz (Ql J (Qh (Q0 (Qd (zy (z0 J (zx (Zu J J J) J (z0 J ?_)))))))));refine zz (Qk ?_);refine Xj (fun m st => ∃ k : Nat,k + m = xs.length ∧ (xs.take k = ys.take k) ∧ st = (fun k : Nat => (⟨_,[(0,L xs),(1,L ys),(12,I (els xs).length),(13,I k)],[]⟩ : St)) k) (xs.length) ⟨(fun k : Nat => (⟨_,[(0,L xs),(1,L ys),(12,I (els xs).length),(13,I k)],[]⟩ : St)) 0,X5 [] (by decide) J (J) (.c J (.c J (.c J (.c J (.nil))))),0,by omega,by simp,J⟩ ?_
  rintro m_A _ ⟨k,hk_A,hp_A,rfl⟩
  refine zy (zx (Zz J J J J) J (zz (Qd ?_)))
  refine Xb J (fun h => ?_) (fun h => ?_)
  ·have h3 : k < xs.length := by have := of_decide_eq_true h; omega
   have h4 : k < ys.length := by omega
   have hat := Yj h3
   have hat2 := Yj h4
   by_cases he : xs[k] = ys[k]
   ·have hk : decide (xs[k] ≠ ys[k]) = false := by simp [he]
    refine Qh (Q0 (Qd (Qk (zy (z0 J (z1 J (zz (Qd (Xi u8_0 u8_45 u8_46 J ?_)))))))));refine DR.s (Qa J J J) J J (DR.s (Qa J J J) J J (DR.s (Q2 J J J J (by omega) (by assumption) J) J J (DR.s (Zx J J J J) J J (DR.s (Qa J J J) J J (DR.s (Qa J J J) J J (DR.s (Q2 J J J J (by omega) (by assumption) J) J J (DR.s (Zx J J J J) J J (DR.s (Qw J J J J (by assumption)) J J (DR.stop (by kernel_rfl) (by kernel_rfl) (zz ?_))))))))));refine Ql J (Qh (Q1 (Q0 (Qc (z7 J (by omega) (z0 J (zz ?_)))))))
    exact ⟨xs.length - (k + 1),by omega,(fun k : Nat => (⟨_,[(0,L xs),(1,L ys),(12,I (els xs).length),(13,I k)],[]⟩ : St)) (k + 1),X5 [] (by decide) J (J) (.c J (.c J (.c J (.c J (.nil))))),k + 1,by omega,eq_next h3 h4 hp_A he,J⟩
   ·have hk : decide (xs[k] ≠ ys[k]) = true := by simp [he]
    refine Qh (Q0 (Qd (Qk (zy (z0 J (z1 J (zz (Qd (Xi u8_0 u8_45 u8_46 J ?_)))))))));refine DR.s (Qa J J J) J J (DR.s (Qa J J J) J J (DR.s (Q2 J J J J (by omega) (by assumption) J) J J (DR.s (Zx J J J J) J J (DR.s (Qa J J J) J J (DR.s (Qa J J J) J J (DR.s (Q2 J J J J (by omega) (by assumption) J) J J (DR.s (Zx J J J J) J J (DR.s (Qw J J J J (by assumption)) J J (DR.stop (by kernel_rfl) (by kernel_rfl) (zz ?_))))))))));refine Qm J (zy (z1 J (zz (Xa (B_r (T_r (T_r (B_r (T_r ?_)))))))));refine F_r ?_
    exact Xp J J (X3 [] (by decide) J J (Xk (eq_ne h3 h4 he).symm))
  ·have h3 : ¬ ((k : Int) < (els xs).length) := of_decide_eq_false h
   refine Q9 (T_x (T_x (Xl (Q0 (zy (z1 J (zz (Xa (F_r ?_)))))))))
   exact Xp J J (X3 [] (by decide) J J (Xk (eq_all (by omega) hl hp_A).symm))
 ·have hb : decide (((els xs).length : Int) ≠ ((els ys).length : Int)) = true := by rw [hlx,hly]; simp; omega
  refine Con.of Tryz.func80 J Tryz.ntmps80 J (fun E => ?_)
  refine zy (z1 J (zz (Qd (zy (z0 J (zx (Zu J J J) J (z0 J (zx (Zu J J J) J ?_))))))));refine z9f J (by assumption) (zz (Qm J (zy (z1 J (zz (Xa (T_r (F_r ?_))))))))
  exact Xp J J (X3 [] (by decide) J J (Xk (eq_len hl).symm))
set_option maxHeartbeats 2000000 in
theorem S_ints (xs ys : List Int) (hn : Enc.gd xs) : Con Tryz.prog 72 [] [al xs,al ys] [] (B (decide (xs = ys))) := by
 have hn1 := hn.1
 have hlx := Yl xs
 have hly := Yl ys
 by_cases hl : xs.length = ys.length
 ·have hb : decide (((els xs).length : Int) ≠ ((els ys).length : Int)) = false := by rw [hlx,hly,hl]; simp
  refine Con.of Tryz.func72 J Tryz.ntmps72 J (fun E => ?_)
  refine zy (z1 J (zz (Qd (zy (z0 J (zx (Zu J J J) J (z0 J (zx (Zu J J J) J ?_))))))));refine z9f J (by assumption) (zz (Ql J (Qh (Q0 (Qd (zy (z1 J (zz ?_))))))));refine Qk ?_;refine Xj (fun m st => ∃ k : Nat,k + m = xs.length ∧ (xs.take k = ys.take k) ∧ st = (fun k : Nat => (⟨_,[(0,L xs),(1,L ys),(5,I k)],[]⟩ : St)) k) (xs.length) ⟨(fun k : Nat => (⟨_,[(0,L xs),(1,L ys),(5,I k)],[]⟩ : St)) 0,X5 [] (by decide) J (J) (.c J (.c J (.c J (.nil)))),0,by omega,by simp,J⟩ ?_
  rintro m_A _ ⟨k,hk_A,hp_A,rfl⟩
  refine Qd (zy (z0 J (z0 J (zx (Zu J J J) J (zx (Zz J J J J) J (zz ?_))))))
  refine Xb J (fun h => ?_) (fun h => ?_)
  ·have h3 : k < xs.length := by have := of_decide_eq_true h; omega
   have h4 : k < ys.length := by omega
   have hat := Yj h3
   have hat2 := Yj h4
   by_cases he : xs[k] = ys[k]
   ·have hk : decide (xs[k] ≠ ys[k]) = false := by simp [he]
    refine Qh (Q0 (Qd (Qk (Qd (Xi u8_0 u8_1 u8_2 J (DR.s (Qa J J J) J J (DR.s (Qa J J J) J J (DR.s (Q2 J J J J (by omega) (by assumption) J) J J (DR.s (Zx J J J J) J J (DR.s (Qa J J J) J J (DR.s (Qa J J J) J J ?_)))))))))));refine DR.s (Q2 J J J J (by omega) (by assumption) J) J J (DR.s (Zx J J J J) J J (DR.s (Qw J J J J (by assumption)) J J (DR.stop (by kernel_rfl) (by kernel_rfl) (zz (Ql J (Qh (Q1 (Q0 (Qc (z0 J ?_))))))))));refine z7 J (by omega) (z1 J (zz ?_))
    exact ⟨xs.length - (k + 1),by omega,(fun k : Nat => (⟨_,[(0,L xs),(1,L ys),(5,I k)],[]⟩ : St)) (k + 1),X5 [] (by decide) J (J) (.c J (.c J (.c J (.nil)))),k + 1,by omega,eq_next h3 h4 hp_A he,J⟩
   ·have hk : decide (xs[k] ≠ ys[k]) = true := by simp [he]
    refine Qh (Q0 (Qd (Qk (Qd (Xi u8_0 u8_1 u8_2 J (DR.s (Qa J J J) J J (DR.s (Qa J J J) J J (DR.s (Q2 J J J J (by omega) (by assumption) J) J J (DR.s (Zx J J J J) J J (DR.s (Qa J J J) J J (DR.s (Qa J J J) J J ?_)))))))))));refine DR.s (Q2 J J J J (by omega) (by assumption) J) J J (DR.s (Zx J J J J) J J (DR.s (Qw J J J J (by assumption)) J J (DR.stop (by kernel_rfl) (by kernel_rfl) (zz (Qm J (zy (z1 J (zz ?_))))))));refine Xa (B_r (T_r (T_r (B_r (T_r (F_r ?_))))))
    exact Xp J J (X3 [] (by decide) J J (Xk (eq_ne h3 h4 he).symm))
  ·have h3 : ¬ ((k : Int) < (els xs).length) := of_decide_eq_false h
   refine Q9 (T_x (T_x (Xl (Q0 (zy (z1 J (zz (Xa (F_r ?_)))))))))
   exact Xp J J (X3 [] (by decide) J J (Xk (eq_all (by omega) hl hp_A).symm))
 ·have hb : decide (((els xs).length : Int) ≠ ((els ys).length : Int)) = true := by rw [hlx,hly]; simp; omega
  refine Con.of Tryz.func72 J Tryz.ntmps72 J (fun E => ?_)
  refine zy (z1 J (zz (Qd (zy (z0 J (zx (Zu J J J) J (z0 J (zx (Zu J J J) J ?_))))))));refine z9f J (by assumption) (zz (Qm J (zy (z1 J (zz (Xa (T_r (F_r ?_))))))))
  exact Xp J J (X3 [] (by decide) J J (Xk (eq_len hl).symm))
set_option maxHeartbeats 8000000 in
theorem I_sameLevel (x y : TLevel) (hg : Enc.gd x) : Con Tryz.prog 79 [] [ag x,ag y] [] (B (decide (x = y))) := by
 have h : decide (x.Rows = y.Rows) = decide (x = y) := by cases x; cases y; simp
 refine Con.of Tryz.func79 J Tryz.ntmps79 J (fun E => ?_)
 refine zy (M1 (Qq J J J J) J J (M1 (Qq J J J J) J J (z1 J (zz (zy (z2 J J J (z3 J (z2 J J J ?_))))))));refine z3 J ?_;refine zx (Qj J J (slEqS x.Rows y.Rows hg) J) J ?_;refine z1 J (zz (Xa (F_r ?_)))
 exact Xp J J (X3 [] (by decide) J J (Xk h))
end
section
open Go.RowKit

set_option maxHeartbeats 8000000 in
theorem S_sameLevel (x y : TLevel) (hg : Enc.gd x) : Con Tryz.prog 73 [] [ag x,ag y] [] (B (decide (x = y))) := by
 have he : decide (x.Rows = y.Rows) = decide (x = y) := by cases x; cases y; simp
 rw [← he]
 clear he
 obtain ⟨xs⟩ := x
 obtain ⟨ys⟩ := y
 have hn : Enc.gd xs := hg
 have hn1 := hn.1
 show Con _ _ _ _ _ (B (decide (xs = ys)))
 have hlx := Yl xs
 have hly := Yl ys
 by_cases hl : xs.length = ys.length
 ·have hb : decide (((els xs).length : Int) ≠ ((els ys).length : Int)) = false := by rw [hlx,hly,hl]; simp
  refine Con.of Tryz.func73 J Tryz.ntmps73 J (fun E => ?_)
  refine zy (M1 (Qq J J J J) J J (M1 (Qq J J J J) J J (z1 J (zz (Qd (zy (z2 J J J (z3 J ?_))))))));refine zx (Zu J J J) J (z2 J J J (z3 J (zx (Zu J J J) J (z9f J (by assumption) (zz (Ql J (Qh (Q0 (Qd (Qd ?_))))))))));refine Qc (z1 J (zz (Qk ?_)));refine Xj (fun m st => ∃ k : Nat,k + m = xs.length ∧ (xs.take k = ys.take k) ∧ st = (fun k : Nat => (⟨_,[(2,.o (.c (.ptr 0 0))),(3,.o (.c (.ptr 1 0))),(5,I k)],[.box [.rd [] (sl xs)],.box [.rd [] (sl ys)]]⟩ : St)) k) (xs.length) ⟨(fun k : Nat => (⟨_,[(2,.o (.c (.ptr 0 0))),(3,.o (.c (.ptr 1 0))),(5,I k)],[.box [.rd [] (sl xs)],.box [.rd [] (sl ys)]]⟩ : St)) 0,X5 [0,1] (by decide) J (J) (.c J (.c J (.c J (.nil)))),0,by omega,by simp,J⟩ ?_
  rintro m_A _ ⟨k,hk_A,hp_A,rfl⟩
  refine Qd (zy (z0 J (z2 J J J (z3 J (zx (Zu J J J) J (zx (Zz J J J J) J (zz ?_)))))))
  refine Xb J (fun h => ?_) (fun h => ?_)
  ·have h3 : k < xs.length := by have := of_decide_eq_true h; omega
   have h4 : k < ys.length := by omega
   have hat := Yj h3
   have hat2 := Yj h4
   by_cases he : xs[k] = ys[k]
   ·have hk : decide (xs[k] ≠ ys[k]) = false := by simp [he]
    refine Qh (Q0 (Qd (Qk (Qd (Xi u8_47 u8_48 u8_49 J (DR.s (Qf J J J J (by decide)) J J (DR.s (Qg J J J J J) J J (DR.s (Qa J J J) J J (DR.s (Q2 J J J J (by omega) (by assumption) J) J J (DR.s (Zx J J J J) J J (DR.s (Qf J J J J (by decide)) J J ?_)))))))))));refine DR.s (Qg J J J J J) J J (DR.s (Qa J J J) J J (DR.s (Q2 J J J J (by omega) (by assumption) J) J J (DR.s (Zx J J J J) J J (DR.s (Z4 J J J J (by assumption)) J J (DR.stop (by kernel_rfl) (by kernel_rfl) (zz (Ql J (Qh (Q1 (Q0 ?_))))))))));refine Qc (z0 J (z7 J (by omega) (z1 J (zz ?_))))
    exact ⟨xs.length - (k + 1),by omega,(fun k : Nat => (⟨_,[(2,.o (.c (.ptr 0 0))),(3,.o (.c (.ptr 1 0))),(5,I k)],[.box [.rd [] (sl xs)],.box [.rd [] (sl ys)]]⟩ : St)) (k + 1),X5 [0,1] (by decide) J (J) (.c J (.c J (.c J (.nil)))),k + 1,by omega,eq_next h3 h4 hp_A he,J⟩
   ·have hk : decide (xs[k] ≠ ys[k]) = true := by simp [he]
    refine Qh (Q0 (Qd (Qk (Qd (Xi u8_47 u8_48 u8_49 J (DR.s (Qf J J J J (by decide)) J J (DR.s (Qg J J J J J) J J (DR.s (Qa J J J) J J (DR.s (Q2 J J J J (by omega) (by assumption) J) J J (DR.s (Zx J J J J) J J (DR.s (Qf J J J J (by decide)) J J ?_)))))))))));refine DR.s (Qg J J J J J) J J (DR.s (Qa J J J) J J (DR.s (Q2 J J J J (by omega) (by assumption) J) J J (DR.s (Zx J J J J) J J (DR.s (Z4 J J J J (by assumption)) J J (DR.stop (by kernel_rfl) (by kernel_rfl) (zz (Qm J (zy (z1 J ?_)))))))));refine zz (Xa (B_r (T_r (T_r (B_r (T_r (F_r ?_)))))))
    exact Xp J J (X3 [] (by decide) J J (Xk (eq_ne h3 h4 he).symm))
  ·have h3 : ¬ ((k : Int) < (els xs).length) := of_decide_eq_false h
   refine Q9 (T_x (T_x (Xl (Q0 (zy (z1 J (zz (Xa (F_r ?_)))))))))
   exact Xp J J (X3 [] (by decide) J J (Xk (eq_all (by omega) hl hp_A).symm))
 ·have hb : decide (((els xs).length : Int) ≠ ((els ys).length : Int)) = true := by rw [hlx,hly]; simp; omega
  refine Con.of Tryz.func73 J Tryz.ntmps73 J (fun E => ?_)
  refine zy (M1 (Qq J J J J) J J (M1 (Qq J J J J) J J (z1 J (zz (Qd (zy (z2 J J J (z3 J ?_))))))));refine zx (Zu J J J) J (z2 J J J (z3 J (zx (Zu J J J) J (z9f J (by assumption) (zz (Qm J (zy (z1 J (Qe ?_)))))))));refine Q0 (Xa (T_r (F_r ?_)))
  exact Xp J J (X3 [] (by decide) J J (Xk (eq_len hl).symm))
end
end Go.Proofs.YtmljakmaffbnlaaGreat
