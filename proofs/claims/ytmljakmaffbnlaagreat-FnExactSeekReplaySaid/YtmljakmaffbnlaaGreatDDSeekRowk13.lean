/-
  ReadWorld of the reference.
  Conditions: texts of at most 2^40 bytes, a level of at most 2^20 rows.
  KeyAt, in the program and in the reference.
  Conditions: a replay of at most 2^20 pieces.
  PlayReplay, in the program and in the reference.
  Conditions: a replay of at most 2^20 pieces.
  SeekReplay, in the program and in the reference.
  Conditions: a replay of at most 2^20 pieces.
  Marks of worlds and spectators. No statement of the program is proved here.
  Conditions: lists of at most 2^20 elements.
  The law FnExactSeekReplay returns true.
  Conditions: none.
  The kit's readings of the laws' structs as Lean data. No statement of the program is proved here.
  Conditions: none.
-/
import Derived.Test.YtmljakmaffbnlaaGreatDDSeekRowk8
import Derived.Test.YtmljakmaffbnlaaGreatDDSeekRowk10
import Derived.Test.YtmljakmaffbnlaaGreatDDSeekRowk12
set_option linter.unusedSimpArgs false
set_option linter.unusedVariables false
set_option maxRecDepth 8000
namespace Go.Proofs.YtmljakmaffbnlaaGreat
section
open Go.RowKit

theorem row6 {a b c d e : Ob} {k : Nat} {x y : List (List T)} (h : x = y) : [a,b,c,d,e,Ob.row k x] = [a,b,c,d,e,Ob.row k y] := by rw [h]
theorem plain_dt (l : List Int) (a b : Nat) : plainT (((els l).take a).drop b) := fun e he => els_plain l e (List.mem_of_mem_take (List.mem_of_mem_drop he))
theorem k_dt (l : List Int) (a b : Nat) : ∀ e ∈ ((els l).take a).drop b,e.length = 1 := fun e he => els_k l e (List.mem_of_mem_take (List.mem_of_mem_drop he))
theorem world_bytes_eq {lv : TLevel} {s : ByteArray} {l : List Int} {pos : Nat} (hu : unpackInts s 0 = some (l,pos)) (hp : pos = s.size) (hf : formOk l) : worldBytes (worldOf lv l) = s ↔ worldOk (worldOf lv l) = true := by
 have hcn := unpackInts_canon hu
 have hb := bytesL_all s pos (by omega)
 have hs : packInts l = s := by rw [hcn]; exact hb.2 hp
 cases ho : worldOk (worldOf lv l) with
 | true =>
  rw [show worldBytes (worldOf lv l) = packInts (worldInts (worldOf lv l)) by rw [worldBytes,ho]; exact if_pos rfl,worldOf_ints hf]
  exact ⟨fun _ => rfl,fun _ => hs⟩
 | false =>
  rw [show worldBytes (worldOf lv l) = ⟨#[]⟩ by rw [worldBytes,ho]; exact if_neg (by decide)]
  refine ⟨fun h => ?_,fun h => by cases h⟩
  have h1 := (unpackInts_some hu).2.1
  rw [hp,← h] at h1
  exact absurd h1 (by decide)
theorem body_cells {l rest : List Int} {c q : Nat} (hr : rest = l.drop c) : Enc.e (bodyOf (rest.drop (9 * q))) = [.v (.int .i64 (l.getD (c + 9 * q + 0) 0)),.v (.int .i64 (l.getD (c + 9 * q + 1) 0)),.v (.int .i64 (l.getD (c + 9 * q + 2) 0)),.v (.int .i64 (l.getD (c + 9 * q + 3) 0)),.v (.int .i64 (l.getD (c + 9 * q + 4) 0)),.v (.int .i64 (l.getD (c + 9 * q + 5) 0)),.v (.int .i64 (l.getD (c + 9 * q + 6) 0)),.v (.int .i64 (l.getD (c + 9 * q + 7) 0)),.v (.int .i64 (l.getD (c + 9 * q + 8) 0))] := by
 have h : ∀ j,(rest.drop (9 * q)).getD j 0 = l.getD (c + 9 * q + j) 0 := fun j => by
  rw [hr,List.drop_drop,List.getD_eq_getElem?_getD,List.getD_eq_getElem?_getD,List.getElem?_drop]
 show [T.v (.int .i64 ((rest.drop (9 * q)).getD 0 0)),.v (.int .i64 ((rest.drop (9 * q)).getD 1 0)),.v (.int .i64 ((rest.drop (9 * q)).getD 2 0)),.v (.int .i64 ((rest.drop (9 * q)).getD 3 0)),.v (.int .i64 ((rest.drop (9 * q)).getD 4 0)),.v (.int .i64 ((rest.drop (9 * q)).getD 5 0)),.v (.int .i64 ((rest.drop (9 * q)).getD 6 0)),.v (.int .i64 ((rest.drop (9 * q)).getD 7 0)),.v (.int .i64 ((rest.drop (9 * q)).getD 8 0))] = _
 simp only [h]
set_option maxHeartbeats 8000000 in
theorem S_ReadWorld (lv : TLevel) (s : ByteArray) (hg : Enc.gd lv) (hL : lv.Rows.length ≤ 1048576) (hs : s.size ≤ 1099511627776) : Con Tryz.prog 71 [] [ag lv,astr s] (ownO (Enc.e (rwW (readWorld lv s)))) (.tu [.ag (ownV 0 (Enc.e (rwW (readWorld lv s)))),.c (bv (rwB (readWorld lv s)))]) := by
 have hui := S_UnpackInts s 0 hs ⟨by omega,by omega⟩
 cases hu : unpackInts s 0 with
 | none =>
  rw [hu] at hui
  rw [readWorld_none hu]
  refine Con.of Tryz.func71 J Tryz.ntmps71 J (fun E => ?_)
  refine zy (M1 (Qq J J J J) J J (M1 (Qx J J J) J J (z1 J (zz (zy (z0 J ?_))))));refine M1 (q_call J J (hui) J J J) J J ?_;refine zx (Q8 J J J) J (ze J (ze J (ze J (z1 J (z1 J (z1 J (zz (Qd (zy ?_)))))))));refine z0 J (zn J (z0 J (z6 J (z6 J (z6 J (z6 J (zpT J (z0 J (z6 J (z6 J (z6 J ?_)))))))))));refine zpT J (z0 J (z6 J (z6 J (z6 J (z6 J (z6 J (zpT J (z0 J (z6 J (z6 J (z6 J ?_)))))))))));refine z6 J (z6 J (z6 J (z6 J (zpT J (z0 J (z6 J (z6 J (z6 J (z6 J (z6 J (z6 J ?_)))))))))));refine z6 J (z6 J (z6 J (zpT J (zz (Qm J (zy (zx (q_build J J J J J) J ?_)))))));refine Qy J J J J J J J J J (z1 J (zz (Xa (T_r (F_r ?_)))))
  exact E_cellt J J J J J (W_fill [1,1,9] [3,4,5] J J (by decide) J J J)
 | some r =>
  obtain ⟨l,pos⟩ := r
  rw [hu] at hui
  obtain ⟨_,hu1,hu2,hu3,hu4⟩ := unpackInts_some hu
  have hll := els_len l
  by_cases c1 : (pos : Int) ≠ s.size
  ·have hb1 : decide ((pos : Int) ≠ s.size) = true := decide_eq_true c1
   rw [readWorld_no hu (fun hh => by have := hh.1; omega)]
   refine Con.of Tryz.func71 J Tryz.ntmps71 J (fun E => ?_)
   refine zy (M1 (Qq J J J J) J J (M1 (Qx J J J) J J (z1 J (zz (zy (z0 J ?_))))));refine M1 (q_call J J (hui) J J J) J J ?_;refine zx (Q8 J J J) J (ze J (ze J (ze J (z1 J (z1 J (z1 J (zz (Qd (zy ?_)))))))));refine z0 J (zn J (z0 J (z5 J (z0 J (z5 J (z0 J (z5 J (zx (q_lens J J J) J (z5 J (z9f J (by assumption) (zpF J ?_)))))))))));refine z0 J (z6 J (z6 J (z6 J (zpT J (z0 J (z6 J (z6 J (z6 J (z6 J (z6 J (zpT J ?_)))))))))));refine z0 J (z6 J (z6 J (z6 J (z6 J (z6 J (z6 J (z6 J (zpT J (z0 J (z6 J (z6 J ?_)))))))))));refine z6 J (z6 J (z6 J (z6 J (z6 J (z6 J (z6 J (zpT J (zz (Qm J (Qd ?_))))))))));refine Qc (zx (q_build J J J J J) J ?_);refine Qy J J J J J J J J J (z1 J (zz (Xa (T_r (F_r ?_)))))
   exact E_cellt J J J J J (W_fill [1,1,9] [3,4,5] J J (by decide) J J J)
  have hb1 : decide ((pos : Int) ≠ s.size) = false := decide_eq_false c1
  by_cases c2 : ((els l).length : Int) < 3
  ·have hb2 : decide (((els l).length : Int) < 3) = true := decide_eq_true c2
   rw [readWorld_no hu (fun hh => by have := hh.2.1.1; omega)]
   refine Con.of Tryz.func71 J Tryz.ntmps71 J (fun E => ?_)
   refine zy (M1 (Qq J J J J) J J (M1 (Qx J J J) J J (z1 J (zz (zy (z0 J ?_))))));refine M1 (q_call J J (hui) J J J) J J ?_;refine zx (Q8 J J J) J (ze J (ze J (ze J (z1 J (z1 J (z1 J (zz (Qd (zy ?_)))))))));refine z0 J (zn J (z0 J (z5 J (z0 J (z5 J (z0 J (z5 J (zx (q_lens J J J) J (z5 J (z9f J (by assumption) (zpF J ?_)))))))))));refine z0 J (z5 J (z0 J (z5 J (zx (q_lenr J J J J) J (z5 J (z9a J (by assumption) (zpF J (z0 J (z6 J (z6 J (z6 J ?_)))))))))));refine z6 J (z6 J (zpT J (z0 J (z6 J (z6 J (z6 J (z6 J (z6 J (z6 J (z6 J (zpT J ?_)))))))))));refine z0 J (z6 J (z6 J (z6 J (z6 J (z6 J (z6 J (z6 J (z6 J (z6 J (zpT J (Qe ?_)))))))))));refine Q0 (Qm J (zy (zx (q_build J J J J J) J ?_)));refine Qy J J J J J J J J J (z1 J (zz (Xa (T_r (F_r ?_)))))
   exact E_cellt J J J J J (W_fill [1,1,9] [3,4,5] J J (by decide) J J J)
  have hb2 : decide (((els l).length : Int) < 3) = false := decide_eq_false c2
  have ha0 := els_getD (l := l) (j := 0) (by omega) 0 rfl
  have ha1 := els_getD (l := l) (j := 1) (by omega) 1 rfl
  have ha2 := els_getD (l := l) (j := 2) (by omega) 2 rfl
  obtain ⟨l2,hl2⟩ : ∃ l2,l.getD 2 0 = l2 := ⟨_,rfl⟩
  rw [hl2] at ha2
  have hbt := S_in l2 1 4
  by_cases hin : inR l2 1 4 = true
  case neg =>
   have hf : inR l2 1 4 = false := by simpa using hin
   rw [hf] at hbt
   rw [readWorld_no hu (fun hh => by have := hh.2.1.2.1; rw [hl2,← inR_iff] at this; exact hin this)]
   refine Con.of Tryz.func71 J Tryz.ntmps71 J (fun E => ?_)
   refine zy (M1 (Qq J J J J) J J (M1 (Qx J J J) J J (z1 J (zz (zy (z0 J ?_))))));refine M1 (q_call J J (hui) J J J) J J ?_;refine zx (Q8 J J J) J (ze J (ze J (ze J (z1 J (z1 J (z1 J (zz (Qd (zy ?_)))))))));refine z0 J (zn J (z0 J (z5 J (z0 J (z5 J (z0 J (z5 J (zx (q_lens J J J) J (z5 J (z9f J (by assumption) (zpF J ?_)))))))))));refine z0 J (z5 J (z0 J (z5 J (zx (q_lenr J J J J) J (z5 J (z9a J (by assumption) (zpF J (z0 J (z5 J (z0 J (z5 J ?_)))))))))));refine zx (Q3 J J J J J (by omega) (by omega)) J (z5 J (zx (Q7 J J J J (by assumption) J) J (z5 J ?_)));refine zx (Qj J J (hbt) J) J ?_;refine z5 J (zn J (zpF J (z0 J (z6 J (z6 J (z6 J (z6 J (z6 J (z6 J (z6 J (zpT J ?_)))))))))));refine z0 J (z6 J (z6 J (z6 J (z6 J (z6 J (z6 J (z6 J (z6 J (z6 J (zpT J (Qe ?_)))))))))));refine Q0 (Qm J (zy (zx (q_build J J J J J) J ?_)));refine Qy J J J J J J J J J (z1 J (zz (Xa (T_r (F_r ?_)))))
   exact E_cellt J J J J J (W_fill [1,1,9] [3,4,5] J J (by decide) J J J)
  rw [hin] at hbt
  have hin2 := inR_iff.1 hin
  obtain ⟨p,rfl⟩ : ∃ p : Nat,l2 = p := ⟨l2.toNat,by omega⟩
  by_cases c4 : ((els l).length : Int) < 3 + (p : Int)
  ·have hb4 : decide (((els l).length : Int) < 3 + (p : Int)) = true := decide_eq_true c4
   rw [readWorld_no hu (fun hh => by have := hh.2.1.2.2.1; omega)]
   refine Con.of Tryz.func71 J Tryz.ntmps71 J (fun E => ?_)
   refine zy (M1 (Qq J J J J) J J (M1 (Qx J J J) J J (z1 J (zz (zy (z0 J ?_))))));refine M1 (q_call J J (hui) J J J) J J ?_;refine zx (Q8 J J J) J (ze J (ze J (ze J (z1 J (z1 J (z1 J (zz (Qd (zy ?_)))))))));refine z0 J (zn J (z0 J (z5 J (z0 J (z5 J (z0 J (z5 J (zx (q_lens J J J) J (z5 J (z9f J (by assumption) (zpF J ?_)))))))))));refine z0 J (z5 J (z0 J (z5 J (zx (q_lenr J J J J) J (z5 J (z9a J (by assumption) (zpF J (z0 J (z5 J (z0 J (z5 J ?_)))))))))));refine zx (Q3 J J J J J (by omega) (by omega)) J (z5 J (zx (Q7 J J J J (by assumption) J) J (z5 J ?_)));refine zx (Qj J J (hbt) J) J ?_;refine z5 J (zn J (zpF J (z0 J (z5 J (z0 J (z5 J (zx (q_lenr J J J J) J (z5 J (z0 J (z5 J (zx (Q3 J J J J J (by omega) (by omega)) J ?_)))))))))));refine z5 J (zx (Q7 J J J J (by assumption) J) J (z5 J (z7 J (by omega) (z5 J (z9a J (by assumption) (zpF J (z0 J (z6 J (z6 J (z6 J (z6 J ?_)))))))))));refine z6 J (z6 J (z6 J (z6 J (z6 J (zpT J (zz (Qm J (zy (zx (q_build J J J J J) J ?_)))))))));refine Qy J J J J J J J J J (z1 J (zz (Xa (T_r (F_r ?_)))))
   exact E_cellt J J J J J (W_fill [1,1,9] [3,4,5] J J (by decide) J J J)
  have hb4 : decide (((els l).length : Int) < 3 + (p : Int)) = false := decide_eq_false c4
  by_cases c5 : (((els l).length : Int) - 3 - (p : Int)) % 9 ≠ 0
  ·have hb5 : decide ((((els l).length : Int) - 3 - (p : Int)) % 9 ≠ 0) = true := decide_eq_true c5
   rw [readWorld_no hu (fun hh => by have := hh.2.1.2.2.2; rw [hl2] at this; omega)]
   refine Con.of Tryz.func71 J Tryz.ntmps71 J (fun E => ?_)
   refine zy (M1 (Qq J J J J) J J (M1 (Qx J J J) J J (z1 J (zz (zy (z0 J ?_))))));refine M1 (q_call J J (hui) J J J) J J ?_;refine zx (Q8 J J J) J (ze J (ze J (ze J (z1 J (z1 J (z1 J (zz (Qd (zy ?_)))))))));refine z0 J (zn J (z0 J (z5 J (z0 J (z5 J (z0 J (z5 J (zx (q_lens J J J) J (z5 J (z9f J (by assumption) (zpF J ?_)))))))))));refine z0 J (z5 J (z0 J (z5 J (zx (q_lenr J J J J) J (z5 J (z9a J (by assumption) (zpF J (z0 J (z5 J (z0 J (z5 J ?_)))))))))));refine zx (Q3 J J J J J (by omega) (by omega)) J (z5 J (zx (Q7 J J J J (by assumption) J) J (z5 J ?_)));refine zx (Qj J J (hbt) J) J ?_;refine z5 J (zn J (zpF J (z0 J (z5 J (z0 J (z5 J (zx (q_lenr J J J J) J (z5 J (z0 J (z5 J (zx (Q3 J J J J J (by omega) (by omega)) J ?_)))))))))));refine z5 J (zx (Q7 J J J J (by assumption) J) J (z5 J (z7 J (by omega) (z5 J (z9a J (by assumption) (zpF J (z0 J (z5 J (z0 J (z5 J (zx (q_lenr J J J J) J ?_)))))))))));refine z5 J (z8 J (by omega) (z5 J (z0 J (z5 J (zx (Q3 J J J J J (by omega) (by omega)) J (z5 J (zx (Q7 J J J J (by assumption) J) J (z5 J (z8 J (by omega) (z5 J (zx (q_rem J J J J (by omega)) J ?_)))))))))));refine z5 J (z9f J (by assumption) (zpF J (zz (Qm J (zy (zx (q_build J J J J J) J ?_))))));refine Qy J J J J J J J J J (z1 J (zz (Xa (T_r (F_r ?_)))))
   exact E_cellt J J J J J (W_fill [1,1,9] [3,4,5] J J (by decide) J J J)
  have hb5 : decide ((((els l).length : Int) - 3 - (p : Int)) % 9 ≠ 0) = false := decide_eq_false c5
  obtain ⟨rest,hrest⟩ : ∃ rest,rest = l.drop (3 + p) := ⟨_,rfl⟩
  have hrl : rest.length = l.length - (3 + p) := by rw [hrest]; simp
  obtain ⟨nb,hn⟩ : ∃ nb,rest.length = 9 * nb := ⟨rest.length / 9,by omega⟩
  have hform : formOk l := ⟨by omega,by rw [hl2]; exact hin2,by rw [hl2]; omega,by rw [hl2]; omega⟩
  have hwo : worldOf lv l = ⟨lv,l.getD 0 0,l.getD 1 0,(l.drop 3).take p,bodiesOf rest nb⟩ := by
   rw [worldOf,hl2,Int.toNat_natCast,← hrest,show (l.length - 3 - p) / 9 = nb by omega]
  have hwg := worldOf_gd (lv := lv) hg hu4 (by omega)
  rw [hwo] at hwg
  have hwb := world_bytes_eq (lv := lv) hu (by omega) hform
  rw [hwo] at hwb
  have hpl : ((((els l).take ((3 : Int) + (p : Int)).toNat).drop (3 : Int).toNat)).length = p := by
   rw [List.length_drop,List.length_take,hll]; omega
  have hsc : els ((l.drop 3).take p) = (((els l).take ((3 : Int) + (p : Int)).toNat).drop (3 : Int).toNat) := by
   rw [show ((3 : Int) + (p : Int)).toNat = 3 + p by omega,show (3 : Int).toNat = 3 from rfl,List.drop_take,← els_dropE,← els_takeE2,show 3 + p - 3 = p by omega]
  refine Con.of Tryz.func71 J Tryz.ntmps71 J (fun E => ?_)
  refine zy (M1 (Qq J J J J) J J (M1 (Qx J J J) J J (z1 J (zz (zy (z0 J ?_))))));refine M1 (q_call J J (hui) J J J) J J ?_;refine zx (Q8 J J J) J (ze J (ze J (ze J (z1 J (z1 J (z1 J (zz (Qd (zy ?_)))))))));refine z0 J (zn J (z0 J (z5 J (z0 J (z5 J (z0 J (z5 J (zx (q_lens J J J) J (z5 J (z9f J (by assumption) (zpF J ?_)))))))))));refine z0 J (z5 J (z0 J (z5 J (zx (q_lenr J J J J) J (z5 J (z9a J (by assumption) (zpF J (z0 J (z5 J (z0 J (z5 J ?_)))))))))));refine zx (Q3 J J J J J (by omega) (by omega)) J (z5 J (zx (Q7 J J J J (by assumption) J) J (z5 J ?_)));refine zx (Qj J J (hbt) J) J ?_;refine z5 J (zn J (zpF J (z0 J (z5 J (z0 J (z5 J (zx (q_lenr J J J J) J (z5 J (z0 J (z5 J (zx (Q3 J J J J J (by omega) (by omega)) J ?_)))))))))));refine z5 J (zx (Q7 J J J J (by assumption) J) J (z5 J (z7 J (by omega) (z5 J (z9a J (by assumption) (zpF J (z0 J (z5 J (z0 J (z5 J (zx (q_lenr J J J J) J ?_)))))))))));refine z5 J (z8 J (by omega) (z5 J (z0 J (z5 J (zx (Q3 J J J J J (by omega) (by omega)) J (z5 J (zx (Q7 J J J J (by assumption) J) J (z5 J (z8 J (by omega) (z5 J (zx (q_rem J J J J (by omega)) J ?_)))))))))));refine z5 J (z9f J (by assumption) (zpF J (zz (Ql J (Qh (Q0 (zy (z0 J (zx (Q3 J J J J J (by omega) (by omega)) J ?_)))))))));refine zx (Q7 J J J J (by assumption) J) J (z7 J (by omega) (z1 J (zz (Qd (A_draw [[],[0],[],[2],[2,3],[],[5],[5,6],[],[],[],[9,10],[0,1,8,9,10,11],(u9 13),[],(u9 15)] [[],[63],[],[65],[65,66],[],[68],[68,69],[],[],[],[72,73],[63,64,71,72,73,74],[63,64,65,66,67,68,69,70,71,72,73,74,75],[],[10,63,64,65,66,67,68,69,70,71,72,73,74,75,76]] [[10,65,66,67,68,69,70,71,72,73,74],[10,65,66,67,68,69,70,71,72,73,74],[10,63,64,68,69,70,71,72,73,74,75],[10,63,64,68,69,70,71,72,73,74,75],[10,63,64,68,69,70,71,72,73,74,75],[10,63,64,65,66,67,71,72,73,74,75],[10,63,64,65,66,67,71,72,73,74,75],[10,63,64,65,66,67,71,72,73,74,75],[10,63,64,65,66,67,68,69,70,72,73,74],[10,63,64,65,66,67,68,69,70,71,73],[10,63,64,65,66,67,68,69,70,71,72],[10,63,64,65,66,67,68,69,70,71],[10,65,66,67,68,69,70],[10],[63,64,65,66,67,68,69,70,71,72,73,74,75,76],[]] J (DR.s (Qu J J J J J J) J J ?_))))));refine DR.s (q_call J J (S_copyLevel lv hg hL) J J J) J J ?_;refine DR.s (Qa J J J) J J (DR.s (Q3 J J J J J (by omega) (by omega)) J J (DR.s (Q7 J J J J (by assumption) J) J J (DR.s (Qa J J J) J J (DR.s (Q3 J J J J J (by omega) (by omega)) J J (DR.s (Q7 J J J J (by assumption) J) J J (DR.s (q_bslicez J J J) J J (DR.s (Qa J J J) J J (DR.s (Qa J J J) J J (DR.s (q_partr J J J J J J J (by omega)) J J ?_)))))))));refine DR.s (q_appz J J J J J J (plain_dt _ _ _) (k_dt _ _ _) (by omega) (by omega) (by omega)) J J ?_;refine DR.s (q_build J J J J J) J J (DR.s (Qx J J J) J J (DR.stop (by kernel_rfl) (by kernel_rfl) ?_));refine AL.weak (st' := (⟨_,[(1,S s),(4,.o (.c (.ptr 1 0))),(6,.o (.c (.ref 2))),(9,I (3 + (p : Int))),(10,.o (.c (.ptr 4 0))),(76,.o (.ag [.ref 3,jv (l.getD 0 0),jv (l.getD 1 0),.ref 5,nilV]))],[.box ((Enc.e lv).map (V1.rd [])),.box [nilV,jv 0,jv 0,nilV,nilV],.row 1 (els l),.row 1 (els lv.Rows),.box [nilV,jv 0,jv 0,nilV,nilV],.row 1 (els ((l.drop 3).take p))]⟩ : St)) (W_go [0,1,2,3,6,5] (by decide) J (row6 hsc) (.c J (.c J (.c J (.c J (.c J (.c J (.nil)))))))) ?_;refine AL.weak (Wk.refl _) ?_;refine Qy J J J J J J J J J (zz (Qd (zy (z0 J (z1 J (zz (Qk ?_)))))))
  refine AWP.pre ?_ (Wk.nilbox (p := 4) (i := 4) 9 J J)
  skip
  refine A_loop (fun m st => ∃ q : Nat,q + m = nb ∧ (True) ∧ st = (fun q : Nat => (⟨_,[(1,S s),(4,.o (.c (.ptr 1 0))),(6,.o (.c (.ref 2))),(10,.o (.c (.ptr 4 0))),(11,I ((3 + p + 9 * q : Nat) : Int))],[.box ((Enc.e lv).map (V1.rd [])),.box [nilV,jv 0,jv 0,nilV,nilV],.row 1 (els l),.row 1 (els lv.Rows),.box [.ref 3,jv (l.getD 0 0),jv (l.getD 1 0),.ref 5,.ref 6],.row 1 (els ((l.drop 3).take p)),.row 9 (els (bodiesOf rest q))]⟩ : St)) q) (nb) ⟨(fun q : Nat => (⟨_,[(1,S s),(4,.o (.c (.ptr 1 0))),(6,.o (.c (.ref 2))),(10,.o (.c (.ptr 4 0))),(11,I ((3 + p + 9 * q : Nat) : Int))],[.box ((Enc.e lv).map (V1.rd [])),.box [nilV,jv 0,jv 0,nilV,nilV],.row 1 (els l),.row 1 (els lv.Rows),.box [.ref 3,jv (l.getD 0 0),jv (l.getD 1 0),.ref 5,.ref 6],.row 1 (els ((l.drop 3).take p)),.row 9 (els (bodiesOf rest q))]⟩ : St)) 0,W_go [0,1,2,3,4,5,6] (by decide) J (J) (.c J (.c J (.c J (.c J (.cons (I_eq (by omega)) (.nil)))))),0,by omega,trivial,J⟩ ?_
  rintro m_A _ ⟨q,hk_A,hp_A,rfl⟩
  have hlbk := els_len (bodiesOf rest q)
  have hlbk2 := bodiesOf_len rest q
  by_cases h4 : ((3 + p + 9 * q : Nat) : Int) < (els l).length
  ·have hb6 : decide (((3 + p + 9 * q : Nat) : Int) < (els l).length) = true := decide_eq_true h4
   have hc0 := els_getD (l := l) (j := 3 + p + 9 * q + 0) (by omega) (((3 + p + 9 * q : Nat) : Int)) (by omega)
   have hc1 := els_getD (l := l) (j := 3 + p + 9 * q + 1) (by omega) (((3 + p + 9 * q : Nat) : Int) + 1) (by omega)
   have hc2 := els_getD (l := l) (j := 3 + p + 9 * q + 2) (by omega) (((3 + p + 9 * q : Nat) : Int) + 2) (by omega)
   have hc3 := els_getD (l := l) (j := 3 + p + 9 * q + 3) (by omega) (((3 + p + 9 * q : Nat) : Int) + 3) (by omega)
   have hc4 := els_getD (l := l) (j := 3 + p + 9 * q + 4) (by omega) (((3 + p + 9 * q : Nat) : Int) + 4) (by omega)
   have hc5 := els_getD (l := l) (j := 3 + p + 9 * q + 5) (by omega) (((3 + p + 9 * q : Nat) : Int) + 5) (by omega)
   have hc6 := els_getD (l := l) (j := 3 + p + 9 * q + 6) (by omega) (((3 + p + 9 * q : Nat) : Int) + 6) (by omega)
   have hc7 := els_getD (l := l) (j := 3 + p + 9 * q + 7) (by omega) (((3 + p + 9 * q : Nat) : Int) + 7) (by omega)
   have hc8 := els_getD (l := l) (j := 3 + p + 9 * q + 8) (by omega) (((3 + p + 9 * q : Nat) : Int) + 8) (by omega)
   have hbc := body_cells (q := q) hrest
   have hq24 : (els (bodiesOf rest q)).length ≤ 1099511627776 := by omega
   have hlt : ((3 + p + 9 * q : Nat) : Int) + 9 ≤ (els l).length := by omega
   have hidx : (3 + p + 9 * q : Nat) ≤ 1099511627776 := by omega
   have hqnb : q < nb := by omega
   clear hwg hwo hwb hform hsc hbt hin2 hin ha0 ha1 ha2 hl2 hb1 hb2 hb4 hb5 c1 c2 c4 c5 hu1 hu2 hu3 hu4 hui hpl hrl hn hll hlbk hlbk2 hp_A
   refine Qd (zy (z0 J (z0 J (zx (q_lenr J J J J) J (z9a J (by assumption) (zz (Qm J (Qh (Q0 ?_)))))))));refine Qd (Qk (A_draw [[],[0],[],[],[2,3],[2,3,4],[],[],[7],[6,7,8],[6,7,8,9],[],[],[12],[11,12,13],[11,12,13,14],[],[],[17],[16,17,18],[16,17,18,19],[],[],[22],[21,22,23],[21,22,23,24],[],[],[27],[26,27,28],[26,27,28,29],[],[],[32],[31,32,33],[31,32,33,34],[],[],[37],[36,37,38],[36,37,38,39],[],[],[42],[41,42,43],[41,42,43,44],[2,3,4,5,6,7,8,9,10,11,12,13,14,15,16,17,18,19,20,21,22,23,24,25,26,27,28,29,30,31,32,33,34,35,36,37,38,39,40,41,42,43,44,45],[2,3,4,5,6,7,8,9,10,11,12,13,14,15,16,17,18,19,20,21,22,23,24,25,26,27,28,29,30,31,32,33,34,35,36,37,38,39,40,41,42,43,44,45,46],(u9 48),(u9 49),(u9 50)] [[],[84],[],[],[86,87],[86,87,88],[],[],[91],[90,91,92],[90,91,92,93],[],[],[96],[95,96,97],[95,96,97,98],[],[],[101],[100,101,102],[100,101,102,103],[],[],[106],[105,106,107],[105,106,107,108],[],[],[111],[110,111,112],[110,111,112,113],[],[],[116],[115,116,117],[115,116,117,118],[],[],[121],[120,121,122],[120,121,122,123],[],[],[126],[125,126,127],[125,126,127,128],[86,87,88,89,90,91,92,93,94,95,96,97,98,99,100,101,102,103,104,105,106,107,108,109,110,111,112,113,114,115,116,117,118,119,120,121,122,123,124,125,126,127,128,129],[86,87,88,89,90,91,92,93,94,95,96,97,98,99,100,101,102,103,104,105,106,107,108,109,110,111,112,113,114,115,116,117,118,119,120,121,122,123,124,125,126,127,128,129,130],[84,85,86,87,88,89,90,91,92,93,94,95,96,97,98,99,100,101,102,103,104,105,106,107,108,109,110,111,112,113,114,115,116,117,118,119,120,121,122,123,124,125,126,127,128,129,130,131],[84,85,86,87,88,89,90,91,92,93,94,95,96,97,98,99,100,101,102,103,104,105,106,107,108,109,110,111,112,113,114,115,116,117,118,119,120,121,122,123,124,125,126,127,128,129,130,131,132],[84,85,86,87,88,89,90,91,92,93,94,95,96,97,98,99,100,101,102,103,104,105,106,107,108,109,110,111,112,113,114,115,116,117,118,119,120,121,122,123,124,125,126,127,128,129,130,131,132,133]] [[86,87,88,89,90,91,92,93,94,95,96,97,98,99,100,101,102,103,104,105,106,107,108,109,110,111,112,113,114,115,116,117,118,119,120,121,122,123,124,125,126,127,128,129,130,131],[86,87,88,89,90,91,92,93,94,95,96,97,98,99,100,101,102,103,104,105,106,107,108,109,110,111,112,113,114,115,116,117,118,119,120,121,122,123,124,125,126,127,128,129,130,131],[84,85,87,90,91,92,93,94,95,96,97,98,99,100,101,102,103,104,105,106,107,108,109,110,111,112,113,114,115,116,117,118,119,120,121,122,123,124,125,126,127,128,129],[84,85,86,90,91,92,93,94,95,96,97,98,99,100,101,102,103,104,105,106,107,108,109,110,111,112,113,114,115,116,117,118,119,120,121,122,123,124,125,126,127,128,129],[84,85,90,91,92,93,94,95,96,97,98,99,100,101,102,103,104,105,106,107,108,109,110,111,112,113,114,115,116,117,118,119,120,121,122,123,124,125,126,127,128,129],[84,85,90,91,92,93,94,95,96,97,98,99,100,101,102,103,104,105,106,107,108,109,110,111,112,113,114,115,116,117,118,119,120,121,122,123,124,125,126,127,128,129],[84,85,86,87,88,89,91,92,95,96,97,98,99,100,101,102,103,104,105,106,107,108,109,110,111,112,113,114,115,116,117,118,119,120,121,122,123,124,125,126,127,128,129],[84,85,86,87,88,89,90,95,96,97,98,99,100,101,102,103,104,105,106,107,108,109,110,111,112,113,114,115,116,117,118,119,120,121,122,123,124,125,126,127,128,129],[84,85,86,87,88,89,90,95,96,97,98,99,100,101,102,103,104,105,106,107,108,109,110,111,112,113,114,115,116,117,118,119,120,121,122,123,124,125,126,127,128,129],[84,85,86,87,88,89,95,96,97,98,99,100,101,102,103,104,105,106,107,108,109,110,111,112,113,114,115,116,117,118,119,120,121,122,123,124,125,126,127,128,129],[84,85,86,87,88,89,95,96,97,98,99,100,101,102,103,104,105,106,107,108,109,110,111,112,113,114,115,116,117,118,119,120,121,122,123,124,125,126,127,128,129],[84,85,86,87,88,89,90,91,92,93,94,96,97,100,101,102,103,104,105,106,107,108,109,110,111,112,113,114,115,116,117,118,119,120,121,122,123,124,125,126,127,128,129],[84,85,86,87,88,89,90,91,92,93,94,95,100,101,102,103,104,105,106,107,108,109,110,111,112,113,114,115,116,117,118,119,120,121,122,123,124,125,126,127,128,129],[84,85,86,87,88,89,90,91,92,93,94,95,100,101,102,103,104,105,106,107,108,109,110,111,112,113,114,115,116,117,118,119,120,121,122,123,124,125,126,127,128,129],[84,85,86,87,88,89,90,91,92,93,94,100,101,102,103,104,105,106,107,108,109,110,111,112,113,114,115,116,117,118,119,120,121,122,123,124,125,126,127,128,129],[84,85,86,87,88,89,90,91,92,93,94,100,101,102,103,104,105,106,107,108,109,110,111,112,113,114,115,116,117,118,119,120,121,122,123,124,125,126,127,128,129],[84,85,86,87,88,89,90,91,92,93,94,95,96,97,98,99,101,102,105,106,107,108,109,110,111,112,113,114,115,116,117,118,119,120,121,122,123,124,125,126,127,128,129],[84,85,86,87,88,89,90,91,92,93,94,95,96,97,98,99,100,105,106,107,108,109,110,111,112,113,114,115,116,117,118,119,120,121,122,123,124,125,126,127,128,129],[84,85,86,87,88,89,90,91,92,93,94,95,96,97,98,99,100,105,106,107,108,109,110,111,112,113,114,115,116,117,118,119,120,121,122,123,124,125,126,127,128,129],[84,85,86,87,88,89,90,91,92,93,94,95,96,97,98,99,105,106,107,108,109,110,111,112,113,114,115,116,117,118,119,120,121,122,123,124,125,126,127,128,129],[84,85,86,87,88,89,90,91,92,93,94,95,96,97,98,99,105,106,107,108,109,110,111,112,113,114,115,116,117,118,119,120,121,122,123,124,125,126,127,128,129],[84,85,86,87,88,89,90,91,92,93,94,95,96,97,98,99,100,101,102,103,104,106,107,110,111,112,113,114,115,116,117,118,119,120,121,122,123,124,125,126,127,128,129],[84,85,86,87,88,89,90,91,92,93,94,95,96,97,98,99,100,101,102,103,104,105,110,111,112,113,114,115,116,117,118,119,120,121,122,123,124,125,126,127,128,129],[84,85,86,87,88,89,90,91,92,93,94,95,96,97,98,99,100,101,102,103,104,105,110,111,112,113,114,115,116,117,118,119,120,121,122,123,124,125,126,127,128,129],[84,85,86,87,88,89,90,91,92,93,94,95,96,97,98,99,100,101,102,103,104,110,111,112,113,114,115,116,117,118,119,120,121,122,123,124,125,126,127,128,129],[84,85,86,87,88,89,90,91,92,93,94,95,96,97,98,99,100,101,102,103,104,110,111,112,113,114,115,116,117,118,119,120,121,122,123,124,125,126,127,128,129],[84,85,86,87,88,89,90,91,92,93,94,95,96,97,98,99,100,101,102,103,104,105,106,107,108,109,111,112,115,116,117,118,119,120,121,122,123,124,125,126,127,128,129],[84,85,86,87,88,89,90,91,92,93,94,95,96,97,98,99,100,101,102,103,104,105,106,107,108,109,110,115,116,117,118,119,120,121,122,123,124,125,126,127,128,129],[84,85,86,87,88,89,90,91,92,93,94,95,96,97,98,99,100,101,102,103,104,105,106,107,108,109,110,115,116,117,118,119,120,121,122,123,124,125,126,127,128,129],[84,85,86,87,88,89,90,91,92,93,94,95,96,97,98,99,100,101,102,103,104,105,106,107,108,109,115,116,117,118,119,120,121,122,123,124,125,126,127,128,129],[84,85,86,87,88,89,90,91,92,93,94,95,96,97,98,99,100,101,102,103,104,105,106,107,108,109,115,116,117,118,119,120,121,122,123,124,125,126,127,128,129],[84,85,86,87,88,89,90,91,92,93,94,95,96,97,98,99,100,101,102,103,104,105,106,107,108,109,110,111,112,113,114,116,117,120,121,122,123,124,125,126,127,128,129],[84,85,86,87,88,89,90,91,92,93,94,95,96,97,98,99,100,101,102,103,104,105,106,107,108,109,110,111,112,113,114,115,120,121,122,123,124,125,126,127,128,129],[84,85,86,87,88,89,90,91,92,93,94,95,96,97,98,99,100,101,102,103,104,105,106,107,108,109,110,111,112,113,114,115,120,121,122,123,124,125,126,127,128,129],[84,85,86,87,88,89,90,91,92,93,94,95,96,97,98,99,100,101,102,103,104,105,106,107,108,109,110,111,112,113,114,120,121,122,123,124,125,126,127,128,129],[84,85,86,87,88,89,90,91,92,93,94,95,96,97,98,99,100,101,102,103,104,105,106,107,108,109,110,111,112,113,114,120,121,122,123,124,125,126,127,128,129],[84,85,86,87,88,89,90,91,92,93,94,95,96,97,98,99,100,101,102,103,104,105,106,107,108,109,110,111,112,113,114,115,116,117,118,119,121,122,125,126,127,128,129],[84,85,86,87,88,89,90,91,92,93,94,95,96,97,98,99,100,101,102,103,104,105,106,107,108,109,110,111,112,113,114,115,116,117,118,119,120,125,126,127,128,129],[84,85,86,87,88,89,90,91,92,93,94,95,96,97,98,99,100,101,102,103,104,105,106,107,108,109,110,111,112,113,114,115,116,117,118,119,120,125,126,127,128,129],[84,85,86,87,88,89,90,91,92,93,94,95,96,97,98,99,100,101,102,103,104,105,106,107,108,109,110,111,112,113,114,115,116,117,118,119,125,126,127,128,129],[84,85,86,87,88,89,90,91,92,93,94,95,96,97,98,99,100,101,102,103,104,105,106,107,108,109,110,111,112,113,114,115,116,117,118,119,125,126,127,128,129],[84,85,86,87,88,89,90,91,92,93,94,95,96,97,98,99,100,101,102,103,104,105,106,107,108,109,110,111,112,113,114,115,116,117,118,119,120,121,122,123,124,126,127],[84,85,86,87,88,89,90,91,92,93,94,95,96,97,98,99,100,101,102,103,104,105,106,107,108,109,110,111,112,113,114,115,116,117,118,119,120,121,122,123,124,125],[84,85,86,87,88,89,90,91,92,93,94,95,96,97,98,99,100,101,102,103,104,105,106,107,108,109,110,111,112,113,114,115,116,117,118,119,120,121,122,123,124,125],[84,85,86,87,88,89,90,91,92,93,94,95,96,97,98,99,100,101,102,103,104,105,106,107,108,109,110,111,112,113,114,115,116,117,118,119,120,121,122,123,124],[84,85,86,87,88,89,90,91,92,93,94,95,96,97,98,99,100,101,102,103,104,105,106,107,108,109,110,111,112,113,114,115,116,117,118,119,120,121,122,123,124],[84,85],[84,85],[],[],[]] J (DR.s (Qf J J J J (by decide)) J J (DR.s (Qg J J J J J) J J (DR.s (Qa J J J) J J (DR.s (Qa J J J) J J (DR.s (Q3 J J J J J (by omega) (by assumption)) J J (DR.s (Q7 J J J J (by assumption) J) J J (DR.s (Qa J J J) J J (DR.s (Qa J J J) J J (DR.s (Qs J J J J (by omega)) J J ?_)))))))))));refine DR.s (Q3 J J J J J (by omega) (by omega)) J J (DR.s (Q7 J J J J (by assumption) J) J J (DR.s (Qa J J J) J J (DR.s (Qa J J J) J J (DR.s (Qs J J J J (by omega)) J J (DR.s (Q3 J J J J J (by omega) (by omega)) J J (DR.s (Q7 J J J J (by assumption) J) J J (DR.s (Qa J J J) J J (DR.s (Qa J J J) J J (DR.s (Qs J J J J (by omega)) J J (DR.s (Q3 J J J J J (by omega) (by omega)) J J (DR.s (Q7 J J J J (by assumption) J) J J ?_)))))))))));refine DR.s (Qa J J J) J J (DR.s (Qa J J J) J J (DR.s (Qs J J J J (by omega)) J J (DR.s (Q3 J J J J J (by omega) (by omega)) J J (DR.s (Q7 J J J J (by assumption) J) J J (DR.s (Qa J J J) J J (DR.s (Qa J J J) J J (DR.s (Qs J J J J (by omega)) J J (DR.s (Q3 J J J J J (by omega) (by omega)) J J (DR.s (Q7 J J J J (by assumption) J) J J (DR.s (Qa J J J) J J (DR.s (Qa J J J) J J ?_)))))))))));refine DR.s (Qs J J J J (by omega)) J J (DR.s (Q3 J J J J J (by omega) (by omega)) J J (DR.s (Q7 J J J J (by assumption) J) J J (DR.s (Qa J J J) J J (DR.s (Qa J J J) J J (DR.s (Qs J J J J (by omega)) J J (DR.s (Q3 J J J J J (by omega) (by omega)) J J (DR.s (Q7 J J J J (by assumption) J) J J (DR.s (Qa J J J) J J (DR.s (Qa J J J) J J (DR.s (Qs J J J J (by omega)) J J (DR.s (Q3 J J J J J (by omega) (by assumption)) J J ?_)))))))))));refine DR.s (Q7 J J J J (by assumption) J) J J ?_;refine DR.s (x := .o (.ag [jv (l.getD (3 + p + 9 * q + 0) 0),jv (l.getD (3 + p + 9 * q + 1) 0),jv (l.getD (3 + p + 9 * q + 2) 0),jv (l.getD (3 + p + 9 * q + 3) 0),jv (l.getD (3 + p + 9 * q + 4) 0),jv (l.getD (3 + p + 9 * q + 5) 0),jv (l.getD (3 + p + 9 * q + 6) 0),jv (l.getD (3 + p + 9 * q + 7) 0),jv (l.getD (3 + p + 9 * q + 8) 0)])) (q_build J J J J J) J J ?_;refine DR.s (q_bslice J J J J J J) J J (DR.stop (by kernel_rfl) (by kernel_rfl) ?_);refine AL.weak (st' := (⟨_,[(1,S s),(4,.o (.c (.ptr 1 0))),(6,.o (.c (.ref 2))),(10,.o (.c (.ptr 4 0))),(11,I ((3 + p + 9 * q : Nat) : Int)),(85,.o (.c (.ref 6))),(131,.o (.c (.sb 7 1 9)))],[.box ((Enc.e lv).map (V1.rd [])),.box [nilV,jv 0,jv 0,nilV,nilV],.row 1 (els l),.row 1 (els lv.Rows),.box [.ref 3,jv (l.getD 0 0),jv (l.getD 1 0),.ref 5,.ref 6],.row 1 (els ((l.drop 3).take p)),.row 9 (els (bodiesOf rest q)),.box [jv (l.getD (3 + p + 9 * q + 0) 0),jv (l.getD (3 + p + 9 * q + 1) 0),jv (l.getD (3 + p + 9 * q + 2) 0),jv (l.getD (3 + p + 9 * q + 3) 0),jv (l.getD (3 + p + 9 * q + 4) 0),jv (l.getD (3 + p + 9 * q + 5) 0),jv (l.getD (3 + p + 9 * q + 6) 0),jv (l.getD (3 + p + 9 * q + 7) 0),jv (l.getD (3 + p + 9 * q + 8) 0)]]⟩ : St)) (W_go [0,1,2,3,4,5,6,7] (by decide) J (J) (.c J (.c J (.c J (.c J (.c J (.c J (.c J (.nil))))))))) ?_;refine M_appo J J J J J J J J J J J J J J (by omega) (by omega) ?_;refine z2 J J J ?_;refine Q5 J J J J J J J J (Qe (Q1 (Q0 (Qc (z0 J (z7 J (by omega) (z1 J (zz ?_))))))))
   exact ⟨nb - (q + 1),by omega,(fun q : Nat => (⟨_,[(1,S s),(4,.o (.c (.ptr 1 0))),(6,.o (.c (.ref 2))),(10,.o (.c (.ptr 4 0))),(11,I ((3 + p + 9 * q : Nat) : Int))],[.box ((Enc.e lv).map (V1.rd [])),.box [nilV,jv 0,jv 0,nilV,nilV],.row 1 (els l),.row 1 (els lv.Rows),.box [.ref 3,jv (l.getD 0 0),jv (l.getD 1 0),.ref 5,.ref 6],.row 1 (els ((l.drop 3).take p)),.row 9 (els (bodiesOf rest q))]⟩ : St)) (q + 1),W_go [0,1,2,3,4,5,6] (by decide) J (row7 (by rw [bodiesOf_snoc,els_app,show els [bodyOf (rest.drop (9 * q))] = [Enc.e (bodyOf (rest.drop (9 * q)))] from J,hbc]; rfl)) (.c J (.c J (.c J (.c J (.cons (I_eq (by omega)) (.nil)))))),q + 1,by omega,trivial,J⟩
  ·have hb6 : decide (((3 + p + 9 * q : Nat) : Int) < (els l).length) = false := decide_eq_false h4
   have hqn : q = nb := by omega
   subst hqn
   have hwk := S_WorldBytes ⟨lv,l.getD 0 0,l.getD 1 0,(l.drop 3).take p,bodiesOf rest q⟩ hwg
   cases ho : worldOk ⟨lv,l.getD 0 0,l.getD 1 0,(l.drop 3).take p,bodiesOf rest q⟩ with
   | false =>
    have hne : decide (worldBytes ⟨lv,l.getD 0 0,l.getD 1 0,(l.drop 3).take p,bodiesOf rest q⟩ ≠ s) = true := decide_eq_true fun h => by rw [hwb,ho] at h; cases h
    rw [readWorld_no hu (fun hh => by have h9 := hh.2.2; rw [hwo,ho] at h9; cases h9)]
    refine Qd (zy (z0 J (z0 J (zx (q_lenr J J J J) J (z9a J (by assumption) (zz (Ql J (Q9 (T_x ?_)))))))));refine T_x (B_xs (Q0 (Qd (zy (z4 J J J ?_)))));refine zx (Qj J J (hwk) J) J ?_;refine z0 J (zx (q_sneqK J J J J (by assumption)) J (zz (Qm J (zy (zx (q_build J J J J J) J ?_)))));refine Qy J J J J J J J J J (z1 J (zz (Xa (T_r (F_r ?_)))))
    exact E_cellt J J J J J (W_fill [1,1,9] [7,8,9] J J (by decide) J J J)
   | true =>
    have hne : decide (worldBytes ⟨lv,l.getD 0 0,l.getD 1 0,(l.drop 3).take p,bodiesOf rest q⟩ ≠ s) = false := decide_eq_false fun h => h (hwb.2 ho)
    rw [readWorld_yes hu ⟨by omega,hform,by rw [hwo]; exact ho⟩,hwo]
    refine Qd (zy (z0 J (z0 J (zx (q_lenr J J J J) J (z9a J (by assumption) (zz (Ql J (Q9 (T_x ?_)))))))));refine T_x (B_xs (Q0 (Qd (zy (z4 J J J ?_)))));refine zx (Qj J J (hwk) J) J ?_;refine z0 J (zx (q_sneqK J J J J (by assumption)) J (zz (Ql J (Qh (Q0 (zy (z4 J J J ?_)))))));refine Qy J J J J J J J J J (z1 J (zz (Xa (F_r ?_))))
    exact E_cellt J J J J J (W_end [3,5,6] (by decide) J J J)
end
section
open Go.RowKit

def keyText (s : ByteArray) (keys : List ByteArray) : Nat → Option ByteArray
 | 0 => some s
 | n + 1 => match keyText s keys n with
  | none => none
  | some t => match keys[n]? with
   | none => none
   | some d => applyD t d
theorem keyText_none {s : ByteArray} {keys : List ByteArray} {i : Nat} (h : keyText s keys i = none) : ∀ {n : Nat},i ≤ n → keyText s keys n = none
 | 0,hn => by have : i = 0 := (by omega); subst this; exact h
 | n + 1,hn => by
  by_cases e : i = n + 1
  ·subst e; exact h
  ·rw [keyText,keyText_none h (by omega)]
theorem keyText_step {s t d : ByteArray} {keys : List ByteArray} {n : Nat} (h : keyText s keys n = some t) (hk : keys[n]? = some d) : keyText s keys (n + 1) = applyD t d := by rw [keyText,h]; simp only [hk]
theorem keyText_len {s : ByteArray} {keys : List ByteArray} (hs : s.size ≤ 20000) : ∀ {n : Nat} {t : ByteArray},keyText s keys n = some t → t.size ≤ 20000
 | 0,t,h => by cases h; exact hs
 | n + 1,t,h => by
  rw [keyText] at h
  split at h
  ·cases h
  ·split at h
   ·cases h
   ·exact applyD_len h
structure ROk (r : TReplay) : Prop where
 l : levelOk r.Level = true
 p : 1 ≤ r.Players ∧ r.Players ≤ 4
 s : inR r.Seed 0 65535 = true
 e : 1 ≤ r.Every ∧ r.Every ≤ 100
 k : r.Keys.length ≤ 400
theorem rok {r : TReplay} (h : replayOk r = true) : ROk r := by
 unfold replayOk at h
 simp only [Bool.and_eq_true,decide_eq_true_eq,inR_iff] at h
 obtain ⟨⟨⟨⟨⟨⟨h1,h2⟩,h3⟩,h4⟩,h5⟩,h6⟩,h7⟩ := h
 refine ⟨h1,h2,inR_iff.2 h3,h4,?_⟩
 have : (r.Rows.length : Int) / r.Every ≤ r.Rows.length := Int.ediv_le_self _ (by omega)
 omega
noncomputable def keyWorld (r : TReplay) (k : Nat) : Option TWorld := match keyText (worldBytes (newWorld r.Level r.Players.toNat r.Seed)) r.Keys k with
 | none => none
 | some s => match readWorld r.Level s with
  | none => none
  | some w => if w.Tick = (k : Int) * r.Every ∧ (w.Scores.length : Int) = r.Players then some w else none
noncomputable def keyAt (r : TReplay) (k : Int) : Option TWorld := if replayOk r = true ∧ -1 ≤ k ∧ k < r.Keys.length then (if k < 0 then some (newWorld r.Level r.Players.toNat r.Seed) else keyWorld r (k + 1).toNat) else none
theorem keyWorld_0 (r : TReplay) (hl : levelOk r.Level = true) (hp : 1 ≤ r.Players ∧ r.Players ≤ 4) (hs : inR r.Seed 0 65535 = true) : keyWorld r 0 = some (newWorld r.Level r.Players.toNat r.Seed) := by
 rw [keyWorld,keyText]
 simp only [newWorld_back hl (n := r.Players.toNat) (by omega) hs]
 rw [if_pos]
 constructor
 ·show (0 : Int) = ((0 : Nat) : Int) * r.Every; simp
 ·simp only [newWorld,List.length_replicate]; omega
theorem bytes_len (w : TWorld) : (worldBytes w).size ≤ 20000 := by
 unfold worldBytes
 split
 ·rename_i h
  have hw := worldOk_spec h
  have h1 := packInts_size (worldInts w)
  have h2 := flat_length w.Bodies
  have h3 : (worldInts w).length = 3 + w.Scores.length + 9 * w.Bodies.length := by
   simp only [worldInts,List.length_append,List.length_cons,List.length_nil]; omega
  have h4 := hw.2.2.2.1
  have h5 := hw.2.2.2.2.2.1
  omega
 ·decide
theorem keyAt_bad {r : TReplay} {k : Int} (h : ¬ (replayOk r = true ∧ -1 ≤ k ∧ k < r.Keys.length)) : keyAt r k = none := if_neg h
theorem keyAt_neg {r : TReplay} {k : Int} (h : replayOk r = true ∧ -1 ≤ k ∧ k < r.Keys.length) (hk : k < 0) : keyAt r k = some (newWorld r.Level r.Players.toNat r.Seed) := by rw [keyAt,if_pos h,if_pos hk]
theorem keyAt_pos {r : TReplay} {k : Int} (h : replayOk r = true ∧ -1 ≤ k ∧ k < r.Keys.length) (hk : ¬ k < 0) : keyAt r k = keyWorld r (k + 1).toNat := by rw [keyAt,if_pos h,if_neg hk]
theorem keyAt_all {r : TReplay} {k : Int} (h : replayOk r = true ∧ -1 ≤ k ∧ k < r.Keys.length) : keyAt r k = keyWorld r (k + 1).toNat := by
 by_cases hk : k < 0
 ·have hr := rok h.1
  rw [keyAt_neg h hk,show (k + 1).toNat = 0 by omega,keyWorld_0 r hr.l hr.p hr.s]
 ·exact keyAt_pos h hk
section
variable {r : TReplay} {n : Nat} {s : ByteArray} {w : TWorld}
theorem keyWorld_none1 (h : keyText (worldBytes (newWorld r.Level r.Players.toNat r.Seed)) r.Keys n = none) : keyWorld r n = none := by rw [keyWorld,h]
variable (h : keyText (worldBytes (newWorld r.Level r.Players.toNat r.Seed)) r.Keys n = some s)
include h
theorem keyWorld_none2 (h2 : readWorld r.Level s = none) : keyWorld r n = none := by rw [keyWorld,h]; simp only [h2]
theorem keyWorld_no (h2 : readWorld r.Level s = some w) (hn : ¬ (w.Tick = (n : Int) * r.Every ∧ (w.Scores.length : Int) = r.Players)) : keyWorld r n = none := by rw [keyWorld,h]; simp only [h2]; rw [if_neg hn]
theorem keyWorld_yes (h2 : readWorld r.Level s = some w) (hn : w.Tick = (n : Int) * r.Every ∧ (w.Scores.length : Int) = r.Players) : keyWorld r n = some w := by rw [keyWorld,h]; simp only [h2]; rw [if_pos hn]
end
theorem keyAt_in {r : TReplay} {k : Int} (hr : RepIn r) : WorIn (rwW (keyAt r k)) := by
 by_cases hv : replayOk r = true ∧ -1 ≤ k ∧ k < r.Keys.length
 ·rw [keyAt_all hv]
  cases ht : keyText (worldBytes (newWorld r.Level r.Players.toNat r.Seed)) r.Keys (k + 1).toNat with
  | none => rw [keyWorld_none1 ht]; exact wor_zero
  | some s =>
   have hl := keyText_len (bytes_len _) ht
   cases hw : readWorld r.Level s with
   | none => rw [keyWorld_none2 ht hw]; exact wor_zero
   | some w =>
    by_cases hc : w.Tick = ((k + 1).toNat : Int) * r.Every ∧ (w.Scores.length : Int) = r.Players
    ·have := read_in (lv := r.Level) (s := s) hr.gd.1 hr.h1 (by omega)
     rw [hw] at this
     rw [keyWorld_yes ht hw hc]
     exact this
    ·rw [keyWorld_no ht hw hc]; exact wor_zero
 ·rw [keyAt_bad hv]; exact wor_zero
theorem key_mul {k e : Int} (h0 : 0 ≤ k) (h1 : k ≤ 400) (h2 : 1 ≤ e) (h3 : e ≤ 100) : 0 ≤ k * e ∧ k * e ≤ 40000 := ⟨Int.mul_nonneg h0 (by omega),by
 have := Int.mul_le_mul h1 h3 (by omega) (by omega)
 omega⟩
set_option maxHeartbeats 8000000 in
theorem I_KeyAt (r : TReplay) (k : Int) (hg : Enc.gd r) (hk : I64 k) (ir : RepIn r) (hks : ∀ x ∈ r.Keys,x.size ≤ 1048576) : Con Tryz.prog 39 [] [ag r,ai k] (ownO (Enc.e (rwW (keyAt r k)))) (.tu [.ag (ownV 0 (Enc.e (rwW (keyAt r k)))),.c (bv (rwB (keyAt r k)))]) := by
 have cr := I_ReplayOk r hg
 have hlk := els_len r.Keys
 obtain ⟨hk1,hk2⟩ := hk
 have hL := ir.h1
 refine Con.of Tryz.func39 J Tryz.ntmps39 J (fun E => ?_)
 refine zy (M1 (Qq J J J J) J J (M1 (Qx J J J) J J (z1 J (zz (Qd (zy (z4 J J J ?_)))))));refine zx (Qj J J (cr) J) J ?_;refine zn J (z0 J ?_);refine zx (Qt.grdF J J J .stop (fun hgrd => Qa J J J)) J ?_;refine zx (Qt.grdF J J J (.hit .stop) (fun hgrd => q_lss J J J J)) J ?_;refine zx (q_or J J J J) J (z0 J ?_);refine zx (Qt.grdF J J J .stop (fun hgrd => Qa J J J)) J ?_;refine zx (Qt.grdF J J J (.hit .stop) (fun hgrd => Qf J J J J (by decide))) J ?_;refine zx (Qt.grdF J J J (.hit (.hit .stop)) (fun hgrd => Qg J J J J J)) J ?_;refine zx (Qt.grdF J J J (.hit (.hit (.hit .stop))) (fun hgrd => q_len J J J)) J ?_;refine zx (Qt.grdF J J J (.hit (.hit (.hit (.hit .stop)))) (fun hgrd => q_geq J J J J)) J ?_;refine zx (q_or J J J J) J (zz ?_)
 refine Xb J (fun h => ?_) (fun h => ?_)
 ·rw [keyAt_bad (fun ⟨q1,q2,q3⟩ => by rw [q1] at h; simp at h; omega)]
  refine zy (zx (q_build J J J J J) J ?_);refine Qy J J J J J J J J J (z1 J (zz (Xa (T_r (F_r ?_)))))
  exact E_cellt J J J J J (W_fill [1,1,9] [2,3,4] J J (by decide) J J J)
 simp only [Bool.or_eq_false_iff,Bool.not_eq_false',decide_eq_false_iff_not] at h
 have hv : replayOk r = true ∧ -1 ≤ k ∧ k < r.Keys.length := ⟨h.1.1,by omega,by omega⟩
 have hr := rok hv.1
 obtain ⟨hp1,hp2⟩ := hr.p
 have hnw := I_NewWorld r.Level r.Players.toNat r.Seed hg.1 hL hr.l (by omega) hr.s
 rw [show ((r.Players.toNat : Nat) : Int) = r.Players by omega] at hnw
 have hgn := newWorld_gd (n := r.Players.toNat) hg.1 hr.l (by omega) hr.s
 have hwb := I_WorldBytes _ hgn
 have hbl := bytes_len (newWorld r.Level r.Players.toNat r.Seed)
 refine AWP.pre (st' := (⟨_,[(1,I k),(2,.o (.c (.ptr 0 0))),(4,.o (.c (.ptr 1 0)))],[.box ((Enc.e r).map (V1.rd [])),.box [nilV,jn 0,jn 0,nilV,nilV]]⟩ : St)) ?_ (W_go [0,1] (by decide) J (J) (.c J (.c J (.c J (.nil)))))
 by_cases hk0 : k < 0
 ·have e0 : decide (k < 0) = true := decide_eq_true hk0
  rw [keyAt_neg hv hk0]
  refine Qh (Q0 (zy (z2 J J J (z4 J J J (z2 J J J (z3 J (z2 J J J (z3 J ?_))))))));refine M1 (q_call J J (hnw) J J J) J J ?_;refine zx (Q8 J J J) J (ze J (ze J (M1 (Qx J J J) J J ?_)));refine Qy J J J J J J J J J (z1 J (zz (Qd (zy (z0 J (zn J (z0 J (z5 J (z0 J ?_)))))))));refine z5 J (z9a J (by assumption) (zpF J (zz (Qm J (zy (z4 J J J (z0 J ?_)))))));refine Qy J J J J J J J J J (z1 J (zz (Xa (T_r (F_r ?_)))))
  exact E_cellt J J J J J (W_end [2,3,4] (by decide) J J J)
 have e0 : decide (k < 0) = false := decide_eq_false hk0
 rw [keyAt_pos hv hk0]
 obtain ⟨s0,hs0⟩ : ∃ s0,s0 = worldBytes (newWorld r.Level r.Players.toNat r.Seed) := ⟨_,rfl⟩
 rw [← hs0] at hwb hbl
 obtain ⟨K,hK⟩ : ∃ K : Nat,k + 1 = K := ⟨(k + 1).toNat,by omega⟩
 have hKl : K ≤ r.Keys.length := by omega
 have htl : ((els r.Keys).take (k + 1).toNat).length = K := by rw [List.length_take]; omega
 have hkk := hr.k
 rw [show (k + 1).toNat = K by omega]
 refine Qh (Q0 (zy (z2 J J J (z4 J J J (z2 J J J (z3 J (z2 J J J (z3 J ?_))))))));refine M1 (q_call J J (hnw) J J J) J J ?_;refine zx (Q8 J J J) J (ze J (ze J (M1 (Qx J J J) J J ?_)));refine Qy J J J J J J J J J (z1 J (zz (Qd (zy (z0 J (zn J (z0 J (z5 J (z0 J ?_)))))))));refine z5 J (z9a J (by assumption) (zpF J (zz (Ql J (Qh (Q0 (zy (z4 J J J ?_))))))));refine zx (Qj J J (hwb) J) J ?_;refine z1 J (zz (Qd (zy (z2 J J J (z3 J (z0 J (z7 J (by omega) (zx (q_part0 J J J J J (by omega)) J (zx (q_len J J J) J ?_)))))))));refine z0 J (zz (Qk ?_));refine A_loop (fun m st => ∃ (i : Nat) (t : ByteArray),i + m = K ∧ (keyText s0 r.Keys i = some t) ∧ st = (fun (i : Nat) (t : ByteArray) => (⟨_,[(1,I k),(2,.o (.c (.ptr 0 0))),(4,.o (.c (.ptr 1 0))),(8,S t),(53,.o (.c (.rd [] (.sl 1 ((els r.Keys).take (k + 1).toNat))))),(54,I K),(55,I i)],[.box ((Enc.e r).map (V1.rd [])),.box [nilV,jn 0,jn 0,nilV,nilV]]⟩ : St)) i t) (K) ⟨(fun (i : Nat) (t : ByteArray) => (⟨_,[(1,I k),(2,.o (.c (.ptr 0 0))),(4,.o (.c (.ptr 1 0))),(8,S t),(53,.o (.c (.rd [] (.sl 1 ((els r.Keys).take (k + 1).toNat))))),(54,I K),(55,I i)],[.box ((Enc.e r).map (V1.rd [])),.box [nilV,jn 0,jn 0,nilV,nilV]]⟩ : St)) 0 (s0),W_go [0,1] (by decide) J (J) (.c J (.c J (.c J (.c J (.c J (.cons (I_eq (by rw [htl])) (.c J (.nil)))))))),0,s0,by omega,J,J⟩ ?_
 rintro m_A _ ⟨i,t,hk_A,hp_A,rfl⟩
 have htz := keyText_len hbl hp_A
 refine zy (zx (q_lss J J J J) J (zz (Qd ?_)))
 refine Xb J (fun h3 => ?_) (fun h3 => ?_)
 ·have h3 : i < K := by have := of_decide_eq_true h3; omega
  have hil : i < r.Keys.length := by omega
  have hki := List.getElem?_eq_getElem hil
  have hat : ((els r.Keys).take (k + 1).toNat)[(i : Int).toNat]? = some (Enc.e (r.Keys[i])) := by
   rw [List.getElem?_take,if_pos (by omega)]
   exact els_at hil
  have hdz := hks _ (List.getElem_mem hil)
  generalize r.Keys[i] = d at hki hat hdz
  have hap := I_ApplyDelta t d (by omega) (by omega)
  have hst := keyText_step hp_A hki
  cases hx : applyD t d with
  | none =>
   rw [hx] at hap hst
   rw [keyWorld_none1 (by rw [← hs0]; exact keyText_none hst (by omega))]
   refine Qh (Q0 (Qd (Qk (zy (zx (Q2 J J J J (by omega) (by assumption) J) J (zx (q_lr1 J J J J) J (z1 J (zz (Qd ?_)))))))));refine Qc (z0 J (z0 J ?_));refine M1 (q_call J J (hap) J J J) J J ?_;refine zx (Q8 J J J) J (ze J (ze J (z1 J (z1 J (zz (Qd (zy (z0 J (zn J ?_)))))))));refine zz (Qm J (zy (zx (q_build J J J J J) J ?_)));refine Qy J J J J J J J J J (z1 J (zz (Xa (T_r (B_r (T_r (T_r (B_r (T_r (F_r ?_))))))))))
   exact E_cellt J J J J J (W_fill [1,1,9] [2,3,4] J J (by decide) J J J)
  | some t' =>
   rw [hx] at hap hst
   refine Qh (Q0 (Qd (Qk (zy (zx (Q2 J J J J (by omega) (by assumption) J) J (zx (q_lr1 J J J J) J (z1 J (zz (Qd ?_)))))))));refine Qc (z0 J (z0 J ?_));refine M1 (q_call J J (hap) J J J) J J ?_;refine zx (Q8 J J J) J (ze J (ze J (z1 J (z1 J (zz (Qd (zy (z0 J (zn J ?_)))))))));refine zz (Ql J (Qh (Q0 (Qc (z0 J (z1 J (Qe (Q1 (Q0 (Qc ?_))))))))));refine z7 J (by omega) (z0 J (zz ?_))
   exact ⟨K - (i + 1),by omega,(fun (i : Nat) (t : ByteArray) => (⟨_,[(1,I k),(2,.o (.c (.ptr 0 0))),(4,.o (.c (.ptr 1 0))),(8,S t),(53,.o (.c (.rd [] (.sl 1 ((els r.Keys).take (k + 1).toNat))))),(54,I K),(55,I i)],[.box ((Enc.e r).map (V1.rd [])),.box [nilV,jn 0,jn 0,nilV,nilV]]⟩ : St)) (i + 1) (t'),W_go [0,1] (by decide) J (J) (.c J (.c J (.c J (.c J (.c J (.c J (.c J (.nil)))))))),i + 1,t',by omega,hst,J⟩
 have h3 : i = K := by have := of_decide_eq_false h3; omega
 subst h3
 have hrw := I_ReadWorld r.Level t hg.1 hL (by omega)
 have hkt : keyText (worldBytes (newWorld r.Level r.Players.toNat r.Seed)) r.Keys i = some t := by rw [← hs0]; exact hp_A
 have hmul := key_mul (k := k + 1) (e := r.Every) (by omega) (by omega) hr.e.1 hr.e.2
 cases hw : readWorld r.Level t with
 | none =>
  rw [hw] at hrw
  rw [keyWorld_none2 hkt hw]
  refine Q9 (T_x (T_x (B_xs (Q0 (zy (z2 J J J (z4 J J J (z0 J ?_))))))));refine M1 (q_call J J (hrw) J J J) J J ?_;refine zx (Q8 J J J) J (ze J (ze J (M1 (Qx J J J) J J ?_)));refine Qy J J J J J J J J J (z1 J (zz (Qd (zy (z0 J (zn J (z0 J (z6 J (z6 J ?_)))))))));refine z6 J (z6 J (z6 J (z6 J (z6 J (z6 J (zpT J (z0 J (z6 J (z6 J (z6 J (z6 J ?_)))))))))));refine z6 J (z6 J (zpT J (zz (Qm J (zy (zx (q_build J J J J J) J ?_))))));refine Qy J J J J J J J J J (z1 J (zz (Xa (T_r (F_r ?_)))))
  exact E_cellt J J J J J (W_fill [1,1,9] [6,7,8] J J (by decide) J J J)
 | some w =>
  rw [hw] at hrw
  have hls := els_len w.Scores
  by_cases c1 : w.Tick = (k + 1) * r.Every
  ·have e1 : decide (w.Tick ≠ (k + 1) * r.Every) = false := decide_eq_false (fun q => q c1)
   by_cases c2 : (w.Scores.length : Int) = r.Players
   ·have e2 : decide (((els w.Scores).length : Int) ≠ r.Players) = false := decide_eq_false (by rw [hls]; exact fun q => q c2)
    rw [keyWorld_yes hkt hw ⟨by rw [← hK]; exact c1,c2⟩]
    refine Q9 (T_x (T_x (B_xs (Q0 (zy (z2 J J J (z4 J J J (z0 J ?_))))))));refine M1 (q_call J J (hrw) J J J) J J ?_;refine zx (Q8 J J J) J (ze J (ze J (M1 (Qx J J J) J J ?_)));refine Qy J J J J J J J J J (z1 J (zz (Qd (zy (z0 J (zn J (z0 J (z5 J (z2 J J J ?_)))))))));refine z5 J (z3 J (z5 J (z0 J (z5 J (z7 J (by omega) (z5 J (z2 J J J (z5 J (z3 J (z5 J (zx (q_mul J J J J (by omega)) J ?_)))))))))));refine z5 J (z9f J (by assumption) (zpF J (z0 J (z5 J (z2 J J J (z5 J (z3 J (z5 J (zx (q_lenr J J J J) J (z5 J (z2 J J J ?_)))))))))));refine z5 J (z3 J (z5 J (z9f J (by assumption) (zpF J (zz (Ql J (Qh (Q0 (zy ?_)))))))));refine z4 J J J ?_;refine Qy J J J J J J J J J (z1 J (zz (Xa (F_r ?_))))
    exact E_cellt J J J J J (W_end [2,3,4] (by decide) J J J)
   ·have e2 : decide (((els w.Scores).length : Int) ≠ r.Players) = true := decide_eq_true (by rw [hls]; exact c2)
    rw [keyWorld_no hkt hw (fun q => c2 q.2)]
    refine Q9 (T_x (T_x (B_xs (Q0 (zy (z2 J J J (z4 J J J (z0 J ?_))))))));refine M1 (q_call J J (hrw) J J J) J J ?_;refine zx (Q8 J J J) J (ze J (ze J (M1 (Qx J J J) J J ?_)));refine Qy J J J J J J J J J (z1 J (zz (Qd (zy (z0 J (zn J (z0 J (z5 J (z2 J J J ?_)))))))));refine z5 J (z3 J (z5 J (z0 J (z5 J (z7 J (by omega) (z5 J (z2 J J J (z5 J (z3 J (z5 J (zx (q_mul J J J J (by omega)) J ?_)))))))))));refine z5 J (z9f J (by assumption) (zpF J (z0 J (z5 J (z2 J J J (z5 J (z3 J (z5 J (zx (q_lenr J J J J) J (z5 J (z2 J J J ?_)))))))))));refine z5 J (z3 J (z5 J (z9f J (by assumption) (zpF J (zz (Qm J (zy (zx (q_build J J J J J) J ?_))))))));refine Qy J J J J J J J J J (z1 J (zz (Xa (T_r (F_r ?_)))))
    exact E_cellt J J J J J (W_fill [1,1,9] [6,7,8] J J (by decide) J J J)
  ·have e1 : decide (w.Tick ≠ (k + 1) * r.Every) = true := decide_eq_true c1
   rw [keyWorld_no hkt hw (fun q => c1 (by rw [hK]; exact q.1))]
   refine Q9 (T_x (T_x (B_xs (Q0 (zy (z2 J J J (z4 J J J (z0 J ?_))))))));refine M1 (q_call J J (hrw) J J J) J J ?_;refine zx (Q8 J J J) J (ze J (ze J (M1 (Qx J J J) J J ?_)));refine Qy J J J J J J J J J (z1 J (zz (Qd (zy (z0 J (zn J (z0 J (z5 J (z2 J J J ?_)))))))));refine z5 J (z3 J (z5 J (z0 J (z5 J (z7 J (by omega) (z5 J (z2 J J J (z5 J (z3 J (z5 J (zx (q_mul J J J J (by omega)) J ?_)))))))))));refine z5 J (z9f J (by assumption) (zpF J (z0 J (z6 J (z6 J (z6 J (z6 J (z6 J (z6 J (zpT J (Qe ?_)))))))))));refine Q0 (Qm J (zy (zx (q_build J J J J J) J ?_)));refine Qy J J J J J J J J J (z1 J (zz (Xa (T_r (F_r ?_)))))
   exact E_cellt J J J J J (W_fill [1,1,9] [6,7,8] J J (by decide) J J J)
set_option maxHeartbeats 8000000 in
theorem S_KeyAt (r : TReplay) (k : Int) (hg : Enc.gd r) (hk : I64 k) (ir : RepIn r) (hks : ∀ x ∈ r.Keys,x.size ≤ 1048576) : Con Tryz.prog 33 [] [ag r,ai k] (ownO (Enc.e (rwW (keyAt r k)))) (.tu [.ag (ownV 0 (Enc.e (rwW (keyAt r k)))),.c (bv (rwB (keyAt r k)))]) := by
 have cr := S_ReplayOk r hg
 have hlk := els_len r.Keys
 have hgk := ir.h2
 obtain ⟨hk1,hk2⟩ := hk
 have hL := ir.h1
 have ci := S_in k (-1) (((els r.Keys).length : Int) - 1)
 refine Con.of Tryz.func33 J Tryz.ntmps33 J (fun E => ?_)
 refine zy (M1 (Qq J J J J) J J (M1 (Qx J J J) J J (z1 J (zz (Qd (zy (z4 J J J ?_)))))));refine zx (Qj J J (cr) J) J ?_;refine zn J (z0 J ?_);refine zx (Qt.grdF J J J .stop (fun hgrd => Qa J J J)) J ?_;refine zx (Qt.grdF J J J (.hit .stop) (fun hgrd => Qf J J J J (by decide))) J ?_;refine zx (Qt.grdF J J J (.hit (.hit .stop)) (fun hgrd => Qg J J J J J)) J ?_;refine zx (Qt.grdF J J J (.hit (.hit (.hit .stop))) (fun hgrd => q_len J J J)) J ?_;refine zx (Qt.grdF J J J (.hit (.hit (.hit (.hit .stop)))) (fun hgrd => Xc J J J J (by omega))) J ?_;refine zx (Qt.grdF J J J (.hit (.hit (.hit (.hit (.hit .stop))))) (fun hgrd => Qj J J (ci) J)) J ?_;refine zx (Qt.grdF J J J (.hit (.hit (.hit (.hit (.hit (.hit .stop)))))) (fun hgrd => Q4 J J J)) J ?_;refine zx (q_or J J J J) J (zz ?_)
 refine Xb J (fun h => ?_) (fun h => ?_)
 ·rw [keyAt_bad (fun ⟨q1,q2,q3⟩ => by rw [q1,inR_iff.2 (by omega)] at h; exact absurd h (by decide))]
  refine zy (zx (q_build J J J J J) J ?_);refine Qy J J J J J J J J J (z1 J (zz (Xa (T_r (F_r ?_)))))
  exact E_cellt J J J J J (W_fill [1,1,9] [2,3,4] J J (by decide) J J J)
 simp only [Bool.or_eq_false_iff,Bool.not_eq_false',inR_iff] at h
 have hv : replayOk r = true ∧ -1 ≤ k ∧ k < r.Keys.length := ⟨h.1,by omega,by omega⟩
 have hr := rok hv.1
 obtain ⟨hp1,hp2⟩ := hr.p
 have hnw := S_NewWorld r.Level r.Players.toNat r.Seed hg.1 hL hr.l (by omega) hr.s
 rw [show ((r.Players.toNat : Nat) : Int) = r.Players by omega] at hnw
 have hgn := newWorld_gd (n := r.Players.toNat) hg.1 hr.l (by omega) hr.s
 have hwb := S_WorldBytes _ hgn
 have hbl := bytes_len (newWorld r.Level r.Players.toNat r.Seed)
 refine AWP.pre (st' := (⟨_,[(1,I k),(2,.o (.c (.ptr 0 0))),(4,.o (.c (.ptr 1 0)))],[.box ((Enc.e r).map (V1.rd [])),.box [nilV,jn 0,jn 0,nilV,nilV]]⟩ : St)) ?_ (W_go [0,1] (by decide) J (J) (.c J (.c J (.c J (.nil)))))
 rw [keyAt_all hv]
 obtain ⟨s0,hs0⟩ : ∃ s0,s0 = worldBytes (newWorld r.Level r.Players.toNat r.Seed) := ⟨_,rfl⟩
 rw [← hs0] at hwb hbl
 obtain ⟨K,hK⟩ : ∃ K : Nat,k + 1 = K := ⟨(k + 1).toNat,by omega⟩
 have hKl : K ≤ r.Keys.length := by omega
 have hkk := hr.k
 rw [show (k + 1).toNat = K by omega]
 refine Qh (Q0 (zy (z2 J J J (z4 J J J (z2 J J J (z3 J (z2 J J J (z3 J ?_))))))));refine M1 (q_call J J (hnw) J J J) J J ?_;refine zx (Q8 J J J) J (ze J (ze J (M1 (Qx J J J) J J ?_)));refine Qy J J J J J J J J J (z1 J (zz (zy (z4 J J J ?_))));refine zx (Qj J J (hwb) J) J ?_;refine z1 J (zz (Qd (zy (z1 J (zz (Qk ?_))))));refine A_loop (fun m st => ∃ (i : Nat) (t : ByteArray),i + m = K ∧ (keyText s0 r.Keys i = some t) ∧ st = (fun (i : Nat) (t : ByteArray) => (⟨_,[(1,I k),(2,.o (.c (.ptr 0 0))),(4,.o (.c (.ptr 1 0))),(8,S t),(9,I i)],[.box ((Enc.e r).map (V1.rd [])),.box [nilV,jn 0,jn 0,nilV,nilV]]⟩ : St)) i t) (K) ⟨(fun (i : Nat) (t : ByteArray) => (⟨_,[(1,I k),(2,.o (.c (.ptr 0 0))),(4,.o (.c (.ptr 1 0))),(8,S t),(9,I i)],[.box ((Enc.e r).map (V1.rd [])),.box [nilV,jn 0,jn 0,nilV,nilV]]⟩ : St)) 0 (s0),W_go [0,1] (by decide) J (J) (.c J (.c J (.c J (.c J (.c J (.nil)))))),0,s0,by omega,J,J⟩ ?_
 rintro m_A _ ⟨i,t,hk_A,hp_A,rfl⟩
 have htz := keyText_len hbl hp_A
 refine Qd (zy (z0 J (z0 J (zx (q_leq J J J J) J (zz ?_)))))
 refine Xb J (fun h3 => ?_) (fun h3 => ?_)
 ·have h3 : i < K := by have := of_decide_eq_true h3; omega
  have hil : i < r.Keys.length := by omega
  have hki := List.getElem?_eq_getElem hil
  have hat := els_at hil
  have hdz := hks _ (List.getElem_mem hil)
  generalize r.Keys[i] = d at hki hat hdz
  have hap := S_ApplyDelta t d (by omega) (by omega)
  have hst := keyText_step hp_A hki
  cases hx : applyD t d with
  | none =>
   rw [hx] at hap hst
   rw [keyWorld_none1 (by rw [← hs0]; exact keyText_none hst (by omega))]
   refine Qh (Q0 (Qd (Qk (zy (z0 J (z2 J J J (z3 J (z0 J (zx (Q2 J J J J (by omega) (by assumption) J) J (zx (q_lr1 J J J J) J ?_))))))))));refine M1 (q_call J J (hap) J J J) J J ?_;refine zx (Q8 J J J) J (ze J (ze J (z1 J (z1 J (zz (Qd (zy (z0 J (zn J ?_)))))))));refine zz (Qm J (zy (zx (q_build J J J J J) J ?_)));refine Qy J J J J J J J J J (z1 J (zz (Xa (T_r (B_r (T_r (T_r (B_r (T_r (F_r ?_))))))))))
   exact E_cellt J J J J J (W_fill [1,1,9] [2,3,4] J J (by decide) J J J)
  | some t' =>
   rw [hx] at hap hst
   refine Qh (Q0 (Qd (Qk (zy (z0 J (z2 J J J (z3 J (z0 J (zx (Q2 J J J J (by omega) (by assumption) J) J (zx (q_lr1 J J J J) J ?_))))))))));refine M1 (q_call J J (hap) J J J) J J ?_;refine zx (Q8 J J J) J (ze J (ze J (z1 J (z1 J (zz (Qd (zy (z0 J (zn J ?_)))))))));refine zz (Ql J (Qh (Q0 (Qc (z0 J (z1 J (Qe (Q1 (Q0 (Qc ?_))))))))));refine z0 J (z7 J (by omega) (z1 J (zz ?_)))
   exact ⟨K - (i + 1),by omega,(fun (i : Nat) (t : ByteArray) => (⟨_,[(1,I k),(2,.o (.c (.ptr 0 0))),(4,.o (.c (.ptr 1 0))),(8,S t),(9,I i)],[.box ((Enc.e r).map (V1.rd [])),.box [nilV,jn 0,jn 0,nilV,nilV]]⟩ : St)) (i + 1) (t'),W_go [0,1] (by decide) J (J) (.c J (.c J (.c J (.c J (.c J (.nil)))))),i + 1,t',by omega,hst,J⟩
 have h3 : i = K := by have := of_decide_eq_false h3; omega
 subst h3
 have hrw := S_ReadWorld r.Level t hg.1 hL (by omega)
 have hkt : keyText (worldBytes (newWorld r.Level r.Players.toNat r.Seed)) r.Keys i = some t := by rw [← hs0]; exact hp_A
 have hmul := key_mul (k := k + 1) (e := r.Every) (by omega) (by omega) hr.e.1 hr.e.2
 cases hw : readWorld r.Level t with
 | none =>
  rw [hw] at hrw
  rw [keyWorld_none2 hkt hw]
  refine Q9 (T_x (T_x (B_xs (Q0 (zy (z2 J J J (z4 J J J (z0 J ?_))))))));refine M1 (q_call J J (hrw) J J J) J J ?_;refine zx (Q8 J J J) J (ze J (ze J (M1 (Qx J J J) J J ?_)));refine Qy J J J J J J J J J (z1 J (zz (Qd (zy (z0 J (zn J (z0 J (z6 J (z6 J ?_)))))))));refine z6 J (z6 J (z6 J (z6 J (z6 J (z6 J (zpT J (z0 J (z6 J (z6 J (z6 J (z6 J ?_)))))))))));refine z6 J (z6 J (zpT J (zz (Qm J (zy (zx (q_build J J J J J) J ?_))))));refine Qy J J J J J J J J J (z1 J (zz (Xa (T_r (F_r ?_)))))
  exact E_cellt J J J J J (W_fill [1,1,9] [6,7,8] J J (by decide) J J J)
 | some w =>
  rw [hw] at hrw
  have hls := els_len w.Scores
  by_cases c1 : w.Tick = (k + 1) * r.Every
  ·have e1 : decide (w.Tick ≠ (k + 1) * r.Every) = false := decide_eq_false (fun q => q c1)
   by_cases c2 : (w.Scores.length : Int) = r.Players
   ·have e2 : decide (((els w.Scores).length : Int) ≠ r.Players) = false := decide_eq_false (by rw [hls]; exact fun q => q c2)
    rw [keyWorld_yes hkt hw ⟨by rw [← hK]; exact c1,c2⟩]
    refine Q9 (T_x (T_x (B_xs (Q0 (zy (z2 J J J (z4 J J J (z0 J ?_))))))));refine M1 (q_call J J (hrw) J J J) J J ?_;refine zx (Q8 J J J) J (ze J (ze J (M1 (Qx J J J) J J ?_)));refine Qy J J J J J J J J J (z1 J (zz (Qd (zy (z0 J (zn J (z0 J (z5 J (z2 J J J ?_)))))))));refine z5 J (z3 J (z5 J (z0 J (z5 J (z7 J (by omega) (z5 J (z2 J J J (z5 J (z3 J (z5 J (zx (q_mul J J J J (by omega)) J ?_)))))))))));refine z5 J (z9f J (by assumption) (zpF J (z0 J (z5 J (z2 J J J (z5 J (z3 J (z5 J (zx (q_lenr J J J J) J (z5 J (z2 J J J ?_)))))))))));refine z5 J (z3 J (z5 J (z9f J (by assumption) (zpF J (zz (Ql J (Qh (Q0 (zy ?_)))))))));refine z4 J J J ?_;refine Qy J J J J J J J J J (z1 J (zz (Xa (F_r ?_))))
    exact E_cellt J J J J J (W_end [2,3,4] (by decide) J J J)
   ·have e2 : decide (((els w.Scores).length : Int) ≠ r.Players) = true := decide_eq_true (by rw [hls]; exact c2)
    rw [keyWorld_no hkt hw (fun q => c2 q.2)]
    refine Q9 (T_x (T_x (B_xs (Q0 (zy (z2 J J J (z4 J J J (z0 J ?_))))))));refine M1 (q_call J J (hrw) J J J) J J ?_;refine zx (Q8 J J J) J (ze J (ze J (M1 (Qx J J J) J J ?_)));refine Qy J J J J J J J J J (z1 J (zz (Qd (zy (z0 J (zn J (z0 J (z5 J (z2 J J J ?_)))))))));refine z5 J (z3 J (z5 J (z0 J (z5 J (z7 J (by omega) (z5 J (z2 J J J (z5 J (z3 J (z5 J (zx (q_mul J J J J (by omega)) J ?_)))))))))));refine z5 J (z9f J (by assumption) (zpF J (z0 J (z5 J (z2 J J J (z5 J (z3 J (z5 J (zx (q_lenr J J J J) J (z5 J (z2 J J J ?_)))))))))));refine z5 J (z3 J (z5 J (z9f J (by assumption) (zpF J (zz (Qm J (zy (zx (q_build J J J J J) J ?_))))))));refine Qy J J J J J J J J J (z1 J (zz (Xa (T_r (F_r ?_)))))
    exact E_cellt J J J J J (W_fill [1,1,9] [6,7,8] J J (by decide) J J J)
  ·have e1 : decide (w.Tick ≠ (k + 1) * r.Every) = true := decide_eq_true c1
   rw [keyWorld_no hkt hw (fun q => c1 (by rw [hK]; exact q.1))]
   refine Q9 (T_x (T_x (B_xs (Q0 (zy (z2 J J J (z4 J J J (z0 J ?_))))))));refine M1 (q_call J J (hrw) J J J) J J ?_;refine zx (Q8 J J J) J (ze J (ze J (M1 (Qx J J J) J J ?_)));refine Qy J J J J J J J J J (z1 J (zz (Qd (zy (z0 J (zn J (z0 J (z5 J (z2 J J J ?_)))))))));refine z5 J (z3 J (z5 J (z0 J (z5 J (z7 J (by omega) (z5 J (z2 J J J (z5 J (z3 J (z5 J (zx (q_mul J J J J (by omega)) J ?_)))))))))));refine z5 J (z9f J (by assumption) (zpF J (z0 J (z6 J (z6 J (z6 J (z6 J (z6 J (z6 J (zpT J (Qe ?_)))))))))));refine Q0 (Qm J (zy (zx (q_build J J J J J) J ?_)));refine Qy J J J J J J J J J (z1 J (zz (Xa (T_r (F_r ?_)))))
   exact E_cellt J J J J J (W_fill [1,1,9] [6,7,8] J J (by decide) J J J)
end
section
open Go.RowKit
end
section
open Go.RowKit

noncomputable def seekM (r : TReplay) (t : Int) : Option TWorld :=
 if replayOk r = true ∧ 0 ≤ t ∧ t ≤ r.Rows.length then
  (match keyAt r (t / r.Every - 1) with
  | none => none
  | some w => some (runM w ((r.Rows.take t.toNat).drop (t / r.Every * r.Every).toNat)))
 else none
theorem seek_no {r : TReplay} {t : Int} (h : ¬ (replayOk r = true ∧ 0 ≤ t ∧ t ≤ r.Rows.length)) : seekM r t = none := if_neg h
theorem seek_none {r : TReplay} {t : Int} (h : replayOk r = true ∧ 0 ≤ t ∧ t ≤ r.Rows.length) (hk : keyAt r (t / r.Every - 1) = none) : seekM r t = none := by rw [seekM,if_pos h,hk]
theorem seek_some {r : TReplay} {t : Int} {w : TWorld} (h : replayOk r = true ∧ 0 ≤ t ∧ t ≤ r.Rows.length) (hk : keyAt r (t / r.Every - 1) = some w) : seekM r t = some (runM w ((r.Rows.take t.toNat).drop (t / r.Every * r.Every).toNat)) := by rw [seekM,if_pos h,hk]
theorem seek_in {r : TReplay} {t : Int} (ir : RepIn r) : WorIn (rwW (seekM r t)) := by
 by_cases h : replayOk r = true ∧ 0 ≤ t ∧ t ≤ r.Rows.length
 ·have hi := keyAt_in (k := t / r.Every - 1) ir
  cases hk : keyAt r (t / r.Every - 1) with
  | none => rw [seek_none h hk]; exact wor_zero
  | some w =>
   rw [hk] at hi
   rw [seek_some h hk]
   exact ran_in _ hi
 ·rw [seek_no h]; exact wor_zero
theorem seek_els {xs : List (List Int)} {a b : Nat} : ((els xs).take a).drop b = els ((xs.take a).drop b) := by rw [els,els,List.map_drop,List.map_take]
theorem gd_part {xs : List (List Int)} (h : Enc.gd xs) (a b : Nat) : Enc.gd ((xs.take a).drop b) := ⟨by have := h.1; rw [List.length_drop,List.length_take]; omega,fun x hx => h.2 x (List.mem_of_mem_take (List.mem_of_mem_drop hx))⟩
set_option maxHeartbeats 8000000 in
theorem I_SeekReplay (r : TReplay) (t : Int) (hg : Enc.gd r) (ht : I64 t) (ir : RepIn r) (hks : ∀ x ∈ r.Keys,x.size ≤ 1048576) : Con Tryz.prog 26 [] [ag r,ai t] (ownO (Enc.e (rwW (seekM r t)))) (.tu [.ag (ownV 0 (Enc.e (rwW (seekM r t)))),.c (bv (rwB (seekM r t)))]) := by
 have cr := I_ReplayOk r hg
 have hlk := els_len r.Rows
 have hrl := ir.h3
 obtain ⟨hk1,hk2⟩ := ht
 refine Con.of Tryz.func26 J Tryz.ntmps26 J (fun E => ?_)
 refine zy (M1 (Qq J J J J) J J (M1 (Qx J J J) J J (z1 J (zz (Qd (zy (z4 J J J ?_)))))));refine zx (Qj J J (cr) J) J ?_;refine zn J (z0 J ?_);refine zx (Qt.grdF J J J .stop (fun hgrd => Qa J J J)) J ?_;refine zx (Qt.grdF J J J (.hit .stop) (fun hgrd => q_lss J J J J)) J ?_;refine zx (q_or J J J J) J (z0 J ?_);refine zx (Qt.grdF J J J .stop (fun hgrd => Qa J J J)) J ?_;refine zx (Qt.grdF J J J (.hit .stop) (fun hgrd => Qf J J J J (by decide))) J ?_;refine zx (Qt.grdF J J J (.hit (.hit .stop)) (fun hgrd => Qg J J J J J)) J ?_;refine zx (Qt.grdF J J J (.hit (.hit (.hit .stop))) (fun hgrd => q_len J J J)) J ?_;refine zx (Qt.grdF J J J (.hit (.hit (.hit (.hit .stop)))) (fun hgrd => q_gtr J J J J)) J ?_;refine zx (q_or J J J J) J (zz ?_)
 refine Xb J (fun h => ?_) (fun h => ?_)
 ·rw [seek_no (fun ⟨q1,q2,q3⟩ => by rw [q1] at h; simp at h; omega)]
  refine zy (zx (q_build J J J J J) J ?_);refine Qy J J J J J J J J J (z1 J (zz (Xa (T_r (F_r ?_)))))
  exact E_cellt J J J J J (W_fill [1,1,9] [2,3,4] J J (by decide) J J J)
 simp only [Bool.or_eq_false_iff,Bool.not_eq_false',decide_eq_false_iff_not] at h
 have hv : replayOk r = true ∧ 0 ≤ t ∧ t ≤ r.Rows.length := ⟨h.1.1,by omega,by omega⟩
 have hr := rok hv.1
 obtain ⟨he1,he2⟩ := hr.e
 obtain ⟨K,hK⟩ : ∃ K,K = t / r.Every := ⟨_,rfl⟩
 have hK0 : 0 ≤ K := by rw [hK]; exact Int.ediv_nonneg hv.2.1 (by omega)
 have hKt : K ≤ t := by rw [hK]; exact Int.ediv_le_self _ hv.2.1
 have hm0 : 0 ≤ K * r.Every := Int.mul_nonneg hK0 (by omega)
 have hmt : K * r.Every ≤ t := by rw [hK]; exact Int.ediv_mul_le t (by omega)
 have hm1 : (K - 1 + 1) * r.Every = K * r.Every := by rw [Int.sub_add_cancel]
 have hka := I_KeyAt r (K - 1) hg ⟨by omega,by omega⟩ ir hks
 have hin := keyAt_in (k := K - 1) ir
 refine Qh (Q0 (zy (z0 J (z2 J J J (z3 J (zx (q_quo J J J J (by omega)) J (z8 J (by omega) (z1 J (zz ?_)))))))));refine zy (z4 J J J (z0 J ?_));refine AL.weak (st' := (⟨_,[(1,I t),(2,.o (.c (.ptr 0 0))),(4,.o (.c (.ptr 1 0))),(6,I (K - 1)),(30,.o (.ag ((Enc.e r).map (V1.rd [])))),(31,I (K - 1))],[.box ((Enc.e r).map (V1.rd [])),.box [nilV,jn 0,jn 0,nilV,nilV]]⟩ : St)) (W_go [0,1] (by decide) J (J) (.c J (.c J (.c J (.cons (I_eq (by rw [hK])) (.c J (.cons (I_eq (by rw [hK])) (.nil)))))))) ?_
 cases hk : keyAt r (K - 1) with
 | none =>
  rw [hk] at hka
  rw [seek_none hv (by rw [← hK]; exact hk)]
  refine M1 (q_call J J (hka) J J J) J J ?_;refine zx (Q8 J J J) J (ze J (ze J (M1 (Qx J J J) J J ?_)));refine Qy J J J J J J J J J (z1 J (zz (Qd (zy (z0 J (zn J (zz (Qm J ?_))))))));refine zy (zx (q_build J J J J J) J ?_);refine Qy J J J J J J J J J (z1 J (zz (Xa (T_r (F_r ?_)))))
  exact E_cellt J J J J J (W_fill [1,1,9] [6,7,8] J J (by decide) J J J)
 | some w =>
  rw [hk] at hka hin
  rw [seek_some hv (by rw [← hK]; exact hk),← hK]
  have iw : WorIn w := hin
  have hrw := I_RunWorld w ((r.Rows.take t.toNat).drop (K * r.Every).toNat) iw (gd_part hg.2.2.2.2.1 _ _)
  have hrw : Con Tryz.prog 62 [] [ag w,.c (.rd [] (.sl (Enc.k (List Int)) (((els r.Rows).take t.toNat).drop ((K - 1 + 1) * r.Every).toNat)))] (ownO (Enc.e (runM w ((r.Rows.take t.toNat).drop (K * r.Every).toNat)))) (.o (.ag (ownV 0 (Enc.e (runM w ((r.Rows.take t.toNat).drop (K * r.Every).toNat)))))) := by rw [hm1,seek_els]; exact hrw
  generalize runM w ((r.Rows.take t.toNat).drop (K * r.Every).toNat) = z at hrw
  have hq : (0 : Int) ≤ (K - 1 + 1) * r.Every ∧ (K - 1 + 1) * r.Every ≤ t ∧ t ≤ ((els r.Rows).length : Nat) := by omega
  refine M1 (q_call J J (hka) J J J) J J ?_;refine zx (Q8 J J J) J (ze J (ze J (M1 (Qx J J J) J J ?_)));refine Qy J J J J J J J J J (z1 J (zz (Qd (zy (z0 J (zn J (zz (Ql J ?_))))))));refine Qh (Q0 (Qd (A_draw [[],[],[1],[],[3],[],[5],[3,4,5,6],[],[1,2,3,4,5,6,7,8],(u9 10),(u9 11),(u9 12)] [[],[],[39],[],[41],[],[43],[41,42,43,44],[],[39,40,41,42,43,44,45,46],[38,39,40,41,42,43,44,45,46,47],[38,39,40,41,42,43,44,45,46,47,48],[38,39,40,41,42,43,44,45,46,47,48]] [[39,40,41,42,43,44,45,46,47],[38,41,42,43,44,45,46],[38,41,42,43,44,45,46],[38,39,40,43,44,46],[38,39,40,43,44,46],[38,39,40,41,42,46],[38,39,40,41,42,46],[38,39,40,46],[38,39,40,41,42,43,44,45],[38],[],[],[]] J (DR.s (Qu J J J J J J) J J (DR.s (Qf J J J J (by decide)) J J (DR.s (Qg J J J J J) J J (DR.s (Qa J J J) J J (DR.s (Qs J J J J (by omega)) J J (DR.s (Qf J J J J (by decide)) J J (DR.s (Qg J J J J J) J J (DR.s (q_mul J J J J (by omega)) J J ?_)))))))))));refine DR.s (Qa J J J) J J (DR.s (q_part J J J J J J hq) J J ?_);refine DR.s (q_call J J (hrw) J J J) J J ?_;refine DR.stop (by kernel_rfl) (by kernel_rfl) ?_;refine Qy J J J J J J J J J (z1 J (zz (Xa (F_r ?_))))
  exact E_cellt J J J J J (W_end [6,7,8] (by decide) J J J)
set_option maxHeartbeats 8000000 in
theorem S_SeekReplay (r : TReplay) (t : Int) (hg : Enc.gd r) (ht : I64 t) (ir : RepIn r) (hks : ∀ x ∈ r.Keys,x.size ≤ 1048576) : Con Tryz.prog 25 [] [ag r,ai t] (ownO (Enc.e (rwW (seekM r t)))) (.tu [.ag (ownV 0 (Enc.e (rwW (seekM r t)))),.c (bv (rwB (seekM r t)))]) := by
 have cr := S_ReplayOk r hg
 have hlk := els_len r.Rows
 have hrl := ir.h3
 obtain ⟨hk1,hk2⟩ := ht
 have ci := S_in t 0 ((els r.Rows).length : Int)
 refine Con.of Tryz.func25 J Tryz.ntmps25 J (fun E => ?_)
 refine zy (M1 (Qq J J J J) J J (M1 (Qx J J J) J J (z1 J (zz (Qd (zy (z4 J J J ?_)))))));refine zx (Qj J J (cr) J) J ?_;refine zn J (z0 J ?_);refine zx (Qt.grdF J J J .stop (fun hgrd => Qa J J J)) J ?_;refine zx (Qt.grdF J J J (.hit .stop) (fun hgrd => Qf J J J J (by decide))) J ?_;refine zx (Qt.grdF J J J (.hit (.hit .stop)) (fun hgrd => Qg J J J J J)) J ?_;refine zx (Qt.grdF J J J (.hit (.hit (.hit .stop))) (fun hgrd => q_len J J J)) J ?_;refine zx (Qt.grdF J J J (.hit (.hit (.hit (.hit .stop)))) (fun hgrd => Qj J J (ci) J)) J ?_;refine zx (Qt.grdF J J J (.hit (.hit (.hit (.hit (.hit .stop))))) (fun hgrd => Q4 J J J)) J ?_;refine zx (q_or J J J J) J (zz ?_)
 refine Xb J (fun h => ?_) (fun h => ?_)
 ·rw [seek_no (fun ⟨q1,q2,q3⟩ => by rw [q1,inR_iff.2 (by omega)] at h; exact absurd h (by decide))]
  refine zy (zx (q_build J J J J J) J ?_);refine Qy J J J J J J J J J (z1 J (zz (Xa (T_r (F_r ?_)))))
  exact E_cellt J J J J J (W_fill [1,1,9] [2,3,4] J J (by decide) J J J)
 simp only [Bool.or_eq_false_iff,Bool.not_eq_false',inR_iff] at h
 have hv : replayOk r = true ∧ 0 ≤ t ∧ t ≤ r.Rows.length := ⟨h.1,by omega,by omega⟩
 have hr := rok hv.1
 obtain ⟨he1,he2⟩ := hr.e
 obtain ⟨K,hK⟩ : ∃ K,K = t / r.Every := ⟨_,rfl⟩
 have hK0 : 0 ≤ K := by rw [hK]; exact Int.ediv_nonneg hv.2.1 (by omega)
 have hKt : K ≤ t := by rw [hK]; exact Int.ediv_le_self _ hv.2.1
 have hm0 : 0 ≤ K * r.Every := Int.mul_nonneg hK0 (by omega)
 have hmt : K * r.Every ≤ t := by rw [hK]; exact Int.ediv_mul_le t (by omega)
 have hka := S_KeyAt r (K - 1) hg ⟨by omega,by omega⟩ ir hks
 have hin := keyAt_in (k := K - 1) ir
 refine Qh (Q0 (zy (z0 J (z2 J J J (z3 J (zx (q_quo J J J J (by omega)) J (z1 J (zz (Qd ?_)))))))));refine Qc (z4 J J J (z0 J (z8 J (by omega) ?_)));refine AL.weak (st' := (⟨_,[(1,I t),(2,.o (.c (.ptr 0 0))),(4,.o (.c (.ptr 1 0))),(6,I K),(26,.o (.ag ((Enc.e r).map (V1.rd [])))),(28,I (K - 1))],[.box ((Enc.e r).map (V1.rd [])),.box [nilV,jn 0,jn 0,nilV,nilV]]⟩ : St)) (W_go [0,1] (by decide) J (J) (.c J (.c J (.c J (.cons (I_eq (by rw [hK])) (.c J (.cons (I_eq (by rw [hK])) (.nil)))))))) ?_
 cases hk : keyAt r (K - 1) with
 | none =>
  rw [hk] at hka
  rw [seek_none hv (by rw [← hK]; exact hk)]
  refine M1 (q_call J J (hka) J J J) J J ?_;refine zx (Q8 J J J) J (ze J (ze J (M1 (Qx J J J) J J ?_)));refine Qy J J J J J J J J J (z1 J (zz (Qd (zy (z0 J (zn J (zz (Qm J ?_))))))));refine zy (zx (q_build J J J J J) J ?_);refine Qy J J J J J J J J J (z1 J (zz (Xa (T_r (F_r ?_)))))
  exact E_cellt J J J J J (W_fill [1,1,9] [6,7,8] J J (by decide) J J J)
 | some w =>
  rw [hk] at hka hin
  rw [seek_some hv (by rw [← hK]; exact hk),← hK]
  have iw : WorIn w := hin
  have hrw := S_RunWorld w ((r.Rows.take t.toNat).drop (K * r.Every).toNat) iw (gd_part hg.2.2.2.2.1 _ _)
  have hrw : Con Tryz.prog 61 [] [ag w,.c (.rd [] (.sl (Enc.k (List Int)) (((els r.Rows).take t.toNat).drop (K * r.Every).toNat)))] (ownO (Enc.e (runM w ((r.Rows.take t.toNat).drop (K * r.Every).toNat)))) (.o (.ag (ownV 0 (Enc.e (runM w ((r.Rows.take t.toNat).drop (K * r.Every).toNat)))))) := by rw [seek_els]; exact hrw
  generalize runM w ((r.Rows.take t.toNat).drop (K * r.Every).toNat) = z at hrw
  have hq : (0 : Int) ≤ K * r.Every ∧ K * r.Every ≤ t ∧ t ≤ ((els r.Rows).length : Nat) := by omega
  refine M1 (q_call J J (hka) J J J) J J ?_;refine zx (Q8 J J J) J (ze J (ze J (M1 (Qx J J J) J J ?_)));refine Qy J J J J J J J J J (z1 J (zz (Qd (zy (z0 J (zn J (zz (Ql J ?_))))))));refine Qh (Q0 (Qd (A_draw [[],[],[1],[],[],[4],[3,4,5],[],[1,2,3,4,5,6,7],(u9 9),(u9 10),(u9 11)] [[],[],[36],[],[],[39],[38,39,40],[],[36,37,38,39,40,41,42],[35,36,37,38,39,40,41,42,43],[35,36,37,38,39,40,41,42,43,44],[35,36,37,38,39,40,41,42,43,44]] [[36,37,38,39,40,41,42,43],[35,38,39,40,41,42],[35,38,39,40,41,42],[35,36,37,39,40,42],[35,36,37,38,42],[35,36,37,38,42],[35,36,37,42],[35,36,37,38,39,40,41],[35],[],[],[]] J (DR.s (Qu J J J J J J) J J (DR.s (Qf J J J J (by decide)) J J (DR.s (Qg J J J J J) J J (DR.s (Qa J J J) J J (DR.s (Qf J J J J (by decide)) J J (DR.s (Qg J J J J J) J J (DR.s (q_mul J J J J (by omega)) J J (DR.s (Qa J J J) J J ?_)))))))))));refine DR.s (q_part J J J J J J hq) J J ?_;refine DR.s (q_call J J (hrw) J J J) J J ?_;refine DR.stop (by kernel_rfl) (by kernel_rfl) ?_;refine Qy J J J J J J J J J (z1 J (zz (Xa (F_r ?_))))
  exact E_cellt J J J J J (W_end [6,7,8] (by decide) J J J)
end
section
open Go.RowKit

def cntW (x : TWorld) (k : Int) : Int := k + x.Level.Rows.length + x.Scores.length + 9 * x.Bodies.length
def markW (x : TWorld) (k : Int) : TWorld := ⟨⟨markS x.Level.Rows k⟩,x.Tick,x.Seed,markI x.Scores (k + x.Level.Rows.length),markB x.Bodies (k + x.Level.Rows.length + x.Scores.length)⟩
set_option maxHeartbeats 8000000 in
theorem L_markWorld (x : TWorld) (k : Int) (h1 : x.Level.Rows.length ≤ 1048576) (h2 : x.Scores.length ≤ 1048576) (h3 : x.Bodies.length ≤ 1048576) (h0 : 0 < k) (hk : k ≤ 1073741823) : Con Tryz.prog 28 [.row 1 (els x.Level.Rows),.row 1 (els x.Scores),.row 9 (els x.Bodies),.gh 0 (.ag (ownV 0 (Enc.e x)))] [.ag (ownV 0 (Enc.e x)),ai k]
  [.row 1 (els (markW x k).Level.Rows),.row 1 (els (markW x k).Scores),.row 9 (els (markW x k).Bodies),.gh 0 (.ag (ownV 0 (Enc.e x)))] (I (cntW x k)) := by
 refine Con.of Tryz.func28 J Tryz.ntmps28 J (fun E => ?_)
 refine zy (M1 (Qq J J J J) J J (z1 J (zz (zy (z2 J J J (z4 J J J (z0 J ?_)))))));refine Xd (lo := [_]) (gs := [(0,.ag [.ref 0])]) (lo' := [_]) (new := []) [0] [(0,0,.ref 0)] (L_markLevel x.Level.Rows k h1 h0 (by omega)) J J J J J J J J J J J J J J J J J ?_;refine z1 J (zz (zy (z2 J J J (z3 J (z0 J ?_)))));refine Xd (lo := [_]) (gs := [(0,.c (.ref 0))]) (lo' := [_]) (new := []) [1] [(0,0,.ref 0)] (L_markIntS x.Scores (k + x.Level.Rows.length) (by omega) (by omega) (by omega)) J J J J J J J J J J J J J J J J J ?_;refine z1 J (zz (zy (z2 J J J (z3 J (z0 J ?_)))));refine Xd (lo := [_]) (gs := [(0,.c (.ref 0))]) (lo' := [_]) (new := []) [2] [(0,0,.ref 0)] (L_markBodyS x.Bodies (k + x.Level.Rows.length + x.Scores.length) h3 (by omega) (by omega)) J J J J J J J J J J J J J J J J J ?_;refine z1 J (zz (zy (z0 J (z1 J (zz (Xa (F_r ?_)))))))
 exact E_tmp J J (W_end [0,1,2,3] (by decide) J J J)
set_option maxHeartbeats 8000000 in
theorem L_heldWorld (x : TWorld) (k : Int) (h1 : x.Level.Rows.length ≤ 1048576) (h2 : x.Scores.length ≤ 1048576) (h3 : x.Bodies.length ≤ 1048576) (h0 : 0 < k) (hk : k ≤ 1073741823) : Con Tryz.prog 29 [] [ag (markW x k),ai k] [] (I (cntW x k)) := by
 have hn : decide (k + (x.Level.Rows.length : Int) < 0) = false := decide_eq_false (by omega)
 have hm : decide (k + (x.Level.Rows.length : Int) + x.Scores.length < 0) = false := decide_eq_false (by omega)
 have hm2 : decide (k + (x.Level.Rows.length : Int) + x.Scores.length + 9 * x.Bodies.length < 0) = false := decide_eq_false (by omega)
 refine Con.of Tryz.func29 J Tryz.ntmps29 J (fun E => ?_)
 refine zy (M1 (Qq J J J J) J J (z1 J (zz (zy (z2 J J J (z4 J J J (z0 J ?_)))))));refine zx (Qj J J (L_heldLevel x.Level.Rows k h1 h0 (by omega)) J) J ?_;refine z1 J (zz (Qd (zy (z0 J (z9a J (by assumption) (zz (Ql J (Qh ?_))))))));refine Q0 (zy (z2 J J J (z3 J (z0 J ?_))));refine zx (Qj J J (L_heldIntS x.Scores (k + x.Level.Rows.length) (by omega) (by omega) (by omega)) J) J ?_;refine z1 J (zz (Qd (zy (z0 J (z9a J (by assumption) (zz (Ql J (Qh ?_))))))));refine Q0 (zy (z2 J J J (z3 J (z0 J ?_))));refine zx (Qj J J (L_heldBodyS x.Bodies (k + x.Level.Rows.length + x.Scores.length) h3 (by omega) (by omega)) J) J ?_;refine z1 J (zz (Qd (zy (z0 J (z9a J (by assumption) (zz (Ql J (Qh ?_))))))));refine Q0 (zy (z0 J (z1 J (zz (Xa (F_r ?_))))))
 exact E_tmp J J (W_end [] (by decide) J J J)
end
section
open Go.RowKit

@[reducible] def iv (n : Int) : V1 := .rd [] (.v (.int .i64 n))
set_option maxHeartbeats 8000000 in
theorem law_SeekReplay (r : TReplay) (k : Int) (hr : Enc.gd r) (hk : I64 k) : Con Tryz.prog 6 [] [ag r,ai k] [] (B true) := by
 have hz1 := sz_Replay r 1048576 hr (by omega) (by omega)
 by_cases n1 : (1048576 : Int) < Enc.wt r
 ·rw [szr_neg n1] at hz1
  refine Con.of Tryz.func6 J Tryz.ntmps6 J (fun E => ?_)
  refine zy (M1 (Qq J J J J) J J (z1 J (zz (zy (z1 J (zz (Qd ?_)))))));refine Qc (z4 J J J (z0 J ?_));refine zx (Qj J J (hz1) J) J ?_;refine z1 J (zz (Qd (zy (z0 J ?_))));refine zx (Qr (b := true) J J J J (by decide)) J ?_;refine zz (Qm J (zy (z1 J (zz (Xa (T_r (F_r ?_)))))))
  exact E_tmp J J (W_end [] (by decide) J J J)
 rw [szr_pos (by omega)] at hz1
 have hb1 : decide ((1048576 : Int) - Enc.wt r < 0) = false := decide_eq_false (by omega)
 have ix := rep_in hr (by omega)
 have ht1 := to_Replay r (by omega)
 have hks : ∀ x ∈ r.Keys,x.size ≤ 1048576 := fun x hx => by
  have h1 := wts_le r.Keys x hx
  have h2 : Enc.wt r = (r.Level.Rows.length + wts r.Level.Rows) + (r.Rows.length + wts r.Rows) + (r.Keys.length + wts r.Keys) := rfl
  have h3 : Enc.wt x = x.size := rfl
  omega
 have hsp := S_SeekReplay r k hr hk ix hks
 have hip := I_SeekReplay r k hr hk ix hks
 have iy := seek_in (t := k) ix
 generalize rwW (seekM r k) = w at hsp hip iy
 generalize rwB (seekM r k) = b at hsp hip
 have hq1 := eq_World w w iy.gd
 have hq2 := eq_Replay r r hr
 rw [decide_eq_true rfl] at hq1 hq2
 obtain ⟨ix1,ix2,ix3,ix4,ix5⟩ := ix
 obtain ⟨iy1,iy2,iy3,iy4⟩ := iy
 have hm_r := L_markReplay r 1 (by omega) (by omega) (by omega) (by omega) (by omega) (by omega)
 have hm_w := L_markWorld w 1 iy2 iy3 iy4 (by omega) (by omega)
 have hh := L_heldWorld w 1 iy2 iy3 iy4 (by omega) (by omega)
 have hk1 : decide ((1 : Int) + r.Level.Rows.length + tot r.Rows + r.Keys.length < 0) = false := decide_eq_false (by omega)
 have hk2 : decide (cntW w 1 < 0) = false := decide_eq_false (by unfold cntW; omega)
 refine Con.of Tryz.func6 J Tryz.ntmps6 J (fun E => ?_)
 refine zy (M1 (Qq J J J J) J J (z1 J (zz (zy (z1 J (zz (Qd ?_)))))));refine Qc (z4 J J J (z0 J ?_));refine zx (Qj J J (hz1) J) J ?_;refine z1 J (zz (Qd (zy (z0 J (z9a J (by assumption) (zz (Ql J (Qh ?_))))))));refine Q0 (zy (z4 J J J ?_));refine AL.weak (st' := (⟨_,[(1,I k),(2,.o (.c (.ptr 0 0))),(22,.o (.ag ((Enc.e r).map (V1.rd []))))],[.box ((Enc.e r).map (V1.rd []))]⟩ : St)) (W_go [0] (by decide) J (J) (.c J (.c J (.c J (.nil))))) ?_;refine M1 (q_call J J (ht1) J J J) J J ?_;refine z0 J ?_;refine AL.weak (st' := (⟨_,[(1,I k),(2,.o (.c (.ptr 0 0))),(23,.o (.ag [.ref 1,iv r.Players,iv r.Seed,iv r.Every,.ref 2,.ref 3])),(24,I k)],[.box ((Enc.e r).map (V1.rd [])),.row 1 (els r.Level.Rows),.row 1 (els r.Rows),.row 1 (els r.Keys)]⟩ : St)) (W_go [0,1,2,3] (by decide) J (J) (.c J (.c J (.c J (.c J (.nil)))))) ?_;refine M1 (q_call J J (hsp) J J J) J J ?_;refine zx (Q8 J J J) J (ze J (ze J (M1 (Qx J J J) J J ?_)));refine Qy J J J J J J J J J (z1 J (zz (zy (z4 J J J ?_))));refine AL.weak (st' := (⟨_,[(1,I k),(2,.o (.c (.ptr 0 0))),(6,.o (.c (.ptr 4 0))),(7,B b),(28,.o (.ag ((Enc.e r).map (V1.rd []))))],[.box ((Enc.e r).map (V1.rd [])),.row 1 (els w.Level.Rows),.row 1 (els w.Scores),.row 9 (els w.Bodies),.box [.ref 1,iv w.Tick,iv w.Seed,.ref 2,.ref 3]]⟩ : St)) (W_go [0,4,5,6,7] (by decide) J (J) (.c J (.c J (.c J (.c J (.c J (.nil))))))) ?_;refine M1 (q_call J J (ht1) J J J) J J ?_;refine M1 (Qx J J J) J J ?_;refine Qy J J J J J J J J J (zz (zy (z4 J J J (z0 J ?_))));refine AL.weak (st' := (⟨_,[(1,I k),(2,.o (.c (.ptr 0 0))),(6,.o (.c (.ptr 4 0))),(7,B b),(8,.o (.c (.ptr 8 0))),(31,.o (.ag [.ref 5,iv r.Players,iv r.Seed,iv r.Every,.ref 6,.ref 7])),(32,I k)],[.box ((Enc.e r).map (V1.rd [])),.row 1 (els w.Level.Rows),.row 1 (els w.Scores),.row 9 (els w.Bodies),.box [.ref 1,iv w.Tick,iv w.Seed,.ref 2,.ref 3],.row 1 (els r.Level.Rows),.row 1 (els r.Rows),.row 1 (els r.Keys),.box [.ref 5,iv r.Players,iv r.Seed,iv r.Every,.ref 6,.ref 7]]⟩ : St)) (W_go [0,1,2,3,4,5,6,7,8] (by decide) J (J) (.c J (.c J (.c J (.c J (.c J (.c J (.c J (.nil))))))))) ?_;refine M1 (q_call J J (hip) J J J) J J ?_;refine zx (Q8 J J J) J (ze J (ze J (M1 (Qx J J J) J J ?_)));refine Qy J J J J J J J J J (z1 J (zz (Qd (zy (z4 J J J (z4 J J J ?_))))));refine AL.weak (st' := (⟨_,[(1,I k),(2,.o (.c (.ptr 0 0))),(6,.o (.c (.ptr 4 0))),(7,B b),(8,.o (.c (.ptr 8 0))),(9,.o (.c (.ptr 12 0))),(10,B b),(36,.o (.ag [.ref 9,iv w.Tick,iv w.Seed,.ref 10,.ref 11])),(37,.o (.ag [.ref 1,iv w.Tick,iv w.Seed,.ref 2,.ref 3]))],[.box ((Enc.e r).map (V1.rd [])),.row 1 (els w.Level.Rows),.row 1 (els w.Scores),.row 9 (els w.Bodies),.box [.ref 1,iv w.Tick,iv w.Seed,.ref 2,.ref 3],.row 1 (els r.Level.Rows),.row 1 (els r.Rows),.row 1 (els r.Keys),.box [.ref 5,iv r.Players,iv r.Seed,iv r.Every,.ref 6,.ref 7],.row 1 (els w.Level.Rows),.row 1 (els w.Scores),.row 9 (els w.Bodies),.box [.ref 9,iv w.Tick,iv w.Seed,.ref 10,.ref 11]]⟩ : St)) (W_go [0,1,2,3,4,5,6,7,8,9,10,11,12] (by decide) J (J) (.c J (.c J (.c J (.c J (.c J (.c J (.c J (.c J (.c J (.nil))))))))))) ?_;refine zx (Qj J J (hq1) J) J ?_;refine zn J (z0 J (z5 J (z0 J (z5 J (z0 J (z5 J (zx (q_bneqR J J J J) J (zpF J (zz (Ql J ?_))))))))));refine Qh (Q0 (Qd (Qd ?_)))
 refine AWP.pre (st' := (⟨_,[(1,I k),(2,.o (.c (.ptr 0 0))),(6,.o (.c (.ptr 4 0))),(7,B b),(8,.o (.c (.ptr 8 0))),(9,.o (.c (.ptr 12 0))),(10,B b)],[.box ((Enc.e r).map (V1.rd [])),.row 1 (els w.Level.Rows),.row 1 (els w.Scores),.row 9 (els w.Bodies),.box [.ref 1,iv w.Tick,iv w.Seed,.ref 2,.ref 3],.row 1 (els r.Level.Rows),.row 1 (els r.Rows),.row 1 (els r.Keys),.box [.ref 5,iv r.Players,iv r.Seed,iv r.Every,.ref 6,.ref 7],.row 1 (els w.Level.Rows),.row 1 (els w.Scores),.row 9 (els w.Bodies),.box [.ref 9,iv w.Tick,iv w.Seed,.ref 10,.ref 11]]⟩ : St)) ?_ (W_go [0,1,2,3,4,5,6,7,8,9,10,11,12] (by decide) J (J) (.c J (.c J (.c J (.c J (.c J (.c J (.c J (.nil)))))))))
 refine A_draw [[],[],[1],[0,1,2],(u9 4)] [[],[],[46],[45,46,47],[45,46,47,48]] [[46,47],[45],[45],[],[]] J (DR.s (Qu J J J J J J) J J (DR.s (Qu J J J J J J) J J ?_));refine DR.s (q_call J J (ht1) J J J) J J ?_;refine DR.s (Qj J J (hq2) J) J J ?_;refine DR.s (Q4 J J J) J J (DR.stop (by kernel_rfl) (by kernel_rfl) (zz ?_))
 refine AWP.pre (st' := (⟨_,[(1,I k),(2,.o (.c (.ptr 0 0))),(6,.o (.c (.ptr 4 0))),(7,B b),(8,.o (.c (.ptr 8 0))),(9,.o (.c (.ptr 12 0))),(10,B b),(49,B false)],[.box ((Enc.e r).map (V1.rd [])),.row 1 (els w.Level.Rows),.row 1 (els w.Scores),.row 9 (els w.Bodies),.box [.ref 1,iv w.Tick,iv w.Seed,.ref 2,.ref 3],.row 1 (els r.Level.Rows),.row 1 (els r.Rows),.row 1 (els r.Keys),.box [.ref 5,iv r.Players,iv r.Seed,iv r.Every,.ref 6,.ref 7],.row 1 (els w.Level.Rows),.row 1 (els w.Scores),.row 9 (els w.Bodies),.box [.ref 9,iv w.Tick,iv w.Seed,.ref 10,.ref 11]]⟩ : St)) ?_ (W_go [0,1,2,3,4,5,6,7,8,9,10,11,12] (by decide) J (J) (.c J (.c J (.c J (.c J (.c J (.c J (.c J (.c J (.nil))))))))))
 refine Ql J (Qh (Q0 (zy (z1 J (zz (zy (z4 J J J (z0 J ?_))))))));refine Xd (lo := [_,_,_]) (gs := [(0,.ag [.ref 0,iv r.Players,iv r.Seed,iv r.Every,.ref 1,.ref 2])]) (lo' := [_,_,_]) (new := []) [5,6,7] [(0,0,.ref 0),(0,4,.ref 1),(0,5,.ref 2)] (hm_r) J J J J J J J J J J J J J J J J J ?_;refine z1 J (zz (Qd (zy (z0 J (z9a J (by assumption) (z0 J (z5 J (z4 J J J (z5 J ?_)))))))));refine z4 J J J (z5 J ?_);refine AL.weak (st' := (⟨_,[(1,I k),(2,.o (.c (.ptr 0 0))),(6,.o (.c (.ptr 4 0))),(7,B b),(9,.o (.c (.ptr 8 0))),(10,B b),(55,B false),(56,.o (.ag [.ref 5,iv w.Tick,iv w.Seed,.ref 6,.ref 7])),(57,.o (.ag [.ref 1,iv w.Tick,iv w.Seed,.ref 2,.ref 3]))],[.box ((Enc.e r).map (V1.rd [])),.row 1 (els w.Level.Rows),.row 1 (els w.Scores),.row 9 (els w.Bodies),.box [.ref 1,iv w.Tick,iv w.Seed,.ref 2,.ref 3],.row 1 (els w.Level.Rows),.row 1 (els w.Scores),.row 9 (els w.Bodies),.box [.ref 5,iv w.Tick,iv w.Seed,.ref 6,.ref 7]]⟩ : St)) (W_go [0,1,2,3,4,9,10,11,12] (by decide) J (J) (.c J (.c J (.c J (.c J (.c J (.c J (.c J (.c J (.c J (.nil))))))))))) ?_;refine zx (Qj J J (hq1) J) J ?_;refine z5 J (zn J (zpF J (z0 J (z5 J (z0 J (z5 J (z0 J (z5 J (zx (q_bneqR J J J J) J (zpF J (Qe ?_)))))))))));refine Q0 (Ql J (Qh (Q0 (zy (z1 J (zz (zy (z4 J J J ?_))))))));refine z0 J ?_;refine AL.weak (st' := (⟨_,[(1,I k),(2,.o (.c (.ptr 0 0))),(6,.o (.c (.ptr 4 0))),(7,B b),(9,.o (.c (.ptr 8 0))),(66,.o (.ag [.ref 5,iv w.Tick,iv w.Seed,.ref 6,.ref 7])),(67,I 1)],[.box ((Enc.e r).map (V1.rd [])),.row 1 (els w.Level.Rows),.row 1 (els w.Scores),.row 9 (els w.Bodies),.box [.ref 1,iv w.Tick,iv w.Seed,.ref 2,.ref 3],.row 1 (els w.Level.Rows),.row 1 (els w.Scores),.row 9 (els w.Bodies),.box [.ref 5,iv w.Tick,iv w.Seed,.ref 6,.ref 7]]⟩ : St)) (W_go [0,1,2,3,4,5,6,7,8] (by decide) J (J) (.c J (.c J (.c J (.c J (.c J (.c J (.c J (.nil))))))))) ?_;refine Xd (lo := [_,_,_]) (gs := [(0,.ag [.ref 0,iv w.Tick,iv w.Seed,.ref 1,.ref 2])]) (lo' := [_,_,_]) (new := []) [5,6,7] [(0,0,.ref 0),(0,3,.ref 1),(0,4,.ref 2)] (hm_w) J J J J J J J J J J J J J J J J J ?_;refine z1 J (zz (zy (z1 J (zz (zy (z4 J J J (z0 J ?_)))))));refine AL.weak (st' := (⟨_,[(1,I k),(2,.o (.c (.ptr 0 0))),(6,.o (.c (.ptr 4 0))),(7,B b),(9,.o (.c (.ptr 8 0))),(12,I (cntW w 1)),(69,.o (.ag [.ref 5,iv w.Tick,iv w.Seed,.ref 6,.ref 7])),(70,I 1)],[.box ((Enc.e r).map (V1.rd [])),.row 1 (els w.Level.Rows),.row 1 (els w.Scores),.row 9 (els w.Bodies),.box [.ref 1,iv w.Tick,iv w.Seed,.ref 2,.ref 3],.row 1 (els (markW w 1).Level.Rows),.row 1 (els (markW w 1).Scores),.row 9 (els (markW w 1).Bodies),.box [.ref 5,iv w.Tick,iv w.Seed,.ref 6,.ref 7]]⟩ : St)) (W_go [0,1,2,3,4,5,6,7,8] (by decide) J (J) (.c J (.c J (.c J (.c J (.c J (.c J (.c J (.c J (.nil)))))))))) ?_;refine zx (Qj J J (hh) J) J ?_;refine z1 J (zz (Qd (zy (z0 J (z9a J (by assumption) (zz (Ql J (Qh ?_))))))));refine Q0 (Qd (zy (z0 J (z0 J (zx (q_neqR J J J J) J (zz (Ql J (Qh (Q0 ?_)))))))));refine zy (z4 J J J ?_);refine AL.weak (st' := (⟨_,[(1,I k),(6,.o (.c (.ptr 3 0))),(7,B b),(9,.o (.c (.ptr 7 0))),(12,I (cntW w 1)),(78,.o (.ag ((Enc.e r).map (V1.rd []))))],[.row 1 (els w.Level.Rows),.row 1 (els w.Scores),.row 9 (els w.Bodies),.box [.ref 0,iv w.Tick,iv w.Seed,.ref 1,.ref 2],.row 1 (els (markW w 1).Level.Rows),.row 1 (els (markW w 1).Scores),.row 9 (els (markW w 1).Bodies),.box [.ref 4,iv w.Tick,iv w.Seed,.ref 5,.ref 6]]⟩ : St)) (W_go [1,2,3,4,5,6,7,8] (by decide) J (J) (.c J (.c J (.c J (.c J (.c J (.c J (.nil)))))))) ?_;refine M1 (q_call J J (ht1) J J J) J J ?_;refine z0 J ?_;refine AL.weak (st' := (⟨_,[(6,.o (.c (.ptr 3 0))),(7,B b),(9,.o (.c (.ptr 7 0))),(12,I (cntW w 1)),(79,.o (.ag [.ref 8,iv r.Players,iv r.Seed,iv r.Every,.ref 9,.ref 10])),(80,I k)],[.row 1 (els w.Level.Rows),.row 1 (els w.Scores),.row 9 (els w.Bodies),.box [.ref 0,iv w.Tick,iv w.Seed,.ref 1,.ref 2],.row 1 (els (markW w 1).Level.Rows),.row 1 (els (markW w 1).Scores),.row 9 (els (markW w 1).Bodies),.box [.ref 4,iv w.Tick,iv w.Seed,.ref 5,.ref 6],.row 1 (els r.Level.Rows),.row 1 (els r.Rows),.row 1 (els r.Keys)]⟩ : St)) (W_go [0,1,2,3,4,5,6,7,8,9,10] (by decide) J (J) (.c J (.c J (.c J (.c J (.c J (.c J (.nil)))))))) ?_;refine M1 (q_call J J (hip) J J J) J J ?_;refine zx (Q8 J J J) J (ze J (ze J (M1 (Qx J J J) J J ?_)));refine Qy J J J J J J J J J (z1 J (zz (Qd (zy (z4 J J J (z4 J J J ?_))))));refine AL.weak (st' := (⟨_,[(7,B b),(9,.o (.c (.ptr 6 0))),(12,I (cntW w 1)),(15,B b),(84,.o (.ag [.ref 7,iv w.Tick,iv w.Seed,.ref 8,.ref 9])),(85,.o (.ag [.ref 0,iv w.Tick,iv w.Seed,.ref 1,.ref 2]))],[.row 1 (els w.Level.Rows),.row 1 (els w.Scores),.row 9 (els w.Bodies),.row 1 (els (markW w 1).Level.Rows),.row 1 (els (markW w 1).Scores),.row 9 (els (markW w 1).Bodies),.box [.ref 3,iv w.Tick,iv w.Seed,.ref 4,.ref 5],.row 1 (els w.Level.Rows),.row 1 (els w.Scores),.row 9 (els w.Bodies)]⟩ : St)) (W_go [0,1,2,4,5,6,7,11,12,13] (by decide) J (J) (.c J (.c J (.c J (.c J (.c J (.c J (.nil)))))))) ?_;refine zx (Qj J J (hq1) J) J ?_;refine zn J (z0 J (z5 J (z0 J (z5 J (z0 J (z5 J (zx (q_bneqR J J J J) J (zpF J (zz (Ql J ?_))))))))));refine Qh (Q0 (zy (z1 J (zz (zy (z4 J J J (z0 J ?_)))))));refine AL.weak (st' := (⟨_,[(12,I (cntW w 1)),(93,.o (.ag [.ref 0,iv w.Tick,iv w.Seed,.ref 1,.ref 2])),(94,I 1)],[.row 1 (els (markW w 1).Level.Rows),.row 1 (els (markW w 1).Scores),.row 9 (els (markW w 1).Bodies)]⟩ : St)) (W_go [3,4,5] (by decide) J (J) (.c J (.c J (.c J (.nil))))) ?_;refine zx (Qj J J (hh) J) J ?_;refine z1 J (zz (Qd (zy (z0 J (z9a J (by assumption) (zz (Ql J (Qh ?_))))))));refine Q0 (Qd (zy (z0 J (z0 J (zx (q_neqR J J J J) J (zz (Ql J (Qh (Q0 ?_)))))))));refine zy (z1 J (zz (Xa (F_r ?_))))
 exact E_tmp J J (W_end [] (by decide) J J J)
end
section
open Go.ChangeShapes Go.WideShapes Go.ChangeAt Go.RowKit

def RL (w : World) (ts : List T) (cs : List Value) : Prop := ∀ (j : Nat) (t : T) (u : Value),ts[j]? = some t → cs[j]? = some u → RO w (fun _ => True) t u
theorem RL.nil {w : World} {cs : List Value} : RL w [] cs := fun _ _ _ h => by simp at h
theorem RL.app {w : World} {ts us : List T} {cs : List Value} {o n : Nat} (h1 : RL w ts ((cs.drop o).take n)) (hn : ts.length = n) (h2 : RL w us (cs.drop (o + n))) : RL w (ts ++ us) (cs.drop o) := fun j t u h3 h4 => by
 rcases Nat.lt_or_ge j ts.length with hj | hj
 ·rw [List.getElem?_append_left hj] at h3
  exact h1 j t u h3 (by rw [List.getElem?_take,if_pos (by omega)]; exact h4)
 ·rw [List.getElem?_append_right hj] at h3
  refine h2 (j - ts.length) t u h3 ?_
  rw [List.getElem?_drop] at h4 ⊢
  rw [← h4]
  congr 1
  omega
theorem reads_fld {P : Program} {t tt : TypeId} {fs : Array Field} {f : Field} {α : Type} [Enc α] {H : Type} {enc : TypeId × Value → H} {w : World} {spare : Nat → Bool} {held : Bool} {fuel : Nat} {cs : List Value} {x : DataW H × List MemPlace}
  (ht : P.underlying t = some (.struct fs)) (h : DataW.trod enc P w 0 spare held fuel t cs = some x) (i : Nat) (hf : fs[i]? = some f) (hty : f.type = tt) [hα : RdOf P tt α] {o : Nat} (ho : f.offset = o) :
  ∃ y : α,Enc.gd y ∧ RL w (Enc.e y) ((cs.drop o).take (Enc.k α)) := by
 obtain ⟨xs,n,_,_,hl,hlen,hfs⟩ := DataW.trod_struct ht h
 have h1 := hfs i f hf
 have hi : i < fs.size := by
  rcases Nat.lt_or_ge i fs.size with h2 | h2
  ·exact h2
  ·rw [Array.getElem?_eq_none h2] at hf; cases hf
 rw [List.getElem?_eq_getElem (by omega),hty,ho,hα.size] at h1
 obtain ⟨y,hg,hr⟩ := hα.of h1
 exact ⟨y,hg,hr.2⟩
theorem reads_len {P : Program} {t : TypeId} {fs : Array Field} {H : Type} {enc : TypeId × Value → H} {w : World} {spare : Nat → Bool} {held : Bool} {fuel : Nat} {cs : List Value} {x : DataW H × List MemPlace}
  (ht : P.underlying t = some (.struct fs)) (h : DataW.trod enc P w 0 spare held fuel t cs = some x) : cs.length = P.cellsOf t := by
 obtain ⟨xs,n,_,_,hl,_⟩ := DataW.trod_struct ht h
 exact hl

instance : RdOf Tryz.prog 3 Int := rdOf_int Tryz.underlying3 (by kernel_rfl)
instance : RdOf Tryz.prog 9 ByteArray := rdOf_string Tryz.underlying9 (by kernel_rfl)
instance : RdOf Tryz.prog 36 (List Int) := rdOf_slice Tryz.underlying36 (by kernel_rfl)
instance : RdOf Tryz.prog 22 (List ByteArray) := rdOf_slice Tryz.underlying22 (by kernel_rfl)
instance : RdOf Tryz.prog 25 (List (List Int)) := rdOf_slice Tryz.underlying25 (by kernel_rfl)
instance : RdOf Tryz.prog 24 TLevel where
 size := by kernel_rfl
 of {H enc w spare held fuel cs x} h := by
  obtain ⟨y0,g0,r0⟩ := reads_fld (α := (List ByteArray)) (tt := 22) Tryz.underlying24 h 0 rfl rfl rfl
  refine ⟨⟨y0⟩,g0,?_,?_⟩
  ·rw [reads_len Tryz.underlying24 h]; kernel_rfl
  ·exact (RL.app (o := 0) (n := 1) r0 rfl (RL.nil) : RL w _ (cs.drop 0))
instance : RdOf Tryz.prog 27 TReplay where
 size := by kernel_rfl
 of {H enc w spare held fuel cs x} h := by
  obtain ⟨y0,g0,r0⟩ := reads_fld (α := TLevel) (tt := 24) Tryz.underlying27 h 0 rfl rfl rfl
  obtain ⟨y1,g1,r1⟩ := reads_fld (α := Int) (tt := 3) Tryz.underlying27 h 1 rfl rfl rfl
  obtain ⟨y2,g2,r2⟩ := reads_fld (α := Int) (tt := 3) Tryz.underlying27 h 2 rfl rfl rfl
  obtain ⟨y3,g3,r3⟩ := reads_fld (α := Int) (tt := 3) Tryz.underlying27 h 3 rfl rfl rfl
  obtain ⟨y4,g4,r4⟩ := reads_fld (α := (List (List Int))) (tt := 25) Tryz.underlying27 h 4 rfl rfl rfl
  obtain ⟨y5,g5,r5⟩ := reads_fld (α := (List ByteArray)) (tt := 22) Tryz.underlying27 h 5 rfl rfl rfl
  refine ⟨⟨y0,y1,y2,y3,y4,y5⟩,⟨g0,g1,g2,g3,g4,g5⟩,?_,?_⟩
  ·rw [reads_len Tryz.underlying27 h]; kernel_rfl
  ·exact (RL.app (o := 0) (n := 1) r0 rfl (RL.app (o := 1) (n := 1) r1 rfl (RL.app (o := 2) (n := 1) r2 rfl (RL.app (o := 3) (n := 1) r3 rfl (RL.app (o := 4) (n := 1) r4 rfl (RL.app (o := 5) (n := 1) r5 rfl (RL.nil)))))) : RL w _ (cs.drop 0))
end
end Go.Proofs.YtmljakmaffbnlaaGreat
