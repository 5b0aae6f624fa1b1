/-
  Parts of the proof (rules, data, and what functions of the program and of the reference return), among them: The kit's readings of the laws' structs as Lean data; The kit's reading of a list of bytes as Lean data.
  Conditions: those that each theorem names.
-/
import Derived.Test.YtbfhboakafjjgaaGreatDDReplRowk15
import Derived.Test.YtbfhboakafjjgaaGreatDDReplRowk24
import Derived.Test.YtbfhboakafjjgaaGreatDDReplRowk35
import Derived.Test.YtbfhboakafjjgaaGreatDDReplRowk40
set_option linter.unusedSimpArgs false
set_option linter.unusedVariables false
set_option maxRecDepth 8000
set_option maxHeartbeats 1000000
namespace Go.Proofs.YtbfhboakafjjgaaGreat
section
open Go.RowKit

theorem RD.rep {l : TLevel} {n : Nat} {seed : Int} {e : Nat} {rows : List (List Int)} (h : RD l n seed e rows) (gr : Enc.gd rows) {k : Nat} (hk : k ≤ rows.length) : RepIn (replK l n seed e rows k) ∧ KeysIn (replK l n seed e rows k) := by
 have hL := h.hL
 have hs := Y3.1 h.hs
 have hn := h.hn
 have he := h.he
 have hks : ∀ x ∈ keysK l n seed e rows (k / e),x.size ≤ 1048576 := fun x hx => by
  rw [keysK] at hx
  obtain ⟨j,_,rfl⟩ := List.mem_map.1 hx
  have h5 := deltaT_size (worldBytes (lockW l n seed rows (j * e))) (worldBytes (lockW l n seed rows ((j + 1) * e)))
  have h6 := Yj (lockW l n seed rows ((j + 1) * e))
  omega
 have hkl : (keysK l n seed e rows (k / e)).length ≤ 9223372036854775807 := by rw [Y4]; exact Nat.le_trans (Nat.div_le_self _ _) (by omega)
 have hg : Enc.gd (replK l n seed e rows k) := ⟨h.gl,⟨by show _ ≤ (n : Int); omega,by show (n : Int) ≤ _; omega⟩,⟨by show _ ≤ seed; omega,by show seed ≤ _; omega⟩,⟨by show _ ≤ (e : Int); omega,by show (e : Int) ≤ _; omega⟩,Enc.gd_take gr _,⟨hkl,fun x hx => by have := hks x hx; show x.size ≤ _; omega⟩⟩
 exact ⟨ok_in hg h.ll (h.ok hk),hks⟩
theorem law_Replays (code : List UInt8) (hg : Enc.gd code) : Con Tryz.prog 3 [] [al code] [] (B true) := by
 have cb := L_big code
 by_cases hb : code.length > 1048576
 ·rw [decide_eq_true hb] at cb
  refine Con.of Tryz.func3 J Tryz.ntmps3 J (fun E => ?_)
  refine zy (z1 J (zz (Qd (zy (z0 J ?_)))));refine zx (Qj J J (cb) J) J ?_;refine zz (Qm J (zy (z1 J (zz (Xa (T_r (F_r ?_)))))))
  exact Xp J J (X5 [] (by decide) J J J)
 rw [decide_eq_false hb] at cb
 have hb : code.length ≤ 1048576 := by omega
 have cd := S_DrawPlay code hb
 have hk0 := atM_rng code 0
 obtain ⟨e,he⟩ : ∃ e : Nat,(e : Int) = 1 + atM code 0 % 20 := ⟨(1 + atM code 0 % 20).toNat,by omega⟩
 have R := play_rd code (e := e) (by omega)
 have hro := plRows_ok code
 have ca0 := L_at code 0 (by omega) hb
 generalize (lvD code).1 = l at cd R
 generalize (sdD code).1 = seed at cd R
 generalize plRows code = rows at cd R hro
 generalize plN code = n at cd R hro
 have gr : Enc.gd rows := gd_rows (n := n) (by omega) (by have := R.hn; omega) hro.2
 have hL := hro.1
 have hlr := Yp rows
 have hg0 := R.good
 have hi0 := R.in_
 have hs0 := Y3.1 R.hs
 have hn0 := R.hn
 have hre := R.rep gr (k := rows.length) (Nat.le_refl _)
 have hr0 := R.rep gr (k := 0) (Nat.zero_le _)
 have cn := I_NewReplay l n seed e R.gl R.ll ⟨by omega,by omega⟩ ⟨by omega,by omega⟩ ⟨by omega,by omega⟩
 have hrep0 : (⟨l,(n : Int),seed,(e : Int),[],[]⟩ : TReplay) = replK l n seed e rows 0 := by rw [replK,Nat.zero_div]; rfl
 have hok0 := R.ok (Nat.zero_le _)
 rw [show newReplay l n seed e = replK l n seed e rows 0 by rw [newReplay,hrep0,hok0]; rfl,hrep0,hok0] at cn
 have cA := I_AddRows (replK l n seed e rows 0) rows gr hr0.1 (fun r hr => by rw [(hro.2 r hr).1]; omega) hr0.2
 rw [R.adds] at cA
 have hsk : ∀ {t : Nat},t ≤ rows.length → seekM (replK l n seed e rows rows.length) t = some (lockW l n seed rows t) := fun h => R.seek (Nat.le_refl _) h
 have hpl : ∀ {t : Nat},t ≤ rows.length → playM (replK l n seed e rows rows.length) t = some (lockW l n seed rows t) := fun h => R.play (Nat.le_refl _) h
 have htm := R.tamper (Nat.le_refl _)
 have hok := R.ok (Nat.le_refl _)
 have hsR : (replK l n seed e rows rows.length).Rows = rows := List.take_length
 have hsK : (replK l n seed e rows rows.length).Keys.length = rows.length / e := Y4 _
 have hsE : (replK l n seed e rows rows.length).Every = e := rfl
 have hstep : ∀ {t : Nat} {r : List Int},rows[t]? = some r → stepW (lockW l n seed rows t) r = lockW l n seed rows (t + 1) := fun h => lock_step h
 have hlast : lockW l n seed rows (rows.length + 1) = lockW l n seed rows rows.length := by rw [lockW,lockW,List.take_of_length_le (by omega),List.take_length]
 rw [← lockW_zero (rows := rows)] at cd
 obtain ⟨lw,hlw⟩ : ∃ lw : Nat → TWorld,lw = lockW l n seed rows := ⟨_,rfl⟩
 rw [← hlw] at cd hg0 hi0 hsk hpl hstep hlast
 have hlv : ∀ t,(lw t).Level = l := fun t => (hg0 t).2.2.1
 have hsl : (lw 0).Scores.length = n := (hg0 0).2.2.2
 have hls0 := Yp (lw 0).Scores
 have hsd : (lw 0).Seed = seed := by rw [hlw]; rfl
 generalize replK l n seed e rows rows.length = s at cA hsk hpl htm hok hsR hsK hsE hre
 generalize replK l n seed e rows 0 = r0 at cn cA
 have cn : Con Tryz.prog 9 [] [ag (lw 0).Level,ai ((els (lw 0).Scores).length : Int),ai (lw 0).Seed,ai (1 + atM code 0 % 20)] (ownO (Enc.e r0)) (.tu [.ag (ownV 0 (Enc.e r0)),.c (bv true)]) := by rw [hlv,hls0,hsl,hsd,← he]; exact cn
 have hgs := hre.1.gd
 refine Con.of Tryz.func3 J Tryz.ntmps3 J (fun E => ?_)
 refine zy (z1 J (zz (Qd (zy (z0 J ?_)))));refine zx (Qj J J (cb) J) J ?_;refine zz (Ql J (Qh (Q0 (zy (z0 J ?_)))));refine X3 (lo := []) (gs := []) (lo' := []) (new := [_,_,_]) [] [] (cd) J J J J J J J J J J J J J J J J J ?_;refine zx (Q8 J J J) J (ze J (ze J (M1 (Qx J J J) J J ?_)));refine Qy J J J J J J J J J (z1 J (zz (Qd ?_)))
 refine AWP.pre (st' := (⟨_,[(0,L code),(3,.o (.c (.ptr 3 0))),(4,L rows)],[.row 1 (els (lw 0).Level.Rows),.row 1 (els (lw 0).Scores),.row 9 (els (lw 0).Bodies),.box [.ref 0,jn (lw 0).Tick,jn (lw 0).Seed,.ref 1,.ref 2]]⟩ : St)) ?_ (W_gj [0,1,2,3] (by kernel_rfl))
 refine Xi [[],[0],[],[2],[2,3],[],[5],[],[7],[7,8],[7,8,9],(u9 11),(u9 12),(u9 13),(u9 13),[],[0,1,2,3,4,5,6,7,8,9,10,11,12,13,15],(u9 17)] [[],[25],[],[27],[27,28],[],[30],[],[32],[32,33],[32,33,34],[25,26,27,28,29,30,31,32,33,34,35],[25,26,27,28,29,30,31,32,33,34,35,36],[24,25,26,27,28,29,30,31,32,33,34,35,36],[24,25,26,27,28,29,30,31,32,33,34,35,36],[],[5,24,25,26,27,28,29,30,31,32,33,34,35,36,37],[5,24,25,26,27,28,29,30,31,32,33,34,35,36,37,38]] [[5,27,28,29,30,31,32,33,34,35],[5,27,28,29,30,31,32,33,34,35],[5,25,26,30,31,32,33,34,35],[5,25,26,30,31,32,33,34,35],[5,25,26,30,31,32,33,34,35],[5,25,26,27,28,29,32,33,34,35],[5,25,26,27,28,29,32,33,34,35],[5,25,26,27,28,29,30,31],[5,25,26,27,28,29,30,31],[5,25,26,27,28,29,30,31],[5,25,26,27,28,29,30,31],[5],[5],[5,38],[5,37],[24,25,26,27,28,29,30,31,32,33,34,35,36,37,38],[38],[],[14]] J (DR.s (Qf J J J J (by decide)) J J (DR.s (Qu J J J J J J) J J (DR.s (Qf J J J J (by decide)) J J (DR.s (Qg J J J J J) J J (DR.s (Zx J J J J) J J (DR.s (Qf J J J J (by decide)) J J (DR.s (Qg J J J J J) J J (DR.s (Qa J J J) J J ?_))))))));refine DR.s (Qj J J (ca0) J) J J ?_;refine DR.s (Z6 J J J J (by omega)) J J (DR.s (Qs J J J J (by omega)) J J ?_);refine DR.s (Zo J J (cn) J J J) J J ?_;refine DR.s (Q8 J J J) J J (DR.s (Zr J J J J) J J (DR.s (Zr J J J J) J J (DR.s (Qx J J J) J J (DR.stop (by kernel_rfl) (by kernel_rfl) ?_))));refine Qy J J J J J J J J J (z1 J (zz (zy (z4 J J J (z0 J ?_)))));refine AL.weak (st' := (⟨_,[(3,.o (.c (.ptr 3 0))),(4,L rows),(5,.o (.c (.ptr 7 0))),(6,B true),(40,.o (.ag [.ref 4,jn r0.Players,jn r0.Seed,jn r0.Every,.ref 5,.ref 6])),(41,L rows)],[.row 1 (els (lw 0).Level.Rows),.row 1 (els (lw 0).Scores),.row 9 (els (lw 0).Bodies),.box [.ref 0,jn (lw 0).Tick,jn (lw 0).Seed,.ref 1,.ref 2],.row 1 (els r0.Level.Rows),.row 1 (els r0.Rows),.row 1 (els r0.Keys),.box [.ref 4,jn r0.Players,jn r0.Seed,jn r0.Every,.ref 5,.ref 6]]⟩ : St)) (W_gj [0,1,2,3,4,5,6,7] (by kernel_rfl)) ?_;refine M1 (Zo J J (cA) J J J) J J ?_;refine zx (Q8 J J J) J (ze J (ze J (M1 (Qx J J J) J J ?_)));refine Qy J J J J J J J J J (z1 J (zz (Qd (zy (z0 J (zn J (z0 J (z5 J (z0 J ?_)))))))));refine z5 J (zn J (zpF J (zz (Ql J (Qh (Q0 (zy (z4 J J J (M1 (Qx J J J) J J ?_)))))))));refine Qy J J J J J J J J J (zz (Qd (zy (z1 J (zz (Qk ?_))))));refine A_lq (fun m st => ∃ (t : Nat) (x : TWorld),t + m = (rows.length + 1) ∧ (x = lw t) ∧ st = (⟨_,[(4,L rows),(7,.o (.c (.ptr 6 0))),(9,.o (.c (.ptr 7 0))),(10,I t)],[.row 1 (els x.Level.Rows),.row 1 (els x.Scores),.row 9 (els x.Bodies),.row 1 (els s.Level.Rows),.row 1 (els s.Rows),.row 1 (els s.Keys),.box [.ref 3,jn s.Players,jn s.Seed,jn s.Every,.ref 4,.ref 5],.box [.ref 0,jn x.Tick,jn x.Seed,.ref 1,.ref 2]]⟩ : St)) ((rows.length + 1)) ⟨_,⟨0,lw 0,by omega,J,J⟩,W_gj [0,1,2,8,9,10,11,12] (by kernel_rfl)⟩ ?_
 rintro m_A _ ⟨t,x,hk_A,hp_A,rfl⟩
 by_cases hle : t ≤ rows.length
 ·have f0 : decide ((t : Int) ≤ ((els rows).length : Int)) = true := decide_eq_true (by omega)
  have csk := I_SeekReplay s t hgs ⟨by omega,by omega⟩ hre.1 hre.2
  have cpl := I_PlayReplay s t hgs ⟨by omega,by omega⟩ hre.1
  rw [hsk hle,← hp_A] at csk
  rw [hpl hle,← hp_A] at cpl
  have gx : Enc.gd x := by rw [hp_A]; exact (hi0 t).gd
  have csw := S_SameWorld x x gx
  rw [decide_eq_true rfl] at csw
  refine Qd (zy (z0 J (z0 J (zx (Zw J J J) J (z9b J (by assumption) (zz (Qm J (Qh (Q0 ?_)))))))));refine Qd (Qk (zy (z4 J J J (z0 J ?_))));refine AL.weak (st' := (⟨_,[(4,L rows),(7,.o (.c (.ptr 6 0))),(9,.o (.c (.ptr 7 0))),(10,I t),(59,.o (.ag [.ref 3,jn s.Players,jn s.Seed,jn s.Every,.ref 4,.ref 5])),(60,I t)],[.row 1 (els x.Level.Rows),.row 1 (els x.Scores),.row 9 (els x.Bodies),.row 1 (els s.Level.Rows),.row 1 (els s.Rows),.row 1 (els s.Keys),.box [.ref 3,jn s.Players,jn s.Seed,jn s.Every,.ref 4,.ref 5],.box [.ref 0,jn x.Tick,jn x.Seed,.ref 1,.ref 2]]⟩ : St)) (W_gj [0,1,2,3,4,5,6,7] (by kernel_rfl)) ?_;refine M1 (Zo J J (csk) J J J) J J ?_;refine zx (Q8 J J J) J (ze J (ze J (M1 (Qx J J J) J J ?_)));refine Qy J J J J J J J J J (z1 J (zz (zy (z4 J J J (z0 J ?_)))));refine AL.weak (st' := (⟨_,[(4,L rows),(7,.o (.c (.ptr 6 0))),(9,.o (.c (.ptr 7 0))),(10,I t),(11,.o (.c (.ptr 11 0))),(12,B true),(65,.o (.ag [.ref 3,jn s.Players,jn s.Seed,jn s.Every,.ref 4,.ref 5])),(66,I t)],[.row 1 (els x.Level.Rows),.row 1 (els x.Scores),.row 9 (els x.Bodies),.row 1 (els s.Level.Rows),.row 1 (els s.Rows),.row 1 (els s.Keys),.box [.ref 3,jn s.Players,jn s.Seed,jn s.Every,.ref 4,.ref 5],.box [.ref 0,jn x.Tick,jn x.Seed,.ref 1,.ref 2],.row 1 (els x.Level.Rows),.row 1 (els x.Scores),.row 9 (els x.Bodies),.box [.ref 8,jn x.Tick,jn x.Seed,.ref 9,.ref 10]]⟩ : St)) (W_gj [0,1,2,3,4,5,6,7,8,9,10,11] (by kernel_rfl)) ?_;refine M1 (Zo J J (cpl) J J J) J J ?_;refine zx (Q8 J J J) J (ze J (ze J (M1 (Qx J J J) J J ?_)));refine Qy J J J J J J J J J (z1 J (zz (Qd (zy (z0 J (zn J (z0 J (z5 J (z0 J ?_)))))))));refine z5 J (zn J (zpF J (z0 J (z5 J (z4 J J J (z5 J (z4 J J J (z5 J ?_))))))));refine zx (Qj J J (csw) J) J ?_;refine z5 J (zn J (zpF J (z0 J (z5 J (z4 J J J (z5 J (z4 J J J (z5 J ?_))))))));refine zx (Qj J J (csw) J) J ?_;refine z5 J (zn J (zpF J (zz (Ql J (Qh (Q0 (zy (z0 J (z0 J ?_)))))))));refine zx (Zw J J J) J (zx (Z1 J J J J) J (zz ?_))
  refine AWP.pre (st' := (⟨_,[(4,L rows),(7,.o (.c (.ptr 6 0))),(9,.o (.c (.ptr 7 0))),(10,I t),(91,B (decide ((t : Int) < ((els rows).length : Int))))],[.row 1 (els x.Level.Rows),.row 1 (els x.Scores),.row 9 (els x.Bodies),.row 1 (els s.Level.Rows),.row 1 (els s.Rows),.row 1 (els s.Keys),.box [.ref 3,jn s.Players,jn s.Seed,jn s.Every,.ref 4,.ref 5],.box [.ref 0,jn x.Tick,jn x.Seed,.ref 1,.ref 2]]⟩ : St)) ?_ (W_gj [0,1,2,3,4,5,6,7] (by kernel_rfl))
  refine Xb J (fun h => ?_) (fun h => ?_)
  ·have hl2 := of_decide_eq_true h
   obtain ⟨row,hr⟩ := Kk (xs := rows) (i := t) (by omega)
   have her := Yr hr
   have hs1 := hstep hr
   have wx := hi0 t
   rw [← hp_A] at hs1 wx
   have grow := gr.2 row (List.mem_of_getElem? hr)
   have cst := S_StepWorld x row wx.gd grow wx.h1 wx.h2 wx.h3
   rw [hs1] at cst
   have hlx : x.Level = (lw (t + 1)).Level := by rw [hp_A,hlv,hlv]
   rw [hlx] at cst
   skip
   refine Xi [[],[],[],[1,2],[1,2,3],(u9 5),(u9 6)] [[],[],[],[93,94],[93,94,95],[92,93,94,95,96],[92,93,94,95,96,97]] [[93,94,95,96],[92,94],[92,93],[92],[92],[],[]] J (DR.s (Qu J J J J J J) J J (DR.s (Qa J J J) J J (DR.s (Qa J J J) J J (DR.s (Q2 J J J J (by omega) (by assumption) J) J J (DR.s (Z0 J J J J) J J ?_)))));refine DR.s (Zo J J (cst) J J J) J J ?_;refine DR.stop (by kernel_rfl) (by kernel_rfl) ?_;refine Qy J J J J J J J J J (Qe (Q1 (Q0 (Qc (z0 J (z7 J (by omega) (z1 J (zz ?_))))))))
   exact ⟨(rows.length + 1) - (t + 1),by omega,_,⟨t + 1,lw (t + 1),by omega,J,J⟩,W_gj [8,9,10,3,4,5,6,7] (by kernel_rfl)⟩
  ·have hl2 := of_decide_eq_false h
   have htl : t = rows.length := by omega
   refine Qh (Q1 (Q0 (Qc (z0 J (z7 J (by omega) (z1 J (zz ?_)))))))
   exact ⟨(rows.length + 1) - (t + 1),by omega,_,⟨t + 1,x,by omega,by rw [hp_A,htl]; exact hlast.symm,J⟩,W_gj [0,1,2,3,4,5,6,7] (by kernel_rfl)⟩
 ·have f0 : decide ((t : Int) ≤ ((els rows).length : Int)) = false := decide_eq_false (by omega)
  have csk := I_SeekReplay s (((els rows).length : Int) + 1) hgs ⟨by omega,by omega⟩ hre.1 hre.2
  rw [seek_no (by rw [hsR]; omega)] at csk
  have ctm := I_FindTamper s hgs hre.1 hre.2
  rw [htm] at ctm
  have cok := Xu s hgs
  rw [hok] at cok
  have hE1 : 1 ≤ s.Every := by omega
  have hlk := Yp s.Keys
  have g1 : decide ((-1 : Int) = -1) = true := rfl
  have g2 : decide (((els s.Keys).length : Int) = ((els rows).length : Int) / s.Every) = true := decide_eq_true (by rw [hlk,hlr,hsK,hsE]; rfl)
  refine Qd (zy (z0 J (z0 J (zx (Zw J J J) J (z9b J (by assumption) (zz (Ql J (Q9 (T_x ?_)))))))));refine T_x (Xl (Q0 (zy (z4 J J J (z0 J (zx (Zw J J J) J (z7 J (by omega) ?_)))))));refine M1 (Zo J J (csk) J J J) J J ?_;refine zx (Q8 J J J) J (ze J (ze J (M1 (Qx J J J) J J ?_)));refine Qy J J J J J J J J J (z1 J (zz (Qd ?_)))
  refine AWP.pre (st' := (⟨_,[(4,L rows),(7,.o (.c (.ptr 3 0))),(16,B false)],[.row 1 (els s.Level.Rows),.row 1 (els s.Rows),.row 1 (els s.Keys),.box [.ref 0,jn s.Players,jn s.Seed,jn s.Every,.ref 1,.ref 2]]⟩ : St)) ?_ (W_gj [3,4,5,6] (by kernel_rfl))
  refine Xi [[],[0],[0,1],[0,1,2],(u9 4),(u9 5),(u9 6),(u9 7),(u9 8),(u9 9),(u9 10),(u9 11),(u9 12),(u9 13),(u9 14),(u9 12),[0,1,2,3,4,5,6,7,8,9,10,11,15],(u9 12),[0,1,2,3,4,5,6,7,8,9,10,11,17],[0,1,2,3,4,5,6,7,8,9,10,11,15,16,17,18],(u9 20),(u9 21),(u9 22)] [[],[106],[106,107],[106,107,108],[106,107,108,109],[106,107,108,109,110],[106,107,108,109,110,111],[106,107,108,109,110,111,112],[106,107,108,109,110,111,112,113],[106,107,108,109,110,111,112,113,114],[106,107,108,109,110,111,112,113,114,115],[106,107,108,109,110,111,112,113,114,115,116],[106,107,108,109,110,111,112,113,114,115,116,117],[106,107,108,109,110,111,112,113,114,115,116,117,118],[106,107,108,109,110,111,112,113,114,115,116,117,118,119],[106,107,108,109,110,111,112,113,114,115,116,117],[106,107,108,109,110,111,112,113,114,115,116,117,121],[106,107,108,109,110,111,112,113,114,115,116,117],[106,107,108,109,110,111,112,113,114,115,116,117,123],[106,107,108,109,110,111,112,113,114,115,116,117,121,122,123,124],[106,107,108,109,110,111,112,113,114,115,116,117,118,119,120,121,122,123,124,125],[106,107,108,109,110,111,112,113,114,115,116,117,118,119,120,121,122,123,124,125,126],[106,107,108,109,110,111,112,113,114,115,116,117,118,119,120,121,122,123,124,125,126,127]] [[],[],[],[],[],[],[],[],[],[],[],[],[121,122,123,124,125],[121,122,123,124,125],[121,122,123,124,125],[118,119,120,123,124],[118,119,120,123,124],[118,119,120,121,122],[118,119,120,121,122],[118,119,120],[],[],[]] J (DR.s (Qa J J J) J J (DR.s (Q4 J J J) J J (DR.s (Qa J J J) J J (DR.s (Qt.yes J J J (Qu J J J J J J)) J J ?_))));refine DR.s (Qt.yes J J J (Qj J J (ctm) J)) J J ?_;refine DR.s (Qt.yes J J J (Qv J J J J (by assumption))) J J (DR.s (Qo J J J J) J J (DR.s (Qa J J J) J J (DR.s (Qt.yes J J J (Qu J J J J J J)) J J ?_)));refine DR.s (Qt.yes J J J (Qj J J (cok) J)) J J ?_;refine DR.s (Qo J J J J) J J (DR.s (Qa J J J) J J (DR.s (Qt.yes J J J (Qf J J J J (by decide))) J J (DR.s (Qt.yes J J J (Qg J J J J J)) J J (DR.s (Qt.yes J J J (Zx J J J J)) J J (DR.s (Qt.yes J J J (Qa J J J)) J J (DR.s (Qt.yes J J J (Zw J J J)) J J (DR.s (Qt.yes J J J (Qf J J J J (by decide))) J J (DR.s (Qt.yes J J J (Qg J J J J J)) J J (DR.s (Qt.yes J J J (q_quo J J J J (by omega))) J J (DR.s (Qt.yes J J J (Qv J J J J (by assumption))) J J (DR.s (Qo J J J J) J J ?_)))))))))));refine DR.s (Qb J J J) J J (DR.stop (by kernel_rfl) (by kernel_rfl) (zz (Xa (F_r ?_))))
  exact Xp J J (X5 [] (by decide) J J J)
end
section
open Go.ChangeShapes Go.WideShapes Go.ChangeAt Go.RowKit

def RL (w : World) (ts : List T) (cs : List Value) : Prop := ∀ (j : Nat) (t : T) (u : Value),ts[j]? = some t → cs[j]? = some u → RO w (fun _ => True) t u
theorem RL.nil {w : World} {cs : List Value} : RL w [] cs := fun _ _ _ h => by simp at h
theorem RL.app {w : World} {ts us : List T} {cs : List Value} {o n : Nat} (h1 : RL w ts ((cs.drop o).take n)) (hn : ts.length = n) (h2 : RL w us (cs.drop (o + n))) : RL w (ts ++ us) (cs.drop o) := fun j t u h3 h4 => by
 rcases Nat.lt_or_ge j ts.length with hj | hj
 ·rw [List.getElem?_append_left hj] at h3
  exact h1 j t u h3 (by rw [List.getElem?_take,if_pos (by omega)]; exact h4)
 ·rw [List.getElem?_append_right hj] at h3
  refine h2 (j - ts.length) t u h3 ?_
  rw [List.getElem?_drop] at h4 ⊢
  rw [← h4]
  congr 1
  omega
theorem Kb {P : Program} {t tt : TypeId} {fs : Array Field} {f : Field} {α : Type} [Enc α] {H : Type} {enc : TypeId × Value → H} {w : World} {spare : Nat → Bool} {held : Bool} {fuel : Nat} {cs : List Value} {x : DataW H × List MemPlace}
  (ht : P.underlying t = some (.struct fs)) (h : DataW.trod enc P w 0 spare held fuel t cs = some x) (i : Nat) (hf : fs[i]? = some f) (hty : f.type = tt) [hα : RdOf P tt α] {o : Nat} (ho : f.offset = o) :
  ∃ y : α,Enc.gd y ∧ RL w (Enc.e y) ((cs.drop o).take (Enc.k α)) := by
 obtain ⟨xs,n,_,_,hl,hlen,hfs⟩ := DataW.trod_struct ht h
 have h1 := hfs i f hf
 have hi : i < fs.size := by
  rcases Nat.lt_or_ge i fs.size with h2 | h2
  ·exact h2
  ·rw [Array.getElem?_eq_none h2] at hf; cases hf
 rw [List.getElem?_eq_getElem (by omega),hty,ho,hα.size] at h1
 obtain ⟨y,hg,hr⟩ := hα.of h1
 exact ⟨y,hg,hr.2⟩
theorem reads_len {P : Program} {t : TypeId} {fs : Array Field} {H : Type} {enc : TypeId × Value → H} {w : World} {spare : Nat → Bool} {held : Bool} {fuel : Nat} {cs : List Value} {x : DataW H × List MemPlace}
  (ht : P.underlying t = some (.struct fs)) (h : DataW.trod enc P w 0 spare held fuel t cs = some x) : cs.length = P.cellsOf t := by
 obtain ⟨xs,n,_,_,hl,_⟩ := DataW.trod_struct ht h
 exact hl

instance : RdOf Tryz.prog 3 Int := rdOf_int Tryz.underlying3 (by kernel_rfl)
instance : RdOf Tryz.prog 9 ByteArray := rdOf_string Tryz.underlying9 (by kernel_rfl)
instance : RdOf Tryz.prog 27 (List Int) := rdOf_slice Tryz.underlying27 (by kernel_rfl)
instance : RdOf Tryz.prog 24 (List ByteArray) := rdOf_slice Tryz.underlying24 (by kernel_rfl)
instance : RdOf Tryz.prog 31 (List (List Int)) := rdOf_slice Tryz.underlying31 (by kernel_rfl)
instance : RdOf Tryz.prog 49 TLevel where
 size := by kernel_rfl
 of {H enc w spare held fuel cs x} h := by
  obtain ⟨y0,g0,r0⟩ := Kb (α := (List ByteArray)) (tt := 24) Tryz.underlying49 h 0 rfl rfl rfl
  refine ⟨⟨y0⟩,g0,?_,?_⟩
  ·rw [reads_len Tryz.underlying49 h]; kernel_rfl
  ·exact (RL.app (o := 0) (n := 1) r0 rfl (RL.nil) : RL w _ (cs.drop 0))
instance : RdOf Tryz.prog 51 TReplay where
 size := by kernel_rfl
 of {H enc w spare held fuel cs x} h := by
  obtain ⟨y0,g0,r0⟩ := Kb (α := TLevel) (tt := 49) Tryz.underlying51 h 0 rfl rfl rfl
  obtain ⟨y1,g1,r1⟩ := Kb (α := Int) (tt := 3) Tryz.underlying51 h 1 rfl rfl rfl
  obtain ⟨y2,g2,r2⟩ := Kb (α := Int) (tt := 3) Tryz.underlying51 h 2 rfl rfl rfl
  obtain ⟨y3,g3,r3⟩ := Kb (α := Int) (tt := 3) Tryz.underlying51 h 3 rfl rfl rfl
  obtain ⟨y4,g4,r4⟩ := Kb (α := (List (List Int))) (tt := 31) Tryz.underlying51 h 4 rfl rfl rfl
  obtain ⟨y5,g5,r5⟩ := Kb (α := (List ByteArray)) (tt := 24) Tryz.underlying51 h 5 rfl rfl rfl
  refine ⟨⟨y0,y1,y2,y3,y4,y5⟩,⟨g0,g1,g2,g3,g4,g5⟩,?_,?_⟩
  ·rw [reads_len Tryz.underlying51 h]; kernel_rfl
  ·exact (RL.app (o := 0) (n := 1) r0 rfl (RL.app (o := 1) (n := 1) r1 rfl (RL.app (o := 2) (n := 1) r2 rfl (RL.app (o := 3) (n := 1) r3 rfl (RL.app (o := 4) (n := 1) r4 rfl (RL.app (o := 5) (n := 1) r5 rfl (RL.nil)))))) : RL w _ (cs.drop 0))
end
section
open Go.ChangeShapes Go.WideShapes Go.ChangeAt Go.RowKit

theorem rdOf_u8 {P : Program} {t : TypeId} (ht : P.underlying t = some (.int .u8)) (hs : P.cellsOf t = 1) : RdOf P t UInt8 where
 size := hs
 of h := by
  obtain ⟨n,rfl,_,h3⟩ := DataW.trod_int ht h
  have hn : 0 ≤ n ∧ n ≤ 255 := by
   simp [Lit.wf,IntKind.min,IntKind.max,IntKind.signed,IntKind.bits] at h3
   omega
  have h1 : ((UInt8.ofNat n.toNat).toNat : Int) = n := by
   rw [UInt8.toNat_ofNat']
   omega
  refine ⟨UInt8.ofNat n.toNat,trivial,reads_one (t := .v (.int .u8 n)) ?_ (.v _ J)⟩
  show [T.v (.int .u8 ((UInt8.ofNat n.toNat).toNat : Int))] = _
  rw [h1]
instance : RdOf Tryz.prog 5 UInt8 := rdOf_u8 Tryz.underlying5 (by kernel_rfl)
instance : RdOf Tryz.prog 22 (List UInt8) := rdOf_slice Tryz.underlying22 (by kernel_rfl)
end
end Go.Proofs.YtbfhboakafjjgaaGreat
