/-
  Parts of the proof (rules, data, and what functions of the program and of the reference return), among them: The law FnExactAddRows returns true; The kit's readings of the laws' structs as Lean data.
  Conditions: those that each theorem names.
-/
import Derived.Test.YtbfhboakafjjgaaGreatDDAddsRowk8
import Derived.Test.YtbfhboakafjjgaaGreatDDAddsRowk9
import Derived.Test.YtbfhboakafjjgaaGreatDDAddsRowk10
import Derived.Test.YtbfhboakafjjgaaGreatDDAddsRowk12
set_option linter.unusedSimpArgs false
set_option linter.unusedVariables false
set_option maxRecDepth 8000
set_option maxHeartbeats 8000000
namespace Go.Proofs.YtbfhboakafjjgaaGreat
section
open Go.RowKit

def keyText (s : ByteArray) (keys : List ByteArray) : Nat → Option ByteArray
 | 0 => some s
 | n + 1 => match keyText s keys n with
  | none => none
  | some t => match keys[n]? with
   | none => none
   | some d => applyD t d
theorem keyText_none {s : ByteArray} {keys : List ByteArray} {i : Nat} (h : keyText s keys i = none) : ∀ {n : Nat},i ≤ n → keyText s keys n = none
 | 0,hn => by have : i = 0 := (by omega); subst this; exact h
 | n + 1,hn => by
  by_cases e : i = n + 1
  ·subst e; exact h
  ·rw [keyText,keyText_none h (by omega)]
theorem keyText_step {s t d : ByteArray} {keys : List ByteArray} {n : Nat} (h : keyText s keys n = some t) (hk : keys[n]? = some d) : keyText s keys (n + 1) = applyD t d := by rw [keyText,h]; simp only [hk]
theorem keyText_len {s : ByteArray} {keys : List ByteArray} (hs : s.size ≤ 20000) : ∀ {n : Nat} {t : ByteArray},keyText s keys n = some t → t.size ≤ 20000
 | 0,t,h => by cases h; exact hs
 | n + 1,t,h => by
  rw [keyText] at h
  split at h
  ·cases h
  ·split at h
   ·cases h
   ·exact applyD_len h
structure ROk (r : TReplay) : Prop where
 l : levelOk r.Level = true
 p : 1 ≤ r.Players ∧ r.Players ≤ 4
 s : inR r.Seed 0 65535 = true
 e : 1 ≤ r.Every ∧ r.Every ≤ 100
 k : r.Keys.length ≤ 400
theorem rok {r : TReplay} (h : replayOk r = true) : ROk r := by
 unfold replayOk at h
 simp only [Bool.and_eq_true,decide_eq_true_eq,Y3] at h
 obtain ⟨⟨⟨⟨⟨⟨h1,h2⟩,h3⟩,h4⟩,h5⟩,h6⟩,h7⟩ := h
 refine ⟨h1,h2,Y3.2 h3,h4,?_⟩
 have : (r.Rows.length : Int) / r.Every ≤ r.Rows.length := Int.ediv_le_self _ (by omega)
 omega
noncomputable def keyWorld (r : TReplay) (k : Nat) : Option TWorld := match keyText (worldBytes (newWorld r.Level r.Players.toNat r.Seed)) r.Keys k with
 | none => none
 | some s => match readWorld r.Level s with
  | none => none
  | some w => if w.Tick = (k : Int) * r.Every ∧ (w.Scores.length : Int) = r.Players then some w else none
noncomputable def keyAt (r : TReplay) (k : Int) : Option TWorld := if replayOk r = true ∧ -1 ≤ k ∧ k < r.Keys.length then (if k < 0 then some (newWorld r.Level r.Players.toNat r.Seed) else keyWorld r (k + 1).toNat) else none
theorem keyWorld_0 (r : TReplay) (hl : levelOk r.Level = true) (hp : 1 ≤ r.Players ∧ r.Players ≤ 4) (hs : inR r.Seed 0 65535 = true) : keyWorld r 0 = some (newWorld r.Level r.Players.toNat r.Seed) := by
 rw [keyWorld,keyText]
 simp only [newWorld_back hl (n := r.Players.toNat) (by omega) hs]
 rw [if_pos]
 constructor
 ·show (0 : Int) = ((0 : Nat) : Int) * r.Every; simp
 ·simp only [newWorld,List.length_replicate]; omega
theorem Yk (w : TWorld) : (worldBytes w).size ≤ 20000 := by
 unfold worldBytes
 split
 ·rename_i h
  have hw := Ky h
  have h1 := packInts_size (worldInts w)
  have h2 := flat_length w.Bodies
  have h3 : (worldInts w).length = 3 + w.Scores.length + 9 * w.Bodies.length := by
   simp only [worldInts,List.length_append,List.length_cons,List.length_nil]; omega
  have h4 := hw.2.2.2.1
  have h5 := hw.2.2.2.2.2.1
  omega
 ·decide
theorem keyAt_bad {r : TReplay} {k : Int} (h : ¬ (replayOk r = true ∧ -1 ≤ k ∧ k < r.Keys.length)) : keyAt r k = none := if_neg h
theorem keyAt_neg {r : TReplay} {k : Int} (h : replayOk r = true ∧ -1 ≤ k ∧ k < r.Keys.length) (hk : k < 0) : keyAt r k = some (newWorld r.Level r.Players.toNat r.Seed) := by rw [keyAt,if_pos h,if_pos hk]
theorem keyAt_pos {r : TReplay} {k : Int} (h : replayOk r = true ∧ -1 ≤ k ∧ k < r.Keys.length) (hk : ¬ k < 0) : keyAt r k = keyWorld r (k + 1).toNat := by rw [keyAt,if_pos h,if_neg hk]
theorem keyAt_all {r : TReplay} {k : Int} (h : replayOk r = true ∧ -1 ≤ k ∧ k < r.Keys.length) : keyAt r k = keyWorld r (k + 1).toNat := by
 by_cases hk : k < 0
 ·have hr := rok h.1
  rw [keyAt_neg h hk,show (k + 1).toNat = 0 by omega,keyWorld_0 r hr.l hr.p hr.s]
 ·exact keyAt_pos h hk
section
variable {r : TReplay} {n : Nat} {s : ByteArray} {w : TWorld}
theorem Y5 (h : keyText (worldBytes (newWorld r.Level r.Players.toNat r.Seed)) r.Keys n = none) : keyWorld r n = none := by rw [keyWorld,h]
variable (h : keyText (worldBytes (newWorld r.Level r.Players.toNat r.Seed)) r.Keys n = some s)
include h
theorem Y6 (h2 : readWorld r.Level s = none) : keyWorld r n = none := by rw [keyWorld,h]; simp only [h2]
theorem Y4 (h2 : readWorld r.Level s = some w) (hn : ¬ (w.Tick = (n : Int) * r.Every ∧ (w.Scores.length : Int) = r.Players)) : keyWorld r n = none := by rw [keyWorld,h]; simp only [h2]; rw [if_neg hn]
theorem keyWorld_yes (h2 : readWorld r.Level s = some w) (hn : w.Tick = (n : Int) * r.Every ∧ (w.Scores.length : Int) = r.Players) : keyWorld r n = some w := by rw [keyWorld,h]; simp only [h2]; rw [if_pos hn]
end
theorem keyAt_in {r : TReplay} {k : Int} (hr : RepIn r) : WorIn (rwW (keyAt r k)) := by
 by_cases hv : replayOk r = true ∧ -1 ≤ k ∧ k < r.Keys.length
 ·rw [keyAt_all hv]
  cases ht : keyText (worldBytes (newWorld r.Level r.Players.toNat r.Seed)) r.Keys (k + 1).toNat with
  | none => rw [Y5 ht]; exact Kw
  | some s =>
   have hl := keyText_len (Yk _) ht
   cases hw : readWorld r.Level s with
   | none => rw [Y6 ht hw]; exact Kw
   | some w =>
    by_cases hc : w.Tick = ((k + 1).toNat : Int) * r.Every ∧ (w.Scores.length : Int) = r.Players
    ·have := read_in (lv := r.Level) (s := s) hr.gd.1 hr.h1 (by omega)
     rw [hw] at this
     rw [keyWorld_yes ht hw hc]
     exact this
    ·rw [Y4 ht hw hc]; exact Kw
 ·rw [keyAt_bad hv]; exact Kw
theorem key_mul {k e : Int} (h0 : 0 ≤ k) (h1 : k ≤ 400) (h2 : 1 ≤ e) (h3 : e ≤ 100) : 0 ≤ k * e ∧ k * e ≤ 40000 := ⟨Int.mul_nonneg h0 (by omega),by
 have := Int.mul_le_mul h1 h3 (by omega) (by omega)
 omega⟩
theorem I_KeyAt (r : TReplay) (k : Int) (hg : Enc.gd r) (hk : I64 k) (ir : RepIn r) (hks : ∀ x ∈ r.Keys,x.size ≤ 1048576) : Con Tryz.prog 19 [] [ag r,ai k] (ownO (Enc.e (rwW (keyAt r k)))) (.tu [.ag (ownV 0 (Enc.e (rwW (keyAt r k)))),.c (bv (rwB (keyAt r k)))]) := by
 have cr := Xv r hg
 have hlk := Yq r.Keys
 obtain ⟨hk1,hk2⟩ := hk
 have hL := ir.h1
 refine Con.of Tryz.func19 J Tryz.ntmps19 J (fun E => ?_)
 refine zy (M1 (Qq J J J J) J J (M1 (Qx J J J) J J (z1 J (zz (Qd (zy (z4 J J J ?_)))))));refine zx (Qj J J (cr) J) J ?_;refine zn J (z0 J ?_);refine zx (Qt.grdF J J J .stop (fun hgrd => Qa J J J)) J ?_;refine zx (Qt.grdF J J J (.hit .stop) (fun hgrd => Z5 J J J J)) J ?_;refine zx (Z8 J J J J) J (z0 J ?_);refine zx (Qt.grdF J J J .stop (fun hgrd => Qa J J J)) J ?_;refine zx (Qt.grdF J J J (.hit .stop) (fun hgrd => Qf J J J J (by decide))) J ?_;refine zx (Qt.grdF J J J (.hit (.hit .stop)) (fun hgrd => Qg J J J J J)) J ?_;refine zx (Qt.grdF J J J (.hit (.hit (.hit .stop))) (fun hgrd => Z0 J J J)) J ?_;refine zx (Qt.grdF J J J (.hit (.hit (.hit (.hit .stop)))) (fun hgrd => q_geq J J J J)) J ?_;refine zx (Z8 J J J J) J (zz ?_)
 refine Xb J (fun h => ?_) (fun h => ?_)
 ·rw [keyAt_bad (fun ⟨q1,q2,q3⟩ => by rw [q1] at h; simp at h; omega)]
  refine zy (zx (Zp J J J J J) J ?_);refine Qy J J J J J J J J J (z1 J (zz (Xa (T_r (F_r ?_)))))
  exact Xn J J J J J (X7 [1,1,9] [2,3,4] J J (by decide) J J J)
 simp only [Bool.or_eq_false_iff,Bool.not_eq_false',decide_eq_false_iff_not] at h
 have hv : replayOk r = true ∧ -1 ≤ k ∧ k < r.Keys.length := ⟨h.1.1,by omega,by omega⟩
 have hr := rok hv.1
 obtain ⟨hp1,hp2⟩ := hr.p
 have hnw := I_NewWorld r.Level r.Players.toNat r.Seed hg.1 hL hr.l (by omega) hr.s
 rw [show ((r.Players.toNat : Nat) : Int) = r.Players by omega] at hnw
 have hgn := newWorld_gd (n := r.Players.toNat) hg.1 hr.l (by omega) hr.s
 have hwb := I_WorldBytes _ hgn
 have hbl := Yk (newWorld r.Level r.Players.toNat r.Seed)
 refine AWP.pre (st' := (⟨_,[(1,I k),(2,.o (.c (.ptr 0 0))),(4,.o (.c (.ptr 1 0)))],[.box ((Enc.e r).map (V1.rd [])),.box [nilV,jn 0,jn 0,nilV,nilV]]⟩ : St)) ?_ (W_gj [0,1] J)
 by_cases hk0 : k < 0
 ·have e0 : decide (k < 0) = true := decide_eq_true hk0
  rw [keyAt_neg hv hk0]
  refine Qh (Q0 (zy (z2 J J J (z4 J J J (z2 J J J (z3 J (z2 J J J (z3 J ?_))))))));refine M1 (Zs J J (hnw) J J J) J J ?_;refine zx (Q8 J J J) J (ze J (ze J (M1 (Qx J J J) J J ?_)));refine Qy J J J J J J J J J (z1 J (zz (Qd (zy (z0 J (zn J (z0 J (z5 J (z0 J ?_)))))))));refine z5 J (z9a J (by assumption) (zpF J (zz (Qm J (zy (z4 J J J (z0 J ?_)))))));refine Qy J J J J J J J J J (z1 J (zz (Xa (T_r (F_r ?_)))))
  exact Xn J J J J J (X6 [2,3,4] (by decide) J J J)
 have e0 : decide (k < 0) = false := decide_eq_false hk0
 rw [keyAt_pos hv hk0]
 obtain ⟨s0,hs0⟩ : ∃ s0,s0 = worldBytes (newWorld r.Level r.Players.toNat r.Seed) := ⟨_,rfl⟩
 rw [← hs0] at hwb hbl
 obtain ⟨K,hK⟩ : ∃ K : Nat,k + 1 = K := ⟨(k + 1).toNat,by omega⟩
 have hKl : K ≤ r.Keys.length := by omega
 have htl : ((els r.Keys).take (k + 1).toNat).length = K := by rw [List.length_take]; omega
 have hkk := hr.k
 rw [show (k + 1).toNat = K by omega]
 refine Qh (Q0 (zy (z2 J J J (z4 J J J (z2 J J J (z3 J (z2 J J J (z3 J ?_))))))));refine M1 (Zs J J (hnw) J J J) J J ?_;refine zx (Q8 J J J) J (ze J (ze J (M1 (Qx J J J) J J ?_)));refine Qy J J J J J J J J J (z1 J (zz (Qd (zy (z0 J (zn J (z0 J (z5 J (z0 J ?_)))))))));refine z5 J (z9a J (by assumption) (zpF J (zz (Ql J (Qh (Q0 (zy (z4 J J J ?_))))))));refine zx (Qj J J (hwb) J) J ?_;refine z1 J (zz (Qd (zy (z2 J J J (z3 J (z0 J (z7 J (by omega) (zx (q_part0 J J J J J (by omega)) J (zx (Z0 J J J) J ?_)))))))));refine z0 J (zz (Qk ?_));refine A_lq (fun m st => ∃ (i : Nat) (t : ByteArray),i + m = K ∧ (keyText s0 r.Keys i = some t) ∧ st = (⟨_,[(1,I k),(2,.o (.c (.ptr 0 0))),(4,.o (.c (.ptr 1 0))),(8,S t),(53,.o (.c (.rd [] (.sl 1 ((els r.Keys).take (k + 1).toNat))))),(54,I K),(55,I i)],[.box ((Enc.e r).map (V1.rd [])),.box [nilV,jn 0,jn 0,nilV,nilV]]⟩ : St)) (K) ⟨(fun (i : Nat) (t : ByteArray) => (⟨_,[(1,I k),(2,.o (.c (.ptr 0 0))),(4,.o (.c (.ptr 1 0))),(8,S t),(53,.o (.c (.rd [] (.sl 1 ((els r.Keys).take (k + 1).toNat))))),(54,I K),(55,I i)],[.box ((Enc.e r).map (V1.rd [])),.box [nilV,jn 0,jn 0,nilV,nilV]]⟩ : St)) 0 (s0),⟨0,s0,by omega,J,J⟩,X8 [0,1] (by decide) J (J) (.c J (.c J (.c J (.c J (.c J (.cons (Xx (by rw [htl])) (.c J (.nil))))))))⟩ ?_
 rintro m_A _ ⟨i,t,hk_A,hp_A,rfl⟩
 have htz := keyText_len hbl hp_A
 refine zy (zx (Z5 J J J J) J (zz (Qd ?_)))
 refine Xb J (fun h3 => ?_) (fun h3 => ?_)
 ·have h3 : i < K := by have := of_decide_eq_true h3; omega
  have hil : i < r.Keys.length := by omega
  have hki := List.getElem?_eq_getElem hil
  have hat : ((els r.Keys).take (k + 1).toNat)[(i : Int).toNat]? = some (Enc.e (r.Keys[i])) := by
   rw [List.getElem?_take,if_pos (by omega)]
   exact Yo hil
  have hdz := hks _ (List.getElem_mem hil)
  generalize r.Keys[i] = d at hki hat hdz
  have hap := I_ApplyDelta t d (by omega) (by omega)
  have hst := keyText_step hp_A hki
  cases hx : applyD t d with
  | none =>
   rw [hx] at hap hst
   rw [Y5 (by rw [← hs0]; exact keyText_none hst (by omega))]
   refine Qh (Q0 (Qd (Qk (zy (zx (Q2 J J J J (by omega) (by assumption) J) J (zx (Z4 J J J J) J (z1 J (zz (Qd ?_)))))))));refine Qc (z0 J (z0 J ?_));refine M1 (Zs J J (hap) J J J) J J ?_;refine zx (Q8 J J J) J (ze J (ze J (z1 J (z1 J (zz (Qd (zy (z0 J (zn J ?_)))))))));refine zz (Qm J (zy (zx (Zp J J J J J) J ?_)));refine Qy J J J J J J J J J (z1 J (zz (Xa (T_r (B_r (T_r (T_r (B_r (T_r (F_r ?_))))))))))
   exact Xn J J J J J (X7 [1,1,9] [2,3,4] J J (by decide) J J J)
  | some t' =>
   rw [hx] at hap hst
   refine Qh (Q0 (Qd (Qk (zy (zx (Q2 J J J J (by omega) (by assumption) J) J (zx (Z4 J J J J) J (z1 J (zz (Qd ?_)))))))));refine Qc (z0 J (z0 J ?_));refine M1 (Zs J J (hap) J J J) J J ?_;refine zx (Q8 J J J) J (ze J (ze J (z1 J (z1 J (zz (Qd (zy (z0 J (zn J ?_)))))))));refine zz (Ql J (Qh (Q0 (Qc (z0 J (z1 J (Qe (Q1 (Q0 (Qc ?_))))))))));refine z7 J (by omega) (z0 J (zz ?_))
   exact ⟨K - (i + 1),by omega,_,⟨i + 1,t',by omega,hst,J⟩,W_gj [0,1] J⟩
 have h3 : i = K := by have := of_decide_eq_false h3; omega
 subst h3
 have hrw := I_ReadWorld r.Level t hg.1 hL (by omega)
 have hkt : keyText (worldBytes (newWorld r.Level r.Players.toNat r.Seed)) r.Keys i = some t := by rw [← hs0]; exact hp_A
 have hmul := key_mul (k := k + 1) (e := r.Every) (by omega) (by omega) hr.e.1 hr.e.2
 cases hw : readWorld r.Level t with
 | none =>
  rw [hw] at hrw
  rw [Y6 hkt hw]
  refine Q9 (T_x (T_x (Xl (Q0 (zy (z2 J J J (z4 J J J (z0 J ?_))))))));refine M1 (Zs J J (hrw) J J J) J J ?_;refine zx (Q8 J J J) J (ze J (ze J (M1 (Qx J J J) J J ?_)));refine Qy J J J J J J J J J (z1 J (zz (Qd (zy (z0 J (zn J (z0 J (z6 J (z6 J ?_)))))))));refine z6 J (z6 J (z6 J (z6 J (z6 J (z6 J (zpT J (z0 J (z6 J (z6 J (z6 J (z6 J ?_)))))))))));refine z6 J (z6 J (zpT J (zz (Qm J (zy (zx (Zp J J J J J) J ?_))))));refine Qy J J J J J J J J J (z1 J (zz (Xa (T_r (F_r ?_)))))
  exact Xn J J J J J (X7 [1,1,9] [6,7,8] J J (by decide) J J J)
 | some w =>
  rw [hw] at hrw
  have hls := Yq w.Scores
  by_cases c1 : w.Tick = (k + 1) * r.Every
  ·have e1 : decide (w.Tick ≠ (k + 1) * r.Every) = false := decide_eq_false (fun q => q c1)
   by_cases c2 : (w.Scores.length : Int) = r.Players
   ·have e2 : decide (((els w.Scores).length : Int) ≠ r.Players) = false := decide_eq_false (by rw [hls]; exact fun q => q c2)
    rw [keyWorld_yes hkt hw ⟨by rw [← hK]; exact c1,c2⟩]
    refine Q9 (T_x (T_x (Xl (Q0 (zy (z2 J J J (z4 J J J (z0 J ?_))))))));refine M1 (Zs J J (hrw) J J J) J J ?_;refine zx (Q8 J J J) J (ze J (ze J (M1 (Qx J J J) J J ?_)));refine Qy J J J J J J J J J (z1 J (zz (Qd (zy (z0 J (zn J (z0 J (z5 J (z2 J J J ?_)))))))));refine z5 J (z3 J (z5 J (z0 J (z5 J (z7 J (by omega) (z5 J (z2 J J J (z5 J (z3 J (z5 J (zx (Z6 J J J J (by omega)) J ?_)))))))))));refine z5 J (z9f J (by assumption) (zpF J (z0 J (z5 J (z2 J J J (z5 J (z3 J (z5 J (zx (Z1 J J J J) J (z5 J (z2 J J J ?_)))))))))));refine z5 J (z3 J (z5 J (z9f J (by assumption) (zpF J (zz (Ql J (Qh (Q0 (zy ?_)))))))));refine z4 J J J ?_;refine Qy J J J J J J J J J (z1 J (zz (Xa (F_r ?_))))
    exact Xn J J J J J (X6 [2,3,4] (by decide) J J J)
   ·have e2 : decide (((els w.Scores).length : Int) ≠ r.Players) = true := decide_eq_true (by rw [hls]; exact c2)
    rw [Y4 hkt hw (fun q => c2 q.2)]
    refine Q9 (T_x (T_x (Xl (Q0 (zy (z2 J J J (z4 J J J (z0 J ?_))))))));refine M1 (Zs J J (hrw) J J J) J J ?_;refine zx (Q8 J J J) J (ze J (ze J (M1 (Qx J J J) J J ?_)));refine Qy J J J J J J J J J (z1 J (zz (Qd (zy (z0 J (zn J (z0 J (z5 J (z2 J J J ?_)))))))));refine z5 J (z3 J (z5 J (z0 J (z5 J (z7 J (by omega) (z5 J (z2 J J J (z5 J (z3 J (z5 J (zx (Z6 J J J J (by omega)) J ?_)))))))))));refine z5 J (z9f J (by assumption) (zpF J (z0 J (z5 J (z2 J J J (z5 J (z3 J (z5 J (zx (Z1 J J J J) J (z5 J (z2 J J J ?_)))))))))));refine z5 J (z3 J (z5 J (z9f J (by assumption) (zpF J (zz (Qm J (zy (zx (Zp J J J J J) J ?_))))))));refine Qy J J J J J J J J J (z1 J (zz (Xa (T_r (F_r ?_)))))
    exact Xn J J J J J (X7 [1,1,9] [6,7,8] J J (by decide) J J J)
  ·have e1 : decide (w.Tick ≠ (k + 1) * r.Every) = true := decide_eq_true c1
   rw [Y4 hkt hw (fun q => c1 (by rw [hK]; exact q.1))]
   refine Q9 (T_x (T_x (Xl (Q0 (zy (z2 J J J (z4 J J J (z0 J ?_))))))));refine M1 (Zs J J (hrw) J J J) J J ?_;refine zx (Q8 J J J) J (ze J (ze J (M1 (Qx J J J) J J ?_)));refine Qy J J J J J J J J J (z1 J (zz (Qd (zy (z0 J (zn J (z0 J (z5 J (z2 J J J ?_)))))))));refine z5 J (z3 J (z5 J (z0 J (z5 J (z7 J (by omega) (z5 J (z2 J J J (z5 J (z3 J (z5 J (zx (Z6 J J J J (by omega)) J ?_)))))))))));refine z5 J (z9f J (by assumption) (zpF J (z0 J (z6 J (z6 J (z6 J (z6 J (z6 J (z6 J (zpT J (Qe ?_)))))))))));refine Q0 (Qm J (zy (zx (Zp J J J J J) J ?_)));refine Qy J J J J J J J J J (z1 J (zz (Xa (T_r (F_r ?_)))))
   exact Xn J J J J J (X7 [1,1,9] [6,7,8] J J (by decide) J J J)
theorem S_KeyAt (r : TReplay) (k : Int) (hg : Enc.gd r) (hk : I64 k) (ir : RepIn r) (hks : ∀ x ∈ r.Keys,x.size ≤ 1048576) : Con Tryz.prog 69 [] [ag r,ai k] (ownO (Enc.e (rwW (keyAt r k)))) (.tu [.ag (ownV 0 (Enc.e (rwW (keyAt r k)))),.c (bv (rwB (keyAt r k)))]) := by
 have cr := X4 r hg
 have hlk := Yq r.Keys
 have hgk := ir.h2
 obtain ⟨hk1,hk2⟩ := hk
 have hL := ir.h1
 have ci := S_in k (-1) (((els r.Keys).length : Int) - 1)
 refine Con.of Tryz.func69 J Tryz.ntmps69 J (fun E => ?_)
 refine zy (M1 (Qq J J J J) J J (M1 (Qx J J J) J J (z1 J (zz (Qd (zy (z4 J J J ?_)))))));refine zx (Qj J J (cr) J) J ?_;refine zn J (z0 J ?_);refine zx (Qt.grdF J J J .stop (fun hgrd => Qa J J J)) J ?_;refine zx (Qt.grdF J J J (.hit .stop) (fun hgrd => Qf J J J J (by decide))) J ?_;refine zx (Qt.grdF J J J (.hit (.hit .stop)) (fun hgrd => Qg J J J J J)) J ?_;refine zx (Qt.grdF J J J (.hit (.hit (.hit .stop))) (fun hgrd => Z0 J J J)) J ?_;refine zx (Qt.grdF J J J (.hit (.hit (.hit (.hit .stop)))) (fun hgrd => Xc J J J J (by omega))) J ?_;refine zx (Qt.grdF J J J (.hit (.hit (.hit (.hit (.hit .stop))))) (fun hgrd => Qj J J (ci) J)) J ?_;refine zx (Qt.grdF J J J (.hit (.hit (.hit (.hit (.hit (.hit .stop)))))) (fun hgrd => Q4 J J J)) J ?_;refine zx (Z8 J J J J) J (zz ?_)
 refine Xb J (fun h => ?_) (fun h => ?_)
 ·rw [keyAt_bad (fun ⟨q1,q2,q3⟩ => by rw [q1,Y3.2 (by omega)] at h; exact absurd h (by decide))]
  refine zy (zx (Zp J J J J J) J ?_);refine Qy J J J J J J J J J (z1 J (zz (Xa (T_r (F_r ?_)))))
  exact Xn J J J J J (X7 [1,1,9] [2,3,4] J J (by decide) J J J)
 simp only [Bool.or_eq_false_iff,Bool.not_eq_false',Y3] at h
 have hv : replayOk r = true ∧ -1 ≤ k ∧ k < r.Keys.length := ⟨h.1,by omega,by omega⟩
 have hr := rok hv.1
 obtain ⟨hp1,hp2⟩ := hr.p
 have hnw := S_NewWorld r.Level r.Players.toNat r.Seed hg.1 hL hr.l (by omega) hr.s
 rw [show ((r.Players.toNat : Nat) : Int) = r.Players by omega] at hnw
 have hgn := newWorld_gd (n := r.Players.toNat) hg.1 hr.l (by omega) hr.s
 have hwb := X5 _ hgn
 have hbl := Yk (newWorld r.Level r.Players.toNat r.Seed)
 refine AWP.pre (st' := (⟨_,[(1,I k),(2,.o (.c (.ptr 0 0))),(4,.o (.c (.ptr 1 0)))],[.box ((Enc.e r).map (V1.rd [])),.box [nilV,jn 0,jn 0,nilV,nilV]]⟩ : St)) ?_ (W_gj [0,1] J)
 rw [keyAt_all hv]
 obtain ⟨s0,hs0⟩ : ∃ s0,s0 = worldBytes (newWorld r.Level r.Players.toNat r.Seed) := ⟨_,rfl⟩
 rw [← hs0] at hwb hbl
 obtain ⟨K,hK⟩ : ∃ K : Nat,k + 1 = K := ⟨(k + 1).toNat,by omega⟩
 have hKl : K ≤ r.Keys.length := by omega
 have hkk := hr.k
 rw [show (k + 1).toNat = K by omega]
 refine Qh (Q0 (zy (z2 J J J (z4 J J J (z2 J J J (z3 J (z2 J J J (z3 J ?_))))))));refine M1 (Zs J J (hnw) J J J) J J ?_;refine zx (Q8 J J J) J (ze J (ze J (M1 (Qx J J J) J J ?_)));refine Qy J J J J J J J J J (z1 J (zz (zy (z4 J J J ?_))));refine zx (Qj J J (hwb) J) J ?_;refine z1 J (zz (Qd (zy (z1 J (zz (Qk ?_))))));refine A_lq (fun m st => ∃ (i : Nat) (t : ByteArray),i + m = K ∧ (keyText s0 r.Keys i = some t) ∧ st = (⟨_,[(1,I k),(2,.o (.c (.ptr 0 0))),(4,.o (.c (.ptr 1 0))),(8,S t),(9,I i)],[.box ((Enc.e r).map (V1.rd [])),.box [nilV,jn 0,jn 0,nilV,nilV]]⟩ : St)) (K) ⟨_,⟨0,s0,by omega,J,J⟩,W_gj [0,1] J⟩ ?_
 rintro m_A _ ⟨i,t,hk_A,hp_A,rfl⟩
 have htz := keyText_len hbl hp_A
 refine Qd (zy (z0 J (z0 J (zx (q_leq J J J J) J (zz ?_)))))
 refine Xb J (fun h3 => ?_) (fun h3 => ?_)
 ·have h3 : i < K := by have := of_decide_eq_true h3; omega
  have hil : i < r.Keys.length := by omega
  have hki := List.getElem?_eq_getElem hil
  have hat := Yo hil
  have hdz := hks _ (List.getElem_mem hil)
  generalize r.Keys[i] = d at hki hat hdz
  have hap := S_ApplyDelta t d (by omega) (by omega)
  have hst := keyText_step hp_A hki
  cases hx : applyD t d with
  | none =>
   rw [hx] at hap hst
   rw [Y5 (by rw [← hs0]; exact keyText_none hst (by omega))]
   refine Qh (Q0 (Qd (Qk (zy (z0 J (z2 J J J (z3 J (z0 J (zx (Q2 J J J J (by omega) (by assumption) J) J (zx (Z4 J J J J) J ?_))))))))));refine M1 (Zs J J (hap) J J J) J J ?_;refine zx (Q8 J J J) J (ze J (ze J (z1 J (z1 J (zz (Qd (zy (z0 J (zn J ?_)))))))));refine zz (Qm J (zy (zx (Zp J J J J J) J ?_)));refine Qy J J J J J J J J J (z1 J (zz (Xa (T_r (B_r (T_r (T_r (B_r (T_r (F_r ?_))))))))))
   exact Xn J J J J J (X7 [1,1,9] [2,3,4] J J (by decide) J J J)
  | some t' =>
   rw [hx] at hap hst
   refine Qh (Q0 (Qd (Qk (zy (z0 J (z2 J J J (z3 J (z0 J (zx (Q2 J J J J (by omega) (by assumption) J) J (zx (Z4 J J J J) J ?_))))))))));refine M1 (Zs J J (hap) J J J) J J ?_;refine zx (Q8 J J J) J (ze J (ze J (z1 J (z1 J (zz (Qd (zy (z0 J (zn J ?_)))))))));refine zz (Ql J (Qh (Q0 (Qc (z0 J (z1 J (Qe (Q1 (Q0 (Qc ?_))))))))));refine z0 J (z7 J (by omega) (z1 J (zz ?_)))
   exact ⟨K - (i + 1),by omega,_,⟨i + 1,t',by omega,hst,J⟩,W_gj [0,1] J⟩
 have h3 : i = K := by have := of_decide_eq_false h3; omega
 subst h3
 have hrw := S_ReadWorld r.Level t hg.1 hL (by omega)
 have hkt : keyText (worldBytes (newWorld r.Level r.Players.toNat r.Seed)) r.Keys i = some t := by rw [← hs0]; exact hp_A
 have hmul := key_mul (k := k + 1) (e := r.Every) (by omega) (by omega) hr.e.1 hr.e.2
 cases hw : readWorld r.Level t with
 | none =>
  rw [hw] at hrw
  rw [Y6 hkt hw]
  refine Q9 (T_x (T_x (Xl (Q0 (zy (z2 J J J (z4 J J J (z0 J ?_))))))));refine M1 (Zs J J (hrw) J J J) J J ?_;refine zx (Q8 J J J) J (ze J (ze J (M1 (Qx J J J) J J ?_)));refine Qy J J J J J J J J J (z1 J (zz (Qd (zy (z0 J (zn J (z0 J (z6 J (z6 J ?_)))))))));refine z6 J (z6 J (z6 J (z6 J (z6 J (z6 J (zpT J (z0 J (z6 J (z6 J (z6 J (z6 J ?_)))))))))));refine z6 J (z6 J (zpT J (zz (Qm J (zy (zx (Zp J J J J J) J ?_))))));refine Qy J J J J J J J J J (z1 J (zz (Xa (T_r (F_r ?_)))))
  exact Xn J J J J J (X7 [1,1,9] [6,7,8] J J (by decide) J J J)
 | some w =>
  rw [hw] at hrw
  have hls := Yq w.Scores
  by_cases c1 : w.Tick = (k + 1) * r.Every
  ·have e1 : decide (w.Tick ≠ (k + 1) * r.Every) = false := decide_eq_false (fun q => q c1)
   by_cases c2 : (w.Scores.length : Int) = r.Players
   ·have e2 : decide (((els w.Scores).length : Int) ≠ r.Players) = false := decide_eq_false (by rw [hls]; exact fun q => q c2)
    rw [keyWorld_yes hkt hw ⟨by rw [← hK]; exact c1,c2⟩]
    refine Q9 (T_x (T_x (Xl (Q0 (zy (z2 J J J (z4 J J J (z0 J ?_))))))));refine M1 (Zs J J (hrw) J J J) J J ?_;refine zx (Q8 J J J) J (ze J (ze J (M1 (Qx J J J) J J ?_)));refine Qy J J J J J J J J J (z1 J (zz (Qd (zy (z0 J (zn J (z0 J (z5 J (z2 J J J ?_)))))))));refine z5 J (z3 J (z5 J (z0 J (z5 J (z7 J (by omega) (z5 J (z2 J J J (z5 J (z3 J (z5 J (zx (Z6 J J J J (by omega)) J ?_)))))))))));refine z5 J (z9f J (by assumption) (zpF J (z0 J (z5 J (z2 J J J (z5 J (z3 J (z5 J (zx (Z1 J J J J) J (z5 J (z2 J J J ?_)))))))))));refine z5 J (z3 J (z5 J (z9f J (by assumption) (zpF J (zz (Ql J (Qh (Q0 (zy ?_)))))))));refine z4 J J J ?_;refine Qy J J J J J J J J J (z1 J (zz (Xa (F_r ?_))))
    exact Xn J J J J J (X6 [2,3,4] (by decide) J J J)
   ·have e2 : decide (((els w.Scores).length : Int) ≠ r.Players) = true := decide_eq_true (by rw [hls]; exact c2)
    rw [Y4 hkt hw (fun q => c2 q.2)]
    refine Q9 (T_x (T_x (Xl (Q0 (zy (z2 J J J (z4 J J J (z0 J ?_))))))));refine M1 (Zs J J (hrw) J J J) J J ?_;refine zx (Q8 J J J) J (ze J (ze J (M1 (Qx J J J) J J ?_)));refine Qy J J J J J J J J J (z1 J (zz (Qd (zy (z0 J (zn J (z0 J (z5 J (z2 J J J ?_)))))))));refine z5 J (z3 J (z5 J (z0 J (z5 J (z7 J (by omega) (z5 J (z2 J J J (z5 J (z3 J (z5 J (zx (Z6 J J J J (by omega)) J ?_)))))))))));refine z5 J (z9f J (by assumption) (zpF J (z0 J (z5 J (z2 J J J (z5 J (z3 J (z5 J (zx (Z1 J J J J) J (z5 J (z2 J J J ?_)))))))))));refine z5 J (z3 J (z5 J (z9f J (by assumption) (zpF J (zz (Qm J (zy (zx (Zp J J J J J) J ?_))))))));refine Qy J J J J J J J J J (z1 J (zz (Xa (T_r (F_r ?_)))))
    exact Xn J J J J J (X7 [1,1,9] [6,7,8] J J (by decide) J J J)
  ·have e1 : decide (w.Tick ≠ (k + 1) * r.Every) = true := decide_eq_true c1
   rw [Y4 hkt hw (fun q => c1 (by rw [hK]; exact q.1))]
   refine Q9 (T_x (T_x (Xl (Q0 (zy (z2 J J J (z4 J J J (z0 J ?_))))))));refine M1 (Zs J J (hrw) J J J) J J ?_;refine zx (Q8 J J J) J (ze J (ze J (M1 (Qx J J J) J J ?_)));refine Qy J J J J J J J J J (z1 J (zz (Qd (zy (z0 J (zn J (z0 J (z5 J (z2 J J J ?_)))))))));refine z5 J (z3 J (z5 J (z0 J (z5 J (z7 J (by omega) (z5 J (z2 J J J (z5 J (z3 J (z5 J (zx (Z6 J J J J (by omega)) J ?_)))))))))));refine z5 J (z9f J (by assumption) (zpF J (z0 J (z6 J (z6 J (z6 J (z6 J (z6 J (z6 J (zpT J (Qe ?_)))))))))));refine Q0 (Qm J (zy (zx (Zp J J J J J) J ?_)));refine Qy J J J J J J J J J (z1 J (zz (Xa (T_r (F_r ?_)))))
   exact Xn J J J J J (X7 [1,1,9] [6,7,8] J J (by decide) J J J)
end
section
open Go.RowKit
end
section
open Go.RowKit

noncomputable def seekM (r : TReplay) (t : Int) : Option TWorld :=
 if replayOk r = true ∧ 0 ≤ t ∧ t ≤ r.Rows.length then
  (match keyAt r (t / r.Every - 1) with
  | none => none
  | some w => some (runM w ((r.Rows.take t.toNat).drop (t / r.Every * r.Every).toNat)))
 else none
theorem seek_no {r : TReplay} {t : Int} (h : ¬ (replayOk r = true ∧ 0 ≤ t ∧ t ≤ r.Rows.length)) : seekM r t = none := if_neg h
theorem seek_none {r : TReplay} {t : Int} (h : replayOk r = true ∧ 0 ≤ t ∧ t ≤ r.Rows.length) (hk : keyAt r (t / r.Every - 1) = none) : seekM r t = none := by rw [seekM,if_pos h,hk]
theorem seek_some {r : TReplay} {t : Int} {w : TWorld} (h : replayOk r = true ∧ 0 ≤ t ∧ t ≤ r.Rows.length) (hk : keyAt r (t / r.Every - 1) = some w) : seekM r t = some (runM w ((r.Rows.take t.toNat).drop (t / r.Every * r.Every).toNat)) := by rw [seekM,if_pos h,hk]
theorem seek_in {r : TReplay} {t : Int} (ir : RepIn r) : WorIn (rwW (seekM r t)) := by
 by_cases h : replayOk r = true ∧ 0 ≤ t ∧ t ≤ r.Rows.length
 ·have hi := keyAt_in (k := t / r.Every - 1) ir
  cases hk : keyAt r (t / r.Every - 1) with
  | none => rw [seek_none h hk]; exact Kw
  | some w =>
   rw [hk] at hi
   rw [seek_some h hk]
   exact ran_in _ hi
 ·rw [seek_no h]; exact Kw
theorem seek_els {xs : List (List Int)} {a b : Nat} : ((els xs).take a).drop b = els ((xs.take a).drop b) := by rw [els,els,List.map_drop,List.map_take]
theorem gd_part {xs : List (List Int)} (h : Enc.gd xs) (a b : Nat) : Enc.gd ((xs.take a).drop b) := ⟨by have := h.1; rw [List.length_drop,List.length_take]; omega,fun x hx => h.2 x (List.mem_of_mem_take (List.mem_of_mem_drop hx))⟩
theorem I_SeekReplay (r : TReplay) (t : Int) (hg : Enc.gd r) (ht : I64 t) (ir : RepIn r) (hks : ∀ x ∈ r.Keys,x.size ≤ 1048576) : Con Tryz.prog 12 [] [ag r,ai t] (ownO (Enc.e (rwW (seekM r t)))) (.tu [.ag (ownV 0 (Enc.e (rwW (seekM r t)))),.c (bv (rwB (seekM r t)))]) := by
 have cr := Xv r hg
 have hlk := Yq r.Rows
 have hrl := ir.h3
 obtain ⟨hk1,hk2⟩ := ht
 refine Con.of Tryz.func12 J Tryz.ntmps12 J (fun E => ?_)
 refine zy (M1 (Qq J J J J) J J (M1 (Qx J J J) J J (z1 J (zz (Qd (zy (z4 J J J ?_)))))));refine zx (Qj J J (cr) J) J ?_;refine zn J (z0 J ?_);refine zx (Qt.grdF J J J .stop (fun hgrd => Qa J J J)) J ?_;refine zx (Qt.grdF J J J (.hit .stop) (fun hgrd => Z5 J J J J)) J ?_;refine zx (Z8 J J J J) J (z0 J ?_);refine zx (Qt.grdF J J J .stop (fun hgrd => Qa J J J)) J ?_;refine zx (Qt.grdF J J J (.hit .stop) (fun hgrd => Qf J J J J (by decide))) J ?_;refine zx (Qt.grdF J J J (.hit (.hit .stop)) (fun hgrd => Qg J J J J J)) J ?_;refine zx (Qt.grdF J J J (.hit (.hit (.hit .stop))) (fun hgrd => Z0 J J J)) J ?_;refine zx (Qt.grdF J J J (.hit (.hit (.hit (.hit .stop)))) (fun hgrd => Zy J J J J)) J ?_;refine zx (Z8 J J J J) J (zz ?_)
 refine Xb J (fun h => ?_) (fun h => ?_)
 ·rw [seek_no (fun ⟨q1,q2,q3⟩ => by rw [q1] at h; simp at h; omega)]
  refine zy (zx (Zp J J J J J) J ?_);refine Qy J J J J J J J J J (z1 J (zz (Xa (T_r (F_r ?_)))))
  exact Xn J J J J J (X7 [1,1,9] [2,3,4] J J (by decide) J J J)
 simp only [Bool.or_eq_false_iff,Bool.not_eq_false',decide_eq_false_iff_not] at h
 have hv : replayOk r = true ∧ 0 ≤ t ∧ t ≤ r.Rows.length := ⟨h.1.1,by omega,by omega⟩
 have hr := rok hv.1
 obtain ⟨he1,he2⟩ := hr.e
 obtain ⟨K,hK⟩ : ∃ K,K = t / r.Every := ⟨_,rfl⟩
 have hK0 : 0 ≤ K := by rw [hK]; exact Int.ediv_nonneg hv.2.1 (by omega)
 have hKt : K ≤ t := by rw [hK]; exact Int.ediv_le_self _ hv.2.1
 have hm0 : 0 ≤ K * r.Every := Int.mul_nonneg hK0 (by omega)
 have hmt : K * r.Every ≤ t := by rw [hK]; exact Int.ediv_mul_le t (by omega)
 have hm1 : (K - 1 + 1) * r.Every = K * r.Every := by rw [Int.sub_add_cancel]
 have hka := I_KeyAt r (K - 1) hg ⟨by omega,by omega⟩ ir hks
 have hin := keyAt_in (k := K - 1) ir
 refine Qh (Q0 (zy (z0 J (z2 J J J (z3 J (zx (q_quo J J J J (by omega)) J (z8 J (by omega) (z1 J (zz ?_)))))))));refine zy (z4 J J J (z0 J ?_));refine AL.weak (st' := (⟨_,[(1,I t),(2,.o (.c (.ptr 0 0))),(4,.o (.c (.ptr 1 0))),(6,I (K - 1)),(30,.o (.ag ((Enc.e r).map (V1.rd [])))),(31,I (K - 1))],[.box ((Enc.e r).map (V1.rd [])),.box [nilV,jn 0,jn 0,nilV,nilV]]⟩ : St)) (X8 [0,1] (by decide) J (J) (.c J (.c J (.c J (.cons (Xx (by rw [hK])) (.c J (.cons (Xx (by rw [hK])) (.nil)))))))) ?_
 cases hk : keyAt r (K - 1) with
 | none =>
  rw [hk] at hka
  rw [seek_none hv (by rw [← hK]; exact hk)]
  refine M1 (Zs J J (hka) J J J) J J ?_;refine zx (Q8 J J J) J (ze J (ze J (M1 (Qx J J J) J J ?_)));refine Qy J J J J J J J J J (z1 J (zz (Qd (zy (z0 J (zn J (zz (Qm J ?_))))))));refine zy (zx (Zp J J J J J) J ?_);refine Qy J J J J J J J J J (z1 J (zz (Xa (T_r (F_r ?_)))))
  exact Xn J J J J J (X7 [1,1,9] [6,7,8] J J (by decide) J J J)
 | some w =>
  rw [hk] at hka hin
  rw [seek_some hv (by rw [← hK]; exact hk),← hK]
  have iw : WorIn w := hin
  have hrw := I_RunWorld w ((r.Rows.take t.toNat).drop (K * r.Every).toNat) iw (gd_part hg.2.2.2.2.1 _ _)
  have hrw : Con Tryz.prog 44 [] [ag w,.c (.rd [] (.sl (Enc.k (List Int)) (((els r.Rows).take t.toNat).drop ((K - 1 + 1) * r.Every).toNat)))] (ownO (Enc.e (runM w ((r.Rows.take t.toNat).drop (K * r.Every).toNat)))) (.o (.ag (ownV 0 (Enc.e (runM w ((r.Rows.take t.toNat).drop (K * r.Every).toNat)))))) := by rw [hm1,seek_els]; exact hrw
  generalize runM w ((r.Rows.take t.toNat).drop (K * r.Every).toNat) = z at hrw
  have hq : (0 : Int) ≤ (K - 1 + 1) * r.Every ∧ (K - 1 + 1) * r.Every ≤ t ∧ t ≤ ((els r.Rows).length : Nat) := by omega
  refine M1 (Zs J J (hka) J J J) J J ?_;refine zx (Q8 J J J) J (ze J (ze J (M1 (Qx J J J) J J ?_)));refine Qy J J J J J J J J J (z1 J (zz (Qd (zy (z0 J (zn J (zz (Ql J ?_))))))));refine Qh (Q0 (Qd (Xi [[],[],[1],[],[3],[],[5],[3,4,5,6],[],[1,2,3,4,5,6,7,8],(u9 10),(u9 11),(u9 12)] [[],[],[39],[],[41],[],[43],[41,42,43,44],[],[39,40,41,42,43,44,45,46],[38,39,40,41,42,43,44,45,46,47],[38,39,40,41,42,43,44,45,46,47,48],[38,39,40,41,42,43,44,45,46,47,48]] [[39,40,41,42,43,44,45,46,47],[38,41,42,43,44,45,46],[38,41,42,43,44,45,46],[38,39,40,43,44,46],[38,39,40,43,44,46],[38,39,40,41,42,46],[38,39,40,41,42,46],[38,39,40,46],[38,39,40,41,42,43,44,45],[38],[],[],[]] J (DR.s (Qu J J J J J J) J J (DR.s (Qf J J J J (by decide)) J J (DR.s (Qg J J J J J) J J (DR.s (Qa J J J) J J (DR.s (Qs J J J J (by omega)) J J (DR.s (Qf J J J J (by decide)) J J (DR.s (Qg J J J J J) J J (DR.s (Z6 J J J J (by omega)) J J ?_)))))))))));refine DR.s (Qa J J J) J J (DR.s (q_part J J J J J J hq) J J ?_);refine DR.s (Zs J J (hrw) J J J) J J ?_;refine DR.stop (by kernel_rfl) (by kernel_rfl) ?_;refine Qy J J J J J J J J J (z1 J (zz (Xa (F_r ?_))))
  exact Xn J J J J J (X6 [6,7,8] (by decide) J J J)
theorem S_SeekReplay (r : TReplay) (t : Int) (hg : Enc.gd r) (ht : I64 t) (ir : RepIn r) (hks : ∀ x ∈ r.Keys,x.size ≤ 1048576) : Con Tryz.prog 68 [] [ag r,ai t] (ownO (Enc.e (rwW (seekM r t)))) (.tu [.ag (ownV 0 (Enc.e (rwW (seekM r t)))),.c (bv (rwB (seekM r t)))]) := by
 have cr := X4 r hg
 have hlk := Yq r.Rows
 have hrl := ir.h3
 obtain ⟨hk1,hk2⟩ := ht
 have ci := S_in t 0 ((els r.Rows).length : Int)
 refine Con.of Tryz.func68 J Tryz.ntmps68 J (fun E => ?_)
 refine zy (M1 (Qq J J J J) J J (M1 (Qx J J J) J J (z1 J (zz (Qd (zy (z4 J J J ?_)))))));refine zx (Qj J J (cr) J) J ?_;refine zn J (z0 J ?_);refine zx (Qt.grdF J J J .stop (fun hgrd => Qa J J J)) J ?_;refine zx (Qt.grdF J J J (.hit .stop) (fun hgrd => Qf J J J J (by decide))) J ?_;refine zx (Qt.grdF J J J (.hit (.hit .stop)) (fun hgrd => Qg J J J J J)) J ?_;refine zx (Qt.grdF J J J (.hit (.hit (.hit .stop))) (fun hgrd => Z0 J J J)) J ?_;refine zx (Qt.grdF J J J (.hit (.hit (.hit (.hit .stop)))) (fun hgrd => Qj J J (ci) J)) J ?_;refine zx (Qt.grdF J J J (.hit (.hit (.hit (.hit (.hit .stop))))) (fun hgrd => Q4 J J J)) J ?_;refine zx (Z8 J J J J) J (zz ?_)
 refine Xb J (fun h => ?_) (fun h => ?_)
 ·rw [seek_no (fun ⟨q1,q2,q3⟩ => by rw [q1,Y3.2 (by omega)] at h; exact absurd h (by decide))]
  refine zy (zx (Zp J J J J J) J ?_);refine Qy J J J J J J J J J (z1 J (zz (Xa (T_r (F_r ?_)))))
  exact Xn J J J J J (X7 [1,1,9] [2,3,4] J J (by decide) J J J)
 simp only [Bool.or_eq_false_iff,Bool.not_eq_false',Y3] at h
 have hv : replayOk r = true ∧ 0 ≤ t ∧ t ≤ r.Rows.length := ⟨h.1,by omega,by omega⟩
 have hr := rok hv.1
 obtain ⟨he1,he2⟩ := hr.e
 obtain ⟨K,hK⟩ : ∃ K,K = t / r.Every := ⟨_,rfl⟩
 have hK0 : 0 ≤ K := by rw [hK]; exact Int.ediv_nonneg hv.2.1 (by omega)
 have hKt : K ≤ t := by rw [hK]; exact Int.ediv_le_self _ hv.2.1
 have hm0 : 0 ≤ K * r.Every := Int.mul_nonneg hK0 (by omega)
 have hmt : K * r.Every ≤ t := by rw [hK]; exact Int.ediv_mul_le t (by omega)
 have hka := S_KeyAt r (K - 1) hg ⟨by omega,by omega⟩ ir hks
 have hin := keyAt_in (k := K - 1) ir
 refine Qh (Q0 (zy (z0 J (z2 J J J (z3 J (zx (q_quo J J J J (by omega)) J (z1 J (zz (Qd ?_)))))))));refine Qc (z4 J J J (z0 J (z8 J (by omega) ?_)));refine AL.weak (st' := (⟨_,[(1,I t),(2,.o (.c (.ptr 0 0))),(4,.o (.c (.ptr 1 0))),(6,I K),(26,.o (.ag ((Enc.e r).map (V1.rd [])))),(28,I (K - 1))],[.box ((Enc.e r).map (V1.rd [])),.box [nilV,jn 0,jn 0,nilV,nilV]]⟩ : St)) (X8 [0,1] (by decide) J (J) (.c J (.c J (.c J (.cons (Xx (by rw [hK])) (.c J (.cons (Xx (by rw [hK])) (.nil)))))))) ?_
 cases hk : keyAt r (K - 1) with
 | none =>
  rw [hk] at hka
  rw [seek_none hv (by rw [← hK]; exact hk)]
  refine M1 (Zs J J (hka) J J J) J J ?_;refine zx (Q8 J J J) J (ze J (ze J (M1 (Qx J J J) J J ?_)));refine Qy J J J J J J J J J (z1 J (zz (Qd (zy (z0 J (zn J (zz (Qm J ?_))))))));refine zy (zx (Zp J J J J J) J ?_);refine Qy J J J J J J J J J (z1 J (zz (Xa (T_r (F_r ?_)))))
  exact Xn J J J J J (X7 [1,1,9] [6,7,8] J J (by decide) J J J)
 | some w =>
  rw [hk] at hka hin
  rw [seek_some hv (by rw [← hK]; exact hk),← hK]
  have iw : WorIn w := hin
  have hrw := S_RunWorld w ((r.Rows.take t.toNat).drop (K * r.Every).toNat) iw (gd_part hg.2.2.2.2.1 _ _)
  have hrw : Con Tryz.prog 117 [] [ag w,.c (.rd [] (.sl (Enc.k (List Int)) (((els r.Rows).take t.toNat).drop (K * r.Every).toNat)))] (ownO (Enc.e (runM w ((r.Rows.take t.toNat).drop (K * r.Every).toNat)))) (.o (.ag (ownV 0 (Enc.e (runM w ((r.Rows.take t.toNat).drop (K * r.Every).toNat)))))) := by rw [seek_els]; exact hrw
  generalize runM w ((r.Rows.take t.toNat).drop (K * r.Every).toNat) = z at hrw
  have hq : (0 : Int) ≤ K * r.Every ∧ K * r.Every ≤ t ∧ t ≤ ((els r.Rows).length : Nat) := by omega
  refine M1 (Zs J J (hka) J J J) J J ?_;refine zx (Q8 J J J) J (ze J (ze J (M1 (Qx J J J) J J ?_)));refine Qy J J J J J J J J J (z1 J (zz (Qd (zy (z0 J (zn J (zz (Ql J ?_))))))));refine Qh (Q0 (Qd (Xi [[],[],[1],[],[],[4],[3,4,5],[],[1,2,3,4,5,6,7],(u9 9),(u9 10),(u9 11)] [[],[],[36],[],[],[39],[38,39,40],[],[36,37,38,39,40,41,42],[35,36,37,38,39,40,41,42,43],[35,36,37,38,39,40,41,42,43,44],[35,36,37,38,39,40,41,42,43,44]] [[36,37,38,39,40,41,42,43],[35,38,39,40,41,42],[35,38,39,40,41,42],[35,36,37,39,40,42],[35,36,37,38,42],[35,36,37,38,42],[35,36,37,42],[35,36,37,38,39,40,41],[35],[],[],[]] J (DR.s (Qu J J J J J J) J J (DR.s (Qf J J J J (by decide)) J J (DR.s (Qg J J J J J) J J (DR.s (Qa J J J) J J (DR.s (Qf J J J J (by decide)) J J (DR.s (Qg J J J J J) J J (DR.s (Z6 J J J J (by omega)) J J (DR.s (Qa J J J) J J ?_)))))))))));refine DR.s (q_part J J J J J J hq) J J ?_;refine DR.s (Zs J J (hrw) J J J) J J ?_;refine DR.stop (by kernel_rfl) (by kernel_rfl) ?_;refine Qy J J J J J J J J J (z1 J (zz (Xa (F_r ?_))))
  exact Xn J J J J J (X6 [6,7,8] (by decide) J J J)
end
section
open Go.RowKit

theorem split_len (l : List UInt8) : (l.takeWhile zeroB).length + ((l.dropWhile zeroB).takeWhile someB).length + ((l.dropWhile zeroB).dropWhile someB).length = l.length := by
 have h1 := congrArg List.length (List.takeWhile_append_dropWhile (p := zeroB) (l := l))
 have h2 := congrArg List.length (List.takeWhile_append_dropWhile (p := someB) (l := l.dropWhile zeroB))
 rw [List.length_append] at h1 h2
 omega
theorem packZ_len : ∀ (n : Nat) (l : List UInt8),l.length ≤ n → (packZ l).length ≤ 13 * l.length
 | 0,l,h => by
  have : l = [] := List.eq_nil_of_length_eq_zero (by omega)
  subst this
  rw [packZ_nil]
  simp
 | n + 1,[],h => by rw [packZ_nil]; simp
 | n + 1,x :: r,h => by
  have h1 := packZ_ne x r
  have h2 := split_len (x :: r)
  have h3 := Yu (((x :: r).takeWhile zeroB).length : Nat)
  have h4 := Yu ((((x :: r).dropWhile zeroB).takeWhile someB).length : Nat)
  have h5 := packZ_len n (((x :: r).dropWhile zeroB).dropWhile someB) (by omega)
  rw [packZ]
  simp only [List.length_append]
  omega
def deltaT (a b : ByteArray) : ByteArray := bs (encVar b.size) ++ bs (packZ (xorText a b).data.toList)
theorem deltaT_size (a b : ByteArray) : (deltaT a b).size ≤ 6 + 13 * b.size := by
 have h1 := Yu (b.size : Int)
 have h2 := packZ_len _ (xorText a b).data.toList (Nat.le_refl _)
 have h3 : (xorText a b).data.toList.length = b.size := by
  have := xorL_len a b
  have h4 : b.data.toList.length = b.size := by simp
  show ((xorL a b).toArray).toList.length = b.size
  simp
  omega
 rw [deltaT,ByteArray.size_append]
 show ((encVar b.size).toArray).size + ((packZ (xorText a b).data.toList).toArray).size ≤ _
 simp
 omega
theorem I_DeltaText (a b : ByteArray) (ha : a.size ≤ 1048576) (hb : b.size ≤ 1048576) : Con Tryz.prog 20 [] [astr a,astr b] [] (S (deltaT a b)) := by
 have c1 := Xt b.size
 have c2 := I_XorText a b (by omega) (by omega)
 have hx : (xorText a b).size = b.size := by
  have := xorL_len a b
  have h4 : b.data.toList.length = b.size := by simp
  show ((xorL a b).toArray).size = b.size
  simp
  omega
 have c3 := I_PackZeros (xorText a b) (by omega)
 have hsz := deltaT_size a b
 rw [deltaT,ByteArray.size_append] at hsz
 rw [deltaT]
 refine Con.of Tryz.func20 J Tryz.ntmps20 J (fun E => ?_)
 refine zy (z1 J (zz (zy (z0 J (zx (Z3 J J J) J ?_)))));refine zx (Qj J J (c1) J) J ?_;refine z0 J (z0 J ?_);refine zx (Qj J J (c2) J) J ?_;refine zx (Qj J J (c3) J) J ?_;refine zx (q_cat J J J J (by omega)) J (z1 J (zz (Xa (F_r ?_))))
 exact Xp J J (X6 [] (by decide) J J J)
theorem S_DeltaText (a b : ByteArray) (ha : a.size ≤ 1048576) (hb : b.size ≤ 1048576) : Con Tryz.prog 70 [] [astr a,astr b] [] (S (deltaT a b)) := by
 have c1 := X3 b.size
 have c2 := S_XorText a b (by omega) (by omega)
 have hx : (xorText a b).size = b.size := by
  have := xorL_len a b
  have h4 : b.data.toList.length = b.size := by simp
  show ((xorL a b).toArray).size = b.size
  simp
  omega
 have c3 := S_PackZeros (xorText a b) (by omega)
 have hsz := deltaT_size a b
 rw [deltaT,ByteArray.size_append] at hsz
 rw [deltaT]
 refine Con.of Tryz.func70 J Tryz.ntmps70 J (fun E => ?_)
 refine zy (z1 J (zz (zy (z0 J (zx (Z3 J J J) J ?_)))));refine zx (Qj J J (c1) J) J ?_;refine z0 J (z0 J ?_);refine zx (Qj J J (c2) J) J ?_;refine zx (Qj J J (c3) J) J ?_;refine zx (q_cat J J J J (by omega)) J (z1 J (zz (Xa (F_r ?_))))
 exact Xp J J (X6 [] (by decide) J J J)
end
section
open Go.RowKit

theorem els_snoc {α : Type} [Enc α] {xs : List α} {k : Nat} (h : k < xs.length) : els (xs.take (k + 1)) = els (xs.take k) ++ [Enc.e xs[k]] := by
 rw [List.take_succ_eq_append_getElem h]
 exact List.map_append
theorem I_copyInts (xs : List Int) (hL : xs.length ≤ 1048576) : Con Tryz.prog 75 [] [al xs] [.row 1 (els xs)] (.o (.c (.ref 0))) := by
 have hlx := Yq xs
 refine Con.of Tryz.func75 J Tryz.ntmps75 J (fun E => ?_)
 refine zy (z1 J (zz (zy (z0 J ?_))));refine M_appnil J J J J J J J J (Yr _) (els_k _) (by omega) (by omega) ?_;refine z1 J (zz (Xa (F_r ?_)))
 exact Xp J J (X6 [0] (by decide) J J J)
theorem I_copyRows (xs : List (List Int)) (hg : Enc.gd xs) (hL : xs.length ≤ 1048576) (hr : ∀ r ∈ xs,r.length ≤ 1048576) : Con Tryz.prog 91 [] [al xs] [.row 1 (els xs)] (.o (.c (.ref 0))) := by
 have hlx := Yq xs
 refine Con.of Tryz.func91 J Tryz.ntmps91 J (fun E => ?_)
 refine zy (z1 J (zz (zy (z1 J (zz (Qd (Qd ?_)))))));refine Qc (z0 J (zx (Z0 J J J) J (z0 J (zz (Qk ?_)))))
 refine AWP.pre ?_ (W_nil 3 1 J)
 refine A_lq (fun m st => ∃ k : Nat,k + m = xs.length ∧ (True) ∧ st = (⟨_,[(3,.o (.c (.ref 0))),(6,L xs),(7,I (els xs).length),(8,I k)],[.row 1 (els (xs.take k))]⟩ : St)) (xs.length) ⟨_,⟨0,by omega,trivial,J⟩,W_gj [0] J⟩ ?_
 rintro m_A _ ⟨k,hk_A,hp_A,rfl⟩
 have hl2 : (els (xs.take k)).length = k := by rw [Yq]; simp; omega
 refine zy (zx (Z5 J J J J) J (zz (Qd ?_)))
 refine Xb J (fun h => ?_) (fun h => ?_)
 ·have h3 : k < xs.length := by have := of_decide_eq_true h; omega
  have hat := Yo h3
  refine Qh (Q0 (Qd (Qk (zy (zx (Q2 J J J J (by omega) (by assumption) J) J (zx (Z4 J J J J) J (z1 J (zz (Qc ?_)))))))));refine z0 J (z0 J ?_);refine M1 (Zs J J (I_copyInts xs[k] (hr _ (List.getElem_mem h3))) J J J) J J ?_;refine M1 (Zm J J J J J J) J J ?_;refine Xy J J J J J J J J J J J J J J (by omega) (by omega) ?_;refine z1 J (Qe (Q1 (Q0 (Qc (z7 J (by omega) (z0 J (zz ?_)))))))
  exact ⟨xs.length - (k + 1),by omega,(fun k : Nat => (⟨_,[(3,.o (.c (.ref 0))),(6,L xs),(7,I (els xs).length),(8,I k)],[.row 1 (els (xs.take k))]⟩ : St)) (k + 1),⟨k + 1,by omega,trivial,J⟩,X8 [0] (by decide) J (Ki (els_snoc h3)) (.c J (.c J (.c J (.c J (.nil)))))⟩
 ·have h3 : ¬ ((k : Int) < (els xs).length) := of_decide_eq_false h
  have hk : xs.take k = xs := List.take_of_length_le (by omega)
  refine Q9 (T_x (T_x (Xl (Q0 (zy (z0 J (z1 J (zz (Xa ?_)))))))));refine F_r ?_
  exact Xp J J (X6 [0] (by decide) J (Ki (by rw [hk])) J)
theorem I_copyReplay (x : TReplay) (hg : Enc.gd x) (h1 : x.Level.Rows.length ≤ 1048576) (h2 : x.Keys.length ≤ 1048576) (h3 : x.Rows.length ≤ 1048576) (hr : ∀ r ∈ x.Rows,r.length ≤ 1048576) : Con Tryz.prog 43 [] [ag x] (ownO (Enc.e x)) (.o (.ag (ownV 0 (Enc.e x)))) := by
 obtain ⟨g_Level,g_Players,g_Seed,g_Every,g_Rows,g_Keys⟩ := hg
 have hlx := Yq x.Keys
 refine Con.of Tryz.func43 J Tryz.ntmps43 J (fun E => ?_)
 refine zy (M1 (Qq J J J J) J J (M1 (Qx J J J) J J (zz (zy (z2 J J J (z4 J J J ?_))))));refine M1 (Zs J J (I_copyLevel x.Level g_Level h1) J J J) J J ?_;refine z2 J J J ?_;refine Qy J J J J J J J J J (zz (zy (z2 J J J (z3 J ?_))));refine M1 (Zs J J (I_copyRows x.Rows g_Rows h3 hr) J J J) J J ?_;refine z2 J J J ?_;refine Q5 J J J J J J J J (zz (zy (z2 J J J (z3 J ?_))));refine M_appnil J J J J J J J J (Yr _) (els_k _) (by omega) (by omega) ?_;refine z2 J J J ?_;refine Q5 J J J J J J J J (zz (zy (z4 J J J ?_)));refine Qy J J J J J J J J J (zz (Xa (F_r ?_)))
 exact Xm J J J J (X6 [2,3,4] (by decide) J J J)
section
variable {P : Program} {ops : Array Oper} {o : Oper} {st : St} {m : Nat} {t e : TypeId} {y z : Operand} {zs : List Value} {by_ : Nat}
theorem q_appz0 {ps : List Nat} {q kk : Nat} [hm : TyMake P t e zs by_] (ho : o.op = .call { callee := .builtin .append,args := #[y,z],argTypes := #[t,t] }) (hg : o.guard = none) (hy : st.ev y = .o (.c (.sb q 0 kk))) (hz : st.ev z = .o (.c (.rd ps (.sl kk [])))) (hkz : kk = zs.length) (hz0 : zs.isEmpty = false) : Qt P ops o st (.o (.c (.sb q 0 kk))) [] m :=
 .pure hg fun a w H F hr => by
  have hzn : zs ≠ [] := by intro e; rw [e] at hz0; cases hz0
  subst hkz
  obtain ⟨g,tt,vs,b1,b2,b3,b4⟩ := hr.v1 hy
  have h7 := src_any (P := P) (t := t) (e := e) (by_ := by_) (kk := zs.length) hr rfl hzn (hr.v1 hz) (es' := []) rfl (fun e he => by simp at he) (fun e he => by simp at he)
  obtain ⟨i,hi,hzz⟩ := Option.map_eq_some_iff.1 hm.info
  simp only [Prod.mk.injEq] at hzz
  have h8 : Src P i.size t (a.eval z) 0 [] w := by rw [hzz.2.1]; simpa [flatV] using h7
  refine ⟨a.eval y,Yv ho ?_,hr.v1 hy⟩
  rw [b4]
  exact run_append_room_src (P := P) w t t o.type e i hm.slice hi g 0 0 0 (a.eval z) 0 [] h8 (Nat.le_refl _) (by simp) (by simp)
theorem q_appz1 {ps : List Nat} {q kk : Nat} {es' : List (List T)} [hm : TyMake P t e zs by_] (ho : o.op = .call { callee := .builtin .append,args := #[y,z],argTypes := #[t,t] }) (hg : o.guard = none) (hy : st.ev y = .o (.c (.sb q 0 kk))) (hz : st.ev z = .o (.c (.rd ps (.sl kk es')))) (hn : es' = []) (hkz : kk = zs.length) (hz0 : zs.isEmpty = false) : Qt P ops o st (.o (.c (.sb q 0 kk))) [] m := by
 subst hn
 exact q_appz0 ho hg hy hz hkz hz0
end
theorem S_copyReplayE (x : TReplay) (hg : Enc.gd x) (h1 : x.Level.Rows.length ≤ 1048576) (h2 : x.Keys.length ≤ 1048576) (h3 : x.Rows.length ≤ 1048576) (hr : ∀ r ∈ x.Rows,r.length ≤ 1048576) : Con Tryz.prog 67 [] [ag x] (ownO (Enc.e x)) (.o (.ag (ownV 0 (Enc.e x)))) := by
 obtain ⟨g_Level,g_Players,g_Seed,g_Every,g_Rows,g_Keys⟩ := hg
 have hlx := Yq x.Keys
 have hly := Yq x.Rows
 have h00 : ([] : List (List T)).length = 0 := rfl
 refine Con.of Tryz.func67 J Tryz.ntmps67 J (fun E => ?_)
 refine zy (M1 (Qq J J J J) J J (M1 (Qx J J J) J J (zz (zy (z4 J J J (M1 (Qx J J J) J J ?_))))));refine Qy J J J J J J J J J (zz (zy (z2 J J J (z4 J J J ?_))));refine M1 (Zs J J (S_copyLevel x.Level g_Level h1) J J J) J J ?_;refine z2 J J J ?_;refine Qy J J J J J J J J J (zz (zy (z2 J J J ?_)));refine Q5 J J J J J J J J (zz (Qd (zy (z1 J (zz (Qk ?_))))))
 refine AWP.pre ?_ (Wk.nilbox (p := 2) (i := 4) 1 J J)
 refine A_lq (fun m st => ∃ k : Nat,k + m = x.Rows.length ∧ (True) ∧ st = (⟨_,[(1,.o (.c (.ptr 0 0))),(2,.o (.c (.ptr 1 0))),(3,.o (.c (.ptr 2 0))),(4,I k)],[.box ((Enc.e x).map (V1.rd [])),.box [nilV,jv 0,jv 0,jv 0,nilV,nilV],.box [.ref 3,jv x.Players,jv x.Seed,jv x.Every,.ref 4,.rd [] (sl x.Keys)],.row 1 (els x.Level.Rows),.row 1 (els (x.Rows.take k))]⟩ : St)) (x.Rows.length) ⟨_,⟨0,by omega,trivial,J⟩,W_gj [0,1,2,3,4] J⟩ ?_
 rintro m_A _ ⟨k,hk_A,hp_A,rfl⟩
 have hl2 : (els (x.Rows.take k)).length = k := by rw [Yq]; simp; omega
 refine Qd (zy (z0 J (z2 J J J (z3 J (zx (Z0 J J J) J (zx (Z5 J J J J) J (zz ?_)))))))
 refine Xb J (fun h => ?_) (fun h => ?_)
 ·have h4 : k < x.Rows.length := by have := of_decide_eq_true h; omega
  obtain ⟨r,hrr⟩ : ∃ r,x.Rows[k] = r := ⟨_,rfl⟩
  have hat := Yo h4
  have hrk := hr _ (List.getElem_mem h4)
  have hsn := els_snoc h4
  rw [hrr] at hat hrk hsn
  have hlk := Yq r
  refine Qh (Q0 (Qd (Qk ?_)))
  cases r with
  | nil =>
   refine Xi u8_44 u8_45 u8_46 J (DR.s (Qf J J J J (by decide)) J J (DR.s (Qg J J J J J) J J (DR.s (Zo J J J) J J (DR.s (Qf J J J J (by decide)) J J (DR.s (Qg J J J J J) J J (DR.s (Qa J J J) J J (DR.s (Q2 J J J J (by omega) (by assumption) J) J J (DR.s (Z4 J J J J) J J ?_))))))));refine DR.s (q_appz0 J J J J J J) J J ?_;refine DR.s (Zm J J J J J J) J J (DR.stop (by kernel_rfl) (by kernel_rfl) ?_);refine AL.weak (Wk.sbrow (q := 5) (es := []) J J (Nat.le_of_ble_eq_true J)) ?_;refine Xy J J J J J J J J J J J J J J (by omega) (by omega) ?_;refine z2 J J J ?_;refine Q5 J J J J J J J J (Qe (Q1 (Q0 (Qc (z0 J (z7 J (by omega) (z1 J (zz ?_))))))))
   exact ⟨x.Rows.length - (k + 1),by omega,(fun k : Nat => (⟨_,[(1,.o (.c (.ptr 0 0))),(2,.o (.c (.ptr 1 0))),(3,.o (.c (.ptr 2 0))),(4,I k)],[.box ((Enc.e x).map (V1.rd [])),.box [nilV,jv 0,jv 0,jv 0,nilV,nilV],.box [.ref 3,jv x.Players,jv x.Seed,jv x.Every,.ref 4,.rd [] (sl x.Keys)],.row 1 (els x.Level.Rows),.row 1 (els (x.Rows.take k))]⟩ : St)) (k + 1),⟨k + 1,by omega,trivial,J⟩,X8 [0,1,2,3,4] (by decide) J ((by rw [hsn]; rfl)) (.c J (.c J (.c J (.c J (.nil)))))⟩
  | cons a rs =>
   have hpos : 0 < (els (a :: rs)).length := by rw [Yq]; simp
   refine Xi u8_44 u8_45 u8_46 J (DR.s (Qf J J J J (by decide)) J J (DR.s (Qg J J J J J) J J (DR.s (Zo J J J) J J (DR.s (Qf J J J J (by decide)) J J (DR.s (Qg J J J J J) J J (DR.s (Qa J J J) J J (DR.s (Q2 J J J J (by omega) (by assumption) J) J J (DR.s (Z4 J J J J) J J ?_))))))));refine DR.s (q_appz J J J J J J (Yr _) (els_k _) hpos (by omega) (by omega)) J J ?_;refine DR.s (Zm J J J J J J) J J (DR.stop (by kernel_rfl) (by kernel_rfl) ?_);refine Xy J J J J J J J J J J J J J J (by omega) (by omega) ?_;refine z2 J J J ?_;refine Q5 J J J J J J J J (Qe (Q1 (Q0 (Qc (z0 J (z7 J (by omega) (z1 J (zz ?_))))))))
   exact ⟨x.Rows.length - (k + 1),by omega,(fun k : Nat => (⟨_,[(1,.o (.c (.ptr 0 0))),(2,.o (.c (.ptr 1 0))),(3,.o (.c (.ptr 2 0))),(4,I k)],[.box ((Enc.e x).map (V1.rd [])),.box [nilV,jv 0,jv 0,jv 0,nilV,nilV],.box [.ref 3,jv x.Players,jv x.Seed,jv x.Every,.ref 4,.rd [] (sl x.Keys)],.row 1 (els x.Level.Rows),.row 1 (els (x.Rows.take k))]⟩ : St)) (k + 1),⟨k + 1,by omega,trivial,J⟩,X8 [0,1,2,3,4] (by decide) J ((by rw [hsn]; rfl)) (.c J (.c J (.c J (.c J (.nil)))))⟩
 ·have hk : x.Rows.take k = x.Rows := List.take_of_length_le (by have := of_decide_eq_false h; omega)
  rw [hk]
  refine Q9 (T_x (T_x (Xl (Q0 (zy (M1 (Zn J J J) J J (z2 J J J (z3 J ?_))))))));refine M_app J J J J J J J J J J (Yr _) (els_k _) (by omega) (by omega) ?_;refine z2 J J J ?_;refine Q5 J J J J J J J J (zz (zy (z4 J J J ?_)));refine Qy J J J J J J J J J (zz (Xa (F_r ?_)))
  exact Xm J J J J (X6 [3,4,5] (by decide) J J J)
end
section
open Go.RowKit

noncomputable def addOne (r : TReplay) (row : List Int) (last w : TWorld) : TReplay :=
 ⟨r.Level,r.Players,r.Seed,r.Every,r.Rows ++ [row],if ((r.Rows.length : Int) + 1) % r.Every = 0 then r.Keys ++ [deltaT (worldBytes last) (worldBytes (stepW w row))] else r.Keys⟩
noncomputable def addTo (r : TReplay) (row : List Int) : Option TWorld → Option TWorld → TReplay × Bool
 | some last,some w => if replayOk (addOne r row last w) = true then (addOne r row last w,true) else (r,false)
 | _,_ => (r,false)
noncomputable def addRow (r : TReplay) (row : List Int) : TReplay × Bool := addTo r row (keyAt r ((r.Keys.length : Int) - 1)) (seekM r r.Rows.length)
theorem addTo_n (r : TReplay) (row : List Int) (x : Option TWorld) : addTo r row none x = (r,false) := rfl
theorem addTo_s (r : TReplay) (row : List Int) (x : Option TWorld) : addTo r row x none = (r,false) := by cases x <;> rfl
theorem addTo_b (r : TReplay) (row : List Int) (last w : TWorld) : addTo r row (some last) (some w) = if replayOk (addOne r row last w) = true then (addOne r row last w,true) else (r,false) := rfl
section
variable {r : TReplay} {row : List Int} {last w : TWorld}
theorem add_key (h : keyAt r ((r.Keys.length : Int) - 1) = none) : addRow r row = (r,false) := by
 unfold addRow
 rw [h]
 exact addTo_n _ _ _
theorem add_seek (h : seekM r r.Rows.length = none) : addRow r row = (r,false) := by
 unfold addRow
 rw [h]
 exact addTo_s _ _ _
theorem add_bad (h : replayOk r = false) : addRow r row = (r,false) := add_key (keyAt_bad (fun q => by rw [q.1] at h; cases h))
theorem add_no (h1 : keyAt r ((r.Keys.length : Int) - 1) = some last) (h2 : seekM r r.Rows.length = some w) (h : replayOk (addOne r row last w) = false) : addRow r row = (r,false) := by
 unfold addRow
 rw [h1,h2,addTo_b]
 exact if_neg (by rw [h]; exact Bool.false_ne_true)
theorem add_yes (h1 : keyAt r ((r.Keys.length : Int) - 1) = some last) (h2 : seekM r r.Rows.length = some w) (h : replayOk (addOne r row last w) = true) : addRow r row = (addOne r row last w,true) := by
 unfold addRow
 rw [h1,h2,addTo_b]
 exact if_pos h
theorem add_not (h : ∀ last w,replayOk (addOne r row last w) = false) : addRow r row = (r,false) := by
 unfold addRow
 cases keyAt r ((r.Keys.length : Int) - 1) with
 | none => exact addTo_n _ _ _
 | some last =>
  cases seekM r r.Rows.length with
  | none => exact addTo_s _ _ _
  | some w =>
   rw [addTo_b]
   exact if_neg (by rw [h]; exact Bool.false_ne_true)
theorem add_full (h : 400 ≤ r.Rows.length) : addRow r row = (r,false) := add_not fun last w => by
 rw [← Bool.not_eq_true]
 intro q
 unfold replayOk at q
 simp only [Bool.and_eq_true,decide_eq_true_eq] at q
 have := q.1.1.2
 simp only [addOne,List.length_append,List.length_singleton] at this
 omega
theorem add_row (h : rowOk row r.Players = false) : addRow r row = (r,false) := add_not fun last w => by
 rw [← Bool.not_eq_true]
 intro q
 unfold replayOk at q
 simp only [Bool.and_eq_true] at q
 have := List.all_eq_true.1 q.1.2 row (by simp [addOne])
 simp only [addOne] at this
 rw [h] at this
 cases this
end
theorem add_gd {r : TReplay} {row : List Int} {last w : TWorld} (hg : Enc.gd r) (gr : Enc.gd row) (h1 : r.Keys.length ≤ 1048576) (h3 : r.Rows.length ≤ 1048576) : Enc.gd (addOne r row last w) := by
 obtain ⟨g_Level,g_Players,g_Seed,g_Every,g_Rows,g_Keys⟩ := hg
 refine ⟨g_Level,g_Players,g_Seed,g_Every,⟨?_,fun x hx => ?_⟩,?_⟩
 ·simp only [addOne,List.length_append,List.length_singleton]; omega
 ·rcases List.mem_append.1 hx with h | h
  ·exact g_Rows.2 x h
  ·rw [List.mem_singleton] at h; subst h; exact gr
 ·simp only [addOne]
  split
  ·refine ⟨by rw [List.length_append,List.length_singleton]; omega,fun x hx => ?_⟩
   rcases List.mem_append.1 hx with h | h
   ·exact g_Keys.2 x h
   ·rw [List.mem_singleton] at h
    subst h
    have h5 := deltaT_size (worldBytes last) (worldBytes (stepW w row))
    have h6 := Yk (stepW w row)
    show (deltaT _ _).size ≤ 9223372036854775807
    omega
  ·exact g_Keys
theorem rows_tot : ∀ {xs : List (List Int)},tot xs ≤ 1048576 → ∀ x ∈ xs,x.length ≤ 1048576
 | [],_,x,hx => by cases hx
 | y :: ys,h,x,hx => by
  have h2 : tot (y :: ys) = y.length + tot ys := by simp [tot]
  rcases List.mem_cons.1 hx with e | e
  ·subst e; omega
  ·exact rows_tot (xs := ys) (by omega) x e
theorem rw_3 {a b c : Ob} {t : List Ob} {k : Nat} {x y : List (List T)} (h : x = y) : a :: b :: c :: Ob.row k x :: t = a :: b :: c :: Ob.row k y :: t := by rw [h]
theorem rw_4 {a b c d : Ob} {t : List Ob} {k : Nat} {x y : List (List T)} (h : x = y) : a :: b :: c :: d :: Ob.row k x :: t = a :: b :: c :: d :: Ob.row k y :: t := by rw [h]
theorem I_AddRow (r : TReplay) (row : List Int) (hg : Enc.gd r) (gr : Enc.gd row) (ir : RepIn r) (hrow : row.length ≤ 1048576) (hks : ∀ x ∈ r.Keys,x.size ≤ 1048576) : Con Tryz.prog 26 [] [ag r,al row] (ownO (Enc.e (addRow r row).1)) (.tu [.ag (ownV 0 (Enc.e (addRow r row).1)),.c (bv (addRow r row).2)]) := by
 have cr := Xv r hg
 have hlr := Yq r.Rows
 have hlk := Yq r.Keys
 have hrt := rows_tot ir.h4
 have cc := I_copyReplay r hg ir.h1 ir.h2 ir.h3 hrt
 have crow := I_rowOk row r.Players gr
 have hkl := ir.h2
 have hrl := ir.h3
 cases ho : replayOk r with
 | false =>
  rw [ho] at cr
  rw [add_bad ho]
  refine Con.of Tryz.func26 J Tryz.ntmps26 J (fun E => ?_)
  refine zy (M1 (Qq J J J J) J J (M1 (Qx J J J) J J (z1 J (zz (zy (z4 J J J ?_))))));refine M1 (Zs J J (cc) J J J) J J ?_;refine M1 (Qx J J J) J J ?_;refine Qy J J J J J J J J J (zz (Qd (zy (z4 J J J ?_))));refine zx (Qj J J (cr) J) J ?_;refine zn J (z0 J (z6 J (z6 J (z6 J (z6 J (zpT J (z0 J (z6 J (z6 J (z6 J (z6 J ?_)))))))))));refine z6 J (zpT J (zz (Qm J (zy (z4 J J J ?_)))));refine Qy J J J J J J J J J (z1 J (zz (Xa (T_r (F_r ?_)))))
  exact Xn J J J J J (X6 [2,3,4] (by decide) J J J)
 | true =>
 rw [ho] at cr
 by_cases hf : 400 ≤ r.Rows.length
 ·have f1 : decide (((els r.Rows).length : Int) ≥ 400) = true := decide_eq_true (by omega)
  rw [add_full hf]
  refine Con.of Tryz.func26 J Tryz.ntmps26 J (fun E => ?_)
  refine zy (M1 (Qq J J J J) J J (M1 (Qx J J J) J J (z1 J (zz (zy (z4 J J J ?_))))));refine M1 (Zs J J (cc) J J J) J J ?_;refine M1 (Qx J J J) J J ?_;refine Qy J J J J J J J J J (zz (Qd (zy (z4 J J J ?_))));refine zx (Qj J J (cr) J) J ?_;refine zn J (z0 J (z5 J (z2 J J J (z5 J (z3 J (z5 J (zx (Z0 J J J) J (z5 J (z9d J (by assumption) (zpF J (z0 J ?_)))))))))));refine z6 J (z6 J (z6 J (z6 J (z6 J (zpT J (zz (Qm J (zy (z4 J J J ?_)))))))));refine Qy J J J J J J J J J (z1 J (zz (Xa (T_r (F_r ?_)))))
  exact Xn J J J J J (X6 [2,3,4] (by decide) J J J)
 have f1 : decide (((els r.Rows).length : Int) ≥ 400) = false := decide_eq_false (by omega)
 cases hro : rowOk row r.Players with
 | false =>
  rw [hro] at crow
  rw [add_row hro]
  refine Con.of Tryz.func26 J Tryz.ntmps26 J (fun E => ?_)
  refine zy (M1 (Qq J J J J) J J (M1 (Qx J J J) J J (z1 J (zz (zy (z4 J J J ?_))))));refine M1 (Zs J J (cc) J J J) J J ?_;refine M1 (Qx J J J) J J ?_;refine Qy J J J J J J J J J (zz (Qd (zy (z4 J J J ?_))));refine zx (Qj J J (cr) J) J ?_;refine zn J (z0 J (z5 J (z2 J J J (z5 J (z3 J (z5 J (zx (Z0 J J J) J (z5 J (z9d J (by assumption) (zpF J (z0 J ?_)))))))))));refine z5 J (z0 J (z5 J (z2 J J J (z5 J (z3 J (z5 J ?_))))));refine zx (Qj J J (crow) J) J ?_;refine z5 J (zn J (zpF J (zz (Qm J (zy (z4 J J J ?_))))));refine Qy J J J J J J J J J (z1 J (zz (Xa (T_r (F_r ?_)))))
  exact Xn J J J J J (X6 [2,3,4] (by decide) J J J)
 | true =>
 rw [hro] at crow
 have ck := I_KeyAt r (((els r.Keys).length : Int) - 1) hg ⟨by omega,by omega⟩ ir hks
 have cse := I_SeekReplay r ((els r.Rows).length : Int) hg ⟨by omega,by omega⟩ ir hks
 have ik := keyAt_in (k := ((els r.Keys).length : Int) - 1) ir
 have is_ := seek_in (t := ((els r.Rows).length : Int)) ir
 rw [hlk] at ik
 rw [hlr] at is_
 rw [show keyAt r (((els r.Keys).length : Int) - 1) = keyAt r ((r.Keys.length : Int) - 1) by rw [hlk]] at ck
 rw [show seekM r ((els r.Rows).length : Int) = seekM r (r.Rows.length : Int) by rw [hlr]] at cse
 have cci := I_copyInts row hrow
 refine Con.of Tryz.func26 J Tryz.ntmps26 J (fun E => ?_)
 refine zy (M1 (Qq J J J J) J J (M1 (Qx J J J) J J (z1 J (zz (zy (z4 J J J ?_))))));refine M1 (Zs J J (cc) J J J) J J ?_;refine M1 (Qx J J J) J J ?_;refine Qy J J J J J J J J J (zz (Qd (zy (z4 J J J ?_))));refine zx (Qj J J (cr) J) J ?_;refine zn J (z0 J (z5 J (z2 J J J (z5 J (z3 J (z5 J (zx (Z0 J J J) J (z5 J (z9d J (by assumption) (zpF J (z0 J ?_)))))))))));refine z5 J (z0 J (z5 J (z2 J J J (z5 J (z3 J (z5 J ?_))))));refine zx (Qj J J (crow) J) J ?_;refine z5 J (zn J (zpF J (zz (Ql J (Qh (Q0 (zy (z4 J J J (z2 J J J ?_)))))))));refine z3 J (zx (Z0 J J J) J (z8 J (by omega) ?_));refine AL.weak (st' := (⟨_,[(1,L row),(2,.o (.c (.ptr 0 0))),(4,.o (.c (.ptr 1 0))),(6,.o (.c (.ptr 5 0))),(30,.o (.ag ((Enc.e r).map (V1.rd [])))),(34,I (((els r.Keys).length : Int) - 1))],[.box ((Enc.e r).map (V1.rd [])),.box [nilV,jn 0,jn 0,jn 0,nilV,nilV],.row 1 (els r.Level.Rows),.row 1 (els r.Rows),.row 1 (els r.Keys),.box [.ref 2,jn r.Players,jn r.Seed,jn r.Every,.ref 3,.ref 4]]⟩ : St)) (W_gj [0,1,2,3,4,5] J) ?_
 clear crow f1
 cases hk : keyAt r ((r.Keys.length : Int) - 1) with
 | none =>
  rw [hk] at ck
  rw [add_key hk]
  refine M1 (Zs J J (ck) J J J) J J ?_;refine zx (Q8 J J J) J (ze J (ze J (M1 (Qx J J J) J J ?_)));refine Qy J J J J J J J J J (z1 J (zz (Qd (zy (z0 J (zn J (zz (Qm J ?_))))))));refine zy (z4 J J J ?_);refine Qy J J J J J J J J J (z1 J (zz (Xa (T_r (F_r ?_)))))
  exact Xn J J J J J (X6 [2,3,4] (by decide) J J J)
 | some last =>
 rw [hk] at ck ik
 have wl := I_WorldBytes last ik.gd
 refine M1 (Zs J J (ck) J J J) J J ?_;refine zx (Q8 J J J) J (ze J (ze J (M1 (Qx J J J) J J ?_)));refine Qy J J J J J J J J J (z1 J (zz (Qd (zy (z0 J (zn J (zz (Ql J ?_))))))));refine Qh (Q0 (zy (z4 J J J (z2 J J J (z3 J (zx (Z0 J J J) J ?_))))));refine AL.weak (st' := (⟨_,[(1,L row),(2,.o (.c (.ptr 0 0))),(4,.o (.c (.ptr 1 0))),(6,.o (.c (.ptr 5 0))),(7,.o (.c (.ptr 9 0))),(42,.o (.ag ((Enc.e r).map (V1.rd [])))),(45,I ((els r.Rows).length : Int))],[.box ((Enc.e r).map (V1.rd [])),.box [nilV,jn 0,jn 0,jn 0,nilV,nilV],.row 1 (els r.Level.Rows),.row 1 (els r.Rows),.row 1 (els r.Keys),.box [.ref 2,jn r.Players,jn r.Seed,jn r.Every,.ref 3,.ref 4],.row 1 (els last.Level.Rows),.row 1 (els last.Scores),.row 9 (els last.Bodies),.box [.ref 6,jn last.Tick,jn last.Seed,.ref 7,.ref 8]]⟩ : St)) (W_gj [0,1,2,3,4,5,6,7,8,9] J) ?_
 clear ck
 cases hs : seekM r (r.Rows.length : Int) with
 | none =>
  rw [hs] at cse
  rw [add_seek hs]
  refine M1 (Zs J J (cse) J J J) J J ?_;refine zx (Q8 J J J) J (ze J (ze J (M1 (Qx J J J) J J ?_)));refine Qy J J J J J J J J J (z1 J (zz (Qd (zy (z0 J (zn J (zz (Qm J ?_))))))));refine zy (z4 J J J ?_);refine Qy J J J J J J J J J (z1 J (zz (Xa (T_r (F_r ?_)))))
  exact Xn J J J J J (X6 [2,3,4] (by decide) J J J)
 | some w =>
 rw [hs] at cse is_
 have iw : WorIn w := is_
 refine M1 (Zs J J (cse) J J J) J J ?_;refine zx (Q8 J J J) J (ze J (ze J (M1 (Qx J J J) J J ?_)));refine Qy J J J J J J J J J (z1 J (zz (Qd (zy (z0 J (zn J (zz (Ql J ?_))))))));refine Qh (Q0 (Qd ?_))
 refine AWP.pre (st' := (⟨_,[(1,L row),(2,.o (.c (.ptr 0 0))),(4,.o (.c (.ptr 1 0))),(6,.o (.c (.ptr 5 0))),(7,.o (.c (.ptr 9 0))),(9,.o (.c (.ptr 13 0)))],[.box ((Enc.e r).map (V1.rd [])),.box [nilV,jn 0,jn 0,jn 0,nilV,nilV],.row 1 (els r.Level.Rows),.row 1 (els r.Rows),.row 1 (els r.Keys),.box [.ref 2,jn r.Players,jn r.Seed,jn r.Every,.ref 3,.ref 4],.row 1 (els last.Level.Rows),.row 1 (els last.Scores),.row 9 (els last.Bodies),.box [.ref 6,jn last.Tick,jn last.Seed,.ref 7,.ref 8],.row 1 (els w.Level.Rows),.row 1 (els w.Scores),.row 9 (els w.Bodies),.box [.ref 10,jn w.Tick,jn w.Seed,.ref 11,.ref 12]]⟩ : St)) ?_ (W_gj [0,1,2,3,4,5,6,7,8,9,10,11,12,13] J)
 clear cse
 refine Xi [[],[0],[],[2],[2,3],(u9 5),(u9 6),(u9 7)] [[],[52],[],[54],[54,55],[52,53,54,55,56],[52,53,54,55,56,57],[52,53,54,55,56,57,58]] [[54,55,56],[54,55,56],[52,53],[52,53],[52,53],[],[],[]] J (DR.s (Qf J J J J (by decide)) J J (DR.s (Qg J J J J J) J J (DR.s (Qa J J J) J J ?_)));refine DR.s (Zs J J (cci) J J J) J J ?_;refine DR.s (Zm J J J J J J) J J (DR.stop (by kernel_rfl) (by kernel_rfl) ?_);refine AL.weak (st' := (⟨_,[(1,L row),(2,.o (.c (.ptr 0 0))),(4,.o (.c (.ptr 1 0))),(6,.o (.c (.ptr 5 0))),(7,.o (.c (.ptr 9 0))),(9,.o (.c (.ptr 13 0))),(53,.o (.c (.ref 3))),(56,.o (.c (.sb 15 1 1)))],[.box ((Enc.e r).map (V1.rd [])),.box [nilV,jn 0,jn 0,jn 0,nilV,nilV],.row 1 (els r.Level.Rows),.row 1 (els r.Rows),.row 1 (els r.Keys),.box [.ref 2,jn r.Players,jn r.Seed,jn r.Every,.ref 3,.ref 4],.row 1 (els last.Level.Rows),.row 1 (els last.Scores),.row 9 (els last.Bodies),.box [.ref 6,jn last.Tick,jn last.Seed,.ref 7,.ref 8],.row 1 (els w.Level.Rows),.row 1 (els w.Scores),.row 9 (els w.Bodies),.box [.ref 10,jn w.Tick,jn w.Seed,.ref 11,.ref 12],.row 1 (els row),.box [.ref 14]]⟩ : St)) (W_gj [0,1,2,3,4,5,6,7,8,9,10,11,12,13,14,15] J) ?_;refine Xy J J J J J J J J J J J J J J (by omega) (by omega) ?_;refine z2 J J J ?_;refine Q5 J J J J J J J J (zz (Qd (zy (z2 J J J (z3 J (zx (Z1 J J J J) J (z2 J J J (z3 J ?_))))))))
 refine AL.weak (st' := (⟨_,[(1,L row),(2,.o (.c (.ptr 0 0))),(4,.o (.c (.ptr 1 0))),(6,.o (.c (.ptr 5 0))),(7,.o (.c (.ptr 9 0))),(9,.o (.c (.ptr 13 0))),(61,I ((r.Rows.length : Int) + 1)),(63,I r.Every)],[.box ((Enc.e r).map (V1.rd [])),.box [nilV,jn 0,jn 0,jn 0,nilV,nilV],.row 1 (els r.Level.Rows),.row 1 (els (r.Rows ++ [row])),.row 1 (els r.Keys),.box [.ref 2,jn r.Players,jn r.Seed,jn r.Every,.ref 3,.ref 4],.row 1 (els last.Level.Rows),.row 1 (els last.Scores),.row 9 (els last.Bodies),.box [.ref 6,jn last.Tick,jn last.Seed,.ref 7,.ref 8],.row 1 (els w.Level.Rows),.row 1 (els w.Scores),.row 9 (els w.Bodies),.box [.ref 10,jn w.Tick,jn w.Seed,.ref 11,.ref 12]]⟩ : St)) (X8 [0,1,2,3,4,5,6,7,8,9,10,11,12,13] (by decide) J ((by exact rw_3 (by rw [Yn]; rfl))) (.c J (.c J (.c J (.c J (.c J (.c J (.cons (Xx (by rw [List.length_append,List.length_singleton]; omega)) (.c J (.nil)))))))))) ?_
 obtain ⟨he1,he2⟩ := (rok ho).e
 have gdy := add_gd (last := last) (w := w) hg gr hkl hrl
 by_cases hq : ((r.Rows.length : Int) + 1) % r.Every = 0
 case neg =>
  have f3 : decide (((r.Rows.length : Int) + 1) % r.Every = 0) = false := decide_eq_false hq
  have hy : addOne r row last w = ⟨r.Level,r.Players,r.Seed,r.Every,r.Rows ++ [row],r.Keys⟩ := by rw [addOne,if_neg hq]
  rw [hy] at gdy
  have cy := Xv _ gdy
  refine zx (Z9 J J J J (by omega)) J (z9e J (by assumption) (zz (Ql J (Qh (Q0 (Qd (zy (z4 J J J ?_))))))));refine AL.weak (st' := (⟨_,[(1,L row),(2,.o (.c (.ptr 0 0))),(4,.o (.c (.ptr 1 0))),(6,.o (.c (.ptr 5 0))),(79,.o (.ag [.ref 2,jn r.Players,jn r.Seed,jn r.Every,.ref 3,.ref 4]))],[.box ((Enc.e r).map (V1.rd [])),.box [nilV,jn 0,jn 0,jn 0,nilV,nilV],.row 1 (els r.Level.Rows),.row 1 (els (r.Rows ++ [row])),.row 1 (els r.Keys),.box [.ref 2,jn r.Players,jn r.Seed,jn r.Every,.ref 3,.ref 4]]⟩ : St)) (W_gj [0,1,2,3,4,5] J) ?_
  cases hok : replayOk (⟨r.Level,r.Players,r.Seed,r.Every,r.Rows ++ [row],r.Keys⟩ : TReplay) with
  | true =>
   rw [hok] at cy
   rw [add_yes hk hs (by rw [hy]; exact hok),hy]
   refine zx (Qj J J (cy) J) J ?_;refine zn J (zz (Ql J (Qh (Q0 (zy (z4 J J J ?_))))));refine Qy J J J J J J J J J (z1 J (zz (Xa (F_r ?_))))
   exact Xn J J J J J (X6 [2,3,4] (by decide) J J J)
  | false =>
   rw [hok] at cy
   rw [add_no hk hs (by rw [hy]; exact hok)]
   refine zx (Qj J J (cy) J) J ?_;refine zn J (zz (Qm J (zy (z4 J J J ?_))));refine M1 (Zs J J (cc) J J J) J J ?_;refine Qy J J J J J J J J J (z1 J (zz (Xa (T_r (F_r ?_)))))
   exact Xn J J J J J (X6 [6,7,8] (by decide) J J J)
 have f3 : decide (((r.Rows.length : Int) + 1) % r.Every = 0) = true := decide_eq_true hq
 have cst := I_StepWorld w row iw.gd gr iw.h1 iw.h2 iw.h3
 have hlv := Kq w row
 have hy : addOne r row last w = ⟨r.Level,r.Players,r.Seed,r.Every,r.Rows ++ [row],r.Keys ++ [deltaT (worldBytes last) (worldBytes (stepW w row))]⟩ := by rw [addOne,if_pos hq]
 rw [hy] at gdy
 have cy := Xv _ gdy
 have wz := I_WorldBytes (stepW w row) (stepW_fits iw.gd).1
 have hb1 := Yk last
 have hb2 := Yk (stepW w row)
 have cd := I_DeltaText (worldBytes last) (worldBytes (stepW w row)) (by omega) (by omega)
 rw [← hlv] at cst
 generalize stepW w row = z at cst hy gdy cy wz cd hb2
 obtain ⟨D,hD⟩ : ∃ D,D = deltaT (worldBytes last) (worldBytes z) := ⟨_,rfl⟩
 rw [← hD] at hy gdy cy cd
 refine zx (Z9 J J J J (by omega)) J (z9e J (by assumption) (zz (Qm J (zy (z4 J J J (z0 J ?_))))));refine M1 (Zs J J (cst) J J J) J J ?_;refine Qy J J J J J J J J J (zz ?_)
 refine AWP.pre (st' := (⟨_,[(1,L row),(2,.o (.c (.ptr 0 0))),(4,.o (.c (.ptr 1 0))),(6,.o (.c (.ptr 5 0))),(7,.o (.c (.ptr 9 0))),(9,.o (.c (.ptr 13 0)))],[.box ((Enc.e r).map (V1.rd [])),.box [nilV,jn 0,jn 0,jn 0,nilV,nilV],.row 1 (els r.Level.Rows),.row 1 (els (r.Rows ++ [row])),.row 1 (els r.Keys),.box [.ref 2,jn r.Players,jn r.Seed,jn r.Every,.ref 3,.ref 4],.row 1 (els last.Level.Rows),.row 1 (els last.Scores),.row 9 (els last.Bodies),.box [.ref 6,jn last.Tick,jn last.Seed,.ref 7,.ref 8],.row 1 (els z.Level.Rows),.row 1 (els z.Scores),.row 9 (els z.Bodies),.box [.ref 10,jn z.Tick,jn z.Seed,.ref 11,.ref 12]]⟩ : St)) ?_ (W_gj [0,1,2,3,4,5,6,7,8,9,14,15,16,13] J)
 refine Xi [[],[0],[],[2],[],[2,3,4],[2,3,4,5],[2,3,4,5,6],(u9 8),(u9 9),(u9 10)] [[],[69],[],[71],[],[71,72,73],[71,72,73,74],[71,72,73,74,75],[69,70,71,72,73,74,75,76],[69,70,71,72,73,74,75,76,77],[69,70,71,72,73,74,75,76,77,78]] [[71,72,73,74,75,76],[71,72,73,74,75,76],[69,70,73],[69,70,73],[69,70,71,72],[69,70],[69,70],[69,70],[],[],[]] J (DR.s (Qf J J J J (by decide)) J J (DR.s (Qg J J J J J) J J (DR.s (Qu J J J J J J) J J ?_)));refine DR.s (Qj J J (wl) J) J J ?_;refine DR.s (Qu J J J J J J) J J ?_;refine DR.s (Qj J J (wz) J) J J ?_;refine DR.s (Qj J J (cd) J) J J ?_;refine DR.s (Zm J J J J J J) J J (DR.stop (by kernel_rfl) (by kernel_rfl) ?_);refine AL.weak (st' := (⟨_,[(1,L row),(2,.o (.c (.ptr 0 0))),(4,.o (.c (.ptr 1 0))),(6,.o (.c (.ptr 5 0))),(70,.o (.c (.ref 4))),(76,.o (.c (.sb 6 1 1)))],[.box ((Enc.e r).map (V1.rd [])),.box [nilV,jn 0,jn 0,jn 0,nilV,nilV],.row 1 (els r.Level.Rows),.row 1 (els (r.Rows ++ [row])),.row 1 (els r.Keys),.box [.ref 2,jn r.Players,jn r.Seed,jn r.Every,.ref 3,.ref 4],.box [.rd [] (.v (.string D))]]⟩ : St)) (W_gj [0,1,2,3,4,5,14] J) ?_;refine Xy J J J J J J J J J J J J J J (by omega) (by omega) ?_;refine z2 J J J ?_;refine Q5 J J J J J J J J (zz (Qd (zy (z4 J J J ?_))))
 refine AL.weak (st' := (⟨_,[(1,L row),(2,.o (.c (.ptr 0 0))),(4,.o (.c (.ptr 1 0))),(6,.o (.c (.ptr 5 0))),(79,.o (.ag [.ref 2,jn r.Players,jn r.Seed,jn r.Every,.ref 3,.ref 4]))],[.box ((Enc.e r).map (V1.rd [])),.box [nilV,jn 0,jn 0,jn 0,nilV,nilV],.row 1 (els r.Level.Rows),.row 1 (els (r.Rows ++ [row])),.row 1 (els (r.Keys ++ [D])),.box [.ref 2,jn r.Players,jn r.Seed,jn r.Every,.ref 3,.ref 4]]⟩ : St)) (X8 [0,1,2,3,4,5] (by decide) J ((by exact rw_4 (by rw [Yn]; rfl))) (.c J (.c J (.c J (.c J (.c J (.nil))))))) ?_
 cases hok : replayOk (⟨r.Level,r.Players,r.Seed,r.Every,r.Rows ++ [row],(r.Keys ++ [D])⟩ : TReplay) with
 | true =>
  rw [hok] at cy
  rw [add_yes hk hs (by rw [hy]; exact hok),hy]
  refine zx (Qj J J (cy) J) J ?_;refine zn J (zz (Ql J (Qh (Q0 (zy (z4 J J J ?_))))));refine Qy J J J J J J J J J (z1 J (zz (Xa (F_r ?_))))
  exact Xn J J J J J (X6 [2,3,4] (by decide) J J J)
 | false =>
  rw [hok] at cy
  rw [add_no hk hs (by rw [hy]; exact hok)]
  refine zx (Qj J J (cy) J) J ?_;refine zn J (zz (Qm J (zy (z4 J J J ?_))));refine M1 (Zs J J (cc) J J J) J J ?_;refine Qy J J J J J J J J J (z1 J (zz (Xa (T_r (F_r ?_)))))
  exact Xn J J J J J (X6 [6,7,8] (by decide) J J J)
end
section
open Go.RowKit

theorem S_AddRow (r : TReplay) (row : List Int) (hg : Enc.gd r) (gr : Enc.gd row) (ir : RepIn r) (hrow : row.length ≤ 1048576) (hks : ∀ x ∈ r.Keys,x.size ≤ 1048576) : Con Tryz.prog 23 [] [ag r,al row] (ownO (Enc.e (addRow r row).1)) (.tu [.ag (ownV 0 (Enc.e (addRow r row).1)),.c (bv (addRow r row).2)]) := by
 have hlr := Yq r.Rows
 have hlk := Yq r.Keys
 have hrt := rows_tot ir.h4
 have cc := S_copyReplayE r hg ir.h1 ir.h2 ir.h3 hrt
 have hkl := ir.h2
 have hrl := ir.h3
 have ck := S_KeyAt r (((els r.Keys).length : Int) - 1) hg ⟨by omega,by omega⟩ ir hks
 have cse := S_SeekReplay r ((els r.Rows).length : Int) hg ⟨by omega,by omega⟩ ir hks
 have ik := keyAt_in (k := ((els r.Keys).length : Int) - 1) ir
 have is_ := seek_in (t := ((els r.Rows).length : Int)) ir
 rw [hlk] at ik
 rw [hlr] at is_
 rw [show keyAt r (((els r.Keys).length : Int) - 1) = keyAt r ((r.Keys.length : Int) - 1) by rw [hlk]] at ck
 rw [show seekM r ((els r.Rows).length : Int) = seekM r (r.Rows.length : Int) by rw [hlr]] at cse
 cases hs : seekM r (r.Rows.length : Int) with
 | none =>
  rw [hs] at cse
  rw [add_seek hs]
  generalize rwW (keyAt r ((r.Keys.length : Int) - 1)) = lw at ck
  generalize rwB (keyAt r ((r.Keys.length : Int) - 1)) = lb at ck
  refine Con.of Tryz.func23 J Tryz.ntmps23 J (fun E => ?_)
  refine zy (M1 (Qq J J J J) J J (M1 (Qx J J J) J J (z1 J (zz (zy (z4 J J J ?_))))));refine M1 (Zs J J (cc) J J J) J J ?_;refine M1 (Qx J J J) J J ?_;refine Qy J J J J J J J J J (zz (zy (z2 J J J (z3 J (zx (Z0 J J J) J (z1 J (zz (Qd ?_))))))));refine Qc (z4 J J J (z0 J ?_));refine M1 (Zs J J (cse) J J J) J J ?_;refine zx (Q8 J J J) J (ze J (ze J (M1 (Qx J J J) J J ?_)));refine Qy J J J J J J J J J (z1 J (zz (zy (z4 J J J (z2 J J J (z3 J (zx (Z0 J J J) J (z8 J (by omega) ?_))))))));refine M1 (Zs J J (ck) J J J) J J ?_;refine zx (Q8 J J J) J (ze J (ze J (M1 (Qx J J J) J J ?_)));refine Qy J J J J J J J J J (z1 J (zz (Qd (zy (z0 J (zn J (z0 J (z6 J (z6 J ?_)))))))));refine zpT J (zz (Qm J (zy (z4 J J J ?_))));refine Qy J J J J J J J J J (z1 J (zz (Xa (T_r (F_r ?_)))))
  exact Xn J J J J J (X6 [2,3,4] (by decide) J J J)
 | some w =>
 rw [hs] at cse is_
 have iw : WorIn w := is_
 refine Con.of Tryz.func23 J Tryz.ntmps23 J (fun E => ?_)
 refine zy (M1 (Qq J J J J) J J (M1 (Qx J J J) J J (z1 J (zz (zy (z4 J J J ?_))))));refine M1 (Zs J J (cc) J J J) J J ?_;refine M1 (Qx J J J) J J ?_;refine Qy J J J J J J J J J (zz (zy (z2 J J J (z3 J (zx (Z0 J J J) J (z1 J (zz (Qd ?_))))))));refine Qc (z4 J J J (z0 J ?_));refine M1 (Zs J J (cse) J J J) J J ?_;refine zx (Q8 J J J) J (ze J (ze J (M1 (Qx J J J) J J ?_)));refine Qy J J J J J J J J J (z1 J (zz (zy (z4 J J J (z2 J J J (z3 J (zx (Z0 J J J) J (z8 J (by omega) ?_))))))));refine AL.weak (st' := (⟨_,[(1,L row),(2,.o (.c (.ptr 0 0))),(4,.o (.c (.ptr 1 0))),(6,.o (.c (.ptr 5 0))),(7,I ((els r.Rows).length : Int)),(8,.o (.c (.ptr 9 0))),(9,B true),(24,.o (.ag ((Enc.e r).map (V1.rd [])))),(28,I (((els r.Keys).length : Int) - 1))],[.box ((Enc.e r).map (V1.rd [])),.box [nilV,jn 0,jn 0,jn 0,nilV,nilV],.row 1 (els r.Level.Rows),.row 1 (els r.Rows),.row 1 (els r.Keys),.box [.ref 2,jn r.Players,jn r.Seed,jn r.Every,.ref 3,.ref 4],.row 1 (els w.Level.Rows),.row 1 (els w.Scores),.row 9 (els w.Bodies),.box [.ref 6,jn w.Tick,jn w.Seed,.ref 7,.ref 8]]⟩ : St)) (W_gj [0,1,2,3,4,5,6,7,8,9] J) ?_
 clear cse
 cases hk : keyAt r ((r.Keys.length : Int) - 1) with
 | none =>
  rw [hk] at ck
  rw [add_key hk]
  refine M1 (Zs J J (ck) J J J) J J ?_;refine zx (Q8 J J J) J (ze J (ze J (M1 (Qx J J J) J J ?_)));refine Qy J J J J J J J J J (z1 J (zz (Qd (zy (z0 J (zn J (z0 J (z5 J (z0 J ?_)))))))));refine z5 J (zn J (zpF J (zz (Qm J (zy (z4 J J J ?_))))));refine Qy J J J J J J J J J (z1 J (zz (Xa (T_r (F_r ?_)))))
  exact Xn J J J J J (X6 [2,3,4] (by decide) J J J)
 | some last =>
 rw [hk] at ck ik
 have ho : replayOk r = true := by
  cases h : replayOk r with
  | true => rfl
  | false => rw [keyAt_bad (fun q => by rw [q.1] at h; cases h)] at hk; cases hk
 have wl := X5 last ik.gd
 refine M1 (Zs J J (ck) J J J) J J ?_;refine zx (Q8 J J J) J (ze J (ze J (M1 (Qx J J J) J J ?_)));refine Qy J J J J J J J J J (z1 J (zz (Qd (zy (z0 J (zn J (z0 J (z5 J (z0 J ?_)))))))));refine z5 J (zn J (zpF J (zz (Ql J (Qh (Q0 (Qd ?_)))))))
 refine AWP.pre (st' := (⟨_,[(1,L row),(2,.o (.c (.ptr 0 0))),(4,.o (.c (.ptr 1 0))),(6,.o (.c (.ptr 5 0))),(7,I ((els r.Rows).length : Int)),(8,.o (.c (.ptr 9 0))),(10,.o (.c (.ptr 13 0)))],[.box ((Enc.e r).map (V1.rd [])),.box [nilV,jn 0,jn 0,jn 0,nilV,nilV],.row 1 (els r.Level.Rows),.row 1 (els r.Rows),.row 1 (els r.Keys),.box [.ref 2,jn r.Players,jn r.Seed,jn r.Every,.ref 3,.ref 4],.row 1 (els w.Level.Rows),.row 1 (els w.Scores),.row 9 (els w.Bodies),.box [.ref 6,jn w.Tick,jn w.Seed,.ref 7,.ref 8],.row 1 (els last.Level.Rows),.row 1 (els last.Scores),.row 9 (els last.Bodies),.box [.ref 10,jn last.Tick,jn last.Seed,.ref 11,.ref 12]]⟩ : St)) ?_ (W_gj [0,1,2,3,4,5,6,7,8,9,10,11,12,13] J)
 clear ck
 have hlrow := Yq row
 by_cases hnil : els row = []
 ·have hrn : row = [] := by cases row with
   | nil => rfl
   | cons a b => simp [els] at hnil
  refine Xi u8_16 u8_47 u8_48 J (DR.s (Qf J J J J (by decide)) J J (DR.s (Qg J J J J J) J J (DR.s (Zo J J J) J J (DR.s (Qa J J J) J J ?_))));refine DR.s (q_appz1 J J J J hnil J J) J J ?_;refine DR.s (Zm J J J J J J) J J (DR.stop (by kernel_rfl) (by kernel_rfl) ?_);refine AL.weak (Wk.sbrow (q := 14) (es := []) J J (Nat.le_of_ble_eq_true J)) ?_;refine Xy J J J J J J J J J J J J J J (by omega) (by omega) ?_;refine z2 J J J ?_;refine Q5 J J J J J J J J (zz (Qd (zy (z0 J (z7 J (by omega) (z2 J J J (z3 J ?_)))))))
  refine AL.weak (st' := (⟨_,[(1,L row),(2,.o (.c (.ptr 0 0))),(4,.o (.c (.ptr 1 0))),(6,.o (.c (.ptr 5 0))),(7,I ((els r.Rows).length : Int)),(8,.o (.c (.ptr 9 0))),(10,.o (.c (.ptr 13 0))),(48,I (((els r.Rows).length : Int) + 1)),(50,I r.Every)],[.box ((Enc.e r).map (V1.rd [])),.box [nilV,jn 0,jn 0,jn 0,nilV,nilV],.row 1 (els r.Level.Rows),.row 1 (els (r.Rows ++ [row])),.row 1 (els r.Keys),.box [.ref 2,jn r.Players,jn r.Seed,jn r.Every,.ref 3,.ref 4],.row 1 (els w.Level.Rows),.row 1 (els w.Scores),.row 9 (els w.Bodies),.box [.ref 6,jn w.Tick,jn w.Seed,.ref 7,.ref 8],.row 1 (els last.Level.Rows),.row 1 (els last.Scores),.row 9 (els last.Bodies),.box [.ref 10,jn last.Tick,jn last.Seed,.ref 11,.ref 12]]⟩ : St)) (X8 [0,1,2,3,4,5,6,7,8,9,10,11,12,13] (by decide) J ((by exact rw_3 (by rw [hrn,Yn]; rfl))) (.c J (.c J (.c J (.c J (.c J (.c J (.c J (.c J (.c J (.nil))))))))))) ?_
  obtain ⟨he1,he2⟩ := (rok ho).e
  have gdy := add_gd (last := last) (w := w) hg gr hkl hrl
  have hln : ((els r.Rows).length : Int) + 1 = (r.Rows.length : Int) + 1 := by rw [hlr]
  by_cases hq : ((r.Rows.length : Int) + 1) % r.Every = 0
  case neg =>
   have f3 : decide ((((els r.Rows).length : Int) + 1) % r.Every = 0) = false := decide_eq_false (by rw [hln]; exact hq)
   have hy : addOne r row last w = ⟨r.Level,r.Players,r.Seed,r.Every,r.Rows ++ [row],r.Keys⟩ := by rw [addOne,if_neg hq]
   rw [hy] at gdy
   have cy := X4 _ gdy
   refine zx (Z9 J J J J (by omega)) J (z9e J (by assumption) (zz (Ql J (Qh (Q0 (Qd (zy (z4 J J J ?_))))))));refine AL.weak (st' := (⟨_,[(1,L row),(2,.o (.c (.ptr 0 0))),(4,.o (.c (.ptr 1 0))),(6,.o (.c (.ptr 5 0))),(7,I ((els r.Rows).length : Int)),(65,.o (.ag [.ref 2,jn r.Players,jn r.Seed,jn r.Every,.ref 3,.ref 4]))],[.box ((Enc.e r).map (V1.rd [])),.box [nilV,jn 0,jn 0,jn 0,nilV,nilV],.row 1 (els r.Level.Rows),.row 1 (els (r.Rows ++ [row])),.row 1 (els r.Keys),.box [.ref 2,jn r.Players,jn r.Seed,jn r.Every,.ref 3,.ref 4]]⟩ : St)) (W_gj [0,1,2,3,4,5] J) ?_
   cases hok : replayOk (⟨r.Level,r.Players,r.Seed,r.Every,r.Rows ++ [row],r.Keys⟩ : TReplay) with
   | true =>
    rw [hok] at cy
    rw [add_yes hk hs (by rw [hy]; exact hok),hy]
    refine zx (Qj J J (cy) J) J ?_;refine zn J (zz (Ql J (Qh (Q0 (zy (z4 J J J ?_))))));refine Qy J J J J J J J J J (z1 J (zz (Xa (F_r ?_))))
    exact Xn J J J J J (X6 [2,3,4] (by decide) J J J)
   | false =>
    rw [hok] at cy
    rw [add_no hk hs (by rw [hy]; exact hok)]
    refine zx (Qj J J (cy) J) J ?_;refine zn J (zz (Qm J (zy (z4 J J J ?_))));refine M1 (Zs J J (cc) J J J) J J ?_;refine Qy J J J J J J J J J (z1 J (zz (Xa (T_r (F_r ?_)))))
    exact Xn J J J J J (X6 [6,7,8] (by decide) J J J)
  have f3 : decide ((((els r.Rows).length : Int) + 1) % r.Every = 0) = true := decide_eq_true (by rw [hln]; exact hq)
  have cst := S_StepWorld w row iw.gd gr iw.h1 iw.h2 iw.h3
  have hlv := Kq w row
  have hy : addOne r row last w = ⟨r.Level,r.Players,r.Seed,r.Every,r.Rows ++ [row],r.Keys ++ [deltaT (worldBytes last) (worldBytes (stepW w row))]⟩ := by rw [addOne,if_pos hq]
  rw [hy] at gdy
  have cy := X4 _ gdy
  have wz := X5 (stepW w row) (stepW_fits iw.gd).1
  have hb1 := Yk last
  have hb2 := Yk (stepW w row)
  have cd := S_DeltaText (worldBytes last) (worldBytes (stepW w row)) (by omega) (by omega)
  rw [← hlv] at cst
  generalize stepW w row = z at cst hy gdy cy wz cd hb2
  obtain ⟨D,hD⟩ : ∃ D,D = deltaT (worldBytes last) (worldBytes z) := ⟨_,rfl⟩
  rw [← hD] at hy gdy cy cd
  refine zx (Z9 J J J J (by omega)) J (z9e J (by assumption) (zz (Qm J ?_)))
  refine AWP.pre (st' := (⟨_,[(1,L row),(2,.o (.c (.ptr 0 0))),(4,.o (.c (.ptr 1 0))),(6,.o (.c (.ptr 5 0))),(7,I ((els r.Rows).length : Int)),(8,.o (.c (.ptr 9 0))),(10,.o (.c (.ptr 13 0)))],[.box ((Enc.e r).map (V1.rd [])),.box [nilV,jn 0,jn 0,jn 0,nilV,nilV],.row 1 (els r.Level.Rows),.row 1 (els (r.Rows ++ [row])),.row 1 (els r.Keys),.box [.ref 2,jn r.Players,jn r.Seed,jn r.Every,.ref 3,.ref 4],.row 1 (els w.Level.Rows),.row 1 (els w.Scores),.row 9 (els w.Bodies),.box [.ref 6,jn w.Tick,jn w.Seed,.ref 7,.ref 8],.row 1 (els last.Level.Rows),.row 1 (els last.Scores),.row 9 (els last.Bodies),.box [.ref 10,jn last.Tick,jn last.Seed,.ref 11,.ref 12]]⟩ : St)) ?_ (W_gj [0,1,2,3,4,5,6,7,8,9,10,11,12,13] J)
  refine Xi u8_49 u8_50 u8_51 J (DR.s (Qf J J J J (by decide)) J J (DR.s (Qg J J J J J) J J (DR.s (Qu J J J J J J) J J ?_)));refine DR.s (Qj J J (wl) J) J J ?_;refine DR.s (Qu J J J J J J) J J (DR.s (Qa J J J) J J ?_);refine DR.s (Zs J J (cst) J J J) J J ?_;refine DR.s (Qj J J (wz) J) J J ?_;refine DR.s (Qj J J (cd) J) J J ?_;refine DR.s (Zm J J J J J J) J J (DR.stop (by kernel_rfl) (by kernel_rfl) ?_);refine AL.weak (st' := (⟨_,[(1,L row),(2,.o (.c (.ptr 0 0))),(4,.o (.c (.ptr 1 0))),(6,.o (.c (.ptr 5 0))),(7,I ((els r.Rows).length : Int)),(54,.o (.c (.ref 4))),(62,.o (.c (.sb 6 1 1)))],[.box ((Enc.e r).map (V1.rd [])),.box [nilV,jn 0,jn 0,jn 0,nilV,nilV],.row 1 (els r.Level.Rows),.row 1 (els (r.Rows ++ [row])),.row 1 (els r.Keys),.box [.ref 2,jn r.Players,jn r.Seed,jn r.Every,.ref 3,.ref 4],.box [.rd [] (.v (.string D))]]⟩ : St)) (W_gj [0,1,2,3,4,5,17] J) ?_;refine Xy J J J J J J J J J J J J J J (by omega) (by omega) ?_;refine z2 J J J ?_;refine Q5 J J J J J J J J (zz (Qd (zy (z4 J J J ?_))))
  refine AL.weak (st' := (⟨_,[(1,L row),(2,.o (.c (.ptr 0 0))),(4,.o (.c (.ptr 1 0))),(6,.o (.c (.ptr 5 0))),(7,I ((els r.Rows).length : Int)),(65,.o (.ag [.ref 2,jn r.Players,jn r.Seed,jn r.Every,.ref 3,.ref 4]))],[.box ((Enc.e r).map (V1.rd [])),.box [nilV,jn 0,jn 0,jn 0,nilV,nilV],.row 1 (els r.Level.Rows),.row 1 (els (r.Rows ++ [row])),.row 1 (els (r.Keys ++ [D])),.box [.ref 2,jn r.Players,jn r.Seed,jn r.Every,.ref 3,.ref 4]]⟩ : St)) (X8 [0,1,2,3,4,5] (by decide) J ((by exact rw_4 (by rw [Yn]; rfl))) (.c J (.c J (.c J (.c J (.c J (.c J (.nil)))))))) ?_
  cases hok : replayOk (⟨r.Level,r.Players,r.Seed,r.Every,r.Rows ++ [row],(r.Keys ++ [D])⟩ : TReplay) with
  | true =>
   rw [hok] at cy
   rw [add_yes hk hs (by rw [hy]; exact hok),hy]
   refine zx (Qj J J (cy) J) J ?_;refine zn J (zz (Ql J (Qh (Q0 (zy (z4 J J J ?_))))));refine Qy J J J J J J J J J (z1 J (zz (Xa (F_r ?_))))
   exact Xn J J J J J (X6 [2,3,4] (by decide) J J J)
  | false =>
   rw [hok] at cy
   rw [add_no hk hs (by rw [hy]; exact hok)]
   refine zx (Qj J J (cy) J) J ?_;refine zn J (zz (Qm J (zy (z4 J J J ?_))));refine M1 (Zs J J (cc) J J J) J J ?_;refine Qy J J J J J J J J J (z1 J (zz (Xa (T_r (F_r ?_)))))
   exact Xn J J J J J (X6 [6,7,8] (by decide) J J J)
 ·have hpos : 0 < (els row).length := by
   rcases Nat.eq_zero_or_pos (els row).length with h | h
   ·exact absurd (List.eq_nil_of_length_eq_zero h) hnil
   ·exact h
  refine Xi u8_16 u8_47 u8_48 J (DR.s (Qf J J J J (by decide)) J J (DR.s (Qg J J J J J) J J (DR.s (Zo J J J) J J (DR.s (Qa J J J) J J ?_))));refine DR.s (q_appz J J J J J J (Yr _) (els_k _) hpos (by omega) (by omega)) J J ?_;refine DR.s (Zm J J J J J J) J J (DR.stop (by kernel_rfl) (by kernel_rfl) ?_);refine Xy J J J J J J J J J J J J J J (by omega) (by omega) ?_;refine z2 J J J ?_;refine Q5 J J J J J J J J (zz (Qd (zy (z0 J (z7 J (by omega) (z2 J J J (z3 J ?_)))))))
  refine AL.weak (st' := (⟨_,[(1,L row),(2,.o (.c (.ptr 0 0))),(4,.o (.c (.ptr 1 0))),(6,.o (.c (.ptr 5 0))),(7,I ((els r.Rows).length : Int)),(8,.o (.c (.ptr 9 0))),(10,.o (.c (.ptr 13 0))),(48,I (((els r.Rows).length : Int) + 1)),(50,I r.Every)],[.box ((Enc.e r).map (V1.rd [])),.box [nilV,jn 0,jn 0,jn 0,nilV,nilV],.row 1 (els r.Level.Rows),.row 1 (els (r.Rows ++ [row])),.row 1 (els r.Keys),.box [.ref 2,jn r.Players,jn r.Seed,jn r.Every,.ref 3,.ref 4],.row 1 (els w.Level.Rows),.row 1 (els w.Scores),.row 9 (els w.Bodies),.box [.ref 6,jn w.Tick,jn w.Seed,.ref 7,.ref 8],.row 1 (els last.Level.Rows),.row 1 (els last.Scores),.row 9 (els last.Bodies),.box [.ref 10,jn last.Tick,jn last.Seed,.ref 11,.ref 12]]⟩ : St)) (X8 [0,1,2,3,4,5,6,7,8,9,10,11,12,13] (by decide) J ((by exact rw_3 (by rw [Yn]; rfl))) (.c J (.c J (.c J (.c J (.c J (.c J (.c J (.c J (.c J (.nil))))))))))) ?_
  obtain ⟨he1,he2⟩ := (rok ho).e
  have gdy := add_gd (last := last) (w := w) hg gr hkl hrl
  have hln : ((els r.Rows).length : Int) + 1 = (r.Rows.length : Int) + 1 := by rw [hlr]
  by_cases hq : ((r.Rows.length : Int) + 1) % r.Every = 0
  case neg =>
   have f3 : decide ((((els r.Rows).length : Int) + 1) % r.Every = 0) = false := decide_eq_false (by rw [hln]; exact hq)
   have hy : addOne r row last w = ⟨r.Level,r.Players,r.Seed,r.Every,r.Rows ++ [row],r.Keys⟩ := by rw [addOne,if_neg hq]
   rw [hy] at gdy
   have cy := X4 _ gdy
   refine zx (Z9 J J J J (by omega)) J (z9e J (by assumption) (zz (Ql J (Qh (Q0 (Qd (zy (z4 J J J ?_))))))));refine AL.weak (st' := (⟨_,[(1,L row),(2,.o (.c (.ptr 0 0))),(4,.o (.c (.ptr 1 0))),(6,.o (.c (.ptr 5 0))),(7,I ((els r.Rows).length : Int)),(65,.o (.ag [.ref 2,jn r.Players,jn r.Seed,jn r.Every,.ref 3,.ref 4]))],[.box ((Enc.e r).map (V1.rd [])),.box [nilV,jn 0,jn 0,jn 0,nilV,nilV],.row 1 (els r.Level.Rows),.row 1 (els (r.Rows ++ [row])),.row 1 (els r.Keys),.box [.ref 2,jn r.Players,jn r.Seed,jn r.Every,.ref 3,.ref 4]]⟩ : St)) (W_gj [0,1,2,3,4,5] J) ?_
   cases hok : replayOk (⟨r.Level,r.Players,r.Seed,r.Every,r.Rows ++ [row],r.Keys⟩ : TReplay) with
   | true =>
    rw [hok] at cy
    rw [add_yes hk hs (by rw [hy]; exact hok),hy]
    refine zx (Qj J J (cy) J) J ?_;refine zn J (zz (Ql J (Qh (Q0 (zy (z4 J J J ?_))))));refine Qy J J J J J J J J J (z1 J (zz (Xa (F_r ?_))))
    exact Xn J J J J J (X6 [2,3,4] (by decide) J J J)
   | false =>
    rw [hok] at cy
    rw [add_no hk hs (by rw [hy]; exact hok)]
    refine zx (Qj J J (cy) J) J ?_;refine zn J (zz (Qm J (zy (z4 J J J ?_))));refine M1 (Zs J J (cc) J J J) J J ?_;refine Qy J J J J J J J J J (z1 J (zz (Xa (T_r (F_r ?_)))))
    exact Xn J J J J J (X6 [6,7,8] (by decide) J J J)
  have f3 : decide ((((els r.Rows).length : Int) + 1) % r.Every = 0) = true := decide_eq_true (by rw [hln]; exact hq)
  have cst := S_StepWorld w row iw.gd gr iw.h1 iw.h2 iw.h3
  have hlv := Kq w row
  have hy : addOne r row last w = ⟨r.Level,r.Players,r.Seed,r.Every,r.Rows ++ [row],r.Keys ++ [deltaT (worldBytes last) (worldBytes (stepW w row))]⟩ := by rw [addOne,if_pos hq]
  rw [hy] at gdy
  have cy := X4 _ gdy
  have wz := X5 (stepW w row) (stepW_fits iw.gd).1
  have hb1 := Yk last
  have hb2 := Yk (stepW w row)
  have cd := S_DeltaText (worldBytes last) (worldBytes (stepW w row)) (by omega) (by omega)
  rw [← hlv] at cst
  generalize stepW w row = z at cst hy gdy cy wz cd hb2
  obtain ⟨D,hD⟩ : ∃ D,D = deltaT (worldBytes last) (worldBytes z) := ⟨_,rfl⟩
  rw [← hD] at hy gdy cy cd
  refine zx (Z9 J J J J (by omega)) J (z9e J (by assumption) (zz (Qm J ?_)))
  refine AWP.pre (st' := (⟨_,[(1,L row),(2,.o (.c (.ptr 0 0))),(4,.o (.c (.ptr 1 0))),(6,.o (.c (.ptr 5 0))),(7,I ((els r.Rows).length : Int)),(8,.o (.c (.ptr 9 0))),(10,.o (.c (.ptr 13 0)))],[.box ((Enc.e r).map (V1.rd [])),.box [nilV,jn 0,jn 0,jn 0,nilV,nilV],.row 1 (els r.Level.Rows),.row 1 (els (r.Rows ++ [row])),.row 1 (els r.Keys),.box [.ref 2,jn r.Players,jn r.Seed,jn r.Every,.ref 3,.ref 4],.row 1 (els w.Level.Rows),.row 1 (els w.Scores),.row 9 (els w.Bodies),.box [.ref 6,jn w.Tick,jn w.Seed,.ref 7,.ref 8],.row 1 (els last.Level.Rows),.row 1 (els last.Scores),.row 9 (els last.Bodies),.box [.ref 10,jn last.Tick,jn last.Seed,.ref 11,.ref 12]]⟩ : St)) ?_ (W_gj [0,1,2,3,4,5,6,7,8,9,10,11,12,13] J)
  refine Xi u8_49 u8_50 u8_51 J (DR.s (Qf J J J J (by decide)) J J (DR.s (Qg J J J J J) J J (DR.s (Qu J J J J J J) J J ?_)));refine DR.s (Qj J J (wl) J) J J ?_;refine DR.s (Qu J J J J J J) J J (DR.s (Qa J J J) J J ?_);refine DR.s (Zs J J (cst) J J J) J J ?_;refine DR.s (Qj J J (wz) J) J J ?_;refine DR.s (Qj J J (cd) J) J J ?_;refine DR.s (Zm J J J J J J) J J (DR.stop (by kernel_rfl) (by kernel_rfl) ?_);refine AL.weak (st' := (⟨_,[(1,L row),(2,.o (.c (.ptr 0 0))),(4,.o (.c (.ptr 1 0))),(6,.o (.c (.ptr 5 0))),(7,I ((els r.Rows).length : Int)),(54,.o (.c (.ref 4))),(62,.o (.c (.sb 6 1 1)))],[.box ((Enc.e r).map (V1.rd [])),.box [nilV,jn 0,jn 0,jn 0,nilV,nilV],.row 1 (els r.Level.Rows),.row 1 (els (r.Rows ++ [row])),.row 1 (els r.Keys),.box [.ref 2,jn r.Players,jn r.Seed,jn r.Every,.ref 3,.ref 4],.box [.rd [] (.v (.string D))]]⟩ : St)) (W_gj [0,1,2,3,4,5,17] J) ?_;refine Xy J J J J J J J J J J J J J J (by omega) (by omega) ?_;refine z2 J J J ?_;refine Q5 J J J J J J J J (zz (Qd (zy (z4 J J J ?_))))
  refine AL.weak (st' := (⟨_,[(1,L row),(2,.o (.c (.ptr 0 0))),(4,.o (.c (.ptr 1 0))),(6,.o (.c (.ptr 5 0))),(7,I ((els r.Rows).length : Int)),(65,.o (.ag [.ref 2,jn r.Players,jn r.Seed,jn r.Every,.ref 3,.ref 4]))],[.box ((Enc.e r).map (V1.rd [])),.box [nilV,jn 0,jn 0,jn 0,nilV,nilV],.row 1 (els r.Level.Rows),.row 1 (els (r.Rows ++ [row])),.row 1 (els (r.Keys ++ [D])),.box [.ref 2,jn r.Players,jn r.Seed,jn r.Every,.ref 3,.ref 4]]⟩ : St)) (X8 [0,1,2,3,4,5] (by decide) J ((by exact rw_4 (by rw [Yn]; rfl))) (.c J (.c J (.c J (.c J (.c J (.c J (.nil)))))))) ?_
  cases hok : replayOk (⟨r.Level,r.Players,r.Seed,r.Every,r.Rows ++ [row],(r.Keys ++ [D])⟩ : TReplay) with
  | true =>
   rw [hok] at cy
   rw [add_yes hk hs (by rw [hy]; exact hok),hy]
   refine zx (Qj J J (cy) J) J ?_;refine zn J (zz (Ql J (Qh (Q0 (zy (z4 J J J ?_))))));refine Qy J J J J J J J J J (z1 J (zz (Xa (F_r ?_))))
   exact Xn J J J J J (X6 [2,3,4] (by decide) J J J)
  | false =>
   rw [hok] at cy
   rw [add_no hk hs (by rw [hy]; exact hok)]
   refine zx (Qj J J (cy) J) J ?_;refine zn J (zz (Qm J (zy (z4 J J J ?_))));refine M1 (Zs J J (cc) J J J) J J ?_;refine Qy J J J J J J J J J (z1 J (zz (Xa (T_r (F_r ?_)))))
   exact Xn J J J J J (X6 [6,7,8] (by decide) J J J)
end
section
open Go.RowKit

theorem tot_le4 : ∀ (xs : List (List Int)),(∀ x ∈ xs,x.length ≤ 4) → tot xs ≤ 4 * xs.length
 | [],_ => by simp [tot]
 | y :: ys,h => by
  have h1 := tot_le4 ys fun x hx => h x (by simp [hx])
  have h2 : tot (y :: ys) = y.length + tot ys := by simp [tot]
  have h3 := h y (by simp)
  simp only [List.length_cons]
  omega
theorem ok_in {y : TReplay} (gy : Enc.gd y) (h1 : y.Level.Rows.length ≤ 1048576) (h : replayOk y = true) : RepIn y := by
 have hr := rok h
 unfold replayOk at h
 simp only [Bool.and_eq_true,decide_eq_true_eq,Y3] at h
 obtain ⟨⟨⟨⟨⟨⟨_,h2⟩,_⟩,_⟩,h5⟩,h6⟩,_⟩ := h
 have h7 := tot_le4 y.Rows fun x hx => by
  have h8 := List.all_eq_true.1 h6 x hx
  rw [rowOk,Bool.and_eq_true,decide_eq_true_eq] at h8
  omega
 exact ⟨gy,h1,Nat.le_trans hr.k (by decide),Nat.le_trans h5 (by decide),by omega⟩
def KeysIn (y : TReplay) : Prop := ∀ s ∈ y.Keys,s.size ≤ 1048576
theorem add_both {x : TReplay} {row : List Int} (ix : RepIn x) (gr : Enc.gd row) (hk : KeysIn x) : RepIn (addRow x row).1 ∧ KeysIn (addRow x row).1 := by
 have hbad : ∀ p : TReplay × Bool,p = (x,false) → RepIn p.1 ∧ KeysIn p.1 := fun p hp => by rw [hp]; exact ⟨ix,hk⟩
 cases h1 : keyAt x ((x.Keys.length : Int) - 1) with
 | none => exact hbad _ (add_key h1)
 | some last =>
  cases hs : seekM x x.Rows.length with
  | none => exact hbad _ (add_seek hs)
  | some w =>
   cases ho : replayOk (addOne x row last w) with
   | false => exact hbad _ (add_no h1 hs ho)
   | true =>
    rw [add_yes h1 hs ho]
    refine ⟨ok_in (add_gd ix.gd gr ix.h2 ix.h3) ix.h1 ho,fun s hm => ?_⟩
    simp only [addOne] at hm
    split at hm
    ·rcases List.mem_append.1 hm with h | h
     ·exact hk s h
     ·rw [List.mem_singleton] at h
      subst h
      have h5 := deltaT_size (worldBytes last) (worldBytes (stepW w row))
      have h6 := Yk (stepW w row)
      omega
    ·exact hk s hm
noncomputable def addsG (r : TReplay) (rows : List (List Int)) : Nat → Option TReplay
 | 0 => some r
 | k + 1 => match addsG r rows k with
  | none => none
  | some x => match rows[k]? with
   | none => some x
   | some row => if (addRow x row).2 = true then some (addRow x row).1 else none
theorem adds_go {r x : TReplay} {rows : List (List Int)} {row : List Int} {k : Nat} (h : addsG r rows k = some x) (hr : rows[k]? = some row) (hb : (addRow x row).2 = true) : addsG r rows (k + 1) = some (addRow x row).1 := by
 rw [addsG,h]
 simp only [hr]
 exact if_pos hb
theorem adds_no {r x : TReplay} {rows : List (List Int)} {row : List Int} {k : Nat} (h : addsG r rows k = some x) (hr : rows[k]? = some row) (hb : (addRow x row).2 = false) : ∀ {n : Nat},k < n → addsG r rows n = none
 | n + 1,hlt => by
  rcases Nat.lt_or_ge k n with h1 | h1
  ·rw [addsG,adds_no h hr hb h1]
  ·have : k = n := by omega
   subst this
   rw [addsG,h]
   simp only [hr]
   exact if_neg (by rw [hb]; exact Bool.false_ne_true)
noncomputable def addsM (r : TReplay) (rows : List (List Int)) : TReplay × Bool := match addsG r rows rows.length with
 | none => (r,false)
 | some x => (x,true)
theorem adds_F {r : TReplay} {rows : List (List Int)} (h : addsG r rows rows.length = none) : addsM r rows = (r,false) := by rw [addsM,h]
theorem adds_T {r x : TReplay} {rows : List (List Int)} (h : addsG r rows rows.length = some x) : addsM r rows = (x,true) := by rw [addsM,h]
theorem I_AddRows (r : TReplay) (rows : List (List Int)) (gr : Enc.gd rows) (ir : RepIn r) (hw : ∀ row ∈ rows,row.length ≤ 1048576) (hks : KeysIn r) : Con Tryz.prog 11 [] [ag r,al rows] (ownO (Enc.e (addsM r rows).1)) (.tu [.ag (ownV 0 (Enc.e (addsM r rows).1)),.c (bv (addsM r rows).2)]) := by
 have cc := I_copyReplay r ir.gd ir.h1 ir.h2 ir.h3 (rows_tot ir.h4)
 have hlr := Yq rows
 have hlg := gr.1
 refine Con.of Tryz.func11 J Tryz.ntmps11 J (fun E => ?_)
 refine zy (M1 (Qq J J J J) J J (M1 (Qx J J J) J J (z1 J (zz (zy (z4 J J J ?_))))));refine M1 (Zs J J (cc) J J J) J J ?_;refine M1 (Qx J J J) J J ?_;refine Qy J J J J J J J J J (zz (Qd (zy (z0 J (zx (Z0 J J J) J (z0 J (zz (Qk ?_))))))))
 refine AWP.pre (st' := (⟨_,[(1,L rows),(2,.o (.c (.ptr 0 0))),(4,.o (.c (.ptr 1 0))),(6,.o (.c (.ptr 2 0))),(13,L rows),(14,I (els rows).length),(15,I 0)],[.box ((Enc.e r).map (V1.rd [])),.box [nilV,jn 0,jn 0,jn 0,nilV,nilV],.box [.ref 3,jn r.Players,jn r.Seed,jn r.Every,.ref 4,.ref 5],.row 1 (els r.Level.Rows),.row 1 (els r.Rows),.row 1 (els r.Keys)]⟩ : St)) ?_ (W_gj [0,1,5,2,3,4] J)
 refine A_lq (fun m st => ∃ (k : Nat) (x : TReplay),k + m = rows.length ∧ (addsG r rows k = some x ∧ RepIn x ∧ KeysIn x) ∧ st = (⟨_,[(1,L rows),(2,.o (.c (.ptr 0 0))),(4,.o (.c (.ptr 1 0))),(6,.o (.c (.ptr 2 0))),(13,L rows),(14,I (els rows).length),(15,I k)],[.box ((Enc.e r).map (V1.rd [])),.box [nilV,jn 0,jn 0,jn 0,nilV,nilV],.box [.ref 3,jn x.Players,jn x.Seed,jn x.Every,.ref 4,.ref 5],.row 1 (els x.Level.Rows),.row 1 (els x.Rows),.row 1 (els x.Keys)]⟩ : St)) (rows.length) ⟨_,⟨0,r,by omega,⟨J,ir,hks⟩,J⟩,W_gj [0,1,2,3,4,5] J⟩ ?_
 rintro m_A _ ⟨k,x,hk_A,hp_A,rfl⟩
 obtain ⟨hx,ix,kx⟩ := hp_A
 by_cases hlt : k < rows.length
 ·have hb0 : decide ((k : Int) < (els rows).length) = true := decide_eq_true (by omega)
  obtain ⟨row,hr⟩ := Kp hlt
  have hm := List.mem_of_getElem? hr
  have her := Ys hr
  have ca := I_AddRow x row ix.gd (gr.2 row hm) ix (hw row hm) kx
  have hin := add_both ix (gr.2 row hm) kx
  cases hb : (addRow x row).2 with
  | false =>
   rw [hb] at ca
   rw [adds_F (adds_no hx hr hb hlt)]
   generalize (addRow x row).1 = z at ca
   refine zy (z9a J (by assumption) (zz (Qd (Qm J (Qh (Q0 (Qd (Qk (Qd ?_)))))))));refine Qc (zx (Q2 J J J J (by omega) (by assumption) J) J (zx (Z4 J J J J) J (z1 J (zz (zy (z4 J J J (z0 J ?_)))))));refine M1 (Zs J J (ca) J J J) J J ?_;refine zx (Q8 J J J) J (ze J (ze J (M1 (Qx J J J) J J ?_)));refine Qy J J J J J J J J J (z1 J (zz (Qd (zy (z0 J (zn J (zz (Qm J ?_))))))));refine zy (z4 J J J ?_);refine M1 (Zs J J (cc) J J J) J J ?_;refine Qy J J J J J J J J J (z1 J (zz (Xa (T_r (B_r (T_r (T_r (B_r (T_r (F_r ?_))))))))))
   exact Xn J J J J J (X6 [10,11,12] (by decide) J J J)
  | true =>
   have hgo := adds_go hx hr hb
   rw [hb] at ca
   generalize (addRow x row).1 = z at ca hin hgo
   refine zy (z9a J (by assumption) (zz (Qd (Qm J (Qh (Q0 (Qd (Qk (Qd ?_)))))))));refine Qc (zx (Q2 J J J J (by omega) (by assumption) J) J (zx (Z4 J J J J) J (z1 J (zz (zy (z4 J J J (z0 J ?_)))))));refine M1 (Zs J J (ca) J J J) J J ?_;refine zx (Q8 J J J) J (ze J (ze J (M1 (Qx J J J) J J ?_)));refine Qy J J J J J J J J J (z1 J (zz (Qd (zy (z0 J (zn J (zz (Ql J ?_))))))));refine Qh (Q0 (Qc (z4 J J J ?_)));refine Qy J J J J J J J J J (Qe (Q1 (Q0 (Qc (z7 J (by omega) (z0 J (zz ?_)))))))
   exact ⟨rows.length - (k + 1),by omega,_,⟨k + 1,z,by omega,⟨hgo,hin.1,hin.2⟩,J⟩,W_gj [0,1,2,6,7,8] J⟩
 ·have hb0 : decide ((k : Int) < (els rows).length) = false := decide_eq_false (by omega)
  have hk : k = rows.length := by omega
  rw [hk] at hx
  rw [adds_T hx]
  refine zy (z9a J (by assumption) (zz (Qd (Ql J (Q9 (T_x (T_x (Xl (Q0 ?_)))))))));refine zy (z4 J J J ?_);refine Qy J J J J J J J J J (z1 J (zz (Xa (F_r ?_))))
  exact Xn J J J J J (X6 [3,4,5] (by decide) J J J)
theorem S_AddRows (r : TReplay) (rows : List (List Int)) (gr : Enc.gd rows) (ir : RepIn r) (hw : ∀ row ∈ rows,row.length ≤ 1048576) (hks : KeysIn r) : Con Tryz.prog 33 [] [ag r,al rows] (ownO (Enc.e (addsM r rows).1)) (.tu [.ag (ownV 0 (Enc.e (addsM r rows).1)),.c (bv (addsM r rows).2)]) := by
 have cc := S_copyReplayE r ir.gd ir.h1 ir.h2 ir.h3 (rows_tot ir.h4)
 have hlr := Yq rows
 have hlg := gr.1
 refine Con.of Tryz.func33 J Tryz.ntmps33 J (fun E => ?_)
 refine zy (M1 (Qq J J J J) J J (M1 (Qx J J J) J J (z1 J (zz (zy (z4 J J J ?_))))));refine M1 (Zs J J (cc) J J J) J J ?_;refine M1 (Qx J J J) J J ?_;refine Qy J J J J J J J J J (zz (Qd (zy (z1 J (zz (Qk ?_))))))
 refine AWP.pre (st' := (⟨_,[(1,L rows),(2,.o (.c (.ptr 0 0))),(4,.o (.c (.ptr 1 0))),(6,.o (.c (.ptr 2 0))),(7,I 0)],[.box ((Enc.e r).map (V1.rd [])),.box [nilV,jn 0,jn 0,jn 0,nilV,nilV],.box [.ref 3,jn r.Players,jn r.Seed,jn r.Every,.ref 4,.ref 5],.row 1 (els r.Level.Rows),.row 1 (els r.Rows),.row 1 (els r.Keys)]⟩ : St)) ?_ (W_gj [0,1,5,2,3,4] J)
 refine A_lq (fun m st => ∃ (k : Nat) (x : TReplay),k + m = rows.length ∧ (addsG r rows k = some x ∧ RepIn x ∧ KeysIn x) ∧ st = (⟨_,[(1,L rows),(2,.o (.c (.ptr 0 0))),(4,.o (.c (.ptr 1 0))),(6,.o (.c (.ptr 2 0))),(7,I k)],[.box ((Enc.e r).map (V1.rd [])),.box [nilV,jn 0,jn 0,jn 0,nilV,nilV],.box [.ref 3,jn x.Players,jn x.Seed,jn x.Every,.ref 4,.ref 5],.row 1 (els x.Level.Rows),.row 1 (els x.Rows),.row 1 (els x.Keys)]⟩ : St)) (rows.length) ⟨_,⟨0,r,by omega,⟨J,ir,hks⟩,J⟩,W_gj [0,1,2,3,4,5] J⟩ ?_
 rintro m_A _ ⟨k,x,hk_A,hp_A,rfl⟩
 obtain ⟨hx,ix,kx⟩ := hp_A
 by_cases hlt : k < rows.length
 ·have hb0 : decide ((k : Int) < (els rows).length) = true := decide_eq_true (by omega)
  obtain ⟨row,hr⟩ := Kp hlt
  have hm := List.mem_of_getElem? hr
  have her := Ys hr
  have ca := S_AddRow x row ix.gd (gr.2 row hm) ix (hw row hm) kx
  have hin := add_both ix (gr.2 row hm) kx
  cases hb : (addRow x row).2 with
  | false =>
   rw [hb] at ca
   rw [adds_F (adds_no hx hr hb hlt)]
   generalize (addRow x row).1 = z at ca
   refine Qd (zy (z0 J (z0 J (zx (Z0 J J J) J (z9a J (by assumption) (zz (Qm J (Qh (Q0 ?_)))))))));refine Qd (Qk (Qd (Xi u8_52 u8_53 u8_54 J (DR.s (Qu J J J J J J) J J (DR.s (Qa J J J) J J (DR.s (Qa J J J) J J (DR.s (Q2 J J J J (by omega) (by assumption) J) J J (DR.s (Z4 J J J J) J J ?_))))))));refine DR.s (Zs J J (ca) J J J) J J ?_;refine DR.s (Q8 J J J) J J (DR.s (Zv J J J J) J J (DR.s (Zv J J J J) J J (DR.s (Qx J J J) J J (DR.stop (by kernel_rfl) (by kernel_rfl) ?_))));refine Qy J J J J J J J J J (z1 J (zz (Qd (zy (z0 J (zn J (zz (Qm J ?_))))))));refine zy (z4 J J J ?_);refine M1 (Zs J J (cc) J J J) J J ?_;refine Qy J J J J J J J J J (z1 J (zz (Xa (T_r (B_r (T_r (T_r (B_r (T_r (F_r ?_))))))))))
   exact Xn J J J J J (X6 [10,11,12] (by decide) J J J)
  | true =>
   have hgo := adds_go hx hr hb
   rw [hb] at ca
   generalize (addRow x row).1 = z at ca hin hgo
   refine Qd (zy (z0 J (z0 J (zx (Z0 J J J) J (z9a J (by assumption) (zz (Qm J (Qh (Q0 ?_)))))))));refine Qd (Qk (Qd (Xi u8_52 u8_53 u8_54 J (DR.s (Qu J J J J J J) J J (DR.s (Qa J J J) J J (DR.s (Qa J J J) J J (DR.s (Q2 J J J J (by omega) (by assumption) J) J J (DR.s (Z4 J J J J) J J ?_))))))));refine DR.s (Zs J J (ca) J J J) J J ?_;refine DR.s (Q8 J J J) J J (DR.s (Zv J J J J) J J (DR.s (Zv J J J J) J J (DR.s (Qx J J J) J J (DR.stop (by kernel_rfl) (by kernel_rfl) ?_))));refine Qy J J J J J J J J J (z1 J (zz (Qd (zy (z0 J (zn J (zz (Ql J ?_))))))));refine Qh (Q0 (Qc (z4 J J J ?_)));refine Qy J J J J J J J J J (Qe (Q1 (Q0 (Qc (z0 J (z7 J (by omega) (z1 J (zz ?_))))))))
   exact ⟨rows.length - (k + 1),by omega,_,⟨k + 1,z,by omega,⟨hgo,hin.1,hin.2⟩,J⟩,W_gj [0,1,2,6,7,8] J⟩
 ·have hb0 : decide ((k : Int) < (els rows).length) = false := decide_eq_false (by omega)
  have hk : k = rows.length := by omega
  rw [hk] at hx
  rw [adds_T hx]
  refine Qd (zy (z0 J (z0 J (zx (Z0 J J J) J (z9a J (by assumption) (zz (Ql J (Q9 (T_x ?_)))))))));refine T_x (Xl (Q0 (zy (z4 J J J ?_))));refine Qy J J J J J J J J J (z1 J (zz (Xa (F_r ?_))))
  exact Xn J J J J J (X6 [3,4,5] (by decide) J J J)
end
section
open Go.RowKit

theorem adds_in {r : TReplay} {rows : List (List Int)} (gr : Enc.gd rows) (ir : RepIn r) (hk : KeysIn r) : RepIn (addsM r rows).1 := by
 have key : ∀ n x,addsG r rows n = some x → RepIn x ∧ KeysIn x := by
  intro n
  induction n with
  | zero => intro x h; cases h; exact ⟨ir,hk⟩
  | succ n ih =>
   intro x h
   rw [addsG] at h
   cases hn : addsG r rows n with
   | none => rw [hn] at h; cases h
   | some z =>
    rw [hn] at h
    simp only at h
    cases hr : rows[n]? with
    | none => rw [hr] at h; cases h; exact ih _ hn
    | some row =>
     rw [hr] at h
     simp only at h
     split at h
     ·cases h
      have := ih z hn
      exact add_both this.1 (gr.2 row (List.mem_of_getElem? hr)) this.2
     ·cases h
 cases h : addsG r rows rows.length with
 | none => rw [adds_F h]; exact ir
 | some x => rw [adds_T h]; exact (key _ x h).1
@[reducible] def iv (n : Int) : V1 := .rd [] (.v (.int .i64 n))
theorem law_AddRows (x : TReplay) (rows : List (List Int)) (hx : Enc.gd x) (gr : Enc.gd rows) : Con Tryz.prog 6 [] [ag x,al rows] [] (B true) := by
 have hz1 := sz_Replay x 1048576 hx (by omega) (by omega)
 by_cases n1 : (1048576 : Int) < Enc.wt x
 ·rw [Kr n1] at hz1
  refine Con.of Tryz.func6 J Tryz.ntmps6 J (fun E => ?_)
  refine zy (M1 (Qq J J J J) J J (z1 J (zz (zy (z1 J (zz (Qd ?_)))))));refine Qc (z4 J J J (z0 J ?_));refine zx (Qj J J (hz1) J) J ?_;refine z1 J (zz (Qd (zy (z0 J ?_))));refine zx (Qr (b := true) J J J J (by decide)) J ?_;refine zz (Qm J (zy (z1 J (zz (Xa (T_r (F_r ?_)))))))
  exact Xp J J (X6 [] (by decide) J J J)
 rw [Ks (by omega)] at hz1
 have hb1 : decide ((1048576 : Int) - Enc.wt x < 0) = false := decide_eq_false (by omega)
 have ix := rep_in hx (by omega)
 have hz2 := sz_IntSS rows (1048576 - Enc.wt x) gr (by omega) (by omega)
 by_cases n2 : (1048576 : Int) - Enc.wt x < Enc.wt rows
 ·rw [Kr n2] at hz2
  refine Con.of Tryz.func6 J Tryz.ntmps6 J (fun E => ?_)
  refine zy (M1 (Qq J J J J) J J (z1 J (zz (zy (z1 J (zz (Qd ?_)))))));refine Qc (z4 J J J (z0 J ?_));refine zx (Qj J J (hz1) J) J ?_;refine z1 J (zz (Qd (zy (z0 J (z9a J (by assumption) (zz (Ql J (Qh ?_))))))));refine Q0 (zy (z0 J (z0 J ?_)));refine zx (Qj J J (hz2) J) J ?_;refine z1 J (zz (Qd (zy (z0 J ?_))));refine zx (Qr (b := true) J J J J (by decide)) J ?_;refine zz (Qm J (zy (z1 J (zz (Xa (T_r (F_r ?_)))))))
  exact Xp J J (X6 [] (by decide) J J J)
 rw [Ks (by omega)] at hz2
 have hb2 : decide ((1048576 : Int) - Enc.wt x - Enc.wt rows < 0) = false := decide_eq_false (by omega)
 have hwr : Enc.wt rows = rows.length + wts rows := rfl
 have htw := tot_wts rows
 have hrw : ∀ row ∈ rows,row.length ≤ 1048576 := rows_tot (by omega)
 have ht1 := to_Replay x (by omega)
 have ht2 := to_IntSS rows (by omega)
 have hks : ∀ s ∈ x.Keys,s.size ≤ 1048576 := fun s hs => by
  have h1 := wts_le x.Keys s hs
  have h2 : Enc.wt x = (x.Level.Rows.length + wts x.Level.Rows) + (x.Rows.length + wts x.Rows) + (x.Keys.length + wts x.Keys) := rfl
  have h3 : Enc.wt s = s.size := rfl
  omega
 have hsp := S_AddRows x rows gr ix hrw hks
 have hip := I_AddRows x rows gr ix hrw hks
 have iy := adds_in gr ix hks
 generalize (addsM x rows).1 = y at hsp hip iy
 generalize (addsM x rows).2 = b at hsp hip
 have hq1 := eq_Replay y y iy.gd
 have hq2 := eq_Replay x x hx
 have hq3 := eq_IntSS rows rows gr
 rw [decide_eq_true rfl] at hq1 hq2 hq3
 obtain ⟨ix1,ix2,ix3,ix4,ix5⟩ := ix
 obtain ⟨iy1,iy2,iy3,iy4,iy5⟩ := iy
 have hm_x := L_markReplay x 1 (by omega) (by omega) (by omega) (by omega) (by omega) (by omega)
 have hm_r := L_markIntSS rows (1 + x.Level.Rows.length + tot x.Rows + x.Keys.length) (by omega) (by omega) (by omega) (by omega)
 have hm_y := L_markReplay y 1 iy2 iy3 iy4 iy5 (by omega) (by omega)
 have hh := L_heldReplay y 1 iy2 iy3 iy4 iy5 (by omega) (by omega)
 have hk1 : decide ((1 : Int) + x.Level.Rows.length + tot x.Rows + x.Keys.length + tot rows < 0) = false := decide_eq_false (by omega)
 have hk2 : decide ((1 : Int) + y.Level.Rows.length + tot y.Rows + y.Keys.length < 0) = false := decide_eq_false (by omega)
 refine Con.of Tryz.func6 J Tryz.ntmps6 J (fun E => ?_)
 refine zy (M1 (Qq J J J J) J J (z1 J (zz (zy (z1 J (zz (Qd ?_)))))));refine Qc (z4 J J J (z0 J ?_));refine zx (Qj J J (hz1) J) J ?_;refine z1 J (zz (Qd (zy (z0 J (z9a J (by assumption) (zz (Ql J (Qh ?_))))))));refine Q0 (zy (z0 J (z0 J ?_)));refine zx (Qj J J (hz2) J) J ?_;refine z1 J (zz (Qd (zy (z0 J (z9a J (by assumption) (zz (Ql J (Qh ?_))))))));refine Q0 (zy (z4 J J J ?_));refine AL.weak (st' := (⟨_,[(1,L rows),(2,.o (.c (.ptr 0 0))),(28,.o (.ag ((Enc.e x).map (V1.rd []))))],[.box ((Enc.e x).map (V1.rd []))]⟩ : St)) (W_gj [0] J) ?_;refine M1 (Zs J J (ht1) J J J) J J ?_;refine z0 J ?_;refine AL.weak (st' := (⟨_,[(1,L rows),(2,.o (.c (.ptr 0 0))),(29,.o (.ag [.ref 1,iv x.Players,iv x.Seed,iv x.Every,.ref 2,.ref 3])),(30,L rows)],[.box ((Enc.e x).map (V1.rd [])),.row 1 (els x.Level.Rows),.row 1 (els x.Rows),.row 1 (els x.Keys)]⟩ : St)) (W_gj [0,1,2,3] J) ?_;refine M1 (Zs J J (ht2) J J J) J J ?_;refine AL.weak (st' := (⟨_,[(1,L rows),(2,.o (.c (.ptr 0 0))),(29,.o (.ag [.ref 1,iv x.Players,iv x.Seed,iv x.Every,.ref 2,.ref 3])),(31,.o (.c (.ref 4)))],[.box ((Enc.e x).map (V1.rd [])),.row 1 (els x.Level.Rows),.row 1 (els x.Rows),.row 1 (els x.Keys),.row 1 (els rows)]⟩ : St)) (W_gj [0,1,2,3,4] J) ?_;refine M1 (Zs J J (hsp) J J J) J J ?_;refine zx (Q8 J J J) J (ze J (ze J (M1 (Qx J J J) J J ?_)));refine Qy J J J J J J J J J (z1 J (zz (zy (z4 J J J ?_))));refine AL.weak (st' := (⟨_,[(1,L rows),(2,.o (.c (.ptr 0 0))),(6,.o (.c (.ptr 4 0))),(7,B b),(35,.o (.ag ((Enc.e x).map (V1.rd []))))],[.box ((Enc.e x).map (V1.rd [])),.row 1 (els y.Level.Rows),.row 1 (els y.Rows),.row 1 (els y.Keys),.box [.ref 1,iv y.Players,iv y.Seed,iv y.Every,.ref 2,.ref 3]]⟩ : St)) (W_gj [0,5,6,7,8] J) ?_;refine M1 (Zs J J (ht1) J J J) J J ?_;refine M1 (Qx J J J) J J ?_;refine Qy J J J J J J J J J (zz (zy (z0 J ?_)));refine AL.weak (st' := (⟨_,[(1,L rows),(2,.o (.c (.ptr 0 0))),(6,.o (.c (.ptr 4 0))),(7,B b),(8,.o (.c (.ptr 8 0))),(37,L rows)],[.box ((Enc.e x).map (V1.rd [])),.row 1 (els y.Level.Rows),.row 1 (els y.Rows),.row 1 (els y.Keys),.box [.ref 1,iv y.Players,iv y.Seed,iv y.Every,.ref 2,.ref 3],.row 1 (els x.Level.Rows),.row 1 (els x.Rows),.row 1 (els x.Keys),.box [.ref 5,iv x.Players,iv x.Seed,iv x.Every,.ref 6,.ref 7]]⟩ : St)) (W_gj [0,1,2,3,4,5,6,7,8] J) ?_;refine M1 (Zs J J (ht2) J J J) J J ?_;refine z1 J (zz (zy (z4 J J J (z0 J ?_))));refine AL.weak (st' := (⟨_,[(1,L rows),(2,.o (.c (.ptr 0 0))),(6,.o (.c (.ptr 4 0))),(7,B b),(8,.o (.c (.ptr 8 0))),(9,.o (.c (.ref 9))),(40,.o (.ag [.ref 5,iv x.Players,iv x.Seed,iv x.Every,.ref 6,.ref 7])),(41,.o (.c (.ref 9)))],[.box ((Enc.e x).map (V1.rd [])),.row 1 (els y.Level.Rows),.row 1 (els y.Rows),.row 1 (els y.Keys),.box [.ref 1,iv y.Players,iv y.Seed,iv y.Every,.ref 2,.ref 3],.row 1 (els x.Level.Rows),.row 1 (els x.Rows),.row 1 (els x.Keys),.box [.ref 5,iv x.Players,iv x.Seed,iv x.Every,.ref 6,.ref 7],.row 1 (els rows)]⟩ : St)) (W_gj [0,1,2,3,4,5,6,7,8,9] J) ?_;refine M1 (Zs J J (hip) J J J) J J ?_;refine zx (Q8 J J J) J (ze J (ze J (M1 (Qx J J J) J J ?_)));refine Qy J J J J J J J J J (z1 J (zz (Qd (zy (z4 J J J (z4 J J J ?_))))));refine AL.weak (st' := (⟨_,[(1,L rows),(2,.o (.c (.ptr 0 0))),(6,.o (.c (.ptr 4 0))),(7,B b),(8,.o (.c (.ptr 8 0))),(9,.o (.c (.ref 9))),(10,.o (.c (.ptr 13 0))),(11,B b),(45,.o (.ag [.ref 10,iv y.Players,iv y.Seed,iv y.Every,.ref 11,.ref 12])),(46,.o (.ag [.ref 1,iv y.Players,iv y.Seed,iv y.Every,.ref 2,.ref 3]))],[.box ((Enc.e x).map (V1.rd [])),.row 1 (els y.Level.Rows),.row 1 (els y.Rows),.row 1 (els y.Keys),.box [.ref 1,iv y.Players,iv y.Seed,iv y.Every,.ref 2,.ref 3],.row 1 (els x.Level.Rows),.row 1 (els x.Rows),.row 1 (els x.Keys),.box [.ref 5,iv x.Players,iv x.Seed,iv x.Every,.ref 6,.ref 7],.row 1 (els rows),.row 1 (els y.Level.Rows),.row 1 (els y.Rows),.row 1 (els y.Keys),.box [.ref 10,iv y.Players,iv y.Seed,iv y.Every,.ref 11,.ref 12]]⟩ : St)) (W_gj [0,1,2,3,4,5,6,7,8,9,10,11,12,13] J) ?_;refine zx (Qj J J (hq1) J) J ?_;refine zn J (z0 J (z5 J (z0 J (z5 J (z0 J (z5 J (zx (q_bneqR J J J J) J (zpF J (zz (Ql J ?_))))))))));refine Qh (Q0 (Qd (Qd ?_)))
 refine AWP.pre (st' := (⟨_,[(1,L rows),(2,.o (.c (.ptr 0 0))),(6,.o (.c (.ptr 4 0))),(7,B b),(8,.o (.c (.ptr 8 0))),(9,.o (.c (.ref 9))),(10,.o (.c (.ptr 13 0))),(11,B b)],[.box ((Enc.e x).map (V1.rd [])),.row 1 (els y.Level.Rows),.row 1 (els y.Rows),.row 1 (els y.Keys),.box [.ref 1,iv y.Players,iv y.Seed,iv y.Every,.ref 2,.ref 3],.row 1 (els x.Level.Rows),.row 1 (els x.Rows),.row 1 (els x.Keys),.box [.ref 5,iv x.Players,iv x.Seed,iv x.Every,.ref 6,.ref 7],.row 1 (els rows),.row 1 (els y.Level.Rows),.row 1 (els y.Rows),.row 1 (els y.Keys),.box [.ref 10,iv y.Players,iv y.Seed,iv y.Every,.ref 11,.ref 12]]⟩ : St)) ?_ (W_gj [0,1,2,3,4,5,6,7,8,9,10,11,12,13] J)
 refine Xi [[],[],[1],[0,1,2],(u9 4)] [[],[],[55],[54,55,56],[54,55,56,57]] [[55,56],[54],[54],[],[]] J (DR.s (Qu J J J J J J) J J (DR.s (Qu J J J J J J) J J ?_));refine DR.s (Zs J J (ht1) J J J) J J ?_;refine DR.s (Qj J J (hq2) J) J J ?_;refine DR.s (Q4 J J J) J J (DR.stop (by kernel_rfl) (by kernel_rfl) (zz ?_))
 refine AWP.pre (st' := (⟨_,[(1,L rows),(2,.o (.c (.ptr 0 0))),(6,.o (.c (.ptr 4 0))),(7,B b),(8,.o (.c (.ptr 8 0))),(9,.o (.c (.ref 9))),(10,.o (.c (.ptr 13 0))),(11,B b),(58,B false)],[.box ((Enc.e x).map (V1.rd [])),.row 1 (els y.Level.Rows),.row 1 (els y.Rows),.row 1 (els y.Keys),.box [.ref 1,iv y.Players,iv y.Seed,iv y.Every,.ref 2,.ref 3],.row 1 (els x.Level.Rows),.row 1 (els x.Rows),.row 1 (els x.Keys),.box [.ref 5,iv x.Players,iv x.Seed,iv x.Every,.ref 6,.ref 7],.row 1 (els rows),.row 1 (els y.Level.Rows),.row 1 (els y.Rows),.row 1 (els y.Keys),.box [.ref 10,iv y.Players,iv y.Seed,iv y.Every,.ref 11,.ref 12]]⟩ : St)) ?_ (W_gj [0,1,2,3,4,5,6,7,8,9,10,11,12,13] J)
 refine Ql J (Qh (Q0 (Qd (zy (z0 J (z0 J ?_))))));refine M1 (Zs J J (ht2) J J J) J J ?_;refine AL.weak (st' := (⟨_,[(1,L rows),(2,.o (.c (.ptr 0 0))),(6,.o (.c (.ptr 4 0))),(7,B b),(8,.o (.c (.ptr 8 0))),(9,.o (.c (.ref 9))),(10,.o (.c (.ptr 13 0))),(11,B b),(59,.o (.c (.ref 9))),(61,.o (.c (.ref 14)))],[.box ((Enc.e x).map (V1.rd [])),.row 1 (els y.Level.Rows),.row 1 (els y.Rows),.row 1 (els y.Keys),.box [.ref 1,iv y.Players,iv y.Seed,iv y.Every,.ref 2,.ref 3],.row 1 (els x.Level.Rows),.row 1 (els x.Rows),.row 1 (els x.Keys),.box [.ref 5,iv x.Players,iv x.Seed,iv x.Every,.ref 6,.ref 7],.row 1 (els rows),.row 1 (els y.Level.Rows),.row 1 (els y.Rows),.row 1 (els y.Keys),.box [.ref 10,iv y.Players,iv y.Seed,iv y.Every,.ref 11,.ref 12],.row 1 (els rows)]⟩ : St)) (W_gj [0,1,2,3,4,5,6,7,8,9,10,11,12,13,14] J) ?_;refine zx (Qj J J (hq3) J) J ?_;refine zn J (zz (Ql J (Qh (Q0 (zy (z1 J (zz (Qd ?_))))))));refine Qc (z4 J J J (z0 J ?_));refine AL.weak (st' := (⟨_,[(1,L rows),(2,.o (.c (.ptr 0 0))),(6,.o (.c (.ptr 4 0))),(7,B b),(9,.o (.c (.ref 8))),(10,.o (.c (.ptr 12 0))),(11,B b),(64,.o (.ag [.ref 5,iv x.Players,iv x.Seed,iv x.Every,.ref 6,.ref 7])),(65,I 1)],[.box ((Enc.e x).map (V1.rd [])),.row 1 (els y.Level.Rows),.row 1 (els y.Rows),.row 1 (els y.Keys),.box [.ref 1,iv y.Players,iv y.Seed,iv y.Every,.ref 2,.ref 3],.row 1 (els x.Level.Rows),.row 1 (els x.Rows),.row 1 (els x.Keys),.row 1 (els rows),.row 1 (els y.Level.Rows),.row 1 (els y.Rows),.row 1 (els y.Keys),.box [.ref 9,iv y.Players,iv y.Seed,iv y.Every,.ref 10,.ref 11]]⟩ : St)) (W_gj [0,1,2,3,4,5,6,7,9,10,11,12,13] J) ?_;refine Xd (lo := [_,_,_]) (gs := [(0,.ag [.ref 0,iv x.Players,iv x.Seed,iv x.Every,.ref 1,.ref 2])]) (lo' := [_,_,_]) (new := []) [5,6,7] [(0,0,.ref 0),(0,4,.ref 1),(0,5,.ref 2)] (hm_x) J J J J J J J J J J J J J J J J J ?_;refine z1 J (zz (zy (z0 J (z0 J ?_))));refine AL.weak (st' := (⟨_,[(1,L rows),(2,.o (.c (.ptr 0 0))),(6,.o (.c (.ptr 4 0))),(7,B b),(10,.o (.c (.ptr 9 0))),(11,B b),(67,.o (.c (.ref 5))),(68,I (1 + x.Level.Rows.length + tot x.Rows + x.Keys.length))],[.box ((Enc.e x).map (V1.rd [])),.row 1 (els y.Level.Rows),.row 1 (els y.Rows),.row 1 (els y.Keys),.box [.ref 1,iv y.Players,iv y.Seed,iv y.Every,.ref 2,.ref 3],.row 1 (els rows),.row 1 (els y.Level.Rows),.row 1 (els y.Rows),.row 1 (els y.Keys),.box [.ref 6,iv y.Players,iv y.Seed,iv y.Every,.ref 7,.ref 8]]⟩ : St)) (W_gj [0,1,2,3,4,8,9,10,11,12] J) ?_;refine Xd (lo := [_]) (gs := [(0,.c (.ref 0))]) (lo' := [_]) (new := []) [5] [(0,0,.ref 0)] (hm_r) J J J J J J J J J J J J J J J J J ?_;refine z1 J (zz (Qd (zy (z0 J (z9a J (by assumption) (z0 J (z5 J (z4 J J J (z5 J ?_)))))))));refine z4 J J J (z5 J ?_);refine AL.weak (st' := (⟨_,[(1,L rows),(2,.o (.c (.ptr 0 0))),(6,.o (.c (.ptr 4 0))),(7,B b),(10,.o (.c (.ptr 8 0))),(11,B b),(72,B false),(73,.o (.ag [.ref 5,iv y.Players,iv y.Seed,iv y.Every,.ref 6,.ref 7])),(74,.o (.ag [.ref 1,iv y.Players,iv y.Seed,iv y.Every,.ref 2,.ref 3]))],[.box ((Enc.e x).map (V1.rd [])),.row 1 (els y.Level.Rows),.row 1 (els y.Rows),.row 1 (els y.Keys),.box [.ref 1,iv y.Players,iv y.Seed,iv y.Every,.ref 2,.ref 3],.row 1 (els y.Level.Rows),.row 1 (els y.Rows),.row 1 (els y.Keys),.box [.ref 5,iv y.Players,iv y.Seed,iv y.Every,.ref 6,.ref 7]]⟩ : St)) (W_gj [0,1,2,3,4,6,7,8,9] J) ?_;refine zx (Qj J J (hq1) J) J ?_;refine z5 J (zn J (zpF J (z0 J (z5 J (z0 J (z5 J (z0 J (z5 J (zx (q_bneqR J J J J) J (zpF J (Qe ?_)))))))))));refine Q0 (Ql J (Qh (Q0 (zy (z1 J (zz (zy (z4 J J J ?_))))))));refine z0 J ?_;refine AL.weak (st' := (⟨_,[(1,L rows),(2,.o (.c (.ptr 0 0))),(6,.o (.c (.ptr 4 0))),(7,B b),(10,.o (.c (.ptr 8 0))),(83,.o (.ag [.ref 5,iv y.Players,iv y.Seed,iv y.Every,.ref 6,.ref 7])),(84,I 1)],[.box ((Enc.e x).map (V1.rd [])),.row 1 (els y.Level.Rows),.row 1 (els y.Rows),.row 1 (els y.Keys),.box [.ref 1,iv y.Players,iv y.Seed,iv y.Every,.ref 2,.ref 3],.row 1 (els y.Level.Rows),.row 1 (els y.Rows),.row 1 (els y.Keys),.box [.ref 5,iv y.Players,iv y.Seed,iv y.Every,.ref 6,.ref 7]]⟩ : St)) (W_gj [0,1,2,3,4,5,6,7,8] J) ?_;refine Xd (lo := [_,_,_]) (gs := [(0,.ag [.ref 0,iv y.Players,iv y.Seed,iv y.Every,.ref 1,.ref 2])]) (lo' := [_,_,_]) (new := []) [5,6,7] [(0,0,.ref 0),(0,4,.ref 1),(0,5,.ref 2)] (hm_y) J J J J J J J J J J J J J J J J J ?_;refine z1 J (zz (zy (z1 J (zz (zy (z4 J J J (z0 J ?_)))))));refine AL.weak (st' := (⟨_,[(1,L rows),(2,.o (.c (.ptr 0 0))),(6,.o (.c (.ptr 4 0))),(7,B b),(10,.o (.c (.ptr 8 0))),(13,I (1 + y.Level.Rows.length + tot y.Rows + y.Keys.length)),(86,.o (.ag [.ref 5,iv y.Players,iv y.Seed,iv y.Every,.ref 6,.ref 7])),(87,I 1)],[.box ((Enc.e x).map (V1.rd [])),.row 1 (els y.Level.Rows),.row 1 (els y.Rows),.row 1 (els y.Keys),.box [.ref 1,iv y.Players,iv y.Seed,iv y.Every,.ref 2,.ref 3],.row 1 (els (markS y.Level.Rows 1)),.row 1 (els (markII y.Rows (1 + y.Level.Rows.length))),.row 1 (els (markS y.Keys (1 + y.Level.Rows.length + tot y.Rows))),.box [.ref 5,iv y.Players,iv y.Seed,iv y.Every,.ref 6,.ref 7]]⟩ : St)) (W_gj [0,1,2,3,4,5,6,7,8] J) ?_;refine zx (Qj J J (hh) J) J ?_;refine z1 J (zz (Qd (zy (z0 J (z9a J (by assumption) (zz (Ql J (Qh ?_))))))));refine Q0 (Qd (zy (z0 J (z0 J (zx (q_neqR J J J J) J (zz (Ql J (Qh (Q0 ?_)))))))));refine zy (z4 J J J ?_);refine AL.weak (st' := (⟨_,[(1,L rows),(6,.o (.c (.ptr 3 0))),(7,B b),(10,.o (.c (.ptr 7 0))),(13,I (1 + y.Level.Rows.length + tot y.Rows + y.Keys.length)),(95,.o (.ag ((Enc.e x).map (V1.rd []))))],[.row 1 (els y.Level.Rows),.row 1 (els y.Rows),.row 1 (els y.Keys),.box [.ref 0,iv y.Players,iv y.Seed,iv y.Every,.ref 1,.ref 2],.row 1 (els (markS y.Level.Rows 1)),.row 1 (els (markII y.Rows (1 + y.Level.Rows.length))),.row 1 (els (markS y.Keys (1 + y.Level.Rows.length + tot y.Rows))),.box [.ref 4,iv y.Players,iv y.Seed,iv y.Every,.ref 5,.ref 6]]⟩ : St)) (W_gj [1,2,3,4,5,6,7,8] J) ?_;refine M1 (Zs J J (ht1) J J J) J J ?_;refine z0 J ?_;refine AL.weak (st' := (⟨_,[(6,.o (.c (.ptr 3 0))),(7,B b),(10,.o (.c (.ptr 7 0))),(13,I (1 + y.Level.Rows.length + tot y.Rows + y.Keys.length)),(96,.o (.ag [.ref 8,iv x.Players,iv x.Seed,iv x.Every,.ref 9,.ref 10])),(97,L rows)],[.row 1 (els y.Level.Rows),.row 1 (els y.Rows),.row 1 (els y.Keys),.box [.ref 0,iv y.Players,iv y.Seed,iv y.Every,.ref 1,.ref 2],.row 1 (els (markS y.Level.Rows 1)),.row 1 (els (markII y.Rows (1 + y.Level.Rows.length))),.row 1 (els (markS y.Keys (1 + y.Level.Rows.length + tot y.Rows))),.box [.ref 4,iv y.Players,iv y.Seed,iv y.Every,.ref 5,.ref 6],.row 1 (els x.Level.Rows),.row 1 (els x.Rows),.row 1 (els x.Keys)]⟩ : St)) (W_gj [0,1,2,3,4,5,6,7,8,9,10] J) ?_;refine M1 (Zs J J (ht2) J J J) J J ?_;refine AL.weak (st' := (⟨_,[(6,.o (.c (.ptr 3 0))),(7,B b),(10,.o (.c (.ptr 7 0))),(13,I (1 + y.Level.Rows.length + tot y.Rows + y.Keys.length)),(96,.o (.ag [.ref 8,iv x.Players,iv x.Seed,iv x.Every,.ref 9,.ref 10])),(98,.o (.c (.ref 11)))],[.row 1 (els y.Level.Rows),.row 1 (els y.Rows),.row 1 (els y.Keys),.box [.ref 0,iv y.Players,iv y.Seed,iv y.Every,.ref 1,.ref 2],.row 1 (els (markS y.Level.Rows 1)),.row 1 (els (markII y.Rows (1 + y.Level.Rows.length))),.row 1 (els (markS y.Keys (1 + y.Level.Rows.length + tot y.Rows))),.box [.ref 4,iv y.Players,iv y.Seed,iv y.Every,.ref 5,.ref 6],.row 1 (els x.Level.Rows),.row 1 (els x.Rows),.row 1 (els x.Keys),.row 1 (els rows)]⟩ : St)) (W_gj [0,1,2,3,4,5,6,7,8,9,10,11] J) ?_;refine M1 (Zs J J (hip) J J J) J J ?_;refine zx (Q8 J J J) J (ze J (ze J (M1 (Qx J J J) J J ?_)));refine Qy J J J J J J J J J (z1 J (zz (Qd (zy (z4 J J J (z4 J J J ?_))))));refine AL.weak (st' := (⟨_,[(7,B b),(10,.o (.c (.ptr 6 0))),(13,I (1 + y.Level.Rows.length + tot y.Rows + y.Keys.length)),(16,B b),(102,.o (.ag [.ref 7,iv y.Players,iv y.Seed,iv y.Every,.ref 8,.ref 9])),(103,.o (.ag [.ref 0,iv y.Players,iv y.Seed,iv y.Every,.ref 1,.ref 2]))],[.row 1 (els y.Level.Rows),.row 1 (els y.Rows),.row 1 (els y.Keys),.row 1 (els (markS y.Level.Rows 1)),.row 1 (els (markII y.Rows (1 + y.Level.Rows.length))),.row 1 (els (markS y.Keys (1 + y.Level.Rows.length + tot y.Rows))),.box [.ref 3,iv y.Players,iv y.Seed,iv y.Every,.ref 4,.ref 5],.row 1 (els y.Level.Rows),.row 1 (els y.Rows),.row 1 (els y.Keys)]⟩ : St)) (W_gj [0,1,2,4,5,6,7,12,13,14] J) ?_;refine zx (Qj J J (hq1) J) J ?_;refine zn J (z0 J (z5 J (z0 J (z5 J (z0 J (z5 J (zx (q_bneqR J J J J) J (zpF J (zz (Ql J ?_))))))))));refine Qh (Q0 (zy (z1 J (zz (zy (z4 J J J (z0 J ?_)))))));refine AL.weak (st' := (⟨_,[(13,I (1 + y.Level.Rows.length + tot y.Rows + y.Keys.length)),(111,.o (.ag [.ref 0,iv y.Players,iv y.Seed,iv y.Every,.ref 1,.ref 2])),(112,I 1)],[.row 1 (els (markS y.Level.Rows 1)),.row 1 (els (markII y.Rows (1 + y.Level.Rows.length))),.row 1 (els (markS y.Keys (1 + y.Level.Rows.length + tot y.Rows)))]⟩ : St)) (W_gj [3,4,5] J) ?_;refine zx (Qj J J (hh) J) J ?_;refine z1 J (zz (Qd (zy (z0 J (z9a J (by assumption) (zz (Ql J (Qh ?_))))))));refine Q0 (Qd (zy (z0 J (z0 J (zx (q_neqR J J J J) J (zz (Ql J (Qh (Q0 ?_)))))))));refine zy (z1 J (zz (Xa (F_r ?_))))
 exact Xp J J (X6 [] (by decide) J J J)
end
section
open Go.ChangeShapes Go.WideShapes Go.ChangeAt Go.RowKit

def RL (w : World) (ts : List T) (cs : List Value) : Prop := ∀ (j : Nat) (t : T) (u : Value),ts[j]? = some t → cs[j]? = some u → RO w (fun _ => True) t u
theorem RL.nil {w : World} {cs : List Value} : RL w [] cs := fun _ _ _ h => by simp at h
theorem RL.app {w : World} {ts us : List T} {cs : List Value} {o n : Nat} (h1 : RL w ts ((cs.drop o).take n)) (hn : ts.length = n) (h2 : RL w us (cs.drop (o + n))) : RL w (ts ++ us) (cs.drop o) := fun j t u h3 h4 => by
 rcases Nat.lt_or_ge j ts.length with hj | hj
 ·rw [List.getElem?_append_left hj] at h3
  exact h1 j t u h3 (by rw [List.getElem?_take,if_pos (by omega)]; exact h4)
 ·rw [List.getElem?_append_right hj] at h3
  refine h2 (j - ts.length) t u h3 ?_
  rw [List.getElem?_drop] at h4 ⊢
  rw [← h4]
  congr 1
  omega
theorem Kh {P : Program} {t tt : TypeId} {fs : Array Field} {f : Field} {α : Type} [Enc α] {H : Type} {enc : TypeId × Value → H} {w : World} {spare : Nat → Bool} {held : Bool} {fuel : Nat} {cs : List Value} {x : DataW H × List MemPlace}
  (ht : P.underlying t = some (.struct fs)) (h : DataW.trod enc P w 0 spare held fuel t cs = some x) (i : Nat) (hf : fs[i]? = some f) (hty : f.type = tt) [hα : RdOf P tt α] {o : Nat} (ho : f.offset = o) :
  ∃ y : α,Enc.gd y ∧ RL w (Enc.e y) ((cs.drop o).take (Enc.k α)) := by
 obtain ⟨xs,n,_,_,hl,hlen,hfs⟩ := DataW.trod_struct ht h
 have h1 := hfs i f hf
 have hi : i < fs.size := by
  rcases Nat.lt_or_ge i fs.size with h2 | h2
  ·exact h2
  ·rw [Array.getElem?_eq_none h2] at hf; cases hf
 rw [List.getElem?_eq_getElem (by omega),hty,ho,hα.size] at h1
 obtain ⟨y,hg,hr⟩ := hα.of h1
 exact ⟨y,hg,hr.2⟩
theorem reads_len {P : Program} {t : TypeId} {fs : Array Field} {H : Type} {enc : TypeId × Value → H} {w : World} {spare : Nat → Bool} {held : Bool} {fuel : Nat} {cs : List Value} {x : DataW H × List MemPlace}
  (ht : P.underlying t = some (.struct fs)) (h : DataW.trod enc P w 0 spare held fuel t cs = some x) : cs.length = P.cellsOf t := by
 obtain ⟨xs,n,_,_,hl,_⟩ := DataW.trod_struct ht h
 exact hl

instance : RdOf Tryz.prog 3 Int := rdOf_int Tryz.underlying3 (by kernel_rfl)
instance : RdOf Tryz.prog 9 ByteArray := rdOf_string Tryz.underlying9 (by kernel_rfl)
instance : RdOf Tryz.prog 27 (List Int) := rdOf_slice Tryz.underlying27 (by kernel_rfl)
instance : RdOf Tryz.prog 24 (List ByteArray) := rdOf_slice Tryz.underlying24 (by kernel_rfl)
instance : RdOf Tryz.prog 31 (List (List Int)) := rdOf_slice Tryz.underlying31 (by kernel_rfl)
instance : RdOf Tryz.prog 49 TLevel where
 size := by kernel_rfl
 of {H enc w spare held fuel cs x} h := by
  obtain ⟨y0,g0,r0⟩ := Kh (α := (List ByteArray)) (tt := 24) Tryz.underlying49 h 0 rfl rfl rfl
  refine ⟨⟨y0⟩,g0,?_,?_⟩
  ·rw [reads_len Tryz.underlying49 h]; kernel_rfl
  ·exact (RL.app (o := 0) (n := 1) r0 rfl (RL.nil) : RL w _ (cs.drop 0))
instance : RdOf Tryz.prog 51 TReplay where
 size := by kernel_rfl
 of {H enc w spare held fuel cs x} h := by
  obtain ⟨y0,g0,r0⟩ := Kh (α := TLevel) (tt := 49) Tryz.underlying51 h 0 rfl rfl rfl
  obtain ⟨y1,g1,r1⟩ := Kh (α := Int) (tt := 3) Tryz.underlying51 h 1 rfl rfl rfl
  obtain ⟨y2,g2,r2⟩ := Kh (α := Int) (tt := 3) Tryz.underlying51 h 2 rfl rfl rfl
  obtain ⟨y3,g3,r3⟩ := Kh (α := Int) (tt := 3) Tryz.underlying51 h 3 rfl rfl rfl
  obtain ⟨y4,g4,r4⟩ := Kh (α := (List (List Int))) (tt := 31) Tryz.underlying51 h 4 rfl rfl rfl
  obtain ⟨y5,g5,r5⟩ := Kh (α := (List ByteArray)) (tt := 24) Tryz.underlying51 h 5 rfl rfl rfl
  refine ⟨⟨y0,y1,y2,y3,y4,y5⟩,⟨g0,g1,g2,g3,g4,g5⟩,?_,?_⟩
  ·rw [reads_len Tryz.underlying51 h]; kernel_rfl
  ·exact (RL.app (o := 0) (n := 1) r0 rfl (RL.app (o := 1) (n := 1) r1 rfl (RL.app (o := 2) (n := 1) r2 rfl (RL.app (o := 3) (n := 1) r3 rfl (RL.app (o := 4) (n := 1) r4 rfl (RL.app (o := 5) (n := 1) r5 rfl (RL.nil)))))) : RL w _ (cs.drop 0))
end
end Go.Proofs.YtbfhboakafjjgaaGreat
