/-
  Parts of the proof (rules, data, and what functions of the program and of the reference return), among them: Texts with runs of zeros packed: what is read back; append(x, make([]byte, n)...): the compiler's append of n zeros.
  Conditions: those that each theorem names.
-/
import Derived.Test.YtbfhboakafjjgaaGreatDDReplRowk15
import Derived.Test.YtbfhboakafjjgaaGreatDDReplRowk22
import Derived.Test.YtbfhboakafjjgaaGreatDDReplRowk23
import Derived.Test.YtbfhboakafjjgaaGreatDDReplRowk25
import Derived.Test.YtbfhboakafjjgaaGreatDDReplRowk30
import Derived.Test.YtbfhboakafjjgaaGreatDDReplRowk34
set_option linter.unusedSimpArgs false
set_option linter.unusedVariables false
set_option maxRecDepth 8000
set_option maxHeartbeats 8000000
namespace Go.Proofs.YtbfhboakafjjgaaGreat
section
open Go.RowKit

theorem S_StepWorld (w : TWorld) (row : List Int) (hg : Enc.gd w) (gr : Enc.gd row) (h1 : w.Level.Rows.length ≤ 1048576) (h2 : w.Scores.length ≤ 1048576) (h3 : w.Bodies.length ≤ 1048576) : Con Tryz.prog 15 [] [ag w,al row] [.row 1 (els w.Level.Rows),.row 1 (els (stepW w row).Scores),.row 9 (els (stepW w row).Bodies)] (.o (.ag [.ref 0,jn (stepW w row).Tick,jn (stepW w row).Seed,.ref 1,.ref 2])) := by
 have hls := Yp w.Scores
 have hlb := Yp w.Bodies
 have c1 := S_copyWorld w hg h1 h2 h3
 have c2 := S_WorldOk w hg
 have c3 := S_rowOk row ((els w.Scores).length : Int) gr
 rw [show rowOk row ((els w.Scores).length : Int) = rowOk row (w.Scores.length : Int) by rw [hls]] at c3
 cases ho : worldOk w with
 | false =>
  rw [step_F (fun q => by rw [ho] at q; cases q.1)]
  rw [ho] at c2
  refine Con.of Tryz.func15 J Tryz.ntmps15 J (fun E => ?_)
  refine zy (M1 (Qq J J J J) J J (M1 (Qx J J J) J J (zz (zy (z4 J J J ?_)))));refine M1 (Zo J J (c1) J J J) J J ?_;refine M1 (Qx J J J) J J ?_;refine Qy J J J J J J J J J (zz (Qd (zy (z4 J J J ?_))));refine zx (Qj J J (c2) J) J ?_;refine zn J (z0 J (z6 J (z6 J (z6 J (zpT J (z0 J (z6 J (z6 J (z6 J (z6 J (z6 J ?_)))))))))));refine z6 J (zpT J (zz (Qm J (zy (z4 J J J ?_)))));refine Qy J J J J J J J J J (zz (Xa (T_r (F_r ?_))))
  exact Xm J J J J (X5 [2,3,4] (by decide) J J J)
 | true =>
 rw [ho] at c2
 by_cases ht : w.Tick = 100000
 ·have f1 : decide (w.Tick = 100000) = true := decide_eq_true ht
  rw [step_F (fun q => q.2.1 ht)]
  refine Con.of Tryz.func15 J Tryz.ntmps15 J (fun E => ?_)
  refine zy (M1 (Qq J J J J) J J (M1 (Qx J J J) J J (zz (zy (z4 J J J ?_)))));refine M1 (Zo J J (c1) J J J) J J ?_;refine M1 (Qx J J J) J J ?_;refine Qy J J J J J J J J J (zz (Qd (zy (z4 J J J ?_))));refine zx (Qj J J (c2) J) J ?_;refine zn J (z0 J (z5 J (z2 J J J (z5 J (z3 J (z5 J (z9e J (by assumption) (zpF J (z0 J (z6 J (z6 J ?_)))))))))));refine z6 J (z6 J (z6 J (z6 J (zpT J (zz (Qm J (zy (z4 J J J ?_))))))));refine Qy J J J J J J J J J (zz (Xa (T_r (F_r ?_))))
  exact Xm J J J J (X5 [2,3,4] (by decide) J J J)
 have f1 : decide (w.Tick = 100000) = false := decide_eq_false ht
 cases hr : rowOk row (w.Scores.length : Int) with
 | false =>
  rw [step_F (fun q => by rw [hr] at q; cases q.2.2)]
  rw [hr] at c3
  refine Con.of Tryz.func15 J Tryz.ntmps15 J (fun E => ?_)
  refine zy (M1 (Qq J J J J) J J (M1 (Qx J J J) J J (zz (zy (z4 J J J ?_)))));refine M1 (Zo J J (c1) J J J) J J ?_;refine M1 (Qx J J J) J J ?_;refine Qy J J J J J J J J J (zz (Qd (zy (z4 J J J ?_))));refine zx (Qj J J (c2) J) J ?_;refine zn J (z0 J (z5 J (z2 J J J (z5 J (z3 J (z5 J (z9e J (by assumption) (zpF J (z0 J (z5 J (z0 J ?_)))))))))));refine z5 J (z2 J J J (z5 J (z3 J (z5 J (zx (Zw J J J) J (z5 J ?_))))));refine zx (Qj J J (c3) J) J ?_;refine z5 J (zn J (zpF J (zz (Qm J (zy (z4 J J J ?_))))));refine Qy J J J J J J J J J (zz (Xa (T_r (F_r ?_))))
  exact Xm J J J J (X5 [2,3,4] (by decide) J J J)
 | true =>
 rw [hr] at c3
 rw [step_T ⟨ho,ht,hr⟩]
 have d1 := S_l02Step w row hg ho ht hr
 refine Con.of Tryz.func15 J Tryz.ntmps15 J (fun E => ?_)
 refine zy (M1 (Qq J J J J) J J (M1 (Qx J J J) J J (zz (zy (z4 J J J ?_)))));refine M1 (Zo J J (c1) J J J) J J ?_;refine M1 (Qx J J J) J J ?_;refine Qy J J J J J J J J J (zz (Qd (zy (z4 J J J ?_))));refine zx (Qj J J (c2) J) J ?_;refine zn J (z0 J (z5 J (z2 J J J (z5 J (z3 J (z5 J (z9e J (by assumption) (zpF J (z0 J (z5 J (z0 J ?_)))))))))));refine z5 J (z2 J J J (z5 J (z3 J (z5 J (zx (Zw J J J) J (z5 J ?_))))));refine zx (Qj J J (c3) J) J ?_;refine z5 J (zn J (zpF J (zz (Ql J (Qh (Q0 (zy (z0 J ?_))))))));refine AL.weak (st' := (⟨_,[(4,.o (.c (.ptr 4 0))),(5,.o (.c (.ptr 0 0))),(25,L row)],[.box [.ref 1,jn w.Tick,jn w.Seed,.ref 2,.ref 3],.row 1 (els w.Level.Rows),.row 1 (els w.Scores),.row 9 (els w.Bodies),.box [nilV,jn 0,jn 0,nilV,nilV]]⟩ : St)) (W_gj [5,2,3,4,1] (by kernel_rfl)) ?_
 clear c1 c2 c3 f1
 refine Xd (lo := [_,_,_,_]) (gs := [(0,.c (.ptr 0 0))]) (lo' := [_,_,_,_]) (new := []) [0,1,2,3] [(0,0,.ptr 0 0)] (d1) J J J J J J J J J J J J J J J J J ?_;refine zz (zy (z4 J J J ?_));refine Qy J J J J J J J J J (zz (Xa (F_r ?_)))
 exact Xm J J J J (X5 [1,2,3] (by decide) J J J)
end
section
open Go.RowKit

theorem Enc.gd_take {α : Type} [Enc α] {xs : List α} (h : Enc.gd xs) (n : Nat) : Enc.gd (xs.take n) := ⟨Nat.le_trans (by simp; omega) h.1,fun x hx => h.2 x (List.mem_of_mem_take hx)⟩
structure RepIn (y : TReplay) : Prop where
 gd : Enc.gd y
 h1 : y.Level.Rows.length ≤ 1048576
 h2 : y.Keys.length ≤ 1048576
 h3 : y.Rows.length ≤ 1048576
 h4 : tot y.Rows ≤ 1048576
structure WorIn (w : TWorld) : Prop where
 gd : Enc.gd w
 h1 : w.Level.Rows.length ≤ 1048576
 h2 : w.Scores.length ≤ 1048576
 h3 : w.Bodies.length ≤ 1048576
theorem Km : WorIn zeroWorld := ⟨⟨⟨by simp [zeroWorld],fun x hx => by simp [zeroWorld] at hx⟩,⟨by decide,by decide⟩,⟨by decide,by decide⟩,⟨by simp [zeroWorld],fun x hx => by simp [zeroWorld] at hx⟩,⟨by simp [zeroWorld],fun x hx => by simp [zeroWorld] at hx⟩⟩,by simp [zeroWorld],by simp [zeroWorld],by simp [zeroWorld]⟩
theorem read_in {lv : TLevel} {s : ByteArray} (hg : Enc.gd lv) (hL : lv.Rows.length ≤ 1048576) (hs : s.size ≤ 1099511627776) : WorIn (rwW (readWorld lv s)) := by
 cases hu : unpackInts s 0 with
 | none => rw [readWorld_none hu]; exact Km
 | some r =>
  obtain ⟨l,pos⟩ := r
  obtain ⟨_,hu1,hu2,hu3,hu4⟩ := unpackInts_some hu
  by_cases hp : pos = s.size ∧ formOk l ∧ worldOk (worldOf lv l) = true
  ·rw [Ka hu hp]
   have hw := Ko hp.2.2
   exact ⟨worldOf_gd hg hu4 (by omega),hL,Nat.le_trans hw.2.2.2.1.2 (by decide),Nat.le_trans hw.2.2.2.2.2.1.2 (by decide)⟩
  ·rw [Z9 hu hp]; exact Km
end
section
open Go.RowKit

noncomputable def runM (w : TWorld) (rows : List (List Int)) : TWorld := rows.foldl stepW w
theorem step_in {w : TWorld} {row : List Int} (h : WorIn w) : WorIn (stepW w row) := by
 have h1 := stepW_fits (row := row) h.gd
 exact ⟨h1.1,by rw [stepW_level]; exact h.h1,by rw [h1.2.1]; exact h.h2,by have := h.h3; omega⟩
theorem ran_in : ∀ (rows : List (List Int)) {w : TWorld},WorIn w → WorIn (runM w rows)
 | [],_,h => h
 | r :: rs,w,h => ran_in rs (w := stepW w r) (step_in h)
theorem runM_next {w x : TWorld} {rows : List (List Int)} {k : Nat} {r : List Int} (hr : rows[k]? = some r) (h : x = runM w (rows.take k)) : stepW x r = runM w (rows.take (k + 1)) := by
 obtain ⟨hk,rfl⟩ := List.getElem?_eq_some_iff.1 hr
 rw [List.take_succ_eq_append_getElem hk,h]
 unfold runM
 rw [List.foldl_append]
 rfl
theorem I_RunWorld (w : TWorld) (rows : List (List Int)) (iw : WorIn w) (gr : Enc.gd rows) : Con Tryz.prog 44 [] [ag w,al rows] [.row 1 (els (runM w rows).Level.Rows),.row 1 (els (runM w rows).Scores),.row 9 (els (runM w rows).Bodies)] (.o (.ag [.ref 0,jn (runM w rows).Tick,jn (runM w rows).Seed,.ref 1,.ref 2])) := by
 have c1 := I_copyWorld w iw.gd iw.h1 iw.h2 iw.h3
 have hlr := Yp rows
 have hlg := gr.1
 refine Con.of Tryz.func44 J Tryz.ntmps44 J (fun E => ?_)
 refine zy (M1 (Qq J J J J) J J (M1 (Qx J J J) J J (zz (zy (z4 J J J ?_)))));refine M1 (Zo J J (c1) J J J) J J ?_;refine M1 (Qx J J J) J J ?_;refine Qy J J J J J J J J J (zz (Qd (zy (z0 J (zx (Zw J J J) J (z0 J (zz (Qk ?_))))))))
 refine AWP.pre (st' := (⟨_,[(4,.o (.c (.ptr 4 0))),(5,.o (.c (.ptr 0 0))),(10,L rows),(11,I (els rows).length),(12,I 0)],[.box [.ref 1,jn w.Tick,jn w.Seed,.ref 2,.ref 3],.row 1 (els w.Level.Rows),.row 1 (els w.Scores),.row 9 (els w.Bodies),.box [nilV,jn 0,jn 0,nilV,nilV]]⟩ : St)) ?_ (W_gj [5,2,3,4,1] (by kernel_rfl))
 clear c1
 refine A_lq (fun m st => ∃ (k : Nat) (x : TWorld),k + m = rows.length ∧ (x = runM w (rows.take k)) ∧ st = (⟨_,[(4,.o (.c (.ptr 4 0))),(5,.o (.c (.ptr 0 0))),(10,L rows),(11,I (els rows).length),(12,I k)],[.box [.ref 1,jn x.Tick,jn x.Seed,.ref 2,.ref 3],.row 1 (els x.Level.Rows),.row 1 (els x.Scores),.row 9 (els x.Bodies),.box [nilV,jn 0,jn 0,nilV,nilV]]⟩ : St)) (rows.length) ⟨_,⟨0,w,by omega,J,J⟩,W_gj [0,1,2,3,4] (by kernel_rfl)⟩ ?_
 rintro m_A _ ⟨k,x,hk_A,hp_A,rfl⟩
 have ix : WorIn x := by rw [hp_A]; exact ran_in _ iw
 by_cases hlt : k < rows.length
 ·have hb0 : decide ((k : Int) < (els rows).length) = true := decide_eq_true (by omega)
  obtain ⟨r,hr⟩ := Kk hlt
  have her := Yr hr
  have cs := I_StepWorld x r ix.gd (gr.2 r (List.mem_of_getElem? hr)) ix.h1 ix.h2 ix.h3
  have hnx := runM_next hr hp_A
  have hlv := stepW_level x r
  generalize stepW x r = z at cs hnx hlv
  rw [← hlv] at cs
  refine zy (z9a J (by assumption) (zz (Qd (Qm J (Qh (Q0 (Qd (Qk (Qd ?_)))))))));refine Qc (zx (Q2 J J J J (by omega) (by assumption) J) J (zx (Z0 J J J J) J (z1 J (zz (Qc (z4 J J J (z0 J ?_)))))));refine M1 (Zo J J (cs) J J J) J J ?_;refine Qy J J J J J J J J J (Qe (Q1 (Q0 (Qc (z7 J (by omega) (z0 J (zz ?_)))))))
  exact ⟨rows.length - (k + 1),by omega,_,⟨k + 1,z,by omega,hnx,J⟩,W_gj [0,5,6,7,4] (by kernel_rfl)⟩
 have hb0 : decide ((k : Int) < (els rows).length) = false := decide_eq_false (by omega)
 have hk : k = rows.length := by omega
 rw [hk,List.take_length] at hp_A
 rw [← hp_A]
 refine zy (z9a J (by assumption) (zz (Qd (Ql J (Q9 (T_x (T_x (Xl (Q0 ?_)))))))));refine zy (z4 J J J ?_);refine Qy J J J J J J J J J (zz (Xa (F_r ?_)))
 exact Xm J J J J (X5 [1,2,3] (by decide) J J J)
end
section
open Go.RowKit

theorem drop_more {s : ByteArray} {p : Nat} {a r : List UInt8} (h : s.data.toList.drop p = a ++ r) : s.data.toList.drop (p + a.length) = r := by
 have := congrArg (List.drop a.length) h
 rw [List.drop_drop,List.drop_left] at this
 exact this
theorem encVar_pos {n : Int} (h : 0 ≤ n ∧ n ≤ 1099511627775) : 1 ≤ (encVar n).length := by
 rw [encVar,if_pos h]
 exact (varN_len _).1
/-! ### Worlds -/
theorem ints_rng {w : TWorld} (ho : worldOk w = true) : ∀ x ∈ worldInts w,0 ≤ signless x := by
 obtain ⟨hl,ht,hs,hn,hsc,hb,hbo⟩ := Ko ho
 have ht := Y3.1 ht
 have hs := Y3.1 hs
 intro x hx
 have hb : -549755813888 ≤ x ∧ x ≤ 549755813887 := by
  simp only [worldInts,List.mem_append,List.mem_cons,List.not_mem_nil,or_false,List.mem_flatMap] at hx
  rcases hx with (h | h) | ⟨b,hb,h⟩
  ·omega
  ·have := Kg ho x h; omega
  ·obtain ⟨k,hk,rfl⟩ := List.mem_iff_getElem.1 hb
   have h1 := hbo k hk
   unfold bodyAt at h1
   rw [Bool.and_eq_true] at h1
   have h2 := h1.1
   simp only [bodyM,Bool.and_eq_true,Bool.not_eq_true',Y3] at h2
   obtain ⟨hk1,ho1,hp,hvx,hvy,htl⟩ := h2
   have hpl := Zf hl (size_in (Y3.2 hk1)) hp
   have htt : (-2 ≤ w.Bodies[k].Aim ∧ w.Bodies[k].Aim ≤ 2) ∧ (0 ≤ w.Bodies[k].Life ∧ w.Bodies[k].Life ≤ 3) ∧ (0 ≤ w.Bodies[k].Timer ∧ w.Bodies[k].Timer ≤ 25) := by
    unfold tailM at htl
    split at htl
    ·simp only [Bool.and_eq_true,decide_eq_true_eq,Y3] at htl
     obtain ⟨⟨h4,h5⟩,h6⟩ := htl
     split at h6
     ·have := Y3.1 h6; omega
     ·have := Y3.1 h6; omega
    ·split at htl
     ·simp only [Bool.and_eq_true,decide_eq_true_eq,Y3] at htl; omega
     ·simp only [decide_eq_true_eq] at htl; omega
   simp only [bodyInts,List.mem_cons,List.not_mem_nil,or_false] at h
   omega
 unfold signless
 rw [if_pos hb]
 split <;> omega
theorem world_back {w : TWorld} (ho : worldOk w = true) : readWorld w.Level (worldBytes w) = some w := by
 obtain ⟨hl,ht,hs,hn,hsc,hb,hbo⟩ := Ko ho
 obtain ⟨h1,h2⟩ := worldOf_ints2 w hn.1 hn.2
 have hL : (worldInts w).length ≤ 1073741824 := by
  have := flat_length w.Bodies
  simp only [worldInts,List.length_append,List.length_cons,List.length_nil]
  omega
 have hu := unpackInts_enc (ints_rng ho) hL
 rw [worldBytes,if_pos ho]
 have := Ka (lv := w.Level) hu ⟨rfl,h2,by rw [h1]; exact ho⟩
 rw [this,h1]
/-! ### Runs -/
theorem runM_app (w : TWorld) (a b : List (List Int)) : runM w (a ++ b) = runM (runM w a) b := by rw [runM,runM,runM,List.foldl_append]
theorem runM_cons (w : TWorld) (r : List Int) (rows : List (List Int)) : runM w (r :: rows) = runM (stepW w r) rows := rfl
theorem tick_tick (w : TWorld) (row : List Int) : (tickM w row).Tick = w.Tick + 1 := by
 unfold tickM lastM
 split
 ·rfl
 ·split <;> rfl
theorem stepW_good {w : TWorld} {row : List Int} (ho : worldOk w = true) (ht : w.Tick < 100000) (hr : rowOk row w.Scores.length = true) : (stepW w row).Tick = w.Tick + 1 := by
 rw [stepW,if_pos ⟨ho,by omega,hr⟩]
 exact tick_tick w row
theorem runM_good : ∀ (rows : List (List Int)) {w : TWorld},WorIn w → worldOk w = true → w.Tick + rows.length ≤ 100000 → (∀ r ∈ rows,rowOk r w.Scores.length = true) → worldOk (runM w rows) = true ∧ (runM w rows).Tick = w.Tick + rows.length ∧ (runM w rows).Level = w.Level ∧ (runM w rows).Scores.length = w.Scores.length
 | [],w,_,ho,_,_ => ⟨ho,by simp [runM],rfl,rfl⟩
 | r :: rows,w,iw,ho,ht,hr => by
  simp only [List.length_cons] at ht
  have h1 := stepW_good ho (by omega) (hr r (by simp))
  have h2 := stepW_fits (w := w) (row := r) iw.1
  have h3 := runM_good rows (w := stepW w r) (step_in iw) (stepW_ok iw.1 ho) (by omega) (fun x hx => by rw [h2.2.1]; exact hr x (by simp [hx]))
  rw [runM_cons]
  refine ⟨h3.1,by rw [h3.2.1,h1,List.length_cons]; omega,by rw [h3.2.2.1,stepW_level],by rw [h3.2.2.2,h2.2.1]⟩
/-! ### The lockstep worlds -/
section
variable {l : TLevel} {n : Nat} {seed : Int} {e : Nat} {rows : List (List Int)}
noncomputable def lockW (l : TLevel) (n : Nat) (seed : Int) (rows : List (List Int)) (t : Nat) : TWorld := runM (newWorld l n seed) (rows.take t)
structure RD (l : TLevel) (n : Nat) (seed : Int) (e : Nat) (rows : List (List Int)) : Prop where
 hl : levelOk l = true
 gl : Enc.gd l
 ll : l.Rows.length ≤ 1048576
 hn : 1 ≤ n ∧ n ≤ 4
 hs : inR seed 0 65535 = true
 he : 1 ≤ e ∧ e ≤ 100
 hL : rows.length ≤ 400
 hr : ∀ r ∈ rows,rowOk r (n : Int) = true
theorem RD.new_in (h : RD l n seed e rows) : WorIn (newWorld l n seed) := by
 have h1 := Y9 h.gl h.hl h.hn h.hs
 have hn := h.hn
 exact ⟨h1,h.ll,by simp only [newWorld,List.length_replicate]; omega,by simp only [newWorld,List.length_map,List.length_range]; omega⟩
theorem RD.new_len (h : RD l n seed e rows) : (newWorld l n seed).Scores.length = n := by simp [newWorld]
theorem RD.good (h : RD l n seed e rows) (t : Nat) : worldOk (lockW l n seed rows t) = true ∧ (lockW l n seed rows t).Tick = ((rows.take t).length : Int) ∧ (lockW l n seed rows t).Level = l ∧ (lockW l n seed rows t).Scores.length = n := by
 have hlen : (rows.take t).length ≤ rows.length := by rw [List.length_take]; omega
 have hL := h.hL
 have h0 : (newWorld l n seed).Tick = 0 := rfl
 have h1 := runM_good (rows.take t) h.new_in (newWorld_ok h.hl h.hn h.hs) (by rw [h0]; omega) (fun r hr => by rw [h.new_len]; exact h.hr r (List.mem_of_mem_take hr))
 exact ⟨h1.1,by rw [lockW,h1.2.1,h0]; omega,h1.2.2.1,by rw [lockW,h1.2.2.2,h.new_len]⟩
theorem RD.in_ (h : RD l n seed e rows) (t : Nat) : WorIn (lockW l n seed rows t) := ran_in _ h.new_in
theorem lockW_zero : lockW l n seed rows 0 = newWorld l n seed := rfl
end
end
section
open Go.RowKit

theorem L_big (b : List UInt8) : Con Tryz.prog 7 [] [al b] [] (B (decide (b.length > 1048576))) := by
 have hl := Yp b
 refine Con.of Tryz.func7 J Tryz.ntmps7 J (fun E => ?_)
 refine zy (z1 J (zz (zy (z0 J (zx (Zw J J J) J (zx (Zu J J J J) J (z1 J (Qe ?_))))))));refine Q0 (Xa (F_r ?_))
 exact Xp J J (X5 [] (by decide) J J (Xk (by rw [hl]; exact decide_eq_decide.2 (by omega))))
def atM (b : List UInt8) (i : Int) : Int := if b.length = 0 then 0 else ((b.getD ((i * 5 + 1) % (b.length : Int)).toNat 0).toNat : Int)
theorem atM_rng (b : List UInt8) (i : Int) : 0 ≤ atM b i ∧ atM b i ≤ 255 := by
 unfold atM
 split
 ·omega
 ·have := (b.getD ((i * 5 + 1) % (b.length : Int)).toNat 0).toNat_lt; omega
theorem L_at (b : List UInt8) (i : Int) (hi : 0 ≤ i ∧ i ≤ 1000000) (hb : b.length ≤ 1048576) : Con Tryz.prog 10 [] [al b,ai i] [] (I (atM b i)) := by
 have hl := Yp b
 by_cases h0 : b.length = 0
 ·have f0 : decide (((els b).length : Int) = 0) = true := decide_eq_true (by omega)
  rw [atM,if_pos h0]
  refine Con.of Tryz.func10 J Tryz.ntmps10 J (fun E => ?_)
  refine zy (z1 J (zz (Qd (zy (z0 J (zx (Zw J J J) J (z9e J (by assumption) (Qe ?_))))))));refine Q0 (Qm J (zy (z1 J (zz (Xa (T_r (F_r ?_)))))))
  exact Xp J J (X5 [] (by decide) J J J)
 ·have f0 : decide (((els b).length : Int) = 0) = false := decide_eq_false (by omega)
  have hm : 0 ≤ (i * 5 + 1) % ((els b).length : Int) ∧ (i * 5 + 1) % ((els b).length : Int) < ((els b).length : Int) := ⟨Int.emod_nonneg _ (by omega),Int.emod_lt_of_pos _ (by omega)⟩
  rw [atM,if_neg h0]
  rw [hl] at hm
  have hk : ((i * 5 + 1) % (b.length : Int)).toNat < b.length := by omega
  have hy : b[((i * 5 + 1) % (b.length : Int)).toNat]? = some (b.getD ((i * 5 + 1) % (b.length : Int)).toNat 0) := by rw [List.getD_eq_getElem?_getD,List.getElem?_eq_getElem hk]; rfl
  have he := byte_at hy
  rw [Int.toNat_natCast,← hl] at he
  rw [← hl] at hm ⊢
  generalize b.getD ((i * 5 + 1) % ((els b).length : Int)).toNat 0 = y at he ⊢
  have hy1 : (y.toNat : Int) ≤ 255 := by have := y.toNat_lt; omega
  have hy0 : 0 ≤ (y.toNat : Int) := by omega
  refine Con.of Tryz.func10 J Tryz.ntmps10 J (fun E => ?_)
  refine zy (z1 J (zz (Qd (zy (z0 J (zx (Zw J J J) J (z9e J (by assumption) (Qe ?_))))))));refine Q0 (Ql J (Qh (Q0 (zy (z0 J (z0 J (zx (Z3 J J J J (by omega)) J (z7 J (by omega) (z0 J (zx (Zw J J J) J ?_))))))))));refine zx (Z6 J J J J (by omega)) J (zx (Q2 J J J J (by omega) (by assumption) J) J (zx (Z0 J J J J) J (zx (Zp J J J J (Kp (by omega))) J (z1 J (zz (Xa (F_r ?_)))))))
  exact Xp J J (X5 [] (by decide) J J J)
theorem plRows_ok (b : List UInt8) : (plRows b).length ≤ 96 ∧ ∀ r ∈ plRows b,r.length = plN b ∧ ∀ x ∈ r,0 ≤ x ∧ x ≤ 15 := by
 have h1 := Ye (b := b) (n := 24) (c := (sdD b).2) (by omega)
 have h2 := rowsC_len (b := b) (n := plN b) (c := (belowC b 24 (sdD b).2).2) (belowC b 24 (sdD b).2).1.toNat
 refine ⟨?_,fun r hr => rowsC_all _ r hr⟩
 show (rowsC b (plN b) _ _).1.length ≤ 96
 omega
theorem play_rd (b : List UInt8) {e : Nat} (he : 1 ≤ e ∧ e ≤ 100) : RD (lvD b).1 (plN b) (sdD b).1 e (plRows b) := by
 have hl := lvD_ok b
 have hn := nD_rng b
 have hs := sdD_rng b
 have hr := plRows_ok b
 refine ⟨hl.1,hl.2.1,by omega,by unfold plN; omega,Y3.2 (by omega),he,by omega,fun r hm => ?_⟩
 obtain ⟨h1,h2⟩ := hr.2 r hm
 have h3 : inOk r = true := List.all_eq_true.2 fun x hx => Y3.2 (h2 x hx)
 simp only [rowOk,h1,h3,Bool.and_true,decide_eq_true_eq,Bool.and_eq_true,and_true]
theorem gd_rows {rows : List (List Int)} {n : Nat} (hL : rows.length ≤ 1000) (hn : n ≤ 1000) (h : ∀ r ∈ rows,r.length = n ∧ ∀ x ∈ r,0 ≤ x ∧ x ≤ 15) : Enc.gd rows := by
 refine ⟨by omega,fun r hr => ?_⟩
 obtain ⟨h1,h2⟩ := h r hr
 exact ⟨by omega,fun x hx => by have := h2 x hx; exact ⟨by omega,by omega⟩⟩
/-! ### Lockstep worlds -/
section
variable {l : TLevel} {n : Nat} {seed : Int} {e : Nat} {rows : List (List Int)}
theorem lock_step {t : Nat} {r : List Int} (h : rows[t]? = some r) : stepW (lockW l n seed rows t) r = lockW l n seed rows (t + 1) := by
 rw [lockW,lockW,List.take_add_one,h,Option.toList_some,runM_app]
 rfl
end
end
section
open Go.RowKit

def zeroB (b : UInt8) : Bool := b == 0
def someB (b : UInt8) : Bool := !(b == 0)
def packZ (l : List UInt8) : List UInt8 := match l with
 | [] => []
 | x :: r => encVar (((x :: r).takeWhile zeroB).length : Nat) ++ (encVar ((((x :: r).dropWhile zeroB).takeWhile someB).length : Nat) ++ ((x :: r).dropWhile zeroB).takeWhile someB) ++ packZ (((x :: r).dropWhile zeroB).dropWhile someB)
termination_by l.length
decreasing_by
 by_cases h : zeroB x = true
 ·rw [List.dropWhile_cons,if_pos h]
  have h1 := (List.dropWhile_sublist someB (l := r.dropWhile zeroB)).length_le
  have h2 := (List.dropWhile_sublist zeroB (l := r)).length_le
  simp only [List.length_cons]; omega
 ·rw [List.dropWhile_cons,if_neg h,List.dropWhile_cons,if_pos (by simpa [zeroB,someB] using h)]
  have h1 := (List.dropWhile_sublist someB (l := r)).length_le
  simp only [List.length_cons]; omega
theorem packZ_ne (x : UInt8) (r : List UInt8) : ¬ (((x :: r).takeWhile zeroB).length = 0 ∧ (((x :: r).dropWhile zeroB).takeWhile someB).length = 0) := by
 intro ⟨h1,h2⟩
 by_cases h : zeroB x = true
 ·rw [List.takeWhile_cons,if_pos h] at h1; simp at h1
 ·rw [List.dropWhile_cons,if_neg h,List.takeWhile_cons,if_pos (by simpa [zeroB,someB] using h)] at h2; simp at h2
def uzGo (s : ByteArray) (strict : Bool) : Nat → Nat → List UInt8 → Option (List UInt8)
 | 0,pos,out => if pos < s.size then none else some out
 | f + 1,pos,out => if pos < s.size then (match decVar s pos with
  | none => none
  | some (n,j) => match unpackText s ((pos : Int) + (j : Int)) with
   | none => none
   | some (t,k) => if (20000 : Int) - out.length < n + t.size then none else if strict = true ∧ n = 0 ∧ t.size = 0 then none else uzGo s strict f (pos + j + k) (out ++ List.replicate n.toNat 0 ++ t.data.toList)) else some out
def unpackZ (strict : Bool) (s : ByteArray) : Option ByteArray := match uzGo s strict s.size 0 [] with
 | none => none
 | some out => if bs (packZ out) = s then some (bs out) else none
theorem unpackText_enc {s : ByteArray} {p : Nat} {t r : List UInt8} (hL : s.size ≤ 1099511627775) (hs : s.data.toList.drop p = (encVar (t.length : Nat) ++ t) ++ r) : unpackText s p = some (bs t,(encVar (t.length : Nat)).length + t.length) := by
 have e : s.data.toList.length = s.size := by simp
 have hlen : (s.data.toList.drop p).length = ((encVar (t.length : Nat) ++ t) ++ r).length := by rw [hs]
 simp only [List.length_drop,List.length_append] at hlen
 rw [List.append_assoc] at hs
 by_cases ht : (t.length : Int) ≤ 1099511627775
 ·have h1 := Yl (by omega) ht hs
  have hne : 1 ≤ (encVar (t.length : Nat)).length := by rw [encVar,if_pos ⟨by omega,ht⟩]; exact (varN_len _).1
  rw [unpackText,h1]
  have hp : p + (encVar (t.length : Nat)).length + t.length ≤ s.size := by omega
  simp only
  rw [if_neg (by omega)]
  congr 2
  have hd : s.data.toList.drop (p + (encVar (t.length : Nat)).length) = t ++ r := by
   have := congrArg (List.drop (encVar (t.length : Nat)).length) hs
   rwa [List.drop_drop,List.drop_left] at this
  rw [show ((p : Int) + ((encVar (t.length : Nat)).length : Nat)).toNat = p + (encVar (t.length : Nat)).length by omega,show ((p : Int) + ((encVar (t.length : Nat)).length : Nat) + ((t.length : Nat) : Int)).toNat = p + (encVar (t.length : Nat)).length + t.length by omega,extract_bytes,bytesL,hd,List.take_left]
 ·omega
theorem uz_mono (s : ByteArray) : ∀ (f pos : Nat) (out r : List UInt8),uzGo s true f pos out = some r → uzGo s false f pos out = some r
 | 0,pos,out,r,h => h
 | f + 1,pos,out,r,h => by
  rw [uzGo] at h ⊢
  by_cases hp : pos < s.size
  ·rw [if_pos hp] at h ⊢
   cases hd : decVar s pos with
   | none => rw [hd] at h; cases h
   | some x =>
    obtain ⟨n,j⟩ := x
    rw [hd] at h
    simp only at h ⊢
    cases hu : unpackText s ((pos : Int) + (j : Int)) with
    | none => rw [hu] at h; cases h
    | some y =>
     obtain ⟨t,k⟩ := y
     rw [hu] at h
     simp only at h ⊢
     split at h
     ·cases h
     ·rename_i hb
      rw [if_neg hb,if_neg (by simp)]
      split at h
      ·cases h
      ·exact uz_mono s f _ _ _ h
  ·rw [if_neg hp] at h ⊢; exact h
theorem uz_canon (s : ByteArray) (hL : s.size ≤ 1099511627775) : ∀ (f pos : Nat) (out l : List UInt8),l.length ≤ 1099511627775 → s.data.toList.drop pos = packZ l → uzGo s true f pos out = uzGo s false f pos out
 | 0,pos,out,l,_,h => rfl
 | f + 1,pos,out,l,hl,h => by
  rw [uzGo,uzGo]
  by_cases hp : pos < s.size
  ·rw [if_pos hp,if_pos hp]
   have e : s.data.toList.length = s.size := by simp
   cases l with
   | nil =>
    rw [packZ] at h
    have := congrArg List.length h
    simp only [List.length_drop,List.length_nil] at this
    omega
   | cons x r =>
    have hne := packZ_ne x r
    rw [packZ,List.append_assoc] at h
    have hl1 := (List.takeWhile_sublist zeroB (l := x :: r)).length_le
    have hl2 := (List.dropWhile_sublist someB (l := (x :: r).dropWhile zeroB)).length_le
    have hl3 := (List.dropWhile_sublist zeroB (l := x :: r)).length_le
    generalize ((x :: r).takeWhile zeroB).length = z at h hne hl1
    generalize ((x :: r).dropWhile zeroB).takeWhile someB = t at h hne
    generalize ((x :: r).dropWhile zeroB).dropWhile someB = q at h hl2
    have hlen : (s.data.toList.drop pos).length = (encVar (z : Nat) ++ ((encVar (t.length : Nat) ++ t) ++ packZ q)).length := by rw [h]
    by_cases hz : (z : Int) ≤ 1099511627775
    ·have h1 := Yl (s := s) (p := pos) (n := (z : Int)) (by omega) hz h
     have hd : s.data.toList.drop (pos + (encVar (z : Nat)).length) = (encVar (t.length : Nat) ++ t) ++ packZ q := by
      have := congrArg (List.drop (encVar (z : Nat)).length) h
      rwa [List.drop_drop,List.drop_left] at this
     have h2 := unpackText_enc hL hd
     have hd2 : s.data.toList.drop (pos + (encVar (z : Nat)).length + ((encVar (t.length : Nat)).length + t.length)) = packZ q := by
      have := congrArg (List.drop (encVar (t.length : Nat) ++ t).length) hd
      rw [List.drop_drop,List.drop_left,List.length_append] at this
      exact this
     rw [h1]
     simp only
     rw [show (pos : Int) + ((encVar (z : Nat)).length : Nat) = ((pos + (encVar (z : Nat)).length : Nat) : Int) by omega,h2]
     simp only
     split
     ·rfl
     ·rw [if_neg (by rw [Yg]; intro ⟨_,h3,h4⟩; exact hne ⟨by omega,h4⟩),if_neg (by simp)]
      exact uz_canon s hL f _ _ q (by omega) hd2
    ·omega
  ·rw [if_neg hp,if_neg hp]
theorem uz_len (s : ByteArray) (b : Bool) : ∀ (f pos : Nat) (out r : List UInt8),out.length ≤ 20000 → uzGo s b f pos out = some r → r.length ≤ 20000
 | 0,pos,out,r,hl,h => by
  rw [uzGo] at h
  split at h
  ·cases h
  ·cases h; exact hl
 | f + 1,pos,out,r,hl,h => by
  rw [uzGo] at h
  by_cases hp : pos < s.size
  ·rw [if_pos hp] at h
   cases hd : decVar s pos with
   | none => rw [hd] at h; cases h
   | some x =>
    obtain ⟨n,j⟩ := x
    rw [hd] at h
    simp only at h
    have hn := Ym hd
    cases hu : unpackText s ((pos : Int) + (j : Int)) with
    | none => rw [hu] at h; cases h
    | some y =>
     obtain ⟨t,k⟩ := y
     rw [hu] at h
     simp only at h
     split at h
     ·cases h
     ·rename_i hb
      split at h
      ·cases h
      ·have e : t.data.toList.length = t.size := by simp
       exact uz_len s b f _ _ _ (by simp only [List.length_append,List.length_replicate]; omega) h
  ·rw [if_neg hp] at h; cases h; exact hl
theorem unpackZ_eq (s : ByteArray) (hL : s.size ≤ 1099511627775) : unpackZ true s = unpackZ false s := by
 unfold unpackZ
 cases h : uzGo s false s.size 0 [] with
 | none =>
  cases h2 : uzGo s true s.size 0 [] with
  | none => rfl
  | some r => rw [uz_mono s _ _ _ _ h2] at h; cases h
 | some r =>
  by_cases hr : bs (packZ r) = s
  ·have hc := uz_canon s hL s.size 0 [] r (by have := uz_len s false _ _ _ _ (by simp) h; omega) (by rw [List.drop_zero,← hr,Yf])
   rw [hc,h]
  ·simp only [if_neg hr]
   cases h2 : uzGo s true s.size 0 [] with
   | none => rfl
   | some r' =>
    have := uz_mono s _ _ _ _ h2
    rw [h] at this
    cases this
    simp only [if_neg hr]
theorem tw_gen {q : UInt8 → Bool} : ∀ {xs : List UInt8} {n : Nat},(∀ j,j < n → ∃ y,xs[j]? = some y ∧ q y = true) → (∀ y,xs[n]? = some y → q y = false) → xs.takeWhile q = xs.take n ∧ xs.dropWhile q = xs.drop n
 | [],n,_,_ => by simp
 | x :: xs,0,_,h2 => by
  have := h2 x (by simp)
  rw [List.takeWhile_cons,List.dropWhile_cons,this]
  simp
 | x :: xs,n + 1,h1,h2 => by
  obtain ⟨y,hy,hq⟩ := h1 0 (by omega)
  simp at hy
  subst hy
  obtain ⟨a,b⟩ := tw_gen (q := q) (xs := xs) (n := n) (fun j hj => by have := h1 (j + 1) (by omega); simpa using this) (fun y hy => h2 y (by simpa using hy))
  rw [List.takeWhile_cons,List.dropWhile_cons,hq]
  simp [a,b]
theorem byte_some {s : ByteArray} {a j : Nat} {b : UInt8} (h : (s.data.toList.drop a)[j]? = some b) : a + j < s.size ∧ byteAt s (a + j) = (b.toNat : Int) := by
 rw [List.getElem?_drop] at h
 have hl := (List.getElem?_eq_some_iff.1 h).1
 have e : s.data.toList.length = s.size := by simp
 obtain ⟨b',h1,h2⟩ := byteAt_list (s := s) (i := a + j) (by omega)
 rw [h] at h1
 cases h1
 exact ⟨by omega,h2⟩
theorem zero_iff {b : UInt8} : zeroB b = true ↔ (b.toNat : Int) = 0 := by
 simp only [zeroB,beq_iff_eq]
 constructor
 ·intro h; subst h; rfl
 ·intro h; exact UInt8.toNat_inj.1 (by simpa using h)
theorem text_list (t : ByteArray) : (packText t).data.toList = encVar (t.size : Nat) ++ t.data.toList := by simp [packText,ByteArray.append,bs]
theorem packZ_step {s : ByteArray} {a m i : Nat} (h1 : a ≤ m) (h2 : m ≤ i) (h3 : i ≤ s.size) (hlt : a < i) (hz : ∀ j,a ≤ j → j < m → byteAt s j = 0) (hm : m < s.size → byteAt s m ≠ 0) (hn : ∀ j,m ≤ j → j < i → byteAt s j ≠ 0) (hi : i < s.size → byteAt s i = 0) :
  packZ (s.data.toList.drop a) = encVar ((m - a : Nat) : Int) ++ (packText (s.extract m i)).data.toList ++ packZ (s.data.toList.drop i) := by
 have e : s.data.toList.length = s.size := by simp
 have ht1 := tw_gen (q := zeroB) (xs := s.data.toList.drop a) (n := m - a) (fun j hj => by
  obtain ⟨y,hy⟩ : ∃ y,(s.data.toList.drop a)[j]? = some y := ⟨_,List.getElem?_eq_getElem (by simp; omega)⟩
  exact ⟨y,hy,zero_iff.2 (by rw [← (byte_some hy).2]; exact hz _ (by omega) (by omega))⟩) (fun y hy => by
  have := byte_some hy
  rw [show a + (m - a) = m by omega] at this
  rw [← Bool.not_eq_true,zero_iff,← this.2]
  exact hm this.1)
 rw [List.drop_drop,show a + (m - a) = m by omega] at ht1
 have ht2 := tw_gen (q := someB) (xs := s.data.toList.drop m) (n := i - m) (fun j hj => by
  obtain ⟨y,hy⟩ : ∃ y,(s.data.toList.drop m)[j]? = some y := ⟨_,List.getElem?_eq_getElem (by simp; omega)⟩
  refine ⟨y,hy,?_⟩
  have h4 : ¬ zeroB y = true := by rw [zero_iff,← (byte_some hy).2]; exact hn _ (by omega) (by omega)
  simpa [zeroB,someB] using h4) (fun y hy => by
  have := byte_some hy
  rw [show m + (i - m) = i by omega] at this
  have h4 : zeroB y = true := by rw [zero_iff,← this.2]; exact hi this.1
  simpa [zeroB,someB] using h4)
 rw [List.drop_drop,show m + (i - m) = i by omega] at ht2
 have hne : s.data.toList.drop a ≠ [] := by
  intro h
  have := congrArg List.length h
  simp only [List.length_drop,List.length_nil] at this
  omega
 have hx : (s.extract m i).data.toList = (s.data.toList.drop m).take (i - m) := extract_list s m i
 have hsz : (s.extract m i).size = i - m := by rw [ByteArray.size_extract]; omega
 rw [text_list,hx,hsz]
 cases hd : s.data.toList.drop a with
 | nil => exact absurd hd hne
 | cons x r =>
  rw [packZ,← hd,ht1.1,ht1.2,ht2.1,ht2.2,List.length_take,List.length_take,List.length_drop,List.length_drop,show min (m - a) (s.data.toList.length - a) = m - a by omega,show min (i - m) (s.data.toList.length - m) = i - m by omega]
theorem packZ_nil : packZ [] = [] := by rw [packZ]
end
section
open Go.RowKit

def zeroS (k : Nat) : ByteArray := ⟨Array.replicate k 0⟩
theorem zeroS_list (k : Nat) : (zeroS k).data.toList = List.replicate k 0 := by simp [zeroS]
theorem zeroS_size (k : Nat) : (zeroS k).size = k := by simp [zeroS,ByteArray.size]
theorem zeroS_cells (k : Nat) : (byteCells (zeroS k)).toArray = Builtin.zeroCells #[.int .u8 0] k := by
 apply Array.ext'
 apply List.ext_getElem
 ·simp [byteCells,zeroS,Builtin.zeroCells]
 ·intro i h1 h2
  simp [byteCells,zeroS,Builtin.zeroCells,Nat.mod_one]
theorem append_zeros_run {P : Program} (w : World) (t tn ts ty e : TypeId) (i : TypeInfo) {kn : IntKind} (ht : P.underlying t = some (.slice e)) (htn : P.underlying tn = some (.int kn)) (hts : P.underlying ts = some .string) (hi : P.info? e = some i) {z : Value} (hz : i.zero = some z) (hzc : z.cells = #[.int .u8 0]) (hsz : i.size = 1) (hb : i.bytes = 1)
  (base : Option Addr) (sLen sCap k : Nat) (hcap : sLen ≤ sCap) (hk : sLen + k ≤ 140737488355328) :
  (Builtin.append_ #[t,tn] ty #[.slice base sLen sCap,.int .i64 k]).run P w = (Builtin.append_ #[t,ts] ty #[.slice base sLen sCap,.string (zeroS k)]).run P w := by
 have hs := Src.ofString (P := P) w hts (zeroS k)
 have hc := zeroS_cells k
 rw [zeroS_size] at hs
 obtain ⟨_,hl,hcells,hcellsD,_,_⟩ := hs
 have hcA : ∀ w' : World,(Builtin.firstCells 1 k (.string (zeroS k))).run P w' = .ok (byteCells (zeroS k)).toArray w' := fun w' => by
  have := firstCells_string (P := P) (zeroS k) w'
  rwa [zeroS_size] at this
 have hw : IntKind.i64.wrap (k : Int) = k := by rw [IntKind.wrap_i64]; omega
 have hw0 : IntKind.i64.wrap (0 : Int) = 0 := by rw [IntKind.wrap_i64]; omega
 have hneg : ¬ ((k : Int) < 0) := by omega
 have h48i : ¬ (281474976710656 < (k : Int)) := by omega
 have h63' : ¬ (9223372036854775807 < ((sLen : Int) + (k : Int))) := by omega
 by_cases hroom : sLen + k ≤ sCap
 ·by_cases h0 : k = 0
  ·subst h0
   have hc0 : (byteCells (zeroS 0)).toArray = #[] := rfl
   simp [Builtin.append_,run_underlying ht,run_underlying htn,run_underlying hts,Go.sizeOf,typeInfo,zeroValue,hi,hz,hsz,hb,asInt,asIntOf,hw0,hl,hcA,hc0] at hroom ⊢
   simp [hroom]
  ·simp [Builtin.append_,run_underlying ht,run_underlying htn,run_underlying hts,Go.sizeOf,typeInfo,zeroValue,hi,hz,hsz,hb,asInt,asIntOf,hw,hneg,h0,h48i,hl,hroom,hcA,hc,hzc]
 ·by_cases h0 : k = 0
  ·omega
  ·have hfit := growslice_fits (need := sLen + k) (old := sCap) (bytes := 1) (by omega) (by omega)
   have h48' : ¬ (281474976710656 < Builtin.nextslicecap (sLen + k) sCap) := by omega
   simp [h48',Builtin.append_,run_underlying ht,run_underlying htn,run_underlying hts,Go.sizeOf,typeInfo,zeroValue,hi,hz,hsz,hb,asInt,asIntOf,hw,hneg,h0,h48i,h63',hl,hroom,hcA,hc,hzc]
theorem append_zs {P : Program} {w : World} {t tn ts ty e : TypeId} {kn : IntKind} [hm : TyMake P t e [.int .u8 0] 1] [hn : TyInt P tn kn] [hts : TyStr P ts] {es : List (List T)} {v : Value} {fp : List Nat} (hw : OW w (.sl 1 es) v fp) (k : Nat) (hk : es.length + k ≤ 140737488355328) :
  (Builtin.append_ #[t,tn] ty #[v,.int .i64 k]).run P w = (Builtin.append_ #[t,ts] ty #[v,.string (zeroS k)]).run P w := by
 obtain ⟨i,hi,hzz⟩ := Option.map_eq_some_iff.1 hm.info
 simp only [Prod.mk.injEq] at hzz
 obtain ⟨hz1,hs,hb1⟩ := hzz
 obtain ⟨z,hz2,hz3⟩ := Option.map_eq_some_iff.1 hz1
 have hzc : z.cells = #[.int .u8 0] := Array.ext' hz3
 rcases hw.open_ with ⟨rfl,rfl,rfl⟩ | ⟨b,o,c,tid,cur,fz,val,fps,rfl,_,_,_,hc,_⟩
 ·exact append_zeros_run w t tn ts ty e i hm.slice hn.int hts.str hi hz2 hzc hs hb1 none 0 0 k (Nat.le_refl _) (by simpa using hk)
 ·exact append_zeros_run w t tn ts ty e i hm.slice hn.int hts.str hi hz2 hzc hs hb1 _ es.length c k hc hk
section
variable {P : Program} {E : Env} {ops : Array Oper} {rest : List Oper} {o : Oper} {QQ : Exit → St → Prop} {st : St} {t : TypeId} {y z : Operand} {qs : List Nat}
theorem L_appz {p : Nat} {tn : TypeId} (ts : TypeId) {kn : IntKind} {k : Nat} {es : List (List T)} {e : TypeId} [hm : TyMake P t e [.int .u8 0] 1] [hn : TyInt P tn kn] [hts : TyStr P ts] (ho : o.op = .call { callee := .builtin .append,args := #[y,z],argTypes := #[t,tn] }) (hg : o.guard = none) (hy : st.ev y = .o (.c (.ref p))) (hp : st.objs[p]? = some (.row 1 es)) (hz : st.ev z = .o (.c (.rd qs (.v (.int .i64 (k : Int))))))
  (hb : es.length + k ≤ 140737488355328)
  (hd : dstOk st.n o.dst = true) (h : AL P E ops QQ rest ⟨st.n,setT (st.tmps.map fun e => (e.1,e.2.kill [p])) o.dst (.o (.c (.ref p))),(st.objs.map (Ob.kill [p])).set p (.row 1 (es ++ bE (List.replicate k 0)))⟩) : AL P E ops QQ (o :: rest) st := by
 refine ⟨fun a w ⟨H,F,h1,h2⟩ => ?_⟩
 obtain ⟨v,fp,e1,e2⟩ := h1.ow hp
 obtain ⟨x',fp',e3⟩ := h1.v1 hy
 rw [e1] at e3
 simp only [Pc.ow.injEq] at e3
 obtain ⟨_,hv,_⟩ := e3
 have hnd := h1.ok.nodup p
 rw [e1] at hnd
 have hlen : (bE (zeroS k).data.toList).length = k := by rw [Yc,zeroS_list,List.length_replicate]
 obtain ⟨v',w',fp'',hr,h3,h4,h5,h6⟩ := append_src (P := P) (o := o) (t := t) (kk := 1) e2 hnd rfl (by simp) (bE_src (tx := ts) (zeroS k)) (bE_plain _) (bE_one _) (by rw [hlen]; omega) (by rw [hlen]; omega)
 rw [← append_zs (tn := tn) e2 k hb] at hr
 rw [zeroS_list] at h3
 obtain ⟨hok,htn⟩ := h1.ok.turn (p := p) (fp := fp) (by rw [e1]; rfl) h6 (.ow (.sl 1 (es ++ bE (List.replicate k 0))) v' fp'') h3 h4 trivial h5
 obtain ⟨hplt,_⟩ := List.getElem?_eq_some_iff.1 hp
 have hR := h1.turn htn hok ((st.objs.map (Ob.kill [p])).set p (.row 1 (es ++ bE (List.replicate k 0)))) (fun q hq => ?_) (fun q hq => ?_)
 ·have hR2 := hR.put (x := .o (.c (.ref p))) o.dst hd (v := v') ⟨_,_,Hs.put_self _ _ _⟩
  refine wpList_step fun K hK => ?_
  rw [if_pos (by unfold Region.wanted; rw [hg])]
  unfold Oper.wp
  rw [Yu ho (by rw [← hv,h1.plain hz]; exact hr)]
  exact hK _ _ (h.h _ _ ⟨_,F,hR2,h2.turn htn⟩)
 ·have hqp : q ≠ p := by simpa using hq
  rw [List.getD_eq_getElem?_getD,List.getElem?_set_ne (Ne.symm hqp),List.getElem?_map,List.getD_eq_getElem?_getD]
  cases st.objs[q]? <;> rfl
 ·have hqp : q = p := by simpa using hq
  subst hqp
  rw [Yx (x := .row 1 (es ++ bE (List.replicate k 0))) (by simp [hplt])]
  exact ⟨_,_,Hs.put_self _ _ _⟩
theorem M_appz {n d p : Nat} {ts' : List (Nat × V)} {obs : List Ob} {tn : TypeId} (ts : TypeId) {kn : IntKind} {k : Nat} {es : List (List T)} {e : TypeId} [hm : TyMake P t e [.int .u8 0] 1] [hn : TyInt P tn kn] [hts : TyStr P ts] (ho : o.op = .call { callee := .builtin .append,args := #[y,z],argTypes := #[t,tn] }) (hg : o.guard = none) (hy : St.ev ⟨n,ts',obs⟩ y = .o (.c (.ref p))) (hp : obs[p]? = some (.row 1 es)) (hz : St.ev ⟨n,ts',obs⟩ z = .o (.c (.rd qs (.v (.int .i64 (k : Int))))))
  (hd : o.dst = some d) (hl : Nat.blt d n = true) (hb : es.length + k ≤ 140737488355328)
  (h : AL P E ops QQ rest ⟨n,(d,.o (.c (.ref p))) :: (ts'.map fun e => (e.1,e.2.kill [p])),(obs.map (Ob.kill [p])).set p (.row 1 (es ++ bE (List.replicate k 0)))⟩) : AL P E ops QQ (o :: rest) ⟨n,ts',obs⟩ :=
 L_appz (st := ⟨n,ts',obs⟩) ts ho hg hy hp hz hb (by rw [hd]; exact hl) (by rw [hd]; exact h)
end
end
end Go.Proofs.YtbfhboakafjjgaaGreat
