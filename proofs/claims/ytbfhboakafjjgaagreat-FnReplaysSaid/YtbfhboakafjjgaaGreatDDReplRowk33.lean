/-
  StepWorld of the program.
  Conditions: lists of at most 2^20 elements.
-/
import Derived.Test.YtbfhboakafjjgaaGreatDDReplRowk32
set_option linter.unusedSimpArgs false
set_option linter.unusedVariables false
set_option maxRecDepth 8000
set_option maxHeartbeats 8000000
namespace Go.Proofs.YtbfhboakafjjgaaGreat
section
open Go.RowKit

theorem step_T {w : TWorld} {row : List Int} (h : worldOk w = true ∧ w.Tick ≠ 100000 ∧ rowOk row w.Scores.length = true) : stepW w row = tickM w row := by rw [stepW,if_pos h]
theorem step_F {w : TWorld} {row : List Int} (h : ¬ (worldOk w = true ∧ w.Tick ≠ 100000 ∧ rowOk row w.Scores.length = true)) : stepW w row = w := by rw [stepW,if_neg h]
theorem last_1 {l : TLevel} {tick seed : Int} {ss : List Int} {bs : List TBody} (h : tick % 16 ≠ 0 ∨ (spotsM l).length = 0 ∨ 24 ≤ bs.length) : lastM l tick seed ss bs = ⟨l,tick,seed,ss,bs⟩ := by rw [lastM,if_pos h]
theorem last_2 {l : TLevel} {tick seed : Int} {ss : List Int} {bs : List TBody} {x y : Int} (h : ¬ (tick % 16 ≠ 0 ∨ (spotsM l).length = 0 ∨ 24 ≤ bs.length)) (hs : spotOf l seed = [x,y]) (hi : itemAt bs x y = true) : lastM l tick seed ss bs = ⟨l,tick,nextR seed,ss,bs⟩ := by
 rw [lastM,if_neg h,hs]
 exact if_pos hi
theorem last_3 {l : TLevel} {tick seed : Int} {ss : List Int} {bs : List TBody} {x y : Int} (h : ¬ (tick % 16 ≠ 0 ∨ (spotsM l).length = 0 ∨ 24 ≤ bs.length)) (hs : spotOf l seed = [x,y]) (hi : itemAt bs x y = false) : lastM l tick seed ss bs = ⟨l,tick,nextR seed,ss,bs ++ [itemB x y]⟩ := by
 rw [lastM,if_neg h,hs]
 exact if_neg (by show ¬ itemAt bs x y = true; rw [hi]; simp)
theorem at_hit {bs : List TBody} {x y : Int} {k : Nat} {b : TBody} (hb : bs[k]? = some b) (h : b.Kind = 2 ∧ b.X = x ∧ b.Y = y) : itemAt bs x y = true := by
 rw [itemAt,List.any_eq_true]
 exact ⟨b,List.mem_of_getElem? hb,decide_eq_true h⟩
theorem at_go {bs : List TBody} {x y : Int} {k : Nat} {b : TBody} (hb : bs[k]? = some b) (h : ¬ (b.Kind = 2 ∧ b.X = x ∧ b.Y = y)) (hi : itemAt (bs.take k) x y = false) : itemAt (bs.take (k + 1)) x y = false := by
 obtain ⟨hk,rfl⟩ := List.getElem?_eq_some_iff.1 hb
 rw [List.take_succ_eq_append_getElem hk,itemAt,List.any_append,← itemAt,hi]
 simp only [List.any_cons,List.any_nil,Bool.or_false,Bool.false_or]
 exact decide_eq_false h
theorem rwS2 {a b : Ob} {t : List Ob} {k : Nat} {x y : List (List T)} (h : x = y) : a :: b :: Ob.row k x :: t = a :: b :: Ob.row k y :: t := by rw [h]
theorem I_StepWorld (w : TWorld) (row : List Int) (hg : Enc.gd w) (gr : Enc.gd row) (h1 : w.Level.Rows.length ≤ 1048576) (h2 : w.Scores.length ≤ 1048576) (h3 : w.Bodies.length ≤ 1048576) : Con Tryz.prog 76 [] [ag w,al row] [.row 1 (els w.Level.Rows),.row 1 (els (stepW w row).Scores),.row 9 (els (stepW w row).Bodies)] (.o (.ag [.ref 0,jn (stepW w row).Tick,jn (stepW w row).Seed,.ref 1,.ref 2])) := by
 have hls := Yp w.Scores
 have hlb := Yp w.Bodies
 have c1 := I_copyWorld w hg h1 h2 h3
 have c2 := I_WorldOk w hg
 have c3 := I_rowOk row ((els w.Scores).length : Int) gr
 rw [show rowOk row ((els w.Scores).length : Int) = rowOk row (w.Scores.length : Int) by rw [hls]] at c3
 cases ho : worldOk w with
 | false =>
  rw [step_F (fun q => by rw [ho] at q; cases q.1)]
  rw [ho] at c2
  refine Con.of Tryz.func76 J Tryz.ntmps76 J (fun E => ?_)
  refine zy (M1 (Qq J J J J) J J (M1 (Qx J J J) J J (zz (zy (z4 J J J ?_)))));refine M1 (Zo J J (c1) J J J) J J ?_;refine M1 (Qx J J J) J J ?_;refine Qy J J J J J J J J J (zz (Qd (zy (z4 J J J ?_))));refine zx (Qj J J (c2) J) J ?_;refine zn J (z0 J (z6 J (z6 J (z6 J (zpT J (z0 J (z6 J (z6 J (z6 J (z6 J (z6 J ?_)))))))))));refine z6 J (zpT J (zz (Qm J (zy (z4 J J J ?_)))));refine Qy J J J J J J J J J (zz (Xa (T_r (F_r ?_))))
  exact Xm J J J J (X5 [2,3,4] (by decide) J J J)
 | true =>
 rw [ho] at c2
 by_cases ht : w.Tick = 100000
 ·have f1 : decide (w.Tick = 100000) = true := decide_eq_true ht
  rw [step_F (fun q => q.2.1 ht)]
  refine Con.of Tryz.func76 J Tryz.ntmps76 J (fun E => ?_)
  refine zy (M1 (Qq J J J J) J J (M1 (Qx J J J) J J (zz (zy (z4 J J J ?_)))));refine M1 (Zo J J (c1) J J J) J J ?_;refine M1 (Qx J J J) J J ?_;refine Qy J J J J J J J J J (zz (Qd (zy (z4 J J J ?_))));refine zx (Qj J J (c2) J) J ?_;refine zn J (z0 J (z5 J (z2 J J J (z5 J (z3 J (z5 J (z9e J (by assumption) (zpF J (z0 J (z6 J (z6 J ?_)))))))))));refine z6 J (z6 J (z6 J (z6 J (zpT J (zz (Qm J (zy (z4 J J J ?_))))))));refine Qy J J J J J J J J J (zz (Xa (T_r (F_r ?_))))
  exact Xm J J J J (X5 [2,3,4] (by decide) J J J)
 have f1 : decide (w.Tick = 100000) = false := decide_eq_false ht
 cases hr : rowOk row (w.Scores.length : Int) with
 | false =>
  rw [step_F (fun q => by rw [hr] at q; cases q.2.2)]
  rw [hr] at c3
  refine Con.of Tryz.func76 J Tryz.ntmps76 J (fun E => ?_)
  refine zy (M1 (Qq J J J J) J J (M1 (Qx J J J) J J (zz (zy (z4 J J J ?_)))));refine M1 (Zo J J (c1) J J J) J J ?_;refine M1 (Qx J J J) J J ?_;refine Qy J J J J J J J J J (zz (Qd (zy (z4 J J J ?_))));refine zx (Qj J J (c2) J) J ?_;refine zn J (z0 J (z5 J (z2 J J J (z5 J (z3 J (z5 J (z9e J (by assumption) (zpF J (z0 J (z5 J (z0 J ?_)))))))))));refine z5 J (z2 J J J (z5 J (z3 J (z5 J (zx (Zw J J J) J (z5 J ?_))))));refine zx (Qj J J (c3) J) J ?_;refine z5 J (zn J (zpF J (zz (Qm J (zy (z4 J J J ?_))))));refine Qy J J J J J J J J J (zz (Xa (T_r (F_r ?_))))
  exact Xm J J J J (X5 [2,3,4] (by decide) J J J)
 | true =>
 rw [hr] at c3
 rw [step_T ⟨ho,ht,hr⟩]
 have hP := PH.of hg ho hr
 have hsr := Kg ho
 have hM := hits_lm hP.mv rfl hsr
 have hSh := SI.shots hP.mv rfl hsr
 have hSI := (SI.start hP.mv rfl hsr).all ((movedM w row).drop w.Scores.length) ((movedM w row).drop w.Scores.length).length
 have hEq := hits_eq hP.mv rfl hsr
 obtain ⟨hl,htk,hsd,hn,_,hlen,hbo⟩ := Ko ho
 have htk := Y3.1 htk
 have hsd := Y3.1 hsd
 have d1 := I_stepPlayers w row hP
 have d2 := I_stepMoves ⟨w.Level,w.Tick,w.Seed,w.Scores,plM w.Level row w.Bodies w.Scores.length⟩ hg.1 hl hP.pl.lm hP.pl.tm
 have d3 := I_stepShots ⟨w.Level,w.Tick,w.Seed,w.Scores,movedM w row⟩ hg.1 hl hn hP.mv hsr
 have hsl := hSI.sl
 have hsc := hSI.sc
 simp only at d2 d3
 obtain ⟨s3,hs3⟩ : ∃ s3,s3 = (shS w.Scores.length ((movedM w row).drop w.Scores.length) (movedM w row,w.Scores) ((movedM w row).drop w.Scores.length).length).2 := ⟨_,rfl⟩
 obtain ⟨b3,hb3⟩ : ∃ b3,b3 = (shS w.Scores.length ((movedM w row).drop w.Scores.length) (movedM w row,w.Scores) ((movedM w row).drop w.Scores.length).length).1.take w.Scores.length ++ shL w.Scores.length ((movedM w row).drop w.Scores.length) (movedM w row,w.Scores) ((movedM w row).drop w.Scores.length).length := ⟨_,rfl⟩
 have hP2 : hitsP w.Scores.length (movedM w row) w.Scores = (b3.take w.Scores.length ++ itL w.Scores.length b3 (b3.drop w.Scores.length) (b3.drop w.Scores.length).length,itS w.Scores.length b3 (b3.drop w.Scores.length) s3 (b3.drop w.Scores.length).length) := by rw [hitsP,hs3,hb3]
 rw [← hs3] at d3 hsl hsc
 rw [← hb3] at d3 hSh
 have d4 := I_stepItems ⟨w.Level,w.Tick,w.Seed,s3,b3⟩ hg.1 hl (by simp only; omega) (by simp only; rw [hsl]; exact hSh) hsc
 simp only at d4
 rw [hsl] at d4
 obtain ⟨s4,hs4⟩ : ∃ s4,s4 = itS w.Scores.length b3 (b3.drop w.Scores.length) s3 (b3.drop w.Scores.length).length := ⟨_,rfl⟩
 obtain ⟨b4,hb4⟩ : ∃ b4,b4 = b3.take w.Scores.length ++ itL w.Scores.length b3 (b3.drop w.Scores.length) (b3.drop w.Scores.length).length := ⟨_,rfl⟩
 rw [← hs4,← hb4] at d4
 rw [← hs4,← hb4,hEq] at hP2
 rw [tickM,hP2]
 rw [hP2] at hM
 obtain ⟨hM1,hM2,hM3⟩ := hM
 simp only at hM1 hM2 hM3
 have e1 := I_NextRandom w.Seed ⟨by omega,by omega⟩
 have e2 := I_SpotsOf w.Level hg.1 hl
 have hlb4 := Yp b4
 have hbl := hM1.len
 have hlsp := Yp (spotsM w.Level)
 have hsl2 := spots_len hl
 have hnr := Za w.Seed
 clear hEq hP2 hSI hSh hb4 hs4 hb3 hs3 hbo hsl hsc
 refine Con.of Tryz.func76 J Tryz.ntmps76 J (fun E => ?_)
 refine zy (M1 (Qq J J J J) J J (M1 (Qx J J J) J J (zz (zy (z4 J J J ?_)))));refine M1 (Zo J J (c1) J J J) J J ?_;refine M1 (Qx J J J) J J ?_;refine Qy J J J J J J J J J (zz (Qd (zy (z4 J J J ?_))));refine zx (Qj J J (c2) J) J ?_;refine zn J (z0 J (z5 J (z2 J J J (z5 J (z3 J (z5 J (z9e J (by assumption) (zpF J (z0 J (z5 J (z0 J ?_)))))))))));refine z5 J (z2 J J J (z5 J (z3 J (z5 J (zx (Zw J J J) J (z5 J ?_))))));refine zx (Qj J J (c3) J) J ?_;refine z5 J (zn J (zpF J (zz (Ql J (Qh (Q0 (zy (z0 J ?_))))))));refine AL.weak (st' := (⟨_,[(1,L row),(4,.o (.c (.ptr 4 0))),(5,.o (.c (.ptr 0 0))),(32,L row)],[.box [.ref 1,jn w.Tick,jn w.Seed,.ref 2,.ref 3],.row 1 (els w.Level.Rows),.row 1 (els w.Scores),.row 9 (els w.Bodies),.box [nilV,jn 0,jn 0,nilV,nilV]]⟩ : St)) (W_gj [5,2,3,4,1] (by kernel_rfl)) ?_
 clear c1 c2 c3 f1
 refine Xd (lo := [_,_,_,_]) (gs := [(0,.c (.ptr 0 0))]) (lo' := [_,_,_,_]) (new := []) [0,1,2,3] [(0,0,.ptr 0 0)] (d1) J J J J J J J J J J J J J J J J J ?_;refine zz (zy ?_);refine AL.weak (st' := (⟨_,[(1,L row),(4,.o (.c (.ptr 4 0))),(5,.o (.c (.ptr 0 0)))],[.box [.ref 1,jn w.Tick,jn w.Seed,.ref 2,.ref 3],.row 1 (els w.Level.Rows),.row 1 (els w.Scores),.row 9 (els (plM w.Level row w.Bodies w.Scores.length)),.box [nilV,jn 0,jn 0,nilV,nilV]]⟩ : St)) (W_gj [0,1,2,3,4] (by kernel_rfl)) ?_
 clear d1
 refine Xd (lo := [_,_,_,_]) (gs := [(0,.c (.ptr 0 0))]) (lo' := [_,_,_,_]) (new := []) [0,1,2,3] [(0,0,.ptr 0 0)] (d2) J J J J J J J J J J J J J J J J J ?_;refine zz (zy ?_);refine AL.weak (st' := (⟨_,[(1,L row),(4,.o (.c (.ptr 4 0))),(5,.o (.c (.ptr 0 0)))],[.box [.ref 1,jn w.Tick,jn w.Seed,.ref 2,.ref 3],.row 1 (els w.Level.Rows),.row 1 (els w.Scores),.row 9 (els (movedM w row)),.box [nilV,jn 0,jn 0,nilV,nilV]]⟩ : St)) (W_gj [0,1,2,3,4] (by kernel_rfl)) ?_
 clear d2
 refine Xd (lo := [_,_,_,_]) (gs := [(0,.c (.ptr 0 0))]) (lo' := [_,_,_,_]) (new := []) [0,1,2,3] [(0,0,.ptr 0 0)] (d3) J J J J J J J J J J J J J J J J J ?_;refine zz (zy ?_);refine AL.weak (st' := (⟨_,[(1,L row),(4,.o (.c (.ptr 4 0))),(5,.o (.c (.ptr 0 0)))],[.box [.ref 1,jn w.Tick,jn w.Seed,.ref 2,.ref 3],.row 1 (els w.Level.Rows),.row 1 (els s3),.row 9 (els b3),.box [nilV,jn 0,jn 0,nilV,nilV]]⟩ : St)) (W_gj [0,1,2,3,4] (by kernel_rfl)) ?_
 clear d3
 refine Xd (lo := [_,_,_,_]) (gs := [(0,.c (.ptr 0 0))]) (lo' := [_,_,_,_]) (new := []) [0,1,2,3] [(0,0,.ptr 0 0)] (d4) J J J J J J J J J J J J J J J J J ?_;refine zz (zy (z2 J J J (z3 J (z7 J (by omega) (z2 J J J ?_)))));refine Q5 J J J J J J J J (zz (zy (z2 J J J (z3 J ?_))));refine AL.weak (st' := (⟨_,[(1,L row),(4,.o (.c (.ptr 4 0))),(5,.o (.c (.ptr 0 0))),(42,I w.Seed)],[.box [.ref 1,jn (w.Tick + 1),jn w.Seed,.ref 2,.ref 3],.row 1 (els w.Level.Rows),.row 1 (els s4),.row 9 (els b4),.box [nilV,jn 0,jn 0,nilV,nilV]]⟩ : St)) (W_gj [0,1,2,3,4] (by kernel_rfl)) ?_
 clear d4
 refine zx (Qj J J (e1) J) J ?_;refine z2 J J J ?_;refine Q5 J J J J J J J J (zz (zy (z2 J J J (z4 J J J ?_))));refine AL.weak (st' := (⟨_,[(1,L row),(4,.o (.c (.ptr 4 0))),(5,.o (.c (.ptr 0 0))),(46,.o (.ag [.ref 1]))],[.box [.ref 1,jn (w.Tick + 1),jn (nextR w.Seed),.ref 2,.ref 3],.row 1 (els w.Level.Rows),.row 1 (els s4),.row 9 (els b4),.box [nilV,jn 0,jn 0,nilV,nilV]]⟩ : St)) (W_gj [0,1,2,3,4] (by kernel_rfl)) ?_
 clear e1
 obtain ⟨sd,hsd2⟩ : ∃ sd,sd = nextR w.Seed := ⟨_,rfl⟩
 rw [← hsd2] at hnr
 rw [← hsd2]
 by_cases q1 : (w.Tick + 1) % 16 ≠ 0
 ·have g1 : decide ((w.Tick + 1) % 16 ≠ 0) = true := decide_eq_true q1
  rw [last_1 (.inl q1)]
  refine M1 (Zo J J (e2) J J J) J J ?_;refine z1 J (zz (Qd (zy (z2 J J J (z3 J (zx (Z6 J J J J (by omega)) J (z9f J (by assumption) (z0 J (z6 J ?_)))))))));refine z6 J (z6 J (zpT J (z0 J (z6 J (z6 J (z6 J (z6 J (zpT J (zz (Qm J ?_))))))))));refine zy (z4 J J J ?_);refine Qy J J J J J J J J J (zz (Xa (T_r (F_r ?_))))
  exact Xm J J J J (X5 [1,2,3] (by decide) J J J)
 have g1 : decide ((w.Tick + 1) % 16 ≠ 0) = false := decide_eq_false q1
 by_cases q2 : (spotsM w.Level).length = 0
 ·have g2 : decide (((els (spotsM w.Level)).length : Int) = 0) = true := decide_eq_true (by omega)
  rw [last_1 (.inr (.inl q2))]
  refine M1 (Zo J J (e2) J J J) J J ?_;refine z1 J (zz (Qd (zy (z2 J J J (z3 J (zx (Z6 J J J J (by omega)) J (z9f J (by assumption) (z0 J (z5 J ?_)))))))));refine z0 J (z5 J (zx (Zx J J J J) J (z5 J (z9e J (by assumption) (zpF J (z0 J (z6 J (z6 J (z6 J (z6 J (zpT J ?_)))))))))));refine zz (Qm J (zy (z4 J J J ?_)));refine Qy J J J J J J J J J (zz (Xa (T_r (F_r ?_))))
  exact Xm J J J J (X5 [1,2,3] (by decide) J J J)
 have g2 : decide (((els (spotsM w.Level)).length : Int) = 0) = false := decide_eq_false (by omega)
 by_cases q3 : 24 ≤ b4.length
 ·have g3 : decide (((els b4).length : Int) ≥ 24) = true := decide_eq_true (by omega)
  rw [last_1 (.inr (.inr q3))]
  refine M1 (Zo J J (e2) J J J) J J ?_;refine z1 J (zz (Qd (zy (z2 J J J (z3 J (zx (Z6 J J J J (by omega)) J (z9f J (by assumption) (z0 J (z5 J ?_)))))))));refine z0 J (z5 J (zx (Zx J J J J) J (z5 J (z9e J (by assumption) (zpF J (z0 J (z5 J (z2 J J J (z5 J (z3 J (z5 J ?_)))))))))));refine zx (Zx J J J J) J (z5 J (z9d J (by assumption) (zpF J (zz (Qm J (zy (z4 J J J ?_)))))));refine Qy J J J J J J J J J (zz (Xa (T_r (F_r ?_))))
  exact Xm J J J J (X5 [1,2,3] (by decide) J J J)
 have g3 : decide (((els b4).length : Int) ≥ 24) = false := decide_eq_false (by omega)
 have q : ¬ ((w.Tick + 1) % 16 ≠ 0 ∨ (spotsM w.Level).length = 0 ∨ 24 ≤ b4.length) := fun h => h.elim q1 fun h => h.elim q2 q3
 obtain ⟨i,hi1,hi2,hi3⟩ := spotOf_mem (seed := sd) q2
 obtain ⟨x,y,hxy,hx,hy⟩ := spot_rng hl (List.mem_of_getElem? hi3)
 have e3 := I_RandomBelow sd ((els (spotsM w.Level)).length : Int) hnr ⟨by omega,by omega⟩
 rw [show belowR sd ((els (spotsM w.Level)).length : Int) = i by rw [hlsp]; exact hi1] at e3
 have hsp : (els (spotsM w.Level))[(i : Int).toNat]? = some (Enc.e [x,y]) := Yr (by rw [hi3,hxy])
 refine M1 (Zo J J (e2) J J J) J J ?_;refine z1 J (zz (Qd (zy (z2 J J J (z3 J (zx (Z6 J J J J (by omega)) J (z9f J (by assumption) (z0 J (z5 J ?_)))))))));refine z0 J (z5 J (zx (Zx J J J J) J (z5 J (z9e J (by assumption) (zpF J (z0 J (z5 J (z2 J J J (z5 J (z3 J (z5 J ?_)))))))))));refine zx (Zx J J J J) J (z5 J (z9d J (by assumption) (zpF J (zz (Ql J (Qh (Q0 (zy (z2 J J J ?_)))))))));refine z3 J (z0 J (zx (Zx J J J J) J ?_));refine M1 (Zo J J (e3) J J J) J J ?_;refine zx (Q8 J J J) J (ze J (ze J (z1 J (z1 J (zz (zy (z0 J (z2 J J J ?_))))))));refine Q5 J J J J J J J J (zz (zy (z0 J (z0 J (zx (Q3 J J J J J (by omega) (by omega)) J (zx (Q7 J J J J (by assumption) J) J ?_))))));refine AL.weak (st' := (⟨_,[(4,.o (.c (.ptr 4 0))),(5,.o (.c (.ptr 0 0))),(6,.o (.c (.ref 5))),(8,I (i : Int)),(77,.o (.c (.rd [5] (.sl 1 (els [x,y])))))],[.box [.ref 1,jn (w.Tick + 1),jn (nextR sd),.ref 2,.ref 3],.row 1 (els w.Level.Rows),.row 1 (els s4),.row 9 (els b4),.box [nilV,jn 0,jn 0,nilV,nilV],.row 1 (els (spotsM w.Level))]⟩ : St)) (W_gj [0,1,2,3,4,5] (by kernel_rfl)) ?_
 clear e2 e3 g1 g2 g3
 have hx0 : (els [x,y])[(0 : Int).toNat]? = some (Enc.e x) := rfl
 have hy0 : (els [x,y])[(1 : Int).toNat]? = some (Enc.e y) := rfl
 refine zx (Q2 J J J J (by omega) (by assumption) J) J (zx (Z0 J J J J) J (z1 J (zz (zy (z0 J (z0 J (zx (Q3 J J J J J (by omega) (by omega)) J (zx (Q7 J J J J (by assumption) J) J (zx (Q2 J J J J (by omega) (by assumption) J) J ?_)))))))));refine zx (Z0 J J J J) J (z1 J (zz (Qd (zy (z2 J J J (z3 J (zx (Zx J J J J) J (z0 J (Qe ?_)))))))));refine Q0 (Qk ?_);refine A_lq (fun m st => ∃ k : Nat,k + m = b4.length ∧ (itemAt (b4.take k) x y = false) ∧ st = (⟨_,[(4,.o (.c (.ptr 4 0))),(5,.o (.c (.ptr 0 0))),(9,I x),(10,I y),(87,.o (.c (.ref 3))),(88,I (els b4).length),(89,I k)],[.box [.ref 1,jn (w.Tick + 1),jn (nextR sd),.ref 2,.ref 3],.row 1 (els w.Level.Rows),.row 1 (els s4),.row 9 (els b4),.box [nilV,jn 0,jn 0,nilV,nilV]]⟩ : St)) (b4.length) ⟨_,⟨0,by omega,J,J⟩,W_gj [0,1,2,3,4] (by kernel_rfl)⟩ ?_
 rintro m_A _ ⟨k,hk_A,hp_A,rfl⟩
 by_cases hlt : k < b4.length
 ·have hb0 : decide ((k : Int) < (els b4).length) = true := decide_eq_true (by omega)
  obtain ⟨b,hb⟩ := Kk hlt
  refine zy (z9a J (by assumption) (zz (Qd (Qm J (Qh (Q0 (Qd (Qk (Qd ?_)))))))));refine Qc (zx (Q3 J J J J J (by omega) (by omega)) J ?_)
  have he := Yr hb
  with_reducible refine Xf ?_
  refine zx (Q6 J J J J (by assumption) J J) J ?_
  with_reducible refine K_alloc ?_
  refine M1 (Qx J J J) J J ?_
  with_reducible refine Xe ?_
  refine Qy J J J J J J J J J (zz ?_)
  refine AWP.pre (st' := (⟨_,[(4,.o (.c (.ptr 4 0))),(5,.o (.c (.ptr 0 0))),(9,I x),(10,I y),(87,.o (.c (.ref 3))),(88,I (els b4).length),(89,I k),(12,.o (.c (.ptr 5 0)))],[.box [.ref 1,jn (w.Tick + 1),jn (nextR sd),.ref 2,.ref 3],.row 1 (els w.Level.Rows),.row 1 (els s4),.row 9 (els b4),.box [nilV,jn 0,jn 0,nilV,nilV],.box ((Enc.e b).map (V1.rd []))]⟩ : St)) ?_ (W_gj [0,1,2,3,4,5] (by kernel_rfl))
  clear he
  by_cases k1 : b.Kind = 2
  case neg =>
   have p1 : decide (b.Kind = 2) = false := decide_eq_false k1
   refine zy (z2 J J J (z3 J (z9e J (by assumption) (z0 J (z6 J (z6 J (z6 J (z6 J (zpF J (z0 J ?_))))))))));refine z6 J (z6 J (z6 J (z6 J (zpF J (zz (Ql J (Qh (Q1 (Q0 (Qc ?_))))))))));refine z7 J (by omega) (z0 J (zz ?_))
   exact ⟨b4.length - (k + 1),by omega,_,⟨k + 1,by omega,at_go hb (fun h => k1 h.1) hp_A,J⟩,W_gj [0,1,2,3,4] (by kernel_rfl)⟩
  have p1 : decide (b.Kind = 2) = true := decide_eq_true k1
  by_cases k2 : b.X = x
  case neg =>
   have p2 : decide (b.X = x) = false := decide_eq_false k2
   refine zy (z2 J J J (z3 J (z9e J (by assumption) (z0 J (z5 J (z2 J J J (z5 J (z3 J (z5 J (z0 J ?_))))))))));refine z5 J (z9e J (by assumption) (zpT J (z0 J (z6 J (z6 J (z6 J (z6 J (zpF J (zz (Ql J ?_))))))))));refine Qh (Q1 (Q0 (Qc (z7 J (by omega) (z0 J (zz ?_))))))
   exact ⟨b4.length - (k + 1),by omega,_,⟨k + 1,by omega,at_go hb (fun h => k2 h.2.1) hp_A,J⟩,W_gj [0,1,2,3,4] (by kernel_rfl)⟩
  have p2 : decide (b.X = x) = true := decide_eq_true k2
  by_cases k3 : b.Y = y
  case neg =>
   have p3 : decide (b.Y = y) = false := decide_eq_false k3
   refine zy (z2 J J J (z3 J (z9e J (by assumption) (z0 J (z5 J (z2 J J J (z5 J (z3 J (z5 J (z0 J ?_))))))))));refine z5 J (z9e J (by assumption) (zpT J (z0 J (z5 J (z2 J J J (z5 J (z3 J (z5 J (z0 J (z5 J (z9e J (by assumption) ?_)))))))))));refine zpT J (zz (Ql J (Qh (Q1 (Q0 (Qc (z7 J (by omega) (z0 J (zz ?_)))))))))
   exact ⟨b4.length - (k + 1),by omega,_,⟨k + 1,by omega,at_go hb (fun h => k3 h.2.2) hp_A,J⟩,W_gj [0,1,2,3,4] (by kernel_rfl)⟩
  have p3 : decide (b.Y = y) = true := decide_eq_true k3
  rw [last_2 q hxy (at_hit hb ⟨k1,k2,k3⟩)]
  refine zy (z2 J J J (z3 J (z9e J (by assumption) (z0 J (z5 J (z2 J J J (z5 J (z3 J (z5 J (z0 J ?_))))))))));refine z5 J (z9e J (by assumption) (zpT J (z0 J (z5 J (z2 J J J (z5 J (z3 J (z5 J (z0 J (z5 J (z9e J (by assumption) ?_)))))))))));refine zpT J (zz (Qm J (zy (z4 J J J ?_))));refine Qy J J J J J J J J J (zz (Xa (B_r (T_r (T_r (B_r (T_r (F_r ?_))))))))
  exact Xm J J J J (X5 [1,2,3] (by decide) J J J)
 ·have hb0 : decide ((k : Int) < (els b4).length) = false := decide_eq_false (by omega)
  have hk : k = b4.length := by omega
  rw [hk,List.take_length] at hp_A
  rw [last_3 q hxy hp_A]
  refine zy (z9a J (by assumption) (zz (Qd (Ql J (Q9 (T_x (T_x (Xl (Q0 ?_)))))))));refine zy (z2 J J J (z3 J (z0 J (z0 J (zx (Zl J J J J J) J (M1 (Zj J J J J J J) J J ?_))))));refine Xy J J J J J J J J J J J J J J (by omega) (by omega) ?_;refine z2 J J J ?_;refine Q5 J J J J J J J J (zz (zy (z4 J J J ?_)));refine Qy J J J J J J J J J (zz (Xa (F_r ?_)))
  exact Xm J J J J (X5 [1,2,3] (by decide) J (by exact rwS2 (by rw [Yn]; rfl)) J)
end
end Go.Proofs.YtbfhboakafjjgaaGreat
