/-
  Parts of the proof (rules, data, and what functions of the program and of the reference return), among them: ReadWorld of the program; ReadWorld of the reference.
  Conditions: those that each theorem names.
-/
import Derived.Test.YtbfhboakafjjgaaGreatDDAddsRowk8
import Derived.Test.YtbfhboakafjjgaaGreatDDAddsRowk10
import Derived.Test.YtbfhboakafjjgaaGreatDDAddsRowk11
set_option linter.unusedSimpArgs false
set_option linter.unusedVariables false
set_option maxRecDepth 8000
set_option maxHeartbeats 8000000
namespace Go.Proofs.YtbfhboakafjjgaaGreat
section
open Go.RowKit

theorem mv_two {l : TLevel} {b : TBody} (h : b.Kind = 2) : mvOne l b = some b := by rw [mvOne,if_neg (by omega),if_neg (by omega)]
theorem mv_dead {l : TLevel} {b : TBody} (h : b.Kind = 0) (h1 : b.Life = 0) : mvOne l b = some b := by rw [mvOne,if_neg (by omega),if_neg (by omega)]
theorem at_pl {l : TLevel} {n : Nat} {bs : List TBody} (h : LM l n bs) (x y : Int) : itemAt (bs.take n) x y = false := by
 rw [itemAt,List.any_eq_false]
 intro b hb
 obtain ⟨j,hj⟩ := List.getElem?_of_mem hb
 rw [List.getElem?_take] at hj
 split at hj
 ·have := (h.at_ j b hj).2.2 (by assumption)
  simp only [isItem,decide_eq_true_eq]
  omega
 ·cases hj
theorem S_l02Step (w : TWorld) (row : List Int) (hg : Enc.gd w) (ho : worldOk w = true) (ht : w.Tick ≠ 100000) (hr : rowOk row w.Scores.length = true) : Con Tryz.prog 51 [.box [.ref 1,jn w.Tick,jn w.Seed,.ref 2,.ref 3],.row 1 (els w.Level.Rows),.row 1 (els w.Scores),.row 9 (els w.Bodies),.gh 0 (.c (.ptr 0 0))] [.c (.ptr 0 0),al row] [.box [.ref 1,jn (tickM w row).Tick,jn (tickM w row).Seed,.ref 2,.ref 3],.row 1 (els w.Level.Rows),.row 1 (els (tickM w row).Scores),.row 9 (els (tickM w row).Bodies),.gh 0 (.c (.ptr 0 0))] (.tu []) := by
 have hP := PH.of hg ho hr
 have hsr := scores_rng ho
 have hM := hits_lm hP.mv rfl hsr
 obtain ⟨hl,htk,hsd,hn,_,_,_⟩ := Ky ho
 have htk := Y3.1 htk
 have hsd := Y3.1 hsd
 have d1 := S_l02Hits ⟨w.Level,w.Tick,w.Seed,w.Scores,movedM w row⟩ hg.1 hl hn hP.mv hsr
 simp only at d1
 obtain ⟨s4,hs4⟩ : ∃ s4,s4 = (hitsR w.Scores.length (movedM w row) w.Scores).2 := ⟨_,rfl⟩
 obtain ⟨b4,hb4⟩ : ∃ b4,b4 = (hitsR w.Scores.length (movedM w row) w.Scores).1 := ⟨_,rfl⟩
 rw [← hs4,← hb4] at d1 hM
 rw [tickM,← hs4,← hb4]
 obtain ⟨hM1,hM2,hM3⟩ := hM
 have e1 := S_NextRandom w.Seed ⟨by omega,by omega⟩
 have e2 := S_SpotsOf w.Level hg.1 hl
 have hlb4 := Yq b4
 have hbl := hM1.len
 have hlsp := Yq (spotsM w.Level)
 have hsl2 := spots_len hl
 have hnr := Zc w.Seed
 clear hs4 hb4 ho
 have hPP := hP
 obtain ⟨hgl,gb,_,hn4,hlen,hbo,hrl,hri⟩ := hP
 have hls := Yq w.Scores
 have hlr := Yq row
 refine Con.of Tryz.func51 J Tryz.ntmps51 J (fun E => ?_)
 refine zy (z0 J (zx (Qz J J J) J (z2 J J J (z3 J (zx (Z1 J J J J) J (z1 J (zz (Qd (Qd ?_)))))))));refine Qc (z1 J (zz (Qk ?_)));refine A_lq (fun m st => ∃ (k : Nat) (bs : List TBody),k + m = w.Scores.length ∧ (bs = plM w.Level row w.Bodies k) ∧ st = (⟨_,[(0,.o (.c (.ptr 0 0))),(1,L row),(4,I (els w.Scores).length),(5,I k)],[.box [.ref 1,jn w.Tick,jn w.Seed,.ref 2,.ref 3],.row 1 (els w.Level.Rows),.row 1 (els w.Scores),.row 9 (els bs),.gh 0 (.c (.ptr 0 0))]⟩ : St)) (w.Scores.length) ⟨_,⟨0,w.Bodies,by omega,J,J⟩,W_gj [0,1,2,3,4] J⟩ ?_
 rintro m_A _ ⟨k,bs,hk_A,hp_A,rfl⟩
 by_cases hlt : k < w.Scores.length
 ·have hb0 : decide ((k : Int) < (els w.Scores).length) = true := decide_eq_true (by omega)
  have hP := P1.all hl hn4.2 hlen hbo row k (by omega)
  rw [← hp_A] at hP
  have hln := hP.lm.len
  obtain ⟨b,hb⟩ := Kp (xs := bs) (i := k) (by omega)
  have hold := hP.old k (Nat.le_refl _) hlt
  have hI := old_at hbo (by rw [← hold]; exact hb) hlt
  have hB := (hP.lm.at_ k b hb).1
  obtain ⟨hpl,hpx,hpy⟩ := hB.placed hl
  obtain ⟨i,hi⟩ := Kp (xs := row) (i := k) (by omega)
  have hir := hri i (List.mem_of_getElem? hi)
  have hnx := pl_next hp_A hb hi
  have he := Ys hb
  have her := Ys hi
  have hlb := Yq bs
  have htm := hI.tm
  have hkl := Yz hb
  clear d1 e1 e2
  by_cases hf : b.Life = 0
  ·have f1 : decide (b.Life = 0) = true := decide_eq_true hf
   rw [plOne,if_pos hf] at hnx
   refine Qd (zy (z0 J (z0 J (z9a J (by assumption) (zz (Qm J (Qh (Q0 (Qd ?_)))))))));refine Qk (Qd (zy (z0 J (zx (Qz J J J) J (z2 J J J (z3 J (z0 J (zx (Q3 J J J J J (by omega) (by omega)) J (zx (Zw J J J J (by decide)) J (zx (Q7 J J J J (by assumption) J) J ?_))))))))));refine z9e J (by assumption) (zz (Qm J (zy (z0 J (zx (Qz J J J) J (z2 J J J (z3 J (z0 J (zx (Q3 J J J J J (by omega) (by omega)) J ?_)))))))));refine zx (Zw J J J J (by decide)) J (zx (Q7 J J J J (by assumption) J) J (z8 J (by omega) (zx (Q3 J J J J J (by omega) (by omega)) J (zx (Zw J J J J (by decide)) J ?_))));refine Xh J J J J J J J J J (by assumption) J J (zz (Qd (zy (z0 J (zx (Qz J J J) J (z2 J J J (z3 J (z0 J ?_))))))));refine AL.weak (st' := (⟨_,[(0,.o (.c (.ptr 0 0))),(1,L row),(4,I (els w.Scores).length),(5,I k),(50,.o (.c (.ref 3))),(51,I k)],[.box [.ref 1,jn w.Tick,jn w.Seed,.ref 2,.ref 3],.row 1 (els w.Level.Rows),.row 1 (els w.Scores),.row 9 (els (bs.set k (tick1 b))),.gh 0 (.c (.ptr 0 0))]⟩ : St)) (X8 [0,1,2,3,4] (by decide) J ((by exact rwBo (st_el0 J))) (.c J (.c J (.c J (.c J (.c J (.c J (.nil)))))))) ?_
   clear he
   have he : (els (bs.set k (tick1 b)))[(k : Int).toNat]? = some (Enc.e (tick1 b)) := Ys (by rw [List.getElem?_set_self hkl])
   have hlb2 : (els (bs.set k (tick1 b))).length = bs.length := by rw [Yq,List.length_set]
   by_cases ht : b.Timer - 1 = 0
   ·have f2 : decide (b.Timer - 1 = 0) = true := decide_eq_true ht
    rw [if_pos ht] at hnx
    have cf := S_fresh w.Level k hg.1 hl ⟨by omega,by omega⟩
    refine zx (Q3 J J J J J (by omega) (by omega)) J (zx (Zw J J J J (by decide)) J (zx (Q7 J J J J (by assumption) J) J (z9e J (by assumption) (zz (Qm J ?_)))))
    refine AWP.pre (st' := (⟨_,[(0,.o (.c (.ptr 0 0))),(1,L row),(4,I (els w.Scores).length),(5,I k)],[.box [.ref 1,jn w.Tick,jn w.Seed,.ref 2,.ref 3],.row 1 (els w.Level.Rows),.row 1 (els w.Scores),.row 9 (els (bs.set k (tick1 b))),.gh 0 (.c (.ptr 0 0))]⟩ : St)) ?_ (W_gj [0,1,2,3,4] J)
    refine Xi [[],[0],[0,1],[0,1,2],[],[],[5],[5,6],[5,6,7],[],[5,6,7,8,9],(u9 11),(u9 12)] [[],[56],[56,57],[56,57,58],[],[],[61],[61,62],[61,62,63],[],[61,62,63,64,65],[56,57,58,59,60,61,62,63,64,65,66],[56,57,58,59,60,61,62,63,64,65,66,67]] [[60,61,62,63,64,65,66],[60,61,62,63,64,65,66],[60,61,62,63,64,65,66],[60,61,62,63,64,65,66],[56,57,58,59,61,62,63,64,65,66],[56,57,58,59,60,65],[56,57,58,59,60,65],[56,57,58,59,60,65],[56,57,58,59,60,65],[56,57,58,59,60,61,62,63,64],[56,57,58,59,60],[],[]] J (DR.s (Qa J J J) J J (DR.s (Qz J J J) J J (DR.s (Qf J J J J (by decide)) J J (DR.s (Qg J J J J J) J J (DR.s (Qa J J J) J J (DR.s (Qa J J J) J J (DR.s (Qz J J J) J J (DR.s (Qf J J J J (by decide)) J J (DR.s (Qu J J J J J J) J J (DR.s (Qa J J J) J J ?_))))))))));refine DR.s (Zs J J (cf) J J J) J J ?_;refine DR.s (Q3 J J J J J (by omega) (by omega)) J J (DR.stop (by kernel_rfl) (by kernel_rfl) ?_);refine AL.weak (st' := (⟨_,[(0,.o (.c (.ptr 0 0))),(1,L row),(4,I (els w.Scores).length),(5,I k),(66,.o (.ag ((Enc.e (fresh w.Level k)).map (V1.rd [])))),(67,.o (.c (.el 3 9 k 0)))],[.box [.ref 1,jn w.Tick,jn w.Seed,.ref 2,.ref 3],.row 1 (els w.Level.Rows),.row 1 (els w.Scores),.row 9 (els (bs.set k (tick1 b))),.gh 0 (.c (.ptr 0 0))]⟩ : St)) (W_gj [0,1,2,3,4] J) ?_;refine Xg J J J J J J J J J J (by assumption) J J (zz (Q9 (T_x (Xl (Q0 (Qc (z0 J (z7 J (by omega) (z1 J (Qe ?_))))))))));refine Q0 ?_
    exact ⟨w.Scores.length - (k + 1),by omega,(fun (k : Nat) (bs : List TBody) => (⟨_,[(0,.o (.c (.ptr 0 0))),(1,L row),(4,I (els w.Scores).length),(5,I k)],[.box [.ref 1,jn w.Tick,jn w.Seed,.ref 2,.ref 3],.row 1 (els w.Level.Rows),.row 1 (els w.Scores),.row 9 (els bs),.gh 0 (.c (.ptr 0 0))]⟩ : St)) (k + 1) (bs.set k (fresh w.Level k)),⟨k + 1,bs.set k (fresh w.Level k),by omega,hnx.symm,J⟩,X8 [0,1,2,3,4] (by decide) J ((by exact rwBo (st_el J))) (.c J (.c J (.c J (.c J (.nil)))))⟩
   ·have f2 : decide (b.Timer - 1 = 0) = false := decide_eq_false ht
    rw [if_neg ht] at hnx
    refine zx (Q3 J J J J J (by omega) (by omega)) J (zx (Zw J J J J (by decide)) J (zx (Q7 J J J J (by assumption) J) J (z9e J (by assumption) (zz (Ql J (Qh (Q0 (Q9 (T_x (Xl ?_))))))))));refine Q0 (Qc (z0 J (z7 J (by omega) (z1 J (zz ?_)))))
    exact ⟨w.Scores.length - (k + 1),by omega,_,⟨k + 1,bs.set k (tick1 b),by omega,hnx.symm,J⟩,W_gj [0,1,2,3,4] J⟩
  ·have f1 : decide (b.Life = 0) = false := decide_eq_false hf
   rw [plOne,if_neg hf] at hnx
   have hfl := hB.f
   obtain ⟨c,f,hcf⟩ : ∃ c f,(c,f) = steer w.Level b i := ⟨_,_,rfl⟩
   have cs := S_l02Steer w.Level b i hg.1 hl hI.kd hir ⟨by omega,by omega⟩ hB.vy (by have := hB.p; rw [hI.kd] at this; exact this)
   have hca := steer_aim (l := w.Level) (i := i) hI.am
   have hcx : (steer w.Level b i).1.X = b.X ∧ (steer w.Level b i).1.Y = b.Y := ⟨rfl,rfl⟩
   rw [← hcf] at cs hnx hca hcx
   simp only at cs hnx hca hcx
   have csh := S_ShotOf c (by rw [hcx.1]; exact hpl.x) (by rw [hcx.2]; exact hpl.y) (by omega)
   have hlc : (els (bs.set k c)).length = bs.length := by rw [Yq,List.length_set]
   clear hcf hca hcx
   refine Qd (zy (z0 J (z0 J (z9a J (by assumption) (zz (Qm J (Qh (Q0 (Qd ?_)))))))));refine Qk (Qd (zy (z0 J (zx (Qz J J J) J (z2 J J J (z3 J (z0 J (zx (Q3 J J J J J (by omega) (by omega)) J (zx (Zw J J J J (by decide)) J (zx (Q7 J J J J (by assumption) J) J ?_))))))))));refine z9e J (by assumption) (zz (Ql J (Qh (Q0 (Qd ?_)))))
   refine AWP.pre (st' := (⟨_,[(0,.o (.c (.ptr 0 0))),(1,L row),(4,I (els w.Scores).length),(5,I k)],[.box [.ref 1,jn w.Tick,jn w.Seed,.ref 2,.ref 3],.row 1 (els w.Level.Rows),.row 1 (els w.Scores),.row 9 (els bs),.gh 0 (.c (.ptr 0 0))]⟩ : St)) ?_ (W_gj [0,1,2,3,4] J)
   refine Xi [[],[0],[0,1],[0,1,2],[],[4],[4,5],[4,5,6],[],[4,5,6,7,8],[4,5,6,7,8,9],[],[],[11,12],[11,12,13],(u9 15),(u9 16),(u9 17),(u9 17),[],[0,1,2,3,4,5,6,7,8,9,10,11,12,13,14,15,16,17,19],(u9 21)] [[],[69],[69,70],[69,70,71],[],[73],[73,74],[73,74,75],[],[73,74,75,76,77],[73,74,75,76,77,78],[],[],[80,81],[80,81,82],[69,70,71,72,73,74,75,76,77,78,79,80,81,82,83],[69,70,71,72,73,74,75,76,77,78,79,80,81,82,83,84],[68,69,70,71,72,73,74,75,76,77,78,79,80,81,82,83,84],[68,69,70,71,72,73,74,75,76,77,78,79,80,81,82,83,84],[],[6,68,69,70,71,72,73,74,75,76,77,78,79,80,81,82,83,84,85],[6,68,69,70,71,72,73,74,75,76,77,78,79,80,81,82,83,84,85,86]] [[6,73,74,75,76,77,78,79,80,81,82,83],[6,73,74,75,76,77,78,79,80,81,82,83],[6,73,74,75,76,77,78,79,80,81,82,83],[6,73,74,75,76,77,78,79,80,81,82,83],[6,69,70,71,72,77,80,81,82,83],[6,69,70,71,72,77,80,81,82,83],[6,69,70,71,72,77,80,81,82,83],[6,69,70,71,72,77,80,81,82,83],[6,69,70,71,72,73,74,75,76,80,81,82,83],[6,69,70,71,72,80,81,82,83],[6,69,70,71,72,80,81,82,83],[6,69,70,71,72,73,74,75,76,77,78,79,81],[6,69,70,71,72,73,74,75,76,77,78,79,80],[6,69,70,71,72,73,74,75,76,77,78,79],[6,69,70,71,72,73,74,75,76,77,78,79],[6],[6],[6,86],[6,85],[68,69,70,71,72,73,74,75,76,77,78,79,80,81,82,83,84,85,86],[86],[],[18]] J (DR.s (Qa J J J) J J (DR.s (Qz J J J) J J (DR.s (Qf J J J J (by decide)) J J (DR.s (Qu J J J J J J) J J (DR.s (Qa J J J) J J (DR.s (Qz J J J) J J (DR.s (Qf J J J J (by decide)) J J (DR.s (Qg J J J J J) J J (DR.s (Qa J J J) J J (DR.s (Q3 J J J J J (by omega) (by omega)) J J (DR.s (Q6 J J J J (by assumption) J J) J J ?_)))))))))));refine DR.s (Qa J J J) J J (DR.s (Qa J J J) J J (DR.s (Q2 J J J J (by omega) (by assumption) J) J J (DR.s (Z4 J J J J) J J ?_)));refine DR.s (Zs J J (cs) J J J) J J ?_;refine DR.s (Q8 J J J) J J (DR.s (Zv J J J J) J J (DR.s (Zv J J J J) J J (DR.s (Qx J J J) J J (DR.stop (by kernel_rfl) (by kernel_rfl) ?_))));refine AL.weak (st' := (⟨_,[(0,.o (.c (.ptr 0 0))),(1,L row),(4,I (els w.Scores).length),(5,I k),(6,.o (.c (.ptr 5 0))),(85,.o (.ag ((Enc.e c).map (V1.rd [])))),(86,B f)],[.box [.ref 1,jn w.Tick,jn w.Seed,.ref 2,.ref 3],.row 1 (els w.Level.Rows),.row 1 (els w.Scores),.row 9 (els bs),.gh 0 (.c (.ptr 0 0)),.box [jn 0,jn 0,jn 0,jn 0,jn 0,jn 0,jn 0,jn 0,jn 0]]⟩ : St)) (W_gj [0,1,2,3,4,5] J) ?_;refine Qy J J J J J J J J J (z1 J (zz (Qd ?_)))
   refine AWP.pre (st' := (⟨_,[(0,.o (.c (.ptr 0 0))),(1,L row),(4,I (els w.Scores).length),(5,I k),(6,.o (.c (.ptr 5 0))),(7,B f)],[.box [.ref 1,jn w.Tick,jn w.Seed,.ref 2,.ref 3],.row 1 (els w.Level.Rows),.row 1 (els w.Scores),.row 9 (els bs),.gh 0 (.c (.ptr 0 0)),.box ((Enc.e c).map (V1.rd []))]⟩ : St)) ?_ (W_gj [0,1,2,3,4,5] J)
   refine Xi u8_29 [[],[87],[87,88],[87,88,89],[],[],[87,88,89,90,91,92],[87,88,89,90,91,92,93]] [[91,92],[91,92],[91,92],[91,92],[87,88,89,90,92],[87,88,89,90,91],[],[]] J (DR.s (Qa J J J) J J (DR.s (Qz J J J) J J (DR.s (Qf J J J J (by decide)) J J (DR.s (Qg J J J J J) J J (DR.s (Qa J J J) J J (DR.s (Qu J J J J J J) J J (DR.s (Q3 J J J J J (by omega) (by omega)) J J (DR.stop (by kernel_rfl) (by kernel_rfl) ?_))))))));refine AL.weak (st' := (⟨_,[(0,.o (.c (.ptr 0 0))),(1,L row),(4,I (els w.Scores).length),(5,I k),(6,.o (.c (.ptr 5 0))),(7,B f),(92,.o (.ag ((Enc.e c).map (V1.rd [])))),(93,.o (.c (.el 3 9 k 0)))],[.box [.ref 1,jn w.Tick,jn w.Seed,.ref 2,.ref 3],.row 1 (els w.Level.Rows),.row 1 (els w.Scores),.row 9 (els bs),.gh 0 (.c (.ptr 0 0)),.box ((Enc.e c).map (V1.rd []))]⟩ : St)) (W_gj [0,1,2,3,4,5] J) ?_
   with_reducible refine Xe ?_
   refine Xg J J J J J J J J J J (by assumption) J J (zz ?_)
   refine AWP.pre (st' := (⟨_,[(0,.o (.c (.ptr 0 0))),(1,L row),(4,I (els w.Scores).length),(5,I k),(6,.o (.c (.ptr 5 0))),(7,B f)],[.box [.ref 1,jn w.Tick,jn w.Seed,.ref 2,.ref 3],.row 1 (els w.Level.Rows),.row 1 (els w.Scores),.row 9 (els (bs.set k c)),.gh 0 (.c (.ptr 0 0)),.box ((Enc.e c).map (V1.rd []))]⟩ : St)) ?_ (X8 [0,1,2,3,4,5] (by decide) J ((by exact rwBo (by rw [els_set]; rfl))) (.c J (.c J (.c J (.c J (.c J (.c J (.nil))))))))
   clear he
   cases f with
   | false =>
    refine zy (z0 J (z0 J (z6 J (z6 J (z6 J (z6 J (z6 J (z6 J (zpF J (Qe ?_))))))))));refine Q0 (Ql J (Qh (Q1 (Q0 (Qc (z0 J (z7 J (by omega) (z1 J (zz ?_)))))))))
    exact ⟨w.Scores.length - (k + 1),by omega,_,⟨k + 1,bs.set k c,by omega,(by rw [hnx]; rfl),J⟩,W_gj [0,1,2,3,4] J⟩
   | true =>
    by_cases h24 : bs.length < 24
    ·have f3 : decide (((els (bs.set k c)).length : Int) < 24) = true := decide_eq_true (by omega)
     rw [if_pos ⟨rfl,h24⟩] at hnx
     refine zy (z0 J (z0 J (z5 J (z0 J (zx (Qt.yes J J J (Qz J J J)) J (z5 J (z2 J J J (z5 J (z3 J (z5 J ?_))))))))));refine zx (Z1 J J J J) J (z5 J (z9a J (by assumption) (zpT J (zz (Qm J (Xi u8_32 [[],[],[104],[104,105],[104,105,106],[],[108],[108,109],[104,105,106,107,108,109,110],[103,104,105,106,107,108,109,110,111],[103,104,105,106,107,108,109,110,111,112],[103,104,105,106,107,108,109,110,111,112,113]] [[104,105,106,107,108,109,110,111],[103,108,109,110],[103,108,109,110],[103,108,109,110],[103,108,109,110],[103,104,105,106,107],[103,104,105,106,107],[103,104,105,106,107],[103],[],[],[],[0]] J (DR.s (Qa J J J) J J (DR.s (Qa J J J) J J (DR.s (Qz J J J) J J (DR.s (Qf J J J J (by decide)) J J ?_))))))))));refine DR.s (Qg J J J J J) J J (DR.s (Qu J J J J J J) J J ?_);refine DR.s (Zs J J (csh) J J J) J J ?_;refine DR.s (Zm J J J J J J) J J (DR.stop (by kernel_rfl) (by kernel_rfl) ?_);refine AL.weak (st' := (⟨_,[(0,.o (.c (.ptr 0 0))),(1,L row),(4,I (els w.Scores).length),(5,I k),(103,.o (.c (.ptr 0 0))),(107,.o (.c (.ref 3))),(110,.o (.c (.sb 5 1 9)))],[.box [.ref 1,jn w.Tick,jn w.Seed,.ref 2,.ref 3],.row 1 (els w.Level.Rows),.row 1 (els w.Scores),.row 9 (els (bs.set k c)),.gh 0 (.c (.ptr 0 0)),.box ((Enc.e (shotOf c)).map (V1.rd []))]⟩ : St)) (W_gj [0,1,2,3,4,6] J) ?_;refine Xy J J J J J J J J J J J J J J (by omega) (by omega) ?_;refine zx (Qz J J J) J (z2 J J J ?_);refine Q5 J J J J J J J J (Qe (Q1 (Q0 (Qc (z0 J (z7 J (by omega) (z1 J (zz ?_))))))))
     exact ⟨w.Scores.length - (k + 1),by omega,(fun (k : Nat) (bs : List TBody) => (⟨_,[(0,.o (.c (.ptr 0 0))),(1,L row),(4,I (els w.Scores).length),(5,I k)],[.box [.ref 1,jn w.Tick,jn w.Seed,.ref 2,.ref 3],.row 1 (els w.Level.Rows),.row 1 (els w.Scores),.row 9 (els bs),.gh 0 (.c (.ptr 0 0))]⟩ : St)) (k + 1) (bs.set k c ++ [shotOf c]),⟨k + 1,bs.set k c ++ [shotOf c],by omega,hnx.symm,J⟩,X8 [0,1,2,3,4] (by decide) J (rwBo (by rw [Yn]; rfl)) (.c J (.c J (.c J (.c J (.nil)))))⟩
    ·have f3 : decide (((els (bs.set k c)).length : Int) < 24) = false := decide_eq_false (by omega)
     rw [if_neg (fun q => h24 q.2)] at hnx
     refine zy (z0 J (z0 J (z5 J (z0 J (zx (Qt.yes J J J (Qz J J J)) J (z5 J (z2 J J J (z5 J (z3 J (z5 J ?_))))))))));refine zx (Z1 J J J J) J (z5 J (z9a J (by assumption) (zpT J (zz (Ql J (Qh (Q1 (Q0 (Qc (z0 J ?_))))))))));refine z7 J (by omega) (z1 J (zz ?_))
     exact ⟨w.Scores.length - (k + 1),by omega,_,⟨k + 1,bs.set k c,by omega,hnx.symm,J⟩,W_gj [0,1,2,3,4] J⟩
 have hb0 : decide ((k : Int) < (els w.Scores).length) = false := decide_eq_false (by omega)
 have hk : k = w.Scores.length := by omega
 rw [hk] at hp_A
 have hPl := hPP.pl
 rw [← hp_A] at hPl
 have hmv : movedM w row = mvM w.Level bs := by rw [movedM,hp_A]
 have hL := hPl.lm
 have htm := hPl.tm
 clear hPl hPP hp_A hbo
 have hlb := Yq bs
 have hln := hL.len
 refine Qd (zy (z0 J (z0 J (z9a J (by assumption) (zz (Ql J (Q9 (T_x (T_x ?_)))))))));refine Xl (Q0 (zy (M1 (Zn J J J) J J (z1 J (zz (Qd (zy (z1 J ?_))))))));refine zz (Qk ?_);refine A_lq (fun m st => ∃ (j : Nat) (kr : List TBody),j + m = bs.length ∧ (kr = (bs.take j).filterMap (mvOne w.Level)) ∧ st = (⟨_,[(0,.o (.c (.ptr 0 0))),(1,L row),(4,I (els w.Scores).length),(8,.o (.c (.ref 5))),(9,I j)],[.box [.ref 1,jn w.Tick,jn w.Seed,.ref 2,.ref 3],.row 1 (els w.Level.Rows),.row 1 (els w.Scores),.row 9 (els bs),.gh 0 (.c (.ptr 0 0)),.row 9 (els kr)]⟩ : St)) (bs.length) ⟨_,⟨0,[],by omega,J,J⟩,W_gj [0,1,2,3,4,5] J⟩ ?_
 rintro m_B _ ⟨j,kr,hk_B,hp_B,rfl⟩
 have hlkr := Yq kr
 have hkl := mv_len hp_B
 by_cases hlt : j < bs.length
 ·have hb0 : decide ((j : Int) < (els bs).length) = true := decide_eq_true (by omega)
  obtain ⟨b,hb⟩ := Kp hlt
  refine Qd (zy (z0 J (z0 J (zx (Qz J J J) J (z2 J J J (z3 J (zx (Z1 J J J J) J (z9a J (by assumption) (zz ?_)))))))));refine Qm J (Qh (Q0 (Qd (Qk (zy (z0 J (zx (Qz J J J) J (z2 J J J (z3 J (z0 J ?_))))))))));refine zx (Q3 J J J J J (by omega) (by omega)) J ?_
  have he := Ys hb
  with_reducible refine Xf ?_
  refine zx (Q6 J J J J (by assumption) J J) J ?_
  with_reducible refine K_alloc ?_
  refine M1 (Qx J J J) J J ?_
  with_reducible refine Xe ?_
  refine Qy J J J J J J J J J (zz ?_)
  refine AWP.pre (st' := (⟨_,[(0,.o (.c (.ptr 0 0))),(1,L row),(4,I (els w.Scores).length),(8,.o (.c (.ref 5))),(9,I j),(10,.o (.c (.ptr 6 0)))],[.box [.ref 1,jn w.Tick,jn w.Seed,.ref 2,.ref 3],.row 1 (els w.Level.Rows),.row 1 (els w.Scores),.row 9 (els bs),.gh 0 (.c (.ptr 0 0)),.row 9 (els kr),.box ((Enc.e b).map (V1.rd []))]⟩ : St)) ?_ (W_gj [0,1,2,3,4,5,6] J)
  clear he
  obtain ⟨hB,hKn⟩ := hL.at_ j b hb
  have hkd := hB.k
  have hlf := hB.f
  have ht := htm b (List.mem_of_getElem? hb)
  by_cases k2 : b.Kind = 2
  ·have f1 : decide (b.Kind = 2) = true := decide_eq_true k2
   have hm := mv_some hp_B hb (mv_two k2)
   refine Qd (zy (z2 J J J (z3 J (z9e J (by assumption) (z0 J (z6 J (z6 J (z6 J (z6 J (zx (Qt.no2 J J J) J ?_))))))))));refine zx (Qt.no2 J J J) J (zx (Qt.no2 J J J) J (z6 J (zpT J (zz (Qm J (zy (z0 J (z4 J J J (M1 (Zm J J J J J J) J J ?_)))))))));refine Xy J J J J J J J J J J J J J J (by omega) (by omega) ?_;refine z1 J (zz (Q9 (T_x (Xl (Q0 (Qc (z0 J (z7 J (by omega) (z1 J (Qe ?_))))))))));refine Q0 ?_
   exact ⟨bs.length - (j + 1),by omega,(fun (j : Nat) (kr : List TBody) => (⟨_,[(0,.o (.c (.ptr 0 0))),(1,L row),(4,I (els w.Scores).length),(8,.o (.c (.ref 5))),(9,I j)],[.box [.ref 1,jn w.Tick,jn w.Seed,.ref 2,.ref 3],.row 1 (els w.Level.Rows),.row 1 (els w.Scores),.row 9 (els bs),.gh 0 (.c (.ptr 0 0)),.row 9 (els kr)]⟩ : St)) (j + 1) (kr ++ [b]),⟨j + 1,kr ++ [b],by omega,hm,J⟩,X8 [0,1,2,3,4,5] (by decide) J (rw6 (by rw [Yn]; rfl)) (.c J (.c J (.c J (.c J (.c J (.nil))))))⟩
  have f1 : decide (b.Kind = 2) = false := decide_eq_false k2
  by_cases k0 : b.Kind = 0 ∧ b.Life = 0
  ·have f2 : decide ((j : Int) < (els w.Scores).length) = true := decide_eq_true (by have := hKn.1 k0.1; omega)
   have f3 : decide (b.Life = 0) = true := decide_eq_true k0.2
   have hm := mv_some hp_B hb (mv_dead k0.1 k0.2)
   refine Qd (zy (z2 J J J (z3 J (z9e J (by assumption) (z0 J (z5 J (z0 J (z5 J (z0 J (z5 J ?_))))))))));refine z9a J (by assumption) (z5 J (z0 J (z5 J (z2 J J J (z5 J (z3 J (z5 J (z9e J (by assumption) (z5 J (zpT J (zpF J ?_)))))))))));refine zz (Qm J (zy (z0 J (z4 J J J (M1 (Zm J J J J J J) J J ?_)))));refine Xy J J J J J J J J J J J J J J (by omega) (by omega) ?_;refine z1 J (zz (Q9 (T_x (Xl (Q0 (Qc (z0 J (z7 J (by omega) (z1 J (Qe ?_))))))))));refine Q0 ?_
   exact ⟨bs.length - (j + 1),by omega,(fun (j : Nat) (kr : List TBody) => (⟨_,[(0,.o (.c (.ptr 0 0))),(1,L row),(4,I (els w.Scores).length),(8,.o (.c (.ref 5))),(9,I j)],[.box [.ref 1,jn w.Tick,jn w.Seed,.ref 2,.ref 3],.row 1 (els w.Level.Rows),.row 1 (els w.Scores),.row 9 (els bs),.gh 0 (.c (.ptr 0 0)),.row 9 (els kr)]⟩ : St)) (j + 1) (kr ++ [b]),⟨j + 1,kr ++ [b],by omega,hm,J⟩,X8 [0,1,2,3,4,5] (by decide) J (rw6 (by rw [Yn]; rfl)) (.c J (.c J (.c J (.c J (.c J (.nil))))))⟩
  obtain ⟨c,s,hcs⟩ : ∃ c s,(c,s) = moveM w.Level b := ⟨_,_,rfl⟩
  have cm := S_l02Move w.Level b hg.1 hl hB.k hB.p hB.vx hB.vy
  have hct : (moveM w.Level b).1.Timer = b.Timer := rfl
  have ma := @mv_a w.Level b
  have mn := @mv_n w.Level b
  have ms := @mv_s w.Level b
  rw [← hcs] at cm hct ma mn ms
  simp only at cm hct ma mn ms
  clear hcs hB
  by_cases hA : b.Kind = 0
  ·have f2 : decide ((j : Int) < (els w.Scores).length) = true := decide_eq_true (by have := hKn.1 hA; omega)
   have f3 : decide (b.Life = 0) = false := decide_eq_false (fun q => k0 ⟨hA,q⟩)
   have f4 : decide (b.Kind = 1) = false := decide_eq_false (by omega)
   have hm := mv_some hp_B hb (ma ⟨hA,by have : b.Life ≠ 0 := fun q => k0 ⟨hA,q⟩; omega⟩)
   refine Qd (zy (z2 J J J (z3 J (z9e J (by assumption) (z0 J (z5 J (z0 J (z5 J (z0 J (z5 J ?_))))))))));refine z9a J (by assumption) (z5 J (z0 J (z5 J (z2 J J J (z5 J (z3 J (z5 J (z9e J (by assumption) (z5 J (zpT J (zpF J ?_)))))))))));refine zz (Ql J (Qh (Q0 (Qd ?_))))
   refine AWP.pre (st' := (⟨_,[(0,.o (.c (.ptr 0 0))),(1,L row),(4,I (els w.Scores).length),(8,.o (.c (.ref 5))),(9,I j),(10,.o (.c (.ptr 6 0)))],[.box [.ref 1,jn w.Tick,jn w.Seed,.ref 2,.ref 3],.row 1 (els w.Level.Rows),.row 1 (els w.Scores),.row 9 (els bs),.gh 0 (.c (.ptr 0 0)),.row 9 (els kr),.box ((Enc.e b).map (V1.rd []))]⟩ : St)) ?_ (W_gj [0,1,2,3,4,5,6] J)
   refine Xi u8_33 u8_36 u8_37 J (DR.s (Qa J J J) J J (DR.s (Qz J J J) J J (DR.s (Qf J J J J (by decide)) J J (DR.s (Qu J J J J J J) J J (DR.s (Qu J J J J J J) J J ?_)))));refine DR.s (Zs J J (cm) J J J) J J ?_;refine DR.s (Q8 J J J) J J (DR.s (Zv J J J J) J J (DR.s (Zv J J J J) J J (DR.s (Qx J J J) J J (DR.stop (by kernel_rfl) (by kernel_rfl) ?_))));refine AL.weak (st' := (⟨_,[(0,.o (.c (.ptr 0 0))),(1,L row),(4,I (els w.Scores).length),(8,.o (.c (.ref 5))),(9,I j),(10,.o (.c (.ptr 6 0))),(11,.o (.c (.ptr 7 0))),(155,.o (.ag ((Enc.e c).map (V1.rd [])))),(156,B s)],[.box [.ref 1,jn w.Tick,jn w.Seed,.ref 2,.ref 3],.row 1 (els w.Level.Rows),.row 1 (els w.Scores),.row 9 (els bs),.gh 0 (.c (.ptr 0 0)),.row 9 (els kr),.box ((Enc.e b).map (V1.rd [])),.box [jn 0,jn 0,jn 0,jn 0,jn 0,jn 0,jn 0,jn 0,jn 0]]⟩ : St)) (W_gj [0,1,2,3,4,5,6,7] J) ?_
   with_reducible refine Xe ?_
   refine Qy J J J J J J J J J ?_
   with_reducible refine K_assign ?_
   refine z1 J (zz ?_)
   refine AWP.pre (st' := (⟨_,[(0,.o (.c (.ptr 0 0))),(1,L row),(4,I (els w.Scores).length),(8,.o (.c (.ref 5))),(9,I j),(10,.o (.c (.ptr 6 0))),(11,.o (.c (.ptr 7 0))),(12,B s)],[.box [.ref 1,jn w.Tick,jn w.Seed,.ref 2,.ref 3],.row 1 (els w.Level.Rows),.row 1 (els w.Scores),.row 9 (els bs),.gh 0 (.c (.ptr 0 0)),.row 9 (els kr),.box ((Enc.e b).map (V1.rd [])),.box ((Enc.e c).map (V1.rd []))]⟩ : St)) ?_ (W_gj [0,1,2,3,4,5,6,7] J)
   refine Qd (zy (z2 J J J (z3 J (z9e J (by assumption) (zz (Ql J (Qh (Q0 (Qc ?_)))))))));refine z0 J (z4 J J J (M1 (Zm J J J J J J) J J ?_));refine Xy J J J J J J J J J J J J J J (by omega) (by omega) ?_;refine z1 J (Qe (Q1 (Q0 (Qc (z0 J (z7 J (by omega) (z1 J (zz ?_))))))))
   exact ⟨bs.length - (j + 1),by omega,(fun (j : Nat) (kr : List TBody) => (⟨_,[(0,.o (.c (.ptr 0 0))),(1,L row),(4,I (els w.Scores).length),(8,.o (.c (.ref 5))),(9,I j)],[.box [.ref 1,jn w.Tick,jn w.Seed,.ref 2,.ref 3],.row 1 (els w.Level.Rows),.row 1 (els w.Scores),.row 9 (els bs),.gh 0 (.c (.ptr 0 0)),.row 9 (els kr)]⟩ : St)) (j + 1) (kr ++ [c]),⟨j + 1,kr ++ [c],by omega,hm,J⟩,X8 [0,1,2,3,4,5] (by decide) J (rw6 (by rw [Yn]; rfl)) (.c J (.c J (.c J (.c J (.c J (.nil))))))⟩
  have k1 : b.Kind = 1 := by omega
  have f2 : decide ((j : Int) < (els w.Scores).length) = false := decide_eq_false (fun q => hA (hKn.2 (by omega)))
  have f4 : decide (b.Kind = 1) = true := decide_eq_true k1
  have f5 : decide (b.Kind = 0) = false := decide_eq_false hA
  refine Qd (zy (z2 J J J (z3 J (z9e J (by assumption) (z0 J (z5 J (z0 J (z5 J (z0 J (z5 J ?_))))))))));refine z9a J (by assumption) (z5 J (z0 J (z6 J (z6 J (z6 J (z5 J (zpF J (zpF J (zz (Ql J ?_))))))))));refine Qh (Q0 (Qd ?_))
  refine AWP.pre (st' := (⟨_,[(0,.o (.c (.ptr 0 0))),(1,L row),(4,I (els w.Scores).length),(8,.o (.c (.ref 5))),(9,I j),(10,.o (.c (.ptr 6 0)))],[.box [.ref 1,jn w.Tick,jn w.Seed,.ref 2,.ref 3],.row 1 (els w.Level.Rows),.row 1 (els w.Scores),.row 9 (els bs),.gh 0 (.c (.ptr 0 0)),.row 9 (els kr),.box ((Enc.e b).map (V1.rd []))]⟩ : St)) ?_ (W_gj [0,1,2,3,4,5,6] J)
  refine Xi u8_33 u8_36 u8_37 J (DR.s (Qa J J J) J J (DR.s (Qz J J J) J J (DR.s (Qf J J J J (by decide)) J J (DR.s (Qu J J J J J J) J J (DR.s (Qu J J J J J J) J J ?_)))));refine DR.s (Zs J J (cm) J J J) J J ?_;refine DR.s (Q8 J J J) J J (DR.s (Zv J J J J) J J (DR.s (Zv J J J J) J J (DR.s (Qx J J J) J J (DR.stop (by kernel_rfl) (by kernel_rfl) ?_))));refine AL.weak (st' := (⟨_,[(0,.o (.c (.ptr 0 0))),(1,L row),(4,I (els w.Scores).length),(8,.o (.c (.ref 5))),(9,I j),(10,.o (.c (.ptr 6 0))),(11,.o (.c (.ptr 7 0))),(155,.o (.ag ((Enc.e c).map (V1.rd [])))),(156,B s)],[.box [.ref 1,jn w.Tick,jn w.Seed,.ref 2,.ref 3],.row 1 (els w.Level.Rows),.row 1 (els w.Scores),.row 9 (els bs),.gh 0 (.c (.ptr 0 0)),.row 9 (els kr),.box ((Enc.e b).map (V1.rd [])),.box [jn 0,jn 0,jn 0,jn 0,jn 0,jn 0,jn 0,jn 0,jn 0]]⟩ : St)) (W_gj [0,1,2,3,4,5,6,7] J) ?_
  with_reducible refine Xe ?_
  refine Qy J J J J J J J J J ?_
  with_reducible refine K_assign ?_
  refine z1 J (zz ?_)
  refine AWP.pre (st' := (⟨_,[(0,.o (.c (.ptr 0 0))),(1,L row),(4,I (els w.Scores).length),(8,.o (.c (.ref 5))),(9,I j),(10,.o (.c (.ptr 6 0))),(11,.o (.c (.ptr 7 0))),(12,B s)],[.box [.ref 1,jn w.Tick,jn w.Seed,.ref 2,.ref 3],.row 1 (els w.Level.Rows),.row 1 (els w.Scores),.row 9 (els bs),.gh 0 (.c (.ptr 0 0)),.row 9 (els kr),.box ((Enc.e b).map (V1.rd [])),.box ((Enc.e c).map (V1.rd []))]⟩ : St)) ?_ (W_gj [0,1,2,3,4,5,6,7] J)
  rw [← hct] at ht
  cases s with
  | true =>
   have hm := mv_none hp_B hb (mn (fun q => hA q.1) k1 (.inl rfl))
   refine Qd (zy (z2 J J J (z3 J (z9e J (by assumption) (zz (Qm J (zy (z2 J J J ?_))))))));refine z3 J (z8 J (by omega) (z2 J J J ?_));refine Q5 J J J J J J J J (zz (zy (z0 J (z0 J (z6 J (z6 J (z6 J (zpT J (Qe ?_)))))))));refine Q0 (Qm J (Q9 (T_x (Xl (Q0 (Qc (z0 J (z7 J (by omega) (z1 J (zz ?_))))))))))
   exact ⟨bs.length - (j + 1),by omega,_,⟨j + 1,kr,by omega,hm,J⟩,W_gj [0,1,2,3,4,5] J⟩
  | false =>
   by_cases h1 : c.Timer - 1 = 0
   ·have f6 : decide (c.Timer - 1 = 0) = true := decide_eq_true h1
    have hm := mv_none hp_B hb (mn (fun q => hA q.1) k1 (.inr (by rw [← hct]; exact h1)))
    refine Qd (zy (z2 J J J (z3 J (z9e J (by assumption) (zz (Qm J (zy (z2 J J J ?_))))))));refine z3 J (z8 J (by omega) (z2 J J J ?_));refine Q5 J J J J J J J J (zz (zy (z0 J (z0 J (z5 J (z2 J J J (z5 J (z3 J (z5 J ?_)))))))));refine z9e J (by assumption) (zpF J (zz (Qm J (Q9 (T_x (Xl (Q0 (Qc (z0 J (z7 J (by omega) ?_))))))))));refine z1 J (zz ?_)
    exact ⟨bs.length - (j + 1),by omega,_,⟨j + 1,kr,by omega,hm,J⟩,W_gj [0,1,2,3,4,5] J⟩
   ·have f6 : decide (c.Timer - 1 = 0) = false := decide_eq_false h1
    have hm := mv_some hp_B hb (ms (fun q => hA q.1) k1 (fun q => q.elim (fun q => Bool.false_ne_true q) (fun q => h1 (by rw [hct]; exact q))))
    refine Qd (zy (z2 J J J (z3 J (z9e J (by assumption) (zz (Qm J (zy (z2 J J J ?_))))))));refine z3 J (z8 J (by omega) (z2 J J J ?_));refine Q5 J J J J J J J J (zz (zy (z0 J (z0 J (z5 J (z2 J J J (z5 J (z3 J (z5 J ?_)))))))));refine z9e J (by assumption) (zpF J (zz (Ql J (Qh (Q0 (Qc (z0 J (z4 J J J (M1 (Zm J J J J J J) J J ?_)))))))));refine Xy J J J J J J J J J J J J J J (by omega) (by omega) ?_;refine z1 J (Qe (Q1 (Q0 (Qc (z0 J (z7 J (by omega) (z1 J (zz ?_))))))))
    exact ⟨bs.length - (j + 1),by omega,(fun (j : Nat) (kr : List TBody) => (⟨_,[(0,.o (.c (.ptr 0 0))),(1,L row),(4,I (els w.Scores).length),(8,.o (.c (.ref 5))),(9,I j)],[.box [.ref 1,jn w.Tick,jn w.Seed,.ref 2,.ref 3],.row 1 (els w.Level.Rows),.row 1 (els w.Scores),.row 9 (els bs),.gh 0 (.c (.ptr 0 0)),.row 9 (els kr)]⟩ : St)) (j + 1) (kr ++ [tick1 c]),⟨j + 1,kr ++ [tick1 c],by omega,hm,J⟩,X8 [0,1,2,3,4,5] (by decide) J (rw6 (by rw [Yn]; rfl)) (.c J (.c J (.c J (.c J (.c J (.nil))))))⟩
 have hb0 : decide ((j : Int) < (els bs).length) = false := decide_eq_false (by omega)
 have hj : j = bs.length := by omega
 have hm : kr = movedM w row := by rw [hp_B,hj,List.take_length,hmv]; rfl
 subst hm
 clear hmv hL htm hp_B
 refine Qd (zy (z0 J (z0 J (zx (Qz J J J) J (z2 J J J (z3 J (zx (Z1 J J J J) J (z9a J (by assumption) (zz ?_)))))))));refine Ql J (Q9 (T_x (T_x (Xl (Q0 (zy (z0 J (z0 J (zx (Qz J J J) J (z2 J J J ?_))))))))));refine Q5 J J J J J J J J (zz (zy (z0 J ?_)));refine AL.weak (st' := (⟨_,[(0,.o (.c (.ptr 0 0))),(1,L row),(4,I (els w.Scores).length),(178,.o (.c (.ptr 0 0)))],[.box [.ref 1,jn w.Tick,jn w.Seed,.ref 2,.ref 3],.row 1 (els w.Level.Rows),.row 1 (els w.Scores),.row 9 (els (movedM w row)),.gh 0 (.c (.ptr 0 0))]⟩ : St)) (W_gj [0,1,2,5,4] J) ?_;refine Xd (lo := [_,_,_,_]) (gs := [(0,.c (.ptr 0 0))]) (lo' := [_,_,_,_]) (new := []) [0,1,2,3] [(0,0,.ptr 0 0)] (d1) J J J J J J J J J J J J J J J J J ?_;refine zz (zy (z0 J (zx (Qz J J J) J (z2 J J J (z3 J (z7 J (by omega) (zx (Qz J J J) J (z2 J J J ?_))))))));refine Q5 J J J J J J J J (zz (zy (z0 J (z0 J (zx (Qz J J J) J (z2 J J J (z3 J ?_)))))));refine AL.weak (st' := (⟨_,[(0,.o (.c (.ptr 0 0))),(1,L row),(4,I (els w.Scores).length),(187,.o (.c (.ptr 0 0))),(191,I w.Seed)],[.box [.ref 1,jn (w.Tick + 1),jn w.Seed,.ref 2,.ref 3],.row 1 (els w.Level.Rows),.row 1 (els s4),.row 9 (els b4),.gh 0 (.c (.ptr 0 0))]⟩ : St)) (W_gj [0,1,2,3,4] J) ?_
 clear d1
 refine zx (Qj J J (e1) J) J ?_;refine zx (Qz J J J) J (z2 J J J ?_);refine Q5 J J J J J J J J (zz (zy (z0 J (zx (Qz J J J) J (z2 J J J (z4 J J J ?_))))));refine AL.weak (st' := (⟨_,[(0,.o (.c (.ptr 0 0))),(1,L row),(4,I (els w.Scores).length),(198,.o (.ag [.ref 1]))],[.box [.ref 1,jn (w.Tick + 1),jn (nextR w.Seed),.ref 2,.ref 3],.row 1 (els w.Level.Rows),.row 1 (els s4),.row 9 (els b4),.gh 0 (.c (.ptr 0 0))]⟩ : St)) (W_gj [0,1,2,3,4] J) ?_
 clear e1
 obtain ⟨sd,hsd2⟩ : ∃ sd,sd = nextR w.Seed := ⟨_,rfl⟩
 rw [← hsd2] at hnr
 rw [← hsd2]
 by_cases q1 : (w.Tick + 1) % 16 ≠ 0
 ·have g1 : decide ((w.Tick + 1) % 16 ≠ 0) = true := decide_eq_true q1
  rw [last_1 (.inl q1)]
  refine M1 (Zs J J (e2) J J J) J J ?_;refine z1 J (zz (Qd (zy (z0 J (zx (Qz J J J) J (z2 J J J (z3 J (zx (Z9 J J J J (by omega)) J (z9f J (by assumption) ?_)))))))));refine z0 J (z6 J (z6 J (z6 J (zpT J (z0 J (z6 J (z6 J (z6 J (z6 J (z6 J (z6 J ?_)))))))))));refine zpT J (zz (Qm J (Xa (T_r (F_r ?_)))))
  exact Xo J (X6 [0,1,2,3,4] (by decide) J J J)
 have g1 : decide ((w.Tick + 1) % 16 ≠ 0) = false := decide_eq_false q1
 by_cases q2 : (spotsM w.Level).length = 0
 ·have g2 : decide (((els (spotsM w.Level)).length : Int) = 0) = true := decide_eq_true (by omega)
  rw [last_1 (.inr (.inl q2))]
  refine M1 (Zs J J (e2) J J J) J J ?_;refine z1 J (zz (Qd (zy (z0 J (zx (Qz J J J) J (z2 J J J (z3 J (zx (Z9 J J J J (by omega)) J (z9f J (by assumption) ?_)))))))));refine z0 J (z5 J (z0 J (z5 J (zx (Z1 J J J J) J (z5 J (z9e J (by assumption) (zpF J (z0 J (z6 J (z6 J (z6 J ?_)))))))))));refine z6 J (z6 J (z6 J (zpT J (zz (Qm J (Xa (T_r (F_r ?_))))))))
  exact Xo J (X6 [0,1,2,3,4] (by decide) J J J)
 have g2 : decide (((els (spotsM w.Level)).length : Int) = 0) = false := decide_eq_false (by omega)
 by_cases q3 : 24 ≤ b4.length
 ·have g3 : decide (((els b4).length : Int) ≥ 24) = true := decide_eq_true (by omega)
  rw [last_1 (.inr (.inr q3))]
  refine M1 (Zs J J (e2) J J J) J J ?_;refine z1 J (zz (Qd (zy (z0 J (zx (Qz J J J) J (z2 J J J (z3 J (zx (Z9 J J J J (by omega)) J (z9f J (by assumption) ?_)))))))));refine z0 J (z5 J (z0 J (z5 J (zx (Z1 J J J J) J (z5 J (z9e J (by assumption) (zpF J (z0 J (z5 J (z0 J (zx (Qt.yes J J J (Qz J J J)) J ?_)))))))))));refine z5 J (z2 J J J (z5 J (z3 J (z5 J (zx (Z1 J J J J) J (z5 J (z9d J (by assumption) (zpF J (zz (Qm J ?_))))))))));refine Xa (T_r (F_r ?_))
  exact Xo J (X6 [0,1,2,3,4] (by decide) J J J)
 have g3 : decide (((els b4).length : Int) ≥ 24) = false := decide_eq_false (by omega)
 have q : ¬ ((w.Tick + 1) % 16 ≠ 0 ∨ (spotsM w.Level).length = 0 ∨ 24 ≤ b4.length) := fun h => h.elim q1 fun h => h.elim q2 q3
 obtain ⟨i,hi1,hi2,hi3⟩ := spotOf_mem (seed := sd) q2
 obtain ⟨x,y,hxy,hx,hy⟩ := spot_rng hl (List.mem_of_getElem? hi3)
 have e3 := S_RandomBelow sd ((els (spotsM w.Level)).length : Int) hnr ⟨by omega,by omega⟩
 rw [show belowR sd ((els (spotsM w.Level)).length : Int) = i by rw [hlsp]; exact hi1] at e3
 have hsp : (els (spotsM w.Level))[(i : Int).toNat]? = some (Enc.e [x,y]) := Ys (by rw [hi3,hxy])
 have hx0 : (els [x,y])[(0 : Int).toNat]? = some (Enc.e x) := rfl
 have hy0 : (els [x,y])[(1 : Int).toNat]? = some (Enc.e y) := rfl
 refine M1 (Zs J J (e2) J J J) J J ?_;refine z1 J (zz (Qd (zy (z0 J (zx (Qz J J J) J (z2 J J J (z3 J (zx (Z9 J J J J (by omega)) J (z9f J (by assumption) ?_)))))))));refine z0 J (z5 J (z0 J (z5 J (zx (Z1 J J J J) J (z5 J (z9e J (by assumption) (zpF J (z0 J (z5 J (z0 J (zx (Qt.yes J J J (Qz J J J)) J ?_)))))))))));refine z5 J (z2 J J J (z5 J (z3 J (z5 J (zx (Z1 J J J J) J (z5 J (z9d J (by assumption) (zpF J (zz (Ql J ?_))))))))));refine Qh (Q0 (zy (z0 J (zx (Qz J J J) J (z2 J J J (z3 J (z0 J (zx (Z1 J J J J) J ?_))))))));refine M1 (Zs J J (e3) J J J) J J ?_;refine zx (Q8 J J J) J (ze J (ze J (z1 J (z1 J (zz (zy (z0 J (z0 J (zx (Qz J J J) J ?_)))))))));refine z2 J J J ?_;refine Q5 J J J J J J J J (zz (Qd (zy (z0 J (z1 J (zz (Qk ?_)))))))
 refine AWP.pre (st' := (⟨_,[(0,.o (.c (.ptr 0 0))),(4,I (els w.Scores).length),(13,.o (.c (.ref 5))),(15,I (i : Int)),(16,I (els w.Scores).length)],[.box [.ref 1,jn (w.Tick + 1),jn (nextR sd),.ref 2,.ref 3],.row 1 (els w.Level.Rows),.row 1 (els s4),.row 9 (els b4),.gh 0 (.c (.ptr 0 0)),.row 1 (els (spotsM w.Level))]⟩ : St)) ?_ (W_gj [0,1,2,3,4,5] J)
 refine A_lq (fun m st => ∃ t : Nat,t + m = (b4.length - w.Scores.length) ∧ (itemAt (b4.take (w.Scores.length + t)) x y = false) ∧ st = (⟨_,[(0,.o (.c (.ptr 0 0))),(4,I (els w.Scores).length),(13,.o (.c (.ref 5))),(15,I (i : Int)),(16,I (((els w.Scores).length + t : Nat) : Int))],[.box [.ref 1,jn (w.Tick + 1),jn (nextR sd),.ref 2,.ref 3],.row 1 (els w.Level.Rows),.row 1 (els s4),.row 9 (els b4),.gh 0 (.c (.ptr 0 0)),.row 1 (els (spotsM w.Level))]⟩ : St)) ((b4.length - w.Scores.length)) ⟨(fun t : Nat => (⟨_,[(0,.o (.c (.ptr 0 0))),(4,I (els w.Scores).length),(13,.o (.c (.ref 5))),(15,I (i : Int)),(16,I (((els w.Scores).length + t : Nat) : Int))],[.box [.ref 1,jn (w.Tick + 1),jn (nextR sd),.ref 2,.ref 3],.row 1 (els w.Level.Rows),.row 1 (els s4),.row 9 (els b4),.gh 0 (.c (.ptr 0 0)),.row 1 (els (spotsM w.Level))]⟩ : St)) 0,⟨0,by omega,at_pl hM1 x y,J⟩,X8 [0,1,2,3,4,5] (by decide) J (J) (.c J (.c J (.c J (.c J (.cons (Xx (by omega)) (.nil))))))⟩ ?_
 rintro m_C _ ⟨t,hk_C,hp_C,rfl⟩
 by_cases hlt : t < b4.length - w.Scores.length
 ·have hb0 : decide ((((els w.Scores).length + t : Nat) : Int) < (els b4).length) = true := decide_eq_true (by omega)
  obtain ⟨b,hbb⟩ := Kp (xs := b4) (i := w.Scores.length + t) (by omega)
  have he := at_el hbb
  refine Qd (zy (z0 J (z0 J (zx (Qz J J J) J (z2 J J J (z3 J (zx (Z1 J J J J) J (z9a J (by assumption) (zz ?_)))))))));refine Qm J (Qh (Q0 (Qd (Qk (Qd ?_)))))
  by_cases k1 : b.Kind = 2
  case neg =>
   have p1 : decide (b.Kind = 2) = false := decide_eq_false k1
   refine Xi u8_38 u8_39 u8_40 J (DR.s (Qa J J J) J J (DR.s (Qz J J J) J J (DR.s (Qf J J J J (by decide)) J J (DR.s (Qg J J J J J) J J (DR.s (Qa J J J) J J (DR.s (Q3 J J J J J (by omega) (by omega)) J J (DR.s (Zw J J J J (by decide)) J J (DR.s (Q7 J J J J (by assumption) J) J J (DR.s (Qv J J J J (by assumption)) J J (DR.s (Qa J J J) J J (DR.s (Qt.no J J J J) J J ?_)))))))))));refine DR.s (Qt.no J J J J) J J (DR.s (Qt.no J J J J) J J (DR.s (Qt.no J J J J) J J (DR.s (Qt.no J J J J) J J (DR.s (Qt.no J J J J) J J (DR.s (Qt.no J J J J) J J (DR.s (Qt.no J J J J) J J (DR.s (Qt.no J J J J) J J (DR.s (Qt.no J J J J) J J (DR.s (Qt.no J J J J) J J (DR.s (Qt.no J J J J) J J (DR.s (Qt.no J J J J) J J ?_)))))))))));refine DR.s (Qt.no J J J J) J J (DR.s (Qt.no J J J J) J J (DR.s (Qn J J J J) J J (DR.s (Qa J J J) J J (DR.s (Qt.no J J J J) J J (DR.s (Qt.no J J J J) J J (DR.s (Qt.no J J J J) J J (DR.s (Qt.no J J J J) J J (DR.s (Qt.no J J J J) J J (DR.s (Qt.no J J J J) J J (DR.s (Qt.no J J J J) J J (DR.s (Qt.no J J J J) J J ?_)))))))))));refine DR.s (Qt.no J J J J) J J (DR.s (Qt.no J J J J) J J (DR.s (Qt.no J J J J) J J (DR.s (Qt.no J J J J) J J (DR.s (Qt.no J J J J) J J (DR.s (Qt.no J J J J) J J (DR.s (Qt.no J J J J) J J (DR.s (Qn J J J J) J J (DR.stop (by kernel_rfl) (by kernel_rfl) (zz (Ql J ?_))))))))));refine Qh (Q1 (Q0 (Qc (z0 J (z7 J (by omega) (z1 J (zz ?_)))))))
   exact ⟨(b4.length - w.Scores.length) - (t + 1),by omega,(fun t : Nat => (⟨_,[(0,.o (.c (.ptr 0 0))),(4,I (els w.Scores).length),(13,.o (.c (.ref 5))),(15,I (i : Int)),(16,I (((els w.Scores).length + t : Nat) : Int))],[.box [.ref 1,jn (w.Tick + 1),jn (nextR sd),.ref 2,.ref 3],.row 1 (els w.Level.Rows),.row 1 (els s4),.row 9 (els b4),.gh 0 (.c (.ptr 0 0)),.row 1 (els (spotsM w.Level))]⟩ : St)) (t + 1),⟨t + 1,by omega,at_go hbb (fun h => k1 h.1) hp_C,J⟩,X8 [0,1,2,3,4,5] (by decide) J (J) (.c J (.c J (.c J (.c J (.cons (Xx (by omega)) (.nil))))))⟩
  have p1 : decide (b.Kind = 2) = true := decide_eq_true k1
  by_cases k2 : b.X = x
  case neg =>
   have p2 : decide (b.X = x) = false := decide_eq_false k2
   refine Xi u8_38 u8_39 u8_40 J (DR.s (Qa J J J) J J (DR.s (Qz J J J) J J (DR.s (Qf J J J J (by decide)) J J (DR.s (Qg J J J J J) J J (DR.s (Qa J J J) J J (DR.s (Q3 J J J J J (by omega) (by omega)) J J (DR.s (Zw J J J J (by decide)) J J (DR.s (Q7 J J J J (by assumption) J) J J (DR.s (Qv J J J J (by assumption)) J J (DR.s (Qa J J J) J J (DR.s (Qt.yes J J J (Qa J J J)) J J ?_)))))))))));refine DR.s (Qt.yes J J J (Qz J J J)) J J (DR.s (Qt.yes J J J (Qf J J J J (by decide))) J J (DR.s (Qt.yes J J J (Qg J J J J J)) J J (DR.s (Qt.yes J J J (Qa J J J)) J J (DR.s (Qt.yes J J J (Q3 J J J J J (by omega) (by omega))) J J (DR.s (Qt.yes J J J (Zw J J J J (by decide))) J J (DR.s (Qt.yes J J J (Q7 J J J J (by assumption) J)) J J (DR.s (Qt.yes J J J (Qa J J J)) J J (DR.s (Qt.yes J J J (Qa J J J)) J J (DR.s (Qt.yes J J J (Q3 J J J J J (by omega) (by omega))) J J (DR.s (Qt.yes J J J (Q7 J J J J (by assumption) J)) J J (DR.s (Qt.yes J J J (Q2 J J J J (by omega) (by assumption) J)) J J ?_)))))))))));refine DR.s (Qt.yes J J J (Z4 J J J J)) J J (DR.s (Qt.yes J J J (Qv J J J J (by assumption))) J J (DR.s (Qo J J J J) J J (DR.s (Qa J J J) J J (DR.s (Qt.no J J J J) J J (DR.s (Qt.no J J J J) J J (DR.s (Qt.no J J J J) J J (DR.s (Qt.no J J J J) J J (DR.s (Qt.no J J J J) J J (DR.s (Qt.no J J J J) J J (DR.s (Qt.no J J J J) J J (DR.s (Qt.no J J J J) J J ?_)))))))))));refine DR.s (Qt.no J J J J) J J (DR.s (Qt.no J J J J) J J (DR.s (Qt.no J J J J) J J (DR.s (Qt.no J J J J) J J (DR.s (Qt.no J J J J) J J (DR.s (Qt.no J J J J) J J (DR.s (Qt.no J J J J) J J (DR.s (Qn J J J J) J J (DR.stop (by kernel_rfl) (by kernel_rfl) (zz (Ql J ?_))))))))));refine Qh (Q1 (Q0 (Qc (z0 J (z7 J (by omega) (z1 J (zz ?_)))))))
   exact ⟨(b4.length - w.Scores.length) - (t + 1),by omega,(fun t : Nat => (⟨_,[(0,.o (.c (.ptr 0 0))),(4,I (els w.Scores).length),(13,.o (.c (.ref 5))),(15,I (i : Int)),(16,I (((els w.Scores).length + t : Nat) : Int))],[.box [.ref 1,jn (w.Tick + 1),jn (nextR sd),.ref 2,.ref 3],.row 1 (els w.Level.Rows),.row 1 (els s4),.row 9 (els b4),.gh 0 (.c (.ptr 0 0)),.row 1 (els (spotsM w.Level))]⟩ : St)) (t + 1),⟨t + 1,by omega,at_go hbb (fun h => k2 h.2.1) hp_C,J⟩,X8 [0,1,2,3,4,5] (by decide) J (J) (.c J (.c J (.c J (.c J (.cons (Xx (by omega)) (.nil))))))⟩
  have p2 : decide (b.X = x) = true := decide_eq_true k2
  by_cases k3 : b.Y = y
  case neg =>
   have p3 : decide (b.Y = y) = false := decide_eq_false k3
   refine Xi u8_38 u8_39 u8_40 J (DR.s (Qa J J J) J J (DR.s (Qz J J J) J J (DR.s (Qf J J J J (by decide)) J J (DR.s (Qg J J J J J) J J (DR.s (Qa J J J) J J (DR.s (Q3 J J J J J (by omega) (by omega)) J J (DR.s (Zw J J J J (by decide)) J J (DR.s (Q7 J J J J (by assumption) J) J J (DR.s (Qv J J J J (by assumption)) J J (DR.s (Qa J J J) J J (DR.s (Qt.yes J J J (Qa J J J)) J J ?_)))))))))));refine DR.s (Qt.yes J J J (Qz J J J)) J J (DR.s (Qt.yes J J J (Qf J J J J (by decide))) J J (DR.s (Qt.yes J J J (Qg J J J J J)) J J (DR.s (Qt.yes J J J (Qa J J J)) J J (DR.s (Qt.yes J J J (Q3 J J J J J (by omega) (by omega))) J J (DR.s (Qt.yes J J J (Zw J J J J (by decide))) J J (DR.s (Qt.yes J J J (Q7 J J J J (by assumption) J)) J J (DR.s (Qt.yes J J J (Qa J J J)) J J (DR.s (Qt.yes J J J (Qa J J J)) J J (DR.s (Qt.yes J J J (Q3 J J J J J (by omega) (by omega))) J J (DR.s (Qt.yes J J J (Q7 J J J J (by assumption) J)) J J (DR.s (Qt.yes J J J (Q2 J J J J (by omega) (by assumption) J)) J J ?_)))))))))));refine DR.s (Qt.yes J J J (Z4 J J J J)) J J (DR.s (Qt.yes J J J (Qv J J J J (by assumption))) J J (DR.s (Qo J J J J) J J (DR.s (Qa J J J) J J (DR.s (Qt.yes J J J (Qa J J J)) J J (DR.s (Qt.yes J J J (Qz J J J)) J J (DR.s (Qt.yes J J J (Qf J J J J (by decide))) J J (DR.s (Qt.yes J J J (Qg J J J J J)) J J (DR.s (Qt.yes J J J (Qa J J J)) J J (DR.s (Qt.yes J J J (Q3 J J J J J (by omega) (by omega))) J J (DR.s (Qt.yes J J J (Zw J J J J (by decide))) J J (DR.s (Qt.yes J J J (Q7 J J J J (by assumption) J)) J J ?_)))))))))));refine DR.s (Qt.yes J J J (Qa J J J)) J J (DR.s (Qt.yes J J J (Qa J J J)) J J (DR.s (Qt.yes J J J (Q3 J J J J J (by omega) (by omega))) J J (DR.s (Qt.yes J J J (Q7 J J J J (by assumption) J)) J J (DR.s (Qt.yes J J J (Q2 J J J J (by omega) (by assumption) J)) J J (DR.s (Qt.yes J J J (Z4 J J J J)) J J (DR.s (Qt.yes J J J (Qv J J J J (by assumption))) J J (DR.s (Qo J J J J) J J (DR.stop (by kernel_rfl) (by kernel_rfl) (zz (Ql J ?_))))))))));refine Qh (Q1 (Q0 (Qc (z0 J (z7 J (by omega) (z1 J (zz ?_)))))))
   exact ⟨(b4.length - w.Scores.length) - (t + 1),by omega,(fun t : Nat => (⟨_,[(0,.o (.c (.ptr 0 0))),(4,I (els w.Scores).length),(13,.o (.c (.ref 5))),(15,I (i : Int)),(16,I (((els w.Scores).length + t : Nat) : Int))],[.box [.ref 1,jn (w.Tick + 1),jn (nextR sd),.ref 2,.ref 3],.row 1 (els w.Level.Rows),.row 1 (els s4),.row 9 (els b4),.gh 0 (.c (.ptr 0 0)),.row 1 (els (spotsM w.Level))]⟩ : St)) (t + 1),⟨t + 1,by omega,at_go hbb (fun h => k3 h.2.2) hp_C,J⟩,X8 [0,1,2,3,4,5] (by decide) J (J) (.c J (.c J (.c J (.c J (.cons (Xx (by omega)) (.nil))))))⟩
  have p3 : decide (b.Y = y) = true := decide_eq_true k3
  rw [last_2 q hxy (at_hit hbb ⟨k1,k2,k3⟩)]
  refine Xi u8_38 u8_39 u8_40 J (DR.s (Qa J J J) J J (DR.s (Qz J J J) J J (DR.s (Qf J J J J (by decide)) J J (DR.s (Qg J J J J J) J J (DR.s (Qa J J J) J J (DR.s (Q3 J J J J J (by omega) (by omega)) J J (DR.s (Zw J J J J (by decide)) J J (DR.s (Q7 J J J J (by assumption) J) J J (DR.s (Qv J J J J (by assumption)) J J (DR.s (Qa J J J) J J (DR.s (Qt.yes J J J (Qa J J J)) J J ?_)))))))))));refine DR.s (Qt.yes J J J (Qz J J J)) J J (DR.s (Qt.yes J J J (Qf J J J J (by decide))) J J (DR.s (Qt.yes J J J (Qg J J J J J)) J J (DR.s (Qt.yes J J J (Qa J J J)) J J (DR.s (Qt.yes J J J (Q3 J J J J J (by omega) (by omega))) J J (DR.s (Qt.yes J J J (Zw J J J J (by decide))) J J (DR.s (Qt.yes J J J (Q7 J J J J (by assumption) J)) J J (DR.s (Qt.yes J J J (Qa J J J)) J J (DR.s (Qt.yes J J J (Qa J J J)) J J (DR.s (Qt.yes J J J (Q3 J J J J J (by omega) (by omega))) J J (DR.s (Qt.yes J J J (Q7 J J J J (by assumption) J)) J J (DR.s (Qt.yes J J J (Q2 J J J J (by omega) (by assumption) J)) J J ?_)))))))))));refine DR.s (Qt.yes J J J (Z4 J J J J)) J J (DR.s (Qt.yes J J J (Qv J J J J (by assumption))) J J (DR.s (Qo J J J J) J J (DR.s (Qa J J J) J J (DR.s (Qt.yes J J J (Qa J J J)) J J (DR.s (Qt.yes J J J (Qz J J J)) J J (DR.s (Qt.yes J J J (Qf J J J J (by decide))) J J (DR.s (Qt.yes J J J (Qg J J J J J)) J J (DR.s (Qt.yes J J J (Qa J J J)) J J (DR.s (Qt.yes J J J (Q3 J J J J J (by omega) (by omega))) J J (DR.s (Qt.yes J J J (Zw J J J J (by decide))) J J (DR.s (Qt.yes J J J (Q7 J J J J (by assumption) J)) J J ?_)))))))))));refine DR.s (Qt.yes J J J (Qa J J J)) J J (DR.s (Qt.yes J J J (Qa J J J)) J J (DR.s (Qt.yes J J J (Q3 J J J J J (by omega) (by omega))) J J (DR.s (Qt.yes J J J (Q7 J J J J (by assumption) J)) J J (DR.s (Qt.yes J J J (Q2 J J J J (by omega) (by assumption) J)) J J (DR.s (Qt.yes J J J (Z4 J J J J)) J J (DR.s (Qt.yes J J J (Qv J J J J (by assumption))) J J (DR.s (Qo J J J J) J J (DR.stop (by kernel_rfl) (by kernel_rfl) (zz (Qm J ?_))))))))));refine Xa (B_r (T_r (T_r (B_r (T_r (F_r ?_))))))
  exact Xo J (X6 [0,1,2,3,4] (by decide) J J J)
 ·have hb0 : decide ((((els w.Scores).length + t : Nat) : Int) < (els b4).length) = false := decide_eq_false (by omega)
  have hk : w.Scores.length + t = b4.length := by omega
  rw [hk,List.take_length] at hp_C
  rw [last_3 q hxy hp_C]
  refine Qd (zy (z0 J (z0 J (zx (Qz J J J) J (z2 J J J (z3 J (zx (Z1 J J J J) J (z9a J (by assumption) (zz ?_)))))))));refine Ql J (Q9 (T_x (T_x (Xl (Q0 (Xi [[],[],[1],[1,2],[1,2,3],[],[],[5,6],[5,6,7],[5,6,7,8],[5,6,7,8,9],[],[],[11,12],[11,12,13],[11,12,13,14],[11,12,13,14,15],[5,6,7,8,9,10,11,12,13,14,15,16],[5,6,7,8,9,10,11,12,13,14,15,16,17],[1,2,3,4,5,6,7,8,9,10,11,12,13,14,15,16,17,18],(u9 20),(u9 21),(u9 22)] [[],[],[287],[287,288],[287,288,289],[],[],[291,292],[291,292,293],[291,292,293,294],[291,292,293,294,295],[],[],[297,298],[297,298,299],[297,298,299,300],[297,298,299,300,301],[291,292,293,294,295,296,297,298,299,300,301,302],[291,292,293,294,295,296,297,298,299,300,301,302,303],[287,288,289,290,291,292,293,294,295,296,297,298,299,300,301,302,303,304],[286,287,288,289,290,291,292,293,294,295,296,297,298,299,300,301,302,303,304,305],[286,287,288,289,290,291,292,293,294,295,296,297,298,299,300,301,302,303,304,305,306],[286,287,288,289,290,291,292,293,294,295,296,297,298,299,300,301,302,303,304,305,306,307]] [[287,288,289,290,291,292,293,294,295,296,297,298,299,300,301,302,303,304,305],[286,291,292,293,294,295,296,297,298,299,300,301,302,303,304],[286,291,292,293,294,295,296,297,298,299,300,301,302,303,304],[286,291,292,293,294,295,296,297,298,299,300,301,302,303,304],[286,291,292,293,294,295,296,297,298,299,300,301,302,303,304],[286,287,288,289,290,292,297,298,299,300,301,302],[286,287,288,289,290,291,297,298,299,300,301,302],[286,287,288,289,290,297,298,299,300,301,302],[286,287,288,289,290,297,298,299,300,301,302],[286,287,288,289,290,297,298,299,300,301,302],[286,287,288,289,290,297,298,299,300,301,302],[286,287,288,289,290,291,292,293,294,295,296,298],[286,287,288,289,290,291,292,293,294,295,296,297],[286,287,288,289,290,291,292,293,294,295,296],[286,287,288,289,290,291,292,293,294,295,296],[286,287,288,289,290,291,292,293,294,295,296],[286,287,288,289,290,291,292,293,294,295,296],[286,287,288,289,290],[286,287,288,289,290],[286],[],[],[],[0]] J (DR.s (Qa J J J) J J (DR.s (Qa J J J) J J (DR.s (Qz J J J) J J (DR.s (Qf J J J J (by decide)) J J (DR.s (Qg J J J J J) J J ?_)))))))))));refine DR.s (Qa J J J) J J (DR.s (Qa J J J) J J (DR.s (Q3 J J J J J (by omega) (by omega)) J J (DR.s (Q7 J J J J (by assumption) J) J J (DR.s (Q2 J J J J (by omega) (by assumption) J) J J (DR.s (Z4 J J J J) J J (DR.s (Qa J J J) J J (DR.s (Qa J J J) J J (DR.s (Q3 J J J J J (by omega) (by omega)) J J (DR.s (Q7 J J J J (by assumption) J) J J (DR.s (Q2 J J J J (by omega) (by assumption) J) J J (DR.s (Z4 J J J J) J J ?_)))))))))));refine DR.s (Zp J J J J J) J J (DR.s (Zm J J J J J J) J J (DR.stop (by kernel_rfl) (by kernel_rfl) ?_));refine AL.weak (st' := (⟨_,[(286,.o (.c (.ptr 0 0))),(290,.o (.c (.ref 3))),(304,.o (.c (.sb 5 1 9)))],[.box [.ref 1,jn (w.Tick + 1),jn (nextR sd),.ref 2,.ref 3],.row 1 (els w.Level.Rows),.row 1 (els s4),.row 9 (els b4),.gh 0 (.c (.ptr 0 0)),.box ((Enc.e (itemB x y)).map (V1.rd []))]⟩ : St)) (W_gj [0,1,2,3,4,6] J) ?_;refine Xy J J J J J J J J J J J J J J (by omega) (by omega) ?_;refine zx (Qz J J J) J (z2 J J J ?_);refine Q5 J J J J J J J J (Qe (F_n ?_))
  exact Xo J (X6 [0,1,2,3,4] (by decide) J (by exact rwBo (by rw [Yn]; rfl)) J)
end
section
open Go.RowKit

theorem S_StepWorld (w : TWorld) (row : List Int) (hg : Enc.gd w) (gr : Enc.gd row) (h1 : w.Level.Rows.length ≤ 1048576) (h2 : w.Scores.length ≤ 1048576) (h3 : w.Bodies.length ≤ 1048576) : Con Tryz.prog 15 [] [ag w,al row] [.row 1 (els w.Level.Rows),.row 1 (els (stepW w row).Scores),.row 9 (els (stepW w row).Bodies)] (.o (.ag [.ref 0,jn (stepW w row).Tick,jn (stepW w row).Seed,.ref 1,.ref 2])) := by
 have hls := Yq w.Scores
 have hlb := Yq w.Bodies
 have c1 := S_copyWorld w hg h1 h2 h3
 have c2 := S_WorldOk w hg
 have c3 := S_rowOk row ((els w.Scores).length : Int) gr
 rw [show rowOk row ((els w.Scores).length : Int) = rowOk row (w.Scores.length : Int) by rw [hls]] at c3
 cases ho : worldOk w with
 | false =>
  rw [step_F (fun q => by rw [ho] at q; cases q.1)]
  rw [ho] at c2
  refine Con.of Tryz.func15 J Tryz.ntmps15 J (fun E => ?_)
  refine zy (M1 (Qq J J J J) J J (M1 (Qx J J J) J J (zz (zy (z4 J J J ?_)))));refine M1 (Zs J J (c1) J J J) J J ?_;refine M1 (Qx J J J) J J ?_;refine Qy J J J J J J J J J (zz (Qd (zy (z4 J J J ?_))));refine zx (Qj J J (c2) J) J ?_;refine zn J (z0 J (z6 J (z6 J (z6 J (zpT J (z0 J (z6 J (z6 J (z6 J (z6 J (z6 J ?_)))))))))));refine z6 J (zpT J (zz (Qm J (zy (z4 J J J ?_)))));refine Qy J J J J J J J J J (zz (Xa (T_r (F_r ?_))))
  exact Xm J J J J (X6 [2,3,4] (by decide) J J J)
 | true =>
 rw [ho] at c2
 by_cases ht : w.Tick = 100000
 ·have f1 : decide (w.Tick = 100000) = true := decide_eq_true ht
  rw [step_F (fun q => q.2.1 ht)]
  refine Con.of Tryz.func15 J Tryz.ntmps15 J (fun E => ?_)
  refine zy (M1 (Qq J J J J) J J (M1 (Qx J J J) J J (zz (zy (z4 J J J ?_)))));refine M1 (Zs J J (c1) J J J) J J ?_;refine M1 (Qx J J J) J J ?_;refine Qy J J J J J J J J J (zz (Qd (zy (z4 J J J ?_))));refine zx (Qj J J (c2) J) J ?_;refine zn J (z0 J (z5 J (z2 J J J (z5 J (z3 J (z5 J (z9e J (by assumption) (zpF J (z0 J (z6 J (z6 J ?_)))))))))));refine z6 J (z6 J (z6 J (z6 J (zpT J (zz (Qm J (zy (z4 J J J ?_))))))));refine Qy J J J J J J J J J (zz (Xa (T_r (F_r ?_))))
  exact Xm J J J J (X6 [2,3,4] (by decide) J J J)
 have f1 : decide (w.Tick = 100000) = false := decide_eq_false ht
 cases hr : rowOk row (w.Scores.length : Int) with
 | false =>
  rw [step_F (fun q => by rw [hr] at q; cases q.2.2)]
  rw [hr] at c3
  refine Con.of Tryz.func15 J Tryz.ntmps15 J (fun E => ?_)
  refine zy (M1 (Qq J J J J) J J (M1 (Qx J J J) J J (zz (zy (z4 J J J ?_)))));refine M1 (Zs J J (c1) J J J) J J ?_;refine M1 (Qx J J J) J J ?_;refine Qy J J J J J J J J J (zz (Qd (zy (z4 J J J ?_))));refine zx (Qj J J (c2) J) J ?_;refine zn J (z0 J (z5 J (z2 J J J (z5 J (z3 J (z5 J (z9e J (by assumption) (zpF J (z0 J (z5 J (z0 J ?_)))))))))));refine z5 J (z2 J J J (z5 J (z3 J (z5 J (zx (Z0 J J J) J (z5 J ?_))))));refine zx (Qj J J (c3) J) J ?_;refine z5 J (zn J (zpF J (zz (Qm J (zy (z4 J J J ?_))))));refine Qy J J J J J J J J J (zz (Xa (T_r (F_r ?_))))
  exact Xm J J J J (X6 [2,3,4] (by decide) J J J)
 | true =>
 rw [hr] at c3
 rw [step_T ⟨ho,ht,hr⟩]
 have d1 := S_l02Step w row hg ho ht hr
 refine Con.of Tryz.func15 J Tryz.ntmps15 J (fun E => ?_)
 refine zy (M1 (Qq J J J J) J J (M1 (Qx J J J) J J (zz (zy (z4 J J J ?_)))));refine M1 (Zs J J (c1) J J J) J J ?_;refine M1 (Qx J J J) J J ?_;refine Qy J J J J J J J J J (zz (Qd (zy (z4 J J J ?_))));refine zx (Qj J J (c2) J) J ?_;refine zn J (z0 J (z5 J (z2 J J J (z5 J (z3 J (z5 J (z9e J (by assumption) (zpF J (z0 J (z5 J (z0 J ?_)))))))))));refine z5 J (z2 J J J (z5 J (z3 J (z5 J (zx (Z0 J J J) J (z5 J ?_))))));refine zx (Qj J J (c3) J) J ?_;refine z5 J (zn J (zpF J (zz (Ql J (Qh (Q0 (zy (z0 J ?_))))))));refine AL.weak (st' := (⟨_,[(4,.o (.c (.ptr 4 0))),(5,.o (.c (.ptr 0 0))),(25,L row)],[.box [.ref 1,jn w.Tick,jn w.Seed,.ref 2,.ref 3],.row 1 (els w.Level.Rows),.row 1 (els w.Scores),.row 9 (els w.Bodies),.box [nilV,jn 0,jn 0,nilV,nilV]]⟩ : St)) (W_gj [5,2,3,4,1] J) ?_
 clear c1 c2 c3 f1
 refine Xd (lo := [_,_,_,_]) (gs := [(0,.c (.ptr 0 0))]) (lo' := [_,_,_,_]) (new := []) [0,1,2,3] [(0,0,.ptr 0 0)] (d1) J J J J J J J J J J J J J J J J J ?_;refine zz (zy (z4 J J J ?_));refine Qy J J J J J J J J J (zz (Xa (F_r ?_)))
 exact Xm J J J J (X6 [1,2,3] (by decide) J J J)
end
section
open Go.RowKit

theorem tot_wts : ∀ xs : List (List Int),tot xs ≤ wts xs
 | [] => Nat.le_refl _
 | x :: xs => by
  have h1 := tot_wts xs
  have h2 : tot (x :: xs) = x.length + tot xs := by simp [tot]
  have h3 : wts (x :: xs) = (x.length + wts x) + wts xs := rfl
  omega
structure RepIn (y : TReplay) : Prop where
 gd : Enc.gd y
 h1 : y.Level.Rows.length ≤ 1048576
 h2 : y.Keys.length ≤ 1048576
 h3 : y.Rows.length ≤ 1048576
 h4 : tot y.Rows ≤ 1048576
theorem rep_in {x : TReplay} (hg : Enc.gd x) (hw : Enc.wt x ≤ 1048576) : RepIn x := by
 have h0 : Enc.wt x = (x.Level.Rows.length + wts x.Level.Rows) + (x.Rows.length + wts x.Rows) + (x.Keys.length + wts x.Keys) := rfl
 have h1 := tot_wts x.Rows
 exact ⟨hg,by omega,by omega,by omega,by omega⟩
structure WorIn (w : TWorld) : Prop where
 gd : Enc.gd w
 h1 : w.Level.Rows.length ≤ 1048576
 h2 : w.Scores.length ≤ 1048576
 h3 : w.Bodies.length ≤ 1048576
theorem Kw : WorIn zeroWorld := ⟨⟨⟨by simp [zeroWorld],fun x hx => by simp [zeroWorld] at hx⟩,⟨by decide,by decide⟩,⟨by decide,by decide⟩,⟨by simp [zeroWorld],fun x hx => by simp [zeroWorld] at hx⟩,⟨by simp [zeroWorld],fun x hx => by simp [zeroWorld] at hx⟩⟩,by simp [zeroWorld],by simp [zeroWorld],by simp [zeroWorld]⟩
theorem read_in {lv : TLevel} {s : ByteArray} (hg : Enc.gd lv) (hL : lv.Rows.length ≤ 1048576) (hs : s.size ≤ 1099511627776) : WorIn (rwW (readWorld lv s)) := by
 cases hu : unpackInts s 0 with
 | none => rw [Kf hu]; exact Kw
 | some r =>
  obtain ⟨l,pos⟩ := r
  obtain ⟨_,hu1,hu2,hu3,hu4⟩ := Ku hu
  by_cases hp : pos = s.size ∧ formOk l ∧ worldOk (worldOf lv l) = true
  ·rw [Kg hu hp]
   have hw := Ky hp.2.2
   exact ⟨worldOf_gd hg hu4 (by omega),hL,Nat.le_trans hw.2.2.2.1.2 (by decide),Nat.le_trans hw.2.2.2.2.2.1.2 (by decide)⟩
  ·rw [Ke hu hp]; exact Kw
end
section
open Go.RowKit

noncomputable def runM (w : TWorld) (rows : List (List Int)) : TWorld := rows.foldl stepW w
theorem step_in {w : TWorld} {row : List Int} (h : WorIn w) : WorIn (stepW w row) := by
 have h1 := stepW_fits (row := row) h.gd
 exact ⟨h1.1,by rw [Kq]; exact h.h1,by rw [h1.2.1]; exact h.h2,by have := h.h3; omega⟩
theorem ran_in : ∀ (rows : List (List Int)) {w : TWorld},WorIn w → WorIn (runM w rows)
 | [],_,h => h
 | r :: rs,w,h => ran_in rs (w := stepW w r) (step_in h)
theorem runM_next {w x : TWorld} {rows : List (List Int)} {k : Nat} {r : List Int} (hr : rows[k]? = some r) (h : x = runM w (rows.take k)) : stepW x r = runM w (rows.take (k + 1)) := by
 obtain ⟨hk,rfl⟩ := List.getElem?_eq_some_iff.1 hr
 rw [List.take_succ_eq_append_getElem hk,h]
 unfold runM
 rw [List.foldl_append]
 rfl
theorem I_RunWorld (w : TWorld) (rows : List (List Int)) (iw : WorIn w) (gr : Enc.gd rows) : Con Tryz.prog 44 [] [ag w,al rows] [.row 1 (els (runM w rows).Level.Rows),.row 1 (els (runM w rows).Scores),.row 9 (els (runM w rows).Bodies)] (.o (.ag [.ref 0,jn (runM w rows).Tick,jn (runM w rows).Seed,.ref 1,.ref 2])) := by
 have c1 := I_copyWorld w iw.gd iw.h1 iw.h2 iw.h3
 have hlr := Yq rows
 have hlg := gr.1
 refine Con.of Tryz.func44 J Tryz.ntmps44 J (fun E => ?_)
 refine zy (M1 (Qq J J J J) J J (M1 (Qx J J J) J J (zz (zy (z4 J J J ?_)))));refine M1 (Zs J J (c1) J J J) J J ?_;refine M1 (Qx J J J) J J ?_;refine Qy J J J J J J J J J (zz (Qd (zy (z0 J (zx (Z0 J J J) J (z0 J (zz (Qk ?_))))))))
 refine AWP.pre (st' := (⟨_,[(4,.o (.c (.ptr 4 0))),(5,.o (.c (.ptr 0 0))),(10,L rows),(11,I (els rows).length),(12,I 0)],[.box [.ref 1,jn w.Tick,jn w.Seed,.ref 2,.ref 3],.row 1 (els w.Level.Rows),.row 1 (els w.Scores),.row 9 (els w.Bodies),.box [nilV,jn 0,jn 0,nilV,nilV]]⟩ : St)) ?_ (W_gj [5,2,3,4,1] J)
 clear c1
 refine A_lq (fun m st => ∃ (k : Nat) (x : TWorld),k + m = rows.length ∧ (x = runM w (rows.take k)) ∧ st = (⟨_,[(4,.o (.c (.ptr 4 0))),(5,.o (.c (.ptr 0 0))),(10,L rows),(11,I (els rows).length),(12,I k)],[.box [.ref 1,jn x.Tick,jn x.Seed,.ref 2,.ref 3],.row 1 (els x.Level.Rows),.row 1 (els x.Scores),.row 9 (els x.Bodies),.box [nilV,jn 0,jn 0,nilV,nilV]]⟩ : St)) (rows.length) ⟨_,⟨0,w,by omega,J,J⟩,W_gj [0,1,2,3,4] J⟩ ?_
 rintro m_A _ ⟨k,x,hk_A,hp_A,rfl⟩
 have ix : WorIn x := by rw [hp_A]; exact ran_in _ iw
 by_cases hlt : k < rows.length
 ·have hb0 : decide ((k : Int) < (els rows).length) = true := decide_eq_true (by omega)
  obtain ⟨r,hr⟩ := Kp hlt
  have her := Ys hr
  have cs := I_StepWorld x r ix.gd (gr.2 r (List.mem_of_getElem? hr)) ix.h1 ix.h2 ix.h3
  have hnx := runM_next hr hp_A
  have hlv := Kq x r
  generalize stepW x r = z at cs hnx hlv
  rw [← hlv] at cs
  refine zy (z9a J (by assumption) (zz (Qd (Qm J (Qh (Q0 (Qd (Qk (Qd ?_)))))))));refine Qc (zx (Q2 J J J J (by omega) (by assumption) J) J (zx (Z4 J J J J) J (z1 J (zz (Qc (z4 J J J (z0 J ?_)))))));refine M1 (Zs J J (cs) J J J) J J ?_;refine Qy J J J J J J J J J (Qe (Q1 (Q0 (Qc (z7 J (by omega) (z0 J (zz ?_)))))))
  exact ⟨rows.length - (k + 1),by omega,_,⟨k + 1,z,by omega,hnx,J⟩,W_gj [0,5,6,7,4] J⟩
 have hb0 : decide ((k : Int) < (els rows).length) = false := decide_eq_false (by omega)
 have hk : k = rows.length := by omega
 rw [hk,List.take_length] at hp_A
 rw [← hp_A]
 refine zy (z9a J (by assumption) (zz (Qd (Ql J (Q9 (T_x (T_x (Xl (Q0 ?_)))))))));refine zy (z4 J J J ?_);refine Qy J J J J J J J J J (zz (Xa (F_r ?_)))
 exact Xm J J J J (X6 [1,2,3] (by decide) J J J)
theorem S_RunWorld (w : TWorld) (rows : List (List Int)) (iw : WorIn w) (gr : Enc.gd rows) : Con Tryz.prog 117 [] [ag w,al rows] [.row 1 (els (runM w rows).Level.Rows),.row 1 (els (runM w rows).Scores),.row 9 (els (runM w rows).Bodies)] (.o (.ag [.ref 0,jn (runM w rows).Tick,jn (runM w rows).Seed,.ref 1,.ref 2])) := by
 have c1 := S_copyWorld w iw.gd iw.h1 iw.h2 iw.h3
 have hlr := Yq rows
 have hlg := gr.1
 refine Con.of Tryz.func117 J Tryz.ntmps117 J (fun E => ?_)
 refine zy (M1 (Qq J J J J) J J (M1 (Qx J J J) J J (zz (zy (z4 J J J ?_)))));refine M1 (Zs J J (c1) J J J) J J ?_;refine M1 (Qx J J J) J J ?_;refine Qy J J J J J J J J J (zz (Qd (zy (z1 J (zz (Qk ?_))))))
 refine AWP.pre (st' := (⟨_,[(4,.o (.c (.ptr 4 0))),(5,.o (.c (.ptr 0 0))),(1,L rows),(6,I 0)],[.box [.ref 1,jn w.Tick,jn w.Seed,.ref 2,.ref 3],.row 1 (els w.Level.Rows),.row 1 (els w.Scores),.row 9 (els w.Bodies),.box [nilV,jn 0,jn 0,nilV,nilV]]⟩ : St)) ?_ (W_gj [5,2,3,4,1] J)
 clear c1
 refine A_lq (fun m st => ∃ (k : Nat) (x : TWorld),k + m = rows.length ∧ (x = runM w (rows.take k)) ∧ st = (⟨_,[(4,.o (.c (.ptr 4 0))),(5,.o (.c (.ptr 0 0))),(1,L rows),(6,I k)],[.box [.ref 1,jn x.Tick,jn x.Seed,.ref 2,.ref 3],.row 1 (els x.Level.Rows),.row 1 (els x.Scores),.row 9 (els x.Bodies),.box [nilV,jn 0,jn 0,nilV,nilV]]⟩ : St)) (rows.length) ⟨_,⟨0,w,by omega,J,J⟩,W_gj [0,1,2,3,4] J⟩ ?_
 rintro m_A _ ⟨k,x,hk_A,hp_A,rfl⟩
 have ix : WorIn x := by rw [hp_A]; exact ran_in _ iw
 by_cases hlt : k < rows.length
 ·have hb0 : decide ((k : Int) < (els rows).length) = true := decide_eq_true (by omega)
  obtain ⟨r,hr⟩ := Kp hlt
  have her := Ys hr
  have cs := S_StepWorld x r ix.gd (gr.2 r (List.mem_of_getElem? hr)) ix.h1 ix.h2 ix.h3
  have hnx := runM_next hr hp_A
  have hlv := Kq x r
  generalize stepW x r = z at cs hnx hlv
  rw [← hlv] at cs
  refine Qd (zy (z0 J (z0 J (zx (Z0 J J J) J (z9a J (by assumption) (zz (Qm J (Qh (Q0 ?_)))))))));refine Qd (Qk (Xi [[],[],[],[1,2],[1,2,3],(u9 5),(u9 6)] [[],[],[],[16,17],[16,17,18],[15,16,17,18,19],[15,16,17,18,19,20]] [[16,17,18,19],[15,17],[15,16],[15],[15],[],[]] J (DR.s (Qu J J J J J J) J J (DR.s (Qa J J J) J J (DR.s (Qa J J J) J J (DR.s (Q2 J J J J (by omega) (by assumption) J) J J (DR.s (Z4 J J J J) J J ?_)))))));refine DR.s (Zs J J (cs) J J J) J J ?_;refine DR.stop (by kernel_rfl) (by kernel_rfl) ?_;refine Qy J J J J J J J J J (Qe (Q1 (Q0 (Qc (z0 J (z7 J (by omega) (z1 J (zz ?_))))))))
  exact ⟨rows.length - (k + 1),by omega,_,⟨k + 1,z,by omega,hnx,J⟩,W_gj [0,5,6,7,4] J⟩
 have hb0 : decide ((k : Int) < (els rows).length) = false := decide_eq_false (by omega)
 have hk : k = rows.length := by omega
 rw [hk,List.take_length] at hp_A
 rw [← hp_A]
 refine Qd (zy (z0 J (z0 J (zx (Z0 J J J) J (z9a J (by assumption) (zz (Ql J (Q9 (T_x ?_)))))))));refine T_x (Xl (Q0 (zy (z4 J J J ?_))));refine Qy J J J J J J J J J (zz (Xa (F_r ?_)))
 exact Xm J J J J (X6 [1,2,3] (by decide) J J J)
end
section
open Go.RowKit

def zeroB (b : UInt8) : Bool := b == 0
def someB (b : UInt8) : Bool := !(b == 0)
def packZ (l : List UInt8) : List UInt8 := match l with
 | [] => []
 | x :: r => encVar (((x :: r).takeWhile zeroB).length : Nat) ++ (encVar ((((x :: r).dropWhile zeroB).takeWhile someB).length : Nat) ++ ((x :: r).dropWhile zeroB).takeWhile someB) ++ packZ (((x :: r).dropWhile zeroB).dropWhile someB)
termination_by l.length
decreasing_by
 by_cases h : zeroB x = true
 ·rw [List.dropWhile_cons,if_pos h]
  have h1 := (List.dropWhile_sublist someB (l := r.dropWhile zeroB)).length_le
  have h2 := (List.dropWhile_sublist zeroB (l := r)).length_le
  simp only [List.length_cons]; omega
 ·rw [List.dropWhile_cons,if_neg h,List.dropWhile_cons,if_pos (by simpa [zeroB,someB] using h)]
  have h1 := (List.dropWhile_sublist someB (l := r)).length_le
  simp only [List.length_cons]; omega
theorem packZ_ne (x : UInt8) (r : List UInt8) : ¬ (((x :: r).takeWhile zeroB).length = 0 ∧ (((x :: r).dropWhile zeroB).takeWhile someB).length = 0) := by
 intro ⟨h1,h2⟩
 by_cases h : zeroB x = true
 ·rw [List.takeWhile_cons,if_pos h] at h1; simp at h1
 ·rw [List.dropWhile_cons,if_neg h,List.takeWhile_cons,if_pos (by simpa [zeroB,someB] using h)] at h2; simp at h2
def uzGo (s : ByteArray) (strict : Bool) : Nat → Nat → List UInt8 → Option (List UInt8)
 | 0,pos,out => if pos < s.size then none else some out
 | f + 1,pos,out => if pos < s.size then (match decVar s pos with
  | none => none
  | some (n,j) => match unpackText s ((pos : Int) + (j : Int)) with
   | none => none
   | some (t,k) => if (20000 : Int) - out.length < n + t.size then none else if strict = true ∧ n = 0 ∧ t.size = 0 then none else uzGo s strict f (pos + j + k) (out ++ List.replicate n.toNat 0 ++ t.data.toList)) else some out
def unpackZ (strict : Bool) (s : ByteArray) : Option ByteArray := match uzGo s strict s.size 0 [] with
 | none => none
 | some out => if bs (packZ out) = s then some (bs out) else none
theorem unpackText_enc {s : ByteArray} {p : Nat} {t r : List UInt8} (hL : s.size ≤ 1099511627775) (hs : s.data.toList.drop p = (encVar (t.length : Nat) ++ t) ++ r) : unpackText s p = some (bs t,(encVar (t.length : Nat)).length + t.length) := by
 have e : s.data.toList.length = s.size := by simp
 have hlen : (s.data.toList.drop p).length = ((encVar (t.length : Nat) ++ t) ++ r).length := by rw [hs]
 simp only [List.length_drop,List.length_append] at hlen
 rw [List.append_assoc] at hs
 by_cases ht : (t.length : Int) ≤ 1099511627775
 ·have h1 := decVar_enc (by omega) ht hs
  have hne : 1 ≤ (encVar (t.length : Nat)).length := by rw [encVar,if_pos ⟨by omega,ht⟩]; exact (varN_len _).1
  rw [unpackText,h1]
  have hp : p + (encVar (t.length : Nat)).length + t.length ≤ s.size := by omega
  simp only
  rw [if_neg (by omega)]
  congr 2
  have hd : s.data.toList.drop (p + (encVar (t.length : Nat)).length) = t ++ r := by
   have := congrArg (List.drop (encVar (t.length : Nat)).length) hs
   rwa [List.drop_drop,List.drop_left] at this
  rw [show ((p : Int) + ((encVar (t.length : Nat)).length : Nat)).toNat = p + (encVar (t.length : Nat)).length by omega,show ((p : Int) + ((encVar (t.length : Nat)).length : Nat) + ((t.length : Nat) : Int)).toNat = p + (encVar (t.length : Nat)).length + t.length by omega,extract_bytes,bytesL,hd,List.take_left]
 ·omega
theorem uz_mono (s : ByteArray) : ∀ (f pos : Nat) (out r : List UInt8),uzGo s true f pos out = some r → uzGo s false f pos out = some r
 | 0,pos,out,r,h => h
 | f + 1,pos,out,r,h => by
  rw [uzGo] at h ⊢
  by_cases hp : pos < s.size
  ·rw [if_pos hp] at h ⊢
   cases hd : decVar s pos with
   | none => rw [hd] at h; cases h
   | some x =>
    obtain ⟨n,j⟩ := x
    rw [hd] at h
    simp only at h ⊢
    cases hu : unpackText s ((pos : Int) + (j : Int)) with
    | none => rw [hu] at h; cases h
    | some y =>
     obtain ⟨t,k⟩ := y
     rw [hu] at h
     simp only at h ⊢
     split at h
     ·cases h
     ·rename_i hb
      rw [if_neg hb,if_neg (by simp)]
      split at h
      ·cases h
      ·exact uz_mono s f _ _ _ h
  ·rw [if_neg hp] at h ⊢; exact h
theorem uz_canon (s : ByteArray) (hL : s.size ≤ 1099511627775) : ∀ (f pos : Nat) (out l : List UInt8),l.length ≤ 1099511627775 → s.data.toList.drop pos = packZ l → uzGo s true f pos out = uzGo s false f pos out
 | 0,pos,out,l,_,h => rfl
 | f + 1,pos,out,l,hl,h => by
  rw [uzGo,uzGo]
  by_cases hp : pos < s.size
  ·rw [if_pos hp,if_pos hp]
   have e : s.data.toList.length = s.size := by simp
   cases l with
   | nil =>
    rw [packZ] at h
    have := congrArg List.length h
    simp only [List.length_drop,List.length_nil] at this
    omega
   | cons x r =>
    have hne := packZ_ne x r
    rw [packZ,List.append_assoc] at h
    have hl1 := (List.takeWhile_sublist zeroB (l := x :: r)).length_le
    have hl2 := (List.dropWhile_sublist someB (l := (x :: r).dropWhile zeroB)).length_le
    have hl3 := (List.dropWhile_sublist zeroB (l := x :: r)).length_le
    generalize ((x :: r).takeWhile zeroB).length = z at h hne hl1
    generalize ((x :: r).dropWhile zeroB).takeWhile someB = t at h hne
    generalize ((x :: r).dropWhile zeroB).dropWhile someB = q at h hl2
    have hlen : (s.data.toList.drop pos).length = (encVar (z : Nat) ++ ((encVar (t.length : Nat) ++ t) ++ packZ q)).length := by rw [h]
    by_cases hz : (z : Int) ≤ 1099511627775
    ·have h1 := decVar_enc (s := s) (p := pos) (n := (z : Int)) (by omega) hz h
     have hd : s.data.toList.drop (pos + (encVar (z : Nat)).length) = (encVar (t.length : Nat) ++ t) ++ packZ q := by
      have := congrArg (List.drop (encVar (z : Nat)).length) h
      rwa [List.drop_drop,List.drop_left] at this
     have h2 := unpackText_enc hL hd
     have hd2 : s.data.toList.drop (pos + (encVar (z : Nat)).length + ((encVar (t.length : Nat)).length + t.length)) = packZ q := by
      have := congrArg (List.drop (encVar (t.length : Nat) ++ t).length) hd
      rw [List.drop_drop,List.drop_left,List.length_append] at this
      exact this
     rw [h1]
     simp only
     rw [show (pos : Int) + ((encVar (z : Nat)).length : Nat) = ((pos + (encVar (z : Nat)).length : Nat) : Int) by omega,h2]
     simp only
     split
     ·rfl
     ·rw [if_neg (by rw [Yi]; intro ⟨_,h3,h4⟩; exact hne ⟨by omega,h4⟩),if_neg (by simp)]
      exact uz_canon s hL f _ _ q (by omega) hd2
    ·omega
  ·rw [if_neg hp,if_neg hp]
theorem uz_len (s : ByteArray) (b : Bool) : ∀ (f pos : Nat) (out r : List UInt8),out.length ≤ 20000 → uzGo s b f pos out = some r → r.length ≤ 20000
 | 0,pos,out,r,hl,h => by
  rw [uzGo] at h
  split at h
  ·cases h
  ·cases h; exact hl
 | f + 1,pos,out,r,hl,h => by
  rw [uzGo] at h
  by_cases hp : pos < s.size
  ·rw [if_pos hp] at h
   cases hd : decVar s pos with
   | none => rw [hd] at h; cases h
   | some x =>
    obtain ⟨n,j⟩ := x
    rw [hd] at h
    simp only at h
    have hn := Ym hd
    cases hu : unpackText s ((pos : Int) + (j : Int)) with
    | none => rw [hu] at h; cases h
    | some y =>
     obtain ⟨t,k⟩ := y
     rw [hu] at h
     simp only at h
     split at h
     ·cases h
     ·rename_i hb
      split at h
      ·cases h
      ·have e : t.data.toList.length = t.size := by simp
       exact uz_len s b f _ _ _ (by simp only [List.length_append,List.length_replicate]; omega) h
  ·rw [if_neg hp] at h; cases h; exact hl
theorem unpackZ_eq (s : ByteArray) (hL : s.size ≤ 1099511627775) : unpackZ true s = unpackZ false s := by
 unfold unpackZ
 cases h : uzGo s false s.size 0 [] with
 | none =>
  cases h2 : uzGo s true s.size 0 [] with
  | none => rfl
  | some r => rw [uz_mono s _ _ _ _ h2] at h; cases h
 | some r =>
  by_cases hr : bs (packZ r) = s
  ·have hc := uz_canon s hL s.size 0 [] r (by have := uz_len s false _ _ _ _ (by simp) h; omega) (by rw [List.drop_zero,← hr,Yh])
   rw [hc,h]
  ·simp only [if_neg hr]
   cases h2 : uzGo s true s.size 0 [] with
   | none => rfl
   | some r' =>
    have := uz_mono s _ _ _ _ h2
    rw [h] at this
    cases this
    simp only [if_neg hr]
theorem tw_gen {q : UInt8 → Bool} : ∀ {xs : List UInt8} {n : Nat},(∀ j,j < n → ∃ y,xs[j]? = some y ∧ q y = true) → (∀ y,xs[n]? = some y → q y = false) → xs.takeWhile q = xs.take n ∧ xs.dropWhile q = xs.drop n
 | [],n,_,_ => by simp
 | x :: xs,0,_,h2 => by
  have := h2 x (by simp)
  rw [List.takeWhile_cons,List.dropWhile_cons,this]
  simp
 | x :: xs,n + 1,h1,h2 => by
  obtain ⟨y,hy,hq⟩ := h1 0 (by omega)
  simp at hy
  subst hy
  obtain ⟨a,b⟩ := tw_gen (q := q) (xs := xs) (n := n) (fun j hj => by have := h1 (j + 1) (by omega); simpa using this) (fun y hy => h2 y (by simpa using hy))
  rw [List.takeWhile_cons,List.dropWhile_cons,hq]
  simp [a,b]
theorem byte_some {s : ByteArray} {a j : Nat} {b : UInt8} (h : (s.data.toList.drop a)[j]? = some b) : a + j < s.size ∧ byteAt s (a + j) = (b.toNat : Int) := by
 rw [List.getElem?_drop] at h
 have hl := (List.getElem?_eq_some_iff.1 h).1
 have e : s.data.toList.length = s.size := by simp
 obtain ⟨b',h1,h2⟩ := byteAt_list (s := s) (i := a + j) (by omega)
 rw [h] at h1
 cases h1
 exact ⟨by omega,h2⟩
theorem zero_iff {b : UInt8} : zeroB b = true ↔ (b.toNat : Int) = 0 := by
 simp only [zeroB,beq_iff_eq]
 constructor
 ·intro h; subst h; rfl
 ·intro h; exact UInt8.toNat_inj.1 (by simpa using h)
theorem text_list (t : ByteArray) : (packText t).data.toList = encVar (t.size : Nat) ++ t.data.toList := by simp [packText,ByteArray.append,bs]
theorem Zh {s : ByteArray} {a m i : Nat} (h1 : a ≤ m) (h2 : m ≤ i) (h3 : i ≤ s.size) (hlt : a < i) (hz : ∀ j,a ≤ j → j < m → byteAt s j = 0) (hm : m < s.size → byteAt s m ≠ 0) (hn : ∀ j,m ≤ j → j < i → byteAt s j ≠ 0) (hi : i < s.size → byteAt s i = 0) :
  packZ (s.data.toList.drop a) = encVar ((m - a : Nat) : Int) ++ (packText (s.extract m i)).data.toList ++ packZ (s.data.toList.drop i) := by
 have e : s.data.toList.length = s.size := by simp
 have ht1 := tw_gen (q := zeroB) (xs := s.data.toList.drop a) (n := m - a) (fun j hj => by
  obtain ⟨y,hy⟩ : ∃ y,(s.data.toList.drop a)[j]? = some y := ⟨_,List.getElem?_eq_getElem (by simp; omega)⟩
  exact ⟨y,hy,zero_iff.2 (by rw [← (byte_some hy).2]; exact hz _ (by omega) (by omega))⟩) (fun y hy => by
  have := byte_some hy
  rw [show a + (m - a) = m by omega] at this
  rw [← Bool.not_eq_true,zero_iff,← this.2]
  exact hm this.1)
 rw [List.drop_drop,show a + (m - a) = m by omega] at ht1
 have ht2 := tw_gen (q := someB) (xs := s.data.toList.drop m) (n := i - m) (fun j hj => by
  obtain ⟨y,hy⟩ : ∃ y,(s.data.toList.drop m)[j]? = some y := ⟨_,List.getElem?_eq_getElem (by simp; omega)⟩
  refine ⟨y,hy,?_⟩
  have h4 : ¬ zeroB y = true := by rw [zero_iff,← (byte_some hy).2]; exact hn _ (by omega) (by omega)
  simpa [zeroB,someB] using h4) (fun y hy => by
  have := byte_some hy
  rw [show m + (i - m) = i by omega] at this
  have h4 : zeroB y = true := by rw [zero_iff,← this.2]; exact hi this.1
  simpa [zeroB,someB] using h4)
 rw [List.drop_drop,show m + (i - m) = i by omega] at ht2
 have hne : s.data.toList.drop a ≠ [] := by
  intro h
  have := congrArg List.length h
  simp only [List.length_drop,List.length_nil] at this
  omega
 have hx : (s.extract m i).data.toList = (s.data.toList.drop m).take (i - m) := extract_list s m i
 have hsz : (s.extract m i).size = i - m := by rw [ByteArray.size_extract]; omega
 rw [text_list,hx,hsz]
 cases hd : s.data.toList.drop a with
 | nil => exact absurd hd hne
 | cons x r =>
  rw [packZ,← hd,ht1.1,ht1.2,ht2.1,ht2.2,List.length_take,List.length_take,List.length_drop,List.length_drop,show min (m - a) (s.data.toList.length - a) = m - a by omega,show min (i - m) (s.data.toList.length - m) = i - m by omega]
theorem packZ_nil : packZ [] = [] := by rw [packZ]
end
section
open Go.RowKit

def zeroS (k : Nat) : ByteArray := ⟨Array.replicate k 0⟩
theorem zeroS_list (k : Nat) : (zeroS k).data.toList = List.replicate k 0 := by simp [zeroS]
theorem zeroS_size (k : Nat) : (zeroS k).size = k := by simp [zeroS,ByteArray.size]
theorem zeroS_cells (k : Nat) : (byteCells (zeroS k)).toArray = Builtin.zeroCells #[.int .u8 0] k := by
 apply Array.ext'
 apply List.ext_getElem
 ·simp [byteCells,zeroS,Builtin.zeroCells]
 ·intro i h1 h2
  simp [byteCells,zeroS,Builtin.zeroCells,Nat.mod_one]
theorem append_zeros_run {P : Program} (w : World) (t tn ts ty e : TypeId) (i : TypeInfo) {kn : IntKind} (ht : P.underlying t = some (.slice e)) (htn : P.underlying tn = some (.int kn)) (hts : P.underlying ts = some .string) (hi : P.info? e = some i) {z : Value} (hz : i.zero = some z) (hzc : z.cells = #[.int .u8 0]) (hsz : i.size = 1) (hb : i.bytes = 1)
  (base : Option Addr) (sLen sCap k : Nat) (hcap : sLen ≤ sCap) (hk : sLen + k ≤ 140737488355328) :
  (Builtin.append_ #[t,tn] ty #[.slice base sLen sCap,.int .i64 k]).run P w = (Builtin.append_ #[t,ts] ty #[.slice base sLen sCap,.string (zeroS k)]).run P w := by
 have hs := Src.ofString (P := P) w hts (zeroS k)
 have hc := zeroS_cells k
 rw [zeroS_size] at hs
 obtain ⟨_,hl,hcells,hcellsD,_,_⟩ := hs
 have hcA : ∀ w' : World,(Builtin.firstCells 1 k (.string (zeroS k))).run P w' = .ok (byteCells (zeroS k)).toArray w' := fun w' => by
  have := firstCells_string (P := P) (zeroS k) w'
  rwa [zeroS_size] at this
 have hw : IntKind.i64.wrap (k : Int) = k := by rw [IntKind.wrap_i64]; omega
 have hw0 : IntKind.i64.wrap (0 : Int) = 0 := by rw [IntKind.wrap_i64]; omega
 have hneg : ¬ ((k : Int) < 0) := by omega
 have h48i : ¬ (281474976710656 < (k : Int)) := by omega
 have h63' : ¬ (9223372036854775807 < ((sLen : Int) + (k : Int))) := by omega
 by_cases hroom : sLen + k ≤ sCap
 ·by_cases h0 : k = 0
  ·subst h0
   have hc0 : (byteCells (zeroS 0)).toArray = #[] := rfl
   simp [Builtin.append_,run_underlying ht,run_underlying htn,run_underlying hts,Go.sizeOf,typeInfo,zeroValue,hi,hz,hsz,hb,asInt,asIntOf,hw0,hl,hcA,hc0] at hroom ⊢
   simp [hroom]
  ·simp [Builtin.append_,run_underlying ht,run_underlying htn,run_underlying hts,Go.sizeOf,typeInfo,zeroValue,hi,hz,hsz,hb,asInt,asIntOf,hw,hneg,h0,h48i,hl,hroom,hcA,hc,hzc]
 ·by_cases h0 : k = 0
  ·omega
  ·have hfit := growslice_fits (need := sLen + k) (old := sCap) (bytes := 1) (by omega) (by omega)
   have h48' : ¬ (281474976710656 < Builtin.nextslicecap (sLen + k) sCap) := by omega
   simp [h48',Builtin.append_,run_underlying ht,run_underlying htn,run_underlying hts,Go.sizeOf,typeInfo,zeroValue,hi,hz,hsz,hb,asInt,asIntOf,hw,hneg,h0,h48i,h63',hl,hroom,hcA,hc,hzc]
theorem append_zs {P : Program} {w : World} {t tn ts ty e : TypeId} {kn : IntKind} [hm : TyMake P t e [.int .u8 0] 1] [hn : TyInt P tn kn] [hts : TyStr P ts] {es : List (List T)} {v : Value} {fp : List Nat} (hw : OW w (.sl 1 es) v fp) (k : Nat) (hk : es.length + k ≤ 140737488355328) :
  (Builtin.append_ #[t,tn] ty #[v,.int .i64 k]).run P w = (Builtin.append_ #[t,ts] ty #[v,.string (zeroS k)]).run P w := by
 obtain ⟨i,hi,hzz⟩ := Option.map_eq_some_iff.1 hm.info
 simp only [Prod.mk.injEq] at hzz
 obtain ⟨hz1,hs,hb1⟩ := hzz
 obtain ⟨z,hz2,hz3⟩ := Option.map_eq_some_iff.1 hz1
 have hzc : z.cells = #[.int .u8 0] := Array.ext' hz3
 rcases hw.open_ with ⟨rfl,rfl,rfl⟩ | ⟨b,o,c,tid,cur,fz,val,fps,rfl,_,_,_,hc,_⟩
 ·exact append_zeros_run w t tn ts ty e i hm.slice hn.int hts.str hi hz2 hzc hs hb1 none 0 0 k (Nat.le_refl _) (by simpa using hk)
 ·exact append_zeros_run w t tn ts ty e i hm.slice hn.int hts.str hi hz2 hzc hs hb1 _ es.length c k hc hk
section
variable {P : Program} {E : Env} {ops : Array Oper} {rest : List Oper} {o : Oper} {QQ : Exit → St → Prop} {st : St} {t : TypeId} {y z : Operand} {qs : List Nat}
theorem L_appz {p : Nat} {tn : TypeId} (ts : TypeId) {kn : IntKind} {k : Nat} {es : List (List T)} {e : TypeId} [hm : TyMake P t e [.int .u8 0] 1] [hn : TyInt P tn kn] [hts : TyStr P ts] (ho : o.op = .call { callee := .builtin .append,args := #[y,z],argTypes := #[t,tn] }) (hg : o.guard = none) (hy : st.ev y = .o (.c (.ref p))) (hp : st.objs[p]? = some (.row 1 es)) (hz : st.ev z = .o (.c (.rd qs (.v (.int .i64 (k : Int))))))
  (hb : es.length + k ≤ 140737488355328)
  (hd : dstOk st.n o.dst = true) (h : AL P E ops QQ rest ⟨st.n,setT (st.tmps.map fun e => (e.1,e.2.kill [p])) o.dst (.o (.c (.ref p))),(st.objs.map (Ob.kill [p])).set p (.row 1 (es ++ bE (List.replicate k 0)))⟩) : AL P E ops QQ (o :: rest) st := by
 refine ⟨fun a w ⟨H,F,h1,h2⟩ => ?_⟩
 obtain ⟨v,fp,e1,e2⟩ := h1.ow hp
 obtain ⟨x',fp',e3⟩ := h1.v1 hy
 rw [e1] at e3
 simp only [Pc.ow.injEq] at e3
 obtain ⟨_,hv,_⟩ := e3
 have hnd := h1.ok.nodup p
 rw [e1] at hnd
 have hlen : (bE (zeroS k).data.toList).length = k := by rw [Ye,zeroS_list,List.length_replicate]
 obtain ⟨v',w',fp'',hr,h3,h4,h5,h6⟩ := append_src (P := P) (o := o) (t := t) (kk := 1) e2 hnd rfl (by simp) (bE_src (tx := ts) (zeroS k)) (bE_plain _) (bE_one _) (by rw [hlen]; omega) (by rw [hlen]; omega)
 rw [← append_zs (tn := tn) e2 k hb] at hr
 rw [zeroS_list] at h3
 obtain ⟨hok,htn⟩ := h1.ok.turn (p := p) (fp := fp) (by rw [e1]; rfl) h6 (.ow (.sl 1 (es ++ bE (List.replicate k 0))) v' fp'') h3 h4 trivial h5
 obtain ⟨hplt,_⟩ := List.getElem?_eq_some_iff.1 hp
 have hR := h1.turn htn hok ((st.objs.map (Ob.kill [p])).set p (.row 1 (es ++ bE (List.replicate k 0)))) (fun q hq => ?_) (fun q hq => ?_)
 ·have hR2 := hR.put (x := .o (.c (.ref p))) o.dst hd (v := v') ⟨_,_,Hs.put_self _ _ _⟩
  refine wpList_step fun K hK => ?_
  rw [if_pos (by unfold Region.wanted; rw [hg])]
  unfold Oper.wp
  rw [Yv ho (by rw [← hv,h1.plain hz]; exact hr)]
  exact hK _ _ (h.h _ _ ⟨_,F,hR2,h2.turn htn⟩)
 ·have hqp : q ≠ p := by simpa using hq
  rw [List.getD_eq_getElem?_getD,List.getElem?_set_ne (Ne.symm hqp),List.getElem?_map,List.getD_eq_getElem?_getD]
  cases st.objs[q]? <;> rfl
 ·have hqp : q = p := by simpa using hq
  subst hqp
  rw [Yy (x := .row 1 (es ++ bE (List.replicate k 0))) (by simp [hplt])]
  exact ⟨_,_,Hs.put_self _ _ _⟩
theorem M_appz {n d p : Nat} {ts' : List (Nat × V)} {obs : List Ob} {tn : TypeId} (ts : TypeId) {kn : IntKind} {k : Nat} {es : List (List T)} {e : TypeId} [hm : TyMake P t e [.int .u8 0] 1] [hn : TyInt P tn kn] [hts : TyStr P ts] (ho : o.op = .call { callee := .builtin .append,args := #[y,z],argTypes := #[t,tn] }) (hg : o.guard = none) (hy : St.ev ⟨n,ts',obs⟩ y = .o (.c (.ref p))) (hp : obs[p]? = some (.row 1 es)) (hz : St.ev ⟨n,ts',obs⟩ z = .o (.c (.rd qs (.v (.int .i64 (k : Int))))))
  (hd : o.dst = some d) (hl : Nat.blt d n = true) (hb : es.length + k ≤ 140737488355328)
  (h : AL P E ops QQ rest ⟨n,(d,.o (.c (.ref p))) :: (ts'.map fun e => (e.1,e.2.kill [p])),(obs.map (Ob.kill [p])).set p (.row 1 (es ++ bE (List.replicate k 0)))⟩) : AL P E ops QQ (o :: rest) ⟨n,ts',obs⟩ :=
 L_appz (st := ⟨n,ts',obs⟩) ts ho hg hy hp hz hb (by rw [hd]; exact hl) (by rw [hd]; exact h)
end
end
section
open Go.RowKit

theorem upZ {s : ByteArray} {i q : Nat} (h : ∀ j,i ≤ j → j < q → byteAt s j = 0) (hq : byteAt s q = 0) : ∀ j,i ≤ j → j < q + 1 → byteAt s j = 0 := fun j h1 h2 => by
 by_cases e : j = q
 ·subst e; exact hq
 ·exact h j h1 (by omega)
theorem upN {s : ByteArray} {i q : Nat} (h : ∀ j,i ≤ j → j < q → byteAt s j ≠ 0) (hq : byteAt s q ≠ 0) : ∀ j,i ≤ j → j < q + 1 → byteAt s j ≠ 0 := fun j h1 h2 => by
 by_cases e : j = q
 ·subst e; exact hq
 ·exact h j h1 (by omega)
theorem Kt (t : ByteArray) : (packText t).data.toList.length ≤ t.size + 6 := by
 rw [text_list,List.length_append]
 have := Yu (t.size : Nat)
 have e : t.data.toList.length = t.size := by simp
 omega
theorem I_PackZeros (s : ByteArray) (hs : s.size ≤ 1099511627775) : Con Tryz.prog 60 [] [astr s] [] (S (bs (packZ s.data.toList))) := by
 refine Con.of Tryz.func60 J Tryz.ntmps60 J (fun E => ?_)
 refine zy (z1 J (zz (zy (z1 J (zz (zy ?_))))));refine z1 J (zz (Qd (Qk ?_)))
 refine AWP.pre ?_ (W_nil 3 1 J)
 refine A_lq (fun m__ st => ∃ (i : Nat) (acc : List UInt8),s.size - i = m__ ∧ (acc ++ packZ (s.data.toList.drop i) = packZ s.data.toList ∧ i ≤ s.size ∧ acc.length ≤ 14 * i) ∧ st = (⟨_,[(0,S s),(3,.o (.c (.ref 0))),(4,I i)],[.row 1 (bE acc)]⟩ : St)) _ ⟨_,⟨0,[],J,by simp,J⟩,W_gj [0] J⟩ ?_
 rintro m_A _ ⟨i,acc,hk_A,hp_A,rfl⟩
 obtain ⟨hp1,hp2,hp3⟩ := hp_A
 refine Qd (zy (z0 J (z0 J (zx (Z3 J J J) J (zx (Z5 J J J J) J (zz ?_))))))
 refine Xb J (fun h5 => ?_) (fun h5 => ?_)
 ·have h5 : i < s.size := by have := of_decide_eq_true h5; omega
  have hb := Ye acc
  have hb1 := Yi acc
  refine Qh (Q0 (Qk (zy (z0 J (z1 J (zz (Qd (Qk ?_))))))));refine A_lq (fun m__ st => ∃ (q : Nat),s.size - q = m__ ∧ (i ≤ q ∧ q ≤ s.size ∧ (∀ j,i ≤ j → j < q → byteAt s j = 0)) ∧ st = (⟨_,[(0,S s),(3,.o (.c (.ref 0))),(4,I q),(5,I i)],[.row 1 (bE acc)]⟩ : St)) _ ⟨_,⟨i,J,⟨Nat.le_refl _,by omega,fun q h1 h2 => by omega⟩,J⟩,W_gj [0] J⟩ ?_
  rintro m_D _ ⟨q,hk_D,hp_D,rfl⟩
  obtain ⟨hd1,hd2,hd3⟩ := hp_D
  by_cases hq : q < s.size
  ·have f1 : decide ((q : Int) < s.size) = true := decide_eq_true (by omega)
   by_cases hz : byteAt s q = 0
   ·have f2 : decide (byteAt s (q : Int).toNat = 0) = true := decide_eq_true hz
    refine Qd (zy (z0 J (z0 J (zx (Z3 J J J) J (z9a J (by assumption) (z0 J (z5 J (z0 J (z5 J (z0 J ?_))))))))));refine z5 J (zx (Zr J J J J (by assumption) (by omega)) J (z5 J ?_));refine zx (Qv (b := true) J J J J (by decide)) J ?_;refine zpT J (zz (Qm J (Qh (Q0 (Qk (Qc (z0 J (z7 J (by omega) (z1 J (Qe ?_))))))))));refine Q1 (Q0 ?_)
    refine ⟨_,(by omega),_,⟨q + 1,J,⟨by omega,by omega,upZ hd3 hz⟩,J⟩,W_gj [0] J⟩
   ·have f2 : decide (byteAt s (q : Int).toNat = 0) = false := decide_eq_false hz
    refine Qd (zy (z0 J (z0 J (zx (Z3 J J J) J (z9a J (by assumption) (z0 J (z5 J (z0 J (z5 J (z0 J ?_))))))))));refine z5 J (zx (Zq J J J J (by omega)) J (z5 J (z9e J (by assumption) (zpT J (zz (Ql J (Q9 (T_x (T_x (Xl ?_))))))))));refine Q0 (zy (z0 J (z1 J (zz (Qd (Qk ?_))))));refine A_lq (fun m__ st => ∃ (e : Nat),s.size - e = m__ ∧ (q ≤ e ∧ e ≤ s.size ∧ (∀ j,q ≤ j → j < e → byteAt s j ≠ 0)) ∧ st = (⟨_,[(0,S s),(3,.o (.c (.ref 0))),(4,I e),(5,I i),(6,I q)],[.row 1 (bE acc)]⟩ : St)) _ ⟨_,⟨q,J,⟨Nat.le_refl _,hd2,fun j h1 h2 => by omega⟩,J⟩,W_gj [0] J⟩ ?_
    rintro m_G _ ⟨e,hk_G,hp_G,rfl⟩
    obtain ⟨hg1,hg2,hg3⟩ := hp_G
    by_cases he : e < s.size
    ·have f3 : decide ((e : Int) < s.size) = true := decide_eq_true (by omega)
     by_cases hn : byteAt s e ≠ 0
     ·have f4 : decide (byteAt s (e : Int).toNat ≠ 0) = true := decide_eq_true hn
      refine Qd (zy (z0 J (z0 J (zx (Z3 J J J) J (z9a J (by assumption) (z0 J (z5 J (z0 J (z5 J (z0 J ?_))))))))));refine z5 J (zx (Zq J J J J (by omega)) J (z5 J (z9f J (by assumption) (zpT J (zz (Qm J (Qh (Q0 (Qk (Qc ?_))))))))));refine z0 J (z7 J (by omega) (z1 J (Qe (Q1 (Q0 ?_)))))
      refine ⟨_,(by omega),_,⟨e + 1,J,⟨by omega,by omega,upN hg3 hn⟩,J⟩,W_gj [0] J⟩
     ·have hn := Classical.not_not.1 hn
      have f4 : decide (byteAt s (e : Int).toNat ≠ 0) = false := decide_eq_false (fun q => q hn)
      have hie : i < e := by
       rcases Nat.lt_or_ge i e with h6 | h6
       ·exact h6
       ·exact absurd hn (by have : e = q := (by omega); rw [this]; exact (fun _ => hz) (by omega))
      have hst := Zh hd1 hg1 hg2 hie hd3 (fun _ => hz) hg3 (fun _ => hn)
      have hl1 := Yu ((q - i : Nat) : Int)
      have hl2 := Kt (s.extract q e)
      have hl3 : (s.extract q e).size = e - q := by rw [ByteArray.size_extract]; omega
      have hl4 := Yi (encVar ((q - i : Nat) : Int))
      have hl5 := Zg (s.extract q e)
      have hl6 : (packText (s.extract q e)).data.toList.length = (packText (s.extract q e)).size := by simp
      have ee : (q : Int) - i = ((q - i : Nat) : Int) := by omega
      have hce := Xt ((q - i : Nat) : Int)
      have hct := I_PackText (s.extract q e) (by omega)
      have hst2 : (acc ++ encVar ((q - i : Nat) : Int) ++ (packText (s.extract q e)).data.toList) ++ packZ (s.data.toList.drop e) = packZ s.data.toList := by rw [← hp1,hst]; simp only [List.append_assoc]
      have hl1' := hl1
      rw [← ee] at hce hl1 hl4
      have hq1 : (bE (bs (encVar ((q : Int) - i))).data.toList).length = (encVar ((q : Int) - i)).length := by rw [Ye,Yh]
      have hq2 : (bE (encVar ((q : Int) - i))).length = (encVar ((q : Int) - i)).length := Ye _
      refine Qd (zy (z0 J (z0 J (zx (Z3 J J J) J (z9a J (by assumption) (z0 J (z5 J (z0 J (z5 J (z0 J ?_))))))))));refine z5 J (zx (Zr J J J J (by assumption) (by omega)) J (z5 J ?_));refine zx (Qw (b := false) J J J J (by decide)) J ?_;refine zpT J (zz (Ql J (Q9 (T_x (T_x (Xl (Q0 (zy (z0 J ?_)))))))));refine z0 J (z0 J (z8 J (by omega) ?_));refine zx (Qj J J (hce) J) J ?_;refine Xz J J J J J J J (by omega) (by omega) ?_;refine z1 J (zz (Qc (z0 J (z0 J (z0 J (z0 J (zx (Kb J J J J J (by omega)) J ?_)))))));refine zx (Qj J J (hct) J) J ?_
      refine Xz J J J J J J J (by simp only [List.length_append]; omega) (by simp only [List.length_append]; omega) ?_;refine z1 J ?_
      refine Qe (Q1 (Q0 ?_))
      refine ⟨_,(by omega),(fun (i : Nat) (acc : List UInt8) => (⟨_,[(0,S s),(3,.o (.c (.ref 0))),(4,I i)],[.row 1 (bE acc)]⟩ : St)) (e) (acc ++ encVar ((q - i : Nat) : Int) ++ (packText (s.extract q e)).data.toList),⟨e,acc ++ encVar ((q - i : Nat) : Int) ++ (packText (s.extract q e)).data.toList,J,⟨hst2,hg2,by simp only [List.length_append]; omega⟩,J⟩,X8 [0] (by decide) J (Ki (by rw [Yh,Yd,Yd,ee])) (.c J (.c J (.c J (.nil))))⟩
    ·have f3 : decide ((e : Int) < s.size) = false := decide_eq_false (by omega)
     have hst := Zh hd1 hg1 hg2 (by omega) hd3 (fun _ => hz) hg3 (fun h6 => absurd h6 he)
     have hl1 := Yu ((q - i : Nat) : Int)
     have hl2 := Kt (s.extract q e)
     have hl3 : (s.extract q e).size = e - q := by rw [ByteArray.size_extract]; omega
     have hl4 := Yi (encVar ((q - i : Nat) : Int))
     have hl5 := Zg (s.extract q e)
     have hl6 : (packText (s.extract q e)).data.toList.length = (packText (s.extract q e)).size := by simp
     have ee : (q : Int) - i = ((q - i : Nat) : Int) := by omega
     have hce := Xt ((q - i : Nat) : Int)
     have hct := I_PackText (s.extract q e) (by omega)
     have hst2 : (acc ++ encVar ((q - i : Nat) : Int) ++ (packText (s.extract q e)).data.toList) ++ packZ (s.data.toList.drop e) = packZ s.data.toList := by rw [← hp1,hst]; simp only [List.append_assoc]
     have hl1' := hl1
     rw [← ee] at hce hl1 hl4
     have hq1 : (bE (bs (encVar ((q : Int) - i))).data.toList).length = (encVar ((q : Int) - i)).length := by rw [Ye,Yh]
     have hq2 : (bE (encVar ((q : Int) - i))).length = (encVar ((q : Int) - i)).length := Ye _
     refine Qd (zy (z0 J (z0 J (zx (Z3 J J J) J (z9a J (by assumption) (z0 J (z6 J (z6 J (z6 J (z6 J ?_))))))))));refine zpF J (zz (Ql J (Q9 (T_x (T_x (Xl (Q0 (zy (z0 J ?_)))))))));refine z0 J (z0 J (z8 J (by omega) ?_));refine zx (Qj J J (hce) J) J ?_;refine Xz J J J J J J J (by omega) (by omega) ?_;refine z1 J (zz (Qc (z0 J (z0 J (z0 J (z0 J (zx (Kb J J J J J (by omega)) J ?_)))))));refine zx (Qj J J (hct) J) J ?_
     refine Xz J J J J J J J (by simp only [List.length_append]; omega) (by simp only [List.length_append]; omega) ?_;refine z1 J ?_
     refine Qe (Q1 (Q0 ?_))
     refine ⟨_,(by omega),(fun (i : Nat) (acc : List UInt8) => (⟨_,[(0,S s),(3,.o (.c (.ref 0))),(4,I i)],[.row 1 (bE acc)]⟩ : St)) (e) (acc ++ encVar ((q - i : Nat) : Int) ++ (packText (s.extract q e)).data.toList),⟨e,acc ++ encVar ((q - i : Nat) : Int) ++ (packText (s.extract q e)).data.toList,J,⟨hst2,hg2,by simp only [List.length_append]; omega⟩,J⟩,X8 [0] (by decide) J (Ki (by rw [Yh,Yd,Yd,ee])) (.c J (.c J (.c J (.nil))))⟩
  ·have f1 : decide ((q : Int) < s.size) = false := decide_eq_false (by omega)
   refine Qd (zy (z0 J (z0 J (zx (Z3 J J J) J (z9a J (by assumption) (z0 J (z6 J (z6 J (z6 J (z6 J ?_))))))))));refine zpF J (zz (Ql J (Q9 (T_x (T_x (Xl (Q0 (zy (z0 J ?_)))))))));refine z1 J (zz (Qd (Qk ?_)));refine A_lq (fun m__ st => ∃ (e : Nat),s.size - e = m__ ∧ (q ≤ e ∧ e ≤ s.size ∧ (∀ j,q ≤ j → j < e → byteAt s j ≠ 0)) ∧ st = (⟨_,[(0,S s),(3,.o (.c (.ref 0))),(4,I e),(5,I i),(6,I q)],[.row 1 (bE acc)]⟩ : St)) _ ⟨_,⟨q,J,⟨Nat.le_refl _,hd2,fun j h1 h2 => by omega⟩,J⟩,W_gj [0] J⟩ ?_
   rintro m_G _ ⟨e,hk_G,hp_G,rfl⟩
   obtain ⟨hg1,hg2,hg3⟩ := hp_G
   by_cases he : e < s.size
   ·have f3 : decide ((e : Int) < s.size) = true := decide_eq_true (by omega)
    by_cases hn : byteAt s e ≠ 0
    ·have f4 : decide (byteAt s (e : Int).toNat ≠ 0) = true := decide_eq_true hn
     refine Qd (zy (z0 J (z0 J (zx (Z3 J J J) J (z9a J (by assumption) (z0 J (z5 J (z0 J (z5 J (z0 J ?_))))))))));refine z5 J (zx (Zq J J J J (by omega)) J (z5 J (z9f J (by assumption) (zpT J (zz (Qm J (Qh (Q0 (Qk (Qc ?_))))))))));refine z0 J (z7 J (by omega) (z1 J (Qe (Q1 (Q0 ?_)))))
     refine ⟨_,(by omega),_,⟨e + 1,J,⟨by omega,by omega,upN hg3 hn⟩,J⟩,W_gj [0] J⟩
    ·have hn := Classical.not_not.1 hn
     have f4 : decide (byteAt s (e : Int).toNat ≠ 0) = false := decide_eq_false (fun q => q hn)
     have hie : i < e := by
      rcases Nat.lt_or_ge i e with h6 | h6
      ·exact h6
      ·exact absurd hn (by have : e = q := (by omega); rw [this]; exact (fun h6 => absurd h6 hq) (by omega))
     have hst := Zh hd1 hg1 hg2 hie hd3 (fun h6 => absurd h6 hq) hg3 (fun _ => hn)
     have hl1 := Yu ((q - i : Nat) : Int)
     have hl2 := Kt (s.extract q e)
     have hl3 : (s.extract q e).size = e - q := by rw [ByteArray.size_extract]; omega
     have hl4 := Yi (encVar ((q - i : Nat) : Int))
     have hl5 := Zg (s.extract q e)
     have hl6 : (packText (s.extract q e)).data.toList.length = (packText (s.extract q e)).size := by simp
     have ee : (q : Int) - i = ((q - i : Nat) : Int) := by omega
     have hce := Xt ((q - i : Nat) : Int)
     have hct := I_PackText (s.extract q e) (by omega)
     have hst2 : (acc ++ encVar ((q - i : Nat) : Int) ++ (packText (s.extract q e)).data.toList) ++ packZ (s.data.toList.drop e) = packZ s.data.toList := by rw [← hp1,hst]; simp only [List.append_assoc]
     have hl1' := hl1
     rw [← ee] at hce hl1 hl4
     have hq1 : (bE (bs (encVar ((q : Int) - i))).data.toList).length = (encVar ((q : Int) - i)).length := by rw [Ye,Yh]
     have hq2 : (bE (encVar ((q : Int) - i))).length = (encVar ((q : Int) - i)).length := Ye _
     refine Qd (zy (z0 J (z0 J (zx (Z3 J J J) J (z9a J (by assumption) (z0 J (z5 J (z0 J (z5 J (z0 J ?_))))))))));refine z5 J (zx (Zr J J J J (by assumption) (by omega)) J (z5 J ?_));refine zx (Qw (b := false) J J J J (by decide)) J ?_;refine zpT J (zz (Ql J (Q9 (T_x (T_x (Xl (Q0 (zy (z0 J ?_)))))))));refine z0 J (z0 J (z8 J (by omega) ?_));refine zx (Qj J J (hce) J) J ?_;refine Xz J J J J J J J (by omega) (by omega) ?_;refine z1 J (zz (Qc (z0 J (z0 J (z0 J (z0 J (zx (Kb J J J J J (by omega)) J ?_)))))));refine zx (Qj J J (hct) J) J ?_
     refine Xz J J J J J J J (by simp only [List.length_append]; omega) (by simp only [List.length_append]; omega) ?_;refine z1 J ?_
     refine Qe (Q1 (Q0 ?_))
     refine ⟨_,(by omega),(fun (i : Nat) (acc : List UInt8) => (⟨_,[(0,S s),(3,.o (.c (.ref 0))),(4,I i)],[.row 1 (bE acc)]⟩ : St)) (e) (acc ++ encVar ((q - i : Nat) : Int) ++ (packText (s.extract q e)).data.toList),⟨e,acc ++ encVar ((q - i : Nat) : Int) ++ (packText (s.extract q e)).data.toList,J,⟨hst2,hg2,by simp only [List.length_append]; omega⟩,J⟩,X8 [0] (by decide) J (Ki (by rw [Yh,Yd,Yd,ee])) (.c J (.c J (.c J (.nil))))⟩
   ·have f3 : decide ((e : Int) < s.size) = false := decide_eq_false (by omega)
    have hst := Zh hd1 hg1 hg2 (by omega) hd3 (fun h6 => absurd h6 hq) hg3 (fun h6 => absurd h6 he)
    have hl1 := Yu ((q - i : Nat) : Int)
    have hl2 := Kt (s.extract q e)
    have hl3 : (s.extract q e).size = e - q := by rw [ByteArray.size_extract]; omega
    have hl4 := Yi (encVar ((q - i : Nat) : Int))
    have hl5 := Zg (s.extract q e)
    have hl6 : (packText (s.extract q e)).data.toList.length = (packText (s.extract q e)).size := by simp
    have ee : (q : Int) - i = ((q - i : Nat) : Int) := by omega
    have hce := Xt ((q - i : Nat) : Int)
    have hct := I_PackText (s.extract q e) (by omega)
    have hst2 : (acc ++ encVar ((q - i : Nat) : Int) ++ (packText (s.extract q e)).data.toList) ++ packZ (s.data.toList.drop e) = packZ s.data.toList := by rw [← hp1,hst]; simp only [List.append_assoc]
    have hl1' := hl1
    rw [← ee] at hce hl1 hl4
    have hq1 : (bE (bs (encVar ((q : Int) - i))).data.toList).length = (encVar ((q : Int) - i)).length := by rw [Ye,Yh]
    have hq2 : (bE (encVar ((q : Int) - i))).length = (encVar ((q : Int) - i)).length := Ye _
    refine Qd (zy (z0 J (z0 J (zx (Z3 J J J) J (z9a J (by assumption) (z0 J (z6 J (z6 J (z6 J (z6 J ?_))))))))));refine zpF J (zz (Ql J (Q9 (T_x (T_x (Xl (Q0 (zy (z0 J ?_)))))))));refine z0 J (z0 J (z8 J (by omega) ?_));refine zx (Qj J J (hce) J) J ?_;refine Xz J J J J J J J (by omega) (by omega) ?_;refine z1 J (zz (Qc (z0 J (z0 J (z0 J (z0 J (zx (Kb J J J J J (by omega)) J ?_)))))));refine zx (Qj J J (hct) J) J ?_
    refine Xz J J J J J J J (by simp only [List.length_append]; omega) (by simp only [List.length_append]; omega) ?_;refine z1 J ?_
    refine Qe (Q1 (Q0 ?_))
    refine ⟨_,(by omega),(fun (i : Nat) (acc : List UInt8) => (⟨_,[(0,S s),(3,.o (.c (.ref 0))),(4,I i)],[.row 1 (bE acc)]⟩ : St)) (e) (acc ++ encVar ((q - i : Nat) : Int) ++ (packText (s.extract q e)).data.toList),⟨e,acc ++ encVar ((q - i : Nat) : Int) ++ (packText (s.extract q e)).data.toList,J,⟨hst2,hg2,by simp only [List.length_append]; omega⟩,J⟩,X8 [0] (by decide) J (Ki (by rw [Yh,Yd,Yd,ee])) (.c J (.c J (.c J (.nil))))⟩
 ·have h5 : i = s.size := by have := of_decide_eq_false h5; omega
  have e : s.data.toList.length = s.size := by simp
  refine Q9 (T_x (T_x (Xl (Q0 (zy (z0 J (zx (q_bstr J J J J) J (z1 J (zz ?_)))))))));refine Xa (F_r ?_)
  exact Xp J J (X6 [] (by decide) J J (S_eq (congrArg bs (by rw [← hp1,h5,List.drop_eq_nil_of_le (by omega),packZ_nil,List.append_nil]))))
theorem S_PackZeros (s : ByteArray) (hs : s.size ≤ 1099511627775) : Con Tryz.prog 121 [] [astr s] [] (S (bs (packZ s.data.toList))) := by
 refine Con.of Tryz.func121 J Tryz.ntmps121 J (fun E => ?_)
 refine zy (z1 J (zz (zy (z1 J (zz (Qd (Qd ?_)))))));refine Qc (z1 J (zz (Qk ?_)));refine A_lq (fun m__ st => ∃ (i : Nat) (acc : List UInt8),s.size - i = m__ ∧ (acc ++ packZ (s.data.toList.drop i) = packZ s.data.toList ∧ i ≤ s.size ∧ acc.length ≤ 14 * i) ∧ st = (⟨_,[(0,S s),(3,S (bs acc)),(4,I i)],[]⟩ : St)) _ ⟨_,⟨0,[],J,by simp,J⟩,W_gj [] J⟩ ?_
 rintro m_A _ ⟨i,acc,hk_A,hp_A,rfl⟩
 obtain ⟨hp1,hp2,hp3⟩ := hp_A
 refine Qd (zy (z0 J (z0 J (zx (Z3 J J J) J (zx (Z5 J J J J) J (zz ?_))))))
 refine Xb J (fun h5 => ?_) (fun h5 => ?_)
 ·have h5 : i < s.size := by have := of_decide_eq_true h5; omega
  have hb := Ye acc
  have hb1 := Yi acc
  refine Qh (Q0 (Qk (zy (z0 J (z1 J (zz (Qd (Qk ?_))))))));refine A_lq (fun m__ st => ∃ (q : Nat),s.size - q = m__ ∧ (i ≤ q ∧ q ≤ s.size ∧ (∀ j,i ≤ j → j < q → byteAt s j = 0)) ∧ st = (⟨_,[(0,S s),(3,S (bs acc)),(4,I q),(5,I i)],[]⟩ : St)) _ ⟨_,⟨i,J,⟨Nat.le_refl _,by omega,fun q h1 h2 => by omega⟩,J⟩,W_gj [] J⟩ ?_
  rintro m_D _ ⟨q,hk_D,hp_D,rfl⟩
  obtain ⟨hd1,hd2,hd3⟩ := hp_D
  by_cases hq : q < s.size
  ·have f1 : decide ((q : Int) < s.size) = true := decide_eq_true (by omega)
   by_cases hz : byteAt s q = 0
   ·have f2 : decide (byteAt s (q : Int).toNat = 0) = true := decide_eq_true hz
    refine Qd (zy (z0 J (z0 J (zx (Z3 J J J) J (z9a J (by assumption) (z0 J (z5 J (z0 J (z5 J (z0 J ?_))))))))));refine z5 J (zx (Zr J J J J (by assumption) (by omega)) J (z5 J ?_));refine zx (Qv (b := true) J J J J (by decide)) J ?_;refine zpT J (zz (Qm J (Qh (Q0 (Qk (Qc (z0 J (z7 J (by omega) (z1 J (Qe ?_))))))))));refine Q1 (Q0 ?_)
    refine ⟨_,(by omega),_,⟨q + 1,J,⟨by omega,by omega,upZ hd3 hz⟩,J⟩,W_gj [] J⟩
   ·have f2 : decide (byteAt s (q : Int).toNat = 0) = false := decide_eq_false hz
    refine Qd (zy (z0 J (z0 J (zx (Z3 J J J) J (z9a J (by assumption) (z0 J (z5 J (z0 J (z5 J (z0 J ?_))))))))));refine z5 J (zx (Zq J J J J (by omega)) J (z5 J (z9e J (by assumption) (zpT J (zz (Ql J (Q9 (T_x (T_x (Xl ?_))))))))));refine Q0 (zy (z0 J (z0 J (z8 J (by omega) (z1 J (zz (zy (z0 J ?_))))))));refine z1 J (zz (Qd (Qk ?_)));refine A_lq (fun m__ st => ∃ (e : Nat),s.size - e = m__ ∧ (q ≤ e ∧ e ≤ s.size ∧ (∀ j,q ≤ j → j < e → byteAt s j ≠ 0)) ∧ st = (⟨_,[(0,S s),(3,S (bs acc)),(4,I e),(5,I q),(6,I ((q : Int) - i))],[]⟩ : St)) _ ⟨_,⟨q,J,⟨Nat.le_refl _,hd2,fun j h1 h2 => by omega⟩,J⟩,W_gj [] J⟩ ?_
    rintro m_G _ ⟨e,hk_G,hp_G,rfl⟩
    obtain ⟨hg1,hg2,hg3⟩ := hp_G
    by_cases he : e < s.size
    ·have f3 : decide ((e : Int) < s.size) = true := decide_eq_true (by omega)
     by_cases hn : byteAt s e ≠ 0
     ·have f4 : decide (byteAt s (e : Int).toNat ≠ 0) = true := decide_eq_true hn
      refine Qd (zy (z0 J (z0 J (zx (Z3 J J J) J (z9a J (by assumption) (z0 J (z5 J (z0 J (z5 J (z0 J ?_))))))))));refine z5 J (zx (Zq J J J J (by omega)) J (z5 J (z9f J (by assumption) (zpT J (zz (Qm J (Qh (Q0 (Qk (Qc ?_))))))))));refine z0 J (z7 J (by omega) (z1 J (Qe (Q1 (Q0 ?_)))))
      refine ⟨_,(by omega),_,⟨e + 1,J,⟨by omega,by omega,upN hg3 hn⟩,J⟩,W_gj [] J⟩
     ·have hn := Classical.not_not.1 hn
      have f4 : decide (byteAt s (e : Int).toNat ≠ 0) = false := decide_eq_false (fun q => q hn)
      have hie : i < e := by
       rcases Nat.lt_or_ge i e with h6 | h6
       ·exact h6
       ·exact absurd hn (by have : e = q := (by omega); rw [this]; exact (fun _ => hz) (by omega))
      have hst := Zh hd1 hg1 hg2 hie hd3 (fun _ => hz) hg3 (fun _ => hn)
      have hl1 := Yu ((q - i : Nat) : Int)
      have hl2 := Kt (s.extract q e)
      have hl3 : (s.extract q e).size = e - q := by rw [ByteArray.size_extract]; omega
      have hl4 := Yi (encVar ((q - i : Nat) : Int))
      have hl5 := Zg (s.extract q e)
      have hl6 : (packText (s.extract q e)).data.toList.length = (packText (s.extract q e)).size := by simp
      have ee : (q : Int) - i = ((q - i : Nat) : Int) := by omega
      have hce := X3 ((q - i : Nat) : Int)
      have hct := S_PackText (s.extract q e) (by omega)
      have hst2 : (acc ++ encVar ((q - i : Nat) : Int) ++ (packText (s.extract q e)).data.toList) ++ packZ (s.data.toList.drop e) = packZ s.data.toList := by rw [← hp1,hst]; simp only [List.append_assoc]
      have hst3 : bs acc ++ bs (encVar ((q : Int) - i)) ++ packText (s.extract q e) = bs (acc ++ encVar ((q - i : Nat) : Int) ++ (packText (s.extract q e)).data.toList) := by rw [ee,← Yg,← Yg,bs_of (packText (s.extract q e))]
      have hl1' := hl1
      rw [← ee] at hce hl1 hl4
      have hq1 : (bE (bs (encVar ((q : Int) - i))).data.toList).length = (encVar ((q : Int) - i)).length := by rw [Ye,Yh]
      have hq2 : (bE (encVar ((q : Int) - i))).length = (encVar ((q : Int) - i)).length := Ye _
      refine Qd (zy (z0 J (z0 J (zx (Z3 J J J) J (z9a J (by assumption) (z0 J (z5 J (z0 J (z5 J (z0 J ?_))))))))));refine z5 J (zx (Zr J J J J (by assumption) (by omega)) J (z5 J ?_));refine zx (Qw (b := false) J J J J (by decide)) J ?_;refine zpT J (zz (Ql J (Q9 (T_x (T_x (Xl (Q0 (Xi u8_41 u8_42 u8_43 J (DR.s (Qa J J J) J J (DR.s (Qa J J J) J J ?_))))))))));refine DR.s (Qj J J (hce) J) J J ?_;refine DR.s (q_cat J J J J (by omega)) J J (DR.s (Qa J J J) J J (DR.s (Qa J J J) J J (DR.s (Qa J J J) J J (DR.s (Kb J J J J J (by omega)) J J ?_))));refine DR.s (Qj J J (hct) J) J J ?_
      refine DR.s (q_cat J J J J (by simp only [Yi,cat_size,List.length_cons,List.length_nil,List.length_append]; omega)) J J ?_
      refine DR.s (Qb J J J) J J (DR.stop (by kernel_rfl) (by kernel_rfl) (Qe (Q1 (Q0 ?_))))
      refine ⟨_,(by omega),(fun (i : Nat) (acc : List UInt8) => (⟨_,[(0,S s),(3,S (bs acc)),(4,I i)],[]⟩ : St)) (e) (acc ++ encVar ((q - i : Nat) : Int) ++ (packText (s.extract q e)).data.toList),⟨e,acc ++ encVar ((q - i : Nat) : Int) ++ (packText (s.extract q e)).data.toList,J,⟨hst2,hg2,by simp only [List.length_append]; omega⟩,J⟩,X8 [] (by decide) J (J) (.c J (.cons (S_eq hst3) (.c J (.nil))))⟩
    ·have f3 : decide ((e : Int) < s.size) = false := decide_eq_false (by omega)
     have hst := Zh hd1 hg1 hg2 (by omega) hd3 (fun _ => hz) hg3 (fun h6 => absurd h6 he)
     have hl1 := Yu ((q - i : Nat) : Int)
     have hl2 := Kt (s.extract q e)
     have hl3 : (s.extract q e).size = e - q := by rw [ByteArray.size_extract]; omega
     have hl4 := Yi (encVar ((q - i : Nat) : Int))
     have hl5 := Zg (s.extract q e)
     have hl6 : (packText (s.extract q e)).data.toList.length = (packText (s.extract q e)).size := by simp
     have ee : (q : Int) - i = ((q - i : Nat) : Int) := by omega
     have hce := X3 ((q - i : Nat) : Int)
     have hct := S_PackText (s.extract q e) (by omega)
     have hst2 : (acc ++ encVar ((q - i : Nat) : Int) ++ (packText (s.extract q e)).data.toList) ++ packZ (s.data.toList.drop e) = packZ s.data.toList := by rw [← hp1,hst]; simp only [List.append_assoc]
     have hst3 : bs acc ++ bs (encVar ((q : Int) - i)) ++ packText (s.extract q e) = bs (acc ++ encVar ((q - i : Nat) : Int) ++ (packText (s.extract q e)).data.toList) := by rw [ee,← Yg,← Yg,bs_of (packText (s.extract q e))]
     have hl1' := hl1
     rw [← ee] at hce hl1 hl4
     have hq1 : (bE (bs (encVar ((q : Int) - i))).data.toList).length = (encVar ((q : Int) - i)).length := by rw [Ye,Yh]
     have hq2 : (bE (encVar ((q : Int) - i))).length = (encVar ((q : Int) - i)).length := Ye _
     refine Qd (zy (z0 J (z0 J (zx (Z3 J J J) J (z9a J (by assumption) (z0 J (z6 J (z6 J (z6 J (z6 J ?_))))))))));refine zpF J (zz (Ql J (Q9 (T_x (T_x (Xl (Q0 (Xi u8_41 u8_42 u8_43 J (DR.s (Qa J J J) J J (DR.s (Qa J J J) J J ?_))))))))));refine DR.s (Qj J J (hce) J) J J ?_;refine DR.s (q_cat J J J J (by omega)) J J (DR.s (Qa J J J) J J (DR.s (Qa J J J) J J (DR.s (Qa J J J) J J (DR.s (Kb J J J J J (by omega)) J J ?_))));refine DR.s (Qj J J (hct) J) J J ?_
     refine DR.s (q_cat J J J J (by simp only [Yi,cat_size,List.length_cons,List.length_nil,List.length_append]; omega)) J J ?_
     refine DR.s (Qb J J J) J J (DR.stop (by kernel_rfl) (by kernel_rfl) (Qe (Q1 (Q0 ?_))))
     refine ⟨_,(by omega),(fun (i : Nat) (acc : List UInt8) => (⟨_,[(0,S s),(3,S (bs acc)),(4,I i)],[]⟩ : St)) (e) (acc ++ encVar ((q - i : Nat) : Int) ++ (packText (s.extract q e)).data.toList),⟨e,acc ++ encVar ((q - i : Nat) : Int) ++ (packText (s.extract q e)).data.toList,J,⟨hst2,hg2,by simp only [List.length_append]; omega⟩,J⟩,X8 [] (by decide) J (J) (.c J (.cons (S_eq hst3) (.c J (.nil))))⟩
  ·have f1 : decide ((q : Int) < s.size) = false := decide_eq_false (by omega)
   refine Qd (zy (z0 J (z0 J (zx (Z3 J J J) J (z9a J (by assumption) (z0 J (z6 J (z6 J (z6 J (z6 J ?_))))))))));refine zpF J (zz (Ql J (Q9 (T_x (T_x (Xl (Q0 (zy (z0 J ?_)))))))));refine z0 J (z8 J (by omega) (z1 J (zz (zy (z0 J (z1 J (zz (Qd ?_))))))));refine Qk ?_;refine A_lq (fun m__ st => ∃ (e : Nat),s.size - e = m__ ∧ (q ≤ e ∧ e ≤ s.size ∧ (∀ j,q ≤ j → j < e → byteAt s j ≠ 0)) ∧ st = (⟨_,[(0,S s),(3,S (bs acc)),(4,I e),(5,I q),(6,I ((q : Int) - i))],[]⟩ : St)) _ ⟨_,⟨q,J,⟨Nat.le_refl _,hd2,fun j h1 h2 => by omega⟩,J⟩,W_gj [] J⟩ ?_
   rintro m_G _ ⟨e,hk_G,hp_G,rfl⟩
   obtain ⟨hg1,hg2,hg3⟩ := hp_G
   by_cases he : e < s.size
   ·have f3 : decide ((e : Int) < s.size) = true := decide_eq_true (by omega)
    by_cases hn : byteAt s e ≠ 0
    ·have f4 : decide (byteAt s (e : Int).toNat ≠ 0) = true := decide_eq_true hn
     refine Qd (zy (z0 J (z0 J (zx (Z3 J J J) J (z9a J (by assumption) (z0 J (z5 J (z0 J (z5 J (z0 J ?_))))))))));refine z5 J (zx (Zq J J J J (by omega)) J (z5 J (z9f J (by assumption) (zpT J (zz (Qm J (Qh (Q0 (Qk (Qc ?_))))))))));refine z0 J (z7 J (by omega) (z1 J (Qe (Q1 (Q0 ?_)))))
     refine ⟨_,(by omega),_,⟨e + 1,J,⟨by omega,by omega,upN hg3 hn⟩,J⟩,W_gj [] J⟩
    ·have hn := Classical.not_not.1 hn
     have f4 : decide (byteAt s (e : Int).toNat ≠ 0) = false := decide_eq_false (fun q => q hn)
     have hie : i < e := by
      rcases Nat.lt_or_ge i e with h6 | h6
      ·exact h6
      ·exact absurd hn (by have : e = q := (by omega); rw [this]; exact (fun h6 => absurd h6 hq) (by omega))
     have hst := Zh hd1 hg1 hg2 hie hd3 (fun h6 => absurd h6 hq) hg3 (fun _ => hn)
     have hl1 := Yu ((q - i : Nat) : Int)
     have hl2 := Kt (s.extract q e)
     have hl3 : (s.extract q e).size = e - q := by rw [ByteArray.size_extract]; omega
     have hl4 := Yi (encVar ((q - i : Nat) : Int))
     have hl5 := Zg (s.extract q e)
     have hl6 : (packText (s.extract q e)).data.toList.length = (packText (s.extract q e)).size := by simp
     have ee : (q : Int) - i = ((q - i : Nat) : Int) := by omega
     have hce := X3 ((q - i : Nat) : Int)
     have hct := S_PackText (s.extract q e) (by omega)
     have hst2 : (acc ++ encVar ((q - i : Nat) : Int) ++ (packText (s.extract q e)).data.toList) ++ packZ (s.data.toList.drop e) = packZ s.data.toList := by rw [← hp1,hst]; simp only [List.append_assoc]
     have hst3 : bs acc ++ bs (encVar ((q : Int) - i)) ++ packText (s.extract q e) = bs (acc ++ encVar ((q - i : Nat) : Int) ++ (packText (s.extract q e)).data.toList) := by rw [ee,← Yg,← Yg,bs_of (packText (s.extract q e))]
     have hl1' := hl1
     rw [← ee] at hce hl1 hl4
     have hq1 : (bE (bs (encVar ((q : Int) - i))).data.toList).length = (encVar ((q : Int) - i)).length := by rw [Ye,Yh]
     have hq2 : (bE (encVar ((q : Int) - i))).length = (encVar ((q : Int) - i)).length := Ye _
     refine Qd (zy (z0 J (z0 J (zx (Z3 J J J) J (z9a J (by assumption) (z0 J (z5 J (z0 J (z5 J (z0 J ?_))))))))));refine z5 J (zx (Zr J J J J (by assumption) (by omega)) J (z5 J ?_));refine zx (Qw (b := false) J J J J (by decide)) J ?_;refine zpT J (zz (Ql J (Q9 (T_x (T_x (Xl (Q0 (Xi u8_41 u8_42 u8_43 J (DR.s (Qa J J J) J J (DR.s (Qa J J J) J J ?_))))))))));refine DR.s (Qj J J (hce) J) J J ?_;refine DR.s (q_cat J J J J (by omega)) J J (DR.s (Qa J J J) J J (DR.s (Qa J J J) J J (DR.s (Qa J J J) J J (DR.s (Kb J J J J J (by omega)) J J ?_))));refine DR.s (Qj J J (hct) J) J J ?_;refine DR.s (q_cat J J J J (by omega)) J J (DR.s (Qb J J J) J J (DR.stop (by kernel_rfl) (by kernel_rfl) (Qe (Q1 (Q0 ?_)))))
     refine ⟨_,(by omega),(fun (i : Nat) (acc : List UInt8) => (⟨_,[(0,S s),(3,S (bs acc)),(4,I i)],[]⟩ : St)) (e) (acc ++ encVar ((q - i : Nat) : Int) ++ (packText (s.extract q e)).data.toList),⟨e,acc ++ encVar ((q - i : Nat) : Int) ++ (packText (s.extract q e)).data.toList,J,⟨hst2,hg2,by simp only [List.length_append]; omega⟩,J⟩,X8 [] (by decide) J (J) (.c J (.cons (S_eq hst3) (.c J (.nil))))⟩
   ·have f3 : decide ((e : Int) < s.size) = false := decide_eq_false (by omega)
    have hst := Zh hd1 hg1 hg2 (by omega) hd3 (fun h6 => absurd h6 hq) hg3 (fun h6 => absurd h6 he)
    have hl1 := Yu ((q - i : Nat) : Int)
    have hl2 := Kt (s.extract q e)
    have hl3 : (s.extract q e).size = e - q := by rw [ByteArray.size_extract]; omega
    have hl4 := Yi (encVar ((q - i : Nat) : Int))
    have hl5 := Zg (s.extract q e)
    have hl6 : (packText (s.extract q e)).data.toList.length = (packText (s.extract q e)).size := by simp
    have ee : (q : Int) - i = ((q - i : Nat) : Int) := by omega
    have hce := X3 ((q - i : Nat) : Int)
    have hct := S_PackText (s.extract q e) (by omega)
    have hst2 : (acc ++ encVar ((q - i : Nat) : Int) ++ (packText (s.extract q e)).data.toList) ++ packZ (s.data.toList.drop e) = packZ s.data.toList := by rw [← hp1,hst]; simp only [List.append_assoc]
    have hst3 : bs acc ++ bs (encVar ((q : Int) - i)) ++ packText (s.extract q e) = bs (acc ++ encVar ((q - i : Nat) : Int) ++ (packText (s.extract q e)).data.toList) := by rw [ee,← Yg,← Yg,bs_of (packText (s.extract q e))]
    have hl1' := hl1
    rw [← ee] at hce hl1 hl4
    have hq1 : (bE (bs (encVar ((q : Int) - i))).data.toList).length = (encVar ((q : Int) - i)).length := by rw [Ye,Yh]
    have hq2 : (bE (encVar ((q : Int) - i))).length = (encVar ((q : Int) - i)).length := Ye _
    refine Qd (zy (z0 J (z0 J (zx (Z3 J J J) J (z9a J (by assumption) (z0 J (z6 J (z6 J (z6 J (z6 J ?_))))))))));refine zpF J (zz (Ql J (Q9 (T_x (T_x (Xl (Q0 (Xi u8_41 u8_42 u8_43 J (DR.s (Qa J J J) J J (DR.s (Qa J J J) J J ?_))))))))));refine DR.s (Qj J J (hce) J) J J ?_;refine DR.s (q_cat J J J J (by omega)) J J (DR.s (Qa J J J) J J (DR.s (Qa J J J) J J (DR.s (Qa J J J) J J (DR.s (Kb J J J J J (by omega)) J J ?_))));refine DR.s (Qj J J (hct) J) J J ?_
    refine DR.s (q_cat J J J J (by simp only [Yi,cat_size,List.length_cons,List.length_nil,List.length_append]; omega)) J J ?_
    refine DR.s (Qb J J J) J J (DR.stop (by kernel_rfl) (by kernel_rfl) (Qe (Q1 (Q0 ?_))))
    refine ⟨_,(by omega),(fun (i : Nat) (acc : List UInt8) => (⟨_,[(0,S s),(3,S (bs acc)),(4,I i)],[]⟩ : St)) (e) (acc ++ encVar ((q - i : Nat) : Int) ++ (packText (s.extract q e)).data.toList),⟨e,acc ++ encVar ((q - i : Nat) : Int) ++ (packText (s.extract q e)).data.toList,J,⟨hst2,hg2,by simp only [List.length_append]; omega⟩,J⟩,X8 [] (by decide) J (J) (.c J (.cons (S_eq hst3) (.c J (.nil))))⟩
 ·have h5 : i = s.size := by have := of_decide_eq_false h5; omega
  have e : s.data.toList.length = s.size := by simp
  refine Q9 (T_x (T_x (Xl (Q0 (zy (z0 J (z1 J (zz (Xa ?_)))))))));refine F_r ?_
  exact Xp J J (X6 [] (by decide) J J (S_eq (congrArg bs (by rw [← hp1,h5,List.drop_eq_nil_of_le (by omega),packZ_nil,List.append_nil]))))
end
section
open Go.RowKit

def xorB (a : ByteArray) (i : Nat) (x : UInt8) : UInt8 := if i < a.size then UInt8.ofNat (x.toNat ^^^ (byteAt a i).toNat) else x
def xorL (a b : ByteArray) : List UInt8 := (List.range b.size).map fun i => xorB a i (b.data.toList.getD i 0)
def xorText (a b : ByteArray) : ByteArray := bs (xorL a b)
theorem xorL_len (a b : ByteArray) : (xorL a b).length = b.data.toList.length := by simp [xorL]
theorem xorL_at {a b : ByteArray} {i : Nat} (h : i < (xorL a b).length) (h' : i < b.data.toList.length) : (xorL a b)[i] = xorB a i b.data.toList[i] := by
 have h2 : b.data.toList.getD i 0 = b.data.toList[i] := by rw [List.getD_eq_getElem?_getD,List.getElem?_eq_getElem h']; rfl
 simp only [xorL,List.getElem_map,List.getElem_range,h2]
theorem mk_nextL {α : Type} {ms xs : List α} (hl : ms.length = xs.length) {i : Nat} (h : i < xs.length) : ms.take (i + 1) ++ xs.drop (i + 1) = (ms.take i ++ xs.drop i).set i (ms[i]'(by omega)) := by
 have h2 : i < ms.length := by omega
 have hi : (ms.take i).length = i := by simp; omega
 rw [List.take_succ_eq_append_getElem h2,List.set_append_right _ _ (by omega)]
 have : i - (ms.take i).length = 0 := by omega
 rw [this,List.drop_eq_getElem_cons h,List.set_cons_zero,List.append_assoc]
 rfl
theorem bE_set (l : List UInt8) (i : Nat) (x : UInt8) : bE (l.set i x) = (bE l).set i [.v (.int .u8 (x.toNat : Int))] := by simp [bE,List.map_set]
theorem bE_at {l : List UInt8} {i : Nat} (h : i < l.length) : (bE l)[(i : Int).toNat]? = some [.v (.int .u8 ((l[i]).toNat : Int))] := by
 rw [Int.toNat_natCast,bE,List.getElem?_map,List.getElem?_eq_getElem h]
 rfl
theorem xor_end {a b : ByteArray} {i : Nat} (hi : i ≤ b.data.toList.length) (h : b.data.toList.length ≤ i ∨ a.size ≤ i) : (xorL a b).take i ++ b.data.toList.drop i = xorL a b := by
 have hl := xorL_len a b
 have hml := mk_len hl hi
 apply List.ext_getElem?
 intro j
 by_cases hj : j < i
 ·by_cases hjl : j < (xorL a b).length
  ·rw [List.getElem?_append_left (by simp; omega),List.getElem?_take,if_pos hj]
  ·rw [List.getElem?_eq_none (by omega),List.getElem?_eq_none (by omega)]
 ·by_cases hjl : j < (xorL a b).length
  ·have ha : a.size ≤ i := by omega
   have hti : ((xorL a b).take i).length = i := by simp; omega
   rw [List.getElem?_append_right (by omega),hti,List.getElem?_drop,show i + (j - i) = j by omega,List.getElem?_eq_getElem (by omega),List.getElem?_eq_getElem hjl,xorL_at hjl (by omega),xorB,if_neg (by omega)]
  ·rw [List.getElem?_eq_none (by omega),List.getElem?_eq_none (by omega)]
theorem I_XorText (a b : ByteArray) (ha : a.size ≤ 1099511627776) (hb : b.size ≤ 1099511627776) : Con Tryz.prog 61 [] [astr a,astr b] [] (S (xorText a b)) := by
 have hl := xorL_len a b
 have hbl : b.data.toList.length = b.size := by simp
 refine Con.of Tryz.func61 J Tryz.ntmps61 J (fun E => ?_)
 refine zy (z1 J (zz (zy (z0 J (M1 (q_strb J J J (by omega)) J J (z1 J (zz ?_)))))));refine Qd (zy (z1 J (zz (Qk ?_))));refine A_lq (fun m__ st => ∃ (i : Nat),b.size - i = m__ ∧ (i ≤ b.size ∧ i ≤ a.size) ∧ st = (⟨_,[(0,S a),(5,.o (.c (.ref 0))),(6,I i)],[.row 1 (bE ((xorL a b).take i ++ b.data.toList.drop i))]⟩ : St)) _ ⟨_,⟨0,J,⟨Nat.zero_le _,Nat.zero_le _⟩,J⟩,W_gj [0] J⟩ ?_
 rintro m_A _ ⟨i,hk_A,hp_A,rfl⟩
 have hrow : (bE ((xorL a b).take i ++ b.data.toList.drop i)).length = b.size := by rw [Ye,mk_len hl (by omega)]; exact hbl
 refine Qd (zy (z0 J (z0 J (zx (Z1 J J J J) J (zx (Z5 J J J J) J (z0 J ?_))))));refine zx (Qt.grdT J J J .stop (fun hgrd => Qa J J J)) J ?_;refine zx (Qt.grdT J J J (.hit .stop) (fun hgrd => Qa J J J)) J ?_;refine zx (Qt.grdT J J J (.hit (.hit .stop)) (fun hgrd => Z3 J J J)) J ?_;refine zx (Qt.grdT J J J (.hit (.hit (.hit .stop))) (fun hgrd => Z5 J J J J)) J ?_;refine zx (Zj J J J J) J (zz ?_)
 refine Xb J (fun h => ?_) (fun h => ?_)
 ·simp only [Bool.and_eq_true,decide_eq_true_eq] at h
  have hib : i < b.data.toList.length := by omega
  have hil : i < ((xorL a b).take i ++ b.data.toList.drop i).length := by rw [mk_len hl (by omega)]; exact hib
  have hat := bE_at hil
  rw [mk_at hl hib] at hat
  obtain ⟨c,hc⟩ : ∃ c : UInt8,c = b.data.toList[i] := ⟨_,rfl⟩
  rw [← hc] at hat
  have hc2 := c.toNat_lt
  have hby := Yj a i
  have hy : (UInt8.ofNat (c.toNat ^^^ (byteAt a i).toNat)).toNat = c.toNat ^^^ (byteAt a i).toNat := by
   have : c.toNat ^^^ (byteAt a i).toNat < 2 ^ 8 := Nat.xor_lt_two_pow (by omega) (by omega)
   rw [UInt8.toNat_ofNat']
   exact Nat.mod_eq_of_lt this
  have hby2 : byteAt a (i : Int).toNat = byteAt a i := rfl
  have hend : bE ((xorL a b).take (i + 1) ++ b.data.toList.drop (i + 1)) = (bE ((xorL a b).take i ++ b.data.toList.drop i)).set (i : Int).toNat (splice [.v (.int .u8 (c.toNat : Int))] 0 [.v (.int .u8 (((c.toNat : Int).toNat ^^^ (byteAt a i).toNat : Nat) : Int))]) := by
   rw [mk_nextL hl hib,bE_set,xorL_at (by omega) hib,xorB,if_pos (by omega),← hc,hy]
   rfl
  refine Qh (Q0 (Qd (Qk (Xi [[],[],[0,1],[0,1,2],[],[],[4,5],(u9 7),(u9 8),(u9 9)] [[],[],[21,22],[21,22,23],[],[],[25,26],[21,22,23,24,25,26,27],[21,22,23,24,25,26,27,28],[21,22,23,24,25,26,27,28,29]] [[22,25,26,27],[21,25,26,27],[25,26,27],[25,26,27],[21,22,23,24,26],[21,22,23,24,25],[21,22,23,24],[],[],[]] J (DR.s (Qa J J J) J J (DR.s (Qa J J J) J J (DR.s (Q3 J J J J J (by omega) (by omega)) J J (DR.s (Q7 J J J J (by assumption) J) J J (DR.s (Qa J J J) J J (DR.s (Qa J J J) J J (DR.s (Zr J J J J (by assumption) (by omega)) J J ?_)))))))))));refine DR.s (q_bxor8 J J J J (by omega)) J J (DR.s (Q3 J J J J J (by omega) (by omega)) J J (DR.stop (by kernel_rfl) (by kernel_rfl) ?_));refine Xh J J J J J J J J J (by assumption) J J (Qe (Q1 (Q0 (Qc (z0 J (z7 J (by omega) (z1 J (zz ?_))))))))
  refine ⟨_,(by omega),(fun (i : Nat) => (⟨_,[(0,S a),(5,.o (.c (.ref 0))),(6,I i)],[.row 1 (bE ((xorL a b).take i ++ b.data.toList.drop i))]⟩ : St)) (i + 1),⟨i + 1,J,⟨by omega,by omega⟩,J⟩,X8 [0] (by decide) J (Ki hend) (.c J (.c J (.c J (.nil))))⟩
 ·simp only [Bool.and_eq_false_iff,decide_eq_false_iff_not] at h
  have hend := xor_end (a := a) (b := b) (i := i) (by omega) (by omega)
  rw [hend]
  refine Q9 (T_x (T_x (Xl (Q0 (zy (z0 J (zx (q_bstr J J J J) J (z1 J (zz ?_)))))))));refine Xa (F_r ?_)
  exact Xp J J (X6 [] (by decide) J J J)
theorem S_XorText (a b : ByteArray) (ha : a.size ≤ 1099511627776) (hb : b.size ≤ 1099511627776) : Con Tryz.prog 122 [] [astr a,astr b] [] (S (xorText a b)) := by
 have hl := xorL_len a b
 have hbl : b.data.toList.length = b.size := by simp
 refine Con.of Tryz.func122 J Tryz.ntmps122 J (fun E => ?_)
 refine zy (z1 J (zz (zy (z0 J (M1 (q_strb J J J (by omega)) J J (z1 J (zz ?_)))))));refine Qd (zy (z1 J (zz (Qk ?_))));refine A_lq (fun m__ st => ∃ (i : Nat),b.size - i = m__ ∧ (i ≤ b.size ∧ i ≤ a.size) ∧ st = (⟨_,[(0,S a),(5,.o (.c (.ref 0))),(6,I i)],[.row 1 (bE ((xorL a b).take i ++ b.data.toList.drop i))]⟩ : St)) _ ⟨_,⟨0,J,⟨Nat.zero_le _,Nat.zero_le _⟩,J⟩,W_gj [0] J⟩ ?_
 rintro m_A _ ⟨i,hk_A,hp_A,rfl⟩
 have hrow : (bE ((xorL a b).take i ++ b.data.toList.drop i)).length = b.size := by rw [Ye,mk_len hl (by omega)]; exact hbl
 refine Qd (zy (z0 J (z0 J (zx (Z1 J J J J) J (zx (Z5 J J J J) J (z0 J ?_))))));refine zx (Qt.grdT J J J .stop (fun hgrd => Qa J J J)) J ?_;refine zx (Qt.grdT J J J (.hit .stop) (fun hgrd => Qa J J J)) J ?_;refine zx (Qt.grdT J J J (.hit (.hit .stop)) (fun hgrd => Z3 J J J)) J ?_;refine zx (Qt.grdT J J J (.hit (.hit (.hit .stop))) (fun hgrd => Z5 J J J J)) J ?_;refine zx (Zj J J J J) J (zz ?_)
 refine Xb J (fun h => ?_) (fun h => ?_)
 ·simp only [Bool.and_eq_true,decide_eq_true_eq] at h
  have hib : i < b.data.toList.length := by omega
  have hil : i < ((xorL a b).take i ++ b.data.toList.drop i).length := by rw [mk_len hl (by omega)]; exact hib
  have hat := bE_at hil
  rw [mk_at hl hib] at hat
  obtain ⟨c,hc⟩ : ∃ c : UInt8,c = b.data.toList[i] := ⟨_,rfl⟩
  rw [← hc] at hat
  have hc2 := c.toNat_lt
  have hby := Yj a i
  have hy : (UInt8.ofNat (c.toNat ^^^ (byteAt a i).toNat)).toNat = c.toNat ^^^ (byteAt a i).toNat := by
   have : c.toNat ^^^ (byteAt a i).toNat < 2 ^ 8 := Nat.xor_lt_two_pow (by omega) (by omega)
   rw [UInt8.toNat_ofNat']
   exact Nat.mod_eq_of_lt this
  have hby2 : byteAt a (i : Int).toNat = byteAt a i := rfl
  have hend : bE ((xorL a b).take (i + 1) ++ b.data.toList.drop (i + 1)) = (bE ((xorL a b).take i ++ b.data.toList.drop i)).set (i : Int).toNat (splice [.v (.int .u8 (c.toNat : Int))] 0 [.v (.int .u8 (((c.toNat : Int).toNat ^^^ (byteAt a i).toNat : Nat) : Int))]) := by
   rw [mk_nextL hl hib,bE_set,xorL_at (by omega) hib,xorB,if_pos (by omega),← hc,hy]
   rfl
  refine Qh (Q0 (Qd (Qk (Xi [[],[],[],[],[2,3],[2,3,4],[],[],[6,7],[2,3,4,5,6,7,8],(u9 10),(u9 11)] [[],[],[],[],[23,24],[23,24,25],[],[],[27,28],[23,24,25,26,27,28,29],[21,22,23,24,25,26,27,28,29,30],[21,22,23,24,25,26,27,28,29,30,31]] [[22,23,24,25,26,27,28,29,30],[21,23,24,25,26,27,28,29,30],[21,22,24,27,28,29],[21,22,23,27,28,29],[21,22,27,28,29],[21,22,27,28,29],[21,22,23,24,25,26,28],[21,22,23,24,25,26,27],[21,22,23,24,25,26],[21,22],[],[]] J (DR.s (Qa J J J) J J (DR.s (Qa J J J) J J (DR.s (Qa J J J) J J (DR.s (Qa J J J) J J (DR.s (Q3 J J J J J (by omega) (by omega)) J J (DR.s (Q7 J J J J (by assumption) J) J J (DR.s (Qa J J J) J J ?_)))))))))));refine DR.s (Qa J J J) J J (DR.s (Zr J J J J (by assumption) (by omega)) J J (DR.s (q_bxor8 J J J J (by omega)) J J (DR.s (Q3 J J J J J (by omega) (by omega)) J J (DR.stop (by kernel_rfl) (by kernel_rfl) ?_))));refine Xh J J J J J J J J J (by assumption) J J (Qe (Q1 (Q0 (Qc (z0 J (z7 J (by omega) (z1 J (zz ?_))))))))
  refine ⟨_,(by omega),(fun (i : Nat) => (⟨_,[(0,S a),(5,.o (.c (.ref 0))),(6,I i)],[.row 1 (bE ((xorL a b).take i ++ b.data.toList.drop i))]⟩ : St)) (i + 1),⟨i + 1,J,⟨by omega,by omega⟩,J⟩,X8 [0] (by decide) J (Ki hend) (.c J (.c J (.c J (.nil))))⟩
 ·simp only [Bool.and_eq_false_iff,decide_eq_false_iff_not] at h
  have hend := xor_end (a := a) (b := b) (i := i) (by omega) (by omega)
  rw [hend]
  refine Q9 (T_x (T_x (Xl (Q0 (zy (z0 J (zx (q_bstr J J J J) J (z1 J (zz ?_)))))))));refine Xa (F_r ?_)
  exact Xp J J (X6 [] (by decide) J J J)
end
section
open Go.RowKit

theorem uz_end {s : ByteArray} {b : Bool} {pos : Nat} (h : ¬ pos < s.size) (f : Nat) (acc : List UInt8) : uzGo s b f pos acc = some acc := by
 cases f with
 | zero => rw [uzGo,if_neg h]
 | succ f => rw [uzGo,if_neg h]
section
variable {s : ByteArray} {b : Bool} {pos f j k : Nat} {acc : List UInt8} {n : Int} {t : ByteArray} (hp : pos < s.size)
include hp
theorem uz_none1 (h : decVar s pos = none) : uzGo s b (f + 1) pos acc = none := by rw [uzGo,if_pos hp,h]
theorem uz_none2 (h : decVar s pos = some (n,j)) (h2 : unpackText s ((pos : Int) + (j : Int)) = none) : uzGo s b (f + 1) pos acc = none := by
 rw [uzGo,if_pos hp,h]
 simp only [h2]
theorem uz_big (h : decVar s pos = some (n,j)) (h2 : unpackText s ((pos : Int) + (j : Int)) = some (t,k)) (hb : (20000 : Int) - acc.length < n + t.size) : uzGo s b (f + 1) pos acc = none := by
 rw [uzGo,if_pos hp,h]
 simp only [h2]
 rw [if_pos hb]
theorem uz_big1 (h : decVar s pos = some (n,j)) (hb : (20000 : Int) - acc.length < n) : uzGo s b (f + 1) pos acc = none := by
 cases h2 : unpackText s ((pos : Int) + (j : Int)) with
 | none => exact uz_none2 hp h h2
 | some r => obtain ⟨t,k⟩ := r; exact uz_big hp h h2 (by omega)
theorem uz_emp (h : decVar s pos = some (n,j)) (h2 : unpackText s ((pos : Int) + (j : Int)) = some (t,k)) (he : n = 0 ∧ t.size = 0) : uzGo s true (f + 1) pos acc = none := by
 by_cases hb : (20000 : Int) - acc.length < n + t.size
 ·exact uz_big hp h h2 hb
 rw [uzGo,if_pos hp,h]
 simp only [h2]
 rw [if_neg hb,if_pos ⟨trivial,he⟩]
theorem uz_step (h : decVar s pos = some (n,j)) (h2 : unpackText s ((pos : Int) + (j : Int)) = some (t,k)) (hb : ¬ (20000 : Int) - acc.length < n + t.size) (he : b = true → ¬ (n = 0 ∧ t.size = 0)) : uzGo s b (f + 1) pos acc = uzGo s b f (pos + j + k) (acc ++ List.replicate n.toNat 0 ++ t.data.toList) := by
 rw [uzGo,if_pos hp,h]
 simp only [h2]
 rw [if_neg hb,if_neg (fun q => he q.1 q.2)]
end
theorem bE_rep (z : Nat) : bE (List.replicate z 0) = List.replicate z [.v (.int .u8 0)] := by simp [bE]
theorem unpackZ_len {b : Bool} {s t : ByteArray} (h : unpackZ b s = some t) : t.size ≤ 20000 := by
 unfold unpackZ at h
 cases hu : uzGo s b s.size 0 [] with
 | none => rw [hu] at h; cases h
 | some out =>
  rw [hu] at h
  simp only at h
  split at h
  ·cases h; rw [Yi]; exact uz_len s b _ _ _ _ (by simp) hu
  ·cases h
theorem I_UnpackZeros (s : ByteArray) (hs : s.size ≤ 1099511627775) : Con Tryz.prog 111 [] [astr s] [] (otR (unpackZ true s)) := by
 refine Con.of Tryz.func111 J Tryz.ntmps111 J (fun E => ?_)
 refine zy (z1 J (z1 J (zz (zy (z1 J (zz (Qd ?_)))))));refine Qc (z1 J (zz (Qd (Qk ?_))))
 refine AWP.pre ?_ (W_nil 4 1 J)
 refine A_lq (fun m__ st => ∃ (pos : Nat) (acc : List UInt8) (f : Nat),s.size - pos = m__ ∧ (s.size ≤ pos + f ∧ pos ≤ s.size ∧ acc.length ≤ 20000 ∧ uzGo s true f pos acc = uzGo s true s.size 0 []) ∧ st = (⟨_,[(0,S s),(4,.o (.c (.ref 0))),(5,I pos)],[.row 1 (bE acc)]⟩ : St)) _ ⟨_,⟨0,[],s.size,J,⟨by omega,by omega,by simp,J⟩,J⟩,W_gj [0] J⟩ ?_
 rintro m_A _ ⟨pos,acc,f,hk_A,hp_A,rfl⟩
 obtain ⟨hfu,hps,hal,hgo⟩ := hp_A
 have hla := Ye acc
 by_cases hlt : pos < s.size
 ·have hb : decide ((pos : Int) < s.size) = true := decide_eq_true (by omega)
  have hd := Xs s (pos : Int) (by omega) ⟨by omega,by omega⟩
  obtain ⟨g,rfl⟩ : ∃ g,f = g + 1 := ⟨f - 1,by omega⟩
  cases hv : decVar s (pos : Int) with
  | none =>
   rw [hv] at hd
   rw [show unpackZ true s = none by rw [unpackZ,← hgo,uz_none1 hlt hv]]
   refine Qd (zy (z0 J (z0 J (zx (Z3 J J J) J (z9a J (by assumption) (zz (Qm J (Qh (Q0 ?_)))))))));refine Qk (zy (z0 J (z0 J ?_)));refine M1 (Zs J J (hd) J J J) J J ?_;refine zx (Q8 J J J) J (ze J (ze J (ze J (z1 J (z1 J (z1 J (zz (Qd (zy ?_)))))))));refine z0 J (zn J (z0 J (z6 J (z6 J (z6 J (z6 J (z6 J (zpT J (zz (Qm J ?_))))))))));refine zy (z1 J (z1 J (zz (Xa (T_r (B_r (T_r (B_r (T_r ?_)))))))));refine F_r ?_
   exact Xq J J J (X6 [] (by decide) J J J)
  | some r =>
   obtain ⟨n,j⟩ := r
   rw [hv] at hd
   have hm := Ym hv
   obtain ⟨z,rfl⟩ : ∃ z : Nat,n = z := ⟨n.toNat,by omega⟩
   by_cases hbig : (20000 : Int) - acc.length < z
   ·have hb2 : decide ((20000 : Int) - ((bE acc).length : Int) < z) = true := decide_eq_true (by omega)
    rw [show unpackZ true s = none by rw [unpackZ,← hgo,uz_big1 hlt hv hbig]]
    refine Qd (zy (z0 J (z0 J (zx (Z3 J J J) J (z9a J (by assumption) (zz (Qm J (Qh (Q0 ?_)))))))));refine Qk (zy (z0 J (z0 J ?_)));refine M1 (Zs J J (hd) J J J) J J ?_;refine zx (Q8 J J J) J (ze J (ze J (ze J (z1 J (z1 J (z1 J (zz (Qd (zy ?_)))))))));refine z0 J (zn J (z0 J (z5 J (z0 J (z5 J (z0 J (z5 J (zx (Z1 J J J J) J (z5 J (z8 J (by omega) (z5 J ?_)))))))))));refine z9c J (by assumption) (zpF J (zz (Qm J (zy (z1 J (z1 J (zz (Xa ?_))))))));refine T_r (B_r (T_r (B_r (T_r (F_r ?_)))))
    exact Xq J J J (X6 [] (by decide) J J J)
   have hb2 : decide ((20000 : Int) - ((bE acc).length : Int) < z) = false := decide_eq_false (by omega)
   have hut := I_UnpackText s ((pos : Int) + (j : Int)) (by omega) ⟨by omega,by omega⟩
   cases hu : unpackText s ((pos : Int) + (j : Int)) with
   | none =>
    rw [hu] at hut
    rw [show unpackZ true s = none by rw [unpackZ,← hgo,uz_none2 hlt hv hu]]
    refine Qd (zy (z0 J (z0 J (zx (Z3 J J J) J (z9a J (by assumption) (zz (Qm J (Qh (Q0 ?_)))))))));refine Qk (zy (z0 J (z0 J ?_)));refine M1 (Zs J J (hd) J J J) J J ?_;refine zx (Q8 J J J) J (ze J (ze J (ze J (z1 J (z1 J (z1 J (zz (Qd (zy ?_)))))))));refine z0 J (zn J (z0 J (z5 J (z0 J (z5 J (z0 J (z5 J (zx (Z1 J J J J) J (z5 J (z8 J (by omega) (z5 J ?_)))))))))));refine z9c J (by assumption) (zpF J (zz (Ql J (Qh (Q0 (zy (z0 J (z0 J (z7 J (by omega) ?_)))))))));refine z1 J (zz (zy (z0 J (z0 J ?_))));refine M1 (Zs J J (hut) J J J) J J ?_;refine zx (Q8 J J J) J (ze J (ze J (ze J (z1 J (z1 J (z1 J (zz (Qd (zy ?_)))))))));refine z0 J (zn J (z0 J (z6 J (z6 J (z6 J (z6 J (z6 J (z6 J (z6 J (z6 J (zpT J ?_)))))))))));refine zz (Qm J (zy (z1 J (z1 J (zz (Xa (T_r (B_r ?_))))))));refine T_r (B_r (T_r (F_r ?_)))
    exact Xq J J J (X6 [] (by decide) J J J)
   | some r =>
    obtain ⟨t,k⟩ := r
    rw [hu] at hut
    have hus := unpackText_some hu
    by_cases hbig2 : (20000 : Int) - acc.length < z + t.size
    ·have hb3 : decide ((20000 : Int) - ((bE acc).length : Int) - z < t.size) = true := decide_eq_true (by omega)
     rw [show unpackZ true s = none by rw [unpackZ,← hgo,uz_big hlt hv hu hbig2]]
     refine Qd (zy (z0 J (z0 J (zx (Z3 J J J) J (z9a J (by assumption) (zz (Qm J (Qh (Q0 ?_)))))))));refine Qk (zy (z0 J (z0 J ?_)));refine M1 (Zs J J (hd) J J J) J J ?_;refine zx (Q8 J J J) J (ze J (ze J (ze J (z1 J (z1 J (z1 J (zz (Qd (zy ?_)))))))));refine z0 J (zn J (z0 J (z5 J (z0 J (z5 J (z0 J (z5 J (zx (Z1 J J J J) J (z5 J (z8 J (by omega) (z5 J ?_)))))))))));refine z9c J (by assumption) (zpF J (zz (Ql J (Qh (Q0 (zy (z0 J (z0 J (z7 J (by omega) ?_)))))))));refine z1 J (zz (zy (z0 J (z0 J ?_))));refine M1 (Zs J J (hut) J J J) J J ?_;refine zx (Q8 J J J) J (ze J (ze J (ze J (z1 J (z1 J (z1 J (zz (Qd (zy ?_)))))))));refine z0 J (zn J (z0 J (z5 J (z0 J (z5 J (zx (Z3 J J J) J (z5 J (z0 J (z5 J (zx (Z1 J J J J) J (z5 J ?_)))))))))));refine z8 J (by omega) (z5 J (z0 J (z5 J (z8 J (by omega) (z5 J (z9c J (by assumption) (zpF J (zz (Qm J (Qd ?_))))))))));refine Qc (z1 J (z1 J (zz (Xa (T_r (B_r (T_r (B_r (T_r (F_r ?_))))))))))
     exact Xq J J J (X6 [] (by decide) J J J)
    have hb3 : decide ((20000 : Int) - ((bE acc).length : Int) - z < t.size) = false := decide_eq_false (by omega)
    have hz1 : (bE (List.replicate z 0)).length = z := by rw [Ye,List.length_replicate]
    have ht1 : t.data.toList.length = t.size := by simp
    by_cases hemp : (z : Int) = 0 ∧ t.size = 0
    ·have e1 : decide ((z : Int) = 0) = true := decide_eq_true hemp.1
     have e2 : decide ((t.size : Int) = 0) = true := decide_eq_true (by omega)
     rw [show unpackZ true s = none by rw [unpackZ,← hgo,uz_emp hlt hv hu hemp]]
     refine Qd (zy (z0 J (z0 J (zx (Z3 J J J) J (z9a J (by assumption) (zz (Qm J (Qh (Q0 ?_)))))))));refine Qk (zy (z0 J (z0 J ?_)));refine M1 (Zs J J (hd) J J J) J J ?_;refine zx (Q8 J J J) J (ze J (ze J (ze J (z1 J (z1 J (z1 J (zz (Qd (zy ?_)))))))));refine z0 J (zn J (z0 J (z5 J (z0 J (z5 J (z0 J (z5 J (zx (Z1 J J J J) J (z5 J (z8 J (by omega) (z5 J ?_)))))))))));refine z9c J (by assumption) (zpF J (zz (Ql J (Qh (Q0 (zy (z0 J (z0 J (z7 J (by omega) ?_)))))))));refine z1 J (zz (zy (z0 J (z0 J ?_))));refine M1 (Zs J J (hut) J J J) J J ?_;refine zx (Q8 J J J) J (ze J (ze J (ze J (z1 J (z1 J (z1 J (zz (Qd (zy ?_)))))))));refine z0 J (zn J (z0 J (z5 J (z0 J (z5 J (zx (Z3 J J J) J (z5 J (z0 J (z5 J (zx (Z1 J J J J) J (z5 J ?_)))))))))));refine z8 J (by omega) (z5 J (z0 J (z5 J (z8 J (by omega) (z5 J (z9c J (by assumption) (zpF J (zz (Ql J (Qh ?_))))))))));refine Q0 (zy (z0 J (z0 J (z7 J (by omega) (z1 J (zz (zy (z0 J ?_))))))));refine z0 J ?_;refine M_appz 9 J J J J J J J (by omega) ?_;refine z1 J (zz (zy (z0 J (z0 J ?_))))
     refine Xz J J J J J J J (by simp only [List.length_append]; omega) (by simp only [List.length_append]; omega) ?_;refine z1 J ?_
     refine zz (zy (z0 J (z9e J (by assumption) (z0 J (z5 J (z0 J (z5 J (zx (Z3 J J J) J (z5 J ?_)))))))));refine z9e J (by assumption) (zpT J (zz (Qm J (zy (z1 J (z1 J (zz (Xa ?_))))))));refine B_r (T_r (B_r (T_r (F_r ?_))))
     exact Xq J J J (X6 [] (by decide) J J J)
    have hgo2 := uz_step (acc := acc) (f := g) (b := true) hlt hv hu hbig2 (fun _ => hemp)
    rw [hgo,show ((z : Int)).toNat = z by omega] at hgo2
    by_cases hz0 : (z : Int) = 0
    ·have e1 : decide ((z : Int) = 0) = true := decide_eq_true hz0
     have e2 : decide ((t.size : Int) = 0) = false := decide_eq_false (by omega)
     refine Qd (zy (z0 J (z0 J (zx (Z3 J J J) J (z9a J (by assumption) (zz (Qm J (Qh (Q0 ?_)))))))));refine Qk (zy (z0 J (z0 J ?_)));refine M1 (Zs J J (hd) J J J) J J ?_;refine zx (Q8 J J J) J (ze J (ze J (ze J (z1 J (z1 J (z1 J (zz (Qd (zy ?_)))))))));refine z0 J (zn J (z0 J (z5 J (z0 J (z5 J (z0 J (z5 J (zx (Z1 J J J J) J (z5 J (z8 J (by omega) (z5 J ?_)))))))))));refine z9c J (by assumption) (zpF J (zz (Ql J (Qh (Q0 (zy (z0 J (z0 J (z7 J (by omega) ?_)))))))));refine z1 J (zz (zy (z0 J (z0 J ?_))));refine M1 (Zs J J (hut) J J J) J J ?_;refine zx (Q8 J J J) J (ze J (ze J (ze J (z1 J (z1 J (z1 J (zz (Qd (zy ?_)))))))));refine z0 J (zn J (z0 J (z5 J (z0 J (z5 J (zx (Z3 J J J) J (z5 J (z0 J (z5 J (zx (Z1 J J J J) J (z5 J ?_)))))))))));refine z8 J (by omega) (z5 J (z0 J (z5 J (z8 J (by omega) (z5 J (z9c J (by assumption) (zpF J (zz (Ql J (Qh ?_))))))))));refine Q0 (zy (z0 J (z0 J (z7 J (by omega) (z1 J (zz (zy (z0 J ?_))))))));refine z0 J ?_;refine M_appz 9 J J J J J J J (by omega) ?_;refine z1 J (zz (zy (z0 J (z0 J ?_))))
     refine Xz J J J J J J J (by simp only [List.length_append]; omega) (by simp only [List.length_append]; omega) ?_;refine z1 J ?_
     refine zz (zy (z0 J (z9e J (by assumption) (z0 J (z5 J (z0 J (z5 J (zx (Z3 J J J) J (z5 J ?_)))))))));refine z9e J (by assumption) (zpT J (zz (Ql J (Qh (Q1 (Q0 ?_))))))
     refine ⟨_,(by omega),(fun (pos : Nat) (acc : List UInt8) (f : Nat) => (⟨_,[(0,S s),(4,.o (.c (.ref 0))),(5,I pos)],[.row 1 (bE acc)]⟩ : St)) (pos + j + k) (acc ++ List.replicate z 0 ++ t.data.toList) (g),⟨pos + j + k,acc ++ List.replicate z 0 ++ t.data.toList,g,J,⟨by omega,by omega,by simp only [List.length_append,List.length_replicate]; omega,hgo2.symm⟩,J⟩,X8 [0] (by decide) J (Ki (by rw [Yd,Yd])) (.c J (.c J (.c J (.nil))))⟩
    ·have e1 : decide ((z : Int) = 0) = false := decide_eq_false hz0
     refine Qd (zy (z0 J (z0 J (zx (Z3 J J J) J (z9a J (by assumption) (zz (Qm J (Qh (Q0 ?_)))))))));refine Qk (zy (z0 J (z0 J ?_)));refine M1 (Zs J J (hd) J J J) J J ?_;refine zx (Q8 J J J) J (ze J (ze J (ze J (z1 J (z1 J (z1 J (zz (Qd (zy ?_)))))))));refine z0 J (zn J (z0 J (z5 J (z0 J (z5 J (z0 J (z5 J (zx (Z1 J J J J) J (z5 J (z8 J (by omega) (z5 J ?_)))))))))));refine z9c J (by assumption) (zpF J (zz (Ql J (Qh (Q0 (zy (z0 J (z0 J (z7 J (by omega) ?_)))))))));refine z1 J (zz (zy (z0 J (z0 J ?_))));refine M1 (Zs J J (hut) J J J) J J ?_;refine zx (Q8 J J J) J (ze J (ze J (ze J (z1 J (z1 J (z1 J (zz (Qd (zy ?_)))))))));refine z0 J (zn J (z0 J (z5 J (z0 J (z5 J (zx (Z3 J J J) J (z5 J (z0 J (z5 J (zx (Z1 J J J J) J (z5 J ?_)))))))))));refine z8 J (by omega) (z5 J (z0 J (z5 J (z8 J (by omega) (z5 J (z9c J (by assumption) (zpF J (zz (Ql J (Qh ?_))))))))));refine Q0 (zy (z0 J (z0 J (z7 J (by omega) (z1 J (zz (zy (z0 J ?_))))))));refine z0 J ?_;refine M_appz 9 J J J J J J J (by omega) ?_;refine z1 J (zz (zy (z0 J (z0 J ?_))))
     refine Xz J J J J J J J (by simp only [List.length_append]; omega) (by simp only [List.length_append]; omega) ?_;refine z1 J ?_
     refine zz (zy (z0 J (z9e J (by assumption) (z0 J (z6 J (z6 J (z6 J (zpF J (Qe ?_)))))))));refine Q0 (Ql J (Qh (Q1 (Q0 ?_))))
     refine ⟨_,(by omega),(fun (pos : Nat) (acc : List UInt8) (f : Nat) => (⟨_,[(0,S s),(4,.o (.c (.ref 0))),(5,I pos)],[.row 1 (bE acc)]⟩ : St)) (pos + j + k) (acc ++ List.replicate z 0 ++ t.data.toList) (g),⟨pos + j + k,acc ++ List.replicate z 0 ++ t.data.toList,g,J,⟨by omega,by omega,by simp only [List.length_append,List.length_replicate]; omega,hgo2.symm⟩,J⟩,X8 [0] (by decide) J (Ki (by rw [Yd,Yd])) (.c J (.c J (.c J (.nil))))⟩
 ·have hb : decide ((pos : Int) < s.size) = false := decide_eq_false (by omega)
  have hend := uz_end (b := true) hlt f acc
  have hpk := I_PackZeros (bs acc) (by rw [Yi]; omega)
  rw [Yh] at hpk
  by_cases heq : bs (packZ acc) = s
  ·have e1 : decide (bs (packZ acc) ≠ s) = false := decide_eq_false (fun q => q heq)
   rw [show unpackZ true s = some (bs acc) by rw [unpackZ,← hgo,hend]; simp only []; rw [if_pos heq]]
   refine Qd (zy (z0 J (z0 J (zx (Z3 J J J) J (z9a J (by assumption) (zz (Ql J (Q9 (T_x ?_)))))))));refine T_x (Xl (Q0 (Qd (zy (z0 J (zx (q_bstr J J J J) J ?_))))));refine zx (Qj J J (hpk) J) J ?_;refine z0 J (zx (Ka J J J J (by assumption)) J (zz (Ql J (Qh (Q0 (zy (z0 J (zx (q_bstr J J J J) J (z1 J ?_)))))))));refine z1 J (zz (Xa (F_r ?_)))
   exact Xq J J J (X6 [] (by decide) J J J)
  ·have e1 : decide (bs (packZ acc) ≠ s) = true := decide_eq_true heq
   rw [show unpackZ true s = none by rw [unpackZ,← hgo,hend]; simp only []; rw [if_neg heq]]
   refine Qd (zy (z0 J (z0 J (zx (Z3 J J J) J (z9a J (by assumption) (zz (Ql J (Q9 (T_x ?_)))))))));refine T_x (Xl (Q0 (Qd (zy (z0 J (zx (q_bstr J J J J) J ?_))))));refine zx (Qj J J (hpk) J) J ?_;refine z0 J (zx (Ka J J J J (by assumption)) J (zz (Qm J (zy (z1 J (z1 J (zz (Xa ?_))))))));refine T_r (F_r ?_)
   exact Xq J J J (X6 [] (by decide) J J J)
theorem S_UnpackZeros (s : ByteArray) (hs : s.size ≤ 1099511627775) : Con Tryz.prog 146 [] [astr s] [] (otR (unpackZ false s)) := by
 refine Con.of Tryz.func146 J Tryz.ntmps146 J (fun E => ?_)
 refine zy (z1 J (z1 J (zz (zy (z1 J (zz (Qd ?_)))))));refine zy (z1 J (zz (Qk ?_)));refine A_lq (fun m__ st => ∃ (pos : Nat) (acc : List UInt8) (f : Nat),s.size - pos = m__ ∧ (s.size ≤ pos + f ∧ pos ≤ s.size ∧ acc.length ≤ 20000 ∧ uzGo s false f pos acc = uzGo s false s.size 0 []) ∧ st = (⟨_,[(0,S s),(4,S (bs acc)),(5,I pos)],[]⟩ : St)) _ ⟨_,⟨0,[],s.size,J,⟨by omega,by omega,by simp,J⟩,J⟩,W_gj [] J⟩ ?_
 rintro m_A _ ⟨pos,acc,f,hk_A,hp_A,rfl⟩
 obtain ⟨hfu,hps,hal,hgo⟩ := hp_A
 have hla := Yi acc
 by_cases hlt : pos < s.size
 ·have hb : decide ((pos : Int) < s.size) = true := decide_eq_true (by omega)
  have hd := X0 s (pos : Int) (by omega) ⟨by omega,by omega⟩
  obtain ⟨g,rfl⟩ : ∃ g,f = g + 1 := ⟨f - 1,by omega⟩
  cases hv : decVar s (pos : Int) with
  | none =>
   rw [hv] at hd
   have hut := S_UnpackText s ((pos : Int) + (0 : Int)) (by omega) ⟨by omega,by omega⟩
   rw [show unpackText s ((pos : Int) + (0 : Int)) = none by rw [Int.add_zero,unpackText,hv]] at hut
   rw [show unpackZ false s = none by rw [unpackZ,← hgo,uz_none1 hlt hv]]
   refine Qd (zy (z0 J (z0 J (zx (Z3 J J J) J (z9a J (by assumption) (zz (Qm J (Qh (Q0 ?_)))))))));refine Qk (zy (z0 J (z0 J ?_)));refine M1 (Zs J J (hd) J J J) J J ?_;refine zx (Q8 J J J) J (ze J (ze J (ze J (z1 J (z1 J (z1 J (zz (zy (z0 J ?_)))))))));refine z0 J (z0 J (z7 J (by omega) ?_));refine M1 (Zs J J (hut) J J J) J J ?_;refine zx (Q8 J J J) J (ze J (ze J (ze J (z1 J (z1 J (z1 J (zz (Qd (zy ?_)))))))));refine z0 J (zn J (z0 J (z6 J (z6 J (zpT J (z0 J (z6 J (z6 J (z6 J (z6 J (z6 J ?_)))))))))));refine z6 J (z6 J (z6 J (zpT J (zz (Qm J (zy (z1 J (z1 J (Qe ?_)))))))));refine Q0 (Xa (T_r (B_r (T_r (B_r (T_r (F_r ?_)))))))
   exact Xq J J J (X6 [] (by decide) J J J)
  | some r =>
   obtain ⟨n,j⟩ := r
   rw [hv] at hd
   have hm := Ym hv
   obtain ⟨z,rfl⟩ : ∃ z : Nat,n = z := ⟨n.toNat,by omega⟩
   have hut := S_UnpackText s ((pos : Int) + (j : Int)) (by omega) ⟨by omega,by omega⟩
   cases hu : unpackText s ((pos : Int) + (j : Int)) with
   | none =>
    rw [hu] at hut
    rw [show unpackZ false s = none by rw [unpackZ,← hgo,uz_none2 hlt hv hu]]
    refine Qd (zy (z0 J (z0 J (zx (Z3 J J J) J (z9a J (by assumption) (zz (Qm J (Qh (Q0 ?_)))))))));refine Qk (zy (z0 J (z0 J ?_)));refine M1 (Zs J J (hd) J J J) J J ?_;refine zx (Q8 J J J) J (ze J (ze J (ze J (z1 J (z1 J (z1 J (zz (zy (z0 J ?_)))))))));refine z0 J (z0 J (z7 J (by omega) ?_));refine M1 (Zs J J (hut) J J J) J J ?_;refine zx (Q8 J J J) J (ze J (ze J (ze J (z1 J (z1 J (z1 J (zz (Qd (zy ?_)))))))));refine z0 J (zn J (z0 J (z5 J (z0 J (z5 J (zn J (zpF J (z0 J (z6 J (z6 J (z6 J ?_)))))))))));refine z6 J (z6 J (z6 J (z6 J (z6 J (zpT J (zz (Qm J (zy (z1 J ?_)))))))));refine z1 J (zz (Xa (T_r (B_r (T_r (B_r (T_r (F_r ?_))))))))
    exact Xq J J J (X6 [] (by decide) J J J)
   | some r =>
    obtain ⟨t,k⟩ := r
    rw [hu] at hut
    have hus := unpackText_some hu
    by_cases hbig2 : (20000 : Int) - acc.length < z + t.size
    ·have hb3 : decide ((20000 : Int) - ((bs acc).size : Int) < (z : Int) + (t.size : Int)) = true := decide_eq_true (by omega)
     rw [show unpackZ false s = none by rw [unpackZ,← hgo,uz_big hlt hv hu hbig2]]
     refine Qd (zy (z0 J (z0 J (zx (Z3 J J J) J (z9a J (by assumption) (zz (Qm J (Qh (Q0 ?_)))))))));refine Qk (zy (z0 J (z0 J ?_)));refine M1 (Zs J J (hd) J J J) J J ?_;refine zx (Q8 J J J) J (ze J (ze J (ze J (z1 J (z1 J (z1 J (zz (zy (z0 J ?_)))))))));refine z0 J (z0 J (z7 J (by omega) ?_));refine M1 (Zs J J (hut) J J J) J J ?_;refine zx (Q8 J J J) J (ze J (ze J (ze J (z1 J (z1 J (z1 J (zz (Qd (zy ?_)))))))));refine z0 J (zn J (z0 J (z5 J (z0 J (z5 J (zn J (zpF J (z0 J (z5 J (z0 J (z5 J ?_)))))))))));refine z0 J (z5 J (zx (Z3 J J J) J (z5 J (z7 J (by omega) (z5 J (z0 J (z5 J (zx (Z3 J J J) J (z5 J (z8 J (by omega) (z5 J ?_)))))))))));refine z9c J (by assumption) (zpF J (zz (Qm J (zy (z1 J (z1 J (zz (Xa ?_))))))));refine T_r (B_r (T_r (B_r (T_r (F_r ?_)))))
     exact Xq J J J (X6 [] (by decide) J J J)
    have hb3 : decide ((20000 : Int) - ((bs acc).size : Int) < (z : Int) + (t.size : Int)) = false := decide_eq_false (by omega)
    have hgo2 := uz_step (acc := acc) (f := g) (b := false) hlt hv hu hbig2 (fun q => by cases q)
    rw [hgo,show ((z : Int)).toNat = z by omega] at hgo2
    have ht1 : t.data.toList.length = t.size := by simp
    have hz2 := Yi (List.replicate z (0 : UInt8))
    rw [List.length_replicate] at hz2
    have hz3 : (bs acc ++ bs (List.replicate z (0 : UInt8))).size = acc.length + z := by rw [Yg,Yi,List.length_append,List.length_replicate]
    have hz4 : (⟨(List.replicate z (0 : UInt8)).toArray⟩ : ByteArray).size = z := hz2
    have hz5 : (bs acc ++ (⟨(List.replicate z (0 : UInt8)).toArray⟩ : ByteArray)).size = acc.length + z := hz3
    have hS : bs acc ++ bs (List.replicate z 0) ++ t = bs (acc ++ List.replicate z 0 ++ t.data.toList) := by rw [← Yg,← Yg,bs_of t]
    refine Qd (zy (z0 J (z0 J (zx (Z3 J J J) J (z9a J (by assumption) (zz (Qm J (Qh (Q0 ?_)))))))));refine Qk (zy (z0 J (z0 J ?_)));refine M1 (Zs J J (hd) J J J) J J ?_;refine zx (Q8 J J J) J (ze J (ze J (ze J (z1 J (z1 J (z1 J (zz (zy (z0 J ?_)))))))));refine z0 J (z0 J (z7 J (by omega) ?_));refine M1 (Zs J J (hut) J J J) J J ?_;refine zx (Q8 J J J) J (ze J (ze J (ze J (z1 J (z1 J (z1 J (zz (Qd (zy ?_)))))))));refine z0 J (zn J (z0 J (z5 J (z0 J (z5 J (zn J (zpF J (z0 J (z5 J (z0 J (z5 J ?_)))))))))));refine z0 J (z5 J (zx (Z3 J J J) J (z5 J (z7 J (by omega) (z5 J (z0 J (z5 J (zx (Z3 J J J) J (z5 J (z8 J (by omega) (z5 J ?_)))))))))));refine z9c J (by assumption) (zpF J (zz (Ql J (Qh (Q0 (zy (z0 J (z0 J ?_))))))));refine M1 (q_make 0 J J J J (by omega) (by omega) (by omega) J (by decide)) J J ?_;refine AL.weak (st' := (⟨_,[(0,S s),(5,I pos),(6,I z),(7,I j),(9,S t),(10,I k),(48,S (bs acc)),(50,.o (.c (.ref 0)))],[.row 1 (bE (List.replicate z 0))]⟩ : St)) (X8 [0] (by decide) J ((Ki (bE_rep z))) (.c J (.c J (.c J (.c J (.c J (.c J (.c J (.c J (.nil)))))))))) ?_;refine zx (q_bstr J J J J) J (zx (q_cat J J J J (by omega)) J (z0 J (zx (q_cat J J J J (by omega)) J (z1 J (zz (Qc (z0 J (z0 J (z7 J (by omega) (z0 J ?_))))))))));refine z7 J (by omega) (z1 J (Qe (Q1 (Q0 ?_))))
    refine ⟨_,(by omega),(fun (pos : Nat) (acc : List UInt8) (f : Nat) => (⟨_,[(0,S s),(4,S (bs acc)),(5,I pos)],[]⟩ : St)) (pos + j + k) (acc ++ List.replicate z 0 ++ t.data.toList) (g),⟨pos + j + k,acc ++ List.replicate z 0 ++ t.data.toList,g,J,⟨by omega,by omega,by simp only [List.length_append,List.length_replicate]; omega,hgo2.symm⟩,J⟩,X8 [] (by decide) J (J) (.c J (.cons (S_eq hS) (.c J (.nil))))⟩
 ·have hb : decide ((pos : Int) < s.size) = false := decide_eq_false (by omega)
  have hend := uz_end (b := false) hlt f acc
  have hpk := S_PackZeros (bs acc) (by rw [Yi]; omega)
  rw [Yh] at hpk
  by_cases heq : bs (packZ acc) = s
  ·have e1 : decide (bs (packZ acc) ≠ s) = false := decide_eq_false (fun q => q heq)
   rw [show unpackZ false s = some (bs acc) by rw [unpackZ,← hgo,hend]; simp only []; rw [if_pos heq]]
   refine Qd (zy (z0 J (z0 J (zx (Z3 J J J) J (z9a J (by assumption) (zz (Ql J (Q9 (T_x ?_)))))))));refine T_x (Xl (Q0 (Qd (zy (z0 J ?_)))));refine zx (Qj J J (hpk) J) J ?_;refine z0 J (zx (Ka J J J J (by assumption)) J (zz (Ql J (Qh (Q0 (zy (z0 J (z1 J (z1 J ?_)))))))));refine zz (Xa (F_r ?_))
   exact Xq J J J (X6 [] (by decide) J J J)
  ·have e1 : decide (bs (packZ acc) ≠ s) = true := decide_eq_true heq
   rw [show unpackZ false s = none by rw [unpackZ,← hgo,hend]; simp only []; rw [if_neg heq]]
   refine Qd (zy (z0 J (z0 J (zx (Z3 J J J) J (z9a J (by assumption) (zz (Ql J (Q9 (T_x ?_)))))))));refine T_x (Xl (Q0 (Qd (zy (z0 J ?_)))));refine zx (Qj J J (hpk) J) J ?_;refine z0 J (zx (Ka J J J J (by assumption)) J (zz (Qm J (zy (z1 J (z1 J (zz (Xa ?_))))))));refine T_r (F_r ?_)
   exact Xq J J J (X6 [] (by decide) J J J)
def applyD (base delta : ByteArray) : Option ByteArray := match decVar delta 0 with
 | none => none
 | some (n,j) => match unpackZ true (delta.extract j delta.size) with
  | none => none
  | some x => if (x.size : Int) = n then some (xorText base x) else none
theorem xor_size (a b : ByteArray) : (xorText a b).size = b.size := by
 rw [xorText,Yi,xorL_len]; simp
theorem applyD_len {a d t : ByteArray} (h : applyD a d = some t) : t.size ≤ 20000 := by
 unfold applyD at h
 split at h
 ·cases h
 ·split at h
  ·cases h
  ·rename_i x hx
   split at h
   ·cases h; rw [xor_size]; exact unpackZ_len hx
   ·cases h
theorem I_ApplyDelta (base delta : ByteArray) (hb : base.size ≤ 1099511627775) (hs : delta.size ≤ 1099511627775) : Con Tryz.prog 57 [] [astr base,astr delta] [] (otR (applyD base delta)) := by
 have hd := Xs delta 0 (by omega) ⟨by omega,by omega⟩
 cases hv : decVar delta 0 with
 | none =>
  rw [hv] at hd
  rw [show applyD base delta = none by rw [applyD,hv]]
  refine Con.of Tryz.func57 J Tryz.ntmps57 J (fun E => ?_)
  refine zy (z1 J (z1 J (zz (zy (z0 J ?_)))));refine M1 (Zs J J (hd) J J J) J J ?_;refine zx (Q8 J J J) J (ze J (ze J (ze J (z1 J (z1 J (z1 J (zz (Qd (zy ?_)))))))));refine z0 J (zn J (zz (Qm J (zy (z1 J (z1 J (zz (Xa ?_))))))));refine T_r (F_r ?_)
  exact Xq J J J (X6 [] (by decide) J J J)
 | some r =>
  obtain ⟨n,j⟩ := r
  rw [hv] at hd
  have hm := Ym hv
  have hz := I_UnpackZeros (delta.extract j delta.size) (by rw [ByteArray.size_extract]; omega)
  have he := unpackZ_eq (delta.extract j delta.size) (by rw [ByteArray.size_extract]; omega)
  try rw [← he] at hz
  cases hu : unpackZ true (delta.extract j delta.size) with
  | none =>
   rw [hu] at hz
   rw [show applyD base delta = none by rw [applyD,hv]; simp only [hu]]
   refine Con.of Tryz.func57 J Tryz.ntmps57 J (fun E => ?_)
   refine zy (z1 J (z1 J (zz (zy (z0 J ?_)))));refine M1 (Zs J J (hd) J J J) J J ?_;refine zx (Q8 J J J) J (ze J (ze J (ze J (z1 J (z1 J (z1 J (zz (Qd (zy ?_)))))))));refine z0 J (zn J (zz (Ql J (Qh (Q0 (zy (z0 J (z0 J (zx (Kc J J J J (by omega)) J ?_)))))))));refine M1 (Zs J J (hz) J J J) J J ?_;refine zx (Q8 J J J) J (ze J (ze J (z1 J (z1 J (zz (Qd (zy (z0 J (zn J ?_)))))))));refine z0 J (z6 J (z6 J (z6 J (z6 J (zpT J (zz (Qm J (zy (z1 J ?_)))))))));refine z1 J (zz (Xa (T_r (F_r ?_))))
   exact Xq J J J (X6 [] (by decide) J J J)
  | some x =>
   rw [hu] at hz
   have hx := I_XorText base x (by omega) (by have := unpackZ_len hu; omega)
   by_cases hn : (x.size : Int) = n
   ·have e1 : decide ((x.size : Int) ≠ n) = false := decide_eq_false (fun q => q hn)
    rw [show applyD base delta = some (xorText base x) by rw [applyD,hv]; simp only [hu]; rw [if_pos hn]]
    refine Con.of Tryz.func57 J Tryz.ntmps57 J (fun E => ?_)
    refine zy (z1 J (z1 J (zz (zy (z0 J ?_)))));refine M1 (Zs J J (hd) J J J) J J ?_;refine zx (Q8 J J J) J (ze J (ze J (ze J (z1 J (z1 J (z1 J (zz (Qd (zy ?_)))))))));refine z0 J (zn J (zz (Ql J (Qh (Q0 (zy (z0 J (z0 J (zx (Kc J J J J (by omega)) J ?_)))))))));refine M1 (Zs J J (hz) J J J) J J ?_;refine zx (Q8 J J J) J (ze J (ze J (z1 J (z1 J (zz (Qd (zy (z0 J (zn J ?_)))))))));refine z0 J (z5 J (z0 J (z5 J (zx (Z3 J J J) J (z5 J (z0 J (z5 J (z9f J (by assumption) (zpF J (zz ?_))))))))));refine Ql J (Qh (Q0 (zy (z0 J (z0 J ?_)))));refine zx (Qj J J (hx) J) J ?_;refine z1 J (z1 J (zz (Xa (F_r ?_))))
    exact Xq J J J (X6 [] (by decide) J J J)
   ·have e1 : decide ((x.size : Int) ≠ n) = true := decide_eq_true hn
    rw [show applyD base delta = none by rw [applyD,hv]; simp only [hu]; rw [if_neg hn]]
    refine Con.of Tryz.func57 J Tryz.ntmps57 J (fun E => ?_)
    refine zy (z1 J (z1 J (zz (zy (z0 J ?_)))));refine M1 (Zs J J (hd) J J J) J J ?_;refine zx (Q8 J J J) J (ze J (ze J (ze J (z1 J (z1 J (z1 J (zz (Qd (zy ?_)))))))));refine z0 J (zn J (zz (Ql J (Qh (Q0 (zy (z0 J (z0 J (zx (Kc J J J J (by omega)) J ?_)))))))));refine M1 (Zs J J (hz) J J J) J J ?_;refine zx (Q8 J J J) J (ze J (ze J (z1 J (z1 J (zz (Qd (zy (z0 J (zn J ?_)))))))));refine z0 J (z5 J (z0 J (z5 J (zx (Z3 J J J) J (z5 J (z0 J (z5 J (z9f J (by assumption) (zpF J (zz ?_))))))))));refine Qm J (zy (z1 J (z1 J (zz (Xa (T_r (F_r ?_)))))))
    exact Xq J J J (X6 [] (by decide) J J J)
theorem S_ApplyDelta (base delta : ByteArray) (hb : base.size ≤ 1099511627775) (hs : delta.size ≤ 1099511627775) : Con Tryz.prog 118 [] [astr base,astr delta] [] (otR (applyD base delta)) := by
 have hd := X0 delta 0 (by omega) ⟨by omega,by omega⟩
 cases hv : decVar delta 0 with
 | none =>
  rw [hv] at hd
  rw [show applyD base delta = none by rw [applyD,hv]]
  refine Con.of Tryz.func118 J Tryz.ntmps118 J (fun E => ?_)
  refine zy (z1 J (z1 J (zz (zy (z0 J ?_)))));refine M1 (Zs J J (hd) J J J) J J ?_;refine zx (Q8 J J J) J (ze J (ze J (ze J (z1 J (z1 J (z1 J (zz (Qd (zy ?_)))))))));refine z0 J (zn J (zz (Qm J (zy (z1 J (z1 J (zz (Xa ?_))))))));refine T_r (F_r ?_)
  exact Xq J J J (X6 [] (by decide) J J J)
 | some r =>
  obtain ⟨n,j⟩ := r
  rw [hv] at hd
  have hm := Ym hv
  have hz := S_UnpackZeros (delta.extract j delta.size) (by rw [ByteArray.size_extract]; omega)
  have he := unpackZ_eq (delta.extract j delta.size) (by rw [ByteArray.size_extract]; omega)
  try rw [← he] at hz
  cases hu : unpackZ true (delta.extract j delta.size) with
  | none =>
   rw [hu] at hz
   rw [show applyD base delta = none by rw [applyD,hv]; simp only [hu]]
   refine Con.of Tryz.func118 J Tryz.ntmps118 J (fun E => ?_)
   refine zy (z1 J (z1 J (zz (zy (z0 J ?_)))));refine M1 (Zs J J (hd) J J J) J J ?_;refine zx (Q8 J J J) J (ze J (ze J (ze J (z1 J (z1 J (z1 J (zz (Qd (zy ?_)))))))));refine z0 J (zn J (zz (Ql J (Qh (Q0 (zy (z0 J (z0 J (zx (Kc J J J J (by omega)) J ?_)))))))));refine M1 (Zs J J (hz) J J J) J J ?_;refine zx (Q8 J J J) J (ze J (ze J (z1 J (z1 J (zz (Qd (zy (z0 J (zn J ?_)))))))));refine z0 J (z6 J (z6 J (z6 J (z6 J (zpT J (zz (Qm J (zy (z1 J ?_)))))))));refine z1 J (zz (Xa (T_r (F_r ?_))))
   exact Xq J J J (X6 [] (by decide) J J J)
  | some x =>
   rw [hu] at hz
   have hx := S_XorText base x (by omega) (by have := unpackZ_len hu; omega)
   by_cases hn : (x.size : Int) = n
   ·have e1 : decide ((x.size : Int) ≠ n) = false := decide_eq_false (fun q => q hn)
    rw [show applyD base delta = some (xorText base x) by rw [applyD,hv]; simp only [hu]; rw [if_pos hn]]
    refine Con.of Tryz.func118 J Tryz.ntmps118 J (fun E => ?_)
    refine zy (z1 J (z1 J (zz (zy (z0 J ?_)))));refine M1 (Zs J J (hd) J J J) J J ?_;refine zx (Q8 J J J) J (ze J (ze J (ze J (z1 J (z1 J (z1 J (zz (Qd (zy ?_)))))))));refine z0 J (zn J (zz (Ql J (Qh (Q0 (zy (z0 J (z0 J (zx (Kc J J J J (by omega)) J ?_)))))))));refine M1 (Zs J J (hz) J J J) J J ?_;refine zx (Q8 J J J) J (ze J (ze J (z1 J (z1 J (zz (Qd (zy (z0 J (zn J ?_)))))))));refine z0 J (z5 J (z0 J (z5 J (zx (Z3 J J J) J (z5 J (z0 J (z5 J (z9f J (by assumption) (zpF J (zz ?_))))))))));refine Ql J (Qh (Q0 (zy (z0 J (z0 J ?_)))));refine zx (Qj J J (hx) J) J ?_;refine z1 J (z1 J (zz (Xa (F_r ?_))))
    exact Xq J J J (X6 [] (by decide) J J J)
   ·have e1 : decide ((x.size : Int) ≠ n) = true := decide_eq_true hn
    rw [show applyD base delta = none by rw [applyD,hv]; simp only [hu]; rw [if_neg hn]]
    refine Con.of Tryz.func118 J Tryz.ntmps118 J (fun E => ?_)
    refine zy (z1 J (z1 J (zz (zy (z0 J ?_)))));refine M1 (Zs J J (hd) J J J) J J ?_;refine zx (Q8 J J J) J (ze J (ze J (ze J (z1 J (z1 J (z1 J (zz (Qd (zy ?_)))))))));refine z0 J (zn J (zz (Ql J (Qh (Q0 (zy (z0 J (z0 J (zx (Kc J J J J (by omega)) J ?_)))))))));refine M1 (Zs J J (hz) J J J) J J ?_;refine zx (Q8 J J J) J (ze J (ze J (z1 J (z1 J (zz (Qd (zy (z0 J (zn J ?_)))))))));refine z0 J (z5 J (z0 J (z5 J (zx (Z3 J J J) J (z5 J (z0 J (z5 J (z9f J (by assumption) (zpF J (zz ?_))))))))));refine Qm J (zy (z1 J (z1 J (zz (Xa (T_r (F_r ?_)))))))
    exact Xq J J J (X6 [] (by decide) J J J)
end
section
open Go.RowKit

theorem I_ReadWorld (lv : TLevel) (s : ByteArray) (hg : Enc.gd lv) (hL : lv.Rows.length ≤ 1048576) (hs : s.size ≤ 1099511627776) : Con Tryz.prog 58 [] [ag lv,astr s] (ownO (Enc.e (rwW (readWorld lv s)))) (.tu [.ag (ownV 0 (Enc.e (rwW (readWorld lv s)))),.c (bv (rwB (readWorld lv s)))]) := by
 have hui := I_UnpackInts s 0 hs ⟨by omega,by omega⟩
 cases hu : unpackInts s 0 with
 | none =>
  rw [hu] at hui
  rw [Kf hu]
  refine Con.of Tryz.func58 J Tryz.ntmps58 J (fun E => ?_)
  refine zy (M1 (Qq J J J J) J J (M1 (Qx J J J) J J (z1 J (zz (zy (z0 J ?_))))));refine M1 (Zs J J (hui) J J J) J J ?_;refine zx (Q8 J J J) J (ze J (ze J (ze J (z1 J (z1 J (z1 J (zz (Qd (zy ?_)))))))));refine z0 J (zn J (z0 J (z6 J (z6 J (z6 J (z6 J (zpT J (z0 J (z6 J (z6 J (z6 J ?_)))))))))));refine zpT J (zz (Qm J (zy (zx (Zp J J J J J) J ?_))));refine Qy J J J J J J J J J (z1 J (zz (Xa (T_r (F_r ?_)))))
  exact Xn J J J J J (X7 [1,1,9] [3,4,5] J J (by decide) J J J)
 | some r =>
  obtain ⟨l,pos⟩ := r
  rw [hu] at hui
  obtain ⟨_,hu1,hu2,hu3,hu4⟩ := Ku hu
  have hll := Yq l
  refine Con.of Tryz.func58 J Tryz.ntmps58 J (fun E => ?_)
  refine zy (M1 (Qq J J J J) J J (M1 (Qx J J J) J J (z1 J (zz (zy (z0 J ?_))))));refine M1 (Zs J J (hui) J J J) J J ?_;refine zx (Q8 J J J) J (ze J (ze J (ze J (z1 J (z1 J (z1 J (zz (Qd (zy ?_)))))))));refine z0 J (zn J (z0 J (z5 J (z0 J (z5 J (z0 J (z5 J (zx (Z3 J J J) J (z5 J (zx (Z7 J J J J) J (zpF J ?_)))))))))));refine z0 J ?_;refine zx (Qt.grdF J J J .stop (fun hgrd => Qa J J J)) J ?_;refine zx (Qt.grdF J J J (.hit .stop) (fun hgrd => Z1 J J J J)) J ?_;refine zx (Qt.grdF J J J (.hit (.hit .stop)) (fun hgrd => Z5 J J J J)) J ?_;refine zx (Z8 J J J J) J (zz ?_)
  refine Xb J (fun h => ?_) (fun h => ?_)
  ·simp only [Bool.or_eq_true,decide_eq_true_eq] at h
   rw [Ke hu (fun hh => by have := hh.2.1.1; omega)]
   refine zy (zx (Zp J J J J J) J ?_);refine Qy J J J J J J J J J (z1 J (zz (Xa (T_r (F_r ?_)))))
   exact Xn J J J J J (X7 [1,1,9] [3,4,5] J J (by decide) J J J)
  simp only [Bool.or_eq_false_iff,decide_eq_false_iff_not] at h
  have ha0 := Yp (l := l) (j := 0) (by omega) 0 rfl
  have ha1 := Yp (l := l) (j := 1) (by omega) 1 rfl
  have ha2 := Yp (l := l) (j := 2) (by omega) 2 rfl
  obtain ⟨l2,hl2⟩ : ∃ l2,l.getD 2 0 = l2 := ⟨_,rfl⟩
  rw [hl2] at ha2
  have hl264 : I64 l2 := by
   rw [← hl2,List.getD_eq_getElem?_getD,List.getElem?_eq_getElem (by omega)]
   exact hu4 _ (List.getElem_mem _)
  have hl21 := hl264.1
  have hl22 := hl264.2
  have hbt := Xw l2 1 4
  by_cases hin : inR l2 1 4 = true
  case neg =>
   have hf : inR l2 1 4 = false := by simpa using hin
   rw [hf] at hbt
   rw [Ke hu (fun hh => by have := hh.2.1.2.1; rw [hl2,← Y3] at this; exact hin this)]
   refine Qh (Q0 (zy (z0 J (zx (Q3 J J J J J (by omega) (by omega)) J (zx (Q7 J J J J (by assumption) J) J (z1 J (zz (Qd (Qd ?_)))))))));refine Qc (z0 J ?_);refine zx (Qj J J (hbt) J) J ?_;refine zn J (z0 J (z6 J (z6 J (z6 J (z6 J (z6 J (zpT J (zz (Qm J (Qd ?_))))))))));refine Qc (zx (Zp J J J J J) J ?_);refine Qy J J J J J J J J J (z1 J (zz (Xa (T_r (F_r ?_)))))
   exact Xn J J J J J (X7 [1,1,9] [3,4,5] J J (by decide) J J J)
  rw [hin] at hbt
  have hin2 := Y3.1 hin
  obtain ⟨p,rfl⟩ : ∃ p : Nat,l2 = p := ⟨l2.toNat,by omega⟩
  refine Qh (Q0 (zy (z0 J (zx (Q3 J J J J J (by omega) (by omega)) J (zx (Q7 J J J J (by assumption) J) J (z1 J (zz (Qd (Qd ?_)))))))));refine Qc (z0 J ?_);refine zx (Qj J J (hbt) J) J ?_;refine zn J (z0 J (z5 J (z0 J (z5 J (zx (Z1 J J J J) J (z5 J (z0 J (z5 J (z7 J (by omega) (z5 J (zx (Z5 J J J J) J ?_)))))))))));refine zpF J (zz ?_)
  refine Xb J (fun h2 => ?_) (fun h2 => ?_)
  ·have h2 := of_decide_eq_true h2
   rw [Ke hu (fun hh => by have := hh.2.1.2.2.1; omega)]
   refine zy (zx (Zp J J J J J) J ?_);refine Qy J J J J J J J J J (z1 J (zz (Xa (T_r (F_r ?_)))))
   exact Xn J J J J J (X7 [1,1,9] [3,4,5] J J (by decide) J J J)
  have h2 := of_decide_eq_false h2
  refine Qh (Q0 (Qd (Xi [[],[0],[],[2],[2,3],[],[5],[5,6],(u9 8),[],(u9 10)] [[],[48],[],[50],[50,51],[],[53],[53,54],[48,49,50,51,52,53,54,55],[],[10,48,49,50,51,52,53,54,55,56]] [[10,50,51,52,53,54,55],[10,50,51,52,53,54,55],[10,48,49,53,54,55],[10,48,49,53,54,55],[10,48,49,53,54,55],[10,48,49,50,51,52],[10,48,49,50,51,52],[10,48,49,50,51,52],[10],[48,49,50,51,52,53,54,55,56],[]] J (DR.s (Qu J J J J J J) J J ?_))));refine DR.s (Zs J J (I_copyLevel lv hg hL) J J J) J J ?_;refine DR.s (Qa J J J) J J (DR.s (Q3 J J J J J (by omega) (by omega)) J J (DR.s (Q7 J J J J (by assumption) J) J J (DR.s (Qa J J J) J J (DR.s (Q3 J J J J J (by omega) (by omega)) J J (DR.s (Q7 J J J J (by assumption) J) J J (DR.s (Zp J J J J J) J J (DR.s (Qx J J J) J J (DR.stop (by kernel_rfl) (by kernel_rfl) ?_))))))));refine AL.weak (st' := (⟨_,[(4,.o (.c (.ptr 1 0))),(6,.o (.c (.ref 2))),(9,I p),(10,.o (.c (.ptr 4 0))),(56,.o (.ag [.ref 3,jv (l.getD 0 0),jv (l.getD 1 0),nilV,nilV]))],[.box ((Enc.e lv).map (V1.rd [])),.box [nilV,jv 0,jv 0,nilV,nilV],.row 1 (els l),.row 1 (els lv.Rows),.box [nilV,jv 0,jv 0,nilV,nilV]]⟩ : St)) (W_gj [0,1,2,3,4] J) ?_
  have hpl : (p : Int) ≤ 4 := hin2.2
  have hcl := Clone_ints ((l.drop 3).take p) (by simp; omega) (by simp; omega)
  rw [show al ((l.drop 3).take p) = .c (.rd [] (.sl 1 (((els l).take ((3 : Int) + (p : Int)).toNat).drop (3 : Int).toNat))) by
   rw [show ((3 : Int) + (p : Int)).toNat = 3 + p by omega,show (3 : Int).toNat = 3 from rfl,List.drop_take,← els_dropE,← Yt,show 3 + p - 3 = p by omega]; rfl] at hcl
  obtain ⟨rest,hrest⟩ : ∃ rest,rest = l.drop (3 + p) := ⟨_,rfl⟩
  have hre : (els l).drop ((3 : Int) + (p : Int)).toNat = els rest := by rw [show ((3 : Int) + (p : Int)).toNat = 3 + p by omega,← els_dropE,hrest]
  have hrl : rest.length = l.length - (3 + p) := by rw [hrest]; simp
  have hrl2 := Yq rest
  have hdl : ((els l).drop ((3 : Int) + (p : Int)).toNat).length = l.length - (3 + p) := by rw [List.length_drop,hll]; congr 1
  refine Qy J J J J J J J J J (zz (zy (z0 J (z0 J (z7 J (by omega) (zx (q_partr J J J J J J J (by omega)) J ?_))))));refine M1 (Zs J J (hcl) J J J) J J ?_;refine z2 J J J ?_;refine Q5 J J J J J J J J (zz (zy (z0 J (z0 J (z7 J (by omega) (zx (q_partr1 J J J J J J (by omega)) J (z1 J (zz ?_))))))));refine Qd (zy (z0 J (zx (Z0 J J J) J (zx (Z9 J J J J (by omega)) J (zx (Z7 J J J J) J (z0 J ?_))))));refine zx (Qt.grdF J J J .stop (fun hgrd => Qa J J J)) J ?_;refine zx (Qt.grdF J J J (.hit .stop) (fun hgrd => Z0 J J J)) J ?_;refine zx (Qt.grdF J J J (.hit (.hit .stop)) (fun hgrd => q_quo J J J J (by omega))) J ?_;refine zx (Qt.grdF J J J (.hit (.hit (.hit .stop))) (fun hgrd => Zy J J J J)) J ?_;refine zx (Z8 J J J J) J (zz ?_)
  refine Xb J (fun h3 => ?_) (fun h3 => ?_)
  ·simp only [Bool.or_eq_true,decide_eq_true_eq] at h3
   rw [Ke hu (fun hh => by
    have h8 := hh.2.1.2.2.2
    have h9 := (Ky hh.2.2).2.2.2.2.2.1.2
    have h10 : (worldOf lv l).Bodies.length = (l.length - 3 - (l.getD 2 0).toNat) / 9 := Yf _ _
    rw [hl2] at h8 h10
    omega)]
   refine zy (zx (Zp J J J J J) J ?_);refine Qy J J J J J J J J J (z1 J (zz (Xa (T_r (F_r ?_)))))
   exact Xn J J J J J (X7 [1,1,9] [6,7,8] J J (by decide) J J J)
  simp only [Bool.or_eq_false_iff,decide_eq_false_iff_not] at h3
  obtain ⟨nb,hn⟩ : ∃ nb,rest.length = 9 * nb := ⟨rest.length / 9,by omega⟩
  have hform : formOk l := ⟨by omega,by rw [hl2]; exact hin2,by rw [hl2]; omega,by rw [hl2]; omega⟩
  have hwo : worldOf lv l = ⟨lv,l.getD 0 0,l.getD 1 0,(l.drop 3).take p,bodiesOf rest nb⟩ := by
   rw [worldOf,hl2,Int.toNat_natCast,← hrest,show (l.length - 3 - p) / 9 = nb by omega]
  have hwg := worldOf_gd (lv := lv) hg hu4 (by omega)
  rw [hwo] at hwg
  refine AWP.pre (st' := (⟨_,[(4,.o (.c (.ptr 1 0))),(10,.o (.c (.ptr 4 0))),(11,.o (.c (.rd [2] (.sl 1 (els rest)))))],[.box ((Enc.e lv).map (V1.rd [])),.box [nilV,jv 0,jv 0,nilV,nilV],.row 1 (els l),.row 1 (els lv.Rows),.box [.ref 3,jv (l.getD 0 0),jv (l.getD 1 0),.ref 5,nilV],.row 1 (els ((l.drop 3).take p))]⟩ : St)) ?_ (X8 [0,1,2,3,4,5] (by decide) J (J) (.c J (.c J (.cons (rdE hre) (.nil)))))
  refine AWP.pre ?_ (Wk.nilbox (p := 4) (i := 4) 9 J J)
  refine Qh (Q0 (Qd (zy (z1 J (zz (Qk ?_))))));refine A_lq (fun m st => ∃ k : Nat,k + m = nb ∧ (True) ∧ st = (⟨_,[(4,.o (.c (.ptr 1 0))),(10,.o (.c (.ptr 4 0))),(11,.o (.c (.rd [2] (.sl 1 (els rest))))),(12,I (9 * (k : Int)))],[.box ((Enc.e lv).map (V1.rd [])),.box [nilV,jv 0,jv 0,nilV,nilV],.row 1 (els l),.row 1 (els lv.Rows),.box [.ref 3,jv (l.getD 0 0),jv (l.getD 1 0),.ref 5,.ref 6],.row 1 (els ((l.drop 3).take p)),.row 9 (els (bodiesOf rest k))]⟩ : St)) (nb) ⟨(fun k : Nat => (⟨_,[(4,.o (.c (.ptr 1 0))),(10,.o (.c (.ptr 4 0))),(11,.o (.c (.rd [2] (.sl 1 (els rest))))),(12,I (9 * (k : Int)))],[.box ((Enc.e lv).map (V1.rd [])),.box [nilV,jv 0,jv 0,nilV,nilV],.row 1 (els l),.row 1 (els lv.Rows),.box [.ref 3,jv (l.getD 0 0),jv (l.getD 1 0),.ref 5,.ref 6],.row 1 (els ((l.drop 3).take p)),.row 9 (els (bodiesOf rest k))]⟩ : St)) 0,⟨0,by omega,trivial,J⟩,X8 [0,1,2,3,4,5,6] (by decide) J (J) (.c J (.c J (.c J (.cons (Xx (by simp)) (.nil)))))⟩ ?_
  rintro m_A _ ⟨k,hk_A,hp_A,rfl⟩
  have hlbk := Yq (bodiesOf rest k)
  have hlbk2 := Yf rest k
  refine Qd (zy (z0 J (z0 J (zx (Z0 J J J) J (zx (Z5 J J J J) J (zz ?_))))))
  refine Xb J (fun h4 => ?_) (fun h4 => ?_)
  ·have h4 := of_decide_eq_true h4
   have hk9 : 9 * k + 9 ≤ rest.length := by omega
   have hc0 := Yl (rest := rest) (m := k) (by omega) (j := 0) (by omega) (9 * (k : Int) + 9) (9 * (k : Int)) J J 0 rfl
   have hc1 := Yl (rest := rest) (m := k) (by omega) (j := 1) (by omega) (9 * (k : Int) + 9) (9 * (k : Int)) J J 1 rfl
   have hc2 := Yl (rest := rest) (m := k) (by omega) (j := 2) (by omega) (9 * (k : Int) + 9) (9 * (k : Int)) J J 2 rfl
   have hc3 := Yl (rest := rest) (m := k) (by omega) (j := 3) (by omega) (9 * (k : Int) + 9) (9 * (k : Int)) J J 3 rfl
   have hc4 := Yl (rest := rest) (m := k) (by omega) (j := 4) (by omega) (9 * (k : Int) + 9) (9 * (k : Int)) J J 4 rfl
   have hc5 := Yl (rest := rest) (m := k) (by omega) (j := 5) (by omega) (9 * (k : Int) + 9) (9 * (k : Int)) J J 5 rfl
   have hc6 := Yl (rest := rest) (m := k) (by omega) (j := 6) (by omega) (9 * (k : Int) + 9) (9 * (k : Int)) J J 6 rfl
   have hc7 := Yl (rest := rest) (m := k) (by omega) (j := 7) (by omega) (9 * (k : Int) + 9) (9 * (k : Int)) J J 7 rfl
   have hc8 := Yl (rest := rest) (m := k) (by omega) (j := 8) (by omega) (9 * (k : Int) + 9) (9 * (k : Int)) J J 8 rfl
   have hlbk3 : (els (bodiesOf rest k)).length = k := by omega
   have hlt : (9 * (k : Int) + 9 ≤ (els rest).length) := by omega
   have hk24 : k ≤ 24 := by omega
   have hknb : k < nb := by omega
   clear hwg hwo hform hre hcl hdl h3 h2 hin2 hin hbt hl264 hl21 hl22 ha0 ha1 ha2 h hu1 hu2 hu3 hu4 hll hui hrl hrl2 hn hpl hlbk hlbk2 hp_A hk9 h4
   refine Qh (Q0 (Qd (Qk (zy (z0 J (z0 J (z0 J (z7 J (by omega) (zx (q_part J J J J J J (by omega)) J (z1 J ?_))))))))));refine zz (Xi [[],[0],[],[2],[2,3],[],[5],[5,6],[],[8],[8,9],[],[11],[11,12],[],[14],[14,15],[],[17],[17,18],[],[20],[20,21],[],[23],[23,24],[],[26],[26,27],[2,3,4,5,6,7,8,9,10,11,12,13,14,15,16,17,18,19,20,21,22,23,24,25,26,27,28],[2,3,4,5,6,7,8,9,10,11,12,13,14,15,16,17,18,19,20,21,22,23,24,25,26,27,28,29],(u9 31),(u9 32),(u9 33)] [[],[89],[],[91],[91,92],[],[94],[94,95],[],[97],[97,98],[],[100],[100,101],[],[103],[103,104],[],[106],[106,107],[],[109],[109,110],[],[112],[112,113],[],[115],[115,116],[91,92,93,94,95,96,97,98,99,100,101,102,103,104,105,106,107,108,109,110,111,112,113,114,115,116,117],[91,92,93,94,95,96,97,98,99,100,101,102,103,104,105,106,107,108,109,110,111,112,113,114,115,116,117,118],[89,90,91,92,93,94,95,96,97,98,99,100,101,102,103,104,105,106,107,108,109,110,111,112,113,114,115,116,117,118,119],[89,90,91,92,93,94,95,96,97,98,99,100,101,102,103,104,105,106,107,108,109,110,111,112,113,114,115,116,117,118,119,120],[89,90,91,92,93,94,95,96,97,98,99,100,101,102,103,104,105,106,107,108,109,110,111,112,113,114,115,116,117,118,119,120,121]] [[91,92,93,94,95,96,97,98,99,100,101,102,103,104,105,106,107,108,109,110,111,112,113,114,115,116,117,118,119],[91,92,93,94,95,96,97,98,99,100,101,102,103,104,105,106,107,108,109,110,111,112,113,114,115,116,117,118,119],[89,90,94,95,96,97,98,99,100,101,102,103,104,105,106,107,108,109,110,111,112,113,114,115,116,117],[89,90,94,95,96,97,98,99,100,101,102,103,104,105,106,107,108,109,110,111,112,113,114,115,116,117],[89,90,94,95,96,97,98,99,100,101,102,103,104,105,106,107,108,109,110,111,112,113,114,115,116,117],[89,90,91,92,93,97,98,99,100,101,102,103,104,105,106,107,108,109,110,111,112,113,114,115,116,117],[89,90,91,92,93,97,98,99,100,101,102,103,104,105,106,107,108,109,110,111,112,113,114,115,116,117],[89,90,91,92,93,97,98,99,100,101,102,103,104,105,106,107,108,109,110,111,112,113,114,115,116,117],[89,90,91,92,93,94,95,96,100,101,102,103,104,105,106,107,108,109,110,111,112,113,114,115,116,117],[89,90,91,92,93,94,95,96,100,101,102,103,104,105,106,107,108,109,110,111,112,113,114,115,116,117],[89,90,91,92,93,94,95,96,100,101,102,103,104,105,106,107,108,109,110,111,112,113,114,115,116,117],[89,90,91,92,93,94,95,96,97,98,99,103,104,105,106,107,108,109,110,111,112,113,114,115,116,117],[89,90,91,92,93,94,95,96,97,98,99,103,104,105,106,107,108,109,110,111,112,113,114,115,116,117],[89,90,91,92,93,94,95,96,97,98,99,103,104,105,106,107,108,109,110,111,112,113,114,115,116,117],[89,90,91,92,93,94,95,96,97,98,99,100,101,102,106,107,108,109,110,111,112,113,114,115,116,117],[89,90,91,92,93,94,95,96,97,98,99,100,101,102,106,107,108,109,110,111,112,113,114,115,116,117],[89,90,91,92,93,94,95,96,97,98,99,100,101,102,106,107,108,109,110,111,112,113,114,115,116,117],[89,90,91,92,93,94,95,96,97,98,99,100,101,102,103,104,105,109,110,111,112,113,114,115,116,117],[89,90,91,92,93,94,95,96,97,98,99,100,101,102,103,104,105,109,110,111,112,113,114,115,116,117],[89,90,91,92,93,94,95,96,97,98,99,100,101,102,103,104,105,109,110,111,112,113,114,115,116,117],[89,90,91,92,93,94,95,96,97,98,99,100,101,102,103,104,105,106,107,108,112,113,114,115,116,117],[89,90,91,92,93,94,95,96,97,98,99,100,101,102,103,104,105,106,107,108,112,113,114,115,116,117],[89,90,91,92,93,94,95,96,97,98,99,100,101,102,103,104,105,106,107,108,112,113,114,115,116,117],[89,90,91,92,93,94,95,96,97,98,99,100,101,102,103,104,105,106,107,108,109,110,111,115,116,117],[89,90,91,92,93,94,95,96,97,98,99,100,101,102,103,104,105,106,107,108,109,110,111,115,116,117],[89,90,91,92,93,94,95,96,97,98,99,100,101,102,103,104,105,106,107,108,109,110,111,115,116,117],[89,90,91,92,93,94,95,96,97,98,99,100,101,102,103,104,105,106,107,108,109,110,111,112,113,114],[89,90,91,92,93,94,95,96,97,98,99,100,101,102,103,104,105,106,107,108,109,110,111,112,113,114],[89,90,91,92,93,94,95,96,97,98,99,100,101,102,103,104,105,106,107,108,109,110,111,112,113,114],[89,90],[89,90],[],[],[]] J (DR.s (Qf J J J J (by decide)) J J (DR.s (Qg J J J J J) J J (DR.s (Qa J J J) J J (DR.s (Q2 J J J J (by omega) (by assumption) J) J J (DR.s (Z4 J J J J) J J (DR.s (Qa J J J) J J (DR.s (Q2 J J J J (by omega) (by assumption) J) J J (DR.s (Z4 J J J J) J J (DR.s (Qa J J J) J J ?_))))))))));refine DR.s (Q2 J J J J (by omega) (by assumption) J) J J (DR.s (Z4 J J J J) J J (DR.s (Qa J J J) J J (DR.s (Q2 J J J J (by omega) (by assumption) J) J J (DR.s (Z4 J J J J) J J (DR.s (Qa J J J) J J (DR.s (Q2 J J J J (by omega) (by assumption) J) J J (DR.s (Z4 J J J J) J J (DR.s (Qa J J J) J J (DR.s (Q2 J J J J (by omega) (by assumption) J) J J (DR.s (Z4 J J J J) J J (DR.s (Qa J J J) J J ?_)))))))))));refine DR.s (Q2 J J J J (by omega) (by assumption) J) J J (DR.s (Z4 J J J J) J J (DR.s (Qa J J J) J J (DR.s (Q2 J J J J (by omega) (by assumption) J) J J (DR.s (Z4 J J J J) J J (DR.s (Qa J J J) J J (DR.s (Q2 J J J J (by omega) (by assumption) J) J J (DR.s (Z4 J J J J) J J ?_)))))));refine DR.s (x := .o (.ag [jv ((rest.drop (9 * k)).getD 0 0),jv ((rest.drop (9 * k)).getD 1 0),jv ((rest.drop (9 * k)).getD 2 0),jv ((rest.drop (9 * k)).getD 3 0),jv ((rest.drop (9 * k)).getD 4 0),jv ((rest.drop (9 * k)).getD 5 0),jv ((rest.drop (9 * k)).getD 6 0),jv ((rest.drop (9 * k)).getD 7 0),jv ((rest.drop (9 * k)).getD 8 0)])) (Zp J J J J J) J J ?_;refine DR.s (Zm J J J J J J) J J (DR.stop (by kernel_rfl) (by kernel_rfl) ?_);refine AL.weak (st' := (⟨_,[(4,.o (.c (.ptr 1 0))),(10,.o (.c (.ptr 4 0))),(11,.o (.c (.rd [2] (.sl 1 (els rest))))),(12,I (9 * (k : Int))),(90,.o (.c (.ref 6))),(119,.o (.c (.sb 7 1 9)))],[.box ((Enc.e lv).map (V1.rd [])),.box [nilV,jv 0,jv 0,nilV,nilV],.row 1 (els l),.row 1 (els lv.Rows),.box [.ref 3,jv (l.getD 0 0),jv (l.getD 1 0),.ref 5,.ref 6],.row 1 (els ((l.drop 3).take p)),.row 9 (els (bodiesOf rest k)),.box [jv ((rest.drop (9 * k)).getD 0 0),jv ((rest.drop (9 * k)).getD 1 0),jv ((rest.drop (9 * k)).getD 2 0),jv ((rest.drop (9 * k)).getD 3 0),jv ((rest.drop (9 * k)).getD 4 0),jv ((rest.drop (9 * k)).getD 5 0),jv ((rest.drop (9 * k)).getD 6 0),jv ((rest.drop (9 * k)).getD 7 0),jv ((rest.drop (9 * k)).getD 8 0)]]⟩ : St)) (W_gj [0,1,2,3,4,5,6,7] J) ?_;refine Xy J J J J J J J J J J J J J J (by omega) (by omega) ?_;refine z2 J J J ?_;refine Q5 J J J J J J J J (Qe (Q1 (Q0 (Qc (z0 J (z7 J (by omega) (z1 J (zz ?_))))))))
   exact ⟨nb - (k + 1),by omega,(fun k : Nat => (⟨_,[(4,.o (.c (.ptr 1 0))),(10,.o (.c (.ptr 4 0))),(11,.o (.c (.rd [2] (.sl 1 (els rest))))),(12,I (9 * (k : Int)))],[.box ((Enc.e lv).map (V1.rd [])),.box [nilV,jv 0,jv 0,nilV,nilV],.row 1 (els l),.row 1 (els lv.Rows),.box [.ref 3,jv (l.getD 0 0),jv (l.getD 1 0),.ref 5,.ref 6],.row 1 (els ((l.drop 3).take p)),.row 9 (els (bodiesOf rest k))]⟩ : St)) (k + 1),⟨k + 1,by omega,trivial,J⟩,X8 [0,1,2,3,4,5,6] (by decide) J (row7 (by rw [bodiesOf_snoc,Yn]; rfl)) (.c J (.c J (.c J (.cons (Xx (by omega)) (.nil)))))⟩
  ·have h4 := of_decide_eq_false h4
   have hkn : k = nb := by omega
   subst hkn
   have hwk := I_WorldOk ⟨lv,l.getD 0 0,l.getD 1 0,(l.drop 3).take p,bodiesOf rest k⟩ hwg
   cases ho : worldOk ⟨lv,l.getD 0 0,l.getD 1 0,(l.drop 3).take p,bodiesOf rest k⟩ with
   | false =>
    rw [ho] at hwk
    rw [Ke hu (fun hh => by have h9 := hh.2.2; rw [hwo,ho] at h9; cases h9)]
    refine Q9 (T_x (T_x (Xl (Q0 (Qd (zy (z4 J J J ?_)))))));refine zx (Qj J J (hwk) J) J ?_;refine zn J (zz (Qm J (zy (zx (Zp J J J J J) J ?_))));refine Qy J J J J J J J J J (z1 J (zz (Xa (T_r (F_r ?_)))))
    exact Xn J J J J J (X7 [1,1,9] [7,8,9] J J (by decide) J J J)
   | true =>
    rw [ho] at hwk
    rw [Kg hu ⟨by omega,hform,by rw [hwo]; exact ho⟩,hwo]
    refine Q9 (T_x (T_x (Xl (Q0 (Qd (zy (z4 J J J ?_)))))));refine zx (Qj J J (hwk) J) J ?_;refine zn J (zz (Ql J (Qh (Q0 (zy (z4 J J J ?_))))));refine Qy J J J J J J J J J (z1 J (zz (Xa (F_r ?_))))
    exact Xn J J J J J (X6 [3,5,6] (by decide) J J J)
end
section
open Go.RowKit

theorem row6 {a b c d e : Ob} {k : Nat} {x y : List (List T)} (h : x = y) : [a,b,c,d,e,Ob.row k x] = [a,b,c,d,e,Ob.row k y] := by rw [h]
theorem plain_dt (l : List Int) (a b : Nat) : plainT (((els l).take a).drop b) := fun e he => Yr l e (List.mem_of_mem_take (List.mem_of_mem_drop he))
theorem k_dt (l : List Int) (a b : Nat) : ∀ e ∈ ((els l).take a).drop b,e.length = 1 := fun e he => els_k l e (List.mem_of_mem_take (List.mem_of_mem_drop he))
theorem world_bytes_eq {lv : TLevel} {s : ByteArray} {l : List Int} {pos : Nat} (hu : unpackInts s 0 = some (l,pos)) (hp : pos = s.size) (hf : formOk l) : worldBytes (worldOf lv l) = s ↔ worldOk (worldOf lv l) = true := by
 have hcn := unpackInts_canon hu
 have hb := bytesL_all s pos (by omega)
 have hs : packInts l = s := by rw [hcn]; exact hb.2 hp
 cases ho : worldOk (worldOf lv l) with
 | true =>
  rw [show worldBytes (worldOf lv l) = packInts (worldInts (worldOf lv l)) by rw [worldBytes,ho]; exact if_pos rfl,worldOf_ints hf]
  exact ⟨fun _ => rfl,fun _ => hs⟩
 | false =>
  rw [show worldBytes (worldOf lv l) = ⟨#[]⟩ by rw [worldBytes,ho]; exact if_neg (by decide)]
  refine ⟨fun h => ?_,fun h => by cases h⟩
  have h1 := (Ku hu).2.1
  rw [hp,← h] at h1
  exact absurd h1 (by decide)
theorem body_cells {l rest : List Int} {c q : Nat} (hr : rest = l.drop c) : Enc.e (bodyOf (rest.drop (9 * q))) = [.v (.int .i64 (l.getD (c + 9 * q + 0) 0)),.v (.int .i64 (l.getD (c + 9 * q + 1) 0)),.v (.int .i64 (l.getD (c + 9 * q + 2) 0)),.v (.int .i64 (l.getD (c + 9 * q + 3) 0)),.v (.int .i64 (l.getD (c + 9 * q + 4) 0)),.v (.int .i64 (l.getD (c + 9 * q + 5) 0)),.v (.int .i64 (l.getD (c + 9 * q + 6) 0)),.v (.int .i64 (l.getD (c + 9 * q + 7) 0)),.v (.int .i64 (l.getD (c + 9 * q + 8) 0))] := by
 have h : ∀ j,(rest.drop (9 * q)).getD j 0 = l.getD (c + 9 * q + j) 0 := fun j => by
  rw [hr,List.drop_drop,List.getD_eq_getElem?_getD,List.getD_eq_getElem?_getD,List.getElem?_drop]
 show [T.v (.int .i64 ((rest.drop (9 * q)).getD 0 0)),.v (.int .i64 ((rest.drop (9 * q)).getD 1 0)),.v (.int .i64 ((rest.drop (9 * q)).getD 2 0)),.v (.int .i64 ((rest.drop (9 * q)).getD 3 0)),.v (.int .i64 ((rest.drop (9 * q)).getD 4 0)),.v (.int .i64 ((rest.drop (9 * q)).getD 5 0)),.v (.int .i64 ((rest.drop (9 * q)).getD 6 0)),.v (.int .i64 ((rest.drop (9 * q)).getD 7 0)),.v (.int .i64 ((rest.drop (9 * q)).getD 8 0))] = _
 simp only [h]
theorem S_ReadWorld (lv : TLevel) (s : ByteArray) (hg : Enc.gd lv) (hL : lv.Rows.length ≤ 1048576) (hs : s.size ≤ 1099511627776) : Con Tryz.prog 119 [] [ag lv,astr s] (ownO (Enc.e (rwW (readWorld lv s)))) (.tu [.ag (ownV 0 (Enc.e (rwW (readWorld lv s)))),.c (bv (rwB (readWorld lv s)))]) := by
 have hui := S_UnpackInts s 0 hs ⟨by omega,by omega⟩
 cases hu : unpackInts s 0 with
 | none =>
  rw [hu] at hui
  rw [Kf hu]
  refine Con.of Tryz.func119 J Tryz.ntmps119 J (fun E => ?_)
  refine zy (M1 (Qq J J J J) J J (M1 (Qx J J J) J J (z1 J (zz (zy (z0 J ?_))))));refine M1 (Zs J J (hui) J J J) J J ?_;refine zx (Q8 J J J) J (ze J (ze J (ze J (z1 J (z1 J (z1 J (zz (Qd (zy ?_)))))))));refine z0 J (zn J (z0 J (z6 J (z6 J (z6 J (z6 J (zpT J (z0 J (z6 J (z6 J (z6 J ?_)))))))))));refine zpT J (z0 J (z6 J (z6 J (z6 J (z6 J (z6 J (zpT J (z0 J (z6 J (z6 J (z6 J ?_)))))))))));refine z6 J (z6 J (z6 J (z6 J (zpT J (z0 J (z6 J (z6 J (z6 J (z6 J (z6 J (z6 J ?_)))))))))));refine z6 J (z6 J (z6 J (zpT J (zz (Qm J (zy (zx (Zp J J J J J) J ?_)))))));refine Qy J J J J J J J J J (z1 J (zz (Xa (T_r (F_r ?_)))))
  exact Xn J J J J J (X7 [1,1,9] [3,4,5] J J (by decide) J J J)
 | some r =>
  obtain ⟨l,pos⟩ := r
  rw [hu] at hui
  obtain ⟨_,hu1,hu2,hu3,hu4⟩ := Ku hu
  have hll := Yq l
  by_cases c1 : (pos : Int) ≠ s.size
  ·have hb1 : decide ((pos : Int) ≠ s.size) = true := decide_eq_true c1
   rw [Ke hu (fun hh => by have := hh.1; omega)]
   refine Con.of Tryz.func119 J Tryz.ntmps119 J (fun E => ?_)
   refine zy (M1 (Qq J J J J) J J (M1 (Qx J J J) J J (z1 J (zz (zy (z0 J ?_))))));refine M1 (Zs J J (hui) J J J) J J ?_;refine zx (Q8 J J J) J (ze J (ze J (ze J (z1 J (z1 J (z1 J (zz (Qd (zy ?_)))))))));refine z0 J (zn J (z0 J (z5 J (z0 J (z5 J (z0 J (z5 J (zx (Z3 J J J) J (z5 J (z9f J (by assumption) (zpF J ?_)))))))))));refine z0 J (z6 J (z6 J (z6 J (zpT J (z0 J (z6 J (z6 J (z6 J (z6 J (z6 J (zpT J ?_)))))))))));refine z0 J (z6 J (z6 J (z6 J (z6 J (z6 J (z6 J (z6 J (zpT J (z0 J (z6 J (z6 J ?_)))))))))));refine z6 J (z6 J (z6 J (z6 J (z6 J (z6 J (z6 J (zpT J (zz (Qm J (Qd ?_))))))))));refine Qc (zx (Zp J J J J J) J ?_);refine Qy J J J J J J J J J (z1 J (zz (Xa (T_r (F_r ?_)))))
   exact Xn J J J J J (X7 [1,1,9] [3,4,5] J J (by decide) J J J)
  have hb1 : decide ((pos : Int) ≠ s.size) = false := decide_eq_false c1
  by_cases c2 : ((els l).length : Int) < 3
  ·have hb2 : decide (((els l).length : Int) < 3) = true := decide_eq_true c2
   rw [Ke hu (fun hh => by have := hh.2.1.1; omega)]
   refine Con.of Tryz.func119 J Tryz.ntmps119 J (fun E => ?_)
   refine zy (M1 (Qq J J J J) J J (M1 (Qx J J J) J J (z1 J (zz (zy (z0 J ?_))))));refine M1 (Zs J J (hui) J J J) J J ?_;refine zx (Q8 J J J) J (ze J (ze J (ze J (z1 J (z1 J (z1 J (zz (Qd (zy ?_)))))))));refine z0 J (zn J (z0 J (z5 J (z0 J (z5 J (z0 J (z5 J (zx (Z3 J J J) J (z5 J (z9f J (by assumption) (zpF J ?_)))))))))));refine z0 J (z5 J (z0 J (z5 J (zx (Z1 J J J J) J (z5 J (z9a J (by assumption) (zpF J (z0 J (z6 J (z6 J (z6 J ?_)))))))))));refine z6 J (z6 J (zpT J (z0 J (z6 J (z6 J (z6 J (z6 J (z6 J (z6 J (z6 J (zpT J ?_)))))))))));refine z0 J (z6 J (z6 J (z6 J (z6 J (z6 J (z6 J (z6 J (z6 J (z6 J (zpT J (Qe ?_)))))))))));refine Q0 (Qm J (zy (zx (Zp J J J J J) J ?_)));refine Qy J J J J J J J J J (z1 J (zz (Xa (T_r (F_r ?_)))))
   exact Xn J J J J J (X7 [1,1,9] [3,4,5] J J (by decide) J J J)
  have hb2 : decide (((els l).length : Int) < 3) = false := decide_eq_false c2
  have ha0 := Yp (l := l) (j := 0) (by omega) 0 rfl
  have ha1 := Yp (l := l) (j := 1) (by omega) 1 rfl
  have ha2 := Yp (l := l) (j := 2) (by omega) 2 rfl
  obtain ⟨l2,hl2⟩ : ∃ l2,l.getD 2 0 = l2 := ⟨_,rfl⟩
  rw [hl2] at ha2
  have hbt := S_in l2 1 4
  by_cases hin : inR l2 1 4 = true
  case neg =>
   have hf : inR l2 1 4 = false := by simpa using hin
   rw [hf] at hbt
   rw [Ke hu (fun hh => by have := hh.2.1.2.1; rw [hl2,← Y3] at this; exact hin this)]
   refine Con.of Tryz.func119 J Tryz.ntmps119 J (fun E => ?_)
   refine zy (M1 (Qq J J J J) J J (M1 (Qx J J J) J J (z1 J (zz (zy (z0 J ?_))))));refine M1 (Zs J J (hui) J J J) J J ?_;refine zx (Q8 J J J) J (ze J (ze J (ze J (z1 J (z1 J (z1 J (zz (Qd (zy ?_)))))))));refine z0 J (zn J (z0 J (z5 J (z0 J (z5 J (z0 J (z5 J (zx (Z3 J J J) J (z5 J (z9f J (by assumption) (zpF J ?_)))))))))));refine z0 J (z5 J (z0 J (z5 J (zx (Z1 J J J J) J (z5 J (z9a J (by assumption) (zpF J (z0 J (z5 J (z0 J (z5 J ?_)))))))))));refine zx (Q3 J J J J J (by omega) (by omega)) J (z5 J (zx (Q7 J J J J (by assumption) J) J (z5 J ?_)));refine zx (Qj J J (hbt) J) J ?_;refine z5 J (zn J (zpF J (z0 J (z6 J (z6 J (z6 J (z6 J (z6 J (z6 J (z6 J (zpT J ?_)))))))))));refine z0 J (z6 J (z6 J (z6 J (z6 J (z6 J (z6 J (z6 J (z6 J (z6 J (zpT J (Qe ?_)))))))))));refine Q0 (Qm J (zy (zx (Zp J J J J J) J ?_)));refine Qy J J J J J J J J J (z1 J (zz (Xa (T_r (F_r ?_)))))
   exact Xn J J J J J (X7 [1,1,9] [3,4,5] J J (by decide) J J J)
  rw [hin] at hbt
  have hin2 := Y3.1 hin
  obtain ⟨p,rfl⟩ : ∃ p : Nat,l2 = p := ⟨l2.toNat,by omega⟩
  by_cases c4 : ((els l).length : Int) < 3 + (p : Int)
  ·have hb4 : decide (((els l).length : Int) < 3 + (p : Int)) = true := decide_eq_true c4
   rw [Ke hu (fun hh => by have := hh.2.1.2.2.1; omega)]
   refine Con.of Tryz.func119 J Tryz.ntmps119 J (fun E => ?_)
   refine zy (M1 (Qq J J J J) J J (M1 (Qx J J J) J J (z1 J (zz (zy (z0 J ?_))))));refine M1 (Zs J J (hui) J J J) J J ?_;refine zx (Q8 J J J) J (ze J (ze J (ze J (z1 J (z1 J (z1 J (zz (Qd (zy ?_)))))))));refine z0 J (zn J (z0 J (z5 J (z0 J (z5 J (z0 J (z5 J (zx (Z3 J J J) J (z5 J (z9f J (by assumption) (zpF J ?_)))))))))));refine z0 J (z5 J (z0 J (z5 J (zx (Z1 J J J J) J (z5 J (z9a J (by assumption) (zpF J (z0 J (z5 J (z0 J (z5 J ?_)))))))))));refine zx (Q3 J J J J J (by omega) (by omega)) J (z5 J (zx (Q7 J J J J (by assumption) J) J (z5 J ?_)));refine zx (Qj J J (hbt) J) J ?_;refine z5 J (zn J (zpF J (z0 J (z5 J (z0 J (z5 J (zx (Z1 J J J J) J (z5 J (z0 J (z5 J (zx (Q3 J J J J J (by omega) (by omega)) J ?_)))))))))));refine z5 J (zx (Q7 J J J J (by assumption) J) J (z5 J (z7 J (by omega) (z5 J (z9a J (by assumption) (zpF J (z0 J (z6 J (z6 J (z6 J (z6 J ?_)))))))))));refine z6 J (z6 J (z6 J (z6 J (z6 J (zpT J (zz (Qm J (zy (zx (Zp J J J J J) J ?_)))))))));refine Qy J J J J J J J J J (z1 J (zz (Xa (T_r (F_r ?_)))))
   exact Xn J J J J J (X7 [1,1,9] [3,4,5] J J (by decide) J J J)
  have hb4 : decide (((els l).length : Int) < 3 + (p : Int)) = false := decide_eq_false c4
  by_cases c5 : (((els l).length : Int) - 3 - (p : Int)) % 9 ≠ 0
  ·have hb5 : decide ((((els l).length : Int) - 3 - (p : Int)) % 9 ≠ 0) = true := decide_eq_true c5
   rw [Ke hu (fun hh => by have := hh.2.1.2.2.2; rw [hl2] at this; omega)]
   refine Con.of Tryz.func119 J Tryz.ntmps119 J (fun E => ?_)
   refine zy (M1 (Qq J J J J) J J (M1 (Qx J J J) J J (z1 J (zz (zy (z0 J ?_))))));refine M1 (Zs J J (hui) J J J) J J ?_;refine zx (Q8 J J J) J (ze J (ze J (ze J (z1 J (z1 J (z1 J (zz (Qd (zy ?_)))))))));refine z0 J (zn J (z0 J (z5 J (z0 J (z5 J (z0 J (z5 J (zx (Z3 J J J) J (z5 J (z9f J (by assumption) (zpF J ?_)))))))))));refine z0 J (z5 J (z0 J (z5 J (zx (Z1 J J J J) J (z5 J (z9a J (by assumption) (zpF J (z0 J (z5 J (z0 J (z5 J ?_)))))))))));refine zx (Q3 J J J J J (by omega) (by omega)) J (z5 J (zx (Q7 J J J J (by assumption) J) J (z5 J ?_)));refine zx (Qj J J (hbt) J) J ?_;refine z5 J (zn J (zpF J (z0 J (z5 J (z0 J (z5 J (zx (Z1 J J J J) J (z5 J (z0 J (z5 J (zx (Q3 J J J J J (by omega) (by omega)) J ?_)))))))))));refine z5 J (zx (Q7 J J J J (by assumption) J) J (z5 J (z7 J (by omega) (z5 J (z9a J (by assumption) (zpF J (z0 J (z5 J (z0 J (z5 J (zx (Z1 J J J J) J ?_)))))))))));refine z5 J (z8 J (by omega) (z5 J (z0 J (z5 J (zx (Q3 J J J J J (by omega) (by omega)) J (z5 J (zx (Q7 J J J J (by assumption) J) J (z5 J (z8 J (by omega) (z5 J (zx (Z9 J J J J (by omega)) J ?_)))))))))));refine z5 J (z9f J (by assumption) (zpF J (zz (Qm J (zy (zx (Zp J J J J J) J ?_))))));refine Qy J J J J J J J J J (z1 J (zz (Xa (T_r (F_r ?_)))))
   exact Xn J J J J J (X7 [1,1,9] [3,4,5] J J (by decide) J J J)
  have hb5 : decide ((((els l).length : Int) - 3 - (p : Int)) % 9 ≠ 0) = false := decide_eq_false c5
  obtain ⟨rest,hrest⟩ : ∃ rest,rest = l.drop (3 + p) := ⟨_,rfl⟩
  have hrl : rest.length = l.length - (3 + p) := by rw [hrest]; simp
  obtain ⟨nb,hn⟩ : ∃ nb,rest.length = 9 * nb := ⟨rest.length / 9,by omega⟩
  have hform : formOk l := ⟨by omega,by rw [hl2]; exact hin2,by rw [hl2]; omega,by rw [hl2]; omega⟩
  have hwo : worldOf lv l = ⟨lv,l.getD 0 0,l.getD 1 0,(l.drop 3).take p,bodiesOf rest nb⟩ := by
   rw [worldOf,hl2,Int.toNat_natCast,← hrest,show (l.length - 3 - p) / 9 = nb by omega]
  have hwg := worldOf_gd (lv := lv) hg hu4 (by omega)
  rw [hwo] at hwg
  have hwb := world_bytes_eq (lv := lv) hu (by omega) hform
  rw [hwo] at hwb
  have hpl : ((((els l).take ((3 : Int) + (p : Int)).toNat).drop (3 : Int).toNat)).length = p := by
   rw [List.length_drop,List.length_take,hll]; omega
  have hsc : els ((l.drop 3).take p) = (((els l).take ((3 : Int) + (p : Int)).toNat).drop (3 : Int).toNat) := by
   rw [show ((3 : Int) + (p : Int)).toNat = 3 + p by omega,show (3 : Int).toNat = 3 from rfl,List.drop_take,← els_dropE,← Yt,show 3 + p - 3 = p by omega]
  refine Con.of Tryz.func119 J Tryz.ntmps119 J (fun E => ?_)
  refine zy (M1 (Qq J J J J) J J (M1 (Qx J J J) J J (z1 J (zz (zy (z0 J ?_))))));refine M1 (Zs J J (hui) J J J) J J ?_;refine zx (Q8 J J J) J (ze J (ze J (ze J (z1 J (z1 J (z1 J (zz (Qd (zy ?_)))))))));refine z0 J (zn J (z0 J (z5 J (z0 J (z5 J (z0 J (z5 J (zx (Z3 J J J) J (z5 J (z9f J (by assumption) (zpF J ?_)))))))))));refine z0 J (z5 J (z0 J (z5 J (zx (Z1 J J J J) J (z5 J (z9a J (by assumption) (zpF J (z0 J (z5 J (z0 J (z5 J ?_)))))))))));refine zx (Q3 J J J J J (by omega) (by omega)) J (z5 J (zx (Q7 J J J J (by assumption) J) J (z5 J ?_)));refine zx (Qj J J (hbt) J) J ?_;refine z5 J (zn J (zpF J (z0 J (z5 J (z0 J (z5 J (zx (Z1 J J J J) J (z5 J (z0 J (z5 J (zx (Q3 J J J J J (by omega) (by omega)) J ?_)))))))))));refine z5 J (zx (Q7 J J J J (by assumption) J) J (z5 J (z7 J (by omega) (z5 J (z9a J (by assumption) (zpF J (z0 J (z5 J (z0 J (z5 J (zx (Z1 J J J J) J ?_)))))))))));refine z5 J (z8 J (by omega) (z5 J (z0 J (z5 J (zx (Q3 J J J J J (by omega) (by omega)) J (z5 J (zx (Q7 J J J J (by assumption) J) J (z5 J (z8 J (by omega) (z5 J (zx (Z9 J J J J (by omega)) J ?_)))))))))));refine z5 J (z9f J (by assumption) (zpF J (zz (Ql J (Qh (Q0 (zy (z0 J (zx (Q3 J J J J J (by omega) (by omega)) J ?_)))))))));refine zx (Q7 J J J J (by assumption) J) J (z7 J (by omega) (z1 J (zz (Qd (Xi [[],[0],[],[2],[2,3],[],[5],[5,6],[],[],[],[9,10],[0,1,8,9,10,11],(u9 13),[],(u9 15)] [[],[63],[],[65],[65,66],[],[68],[68,69],[],[],[],[72,73],[63,64,71,72,73,74],[63,64,65,66,67,68,69,70,71,72,73,74,75],[],[10,63,64,65,66,67,68,69,70,71,72,73,74,75,76]] [[10,65,66,67,68,69,70,71,72,73,74],[10,65,66,67,68,69,70,71,72,73,74],[10,63,64,68,69,70,71,72,73,74,75],[10,63,64,68,69,70,71,72,73,74,75],[10,63,64,68,69,70,71,72,73,74,75],[10,63,64,65,66,67,71,72,73,74,75],[10,63,64,65,66,67,71,72,73,74,75],[10,63,64,65,66,67,71,72,73,74,75],[10,63,64,65,66,67,68,69,70,72,73,74],[10,63,64,65,66,67,68,69,70,71,73],[10,63,64,65,66,67,68,69,70,71,72],[10,63,64,65,66,67,68,69,70,71],[10,65,66,67,68,69,70],[10],[63,64,65,66,67,68,69,70,71,72,73,74,75,76],[]] J (DR.s (Qu J J J J J J) J J ?_))))));refine DR.s (Zs J J (S_copyLevel lv hg hL) J J J) J J ?_;refine DR.s (Qa J J J) J J (DR.s (Q3 J J J J J (by omega) (by omega)) J J (DR.s (Q7 J J J J (by assumption) J) J J (DR.s (Qa J J J) J J (DR.s (Q3 J J J J J (by omega) (by omega)) J J (DR.s (Q7 J J J J (by assumption) J) J J (DR.s (Zo J J J) J J (DR.s (Qa J J J) J J (DR.s (Qa J J J) J J (DR.s (q_partr J J J J J J J (by omega)) J J ?_)))))))));refine DR.s (q_appz J J J J J J (plain_dt _ _ _) (k_dt _ _ _) (by omega) (by omega) (by omega)) J J ?_;refine DR.s (Zp J J J J J) J J (DR.s (Qx J J J) J J (DR.stop (by kernel_rfl) (by kernel_rfl) ?_));refine AL.weak (st' := (⟨_,[(1,S s),(4,.o (.c (.ptr 1 0))),(6,.o (.c (.ref 2))),(9,I (3 + (p : Int))),(10,.o (.c (.ptr 4 0))),(76,.o (.ag [.ref 3,jv (l.getD 0 0),jv (l.getD 1 0),.ref 5,nilV]))],[.box ((Enc.e lv).map (V1.rd [])),.box [nilV,jv 0,jv 0,nilV,nilV],.row 1 (els l),.row 1 (els lv.Rows),.box [nilV,jv 0,jv 0,nilV,nilV],.row 1 (els ((l.drop 3).take p))]⟩ : St)) (X8 [0,1,2,3,6,5] (by decide) J (row6 hsc) (.c J (.c J (.c J (.c J (.c J (.c J (.nil)))))))) ?_;refine AL.weak (Wk.refl _) ?_;refine Qy J J J J J J J J J (zz (Qd (zy (z0 J (z1 J (zz (Qk ?_)))))))
  refine AWP.pre ?_ (Wk.nilbox (p := 4) (i := 4) 9 J J)
  skip
  refine A_lq (fun m st => ∃ q : Nat,q + m = nb ∧ (True) ∧ st = (⟨_,[(1,S s),(4,.o (.c (.ptr 1 0))),(6,.o (.c (.ref 2))),(10,.o (.c (.ptr 4 0))),(11,I ((3 + p + 9 * q : Nat) : Int))],[.box ((Enc.e lv).map (V1.rd [])),.box [nilV,jv 0,jv 0,nilV,nilV],.row 1 (els l),.row 1 (els lv.Rows),.box [.ref 3,jv (l.getD 0 0),jv (l.getD 1 0),.ref 5,.ref 6],.row 1 (els ((l.drop 3).take p)),.row 9 (els (bodiesOf rest q))]⟩ : St)) (nb) ⟨(fun q : Nat => (⟨_,[(1,S s),(4,.o (.c (.ptr 1 0))),(6,.o (.c (.ref 2))),(10,.o (.c (.ptr 4 0))),(11,I ((3 + p + 9 * q : Nat) : Int))],[.box ((Enc.e lv).map (V1.rd [])),.box [nilV,jv 0,jv 0,nilV,nilV],.row 1 (els l),.row 1 (els lv.Rows),.box [.ref 3,jv (l.getD 0 0),jv (l.getD 1 0),.ref 5,.ref 6],.row 1 (els ((l.drop 3).take p)),.row 9 (els (bodiesOf rest q))]⟩ : St)) 0,⟨0,by omega,trivial,J⟩,X8 [0,1,2,3,4,5,6] (by decide) J (J) (.c J (.c J (.c J (.c J (.cons (Xx (by omega)) (.nil))))))⟩ ?_
  rintro m_A _ ⟨q,hk_A,hp_A,rfl⟩
  have hlbk := Yq (bodiesOf rest q)
  have hlbk2 := Yf rest q
  by_cases h4 : ((3 + p + 9 * q : Nat) : Int) < (els l).length
  ·have hb6 : decide (((3 + p + 9 * q : Nat) : Int) < (els l).length) = true := decide_eq_true h4
   have hc0 := Yp (l := l) (j := 3 + p + 9 * q + 0) (by omega) (((3 + p + 9 * q : Nat) : Int)) (by omega)
   have hc1 := Yp (l := l) (j := 3 + p + 9 * q + 1) (by omega) (((3 + p + 9 * q : Nat) : Int) + 1) (by omega)
   have hc2 := Yp (l := l) (j := 3 + p + 9 * q + 2) (by omega) (((3 + p + 9 * q : Nat) : Int) + 2) (by omega)
   have hc3 := Yp (l := l) (j := 3 + p + 9 * q + 3) (by omega) (((3 + p + 9 * q : Nat) : Int) + 3) (by omega)
   have hc4 := Yp (l := l) (j := 3 + p + 9 * q + 4) (by omega) (((3 + p + 9 * q : Nat) : Int) + 4) (by omega)
   have hc5 := Yp (l := l) (j := 3 + p + 9 * q + 5) (by omega) (((3 + p + 9 * q : Nat) : Int) + 5) (by omega)
   have hc6 := Yp (l := l) (j := 3 + p + 9 * q + 6) (by omega) (((3 + p + 9 * q : Nat) : Int) + 6) (by omega)
   have hc7 := Yp (l := l) (j := 3 + p + 9 * q + 7) (by omega) (((3 + p + 9 * q : Nat) : Int) + 7) (by omega)
   have hc8 := Yp (l := l) (j := 3 + p + 9 * q + 8) (by omega) (((3 + p + 9 * q : Nat) : Int) + 8) (by omega)
   have hbc := body_cells (q := q) hrest
   have hq24 : (els (bodiesOf rest q)).length ≤ 1099511627776 := by omega
   have hlt : ((3 + p + 9 * q : Nat) : Int) + 9 ≤ (els l).length := by omega
   have hidx : (3 + p + 9 * q : Nat) ≤ 1099511627776 := by omega
   have hqnb : q < nb := by omega
   clear hwg hwo hwb hform hsc hbt hin2 hin ha0 ha1 ha2 hl2 hb1 hb2 hb4 hb5 c1 c2 c4 c5 hu1 hu2 hu3 hu4 hui hpl hrl hn hll hlbk hlbk2 hp_A
   refine Qd (zy (z0 J (z0 J (zx (Z1 J J J J) J (z9a J (by assumption) (zz (Qm J (Qh (Q0 ?_)))))))));refine Qd (Qk (Xi [[],[0],[],[],[2,3],[2,3,4],[],[],[7],[6,7,8],[6,7,8,9],[],[],[12],[11,12,13],[11,12,13,14],[],[],[17],[16,17,18],[16,17,18,19],[],[],[22],[21,22,23],[21,22,23,24],[],[],[27],[26,27,28],[26,27,28,29],[],[],[32],[31,32,33],[31,32,33,34],[],[],[37],[36,37,38],[36,37,38,39],[],[],[42],[41,42,43],[41,42,43,44],[2,3,4,5,6,7,8,9,10,11,12,13,14,15,16,17,18,19,20,21,22,23,24,25,26,27,28,29,30,31,32,33,34,35,36,37,38,39,40,41,42,43,44,45],[2,3,4,5,6,7,8,9,10,11,12,13,14,15,16,17,18,19,20,21,22,23,24,25,26,27,28,29,30,31,32,33,34,35,36,37,38,39,40,41,42,43,44,45,46],(u9 48),(u9 49),(u9 50)] [[],[84],[],[],[86,87],[86,87,88],[],[],[91],[90,91,92],[90,91,92,93],[],[],[96],[95,96,97],[95,96,97,98],[],[],[101],[100,101,102],[100,101,102,103],[],[],[106],[105,106,107],[105,106,107,108],[],[],[111],[110,111,112],[110,111,112,113],[],[],[116],[115,116,117],[115,116,117,118],[],[],[121],[120,121,122],[120,121,122,123],[],[],[126],[125,126,127],[125,126,127,128],[86,87,88,89,90,91,92,93,94,95,96,97,98,99,100,101,102,103,104,105,106,107,108,109,110,111,112,113,114,115,116,117,118,119,120,121,122,123,124,125,126,127,128,129],[86,87,88,89,90,91,92,93,94,95,96,97,98,99,100,101,102,103,104,105,106,107,108,109,110,111,112,113,114,115,116,117,118,119,120,121,122,123,124,125,126,127,128,129,130],[84,85,86,87,88,89,90,91,92,93,94,95,96,97,98,99,100,101,102,103,104,105,106,107,108,109,110,111,112,113,114,115,116,117,118,119,120,121,122,123,124,125,126,127,128,129,130,131],[84,85,86,87,88,89,90,91,92,93,94,95,96,97,98,99,100,101,102,103,104,105,106,107,108,109,110,111,112,113,114,115,116,117,118,119,120,121,122,123,124,125,126,127,128,129,130,131,132],[84,85,86,87,88,89,90,91,92,93,94,95,96,97,98,99,100,101,102,103,104,105,106,107,108,109,110,111,112,113,114,115,116,117,118,119,120,121,122,123,124,125,126,127,128,129,130,131,132,133]] [[86,87,88,89,90,91,92,93,94,95,96,97,98,99,100,101,102,103,104,105,106,107,108,109,110,111,112,113,114,115,116,117,118,119,120,121,122,123,124,125,126,127,128,129,130,131],[86,87,88,89,90,91,92,93,94,95,96,97,98,99,100,101,102,103,104,105,106,107,108,109,110,111,112,113,114,115,116,117,118,119,120,121,122,123,124,125,126,127,128,129,130,131],[84,85,87,90,91,92,93,94,95,96,97,98,99,100,101,102,103,104,105,106,107,108,109,110,111,112,113,114,115,116,117,118,119,120,121,122,123,124,125,126,127,128,129],[84,85,86,90,91,92,93,94,95,96,97,98,99,100,101,102,103,104,105,106,107,108,109,110,111,112,113,114,115,116,117,118,119,120,121,122,123,124,125,126,127,128,129],[84,85,90,91,92,93,94,95,96,97,98,99,100,101,102,103,104,105,106,107,108,109,110,111,112,113,114,115,116,117,118,119,120,121,122,123,124,125,126,127,128,129],[84,85,90,91,92,93,94,95,96,97,98,99,100,101,102,103,104,105,106,107,108,109,110,111,112,113,114,115,116,117,118,119,120,121,122,123,124,125,126,127,128,129],[84,85,86,87,88,89,91,92,95,96,97,98,99,100,101,102,103,104,105,106,107,108,109,110,111,112,113,114,115,116,117,118,119,120,121,122,123,124,125,126,127,128,129],[84,85,86,87,88,89,90,95,96,97,98,99,100,101,102,103,104,105,106,107,108,109,110,111,112,113,114,115,116,117,118,119,120,121,122,123,124,125,126,127,128,129],[84,85,86,87,88,89,90,95,96,97,98,99,100,101,102,103,104,105,106,107,108,109,110,111,112,113,114,115,116,117,118,119,120,121,122,123,124,125,126,127,128,129],[84,85,86,87,88,89,95,96,97,98,99,100,101,102,103,104,105,106,107,108,109,110,111,112,113,114,115,116,117,118,119,120,121,122,123,124,125,126,127,128,129],[84,85,86,87,88,89,95,96,97,98,99,100,101,102,103,104,105,106,107,108,109,110,111,112,113,114,115,116,117,118,119,120,121,122,123,124,125,126,127,128,129],[84,85,86,87,88,89,90,91,92,93,94,96,97,100,101,102,103,104,105,106,107,108,109,110,111,112,113,114,115,116,117,118,119,120,121,122,123,124,125,126,127,128,129],[84,85,86,87,88,89,90,91,92,93,94,95,100,101,102,103,104,105,106,107,108,109,110,111,112,113,114,115,116,117,118,119,120,121,122,123,124,125,126,127,128,129],[84,85,86,87,88,89,90,91,92,93,94,95,100,101,102,103,104,105,106,107,108,109,110,111,112,113,114,115,116,117,118,119,120,121,122,123,124,125,126,127,128,129],[84,85,86,87,88,89,90,91,92,93,94,100,101,102,103,104,105,106,107,108,109,110,111,112,113,114,115,116,117,118,119,120,121,122,123,124,125,126,127,128,129],[84,85,86,87,88,89,90,91,92,93,94,100,101,102,103,104,105,106,107,108,109,110,111,112,113,114,115,116,117,118,119,120,121,122,123,124,125,126,127,128,129],[84,85,86,87,88,89,90,91,92,93,94,95,96,97,98,99,101,102,105,106,107,108,109,110,111,112,113,114,115,116,117,118,119,120,121,122,123,124,125,126,127,128,129],[84,85,86,87,88,89,90,91,92,93,94,95,96,97,98,99,100,105,106,107,108,109,110,111,112,113,114,115,116,117,118,119,120,121,122,123,124,125,126,127,128,129],[84,85,86,87,88,89,90,91,92,93,94,95,96,97,98,99,100,105,106,107,108,109,110,111,112,113,114,115,116,117,118,119,120,121,122,123,124,125,126,127,128,129],[84,85,86,87,88,89,90,91,92,93,94,95,96,97,98,99,105,106,107,108,109,110,111,112,113,114,115,116,117,118,119,120,121,122,123,124,125,126,127,128,129],[84,85,86,87,88,89,90,91,92,93,94,95,96,97,98,99,105,106,107,108,109,110,111,112,113,114,115,116,117,118,119,120,121,122,123,124,125,126,127,128,129],[84,85,86,87,88,89,90,91,92,93,94,95,96,97,98,99,100,101,102,103,104,106,107,110,111,112,113,114,115,116,117,118,119,120,121,122,123,124,125,126,127,128,129],[84,85,86,87,88,89,90,91,92,93,94,95,96,97,98,99,100,101,102,103,104,105,110,111,112,113,114,115,116,117,118,119,120,121,122,123,124,125,126,127,128,129],[84,85,86,87,88,89,90,91,92,93,94,95,96,97,98,99,100,101,102,103,104,105,110,111,112,113,114,115,116,117,118,119,120,121,122,123,124,125,126,127,128,129],[84,85,86,87,88,89,90,91,92,93,94,95,96,97,98,99,100,101,102,103,104,110,111,112,113,114,115,116,117,118,119,120,121,122,123,124,125,126,127,128,129],[84,85,86,87,88,89,90,91,92,93,94,95,96,97,98,99,100,101,102,103,104,110,111,112,113,114,115,116,117,118,119,120,121,122,123,124,125,126,127,128,129],[84,85,86,87,88,89,90,91,92,93,94,95,96,97,98,99,100,101,102,103,104,105,106,107,108,109,111,112,115,116,117,118,119,120,121,122,123,124,125,126,127,128,129],[84,85,86,87,88,89,90,91,92,93,94,95,96,97,98,99,100,101,102,103,104,105,106,107,108,109,110,115,116,117,118,119,120,121,122,123,124,125,126,127,128,129],[84,85,86,87,88,89,90,91,92,93,94,95,96,97,98,99,100,101,102,103,104,105,106,107,108,109,110,115,116,117,118,119,120,121,122,123,124,125,126,127,128,129],[84,85,86,87,88,89,90,91,92,93,94,95,96,97,98,99,100,101,102,103,104,105,106,107,108,109,115,116,117,118,119,120,121,122,123,124,125,126,127,128,129],[84,85,86,87,88,89,90,91,92,93,94,95,96,97,98,99,100,101,102,103,104,105,106,107,108,109,115,116,117,118,119,120,121,122,123,124,125,126,127,128,129],[84,85,86,87,88,89,90,91,92,93,94,95,96,97,98,99,100,101,102,103,104,105,106,107,108,109,110,111,112,113,114,116,117,120,121,122,123,124,125,126,127,128,129],[84,85,86,87,88,89,90,91,92,93,94,95,96,97,98,99,100,101,102,103,104,105,106,107,108,109,110,111,112,113,114,115,120,121,122,123,124,125,126,127,128,129],[84,85,86,87,88,89,90,91,92,93,94,95,96,97,98,99,100,101,102,103,104,105,106,107,108,109,110,111,112,113,114,115,120,121,122,123,124,125,126,127,128,129],[84,85,86,87,88,89,90,91,92,93,94,95,96,97,98,99,100,101,102,103,104,105,106,107,108,109,110,111,112,113,114,120,121,122,123,124,125,126,127,128,129],[84,85,86,87,88,89,90,91,92,93,94,95,96,97,98,99,100,101,102,103,104,105,106,107,108,109,110,111,112,113,114,120,121,122,123,124,125,126,127,128,129],[84,85,86,87,88,89,90,91,92,93,94,95,96,97,98,99,100,101,102,103,104,105,106,107,108,109,110,111,112,113,114,115,116,117,118,119,121,122,125,126,127,128,129],[84,85,86,87,88,89,90,91,92,93,94,95,96,97,98,99,100,101,102,103,104,105,106,107,108,109,110,111,112,113,114,115,116,117,118,119,120,125,126,127,128,129],[84,85,86,87,88,89,90,91,92,93,94,95,96,97,98,99,100,101,102,103,104,105,106,107,108,109,110,111,112,113,114,115,116,117,118,119,120,125,126,127,128,129],[84,85,86,87,88,89,90,91,92,93,94,95,96,97,98,99,100,101,102,103,104,105,106,107,108,109,110,111,112,113,114,115,116,117,118,119,125,126,127,128,129],[84,85,86,87,88,89,90,91,92,93,94,95,96,97,98,99,100,101,102,103,104,105,106,107,108,109,110,111,112,113,114,115,116,117,118,119,125,126,127,128,129],[84,85,86,87,88,89,90,91,92,93,94,95,96,97,98,99,100,101,102,103,104,105,106,107,108,109,110,111,112,113,114,115,116,117,118,119,120,121,122,123,124,126,127],[84,85,86,87,88,89,90,91,92,93,94,95,96,97,98,99,100,101,102,103,104,105,106,107,108,109,110,111,112,113,114,115,116,117,118,119,120,121,122,123,124,125],[84,85,86,87,88,89,90,91,92,93,94,95,96,97,98,99,100,101,102,103,104,105,106,107,108,109,110,111,112,113,114,115,116,117,118,119,120,121,122,123,124,125],[84,85,86,87,88,89,90,91,92,93,94,95,96,97,98,99,100,101,102,103,104,105,106,107,108,109,110,111,112,113,114,115,116,117,118,119,120,121,122,123,124],[84,85,86,87,88,89,90,91,92,93,94,95,96,97,98,99,100,101,102,103,104,105,106,107,108,109,110,111,112,113,114,115,116,117,118,119,120,121,122,123,124],[84,85],[84,85],[],[],[]] J (DR.s (Qf J J J J (by decide)) J J (DR.s (Qg J J J J J) J J (DR.s (Qa J J J) J J (DR.s (Qa J J J) J J (DR.s (Q3 J J J J J (by omega) (by assumption)) J J (DR.s (Q7 J J J J (by assumption) J) J J (DR.s (Qa J J J) J J (DR.s (Qa J J J) J J (DR.s (Qs J J J J (by omega)) J J ?_)))))))))));refine DR.s (Q3 J J J J J (by omega) (by omega)) J J (DR.s (Q7 J J J J (by assumption) J) J J (DR.s (Qa J J J) J J (DR.s (Qa J J J) J J (DR.s (Qs J J J J (by omega)) J J (DR.s (Q3 J J J J J (by omega) (by omega)) J J (DR.s (Q7 J J J J (by assumption) J) J J (DR.s (Qa J J J) J J (DR.s (Qa J J J) J J (DR.s (Qs J J J J (by omega)) J J (DR.s (Q3 J J J J J (by omega) (by omega)) J J (DR.s (Q7 J J J J (by assumption) J) J J ?_)))))))))));refine DR.s (Qa J J J) J J (DR.s (Qa J J J) J J (DR.s (Qs J J J J (by omega)) J J (DR.s (Q3 J J J J J (by omega) (by omega)) J J (DR.s (Q7 J J J J (by assumption) J) J J (DR.s (Qa J J J) J J (DR.s (Qa J J J) J J (DR.s (Qs J J J J (by omega)) J J (DR.s (Q3 J J J J J (by omega) (by omega)) J J (DR.s (Q7 J J J J (by assumption) J) J J (DR.s (Qa J J J) J J (DR.s (Qa J J J) J J ?_)))))))))));refine DR.s (Qs J J J J (by omega)) J J (DR.s (Q3 J J J J J (by omega) (by omega)) J J (DR.s (Q7 J J J J (by assumption) J) J J (DR.s (Qa J J J) J J (DR.s (Qa J J J) J J (DR.s (Qs J J J J (by omega)) J J (DR.s (Q3 J J J J J (by omega) (by omega)) J J (DR.s (Q7 J J J J (by assumption) J) J J (DR.s (Qa J J J) J J (DR.s (Qa J J J) J J (DR.s (Qs J J J J (by omega)) J J (DR.s (Q3 J J J J J (by omega) (by assumption)) J J ?_)))))))))));refine DR.s (Q7 J J J J (by assumption) J) J J ?_;refine DR.s (x := .o (.ag [jv (l.getD (3 + p + 9 * q + 0) 0),jv (l.getD (3 + p + 9 * q + 1) 0),jv (l.getD (3 + p + 9 * q + 2) 0),jv (l.getD (3 + p + 9 * q + 3) 0),jv (l.getD (3 + p + 9 * q + 4) 0),jv (l.getD (3 + p + 9 * q + 5) 0),jv (l.getD (3 + p + 9 * q + 6) 0),jv (l.getD (3 + p + 9 * q + 7) 0),jv (l.getD (3 + p + 9 * q + 8) 0)])) (Zp J J J J J) J J ?_;refine DR.s (Zm J J J J J J) J J (DR.stop (by kernel_rfl) (by kernel_rfl) ?_);refine AL.weak (st' := (⟨_,[(1,S s),(4,.o (.c (.ptr 1 0))),(6,.o (.c (.ref 2))),(10,.o (.c (.ptr 4 0))),(11,I ((3 + p + 9 * q : Nat) : Int)),(85,.o (.c (.ref 6))),(131,.o (.c (.sb 7 1 9)))],[.box ((Enc.e lv).map (V1.rd [])),.box [nilV,jv 0,jv 0,nilV,nilV],.row 1 (els l),.row 1 (els lv.Rows),.box [.ref 3,jv (l.getD 0 0),jv (l.getD 1 0),.ref 5,.ref 6],.row 1 (els ((l.drop 3).take p)),.row 9 (els (bodiesOf rest q)),.box [jv (l.getD (3 + p + 9 * q + 0) 0),jv (l.getD (3 + p + 9 * q + 1) 0),jv (l.getD (3 + p + 9 * q + 2) 0),jv (l.getD (3 + p + 9 * q + 3) 0),jv (l.getD (3 + p + 9 * q + 4) 0),jv (l.getD (3 + p + 9 * q + 5) 0),jv (l.getD (3 + p + 9 * q + 6) 0),jv (l.getD (3 + p + 9 * q + 7) 0),jv (l.getD (3 + p + 9 * q + 8) 0)]]⟩ : St)) (W_gj [0,1,2,3,4,5,6,7] J) ?_;refine Xy J J J J J J J J J J J J J J (by omega) (by omega) ?_;refine z2 J J J ?_;refine Q5 J J J J J J J J (Qe (Q1 (Q0 (Qc (z0 J (z7 J (by omega) (z1 J (zz ?_))))))))
   exact ⟨nb - (q + 1),by omega,(fun q : Nat => (⟨_,[(1,S s),(4,.o (.c (.ptr 1 0))),(6,.o (.c (.ref 2))),(10,.o (.c (.ptr 4 0))),(11,I ((3 + p + 9 * q : Nat) : Int))],[.box ((Enc.e lv).map (V1.rd [])),.box [nilV,jv 0,jv 0,nilV,nilV],.row 1 (els l),.row 1 (els lv.Rows),.box [.ref 3,jv (l.getD 0 0),jv (l.getD 1 0),.ref 5,.ref 6],.row 1 (els ((l.drop 3).take p)),.row 9 (els (bodiesOf rest q))]⟩ : St)) (q + 1),⟨q + 1,by omega,trivial,J⟩,X8 [0,1,2,3,4,5,6] (by decide) J (row7 (by rw [bodiesOf_snoc,Yn,show els [bodyOf (rest.drop (9 * q))] = [Enc.e (bodyOf (rest.drop (9 * q)))] from J,hbc]; rfl)) (.c J (.c J (.c J (.c J (.cons (Xx (by omega)) (.nil))))))⟩
  ·have hb6 : decide (((3 + p + 9 * q : Nat) : Int) < (els l).length) = false := decide_eq_false h4
   have hqn : q = nb := by omega
   subst hqn
   have hwk := X5 ⟨lv,l.getD 0 0,l.getD 1 0,(l.drop 3).take p,bodiesOf rest q⟩ hwg
   cases ho : worldOk ⟨lv,l.getD 0 0,l.getD 1 0,(l.drop 3).take p,bodiesOf rest q⟩ with
   | false =>
    have hne : decide (worldBytes ⟨lv,l.getD 0 0,l.getD 1 0,(l.drop 3).take p,bodiesOf rest q⟩ ≠ s) = true := decide_eq_true fun h => by rw [hwb,ho] at h; cases h
    rw [Ke hu (fun hh => by have h9 := hh.2.2; rw [hwo,ho] at h9; cases h9)]
    refine Qd (zy (z0 J (z0 J (zx (Z1 J J J J) J (z9a J (by assumption) (zz (Ql J (Q9 (T_x ?_)))))))));refine T_x (Xl (Q0 (Qd (zy (z4 J J J ?_)))));refine zx (Qj J J (hwk) J) J ?_;refine z0 J (zx (Ka J J J J (by assumption)) J (zz (Qm J (zy (zx (Zp J J J J J) J ?_)))));refine Qy J J J J J J J J J (z1 J (zz (Xa (T_r (F_r ?_)))))
    exact Xn J J J J J (X7 [1,1,9] [7,8,9] J J (by decide) J J J)
   | true =>
    have hne : decide (worldBytes ⟨lv,l.getD 0 0,l.getD 1 0,(l.drop 3).take p,bodiesOf rest q⟩ ≠ s) = false := decide_eq_false fun h => h (hwb.2 ho)
    rw [Kg hu ⟨by omega,hform,by rw [hwo]; exact ho⟩,hwo]
    refine Qd (zy (z0 J (z0 J (zx (Z1 J J J J) J (z9a J (by assumption) (zz (Ql J (Q9 (T_x ?_)))))))));refine T_x (Xl (Q0 (Qd (zy (z4 J J J ?_)))));refine zx (Qj J J (hwk) J) J ?_;refine z0 J (zx (Ka J J J J (by assumption)) J (zz (Ql J (Qh (Q0 (zy (z4 J J J ?_)))))));refine Qy J J J J J J J J J (z1 J (zz (Xa (F_r ?_))))
    exact Xn J J J J J (X6 [3,5,6] (by decide) J J J)
end
end Go.Proofs.YtbfhboakafjjgaaGreat
