/-
  Parts of the proof (rules, data, and what functions of the program and of the reference return), among them: How great replays and worlds are that a law has copied; RunWorld, in the program and in the reference.
  Conditions: those that each theorem names.
-/
import Derived.Test.YtcjclaoogdblbaaDoorDDPtRowk14
import Derived.Test.YtcjclaoogdblbaaDoorDDPtRowk18
import Derived.Test.YtcjclaoogdblbaaDoorDDPtRowk22
set_option linter.unusedSimpArgs false
set_option linter.unusedVariables false
set_option maxRecDepth 8000
set_option maxHeartbeats 8000000
namespace Go.Proofs.YtcjclaoogdblbaaDoor
section
open Go.RowKit

theorem mv_two {l : TLevel} {b : TBody} (h : b.Kind = 2) : mvOne l b = some b := by rw [mvOne,if_neg (by omega),if_neg (by omega)]
theorem mv_dead {l : TLevel} {b : TBody} (h : b.Kind = 0) (h1 : b.Life = 0) : mvOne l b = some b := by rw [mvOne,if_neg (by omega),if_neg (by omega)]
theorem at_pl {l : TLevel} {n : Nat} {bs : List TBody} (h : LM l n bs) (x y : Int) : itemAt (bs.take n) x y = false := by
 rw [itemAt,List.any_eq_false]
 intro b hb
 obtain ⟨j,hj⟩ := List.getElem?_of_mem hb
 rw [List.getElem?_take] at hj
 split at hj
 ·have := (h.at_ j b hj).2.2 (by assumption)
  simp only [isItem,decide_eq_true_eq]
  omega
 ·cases hj
theorem S_l02Step (w : TWorld) (row : List Int) (hg : Enc.gd w) (ho : worldOk w = true) (ht : w.Tick ≠ 100000) (hr : rowOk row w.Scores.length = true) : Con Tryd.prog 108 [.box [.ref 1,jn w.Tick,jn w.Seed,.ref 2,.ref 3],.row 1 (els w.Level.Rows),.row 1 (els w.Scores),.row 9 (els w.Bodies),.gh 0 (.c (.ptr 0 0))] [.c (.ptr 0 0),al row] [.box [.ref 1,jn (tickM w row).Tick,jn (tickM w row).Seed,.ref 2,.ref 3],.row 1 (els w.Level.Rows),.row 1 (els (tickM w row).Scores),.row 9 (els (tickM w row).Bodies),.gh 0 (.c (.ptr 0 0))] (.tu []) := by
 have hP := PH.of hg ho hr
 have hsr := Zf ho
 have hM := hits_lm hP.mv rfl hsr
 obtain ⟨hl,htk,hsd,hn,_,_,_⟩ := Zl ho
 have htk := Yi.1 htk
 have hsd := Yi.1 hsd
 have d1 := S_l02Hits ⟨w.Level,w.Tick,w.Seed,w.Scores,movedM w row⟩ hg.1 hl hn hP.mv hsr
 simp only at d1
 obtain ⟨s4,hs4⟩ : ∃ s4,s4 = (hitsR w.Scores.length (movedM w row) w.Scores).2 := ⟨_,rfl⟩
 obtain ⟨b4,hb4⟩ : ∃ b4,b4 = (hitsR w.Scores.length (movedM w row) w.Scores).1 := ⟨_,rfl⟩
 rw [← hs4,← hb4] at d1 hM
 rw [tickM,← hs4,← hb4]
 obtain ⟨hM1,hM2,hM3⟩ := hM
 have e1 := S_NextRandom w.Seed ⟨by omega,by omega⟩
 have e2 := S_SpotsOf w.Level hg.1 hl
 have hlb4 := X7 b4
 have hbl := hM1.len
 have hlsp := X7 (spotsM w.Level)
 have hsl2 := spots_len hl
 have hnr := Yn w.Seed
 clear hs4 hb4 ho
 have hPP := hP
 obtain ⟨hgl,gb,_,hn4,hlen,hbo,hrl,hri⟩ := hP
 have hls := X7 w.Scores
 have hlr := X7 row
 refine Con.of Tryd.func108 J Tryd.ntmps108 J (fun E => ?_)
 refine zy (z0 J (zx (Qz J J J) J (z2 J J J (z3 J (zx (Y3 J J J J) J (z1 J (zz (Qd (Qd ?_)))))))));refine Qc (z1 J (zz (Qk ?_)));refine Xi (fun m st => ∃ (k : Nat) (bs : List TBody),k + m = w.Scores.length ∧ (bs = plM w.Level row w.Bodies k) ∧ st = (⟨_,[(0,.o (.c (.ptr 0 0))),(1,L row),(4,I (els w.Scores).length),(5,I k)],[.box [.ref 1,jn w.Tick,jn w.Seed,.ref 2,.ref 3],.row 1 (els w.Level.Rows),.row 1 (els w.Scores),.row 9 (els bs),.gh 0 (.c (.ptr 0 0))]⟩ : St)) (w.Scores.length) ⟨_,⟨0,w.Bodies,by omega,J,J⟩,Xt [0,1,2,3,4] (by kernel_rfl)⟩ ?_
 rintro m_A _ ⟨k,bs,hk_A,hp_A,rfl⟩
 by_cases hlt : k < w.Scores.length
 ·have hb0 : decide ((k : Int) < (els w.Scores).length) = true := decide_eq_true (by omega)
  have hP := P1.all hl hn4.2 hlen hbo row k (by omega)
  rw [← hp_A] at hP
  have hln := hP.lm.len
  obtain ⟨b,hb⟩ := Zi (xs := bs) (i := k) (by omega)
  have hold := hP.old k (Nat.le_refl _) hlt
  have hI := old_at hbo (by rw [← hold]; exact hb) hlt
  have hB := (hP.lm.at_ k b hb).1
  obtain ⟨hpl,hpx,hpy⟩ := hB.placed hl
  obtain ⟨i,hi⟩ := Zi (xs := row) (i := k) (by omega)
  have hir := hri i (List.mem_of_getElem? hi)
  have hnx := pl_next hp_A hb hi
  have he := els_sm hb
  have her := els_sm hi
  have hlb := X7 bs
  have htm := hI.tm
  have hkl := Yf hb
  clear d1 e1 e2
  by_cases hf : b.Life = 0
  ·have f1 : decide (b.Life = 0) = true := decide_eq_true hf
   rw [plOne,if_pos hf] at hnx
   refine Qd (zy (z0 J (z0 J (z9a J (by assumption) (zz (Qm J (Qh (Q0 (Qd ?_)))))))));refine Qk (Qd (zy (z0 J (zx (Qz J J J) J (z2 J J J (z3 J (z0 J (zx (Q3 J J J J J (by omega) (by omega)) J (zx (Yy J J J J (by decide)) J (zx (Q7 J J J J (by assumption) J) J ?_))))))))));refine z9e J (by assumption) (zz (Qm J (zy (z0 J (zx (Qz J J J) J (z2 J J J (z3 J (z0 J (zx (Q3 J J J J J (by omega) (by omega)) J ?_)))))))));refine zx (Yy J J J J (by decide)) J (zx (Q7 J J J J (by assumption) J) J (z8 J (by omega) (zx (Q3 J J J J J (by omega) (by omega)) J (zx (Yy J J J J (by decide)) J ?_))));refine Xg J J J J J J J J J (by assumption) J J (zz (Qd (zy (z0 J (zx (Qz J J J) J (z2 J J J (z3 J (z0 J ?_))))))));refine AL.weak (st' := (⟨_,[(0,.o (.c (.ptr 0 0))),(1,L row),(4,I (els w.Scores).length),(5,I k),(50,.o (.c (.ref 3))),(51,I k)],[.box [.ref 1,jn w.Tick,jn w.Seed,.ref 2,.ref 3],.row 1 (els w.Level.Rows),.row 1 (els w.Scores),.row 9 (els (bs.set k (tick1 b))),.gh 0 (.c (.ptr 0 0))]⟩ : St)) (Xu [0,1,2,3,4] (by decide) J ((by exact rwBo (st_el0 J))) (.c J (.c J (.c J (.c J (.c J (.c J (.nil)))))))) ?_
   clear he
   have he : (els (bs.set k (tick1 b)))[(k : Int).toNat]? = some (Enc.e (tick1 b)) := els_sm (by rw [List.getElem?_set_self hkl])
   have hlb2 : (els (bs.set k (tick1 b))).length = bs.length := by rw [X7,List.length_set]
   by_cases ht : b.Timer - 1 = 0
   ·have f2 : decide (b.Timer - 1 = 0) = true := decide_eq_true ht
    rw [if_pos ht] at hnx
    have cf := S_fresh w.Level k hg.1 hl ⟨by omega,by omega⟩
    refine zx (Q3 J J J J J (by omega) (by omega)) J (zx (Yy J J J J (by decide)) J (zx (Q7 J J J J (by assumption) J) J (z9e J (by assumption) (zz (Qm J ?_)))))
    refine AWP.pre (st' := (⟨_,[(0,.o (.c (.ptr 0 0))),(1,L row),(4,I (els w.Scores).length),(5,I k)],[.box [.ref 1,jn w.Tick,jn w.Seed,.ref 2,.ref 3],.row 1 (els w.Level.Rows),.row 1 (els w.Scores),.row 9 (els (bs.set k (tick1 b))),.gh 0 (.c (.ptr 0 0))]⟩ : St)) ?_ (Xt [0,1,2,3,4] (by kernel_rfl))
    refine Xh [[],[0],[0,1],[0,1,2],[],[],[5],[5,6],[5,6,7],[],[5,6,7,8,9],(u9 11),(u9 12)] [[],[56],[56,57],[56,57,58],[],[],[61],[61,62],[61,62,63],[],[61,62,63,64,65],[56,57,58,59,60,61,62,63,64,65,66],[56,57,58,59,60,61,62,63,64,65,66,67]] [[60,61,62,63,64,65,66],[60,61,62,63,64,65,66],[60,61,62,63,64,65,66],[60,61,62,63,64,65,66],[56,57,58,59,61,62,63,64,65,66],[56,57,58,59,60,65],[56,57,58,59,60,65],[56,57,58,59,60,65],[56,57,58,59,60,65],[56,57,58,59,60,61,62,63,64],[56,57,58,59,60],[],[]] J (DR.s (Qa J J J) J J (DR.s (Qz J J J) J J (DR.s (Qf J J J J (by decide)) J J (DR.s (Qg J J J J J) J J (DR.s (Qa J J J) J J (DR.s (Qa J J J) J J (DR.s (Qz J J J) J J (DR.s (Qf J J J J (by decide)) J J (DR.s (Qu J J J J J J) J J (DR.s (Qa J J J) J J ?_))))))))));refine DR.s (Yv J J (cf) J J J) J J ?_;refine DR.s (Q3 J J J J J (by omega) (by omega)) J J (DR.stop (by kernel_rfl) (by kernel_rfl) ?_);refine AL.weak (st' := (⟨_,[(0,.o (.c (.ptr 0 0))),(1,L row),(4,I (els w.Scores).length),(5,I k),(66,.o (.ag ((Enc.e (fresh w.Level k)).map (V1.rd [])))),(67,.o (.c (.el 3 9 k 0)))],[.box [.ref 1,jn w.Tick,jn w.Seed,.ref 2,.ref 3],.row 1 (els w.Level.Rows),.row 1 (els w.Scores),.row 9 (els (bs.set k (tick1 b))),.gh 0 (.c (.ptr 0 0))]⟩ : St)) (Xt [0,1,2,3,4] (by kernel_rfl)) ?_;refine Xf J J J J J J J J J J (by assumption) J J (zz (Q9 (T_x (Xj (Q0 (Qc (z0 J (z7 J (by omega) (z1 J (Qe ?_))))))))));refine Q0 ?_
    exact ⟨w.Scores.length - (k + 1),by omega,(fun (k : Nat) (bs : List TBody) => (⟨_,[(0,.o (.c (.ptr 0 0))),(1,L row),(4,I (els w.Scores).length),(5,I k)],[.box [.ref 1,jn w.Tick,jn w.Seed,.ref 2,.ref 3],.row 1 (els w.Level.Rows),.row 1 (els w.Scores),.row 9 (els bs),.gh 0 (.c (.ptr 0 0))]⟩ : St)) (k + 1) (bs.set k (fresh w.Level k)),⟨k + 1,bs.set k (fresh w.Level k),by omega,hnx.symm,J⟩,Xu [0,1,2,3,4] (by decide) J ((by exact rwBo (st_el J))) (.c J (.c J (.c J (.c J (.nil)))))⟩
   ·have f2 : decide (b.Timer - 1 = 0) = false := decide_eq_false ht
    rw [if_neg ht] at hnx
    refine zx (Q3 J J J J J (by omega) (by omega)) J (zx (Yy J J J J (by decide)) J (zx (Q7 J J J J (by assumption) J) J (z9e J (by assumption) (zz (Ql J (Qh (Q0 (Q9 (T_x (Xj ?_))))))))));refine Q0 (Qc (z0 J (z7 J (by omega) (z1 J (zz ?_)))))
    exact ⟨w.Scores.length - (k + 1),by omega,_,⟨k + 1,bs.set k (tick1 b),by omega,hnx.symm,J⟩,Xt [0,1,2,3,4] (by kernel_rfl)⟩
  ·have f1 : decide (b.Life = 0) = false := decide_eq_false hf
   rw [plOne,if_neg hf] at hnx
   have hfl := hB.f
   obtain ⟨c,f,hcf⟩ : ∃ c f,(c,f) = steer w.Level b i := ⟨_,_,rfl⟩
   have cs := S_l02Steer w.Level b i hg.1 hl hI.kd hir ⟨by omega,by omega⟩ hB.vy (by have := hB.p; rw [hI.kd] at this; exact this)
   have hca := steer_aim (l := w.Level) (i := i) hI.am
   have hcx : (steer w.Level b i).1.X = b.X ∧ (steer w.Level b i).1.Y = b.Y := ⟨rfl,rfl⟩
   rw [← hcf] at cs hnx hca hcx
   simp only at cs hnx hca hcx
   have csh := S_ShotOf c (by rw [hcx.1]; exact hpl.x) (by rw [hcx.2]; exact hpl.y) (by omega)
   have hlc : (els (bs.set k c)).length = bs.length := by rw [X7,List.length_set]
   clear hcf hca hcx
   refine Qd (zy (z0 J (z0 J (z9a J (by assumption) (zz (Qm J (Qh (Q0 (Qd ?_)))))))));refine Qk (Qd (zy (z0 J (zx (Qz J J J) J (z2 J J J (z3 J (z0 J (zx (Q3 J J J J J (by omega) (by omega)) J (zx (Yy J J J J (by decide)) J (zx (Q7 J J J J (by assumption) J) J ?_))))))))));refine z9e J (by assumption) (zz (Ql J (Qh (Q0 (Qd ?_)))))
   refine AWP.pre (st' := (⟨_,[(0,.o (.c (.ptr 0 0))),(1,L row),(4,I (els w.Scores).length),(5,I k)],[.box [.ref 1,jn w.Tick,jn w.Seed,.ref 2,.ref 3],.row 1 (els w.Level.Rows),.row 1 (els w.Scores),.row 9 (els bs),.gh 0 (.c (.ptr 0 0))]⟩ : St)) ?_ (Xt [0,1,2,3,4] (by kernel_rfl))
   refine Xh [[],[0],[0,1],[0,1,2],[],[4],[4,5],[4,5,6],[],[4,5,6,7,8],[4,5,6,7,8,9],[],[],[11,12],[11,12,13],(u9 15),(u9 16),(u9 17),(u9 17),[],[0,1,2,3,4,5,6,7,8,9,10,11,12,13,14,15,16,17,19],(u9 21)] [[],[69],[69,70],[69,70,71],[],[73],[73,74],[73,74,75],[],[73,74,75,76,77],[73,74,75,76,77,78],[],[],[80,81],[80,81,82],[69,70,71,72,73,74,75,76,77,78,79,80,81,82,83],[69,70,71,72,73,74,75,76,77,78,79,80,81,82,83,84],[68,69,70,71,72,73,74,75,76,77,78,79,80,81,82,83,84],[68,69,70,71,72,73,74,75,76,77,78,79,80,81,82,83,84],[],[6,68,69,70,71,72,73,74,75,76,77,78,79,80,81,82,83,84,85],[6,68,69,70,71,72,73,74,75,76,77,78,79,80,81,82,83,84,85,86]] [[6,73,74,75,76,77,78,79,80,81,82,83],[6,73,74,75,76,77,78,79,80,81,82,83],[6,73,74,75,76,77,78,79,80,81,82,83],[6,73,74,75,76,77,78,79,80,81,82,83],[6,69,70,71,72,77,80,81,82,83],[6,69,70,71,72,77,80,81,82,83],[6,69,70,71,72,77,80,81,82,83],[6,69,70,71,72,77,80,81,82,83],[6,69,70,71,72,73,74,75,76,80,81,82,83],[6,69,70,71,72,80,81,82,83],[6,69,70,71,72,80,81,82,83],[6,69,70,71,72,73,74,75,76,77,78,79,81],[6,69,70,71,72,73,74,75,76,77,78,79,80],[6,69,70,71,72,73,74,75,76,77,78,79],[6,69,70,71,72,73,74,75,76,77,78,79],[6],[6],[6,86],[6,85],[68,69,70,71,72,73,74,75,76,77,78,79,80,81,82,83,84,85,86],[86],[],[18]] J (DR.s (Qa J J J) J J (DR.s (Qz J J J) J J (DR.s (Qf J J J J (by decide)) J J (DR.s (Qu J J J J J J) J J (DR.s (Qa J J J) J J (DR.s (Qz J J J) J J (DR.s (Qf J J J J (by decide)) J J (DR.s (Qg J J J J J) J J (DR.s (Qa J J J) J J (DR.s (Q3 J J J J J (by omega) (by omega)) J J (DR.s (Q6 J J J J (by assumption) J J) J J ?_)))))))))));refine DR.s (Qa J J J) J J (DR.s (Qa J J J) J J (DR.s (Q2 J J J J (by omega) (by assumption) J) J J (DR.s (Y6 J J J J) J J ?_)));refine DR.s (Yv J J (cs) J J J) J J ?_;refine DR.s (Q8 J J J) J J (DR.s (q_ext J J J J) J J (DR.s (q_ext J J J J) J J (DR.s (Qx J J J) J J (DR.stop (by kernel_rfl) (by kernel_rfl) ?_))));refine AL.weak (st' := (⟨_,[(0,.o (.c (.ptr 0 0))),(1,L row),(4,I (els w.Scores).length),(5,I k),(6,.o (.c (.ptr 5 0))),(85,.o (.ag ((Enc.e c).map (V1.rd [])))),(86,B f)],[.box [.ref 1,jn w.Tick,jn w.Seed,.ref 2,.ref 3],.row 1 (els w.Level.Rows),.row 1 (els w.Scores),.row 9 (els bs),.gh 0 (.c (.ptr 0 0)),.box [jn 0,jn 0,jn 0,jn 0,jn 0,jn 0,jn 0,jn 0,jn 0]]⟩ : St)) (Xt [0,1,2,3,4,5] (by kernel_rfl)) ?_;refine Qy J J J J J J J J J (z1 J (zz (Qd ?_)))
   refine AWP.pre (st' := (⟨_,[(0,.o (.c (.ptr 0 0))),(1,L row),(4,I (els w.Scores).length),(5,I k),(6,.o (.c (.ptr 5 0))),(7,B f)],[.box [.ref 1,jn w.Tick,jn w.Seed,.ref 2,.ref 3],.row 1 (els w.Level.Rows),.row 1 (els w.Scores),.row 9 (els bs),.gh 0 (.c (.ptr 0 0)),.box ((Enc.e c).map (V1.rd []))]⟩ : St)) ?_ (Xt [0,1,2,3,4,5] (by kernel_rfl))
   refine Xh [[],[0],[0,1],[0,1,2],[],[],(u9 6),(u9 7)] [[],[87],[87,88],[87,88,89],[],[],[87,88,89,90,91,92],[87,88,89,90,91,92,93]] [[91,92],[91,92],[91,92],[91,92],[87,88,89,90,92],[87,88,89,90,91],[],[]] J (DR.s (Qa J J J) J J (DR.s (Qz J J J) J J (DR.s (Qf J J J J (by decide)) J J (DR.s (Qg J J J J J) J J (DR.s (Qa J J J) J J (DR.s (Qu J J J J J J) J J (DR.s (Q3 J J J J J (by omega) (by omega)) J J (DR.stop (by kernel_rfl) (by kernel_rfl) ?_))))))));refine AL.weak (st' := (⟨_,[(0,.o (.c (.ptr 0 0))),(1,L row),(4,I (els w.Scores).length),(5,I k),(6,.o (.c (.ptr 5 0))),(7,B f),(92,.o (.ag ((Enc.e c).map (V1.rd [])))),(93,.o (.c (.el 3 9 k 0)))],[.box [.ref 1,jn w.Tick,jn w.Seed,.ref 2,.ref 3],.row 1 (els w.Level.Rows),.row 1 (els w.Scores),.row 9 (els bs),.gh 0 (.c (.ptr 0 0)),.box ((Enc.e c).map (V1.rd []))]⟩ : St)) (Xt [0,1,2,3,4,5] (by kernel_rfl)) ?_
   with_reducible refine Xd ?_
   refine Xf J J J J J J J J J J (by assumption) J J (zz ?_)
   refine AWP.pre (st' := (⟨_,[(0,.o (.c (.ptr 0 0))),(1,L row),(4,I (els w.Scores).length),(5,I k),(6,.o (.c (.ptr 5 0))),(7,B f)],[.box [.ref 1,jn w.Tick,jn w.Seed,.ref 2,.ref 3],.row 1 (els w.Level.Rows),.row 1 (els w.Scores),.row 9 (els (bs.set k c)),.gh 0 (.c (.ptr 0 0)),.box ((Enc.e c).map (V1.rd []))]⟩ : St)) ?_ (by rw [els_set]; exact Xt [0,1,2,3,4,5] (by kernel_rfl))
   clear he
   cases f with
   | false =>
    refine zy (z0 J (z0 J (z6 J (z6 J (z6 J (z6 J (z6 J (z6 J (zpF J (Qe ?_))))))))));refine Q0 (Ql J (Qh (Q1 (Q0 (Qc (z0 J (z7 J (by omega) (z1 J (zz ?_)))))))))
    exact ⟨w.Scores.length - (k + 1),by omega,_,⟨k + 1,bs.set k c,by omega,(by rw [hnx]; rfl),J⟩,Xt [0,1,2,3,4] (by kernel_rfl)⟩
   | true =>
    by_cases h24 : bs.length < 24
    ·have f3 : decide (((els (bs.set k c)).length : Int) < 24) = true := decide_eq_true (by omega)
     rw [if_pos ⟨rfl,h24⟩] at hnx
     refine zy (z0 J (z0 J (z5 J (z0 J (zx (Qt.yes J J J (Qz J J J)) J (z5 J (z2 J J J (z5 J (z3 J (z5 J ?_))))))))));refine zx (Y3 J J J J) J (z5 J (z9a J (by assumption) (zpT J (zz (Qm J (Xh [[],[],[1],[1,2],[1,2,3],[],[5],[5,6],[1,2,3,4,5,6,7],(u9 9),(u9 10),(u9 11)] [[],[],[104],[104,105],[104,105,106],[],[108],[108,109],[104,105,106,107,108,109,110],[103,104,105,106,107,108,109,110,111],[103,104,105,106,107,108,109,110,111,112],[103,104,105,106,107,108,109,110,111,112,113]] [[104,105,106,107,108,109,110,111],[103,108,109,110],[103,108,109,110],[103,108,109,110],[103,108,109,110],[103,104,105,106,107],[103,104,105,106,107],[103,104,105,106,107],[103],[],[],[],[0]] J (DR.s (Qa J J J) J J (DR.s (Qa J J J) J J (DR.s (Qz J J J) J J (DR.s (Qf J J J J (by decide)) J J ?_))))))))));refine DR.s (Qg J J J J J) J J (DR.s (Qu J J J J J J) J J ?_);refine DR.s (Yv J J (csh) J J J) J J ?_;refine DR.s (Yt J J J J J J) J J (DR.stop (by kernel_rfl) (by kernel_rfl) ?_);refine AL.weak (st' := (⟨_,[(0,.o (.c (.ptr 0 0))),(1,L row),(4,I (els w.Scores).length),(5,I k),(103,.o (.c (.ptr 0 0))),(107,.o (.c (.ref 3))),(110,.o (.c (.sb 5 1 9)))],[.box [.ref 1,jn w.Tick,jn w.Seed,.ref 2,.ref 3],.row 1 (els w.Level.Rows),.row 1 (els w.Scores),.row 9 (els (bs.set k c)),.gh 0 (.c (.ptr 0 0)),.box ((Enc.e (shotOf c)).map (V1.rd []))]⟩ : St)) (Xt [0,1,2,3,4,6] (by kernel_rfl)) ?_;refine M_appo J J J J J J J J J J J J J J (by omega) (by omega) ?_;refine zx (Qz J J J) J (z2 J J J ?_);refine Q5 J J J J J J J J (Qe (Q1 (Q0 (Qc (z0 J (z7 J (by omega) (z1 J (zz ?_))))))))
     exact ⟨w.Scores.length - (k + 1),by omega,_,⟨k + 1,bs.set k c ++ [shotOf c],by omega,hnx.symm,J⟩,(by rw [X5]; exact Xt [0,1,2,3,4] (by kernel_rfl))⟩
    ·have f3 : decide (((els (bs.set k c)).length : Int) < 24) = false := decide_eq_false (by omega)
     rw [if_neg (fun q => h24 q.2)] at hnx
     refine zy (z0 J (z0 J (z5 J (z0 J (zx (Qt.yes J J J (Qz J J J)) J (z5 J (z2 J J J (z5 J (z3 J (z5 J ?_))))))))));refine zx (Y3 J J J J) J (z5 J (z9a J (by assumption) (zpT J (zz (Ql J (Qh (Q1 (Q0 (Qc (z0 J ?_))))))))));refine z7 J (by omega) (z1 J (zz ?_))
     exact ⟨w.Scores.length - (k + 1),by omega,_,⟨k + 1,bs.set k c,by omega,hnx.symm,J⟩,Xt [0,1,2,3,4] (by kernel_rfl)⟩
 have hb0 : decide ((k : Int) < (els w.Scores).length) = false := decide_eq_false (by omega)
 have hk : k = w.Scores.length := by omega
 rw [hk] at hp_A
 have hPl := hPP.pl
 rw [← hp_A] at hPl
 have hmv : movedM w row = mvM w.Level bs := by rw [movedM,hp_A]
 have hL := hPl.lm
 have htm := hPl.tm
 clear hPl hPP hp_A hbo
 have hlb := X7 bs
 have hln := hL.len
 refine Qd (zy (z0 J (z0 J (z9a J (by assumption) (zz (Ql J (Q9 (T_x (T_x ?_)))))))));refine Xj (Q0 (zy (M1 (Yu J J J) J J (z1 J (zz (Qd (zy (z1 J ?_))))))));refine zz (Qk ?_);refine Xi (fun m st => ∃ (j : Nat) (kr : List TBody),j + m = bs.length ∧ (kr = (bs.take j).filterMap (mvOne w.Level)) ∧ st = (⟨_,[(0,.o (.c (.ptr 0 0))),(1,L row),(4,I (els w.Scores).length),(8,.o (.c (.ref 5))),(9,I j)],[.box [.ref 1,jn w.Tick,jn w.Seed,.ref 2,.ref 3],.row 1 (els w.Level.Rows),.row 1 (els w.Scores),.row 9 (els bs),.gh 0 (.c (.ptr 0 0)),.row 9 (els kr)]⟩ : St)) (bs.length) ⟨_,⟨0,[],by omega,J,J⟩,Xt [0,1,2,3,4,5] (by kernel_rfl)⟩ ?_
 rintro m_B _ ⟨j,kr,hk_B,hp_B,rfl⟩
 have hlkr := X7 kr
 have hkl := mv_len hp_B
 by_cases hlt : j < bs.length
 ·have hb0 : decide ((j : Int) < (els bs).length) = true := decide_eq_true (by omega)
  obtain ⟨b,hb⟩ := Zi hlt
  refine Qd (zy (z0 J (z0 J (zx (Qz J J J) J (z2 J J J (z3 J (zx (Y3 J J J J) J (z9a J (by assumption) (zz ?_)))))))));refine Qm J (Qh (Q0 (Qd (Qk (zy (z0 J (zx (Qz J J J) J (z2 J J J (z3 J (z0 J ?_))))))))));refine zx (Q3 J J J J J (by omega) (by omega)) J ?_
  have he := els_sm hb
  with_reducible refine Xe ?_
  refine zx (Q6 J J J J (by assumption) J J) J ?_
  with_reducible refine K_alloc ?_
  refine M1 (Qx J J J) J J ?_
  with_reducible refine Xd ?_
  refine Qy J J J J J J J J J (zz ?_)
  refine AWP.pre (st' := (⟨_,[(0,.o (.c (.ptr 0 0))),(1,L row),(4,I (els w.Scores).length),(8,.o (.c (.ref 5))),(9,I j),(10,.o (.c (.ptr 6 0)))],[.box [.ref 1,jn w.Tick,jn w.Seed,.ref 2,.ref 3],.row 1 (els w.Level.Rows),.row 1 (els w.Scores),.row 9 (els bs),.gh 0 (.c (.ptr 0 0)),.row 9 (els kr),.box ((Enc.e b).map (V1.rd []))]⟩ : St)) ?_ (Xt [0,1,2,3,4,5,6] (by kernel_rfl))
  clear he
  obtain ⟨hB,hKn⟩ := hL.at_ j b hb
  have hkd := hB.k
  have hlf := hB.f
  have ht := htm b (List.mem_of_getElem? hb)
  by_cases k2 : b.Kind = 2
  ·have f1 : decide (b.Kind = 2) = true := decide_eq_true k2
   have hm := mv_some hp_B hb (mv_two k2)
   refine Qd (zy (z2 J J J (z3 J (z9e J (by assumption) (z0 J (z6 J (z6 J (z6 J (z6 J (zx (Qt.no2 J J J) J ?_))))))))));refine zx (Qt.no2 J J J) J (zx (Qt.no2 J J J) J (z6 J (zpT J (zz (Qm J (zy (z0 J (z4 J J J (M1 (Yt J J J J J J) J J ?_)))))))));refine M_appo J J J J J J J J J J J J J J (by omega) (by omega) ?_;refine z1 J (zz (Q9 (T_x (Xj (Q0 (Qc (z0 J (z7 J (by omega) (z1 J (Qe ?_))))))))));refine Q0 ?_
   exact ⟨bs.length - (j + 1),by omega,_,⟨j + 1,kr ++ [b],by omega,hm,J⟩,(by rw [X5]; exact Xt [0,1,2,3,4,5] (by kernel_rfl))⟩
  have f1 : decide (b.Kind = 2) = false := decide_eq_false k2
  by_cases k0 : b.Kind = 0 ∧ b.Life = 0
  ·have f2 : decide ((j : Int) < (els w.Scores).length) = true := decide_eq_true (by have := hKn.1 k0.1; omega)
   have f3 : decide (b.Life = 0) = true := decide_eq_true k0.2
   have hm := mv_some hp_B hb (mv_dead k0.1 k0.2)
   refine Qd (zy (z2 J J J (z3 J (z9e J (by assumption) (z0 J (z5 J (z0 J (z5 J (z0 J (z5 J ?_))))))))));refine z9a J (by assumption) (z5 J (z0 J (z5 J (z2 J J J (z5 J (z3 J (z5 J (z9e J (by assumption) (z5 J (zpT J (zpF J ?_)))))))))));refine zz (Qm J (zy (z0 J (z4 J J J (M1 (Yt J J J J J J) J J ?_)))));refine M_appo J J J J J J J J J J J J J J (by omega) (by omega) ?_;refine z1 J (zz (Q9 (T_x (Xj (Q0 (Qc (z0 J (z7 J (by omega) (z1 J (Qe ?_))))))))));refine Q0 ?_
   exact ⟨bs.length - (j + 1),by omega,_,⟨j + 1,kr ++ [b],by omega,hm,J⟩,(by rw [X5]; exact Xt [0,1,2,3,4,5] (by kernel_rfl))⟩
  obtain ⟨c,s,hcs⟩ : ∃ c s,(c,s) = moveM w.Level b := ⟨_,_,rfl⟩
  have cm := S_l02Move w.Level b hg.1 hl hB.k hB.p hB.vx hB.vy
  have hct : (moveM w.Level b).1.Timer = b.Timer := rfl
  have ma := @mv_a w.Level b
  have mn := @mv_n w.Level b
  have ms := @mv_s w.Level b
  rw [← hcs] at cm hct ma mn ms
  simp only at cm hct ma mn ms
  clear hcs hB
  by_cases hA : b.Kind = 0
  ·have f2 : decide ((j : Int) < (els w.Scores).length) = true := decide_eq_true (by have := hKn.1 hA; omega)
   have f3 : decide (b.Life = 0) = false := decide_eq_false (fun q => k0 ⟨hA,q⟩)
   have f4 : decide (b.Kind = 1) = false := decide_eq_false (by omega)
   have hm := mv_some hp_B hb (ma ⟨hA,by have : b.Life ≠ 0 := fun q => k0 ⟨hA,q⟩; omega⟩)
   refine Qd (zy (z2 J J J (z3 J (z9e J (by assumption) (z0 J (z5 J (z0 J (z5 J (z0 J (z5 J ?_))))))))));refine z9a J (by assumption) (z5 J (z0 J (z5 J (z2 J J J (z5 J (z3 J (z5 J (z9e J (by assumption) (z5 J (zpT J (zpF J ?_)))))))))));refine zz (Ql J (Qh (Q0 (Qd ?_))))
   refine AWP.pre (st' := (⟨_,[(0,.o (.c (.ptr 0 0))),(1,L row),(4,I (els w.Scores).length),(8,.o (.c (.ref 5))),(9,I j),(10,.o (.c (.ptr 6 0)))],[.box [.ref 1,jn w.Tick,jn w.Seed,.ref 2,.ref 3],.row 1 (els w.Level.Rows),.row 1 (els w.Scores),.row 9 (els bs),.gh 0 (.c (.ptr 0 0)),.row 9 (els kr),.box ((Enc.e b).map (V1.rd []))]⟩ : St)) ?_ (Xt [0,1,2,3,4,5,6] (by kernel_rfl))
   refine Xh u8_12 u8_13 u8_14 J (DR.s (Qa J J J) J J (DR.s (Qz J J J) J J (DR.s (Qf J J J J (by decide)) J J (DR.s (Qu J J J J J J) J J (DR.s (Qu J J J J J J) J J ?_)))));refine DR.s (Yv J J (cm) J J J) J J ?_;refine DR.s (Q8 J J J) J J (DR.s (q_ext J J J J) J J (DR.s (q_ext J J J J) J J (DR.s (Qx J J J) J J (DR.stop (by kernel_rfl) (by kernel_rfl) ?_))));refine AL.weak (st' := (⟨_,[(0,.o (.c (.ptr 0 0))),(1,L row),(4,I (els w.Scores).length),(8,.o (.c (.ref 5))),(9,I j),(10,.o (.c (.ptr 6 0))),(11,.o (.c (.ptr 7 0))),(155,.o (.ag ((Enc.e c).map (V1.rd [])))),(156,B s)],[.box [.ref 1,jn w.Tick,jn w.Seed,.ref 2,.ref 3],.row 1 (els w.Level.Rows),.row 1 (els w.Scores),.row 9 (els bs),.gh 0 (.c (.ptr 0 0)),.row 9 (els kr),.box ((Enc.e b).map (V1.rd [])),.box [jn 0,jn 0,jn 0,jn 0,jn 0,jn 0,jn 0,jn 0,jn 0]]⟩ : St)) (Xt [0,1,2,3,4,5,6,7] (by kernel_rfl)) ?_
   with_reducible refine Xd ?_
   refine Qy J J J J J J J J J ?_
   with_reducible refine K_assign ?_
   refine z1 J (zz ?_)
   refine AWP.pre (st' := (⟨_,[(0,.o (.c (.ptr 0 0))),(1,L row),(4,I (els w.Scores).length),(8,.o (.c (.ref 5))),(9,I j),(10,.o (.c (.ptr 6 0))),(11,.o (.c (.ptr 7 0))),(12,B s)],[.box [.ref 1,jn w.Tick,jn w.Seed,.ref 2,.ref 3],.row 1 (els w.Level.Rows),.row 1 (els w.Scores),.row 9 (els bs),.gh 0 (.c (.ptr 0 0)),.row 9 (els kr),.box ((Enc.e b).map (V1.rd [])),.box ((Enc.e c).map (V1.rd []))]⟩ : St)) ?_ (Xt [0,1,2,3,4,5,6,7] (by kernel_rfl))
   refine Qd (zy (z2 J J J (z3 J (z9e J (by assumption) (zz (Ql J (Qh (Q0 (Qc ?_)))))))));refine z0 J (z4 J J J (M1 (Yt J J J J J J) J J ?_));refine M_appo J J J J J J J J J J J J J J (by omega) (by omega) ?_;refine z1 J (Qe (Q1 (Q0 (Qc (z0 J (z7 J (by omega) (z1 J (zz ?_))))))))
   exact ⟨bs.length - (j + 1),by omega,_,⟨j + 1,kr ++ [c],by omega,hm,J⟩,(by rw [X5]; exact Xt [0,1,2,3,4,5] (by kernel_rfl))⟩
  have k1 : b.Kind = 1 := by omega
  have f2 : decide ((j : Int) < (els w.Scores).length) = false := decide_eq_false (fun q => hA (hKn.2 (by omega)))
  have f4 : decide (b.Kind = 1) = true := decide_eq_true k1
  have f5 : decide (b.Kind = 0) = false := decide_eq_false hA
  refine Qd (zy (z2 J J J (z3 J (z9e J (by assumption) (z0 J (z5 J (z0 J (z5 J (z0 J (z5 J ?_))))))))));refine z9a J (by assumption) (z5 J (z0 J (z6 J (z6 J (z6 J (z5 J (zpF J (zpF J (zz (Ql J ?_))))))))));refine Qh (Q0 (Qd ?_))
  refine AWP.pre (st' := (⟨_,[(0,.o (.c (.ptr 0 0))),(1,L row),(4,I (els w.Scores).length),(8,.o (.c (.ref 5))),(9,I j),(10,.o (.c (.ptr 6 0)))],[.box [.ref 1,jn w.Tick,jn w.Seed,.ref 2,.ref 3],.row 1 (els w.Level.Rows),.row 1 (els w.Scores),.row 9 (els bs),.gh 0 (.c (.ptr 0 0)),.row 9 (els kr),.box ((Enc.e b).map (V1.rd []))]⟩ : St)) ?_ (Xt [0,1,2,3,4,5,6] (by kernel_rfl))
  refine Xh u8_12 u8_13 u8_14 J (DR.s (Qa J J J) J J (DR.s (Qz J J J) J J (DR.s (Qf J J J J (by decide)) J J (DR.s (Qu J J J J J J) J J (DR.s (Qu J J J J J J) J J ?_)))));refine DR.s (Yv J J (cm) J J J) J J ?_;refine DR.s (Q8 J J J) J J (DR.s (q_ext J J J J) J J (DR.s (q_ext J J J J) J J (DR.s (Qx J J J) J J (DR.stop (by kernel_rfl) (by kernel_rfl) ?_))));refine AL.weak (st' := (⟨_,[(0,.o (.c (.ptr 0 0))),(1,L row),(4,I (els w.Scores).length),(8,.o (.c (.ref 5))),(9,I j),(10,.o (.c (.ptr 6 0))),(11,.o (.c (.ptr 7 0))),(155,.o (.ag ((Enc.e c).map (V1.rd [])))),(156,B s)],[.box [.ref 1,jn w.Tick,jn w.Seed,.ref 2,.ref 3],.row 1 (els w.Level.Rows),.row 1 (els w.Scores),.row 9 (els bs),.gh 0 (.c (.ptr 0 0)),.row 9 (els kr),.box ((Enc.e b).map (V1.rd [])),.box [jn 0,jn 0,jn 0,jn 0,jn 0,jn 0,jn 0,jn 0,jn 0]]⟩ : St)) (Xt [0,1,2,3,4,5,6,7] (by kernel_rfl)) ?_
  with_reducible refine Xd ?_
  refine Qy J J J J J J J J J ?_
  with_reducible refine K_assign ?_
  refine z1 J (zz ?_)
  refine AWP.pre (st' := (⟨_,[(0,.o (.c (.ptr 0 0))),(1,L row),(4,I (els w.Scores).length),(8,.o (.c (.ref 5))),(9,I j),(10,.o (.c (.ptr 6 0))),(11,.o (.c (.ptr 7 0))),(12,B s)],[.box [.ref 1,jn w.Tick,jn w.Seed,.ref 2,.ref 3],.row 1 (els w.Level.Rows),.row 1 (els w.Scores),.row 9 (els bs),.gh 0 (.c (.ptr 0 0)),.row 9 (els kr),.box ((Enc.e b).map (V1.rd [])),.box ((Enc.e c).map (V1.rd []))]⟩ : St)) ?_ (Xt [0,1,2,3,4,5,6,7] (by kernel_rfl))
  rw [← hct] at ht
  cases s with
  | true =>
   have hm := mv_none hp_B hb (mn (fun q => hA q.1) k1 (.inl rfl))
   refine Qd (zy (z2 J J J (z3 J (z9e J (by assumption) (zz (Qm J (zy (z2 J J J ?_))))))));refine z3 J (z8 J (by omega) (z2 J J J ?_));refine Q5 J J J J J J J J (zz (zy (z0 J (z0 J (z6 J (z6 J (z6 J (zpT J (Qe ?_)))))))));refine Q0 (Qm J (Q9 (T_x (Xj (Q0 (Qc (z0 J (z7 J (by omega) (z1 J (zz ?_))))))))))
   exact ⟨bs.length - (j + 1),by omega,_,⟨j + 1,kr,by omega,hm,J⟩,Xt [0,1,2,3,4,5] (by kernel_rfl)⟩
  | false =>
   by_cases h1 : c.Timer - 1 = 0
   ·have f6 : decide (c.Timer - 1 = 0) = true := decide_eq_true h1
    have hm := mv_none hp_B hb (mn (fun q => hA q.1) k1 (.inr (by rw [← hct]; exact h1)))
    refine Qd (zy (z2 J J J (z3 J (z9e J (by assumption) (zz (Qm J (zy (z2 J J J ?_))))))));refine z3 J (z8 J (by omega) (z2 J J J ?_));refine Q5 J J J J J J J J (zz (zy (z0 J (z0 J (z5 J (z2 J J J (z5 J (z3 J (z5 J ?_)))))))));refine z9e J (by assumption) (zpF J (zz (Qm J (Q9 (T_x (Xj (Q0 (Qc (z0 J (z7 J (by omega) ?_))))))))));refine z1 J (zz ?_)
    exact ⟨bs.length - (j + 1),by omega,_,⟨j + 1,kr,by omega,hm,J⟩,Xt [0,1,2,3,4,5] (by kernel_rfl)⟩
   ·have f6 : decide (c.Timer - 1 = 0) = false := decide_eq_false h1
    have hm := mv_some hp_B hb (ms (fun q => hA q.1) k1 (fun q => q.elim (fun q => Bool.false_ne_true q) (fun q => h1 (by rw [hct]; exact q))))
    refine Qd (zy (z2 J J J (z3 J (z9e J (by assumption) (zz (Qm J (zy (z2 J J J ?_))))))));refine z3 J (z8 J (by omega) (z2 J J J ?_));refine Q5 J J J J J J J J (zz (zy (z0 J (z0 J (z5 J (z2 J J J (z5 J (z3 J (z5 J ?_)))))))));refine z9e J (by assumption) (zpF J (zz (Ql J (Qh (Q0 (Qc (z0 J (z4 J J J (M1 (Yt J J J J J J) J J ?_)))))))));refine M_appo J J J J J J J J J J J J J J (by omega) (by omega) ?_;refine z1 J (Qe (Q1 (Q0 (Qc (z0 J (z7 J (by omega) (z1 J (zz ?_))))))))
    exact ⟨bs.length - (j + 1),by omega,_,⟨j + 1,kr ++ [tick1 c],by omega,hm,J⟩,(by rw [X5]; exact Xt [0,1,2,3,4,5] (by kernel_rfl))⟩
 have hb0 : decide ((j : Int) < (els bs).length) = false := decide_eq_false (by omega)
 have hj : j = bs.length := by omega
 have hm : kr = movedM w row := by rw [hp_B,hj,List.take_length,hmv]; rfl
 subst hm
 clear hmv hL htm hp_B
 refine Qd (zy (z0 J (z0 J (zx (Qz J J J) J (z2 J J J (z3 J (zx (Y3 J J J J) J (z9a J (by assumption) (zz ?_)))))))));refine Ql J (Q9 (T_x (T_x (Xj (Q0 (zy (z0 J (z0 J (zx (Qz J J J) J (z2 J J J ?_))))))))));refine Q5 J J J J J J J J (zz (zy (z0 J ?_)));refine AL.weak (st' := (⟨_,[(0,.o (.c (.ptr 0 0))),(1,L row),(4,I (els w.Scores).length),(178,.o (.c (.ptr 0 0)))],[.box [.ref 1,jn w.Tick,jn w.Seed,.ref 2,.ref 3],.row 1 (els w.Level.Rows),.row 1 (els w.Scores),.row 9 (els (movedM w row)),.gh 0 (.c (.ptr 0 0))]⟩ : St)) (Xt [0,1,2,5,4] (by kernel_rfl)) ?_;refine Xq (lo := [_,_,_,_]) (gs := [(0,.c (.ptr 0 0))]) (lo' := [_,_,_,_]) (new := []) [0,1,2,3] [(0,0,.ptr 0 0)] (d1) J J J J J J J J J J J J J J J J J ?_;refine zz (zy (z0 J (zx (Qz J J J) J (z2 J J J (z3 J (z7 J (by omega) (zx (Qz J J J) J (z2 J J J ?_))))))));refine Q5 J J J J J J J J (zz (zy (z0 J (z0 J (zx (Qz J J J) J (z2 J J J (z3 J ?_)))))));refine AL.weak (st' := (⟨_,[(0,.o (.c (.ptr 0 0))),(1,L row),(4,I (els w.Scores).length),(187,.o (.c (.ptr 0 0))),(191,I w.Seed)],[.box [.ref 1,jn (w.Tick + 1),jn w.Seed,.ref 2,.ref 3],.row 1 (els w.Level.Rows),.row 1 (els s4),.row 9 (els b4),.gh 0 (.c (.ptr 0 0))]⟩ : St)) (Xt [0,1,2,3,4] (by kernel_rfl)) ?_
 clear d1
 refine zx (Qj J J (e1) J) J ?_;refine zx (Qz J J J) J (z2 J J J ?_);refine Q5 J J J J J J J J (zz (zy (z0 J (zx (Qz J J J) J (z2 J J J (z4 J J J ?_))))));refine AL.weak (st' := (⟨_,[(0,.o (.c (.ptr 0 0))),(1,L row),(4,I (els w.Scores).length),(198,.o (.ag [.ref 1]))],[.box [.ref 1,jn (w.Tick + 1),jn (nextR w.Seed),.ref 2,.ref 3],.row 1 (els w.Level.Rows),.row 1 (els s4),.row 9 (els b4),.gh 0 (.c (.ptr 0 0))]⟩ : St)) (Xt [0,1,2,3,4] (by kernel_rfl)) ?_
 clear e1
 obtain ⟨sd,hsd2⟩ : ∃ sd,sd = nextR w.Seed := ⟨_,rfl⟩
 rw [← hsd2] at hnr
 rw [← hsd2]
 by_cases q1 : (w.Tick + 1) % 16 ≠ 0
 ·have g1 : decide ((w.Tick + 1) % 16 ≠ 0) = true := decide_eq_true q1
  rw [last_1 (.inl q1)]
  refine M1 (Yv J J (e2) J J J) J J ?_;refine z1 J (zz (Qd (zy (z0 J (zx (Qz J J J) J (z2 J J J (z3 J (zx (q_rem J J J J (by omega)) J (z9f J (by assumption) ?_)))))))));refine z0 J (z6 J (z6 J (z6 J (zpT J (z0 J (z6 J (z6 J (z6 J (z6 J (z6 J (z6 J ?_)))))))))));refine zpT J (zz (Qm J (Xa (T_r (F_r ?_)))))
  exact E_none J (Xs [0,1,2,3,4] (by decide) J J J)
 have g1 : decide ((w.Tick + 1) % 16 ≠ 0) = false := decide_eq_false q1
 by_cases q2 : (spotsM w.Level).length = 0
 ·have g2 : decide (((els (spotsM w.Level)).length : Int) = 0) = true := decide_eq_true (by omega)
  rw [last_1 (.inr (.inl q2))]
  refine M1 (Yv J J (e2) J J J) J J ?_;refine z1 J (zz (Qd (zy (z0 J (zx (Qz J J J) J (z2 J J J (z3 J (zx (q_rem J J J J (by omega)) J (z9f J (by assumption) ?_)))))))));refine z0 J (z5 J (z0 J (z5 J (zx (Y3 J J J J) J (z5 J (z9e J (by assumption) (zpF J (z0 J (z6 J (z6 J (z6 J ?_)))))))))));refine z6 J (z6 J (z6 J (zpT J (zz (Qm J (Xa (T_r (F_r ?_))))))))
  exact E_none J (Xs [0,1,2,3,4] (by decide) J J J)
 have g2 : decide (((els (spotsM w.Level)).length : Int) = 0) = false := decide_eq_false (by omega)
 by_cases q3 : 24 ≤ b4.length
 ·have g3 : decide (((els b4).length : Int) ≥ 24) = true := decide_eq_true (by omega)
  rw [last_1 (.inr (.inr q3))]
  refine M1 (Yv J J (e2) J J J) J J ?_;refine z1 J (zz (Qd (zy (z0 J (zx (Qz J J J) J (z2 J J J (z3 J (zx (q_rem J J J J (by omega)) J (z9f J (by assumption) ?_)))))))));refine z0 J (z5 J (z0 J (z5 J (zx (Y3 J J J J) J (z5 J (z9e J (by assumption) (zpF J (z0 J (z5 J (z0 J (zx (Qt.yes J J J (Qz J J J)) J ?_)))))))))));refine z5 J (z2 J J J (z5 J (z3 J (z5 J (zx (Y3 J J J J) J (z5 J (z9d J (by assumption) (zpF J (zz (Qm J ?_))))))))));refine Xa (T_r (F_r ?_))
  exact E_none J (Xs [0,1,2,3,4] (by decide) J J J)
 have g3 : decide (((els b4).length : Int) ≥ 24) = false := decide_eq_false (by omega)
 have q : ¬ ((w.Tick + 1) % 16 ≠ 0 ∨ (spotsM w.Level).length = 0 ∨ 24 ≤ b4.length) := fun h => h.elim q1 fun h => h.elim q2 q3
 obtain ⟨i,hi1,hi2,hi3⟩ := spotOf_mem (seed := sd) q2
 obtain ⟨x,y,hxy,hx,hy⟩ := spot_rng hl (List.mem_of_getElem? hi3)
 have e3 := S_RandomBelow sd ((els (spotsM w.Level)).length : Int) hnr ⟨by omega,by omega⟩
 rw [show belowR sd ((els (spotsM w.Level)).length : Int) = i by rw [hlsp]; exact hi1] at e3
 have hsp : (els (spotsM w.Level))[(i : Int).toNat]? = some (Enc.e [x,y]) := els_sm (by rw [hi3,hxy])
 have hx0 : (els [x,y])[(0 : Int).toNat]? = some (Enc.e x) := rfl
 have hy0 : (els [x,y])[(1 : Int).toNat]? = some (Enc.e y) := rfl
 refine M1 (Yv J J (e2) J J J) J J ?_;refine z1 J (zz (Qd (zy (z0 J (zx (Qz J J J) J (z2 J J J (z3 J (zx (q_rem J J J J (by omega)) J (z9f J (by assumption) ?_)))))))));refine z0 J (z5 J (z0 J (z5 J (zx (Y3 J J J J) J (z5 J (z9e J (by assumption) (zpF J (z0 J (z5 J (z0 J (zx (Qt.yes J J J (Qz J J J)) J ?_)))))))))));refine z5 J (z2 J J J (z5 J (z3 J (z5 J (zx (Y3 J J J J) J (z5 J (z9d J (by assumption) (zpF J (zz (Ql J ?_))))))))));refine Qh (Q0 (zy (z0 J (zx (Qz J J J) J (z2 J J J (z3 J (z0 J (zx (Y3 J J J J) J ?_))))))));refine M1 (Yv J J (e3) J J J) J J ?_;refine zx (Q8 J J J) J (ze J (ze J (z1 J (z1 J (zz (zy (z0 J (z0 J (zx (Qz J J J) J ?_)))))))));refine z2 J J J ?_;refine Q5 J J J J J J J J (zz (Qd (zy (z0 J (z1 J (zz (Qk ?_)))))))
 refine AWP.pre (st' := (⟨_,[(0,.o (.c (.ptr 0 0))),(4,I (els w.Scores).length),(13,.o (.c (.ref 5))),(15,I (i : Int)),(16,I (els w.Scores).length)],[.box [.ref 1,jn (w.Tick + 1),jn (nextR sd),.ref 2,.ref 3],.row 1 (els w.Level.Rows),.row 1 (els s4),.row 9 (els b4),.gh 0 (.c (.ptr 0 0)),.row 1 (els (spotsM w.Level))]⟩ : St)) ?_ (Xt [0,1,2,3,4,5] (by kernel_rfl))
 refine Xi (fun m st => ∃ t : Nat,t + m = (b4.length - w.Scores.length) ∧ (itemAt (b4.take (w.Scores.length + t)) x y = false) ∧ st = (⟨_,[(0,.o (.c (.ptr 0 0))),(4,I (els w.Scores).length),(13,.o (.c (.ref 5))),(15,I (i : Int)),(16,I (((els w.Scores).length + t : Nat) : Int))],[.box [.ref 1,jn (w.Tick + 1),jn (nextR sd),.ref 2,.ref 3],.row 1 (els w.Level.Rows),.row 1 (els s4),.row 9 (els b4),.gh 0 (.c (.ptr 0 0)),.row 1 (els (spotsM w.Level))]⟩ : St)) ((b4.length - w.Scores.length)) ⟨(fun t : Nat => (⟨_,[(0,.o (.c (.ptr 0 0))),(4,I (els w.Scores).length),(13,.o (.c (.ref 5))),(15,I (i : Int)),(16,I (((els w.Scores).length + t : Nat) : Int))],[.box [.ref 1,jn (w.Tick + 1),jn (nextR sd),.ref 2,.ref 3],.row 1 (els w.Level.Rows),.row 1 (els s4),.row 9 (els b4),.gh 0 (.c (.ptr 0 0)),.row 1 (els (spotsM w.Level))]⟩ : St)) 0,⟨0,by omega,at_pl hM1 x y,J⟩,Xu [0,1,2,3,4,5] (by decide) J (by kernel_rfl) (.c J (.c J (.c J (.c J (.cons (Xo (by omega)) (.nil))))))⟩ ?_
 rintro m_C _ ⟨t,hk_C,hp_C,rfl⟩
 by_cases hlt : t < b4.length - w.Scores.length
 ·have hb0 : decide ((((els w.Scores).length + t : Nat) : Int) < (els b4).length) = true := decide_eq_true (by omega)
  obtain ⟨b,hbb⟩ := Zi (xs := b4) (i := w.Scores.length + t) (by omega)
  have he := at_el hbb
  refine Qd (zy (z0 J (z0 J (zx (Qz J J J) J (z2 J J J (z3 J (zx (Y3 J J J J) J (z9a J (by assumption) (zz ?_)))))))));refine Qm J (Qh (Q0 (Qd (Qk (Qd ?_)))))
  by_cases k1 : b.Kind = 2
  case neg =>
   have p1 : decide (b.Kind = 2) = false := decide_eq_false k1
   refine Xh u8_15 u8_16 u8_17 J (DR.s (Qa J J J) J J (DR.s (Qz J J J) J J (DR.s (Qf J J J J (by decide)) J J (DR.s (Qg J J J J J) J J (DR.s (Qa J J J) J J (DR.s (Q3 J J J J J (by omega) (by omega)) J J (DR.s (Yy J J J J (by decide)) J J (DR.s (Q7 J J J J (by assumption) J) J J (DR.s (Qv J J J J (by assumption)) J J (DR.s (Qa J J J) J J (DR.s (Qt.no J J J J) J J ?_)))))))))));refine DR.s (Qt.no J J J J) J J (DR.s (Qt.no J J J J) J J (DR.s (Qt.no J J J J) J J (DR.s (Qt.no J J J J) J J (DR.s (Qt.no J J J J) J J (DR.s (Qt.no J J J J) J J (DR.s (Qt.no J J J J) J J (DR.s (Qt.no J J J J) J J (DR.s (Qt.no J J J J) J J (DR.s (Qt.no J J J J) J J (DR.s (Qt.no J J J J) J J (DR.s (Qt.no J J J J) J J ?_)))))))))));refine DR.s (Qt.no J J J J) J J (DR.s (Qt.no J J J J) J J (DR.s (Qn J J J J) J J (DR.s (Qa J J J) J J (DR.s (Qt.no J J J J) J J (DR.s (Qt.no J J J J) J J (DR.s (Qt.no J J J J) J J (DR.s (Qt.no J J J J) J J (DR.s (Qt.no J J J J) J J (DR.s (Qt.no J J J J) J J (DR.s (Qt.no J J J J) J J (DR.s (Qt.no J J J J) J J ?_)))))))))));refine DR.s (Qt.no J J J J) J J (DR.s (Qt.no J J J J) J J (DR.s (Qt.no J J J J) J J (DR.s (Qt.no J J J J) J J (DR.s (Qt.no J J J J) J J (DR.s (Qt.no J J J J) J J (DR.s (Qt.no J J J J) J J (DR.s (Qn J J J J) J J (DR.stop (by kernel_rfl) (by kernel_rfl) (zz (Ql J ?_))))))))));refine Qh (Q1 (Q0 (Qc (z0 J (z7 J (by omega) (z1 J (zz ?_)))))))
   exact ⟨(b4.length - w.Scores.length) - (t + 1),by omega,(fun t : Nat => (⟨_,[(0,.o (.c (.ptr 0 0))),(4,I (els w.Scores).length),(13,.o (.c (.ref 5))),(15,I (i : Int)),(16,I (((els w.Scores).length + t : Nat) : Int))],[.box [.ref 1,jn (w.Tick + 1),jn (nextR sd),.ref 2,.ref 3],.row 1 (els w.Level.Rows),.row 1 (els s4),.row 9 (els b4),.gh 0 (.c (.ptr 0 0)),.row 1 (els (spotsM w.Level))]⟩ : St)) (t + 1),⟨t + 1,by omega,at_go hbb (fun h => k1 h.1) hp_C,J⟩,Xu [0,1,2,3,4,5] (by decide) J (by kernel_rfl) (.c J (.c J (.c J (.c J (.cons (Xo (by omega)) (.nil))))))⟩
  have p1 : decide (b.Kind = 2) = true := decide_eq_true k1
  by_cases k2 : b.X = x
  case neg =>
   have p2 : decide (b.X = x) = false := decide_eq_false k2
   refine Xh u8_15 u8_16 u8_17 J (DR.s (Qa J J J) J J (DR.s (Qz J J J) J J (DR.s (Qf J J J J (by decide)) J J (DR.s (Qg J J J J J) J J (DR.s (Qa J J J) J J (DR.s (Q3 J J J J J (by omega) (by omega)) J J (DR.s (Yy J J J J (by decide)) J J (DR.s (Q7 J J J J (by assumption) J) J J (DR.s (Qv J J J J (by assumption)) J J (DR.s (Qa J J J) J J (DR.s (Qt.yes J J J (Qa J J J)) J J ?_)))))))))));refine DR.s (Qt.yes J J J (Qz J J J)) J J (DR.s (Qt.yes J J J (Qf J J J J (by decide))) J J (DR.s (Qt.yes J J J (Qg J J J J J)) J J (DR.s (Qt.yes J J J (Qa J J J)) J J (DR.s (Qt.yes J J J (Q3 J J J J J (by omega) (by omega))) J J (DR.s (Qt.yes J J J (Yy J J J J (by decide))) J J (DR.s (Qt.yes J J J (Q7 J J J J (by assumption) J)) J J (DR.s (Qt.yes J J J (Qa J J J)) J J (DR.s (Qt.yes J J J (Qa J J J)) J J (DR.s (Qt.yes J J J (Q3 J J J J J (by omega) (by omega))) J J (DR.s (Qt.yes J J J (Q7 J J J J (by assumption) J)) J J (DR.s (Qt.yes J J J (Q2 J J J J (by omega) (by assumption) J)) J J ?_)))))))))));refine DR.s (Qt.yes J J J (Y6 J J J J)) J J (DR.s (Qt.yes J J J (Qv J J J J (by assumption))) J J (DR.s (Qo J J J J) J J (DR.s (Qa J J J) J J (DR.s (Qt.no J J J J) J J (DR.s (Qt.no J J J J) J J (DR.s (Qt.no J J J J) J J (DR.s (Qt.no J J J J) J J (DR.s (Qt.no J J J J) J J (DR.s (Qt.no J J J J) J J (DR.s (Qt.no J J J J) J J (DR.s (Qt.no J J J J) J J ?_)))))))))));refine DR.s (Qt.no J J J J) J J (DR.s (Qt.no J J J J) J J (DR.s (Qt.no J J J J) J J (DR.s (Qt.no J J J J) J J (DR.s (Qt.no J J J J) J J (DR.s (Qt.no J J J J) J J (DR.s (Qt.no J J J J) J J (DR.s (Qn J J J J) J J (DR.stop (by kernel_rfl) (by kernel_rfl) (zz (Ql J ?_))))))))));refine Qh (Q1 (Q0 (Qc (z0 J (z7 J (by omega) (z1 J (zz ?_)))))))
   exact ⟨(b4.length - w.Scores.length) - (t + 1),by omega,(fun t : Nat => (⟨_,[(0,.o (.c (.ptr 0 0))),(4,I (els w.Scores).length),(13,.o (.c (.ref 5))),(15,I (i : Int)),(16,I (((els w.Scores).length + t : Nat) : Int))],[.box [.ref 1,jn (w.Tick + 1),jn (nextR sd),.ref 2,.ref 3],.row 1 (els w.Level.Rows),.row 1 (els s4),.row 9 (els b4),.gh 0 (.c (.ptr 0 0)),.row 1 (els (spotsM w.Level))]⟩ : St)) (t + 1),⟨t + 1,by omega,at_go hbb (fun h => k2 h.2.1) hp_C,J⟩,Xu [0,1,2,3,4,5] (by decide) J (by kernel_rfl) (.c J (.c J (.c J (.c J (.cons (Xo (by omega)) (.nil))))))⟩
  have p2 : decide (b.X = x) = true := decide_eq_true k2
  by_cases k3 : b.Y = y
  case neg =>
   have p3 : decide (b.Y = y) = false := decide_eq_false k3
   refine Xh u8_15 u8_16 u8_17 J (DR.s (Qa J J J) J J (DR.s (Qz J J J) J J (DR.s (Qf J J J J (by decide)) J J (DR.s (Qg J J J J J) J J (DR.s (Qa J J J) J J (DR.s (Q3 J J J J J (by omega) (by omega)) J J (DR.s (Yy J J J J (by decide)) J J (DR.s (Q7 J J J J (by assumption) J) J J (DR.s (Qv J J J J (by assumption)) J J (DR.s (Qa J J J) J J (DR.s (Qt.yes J J J (Qa J J J)) J J ?_)))))))))));refine DR.s (Qt.yes J J J (Qz J J J)) J J (DR.s (Qt.yes J J J (Qf J J J J (by decide))) J J (DR.s (Qt.yes J J J (Qg J J J J J)) J J (DR.s (Qt.yes J J J (Qa J J J)) J J (DR.s (Qt.yes J J J (Q3 J J J J J (by omega) (by omega))) J J (DR.s (Qt.yes J J J (Yy J J J J (by decide))) J J (DR.s (Qt.yes J J J (Q7 J J J J (by assumption) J)) J J (DR.s (Qt.yes J J J (Qa J J J)) J J (DR.s (Qt.yes J J J (Qa J J J)) J J (DR.s (Qt.yes J J J (Q3 J J J J J (by omega) (by omega))) J J (DR.s (Qt.yes J J J (Q7 J J J J (by assumption) J)) J J (DR.s (Qt.yes J J J (Q2 J J J J (by omega) (by assumption) J)) J J ?_)))))))))));refine DR.s (Qt.yes J J J (Y6 J J J J)) J J (DR.s (Qt.yes J J J (Qv J J J J (by assumption))) J J (DR.s (Qo J J J J) J J (DR.s (Qa J J J) J J (DR.s (Qt.yes J J J (Qa J J J)) J J (DR.s (Qt.yes J J J (Qz J J J)) J J (DR.s (Qt.yes J J J (Qf J J J J (by decide))) J J (DR.s (Qt.yes J J J (Qg J J J J J)) J J (DR.s (Qt.yes J J J (Qa J J J)) J J (DR.s (Qt.yes J J J (Q3 J J J J J (by omega) (by omega))) J J (DR.s (Qt.yes J J J (Yy J J J J (by decide))) J J (DR.s (Qt.yes J J J (Q7 J J J J (by assumption) J)) J J ?_)))))))))));refine DR.s (Qt.yes J J J (Qa J J J)) J J (DR.s (Qt.yes J J J (Qa J J J)) J J (DR.s (Qt.yes J J J (Q3 J J J J J (by omega) (by omega))) J J (DR.s (Qt.yes J J J (Q7 J J J J (by assumption) J)) J J (DR.s (Qt.yes J J J (Q2 J J J J (by omega) (by assumption) J)) J J (DR.s (Qt.yes J J J (Y6 J J J J)) J J (DR.s (Qt.yes J J J (Qv J J J J (by assumption))) J J (DR.s (Qo J J J J) J J (DR.stop (by kernel_rfl) (by kernel_rfl) (zz (Ql J ?_))))))))));refine Qh (Q1 (Q0 (Qc (z0 J (z7 J (by omega) (z1 J (zz ?_)))))))
   exact ⟨(b4.length - w.Scores.length) - (t + 1),by omega,(fun t : Nat => (⟨_,[(0,.o (.c (.ptr 0 0))),(4,I (els w.Scores).length),(13,.o (.c (.ref 5))),(15,I (i : Int)),(16,I (((els w.Scores).length + t : Nat) : Int))],[.box [.ref 1,jn (w.Tick + 1),jn (nextR sd),.ref 2,.ref 3],.row 1 (els w.Level.Rows),.row 1 (els s4),.row 9 (els b4),.gh 0 (.c (.ptr 0 0)),.row 1 (els (spotsM w.Level))]⟩ : St)) (t + 1),⟨t + 1,by omega,at_go hbb (fun h => k3 h.2.2) hp_C,J⟩,Xu [0,1,2,3,4,5] (by decide) J (by kernel_rfl) (.c J (.c J (.c J (.c J (.cons (Xo (by omega)) (.nil))))))⟩
  have p3 : decide (b.Y = y) = true := decide_eq_true k3
  rw [last_2 q hxy (at_hit hbb ⟨k1,k2,k3⟩)]
  refine Xh u8_15 u8_16 u8_17 J (DR.s (Qa J J J) J J (DR.s (Qz J J J) J J (DR.s (Qf J J J J (by decide)) J J (DR.s (Qg J J J J J) J J (DR.s (Qa J J J) J J (DR.s (Q3 J J J J J (by omega) (by omega)) J J (DR.s (Yy J J J J (by decide)) J J (DR.s (Q7 J J J J (by assumption) J) J J (DR.s (Qv J J J J (by assumption)) J J (DR.s (Qa J J J) J J (DR.s (Qt.yes J J J (Qa J J J)) J J ?_)))))))))));refine DR.s (Qt.yes J J J (Qz J J J)) J J (DR.s (Qt.yes J J J (Qf J J J J (by decide))) J J (DR.s (Qt.yes J J J (Qg J J J J J)) J J (DR.s (Qt.yes J J J (Qa J J J)) J J (DR.s (Qt.yes J J J (Q3 J J J J J (by omega) (by omega))) J J (DR.s (Qt.yes J J J (Yy J J J J (by decide))) J J (DR.s (Qt.yes J J J (Q7 J J J J (by assumption) J)) J J (DR.s (Qt.yes J J J (Qa J J J)) J J (DR.s (Qt.yes J J J (Qa J J J)) J J (DR.s (Qt.yes J J J (Q3 J J J J J (by omega) (by omega))) J J (DR.s (Qt.yes J J J (Q7 J J J J (by assumption) J)) J J (DR.s (Qt.yes J J J (Q2 J J J J (by omega) (by assumption) J)) J J ?_)))))))))));refine DR.s (Qt.yes J J J (Y6 J J J J)) J J (DR.s (Qt.yes J J J (Qv J J J J (by assumption))) J J (DR.s (Qo J J J J) J J (DR.s (Qa J J J) J J (DR.s (Qt.yes J J J (Qa J J J)) J J (DR.s (Qt.yes J J J (Qz J J J)) J J (DR.s (Qt.yes J J J (Qf J J J J (by decide))) J J (DR.s (Qt.yes J J J (Qg J J J J J)) J J (DR.s (Qt.yes J J J (Qa J J J)) J J (DR.s (Qt.yes J J J (Q3 J J J J J (by omega) (by omega))) J J (DR.s (Qt.yes J J J (Yy J J J J (by decide))) J J (DR.s (Qt.yes J J J (Q7 J J J J (by assumption) J)) J J ?_)))))))))));refine DR.s (Qt.yes J J J (Qa J J J)) J J (DR.s (Qt.yes J J J (Qa J J J)) J J (DR.s (Qt.yes J J J (Q3 J J J J J (by omega) (by omega))) J J (DR.s (Qt.yes J J J (Q7 J J J J (by assumption) J)) J J (DR.s (Qt.yes J J J (Q2 J J J J (by omega) (by assumption) J)) J J (DR.s (Qt.yes J J J (Y6 J J J J)) J J (DR.s (Qt.yes J J J (Qv J J J J (by assumption))) J J (DR.s (Qo J J J J) J J (DR.stop (by kernel_rfl) (by kernel_rfl) (zz (Qm J ?_))))))))));refine Xa (B_r (T_r (T_r (B_r (T_r (F_r ?_))))))
  exact E_none J (Xs [0,1,2,3,4] (by decide) J J J)
 ·have hb0 : decide ((((els w.Scores).length + t : Nat) : Int) < (els b4).length) = false := decide_eq_false (by omega)
  have hk : w.Scores.length + t = b4.length := by omega
  rw [hk,List.take_length] at hp_C
  rw [last_3 q hxy hp_C]
  refine Qd (zy (z0 J (z0 J (zx (Qz J J J) J (z2 J J J (z3 J (zx (Y3 J J J J) J (z9a J (by assumption) (zz ?_)))))))));refine Ql J (Q9 (T_x (T_x (Xj (Q0 (Xh [[],[],[1],[1,2],[1,2,3],[],[],[5,6],[5,6,7],[5,6,7,8],[5,6,7,8,9],[],[],[11,12],[11,12,13],[11,12,13,14],[11,12,13,14,15],[5,6,7,8,9,10,11,12,13,14,15,16],[5,6,7,8,9,10,11,12,13,14,15,16,17],[1,2,3,4,5,6,7,8,9,10,11,12,13,14,15,16,17,18],(u9 20),(u9 21),(u9 22)] [[],[],[287],[287,288],[287,288,289],[],[],[291,292],[291,292,293],[291,292,293,294],[291,292,293,294,295],[],[],[297,298],[297,298,299],[297,298,299,300],[297,298,299,300,301],[291,292,293,294,295,296,297,298,299,300,301,302],[291,292,293,294,295,296,297,298,299,300,301,302,303],[287,288,289,290,291,292,293,294,295,296,297,298,299,300,301,302,303,304],[286,287,288,289,290,291,292,293,294,295,296,297,298,299,300,301,302,303,304,305],[286,287,288,289,290,291,292,293,294,295,296,297,298,299,300,301,302,303,304,305,306],[286,287,288,289,290,291,292,293,294,295,296,297,298,299,300,301,302,303,304,305,306,307]] [[287,288,289,290,291,292,293,294,295,296,297,298,299,300,301,302,303,304,305],[286,291,292,293,294,295,296,297,298,299,300,301,302,303,304],[286,291,292,293,294,295,296,297,298,299,300,301,302,303,304],[286,291,292,293,294,295,296,297,298,299,300,301,302,303,304],[286,291,292,293,294,295,296,297,298,299,300,301,302,303,304],[286,287,288,289,290,292,297,298,299,300,301,302],[286,287,288,289,290,291,297,298,299,300,301,302],[286,287,288,289,290,297,298,299,300,301,302],[286,287,288,289,290,297,298,299,300,301,302],[286,287,288,289,290,297,298,299,300,301,302],[286,287,288,289,290,297,298,299,300,301,302],[286,287,288,289,290,291,292,293,294,295,296,298],[286,287,288,289,290,291,292,293,294,295,296,297],[286,287,288,289,290,291,292,293,294,295,296],[286,287,288,289,290,291,292,293,294,295,296],[286,287,288,289,290,291,292,293,294,295,296],[286,287,288,289,290,291,292,293,294,295,296],[286,287,288,289,290],[286,287,288,289,290],[286],[],[],[],[0]] J (DR.s (Qa J J J) J J (DR.s (Qa J J J) J J (DR.s (Qz J J J) J J (DR.s (Qf J J J J (by decide)) J J (DR.s (Qg J J J J J) J J ?_)))))))))));refine DR.s (Qa J J J) J J (DR.s (Qa J J J) J J (DR.s (Q3 J J J J J (by omega) (by omega)) J J (DR.s (Q7 J J J J (by assumption) J) J J (DR.s (Q2 J J J J (by omega) (by assumption) J) J J (DR.s (Y6 J J J J) J J (DR.s (Qa J J J) J J (DR.s (Qa J J J) J J (DR.s (Q3 J J J J J (by omega) (by omega)) J J (DR.s (Q7 J J J J (by assumption) J) J J (DR.s (Q2 J J J J (by omega) (by assumption) J) J J (DR.s (Y6 J J J J) J J ?_)))))))))));refine DR.s (q_build J J J J J) J J (DR.s (Yt J J J J J J) J J (DR.stop (by kernel_rfl) (by kernel_rfl) ?_));refine AL.weak (st' := (⟨_,[(286,.o (.c (.ptr 0 0))),(290,.o (.c (.ref 3))),(304,.o (.c (.sb 5 1 9)))],[.box [.ref 1,jn (w.Tick + 1),jn (nextR sd),.ref 2,.ref 3],.row 1 (els w.Level.Rows),.row 1 (els s4),.row 9 (els b4),.gh 0 (.c (.ptr 0 0)),.box ((Enc.e (itemB x y)).map (V1.rd []))]⟩ : St)) (Xt [0,1,2,3,4,6] (by kernel_rfl)) ?_;refine M_appo J J J J J J J J J J J J J J (by omega) (by omega) ?_;refine zx (Qz J J J) J (z2 J J J ?_);refine Q5 J J J J J J J J (Qe (F_n ?_))
  exact E_none J (Xs [0,1,2,3,4] (by decide) J (by exact rwBo (by rw [X5]; rfl)) J)
end
section
open Go.RowKit

theorem S_StepWorld (w : TWorld) (row : List Int) (hg : Enc.gd w) (gr : Enc.gd row) (h1 : w.Level.Rows.length ≤ 1048576) (h2 : w.Scores.length ≤ 1048576) (h3 : w.Bodies.length ≤ 1048576) : Con Tryd.prog 68 [] [ag w,al row] [.row 1 (els w.Level.Rows),.row 1 (els (stepW w row).Scores),.row 9 (els (stepW w row).Bodies)] (.o (.ag [.ref 0,jn (stepW w row).Tick,jn (stepW w row).Seed,.ref 1,.ref 2])) := by
 have hls := X7 w.Scores
 have hlb := X7 w.Bodies
 have c1 := S_copyWorld w hg h1 h2 h3
 have c2 := S_WorldOk w hg
 have c3 := S_rowOk row ((els w.Scores).length : Int) gr
 rw [show rowOk row ((els w.Scores).length : Int) = rowOk row (w.Scores.length : Int) by rw [hls]] at c3
 cases ho : worldOk w with
 | false =>
  rw [step_F (fun q => by rw [ho] at q; cases q.1)]
  rw [ho] at c2
  refine Con.of Tryd.func68 J Tryd.ntmps68 J (fun E => ?_)
  refine zy (M1 (Qq J J J J) J J (M1 (Qx J J J) J J (zz (zy (z4 J J J ?_)))));refine M1 (Yv J J (c1) J J J) J J ?_;refine M1 (Qx J J J) J J ?_;refine Qy J J J J J J J J J (zz (Qd (zy (z4 J J J ?_))));refine zx (Qj J J (c2) J) J ?_;refine zn J (z0 J (z6 J (z6 J (z6 J (zpT J (z0 J (z6 J (z6 J (z6 J (z6 J (z6 J ?_)))))))))));refine z6 J (zpT J (zz (Qm J (zy (z4 J J J ?_)))));refine Qy J J J J J J J J J (zz (Xa (T_r (F_r ?_))))
  exact E_cell J J J J (Xs [2,3,4] (by decide) J J J)
 | true =>
 rw [ho] at c2
 by_cases ht : w.Tick = 100000
 ·have f1 : decide (w.Tick = 100000) = true := decide_eq_true ht
  rw [step_F (fun q => q.2.1 ht)]
  refine Con.of Tryd.func68 J Tryd.ntmps68 J (fun E => ?_)
  refine zy (M1 (Qq J J J J) J J (M1 (Qx J J J) J J (zz (zy (z4 J J J ?_)))));refine M1 (Yv J J (c1) J J J) J J ?_;refine M1 (Qx J J J) J J ?_;refine Qy J J J J J J J J J (zz (Qd (zy (z4 J J J ?_))));refine zx (Qj J J (c2) J) J ?_;refine zn J (z0 J (z5 J (z2 J J J (z5 J (z3 J (z5 J (z9e J (by assumption) (zpF J (z0 J (z6 J (z6 J ?_)))))))))));refine z6 J (z6 J (z6 J (z6 J (zpT J (zz (Qm J (zy (z4 J J J ?_))))))));refine Qy J J J J J J J J J (zz (Xa (T_r (F_r ?_))))
  exact E_cell J J J J (Xs [2,3,4] (by decide) J J J)
 have f1 : decide (w.Tick = 100000) = false := decide_eq_false ht
 cases hr : rowOk row (w.Scores.length : Int) with
 | false =>
  rw [step_F (fun q => by rw [hr] at q; cases q.2.2)]
  rw [hr] at c3
  refine Con.of Tryd.func68 J Tryd.ntmps68 J (fun E => ?_)
  refine zy (M1 (Qq J J J J) J J (M1 (Qx J J J) J J (zz (zy (z4 J J J ?_)))));refine M1 (Yv J J (c1) J J J) J J ?_;refine M1 (Qx J J J) J J ?_;refine Qy J J J J J J J J J (zz (Qd (zy (z4 J J J ?_))));refine zx (Qj J J (c2) J) J ?_;refine zn J (z0 J (z5 J (z2 J J J (z5 J (z3 J (z5 J (z9e J (by assumption) (zpF J (z0 J (z5 J (z0 J ?_)))))))))));refine z5 J (z2 J J J (z5 J (z3 J (z5 J (zx (Y2 J J J) J (z5 J ?_))))));refine zx (Qj J J (c3) J) J ?_;refine z5 J (zn J (zpF J (zz (Qm J (zy (z4 J J J ?_))))));refine Qy J J J J J J J J J (zz (Xa (T_r (F_r ?_))))
  exact E_cell J J J J (Xs [2,3,4] (by decide) J J J)
 | true =>
 rw [hr] at c3
 rw [step_T ⟨ho,ht,hr⟩]
 have d1 := S_l02Step w row hg ho ht hr
 refine Con.of Tryd.func68 J Tryd.ntmps68 J (fun E => ?_)
 refine zy (M1 (Qq J J J J) J J (M1 (Qx J J J) J J (zz (zy (z4 J J J ?_)))));refine M1 (Yv J J (c1) J J J) J J ?_;refine M1 (Qx J J J) J J ?_;refine Qy J J J J J J J J J (zz (Qd (zy (z4 J J J ?_))));refine zx (Qj J J (c2) J) J ?_;refine zn J (z0 J (z5 J (z2 J J J (z5 J (z3 J (z5 J (z9e J (by assumption) (zpF J (z0 J (z5 J (z0 J ?_)))))))))));refine z5 J (z2 J J J (z5 J (z3 J (z5 J (zx (Y2 J J J) J (z5 J ?_))))));refine zx (Qj J J (c3) J) J ?_;refine z5 J (zn J (zpF J (zz (Ql J (Qh (Q0 (zy (z0 J ?_))))))));refine AL.weak (st' := (⟨_,[(4,.o (.c (.ptr 4 0))),(5,.o (.c (.ptr 0 0))),(25,L row)],[.box [.ref 1,jn w.Tick,jn w.Seed,.ref 2,.ref 3],.row 1 (els w.Level.Rows),.row 1 (els w.Scores),.row 9 (els w.Bodies),.box [nilV,jn 0,jn 0,nilV,nilV]]⟩ : St)) (Xt [5,2,3,4,1] (by kernel_rfl)) ?_
 clear c1 c2 c3 f1
 refine Xq (lo := [_,_,_,_]) (gs := [(0,.c (.ptr 0 0))]) (lo' := [_,_,_,_]) (new := []) [0,1,2,3] [(0,0,.ptr 0 0)] (d1) J J J J J J J J J J J J J J J J J ?_;refine zz (zy (z4 J J J ?_));refine Qy J J J J J J J J J (zz (Xa (F_r ?_)))
 exact E_cell J J J J (Xs [1,2,3] (by decide) J J J)
end
section
open Go.RowKit

structure RepIn (y : TReplay) : Prop where
 gd : Enc.gd y
 h1 : y.Level.Rows.length ≤ 1048576
 h2 : y.Keys.length ≤ 1048576
 h3 : y.Rows.length ≤ 1048576
 h4 : tot y.Rows ≤ 1048576
structure WorIn (w : TWorld) : Prop where
 gd : Enc.gd w
 h1 : w.Level.Rows.length ≤ 1048576
 h2 : w.Scores.length ≤ 1048576
 h3 : w.Bodies.length ≤ 1048576
end
section
open Go.RowKit

noncomputable def runM (w : TWorld) (rows : List (List Int)) : TWorld := rows.foldl stepW w
theorem step_in {w : TWorld} {row : List Int} (h : WorIn w) : WorIn (stepW w row) := by
 have h1 := stepW_fits (row := row) h.gd
 exact ⟨h1.1,by rw [stepW_level]; exact h.h1,by rw [h1.2.1]; exact h.h2,by have := h.h3; omega⟩
theorem ran_in : ∀ (rows : List (List Int)) {w : TWorld},WorIn w → WorIn (runM w rows)
 | [],_,h => h
 | r :: rs,w,h => ran_in rs (w := stepW w r) (step_in h)
theorem runM_next {w x : TWorld} {rows : List (List Int)} {k : Nat} {r : List Int} (hr : rows[k]? = some r) (h : x = runM w (rows.take k)) : stepW x r = runM w (rows.take (k + 1)) := by
 obtain ⟨hk,rfl⟩ := List.getElem?_eq_some_iff.1 hr
 rw [List.take_succ_eq_append_getElem hk,h]
 unfold runM
 rw [List.foldl_append]
 rfl
theorem S_RunWorld (w : TWorld) (rows : List (List Int)) (iw : WorIn w) (gr : Enc.gd rows) : Con Tryd.prog 26 [] [ag w,al rows] [.row 1 (els (runM w rows).Level.Rows),.row 1 (els (runM w rows).Scores),.row 9 (els (runM w rows).Bodies)] (.o (.ag [.ref 0,jn (runM w rows).Tick,jn (runM w rows).Seed,.ref 1,.ref 2])) := by
 have c1 := S_copyWorld w iw.gd iw.h1 iw.h2 iw.h3
 have hlr := X7 rows
 have hlg := gr.1
 refine Con.of Tryd.func26 J Tryd.ntmps26 J (fun E => ?_)
 refine zy (M1 (Qq J J J J) J J (M1 (Qx J J J) J J (zz (zy (z4 J J J ?_)))));refine M1 (Yv J J (c1) J J J) J J ?_;refine M1 (Qx J J J) J J ?_;refine Qy J J J J J J J J J (zz (Qd (zy (z1 J (zz (Qk ?_))))))
 refine AWP.pre (st' := (⟨_,[(4,.o (.c (.ptr 4 0))),(5,.o (.c (.ptr 0 0))),(1,L rows),(6,I 0)],[.box [.ref 1,jn w.Tick,jn w.Seed,.ref 2,.ref 3],.row 1 (els w.Level.Rows),.row 1 (els w.Scores),.row 9 (els w.Bodies),.box [nilV,jn 0,jn 0,nilV,nilV]]⟩ : St)) ?_ (Xt [5,2,3,4,1] (by kernel_rfl))
 clear c1
 refine Xi (fun m st => ∃ (k : Nat) (x : TWorld),k + m = rows.length ∧ (x = runM w (rows.take k)) ∧ st = (⟨_,[(4,.o (.c (.ptr 4 0))),(5,.o (.c (.ptr 0 0))),(1,L rows),(6,I k)],[.box [.ref 1,jn x.Tick,jn x.Seed,.ref 2,.ref 3],.row 1 (els x.Level.Rows),.row 1 (els x.Scores),.row 9 (els x.Bodies),.box [nilV,jn 0,jn 0,nilV,nilV]]⟩ : St)) (rows.length) ⟨_,⟨0,w,by omega,J,J⟩,Xt [0,1,2,3,4] (by kernel_rfl)⟩ ?_
 rintro m_A _ ⟨k,x,hk_A,hp_A,rfl⟩
 have ix : WorIn x := by rw [hp_A]; exact ran_in _ iw
 by_cases hlt : k < rows.length
 ·have hb0 : decide ((k : Int) < (els rows).length) = true := decide_eq_true (by omega)
  obtain ⟨r,hr⟩ := Zi hlt
  have her := els_sm hr
  have cs := S_StepWorld x r ix.gd (gr.2 r (List.mem_of_getElem? hr)) ix.h1 ix.h2 ix.h3
  have hnx := runM_next hr hp_A
  have hlv := stepW_level x r
  generalize stepW x r = z at cs hnx hlv
  rw [← hlv] at cs
  refine Qd (zy (z0 J (z0 J (zx (Y2 J J J) J (z9a J (by assumption) (zz (Qm J (Qh (Q0 ?_)))))))));refine Qd (Qk (Xh [[],[],[],[1,2],[1,2,3],(u9 5),(u9 6)] [[],[],[],[16,17],[16,17,18],[15,16,17,18,19],[15,16,17,18,19,20]] [[16,17,18,19],[15,17],[15,16],[15],[15],[],[]] J (DR.s (Qu J J J J J J) J J (DR.s (Qa J J J) J J (DR.s (Qa J J J) J J (DR.s (Q2 J J J J (by omega) (by assumption) J) J J (DR.s (Y6 J J J J) J J ?_)))))));refine DR.s (Yv J J (cs) J J J) J J ?_;refine DR.stop (by kernel_rfl) (by kernel_rfl) ?_;refine Qy J J J J J J J J J (Qe (Q1 (Q0 (Qc (z0 J (z7 J (by omega) (z1 J (zz ?_))))))))
  exact ⟨rows.length - (k + 1),by omega,_,⟨k + 1,z,by omega,hnx,J⟩,Xt [0,5,6,7,4] (by kernel_rfl)⟩
 have hb0 : decide ((k : Int) < (els rows).length) = false := decide_eq_false (by omega)
 have hk : k = rows.length := by omega
 rw [hk,List.take_length] at hp_A
 rw [← hp_A]
 refine Qd (zy (z0 J (z0 J (zx (Y2 J J J) J (z9a J (by assumption) (zz (Ql J (Q9 (T_x ?_)))))))));refine T_x (Xj (Q0 (zy (z4 J J J ?_))));refine Qy J J J J J J J J J (zz (Xa (F_r ?_)))
 exact E_cell J J J J (Xs [1,2,3] (by decide) J J J)
end
end Go.Proofs.YtcjclaoogdblbaaDoor
