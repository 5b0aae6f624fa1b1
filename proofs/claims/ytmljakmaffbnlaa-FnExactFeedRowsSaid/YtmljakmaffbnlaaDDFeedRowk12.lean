/-
  The tick of the reference.
  Conditions: a valid world and row.
  StepWorld of the reference.
  Conditions: lists of at most 2^20 elements.
  How great replays and worlds are that a law has copied. No statement of the program is proved here.
  Conditions: none.
  RunWorld, in the program and in the reference.
  Conditions: lists of at most 2^20 elements.
  FeedRows, in the program and in the reference.
  Conditions: lists of at most 2^20 elements.
  Marks of worlds and spectators. No statement of the program is proved here.
  Conditions: lists of at most 2^20 elements.
  The law FnExactFeedRows returns true.
  Conditions: none.
  The kit's readings of the laws' structs as Lean data. No statement of the program is proved here.
  Conditions: none.
  The kit's readings of the laws' bodies and worlds as Lean data. No statement of the program is proved here.
  Conditions: none.
  The kit's readings of the laws' spectators as Lean data. No statement of the program is proved here.
  Conditions: none.
-/
import Derived.Test.YtmljakmaffbnlaaDDFeedRowk8
import Derived.Test.YtmljakmaffbnlaaDDFeedRowk10
import Derived.Test.YtmljakmaffbnlaaDDFeedRowk11
section
set_option linter.unusedSimpArgs false
set_option linter.unusedVariables false
set_option maxRecDepth 8000
namespace Go.Proofs.Ytmljakmaffbnlaa
open Go.RowKit

theorem mv_two {l : TLevel} {b : TBody} (h : b.Kind = 2) : mvOne l b = some b := by rw [mvOne,if_neg (by omega),if_neg (by omega)]
theorem mv_dead {l : TLevel} {b : TBody} (h : b.Kind = 0) (h1 : b.Life = 0) : mvOne l b = some b := by rw [mvOne,if_neg (by omega),if_neg (by omega)]
theorem at_pl {l : TLevel} {n : Nat} {bs : List TBody} (h : LM l n bs) (x y : Int) : itemAt (bs.take n) x y = false := by
  rw [itemAt,List.any_eq_false]
  intro b hb
  obtain ⟨j,hj⟩ := List.getElem?_of_mem hb
  rw [List.getElem?_take] at hj
  split at hj
  · have := (h.at_ j b hj).2.2 (by assumption)
    simp only [isItem,decide_eq_true_eq]
    omega
  · cases hj
set_option maxHeartbeats 8000000 in
theorem S_l02Step (w : TWorld) (row : List Int) (hg : Enc.gd w) (ho : worldOk w = true) (ht : w.Tick ≠ 100000) (hr : rowOk row w.Scores.length = true) : Con Try.prog 107 [.box [.ref 1,jn w.Tick,jn w.Seed,.ref 2,.ref 3],.row 1 (els w.Level.Rows),.row 1 (els w.Scores),.row 9 (els w.Bodies),.gh 0 (.c (.ptr 0 0))] [.c (.ptr 0 0),al row] [.box [.ref 1,jn (tickM w row).Tick,jn (tickM w row).Seed,.ref 2,.ref 3],.row 1 (els w.Level.Rows),.row 1 (els (tickM w row).Scores),.row 9 (els (tickM w row).Bodies),.gh 0 (.c (.ptr 0 0))] (.tu []) := by
  have hP := PH.of hg ho hr
  have hsr := scores_rng ho
  have hM := hits_lm hP.mv rfl hsr
  obtain ⟨hl,htk,hsd,hn,_,_,_⟩ := worldOk_spec ho
  have htk := inR_iff.1 htk
  have hsd := inR_iff.1 hsd
  have d1 := S_l02Hits ⟨w.Level,w.Tick,w.Seed,w.Scores,movedM w row⟩ hg.1 hl hn hP.mv hsr
  simp only at d1
  obtain ⟨s4,hs4⟩ : ∃ s4,s4 = (hitsR w.Scores.length (movedM w row) w.Scores).2 := ⟨_,rfl⟩
  obtain ⟨b4,hb4⟩ : ∃ b4,b4 = (hitsR w.Scores.length (movedM w row) w.Scores).1 := ⟨_,rfl⟩
  rw [← hs4,← hb4] at d1 hM
  rw [tickM,← hs4,← hb4]
  obtain ⟨hM1,hM2,hM3⟩ := hM
  have e1 := S_NextRandom w.Seed ⟨by omega,by omega⟩
  have e2 := S_SpotsOf w.Level hg.1 hl
  have hlb4 := els_len b4
  have hbl := hM1.len
  have hlsp := els_len (spotsM w.Level)
  have hsl2 := spots_len hl
  have hnr := nextR_rng w.Seed
  clear hs4 hb4 ho
  have hPP := hP
  obtain ⟨hgl,gb,_,hn4,hlen,hbo,hrl,hri⟩ := hP
  have hls := els_len w.Scores
  have hlr := els_len row
  refine Con.of Try.func107 rfl Try.ntmps107 rfl (fun E => ?_)
  refine Qd (Qc ?_);refine M0 (Qa J J J) J J ?_;refine M0 (Qz J J J) J J ?_;refine M0 (Qf J J J J (by decide)) J J ?_
  refine M0 (Qg J J J J J) J J ?_;refine M0 (q_lenr J J J J) J J ?_;refine M0 (Qb J J J) J J ?_;refine Qe (Q0 (Qd ?_))
  refine Qd (Qc ?_);refine M0 (Qb J J J) J J ?_;refine Qe (Q0 (Qk ?_))
  refine A_loop (fun m st => ∃ (k : Nat) (bs : List TBody),k + m = w.Scores.length ∧ (bs = plM w.Level row w.Bodies k) ∧ st = (fun (k : Nat) (bs : List TBody) => (⟨_,[(0,.o (.c (.ptr 0 0))),(1,L row),(4,I (els w.Scores).length),(5,I k)],[.box [.ref 1,jn w.Tick,jn w.Seed,.ref 2,.ref 3],.row 1 (els w.Level.Rows),.row 1 (els w.Scores),.row 9 (els bs),.gh 0 (.c (.ptr 0 0))]⟩ : St)) k bs) (w.Scores.length) ⟨(fun (k : Nat) (bs : List TBody) => (⟨_,[(0,.o (.c (.ptr 0 0))),(1,L row),(4,I (els w.Scores).length),(5,I k)],[.box [.ref 1,jn w.Tick,jn w.Seed,.ref 2,.ref 3],.row 1 (els w.Level.Rows),.row 1 (els w.Scores),.row 9 (els bs),.gh 0 (.c (.ptr 0 0))]⟩ : St)) 0 (w.Bodies),W_go [0,1,2,3,4] (by decide) rfl (rfl) (.cons rfl (.cons rfl (.cons rfl (.cons rfl (.nil))))),0,w.Bodies,by omega,rfl,rfl⟩ ?_
  rintro m_A _ ⟨k,bs,hk_A,hp_A,rfl⟩
  by_cases hlt : k < w.Scores.length
  · have hb0 : decide ((k : Int) < (els w.Scores).length) = true := decide_eq_true (by omega)
    have hP := P1.all hl hn4.2 hlen hbo row k (by omega)
    rw [← hp_A] at hP
    have hln := hP.lm.len
    obtain ⟨b,hb⟩ := some_sm (xs := bs) (i := k) (by omega)
    have hold := hP.old k (Nat.le_refl _) hlt
    have hI := old_at hbo (by rw [← hold]; exact hb) hlt
    have hB := (hP.lm.at_ k b hb).1
    obtain ⟨hpl,hpx,hpy⟩ := hB.placed hl
    obtain ⟨i,hi⟩ := some_sm (xs := row) (i := k) (by omega)
    have hir := hri i (List.mem_of_getElem? hi)
    have hnx := pl_next hp_A hb hi
    have he := els_sm hb
    have her := els_sm hi
    have hlb := els_len bs
    have htm := hI.tm
    have hkl := getE_lt hb
    clear d1 e1 e2
    by_cases hf : b.Life = 0
    · have f1 : decide (b.Life = 0) = true := decide_eq_true hf
      rw [plOne,if_pos hf] at hnx
      refine Qd (Qd (Qc ?_));refine M0 (Qa J J J) J J ?_;refine M0 (Qa J J J) J J ?_
      refine M0 (Qr J J J J (by assumption)) J J ?_;refine Qe (Q0 ?_);refine Qm rfl ?_;refine Qh (Q0 (Qd (Qk ?_)))
      refine Qd (Qd (Qc ?_));refine M0 (Qa J J J) J J ?_;refine M0 (Qz J J J) J J ?_
      refine M0 (Qf J J J J (by decide)) J J ?_;refine M0 (Qg J J J J J) J J ?_;refine M0 (Qa J J J) J J ?_
      refine M0 (Q3 J J J J J (by omega) (by omega)) J J ?_;refine M0 (q_flde J J J J (by decide)) J J ?_
      refine M0 (Q7 J J J J (by assumption) rfl) J J ?_;refine M0 (Qv J J J J (by assumption)) J J ?_;refine Qe (Q0 ?_);refine Qm rfl ?_
      refine Qd (Qc ?_);refine M0 (Qa J J J) J J ?_;refine M0 (Qz J J J) J J ?_;refine M0 (Qf J J J J (by decide)) J J ?_
      refine M0 (Qg J J J J J) J J ?_;refine M0 (Qa J J J) J J ?_;refine M0 (Q3 J J J J J (by omega) (by omega)) J J ?_
      refine M0 (q_flde J J J J (by decide)) J J ?_;refine M0 (Q7 J J J J (by assumption) rfl) J J ?_;refine M0 (Xc J J J J (by omega)) J J ?_
      refine M0 (Q3 J J J J J (by omega) (by omega)) J J ?_;refine M0 (q_flde J J J J (by decide)) J J ?_
      refine Xh J J J J J J J J J (by assumption) J J ?_;refine Qe (Q0 (Qd (Qd (Qc ?_))))
      refine M0 (Qa J J J) J J ?_;refine M0 (Qz J J J) J J ?_;refine M0 (Qf J J J J (by decide)) J J ?_
      refine M0 (Qg J J J J J) J J ?_;refine M0 (Qa J J J) J J ?_
      refine AL.weak (st' := (⟨_,[(0,.o (.c (.ptr 0 0))),(1,L row),(4,I (els w.Scores).length),(5,I k),(50,.o (.c (.ref 3))),(51,I k)],[.box [.ref 1,jn w.Tick,jn w.Seed,.ref 2,.ref 3],.row 1 (els w.Level.Rows),.row 1 (els w.Scores),.row 9 (els (bs.set k (tick1 b))),.gh 0 (.c (.ptr 0 0))]⟩ : St)) (W_go [0,1,2,3,4] (by decide) rfl ((by exact rwBo (st_el0 rfl))) (.cons rfl (.cons rfl (.cons rfl (.cons rfl (.cons rfl (.cons rfl (.nil)))))))) ?_
      clear he
      have he : (els (bs.set k (tick1 b)))[(k : Int).toNat]? = some (Enc.e (tick1 b)) := els_sm (by rw [List.getElem?_set_self hkl])
      have hlb2 : (els (bs.set k (tick1 b))).length = bs.length := by rw [els_len,List.length_set]
      by_cases ht : b.Timer - 1 = 0
      · have f2 : decide (b.Timer - 1 = 0) = true := decide_eq_true ht
        rw [if_pos ht] at hnx
        have cf := S_fresh w.Level k hg.1 hl ⟨by omega,by omega⟩
        refine M0 (Q3 J J J J J (by omega) (by omega)) J J ?_;refine M0 (q_flde J J J J (by decide)) J J ?_
        refine M0 (Q7 J J J J (by assumption) rfl) J J ?_;refine M0 (Qv J J J J (by assumption)) J J ?_;refine Qe (Q0 ?_);refine Qm rfl ?_
        refine AWP.pre (st' := (⟨_,[(0,.o (.c (.ptr 0 0))),(1,L row),(4,I (els w.Scores).length),(5,I k)],[.box [.ref 1,jn w.Tick,jn w.Seed,.ref 2,.ref 3],.row 1 (els w.Level.Rows),.row 1 (els w.Scores),.row 9 (els (bs.set k (tick1 b))),.gh 0 (.c (.ptr 0 0))]⟩ : St)) ?_ (W_go [0,1,2,3,4] (by decide) rfl (rfl) (.cons rfl (.cons rfl (.cons rfl (.cons rfl (.nil))))))
        refine A_draw [[],[0],[0,1],[0,1,2],[],[],[5],[5,6],[5,6,7],[],[5,6,7,8,9],[0,1,2,3,4,5,6,7,8,9,10],[0,1,2,3,4,5,6,7,8,9,10,11]] [[],[56],[56,57],[56,57,58],[],[],[61],[61,62],[61,62,63],[],[61,62,63,64,65],[56,57,58,59,60,61,62,63,64,65,66],[56,57,58,59,60,61,62,63,64,65,66,67]] [[60,61,62,63,64,65,66],[60,61,62,63,64,65,66],[60,61,62,63,64,65,66],[60,61,62,63,64,65,66],[56,57,58,59,61,62,63,64,65,66],[56,57,58,59,60,65],[56,57,58,59,60,65],[56,57,58,59,60,65],[56,57,58,59,60,65],[56,57,58,59,60,61,62,63,64],[56,57,58,59,60],[],[]] rfl ?_
        refine DR.step (Qa J J J) J J ?_;refine DR.step (Qz J J J) J J ?_;refine DR.step (Qf J J J J (by decide)) J J ?_
        refine DR.step (Qg J J J J J) J J ?_;refine DR.step (Qa J J J) J J ?_;refine DR.step (Qa J J J) J J ?_
        refine DR.step (Qz J J J) J J ?_;refine DR.step (Qf J J J J (by decide)) J J ?_;refine DR.step (Qu J J J J J J) J J ?_
        refine DR.step (Qa J J J) J J ?_;refine DR.step (q_call J J (cf) J J J) J J ?_;refine DR.step (Q3 J J J J J (by omega) (by omega)) J J ?_
        refine DR.stop (by kernel_rfl) (by kernel_rfl) ?_
        refine AL.weak (st' := (⟨_,[(0,.o (.c (.ptr 0 0))),(1,L row),(4,I (els w.Scores).length),(5,I k),(66,.o (.ag ((Enc.e (fresh w.Level k)).map (V1.rd [])))),(67,.o (.c (.el 3 9 k 0)))],[.box [.ref 1,jn w.Tick,jn w.Seed,.ref 2,.ref 3],.row 1 (els w.Level.Rows),.row 1 (els w.Scores),.row 9 (els (bs.set k (tick1 b))),.gh 0 (.c (.ptr 0 0))]⟩ : St)) (W_go [0,1,2,3,4] (by decide) rfl (rfl) (.cons rfl (.cons rfl (.cons rfl (.cons rfl (.cons rfl (.cons rfl (.nil)))))))) ?_
        refine Xg J J J J J J J J J J (by assumption) J J ?_;refine Qe (Q0 (Q9 (T_x (B_xs (Q0 ?_)))))
        refine Qc ?_;refine M0 (Qa J J J) J J ?_;refine M0 (Qs J J J J (by omega)) J J ?_;refine M0 (Qb J J J) J J ?_;refine Qe ?_
        refine Q0 ?_
        exact ⟨w.Scores.length - (k + 1),by omega,(fun (k : Nat) (bs : List TBody) => (⟨_,[(0,.o (.c (.ptr 0 0))),(1,L row),(4,I (els w.Scores).length),(5,I k)],[.box [.ref 1,jn w.Tick,jn w.Seed,.ref 2,.ref 3],.row 1 (els w.Level.Rows),.row 1 (els w.Scores),.row 9 (els bs),.gh 0 (.c (.ptr 0 0))]⟩ : St)) (k + 1) (bs.set k (fresh w.Level k)),W_go [0,1,2,3,4] (by decide) rfl ((by exact rwBo (st_el rfl))) (.cons rfl (.cons rfl (.cons rfl (.cons rfl (.nil))))),k + 1,bs.set k (fresh w.Level k),by omega,hnx.symm,rfl⟩
      · have f2 : decide (b.Timer - 1 = 0) = false := decide_eq_false ht
        rw [if_neg ht] at hnx
        refine M0 (Q3 J J J J J (by omega) (by omega)) J J ?_;refine M0 (q_flde J J J J (by decide)) J J ?_
        refine M0 (Q7 J J J J (by assumption) rfl) J J ?_;refine M0 (Qv J J J J (by assumption)) J J ?_;refine Qe (Q0 ?_);refine Ql rfl ?_
        refine Qh (Q0 (Q9 (T_x (B_xs (Q0 (Qc ?_))))));refine M0 (Qa J J J) J J ?_
        refine M0 (Qs J J J J (by omega)) J J ?_;refine M0 (Qb J J J) J J ?_;refine Qe (Q0 ?_)
        exact ⟨w.Scores.length - (k + 1),by omega,(fun (k : Nat) (bs : List TBody) => (⟨_,[(0,.o (.c (.ptr 0 0))),(1,L row),(4,I (els w.Scores).length),(5,I k)],[.box [.ref 1,jn w.Tick,jn w.Seed,.ref 2,.ref 3],.row 1 (els w.Level.Rows),.row 1 (els w.Scores),.row 9 (els bs),.gh 0 (.c (.ptr 0 0))]⟩ : St)) (k + 1) (bs.set k (tick1 b)),W_go [0,1,2,3,4] (by decide) rfl (rfl) (.cons rfl (.cons rfl (.cons rfl (.cons rfl (.nil))))),k + 1,bs.set k (tick1 b),by omega,hnx.symm,rfl⟩
    · have f1 : decide (b.Life = 0) = false := decide_eq_false hf
      rw [plOne,if_neg hf] at hnx
      have hfl := hB.f
      obtain ⟨c,f,hcf⟩ : ∃ c f,(c,f) = steer w.Level b i := ⟨_,_,rfl⟩
      have cs := S_l02Steer w.Level b i hg.1 hl hI.kd hir ⟨by omega,by omega⟩ hB.vy (by have := hB.p; rw [hI.kd] at this; exact this)
      have hca := steer_aim (l := w.Level) (i := i) hI.am
      have hcx : (steer w.Level b i).1.X = b.X ∧ (steer w.Level b i).1.Y = b.Y := ⟨rfl,rfl⟩
      rw [← hcf] at cs hnx hca hcx
      simp only at cs hnx hca hcx
      have csh := S_ShotOf c (by rw [hcx.1]; exact hpl.x) (by rw [hcx.2]; exact hpl.y) (by omega)
      have hlc : (els (bs.set k c)).length = bs.length := by rw [els_len,List.length_set]
      clear hcf hca hcx
      refine Qd (Qd (Qc ?_));refine M0 (Qa J J J) J J ?_;refine M0 (Qa J J J) J J ?_
      refine M0 (Qr J J J J (by assumption)) J J ?_;refine Qe (Q0 ?_);refine Qm rfl ?_;refine Qh (Q0 (Qd (Qk ?_)))
      refine Qd (Qd (Qc ?_));refine M0 (Qa J J J) J J ?_;refine M0 (Qz J J J) J J ?_
      refine M0 (Qf J J J J (by decide)) J J ?_;refine M0 (Qg J J J J J) J J ?_;refine M0 (Qa J J J) J J ?_
      refine M0 (Q3 J J J J J (by omega) (by omega)) J J ?_;refine M0 (q_flde J J J J (by decide)) J J ?_
      refine M0 (Q7 J J J J (by assumption) rfl) J J ?_;refine M0 (Qv J J J J (by assumption)) J J ?_;refine Qe (Q0 ?_);refine Ql rfl ?_
      refine Qh (Q0 (Qd ?_))
      refine AWP.pre (st' := (⟨_,[(0,.o (.c (.ptr 0 0))),(1,L row),(4,I (els w.Scores).length),(5,I k)],[.box [.ref 1,jn w.Tick,jn w.Seed,.ref 2,.ref 3],.row 1 (els w.Level.Rows),.row 1 (els w.Scores),.row 9 (els bs),.gh 0 (.c (.ptr 0 0))]⟩ : St)) ?_ (W_go [0,1,2,3,4] (by decide) rfl (rfl) (.cons rfl (.cons rfl (.cons rfl (.cons rfl (.nil))))))
      refine A_draw [[],[0],[0,1],[0,1,2],[],[4],[4,5],[4,5,6],[],[4,5,6,7,8],[4,5,6,7,8,9],[],[],[11,12],[11,12,13],[0,1,2,3,4,5,6,7,8,9,10,11,12,13,14],[0,1,2,3,4,5,6,7,8,9,10,11,12,13,14,15],[0,1,2,3,4,5,6,7,8,9,10,11,12,13,14,15,16],[0,1,2,3,4,5,6,7,8,9,10,11,12,13,14,15,16],[],[0,1,2,3,4,5,6,7,8,9,10,11,12,13,14,15,16,17,19],[0,1,2,3,4,5,6,7,8,9,10,11,12,13,14,15,16,17,18,19,20]] [[],[69],[69,70],[69,70,71],[],[73],[73,74],[73,74,75],[],[73,74,75,76,77],[73,74,75,76,77,78],[],[],[80,81],[80,81,82],[69,70,71,72,73,74,75,76,77,78,79,80,81,82,83],[69,70,71,72,73,74,75,76,77,78,79,80,81,82,83,84],[68,69,70,71,72,73,74,75,76,77,78,79,80,81,82,83,84],[68,69,70,71,72,73,74,75,76,77,78,79,80,81,82,83,84],[],[6,68,69,70,71,72,73,74,75,76,77,78,79,80,81,82,83,84,85],[6,68,69,70,71,72,73,74,75,76,77,78,79,80,81,82,83,84,85,86]] [[6,73,74,75,76,77,78,79,80,81,82,83],[6,73,74,75,76,77,78,79,80,81,82,83],[6,73,74,75,76,77,78,79,80,81,82,83],[6,73,74,75,76,77,78,79,80,81,82,83],[6,69,70,71,72,77,80,81,82,83],[6,69,70,71,72,77,80,81,82,83],[6,69,70,71,72,77,80,81,82,83],[6,69,70,71,72,77,80,81,82,83],[6,69,70,71,72,73,74,75,76,80,81,82,83],[6,69,70,71,72,80,81,82,83],[6,69,70,71,72,80,81,82,83],[6,69,70,71,72,73,74,75,76,77,78,79,81],[6,69,70,71,72,73,74,75,76,77,78,79,80],[6,69,70,71,72,73,74,75,76,77,78,79],[6,69,70,71,72,73,74,75,76,77,78,79],[6],[6],[6,86],[6,85],[68,69,70,71,72,73,74,75,76,77,78,79,80,81,82,83,84,85,86],[86],[],[18]] rfl ?_
      refine DR.step (Qa J J J) J J ?_;refine DR.step (Qz J J J) J J ?_;refine DR.step (Qf J J J J (by decide)) J J ?_
      refine DR.step (Qu J J J J J J) J J ?_;refine DR.step (Qa J J J) J J ?_;refine DR.step (Qz J J J) J J ?_
      refine DR.step (Qf J J J J (by decide)) J J ?_;refine DR.step (Qg J J J J J) J J ?_;refine DR.step (Qa J J J) J J ?_
      refine DR.step (Q3 J J J J J (by omega) (by omega)) J J ?_;refine DR.step (Q6 J J J J (by assumption) J J) J J ?_
      refine DR.step (Qa J J J) J J ?_;refine DR.step (Qa J J J) J J ?_;refine DR.step (Q2 J J J J (by omega) (by assumption) rfl) J J ?_
      refine DR.step (q_lr1 J J J J) J J ?_;refine DR.step (q_call J J (cs) J J J) J J ?_;refine DR.step (Q8 J J J) J J ?_
      refine DR.step (q_ext J J J J) J J ?_;refine DR.step (q_ext J J J J) J J ?_;refine DR.step (Qx J J J) J J ?_
      refine DR.stop (by kernel_rfl) (by kernel_rfl) ?_
      refine AL.weak (st' := (⟨_,[(0,.o (.c (.ptr 0 0))),(1,L row),(4,I (els w.Scores).length),(5,I k),(6,.o (.c (.ptr 5 0))),(85,.o (.ag ((Enc.e c).map (V1.rd [])))),(86,B f)],[.box [.ref 1,jn w.Tick,jn w.Seed,.ref 2,.ref 3],.row 1 (els w.Level.Rows),.row 1 (els w.Scores),.row 9 (els bs),.gh 0 (.c (.ptr 0 0)),.box [jn 0,jn 0,jn 0,jn 0,jn 0,jn 0,jn 0,jn 0,jn 0]]⟩ : St)) (W_go [0,1,2,3,4,5] (by decide) rfl (rfl) (.cons rfl (.cons rfl (.cons rfl (.cons rfl (.cons rfl (.cons rfl (.cons rfl (.nil))))))))) ?_
      refine Qy J J J J J J J J J ?_;refine M0 (Qb J J J) J J ?_;refine Qe (Q0 (Qd ?_))
      refine AWP.pre (st' := (⟨_,[(0,.o (.c (.ptr 0 0))),(1,L row),(4,I (els w.Scores).length),(5,I k),(6,.o (.c (.ptr 5 0))),(7,B f)],[.box [.ref 1,jn w.Tick,jn w.Seed,.ref 2,.ref 3],.row 1 (els w.Level.Rows),.row 1 (els w.Scores),.row 9 (els bs),.gh 0 (.c (.ptr 0 0)),.box ((Enc.e c).map (V1.rd []))]⟩ : St)) ?_ (W_go [0,1,2,3,4,5] (by decide) rfl (rfl) (.cons rfl (.cons rfl (.cons rfl (.cons rfl (.cons rfl (.cons rfl (.nil))))))))
      refine A_draw [[],[0],[0,1],[0,1,2],[],[],[0,1,2,3,4,5],[0,1,2,3,4,5,6]] [[],[87],[87,88],[87,88,89],[],[],[87,88,89,90,91,92],[87,88,89,90,91,92,93]] [[91,92],[91,92],[91,92],[91,92],[87,88,89,90,92],[87,88,89,90,91],[],[]] rfl ?_
      refine DR.step (Qa J J J) J J ?_;refine DR.step (Qz J J J) J J ?_;refine DR.step (Qf J J J J (by decide)) J J ?_
      refine DR.step (Qg J J J J J) J J ?_;refine DR.step (Qa J J J) J J ?_;refine DR.step (Qu J J J J J J) J J ?_
      refine DR.step (Q3 J J J J J (by omega) (by omega)) J J ?_;refine DR.stop (by kernel_rfl) (by kernel_rfl) ?_
      refine AL.weak (st' := (⟨_,[(0,.o (.c (.ptr 0 0))),(1,L row),(4,I (els w.Scores).length),(5,I k),(6,.o (.c (.ptr 5 0))),(7,B f),(92,.o (.ag ((Enc.e c).map (V1.rd [])))),(93,.o (.c (.el 3 9 k 0)))],[.box [.ref 1,jn w.Tick,jn w.Seed,.ref 2,.ref 3],.row 1 (els w.Level.Rows),.row 1 (els w.Scores),.row 9 (els bs),.gh 0 (.c (.ptr 0 0)),.box ((Enc.e c).map (V1.rd []))]⟩ : St)) (W_go [0,1,2,3,4,5] (by decide) rfl (rfl) (.cons rfl (.cons rfl (.cons rfl (.cons rfl (.cons rfl (.cons rfl (.cons rfl (.cons rfl (.nil)))))))))) ?_
      with_reducible refine Xe ?_
      refine Xg J J J J J J J J J J (by assumption) J J ?_
      refine Qe ?_
      refine Q0 ?_
      refine AWP.pre (st' := (⟨_,[(0,.o (.c (.ptr 0 0))),(1,L row),(4,I (els w.Scores).length),(5,I k),(6,.o (.c (.ptr 5 0))),(7,B f)],[.box [.ref 1,jn w.Tick,jn w.Seed,.ref 2,.ref 3],.row 1 (els w.Level.Rows),.row 1 (els w.Scores),.row 9 (els (bs.set k c)),.gh 0 (.c (.ptr 0 0)),.box ((Enc.e c).map (V1.rd []))]⟩ : St)) ?_ (W_go [0,1,2,3,4,5] (by decide) rfl ((by exact rwBo (by rw [els_set]; rfl))) (.cons rfl (.cons rfl (.cons rfl (.cons rfl (.cons rfl (.cons rfl (.nil))))))))
      clear he
      cases f with
      | false =>
        refine Qd (Qc ?_);refine M0 (Qa J J J) J J ?_;refine M0 (Qa J J J) J J ?_;refine Qp J J J J J J ?_
        refine Qp J J J J J J ?_;refine Qp J J J J J J ?_;refine Qp J J J J J J ?_;refine Qp J J J J J J ?_
        refine Qp J J J J J J ?_;refine M0 (Qn J J J J) J J ?_;refine Qe (Q0 ?_);refine Ql rfl ?_;refine Qh (Q1 (Q0 ?_))
        refine Qc ?_;refine M0 (Qa J J J) J J ?_;refine M0 (Qs J J J J (by omega)) J J ?_;refine M0 (Qb J J J) J J ?_;refine Qe ?_
        refine Q0 ?_
        exact ⟨w.Scores.length - (k + 1),by omega,(fun (k : Nat) (bs : List TBody) => (⟨_,[(0,.o (.c (.ptr 0 0))),(1,L row),(4,I (els w.Scores).length),(5,I k)],[.box [.ref 1,jn w.Tick,jn w.Seed,.ref 2,.ref 3],.row 1 (els w.Level.Rows),.row 1 (els w.Scores),.row 9 (els bs),.gh 0 (.c (.ptr 0 0))]⟩ : St)) (k + 1) (bs.set k c),W_go [0,1,2,3,4] (by decide) rfl (rfl) (.cons rfl (.cons rfl (.cons rfl (.cons rfl (.nil))))),k + 1,bs.set k c,by omega,(by rw [hnx]; rfl),rfl⟩
      | true =>
        by_cases h24 : bs.length < 24
        · have f3 : decide (((els (bs.set k c)).length : Int) < 24) = true := decide_eq_true (by omega)
          rw [if_pos ⟨rfl,h24⟩] at hnx
          refine Qd (Qc ?_);refine M0 (Qa J J J) J J ?_;refine M0 (Qa J J J) J J ?_;refine Qi J J J ?_
          refine M0 (Qa J J J) J J ?_;refine M0 (Qt.yes J J J (Qz J J J)) J J ?_;refine Qi J J J ?_
          refine M0 (Qf J J J J (by decide)) J J ?_;refine Qi J J J ?_;refine M0 (Qg J J J J J) J J ?_;refine Qi J J J ?_
          refine M0 (q_lenr J J J J) J J ?_;refine Qi J J J ?_;refine M0 (Qr J J J J (by assumption)) J J ?_;refine M0 (Qo J J J J) J J ?_
          refine Qe (Q0 ?_);refine Qm rfl ?_
          refine A_draw [[],[],[1],[1,2],[1,2,3],[],[5],[5,6],[1,2,3,4,5,6,7],[0,1,2,3,4,5,6,7,8],[0,1,2,3,4,5,6,7,8,9],[0,1,2,3,4,5,6,7,8,9,10]] [[],[],[104],[104,105],[104,105,106],[],[108],[108,109],[104,105,106,107,108,109,110],[103,104,105,106,107,108,109,110,111],[103,104,105,106,107,108,109,110,111,112],[103,104,105,106,107,108,109,110,111,112,113]] [[104,105,106,107,108,109,110,111],[103,108,109,110],[103,108,109,110],[103,108,109,110],[103,108,109,110],[103,104,105,106,107],[103,104,105,106,107],[103,104,105,106,107],[103],[],[],[],[0]] rfl ?_
          refine DR.step (Qa J J J) J J ?_;refine DR.step (Qa J J J) J J ?_;refine DR.step (Qz J J J) J J ?_
          refine DR.step (Qf J J J J (by decide)) J J ?_;refine DR.step (Qg J J J J J) J J ?_;refine DR.step (Qu J J J J J J) J J ?_
          refine DR.step (q_call J J (csh) J J J) J J ?_;refine DR.step (q_bslice J J J J J J) J J ?_;refine DR.stop (by kernel_rfl) (by kernel_rfl) ?_
          refine AL.weak (st' := (⟨_,[(0,.o (.c (.ptr 0 0))),(1,L row),(4,I (els w.Scores).length),(5,I k),(103,.o (.c (.ptr 0 0))),(107,.o (.c (.ref 3))),(110,.o (.c (.sb 5 1 9)))],[.box [.ref 1,jn w.Tick,jn w.Seed,.ref 2,.ref 3],.row 1 (els w.Level.Rows),.row 1 (els w.Scores),.row 9 (els (bs.set k c)),.gh 0 (.c (.ptr 0 0)),.box ((Enc.e (shotOf c)).map (V1.rd []))]⟩ : St)) (W_go [0,1,2,3,4,6] (by decide) rfl (rfl) (.cons rfl (.cons rfl (.cons rfl (.cons rfl (.cons rfl (.cons rfl (.cons rfl (.nil))))))))) ?_
          refine M_appo J J J J J J J J J J J J J J (by omega) (by omega) ?_;refine M0 (Qz J J J) J J ?_
          refine M0 (Qf J J J J (by decide)) J J ?_;refine Q5 J J J J J J J J ?_;refine Qe (Q1 (Q0 (Qc ?_)))
          refine M0 (Qa J J J) J J ?_;refine M0 (Qs J J J J (by omega)) J J ?_;refine M0 (Qb J J J) J J ?_;refine Qe (Q0 ?_)
          exact ⟨w.Scores.length - (k + 1),by omega,(fun (k : Nat) (bs : List TBody) => (⟨_,[(0,.o (.c (.ptr 0 0))),(1,L row),(4,I (els w.Scores).length),(5,I k)],[.box [.ref 1,jn w.Tick,jn w.Seed,.ref 2,.ref 3],.row 1 (els w.Level.Rows),.row 1 (els w.Scores),.row 9 (els bs),.gh 0 (.c (.ptr 0 0))]⟩ : St)) (k + 1) (bs.set k c ++ [shotOf c]),W_go [0,1,2,3,4] (by decide) rfl (rwBo (by rw [els_app]; rfl)) (.cons rfl (.cons rfl (.cons rfl (.cons rfl (.nil))))),k + 1,bs.set k c ++ [shotOf c],by omega,hnx.symm,rfl⟩
        · have f3 : decide (((els (bs.set k c)).length : Int) < 24) = false := decide_eq_false (by omega)
          rw [if_neg (fun q => h24 q.2)] at hnx
          refine Qd (Qc ?_);refine M0 (Qa J J J) J J ?_;refine M0 (Qa J J J) J J ?_;refine Qi J J J ?_
          refine M0 (Qa J J J) J J ?_;refine M0 (Qt.yes J J J (Qz J J J)) J J ?_;refine Qi J J J ?_
          refine M0 (Qf J J J J (by decide)) J J ?_;refine Qi J J J ?_;refine M0 (Qg J J J J J) J J ?_;refine Qi J J J ?_
          refine M0 (q_lenr J J J J) J J ?_;refine Qi J J J ?_;refine M0 (Qr J J J J (by assumption)) J J ?_;refine M0 (Qo J J J J) J J ?_
          refine Qe (Q0 ?_);refine Ql rfl ?_;refine Qh (Q1 (Q0 (Qc ?_)));refine M0 (Qa J J J) J J ?_
          refine M0 (Qs J J J J (by omega)) J J ?_;refine M0 (Qb J J J) J J ?_;refine Qe (Q0 ?_)
          exact ⟨w.Scores.length - (k + 1),by omega,(fun (k : Nat) (bs : List TBody) => (⟨_,[(0,.o (.c (.ptr 0 0))),(1,L row),(4,I (els w.Scores).length),(5,I k)],[.box [.ref 1,jn w.Tick,jn w.Seed,.ref 2,.ref 3],.row 1 (els w.Level.Rows),.row 1 (els w.Scores),.row 9 (els bs),.gh 0 (.c (.ptr 0 0))]⟩ : St)) (k + 1) (bs.set k c),W_go [0,1,2,3,4] (by decide) rfl (rfl) (.cons rfl (.cons rfl (.cons rfl (.cons rfl (.nil))))),k + 1,bs.set k c,by omega,hnx.symm,rfl⟩
  have hb0 : decide ((k : Int) < (els w.Scores).length) = false := decide_eq_false (by omega)
  have hk : k = w.Scores.length := by omega
  rw [hk] at hp_A
  have hPl := hPP.pl
  rw [← hp_A] at hPl
  have hmv : movedM w row = mvM w.Level bs := by rw [movedM,hp_A]
  have hL := hPl.lm
  have htm := hPl.tm
  clear hPl hPP hp_A hbo
  have hlb := els_len bs
  have hln := hL.len
  refine Qd (Qd (Qc ?_));refine M0 (Qa J J J) J J ?_;refine M0 (Qa J J J) J J ?_
  refine M0 (Qr J J J J (by assumption)) J J ?_;refine Qe (Q0 ?_);refine Ql rfl ?_;refine Q9 (T_x (T_x (B_xs (Q0 ?_))))
  refine Qd (Qc ?_);refine M1 (q_bslice0 J J J) J J ?_;refine M0 (Qb J J J) J J ?_;refine Qe (Q0 (Qd (Qd ?_)))
  refine Qc ?_;refine M0 (Qb J J J) J J ?_;refine Qe (Q0 (Qk ?_))
  refine A_loop (fun m st => ∃ (j : Nat) (kr : List TBody),j + m = bs.length ∧ (kr = (bs.take j).filterMap (mvOne w.Level)) ∧ st = (fun (j : Nat) (kr : List TBody) => (⟨_,[(0,.o (.c (.ptr 0 0))),(1,L row),(4,I (els w.Scores).length),(8,.o (.c (.ref 5))),(9,I j)],[.box [.ref 1,jn w.Tick,jn w.Seed,.ref 2,.ref 3],.row 1 (els w.Level.Rows),.row 1 (els w.Scores),.row 9 (els bs),.gh 0 (.c (.ptr 0 0)),.row 9 (els kr)]⟩ : St)) j kr) (bs.length) ⟨(fun (j : Nat) (kr : List TBody) => (⟨_,[(0,.o (.c (.ptr 0 0))),(1,L row),(4,I (els w.Scores).length),(8,.o (.c (.ref 5))),(9,I j)],[.box [.ref 1,jn w.Tick,jn w.Seed,.ref 2,.ref 3],.row 1 (els w.Level.Rows),.row 1 (els w.Scores),.row 9 (els bs),.gh 0 (.c (.ptr 0 0)),.row 9 (els kr)]⟩ : St)) 0 ([]),W_go [0,1,2,3,4,5] (by decide) rfl (rfl) (.cons rfl (.cons rfl (.cons rfl (.cons rfl (.cons rfl (.nil)))))),0,[],by omega,rfl,rfl⟩ ?_
  rintro m_B _ ⟨j,kr,hk_B,hp_B,rfl⟩
  have hlkr := els_len kr
  have hkl := mv_len hp_B
  by_cases hlt : j < bs.length
  · have hb0 : decide ((j : Int) < (els bs).length) = true := decide_eq_true (by omega)
    obtain ⟨b,hb⟩ := some_sm hlt
    refine Qd (Qd (Qc ?_));refine M0 (Qa J J J) J J ?_;refine M0 (Qa J J J) J J ?_;refine M0 (Qz J J J) J J ?_
    refine M0 (Qf J J J J (by decide)) J J ?_;refine M0 (Qg J J J J J) J J ?_;refine M0 (q_lenr J J J J) J J ?_
    refine M0 (Qr J J J J (by assumption)) J J ?_;refine Qe (Q0 ?_);refine Qm rfl ?_;refine Qh (Q0 (Qd (Qk ?_)))
    refine Qd (Qc ?_);refine M0 (Qa J J J) J J ?_;refine M0 (Qz J J J) J J ?_;refine M0 (Qf J J J J (by decide)) J J ?_
    refine M0 (Qg J J J J J) J J ?_;refine M0 (Qa J J J) J J ?_;refine M0 (Q3 J J J J J (by omega) (by omega)) J J ?_
    have he := els_sm hb
    with_reducible refine Xf ?_
    refine M0 (Q6 J J J J (by assumption) J J) J J ?_
    with_reducible refine K_alloc ?_
    refine M1 (Qx J J J) J J ?_
    with_reducible refine Xe ?_
    refine Qy J J J J J J J J J ?_
    refine Qe ?_
    refine Q0 ?_
    refine AWP.pre (st' := (⟨_,[(0,.o (.c (.ptr 0 0))),(1,L row),(4,I (els w.Scores).length),(8,.o (.c (.ref 5))),(9,I j),(10,.o (.c (.ptr 6 0)))],[.box [.ref 1,jn w.Tick,jn w.Seed,.ref 2,.ref 3],.row 1 (els w.Level.Rows),.row 1 (els w.Scores),.row 9 (els bs),.gh 0 (.c (.ptr 0 0)),.row 9 (els kr),.box ((Enc.e b).map (V1.rd []))]⟩ : St)) ?_ (W_go [0,1,2,3,4,5,6] (by decide) rfl (rfl) (.cons rfl (.cons rfl (.cons rfl (.cons rfl (.cons rfl (.cons rfl (.nil))))))))
    clear he
    obtain ⟨hB,hKn⟩ := hL.at_ j b hb
    have hkd := hB.k
    have hlf := hB.f
    have ht := htm b (List.mem_of_getElem? hb)
    by_cases k2 : b.Kind = 2
    · have f1 : decide (b.Kind = 2) = true := decide_eq_true k2
      have hm := mv_some hp_B hb (mv_two k2)
      refine Qd (Qd (Qc ?_));refine M0 (Qf J J J J (by decide)) J J ?_;refine M0 (Qg J J J J J) J J ?_
      refine M0 (Qv J J J J (by assumption)) J J ?_;refine M0 (Qa J J J) J J ?_;refine Qp J J J J J J ?_;refine Qp J J J J J J ?_
      refine Qp J J J J J J ?_;refine Qp J J J J J J ?_;refine M0 (Qt.no2 J J J) J J ?_;refine M0 (Qt.no2 J J J) J J ?_
      refine M0 (Qt.no2 J J J) J J ?_;refine Qp J J J J J J ?_;refine M0 (Qo J J J J) J J ?_;refine Qe (Q0 ?_);refine Qm rfl ?_
      refine Qd (Qc ?_);refine M0 (Qa J J J) J J ?_;refine M0 (Qu J J J J J J) J J ?_
      refine M1 (q_bslice J J J J J J) J J ?_;refine M_appo J J J J J J J J J J J J J J (by omega) (by omega) ?_
      refine M0 (Qb J J J) J J ?_;refine Qe (Q0 (Q9 (T_x (B_xs (Q0 (Qc ?_))))))
      refine M0 (Qa J J J) J J ?_;refine M0 (Qs J J J J (by omega)) J J ?_;refine M0 (Qb J J J) J J ?_;refine Qe (Q0 ?_)
      exact ⟨bs.length - (j + 1),by omega,(fun (j : Nat) (kr : List TBody) => (⟨_,[(0,.o (.c (.ptr 0 0))),(1,L row),(4,I (els w.Scores).length),(8,.o (.c (.ref 5))),(9,I j)],[.box [.ref 1,jn w.Tick,jn w.Seed,.ref 2,.ref 3],.row 1 (els w.Level.Rows),.row 1 (els w.Scores),.row 9 (els bs),.gh 0 (.c (.ptr 0 0)),.row 9 (els kr)]⟩ : St)) (j + 1) (kr ++ [b]),W_go [0,1,2,3,4,5] (by decide) rfl (rw6 (by rw [els_app]; rfl)) (.cons rfl (.cons rfl (.cons rfl (.cons rfl (.cons rfl (.nil)))))),j + 1,kr ++ [b],by omega,hm,rfl⟩
    have f1 : decide (b.Kind = 2) = false := decide_eq_false k2
    by_cases k0 : b.Kind = 0 ∧ b.Life = 0
    · have f2 : decide ((j : Int) < (els w.Scores).length) = true := decide_eq_true (by have := hKn.1 k0.1; omega)
      have f3 : decide (b.Life = 0) = true := decide_eq_true k0.2
      have hm := mv_some hp_B hb (mv_dead k0.1 k0.2)
      refine Qd (Qd (Qc ?_));refine M0 (Qf J J J J (by decide)) J J ?_;refine M0 (Qg J J J J J) J J ?_
      refine M0 (Qv J J J J (by assumption)) J J ?_;refine M0 (Qa J J J) J J ?_;refine Qi J J J ?_;refine M0 (Qa J J J) J J ?_
      refine Qi J J J ?_;refine M0 (Qa J J J) J J ?_;refine Qi J J J ?_;refine M0 (Qr J J J J (by assumption)) J J ?_
      refine Qi J J J ?_;refine M0 (Qa J J J) J J ?_;refine Qi J J J ?_;refine M0 (Qf J J J J (by decide)) J J ?_;refine Qi J J J ?_
      refine M0 (Qg J J J J J) J J ?_;refine Qi J J J ?_;refine M0 (Qv J J J J (by assumption)) J J ?_;refine Qi J J J ?_
      refine M0 (Qo J J J J) J J ?_;refine M0 (Qn J J J J) J J ?_;refine Qe (Q0 ?_);refine Qm rfl ?_;refine Qd (Qc ?_)
      refine M0 (Qa J J J) J J ?_;refine M0 (Qu J J J J J J) J J ?_;refine M1 (q_bslice J J J J J J) J J ?_
      refine M_appo J J J J J J J J J J J J J J (by omega) (by omega) ?_;refine M0 (Qb J J J) J J ?_;refine Qe (Q0 ?_)
      refine Q9 (T_x (B_xs (Q0 (Qc ?_))));refine M0 (Qa J J J) J J ?_;refine M0 (Qs J J J J (by omega)) J J ?_
      refine M0 (Qb J J J) J J ?_;refine Qe (Q0 ?_)
      exact ⟨bs.length - (j + 1),by omega,(fun (j : Nat) (kr : List TBody) => (⟨_,[(0,.o (.c (.ptr 0 0))),(1,L row),(4,I (els w.Scores).length),(8,.o (.c (.ref 5))),(9,I j)],[.box [.ref 1,jn w.Tick,jn w.Seed,.ref 2,.ref 3],.row 1 (els w.Level.Rows),.row 1 (els w.Scores),.row 9 (els bs),.gh 0 (.c (.ptr 0 0)),.row 9 (els kr)]⟩ : St)) (j + 1) (kr ++ [b]),W_go [0,1,2,3,4,5] (by decide) rfl (rw6 (by rw [els_app]; rfl)) (.cons rfl (.cons rfl (.cons rfl (.cons rfl (.cons rfl (.nil)))))),j + 1,kr ++ [b],by omega,hm,rfl⟩
    obtain ⟨c,s,hcs⟩ : ∃ c s,(c,s) = moveM w.Level b := ⟨_,_,rfl⟩
    have cm := S_l02Move w.Level b hg.1 hl hB.k hB.p hB.vx hB.vy
    have hct : (moveM w.Level b).1.Timer = b.Timer := rfl
    have ma := @mv_a w.Level b
    have mn := @mv_n w.Level b
    have ms := @mv_s w.Level b
    rw [← hcs] at cm hct ma mn ms
    simp only at cm hct ma mn ms
    clear hcs hB
    by_cases hA : b.Kind = 0
    · have f2 : decide ((j : Int) < (els w.Scores).length) = true := decide_eq_true (by have := hKn.1 hA; omega)
      have f3 : decide (b.Life = 0) = false := decide_eq_false (fun q => k0 ⟨hA,q⟩)
      have f4 : decide (b.Kind = 1) = false := decide_eq_false (by omega)
      have hm := mv_some hp_B hb (ma ⟨hA,by have : b.Life ≠ 0 := fun q => k0 ⟨hA,q⟩; omega⟩)
      refine Qd (Qd (Qc ?_));refine M0 (Qf J J J J (by decide)) J J ?_;refine M0 (Qg J J J J J) J J ?_
      refine M0 (Qv J J J J (by assumption)) J J ?_;refine M0 (Qa J J J) J J ?_;refine Qi J J J ?_;refine M0 (Qa J J J) J J ?_
      refine Qi J J J ?_;refine M0 (Qa J J J) J J ?_;refine Qi J J J ?_;refine M0 (Qr J J J J (by assumption)) J J ?_
      refine Qi J J J ?_;refine M0 (Qa J J J) J J ?_;refine Qi J J J ?_;refine M0 (Qf J J J J (by decide)) J J ?_;refine Qi J J J ?_
      refine M0 (Qg J J J J J) J J ?_;refine Qi J J J ?_;refine M0 (Qv J J J J (by assumption)) J J ?_;refine Qi J J J ?_
      refine M0 (Qo J J J J) J J ?_;refine M0 (Qn J J J J) J J ?_;refine Qe (Q0 ?_);refine Ql rfl ?_;refine Qh (Q0 ?_)
      refine Qd ?_
      refine AWP.pre (st' := (⟨_,[(0,.o (.c (.ptr 0 0))),(1,L row),(4,I (els w.Scores).length),(8,.o (.c (.ref 5))),(9,I j),(10,.o (.c (.ptr 6 0)))],[.box [.ref 1,jn w.Tick,jn w.Seed,.ref 2,.ref 3],.row 1 (els w.Level.Rows),.row 1 (els w.Scores),.row 9 (els bs),.gh 0 (.c (.ptr 0 0)),.row 9 (els kr),.box ((Enc.e b).map (V1.rd []))]⟩ : St)) ?_ (W_go [0,1,2,3,4,5,6] (by decide) rfl (rfl) (.cons rfl (.cons rfl (.cons rfl (.cons rfl (.cons rfl (.cons rfl (.nil))))))))
      refine A_draw [[],[0],[0,1],[0,1,2],[],[0,1,2,3,4],[0,1,2,3,4,5],[0,1,2,3,4,5,6],[0,1,2,3,4,5,6],[],[0,1,2,3,4,5,6,7,9],[0,1,2,3,4,5,6,7,8,9,10]] [[],[149],[149,150],[149,150,151],[],[149,150,151,152,153],[149,150,151,152,153,154],[148,149,150,151,152,153,154],[148,149,150,151,152,153,154],[],[11,148,149,150,151,152,153,154,155],[11,148,149,150,151,152,153,154,155,156]] [[11,153],[11,153],[11,153],[11,153],[11,149,150,151,152],[11],[11],[11,156],[11,155],[148,149,150,151,152,153,154,155,156],[156],[],[8]] rfl ?_
      refine DR.step (Qa J J J) J J ?_;refine DR.step (Qz J J J) J J ?_;refine DR.step (Qf J J J J (by decide)) J J ?_
      refine DR.step (Qu J J J J J J) J J ?_;refine DR.step (Qu J J J J J J) J J ?_;refine DR.step (q_call J J (cm) J J J) J J ?_
      refine DR.step (Q8 J J J) J J ?_;refine DR.step (q_ext J J J J) J J ?_;refine DR.step (q_ext J J J J) J J ?_
      refine DR.step (Qx J J J) J J ?_;refine DR.stop (by kernel_rfl) (by kernel_rfl) ?_
      refine AL.weak (st' := (⟨_,[(0,.o (.c (.ptr 0 0))),(1,L row),(4,I (els w.Scores).length),(8,.o (.c (.ref 5))),(9,I j),(10,.o (.c (.ptr 6 0))),(11,.o (.c (.ptr 7 0))),(155,.o (.ag ((Enc.e c).map (V1.rd [])))),(156,B s)],[.box [.ref 1,jn w.Tick,jn w.Seed,.ref 2,.ref 3],.row 1 (els w.Level.Rows),.row 1 (els w.Scores),.row 9 (els bs),.gh 0 (.c (.ptr 0 0)),.row 9 (els kr),.box ((Enc.e b).map (V1.rd [])),.box [jn 0,jn 0,jn 0,jn 0,jn 0,jn 0,jn 0,jn 0,jn 0]]⟩ : St)) (W_go [0,1,2,3,4,5,6,7] (by decide) rfl (rfl) (.cons rfl (.cons rfl (.cons rfl (.cons rfl (.cons rfl (.cons rfl (.cons rfl (.cons rfl (.cons rfl (.nil))))))))))) ?_
      with_reducible refine Xe ?_
      refine Qy J J J J J J J J J ?_
      with_reducible refine K_assign ?_
      refine M0 (Qb J J J) J J ?_
      refine Qe ?_
      refine Q0 ?_
      refine AWP.pre (st' := (⟨_,[(0,.o (.c (.ptr 0 0))),(1,L row),(4,I (els w.Scores).length),(8,.o (.c (.ref 5))),(9,I j),(10,.o (.c (.ptr 6 0))),(11,.o (.c (.ptr 7 0))),(12,B s)],[.box [.ref 1,jn w.Tick,jn w.Seed,.ref 2,.ref 3],.row 1 (els w.Level.Rows),.row 1 (els w.Scores),.row 9 (els bs),.gh 0 (.c (.ptr 0 0)),.row 9 (els kr),.box ((Enc.e b).map (V1.rd [])),.box ((Enc.e c).map (V1.rd []))]⟩ : St)) ?_ (W_go [0,1,2,3,4,5,6,7] (by decide) rfl (rfl) (.cons rfl (.cons rfl (.cons rfl (.cons rfl (.cons rfl (.cons rfl (.cons rfl (.cons rfl (.nil))))))))))
      refine Qd (Qd (Qc ?_));refine M0 (Qf J J J J (by decide)) J J ?_;refine M0 (Qg J J J J J) J J ?_
      refine M0 (Qv J J J J (by assumption)) J J ?_;refine Qe (Q0 ?_);refine Ql rfl ?_;refine Qh (Q0 (Qc ?_))
      refine M0 (Qa J J J) J J ?_;refine M0 (Qu J J J J J J) J J ?_;refine M1 (q_bslice J J J J J J) J J ?_
      refine M_appo J J J J J J J J J J J J J J (by omega) (by omega) ?_;refine M0 (Qb J J J) J J ?_;refine Qe (Q1 (Q0 ?_))
      refine Qc ?_;refine M0 (Qa J J J) J J ?_;refine M0 (Qs J J J J (by omega)) J J ?_;refine M0 (Qb J J J) J J ?_;refine Qe ?_
      refine Q0 ?_
      exact ⟨bs.length - (j + 1),by omega,(fun (j : Nat) (kr : List TBody) => (⟨_,[(0,.o (.c (.ptr 0 0))),(1,L row),(4,I (els w.Scores).length),(8,.o (.c (.ref 5))),(9,I j)],[.box [.ref 1,jn w.Tick,jn w.Seed,.ref 2,.ref 3],.row 1 (els w.Level.Rows),.row 1 (els w.Scores),.row 9 (els bs),.gh 0 (.c (.ptr 0 0)),.row 9 (els kr)]⟩ : St)) (j + 1) (kr ++ [c]),W_go [0,1,2,3,4,5] (by decide) rfl (rw6 (by rw [els_app]; rfl)) (.cons rfl (.cons rfl (.cons rfl (.cons rfl (.cons rfl (.nil)))))),j + 1,kr ++ [c],by omega,hm,rfl⟩
    have k1 : b.Kind = 1 := by omega
    have f2 : decide ((j : Int) < (els w.Scores).length) = false := decide_eq_false (fun q => hA (hKn.2 (by omega)))
    have f4 : decide (b.Kind = 1) = true := decide_eq_true k1
    have f5 : decide (b.Kind = 0) = false := decide_eq_false hA
    refine Qd (Qd (Qc ?_));refine M0 (Qf J J J J (by decide)) J J ?_;refine M0 (Qg J J J J J) J J ?_
    refine M0 (Qv J J J J (by assumption)) J J ?_;refine M0 (Qa J J J) J J ?_;refine Qi J J J ?_;refine M0 (Qa J J J) J J ?_
    refine Qi J J J ?_;refine M0 (Qa J J J) J J ?_;refine Qi J J J ?_;refine M0 (Qr J J J J (by assumption)) J J ?_
    refine Qi J J J ?_;refine M0 (Qa J J J) J J ?_;refine Qp J J J J J J ?_;refine Qp J J J J J J ?_
    refine Qp J J J J J J ?_;refine Qi J J J ?_;refine M0 (Qn J J J J) J J ?_;refine M0 (Qn J J J J) J J ?_;refine Qe ?_
    refine Q0 ?_;refine Ql rfl ?_;refine Qh (Q0 (Qd ?_))
    refine AWP.pre (st' := (⟨_,[(0,.o (.c (.ptr 0 0))),(1,L row),(4,I (els w.Scores).length),(8,.o (.c (.ref 5))),(9,I j),(10,.o (.c (.ptr 6 0)))],[.box [.ref 1,jn w.Tick,jn w.Seed,.ref 2,.ref 3],.row 1 (els w.Level.Rows),.row 1 (els w.Scores),.row 9 (els bs),.gh 0 (.c (.ptr 0 0)),.row 9 (els kr),.box ((Enc.e b).map (V1.rd []))]⟩ : St)) ?_ (W_go [0,1,2,3,4,5,6] (by decide) rfl (rfl) (.cons rfl (.cons rfl (.cons rfl (.cons rfl (.cons rfl (.cons rfl (.nil))))))))
    refine A_draw [[],[0],[0,1],[0,1,2],[],[0,1,2,3,4],[0,1,2,3,4,5],[0,1,2,3,4,5,6],[0,1,2,3,4,5,6],[],[0,1,2,3,4,5,6,7,9],[0,1,2,3,4,5,6,7,8,9,10]] [[],[149],[149,150],[149,150,151],[],[149,150,151,152,153],[149,150,151,152,153,154],[148,149,150,151,152,153,154],[148,149,150,151,152,153,154],[],[11,148,149,150,151,152,153,154,155],[11,148,149,150,151,152,153,154,155,156]] [[11,153],[11,153],[11,153],[11,153],[11,149,150,151,152],[11],[11],[11,156],[11,155],[148,149,150,151,152,153,154,155,156],[156],[],[8]] rfl ?_
    refine DR.step (Qa J J J) J J ?_;refine DR.step (Qz J J J) J J ?_;refine DR.step (Qf J J J J (by decide)) J J ?_
    refine DR.step (Qu J J J J J J) J J ?_;refine DR.step (Qu J J J J J J) J J ?_;refine DR.step (q_call J J (cm) J J J) J J ?_
    refine DR.step (Q8 J J J) J J ?_;refine DR.step (q_ext J J J J) J J ?_;refine DR.step (q_ext J J J J) J J ?_
    refine DR.step (Qx J J J) J J ?_;refine DR.stop (by kernel_rfl) (by kernel_rfl) ?_
    refine AL.weak (st' := (⟨_,[(0,.o (.c (.ptr 0 0))),(1,L row),(4,I (els w.Scores).length),(8,.o (.c (.ref 5))),(9,I j),(10,.o (.c (.ptr 6 0))),(11,.o (.c (.ptr 7 0))),(155,.o (.ag ((Enc.e c).map (V1.rd [])))),(156,B s)],[.box [.ref 1,jn w.Tick,jn w.Seed,.ref 2,.ref 3],.row 1 (els w.Level.Rows),.row 1 (els w.Scores),.row 9 (els bs),.gh 0 (.c (.ptr 0 0)),.row 9 (els kr),.box ((Enc.e b).map (V1.rd [])),.box [jn 0,jn 0,jn 0,jn 0,jn 0,jn 0,jn 0,jn 0,jn 0]]⟩ : St)) (W_go [0,1,2,3,4,5,6,7] (by decide) rfl (rfl) (.cons rfl (.cons rfl (.cons rfl (.cons rfl (.cons rfl (.cons rfl (.cons rfl (.cons rfl (.cons rfl (.nil))))))))))) ?_
    with_reducible refine Xe ?_
    refine Qy J J J J J J J J J ?_
    with_reducible refine K_assign ?_
    refine M0 (Qb J J J) J J ?_
    refine Qe ?_
    refine Q0 ?_
    refine AWP.pre (st' := (⟨_,[(0,.o (.c (.ptr 0 0))),(1,L row),(4,I (els w.Scores).length),(8,.o (.c (.ref 5))),(9,I j),(10,.o (.c (.ptr 6 0))),(11,.o (.c (.ptr 7 0))),(12,B s)],[.box [.ref 1,jn w.Tick,jn w.Seed,.ref 2,.ref 3],.row 1 (els w.Level.Rows),.row 1 (els w.Scores),.row 9 (els bs),.gh 0 (.c (.ptr 0 0)),.row 9 (els kr),.box ((Enc.e b).map (V1.rd [])),.box ((Enc.e c).map (V1.rd []))]⟩ : St)) ?_ (W_go [0,1,2,3,4,5,6,7] (by decide) rfl (rfl) (.cons rfl (.cons rfl (.cons rfl (.cons rfl (.cons rfl (.cons rfl (.cons rfl (.cons rfl (.nil))))))))))
    rw [← hct] at ht
    cases s with
    | true =>
      have hm := mv_none hp_B hb (mn (fun q => hA q.1) k1 (.inl rfl))
      refine Qd (Qd (Qc ?_));refine M0 (Qf J J J J (by decide)) J J ?_;refine M0 (Qg J J J J J) J J ?_
      refine M0 (Qv J J J J (by assumption)) J J ?_;refine Qe (Q0 ?_);refine Qm rfl ?_;refine Qd (Qc ?_)
      refine M0 (Qf J J J J (by decide)) J J ?_;refine M0 (Qg J J J J J) J J ?_;refine M0 (Xc J J J J (by omega)) J J ?_
      refine M0 (Qf J J J J (by decide)) J J ?_;refine Q5 J J J J J J J J ?_;refine Qe (Q0 (Qd (Qc ?_)))
      refine M0 (Qa J J J) J J ?_;refine M0 (Qa J J J) J J ?_;refine Qp J J J J J J ?_;refine Qp J J J J J J ?_
      refine Qp J J J J J J ?_;refine M0 (Qo J J J J) J J ?_;refine Qe (Q0 ?_);refine Qm rfl ?_;refine Q9 (T_x (B_xs ?_))
      refine Q0 (Qc ?_);refine M0 (Qa J J J) J J ?_;refine M0 (Qs J J J J (by omega)) J J ?_;refine M0 (Qb J J J) J J ?_
      refine Qe (Q0 ?_)
      exact ⟨bs.length - (j + 1),by omega,(fun (j : Nat) (kr : List TBody) => (⟨_,[(0,.o (.c (.ptr 0 0))),(1,L row),(4,I (els w.Scores).length),(8,.o (.c (.ref 5))),(9,I j)],[.box [.ref 1,jn w.Tick,jn w.Seed,.ref 2,.ref 3],.row 1 (els w.Level.Rows),.row 1 (els w.Scores),.row 9 (els bs),.gh 0 (.c (.ptr 0 0)),.row 9 (els kr)]⟩ : St)) (j + 1) (kr),W_go [0,1,2,3,4,5] (by decide) rfl (rfl) (.cons rfl (.cons rfl (.cons rfl (.cons rfl (.cons rfl (.nil)))))),j + 1,kr,by omega,hm,rfl⟩
    | false =>
      by_cases h1 : c.Timer - 1 = 0
      · have f6 : decide (c.Timer - 1 = 0) = true := decide_eq_true h1
        have hm := mv_none hp_B hb (mn (fun q => hA q.1) k1 (.inr (by rw [← hct]; exact h1)))
        refine Qd (Qd (Qc ?_));refine M0 (Qf J J J J (by decide)) J J ?_;refine M0 (Qg J J J J J) J J ?_
        refine M0 (Qv J J J J (by assumption)) J J ?_;refine Qe (Q0 ?_);refine Qm rfl ?_;refine Qd (Qc ?_)
        refine M0 (Qf J J J J (by decide)) J J ?_;refine M0 (Qg J J J J J) J J ?_;refine M0 (Xc J J J J (by omega)) J J ?_
        refine M0 (Qf J J J J (by decide)) J J ?_;refine Q5 J J J J J J J J ?_;refine Qe (Q0 (Qd (Qc ?_)))
        refine M0 (Qa J J J) J J ?_;refine M0 (Qa J J J) J J ?_;refine Qi J J J ?_;refine M0 (Qf J J J J (by decide)) J J ?_
        refine Qi J J J ?_;refine M0 (Qg J J J J J) J J ?_;refine Qi J J J ?_;refine M0 (Qv J J J J (by assumption)) J J ?_
        refine M0 (Qn J J J J) J J ?_;refine Qe (Q0 ?_);refine Qm rfl ?_;refine Q9 (T_x (B_xs (Q0 (Qc ?_))))
        refine M0 (Qa J J J) J J ?_;refine M0 (Qs J J J J (by omega)) J J ?_;refine M0 (Qb J J J) J J ?_;refine Qe (Q0 ?_)
        exact ⟨bs.length - (j + 1),by omega,(fun (j : Nat) (kr : List TBody) => (⟨_,[(0,.o (.c (.ptr 0 0))),(1,L row),(4,I (els w.Scores).length),(8,.o (.c (.ref 5))),(9,I j)],[.box [.ref 1,jn w.Tick,jn w.Seed,.ref 2,.ref 3],.row 1 (els w.Level.Rows),.row 1 (els w.Scores),.row 9 (els bs),.gh 0 (.c (.ptr 0 0)),.row 9 (els kr)]⟩ : St)) (j + 1) (kr),W_go [0,1,2,3,4,5] (by decide) rfl (rfl) (.cons rfl (.cons rfl (.cons rfl (.cons rfl (.cons rfl (.nil)))))),j + 1,kr,by omega,hm,rfl⟩
      · have f6 : decide (c.Timer - 1 = 0) = false := decide_eq_false h1
        have hm := mv_some hp_B hb (ms (fun q => hA q.1) k1 (fun q => q.elim (fun q => Bool.false_ne_true q) (fun q => h1 (by rw [hct]; exact q))))
        refine Qd (Qd (Qc ?_));refine M0 (Qf J J J J (by decide)) J J ?_;refine M0 (Qg J J J J J) J J ?_
        refine M0 (Qv J J J J (by assumption)) J J ?_;refine Qe (Q0 ?_);refine Qm rfl ?_;refine Qd (Qc ?_)
        refine M0 (Qf J J J J (by decide)) J J ?_;refine M0 (Qg J J J J J) J J ?_;refine M0 (Xc J J J J (by omega)) J J ?_
        refine M0 (Qf J J J J (by decide)) J J ?_;refine Q5 J J J J J J J J ?_;refine Qe (Q0 (Qd (Qc ?_)))
        refine M0 (Qa J J J) J J ?_;refine M0 (Qa J J J) J J ?_;refine Qi J J J ?_;refine M0 (Qf J J J J (by decide)) J J ?_
        refine Qi J J J ?_;refine M0 (Qg J J J J J) J J ?_;refine Qi J J J ?_;refine M0 (Qv J J J J (by assumption)) J J ?_
        refine M0 (Qn J J J J) J J ?_;refine Qe (Q0 ?_);refine Ql rfl ?_;refine Qh (Q0 (Qc ?_))
        refine M0 (Qa J J J) J J ?_;refine M0 (Qu J J J J J J) J J ?_;refine M1 (q_bslice J J J J J J) J J ?_
        refine M_appo J J J J J J J J J J J J J J (by omega) (by omega) ?_;refine M0 (Qb J J J) J J ?_;refine Qe (Q1 (Q0 ?_))
        refine Qc ?_;refine M0 (Qa J J J) J J ?_;refine M0 (Qs J J J J (by omega)) J J ?_;refine M0 (Qb J J J) J J ?_;refine Qe ?_
        refine Q0 ?_
        exact ⟨bs.length - (j + 1),by omega,(fun (j : Nat) (kr : List TBody) => (⟨_,[(0,.o (.c (.ptr 0 0))),(1,L row),(4,I (els w.Scores).length),(8,.o (.c (.ref 5))),(9,I j)],[.box [.ref 1,jn w.Tick,jn w.Seed,.ref 2,.ref 3],.row 1 (els w.Level.Rows),.row 1 (els w.Scores),.row 9 (els bs),.gh 0 (.c (.ptr 0 0)),.row 9 (els kr)]⟩ : St)) (j + 1) (kr ++ [tick1 c]),W_go [0,1,2,3,4,5] (by decide) rfl (rw6 (by rw [els_app]; rfl)) (.cons rfl (.cons rfl (.cons rfl (.cons rfl (.cons rfl (.nil)))))),j + 1,kr ++ [tick1 c],by omega,hm,rfl⟩
  have hb0 : decide ((j : Int) < (els bs).length) = false := decide_eq_false (by omega)
  have hj : j = bs.length := by omega
  have hm : kr = movedM w row := by rw [hp_B,hj,List.take_length,hmv]; rfl
  subst hm
  clear hmv hL htm hp_B
  refine Qd (Qd (Qc ?_));refine M0 (Qa J J J) J J ?_;refine M0 (Qa J J J) J J ?_;refine M0 (Qz J J J) J J ?_
  refine M0 (Qf J J J J (by decide)) J J ?_;refine M0 (Qg J J J J J) J J ?_;refine M0 (q_lenr J J J J) J J ?_
  refine M0 (Qr J J J J (by assumption)) J J ?_;refine Qe (Q0 ?_);refine Ql rfl ?_;refine Q9 (T_x (T_x (B_xs (Q0 ?_))))
  refine Qd (Qc ?_);refine M0 (Qa J J J) J J ?_;refine M0 (Qa J J J) J J ?_;refine M0 (Qz J J J) J J ?_
  refine M0 (Qf J J J J (by decide)) J J ?_;refine Q5 J J J J J J J J ?_;refine Qe (Q0 (Qd (Qc ?_)))
  refine M0 (Qa J J J) J J ?_
  refine AL.weak (st' := (⟨_,[(0,.o (.c (.ptr 0 0))),(1,L row),(4,I (els w.Scores).length),(178,.o (.c (.ptr 0 0)))],[.box [.ref 1,jn w.Tick,jn w.Seed,.ref 2,.ref 3],.row 1 (els w.Level.Rows),.row 1 (els w.Scores),.row 9 (els (movedM w row)),.gh 0 (.c (.ptr 0 0))]⟩ : St)) (W_go [0,1,2,5,4] (by decide) rfl (rfl) (.cons rfl (.cons rfl (.cons rfl (.cons rfl (.nil)))))) ?_
  refine Xd (lo := [_,_,_,_]) (gs := [(0,.c (.ptr 0 0))]) (lo' := [_,_,_,_]) (new := []) [0,1,2,3] [(0,0,.ptr 0 0)] (d1) J J J J J J J J J J J J J J J J J ?_
  refine Qe (Q0 (Qd (Qc ?_)));refine M0 (Qa J J J) J J ?_;refine M0 (Qz J J J) J J ?_
  refine M0 (Qf J J J J (by decide)) J J ?_;refine M0 (Qg J J J J J) J J ?_;refine M0 (Qs J J J J (by omega)) J J ?_
  refine M0 (Qz J J J) J J ?_;refine M0 (Qf J J J J (by decide)) J J ?_;refine Q5 J J J J J J J J ?_;refine Qe (Q0 ?_)
  refine Qd (Qc ?_);refine M0 (Qa J J J) J J ?_;refine M0 (Qa J J J) J J ?_;refine M0 (Qz J J J) J J ?_
  refine M0 (Qf J J J J (by decide)) J J ?_;refine M0 (Qg J J J J J) J J ?_
  refine AL.weak (st' := (⟨_,[(0,.o (.c (.ptr 0 0))),(1,L row),(4,I (els w.Scores).length),(187,.o (.c (.ptr 0 0))),(191,I w.Seed)],[.box [.ref 1,jn (w.Tick + 1),jn w.Seed,.ref 2,.ref 3],.row 1 (els w.Level.Rows),.row 1 (els s4),.row 9 (els b4),.gh 0 (.c (.ptr 0 0))]⟩ : St)) (W_go [0,1,2,3,4] (by decide) rfl (rfl) (.cons rfl (.cons rfl (.cons rfl (.cons rfl (.cons rfl (.nil))))))) ?_
  clear d1
  refine M0 (Qj J J (e1) rfl) J J ?_;refine M0 (Qz J J J) J J ?_;refine M0 (Qf J J J J (by decide)) J J ?_
  refine Q5 J J J J J J J J ?_;refine Qe (Q0 (Qd (Qc ?_)));refine M0 (Qa J J J) J J ?_
  refine M0 (Qz J J J) J J ?_;refine M0 (Qf J J J J (by decide)) J J ?_;refine M0 (Qu J J J J J J) J J ?_
  refine AL.weak (st' := (⟨_,[(0,.o (.c (.ptr 0 0))),(1,L row),(4,I (els w.Scores).length),(198,.o (.ag [.ref 1]))],[.box [.ref 1,jn (w.Tick + 1),jn (nextR w.Seed),.ref 2,.ref 3],.row 1 (els w.Level.Rows),.row 1 (els s4),.row 9 (els b4),.gh 0 (.c (.ptr 0 0))]⟩ : St)) (W_go [0,1,2,3,4] (by decide) rfl (rfl) (.cons rfl (.cons rfl (.cons rfl (.cons rfl (.nil)))))) ?_
  clear e1
  obtain ⟨sd,hsd2⟩ : ∃ sd,sd = nextR w.Seed := ⟨_,rfl⟩
  rw [← hsd2] at hnr
  rw [← hsd2]
  by_cases q1 : (w.Tick + 1) % 16 ≠ 0
  · have g1 : decide ((w.Tick + 1) % 16 ≠ 0) = true := decide_eq_true q1
    rw [last_1 (.inl q1)]
    refine M1 (q_call J J (e2) J J J) J J ?_;refine M0 (Qb J J J) J J ?_;refine Qe (Q0 (Qd (Qd (Qc ?_))))
    refine M0 (Qa J J J) J J ?_;refine M0 (Qz J J J) J J ?_;refine M0 (Qf J J J J (by decide)) J J ?_
    refine M0 (Qg J J J J J) J J ?_;refine M0 (q_rem J J J J (by omega)) J J ?_;refine M0 (Qw J J J J (by assumption)) J J ?_
    refine M0 (Qa J J J) J J ?_;refine Qp J J J J J J ?_;refine Qp J J J J J J ?_;refine Qp J J J J J J ?_
    refine M0 (Qo J J J J) J J ?_;refine M0 (Qa J J J) J J ?_;refine Qp J J J J J J ?_;refine Qp J J J J J J ?_
    refine Qp J J J J J J ?_;refine Qp J J J J J J ?_;refine Qp J J J J J J ?_;refine Qp J J J J J J ?_
    refine M0 (Qo J J J J) J J ?_;refine Qe (Q0 ?_);refine Qm rfl ?_;refine Xa (T_r (F_r ?_))
    exact E_none rfl (W_end [0,1,2,3,4] (by decide) J J J)
  have g1 : decide ((w.Tick + 1) % 16 ≠ 0) = false := decide_eq_false q1
  by_cases q2 : (spotsM w.Level).length = 0
  · have g2 : decide (((els (spotsM w.Level)).length : Int) = 0) = true := decide_eq_true (by omega)
    rw [last_1 (.inr (.inl q2))]
    refine M1 (q_call J J (e2) J J J) J J ?_;refine M0 (Qb J J J) J J ?_;refine Qe (Q0 (Qd (Qd (Qc ?_))))
    refine M0 (Qa J J J) J J ?_;refine M0 (Qz J J J) J J ?_;refine M0 (Qf J J J J (by decide)) J J ?_
    refine M0 (Qg J J J J J) J J ?_;refine M0 (q_rem J J J J (by omega)) J J ?_;refine M0 (Qw J J J J (by assumption)) J J ?_
    refine M0 (Qa J J J) J J ?_;refine Qi J J J ?_;refine M0 (Qa J J J) J J ?_;refine Qi J J J ?_
    refine M0 (q_lenr J J J J) J J ?_;refine Qi J J J ?_;refine M0 (Qv J J J J (by assumption)) J J ?_;refine M0 (Qn J J J J) J J ?_
    refine M0 (Qa J J J) J J ?_;refine Qp J J J J J J ?_;refine Qp J J J J J J ?_;refine Qp J J J J J J ?_
    refine Qp J J J J J J ?_;refine Qp J J J J J J ?_;refine Qp J J J J J J ?_;refine M0 (Qo J J J J) J J ?_;refine Qe ?_
    refine Q0 ?_;refine Qm rfl ?_;refine Xa (T_r (F_r ?_))
    exact E_none rfl (W_end [0,1,2,3,4] (by decide) J J J)
  have g2 : decide (((els (spotsM w.Level)).length : Int) = 0) = false := decide_eq_false (by omega)
  by_cases q3 : 24 ≤ b4.length
  · have g3 : decide (((els b4).length : Int) ≥ 24) = true := decide_eq_true (by omega)
    rw [last_1 (.inr (.inr q3))]
    refine M1 (q_call J J (e2) J J J) J J ?_;refine M0 (Qb J J J) J J ?_;refine Qe (Q0 (Qd (Qd (Qc ?_))))
    refine M0 (Qa J J J) J J ?_;refine M0 (Qz J J J) J J ?_;refine M0 (Qf J J J J (by decide)) J J ?_
    refine M0 (Qg J J J J J) J J ?_;refine M0 (q_rem J J J J (by omega)) J J ?_;refine M0 (Qw J J J J (by assumption)) J J ?_
    refine M0 (Qa J J J) J J ?_;refine Qi J J J ?_;refine M0 (Qa J J J) J J ?_;refine Qi J J J ?_
    refine M0 (q_lenr J J J J) J J ?_;refine Qi J J J ?_;refine M0 (Qv J J J J (by assumption)) J J ?_;refine M0 (Qn J J J J) J J ?_
    refine M0 (Qa J J J) J J ?_;refine Qi J J J ?_;refine M0 (Qa J J J) J J ?_;refine M0 (Qt.yes J J J (Qz J J J)) J J ?_
    refine Qi J J J ?_;refine M0 (Qf J J J J (by decide)) J J ?_;refine Qi J J J ?_;refine M0 (Qg J J J J J) J J ?_
    refine Qi J J J ?_;refine M0 (q_lenr J J J J) J J ?_;refine Qi J J J ?_;refine M0 (q_geqK J J J J (by assumption)) J J ?_
    refine M0 (Qn J J J J) J J ?_;refine Qe (Q0 ?_);refine Qm rfl ?_;refine Xa (T_r (F_r ?_))
    exact E_none rfl (W_end [0,1,2,3,4] (by decide) J J J)
  have g3 : decide (((els b4).length : Int) ≥ 24) = false := decide_eq_false (by omega)
  have q : ¬ ((w.Tick + 1) % 16 ≠ 0 ∨ (spotsM w.Level).length = 0 ∨ 24 ≤ b4.length) := fun h => h.elim q1 fun h => h.elim q2 q3
  obtain ⟨i,hi1,hi2,hi3⟩ := spotOf_mem (seed := sd) q2
  obtain ⟨x,y,hxy,hx,hy⟩ := spot_rng hl (List.mem_of_getElem? hi3)
  have e3 := S_RandomBelow sd ((els (spotsM w.Level)).length : Int) hnr ⟨by omega,by omega⟩
  rw [show belowR sd ((els (spotsM w.Level)).length : Int) = i by rw [hlsp]; exact hi1] at e3
  have hsp : (els (spotsM w.Level))[(i : Int).toNat]? = some (Enc.e [x,y]) := els_sm (by rw [hi3,hxy])
  have hx0 : (els [x,y])[(0 : Int).toNat]? = some (Enc.e x) := rfl
  have hy0 : (els [x,y])[(1 : Int).toNat]? = some (Enc.e y) := rfl
  refine M1 (q_call J J (e2) J J J) J J ?_;refine M0 (Qb J J J) J J ?_;refine Qe (Q0 (Qd (Qd (Qc ?_))))
  refine M0 (Qa J J J) J J ?_;refine M0 (Qz J J J) J J ?_;refine M0 (Qf J J J J (by decide)) J J ?_
  refine M0 (Qg J J J J J) J J ?_;refine M0 (q_rem J J J J (by omega)) J J ?_;refine M0 (Qw J J J J (by assumption)) J J ?_
  refine M0 (Qa J J J) J J ?_;refine Qi J J J ?_;refine M0 (Qa J J J) J J ?_;refine Qi J J J ?_
  refine M0 (q_lenr J J J J) J J ?_;refine Qi J J J ?_;refine M0 (Qv J J J J (by assumption)) J J ?_;refine M0 (Qn J J J J) J J ?_
  refine M0 (Qa J J J) J J ?_;refine Qi J J J ?_;refine M0 (Qa J J J) J J ?_;refine M0 (Qt.yes J J J (Qz J J J)) J J ?_
  refine Qi J J J ?_;refine M0 (Qf J J J J (by decide)) J J ?_;refine Qi J J J ?_;refine M0 (Qg J J J J J) J J ?_
  refine Qi J J J ?_;refine M0 (q_lenr J J J J) J J ?_;refine Qi J J J ?_;refine M0 (q_geqK J J J J (by assumption)) J J ?_
  refine M0 (Qn J J J J) J J ?_;refine Qe (Q0 ?_);refine Ql rfl ?_;refine Qh (Q0 (Qd (Qc ?_)))
  refine M0 (Qa J J J) J J ?_;refine M0 (Qz J J J) J J ?_;refine M0 (Qf J J J J (by decide)) J J ?_
  refine M0 (Qg J J J J J) J J ?_;refine M0 (Qa J J J) J J ?_;refine M0 (q_lenr J J J J) J J ?_
  refine M1 (q_call J J (e3) J J J) J J ?_;refine M0 (Q8 J J J) J J ?_;refine M0 (q_ext J J J J) J J ?_
  refine M0 (q_ext J J J J) J J ?_;refine M0 (Qb J J J) J J ?_;refine M0 (Qb J J J) J J ?_;refine Qe (Q0 (Qd ?_))
  refine Qc ?_;refine M0 (Qa J J J) J J ?_;refine M0 (Qa J J J) J J ?_;refine M0 (Qz J J J) J J ?_
  refine M0 (Qf J J J J (by decide)) J J ?_;refine Q5 J J J J J J J J ?_;refine Qe (Q0 (Qd (Qd (Qc ?_))))
  refine M0 (Qa J J J) J J ?_;refine M0 (Qb J J J) J J ?_;refine Qe (Q0 (Qk ?_))
  refine AWP.pre (st' := (⟨_,[(0,.o (.c (.ptr 0 0))),(4,I (els w.Scores).length),(13,.o (.c (.ref 5))),(15,I (i : Int)),(16,I (els w.Scores).length)],[.box [.ref 1,jn (w.Tick + 1),jn (nextR sd),.ref 2,.ref 3],.row 1 (els w.Level.Rows),.row 1 (els s4),.row 9 (els b4),.gh 0 (.c (.ptr 0 0)),.row 1 (els (spotsM w.Level))]⟩ : St)) ?_ (W_go [0,1,2,3,4,5] (by decide) rfl (rfl) (.cons rfl (.cons rfl (.cons rfl (.cons rfl (.cons rfl (.nil)))))))
  refine A_loop (fun m st => ∃ t : Nat,t + m = (b4.length - w.Scores.length) ∧ (itemAt (b4.take (w.Scores.length + t)) x y = false) ∧ st = (fun t : Nat => (⟨_,[(0,.o (.c (.ptr 0 0))),(4,I (els w.Scores).length),(13,.o (.c (.ref 5))),(15,I (i : Int)),(16,I (((els w.Scores).length + t : Nat) : Int))],[.box [.ref 1,jn (w.Tick + 1),jn (nextR sd),.ref 2,.ref 3],.row 1 (els w.Level.Rows),.row 1 (els s4),.row 9 (els b4),.gh 0 (.c (.ptr 0 0)),.row 1 (els (spotsM w.Level))]⟩ : St)) t) ((b4.length - w.Scores.length)) ⟨(fun t : Nat => (⟨_,[(0,.o (.c (.ptr 0 0))),(4,I (els w.Scores).length),(13,.o (.c (.ref 5))),(15,I (i : Int)),(16,I (((els w.Scores).length + t : Nat) : Int))],[.box [.ref 1,jn (w.Tick + 1),jn (nextR sd),.ref 2,.ref 3],.row 1 (els w.Level.Rows),.row 1 (els s4),.row 9 (els b4),.gh 0 (.c (.ptr 0 0)),.row 1 (els (spotsM w.Level))]⟩ : St)) 0,W_go [0,1,2,3,4,5] (by decide) rfl (rfl) (.cons rfl (.cons rfl (.cons rfl (.cons rfl (.cons (I_eq (by omega)) (.nil)))))),0,by omega,at_pl hM1 x y,rfl⟩ ?_
  rintro m_C _ ⟨t,hk_C,hp_C,rfl⟩
  by_cases hlt : t < b4.length - w.Scores.length
  · have hb0 : decide ((((els w.Scores).length + t : Nat) : Int) < (els b4).length) = true := decide_eq_true (by omega)
    obtain ⟨b,hbb⟩ := some_sm (xs := b4) (i := w.Scores.length + t) (by omega)
    have he := at_el hbb
    refine Qd (Qd (Qc ?_));refine M0 (Qa J J J) J J ?_;refine M0 (Qa J J J) J J ?_;refine M0 (Qz J J J) J J ?_
    refine M0 (Qf J J J J (by decide)) J J ?_;refine M0 (Qg J J J J J) J J ?_;refine M0 (q_lenr J J J J) J J ?_
    refine M0 (Qr J J J J (by assumption)) J J ?_;refine Qe (Q0 ?_);refine Qm rfl ?_;refine Qh (Q0 (Qd (Qk ?_)))
    refine Qd ?_
    by_cases k1 : b.Kind = 2
    case neg =>
      have p1 : decide (b.Kind = 2) = false := decide_eq_false k1
      refine A_draw [[],[0],[0,1],[0,1,2],[],[0,1,2,3,4],[0,1,2,3,4,5],[0,1,2,3,4,5,6],[0,1,2,3,4,5,6,7],[0,1,2,3,4,5,6,7,8],[0,1,2,3,4,5,6,7,8,9],[0,1,2,3,4,5,6,7,8,9,10],[0,1,2,3,4,5,6,7,8,9,10,11],[0,1,2,3,4,5,6,7,8,9,10,11,12],[0,1,2,3,4,5,6,7,8,9],[0,1,2,3,4,5,6,7,8,9,10,11,12,13,14],[0,1,2,3,4,5,6,7,8,9,10,11,12,13,14,15],[0,1,2,3,4,5,6,7,8,9,10,11,12,13,14,15,16],[0,1,2,3,4,5,6,7,8,9],[0,1,2,3,4,5,6,7,8,9],[0,1,2,3,4,5,6,7,8,9,18,19],[0,1,2,3,4,5,6,7,8,9,18,19,20],[0,1,2,3,4,5,6,7,8,9,18,19,20,21],[0,1,2,3,4,5,6,7,8,9,18,19,20,21,22],[0,1,2,3,4,5,6,7,8,9,10,11,12,13,14,15,16,17,18,19,20,21,22,23],[0,1,2,3,4,5,6,7,8,9,10,11,12,13,14,15,16,17,18,19,20,21,22,23,24],[0,1,2,3,4,5,6,7,8,9,10,11,12,13,14,15,16,17,18,19,20,21,22,23,24,25],[0,1,2,3,4,5,6,7,8,9,10,11,12,13,14,15,16,17,18,19,20,21,22,23,24,25,26],[0,1,2,3,4,5,6,7,8,9,10,11,12,13,14,15,16,17,18,19,20,21,22,23,24,25,26,27],[0,1,2,3,4,5,6,7,8,9,10,11,12,13,14,15,16,17,18,19,20,21,22,23,24,25,26,27,28],[0,1,2,3,4,5,6,7,8,9,10,11,12,13,14,15,16,17,18,19,20,21,22,23,24,25,26,27,28,29],[0,1,2,3,4,5,6,7,8,9,10,11,12,13,14,15,16,17,18,19,20,21,22,23,24,25,26],[0,1,2,3,4,5,6,7,8,9,10,11,12,13,14,15,16,17,18,19,20,21,22,23,24,25,26,27,28,29,30,31],[0,1,2,3,4,5,6,7,8,9,10,11,12,13,14,15,16,17,18,19,20,21,22,23,24,25,26,27,28,29,30,31,32],[0,1,2,3,4,5,6,7,8,9,10,11,12,13,14,15,16,17,18,19,20,21,22,23,24,25,26,27,28,29,30,31,32,33],[0,1,2,3,4,5,6,7,8,9,10,11,12,13,14,15,16,17,18,19,20,21,22,23,24,25,26],[0,1,2,3,4,5,6,7,8,9,10,11,12,13,14,15,16,17,18,19,20,21,22,23,24,25,26],[0,1,2,3,4,5,6,7,8,9,10,11,12,13,14,15,16,17,18,19,20,21,22,23,24,25,26,35,36],[0,1,2,3,4,5,6,7,8,9,10,11,12,13,14,15,16,17,18,19,20,21,22,23,24,25,26,35,36,37],[0,1,2,3,4,5,6,7,8,9,10,11,12,13,14,15,16,17,18,19,20,21,22,23,24,25,26,35,36,37,38],[0,1,2,3,4,5,6,7,8,9,10,11,12,13,14,15,16,17,18,19,20,21,22,23,24,25,26,35,36,37,38,39],[0,1,2,3,4,5,6,7,8,9,10,11,12,13,14,15,16,17,18,19,20,21,22,23,24,25,26,27,28,29,30,31,32,33,34,35,36,37,38,39,40],[0,1,2,3,4,5,6,7,8,9,10,11,12,13,14,15,16,17,18,19,20,21,22,23,24,25,26,27,28,29,30,31,32,33,34,35,36,37,38,39,40,41]] [[],[243],[243,244],[243,244,245],[],[243,244,245,246,247],[243,244,245,246,247,248],[243,244,245,246,247,248,249],[243,244,245,246,247,248,249,250],[243,244,245,246,247,248,249,250,251],[243,244,245,246,247,248,249,250,251,252],[243,244,245,246,247,248,249,250,251,252,253],[243,244,245,246,247,248,249,250,251,252,253,254],[243,244,245,246,247,248,249,250,251,252,253,254,255],[243,244,245,246,247,248,249,250,251,252],[243,244,245,246,247,248,249,250,251,252,253,254,255,256,257],[243,244,245,246,247,248,249,250,251,252,253,254,255,256,257,258],[243,244,245,246,247,248,249,250,251,252,253,254,255,256,257,258,259],[243,244,245,246,247,248,249,250,251,252],[243,244,245,246,247,248,249,250,251,252],[243,244,245,246,247,248,249,250,251,252,261,262],[243,244,245,246,247,248,249,250,251,252,261,262,263],[243,244,245,246,247,248,249,250,251,252,261,262,263,264],[243,244,245,246,247,248,249,250,251,252,261,262,263,264,265],[243,244,245,246,247,248,249,250,251,252,253,254,255,256,257,258,259,260,261,262,263,264,265,266],[243,244,245,246,247,248,249,250,251,252,253,254,255,256,257,258,259,260,261,262,263,264,265,266,267],[243,244,245,246,247,248,249,250,251,252,253,254,255,256,257,258,259,260,261,262,263,264,265,266,267,268],[243,244,245,246,247,248,249,250,251,252,253,254,255,256,257,258,259,260,261,262,263,264,265,266,267,268,269],[243,244,245,246,247,248,249,250,251,252,253,254,255,256,257,258,259,260,261,262,263,264,265,266,267,268,269,270],[243,244,245,246,247,248,249,250,251,252,253,254,255,256,257,258,259,260,261,262,263,264,265,266,267,268,269,270,271],[243,244,245,246,247,248,249,250,251,252,253,254,255,256,257,258,259,260,261,262,263,264,265,266,267,268,269,270,271,272],[243,244,245,246,247,248,249,250,251,252,253,254,255,256,257,258,259,260,261,262,263,264,265,266,267,268,269],[243,244,245,246,247,248,249,250,251,252,253,254,255,256,257,258,259,260,261,262,263,264,265,266,267,268,269,270,271,272,273,274],[243,244,245,246,247,248,249,250,251,252,253,254,255,256,257,258,259,260,261,262,263,264,265,266,267,268,269,270,271,272,273,274,275],[243,244,245,246,247,248,249,250,251,252,253,254,255,256,257,258,259,260,261,262,263,264,265,266,267,268,269,270,271,272,273,274,275,276],[243,244,245,246,247,248,249,250,251,252,253,254,255,256,257,258,259,260,261,262,263,264,265,266,267,268,269],[243,244,245,246,247,248,249,250,251,252,253,254,255,256,257,258,259,260,261,262,263,264,265,266,267,268,269],[243,244,245,246,247,248,249,250,251,252,253,254,255,256,257,258,259,260,261,262,263,264,265,266,267,268,269,278,279],[243,244,245,246,247,248,249,250,251,252,253,254,255,256,257,258,259,260,261,262,263,264,265,266,267,268,269,278,279,280],[243,244,245,246,247,248,249,250,251,252,253,254,255,256,257,258,259,260,261,262,263,264,265,266,267,268,269,278,279,280,281],[243,244,245,246,247,248,249,250,251,252,253,254,255,256,257,258,259,260,261,262,263,264,265,266,267,268,269,278,279,280,281,282],[243,244,245,246,247,248,249,250,251,252,253,254,255,256,257,258,259,260,261,262,263,264,265,266,267,268,269,270,271,272,273,274,275,276,277,278,279,280,281,282,283],[243,244,245,246,247,248,249,250,251,252,253,254,255,256,257,258,259,260,261,262,263,264,265,266,267,268,269,270,271,272,273,274,275,276,277,278,279,280,281,282,283,284]] [[247],[247],[247],[247],[243,244,245,246],[],[],[],[],[],[257,261,262,263,264,265,266],[257,261,262,263,264,265,266],[257,261,262,263,264,265,266],[257,261,262,263,264,265,266],[253,254,255,256,261,262,263,264,265,266],[261,262,263,264,265,266],[261,262,263,264,265,266],[261,262,263,264,265,266],[253,254,255,256,257,258,259,260,262],[253,254,255,256,257,258,259,260,261],[253,254,255,256,257,258,259,260],[253,254,255,256,257,258,259,260],[253,254,255,256,257,258,259,260],[253,254,255,256,257,258,259,260],[],[],[],[274,278,279,280,281,282,283],[274,278,279,280,281,282,283],[274,278,279,280,281,282,283],[274,278,279,280,281,282,283],[270,271,272,273,278,279,280,281,282,283],[278,279,280,281,282,283],[278,279,280,281,282,283],[278,279,280,281,282,283],[270,271,272,273,274,275,276,277,279],[270,271,272,273,274,275,276,277,278],[270,271,272,273,274,275,276,277],[270,271,272,273,274,275,276,277],[270,271,272,273,274,275,276,277],[270,271,272,273,274,275,276,277],[],[]] rfl ?_
      refine DR.step (Qa J J J) J J ?_;refine DR.step (Qz J J J) J J ?_;refine DR.step (Qf J J J J (by decide)) J J ?_
      refine DR.step (Qg J J J J J) J J ?_;refine DR.step (Qa J J J) J J ?_;refine DR.step (Q3 J J J J J (by omega) (by omega)) J J ?_
      refine DR.step (q_flde J J J J (by decide)) J J ?_;refine DR.step (Q7 J J J J (by assumption) rfl) J J ?_
      refine DR.step (Qv J J J J (by assumption)) J J ?_;refine DR.step (Qa J J J) J J ?_;refine DR.step (Qt.no J J J J) J J ?_
      refine DR.step (Qt.no J J J J) J J ?_;refine DR.step (Qt.no J J J J) J J ?_;refine DR.step (Qt.no J J J J) J J ?_
      refine DR.step (Qt.no J J J J) J J ?_;refine DR.step (Qt.no J J J J) J J ?_;refine DR.step (Qt.no J J J J) J J ?_
      refine DR.step (Qt.no J J J J) J J ?_;refine DR.step (Qt.no J J J J) J J ?_;refine DR.step (Qt.no J J J J) J J ?_
      refine DR.step (Qt.no J J J J) J J ?_;refine DR.step (Qt.no J J J J) J J ?_;refine DR.step (Qt.no J J J J) J J ?_
      refine DR.step (Qt.no J J J J) J J ?_;refine DR.step (Qt.no J J J J) J J ?_;refine DR.step (Qn J J J J) J J ?_
      refine DR.step (Qa J J J) J J ?_;refine DR.step (Qt.no J J J J) J J ?_;refine DR.step (Qt.no J J J J) J J ?_
      refine DR.step (Qt.no J J J J) J J ?_;refine DR.step (Qt.no J J J J) J J ?_;refine DR.step (Qt.no J J J J) J J ?_
      refine DR.step (Qt.no J J J J) J J ?_;refine DR.step (Qt.no J J J J) J J ?_;refine DR.step (Qt.no J J J J) J J ?_
      refine DR.step (Qt.no J J J J) J J ?_;refine DR.step (Qt.no J J J J) J J ?_;refine DR.step (Qt.no J J J J) J J ?_
      refine DR.step (Qt.no J J J J) J J ?_;refine DR.step (Qt.no J J J J) J J ?_;refine DR.step (Qt.no J J J J) J J ?_
      refine DR.step (Qt.no J J J J) J J ?_;refine DR.step (Qn J J J J) J J ?_;refine DR.stop (by kernel_rfl) (by kernel_rfl) ?_
      refine Qe (Q0 ?_);refine Ql rfl ?_;refine Qh (Q1 (Q0 (Qc ?_)));refine M0 (Qa J J J) J J ?_
      refine M0 (Qs J J J J (by omega)) J J ?_;refine M0 (Qb J J J) J J ?_;refine Qe (Q0 ?_)
      exact ⟨(b4.length - w.Scores.length) - (t + 1),by omega,(fun t : Nat => (⟨_,[(0,.o (.c (.ptr 0 0))),(4,I (els w.Scores).length),(13,.o (.c (.ref 5))),(15,I (i : Int)),(16,I (((els w.Scores).length + t : Nat) : Int))],[.box [.ref 1,jn (w.Tick + 1),jn (nextR sd),.ref 2,.ref 3],.row 1 (els w.Level.Rows),.row 1 (els s4),.row 9 (els b4),.gh 0 (.c (.ptr 0 0)),.row 1 (els (spotsM w.Level))]⟩ : St)) (t + 1),W_go [0,1,2,3,4,5] (by decide) rfl (rfl) (.cons rfl (.cons rfl (.cons rfl (.cons rfl (.cons (I_eq (by omega)) (.nil)))))),t + 1,by omega,at_go hbb (fun h => k1 h.1) hp_C,rfl⟩
    have p1 : decide (b.Kind = 2) = true := decide_eq_true k1
    by_cases k2 : b.X = x
    case neg =>
      have p2 : decide (b.X = x) = false := decide_eq_false k2
      refine A_draw [[],[0],[0,1],[0,1,2],[],[0,1,2,3,4],[0,1,2,3,4,5],[0,1,2,3,4,5,6],[0,1,2,3,4,5,6,7],[0,1,2,3,4,5,6,7,8],[0,1,2,3,4,5,6,7,8,9],[0,1,2,3,4,5,6,7,8,9,10],[0,1,2,3,4,5,6,7,8,9,10,11],[0,1,2,3,4,5,6,7,8,9,10,11,12],[0,1,2,3,4,5,6,7,8,9],[0,1,2,3,4,5,6,7,8,9,10,11,12,13,14],[0,1,2,3,4,5,6,7,8,9,10,11,12,13,14,15],[0,1,2,3,4,5,6,7,8,9,10,11,12,13,14,15,16],[0,1,2,3,4,5,6,7,8,9],[0,1,2,3,4,5,6,7,8,9],[0,1,2,3,4,5,6,7,8,9,18,19],[0,1,2,3,4,5,6,7,8,9,18,19,20],[0,1,2,3,4,5,6,7,8,9,18,19,20,21],[0,1,2,3,4,5,6,7,8,9,18,19,20,21,22],[0,1,2,3,4,5,6,7,8,9,10,11,12,13,14,15,16,17,18,19,20,21,22,23],[0,1,2,3,4,5,6,7,8,9,10,11,12,13,14,15,16,17,18,19,20,21,22,23,24],[0,1,2,3,4,5,6,7,8,9,10,11,12,13,14,15,16,17,18,19,20,21,22,23,24,25],[0,1,2,3,4,5,6,7,8,9,10,11,12,13,14,15,16,17,18,19,20,21,22,23,24,25,26],[0,1,2,3,4,5,6,7,8,9,10,11,12,13,14,15,16,17,18,19,20,21,22,23,24,25,26,27],[0,1,2,3,4,5,6,7,8,9,10,11,12,13,14,15,16,17,18,19,20,21,22,23,24,25,26,27,28],[0,1,2,3,4,5,6,7,8,9,10,11,12,13,14,15,16,17,18,19,20,21,22,23,24,25,26,27,28,29],[0,1,2,3,4,5,6,7,8,9,10,11,12,13,14,15,16,17,18,19,20,21,22,23,24,25,26],[0,1,2,3,4,5,6,7,8,9,10,11,12,13,14,15,16,17,18,19,20,21,22,23,24,25,26,27,28,29,30,31],[0,1,2,3,4,5,6,7,8,9,10,11,12,13,14,15,16,17,18,19,20,21,22,23,24,25,26,27,28,29,30,31,32],[0,1,2,3,4,5,6,7,8,9,10,11,12,13,14,15,16,17,18,19,20,21,22,23,24,25,26,27,28,29,30,31,32,33],[0,1,2,3,4,5,6,7,8,9,10,11,12,13,14,15,16,17,18,19,20,21,22,23,24,25,26],[0,1,2,3,4,5,6,7,8,9,10,11,12,13,14,15,16,17,18,19,20,21,22,23,24,25,26],[0,1,2,3,4,5,6,7,8,9,10,11,12,13,14,15,16,17,18,19,20,21,22,23,24,25,26,35,36],[0,1,2,3,4,5,6,7,8,9,10,11,12,13,14,15,16,17,18,19,20,21,22,23,24,25,26,35,36,37],[0,1,2,3,4,5,6,7,8,9,10,11,12,13,14,15,16,17,18,19,20,21,22,23,24,25,26,35,36,37,38],[0,1,2,3,4,5,6,7,8,9,10,11,12,13,14,15,16,17,18,19,20,21,22,23,24,25,26,35,36,37,38,39],[0,1,2,3,4,5,6,7,8,9,10,11,12,13,14,15,16,17,18,19,20,21,22,23,24,25,26,27,28,29,30,31,32,33,34,35,36,37,38,39,40],[0,1,2,3,4,5,6,7,8,9,10,11,12,13,14,15,16,17,18,19,20,21,22,23,24,25,26,27,28,29,30,31,32,33,34,35,36,37,38,39,40,41]] [[],[243],[243,244],[243,244,245],[],[243,244,245,246,247],[243,244,245,246,247,248],[243,244,245,246,247,248,249],[243,244,245,246,247,248,249,250],[243,244,245,246,247,248,249,250,251],[243,244,245,246,247,248,249,250,251,252],[243,244,245,246,247,248,249,250,251,252,253],[243,244,245,246,247,248,249,250,251,252,253,254],[243,244,245,246,247,248,249,250,251,252,253,254,255],[243,244,245,246,247,248,249,250,251,252],[243,244,245,246,247,248,249,250,251,252,253,254,255,256,257],[243,244,245,246,247,248,249,250,251,252,253,254,255,256,257,258],[243,244,245,246,247,248,249,250,251,252,253,254,255,256,257,258,259],[243,244,245,246,247,248,249,250,251,252],[243,244,245,246,247,248,249,250,251,252],[243,244,245,246,247,248,249,250,251,252,261,262],[243,244,245,246,247,248,249,250,251,252,261,262,263],[243,244,245,246,247,248,249,250,251,252,261,262,263,264],[243,244,245,246,247,248,249,250,251,252,261,262,263,264,265],[243,244,245,246,247,248,249,250,251,252,253,254,255,256,257,258,259,260,261,262,263,264,265,266],[243,244,245,246,247,248,249,250,251,252,253,254,255,256,257,258,259,260,261,262,263,264,265,266,267],[243,244,245,246,247,248,249,250,251,252,253,254,255,256,257,258,259,260,261,262,263,264,265,266,267,268],[243,244,245,246,247,248,249,250,251,252,253,254,255,256,257,258,259,260,261,262,263,264,265,266,267,268,269],[243,244,245,246,247,248,249,250,251,252,253,254,255,256,257,258,259,260,261,262,263,264,265,266,267,268,269,270],[243,244,245,246,247,248,249,250,251,252,253,254,255,256,257,258,259,260,261,262,263,264,265,266,267,268,269,270,271],[243,244,245,246,247,248,249,250,251,252,253,254,255,256,257,258,259,260,261,262,263,264,265,266,267,268,269,270,271,272],[243,244,245,246,247,248,249,250,251,252,253,254,255,256,257,258,259,260,261,262,263,264,265,266,267,268,269],[243,244,245,246,247,248,249,250,251,252,253,254,255,256,257,258,259,260,261,262,263,264,265,266,267,268,269,270,271,272,273,274],[243,244,245,246,247,248,249,250,251,252,253,254,255,256,257,258,259,260,261,262,263,264,265,266,267,268,269,270,271,272,273,274,275],[243,244,245,246,247,248,249,250,251,252,253,254,255,256,257,258,259,260,261,262,263,264,265,266,267,268,269,270,271,272,273,274,275,276],[243,244,245,246,247,248,249,250,251,252,253,254,255,256,257,258,259,260,261,262,263,264,265,266,267,268,269],[243,244,245,246,247,248,249,250,251,252,253,254,255,256,257,258,259,260,261,262,263,264,265,266,267,268,269],[243,244,245,246,247,248,249,250,251,252,253,254,255,256,257,258,259,260,261,262,263,264,265,266,267,268,269,278,279],[243,244,245,246,247,248,249,250,251,252,253,254,255,256,257,258,259,260,261,262,263,264,265,266,267,268,269,278,279,280],[243,244,245,246,247,248,249,250,251,252,253,254,255,256,257,258,259,260,261,262,263,264,265,266,267,268,269,278,279,280,281],[243,244,245,246,247,248,249,250,251,252,253,254,255,256,257,258,259,260,261,262,263,264,265,266,267,268,269,278,279,280,281,282],[243,244,245,246,247,248,249,250,251,252,253,254,255,256,257,258,259,260,261,262,263,264,265,266,267,268,269,270,271,272,273,274,275,276,277,278,279,280,281,282,283],[243,244,245,246,247,248,249,250,251,252,253,254,255,256,257,258,259,260,261,262,263,264,265,266,267,268,269,270,271,272,273,274,275,276,277,278,279,280,281,282,283,284]] [[247],[247],[247],[247],[243,244,245,246],[],[],[],[],[],[257,261,262,263,264,265,266],[257,261,262,263,264,265,266],[257,261,262,263,264,265,266],[257,261,262,263,264,265,266],[253,254,255,256,261,262,263,264,265,266],[261,262,263,264,265,266],[261,262,263,264,265,266],[261,262,263,264,265,266],[253,254,255,256,257,258,259,260,262],[253,254,255,256,257,258,259,260,261],[253,254,255,256,257,258,259,260],[253,254,255,256,257,258,259,260],[253,254,255,256,257,258,259,260],[253,254,255,256,257,258,259,260],[],[],[],[274,278,279,280,281,282,283],[274,278,279,280,281,282,283],[274,278,279,280,281,282,283],[274,278,279,280,281,282,283],[270,271,272,273,278,279,280,281,282,283],[278,279,280,281,282,283],[278,279,280,281,282,283],[278,279,280,281,282,283],[270,271,272,273,274,275,276,277,279],[270,271,272,273,274,275,276,277,278],[270,271,272,273,274,275,276,277],[270,271,272,273,274,275,276,277],[270,271,272,273,274,275,276,277],[270,271,272,273,274,275,276,277],[],[]] rfl ?_
      refine DR.step (Qa J J J) J J ?_;refine DR.step (Qz J J J) J J ?_;refine DR.step (Qf J J J J (by decide)) J J ?_
      refine DR.step (Qg J J J J J) J J ?_;refine DR.step (Qa J J J) J J ?_;refine DR.step (Q3 J J J J J (by omega) (by omega)) J J ?_
      refine DR.step (q_flde J J J J (by decide)) J J ?_;refine DR.step (Q7 J J J J (by assumption) rfl) J J ?_
      refine DR.step (Qv J J J J (by assumption)) J J ?_;refine DR.step (Qa J J J) J J ?_
      refine DR.step (Qt.yes J J J (Qa J J J)) J J ?_;refine DR.step (Qt.yes J J J (Qz J J J)) J J ?_
      refine DR.step (Qt.yes J J J (Qf J J J J (by decide))) J J ?_;refine DR.step (Qt.yes J J J (Qg J J J J J)) J J ?_
      refine DR.step (Qt.yes J J J (Qa J J J)) J J ?_;refine DR.step (Qt.yes J J J (Q3 J J J J J (by omega) (by omega))) J J ?_
      refine DR.step (Qt.yes J J J (q_flde J J J J (by decide))) J J ?_;refine DR.step (Qt.yes J J J (Q7 J J J J (by assumption) rfl)) J J ?_
      refine DR.step (Qt.yes J J J (Qa J J J)) J J ?_;refine DR.step (Qt.yes J J J (Qa J J J)) J J ?_
      refine DR.step (Qt.yes J J J (Q3 J J J J J (by omega) (by omega))) J J ?_
      refine DR.step (Qt.yes J J J (Q7 J J J J (by assumption) rfl)) J J ?_
      refine DR.step (Qt.yes J J J (Q2 J J J J (by omega) (by assumption) rfl)) J J ?_;refine DR.step (Qt.yes J J J (q_lr1 J J J J)) J J ?_
      refine DR.step (Qt.yes J J J (Qv J J J J (by assumption))) J J ?_;refine DR.step (Qo J J J J) J J ?_
      refine DR.step (Qa J J J) J J ?_;refine DR.step (Qt.no J J J J) J J ?_;refine DR.step (Qt.no J J J J) J J ?_
      refine DR.step (Qt.no J J J J) J J ?_;refine DR.step (Qt.no J J J J) J J ?_;refine DR.step (Qt.no J J J J) J J ?_
      refine DR.step (Qt.no J J J J) J J ?_;refine DR.step (Qt.no J J J J) J J ?_;refine DR.step (Qt.no J J J J) J J ?_
      refine DR.step (Qt.no J J J J) J J ?_;refine DR.step (Qt.no J J J J) J J ?_;refine DR.step (Qt.no J J J J) J J ?_
      refine DR.step (Qt.no J J J J) J J ?_;refine DR.step (Qt.no J J J J) J J ?_;refine DR.step (Qt.no J J J J) J J ?_
      refine DR.step (Qt.no J J J J) J J ?_;refine DR.step (Qn J J J J) J J ?_;refine DR.stop (by kernel_rfl) (by kernel_rfl) ?_
      refine Qe (Q0 ?_);refine Ql rfl ?_;refine Qh (Q1 (Q0 (Qc ?_)));refine M0 (Qa J J J) J J ?_
      refine M0 (Qs J J J J (by omega)) J J ?_;refine M0 (Qb J J J) J J ?_;refine Qe (Q0 ?_)
      exact ⟨(b4.length - w.Scores.length) - (t + 1),by omega,(fun t : Nat => (⟨_,[(0,.o (.c (.ptr 0 0))),(4,I (els w.Scores).length),(13,.o (.c (.ref 5))),(15,I (i : Int)),(16,I (((els w.Scores).length + t : Nat) : Int))],[.box [.ref 1,jn (w.Tick + 1),jn (nextR sd),.ref 2,.ref 3],.row 1 (els w.Level.Rows),.row 1 (els s4),.row 9 (els b4),.gh 0 (.c (.ptr 0 0)),.row 1 (els (spotsM w.Level))]⟩ : St)) (t + 1),W_go [0,1,2,3,4,5] (by decide) rfl (rfl) (.cons rfl (.cons rfl (.cons rfl (.cons rfl (.cons (I_eq (by omega)) (.nil)))))),t + 1,by omega,at_go hbb (fun h => k2 h.2.1) hp_C,rfl⟩
    have p2 : decide (b.X = x) = true := decide_eq_true k2
    by_cases k3 : b.Y = y
    case neg =>
      have p3 : decide (b.Y = y) = false := decide_eq_false k3
      refine A_draw [[],[0],[0,1],[0,1,2],[],[0,1,2,3,4],[0,1,2,3,4,5],[0,1,2,3,4,5,6],[0,1,2,3,4,5,6,7],[0,1,2,3,4,5,6,7,8],[0,1,2,3,4,5,6,7,8,9],[0,1,2,3,4,5,6,7,8,9,10],[0,1,2,3,4,5,6,7,8,9,10,11],[0,1,2,3,4,5,6,7,8,9,10,11,12],[0,1,2,3,4,5,6,7,8,9],[0,1,2,3,4,5,6,7,8,9,10,11,12,13,14],[0,1,2,3,4,5,6,7,8,9,10,11,12,13,14,15],[0,1,2,3,4,5,6,7,8,9,10,11,12,13,14,15,16],[0,1,2,3,4,5,6,7,8,9],[0,1,2,3,4,5,6,7,8,9],[0,1,2,3,4,5,6,7,8,9,18,19],[0,1,2,3,4,5,6,7,8,9,18,19,20],[0,1,2,3,4,5,6,7,8,9,18,19,20,21],[0,1,2,3,4,5,6,7,8,9,18,19,20,21,22],[0,1,2,3,4,5,6,7,8,9,10,11,12,13,14,15,16,17,18,19,20,21,22,23],[0,1,2,3,4,5,6,7,8,9,10,11,12,13,14,15,16,17,18,19,20,21,22,23,24],[0,1,2,3,4,5,6,7,8,9,10,11,12,13,14,15,16,17,18,19,20,21,22,23,24,25],[0,1,2,3,4,5,6,7,8,9,10,11,12,13,14,15,16,17,18,19,20,21,22,23,24,25,26],[0,1,2,3,4,5,6,7,8,9,10,11,12,13,14,15,16,17,18,19,20,21,22,23,24,25,26,27],[0,1,2,3,4,5,6,7,8,9,10,11,12,13,14,15,16,17,18,19,20,21,22,23,24,25,26,27,28],[0,1,2,3,4,5,6,7,8,9,10,11,12,13,14,15,16,17,18,19,20,21,22,23,24,25,26,27,28,29],[0,1,2,3,4,5,6,7,8,9,10,11,12,13,14,15,16,17,18,19,20,21,22,23,24,25,26],[0,1,2,3,4,5,6,7,8,9,10,11,12,13,14,15,16,17,18,19,20,21,22,23,24,25,26,27,28,29,30,31],[0,1,2,3,4,5,6,7,8,9,10,11,12,13,14,15,16,17,18,19,20,21,22,23,24,25,26,27,28,29,30,31,32],[0,1,2,3,4,5,6,7,8,9,10,11,12,13,14,15,16,17,18,19,20,21,22,23,24,25,26,27,28,29,30,31,32,33],[0,1,2,3,4,5,6,7,8,9,10,11,12,13,14,15,16,17,18,19,20,21,22,23,24,25,26],[0,1,2,3,4,5,6,7,8,9,10,11,12,13,14,15,16,17,18,19,20,21,22,23,24,25,26],[0,1,2,3,4,5,6,7,8,9,10,11,12,13,14,15,16,17,18,19,20,21,22,23,24,25,26,35,36],[0,1,2,3,4,5,6,7,8,9,10,11,12,13,14,15,16,17,18,19,20,21,22,23,24,25,26,35,36,37],[0,1,2,3,4,5,6,7,8,9,10,11,12,13,14,15,16,17,18,19,20,21,22,23,24,25,26,35,36,37,38],[0,1,2,3,4,5,6,7,8,9,10,11,12,13,14,15,16,17,18,19,20,21,22,23,24,25,26,35,36,37,38,39],[0,1,2,3,4,5,6,7,8,9,10,11,12,13,14,15,16,17,18,19,20,21,22,23,24,25,26,27,28,29,30,31,32,33,34,35,36,37,38,39,40],[0,1,2,3,4,5,6,7,8,9,10,11,12,13,14,15,16,17,18,19,20,21,22,23,24,25,26,27,28,29,30,31,32,33,34,35,36,37,38,39,40,41]] [[],[243],[243,244],[243,244,245],[],[243,244,245,246,247],[243,244,245,246,247,248],[243,244,245,246,247,248,249],[243,244,245,246,247,248,249,250],[243,244,245,246,247,248,249,250,251],[243,244,245,246,247,248,249,250,251,252],[243,244,245,246,247,248,249,250,251,252,253],[243,244,245,246,247,248,249,250,251,252,253,254],[243,244,245,246,247,248,249,250,251,252,253,254,255],[243,244,245,246,247,248,249,250,251,252],[243,244,245,246,247,248,249,250,251,252,253,254,255,256,257],[243,244,245,246,247,248,249,250,251,252,253,254,255,256,257,258],[243,244,245,246,247,248,249,250,251,252,253,254,255,256,257,258,259],[243,244,245,246,247,248,249,250,251,252],[243,244,245,246,247,248,249,250,251,252],[243,244,245,246,247,248,249,250,251,252,261,262],[243,244,245,246,247,248,249,250,251,252,261,262,263],[243,244,245,246,247,248,249,250,251,252,261,262,263,264],[243,244,245,246,247,248,249,250,251,252,261,262,263,264,265],[243,244,245,246,247,248,249,250,251,252,253,254,255,256,257,258,259,260,261,262,263,264,265,266],[243,244,245,246,247,248,249,250,251,252,253,254,255,256,257,258,259,260,261,262,263,264,265,266,267],[243,244,245,246,247,248,249,250,251,252,253,254,255,256,257,258,259,260,261,262,263,264,265,266,267,268],[243,244,245,246,247,248,249,250,251,252,253,254,255,256,257,258,259,260,261,262,263,264,265,266,267,268,269],[243,244,245,246,247,248,249,250,251,252,253,254,255,256,257,258,259,260,261,262,263,264,265,266,267,268,269,270],[243,244,245,246,247,248,249,250,251,252,253,254,255,256,257,258,259,260,261,262,263,264,265,266,267,268,269,270,271],[243,244,245,246,247,248,249,250,251,252,253,254,255,256,257,258,259,260,261,262,263,264,265,266,267,268,269,270,271,272],[243,244,245,246,247,248,249,250,251,252,253,254,255,256,257,258,259,260,261,262,263,264,265,266,267,268,269],[243,244,245,246,247,248,249,250,251,252,253,254,255,256,257,258,259,260,261,262,263,264,265,266,267,268,269,270,271,272,273,274],[243,244,245,246,247,248,249,250,251,252,253,254,255,256,257,258,259,260,261,262,263,264,265,266,267,268,269,270,271,272,273,274,275],[243,244,245,246,247,248,249,250,251,252,253,254,255,256,257,258,259,260,261,262,263,264,265,266,267,268,269,270,271,272,273,274,275,276],[243,244,245,246,247,248,249,250,251,252,253,254,255,256,257,258,259,260,261,262,263,264,265,266,267,268,269],[243,244,245,246,247,248,249,250,251,252,253,254,255,256,257,258,259,260,261,262,263,264,265,266,267,268,269],[243,244,245,246,247,248,249,250,251,252,253,254,255,256,257,258,259,260,261,262,263,264,265,266,267,268,269,278,279],[243,244,245,246,247,248,249,250,251,252,253,254,255,256,257,258,259,260,261,262,263,264,265,266,267,268,269,278,279,280],[243,244,245,246,247,248,249,250,251,252,253,254,255,256,257,258,259,260,261,262,263,264,265,266,267,268,269,278,279,280,281],[243,244,245,246,247,248,249,250,251,252,253,254,255,256,257,258,259,260,261,262,263,264,265,266,267,268,269,278,279,280,281,282],[243,244,245,246,247,248,249,250,251,252,253,254,255,256,257,258,259,260,261,262,263,264,265,266,267,268,269,270,271,272,273,274,275,276,277,278,279,280,281,282,283],[243,244,245,246,247,248,249,250,251,252,253,254,255,256,257,258,259,260,261,262,263,264,265,266,267,268,269,270,271,272,273,274,275,276,277,278,279,280,281,282,283,284]] [[247],[247],[247],[247],[243,244,245,246],[],[],[],[],[],[257,261,262,263,264,265,266],[257,261,262,263,264,265,266],[257,261,262,263,264,265,266],[257,261,262,263,264,265,266],[253,254,255,256,261,262,263,264,265,266],[261,262,263,264,265,266],[261,262,263,264,265,266],[261,262,263,264,265,266],[253,254,255,256,257,258,259,260,262],[253,254,255,256,257,258,259,260,261],[253,254,255,256,257,258,259,260],[253,254,255,256,257,258,259,260],[253,254,255,256,257,258,259,260],[253,254,255,256,257,258,259,260],[],[],[],[274,278,279,280,281,282,283],[274,278,279,280,281,282,283],[274,278,279,280,281,282,283],[274,278,279,280,281,282,283],[270,271,272,273,278,279,280,281,282,283],[278,279,280,281,282,283],[278,279,280,281,282,283],[278,279,280,281,282,283],[270,271,272,273,274,275,276,277,279],[270,271,272,273,274,275,276,277,278],[270,271,272,273,274,275,276,277],[270,271,272,273,274,275,276,277],[270,271,272,273,274,275,276,277],[270,271,272,273,274,275,276,277],[],[]] rfl ?_
      refine DR.step (Qa J J J) J J ?_;refine DR.step (Qz J J J) J J ?_;refine DR.step (Qf J J J J (by decide)) J J ?_
      refine DR.step (Qg J J J J J) J J ?_;refine DR.step (Qa J J J) J J ?_;refine DR.step (Q3 J J J J J (by omega) (by omega)) J J ?_
      refine DR.step (q_flde J J J J (by decide)) J J ?_;refine DR.step (Q7 J J J J (by assumption) rfl) J J ?_
      refine DR.step (Qv J J J J (by assumption)) J J ?_;refine DR.step (Qa J J J) J J ?_
      refine DR.step (Qt.yes J J J (Qa J J J)) J J ?_;refine DR.step (Qt.yes J J J (Qz J J J)) J J ?_
      refine DR.step (Qt.yes J J J (Qf J J J J (by decide))) J J ?_;refine DR.step (Qt.yes J J J (Qg J J J J J)) J J ?_
      refine DR.step (Qt.yes J J J (Qa J J J)) J J ?_;refine DR.step (Qt.yes J J J (Q3 J J J J J (by omega) (by omega))) J J ?_
      refine DR.step (Qt.yes J J J (q_flde J J J J (by decide))) J J ?_;refine DR.step (Qt.yes J J J (Q7 J J J J (by assumption) rfl)) J J ?_
      refine DR.step (Qt.yes J J J (Qa J J J)) J J ?_;refine DR.step (Qt.yes J J J (Qa J J J)) J J ?_
      refine DR.step (Qt.yes J J J (Q3 J J J J J (by omega) (by omega))) J J ?_
      refine DR.step (Qt.yes J J J (Q7 J J J J (by assumption) rfl)) J J ?_
      refine DR.step (Qt.yes J J J (Q2 J J J J (by omega) (by assumption) rfl)) J J ?_;refine DR.step (Qt.yes J J J (q_lr1 J J J J)) J J ?_
      refine DR.step (Qt.yes J J J (Qv J J J J (by assumption))) J J ?_;refine DR.step (Qo J J J J) J J ?_
      refine DR.step (Qa J J J) J J ?_;refine DR.step (Qt.yes J J J (Qa J J J)) J J ?_
      refine DR.step (Qt.yes J J J (Qz J J J)) J J ?_;refine DR.step (Qt.yes J J J (Qf J J J J (by decide))) J J ?_
      refine DR.step (Qt.yes J J J (Qg J J J J J)) J J ?_;refine DR.step (Qt.yes J J J (Qa J J J)) J J ?_
      refine DR.step (Qt.yes J J J (Q3 J J J J J (by omega) (by omega))) J J ?_;refine DR.step (Qt.yes J J J (q_flde J J J J (by decide))) J J ?_
      refine DR.step (Qt.yes J J J (Q7 J J J J (by assumption) rfl)) J J ?_;refine DR.step (Qt.yes J J J (Qa J J J)) J J ?_
      refine DR.step (Qt.yes J J J (Qa J J J)) J J ?_;refine DR.step (Qt.yes J J J (Q3 J J J J J (by omega) (by omega))) J J ?_
      refine DR.step (Qt.yes J J J (Q7 J J J J (by assumption) rfl)) J J ?_
      refine DR.step (Qt.yes J J J (Q2 J J J J (by omega) (by assumption) rfl)) J J ?_;refine DR.step (Qt.yes J J J (q_lr1 J J J J)) J J ?_
      refine DR.step (Qt.yes J J J (Qv J J J J (by assumption))) J J ?_;refine DR.step (Qo J J J J) J J ?_
      refine DR.stop (by kernel_rfl) (by kernel_rfl) ?_
      refine Qe (Q0 ?_);refine Ql rfl ?_;refine Qh (Q1 (Q0 (Qc ?_)));refine M0 (Qa J J J) J J ?_
      refine M0 (Qs J J J J (by omega)) J J ?_;refine M0 (Qb J J J) J J ?_;refine Qe (Q0 ?_)
      exact ⟨(b4.length - w.Scores.length) - (t + 1),by omega,(fun t : Nat => (⟨_,[(0,.o (.c (.ptr 0 0))),(4,I (els w.Scores).length),(13,.o (.c (.ref 5))),(15,I (i : Int)),(16,I (((els w.Scores).length + t : Nat) : Int))],[.box [.ref 1,jn (w.Tick + 1),jn (nextR sd),.ref 2,.ref 3],.row 1 (els w.Level.Rows),.row 1 (els s4),.row 9 (els b4),.gh 0 (.c (.ptr 0 0)),.row 1 (els (spotsM w.Level))]⟩ : St)) (t + 1),W_go [0,1,2,3,4,5] (by decide) rfl (rfl) (.cons rfl (.cons rfl (.cons rfl (.cons rfl (.cons (I_eq (by omega)) (.nil)))))),t + 1,by omega,at_go hbb (fun h => k3 h.2.2) hp_C,rfl⟩
    have p3 : decide (b.Y = y) = true := decide_eq_true k3
    rw [last_2 q hxy (at_hit hbb ⟨k1,k2,k3⟩)]
    refine A_draw [[],[0],[0,1],[0,1,2],[],[0,1,2,3,4],[0,1,2,3,4,5],[0,1,2,3,4,5,6],[0,1,2,3,4,5,6,7],[0,1,2,3,4,5,6,7,8],[0,1,2,3,4,5,6,7,8,9],[0,1,2,3,4,5,6,7,8,9,10],[0,1,2,3,4,5,6,7,8,9,10,11],[0,1,2,3,4,5,6,7,8,9,10,11,12],[0,1,2,3,4,5,6,7,8,9],[0,1,2,3,4,5,6,7,8,9,10,11,12,13,14],[0,1,2,3,4,5,6,7,8,9,10,11,12,13,14,15],[0,1,2,3,4,5,6,7,8,9,10,11,12,13,14,15,16],[0,1,2,3,4,5,6,7,8,9],[0,1,2,3,4,5,6,7,8,9],[0,1,2,3,4,5,6,7,8,9,18,19],[0,1,2,3,4,5,6,7,8,9,18,19,20],[0,1,2,3,4,5,6,7,8,9,18,19,20,21],[0,1,2,3,4,5,6,7,8,9,18,19,20,21,22],[0,1,2,3,4,5,6,7,8,9,10,11,12,13,14,15,16,17,18,19,20,21,22,23],[0,1,2,3,4,5,6,7,8,9,10,11,12,13,14,15,16,17,18,19,20,21,22,23,24],[0,1,2,3,4,5,6,7,8,9,10,11,12,13,14,15,16,17,18,19,20,21,22,23,24,25],[0,1,2,3,4,5,6,7,8,9,10,11,12,13,14,15,16,17,18,19,20,21,22,23,24,25,26],[0,1,2,3,4,5,6,7,8,9,10,11,12,13,14,15,16,17,18,19,20,21,22,23,24,25,26,27],[0,1,2,3,4,5,6,7,8,9,10,11,12,13,14,15,16,17,18,19,20,21,22,23,24,25,26,27,28],[0,1,2,3,4,5,6,7,8,9,10,11,12,13,14,15,16,17,18,19,20,21,22,23,24,25,26,27,28,29],[0,1,2,3,4,5,6,7,8,9,10,11,12,13,14,15,16,17,18,19,20,21,22,23,24,25,26],[0,1,2,3,4,5,6,7,8,9,10,11,12,13,14,15,16,17,18,19,20,21,22,23,24,25,26,27,28,29,30,31],[0,1,2,3,4,5,6,7,8,9,10,11,12,13,14,15,16,17,18,19,20,21,22,23,24,25,26,27,28,29,30,31,32],[0,1,2,3,4,5,6,7,8,9,10,11,12,13,14,15,16,17,18,19,20,21,22,23,24,25,26,27,28,29,30,31,32,33],[0,1,2,3,4,5,6,7,8,9,10,11,12,13,14,15,16,17,18,19,20,21,22,23,24,25,26],[0,1,2,3,4,5,6,7,8,9,10,11,12,13,14,15,16,17,18,19,20,21,22,23,24,25,26],[0,1,2,3,4,5,6,7,8,9,10,11,12,13,14,15,16,17,18,19,20,21,22,23,24,25,26,35,36],[0,1,2,3,4,5,6,7,8,9,10,11,12,13,14,15,16,17,18,19,20,21,22,23,24,25,26,35,36,37],[0,1,2,3,4,5,6,7,8,9,10,11,12,13,14,15,16,17,18,19,20,21,22,23,24,25,26,35,36,37,38],[0,1,2,3,4,5,6,7,8,9,10,11,12,13,14,15,16,17,18,19,20,21,22,23,24,25,26,35,36,37,38,39],[0,1,2,3,4,5,6,7,8,9,10,11,12,13,14,15,16,17,18,19,20,21,22,23,24,25,26,27,28,29,30,31,32,33,34,35,36,37,38,39,40],[0,1,2,3,4,5,6,7,8,9,10,11,12,13,14,15,16,17,18,19,20,21,22,23,24,25,26,27,28,29,30,31,32,33,34,35,36,37,38,39,40,41]] [[],[243],[243,244],[243,244,245],[],[243,244,245,246,247],[243,244,245,246,247,248],[243,244,245,246,247,248,249],[243,244,245,246,247,248,249,250],[243,244,245,246,247,248,249,250,251],[243,244,245,246,247,248,249,250,251,252],[243,244,245,246,247,248,249,250,251,252,253],[243,244,245,246,247,248,249,250,251,252,253,254],[243,244,245,246,247,248,249,250,251,252,253,254,255],[243,244,245,246,247,248,249,250,251,252],[243,244,245,246,247,248,249,250,251,252,253,254,255,256,257],[243,244,245,246,247,248,249,250,251,252,253,254,255,256,257,258],[243,244,245,246,247,248,249,250,251,252,253,254,255,256,257,258,259],[243,244,245,246,247,248,249,250,251,252],[243,244,245,246,247,248,249,250,251,252],[243,244,245,246,247,248,249,250,251,252,261,262],[243,244,245,246,247,248,249,250,251,252,261,262,263],[243,244,245,246,247,248,249,250,251,252,261,262,263,264],[243,244,245,246,247,248,249,250,251,252,261,262,263,264,265],[243,244,245,246,247,248,249,250,251,252,253,254,255,256,257,258,259,260,261,262,263,264,265,266],[243,244,245,246,247,248,249,250,251,252,253,254,255,256,257,258,259,260,261,262,263,264,265,266,267],[243,244,245,246,247,248,249,250,251,252,253,254,255,256,257,258,259,260,261,262,263,264,265,266,267,268],[243,244,245,246,247,248,249,250,251,252,253,254,255,256,257,258,259,260,261,262,263,264,265,266,267,268,269],[243,244,245,246,247,248,249,250,251,252,253,254,255,256,257,258,259,260,261,262,263,264,265,266,267,268,269,270],[243,244,245,246,247,248,249,250,251,252,253,254,255,256,257,258,259,260,261,262,263,264,265,266,267,268,269,270,271],[243,244,245,246,247,248,249,250,251,252,253,254,255,256,257,258,259,260,261,262,263,264,265,266,267,268,269,270,271,272],[243,244,245,246,247,248,249,250,251,252,253,254,255,256,257,258,259,260,261,262,263,264,265,266,267,268,269],[243,244,245,246,247,248,249,250,251,252,253,254,255,256,257,258,259,260,261,262,263,264,265,266,267,268,269,270,271,272,273,274],[243,244,245,246,247,248,249,250,251,252,253,254,255,256,257,258,259,260,261,262,263,264,265,266,267,268,269,270,271,272,273,274,275],[243,244,245,246,247,248,249,250,251,252,253,254,255,256,257,258,259,260,261,262,263,264,265,266,267,268,269,270,271,272,273,274,275,276],[243,244,245,246,247,248,249,250,251,252,253,254,255,256,257,258,259,260,261,262,263,264,265,266,267,268,269],[243,244,245,246,247,248,249,250,251,252,253,254,255,256,257,258,259,260,261,262,263,264,265,266,267,268,269],[243,244,245,246,247,248,249,250,251,252,253,254,255,256,257,258,259,260,261,262,263,264,265,266,267,268,269,278,279],[243,244,245,246,247,248,249,250,251,252,253,254,255,256,257,258,259,260,261,262,263,264,265,266,267,268,269,278,279,280],[243,244,245,246,247,248,249,250,251,252,253,254,255,256,257,258,259,260,261,262,263,264,265,266,267,268,269,278,279,280,281],[243,244,245,246,247,248,249,250,251,252,253,254,255,256,257,258,259,260,261,262,263,264,265,266,267,268,269,278,279,280,281,282],[243,244,245,246,247,248,249,250,251,252,253,254,255,256,257,258,259,260,261,262,263,264,265,266,267,268,269,270,271,272,273,274,275,276,277,278,279,280,281,282,283],[243,244,245,246,247,248,249,250,251,252,253,254,255,256,257,258,259,260,261,262,263,264,265,266,267,268,269,270,271,272,273,274,275,276,277,278,279,280,281,282,283,284]] [[247],[247],[247],[247],[243,244,245,246],[],[],[],[],[],[257,261,262,263,264,265,266],[257,261,262,263,264,265,266],[257,261,262,263,264,265,266],[257,261,262,263,264,265,266],[253,254,255,256,261,262,263,264,265,266],[261,262,263,264,265,266],[261,262,263,264,265,266],[261,262,263,264,265,266],[253,254,255,256,257,258,259,260,262],[253,254,255,256,257,258,259,260,261],[253,254,255,256,257,258,259,260],[253,254,255,256,257,258,259,260],[253,254,255,256,257,258,259,260],[253,254,255,256,257,258,259,260],[],[],[],[274,278,279,280,281,282,283],[274,278,279,280,281,282,283],[274,278,279,280,281,282,283],[274,278,279,280,281,282,283],[270,271,272,273,278,279,280,281,282,283],[278,279,280,281,282,283],[278,279,280,281,282,283],[278,279,280,281,282,283],[270,271,272,273,274,275,276,277,279],[270,271,272,273,274,275,276,277,278],[270,271,272,273,274,275,276,277],[270,271,272,273,274,275,276,277],[270,271,272,273,274,275,276,277],[270,271,272,273,274,275,276,277],[],[]] rfl ?_
    refine DR.step (Qa J J J) J J ?_;refine DR.step (Qz J J J) J J ?_;refine DR.step (Qf J J J J (by decide)) J J ?_
    refine DR.step (Qg J J J J J) J J ?_;refine DR.step (Qa J J J) J J ?_;refine DR.step (Q3 J J J J J (by omega) (by omega)) J J ?_
    refine DR.step (q_flde J J J J (by decide)) J J ?_;refine DR.step (Q7 J J J J (by assumption) rfl) J J ?_
    refine DR.step (Qv J J J J (by assumption)) J J ?_;refine DR.step (Qa J J J) J J ?_
    refine DR.step (Qt.yes J J J (Qa J J J)) J J ?_;refine DR.step (Qt.yes J J J (Qz J J J)) J J ?_
    refine DR.step (Qt.yes J J J (Qf J J J J (by decide))) J J ?_;refine DR.step (Qt.yes J J J (Qg J J J J J)) J J ?_
    refine DR.step (Qt.yes J J J (Qa J J J)) J J ?_;refine DR.step (Qt.yes J J J (Q3 J J J J J (by omega) (by omega))) J J ?_
    refine DR.step (Qt.yes J J J (q_flde J J J J (by decide))) J J ?_;refine DR.step (Qt.yes J J J (Q7 J J J J (by assumption) rfl)) J J ?_
    refine DR.step (Qt.yes J J J (Qa J J J)) J J ?_;refine DR.step (Qt.yes J J J (Qa J J J)) J J ?_
    refine DR.step (Qt.yes J J J (Q3 J J J J J (by omega) (by omega))) J J ?_
    refine DR.step (Qt.yes J J J (Q7 J J J J (by assumption) rfl)) J J ?_
    refine DR.step (Qt.yes J J J (Q2 J J J J (by omega) (by assumption) rfl)) J J ?_;refine DR.step (Qt.yes J J J (q_lr1 J J J J)) J J ?_
    refine DR.step (Qt.yes J J J (Qv J J J J (by assumption))) J J ?_;refine DR.step (Qo J J J J) J J ?_
    refine DR.step (Qa J J J) J J ?_;refine DR.step (Qt.yes J J J (Qa J J J)) J J ?_
    refine DR.step (Qt.yes J J J (Qz J J J)) J J ?_;refine DR.step (Qt.yes J J J (Qf J J J J (by decide))) J J ?_
    refine DR.step (Qt.yes J J J (Qg J J J J J)) J J ?_;refine DR.step (Qt.yes J J J (Qa J J J)) J J ?_
    refine DR.step (Qt.yes J J J (Q3 J J J J J (by omega) (by omega))) J J ?_;refine DR.step (Qt.yes J J J (q_flde J J J J (by decide))) J J ?_
    refine DR.step (Qt.yes J J J (Q7 J J J J (by assumption) rfl)) J J ?_;refine DR.step (Qt.yes J J J (Qa J J J)) J J ?_
    refine DR.step (Qt.yes J J J (Qa J J J)) J J ?_;refine DR.step (Qt.yes J J J (Q3 J J J J J (by omega) (by omega))) J J ?_
    refine DR.step (Qt.yes J J J (Q7 J J J J (by assumption) rfl)) J J ?_
    refine DR.step (Qt.yes J J J (Q2 J J J J (by omega) (by assumption) rfl)) J J ?_;refine DR.step (Qt.yes J J J (q_lr1 J J J J)) J J ?_
    refine DR.step (Qt.yes J J J (Qv J J J J (by assumption))) J J ?_;refine DR.step (Qo J J J J) J J ?_
    refine DR.stop (by kernel_rfl) (by kernel_rfl) ?_
    refine Qe (Q0 ?_);refine Qm rfl ?_;refine Xa (B_r (T_r (T_r (B_r (T_r (F_r ?_))))))
    exact E_none rfl (W_end [0,1,2,3,4] (by decide) J J J)
  · have hb0 : decide ((((els w.Scores).length + t : Nat) : Int) < (els b4).length) = false := decide_eq_false (by omega)
    have hk : w.Scores.length + t = b4.length := by omega
    rw [hk,List.take_length] at hp_C
    rw [last_3 q hxy hp_C]
    refine Qd (Qd (Qc ?_));refine M0 (Qa J J J) J J ?_;refine M0 (Qa J J J) J J ?_;refine M0 (Qz J J J) J J ?_
    refine M0 (Qf J J J J (by decide)) J J ?_;refine M0 (Qg J J J J J) J J ?_;refine M0 (q_lenr J J J J) J J ?_
    refine M0 (Qr J J J J (by assumption)) J J ?_;refine Qe (Q0 ?_);refine Ql rfl ?_;refine Q9 (T_x (T_x (B_xs (Q0 ?_))))
    refine A_draw [[],[],[1],[1,2],[1,2,3],[],[],[5,6],[5,6,7],[5,6,7,8],[5,6,7,8,9],[],[],[11,12],[11,12,13],[11,12,13,14],[11,12,13,14,15],[5,6,7,8,9,10,11,12,13,14,15,16],[5,6,7,8,9,10,11,12,13,14,15,16,17],[1,2,3,4,5,6,7,8,9,10,11,12,13,14,15,16,17,18],[0,1,2,3,4,5,6,7,8,9,10,11,12,13,14,15,16,17,18,19],[0,1,2,3,4,5,6,7,8,9,10,11,12,13,14,15,16,17,18,19,20],[0,1,2,3,4,5,6,7,8,9,10,11,12,13,14,15,16,17,18,19,20,21]] [[],[],[287],[287,288],[287,288,289],[],[],[291,292],[291,292,293],[291,292,293,294],[291,292,293,294,295],[],[],[297,298],[297,298,299],[297,298,299,300],[297,298,299,300,301],[291,292,293,294,295,296,297,298,299,300,301,302],[291,292,293,294,295,296,297,298,299,300,301,302,303],[287,288,289,290,291,292,293,294,295,296,297,298,299,300,301,302,303,304],[286,287,288,289,290,291,292,293,294,295,296,297,298,299,300,301,302,303,304,305],[286,287,288,289,290,291,292,293,294,295,296,297,298,299,300,301,302,303,304,305,306],[286,287,288,289,290,291,292,293,294,295,296,297,298,299,300,301,302,303,304,305,306,307]] [[287,288,289,290,291,292,293,294,295,296,297,298,299,300,301,302,303,304,305],[286,291,292,293,294,295,296,297,298,299,300,301,302,303,304],[286,291,292,293,294,295,296,297,298,299,300,301,302,303,304],[286,291,292,293,294,295,296,297,298,299,300,301,302,303,304],[286,291,292,293,294,295,296,297,298,299,300,301,302,303,304],[286,287,288,289,290,292,297,298,299,300,301,302],[286,287,288,289,290,291,297,298,299,300,301,302],[286,287,288,289,290,297,298,299,300,301,302],[286,287,288,289,290,297,298,299,300,301,302],[286,287,288,289,290,297,298,299,300,301,302],[286,287,288,289,290,297,298,299,300,301,302],[286,287,288,289,290,291,292,293,294,295,296,298],[286,287,288,289,290,291,292,293,294,295,296,297],[286,287,288,289,290,291,292,293,294,295,296],[286,287,288,289,290,291,292,293,294,295,296],[286,287,288,289,290,291,292,293,294,295,296],[286,287,288,289,290,291,292,293,294,295,296],[286,287,288,289,290],[286,287,288,289,290],[286],[],[],[],[0]] rfl ?_
    refine DR.step (Qa J J J) J J ?_;refine DR.step (Qa J J J) J J ?_;refine DR.step (Qz J J J) J J ?_
    refine DR.step (Qf J J J J (by decide)) J J ?_;refine DR.step (Qg J J J J J) J J ?_;refine DR.step (Qa J J J) J J ?_
    refine DR.step (Qa J J J) J J ?_;refine DR.step (Q3 J J J J J (by omega) (by omega)) J J ?_
    refine DR.step (Q7 J J J J (by assumption) rfl) J J ?_;refine DR.step (Q2 J J J J (by omega) (by assumption) rfl) J J ?_
    refine DR.step (q_lr1 J J J J) J J ?_;refine DR.step (Qa J J J) J J ?_;refine DR.step (Qa J J J) J J ?_
    refine DR.step (Q3 J J J J J (by omega) (by omega)) J J ?_;refine DR.step (Q7 J J J J (by assumption) rfl) J J ?_
    refine DR.step (Q2 J J J J (by omega) (by assumption) rfl) J J ?_;refine DR.step (q_lr1 J J J J) J J ?_
    refine DR.step (q_build J J J J J) J J ?_;refine DR.step (q_bslice J J J J J J) J J ?_;refine DR.stop (by kernel_rfl) (by kernel_rfl) ?_
    refine AL.weak (st' := (⟨_,[(286,.o (.c (.ptr 0 0))),(290,.o (.c (.ref 3))),(304,.o (.c (.sb 5 1 9)))],[.box [.ref 1,jn (w.Tick + 1),jn (nextR sd),.ref 2,.ref 3],.row 1 (els w.Level.Rows),.row 1 (els s4),.row 9 (els b4),.gh 0 (.c (.ptr 0 0)),.box ((Enc.e (itemB x y)).map (V1.rd []))]⟩ : St)) (W_go [0,1,2,3,4,6] (by decide) rfl (rfl) (.cons rfl (.cons rfl (.cons rfl (.nil))))) ?_
    refine M_appo J J J J J J J J J J J J J J (by omega) (by omega) ?_;refine M0 (Qz J J J) J J ?_
    refine M0 (Qf J J J J (by decide)) J J ?_;refine Q5 J J J J J J J J ?_;refine Qe (F_n ?_)
    exact E_none rfl (W_end [0,1,2,3,4] (by decide) rfl (by exact rwBo (by rw [els_app]; rfl)) rfl)
end Go.Proofs.Ytmljakmaffbnlaa
end

section
set_option linter.unusedSimpArgs false
set_option linter.unusedVariables false
set_option maxRecDepth 8000
namespace Go.Proofs.Ytmljakmaffbnlaa
open Go.RowKit

set_option maxHeartbeats 8000000 in
theorem S_StepWorld (w : TWorld) (row : List Int) (hg : Enc.gd w) (gr : Enc.gd row) (h1 : w.Level.Rows.length ≤ 1048576) (h2 : w.Scores.length ≤ 1048576) (h3 : w.Bodies.length ≤ 1048576) : Con Try.prog 88 [] [ag w,al row] [.row 1 (els w.Level.Rows),.row 1 (els (stepW w row).Scores),.row 9 (els (stepW w row).Bodies)] (.o (.ag [.ref 0,jn (stepW w row).Tick,jn (stepW w row).Seed,.ref 1,.ref 2])) := by
  have hls := els_len w.Scores
  have hlb := els_len w.Bodies
  have c1 := S_copyWorld w hg h1 h2 h3
  have c2 := S_WorldOk w hg
  have c3 := S_rowOk row ((els w.Scores).length : Int) gr
  rw [show rowOk row ((els w.Scores).length : Int) = rowOk row (w.Scores.length : Int) by rw [hls]] at c3
  cases ho : worldOk w with
  | false =>
    rw [step_F (fun q => by rw [ho] at q; cases q.1)]
    rw [ho] at c2
    refine Con.of Try.func88 rfl Try.ntmps88 rfl (fun E => ?_)
    refine Qd (Qc ?_);refine M1 (Qq J J J J) J J ?_;refine M1 (Qx J J J) J J ?_;refine Qe (Q0 (Qd ?_))
    refine Qc ?_;refine M0 (Qu J J J J J J) J J ?_;refine M1 (q_call J J (c1) J J J) J J ?_;refine M1 (Qx J J J) J J ?_
    refine Qy J J J J J J J J J ?_;refine Qe (Q0 (Qd (Qd (Qc ?_))));refine M0 (Qu J J J J J J) J J ?_
    refine M0 (Qj J J (c2) rfl) J J ?_;refine M0 (Q4 J J J) J J ?_;refine M0 (Qa J J J) J J ?_;refine Qp J J J J J J ?_
    refine Qp J J J J J J ?_;refine Qp J J J J J J ?_;refine M0 (Qo J J J J) J J ?_;refine M0 (Qa J J J) J J ?_
    refine Qp J J J J J J ?_;refine Qp J J J J J J ?_;refine Qp J J J J J J ?_;refine Qp J J J J J J ?_
    refine Qp J J J J J J ?_;refine Qp J J J J J J ?_;refine M0 (Qo J J J J) J J ?_;refine Qe (Q0 ?_);refine Qm rfl ?_
    refine Qd (Qc ?_);refine M0 (Qu J J J J J J) J J ?_;refine Qy J J J J J J J J J ?_;refine Qe (Q0 (Xa ?_))
    refine T_r (F_r ?_)
    exact E_cell J J J J (W_end [2,3,4] (by decide) J J J)
  | true =>
  rw [ho] at c2
  by_cases ht : w.Tick = 100000
  · have f1 : decide (w.Tick = 100000) = true := decide_eq_true ht
    rw [step_F (fun q => q.2.1 ht)]
    refine Con.of Try.func88 rfl Try.ntmps88 rfl (fun E => ?_)
    refine Qd (Qc ?_);refine M1 (Qq J J J J) J J ?_;refine M1 (Qx J J J) J J ?_;refine Qe (Q0 (Qd ?_))
    refine Qc ?_;refine M0 (Qu J J J J J J) J J ?_;refine M1 (q_call J J (c1) J J J) J J ?_;refine M1 (Qx J J J) J J ?_
    refine Qy J J J J J J J J J ?_;refine Qe (Q0 (Qd (Qd (Qc ?_))));refine M0 (Qu J J J J J J) J J ?_
    refine M0 (Qj J J (c2) rfl) J J ?_;refine M0 (Q4 J J J) J J ?_;refine M0 (Qa J J J) J J ?_;refine Qi J J J ?_
    refine M0 (Qf J J J J (by decide)) J J ?_;refine Qi J J J ?_;refine M0 (Qg J J J J J) J J ?_;refine Qi J J J ?_
    refine M0 (Qv J J J J (by assumption)) J J ?_;refine M0 (Qn J J J J) J J ?_;refine M0 (Qa J J J) J J ?_
    refine Qp J J J J J J ?_;refine Qp J J J J J J ?_;refine Qp J J J J J J ?_;refine Qp J J J J J J ?_
    refine Qp J J J J J J ?_;refine Qp J J J J J J ?_;refine M0 (Qo J J J J) J J ?_;refine Qe (Q0 ?_);refine Qm rfl ?_
    refine Qd (Qc ?_);refine M0 (Qu J J J J J J) J J ?_;refine Qy J J J J J J J J J ?_;refine Qe (Q0 (Xa ?_))
    refine T_r (F_r ?_)
    exact E_cell J J J J (W_end [2,3,4] (by decide) J J J)
  have f1 : decide (w.Tick = 100000) = false := decide_eq_false ht
  cases hr : rowOk row (w.Scores.length : Int) with
  | false =>
    rw [step_F (fun q => by rw [hr] at q; cases q.2.2)]
    rw [hr] at c3
    refine Con.of Try.func88 rfl Try.ntmps88 rfl (fun E => ?_)
    refine Qd (Qc ?_);refine M1 (Qq J J J J) J J ?_;refine M1 (Qx J J J) J J ?_;refine Qe (Q0 (Qd ?_))
    refine Qc ?_;refine M0 (Qu J J J J J J) J J ?_;refine M1 (q_call J J (c1) J J J) J J ?_;refine M1 (Qx J J J) J J ?_
    refine Qy J J J J J J J J J ?_;refine Qe (Q0 (Qd (Qd (Qc ?_))));refine M0 (Qu J J J J J J) J J ?_
    refine M0 (Qj J J (c2) rfl) J J ?_;refine M0 (Q4 J J J) J J ?_;refine M0 (Qa J J J) J J ?_;refine Qi J J J ?_
    refine M0 (Qf J J J J (by decide)) J J ?_;refine Qi J J J ?_;refine M0 (Qg J J J J J) J J ?_;refine Qi J J J ?_
    refine M0 (Qv J J J J (by assumption)) J J ?_;refine M0 (Qn J J J J) J J ?_;refine M0 (Qa J J J) J J ?_;refine Qi J J J ?_
    refine M0 (Qa J J J) J J ?_;refine Qi J J J ?_;refine M0 (Qf J J J J (by decide)) J J ?_;refine Qi J J J ?_
    refine M0 (Qg J J J J J) J J ?_;refine Qi J J J ?_;refine M0 (q_len J J J) J J ?_;refine Qi J J J ?_
    refine M0 (Qj J J (c3) rfl) J J ?_;refine Qi J J J ?_;refine M0 (Q4 J J J) J J ?_;refine M0 (Qn J J J J) J J ?_;refine Qe ?_
    refine Q0 ?_;refine Qm rfl ?_;refine Qd (Qc ?_);refine M0 (Qu J J J J J J) J J ?_;refine Qy J J J J J J J J J ?_
    refine Qe (Q0 (Xa (T_r (F_r ?_))))
    exact E_cell J J J J (W_end [2,3,4] (by decide) J J J)
  | true =>
  rw [hr] at c3
  rw [step_T ⟨ho,ht,hr⟩]
  have d1 := S_l02Step w row hg ho ht hr
  refine Con.of Try.func88 rfl Try.ntmps88 rfl (fun E => ?_)
  refine Qd (Qc ?_);refine M1 (Qq J J J J) J J ?_;refine M1 (Qx J J J) J J ?_;refine Qe (Q0 (Qd ?_))
  refine Qc ?_;refine M0 (Qu J J J J J J) J J ?_;refine M1 (q_call J J (c1) J J J) J J ?_;refine M1 (Qx J J J) J J ?_
  refine Qy J J J J J J J J J ?_;refine Qe (Q0 (Qd (Qd (Qc ?_))));refine M0 (Qu J J J J J J) J J ?_
  refine M0 (Qj J J (c2) rfl) J J ?_;refine M0 (Q4 J J J) J J ?_;refine M0 (Qa J J J) J J ?_;refine Qi J J J ?_
  refine M0 (Qf J J J J (by decide)) J J ?_;refine Qi J J J ?_;refine M0 (Qg J J J J J) J J ?_;refine Qi J J J ?_
  refine M0 (Qv J J J J (by assumption)) J J ?_;refine M0 (Qn J J J J) J J ?_;refine M0 (Qa J J J) J J ?_;refine Qi J J J ?_
  refine M0 (Qa J J J) J J ?_;refine Qi J J J ?_;refine M0 (Qf J J J J (by decide)) J J ?_;refine Qi J J J ?_
  refine M0 (Qg J J J J J) J J ?_;refine Qi J J J ?_;refine M0 (q_len J J J) J J ?_;refine Qi J J J ?_
  refine M0 (Qj J J (c3) rfl) J J ?_;refine Qi J J J ?_;refine M0 (Q4 J J J) J J ?_;refine M0 (Qn J J J J) J J ?_;refine Qe ?_
  refine Q0 ?_;refine Ql rfl ?_;refine Qh (Q0 (Qd (Qc ?_)));refine M0 (Qa J J J) J J ?_
  refine AL.weak (st' := (⟨_,[(4,.o (.c (.ptr 4 0))),(5,.o (.c (.ptr 0 0))),(25,L row)],[.box [.ref 1,jn w.Tick,jn w.Seed,.ref 2,.ref 3],.row 1 (els w.Level.Rows),.row 1 (els w.Scores),.row 9 (els w.Bodies),.box [nilV,jn 0,jn 0,nilV,nilV]]⟩ : St)) (W_go [5,2,3,4,1] (by decide) rfl (rfl) (.cons rfl (.cons rfl (.cons rfl (.nil))))) ?_
  clear c1 c2 c3 f1
  refine Xd (lo := [_,_,_,_]) (gs := [(0,.c (.ptr 0 0))]) (lo' := [_,_,_,_]) (new := []) [0,1,2,3] [(0,0,.ptr 0 0)] (d1) J J J J J J J J J J J J J J J J J ?_
  refine Qe (Q0 (Qd (Qc ?_)));refine M0 (Qu J J J J J J) J J ?_;refine Qy J J J J J J J J J ?_;refine Qe ?_
  refine Q0 (Xa (F_r ?_))
  exact E_cell J J J J (W_end [1,2,3] (by decide) J J J)
end Go.Proofs.Ytmljakmaffbnlaa
end

section
set_option linter.unusedSimpArgs false
set_option linter.unusedVariables false
namespace Go.Proofs.Ytmljakmaffbnlaa
open Go.RowKit

theorem tot_wts : ∀ xs : List (List Int),tot xs ≤ wts xs
  | [] => Nat.le_refl _
  | x :: xs => by
    have h1 := tot_wts xs
    have h2 : tot (x :: xs) = x.length + tot xs := by simp [tot]
    have h3 : wts (x :: xs) = (x.length + wts x) + wts xs := rfl
    omega
structure RepIn (y : TReplay) : Prop where
  gd : Enc.gd y
  h1 : y.Level.Rows.length ≤ 1048576
  h2 : y.Keys.length ≤ 1048576
  h3 : y.Rows.length ≤ 1048576
  h4 : tot y.Rows ≤ 1048576
structure WorIn (w : TWorld) : Prop where
  gd : Enc.gd w
  h1 : w.Level.Rows.length ≤ 1048576
  h2 : w.Scores.length ≤ 1048576
  h3 : w.Bodies.length ≤ 1048576
end Go.Proofs.Ytmljakmaffbnlaa
end

section
set_option linter.unusedSimpArgs false
set_option linter.unusedVariables false
set_option maxRecDepth 8000
namespace Go.Proofs.Ytmljakmaffbnlaa
open Go.RowKit

noncomputable def runM (w : TWorld) (rows : List (List Int)) : TWorld := rows.foldl stepW w
theorem step_in {w : TWorld} {row : List Int} (h : WorIn w) : WorIn (stepW w row) := by
  have h1 := stepW_fits (row := row) h.gd
  exact ⟨h1.1,by rw [stepW_level]; exact h.h1,by rw [h1.2.1]; exact h.h2,by have := h.h3; omega⟩
theorem ran_in : ∀ (rows : List (List Int)) {w : TWorld},WorIn w → WorIn (runM w rows)
  | [],_,h => h
  | r :: rs,w,h => ran_in rs (w := stepW w r) (step_in h)
theorem runM_next {w x : TWorld} {rows : List (List Int)} {k : Nat} {r : List Int} (hr : rows[k]? = some r) (h : x = runM w (rows.take k)) : stepW x r = runM w (rows.take (k + 1)) := by
  obtain ⟨hk,rfl⟩ := List.getElem?_eq_some_iff.1 hr
  rw [List.take_succ_eq_append_getElem hk,h]
  unfold runM
  rw [List.foldl_append]
  rfl
set_option maxHeartbeats 8000000 in
theorem I_RunWorld (w : TWorld) (rows : List (List Int)) (iw : WorIn w) (gr : Enc.gd rows) : Con Try.prog 55 [] [ag w,al rows] [.row 1 (els (runM w rows).Level.Rows),.row 1 (els (runM w rows).Scores),.row 9 (els (runM w rows).Bodies)] (.o (.ag [.ref 0,jn (runM w rows).Tick,jn (runM w rows).Seed,.ref 1,.ref 2])) := by
  have c1 := I_copyWorld w iw.gd iw.h1 iw.h2 iw.h3
  have hlr := els_len rows
  have hlg := gr.1
  refine Con.of Try.func55 rfl Try.ntmps55 rfl (fun E => ?_)
  refine Qd (Qc ?_);refine M1 (Qq J J J J) J J ?_;refine M1 (Qx J J J) J J ?_;refine Qe (Q0 (Qd ?_))
  refine Qc ?_;refine M0 (Qu J J J J J J) J J ?_;refine M1 (q_call J J (c1) J J J) J J ?_;refine M1 (Qx J J J) J J ?_
  refine Qy J J J J J J J J J ?_;refine Qe (Q0 (Qd (Qd (Qc ?_))));refine M0 (Qa J J J) J J ?_
  refine M0 (q_len J J J) J J ?_;refine M0 (Qa J J J) J J ?_;refine Qe (Q0 (Qk ?_))
  refine AWP.pre (st' := (⟨_,[(4,.o (.c (.ptr 4 0))),(5,.o (.c (.ptr 0 0))),(10,L rows),(11,I (els rows).length),(12,I 0)],[.box [.ref 1,jn w.Tick,jn w.Seed,.ref 2,.ref 3],.row 1 (els w.Level.Rows),.row 1 (els w.Scores),.row 9 (els w.Bodies),.box [nilV,jn 0,jn 0,nilV,nilV]]⟩ : St)) ?_ (W_go [5,2,3,4,1] (by decide) rfl (rfl) (.cons rfl (.cons rfl (.cons rfl (.cons rfl (.cons rfl (.nil)))))))
  clear c1
  refine A_loop (fun m st => ∃ (k : Nat) (x : TWorld),k + m = rows.length ∧ (x = runM w (rows.take k)) ∧ st = (fun (k : Nat) (x : TWorld) => (⟨_,[(4,.o (.c (.ptr 4 0))),(5,.o (.c (.ptr 0 0))),(10,L rows),(11,I (els rows).length),(12,I k)],[.box [.ref 1,jn x.Tick,jn x.Seed,.ref 2,.ref 3],.row 1 (els x.Level.Rows),.row 1 (els x.Scores),.row 9 (els x.Bodies),.box [nilV,jn 0,jn 0,nilV,nilV]]⟩ : St)) k x) (rows.length) ⟨(fun (k : Nat) (x : TWorld) => (⟨_,[(4,.o (.c (.ptr 4 0))),(5,.o (.c (.ptr 0 0))),(10,L rows),(11,I (els rows).length),(12,I k)],[.box [.ref 1,jn x.Tick,jn x.Seed,.ref 2,.ref 3],.row 1 (els x.Level.Rows),.row 1 (els x.Scores),.row 9 (els x.Bodies),.box [nilV,jn 0,jn 0,nilV,nilV]]⟩ : St)) 0 (w),W_go [0,1,2,3,4] (by decide) rfl (rfl) (.cons rfl (.cons rfl (.cons rfl (.cons rfl (.cons rfl (.nil)))))),0,w,by omega,rfl,rfl⟩ ?_
  rintro m_A _ ⟨k,x,hk_A,hp_A,rfl⟩
  have ix : WorIn x := by rw [hp_A]; exact ran_in _ iw
  by_cases hlt : k < rows.length
  · have hb0 : decide ((k : Int) < (els rows).length) = true := decide_eq_true (by omega)
    obtain ⟨r,hr⟩ := some_sm hlt
    have her := els_sm hr
    have cs := I_StepWorld x r ix.gd (gr.2 r (List.mem_of_getElem? hr)) ix.h1 ix.h2 ix.h3
    have hnx := runM_next hr hp_A
    have hlv := stepW_level x r
    generalize stepW x r = z at cs hnx hlv
    rw [← hlv] at cs
    refine Qd (Qc ?_);refine M0 (Qr J J J J (by assumption)) J J ?_;refine Qe (Q0 (Qd ?_));refine Qm rfl ?_;refine Qh ?_
    refine Q0 (Qd (Qk (Qd (Qc ?_))));refine M0 (Q2 J J J J (by omega) (by assumption) rfl) J J ?_
    refine M0 (q_lr1 J J J J) J J ?_;refine M0 (Qb J J J) J J ?_;refine Qe (Q0 (Qc ?_))
    refine M0 (Qu J J J J J J) J J ?_;refine M0 (Qa J J J) J J ?_;refine M1 (q_call J J (cs) J J J) J J ?_
    refine Qy J J J J J J J J J ?_;refine Qe (Q1 (Q0 (Qc ?_)));refine M0 (Qs J J J J (by omega)) J J ?_
    refine M0 (Qa J J J) J J ?_;refine Qe (Q0 ?_)
    exact ⟨rows.length - (k + 1),by omega,(fun (k : Nat) (x : TWorld) => (⟨_,[(4,.o (.c (.ptr 4 0))),(5,.o (.c (.ptr 0 0))),(10,L rows),(11,I (els rows).length),(12,I k)],[.box [.ref 1,jn x.Tick,jn x.Seed,.ref 2,.ref 3],.row 1 (els x.Level.Rows),.row 1 (els x.Scores),.row 9 (els x.Bodies),.box [nilV,jn 0,jn 0,nilV,nilV]]⟩ : St)) (k + 1) (z),W_go [0,5,6,7,4] (by decide) rfl (rfl) (.cons rfl (.cons rfl (.cons rfl (.cons rfl (.cons rfl (.nil)))))),k + 1,z,by omega,hnx,rfl⟩
  have hb0 : decide ((k : Int) < (els rows).length) = false := decide_eq_false (by omega)
  have hk : k = rows.length := by omega
  rw [hk,List.take_length] at hp_A
  rw [← hp_A]
  refine Qd (Qc ?_);refine M0 (Qr J J J J (by assumption)) J J ?_;refine Qe (Q0 (Qd ?_));refine Ql rfl ?_;refine Q9 ?_
  refine T_x (T_x (B_xs (Q0 (Qd (Qc ?_)))));refine M0 (Qu J J J J J J) J J ?_
  refine Qy J J J J J J J J J ?_;refine Qe (Q0 (Xa (F_r ?_)))
  exact E_cell J J J J (W_end [1,2,3] (by decide) J J J)
set_option maxHeartbeats 8000000 in
theorem S_RunWorld (w : TWorld) (rows : List (List Int)) (iw : WorIn w) (gr : Enc.gd rows) : Con Try.prog 54 [] [ag w,al rows] [.row 1 (els (runM w rows).Level.Rows),.row 1 (els (runM w rows).Scores),.row 9 (els (runM w rows).Bodies)] (.o (.ag [.ref 0,jn (runM w rows).Tick,jn (runM w rows).Seed,.ref 1,.ref 2])) := by
  have c1 := S_copyWorld w iw.gd iw.h1 iw.h2 iw.h3
  have hlr := els_len rows
  have hlg := gr.1
  refine Con.of Try.func54 rfl Try.ntmps54 rfl (fun E => ?_)
  refine Qd (Qc ?_);refine M1 (Qq J J J J) J J ?_;refine M1 (Qx J J J) J J ?_;refine Qe (Q0 (Qd ?_))
  refine Qc ?_;refine M0 (Qu J J J J J J) J J ?_;refine M1 (q_call J J (c1) J J J) J J ?_;refine M1 (Qx J J J) J J ?_
  refine Qy J J J J J J J J J ?_;refine Qe (Q0 (Qd (Qd (Qc ?_))));refine M0 (Qb J J J) J J ?_
  refine Qe (Q0 (Qk ?_))
  refine AWP.pre (st' := (⟨_,[(4,.o (.c (.ptr 4 0))),(5,.o (.c (.ptr 0 0))),(1,L rows),(6,I 0)],[.box [.ref 1,jn w.Tick,jn w.Seed,.ref 2,.ref 3],.row 1 (els w.Level.Rows),.row 1 (els w.Scores),.row 9 (els w.Bodies),.box [nilV,jn 0,jn 0,nilV,nilV]]⟩ : St)) ?_ (W_go [5,2,3,4,1] (by decide) rfl (rfl) (.cons rfl (.cons rfl (.cons rfl (.cons rfl (.nil))))))
  clear c1
  refine A_loop (fun m st => ∃ (k : Nat) (x : TWorld),k + m = rows.length ∧ (x = runM w (rows.take k)) ∧ st = (fun (k : Nat) (x : TWorld) => (⟨_,[(4,.o (.c (.ptr 4 0))),(5,.o (.c (.ptr 0 0))),(1,L rows),(6,I k)],[.box [.ref 1,jn x.Tick,jn x.Seed,.ref 2,.ref 3],.row 1 (els x.Level.Rows),.row 1 (els x.Scores),.row 9 (els x.Bodies),.box [nilV,jn 0,jn 0,nilV,nilV]]⟩ : St)) k x) (rows.length) ⟨(fun (k : Nat) (x : TWorld) => (⟨_,[(4,.o (.c (.ptr 4 0))),(5,.o (.c (.ptr 0 0))),(1,L rows),(6,I k)],[.box [.ref 1,jn x.Tick,jn x.Seed,.ref 2,.ref 3],.row 1 (els x.Level.Rows),.row 1 (els x.Scores),.row 9 (els x.Bodies),.box [nilV,jn 0,jn 0,nilV,nilV]]⟩ : St)) 0 (w),W_go [0,1,2,3,4] (by decide) rfl (rfl) (.cons rfl (.cons rfl (.cons rfl (.cons rfl (.nil))))),0,w,by omega,rfl,rfl⟩ ?_
  rintro m_A _ ⟨k,x,hk_A,hp_A,rfl⟩
  have ix : WorIn x := by rw [hp_A]; exact ran_in _ iw
  by_cases hlt : k < rows.length
  · have hb0 : decide ((k : Int) < (els rows).length) = true := decide_eq_true (by omega)
    obtain ⟨r,hr⟩ := some_sm hlt
    have her := els_sm hr
    have cs := S_StepWorld x r ix.gd (gr.2 r (List.mem_of_getElem? hr)) ix.h1 ix.h2 ix.h3
    have hnx := runM_next hr hp_A
    have hlv := stepW_level x r
    generalize stepW x r = z at cs hnx hlv
    rw [← hlv] at cs
    refine Qd (Qd (Qc ?_));refine M0 (Qa J J J) J J ?_;refine M0 (Qa J J J) J J ?_;refine M0 (q_len J J J) J J ?_
    refine M0 (Qr J J J J (by assumption)) J J ?_;refine Qe (Q0 ?_);refine Qm rfl ?_;refine Qh (Q0 (Qd (Qk ?_)))
    refine A_draw [[],[],[],[1,2],[1,2,3],[0,1,2,3,4],[0,1,2,3,4,5]] [[],[],[],[16,17],[16,17,18],[15,16,17,18,19],[15,16,17,18,19,20]] [[16,17,18,19],[15,17],[15,16],[15],[15],[],[]] rfl ?_
    refine DR.step (Qu J J J J J J) J J ?_;refine DR.step (Qa J J J) J J ?_;refine DR.step (Qa J J J) J J ?_
    refine DR.step (Q2 J J J J (by omega) (by assumption) rfl) J J ?_;refine DR.step (q_lr1 J J J J) J J ?_
    refine DR.step (q_call J J (cs) J J J) J J ?_;refine DR.stop (by kernel_rfl) (by kernel_rfl) ?_
    refine Qy J J J J J J J J J ?_;refine Qe (Q1 (Q0 (Qc ?_)));refine M0 (Qa J J J) J J ?_
    refine M0 (Qs J J J J (by omega)) J J ?_;refine M0 (Qb J J J) J J ?_;refine Qe (Q0 ?_)
    exact ⟨rows.length - (k + 1),by omega,(fun (k : Nat) (x : TWorld) => (⟨_,[(4,.o (.c (.ptr 4 0))),(5,.o (.c (.ptr 0 0))),(1,L rows),(6,I k)],[.box [.ref 1,jn x.Tick,jn x.Seed,.ref 2,.ref 3],.row 1 (els x.Level.Rows),.row 1 (els x.Scores),.row 9 (els x.Bodies),.box [nilV,jn 0,jn 0,nilV,nilV]]⟩ : St)) (k + 1) (z),W_go [0,5,6,7,4] (by decide) rfl (rfl) (.cons rfl (.cons rfl (.cons rfl (.cons rfl (.nil))))),k + 1,z,by omega,hnx,rfl⟩
  have hb0 : decide ((k : Int) < (els rows).length) = false := decide_eq_false (by omega)
  have hk : k = rows.length := by omega
  rw [hk,List.take_length] at hp_A
  rw [← hp_A]
  refine Qd (Qd (Qc ?_));refine M0 (Qa J J J) J J ?_;refine M0 (Qa J J J) J J ?_;refine M0 (q_len J J J) J J ?_
  refine M0 (Qr J J J J (by assumption)) J J ?_;refine Qe (Q0 ?_);refine Ql rfl ?_;refine Q9 (T_x (T_x (B_xs (Q0 ?_))))
  refine Qd (Qc ?_);refine M0 (Qu J J J J J J) J J ?_;refine Qy J J J J J J J J J ?_;refine Qe (Q0 (Xa ?_))
  refine F_r ?_
  exact E_cell J J J J (W_end [1,2,3] (by decide) J J J)
end Go.Proofs.Ytmljakmaffbnlaa
end

section
set_option linter.unusedSimpArgs false
set_option linter.unusedVariables false
set_option maxRecDepth 8000
namespace Go.Proofs.Ytmljakmaffbnlaa
open Go.RowKit

def rowsOk (rows : List (List Int)) (n : Nat) : Bool := rows.all fun r => rowOk r n
theorem rows_no {rows : List (List Int)} {n k : Nat} {r : List Int} (h : rows[k]? = some r) (hr : rowOk r n = false) : rowsOk rows n = false := by
  rw [rowsOk,← Bool.not_eq_true,List.all_eq_true]
  intro hh
  rw [hh r (List.mem_of_getElem? h)] at hr
  cases hr
theorem rows_go {rows : List (List Int)} {n k : Nat} {r : List Int} (h : rows[k]? = some r) (hr : rowOk r n = true) (hh : rowsOk (rows.take k) n = true) : rowsOk (rows.take (k + 1)) n = true := by
  obtain ⟨hk,rfl⟩ := List.getElem?_eq_some_iff.1 h
  rw [List.take_succ_eq_append_getElem hk,rowsOk,List.all_append,← rowsOk,hh]
  simp [hr]
noncomputable def feedM (s : TSpectator) (first : Int) (rows : List (List Int)) : TSpectator × Bool :=
  if worldOk s.World = true ∧ (0 ≤ first ∧ first ≤ 100000) ∧ rowsOk rows s.World.Scores.length = true then
    (if s.World.Tick < first then (⟨s.World,if s.Gaps < 1000000 then s.Gaps + 1 else s.Gaps⟩,false)
    else (⟨runM s.World (rows.drop (s.World.Tick - first).toNat),s.Gaps⟩,true))
  else (s,false)
section
variable {w : TWorld} {g first : Int} {rows : List (List Int)}
theorem feed_no (h : ¬ (worldOk w = true ∧ (0 ≤ first ∧ first ≤ 100000) ∧ rowsOk rows w.Scores.length = true)) : feedM ⟨w,g⟩ first rows = (⟨w,g⟩,false) := by rw [feedM]; exact if_neg h
theorem feed_gap (h : worldOk w = true ∧ (0 ≤ first ∧ first ≤ 100000) ∧ rowsOk rows w.Scores.length = true) (h1 : w.Tick < first) (h2 : g < 1000000) : feedM ⟨w,g⟩ first rows = (⟨w,g + 1⟩,false) := by rw [feedM,if_pos h]; simp only [if_pos h1,if_pos h2]
theorem feed_full (h : worldOk w = true ∧ (0 ≤ first ∧ first ≤ 100000) ∧ rowsOk rows w.Scores.length = true) (h1 : w.Tick < first) (h2 : ¬ g < 1000000) : feedM ⟨w,g⟩ first rows = (⟨w,g⟩,false) := by rw [feedM,if_pos h]; simp only [if_pos h1,if_neg h2]
theorem feed_run (h : worldOk w = true ∧ (0 ≤ first ∧ first ≤ 100000) ∧ rowsOk rows w.Scores.length = true) (h1 : ¬ w.Tick < first) : feedM ⟨w,g⟩ first rows = (⟨runM w (rows.drop (w.Tick - first).toNat),g⟩,true) := by rw [feedM,if_pos h]; simp only [if_neg h1]
end
theorem feed_in {s : TSpectator} {first : Int} {rows : List (List Int)} (h : WorIn s.World) (hg : I64 s.Gaps) : WorIn (feedM s first rows).1.World ∧ I64 (feedM s first rows).1.Gaps := by
  unfold feedM
  split
  · split
    · refine ⟨h,?_⟩
      have := hg
      simp only [I64] at *
      split <;> omega
    · exact ⟨ran_in _ h,hg⟩
  · exact ⟨h,hg⟩
theorem els_dropE2 {α : Type} [Enc α] (xs : List α) (n : Nat) : els (xs.drop n) = (els xs).drop n := List.map_drop
set_option maxHeartbeats 8000000 in
theorem I_FeedRows (s : TSpectator) (first : Int) (rows : List (List Int)) (iw : WorIn s.World) (gG : I64 s.Gaps) (gf : I64 first) (gr : Enc.gd rows) : Con Try.prog 22 [] [ag s,ai first,al rows] (ownO (Enc.e (feedM s first rows).1)) (.tu [.ag (ownV 0 (Enc.e (feedM s first rows).1)),.c (bv (feedM s first rows).2)]) := by
  obtain ⟨w,g⟩ := s
  simp only at iw gG
  obtain ⟨gf1,gf2⟩ := gf
  obtain ⟨gg1,gg2⟩ := gG
  have c1 := I_copyWorld w iw.gd iw.h1 iw.h2 iw.h3
  have c2 := I_WorldOk w iw.gd
  have c3 := I_between first 0 100000
  have hls := els_len w.Scores
  have hlr := els_len rows
  have hlg := gr.1
  refine Con.of Try.func22 rfl Try.ntmps22 rfl (fun E => ?_)
  refine Qd (Qc ?_);refine M1 (Qq J J J J) J J ?_;refine M1 (Qx J J J) J J ?_;refine M0 (Qb J J J) J J ?_;refine Qe ?_
  refine Q0 (Qd (Qc ?_));refine M0 (Qu J J J J J J) J J ?_;refine M1 (Qx J J J) J J ?_
  refine Qy J J J J J J J J J ?_;refine Qe (Q0 (Qd (Qc ?_)));refine M0 (Qf J J J J (by decide)) J J ?_
  refine M0 (Qu J J J J J J) J J ?_;refine M1 (q_call J J (c1) J J J) J J ?_;refine M0 (Qf J J J J (by decide)) J J ?_
  refine Qy J J J J J J J J J ?_;refine Qe (Q0 (Qd (Qd (Qc ?_))))
  refine M0 (Qf J J J J (by decide)) J J ?_;refine M0 (Qu J J J J J J) J J ?_
  refine AL.weak (st' := (⟨_,[(1,I first),(2,L rows),(3,.o (.c (.ptr 0 0))),(6,.o (.c (.ptr 1 0))),(7,B false),(8,.o (.c (.ptr 2 0))),(18,.o (.ag ((Enc.e w).map (V1.rd []))))],[.box [.rd [] (.sl 1 (els w.Level.Rows)),jn w.Tick,jn w.Seed,.rd [] (.sl 1 (els w.Scores)),.rd [] (.sl 9 (els w.Bodies)),jn g],.box [nilV,jn 0,jn 0,nilV,nilV,jn 0],.box [.ref 3,jn w.Tick,jn w.Seed,.ref 4,.ref 5,jn g],.row 1 (els w.Level.Rows),.row 1 (els w.Scores),.row 9 (els w.Bodies)]⟩ : St)) (W_go [0,1,2,3,4,5] (by decide) rfl (rfl) (.cons rfl (.cons rfl (.cons rfl (.cons rfl (.cons rfl (.cons rfl (.cons rfl (.nil))))))))) ?_
  clear c1
  cases ho : worldOk w with
  | false =>
    rw [feed_no (fun q => by rw [ho] at q; cases q.1)]
    rw [ho] at c2
    refine M0 (Qj J J (c2) rfl) J J ?_;refine M0 (Q4 J J J) J J ?_;refine M0 (Qa J J J) J J ?_;refine Qp J J J J J J ?_
    refine Qp J J J J J J ?_;refine Qp J J J J J J ?_;refine M0 (Qo J J J J) J J ?_;refine Qe (Q0 ?_);refine Qm rfl ?_
    refine Qd (Qc ?_);refine M0 (Qu J J J J J J) J J ?_;refine Qy J J J J J J J J J ?_;refine M0 (Qb J J J) J J ?_
    refine Qe (Q0 (Xa (T_r (F_r ?_))))
    exact E_cellt J J J J J (W_end [3,4,5] (by decide) J J J)
  | true =>
  rw [ho] at c2
  by_cases hf : inR first 0 100000 = true
  case neg =>
    have hf2 : inR first 0 100000 = false := by simpa using hf
    rw [feed_no (fun q => hf (inR_iff.2 q.2.1))]
    rw [hf2] at c3
    refine M0 (Qj J J (c2) rfl) J J ?_;refine M0 (Q4 J J J) J J ?_;refine M0 (Qa J J J) J J ?_;refine Qi J J J ?_
    refine M0 (Qa J J J) J J ?_;refine Qi J J J ?_;refine M0 (Qj J J (c3) rfl) J J ?_;refine Qi J J J ?_
    refine M0 (Q4 J J J) J J ?_;refine M0 (Qn J J J J) J J ?_;refine Qe (Q0 ?_);refine Qm rfl ?_;refine Qd (Qc ?_)
    refine M0 (Qu J J J J J J) J J ?_;refine Qy J J J J J J J J J ?_;refine M0 (Qb J J J) J J ?_;refine Qe (Q0 ?_)
    refine Xa (T_r (F_r ?_))
    exact E_cellt J J J J J (W_end [3,4,5] (by decide) J J J)
  rw [hf] at c3
  have hfr := inR_iff.1 hf
  refine M0 (Qj J J (c2) rfl) J J ?_;refine M0 (Q4 J J J) J J ?_;refine M0 (Qa J J J) J J ?_;refine Qi J J J ?_
  refine M0 (Qa J J J) J J ?_;refine Qi J J J ?_;refine M0 (Qj J J (c3) rfl) J J ?_;refine Qi J J J ?_
  refine M0 (Q4 J J J) J J ?_;refine M0 (Qn J J J J) J J ?_;refine Qe (Q0 ?_);refine Ql rfl ?_;refine Qh (Q0 (Qd ?_))
  refine Qd (Qc ?_);refine M0 (Qa J J J) J J ?_;refine M0 (q_len J J J) J J ?_;refine M0 (Qa J J J) J J ?_;refine Qe ?_
  refine Q0 (Qk ?_)
  refine A_loop (fun m st => ∃ k : Nat,k + m = rows.length ∧ (rowsOk (rows.take k) w.Scores.length = true) ∧ st = (fun k : Nat => (⟨_,[(1,I first),(2,L rows),(3,.o (.c (.ptr 0 0))),(6,.o (.c (.ptr 1 0))),(7,B false),(8,.o (.c (.ptr 2 0))),(27,L rows),(28,I (els rows).length),(29,I k)],[.box [.rd [] (.sl 1 (els w.Level.Rows)),jn w.Tick,jn w.Seed,.rd [] (.sl 1 (els w.Scores)),.rd [] (.sl 9 (els w.Bodies)),jn g],.box [nilV,jn 0,jn 0,nilV,nilV,jn 0],.box [.ref 3,jn w.Tick,jn w.Seed,.ref 4,.ref 5,jn g],.row 1 (els w.Level.Rows),.row 1 (els w.Scores),.row 9 (els w.Bodies)]⟩ : St)) k) (rows.length) ⟨(fun k : Nat => (⟨_,[(1,I first),(2,L rows),(3,.o (.c (.ptr 0 0))),(6,.o (.c (.ptr 1 0))),(7,B false),(8,.o (.c (.ptr 2 0))),(27,L rows),(28,I (els rows).length),(29,I k)],[.box [.rd [] (.sl 1 (els w.Level.Rows)),jn w.Tick,jn w.Seed,.rd [] (.sl 1 (els w.Scores)),.rd [] (.sl 9 (els w.Bodies)),jn g],.box [nilV,jn 0,jn 0,nilV,nilV,jn 0],.box [.ref 3,jn w.Tick,jn w.Seed,.ref 4,.ref 5,jn g],.row 1 (els w.Level.Rows),.row 1 (els w.Scores),.row 9 (els w.Bodies)]⟩ : St)) 0,W_go [0,1,2,3,4,5] (by decide) rfl (rfl) (.cons rfl (.cons rfl (.cons rfl (.cons rfl (.cons rfl (.cons rfl (.cons rfl (.cons rfl (.cons rfl (.nil)))))))))),0,by omega,rfl,rfl⟩ ?_
  rintro m_A _ ⟨k,hk_A,hp_A,rfl⟩
  by_cases hlt : k < rows.length
  · have hb0 : decide ((k : Int) < (els rows).length) = true := decide_eq_true (by omega)
    obtain ⟨r,hr⟩ := some_sm hlt
    have her := els_sm hr
    have cr := I_rowOk r ((els w.Scores).length : Int) (gr.2 r (List.mem_of_getElem? hr))
    rw [show rowOk r ((els w.Scores).length : Int) = rowOk r (w.Scores.length : Int) by rw [hls]] at cr
    cases hk : rowOk r (w.Scores.length : Int) with
    | false =>
      rw [feed_no (fun q => by rw [rows_no hr hk] at q; cases q.2.2)]
      rw [hk] at cr
      refine Qd (Qc ?_);refine M0 (Qr J J J J (by assumption)) J J ?_;refine Qe (Q0 (Qd ?_));refine Qm rfl ?_;refine Qh ?_
      refine Q0 (Qd (Qk (Qd (Qc ?_))));refine M0 (Q2 J J J J (by omega) (by assumption) rfl) J J ?_
      refine M0 (q_lr1 J J J J) J J ?_;refine M0 (Qb J J J) J J ?_;refine Qe (Q0 (Qd (Qc ?_)))
      refine M0 (Qa J J J) J J ?_;refine M0 (Qf J J J J (by decide)) J J ?_;refine M0 (Qf J J J J (by decide)) J J ?_
      refine M0 (Qg J J J J J) J J ?_;refine M0 (q_len J J J) J J ?_;refine M0 (Qj J J (cr) rfl) J J ?_;refine M0 (Q4 J J J) J J ?_
      refine Qe (Q0 ?_);refine Qm rfl ?_;refine Qd (Qc ?_);refine M0 (Qu J J J J J J) J J ?_
      refine Qy J J J J J J J J J ?_;refine M0 (Qb J J J) J J ?_;refine Qe (Q0 (Xa (B_r (T_r (T_r ?_)))))
      refine B_r (T_r (F_r ?_))
      exact E_cellt J J J J J (W_end [3,4,5] (by decide) J J J)
    | true =>
      rw [hk] at cr
      refine Qd (Qc ?_);refine M0 (Qr J J J J (by assumption)) J J ?_;refine Qe (Q0 (Qd ?_));refine Qm rfl ?_;refine Qh ?_
      refine Q0 (Qd (Qk (Qd (Qc ?_))));refine M0 (Q2 J J J J (by omega) (by assumption) rfl) J J ?_
      refine M0 (q_lr1 J J J J) J J ?_;refine M0 (Qb J J J) J J ?_;refine Qe (Q0 (Qd (Qc ?_)))
      refine M0 (Qa J J J) J J ?_;refine M0 (Qf J J J J (by decide)) J J ?_;refine M0 (Qf J J J J (by decide)) J J ?_
      refine M0 (Qg J J J J J) J J ?_;refine M0 (q_len J J J) J J ?_;refine M0 (Qj J J (cr) rfl) J J ?_;refine M0 (Q4 J J J) J J ?_
      refine Qe (Q0 ?_);refine Ql rfl ?_;refine Qh (Q1 (Q0 (Qc ?_)));refine M0 (Qs J J J J (by omega)) J J ?_
      refine M0 (Qa J J J) J J ?_;refine Qe (Q0 ?_)
      exact ⟨rows.length - (k + 1),by omega,(fun k : Nat => (⟨_,[(1,I first),(2,L rows),(3,.o (.c (.ptr 0 0))),(6,.o (.c (.ptr 1 0))),(7,B false),(8,.o (.c (.ptr 2 0))),(27,L rows),(28,I (els rows).length),(29,I k)],[.box [.rd [] (.sl 1 (els w.Level.Rows)),jn w.Tick,jn w.Seed,.rd [] (.sl 1 (els w.Scores)),.rd [] (.sl 9 (els w.Bodies)),jn g],.box [nilV,jn 0,jn 0,nilV,nilV,jn 0],.box [.ref 3,jn w.Tick,jn w.Seed,.ref 4,.ref 5,jn g],.row 1 (els w.Level.Rows),.row 1 (els w.Scores),.row 9 (els w.Bodies)]⟩ : St)) (k + 1),W_go [0,1,2,3,4,5] (by decide) rfl (rfl) (.cons rfl (.cons rfl (.cons rfl (.cons rfl (.cons rfl (.cons rfl (.cons rfl (.cons rfl (.cons rfl (.nil)))))))))),k + 1,by omega,rows_go hr hk hp_A,rfl⟩
  have hb0 : decide ((k : Int) < (els rows).length) = false := decide_eq_false (by omega)
  have hk : k = rows.length := by omega
  rw [hk,List.take_length] at hp_A
  have hok : worldOk w = true ∧ (0 ≤ first ∧ first ≤ 100000) ∧ rowsOk rows w.Scores.length = true := ⟨ho,hfr,hp_A⟩
  obtain ⟨_,htk,_,_,_,_,_⟩ := worldOk_spec ho
  have htk := inR_iff.1 htk
  by_cases h1 : w.Tick < first
  · have d1 : decide (first > w.Tick) = true := decide_eq_true h1
    by_cases h2 : g < 1000000
    · have d2 : decide (g < 1000000) = true := decide_eq_true h2
      rw [feed_gap hok h1 h2]
      refine Qd (Qc ?_);refine M0 (Qr J J J J (by assumption)) J J ?_;refine Qe (Q0 (Qd ?_));refine Ql rfl ?_;refine Q9 ?_
      refine T_x (T_x (B_xs (Q0 (Qd (Qd (Qc ?_))))));refine M0 (Qa J J J) J J ?_
      refine M0 (Qf J J J J (by decide)) J J ?_;refine M0 (Qf J J J J (by decide)) J J ?_;refine M0 (Qg J J J J J) J J ?_
      refine M0 (q_gtrK J J J J (by assumption)) J J ?_;refine Qe (Q0 ?_);refine Qm rfl ?_;refine Qd (Qd (Qc ?_))
      refine M0 (Qf J J J J (by decide)) J J ?_;refine M0 (Qg J J J J J) J J ?_;refine M0 (Qr J J J J (by assumption)) J J ?_
      refine Qe (Q0 ?_);refine Qm rfl ?_;refine Qc ?_;refine M0 (Qf J J J J (by decide)) J J ?_;refine M0 (Qg J J J J J) J J ?_
      refine M0 (Qs J J J J (by omega)) J J ?_;refine M0 (Qf J J J J (by decide)) J J ?_;refine Q5 J J J J J J J J ?_;refine Qe ?_
      refine Q0 (Qd (Qc ?_));refine M0 (Qu J J J J J J) J J ?_;refine Qy J J J J J J J J J ?_
      refine M0 (Qb J J J) J J ?_;refine Qe (Q0 (Xa (T_r (F_r ?_))))
      exact E_cellt J J J J J (W_end [3,4,5] (by decide) J J J)
    · have d2 : decide (g < 1000000) = false := decide_eq_false h2
      rw [feed_full hok h1 h2]
      refine Qd (Qc ?_);refine M0 (Qr J J J J (by assumption)) J J ?_;refine Qe (Q0 (Qd ?_));refine Ql rfl ?_;refine Q9 ?_
      refine T_x (T_x (B_xs (Q0 (Qd (Qd (Qc ?_))))));refine M0 (Qa J J J) J J ?_
      refine M0 (Qf J J J J (by decide)) J J ?_;refine M0 (Qf J J J J (by decide)) J J ?_;refine M0 (Qg J J J J J) J J ?_
      refine M0 (q_gtrK J J J J (by assumption)) J J ?_;refine Qe (Q0 ?_);refine Qm rfl ?_;refine Qd (Qd (Qc ?_))
      refine M0 (Qf J J J J (by decide)) J J ?_;refine M0 (Qg J J J J J) J J ?_;refine M0 (Qr J J J J (by assumption)) J J ?_
      refine Qe (Q0 ?_);refine Ql rfl ?_;refine Qh (Q0 (Qd (Qc ?_)));refine M0 (Qu J J J J J J) J J ?_
      refine Qy J J J J J J J J J ?_;refine M0 (Qb J J J) J J ?_;refine Qe (Q0 (Xa (T_r (F_r ?_))))
      exact E_cellt J J J J J (W_end [3,4,5] (by decide) J J J)
  have d1 : decide (first > w.Tick) = false := decide_eq_false h1
  rw [feed_run hok h1]
  obtain ⟨n,hn⟩ : ∃ n : Nat,w.Tick - first = n := ⟨(w.Tick - first).toNat,by omega⟩
  rw [hn,Int.toNat_natCast]
  by_cases h3 : n < rows.length
  · have d3 : decide (w.Tick - first < (els rows).length) = true := decide_eq_true (by omega)
    have hrw := I_RunWorld w (rows.drop n) iw ⟨by rw [List.length_drop]; omega,fun x hx => gr.2 x (List.mem_of_mem_drop hx)⟩
    have hrw : Con Try.prog 55 [] [ag w,.c (.rd [] (.sl (Enc.k (List Int)) ((els rows).drop (w.Tick - first).toNat)))] (ownO (Enc.e (runM w (rows.drop n)))) (.o (.ag (ownV 0 (Enc.e (runM w (rows.drop n)))))) := by rw [hn,Int.toNat_natCast,← els_dropE2]; exact hrw
    have hq : (0 : Int) ≤ w.Tick - first ∧ w.Tick - first ≤ ((els rows).length : Nat) := by omega
    generalize runM w (rows.drop n) = z at hrw
    refine Qd (Qc ?_);refine M0 (Qr J J J J (by assumption)) J J ?_;refine Qe (Q0 (Qd ?_));refine Ql rfl ?_;refine Q9 ?_
    refine T_x (T_x (B_xs (Q0 (Qd (Qd (Qc ?_))))));refine M0 (Qa J J J) J J ?_
    refine M0 (Qf J J J J (by decide)) J J ?_;refine M0 (Qf J J J J (by decide)) J J ?_;refine M0 (Qg J J J J J) J J ?_
    refine M0 (q_gtrK J J J J (by assumption)) J J ?_;refine Qe (Q0 ?_);refine Ql rfl ?_;refine Qh (Q0 (Qd (Qc ?_)))
    refine M0 (Qf J J J J (by decide)) J J ?_;refine M0 (Qf J J J J (by decide)) J J ?_;refine M0 (Qg J J J J J) J J ?_
    refine M0 (Qa J J J) J J ?_;refine M0 (Xc J J J J (by omega)) J J ?_;refine M0 (Qb J J J) J J ?_;refine Qe (Q0 ?_)
    refine Qd (Qd (Qc ?_));refine M0 (Qa J J J) J J ?_;refine M0 (Qa J J J) J J ?_;refine M0 (q_len J J J) J J ?_
    refine M0 (Qr J J J J (by assumption)) J J ?_;refine Qe (Q0 ?_);refine Qm rfl ?_
    refine A_draw [[],[0],[],[],[2,3],[0,1,2,3,4],[0,1,2,3,4,5],[0,1,2,3,4,5,6]] [[],[64],[],[],[66,67],[64,65,66,67,68],[64,65,66,67,68,69],[64,65,66,67,68,69,70]] [[66,67,68],[66,67,68],[64,65,67],[64,65,66],[64,65],[],[],[]] rfl ?_
    refine DR.step (Qf J J J J (by decide)) J J ?_;refine DR.step (Qu J J J J J J) J J ?_;refine DR.step (Qa J J J) J J ?_
    refine DR.step (Qa J J J) J J ?_;refine DR.step (q_part1 J J J J J hq) J J ?_;refine DR.step (q_call J J (hrw) J J J) J J ?_
    refine DR.step (Qf J J J J (by decide)) J J ?_;refine DR.stop (by kernel_rfl) (by kernel_rfl) ?_
    refine Qy J J J J J J J J J ?_;refine Qe (Q0 (Qd (Qc ?_)));refine M0 (Qu J J J J J J) J J ?_
    refine Qy J J J J J J J J J ?_;refine M0 (Qb J J J) J J ?_;refine Qe (Q0 (Xa (F_r ?_)))
    exact E_cellt J J J J J (W_end [6,7,8] (by decide) J J J)
  · have d3 : decide (w.Tick - first < (els rows).length) = false := decide_eq_false (by omega)
    rw [List.drop_of_length_le (by omega)]
    refine Qd (Qc ?_);refine M0 (Qr J J J J (by assumption)) J J ?_;refine Qe (Q0 (Qd ?_));refine Ql rfl ?_;refine Q9 ?_
    refine T_x (T_x (B_xs (Q0 (Qd (Qd (Qc ?_))))));refine M0 (Qa J J J) J J ?_
    refine M0 (Qf J J J J (by decide)) J J ?_;refine M0 (Qf J J J J (by decide)) J J ?_;refine M0 (Qg J J J J J) J J ?_
    refine M0 (q_gtrK J J J J (by assumption)) J J ?_;refine Qe (Q0 ?_);refine Ql rfl ?_;refine Qh (Q0 (Qd (Qc ?_)))
    refine M0 (Qf J J J J (by decide)) J J ?_;refine M0 (Qf J J J J (by decide)) J J ?_;refine M0 (Qg J J J J J) J J ?_
    refine M0 (Qa J J J) J J ?_;refine M0 (Xc J J J J (by omega)) J J ?_;refine M0 (Qb J J J) J J ?_;refine Qe (Q0 ?_)
    refine Qd (Qd (Qc ?_));refine M0 (Qa J J J) J J ?_;refine M0 (Qa J J J) J J ?_;refine M0 (q_len J J J) J J ?_
    refine M0 (Qr J J J J (by assumption)) J J ?_;refine Qe (Q0 ?_);refine Ql rfl ?_;refine Qh (Q0 (Qd (Qc ?_)))
    refine M0 (Qu J J J J J J) J J ?_;refine Qy J J J J J J J J J ?_;refine M0 (Qb J J J) J J ?_;refine Qe (Q0 ?_)
    refine Xa (F_r ?_)
    exact E_cellt J J J J J (W_end [3,4,5] (by decide) J J J)
set_option maxHeartbeats 8000000 in
theorem S_FeedRows (s : TSpectator) (first : Int) (rows : List (List Int)) (iw : WorIn s.World) (gG : I64 s.Gaps) (gf : I64 first) (gr : Enc.gd rows) : Con Try.prog 19 [] [ag s,ai first,al rows] (ownO (Enc.e (feedM s first rows).1)) (.tu [.ag (ownV 0 (Enc.e (feedM s first rows).1)),.c (bv (feedM s first rows).2)]) := by
  obtain ⟨w,g⟩ := s
  simp only at iw gG
  obtain ⟨gf1,gf2⟩ := gf
  obtain ⟨gg1,gg2⟩ := gG
  have c1 := S_copyWorld w iw.gd iw.h1 iw.h2 iw.h3
  have c2 := S_WorldOk w iw.gd
  have c3 := S_in first 0 100000
  have hls := els_len w.Scores
  have hlr := els_len rows
  have hlg := gr.1
  refine Con.of Try.func19 rfl Try.ntmps19 rfl (fun E => ?_)
  refine Qd (Qc ?_);refine M1 (Qq J J J J) J J ?_;refine M1 (Qx J J J) J J ?_;refine M0 (Qb J J J) J J ?_;refine Qe ?_
  refine Q0 (Qd ?_)
  refine A_draw [[],[0],[0,1],[],[3],[0,1,2,3,4],[],[0,1,2,3,4,5,6]] [[],[11],[11,12],[],[14],[11,12,13,14,15],[],[8,11,12,13,14,15,16]] [[8,14,15],[8,14,15],[8,14,15],[8,11,12,13],[8,11,12,13],[8],[11,12,13,14,15,16],[]] rfl ?_
  refine DR.step (Qf J J J J (by decide)) J J ?_;refine DR.step (Qu J J J J J J) J J ?_;refine DR.step (q_call J J (c1) J J J) J J ?_
  refine DR.step (Qf J J J J (by decide)) J J ?_;refine DR.step (Qg J J J J J) J J ?_;refine DR.step (q_build J J J J J) J J ?_
  refine DR.step (Qx J J J) J J ?_;refine DR.stop (by kernel_rfl) (by kernel_rfl) ?_
  refine Qy J J J J J J J J J ?_;refine Qe (Q0 (Qd (Qd (Qc ?_))))
  refine M0 (Qf J J J J (by decide)) J J ?_;refine M0 (Qu J J J J J J) J J ?_
  refine AL.weak (st' := (⟨_,[(1,I first),(2,L rows),(3,.o (.c (.ptr 0 0))),(6,.o (.c (.ptr 1 0))),(7,B false),(8,.o (.c (.ptr 2 0))),(18,.o (.ag ((Enc.e w).map (V1.rd []))))],[.box [.rd [] (.sl 1 (els w.Level.Rows)),jn w.Tick,jn w.Seed,.rd [] (.sl 1 (els w.Scores)),.rd [] (.sl 9 (els w.Bodies)),jn g],.box [nilV,jn 0,jn 0,nilV,nilV,jn 0],.box [.ref 3,jn w.Tick,jn w.Seed,.ref 4,.ref 5,jn g],.row 1 (els w.Level.Rows),.row 1 (els w.Scores),.row 9 (els w.Bodies)]⟩ : St)) (W_go [0,1,5,2,3,4] (by decide) rfl (rfl) (.cons rfl (.cons rfl (.cons rfl (.cons rfl (.cons rfl (.cons rfl (.cons rfl (.nil))))))))) ?_
  clear c1
  cases ho : worldOk w with
  | false =>
    rw [feed_no (fun q => by rw [ho] at q; cases q.1)]
    rw [ho] at c2
    refine M0 (Qj J J (c2) rfl) J J ?_;refine M0 (Q4 J J J) J J ?_;refine M0 (Qa J J J) J J ?_;refine Qp J J J J J J ?_
    refine Qp J J J J J J ?_;refine Qp J J J J J J ?_;refine M0 (Qo J J J J) J J ?_;refine Qe (Q0 ?_);refine Qm rfl ?_
    refine Qd (Qc ?_);refine M0 (Qu J J J J J J) J J ?_;refine Qy J J J J J J J J J ?_;refine M0 (Qb J J J) J J ?_
    refine Qe (Q0 (Xa (T_r (F_r ?_))))
    exact E_cellt J J J J J (W_end [3,4,5] (by decide) J J J)
  | true =>
  rw [ho] at c2
  by_cases hf : inR first 0 100000 = true
  case neg =>
    have hf2 : inR first 0 100000 = false := by simpa using hf
    rw [feed_no (fun q => hf (inR_iff.2 q.2.1))]
    rw [hf2] at c3
    refine M0 (Qj J J (c2) rfl) J J ?_;refine M0 (Q4 J J J) J J ?_;refine M0 (Qa J J J) J J ?_;refine Qi J J J ?_
    refine M0 (Qa J J J) J J ?_;refine Qi J J J ?_;refine M0 (Qj J J (c3) rfl) J J ?_;refine Qi J J J ?_
    refine M0 (Q4 J J J) J J ?_;refine M0 (Qn J J J J) J J ?_;refine Qe (Q0 ?_);refine Qm rfl ?_;refine Qd (Qc ?_)
    refine M0 (Qu J J J J J J) J J ?_;refine Qy J J J J J J J J J ?_;refine M0 (Qb J J J) J J ?_;refine Qe (Q0 ?_)
    refine Xa (T_r (F_r ?_))
    exact E_cellt J J J J J (W_end [3,4,5] (by decide) J J J)
  rw [hf] at c3
  have hfr := inR_iff.1 hf
  refine M0 (Qj J J (c2) rfl) J J ?_;refine M0 (Q4 J J J) J J ?_;refine M0 (Qa J J J) J J ?_;refine Qi J J J ?_
  refine M0 (Qa J J J) J J ?_;refine Qi J J J ?_;refine M0 (Qj J J (c3) rfl) J J ?_;refine Qi J J J ?_
  refine M0 (Q4 J J J) J J ?_;refine M0 (Qn J J J J) J J ?_;refine Qe (Q0 ?_);refine Ql rfl ?_;refine Qh (Q0 (Qd ?_))
  refine Qd (Qc ?_);refine M0 (Qb J J J) J J ?_;refine Qe (Q0 (Qk ?_))
  refine A_loop (fun m st => ∃ k : Nat,k + m = rows.length ∧ (rowsOk (rows.take k) w.Scores.length = true) ∧ st = (fun k : Nat => (⟨_,[(1,I first),(2,L rows),(3,.o (.c (.ptr 0 0))),(6,.o (.c (.ptr 1 0))),(7,B false),(8,.o (.c (.ptr 2 0))),(9,I k)],[.box [.rd [] (.sl 1 (els w.Level.Rows)),jn w.Tick,jn w.Seed,.rd [] (.sl 1 (els w.Scores)),.rd [] (.sl 9 (els w.Bodies)),jn g],.box [nilV,jn 0,jn 0,nilV,nilV,jn 0],.box [.ref 3,jn w.Tick,jn w.Seed,.ref 4,.ref 5,jn g],.row 1 (els w.Level.Rows),.row 1 (els w.Scores),.row 9 (els w.Bodies)]⟩ : St)) k) (rows.length) ⟨(fun k : Nat => (⟨_,[(1,I first),(2,L rows),(3,.o (.c (.ptr 0 0))),(6,.o (.c (.ptr 1 0))),(7,B false),(8,.o (.c (.ptr 2 0))),(9,I k)],[.box [.rd [] (.sl 1 (els w.Level.Rows)),jn w.Tick,jn w.Seed,.rd [] (.sl 1 (els w.Scores)),.rd [] (.sl 9 (els w.Bodies)),jn g],.box [nilV,jn 0,jn 0,nilV,nilV,jn 0],.box [.ref 3,jn w.Tick,jn w.Seed,.ref 4,.ref 5,jn g],.row 1 (els w.Level.Rows),.row 1 (els w.Scores),.row 9 (els w.Bodies)]⟩ : St)) 0,W_go [0,1,2,3,4,5] (by decide) rfl (rfl) (.cons rfl (.cons rfl (.cons rfl (.cons rfl (.cons rfl (.cons rfl (.cons rfl (.nil)))))))),0,by omega,rfl,rfl⟩ ?_
  rintro m_A _ ⟨k,hk_A,hp_A,rfl⟩
  by_cases hlt : k < rows.length
  · have hb0 : decide ((k : Int) < (els rows).length) = true := decide_eq_true (by omega)
    obtain ⟨r,hr⟩ := some_sm hlt
    have her := els_sm hr
    have cr := S_rowOk r ((els w.Scores).length : Int) (gr.2 r (List.mem_of_getElem? hr))
    rw [show rowOk r ((els w.Scores).length : Int) = rowOk r (w.Scores.length : Int) by rw [hls]] at cr
    cases hk : rowOk r (w.Scores.length : Int) with
    | false =>
      rw [feed_no (fun q => by rw [rows_no hr hk] at q; cases q.2.2)]
      rw [hk] at cr
      refine Qd (Qd (Qc ?_));refine M0 (Qa J J J) J J ?_;refine M0 (Qa J J J) J J ?_;refine M0 (q_len J J J) J J ?_
      refine M0 (Qr J J J J (by assumption)) J J ?_;refine Qe (Q0 ?_);refine Qm rfl ?_;refine Qh (Q0 (Qd (Qk ?_)))
      refine Qd ?_
      refine A_draw [[],[],[0,1],[0,1,2],[],[4],[4,5],[4,5,6],[0,1,2,3,4,5,6,7],[0,1,2,3,4,5,6,7,8]] [[],[],[33,34],[33,34,35],[],[37],[37,38],[37,38,39],[33,34,35,36,37,38,39,40],[33,34,35,36,37,38,39,40,41]] [[34,37,38,39,40],[33,37,38,39,40],[37,38,39,40],[37,38,39,40],[33,34,35,36],[33,34,35,36],[33,34,35,36],[33,34,35,36],[],[],[0,1]] rfl ?_
      refine DR.step (Qa J J J) J J ?_;refine DR.step (Qa J J J) J J ?_;refine DR.step (Q2 J J J J (by omega) (by assumption) rfl) J J ?_
      refine DR.step (q_lr1 J J J J) J J ?_;refine DR.step (Qf J J J J (by decide)) J J ?_;refine DR.step (Qf J J J J (by decide)) J J ?_
      refine DR.step (Qg J J J J J) J J ?_;refine DR.step (q_len J J J) J J ?_;refine DR.step (Qj J J (cr) rfl) J J ?_
      refine DR.step (Q4 J J J) J J ?_;refine DR.stop (by kernel_rfl) (by kernel_rfl) ?_
      refine Qe (Q0 ?_);refine Qm rfl ?_;refine Qd (Qc ?_);refine M0 (Qu J J J J J J) J J ?_
      refine Qy J J J J J J J J J ?_;refine M0 (Qb J J J) J J ?_;refine Qe (Q0 (Xa (B_r (T_r (T_r ?_)))))
      refine B_r (T_r (F_r ?_))
      exact E_cellt J J J J J (W_end [3,4,5] (by decide) J J J)
    | true =>
      rw [hk] at cr
      refine Qd (Qd (Qc ?_));refine M0 (Qa J J J) J J ?_;refine M0 (Qa J J J) J J ?_;refine M0 (q_len J J J) J J ?_
      refine M0 (Qr J J J J (by assumption)) J J ?_;refine Qe (Q0 ?_);refine Qm rfl ?_;refine Qh (Q0 (Qd (Qk ?_)))
      refine Qd ?_
      refine A_draw [[],[],[0,1],[0,1,2],[],[4],[4,5],[4,5,6],[0,1,2,3,4,5,6,7],[0,1,2,3,4,5,6,7,8]] [[],[],[33,34],[33,34,35],[],[37],[37,38],[37,38,39],[33,34,35,36,37,38,39,40],[33,34,35,36,37,38,39,40,41]] [[34,37,38,39,40],[33,37,38,39,40],[37,38,39,40],[37,38,39,40],[33,34,35,36],[33,34,35,36],[33,34,35,36],[33,34,35,36],[],[],[0,1]] rfl ?_
      refine DR.step (Qa J J J) J J ?_;refine DR.step (Qa J J J) J J ?_;refine DR.step (Q2 J J J J (by omega) (by assumption) rfl) J J ?_
      refine DR.step (q_lr1 J J J J) J J ?_;refine DR.step (Qf J J J J (by decide)) J J ?_;refine DR.step (Qf J J J J (by decide)) J J ?_
      refine DR.step (Qg J J J J J) J J ?_;refine DR.step (q_len J J J) J J ?_;refine DR.step (Qj J J (cr) rfl) J J ?_
      refine DR.step (Q4 J J J) J J ?_;refine DR.stop (by kernel_rfl) (by kernel_rfl) ?_
      refine Qe (Q0 ?_);refine Ql rfl ?_;refine Qh (Q1 (Q0 (Qc ?_)));refine M0 (Qa J J J) J J ?_
      refine M0 (Qs J J J J (by omega)) J J ?_;refine M0 (Qb J J J) J J ?_;refine Qe (Q0 ?_)
      exact ⟨rows.length - (k + 1),by omega,(fun k : Nat => (⟨_,[(1,I first),(2,L rows),(3,.o (.c (.ptr 0 0))),(6,.o (.c (.ptr 1 0))),(7,B false),(8,.o (.c (.ptr 2 0))),(9,I k)],[.box [.rd [] (.sl 1 (els w.Level.Rows)),jn w.Tick,jn w.Seed,.rd [] (.sl 1 (els w.Scores)),.rd [] (.sl 9 (els w.Bodies)),jn g],.box [nilV,jn 0,jn 0,nilV,nilV,jn 0],.box [.ref 3,jn w.Tick,jn w.Seed,.ref 4,.ref 5,jn g],.row 1 (els w.Level.Rows),.row 1 (els w.Scores),.row 9 (els w.Bodies)]⟩ : St)) (k + 1),W_go [0,1,2,3,4,5] (by decide) rfl (rfl) (.cons rfl (.cons rfl (.cons rfl (.cons rfl (.cons rfl (.cons rfl (.cons rfl (.nil)))))))),k + 1,by omega,rows_go hr hk hp_A,rfl⟩
  have hb0 : decide ((k : Int) < (els rows).length) = false := decide_eq_false (by omega)
  have hk : k = rows.length := by omega
  rw [hk,List.take_length] at hp_A
  have hok : worldOk w = true ∧ (0 ≤ first ∧ first ≤ 100000) ∧ rowsOk rows w.Scores.length = true := ⟨ho,hfr,hp_A⟩
  obtain ⟨_,htk,_,_,_,_,_⟩ := worldOk_spec ho
  have htk := inR_iff.1 htk
  by_cases h1 : w.Tick < first
  · have d1 : decide (first > w.Tick) = true := decide_eq_true h1
    by_cases h2 : g < 1000000
    · have d2 : decide (g < 1000000) = true := decide_eq_true h2
      rw [feed_gap hok h1 h2]
      refine Qd (Qd (Qc ?_));refine M0 (Qa J J J) J J ?_;refine M0 (Qa J J J) J J ?_;refine M0 (q_len J J J) J J ?_
      refine M0 (Qr J J J J (by assumption)) J J ?_;refine Qe (Q0 ?_);refine Ql rfl ?_;refine Q9 (T_x (T_x (B_xs (Q0 ?_))))
      refine Qd (Qd (Qc ?_));refine M0 (Qa J J J) J J ?_;refine M0 (Qf J J J J (by decide)) J J ?_
      refine M0 (Qf J J J J (by decide)) J J ?_;refine M0 (Qg J J J J J) J J ?_;refine M0 (q_gtrK J J J J (by assumption)) J J ?_
      refine Qe (Q0 ?_);refine Qm rfl ?_;refine Qd (Qd (Qc ?_));refine M0 (Qf J J J J (by decide)) J J ?_
      refine M0 (Qg J J J J J) J J ?_;refine M0 (Qr J J J J (by assumption)) J J ?_;refine Qe (Q0 ?_);refine Qm rfl ?_;refine Qc ?_
      refine M0 (Qf J J J J (by decide)) J J ?_;refine M0 (Qg J J J J J) J J ?_;refine M0 (Qs J J J J (by omega)) J J ?_
      refine M0 (Qf J J J J (by decide)) J J ?_;refine Q5 J J J J J J J J ?_;refine Qe (Q0 (Qd (Qc ?_)))
      refine M0 (Qu J J J J J J) J J ?_;refine Qy J J J J J J J J J ?_;refine M0 (Qb J J J) J J ?_;refine Qe (Q0 ?_)
      refine Xa (T_r (F_r ?_))
      exact E_cellt J J J J J (W_end [3,4,5] (by decide) J J J)
    · have d2 : decide (g < 1000000) = false := decide_eq_false h2
      rw [feed_full hok h1 h2]
      refine Qd (Qd (Qc ?_));refine M0 (Qa J J J) J J ?_;refine M0 (Qa J J J) J J ?_;refine M0 (q_len J J J) J J ?_
      refine M0 (Qr J J J J (by assumption)) J J ?_;refine Qe (Q0 ?_);refine Ql rfl ?_;refine Q9 (T_x (T_x (B_xs (Q0 ?_))))
      refine Qd (Qd (Qc ?_));refine M0 (Qa J J J) J J ?_;refine M0 (Qf J J J J (by decide)) J J ?_
      refine M0 (Qf J J J J (by decide)) J J ?_;refine M0 (Qg J J J J J) J J ?_;refine M0 (q_gtrK J J J J (by assumption)) J J ?_
      refine Qe (Q0 ?_);refine Qm rfl ?_;refine Qd (Qd (Qc ?_));refine M0 (Qf J J J J (by decide)) J J ?_
      refine M0 (Qg J J J J J) J J ?_;refine M0 (Qr J J J J (by assumption)) J J ?_;refine Qe (Q0 ?_);refine Ql rfl ?_;refine Qh ?_
      refine Q0 (Qd (Qc ?_));refine M0 (Qu J J J J J J) J J ?_;refine Qy J J J J J J J J J ?_
      refine M0 (Qb J J J) J J ?_;refine Qe (Q0 (Xa (T_r (F_r ?_))))
      exact E_cellt J J J J J (W_end [3,4,5] (by decide) J J J)
  have d1 : decide (first > w.Tick) = false := decide_eq_false h1
  rw [feed_run hok h1]
  obtain ⟨n,hn⟩ : ∃ n : Nat,w.Tick - first = n := ⟨(w.Tick - first).toNat,by omega⟩
  rw [hn,Int.toNat_natCast]
  obtain ⟨m,hm⟩ : ∃ m : Int,m = min (w.Tick - first) ((els rows).length : Int) := ⟨_,rfl⟩
  have hdr : rows.drop n = rows.drop m.toNat := by
    rcases Nat.lt_or_ge n rows.length with h | h
    · rw [show m.toNat = n by omega]
    · rw [List.drop_of_length_le h,List.drop_of_length_le (by omega)]
  rw [hdr]
  have hrw := S_RunWorld w (rows.drop m.toNat) iw ⟨by rw [List.length_drop]; omega,fun x hx => gr.2 x (List.mem_of_mem_drop hx)⟩
  have hrw : Con Try.prog 54 [] [ag w,.c (.rd [] (.sl (Enc.k (List Int)) ((els rows).drop m.toNat)))] (ownO (Enc.e (runM w (rows.drop m.toNat)))) (.o (.ag (ownV 0 (Enc.e (runM w (rows.drop m.toNat)))))) := by rw [← els_dropE2]; exact hrw
  have hq : (0 : Int) ≤ m ∧ m ≤ ((els rows).length : Nat) := by omega
  generalize runM w (rows.drop m.toNat) = z at hrw
  refine Qd (Qd (Qc ?_));refine M0 (Qa J J J) J J ?_;refine M0 (Qa J J J) J J ?_;refine M0 (q_len J J J) J J ?_
  refine M0 (Qr J J J J (by assumption)) J J ?_;refine Qe (Q0 ?_);refine Ql rfl ?_;refine Q9 (T_x (T_x (B_xs (Q0 ?_))))
  refine Qd (Qd (Qc ?_));refine M0 (Qa J J J) J J ?_;refine M0 (Qf J J J J (by decide)) J J ?_
  refine M0 (Qf J J J J (by decide)) J J ?_;refine M0 (Qg J J J J J) J J ?_;refine M0 (q_gtrK J J J J (by assumption)) J J ?_
  refine Qe (Q0 ?_);refine Ql rfl ?_;refine Qh (Q0 (Qd (Qc ?_)));refine M0 (Qf J J J J (by decide)) J J ?_
  refine M0 (Qf J J J J (by decide)) J J ?_;refine M0 (Qg J J J J J) J J ?_;refine M0 (Qa J J J) J J ?_
  refine M0 (Xc J J J J (by omega)) J J ?_;refine M0 (Qa J J J) J J ?_;refine M0 (q_len J J J) J J ?_
  refine M0 (q_min J J J J) J J ?_;refine M0 (Qb J J J) J J ?_;refine Qe (Q0 (Qd ?_))
  refine AWP.pre (st' := (⟨_,[(1,I first),(2,L rows),(3,.o (.c (.ptr 0 0))),(6,.o (.c (.ptr 1 0))),(7,B false),(8,.o (.c (.ptr 2 0))),(10,I m)],[.box [.rd [] (.sl 1 (els w.Level.Rows)),jn w.Tick,jn w.Seed,.rd [] (.sl 1 (els w.Scores)),.rd [] (.sl 9 (els w.Bodies)),jn g],.box [nilV,jn 0,jn 0,nilV,nilV,jn 0],.box [.ref 3,jn w.Tick,jn w.Seed,.ref 4,.ref 5,jn g],.row 1 (els w.Level.Rows),.row 1 (els w.Scores),.row 9 (els w.Bodies)]⟩ : St)) ?_ (W_go [0,1,2,3,4,5] (by decide) rfl (rfl) (.cons rfl (.cons rfl (.cons rfl (.cons rfl (.cons rfl (.cons rfl (.cons (I_eq (by rw [hm])) (.nil)))))))))
  refine A_draw [[],[0],[],[],[2,3],[0,1,2,3,4],[0,1,2,3,4,5],[0,1,2,3,4,5,6]] [[],[65],[],[],[67,68],[65,66,67,68,69],[65,66,67,68,69,70],[65,66,67,68,69,70,71]] [[67,68,69],[67,68,69],[65,66,68],[65,66,67],[65,66],[],[],[]] rfl ?_
  refine DR.step (Qf J J J J (by decide)) J J ?_;refine DR.step (Qu J J J J J J) J J ?_;refine DR.step (Qa J J J) J J ?_
  refine DR.step (Qa J J J) J J ?_;refine DR.step (q_part1 J J J J J hq) J J ?_;refine DR.step (q_call J J (hrw) J J J) J J ?_
  refine DR.step (Qf J J J J (by decide)) J J ?_;refine DR.stop (by kernel_rfl) (by kernel_rfl) ?_
  refine Qy J J J J J J J J J ?_;refine Qe (Q0 (Qd (Qc ?_)));refine M0 (Qu J J J J J J) J J ?_
  refine Qy J J J J J J J J J ?_;refine M0 (Qb J J J) J J ?_;refine Qe (Q0 (Xa (F_r ?_)))
  exact E_cellt J J J J J (W_end [6,7,8] (by decide) J J J)
end Go.Proofs.Ytmljakmaffbnlaa
end

section
set_option linter.unusedSimpArgs false
set_option linter.unusedVariables false
set_option maxRecDepth 8000
namespace Go.Proofs.Ytmljakmaffbnlaa
open Go.RowKit

def cntW (x : TWorld) (k : Int) : Int := k + x.Level.Rows.length + x.Scores.length + 9 * x.Bodies.length
def markW (x : TWorld) (k : Int) : TWorld := ⟨⟨markS x.Level.Rows k⟩,x.Tick,x.Seed,markI x.Scores (k + x.Level.Rows.length),markB x.Bodies (k + x.Level.Rows.length + x.Scores.length)⟩
set_option maxHeartbeats 8000000 in
theorem L_markWorld (x : TWorld) (k : Int) (h1 : x.Level.Rows.length ≤ 1048576) (h2 : x.Scores.length ≤ 1048576) (h3 : x.Bodies.length ≤ 1048576) (h0 : 0 < k) (hk : k ≤ 1073741823) : Con Try.prog 13 [.row 1 (els x.Level.Rows),.row 1 (els x.Scores),.row 9 (els x.Bodies),.gh 0 (.ag (ownV 0 (Enc.e x)))] [.ag (ownV 0 (Enc.e x)),ai k]
    [.row 1 (els (markW x k).Level.Rows),.row 1 (els (markW x k).Scores),.row 9 (els (markW x k).Bodies),.gh 0 (.ag (ownV 0 (Enc.e x)))] (I (cntW x k)) := by
  refine Con.of Try.func13 rfl Try.ntmps13 rfl (fun E => ?_)
  refine Qd (Qc ?_);refine M1 (Qq J J J J) J J ?_;refine M0 (Qb J J J) J J ?_;refine Qe (Q0 (Qd ?_))
  refine Qc ?_;refine M0 (Qf J J J J (by decide)) J J ?_;refine M0 (Qu J J J J J J) J J ?_;refine M0 (Qa J J J) J J ?_
  refine Xd (lo := [_]) (gs := [(0,.ag [.ref 0])]) (lo' := [_]) (new := []) [0] [(0,0,.ref 0)] (L_markLevel x.Level.Rows k h1 h0 (by omega)) J J J J J J J J J J J J J J J J J ?_
  refine M0 (Qb J J J) J J ?_;refine Qe (Q0 (Qd (Qc ?_)));refine M0 (Qf J J J J (by decide)) J J ?_
  refine M0 (Qg J J J J J) J J ?_;refine M0 (Qa J J J) J J ?_
  refine Xd (lo := [_]) (gs := [(0,.c (.ref 0))]) (lo' := [_]) (new := []) [1] [(0,0,.ref 0)] (L_markIntS x.Scores (k + x.Level.Rows.length) (by omega) (by omega) (by omega)) J J J J J J J J J J J J J J J J J ?_
  refine M0 (Qb J J J) J J ?_;refine Qe (Q0 (Qd (Qc ?_)));refine M0 (Qf J J J J (by decide)) J J ?_
  refine M0 (Qg J J J J J) J J ?_;refine M0 (Qa J J J) J J ?_
  refine Xd (lo := [_]) (gs := [(0,.c (.ref 0))]) (lo' := [_]) (new := []) [2] [(0,0,.ref 0)] (L_markBodyS x.Bodies (k + x.Level.Rows.length + x.Scores.length) h3 (by omega) (by omega)) J J J J J J J J J J J J J J J J J ?_
  refine M0 (Qb J J J) J J ?_;refine Qe (Q0 (Qd (Qc ?_)));refine M0 (Qa J J J) J J ?_
  refine M0 (Qb J J J) J J ?_;refine Qe (Q0 (Xa (F_r ?_)))
  exact E_tmp J J (W_end [0,1,2,3] (by decide) J J J)
set_option maxHeartbeats 8000000 in
theorem L_heldWorld (x : TWorld) (k : Int) (h1 : x.Level.Rows.length ≤ 1048576) (h2 : x.Scores.length ≤ 1048576) (h3 : x.Bodies.length ≤ 1048576) (h0 : 0 < k) (hk : k ≤ 1073741823) : Con Try.prog 14 [] [ag (markW x k),ai k] [] (I (cntW x k)) := by
  have hn : decide (k + (x.Level.Rows.length : Int) < 0) = false := decide_eq_false (by omega)
  have hm : decide (k + (x.Level.Rows.length : Int) + x.Scores.length < 0) = false := decide_eq_false (by omega)
  have hm2 : decide (k + (x.Level.Rows.length : Int) + x.Scores.length + 9 * x.Bodies.length < 0) = false := decide_eq_false (by omega)
  refine Con.of Try.func14 rfl Try.ntmps14 rfl (fun E => ?_)
  refine Qd (Qc ?_);refine M1 (Qq J J J J) J J ?_;refine M0 (Qb J J J) J J ?_;refine Qe (Q0 (Qd ?_))
  refine Qc ?_;refine M0 (Qf J J J J (by decide)) J J ?_;refine M0 (Qu J J J J J J) J J ?_;refine M0 (Qa J J J) J J ?_
  refine M0 (Qj J J (L_heldLevel x.Level.Rows k h1 h0 (by omega)) rfl) J J ?_;refine M0 (Qb J J J) J J ?_;refine Qe (Q0 (Qd ?_))
  refine Qd (Qc ?_);refine M0 (Qa J J J) J J ?_;refine M0 (Qr J J J J (by assumption)) J J ?_;refine Qe (Q0 ?_)
  refine Ql rfl ?_;refine Qh (Q0 (Qd (Qc ?_)));refine M0 (Qf J J J J (by decide)) J J ?_
  refine M0 (Qg J J J J J) J J ?_;refine M0 (Qa J J J) J J ?_
  refine M0 (Qj J J (L_heldIntS x.Scores (k + x.Level.Rows.length) (by omega) (by omega) (by omega)) rfl) J J ?_;refine M0 (Qb J J J) J J ?_
  refine Qe (Q0 (Qd (Qd (Qc ?_))));refine M0 (Qa J J J) J J ?_;refine M0 (Qr J J J J (by assumption)) J J ?_
  refine Qe (Q0 ?_);refine Ql rfl ?_;refine Qh (Q0 (Qd (Qc ?_)));refine M0 (Qf J J J J (by decide)) J J ?_
  refine M0 (Qg J J J J J) J J ?_;refine M0 (Qa J J J) J J ?_
  refine M0 (Qj J J (L_heldBodyS x.Bodies (k + x.Level.Rows.length + x.Scores.length) h3 (by omega) (by omega)) rfl) J J ?_;refine M0 (Qb J J J) J J ?_
  refine Qe (Q0 (Qd (Qd (Qc ?_))));refine M0 (Qa J J J) J J ?_;refine M0 (Qr J J J J (by assumption)) J J ?_
  refine Qe (Q0 ?_);refine Ql rfl ?_;refine Qh (Q0 (Qd (Qc ?_)));refine M0 (Qa J J J) J J ?_
  refine M0 (Qb J J J) J J ?_;refine Qe (Q0 (Xa (F_r ?_)))
  exact E_tmp J J (W_end [] (by decide) J J J)
set_option maxHeartbeats 8000000 in
theorem L_markSpectator (x : TWorld) (g k : Int) (h1 : x.Level.Rows.length ≤ 1048576) (h2 : x.Scores.length ≤ 1048576) (h3 : x.Bodies.length ≤ 1048576) (h0 : 0 < k) (hk : k ≤ 1073741823) : Con Try.prog 25 [.row 1 (els x.Level.Rows),.row 1 (els x.Scores),.row 9 (els x.Bodies),.gh 0 (.ag (ownV 0 (Enc.e (⟨x,g⟩ : TSpectator))))] [.ag (ownV 0 (Enc.e (⟨x,g⟩ : TSpectator))),ai k]
    [.row 1 (els (markW x k).Level.Rows),.row 1 (els (markW x k).Scores),.row 9 (els (markW x k).Bodies),.gh 0 (.ag (ownV 0 (Enc.e (⟨x,g⟩ : TSpectator))))] (I (cntW x k)) := by
  refine Con.of Try.func25 rfl Try.ntmps25 rfl (fun E => ?_)
  refine Qd (Qc ?_);refine M1 (Qq J J J J) J J ?_;refine M0 (Qb J J J) J J ?_;refine Qe (Q0 (Qd ?_))
  refine Qc ?_;refine M0 (Qf J J J J (by decide)) J J ?_;refine M0 (Qu J J J J J J) J J ?_;refine M0 (Qa J J J) J J ?_
  refine Xd (lo := [_,_,_]) (gs := [(0,.ag (ownV 0 (Enc.e x)))]) (lo' := [_,_,_]) (new := []) [0,1,2] [(0,0,.ref 0),(0,3,.ref 1),(0,4,.ref 2)] (L_markWorld x k h1 h2 h3 h0 hk) J J J J J J J J J J J J J J J J J ?_
  refine M0 (Qb J J J) J J ?_;refine Qe (Q0 (Qd (Qc ?_)));refine M0 (Qa J J J) J J ?_
  refine M0 (Qb J J J) J J ?_;refine Qe (Q0 (Xa (F_r ?_)))
  exact E_tmp J J (W_end [0,1,2,3] (by decide) J J J)
set_option maxHeartbeats 8000000 in
theorem L_heldSpectator (x : TWorld) (g k : Int) (h1 : x.Level.Rows.length ≤ 1048576) (h2 : x.Scores.length ≤ 1048576) (h3 : x.Bodies.length ≤ 1048576) (h0 : 0 < k) (hk : k ≤ 1073741823) : Con Try.prog 27 [] [ag (⟨markW x k,g⟩ : TSpectator),ai k] [] (I (cntW x k)) := by
  have hm : decide (cntW x k < 0) = false := decide_eq_false (by unfold cntW; omega)
  refine Con.of Try.func27 rfl Try.ntmps27 rfl (fun E => ?_)
  refine Qd (Qc ?_);refine M1 (Qq J J J J) J J ?_;refine M0 (Qb J J J) J J ?_;refine Qe (Q0 (Qd ?_))
  refine Qc ?_;refine M0 (Qf J J J J (by decide)) J J ?_;refine M0 (Qu J J J J J J) J J ?_;refine M0 (Qa J J J) J J ?_
  refine M0 (Qj J J (L_heldWorld x k h1 h2 h3 h0 hk) rfl) J J ?_;refine M0 (Qb J J J) J J ?_;refine Qe (Q0 (Qd (Qd ?_)))
  refine Qc ?_;refine M0 (Qa J J J) J J ?_;refine M0 (Qr J J J J (by assumption)) J J ?_;refine Qe (Q0 ?_);refine Ql rfl ?_
  refine Qh (Q0 (Qd (Qc ?_)));refine M0 (Qa J J J) J J ?_;refine M0 (Qb J J J) J J ?_;refine Qe (Q0 ?_)
  refine Xa (F_r ?_)
  exact E_tmp J J (W_end [] (by decide) J J J)
end Go.Proofs.Ytmljakmaffbnlaa
end

section
set_option linter.unusedSimpArgs false
set_option linter.unusedVariables false
namespace Go.Proofs.Ytmljakmaffbnlaa
open Go.RowKit

@[reducible] def iv (n : Int) : V1 := .rd [] (.v (.int .i64 n))
set_option maxHeartbeats 8000000 in
theorem law_FeedRows (s : TSpectator) (first : Int) (rows : List (List Int)) (hs : Enc.gd s) (hf : I64 first) (hr : Enc.gd rows) : Con Try.prog 5 [] [ag s,ai first,al rows] [] (B true) := by
  have hz1 := sz_Spectator s 1048576 hs (by omega) (by omega)
  by_cases n1 : (1048576 : Int) < Enc.wt s
  · rw [szr_neg n1] at hz1
    refine Con.of Try.func5 rfl Try.ntmps5 rfl (fun E => ?_)
    refine Qd (Qc ?_);refine M1 (Qq J J J J) J J ?_;refine M0 (Qb J J J) J J ?_;refine Qe (Q0 (Qd ?_))
    refine Qc ?_;refine M0 (Qb J J J) J J ?_;refine Qe (Q0 (Qd (Qc ?_)));refine M0 (Qu J J J J J J) J J ?_
    refine M0 (Qa J J J) J J ?_;refine M0 (Qj J J (hz1) rfl) J J ?_;refine M0 (Qb J J J) J J ?_;refine Qe (Q0 (Qd ?_))
    refine Qd (Qc ?_);refine M0 (Qa J J J) J J ?_;refine M0 (Qr (b := true) J J J J (by decide)) J J ?_;refine Qe (Q0 ?_)
    refine Qm rfl ?_;refine Qd (Qc ?_);refine M0 (Qb J J J) J J ?_;refine Qe (Q0 (Xa (T_r (F_r ?_))))
    exact E_tmp J J (W_end [] (by decide) J J J)
  rw [szr_pos (by omega)] at hz1
  have hb1 : decide ((1048576 : Int) - Enc.wt s < 0) = false := decide_eq_false (by omega)
  have hz2 := sz_IntSS rows (1048576 - Enc.wt s) hr (by omega) (by omega)
  by_cases n2 : (1048576 : Int) - Enc.wt s < Enc.wt rows
  · rw [szr_neg n2] at hz2
    refine Con.of Try.func5 rfl Try.ntmps5 rfl (fun E => ?_)
    refine Qd (Qc ?_);refine M1 (Qq J J J J) J J ?_;refine M0 (Qb J J J) J J ?_;refine Qe (Q0 (Qd ?_))
    refine Qc ?_;refine M0 (Qb J J J) J J ?_;refine Qe (Q0 (Qd (Qc ?_)));refine M0 (Qu J J J J J J) J J ?_
    refine M0 (Qa J J J) J J ?_;refine M0 (Qj J J (hz1) rfl) J J ?_;refine M0 (Qb J J J) J J ?_;refine Qe (Q0 (Qd ?_))
    refine Qd (Qc ?_);refine M0 (Qa J J J) J J ?_;refine M0 (Qr J J J J (by assumption)) J J ?_;refine Qe (Q0 ?_)
    refine Ql rfl ?_;refine Qh (Q0 (Qd (Qc ?_)));refine M0 (Qa J J J) J J ?_;refine M0 (Qa J J J) J J ?_
    refine M0 (Qj J J (hz2) rfl) J J ?_;refine M0 (Qb J J J) J J ?_;refine Qe (Q0 (Qd (Qd (Qc ?_))))
    refine M0 (Qa J J J) J J ?_;refine M0 (Qr (b := true) J J J J (by decide)) J J ?_;refine Qe (Q0 ?_);refine Qm rfl ?_;refine Qd ?_
    refine Qc ?_;refine M0 (Qb J J J) J J ?_;refine Qe (Q0 (Xa (T_r (F_r ?_))))
    exact E_tmp J J (W_end [] (by decide) J J J)
  rw [szr_pos (by omega)] at hz2
  have hb2 : decide ((1048576 : Int) - Enc.wt s - Enc.wt rows < 0) = false := decide_eq_false (by omega)
  have hw0 : Enc.wt s = (s.World.Level.Rows.length + wts s.World.Level.Rows) + (s.World.Scores.length + wts s.World.Scores) + (s.World.Bodies.length + wts s.World.Bodies) := rfl
  have hwr : Enc.wt rows = rows.length + wts rows := rfl
  have htw := tot_wts rows
  have iw : WorIn s.World := ⟨hs.1,by omega,by omega,by omega⟩
  have ht1 := to_Spectator s (by omega)
  have ht2 := to_IntSS rows (by omega)
  have hsp := S_FeedRows s first rows iw hs.2 hf hr
  have hip := I_FeedRows s first rows iw hs.2 hf hr
  have iy := feed_in (first := first) (rows := rows) iw hs.2
  generalize (feedM s first rows).1 = f at hsp hip iy
  generalize (feedM s first rows).2 = b at hsp hip
  obtain ⟨⟨iy1,iy2,iy3,iy4⟩,iyg⟩ := iy
  have hq1 := eq_Spectator f f ⟨iy1,iyg⟩
  have hq2 := eq_Spectator s s hs
  have hq3 := eq_IntSS rows rows hr
  rw [decide_eq_true rfl] at hq1 hq2 hq3
  have hm_s := L_markSpectator s.World s.Gaps 1 (by omega) (by omega) (by omega) (by omega) (by omega)
  have hm_r := L_markIntSS rows (cntW s.World 1) (by omega) (by omega) (by unfold cntW; omega) (by unfold cntW; omega)
  have hm_f := L_markSpectator f.World f.Gaps 1 iy2 iy3 iy4 (by omega) (by omega)
  have hh := L_heldSpectator f.World f.Gaps 1 iy2 iy3 iy4 (by omega) (by omega)
  have hk1 : decide (cntW s.World 1 + tot rows < 0) = false := decide_eq_false (by unfold cntW; omega)
  have hk2 : decide (cntW f.World 1 < 0) = false := decide_eq_false (by unfold cntW; omega)
  refine Con.of Try.func5 rfl Try.ntmps5 rfl (fun E => ?_)
  refine Qd (Qc ?_);refine M1 (Qq J J J J) J J ?_;refine M0 (Qb J J J) J J ?_;refine Qe (Q0 (Qd ?_))
  refine Qc ?_;refine M0 (Qb J J J) J J ?_;refine Qe (Q0 (Qd (Qc ?_)));refine M0 (Qu J J J J J J) J J ?_
  refine M0 (Qa J J J) J J ?_;refine M0 (Qj J J (hz1) rfl) J J ?_;refine M0 (Qb J J J) J J ?_;refine Qe (Q0 (Qd ?_))
  refine Qd (Qc ?_);refine M0 (Qa J J J) J J ?_;refine M0 (Qr J J J J (by assumption)) J J ?_;refine Qe (Q0 ?_)
  refine Ql rfl ?_;refine Qh (Q0 (Qd (Qc ?_)));refine M0 (Qa J J J) J J ?_;refine M0 (Qa J J J) J J ?_
  refine M0 (Qj J J (hz2) rfl) J J ?_;refine M0 (Qb J J J) J J ?_;refine Qe (Q0 (Qd (Qd (Qc ?_))))
  refine M0 (Qa J J J) J J ?_;refine M0 (Qr J J J J (by assumption)) J J ?_;refine Qe (Q0 ?_);refine Ql rfl ?_;refine Qh (Q0 ?_)
  refine Qd (Qc ?_);refine M0 (Qu J J J J J J) J J ?_
  refine AL.weak (st' := (⟨_,[(1,I first),(2,L rows),(3,.o (.c (.ptr 0 0))),(30,.o (.ag ((Enc.e s).map (V1.rd []))))],[.box ((Enc.e s).map (V1.rd []))]⟩ : St)) (W_go [0] (by decide) rfl (rfl) (.cons rfl (.cons rfl (.cons rfl (.cons rfl (.nil)))))) ?_
  refine M1 (q_call J J (ht1) J J J) J J ?_;refine M0 (Qa J J J) J J ?_;refine M0 (Qa J J J) J J ?_
  refine AL.weak (st' := (⟨_,[(1,I first),(2,L rows),(3,.o (.c (.ptr 0 0))),(31,.o (.ag [.ref 1,iv s.World.Tick,iv s.World.Seed,.ref 2,.ref 3,iv s.Gaps])),(32,I first),(33,L rows)],[.box ((Enc.e s).map (V1.rd [])),.row 1 (els s.World.Level.Rows),.row 1 (els s.World.Scores),.row 9 (els s.World.Bodies)]⟩ : St)) (W_go [0,1,2,3] (by decide) rfl (rfl) (.cons rfl (.cons rfl (.cons rfl (.cons rfl (.cons rfl (.cons rfl (.nil)))))))) ?_
  refine M1 (q_call J J (ht2) J J J) J J ?_
  refine AL.weak (st' := (⟨_,[(1,I first),(2,L rows),(3,.o (.c (.ptr 0 0))),(31,.o (.ag [.ref 1,iv s.World.Tick,iv s.World.Seed,.ref 2,.ref 3,iv s.Gaps])),(32,I first),(34,.o (.c (.ref 4)))],[.box ((Enc.e s).map (V1.rd [])),.row 1 (els s.World.Level.Rows),.row 1 (els s.World.Scores),.row 9 (els s.World.Bodies),.row 1 (els rows)]⟩ : St)) (W_go [0,1,2,3,4] (by decide) rfl (rfl) (.cons rfl (.cons rfl (.cons rfl (.cons rfl (.cons rfl (.cons rfl (.nil)))))))) ?_
  refine M1 (q_call J J (hsp) J J J) J J ?_;refine M0 (Q8 J J J) J J ?_;refine M0 (q_ext J J J J) J J ?_
  refine M0 (q_ext J J J J) J J ?_;refine M1 (Qx J J J) J J ?_;refine Qy J J J J J J J J J ?_
  refine M0 (Qb J J J) J J ?_;refine Qe (Q0 (Qd (Qc ?_)));refine M0 (Qu J J J J J J) J J ?_
  refine AL.weak (st' := (⟨_,[(1,I first),(2,L rows),(3,.o (.c (.ptr 0 0))),(8,.o (.c (.ptr 4 0))),(9,B b),(38,.o (.ag ((Enc.e s).map (V1.rd []))))],[.box ((Enc.e s).map (V1.rd [])),.row 1 (els f.World.Level.Rows),.row 1 (els f.World.Scores),.row 9 (els f.World.Bodies),.box [.ref 1,iv f.World.Tick,iv f.World.Seed,.ref 2,.ref 3,iv f.Gaps]]⟩ : St)) (W_go [0,5,6,7,8] (by decide) rfl (rfl) (.cons rfl (.cons rfl (.cons rfl (.cons rfl (.cons rfl (.cons rfl (.nil)))))))) ?_
  refine M1 (q_call J J (ht1) J J J) J J ?_;refine M1 (Qx J J J) J J ?_;refine Qy J J J J J J J J J ?_;refine Qe (Q0 ?_)
  refine Qd (Qc ?_);refine M0 (Qa J J J) J J ?_
  refine AL.weak (st' := (⟨_,[(1,I first),(2,L rows),(3,.o (.c (.ptr 0 0))),(8,.o (.c (.ptr 4 0))),(9,B b),(10,.o (.c (.ptr 8 0))),(40,L rows)],[.box ((Enc.e s).map (V1.rd [])),.row 1 (els f.World.Level.Rows),.row 1 (els f.World.Scores),.row 9 (els f.World.Bodies),.box [.ref 1,iv f.World.Tick,iv f.World.Seed,.ref 2,.ref 3,iv f.Gaps],.row 1 (els s.World.Level.Rows),.row 1 (els s.World.Scores),.row 9 (els s.World.Bodies),.box [.ref 5,iv s.World.Tick,iv s.World.Seed,.ref 6,.ref 7,iv s.Gaps]]⟩ : St)) (W_go [0,1,2,3,4,5,6,7,8] (by decide) rfl (rfl) (.cons rfl (.cons rfl (.cons rfl (.cons rfl (.cons rfl (.cons rfl (.cons rfl (.nil))))))))) ?_
  refine M1 (q_call J J (ht2) J J J) J J ?_;refine M0 (Qb J J J) J J ?_;refine Qe (Q0 (Qd (Qc ?_)))
  refine M0 (Qu J J J J J J) J J ?_;refine M0 (Qa J J J) J J ?_;refine M0 (Qa J J J) J J ?_
  refine AL.weak (st' := (⟨_,[(1,I first),(2,L rows),(3,.o (.c (.ptr 0 0))),(8,.o (.c (.ptr 4 0))),(9,B b),(10,.o (.c (.ptr 8 0))),(11,.o (.c (.ref 9))),(43,.o (.ag [.ref 5,iv s.World.Tick,iv s.World.Seed,.ref 6,.ref 7,iv s.Gaps])),(44,I first),(45,.o (.c (.ref 9)))],[.box ((Enc.e s).map (V1.rd [])),.row 1 (els f.World.Level.Rows),.row 1 (els f.World.Scores),.row 9 (els f.World.Bodies),.box [.ref 1,iv f.World.Tick,iv f.World.Seed,.ref 2,.ref 3,iv f.Gaps],.row 1 (els s.World.Level.Rows),.row 1 (els s.World.Scores),.row 9 (els s.World.Bodies),.box [.ref 5,iv s.World.Tick,iv s.World.Seed,.ref 6,.ref 7,iv s.Gaps],.row 1 (els rows)]⟩ : St)) (W_go [0,1,2,3,4,5,6,7,8,9] (by decide) rfl (rfl) (.cons rfl (.cons rfl (.cons rfl (.cons rfl (.cons rfl (.cons rfl (.cons rfl (.cons rfl (.cons rfl (.cons rfl (.nil)))))))))))) ?_
  refine M1 (q_call J J (hip) J J J) J J ?_;refine M0 (Q8 J J J) J J ?_;refine M0 (q_ext J J J J) J J ?_
  refine M0 (q_ext J J J J) J J ?_;refine M1 (Qx J J J) J J ?_;refine Qy J J J J J J J J J ?_
  refine M0 (Qb J J J) J J ?_;refine Qe (Q0 (Qd (Qd (Qc ?_))));refine M0 (Qu J J J J J J) J J ?_
  refine M0 (Qu J J J J J J) J J ?_
  refine AL.weak (st' := (⟨_,[(1,I first),(2,L rows),(3,.o (.c (.ptr 0 0))),(8,.o (.c (.ptr 4 0))),(9,B b),(10,.o (.c (.ptr 8 0))),(11,.o (.c (.ref 9))),(12,.o (.c (.ptr 13 0))),(13,B b),(49,.o (.ag [.ref 10,iv f.World.Tick,iv f.World.Seed,.ref 11,.ref 12,iv f.Gaps])),(50,.o (.ag [.ref 1,iv f.World.Tick,iv f.World.Seed,.ref 2,.ref 3,iv f.Gaps]))],[.box ((Enc.e s).map (V1.rd [])),.row 1 (els f.World.Level.Rows),.row 1 (els f.World.Scores),.row 9 (els f.World.Bodies),.box [.ref 1,iv f.World.Tick,iv f.World.Seed,.ref 2,.ref 3,iv f.Gaps],.row 1 (els s.World.Level.Rows),.row 1 (els s.World.Scores),.row 9 (els s.World.Bodies),.box [.ref 5,iv s.World.Tick,iv s.World.Seed,.ref 6,.ref 7,iv s.Gaps],.row 1 (els rows),.row 1 (els f.World.Level.Rows),.row 1 (els f.World.Scores),.row 9 (els f.World.Bodies),.box [.ref 10,iv f.World.Tick,iv f.World.Seed,.ref 11,.ref 12,iv f.Gaps]]⟩ : St)) (W_go [0,1,2,3,4,5,6,7,8,9,10,11,12,13] (by decide) rfl (rfl) (.cons rfl (.cons rfl (.cons rfl (.cons rfl (.cons rfl (.cons rfl (.cons rfl (.cons rfl (.cons rfl (.cons rfl (.cons rfl (.nil))))))))))))) ?_
  refine M0 (Qj J J (hq1) rfl) J J ?_;refine M0 (Q4 J J J) J J ?_;refine M0 (Qa J J J) J J ?_;refine Qi J J J ?_
  refine M0 (Qa J J J) J J ?_;refine Qi J J J ?_;refine M0 (Qa J J J) J J ?_;refine Qi J J J ?_
  refine M0 (q_bneqR J J J J) J J ?_;refine M0 (Qn J J J J) J J ?_;refine Qe (Q0 ?_);refine Ql rfl ?_;refine Qh (Q0 ?_)
  refine Qd (Qd ?_)
  refine AWP.pre (st' := (⟨_,[(1,I first),(2,L rows),(3,.o (.c (.ptr 0 0))),(8,.o (.c (.ptr 4 0))),(9,B b),(10,.o (.c (.ptr 8 0))),(11,.o (.c (.ref 9))),(12,.o (.c (.ptr 13 0))),(13,B b)],[.box ((Enc.e s).map (V1.rd [])),.row 1 (els f.World.Level.Rows),.row 1 (els f.World.Scores),.row 9 (els f.World.Bodies),.box [.ref 1,iv f.World.Tick,iv f.World.Seed,.ref 2,.ref 3,iv f.Gaps],.row 1 (els s.World.Level.Rows),.row 1 (els s.World.Scores),.row 9 (els s.World.Bodies),.box [.ref 5,iv s.World.Tick,iv s.World.Seed,.ref 6,.ref 7,iv s.Gaps],.row 1 (els rows),.row 1 (els f.World.Level.Rows),.row 1 (els f.World.Scores),.row 9 (els f.World.Bodies),.box [.ref 10,iv f.World.Tick,iv f.World.Seed,.ref 11,.ref 12,iv f.Gaps]]⟩ : St)) ?_ (W_go [0,1,2,3,4,5,6,7,8,9,10,11,12,13] (by decide) rfl (rfl) (.cons rfl (.cons rfl (.cons rfl (.cons rfl (.cons rfl (.cons rfl (.cons rfl (.cons rfl (.cons rfl (.nil)))))))))))
  refine A_draw [[],[],[1],[0,1,2],[0,1,2,3]] [[],[],[59],[58,59,60],[58,59,60,61]] [[59,60],[58],[58],[],[]] rfl ?_
  refine DR.step (Qu J J J J J J) J J ?_;refine DR.step (Qu J J J J J J) J J ?_;refine DR.step (q_call J J (ht1) J J J) J J ?_
  refine DR.step (Qj J J (hq2) rfl) J J ?_;refine DR.step (Q4 J J J) J J ?_;refine DR.stop (by kernel_rfl) (by kernel_rfl) ?_
  refine Qe (Q0 ?_)
  refine AWP.pre (st' := (⟨_,[(1,I first),(2,L rows),(3,.o (.c (.ptr 0 0))),(8,.o (.c (.ptr 4 0))),(9,B b),(10,.o (.c (.ptr 8 0))),(11,.o (.c (.ref 9))),(12,.o (.c (.ptr 13 0))),(13,B b),(62,B false)],[.box ((Enc.e s).map (V1.rd [])),.row 1 (els f.World.Level.Rows),.row 1 (els f.World.Scores),.row 9 (els f.World.Bodies),.box [.ref 1,iv f.World.Tick,iv f.World.Seed,.ref 2,.ref 3,iv f.Gaps],.row 1 (els s.World.Level.Rows),.row 1 (els s.World.Scores),.row 9 (els s.World.Bodies),.box [.ref 5,iv s.World.Tick,iv s.World.Seed,.ref 6,.ref 7,iv s.Gaps],.row 1 (els rows),.row 1 (els f.World.Level.Rows),.row 1 (els f.World.Scores),.row 9 (els f.World.Bodies),.box [.ref 10,iv f.World.Tick,iv f.World.Seed,.ref 11,.ref 12,iv f.Gaps]]⟩ : St)) ?_ (W_go [0,1,2,3,4,5,6,7,8,9,10,11,12,13] (by decide) rfl (rfl) (.cons rfl (.cons rfl (.cons rfl (.cons rfl (.cons rfl (.cons rfl (.cons rfl (.cons rfl (.cons rfl (.cons rfl (.nil))))))))))))
  refine Ql rfl ?_;refine Qh (Q0 (Qd (Qd (Qc ?_))));refine M0 (Qa J J J) J J ?_;refine M0 (Qa J J J) J J ?_
  refine M1 (q_call J J (ht2) J J J) J J ?_
  refine AL.weak (st' := (⟨_,[(1,I first),(2,L rows),(3,.o (.c (.ptr 0 0))),(8,.o (.c (.ptr 4 0))),(9,B b),(10,.o (.c (.ptr 8 0))),(11,.o (.c (.ref 9))),(12,.o (.c (.ptr 13 0))),(13,B b),(63,.o (.c (.ref 9))),(65,.o (.c (.ref 14)))],[.box ((Enc.e s).map (V1.rd [])),.row 1 (els f.World.Level.Rows),.row 1 (els f.World.Scores),.row 9 (els f.World.Bodies),.box [.ref 1,iv f.World.Tick,iv f.World.Seed,.ref 2,.ref 3,iv f.Gaps],.row 1 (els s.World.Level.Rows),.row 1 (els s.World.Scores),.row 9 (els s.World.Bodies),.box [.ref 5,iv s.World.Tick,iv s.World.Seed,.ref 6,.ref 7,iv s.Gaps],.row 1 (els rows),.row 1 (els f.World.Level.Rows),.row 1 (els f.World.Scores),.row 9 (els f.World.Bodies),.box [.ref 10,iv f.World.Tick,iv f.World.Seed,.ref 11,.ref 12,iv f.Gaps],.row 1 (els rows)]⟩ : St)) (W_go [0,1,2,3,4,5,6,7,8,9,10,11,12,13,14] (by decide) rfl (rfl) (.cons rfl (.cons rfl (.cons rfl (.cons rfl (.cons rfl (.cons rfl (.cons rfl (.cons rfl (.cons rfl (.cons rfl (.cons rfl (.nil))))))))))))) ?_
  refine M0 (Qj J J (hq3) rfl) J J ?_;refine M0 (Q4 J J J) J J ?_;refine Qe (Q0 ?_);refine Ql rfl ?_;refine Qh (Q0 (Qd ?_))
  refine Qc ?_;refine M0 (Qb J J J) J J ?_;refine Qe (Q0 (Qd (Qc ?_)));refine M0 (Qu J J J J J J) J J ?_
  refine M0 (Qa J J J) J J ?_
  refine AL.weak (st' := (⟨_,[(1,I first),(2,L rows),(3,.o (.c (.ptr 0 0))),(8,.o (.c (.ptr 4 0))),(9,B b),(11,.o (.c (.ref 8))),(12,.o (.c (.ptr 12 0))),(13,B b),(68,.o (.ag [.ref 5,iv s.World.Tick,iv s.World.Seed,.ref 6,.ref 7,iv s.Gaps])),(69,I 1)],[.box ((Enc.e s).map (V1.rd [])),.row 1 (els f.World.Level.Rows),.row 1 (els f.World.Scores),.row 9 (els f.World.Bodies),.box [.ref 1,iv f.World.Tick,iv f.World.Seed,.ref 2,.ref 3,iv f.Gaps],.row 1 (els s.World.Level.Rows),.row 1 (els s.World.Scores),.row 9 (els s.World.Bodies),.row 1 (els rows),.row 1 (els f.World.Level.Rows),.row 1 (els f.World.Scores),.row 9 (els f.World.Bodies),.box [.ref 9,iv f.World.Tick,iv f.World.Seed,.ref 10,.ref 11,iv f.Gaps]]⟩ : St)) (W_go [0,1,2,3,4,5,6,7,9,10,11,12,13] (by decide) rfl (rfl) (.cons rfl (.cons rfl (.cons rfl (.cons rfl (.cons rfl (.cons rfl (.cons rfl (.cons rfl (.cons rfl (.cons rfl (.nil)))))))))))) ?_
  refine Xd (lo := [_,_,_]) (gs := [(0,.ag [.ref 0,iv s.World.Tick,iv s.World.Seed,.ref 1,.ref 2,iv s.Gaps])]) (lo' := [_,_,_]) (new := []) [5,6,7] [(0,0,.ref 0),(0,3,.ref 1),(0,4,.ref 2)] (hm_s) J J J J J J J J J J J J J J J J J ?_
  refine M0 (Qb J J J) J J ?_;refine Qe (Q0 (Qd (Qc ?_)));refine M0 (Qa J J J) J J ?_
  refine M0 (Qa J J J) J J ?_
  refine AL.weak (st' := (⟨_,[(1,I first),(2,L rows),(3,.o (.c (.ptr 0 0))),(8,.o (.c (.ptr 4 0))),(9,B b),(12,.o (.c (.ptr 9 0))),(13,B b),(71,.o (.c (.ref 5))),(72,I (cntW s.World 1))],[.box ((Enc.e s).map (V1.rd [])),.row 1 (els f.World.Level.Rows),.row 1 (els f.World.Scores),.row 9 (els f.World.Bodies),.box [.ref 1,iv f.World.Tick,iv f.World.Seed,.ref 2,.ref 3,iv f.Gaps],.row 1 (els rows),.row 1 (els f.World.Level.Rows),.row 1 (els f.World.Scores),.row 9 (els f.World.Bodies),.box [.ref 6,iv f.World.Tick,iv f.World.Seed,.ref 7,.ref 8,iv f.Gaps]]⟩ : St)) (W_go [0,1,2,3,4,8,9,10,11,12] (by decide) rfl (rfl) (.cons rfl (.cons rfl (.cons rfl (.cons rfl (.cons rfl (.cons rfl (.cons rfl (.cons rfl (.cons rfl (.nil))))))))))) ?_
  refine Xd (lo := [_]) (gs := [(0,.c (.ref 0))]) (lo' := [_]) (new := []) [5] [(0,0,.ref 0)] (hm_r) J J J J J J J J J J J J J J J J J ?_
  refine M0 (Qb J J J) J J ?_;refine Qe (Q0 (Qd (Qd (Qc ?_))));refine M0 (Qa J J J) J J ?_
  refine M0 (Qr J J J J (by assumption)) J J ?_;refine M0 (Qa J J J) J J ?_;refine Qi J J J ?_
  refine M0 (Qu J J J J J J) J J ?_;refine Qi J J J ?_;refine M0 (Qu J J J J J J) J J ?_;refine Qi J J J ?_
  refine AL.weak (st' := (⟨_,[(1,I first),(2,L rows),(3,.o (.c (.ptr 0 0))),(8,.o (.c (.ptr 4 0))),(9,B b),(12,.o (.c (.ptr 8 0))),(13,B b),(76,B false),(77,.o (.ag [.ref 5,iv f.World.Tick,iv f.World.Seed,.ref 6,.ref 7,iv f.Gaps])),(78,.o (.ag [.ref 1,iv f.World.Tick,iv f.World.Seed,.ref 2,.ref 3,iv f.Gaps]))],[.box ((Enc.e s).map (V1.rd [])),.row 1 (els f.World.Level.Rows),.row 1 (els f.World.Scores),.row 9 (els f.World.Bodies),.box [.ref 1,iv f.World.Tick,iv f.World.Seed,.ref 2,.ref 3,iv f.Gaps],.row 1 (els f.World.Level.Rows),.row 1 (els f.World.Scores),.row 9 (els f.World.Bodies),.box [.ref 5,iv f.World.Tick,iv f.World.Seed,.ref 6,.ref 7,iv f.Gaps]]⟩ : St)) (W_go [0,1,2,3,4,6,7,8,9] (by decide) rfl (rfl) (.cons rfl (.cons rfl (.cons rfl (.cons rfl (.cons rfl (.cons rfl (.cons rfl (.cons rfl (.cons rfl (.cons rfl (.nil)))))))))))) ?_
  refine M0 (Qj J J (hq1) rfl) J J ?_;refine Qi J J J ?_;refine M0 (Q4 J J J) J J ?_;refine M0 (Qn J J J J) J J ?_
  refine M0 (Qa J J J) J J ?_;refine Qi J J J ?_;refine M0 (Qa J J J) J J ?_;refine Qi J J J ?_;refine M0 (Qa J J J) J J ?_
  refine Qi J J J ?_;refine M0 (q_bneqR J J J J) J J ?_;refine M0 (Qn J J J J) J J ?_;refine Qe (Q0 ?_);refine Ql rfl ?_
  refine Qh (Q0 (Qd (Qc ?_)));refine M0 (Qb J J J) J J ?_;refine Qe (Q0 (Qd (Qc ?_)))
  refine M0 (Qu J J J J J J) J J ?_;refine M0 (Qa J J J) J J ?_
  refine AL.weak (st' := (⟨_,[(1,I first),(2,L rows),(3,.o (.c (.ptr 0 0))),(8,.o (.c (.ptr 4 0))),(9,B b),(12,.o (.c (.ptr 8 0))),(87,.o (.ag [.ref 5,iv f.World.Tick,iv f.World.Seed,.ref 6,.ref 7,iv f.Gaps])),(88,I 1)],[.box ((Enc.e s).map (V1.rd [])),.row 1 (els f.World.Level.Rows),.row 1 (els f.World.Scores),.row 9 (els f.World.Bodies),.box [.ref 1,iv f.World.Tick,iv f.World.Seed,.ref 2,.ref 3,iv f.Gaps],.row 1 (els f.World.Level.Rows),.row 1 (els f.World.Scores),.row 9 (els f.World.Bodies),.box [.ref 5,iv f.World.Tick,iv f.World.Seed,.ref 6,.ref 7,iv f.Gaps]]⟩ : St)) (W_go [0,1,2,3,4,5,6,7,8] (by decide) rfl (rfl) (.cons rfl (.cons rfl (.cons rfl (.cons rfl (.cons rfl (.cons rfl (.cons rfl (.cons rfl (.nil)))))))))) ?_
  refine Xd (lo := [_,_,_]) (gs := [(0,.ag [.ref 0,iv f.World.Tick,iv f.World.Seed,.ref 1,.ref 2,iv f.Gaps])]) (lo' := [_,_,_]) (new := []) [5,6,7] [(0,0,.ref 0),(0,3,.ref 1),(0,4,.ref 2)] (hm_f) J J J J J J J J J J J J J J J J J ?_
  refine M0 (Qb J J J) J J ?_;refine Qe (Q0 (Qd (Qc ?_)));refine M0 (Qb J J J) J J ?_;refine Qe (Q0 ?_)
  refine Qd (Qc ?_);refine M0 (Qu J J J J J J) J J ?_;refine M0 (Qa J J J) J J ?_
  refine AL.weak (st' := (⟨_,[(1,I first),(2,L rows),(3,.o (.c (.ptr 0 0))),(8,.o (.c (.ptr 4 0))),(9,B b),(12,.o (.c (.ptr 8 0))),(15,I (cntW f.World 1)),(90,.o (.ag [.ref 5,iv f.World.Tick,iv f.World.Seed,.ref 6,.ref 7,iv f.Gaps])),(91,I 1)],[.box ((Enc.e s).map (V1.rd [])),.row 1 (els f.World.Level.Rows),.row 1 (els f.World.Scores),.row 9 (els f.World.Bodies),.box [.ref 1,iv f.World.Tick,iv f.World.Seed,.ref 2,.ref 3,iv f.Gaps],.row 1 (els (markW f.World 1).Level.Rows),.row 1 (els (markW f.World 1).Scores),.row 9 (els (markW f.World 1).Bodies),.box [.ref 5,iv f.World.Tick,iv f.World.Seed,.ref 6,.ref 7,iv f.Gaps]]⟩ : St)) (W_go [0,1,2,3,4,5,6,7,8] (by decide) rfl (rfl) (.cons rfl (.cons rfl (.cons rfl (.cons rfl (.cons rfl (.cons rfl (.cons rfl (.cons rfl (.cons rfl (.nil))))))))))) ?_
  refine M0 (Qj J J (hh) rfl) J J ?_;refine M0 (Qb J J J) J J ?_;refine Qe (Q0 (Qd (Qd (Qc ?_))))
  refine M0 (Qa J J J) J J ?_;refine M0 (Qr J J J J (by assumption)) J J ?_;refine Qe (Q0 ?_);refine Ql rfl ?_;refine Qh (Q0 ?_)
  refine Qd (Qd (Qc ?_));refine M0 (Qa J J J) J J ?_;refine M0 (Qa J J J) J J ?_;refine M0 (q_neqR J J J J) J J ?_
  refine Qe (Q0 ?_);refine Ql rfl ?_;refine Qh (Q0 (Qd (Qc ?_)));refine M0 (Qu J J J J J J) J J ?_
  refine AL.weak (st' := (⟨_,[(1,I first),(2,L rows),(8,.o (.c (.ptr 3 0))),(9,B b),(12,.o (.c (.ptr 7 0))),(15,I (cntW f.World 1)),(99,.o (.ag ((Enc.e s).map (V1.rd []))))],[.row 1 (els f.World.Level.Rows),.row 1 (els f.World.Scores),.row 9 (els f.World.Bodies),.box [.ref 0,iv f.World.Tick,iv f.World.Seed,.ref 1,.ref 2,iv f.Gaps],.row 1 (els (markW f.World 1).Level.Rows),.row 1 (els (markW f.World 1).Scores),.row 9 (els (markW f.World 1).Bodies),.box [.ref 4,iv f.World.Tick,iv f.World.Seed,.ref 5,.ref 6,iv f.Gaps]]⟩ : St)) (W_go [1,2,3,4,5,6,7,8] (by decide) rfl (rfl) (.cons rfl (.cons rfl (.cons rfl (.cons rfl (.cons rfl (.cons rfl (.cons rfl (.nil))))))))) ?_
  refine M1 (q_call J J (ht1) J J J) J J ?_;refine M0 (Qa J J J) J J ?_;refine M0 (Qa J J J) J J ?_
  refine AL.weak (st' := (⟨_,[(8,.o (.c (.ptr 3 0))),(9,B b),(12,.o (.c (.ptr 7 0))),(15,I (cntW f.World 1)),(100,.o (.ag [.ref 8,iv s.World.Tick,iv s.World.Seed,.ref 9,.ref 10,iv s.Gaps])),(101,I first),(102,L rows)],[.row 1 (els f.World.Level.Rows),.row 1 (els f.World.Scores),.row 9 (els f.World.Bodies),.box [.ref 0,iv f.World.Tick,iv f.World.Seed,.ref 1,.ref 2,iv f.Gaps],.row 1 (els (markW f.World 1).Level.Rows),.row 1 (els (markW f.World 1).Scores),.row 9 (els (markW f.World 1).Bodies),.box [.ref 4,iv f.World.Tick,iv f.World.Seed,.ref 5,.ref 6,iv f.Gaps],.row 1 (els s.World.Level.Rows),.row 1 (els s.World.Scores),.row 9 (els s.World.Bodies)]⟩ : St)) (W_go [0,1,2,3,4,5,6,7,8,9,10] (by decide) rfl (rfl) (.cons rfl (.cons rfl (.cons rfl (.cons rfl (.cons rfl (.cons rfl (.cons rfl (.nil))))))))) ?_
  refine M1 (q_call J J (ht2) J J J) J J ?_
  refine AL.weak (st' := (⟨_,[(8,.o (.c (.ptr 3 0))),(9,B b),(12,.o (.c (.ptr 7 0))),(15,I (cntW f.World 1)),(100,.o (.ag [.ref 8,iv s.World.Tick,iv s.World.Seed,.ref 9,.ref 10,iv s.Gaps])),(101,I first),(103,.o (.c (.ref 11)))],[.row 1 (els f.World.Level.Rows),.row 1 (els f.World.Scores),.row 9 (els f.World.Bodies),.box [.ref 0,iv f.World.Tick,iv f.World.Seed,.ref 1,.ref 2,iv f.Gaps],.row 1 (els (markW f.World 1).Level.Rows),.row 1 (els (markW f.World 1).Scores),.row 9 (els (markW f.World 1).Bodies),.box [.ref 4,iv f.World.Tick,iv f.World.Seed,.ref 5,.ref 6,iv f.Gaps],.row 1 (els s.World.Level.Rows),.row 1 (els s.World.Scores),.row 9 (els s.World.Bodies),.row 1 (els rows)]⟩ : St)) (W_go [0,1,2,3,4,5,6,7,8,9,10,11] (by decide) rfl (rfl) (.cons rfl (.cons rfl (.cons rfl (.cons rfl (.cons rfl (.cons rfl (.cons rfl (.nil))))))))) ?_
  refine M1 (q_call J J (hip) J J J) J J ?_;refine M0 (Q8 J J J) J J ?_;refine M0 (q_ext J J J J) J J ?_
  refine M0 (q_ext J J J J) J J ?_;refine M1 (Qx J J J) J J ?_;refine Qy J J J J J J J J J ?_
  refine M0 (Qb J J J) J J ?_;refine Qe (Q0 (Qd (Qd (Qc ?_))));refine M0 (Qu J J J J J J) J J ?_
  refine M0 (Qu J J J J J J) J J ?_
  refine AL.weak (st' := (⟨_,[(9,B b),(12,.o (.c (.ptr 6 0))),(15,I (cntW f.World 1)),(18,B b),(107,.o (.ag [.ref 7,iv f.World.Tick,iv f.World.Seed,.ref 8,.ref 9,iv f.Gaps])),(108,.o (.ag [.ref 0,iv f.World.Tick,iv f.World.Seed,.ref 1,.ref 2,iv f.Gaps]))],[.row 1 (els f.World.Level.Rows),.row 1 (els f.World.Scores),.row 9 (els f.World.Bodies),.row 1 (els (markW f.World 1).Level.Rows),.row 1 (els (markW f.World 1).Scores),.row 9 (els (markW f.World 1).Bodies),.box [.ref 3,iv f.World.Tick,iv f.World.Seed,.ref 4,.ref 5,iv f.Gaps],.row 1 (els f.World.Level.Rows),.row 1 (els f.World.Scores),.row 9 (els f.World.Bodies)]⟩ : St)) (W_go [0,1,2,4,5,6,7,12,13,14] (by decide) rfl (rfl) (.cons rfl (.cons rfl (.cons rfl (.cons rfl (.cons rfl (.cons rfl (.nil)))))))) ?_
  refine M0 (Qj J J (hq1) rfl) J J ?_;refine M0 (Q4 J J J) J J ?_;refine M0 (Qa J J J) J J ?_;refine Qi J J J ?_
  refine M0 (Qa J J J) J J ?_;refine Qi J J J ?_;refine M0 (Qa J J J) J J ?_;refine Qi J J J ?_
  refine M0 (q_bneqR J J J J) J J ?_;refine M0 (Qn J J J J) J J ?_;refine Qe (Q0 ?_);refine Ql rfl ?_;refine Qh (Q0 ?_)
  refine Qd (Qc ?_);refine M0 (Qb J J J) J J ?_;refine Qe (Q0 (Qd (Qc ?_)))
  refine M0 (Qu J J J J J J) J J ?_;refine M0 (Qa J J J) J J ?_
  refine AL.weak (st' := (⟨_,[(15,I (cntW f.World 1)),(116,.o (.ag [.ref 0,iv f.World.Tick,iv f.World.Seed,.ref 1,.ref 2,iv f.Gaps])),(117,I 1)],[.row 1 (els (markW f.World 1).Level.Rows),.row 1 (els (markW f.World 1).Scores),.row 9 (els (markW f.World 1).Bodies)]⟩ : St)) (W_go [3,4,5] (by decide) rfl (rfl) (.cons rfl (.cons rfl (.cons rfl (.nil))))) ?_
  refine M0 (Qj J J (hh) rfl) J J ?_;refine M0 (Qb J J J) J J ?_;refine Qe (Q0 (Qd (Qd (Qc ?_))))
  refine M0 (Qa J J J) J J ?_;refine M0 (Qr J J J J (by assumption)) J J ?_;refine Qe (Q0 ?_);refine Ql rfl ?_;refine Qh (Q0 ?_)
  refine Qd (Qd (Qc ?_));refine M0 (Qa J J J) J J ?_;refine M0 (Qa J J J) J J ?_;refine M0 (q_neqR J J J J) J J ?_
  refine Qe (Q0 ?_);refine Ql rfl ?_;refine Qh (Q0 (Qd (Qc ?_)));refine M0 (Qb J J J) J J ?_;refine Qe ?_
  refine Q0 (Xa (F_r ?_))
  exact E_tmp J J (W_end [] (by decide) J J J)
end Go.Proofs.Ytmljakmaffbnlaa
end

section
set_option linter.unusedVariables false
namespace Go.Proofs.Ytmljakmaffbnlaa
open Go.ChangeShapes Go.WideShapes Go.ChangeAt Go.RowKit

def RL (w : World) (ts : List T) (cs : List Value) : Prop := ∀ (j : Nat) (t : T) (u : Value),ts[j]? = some t → cs[j]? = some u → RO w (fun _ => True) t u
theorem RL.nil {w : World} {cs : List Value} : RL w [] cs := fun _ _ _ h => by simp at h
theorem RL.app {w : World} {ts us : List T} {cs : List Value} {o n : Nat} (h1 : RL w ts ((cs.drop o).take n)) (hn : ts.length = n) (h2 : RL w us (cs.drop (o + n))) : RL w (ts ++ us) (cs.drop o) := fun j t u h3 h4 => by
  rcases Nat.lt_or_ge j ts.length with hj | hj
  · rw [List.getElem?_append_left hj] at h3
    exact h1 j t u h3 (by rw [List.getElem?_take,if_pos (by omega)]; exact h4)
  · rw [List.getElem?_append_right hj] at h3
    refine h2 (j - ts.length) t u h3 ?_
    rw [List.getElem?_drop] at h4 ⊢
    rw [← h4]
    congr 1
    omega
theorem reads_fld {P : Program} {t tt : TypeId} {fs : Array Field} {f : Field} {α : Type} [Enc α] {H : Type} {enc : TypeId × Value → H} {w : World} {spare : Nat → Bool} {held : Bool} {fuel : Nat} {cs : List Value} {x : DataW H × List MemPlace}
    (ht : P.underlying t = some (.struct fs)) (h : DataW.trod enc P w 0 spare held fuel t cs = some x) (i : Nat) (hf : fs[i]? = some f) (hty : f.type = tt) [hα : RdOf P tt α] {o : Nat} (ho : f.offset = o) :
    ∃ y : α,Enc.gd y ∧ RL w (Enc.e y) ((cs.drop o).take (Enc.k α)) := by
  obtain ⟨xs,n,_,_,hl,hlen,hfs⟩ := DataW.trod_struct ht h
  have h1 := hfs i f hf
  have hi : i < fs.size := by
    rcases Nat.lt_or_ge i fs.size with h2 | h2
    · exact h2
    · rw [Array.getElem?_eq_none h2] at hf; cases hf
  rw [List.getElem?_eq_getElem (by omega),hty,ho,hα.size] at h1
  obtain ⟨y,hg,hr⟩ := hα.of h1
  exact ⟨y,hg,hr.2⟩
theorem reads_len {P : Program} {t : TypeId} {fs : Array Field} {H : Type} {enc : TypeId × Value → H} {w : World} {spare : Nat → Bool} {held : Bool} {fuel : Nat} {cs : List Value} {x : DataW H × List MemPlace}
    (ht : P.underlying t = some (.struct fs)) (h : DataW.trod enc P w 0 spare held fuel t cs = some x) : cs.length = P.cellsOf t := by
  obtain ⟨xs,n,_,_,hl,_⟩ := DataW.trod_struct ht h
  exact hl

instance : RdOf Try.prog 3 Int := rdOf_int Try.underlying3 (by kernel_rfl)
instance : RdOf Try.prog 9 ByteArray := rdOf_string Try.underlying9 (by kernel_rfl)
instance : RdOf Try.prog 30 (List Int) := rdOf_slice Try.underlying30 (by kernel_rfl)
instance : RdOf Try.prog 22 (List ByteArray) := rdOf_slice Try.underlying22 (by kernel_rfl)
instance : RdOf Try.prog 25 (List (List Int)) := rdOf_slice Try.underlying25 (by kernel_rfl)
instance : RdOf Try.prog 24 TLevel where
  size := by kernel_rfl
  of {H enc w spare held fuel cs x} h := by
    obtain ⟨y0,g0,r0⟩ := reads_fld (α := (List ByteArray)) (tt := 22) Try.underlying24 h 0 rfl rfl rfl
    refine ⟨⟨y0⟩,g0,?_,?_⟩
    · rw [reads_len Try.underlying24 h]; kernel_rfl
    · exact (RL.app (o := 0) (n := 1) r0 rfl (RL.nil) : RL w _ (cs.drop 0))
instance : RdOf Try.prog 27 TReplay where
  size := by kernel_rfl
  of {H enc w spare held fuel cs x} h := by
    obtain ⟨y0,g0,r0⟩ := reads_fld (α := TLevel) (tt := 24) Try.underlying27 h 0 rfl rfl rfl
    obtain ⟨y1,g1,r1⟩ := reads_fld (α := Int) (tt := 3) Try.underlying27 h 1 rfl rfl rfl
    obtain ⟨y2,g2,r2⟩ := reads_fld (α := Int) (tt := 3) Try.underlying27 h 2 rfl rfl rfl
    obtain ⟨y3,g3,r3⟩ := reads_fld (α := Int) (tt := 3) Try.underlying27 h 3 rfl rfl rfl
    obtain ⟨y4,g4,r4⟩ := reads_fld (α := (List (List Int))) (tt := 25) Try.underlying27 h 4 rfl rfl rfl
    obtain ⟨y5,g5,r5⟩ := reads_fld (α := (List ByteArray)) (tt := 22) Try.underlying27 h 5 rfl rfl rfl
    refine ⟨⟨y0,y1,y2,y3,y4,y5⟩,⟨g0,g1,g2,g3,g4,g5⟩,?_,?_⟩
    · rw [reads_len Try.underlying27 h]; kernel_rfl
    · exact (RL.app (o := 0) (n := 1) r0 rfl (RL.app (o := 1) (n := 1) r1 rfl (RL.app (o := 2) (n := 1) r2 rfl (RL.app (o := 3) (n := 1) r3 rfl (RL.app (o := 4) (n := 1) r4 rfl (RL.app (o := 5) (n := 1) r5 rfl (RL.nil)))))) : RL w _ (cs.drop 0))
end Go.Proofs.Ytmljakmaffbnlaa
end

section
set_option linter.unusedVariables false
namespace Go.Proofs.Ytmljakmaffbnlaa
open Go.ChangeShapes Go.WideShapes Go.ChangeAt Go.RowKit

instance : RdOf Try.prog 122 TBody where
  size := by kernel_rfl
  of {H enc w spare held fuel cs x} h := by
    obtain ⟨y0,g0,r0⟩ := reads_fld (α := Int) (tt := 3) Try.underlying122 h 0 rfl rfl rfl
    obtain ⟨y1,g1,r1⟩ := reads_fld (α := Int) (tt := 3) Try.underlying122 h 1 rfl rfl rfl
    obtain ⟨y2,g2,r2⟩ := reads_fld (α := Int) (tt := 3) Try.underlying122 h 2 rfl rfl rfl
    obtain ⟨y3,g3,r3⟩ := reads_fld (α := Int) (tt := 3) Try.underlying122 h 3 rfl rfl rfl
    obtain ⟨y4,g4,r4⟩ := reads_fld (α := Int) (tt := 3) Try.underlying122 h 4 rfl rfl rfl
    obtain ⟨y5,g5,r5⟩ := reads_fld (α := Int) (tt := 3) Try.underlying122 h 5 rfl rfl rfl
    obtain ⟨y6,g6,r6⟩ := reads_fld (α := Int) (tt := 3) Try.underlying122 h 6 rfl rfl rfl
    obtain ⟨y7,g7,r7⟩ := reads_fld (α := Int) (tt := 3) Try.underlying122 h 7 rfl rfl rfl
    obtain ⟨y8,g8,r8⟩ := reads_fld (α := Int) (tt := 3) Try.underlying122 h 8 rfl rfl rfl
    refine ⟨⟨y0,y1,y2,y3,y4,y5,y6,y7,y8⟩,⟨g0,g1,g2,g3,g4,g5,g6,g7,g8⟩,?_,?_⟩
    · rw [reads_len Try.underlying122 h]; kernel_rfl
    · exact (RL.app (o := 0) (n := 1) r0 rfl (RL.app (o := 1) (n := 1) r1 rfl (RL.app (o := 2) (n := 1) r2 rfl (RL.app (o := 3) (n := 1) r3 rfl (RL.app (o := 4) (n := 1) r4 rfl (RL.app (o := 5) (n := 1) r5 rfl (RL.app (o := 6) (n := 1) r6 rfl (RL.app (o := 7) (n := 1) r7 rfl (RL.app (o := 8) (n := 1) r8 rfl (RL.nil))))))))) : RL w _ (cs.drop 0))
instance : RdOf Try.prog 44 (List TBody) := rdOf_slice Try.underlying44 (by kernel_rfl)
instance : RdOf Try.prog 46 TWorld where
  size := by kernel_rfl
  of {H enc w spare held fuel cs x} h := by
    obtain ⟨y0,g0,r0⟩ := reads_fld (α := TLevel) (tt := 24) Try.underlying46 h 0 rfl rfl rfl
    obtain ⟨y1,g1,r1⟩ := reads_fld (α := Int) (tt := 3) Try.underlying46 h 1 rfl rfl rfl
    obtain ⟨y2,g2,r2⟩ := reads_fld (α := Int) (tt := 3) Try.underlying46 h 2 rfl rfl rfl
    obtain ⟨y3,g3,r3⟩ := reads_fld (α := (List Int)) (tt := 30) Try.underlying46 h 3 rfl rfl rfl
    obtain ⟨y4,g4,r4⟩ := reads_fld (α := (List TBody)) (tt := 44) Try.underlying46 h 4 rfl rfl rfl
    refine ⟨⟨y0,y1,y2,y3,y4⟩,⟨g0,g1,g2,g3,g4⟩,?_,?_⟩
    · rw [reads_len Try.underlying46 h]; kernel_rfl
    · exact (RL.app (o := 0) (n := 1) r0 rfl (RL.app (o := 1) (n := 1) r1 rfl (RL.app (o := 2) (n := 1) r2 rfl (RL.app (o := 3) (n := 1) r3 rfl (RL.app (o := 4) (n := 1) r4 rfl (RL.nil))))) : RL w _ (cs.drop 0))
end Go.Proofs.Ytmljakmaffbnlaa
end

section
set_option linter.unusedVariables false
namespace Go.Proofs.Ytmljakmaffbnlaa
open Go.ChangeShapes Go.WideShapes Go.ChangeAt Go.RowKit

instance : RdOf Try.prog 48 TSpectator where
  size := by kernel_rfl
  of {H enc w spare held fuel cs x} h := by
    obtain ⟨y0,g0,r0⟩ := reads_fld (α := TWorld) (tt := 46) Try.underlying48 h 0 rfl rfl rfl
    obtain ⟨y1,g1,r1⟩ := reads_fld (α := Int) (tt := 3) Try.underlying48 h 1 rfl rfl rfl
    refine ⟨⟨y0,y1⟩,⟨g0,g1⟩,?_,?_⟩
    · rw [reads_len Try.underlying48 h]; kernel_rfl
    · exact (RL.app (o := 0) (n := 5) r0 rfl (RL.app (o := 5) (n := 1) r1 rfl (RL.nil)) : RL w _ (cs.drop 0))
end Go.Proofs.Ytmljakmaffbnlaa
end
