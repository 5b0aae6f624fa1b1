/-
  Parts of the proof (rules, data, and what functions of the program and of the reference return), among them: DecodeStream, in the program and in the reference; Comparing replays: what SameReplay and what it calls return, in the program and in the reference.
  Conditions: those that each theorem names.
-/
import Derived.Test.YtbfhboakafjjgaaDDSpcRowk8
import Derived.Test.YtbfhboakafjjgaaDDSpcRowk9
import Derived.Test.YtbfhboakafjjgaaDDSpcRowk10
set_option linter.unusedSimpArgs false
set_option linter.unusedVariables false
set_option maxRecDepth 8000
set_option maxHeartbeats 8000000
namespace Go.Proofs.Ytbfhboakafjjgaa
section
open Go.RowKit

theorem st_el {bs : List TBody} {i j : Nat} {p p' : TBody} {ts : List T} (h : splice (Enc.e p) j ts = Enc.e p') : els (bs.set i p') = (els (bs.set i p)).set i (splice (Enc.e p) j ts) := by
 rw [h,els,els,← List.map_set,List.set_set]
theorem st_el0 {bs : List TBody} {i j : Nat} {p p' : TBody} {ts : List T} (h : splice (Enc.e p) j ts = Enc.e p') : els (bs.set i p') = (els bs).set i (splice (Enc.e p) j ts) := by
 rw [h,els,els,← List.map_set]
def lifeM (p : TBody) : TBody := ⟨p.Kind,p.Owner,p.X,p.Y,p.VX,p.VY,p.Aim,p.Life - 1,p.Timer⟩
def stopX (p : TBody) : TBody := ⟨p.Kind,p.Owner,p.X,p.Y,0,p.VY,p.Aim,p.Life - 1,p.Timer⟩
def stopY (p : TBody) : TBody := ⟨p.Kind,p.Owner,p.X,p.Y,0,0,p.Aim,p.Life - 1,p.Timer⟩
def downM (p : TBody) : TBody := ⟨p.Kind,p.Owner,p.X,p.Y,0,0,p.Aim,p.Life - 1,20⟩
theorem hit_alive {p : TBody} (h : ¬ p.Life - 1 = 0) : hitB p = lifeM p := by simp only [hitB,lifeM,if_neg h]
theorem hit_down {p : TBody} (h : p.Life - 1 = 0) : hitB p = downM p := by simp only [hitB,downM,if_pos h]
theorem met_I {bs : List TBody} {b : TBody} {o : Int} {n k : Nat} (h : metF bs b o n = some k) : metI bs b o n = k := by rw [metI,h]
theorem met_no {bs : List TBody} {b : TBody} {o : Int} {n : Nat} (h : metF bs b o n = none) : metI bs b o n = -1 := by rw [metI,h]
theorem tl_el {bs : List TBody} {ss : List Int} {k : Nat} {b : TBody} (h : bs[ss.length + k]? = some b) : (els bs)[(els ss).length + (k : Int).toNat]? = some (Enc.e b) := by
 rw [Yl,Int.toNat_natCast,els,List.getElem?_map,h]; rfl
theorem tk_app {bs lf : List TBody} {n m : Nat} (h : m = n) : els (bs.take n ++ lf) = (els bs).take m ++ els lf := by rw [h,Yj,Yo]
theorem els_pl9 (bs : List TBody) : plainT (els bs) := fun e he t ht => by
 obtain ⟨x,_,rfl⟩ := List.mem_map.1 he
 simp only [Enc.e] at ht
 revert ht
 simp only [List.mem_cons,List.not_mem_nil,or_false]
 rintro (rfl | rfl | rfl | rfl | rfl | rfl | rfl | rfl | rfl) <;> exact ⟨_,rfl⟩
theorem els_k9 (bs : List TBody) : ∀ e ∈ els bs,e.length = 9 := fun e he => by
 obtain ⟨x,_,rfl⟩ := List.mem_map.1 he
 rfl
theorem I_stepShots (w : TWorld) (hg : Enc.gd w.Level) (hl : levelOk w.Level = true) (hn4 : 1 ≤ w.Scores.length ∧ w.Scores.length ≤ 4) (hL : LM w.Level w.Scores.length w.Bodies) (hsc : ∀ x ∈ w.Scores,0 ≤ x ∧ x ≤ 1000000) : Con Try.prog 78 [.box [.ref 1,jn w.Tick,jn w.Seed,.ref 2,.ref 3],.row 1 (els w.Level.Rows),.row 1 (els w.Scores),.row 9 (els w.Bodies),.gh 0 (.c (.ptr 0 0))] [.c (.ptr 0 0)] [.box [.ref 1,jn w.Tick,jn w.Seed,.ref 2,.ref 3],.row 1 (els w.Level.Rows),.row 1 (els (shS w.Scores.length (w.Bodies.drop w.Scores.length) (w.Bodies,w.Scores) (w.Bodies.drop w.Scores.length).length).2),.row 9 (els ((shS w.Scores.length (w.Bodies.drop w.Scores.length) (w.Bodies,w.Scores) (w.Bodies.drop w.Scores.length).length).1.take w.Scores.length ++ shL w.Scores.length (w.Bodies.drop w.Scores.length) (w.Bodies,w.Scores) (w.Bodies.drop w.Scores.length).length)),.gh 0 (.c (.ptr 0 0))] (.tu []) := by
 have hlb := Yl w.Bodies
 have hls := Yl w.Scores
 have hln := hL.len
 have hT : (w.Bodies.drop w.Scores.length).length = w.Bodies.length - w.Scores.length := List.length_drop
 refine Con.of Try.func78 J Try.ntmps78 J (fun E => ?_)
 refine zy (z1 J (zz (Qd (Qd ?_))))
 refine AWP.pre ?_ (W_nil 2 9 J)
 refine Xi u8_32 [[],[7],[7,8],[7,8,9],[],[11],[11,12],[11,12,13],[11,12,13,14],[7,8,9,10,11,12,13,14,15],[7,8,9,10,11,12,13,14,15,16],[]] [[11,12,13,14,15,18],[11,12,13,14,15,18],[11,12,13,14,15,18],[11,12,13,14,15,18],[7,8,9,10,18],[7,8,9,10,18],[7,8,9,10,18],[7,8,9,10,18],[7,8,9,10,18],[18],[18],[7,8,9,10,11,12,13,14,15,16,17],[0]] J (DR.s (Qa J J J) J J (DR.s (Qz J J J) J J (DR.s (Qf J J J J (by decide)) J J (DR.s (Qg J J J J J) J J (DR.s (Qa J J J) J J (DR.s (Qz J J J) J J (DR.s (Qf J J J J (by decide)) J J (DR.s (Qg J J J J J) J J (DR.s (Zr J J J J) J J (DR.s (q_tl J J J J J J (by omega)) J J (DR.s (q_lentl J J J J) J J ?_)))))))))));refine DR.s (Qa J J J) J J (DR.stop (by kernel_rfl) (by kernel_rfl) (zz (Qk ?_)))
 refine AWP.pre (st' := (⟨_,[(0,.o (.c (.ptr 0 0))),(2,.o (.c (.ref 5))),(16,.o (.c (.tl 3 9 (els w.Scores).length))),(17,I (((els w.Bodies).length - (els w.Scores).length : Nat) : Int)),(18,I 0)],[.box [.ref 1,jn w.Tick,jn w.Seed,.ref 2,.ref 3],.row 1 (els w.Level.Rows),.row 1 (els w.Scores),.row 9 (els w.Bodies),.gh 0 (.c (.ptr 0 0)),.row 9 []]⟩ : St)) ?_ (W_gj [0,1,2,3,4,5] J)
 refine A_lq (fun m__ st => ∃ (k : Nat) (bs : List TBody) (ss : List Int) (lf : List TBody),(w.Bodies.drop w.Scores.length).length - k = m__ ∧ (k ≤ (w.Bodies.drop w.Scores.length).length ∧ (bs,ss) = shS w.Scores.length (w.Bodies.drop w.Scores.length) (w.Bodies,w.Scores) k ∧ lf = shL w.Scores.length (w.Bodies.drop w.Scores.length) (w.Bodies,w.Scores) k) ∧ st = (⟨_,[(0,.o (.c (.ptr 0 0))),(2,.o (.c (.ref 5))),(16,.o (.c (.tl 3 9 (els w.Scores).length))),(17,I (((els w.Bodies).length - (els w.Scores).length : Nat) : Int)),(18,I k)],[.box [.ref 1,jn w.Tick,jn w.Seed,.ref 2,.ref 3],.row 1 (els w.Level.Rows),.row 1 (els ss),.row 9 (els bs),.gh 0 (.c (.ptr 0 0)),.row 9 (els lf)]⟩ : St)) _ ⟨_,⟨0,w.Bodies,w.Scores,[],J,⟨by omega,J,J⟩,J⟩,W_gj [0,1,2,3,4,5] J⟩ ?_
 rintro m_A _ ⟨k,bs,ss,lf,hk_A,hp_A,rfl⟩
 obtain ⟨hk,hs,hlf⟩ := hp_A
 have hS := (SI.start hL rfl hsc).all (w.Bodies.drop w.Scores.length) k
 rw [← hs] at hS
 obtain ⟨hSL,hSn,hSt,hSs,hSc⟩ := hS
 simp only at hSL hSn hSt hSs hSc
 have hll := Yl lf
 have hlk : lf.length ≤ k := by rw [hlf]; exact shL_le k
 have hlbs := Yl bs
 have hlss := Yl ss
 by_cases hlt : k < (w.Bodies.drop w.Scores.length).length
 ·have hb0 : decide ((k : Int) < (((els w.Bodies).length - (els w.Scores).length : Nat) : Int)) = true := decide_eq_true (by omega)
  obtain ⟨b,hb⟩ := Ka hlt
  have hbb : bs[w.Scores.length + k]? = some b := by rw [hSt _ (by omega),← List.getElem?_drop]; exact hb
  have hB := (hSL.at_ _ b hbb).1
  have hpl := (hB.placed hl).1
  refine zy (z9a J (by assumption) (zz (Qd (Qm J (Qh (Q0 (Qd (Qk (Qd ?_)))))))));refine Qc (zx (q_attl J J J J J J (by omega) (by omega)) J ?_)
  have he := tl_el hbb
  with_reducible refine Xf ?_
  refine zx (Q6 J J J J (by assumption) J J) J ?_
  with_reducible refine K_alloc ?_
  refine M1 (Qx J J J) J J ?_
  with_reducible refine Xe ?_
  refine Qy J J J J J J J J J (zz ?_)
  refine AWP.pre (st' := (⟨_,[(0,.o (.c (.ptr 0 0))),(2,.o (.c (.ref 5))),(16,.o (.c (.tl 3 9 (els w.Scores).length))),(17,I (((els w.Bodies).length - (els w.Scores).length : Nat) : Int)),(18,I k),(4,.o (.c (.ptr 6 0)))],[.box [.ref 1,jn w.Tick,jn w.Seed,.ref 2,.ref 3],.row 1 (els w.Level.Rows),.row 1 (els ss),.row 9 (els bs),.gh 0 (.c (.ptr 0 0)),.row 9 (els lf),.box ((Enc.e b).map (V1.rd []))]⟩ : St)) ?_ (W_gj [0,1,2,3,4,5,6] J)
  clear he
  by_cases hK : b.Kind = 1
  case neg =>
   have f1 : decide (b.Kind ≠ 1) = true := decide_eq_true hK
   obtain ⟨n1,n2,_⟩ := sh_skip hb hK hs hlf
   refine Qd (zy (z2 J J J (z3 J (z9f J (by assumption) (zz (Qm J (zy (z0 J ?_))))))));refine z4 J J J (M1 (Zd J J J J J J) J J ?_);refine Xx J J J J J J J J J J J J J J (by omega) (by omega) ?_;refine z1 J (zz (Q9 (T_x (Xl (Q0 (Qc (z7 J (by omega) (z0 J (zz ?_)))))))))
   refine ⟨_,(by omega),(fun (k : Nat) (bs : List TBody) (ss : List Int) (lf : List TBody) => (⟨_,[(0,.o (.c (.ptr 0 0))),(2,.o (.c (.ref 5))),(16,.o (.c (.tl 3 9 (els w.Scores).length))),(17,I (((els w.Bodies).length - (els w.Scores).length : Nat) : Int)),(18,I k)],[.box [.ref 1,jn w.Tick,jn w.Seed,.ref 2,.ref 3],.row 1 (els w.Level.Rows),.row 1 (els ss),.row 9 (els bs),.gh 0 (.c (.ptr 0 0)),.row 9 (els lf)]⟩ : St)) (k + 1) (bs) (ss) (lf ++ [b]),⟨k + 1,bs,ss,lf ++ [b],J,⟨by omega,n1,n2⟩,J⟩,X5 [0,1,2,3,4,5] (by decide) J (rw6 (by rw [Yj]; rfl)) (.c J (.c J (.c J (.c J (.c J (.nil))))))⟩
  have f1 : decide (b.Kind ≠ 1) = false := decide_eq_false (fun q => q hK)
  have cm := I_playerMet ⟨w.Level,w.Tick,w.Seed,ss,bs⟩ b b.Owner (by simp only; omega) (by simp only; omega) (fun j p _ h => ((hSL.at_ j p h).1.placed hl).1) hpl
  simp only [hSs] at cm
  refine Qd (zy (z2 J J J (z3 J (z9f J (by assumption) (zz (Ql J (Qh (Q0 (Qd ?_)))))))));refine Qc (z0 J (z4 J J J (z2 J J J (z3 J ?_))));refine Xd (lo := [_,_,_,_]) (gs := [(0,.c (.ptr 0 0)),(6,.c (.ref 3))]) (lo' := [_,_,_,_]) (new := []) [0,1,2,3] [(0,0,.ptr 0 0),(1,0,.ref 3)] (cm) J J J J J J J J J J J J J J J J J ?_;refine z1 J (zz (Qd (zy (z0 J (zx (Zv J J J J) J (zz ?_))))))
  refine AWP.pre (st' := (⟨_,[(0,.o (.c (.ptr 0 0))),(2,.o (.c (.ref 5))),(16,.o (.c (.tl 3 9 (els w.Scores).length))),(17,I (((els w.Bodies).length - (els w.Scores).length : Nat) : Int)),(18,I k),(4,.o (.c (.ptr 6 0))),(5,I (metI bs b b.Owner w.Scores.length)),(35,B (decide (metI bs b b.Owner w.Scores.length < 0)))],[.box [.ref 1,jn w.Tick,jn w.Seed,.ref 2,.ref 3],.row 1 (els w.Level.Rows),.row 1 (els ss),.row 9 (els bs),.gh 0 (.c (.ptr 0 0)),.row 9 (els lf),.box ((Enc.e b).map (V1.rd []))]⟩ : St)) ?_ (W_gj [0,1,2,3,4,5,6] J)
  cases hm : metF bs b b.Owner w.Scores.length with
  | none =>
   obtain ⟨mi,hmi⟩ : ∃ mi : Int,metI bs b b.Owner w.Scores.length = mi := ⟨_,rfl⟩
   rw [hmi]
   rw [met_no hm] at hmi
   have f2 : decide (mi < 0) = true := decide_eq_true (by omega)
   rw [f2]
   obtain ⟨n1,n2,_⟩ := sh_miss hb hm hs hlf
   refine Qm J (zy (z0 J (z4 J J J (M1 (Zd J J J J J J) J J ?_))));refine Xx J J J J J J J J J J J J J J (by omega) (by omega) ?_;refine z1 J (zz (Q9 (T_x (Xl (Q0 (Qc (z7 J (by omega) (z0 J (zz ?_)))))))))
   refine ⟨_,(by omega),(fun (k : Nat) (bs : List TBody) (ss : List Int) (lf : List TBody) => (⟨_,[(0,.o (.c (.ptr 0 0))),(2,.o (.c (.ref 5))),(16,.o (.c (.tl 3 9 (els w.Scores).length))),(17,I (((els w.Bodies).length - (els w.Scores).length : Nat) : Int)),(18,I k)],[.box [.ref 1,jn w.Tick,jn w.Seed,.ref 2,.ref 3],.row 1 (els w.Level.Rows),.row 1 (els ss),.row 9 (els bs),.gh 0 (.c (.ptr 0 0)),.row 9 (els lf)]⟩ : St)) (k + 1) (bs) (ss) (lf ++ [b]),⟨k + 1,bs,ss,lf ++ [b],J,⟨by omega,n1,n2⟩,J⟩,X5 [0,1,2,3,4,5] (by decide) J (rw6 (by rw [Yj]; rfl)) (.c J (.c J (.c J (.c J (.c J (.nil))))))⟩
  | some j =>
   rw [met_I hm]
   have f2 : decide ((j : Int) < 0) = false := decide_eq_false (by omega)
   obtain ⟨hj,hc⟩ := metF_lt hm
   obtain ⟨p,hp,hpl,_,_⟩ := metC_life hc
   have hpB := (hSL.at_ j p hp).1.f
   have hjl := Yu hp
   obtain ⟨n1,n2,_⟩ := sh_hit hb hK hm hp hs hlf
   have he := Yn hp
   refine Ql J (Qh (Q0 (zy (z0 J (zx (Qz J J J) J (z2 J J J (z3 J (z0 J (zx (Q3 J J J J J (by omega) (by omega)) J (z1 J ?_))))))))));refine zz (zy (z0 J (zx (q_nile J J J) J (zx (Zm J J J J (by decide)) J (zx (Q7 J J J J (by assumption) J) J (z8 J (by omega) (zx (q_nile J J J) J (zx (Zm J J J J (by decide)) J ?_))))))));refine Xh J J J J J J J J J (by assumption) J J (zz (zy (z0 J (zx (q_nile J J J) J (zx (Zm J J J J (by decide)) J ?_)))));refine AL.weak (st' := (⟨_,[(0,.o (.c (.ptr 0 0))),(2,.o (.c (.ref 5))),(16,.o (.c (.tl 3 9 (els w.Scores).length))),(17,I (((els w.Bodies).length - (els w.Scores).length : Nat) : Int)),(18,I k),(4,.o (.c (.ptr 6 0))),(6,.o (.c (.el 3 9 j 0))),(55,.o (.c (.el 3 9 j 7)))],[.box [.ref 1,jn w.Tick,jn w.Seed,.ref 2,.ref 3],.row 1 (els w.Level.Rows),.row 1 (els ss),.row 9 (els (bs.set j (lifeM p))),.gh 0 (.c (.ptr 0 0)),.row 9 (els lf),.box ((Enc.e b).map (V1.rd []))]⟩ : St)) (X5 [0,1,2,3,4,5,6] (by decide) J ((by exact rwBo (st_el0 J))) (.c J (.c J (.c J (.c J (.c J (.c J (.c J (.c J (.nil)))))))))) ?_
   clear he
   have he : (els (bs.set j (lifeM p)))[(j : Int).toNat]? = some (Enc.e (lifeM p)) := Yn (by rw [List.getElem?_set_self hjl])
   by_cases hz : p.Life - 1 = 0
   case neg =>
    have f3 : decide (p.Life - 1 = 0) = false := decide_eq_false hz
    rw [hit_alive hz,if_neg hz] at n1
    refine zx (Q7 J J J J (by assumption) J) J (z9e J (by assumption) (zz (Ql J (Qh (Q1 (Q0 (Qc (z7 J (by omega) (z0 J (Qe ?_))))))))));refine Q0 ?_
    refine ⟨_,(by omega),_,⟨k + 1,bs.set j (lifeM p),ss,lf,J,⟨by omega,n1,n2⟩,J⟩,W_gj [0,1,2,3,4,5] J⟩
   have f3 : decide (p.Life - 1 = 0) = true := decide_eq_true hz
   rw [hit_down hz,if_pos hz] at n1
   have ho := hB.o
   obtain ⟨q,hq⟩ : ∃ q : Nat,b.Owner = q := ⟨b.Owner.toNat,by omega⟩
   obtain ⟨s,hs1⟩ := Ka (xs := ss) (i := q) (by omega)
   have cp := I_addScore ⟨w.Level,w.Tick,w.Seed,ss,bs.set j (lifeM p)⟩ q s hs1 (hSc s (List.mem_of_getElem? hs1))
   simp only [← hq] at cp
   rw [hq,Int.toNat_natCast] at n1
   refine zx (Q7 J J J J (by assumption) J) J (z9e J (by assumption) (zz (Qm J (zy (z0 J (z2 J J J (z3 J ?_)))))));refine Xd (lo := [_,_,_,_]) (gs := [(0,.c (.ptr 0 0)),(5,.c (.ref 3))]) (lo' := [_,_,_,_]) (new := []) [0,1,2,3] [(0,0,.ptr 0 0),(1,0,.ref 3)] (cp) J J J J J J J J J J J J J J J J J ?_;refine zz (zy (z0 J (zx (q_nile J J J) J (zx (Zm J J J J (by decide)) J ?_))));refine Xh J J J J J J J J J (by assumption) J J (zz (zy (z0 J (zx (q_nile J J J) J (zx (Zm J J J J (by decide)) J ?_)))));refine AL.weak (st' := (⟨_,[(0,.o (.c (.ptr 0 0))),(2,.o (.c (.ref 5))),(16,.o (.c (.tl 3 9 (els w.Scores).length))),(17,I (((els w.Bodies).length - (els w.Scores).length : Nat) : Int)),(18,I k),(4,.o (.c (.ptr 6 0))),(6,.o (.c (.el 3 9 j 0))),(67,.o (.c (.el 3 9 j 5)))],[.box [.ref 1,jn w.Tick,jn w.Seed,.ref 2,.ref 3],.row 1 (els w.Level.Rows),.row 1 (els (addM ss q)),.row 9 (els (bs.set j (stopX p))),.gh 0 (.c (.ptr 0 0)),.row 9 (els lf),.box ((Enc.e b).map (V1.rd []))]⟩ : St)) (X5 [0,1,2,3,4,5,6] (by decide) J ((by exact rwBo (st_el J))) (.c J (.c J (.c J (.c J (.c J (.c J (.c J (.c J (.nil)))))))))) ?_
   clear he
   have he : (els (bs.set j (stopX p)))[(j : Int).toNat]? = some (Enc.e (stopX p)) := Yn (by rw [List.getElem?_set_self hjl])
   refine Xh J J J J J J J J J (by assumption) J J (zz (Qc (z0 J (zx (q_nile J J J) J (zx (Zm J J J J (by decide)) J ?_)))));refine AL.weak (st' := (⟨_,[(0,.o (.c (.ptr 0 0))),(2,.o (.c (.ref 5))),(16,.o (.c (.tl 3 9 (els w.Scores).length))),(17,I (((els w.Bodies).length - (els w.Scores).length : Nat) : Int)),(18,I k),(4,.o (.c (.ptr 6 0))),(6,.o (.c (.el 3 9 j 0))),(70,.o (.c (.el 3 9 j 8)))],[.box [.ref 1,jn w.Tick,jn w.Seed,.ref 2,.ref 3],.row 1 (els w.Level.Rows),.row 1 (els (addM ss q)),.row 9 (els (bs.set j (stopY p))),.gh 0 (.c (.ptr 0 0)),.row 9 (els lf),.box ((Enc.e b).map (V1.rd []))]⟩ : St)) (X5 [0,1,2,3,4,5,6] (by decide) J ((by exact rwBo (st_el J))) (.c J (.c J (.c J (.c J (.c J (.c J (.c J (.c J (.nil)))))))))) ?_
   clear he
   have he : (els (bs.set j (stopY p)))[(j : Int).toNat]? = some (Enc.e (stopY p)) := Yn (by rw [List.getElem?_set_self hjl])
   refine Xh J J J J J J J J J (by assumption) J J (Qe (Q1 (Q0 (Qc (z7 J (by omega) (z0 J (zz ?_)))))))
   refine ⟨_,(by omega),(fun (k : Nat) (bs : List TBody) (ss : List Int) (lf : List TBody) => (⟨_,[(0,.o (.c (.ptr 0 0))),(2,.o (.c (.ref 5))),(16,.o (.c (.tl 3 9 (els w.Scores).length))),(17,I (((els w.Bodies).length - (els w.Scores).length : Nat) : Int)),(18,I k)],[.box [.ref 1,jn w.Tick,jn w.Seed,.ref 2,.ref 3],.row 1 (els w.Level.Rows),.row 1 (els ss),.row 9 (els bs),.gh 0 (.c (.ptr 0 0)),.row 9 (els lf)]⟩ : St)) (k + 1) (bs.set j (downM p)) (addM ss q) (lf),⟨k + 1,bs.set j (downM p),addM ss q,lf,J,⟨by omega,n1,n2⟩,J⟩,X5 [0,1,2,3,4,5] (by decide) J ((by exact rwBo (st_el J))) (.c J (.c J (.c J (.c J (.c J (.nil))))))⟩
 ·have hb0 : decide ((k : Int) < (((els w.Bodies).length - (els w.Scores).length : Nat) : Int)) = false := decide_eq_false (by omega)
  have hk : k = (w.Bodies.drop w.Scores.length).length := by omega
  rw [hk] at hs hlf
  rw [← hs,← hlf]
  have hq : ((els ss).length : Int).toNat = w.Scores.length := by omega
  have hpl := els_pl9 lf
  have hkk := els_k9 lf
  refine zy (z9a J (by assumption) (zz (Qd (Ql J (Q9 (T_x (T_x (Xl (Q0 ?_)))))))));refine Xi u8_33 [[],[],[73],[73,74],[73,74,75],[],[77],[77,78],[77,78,79],[77,78,79,80],[73,74,75,76,77,78,79,80,81],[],[73,74,75,76,77,78,79,80,81,82,83],[72,73,74,75,76,77,78,79,80,81,82,83,84],[72,73,74,75,76,77,78,79,80,81,82,83,84,85],[72,73,74,75,76,77,78,79,80,81,82,83,84,85,86]] [[73,74,75,76,77,78,79,80,81,82,83,84],[72,77,78,79,80,81,83],[72,77,78,79,80,81,83],[72,77,78,79,80,81,83],[72,77,78,79,80,81,83],[72,73,74,75,76,83],[72,73,74,75,76,83],[72,73,74,75,76,83],[72,73,74,75,76,83],[72,73,74,75,76,83],[72,83],[72,73,74,75,76,77,78,79,80,81,82],[72],[],[],[],[0,1]] J (DR.s (Qa J J J) J J (DR.s (Qa J J J) J J (DR.s (Qz J J J) J J (DR.s (Qf J J J J (by decide)) J J (DR.s (Qg J J J J J) J J (DR.s (Qa J J J) J J (DR.s (Qz J J J) J J (DR.s (Qf J J J J (by decide)) J J (DR.s (Qg J J J J J) J J (DR.s (Zr J J J J) J J (DR.s (q_hd J J J J J J (by omega)) J J ?_)))))))))));refine DR.s (Qa J J J) J J (DR.stop (by kernel_rfl) (by kernel_rfl) ?_)
  refine AL.weak (Wk.head (p := 3) (els ss).length J (by omega) (by repeat' (first | exact trivial | exact rfl | refine And.intro ?_ ?_)) (by repeat' (first | exact trivial | exact rfl | refine And.intro ?_ ?_))) ?_
  have ht2 : ((els bs).take (els ss).length).length = w.Scores.length := by rw [List.length_take]; omega
  refine AL.weak (st' := (⟨_,[(72,.o (.c (.ptr 0 0))),(82,.o (.c (.ref 3))),(83,.o (.c (.ref 5)))],[.box [.ref 1,jn w.Tick,jn w.Seed,.ref 2,.un],.row 1 (els w.Level.Rows),.row 1 (els ss),.row 9 ((els bs).take (els ss).length),.gh 0 (.c (.ptr 0 0)),.row 9 (els lf)]⟩ : St)) (W_gj [0,1,2,3,4,5] J) ?_;refine M_app J J J J J J J J J J hpl hkk (by omega) (by omega) ?_;refine zx (Qz J J J) J (z2 J J J ?_);refine Q5 J J J J J J J J (Qe (F_n ?_))
  exact Xo J (X3 [0,1,2,3,4] (by decide) J (by exact rwBo (tk_app hq)) J)
theorem I_stepItems (w : TWorld) (hg : Enc.gd w.Level) (hl : levelOk w.Level = true) (hn4 : 1 ≤ w.Scores.length ∧ w.Scores.length ≤ 4) (hL : LM w.Level w.Scores.length w.Bodies) (hsc : ∀ x ∈ w.Scores,0 ≤ x ∧ x ≤ 1000000) : Con Try.prog 79 [.box [.ref 1,jn w.Tick,jn w.Seed,.ref 2,.ref 3],.row 1 (els w.Level.Rows),.row 1 (els w.Scores),.row 9 (els w.Bodies),.gh 0 (.c (.ptr 0 0))] [.c (.ptr 0 0)] [.box [.ref 1,jn w.Tick,jn w.Seed,.ref 2,.ref 3],.row 1 (els w.Level.Rows),.row 1 (els (itS w.Scores.length w.Bodies (w.Bodies.drop w.Scores.length) w.Scores (w.Bodies.drop w.Scores.length).length)),.row 9 (els (w.Bodies.take w.Scores.length ++ itL w.Scores.length w.Bodies (w.Bodies.drop w.Scores.length) (w.Bodies.drop w.Scores.length).length)),.gh 0 (.c (.ptr 0 0))] (.tu []) := by
 have hlb := Yl w.Bodies
 have hls := Yl w.Scores
 have hln := hL.len
 have hT : (w.Bodies.drop w.Scores.length).length = w.Bodies.length - w.Scores.length := List.length_drop
 refine Con.of Try.func79 J Try.ntmps79 J (fun E => ?_)
 refine zy (z1 J (zz (Qd (Qd ?_))))
 refine AWP.pre ?_ (W_nil 2 9 J)
 refine Xi u8_32 [[],[6],[6,7],[6,7,8],[],[10],[10,11],[10,11,12],[10,11,12,13],[6,7,8,9,10,11,12,13,14],[6,7,8,9,10,11,12,13,14,15],[]] [[10,11,12,13,14,17],[10,11,12,13,14,17],[10,11,12,13,14,17],[10,11,12,13,14,17],[6,7,8,9,17],[6,7,8,9,17],[6,7,8,9,17],[6,7,8,9,17],[6,7,8,9,17],[17],[17],[6,7,8,9,10,11,12,13,14,15,16],[0]] J (DR.s (Qa J J J) J J (DR.s (Qz J J J) J J (DR.s (Qf J J J J (by decide)) J J (DR.s (Qg J J J J J) J J (DR.s (Qa J J J) J J (DR.s (Qz J J J) J J (DR.s (Qf J J J J (by decide)) J J (DR.s (Qg J J J J J) J J (DR.s (Zr J J J J) J J (DR.s (q_tl J J J J J J (by omega)) J J (DR.s (q_lentl J J J J) J J ?_)))))))))));refine DR.s (Qa J J J) J J (DR.stop (by kernel_rfl) (by kernel_rfl) (zz (Qk ?_)))
 refine AWP.pre (st' := (⟨_,[(0,.o (.c (.ptr 0 0))),(2,.o (.c (.ref 5))),(15,.o (.c (.tl 3 9 (els w.Scores).length))),(16,I (((els w.Bodies).length - (els w.Scores).length : Nat) : Int)),(17,I 0)],[.box [.ref 1,jn w.Tick,jn w.Seed,.ref 2,.ref 3],.row 1 (els w.Level.Rows),.row 1 (els w.Scores),.row 9 (els w.Bodies),.gh 0 (.c (.ptr 0 0)),.row 9 []]⟩ : St)) ?_ (W_gj [0,1,2,3,4,5] J)
 refine A_lq (fun m__ st => ∃ (k : Nat) (ss : List Int) (lf : List TBody),(w.Bodies.drop w.Scores.length).length - k = m__ ∧ (k ≤ (w.Bodies.drop w.Scores.length).length ∧ ss = itS w.Scores.length w.Bodies (w.Bodies.drop w.Scores.length) w.Scores k ∧ lf = itL w.Scores.length w.Bodies (w.Bodies.drop w.Scores.length) k) ∧ st = (⟨_,[(0,.o (.c (.ptr 0 0))),(2,.o (.c (.ref 5))),(15,.o (.c (.tl 3 9 (els w.Scores).length))),(16,I (((els w.Bodies).length - (els w.Scores).length : Nat) : Int)),(17,I k)],[.box [.ref 1,jn w.Tick,jn w.Seed,.ref 2,.ref 3],.row 1 (els w.Level.Rows),.row 1 (els ss),.row 9 (els w.Bodies),.gh 0 (.c (.ptr 0 0)),.row 9 (els lf)]⟩ : St)) _ ⟨_,⟨0,w.Scores,[],J,⟨by omega,J,J⟩,J⟩,W_gj [0,1,2,3,4,5] J⟩ ?_
 rintro m_A _ ⟨k,ss,lf,hk_A,hp_A,rfl⟩
 obtain ⟨hk,hs,hlf⟩ := hp_A
 have hSs : ss.length = w.Scores.length := by rw [hs]; exact (itS_ok rfl hsc).1
 have hSc : ∀ x ∈ ss,0 ≤ x ∧ x ≤ 1000000 := by rw [hs]; exact (itS_ok rfl hsc).2
 have hll := Yl lf
 have hlk : lf.length ≤ k := by rw [hlf]; exact itL_le
 have hlss := Yl ss
 by_cases hlt : k < (w.Bodies.drop w.Scores.length).length
 ·have hb0 : decide ((k : Int) < (((els w.Bodies).length - (els w.Scores).length : Nat) : Int)) = true := decide_eq_true (by omega)
  obtain ⟨b,hb⟩ := Ka hlt
  have hbb : w.Bodies[w.Scores.length + k]? = some b := by rw [← List.getElem?_drop]; exact hb
  have hB := (hL.at_ _ b hbb).1
  have hpl := (hB.placed hl).1
  refine zy (z9a J (by assumption) (zz (Qd (Qm J (Qh (Q0 (Qd (Qk (Qd ?_)))))))));refine Qc (zx (q_attl J J J J J J (by omega) (by omega)) J ?_)
  have he := tl_el hbb
  with_reducible refine Xf ?_
  refine zx (Q6 J J J J (by assumption) J J) J ?_
  with_reducible refine K_alloc ?_
  refine M1 (Qx J J J) J J ?_
  with_reducible refine Xe ?_
  refine Qy J J J J J J J J J (zz ?_)
  refine AWP.pre (st' := (⟨_,[(0,.o (.c (.ptr 0 0))),(2,.o (.c (.ref 5))),(15,.o (.c (.tl 3 9 (els w.Scores).length))),(16,I (((els w.Bodies).length - (els w.Scores).length : Nat) : Int)),(17,I k),(4,.o (.c (.ptr 6 0)))],[.box [.ref 1,jn w.Tick,jn w.Seed,.ref 2,.ref 3],.row 1 (els w.Level.Rows),.row 1 (els ss),.row 9 (els w.Bodies),.gh 0 (.c (.ptr 0 0)),.row 9 (els lf),.box ((Enc.e b).map (V1.rd []))]⟩ : St)) ?_ (W_gj [0,1,2,3,4,5,6] J)
  clear he
  by_cases hK : b.Kind = 2
  case neg =>
   have f1 : decide (b.Kind = 2) = false := decide_eq_false hK
   obtain ⟨n1,n2,_⟩ := it_skip hb hK hs hlf
   refine Qd (zy (z2 J J J (z3 J (z9e J (by assumption) (zz (Ql J (Qh (Q0 (Qc ?_)))))))));refine z0 J (z4 J J J (M1 (Zd J J J J J J) J J ?_));refine Xx J J J J J J J J J J J J J J (by omega) (by omega) ?_;refine z1 J (Qe (Q1 (Q0 (Qc (z7 J (by omega) (z0 J (zz ?_)))))))
   refine ⟨_,(by omega),(fun (k : Nat) (ss : List Int) (lf : List TBody) => (⟨_,[(0,.o (.c (.ptr 0 0))),(2,.o (.c (.ref 5))),(15,.o (.c (.tl 3 9 (els w.Scores).length))),(16,I (((els w.Bodies).length - (els w.Scores).length : Nat) : Int)),(17,I k)],[.box [.ref 1,jn w.Tick,jn w.Seed,.ref 2,.ref 3],.row 1 (els w.Level.Rows),.row 1 (els ss),.row 9 (els w.Bodies),.gh 0 (.c (.ptr 0 0)),.row 9 (els lf)]⟩ : St)) (k + 1) (ss) (lf ++ [b]),⟨k + 1,ss,lf ++ [b],J,⟨by omega,n1,n2⟩,J⟩,X5 [0,1,2,3,4,5] (by decide) J (rw6 (by rw [Yj]; rfl)) (.c J (.c J (.c J (.c J (.c J (.nil))))))⟩
  have f1 : decide (b.Kind = 2) = true := decide_eq_true hK
  have cm := I_playerMet ⟨w.Level,w.Tick,w.Seed,ss,w.Bodies⟩ b (-1) (by simp only; omega) (by simp only; omega) (fun j p _ h => ((hL.at_ j p h).1.placed hl).1) hpl
  simp only [hSs] at cm
  refine Qd (zy (z2 J J J (z3 J (z9e J (by assumption) (zz (Qm J (zy (z0 J ?_))))))));refine z4 J J J ?_;refine Xd (lo := [_,_,_,_]) (gs := [(0,.c (.ptr 0 0)),(6,.c (.ref 3))]) (lo' := [_,_,_,_]) (new := []) [0,1,2,3] [(0,0,.ptr 0 0),(1,0,.ref 3)] (cm) J J J J J J J J J J J J J J J J J ?_;refine z1 J (zz (zy (z0 J (zx (q_geq J J J J) J (zz ?_)))))
  refine AWP.pre (st' := (⟨_,[(0,.o (.c (.ptr 0 0))),(2,.o (.c (.ref 5))),(15,.o (.c (.tl 3 9 (els w.Scores).length))),(16,I (((els w.Bodies).length - (els w.Scores).length : Nat) : Int)),(17,I k),(4,.o (.c (.ptr 6 0))),(5,I (metI w.Bodies b (-1) w.Scores.length)),(28,B (decide (metI w.Bodies b (-1) w.Scores.length ≥ 0)))],[.box [.ref 1,jn w.Tick,jn w.Seed,.ref 2,.ref 3],.row 1 (els w.Level.Rows),.row 1 (els ss),.row 9 (els w.Bodies),.gh 0 (.c (.ptr 0 0)),.row 9 (els lf),.box ((Enc.e b).map (V1.rd []))]⟩ : St)) ?_ (W_gj [0,1,2,3,4,5,6] J)
  cases hm : metF w.Bodies b (-1) w.Scores.length with
  | none =>
   obtain ⟨mi,hmi⟩ : ∃ mi : Int,metI w.Bodies b (-1) w.Scores.length = mi := ⟨_,rfl⟩
   rw [hmi]
   rw [met_no hm] at hmi
   have f2 : decide (mi ≥ 0) = false := decide_eq_false (by omega)
   rw [f2]
   obtain ⟨n1,n2,_⟩ := it_miss hb hm hs hlf
   refine Ql J (Qh (Q0 (Qc (z0 J (z4 J J J (M1 (Zd J J J J J J) J J ?_))))));refine Xx J J J J J J J J J J J J J J (by omega) (by omega) ?_;refine z1 J (Qe (Q1 (Q0 (Qc (z7 J (by omega) (z0 J (zz ?_)))))))
   refine ⟨_,(by omega),(fun (k : Nat) (ss : List Int) (lf : List TBody) => (⟨_,[(0,.o (.c (.ptr 0 0))),(2,.o (.c (.ref 5))),(15,.o (.c (.tl 3 9 (els w.Scores).length))),(16,I (((els w.Bodies).length - (els w.Scores).length : Nat) : Int)),(17,I k)],[.box [.ref 1,jn w.Tick,jn w.Seed,.ref 2,.ref 3],.row 1 (els w.Level.Rows),.row 1 (els ss),.row 9 (els w.Bodies),.gh 0 (.c (.ptr 0 0)),.row 9 (els lf)]⟩ : St)) (k + 1) (ss) (lf ++ [b]),⟨k + 1,ss,lf ++ [b],J,⟨by omega,n1,n2⟩,J⟩,X5 [0,1,2,3,4,5] (by decide) J (rw6 (by rw [Yj]; rfl)) (.c J (.c J (.c J (.c J (.c J (.nil))))))⟩
  | some j =>
   rw [met_I hm]
   have f2 : decide ((j : Int) ≥ 0) = true := decide_eq_true (by omega)
   obtain ⟨hj,hc⟩ := metF_lt hm
   obtain ⟨s,hs1⟩ := Ka (xs := ss) (i := j) (by omega)
   have cp := I_addScore ⟨w.Level,w.Tick,w.Seed,ss,w.Bodies⟩ j s hs1 (hSc s (List.mem_of_getElem? hs1))
   simp only at cp
   obtain ⟨n1,n2,_⟩ := it_hit hb hK hm hs hlf
   refine Qm J (zy (z0 J (z0 J ?_)));refine Xd (lo := [_,_,_,_]) (gs := [(0,.c (.ptr 0 0)),(5,.c (.ref 3))]) (lo' := [_,_,_,_]) (new := []) [0,1,2,3] [(0,0,.ptr 0 0),(1,0,.ref 3)] (cp) J J J J J J J J J J J J J J J J J ?_;refine zz (Q9 (T_x (Xl (Q0 (Qc (z7 J (by omega) (z0 J (zz ?_))))))))
   refine ⟨_,(by omega),_,⟨k + 1,addM ss j,lf,J,⟨by omega,n1,n2⟩,J⟩,W_gj [0,1,2,3,4,5] J⟩
 ·have hb0 : decide ((k : Int) < (((els w.Bodies).length - (els w.Scores).length : Nat) : Int)) = false := decide_eq_false (by omega)
  have hk : k = (w.Bodies.drop w.Scores.length).length := by omega
  rw [hk] at hs hlf
  rw [← hs,← hlf]
  have hq : ((els ss).length : Int).toNat = w.Scores.length := by omega
  have hpl := els_pl9 lf
  have hkk := els_k9 lf
  refine zy (z9a J (by assumption) (zz (Qd (Ql J (Q9 (T_x (T_x (Xl (Q0 ?_)))))))));refine Xi u8_33 [[],[],[38],[38,39],[38,39,40],[],[42],[42,43],[42,43,44],[42,43,44,45],[38,39,40,41,42,43,44,45,46],[],[38,39,40,41,42,43,44,45,46,47,48],[37,38,39,40,41,42,43,44,45,46,47,48,49],[37,38,39,40,41,42,43,44,45,46,47,48,49,50],[37,38,39,40,41,42,43,44,45,46,47,48,49,50,51]] [[38,39,40,41,42,43,44,45,46,47,48,49],[37,42,43,44,45,46,48],[37,42,43,44,45,46,48],[37,42,43,44,45,46,48],[37,42,43,44,45,46,48],[37,38,39,40,41,48],[37,38,39,40,41,48],[37,38,39,40,41,48],[37,38,39,40,41,48],[37,38,39,40,41,48],[37,48],[37,38,39,40,41,42,43,44,45,46,47],[37],[],[],[],[0,1]] J (DR.s (Qa J J J) J J (DR.s (Qa J J J) J J (DR.s (Qz J J J) J J (DR.s (Qf J J J J (by decide)) J J (DR.s (Qg J J J J J) J J (DR.s (Qa J J J) J J (DR.s (Qz J J J) J J (DR.s (Qf J J J J (by decide)) J J (DR.s (Qg J J J J J) J J (DR.s (Zr J J J J) J J (DR.s (q_hd J J J J J J (by omega)) J J ?_)))))))))));refine DR.s (Qa J J J) J J (DR.stop (by kernel_rfl) (by kernel_rfl) ?_)
  refine AL.weak (Wk.head (p := 3) (els ss).length J (by omega) (by repeat' (first | exact trivial | exact rfl | refine And.intro ?_ ?_)) (by repeat' (first | exact trivial | exact rfl | refine And.intro ?_ ?_))) ?_
  have ht2 : ((els w.Bodies).take (els ss).length).length = w.Scores.length := by rw [List.length_take]; omega
  refine AL.weak (st' := (⟨_,[(37,.o (.c (.ptr 0 0))),(47,.o (.c (.ref 3))),(48,.o (.c (.ref 5)))],[.box [.ref 1,jn w.Tick,jn w.Seed,.ref 2,.un],.row 1 (els w.Level.Rows),.row 1 (els ss),.row 9 ((els w.Bodies).take (els ss).length),.gh 0 (.c (.ptr 0 0)),.row 9 (els lf)]⟩ : St)) (W_gj [0,1,2,3,4,5] J) ?_;refine M_app J J J J J J J J J J hpl hkk (by omega) (by omega) ?_;refine zx (Qz J J J) J (z2 J J J ?_);refine Q5 J J J J J J J J (Qe (F_n ?_))
  exact Xo J (X3 [0,1,2,3,4] (by decide) J (by exact rwBo (tk_app hq)) J)
end
section
open Go.RowKit

section
variable {P : Program} {w : World}
theorem run_copy_src (t tx ty e : TypeId) (i : TypeInfo) (ht : P.underlying t = some (.slice e)) (hi : P.info? e = some i) (b o c n : Nat) (x : Value) (news : List Value) (hs : Src P i.size tx x n news w) (hc : ∀ j,j < news.length → (w.cell? ⟨b,o + j,none⟩).isSome = true) (hf : ∀ j,j < news.length → w.frozen? ⟨b,o + j,none⟩ = false) :
  (Builtin.copy_ #[t,tx] ty #[.slice (some ⟨b,o,none⟩) n c,x]).run P w = .ok (.int .i64 n) (w.setCells b o news) := by
 have hst := run_storeCells_cells (P := P) b o news 0 w (by simpa using hc) (by simpa using hf) hs.one
 simp only [Nat.add_zero] at hst
 simp [Builtin.copy_,run_underlying ht,Go.sizeOf,typeInfo,hi,hs.len,hs.cells,hst,goInt]
theorem OW.fill {k : Nat} {es es' : List (List T)} {v : Value} {fp : List Nat} {t tx ty e : TypeId} {zs : List Value} {by_ : Nat} [hm : TyMake P t e zs by_] (h : OW w (.sl k es) v fp) (hnd : fp.Nodup) (hkz : k = zs.length) {x : Value} (hl : es'.length = es.length) (h0 : 0 < es.length) (hpl : plainT es') (hkk : ∀ e ∈ es',e.length = k)
  (hsrc : Src P k tx x es'.length (flatV (plainV' es') es'.length k) w) :
  ∃ w' fp',(Builtin.copy_ #[t,tx] ty #[v,x]).run P w = .ok (.int .i64 es.length) w' ∧ OW w' (.sl k es') v fp' ∧ fp'.Nodup ∧ (∀ b ∈ fp',b ∈ fp) ∧ Keeps w w' fp := by
 obtain ⟨i,hi,hzz⟩ := Option.map_eq_some_iff.1 hm.info
 simp only [Prod.mk.injEq] at hzz
 obtain ⟨hz1,hs,hb1⟩ := hzz
 have hsk : i.size = k := by rw [hs,hkz]
 have hsrc2 : Src P i.size tx x es.length (flatV (plainV' es') es'.length k) w := by rw [hsk,← hl]; exact hsrc
 rcases h.open_ with ⟨rfl,rfl,rfl⟩ | ⟨b,o,c,tid,cur,fz,val,fps,rfl,rfl,hg,hzf,hc,hcm,hcs,hp,hk,hf,hfk,hv,ht⟩
 ·simp at h0
 ·have hmul : es'.length * k ≤ c * k := Nat.mul_le_mul_right _ (by omega)
  have hr := run_copy_src (P := P) (w := w) t tx ty e i hm.slice hi b o c es.length x _ hsrc2 (fun j hj => by
   rw [cell_of_row w b _ cur tid fz hg]
   rw [Ys] at hj
   simp
   omega) (fun j hj => by
   rw [Ys] at hj
   exact frozen_fz hg hzf (by omega))
  obtain ⟨cur',k1,k2,k3,k4⟩ := Yw b tid fz (flatV (plainV' es') es'.length k) o w cur hg (by rw [Ys]; omega)
  obtain ⟨s1,s2,s3,s4,s5⟩ := Z7 w b (flatV (plainV' es') es'.length k) o
  have hnil : (es'.map fun e => e.map fun _ => ([] : List Nat)).flatten.flatten = [] := by
   rw [List.flatten_eq_nil_iff]
   intro l hl
   rw [List.mem_flatten] at hl
   obtain ⟨f,hf,hl⟩ := hl
   obtain ⟨e,_,rfl⟩ := List.mem_map.1 hf
   obtain ⟨_,_,rfl⟩ := List.mem_map.1 hl
   rfl
  refine ⟨_,b :: (es'.map fun e => e.map fun _ => ([] : List Nat)).flatten.flatten,hr,?_,by rw [hnil]; simp,fun x hx => ?_,s1,s2,s3,by omega,fun b'' _ hb'' => s5 b'' fun e => hb'' (by simp [e])⟩
  ·rw [← hl]
   refine .sl es' b o k c tid cur' fz (plainV' es') (es'.map fun e => e.map fun _ => []) k1 (by rw [k2]; exact hzf) (by omega) hcm (by rw [k2]; exact hcs) hp hkk (by simp) (fun f hf => ?_) (fun i j hi hj => ?_) fun i j e t fs f h6 h7 h8 h9 => ?_
   ·obtain ⟨e,h6,rfl⟩ := List.mem_map.1 hf
    simpa using hkk e h6
   ·have h1 := ij_lt hi hj
    rw [Nat.add_assoc,k3 _ (by rw [Ys]; exact h1)]
    exact flatV_at hi hj
   ·rw [List.getElem?_map,h6] at h8
    simp only [Option.map_some,Option.some.injEq] at h8
    subst h8
    rw [List.getElem?_map,h7] at h9
    simp only [Option.map_some,Option.some.injEq] at h9
    subst h9
    obtain ⟨u,rfl⟩ := hpl e (Yv h6) t (Yv h7)
    rw [plainV'_at h6 h7]
    refine .v u ?_
    have hi := Yu h6
    have hj : j < k := by rw [← hkk e (Yv h6)]; exact Yu h7
    have := hsrc.one _ (Yv (flatV_at (val := plainV' es') hi hj))
    rwa [plainV'_at h6 h7] at this
  ·rw [hnil] at hx
   rcases List.mem_cons.1 hx with rfl | hx
   ·simp
   ·cases hx
end
section
variable {P : Program} {E : Env} {ops : Array Oper} {o : Oper} {st : St} {n : Nat} {rest : List Oper} {QQ : Exit → St → Prop} {t : TypeId} {y z : Operand}
theorem exec_copy {a : Act} {w w' : World} {v : Value} (ho : o.op = .call { callee := .builtin .copy,args := #[y,z],argTypes := #[t,t] }) (h : (Builtin.copy_ #[t,t] o.type #[a.eval y,a.eval z]).run P w = .ok v w') : (execOp a.eval o).run P w = .ok (.value v) w' := by
 unfold execOp
 simp only [ho,resolve,invoke,builtin,Sem.run_bind,Sem.run_pure,Result.andThen_ok,List.map_toArray,List.map_cons,List.map_nil,h]
theorem L_copy {p kk : Nat} {es es' : List (List T)} {x : V1} {e : TypeId} {zs : List Value} {by_ : Nat} [hm : TyMake P t e zs by_] (ho : o.op = .call { callee := .builtin .copy,args := #[y,z],argTypes := #[t,t] }) (hg : o.guard = none) (hy : st.ev y = .o (.c (.ref p))) (hp : st.objs[p]? = some (.row kk es)) (hz : st.ev z = .o (.c x)) (hs : srcOf st.objs x = some es')
  (hkz : kk = zs.length) (hz0 : zs ≠ []) (hd : dstOk st.n o.dst = true) (hpl : plainT es') (hkk : ∀ e ∈ es',e.length = kk) (hl : es'.length = es.length) (h0 : 0 < es.length)
  (h : AL P E ops QQ rest ⟨st.n,setT (st.tmps.map fun e => (e.1,e.2.kille p [])) o.dst (I es.length),(st.objs.map (Ob.kille p [])).set p (.row kk es')⟩) : AL P E ops QQ (o :: rest) st := by
 refine ⟨fun a w ⟨H,F,h1,h2⟩ => ?_⟩
 obtain ⟨v,fp,e1,e2⟩ := h1.ow hp
 obtain ⟨x',fp',e3⟩ := h1.v1 hy
 rw [e1] at e3
 simp only [Pc.ow.injEq] at e3
 obtain ⟨_,hv,_⟩ := e3
 have hnd := h1.ok.nodup p
 rw [e1] at hnd
 have hsrc := src_any (P := P) (t := t) (e := e) (by_ := by_) (kk := kk) h1 hkz hz0 (h1.v1 hz) hs hpl hkk
 obtain ⟨w',fp'',hr,h3,h4,h5,h6⟩ := OW.fill (P := P) (t := t) (ty := o.type) e2 hnd hkz hl h0 hpl hkk hsrc
 obtain ⟨hok,htn⟩ := h1.ok.turn (p := p) (fp := fp) (by rw [e1]; rfl) h6 (.ow (.sl kk es') v fp'') h3 h4 trivial (fun b hb => .inl (h5 b hb))
 obtain ⟨hplt,_⟩ := List.getElem?_eq_some_iff.1 hp
 have hR := h1.turne (rs := []) htn hok e1 (Hs.put_self _ _ _) (by simp) (by simp) (ob := .row kk es') ⟨_,_,Hs.put_self _ _ _⟩ hplt
 have hR2 := hR.put (x := I es.length) o.dst hd (v := .int .i64 es.length) (plainV _ rfl)
 refine wpList_step fun K hK => ?_
 rw [if_pos (by unfold Region.wanted; rw [hg])]
 unfold Oper.wp
 rw [exec_copy ho (by rw [← hv]; exact hr)]
 exact hK _ _ (h.h _ _ ⟨_,F,hR2,h2.turn htn⟩)
theorem M_copy {d : Nat} {ts : List (Nat × V)} {obs : List Ob} {p kk : Nat} {es es' : List (List T)} {x : V1} {e : TypeId} {zs : List Value} {by_ : Nat} [hm : TyMake P t e zs by_] (ho : o.op = .call { callee := .builtin .copy,args := #[y,z],argTypes := #[t,t] }) (hg : o.guard = none) (hy : St.ev ⟨n,ts,obs⟩ y = .o (.c (.ref p))) (hp : obs[p]? = some (.row kk es)) (hz : St.ev ⟨n,ts,obs⟩ z = .o (.c x)) (hs : srcOf obs x = some es')
  (hkz : kk = zs.length) (hz0 : zs.isEmpty = false) (hd : o.dst = some d) (hl : Nat.blt d n = true) (hpl : plainT es') (hkk : ∀ e ∈ es',e.length = kk) (hle : es'.length = es.length) (h0 : 0 < es.length)
  (h : AL P E ops QQ rest ⟨n,(d,I es.length) :: (ts.map fun e => (e.1,e.2.kille p [])),(obs.map (Ob.kille p [])).set p (.row kk es')⟩) : AL P E ops QQ (o :: rest) ⟨n,ts,obs⟩ :=
 L_copy ho hg hy hp hz hs hkz (by intro e; rw [e] at hz0; cases hz0) (by rw [hd]; exact hl) hpl hkk hle h0 (by rw [hd]; exact h)
end
end
section
open Go.RowKit

theorem rw6g {a b c d e f : Ob} {t : List Ob} {m : Nat} {u v : List (List T)} (h2 : u = v) : a :: b :: c :: d :: e :: f :: Ob.row m u :: t = a :: b :: c :: d :: e :: f :: Ob.row m v :: t := by rw [h2]
theorem rw2k {a b c d e : Ob} {k m : Nat} {x y u v : List (List T)} (h : x = y) (h2 : u = v) : [a,b,c,d,e,Ob.row k x,Ob.row m u] = [a,b,c,d,e,Ob.row k y,Ob.row m v] := by rw [h,h2]
theorem mk_gone {N : Nat} {i : Int} {kk : Nat} (h : i.toNat = N) : els (List.replicate N false) = List.replicate i.toNat ([Value.bool false].map (zT kk)) := by
 rw [h,els,List.map_replicate]; rfl
theorem at_el {bs : List TBody} {ss : List Int} {k : Nat} {b : TBody} (h : bs[ss.length + k]? = some b) : (els bs)[(((els ss).length + k : Nat) : Int).toNat]? = some (Enc.e b) := by
 rw [Yl,Int.toNat_natCast,els,List.getElem?_map,h]; rfl
theorem at_gl {gl : List Bool} {ss : List Int} {k : Nat} {b : Bool} (h : gl[ss.length + k]? = some b) : (els gl)[(((els ss).length + k : Nat) : Int).toNat]? = some (Enc.e b) := by
 rw [Yl,Int.toNat_natCast,els,List.getElem?_map,h]; rfl
theorem st_gl {gl : List Bool} {ss : List Int} {k : Nat} {b : Bool} : els (gl.set (ss.length + k) true) = (els gl).set (((els ss).length + k : Nat) : Int).toNat (splice (Enc.e b) 0 [.v (.bool true)]) := by
 rw [Yl,Int.toNat_natCast,els,List.map_set]; rfl
theorem gl_set {gl : List Bool} {n m k N : Nat} {f g : Nat → Bool} (hl : gl.length = N) (h : ∀ i,i < m → n + i < N → gl[n + i]? = some (f i)) (hk : g k = true) (hf : ∀ i,i ≠ k → g i = f i) : (gl.set (n + k) true).length = N ∧ ∀ i,i < m → n + i < N → (gl.set (n + k) true)[n + i]? = some (g i) := by
 refine ⟨by rw [List.length_set]; exact hl,fun i hi hN => ?_⟩
 by_cases e : i = k
 ·subst e
  rw [List.getElem?_set_self (by omega),hk]
 ·rw [List.getElem?_set_ne (by omega),h i hi hN,hf i e]
theorem gl_same {gl : List Bool} {n m N : Nat} {f g : Nat → Bool} (hl : gl.length = N) (h : ∀ i,i < m → n + i < N → gl[n + i]? = some (f i)) (hf : ∀ i,g i = f i) : gl.length = N ∧ ∀ i,i < m → n + i < N → gl[n + i]? = some (g i) :=
 ⟨hl,fun i hi hN => by rw [h i hi hN,hf]⟩
def itF (n : Nat) (t bs : List TBody) (i : Nat) : Bool := match t[i]? with
 | none => false
 | some b => itHit n bs b
theorem itF_at {n i : Nat} {t bs : List TBody} {b : TBody} (h : t[i]? = some b) : itF n t bs i = itHit n bs b := by rw [itF,h]
theorem f1_ne {i k : Nat} {c : Bool} (h : i ≠ k) : (decide (i < k + 1) && c) = (decide (i < k) && c) := by
 rw [show decide (i < k + 1) = decide (i < k) from decide_eq_decide.2 (by omega)]
theorem f1_step {k : Nat} {c : Nat → Bool} (h : c k = false) (i : Nat) : (decide (i < k + 1) && c i) = (decide (i < k) && c i) := by
 by_cases e : i = k
 ·subst e; rw [h,Bool.and_false,Bool.and_false]
 ·exact f1_ne e
theorem f2_ne {i k : Nat} {c d : Bool} (h : i ≠ k) : (d || (decide (i < k + 1) && c)) = (d || (decide (i < k) && c)) := by rw [f1_ne h]
theorem f2_step {k : Nat} {c d : Nat → Bool} (h : c k = false) (i : Nat) : (d i || (decide (i < k + 1) && c i)) = (d i || (decide (i < k) && c i)) := by rw [f1_step h]
theorem S_l02Hits (w : TWorld) (hg : Enc.gd w.Level) (hl : levelOk w.Level = true) (hn4 : 1 ≤ w.Scores.length ∧ w.Scores.length ≤ 4) (hL : LM w.Level w.Scores.length w.Bodies) (hsc : ∀ x ∈ w.Scores,0 ≤ x ∧ x ≤ 1000000) : Con Try.prog 72 [.box [.ref 1,jn w.Tick,jn w.Seed,.ref 2,.ref 3],.row 1 (els w.Level.Rows),.row 1 (els w.Scores),.row 9 (els w.Bodies),.gh 0 (.c (.ptr 0 0))] [.c (.ptr 0 0)] [.box [.ref 1,jn w.Tick,jn w.Seed,.ref 2,.ref 3],.row 1 (els w.Level.Rows),.row 1 (els (hitsR w.Scores.length w.Bodies w.Scores).2),.row 9 (els (hitsR w.Scores.length w.Bodies w.Scores).1),.gh 0 (.c (.ptr 0 0))] (.tu []) := by
 have hlb := Yl w.Bodies
 have hls := Yl w.Scores
 have hln := hL.len
 have hT : (w.Bodies.drop w.Scores.length).length = w.Bodies.length - w.Scores.length := List.length_drop
 have htk : ((els w.Bodies).take ((els w.Scores).length : Int).toNat).length = w.Scores.length := by rw [List.length_take,Int.toNat_natCast]; omega
 refine Con.of Try.func72 J Try.ntmps72 J (fun E => ?_)
 refine zy (z0 J (zx (Qz J J J) J (z2 J J J (z3 J (zx (Zr J J J J) J (z1 J (zz (zy ?_))))))));refine M1 (q_bslicez J J J) J J (z0 J (zx (Qz J J J) J (z2 J J J (z3 J (z0 J (zx (q_partr0 J J J J J J (by omega)) J ?_))))));refine M1 (q_appz J J J J J J (fun e he => els_pl9 _ e (List.mem_of_mem_take he)) (fun e he => els_k9 _ e (List.mem_of_mem_take he)) (by omega) (by omega) (by omega)) J J ?_;refine z1 J (zz (zy (z0 J (zx (Qz J J J) J (z2 J J J (z3 J (zx (Zr J J J J) J ?_)))))));refine M1 (q_make 1 J J J J (by omega) (by omega) (by omega) J (by decide)) J J ?_;refine z1 J (zz (Qd (zy (z0 J (z1 J (zz (Qk ?_)))))))
 refine AWP.pre (st' := (⟨_,[(0,.o (.c (.ptr 0 0))),(2,I (els w.Scores).length),(3,.o (.c (.ref 5))),(4,.o (.c (.ref 6))),(5,I (els w.Scores).length)],[.box [.ref 1,jn w.Tick,jn w.Seed,.ref 2,.ref 3],.row 1 (els w.Level.Rows),.row 1 (els w.Scores),.row 9 (els w.Bodies),.gh 0 (.c (.ptr 0 0)),.row 9 (els (w.Bodies.take w.Scores.length)),.row 1 (els (List.replicate w.Bodies.length false))]⟩ : St)) ?_ (X5 [0,1,2,3,4,6,7] (by decide) J ((by exact rw2k (by rw [Yo,hls,Int.toNat_natCast]) (mk_gone (by rw [Int.toNat_natCast,hlb])))) (.c J (.c J (.c J (.c J (.c J (.nil)))))))
 refine A_lq (fun m__ st => ∃ (k : Nat) (bs : List TBody) (ss : List Int) (gl : List Bool),(w.Bodies.drop w.Scores.length).length - k = m__ ∧ (k ≤ (w.Bodies.drop w.Scores.length).length ∧ (bs,ss) = shS w.Scores.length (w.Bodies.drop w.Scores.length) (w.Bodies,w.Scores) k ∧ (gl.length = w.Bodies.length ∧ ∀ i,i < (w.Bodies.drop w.Scores.length).length → w.Scores.length + i < w.Bodies.length → gl[w.Scores.length + i]? = some (decide (i < k) && shF w.Scores.length (w.Bodies.drop w.Scores.length) (w.Bodies,w.Scores) i))) ∧ st = (⟨_,[(0,.o (.c (.ptr 0 0))),(2,I (els w.Scores).length),(3,.o (.c (.ref 5))),(4,.o (.c (.ref 6))),(5,I (((els w.Scores).length + k : Nat) : Int))],[.box [.ref 1,jn w.Tick,jn w.Seed,.ref 2,.ref 3],.row 1 (els w.Level.Rows),.row 1 (els ss),.row 9 (els bs),.gh 0 (.c (.ptr 0 0)),.row 9 (els (w.Bodies.take w.Scores.length)),.row 1 (els gl)]⟩ : St)) _ ⟨(fun (k : Nat) (bs : List TBody) (ss : List Int) (gl : List Bool) => (⟨_,[(0,.o (.c (.ptr 0 0))),(2,I (els w.Scores).length),(3,.o (.c (.ref 5))),(4,.o (.c (.ref 6))),(5,I (((els w.Scores).length + k : Nat) : Int))],[.box [.ref 1,jn w.Tick,jn w.Seed,.ref 2,.ref 3],.row 1 (els w.Level.Rows),.row 1 (els ss),.row 9 (els bs),.gh 0 (.c (.ptr 0 0)),.row 9 (els (w.Bodies.take w.Scores.length)),.row 1 (els gl)]⟩ : St)) (0) (w.Bodies) (w.Scores) (List.replicate w.Bodies.length false),⟨0,w.Bodies,w.Scores,List.replicate w.Bodies.length false,J,⟨by omega,J,by simp,fun i _ hi => by rw [List.getElem?_replicate,if_pos hi]; simp⟩,J⟩,X5 [0,1,2,3,4,5,6] (by decide) J (J) (.c J (.c J (.c J (.c J (.cons (Xw (by omega)) (.nil))))))⟩ ?_
 rintro m_A _ ⟨k,bs,ss,gl,hk_A,hp_A,rfl⟩
 obtain ⟨hk,hs,hgl,hg2⟩ := hp_A
 have hS := (SI.start hL rfl hsc).all (w.Bodies.drop w.Scores.length) k
 rw [← hs] at hS
 obtain ⟨hSL,hSn,hSt,hSs,hSc⟩ := hS
 simp only at hSL hSn hSt hSs hSc
 have hlbs := Yl bs
 have hlss := Yl ss
 have hlgl := Yl gl
 by_cases hlt : k < (w.Bodies.drop w.Scores.length).length
 ·have hb0 : decide ((((els w.Scores).length + k : Nat) : Int) < (els bs).length) = true := decide_eq_true (by omega)
  obtain ⟨b,hb⟩ := Ka hlt
  have hbb : bs[w.Scores.length + k]? = some b := by rw [hSt _ (by omega),← List.getElem?_drop]; exact hb
  have hB := (hSL.at_ _ b hbb).1
  have hpl := (hB.placed hl).1
  have hgk := hg2 k hlt (by omega)
  rw [decide_eq_false (Nat.lt_irrefl k),Bool.false_and] at hgk
  refine Qd (zy (z0 J (z0 J (zx (Qz J J J) J (z2 J J J (z3 J (zx (Zr J J J J) J (z9a J (by assumption) (zz ?_)))))))));refine Qm J (Qh (Q0 (Qd (Qk (zy (z0 J (zx (Qz J J J) J (z2 J J J (z3 J (z0 J ?_))))))))));refine zx (Q3 J J J J J (by omega) (by omega)) J ?_
  have he := at_el hbb
  with_reducible refine Xf ?_
  refine zx (Q6 J J J J (by assumption) J J) J ?_
  with_reducible refine K_alloc ?_
  refine M1 (Qx J J J) J J ?_
  with_reducible refine Xe ?_
  refine Qy J J J J J J J J J (zz ?_)
  refine AWP.pre (st' := (⟨_,[(0,.o (.c (.ptr 0 0))),(2,I (els w.Scores).length),(3,.o (.c (.ref 5))),(4,.o (.c (.ref 6))),(5,I (((els w.Scores).length + k : Nat) : Int)),(6,.o (.c (.ptr 7 0)))],[.box [.ref 1,jn w.Tick,jn w.Seed,.ref 2,.ref 3],.row 1 (els w.Level.Rows),.row 1 (els ss),.row 9 (els bs),.gh 0 (.c (.ptr 0 0)),.row 9 (els (w.Bodies.take w.Scores.length)),.row 1 (els gl),.box ((Enc.e b).map (V1.rd []))]⟩ : St)) ?_ (W_gj [0,1,2,3,4,5,6,7] J)
  clear he
  by_cases hK : b.Kind = 1
  case neg =>
   have f1 : decide (b.Kind ≠ 1) = true := decide_eq_true hK
   obtain ⟨n1,_,n3⟩ := sh_skip hb hK hs (lf := shL w.Scores.length (w.Bodies.drop w.Scores.length) (w.Bodies,w.Scores) k) rfl
   refine Qd (zy (z2 J J J (z3 J (z9f J (by assumption) (zz (Qm J (Q9 (T_x (Xl ?_)))))))));refine Q0 (Qc (z0 J (z7 J (by omega) (z1 J (zz ?_)))))
   refine ⟨_,(by omega),(fun (k : Nat) (bs : List TBody) (ss : List Int) (gl : List Bool) => (⟨_,[(0,.o (.c (.ptr 0 0))),(2,I (els w.Scores).length),(3,.o (.c (.ref 5))),(4,.o (.c (.ref 6))),(5,I (((els w.Scores).length + k : Nat) : Int))],[.box [.ref 1,jn w.Tick,jn w.Seed,.ref 2,.ref 3],.row 1 (els w.Level.Rows),.row 1 (els ss),.row 9 (els bs),.gh 0 (.c (.ptr 0 0)),.row 9 (els (w.Bodies.take w.Scores.length)),.row 1 (els gl)]⟩ : St)) (k + 1) (bs) (ss) (gl),⟨k + 1,bs,ss,gl,J,⟨by omega,n1,gl_same hgl hg2 (f1_step n3)⟩,J⟩,X5 [0,1,2,3,4,5,6] (by decide) J (J) (.c J (.c J (.c J (.c J (.cons (Xw (by omega)) (.nil))))))⟩
  have f1 : decide (b.Kind ≠ 1) = false := decide_eq_false (fun q => q hK)
  have cm := S_l02Meets ⟨w.Level,w.Tick,w.Seed,ss,bs⟩ b b.Owner (by simp only; omega) (by simp only; omega) (fun j p _ h => ((hSL.at_ j p h).1.placed hl).1) hpl
  simp only [hSs] at cm
  refine Qd (zy (z2 J J J (z3 J (z9f J (by assumption) (zz (Ql J (Qh (Q0 (Qd ?_)))))))));refine Qc (z0 J (z4 J J J (z2 J J J (z3 J ?_))));refine Xd (lo := [_,_,_,_]) (gs := [(0,.c (.ptr 0 0)),(6,.c (.ref 3))]) (lo' := [_,_,_,_]) (new := []) [0,1,2,3] [(0,0,.ptr 0 0),(1,0,.ref 3)] (cm) J J J J J J J J J J J J J J J J J ?_;refine z1 J (zz (Qd (zy (z0 J (zx (Zv J J J J) J (zz ?_))))))
  refine AWP.pre (st' := (⟨_,[(0,.o (.c (.ptr 0 0))),(2,I (els w.Scores).length),(3,.o (.c (.ref 5))),(4,.o (.c (.ref 6))),(5,I (((els w.Scores).length + k : Nat) : Int)),(6,.o (.c (.ptr 7 0))),(7,I (metI bs b b.Owner w.Scores.length)),(56,B (decide (metI bs b b.Owner w.Scores.length < 0)))],[.box [.ref 1,jn w.Tick,jn w.Seed,.ref 2,.ref 3],.row 1 (els w.Level.Rows),.row 1 (els ss),.row 9 (els bs),.gh 0 (.c (.ptr 0 0)),.row 9 (els (w.Bodies.take w.Scores.length)),.row 1 (els gl),.box ((Enc.e b).map (V1.rd []))]⟩ : St)) ?_ (W_gj [0,1,2,3,4,5,6,7] J)
  cases hm : metF bs b b.Owner w.Scores.length with
  | none =>
   obtain ⟨mi,hmi⟩ : ∃ mi : Int,metI bs b b.Owner w.Scores.length = mi := ⟨_,rfl⟩
   rw [hmi]
   rw [met_no hm] at hmi
   have f2 : decide (mi < 0) = true := decide_eq_true (by omega)
   rw [f2]
   obtain ⟨n1,_,n3⟩ := sh_miss hb hm hs (lf := shL w.Scores.length (w.Bodies.drop w.Scores.length) (w.Bodies,w.Scores) k) rfl
   refine Qm J (Q9 (T_x (Xl (Q0 (Qc (z0 J (z7 J (by omega) (z1 J (zz ?_)))))))))
   refine ⟨_,(by omega),(fun (k : Nat) (bs : List TBody) (ss : List Int) (gl : List Bool) => (⟨_,[(0,.o (.c (.ptr 0 0))),(2,I (els w.Scores).length),(3,.o (.c (.ref 5))),(4,.o (.c (.ref 6))),(5,I (((els w.Scores).length + k : Nat) : Int))],[.box [.ref 1,jn w.Tick,jn w.Seed,.ref 2,.ref 3],.row 1 (els w.Level.Rows),.row 1 (els ss),.row 9 (els bs),.gh 0 (.c (.ptr 0 0)),.row 9 (els (w.Bodies.take w.Scores.length)),.row 1 (els gl)]⟩ : St)) (k + 1) (bs) (ss) (gl),⟨k + 1,bs,ss,gl,J,⟨by omega,n1,gl_same hgl hg2 (f1_step n3)⟩,J⟩,X5 [0,1,2,3,4,5,6] (by decide) J (J) (.c J (.c J (.c J (.c J (.cons (Xw (by omega)) (.nil))))))⟩
  | some j =>
   rw [met_I hm]
   have f2 : decide ((j : Int) < 0) = false := decide_eq_false (by omega)
   obtain ⟨hj,hc⟩ := metF_lt hm
   obtain ⟨p,hp,hpl,_,_⟩ := metC_life hc
   have hpB := (hSL.at_ j p hp).1.f
   have hjl := Yu hp
   obtain ⟨n1,_,n3⟩ := sh_hit hb hK hm hp hs (lf := shL w.Scores.length (w.Bodies.drop w.Scores.length) (w.Bodies,w.Scores) k) rfl
   have ng := gl_set (k := k) (g := fun i => decide (i < k + 1) && shF w.Scores.length (w.Bodies.drop w.Scores.length) (w.Bodies,w.Scores) i) hgl hg2 (by simp only [n3,Bool.and_true,decide_eq_true_eq]; exact Nat.lt_succ_self k) (fun i hi => f1_ne hi)
   have heg := at_gl hgk
   refine Ql J (Qh (Q0 (zy (z0 J (z0 J (zx (Q3 J J J J J (by omega) (by omega)) J ?_))))));refine Xh J J J J J J J J J (by assumption) J J (zz (zy (z0 J (zx (Qz J J J) J (z2 J J J (z3 J (z0 J (zx (Q3 J J J J J (by omega) (by omega)) J (zx (Zm J J J J (by decide)) J ?_)))))))));refine AL.weak (st' := (⟨_,[(0,.o (.c (.ptr 0 0))),(2,I (els w.Scores).length),(3,.o (.c (.ref 5))),(4,.o (.c (.ref 6))),(5,I (((els w.Scores).length + k : Nat) : Int)),(6,.o (.c (.ptr 7 0))),(7,I (j : Int)),(63,.o (.c (.ref 3))),(64,I (j : Int)),(66,.o (.c (.el 3 9 j 7)))],[.box [.ref 1,jn w.Tick,jn w.Seed,.ref 2,.ref 3],.row 1 (els w.Level.Rows),.row 1 (els ss),.row 9 (els bs),.gh 0 (.c (.ptr 0 0)),.row 9 (els (w.Bodies.take w.Scores.length)),.row 1 (els (gl.set (w.Scores.length + k) true)),.box ((Enc.e b).map (V1.rd []))]⟩ : St)) (X5 [0,1,2,3,4,5,6,7] (by decide) J ((by exact rw6g st_gl)) (.c J (.c J (.c J (.c J (.c J (.c J (.c J (.c J (.c J (.c J (.nil)))))))))))) ?_
   clear heg
   have he := Yn hp
   refine zx (Q7 J J J J (by assumption) J) J (z8 J (by omega) (zx (Q3 J J J J J (by omega) (by omega)) J (zx (Zm J J J J (by decide)) J ?_)));refine Xh J J J J J J J J J (by assumption) J J (zz (zy (z0 J (zx (Qz J J J) J (z2 J J J (z3 J (z0 J ?_)))))));refine AL.weak (st' := (⟨_,[(0,.o (.c (.ptr 0 0))),(2,I (els w.Scores).length),(3,.o (.c (.ref 5))),(4,.o (.c (.ref 6))),(5,I (((els w.Scores).length + k : Nat) : Int)),(6,.o (.c (.ptr 7 0))),(7,I (j : Int)),(74,.o (.c (.ref 3))),(75,I (j : Int))],[.box [.ref 1,jn w.Tick,jn w.Seed,.ref 2,.ref 3],.row 1 (els w.Level.Rows),.row 1 (els ss),.row 9 (els (bs.set j (lifeM p))),.gh 0 (.c (.ptr 0 0)),.row 9 (els (w.Bodies.take w.Scores.length)),.row 1 (els (gl.set (w.Scores.length + k) true)),.box ((Enc.e b).map (V1.rd []))]⟩ : St)) (X5 [0,1,2,3,4,5,6,7] (by decide) J ((by exact rwBo (st_el0 J))) (.c J (.c J (.c J (.c J (.c J (.c J (.c J (.c J (.c J (.nil))))))))))) ?_
   clear he
   have he : (els (bs.set j (lifeM p)))[(j : Int).toNat]? = some (Enc.e (lifeM p)) := Yn (by rw [List.getElem?_set_self hjl])
   have hls2 : (els (bs.set j (lifeM p))).length = bs.length := by rw [Yl,List.length_set]
   by_cases hz : p.Life - 1 = 0
   case neg =>
    have f3 : decide (p.Life - 1 = 0) = false := decide_eq_false hz
    rw [hit_alive hz,if_neg hz] at n1
    refine zx (Q3 J J J J J (by omega) (by omega)) J (zx (Zm J J J J (by decide)) J (zx (Q7 J J J J (by assumption) J) J (z9e J (by assumption) (zz (Ql J (Qh (Q1 (Q0 (Qc (z0 J ?_))))))))));refine z7 J (by omega) (z1 J (zz ?_))
    refine ⟨_,(by omega),(fun (k : Nat) (bs : List TBody) (ss : List Int) (gl : List Bool) => (⟨_,[(0,.o (.c (.ptr 0 0))),(2,I (els w.Scores).length),(3,.o (.c (.ref 5))),(4,.o (.c (.ref 6))),(5,I (((els w.Scores).length + k : Nat) : Int))],[.box [.ref 1,jn w.Tick,jn w.Seed,.ref 2,.ref 3],.row 1 (els w.Level.Rows),.row 1 (els ss),.row 9 (els bs),.gh 0 (.c (.ptr 0 0)),.row 9 (els (w.Bodies.take w.Scores.length)),.row 1 (els gl)]⟩ : St)) (k + 1) (bs.set j (lifeM p)) (ss) (gl.set (w.Scores.length + k) true),⟨k + 1,bs.set j (lifeM p),ss,gl.set (w.Scores.length + k) true,J,⟨by omega,n1,ng⟩,J⟩,X5 [0,1,2,3,4,5,6] (by decide) J (J) (.c J (.c J (.c J (.c J (.cons (Xw (by omega)) (.nil))))))⟩
   have f3 : decide (p.Life - 1 = 0) = true := decide_eq_true hz
   rw [hit_down hz,if_pos hz] at n1
   have ho := hB.o
   obtain ⟨q,hq⟩ : ∃ q : Nat,b.Owner = q := ⟨b.Owner.toNat,by omega⟩
   obtain ⟨s,hs1⟩ := Ka (xs := ss) (i := q) (by omega)
   have cp := S_l02Point ⟨w.Level,w.Tick,w.Seed,ss,bs.set j (lifeM p)⟩ q s hs1 (hSc s (List.mem_of_getElem? hs1))
   simp only [← hq] at cp
   rw [hq,Int.toNat_natCast] at n1
   refine zx (Q3 J J J J J (by omega) (by omega)) J (zx (Zm J J J J (by decide)) J (zx (Q7 J J J J (by assumption) J) J (z9e J (by assumption) (zz (Qm J (zy (z0 J (z2 J J J (z3 J ?_)))))))));refine Xd (lo := [_,_,_,_]) (gs := [(0,.c (.ptr 0 0)),(5,.c (.ref 3))]) (lo' := [_,_,_,_]) (new := []) [0,1,2,3] [(0,0,.ptr 0 0),(1,0,.ref 3)] (cp) J J J J J J J J J J J J J J J J J ?_;refine zz (zy (z0 J (zx (Qz J J J) J (z2 J J J (z3 J (z0 J (zx (Q3 J J J J J (by omega) (by omega)) J (zx (Zm J J J J (by decide)) J ?_))))))));refine Xh J J J J J J J J J (by assumption) J J (zz (zy (z0 J (zx (Qz J J J) J (z2 J J J (z3 J (z0 J ?_)))))));refine AL.weak (st' := (⟨_,[(0,.o (.c (.ptr 0 0))),(2,I (els w.Scores).length),(3,.o (.c (.ref 5))),(4,.o (.c (.ref 6))),(5,I (((els w.Scores).length + k : Nat) : Int)),(6,.o (.c (.ptr 7 0))),(7,I (j : Int)),(94,.o (.c (.ref 3))),(95,I (j : Int))],[.box [.ref 1,jn w.Tick,jn w.Seed,.ref 2,.ref 3],.row 1 (els w.Level.Rows),.row 1 (els (addM ss q)),.row 9 (els (bs.set j (stopX p))),.gh 0 (.c (.ptr 0 0)),.row 9 (els (w.Bodies.take w.Scores.length)),.row 1 (els (gl.set (w.Scores.length + k) true)),.box ((Enc.e b).map (V1.rd []))]⟩ : St)) (X5 [0,1,2,3,4,5,6,7] (by decide) J ((by exact rwBo (st_el J))) (.c J (.c J (.c J (.c J (.c J (.c J (.c J (.c J (.c J (.nil))))))))))) ?_
   clear he
   have he : (els (bs.set j (stopX p)))[(j : Int).toNat]? = some (Enc.e (stopX p)) := Yn (by rw [List.getElem?_set_self hjl])
   have hls3 : (els (bs.set j (stopX p))).length = bs.length := by rw [Yl,List.length_set]
   have hls4 : (els (bs.set j (stopY p))).length = bs.length := by rw [Yl,List.length_set]
   refine zx (Q3 J J J J J (by omega) (by omega)) J (zx (Zm J J J J (by decide)) J ?_);refine Xh J J J J J J J J J (by assumption) J J (zz (Qc (z0 J (zx (Qz J J J) J (z2 J J J (z3 J (z0 J ?_)))))));refine AL.weak (st' := (⟨_,[(0,.o (.c (.ptr 0 0))),(2,I (els w.Scores).length),(3,.o (.c (.ref 5))),(4,.o (.c (.ref 6))),(5,I (((els w.Scores).length + k : Nat) : Int)),(6,.o (.c (.ptr 7 0))),(7,I (j : Int)),(101,.o (.c (.ref 3))),(102,I (j : Int))],[.box [.ref 1,jn w.Tick,jn w.Seed,.ref 2,.ref 3],.row 1 (els w.Level.Rows),.row 1 (els (addM ss q)),.row 9 (els (bs.set j (stopY p))),.gh 0 (.c (.ptr 0 0)),.row 9 (els (w.Bodies.take w.Scores.length)),.row 1 (els (gl.set (w.Scores.length + k) true)),.box ((Enc.e b).map (V1.rd []))]⟩ : St)) (X5 [0,1,2,3,4,5,6,7] (by decide) J ((by exact rwBo (st_el J))) (.c J (.c J (.c J (.c J (.c J (.c J (.c J (.c J (.c J (.nil))))))))))) ?_
   clear he
   have he : (els (bs.set j (stopY p)))[(j : Int).toNat]? = some (Enc.e (stopY p)) := Yn (by rw [List.getElem?_set_self hjl])
   refine zx (Q3 J J J J J (by omega) (by omega)) J (zx (Zm J J J J (by decide)) J ?_);refine Xh J J J J J J J J J (by assumption) J J (Qe (Q1 (Q0 (Qc (z0 J (z7 J (by omega) (z1 J (zz ?_))))))))
   refine ⟨_,(by omega),(fun (k : Nat) (bs : List TBody) (ss : List Int) (gl : List Bool) => (⟨_,[(0,.o (.c (.ptr 0 0))),(2,I (els w.Scores).length),(3,.o (.c (.ref 5))),(4,.o (.c (.ref 6))),(5,I (((els w.Scores).length + k : Nat) : Int))],[.box [.ref 1,jn w.Tick,jn w.Seed,.ref 2,.ref 3],.row 1 (els w.Level.Rows),.row 1 (els ss),.row 9 (els bs),.gh 0 (.c (.ptr 0 0)),.row 9 (els (w.Bodies.take w.Scores.length)),.row 1 (els gl)]⟩ : St)) (k + 1) (bs.set j (downM p)) (addM ss q) (gl.set (w.Scores.length + k) true),⟨k + 1,bs.set j (downM p),addM ss q,gl.set (w.Scores.length + k) true,J,⟨by omega,n1,ng⟩,J⟩,X5 [0,1,2,3,4,5,6] (by decide) J ((by exact rwBo (st_el J))) (.c J (.c J (.c J (.c J (.cons (Xw (by omega)) (.nil))))))⟩
 have hb0 : decide ((((els w.Scores).length + k : Nat) : Int) < (els bs).length) = false := decide_eq_false (by omega)
 have hk : k = (w.Bodies.drop w.Scores.length).length := by omega
 have hg3 : ∀ i,i < (w.Bodies.drop w.Scores.length).length → w.Scores.length + i < w.Bodies.length → gl[w.Scores.length + i]? = some (shF w.Scores.length (w.Bodies.drop w.Scores.length) (w.Bodies,w.Scores) i || (decide (i < 0) && itF w.Scores.length (w.Bodies.drop w.Scores.length) bs i)) := fun i h1 h2 => by
  rw [hg2 i h1 h2,decide_eq_true (by omega : i < k)]; simp
 rw [hk] at hs
 clear hg2
 refine Qd (zy (z0 J (z0 J (zx (Qz J J J) J (z2 J J J (z3 J (zx (Zr J J J J) J (z9a J (by assumption) (zz ?_)))))))));refine Ql J (Q9 (T_x (T_x (Xl (Q0 (Qd (zy (z0 J (z1 J (Qe ?_))))))))));refine Q0 (Qk ?_);refine A_lq (fun m__ st => ∃ (i : Nat) (s2 : List Int) (g2 : List Bool),(w.Bodies.drop w.Scores.length).length - i = m__ ∧ (i ≤ (w.Bodies.drop w.Scores.length).length ∧ s2 = itS w.Scores.length bs (w.Bodies.drop w.Scores.length) ss i ∧ (g2.length = w.Bodies.length ∧ ∀ j,j < (w.Bodies.drop w.Scores.length).length → w.Scores.length + j < w.Bodies.length → g2[w.Scores.length + j]? = some (shF w.Scores.length (w.Bodies.drop w.Scores.length) (w.Bodies,w.Scores) j || (decide (j < i) && itF w.Scores.length (w.Bodies.drop w.Scores.length) bs j)))) ∧ st = (⟨_,[(0,.o (.c (.ptr 0 0))),(2,I (els w.Scores).length),(3,.o (.c (.ref 5))),(4,.o (.c (.ref 6))),(8,I (((els w.Scores).length + i : Nat) : Int))],[.box [.ref 1,jn w.Tick,jn w.Seed,.ref 2,.ref 3],.row 1 (els w.Level.Rows),.row 1 (els s2),.row 9 (els bs),.gh 0 (.c (.ptr 0 0)),.row 9 (els (w.Bodies.take w.Scores.length)),.row 1 (els g2)]⟩ : St)) _ ⟨(fun (i : Nat) (s2 : List Int) (g2 : List Bool) => (⟨_,[(0,.o (.c (.ptr 0 0))),(2,I (els w.Scores).length),(3,.o (.c (.ref 5))),(4,.o (.c (.ref 6))),(8,I (((els w.Scores).length + i : Nat) : Int))],[.box [.ref 1,jn w.Tick,jn w.Seed,.ref 2,.ref 3],.row 1 (els w.Level.Rows),.row 1 (els s2),.row 9 (els bs),.gh 0 (.c (.ptr 0 0)),.row 9 (els (w.Bodies.take w.Scores.length)),.row 1 (els g2)]⟩ : St)) (0) (ss) (gl),⟨0,ss,gl,J,⟨by omega,J,hgl,hg3⟩,J⟩,X5 [0,1,2,3,4,5,6] (by decide) J (J) (.c J (.c J (.c J (.c J (.cons (Xw (by omega)) (.nil))))))⟩ ?_
 rintro m_B _ ⟨i,s2,g2,hk_B,hp_B,rfl⟩
 obtain ⟨hi,hs2,hgl2,hgi⟩ := hp_B
 have hSs2 : s2.length = w.Scores.length := by rw [hs2]; exact (itS_ok hSs hSc).1
 have hSc2 : ∀ x ∈ s2,0 ≤ x ∧ x ≤ 1000000 := by rw [hs2]; exact (itS_ok hSs hSc).2
 have hlgl2 := Yl g2
 clear hb0 hgl hg3
 by_cases hlt : i < (w.Bodies.drop w.Scores.length).length
 ·have hb0 : decide ((((els w.Scores).length + i : Nat) : Int) < (els bs).length) = true := decide_eq_true (by omega)
  obtain ⟨b,hb⟩ := Ka hlt
  have hbb : bs[w.Scores.length + i]? = some b := by rw [hSt _ (by omega),← List.getElem?_drop]; exact hb
  have hB := (hSL.at_ _ b hbb).1
  have hpl := (hB.placed hl).1
  obtain ⟨g0,hgk⟩ := Ka (xs := g2) (i := w.Scores.length + i) (by omega)
  have heg := at_gl hgk
  have he := at_el hbb
  by_cases hK : b.Kind = 2
  case neg =>
   have f1 : decide (b.Kind ≠ 2) = true := decide_eq_true hK
   obtain ⟨n1,_,n3⟩ := it_skip hb hK hs2 (lf := itL w.Scores.length bs (w.Bodies.drop w.Scores.length) i) rfl
   refine Qd (zy (z0 J (z0 J (zx (Qz J J J) J (z2 J J J (z3 J (zx (Zr J J J J) J (z9a J (by assumption) (zz ?_)))))))));refine Qm J (Qh (Q0 (Qd (Qk (Qd (zy (z0 J (zx (Qz J J J) J (z2 J J J (z3 J ?_))))))))));refine z0 J (zx (Q3 J J J J J (by omega) (by omega)) J (zx (Zm J J J J (by decide)) J (zx (Q7 J J J J (by assumption) J) J (z9f J (by assumption) (zz (Qm J (Q9 (T_x (Xl (Q0 ?_))))))))));refine Qc (z0 J (z7 J (by omega) (z1 J (zz ?_))))
   refine ⟨_,(by omega),(fun (i : Nat) (s2 : List Int) (g2 : List Bool) => (⟨_,[(0,.o (.c (.ptr 0 0))),(2,I (els w.Scores).length),(3,.o (.c (.ref 5))),(4,.o (.c (.ref 6))),(8,I (((els w.Scores).length + i : Nat) : Int))],[.box [.ref 1,jn w.Tick,jn w.Seed,.ref 2,.ref 3],.row 1 (els w.Level.Rows),.row 1 (els s2),.row 9 (els bs),.gh 0 (.c (.ptr 0 0)),.row 9 (els (w.Bodies.take w.Scores.length)),.row 1 (els g2)]⟩ : St)) (i + 1) (s2) (g2),⟨i + 1,s2,g2,J,⟨by omega,n1,gl_same hgl2 hgi (f2_step (by rw [itF_at hb]; exact n3))⟩,J⟩,X5 [0,1,2,3,4,5,6] (by decide) J (J) (.c J (.c J (.c J (.c J (.cons (Xw (by omega)) (.nil))))))⟩
  have f1 : decide (b.Kind ≠ 2) = false := decide_eq_false (fun q => q hK)
  have cm := S_l02Meets ⟨w.Level,w.Tick,w.Seed,s2,bs⟩ b (-1) (by simp only; omega) (by simp only; omega) (fun j p _ h => ((hSL.at_ j p h).1.placed hl).1) hpl
  simp only [hSs2] at cm
  refine Qd (zy (z0 J (z0 J (zx (Qz J J J) J (z2 J J J (z3 J (zx (Zr J J J J) J (z9a J (by assumption) (zz ?_)))))))));refine Qm J (Qh (Q0 (Qd (Qk (Qd (zy (z0 J (zx (Qz J J J) J (z2 J J J (z3 J ?_))))))))));refine z0 J (zx (Q3 J J J J J (by omega) (by omega)) J (zx (Zm J J J J (by decide)) J (zx (Q7 J J J J (by assumption) J) J (z9f J (by assumption) (zz (Ql J (Qh (Q0 (zy ?_)))))))));refine z0 J (z0 J (zx (Qz J J J) J (z2 J J J (z3 J (z0 J (zx (Q3 J J J J J (by omega) (by omega)) J (zx (Q6 J J J J (by assumption) J J) J ?_)))))));refine Xd (lo := [_,_,_,_]) (gs := [(0,.c (.ptr 0 0)),(6,.c (.ref 3))]) (lo' := [_,_,_,_]) (new := []) [0,1,2,3] [(0,0,.ptr 0 0),(1,0,.ref 3)] (cm) J J J J J J J J J J J J J J J J J ?_;refine z1 J (zz (zy (z0 J (zx (q_geq J J J J) J (zz ?_)))))
  refine AWP.pre (st' := (⟨_,[(0,.o (.c (.ptr 0 0))),(2,I (els w.Scores).length),(3,.o (.c (.ref 5))),(4,.o (.c (.ref 6))),(8,I (((els w.Scores).length + i : Nat) : Int)),(9,I (metI bs b (-1) w.Scores.length)),(134,B (decide (metI bs b (-1) w.Scores.length ≥ 0)))],[.box [.ref 1,jn w.Tick,jn w.Seed,.ref 2,.ref 3],.row 1 (els w.Level.Rows),.row 1 (els s2),.row 9 (els bs),.gh 0 (.c (.ptr 0 0)),.row 9 (els (w.Bodies.take w.Scores.length)),.row 1 (els g2)]⟩ : St)) ?_ (W_gj [0,1,2,3,4,5,6] J)
  cases hm : metF bs b (-1) w.Scores.length with
  | none =>
   obtain ⟨mi,hmi⟩ : ∃ mi : Int,metI bs b (-1) w.Scores.length = mi := ⟨_,rfl⟩
   rw [hmi]
   rw [met_no hm] at hmi
   have f2 : decide (mi ≥ 0) = false := decide_eq_false (by omega)
   rw [f2]
   obtain ⟨n1,_,n3⟩ := it_miss hb hm hs2 (lf := itL w.Scores.length bs (w.Bodies.drop w.Scores.length) i) rfl
   refine Ql J (Qh (Q1 (Q0 (Qc (z0 J (z7 J (by omega) (z1 J (zz ?_))))))))
   refine ⟨_,(by omega),(fun (i : Nat) (s2 : List Int) (g2 : List Bool) => (⟨_,[(0,.o (.c (.ptr 0 0))),(2,I (els w.Scores).length),(3,.o (.c (.ref 5))),(4,.o (.c (.ref 6))),(8,I (((els w.Scores).length + i : Nat) : Int))],[.box [.ref 1,jn w.Tick,jn w.Seed,.ref 2,.ref 3],.row 1 (els w.Level.Rows),.row 1 (els s2),.row 9 (els bs),.gh 0 (.c (.ptr 0 0)),.row 9 (els (w.Bodies.take w.Scores.length)),.row 1 (els g2)]⟩ : St)) (i + 1) (s2) (g2),⟨i + 1,s2,g2,J,⟨by omega,n1,gl_same hgl2 hgi (f2_step (by rw [itF_at hb]; exact n3))⟩,J⟩,X5 [0,1,2,3,4,5,6] (by decide) J (J) (.c J (.c J (.c J (.c J (.cons (Xw (by omega)) (.nil))))))⟩
  | some j =>
   rw [met_I hm]
   have f2 : decide ((j : Int) ≥ 0) = true := decide_eq_true (by omega)
   obtain ⟨hj,hc⟩ := metF_lt hm
   obtain ⟨s,hs1⟩ := Ka (xs := s2) (i := j) (by omega)
   have cp := S_l02Point ⟨w.Level,w.Tick,w.Seed,s2,bs⟩ j s hs1 (hSc2 s (List.mem_of_getElem? hs1))
   simp only at cp
   obtain ⟨n1,_,n3⟩ := it_hit hb hK hm hs2 (lf := itL w.Scores.length bs (w.Bodies.drop w.Scores.length) i) rfl
   have ng := gl_set (k := i) (g := fun j => shF w.Scores.length (w.Bodies.drop w.Scores.length) (w.Bodies,w.Scores) j || (decide (j < i + 1) && itF w.Scores.length (w.Bodies.drop w.Scores.length) bs j)) hgl2 hgi (by simp only [itF_at hb,n3,Bool.and_true]; rw [decide_eq_true (Nat.lt_succ_self i),Bool.or_true]) (fun j hj => f2_ne hj)
   refine Qm J (zy (z0 J (z0 J (zx (Q3 J J J J J (by omega) (by omega)) J ?_))));refine Xh J J J J J J J J J (by assumption) J J (zz (Qc (z0 J (z0 J ?_))));refine Xd (lo := [_,_,_,_]) (gs := [(0,.c (.ptr 0 0)),(5,.c (.ref 3))]) (lo' := [_,_,_,_]) (new := []) [0,1,2,3] [(0,0,.ptr 0 0),(1,0,.ref 3)] (cp) J J J J J J J J J J J J J J J J J ?_;refine Qe (Q1 (Q0 (Qc (z0 J (z7 J (by omega) (z1 J (zz ?_)))))))
   refine ⟨_,(by omega),(fun (i : Nat) (s2 : List Int) (g2 : List Bool) => (⟨_,[(0,.o (.c (.ptr 0 0))),(2,I (els w.Scores).length),(3,.o (.c (.ref 5))),(4,.o (.c (.ref 6))),(8,I (((els w.Scores).length + i : Nat) : Int))],[.box [.ref 1,jn w.Tick,jn w.Seed,.ref 2,.ref 3],.row 1 (els w.Level.Rows),.row 1 (els s2),.row 9 (els bs),.gh 0 (.c (.ptr 0 0)),.row 9 (els (w.Bodies.take w.Scores.length)),.row 1 (els g2)]⟩ : St)) (i + 1) (addM s2 j) (g2.set (w.Scores.length + i) true),⟨i + 1,addM s2 j,g2.set (w.Scores.length + i) true,J,⟨by omega,n1,ng⟩,J⟩,X5 [0,1,2,3,4,5,6] (by decide) J ((by exact rw6g st_gl)) (.c J (.c J (.c J (.c J (.cons (Xw (by omega)) (.nil))))))⟩
 have hb0 : decide ((((els w.Scores).length + i : Nat) : Int) < (els bs).length) = false := decide_eq_false (by omega)
 have hi2 : i = (w.Bodies.drop w.Scores.length).length := by omega
 rw [hi2] at hs2
 have hg4 : ∀ j,j < (w.Bodies.drop w.Scores.length).length → g2[w.Scores.length + j]? = some (shF w.Scores.length (w.Bodies.drop w.Scores.length) (w.Bodies,w.Scores) j || itF w.Scores.length (w.Bodies.drop w.Scores.length) bs j) := fun j h1 => by
  rw [hgi j h1 (by omega),decide_eq_true (by omega : j < i)]; simp
 have hlk : (els (w.Bodies.take w.Scores.length)).length = w.Scores.length := by rw [Yl,List.length_take]; omega
 have hcl : ((els bs).take ((els w.Scores).length : Int).toNat).length = (els (w.Bodies.take w.Scores.length)).length := by rw [hlk,List.length_take,Int.toNat_natCast]; omega
 refine Qd (zy (z0 J (z0 J (zx (Qz J J J) J (z2 J J J (z3 J (zx (Zr J J J J) J (z9a J (by assumption) (zz ?_)))))))));refine Ql J (Q9 (T_x (T_x (Xl (Q0 (zy (z0 J (z0 J (zx (Qz J J J) J (z2 J J J ?_))))))))));refine z3 J (z0 J (zx (q_partr0 J J J J J J (by omega)) J ?_));refine M_copy J J J J J J J J J J (fun e he => els_pl9 _ e (List.mem_of_mem_take he)) (fun e he => els_k9 _ e (List.mem_of_mem_take he)) hcl (by omega) ?_;refine zz (Qd (zy (z0 J (z1 J (zz (Qk ?_))))));refine A_lq (fun m__ st => ∃ (j : Nat) (kr : List TBody),(w.Bodies.drop w.Scores.length).length - j = m__ ∧ (j ≤ (w.Bodies.drop w.Scores.length).length ∧ kr = keepR w.Scores.length (w.Bodies.drop w.Scores.length) (w.Bodies,w.Scores) bs j) ∧ st = (⟨_,[(0,.o (.c (.ptr 0 0))),(2,I (els w.Scores).length),(3,.o (.c (.ref 5))),(4,.o (.c (.ref 6))),(10,I (((els w.Scores).length + j : Nat) : Int))],[.box [.ref 1,jn w.Tick,jn w.Seed,.ref 2,.ref 3],.row 1 (els w.Level.Rows),.row 1 (els s2),.row 9 (els bs),.gh 0 (.c (.ptr 0 0)),.row 9 (els (bs.take w.Scores.length ++ kr)),.row 1 (els g2)]⟩ : St)) _ ⟨(fun (j : Nat) (kr : List TBody) => (⟨_,[(0,.o (.c (.ptr 0 0))),(2,I (els w.Scores).length),(3,.o (.c (.ref 5))),(4,.o (.c (.ref 6))),(10,I (((els w.Scores).length + j : Nat) : Int))],[.box [.ref 1,jn w.Tick,jn w.Seed,.ref 2,.ref 3],.row 1 (els w.Level.Rows),.row 1 (els s2),.row 9 (els bs),.gh 0 (.c (.ptr 0 0)),.row 9 (els (bs.take w.Scores.length ++ kr)),.row 1 (els g2)]⟩ : St)) (0) ([]),⟨0,[],J,⟨by omega,J⟩,J⟩,X5 [0,1,2,3,4,5,6] (by decide) J ((by exact rw6 (by rw [List.append_nil,Yo,hls,Int.toNat_natCast]))) (.c J (.c J (.c J (.c J (.cons (Xw (by omega)) (.nil))))))⟩ ?_
 rintro m_C _ ⟨j,kr,hk_C,hp_C,rfl⟩
 obtain ⟨hj,hkr⟩ := hp_C
 have hlkr : (els (bs.take w.Scores.length ++ kr)).length = w.Scores.length + kr.length := by rw [Yl,List.length_append,List.length_take]; omega
 have hkl : kr.length ≤ j := by rw [hkr]; exact keepR_le j
 clear hb0
 by_cases hlt : j < (w.Bodies.drop w.Scores.length).length
 ·have hb0 : decide ((((els w.Scores).length + j : Nat) : Int) < (els bs).length) = true := decide_eq_true (by omega)
  obtain ⟨b,hb⟩ := Ka hlt
  have hbb : bs[w.Scores.length + j]? = some b := by rw [hSt _ (by omega),← List.getElem?_drop]; exact hb
  have hgj := hg4 j hlt
  have hnx : keepR w.Scores.length (w.Bodies.drop w.Scores.length) (w.Bodies,w.Scores) bs (j + 1) = if (shF w.Scores.length (w.Bodies.drop w.Scores.length) (w.Bodies,w.Scores) j || itF w.Scores.length (w.Bodies.drop w.Scores.length) bs j) = true then kr else kr ++ [b] := by
   rw [keepR,hb,hkr,itF,hb]
  have he := at_el hbb
  cases hf : (shF w.Scores.length (w.Bodies.drop w.Scores.length) (w.Bodies,w.Scores) j || itF w.Scores.length (w.Bodies.drop w.Scores.length) bs j) with
  | true =>
   rw [hf] at hgj hnx
   have heg := at_gl hgj
   refine Qd (zy (z0 J (z0 J (zx (Qz J J J) J (z2 J J J (z3 J (zx (Zr J J J J) J (z9a J (by assumption) (zz ?_)))))))));refine Qm J (Qh (Q0 (Qd (Qk (zy (z0 J (z0 J (zx (Q3 J J J J J (by omega) (by omega)) J (zx (Q7 J J J J (by assumption) J) J (zn J ?_))))))))));refine zz (Ql J (Qh (Q1 (Q0 (Qc (z0 J (z7 J (by omega) (z1 J (zz ?_)))))))))
   refine ⟨_,(by omega),(fun (j : Nat) (kr : List TBody) => (⟨_,[(0,.o (.c (.ptr 0 0))),(2,I (els w.Scores).length),(3,.o (.c (.ref 5))),(4,.o (.c (.ref 6))),(10,I (((els w.Scores).length + j : Nat) : Int))],[.box [.ref 1,jn w.Tick,jn w.Seed,.ref 2,.ref 3],.row 1 (els w.Level.Rows),.row 1 (els s2),.row 9 (els bs),.gh 0 (.c (.ptr 0 0)),.row 9 (els (bs.take w.Scores.length ++ kr)),.row 1 (els g2)]⟩ : St)) (j + 1) (kr),⟨j + 1,kr,J,⟨by omega,hnx.symm⟩,J⟩,X5 [0,1,2,3,4,5,6] (by decide) J (J) (.c J (.c J (.c J (.c J (.cons (Xw (by omega)) (.nil))))))⟩
  | false =>
   rw [hf] at hgj hnx
   have heg := at_gl hgj
   refine Qd (zy (z0 J (z0 J (zx (Qz J J J) J (z2 J J J (z3 J (zx (Zr J J J J) J (z9a J (by assumption) (zz ?_)))))))));refine Qm J (Qh (Q0 (Qd (Qk (zy (z0 J (z0 J (zx (Q3 J J J J J (by omega) (by omega)) J (zx (Q7 J J J J (by assumption) J) J (zn J ?_))))))))));refine zz (Qm J (Qc (z0 J (z0 J (zx (Qz J J J) J (z2 J J J (z3 J (z0 J (zx (Q3 J J J J J (by omega) (by omega)) J (zx (Q6 J J J J (by assumption) J J) J ?_))))))))));refine M1 (Zd J J J J J J) J J ?_;refine Xx J J J J J J J J J J J J J J (by omega) (by omega) ?_;refine z1 J (Qe (Q1 (Q0 (Qc (z0 J (z7 J (by omega) (z1 J (zz ?_))))))))
   refine ⟨_,(by omega),(fun (j : Nat) (kr : List TBody) => (⟨_,[(0,.o (.c (.ptr 0 0))),(2,I (els w.Scores).length),(3,.o (.c (.ref 5))),(4,.o (.c (.ref 6))),(10,I (((els w.Scores).length + j : Nat) : Int))],[.box [.ref 1,jn w.Tick,jn w.Seed,.ref 2,.ref 3],.row 1 (els w.Level.Rows),.row 1 (els s2),.row 9 (els bs),.gh 0 (.c (.ptr 0 0)),.row 9 (els (bs.take w.Scores.length ++ kr)),.row 1 (els g2)]⟩ : St)) (j + 1) (kr ++ [b]),⟨j + 1,kr ++ [b],J,⟨by omega,hnx.symm⟩,J⟩,X5 [0,1,2,3,4,5,6] (by decide) J ((by exact rw6 (by rw [← List.append_assoc,Yj]; rfl))) (.c J (.c J (.c J (.c J (.cons (Xw (by omega)) (.nil))))))⟩
 have hb0 : decide ((((els w.Scores).length + j : Nat) : Int) < (els bs).length) = false := decide_eq_false (by omega)
 have hj2 : j = (w.Bodies.drop w.Scores.length).length := by omega
 rw [hj2] at hkr
 have hres : hitsR w.Scores.length w.Bodies w.Scores = (bs.take w.Scores.length ++ kr,s2) := by
  simp only [hitsR,← hs]
  rw [← hkr,← hs2]
 rw [hres]
 refine Qd (zy (z0 J (z0 J (zx (Qz J J J) J (z2 J J J (z3 J (zx (Zr J J J J) J (z9a J (by assumption) (zz ?_)))))))));refine Ql J (Q9 (T_x (T_x (Xl (Q0 (Qc (z0 J (z0 J (zx (Qz J J J) J (z2 J J J ?_))))))))));refine Q5 J J J J J J J J (Qe (F_n ?_))
 exact Xo J (X3 [0,1,2,5,4] (by decide) J J J)
end
section
open Go.RowKit

instance : PlainE TBody := ⟨fun x t h => els_pl9 [x] (Enc.e x) (by simp [els]) t h⟩
theorem I_copyWorld (w : TWorld) (hg : Enc.gd w) (h1 : w.Level.Rows.length ≤ 1048576) (h2 : w.Scores.length ≤ 1048576) (h3 : w.Bodies.length ≤ 1048576) : Con Try.prog 33 [] [ag w] [.row 1 (els w.Level.Rows),.row 1 (els w.Scores),.row 9 (els w.Bodies)] (.o (.ag [.ref 0,jn w.Tick,jn w.Seed,.ref 1,.ref 2])) := by
 have hls := Yl w.Scores
 have hlb := Yl w.Bodies
 refine Con.of Try.func33 J Try.ntmps33 J (fun E => ?_)
 refine zy (M1 (Qq J J J J) J J (M1 (Qx J J J) J J (zz (zy (z2 J J J (z4 J J J ?_))))));refine M1 (Zi J J (I_copyLevel w.Level hg.1 h1) J J J) J J ?_;refine z2 J J J ?_;refine Qy J J J J J J J J J (zz (zy (z2 J J J (z3 J ?_))));refine M_appnil J J J J J J J J (Ym _) (els_k _) (by omega) (by omega) ?_;refine z2 J J J ?_;refine Q5 J J J J J J J J (zz (zy (z2 J J J (z3 J ?_))));refine M_appnil J J J J J J J J (Ym _) (els_k _) (by omega) (by omega) ?_;refine z2 J J J ?_;refine Q5 J J J J J J J J (zz (zy (z4 J J J ?_)));refine Qy J J J J J J J J J (zz (Xa (F_r ?_)))
 exact Xm J J J J (X3 [2,3,4] (by decide) J J J)
theorem S_copyWorld (w : TWorld) (hg : Enc.gd w) (h1 : w.Level.Rows.length ≤ 1048576) (h2 : w.Scores.length ≤ 1048576) (h3 : w.Bodies.length ≤ 1048576) : Con Try.prog 24 [] [ag w] [.row 1 (els w.Level.Rows),.row 1 (els w.Scores),.row 9 (els w.Bodies)] (.o (.ag [.ref 0,jn w.Tick,jn w.Seed,.ref 1,.ref 2])) := by
 have hls := Yl w.Scores
 have hlb := Yl w.Bodies
 have h00 : ([] : List (List T)).length = 0 := rfl
 refine Con.of Try.func24 J Try.ntmps24 J (fun E => ?_)
 refine zy (M1 (Qq J J J J) J J (M1 (Qx J J J) J J (zz (zy (z2 J J J (z4 J J J ?_))))));refine M1 (Zi J J (S_copyLevel w.Level hg.1 h1) J J J) J J ?_;refine z2 J J J ?_;refine Qy J J J J J J J J J (zz (zy (M1 (Ze J J J) J J (z2 J J J (z3 J ?_)))));refine M_app J J J J J J J J J J (Ym _) (els_k _) (by omega) (by omega) ?_;refine z2 J J J ?_;refine Q5 J J J J J J J J (zz (zy (M1 (Ze J J J) J J (z2 J J J (z3 J ?_)))));refine M_app J J J J J J J J J J (Ym _) (els_k _) (by omega) (by omega) ?_;refine z2 J J J ?_;refine Q5 J J J J J J J J (zz (zy (z4 J J J ?_)));refine Qy J J J J J J J J J (zz (Xa (F_r ?_)))
 exact Xm J J J J (X3 [2,3,4] (by decide) J J J)
end
section
open Go.RowKit

theorem step_T {w : TWorld} {row : List Int} (h : worldOk w = true ∧ w.Tick ≠ 100000 ∧ rowOk row w.Scores.length = true) : stepW w row = tickM w row := by rw [stepW,if_pos h]
theorem step_F {w : TWorld} {row : List Int} (h : ¬ (worldOk w = true ∧ w.Tick ≠ 100000 ∧ rowOk row w.Scores.length = true)) : stepW w row = w := by rw [stepW,if_neg h]
theorem last_1 {l : TLevel} {tick seed : Int} {ss : List Int} {bs : List TBody} (h : tick % 16 ≠ 0 ∨ (spotsM l).length = 0 ∨ 24 ≤ bs.length) : lastM l tick seed ss bs = ⟨l,tick,seed,ss,bs⟩ := by rw [lastM,if_pos h]
theorem last_2 {l : TLevel} {tick seed : Int} {ss : List Int} {bs : List TBody} {x y : Int} (h : ¬ (tick % 16 ≠ 0 ∨ (spotsM l).length = 0 ∨ 24 ≤ bs.length)) (hs : spotOf l seed = [x,y]) (hi : itemAt bs x y = true) : lastM l tick seed ss bs = ⟨l,tick,nextR seed,ss,bs⟩ := by
 rw [lastM,if_neg h,hs]
 exact if_pos hi
theorem last_3 {l : TLevel} {tick seed : Int} {ss : List Int} {bs : List TBody} {x y : Int} (h : ¬ (tick % 16 ≠ 0 ∨ (spotsM l).length = 0 ∨ 24 ≤ bs.length)) (hs : spotOf l seed = [x,y]) (hi : itemAt bs x y = false) : lastM l tick seed ss bs = ⟨l,tick,nextR seed,ss,bs ++ [itemB x y]⟩ := by
 rw [lastM,if_neg h,hs]
 exact if_neg (by show ¬ itemAt bs x y = true; rw [hi]; simp)
theorem at_hit {bs : List TBody} {x y : Int} {k : Nat} {b : TBody} (hb : bs[k]? = some b) (h : b.Kind = 2 ∧ b.X = x ∧ b.Y = y) : itemAt bs x y = true := by
 rw [itemAt,List.any_eq_true]
 exact ⟨b,List.mem_of_getElem? hb,decide_eq_true h⟩
theorem at_go {bs : List TBody} {x y : Int} {k : Nat} {b : TBody} (hb : bs[k]? = some b) (h : ¬ (b.Kind = 2 ∧ b.X = x ∧ b.Y = y)) (hi : itemAt (bs.take k) x y = false) : itemAt (bs.take (k + 1)) x y = false := by
 obtain ⟨hk,rfl⟩ := List.getElem?_eq_some_iff.1 hb
 rw [List.take_succ_eq_append_getElem hk,itemAt,List.any_append,← itemAt,hi]
 simp only [List.any_cons,List.any_nil,Bool.or_false,Bool.false_or]
 exact decide_eq_false h
theorem rwS2 {a b : Ob} {t : List Ob} {k : Nat} {x y : List (List T)} (h : x = y) : a :: b :: Ob.row k x :: t = a :: b :: Ob.row k y :: t := by rw [h]
theorem I_StepWorld (w : TWorld) (row : List Int) (hg : Enc.gd w) (gr : Enc.gd row) (h1 : w.Level.Rows.length ≤ 1048576) (h2 : w.Scores.length ≤ 1048576) (h3 : w.Bodies.length ≤ 1048576) : Con Try.prog 61 [] [ag w,al row] [.row 1 (els w.Level.Rows),.row 1 (els (stepW w row).Scores),.row 9 (els (stepW w row).Bodies)] (.o (.ag [.ref 0,jn (stepW w row).Tick,jn (stepW w row).Seed,.ref 1,.ref 2])) := by
 have hls := Yl w.Scores
 have hlb := Yl w.Bodies
 have c1 := I_copyWorld w hg h1 h2 h3
 have c2 := I_WorldOk w hg
 have c3 := I_rowOk row ((els w.Scores).length : Int) gr
 rw [show rowOk row ((els w.Scores).length : Int) = rowOk row (w.Scores.length : Int) by rw [hls]] at c3
 cases ho : worldOk w with
 | false =>
  rw [step_F (fun q => by rw [ho] at q; cases q.1)]
  rw [ho] at c2
  refine Con.of Try.func61 J Try.ntmps61 J (fun E => ?_)
  refine zy (M1 (Qq J J J J) J J (M1 (Qx J J J) J J (zz (zy (z4 J J J ?_)))));refine M1 (Zi J J (c1) J J J) J J ?_;refine M1 (Qx J J J) J J ?_;refine Qy J J J J J J J J J (zz (Qd (zy (z4 J J J ?_))));refine zx (Qj J J (c2) J) J ?_;refine zn J (z0 J (z6 J (z6 J (z6 J (zpT J (z0 J (z6 J (z6 J (z6 J (z6 J (z6 J ?_)))))))))));refine z6 J (zpT J (zz (Qm J (zy (z4 J J J ?_)))));refine Qy J J J J J J J J J (zz (Xa (T_r (F_r ?_))))
  exact Xm J J J J (X3 [2,3,4] (by decide) J J J)
 | true =>
 rw [ho] at c2
 by_cases ht : w.Tick = 100000
 ·have f1 : decide (w.Tick = 100000) = true := decide_eq_true ht
  rw [step_F (fun q => q.2.1 ht)]
  refine Con.of Try.func61 J Try.ntmps61 J (fun E => ?_)
  refine zy (M1 (Qq J J J J) J J (M1 (Qx J J J) J J (zz (zy (z4 J J J ?_)))));refine M1 (Zi J J (c1) J J J) J J ?_;refine M1 (Qx J J J) J J ?_;refine Qy J J J J J J J J J (zz (Qd (zy (z4 J J J ?_))));refine zx (Qj J J (c2) J) J ?_;refine zn J (z0 J (z5 J (z2 J J J (z5 J (z3 J (z5 J (z9e J (by assumption) (zpF J (z0 J (z6 J (z6 J ?_)))))))))));refine z6 J (z6 J (z6 J (z6 J (zpT J (zz (Qm J (zy (z4 J J J ?_))))))));refine Qy J J J J J J J J J (zz (Xa (T_r (F_r ?_))))
  exact Xm J J J J (X3 [2,3,4] (by decide) J J J)
 have f1 : decide (w.Tick = 100000) = false := decide_eq_false ht
 cases hr : rowOk row (w.Scores.length : Int) with
 | false =>
  rw [step_F (fun q => by rw [hr] at q; cases q.2.2)]
  rw [hr] at c3
  refine Con.of Try.func61 J Try.ntmps61 J (fun E => ?_)
  refine zy (M1 (Qq J J J J) J J (M1 (Qx J J J) J J (zz (zy (z4 J J J ?_)))));refine M1 (Zi J J (c1) J J J) J J ?_;refine M1 (Qx J J J) J J ?_;refine Qy J J J J J J J J J (zz (Qd (zy (z4 J J J ?_))));refine zx (Qj J J (c2) J) J ?_;refine zn J (z0 J (z5 J (z2 J J J (z5 J (z3 J (z5 J (z9e J (by assumption) (zpF J (z0 J (z5 J (z0 J ?_)))))))))));refine z5 J (z2 J J J (z5 J (z3 J (z5 J (zx (Zq J J J) J (z5 J ?_))))));refine zx (Qj J J (c3) J) J ?_;refine z5 J (zn J (zpF J (zz (Qm J (zy (z4 J J J ?_))))));refine Qy J J J J J J J J J (zz (Xa (T_r (F_r ?_))))
  exact Xm J J J J (X3 [2,3,4] (by decide) J J J)
 | true =>
 rw [hr] at c3
 rw [step_T ⟨ho,ht,hr⟩]
 have hP := PH.of hg ho hr
 have hsr := Z6 ho
 have hM := hits_lm hP.mv rfl hsr
 have hSh := SI.shots hP.mv rfl hsr
 have hSI := (SI.start hP.mv rfl hsr).all ((movedM w row).drop w.Scores.length) ((movedM w row).drop w.Scores.length).length
 have hEq := hits_eq hP.mv rfl hsr
 obtain ⟨hl,htk,hsd,hn,_,hlen,hbo⟩ := Ke ho
 have htk := Yy.1 htk
 have hsd := Yy.1 hsd
 have d1 := I_stepPlayers w row hP
 have d2 := I_stepMoves ⟨w.Level,w.Tick,w.Seed,w.Scores,plM w.Level row w.Bodies w.Scores.length⟩ hg.1 hl hP.pl.lm hP.pl.tm
 have d3 := I_stepShots ⟨w.Level,w.Tick,w.Seed,w.Scores,movedM w row⟩ hg.1 hl hn hP.mv hsr
 have hsl := hSI.sl
 have hsc := hSI.sc
 simp only at d2 d3
 obtain ⟨s3,hs3⟩ : ∃ s3,s3 = (shS w.Scores.length ((movedM w row).drop w.Scores.length) (movedM w row,w.Scores) ((movedM w row).drop w.Scores.length).length).2 := ⟨_,rfl⟩
 obtain ⟨b3,hb3⟩ : ∃ b3,b3 = (shS w.Scores.length ((movedM w row).drop w.Scores.length) (movedM w row,w.Scores) ((movedM w row).drop w.Scores.length).length).1.take w.Scores.length ++ shL w.Scores.length ((movedM w row).drop w.Scores.length) (movedM w row,w.Scores) ((movedM w row).drop w.Scores.length).length := ⟨_,rfl⟩
 have hP2 : hitsP w.Scores.length (movedM w row) w.Scores = (b3.take w.Scores.length ++ itL w.Scores.length b3 (b3.drop w.Scores.length) (b3.drop w.Scores.length).length,itS w.Scores.length b3 (b3.drop w.Scores.length) s3 (b3.drop w.Scores.length).length) := by rw [hitsP,hs3,hb3]
 rw [← hs3] at d3 hsl hsc
 rw [← hb3] at d3 hSh
 have d4 := I_stepItems ⟨w.Level,w.Tick,w.Seed,s3,b3⟩ hg.1 hl (by simp only; omega) (by simp only; rw [hsl]; exact hSh) hsc
 simp only at d4
 rw [hsl] at d4
 obtain ⟨s4,hs4⟩ : ∃ s4,s4 = itS w.Scores.length b3 (b3.drop w.Scores.length) s3 (b3.drop w.Scores.length).length := ⟨_,rfl⟩
 obtain ⟨b4,hb4⟩ : ∃ b4,b4 = b3.take w.Scores.length ++ itL w.Scores.length b3 (b3.drop w.Scores.length) (b3.drop w.Scores.length).length := ⟨_,rfl⟩
 rw [← hs4,← hb4] at d4
 rw [← hs4,← hb4,hEq] at hP2
 rw [tickM,hP2]
 rw [hP2] at hM
 obtain ⟨hM1,hM2,hM3⟩ := hM
 simp only at hM1 hM2 hM3
 have e1 := I_NextRandom w.Seed ⟨by omega,by omega⟩
 have e2 := I_SpotsOf w.Level hg.1 hl
 have hlb4 := Yl b4
 have hbl := hM1.len
 have hlsp := Yl (spotsM w.Level)
 have hsl2 := spots_len hl
 have hnr := Y4 w.Seed
 clear hEq hP2 hSI hSh hb4 hs4 hb3 hs3 hbo hsl hsc
 refine Con.of Try.func61 J Try.ntmps61 J (fun E => ?_)
 refine zy (M1 (Qq J J J J) J J (M1 (Qx J J J) J J (zz (zy (z4 J J J ?_)))));refine M1 (Zi J J (c1) J J J) J J ?_;refine M1 (Qx J J J) J J ?_;refine Qy J J J J J J J J J (zz (Qd (zy (z4 J J J ?_))));refine zx (Qj J J (c2) J) J ?_;refine zn J (z0 J (z5 J (z2 J J J (z5 J (z3 J (z5 J (z9e J (by assumption) (zpF J (z0 J (z5 J (z0 J ?_)))))))))));refine z5 J (z2 J J J (z5 J (z3 J (z5 J (zx (Zq J J J) J (z5 J ?_))))));refine zx (Qj J J (c3) J) J ?_;refine z5 J (zn J (zpF J (zz (Ql J (Qh (Q0 (zy (z0 J ?_))))))));refine AL.weak (st' := (⟨_,[(1,L row),(4,.o (.c (.ptr 4 0))),(5,.o (.c (.ptr 0 0))),(32,L row)],[.box [.ref 1,jn w.Tick,jn w.Seed,.ref 2,.ref 3],.row 1 (els w.Level.Rows),.row 1 (els w.Scores),.row 9 (els w.Bodies),.box [nilV,jn 0,jn 0,nilV,nilV]]⟩ : St)) (W_gj [5,2,3,4,1] J) ?_
 clear c1 c2 c3 f1
 refine Xd (lo := [_,_,_,_]) (gs := [(0,.c (.ptr 0 0))]) (lo' := [_,_,_,_]) (new := []) [0,1,2,3] [(0,0,.ptr 0 0)] (d1) J J J J J J J J J J J J J J J J J ?_;refine zz (zy ?_);refine AL.weak (st' := (⟨_,[(1,L row),(4,.o (.c (.ptr 4 0))),(5,.o (.c (.ptr 0 0)))],[.box [.ref 1,jn w.Tick,jn w.Seed,.ref 2,.ref 3],.row 1 (els w.Level.Rows),.row 1 (els w.Scores),.row 9 (els (plM w.Level row w.Bodies w.Scores.length)),.box [nilV,jn 0,jn 0,nilV,nilV]]⟩ : St)) (W_gj [0,1,2,3,4] J) ?_
 clear d1
 refine Xd (lo := [_,_,_,_]) (gs := [(0,.c (.ptr 0 0))]) (lo' := [_,_,_,_]) (new := []) [0,1,2,3] [(0,0,.ptr 0 0)] (d2) J J J J J J J J J J J J J J J J J ?_;refine zz (zy ?_);refine AL.weak (st' := (⟨_,[(1,L row),(4,.o (.c (.ptr 4 0))),(5,.o (.c (.ptr 0 0)))],[.box [.ref 1,jn w.Tick,jn w.Seed,.ref 2,.ref 3],.row 1 (els w.Level.Rows),.row 1 (els w.Scores),.row 9 (els (movedM w row)),.box [nilV,jn 0,jn 0,nilV,nilV]]⟩ : St)) (W_gj [0,1,2,3,4] J) ?_
 clear d2
 refine Xd (lo := [_,_,_,_]) (gs := [(0,.c (.ptr 0 0))]) (lo' := [_,_,_,_]) (new := []) [0,1,2,3] [(0,0,.ptr 0 0)] (d3) J J J J J J J J J J J J J J J J J ?_;refine zz (zy ?_);refine AL.weak (st' := (⟨_,[(1,L row),(4,.o (.c (.ptr 4 0))),(5,.o (.c (.ptr 0 0)))],[.box [.ref 1,jn w.Tick,jn w.Seed,.ref 2,.ref 3],.row 1 (els w.Level.Rows),.row 1 (els s3),.row 9 (els b3),.box [nilV,jn 0,jn 0,nilV,nilV]]⟩ : St)) (W_gj [0,1,2,3,4] J) ?_
 clear d3
 refine Xd (lo := [_,_,_,_]) (gs := [(0,.c (.ptr 0 0))]) (lo' := [_,_,_,_]) (new := []) [0,1,2,3] [(0,0,.ptr 0 0)] (d4) J J J J J J J J J J J J J J J J J ?_;refine zz (zy (z2 J J J (z3 J (z7 J (by omega) (z2 J J J ?_)))));refine Q5 J J J J J J J J (zz (zy (z2 J J J (z3 J ?_))));refine AL.weak (st' := (⟨_,[(1,L row),(4,.o (.c (.ptr 4 0))),(5,.o (.c (.ptr 0 0))),(42,I w.Seed)],[.box [.ref 1,jn (w.Tick + 1),jn w.Seed,.ref 2,.ref 3],.row 1 (els w.Level.Rows),.row 1 (els s4),.row 9 (els b4),.box [nilV,jn 0,jn 0,nilV,nilV]]⟩ : St)) (W_gj [0,1,2,3,4] J) ?_
 clear d4
 refine zx (Qj J J (e1) J) J ?_;refine z2 J J J ?_;refine Q5 J J J J J J J J (zz (zy (z2 J J J (z4 J J J ?_))));refine AL.weak (st' := (⟨_,[(1,L row),(4,.o (.c (.ptr 4 0))),(5,.o (.c (.ptr 0 0))),(46,.o (.ag [.ref 1]))],[.box [.ref 1,jn (w.Tick + 1),jn (nextR w.Seed),.ref 2,.ref 3],.row 1 (els w.Level.Rows),.row 1 (els s4),.row 9 (els b4),.box [nilV,jn 0,jn 0,nilV,nilV]]⟩ : St)) (W_gj [0,1,2,3,4] J) ?_
 clear e1
 obtain ⟨sd,hsd2⟩ : ∃ sd,sd = nextR w.Seed := ⟨_,rfl⟩
 rw [← hsd2] at hnr
 rw [← hsd2]
 by_cases q1 : (w.Tick + 1) % 16 ≠ 0
 ·have g1 : decide ((w.Tick + 1) % 16 ≠ 0) = true := decide_eq_true q1
  rw [last_1 (.inl q1)]
  refine M1 (Zi J J (e2) J J J) J J ?_;refine z1 J (zz (Qd (zy (z2 J J J (z3 J (zx (Zz J J J J (by omega)) J (z9f J (by assumption) (z0 J (z6 J ?_)))))))));refine z6 J (z6 J (zpT J (z0 J (z6 J (z6 J (z6 J (z6 J (zpT J (zz (Qm J ?_))))))))));refine zy (z4 J J J ?_);refine Qy J J J J J J J J J (zz (Xa (T_r (F_r ?_))))
  exact Xm J J J J (X3 [1,2,3] (by decide) J J J)
 have g1 : decide ((w.Tick + 1) % 16 ≠ 0) = false := decide_eq_false q1
 by_cases q2 : (spotsM w.Level).length = 0
 ·have g2 : decide (((els (spotsM w.Level)).length : Int) = 0) = true := decide_eq_true (by omega)
  rw [last_1 (.inr (.inl q2))]
  refine M1 (Zi J J (e2) J J J) J J ?_;refine z1 J (zz (Qd (zy (z2 J J J (z3 J (zx (Zz J J J J (by omega)) J (z9f J (by assumption) (z0 J (z5 J ?_)))))))));refine z0 J (z5 J (zx (Zr J J J J) J (z5 J (z9e J (by assumption) (zpF J (z0 J (z6 J (z6 J (z6 J (z6 J (zpT J ?_)))))))))));refine zz (Qm J (zy (z4 J J J ?_)));refine Qy J J J J J J J J J (zz (Xa (T_r (F_r ?_))))
  exact Xm J J J J (X3 [1,2,3] (by decide) J J J)
 have g2 : decide (((els (spotsM w.Level)).length : Int) = 0) = false := decide_eq_false (by omega)
 by_cases q3 : 24 ≤ b4.length
 ·have g3 : decide (((els b4).length : Int) ≥ 24) = true := decide_eq_true (by omega)
  rw [last_1 (.inr (.inr q3))]
  refine M1 (Zi J J (e2) J J J) J J ?_;refine z1 J (zz (Qd (zy (z2 J J J (z3 J (zx (Zz J J J J (by omega)) J (z9f J (by assumption) (z0 J (z5 J ?_)))))))));refine z0 J (z5 J (zx (Zr J J J J) J (z5 J (z9e J (by assumption) (zpF J (z0 J (z5 J (z2 J J J (z5 J (z3 J (z5 J ?_)))))))))));refine zx (Zr J J J J) J (z5 J (z9d J (by assumption) (zpF J (zz (Qm J (zy (z4 J J J ?_)))))));refine Qy J J J J J J J J J (zz (Xa (T_r (F_r ?_))))
  exact Xm J J J J (X3 [1,2,3] (by decide) J J J)
 have g3 : decide (((els b4).length : Int) ≥ 24) = false := decide_eq_false (by omega)
 have q : ¬ ((w.Tick + 1) % 16 ≠ 0 ∨ (spotsM w.Level).length = 0 ∨ 24 ≤ b4.length) := fun h => h.elim q1 fun h => h.elim q2 q3
 obtain ⟨i,hi1,hi2,hi3⟩ := spotOf_mem (seed := sd) q2
 obtain ⟨x,y,hxy,hx,hy⟩ := spot_rng hl (List.mem_of_getElem? hi3)
 have e3 := I_RandomBelow sd ((els (spotsM w.Level)).length : Int) hnr ⟨by omega,by omega⟩
 rw [show belowR sd ((els (spotsM w.Level)).length : Int) = i by rw [hlsp]; exact hi1] at e3
 have hsp : (els (spotsM w.Level))[(i : Int).toNat]? = some (Enc.e [x,y]) := Yn (by rw [hi3,hxy])
 refine M1 (Zi J J (e2) J J J) J J ?_;refine z1 J (zz (Qd (zy (z2 J J J (z3 J (zx (Zz J J J J (by omega)) J (z9f J (by assumption) (z0 J (z5 J ?_)))))))));refine z0 J (z5 J (zx (Zr J J J J) J (z5 J (z9e J (by assumption) (zpF J (z0 J (z5 J (z2 J J J (z5 J (z3 J (z5 J ?_)))))))))));refine zx (Zr J J J J) J (z5 J (z9d J (by assumption) (zpF J (zz (Ql J (Qh (Q0 (zy (z2 J J J ?_)))))))));refine z3 J (z0 J (zx (Zr J J J J) J ?_));refine M1 (Zi J J (e3) J J J) J J ?_;refine zx (Q8 J J J) J (ze J (ze J (z1 J (z1 J (zz (zy (z0 J (z2 J J J ?_))))))));refine Q5 J J J J J J J J (zz (zy (z0 J (z0 J (zx (Q3 J J J J J (by omega) (by omega)) J (zx (Q7 J J J J (by assumption) J) J ?_))))));refine AL.weak (st' := (⟨_,[(4,.o (.c (.ptr 4 0))),(5,.o (.c (.ptr 0 0))),(6,.o (.c (.ref 5))),(8,I (i : Int)),(77,.o (.c (.rd [5] (.sl 1 (els [x,y])))))],[.box [.ref 1,jn (w.Tick + 1),jn (nextR sd),.ref 2,.ref 3],.row 1 (els w.Level.Rows),.row 1 (els s4),.row 9 (els b4),.box [nilV,jn 0,jn 0,nilV,nilV],.row 1 (els (spotsM w.Level))]⟩ : St)) (W_gj [0,1,2,3,4,5] J) ?_
 clear e2 e3 g1 g2 g3
 have hx0 : (els [x,y])[(0 : Int).toNat]? = some (Enc.e x) := rfl
 have hy0 : (els [x,y])[(1 : Int).toNat]? = some (Enc.e y) := rfl
 refine zx (Q2 J J J J (by omega) (by assumption) J) J (zx (Zu J J J J) J (z1 J (zz (zy (z0 J (z0 J (zx (Q3 J J J J J (by omega) (by omega)) J (zx (Q7 J J J J (by assumption) J) J (zx (Q2 J J J J (by omega) (by assumption) J) J ?_)))))))));refine zx (Zu J J J J) J (z1 J (zz (Qd (zy (z2 J J J (z3 J (zx (Zr J J J J) J (z0 J (Qe ?_)))))))));refine Q0 (Qk ?_);refine A_lq (fun m st => ∃ k : Nat,k + m = b4.length ∧ (itemAt (b4.take k) x y = false) ∧ st = (⟨_,[(4,.o (.c (.ptr 4 0))),(5,.o (.c (.ptr 0 0))),(9,I x),(10,I y),(87,.o (.c (.ref 3))),(88,I (els b4).length),(89,I k)],[.box [.ref 1,jn (w.Tick + 1),jn (nextR sd),.ref 2,.ref 3],.row 1 (els w.Level.Rows),.row 1 (els s4),.row 9 (els b4),.box [nilV,jn 0,jn 0,nilV,nilV]]⟩ : St)) (b4.length) ⟨_,⟨0,by omega,J,J⟩,W_gj [0,1,2,3,4] J⟩ ?_
 rintro m_A _ ⟨k,hk_A,hp_A,rfl⟩
 by_cases hlt : k < b4.length
 ·have hb0 : decide ((k : Int) < (els b4).length) = true := decide_eq_true (by omega)
  obtain ⟨b,hb⟩ := Ka hlt
  refine zy (z9a J (by assumption) (zz (Qd (Qm J (Qh (Q0 (Qd (Qk (Qd ?_)))))))));refine Qc (zx (Q3 J J J J J (by omega) (by omega)) J ?_)
  have he := Yn hb
  with_reducible refine Xf ?_
  refine zx (Q6 J J J J (by assumption) J J) J ?_
  with_reducible refine K_alloc ?_
  refine M1 (Qx J J J) J J ?_
  with_reducible refine Xe ?_
  refine Qy J J J J J J J J J (zz ?_)
  refine AWP.pre (st' := (⟨_,[(4,.o (.c (.ptr 4 0))),(5,.o (.c (.ptr 0 0))),(9,I x),(10,I y),(87,.o (.c (.ref 3))),(88,I (els b4).length),(89,I k),(12,.o (.c (.ptr 5 0)))],[.box [.ref 1,jn (w.Tick + 1),jn (nextR sd),.ref 2,.ref 3],.row 1 (els w.Level.Rows),.row 1 (els s4),.row 9 (els b4),.box [nilV,jn 0,jn 0,nilV,nilV],.box ((Enc.e b).map (V1.rd []))]⟩ : St)) ?_ (W_gj [0,1,2,3,4,5] J)
  clear he
  by_cases k1 : b.Kind = 2
  case neg =>
   have p1 : decide (b.Kind = 2) = false := decide_eq_false k1
   refine zy (z2 J J J (z3 J (z9e J (by assumption) (z0 J (z6 J (z6 J (z6 J (z6 J (zpF J (z0 J ?_))))))))));refine z6 J (z6 J (z6 J (z6 J (zpF J (zz (Ql J (Qh (Q1 (Q0 (Qc ?_))))))))));refine z7 J (by omega) (z0 J (zz ?_))
   exact ⟨b4.length - (k + 1),by omega,_,⟨k + 1,by omega,at_go hb (fun h => k1 h.1) hp_A,J⟩,W_gj [0,1,2,3,4] J⟩
  have p1 : decide (b.Kind = 2) = true := decide_eq_true k1
  by_cases k2 : b.X = x
  case neg =>
   have p2 : decide (b.X = x) = false := decide_eq_false k2
   refine zy (z2 J J J (z3 J (z9e J (by assumption) (z0 J (z5 J (z2 J J J (z5 J (z3 J (z5 J (z0 J ?_))))))))));refine z5 J (z9e J (by assumption) (zpT J (z0 J (z6 J (z6 J (z6 J (z6 J (zpF J (zz (Ql J ?_))))))))));refine Qh (Q1 (Q0 (Qc (z7 J (by omega) (z0 J (zz ?_))))))
   exact ⟨b4.length - (k + 1),by omega,_,⟨k + 1,by omega,at_go hb (fun h => k2 h.2.1) hp_A,J⟩,W_gj [0,1,2,3,4] J⟩
  have p2 : decide (b.X = x) = true := decide_eq_true k2
  by_cases k3 : b.Y = y
  case neg =>
   have p3 : decide (b.Y = y) = false := decide_eq_false k3
   refine zy (z2 J J J (z3 J (z9e J (by assumption) (z0 J (z5 J (z2 J J J (z5 J (z3 J (z5 J (z0 J ?_))))))))));refine z5 J (z9e J (by assumption) (zpT J (z0 J (z5 J (z2 J J J (z5 J (z3 J (z5 J (z0 J (z5 J (z9e J (by assumption) ?_)))))))))));refine zpT J (zz (Ql J (Qh (Q1 (Q0 (Qc (z7 J (by omega) (z0 J (zz ?_)))))))))
   exact ⟨b4.length - (k + 1),by omega,_,⟨k + 1,by omega,at_go hb (fun h => k3 h.2.2) hp_A,J⟩,W_gj [0,1,2,3,4] J⟩
  have p3 : decide (b.Y = y) = true := decide_eq_true k3
  rw [last_2 q hxy (at_hit hb ⟨k1,k2,k3⟩)]
  refine zy (z2 J J J (z3 J (z9e J (by assumption) (z0 J (z5 J (z2 J J J (z5 J (z3 J (z5 J (z0 J ?_))))))))));refine z5 J (z9e J (by assumption) (zpT J (z0 J (z5 J (z2 J J J (z5 J (z3 J (z5 J (z0 J (z5 J (z9e J (by assumption) ?_)))))))))));refine zpT J (zz (Qm J (zy (z4 J J J ?_))));refine Qy J J J J J J J J J (zz (Xa (B_r (T_r (T_r (B_r (T_r (F_r ?_))))))))
  exact Xm J J J J (X3 [1,2,3] (by decide) J J J)
 ·have hb0 : decide ((k : Int) < (els b4).length) = false := decide_eq_false (by omega)
  have hk : k = b4.length := by omega
  rw [hk,List.take_length] at hp_A
  rw [last_3 q hxy hp_A]
  refine zy (z9a J (by assumption) (zz (Qd (Ql J (Q9 (T_x (T_x (Xl (Q0 ?_)))))))));refine zy (z2 J J J (z3 J (z0 J (z0 J (zx (Zf J J J J J) J (M1 (Zd J J J J J J) J J ?_))))));refine Xx J J J J J J J J J J J J J J (by omega) (by omega) ?_;refine z2 J J J ?_;refine Q5 J J J J J J J J (zz (zy (z4 J J J ?_)));refine Qy J J J J J J J J J (zz (Xa (F_r ?_)))
  exact Xm J J J J (X3 [1,2,3] (by decide) J (by exact rwS2 (by rw [Yj]; rfl)) J)
end
section
open Go.RowKit

theorem mv_two {l : TLevel} {b : TBody} (h : b.Kind = 2) : mvOne l b = some b := by rw [mvOne,if_neg (by omega),if_neg (by omega)]
theorem mv_dead {l : TLevel} {b : TBody} (h : b.Kind = 0) (h1 : b.Life = 0) : mvOne l b = some b := by rw [mvOne,if_neg (by omega),if_neg (by omega)]
theorem at_pl {l : TLevel} {n : Nat} {bs : List TBody} (h : LM l n bs) (x y : Int) : itemAt (bs.take n) x y = false := by
 rw [itemAt,List.any_eq_false]
 intro b hb
 obtain ⟨j,hj⟩ := List.getElem?_of_mem hb
 rw [List.getElem?_take] at hj
 split at hj
 ·have := (h.at_ j b hj).2.2 (by assumption)
  simp only [isItem,decide_eq_true_eq]
  omega
 ·cases hj
theorem S_l02Step (w : TWorld) (row : List Int) (hg : Enc.gd w) (ho : worldOk w = true) (ht : w.Tick ≠ 100000) (hr : rowOk row w.Scores.length = true) : Con Try.prog 52 [.box [.ref 1,jn w.Tick,jn w.Seed,.ref 2,.ref 3],.row 1 (els w.Level.Rows),.row 1 (els w.Scores),.row 9 (els w.Bodies),.gh 0 (.c (.ptr 0 0))] [.c (.ptr 0 0),al row] [.box [.ref 1,jn (tickM w row).Tick,jn (tickM w row).Seed,.ref 2,.ref 3],.row 1 (els w.Level.Rows),.row 1 (els (tickM w row).Scores),.row 9 (els (tickM w row).Bodies),.gh 0 (.c (.ptr 0 0))] (.tu []) := by
 have hP := PH.of hg ho hr
 have hsr := Z6 ho
 have hM := hits_lm hP.mv rfl hsr
 obtain ⟨hl,htk,hsd,hn,_,_,_⟩ := Ke ho
 have htk := Yy.1 htk
 have hsd := Yy.1 hsd
 have d1 := S_l02Hits ⟨w.Level,w.Tick,w.Seed,w.Scores,movedM w row⟩ hg.1 hl hn hP.mv hsr
 simp only at d1
 obtain ⟨s4,hs4⟩ : ∃ s4,s4 = (hitsR w.Scores.length (movedM w row) w.Scores).2 := ⟨_,rfl⟩
 obtain ⟨b4,hb4⟩ : ∃ b4,b4 = (hitsR w.Scores.length (movedM w row) w.Scores).1 := ⟨_,rfl⟩
 rw [← hs4,← hb4] at d1 hM
 rw [tickM,← hs4,← hb4]
 obtain ⟨hM1,hM2,hM3⟩ := hM
 have e1 := S_NextRandom w.Seed ⟨by omega,by omega⟩
 have e2 := S_SpotsOf w.Level hg.1 hl
 have hlb4 := Yl b4
 have hbl := hM1.len
 have hlsp := Yl (spotsM w.Level)
 have hsl2 := spots_len hl
 have hnr := Y4 w.Seed
 clear hs4 hb4 ho
 have hPP := hP
 obtain ⟨hgl,gb,_,hn4,hlen,hbo,hrl,hri⟩ := hP
 have hls := Yl w.Scores
 have hlr := Yl row
 refine Con.of Try.func52 J Try.ntmps52 J (fun E => ?_)
 refine zy (z0 J (zx (Qz J J J) J (z2 J J J (z3 J (zx (Zr J J J J) J (z1 J (zz (Qd (Qd ?_)))))))));refine Qc (z1 J (zz (Qk ?_)));refine A_lq (fun m st => ∃ (k : Nat) (bs : List TBody),k + m = w.Scores.length ∧ (bs = plM w.Level row w.Bodies k) ∧ st = (⟨_,[(0,.o (.c (.ptr 0 0))),(1,L row),(4,I (els w.Scores).length),(5,I k)],[.box [.ref 1,jn w.Tick,jn w.Seed,.ref 2,.ref 3],.row 1 (els w.Level.Rows),.row 1 (els w.Scores),.row 9 (els bs),.gh 0 (.c (.ptr 0 0))]⟩ : St)) (w.Scores.length) ⟨_,⟨0,w.Bodies,by omega,J,J⟩,W_gj [0,1,2,3,4] J⟩ ?_
 rintro m_A _ ⟨k,bs,hk_A,hp_A,rfl⟩
 by_cases hlt : k < w.Scores.length
 ·have hb0 : decide ((k : Int) < (els w.Scores).length) = true := decide_eq_true (by omega)
  have hP := P1.all hl hn4.2 hlen hbo row k (by omega)
  rw [← hp_A] at hP
  have hln := hP.lm.len
  obtain ⟨b,hb⟩ := Ka (xs := bs) (i := k) (by omega)
  have hold := hP.old k (Nat.le_refl _) hlt
  have hI := old_at hbo (by rw [← hold]; exact hb) hlt
  have hB := (hP.lm.at_ k b hb).1
  obtain ⟨hpl,hpx,hpy⟩ := hB.placed hl
  obtain ⟨i,hi⟩ := Ka (xs := row) (i := k) (by omega)
  have hir := hri i (List.mem_of_getElem? hi)
  have hnx := pl_next hp_A hb hi
  have he := Yn hb
  have her := Yn hi
  have hlb := Yl bs
  have htm := hI.tm
  have hkl := Yu hb
  clear d1 e1 e2
  by_cases hf : b.Life = 0
  ·have f1 : decide (b.Life = 0) = true := decide_eq_true hf
   rw [plOne,if_pos hf] at hnx
   refine Qd (zy (z0 J (z0 J (z9a J (by assumption) (zz (Qm J (Qh (Q0 (Qd ?_)))))))));refine Qk (Qd (zy (z0 J (zx (Qz J J J) J (z2 J J J (z3 J (z0 J (zx (Q3 J J J J J (by omega) (by omega)) J (zx (Zm J J J J (by decide)) J (zx (Q7 J J J J (by assumption) J) J ?_))))))))));refine z9e J (by assumption) (zz (Qm J (zy (z0 J (zx (Qz J J J) J (z2 J J J (z3 J (z0 J (zx (Q3 J J J J J (by omega) (by omega)) J ?_)))))))));refine zx (Zm J J J J (by decide)) J (zx (Q7 J J J J (by assumption) J) J (z8 J (by omega) (zx (Q3 J J J J J (by omega) (by omega)) J (zx (Zm J J J J (by decide)) J ?_))));refine Xh J J J J J J J J J (by assumption) J J (zz (Qd (zy (z0 J (zx (Qz J J J) J (z2 J J J (z3 J (z0 J ?_))))))));refine AL.weak (st' := (⟨_,[(0,.o (.c (.ptr 0 0))),(1,L row),(4,I (els w.Scores).length),(5,I k),(50,.o (.c (.ref 3))),(51,I k)],[.box [.ref 1,jn w.Tick,jn w.Seed,.ref 2,.ref 3],.row 1 (els w.Level.Rows),.row 1 (els w.Scores),.row 9 (els (bs.set k (tick1 b))),.gh 0 (.c (.ptr 0 0))]⟩ : St)) (X5 [0,1,2,3,4] (by decide) J ((by exact rwBo (st_el0 J))) (.c J (.c J (.c J (.c J (.c J (.c J (.nil)))))))) ?_
   clear he
   have he : (els (bs.set k (tick1 b)))[(k : Int).toNat]? = some (Enc.e (tick1 b)) := Yn (by rw [List.getElem?_set_self hkl])
   have hlb2 : (els (bs.set k (tick1 b))).length = bs.length := by rw [Yl,List.length_set]
   by_cases ht : b.Timer - 1 = 0
   ·have f2 : decide (b.Timer - 1 = 0) = true := decide_eq_true ht
    rw [if_pos ht] at hnx
    have cf := S_fresh w.Level k hg.1 hl ⟨by omega,by omega⟩
    refine zx (Q3 J J J J J (by omega) (by omega)) J (zx (Zm J J J J (by decide)) J (zx (Q7 J J J J (by assumption) J) J (z9e J (by assumption) (zz (Qm J ?_)))))
    refine AWP.pre (st' := (⟨_,[(0,.o (.c (.ptr 0 0))),(1,L row),(4,I (els w.Scores).length),(5,I k)],[.box [.ref 1,jn w.Tick,jn w.Seed,.ref 2,.ref 3],.row 1 (els w.Level.Rows),.row 1 (els w.Scores),.row 9 (els (bs.set k (tick1 b))),.gh 0 (.c (.ptr 0 0))]⟩ : St)) ?_ (W_gj [0,1,2,3,4] J)
    refine Xi [[],[0],[0,1],[0,1,2],[],[],[5],[5,6],[5,6,7],[],[5,6,7,8,9],(u9 11),(u9 12)] [[],[56],[56,57],[56,57,58],[],[],[61],[61,62],[61,62,63],[],[61,62,63,64,65],[56,57,58,59,60,61,62,63,64,65,66],[56,57,58,59,60,61,62,63,64,65,66,67]] [[60,61,62,63,64,65,66],[60,61,62,63,64,65,66],[60,61,62,63,64,65,66],[60,61,62,63,64,65,66],[56,57,58,59,61,62,63,64,65,66],[56,57,58,59,60,65],[56,57,58,59,60,65],[56,57,58,59,60,65],[56,57,58,59,60,65],[56,57,58,59,60,61,62,63,64],[56,57,58,59,60],[],[]] J (DR.s (Qa J J J) J J (DR.s (Qz J J J) J J (DR.s (Qf J J J J (by decide)) J J (DR.s (Qg J J J J J) J J (DR.s (Qa J J J) J J (DR.s (Qa J J J) J J (DR.s (Qz J J J) J J (DR.s (Qf J J J J (by decide)) J J (DR.s (Qu J J J J J J) J J (DR.s (Qa J J J) J J ?_))))))))));refine DR.s (Zi J J (cf) J J J) J J ?_;refine DR.s (Q3 J J J J J (by omega) (by omega)) J J (DR.stop (by kernel_rfl) (by kernel_rfl) ?_);refine AL.weak (st' := (⟨_,[(0,.o (.c (.ptr 0 0))),(1,L row),(4,I (els w.Scores).length),(5,I k),(66,.o (.ag ((Enc.e (fresh w.Level k)).map (V1.rd [])))),(67,.o (.c (.el 3 9 k 0)))],[.box [.ref 1,jn w.Tick,jn w.Seed,.ref 2,.ref 3],.row 1 (els w.Level.Rows),.row 1 (els w.Scores),.row 9 (els (bs.set k (tick1 b))),.gh 0 (.c (.ptr 0 0))]⟩ : St)) (W_gj [0,1,2,3,4] J) ?_;refine Xg J J J J J J J J J J (by assumption) J J (zz (Q9 (T_x (Xl (Q0 (Qc (z0 J (z7 J (by omega) (z1 J (Qe ?_))))))))));refine Q0 ?_
    exact ⟨w.Scores.length - (k + 1),by omega,(fun (k : Nat) (bs : List TBody) => (⟨_,[(0,.o (.c (.ptr 0 0))),(1,L row),(4,I (els w.Scores).length),(5,I k)],[.box [.ref 1,jn w.Tick,jn w.Seed,.ref 2,.ref 3],.row 1 (els w.Level.Rows),.row 1 (els w.Scores),.row 9 (els bs),.gh 0 (.c (.ptr 0 0))]⟩ : St)) (k + 1) (bs.set k (fresh w.Level k)),⟨k + 1,bs.set k (fresh w.Level k),by omega,hnx.symm,J⟩,X5 [0,1,2,3,4] (by decide) J ((by exact rwBo (st_el J))) (.c J (.c J (.c J (.c J (.nil)))))⟩
   ·have f2 : decide (b.Timer - 1 = 0) = false := decide_eq_false ht
    rw [if_neg ht] at hnx
    refine zx (Q3 J J J J J (by omega) (by omega)) J (zx (Zm J J J J (by decide)) J (zx (Q7 J J J J (by assumption) J) J (z9e J (by assumption) (zz (Ql J (Qh (Q0 (Q9 (T_x (Xl ?_))))))))));refine Q0 (Qc (z0 J (z7 J (by omega) (z1 J (zz ?_)))))
    exact ⟨w.Scores.length - (k + 1),by omega,_,⟨k + 1,bs.set k (tick1 b),by omega,hnx.symm,J⟩,W_gj [0,1,2,3,4] J⟩
  ·have f1 : decide (b.Life = 0) = false := decide_eq_false hf
   rw [plOne,if_neg hf] at hnx
   have hfl := hB.f
   obtain ⟨c,f,hcf⟩ : ∃ c f,(c,f) = steer w.Level b i := ⟨_,_,rfl⟩
   have cs := S_l02Steer w.Level b i hg.1 hl hI.kd hir ⟨by omega,by omega⟩ hB.vy (by have := hB.p; rw [hI.kd] at this; exact this)
   have hca := steer_aim (l := w.Level) (i := i) hI.am
   have hcx : (steer w.Level b i).1.X = b.X ∧ (steer w.Level b i).1.Y = b.Y := ⟨rfl,rfl⟩
   rw [← hcf] at cs hnx hca hcx
   simp only at cs hnx hca hcx
   have csh := S_ShotOf c (by rw [hcx.1]; exact hpl.x) (by rw [hcx.2]; exact hpl.y) (by omega)
   have hlc : (els (bs.set k c)).length = bs.length := by rw [Yl,List.length_set]
   clear hcf hca hcx
   refine Qd (zy (z0 J (z0 J (z9a J (by assumption) (zz (Qm J (Qh (Q0 (Qd ?_)))))))));refine Qk (Qd (zy (z0 J (zx (Qz J J J) J (z2 J J J (z3 J (z0 J (zx (Q3 J J J J J (by omega) (by omega)) J (zx (Zm J J J J (by decide)) J (zx (Q7 J J J J (by assumption) J) J ?_))))))))));refine z9e J (by assumption) (zz (Ql J (Qh (Q0 (Qd ?_)))))
   refine AWP.pre (st' := (⟨_,[(0,.o (.c (.ptr 0 0))),(1,L row),(4,I (els w.Scores).length),(5,I k)],[.box [.ref 1,jn w.Tick,jn w.Seed,.ref 2,.ref 3],.row 1 (els w.Level.Rows),.row 1 (els w.Scores),.row 9 (els bs),.gh 0 (.c (.ptr 0 0))]⟩ : St)) ?_ (W_gj [0,1,2,3,4] J)
   refine Xi [[],[0],[0,1],[0,1,2],[],[4],[4,5],[4,5,6],[],[4,5,6,7,8],[4,5,6,7,8,9],[],[],[11,12],[11,12,13],(u9 15),(u9 16),(u9 17),(u9 17),[],[0,1,2,3,4,5,6,7,8,9,10,11,12,13,14,15,16,17,19],(u9 21)] [[],[69],[69,70],[69,70,71],[],[73],[73,74],[73,74,75],[],[73,74,75,76,77],[73,74,75,76,77,78],[],[],[80,81],[80,81,82],[69,70,71,72,73,74,75,76,77,78,79,80,81,82,83],[69,70,71,72,73,74,75,76,77,78,79,80,81,82,83,84],[68,69,70,71,72,73,74,75,76,77,78,79,80,81,82,83,84],[68,69,70,71,72,73,74,75,76,77,78,79,80,81,82,83,84],[],[6,68,69,70,71,72,73,74,75,76,77,78,79,80,81,82,83,84,85],[6,68,69,70,71,72,73,74,75,76,77,78,79,80,81,82,83,84,85,86]] [[6,73,74,75,76,77,78,79,80,81,82,83],[6,73,74,75,76,77,78,79,80,81,82,83],[6,73,74,75,76,77,78,79,80,81,82,83],[6,73,74,75,76,77,78,79,80,81,82,83],[6,69,70,71,72,77,80,81,82,83],[6,69,70,71,72,77,80,81,82,83],[6,69,70,71,72,77,80,81,82,83],[6,69,70,71,72,77,80,81,82,83],[6,69,70,71,72,73,74,75,76,80,81,82,83],[6,69,70,71,72,80,81,82,83],[6,69,70,71,72,80,81,82,83],[6,69,70,71,72,73,74,75,76,77,78,79,81],[6,69,70,71,72,73,74,75,76,77,78,79,80],[6,69,70,71,72,73,74,75,76,77,78,79],[6,69,70,71,72,73,74,75,76,77,78,79],[6],[6],[6,86],[6,85],[68,69,70,71,72,73,74,75,76,77,78,79,80,81,82,83,84,85,86],[86],[],[18]] J (DR.s (Qa J J J) J J (DR.s (Qz J J J) J J (DR.s (Qf J J J J (by decide)) J J (DR.s (Qu J J J J J J) J J (DR.s (Qa J J J) J J (DR.s (Qz J J J) J J (DR.s (Qf J J J J (by decide)) J J (DR.s (Qg J J J J J) J J (DR.s (Qa J J J) J J (DR.s (Q3 J J J J J (by omega) (by omega)) J J (DR.s (Q6 J J J J (by assumption) J J) J J ?_)))))))))));refine DR.s (Qa J J J) J J (DR.s (Qa J J J) J J (DR.s (Q2 J J J J (by omega) (by assumption) J) J J (DR.s (Zu J J J J) J J ?_)));refine DR.s (Zi J J (cs) J J J) J J ?_;refine DR.s (Q8 J J J) J J (DR.s (Zl J J J J) J J (DR.s (Zl J J J J) J J (DR.s (Qx J J J) J J (DR.stop (by kernel_rfl) (by kernel_rfl) ?_))));refine AL.weak (st' := (⟨_,[(0,.o (.c (.ptr 0 0))),(1,L row),(4,I (els w.Scores).length),(5,I k),(6,.o (.c (.ptr 5 0))),(85,.o (.ag ((Enc.e c).map (V1.rd [])))),(86,B f)],[.box [.ref 1,jn w.Tick,jn w.Seed,.ref 2,.ref 3],.row 1 (els w.Level.Rows),.row 1 (els w.Scores),.row 9 (els bs),.gh 0 (.c (.ptr 0 0)),.box [jn 0,jn 0,jn 0,jn 0,jn 0,jn 0,jn 0,jn 0,jn 0]]⟩ : St)) (W_gj [0,1,2,3,4,5] J) ?_;refine Qy J J J J J J J J J (z1 J (zz (Qd ?_)))
   refine AWP.pre (st' := (⟨_,[(0,.o (.c (.ptr 0 0))),(1,L row),(4,I (els w.Scores).length),(5,I k),(6,.o (.c (.ptr 5 0))),(7,B f)],[.box [.ref 1,jn w.Tick,jn w.Seed,.ref 2,.ref 3],.row 1 (els w.Level.Rows),.row 1 (els w.Scores),.row 9 (els bs),.gh 0 (.c (.ptr 0 0)),.box ((Enc.e c).map (V1.rd []))]⟩ : St)) ?_ (W_gj [0,1,2,3,4,5] J)
   refine Xi u8_27 [[],[87],[87,88],[87,88,89],[],[],[87,88,89,90,91,92],[87,88,89,90,91,92,93]] [[91,92],[91,92],[91,92],[91,92],[87,88,89,90,92],[87,88,89,90,91],[],[]] J (DR.s (Qa J J J) J J (DR.s (Qz J J J) J J (DR.s (Qf J J J J (by decide)) J J (DR.s (Qg J J J J J) J J (DR.s (Qa J J J) J J (DR.s (Qu J J J J J J) J J (DR.s (Q3 J J J J J (by omega) (by omega)) J J (DR.stop (by kernel_rfl) (by kernel_rfl) ?_))))))));refine AL.weak (st' := (⟨_,[(0,.o (.c (.ptr 0 0))),(1,L row),(4,I (els w.Scores).length),(5,I k),(6,.o (.c (.ptr 5 0))),(7,B f),(92,.o (.ag ((Enc.e c).map (V1.rd [])))),(93,.o (.c (.el 3 9 k 0)))],[.box [.ref 1,jn w.Tick,jn w.Seed,.ref 2,.ref 3],.row 1 (els w.Level.Rows),.row 1 (els w.Scores),.row 9 (els bs),.gh 0 (.c (.ptr 0 0)),.box ((Enc.e c).map (V1.rd []))]⟩ : St)) (W_gj [0,1,2,3,4,5] J) ?_
   with_reducible refine Xe ?_
   refine Xg J J J J J J J J J J (by assumption) J J (zz ?_)
   refine AWP.pre (st' := (⟨_,[(0,.o (.c (.ptr 0 0))),(1,L row),(4,I (els w.Scores).length),(5,I k),(6,.o (.c (.ptr 5 0))),(7,B f)],[.box [.ref 1,jn w.Tick,jn w.Seed,.ref 2,.ref 3],.row 1 (els w.Level.Rows),.row 1 (els w.Scores),.row 9 (els (bs.set k c)),.gh 0 (.c (.ptr 0 0)),.box ((Enc.e c).map (V1.rd []))]⟩ : St)) ?_ (X5 [0,1,2,3,4,5] (by decide) J ((by exact rwBo (by rw [els_set]; rfl))) (.c J (.c J (.c J (.c J (.c J (.c J (.nil))))))))
   clear he
   cases f with
   | false =>
    refine zy (z0 J (z0 J (z6 J (z6 J (z6 J (z6 J (z6 J (z6 J (zpF J (Qe ?_))))))))));refine Q0 (Ql J (Qh (Q1 (Q0 (Qc (z0 J (z7 J (by omega) (z1 J (zz ?_)))))))))
    exact ⟨w.Scores.length - (k + 1),by omega,_,⟨k + 1,bs.set k c,by omega,(by rw [hnx]; rfl),J⟩,W_gj [0,1,2,3,4] J⟩
   | true =>
    by_cases h24 : bs.length < 24
    ·have f3 : decide (((els (bs.set k c)).length : Int) < 24) = true := decide_eq_true (by omega)
     rw [if_pos ⟨rfl,h24⟩] at hnx
     refine zy (z0 J (z0 J (z5 J (z0 J (zx (Qt.yes J J J (Qz J J J)) J (z5 J (z2 J J J (z5 J (z3 J (z5 J ?_))))))))));refine zx (Zr J J J J) J (z5 J (z9a J (by assumption) (zpT J (zz (Qm J (Xi u8_30 [[],[],[104],[104,105],[104,105,106],[],[108],[108,109],[104,105,106,107,108,109,110],[103,104,105,106,107,108,109,110,111],[103,104,105,106,107,108,109,110,111,112],[103,104,105,106,107,108,109,110,111,112,113]] [[104,105,106,107,108,109,110,111],[103,108,109,110],[103,108,109,110],[103,108,109,110],[103,108,109,110],[103,104,105,106,107],[103,104,105,106,107],[103,104,105,106,107],[103],[],[],[],[0]] J (DR.s (Qa J J J) J J (DR.s (Qa J J J) J J (DR.s (Qz J J J) J J (DR.s (Qf J J J J (by decide)) J J ?_))))))))));refine DR.s (Qg J J J J J) J J (DR.s (Qu J J J J J J) J J ?_);refine DR.s (Zi J J (csh) J J J) J J ?_;refine DR.s (Zd J J J J J J) J J (DR.stop (by kernel_rfl) (by kernel_rfl) ?_);refine AL.weak (st' := (⟨_,[(0,.o (.c (.ptr 0 0))),(1,L row),(4,I (els w.Scores).length),(5,I k),(103,.o (.c (.ptr 0 0))),(107,.o (.c (.ref 3))),(110,.o (.c (.sb 5 1 9)))],[.box [.ref 1,jn w.Tick,jn w.Seed,.ref 2,.ref 3],.row 1 (els w.Level.Rows),.row 1 (els w.Scores),.row 9 (els (bs.set k c)),.gh 0 (.c (.ptr 0 0)),.box ((Enc.e (shotOf c)).map (V1.rd []))]⟩ : St)) (W_gj [0,1,2,3,4,6] J) ?_;refine Xx J J J J J J J J J J J J J J (by omega) (by omega) ?_;refine zx (Qz J J J) J (z2 J J J ?_);refine Q5 J J J J J J J J (Qe (Q1 (Q0 (Qc (z0 J (z7 J (by omega) (z1 J (zz ?_))))))))
     exact ⟨w.Scores.length - (k + 1),by omega,(fun (k : Nat) (bs : List TBody) => (⟨_,[(0,.o (.c (.ptr 0 0))),(1,L row),(4,I (els w.Scores).length),(5,I k)],[.box [.ref 1,jn w.Tick,jn w.Seed,.ref 2,.ref 3],.row 1 (els w.Level.Rows),.row 1 (els w.Scores),.row 9 (els bs),.gh 0 (.c (.ptr 0 0))]⟩ : St)) (k + 1) (bs.set k c ++ [shotOf c]),⟨k + 1,bs.set k c ++ [shotOf c],by omega,hnx.symm,J⟩,X5 [0,1,2,3,4] (by decide) J (rwBo (by rw [Yj]; rfl)) (.c J (.c J (.c J (.c J (.nil)))))⟩
    ·have f3 : decide (((els (bs.set k c)).length : Int) < 24) = false := decide_eq_false (by omega)
     rw [if_neg (fun q => h24 q.2)] at hnx
     refine zy (z0 J (z0 J (z5 J (z0 J (zx (Qt.yes J J J (Qz J J J)) J (z5 J (z2 J J J (z5 J (z3 J (z5 J ?_))))))))));refine zx (Zr J J J J) J (z5 J (z9a J (by assumption) (zpT J (zz (Ql J (Qh (Q1 (Q0 (Qc (z0 J ?_))))))))));refine z7 J (by omega) (z1 J (zz ?_))
     exact ⟨w.Scores.length - (k + 1),by omega,_,⟨k + 1,bs.set k c,by omega,hnx.symm,J⟩,W_gj [0,1,2,3,4] J⟩
 have hb0 : decide ((k : Int) < (els w.Scores).length) = false := decide_eq_false (by omega)
 have hk : k = w.Scores.length := by omega
 rw [hk] at hp_A
 have hPl := hPP.pl
 rw [← hp_A] at hPl
 have hmv : movedM w row = mvM w.Level bs := by rw [movedM,hp_A]
 have hL := hPl.lm
 have htm := hPl.tm
 clear hPl hPP hp_A hbo
 have hlb := Yl bs
 have hln := hL.len
 refine Qd (zy (z0 J (z0 J (z9a J (by assumption) (zz (Ql J (Q9 (T_x (T_x ?_)))))))));refine Xl (Q0 (zy (M1 (Ze J J J) J J (z1 J (zz (Qd (zy (z1 J ?_))))))));refine zz (Qk ?_);refine A_lq (fun m st => ∃ (j : Nat) (kr : List TBody),j + m = bs.length ∧ (kr = (bs.take j).filterMap (mvOne w.Level)) ∧ st = (⟨_,[(0,.o (.c (.ptr 0 0))),(1,L row),(4,I (els w.Scores).length),(8,.o (.c (.ref 5))),(9,I j)],[.box [.ref 1,jn w.Tick,jn w.Seed,.ref 2,.ref 3],.row 1 (els w.Level.Rows),.row 1 (els w.Scores),.row 9 (els bs),.gh 0 (.c (.ptr 0 0)),.row 9 (els kr)]⟩ : St)) (bs.length) ⟨_,⟨0,[],by omega,J,J⟩,W_gj [0,1,2,3,4,5] J⟩ ?_
 rintro m_B _ ⟨j,kr,hk_B,hp_B,rfl⟩
 have hlkr := Yl kr
 have hkl := mv_len hp_B
 by_cases hlt : j < bs.length
 ·have hb0 : decide ((j : Int) < (els bs).length) = true := decide_eq_true (by omega)
  obtain ⟨b,hb⟩ := Ka hlt
  refine Qd (zy (z0 J (z0 J (zx (Qz J J J) J (z2 J J J (z3 J (zx (Zr J J J J) J (z9a J (by assumption) (zz ?_)))))))));refine Qm J (Qh (Q0 (Qd (Qk (zy (z0 J (zx (Qz J J J) J (z2 J J J (z3 J (z0 J ?_))))))))));refine zx (Q3 J J J J J (by omega) (by omega)) J ?_
  have he := Yn hb
  with_reducible refine Xf ?_
  refine zx (Q6 J J J J (by assumption) J J) J ?_
  with_reducible refine K_alloc ?_
  refine M1 (Qx J J J) J J ?_
  with_reducible refine Xe ?_
  refine Qy J J J J J J J J J (zz ?_)
  refine AWP.pre (st' := (⟨_,[(0,.o (.c (.ptr 0 0))),(1,L row),(4,I (els w.Scores).length),(8,.o (.c (.ref 5))),(9,I j),(10,.o (.c (.ptr 6 0)))],[.box [.ref 1,jn w.Tick,jn w.Seed,.ref 2,.ref 3],.row 1 (els w.Level.Rows),.row 1 (els w.Scores),.row 9 (els bs),.gh 0 (.c (.ptr 0 0)),.row 9 (els kr),.box ((Enc.e b).map (V1.rd []))]⟩ : St)) ?_ (W_gj [0,1,2,3,4,5,6] J)
  clear he
  obtain ⟨hB,hKn⟩ := hL.at_ j b hb
  have hkd := hB.k
  have hlf := hB.f
  have ht := htm b (List.mem_of_getElem? hb)
  by_cases k2 : b.Kind = 2
  ·have f1 : decide (b.Kind = 2) = true := decide_eq_true k2
   have hm := mv_some hp_B hb (mv_two k2)
   refine Qd (zy (z2 J J J (z3 J (z9e J (by assumption) (z0 J (z6 J (z6 J (z6 J (z6 J (zx (Qt.no2 J J J) J ?_))))))))));refine zx (Qt.no2 J J J) J (zx (Qt.no2 J J J) J (z6 J (zpT J (zz (Qm J (zy (z0 J (z4 J J J (M1 (Zd J J J J J J) J J ?_)))))))));refine Xx J J J J J J J J J J J J J J (by omega) (by omega) ?_;refine z1 J (zz (Q9 (T_x (Xl (Q0 (Qc (z0 J (z7 J (by omega) (z1 J (Qe ?_))))))))));refine Q0 ?_
   exact ⟨bs.length - (j + 1),by omega,(fun (j : Nat) (kr : List TBody) => (⟨_,[(0,.o (.c (.ptr 0 0))),(1,L row),(4,I (els w.Scores).length),(8,.o (.c (.ref 5))),(9,I j)],[.box [.ref 1,jn w.Tick,jn w.Seed,.ref 2,.ref 3],.row 1 (els w.Level.Rows),.row 1 (els w.Scores),.row 9 (els bs),.gh 0 (.c (.ptr 0 0)),.row 9 (els kr)]⟩ : St)) (j + 1) (kr ++ [b]),⟨j + 1,kr ++ [b],by omega,hm,J⟩,X5 [0,1,2,3,4,5] (by decide) J (rw6 (by rw [Yj]; rfl)) (.c J (.c J (.c J (.c J (.c J (.nil))))))⟩
  have f1 : decide (b.Kind = 2) = false := decide_eq_false k2
  by_cases k0 : b.Kind = 0 ∧ b.Life = 0
  ·have f2 : decide ((j : Int) < (els w.Scores).length) = true := decide_eq_true (by have := hKn.1 k0.1; omega)
   have f3 : decide (b.Life = 0) = true := decide_eq_true k0.2
   have hm := mv_some hp_B hb (mv_dead k0.1 k0.2)
   refine Qd (zy (z2 J J J (z3 J (z9e J (by assumption) (z0 J (z5 J (z0 J (z5 J (z0 J (z5 J ?_))))))))));refine z9a J (by assumption) (z5 J (z0 J (z5 J (z2 J J J (z5 J (z3 J (z5 J (z9e J (by assumption) (z5 J (zpT J (zpF J ?_)))))))))));refine zz (Qm J (zy (z0 J (z4 J J J (M1 (Zd J J J J J J) J J ?_)))));refine Xx J J J J J J J J J J J J J J (by omega) (by omega) ?_;refine z1 J (zz (Q9 (T_x (Xl (Q0 (Qc (z0 J (z7 J (by omega) (z1 J (Qe ?_))))))))));refine Q0 ?_
   exact ⟨bs.length - (j + 1),by omega,(fun (j : Nat) (kr : List TBody) => (⟨_,[(0,.o (.c (.ptr 0 0))),(1,L row),(4,I (els w.Scores).length),(8,.o (.c (.ref 5))),(9,I j)],[.box [.ref 1,jn w.Tick,jn w.Seed,.ref 2,.ref 3],.row 1 (els w.Level.Rows),.row 1 (els w.Scores),.row 9 (els bs),.gh 0 (.c (.ptr 0 0)),.row 9 (els kr)]⟩ : St)) (j + 1) (kr ++ [b]),⟨j + 1,kr ++ [b],by omega,hm,J⟩,X5 [0,1,2,3,4,5] (by decide) J (rw6 (by rw [Yj]; rfl)) (.c J (.c J (.c J (.c J (.c J (.nil))))))⟩
  obtain ⟨c,s,hcs⟩ : ∃ c s,(c,s) = moveM w.Level b := ⟨_,_,rfl⟩
  have cm := S_l02Move w.Level b hg.1 hl hB.k hB.p hB.vx hB.vy
  have hct : (moveM w.Level b).1.Timer = b.Timer := rfl
  have ma := @mv_a w.Level b
  have mn := @mv_n w.Level b
  have ms := @mv_s w.Level b
  rw [← hcs] at cm hct ma mn ms
  simp only at cm hct ma mn ms
  clear hcs hB
  by_cases hA : b.Kind = 0
  ·have f2 : decide ((j : Int) < (els w.Scores).length) = true := decide_eq_true (by have := hKn.1 hA; omega)
   have f3 : decide (b.Life = 0) = false := decide_eq_false (fun q => k0 ⟨hA,q⟩)
   have f4 : decide (b.Kind = 1) = false := decide_eq_false (by omega)
   have hm := mv_some hp_B hb (ma ⟨hA,by have : b.Life ≠ 0 := fun q => k0 ⟨hA,q⟩; omega⟩)
   refine Qd (zy (z2 J J J (z3 J (z9e J (by assumption) (z0 J (z5 J (z0 J (z5 J (z0 J (z5 J ?_))))))))));refine z9a J (by assumption) (z5 J (z0 J (z5 J (z2 J J J (z5 J (z3 J (z5 J (z9e J (by assumption) (z5 J (zpT J (zpF J ?_)))))))))));refine zz (Ql J (Qh (Q0 (Qd ?_))))
   refine AWP.pre (st' := (⟨_,[(0,.o (.c (.ptr 0 0))),(1,L row),(4,I (els w.Scores).length),(8,.o (.c (.ref 5))),(9,I j),(10,.o (.c (.ptr 6 0)))],[.box [.ref 1,jn w.Tick,jn w.Seed,.ref 2,.ref 3],.row 1 (els w.Level.Rows),.row 1 (els w.Scores),.row 9 (els bs),.gh 0 (.c (.ptr 0 0)),.row 9 (els kr),.box ((Enc.e b).map (V1.rd []))]⟩ : St)) ?_ (W_gj [0,1,2,3,4,5,6] J)
   refine Xi u8_31 u8_34 u8_35 J (DR.s (Qa J J J) J J (DR.s (Qz J J J) J J (DR.s (Qf J J J J (by decide)) J J (DR.s (Qu J J J J J J) J J (DR.s (Qu J J J J J J) J J ?_)))));refine DR.s (Zi J J (cm) J J J) J J ?_;refine DR.s (Q8 J J J) J J (DR.s (Zl J J J J) J J (DR.s (Zl J J J J) J J (DR.s (Qx J J J) J J (DR.stop (by kernel_rfl) (by kernel_rfl) ?_))));refine AL.weak (st' := (⟨_,[(0,.o (.c (.ptr 0 0))),(1,L row),(4,I (els w.Scores).length),(8,.o (.c (.ref 5))),(9,I j),(10,.o (.c (.ptr 6 0))),(11,.o (.c (.ptr 7 0))),(155,.o (.ag ((Enc.e c).map (V1.rd [])))),(156,B s)],[.box [.ref 1,jn w.Tick,jn w.Seed,.ref 2,.ref 3],.row 1 (els w.Level.Rows),.row 1 (els w.Scores),.row 9 (els bs),.gh 0 (.c (.ptr 0 0)),.row 9 (els kr),.box ((Enc.e b).map (V1.rd [])),.box [jn 0,jn 0,jn 0,jn 0,jn 0,jn 0,jn 0,jn 0,jn 0]]⟩ : St)) (W_gj [0,1,2,3,4,5,6,7] J) ?_
   with_reducible refine Xe ?_
   refine Qy J J J J J J J J J ?_
   with_reducible refine K_assign ?_
   refine z1 J (zz ?_)
   refine AWP.pre (st' := (⟨_,[(0,.o (.c (.ptr 0 0))),(1,L row),(4,I (els w.Scores).length),(8,.o (.c (.ref 5))),(9,I j),(10,.o (.c (.ptr 6 0))),(11,.o (.c (.ptr 7 0))),(12,B s)],[.box [.ref 1,jn w.Tick,jn w.Seed,.ref 2,.ref 3],.row 1 (els w.Level.Rows),.row 1 (els w.Scores),.row 9 (els bs),.gh 0 (.c (.ptr 0 0)),.row 9 (els kr),.box ((Enc.e b).map (V1.rd [])),.box ((Enc.e c).map (V1.rd []))]⟩ : St)) ?_ (W_gj [0,1,2,3,4,5,6,7] J)
   refine Qd (zy (z2 J J J (z3 J (z9e J (by assumption) (zz (Ql J (Qh (Q0 (Qc ?_)))))))));refine z0 J (z4 J J J (M1 (Zd J J J J J J) J J ?_));refine Xx J J J J J J J J J J J J J J (by omega) (by omega) ?_;refine z1 J (Qe (Q1 (Q0 (Qc (z0 J (z7 J (by omega) (z1 J (zz ?_))))))))
   exact ⟨bs.length - (j + 1),by omega,(fun (j : Nat) (kr : List TBody) => (⟨_,[(0,.o (.c (.ptr 0 0))),(1,L row),(4,I (els w.Scores).length),(8,.o (.c (.ref 5))),(9,I j)],[.box [.ref 1,jn w.Tick,jn w.Seed,.ref 2,.ref 3],.row 1 (els w.Level.Rows),.row 1 (els w.Scores),.row 9 (els bs),.gh 0 (.c (.ptr 0 0)),.row 9 (els kr)]⟩ : St)) (j + 1) (kr ++ [c]),⟨j + 1,kr ++ [c],by omega,hm,J⟩,X5 [0,1,2,3,4,5] (by decide) J (rw6 (by rw [Yj]; rfl)) (.c J (.c J (.c J (.c J (.c J (.nil))))))⟩
  have k1 : b.Kind = 1 := by omega
  have f2 : decide ((j : Int) < (els w.Scores).length) = false := decide_eq_false (fun q => hA (hKn.2 (by omega)))
  have f4 : decide (b.Kind = 1) = true := decide_eq_true k1
  have f5 : decide (b.Kind = 0) = false := decide_eq_false hA
  refine Qd (zy (z2 J J J (z3 J (z9e J (by assumption) (z0 J (z5 J (z0 J (z5 J (z0 J (z5 J ?_))))))))));refine z9a J (by assumption) (z5 J (z0 J (z6 J (z6 J (z6 J (z5 J (zpF J (zpF J (zz (Ql J ?_))))))))));refine Qh (Q0 (Qd ?_))
  refine AWP.pre (st' := (⟨_,[(0,.o (.c (.ptr 0 0))),(1,L row),(4,I (els w.Scores).length),(8,.o (.c (.ref 5))),(9,I j),(10,.o (.c (.ptr 6 0)))],[.box [.ref 1,jn w.Tick,jn w.Seed,.ref 2,.ref 3],.row 1 (els w.Level.Rows),.row 1 (els w.Scores),.row 9 (els bs),.gh 0 (.c (.ptr 0 0)),.row 9 (els kr),.box ((Enc.e b).map (V1.rd []))]⟩ : St)) ?_ (W_gj [0,1,2,3,4,5,6] J)
  refine Xi u8_31 u8_34 u8_35 J (DR.s (Qa J J J) J J (DR.s (Qz J J J) J J (DR.s (Qf J J J J (by decide)) J J (DR.s (Qu J J J J J J) J J (DR.s (Qu J J J J J J) J J ?_)))));refine DR.s (Zi J J (cm) J J J) J J ?_;refine DR.s (Q8 J J J) J J (DR.s (Zl J J J J) J J (DR.s (Zl J J J J) J J (DR.s (Qx J J J) J J (DR.stop (by kernel_rfl) (by kernel_rfl) ?_))));refine AL.weak (st' := (⟨_,[(0,.o (.c (.ptr 0 0))),(1,L row),(4,I (els w.Scores).length),(8,.o (.c (.ref 5))),(9,I j),(10,.o (.c (.ptr 6 0))),(11,.o (.c (.ptr 7 0))),(155,.o (.ag ((Enc.e c).map (V1.rd [])))),(156,B s)],[.box [.ref 1,jn w.Tick,jn w.Seed,.ref 2,.ref 3],.row 1 (els w.Level.Rows),.row 1 (els w.Scores),.row 9 (els bs),.gh 0 (.c (.ptr 0 0)),.row 9 (els kr),.box ((Enc.e b).map (V1.rd [])),.box [jn 0,jn 0,jn 0,jn 0,jn 0,jn 0,jn 0,jn 0,jn 0]]⟩ : St)) (W_gj [0,1,2,3,4,5,6,7] J) ?_
  with_reducible refine Xe ?_
  refine Qy J J J J J J J J J ?_
  with_reducible refine K_assign ?_
  refine z1 J (zz ?_)
  refine AWP.pre (st' := (⟨_,[(0,.o (.c (.ptr 0 0))),(1,L row),(4,I (els w.Scores).length),(8,.o (.c (.ref 5))),(9,I j),(10,.o (.c (.ptr 6 0))),(11,.o (.c (.ptr 7 0))),(12,B s)],[.box [.ref 1,jn w.Tick,jn w.Seed,.ref 2,.ref 3],.row 1 (els w.Level.Rows),.row 1 (els w.Scores),.row 9 (els bs),.gh 0 (.c (.ptr 0 0)),.row 9 (els kr),.box ((Enc.e b).map (V1.rd [])),.box ((Enc.e c).map (V1.rd []))]⟩ : St)) ?_ (W_gj [0,1,2,3,4,5,6,7] J)
  rw [← hct] at ht
  cases s with
  | true =>
   have hm := mv_none hp_B hb (mn (fun q => hA q.1) k1 (.inl rfl))
   refine Qd (zy (z2 J J J (z3 J (z9e J (by assumption) (zz (Qm J (zy (z2 J J J ?_))))))));refine z3 J (z8 J (by omega) (z2 J J J ?_));refine Q5 J J J J J J J J (zz (zy (z0 J (z0 J (z6 J (z6 J (z6 J (zpT J (Qe ?_)))))))));refine Q0 (Qm J (Q9 (T_x (Xl (Q0 (Qc (z0 J (z7 J (by omega) (z1 J (zz ?_))))))))))
   exact ⟨bs.length - (j + 1),by omega,_,⟨j + 1,kr,by omega,hm,J⟩,W_gj [0,1,2,3,4,5] J⟩
  | false =>
   by_cases h1 : c.Timer - 1 = 0
   ·have f6 : decide (c.Timer - 1 = 0) = true := decide_eq_true h1
    have hm := mv_none hp_B hb (mn (fun q => hA q.1) k1 (.inr (by rw [← hct]; exact h1)))
    refine Qd (zy (z2 J J J (z3 J (z9e J (by assumption) (zz (Qm J (zy (z2 J J J ?_))))))));refine z3 J (z8 J (by omega) (z2 J J J ?_));refine Q5 J J J J J J J J (zz (zy (z0 J (z0 J (z5 J (z2 J J J (z5 J (z3 J (z5 J ?_)))))))));refine z9e J (by assumption) (zpF J (zz (Qm J (Q9 (T_x (Xl (Q0 (Qc (z0 J (z7 J (by omega) ?_))))))))));refine z1 J (zz ?_)
    exact ⟨bs.length - (j + 1),by omega,_,⟨j + 1,kr,by omega,hm,J⟩,W_gj [0,1,2,3,4,5] J⟩
   ·have f6 : decide (c.Timer - 1 = 0) = false := decide_eq_false h1
    have hm := mv_some hp_B hb (ms (fun q => hA q.1) k1 (fun q => q.elim (fun q => Bool.false_ne_true q) (fun q => h1 (by rw [hct]; exact q))))
    refine Qd (zy (z2 J J J (z3 J (z9e J (by assumption) (zz (Qm J (zy (z2 J J J ?_))))))));refine z3 J (z8 J (by omega) (z2 J J J ?_));refine Q5 J J J J J J J J (zz (zy (z0 J (z0 J (z5 J (z2 J J J (z5 J (z3 J (z5 J ?_)))))))));refine z9e J (by assumption) (zpF J (zz (Ql J (Qh (Q0 (Qc (z0 J (z4 J J J (M1 (Zd J J J J J J) J J ?_)))))))));refine Xx J J J J J J J J J J J J J J (by omega) (by omega) ?_;refine z1 J (Qe (Q1 (Q0 (Qc (z0 J (z7 J (by omega) (z1 J (zz ?_))))))))
    exact ⟨bs.length - (j + 1),by omega,(fun (j : Nat) (kr : List TBody) => (⟨_,[(0,.o (.c (.ptr 0 0))),(1,L row),(4,I (els w.Scores).length),(8,.o (.c (.ref 5))),(9,I j)],[.box [.ref 1,jn w.Tick,jn w.Seed,.ref 2,.ref 3],.row 1 (els w.Level.Rows),.row 1 (els w.Scores),.row 9 (els bs),.gh 0 (.c (.ptr 0 0)),.row 9 (els kr)]⟩ : St)) (j + 1) (kr ++ [tick1 c]),⟨j + 1,kr ++ [tick1 c],by omega,hm,J⟩,X5 [0,1,2,3,4,5] (by decide) J (rw6 (by rw [Yj]; rfl)) (.c J (.c J (.c J (.c J (.c J (.nil))))))⟩
 have hb0 : decide ((j : Int) < (els bs).length) = false := decide_eq_false (by omega)
 have hj : j = bs.length := by omega
 have hm : kr = movedM w row := by rw [hp_B,hj,List.take_length,hmv]; rfl
 subst hm
 clear hmv hL htm hp_B
 refine Qd (zy (z0 J (z0 J (zx (Qz J J J) J (z2 J J J (z3 J (zx (Zr J J J J) J (z9a J (by assumption) (zz ?_)))))))));refine Ql J (Q9 (T_x (T_x (Xl (Q0 (zy (z0 J (z0 J (zx (Qz J J J) J (z2 J J J ?_))))))))));refine Q5 J J J J J J J J (zz (zy (z0 J ?_)));refine AL.weak (st' := (⟨_,[(0,.o (.c (.ptr 0 0))),(1,L row),(4,I (els w.Scores).length),(178,.o (.c (.ptr 0 0)))],[.box [.ref 1,jn w.Tick,jn w.Seed,.ref 2,.ref 3],.row 1 (els w.Level.Rows),.row 1 (els w.Scores),.row 9 (els (movedM w row)),.gh 0 (.c (.ptr 0 0))]⟩ : St)) (W_gj [0,1,2,5,4] J) ?_;refine Xd (lo := [_,_,_,_]) (gs := [(0,.c (.ptr 0 0))]) (lo' := [_,_,_,_]) (new := []) [0,1,2,3] [(0,0,.ptr 0 0)] (d1) J J J J J J J J J J J J J J J J J ?_;refine zz (zy (z0 J (zx (Qz J J J) J (z2 J J J (z3 J (z7 J (by omega) (zx (Qz J J J) J (z2 J J J ?_))))))));refine Q5 J J J J J J J J (zz (zy (z0 J (z0 J (zx (Qz J J J) J (z2 J J J (z3 J ?_)))))));refine AL.weak (st' := (⟨_,[(0,.o (.c (.ptr 0 0))),(1,L row),(4,I (els w.Scores).length),(187,.o (.c (.ptr 0 0))),(191,I w.Seed)],[.box [.ref 1,jn (w.Tick + 1),jn w.Seed,.ref 2,.ref 3],.row 1 (els w.Level.Rows),.row 1 (els s4),.row 9 (els b4),.gh 0 (.c (.ptr 0 0))]⟩ : St)) (W_gj [0,1,2,3,4] J) ?_
 clear d1
 refine zx (Qj J J (e1) J) J ?_;refine zx (Qz J J J) J (z2 J J J ?_);refine Q5 J J J J J J J J (zz (zy (z0 J (zx (Qz J J J) J (z2 J J J (z4 J J J ?_))))));refine AL.weak (st' := (⟨_,[(0,.o (.c (.ptr 0 0))),(1,L row),(4,I (els w.Scores).length),(198,.o (.ag [.ref 1]))],[.box [.ref 1,jn (w.Tick + 1),jn (nextR w.Seed),.ref 2,.ref 3],.row 1 (els w.Level.Rows),.row 1 (els s4),.row 9 (els b4),.gh 0 (.c (.ptr 0 0))]⟩ : St)) (W_gj [0,1,2,3,4] J) ?_
 clear e1
 obtain ⟨sd,hsd2⟩ : ∃ sd,sd = nextR w.Seed := ⟨_,rfl⟩
 rw [← hsd2] at hnr
 rw [← hsd2]
 by_cases q1 : (w.Tick + 1) % 16 ≠ 0
 ·have g1 : decide ((w.Tick + 1) % 16 ≠ 0) = true := decide_eq_true q1
  rw [last_1 (.inl q1)]
  refine M1 (Zi J J (e2) J J J) J J ?_;refine z1 J (zz (Qd (zy (z0 J (zx (Qz J J J) J (z2 J J J (z3 J (zx (Zz J J J J (by omega)) J (z9f J (by assumption) ?_)))))))));refine z0 J (z6 J (z6 J (z6 J (zpT J (z0 J (z6 J (z6 J (z6 J (z6 J (z6 J (z6 J ?_)))))))))));refine zpT J (zz (Qm J (Xa (T_r (F_r ?_)))))
  exact Xo J (X3 [0,1,2,3,4] (by decide) J J J)
 have g1 : decide ((w.Tick + 1) % 16 ≠ 0) = false := decide_eq_false q1
 by_cases q2 : (spotsM w.Level).length = 0
 ·have g2 : decide (((els (spotsM w.Level)).length : Int) = 0) = true := decide_eq_true (by omega)
  rw [last_1 (.inr (.inl q2))]
  refine M1 (Zi J J (e2) J J J) J J ?_;refine z1 J (zz (Qd (zy (z0 J (zx (Qz J J J) J (z2 J J J (z3 J (zx (Zz J J J J (by omega)) J (z9f J (by assumption) ?_)))))))));refine z0 J (z5 J (z0 J (z5 J (zx (Zr J J J J) J (z5 J (z9e J (by assumption) (zpF J (z0 J (z6 J (z6 J (z6 J ?_)))))))))));refine z6 J (z6 J (z6 J (zpT J (zz (Qm J (Xa (T_r (F_r ?_))))))))
  exact Xo J (X3 [0,1,2,3,4] (by decide) J J J)
 have g2 : decide (((els (spotsM w.Level)).length : Int) = 0) = false := decide_eq_false (by omega)
 by_cases q3 : 24 ≤ b4.length
 ·have g3 : decide (((els b4).length : Int) ≥ 24) = true := decide_eq_true (by omega)
  rw [last_1 (.inr (.inr q3))]
  refine M1 (Zi J J (e2) J J J) J J ?_;refine z1 J (zz (Qd (zy (z0 J (zx (Qz J J J) J (z2 J J J (z3 J (zx (Zz J J J J (by omega)) J (z9f J (by assumption) ?_)))))))));refine z0 J (z5 J (z0 J (z5 J (zx (Zr J J J J) J (z5 J (z9e J (by assumption) (zpF J (z0 J (z5 J (z0 J (zx (Qt.yes J J J (Qz J J J)) J ?_)))))))))));refine z5 J (z2 J J J (z5 J (z3 J (z5 J (zx (Zr J J J J) J (z5 J (z9d J (by assumption) (zpF J (zz (Qm J ?_))))))))));refine Xa (T_r (F_r ?_))
  exact Xo J (X3 [0,1,2,3,4] (by decide) J J J)
 have g3 : decide (((els b4).length : Int) ≥ 24) = false := decide_eq_false (by omega)
 have q : ¬ ((w.Tick + 1) % 16 ≠ 0 ∨ (spotsM w.Level).length = 0 ∨ 24 ≤ b4.length) := fun h => h.elim q1 fun h => h.elim q2 q3
 obtain ⟨i,hi1,hi2,hi3⟩ := spotOf_mem (seed := sd) q2
 obtain ⟨x,y,hxy,hx,hy⟩ := spot_rng hl (List.mem_of_getElem? hi3)
 have e3 := S_RandomBelow sd ((els (spotsM w.Level)).length : Int) hnr ⟨by omega,by omega⟩
 rw [show belowR sd ((els (spotsM w.Level)).length : Int) = i by rw [hlsp]; exact hi1] at e3
 have hsp : (els (spotsM w.Level))[(i : Int).toNat]? = some (Enc.e [x,y]) := Yn (by rw [hi3,hxy])
 have hx0 : (els [x,y])[(0 : Int).toNat]? = some (Enc.e x) := rfl
 have hy0 : (els [x,y])[(1 : Int).toNat]? = some (Enc.e y) := rfl
 refine M1 (Zi J J (e2) J J J) J J ?_;refine z1 J (zz (Qd (zy (z0 J (zx (Qz J J J) J (z2 J J J (z3 J (zx (Zz J J J J (by omega)) J (z9f J (by assumption) ?_)))))))));refine z0 J (z5 J (z0 J (z5 J (zx (Zr J J J J) J (z5 J (z9e J (by assumption) (zpF J (z0 J (z5 J (z0 J (zx (Qt.yes J J J (Qz J J J)) J ?_)))))))))));refine z5 J (z2 J J J (z5 J (z3 J (z5 J (zx (Zr J J J J) J (z5 J (z9d J (by assumption) (zpF J (zz (Ql J ?_))))))))));refine Qh (Q0 (zy (z0 J (zx (Qz J J J) J (z2 J J J (z3 J (z0 J (zx (Zr J J J J) J ?_))))))));refine M1 (Zi J J (e3) J J J) J J ?_;refine zx (Q8 J J J) J (ze J (ze J (z1 J (z1 J (zz (zy (z0 J (z0 J (zx (Qz J J J) J ?_)))))))));refine z2 J J J ?_;refine Q5 J J J J J J J J (zz (Qd (zy (z0 J (z1 J (zz (Qk ?_)))))))
 refine AWP.pre (st' := (⟨_,[(0,.o (.c (.ptr 0 0))),(4,I (els w.Scores).length),(13,.o (.c (.ref 5))),(15,I (i : Int)),(16,I (els w.Scores).length)],[.box [.ref 1,jn (w.Tick + 1),jn (nextR sd),.ref 2,.ref 3],.row 1 (els w.Level.Rows),.row 1 (els s4),.row 9 (els b4),.gh 0 (.c (.ptr 0 0)),.row 1 (els (spotsM w.Level))]⟩ : St)) ?_ (W_gj [0,1,2,3,4,5] J)
 refine A_lq (fun m st => ∃ t : Nat,t + m = (b4.length - w.Scores.length) ∧ (itemAt (b4.take (w.Scores.length + t)) x y = false) ∧ st = (⟨_,[(0,.o (.c (.ptr 0 0))),(4,I (els w.Scores).length),(13,.o (.c (.ref 5))),(15,I (i : Int)),(16,I (((els w.Scores).length + t : Nat) : Int))],[.box [.ref 1,jn (w.Tick + 1),jn (nextR sd),.ref 2,.ref 3],.row 1 (els w.Level.Rows),.row 1 (els s4),.row 9 (els b4),.gh 0 (.c (.ptr 0 0)),.row 1 (els (spotsM w.Level))]⟩ : St)) ((b4.length - w.Scores.length)) ⟨(fun t : Nat => (⟨_,[(0,.o (.c (.ptr 0 0))),(4,I (els w.Scores).length),(13,.o (.c (.ref 5))),(15,I (i : Int)),(16,I (((els w.Scores).length + t : Nat) : Int))],[.box [.ref 1,jn (w.Tick + 1),jn (nextR sd),.ref 2,.ref 3],.row 1 (els w.Level.Rows),.row 1 (els s4),.row 9 (els b4),.gh 0 (.c (.ptr 0 0)),.row 1 (els (spotsM w.Level))]⟩ : St)) 0,⟨0,by omega,at_pl hM1 x y,J⟩,X5 [0,1,2,3,4,5] (by decide) J (J) (.c J (.c J (.c J (.c J (.cons (Xw (by omega)) (.nil))))))⟩ ?_
 rintro m_C _ ⟨t,hk_C,hp_C,rfl⟩
 by_cases hlt : t < b4.length - w.Scores.length
 ·have hb0 : decide ((((els w.Scores).length + t : Nat) : Int) < (els b4).length) = true := decide_eq_true (by omega)
  obtain ⟨b,hbb⟩ := Ka (xs := b4) (i := w.Scores.length + t) (by omega)
  have he := at_el hbb
  refine Qd (zy (z0 J (z0 J (zx (Qz J J J) J (z2 J J J (z3 J (zx (Zr J J J J) J (z9a J (by assumption) (zz ?_)))))))));refine Qm J (Qh (Q0 (Qd (Qk (Qd ?_)))))
  by_cases k1 : b.Kind = 2
  case neg =>
   have p1 : decide (b.Kind = 2) = false := decide_eq_false k1
   refine Xi u8_36 u8_37 u8_38 J (DR.s (Qa J J J) J J (DR.s (Qz J J J) J J (DR.s (Qf J J J J (by decide)) J J (DR.s (Qg J J J J J) J J (DR.s (Qa J J J) J J (DR.s (Q3 J J J J J (by omega) (by omega)) J J (DR.s (Zm J J J J (by decide)) J J (DR.s (Q7 J J J J (by assumption) J) J J (DR.s (Qv J J J J (by assumption)) J J (DR.s (Qa J J J) J J (DR.s (Qt.no J J J J) J J ?_)))))))))));refine DR.s (Qt.no J J J J) J J (DR.s (Qt.no J J J J) J J (DR.s (Qt.no J J J J) J J (DR.s (Qt.no J J J J) J J (DR.s (Qt.no J J J J) J J (DR.s (Qt.no J J J J) J J (DR.s (Qt.no J J J J) J J (DR.s (Qt.no J J J J) J J (DR.s (Qt.no J J J J) J J (DR.s (Qt.no J J J J) J J (DR.s (Qt.no J J J J) J J (DR.s (Qt.no J J J J) J J ?_)))))))))));refine DR.s (Qt.no J J J J) J J (DR.s (Qt.no J J J J) J J (DR.s (Qn J J J J) J J (DR.s (Qa J J J) J J (DR.s (Qt.no J J J J) J J (DR.s (Qt.no J J J J) J J (DR.s (Qt.no J J J J) J J (DR.s (Qt.no J J J J) J J (DR.s (Qt.no J J J J) J J (DR.s (Qt.no J J J J) J J (DR.s (Qt.no J J J J) J J (DR.s (Qt.no J J J J) J J ?_)))))))))));refine DR.s (Qt.no J J J J) J J (DR.s (Qt.no J J J J) J J (DR.s (Qt.no J J J J) J J (DR.s (Qt.no J J J J) J J (DR.s (Qt.no J J J J) J J (DR.s (Qt.no J J J J) J J (DR.s (Qt.no J J J J) J J (DR.s (Qn J J J J) J J (DR.stop (by kernel_rfl) (by kernel_rfl) (zz (Ql J ?_))))))))));refine Qh (Q1 (Q0 (Qc (z0 J (z7 J (by omega) (z1 J (zz ?_)))))))
   exact ⟨(b4.length - w.Scores.length) - (t + 1),by omega,(fun t : Nat => (⟨_,[(0,.o (.c (.ptr 0 0))),(4,I (els w.Scores).length),(13,.o (.c (.ref 5))),(15,I (i : Int)),(16,I (((els w.Scores).length + t : Nat) : Int))],[.box [.ref 1,jn (w.Tick + 1),jn (nextR sd),.ref 2,.ref 3],.row 1 (els w.Level.Rows),.row 1 (els s4),.row 9 (els b4),.gh 0 (.c (.ptr 0 0)),.row 1 (els (spotsM w.Level))]⟩ : St)) (t + 1),⟨t + 1,by omega,at_go hbb (fun h => k1 h.1) hp_C,J⟩,X5 [0,1,2,3,4,5] (by decide) J (J) (.c J (.c J (.c J (.c J (.cons (Xw (by omega)) (.nil))))))⟩
  have p1 : decide (b.Kind = 2) = true := decide_eq_true k1
  by_cases k2 : b.X = x
  case neg =>
   have p2 : decide (b.X = x) = false := decide_eq_false k2
   refine Xi u8_36 u8_37 u8_38 J (DR.s (Qa J J J) J J (DR.s (Qz J J J) J J (DR.s (Qf J J J J (by decide)) J J (DR.s (Qg J J J J J) J J (DR.s (Qa J J J) J J (DR.s (Q3 J J J J J (by omega) (by omega)) J J (DR.s (Zm J J J J (by decide)) J J (DR.s (Q7 J J J J (by assumption) J) J J (DR.s (Qv J J J J (by assumption)) J J (DR.s (Qa J J J) J J (DR.s (Qt.yes J J J (Qa J J J)) J J ?_)))))))))));refine DR.s (Qt.yes J J J (Qz J J J)) J J (DR.s (Qt.yes J J J (Qf J J J J (by decide))) J J (DR.s (Qt.yes J J J (Qg J J J J J)) J J (DR.s (Qt.yes J J J (Qa J J J)) J J (DR.s (Qt.yes J J J (Q3 J J J J J (by omega) (by omega))) J J (DR.s (Qt.yes J J J (Zm J J J J (by decide))) J J (DR.s (Qt.yes J J J (Q7 J J J J (by assumption) J)) J J (DR.s (Qt.yes J J J (Qa J J J)) J J (DR.s (Qt.yes J J J (Qa J J J)) J J (DR.s (Qt.yes J J J (Q3 J J J J J (by omega) (by omega))) J J (DR.s (Qt.yes J J J (Q7 J J J J (by assumption) J)) J J (DR.s (Qt.yes J J J (Q2 J J J J (by omega) (by assumption) J)) J J ?_)))))))))));refine DR.s (Qt.yes J J J (Zu J J J J)) J J (DR.s (Qt.yes J J J (Qv J J J J (by assumption))) J J (DR.s (Qo J J J J) J J (DR.s (Qa J J J) J J (DR.s (Qt.no J J J J) J J (DR.s (Qt.no J J J J) J J (DR.s (Qt.no J J J J) J J (DR.s (Qt.no J J J J) J J (DR.s (Qt.no J J J J) J J (DR.s (Qt.no J J J J) J J (DR.s (Qt.no J J J J) J J (DR.s (Qt.no J J J J) J J ?_)))))))))));refine DR.s (Qt.no J J J J) J J (DR.s (Qt.no J J J J) J J (DR.s (Qt.no J J J J) J J (DR.s (Qt.no J J J J) J J (DR.s (Qt.no J J J J) J J (DR.s (Qt.no J J J J) J J (DR.s (Qt.no J J J J) J J (DR.s (Qn J J J J) J J (DR.stop (by kernel_rfl) (by kernel_rfl) (zz (Ql J ?_))))))))));refine Qh (Q1 (Q0 (Qc (z0 J (z7 J (by omega) (z1 J (zz ?_)))))))
   exact ⟨(b4.length - w.Scores.length) - (t + 1),by omega,(fun t : Nat => (⟨_,[(0,.o (.c (.ptr 0 0))),(4,I (els w.Scores).length),(13,.o (.c (.ref 5))),(15,I (i : Int)),(16,I (((els w.Scores).length + t : Nat) : Int))],[.box [.ref 1,jn (w.Tick + 1),jn (nextR sd),.ref 2,.ref 3],.row 1 (els w.Level.Rows),.row 1 (els s4),.row 9 (els b4),.gh 0 (.c (.ptr 0 0)),.row 1 (els (spotsM w.Level))]⟩ : St)) (t + 1),⟨t + 1,by omega,at_go hbb (fun h => k2 h.2.1) hp_C,J⟩,X5 [0,1,2,3,4,5] (by decide) J (J) (.c J (.c J (.c J (.c J (.cons (Xw (by omega)) (.nil))))))⟩
  have p2 : decide (b.X = x) = true := decide_eq_true k2
  by_cases k3 : b.Y = y
  case neg =>
   have p3 : decide (b.Y = y) = false := decide_eq_false k3
   refine Xi u8_36 u8_37 u8_38 J (DR.s (Qa J J J) J J (DR.s (Qz J J J) J J (DR.s (Qf J J J J (by decide)) J J (DR.s (Qg J J J J J) J J (DR.s (Qa J J J) J J (DR.s (Q3 J J J J J (by omega) (by omega)) J J (DR.s (Zm J J J J (by decide)) J J (DR.s (Q7 J J J J (by assumption) J) J J (DR.s (Qv J J J J (by assumption)) J J (DR.s (Qa J J J) J J (DR.s (Qt.yes J J J (Qa J J J)) J J ?_)))))))))));refine DR.s (Qt.yes J J J (Qz J J J)) J J (DR.s (Qt.yes J J J (Qf J J J J (by decide))) J J (DR.s (Qt.yes J J J (Qg J J J J J)) J J (DR.s (Qt.yes J J J (Qa J J J)) J J (DR.s (Qt.yes J J J (Q3 J J J J J (by omega) (by omega))) J J (DR.s (Qt.yes J J J (Zm J J J J (by decide))) J J (DR.s (Qt.yes J J J (Q7 J J J J (by assumption) J)) J J (DR.s (Qt.yes J J J (Qa J J J)) J J (DR.s (Qt.yes J J J (Qa J J J)) J J (DR.s (Qt.yes J J J (Q3 J J J J J (by omega) (by omega))) J J (DR.s (Qt.yes J J J (Q7 J J J J (by assumption) J)) J J (DR.s (Qt.yes J J J (Q2 J J J J (by omega) (by assumption) J)) J J ?_)))))))))));refine DR.s (Qt.yes J J J (Zu J J J J)) J J (DR.s (Qt.yes J J J (Qv J J J J (by assumption))) J J (DR.s (Qo J J J J) J J (DR.s (Qa J J J) J J (DR.s (Qt.yes J J J (Qa J J J)) J J (DR.s (Qt.yes J J J (Qz J J J)) J J (DR.s (Qt.yes J J J (Qf J J J J (by decide))) J J (DR.s (Qt.yes J J J (Qg J J J J J)) J J (DR.s (Qt.yes J J J (Qa J J J)) J J (DR.s (Qt.yes J J J (Q3 J J J J J (by omega) (by omega))) J J (DR.s (Qt.yes J J J (Zm J J J J (by decide))) J J (DR.s (Qt.yes J J J (Q7 J J J J (by assumption) J)) J J ?_)))))))))));refine DR.s (Qt.yes J J J (Qa J J J)) J J (DR.s (Qt.yes J J J (Qa J J J)) J J (DR.s (Qt.yes J J J (Q3 J J J J J (by omega) (by omega))) J J (DR.s (Qt.yes J J J (Q7 J J J J (by assumption) J)) J J (DR.s (Qt.yes J J J (Q2 J J J J (by omega) (by assumption) J)) J J (DR.s (Qt.yes J J J (Zu J J J J)) J J (DR.s (Qt.yes J J J (Qv J J J J (by assumption))) J J (DR.s (Qo J J J J) J J (DR.stop (by kernel_rfl) (by kernel_rfl) (zz (Ql J ?_))))))))));refine Qh (Q1 (Q0 (Qc (z0 J (z7 J (by omega) (z1 J (zz ?_)))))))
   exact ⟨(b4.length - w.Scores.length) - (t + 1),by omega,(fun t : Nat => (⟨_,[(0,.o (.c (.ptr 0 0))),(4,I (els w.Scores).length),(13,.o (.c (.ref 5))),(15,I (i : Int)),(16,I (((els w.Scores).length + t : Nat) : Int))],[.box [.ref 1,jn (w.Tick + 1),jn (nextR sd),.ref 2,.ref 3],.row 1 (els w.Level.Rows),.row 1 (els s4),.row 9 (els b4),.gh 0 (.c (.ptr 0 0)),.row 1 (els (spotsM w.Level))]⟩ : St)) (t + 1),⟨t + 1,by omega,at_go hbb (fun h => k3 h.2.2) hp_C,J⟩,X5 [0,1,2,3,4,5] (by decide) J (J) (.c J (.c J (.c J (.c J (.cons (Xw (by omega)) (.nil))))))⟩
  have p3 : decide (b.Y = y) = true := decide_eq_true k3
  rw [last_2 q hxy (at_hit hbb ⟨k1,k2,k3⟩)]
  refine Xi u8_36 u8_37 u8_38 J (DR.s (Qa J J J) J J (DR.s (Qz J J J) J J (DR.s (Qf J J J J (by decide)) J J (DR.s (Qg J J J J J) J J (DR.s (Qa J J J) J J (DR.s (Q3 J J J J J (by omega) (by omega)) J J (DR.s (Zm J J J J (by decide)) J J (DR.s (Q7 J J J J (by assumption) J) J J (DR.s (Qv J J J J (by assumption)) J J (DR.s (Qa J J J) J J (DR.s (Qt.yes J J J (Qa J J J)) J J ?_)))))))))));refine DR.s (Qt.yes J J J (Qz J J J)) J J (DR.s (Qt.yes J J J (Qf J J J J (by decide))) J J (DR.s (Qt.yes J J J (Qg J J J J J)) J J (DR.s (Qt.yes J J J (Qa J J J)) J J (DR.s (Qt.yes J J J (Q3 J J J J J (by omega) (by omega))) J J (DR.s (Qt.yes J J J (Zm J J J J (by decide))) J J (DR.s (Qt.yes J J J (Q7 J J J J (by assumption) J)) J J (DR.s (Qt.yes J J J (Qa J J J)) J J (DR.s (Qt.yes J J J (Qa J J J)) J J (DR.s (Qt.yes J J J (Q3 J J J J J (by omega) (by omega))) J J (DR.s (Qt.yes J J J (Q7 J J J J (by assumption) J)) J J (DR.s (Qt.yes J J J (Q2 J J J J (by omega) (by assumption) J)) J J ?_)))))))))));refine DR.s (Qt.yes J J J (Zu J J J J)) J J (DR.s (Qt.yes J J J (Qv J J J J (by assumption))) J J (DR.s (Qo J J J J) J J (DR.s (Qa J J J) J J (DR.s (Qt.yes J J J (Qa J J J)) J J (DR.s (Qt.yes J J J (Qz J J J)) J J (DR.s (Qt.yes J J J (Qf J J J J (by decide))) J J (DR.s (Qt.yes J J J (Qg J J J J J)) J J (DR.s (Qt.yes J J J (Qa J J J)) J J (DR.s (Qt.yes J J J (Q3 J J J J J (by omega) (by omega))) J J (DR.s (Qt.yes J J J (Zm J J J J (by decide))) J J (DR.s (Qt.yes J J J (Q7 J J J J (by assumption) J)) J J ?_)))))))))));refine DR.s (Qt.yes J J J (Qa J J J)) J J (DR.s (Qt.yes J J J (Qa J J J)) J J (DR.s (Qt.yes J J J (Q3 J J J J J (by omega) (by omega))) J J (DR.s (Qt.yes J J J (Q7 J J J J (by assumption) J)) J J (DR.s (Qt.yes J J J (Q2 J J J J (by omega) (by assumption) J)) J J (DR.s (Qt.yes J J J (Zu J J J J)) J J (DR.s (Qt.yes J J J (Qv J J J J (by assumption))) J J (DR.s (Qo J J J J) J J (DR.stop (by kernel_rfl) (by kernel_rfl) (zz (Qm J ?_))))))))));refine Xa (B_r (T_r (T_r (B_r (T_r (F_r ?_))))))
  exact Xo J (X3 [0,1,2,3,4] (by decide) J J J)
 ·have hb0 : decide ((((els w.Scores).length + t : Nat) : Int) < (els b4).length) = false := decide_eq_false (by omega)
  have hk : w.Scores.length + t = b4.length := by omega
  rw [hk,List.take_length] at hp_C
  rw [last_3 q hxy hp_C]
  refine Qd (zy (z0 J (z0 J (zx (Qz J J J) J (z2 J J J (z3 J (zx (Zr J J J J) J (z9a J (by assumption) (zz ?_)))))))));refine Ql J (Q9 (T_x (T_x (Xl (Q0 (Xi [[],[],[1],[1,2],[1,2,3],[],[],[5,6],[5,6,7],[5,6,7,8],[5,6,7,8,9],[],[],[11,12],[11,12,13],[11,12,13,14],[11,12,13,14,15],[5,6,7,8,9,10,11,12,13,14,15,16],[5,6,7,8,9,10,11,12,13,14,15,16,17],[1,2,3,4,5,6,7,8,9,10,11,12,13,14,15,16,17,18],(u9 20),(u9 21),(u9 22)] [[],[],[287],[287,288],[287,288,289],[],[],[291,292],[291,292,293],[291,292,293,294],[291,292,293,294,295],[],[],[297,298],[297,298,299],[297,298,299,300],[297,298,299,300,301],[291,292,293,294,295,296,297,298,299,300,301,302],[291,292,293,294,295,296,297,298,299,300,301,302,303],[287,288,289,290,291,292,293,294,295,296,297,298,299,300,301,302,303,304],[286,287,288,289,290,291,292,293,294,295,296,297,298,299,300,301,302,303,304,305],[286,287,288,289,290,291,292,293,294,295,296,297,298,299,300,301,302,303,304,305,306],[286,287,288,289,290,291,292,293,294,295,296,297,298,299,300,301,302,303,304,305,306,307]] [[287,288,289,290,291,292,293,294,295,296,297,298,299,300,301,302,303,304,305],[286,291,292,293,294,295,296,297,298,299,300,301,302,303,304],[286,291,292,293,294,295,296,297,298,299,300,301,302,303,304],[286,291,292,293,294,295,296,297,298,299,300,301,302,303,304],[286,291,292,293,294,295,296,297,298,299,300,301,302,303,304],[286,287,288,289,290,292,297,298,299,300,301,302],[286,287,288,289,290,291,297,298,299,300,301,302],[286,287,288,289,290,297,298,299,300,301,302],[286,287,288,289,290,297,298,299,300,301,302],[286,287,288,289,290,297,298,299,300,301,302],[286,287,288,289,290,297,298,299,300,301,302],[286,287,288,289,290,291,292,293,294,295,296,298],[286,287,288,289,290,291,292,293,294,295,296,297],[286,287,288,289,290,291,292,293,294,295,296],[286,287,288,289,290,291,292,293,294,295,296],[286,287,288,289,290,291,292,293,294,295,296],[286,287,288,289,290,291,292,293,294,295,296],[286,287,288,289,290],[286,287,288,289,290],[286],[],[],[],[0]] J (DR.s (Qa J J J) J J (DR.s (Qa J J J) J J (DR.s (Qz J J J) J J (DR.s (Qf J J J J (by decide)) J J (DR.s (Qg J J J J J) J J ?_)))))))))));refine DR.s (Qa J J J) J J (DR.s (Qa J J J) J J (DR.s (Q3 J J J J J (by omega) (by omega)) J J (DR.s (Q7 J J J J (by assumption) J) J J (DR.s (Q2 J J J J (by omega) (by assumption) J) J J (DR.s (Zu J J J J) J J (DR.s (Qa J J J) J J (DR.s (Qa J J J) J J (DR.s (Q3 J J J J J (by omega) (by omega)) J J (DR.s (Q7 J J J J (by assumption) J) J J (DR.s (Q2 J J J J (by omega) (by assumption) J) J J (DR.s (Zu J J J J) J J ?_)))))))))));refine DR.s (Zf J J J J J) J J (DR.s (Zd J J J J J J) J J (DR.stop (by kernel_rfl) (by kernel_rfl) ?_));refine AL.weak (st' := (⟨_,[(286,.o (.c (.ptr 0 0))),(290,.o (.c (.ref 3))),(304,.o (.c (.sb 5 1 9)))],[.box [.ref 1,jn (w.Tick + 1),jn (nextR sd),.ref 2,.ref 3],.row 1 (els w.Level.Rows),.row 1 (els s4),.row 9 (els b4),.gh 0 (.c (.ptr 0 0)),.box ((Enc.e (itemB x y)).map (V1.rd []))]⟩ : St)) (W_gj [0,1,2,3,4,6] J) ?_;refine Xx J J J J J J J J J J J J J J (by omega) (by omega) ?_;refine zx (Qz J J J) J (z2 J J J ?_);refine Q5 J J J J J J J J (Qe (F_n ?_))
  exact Xo J (X3 [0,1,2,3,4] (by decide) J (by exact rwBo (by rw [Yj]; rfl)) J)
end
section
open Go.RowKit

theorem S_StepWorld (w : TWorld) (row : List Int) (hg : Enc.gd w) (gr : Enc.gd row) (h1 : w.Level.Rows.length ≤ 1048576) (h2 : w.Scores.length ≤ 1048576) (h3 : w.Bodies.length ≤ 1048576) : Con Try.prog 25 [] [ag w,al row] [.row 1 (els w.Level.Rows),.row 1 (els (stepW w row).Scores),.row 9 (els (stepW w row).Bodies)] (.o (.ag [.ref 0,jn (stepW w row).Tick,jn (stepW w row).Seed,.ref 1,.ref 2])) := by
 have hls := Yl w.Scores
 have hlb := Yl w.Bodies
 have c1 := S_copyWorld w hg h1 h2 h3
 have c2 := S_WorldOk w hg
 have c3 := S_rowOk row ((els w.Scores).length : Int) gr
 rw [show rowOk row ((els w.Scores).length : Int) = rowOk row (w.Scores.length : Int) by rw [hls]] at c3
 cases ho : worldOk w with
 | false =>
  rw [step_F (fun q => by rw [ho] at q; cases q.1)]
  rw [ho] at c2
  refine Con.of Try.func25 J Try.ntmps25 J (fun E => ?_)
  refine zy (M1 (Qq J J J J) J J (M1 (Qx J J J) J J (zz (zy (z4 J J J ?_)))));refine M1 (Zi J J (c1) J J J) J J ?_;refine M1 (Qx J J J) J J ?_;refine Qy J J J J J J J J J (zz (Qd (zy (z4 J J J ?_))));refine zx (Qj J J (c2) J) J ?_;refine zn J (z0 J (z6 J (z6 J (z6 J (zpT J (z0 J (z6 J (z6 J (z6 J (z6 J (z6 J ?_)))))))))));refine z6 J (zpT J (zz (Qm J (zy (z4 J J J ?_)))));refine Qy J J J J J J J J J (zz (Xa (T_r (F_r ?_))))
  exact Xm J J J J (X3 [2,3,4] (by decide) J J J)
 | true =>
 rw [ho] at c2
 by_cases ht : w.Tick = 100000
 ·have f1 : decide (w.Tick = 100000) = true := decide_eq_true ht
  rw [step_F (fun q => q.2.1 ht)]
  refine Con.of Try.func25 J Try.ntmps25 J (fun E => ?_)
  refine zy (M1 (Qq J J J J) J J (M1 (Qx J J J) J J (zz (zy (z4 J J J ?_)))));refine M1 (Zi J J (c1) J J J) J J ?_;refine M1 (Qx J J J) J J ?_;refine Qy J J J J J J J J J (zz (Qd (zy (z4 J J J ?_))));refine zx (Qj J J (c2) J) J ?_;refine zn J (z0 J (z5 J (z2 J J J (z5 J (z3 J (z5 J (z9e J (by assumption) (zpF J (z0 J (z6 J (z6 J ?_)))))))))));refine z6 J (z6 J (z6 J (z6 J (zpT J (zz (Qm J (zy (z4 J J J ?_))))))));refine Qy J J J J J J J J J (zz (Xa (T_r (F_r ?_))))
  exact Xm J J J J (X3 [2,3,4] (by decide) J J J)
 have f1 : decide (w.Tick = 100000) = false := decide_eq_false ht
 cases hr : rowOk row (w.Scores.length : Int) with
 | false =>
  rw [step_F (fun q => by rw [hr] at q; cases q.2.2)]
  rw [hr] at c3
  refine Con.of Try.func25 J Try.ntmps25 J (fun E => ?_)
  refine zy (M1 (Qq J J J J) J J (M1 (Qx J J J) J J (zz (zy (z4 J J J ?_)))));refine M1 (Zi J J (c1) J J J) J J ?_;refine M1 (Qx J J J) J J ?_;refine Qy J J J J J J J J J (zz (Qd (zy (z4 J J J ?_))));refine zx (Qj J J (c2) J) J ?_;refine zn J (z0 J (z5 J (z2 J J J (z5 J (z3 J (z5 J (z9e J (by assumption) (zpF J (z0 J (z5 J (z0 J ?_)))))))))));refine z5 J (z2 J J J (z5 J (z3 J (z5 J (zx (Zq J J J) J (z5 J ?_))))));refine zx (Qj J J (c3) J) J ?_;refine z5 J (zn J (zpF J (zz (Qm J (zy (z4 J J J ?_))))));refine Qy J J J J J J J J J (zz (Xa (T_r (F_r ?_))))
  exact Xm J J J J (X3 [2,3,4] (by decide) J J J)
 | true =>
 rw [hr] at c3
 rw [step_T ⟨ho,ht,hr⟩]
 have d1 := S_l02Step w row hg ho ht hr
 refine Con.of Try.func25 J Try.ntmps25 J (fun E => ?_)
 refine zy (M1 (Qq J J J J) J J (M1 (Qx J J J) J J (zz (zy (z4 J J J ?_)))));refine M1 (Zi J J (c1) J J J) J J ?_;refine M1 (Qx J J J) J J ?_;refine Qy J J J J J J J J J (zz (Qd (zy (z4 J J J ?_))));refine zx (Qj J J (c2) J) J ?_;refine zn J (z0 J (z5 J (z2 J J J (z5 J (z3 J (z5 J (z9e J (by assumption) (zpF J (z0 J (z5 J (z0 J ?_)))))))))));refine z5 J (z2 J J J (z5 J (z3 J (z5 J (zx (Zq J J J) J (z5 J ?_))))));refine zx (Qj J J (c3) J) J ?_;refine z5 J (zn J (zpF J (zz (Ql J (Qh (Q0 (zy (z0 J ?_))))))));refine AL.weak (st' := (⟨_,[(4,.o (.c (.ptr 4 0))),(5,.o (.c (.ptr 0 0))),(25,L row)],[.box [.ref 1,jn w.Tick,jn w.Seed,.ref 2,.ref 3],.row 1 (els w.Level.Rows),.row 1 (els w.Scores),.row 9 (els w.Bodies),.box [nilV,jn 0,jn 0,nilV,nilV]]⟩ : St)) (W_gj [5,2,3,4,1] J) ?_
 clear c1 c2 c3 f1
 refine Xd (lo := [_,_,_,_]) (gs := [(0,.c (.ptr 0 0))]) (lo' := [_,_,_,_]) (new := []) [0,1,2,3] [(0,0,.ptr 0 0)] (d1) J J J J J J J J J J J J J J J J J ?_;refine zz (zy (z4 J J J ?_));refine Qy J J J J J J J J J (zz (Xa (F_r ?_)))
 exact Xm J J J J (X3 [1,2,3] (by decide) J J J)
end
section
open Go.RowKit

theorem Enc.gd_take {α : Type} [Enc α] {xs : List α} (h : Enc.gd xs) (n : Nat) : Enc.gd (xs.take n) := ⟨Nat.le_trans (by simp; omega) h.1,fun x hx => h.2 x (List.mem_of_mem_take hx)⟩
structure RepIn (y : TReplay) : Prop where
 gd : Enc.gd y
 h1 : y.Level.Rows.length ≤ 1048576
 h2 : y.Keys.length ≤ 1048576
 h3 : y.Rows.length ≤ 1048576
 h4 : tot y.Rows ≤ 1048576
structure WorIn (w : TWorld) : Prop where
 gd : Enc.gd w
 h1 : w.Level.Rows.length ≤ 1048576
 h2 : w.Scores.length ≤ 1048576
 h3 : w.Bodies.length ≤ 1048576
end
section
open Go.RowKit

noncomputable def runM (w : TWorld) (rows : List (List Int)) : TWorld := rows.foldl stepW w
theorem step_in {w : TWorld} {row : List Int} (h : WorIn w) : WorIn (stepW w row) := by
 have h1 := stepW_fits (row := row) h.gd
 exact ⟨h1.1,by rw [stepW_level]; exact h.h1,by rw [h1.2.1]; exact h.h2,by have := h.h3; omega⟩
theorem ran_in : ∀ (rows : List (List Int)) {w : TWorld},WorIn w → WorIn (runM w rows)
 | [],_,h => h
 | r :: rs,w,h => ran_in rs (w := stepW w r) (step_in h)
theorem runM_next {w x : TWorld} {rows : List (List Int)} {k : Nat} {r : List Int} (hr : rows[k]? = some r) (h : x = runM w (rows.take k)) : stepW x r = runM w (rows.take (k + 1)) := by
 obtain ⟨hk,rfl⟩ := List.getElem?_eq_some_iff.1 hr
 rw [List.take_succ_eq_append_getElem hk,h]
 unfold runM
 rw [List.foldl_append]
 rfl
theorem I_RunWorld (w : TWorld) (rows : List (List Int)) (iw : WorIn w) (gr : Enc.gd rows) : Con Try.prog 34 [] [ag w,al rows] [.row 1 (els (runM w rows).Level.Rows),.row 1 (els (runM w rows).Scores),.row 9 (els (runM w rows).Bodies)] (.o (.ag [.ref 0,jn (runM w rows).Tick,jn (runM w rows).Seed,.ref 1,.ref 2])) := by
 have c1 := I_copyWorld w iw.gd iw.h1 iw.h2 iw.h3
 have hlr := Yl rows
 have hlg := gr.1
 refine Con.of Try.func34 J Try.ntmps34 J (fun E => ?_)
 refine zy (M1 (Qq J J J J) J J (M1 (Qx J J J) J J (zz (zy (z4 J J J ?_)))));refine M1 (Zi J J (c1) J J J) J J ?_;refine M1 (Qx J J J) J J ?_;refine Qy J J J J J J J J J (zz (Qd (zy (z0 J (zx (Zq J J J) J (z0 J (zz (Qk ?_))))))))
 refine AWP.pre (st' := (⟨_,[(4,.o (.c (.ptr 4 0))),(5,.o (.c (.ptr 0 0))),(10,L rows),(11,I (els rows).length),(12,I 0)],[.box [.ref 1,jn w.Tick,jn w.Seed,.ref 2,.ref 3],.row 1 (els w.Level.Rows),.row 1 (els w.Scores),.row 9 (els w.Bodies),.box [nilV,jn 0,jn 0,nilV,nilV]]⟩ : St)) ?_ (W_gj [5,2,3,4,1] J)
 clear c1
 refine A_lq (fun m st => ∃ (k : Nat) (x : TWorld),k + m = rows.length ∧ (x = runM w (rows.take k)) ∧ st = (⟨_,[(4,.o (.c (.ptr 4 0))),(5,.o (.c (.ptr 0 0))),(10,L rows),(11,I (els rows).length),(12,I k)],[.box [.ref 1,jn x.Tick,jn x.Seed,.ref 2,.ref 3],.row 1 (els x.Level.Rows),.row 1 (els x.Scores),.row 9 (els x.Bodies),.box [nilV,jn 0,jn 0,nilV,nilV]]⟩ : St)) (rows.length) ⟨_,⟨0,w,by omega,J,J⟩,W_gj [0,1,2,3,4] J⟩ ?_
 rintro m_A _ ⟨k,x,hk_A,hp_A,rfl⟩
 have ix : WorIn x := by rw [hp_A]; exact ran_in _ iw
 by_cases hlt : k < rows.length
 ·have hb0 : decide ((k : Int) < (els rows).length) = true := decide_eq_true (by omega)
  obtain ⟨r,hr⟩ := Ka hlt
  have her := Yn hr
  have cs := I_StepWorld x r ix.gd (gr.2 r (List.mem_of_getElem? hr)) ix.h1 ix.h2 ix.h3
  have hnx := runM_next hr hp_A
  have hlv := stepW_level x r
  generalize stepW x r = z at cs hnx hlv
  rw [← hlv] at cs
  refine zy (z9a J (by assumption) (zz (Qd (Qm J (Qh (Q0 (Qd (Qk (Qd ?_)))))))));refine Qc (zx (Q2 J J J J (by omega) (by assumption) J) J (zx (Zu J J J J) J (z1 J (zz (Qc (z4 J J J (z0 J ?_)))))));refine M1 (Zi J J (cs) J J J) J J ?_;refine Qy J J J J J J J J J (Qe (Q1 (Q0 (Qc (z7 J (by omega) (z0 J (zz ?_)))))))
  exact ⟨rows.length - (k + 1),by omega,_,⟨k + 1,z,by omega,hnx,J⟩,W_gj [0,5,6,7,4] J⟩
 have hb0 : decide ((k : Int) < (els rows).length) = false := decide_eq_false (by omega)
 have hk : k = rows.length := by omega
 rw [hk,List.take_length] at hp_A
 rw [← hp_A]
 refine zy (z9a J (by assumption) (zz (Qd (Ql J (Q9 (T_x (T_x (Xl (Q0 ?_)))))))));refine zy (z4 J J J ?_);refine Qy J J J J J J J J J (zz (Xa (F_r ?_)))
 exact Xm J J J J (X3 [1,2,3] (by decide) J J J)
theorem S_RunWorld (w : TWorld) (rows : List (List Int)) (iw : WorIn w) (gr : Enc.gd rows) : Con Try.prog 9 [] [ag w,al rows] [.row 1 (els (runM w rows).Level.Rows),.row 1 (els (runM w rows).Scores),.row 9 (els (runM w rows).Bodies)] (.o (.ag [.ref 0,jn (runM w rows).Tick,jn (runM w rows).Seed,.ref 1,.ref 2])) := by
 have c1 := S_copyWorld w iw.gd iw.h1 iw.h2 iw.h3
 have hlr := Yl rows
 have hlg := gr.1
 refine Con.of Try.func9 J Try.ntmps9 J (fun E => ?_)
 refine zy (M1 (Qq J J J J) J J (M1 (Qx J J J) J J (zz (zy (z4 J J J ?_)))));refine M1 (Zi J J (c1) J J J) J J ?_;refine M1 (Qx J J J) J J ?_;refine Qy J J J J J J J J J (zz (Qd (zy (z1 J (zz (Qk ?_))))))
 refine AWP.pre (st' := (⟨_,[(4,.o (.c (.ptr 4 0))),(5,.o (.c (.ptr 0 0))),(1,L rows),(6,I 0)],[.box [.ref 1,jn w.Tick,jn w.Seed,.ref 2,.ref 3],.row 1 (els w.Level.Rows),.row 1 (els w.Scores),.row 9 (els w.Bodies),.box [nilV,jn 0,jn 0,nilV,nilV]]⟩ : St)) ?_ (W_gj [5,2,3,4,1] J)
 clear c1
 refine A_lq (fun m st => ∃ (k : Nat) (x : TWorld),k + m = rows.length ∧ (x = runM w (rows.take k)) ∧ st = (⟨_,[(4,.o (.c (.ptr 4 0))),(5,.o (.c (.ptr 0 0))),(1,L rows),(6,I k)],[.box [.ref 1,jn x.Tick,jn x.Seed,.ref 2,.ref 3],.row 1 (els x.Level.Rows),.row 1 (els x.Scores),.row 9 (els x.Bodies),.box [nilV,jn 0,jn 0,nilV,nilV]]⟩ : St)) (rows.length) ⟨_,⟨0,w,by omega,J,J⟩,W_gj [0,1,2,3,4] J⟩ ?_
 rintro m_A _ ⟨k,x,hk_A,hp_A,rfl⟩
 have ix : WorIn x := by rw [hp_A]; exact ran_in _ iw
 by_cases hlt : k < rows.length
 ·have hb0 : decide ((k : Int) < (els rows).length) = true := decide_eq_true (by omega)
  obtain ⟨r,hr⟩ := Ka hlt
  have her := Yn hr
  have cs := S_StepWorld x r ix.gd (gr.2 r (List.mem_of_getElem? hr)) ix.h1 ix.h2 ix.h3
  have hnx := runM_next hr hp_A
  have hlv := stepW_level x r
  generalize stepW x r = z at cs hnx hlv
  rw [← hlv] at cs
  refine Qd (zy (z0 J (z0 J (zx (Zq J J J) J (z9a J (by assumption) (zz (Qm J (Qh (Q0 ?_)))))))));refine Qd (Qk (Xi [[],[],[],[1,2],[1,2,3],(u9 5),(u9 6)] [[],[],[],[16,17],[16,17,18],[15,16,17,18,19],[15,16,17,18,19,20]] [[16,17,18,19],[15,17],[15,16],[15],[15],[],[]] J (DR.s (Qu J J J J J J) J J (DR.s (Qa J J J) J J (DR.s (Qa J J J) J J (DR.s (Q2 J J J J (by omega) (by assumption) J) J J (DR.s (Zu J J J J) J J ?_)))))));refine DR.s (Zi J J (cs) J J J) J J ?_;refine DR.stop (by kernel_rfl) (by kernel_rfl) ?_;refine Qy J J J J J J J J J (Qe (Q1 (Q0 (Qc (z0 J (z7 J (by omega) (z1 J (zz ?_))))))))
  exact ⟨rows.length - (k + 1),by omega,_,⟨k + 1,z,by omega,hnx,J⟩,W_gj [0,5,6,7,4] J⟩
 have hb0 : decide ((k : Int) < (els rows).length) = false := decide_eq_false (by omega)
 have hk : k = rows.length := by omega
 rw [hk,List.take_length] at hp_A
 rw [← hp_A]
 refine Qd (zy (z0 J (z0 J (zx (Zq J J J) J (z9a J (by assumption) (zz (Ql J (Q9 (T_x ?_)))))))));refine T_x (Xl (Q0 (zy (z4 J J J ?_))));refine Qy J J J J J J J J J (zz (Xa (F_r ?_)))
 exact Xm J J J J (X3 [1,2,3] (by decide) J J J)
end
section
open Go.RowKit

theorem drop_more {s : ByteArray} {p : Nat} {a r : List UInt8} (h : s.data.toList.drop p = a ++ r) : s.data.toList.drop (p + a.length) = r := by
 have := congrArg (List.drop a.length) h
 rw [List.drop_drop,List.drop_left] at this
 exact this
theorem unpackInts_enc2 {s : ByteArray} {p : Nat} {xs : List Int} {r : List UInt8} (hx : ∀ x ∈ xs,0 ≤ signless x) (hL : xs.length ≤ 1073741824) (hs : s.data.toList.drop p = (packInts xs).data.toList ++ r) : unpackInts s (p : Int) = some (xs,(packInts xs).size) := by
 have hall : xs.all (fun x => decide (0 ≤ signless x)) = true := by simpa using hx
 have hp : packInts xs = bs (encVar xs.length ++ xs.flatMap fun x => encVar (signless x)) := by
  rw [packInts,if_pos hall,packK,List.take_length]
 have hl : s.data.toList.drop p = encVar xs.length ++ ((xs.flatMap fun x => encVar (signless x)) ++ r) := by rw [hs,hp,bs_list,List.append_assoc]
 have h1 : decVar s (p : Int) = _ := Yh (n := (xs.length : Int)) (by omega) (by omega) hl
 have h2 := uiGo_enc s p r xs (encVar (xs.length : Int)).length hx (drop_more hl)
 rw [unpackInts,h1]
 simp only [Int.toNat_natCast,h2]
 congr 2
 rw [hp,Yb,List.length_append]
theorem encVar_pos {n : Int} (h : 0 ≤ n ∧ n ≤ 1099511627775) : 1 ≤ (encVar n).length := by
 rw [encVar,if_pos h]
 exact (varN_len _).1
theorem unpackText_encT {s t : ByteArray} {p : Nat} {r : List UInt8} (ht : t.size ≤ 1099511627775) (hs : s.data.toList.drop p = (packText t).data.toList ++ r) : unpackText s (p : Int) = some (t,(packText t).size) := by
 have hp : (packText t).data.toList = encVar t.size ++ t.data.toList := by rw [packText,ByteArray.data_append,Array.toList_append]
 have hl : s.data.toList.drop p = encVar t.size ++ (t.data.toList ++ r) := by rw [hs,hp,List.append_assoc]
 have h1 : decVar s (p : Int) = _ := Yh (n := (t.size : Int)) (by omega) (by omega) hl
 have hd := drop_more hl
 have hlen : t.data.toList.length = t.size := by simp
 have hsl : s.data.toList.length = s.size := by simp
 have hle := congrArg List.length hl
 rw [List.length_drop,List.length_append,List.length_append,hlen,hsl] at hle
 have hpos := encVar_pos (n := (t.size : Int)) (by omega)
 rw [unpackText,h1]
 simp only
 rw [if_neg (by omega)]
 have hsz : (packText t).size = (encVar t.size).length + t.size := by
  show (packText t).data.size = _
  rw [← Array.length_toList,hp,List.length_append,hlen]
 have hx : s.extract ((p : Int) + ((encVar t.size).length : Int)).toNat ((p : Int) + ((encVar t.size).length : Int) + (t.size : Int)).toNat = t := by
  rw [show ((p : Int) + ((encVar t.size).length : Int)).toNat = p + (encVar t.size).length by omega,show ((p : Int) + ((encVar t.size).length : Int) + (t.size : Int)).toNat = (p + (encVar t.size).length) + t.size by omega,extract_bytes,bytesL,hd,← hlen,List.take_left,bs_of]
 rw [hx,hsz,Int.toNat_natCast]
theorem runs_val {x : Int} {n : Nat} (hx : 0 ≤ x ∧ x ≤ 15) : (x + 16 * (n : Int)) / 16 = n ∧ (x + 16 * (n : Int)) % 16 = x := by omega
theorem tw_rep (x : Int) : ∀ r : List Int,List.replicate (r.takeWhile (· == x)).length x ++ r.drop (r.takeWhile (· == x)).length = r
 | [] => rfl
 | y :: r => by
  rw [List.takeWhile_cons]
  by_cases h : y = x
  ·subst h
   simp only [beq_self_eq_true,if_true,List.length_cons,List.replicate_succ,List.drop_succ_cons,List.cons_append]
   rw [tw_rep y r]
  ·have : (y == x) = false := by simpa using h
   rw [this]
   simp
theorem tw_le (x : Int) (r : List Int) : (r.takeWhile (· == x)).length ≤ r.length := (List.takeWhile_prefix _).length_le
theorem utGo_enc (s : ByteArray) : ∀ (N : Nat) (xs : List Int) (f pos : Nat) (acc : List Int),xs.length ≤ N → (∀ x ∈ xs,0 ≤ x ∧ x ≤ 15) → acc.length + xs.length ≤ 400 → s.data.toList.drop pos = packRuns xs → s.size ≤ pos + f → utGo s f pos acc = some (acc ++ xs) := by
 intro N
 induction N with
 | zero =>
  intro xs f pos acc hN hx hL hd hf
  have : xs = [] := List.length_eq_zero_iff.1 (by omega)
  subst this
  rw [packRuns] at hd
  have hl := congrArg List.length hd
  rw [List.length_drop] at hl
  simp only [List.length_nil,Array.length_toList] at hl
  have h3 : s.data.size = s.size := rfl
  rw [utGo_end (by omega),List.append_nil]
 | succ N ih =>
  intro xs f pos acc hN hx hL hd hf
  match xs with
  | [] => exact (ih [] f pos acc (by simp) hx hL hd hf)
  | x :: r =>
   rw [packRuns] at hd
   have hle := tw_le x r
   have hxr := hx x (by simp)
   simp only [List.length_cons] at hN hL
   have hv := runs_val (n := (r.takeWhile (· == x)).length + 1) hxr
   have hb : 0 ≤ x + 16 * (((r.takeWhile (· == x)).length + 1 : Nat) : Int) ∧ x + 16 * (((r.takeWhile (· == x)).length + 1 : Nat) : Int) ≤ 1099511627775 := by omega
   have h1 := Yh hb.1 hb.2 hd
   have hpos := encVar_pos hb
   have hlt : pos < s.size := by
    have hl := congrArg List.length hd
    rw [List.length_drop,List.length_append] at hl
    simp only [Array.length_toList] at hl
    have h3 : s.data.size = s.size := rfl
    omega
   cases f with
   | zero => omega
   | succ f =>
    rw [utGo,if_pos hlt,h1]
    simp only
    rw [hv.1,hv.2,if_neg (by omega),Int.toNat_natCast]
    have := ih (r.drop (r.takeWhile (· == x)).length) f (pos + (encVar (x + 16 * (((r.takeWhile (· == x)).length + 1 : Nat) : Int))).length) (acc ++ List.replicate ((r.takeWhile (· == x)).length + 1) x) (by rw [List.length_drop]; omega) (fun y hy => hx y (List.mem_cons_of_mem _ (List.mem_of_mem_drop hy))) (by rw [List.length_append,List.length_replicate,List.length_drop]; omega) (drop_more hd) (by omega)
    rw [this,List.append_assoc,List.replicate_succ,List.cons_append,tw_rep x r]
theorem unpackTrack_pack {xs : List Int} (hL : xs.length ≤ 400) (hx : inOk xs = true) : unpackTrack (packTrack xs) = some xs := by
 have hp : packTrack xs = bs (packRuns xs) := by rw [packTrack,if_pos ⟨hL,hx⟩]
 have h := utGo_enc (packTrack xs) xs.length xs (packTrack xs).size 0 [] (Nat.le_refl _) (fun x hxm => Yy.1 (List.all_eq_true.1 hx x hxm)) (by simpa using hL) (by rw [hp,bs_list,List.drop_zero]) (by omega)
 rw [unpackTrack,h]
 simp
theorem colsB_split (rows : List (List Int)) : ∀ m k,k < m → ∃ r,(colsB rows m).data.toList = (colsB rows k).data.toList ++ ((packText (packTrack (colM rows k))).data.toList ++ r)
 | 0,k,h => by omega
 | m + 1,k,h => by
  rw [colsB,ByteArray.data_append,Array.toList_append]
  by_cases hk : k = m
  ·subst hk
   exact ⟨[],by rw [List.append_nil]⟩
  ·obtain ⟨r,hr⟩ := colsB_split rows m k (by omega)
   exact ⟨r ++ (packText (packTrack (colM rows m))).data.toList,by rw [hr]; simp [List.append_assoc]⟩
theorem snocs_take {rows : List (List Int)} {m k : Nat} (hr : ∀ r ∈ rows,r.length = m) (hk : k < m) : snocs (rows.map (·.take k)) (colM rows k) = rows.map (·.take (k + 1)) := by
 induction rows with
 | nil => rfl
 | cons r rows ih =>
  have h1 := hr r (by simp)
  have h2 := ih fun x hx => hr x (by simp [hx])
  simp only [snocs,colM,List.map_cons,List.zipWith_cons_cons] at h2 ⊢
  rw [h2,List.take_add_one,List.getD_eq_getElem?_getD,List.getElem?_eq_getElem (by omega)]
  rfl
theorem colsGo_enc {s : ByteArray} {rows : List (List Int)} {m p0 : Nat} {r0 : List UInt8} (hL : rows.length ≤ 400) (hr : ∀ r ∈ rows,rowOk r m = true) (hlen : ∀ r ∈ rows,r.length = m) (hs : s.data.toList.drop p0 = (colsB rows m).data.toList ++ r0) :
  ∀ c k,k + c = m → colsGo s rows.length c (p0 + (colsB rows k).size) (rows.map (·.take k)) = some (rows,p0 + (colsB rows m).size)
 | 0,k,h => by
  have hk : k = m := by omega
  subst hk
  rw [colsGo]
  congr 2
  conv => rhs; rw [← List.map_id rows]
  exact List.map_congr_left fun r hrm => by rw [← hlen r hrm,List.take_length]; rfl
 | c + 1,k,h => by
  obtain ⟨r,hsp⟩ := colsB_split rows m k (by omega)
  have hd : s.data.toList.drop (p0 + (colsB rows k).size) = (packText (packTrack (colM rows k))).data.toList ++ (r ++ r0) := by
   rw [hsp,List.append_assoc] at hs
   have := drop_more hs
   rw [show (colsB rows k).data.toList.length = (colsB rows k).size by simp] at this
   rw [this,List.append_assoc]
  have hin : inOk (colM rows k) = true := List.all_eq_true.2 fun x hx => by
   obtain ⟨r,h1,rfl⟩ := List.mem_map.1 hx
   have h2 := hr r h1
   have h3 := hlen r h1
   rw [List.getD_eq_getElem?_getD,List.getElem?_eq_getElem (by omega)]
   have h4 : inOk r = true := by
    simp only [rowOk,Bool.and_eq_true] at h2
    first
     | exact h2.2
     | exact h2.1
   exact List.all_eq_true.1 h4 _ (List.getElem_mem (by omega))
  have h1 := unpackText_encT (by have := Y8 (colM rows k); omega) hd
  rw [colsGo,h1]
  simp only
  rw [unpackTrack_pack (by rw [Yg]; exact hL) hin]
  simp only
  rw [if_pos (Yg rows k),snocs_take hlen (by omega)]
  have ih := colsGo_enc hL hr hlen hs c (k + 1) (by omega)
  rw [colsB,Ye] at ih
  rw [Nat.add_assoc]
  exact ih
theorem ds_back {first : Int} {rows : List (List Int)} {n : Nat} (hf : 0 ≤ first ∧ first ≤ 400) (hl : 1 ≤ rows.length ∧ rows.length ≤ 20) (hn : 1 ≤ n ∧ n ≤ 4) (hr : ∀ r ∈ rows,rowOk r n = true) (hlen : ∀ r ∈ rows,r.length = n) : dsI (encodeStream first rows) = some (first,rows) := by
 have hh : (rows.headD []).length = n := by
  rw [head_at (by omega)]
  exact hlen _ (List.getElem_mem (by omega))
 have he : encodeStream first rows = sealText (packInts [first,(rows.length : Int),(n : Int)] ++ colsB rows n) := by
  rw [encodeStream,hh,if_pos ⟨Yy.2 hf,Yy.2 (by omega),Yy.2 (by omega),List.all_eq_true.2 hr⟩]
 have h2 : ∀ x ∈ [first,(rows.length : Int),(n : Int)],0 ≤ signless x := fun x hx => by
  simp only [List.mem_cons,List.not_mem_nil,or_false] at hx
  unfold signless
  rw [if_pos (by omega),if_pos (by omega)]
  omega
 have hb : (packInts [first,(rows.length : Int),(n : Int)] ++ colsB rows n).data.toList = (packInts [first,(rows.length : Int),(n : Int)]).data.toList ++ ((colsB rows n).data.toList ++ []) := by rw [ByteArray.data_append,Array.toList_append,List.append_nil]
 have h1 := unpackInts_enc2 (s := packInts [first,(rows.length : Int),(n : Int)] ++ colsB rows n) (p := 0) h2 (by simp) (by rw [List.drop_zero]; exact hb)
 have hd : (packInts [first,(rows.length : Int),(n : Int)] ++ colsB rows n).data.toList.drop (packInts [first,(rows.length : Int),(n : Int)]).size = (colsB rows n).data.toList ++ [] := by
  have := drop_more (p := 0) (by rw [List.drop_zero]; exact hb)
  rw [Nat.zero_add] at this
  rw [← this]
  congr 1
 have h3 := colsGo_enc (by omega) hr hlen hd n 0 (by omega)
 rw [show (colsB rows 0).size = 0 from rfl,Nat.add_zero,show rows.map (·.take 0) = List.replicate rows.length [] by simp [List.eq_replicate_iff]] at h3
 rw [he,dsI,openText_seal]
 simp only
 rw [show (0 : Int) = ((0 : Nat) : Int) from rfl,h1]
 simp only [Int.toNat_natCast]
 rw [if_pos (by omega),h3]
 simp only
 rw [if_pos (by rw [Ye])]
/-! ### Worlds -/
theorem ints_rng {w : TWorld} (ho : worldOk w = true) : ∀ x ∈ worldInts w,0 ≤ signless x := by
 obtain ⟨hl,ht,hs,hn,hsc,hb,hbo⟩ := Ke ho
 have ht := Yy.1 ht
 have hs := Yy.1 hs
 intro x hx
 have hb : -549755813888 ≤ x ∧ x ≤ 549755813887 := by
  simp only [worldInts,List.mem_append,List.mem_cons,List.not_mem_nil,or_false,List.mem_flatMap] at hx
  rcases hx with (h | h) | ⟨b,hb,h⟩
  ·omega
  ·have := Z6 ho x h; omega
  ·obtain ⟨k,hk,rfl⟩ := List.mem_iff_getElem.1 hb
   have h1 := hbo k hk
   unfold bodyAt at h1
   rw [Bool.and_eq_true] at h1
   have h2 := h1.1
   simp only [bodyM,Bool.and_eq_true,Bool.not_eq_true',Yy] at h2
   obtain ⟨hk1,ho1,hp,hvx,hvy,htl⟩ := h2
   have hpl := Y9 hl (size_in (Yy.2 hk1)) hp
   have htt : (-2 ≤ w.Bodies[k].Aim ∧ w.Bodies[k].Aim ≤ 2) ∧ (0 ≤ w.Bodies[k].Life ∧ w.Bodies[k].Life ≤ 3) ∧ (0 ≤ w.Bodies[k].Timer ∧ w.Bodies[k].Timer ≤ 25) := by
    unfold tailM at htl
    split at htl
    ·simp only [Bool.and_eq_true,decide_eq_true_eq,Yy] at htl
     obtain ⟨⟨h4,h5⟩,h6⟩ := htl
     split at h6
     ·have := Yy.1 h6; omega
     ·have := Yy.1 h6; omega
    ·split at htl
     ·simp only [Bool.and_eq_true,decide_eq_true_eq,Yy] at htl; omega
     ·simp only [decide_eq_true_eq] at htl; omega
   simp only [bodyInts,List.mem_cons,List.not_mem_nil,or_false] at h
   omega
 unfold signless
 rw [if_pos hb]
 split <;> omega
theorem world_back {w : TWorld} (ho : worldOk w = true) : readWorld w.Level (worldBytes w) = some w := by
 obtain ⟨hl,ht,hs,hn,hsc,hb,hbo⟩ := Ke ho
 obtain ⟨h1,h2⟩ := worldOf_ints2 w hn.1 hn.2
 have hL : (worldInts w).length ≤ 1073741824 := by
  have := flat_length w.Bodies
  simp only [worldInts,List.length_append,List.length_cons,List.length_nil]
  omega
 have hu := unpackInts_enc (ints_rng ho) hL
 rw [worldBytes,if_pos ho]
 have := readWorld_yes (lv := w.Level) hu ⟨rfl,h2,by rw [h1]; exact ho⟩
 rw [this,h1]
/-! ### Runs -/
theorem runM_app (w : TWorld) (a b : List (List Int)) : runM w (a ++ b) = runM (runM w a) b := by rw [runM,runM,runM,List.foldl_append]
theorem runM_cons (w : TWorld) (r : List Int) (rows : List (List Int)) : runM w (r :: rows) = runM (stepW w r) rows := rfl
theorem tick_tick (w : TWorld) (row : List Int) : (tickM w row).Tick = w.Tick + 1 := by
 unfold tickM lastM
 split
 ·rfl
 ·split <;> rfl
theorem stepW_good {w : TWorld} {row : List Int} (ho : worldOk w = true) (ht : w.Tick < 100000) (hr : rowOk row w.Scores.length = true) : (stepW w row).Tick = w.Tick + 1 := by
 rw [stepW,if_pos ⟨ho,by omega,hr⟩]
 exact tick_tick w row
theorem runM_good : ∀ (rows : List (List Int)) {w : TWorld},WorIn w → worldOk w = true → w.Tick + rows.length ≤ 100000 → (∀ r ∈ rows,rowOk r w.Scores.length = true) → worldOk (runM w rows) = true ∧ (runM w rows).Tick = w.Tick + rows.length ∧ (runM w rows).Level = w.Level ∧ (runM w rows).Scores.length = w.Scores.length
 | [],w,_,ho,_,_ => ⟨ho,by simp [runM],rfl,rfl⟩
 | r :: rows,w,iw,ho,ht,hr => by
  simp only [List.length_cons] at ht
  have h1 := stepW_good ho (by omega) (hr r (by simp))
  have h2 := stepW_fits (w := w) (row := r) iw.1
  have h3 := runM_good rows (w := stepW w r) (step_in iw) (stepW_ok iw.1 ho) (by omega) (fun x hx => by rw [h2.2.1]; exact hr x (by simp [hx]))
  rw [runM_cons]
  refine ⟨h3.1,by rw [h3.2.1,h1,List.length_cons]; omega,by rw [h3.2.2.1,stepW_level],by rw [h3.2.2.2,h2.2.1]⟩
/-! ### The lockstep worlds -/
section
variable {l : TLevel} {n : Nat} {seed : Int} {e : Nat} {rows : List (List Int)}
noncomputable def lockW (l : TLevel) (n : Nat) (seed : Int) (rows : List (List Int)) (t : Nat) : TWorld := runM (newWorld l n seed) (rows.take t)
structure RD (l : TLevel) (n : Nat) (seed : Int) (e : Nat) (rows : List (List Int)) : Prop where
 hl : levelOk l = true
 gl : Enc.gd l
 ll : l.Rows.length ≤ 1048576
 hn : 1 ≤ n ∧ n ≤ 4
 hs : inR seed 0 65535 = true
 he : 1 ≤ e ∧ e ≤ 100
 hL : rows.length ≤ 400
 hr : ∀ r ∈ rows,rowOk r (n : Int) = true
theorem RD.new_in (h : RD l n seed e rows) : WorIn (newWorld l n seed) := by
 have h1 := newWorld_gd h.gl h.hl h.hn h.hs
 have hn := h.hn
 exact ⟨h1,h.ll,by simp only [newWorld,List.length_replicate]; omega,by simp only [newWorld,List.length_map,List.length_range]; omega⟩
theorem RD.new_len (h : RD l n seed e rows) : (newWorld l n seed).Scores.length = n := by simp [newWorld]
theorem RD.good (h : RD l n seed e rows) (t : Nat) : worldOk (lockW l n seed rows t) = true ∧ (lockW l n seed rows t).Tick = ((rows.take t).length : Int) ∧ (lockW l n seed rows t).Level = l ∧ (lockW l n seed rows t).Scores.length = n := by
 have hlen : (rows.take t).length ≤ rows.length := by rw [List.length_take]; omega
 have hL := h.hL
 have h0 : (newWorld l n seed).Tick = 0 := rfl
 have h1 := runM_good (rows.take t) h.new_in (newWorld_ok h.hl h.hn h.hs) (by rw [h0]; omega) (fun r hr => by rw [h.new_len]; exact h.hr r (List.mem_of_mem_take hr))
 exact ⟨h1.1,by rw [lockW,h1.2.1,h0]; omega,h1.2.2.1,by rw [lockW,h1.2.2.2,h.new_len]⟩
theorem RD.in_ (h : RD l n seed e rows) (t : Nat) : WorIn (lockW l n seed rows t) := ran_in _ h.new_in
theorem lockW_zero : lockW l n seed rows 0 = newWorld l n seed := rfl
end
end
section
open Go.RowKit

theorem L_big (b : List UInt8) : Con Try.prog 4 [] [al b] [] (B (decide (b.length > 1048576))) := by
 have hl := Yl b
 refine Con.of Try.func4 J Try.ntmps4 J (fun E => ?_)
 refine zy (z1 J (zz (zy (z0 J (zx (Zq J J J) J (zx (Zo J J J J) J (z1 J (Qe ?_))))))));refine Q0 (Xa (F_r ?_))
 exact Xp J J (X3 [] (by decide) J J (Xk (by rw [hl]; exact decide_eq_decide.2 (by omega))))
def atM (b : List UInt8) (i : Int) : Int := if b.length = 0 then 0 else ((b.getD ((i * 5 + 1) % (b.length : Int)).toNat 0).toNat : Int)
theorem atM_rng (b : List UInt8) (i : Int) : 0 ≤ atM b i ∧ atM b i ≤ 255 := by
 unfold atM
 split
 ·omega
 ·have := (b.getD ((i * 5 + 1) % (b.length : Int)).toNat 0).toNat_lt; omega
theorem L_at (b : List UInt8) (i : Int) (hi : 0 ≤ i ∧ i ≤ 1000000) (hb : b.length ≤ 1048576) : Con Try.prog 6 [] [al b,ai i] [] (I (atM b i)) := by
 have hl := Yl b
 by_cases h0 : b.length = 0
 ·have f0 : decide (((els b).length : Int) = 0) = true := decide_eq_true (by omega)
  rw [atM,if_pos h0]
  refine Con.of Try.func6 J Try.ntmps6 J (fun E => ?_)
  refine zy (z1 J (zz (Qd (zy (z0 J (zx (Zq J J J) J (z9e J (by assumption) (Qe ?_))))))));refine Q0 (Qm J (zy (z1 J (zz (Xa (T_r (F_r ?_)))))))
  exact Xp J J (X3 [] (by decide) J J J)
 ·have f0 : decide (((els b).length : Int) = 0) = false := decide_eq_false (by omega)
  have hm : 0 ≤ (i * 5 + 1) % ((els b).length : Int) ∧ (i * 5 + 1) % ((els b).length : Int) < ((els b).length : Int) := ⟨Int.emod_nonneg _ (by omega),Int.emod_lt_of_pos _ (by omega)⟩
  rw [atM,if_neg h0]
  rw [hl] at hm
  have hk : ((i * 5 + 1) % (b.length : Int)).toNat < b.length := by omega
  have hy : b[((i * 5 + 1) % (b.length : Int)).toNat]? = some (b.getD ((i * 5 + 1) % (b.length : Int)).toNat 0) := by rw [List.getD_eq_getElem?_getD,List.getElem?_eq_getElem hk]; rfl
  have he := byte_at hy
  rw [Int.toNat_natCast,← hl] at he
  rw [← hl] at hm ⊢
  generalize b.getD ((i * 5 + 1) % ((els b).length : Int)).toNat 0 = y at he ⊢
  have hy1 : (y.toNat : Int) ≤ 255 := by have := y.toNat_lt; omega
  have hy0 : 0 ≤ (y.toNat : Int) := by omega
  refine Con.of Try.func6 J Try.ntmps6 J (fun E => ?_)
  refine zy (z1 J (zz (Qd (zy (z0 J (zx (Zq J J J) J (z9e J (by assumption) (Qe ?_))))))));refine Q0 (Ql J (Qh (Q0 (zy (z0 J (z0 J (zx (Zw J J J J (by omega)) J (z7 J (by omega) (z0 J (zx (Zq J J J) J ?_))))))))));refine zx (Zz J J J J (by omega)) J (zx (Q2 J J J J (by omega) (by assumption) J) J (zx (Zu J J J J) J (zx (Zj J J J J (Kf (by omega))) J (z1 J (zz (Xa (F_r ?_)))))))
  exact Xp J J (X3 [] (by decide) J J J)
theorem plRows_ok (b : List UInt8) : (plRows b).length ≤ 96 ∧ ∀ r ∈ plRows b,r.length = plN b ∧ ∀ x ∈ r,0 ≤ x ∧ x ≤ 15 := by
 have h1 := Ya (b := b) (n := 24) (c := (sdD b).2) (by omega)
 have h2 := rowsC_len (b := b) (n := plN b) (c := (belowC b 24 (sdD b).2).2) (belowC b 24 (sdD b).2).1.toNat
 refine ⟨?_,fun r hr => rowsC_all _ r hr⟩
 show (rowsC b (plN b) _ _).1.length ≤ 96
 omega
theorem play_rd (b : List UInt8) {e : Nat} (he : 1 ≤ e ∧ e ≤ 100) : RD (lvD b).1 (plN b) (sdD b).1 e (plRows b) := by
 have hl := lvD_ok b
 have hn := nD_rng b
 have hs := sdD_rng b
 have hr := plRows_ok b
 refine ⟨hl.1,hl.2.1,by omega,by unfold plN; omega,Yy.2 (by omega),he,by omega,fun r hm => ?_⟩
 obtain ⟨h1,h2⟩ := hr.2 r hm
 have h3 : inOk r = true := List.all_eq_true.2 fun x hx => Yy.2 (h2 x hx)
 simp only [rowOk,h1,h3,Bool.and_true,decide_eq_true_eq,Bool.and_eq_true,and_true]
theorem gd_rows {rows : List (List Int)} {n : Nat} (hL : rows.length ≤ 1000) (hn : n ≤ 1000) (h : ∀ r ∈ rows,r.length = n ∧ ∀ x ∈ r,0 ≤ x ∧ x ≤ 15) : Enc.gd rows := by
 refine ⟨by omega,fun r hr => ?_⟩
 obtain ⟨h1,h2⟩ := h r hr
 exact ⟨by omega,fun x hx => by have := h2 x hx; exact ⟨by omega,by omega⟩⟩
/-! ### Lockstep worlds -/
section
variable {l : TLevel} {n : Nat} {seed : Int} {e : Nat} {rows : List (List Int)}
theorem lock_run {t u : Nat} (h : t ≤ u) : runM (lockW l n seed rows t) ((rows.take u).drop t) = lockW l n seed rows u := by
 rw [lockW,lockW,← runM_app,show rows.take t = (rows.take u).take t by rw [List.take_take,Nat.min_eq_left h],List.take_append_drop]
theorem lock_back {t u : Nat} (h : u ≤ t) : runM (lockW l n seed rows t) ((rows.take u).drop t) = lockW l n seed rows t := by
 rw [List.drop_eq_nil_of_le (by rw [List.length_take]; omega)]
 rfl
theorem lock_from (t : Nat) : runM (lockW l n seed rows 0) (rows.take t) = lockW l n seed rows t := by
 have := lock_run (l := l) (n := n) (seed := seed) (rows := rows) (Nat.zero_le t)
 rwa [List.drop_zero] at this
end
end
section
open Go.RowKit

def rowsOk (rows : List (List Int)) (n : Nat) : Bool := rows.all fun r => rowOk r n
theorem rows_no {rows : List (List Int)} {n k : Nat} {r : List Int} (h : rows[k]? = some r) (hr : rowOk r n = false) : rowsOk rows n = false := by
 rw [rowsOk,← Bool.not_eq_true,List.all_eq_true]
 intro hh
 rw [hh r (List.mem_of_getElem? h)] at hr
 cases hr
theorem rows_go {rows : List (List Int)} {n k : Nat} {r : List Int} (h : rows[k]? = some r) (hr : rowOk r n = true) (hh : rowsOk (rows.take k) n = true) : rowsOk (rows.take (k + 1)) n = true := by
 obtain ⟨hk,rfl⟩ := List.getElem?_eq_some_iff.1 h
 rw [List.take_succ_eq_append_getElem hk,rowsOk,List.all_append,← rowsOk,hh]
 simp [hr]
noncomputable def feedM (s : TSpectator) (first : Int) (rows : List (List Int)) : TSpectator × Bool :=
 if worldOk s.World = true ∧ (0 ≤ first ∧ first ≤ 100000) ∧ rowsOk rows s.World.Scores.length = true then
  (if s.World.Tick < first then (⟨s.World,if s.Gaps < 1000000 then s.Gaps + 1 else s.Gaps⟩,false)
  else (⟨runM s.World (rows.drop (s.World.Tick - first).toNat),s.Gaps⟩,true))
 else (s,false)
section
variable {w : TWorld} {g first : Int} {rows : List (List Int)}
theorem feed_no (h : ¬ (worldOk w = true ∧ (0 ≤ first ∧ first ≤ 100000) ∧ rowsOk rows w.Scores.length = true)) : feedM ⟨w,g⟩ first rows = (⟨w,g⟩,false) := by rw [feedM]; exact if_neg h
theorem feed_gap (h : worldOk w = true ∧ (0 ≤ first ∧ first ≤ 100000) ∧ rowsOk rows w.Scores.length = true) (h1 : w.Tick < first) (h2 : g < 1000000) : feedM ⟨w,g⟩ first rows = (⟨w,g + 1⟩,false) := by rw [feedM,if_pos h]; simp only [if_pos h1,if_pos h2]
theorem feed_full (h : worldOk w = true ∧ (0 ≤ first ∧ first ≤ 100000) ∧ rowsOk rows w.Scores.length = true) (h1 : w.Tick < first) (h2 : ¬ g < 1000000) : feedM ⟨w,g⟩ first rows = (⟨w,g⟩,false) := by rw [feedM,if_pos h]; simp only [if_pos h1,if_neg h2]
theorem feed_run (h : worldOk w = true ∧ (0 ≤ first ∧ first ≤ 100000) ∧ rowsOk rows w.Scores.length = true) (h1 : ¬ w.Tick < first) : feedM ⟨w,g⟩ first rows = (⟨runM w (rows.drop (w.Tick - first).toNat),g⟩,true) := by rw [feedM,if_pos h]; simp only [if_neg h1]
end
theorem els_dropE2 {α : Type} [Enc α] (xs : List α) (n : Nat) : els (xs.drop n) = (els xs).drop n := List.map_drop
theorem I_FeedRows (s : TSpectator) (first : Int) (rows : List (List Int)) (iw : WorIn s.World) (gG : I64 s.Gaps) (gf : I64 first) (gr : Enc.gd rows) : Con Try.prog 12 [] [ag s,ai first,al rows] (ownO (Enc.e (feedM s first rows).1)) (.tu [.ag (ownV 0 (Enc.e (feedM s first rows).1)),.c (bv (feedM s first rows).2)]) := by
 obtain ⟨w,g⟩ := s
 simp only at iw gG
 obtain ⟨gf1,gf2⟩ := gf
 obtain ⟨gg1,gg2⟩ := gG
 have c1 := I_copyWorld w iw.gd iw.h1 iw.h2 iw.h3
 have c2 := I_WorldOk w iw.gd
 have c3 := Xv first 0 100000
 have hls := Yl w.Scores
 have hlr := Yl rows
 have hlg := gr.1
 refine Con.of Try.func12 J Try.ntmps12 J (fun E => ?_)
 refine zy (M1 (Qq J J J J) J J (M1 (Qx J J J) J J (z1 J (zz (zy (z4 J J J (M1 (Qx J J J) J J ?_)))))));refine Qy J J J J J J J J J (zz (zy (z2 J J J (z4 J J J ?_))));refine M1 (Zi J J (c1) J J J) J J ?_;refine z2 J J J ?_;refine Qy J J J J J J J J J (zz (Qd (zy (z2 J J J (z4 J J J ?_)))));refine AL.weak (st' := (⟨_,[(1,I first),(2,L rows),(3,.o (.c (.ptr 0 0))),(6,.o (.c (.ptr 1 0))),(7,B false),(8,.o (.c (.ptr 2 0))),(18,.o (.ag ((Enc.e w).map (V1.rd []))))],[.box [.rd [] (.sl 1 (els w.Level.Rows)),jn w.Tick,jn w.Seed,.rd [] (.sl 1 (els w.Scores)),.rd [] (.sl 9 (els w.Bodies)),jn g],.box [nilV,jn 0,jn 0,nilV,nilV,jn 0],.box [.ref 3,jn w.Tick,jn w.Seed,.ref 4,.ref 5,jn g],.row 1 (els w.Level.Rows),.row 1 (els w.Scores),.row 9 (els w.Bodies)]⟩ : St)) (W_gj [0,1,2,3,4,5] J) ?_
 clear c1
 cases ho : worldOk w with
 | false =>
  rw [feed_no (fun q => by rw [ho] at q; cases q.1)]
  rw [ho] at c2
  refine zx (Qj J J (c2) J) J ?_;refine zn J (z0 J (z6 J (z6 J (z6 J (zpT J (zz (Qm J (zy (z4 J J J ?_)))))))));refine Qy J J J J J J J J J (z1 J (zz (Xa (T_r (F_r ?_)))))
  exact Xn J J J J J (X3 [3,4,5] (by decide) J J J)
 | true =>
 rw [ho] at c2
 by_cases hf : inR first 0 100000 = true
 case neg =>
  have hf2 : inR first 0 100000 = false := by simpa using hf
  rw [feed_no (fun q => hf (Yy.2 q.2.1))]
  rw [hf2] at c3
  refine zx (Qj J J (c2) J) J ?_;refine zn J (z0 J (z5 J (z0 J (z5 J ?_))));refine zx (Qj J J (c3) J) J ?_;refine z5 J (zn J (zpF J (zz (Qm J (zy (z4 J J J ?_))))));refine Qy J J J J J J J J J (z1 J (zz (Xa (T_r (F_r ?_)))))
  exact Xn J J J J J (X3 [3,4,5] (by decide) J J J)
 rw [hf] at c3
 have hfr := Yy.1 hf
 refine zx (Qj J J (c2) J) J ?_;refine zn J (z0 J (z5 J (z0 J (z5 J ?_))));refine zx (Qj J J (c3) J) J ?_;refine z5 J (zn J (zpF J (zz (Ql J (Qh (Q0 (Qd (zy (z0 J ?_)))))))));refine zx (Zq J J J) J (z0 J (zz (Qk ?_)));refine A_lq (fun m st => ∃ k : Nat,k + m = rows.length ∧ (rowsOk (rows.take k) w.Scores.length = true) ∧ st = (⟨_,[(1,I first),(2,L rows),(3,.o (.c (.ptr 0 0))),(6,.o (.c (.ptr 1 0))),(7,B false),(8,.o (.c (.ptr 2 0))),(27,L rows),(28,I (els rows).length),(29,I k)],[.box [.rd [] (.sl 1 (els w.Level.Rows)),jn w.Tick,jn w.Seed,.rd [] (.sl 1 (els w.Scores)),.rd [] (.sl 9 (els w.Bodies)),jn g],.box [nilV,jn 0,jn 0,nilV,nilV,jn 0],.box [.ref 3,jn w.Tick,jn w.Seed,.ref 4,.ref 5,jn g],.row 1 (els w.Level.Rows),.row 1 (els w.Scores),.row 9 (els w.Bodies)]⟩ : St)) (rows.length) ⟨_,⟨0,by omega,J,J⟩,W_gj [0,1,2,3,4,5] J⟩ ?_
 rintro m_A _ ⟨k,hk_A,hp_A,rfl⟩
 by_cases hlt : k < rows.length
 ·have hb0 : decide ((k : Int) < (els rows).length) = true := decide_eq_true (by omega)
  obtain ⟨r,hr⟩ := Ka hlt
  have her := Yn hr
  have cr := I_rowOk r ((els w.Scores).length : Int) (gr.2 r (List.mem_of_getElem? hr))
  rw [show rowOk r ((els w.Scores).length : Int) = rowOk r (w.Scores.length : Int) by rw [hls]] at cr
  cases hk : rowOk r (w.Scores.length : Int) with
  | false =>
   rw [feed_no (fun q => by rw [rows_no hr hk] at q; cases q.2.2)]
   rw [hk] at cr
   refine zy (z9a J (by assumption) (zz (Qd (Qm J (Qh (Q0 (Qd (Qk (Qd ?_)))))))));refine Qc (zx (Q2 J J J J (by omega) (by assumption) J) J (zx (Zu J J J J) J (z1 J (zz (zy (z0 J (z2 J J J (z2 J J J (z3 J ?_)))))))));refine zx (Zq J J J) J ?_;refine zx (Qj J J (cr) J) J ?_;refine zn J (zz (Qm J (zy (z4 J J J ?_))));refine Qy J J J J J J J J J (z1 J (zz (Xa (B_r (T_r (T_r (B_r (T_r (F_r ?_)))))))))
   exact Xn J J J J J (X3 [3,4,5] (by decide) J J J)
  | true =>
   rw [hk] at cr
   refine zy (z9a J (by assumption) (zz (Qd (Qm J (Qh (Q0 (Qd (Qk (Qd ?_)))))))));refine Qc (zx (Q2 J J J J (by omega) (by assumption) J) J (zx (Zu J J J J) J (z1 J (zz (zy (z0 J (z2 J J J (z2 J J J (z3 J ?_)))))))));refine zx (Zq J J J) J ?_;refine zx (Qj J J (cr) J) J ?_;refine zn J (zz (Ql J (Qh (Q1 (Q0 (Qc (z7 J (by omega) (z0 J (zz ?_)))))))))
   exact ⟨rows.length - (k + 1),by omega,_,⟨k + 1,by omega,rows_go hr hk hp_A,J⟩,W_gj [0,1,2,3,4,5] J⟩
 have hb0 : decide ((k : Int) < (els rows).length) = false := decide_eq_false (by omega)
 have hk : k = rows.length := by omega
 rw [hk,List.take_length] at hp_A
 have hok : worldOk w = true ∧ (0 ≤ first ∧ first ≤ 100000) ∧ rowsOk rows w.Scores.length = true := ⟨ho,hfr,hp_A⟩
 obtain ⟨_,htk,_,_,_,_,_⟩ := Ke ho
 have htk := Yy.1 htk
 by_cases h1 : w.Tick < first
 ·have d1 : decide (first > w.Tick) = true := decide_eq_true h1
  by_cases h2 : g < 1000000
  ·have d2 : decide (g < 1000000) = true := decide_eq_true h2
   rw [feed_gap hok h1 h2]
   refine zy (z9a J (by assumption) (zz (Qd (Ql J (Q9 (T_x (T_x (Xl (Q0 ?_)))))))));refine Qd (zy (z0 J (z2 J J J (z2 J J J (z3 J (z9c J (by assumption) (zz (Qm J (Qd ?_)))))))));refine zy (z2 J J J (z3 J (z9a J (by assumption) (zz (Qm J (Qc (z2 J J J (z3 J (z7 J (by omega) ?_)))))))));refine z2 J J J ?_;refine Q5 J J J J J J J J (zz (zy (z4 J J J ?_)));refine Qy J J J J J J J J J (z1 J (zz (Xa (T_r (F_r ?_)))))
   exact Xn J J J J J (X3 [3,4,5] (by decide) J J J)
  ·have d2 : decide (g < 1000000) = false := decide_eq_false h2
   rw [feed_full hok h1 h2]
   refine zy (z9a J (by assumption) (zz (Qd (Ql J (Q9 (T_x (T_x (Xl (Q0 ?_)))))))));refine Qd (zy (z0 J (z2 J J J (z2 J J J (z3 J (z9c J (by assumption) (zz (Qm J (Qd ?_)))))))));refine zy (z2 J J J (z3 J (z9a J (by assumption) (zz (Ql J (Qh (Q0 (zy ?_))))))));refine z4 J J J ?_;refine Qy J J J J J J J J J (z1 J (zz (Xa (T_r (F_r ?_)))))
   exact Xn J J J J J (X3 [3,4,5] (by decide) J J J)
 have d1 : decide (first > w.Tick) = false := decide_eq_false h1
 rw [feed_run hok h1]
 obtain ⟨n,hn⟩ : ∃ n : Nat,w.Tick - first = n := ⟨(w.Tick - first).toNat,by omega⟩
 rw [hn,Int.toNat_natCast]
 by_cases h3 : n < rows.length
 ·have d3 : decide (w.Tick - first < (els rows).length) = true := decide_eq_true (by omega)
  have hrw := I_RunWorld w (rows.drop n) iw ⟨by rw [List.length_drop]; omega,fun x hx => gr.2 x (List.mem_of_mem_drop hx)⟩
  have hrw : Con Try.prog 34 [] [ag w,.c (.rd [] (.sl (Enc.k (List Int)) ((els rows).drop (w.Tick - first).toNat)))] (ownO (Enc.e (runM w (rows.drop n)))) (.o (.ag (ownV 0 (Enc.e (runM w (rows.drop n)))))) := by rw [hn,Int.toNat_natCast,← els_dropE2]; exact hrw
  have hq : (0 : Int) ≤ w.Tick - first ∧ w.Tick - first ≤ ((els rows).length : Nat) := by omega
  generalize runM w (rows.drop n) = z at hrw
  refine zy (z9a J (by assumption) (zz (Qd (Ql J (Q9 (T_x (T_x (Xl (Q0 ?_)))))))));refine Qd (zy (z0 J (z2 J J J (z2 J J J (z3 J (z9c J (by assumption) (zz (Ql J (Qh ?_)))))))));refine Q0 (zy (z2 J J J (z2 J J J (z3 J (z0 J (z8 J (by omega) (z1 J (zz (Qd ?_)))))))));refine zy (z0 J (z0 J (zx (Zq J J J) J (z9a J (by assumption) (zz (Qm J (Xi [[],[0],[],[],[2,3],(u9 5),(u9 6),(u9 7)] [[],[64],[],[],[66,67],[64,65,66,67,68],[64,65,66,67,68,69],[64,65,66,67,68,69,70]] [[66,67,68],[66,67,68],[64,65,67],[64,65,66],[64,65],[],[],[]] J (DR.s (Qf J J J J (by decide)) J J (DR.s (Qu J J J J J J) J J ?_)))))))));refine DR.s (Qa J J J) J J (DR.s (Qa J J J) J J (DR.s (q_part1 J J J J J hq) J J ?_));refine DR.s (Zi J J (hrw) J J J) J J ?_;refine DR.s (Qf J J J J (by decide)) J J (DR.stop (by kernel_rfl) (by kernel_rfl) ?_);refine Qy J J J J J J J J J (zz (zy (z4 J J J ?_)));refine Qy J J J J J J J J J (z1 J (zz (Xa (F_r ?_))))
  exact Xn J J J J J (X3 [6,7,8] (by decide) J J J)
 ·have d3 : decide (w.Tick - first < (els rows).length) = false := decide_eq_false (by omega)
  rw [List.drop_of_length_le (by omega)]
  refine zy (z9a J (by assumption) (zz (Qd (Ql J (Q9 (T_x (T_x (Xl (Q0 ?_)))))))));refine Qd (zy (z0 J (z2 J J J (z2 J J J (z3 J (z9c J (by assumption) (zz (Ql J (Qh ?_)))))))));refine Q0 (zy (z2 J J J (z2 J J J (z3 J (z0 J (z8 J (by omega) (z1 J (zz (Qd ?_)))))))));refine zy (z0 J (z0 J (zx (Zq J J J) J (z9a J (by assumption) (zz (Ql J (Qh (Q0 (Qd ?_)))))))));refine Qc (z4 J J J ?_);refine Qy J J J J J J J J J (z1 J (zz (Xa (F_r ?_))))
  exact Xn J J J J J (X3 [3,4,5] (by decide) J J J)
end
section
open Go.RowKit

theorem I_ReadWorld (lv : TLevel) (s : ByteArray) (hg : Enc.gd lv) (hL : lv.Rows.length ≤ 1048576) (hs : s.size ≤ 1099511627776) : Con Try.prog 20 [] [ag lv,astr s] (ownO (Enc.e (rwW (readWorld lv s)))) (.tu [.ag (ownV 0 (Enc.e (rwW (readWorld lv s)))),.c (bv (rwB (readWorld lv s)))]) := by
 have hui := I_UnpackInts s 0 hs ⟨by omega,by omega⟩
 cases hu : unpackInts s 0 with
 | none =>
  rw [hu] at hui
  rw [readWorld_none hu]
  refine Con.of Try.func20 J Try.ntmps20 J (fun E => ?_)
  refine zy (M1 (Qq J J J J) J J (M1 (Qx J J J) J J (z1 J (zz (zy (z0 J ?_))))));refine M1 (Zi J J (hui) J J J) J J ?_;refine zx (Q8 J J J) J (ze J (ze J (ze J (z1 J (z1 J (z1 J (zz (Qd (zy ?_)))))))));refine z0 J (zn J (z0 J (z6 J (z6 J (z6 J (z6 J (zpT J (z0 J (z6 J (z6 J (z6 J ?_)))))))))));refine zpT J (zz (Qm J (zy (zx (Zf J J J J J) J ?_))));refine Qy J J J J J J J J J (z1 J (zz (Xa (T_r (F_r ?_)))))
  exact Xn J J J J J (X4 [1,1,9] [3,4,5] J J (by decide) J J J)
 | some r =>
  obtain ⟨l,pos⟩ := r
  rw [hu] at hui
  obtain ⟨_,hu1,hu2,hu3,hu4⟩ := unpackInts_some hu
  have hll := Yl l
  refine Con.of Try.func20 J Try.ntmps20 J (fun E => ?_)
  refine zy (M1 (Qq J J J J) J J (M1 (Qx J J J) J J (z1 J (zz (zy (z0 J ?_))))));refine M1 (Zi J J (hui) J J J) J J ?_;refine zx (Q8 J J J) J (ze J (ze J (ze J (z1 J (z1 J (z1 J (zz (Qd (zy ?_)))))))));refine z0 J (zn J (z0 J (z5 J (z0 J (z5 J (z0 J (z5 J (zx (Zs J J J) J (z5 J (zx (Zx J J J J) J (zpF J ?_)))))))))));refine z0 J ?_;refine zx (Qt.grdF J J J .stop (fun hgrd => Qa J J J)) J ?_;refine zx (Qt.grdF J J J (.hit .stop) (fun hgrd => Zr J J J J)) J ?_;refine zx (Qt.grdF J J J (.hit (.hit .stop)) (fun hgrd => Zv J J J J)) J ?_;refine zx (Zy J J J J) J (zz ?_)
  refine Xb J (fun h => ?_) (fun h => ?_)
  ·simp only [Bool.or_eq_true,decide_eq_true_eq] at h
   rw [Z1 hu (fun hh => by have := hh.2.1.1; omega)]
   refine zy (zx (Zf J J J J J) J ?_);refine Qy J J J J J J J J J (z1 J (zz (Xa (T_r (F_r ?_)))))
   exact Xn J J J J J (X4 [1,1,9] [3,4,5] J J (by decide) J J J)
  simp only [Bool.or_eq_false_iff,decide_eq_false_iff_not] at h
  have ha0 := els_getD (l := l) (j := 0) (by omega) 0 rfl
  have ha1 := els_getD (l := l) (j := 1) (by omega) 1 rfl
  have ha2 := els_getD (l := l) (j := 2) (by omega) 2 rfl
  obtain ⟨l2,hl2⟩ : ∃ l2,l.getD 2 0 = l2 := ⟨_,rfl⟩
  rw [hl2] at ha2
  have hl264 : I64 l2 := by
   rw [← hl2,List.getD_eq_getElem?_getD,List.getElem?_eq_getElem (by omega)]
   exact hu4 _ (List.getElem_mem _)
  have hl21 := hl264.1
  have hl22 := hl264.2
  have hbt := Xv l2 1 4
  by_cases hin : inR l2 1 4 = true
  case neg =>
   have hf : inR l2 1 4 = false := by simpa using hin
   rw [hf] at hbt
   rw [Z1 hu (fun hh => by have := hh.2.1.2.1; rw [hl2,← Yy] at this; exact hin this)]
   refine Qh (Q0 (zy (z0 J (zx (Q3 J J J J J (by omega) (by omega)) J (zx (Q7 J J J J (by assumption) J) J (z1 J (zz (Qd (Qd ?_)))))))));refine Qc (z0 J ?_);refine zx (Qj J J (hbt) J) J ?_;refine zn J (z0 J (z6 J (z6 J (z6 J (z6 J (z6 J (zpT J (zz (Qm J (Qd ?_))))))))));refine Qc (zx (Zf J J J J J) J ?_);refine Qy J J J J J J J J J (z1 J (zz (Xa (T_r (F_r ?_)))))
   exact Xn J J J J J (X4 [1,1,9] [3,4,5] J J (by decide) J J J)
  rw [hin] at hbt
  have hin2 := Yy.1 hin
  obtain ⟨p,rfl⟩ : ∃ p : Nat,l2 = p := ⟨l2.toNat,by omega⟩
  refine Qh (Q0 (zy (z0 J (zx (Q3 J J J J J (by omega) (by omega)) J (zx (Q7 J J J J (by assumption) J) J (z1 J (zz (Qd (Qd ?_)))))))));refine Qc (z0 J ?_);refine zx (Qj J J (hbt) J) J ?_;refine zn J (z0 J (z5 J (z0 J (z5 J (zx (Zr J J J J) J (z5 J (z0 J (z5 J (z7 J (by omega) (z5 J (zx (Zv J J J J) J ?_)))))))))));refine zpF J (zz ?_)
  refine Xb J (fun h2 => ?_) (fun h2 => ?_)
  ·have h2 := of_decide_eq_true h2
   rw [Z1 hu (fun hh => by have := hh.2.1.2.2.1; omega)]
   refine zy (zx (Zf J J J J J) J ?_);refine Qy J J J J J J J J J (z1 J (zz (Xa (T_r (F_r ?_)))))
   exact Xn J J J J J (X4 [1,1,9] [3,4,5] J J (by decide) J J J)
  have h2 := of_decide_eq_false h2
  refine Qh (Q0 (Qd (Xi [[],[0],[],[2],[2,3],[],[5],[5,6],(u9 8),[],(u9 10)] [[],[48],[],[50],[50,51],[],[53],[53,54],[48,49,50,51,52,53,54,55],[],[10,48,49,50,51,52,53,54,55,56]] [[10,50,51,52,53,54,55],[10,50,51,52,53,54,55],[10,48,49,53,54,55],[10,48,49,53,54,55],[10,48,49,53,54,55],[10,48,49,50,51,52],[10,48,49,50,51,52],[10,48,49,50,51,52],[10],[48,49,50,51,52,53,54,55,56],[]] J (DR.s (Qu J J J J J J) J J ?_))));refine DR.s (Zi J J (I_copyLevel lv hg hL) J J J) J J ?_;refine DR.s (Qa J J J) J J (DR.s (Q3 J J J J J (by omega) (by omega)) J J (DR.s (Q7 J J J J (by assumption) J) J J (DR.s (Qa J J J) J J (DR.s (Q3 J J J J J (by omega) (by omega)) J J (DR.s (Q7 J J J J (by assumption) J) J J (DR.s (Zf J J J J J) J J (DR.s (Qx J J J) J J (DR.stop (by kernel_rfl) (by kernel_rfl) ?_))))))));refine AL.weak (st' := (⟨_,[(4,.o (.c (.ptr 1 0))),(6,.o (.c (.ref 2))),(9,I p),(10,.o (.c (.ptr 4 0))),(56,.o (.ag [.ref 3,jv (l.getD 0 0),jv (l.getD 1 0),nilV,nilV]))],[.box ((Enc.e lv).map (V1.rd [])),.box [nilV,jv 0,jv 0,nilV,nilV],.row 1 (els l),.row 1 (els lv.Rows),.box [nilV,jv 0,jv 0,nilV,nilV]]⟩ : St)) (W_gj [0,1,2,3,4] J) ?_
  have hpl : (p : Int) ≤ 4 := hin2.2
  have hcl := Clone_ints ((l.drop 3).take p) (by simp; omega) (by simp; omega)
  rw [show al ((l.drop 3).take p) = .c (.rd [] (.sl 1 (((els l).take ((3 : Int) + (p : Int)).toNat).drop (3 : Int).toNat))) by
   rw [show ((3 : Int) + (p : Int)).toNat = 3 + p by omega,show (3 : Int).toNat = 3 from rfl,List.drop_take,← els_dropE,← Yo,show 3 + p - 3 = p by omega]; rfl] at hcl
  obtain ⟨rest,hrest⟩ : ∃ rest,rest = l.drop (3 + p) := ⟨_,rfl⟩
  have hre : (els l).drop ((3 : Int) + (p : Int)).toNat = els rest := by rw [show ((3 : Int) + (p : Int)).toNat = 3 + p by omega,← els_dropE,hrest]
  have hrl : rest.length = l.length - (3 + p) := by rw [hrest]; simp
  have hrl2 := Yl rest
  have hdl : ((els l).drop ((3 : Int) + (p : Int)).toNat).length = l.length - (3 + p) := by rw [List.length_drop,hll]; congr 1
  refine Qy J J J J J J J J J (zz (zy (z0 J (z0 J (z7 J (by omega) (zx (q_partr J J J J J J J (by omega)) J ?_))))));refine M1 (Zi J J (hcl) J J J) J J ?_;refine z2 J J J ?_;refine Q5 J J J J J J J J (zz (zy (z0 J (z0 J (z7 J (by omega) (zx (q_partr1 J J J J J J (by omega)) J (z1 J (zz ?_))))))));refine Qd (zy (z0 J (zx (Zq J J J) J (zx (Zz J J J J (by omega)) J (zx (Zx J J J J) J (z0 J ?_))))));refine zx (Qt.grdF J J J .stop (fun hgrd => Qa J J J)) J ?_;refine zx (Qt.grdF J J J (.hit .stop) (fun hgrd => Zq J J J)) J ?_;refine zx (Qt.grdF J J J (.hit (.hit .stop)) (fun hgrd => q_quo J J J J (by omega))) J ?_;refine zx (Qt.grdF J J J (.hit (.hit (.hit .stop))) (fun hgrd => Zo J J J J)) J ?_;refine zx (Zy J J J J) J (zz ?_)
  refine Xb J (fun h3 => ?_) (fun h3 => ?_)
  ·simp only [Bool.or_eq_true,decide_eq_true_eq] at h3
   rw [Z1 hu (fun hh => by
    have h8 := hh.2.1.2.2.2
    have h9 := (Ke hh.2.2).2.2.2.2.2.1.2
    have h10 : (worldOf lv l).Bodies.length = (l.length - 3 - (l.getD 2 0).toNat) / 9 := bodiesOf_len _ _
    rw [hl2] at h8 h10
    omega)]
   refine zy (zx (Zf J J J J J) J ?_);refine Qy J J J J J J J J J (z1 J (zz (Xa (T_r (F_r ?_)))))
   exact Xn J J J J J (X4 [1,1,9] [6,7,8] J J (by decide) J J J)
  simp only [Bool.or_eq_false_iff,decide_eq_false_iff_not] at h3
  obtain ⟨nb,hn⟩ : ∃ nb,rest.length = 9 * nb := ⟨rest.length / 9,by omega⟩
  have hform : formOk l := ⟨by omega,by rw [hl2]; exact hin2,by rw [hl2]; omega,by rw [hl2]; omega⟩
  have hwo : worldOf lv l = ⟨lv,l.getD 0 0,l.getD 1 0,(l.drop 3).take p,bodiesOf rest nb⟩ := by
   rw [worldOf,hl2,Int.toNat_natCast,← hrest,show (l.length - 3 - p) / 9 = nb by omega]
  have hwg := worldOf_gd (lv := lv) hg hu4 (by omega)
  rw [hwo] at hwg
  refine AWP.pre (st' := (⟨_,[(4,.o (.c (.ptr 1 0))),(10,.o (.c (.ptr 4 0))),(11,.o (.c (.rd [2] (.sl 1 (els rest)))))],[.box ((Enc.e lv).map (V1.rd [])),.box [nilV,jv 0,jv 0,nilV,nilV],.row 1 (els l),.row 1 (els lv.Rows),.box [.ref 3,jv (l.getD 0 0),jv (l.getD 1 0),.ref 5,nilV],.row 1 (els ((l.drop 3).take p))]⟩ : St)) ?_ (X5 [0,1,2,3,4,5] (by decide) J (J) (.c J (.c J (.cons (rdE hre) (.nil)))))
  refine AWP.pre ?_ (Wk.nilbox (p := 4) (i := 4) 9 J J)
  refine Qh (Q0 (Qd (zy (z1 J (zz (Qk ?_))))));refine A_lq (fun m st => ∃ k : Nat,k + m = nb ∧ (True) ∧ st = (⟨_,[(4,.o (.c (.ptr 1 0))),(10,.o (.c (.ptr 4 0))),(11,.o (.c (.rd [2] (.sl 1 (els rest))))),(12,I (9 * (k : Int)))],[.box ((Enc.e lv).map (V1.rd [])),.box [nilV,jv 0,jv 0,nilV,nilV],.row 1 (els l),.row 1 (els lv.Rows),.box [.ref 3,jv (l.getD 0 0),jv (l.getD 1 0),.ref 5,.ref 6],.row 1 (els ((l.drop 3).take p)),.row 9 (els (bodiesOf rest k))]⟩ : St)) (nb) ⟨(fun k : Nat => (⟨_,[(4,.o (.c (.ptr 1 0))),(10,.o (.c (.ptr 4 0))),(11,.o (.c (.rd [2] (.sl 1 (els rest))))),(12,I (9 * (k : Int)))],[.box ((Enc.e lv).map (V1.rd [])),.box [nilV,jv 0,jv 0,nilV,nilV],.row 1 (els l),.row 1 (els lv.Rows),.box [.ref 3,jv (l.getD 0 0),jv (l.getD 1 0),.ref 5,.ref 6],.row 1 (els ((l.drop 3).take p)),.row 9 (els (bodiesOf rest k))]⟩ : St)) 0,⟨0,by omega,trivial,J⟩,X5 [0,1,2,3,4,5,6] (by decide) J (J) (.c J (.c J (.c J (.cons (Xw (by simp)) (.nil)))))⟩ ?_
  rintro m_A _ ⟨k,hk_A,hp_A,rfl⟩
  have hlbk := Yl (bodiesOf rest k)
  have hlbk2 := bodiesOf_len rest k
  refine Qd (zy (z0 J (z0 J (zx (Zq J J J) J (zx (Zv J J J J) J (zz ?_))))))
  refine Xb J (fun h4 => ?_) (fun h4 => ?_)
  ·have h4 := of_decide_eq_true h4
   have hk9 : 9 * k + 9 ≤ rest.length := by omega
   have hc0 := Yf (rest := rest) (m := k) (by omega) (j := 0) (by omega) (9 * (k : Int) + 9) (9 * (k : Int)) J J 0 rfl
   have hc1 := Yf (rest := rest) (m := k) (by omega) (j := 1) (by omega) (9 * (k : Int) + 9) (9 * (k : Int)) J J 1 rfl
   have hc2 := Yf (rest := rest) (m := k) (by omega) (j := 2) (by omega) (9 * (k : Int) + 9) (9 * (k : Int)) J J 2 rfl
   have hc3 := Yf (rest := rest) (m := k) (by omega) (j := 3) (by omega) (9 * (k : Int) + 9) (9 * (k : Int)) J J 3 rfl
   have hc4 := Yf (rest := rest) (m := k) (by omega) (j := 4) (by omega) (9 * (k : Int) + 9) (9 * (k : Int)) J J 4 rfl
   have hc5 := Yf (rest := rest) (m := k) (by omega) (j := 5) (by omega) (9 * (k : Int) + 9) (9 * (k : Int)) J J 5 rfl
   have hc6 := Yf (rest := rest) (m := k) (by omega) (j := 6) (by omega) (9 * (k : Int) + 9) (9 * (k : Int)) J J 6 rfl
   have hc7 := Yf (rest := rest) (m := k) (by omega) (j := 7) (by omega) (9 * (k : Int) + 9) (9 * (k : Int)) J J 7 rfl
   have hc8 := Yf (rest := rest) (m := k) (by omega) (j := 8) (by omega) (9 * (k : Int) + 9) (9 * (k : Int)) J J 8 rfl
   have hlbk3 : (els (bodiesOf rest k)).length = k := by omega
   have hlt : (9 * (k : Int) + 9 ≤ (els rest).length) := by omega
   have hk24 : k ≤ 24 := by omega
   have hknb : k < nb := by omega
   clear hwg hwo hform hre hcl hdl h3 h2 hin2 hin hbt hl264 hl21 hl22 ha0 ha1 ha2 h hu1 hu2 hu3 hu4 hll hui hrl hrl2 hn hpl hlbk hlbk2 hp_A hk9 h4
   refine Qh (Q0 (Qd (Qk (zy (z0 J (z0 J (z0 J (z7 J (by omega) (zx (q_part J J J J J J (by omega)) J (z1 J ?_))))))))));refine zz (Xi [[],[0],[],[2],[2,3],[],[5],[5,6],[],[8],[8,9],[],[11],[11,12],[],[14],[14,15],[],[17],[17,18],[],[20],[20,21],[],[23],[23,24],[],[26],[26,27],[2,3,4,5,6,7,8,9,10,11,12,13,14,15,16,17,18,19,20,21,22,23,24,25,26,27,28],[2,3,4,5,6,7,8,9,10,11,12,13,14,15,16,17,18,19,20,21,22,23,24,25,26,27,28,29],(u9 31),(u9 32),(u9 33)] [[],[89],[],[91],[91,92],[],[94],[94,95],[],[97],[97,98],[],[100],[100,101],[],[103],[103,104],[],[106],[106,107],[],[109],[109,110],[],[112],[112,113],[],[115],[115,116],[91,92,93,94,95,96,97,98,99,100,101,102,103,104,105,106,107,108,109,110,111,112,113,114,115,116,117],[91,92,93,94,95,96,97,98,99,100,101,102,103,104,105,106,107,108,109,110,111,112,113,114,115,116,117,118],[89,90,91,92,93,94,95,96,97,98,99,100,101,102,103,104,105,106,107,108,109,110,111,112,113,114,115,116,117,118,119],[89,90,91,92,93,94,95,96,97,98,99,100,101,102,103,104,105,106,107,108,109,110,111,112,113,114,115,116,117,118,119,120],[89,90,91,92,93,94,95,96,97,98,99,100,101,102,103,104,105,106,107,108,109,110,111,112,113,114,115,116,117,118,119,120,121]] [[91,92,93,94,95,96,97,98,99,100,101,102,103,104,105,106,107,108,109,110,111,112,113,114,115,116,117,118,119],[91,92,93,94,95,96,97,98,99,100,101,102,103,104,105,106,107,108,109,110,111,112,113,114,115,116,117,118,119],[89,90,94,95,96,97,98,99,100,101,102,103,104,105,106,107,108,109,110,111,112,113,114,115,116,117],[89,90,94,95,96,97,98,99,100,101,102,103,104,105,106,107,108,109,110,111,112,113,114,115,116,117],[89,90,94,95,96,97,98,99,100,101,102,103,104,105,106,107,108,109,110,111,112,113,114,115,116,117],[89,90,91,92,93,97,98,99,100,101,102,103,104,105,106,107,108,109,110,111,112,113,114,115,116,117],[89,90,91,92,93,97,98,99,100,101,102,103,104,105,106,107,108,109,110,111,112,113,114,115,116,117],[89,90,91,92,93,97,98,99,100,101,102,103,104,105,106,107,108,109,110,111,112,113,114,115,116,117],[89,90,91,92,93,94,95,96,100,101,102,103,104,105,106,107,108,109,110,111,112,113,114,115,116,117],[89,90,91,92,93,94,95,96,100,101,102,103,104,105,106,107,108,109,110,111,112,113,114,115,116,117],[89,90,91,92,93,94,95,96,100,101,102,103,104,105,106,107,108,109,110,111,112,113,114,115,116,117],[89,90,91,92,93,94,95,96,97,98,99,103,104,105,106,107,108,109,110,111,112,113,114,115,116,117],[89,90,91,92,93,94,95,96,97,98,99,103,104,105,106,107,108,109,110,111,112,113,114,115,116,117],[89,90,91,92,93,94,95,96,97,98,99,103,104,105,106,107,108,109,110,111,112,113,114,115,116,117],[89,90,91,92,93,94,95,96,97,98,99,100,101,102,106,107,108,109,110,111,112,113,114,115,116,117],[89,90,91,92,93,94,95,96,97,98,99,100,101,102,106,107,108,109,110,111,112,113,114,115,116,117],[89,90,91,92,93,94,95,96,97,98,99,100,101,102,106,107,108,109,110,111,112,113,114,115,116,117],[89,90,91,92,93,94,95,96,97,98,99,100,101,102,103,104,105,109,110,111,112,113,114,115,116,117],[89,90,91,92,93,94,95,96,97,98,99,100,101,102,103,104,105,109,110,111,112,113,114,115,116,117],[89,90,91,92,93,94,95,96,97,98,99,100,101,102,103,104,105,109,110,111,112,113,114,115,116,117],[89,90,91,92,93,94,95,96,97,98,99,100,101,102,103,104,105,106,107,108,112,113,114,115,116,117],[89,90,91,92,93,94,95,96,97,98,99,100,101,102,103,104,105,106,107,108,112,113,114,115,116,117],[89,90,91,92,93,94,95,96,97,98,99,100,101,102,103,104,105,106,107,108,112,113,114,115,116,117],[89,90,91,92,93,94,95,96,97,98,99,100,101,102,103,104,105,106,107,108,109,110,111,115,116,117],[89,90,91,92,93,94,95,96,97,98,99,100,101,102,103,104,105,106,107,108,109,110,111,115,116,117],[89,90,91,92,93,94,95,96,97,98,99,100,101,102,103,104,105,106,107,108,109,110,111,115,116,117],[89,90,91,92,93,94,95,96,97,98,99,100,101,102,103,104,105,106,107,108,109,110,111,112,113,114],[89,90,91,92,93,94,95,96,97,98,99,100,101,102,103,104,105,106,107,108,109,110,111,112,113,114],[89,90,91,92,93,94,95,96,97,98,99,100,101,102,103,104,105,106,107,108,109,110,111,112,113,114],[89,90],[89,90],[],[],[]] J (DR.s (Qf J J J J (by decide)) J J (DR.s (Qg J J J J J) J J (DR.s (Qa J J J) J J (DR.s (Q2 J J J J (by omega) (by assumption) J) J J (DR.s (Zu J J J J) J J (DR.s (Qa J J J) J J (DR.s (Q2 J J J J (by omega) (by assumption) J) J J (DR.s (Zu J J J J) J J (DR.s (Qa J J J) J J ?_))))))))));refine DR.s (Q2 J J J J (by omega) (by assumption) J) J J (DR.s (Zu J J J J) J J (DR.s (Qa J J J) J J (DR.s (Q2 J J J J (by omega) (by assumption) J) J J (DR.s (Zu J J J J) J J (DR.s (Qa J J J) J J (DR.s (Q2 J J J J (by omega) (by assumption) J) J J (DR.s (Zu J J J J) J J (DR.s (Qa J J J) J J (DR.s (Q2 J J J J (by omega) (by assumption) J) J J (DR.s (Zu J J J J) J J (DR.s (Qa J J J) J J ?_)))))))))));refine DR.s (Q2 J J J J (by omega) (by assumption) J) J J (DR.s (Zu J J J J) J J (DR.s (Qa J J J) J J (DR.s (Q2 J J J J (by omega) (by assumption) J) J J (DR.s (Zu J J J J) J J (DR.s (Qa J J J) J J (DR.s (Q2 J J J J (by omega) (by assumption) J) J J (DR.s (Zu J J J J) J J ?_)))))));refine DR.s (x := .o (.ag [jv ((rest.drop (9 * k)).getD 0 0),jv ((rest.drop (9 * k)).getD 1 0),jv ((rest.drop (9 * k)).getD 2 0),jv ((rest.drop (9 * k)).getD 3 0),jv ((rest.drop (9 * k)).getD 4 0),jv ((rest.drop (9 * k)).getD 5 0),jv ((rest.drop (9 * k)).getD 6 0),jv ((rest.drop (9 * k)).getD 7 0),jv ((rest.drop (9 * k)).getD 8 0)])) (Zf J J J J J) J J ?_;refine DR.s (Zd J J J J J J) J J (DR.stop (by kernel_rfl) (by kernel_rfl) ?_);refine AL.weak (st' := (⟨_,[(4,.o (.c (.ptr 1 0))),(10,.o (.c (.ptr 4 0))),(11,.o (.c (.rd [2] (.sl 1 (els rest))))),(12,I (9 * (k : Int))),(90,.o (.c (.ref 6))),(119,.o (.c (.sb 7 1 9)))],[.box ((Enc.e lv).map (V1.rd [])),.box [nilV,jv 0,jv 0,nilV,nilV],.row 1 (els l),.row 1 (els lv.Rows),.box [.ref 3,jv (l.getD 0 0),jv (l.getD 1 0),.ref 5,.ref 6],.row 1 (els ((l.drop 3).take p)),.row 9 (els (bodiesOf rest k)),.box [jv ((rest.drop (9 * k)).getD 0 0),jv ((rest.drop (9 * k)).getD 1 0),jv ((rest.drop (9 * k)).getD 2 0),jv ((rest.drop (9 * k)).getD 3 0),jv ((rest.drop (9 * k)).getD 4 0),jv ((rest.drop (9 * k)).getD 5 0),jv ((rest.drop (9 * k)).getD 6 0),jv ((rest.drop (9 * k)).getD 7 0),jv ((rest.drop (9 * k)).getD 8 0)]]⟩ : St)) (W_gj [0,1,2,3,4,5,6,7] J) ?_;refine Xx J J J J J J J J J J J J J J (by omega) (by omega) ?_;refine z2 J J J ?_;refine Q5 J J J J J J J J (Qe (Q1 (Q0 (Qc (z0 J (z7 J (by omega) (z1 J (zz ?_))))))))
   exact ⟨nb - (k + 1),by omega,(fun k : Nat => (⟨_,[(4,.o (.c (.ptr 1 0))),(10,.o (.c (.ptr 4 0))),(11,.o (.c (.rd [2] (.sl 1 (els rest))))),(12,I (9 * (k : Int)))],[.box ((Enc.e lv).map (V1.rd [])),.box [nilV,jv 0,jv 0,nilV,nilV],.row 1 (els l),.row 1 (els lv.Rows),.box [.ref 3,jv (l.getD 0 0),jv (l.getD 1 0),.ref 5,.ref 6],.row 1 (els ((l.drop 3).take p)),.row 9 (els (bodiesOf rest k))]⟩ : St)) (k + 1),⟨k + 1,by omega,trivial,J⟩,X5 [0,1,2,3,4,5,6] (by decide) J (row7 (by rw [bodiesOf_snoc,Yj]; rfl)) (.c J (.c J (.c J (.cons (Xw (by omega)) (.nil)))))⟩
  ·have h4 := of_decide_eq_false h4
   have hkn : k = nb := by omega
   subst hkn
   have hwk := I_WorldOk ⟨lv,l.getD 0 0,l.getD 1 0,(l.drop 3).take p,bodiesOf rest k⟩ hwg
   cases ho : worldOk ⟨lv,l.getD 0 0,l.getD 1 0,(l.drop 3).take p,bodiesOf rest k⟩ with
   | false =>
    rw [ho] at hwk
    rw [Z1 hu (fun hh => by have h9 := hh.2.2; rw [hwo,ho] at h9; cases h9)]
    refine Q9 (T_x (T_x (Xl (Q0 (Qd (zy (z4 J J J ?_)))))));refine zx (Qj J J (hwk) J) J ?_;refine zn J (zz (Qm J (zy (zx (Zf J J J J J) J ?_))));refine Qy J J J J J J J J J (z1 J (zz (Xa (T_r (F_r ?_)))))
    exact Xn J J J J J (X4 [1,1,9] [7,8,9] J J (by decide) J J J)
   | true =>
    rw [ho] at hwk
    rw [readWorld_yes hu ⟨by omega,hform,by rw [hwo]; exact ho⟩,hwo]
    refine Q9 (T_x (T_x (Xl (Q0 (Qd (zy (z4 J J J ?_)))))));refine zx (Qj J J (hwk) J) J ?_;refine zn J (zz (Ql J (Qh (Q0 (zy (z4 J J J ?_))))));refine Qy J J J J J J J J J (z1 J (zz (Xa (F_r ?_))))
    exact Xn J J J J J (X3 [3,5,6] (by decide) J J J)
end
section
open Go.RowKit
end
section
open Go.RowKit

theorem I_NewSpectator (lv : TLevel) (s : ByteArray) (hg : Enc.gd lv) (hL : lv.Rows.length ≤ 1048576) (hs : s.size ≤ 1099511627776) : Con Try.prog 7 [] [ag lv,astr s] (ownO (Enc.e (⟨rwW (readWorld lv s),0⟩ : TSpectator))) (.tu [.ag (ownV 0 (Enc.e (⟨rwW (readWorld lv s),0⟩ : TSpectator))),.c (bv (rwB (readWorld lv s)))]) := by
 have hr := I_ReadWorld lv s hg hL hs
 cases hw : readWorld lv s with
 | none =>
  rw [hw] at hr
  refine Con.of Try.func7 J Try.ntmps7 J (fun E => ?_)
  refine zy (M1 (Qq J J J J) J J (M1 (Qx J J J) J J (z1 J (zz (zy (z4 J J J (z0 J ?_)))))));refine M1 (Zi J J (hr) J J J) J J ?_;refine zx (Q8 J J J) J (ze J (ze J (M1 (Qx J J J) J J ?_)));refine Qy J J J J J J J J J (z1 J (zz (Qd (zy (z0 J (zn J (zz (Qm J ?_))))))));refine zy (zx (Zf J J J J J) J ?_);refine Qy J J J J J J J J J (z1 J (zz (Xa (T_r (F_r ?_)))))
  exact Xn J J J J J (X4 [1,1,9] [6,7,8] J J (by decide) J J J)
 | some w =>
  rw [hw] at hr
  refine Con.of Try.func7 J Try.ntmps7 J (fun E => ?_)
  refine zy (M1 (Qq J J J J) J J (M1 (Qx J J J) J J (z1 J (zz (zy (z4 J J J (z0 J ?_)))))));refine M1 (Zi J J (hr) J J J) J J ?_;refine zx (Q8 J J J) J (ze J (ze J (M1 (Qx J J J) J J ?_)));refine Qy J J J J J J J J J (z1 J (zz (Qd (zy (z0 J (zn J (zz (Ql J ?_))))))));refine Qh (Q0 (zy (z4 J J J (zx (Zf J J J J J) J ?_))));refine Qy J J J J J J J J J (z1 J (zz (Xa (F_r ?_))))
  exact Xn J J J J J (X3 [2,3,4] (by decide) J J J)
end
section
open Go.RowKit

@[reducible] def dsO : Option (Int × List (List Int)) → List Ob
 | none => [.row 1 []]
 | some (_,l) => [.row 1 (els l)]
@[reducible] def dsR : Option (Int × List (List Int)) → V
 | none => .tu [.c (jn 0),.c (.ref 0),.c (bv false)]
 | some (h,_) => .tu [.c (jn h),.c (.ref 0),.c (bv true)]
theorem list3 {l : List Int} (h : l.length = 3) : ∃ a b c,l = [a,b,c] := by
 match l,h with
 | [a,b,c],_ => exact ⟨a,b,c,rfl⟩
theorem I_DecodeStream (t : ByteArray) (hs : t.size ≤ 1099511627776) : Con Try.prog 10 [] [astr t] (dsO (dsI t)) (dsR (dsI t)) := by
 have hot := I_OpenText t hs
 cases ho : openText t with
 | none =>
  rw [ho] at hot
  rw [show dsI t = none by rw [dsI,ho]]
  refine Con.of Try.func10 J Try.ntmps10 J (fun E => ?_)
  refine zy (z1 J (z1 J (z1 J (zz (zy (z0 J ?_))))));refine M1 (Zi J J (hot) J J J) J J ?_;refine zx (Q8 J J J) J (ze J (ze J (z1 J (z1 J (zz (Qd (zy (z0 J (zn J ?_)))))))));refine zz (Qm J (zy (z1 J (z1 J (z1 J (zz (Xa (T_r ?_))))))));refine F_r ?_
  exact Xr J J J J (X4 [1] [0] J J (by decide) J J J)
 | some b =>
  rw [ho] at hot
  obtain ⟨_,hsz⟩ := openText_some ho
  have hui := I_UnpackInts b 0 (by omega) ⟨by omega,by omega⟩
  cases hu : unpackInts b 0 with
  | none =>
   rw [hu] at hui
   rw [show dsI t = none by rw [dsI,ho]; simp only []; rw [hu]]
   refine Con.of Try.func10 J Try.ntmps10 J (fun E => ?_)
   refine zy (z1 J (z1 J (z1 J (zz (zy (z0 J ?_))))));refine M1 (Zi J J (hot) J J J) J J ?_;refine zx (Q8 J J J) J (ze J (ze J (z1 J (z1 J (zz (Qd (zy (z0 J (zn J ?_)))))))));refine zz (Ql J (Qh (Q0 (zy (z0 J ?_)))));refine M1 (Zi J J (hui) J J J) J J ?_;refine zx (Q8 J J J) J (ze J (ze J (ze J (z1 J (z1 J (z1 J (zz (Qd (zy ?_)))))))));refine z0 J (zn J (z0 J (z6 J (z6 J (z6 J (zpT J (z0 J (z6 J (z6 J (z6 J (z6 J ?_)))))))))));refine z6 J (zpT J (z0 J (z6 J (z6 J (z6 J (z6 J (z6 J (zpT J (z0 J (z6 J (z6 J ?_)))))))))));refine z6 J (z6 J (z6 J (zpT J (zz (Qm J (zy (z1 J (z1 J (z1 J ?_)))))))));refine zz (Xa (T_r (F_r ?_)))
   exact Xr J J J J (X4 [1] [1] J J (by decide) J J J)
  | some r =>
   obtain ⟨l,pos⟩ := r
   rw [hu] at hui
   have hus := unpackInts_some hu
   have hll := Yl l
   by_cases hl3 : ¬ l.length = 3
   ·have hb : decide (((els l).length : Int) ≠ 3) = true := decide_eq_true (by omega)
    rw [show dsI t = none by rw [dsI,ho]; simp only []; rw [hu]; split; (rename_i he; simp only [Option.some.injEq,Prod.mk.injEq] at he; obtain ⟨rfl,_⟩ := he; simp at hl3); rfl]
    refine Con.of Try.func10 J Try.ntmps10 J (fun E => ?_)
    refine zy (z1 J (z1 J (z1 J (zz (zy (z0 J ?_))))));refine M1 (Zi J J (hot) J J J) J J ?_;refine zx (Q8 J J J) J (ze J (ze J (z1 J (z1 J (zz (Qd (zy (z0 J (zn J ?_)))))))));refine zz (Ql J (Qh (Q0 (zy (z0 J ?_)))));refine M1 (Zi J J (hui) J J J) J J ?_;refine zx (Q8 J J J) J (ze J (ze J (ze J (z1 J (z1 J (z1 J (zz (Qd (zy ?_)))))))));refine z0 J (zn J (z0 J (z5 J (z0 J (z5 J (zx (Zr J J J J) J (z5 J (z9f J (by assumption) (zpF J (z0 J (z6 J ?_)))))))))));refine z6 J (z6 J (z6 J (z6 J (zpT J (z0 J (z6 J (z6 J (z6 J (z6 J (z6 J (zpT J ?_)))))))))));refine z0 J (z6 J (z6 J (z6 J (z6 J (z6 J (zpT J (zz (Qm J (zy ?_)))))))));refine z1 J (z1 J (z1 J (zz (Xa (T_r (F_r ?_))))))
    exact Xr J J J J (X4 [1] [1] J J (by decide) J J J)
   obtain ⟨h0,h1,h2,rfl⟩ := list3 (Classical.not_not.1 hl3)
   have hd : dsI t = if (0 ≤ h0 ∧ h0 ≤ 400) ∧ (1 ≤ h1 ∧ h1 ≤ 20) ∧ (1 ≤ h2 ∧ h2 ≤ 4) then (match colsGo b h1.toNat h2.toNat pos (List.replicate h1.toNat []) with
    | none => none
    | some (rows,e) => if e = b.size then some (h0,rows) else none) else none := by rw [dsI,ho]; simp only []; rw [hu]; rfl
   have hb : decide (((els [h0,h1,h2]).length : Int) ≠ 3) = false := decide_eq_false (by rw [hll]; simp)
   have hl3 : (els [h0,h1,h2]).length = 3 := rfl
   have ha0 : (els [h0,h1,h2])[(0 : Int).toNat]? = some [.v (.int .i64 h0)] := rfl
   have ha1 : (els [h0,h1,h2])[(1 : Int).toNat]? = some [.v (.int .i64 h1)] := rfl
   have ha2 : (els [h0,h1,h2])[(2 : Int).toNat]? = some [.v (.int .i64 h2)] := rfl
   have c0 := Xv h0 0 400
   have c1 := Xv h1 1 20
   have c2 := Xv h2 1 4
   by_cases hf0 : inR h0 0 400 = true
   case neg =>
    rw [hd,if_neg (fun h => hf0 (Yy.2 h.1))]
    have hf0 : inR h0 0 400 = false := by simpa using hf0
    rw [hf0] at c0
    refine Con.of Try.func10 J Try.ntmps10 J (fun E => ?_)
    refine zy (z1 J (z1 J (z1 J (zz (zy (z0 J ?_))))));refine M1 (Zi J J (hot) J J J) J J ?_;refine zx (Q8 J J J) J (ze J (ze J (z1 J (z1 J (zz (Qd (zy (z0 J (zn J ?_)))))))));refine zz (Ql J (Qh (Q0 (zy (z0 J ?_)))));refine M1 (Zi J J (hui) J J J) J J ?_;refine zx (Q8 J J J) J (ze J (ze J (ze J (z1 J (z1 J (z1 J (zz (Qd (zy ?_)))))))));refine z0 J (zn J (z0 J (z5 J (z0 J (z5 J (zx (Zr J J J J) J (z5 J (z9f J (by assumption) (zpF J (z0 J (z5 J ?_)))))))))));refine z0 J (z5 J (zx (Q3 J J J J J (by omega) (by omega)) J (z5 J (zx (Q7 J J J J (by assumption) J) J (z5 J ?_)))));refine zx (Qj J J (c0) J) J ?_;refine z5 J (zn J (zpF J (z0 J (z6 J (z6 J (z6 J (z6 J (z6 J (zpT J (z0 J (z6 J ?_)))))))))));refine z6 J (z6 J (z6 J (z6 J (zpT J (zz (Qm J (zy (z1 J (z1 J ?_)))))))));refine z1 J (zz (Xa (T_r (F_r ?_))))
    exact Xr J J J J (X4 [1] [1] J J (by decide) J J J)
   rw [hf0] at c0
   by_cases hf1 : inR h1 1 20 = true
   case neg =>
    rw [hd,if_neg (fun h => hf1 (Yy.2 h.2.1))]
    have hf1 : inR h1 1 20 = false := by simpa using hf1
    rw [hf1] at c1
    refine Con.of Try.func10 J Try.ntmps10 J (fun E => ?_)
    refine zy (z1 J (z1 J (z1 J (zz (zy (z0 J ?_))))));refine M1 (Zi J J (hot) J J J) J J ?_;refine zx (Q8 J J J) J (ze J (ze J (z1 J (z1 J (zz (Qd (zy (z0 J (zn J ?_)))))))));refine zz (Ql J (Qh (Q0 (zy (z0 J ?_)))));refine M1 (Zi J J (hui) J J J) J J ?_;refine zx (Q8 J J J) J (ze J (ze J (ze J (z1 J (z1 J (z1 J (zz (Qd (zy ?_)))))))));refine z0 J (zn J (z0 J (z5 J (z0 J (z5 J (zx (Zr J J J J) J (z5 J (z9f J (by assumption) (zpF J (z0 J (z5 J ?_)))))))))));refine z0 J (z5 J (zx (Q3 J J J J J (by omega) (by omega)) J (z5 J (zx (Q7 J J J J (by assumption) J) J (z5 J ?_)))));refine zx (Qj J J (c0) J) J ?_;refine z5 J (zn J (zpF J (z0 J (z5 J (z0 J (z5 J (zx (Q3 J J J J J (by omega) (by omega)) J (z5 J (zx (Q7 J J J J (by assumption) J) J (z5 J ?_))))))))));refine zx (Qj J J (c1) J) J ?_;refine z5 J (zn J (zpF J (z0 J (z6 J (z6 J (z6 J (z6 J (z6 J (zpT J (zz ?_))))))))));refine Qm J (zy (z1 J (z1 J (z1 J (zz (Xa (T_r (F_r ?_))))))))
    exact Xr J J J J (X4 [1] [1] J J (by decide) J J J)
   rw [hf1] at c1
   by_cases hf2 : inR h2 1 4 = true
   case neg =>
    rw [hd,if_neg (fun h => hf2 (Yy.2 h.2.2))]
    have hf2 : inR h2 1 4 = false := by simpa using hf2
    rw [hf2] at c2
    refine Con.of Try.func10 J Try.ntmps10 J (fun E => ?_)
    refine zy (z1 J (z1 J (z1 J (zz (zy (z0 J ?_))))));refine M1 (Zi J J (hot) J J J) J J ?_;refine zx (Q8 J J J) J (ze J (ze J (z1 J (z1 J (zz (Qd (zy (z0 J (zn J ?_)))))))));refine zz (Ql J (Qh (Q0 (zy (z0 J ?_)))));refine M1 (Zi J J (hui) J J J) J J ?_;refine zx (Q8 J J J) J (ze J (ze J (ze J (z1 J (z1 J (z1 J (zz (Qd (zy ?_)))))))));refine z0 J (zn J (z0 J (z5 J (z0 J (z5 J (zx (Zr J J J J) J (z5 J (z9f J (by assumption) (zpF J (z0 J (z5 J ?_)))))))))));refine z0 J (z5 J (zx (Q3 J J J J J (by omega) (by omega)) J (z5 J (zx (Q7 J J J J (by assumption) J) J (z5 J ?_)))));refine zx (Qj J J (c0) J) J ?_;refine z5 J (zn J (zpF J (z0 J (z5 J (z0 J (z5 J (zx (Q3 J J J J J (by omega) (by omega)) J (z5 J (zx (Q7 J J J J (by assumption) J) J (z5 J ?_))))))))));refine zx (Qj J J (c1) J) J ?_;refine z5 J (zn J (zpF J (z0 J (z5 J (z0 J (z5 J (zx (Q3 J J J J J (by omega) (by omega)) J (z5 J (zx (Q7 J J J J (by assumption) J) J (z5 J ?_))))))))));refine zx (Qj J J (c2) J) J ?_;refine z5 J (zn J (zpF J (zz (Qm J (zy (z1 J (z1 J (z1 J (Qe ?_)))))))));refine Q0 (Xa (T_r (F_r ?_)))
    exact Xr J J J J (X4 [1] [1] J J (by decide) J J J)
   rw [hf2] at c2
   have hr0 := Yy.1 hf0
   have hr1 := Yy.1 hf1
   have hr2 := Yy.1 hf2
   obtain ⟨n1,rfl⟩ : ∃ n : Nat,h1 = n := ⟨h1.toNat,by omega⟩
   obtain ⟨n2,rfl⟩ : ∃ n : Nat,h2 = n := ⟨h2.toNat,by omega⟩
   rw [if_pos ⟨hr0,hr1,hr2⟩,Int.toNat_natCast,Int.toNat_natCast] at hd
   have huc := I_unpackColumns b pos n2 n1 (by omega) (by omega) (by omega) (by omega)
   cases hc : colsGo b n1 n2 pos (List.replicate n1 []) with
   | none =>
    rw [hc] at huc hd
    rw [hd]
    refine Con.of Try.func10 J Try.ntmps10 J (fun E => ?_)
    refine zy (z1 J (z1 J (z1 J (zz (zy (z0 J ?_))))));refine M1 (Zi J J (hot) J J J) J J ?_;refine zx (Q8 J J J) J (ze J (ze J (z1 J (z1 J (zz (Qd (zy (z0 J (zn J ?_)))))))));refine zz (Ql J (Qh (Q0 (zy (z0 J ?_)))));refine M1 (Zi J J (hui) J J J) J J ?_;refine zx (Q8 J J J) J (ze J (ze J (ze J (z1 J (z1 J (z1 J (zz (Qd (zy ?_)))))))));refine z0 J (zn J (z0 J (z5 J (z0 J (z5 J (zx (Zr J J J J) J (z5 J (z9f J (by assumption) (zpF J (z0 J (z5 J ?_)))))))))));refine z0 J (z5 J (zx (Q3 J J J J J (by omega) (by omega)) J (z5 J (zx (Q7 J J J J (by assumption) J) J (z5 J ?_)))));refine zx (Qj J J (c0) J) J ?_;refine z5 J (zn J (zpF J (z0 J (z5 J (z0 J (z5 J (zx (Q3 J J J J J (by omega) (by omega)) J (z5 J (zx (Q7 J J J J (by assumption) J) J (z5 J ?_))))))))));refine zx (Qj J J (c1) J) J ?_;refine z5 J (zn J (zpF J (z0 J (z5 J (z0 J (z5 J (zx (Q3 J J J J J (by omega) (by omega)) J (z5 J (zx (Q7 J J J J (by assumption) J) J (z5 J ?_))))))))));refine zx (Qj J J (c2) J) J ?_;refine z5 J (zn J (zpF J (zz (Ql J (Qh (Q0 (Qd (Xi u8_39 u8_40 u8_41 J (DR.s (Qa J J J) J J (DR.s (Qa J J J) J J ?_))))))))));refine DR.s (Qa J J J) J J (DR.s (Q3 J J J J J (by omega) (by omega)) J J (DR.s (Q7 J J J J (by assumption) J) J J (DR.s (Qa J J J) J J (DR.s (Q3 J J J J J (by omega) (by omega)) J J (DR.s (Q7 J J J J (by assumption) J) J J ?_)))));refine DR.s (Zi J J (huc) J J J) J J ?_;refine DR.s (Q8 J J J) J J (DR.s (Zl J J J J) J J (DR.s (Zl J J J J) J J (DR.s (Zl J J J J) J J (DR.s (Qb J J J) J J (DR.s (Qb J J J) J J (DR.s (Qb J J J) J J (DR.stop (by kernel_rfl) (by kernel_rfl) (zz (Qd (Qd ?_))))))))));refine Qc (z0 J (zn J (z0 J (z6 J (z6 J (z6 J (z6 J (z6 J (z6 J (zpT J (Qe ?_)))))))))));refine Q0 (Qm J (zy (z1 J (z1 J (z1 J (zz (Xa (T_r (F_r ?_)))))))))
    exact Xr J J J J (X4 [1] [2] J J (by decide) J J J)
   | some r =>
    obtain ⟨rows,e⟩ := r
    rw [hc] at huc hd
    simp only [] at hd
    obtain ⟨g1,g2,g3,_⟩ := colsGo_canon b n1 (by omega) n2 pos (List.replicate n1 []) 0 rows e (by omega) (by simp) (fun r hr => by rw [List.eq_of_mem_replicate hr]; rfl) (fun i hi => by omega) hc
    by_cases he : e = b.size
    ·rw [hd,if_pos he]
     have hb3 : decide ((pos : Int) + ((e : Int) - pos) ≠ b.size) = false := decide_eq_false (by omega)
     refine Con.of Try.func10 J Try.ntmps10 J (fun E => ?_)
     refine zy (z1 J (z1 J (z1 J (zz (zy (z0 J ?_))))));refine M1 (Zi J J (hot) J J J) J J ?_;refine zx (Q8 J J J) J (ze J (ze J (z1 J (z1 J (zz (Qd (zy (z0 J (zn J ?_)))))))));refine zz (Ql J (Qh (Q0 (zy (z0 J ?_)))));refine M1 (Zi J J (hui) J J J) J J ?_;refine zx (Q8 J J J) J (ze J (ze J (ze J (z1 J (z1 J (z1 J (zz (Qd (zy ?_)))))))));refine z0 J (zn J (z0 J (z5 J (z0 J (z5 J (zx (Zr J J J J) J (z5 J (z9f J (by assumption) (zpF J (z0 J (z5 J ?_)))))))))));refine z0 J (z5 J (zx (Q3 J J J J J (by omega) (by omega)) J (z5 J (zx (Q7 J J J J (by assumption) J) J (z5 J ?_)))));refine zx (Qj J J (c0) J) J ?_;refine z5 J (zn J (zpF J (z0 J (z5 J (z0 J (z5 J (zx (Q3 J J J J J (by omega) (by omega)) J (z5 J (zx (Q7 J J J J (by assumption) J) J (z5 J ?_))))))))));refine zx (Qj J J (c1) J) J ?_;refine z5 J (zn J (zpF J (z0 J (z5 J (z0 J (z5 J (zx (Q3 J J J J J (by omega) (by omega)) J (z5 J (zx (Q7 J J J J (by assumption) J) J (z5 J ?_))))))))));refine zx (Qj J J (c2) J) J ?_;refine z5 J (zn J (zpF J (zz (Ql J (Qh (Q0 (Qd (Xi u8_39 u8_40 u8_41 J (DR.s (Qa J J J) J J (DR.s (Qa J J J) J J ?_))))))))));refine DR.s (Qa J J J) J J (DR.s (Q3 J J J J J (by omega) (by omega)) J J (DR.s (Q7 J J J J (by assumption) J) J J (DR.s (Qa J J J) J J (DR.s (Q3 J J J J J (by omega) (by omega)) J J (DR.s (Q7 J J J J (by assumption) J) J J ?_)))));refine DR.s (Zi J J (huc) J J J) J J ?_;refine DR.s (Q8 J J J) J J (DR.s (Zl J J J J) J J (DR.s (Zl J J J J) J J (DR.s (Zl J J J J) J J (DR.s (Qb J J J) J J (DR.s (Qb J J J) J J (DR.s (Qb J J J) J J (DR.stop (by kernel_rfl) (by kernel_rfl) (zz (Qd (Qd ?_))))))))));refine Qc (z0 J (zn J (z0 J (z5 J (z0 J (z5 J (z0 J (z5 J (z7 J (by omega) (z5 J (z0 J ?_)))))))))));refine z5 J (zx (Zs J J J) J (z5 J (z9f J (by assumption) (zpF J (zz (Ql J (Qh (Q0 (zy ?_)))))))));refine z0 J (zx (Q3 J J J J J (by omega) (by omega)) J (zx (Q7 J J J J (by assumption) J) J (z0 J (z1 J (z1 J (z1 J (zz (Xa (F_r ?_)))))))))
     exact Xr J J J J (X3 [1] (by decide) J J J)
    ·rw [hd,if_neg he]
     have hb3 : decide ((pos : Int) + ((e : Int) - pos) ≠ b.size) = true := decide_eq_true (by omega)
     refine Con.of Try.func10 J Try.ntmps10 J (fun E => ?_)
     refine zy (z1 J (z1 J (z1 J (zz (zy (z0 J ?_))))));refine M1 (Zi J J (hot) J J J) J J ?_;refine zx (Q8 J J J) J (ze J (ze J (z1 J (z1 J (zz (Qd (zy (z0 J (zn J ?_)))))))));refine zz (Ql J (Qh (Q0 (zy (z0 J ?_)))));refine M1 (Zi J J (hui) J J J) J J ?_;refine zx (Q8 J J J) J (ze J (ze J (ze J (z1 J (z1 J (z1 J (zz (Qd (zy ?_)))))))));refine z0 J (zn J (z0 J (z5 J (z0 J (z5 J (zx (Zr J J J J) J (z5 J (z9f J (by assumption) (zpF J (z0 J (z5 J ?_)))))))))));refine z0 J (z5 J (zx (Q3 J J J J J (by omega) (by omega)) J (z5 J (zx (Q7 J J J J (by assumption) J) J (z5 J ?_)))));refine zx (Qj J J (c0) J) J ?_;refine z5 J (zn J (zpF J (z0 J (z5 J (z0 J (z5 J (zx (Q3 J J J J J (by omega) (by omega)) J (z5 J (zx (Q7 J J J J (by assumption) J) J (z5 J ?_))))))))));refine zx (Qj J J (c1) J) J ?_;refine z5 J (zn J (zpF J (z0 J (z5 J (z0 J (z5 J (zx (Q3 J J J J J (by omega) (by omega)) J (z5 J (zx (Q7 J J J J (by assumption) J) J (z5 J ?_))))))))));refine zx (Qj J J (c2) J) J ?_;refine z5 J (zn J (zpF J (zz (Ql J (Qh (Q0 (Qd (Xi u8_39 u8_40 u8_41 J (DR.s (Qa J J J) J J (DR.s (Qa J J J) J J ?_))))))))));refine DR.s (Qa J J J) J J (DR.s (Q3 J J J J J (by omega) (by omega)) J J (DR.s (Q7 J J J J (by assumption) J) J J (DR.s (Qa J J J) J J (DR.s (Q3 J J J J J (by omega) (by omega)) J J (DR.s (Q7 J J J J (by assumption) J) J J ?_)))));refine DR.s (Zi J J (huc) J J J) J J ?_;refine DR.s (Q8 J J J) J J (DR.s (Zl J J J J) J J (DR.s (Zl J J J J) J J (DR.s (Zl J J J J) J J (DR.s (Qb J J J) J J (DR.s (Qb J J J) J J (DR.s (Qb J J J) J J (DR.stop (by kernel_rfl) (by kernel_rfl) (zz (Qd (Qd ?_))))))))));refine Qc (z0 J (zn J (z0 J (z5 J (z0 J (z5 J (z0 J (z5 J (z7 J (by omega) (z5 J (z0 J ?_)))))))))));refine z5 J (zx (Zs J J J) J (z5 J (z9f J (by assumption) (zpF J (zz (Qm J (zy (z1 J (z1 J ?_)))))))));refine z1 J (zz (Xa (T_r (F_r ?_))))
     exact Xr J J J J (X4 [1] [2] J J (by decide) J J J)
end
section
open Go.RowKit

theorem S_ints (xs ys : List Int) (hn : Enc.gd xs) : Con Try.prog 36 [] [al xs,al ys] [] (B (decide (xs = ys))) := by
 have hn1 := hn.1
 have hlx := Yl xs
 have hly := Yl ys
 by_cases hl : xs.length = ys.length
 ·have hb : decide (((els xs).length : Int) ≠ ((els ys).length : Int)) = false := by rw [hlx,hly,hl]; simp
  refine Con.of Try.func36 J Try.ntmps36 J (fun E => ?_)
  refine zy (z1 J (zz (Qd (zy (z0 J (zx (Zq J J J) J (z0 J (zx (Zq J J J) J ?_))))))));refine z9f J (by assumption) (zz (Ql J (Qh (Q0 (Qd (zy (z1 J (zz ?_))))))));refine Qk ?_;refine A_lq (fun m st => ∃ k : Nat,k + m = xs.length ∧ (xs.take k = ys.take k) ∧ st = (⟨_,[(0,L xs),(1,L ys),(5,I k)],[]⟩ : St)) (xs.length) ⟨_,⟨0,by omega,by simp,J⟩,W_gj [] J⟩ ?_
  rintro m_A _ ⟨k,hk_A,hp_A,rfl⟩
  refine Qd (zy (z0 J (z0 J (zx (Zq J J J) J (zx (Zv J J J J) J (zz ?_))))))
  refine Xb J (fun h => ?_) (fun h => ?_)
  ·have h3 : k < xs.length := by have := of_decide_eq_true h; omega
   have h4 : k < ys.length := by omega
   have hat := Yk h3
   have hat2 := Yk h4
   by_cases he : xs[k] = ys[k]
   ·have hk : decide (xs[k] ≠ ys[k]) = false := by simp [he]
    refine Qh (Q0 (Qd (Qk (Qd (Xi u8_42 u8_43 u8_44 J (DR.s (Qa J J J) J J (DR.s (Qa J J J) J J (DR.s (Q2 J J J J (by omega) (by assumption) J) J J (DR.s (Zu J J J J) J J (DR.s (Qa J J J) J J (DR.s (Qa J J J) J J ?_)))))))))));refine DR.s (Q2 J J J J (by omega) (by assumption) J) J J (DR.s (Zu J J J J) J J (DR.s (Qw J J J J (by assumption)) J J (DR.stop (by kernel_rfl) (by kernel_rfl) (zz (Ql J (Qh (Q1 (Q0 (Qc (z0 J ?_))))))))));refine z7 J (by omega) (z1 J (zz ?_))
    exact ⟨xs.length - (k + 1),by omega,_,⟨k + 1,by omega,eq_next h3 h4 hp_A he,J⟩,W_gj [] J⟩
   ·have hk : decide (xs[k] ≠ ys[k]) = true := by simp [he]
    refine Qh (Q0 (Qd (Qk (Qd (Xi u8_42 u8_43 u8_44 J (DR.s (Qa J J J) J J (DR.s (Qa J J J) J J (DR.s (Q2 J J J J (by omega) (by assumption) J) J J (DR.s (Zu J J J J) J J (DR.s (Qa J J J) J J (DR.s (Qa J J J) J J ?_)))))))))));refine DR.s (Q2 J J J J (by omega) (by assumption) J) J J (DR.s (Zu J J J J) J J (DR.s (Qw J J J J (by assumption)) J J (DR.stop (by kernel_rfl) (by kernel_rfl) (zz (Qm J (zy (z1 J (zz ?_))))))));refine Xa (B_r (T_r (T_r (B_r (T_r (F_r ?_))))))
    exact Xp J J (X3 [] (by decide) J J (Xk (eq_ne h3 h4 he).symm))
  ·have h3 : ¬ ((k : Int) < (els xs).length) := of_decide_eq_false h
   refine Q9 (T_x (T_x (Xl (Q0 (zy (z1 J (zz (Xa (F_r ?_)))))))))
   exact Xp J J (X3 [] (by decide) J J (Xk (eq_all (by omega) hl hp_A).symm))
 ·have hb : decide (((els xs).length : Int) ≠ ((els ys).length : Int)) = true := by rw [hlx,hly]; simp; omega
  refine Con.of Try.func36 J Try.ntmps36 J (fun E => ?_)
  refine zy (z1 J (zz (Qd (zy (z0 J (zx (Zq J J J) J (z0 J (zx (Zq J J J) J ?_))))))));refine z9f J (by assumption) (zz (Qm J (zy (z1 J (zz (Xa (T_r (F_r ?_))))))))
  exact Xp J J (X3 [] (by decide) J J (Xk (eq_len hl).symm))
end
end Go.Proofs.Ytbfhboakafjjgaa
