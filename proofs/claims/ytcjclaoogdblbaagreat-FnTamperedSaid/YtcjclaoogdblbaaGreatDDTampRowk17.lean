/-
  Parts of the proof (rules, data, and what functions of the program and of the reference return), among them: Copies of worlds, in the program and in the reference; StepWorld of the program.
  Conditions: those that each theorem names.
-/
import Derived.Test.YtcjclaoogdblbaaGreatDDTampRowk11
import Derived.Test.YtcjclaoogdblbaaGreatDDTampRowk13
import Derived.Test.YtcjclaoogdblbaaGreatDDTampRowk16
set_option linter.unusedSimpArgs false
set_option linter.unusedVariables false
set_option maxRecDepth 8000
set_option maxHeartbeats 8000000
namespace Go.Proofs.YtcjclaoogdblbaaGreat
section
open Go.RowKit

theorem st_el {bs : List TBody} {i j : Nat} {p p' : TBody} {ts : List T} (h : splice (Enc.e p) j ts = Enc.e p') : els (bs.set i p') = (els (bs.set i p)).set i (splice (Enc.e p) j ts) := by
 rw [h,els,els,← List.map_set,List.set_set]
theorem st_el0 {bs : List TBody} {i j : Nat} {p p' : TBody} {ts : List T} (h : splice (Enc.e p) j ts = Enc.e p') : els (bs.set i p') = (els bs).set i (splice (Enc.e p) j ts) := by
 rw [h,els,els,← List.map_set]
def lifeM (p : TBody) : TBody := ⟨p.Kind,p.Owner,p.X,p.Y,p.VX,p.VY,p.Aim,p.Life - 1,p.Timer⟩
def stopX (p : TBody) : TBody := ⟨p.Kind,p.Owner,p.X,p.Y,0,p.VY,p.Aim,p.Life - 1,p.Timer⟩
def stopY (p : TBody) : TBody := ⟨p.Kind,p.Owner,p.X,p.Y,0,0,p.Aim,p.Life - 1,p.Timer⟩
def downM (p : TBody) : TBody := ⟨p.Kind,p.Owner,p.X,p.Y,0,0,p.Aim,p.Life - 1,20⟩
theorem hit_alive {p : TBody} (h : ¬ p.Life - 1 = 0) : hitB p = lifeM p := by simp only [hitB,lifeM,if_neg h]
theorem hit_down {p : TBody} (h : p.Life - 1 = 0) : hitB p = downM p := by simp only [hitB,downM,if_pos h]
theorem met_I {bs : List TBody} {b : TBody} {o : Int} {n k : Nat} (h : metF bs b o n = some k) : metI bs b o n = k := by rw [metI,h]
theorem met_no {bs : List TBody} {b : TBody} {o : Int} {n : Nat} (h : metF bs b o n = none) : metI bs b o n = -1 := by rw [metI,h]
theorem tl_el {bs : List TBody} {ss : List Int} {k : Nat} {b : TBody} (h : bs[ss.length + k]? = some b) : (els bs)[(els ss).length + (k : Int).toNat]? = some (Enc.e b) := by
 rw [Yx,Int.toNat_natCast,els,List.getElem?_map,h]; rfl
theorem tk_app {bs lf : List TBody} {n m : Nat} (h : m = n) : els (bs.take n ++ lf) = (els bs).take m ++ els lf := by rw [h,Yu,Y0]
theorem els_pl9 (bs : List TBody) : plainT (els bs) := fun e he t ht => by
 obtain ⟨x,_,rfl⟩ := List.mem_map.1 he
 simp only [Enc.e] at ht
 revert ht
 simp only [List.mem_cons,List.not_mem_nil,or_false]
 rintro (rfl | rfl | rfl | rfl | rfl | rfl | rfl | rfl | rfl) <;> exact ⟨_,rfl⟩
theorem els_k9 (bs : List TBody) : ∀ e ∈ els bs,e.length = 9 := fun e he => by
 obtain ⟨x,_,rfl⟩ := List.mem_map.1 he
 rfl
theorem I_stepShots (w : TWorld) (hg : Enc.gd w.Level) (hl : levelOk w.Level = true) (hn4 : 1 ≤ w.Scores.length ∧ w.Scores.length ≤ 4) (hL : LM w.Level w.Scores.length w.Bodies) (hsc : ∀ x ∈ w.Scores,0 ≤ x ∧ x ≤ 1000000) : Con Tryz.prog 78 [.box [.ref 1,jn w.Tick,jn w.Seed,.ref 2,.ref 3],.row 1 (els w.Level.Rows),.row 1 (els w.Scores),.row 9 (els w.Bodies),.gh 0 (.c (.ptr 0 0))] [.c (.ptr 0 0)] [.box [.ref 1,jn w.Tick,jn w.Seed,.ref 2,.ref 3],.row 1 (els w.Level.Rows),.row 1 (els (shS w.Scores.length (w.Bodies.drop w.Scores.length) (w.Bodies,w.Scores) (w.Bodies.drop w.Scores.length).length).2),.row 9 (els ((shS w.Scores.length (w.Bodies.drop w.Scores.length) (w.Bodies,w.Scores) (w.Bodies.drop w.Scores.length).length).1.take w.Scores.length ++ shL w.Scores.length (w.Bodies.drop w.Scores.length) (w.Bodies,w.Scores) (w.Bodies.drop w.Scores.length).length)),.gh 0 (.c (.ptr 0 0))] (.tu []) := by
 have hlb := Yx w.Bodies
 have hls := Yx w.Scores
 have hln := hL.len
 have hT : (w.Bodies.drop w.Scores.length).length = w.Bodies.length - w.Scores.length := List.length_drop
 refine Con.of Tryz.func78 J Tryz.ntmps78 J (fun E => ?_)
 refine zy (z1 J (zz (Qd (Qd ?_))))
 refine AWP.pre ?_ (W_nil 2 9 J)
 refine Xh u8_28 [[],[7],[7,8],[7,8,9],[],[11],[11,12],[11,12,13],[11,12,13,14],[7,8,9,10,11,12,13,14,15],[7,8,9,10,11,12,13,14,15,16],[]] [[11,12,13,14,15,18],[11,12,13,14,15,18],[11,12,13,14,15,18],[11,12,13,14,15,18],[7,8,9,10,18],[7,8,9,10,18],[7,8,9,10,18],[7,8,9,10,18],[7,8,9,10,18],[18],[18],[7,8,9,10,11,12,13,14,15,16,17],[0]] J (Ve (Vo J) J (Ve (qi J) J (Ve (Vq J J) J (Ve (Vr J) J (Ve (Vo J) J (Ve (qi J) J (Ve (Vq J J) J (Ve (Vr J) J (Ve (Kc J J J J) J (Ve (q_tl J J J J J J (by omega)) J (Ve (q_lentl J J J J) J ?_)))))))))));refine Ve (Vo J) J (Vd (zz (Qk ?_)))
 refine AWP.pre (st' := (⟨_,[(0,.o (.c (.ptr 0 0))),(2,.o (.c (.ref 5))),(16,.o (.c (.tl 3 9 (els w.Scores).length))),(17,I (((els w.Bodies).length - (els w.Scores).length : Nat) : Int)),(18,I 0)],[.box [.ref 1,jn w.Tick,jn w.Seed,.ref 2,.ref 3],.row 1 (els w.Level.Rows),.row 1 (els w.Scores),.row 9 (els w.Bodies),.gh 0 (.c (.ptr 0 0)),.row 9 []]⟩ : St)) ?_ (Uf [0,1,2,3,4,5])
 refine Xi (fun m__ st => ∃ (k : Nat) (bs : List TBody) (ss : List Int) (lf : List TBody),(w.Bodies.drop w.Scores.length).length - k = m__ ∧ (k ≤ (w.Bodies.drop w.Scores.length).length ∧ (bs,ss) = shS w.Scores.length (w.Bodies.drop w.Scores.length) (w.Bodies,w.Scores) k ∧ lf = shL w.Scores.length (w.Bodies.drop w.Scores.length) (w.Bodies,w.Scores) k) ∧ st = (⟨_,[(0,.o (.c (.ptr 0 0))),(2,.o (.c (.ref 5))),(16,.o (.c (.tl 3 9 (els w.Scores).length))),(17,I (((els w.Bodies).length - (els w.Scores).length : Nat) : Int)),(18,I k)],[.box [.ref 1,jn w.Tick,jn w.Seed,.ref 2,.ref 3],.row 1 (els w.Level.Rows),.row 1 (els ss),.row 9 (els bs),.gh 0 (.c (.ptr 0 0)),.row 9 (els lf)]⟩ : St)) _ ⟨_,⟨0,w.Bodies,w.Scores,[],J,⟨by omega,J,J⟩,J⟩,Uf [0,1,2,3,4,5]⟩ ?_
 rintro m_A _ ⟨k,bs,ss,lf,hk_A,hp_A,rfl⟩
 obtain ⟨hk,hs,hlf⟩ := hp_A
 have hS := (SI.start hL rfl hsc).all (w.Bodies.drop w.Scores.length) k
 rw [← hs] at hS
 obtain ⟨hSL,hSn,hSt,hSs,hSc⟩ := hS
 simp only at hSL hSn hSt hSs hSc
 have hll := Yx lf
 have hlk : lf.length ≤ k := by rw [hlf]; exact shL_le k
 have hlbs := Yx bs
 have hlss := Yx ss
 by_cases hlt : k < (w.Bodies.drop w.Scores.length).length
 ·have hb0 : decide ((k : Int) < (((els w.Bodies).length - (els w.Scores).length : Nat) : Int)) = true := decide_eq_true (by omega)
  obtain ⟨b,hb⟩ := K0 hlt
  have hbb : bs[w.Scores.length + k]? = some b := by rw [hSt _ (by omega),← List.getElem?_drop]; exact hb
  have hB := (hSL.at_ _ b hbb).1
  have hpl := (hB.placed hl).1
  refine zy (U1 J (zz (Qd (Qm J (Qh (Q0 (Qd (Qk (Qd ?_)))))))));refine Qc (zx (q_attl J J J J J J (by omega) (by omega)) J ?_)
  have he := tl_el hbb
  with_reducible refine Xe ?_
  refine zx (Q6 J J J J (by assumption) J J) J ?_
  with_reducible refine K_alloc ?_
  refine Un (Gh J J) J ?_
  with_reducible refine Xd ?_
  refine G1 J J (zz ?_)
  refine AWP.pre (st' := (⟨_,[(0,.o (.c (.ptr 0 0))),(2,.o (.c (.ref 5))),(16,.o (.c (.tl 3 9 (els w.Scores).length))),(17,I (((els w.Bodies).length - (els w.Scores).length : Nat) : Int)),(18,I k),(4,.o (.c (.ptr 6 0)))],[.box [.ref 1,jn w.Tick,jn w.Seed,.ref 2,.ref 3],.row 1 (els w.Level.Rows),.row 1 (els ss),.row 9 (els bs),.gh 0 (.c (.ptr 0 0)),.row 9 (els lf),.box ((Enc.e b).map (V1.rd []))]⟩ : St)) ?_ (Uf [0,1,2,3,4,5,6])
  clear he
  by_cases hK : b.Kind = 1
  case neg =>
   have f1 : decide (b.Kind ≠ 1) = true := decide_eq_true hK
   obtain ⟨n1,n2,_⟩ := sh_skip hb hK hs hlf
   refine Qd (zy (Gg J J (z3 J (Gn J (zz (Qm J (zy (z0 J ?_))))))));refine Gw J J (Un (Uo J J) J ?_);refine Xw J J J J J J J J J J J J J J (by omega) (by omega) ?_;refine z1 J (zz (Q9 (T_x (Xk (Q0 (Qc (Uh J (z0 J (zz ?_)))))))))
   refine ⟨_,(by omega),_,⟨k + 1,bs,ss,lf ++ [b],J,⟨by omega,n1,n2⟩,J⟩,(by rw [Yu]; exact Uf [0,1,2,3,4,5])⟩
  have f1 : decide (b.Kind ≠ 1) = false := decide_eq_false (fun q => q hK)
  have cm := I_playerMet ⟨w.Level,w.Tick,w.Seed,ss,bs⟩ b b.Owner (by simp only; omega) (by simp only; omega) (fun j p _ h => ((hSL.at_ j p h).1.placed hl).1) hpl
  simp only [hSs] at cm
  refine Qd (zy (Gg J J (z3 J (Gn J (zz (Ql J (Qh (Q0 (Qd ?_)))))))));refine Qc (z0 J (Gw J J (Gg J J (z3 J ?_))));refine Xz (lo := [_,_,_,_]) (gs := [(0,.c (.ptr 0 0)),(6,.c (.ref 3))]) (lo' := [_,_,_,_]) (new := []) [0,1,2,3] [(0,0,.ptr 0 0),(1,0,.ref 3)] (cm) J J J J J J J J J J J J J J J J J ?_;refine z1 J (zz (Qd (zy (z0 J (zx (Vi J) J (zz ?_))))))
  refine AWP.pre (st' := (⟨_,[(0,.o (.c (.ptr 0 0))),(2,.o (.c (.ref 5))),(16,.o (.c (.tl 3 9 (els w.Scores).length))),(17,I (((els w.Bodies).length - (els w.Scores).length : Nat) : Int)),(18,I k),(4,.o (.c (.ptr 6 0))),(5,I (metI bs b b.Owner w.Scores.length)),(35,B (decide (metI bs b b.Owner w.Scores.length < 0)))],[.box [.ref 1,jn w.Tick,jn w.Seed,.ref 2,.ref 3],.row 1 (els w.Level.Rows),.row 1 (els ss),.row 9 (els bs),.gh 0 (.c (.ptr 0 0)),.row 9 (els lf),.box ((Enc.e b).map (V1.rd []))]⟩ : St)) ?_ (Uf [0,1,2,3,4,5,6])
  cases hm : metF bs b b.Owner w.Scores.length with
  | none =>
   obtain ⟨mi,hmi⟩ : ∃ mi : Int,metI bs b b.Owner w.Scores.length = mi := ⟨_,rfl⟩
   rw [hmi]
   rw [met_no hm] at hmi
   have f2 : decide (mi < 0) = true := decide_eq_true (by omega)
   rw [f2]
   obtain ⟨n1,n2,_⟩ := sh_miss hb hm hs hlf
   refine Qm J (zy (z0 J (Gw J J (Un (Uo J J) J ?_))));refine Xw J J J J J J J J J J J J J J (by omega) (by omega) ?_;refine z1 J (zz (Q9 (T_x (Xk (Q0 (Qc (Uh J (z0 J (zz ?_)))))))))
   refine ⟨_,(by omega),_,⟨k + 1,bs,ss,lf ++ [b],J,⟨by omega,n1,n2⟩,J⟩,(by rw [Yu]; exact Uf [0,1,2,3,4,5])⟩
  | some j =>
   rw [met_I hm]
   have f2 : decide ((j : Int) < 0) = false := decide_eq_false (by omega)
   obtain ⟨hj,hc⟩ := metF_lt hm
   obtain ⟨p,hp,hpl,_,_⟩ := metC_life hc
   have hpB := (hSL.at_ j p hp).1.f
   have hjl := Y7 hp
   obtain ⟨n1,n2,_⟩ := sh_hit hb hK hm hp hs hlf
   have he := Yz hp
   refine Ql J (Qh (Q0 (zy (z0 J (zx (qi J) J (Gg J J (z3 J (z0 J (zx (Q3 J J J J J (by omega) (by omega)) J (z1 J ?_))))))))));refine zz (zy (z0 J (zx (q_nile J J J) J (zx (qj J J) J (zx (qk J (by assumption) J) J (Ux J (zx (q_nile J J J) J (zx (qj J J) J ?_))))))));refine Xg J J J J J J J J J (by assumption) J J (zz (zy (z0 J (zx (q_nile J J J) J (zx (qj J J) J ?_)))));refine AL.weak (st' := (⟨_,[(0,.o (.c (.ptr 0 0))),(2,.o (.c (.ref 5))),(16,.o (.c (.tl 3 9 (els w.Scores).length))),(17,I (((els w.Bodies).length - (els w.Scores).length : Nat) : Int)),(18,I k),(4,.o (.c (.ptr 6 0))),(6,.o (.c (.el 3 9 j 0))),(55,.o (.c (.el 3 9 j 7)))],[.box [.ref 1,jn w.Tick,jn w.Seed,.ref 2,.ref 3],.row 1 (els w.Level.Rows),.row 1 (els ss),.row 9 (els (bs.set j (lifeM p))),.gh 0 (.c (.ptr 0 0)),.row 9 (els lf),.box ((Enc.e b).map (V1.rd []))]⟩ : St)) (Yb [0,1,2,3,4,5,6] (by decide) J ((by exact rwBo (st_el0 J))) (.c J (.c J (.c J (.c J (.c J (.c J (.c J (.c J (.nil)))))))))) ?_
   clear he
   have he : (els (bs.set j (lifeM p)))[(j : Int).toNat]? = some (Enc.e (lifeM p)) := Yz (by rw [List.getElem?_set_self hjl])
   by_cases hz : p.Life - 1 = 0
   case neg =>
    have f3 : decide (p.Life - 1 = 0) = false := decide_eq_false hz
    rw [hit_alive hz,if_neg hz] at n1
    refine zx (qk J (by assumption) J) J (Gr J (zz (Ql J (Qh (Q1 (Q0 (Qc (Uh J (z0 J (Qe ?_))))))))));refine Q0 ?_
    refine ⟨_,(by omega),_,⟨k + 1,bs.set j (lifeM p),ss,lf,J,⟨by omega,n1,n2⟩,J⟩,Uf [0,1,2,3,4,5]⟩
   have f3 : decide (p.Life - 1 = 0) = true := decide_eq_true hz
   rw [hit_down hz,if_pos hz] at n1
   have ho := hB.o
   obtain ⟨q,hq⟩ : ∃ q : Nat,b.Owner = q := ⟨b.Owner.toNat,by omega⟩
   obtain ⟨s,hs1⟩ := K0 (xs := ss) (i := q) (by omega)
   have cp := I_addScore ⟨w.Level,w.Tick,w.Seed,ss,bs.set j (lifeM p)⟩ q s hs1 (hSc s (List.mem_of_getElem? hs1))
   simp only [← hq] at cp
   rw [hq,Int.toNat_natCast] at n1
   refine zx (qk J (by assumption) J) J (Gr J (zz (Qm J (zy (z0 J (Gg J J (z3 J ?_)))))));refine Xz (lo := [_,_,_,_]) (gs := [(0,.c (.ptr 0 0)),(5,.c (.ref 3))]) (lo' := [_,_,_,_]) (new := []) [0,1,2,3] [(0,0,.ptr 0 0),(1,0,.ref 3)] (cp) J J J J J J J J J J J J J J J J J ?_;refine zz (zy (z0 J (zx (q_nile J J J) J (zx (qj J J) J ?_))));refine Xg J J J J J J J J J (by assumption) J J (zz (zy (z0 J (zx (q_nile J J J) J (zx (qj J J) J ?_)))));refine AL.weak (st' := (⟨_,[(0,.o (.c (.ptr 0 0))),(2,.o (.c (.ref 5))),(16,.o (.c (.tl 3 9 (els w.Scores).length))),(17,I (((els w.Bodies).length - (els w.Scores).length : Nat) : Int)),(18,I k),(4,.o (.c (.ptr 6 0))),(6,.o (.c (.el 3 9 j 0))),(67,.o (.c (.el 3 9 j 5)))],[.box [.ref 1,jn w.Tick,jn w.Seed,.ref 2,.ref 3],.row 1 (els w.Level.Rows),.row 1 (els (addM ss q)),.row 9 (els (bs.set j (stopX p))),.gh 0 (.c (.ptr 0 0)),.row 9 (els lf),.box ((Enc.e b).map (V1.rd []))]⟩ : St)) (Yb [0,1,2,3,4,5,6] (by decide) J ((by exact rwBo (st_el J))) (.c J (.c J (.c J (.c J (.c J (.c J (.c J (.c J (.nil)))))))))) ?_
   clear he
   have he : (els (bs.set j (stopX p)))[(j : Int).toNat]? = some (Enc.e (stopX p)) := Yz (by rw [List.getElem?_set_self hjl])
   refine Xg J J J J J J J J J (by assumption) J J (zz (Qc (z0 J (zx (q_nile J J J) J (zx (qj J J) J ?_)))));refine AL.weak (st' := (⟨_,[(0,.o (.c (.ptr 0 0))),(2,.o (.c (.ref 5))),(16,.o (.c (.tl 3 9 (els w.Scores).length))),(17,I (((els w.Bodies).length - (els w.Scores).length : Nat) : Int)),(18,I k),(4,.o (.c (.ptr 6 0))),(6,.o (.c (.el 3 9 j 0))),(70,.o (.c (.el 3 9 j 8)))],[.box [.ref 1,jn w.Tick,jn w.Seed,.ref 2,.ref 3],.row 1 (els w.Level.Rows),.row 1 (els (addM ss q)),.row 9 (els (bs.set j (stopY p))),.gh 0 (.c (.ptr 0 0)),.row 9 (els lf),.box ((Enc.e b).map (V1.rd []))]⟩ : St)) (Yb [0,1,2,3,4,5,6] (by decide) J ((by exact rwBo (st_el J))) (.c J (.c J (.c J (.c J (.c J (.c J (.c J (.c J (.nil)))))))))) ?_
   clear he
   have he : (els (bs.set j (stopY p)))[(j : Int).toNat]? = some (Enc.e (stopY p)) := Yz (by rw [List.getElem?_set_self hjl])
   refine Xg J J J J J J J J J (by assumption) J J (Qe (Q1 (Q0 (Qc (Uh J (z0 J (zz ?_)))))))
   refine ⟨_,(by omega),(fun (k : Nat) (bs : List TBody) (ss : List Int) (lf : List TBody) => (⟨_,[(0,.o (.c (.ptr 0 0))),(2,.o (.c (.ref 5))),(16,.o (.c (.tl 3 9 (els w.Scores).length))),(17,I (((els w.Bodies).length - (els w.Scores).length : Nat) : Int)),(18,I k)],[.box [.ref 1,jn w.Tick,jn w.Seed,.ref 2,.ref 3],.row 1 (els w.Level.Rows),.row 1 (els ss),.row 9 (els bs),.gh 0 (.c (.ptr 0 0)),.row 9 (els lf)]⟩ : St)) (k + 1) (bs.set j (downM p)) (addM ss q) (lf),⟨k + 1,bs.set j (downM p),addM ss q,lf,J,⟨by omega,n1,n2⟩,J⟩,Yb [0,1,2,3,4,5] (by decide) J ((by exact rwBo (st_el J))) (.c J (.c J (.c J (.c J (.c J (.nil))))))⟩
 ·have hb0 : decide ((k : Int) < (((els w.Bodies).length - (els w.Scores).length : Nat) : Int)) = false := decide_eq_false (by omega)
  have hk : k = (w.Bodies.drop w.Scores.length).length := by omega
  rw [hk] at hs hlf
  rw [← hs,← hlf]
  have hq : ((els ss).length : Int).toNat = w.Scores.length := by omega
  have hpl := els_pl9 lf
  have hkk := els_k9 lf
  refine zy (U1 J (zz (Qd (Ql J (Q9 (T_x (T_x (Xk (Q0 ?_)))))))));refine Xh u8_29 [[],[],[73],[73,74],[73,74,75],[],[77],[77,78],[77,78,79],[77,78,79,80],[73,74,75,76,77,78,79,80,81],[],[73,74,75,76,77,78,79,80,81,82,83],[72,73,74,75,76,77,78,79,80,81,82,83,84],[72,73,74,75,76,77,78,79,80,81,82,83,84,85],[72,73,74,75,76,77,78,79,80,81,82,83,84,85,86]] [[73,74,75,76,77,78,79,80,81,82,83,84],[72,77,78,79,80,81,83],[72,77,78,79,80,81,83],[72,77,78,79,80,81,83],[72,77,78,79,80,81,83],[72,73,74,75,76,83],[72,73,74,75,76,83],[72,73,74,75,76,83],[72,73,74,75,76,83],[72,73,74,75,76,83],[72,83],[72,73,74,75,76,77,78,79,80,81,82],[72],[],[],[],[0,1]] J (Ve (Vo J) J (Ve (Vo J) J (Ve (qi J) J (Ve (Vq J J) J (Ve (Vr J) J (Ve (Vo J) J (Ve (qi J) J (Ve (Vq J J) J (Ve (Vr J) J (Ve (Kc J J J J) J (Ve (q_hd J J J J J J (by omega)) J ?_)))))))))));refine Ve (Vo J) J (Vd ?_)
  refine AL.weak (Wk.head (p := 3) (els ss).length J (by omega) (by repeat' (first | exact trivial | exact rfl | refine And.intro ?_ ?_)) (by repeat' (first | exact trivial | exact rfl | refine And.intro ?_ ?_))) ?_
  have ht2 : ((els bs).take (els ss).length).length = w.Scores.length := by rw [List.length_take]; omega
  refine AL.weak (st' := (⟨_,[(72,.o (.c (.ptr 0 0))),(82,.o (.c (.ref 3))),(83,.o (.c (.ref 5)))],[.box [.ref 1,jn w.Tick,jn w.Seed,.ref 2,.un],.row 1 (els w.Level.Rows),.row 1 (els ss),.row 9 ((els bs).take (els ss).length),.gh 0 (.c (.ptr 0 0)),.row 9 (els lf)]⟩ : St)) (Uf [0,1,2,3,4,5]) ?_;refine M_app J J J J J J J J J J hpl hkk (by omega) (by omega) ?_;refine zx (qi J) J (Gg J J ?_);refine Gl J (Qe (F_n ?_))
  exact Xn J (Ue [0,1,2,3,4] J (by exact rwBo (tk_app hq)) J)
theorem I_stepItems (w : TWorld) (hg : Enc.gd w.Level) (hl : levelOk w.Level = true) (hn4 : 1 ≤ w.Scores.length ∧ w.Scores.length ≤ 4) (hL : LM w.Level w.Scores.length w.Bodies) (hsc : ∀ x ∈ w.Scores,0 ≤ x ∧ x ≤ 1000000) : Con Tryz.prog 79 [.box [.ref 1,jn w.Tick,jn w.Seed,.ref 2,.ref 3],.row 1 (els w.Level.Rows),.row 1 (els w.Scores),.row 9 (els w.Bodies),.gh 0 (.c (.ptr 0 0))] [.c (.ptr 0 0)] [.box [.ref 1,jn w.Tick,jn w.Seed,.ref 2,.ref 3],.row 1 (els w.Level.Rows),.row 1 (els (itS w.Scores.length w.Bodies (w.Bodies.drop w.Scores.length) w.Scores (w.Bodies.drop w.Scores.length).length)),.row 9 (els (w.Bodies.take w.Scores.length ++ itL w.Scores.length w.Bodies (w.Bodies.drop w.Scores.length) (w.Bodies.drop w.Scores.length).length)),.gh 0 (.c (.ptr 0 0))] (.tu []) := by
 have hlb := Yx w.Bodies
 have hls := Yx w.Scores
 have hln := hL.len
 have hT : (w.Bodies.drop w.Scores.length).length = w.Bodies.length - w.Scores.length := List.length_drop
 refine Con.of Tryz.func79 J Tryz.ntmps79 J (fun E => ?_)
 refine zy (z1 J (zz (Qd (Qd ?_))))
 refine AWP.pre ?_ (W_nil 2 9 J)
 refine Xh u8_28 [[],[6],[6,7],[6,7,8],[],[10],[10,11],[10,11,12],[10,11,12,13],[6,7,8,9,10,11,12,13,14],[6,7,8,9,10,11,12,13,14,15],[]] [[10,11,12,13,14,17],[10,11,12,13,14,17],[10,11,12,13,14,17],[10,11,12,13,14,17],[6,7,8,9,17],[6,7,8,9,17],[6,7,8,9,17],[6,7,8,9,17],[6,7,8,9,17],[17],[17],[6,7,8,9,10,11,12,13,14,15,16],[0]] J (Ve (Vo J) J (Ve (qi J) J (Ve (Vq J J) J (Ve (Vr J) J (Ve (Vo J) J (Ve (qi J) J (Ve (Vq J J) J (Ve (Vr J) J (Ve (Kc J J J J) J (Ve (q_tl J J J J J J (by omega)) J (Ve (q_lentl J J J J) J ?_)))))))))));refine Ve (Vo J) J (Vd (zz (Qk ?_)))
 refine AWP.pre (st' := (⟨_,[(0,.o (.c (.ptr 0 0))),(2,.o (.c (.ref 5))),(15,.o (.c (.tl 3 9 (els w.Scores).length))),(16,I (((els w.Bodies).length - (els w.Scores).length : Nat) : Int)),(17,I 0)],[.box [.ref 1,jn w.Tick,jn w.Seed,.ref 2,.ref 3],.row 1 (els w.Level.Rows),.row 1 (els w.Scores),.row 9 (els w.Bodies),.gh 0 (.c (.ptr 0 0)),.row 9 []]⟩ : St)) ?_ (Uf [0,1,2,3,4,5])
 refine Xi (fun m__ st => ∃ (k : Nat) (ss : List Int) (lf : List TBody),(w.Bodies.drop w.Scores.length).length - k = m__ ∧ (k ≤ (w.Bodies.drop w.Scores.length).length ∧ ss = itS w.Scores.length w.Bodies (w.Bodies.drop w.Scores.length) w.Scores k ∧ lf = itL w.Scores.length w.Bodies (w.Bodies.drop w.Scores.length) k) ∧ st = (⟨_,[(0,.o (.c (.ptr 0 0))),(2,.o (.c (.ref 5))),(15,.o (.c (.tl 3 9 (els w.Scores).length))),(16,I (((els w.Bodies).length - (els w.Scores).length : Nat) : Int)),(17,I k)],[.box [.ref 1,jn w.Tick,jn w.Seed,.ref 2,.ref 3],.row 1 (els w.Level.Rows),.row 1 (els ss),.row 9 (els w.Bodies),.gh 0 (.c (.ptr 0 0)),.row 9 (els lf)]⟩ : St)) _ ⟨_,⟨0,w.Scores,[],J,⟨by omega,J,J⟩,J⟩,Uf [0,1,2,3,4,5]⟩ ?_
 rintro m_A _ ⟨k,ss,lf,hk_A,hp_A,rfl⟩
 obtain ⟨hk,hs,hlf⟩ := hp_A
 have hSs : ss.length = w.Scores.length := by rw [hs]; exact (itS_ok rfl hsc).1
 have hSc : ∀ x ∈ ss,0 ≤ x ∧ x ≤ 1000000 := by rw [hs]; exact (itS_ok rfl hsc).2
 have hll := Yx lf
 have hlk : lf.length ≤ k := by rw [hlf]; exact itL_le
 have hlss := Yx ss
 by_cases hlt : k < (w.Bodies.drop w.Scores.length).length
 ·have hb0 : decide ((k : Int) < (((els w.Bodies).length - (els w.Scores).length : Nat) : Int)) = true := decide_eq_true (by omega)
  obtain ⟨b,hb⟩ := K0 hlt
  have hbb : w.Bodies[w.Scores.length + k]? = some b := by rw [← List.getElem?_drop]; exact hb
  have hB := (hL.at_ _ b hbb).1
  have hpl := (hB.placed hl).1
  refine zy (U1 J (zz (Qd (Qm J (Qh (Q0 (Qd (Qk (Qd ?_)))))))));refine Qc (zx (q_attl J J J J J J (by omega) (by omega)) J ?_)
  have he := tl_el hbb
  with_reducible refine Xe ?_
  refine zx (Q6 J J J J (by assumption) J J) J ?_
  with_reducible refine K_alloc ?_
  refine Un (Gh J J) J ?_
  with_reducible refine Xd ?_
  refine G1 J J (zz ?_)
  refine AWP.pre (st' := (⟨_,[(0,.o (.c (.ptr 0 0))),(2,.o (.c (.ref 5))),(15,.o (.c (.tl 3 9 (els w.Scores).length))),(16,I (((els w.Bodies).length - (els w.Scores).length : Nat) : Int)),(17,I k),(4,.o (.c (.ptr 6 0)))],[.box [.ref 1,jn w.Tick,jn w.Seed,.ref 2,.ref 3],.row 1 (els w.Level.Rows),.row 1 (els ss),.row 9 (els w.Bodies),.gh 0 (.c (.ptr 0 0)),.row 9 (els lf),.box ((Enc.e b).map (V1.rd []))]⟩ : St)) ?_ (Uf [0,1,2,3,4,5,6])
  clear he
  by_cases hK : b.Kind = 2
  case neg =>
   have f1 : decide (b.Kind = 2) = false := decide_eq_false hK
   obtain ⟨n1,n2,_⟩ := it_skip hb hK hs hlf
   refine Qd (zy (Gg J J (z3 J (Gr J (zz (Ql J (Qh (Q0 (Qc ?_)))))))));refine z0 J (Gw J J (Un (Uo J J) J ?_));refine Xw J J J J J J J J J J J J J J (by omega) (by omega) ?_;refine z1 J (Qe (Q1 (Q0 (Qc (Uh J (z0 J (zz ?_)))))))
   refine ⟨_,(by omega),_,⟨k + 1,ss,lf ++ [b],J,⟨by omega,n1,n2⟩,J⟩,(by rw [Yu]; exact Uf [0,1,2,3,4,5])⟩
  have f1 : decide (b.Kind = 2) = true := decide_eq_true hK
  have cm := I_playerMet ⟨w.Level,w.Tick,w.Seed,ss,w.Bodies⟩ b (-1) (by simp only; omega) (by simp only; omega) (fun j p _ h => ((hL.at_ j p h).1.placed hl).1) hpl
  simp only [hSs] at cm
  refine Qd (zy (Gg J J (z3 J (Gr J (zz (Qm J (zy (z0 J ?_))))))));refine Gw J J ?_;refine Xz (lo := [_,_,_,_]) (gs := [(0,.c (.ptr 0 0)),(6,.c (.ref 3))]) (lo' := [_,_,_,_]) (new := []) [0,1,2,3] [(0,0,.ptr 0 0),(1,0,.ref 3)] (cm) J J J J J J J J J J J J J J J J J ?_;refine z1 J (zz (zy (z0 J (zx (q_geq J J J J) J (zz ?_)))))
  refine AWP.pre (st' := (⟨_,[(0,.o (.c (.ptr 0 0))),(2,.o (.c (.ref 5))),(15,.o (.c (.tl 3 9 (els w.Scores).length))),(16,I (((els w.Bodies).length - (els w.Scores).length : Nat) : Int)),(17,I k),(4,.o (.c (.ptr 6 0))),(5,I (metI w.Bodies b (-1) w.Scores.length)),(28,B (decide (metI w.Bodies b (-1) w.Scores.length ≥ 0)))],[.box [.ref 1,jn w.Tick,jn w.Seed,.ref 2,.ref 3],.row 1 (els w.Level.Rows),.row 1 (els ss),.row 9 (els w.Bodies),.gh 0 (.c (.ptr 0 0)),.row 9 (els lf),.box ((Enc.e b).map (V1.rd []))]⟩ : St)) ?_ (Uf [0,1,2,3,4,5,6])
  cases hm : metF w.Bodies b (-1) w.Scores.length with
  | none =>
   obtain ⟨mi,hmi⟩ : ∃ mi : Int,metI w.Bodies b (-1) w.Scores.length = mi := ⟨_,rfl⟩
   rw [hmi]
   rw [met_no hm] at hmi
   have f2 : decide (mi ≥ 0) = false := decide_eq_false (by omega)
   rw [f2]
   obtain ⟨n1,n2,_⟩ := it_miss hb hm hs hlf
   refine Ql J (Qh (Q0 (Qc (z0 J (Gw J J (Un (Uo J J) J ?_))))));refine Xw J J J J J J J J J J J J J J (by omega) (by omega) ?_;refine z1 J (Qe (Q1 (Q0 (Qc (Uh J (z0 J (zz ?_)))))))
   refine ⟨_,(by omega),_,⟨k + 1,ss,lf ++ [b],J,⟨by omega,n1,n2⟩,J⟩,(by rw [Yu]; exact Uf [0,1,2,3,4,5])⟩
  | some j =>
   rw [met_I hm]
   have f2 : decide ((j : Int) ≥ 0) = true := decide_eq_true (by omega)
   obtain ⟨hj,hc⟩ := metF_lt hm
   obtain ⟨s,hs1⟩ := K0 (xs := ss) (i := j) (by omega)
   have cp := I_addScore ⟨w.Level,w.Tick,w.Seed,ss,w.Bodies⟩ j s hs1 (hSc s (List.mem_of_getElem? hs1))
   simp only at cp
   obtain ⟨n1,n2,_⟩ := it_hit hb hK hm hs hlf
   refine Qm J (zy (z0 J (z0 J ?_)));refine Xz (lo := [_,_,_,_]) (gs := [(0,.c (.ptr 0 0)),(5,.c (.ref 3))]) (lo' := [_,_,_,_]) (new := []) [0,1,2,3] [(0,0,.ptr 0 0),(1,0,.ref 3)] (cp) J J J J J J J J J J J J J J J J J ?_;refine zz (Q9 (T_x (Xk (Q0 (Qc (Uh J (z0 J (zz ?_))))))))
   refine ⟨_,(by omega),_,⟨k + 1,addM ss j,lf,J,⟨by omega,n1,n2⟩,J⟩,Uf [0,1,2,3,4,5]⟩
 ·have hb0 : decide ((k : Int) < (((els w.Bodies).length - (els w.Scores).length : Nat) : Int)) = false := decide_eq_false (by omega)
  have hk : k = (w.Bodies.drop w.Scores.length).length := by omega
  rw [hk] at hs hlf
  rw [← hs,← hlf]
  have hq : ((els ss).length : Int).toNat = w.Scores.length := by omega
  have hpl := els_pl9 lf
  have hkk := els_k9 lf
  refine zy (U1 J (zz (Qd (Ql J (Q9 (T_x (T_x (Xk (Q0 ?_)))))))));refine Xh u8_29 [[],[],[38],[38,39],[38,39,40],[],[42],[42,43],[42,43,44],[42,43,44,45],[38,39,40,41,42,43,44,45,46],[],[38,39,40,41,42,43,44,45,46,47,48],[37,38,39,40,41,42,43,44,45,46,47,48,49],[37,38,39,40,41,42,43,44,45,46,47,48,49,50],[37,38,39,40,41,42,43,44,45,46,47,48,49,50,51]] [[38,39,40,41,42,43,44,45,46,47,48,49],[37,42,43,44,45,46,48],[37,42,43,44,45,46,48],[37,42,43,44,45,46,48],[37,42,43,44,45,46,48],[37,38,39,40,41,48],[37,38,39,40,41,48],[37,38,39,40,41,48],[37,38,39,40,41,48],[37,38,39,40,41,48],[37,48],[37,38,39,40,41,42,43,44,45,46,47],[37],[],[],[],[0,1]] J (Ve (Vo J) J (Ve (Vo J) J (Ve (qi J) J (Ve (Vq J J) J (Ve (Vr J) J (Ve (Vo J) J (Ve (qi J) J (Ve (Vq J J) J (Ve (Vr J) J (Ve (Kc J J J J) J (Ve (q_hd J J J J J J (by omega)) J ?_)))))))))));refine Ve (Vo J) J (Vd ?_)
  refine AL.weak (Wk.head (p := 3) (els ss).length J (by omega) (by repeat' (first | exact trivial | exact rfl | refine And.intro ?_ ?_)) (by repeat' (first | exact trivial | exact rfl | refine And.intro ?_ ?_))) ?_
  have ht2 : ((els w.Bodies).take (els ss).length).length = w.Scores.length := by rw [List.length_take]; omega
  refine AL.weak (st' := (⟨_,[(37,.o (.c (.ptr 0 0))),(47,.o (.c (.ref 3))),(48,.o (.c (.ref 5)))],[.box [.ref 1,jn w.Tick,jn w.Seed,.ref 2,.un],.row 1 (els w.Level.Rows),.row 1 (els ss),.row 9 ((els w.Bodies).take (els ss).length),.gh 0 (.c (.ptr 0 0)),.row 9 (els lf)]⟩ : St)) (Uf [0,1,2,3,4,5]) ?_;refine M_app J J J J J J J J J J hpl hkk (by omega) (by omega) ?_;refine zx (qi J) J (Gg J J ?_);refine Gl J (Qe (F_n ?_))
  exact Xn J (Ue [0,1,2,3,4] J (by exact rwBo (tk_app hq)) J)
end
section
open Go.RowKit

section
variable {P : Program} {w : World}
theorem run_copy_src (t tx ty e : TypeId) (i : TypeInfo) (ht : P.underlying t = some (.slice e)) (hi : P.info? e = some i) (b o c n : Nat) (x : Value) (news : List Value) (hs : Src P i.size tx x n news w) (hc : ∀ j,j < news.length → (w.cell? ⟨b,o + j,none⟩).isSome = true) (hf : ∀ j,j < news.length → w.frozen? ⟨b,o + j,none⟩ = false) :
  (Builtin.copy_ #[t,tx] ty #[.slice (some ⟨b,o,none⟩) n c,x]).run P w = .ok (.int .i64 n) (w.setCells b o news) := by
 have hst := run_storeCells_cells (P := P) b o news 0 w (by simpa using hc) (by simpa using hf) hs.one
 simp only [Nat.add_zero] at hst
 simp [Builtin.copy_,run_underlying ht,Go.sizeOf,typeInfo,hi,hs.len,hs.cells,hst,goInt]
theorem OW.fill {k : Nat} {es es' : List (List T)} {v : Value} {fp : List Nat} {t tx ty e : TypeId} {zs : List Value} {by_ : Nat} [hm : TyMake P t e zs by_] (h : OW w (.sl k es) v fp) (hnd : fp.Nodup) (hkz : k = zs.length) {x : Value} (hl : es'.length = es.length) (h0 : 0 < es.length) (hpl : plainT es') (hkk : ∀ e ∈ es',e.length = k)
  (hsrc : Src P k tx x es'.length (flatV (plainV' es') es'.length k) w) :
  ∃ w' fp',(Builtin.copy_ #[t,tx] ty #[v,x]).run P w = .ok (.int .i64 es.length) w' ∧ OW w' (.sl k es') v fp' ∧ fp'.Nodup ∧ (∀ b ∈ fp',b ∈ fp) ∧ Keeps w w' fp := by
 obtain ⟨i,hi,hzz⟩ := Option.map_eq_some_iff.1 hm.info
 simp only [Prod.mk.injEq] at hzz
 obtain ⟨hz1,hs,hb1⟩ := hzz
 have hsk : i.size = k := by rw [hs,hkz]
 have hsrc2 : Src P i.size tx x es.length (flatV (plainV' es') es'.length k) w := by rw [hsk,← hl]; exact hsrc
 rcases h.open_ with ⟨rfl,rfl,rfl⟩ | ⟨b,o,c,tid,cur,fz,val,fps,rfl,rfl,hg,hzf,hc,hcm,hcs,hp,hk,hf,hfk,hv,ht⟩
 ·simp at h0
 ·have hmul : es'.length * k ≤ c * k := Nat.mul_le_mul_right _ (by omega)
  have hr := run_copy_src (P := P) (w := w) t tx ty e i hm.slice hi b o c es.length x _ hsrc2 (fun j hj => by
   rw [cell_of_row w b _ cur tid fz hg]
   rw [Y5] at hj
   simp
   omega) (fun j hj => by
   rw [Y5] at hj
   exact frozen_fz hg hzf (by omega))
  obtain ⟨cur',k1,k2,k3,k4⟩ := Y9 b tid fz (flatV (plainV' es') es'.length k) o w cur hg (by rw [Y5]; omega)
  obtain ⟨s1,s2,s3,s4,s5⟩ := Kx w b (flatV (plainV' es') es'.length k) o
  have hnil : (es'.map fun e => e.map fun _ => ([] : List Nat)).flatten.flatten = [] := by
   rw [List.flatten_eq_nil_iff]
   intro l hl
   rw [List.mem_flatten] at hl
   obtain ⟨f,hf,hl⟩ := hl
   obtain ⟨e,_,rfl⟩ := List.mem_map.1 hf
   obtain ⟨_,_,rfl⟩ := List.mem_map.1 hl
   rfl
  refine ⟨_,b :: (es'.map fun e => e.map fun _ => ([] : List Nat)).flatten.flatten,hr,?_,by rw [hnil]; simp,fun x hx => ?_,s1,s2,s3,by omega,fun b'' _ hb'' => s5 b'' fun e => hb'' (by simp [e])⟩
  ·rw [← hl]
   refine .sl es' b o k c tid cur' fz (plainV' es') (es'.map fun e => e.map fun _ => []) k1 (by rw [k2]; exact hzf) (by omega) hcm (by rw [k2]; exact hcs) hp hkk (by simp) (fun f hf => ?_) (fun i j hi hj => ?_) fun i j e t fs f h6 h7 h8 h9 => ?_
   ·obtain ⟨e,h6,rfl⟩ := List.mem_map.1 hf
    simpa using hkk e h6
   ·have h1 := ij_lt hi hj
    rw [Nat.add_assoc,k3 _ (by rw [Y5]; exact h1)]
    exact flatV_at hi hj
   ·rw [List.getElem?_map,h6] at h8
    simp only [Option.map_some,Option.some.injEq] at h8
    subst h8
    rw [List.getElem?_map,h7] at h9
    simp only [Option.map_some,Option.some.injEq] at h9
    subst h9
    obtain ⟨u,rfl⟩ := hpl e (Y8 h6) t (Y8 h7)
    rw [plainV'_at h6 h7]
    refine .v u ?_
    have hi := Y7 h6
    have hj : j < k := by rw [← hkk e (Y8 h6)]; exact Y7 h7
    have := hsrc.one _ (Y8 (flatV_at (val := plainV' es') hi hj))
    rwa [plainV'_at h6 h7] at this
  ·rw [hnil] at hx
   rcases List.mem_cons.1 hx with rfl | hx
   ·simp
   ·cases hx
end
section
variable {P : Program} {E : Env} {ops : Array Oper} {o : Oper} {st : St} {n : Nat} {rest : List Oper} {QQ : Exit → St → Prop} {t : TypeId} {y z : Operand}
theorem exec_copy {a : Act} {w w' : World} {v : Value} (ho : o.op = .call { callee := .builtin .copy,args := #[y,z],argTypes := #[t,t] }) (h : (Builtin.copy_ #[t,t] o.type #[a.eval y,a.eval z]).run P w = .ok v w') : (execOp a.eval o).run P w = .ok (.value v) w' := by
 unfold execOp
 simp only [ho,resolve,invoke,builtin,Sem.run_bind,Sem.run_pure,Result.andThen_ok,List.map_toArray,List.map_cons,List.map_nil,h]
theorem L_copy {p kk : Nat} {es es' : List (List T)} {x : V1} {e : TypeId} {zs : List Value} {by_ : Nat} [hm : TyMake P t e zs by_] (ho : o.op = .call { callee := .builtin .copy,args := #[y,z],argTypes := #[t,t] }) (hg : o.guard = none) (hy : st.ev y = .o (.c (.ref p))) (hp : st.objs[p]? = some (.row kk es)) (hz : st.ev z = .o (.c x)) (hs : srcOf st.objs x = some es')
  (hkz : kk = zs.length) (hz0 : zs ≠ []) (hd : dstOk st.n o.dst = true) (hpl : plainT es') (hkk : ∀ e ∈ es',e.length = kk) (hl : es'.length = es.length) (h0 : 0 < es.length)
  (h : AL P E ops QQ rest ⟨st.n,setT (st.tmps.map fun e => (e.1,e.2.kille p [])) o.dst (I es.length),(st.objs.map (Ob.kille p [])).set p (.row kk es')⟩) : AL P E ops QQ (o :: rest) st := by
 refine ⟨fun a w ⟨H,F,h1,h2⟩ => ?_⟩
 obtain ⟨v,fp,e1,e2⟩ := h1.ow hp
 obtain ⟨x',fp',e3⟩ := h1.v1 hy
 rw [e1] at e3
 simp only [Pc.ow.injEq] at e3
 obtain ⟨_,hv,_⟩ := e3
 have hnd := h1.ok.nodup p
 rw [e1] at hnd
 have hsrc := src_any (P := P) (t := t) (e := e) (by_ := by_) (kk := kk) h1 hkz hz0 (h1.v1 hz) hs hpl hkk
 obtain ⟨w',fp'',hr,h3,h4,h5,h6⟩ := OW.fill (P := P) (t := t) (ty := o.type) e2 hnd hkz hl h0 hpl hkk hsrc
 obtain ⟨hok,htn⟩ := h1.ok.turn (p := p) (fp := fp) (by rw [e1]; rfl) h6 (.ow (.sl kk es') v fp'') h3 h4 trivial (fun b hb => .inl (h5 b hb))
 obtain ⟨hplt,_⟩ := List.getElem?_eq_some_iff.1 hp
 have hR := h1.turne (rs := []) htn hok e1 (Hs.put_self _ _ _) (by simp) (by simp) (ob := .row kk es') ⟨_,_,Hs.put_self _ _ _⟩ hplt
 have hR2 := hR.put (x := I es.length) o.dst hd (v := .int .i64 es.length) (plainV _ rfl)
 refine wpList_step fun K hK => ?_
 rw [if_pos (by unfold Region.wanted; rw [hg])]
 unfold Oper.wp
 rw [exec_copy ho (by rw [← hv]; exact hr)]
 exact hK _ _ (h.h _ _ ⟨_,F,hR2,h2.turn htn⟩)
theorem M_copy {d : Nat} {ts : List (Nat × V)} {obs : List Ob} {p kk : Nat} {es es' : List (List T)} {x : V1} {e : TypeId} {zs : List Value} {by_ : Nat} [hm : TyMake P t e zs by_] (ho : o.op = .call { callee := .builtin .copy,args := #[y,z],argTypes := #[t,t] }) (hg : o.guard = none) (hy : St.ev ⟨n,ts,obs⟩ y = .o (.c (.ref p))) (hp : obs[p]? = some (.row kk es)) (hz : St.ev ⟨n,ts,obs⟩ z = .o (.c x)) (hs : srcOf obs x = some es')
  (hkz : kk = zs.length) (hz0 : zs.isEmpty = false) (hd : o.dst = some d) (hl : Nat.blt d n = true) (hpl : plainT es') (hkk : ∀ e ∈ es',e.length = kk) (hle : es'.length = es.length) (h0 : 0 < es.length)
  (h : AL P E ops QQ rest ⟨n,(d,I es.length) :: (ts.map fun e => (e.1,e.2.kille p [])),(obs.map (Ob.kille p [])).set p (.row kk es')⟩) : AL P E ops QQ (o :: rest) ⟨n,ts,obs⟩ :=
 L_copy ho hg hy hp hz hs hkz (by intro e; rw [e] at hz0; cases hz0) (by rw [hd]; exact hl) hpl hkk hle h0 (by rw [hd]; exact h)
end
end
section
open Go.RowKit

theorem rw6g {a b c d e f : Ob} {t : List Ob} {m : Nat} {u v : List (List T)} (h2 : u = v) : a :: b :: c :: d :: e :: f :: Ob.row m u :: t = a :: b :: c :: d :: e :: f :: Ob.row m v :: t := by rw [h2]
theorem rw2k {a b c d e : Ob} {k m : Nat} {x y u v : List (List T)} (h : x = y) (h2 : u = v) : [a,b,c,d,e,Ob.row k x,Ob.row m u] = [a,b,c,d,e,Ob.row k y,Ob.row m v] := by rw [h,h2]
theorem mk_gone {N : Nat} {i : Int} {kk : Nat} (h : i.toNat = N) : els (List.replicate N false) = List.replicate i.toNat ([Value.bool false].map (zT kk)) := by
 rw [h,els,List.map_replicate]; rfl
theorem at_el {bs : List TBody} {ss : List Int} {k : Nat} {b : TBody} (h : bs[ss.length + k]? = some b) : (els bs)[(((els ss).length + k : Nat) : Int).toNat]? = some (Enc.e b) := by
 rw [Yx,Int.toNat_natCast,els,List.getElem?_map,h]; rfl
theorem at_gl {gl : List Bool} {ss : List Int} {k : Nat} {b : Bool} (h : gl[ss.length + k]? = some b) : (els gl)[(((els ss).length + k : Nat) : Int).toNat]? = some (Enc.e b) := by
 rw [Yx,Int.toNat_natCast,els,List.getElem?_map,h]; rfl
theorem st_gl {gl : List Bool} {ss : List Int} {k : Nat} {b : Bool} : els (gl.set (ss.length + k) true) = (els gl).set (((els ss).length + k : Nat) : Int).toNat (splice (Enc.e b) 0 [.v (.bool true)]) := by
 rw [Yx,Int.toNat_natCast,els,List.map_set]; rfl
theorem gl_set {gl : List Bool} {n m k N : Nat} {f g : Nat → Bool} (hl : gl.length = N) (h : ∀ i,i < m → n + i < N → gl[n + i]? = some (f i)) (hk : g k = true) (hf : ∀ i,i ≠ k → g i = f i) : (gl.set (n + k) true).length = N ∧ ∀ i,i < m → n + i < N → (gl.set (n + k) true)[n + i]? = some (g i) := by
 refine ⟨by rw [List.length_set]; exact hl,fun i hi hN => ?_⟩
 by_cases e : i = k
 ·subst e
  rw [List.getElem?_set_self (by omega),hk]
 ·rw [List.getElem?_set_ne (by omega),h i hi hN,hf i e]
theorem gl_same {gl : List Bool} {n m N : Nat} {f g : Nat → Bool} (hl : gl.length = N) (h : ∀ i,i < m → n + i < N → gl[n + i]? = some (f i)) (hf : ∀ i,g i = f i) : gl.length = N ∧ ∀ i,i < m → n + i < N → gl[n + i]? = some (g i) :=
 ⟨hl,fun i hi hN => by rw [h i hi hN,hf]⟩
def itF (n : Nat) (t bs : List TBody) (i : Nat) : Bool := match t[i]? with
 | none => false
 | some b => itHit n bs b
theorem itF_at {n i : Nat} {t bs : List TBody} {b : TBody} (h : t[i]? = some b) : itF n t bs i = itHit n bs b := by rw [itF,h]
theorem f1_ne {i k : Nat} {c : Bool} (h : i ≠ k) : (decide (i < k + 1) && c) = (decide (i < k) && c) := by
 rw [show decide (i < k + 1) = decide (i < k) from decide_eq_decide.2 (by omega)]
theorem f1_step {k : Nat} {c : Nat → Bool} (h : c k = false) (i : Nat) : (decide (i < k + 1) && c i) = (decide (i < k) && c i) := by
 by_cases e : i = k
 ·subst e; rw [h,Bool.and_false,Bool.and_false]
 ·exact f1_ne e
theorem f2_ne {i k : Nat} {c d : Bool} (h : i ≠ k) : (d || (decide (i < k + 1) && c)) = (d || (decide (i < k) && c)) := by rw [f1_ne h]
theorem f2_step {k : Nat} {c d : Nat → Bool} (h : c k = false) (i : Nat) : (d i || (decide (i < k + 1) && c i)) = (d i || (decide (i < k) && c i)) := by rw [f1_step h]
theorem S_l02Hits (w : TWorld) (hg : Enc.gd w.Level) (hl : levelOk w.Level = true) (hn4 : 1 ≤ w.Scores.length ∧ w.Scores.length ≤ 4) (hL : LM w.Level w.Scores.length w.Bodies) (hsc : ∀ x ∈ w.Scores,0 ≤ x ∧ x ≤ 1000000) : Con Tryz.prog 110 [.box [.ref 1,jn w.Tick,jn w.Seed,.ref 2,.ref 3],.row 1 (els w.Level.Rows),.row 1 (els w.Scores),.row 9 (els w.Bodies),.gh 0 (.c (.ptr 0 0))] [.c (.ptr 0 0)] [.box [.ref 1,jn w.Tick,jn w.Seed,.ref 2,.ref 3],.row 1 (els w.Level.Rows),.row 1 (els (hitsR w.Scores.length w.Bodies w.Scores).2),.row 9 (els (hitsR w.Scores.length w.Bodies w.Scores).1),.gh 0 (.c (.ptr 0 0))] (.tu []) := by
 have hlb := Yx w.Bodies
 have hls := Yx w.Scores
 have hln := hL.len
 have hT : (w.Bodies.drop w.Scores.length).length = w.Bodies.length - w.Scores.length := List.length_drop
 have htk : ((els w.Bodies).take ((els w.Scores).length : Int).toNat).length = w.Scores.length := by rw [List.length_take,Int.toNat_natCast]; omega
 refine Con.of Tryz.func110 J Tryz.ntmps110 J (fun E => ?_)
 refine zy (z0 J (zx (qi J) J (Gg J J (z3 J (zx (Kc J J J J) J (z1 J (zz (zy ?_))))))));refine Un (Zy J J J) J (z0 J (zx (qi J) J (Gg J J (z3 J (z0 J (zx (q_partr0 J J J J J J (by omega)) J ?_))))));refine Un (q_appz J J J J J J (fun e he => els_pl9 _ e (List.mem_of_mem_take he)) (fun e he => els_k9 _ e (List.mem_of_mem_take he)) (by omega) (by omega) (by omega)) J ?_;refine z1 J (zz (zy (z0 J (zx (qi J) J (Gg J J (z3 J (zx (Kc J J J J) J ?_)))))));refine Un (q_make 1 J J J J (by omega) (by omega) (by omega) J (by decide)) J ?_;refine z1 J (zz (Qd (zy (z0 J (z1 J (zz (Qk ?_)))))))
 refine AWP.pre (st' := (⟨_,[(0,.o (.c (.ptr 0 0))),(2,I (els w.Scores).length),(3,.o (.c (.ref 5))),(4,.o (.c (.ref 6))),(5,I (els w.Scores).length)],[.box [.ref 1,jn w.Tick,jn w.Seed,.ref 2,.ref 3],.row 1 (els w.Level.Rows),.row 1 (els w.Scores),.row 9 (els w.Bodies),.gh 0 (.c (.ptr 0 0)),.row 9 (els (w.Bodies.take w.Scores.length)),.row 1 (els (List.replicate w.Bodies.length false))]⟩ : St)) ?_ (Yb [0,1,2,3,4,6,7] (by decide) J ((by exact rw2k (by rw [Y0,hls,Int.toNat_natCast]) (mk_gone (by rw [Int.toNat_natCast,hlb])))) (.c J (.c J (.c J (.c J (.c J (.nil)))))))
 refine Xi (fun m__ st => ∃ (k : Nat) (bs : List TBody) (ss : List Int) (gl : List Bool),(w.Bodies.drop w.Scores.length).length - k = m__ ∧ (k ≤ (w.Bodies.drop w.Scores.length).length ∧ (bs,ss) = shS w.Scores.length (w.Bodies.drop w.Scores.length) (w.Bodies,w.Scores) k ∧ (gl.length = w.Bodies.length ∧ ∀ i,i < (w.Bodies.drop w.Scores.length).length → w.Scores.length + i < w.Bodies.length → gl[w.Scores.length + i]? = some (decide (i < k) && shF w.Scores.length (w.Bodies.drop w.Scores.length) (w.Bodies,w.Scores) i))) ∧ st = (⟨_,[(0,.o (.c (.ptr 0 0))),(2,I (els w.Scores).length),(3,.o (.c (.ref 5))),(4,.o (.c (.ref 6))),(5,I (((els w.Scores).length + k : Nat) : Int))],[.box [.ref 1,jn w.Tick,jn w.Seed,.ref 2,.ref 3],.row 1 (els w.Level.Rows),.row 1 (els ss),.row 9 (els bs),.gh 0 (.c (.ptr 0 0)),.row 9 (els (w.Bodies.take w.Scores.length)),.row 1 (els gl)]⟩ : St)) _ ⟨(fun (k : Nat) (bs : List TBody) (ss : List Int) (gl : List Bool) => (⟨_,[(0,.o (.c (.ptr 0 0))),(2,I (els w.Scores).length),(3,.o (.c (.ref 5))),(4,.o (.c (.ref 6))),(5,I (((els w.Scores).length + k : Nat) : Int))],[.box [.ref 1,jn w.Tick,jn w.Seed,.ref 2,.ref 3],.row 1 (els w.Level.Rows),.row 1 (els ss),.row 9 (els bs),.gh 0 (.c (.ptr 0 0)),.row 9 (els (w.Bodies.take w.Scores.length)),.row 1 (els gl)]⟩ : St)) (0) (w.Bodies) (w.Scores) (List.replicate w.Bodies.length false),⟨0,w.Bodies,w.Scores,List.replicate w.Bodies.length false,J,⟨by omega,J,by simp,fun i _ hi => by rw [List.getElem?_replicate,if_pos hi]; simp⟩,J⟩,V6 [0,1,2,3,4,5,6] J (.c J (.c J (.c J (.c J (.cons (Xv (by omega)) (.nil))))))⟩ ?_
 rintro m_A _ ⟨k,bs,ss,gl,hk_A,hp_A,rfl⟩
 obtain ⟨hk,hs,hgl,hg2⟩ := hp_A
 have hS := (SI.start hL rfl hsc).all (w.Bodies.drop w.Scores.length) k
 rw [← hs] at hS
 obtain ⟨hSL,hSn,hSt,hSs,hSc⟩ := hS
 simp only at hSL hSn hSt hSs hSc
 have hlbs := Yx bs
 have hlss := Yx ss
 have hlgl := Yx gl
 by_cases hlt : k < (w.Bodies.drop w.Scores.length).length
 ·have hb0 : decide ((((els w.Scores).length + k : Nat) : Int) < (els bs).length) = true := decide_eq_true (by omega)
  obtain ⟨b,hb⟩ := K0 hlt
  have hbb : bs[w.Scores.length + k]? = some b := by rw [hSt _ (by omega),← List.getElem?_drop]; exact hb
  have hB := (hSL.at_ _ b hbb).1
  have hpl := (hB.placed hl).1
  have hgk := hg2 k hlt (by omega)
  rw [decide_eq_false (Nat.lt_irrefl k),Bool.false_and] at hgk
  refine Qd (zy (z0 J (z0 J (zx (qi J) J (Gg J J (z3 J (zx (Kc J J J J) J (U1 J (zz ?_)))))))));refine Qm J (Qh (Q0 (Qd (Qk (zy (z0 J (zx (qi J) J (Gg J J (z3 J (z0 J ?_))))))))));refine zx (Q3 J J J J J (by omega) (by omega)) J ?_
  have he := at_el hbb
  with_reducible refine Xe ?_
  refine zx (Q6 J J J J (by assumption) J J) J ?_
  with_reducible refine K_alloc ?_
  refine Un (Gh J J) J ?_
  with_reducible refine Xd ?_
  refine G1 J J (zz ?_)
  refine AWP.pre (st' := (⟨_,[(0,.o (.c (.ptr 0 0))),(2,I (els w.Scores).length),(3,.o (.c (.ref 5))),(4,.o (.c (.ref 6))),(5,I (((els w.Scores).length + k : Nat) : Int)),(6,.o (.c (.ptr 7 0)))],[.box [.ref 1,jn w.Tick,jn w.Seed,.ref 2,.ref 3],.row 1 (els w.Level.Rows),.row 1 (els ss),.row 9 (els bs),.gh 0 (.c (.ptr 0 0)),.row 9 (els (w.Bodies.take w.Scores.length)),.row 1 (els gl),.box ((Enc.e b).map (V1.rd []))]⟩ : St)) ?_ (Uf [0,1,2,3,4,5,6,7])
  clear he
  by_cases hK : b.Kind = 1
  case neg =>
   have f1 : decide (b.Kind ≠ 1) = true := decide_eq_true hK
   obtain ⟨n1,_,n3⟩ := sh_skip hb hK hs (lf := shL w.Scores.length (w.Bodies.drop w.Scores.length) (w.Bodies,w.Scores) k) rfl
   refine Qd (zy (Gg J J (z3 J (Gn J (zz (Qm J (Q9 (T_x (Xk ?_)))))))));refine Q0 (Qc (z0 J (Uh J (z1 J (zz ?_)))))
   refine ⟨_,(by omega),(fun (k : Nat) (bs : List TBody) (ss : List Int) (gl : List Bool) => (⟨_,[(0,.o (.c (.ptr 0 0))),(2,I (els w.Scores).length),(3,.o (.c (.ref 5))),(4,.o (.c (.ref 6))),(5,I (((els w.Scores).length + k : Nat) : Int))],[.box [.ref 1,jn w.Tick,jn w.Seed,.ref 2,.ref 3],.row 1 (els w.Level.Rows),.row 1 (els ss),.row 9 (els bs),.gh 0 (.c (.ptr 0 0)),.row 9 (els (w.Bodies.take w.Scores.length)),.row 1 (els gl)]⟩ : St)) (k + 1) (bs) (ss) (gl),⟨k + 1,bs,ss,gl,J,⟨by omega,n1,gl_same hgl hg2 (f1_step n3)⟩,J⟩,V6 [0,1,2,3,4,5,6] J (.c J (.c J (.c J (.c J (.cons (Xv (by omega)) (.nil))))))⟩
  have f1 : decide (b.Kind ≠ 1) = false := decide_eq_false (fun q => q hK)
  have cm := S_l02Meets ⟨w.Level,w.Tick,w.Seed,ss,bs⟩ b b.Owner (by simp only; omega) (by simp only; omega) (fun j p _ h => ((hSL.at_ j p h).1.placed hl).1) hpl
  simp only [hSs] at cm
  refine Qd (zy (Gg J J (z3 J (Gn J (zz (Ql J (Qh (Q0 (Qd ?_)))))))));refine Qc (z0 J (Gw J J (Gg J J (z3 J ?_))));refine Xz (lo := [_,_,_,_]) (gs := [(0,.c (.ptr 0 0)),(6,.c (.ref 3))]) (lo' := [_,_,_,_]) (new := []) [0,1,2,3] [(0,0,.ptr 0 0),(1,0,.ref 3)] (cm) J J J J J J J J J J J J J J J J J ?_;refine z1 J (zz (Qd (zy (z0 J (zx (Vi J) J (zz ?_))))))
  refine AWP.pre (st' := (⟨_,[(0,.o (.c (.ptr 0 0))),(2,I (els w.Scores).length),(3,.o (.c (.ref 5))),(4,.o (.c (.ref 6))),(5,I (((els w.Scores).length + k : Nat) : Int)),(6,.o (.c (.ptr 7 0))),(7,I (metI bs b b.Owner w.Scores.length)),(56,B (decide (metI bs b b.Owner w.Scores.length < 0)))],[.box [.ref 1,jn w.Tick,jn w.Seed,.ref 2,.ref 3],.row 1 (els w.Level.Rows),.row 1 (els ss),.row 9 (els bs),.gh 0 (.c (.ptr 0 0)),.row 9 (els (w.Bodies.take w.Scores.length)),.row 1 (els gl),.box ((Enc.e b).map (V1.rd []))]⟩ : St)) ?_ (Uf [0,1,2,3,4,5,6,7])
  cases hm : metF bs b b.Owner w.Scores.length with
  | none =>
   obtain ⟨mi,hmi⟩ : ∃ mi : Int,metI bs b b.Owner w.Scores.length = mi := ⟨_,rfl⟩
   rw [hmi]
   rw [met_no hm] at hmi
   have f2 : decide (mi < 0) = true := decide_eq_true (by omega)
   rw [f2]
   obtain ⟨n1,_,n3⟩ := sh_miss hb hm hs (lf := shL w.Scores.length (w.Bodies.drop w.Scores.length) (w.Bodies,w.Scores) k) rfl
   refine Qm J (Q9 (T_x (Xk (Q0 (Qc (z0 J (Uh J (z1 J (zz ?_)))))))))
   refine ⟨_,(by omega),(fun (k : Nat) (bs : List TBody) (ss : List Int) (gl : List Bool) => (⟨_,[(0,.o (.c (.ptr 0 0))),(2,I (els w.Scores).length),(3,.o (.c (.ref 5))),(4,.o (.c (.ref 6))),(5,I (((els w.Scores).length + k : Nat) : Int))],[.box [.ref 1,jn w.Tick,jn w.Seed,.ref 2,.ref 3],.row 1 (els w.Level.Rows),.row 1 (els ss),.row 9 (els bs),.gh 0 (.c (.ptr 0 0)),.row 9 (els (w.Bodies.take w.Scores.length)),.row 1 (els gl)]⟩ : St)) (k + 1) (bs) (ss) (gl),⟨k + 1,bs,ss,gl,J,⟨by omega,n1,gl_same hgl hg2 (f1_step n3)⟩,J⟩,V6 [0,1,2,3,4,5,6] J (.c J (.c J (.c J (.c J (.cons (Xv (by omega)) (.nil))))))⟩
  | some j =>
   rw [met_I hm]
   have f2 : decide ((j : Int) < 0) = false := decide_eq_false (by omega)
   obtain ⟨hj,hc⟩ := metF_lt hm
   obtain ⟨p,hp,hpl,_,_⟩ := metC_life hc
   have hpB := (hSL.at_ j p hp).1.f
   have hjl := Y7 hp
   obtain ⟨n1,_,n3⟩ := sh_hit hb hK hm hp hs (lf := shL w.Scores.length (w.Bodies.drop w.Scores.length) (w.Bodies,w.Scores) k) rfl
   have ng := gl_set (k := k) (g := fun i => decide (i < k + 1) && shF w.Scores.length (w.Bodies.drop w.Scores.length) (w.Bodies,w.Scores) i) hgl hg2 (by simp only [n3,Bool.and_true,decide_eq_true_eq]; exact Nat.lt_succ_self k) (fun i hi => f1_ne hi)
   have heg := at_gl hgk
   refine Ql J (Qh (Q0 (zy (z0 J (z0 J (zx (Q3 J J J J J (by omega) (by omega)) J ?_))))));refine Xg J J J J J J J J J (by assumption) J J (zz (zy (z0 J (zx (qi J) J (Gg J J (z3 J (z0 J (zx (Q3 J J J J J (by omega) (by omega)) J (zx (qj J J) J ?_)))))))));refine AL.weak (st' := (⟨_,[(0,.o (.c (.ptr 0 0))),(2,I (els w.Scores).length),(3,.o (.c (.ref 5))),(4,.o (.c (.ref 6))),(5,I (((els w.Scores).length + k : Nat) : Int)),(6,.o (.c (.ptr 7 0))),(7,I (j : Int)),(63,.o (.c (.ref 3))),(64,I (j : Int)),(66,.o (.c (.el 3 9 j 7)))],[.box [.ref 1,jn w.Tick,jn w.Seed,.ref 2,.ref 3],.row 1 (els w.Level.Rows),.row 1 (els ss),.row 9 (els bs),.gh 0 (.c (.ptr 0 0)),.row 9 (els (w.Bodies.take w.Scores.length)),.row 1 (els (gl.set (w.Scores.length + k) true)),.box ((Enc.e b).map (V1.rd []))]⟩ : St)) (Yb [0,1,2,3,4,5,6,7] (by decide) J ((by exact rw6g st_gl)) (.c J (.c J (.c J (.c J (.c J (.c J (.c J (.c J (.c J (.c J (.nil)))))))))))) ?_
   clear heg
   have he := Yz hp
   refine zx (qk J (by assumption) J) J (Ux J (zx (Q3 J J J J J (by omega) (by omega)) J (zx (qj J J) J ?_)));refine Xg J J J J J J J J J (by assumption) J J (zz (zy (z0 J (zx (qi J) J (Gg J J (z3 J (z0 J ?_)))))));refine AL.weak (st' := (⟨_,[(0,.o (.c (.ptr 0 0))),(2,I (els w.Scores).length),(3,.o (.c (.ref 5))),(4,.o (.c (.ref 6))),(5,I (((els w.Scores).length + k : Nat) : Int)),(6,.o (.c (.ptr 7 0))),(7,I (j : Int)),(74,.o (.c (.ref 3))),(75,I (j : Int))],[.box [.ref 1,jn w.Tick,jn w.Seed,.ref 2,.ref 3],.row 1 (els w.Level.Rows),.row 1 (els ss),.row 9 (els (bs.set j (lifeM p))),.gh 0 (.c (.ptr 0 0)),.row 9 (els (w.Bodies.take w.Scores.length)),.row 1 (els (gl.set (w.Scores.length + k) true)),.box ((Enc.e b).map (V1.rd []))]⟩ : St)) (Yb [0,1,2,3,4,5,6,7] (by decide) J ((by exact rwBo (st_el0 J))) (.c J (.c J (.c J (.c J (.c J (.c J (.c J (.c J (.c J (.nil))))))))))) ?_
   clear he
   have he : (els (bs.set j (lifeM p)))[(j : Int).toNat]? = some (Enc.e (lifeM p)) := Yz (by rw [List.getElem?_set_self hjl])
   have hls2 : (els (bs.set j (lifeM p))).length = bs.length := by rw [Yx,List.length_set]
   by_cases hz : p.Life - 1 = 0
   case neg =>
    have f3 : decide (p.Life - 1 = 0) = false := decide_eq_false hz
    rw [hit_alive hz,if_neg hz] at n1
    refine zx (Q3 J J J J J (by omega) (by omega)) J (zx (qj J J) J (zx (qk J (by assumption) J) J (Gr J (zz (Ql J (Qh (Q1 (Q0 (Qc (z0 J ?_))))))))));refine Uh J (z1 J (zz ?_))
    refine ⟨_,(by omega),(fun (k : Nat) (bs : List TBody) (ss : List Int) (gl : List Bool) => (⟨_,[(0,.o (.c (.ptr 0 0))),(2,I (els w.Scores).length),(3,.o (.c (.ref 5))),(4,.o (.c (.ref 6))),(5,I (((els w.Scores).length + k : Nat) : Int))],[.box [.ref 1,jn w.Tick,jn w.Seed,.ref 2,.ref 3],.row 1 (els w.Level.Rows),.row 1 (els ss),.row 9 (els bs),.gh 0 (.c (.ptr 0 0)),.row 9 (els (w.Bodies.take w.Scores.length)),.row 1 (els gl)]⟩ : St)) (k + 1) (bs.set j (lifeM p)) (ss) (gl.set (w.Scores.length + k) true),⟨k + 1,bs.set j (lifeM p),ss,gl.set (w.Scores.length + k) true,J,⟨by omega,n1,ng⟩,J⟩,V6 [0,1,2,3,4,5,6] J (.c J (.c J (.c J (.c J (.cons (Xv (by omega)) (.nil))))))⟩
   have f3 : decide (p.Life - 1 = 0) = true := decide_eq_true hz
   rw [hit_down hz,if_pos hz] at n1
   have ho := hB.o
   obtain ⟨q,hq⟩ : ∃ q : Nat,b.Owner = q := ⟨b.Owner.toNat,by omega⟩
   obtain ⟨s,hs1⟩ := K0 (xs := ss) (i := q) (by omega)
   have cp := S_l02Point ⟨w.Level,w.Tick,w.Seed,ss,bs.set j (lifeM p)⟩ q s hs1 (hSc s (List.mem_of_getElem? hs1))
   simp only [← hq] at cp
   rw [hq,Int.toNat_natCast] at n1
   refine zx (Q3 J J J J J (by omega) (by omega)) J (zx (qj J J) J (zx (qk J (by assumption) J) J (Gr J (zz (Qm J (zy (z0 J (Gg J J (z3 J ?_)))))))));refine Xz (lo := [_,_,_,_]) (gs := [(0,.c (.ptr 0 0)),(5,.c (.ref 3))]) (lo' := [_,_,_,_]) (new := []) [0,1,2,3] [(0,0,.ptr 0 0),(1,0,.ref 3)] (cp) J J J J J J J J J J J J J J J J J ?_;refine zz (zy (z0 J (zx (qi J) J (Gg J J (z3 J (z0 J (zx (Q3 J J J J J (by omega) (by omega)) J (zx (qj J J) J ?_))))))));refine Xg J J J J J J J J J (by assumption) J J (zz (zy (z0 J (zx (qi J) J (Gg J J (z3 J (z0 J ?_)))))));refine AL.weak (st' := (⟨_,[(0,.o (.c (.ptr 0 0))),(2,I (els w.Scores).length),(3,.o (.c (.ref 5))),(4,.o (.c (.ref 6))),(5,I (((els w.Scores).length + k : Nat) : Int)),(6,.o (.c (.ptr 7 0))),(7,I (j : Int)),(94,.o (.c (.ref 3))),(95,I (j : Int))],[.box [.ref 1,jn w.Tick,jn w.Seed,.ref 2,.ref 3],.row 1 (els w.Level.Rows),.row 1 (els (addM ss q)),.row 9 (els (bs.set j (stopX p))),.gh 0 (.c (.ptr 0 0)),.row 9 (els (w.Bodies.take w.Scores.length)),.row 1 (els (gl.set (w.Scores.length + k) true)),.box ((Enc.e b).map (V1.rd []))]⟩ : St)) (Yb [0,1,2,3,4,5,6,7] (by decide) J ((by exact rwBo (st_el J))) (.c J (.c J (.c J (.c J (.c J (.c J (.c J (.c J (.c J (.nil))))))))))) ?_
   clear he
   have he : (els (bs.set j (stopX p)))[(j : Int).toNat]? = some (Enc.e (stopX p)) := Yz (by rw [List.getElem?_set_self hjl])
   have hls3 : (els (bs.set j (stopX p))).length = bs.length := by rw [Yx,List.length_set]
   have hls4 : (els (bs.set j (stopY p))).length = bs.length := by rw [Yx,List.length_set]
   refine zx (Q3 J J J J J (by omega) (by omega)) J (zx (qj J J) J ?_);refine Xg J J J J J J J J J (by assumption) J J (zz (Qc (z0 J (zx (qi J) J (Gg J J (z3 J (z0 J ?_)))))));refine AL.weak (st' := (⟨_,[(0,.o (.c (.ptr 0 0))),(2,I (els w.Scores).length),(3,.o (.c (.ref 5))),(4,.o (.c (.ref 6))),(5,I (((els w.Scores).length + k : Nat) : Int)),(6,.o (.c (.ptr 7 0))),(7,I (j : Int)),(101,.o (.c (.ref 3))),(102,I (j : Int))],[.box [.ref 1,jn w.Tick,jn w.Seed,.ref 2,.ref 3],.row 1 (els w.Level.Rows),.row 1 (els (addM ss q)),.row 9 (els (bs.set j (stopY p))),.gh 0 (.c (.ptr 0 0)),.row 9 (els (w.Bodies.take w.Scores.length)),.row 1 (els (gl.set (w.Scores.length + k) true)),.box ((Enc.e b).map (V1.rd []))]⟩ : St)) (Yb [0,1,2,3,4,5,6,7] (by decide) J ((by exact rwBo (st_el J))) (.c J (.c J (.c J (.c J (.c J (.c J (.c J (.c J (.c J (.nil))))))))))) ?_
   clear he
   have he : (els (bs.set j (stopY p)))[(j : Int).toNat]? = some (Enc.e (stopY p)) := Yz (by rw [List.getElem?_set_self hjl])
   refine zx (Q3 J J J J J (by omega) (by omega)) J (zx (qj J J) J ?_);refine Xg J J J J J J J J J (by assumption) J J (Qe (Q1 (Q0 (Qc (z0 J (Uh J (z1 J (zz ?_))))))))
   refine ⟨_,(by omega),(fun (k : Nat) (bs : List TBody) (ss : List Int) (gl : List Bool) => (⟨_,[(0,.o (.c (.ptr 0 0))),(2,I (els w.Scores).length),(3,.o (.c (.ref 5))),(4,.o (.c (.ref 6))),(5,I (((els w.Scores).length + k : Nat) : Int))],[.box [.ref 1,jn w.Tick,jn w.Seed,.ref 2,.ref 3],.row 1 (els w.Level.Rows),.row 1 (els ss),.row 9 (els bs),.gh 0 (.c (.ptr 0 0)),.row 9 (els (w.Bodies.take w.Scores.length)),.row 1 (els gl)]⟩ : St)) (k + 1) (bs.set j (downM p)) (addM ss q) (gl.set (w.Scores.length + k) true),⟨k + 1,bs.set j (downM p),addM ss q,gl.set (w.Scores.length + k) true,J,⟨by omega,n1,ng⟩,J⟩,Yb [0,1,2,3,4,5,6] (by decide) J ((by exact rwBo (st_el J))) (.c J (.c J (.c J (.c J (.cons (Xv (by omega)) (.nil))))))⟩
 have hb0 : decide ((((els w.Scores).length + k : Nat) : Int) < (els bs).length) = false := decide_eq_false (by omega)
 have hk : k = (w.Bodies.drop w.Scores.length).length := by omega
 have hg3 : ∀ i,i < (w.Bodies.drop w.Scores.length).length → w.Scores.length + i < w.Bodies.length → gl[w.Scores.length + i]? = some (shF w.Scores.length (w.Bodies.drop w.Scores.length) (w.Bodies,w.Scores) i || (decide (i < 0) && itF w.Scores.length (w.Bodies.drop w.Scores.length) bs i)) := fun i h1 h2 => by
  rw [hg2 i h1 h2,decide_eq_true (by omega : i < k)]; simp
 rw [hk] at hs
 clear hg2
 refine Qd (zy (z0 J (z0 J (zx (qi J) J (Gg J J (z3 J (zx (Kc J J J J) J (U1 J (zz ?_)))))))));refine Ql J (Q9 (T_x (T_x (Xk (Q0 (Qd (zy (z0 J (z1 J (Qe ?_))))))))));refine Q0 (Qk ?_);refine Xi (fun m__ st => ∃ (i : Nat) (s2 : List Int) (g2 : List Bool),(w.Bodies.drop w.Scores.length).length - i = m__ ∧ (i ≤ (w.Bodies.drop w.Scores.length).length ∧ s2 = itS w.Scores.length bs (w.Bodies.drop w.Scores.length) ss i ∧ (g2.length = w.Bodies.length ∧ ∀ j,j < (w.Bodies.drop w.Scores.length).length → w.Scores.length + j < w.Bodies.length → g2[w.Scores.length + j]? = some (shF w.Scores.length (w.Bodies.drop w.Scores.length) (w.Bodies,w.Scores) j || (decide (j < i) && itF w.Scores.length (w.Bodies.drop w.Scores.length) bs j)))) ∧ st = (⟨_,[(0,.o (.c (.ptr 0 0))),(2,I (els w.Scores).length),(3,.o (.c (.ref 5))),(4,.o (.c (.ref 6))),(8,I (((els w.Scores).length + i : Nat) : Int))],[.box [.ref 1,jn w.Tick,jn w.Seed,.ref 2,.ref 3],.row 1 (els w.Level.Rows),.row 1 (els s2),.row 9 (els bs),.gh 0 (.c (.ptr 0 0)),.row 9 (els (w.Bodies.take w.Scores.length)),.row 1 (els g2)]⟩ : St)) _ ⟨(fun (i : Nat) (s2 : List Int) (g2 : List Bool) => (⟨_,[(0,.o (.c (.ptr 0 0))),(2,I (els w.Scores).length),(3,.o (.c (.ref 5))),(4,.o (.c (.ref 6))),(8,I (((els w.Scores).length + i : Nat) : Int))],[.box [.ref 1,jn w.Tick,jn w.Seed,.ref 2,.ref 3],.row 1 (els w.Level.Rows),.row 1 (els s2),.row 9 (els bs),.gh 0 (.c (.ptr 0 0)),.row 9 (els (w.Bodies.take w.Scores.length)),.row 1 (els g2)]⟩ : St)) (0) (ss) (gl),⟨0,ss,gl,J,⟨by omega,J,hgl,hg3⟩,J⟩,V6 [0,1,2,3,4,5,6] J (.c J (.c J (.c J (.c J (.cons (Xv (by omega)) (.nil))))))⟩ ?_
 rintro m_B _ ⟨i,s2,g2,hk_B,hp_B,rfl⟩
 obtain ⟨hi,hs2,hgl2,hgi⟩ := hp_B
 have hSs2 : s2.length = w.Scores.length := by rw [hs2]; exact (itS_ok hSs hSc).1
 have hSc2 : ∀ x ∈ s2,0 ≤ x ∧ x ≤ 1000000 := by rw [hs2]; exact (itS_ok hSs hSc).2
 have hlgl2 := Yx g2
 clear hb0 hgl hg3
 by_cases hlt : i < (w.Bodies.drop w.Scores.length).length
 ·have hb0 : decide ((((els w.Scores).length + i : Nat) : Int) < (els bs).length) = true := decide_eq_true (by omega)
  obtain ⟨b,hb⟩ := K0 hlt
  have hbb : bs[w.Scores.length + i]? = some b := by rw [hSt _ (by omega),← List.getElem?_drop]; exact hb
  have hB := (hSL.at_ _ b hbb).1
  have hpl := (hB.placed hl).1
  obtain ⟨g0,hgk⟩ := K0 (xs := g2) (i := w.Scores.length + i) (by omega)
  have heg := at_gl hgk
  have he := at_el hbb
  by_cases hK : b.Kind = 2
  case neg =>
   have f1 : decide (b.Kind ≠ 2) = true := decide_eq_true hK
   obtain ⟨n1,_,n3⟩ := it_skip hb hK hs2 (lf := itL w.Scores.length bs (w.Bodies.drop w.Scores.length) i) rfl
   refine Qd (zy (z0 J (z0 J (zx (qi J) J (Gg J J (z3 J (zx (Kc J J J J) J (U1 J (zz ?_)))))))));refine Qm J (Qh (Q0 (Qd (Qk (Qd (zy (z0 J (zx (qi J) J (Gg J J (z3 J ?_))))))))));refine z0 J (zx (Q3 J J J J J (by omega) (by omega)) J (zx (qj J J) J (zx (qk J (by assumption) J) J (Gn J (zz (Qm J (Q9 (T_x (Xk (Q0 ?_))))))))));refine Qc (z0 J (Uh J (z1 J (zz ?_))))
   refine ⟨_,(by omega),(fun (i : Nat) (s2 : List Int) (g2 : List Bool) => (⟨_,[(0,.o (.c (.ptr 0 0))),(2,I (els w.Scores).length),(3,.o (.c (.ref 5))),(4,.o (.c (.ref 6))),(8,I (((els w.Scores).length + i : Nat) : Int))],[.box [.ref 1,jn w.Tick,jn w.Seed,.ref 2,.ref 3],.row 1 (els w.Level.Rows),.row 1 (els s2),.row 9 (els bs),.gh 0 (.c (.ptr 0 0)),.row 9 (els (w.Bodies.take w.Scores.length)),.row 1 (els g2)]⟩ : St)) (i + 1) (s2) (g2),⟨i + 1,s2,g2,J,⟨by omega,n1,gl_same hgl2 hgi (f2_step (by rw [itF_at hb]; exact n3))⟩,J⟩,V6 [0,1,2,3,4,5,6] J (.c J (.c J (.c J (.c J (.cons (Xv (by omega)) (.nil))))))⟩
  have f1 : decide (b.Kind ≠ 2) = false := decide_eq_false (fun q => q hK)
  have cm := S_l02Meets ⟨w.Level,w.Tick,w.Seed,s2,bs⟩ b (-1) (by simp only; omega) (by simp only; omega) (fun j p _ h => ((hSL.at_ j p h).1.placed hl).1) hpl
  simp only [hSs2] at cm
  refine Qd (zy (z0 J (z0 J (zx (qi J) J (Gg J J (z3 J (zx (Kc J J J J) J (U1 J (zz ?_)))))))));refine Qm J (Qh (Q0 (Qd (Qk (Qd (zy (z0 J (zx (qi J) J (Gg J J (z3 J ?_))))))))));refine z0 J (zx (Q3 J J J J J (by omega) (by omega)) J (zx (qj J J) J (zx (qk J (by assumption) J) J (Gn J (zz (Ql J (Qh (Q0 (zy ?_)))))))));refine z0 J (z0 J (zx (qi J) J (Gg J J (z3 J (z0 J (zx (Q3 J J J J J (by omega) (by omega)) J (zx (Q6 J J J J (by assumption) J J) J ?_)))))));refine Xz (lo := [_,_,_,_]) (gs := [(0,.c (.ptr 0 0)),(6,.c (.ref 3))]) (lo' := [_,_,_,_]) (new := []) [0,1,2,3] [(0,0,.ptr 0 0),(1,0,.ref 3)] (cm) J J J J J J J J J J J J J J J J J ?_;refine z1 J (zz (zy (z0 J (zx (q_geq J J J J) J (zz ?_)))))
  refine AWP.pre (st' := (⟨_,[(0,.o (.c (.ptr 0 0))),(2,I (els w.Scores).length),(3,.o (.c (.ref 5))),(4,.o (.c (.ref 6))),(8,I (((els w.Scores).length + i : Nat) : Int)),(9,I (metI bs b (-1) w.Scores.length)),(134,B (decide (metI bs b (-1) w.Scores.length ≥ 0)))],[.box [.ref 1,jn w.Tick,jn w.Seed,.ref 2,.ref 3],.row 1 (els w.Level.Rows),.row 1 (els s2),.row 9 (els bs),.gh 0 (.c (.ptr 0 0)),.row 9 (els (w.Bodies.take w.Scores.length)),.row 1 (els g2)]⟩ : St)) ?_ (Uf [0,1,2,3,4,5,6])
  cases hm : metF bs b (-1) w.Scores.length with
  | none =>
   obtain ⟨mi,hmi⟩ : ∃ mi : Int,metI bs b (-1) w.Scores.length = mi := ⟨_,rfl⟩
   rw [hmi]
   rw [met_no hm] at hmi
   have f2 : decide (mi ≥ 0) = false := decide_eq_false (by omega)
   rw [f2]
   obtain ⟨n1,_,n3⟩ := it_miss hb hm hs2 (lf := itL w.Scores.length bs (w.Bodies.drop w.Scores.length) i) rfl
   refine Ql J (Qh (Q1 (Q0 (Qc (z0 J (Uh J (z1 J (zz ?_))))))))
   refine ⟨_,(by omega),(fun (i : Nat) (s2 : List Int) (g2 : List Bool) => (⟨_,[(0,.o (.c (.ptr 0 0))),(2,I (els w.Scores).length),(3,.o (.c (.ref 5))),(4,.o (.c (.ref 6))),(8,I (((els w.Scores).length + i : Nat) : Int))],[.box [.ref 1,jn w.Tick,jn w.Seed,.ref 2,.ref 3],.row 1 (els w.Level.Rows),.row 1 (els s2),.row 9 (els bs),.gh 0 (.c (.ptr 0 0)),.row 9 (els (w.Bodies.take w.Scores.length)),.row 1 (els g2)]⟩ : St)) (i + 1) (s2) (g2),⟨i + 1,s2,g2,J,⟨by omega,n1,gl_same hgl2 hgi (f2_step (by rw [itF_at hb]; exact n3))⟩,J⟩,V6 [0,1,2,3,4,5,6] J (.c J (.c J (.c J (.c J (.cons (Xv (by omega)) (.nil))))))⟩
  | some j =>
   rw [met_I hm]
   have f2 : decide ((j : Int) ≥ 0) = true := decide_eq_true (by omega)
   obtain ⟨hj,hc⟩ := metF_lt hm
   obtain ⟨s,hs1⟩ := K0 (xs := s2) (i := j) (by omega)
   have cp := S_l02Point ⟨w.Level,w.Tick,w.Seed,s2,bs⟩ j s hs1 (hSc2 s (List.mem_of_getElem? hs1))
   simp only at cp
   obtain ⟨n1,_,n3⟩ := it_hit hb hK hm hs2 (lf := itL w.Scores.length bs (w.Bodies.drop w.Scores.length) i) rfl
   have ng := gl_set (k := i) (g := fun j => shF w.Scores.length (w.Bodies.drop w.Scores.length) (w.Bodies,w.Scores) j || (decide (j < i + 1) && itF w.Scores.length (w.Bodies.drop w.Scores.length) bs j)) hgl2 hgi (by simp only [itF_at hb,n3,Bool.and_true]; rw [decide_eq_true (Nat.lt_succ_self i),Bool.or_true]) (fun j hj => f2_ne hj)
   refine Qm J (zy (z0 J (z0 J (zx (Q3 J J J J J (by omega) (by omega)) J ?_))));refine Xg J J J J J J J J J (by assumption) J J (zz (Qc (z0 J (z0 J ?_))));refine Xz (lo := [_,_,_,_]) (gs := [(0,.c (.ptr 0 0)),(5,.c (.ref 3))]) (lo' := [_,_,_,_]) (new := []) [0,1,2,3] [(0,0,.ptr 0 0),(1,0,.ref 3)] (cp) J J J J J J J J J J J J J J J J J ?_;refine Qe (Q1 (Q0 (Qc (z0 J (Uh J (z1 J (zz ?_)))))))
   refine ⟨_,(by omega),(fun (i : Nat) (s2 : List Int) (g2 : List Bool) => (⟨_,[(0,.o (.c (.ptr 0 0))),(2,I (els w.Scores).length),(3,.o (.c (.ref 5))),(4,.o (.c (.ref 6))),(8,I (((els w.Scores).length + i : Nat) : Int))],[.box [.ref 1,jn w.Tick,jn w.Seed,.ref 2,.ref 3],.row 1 (els w.Level.Rows),.row 1 (els s2),.row 9 (els bs),.gh 0 (.c (.ptr 0 0)),.row 9 (els (w.Bodies.take w.Scores.length)),.row 1 (els g2)]⟩ : St)) (i + 1) (addM s2 j) (g2.set (w.Scores.length + i) true),⟨i + 1,addM s2 j,g2.set (w.Scores.length + i) true,J,⟨by omega,n1,ng⟩,J⟩,Yb [0,1,2,3,4,5,6] (by decide) J ((by exact rw6g st_gl)) (.c J (.c J (.c J (.c J (.cons (Xv (by omega)) (.nil))))))⟩
 have hb0 : decide ((((els w.Scores).length + i : Nat) : Int) < (els bs).length) = false := decide_eq_false (by omega)
 have hi2 : i = (w.Bodies.drop w.Scores.length).length := by omega
 rw [hi2] at hs2
 have hg4 : ∀ j,j < (w.Bodies.drop w.Scores.length).length → g2[w.Scores.length + j]? = some (shF w.Scores.length (w.Bodies.drop w.Scores.length) (w.Bodies,w.Scores) j || itF w.Scores.length (w.Bodies.drop w.Scores.length) bs j) := fun j h1 => by
  rw [hgi j h1 (by omega),decide_eq_true (by omega : j < i)]; simp
 have hlk : (els (w.Bodies.take w.Scores.length)).length = w.Scores.length := by rw [Yx,List.length_take]; omega
 have hcl : ((els bs).take ((els w.Scores).length : Int).toNat).length = (els (w.Bodies.take w.Scores.length)).length := by rw [hlk,List.length_take,Int.toNat_natCast]; omega
 refine Qd (zy (z0 J (z0 J (zx (qi J) J (Gg J J (z3 J (zx (Kc J J J J) J (U1 J (zz ?_)))))))));refine Ql J (Q9 (T_x (T_x (Xk (Q0 (zy (z0 J (z0 J (zx (qi J) J (Gg J J ?_))))))))));refine z3 J (z0 J (zx (q_partr0 J J J J J J (by omega)) J ?_));refine M_copy J J J J J J J J J J (fun e he => els_pl9 _ e (List.mem_of_mem_take he)) (fun e he => els_k9 _ e (List.mem_of_mem_take he)) hcl (by omega) ?_;refine zz (Qd (zy (z0 J (z1 J (zz (Qk ?_))))));refine Xi (fun m__ st => ∃ (j : Nat) (kr : List TBody),(w.Bodies.drop w.Scores.length).length - j = m__ ∧ (j ≤ (w.Bodies.drop w.Scores.length).length ∧ kr = keepR w.Scores.length (w.Bodies.drop w.Scores.length) (w.Bodies,w.Scores) bs j) ∧ st = (⟨_,[(0,.o (.c (.ptr 0 0))),(2,I (els w.Scores).length),(3,.o (.c (.ref 5))),(4,.o (.c (.ref 6))),(10,I (((els w.Scores).length + j : Nat) : Int))],[.box [.ref 1,jn w.Tick,jn w.Seed,.ref 2,.ref 3],.row 1 (els w.Level.Rows),.row 1 (els s2),.row 9 (els bs),.gh 0 (.c (.ptr 0 0)),.row 9 (els (bs.take w.Scores.length ++ kr)),.row 1 (els g2)]⟩ : St)) _ ⟨(fun (j : Nat) (kr : List TBody) => (⟨_,[(0,.o (.c (.ptr 0 0))),(2,I (els w.Scores).length),(3,.o (.c (.ref 5))),(4,.o (.c (.ref 6))),(10,I (((els w.Scores).length + j : Nat) : Int))],[.box [.ref 1,jn w.Tick,jn w.Seed,.ref 2,.ref 3],.row 1 (els w.Level.Rows),.row 1 (els s2),.row 9 (els bs),.gh 0 (.c (.ptr 0 0)),.row 9 (els (bs.take w.Scores.length ++ kr)),.row 1 (els g2)]⟩ : St)) (0) ([]),⟨0,[],J,⟨by omega,J⟩,J⟩,Yb [0,1,2,3,4,5,6] (by decide) J ((by exact rw6 (by rw [List.append_nil,Y0,hls,Int.toNat_natCast]))) (.c J (.c J (.c J (.c J (.cons (Xv (by omega)) (.nil))))))⟩ ?_
 rintro m_C _ ⟨j,kr,hk_C,hp_C,rfl⟩
 obtain ⟨hj,hkr⟩ := hp_C
 have hlkr : (els (bs.take w.Scores.length ++ kr)).length = w.Scores.length + kr.length := by rw [Yx,List.length_append,List.length_take]; omega
 have hkl : kr.length ≤ j := by rw [hkr]; exact keepR_le j
 clear hb0
 by_cases hlt : j < (w.Bodies.drop w.Scores.length).length
 ·have hb0 : decide ((((els w.Scores).length + j : Nat) : Int) < (els bs).length) = true := decide_eq_true (by omega)
  obtain ⟨b,hb⟩ := K0 hlt
  have hbb : bs[w.Scores.length + j]? = some b := by rw [hSt _ (by omega),← List.getElem?_drop]; exact hb
  have hgj := hg4 j hlt
  have hnx : keepR w.Scores.length (w.Bodies.drop w.Scores.length) (w.Bodies,w.Scores) bs (j + 1) = if (shF w.Scores.length (w.Bodies.drop w.Scores.length) (w.Bodies,w.Scores) j || itF w.Scores.length (w.Bodies.drop w.Scores.length) bs j) = true then kr else kr ++ [b] := by
   rw [keepR,hb,hkr,itF,hb]
  have he := at_el hbb
  cases hf : (shF w.Scores.length (w.Bodies.drop w.Scores.length) (w.Bodies,w.Scores) j || itF w.Scores.length (w.Bodies.drop w.Scores.length) bs j) with
  | true =>
   rw [hf] at hgj hnx
   have heg := at_gl hgj
   refine Qd (zy (z0 J (z0 J (zx (qi J) J (Gg J J (z3 J (zx (Kc J J J J) J (U1 J (zz ?_)))))))));refine Qm J (Qh (Q0 (Qd (Qk (zy (z0 J (z0 J (zx (Q3 J J J J J (by omega) (by omega)) J (zx (qk J (by assumption) J) J (zn J ?_))))))))));refine zz (Ql J (Qh (Q1 (Q0 (Qc (z0 J (Uh J (z1 J (zz ?_)))))))))
   refine ⟨_,(by omega),(fun (j : Nat) (kr : List TBody) => (⟨_,[(0,.o (.c (.ptr 0 0))),(2,I (els w.Scores).length),(3,.o (.c (.ref 5))),(4,.o (.c (.ref 6))),(10,I (((els w.Scores).length + j : Nat) : Int))],[.box [.ref 1,jn w.Tick,jn w.Seed,.ref 2,.ref 3],.row 1 (els w.Level.Rows),.row 1 (els s2),.row 9 (els bs),.gh 0 (.c (.ptr 0 0)),.row 9 (els (bs.take w.Scores.length ++ kr)),.row 1 (els g2)]⟩ : St)) (j + 1) (kr),⟨j + 1,kr,J,⟨by omega,hnx.symm⟩,J⟩,V6 [0,1,2,3,4,5,6] J (.c J (.c J (.c J (.c J (.cons (Xv (by omega)) (.nil))))))⟩
  | false =>
   rw [hf] at hgj hnx
   have heg := at_gl hgj
   refine Qd (zy (z0 J (z0 J (zx (qi J) J (Gg J J (z3 J (zx (Kc J J J J) J (U1 J (zz ?_)))))))));refine Qm J (Qh (Q0 (Qd (Qk (zy (z0 J (z0 J (zx (Q3 J J J J J (by omega) (by omega)) J (zx (qk J (by assumption) J) J (zn J ?_))))))))));refine zz (Qm J (Qc (z0 J (z0 J (zx (qi J) J (Gg J J (z3 J (z0 J (zx (Q3 J J J J J (by omega) (by omega)) J (zx (Q6 J J J J (by assumption) J J) J ?_))))))))));refine Un (Uo J J) J ?_;refine Xw J J J J J J J J J J J J J J (by omega) (by omega) ?_;refine z1 J (Qe (Q1 (Q0 (Qc (z0 J (Uh J (z1 J (zz ?_))))))))
   refine ⟨_,(by omega),(fun (j : Nat) (kr : List TBody) => (⟨_,[(0,.o (.c (.ptr 0 0))),(2,I (els w.Scores).length),(3,.o (.c (.ref 5))),(4,.o (.c (.ref 6))),(10,I (((els w.Scores).length + j : Nat) : Int))],[.box [.ref 1,jn w.Tick,jn w.Seed,.ref 2,.ref 3],.row 1 (els w.Level.Rows),.row 1 (els s2),.row 9 (els bs),.gh 0 (.c (.ptr 0 0)),.row 9 (els (bs.take w.Scores.length ++ kr)),.row 1 (els g2)]⟩ : St)) (j + 1) (kr ++ [b]),⟨j + 1,kr ++ [b],J,⟨by omega,hnx.symm⟩,J⟩,Yb [0,1,2,3,4,5,6] (by decide) J ((by exact rw6 (by rw [← List.append_assoc,Yu]; rfl))) (.c J (.c J (.c J (.c J (.cons (Xv (by omega)) (.nil))))))⟩
 have hb0 : decide ((((els w.Scores).length + j : Nat) : Int) < (els bs).length) = false := decide_eq_false (by omega)
 have hj2 : j = (w.Bodies.drop w.Scores.length).length := by omega
 rw [hj2] at hkr
 have hres : hitsR w.Scores.length w.Bodies w.Scores = (bs.take w.Scores.length ++ kr,s2) := by
  simp only [hitsR,← hs]
  rw [← hkr,← hs2]
 rw [hres]
 refine Qd (zy (z0 J (z0 J (zx (qi J) J (Gg J J (z3 J (zx (Kc J J J J) J (U1 J (zz ?_)))))))));refine Ql J (Q9 (T_x (T_x (Xk (Q0 (Qc (z0 J (z0 J (zx (qi J) J (Gg J J ?_))))))))));refine Gl J (Qe (F_n ?_))
 exact Xn J (Ue [0,1,2,5,4] J J J)
end
section
open Go.RowKit

instance : PlainE TBody := ⟨fun x t h => els_pl9 [x] (Enc.e x) (by simp [els]) t h⟩
theorem I_copyWorld (w : TWorld) (hg : Enc.gd w) (h1 : w.Level.Rows.length ≤ 1048576) (h2 : w.Scores.length ≤ 1048576) (h3 : w.Bodies.length ≤ 1048576) : Con Tryz.prog 59 [] [ag w] [.row 1 (els w.Level.Rows),.row 1 (els w.Scores),.row 9 (els w.Bodies)] (.o (.ag [.ref 0,jn w.Tick,jn w.Seed,.ref 1,.ref 2])) := by
 have hls := Yx w.Scores
 have hlb := Yx w.Bodies
 refine Con.of Tryz.func59 J Tryz.ntmps59 J (fun E => ?_)
 refine zy (Un (Gf J) J (Un (Gh J J) J (zz (zy (Gg J J (Gw J J ?_))))));refine Un (Z3 J J (I_copyLevel w.Level hg.1 h1) J J J) J ?_;refine Gg J J ?_;refine G1 J J (zz (zy (Gg J J (z3 J ?_))));refine M_appnil J J J J J J J J (Yy _) (els_k _) (by omega) (by omega) ?_;refine Gg J J ?_;refine Gl J (zz (zy (Gg J J (z3 J ?_))));refine M_appnil J J J J J J J J (Yy _) (els_k _) (by omega) (by omega) ?_;refine Gg J J ?_;refine Gl J (zz (zy (Gw J J ?_)));refine G1 J J (zz (Xa (F_r ?_)))
 exact Xl J J J J (Ue [2,3,4] J J J)
theorem S_copyWorld (w : TWorld) (hg : Enc.gd w) (h1 : w.Level.Rows.length ≤ 1048576) (h2 : w.Scores.length ≤ 1048576) (h3 : w.Bodies.length ≤ 1048576) : Con Tryz.prog 93 [] [ag w] [.row 1 (els w.Level.Rows),.row 1 (els w.Scores),.row 9 (els w.Bodies)] (.o (.ag [.ref 0,jn w.Tick,jn w.Seed,.ref 1,.ref 2])) := by
 have hls := Yx w.Scores
 have hlb := Yx w.Bodies
 have h00 : ([] : List (List T)).length = 0 := rfl
 refine Con.of Tryz.func93 J Tryz.ntmps93 J (fun E => ?_)
 refine zy (Un (Gf J) J (Un (Gh J J) J (zz (zy (Gg J J (Gw J J ?_))))));refine Un (Z3 J J (X6 w.Level hg.1 h1) J J J) J ?_;refine Gg J J ?_;refine G1 J J (zz (zy (Un (Zx J J J) J (Gg J J (z3 J ?_)))));refine M_app J J J J J J J J J J (Yy _) (els_k _) (by omega) (by omega) ?_;refine Gg J J ?_;refine Gl J (zz (zy (Un (Zx J J J) J (Gg J J (z3 J ?_)))));refine M_app J J J J J J J J J J (Yy _) (els_k _) (by omega) (by omega) ?_;refine Gg J J ?_;refine Gl J (zz (zy (Gw J J ?_)));refine G1 J J (zz (Xa (F_r ?_)))
 exact Xl J J J J (Ue [2,3,4] J J J)
end
section
open Go.RowKit

theorem step_T {w : TWorld} {row : List Int} (h : worldOk w = true ∧ w.Tick ≠ 100000 ∧ rowOk row w.Scores.length = true) : stepW w row = tickM w row := by rw [stepW,if_pos h]
theorem step_F {w : TWorld} {row : List Int} (h : ¬ (worldOk w = true ∧ w.Tick ≠ 100000 ∧ rowOk row w.Scores.length = true)) : stepW w row = w := by rw [stepW,if_neg h]
theorem last_1 {l : TLevel} {tick seed : Int} {ss : List Int} {bs : List TBody} (h : tick % 16 ≠ 0 ∨ (spotsM l).length = 0 ∨ 24 ≤ bs.length) : lastM l tick seed ss bs = ⟨l,tick,seed,ss,bs⟩ := by rw [lastM,if_pos h]
theorem last_2 {l : TLevel} {tick seed : Int} {ss : List Int} {bs : List TBody} {x y : Int} (h : ¬ (tick % 16 ≠ 0 ∨ (spotsM l).length = 0 ∨ 24 ≤ bs.length)) (hs : spotOf l seed = [x,y]) (hi : itemAt bs x y = true) : lastM l tick seed ss bs = ⟨l,tick,nextR seed,ss,bs⟩ := by
 rw [lastM,if_neg h,hs]
 exact if_pos hi
theorem last_3 {l : TLevel} {tick seed : Int} {ss : List Int} {bs : List TBody} {x y : Int} (h : ¬ (tick % 16 ≠ 0 ∨ (spotsM l).length = 0 ∨ 24 ≤ bs.length)) (hs : spotOf l seed = [x,y]) (hi : itemAt bs x y = false) : lastM l tick seed ss bs = ⟨l,tick,nextR seed,ss,bs ++ [itemB x y]⟩ := by
 rw [lastM,if_neg h,hs]
 exact if_neg (by show ¬ itemAt bs x y = true; rw [hi]; simp)
theorem at_hit {bs : List TBody} {x y : Int} {k : Nat} {b : TBody} (hb : bs[k]? = some b) (h : b.Kind = 2 ∧ b.X = x ∧ b.Y = y) : itemAt bs x y = true := by
 rw [itemAt,List.any_eq_true]
 exact ⟨b,List.mem_of_getElem? hb,decide_eq_true h⟩
theorem at_go {bs : List TBody} {x y : Int} {k : Nat} {b : TBody} (hb : bs[k]? = some b) (h : ¬ (b.Kind = 2 ∧ b.X = x ∧ b.Y = y)) (hi : itemAt (bs.take k) x y = false) : itemAt (bs.take (k + 1)) x y = false := by
 obtain ⟨hk,rfl⟩ := List.getElem?_eq_some_iff.1 hb
 rw [List.take_succ_eq_append_getElem hk,itemAt,List.any_append,← itemAt,hi]
 simp only [List.any_cons,List.any_nil,Bool.or_false,Bool.false_or]
 exact decide_eq_false h
theorem rwS2 {a b : Ob} {t : List Ob} {k : Nat} {x y : List (List T)} (h : x = y) : a :: b :: Ob.row k x :: t = a :: b :: Ob.row k y :: t := by rw [h]
theorem I_StepWorld (w : TWorld) (row : List Int) (hg : Enc.gd w) (gr : Enc.gd row) (h1 : w.Level.Rows.length ≤ 1048576) (h2 : w.Scores.length ≤ 1048576) (h3 : w.Bodies.length ≤ 1048576) : Con Tryz.prog 60 [] [ag w,al row] [.row 1 (els w.Level.Rows),.row 1 (els (stepW w row).Scores),.row 9 (els (stepW w row).Bodies)] (.o (.ag [.ref 0,jn (stepW w row).Tick,jn (stepW w row).Seed,.ref 1,.ref 2])) := by
 have hls := Yx w.Scores
 have hlb := Yx w.Bodies
 have c1 := I_copyWorld w hg h1 h2 h3
 have c2 := I_WorldOk w hg
 have c3 := I_rowOk row ((els w.Scores).length : Int) gr
 rw [show rowOk row ((els w.Scores).length : Int) = rowOk row (w.Scores.length : Int) by rw [hls]] at c3
 cases ho : worldOk w with
 | false =>
  rw [step_F (fun q => by rw [ho] at q; cases q.1)]
  rw [ho] at c2
  refine Con.of Tryz.func60 J Tryz.ntmps60 J (fun E => ?_)
  refine zy (Un (Gf J) J (Un (Gh J J) J (zz (zy (Gw J J ?_)))));refine Un (Z3 J J (c1) J J J) J ?_;refine Un (Gh J J) J ?_;refine G1 J J (zz (Qd (zy (Gw J J ?_))));refine zx (Qj J J (c2) J) J ?_;refine zn J (z0 J (z6 J (z6 J (z6 J (zpT J (z0 J (z6 J (z6 J (z6 J (z6 J (z6 J ?_)))))))))));refine z6 J (zpT J (zz (Qm J (zy (Gw J J ?_)))));refine G1 J J (zz (Xa (T_r (F_r ?_))))
  exact Xl J J J J (Ue [2,3,4] J J J)
 | true =>
 rw [ho] at c2
 by_cases ht : w.Tick = 100000
 ·have f1 : decide (w.Tick = 100000) = true := decide_eq_true ht
  rw [step_F (fun q => q.2.1 ht)]
  refine Con.of Tryz.func60 J Tryz.ntmps60 J (fun E => ?_)
  refine zy (Un (Gf J) J (Un (Gh J J) J (zz (zy (Gw J J ?_)))));refine Un (Z3 J J (c1) J J J) J ?_;refine Un (Gh J J) J ?_;refine G1 J J (zz (Qd (zy (Gw J J ?_))));refine zx (Qj J J (c2) J) J ?_;refine zn J (z0 J (z5 J (Gg J J (z5 J (z3 J (z5 J (Gr J (zpF J (z0 J (z6 J (z6 J ?_)))))))))));refine z6 J (z6 J (z6 J (z6 J (zpT J (zz (Qm J (zy (Gw J J ?_))))))));refine G1 J J (zz (Xa (T_r (F_r ?_))))
  exact Xl J J J J (Ue [2,3,4] J J J)
 have f1 : decide (w.Tick = 100000) = false := decide_eq_false ht
 cases hr : rowOk row (w.Scores.length : Int) with
 | false =>
  rw [step_F (fun q => by rw [hr] at q; cases q.2.2)]
  rw [hr] at c3
  refine Con.of Tryz.func60 J Tryz.ntmps60 J (fun E => ?_)
  refine zy (Un (Gf J) J (Un (Gh J J) J (zz (zy (Gw J J ?_)))));refine Un (Z3 J J (c1) J J J) J ?_;refine Un (Gh J J) J ?_;refine G1 J J (zz (Qd (zy (Gw J J ?_))));refine zx (Qj J J (c2) J) J ?_;refine zn J (z0 J (z5 J (Gg J J (z5 J (z3 J (z5 J (Gr J (zpF J (z0 J (z5 J (z0 J ?_)))))))))));refine z5 J (Gg J J (z5 J (z3 J (z5 J (zx (Kb J J J) J (z5 J ?_))))));refine zx (Qj J J (c3) J) J ?_;refine z5 J (zn J (zpF J (zz (Qm J (zy (Gw J J ?_))))));refine G1 J J (zz (Xa (T_r (F_r ?_))))
  exact Xl J J J J (Ue [2,3,4] J J J)
 | true =>
 rw [hr] at c3
 rw [step_T ⟨ho,ht,hr⟩]
 have hP := PH.of hg ho hr
 have hsr := Kw ho
 have hM := hits_lm hP.mv rfl hsr
 have hSh := SI.shots hP.mv rfl hsr
 have hSI := (SI.start hP.mv rfl hsr).all ((movedM w row).drop w.Scores.length) ((movedM w row).drop w.Scores.length).length
 have hEq := hits_eq hP.mv rfl hsr
 obtain ⟨hl,htk,hsd,hn,_,hlen,hbo⟩ := K8 ho
 have htk := Za.1 htk
 have hsd := Za.1 hsd
 have d1 := I_stepPlayers w row hP
 have d2 := I_stepMoves ⟨w.Level,w.Tick,w.Seed,w.Scores,plM w.Level row w.Bodies w.Scores.length⟩ hg.1 hl hP.pl.lm hP.pl.tm
 have d3 := I_stepShots ⟨w.Level,w.Tick,w.Seed,w.Scores,movedM w row⟩ hg.1 hl hn hP.mv hsr
 have hsl := hSI.sl
 have hsc := hSI.sc
 simp only at d2 d3
 obtain ⟨s3,hs3⟩ : ∃ s3,s3 = (shS w.Scores.length ((movedM w row).drop w.Scores.length) (movedM w row,w.Scores) ((movedM w row).drop w.Scores.length).length).2 := ⟨_,rfl⟩
 obtain ⟨b3,hb3⟩ : ∃ b3,b3 = (shS w.Scores.length ((movedM w row).drop w.Scores.length) (movedM w row,w.Scores) ((movedM w row).drop w.Scores.length).length).1.take w.Scores.length ++ shL w.Scores.length ((movedM w row).drop w.Scores.length) (movedM w row,w.Scores) ((movedM w row).drop w.Scores.length).length := ⟨_,rfl⟩
 have hP2 : hitsP w.Scores.length (movedM w row) w.Scores = (b3.take w.Scores.length ++ itL w.Scores.length b3 (b3.drop w.Scores.length) (b3.drop w.Scores.length).length,itS w.Scores.length b3 (b3.drop w.Scores.length) s3 (b3.drop w.Scores.length).length) := by rw [hitsP,hs3,hb3]
 rw [← hs3] at d3 hsl hsc
 rw [← hb3] at d3 hSh
 have d4 := I_stepItems ⟨w.Level,w.Tick,w.Seed,s3,b3⟩ hg.1 hl (by simp only; omega) (by simp only; rw [hsl]; exact hSh) hsc
 simp only at d4
 rw [hsl] at d4
 obtain ⟨s4,hs4⟩ : ∃ s4,s4 = itS w.Scores.length b3 (b3.drop w.Scores.length) s3 (b3.drop w.Scores.length).length := ⟨_,rfl⟩
 obtain ⟨b4,hb4⟩ : ∃ b4,b4 = b3.take w.Scores.length ++ itL w.Scores.length b3 (b3.drop w.Scores.length) (b3.drop w.Scores.length).length := ⟨_,rfl⟩
 rw [← hs4,← hb4] at d4
 rw [← hs4,← hb4,hEq] at hP2
 rw [tickM,hP2]
 rw [hP2] at hM
 obtain ⟨hM1,hM2,hM3⟩ := hM
 simp only at hM1 hM2 hM3
 have e1 := I_NextRandom w.Seed ⟨by omega,by omega⟩
 have e2 := I_SpotsOf w.Level hg.1 hl
 have hlb4 := Yx b4
 have hbl := hM1.len
 have hlsp := Yx (spotsM w.Level)
 have hsl2 := spots_len hl
 have hnr := Zm w.Seed
 clear hEq hP2 hSI hSh hb4 hs4 hb3 hs3 hbo hsl hsc
 refine Con.of Tryz.func60 J Tryz.ntmps60 J (fun E => ?_)
 refine zy (Un (Gf J) J (Un (Gh J J) J (zz (zy (Gw J J ?_)))));refine Un (Z3 J J (c1) J J J) J ?_;refine Un (Gh J J) J ?_;refine G1 J J (zz (Qd (zy (Gw J J ?_))));refine zx (Qj J J (c2) J) J ?_;refine zn J (z0 J (z5 J (Gg J J (z5 J (z3 J (z5 J (Gr J (zpF J (z0 J (z5 J (z0 J ?_)))))))))));refine z5 J (Gg J J (z5 J (z3 J (z5 J (zx (Kb J J J) J (z5 J ?_))))));refine zx (Qj J J (c3) J) J ?_;refine z5 J (zn J (zpF J (zz (Ql J (Qh (Q0 (zy (z0 J ?_))))))));refine AL.weak (st' := (⟨_,[(1,L row),(4,.o (.c (.ptr 4 0))),(5,.o (.c (.ptr 0 0))),(32,L row)],[.box [.ref 1,jn w.Tick,jn w.Seed,.ref 2,.ref 3],.row 1 (els w.Level.Rows),.row 1 (els w.Scores),.row 9 (els w.Bodies),.box [nilV,jn 0,jn 0,nilV,nilV]]⟩ : St)) (Uf [5,2,3,4,1]) ?_
 clear c1 c2 c3 f1
 refine Xz (lo := [_,_,_,_]) (gs := [(0,.c (.ptr 0 0))]) (lo' := [_,_,_,_]) (new := []) [0,1,2,3] [(0,0,.ptr 0 0)] (d1) J J J J J J J J J J J J J J J J J ?_;refine zz (zy ?_);refine AL.weak (st' := (⟨_,[(1,L row),(4,.o (.c (.ptr 4 0))),(5,.o (.c (.ptr 0 0)))],[.box [.ref 1,jn w.Tick,jn w.Seed,.ref 2,.ref 3],.row 1 (els w.Level.Rows),.row 1 (els w.Scores),.row 9 (els (plM w.Level row w.Bodies w.Scores.length)),.box [nilV,jn 0,jn 0,nilV,nilV]]⟩ : St)) (Uf [0,1,2,3,4]) ?_
 clear d1
 refine Xz (lo := [_,_,_,_]) (gs := [(0,.c (.ptr 0 0))]) (lo' := [_,_,_,_]) (new := []) [0,1,2,3] [(0,0,.ptr 0 0)] (d2) J J J J J J J J J J J J J J J J J ?_;refine zz (zy ?_);refine AL.weak (st' := (⟨_,[(1,L row),(4,.o (.c (.ptr 4 0))),(5,.o (.c (.ptr 0 0)))],[.box [.ref 1,jn w.Tick,jn w.Seed,.ref 2,.ref 3],.row 1 (els w.Level.Rows),.row 1 (els w.Scores),.row 9 (els (movedM w row)),.box [nilV,jn 0,jn 0,nilV,nilV]]⟩ : St)) (Uf [0,1,2,3,4]) ?_
 clear d2
 refine Xz (lo := [_,_,_,_]) (gs := [(0,.c (.ptr 0 0))]) (lo' := [_,_,_,_]) (new := []) [0,1,2,3] [(0,0,.ptr 0 0)] (d3) J J J J J J J J J J J J J J J J J ?_;refine zz (zy ?_);refine AL.weak (st' := (⟨_,[(1,L row),(4,.o (.c (.ptr 4 0))),(5,.o (.c (.ptr 0 0)))],[.box [.ref 1,jn w.Tick,jn w.Seed,.ref 2,.ref 3],.row 1 (els w.Level.Rows),.row 1 (els s3),.row 9 (els b3),.box [nilV,jn 0,jn 0,nilV,nilV]]⟩ : St)) (Uf [0,1,2,3,4]) ?_
 clear d3
 refine Xz (lo := [_,_,_,_]) (gs := [(0,.c (.ptr 0 0))]) (lo' := [_,_,_,_]) (new := []) [0,1,2,3] [(0,0,.ptr 0 0)] (d4) J J J J J J J J J J J J J J J J J ?_;refine zz (zy (Gg J J (z3 J (Uh J (Gg J J ?_)))));refine Gl J (zz (zy (Gg J J (z3 J ?_))));refine AL.weak (st' := (⟨_,[(1,L row),(4,.o (.c (.ptr 4 0))),(5,.o (.c (.ptr 0 0))),(42,I w.Seed)],[.box [.ref 1,jn (w.Tick + 1),jn w.Seed,.ref 2,.ref 3],.row 1 (els w.Level.Rows),.row 1 (els s4),.row 9 (els b4),.box [nilV,jn 0,jn 0,nilV,nilV]]⟩ : St)) (Uf [0,1,2,3,4]) ?_
 clear d4
 refine zx (Qj J J (e1) J) J ?_;refine Gg J J ?_;refine Gl J (zz (zy (Gg J J (Gw J J ?_))));refine AL.weak (st' := (⟨_,[(1,L row),(4,.o (.c (.ptr 4 0))),(5,.o (.c (.ptr 0 0))),(46,.o (.ag [.ref 1]))],[.box [.ref 1,jn (w.Tick + 1),jn (nextR w.Seed),.ref 2,.ref 3],.row 1 (els w.Level.Rows),.row 1 (els s4),.row 9 (els b4),.box [nilV,jn 0,jn 0,nilV,nilV]]⟩ : St)) (Uf [0,1,2,3,4]) ?_
 clear e1
 obtain ⟨sd,hsd2⟩ : ∃ sd,sd = nextR w.Seed := ⟨_,rfl⟩
 rw [← hsd2] at hnr
 rw [← hsd2]
 by_cases q1 : (w.Tick + 1) % 16 ≠ 0
 ·have g1 : decide ((w.Tick + 1) % 16 ≠ 0) = true := decide_eq_true q1
  rw [last_1 (.inl q1)]
  refine Un (Z3 J J (e2) J J J) J ?_;refine z1 J (zz (Qd (zy (Gg J J (z3 J (zx (Ul J) J (Gn J (z0 J (z6 J ?_)))))))));refine z6 J (z6 J (zpT J (z0 J (z6 J (z6 J (z6 J (z6 J (zpT J (zz (Qm J ?_))))))))));refine zy (Gw J J ?_);refine G1 J J (zz (Xa (T_r (F_r ?_))))
  exact Xl J J J J (Ue [1,2,3] J J J)
 have g1 : decide ((w.Tick + 1) % 16 ≠ 0) = false := decide_eq_false q1
 by_cases q2 : (spotsM w.Level).length = 0
 ·have g2 : decide (((els (spotsM w.Level)).length : Int) = 0) = true := decide_eq_true (by omega)
  rw [last_1 (.inr (.inl q2))]
  refine Un (Z3 J J (e2) J J J) J ?_;refine z1 J (zz (Qd (zy (Gg J J (z3 J (zx (Ul J) J (Gn J (z0 J (z5 J ?_)))))))));refine z0 J (z5 J (zx (Kc J J J J) J (z5 J (Gr J (zpF J (z0 J (z6 J (z6 J (z6 J (z6 J (zpT J ?_)))))))))));refine zz (Qm J (zy (Gw J J ?_)));refine G1 J J (zz (Xa (T_r (F_r ?_))))
  exact Xl J J J J (Ue [1,2,3] J J J)
 have g2 : decide (((els (spotsM w.Level)).length : Int) = 0) = false := decide_eq_false (by omega)
 by_cases q3 : 24 ≤ b4.length
 ·have g3 : decide (((els b4).length : Int) ≥ 24) = true := decide_eq_true (by omega)
  rw [last_1 (.inr (.inr q3))]
  refine Un (Z3 J J (e2) J J J) J ?_;refine z1 J (zz (Qd (zy (Gg J J (z3 J (zx (Ul J) J (Gn J (z0 J (z5 J ?_)))))))));refine z0 J (z5 J (zx (Kc J J J J) J (z5 J (Gr J (zpF J (z0 J (z5 J (Gg J J (z5 J (z3 J (z5 J ?_)))))))))));refine zx (Kc J J J J) J (z5 J (z9d J (by assumption) (zpF J (zz (Qm J (zy (Gw J J ?_)))))));refine G1 J J (zz (Xa (T_r (F_r ?_))))
  exact Xl J J J J (Ue [1,2,3] J J J)
 have g3 : decide (((els b4).length : Int) ≥ 24) = false := decide_eq_false (by omega)
 have q : ¬ ((w.Tick + 1) % 16 ≠ 0 ∨ (spotsM w.Level).length = 0 ∨ 24 ≤ b4.length) := fun h => h.elim q1 fun h => h.elim q2 q3
 obtain ⟨i,hi1,hi2,hi3⟩ := spotOf_mem (seed := sd) q2
 obtain ⟨x,y,hxy,hx,hy⟩ := spot_rng hl (List.mem_of_getElem? hi3)
 have e3 := I_RandomBelow sd ((els (spotsM w.Level)).length : Int) hnr ⟨by omega,by omega⟩
 rw [show belowR sd ((els (spotsM w.Level)).length : Int) = i by rw [hlsp]; exact hi1] at e3
 have hsp : (els (spotsM w.Level))[(i : Int).toNat]? = some (Enc.e [x,y]) := Yz (by rw [hi3,hxy])
 refine Un (Z3 J J (e2) J J J) J ?_;refine z1 J (zz (Qd (zy (Gg J J (z3 J (zx (Ul J) J (Gn J (z0 J (z5 J ?_)))))))));refine z0 J (z5 J (zx (Kc J J J J) J (z5 J (Gr J (zpF J (z0 J (z5 J (Gg J J (z5 J (z3 J (z5 J ?_)))))))))));refine zx (Kc J J J J) J (z5 J (z9d J (by assumption) (zpF J (zz (Ql J (Qh (Q0 (zy (Gg J J ?_)))))))));refine z3 J (z0 J (zx (Kc J J J J) J ?_));refine Un (Z3 J J (e3) J J J) J ?_;refine zx (Ga J) J (ze J (ze J (z1 J (z1 J (zz (zy (z0 J (Gg J J ?_))))))));refine Gl J (zz (zy (z0 J (z0 J (zx (Q3 J J J J J (by omega) (by omega)) J (zx (qk J (by assumption) J) J ?_))))));refine AL.weak (st' := (⟨_,[(4,.o (.c (.ptr 4 0))),(5,.o (.c (.ptr 0 0))),(6,.o (.c (.ref 5))),(8,I (i : Int)),(77,.o (.c (.rd [5] (.sl 1 (els [x,y])))))],[.box [.ref 1,jn (w.Tick + 1),jn (nextR sd),.ref 2,.ref 3],.row 1 (els w.Level.Rows),.row 1 (els s4),.row 9 (els b4),.box [nilV,jn 0,jn 0,nilV,nilV],.row 1 (els (spotsM w.Level))]⟩ : St)) (Uf [0,1,2,3,4,5]) ?_
 clear e2 e3 g1 g2 g3
 have hx0 : (els [x,y])[(0 : Int).toNat]? = some (Enc.e x) := rfl
 have hy0 : (els [x,y])[(1 : Int).toNat]? = some (Enc.e y) := rfl
 refine zx (Q2 J J J J (by omega) (by assumption) J) J (zx (Ug J) J (z1 J (zz (zy (z0 J (z0 J (zx (Q3 J J J J J (by omega) (by omega)) J (zx (qk J (by assumption) J) J (zx (Q2 J J J J (by omega) (by assumption) J) J ?_)))))))));refine zx (Ug J) J (z1 J (zz (Qd (zy (Gg J J (z3 J (zx (Kc J J J J) J (z0 J (Qe ?_)))))))));refine Q0 (Qk ?_);refine Xi (fun m st => ∃ k : Nat,k + m = b4.length ∧ (itemAt (b4.take k) x y = false) ∧ st = (⟨_,[(4,.o (.c (.ptr 4 0))),(5,.o (.c (.ptr 0 0))),(9,I x),(10,I y),(87,.o (.c (.ref 3))),(88,I (els b4).length),(89,I k)],[.box [.ref 1,jn (w.Tick + 1),jn (nextR sd),.ref 2,.ref 3],.row 1 (els w.Level.Rows),.row 1 (els s4),.row 9 (els b4),.box [nilV,jn 0,jn 0,nilV,nilV]]⟩ : St)) (b4.length) ⟨_,⟨0,by omega,J,J⟩,Uf [0,1,2,3,4]⟩ ?_
 rintro m_A _ ⟨k,hk_A,hp_A,rfl⟩
 by_cases hlt : k < b4.length
 ·have hb0 : decide ((k : Int) < (els b4).length) = true := decide_eq_true (by omega)
  obtain ⟨b,hb⟩ := K0 hlt
  refine zy (U1 J (zz (Qd (Qm J (Qh (Q0 (Qd (Qk (Qd ?_)))))))));refine Qc (zx (Q3 J J J J J (by omega) (by omega)) J ?_)
  have he := Yz hb
  with_reducible refine Xe ?_
  refine zx (Q6 J J J J (by assumption) J J) J ?_
  with_reducible refine K_alloc ?_
  refine Un (Gh J J) J ?_
  with_reducible refine Xd ?_
  refine G1 J J (zz ?_)
  refine AWP.pre (st' := (⟨_,[(4,.o (.c (.ptr 4 0))),(5,.o (.c (.ptr 0 0))),(9,I x),(10,I y),(87,.o (.c (.ref 3))),(88,I (els b4).length),(89,I k),(12,.o (.c (.ptr 5 0)))],[.box [.ref 1,jn (w.Tick + 1),jn (nextR sd),.ref 2,.ref 3],.row 1 (els w.Level.Rows),.row 1 (els s4),.row 9 (els b4),.box [nilV,jn 0,jn 0,nilV,nilV],.box ((Enc.e b).map (V1.rd []))]⟩ : St)) ?_ (Uf [0,1,2,3,4,5])
  clear he
  by_cases k1 : b.Kind = 2
  case neg =>
   have p1 : decide (b.Kind = 2) = false := decide_eq_false k1
   refine zy (Gg J J (z3 J (Gr J (z0 J (z6 J (z6 J (z6 J (z6 J (zpF J (z0 J ?_))))))))));refine z6 J (z6 J (z6 J (z6 J (zpF J (zz (Ql J (Qh (Q1 (Q0 (Qc ?_))))))))));refine Uh J (z0 J (zz ?_))
   exact ⟨b4.length - (k + 1),by omega,_,⟨k + 1,by omega,at_go hb (fun h => k1 h.1) hp_A,J⟩,Uf [0,1,2,3,4]⟩
  have p1 : decide (b.Kind = 2) = true := decide_eq_true k1
  by_cases k2 : b.X = x
  case neg =>
   have p2 : decide (b.X = x) = false := decide_eq_false k2
   refine zy (Gg J J (z3 J (Gr J (z0 J (z5 J (Gg J J (z5 J (z3 J (z5 J (z0 J ?_))))))))));refine z5 J (Gr J (zpT J (z0 J (z6 J (z6 J (z6 J (z6 J (zpF J (zz (Ql J ?_))))))))));refine Qh (Q1 (Q0 (Qc (Uh J (z0 J (zz ?_))))))
   exact ⟨b4.length - (k + 1),by omega,_,⟨k + 1,by omega,at_go hb (fun h => k2 h.2.1) hp_A,J⟩,Uf [0,1,2,3,4]⟩
  have p2 : decide (b.X = x) = true := decide_eq_true k2
  by_cases k3 : b.Y = y
  case neg =>
   have p3 : decide (b.Y = y) = false := decide_eq_false k3
   refine zy (Gg J J (z3 J (Gr J (z0 J (z5 J (Gg J J (z5 J (z3 J (z5 J (z0 J ?_))))))))));refine z5 J (Gr J (zpT J (z0 J (z5 J (Gg J J (z5 J (z3 J (z5 J (z0 J (z5 J (Gr J ?_)))))))))));refine zpT J (zz (Ql J (Qh (Q1 (Q0 (Qc (Uh J (z0 J (zz ?_)))))))))
   exact ⟨b4.length - (k + 1),by omega,_,⟨k + 1,by omega,at_go hb (fun h => k3 h.2.2) hp_A,J⟩,Uf [0,1,2,3,4]⟩
  have p3 : decide (b.Y = y) = true := decide_eq_true k3
  rw [last_2 q hxy (at_hit hb ⟨k1,k2,k3⟩)]
  refine zy (Gg J J (z3 J (Gr J (z0 J (z5 J (Gg J J (z5 J (z3 J (z5 J (z0 J ?_))))))))));refine z5 J (Gr J (zpT J (z0 J (z5 J (Gg J J (z5 J (z3 J (z5 J (z0 J (z5 J (Gr J ?_)))))))))));refine zpT J (zz (Qm J (zy (Gw J J ?_))));refine G1 J J (zz (Xa (B_r (T_r (T_r (B_r (T_r (F_r ?_))))))))
  exact Xl J J J J (Ue [1,2,3] J J J)
 ·have hb0 : decide ((k : Int) < (els b4).length) = false := decide_eq_false (by omega)
  have hk : k = b4.length := by omega
  rw [hk,List.take_length] at hp_A
  rw [last_3 q hxy hp_A]
  refine zy (U1 J (zz (Qd (Ql J (Q9 (T_x (T_x (Xk (Q0 ?_)))))))));refine zy (Gg J J (z3 J (z0 J (z0 J (zx (Zz J J J J J) J (Un (Uo J J) J ?_))))));refine Xw J J J J J J J J J J J J J J (by omega) (by omega) ?_;refine Gg J J ?_;refine Gl J (zz (zy (Gw J J ?_)));refine G1 J J (zz (Xa (F_r ?_)))
  exact Xl J J J J (Ue [1,2,3] J (by exact rwS2 (by rw [Yu]; rfl)) J)
end
end Go.Proofs.YtcjclaoogdblbaaGreat
