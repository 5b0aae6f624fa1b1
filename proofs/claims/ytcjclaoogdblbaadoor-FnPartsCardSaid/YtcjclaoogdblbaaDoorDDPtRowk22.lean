/-
  Parts of the proof (rules, data, and what functions of the program and of the reference return), among them: Copies of worlds, in the program and in the reference; StepWorld of the program.
  Conditions: those that each theorem names.
-/
import Derived.Test.YtcjclaoogdblbaaDoorDDPtRowk14
import Derived.Test.YtcjclaoogdblbaaDoorDDPtRowk21
set_option linter.unusedSimpArgs false
set_option linter.unusedVariables false
set_option maxRecDepth 8000
set_option maxHeartbeats 8000000
namespace Go.Proofs.YtcjclaoogdblbaaDoor
section
open Go.RowKit

theorem rw6g {a b c d e f : Ob} {t : List Ob} {m : Nat} {u v : List (List T)} (h2 : u = v) : a :: b :: c :: d :: e :: f :: Ob.row m u :: t = a :: b :: c :: d :: e :: f :: Ob.row m v :: t := by rw [h2]
theorem rw2k {a b c d e : Ob} {k m : Nat} {x y u v : List (List T)} (h : x = y) (h2 : u = v) : [a,b,c,d,e,Ob.row k x,Ob.row m u] = [a,b,c,d,e,Ob.row k y,Ob.row m v] := by rw [h,h2]
theorem mk_gone {N : Nat} {i : Int} {kk : Nat} (h : i.toNat = N) : els (List.replicate N false) = List.replicate i.toNat ([Value.bool false].map (zT kk)) := by
 rw [h,els,List.map_replicate]; rfl
theorem at_el {bs : List TBody} {ss : List Int} {k : Nat} {b : TBody} (h : bs[ss.length + k]? = some b) : (els bs)[(((els ss).length + k : Nat) : Int).toNat]? = some (Enc.e b) := by
 rw [X7,Int.toNat_natCast,els,List.getElem?_map,h]; rfl
theorem at_gl {gl : List Bool} {ss : List Int} {k : Nat} {b : Bool} (h : gl[ss.length + k]? = some b) : (els gl)[(((els ss).length + k : Nat) : Int).toNat]? = some (Enc.e b) := by
 rw [X7,Int.toNat_natCast,els,List.getElem?_map,h]; rfl
theorem st_gl {gl : List Bool} {ss : List Int} {k : Nat} {b : Bool} : els (gl.set (ss.length + k) true) = (els gl).set (((els ss).length + k : Nat) : Int).toNat (splice (Enc.e b) 0 [.v (.bool true)]) := by
 rw [X7,Int.toNat_natCast,els,List.map_set]; rfl
theorem gl_set {gl : List Bool} {n m k N : Nat} {f g : Nat → Bool} (hl : gl.length = N) (h : ∀ i,i < m → n + i < N → gl[n + i]? = some (f i)) (hk : g k = true) (hf : ∀ i,i ≠ k → g i = f i) : (gl.set (n + k) true).length = N ∧ ∀ i,i < m → n + i < N → (gl.set (n + k) true)[n + i]? = some (g i) := by
 refine ⟨by rw [List.length_set]; exact hl,fun i hi hN => ?_⟩
 by_cases e : i = k
 ·subst e
  rw [List.getElem?_set_self (by omega),hk]
 ·rw [List.getElem?_set_ne (by omega),h i hi hN,hf i e]
theorem gl_same {gl : List Bool} {n m N : Nat} {f g : Nat → Bool} (hl : gl.length = N) (h : ∀ i,i < m → n + i < N → gl[n + i]? = some (f i)) (hf : ∀ i,g i = f i) : gl.length = N ∧ ∀ i,i < m → n + i < N → gl[n + i]? = some (g i) :=
 ⟨hl,fun i hi hN => by rw [h i hi hN,hf]⟩
def itF (n : Nat) (t bs : List TBody) (i : Nat) : Bool := match t[i]? with
 | none => false
 | some b => itHit n bs b
theorem itF_at {n i : Nat} {t bs : List TBody} {b : TBody} (h : t[i]? = some b) : itF n t bs i = itHit n bs b := by rw [itF,h]
theorem f1_ne {i k : Nat} {c : Bool} (h : i ≠ k) : (decide (i < k + 1) && c) = (decide (i < k) && c) := by
 rw [show decide (i < k + 1) = decide (i < k) from decide_eq_decide.2 (by omega)]
theorem f1_step {k : Nat} {c : Nat → Bool} (h : c k = false) (i : Nat) : (decide (i < k + 1) && c i) = (decide (i < k) && c i) := by
 by_cases e : i = k
 ·subst e; rw [h,Bool.and_false,Bool.and_false]
 ·exact f1_ne e
theorem f2_ne {i k : Nat} {c d : Bool} (h : i ≠ k) : (d || (decide (i < k + 1) && c)) = (d || (decide (i < k) && c)) := by rw [f1_ne h]
theorem f2_step {k : Nat} {c d : Nat → Bool} (h : c k = false) (i : Nat) : (d i || (decide (i < k + 1) && c i)) = (d i || (decide (i < k) && c i)) := by rw [f1_step h]
theorem S_l02Hits (w : TWorld) (hg : Enc.gd w.Level) (hl : levelOk w.Level = true) (hn4 : 1 ≤ w.Scores.length ∧ w.Scores.length ≤ 4) (hL : LM w.Level w.Scores.length w.Bodies) (hsc : ∀ x ∈ w.Scores,0 ≤ x ∧ x ≤ 1000000) : Con Tryd.prog 131 [.box [.ref 1,jn w.Tick,jn w.Seed,.ref 2,.ref 3],.row 1 (els w.Level.Rows),.row 1 (els w.Scores),.row 9 (els w.Bodies),.gh 0 (.c (.ptr 0 0))] [.c (.ptr 0 0)] [.box [.ref 1,jn w.Tick,jn w.Seed,.ref 2,.ref 3],.row 1 (els w.Level.Rows),.row 1 (els (hitsR w.Scores.length w.Bodies w.Scores).2),.row 9 (els (hitsR w.Scores.length w.Bodies w.Scores).1),.gh 0 (.c (.ptr 0 0))] (.tu []) := by
 have hlb := X7 w.Bodies
 have hls := X7 w.Scores
 have hln := hL.len
 have hT : (w.Bodies.drop w.Scores.length).length = w.Bodies.length - w.Scores.length := List.length_drop
 have htk : ((els w.Bodies).take ((els w.Scores).length : Int).toNat).length = w.Scores.length := by rw [List.length_take,Int.toNat_natCast]; omega
 refine Con.of Tryd.func131 J Tryd.ntmps131 J (fun E => ?_)
 refine zy (z0 J (zx (Qz J J J) J (z2 J J J (z3 J (zx (Y3 J J J J) J (z1 J (zz (zy ?_))))))));refine M1 (q_bslicez J J J) J J (z0 J (zx (Qz J J J) J (z2 J J J (z3 J (z0 J (zx (q_partr0 J J J J J J (by omega)) J ?_))))));refine M1 (q_appz J J J J J J (fun e he => els_pl9 _ e (List.mem_of_mem_take he)) (fun e he => els_k9 _ e (List.mem_of_mem_take he)) (by omega) (by omega) (by omega)) J J ?_;refine z1 J (zz (zy (z0 J (zx (Qz J J J) J (z2 J J J (z3 J (zx (Y3 J J J J) J ?_)))))));refine M1 (q_make 1 J J J J (by omega) (by omega) (by omega) J (by decide)) J J ?_;refine z1 J (zz (Qd (zy (z0 J (z1 J (zz (Qk ?_)))))))
 refine AWP.pre (st' := (⟨_,[(0,.o (.c (.ptr 0 0))),(2,I (els w.Scores).length),(3,.o (.c (.ref 5))),(4,.o (.c (.ref 6))),(5,I (els w.Scores).length)],[.box [.ref 1,jn w.Tick,jn w.Seed,.ref 2,.ref 3],.row 1 (els w.Level.Rows),.row 1 (els w.Scores),.row 9 (els w.Bodies),.gh 0 (.c (.ptr 0 0)),.row 9 (els (w.Bodies.take w.Scores.length)),.row 1 (els (List.replicate w.Bodies.length false))]⟩ : St)) ?_ (Xu [0,1,2,3,4,6,7] (by decide) J ((by exact rw2k (by rw [els_takeE2,hls,Int.toNat_natCast]) (mk_gone (by rw [Int.toNat_natCast,hlb])))) (.c J (.c J (.c J (.c J (.c J (.nil)))))))
 refine Xi (fun m__ st => ∃ (k : Nat) (bs : List TBody) (ss : List Int) (gl : List Bool),(w.Bodies.drop w.Scores.length).length - k = m__ ∧ (k ≤ (w.Bodies.drop w.Scores.length).length ∧ (bs,ss) = shS w.Scores.length (w.Bodies.drop w.Scores.length) (w.Bodies,w.Scores) k ∧ (gl.length = w.Bodies.length ∧ ∀ i,i < (w.Bodies.drop w.Scores.length).length → w.Scores.length + i < w.Bodies.length → gl[w.Scores.length + i]? = some (decide (i < k) && shF w.Scores.length (w.Bodies.drop w.Scores.length) (w.Bodies,w.Scores) i))) ∧ st = (⟨_,[(0,.o (.c (.ptr 0 0))),(2,I (els w.Scores).length),(3,.o (.c (.ref 5))),(4,.o (.c (.ref 6))),(5,I (((els w.Scores).length + k : Nat) : Int))],[.box [.ref 1,jn w.Tick,jn w.Seed,.ref 2,.ref 3],.row 1 (els w.Level.Rows),.row 1 (els ss),.row 9 (els bs),.gh 0 (.c (.ptr 0 0)),.row 9 (els (w.Bodies.take w.Scores.length)),.row 1 (els gl)]⟩ : St)) _ ⟨(fun (k : Nat) (bs : List TBody) (ss : List Int) (gl : List Bool) => (⟨_,[(0,.o (.c (.ptr 0 0))),(2,I (els w.Scores).length),(3,.o (.c (.ref 5))),(4,.o (.c (.ref 6))),(5,I (((els w.Scores).length + k : Nat) : Int))],[.box [.ref 1,jn w.Tick,jn w.Seed,.ref 2,.ref 3],.row 1 (els w.Level.Rows),.row 1 (els ss),.row 9 (els bs),.gh 0 (.c (.ptr 0 0)),.row 9 (els (w.Bodies.take w.Scores.length)),.row 1 (els gl)]⟩ : St)) (0) (w.Bodies) (w.Scores) (List.replicate w.Bodies.length false),⟨0,w.Bodies,w.Scores,List.replicate w.Bodies.length false,J,⟨by omega,J,by simp,fun i _ hi => by rw [List.getElem?_replicate,if_pos hi]; simp⟩,J⟩,Xu [0,1,2,3,4,5,6] (by decide) J (by kernel_rfl) (.c J (.c J (.c J (.c J (.cons (Xo (by omega)) (.nil))))))⟩ ?_
 rintro m_A _ ⟨k,bs,ss,gl,hk_A,hp_A,rfl⟩
 obtain ⟨hk,hs,hgl,hg2⟩ := hp_A
 have hS := (SI.start hL rfl hsc).all (w.Bodies.drop w.Scores.length) k
 rw [← hs] at hS
 obtain ⟨hSL,hSn,hSt,hSs,hSc⟩ := hS
 simp only at hSL hSn hSt hSs hSc
 have hlbs := X7 bs
 have hlss := X7 ss
 have hlgl := X7 gl
 by_cases hlt : k < (w.Bodies.drop w.Scores.length).length
 ·have hb0 : decide ((((els w.Scores).length + k : Nat) : Int) < (els bs).length) = true := decide_eq_true (by omega)
  obtain ⟨b,hb⟩ := Zi hlt
  have hbb : bs[w.Scores.length + k]? = some b := by rw [hSt _ (by omega),← List.getElem?_drop]; exact hb
  have hB := (hSL.at_ _ b hbb).1
  have hpl := (hB.placed hl).1
  have hgk := hg2 k hlt (by omega)
  rw [decide_eq_false (Nat.lt_irrefl k),Bool.false_and] at hgk
  refine Qd (zy (z0 J (z0 J (zx (Qz J J J) J (z2 J J J (z3 J (zx (Y3 J J J J) J (z9a J (by assumption) (zz ?_)))))))));refine Qm J (Qh (Q0 (Qd (Qk (zy (z0 J (zx (Qz J J J) J (z2 J J J (z3 J (z0 J ?_))))))))));refine zx (Q3 J J J J J (by omega) (by omega)) J ?_
  have he := at_el hbb
  with_reducible refine Xe ?_
  refine zx (Q6 J J J J (by assumption) J J) J ?_
  with_reducible refine K_alloc ?_
  refine M1 (Qx J J J) J J ?_
  with_reducible refine Xd ?_
  refine Qy J J J J J J J J J (zz ?_)
  refine AWP.pre (st' := (⟨_,[(0,.o (.c (.ptr 0 0))),(2,I (els w.Scores).length),(3,.o (.c (.ref 5))),(4,.o (.c (.ref 6))),(5,I (((els w.Scores).length + k : Nat) : Int)),(6,.o (.c (.ptr 7 0)))],[.box [.ref 1,jn w.Tick,jn w.Seed,.ref 2,.ref 3],.row 1 (els w.Level.Rows),.row 1 (els ss),.row 9 (els bs),.gh 0 (.c (.ptr 0 0)),.row 9 (els (w.Bodies.take w.Scores.length)),.row 1 (els gl),.box ((Enc.e b).map (V1.rd []))]⟩ : St)) ?_ (Xt [0,1,2,3,4,5,6,7] (by kernel_rfl))
  clear he
  by_cases hK : b.Kind = 1
  case neg =>
   have f1 : decide (b.Kind ≠ 1) = true := decide_eq_true hK
   obtain ⟨n1,_,n3⟩ := sh_skip hb hK hs (lf := shL w.Scores.length (w.Bodies.drop w.Scores.length) (w.Bodies,w.Scores) k) rfl
   refine Qd (zy (z2 J J J (z3 J (z9f J (by assumption) (zz (Qm J (Q9 (T_x (Xj ?_)))))))));refine Q0 (Qc (z0 J (z7 J (by omega) (z1 J (zz ?_)))))
   refine ⟨_,(by omega),(fun (k : Nat) (bs : List TBody) (ss : List Int) (gl : List Bool) => (⟨_,[(0,.o (.c (.ptr 0 0))),(2,I (els w.Scores).length),(3,.o (.c (.ref 5))),(4,.o (.c (.ref 6))),(5,I (((els w.Scores).length + k : Nat) : Int))],[.box [.ref 1,jn w.Tick,jn w.Seed,.ref 2,.ref 3],.row 1 (els w.Level.Rows),.row 1 (els ss),.row 9 (els bs),.gh 0 (.c (.ptr 0 0)),.row 9 (els (w.Bodies.take w.Scores.length)),.row 1 (els gl)]⟩ : St)) (k + 1) (bs) (ss) (gl),⟨k + 1,bs,ss,gl,J,⟨by omega,n1,gl_same hgl hg2 (f1_step n3)⟩,J⟩,Xu [0,1,2,3,4,5,6] (by decide) J (by kernel_rfl) (.c J (.c J (.c J (.c J (.cons (Xo (by omega)) (.nil))))))⟩
  have f1 : decide (b.Kind ≠ 1) = false := decide_eq_false (fun q => q hK)
  have cm := S_l02Meets ⟨w.Level,w.Tick,w.Seed,ss,bs⟩ b b.Owner (by simp only; omega) (by simp only; omega) (fun j p _ h => ((hSL.at_ j p h).1.placed hl).1) hpl
  simp only [hSs] at cm
  refine Qd (zy (z2 J J J (z3 J (z9f J (by assumption) (zz (Ql J (Qh (Q0 (Qd ?_)))))))));refine Qc (z0 J (z4 J J J (z2 J J J (z3 J ?_))));refine Xq (lo := [_,_,_,_]) (gs := [(0,.c (.ptr 0 0)),(6,.c (.ref 3))]) (lo' := [_,_,_,_]) (new := []) [0,1,2,3] [(0,0,.ptr 0 0),(1,0,.ref 3)] (cm) J J J J J J J J J J J J J J J J J ?_;refine z1 J (zz (Qd (zy (z0 J (zx (Y7 J J J J) J (zz ?_))))))
  refine AWP.pre (st' := (⟨_,[(0,.o (.c (.ptr 0 0))),(2,I (els w.Scores).length),(3,.o (.c (.ref 5))),(4,.o (.c (.ref 6))),(5,I (((els w.Scores).length + k : Nat) : Int)),(6,.o (.c (.ptr 7 0))),(7,I (metI bs b b.Owner w.Scores.length)),(56,B (decide (metI bs b b.Owner w.Scores.length < 0)))],[.box [.ref 1,jn w.Tick,jn w.Seed,.ref 2,.ref 3],.row 1 (els w.Level.Rows),.row 1 (els ss),.row 9 (els bs),.gh 0 (.c (.ptr 0 0)),.row 9 (els (w.Bodies.take w.Scores.length)),.row 1 (els gl),.box ((Enc.e b).map (V1.rd []))]⟩ : St)) ?_ (Xt [0,1,2,3,4,5,6,7] (by kernel_rfl))
  cases hm : metF bs b b.Owner w.Scores.length with
  | none =>
   obtain ⟨mi,hmi⟩ : ∃ mi : Int,metI bs b b.Owner w.Scores.length = mi := ⟨_,rfl⟩
   rw [hmi]
   rw [met_no hm] at hmi
   have f2 : decide (mi < 0) = true := decide_eq_true (by omega)
   rw [f2]
   obtain ⟨n1,_,n3⟩ := sh_miss hb hm hs (lf := shL w.Scores.length (w.Bodies.drop w.Scores.length) (w.Bodies,w.Scores) k) rfl
   refine Qm J (Q9 (T_x (Xj (Q0 (Qc (z0 J (z7 J (by omega) (z1 J (zz ?_)))))))))
   refine ⟨_,(by omega),(fun (k : Nat) (bs : List TBody) (ss : List Int) (gl : List Bool) => (⟨_,[(0,.o (.c (.ptr 0 0))),(2,I (els w.Scores).length),(3,.o (.c (.ref 5))),(4,.o (.c (.ref 6))),(5,I (((els w.Scores).length + k : Nat) : Int))],[.box [.ref 1,jn w.Tick,jn w.Seed,.ref 2,.ref 3],.row 1 (els w.Level.Rows),.row 1 (els ss),.row 9 (els bs),.gh 0 (.c (.ptr 0 0)),.row 9 (els (w.Bodies.take w.Scores.length)),.row 1 (els gl)]⟩ : St)) (k + 1) (bs) (ss) (gl),⟨k + 1,bs,ss,gl,J,⟨by omega,n1,gl_same hgl hg2 (f1_step n3)⟩,J⟩,Xu [0,1,2,3,4,5,6] (by decide) J (by kernel_rfl) (.c J (.c J (.c J (.c J (.cons (Xo (by omega)) (.nil))))))⟩
  | some j =>
   rw [met_I hm]
   have f2 : decide ((j : Int) < 0) = false := decide_eq_false (by omega)
   obtain ⟨hj,hc⟩ := metF_lt hm
   obtain ⟨p,hp,hpl,_,_⟩ := metC_life hc
   have hpB := (hSL.at_ j p hp).1.f
   have hjl := Yf hp
   obtain ⟨n1,_,n3⟩ := sh_hit hb hK hm hp hs (lf := shL w.Scores.length (w.Bodies.drop w.Scores.length) (w.Bodies,w.Scores) k) rfl
   have ng := gl_set (k := k) (g := fun i => decide (i < k + 1) && shF w.Scores.length (w.Bodies.drop w.Scores.length) (w.Bodies,w.Scores) i) hgl hg2 (by simp only [n3,Bool.and_true,decide_eq_true_eq]; exact Nat.lt_succ_self k) (fun i hi => f1_ne hi)
   have heg := at_gl hgk
   refine Ql J (Qh (Q0 (zy (z0 J (z0 J (zx (Q3 J J J J J (by omega) (by omega)) J ?_))))));refine Xg J J J J J J J J J (by assumption) J J (zz (zy (z0 J (zx (Qz J J J) J (z2 J J J (z3 J (z0 J (zx (Q3 J J J J J (by omega) (by omega)) J (zx (Yy J J J J (by decide)) J ?_)))))))));refine AL.weak (st' := (⟨_,[(0,.o (.c (.ptr 0 0))),(2,I (els w.Scores).length),(3,.o (.c (.ref 5))),(4,.o (.c (.ref 6))),(5,I (((els w.Scores).length + k : Nat) : Int)),(6,.o (.c (.ptr 7 0))),(7,I (j : Int)),(63,.o (.c (.ref 3))),(64,I (j : Int)),(66,.o (.c (.el 3 9 j 7)))],[.box [.ref 1,jn w.Tick,jn w.Seed,.ref 2,.ref 3],.row 1 (els w.Level.Rows),.row 1 (els ss),.row 9 (els bs),.gh 0 (.c (.ptr 0 0)),.row 9 (els (w.Bodies.take w.Scores.length)),.row 1 (els (gl.set (w.Scores.length + k) true)),.box ((Enc.e b).map (V1.rd []))]⟩ : St)) (Xu [0,1,2,3,4,5,6,7] (by decide) J ((by exact rw6g st_gl)) (.c J (.c J (.c J (.c J (.c J (.c J (.c J (.c J (.c J (.c J (.nil)))))))))))) ?_
   clear heg
   have he := els_sm hp
   refine zx (Q7 J J J J (by assumption) J) J (z8 J (by omega) (zx (Q3 J J J J J (by omega) (by omega)) J (zx (Yy J J J J (by decide)) J ?_)));refine Xg J J J J J J J J J (by assumption) J J (zz (zy (z0 J (zx (Qz J J J) J (z2 J J J (z3 J (z0 J ?_)))))));refine AL.weak (st' := (⟨_,[(0,.o (.c (.ptr 0 0))),(2,I (els w.Scores).length),(3,.o (.c (.ref 5))),(4,.o (.c (.ref 6))),(5,I (((els w.Scores).length + k : Nat) : Int)),(6,.o (.c (.ptr 7 0))),(7,I (j : Int)),(74,.o (.c (.ref 3))),(75,I (j : Int))],[.box [.ref 1,jn w.Tick,jn w.Seed,.ref 2,.ref 3],.row 1 (els w.Level.Rows),.row 1 (els ss),.row 9 (els (bs.set j (lifeM p))),.gh 0 (.c (.ptr 0 0)),.row 9 (els (w.Bodies.take w.Scores.length)),.row 1 (els (gl.set (w.Scores.length + k) true)),.box ((Enc.e b).map (V1.rd []))]⟩ : St)) (Xu [0,1,2,3,4,5,6,7] (by decide) J ((by exact rwBo (st_el0 J))) (.c J (.c J (.c J (.c J (.c J (.c J (.c J (.c J (.c J (.nil))))))))))) ?_
   clear he
   have he : (els (bs.set j (lifeM p)))[(j : Int).toNat]? = some (Enc.e (lifeM p)) := els_sm (by rw [List.getElem?_set_self hjl])
   have hls2 : (els (bs.set j (lifeM p))).length = bs.length := by rw [X7,List.length_set]
   by_cases hz : p.Life - 1 = 0
   case neg =>
    have f3 : decide (p.Life - 1 = 0) = false := decide_eq_false hz
    rw [hit_alive hz,if_neg hz] at n1
    refine zx (Q3 J J J J J (by omega) (by omega)) J (zx (Yy J J J J (by decide)) J (zx (Q7 J J J J (by assumption) J) J (z9e J (by assumption) (zz (Ql J (Qh (Q1 (Q0 (Qc (z0 J ?_))))))))));refine z7 J (by omega) (z1 J (zz ?_))
    refine ⟨_,(by omega),(fun (k : Nat) (bs : List TBody) (ss : List Int) (gl : List Bool) => (⟨_,[(0,.o (.c (.ptr 0 0))),(2,I (els w.Scores).length),(3,.o (.c (.ref 5))),(4,.o (.c (.ref 6))),(5,I (((els w.Scores).length + k : Nat) : Int))],[.box [.ref 1,jn w.Tick,jn w.Seed,.ref 2,.ref 3],.row 1 (els w.Level.Rows),.row 1 (els ss),.row 9 (els bs),.gh 0 (.c (.ptr 0 0)),.row 9 (els (w.Bodies.take w.Scores.length)),.row 1 (els gl)]⟩ : St)) (k + 1) (bs.set j (lifeM p)) (ss) (gl.set (w.Scores.length + k) true),⟨k + 1,bs.set j (lifeM p),ss,gl.set (w.Scores.length + k) true,J,⟨by omega,n1,ng⟩,J⟩,Xu [0,1,2,3,4,5,6] (by decide) J (by kernel_rfl) (.c J (.c J (.c J (.c J (.cons (Xo (by omega)) (.nil))))))⟩
   have f3 : decide (p.Life - 1 = 0) = true := decide_eq_true hz
   rw [hit_down hz,if_pos hz] at n1
   have ho := hB.o
   obtain ⟨q,hq⟩ : ∃ q : Nat,b.Owner = q := ⟨b.Owner.toNat,by omega⟩
   obtain ⟨s,hs1⟩ := Zi (xs := ss) (i := q) (by omega)
   have cp := S_l02Point ⟨w.Level,w.Tick,w.Seed,ss,bs.set j (lifeM p)⟩ q s hs1 (hSc s (List.mem_of_getElem? hs1))
   simp only [← hq] at cp
   rw [hq,Int.toNat_natCast] at n1
   refine zx (Q3 J J J J J (by omega) (by omega)) J (zx (Yy J J J J (by decide)) J (zx (Q7 J J J J (by assumption) J) J (z9e J (by assumption) (zz (Qm J (zy (z0 J (z2 J J J (z3 J ?_)))))))));refine Xq (lo := [_,_,_,_]) (gs := [(0,.c (.ptr 0 0)),(5,.c (.ref 3))]) (lo' := [_,_,_,_]) (new := []) [0,1,2,3] [(0,0,.ptr 0 0),(1,0,.ref 3)] (cp) J J J J J J J J J J J J J J J J J ?_;refine zz (zy (z0 J (zx (Qz J J J) J (z2 J J J (z3 J (z0 J (zx (Q3 J J J J J (by omega) (by omega)) J (zx (Yy J J J J (by decide)) J ?_))))))));refine Xg J J J J J J J J J (by assumption) J J (zz (zy (z0 J (zx (Qz J J J) J (z2 J J J (z3 J (z0 J ?_)))))));refine AL.weak (st' := (⟨_,[(0,.o (.c (.ptr 0 0))),(2,I (els w.Scores).length),(3,.o (.c (.ref 5))),(4,.o (.c (.ref 6))),(5,I (((els w.Scores).length + k : Nat) : Int)),(6,.o (.c (.ptr 7 0))),(7,I (j : Int)),(94,.o (.c (.ref 3))),(95,I (j : Int))],[.box [.ref 1,jn w.Tick,jn w.Seed,.ref 2,.ref 3],.row 1 (els w.Level.Rows),.row 1 (els (addM ss q)),.row 9 (els (bs.set j (stopX p))),.gh 0 (.c (.ptr 0 0)),.row 9 (els (w.Bodies.take w.Scores.length)),.row 1 (els (gl.set (w.Scores.length + k) true)),.box ((Enc.e b).map (V1.rd []))]⟩ : St)) (Xu [0,1,2,3,4,5,6,7] (by decide) J ((by exact rwBo (st_el J))) (.c J (.c J (.c J (.c J (.c J (.c J (.c J (.c J (.c J (.nil))))))))))) ?_
   clear he
   have he : (els (bs.set j (stopX p)))[(j : Int).toNat]? = some (Enc.e (stopX p)) := els_sm (by rw [List.getElem?_set_self hjl])
   have hls3 : (els (bs.set j (stopX p))).length = bs.length := by rw [X7,List.length_set]
   have hls4 : (els (bs.set j (stopY p))).length = bs.length := by rw [X7,List.length_set]
   refine zx (Q3 J J J J J (by omega) (by omega)) J (zx (Yy J J J J (by decide)) J ?_);refine Xg J J J J J J J J J (by assumption) J J (zz (Qc (z0 J (zx (Qz J J J) J (z2 J J J (z3 J (z0 J ?_)))))));refine AL.weak (st' := (⟨_,[(0,.o (.c (.ptr 0 0))),(2,I (els w.Scores).length),(3,.o (.c (.ref 5))),(4,.o (.c (.ref 6))),(5,I (((els w.Scores).length + k : Nat) : Int)),(6,.o (.c (.ptr 7 0))),(7,I (j : Int)),(101,.o (.c (.ref 3))),(102,I (j : Int))],[.box [.ref 1,jn w.Tick,jn w.Seed,.ref 2,.ref 3],.row 1 (els w.Level.Rows),.row 1 (els (addM ss q)),.row 9 (els (bs.set j (stopY p))),.gh 0 (.c (.ptr 0 0)),.row 9 (els (w.Bodies.take w.Scores.length)),.row 1 (els (gl.set (w.Scores.length + k) true)),.box ((Enc.e b).map (V1.rd []))]⟩ : St)) (Xu [0,1,2,3,4,5,6,7] (by decide) J ((by exact rwBo (st_el J))) (.c J (.c J (.c J (.c J (.c J (.c J (.c J (.c J (.c J (.nil))))))))))) ?_
   clear he
   have he : (els (bs.set j (stopY p)))[(j : Int).toNat]? = some (Enc.e (stopY p)) := els_sm (by rw [List.getElem?_set_self hjl])
   refine zx (Q3 J J J J J (by omega) (by omega)) J (zx (Yy J J J J (by decide)) J ?_);refine Xg J J J J J J J J J (by assumption) J J (Qe (Q1 (Q0 (Qc (z0 J (z7 J (by omega) (z1 J (zz ?_))))))))
   refine ⟨_,(by omega),(fun (k : Nat) (bs : List TBody) (ss : List Int) (gl : List Bool) => (⟨_,[(0,.o (.c (.ptr 0 0))),(2,I (els w.Scores).length),(3,.o (.c (.ref 5))),(4,.o (.c (.ref 6))),(5,I (((els w.Scores).length + k : Nat) : Int))],[.box [.ref 1,jn w.Tick,jn w.Seed,.ref 2,.ref 3],.row 1 (els w.Level.Rows),.row 1 (els ss),.row 9 (els bs),.gh 0 (.c (.ptr 0 0)),.row 9 (els (w.Bodies.take w.Scores.length)),.row 1 (els gl)]⟩ : St)) (k + 1) (bs.set j (downM p)) (addM ss q) (gl.set (w.Scores.length + k) true),⟨k + 1,bs.set j (downM p),addM ss q,gl.set (w.Scores.length + k) true,J,⟨by omega,n1,ng⟩,J⟩,Xu [0,1,2,3,4,5,6] (by decide) J ((by exact rwBo (st_el J))) (.c J (.c J (.c J (.c J (.cons (Xo (by omega)) (.nil))))))⟩
 have hb0 : decide ((((els w.Scores).length + k : Nat) : Int) < (els bs).length) = false := decide_eq_false (by omega)
 have hk : k = (w.Bodies.drop w.Scores.length).length := by omega
 have hg3 : ∀ i,i < (w.Bodies.drop w.Scores.length).length → w.Scores.length + i < w.Bodies.length → gl[w.Scores.length + i]? = some (shF w.Scores.length (w.Bodies.drop w.Scores.length) (w.Bodies,w.Scores) i || (decide (i < 0) && itF w.Scores.length (w.Bodies.drop w.Scores.length) bs i)) := fun i h1 h2 => by
  rw [hg2 i h1 h2,decide_eq_true (by omega : i < k)]; simp
 rw [hk] at hs
 clear hg2
 refine Qd (zy (z0 J (z0 J (zx (Qz J J J) J (z2 J J J (z3 J (zx (Y3 J J J J) J (z9a J (by assumption) (zz ?_)))))))));refine Ql J (Q9 (T_x (T_x (Xj (Q0 (Qd (zy (z0 J (z1 J (Qe ?_))))))))));refine Q0 (Qk ?_);refine Xi (fun m__ st => ∃ (i : Nat) (s2 : List Int) (g2 : List Bool),(w.Bodies.drop w.Scores.length).length - i = m__ ∧ (i ≤ (w.Bodies.drop w.Scores.length).length ∧ s2 = itS w.Scores.length bs (w.Bodies.drop w.Scores.length) ss i ∧ (g2.length = w.Bodies.length ∧ ∀ j,j < (w.Bodies.drop w.Scores.length).length → w.Scores.length + j < w.Bodies.length → g2[w.Scores.length + j]? = some (shF w.Scores.length (w.Bodies.drop w.Scores.length) (w.Bodies,w.Scores) j || (decide (j < i) && itF w.Scores.length (w.Bodies.drop w.Scores.length) bs j)))) ∧ st = (⟨_,[(0,.o (.c (.ptr 0 0))),(2,I (els w.Scores).length),(3,.o (.c (.ref 5))),(4,.o (.c (.ref 6))),(8,I (((els w.Scores).length + i : Nat) : Int))],[.box [.ref 1,jn w.Tick,jn w.Seed,.ref 2,.ref 3],.row 1 (els w.Level.Rows),.row 1 (els s2),.row 9 (els bs),.gh 0 (.c (.ptr 0 0)),.row 9 (els (w.Bodies.take w.Scores.length)),.row 1 (els g2)]⟩ : St)) _ ⟨(fun (i : Nat) (s2 : List Int) (g2 : List Bool) => (⟨_,[(0,.o (.c (.ptr 0 0))),(2,I (els w.Scores).length),(3,.o (.c (.ref 5))),(4,.o (.c (.ref 6))),(8,I (((els w.Scores).length + i : Nat) : Int))],[.box [.ref 1,jn w.Tick,jn w.Seed,.ref 2,.ref 3],.row 1 (els w.Level.Rows),.row 1 (els s2),.row 9 (els bs),.gh 0 (.c (.ptr 0 0)),.row 9 (els (w.Bodies.take w.Scores.length)),.row 1 (els g2)]⟩ : St)) (0) (ss) (gl),⟨0,ss,gl,J,⟨by omega,J,hgl,hg3⟩,J⟩,Xu [0,1,2,3,4,5,6] (by decide) J (by kernel_rfl) (.c J (.c J (.c J (.c J (.cons (Xo (by omega)) (.nil))))))⟩ ?_
 rintro m_B _ ⟨i,s2,g2,hk_B,hp_B,rfl⟩
 obtain ⟨hi,hs2,hgl2,hgi⟩ := hp_B
 have hSs2 : s2.length = w.Scores.length := by rw [hs2]; exact (itS_ok hSs hSc).1
 have hSc2 : ∀ x ∈ s2,0 ≤ x ∧ x ≤ 1000000 := by rw [hs2]; exact (itS_ok hSs hSc).2
 have hlgl2 := X7 g2
 clear hb0 hgl hg3
 by_cases hlt : i < (w.Bodies.drop w.Scores.length).length
 ·have hb0 : decide ((((els w.Scores).length + i : Nat) : Int) < (els bs).length) = true := decide_eq_true (by omega)
  obtain ⟨b,hb⟩ := Zi hlt
  have hbb : bs[w.Scores.length + i]? = some b := by rw [hSt _ (by omega),← List.getElem?_drop]; exact hb
  have hB := (hSL.at_ _ b hbb).1
  have hpl := (hB.placed hl).1
  obtain ⟨g0,hgk⟩ := Zi (xs := g2) (i := w.Scores.length + i) (by omega)
  have heg := at_gl hgk
  have he := at_el hbb
  by_cases hK : b.Kind = 2
  case neg =>
   have f1 : decide (b.Kind ≠ 2) = true := decide_eq_true hK
   obtain ⟨n1,_,n3⟩ := it_skip hb hK hs2 (lf := itL w.Scores.length bs (w.Bodies.drop w.Scores.length) i) rfl
   refine Qd (zy (z0 J (z0 J (zx (Qz J J J) J (z2 J J J (z3 J (zx (Y3 J J J J) J (z9a J (by assumption) (zz ?_)))))))));refine Qm J (Qh (Q0 (Qd (Qk (Qd (zy (z0 J (zx (Qz J J J) J (z2 J J J (z3 J ?_))))))))));refine z0 J (zx (Q3 J J J J J (by omega) (by omega)) J (zx (Yy J J J J (by decide)) J (zx (Q7 J J J J (by assumption) J) J (z9f J (by assumption) (zz (Qm J (Q9 (T_x (Xj (Q0 ?_))))))))));refine Qc (z0 J (z7 J (by omega) (z1 J (zz ?_))))
   refine ⟨_,(by omega),(fun (i : Nat) (s2 : List Int) (g2 : List Bool) => (⟨_,[(0,.o (.c (.ptr 0 0))),(2,I (els w.Scores).length),(3,.o (.c (.ref 5))),(4,.o (.c (.ref 6))),(8,I (((els w.Scores).length + i : Nat) : Int))],[.box [.ref 1,jn w.Tick,jn w.Seed,.ref 2,.ref 3],.row 1 (els w.Level.Rows),.row 1 (els s2),.row 9 (els bs),.gh 0 (.c (.ptr 0 0)),.row 9 (els (w.Bodies.take w.Scores.length)),.row 1 (els g2)]⟩ : St)) (i + 1) (s2) (g2),⟨i + 1,s2,g2,J,⟨by omega,n1,gl_same hgl2 hgi (f2_step (by rw [itF_at hb]; exact n3))⟩,J⟩,Xu [0,1,2,3,4,5,6] (by decide) J (by kernel_rfl) (.c J (.c J (.c J (.c J (.cons (Xo (by omega)) (.nil))))))⟩
  have f1 : decide (b.Kind ≠ 2) = false := decide_eq_false (fun q => q hK)
  have cm := S_l02Meets ⟨w.Level,w.Tick,w.Seed,s2,bs⟩ b (-1) (by simp only; omega) (by simp only; omega) (fun j p _ h => ((hSL.at_ j p h).1.placed hl).1) hpl
  simp only [hSs2] at cm
  refine Qd (zy (z0 J (z0 J (zx (Qz J J J) J (z2 J J J (z3 J (zx (Y3 J J J J) J (z9a J (by assumption) (zz ?_)))))))));refine Qm J (Qh (Q0 (Qd (Qk (Qd (zy (z0 J (zx (Qz J J J) J (z2 J J J (z3 J ?_))))))))));refine z0 J (zx (Q3 J J J J J (by omega) (by omega)) J (zx (Yy J J J J (by decide)) J (zx (Q7 J J J J (by assumption) J) J (z9f J (by assumption) (zz (Ql J (Qh (Q0 (zy ?_)))))))));refine z0 J (z0 J (zx (Qz J J J) J (z2 J J J (z3 J (z0 J (zx (Q3 J J J J J (by omega) (by omega)) J (zx (Q6 J J J J (by assumption) J J) J ?_)))))));refine Xq (lo := [_,_,_,_]) (gs := [(0,.c (.ptr 0 0)),(6,.c (.ref 3))]) (lo' := [_,_,_,_]) (new := []) [0,1,2,3] [(0,0,.ptr 0 0),(1,0,.ref 3)] (cm) J J J J J J J J J J J J J J J J J ?_;refine z1 J (zz (zy (z0 J (zx (q_geq J J J J) J (zz ?_)))))
  refine AWP.pre (st' := (⟨_,[(0,.o (.c (.ptr 0 0))),(2,I (els w.Scores).length),(3,.o (.c (.ref 5))),(4,.o (.c (.ref 6))),(8,I (((els w.Scores).length + i : Nat) : Int)),(9,I (metI bs b (-1) w.Scores.length)),(134,B (decide (metI bs b (-1) w.Scores.length ≥ 0)))],[.box [.ref 1,jn w.Tick,jn w.Seed,.ref 2,.ref 3],.row 1 (els w.Level.Rows),.row 1 (els s2),.row 9 (els bs),.gh 0 (.c (.ptr 0 0)),.row 9 (els (w.Bodies.take w.Scores.length)),.row 1 (els g2)]⟩ : St)) ?_ (Xt [0,1,2,3,4,5,6] (by kernel_rfl))
  cases hm : metF bs b (-1) w.Scores.length with
  | none =>
   obtain ⟨mi,hmi⟩ : ∃ mi : Int,metI bs b (-1) w.Scores.length = mi := ⟨_,rfl⟩
   rw [hmi]
   rw [met_no hm] at hmi
   have f2 : decide (mi ≥ 0) = false := decide_eq_false (by omega)
   rw [f2]
   obtain ⟨n1,_,n3⟩ := it_miss hb hm hs2 (lf := itL w.Scores.length bs (w.Bodies.drop w.Scores.length) i) rfl
   refine Ql J (Qh (Q1 (Q0 (Qc (z0 J (z7 J (by omega) (z1 J (zz ?_))))))))
   refine ⟨_,(by omega),(fun (i : Nat) (s2 : List Int) (g2 : List Bool) => (⟨_,[(0,.o (.c (.ptr 0 0))),(2,I (els w.Scores).length),(3,.o (.c (.ref 5))),(4,.o (.c (.ref 6))),(8,I (((els w.Scores).length + i : Nat) : Int))],[.box [.ref 1,jn w.Tick,jn w.Seed,.ref 2,.ref 3],.row 1 (els w.Level.Rows),.row 1 (els s2),.row 9 (els bs),.gh 0 (.c (.ptr 0 0)),.row 9 (els (w.Bodies.take w.Scores.length)),.row 1 (els g2)]⟩ : St)) (i + 1) (s2) (g2),⟨i + 1,s2,g2,J,⟨by omega,n1,gl_same hgl2 hgi (f2_step (by rw [itF_at hb]; exact n3))⟩,J⟩,Xu [0,1,2,3,4,5,6] (by decide) J (by kernel_rfl) (.c J (.c J (.c J (.c J (.cons (Xo (by omega)) (.nil))))))⟩
  | some j =>
   rw [met_I hm]
   have f2 : decide ((j : Int) ≥ 0) = true := decide_eq_true (by omega)
   obtain ⟨hj,hc⟩ := metF_lt hm
   obtain ⟨s,hs1⟩ := Zi (xs := s2) (i := j) (by omega)
   have cp := S_l02Point ⟨w.Level,w.Tick,w.Seed,s2,bs⟩ j s hs1 (hSc2 s (List.mem_of_getElem? hs1))
   simp only at cp
   obtain ⟨n1,_,n3⟩ := it_hit hb hK hm hs2 (lf := itL w.Scores.length bs (w.Bodies.drop w.Scores.length) i) rfl
   have ng := gl_set (k := i) (g := fun j => shF w.Scores.length (w.Bodies.drop w.Scores.length) (w.Bodies,w.Scores) j || (decide (j < i + 1) && itF w.Scores.length (w.Bodies.drop w.Scores.length) bs j)) hgl2 hgi (by simp only [itF_at hb,n3,Bool.and_true]; rw [decide_eq_true (Nat.lt_succ_self i),Bool.or_true]) (fun j hj => f2_ne hj)
   refine Qm J (zy (z0 J (z0 J (zx (Q3 J J J J J (by omega) (by omega)) J ?_))));refine Xg J J J J J J J J J (by assumption) J J (zz (Qc (z0 J (z0 J ?_))));refine Xq (lo := [_,_,_,_]) (gs := [(0,.c (.ptr 0 0)),(5,.c (.ref 3))]) (lo' := [_,_,_,_]) (new := []) [0,1,2,3] [(0,0,.ptr 0 0),(1,0,.ref 3)] (cp) J J J J J J J J J J J J J J J J J ?_;refine Qe (Q1 (Q0 (Qc (z0 J (z7 J (by omega) (z1 J (zz ?_)))))))
   refine ⟨_,(by omega),(fun (i : Nat) (s2 : List Int) (g2 : List Bool) => (⟨_,[(0,.o (.c (.ptr 0 0))),(2,I (els w.Scores).length),(3,.o (.c (.ref 5))),(4,.o (.c (.ref 6))),(8,I (((els w.Scores).length + i : Nat) : Int))],[.box [.ref 1,jn w.Tick,jn w.Seed,.ref 2,.ref 3],.row 1 (els w.Level.Rows),.row 1 (els s2),.row 9 (els bs),.gh 0 (.c (.ptr 0 0)),.row 9 (els (w.Bodies.take w.Scores.length)),.row 1 (els g2)]⟩ : St)) (i + 1) (addM s2 j) (g2.set (w.Scores.length + i) true),⟨i + 1,addM s2 j,g2.set (w.Scores.length + i) true,J,⟨by omega,n1,ng⟩,J⟩,Xu [0,1,2,3,4,5,6] (by decide) J ((by exact rw6g st_gl)) (.c J (.c J (.c J (.c J (.cons (Xo (by omega)) (.nil))))))⟩
 have hb0 : decide ((((els w.Scores).length + i : Nat) : Int) < (els bs).length) = false := decide_eq_false (by omega)
 have hi2 : i = (w.Bodies.drop w.Scores.length).length := by omega
 rw [hi2] at hs2
 have hg4 : ∀ j,j < (w.Bodies.drop w.Scores.length).length → g2[w.Scores.length + j]? = some (shF w.Scores.length (w.Bodies.drop w.Scores.length) (w.Bodies,w.Scores) j || itF w.Scores.length (w.Bodies.drop w.Scores.length) bs j) := fun j h1 => by
  rw [hgi j h1 (by omega),decide_eq_true (by omega : j < i)]; simp
 have hlk : (els (w.Bodies.take w.Scores.length)).length = w.Scores.length := by rw [X7,List.length_take]; omega
 have hcl : ((els bs).take ((els w.Scores).length : Int).toNat).length = (els (w.Bodies.take w.Scores.length)).length := by rw [hlk,List.length_take,Int.toNat_natCast]; omega
 refine Qd (zy (z0 J (z0 J (zx (Qz J J J) J (z2 J J J (z3 J (zx (Y3 J J J J) J (z9a J (by assumption) (zz ?_)))))))));refine Ql J (Q9 (T_x (T_x (Xj (Q0 (zy (z0 J (z0 J (zx (Qz J J J) J (z2 J J J ?_))))))))));refine z3 J (z0 J (zx (q_partr0 J J J J J J (by omega)) J ?_));refine M_copy J J J J J J J J J J (fun e he => els_pl9 _ e (List.mem_of_mem_take he)) (fun e he => els_k9 _ e (List.mem_of_mem_take he)) hcl (by omega) ?_;refine zz (Qd (zy (z0 J (z1 J (zz (Qk ?_))))));refine Xi (fun m__ st => ∃ (j : Nat) (kr : List TBody),(w.Bodies.drop w.Scores.length).length - j = m__ ∧ (j ≤ (w.Bodies.drop w.Scores.length).length ∧ kr = keepR w.Scores.length (w.Bodies.drop w.Scores.length) (w.Bodies,w.Scores) bs j) ∧ st = (⟨_,[(0,.o (.c (.ptr 0 0))),(2,I (els w.Scores).length),(3,.o (.c (.ref 5))),(4,.o (.c (.ref 6))),(10,I (((els w.Scores).length + j : Nat) : Int))],[.box [.ref 1,jn w.Tick,jn w.Seed,.ref 2,.ref 3],.row 1 (els w.Level.Rows),.row 1 (els s2),.row 9 (els bs),.gh 0 (.c (.ptr 0 0)),.row 9 (els (bs.take w.Scores.length ++ kr)),.row 1 (els g2)]⟩ : St)) _ ⟨(fun (j : Nat) (kr : List TBody) => (⟨_,[(0,.o (.c (.ptr 0 0))),(2,I (els w.Scores).length),(3,.o (.c (.ref 5))),(4,.o (.c (.ref 6))),(10,I (((els w.Scores).length + j : Nat) : Int))],[.box [.ref 1,jn w.Tick,jn w.Seed,.ref 2,.ref 3],.row 1 (els w.Level.Rows),.row 1 (els s2),.row 9 (els bs),.gh 0 (.c (.ptr 0 0)),.row 9 (els (bs.take w.Scores.length ++ kr)),.row 1 (els g2)]⟩ : St)) (0) ([]),⟨0,[],J,⟨by omega,J⟩,J⟩,Xu [0,1,2,3,4,5,6] (by decide) J ((by exact rw6 (by rw [List.append_nil,els_takeE2,hls,Int.toNat_natCast]))) (.c J (.c J (.c J (.c J (.cons (Xo (by omega)) (.nil))))))⟩ ?_
 rintro m_C _ ⟨j,kr,hk_C,hp_C,rfl⟩
 obtain ⟨hj,hkr⟩ := hp_C
 have hlkr : (els (bs.take w.Scores.length ++ kr)).length = w.Scores.length + kr.length := by rw [X7,List.length_append,List.length_take]; omega
 have hkl : kr.length ≤ j := by rw [hkr]; exact keepR_le j
 clear hb0
 by_cases hlt : j < (w.Bodies.drop w.Scores.length).length
 ·have hb0 : decide ((((els w.Scores).length + j : Nat) : Int) < (els bs).length) = true := decide_eq_true (by omega)
  obtain ⟨b,hb⟩ := Zi hlt
  have hbb : bs[w.Scores.length + j]? = some b := by rw [hSt _ (by omega),← List.getElem?_drop]; exact hb
  have hgj := hg4 j hlt
  have hnx : keepR w.Scores.length (w.Bodies.drop w.Scores.length) (w.Bodies,w.Scores) bs (j + 1) = if (shF w.Scores.length (w.Bodies.drop w.Scores.length) (w.Bodies,w.Scores) j || itF w.Scores.length (w.Bodies.drop w.Scores.length) bs j) = true then kr else kr ++ [b] := by
   rw [keepR,hb,hkr,itF,hb]
  have he := at_el hbb
  cases hf : (shF w.Scores.length (w.Bodies.drop w.Scores.length) (w.Bodies,w.Scores) j || itF w.Scores.length (w.Bodies.drop w.Scores.length) bs j) with
  | true =>
   rw [hf] at hgj hnx
   have heg := at_gl hgj
   refine Qd (zy (z0 J (z0 J (zx (Qz J J J) J (z2 J J J (z3 J (zx (Y3 J J J J) J (z9a J (by assumption) (zz ?_)))))))));refine Qm J (Qh (Q0 (Qd (Qk (zy (z0 J (z0 J (zx (Q3 J J J J J (by omega) (by omega)) J (zx (Q7 J J J J (by assumption) J) J (zn J ?_))))))))));refine zz (Ql J (Qh (Q1 (Q0 (Qc (z0 J (z7 J (by omega) (z1 J (zz ?_)))))))))
   refine ⟨_,(by omega),(fun (j : Nat) (kr : List TBody) => (⟨_,[(0,.o (.c (.ptr 0 0))),(2,I (els w.Scores).length),(3,.o (.c (.ref 5))),(4,.o (.c (.ref 6))),(10,I (((els w.Scores).length + j : Nat) : Int))],[.box [.ref 1,jn w.Tick,jn w.Seed,.ref 2,.ref 3],.row 1 (els w.Level.Rows),.row 1 (els s2),.row 9 (els bs),.gh 0 (.c (.ptr 0 0)),.row 9 (els (bs.take w.Scores.length ++ kr)),.row 1 (els g2)]⟩ : St)) (j + 1) (kr),⟨j + 1,kr,J,⟨by omega,hnx.symm⟩,J⟩,Xu [0,1,2,3,4,5,6] (by decide) J (by kernel_rfl) (.c J (.c J (.c J (.c J (.cons (Xo (by omega)) (.nil))))))⟩
  | false =>
   rw [hf] at hgj hnx
   have heg := at_gl hgj
   refine Qd (zy (z0 J (z0 J (zx (Qz J J J) J (z2 J J J (z3 J (zx (Y3 J J J J) J (z9a J (by assumption) (zz ?_)))))))));refine Qm J (Qh (Q0 (Qd (Qk (zy (z0 J (z0 J (zx (Q3 J J J J J (by omega) (by omega)) J (zx (Q7 J J J J (by assumption) J) J (zn J ?_))))))))));refine zz (Qm J (Qc (z0 J (z0 J (zx (Qz J J J) J (z2 J J J (z3 J (z0 J (zx (Q3 J J J J J (by omega) (by omega)) J (zx (Q6 J J J J (by assumption) J J) J ?_))))))))));refine M1 (Yt J J J J J J) J J ?_;refine M_appo J J J J J J J J J J J J J J (by omega) (by omega) ?_;refine z1 J (Qe (Q1 (Q0 (Qc (z0 J (z7 J (by omega) (z1 J (zz ?_))))))))
   refine ⟨_,(by omega),(fun (j : Nat) (kr : List TBody) => (⟨_,[(0,.o (.c (.ptr 0 0))),(2,I (els w.Scores).length),(3,.o (.c (.ref 5))),(4,.o (.c (.ref 6))),(10,I (((els w.Scores).length + j : Nat) : Int))],[.box [.ref 1,jn w.Tick,jn w.Seed,.ref 2,.ref 3],.row 1 (els w.Level.Rows),.row 1 (els s2),.row 9 (els bs),.gh 0 (.c (.ptr 0 0)),.row 9 (els (bs.take w.Scores.length ++ kr)),.row 1 (els g2)]⟩ : St)) (j + 1) (kr ++ [b]),⟨j + 1,kr ++ [b],J,⟨by omega,hnx.symm⟩,J⟩,Xu [0,1,2,3,4,5,6] (by decide) J ((by exact rw6 (by rw [← List.append_assoc,X5]; rfl))) (.c J (.c J (.c J (.c J (.cons (Xo (by omega)) (.nil))))))⟩
 have hb0 : decide ((((els w.Scores).length + j : Nat) : Int) < (els bs).length) = false := decide_eq_false (by omega)
 have hj2 : j = (w.Bodies.drop w.Scores.length).length := by omega
 rw [hj2] at hkr
 have hres : hitsR w.Scores.length w.Bodies w.Scores = (bs.take w.Scores.length ++ kr,s2) := by
  simp only [hitsR,← hs]
  rw [← hkr,← hs2]
 rw [hres]
 refine Qd (zy (z0 J (z0 J (zx (Qz J J J) J (z2 J J J (z3 J (zx (Y3 J J J J) J (z9a J (by assumption) (zz ?_)))))))));refine Ql J (Q9 (T_x (T_x (Xj (Q0 (Qc (z0 J (z0 J (zx (Qz J J J) J (z2 J J J ?_))))))))));refine Q5 J J J J J J J J (Qe (F_n ?_))
 exact E_none J (Xs [0,1,2,5,4] (by decide) J J J)
end
section
open Go.RowKit

instance : PlainE TBody := ⟨fun x t h => els_pl9 [x] (Enc.e x) (by simp [els]) t h⟩
theorem S_copyWorld (w : TWorld) (hg : Enc.gd w) (h1 : w.Level.Rows.length ≤ 1048576) (h2 : w.Scores.length ≤ 1048576) (h3 : w.Bodies.length ≤ 1048576) : Con Tryd.prog 67 [] [ag w] [.row 1 (els w.Level.Rows),.row 1 (els w.Scores),.row 9 (els w.Bodies)] (.o (.ag [.ref 0,jn w.Tick,jn w.Seed,.ref 1,.ref 2])) := by
 have hls := X7 w.Scores
 have hlb := X7 w.Bodies
 have h00 : ([] : List (List T)).length = 0 := rfl
 refine Con.of Tryd.func67 J Tryd.ntmps67 J (fun E => ?_)
 refine zy (M1 (Qq J J J J) J J (M1 (Qx J J J) J J (zz (zy (z2 J J J (z4 J J J ?_))))));refine M1 (Yv J J (S_copyLevel w.Level hg.1 h1) J J J) J J ?_;refine z2 J J J ?_;refine Qy J J J J J J J J J (zz (zy (M1 (Yu J J J) J J (z2 J J J (z3 J ?_)))));refine M_app J J J J J J J J J J (els_plain _) (els_k _) (by omega) (by omega) ?_;refine z2 J J J ?_;refine Q5 J J J J J J J J (zz (zy (M1 (Yu J J J) J J (z2 J J J (z3 J ?_)))));refine M_app J J J J J J J J J J (els_plain _) (els_k _) (by omega) (by omega) ?_;refine z2 J J J ?_;refine Q5 J J J J J J J J (zz (zy (z4 J J J ?_)));refine Qy J J J J J J J J J (zz (Xa (F_r ?_)))
 exact E_cell J J J J (Xs [2,3,4] (by decide) J J J)
end
section
open Go.RowKit

theorem step_T {w : TWorld} {row : List Int} (h : worldOk w = true ∧ w.Tick ≠ 100000 ∧ rowOk row w.Scores.length = true) : stepW w row = tickM w row := by rw [stepW,if_pos h]
theorem step_F {w : TWorld} {row : List Int} (h : ¬ (worldOk w = true ∧ w.Tick ≠ 100000 ∧ rowOk row w.Scores.length = true)) : stepW w row = w := by rw [stepW,if_neg h]
theorem last_1 {l : TLevel} {tick seed : Int} {ss : List Int} {bs : List TBody} (h : tick % 16 ≠ 0 ∨ (spotsM l).length = 0 ∨ 24 ≤ bs.length) : lastM l tick seed ss bs = ⟨l,tick,seed,ss,bs⟩ := by rw [lastM,if_pos h]
theorem last_2 {l : TLevel} {tick seed : Int} {ss : List Int} {bs : List TBody} {x y : Int} (h : ¬ (tick % 16 ≠ 0 ∨ (spotsM l).length = 0 ∨ 24 ≤ bs.length)) (hs : spotOf l seed = [x,y]) (hi : itemAt bs x y = true) : lastM l tick seed ss bs = ⟨l,tick,nextR seed,ss,bs⟩ := by
 rw [lastM,if_neg h,hs]
 exact if_pos hi
theorem last_3 {l : TLevel} {tick seed : Int} {ss : List Int} {bs : List TBody} {x y : Int} (h : ¬ (tick % 16 ≠ 0 ∨ (spotsM l).length = 0 ∨ 24 ≤ bs.length)) (hs : spotOf l seed = [x,y]) (hi : itemAt bs x y = false) : lastM l tick seed ss bs = ⟨l,tick,nextR seed,ss,bs ++ [itemB x y]⟩ := by
 rw [lastM,if_neg h,hs]
 exact if_neg (by show ¬ itemAt bs x y = true; rw [hi]; simp)
theorem at_hit {bs : List TBody} {x y : Int} {k : Nat} {b : TBody} (hb : bs[k]? = some b) (h : b.Kind = 2 ∧ b.X = x ∧ b.Y = y) : itemAt bs x y = true := by
 rw [itemAt,List.any_eq_true]
 exact ⟨b,List.mem_of_getElem? hb,decide_eq_true h⟩
theorem at_go {bs : List TBody} {x y : Int} {k : Nat} {b : TBody} (hb : bs[k]? = some b) (h : ¬ (b.Kind = 2 ∧ b.X = x ∧ b.Y = y)) (hi : itemAt (bs.take k) x y = false) : itemAt (bs.take (k + 1)) x y = false := by
 obtain ⟨hk,rfl⟩ := List.getElem?_eq_some_iff.1 hb
 rw [List.take_succ_eq_append_getElem hk,itemAt,List.any_append,← itemAt,hi]
 simp only [List.any_cons,List.any_nil,Bool.or_false,Bool.false_or]
 exact decide_eq_false h
end
end Go.Proofs.YtcjclaoogdblbaaDoor
