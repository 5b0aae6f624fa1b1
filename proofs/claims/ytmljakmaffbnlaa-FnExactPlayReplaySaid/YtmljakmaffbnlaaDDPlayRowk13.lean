/-
  Shots and items in the reference.
  Conditions: bodies in free places, scores in range.
  A whole tick, as data; what it keeps. No statement of the program is proved here.
  Conditions: none.
  Copies of worlds, in the program and in the reference.
  Conditions: lists of at most 2^20 elements.
  StepWorld of the program.
  Conditions: lists of at most 2^20 elements.
  The tick of the reference.
  Conditions: a valid world and row.
  StepWorld of the reference.
  Conditions: lists of at most 2^20 elements.
  How great replays and worlds are that a law has copied. No statement of the program is proved here.
  Conditions: none.
  RunWorld, in the program and in the reference.
  Conditions: lists of at most 2^20 elements.
  Texts with runs of zeros packed: what is read back. No statement of the program is proved here.
  Conditions: none.
  append(x, make([]byte, n)...): the compiler's append of n zeros. No statement of the program is proved here.
  Conditions: none.
  PackZeros and UnpackZeros, in the program and in the reference.
  Conditions: texts of at most 2^40 - 1 bytes.
  XorText, in the program and in the reference.
  Conditions: texts of at most 2^40 bytes.
  UnpackZeros and ApplyDelta, in the program and in the reference.
  Conditions: texts of at most 2^40 - 1 bytes.
  ReadWorld of the program.
  Conditions: texts of at most 2^40 bytes, a level of at most 2^20 rows.
  ReadWorld of the reference.
  Conditions: texts of at most 2^40 bytes, a level of at most 2^20 rows.
  KeyAt, in the program and in the reference.
  Conditions: a replay of at most 2^20 pieces.
  PlayReplay, in the program and in the reference.
  Conditions: a replay of at most 2^20 pieces.
  Marks of worlds and spectators. No statement of the program is proved here.
  Conditions: lists of at most 2^20 elements.
-/
import Derived.Test.YtmljakmaffbnlaaDDPlayRowk8
import Derived.Test.YtmljakmaffbnlaaDDPlayRowk11
import Derived.Test.YtmljakmaffbnlaaDDPlayRowk12
section
set_option linter.unusedSimpArgs false
set_option linter.unusedVariables false
set_option maxRecDepth 8000
namespace Go.Proofs.Ytmljakmaffbnlaa
open Go.RowKit

theorem rw6g {a b c d e f : Ob} {t : List Ob} {m : Nat} {u v : List (List T)} (h2 : u = v) : a :: b :: c :: d :: e :: f :: Ob.row m u :: t = a :: b :: c :: d :: e :: f :: Ob.row m v :: t := by rw [h2]
theorem rw2k {a b c d e : Ob} {k m : Nat} {x y u v : List (List T)} (h : x = y) (h2 : u = v) : [a,b,c,d,e,Ob.row k x,Ob.row m u] = [a,b,c,d,e,Ob.row k y,Ob.row m v] := by rw [h,h2]
theorem mk_gone {N : Nat} {i : Int} {kk : Nat} (h : i.toNat = N) : els (List.replicate N false) = List.replicate i.toNat ([Value.bool false].map (zT kk)) := by
  rw [h,els,List.map_replicate]; rfl
theorem at_el {bs : List TBody} {ss : List Int} {k : Nat} {b : TBody} (h : bs[ss.length + k]? = some b) : (els bs)[(((els ss).length + k : Nat) : Int).toNat]? = some (Enc.e b) := by
  rw [els_len,Int.toNat_natCast,els,List.getElem?_map,h]; rfl
theorem at_gl {gl : List Bool} {ss : List Int} {k : Nat} {b : Bool} (h : gl[ss.length + k]? = some b) : (els gl)[(((els ss).length + k : Nat) : Int).toNat]? = some (Enc.e b) := by
  rw [els_len,Int.toNat_natCast,els,List.getElem?_map,h]; rfl
theorem st_gl {gl : List Bool} {ss : List Int} {k : Nat} {b : Bool} : els (gl.set (ss.length + k) true) = (els gl).set (((els ss).length + k : Nat) : Int).toNat (splice (Enc.e b) 0 [.v (.bool true)]) := by
  rw [els_len,Int.toNat_natCast,els,List.map_set]; rfl
theorem gl_set {gl : List Bool} {n m k N : Nat} {f g : Nat → Bool} (hl : gl.length = N) (h : ∀ i,i < m → n + i < N → gl[n + i]? = some (f i)) (hk : g k = true) (hf : ∀ i,i ≠ k → g i = f i) : (gl.set (n + k) true).length = N ∧ ∀ i,i < m → n + i < N → (gl.set (n + k) true)[n + i]? = some (g i) := by
  refine ⟨by rw [List.length_set]; exact hl,fun i hi hN => ?_⟩
  by_cases e : i = k
  · subst e
    rw [List.getElem?_set_self (by omega),hk]
  · rw [List.getElem?_set_ne (by omega),h i hi hN,hf i e]
theorem gl_same {gl : List Bool} {n m N : Nat} {f g : Nat → Bool} (hl : gl.length = N) (h : ∀ i,i < m → n + i < N → gl[n + i]? = some (f i)) (hf : ∀ i,g i = f i) : gl.length = N ∧ ∀ i,i < m → n + i < N → gl[n + i]? = some (g i) :=
  ⟨hl,fun i hi hN => by rw [h i hi hN,hf]⟩
def itF (n : Nat) (t bs : List TBody) (i : Nat) : Bool := match t[i]? with
  | none => false
  | some b => itHit n bs b
theorem itF_at {n i : Nat} {t bs : List TBody} {b : TBody} (h : t[i]? = some b) : itF n t bs i = itHit n bs b := by rw [itF,h]
theorem f1_ne {i k : Nat} {c : Bool} (h : i ≠ k) : (decide (i < k + 1) && c) = (decide (i < k) && c) := by
  rw [show decide (i < k + 1) = decide (i < k) from decide_eq_decide.2 (by omega)]
theorem f1_step {k : Nat} {c : Nat → Bool} (h : c k = false) (i : Nat) : (decide (i < k + 1) && c i) = (decide (i < k) && c i) := by
  by_cases e : i = k
  · subst e; rw [h,Bool.and_false,Bool.and_false]
  · exact f1_ne e
theorem f2_ne {i k : Nat} {c d : Bool} (h : i ≠ k) : (d || (decide (i < k + 1) && c)) = (d || (decide (i < k) && c)) := by rw [f1_ne h]
theorem f2_step {k : Nat} {c d : Nat → Bool} (h : c k = false) (i : Nat) : (d i || (decide (i < k + 1) && c i)) = (d i || (decide (i < k) && c i)) := by rw [f1_step h]
set_option maxHeartbeats 8000000 in
theorem S_l02Hits (w : TWorld) (hg : Enc.gd w.Level) (hl : levelOk w.Level = true) (hn4 : 1 ≤ w.Scores.length ∧ w.Scores.length ≤ 4) (hL : LM w.Level w.Scores.length w.Bodies) (hsc : ∀ x ∈ w.Scores,0 ≤ x ∧ x ≤ 1000000) : Con Try.prog 125 [.box [.ref 1,jn w.Tick,jn w.Seed,.ref 2,.ref 3],.row 1 (els w.Level.Rows),.row 1 (els w.Scores),.row 9 (els w.Bodies),.gh 0 (.c (.ptr 0 0))] [.c (.ptr 0 0)] [.box [.ref 1,jn w.Tick,jn w.Seed,.ref 2,.ref 3],.row 1 (els w.Level.Rows),.row 1 (els (hitsR w.Scores.length w.Bodies w.Scores).2),.row 9 (els (hitsR w.Scores.length w.Bodies w.Scores).1),.gh 0 (.c (.ptr 0 0))] (.tu []) := by
  have hlb := els_len w.Bodies
  have hls := els_len w.Scores
  have hln := hL.len
  have hT : (w.Bodies.drop w.Scores.length).length = w.Bodies.length - w.Scores.length := List.length_drop
  have htk : ((els w.Bodies).take ((els w.Scores).length : Int).toNat).length = w.Scores.length := by rw [List.length_take,Int.toNat_natCast]; omega
  refine Con.of Try.func125 rfl Try.ntmps125 rfl (fun E => ?_)
  refine Qd (Qc ?_);refine M0 (Qa J J J) J J ?_;refine M0 (Qz J J J) J J ?_;refine M0 (Qf J J J J (by decide)) J J ?_
  refine M0 (Qg J J J J J) J J ?_;refine M0 (q_lenr J J J J) J J ?_;refine M0 (Qb J J J) J J ?_;refine Qe (Q0 (Qd ?_))
  refine Qc ?_;refine M1 (q_bslicez J J J) J J ?_;refine M0 (Qa J J J) J J ?_;refine M0 (Qz J J J) J J ?_
  refine M0 (Qf J J J J (by decide)) J J ?_;refine M0 (Qg J J J J J) J J ?_;refine M0 (Qa J J J) J J ?_
  refine M0 (q_partr0 J J J J J J (by omega)) J J ?_
  refine M1 (q_appz J J J J J J (fun e he => els_pl9 _ e (List.mem_of_mem_take he)) (fun e he => els_k9 _ e (List.mem_of_mem_take he)) (by omega) (by omega) (by omega)) J J ?_
  refine M0 (Qb J J J) J J ?_;refine Qe (Q0 (Qd (Qc ?_)));refine M0 (Qa J J J) J J ?_
  refine M0 (Qz J J J) J J ?_;refine M0 (Qf J J J J (by decide)) J J ?_;refine M0 (Qg J J J J J) J J ?_
  refine M0 (q_lenr J J J J) J J ?_;refine M1 (q_make 1 J J J J (by omega) (by omega) (by omega) rfl (by decide)) J J ?_
  refine M0 (Qb J J J) J J ?_;refine Qe (Q0 (Qd (Qd (Qc ?_))));refine M0 (Qa J J J) J J ?_
  refine M0 (Qb J J J) J J ?_;refine Qe (Q0 (Qk ?_))
  refine AWP.pre (st' := (⟨_,[(0,.o (.c (.ptr 0 0))),(2,I (els w.Scores).length),(3,.o (.c (.ref 5))),(4,.o (.c (.ref 6))),(5,I (els w.Scores).length)],[.box [.ref 1,jn w.Tick,jn w.Seed,.ref 2,.ref 3],.row 1 (els w.Level.Rows),.row 1 (els w.Scores),.row 9 (els w.Bodies),.gh 0 (.c (.ptr 0 0)),.row 9 (els (w.Bodies.take w.Scores.length)),.row 1 (els (List.replicate w.Bodies.length false))]⟩ : St)) ?_ (W_go [0,1,2,3,4,6,7] (by decide) rfl ((by exact rw2k (by rw [els_takeE2,hls,Int.toNat_natCast]) (mk_gone (by rw [Int.toNat_natCast,hlb])))) (.cons rfl (.cons rfl (.cons rfl (.cons rfl (.cons rfl (.nil)))))))
  refine A_loop (fun m__ st => ∃ (k : Nat) (bs : List TBody) (ss : List Int) (gl : List Bool),(w.Bodies.drop w.Scores.length).length - k = m__ ∧ (k ≤ (w.Bodies.drop w.Scores.length).length ∧ (bs,ss) = shS w.Scores.length (w.Bodies.drop w.Scores.length) (w.Bodies,w.Scores) k ∧ (gl.length = w.Bodies.length ∧ ∀ i,i < (w.Bodies.drop w.Scores.length).length → w.Scores.length + i < w.Bodies.length → gl[w.Scores.length + i]? = some (decide (i < k) && shF w.Scores.length (w.Bodies.drop w.Scores.length) (w.Bodies,w.Scores) i))) ∧ st = (fun (k : Nat) (bs : List TBody) (ss : List Int) (gl : List Bool) => (⟨_,[(0,.o (.c (.ptr 0 0))),(2,I (els w.Scores).length),(3,.o (.c (.ref 5))),(4,.o (.c (.ref 6))),(5,I (((els w.Scores).length + k : Nat) : Int))],[.box [.ref 1,jn w.Tick,jn w.Seed,.ref 2,.ref 3],.row 1 (els w.Level.Rows),.row 1 (els ss),.row 9 (els bs),.gh 0 (.c (.ptr 0 0)),.row 9 (els (w.Bodies.take w.Scores.length)),.row 1 (els gl)]⟩ : St)) (k) (bs) (ss) (gl)) ((fun (k : Nat) (bs : List TBody) (ss : List Int) (gl : List Bool) => (w.Bodies.drop w.Scores.length).length - k) (0) (w.Bodies) (w.Scores) (List.replicate w.Bodies.length false)) ⟨(fun (k : Nat) (bs : List TBody) (ss : List Int) (gl : List Bool) => (⟨_,[(0,.o (.c (.ptr 0 0))),(2,I (els w.Scores).length),(3,.o (.c (.ref 5))),(4,.o (.c (.ref 6))),(5,I (((els w.Scores).length + k : Nat) : Int))],[.box [.ref 1,jn w.Tick,jn w.Seed,.ref 2,.ref 3],.row 1 (els w.Level.Rows),.row 1 (els ss),.row 9 (els bs),.gh 0 (.c (.ptr 0 0)),.row 9 (els (w.Bodies.take w.Scores.length)),.row 1 (els gl)]⟩ : St)) (0) (w.Bodies) (w.Scores) (List.replicate w.Bodies.length false),W_go [0,1,2,3,4,5,6] (by decide) rfl (rfl) (.cons rfl (.cons rfl (.cons rfl (.cons rfl (.cons (I_eq (by omega)) (.nil)))))),0,w.Bodies,w.Scores,List.replicate w.Bodies.length false,rfl,⟨by omega,rfl,by simp,fun i _ hi => by rw [List.getElem?_replicate,if_pos hi]; simp⟩,rfl⟩ ?_
  rintro m_A _ ⟨k,bs,ss,gl,hk_A,hp_A,rfl⟩
  obtain ⟨hk,hs,hgl,hg2⟩ := hp_A
  have hS := (SI.start hL rfl hsc).all (w.Bodies.drop w.Scores.length) k
  rw [← hs] at hS
  obtain ⟨hSL,hSn,hSt,hSs,hSc⟩ := hS
  simp only at hSL hSn hSt hSs hSc
  have hlbs := els_len bs
  have hlss := els_len ss
  have hlgl := els_len gl
  by_cases hlt : k < (w.Bodies.drop w.Scores.length).length
  · have hb0 : decide ((((els w.Scores).length + k : Nat) : Int) < (els bs).length) = true := decide_eq_true (by omega)
    obtain ⟨b,hb⟩ := some_sm hlt
    have hbb : bs[w.Scores.length + k]? = some b := by rw [hSt _ (by omega),← List.getElem?_drop]; exact hb
    have hB := (hSL.at_ _ b hbb).1
    have hpl := (hB.placed hl).1
    have hgk := hg2 k hlt (by omega)
    rw [decide_eq_false (Nat.lt_irrefl k),Bool.false_and] at hgk
    refine Qd (Qd (Qc ?_));refine M0 (Qa J J J) J J ?_;refine M0 (Qa J J J) J J ?_;refine M0 (Qz J J J) J J ?_
    refine M0 (Qf J J J J (by decide)) J J ?_;refine M0 (Qg J J J J J) J J ?_;refine M0 (q_lenr J J J J) J J ?_
    refine M0 (Qr J J J J (by assumption)) J J ?_;refine Qe (Q0 ?_);refine Qm rfl ?_;refine Qh (Q0 (Qd (Qk ?_)))
    refine Qd (Qc ?_);refine M0 (Qa J J J) J J ?_;refine M0 (Qz J J J) J J ?_;refine M0 (Qf J J J J (by decide)) J J ?_
    refine M0 (Qg J J J J J) J J ?_;refine M0 (Qa J J J) J J ?_;refine M0 (Q3 J J J J J (by omega) (by omega)) J J ?_
    have he := at_el hbb
    with_reducible refine Xf ?_
    refine M0 (Q6 J J J J (by assumption) J J) J J ?_
    with_reducible refine K_alloc ?_
    refine M1 (Qx J J J) J J ?_
    with_reducible refine Xe ?_
    refine Qy J J J J J J J J J ?_
    refine Qe ?_
    refine Q0 ?_
    refine AWP.pre (st' := (⟨_,[(0,.o (.c (.ptr 0 0))),(2,I (els w.Scores).length),(3,.o (.c (.ref 5))),(4,.o (.c (.ref 6))),(5,I (((els w.Scores).length + k : Nat) : Int)),(6,.o (.c (.ptr 7 0)))],[.box [.ref 1,jn w.Tick,jn w.Seed,.ref 2,.ref 3],.row 1 (els w.Level.Rows),.row 1 (els ss),.row 9 (els bs),.gh 0 (.c (.ptr 0 0)),.row 9 (els (w.Bodies.take w.Scores.length)),.row 1 (els gl),.box ((Enc.e b).map (V1.rd []))]⟩ : St)) ?_ (W_go [0,1,2,3,4,5,6,7] (by decide) rfl (rfl) (.cons rfl (.cons rfl (.cons rfl (.cons rfl (.cons rfl (.cons rfl (.nil))))))))
    clear he
    by_cases hK : b.Kind = 1
    case neg =>
      have f1 : decide (b.Kind ≠ 1) = true := decide_eq_true hK
      obtain ⟨n1,_,n3⟩ := sh_skip hb hK hs (lf := shL w.Scores.length (w.Bodies.drop w.Scores.length) (w.Bodies,w.Scores) k) rfl
      refine Qd (Qd (Qc ?_));refine M0 (Qf J J J J (by decide)) J J ?_;refine M0 (Qg J J J J J) J J ?_
      refine M0 (Qw J J J J (by assumption)) J J ?_;refine Qe (Q0 ?_);refine Qm rfl ?_;refine Q9 (T_x (B_xs (Q0 ?_)))
      refine Qc ?_;refine M0 (Qa J J J) J J ?_;refine M0 (Qs J J J J (by omega)) J J ?_;refine M0 (Qb J J J) J J ?_;refine Qe ?_
      refine Q0 ?_
      refine ⟨(w.Bodies.drop w.Scores.length).length - (k + 1),(by omega),(fun (k : Nat) (bs : List TBody) (ss : List Int) (gl : List Bool) => (⟨_,[(0,.o (.c (.ptr 0 0))),(2,I (els w.Scores).length),(3,.o (.c (.ref 5))),(4,.o (.c (.ref 6))),(5,I (((els w.Scores).length + k : Nat) : Int))],[.box [.ref 1,jn w.Tick,jn w.Seed,.ref 2,.ref 3],.row 1 (els w.Level.Rows),.row 1 (els ss),.row 9 (els bs),.gh 0 (.c (.ptr 0 0)),.row 9 (els (w.Bodies.take w.Scores.length)),.row 1 (els gl)]⟩ : St)) (k + 1) (bs) (ss) (gl),W_go [0,1,2,3,4,5,6] (by decide) rfl (rfl) (.cons rfl (.cons rfl (.cons rfl (.cons rfl (.cons (I_eq (by omega)) (.nil)))))),k + 1,bs,ss,gl,rfl,⟨by omega,n1,gl_same hgl hg2 (f1_step n3)⟩,rfl⟩
    have f1 : decide (b.Kind ≠ 1) = false := decide_eq_false (fun q => q hK)
    have cm := S_l02Meets ⟨w.Level,w.Tick,w.Seed,ss,bs⟩ b b.Owner (by simp only; omega) (by simp only; omega) (fun j p _ h => ((hSL.at_ j p h).1.placed hl).1) hpl
    simp only [hSs] at cm
    refine Qd (Qd (Qc ?_));refine M0 (Qf J J J J (by decide)) J J ?_;refine M0 (Qg J J J J J) J J ?_
    refine M0 (Qw J J J J (by assumption)) J J ?_;refine Qe (Q0 ?_);refine Ql rfl ?_;refine Qh (Q0 (Qd (Qc ?_)))
    refine M0 (Qa J J J) J J ?_;refine M0 (Qu J J J J J J) J J ?_;refine M0 (Qf J J J J (by decide)) J J ?_
    refine M0 (Qg J J J J J) J J ?_
    refine Xd (lo := [_,_,_,_]) (gs := [(0,.c (.ptr 0 0)),(6,.c (.ref 3))]) (lo' := [_,_,_,_]) (new := []) [0,1,2,3] [(0,0,.ptr 0 0),(1,0,.ref 3)] (cm) J J J J J J J J J J J J J J J J J ?_
    refine M0 (Qb J J J) J J ?_;refine Qe (Q0 (Qd (Qd (Qc ?_))));refine M0 (Qa J J J) J J ?_
    refine M0 (q_lss J J J J) J J ?_;refine Qe (Q0 ?_)
    refine AWP.pre (st' := (⟨_,[(0,.o (.c (.ptr 0 0))),(2,I (els w.Scores).length),(3,.o (.c (.ref 5))),(4,.o (.c (.ref 6))),(5,I (((els w.Scores).length + k : Nat) : Int)),(6,.o (.c (.ptr 7 0))),(7,I (metI bs b b.Owner w.Scores.length)),(56,B (decide (metI bs b b.Owner w.Scores.length < 0)))],[.box [.ref 1,jn w.Tick,jn w.Seed,.ref 2,.ref 3],.row 1 (els w.Level.Rows),.row 1 (els ss),.row 9 (els bs),.gh 0 (.c (.ptr 0 0)),.row 9 (els (w.Bodies.take w.Scores.length)),.row 1 (els gl),.box ((Enc.e b).map (V1.rd []))]⟩ : St)) ?_ (W_go [0,1,2,3,4,5,6,7] (by decide) rfl (rfl) (.cons rfl (.cons rfl (.cons rfl (.cons rfl (.cons rfl (.cons rfl (.cons rfl (.cons rfl (.nil))))))))))
    cases hm : metF bs b b.Owner w.Scores.length with
    | none =>
      obtain ⟨mi,hmi⟩ : ∃ mi : Int,metI bs b b.Owner w.Scores.length = mi := ⟨_,rfl⟩
      rw [hmi]
      rw [met_no hm] at hmi
      have f2 : decide (mi < 0) = true := decide_eq_true (by omega)
      rw [f2]
      obtain ⟨n1,_,n3⟩ := sh_miss hb hm hs (lf := shL w.Scores.length (w.Bodies.drop w.Scores.length) (w.Bodies,w.Scores) k) rfl
      refine Qm rfl ?_;refine Q9 (T_x (B_xs (Q0 (Qc ?_))));refine M0 (Qa J J J) J J ?_
      refine M0 (Qs J J J J (by omega)) J J ?_;refine M0 (Qb J J J) J J ?_;refine Qe (Q0 ?_)
      refine ⟨(w.Bodies.drop w.Scores.length).length - (k + 1),(by omega),(fun (k : Nat) (bs : List TBody) (ss : List Int) (gl : List Bool) => (⟨_,[(0,.o (.c (.ptr 0 0))),(2,I (els w.Scores).length),(3,.o (.c (.ref 5))),(4,.o (.c (.ref 6))),(5,I (((els w.Scores).length + k : Nat) : Int))],[.box [.ref 1,jn w.Tick,jn w.Seed,.ref 2,.ref 3],.row 1 (els w.Level.Rows),.row 1 (els ss),.row 9 (els bs),.gh 0 (.c (.ptr 0 0)),.row 9 (els (w.Bodies.take w.Scores.length)),.row 1 (els gl)]⟩ : St)) (k + 1) (bs) (ss) (gl),W_go [0,1,2,3,4,5,6] (by decide) rfl (rfl) (.cons rfl (.cons rfl (.cons rfl (.cons rfl (.cons (I_eq (by omega)) (.nil)))))),k + 1,bs,ss,gl,rfl,⟨by omega,n1,gl_same hgl hg2 (f1_step n3)⟩,rfl⟩
    | some j =>
      rw [met_I hm]
      have f2 : decide ((j : Int) < 0) = false := decide_eq_false (by omega)
      obtain ⟨hj,hc⟩ := metF_lt hm
      obtain ⟨p,hp,hpl,_,_⟩ := metC_life hc
      have hpB := (hSL.at_ j p hp).1.f
      have hjl := getE_lt hp
      obtain ⟨n1,_,n3⟩ := sh_hit hb hK hm hp hs (lf := shL w.Scores.length (w.Bodies.drop w.Scores.length) (w.Bodies,w.Scores) k) rfl
      have ng := gl_set (k := k) (g := fun i => decide (i < k + 1) && shF w.Scores.length (w.Bodies.drop w.Scores.length) (w.Bodies,w.Scores) i) hgl hg2 (by simp only [n3,Bool.and_true,decide_eq_true_eq]; exact Nat.lt_succ_self k) (fun i hi => f1_ne hi)
      have heg := at_gl hgk
      refine Ql rfl ?_;refine Qh (Q0 (Qd (Qc ?_)));refine M0 (Qa J J J) J J ?_;refine M0 (Qa J J J) J J ?_
      refine M0 (Q3 J J J J J (by omega) (by omega)) J J ?_;refine Xh J J J J J J J J J (by assumption) J J ?_;refine Qe (Q0 ?_)
      refine Qd (Qc ?_);refine M0 (Qa J J J) J J ?_;refine M0 (Qz J J J) J J ?_;refine M0 (Qf J J J J (by decide)) J J ?_
      refine M0 (Qg J J J J J) J J ?_;refine M0 (Qa J J J) J J ?_;refine M0 (Q3 J J J J J (by omega) (by omega)) J J ?_
      refine M0 (q_flde J J J J (by decide)) J J ?_
      refine AL.weak (st' := (⟨_,[(0,.o (.c (.ptr 0 0))),(2,I (els w.Scores).length),(3,.o (.c (.ref 5))),(4,.o (.c (.ref 6))),(5,I (((els w.Scores).length + k : Nat) : Int)),(6,.o (.c (.ptr 7 0))),(7,I (j : Int)),(63,.o (.c (.ref 3))),(64,I (j : Int)),(66,.o (.c (.el 3 9 j 7)))],[.box [.ref 1,jn w.Tick,jn w.Seed,.ref 2,.ref 3],.row 1 (els w.Level.Rows),.row 1 (els ss),.row 9 (els bs),.gh 0 (.c (.ptr 0 0)),.row 9 (els (w.Bodies.take w.Scores.length)),.row 1 (els (gl.set (w.Scores.length + k) true)),.box ((Enc.e b).map (V1.rd []))]⟩ : St)) (W_go [0,1,2,3,4,5,6,7] (by decide) rfl ((by exact rw6g st_gl)) (.cons rfl (.cons rfl (.cons rfl (.cons rfl (.cons rfl (.cons rfl (.cons rfl (.cons rfl (.cons rfl (.cons rfl (.nil)))))))))))) ?_
      clear heg
      have he := els_sm hp
      refine M0 (Q7 J J J J (by assumption) rfl) J J ?_;refine M0 (Xc J J J J (by omega)) J J ?_
      refine M0 (Q3 J J J J J (by omega) (by omega)) J J ?_;refine M0 (q_flde J J J J (by decide)) J J ?_
      refine Xh J J J J J J J J J (by assumption) J J ?_;refine Qe (Q0 (Qd (Qc ?_)));refine M0 (Qa J J J) J J ?_
      refine M0 (Qz J J J) J J ?_;refine M0 (Qf J J J J (by decide)) J J ?_;refine M0 (Qg J J J J J) J J ?_
      refine M0 (Qa J J J) J J ?_
      refine AL.weak (st' := (⟨_,[(0,.o (.c (.ptr 0 0))),(2,I (els w.Scores).length),(3,.o (.c (.ref 5))),(4,.o (.c (.ref 6))),(5,I (((els w.Scores).length + k : Nat) : Int)),(6,.o (.c (.ptr 7 0))),(7,I (j : Int)),(74,.o (.c (.ref 3))),(75,I (j : Int))],[.box [.ref 1,jn w.Tick,jn w.Seed,.ref 2,.ref 3],.row 1 (els w.Level.Rows),.row 1 (els ss),.row 9 (els (bs.set j (lifeM p))),.gh 0 (.c (.ptr 0 0)),.row 9 (els (w.Bodies.take w.Scores.length)),.row 1 (els (gl.set (w.Scores.length + k) true)),.box ((Enc.e b).map (V1.rd []))]⟩ : St)) (W_go [0,1,2,3,4,5,6,7] (by decide) rfl ((by exact rwBo (st_el0 rfl))) (.cons rfl (.cons rfl (.cons rfl (.cons rfl (.cons rfl (.cons rfl (.cons rfl (.cons rfl (.cons rfl (.nil))))))))))) ?_
      clear he
      have he : (els (bs.set j (lifeM p)))[(j : Int).toNat]? = some (Enc.e (lifeM p)) := els_sm (by rw [List.getElem?_set_self hjl])
      have hls2 : (els (bs.set j (lifeM p))).length = bs.length := by rw [els_len,List.length_set]
      by_cases hz : p.Life - 1 = 0
      case neg =>
        have f3 : decide (p.Life - 1 = 0) = false := decide_eq_false hz
        rw [hit_alive hz,if_neg hz] at n1
        refine M0 (Q3 J J J J J (by omega) (by omega)) J J ?_;refine M0 (q_flde J J J J (by decide)) J J ?_
        refine M0 (Q7 J J J J (by assumption) rfl) J J ?_;refine M0 (Qv J J J J (by assumption)) J J ?_;refine Qe (Q0 ?_);refine Ql rfl ?_
        refine Qh (Q1 (Q0 (Qc ?_)));refine M0 (Qa J J J) J J ?_;refine M0 (Qs J J J J (by omega)) J J ?_
        refine M0 (Qb J J J) J J ?_;refine Qe (Q0 ?_)
        refine ⟨(w.Bodies.drop w.Scores.length).length - (k + 1),(by omega),(fun (k : Nat) (bs : List TBody) (ss : List Int) (gl : List Bool) => (⟨_,[(0,.o (.c (.ptr 0 0))),(2,I (els w.Scores).length),(3,.o (.c (.ref 5))),(4,.o (.c (.ref 6))),(5,I (((els w.Scores).length + k : Nat) : Int))],[.box [.ref 1,jn w.Tick,jn w.Seed,.ref 2,.ref 3],.row 1 (els w.Level.Rows),.row 1 (els ss),.row 9 (els bs),.gh 0 (.c (.ptr 0 0)),.row 9 (els (w.Bodies.take w.Scores.length)),.row 1 (els gl)]⟩ : St)) (k + 1) (bs.set j (lifeM p)) (ss) (gl.set (w.Scores.length + k) true),W_go [0,1,2,3,4,5,6] (by decide) rfl (rfl) (.cons rfl (.cons rfl (.cons rfl (.cons rfl (.cons (I_eq (by omega)) (.nil)))))),k + 1,bs.set j (lifeM p),ss,gl.set (w.Scores.length + k) true,rfl,⟨by omega,n1,ng⟩,rfl⟩
      have f3 : decide (p.Life - 1 = 0) = true := decide_eq_true hz
      rw [hit_down hz,if_pos hz] at n1
      have ho := hB.o
      obtain ⟨q,hq⟩ : ∃ q : Nat,b.Owner = q := ⟨b.Owner.toNat,by omega⟩
      obtain ⟨s,hs1⟩ := some_sm (xs := ss) (i := q) (by omega)
      have cp := S_l02Point ⟨w.Level,w.Tick,w.Seed,ss,bs.set j (lifeM p)⟩ q s hs1 (hSc s (List.mem_of_getElem? hs1))
      simp only [← hq] at cp
      rw [hq,Int.toNat_natCast] at n1
      refine M0 (Q3 J J J J J (by omega) (by omega)) J J ?_;refine M0 (q_flde J J J J (by decide)) J J ?_
      refine M0 (Q7 J J J J (by assumption) rfl) J J ?_;refine M0 (Qv J J J J (by assumption)) J J ?_;refine Qe (Q0 ?_);refine Qm rfl ?_
      refine Qd (Qc ?_);refine M0 (Qa J J J) J J ?_;refine M0 (Qf J J J J (by decide)) J J ?_;refine M0 (Qg J J J J J) J J ?_
      refine Xd (lo := [_,_,_,_]) (gs := [(0,.c (.ptr 0 0)),(5,.c (.ref 3))]) (lo' := [_,_,_,_]) (new := []) [0,1,2,3] [(0,0,.ptr 0 0),(1,0,.ref 3)] (cp) J J J J J J J J J J J J J J J J J ?_
      refine Qe (Q0 (Qd (Qc ?_)));refine M0 (Qa J J J) J J ?_;refine M0 (Qz J J J) J J ?_
      refine M0 (Qf J J J J (by decide)) J J ?_;refine M0 (Qg J J J J J) J J ?_;refine M0 (Qa J J J) J J ?_
      refine M0 (Q3 J J J J J (by omega) (by omega)) J J ?_;refine M0 (q_flde J J J J (by decide)) J J ?_
      refine Xh J J J J J J J J J (by assumption) J J ?_;refine Qe (Q0 (Qd (Qc ?_)));refine M0 (Qa J J J) J J ?_
      refine M0 (Qz J J J) J J ?_;refine M0 (Qf J J J J (by decide)) J J ?_;refine M0 (Qg J J J J J) J J ?_
      refine M0 (Qa J J J) J J ?_
      refine AL.weak (st' := (⟨_,[(0,.o (.c (.ptr 0 0))),(2,I (els w.Scores).length),(3,.o (.c (.ref 5))),(4,.o (.c (.ref 6))),(5,I (((els w.Scores).length + k : Nat) : Int)),(6,.o (.c (.ptr 7 0))),(7,I (j : Int)),(94,.o (.c (.ref 3))),(95,I (j : Int))],[.box [.ref 1,jn w.Tick,jn w.Seed,.ref 2,.ref 3],.row 1 (els w.Level.Rows),.row 1 (els (addM ss q)),.row 9 (els (bs.set j (stopX p))),.gh 0 (.c (.ptr 0 0)),.row 9 (els (w.Bodies.take w.Scores.length)),.row 1 (els (gl.set (w.Scores.length + k) true)),.box ((Enc.e b).map (V1.rd []))]⟩ : St)) (W_go [0,1,2,3,4,5,6,7] (by decide) rfl ((by exact rwBo (st_el rfl))) (.cons rfl (.cons rfl (.cons rfl (.cons rfl (.cons rfl (.cons rfl (.cons rfl (.cons rfl (.cons rfl (.nil))))))))))) ?_
      clear he
      have he : (els (bs.set j (stopX p)))[(j : Int).toNat]? = some (Enc.e (stopX p)) := els_sm (by rw [List.getElem?_set_self hjl])
      have hls3 : (els (bs.set j (stopX p))).length = bs.length := by rw [els_len,List.length_set]
      have hls4 : (els (bs.set j (stopY p))).length = bs.length := by rw [els_len,List.length_set]
      refine M0 (Q3 J J J J J (by omega) (by omega)) J J ?_;refine M0 (q_flde J J J J (by decide)) J J ?_
      refine Xh J J J J J J J J J (by assumption) J J ?_;refine Qe (Q0 (Qc ?_));refine M0 (Qa J J J) J J ?_
      refine M0 (Qz J J J) J J ?_;refine M0 (Qf J J J J (by decide)) J J ?_;refine M0 (Qg J J J J J) J J ?_
      refine M0 (Qa J J J) J J ?_
      refine AL.weak (st' := (⟨_,[(0,.o (.c (.ptr 0 0))),(2,I (els w.Scores).length),(3,.o (.c (.ref 5))),(4,.o (.c (.ref 6))),(5,I (((els w.Scores).length + k : Nat) : Int)),(6,.o (.c (.ptr 7 0))),(7,I (j : Int)),(101,.o (.c (.ref 3))),(102,I (j : Int))],[.box [.ref 1,jn w.Tick,jn w.Seed,.ref 2,.ref 3],.row 1 (els w.Level.Rows),.row 1 (els (addM ss q)),.row 9 (els (bs.set j (stopY p))),.gh 0 (.c (.ptr 0 0)),.row 9 (els (w.Bodies.take w.Scores.length)),.row 1 (els (gl.set (w.Scores.length + k) true)),.box ((Enc.e b).map (V1.rd []))]⟩ : St)) (W_go [0,1,2,3,4,5,6,7] (by decide) rfl ((by exact rwBo (st_el rfl))) (.cons rfl (.cons rfl (.cons rfl (.cons rfl (.cons rfl (.cons rfl (.cons rfl (.cons rfl (.cons rfl (.nil))))))))))) ?_
      clear he
      have he : (els (bs.set j (stopY p)))[(j : Int).toNat]? = some (Enc.e (stopY p)) := els_sm (by rw [List.getElem?_set_self hjl])
      refine M0 (Q3 J J J J J (by omega) (by omega)) J J ?_;refine M0 (q_flde J J J J (by decide)) J J ?_
      refine Xh J J J J J J J J J (by assumption) J J ?_;refine Qe (Q1 (Q0 (Qc ?_)));refine M0 (Qa J J J) J J ?_
      refine M0 (Qs J J J J (by omega)) J J ?_;refine M0 (Qb J J J) J J ?_;refine Qe (Q0 ?_)
      refine ⟨(w.Bodies.drop w.Scores.length).length - (k + 1),(by omega),(fun (k : Nat) (bs : List TBody) (ss : List Int) (gl : List Bool) => (⟨_,[(0,.o (.c (.ptr 0 0))),(2,I (els w.Scores).length),(3,.o (.c (.ref 5))),(4,.o (.c (.ref 6))),(5,I (((els w.Scores).length + k : Nat) : Int))],[.box [.ref 1,jn w.Tick,jn w.Seed,.ref 2,.ref 3],.row 1 (els w.Level.Rows),.row 1 (els ss),.row 9 (els bs),.gh 0 (.c (.ptr 0 0)),.row 9 (els (w.Bodies.take w.Scores.length)),.row 1 (els gl)]⟩ : St)) (k + 1) (bs.set j (downM p)) (addM ss q) (gl.set (w.Scores.length + k) true),W_go [0,1,2,3,4,5,6] (by decide) rfl ((by exact rwBo (st_el rfl))) (.cons rfl (.cons rfl (.cons rfl (.cons rfl (.cons (I_eq (by omega)) (.nil)))))),k + 1,bs.set j (downM p),addM ss q,gl.set (w.Scores.length + k) true,rfl,⟨by omega,n1,ng⟩,rfl⟩
  have hb0 : decide ((((els w.Scores).length + k : Nat) : Int) < (els bs).length) = false := decide_eq_false (by omega)
  have hk : k = (w.Bodies.drop w.Scores.length).length := by omega
  have hg3 : ∀ i,i < (w.Bodies.drop w.Scores.length).length → w.Scores.length + i < w.Bodies.length → gl[w.Scores.length + i]? = some (shF w.Scores.length (w.Bodies.drop w.Scores.length) (w.Bodies,w.Scores) i || (decide (i < 0) && itF w.Scores.length (w.Bodies.drop w.Scores.length) bs i)) := fun i h1 h2 => by
    rw [hg2 i h1 h2,decide_eq_true (by omega : i < k)]; simp
  rw [hk] at hs
  clear hg2
  refine Qd (Qd (Qc ?_));refine M0 (Qa J J J) J J ?_;refine M0 (Qa J J J) J J ?_;refine M0 (Qz J J J) J J ?_
  refine M0 (Qf J J J J (by decide)) J J ?_;refine M0 (Qg J J J J J) J J ?_;refine M0 (q_lenr J J J J) J J ?_
  refine M0 (Qr J J J J (by assumption)) J J ?_;refine Qe (Q0 ?_);refine Ql rfl ?_;refine Q9 (T_x (T_x (B_xs (Q0 ?_))))
  refine Qd (Qd (Qc ?_));refine M0 (Qa J J J) J J ?_;refine M0 (Qb J J J) J J ?_;refine Qe (Q0 (Qk ?_))
  refine A_loop (fun m__ st => ∃ (i : Nat) (s2 : List Int) (g2 : List Bool),(w.Bodies.drop w.Scores.length).length - i = m__ ∧ (i ≤ (w.Bodies.drop w.Scores.length).length ∧ s2 = itS w.Scores.length bs (w.Bodies.drop w.Scores.length) ss i ∧ (g2.length = w.Bodies.length ∧ ∀ j,j < (w.Bodies.drop w.Scores.length).length → w.Scores.length + j < w.Bodies.length → g2[w.Scores.length + j]? = some (shF w.Scores.length (w.Bodies.drop w.Scores.length) (w.Bodies,w.Scores) j || (decide (j < i) && itF w.Scores.length (w.Bodies.drop w.Scores.length) bs j)))) ∧ st = (fun (i : Nat) (s2 : List Int) (g2 : List Bool) => (⟨_,[(0,.o (.c (.ptr 0 0))),(2,I (els w.Scores).length),(3,.o (.c (.ref 5))),(4,.o (.c (.ref 6))),(8,I (((els w.Scores).length + i : Nat) : Int))],[.box [.ref 1,jn w.Tick,jn w.Seed,.ref 2,.ref 3],.row 1 (els w.Level.Rows),.row 1 (els s2),.row 9 (els bs),.gh 0 (.c (.ptr 0 0)),.row 9 (els (w.Bodies.take w.Scores.length)),.row 1 (els g2)]⟩ : St)) (i) (s2) (g2)) ((fun (i : Nat) (s2 : List Int) (g2 : List Bool) => (w.Bodies.drop w.Scores.length).length - i) (0) (ss) (gl)) ⟨(fun (i : Nat) (s2 : List Int) (g2 : List Bool) => (⟨_,[(0,.o (.c (.ptr 0 0))),(2,I (els w.Scores).length),(3,.o (.c (.ref 5))),(4,.o (.c (.ref 6))),(8,I (((els w.Scores).length + i : Nat) : Int))],[.box [.ref 1,jn w.Tick,jn w.Seed,.ref 2,.ref 3],.row 1 (els w.Level.Rows),.row 1 (els s2),.row 9 (els bs),.gh 0 (.c (.ptr 0 0)),.row 9 (els (w.Bodies.take w.Scores.length)),.row 1 (els g2)]⟩ : St)) (0) (ss) (gl),W_go [0,1,2,3,4,5,6] (by decide) rfl (rfl) (.cons rfl (.cons rfl (.cons rfl (.cons rfl (.cons (I_eq (by omega)) (.nil)))))),0,ss,gl,rfl,⟨by omega,rfl,hgl,hg3⟩,rfl⟩ ?_
  rintro m_B _ ⟨i,s2,g2,hk_B,hp_B,rfl⟩
  obtain ⟨hi,hs2,hgl2,hgi⟩ := hp_B
  have hSs2 : s2.length = w.Scores.length := by rw [hs2]; exact (itS_ok hSs hSc).1
  have hSc2 : ∀ x ∈ s2,0 ≤ x ∧ x ≤ 1000000 := by rw [hs2]; exact (itS_ok hSs hSc).2
  have hlgl2 := els_len g2
  clear hb0 hgl hg3
  by_cases hlt : i < (w.Bodies.drop w.Scores.length).length
  · have hb0 : decide ((((els w.Scores).length + i : Nat) : Int) < (els bs).length) = true := decide_eq_true (by omega)
    obtain ⟨b,hb⟩ := some_sm hlt
    have hbb : bs[w.Scores.length + i]? = some b := by rw [hSt _ (by omega),← List.getElem?_drop]; exact hb
    have hB := (hSL.at_ _ b hbb).1
    have hpl := (hB.placed hl).1
    obtain ⟨g0,hgk⟩ := some_sm (xs := g2) (i := w.Scores.length + i) (by omega)
    have heg := at_gl hgk
    have he := at_el hbb
    by_cases hK : b.Kind = 2
    case neg =>
      have f1 : decide (b.Kind ≠ 2) = true := decide_eq_true hK
      obtain ⟨n1,_,n3⟩ := it_skip hb hK hs2 (lf := itL w.Scores.length bs (w.Bodies.drop w.Scores.length) i) rfl
      refine Qd (Qd (Qc ?_));refine M0 (Qa J J J) J J ?_;refine M0 (Qa J J J) J J ?_;refine M0 (Qz J J J) J J ?_
      refine M0 (Qf J J J J (by decide)) J J ?_;refine M0 (Qg J J J J J) J J ?_;refine M0 (q_lenr J J J J) J J ?_
      refine M0 (Qr J J J J (by assumption)) J J ?_;refine Qe (Q0 ?_);refine Qm rfl ?_;refine Qh (Q0 (Qd (Qk ?_)))
      refine Qd (Qd (Qc ?_));refine M0 (Qa J J J) J J ?_;refine M0 (Qz J J J) J J ?_
      refine M0 (Qf J J J J (by decide)) J J ?_;refine M0 (Qg J J J J J) J J ?_;refine M0 (Qa J J J) J J ?_
      refine M0 (Q3 J J J J J (by omega) (by omega)) J J ?_;refine M0 (q_flde J J J J (by decide)) J J ?_
      refine M0 (Q7 J J J J (by assumption) rfl) J J ?_;refine M0 (Qw J J J J (by assumption)) J J ?_;refine Qe (Q0 ?_);refine Qm rfl ?_
      refine Q9 (T_x (B_xs (Q0 (Qc ?_))));refine M0 (Qa J J J) J J ?_;refine M0 (Qs J J J J (by omega)) J J ?_
      refine M0 (Qb J J J) J J ?_;refine Qe (Q0 ?_)
      refine ⟨(w.Bodies.drop w.Scores.length).length - (i + 1),(by omega),(fun (i : Nat) (s2 : List Int) (g2 : List Bool) => (⟨_,[(0,.o (.c (.ptr 0 0))),(2,I (els w.Scores).length),(3,.o (.c (.ref 5))),(4,.o (.c (.ref 6))),(8,I (((els w.Scores).length + i : Nat) : Int))],[.box [.ref 1,jn w.Tick,jn w.Seed,.ref 2,.ref 3],.row 1 (els w.Level.Rows),.row 1 (els s2),.row 9 (els bs),.gh 0 (.c (.ptr 0 0)),.row 9 (els (w.Bodies.take w.Scores.length)),.row 1 (els g2)]⟩ : St)) (i + 1) (s2) (g2),W_go [0,1,2,3,4,5,6] (by decide) rfl (rfl) (.cons rfl (.cons rfl (.cons rfl (.cons rfl (.cons (I_eq (by omega)) (.nil)))))),i + 1,s2,g2,rfl,⟨by omega,n1,gl_same hgl2 hgi (f2_step (by rw [itF_at hb]; exact n3))⟩,rfl⟩
    have f1 : decide (b.Kind ≠ 2) = false := decide_eq_false (fun q => q hK)
    have cm := S_l02Meets ⟨w.Level,w.Tick,w.Seed,s2,bs⟩ b (-1) (by simp only; omega) (by simp only; omega) (fun j p _ h => ((hSL.at_ j p h).1.placed hl).1) hpl
    simp only [hSs2] at cm
    refine Qd (Qd (Qc ?_));refine M0 (Qa J J J) J J ?_;refine M0 (Qa J J J) J J ?_;refine M0 (Qz J J J) J J ?_
    refine M0 (Qf J J J J (by decide)) J J ?_;refine M0 (Qg J J J J J) J J ?_;refine M0 (q_lenr J J J J) J J ?_
    refine M0 (Qr J J J J (by assumption)) J J ?_;refine Qe (Q0 ?_);refine Qm rfl ?_;refine Qh (Q0 (Qd (Qk ?_)))
    refine Qd (Qd (Qc ?_));refine M0 (Qa J J J) J J ?_;refine M0 (Qz J J J) J J ?_
    refine M0 (Qf J J J J (by decide)) J J ?_;refine M0 (Qg J J J J J) J J ?_;refine M0 (Qa J J J) J J ?_
    refine M0 (Q3 J J J J J (by omega) (by omega)) J J ?_;refine M0 (q_flde J J J J (by decide)) J J ?_
    refine M0 (Q7 J J J J (by assumption) rfl) J J ?_;refine M0 (Qw J J J J (by assumption)) J J ?_;refine Qe (Q0 ?_);refine Ql rfl ?_
    refine Qh (Q0 (Qd (Qc ?_)));refine M0 (Qa J J J) J J ?_;refine M0 (Qa J J J) J J ?_
    refine M0 (Qz J J J) J J ?_;refine M0 (Qf J J J J (by decide)) J J ?_;refine M0 (Qg J J J J J) J J ?_
    refine M0 (Qa J J J) J J ?_;refine M0 (Q3 J J J J J (by omega) (by omega)) J J ?_;refine M0 (Q6 J J J J (by assumption) J J) J J ?_
    refine Xd (lo := [_,_,_,_]) (gs := [(0,.c (.ptr 0 0)),(6,.c (.ref 3))]) (lo' := [_,_,_,_]) (new := []) [0,1,2,3] [(0,0,.ptr 0 0),(1,0,.ref 3)] (cm) J J J J J J J J J J J J J J J J J ?_
    refine M0 (Qb J J J) J J ?_;refine Qe (Q0 (Qd (Qc ?_)));refine M0 (Qa J J J) J J ?_
    refine M0 (q_geq J J J J) J J ?_;refine Qe (Q0 ?_)
    refine AWP.pre (st' := (⟨_,[(0,.o (.c (.ptr 0 0))),(2,I (els w.Scores).length),(3,.o (.c (.ref 5))),(4,.o (.c (.ref 6))),(8,I (((els w.Scores).length + i : Nat) : Int)),(9,I (metI bs b (-1) w.Scores.length)),(134,B (decide (metI bs b (-1) w.Scores.length ≥ 0)))],[.box [.ref 1,jn w.Tick,jn w.Seed,.ref 2,.ref 3],.row 1 (els w.Level.Rows),.row 1 (els s2),.row 9 (els bs),.gh 0 (.c (.ptr 0 0)),.row 9 (els (w.Bodies.take w.Scores.length)),.row 1 (els g2)]⟩ : St)) ?_ (W_go [0,1,2,3,4,5,6] (by decide) rfl (rfl) (.cons rfl (.cons rfl (.cons rfl (.cons rfl (.cons rfl (.cons rfl (.cons rfl (.nil)))))))))
    cases hm : metF bs b (-1) w.Scores.length with
    | none =>
      obtain ⟨mi,hmi⟩ : ∃ mi : Int,metI bs b (-1) w.Scores.length = mi := ⟨_,rfl⟩
      rw [hmi]
      rw [met_no hm] at hmi
      have f2 : decide (mi ≥ 0) = false := decide_eq_false (by omega)
      rw [f2]
      obtain ⟨n1,_,n3⟩ := it_miss hb hm hs2 (lf := itL w.Scores.length bs (w.Bodies.drop w.Scores.length) i) rfl
      refine Ql rfl ?_;refine Qh (Q1 (Q0 (Qc ?_)));refine M0 (Qa J J J) J J ?_;refine M0 (Qs J J J J (by omega)) J J ?_
      refine M0 (Qb J J J) J J ?_;refine Qe (Q0 ?_)
      refine ⟨(w.Bodies.drop w.Scores.length).length - (i + 1),(by omega),(fun (i : Nat) (s2 : List Int) (g2 : List Bool) => (⟨_,[(0,.o (.c (.ptr 0 0))),(2,I (els w.Scores).length),(3,.o (.c (.ref 5))),(4,.o (.c (.ref 6))),(8,I (((els w.Scores).length + i : Nat) : Int))],[.box [.ref 1,jn w.Tick,jn w.Seed,.ref 2,.ref 3],.row 1 (els w.Level.Rows),.row 1 (els s2),.row 9 (els bs),.gh 0 (.c (.ptr 0 0)),.row 9 (els (w.Bodies.take w.Scores.length)),.row 1 (els g2)]⟩ : St)) (i + 1) (s2) (g2),W_go [0,1,2,3,4,5,6] (by decide) rfl (rfl) (.cons rfl (.cons rfl (.cons rfl (.cons rfl (.cons (I_eq (by omega)) (.nil)))))),i + 1,s2,g2,rfl,⟨by omega,n1,gl_same hgl2 hgi (f2_step (by rw [itF_at hb]; exact n3))⟩,rfl⟩
    | some j =>
      rw [met_I hm]
      have f2 : decide ((j : Int) ≥ 0) = true := decide_eq_true (by omega)
      obtain ⟨hj,hc⟩ := metF_lt hm
      obtain ⟨s,hs1⟩ := some_sm (xs := s2) (i := j) (by omega)
      have cp := S_l02Point ⟨w.Level,w.Tick,w.Seed,s2,bs⟩ j s hs1 (hSc2 s (List.mem_of_getElem? hs1))
      simp only at cp
      obtain ⟨n1,_,n3⟩ := it_hit hb hK hm hs2 (lf := itL w.Scores.length bs (w.Bodies.drop w.Scores.length) i) rfl
      have ng := gl_set (k := i) (g := fun j => shF w.Scores.length (w.Bodies.drop w.Scores.length) (w.Bodies,w.Scores) j || (decide (j < i + 1) && itF w.Scores.length (w.Bodies.drop w.Scores.length) bs j)) hgl2 hgi (by simp only [itF_at hb,n3,Bool.and_true]; rw [decide_eq_true (Nat.lt_succ_self i),Bool.or_true]) (fun j hj => f2_ne hj)
      refine Qm rfl ?_;refine Qd (Qc ?_);refine M0 (Qa J J J) J J ?_;refine M0 (Qa J J J) J J ?_
      refine M0 (Q3 J J J J J (by omega) (by omega)) J J ?_;refine Xh J J J J J J J J J (by assumption) J J ?_;refine Qe (Q0 ?_)
      refine Qc ?_;refine M0 (Qa J J J) J J ?_;refine M0 (Qa J J J) J J ?_
      refine Xd (lo := [_,_,_,_]) (gs := [(0,.c (.ptr 0 0)),(5,.c (.ref 3))]) (lo' := [_,_,_,_]) (new := []) [0,1,2,3] [(0,0,.ptr 0 0),(1,0,.ref 3)] (cp) J J J J J J J J J J J J J J J J J ?_
      refine Qe (Q1 (Q0 (Qc ?_)));refine M0 (Qa J J J) J J ?_;refine M0 (Qs J J J J (by omega)) J J ?_
      refine M0 (Qb J J J) J J ?_;refine Qe (Q0 ?_)
      refine ⟨(w.Bodies.drop w.Scores.length).length - (i + 1),(by omega),(fun (i : Nat) (s2 : List Int) (g2 : List Bool) => (⟨_,[(0,.o (.c (.ptr 0 0))),(2,I (els w.Scores).length),(3,.o (.c (.ref 5))),(4,.o (.c (.ref 6))),(8,I (((els w.Scores).length + i : Nat) : Int))],[.box [.ref 1,jn w.Tick,jn w.Seed,.ref 2,.ref 3],.row 1 (els w.Level.Rows),.row 1 (els s2),.row 9 (els bs),.gh 0 (.c (.ptr 0 0)),.row 9 (els (w.Bodies.take w.Scores.length)),.row 1 (els g2)]⟩ : St)) (i + 1) (addM s2 j) (g2.set (w.Scores.length + i) true),W_go [0,1,2,3,4,5,6] (by decide) rfl ((by exact rw6g st_gl)) (.cons rfl (.cons rfl (.cons rfl (.cons rfl (.cons (I_eq (by omega)) (.nil)))))),i + 1,addM s2 j,g2.set (w.Scores.length + i) true,rfl,⟨by omega,n1,ng⟩,rfl⟩
  have hb0 : decide ((((els w.Scores).length + i : Nat) : Int) < (els bs).length) = false := decide_eq_false (by omega)
  have hi2 : i = (w.Bodies.drop w.Scores.length).length := by omega
  rw [hi2] at hs2
  have hg4 : ∀ j,j < (w.Bodies.drop w.Scores.length).length → g2[w.Scores.length + j]? = some (shF w.Scores.length (w.Bodies.drop w.Scores.length) (w.Bodies,w.Scores) j || itF w.Scores.length (w.Bodies.drop w.Scores.length) bs j) := fun j h1 => by
    rw [hgi j h1 (by omega),decide_eq_true (by omega : j < i)]; simp
  have hlk : (els (w.Bodies.take w.Scores.length)).length = w.Scores.length := by rw [els_len,List.length_take]; omega
  have hcl : ((els bs).take ((els w.Scores).length : Int).toNat).length = (els (w.Bodies.take w.Scores.length)).length := by rw [hlk,List.length_take,Int.toNat_natCast]; omega
  refine Qd (Qd (Qc ?_));refine M0 (Qa J J J) J J ?_;refine M0 (Qa J J J) J J ?_;refine M0 (Qz J J J) J J ?_
  refine M0 (Qf J J J J (by decide)) J J ?_;refine M0 (Qg J J J J J) J J ?_;refine M0 (q_lenr J J J J) J J ?_
  refine M0 (Qr J J J J (by assumption)) J J ?_;refine Qe (Q0 ?_);refine Ql rfl ?_;refine Q9 (T_x (T_x (B_xs (Q0 ?_))))
  refine Qd (Qc ?_);refine M0 (Qa J J J) J J ?_;refine M0 (Qa J J J) J J ?_;refine M0 (Qz J J J) J J ?_
  refine M0 (Qf J J J J (by decide)) J J ?_;refine M0 (Qg J J J J J) J J ?_;refine M0 (Qa J J J) J J ?_
  refine M0 (q_partr0 J J J J J J (by omega)) J J ?_
  refine M_copy J J J J J J J J J J (fun e he => els_pl9 _ e (List.mem_of_mem_take he)) (fun e he => els_k9 _ e (List.mem_of_mem_take he)) hcl (by omega) ?_
  refine Qe (Q0 (Qd (Qd (Qc ?_))));refine M0 (Qa J J J) J J ?_;refine M0 (Qb J J J) J J ?_;refine Qe ?_
  refine Q0 (Qk ?_)
  refine A_loop (fun m__ st => ∃ (j : Nat) (kr : List TBody),(w.Bodies.drop w.Scores.length).length - j = m__ ∧ (j ≤ (w.Bodies.drop w.Scores.length).length ∧ kr = keepR w.Scores.length (w.Bodies.drop w.Scores.length) (w.Bodies,w.Scores) bs j) ∧ st = (fun (j : Nat) (kr : List TBody) => (⟨_,[(0,.o (.c (.ptr 0 0))),(2,I (els w.Scores).length),(3,.o (.c (.ref 5))),(4,.o (.c (.ref 6))),(10,I (((els w.Scores).length + j : Nat) : Int))],[.box [.ref 1,jn w.Tick,jn w.Seed,.ref 2,.ref 3],.row 1 (els w.Level.Rows),.row 1 (els s2),.row 9 (els bs),.gh 0 (.c (.ptr 0 0)),.row 9 (els (bs.take w.Scores.length ++ kr)),.row 1 (els g2)]⟩ : St)) (j) (kr)) ((fun (j : Nat) (kr : List TBody) => (w.Bodies.drop w.Scores.length).length - j) (0) ([])) ⟨(fun (j : Nat) (kr : List TBody) => (⟨_,[(0,.o (.c (.ptr 0 0))),(2,I (els w.Scores).length),(3,.o (.c (.ref 5))),(4,.o (.c (.ref 6))),(10,I (((els w.Scores).length + j : Nat) : Int))],[.box [.ref 1,jn w.Tick,jn w.Seed,.ref 2,.ref 3],.row 1 (els w.Level.Rows),.row 1 (els s2),.row 9 (els bs),.gh 0 (.c (.ptr 0 0)),.row 9 (els (bs.take w.Scores.length ++ kr)),.row 1 (els g2)]⟩ : St)) (0) ([]),W_go [0,1,2,3,4,5,6] (by decide) rfl ((by exact rw6 (by rw [List.append_nil,els_takeE2,hls,Int.toNat_natCast]))) (.cons rfl (.cons rfl (.cons rfl (.cons rfl (.cons (I_eq (by omega)) (.nil)))))),0,[],rfl,⟨by omega,rfl⟩,rfl⟩ ?_
  rintro m_C _ ⟨j,kr,hk_C,hp_C,rfl⟩
  obtain ⟨hj,hkr⟩ := hp_C
  have hlkr : (els (bs.take w.Scores.length ++ kr)).length = w.Scores.length + kr.length := by rw [els_len,List.length_append,List.length_take]; omega
  have hkl : kr.length ≤ j := by rw [hkr]; exact keepR_le j
  clear hb0
  by_cases hlt : j < (w.Bodies.drop w.Scores.length).length
  · have hb0 : decide ((((els w.Scores).length + j : Nat) : Int) < (els bs).length) = true := decide_eq_true (by omega)
    obtain ⟨b,hb⟩ := some_sm hlt
    have hbb : bs[w.Scores.length + j]? = some b := by rw [hSt _ (by omega),← List.getElem?_drop]; exact hb
    have hgj := hg4 j hlt
    have hnx : keepR w.Scores.length (w.Bodies.drop w.Scores.length) (w.Bodies,w.Scores) bs (j + 1) = if (shF w.Scores.length (w.Bodies.drop w.Scores.length) (w.Bodies,w.Scores) j || itF w.Scores.length (w.Bodies.drop w.Scores.length) bs j) = true then kr else kr ++ [b] := by
      rw [keepR,hb,hkr,itF,hb]
    have he := at_el hbb
    cases hf : (shF w.Scores.length (w.Bodies.drop w.Scores.length) (w.Bodies,w.Scores) j || itF w.Scores.length (w.Bodies.drop w.Scores.length) bs j) with
    | true =>
      rw [hf] at hgj hnx
      have heg := at_gl hgj
      refine Qd (Qd (Qc ?_));refine M0 (Qa J J J) J J ?_;refine M0 (Qa J J J) J J ?_;refine M0 (Qz J J J) J J ?_
      refine M0 (Qf J J J J (by decide)) J J ?_;refine M0 (Qg J J J J J) J J ?_;refine M0 (q_lenr J J J J) J J ?_
      refine M0 (Qr J J J J (by assumption)) J J ?_;refine Qe (Q0 ?_);refine Qm rfl ?_;refine Qh (Q0 (Qd (Qk ?_)))
      refine Qd (Qc ?_);refine M0 (Qa J J J) J J ?_;refine M0 (Qa J J J) J J ?_
      refine M0 (Q3 J J J J J (by omega) (by omega)) J J ?_;refine M0 (Q7 J J J J (by assumption) rfl) J J ?_;refine M0 (Q4 J J J) J J ?_
      refine Qe (Q0 ?_);refine Ql rfl ?_;refine Qh (Q1 (Q0 (Qc ?_)));refine M0 (Qa J J J) J J ?_
      refine M0 (Qs J J J J (by omega)) J J ?_;refine M0 (Qb J J J) J J ?_;refine Qe (Q0 ?_)
      refine ⟨(w.Bodies.drop w.Scores.length).length - (j + 1),(by omega),(fun (j : Nat) (kr : List TBody) => (⟨_,[(0,.o (.c (.ptr 0 0))),(2,I (els w.Scores).length),(3,.o (.c (.ref 5))),(4,.o (.c (.ref 6))),(10,I (((els w.Scores).length + j : Nat) : Int))],[.box [.ref 1,jn w.Tick,jn w.Seed,.ref 2,.ref 3],.row 1 (els w.Level.Rows),.row 1 (els s2),.row 9 (els bs),.gh 0 (.c (.ptr 0 0)),.row 9 (els (bs.take w.Scores.length ++ kr)),.row 1 (els g2)]⟩ : St)) (j + 1) (kr),W_go [0,1,2,3,4,5,6] (by decide) rfl (rfl) (.cons rfl (.cons rfl (.cons rfl (.cons rfl (.cons (I_eq (by omega)) (.nil)))))),j + 1,kr,rfl,⟨by omega,hnx.symm⟩,rfl⟩
    | false =>
      rw [hf] at hgj hnx
      have heg := at_gl hgj
      refine Qd (Qd (Qc ?_));refine M0 (Qa J J J) J J ?_;refine M0 (Qa J J J) J J ?_;refine M0 (Qz J J J) J J ?_
      refine M0 (Qf J J J J (by decide)) J J ?_;refine M0 (Qg J J J J J) J J ?_;refine M0 (q_lenr J J J J) J J ?_
      refine M0 (Qr J J J J (by assumption)) J J ?_;refine Qe (Q0 ?_);refine Qm rfl ?_;refine Qh (Q0 (Qd (Qk ?_)))
      refine Qd (Qc ?_);refine M0 (Qa J J J) J J ?_;refine M0 (Qa J J J) J J ?_
      refine M0 (Q3 J J J J J (by omega) (by omega)) J J ?_;refine M0 (Q7 J J J J (by assumption) rfl) J J ?_;refine M0 (Q4 J J J) J J ?_
      refine Qe (Q0 ?_);refine Qm rfl ?_;refine Qc ?_;refine M0 (Qa J J J) J J ?_;refine M0 (Qa J J J) J J ?_
      refine M0 (Qz J J J) J J ?_;refine M0 (Qf J J J J (by decide)) J J ?_;refine M0 (Qg J J J J J) J J ?_
      refine M0 (Qa J J J) J J ?_;refine M0 (Q3 J J J J J (by omega) (by omega)) J J ?_;refine M0 (Q6 J J J J (by assumption) J J) J J ?_
      refine M1 (q_bslice J J J J J J) J J ?_;refine M_appo J J J J J J J J J J J J J J (by omega) (by omega) ?_
      refine M0 (Qb J J J) J J ?_;refine Qe (Q1 (Q0 (Qc ?_)));refine M0 (Qa J J J) J J ?_
      refine M0 (Qs J J J J (by omega)) J J ?_;refine M0 (Qb J J J) J J ?_;refine Qe (Q0 ?_)
      refine ⟨(w.Bodies.drop w.Scores.length).length - (j + 1),(by omega),(fun (j : Nat) (kr : List TBody) => (⟨_,[(0,.o (.c (.ptr 0 0))),(2,I (els w.Scores).length),(3,.o (.c (.ref 5))),(4,.o (.c (.ref 6))),(10,I (((els w.Scores).length + j : Nat) : Int))],[.box [.ref 1,jn w.Tick,jn w.Seed,.ref 2,.ref 3],.row 1 (els w.Level.Rows),.row 1 (els s2),.row 9 (els bs),.gh 0 (.c (.ptr 0 0)),.row 9 (els (bs.take w.Scores.length ++ kr)),.row 1 (els g2)]⟩ : St)) (j + 1) (kr ++ [b]),W_go [0,1,2,3,4,5,6] (by decide) rfl ((by exact rw6 (by rw [← List.append_assoc,els_app]; rfl))) (.cons rfl (.cons rfl (.cons rfl (.cons rfl (.cons (I_eq (by omega)) (.nil)))))),j + 1,kr ++ [b],rfl,⟨by omega,hnx.symm⟩,rfl⟩
  have hb0 : decide ((((els w.Scores).length + j : Nat) : Int) < (els bs).length) = false := decide_eq_false (by omega)
  have hj2 : j = (w.Bodies.drop w.Scores.length).length := by omega
  rw [hj2] at hkr
  have hres : hitsR w.Scores.length w.Bodies w.Scores = (bs.take w.Scores.length ++ kr,s2) := by
    simp only [hitsR,← hs]
    rw [← hkr,← hs2]
  rw [hres]
  refine Qd (Qd (Qc ?_));refine M0 (Qa J J J) J J ?_;refine M0 (Qa J J J) J J ?_;refine M0 (Qz J J J) J J ?_
  refine M0 (Qf J J J J (by decide)) J J ?_;refine M0 (Qg J J J J J) J J ?_;refine M0 (q_lenr J J J J) J J ?_
  refine M0 (Qr J J J J (by assumption)) J J ?_;refine Qe (Q0 ?_);refine Ql rfl ?_;refine Q9 (T_x (T_x (B_xs (Q0 ?_))))
  refine Qc ?_;refine M0 (Qa J J J) J J ?_;refine M0 (Qa J J J) J J ?_;refine M0 (Qz J J J) J J ?_
  refine M0 (Qf J J J J (by decide)) J J ?_;refine Q5 J J J J J J J J ?_;refine Qe (F_n ?_)
  exact E_none rfl (W_end [0,1,2,5,4] (by decide) J J J)
end Go.Proofs.Ytmljakmaffbnlaa
end

section
set_option linter.unusedSimpArgs false
set_option linter.unusedVariables false
set_option maxRecDepth 8000
namespace Go.Proofs.Ytmljakmaffbnlaa
open Go.RowKit

def itemB (x y : Int) : TBody := ⟨2,0,x,y,0,0,0,0,0⟩
def isItem (x y : Int) (b : TBody) : Bool := decide (b.Kind = 2 ∧ b.X = x ∧ b.Y = y)
def itemAt (bs : List TBody) (x y : Int) : Bool := bs.any (isItem x y)
def spotOf (l : TLevel) (seed : Int) : List Int := (spotsM l).getD (belowR seed (spotsM l).length).toNat []
/-- The last part of a tick. -/
def lastM (l : TLevel) (tick seed : Int) (ss : List Int) (bs : List TBody) : TWorld :=
  if tick % 16 ≠ 0 ∨ (spotsM l).length = 0 ∨ 24 ≤ bs.length then ⟨l,tick,seed,ss,bs⟩
  else if itemAt bs ((spotOf l seed).getD 0 0) ((spotOf l seed).getD 1 0) = true then ⟨l,tick,nextR seed,ss,bs⟩
  else ⟨l,tick,nextR seed,ss,bs ++ [itemB ((spotOf l seed).getD 0 0) ((spotOf l seed).getD 1 0)]⟩
noncomputable def movedM (w : TWorld) (row : List Int) : List TBody := mvM w.Level (plM w.Level row w.Bodies w.Scores.length)
noncomputable def tickM (w : TWorld) (row : List Int) : TWorld :=
  lastM w.Level (w.Tick + 1) (nextR w.Seed) (hitsR w.Scores.length (movedM w row) w.Scores).2 (hitsR w.Scores.length (movedM w row) w.Scores).1
noncomputable def stepW (w : TWorld) (row : List Int) : TWorld := if worldOk w = true ∧ w.Tick ≠ 100000 ∧ rowOk row w.Scores.length = true then tickM w row else w
theorem PH.of {w : TWorld} {row : List Int} (hg : Enc.gd w) (ho : worldOk w = true) (hr : rowOk row w.Scores.length = true) : PH w row := by
  obtain ⟨gL,gT,gS,gSc,gB⟩ := hg
  obtain ⟨hl,ht,hs,hn,hsc,hlen,hbo⟩ := worldOk_spec ho
  rw [rowOk,Bool.and_eq_true,decide_eq_true_eq] at hr
  refine ⟨gL,gB.2,hl,hn,hlen,hbo,by omega,fun i hi => ?_⟩
  have := List.all_eq_true.1 hr.2 i hi
  exact inR_iff.1 this
theorem scores_rng {w : TWorld} (ho : worldOk w = true) : ∀ x ∈ w.Scores,0 ≤ x ∧ x ≤ 1000000 := fun x hx => by
  obtain ⟨_,_,_,_,hsc,_,_⟩ := worldOk_spec ho
  exact inR_iff.1 (List.all_eq_true.1 hsc x hx)
section
variable {w : TWorld} {row : List Int}
theorem PH.pl (h : PH w row) : P1 w.Level w.Scores.length w.Bodies (plM w.Level row w.Bodies w.Scores.length) w.Scores.length := P1.all h.hl h.n4.2 h.len h.bs row _ (Nat.le_refl _)
theorem PH.mv (h : PH w row) : LM w.Level w.Scores.length (movedM w row) := h.pl.lm.move
end
section
variable {l : TLevel} {n : Nat} {bs : List TBody} {ss : List Int}
theorem SI.drop {bs0 : List TBody} {s : List TBody × List Int} (h : SI l n bs0 s) : s.1.drop n = bs0.drop n := by
  apply List.ext_getElem?
  intro i
  rw [List.getElem?_drop,List.getElem?_drop]
  exact h.tl _ (by omega)
theorem SI.shots (h : LM l n bs) (h1 : ss.length = n) (h2 : ∀ x ∈ ss,0 ≤ x ∧ x ≤ 1000000) : LM l n ((shS n (bs.drop n) (bs,ss) (bs.drop n).length).1.take n ++ shL n (bs.drop n) (bs,ss) (bs.drop n).length) := by
  have hS := (SI.start h h1 h2).all (bs.drop n) (bs.drop n).length
  have hl := h.len
  have hd := hS.drop
  have h3 := shL_le (n := n) (t := bs.drop n) (s := (bs,ss)) (bs.drop n).length
  have h4 : (bs.drop n).length = bs.length - n := List.length_drop
  exact hS.lm.cut (fun b hb => by rw [hd]; exact shL_sub _ b hb) (by omega)
theorem LM.items {j : Nat} (h : LM l n bs) (hj : j ≤ bs.length - n) : LM l n (bs.take n ++ itL n bs (bs.drop n) j) := by
  have hl := h.len
  have h3 := itL_le (n := n) (bs := bs) (t := bs.drop n) (j := j)
  exact h.cut (fun b hb => List.mem_of_mem_take (List.mem_filter.1 hb).1) (by omega)
theorem hits_lm (h : LM l n bs) (h1 : ss.length = n) (h2 : ∀ x ∈ ss,0 ≤ x ∧ x ≤ 1000000) : LM l n (hitsR n bs ss).1 ∧ (hitsR n bs ss).2.length = n ∧ ∀ x ∈ (hitsR n bs ss).2,0 ≤ x ∧ x ≤ 1000000 := by
  have hS := (SI.start h h1 h2).all (bs.drop n) (bs.drop n).length
  rw [← hits_eq h h1 h2]
  exact ⟨(SI.shots h h1 h2).items (by rw [List.length_drop]; exact Nat.le_refl _),itS_ok hS.sl hS.sc⟩
end
/-! ### What fits -/
def TA (b : TBody) : Prop := (-2 ≤ b.Timer ∧ b.Timer ≤ 25) ∧ (-1 ≤ b.Aim ∧ b.Aim ≤ 1)
theorem body_aim {l : TLevel} {n k : Nat} {b : TBody} (h : bodyAt l n k b = true) : -1 ≤ b.Aim ∧ b.Aim ≤ 1 := by
  rw [bodyAt,Bool.and_eq_true] at h
  have h1 := h.1
  simp only [bodyM,Bool.and_eq_true] at h1
  obtain ⟨_,_,_,_,_,ht⟩ := h1
  unfold tailM at ht
  split at ht
  · simp only [Bool.and_eq_true,decide_eq_true_eq] at ht; omega
  · split at ht
    · simp only [Bool.and_eq_true,decide_eq_true_eq] at ht; omega
    · simp only [decide_eq_true_eq] at ht; omega
theorem pl_aim {l : TLevel} {row : List Int} {bs : List TBody} (h : ∀ b ∈ bs,-1 ≤ b.Aim ∧ b.Aim ≤ 1) : ∀ k,∀ b ∈ plM l row bs k,-1 ≤ b.Aim ∧ b.Aim ≤ 1
  | 0,b,hb => h b hb
  | k + 1,b,hb => by
    have ih := pl_aim (row := row) (l := l) h k
    rw [plM] at hb
    split at hb
    · exact ih b hb
    · rename_i p hp
      have hp2 := ih p (List.mem_of_getElem? hp)
      have hs : -1 ≤ (steer l p (row.getD k 0)).1.Aim ∧ (steer l p (row.getD k 0)).1.Aim ≤ 1 := by
        simp only [steer]
        split
        · omega
        · split <;> omega
      have key : ∀ {c : TBody},(-1 ≤ c.Aim ∧ c.Aim ≤ 1) → b ∈ (plM l row bs k).set k c → -1 ≤ b.Aim ∧ b.Aim ≤ 1 := fun hc hb => by
        rcases List.mem_or_eq_of_mem_set hb with h1 | h1
        · exact ih b h1
        · subst h1; exact hc
      unfold plOne at hb
      split at hb
      · refine key ?_ hb
        split
        · simp [fresh]
        · exact hp2
      · split at hb
        · rcases List.mem_append.1 hb with h1 | h1
          · exact key hs h1
          · rw [List.mem_singleton] at h1; subst h1; simp [shotOf]
        · exact key hs hb
theorem mv_ta {l : TLevel} {bs : List TBody} (h : ∀ b ∈ bs,(0 ≤ b.Timer ∧ b.Timer ≤ 25) ∧ (-1 ≤ b.Aim ∧ b.Aim ≤ 1)) : ∀ b ∈ mvM l bs,TA b := fun b hb => by
  obtain ⟨c,hc,hcb⟩ := List.mem_filterMap.1 hb
  have hh := h c hc
  unfold mvOne at hcb
  split at hcb
  · cases hcb
    exact ⟨⟨by simp only [moveM]; omega,by simp only [moveM]; omega⟩,hh.2⟩
  · split at hcb
    · split at hcb
      · cases hcb
      · cases hcb
        exact ⟨⟨by simp only [tick1,moveM]; omega,by simp only [tick1,moveM]; omega⟩,hh.2⟩
    · cases hcb; exact ⟨by omega,hh.2⟩
theorem sh_ta {n : Nat} {t : List TBody} {s : List TBody × List Int} (h : ∀ b ∈ s.1,TA b) : ∀ j,∀ b ∈ (shS n t s j).1,TA b
  | 0,b,hb => h b hb
  | j + 1,b,hb => by
    have ih := sh_ta (n := n) (t := t) h j
    rw [shS] at hb
    split at hb
    · exact ih b hb
    · unfold shOne at hb
      split at hb
      · split at hb
        · exact ih b hb
        · split at hb
          · exact ih b hb
          · rename_i p hp
            rcases List.mem_or_eq_of_mem_set hb with h1 | h1
            · exact ih b h1
            · subst h1
              have h2 := ih p (List.mem_of_getElem? hp)
              refine ⟨?_,h2.2⟩
              simp only [hitB]
              split
              · omega
              · exact h2.1
      · exact ih b hb
theorem keepR_sub {n : Nat} {t bs : List TBody} {s : List TBody × List Int} : ∀ j,∀ b ∈ keepR n t s bs j,b ∈ t
  | 0,b,hb => by cases hb
  | j + 1,b,hb => by
    rw [keepR] at hb
    split at hb
    · exact keepR_sub j b hb
    · rename_i c hc
      split at hb
      · exact keepR_sub j b hb
      · rcases List.mem_append.1 hb with h | h
        · exact keepR_sub j b h
        · rw [List.mem_singleton] at h; subst h; exact List.mem_of_getElem? hc
theorem hits_ta {n : Nat} {bs : List TBody} {ss : List Int} (h : ∀ b ∈ bs,TA b) : ∀ b ∈ (hitsR n bs ss).1,TA b := fun b hb => by
  rcases List.mem_append.1 hb with h1 | h1
  · exact sh_ta (s := (bs,ss)) h _ b (List.mem_of_mem_take h1)
  · exact h b (List.mem_of_mem_drop (keepR_sub _ b h1))
theorem body_gd {l : TLevel} {n : Nat} {b : TBody} (hl : levelOk l = true) (hn : n ≤ 4) (h : BM l n b) (ht : TA b) : Enc.gd b := by
  have hp := (h.placed hl).1
  obtain ⟨hk,ho,_,hvx,hvy,hf⟩ := h
  obtain ⟨_,hx,hy⟩ := hp
  obtain ⟨h1,h2⟩ := ht
  refine ⟨⟨?_,?_⟩,⟨?_,?_⟩,⟨?_,?_⟩,⟨?_,?_⟩,⟨?_,?_⟩,⟨?_,?_⟩,⟨?_,?_⟩,⟨?_,?_⟩,⟨?_,?_⟩⟩ <;> omega
theorem spot_rng {l : TLevel} (hl : levelOk l = true) {sp : List Int} (h : sp ∈ spotsM l) : ∃ x y : Int,sp = [x,y] ∧ (0 ≤ x ∧ x ≤ 400) ∧ (0 ≤ y ∧ y ≤ 400) := by
  obtain ⟨l3,l12,w,w4,w20,hw⟩ := level_facts hl
  obtain ⟨r,c,row,h1,h2,h3,_,h5⟩ := rowSp_at h
  obtain ⟨h6,h7⟩ := List.getElem?_eq_some_iff.1 h2
  have h8 := hw r h6
  rw [h7] at h8
  exact ⟨_,_,h5,by omega,by omega⟩
theorem spotOf_mem {l : TLevel} {seed : Int} (h : (spotsM l).length ≠ 0) : ∃ (i : Nat),belowR seed (spotsM l).length = i ∧ i < (spotsM l).length ∧ (spotsM l)[i]? = some (spotOf l seed) := by
  have h1 := nextR_rng seed
  have h2 : 0 ≤ belowR seed (spotsM l).length ∧ belowR seed (spotsM l).length < (spotsM l).length := by
    unfold belowR
    exact ⟨Int.emod_nonneg _ (by omega),Int.emod_lt_of_pos _ (by omega)⟩
  obtain ⟨i,hi⟩ : ∃ i : Nat,belowR seed (spotsM l).length = i := ⟨_,(Int.toNat_of_nonneg h2.1).symm⟩
  refine ⟨i,hi,by omega,?_⟩
  rw [spotOf,hi,Int.toNat_natCast,List.getD_eq_getElem?_getD,List.getElem?_eq_getElem (by omega)]
  rfl
theorem item_gd {x y : Int} (hx : 0 ≤ x ∧ x ≤ 400) (hy : 0 ≤ y ∧ y ≤ 400) : Enc.gd (itemB x y) := by
  refine ⟨⟨?_,?_⟩,⟨?_,?_⟩,⟨?_,?_⟩,⟨?_,?_⟩,⟨?_,?_⟩,⟨?_,?_⟩,⟨?_,?_⟩,⟨?_,?_⟩,⟨?_,?_⟩⟩ <;> simp only [itemB] <;> omega
/-- What a tick keeps. -/
structure Fits (w : TWorld) (n : Nat) : Prop where
  gd : Enc.gd w
  sl : w.Scores.length = n
  bl : w.Bodies.length ≤ 24
theorem last_fits {l : TLevel} {tick seed : Int} {ss : List Int} {bs : List TBody} {n : Nat} (hl : levelOk l = true) (gl : Enc.gd l) (ht : 0 ≤ tick ∧ tick ≤ 100000) (hs : 0 ≤ seed ∧ seed ≤ 65535) (h1 : ss.length = n) (hn : n ≤ 4) (h2 : ∀ x ∈ ss,0 ≤ x ∧ x ≤ 1000000) (h3 : bs.length ≤ 24) (h4 : ∀ b ∈ bs,Enc.gd b) : Fits (lastM l tick seed ss bs) n := by
  have g2 : Enc.gd ss := ⟨by omega,fun x hx => by have := h2 x hx; exact ⟨by omega,by omega⟩⟩
  have g1 : Enc.gd bs := ⟨by omega,h4⟩
  have gt : Enc.gd tick := ⟨by omega,by omega⟩
  have gs : Enc.gd seed := ⟨by omega,by omega⟩
  have hnx := nextR_rng seed
  have gn : Enc.gd (nextR seed) := ⟨by omega,by omega⟩
  unfold lastM
  split
  · exact ⟨⟨gl,gt,gs,g2,g1⟩,h1,h3⟩
  · rename_i hc
    split
    · exact ⟨⟨gl,gt,gn,g2,g1⟩,h1,h3⟩
    · obtain ⟨i,_,_,hi⟩ := spotOf_mem (l := l) (seed := seed) (fun e => hc (.inr (.inl e)))
      obtain ⟨x,y,he,hx,hy⟩ := spot_rng hl (List.mem_of_getElem? hi)
      have hb : bs.length < 24 := by
        rcases Nat.lt_or_ge bs.length 24 with h | h
        · exact h
        · exact absurd (.inr (.inr h)) hc
      have hli : (bs ++ [itemB ((spotOf l seed).getD 0 0) ((spotOf l seed).getD 1 0)]).length ≤ 24 := by rw [List.length_append]; simp; omega
      refine ⟨⟨gl,gt,gn,g2,Nat.le_trans hli (by decide),fun b hb2 => ?_⟩,h1,hli⟩
      rcases List.mem_append.1 hb2 with h5 | h5
      · exact h4 b h5
      · rw [List.mem_singleton] at h5
        subst h5
        rw [he]
        exact item_gd hx hy
theorem tick_fits {w : TWorld} {row : List Int} (hg : Enc.gd w) (ho : worldOk w = true) (ht : w.Tick ≠ 100000) (hr : rowOk row w.Scores.length = true) : Fits (tickM w row) w.Scores.length := by
  have hP := PH.of hg ho hr
  obtain ⟨hl,htk,hs,hn,hsc,hlen,hbo⟩ := worldOk_spec ho
  have htk := inR_iff.1 htk
  have hM := hits_lm hP.mv rfl (scores_rng ho)
  have hta : ∀ b ∈ movedM w row,TA b := mv_ta fun b hb => ⟨hP.pl.tm b hb,pl_aim (fun c hc => by
    obtain ⟨j,hj,rfl⟩ := List.mem_iff_getElem.1 hc
    exact body_aim (hbo j hj)) _ b hb⟩
  have hnx := nextR_rng w.Seed
  refine last_fits hl hg.1 ⟨by omega,by omega⟩ hnx hM.2.1 hn.2 hM.2.2 hM.1.len.2 fun b hb => ?_
  obtain ⟨j,hj⟩ := List.getElem?_of_mem hb
  exact body_gd hl hn.2 (hM.1.at_ j b hj).1 (hits_ta hta b hb)
theorem stepW_level (w : TWorld) (row : List Int) : (stepW w row).Level = w.Level := by
  unfold stepW
  split
  · unfold tickM lastM
    split
    · rfl
    · split <;> rfl
  · rfl
theorem stepW_fits {w : TWorld} {row : List Int} (hg : Enc.gd w) : Enc.gd (stepW w row) ∧ (stepW w row).Scores.length = w.Scores.length ∧ (stepW w row).Bodies.length ≤ max w.Bodies.length 24 := by
  unfold stepW
  split
  · rename_i h
    have := tick_fits hg h.1 h.2.1 h.2.2
    exact ⟨this.gd,this.sl,by have := this.bl; omega⟩
  · exact ⟨hg,rfl,by omega⟩
end Go.Proofs.Ytmljakmaffbnlaa
end

section
set_option linter.unusedSimpArgs false
set_option linter.unusedVariables false
set_option maxRecDepth 8000
namespace Go.Proofs.Ytmljakmaffbnlaa
open Go.RowKit

instance : PlainE TBody := ⟨fun x t h => els_pl9 [x] (Enc.e x) (by simp [els]) t h⟩
set_option maxHeartbeats 8000000 in
theorem I_copyWorld (w : TWorld) (hg : Enc.gd w) (h1 : w.Level.Rows.length ≤ 1048576) (h2 : w.Scores.length ≤ 1048576) (h3 : w.Bodies.length ≤ 1048576) : Con Try.prog 63 [] [ag w] [.row 1 (els w.Level.Rows),.row 1 (els w.Scores),.row 9 (els w.Bodies)] (.o (.ag [.ref 0,jn w.Tick,jn w.Seed,.ref 1,.ref 2])) := by
  have hls := els_len w.Scores
  have hlb := els_len w.Bodies
  refine Con.of Try.func63 rfl Try.ntmps63 rfl (fun E => ?_)
  refine Qd (Qc ?_);refine M1 (Qq J J J J) J J ?_;refine M1 (Qx J J J) J J ?_;refine Qe (Q0 (Qd ?_))
  refine Qc ?_;refine M0 (Qf J J J J (by decide)) J J ?_;refine M0 (Qu J J J J J J) J J ?_
  refine M1 (q_call J J (I_copyLevel w.Level hg.1 h1) J J J) J J ?_;refine M0 (Qf J J J J (by decide)) J J ?_
  refine Qy J J J J J J J J J ?_;refine Qe (Q0 (Qd (Qc ?_)));refine M0 (Qf J J J J (by decide)) J J ?_
  refine M0 (Qg J J J J J) J J ?_;refine M_appnil J J J J J J J J (els_plain _) (els_k _) (by omega) (by omega) ?_
  refine M0 (Qf J J J J (by decide)) J J ?_;refine Q5 J J J J J J J J ?_;refine Qe (Q0 (Qd (Qc ?_)))
  refine M0 (Qf J J J J (by decide)) J J ?_;refine M0 (Qg J J J J J) J J ?_
  refine M_appnil J J J J J J J J (els_plain _) (els_k _) (by omega) (by omega) ?_;refine M0 (Qf J J J J (by decide)) J J ?_
  refine Q5 J J J J J J J J ?_;refine Qe (Q0 (Qd (Qc ?_)));refine M0 (Qu J J J J J J) J J ?_
  refine Qy J J J J J J J J J ?_;refine Qe (Q0 (Xa (F_r ?_)))
  exact E_cell J J J J (W_end [2,3,4] (by decide) J J J)
set_option maxHeartbeats 8000000 in
theorem S_copyWorld (w : TWorld) (hg : Enc.gd w) (h1 : w.Level.Rows.length ≤ 1048576) (h2 : w.Scores.length ≤ 1048576) (h3 : w.Bodies.length ≤ 1048576) : Con Try.prog 58 [] [ag w] [.row 1 (els w.Level.Rows),.row 1 (els w.Scores),.row 9 (els w.Bodies)] (.o (.ag [.ref 0,jn w.Tick,jn w.Seed,.ref 1,.ref 2])) := by
  have hls := els_len w.Scores
  have hlb := els_len w.Bodies
  have h00 : ([] : List (List T)).length = 0 := rfl
  refine Con.of Try.func58 rfl Try.ntmps58 rfl (fun E => ?_)
  refine Qd (Qc ?_);refine M1 (Qq J J J J) J J ?_;refine M1 (Qx J J J) J J ?_;refine Qe (Q0 (Qd ?_))
  refine Qc ?_;refine M0 (Qf J J J J (by decide)) J J ?_;refine M0 (Qu J J J J J J) J J ?_
  refine M1 (q_call J J (S_copyLevel w.Level hg.1 h1) J J J) J J ?_;refine M0 (Qf J J J J (by decide)) J J ?_
  refine Qy J J J J J J J J J ?_;refine Qe (Q0 (Qd (Qc ?_)));refine M1 (q_bslice0 J J J) J J ?_
  refine M0 (Qf J J J J (by decide)) J J ?_;refine M0 (Qg J J J J J) J J ?_
  refine M_app J J J J J J J J J J (els_plain _) (els_k _) (by omega) (by omega) ?_;refine M0 (Qf J J J J (by decide)) J J ?_
  refine Q5 J J J J J J J J ?_;refine Qe (Q0 (Qd (Qc ?_)));refine M1 (q_bslice0 J J J) J J ?_
  refine M0 (Qf J J J J (by decide)) J J ?_;refine M0 (Qg J J J J J) J J ?_
  refine M_app J J J J J J J J J J (els_plain _) (els_k _) (by omega) (by omega) ?_;refine M0 (Qf J J J J (by decide)) J J ?_
  refine Q5 J J J J J J J J ?_;refine Qe (Q0 (Qd (Qc ?_)));refine M0 (Qu J J J J J J) J J ?_
  refine Qy J J J J J J J J J ?_;refine Qe (Q0 (Xa (F_r ?_)))
  exact E_cell J J J J (W_end [2,3,4] (by decide) J J J)
end Go.Proofs.Ytmljakmaffbnlaa
end

section
set_option linter.unusedSimpArgs false
set_option linter.unusedVariables false
set_option maxRecDepth 8000
namespace Go.Proofs.Ytmljakmaffbnlaa
open Go.RowKit

theorem step_T {w : TWorld} {row : List Int} (h : worldOk w = true ∧ w.Tick ≠ 100000 ∧ rowOk row w.Scores.length = true) : stepW w row = tickM w row := by rw [stepW,if_pos h]
theorem step_F {w : TWorld} {row : List Int} (h : ¬ (worldOk w = true ∧ w.Tick ≠ 100000 ∧ rowOk row w.Scores.length = true)) : stepW w row = w := by rw [stepW,if_neg h]
theorem last_1 {l : TLevel} {tick seed : Int} {ss : List Int} {bs : List TBody} (h : tick % 16 ≠ 0 ∨ (spotsM l).length = 0 ∨ 24 ≤ bs.length) : lastM l tick seed ss bs = ⟨l,tick,seed,ss,bs⟩ := by rw [lastM,if_pos h]
theorem last_2 {l : TLevel} {tick seed : Int} {ss : List Int} {bs : List TBody} {x y : Int} (h : ¬ (tick % 16 ≠ 0 ∨ (spotsM l).length = 0 ∨ 24 ≤ bs.length)) (hs : spotOf l seed = [x,y]) (hi : itemAt bs x y = true) : lastM l tick seed ss bs = ⟨l,tick,nextR seed,ss,bs⟩ := by
  rw [lastM,if_neg h,hs]
  exact if_pos hi
theorem last_3 {l : TLevel} {tick seed : Int} {ss : List Int} {bs : List TBody} {x y : Int} (h : ¬ (tick % 16 ≠ 0 ∨ (spotsM l).length = 0 ∨ 24 ≤ bs.length)) (hs : spotOf l seed = [x,y]) (hi : itemAt bs x y = false) : lastM l tick seed ss bs = ⟨l,tick,nextR seed,ss,bs ++ [itemB x y]⟩ := by
  rw [lastM,if_neg h,hs]
  exact if_neg (by show ¬ itemAt bs x y = true; rw [hi]; simp)
theorem at_hit {bs : List TBody} {x y : Int} {k : Nat} {b : TBody} (hb : bs[k]? = some b) (h : b.Kind = 2 ∧ b.X = x ∧ b.Y = y) : itemAt bs x y = true := by
  rw [itemAt,List.any_eq_true]
  exact ⟨b,List.mem_of_getElem? hb,decide_eq_true h⟩
theorem at_go {bs : List TBody} {x y : Int} {k : Nat} {b : TBody} (hb : bs[k]? = some b) (h : ¬ (b.Kind = 2 ∧ b.X = x ∧ b.Y = y)) (hi : itemAt (bs.take k) x y = false) : itemAt (bs.take (k + 1)) x y = false := by
  obtain ⟨hk,rfl⟩ := List.getElem?_eq_some_iff.1 hb
  rw [List.take_succ_eq_append_getElem hk,itemAt,List.any_append,← itemAt,hi]
  simp only [List.any_cons,List.any_nil,Bool.or_false,Bool.false_or]
  exact decide_eq_false h
theorem rwS2 {a b : Ob} {t : List Ob} {k : Nat} {x y : List (List T)} (h : x = y) : a :: b :: Ob.row k x :: t = a :: b :: Ob.row k y :: t := by rw [h]
set_option maxHeartbeats 8000000 in
theorem I_StepWorld (w : TWorld) (row : List Int) (hg : Enc.gd w) (gr : Enc.gd row) (h1 : w.Level.Rows.length ≤ 1048576) (h2 : w.Scores.length ≤ 1048576) (h3 : w.Bodies.length ≤ 1048576) : Con Try.prog 89 [] [ag w,al row] [.row 1 (els w.Level.Rows),.row 1 (els (stepW w row).Scores),.row 9 (els (stepW w row).Bodies)] (.o (.ag [.ref 0,jn (stepW w row).Tick,jn (stepW w row).Seed,.ref 1,.ref 2])) := by
  have hls := els_len w.Scores
  have hlb := els_len w.Bodies
  have c1 := I_copyWorld w hg h1 h2 h3
  have c2 := I_WorldOk w hg
  have c3 := I_rowOk row ((els w.Scores).length : Int) gr
  rw [show rowOk row ((els w.Scores).length : Int) = rowOk row (w.Scores.length : Int) by rw [hls]] at c3
  cases ho : worldOk w with
  | false =>
    rw [step_F (fun q => by rw [ho] at q; cases q.1)]
    rw [ho] at c2
    refine Con.of Try.func89 rfl Try.ntmps89 rfl (fun E => ?_)
    refine Qd (Qc ?_);refine M1 (Qq J J J J) J J ?_;refine M1 (Qx J J J) J J ?_;refine Qe (Q0 (Qd ?_))
    refine Qc ?_;refine M0 (Qu J J J J J J) J J ?_;refine M1 (q_call J J (c1) J J J) J J ?_;refine M1 (Qx J J J) J J ?_
    refine Qy J J J J J J J J J ?_;refine Qe (Q0 (Qd (Qd (Qc ?_))));refine M0 (Qu J J J J J J) J J ?_
    refine M0 (Qj J J (c2) rfl) J J ?_;refine M0 (Q4 J J J) J J ?_;refine M0 (Qa J J J) J J ?_;refine Qp J J J J J J ?_
    refine Qp J J J J J J ?_;refine Qp J J J J J J ?_;refine M0 (Qo J J J J) J J ?_;refine M0 (Qa J J J) J J ?_
    refine Qp J J J J J J ?_;refine Qp J J J J J J ?_;refine Qp J J J J J J ?_;refine Qp J J J J J J ?_
    refine Qp J J J J J J ?_;refine Qp J J J J J J ?_;refine M0 (Qo J J J J) J J ?_;refine Qe (Q0 ?_);refine Qm rfl ?_
    refine Qd (Qc ?_);refine M0 (Qu J J J J J J) J J ?_;refine Qy J J J J J J J J J ?_;refine Qe (Q0 (Xa ?_))
    refine T_r (F_r ?_)
    exact E_cell J J J J (W_end [2,3,4] (by decide) J J J)
  | true =>
  rw [ho] at c2
  by_cases ht : w.Tick = 100000
  · have f1 : decide (w.Tick = 100000) = true := decide_eq_true ht
    rw [step_F (fun q => q.2.1 ht)]
    refine Con.of Try.func89 rfl Try.ntmps89 rfl (fun E => ?_)
    refine Qd (Qc ?_);refine M1 (Qq J J J J) J J ?_;refine M1 (Qx J J J) J J ?_;refine Qe (Q0 (Qd ?_))
    refine Qc ?_;refine M0 (Qu J J J J J J) J J ?_;refine M1 (q_call J J (c1) J J J) J J ?_;refine M1 (Qx J J J) J J ?_
    refine Qy J J J J J J J J J ?_;refine Qe (Q0 (Qd (Qd (Qc ?_))));refine M0 (Qu J J J J J J) J J ?_
    refine M0 (Qj J J (c2) rfl) J J ?_;refine M0 (Q4 J J J) J J ?_;refine M0 (Qa J J J) J J ?_;refine Qi J J J ?_
    refine M0 (Qf J J J J (by decide)) J J ?_;refine Qi J J J ?_;refine M0 (Qg J J J J J) J J ?_;refine Qi J J J ?_
    refine M0 (Qv J J J J (by assumption)) J J ?_;refine M0 (Qn J J J J) J J ?_;refine M0 (Qa J J J) J J ?_
    refine Qp J J J J J J ?_;refine Qp J J J J J J ?_;refine Qp J J J J J J ?_;refine Qp J J J J J J ?_
    refine Qp J J J J J J ?_;refine Qp J J J J J J ?_;refine M0 (Qo J J J J) J J ?_;refine Qe (Q0 ?_);refine Qm rfl ?_
    refine Qd (Qc ?_);refine M0 (Qu J J J J J J) J J ?_;refine Qy J J J J J J J J J ?_;refine Qe (Q0 (Xa ?_))
    refine T_r (F_r ?_)
    exact E_cell J J J J (W_end [2,3,4] (by decide) J J J)
  have f1 : decide (w.Tick = 100000) = false := decide_eq_false ht
  cases hr : rowOk row (w.Scores.length : Int) with
  | false =>
    rw [step_F (fun q => by rw [hr] at q; cases q.2.2)]
    rw [hr] at c3
    refine Con.of Try.func89 rfl Try.ntmps89 rfl (fun E => ?_)
    refine Qd (Qc ?_);refine M1 (Qq J J J J) J J ?_;refine M1 (Qx J J J) J J ?_;refine Qe (Q0 (Qd ?_))
    refine Qc ?_;refine M0 (Qu J J J J J J) J J ?_;refine M1 (q_call J J (c1) J J J) J J ?_;refine M1 (Qx J J J) J J ?_
    refine Qy J J J J J J J J J ?_;refine Qe (Q0 (Qd (Qd (Qc ?_))));refine M0 (Qu J J J J J J) J J ?_
    refine M0 (Qj J J (c2) rfl) J J ?_;refine M0 (Q4 J J J) J J ?_;refine M0 (Qa J J J) J J ?_;refine Qi J J J ?_
    refine M0 (Qf J J J J (by decide)) J J ?_;refine Qi J J J ?_;refine M0 (Qg J J J J J) J J ?_;refine Qi J J J ?_
    refine M0 (Qv J J J J (by assumption)) J J ?_;refine M0 (Qn J J J J) J J ?_;refine M0 (Qa J J J) J J ?_;refine Qi J J J ?_
    refine M0 (Qa J J J) J J ?_;refine Qi J J J ?_;refine M0 (Qf J J J J (by decide)) J J ?_;refine Qi J J J ?_
    refine M0 (Qg J J J J J) J J ?_;refine Qi J J J ?_;refine M0 (q_len J J J) J J ?_;refine Qi J J J ?_
    refine M0 (Qj J J (c3) rfl) J J ?_;refine Qi J J J ?_;refine M0 (Q4 J J J) J J ?_;refine M0 (Qn J J J J) J J ?_;refine Qe ?_
    refine Q0 ?_;refine Qm rfl ?_;refine Qd (Qc ?_);refine M0 (Qu J J J J J J) J J ?_;refine Qy J J J J J J J J J ?_
    refine Qe (Q0 (Xa (T_r (F_r ?_))))
    exact E_cell J J J J (W_end [2,3,4] (by decide) J J J)
  | true =>
  rw [hr] at c3
  rw [step_T ⟨ho,ht,hr⟩]
  have hP := PH.of hg ho hr
  have hsr := scores_rng ho
  have hM := hits_lm hP.mv rfl hsr
  have hSh := SI.shots hP.mv rfl hsr
  have hSI := (SI.start hP.mv rfl hsr).all ((movedM w row).drop w.Scores.length) ((movedM w row).drop w.Scores.length).length
  have hEq := hits_eq hP.mv rfl hsr
  obtain ⟨hl,htk,hsd,hn,_,hlen,hbo⟩ := worldOk_spec ho
  have htk := inR_iff.1 htk
  have hsd := inR_iff.1 hsd
  have d1 := I_stepPlayers w row hP
  have d2 := I_stepMoves ⟨w.Level,w.Tick,w.Seed,w.Scores,plM w.Level row w.Bodies w.Scores.length⟩ hg.1 hl hP.pl.lm hP.pl.tm
  have d3 := I_stepShots ⟨w.Level,w.Tick,w.Seed,w.Scores,movedM w row⟩ hg.1 hl hn hP.mv hsr
  have hsl := hSI.sl
  have hsc := hSI.sc
  simp only at d2 d3
  obtain ⟨s3,hs3⟩ : ∃ s3,s3 = (shS w.Scores.length ((movedM w row).drop w.Scores.length) (movedM w row,w.Scores) ((movedM w row).drop w.Scores.length).length).2 := ⟨_,rfl⟩
  obtain ⟨b3,hb3⟩ : ∃ b3,b3 = (shS w.Scores.length ((movedM w row).drop w.Scores.length) (movedM w row,w.Scores) ((movedM w row).drop w.Scores.length).length).1.take w.Scores.length ++ shL w.Scores.length ((movedM w row).drop w.Scores.length) (movedM w row,w.Scores) ((movedM w row).drop w.Scores.length).length := ⟨_,rfl⟩
  have hP2 : hitsP w.Scores.length (movedM w row) w.Scores = (b3.take w.Scores.length ++ itL w.Scores.length b3 (b3.drop w.Scores.length) (b3.drop w.Scores.length).length,itS w.Scores.length b3 (b3.drop w.Scores.length) s3 (b3.drop w.Scores.length).length) := by rw [hitsP,hs3,hb3]
  rw [← hs3] at d3 hsl hsc
  rw [← hb3] at d3 hSh
  have d4 := I_stepItems ⟨w.Level,w.Tick,w.Seed,s3,b3⟩ hg.1 hl (by simp only; omega) (by simp only; rw [hsl]; exact hSh) hsc
  simp only at d4
  rw [hsl] at d4
  obtain ⟨s4,hs4⟩ : ∃ s4,s4 = itS w.Scores.length b3 (b3.drop w.Scores.length) s3 (b3.drop w.Scores.length).length := ⟨_,rfl⟩
  obtain ⟨b4,hb4⟩ : ∃ b4,b4 = b3.take w.Scores.length ++ itL w.Scores.length b3 (b3.drop w.Scores.length) (b3.drop w.Scores.length).length := ⟨_,rfl⟩
  rw [← hs4,← hb4] at d4
  rw [← hs4,← hb4,hEq] at hP2
  rw [tickM,hP2]
  rw [hP2] at hM
  obtain ⟨hM1,hM2,hM3⟩ := hM
  simp only at hM1 hM2 hM3
  have e1 := I_NextRandom w.Seed ⟨by omega,by omega⟩
  have e2 := I_SpotsOf w.Level hg.1 hl
  have hlb4 := els_len b4
  have hbl := hM1.len
  have hlsp := els_len (spotsM w.Level)
  have hsl2 := spots_len hl
  have hnr := nextR_rng w.Seed
  clear hEq hP2 hSI hSh hb4 hs4 hb3 hs3 hbo hsl hsc
  refine Con.of Try.func89 rfl Try.ntmps89 rfl (fun E => ?_)
  refine Qd (Qc ?_);refine M1 (Qq J J J J) J J ?_;refine M1 (Qx J J J) J J ?_;refine Qe (Q0 (Qd ?_))
  refine Qc ?_;refine M0 (Qu J J J J J J) J J ?_;refine M1 (q_call J J (c1) J J J) J J ?_;refine M1 (Qx J J J) J J ?_
  refine Qy J J J J J J J J J ?_;refine Qe (Q0 (Qd (Qd (Qc ?_))));refine M0 (Qu J J J J J J) J J ?_
  refine M0 (Qj J J (c2) rfl) J J ?_;refine M0 (Q4 J J J) J J ?_;refine M0 (Qa J J J) J J ?_;refine Qi J J J ?_
  refine M0 (Qf J J J J (by decide)) J J ?_;refine Qi J J J ?_;refine M0 (Qg J J J J J) J J ?_;refine Qi J J J ?_
  refine M0 (Qv J J J J (by assumption)) J J ?_;refine M0 (Qn J J J J) J J ?_;refine M0 (Qa J J J) J J ?_;refine Qi J J J ?_
  refine M0 (Qa J J J) J J ?_;refine Qi J J J ?_;refine M0 (Qf J J J J (by decide)) J J ?_;refine Qi J J J ?_
  refine M0 (Qg J J J J J) J J ?_;refine Qi J J J ?_;refine M0 (q_len J J J) J J ?_;refine Qi J J J ?_
  refine M0 (Qj J J (c3) rfl) J J ?_;refine Qi J J J ?_;refine M0 (Q4 J J J) J J ?_;refine M0 (Qn J J J J) J J ?_;refine Qe ?_
  refine Q0 ?_;refine Ql rfl ?_;refine Qh (Q0 (Qd (Qc ?_)));refine M0 (Qa J J J) J J ?_
  refine AL.weak (st' := (⟨_,[(1,L row),(4,.o (.c (.ptr 4 0))),(5,.o (.c (.ptr 0 0))),(32,L row)],[.box [.ref 1,jn w.Tick,jn w.Seed,.ref 2,.ref 3],.row 1 (els w.Level.Rows),.row 1 (els w.Scores),.row 9 (els w.Bodies),.box [nilV,jn 0,jn 0,nilV,nilV]]⟩ : St)) (W_go [5,2,3,4,1] (by decide) rfl (rfl) (.cons rfl (.cons rfl (.cons rfl (.cons rfl (.nil)))))) ?_
  clear c1 c2 c3 f1
  refine Xd (lo := [_,_,_,_]) (gs := [(0,.c (.ptr 0 0))]) (lo' := [_,_,_,_]) (new := []) [0,1,2,3] [(0,0,.ptr 0 0)] (d1) J J J J J J J J J J J J J J J J J ?_
  refine Qe (Q0 (Qd (Qc ?_)))
  refine AL.weak (st' := (⟨_,[(1,L row),(4,.o (.c (.ptr 4 0))),(5,.o (.c (.ptr 0 0)))],[.box [.ref 1,jn w.Tick,jn w.Seed,.ref 2,.ref 3],.row 1 (els w.Level.Rows),.row 1 (els w.Scores),.row 9 (els (plM w.Level row w.Bodies w.Scores.length)),.box [nilV,jn 0,jn 0,nilV,nilV]]⟩ : St)) (W_go [0,1,2,3,4] (by decide) rfl (rfl) (.cons rfl (.cons rfl (.cons rfl (.nil))))) ?_
  clear d1
  refine Xd (lo := [_,_,_,_]) (gs := [(0,.c (.ptr 0 0))]) (lo' := [_,_,_,_]) (new := []) [0,1,2,3] [(0,0,.ptr 0 0)] (d2) J J J J J J J J J J J J J J J J J ?_
  refine Qe (Q0 (Qd (Qc ?_)))
  refine AL.weak (st' := (⟨_,[(1,L row),(4,.o (.c (.ptr 4 0))),(5,.o (.c (.ptr 0 0)))],[.box [.ref 1,jn w.Tick,jn w.Seed,.ref 2,.ref 3],.row 1 (els w.Level.Rows),.row 1 (els w.Scores),.row 9 (els (movedM w row)),.box [nilV,jn 0,jn 0,nilV,nilV]]⟩ : St)) (W_go [0,1,2,3,4] (by decide) rfl (rfl) (.cons rfl (.cons rfl (.cons rfl (.nil))))) ?_
  clear d2
  refine Xd (lo := [_,_,_,_]) (gs := [(0,.c (.ptr 0 0))]) (lo' := [_,_,_,_]) (new := []) [0,1,2,3] [(0,0,.ptr 0 0)] (d3) J J J J J J J J J J J J J J J J J ?_
  refine Qe (Q0 (Qd (Qc ?_)))
  refine AL.weak (st' := (⟨_,[(1,L row),(4,.o (.c (.ptr 4 0))),(5,.o (.c (.ptr 0 0)))],[.box [.ref 1,jn w.Tick,jn w.Seed,.ref 2,.ref 3],.row 1 (els w.Level.Rows),.row 1 (els s3),.row 9 (els b3),.box [nilV,jn 0,jn 0,nilV,nilV]]⟩ : St)) (W_go [0,1,2,3,4] (by decide) rfl (rfl) (.cons rfl (.cons rfl (.cons rfl (.nil))))) ?_
  clear d3
  refine Xd (lo := [_,_,_,_]) (gs := [(0,.c (.ptr 0 0))]) (lo' := [_,_,_,_]) (new := []) [0,1,2,3] [(0,0,.ptr 0 0)] (d4) J J J J J J J J J J J J J J J J J ?_
  refine Qe (Q0 (Qd (Qc ?_)));refine M0 (Qf J J J J (by decide)) J J ?_;refine M0 (Qg J J J J J) J J ?_
  refine M0 (Qs J J J J (by omega)) J J ?_;refine M0 (Qf J J J J (by decide)) J J ?_;refine Q5 J J J J J J J J ?_;refine Qe ?_
  refine Q0 (Qd (Qc ?_));refine M0 (Qf J J J J (by decide)) J J ?_;refine M0 (Qg J J J J J) J J ?_
  refine AL.weak (st' := (⟨_,[(1,L row),(4,.o (.c (.ptr 4 0))),(5,.o (.c (.ptr 0 0))),(42,I w.Seed)],[.box [.ref 1,jn (w.Tick + 1),jn w.Seed,.ref 2,.ref 3],.row 1 (els w.Level.Rows),.row 1 (els s4),.row 9 (els b4),.box [nilV,jn 0,jn 0,nilV,nilV]]⟩ : St)) (W_go [0,1,2,3,4] (by decide) rfl (rfl) (.cons rfl (.cons rfl (.cons rfl (.cons rfl (.nil)))))) ?_
  clear d4
  refine M0 (Qj J J (e1) rfl) J J ?_;refine M0 (Qf J J J J (by decide)) J J ?_;refine Q5 J J J J J J J J ?_;refine Qe (Q0 ?_)
  refine Qd (Qc ?_);refine M0 (Qf J J J J (by decide)) J J ?_;refine M0 (Qu J J J J J J) J J ?_
  refine AL.weak (st' := (⟨_,[(1,L row),(4,.o (.c (.ptr 4 0))),(5,.o (.c (.ptr 0 0))),(46,.o (.ag [.ref 1]))],[.box [.ref 1,jn (w.Tick + 1),jn (nextR w.Seed),.ref 2,.ref 3],.row 1 (els w.Level.Rows),.row 1 (els s4),.row 9 (els b4),.box [nilV,jn 0,jn 0,nilV,nilV]]⟩ : St)) (W_go [0,1,2,3,4] (by decide) rfl (rfl) (.cons rfl (.cons rfl (.cons rfl (.cons rfl (.nil)))))) ?_
  clear e1
  obtain ⟨sd,hsd2⟩ : ∃ sd,sd = nextR w.Seed := ⟨_,rfl⟩
  rw [← hsd2] at hnr
  rw [← hsd2]
  by_cases q1 : (w.Tick + 1) % 16 ≠ 0
  · have g1 : decide ((w.Tick + 1) % 16 ≠ 0) = true := decide_eq_true q1
    rw [last_1 (.inl q1)]
    refine M1 (q_call J J (e2) J J J) J J ?_;refine M0 (Qb J J J) J J ?_;refine Qe (Q0 (Qd (Qd (Qc ?_))))
    refine M0 (Qf J J J J (by decide)) J J ?_;refine M0 (Qg J J J J J) J J ?_;refine M0 (q_rem J J J J (by omega)) J J ?_
    refine M0 (Qw J J J J (by assumption)) J J ?_;refine M0 (Qa J J J) J J ?_;refine Qp J J J J J J ?_;refine Qp J J J J J J ?_
    refine Qp J J J J J J ?_;refine M0 (Qo J J J J) J J ?_;refine M0 (Qa J J J) J J ?_;refine Qp J J J J J J ?_
    refine Qp J J J J J J ?_;refine Qp J J J J J J ?_;refine Qp J J J J J J ?_;refine M0 (Qo J J J J) J J ?_;refine Qe ?_
    refine Q0 ?_;refine Qm rfl ?_;refine Qd (Qc ?_);refine M0 (Qu J J J J J J) J J ?_;refine Qy J J J J J J J J J ?_
    refine Qe (Q0 (Xa (T_r (F_r ?_))))
    exact E_cell J J J J (W_end [1,2,3] (by decide) J J J)
  have g1 : decide ((w.Tick + 1) % 16 ≠ 0) = false := decide_eq_false q1
  by_cases q2 : (spotsM w.Level).length = 0
  · have g2 : decide (((els (spotsM w.Level)).length : Int) = 0) = true := decide_eq_true (by omega)
    rw [last_1 (.inr (.inl q2))]
    refine M1 (q_call J J (e2) J J J) J J ?_;refine M0 (Qb J J J) J J ?_;refine Qe (Q0 (Qd (Qd (Qc ?_))))
    refine M0 (Qf J J J J (by decide)) J J ?_;refine M0 (Qg J J J J J) J J ?_;refine M0 (q_rem J J J J (by omega)) J J ?_
    refine M0 (Qw J J J J (by assumption)) J J ?_;refine M0 (Qa J J J) J J ?_;refine Qi J J J ?_;refine M0 (Qa J J J) J J ?_
    refine Qi J J J ?_;refine M0 (q_lenr J J J J) J J ?_;refine Qi J J J ?_;refine M0 (Qv J J J J (by assumption)) J J ?_
    refine M0 (Qn J J J J) J J ?_;refine M0 (Qa J J J) J J ?_;refine Qp J J J J J J ?_;refine Qp J J J J J J ?_
    refine Qp J J J J J J ?_;refine Qp J J J J J J ?_;refine M0 (Qo J J J J) J J ?_;refine Qe (Q0 ?_);refine Qm rfl ?_
    refine Qd (Qc ?_);refine M0 (Qu J J J J J J) J J ?_;refine Qy J J J J J J J J J ?_;refine Qe (Q0 (Xa ?_))
    refine T_r (F_r ?_)
    exact E_cell J J J J (W_end [1,2,3] (by decide) J J J)
  have g2 : decide (((els (spotsM w.Level)).length : Int) = 0) = false := decide_eq_false (by omega)
  by_cases q3 : 24 ≤ b4.length
  · have g3 : decide (((els b4).length : Int) ≥ 24) = true := decide_eq_true (by omega)
    rw [last_1 (.inr (.inr q3))]
    refine M1 (q_call J J (e2) J J J) J J ?_;refine M0 (Qb J J J) J J ?_;refine Qe (Q0 (Qd (Qd (Qc ?_))))
    refine M0 (Qf J J J J (by decide)) J J ?_;refine M0 (Qg J J J J J) J J ?_;refine M0 (q_rem J J J J (by omega)) J J ?_
    refine M0 (Qw J J J J (by assumption)) J J ?_;refine M0 (Qa J J J) J J ?_;refine Qi J J J ?_;refine M0 (Qa J J J) J J ?_
    refine Qi J J J ?_;refine M0 (q_lenr J J J J) J J ?_;refine Qi J J J ?_;refine M0 (Qv J J J J (by assumption)) J J ?_
    refine M0 (Qn J J J J) J J ?_;refine M0 (Qa J J J) J J ?_;refine Qi J J J ?_;refine M0 (Qf J J J J (by decide)) J J ?_
    refine Qi J J J ?_;refine M0 (Qg J J J J J) J J ?_;refine Qi J J J ?_;refine M0 (q_lenr J J J J) J J ?_;refine Qi J J J ?_
    refine M0 (q_geqK J J J J (by assumption)) J J ?_;refine M0 (Qn J J J J) J J ?_;refine Qe (Q0 ?_);refine Qm rfl ?_;refine Qd ?_
    refine Qc ?_;refine M0 (Qu J J J J J J) J J ?_;refine Qy J J J J J J J J J ?_;refine Qe (Q0 (Xa (T_r ?_)))
    refine F_r ?_
    exact E_cell J J J J (W_end [1,2,3] (by decide) J J J)
  have g3 : decide (((els b4).length : Int) ≥ 24) = false := decide_eq_false (by omega)
  have q : ¬ ((w.Tick + 1) % 16 ≠ 0 ∨ (spotsM w.Level).length = 0 ∨ 24 ≤ b4.length) := fun h => h.elim q1 fun h => h.elim q2 q3
  obtain ⟨i,hi1,hi2,hi3⟩ := spotOf_mem (seed := sd) q2
  obtain ⟨x,y,hxy,hx,hy⟩ := spot_rng hl (List.mem_of_getElem? hi3)
  have e3 := I_RandomBelow sd ((els (spotsM w.Level)).length : Int) hnr ⟨by omega,by omega⟩
  rw [show belowR sd ((els (spotsM w.Level)).length : Int) = i by rw [hlsp]; exact hi1] at e3
  have hsp : (els (spotsM w.Level))[(i : Int).toNat]? = some (Enc.e [x,y]) := els_sm (by rw [hi3,hxy])
  refine M1 (q_call J J (e2) J J J) J J ?_;refine M0 (Qb J J J) J J ?_;refine Qe (Q0 (Qd (Qd (Qc ?_))))
  refine M0 (Qf J J J J (by decide)) J J ?_;refine M0 (Qg J J J J J) J J ?_;refine M0 (q_rem J J J J (by omega)) J J ?_
  refine M0 (Qw J J J J (by assumption)) J J ?_;refine M0 (Qa J J J) J J ?_;refine Qi J J J ?_;refine M0 (Qa J J J) J J ?_
  refine Qi J J J ?_;refine M0 (q_lenr J J J J) J J ?_;refine Qi J J J ?_;refine M0 (Qv J J J J (by assumption)) J J ?_
  refine M0 (Qn J J J J) J J ?_;refine M0 (Qa J J J) J J ?_;refine Qi J J J ?_;refine M0 (Qf J J J J (by decide)) J J ?_
  refine Qi J J J ?_;refine M0 (Qg J J J J J) J J ?_;refine Qi J J J ?_;refine M0 (q_lenr J J J J) J J ?_;refine Qi J J J ?_
  refine M0 (q_geqK J J J J (by assumption)) J J ?_;refine M0 (Qn J J J J) J J ?_;refine Qe (Q0 ?_);refine Ql rfl ?_;refine Qh ?_
  refine Q0 (Qd (Qc ?_));refine M0 (Qf J J J J (by decide)) J J ?_;refine M0 (Qg J J J J J) J J ?_
  refine M0 (Qa J J J) J J ?_;refine M0 (q_lenr J J J J) J J ?_;refine M1 (q_call J J (e3) J J J) J J ?_
  refine M0 (Q8 J J J) J J ?_;refine M0 (q_ext J J J J) J J ?_;refine M0 (q_ext J J J J) J J ?_;refine M0 (Qb J J J) J J ?_
  refine M0 (Qb J J J) J J ?_;refine Qe (Q0 (Qd (Qc ?_)));refine M0 (Qa J J J) J J ?_
  refine M0 (Qf J J J J (by decide)) J J ?_;refine Q5 J J J J J J J J ?_;refine Qe (Q0 (Qd (Qc ?_)))
  refine M0 (Qa J J J) J J ?_;refine M0 (Qa J J J) J J ?_;refine M0 (Q3 J J J J J (by omega) (by omega)) J J ?_
  refine M0 (Q7 J J J J (by assumption) rfl) J J ?_
  refine AL.weak (st' := (⟨_,[(4,.o (.c (.ptr 4 0))),(5,.o (.c (.ptr 0 0))),(6,.o (.c (.ref 5))),(8,I (i : Int)),(77,.o (.c (.rd [5] (.sl 1 (els [x,y])))))],[.box [.ref 1,jn (w.Tick + 1),jn (nextR sd),.ref 2,.ref 3],.row 1 (els w.Level.Rows),.row 1 (els s4),.row 9 (els b4),.box [nilV,jn 0,jn 0,nilV,nilV],.row 1 (els (spotsM w.Level))]⟩ : St)) (W_go [0,1,2,3,4,5] (by decide) rfl (rfl) (.cons rfl (.cons rfl (.cons rfl (.cons rfl (.cons rfl (.nil))))))) ?_
  clear e2 e3 g1 g2 g3
  have hx0 : (els [x,y])[(0 : Int).toNat]? = some (Enc.e x) := rfl
  have hy0 : (els [x,y])[(1 : Int).toNat]? = some (Enc.e y) := rfl
  refine M0 (Q2 J J J J (by omega) (by assumption) rfl) J J ?_;refine M0 (q_lr1 J J J J) J J ?_;refine M0 (Qb J J J) J J ?_;refine Qe ?_
  refine Q0 (Qd (Qc ?_));refine M0 (Qa J J J) J J ?_;refine M0 (Qa J J J) J J ?_
  refine M0 (Q3 J J J J J (by omega) (by omega)) J J ?_;refine M0 (Q7 J J J J (by assumption) rfl) J J ?_
  refine M0 (Q2 J J J J (by omega) (by assumption) rfl) J J ?_;refine M0 (q_lr1 J J J J) J J ?_;refine M0 (Qb J J J) J J ?_;refine Qe ?_
  refine Q0 (Qd (Qd (Qc ?_)));refine M0 (Qf J J J J (by decide)) J J ?_;refine M0 (Qg J J J J J) J J ?_
  refine M0 (q_lenr J J J J) J J ?_;refine M0 (Qa J J J) J J ?_;refine Qe (Q0 (Qk ?_))
  refine A_loop (fun m st => ∃ k : Nat,k + m = b4.length ∧ (itemAt (b4.take k) x y = false) ∧ st = (fun k : Nat => (⟨_,[(4,.o (.c (.ptr 4 0))),(5,.o (.c (.ptr 0 0))),(9,I x),(10,I y),(87,.o (.c (.ref 3))),(88,I (els b4).length),(89,I k)],[.box [.ref 1,jn (w.Tick + 1),jn (nextR sd),.ref 2,.ref 3],.row 1 (els w.Level.Rows),.row 1 (els s4),.row 9 (els b4),.box [nilV,jn 0,jn 0,nilV,nilV]]⟩ : St)) k) (b4.length) ⟨(fun k : Nat => (⟨_,[(4,.o (.c (.ptr 4 0))),(5,.o (.c (.ptr 0 0))),(9,I x),(10,I y),(87,.o (.c (.ref 3))),(88,I (els b4).length),(89,I k)],[.box [.ref 1,jn (w.Tick + 1),jn (nextR sd),.ref 2,.ref 3],.row 1 (els w.Level.Rows),.row 1 (els s4),.row 9 (els b4),.box [nilV,jn 0,jn 0,nilV,nilV]]⟩ : St)) 0,W_go [0,1,2,3,4] (by decide) rfl (rfl) (.cons rfl (.cons rfl (.cons rfl (.cons rfl (.cons rfl (.cons rfl (.cons rfl (.nil)))))))),0,by omega,rfl,rfl⟩ ?_
  rintro m_A _ ⟨k,hk_A,hp_A,rfl⟩
  by_cases hlt : k < b4.length
  · have hb0 : decide ((k : Int) < (els b4).length) = true := decide_eq_true (by omega)
    obtain ⟨b,hb⟩ := some_sm hlt
    refine Qd (Qc ?_);refine M0 (Qr J J J J (by assumption)) J J ?_;refine Qe (Q0 (Qd ?_));refine Qm rfl ?_;refine Qh ?_
    refine Q0 (Qd (Qk (Qd (Qc ?_))));refine M0 (Q3 J J J J J (by omega) (by omega)) J J ?_
    have he := els_sm hb
    with_reducible refine Xf ?_
    refine M0 (Q6 J J J J (by assumption) J J) J J ?_
    with_reducible refine K_alloc ?_
    refine M1 (Qx J J J) J J ?_
    with_reducible refine Xe ?_
    refine Qy J J J J J J J J J ?_
    refine Qe ?_
    refine Q0 ?_
    refine AWP.pre (st' := (⟨_,[(4,.o (.c (.ptr 4 0))),(5,.o (.c (.ptr 0 0))),(9,I x),(10,I y),(87,.o (.c (.ref 3))),(88,I (els b4).length),(89,I k),(12,.o (.c (.ptr 5 0)))],[.box [.ref 1,jn (w.Tick + 1),jn (nextR sd),.ref 2,.ref 3],.row 1 (els w.Level.Rows),.row 1 (els s4),.row 9 (els b4),.box [nilV,jn 0,jn 0,nilV,nilV],.box ((Enc.e b).map (V1.rd []))]⟩ : St)) ?_ (W_go [0,1,2,3,4,5] (by decide) rfl (rfl) (.cons rfl (.cons rfl (.cons rfl (.cons rfl (.cons rfl (.cons rfl (.cons rfl (.cons rfl (.nil))))))))))
    clear he
    by_cases k1 : b.Kind = 2
    case neg =>
      have p1 : decide (b.Kind = 2) = false := decide_eq_false k1
      refine Qd (Qc ?_);refine M0 (Qf J J J J (by decide)) J J ?_;refine M0 (Qg J J J J J) J J ?_
      refine M0 (Qv J J J J (by assumption)) J J ?_;refine M0 (Qa J J J) J J ?_;refine Qp J J J J J J ?_;refine Qp J J J J J J ?_
      refine Qp J J J J J J ?_;refine Qp J J J J J J ?_;refine M0 (Qn J J J J) J J ?_;refine M0 (Qa J J J) J J ?_
      refine Qp J J J J J J ?_;refine Qp J J J J J J ?_;refine Qp J J J J J J ?_;refine Qp J J J J J J ?_
      refine M0 (Qn J J J J) J J ?_;refine Qe (Q0 ?_);refine Ql rfl ?_;refine Qh (Q1 (Q0 (Qc ?_)))
      refine M0 (Qs J J J J (by omega)) J J ?_;refine M0 (Qa J J J) J J ?_;refine Qe (Q0 ?_)
      exact ⟨b4.length - (k + 1),by omega,(fun k : Nat => (⟨_,[(4,.o (.c (.ptr 4 0))),(5,.o (.c (.ptr 0 0))),(9,I x),(10,I y),(87,.o (.c (.ref 3))),(88,I (els b4).length),(89,I k)],[.box [.ref 1,jn (w.Tick + 1),jn (nextR sd),.ref 2,.ref 3],.row 1 (els w.Level.Rows),.row 1 (els s4),.row 9 (els b4),.box [nilV,jn 0,jn 0,nilV,nilV]]⟩ : St)) (k + 1),W_go [0,1,2,3,4] (by decide) rfl (rfl) (.cons rfl (.cons rfl (.cons rfl (.cons rfl (.cons rfl (.cons rfl (.cons rfl (.nil)))))))),k + 1,by omega,at_go hb (fun h => k1 h.1) hp_A,rfl⟩
    have p1 : decide (b.Kind = 2) = true := decide_eq_true k1
    by_cases k2 : b.X = x
    case neg =>
      have p2 : decide (b.X = x) = false := decide_eq_false k2
      refine Qd (Qc ?_);refine M0 (Qf J J J J (by decide)) J J ?_;refine M0 (Qg J J J J J) J J ?_
      refine M0 (Qv J J J J (by assumption)) J J ?_;refine M0 (Qa J J J) J J ?_;refine Qi J J J ?_
      refine M0 (Qf J J J J (by decide)) J J ?_;refine Qi J J J ?_;refine M0 (Qg J J J J J) J J ?_;refine Qi J J J ?_
      refine M0 (Qa J J J) J J ?_;refine Qi J J J ?_;refine M0 (Qv J J J J (by assumption)) J J ?_;refine M0 (Qo J J J J) J J ?_
      refine M0 (Qa J J J) J J ?_;refine Qp J J J J J J ?_;refine Qp J J J J J J ?_;refine Qp J J J J J J ?_
      refine Qp J J J J J J ?_;refine M0 (Qn J J J J) J J ?_;refine Qe (Q0 ?_);refine Ql rfl ?_;refine Qh (Q1 (Q0 ?_))
      refine Qc ?_;refine M0 (Qs J J J J (by omega)) J J ?_;refine M0 (Qa J J J) J J ?_;refine Qe (Q0 ?_)
      exact ⟨b4.length - (k + 1),by omega,(fun k : Nat => (⟨_,[(4,.o (.c (.ptr 4 0))),(5,.o (.c (.ptr 0 0))),(9,I x),(10,I y),(87,.o (.c (.ref 3))),(88,I (els b4).length),(89,I k)],[.box [.ref 1,jn (w.Tick + 1),jn (nextR sd),.ref 2,.ref 3],.row 1 (els w.Level.Rows),.row 1 (els s4),.row 9 (els b4),.box [nilV,jn 0,jn 0,nilV,nilV]]⟩ : St)) (k + 1),W_go [0,1,2,3,4] (by decide) rfl (rfl) (.cons rfl (.cons rfl (.cons rfl (.cons rfl (.cons rfl (.cons rfl (.cons rfl (.nil)))))))),k + 1,by omega,at_go hb (fun h => k2 h.2.1) hp_A,rfl⟩
    have p2 : decide (b.X = x) = true := decide_eq_true k2
    by_cases k3 : b.Y = y
    case neg =>
      have p3 : decide (b.Y = y) = false := decide_eq_false k3
      refine Qd (Qc ?_);refine M0 (Qf J J J J (by decide)) J J ?_;refine M0 (Qg J J J J J) J J ?_
      refine M0 (Qv J J J J (by assumption)) J J ?_;refine M0 (Qa J J J) J J ?_;refine Qi J J J ?_
      refine M0 (Qf J J J J (by decide)) J J ?_;refine Qi J J J ?_;refine M0 (Qg J J J J J) J J ?_;refine Qi J J J ?_
      refine M0 (Qa J J J) J J ?_;refine Qi J J J ?_;refine M0 (Qv J J J J (by assumption)) J J ?_;refine M0 (Qo J J J J) J J ?_
      refine M0 (Qa J J J) J J ?_;refine Qi J J J ?_;refine M0 (Qf J J J J (by decide)) J J ?_;refine Qi J J J ?_
      refine M0 (Qg J J J J J) J J ?_;refine Qi J J J ?_;refine M0 (Qa J J J) J J ?_;refine Qi J J J ?_
      refine M0 (Qv J J J J (by assumption)) J J ?_;refine M0 (Qo J J J J) J J ?_;refine Qe (Q0 ?_);refine Ql rfl ?_;refine Qh ?_
      refine Q1 (Q0 (Qc ?_));refine M0 (Qs J J J J (by omega)) J J ?_;refine M0 (Qa J J J) J J ?_;refine Qe (Q0 ?_)
      exact ⟨b4.length - (k + 1),by omega,(fun k : Nat => (⟨_,[(4,.o (.c (.ptr 4 0))),(5,.o (.c (.ptr 0 0))),(9,I x),(10,I y),(87,.o (.c (.ref 3))),(88,I (els b4).length),(89,I k)],[.box [.ref 1,jn (w.Tick + 1),jn (nextR sd),.ref 2,.ref 3],.row 1 (els w.Level.Rows),.row 1 (els s4),.row 9 (els b4),.box [nilV,jn 0,jn 0,nilV,nilV]]⟩ : St)) (k + 1),W_go [0,1,2,3,4] (by decide) rfl (rfl) (.cons rfl (.cons rfl (.cons rfl (.cons rfl (.cons rfl (.cons rfl (.cons rfl (.nil)))))))),k + 1,by omega,at_go hb (fun h => k3 h.2.2) hp_A,rfl⟩
    have p3 : decide (b.Y = y) = true := decide_eq_true k3
    rw [last_2 q hxy (at_hit hb ⟨k1,k2,k3⟩)]
    refine Qd (Qc ?_);refine M0 (Qf J J J J (by decide)) J J ?_;refine M0 (Qg J J J J J) J J ?_
    refine M0 (Qv J J J J (by assumption)) J J ?_;refine M0 (Qa J J J) J J ?_;refine Qi J J J ?_
    refine M0 (Qf J J J J (by decide)) J J ?_;refine Qi J J J ?_;refine M0 (Qg J J J J J) J J ?_;refine Qi J J J ?_
    refine M0 (Qa J J J) J J ?_;refine Qi J J J ?_;refine M0 (Qv J J J J (by assumption)) J J ?_;refine M0 (Qo J J J J) J J ?_
    refine M0 (Qa J J J) J J ?_;refine Qi J J J ?_;refine M0 (Qf J J J J (by decide)) J J ?_;refine Qi J J J ?_
    refine M0 (Qg J J J J J) J J ?_;refine Qi J J J ?_;refine M0 (Qa J J J) J J ?_;refine Qi J J J ?_
    refine M0 (Qv J J J J (by assumption)) J J ?_;refine M0 (Qo J J J J) J J ?_;refine Qe (Q0 ?_);refine Qm rfl ?_;refine Qd ?_
    refine Qc ?_;refine M0 (Qu J J J J J J) J J ?_;refine Qy J J J J J J J J J ?_;refine Qe (Q0 (Xa (B_r ?_)))
    refine T_r (T_r (B_r (T_r (F_r ?_))))
    exact E_cell J J J J (W_end [1,2,3] (by decide) J J J)
  · have hb0 : decide ((k : Int) < (els b4).length) = false := decide_eq_false (by omega)
    have hk : k = b4.length := by omega
    rw [hk,List.take_length] at hp_A
    rw [last_3 q hxy hp_A]
    refine Qd (Qc ?_);refine M0 (Qr J J J J (by assumption)) J J ?_;refine Qe (Q0 (Qd ?_));refine Ql rfl ?_;refine Q9 ?_
    refine T_x (T_x (B_xs (Q0 (Qd (Qc ?_)))));refine M0 (Qf J J J J (by decide)) J J ?_
    refine M0 (Qg J J J J J) J J ?_;refine M0 (Qa J J J) J J ?_;refine M0 (Qa J J J) J J ?_
    refine M0 (q_build J J J J J) J J ?_;refine M1 (q_bslice J J J J J J) J J ?_
    refine M_appo J J J J J J J J J J J J J J (by omega) (by omega) ?_;refine M0 (Qf J J J J (by decide)) J J ?_
    refine Q5 J J J J J J J J ?_;refine Qe (Q0 (Qd (Qc ?_)));refine M0 (Qu J J J J J J) J J ?_
    refine Qy J J J J J J J J J ?_;refine Qe (Q0 (Xa (F_r ?_)))
    exact E_cell J J J J (W_end [1,2,3] (by decide) rfl (by exact rwS2 (by rw [els_app]; rfl)) rfl)
end Go.Proofs.Ytmljakmaffbnlaa
end

section
set_option linter.unusedSimpArgs false
set_option linter.unusedVariables false
set_option maxRecDepth 8000
namespace Go.Proofs.Ytmljakmaffbnlaa
open Go.RowKit

theorem mv_two {l : TLevel} {b : TBody} (h : b.Kind = 2) : mvOne l b = some b := by rw [mvOne,if_neg (by omega),if_neg (by omega)]
theorem mv_dead {l : TLevel} {b : TBody} (h : b.Kind = 0) (h1 : b.Life = 0) : mvOne l b = some b := by rw [mvOne,if_neg (by omega),if_neg (by omega)]
theorem at_pl {l : TLevel} {n : Nat} {bs : List TBody} (h : LM l n bs) (x y : Int) : itemAt (bs.take n) x y = false := by
  rw [itemAt,List.any_eq_false]
  intro b hb
  obtain ⟨j,hj⟩ := List.getElem?_of_mem hb
  rw [List.getElem?_take] at hj
  split at hj
  · have := (h.at_ j b hj).2.2 (by assumption)
    simp only [isItem,decide_eq_true_eq]
    omega
  · cases hj
set_option maxHeartbeats 8000000 in
theorem S_l02Step (w : TWorld) (row : List Int) (hg : Enc.gd w) (ho : worldOk w = true) (ht : w.Tick ≠ 100000) (hr : rowOk row w.Scores.length = true) : Con Try.prog 107 [.box [.ref 1,jn w.Tick,jn w.Seed,.ref 2,.ref 3],.row 1 (els w.Level.Rows),.row 1 (els w.Scores),.row 9 (els w.Bodies),.gh 0 (.c (.ptr 0 0))] [.c (.ptr 0 0),al row] [.box [.ref 1,jn (tickM w row).Tick,jn (tickM w row).Seed,.ref 2,.ref 3],.row 1 (els w.Level.Rows),.row 1 (els (tickM w row).Scores),.row 9 (els (tickM w row).Bodies),.gh 0 (.c (.ptr 0 0))] (.tu []) := by
  have hP := PH.of hg ho hr
  have hsr := scores_rng ho
  have hM := hits_lm hP.mv rfl hsr
  obtain ⟨hl,htk,hsd,hn,_,_,_⟩ := worldOk_spec ho
  have htk := inR_iff.1 htk
  have hsd := inR_iff.1 hsd
  have d1 := S_l02Hits ⟨w.Level,w.Tick,w.Seed,w.Scores,movedM w row⟩ hg.1 hl hn hP.mv hsr
  simp only at d1
  obtain ⟨s4,hs4⟩ : ∃ s4,s4 = (hitsR w.Scores.length (movedM w row) w.Scores).2 := ⟨_,rfl⟩
  obtain ⟨b4,hb4⟩ : ∃ b4,b4 = (hitsR w.Scores.length (movedM w row) w.Scores).1 := ⟨_,rfl⟩
  rw [← hs4,← hb4] at d1 hM
  rw [tickM,← hs4,← hb4]
  obtain ⟨hM1,hM2,hM3⟩ := hM
  have e1 := S_NextRandom w.Seed ⟨by omega,by omega⟩
  have e2 := S_SpotsOf w.Level hg.1 hl
  have hlb4 := els_len b4
  have hbl := hM1.len
  have hlsp := els_len (spotsM w.Level)
  have hsl2 := spots_len hl
  have hnr := nextR_rng w.Seed
  clear hs4 hb4 ho
  have hPP := hP
  obtain ⟨hgl,gb,_,hn4,hlen,hbo,hrl,hri⟩ := hP
  have hls := els_len w.Scores
  have hlr := els_len row
  refine Con.of Try.func107 rfl Try.ntmps107 rfl (fun E => ?_)
  refine Qd (Qc ?_);refine M0 (Qa J J J) J J ?_;refine M0 (Qz J J J) J J ?_;refine M0 (Qf J J J J (by decide)) J J ?_
  refine M0 (Qg J J J J J) J J ?_;refine M0 (q_lenr J J J J) J J ?_;refine M0 (Qb J J J) J J ?_;refine Qe (Q0 (Qd ?_))
  refine Qd (Qc ?_);refine M0 (Qb J J J) J J ?_;refine Qe (Q0 (Qk ?_))
  refine A_loop (fun m st => ∃ (k : Nat) (bs : List TBody),k + m = w.Scores.length ∧ (bs = plM w.Level row w.Bodies k) ∧ st = (fun (k : Nat) (bs : List TBody) => (⟨_,[(0,.o (.c (.ptr 0 0))),(1,L row),(4,I (els w.Scores).length),(5,I k)],[.box [.ref 1,jn w.Tick,jn w.Seed,.ref 2,.ref 3],.row 1 (els w.Level.Rows),.row 1 (els w.Scores),.row 9 (els bs),.gh 0 (.c (.ptr 0 0))]⟩ : St)) k bs) (w.Scores.length) ⟨(fun (k : Nat) (bs : List TBody) => (⟨_,[(0,.o (.c (.ptr 0 0))),(1,L row),(4,I (els w.Scores).length),(5,I k)],[.box [.ref 1,jn w.Tick,jn w.Seed,.ref 2,.ref 3],.row 1 (els w.Level.Rows),.row 1 (els w.Scores),.row 9 (els bs),.gh 0 (.c (.ptr 0 0))]⟩ : St)) 0 (w.Bodies),W_go [0,1,2,3,4] (by decide) rfl (rfl) (.cons rfl (.cons rfl (.cons rfl (.cons rfl (.nil))))),0,w.Bodies,by omega,rfl,rfl⟩ ?_
  rintro m_A _ ⟨k,bs,hk_A,hp_A,rfl⟩
  by_cases hlt : k < w.Scores.length
  · have hb0 : decide ((k : Int) < (els w.Scores).length) = true := decide_eq_true (by omega)
    have hP := P1.all hl hn4.2 hlen hbo row k (by omega)
    rw [← hp_A] at hP
    have hln := hP.lm.len
    obtain ⟨b,hb⟩ := some_sm (xs := bs) (i := k) (by omega)
    have hold := hP.old k (Nat.le_refl _) hlt
    have hI := old_at hbo (by rw [← hold]; exact hb) hlt
    have hB := (hP.lm.at_ k b hb).1
    obtain ⟨hpl,hpx,hpy⟩ := hB.placed hl
    obtain ⟨i,hi⟩ := some_sm (xs := row) (i := k) (by omega)
    have hir := hri i (List.mem_of_getElem? hi)
    have hnx := pl_next hp_A hb hi
    have he := els_sm hb
    have her := els_sm hi
    have hlb := els_len bs
    have htm := hI.tm
    have hkl := getE_lt hb
    clear d1 e1 e2
    by_cases hf : b.Life = 0
    · have f1 : decide (b.Life = 0) = true := decide_eq_true hf
      rw [plOne,if_pos hf] at hnx
      refine Qd (Qd (Qc ?_));refine M0 (Qa J J J) J J ?_;refine M0 (Qa J J J) J J ?_
      refine M0 (Qr J J J J (by assumption)) J J ?_;refine Qe (Q0 ?_);refine Qm rfl ?_;refine Qh (Q0 (Qd (Qk ?_)))
      refine Qd (Qd (Qc ?_));refine M0 (Qa J J J) J J ?_;refine M0 (Qz J J J) J J ?_
      refine M0 (Qf J J J J (by decide)) J J ?_;refine M0 (Qg J J J J J) J J ?_;refine M0 (Qa J J J) J J ?_
      refine M0 (Q3 J J J J J (by omega) (by omega)) J J ?_;refine M0 (q_flde J J J J (by decide)) J J ?_
      refine M0 (Q7 J J J J (by assumption) rfl) J J ?_;refine M0 (Qv J J J J (by assumption)) J J ?_;refine Qe (Q0 ?_);refine Qm rfl ?_
      refine Qd (Qc ?_);refine M0 (Qa J J J) J J ?_;refine M0 (Qz J J J) J J ?_;refine M0 (Qf J J J J (by decide)) J J ?_
      refine M0 (Qg J J J J J) J J ?_;refine M0 (Qa J J J) J J ?_;refine M0 (Q3 J J J J J (by omega) (by omega)) J J ?_
      refine M0 (q_flde J J J J (by decide)) J J ?_;refine M0 (Q7 J J J J (by assumption) rfl) J J ?_;refine M0 (Xc J J J J (by omega)) J J ?_
      refine M0 (Q3 J J J J J (by omega) (by omega)) J J ?_;refine M0 (q_flde J J J J (by decide)) J J ?_
      refine Xh J J J J J J J J J (by assumption) J J ?_;refine Qe (Q0 (Qd (Qd (Qc ?_))))
      refine M0 (Qa J J J) J J ?_;refine M0 (Qz J J J) J J ?_;refine M0 (Qf J J J J (by decide)) J J ?_
      refine M0 (Qg J J J J J) J J ?_;refine M0 (Qa J J J) J J ?_
      refine AL.weak (st' := (⟨_,[(0,.o (.c (.ptr 0 0))),(1,L row),(4,I (els w.Scores).length),(5,I k),(50,.o (.c (.ref 3))),(51,I k)],[.box [.ref 1,jn w.Tick,jn w.Seed,.ref 2,.ref 3],.row 1 (els w.Level.Rows),.row 1 (els w.Scores),.row 9 (els (bs.set k (tick1 b))),.gh 0 (.c (.ptr 0 0))]⟩ : St)) (W_go [0,1,2,3,4] (by decide) rfl ((by exact rwBo (st_el0 rfl))) (.cons rfl (.cons rfl (.cons rfl (.cons rfl (.cons rfl (.cons rfl (.nil)))))))) ?_
      clear he
      have he : (els (bs.set k (tick1 b)))[(k : Int).toNat]? = some (Enc.e (tick1 b)) := els_sm (by rw [List.getElem?_set_self hkl])
      have hlb2 : (els (bs.set k (tick1 b))).length = bs.length := by rw [els_len,List.length_set]
      by_cases ht : b.Timer - 1 = 0
      · have f2 : decide (b.Timer - 1 = 0) = true := decide_eq_true ht
        rw [if_pos ht] at hnx
        have cf := S_fresh w.Level k hg.1 hl ⟨by omega,by omega⟩
        refine M0 (Q3 J J J J J (by omega) (by omega)) J J ?_;refine M0 (q_flde J J J J (by decide)) J J ?_
        refine M0 (Q7 J J J J (by assumption) rfl) J J ?_;refine M0 (Qv J J J J (by assumption)) J J ?_;refine Qe (Q0 ?_);refine Qm rfl ?_
        refine AWP.pre (st' := (⟨_,[(0,.o (.c (.ptr 0 0))),(1,L row),(4,I (els w.Scores).length),(5,I k)],[.box [.ref 1,jn w.Tick,jn w.Seed,.ref 2,.ref 3],.row 1 (els w.Level.Rows),.row 1 (els w.Scores),.row 9 (els (bs.set k (tick1 b))),.gh 0 (.c (.ptr 0 0))]⟩ : St)) ?_ (W_go [0,1,2,3,4] (by decide) rfl (rfl) (.cons rfl (.cons rfl (.cons rfl (.cons rfl (.nil))))))
        refine A_draw [[],[0],[0,1],[0,1,2],[],[],[5],[5,6],[5,6,7],[],[5,6,7,8,9],[0,1,2,3,4,5,6,7,8,9,10],[0,1,2,3,4,5,6,7,8,9,10,11]] [[],[56],[56,57],[56,57,58],[],[],[61],[61,62],[61,62,63],[],[61,62,63,64,65],[56,57,58,59,60,61,62,63,64,65,66],[56,57,58,59,60,61,62,63,64,65,66,67]] [[60,61,62,63,64,65,66],[60,61,62,63,64,65,66],[60,61,62,63,64,65,66],[60,61,62,63,64,65,66],[56,57,58,59,61,62,63,64,65,66],[56,57,58,59,60,65],[56,57,58,59,60,65],[56,57,58,59,60,65],[56,57,58,59,60,65],[56,57,58,59,60,61,62,63,64],[56,57,58,59,60],[],[]] rfl ?_
        refine DR.step (Qa J J J) J J ?_;refine DR.step (Qz J J J) J J ?_;refine DR.step (Qf J J J J (by decide)) J J ?_
        refine DR.step (Qg J J J J J) J J ?_;refine DR.step (Qa J J J) J J ?_;refine DR.step (Qa J J J) J J ?_
        refine DR.step (Qz J J J) J J ?_;refine DR.step (Qf J J J J (by decide)) J J ?_;refine DR.step (Qu J J J J J J) J J ?_
        refine DR.step (Qa J J J) J J ?_;refine DR.step (q_call J J (cf) J J J) J J ?_;refine DR.step (Q3 J J J J J (by omega) (by omega)) J J ?_
        refine DR.stop (by kernel_rfl) (by kernel_rfl) ?_
        refine AL.weak (st' := (⟨_,[(0,.o (.c (.ptr 0 0))),(1,L row),(4,I (els w.Scores).length),(5,I k),(66,.o (.ag ((Enc.e (fresh w.Level k)).map (V1.rd [])))),(67,.o (.c (.el 3 9 k 0)))],[.box [.ref 1,jn w.Tick,jn w.Seed,.ref 2,.ref 3],.row 1 (els w.Level.Rows),.row 1 (els w.Scores),.row 9 (els (bs.set k (tick1 b))),.gh 0 (.c (.ptr 0 0))]⟩ : St)) (W_go [0,1,2,3,4] (by decide) rfl (rfl) (.cons rfl (.cons rfl (.cons rfl (.cons rfl (.cons rfl (.cons rfl (.nil)))))))) ?_
        refine Xg J J J J J J J J J J (by assumption) J J ?_;refine Qe (Q0 (Q9 (T_x (B_xs (Q0 ?_)))))
        refine Qc ?_;refine M0 (Qa J J J) J J ?_;refine M0 (Qs J J J J (by omega)) J J ?_;refine M0 (Qb J J J) J J ?_;refine Qe ?_
        refine Q0 ?_
        exact ⟨w.Scores.length - (k + 1),by omega,(fun (k : Nat) (bs : List TBody) => (⟨_,[(0,.o (.c (.ptr 0 0))),(1,L row),(4,I (els w.Scores).length),(5,I k)],[.box [.ref 1,jn w.Tick,jn w.Seed,.ref 2,.ref 3],.row 1 (els w.Level.Rows),.row 1 (els w.Scores),.row 9 (els bs),.gh 0 (.c (.ptr 0 0))]⟩ : St)) (k + 1) (bs.set k (fresh w.Level k)),W_go [0,1,2,3,4] (by decide) rfl ((by exact rwBo (st_el rfl))) (.cons rfl (.cons rfl (.cons rfl (.cons rfl (.nil))))),k + 1,bs.set k (fresh w.Level k),by omega,hnx.symm,rfl⟩
      · have f2 : decide (b.Timer - 1 = 0) = false := decide_eq_false ht
        rw [if_neg ht] at hnx
        refine M0 (Q3 J J J J J (by omega) (by omega)) J J ?_;refine M0 (q_flde J J J J (by decide)) J J ?_
        refine M0 (Q7 J J J J (by assumption) rfl) J J ?_;refine M0 (Qv J J J J (by assumption)) J J ?_;refine Qe (Q0 ?_);refine Ql rfl ?_
        refine Qh (Q0 (Q9 (T_x (B_xs (Q0 (Qc ?_))))));refine M0 (Qa J J J) J J ?_
        refine M0 (Qs J J J J (by omega)) J J ?_;refine M0 (Qb J J J) J J ?_;refine Qe (Q0 ?_)
        exact ⟨w.Scores.length - (k + 1),by omega,(fun (k : Nat) (bs : List TBody) => (⟨_,[(0,.o (.c (.ptr 0 0))),(1,L row),(4,I (els w.Scores).length),(5,I k)],[.box [.ref 1,jn w.Tick,jn w.Seed,.ref 2,.ref 3],.row 1 (els w.Level.Rows),.row 1 (els w.Scores),.row 9 (els bs),.gh 0 (.c (.ptr 0 0))]⟩ : St)) (k + 1) (bs.set k (tick1 b)),W_go [0,1,2,3,4] (by decide) rfl (rfl) (.cons rfl (.cons rfl (.cons rfl (.cons rfl (.nil))))),k + 1,bs.set k (tick1 b),by omega,hnx.symm,rfl⟩
    · have f1 : decide (b.Life = 0) = false := decide_eq_false hf
      rw [plOne,if_neg hf] at hnx
      have hfl := hB.f
      obtain ⟨c,f,hcf⟩ : ∃ c f,(c,f) = steer w.Level b i := ⟨_,_,rfl⟩
      have cs := S_l02Steer w.Level b i hg.1 hl hI.kd hir ⟨by omega,by omega⟩ hB.vy (by have := hB.p; rw [hI.kd] at this; exact this)
      have hca := steer_aim (l := w.Level) (i := i) hI.am
      have hcx : (steer w.Level b i).1.X = b.X ∧ (steer w.Level b i).1.Y = b.Y := ⟨rfl,rfl⟩
      rw [← hcf] at cs hnx hca hcx
      simp only at cs hnx hca hcx
      have csh := S_ShotOf c (by rw [hcx.1]; exact hpl.x) (by rw [hcx.2]; exact hpl.y) (by omega)
      have hlc : (els (bs.set k c)).length = bs.length := by rw [els_len,List.length_set]
      clear hcf hca hcx
      refine Qd (Qd (Qc ?_));refine M0 (Qa J J J) J J ?_;refine M0 (Qa J J J) J J ?_
      refine M0 (Qr J J J J (by assumption)) J J ?_;refine Qe (Q0 ?_);refine Qm rfl ?_;refine Qh (Q0 (Qd (Qk ?_)))
      refine Qd (Qd (Qc ?_));refine M0 (Qa J J J) J J ?_;refine M0 (Qz J J J) J J ?_
      refine M0 (Qf J J J J (by decide)) J J ?_;refine M0 (Qg J J J J J) J J ?_;refine M0 (Qa J J J) J J ?_
      refine M0 (Q3 J J J J J (by omega) (by omega)) J J ?_;refine M0 (q_flde J J J J (by decide)) J J ?_
      refine M0 (Q7 J J J J (by assumption) rfl) J J ?_;refine M0 (Qv J J J J (by assumption)) J J ?_;refine Qe (Q0 ?_);refine Ql rfl ?_
      refine Qh (Q0 (Qd ?_))
      refine AWP.pre (st' := (⟨_,[(0,.o (.c (.ptr 0 0))),(1,L row),(4,I (els w.Scores).length),(5,I k)],[.box [.ref 1,jn w.Tick,jn w.Seed,.ref 2,.ref 3],.row 1 (els w.Level.Rows),.row 1 (els w.Scores),.row 9 (els bs),.gh 0 (.c (.ptr 0 0))]⟩ : St)) ?_ (W_go [0,1,2,3,4] (by decide) rfl (rfl) (.cons rfl (.cons rfl (.cons rfl (.cons rfl (.nil))))))
      refine A_draw [[],[0],[0,1],[0,1,2],[],[4],[4,5],[4,5,6],[],[4,5,6,7,8],[4,5,6,7,8,9],[],[],[11,12],[11,12,13],[0,1,2,3,4,5,6,7,8,9,10,11,12,13,14],[0,1,2,3,4,5,6,7,8,9,10,11,12,13,14,15],[0,1,2,3,4,5,6,7,8,9,10,11,12,13,14,15,16],[0,1,2,3,4,5,6,7,8,9,10,11,12,13,14,15,16],[],[0,1,2,3,4,5,6,7,8,9,10,11,12,13,14,15,16,17,19],[0,1,2,3,4,5,6,7,8,9,10,11,12,13,14,15,16,17,18,19,20]] [[],[69],[69,70],[69,70,71],[],[73],[73,74],[73,74,75],[],[73,74,75,76,77],[73,74,75,76,77,78],[],[],[80,81],[80,81,82],[69,70,71,72,73,74,75,76,77,78,79,80,81,82,83],[69,70,71,72,73,74,75,76,77,78,79,80,81,82,83,84],[68,69,70,71,72,73,74,75,76,77,78,79,80,81,82,83,84],[68,69,70,71,72,73,74,75,76,77,78,79,80,81,82,83,84],[],[6,68,69,70,71,72,73,74,75,76,77,78,79,80,81,82,83,84,85],[6,68,69,70,71,72,73,74,75,76,77,78,79,80,81,82,83,84,85,86]] [[6,73,74,75,76,77,78,79,80,81,82,83],[6,73,74,75,76,77,78,79,80,81,82,83],[6,73,74,75,76,77,78,79,80,81,82,83],[6,73,74,75,76,77,78,79,80,81,82,83],[6,69,70,71,72,77,80,81,82,83],[6,69,70,71,72,77,80,81,82,83],[6,69,70,71,72,77,80,81,82,83],[6,69,70,71,72,77,80,81,82,83],[6,69,70,71,72,73,74,75,76,80,81,82,83],[6,69,70,71,72,80,81,82,83],[6,69,70,71,72,80,81,82,83],[6,69,70,71,72,73,74,75,76,77,78,79,81],[6,69,70,71,72,73,74,75,76,77,78,79,80],[6,69,70,71,72,73,74,75,76,77,78,79],[6,69,70,71,72,73,74,75,76,77,78,79],[6],[6],[6,86],[6,85],[68,69,70,71,72,73,74,75,76,77,78,79,80,81,82,83,84,85,86],[86],[],[18]] rfl ?_
      refine DR.step (Qa J J J) J J ?_;refine DR.step (Qz J J J) J J ?_;refine DR.step (Qf J J J J (by decide)) J J ?_
      refine DR.step (Qu J J J J J J) J J ?_;refine DR.step (Qa J J J) J J ?_;refine DR.step (Qz J J J) J J ?_
      refine DR.step (Qf J J J J (by decide)) J J ?_;refine DR.step (Qg J J J J J) J J ?_;refine DR.step (Qa J J J) J J ?_
      refine DR.step (Q3 J J J J J (by omega) (by omega)) J J ?_;refine DR.step (Q6 J J J J (by assumption) J J) J J ?_
      refine DR.step (Qa J J J) J J ?_;refine DR.step (Qa J J J) J J ?_;refine DR.step (Q2 J J J J (by omega) (by assumption) rfl) J J ?_
      refine DR.step (q_lr1 J J J J) J J ?_;refine DR.step (q_call J J (cs) J J J) J J ?_;refine DR.step (Q8 J J J) J J ?_
      refine DR.step (q_ext J J J J) J J ?_;refine DR.step (q_ext J J J J) J J ?_;refine DR.step (Qx J J J) J J ?_
      refine DR.stop (by kernel_rfl) (by kernel_rfl) ?_
      refine AL.weak (st' := (⟨_,[(0,.o (.c (.ptr 0 0))),(1,L row),(4,I (els w.Scores).length),(5,I k),(6,.o (.c (.ptr 5 0))),(85,.o (.ag ((Enc.e c).map (V1.rd [])))),(86,B f)],[.box [.ref 1,jn w.Tick,jn w.Seed,.ref 2,.ref 3],.row 1 (els w.Level.Rows),.row 1 (els w.Scores),.row 9 (els bs),.gh 0 (.c (.ptr 0 0)),.box [jn 0,jn 0,jn 0,jn 0,jn 0,jn 0,jn 0,jn 0,jn 0]]⟩ : St)) (W_go [0,1,2,3,4,5] (by decide) rfl (rfl) (.cons rfl (.cons rfl (.cons rfl (.cons rfl (.cons rfl (.cons rfl (.cons rfl (.nil))))))))) ?_
      refine Qy J J J J J J J J J ?_;refine M0 (Qb J J J) J J ?_;refine Qe (Q0 (Qd ?_))
      refine AWP.pre (st' := (⟨_,[(0,.o (.c (.ptr 0 0))),(1,L row),(4,I (els w.Scores).length),(5,I k),(6,.o (.c (.ptr 5 0))),(7,B f)],[.box [.ref 1,jn w.Tick,jn w.Seed,.ref 2,.ref 3],.row 1 (els w.Level.Rows),.row 1 (els w.Scores),.row 9 (els bs),.gh 0 (.c (.ptr 0 0)),.box ((Enc.e c).map (V1.rd []))]⟩ : St)) ?_ (W_go [0,1,2,3,4,5] (by decide) rfl (rfl) (.cons rfl (.cons rfl (.cons rfl (.cons rfl (.cons rfl (.cons rfl (.nil))))))))
      refine A_draw [[],[0],[0,1],[0,1,2],[],[],[0,1,2,3,4,5],[0,1,2,3,4,5,6]] [[],[87],[87,88],[87,88,89],[],[],[87,88,89,90,91,92],[87,88,89,90,91,92,93]] [[91,92],[91,92],[91,92],[91,92],[87,88,89,90,92],[87,88,89,90,91],[],[]] rfl ?_
      refine DR.step (Qa J J J) J J ?_;refine DR.step (Qz J J J) J J ?_;refine DR.step (Qf J J J J (by decide)) J J ?_
      refine DR.step (Qg J J J J J) J J ?_;refine DR.step (Qa J J J) J J ?_;refine DR.step (Qu J J J J J J) J J ?_
      refine DR.step (Q3 J J J J J (by omega) (by omega)) J J ?_;refine DR.stop (by kernel_rfl) (by kernel_rfl) ?_
      refine AL.weak (st' := (⟨_,[(0,.o (.c (.ptr 0 0))),(1,L row),(4,I (els w.Scores).length),(5,I k),(6,.o (.c (.ptr 5 0))),(7,B f),(92,.o (.ag ((Enc.e c).map (V1.rd [])))),(93,.o (.c (.el 3 9 k 0)))],[.box [.ref 1,jn w.Tick,jn w.Seed,.ref 2,.ref 3],.row 1 (els w.Level.Rows),.row 1 (els w.Scores),.row 9 (els bs),.gh 0 (.c (.ptr 0 0)),.box ((Enc.e c).map (V1.rd []))]⟩ : St)) (W_go [0,1,2,3,4,5] (by decide) rfl (rfl) (.cons rfl (.cons rfl (.cons rfl (.cons rfl (.cons rfl (.cons rfl (.cons rfl (.cons rfl (.nil)))))))))) ?_
      with_reducible refine Xe ?_
      refine Xg J J J J J J J J J J (by assumption) J J ?_
      refine Qe ?_
      refine Q0 ?_
      refine AWP.pre (st' := (⟨_,[(0,.o (.c (.ptr 0 0))),(1,L row),(4,I (els w.Scores).length),(5,I k),(6,.o (.c (.ptr 5 0))),(7,B f)],[.box [.ref 1,jn w.Tick,jn w.Seed,.ref 2,.ref 3],.row 1 (els w.Level.Rows),.row 1 (els w.Scores),.row 9 (els (bs.set k c)),.gh 0 (.c (.ptr 0 0)),.box ((Enc.e c).map (V1.rd []))]⟩ : St)) ?_ (W_go [0,1,2,3,4,5] (by decide) rfl ((by exact rwBo (by rw [els_set]; rfl))) (.cons rfl (.cons rfl (.cons rfl (.cons rfl (.cons rfl (.cons rfl (.nil))))))))
      clear he
      cases f with
      | false =>
        refine Qd (Qc ?_);refine M0 (Qa J J J) J J ?_;refine M0 (Qa J J J) J J ?_;refine Qp J J J J J J ?_
        refine Qp J J J J J J ?_;refine Qp J J J J J J ?_;refine Qp J J J J J J ?_;refine Qp J J J J J J ?_
        refine Qp J J J J J J ?_;refine M0 (Qn J J J J) J J ?_;refine Qe (Q0 ?_);refine Ql rfl ?_;refine Qh (Q1 (Q0 ?_))
        refine Qc ?_;refine M0 (Qa J J J) J J ?_;refine M0 (Qs J J J J (by omega)) J J ?_;refine M0 (Qb J J J) J J ?_;refine Qe ?_
        refine Q0 ?_
        exact ⟨w.Scores.length - (k + 1),by omega,(fun (k : Nat) (bs : List TBody) => (⟨_,[(0,.o (.c (.ptr 0 0))),(1,L row),(4,I (els w.Scores).length),(5,I k)],[.box [.ref 1,jn w.Tick,jn w.Seed,.ref 2,.ref 3],.row 1 (els w.Level.Rows),.row 1 (els w.Scores),.row 9 (els bs),.gh 0 (.c (.ptr 0 0))]⟩ : St)) (k + 1) (bs.set k c),W_go [0,1,2,3,4] (by decide) rfl (rfl) (.cons rfl (.cons rfl (.cons rfl (.cons rfl (.nil))))),k + 1,bs.set k c,by omega,(by rw [hnx]; rfl),rfl⟩
      | true =>
        by_cases h24 : bs.length < 24
        · have f3 : decide (((els (bs.set k c)).length : Int) < 24) = true := decide_eq_true (by omega)
          rw [if_pos ⟨rfl,h24⟩] at hnx
          refine Qd (Qc ?_);refine M0 (Qa J J J) J J ?_;refine M0 (Qa J J J) J J ?_;refine Qi J J J ?_
          refine M0 (Qa J J J) J J ?_;refine M0 (Qt.yes J J J (Qz J J J)) J J ?_;refine Qi J J J ?_
          refine M0 (Qf J J J J (by decide)) J J ?_;refine Qi J J J ?_;refine M0 (Qg J J J J J) J J ?_;refine Qi J J J ?_
          refine M0 (q_lenr J J J J) J J ?_;refine Qi J J J ?_;refine M0 (Qr J J J J (by assumption)) J J ?_;refine M0 (Qo J J J J) J J ?_
          refine Qe (Q0 ?_);refine Qm rfl ?_
          refine A_draw [[],[],[1],[1,2],[1,2,3],[],[5],[5,6],[1,2,3,4,5,6,7],[0,1,2,3,4,5,6,7,8],[0,1,2,3,4,5,6,7,8,9],[0,1,2,3,4,5,6,7,8,9,10]] [[],[],[104],[104,105],[104,105,106],[],[108],[108,109],[104,105,106,107,108,109,110],[103,104,105,106,107,108,109,110,111],[103,104,105,106,107,108,109,110,111,112],[103,104,105,106,107,108,109,110,111,112,113]] [[104,105,106,107,108,109,110,111],[103,108,109,110],[103,108,109,110],[103,108,109,110],[103,108,109,110],[103,104,105,106,107],[103,104,105,106,107],[103,104,105,106,107],[103],[],[],[],[0]] rfl ?_
          refine DR.step (Qa J J J) J J ?_;refine DR.step (Qa J J J) J J ?_;refine DR.step (Qz J J J) J J ?_
          refine DR.step (Qf J J J J (by decide)) J J ?_;refine DR.step (Qg J J J J J) J J ?_;refine DR.step (Qu J J J J J J) J J ?_
          refine DR.step (q_call J J (csh) J J J) J J ?_;refine DR.step (q_bslice J J J J J J) J J ?_;refine DR.stop (by kernel_rfl) (by kernel_rfl) ?_
          refine AL.weak (st' := (⟨_,[(0,.o (.c (.ptr 0 0))),(1,L row),(4,I (els w.Scores).length),(5,I k),(103,.o (.c (.ptr 0 0))),(107,.o (.c (.ref 3))),(110,.o (.c (.sb 5 1 9)))],[.box [.ref 1,jn w.Tick,jn w.Seed,.ref 2,.ref 3],.row 1 (els w.Level.Rows),.row 1 (els w.Scores),.row 9 (els (bs.set k c)),.gh 0 (.c (.ptr 0 0)),.box ((Enc.e (shotOf c)).map (V1.rd []))]⟩ : St)) (W_go [0,1,2,3,4,6] (by decide) rfl (rfl) (.cons rfl (.cons rfl (.cons rfl (.cons rfl (.cons rfl (.cons rfl (.cons rfl (.nil))))))))) ?_
          refine M_appo J J J J J J J J J J J J J J (by omega) (by omega) ?_;refine M0 (Qz J J J) J J ?_
          refine M0 (Qf J J J J (by decide)) J J ?_;refine Q5 J J J J J J J J ?_;refine Qe (Q1 (Q0 (Qc ?_)))
          refine M0 (Qa J J J) J J ?_;refine M0 (Qs J J J J (by omega)) J J ?_;refine M0 (Qb J J J) J J ?_;refine Qe (Q0 ?_)
          exact ⟨w.Scores.length - (k + 1),by omega,(fun (k : Nat) (bs : List TBody) => (⟨_,[(0,.o (.c (.ptr 0 0))),(1,L row),(4,I (els w.Scores).length),(5,I k)],[.box [.ref 1,jn w.Tick,jn w.Seed,.ref 2,.ref 3],.row 1 (els w.Level.Rows),.row 1 (els w.Scores),.row 9 (els bs),.gh 0 (.c (.ptr 0 0))]⟩ : St)) (k + 1) (bs.set k c ++ [shotOf c]),W_go [0,1,2,3,4] (by decide) rfl (rwBo (by rw [els_app]; rfl)) (.cons rfl (.cons rfl (.cons rfl (.cons rfl (.nil))))),k + 1,bs.set k c ++ [shotOf c],by omega,hnx.symm,rfl⟩
        · have f3 : decide (((els (bs.set k c)).length : Int) < 24) = false := decide_eq_false (by omega)
          rw [if_neg (fun q => h24 q.2)] at hnx
          refine Qd (Qc ?_);refine M0 (Qa J J J) J J ?_;refine M0 (Qa J J J) J J ?_;refine Qi J J J ?_
          refine M0 (Qa J J J) J J ?_;refine M0 (Qt.yes J J J (Qz J J J)) J J ?_;refine Qi J J J ?_
          refine M0 (Qf J J J J (by decide)) J J ?_;refine Qi J J J ?_;refine M0 (Qg J J J J J) J J ?_;refine Qi J J J ?_
          refine M0 (q_lenr J J J J) J J ?_;refine Qi J J J ?_;refine M0 (Qr J J J J (by assumption)) J J ?_;refine M0 (Qo J J J J) J J ?_
          refine Qe (Q0 ?_);refine Ql rfl ?_;refine Qh (Q1 (Q0 (Qc ?_)));refine M0 (Qa J J J) J J ?_
          refine M0 (Qs J J J J (by omega)) J J ?_;refine M0 (Qb J J J) J J ?_;refine Qe (Q0 ?_)
          exact ⟨w.Scores.length - (k + 1),by omega,(fun (k : Nat) (bs : List TBody) => (⟨_,[(0,.o (.c (.ptr 0 0))),(1,L row),(4,I (els w.Scores).length),(5,I k)],[.box [.ref 1,jn w.Tick,jn w.Seed,.ref 2,.ref 3],.row 1 (els w.Level.Rows),.row 1 (els w.Scores),.row 9 (els bs),.gh 0 (.c (.ptr 0 0))]⟩ : St)) (k + 1) (bs.set k c),W_go [0,1,2,3,4] (by decide) rfl (rfl) (.cons rfl (.cons rfl (.cons rfl (.cons rfl (.nil))))),k + 1,bs.set k c,by omega,hnx.symm,rfl⟩
  have hb0 : decide ((k : Int) < (els w.Scores).length) = false := decide_eq_false (by omega)
  have hk : k = w.Scores.length := by omega
  rw [hk] at hp_A
  have hPl := hPP.pl
  rw [← hp_A] at hPl
  have hmv : movedM w row = mvM w.Level bs := by rw [movedM,hp_A]
  have hL := hPl.lm
  have htm := hPl.tm
  clear hPl hPP hp_A hbo
  have hlb := els_len bs
  have hln := hL.len
  refine Qd (Qd (Qc ?_));refine M0 (Qa J J J) J J ?_;refine M0 (Qa J J J) J J ?_
  refine M0 (Qr J J J J (by assumption)) J J ?_;refine Qe (Q0 ?_);refine Ql rfl ?_;refine Q9 (T_x (T_x (B_xs (Q0 ?_))))
  refine Qd (Qc ?_);refine M1 (q_bslice0 J J J) J J ?_;refine M0 (Qb J J J) J J ?_;refine Qe (Q0 (Qd (Qd ?_)))
  refine Qc ?_;refine M0 (Qb J J J) J J ?_;refine Qe (Q0 (Qk ?_))
  refine A_loop (fun m st => ∃ (j : Nat) (kr : List TBody),j + m = bs.length ∧ (kr = (bs.take j).filterMap (mvOne w.Level)) ∧ st = (fun (j : Nat) (kr : List TBody) => (⟨_,[(0,.o (.c (.ptr 0 0))),(1,L row),(4,I (els w.Scores).length),(8,.o (.c (.ref 5))),(9,I j)],[.box [.ref 1,jn w.Tick,jn w.Seed,.ref 2,.ref 3],.row 1 (els w.Level.Rows),.row 1 (els w.Scores),.row 9 (els bs),.gh 0 (.c (.ptr 0 0)),.row 9 (els kr)]⟩ : St)) j kr) (bs.length) ⟨(fun (j : Nat) (kr : List TBody) => (⟨_,[(0,.o (.c (.ptr 0 0))),(1,L row),(4,I (els w.Scores).length),(8,.o (.c (.ref 5))),(9,I j)],[.box [.ref 1,jn w.Tick,jn w.Seed,.ref 2,.ref 3],.row 1 (els w.Level.Rows),.row 1 (els w.Scores),.row 9 (els bs),.gh 0 (.c (.ptr 0 0)),.row 9 (els kr)]⟩ : St)) 0 ([]),W_go [0,1,2,3,4,5] (by decide) rfl (rfl) (.cons rfl (.cons rfl (.cons rfl (.cons rfl (.cons rfl (.nil)))))),0,[],by omega,rfl,rfl⟩ ?_
  rintro m_B _ ⟨j,kr,hk_B,hp_B,rfl⟩
  have hlkr := els_len kr
  have hkl := mv_len hp_B
  by_cases hlt : j < bs.length
  · have hb0 : decide ((j : Int) < (els bs).length) = true := decide_eq_true (by omega)
    obtain ⟨b,hb⟩ := some_sm hlt
    refine Qd (Qd (Qc ?_));refine M0 (Qa J J J) J J ?_;refine M0 (Qa J J J) J J ?_;refine M0 (Qz J J J) J J ?_
    refine M0 (Qf J J J J (by decide)) J J ?_;refine M0 (Qg J J J J J) J J ?_;refine M0 (q_lenr J J J J) J J ?_
    refine M0 (Qr J J J J (by assumption)) J J ?_;refine Qe (Q0 ?_);refine Qm rfl ?_;refine Qh (Q0 (Qd (Qk ?_)))
    refine Qd (Qc ?_);refine M0 (Qa J J J) J J ?_;refine M0 (Qz J J J) J J ?_;refine M0 (Qf J J J J (by decide)) J J ?_
    refine M0 (Qg J J J J J) J J ?_;refine M0 (Qa J J J) J J ?_;refine M0 (Q3 J J J J J (by omega) (by omega)) J J ?_
    have he := els_sm hb
    with_reducible refine Xf ?_
    refine M0 (Q6 J J J J (by assumption) J J) J J ?_
    with_reducible refine K_alloc ?_
    refine M1 (Qx J J J) J J ?_
    with_reducible refine Xe ?_
    refine Qy J J J J J J J J J ?_
    refine Qe ?_
    refine Q0 ?_
    refine AWP.pre (st' := (⟨_,[(0,.o (.c (.ptr 0 0))),(1,L row),(4,I (els w.Scores).length),(8,.o (.c (.ref 5))),(9,I j),(10,.o (.c (.ptr 6 0)))],[.box [.ref 1,jn w.Tick,jn w.Seed,.ref 2,.ref 3],.row 1 (els w.Level.Rows),.row 1 (els w.Scores),.row 9 (els bs),.gh 0 (.c (.ptr 0 0)),.row 9 (els kr),.box ((Enc.e b).map (V1.rd []))]⟩ : St)) ?_ (W_go [0,1,2,3,4,5,6] (by decide) rfl (rfl) (.cons rfl (.cons rfl (.cons rfl (.cons rfl (.cons rfl (.cons rfl (.nil))))))))
    clear he
    obtain ⟨hB,hKn⟩ := hL.at_ j b hb
    have hkd := hB.k
    have hlf := hB.f
    have ht := htm b (List.mem_of_getElem? hb)
    by_cases k2 : b.Kind = 2
    · have f1 : decide (b.Kind = 2) = true := decide_eq_true k2
      have hm := mv_some hp_B hb (mv_two k2)
      refine Qd (Qd (Qc ?_));refine M0 (Qf J J J J (by decide)) J J ?_;refine M0 (Qg J J J J J) J J ?_
      refine M0 (Qv J J J J (by assumption)) J J ?_;refine M0 (Qa J J J) J J ?_;refine Qp J J J J J J ?_;refine Qp J J J J J J ?_
      refine Qp J J J J J J ?_;refine Qp J J J J J J ?_;refine M0 (Qt.no2 J J J) J J ?_;refine M0 (Qt.no2 J J J) J J ?_
      refine M0 (Qt.no2 J J J) J J ?_;refine Qp J J J J J J ?_;refine M0 (Qo J J J J) J J ?_;refine Qe (Q0 ?_);refine Qm rfl ?_
      refine Qd (Qc ?_);refine M0 (Qa J J J) J J ?_;refine M0 (Qu J J J J J J) J J ?_
      refine M1 (q_bslice J J J J J J) J J ?_;refine M_appo J J J J J J J J J J J J J J (by omega) (by omega) ?_
      refine M0 (Qb J J J) J J ?_;refine Qe (Q0 (Q9 (T_x (B_xs (Q0 (Qc ?_))))))
      refine M0 (Qa J J J) J J ?_;refine M0 (Qs J J J J (by omega)) J J ?_;refine M0 (Qb J J J) J J ?_;refine Qe (Q0 ?_)
      exact ⟨bs.length - (j + 1),by omega,(fun (j : Nat) (kr : List TBody) => (⟨_,[(0,.o (.c (.ptr 0 0))),(1,L row),(4,I (els w.Scores).length),(8,.o (.c (.ref 5))),(9,I j)],[.box [.ref 1,jn w.Tick,jn w.Seed,.ref 2,.ref 3],.row 1 (els w.Level.Rows),.row 1 (els w.Scores),.row 9 (els bs),.gh 0 (.c (.ptr 0 0)),.row 9 (els kr)]⟩ : St)) (j + 1) (kr ++ [b]),W_go [0,1,2,3,4,5] (by decide) rfl (rw6 (by rw [els_app]; rfl)) (.cons rfl (.cons rfl (.cons rfl (.cons rfl (.cons rfl (.nil)))))),j + 1,kr ++ [b],by omega,hm,rfl⟩
    have f1 : decide (b.Kind = 2) = false := decide_eq_false k2
    by_cases k0 : b.Kind = 0 ∧ b.Life = 0
    · have f2 : decide ((j : Int) < (els w.Scores).length) = true := decide_eq_true (by have := hKn.1 k0.1; omega)
      have f3 : decide (b.Life = 0) = true := decide_eq_true k0.2
      have hm := mv_some hp_B hb (mv_dead k0.1 k0.2)
      refine Qd (Qd (Qc ?_));refine M0 (Qf J J J J (by decide)) J J ?_;refine M0 (Qg J J J J J) J J ?_
      refine M0 (Qv J J J J (by assumption)) J J ?_;refine M0 (Qa J J J) J J ?_;refine Qi J J J ?_;refine M0 (Qa J J J) J J ?_
      refine Qi J J J ?_;refine M0 (Qa J J J) J J ?_;refine Qi J J J ?_;refine M0 (Qr J J J J (by assumption)) J J ?_
      refine Qi J J J ?_;refine M0 (Qa J J J) J J ?_;refine Qi J J J ?_;refine M0 (Qf J J J J (by decide)) J J ?_;refine Qi J J J ?_
      refine M0 (Qg J J J J J) J J ?_;refine Qi J J J ?_;refine M0 (Qv J J J J (by assumption)) J J ?_;refine Qi J J J ?_
      refine M0 (Qo J J J J) J J ?_;refine M0 (Qn J J J J) J J ?_;refine Qe (Q0 ?_);refine Qm rfl ?_;refine Qd (Qc ?_)
      refine M0 (Qa J J J) J J ?_;refine M0 (Qu J J J J J J) J J ?_;refine M1 (q_bslice J J J J J J) J J ?_
      refine M_appo J J J J J J J J J J J J J J (by omega) (by omega) ?_;refine M0 (Qb J J J) J J ?_;refine Qe (Q0 ?_)
      refine Q9 (T_x (B_xs (Q0 (Qc ?_))));refine M0 (Qa J J J) J J ?_;refine M0 (Qs J J J J (by omega)) J J ?_
      refine M0 (Qb J J J) J J ?_;refine Qe (Q0 ?_)
      exact ⟨bs.length - (j + 1),by omega,(fun (j : Nat) (kr : List TBody) => (⟨_,[(0,.o (.c (.ptr 0 0))),(1,L row),(4,I (els w.Scores).length),(8,.o (.c (.ref 5))),(9,I j)],[.box [.ref 1,jn w.Tick,jn w.Seed,.ref 2,.ref 3],.row 1 (els w.Level.Rows),.row 1 (els w.Scores),.row 9 (els bs),.gh 0 (.c (.ptr 0 0)),.row 9 (els kr)]⟩ : St)) (j + 1) (kr ++ [b]),W_go [0,1,2,3,4,5] (by decide) rfl (rw6 (by rw [els_app]; rfl)) (.cons rfl (.cons rfl (.cons rfl (.cons rfl (.cons rfl (.nil)))))),j + 1,kr ++ [b],by omega,hm,rfl⟩
    obtain ⟨c,s,hcs⟩ : ∃ c s,(c,s) = moveM w.Level b := ⟨_,_,rfl⟩
    have cm := S_l02Move w.Level b hg.1 hl hB.k hB.p hB.vx hB.vy
    have hct : (moveM w.Level b).1.Timer = b.Timer := rfl
    have ma := @mv_a w.Level b
    have mn := @mv_n w.Level b
    have ms := @mv_s w.Level b
    rw [← hcs] at cm hct ma mn ms
    simp only at cm hct ma mn ms
    clear hcs hB
    by_cases hA : b.Kind = 0
    · have f2 : decide ((j : Int) < (els w.Scores).length) = true := decide_eq_true (by have := hKn.1 hA; omega)
      have f3 : decide (b.Life = 0) = false := decide_eq_false (fun q => k0 ⟨hA,q⟩)
      have f4 : decide (b.Kind = 1) = false := decide_eq_false (by omega)
      have hm := mv_some hp_B hb (ma ⟨hA,by have : b.Life ≠ 0 := fun q => k0 ⟨hA,q⟩; omega⟩)
      refine Qd (Qd (Qc ?_));refine M0 (Qf J J J J (by decide)) J J ?_;refine M0 (Qg J J J J J) J J ?_
      refine M0 (Qv J J J J (by assumption)) J J ?_;refine M0 (Qa J J J) J J ?_;refine Qi J J J ?_;refine M0 (Qa J J J) J J ?_
      refine Qi J J J ?_;refine M0 (Qa J J J) J J ?_;refine Qi J J J ?_;refine M0 (Qr J J J J (by assumption)) J J ?_
      refine Qi J J J ?_;refine M0 (Qa J J J) J J ?_;refine Qi J J J ?_;refine M0 (Qf J J J J (by decide)) J J ?_;refine Qi J J J ?_
      refine M0 (Qg J J J J J) J J ?_;refine Qi J J J ?_;refine M0 (Qv J J J J (by assumption)) J J ?_;refine Qi J J J ?_
      refine M0 (Qo J J J J) J J ?_;refine M0 (Qn J J J J) J J ?_;refine Qe (Q0 ?_);refine Ql rfl ?_;refine Qh (Q0 ?_)
      refine Qd ?_
      refine AWP.pre (st' := (⟨_,[(0,.o (.c (.ptr 0 0))),(1,L row),(4,I (els w.Scores).length),(8,.o (.c (.ref 5))),(9,I j),(10,.o (.c (.ptr 6 0)))],[.box [.ref 1,jn w.Tick,jn w.Seed,.ref 2,.ref 3],.row 1 (els w.Level.Rows),.row 1 (els w.Scores),.row 9 (els bs),.gh 0 (.c (.ptr 0 0)),.row 9 (els kr),.box ((Enc.e b).map (V1.rd []))]⟩ : St)) ?_ (W_go [0,1,2,3,4,5,6] (by decide) rfl (rfl) (.cons rfl (.cons rfl (.cons rfl (.cons rfl (.cons rfl (.cons rfl (.nil))))))))
      refine A_draw [[],[0],[0,1],[0,1,2],[],[0,1,2,3,4],[0,1,2,3,4,5],[0,1,2,3,4,5,6],[0,1,2,3,4,5,6],[],[0,1,2,3,4,5,6,7,9],[0,1,2,3,4,5,6,7,8,9,10]] [[],[149],[149,150],[149,150,151],[],[149,150,151,152,153],[149,150,151,152,153,154],[148,149,150,151,152,153,154],[148,149,150,151,152,153,154],[],[11,148,149,150,151,152,153,154,155],[11,148,149,150,151,152,153,154,155,156]] [[11,153],[11,153],[11,153],[11,153],[11,149,150,151,152],[11],[11],[11,156],[11,155],[148,149,150,151,152,153,154,155,156],[156],[],[8]] rfl ?_
      refine DR.step (Qa J J J) J J ?_;refine DR.step (Qz J J J) J J ?_;refine DR.step (Qf J J J J (by decide)) J J ?_
      refine DR.step (Qu J J J J J J) J J ?_;refine DR.step (Qu J J J J J J) J J ?_;refine DR.step (q_call J J (cm) J J J) J J ?_
      refine DR.step (Q8 J J J) J J ?_;refine DR.step (q_ext J J J J) J J ?_;refine DR.step (q_ext J J J J) J J ?_
      refine DR.step (Qx J J J) J J ?_;refine DR.stop (by kernel_rfl) (by kernel_rfl) ?_
      refine AL.weak (st' := (⟨_,[(0,.o (.c (.ptr 0 0))),(1,L row),(4,I (els w.Scores).length),(8,.o (.c (.ref 5))),(9,I j),(10,.o (.c (.ptr 6 0))),(11,.o (.c (.ptr 7 0))),(155,.o (.ag ((Enc.e c).map (V1.rd [])))),(156,B s)],[.box [.ref 1,jn w.Tick,jn w.Seed,.ref 2,.ref 3],.row 1 (els w.Level.Rows),.row 1 (els w.Scores),.row 9 (els bs),.gh 0 (.c (.ptr 0 0)),.row 9 (els kr),.box ((Enc.e b).map (V1.rd [])),.box [jn 0,jn 0,jn 0,jn 0,jn 0,jn 0,jn 0,jn 0,jn 0]]⟩ : St)) (W_go [0,1,2,3,4,5,6,7] (by decide) rfl (rfl) (.cons rfl (.cons rfl (.cons rfl (.cons rfl (.cons rfl (.cons rfl (.cons rfl (.cons rfl (.cons rfl (.nil))))))))))) ?_
      with_reducible refine Xe ?_
      refine Qy J J J J J J J J J ?_
      with_reducible refine K_assign ?_
      refine M0 (Qb J J J) J J ?_
      refine Qe ?_
      refine Q0 ?_
      refine AWP.pre (st' := (⟨_,[(0,.o (.c (.ptr 0 0))),(1,L row),(4,I (els w.Scores).length),(8,.o (.c (.ref 5))),(9,I j),(10,.o (.c (.ptr 6 0))),(11,.o (.c (.ptr 7 0))),(12,B s)],[.box [.ref 1,jn w.Tick,jn w.Seed,.ref 2,.ref 3],.row 1 (els w.Level.Rows),.row 1 (els w.Scores),.row 9 (els bs),.gh 0 (.c (.ptr 0 0)),.row 9 (els kr),.box ((Enc.e b).map (V1.rd [])),.box ((Enc.e c).map (V1.rd []))]⟩ : St)) ?_ (W_go [0,1,2,3,4,5,6,7] (by decide) rfl (rfl) (.cons rfl (.cons rfl (.cons rfl (.cons rfl (.cons rfl (.cons rfl (.cons rfl (.cons rfl (.nil))))))))))
      refine Qd (Qd (Qc ?_));refine M0 (Qf J J J J (by decide)) J J ?_;refine M0 (Qg J J J J J) J J ?_
      refine M0 (Qv J J J J (by assumption)) J J ?_;refine Qe (Q0 ?_);refine Ql rfl ?_;refine Qh (Q0 (Qc ?_))
      refine M0 (Qa J J J) J J ?_;refine M0 (Qu J J J J J J) J J ?_;refine M1 (q_bslice J J J J J J) J J ?_
      refine M_appo J J J J J J J J J J J J J J (by omega) (by omega) ?_;refine M0 (Qb J J J) J J ?_;refine Qe (Q1 (Q0 ?_))
      refine Qc ?_;refine M0 (Qa J J J) J J ?_;refine M0 (Qs J J J J (by omega)) J J ?_;refine M0 (Qb J J J) J J ?_;refine Qe ?_
      refine Q0 ?_
      exact ⟨bs.length - (j + 1),by omega,(fun (j : Nat) (kr : List TBody) => (⟨_,[(0,.o (.c (.ptr 0 0))),(1,L row),(4,I (els w.Scores).length),(8,.o (.c (.ref 5))),(9,I j)],[.box [.ref 1,jn w.Tick,jn w.Seed,.ref 2,.ref 3],.row 1 (els w.Level.Rows),.row 1 (els w.Scores),.row 9 (els bs),.gh 0 (.c (.ptr 0 0)),.row 9 (els kr)]⟩ : St)) (j + 1) (kr ++ [c]),W_go [0,1,2,3,4,5] (by decide) rfl (rw6 (by rw [els_app]; rfl)) (.cons rfl (.cons rfl (.cons rfl (.cons rfl (.cons rfl (.nil)))))),j + 1,kr ++ [c],by omega,hm,rfl⟩
    have k1 : b.Kind = 1 := by omega
    have f2 : decide ((j : Int) < (els w.Scores).length) = false := decide_eq_false (fun q => hA (hKn.2 (by omega)))
    have f4 : decide (b.Kind = 1) = true := decide_eq_true k1
    have f5 : decide (b.Kind = 0) = false := decide_eq_false hA
    refine Qd (Qd (Qc ?_));refine M0 (Qf J J J J (by decide)) J J ?_;refine M0 (Qg J J J J J) J J ?_
    refine M0 (Qv J J J J (by assumption)) J J ?_;refine M0 (Qa J J J) J J ?_;refine Qi J J J ?_;refine M0 (Qa J J J) J J ?_
    refine Qi J J J ?_;refine M0 (Qa J J J) J J ?_;refine Qi J J J ?_;refine M0 (Qr J J J J (by assumption)) J J ?_
    refine Qi J J J ?_;refine M0 (Qa J J J) J J ?_;refine Qp J J J J J J ?_;refine Qp J J J J J J ?_
    refine Qp J J J J J J ?_;refine Qi J J J ?_;refine M0 (Qn J J J J) J J ?_;refine M0 (Qn J J J J) J J ?_;refine Qe ?_
    refine Q0 ?_;refine Ql rfl ?_;refine Qh (Q0 (Qd ?_))
    refine AWP.pre (st' := (⟨_,[(0,.o (.c (.ptr 0 0))),(1,L row),(4,I (els w.Scores).length),(8,.o (.c (.ref 5))),(9,I j),(10,.o (.c (.ptr 6 0)))],[.box [.ref 1,jn w.Tick,jn w.Seed,.ref 2,.ref 3],.row 1 (els w.Level.Rows),.row 1 (els w.Scores),.row 9 (els bs),.gh 0 (.c (.ptr 0 0)),.row 9 (els kr),.box ((Enc.e b).map (V1.rd []))]⟩ : St)) ?_ (W_go [0,1,2,3,4,5,6] (by decide) rfl (rfl) (.cons rfl (.cons rfl (.cons rfl (.cons rfl (.cons rfl (.cons rfl (.nil))))))))
    refine A_draw [[],[0],[0,1],[0,1,2],[],[0,1,2,3,4],[0,1,2,3,4,5],[0,1,2,3,4,5,6],[0,1,2,3,4,5,6],[],[0,1,2,3,4,5,6,7,9],[0,1,2,3,4,5,6,7,8,9,10]] [[],[149],[149,150],[149,150,151],[],[149,150,151,152,153],[149,150,151,152,153,154],[148,149,150,151,152,153,154],[148,149,150,151,152,153,154],[],[11,148,149,150,151,152,153,154,155],[11,148,149,150,151,152,153,154,155,156]] [[11,153],[11,153],[11,153],[11,153],[11,149,150,151,152],[11],[11],[11,156],[11,155],[148,149,150,151,152,153,154,155,156],[156],[],[8]] rfl ?_
    refine DR.step (Qa J J J) J J ?_;refine DR.step (Qz J J J) J J ?_;refine DR.step (Qf J J J J (by decide)) J J ?_
    refine DR.step (Qu J J J J J J) J J ?_;refine DR.step (Qu J J J J J J) J J ?_;refine DR.step (q_call J J (cm) J J J) J J ?_
    refine DR.step (Q8 J J J) J J ?_;refine DR.step (q_ext J J J J) J J ?_;refine DR.step (q_ext J J J J) J J ?_
    refine DR.step (Qx J J J) J J ?_;refine DR.stop (by kernel_rfl) (by kernel_rfl) ?_
    refine AL.weak (st' := (⟨_,[(0,.o (.c (.ptr 0 0))),(1,L row),(4,I (els w.Scores).length),(8,.o (.c (.ref 5))),(9,I j),(10,.o (.c (.ptr 6 0))),(11,.o (.c (.ptr 7 0))),(155,.o (.ag ((Enc.e c).map (V1.rd [])))),(156,B s)],[.box [.ref 1,jn w.Tick,jn w.Seed,.ref 2,.ref 3],.row 1 (els w.Level.Rows),.row 1 (els w.Scores),.row 9 (els bs),.gh 0 (.c (.ptr 0 0)),.row 9 (els kr),.box ((Enc.e b).map (V1.rd [])),.box [jn 0,jn 0,jn 0,jn 0,jn 0,jn 0,jn 0,jn 0,jn 0]]⟩ : St)) (W_go [0,1,2,3,4,5,6,7] (by decide) rfl (rfl) (.cons rfl (.cons rfl (.cons rfl (.cons rfl (.cons rfl (.cons rfl (.cons rfl (.cons rfl (.cons rfl (.nil))))))))))) ?_
    with_reducible refine Xe ?_
    refine Qy J J J J J J J J J ?_
    with_reducible refine K_assign ?_
    refine M0 (Qb J J J) J J ?_
    refine Qe ?_
    refine Q0 ?_
    refine AWP.pre (st' := (⟨_,[(0,.o (.c (.ptr 0 0))),(1,L row),(4,I (els w.Scores).length),(8,.o (.c (.ref 5))),(9,I j),(10,.o (.c (.ptr 6 0))),(11,.o (.c (.ptr 7 0))),(12,B s)],[.box [.ref 1,jn w.Tick,jn w.Seed,.ref 2,.ref 3],.row 1 (els w.Level.Rows),.row 1 (els w.Scores),.row 9 (els bs),.gh 0 (.c (.ptr 0 0)),.row 9 (els kr),.box ((Enc.e b).map (V1.rd [])),.box ((Enc.e c).map (V1.rd []))]⟩ : St)) ?_ (W_go [0,1,2,3,4,5,6,7] (by decide) rfl (rfl) (.cons rfl (.cons rfl (.cons rfl (.cons rfl (.cons rfl (.cons rfl (.cons rfl (.cons rfl (.nil))))))))))
    rw [← hct] at ht
    cases s with
    | true =>
      have hm := mv_none hp_B hb (mn (fun q => hA q.1) k1 (.inl rfl))
      refine Qd (Qd (Qc ?_));refine M0 (Qf J J J J (by decide)) J J ?_;refine M0 (Qg J J J J J) J J ?_
      refine M0 (Qv J J J J (by assumption)) J J ?_;refine Qe (Q0 ?_);refine Qm rfl ?_;refine Qd (Qc ?_)
      refine M0 (Qf J J J J (by decide)) J J ?_;refine M0 (Qg J J J J J) J J ?_;refine M0 (Xc J J J J (by omega)) J J ?_
      refine M0 (Qf J J J J (by decide)) J J ?_;refine Q5 J J J J J J J J ?_;refine Qe (Q0 (Qd (Qc ?_)))
      refine M0 (Qa J J J) J J ?_;refine M0 (Qa J J J) J J ?_;refine Qp J J J J J J ?_;refine Qp J J J J J J ?_
      refine Qp J J J J J J ?_;refine M0 (Qo J J J J) J J ?_;refine Qe (Q0 ?_);refine Qm rfl ?_;refine Q9 (T_x (B_xs ?_))
      refine Q0 (Qc ?_);refine M0 (Qa J J J) J J ?_;refine M0 (Qs J J J J (by omega)) J J ?_;refine M0 (Qb J J J) J J ?_
      refine Qe (Q0 ?_)
      exact ⟨bs.length - (j + 1),by omega,(fun (j : Nat) (kr : List TBody) => (⟨_,[(0,.o (.c (.ptr 0 0))),(1,L row),(4,I (els w.Scores).length),(8,.o (.c (.ref 5))),(9,I j)],[.box [.ref 1,jn w.Tick,jn w.Seed,.ref 2,.ref 3],.row 1 (els w.Level.Rows),.row 1 (els w.Scores),.row 9 (els bs),.gh 0 (.c (.ptr 0 0)),.row 9 (els kr)]⟩ : St)) (j + 1) (kr),W_go [0,1,2,3,4,5] (by decide) rfl (rfl) (.cons rfl (.cons rfl (.cons rfl (.cons rfl (.cons rfl (.nil)))))),j + 1,kr,by omega,hm,rfl⟩
    | false =>
      by_cases h1 : c.Timer - 1 = 0
      · have f6 : decide (c.Timer - 1 = 0) = true := decide_eq_true h1
        have hm := mv_none hp_B hb (mn (fun q => hA q.1) k1 (.inr (by rw [← hct]; exact h1)))
        refine Qd (Qd (Qc ?_));refine M0 (Qf J J J J (by decide)) J J ?_;refine M0 (Qg J J J J J) J J ?_
        refine M0 (Qv J J J J (by assumption)) J J ?_;refine Qe (Q0 ?_);refine Qm rfl ?_;refine Qd (Qc ?_)
        refine M0 (Qf J J J J (by decide)) J J ?_;refine M0 (Qg J J J J J) J J ?_;refine M0 (Xc J J J J (by omega)) J J ?_
        refine M0 (Qf J J J J (by decide)) J J ?_;refine Q5 J J J J J J J J ?_;refine Qe (Q0 (Qd (Qc ?_)))
        refine M0 (Qa J J J) J J ?_;refine M0 (Qa J J J) J J ?_;refine Qi J J J ?_;refine M0 (Qf J J J J (by decide)) J J ?_
        refine Qi J J J ?_;refine M0 (Qg J J J J J) J J ?_;refine Qi J J J ?_;refine M0 (Qv J J J J (by assumption)) J J ?_
        refine M0 (Qn J J J J) J J ?_;refine Qe (Q0 ?_);refine Qm rfl ?_;refine Q9 (T_x (B_xs (Q0 (Qc ?_))))
        refine M0 (Qa J J J) J J ?_;refine M0 (Qs J J J J (by omega)) J J ?_;refine M0 (Qb J J J) J J ?_;refine Qe (Q0 ?_)
        exact ⟨bs.length - (j + 1),by omega,(fun (j : Nat) (kr : List TBody) => (⟨_,[(0,.o (.c (.ptr 0 0))),(1,L row),(4,I (els w.Scores).length),(8,.o (.c (.ref 5))),(9,I j)],[.box [.ref 1,jn w.Tick,jn w.Seed,.ref 2,.ref 3],.row 1 (els w.Level.Rows),.row 1 (els w.Scores),.row 9 (els bs),.gh 0 (.c (.ptr 0 0)),.row 9 (els kr)]⟩ : St)) (j + 1) (kr),W_go [0,1,2,3,4,5] (by decide) rfl (rfl) (.cons rfl (.cons rfl (.cons rfl (.cons rfl (.cons rfl (.nil)))))),j + 1,kr,by omega,hm,rfl⟩
      · have f6 : decide (c.Timer - 1 = 0) = false := decide_eq_false h1
        have hm := mv_some hp_B hb (ms (fun q => hA q.1) k1 (fun q => q.elim (fun q => Bool.false_ne_true q) (fun q => h1 (by rw [hct]; exact q))))
        refine Qd (Qd (Qc ?_));refine M0 (Qf J J J J (by decide)) J J ?_;refine M0 (Qg J J J J J) J J ?_
        refine M0 (Qv J J J J (by assumption)) J J ?_;refine Qe (Q0 ?_);refine Qm rfl ?_;refine Qd (Qc ?_)
        refine M0 (Qf J J J J (by decide)) J J ?_;refine M0 (Qg J J J J J) J J ?_;refine M0 (Xc J J J J (by omega)) J J ?_
        refine M0 (Qf J J J J (by decide)) J J ?_;refine Q5 J J J J J J J J ?_;refine Qe (Q0 (Qd (Qc ?_)))
        refine M0 (Qa J J J) J J ?_;refine M0 (Qa J J J) J J ?_;refine Qi J J J ?_;refine M0 (Qf J J J J (by decide)) J J ?_
        refine Qi J J J ?_;refine M0 (Qg J J J J J) J J ?_;refine Qi J J J ?_;refine M0 (Qv J J J J (by assumption)) J J ?_
        refine M0 (Qn J J J J) J J ?_;refine Qe (Q0 ?_);refine Ql rfl ?_;refine Qh (Q0 (Qc ?_))
        refine M0 (Qa J J J) J J ?_;refine M0 (Qu J J J J J J) J J ?_;refine M1 (q_bslice J J J J J J) J J ?_
        refine M_appo J J J J J J J J J J J J J J (by omega) (by omega) ?_;refine M0 (Qb J J J) J J ?_;refine Qe (Q1 (Q0 ?_))
        refine Qc ?_;refine M0 (Qa J J J) J J ?_;refine M0 (Qs J J J J (by omega)) J J ?_;refine M0 (Qb J J J) J J ?_;refine Qe ?_
        refine Q0 ?_
        exact ⟨bs.length - (j + 1),by omega,(fun (j : Nat) (kr : List TBody) => (⟨_,[(0,.o (.c (.ptr 0 0))),(1,L row),(4,I (els w.Scores).length),(8,.o (.c (.ref 5))),(9,I j)],[.box [.ref 1,jn w.Tick,jn w.Seed,.ref 2,.ref 3],.row 1 (els w.Level.Rows),.row 1 (els w.Scores),.row 9 (els bs),.gh 0 (.c (.ptr 0 0)),.row 9 (els kr)]⟩ : St)) (j + 1) (kr ++ [tick1 c]),W_go [0,1,2,3,4,5] (by decide) rfl (rw6 (by rw [els_app]; rfl)) (.cons rfl (.cons rfl (.cons rfl (.cons rfl (.cons rfl (.nil)))))),j + 1,kr ++ [tick1 c],by omega,hm,rfl⟩
  have hb0 : decide ((j : Int) < (els bs).length) = false := decide_eq_false (by omega)
  have hj : j = bs.length := by omega
  have hm : kr = movedM w row := by rw [hp_B,hj,List.take_length,hmv]; rfl
  subst hm
  clear hmv hL htm hp_B
  refine Qd (Qd (Qc ?_));refine M0 (Qa J J J) J J ?_;refine M0 (Qa J J J) J J ?_;refine M0 (Qz J J J) J J ?_
  refine M0 (Qf J J J J (by decide)) J J ?_;refine M0 (Qg J J J J J) J J ?_;refine M0 (q_lenr J J J J) J J ?_
  refine M0 (Qr J J J J (by assumption)) J J ?_;refine Qe (Q0 ?_);refine Ql rfl ?_;refine Q9 (T_x (T_x (B_xs (Q0 ?_))))
  refine Qd (Qc ?_);refine M0 (Qa J J J) J J ?_;refine M0 (Qa J J J) J J ?_;refine M0 (Qz J J J) J J ?_
  refine M0 (Qf J J J J (by decide)) J J ?_;refine Q5 J J J J J J J J ?_;refine Qe (Q0 (Qd (Qc ?_)))
  refine M0 (Qa J J J) J J ?_
  refine AL.weak (st' := (⟨_,[(0,.o (.c (.ptr 0 0))),(1,L row),(4,I (els w.Scores).length),(178,.o (.c (.ptr 0 0)))],[.box [.ref 1,jn w.Tick,jn w.Seed,.ref 2,.ref 3],.row 1 (els w.Level.Rows),.row 1 (els w.Scores),.row 9 (els (movedM w row)),.gh 0 (.c (.ptr 0 0))]⟩ : St)) (W_go [0,1,2,5,4] (by decide) rfl (rfl) (.cons rfl (.cons rfl (.cons rfl (.cons rfl (.nil)))))) ?_
  refine Xd (lo := [_,_,_,_]) (gs := [(0,.c (.ptr 0 0))]) (lo' := [_,_,_,_]) (new := []) [0,1,2,3] [(0,0,.ptr 0 0)] (d1) J J J J J J J J J J J J J J J J J ?_
  refine Qe (Q0 (Qd (Qc ?_)));refine M0 (Qa J J J) J J ?_;refine M0 (Qz J J J) J J ?_
  refine M0 (Qf J J J J (by decide)) J J ?_;refine M0 (Qg J J J J J) J J ?_;refine M0 (Qs J J J J (by omega)) J J ?_
  refine M0 (Qz J J J) J J ?_;refine M0 (Qf J J J J (by decide)) J J ?_;refine Q5 J J J J J J J J ?_;refine Qe (Q0 ?_)
  refine Qd (Qc ?_);refine M0 (Qa J J J) J J ?_;refine M0 (Qa J J J) J J ?_;refine M0 (Qz J J J) J J ?_
  refine M0 (Qf J J J J (by decide)) J J ?_;refine M0 (Qg J J J J J) J J ?_
  refine AL.weak (st' := (⟨_,[(0,.o (.c (.ptr 0 0))),(1,L row),(4,I (els w.Scores).length),(187,.o (.c (.ptr 0 0))),(191,I w.Seed)],[.box [.ref 1,jn (w.Tick + 1),jn w.Seed,.ref 2,.ref 3],.row 1 (els w.Level.Rows),.row 1 (els s4),.row 9 (els b4),.gh 0 (.c (.ptr 0 0))]⟩ : St)) (W_go [0,1,2,3,4] (by decide) rfl (rfl) (.cons rfl (.cons rfl (.cons rfl (.cons rfl (.cons rfl (.nil))))))) ?_
  clear d1
  refine M0 (Qj J J (e1) rfl) J J ?_;refine M0 (Qz J J J) J J ?_;refine M0 (Qf J J J J (by decide)) J J ?_
  refine Q5 J J J J J J J J ?_;refine Qe (Q0 (Qd (Qc ?_)));refine M0 (Qa J J J) J J ?_
  refine M0 (Qz J J J) J J ?_;refine M0 (Qf J J J J (by decide)) J J ?_;refine M0 (Qu J J J J J J) J J ?_
  refine AL.weak (st' := (⟨_,[(0,.o (.c (.ptr 0 0))),(1,L row),(4,I (els w.Scores).length),(198,.o (.ag [.ref 1]))],[.box [.ref 1,jn (w.Tick + 1),jn (nextR w.Seed),.ref 2,.ref 3],.row 1 (els w.Level.Rows),.row 1 (els s4),.row 9 (els b4),.gh 0 (.c (.ptr 0 0))]⟩ : St)) (W_go [0,1,2,3,4] (by decide) rfl (rfl) (.cons rfl (.cons rfl (.cons rfl (.cons rfl (.nil)))))) ?_
  clear e1
  obtain ⟨sd,hsd2⟩ : ∃ sd,sd = nextR w.Seed := ⟨_,rfl⟩
  rw [← hsd2] at hnr
  rw [← hsd2]
  by_cases q1 : (w.Tick + 1) % 16 ≠ 0
  · have g1 : decide ((w.Tick + 1) % 16 ≠ 0) = true := decide_eq_true q1
    rw [last_1 (.inl q1)]
    refine M1 (q_call J J (e2) J J J) J J ?_;refine M0 (Qb J J J) J J ?_;refine Qe (Q0 (Qd (Qd (Qc ?_))))
    refine M0 (Qa J J J) J J ?_;refine M0 (Qz J J J) J J ?_;refine M0 (Qf J J J J (by decide)) J J ?_
    refine M0 (Qg J J J J J) J J ?_;refine M0 (q_rem J J J J (by omega)) J J ?_;refine M0 (Qw J J J J (by assumption)) J J ?_
    refine M0 (Qa J J J) J J ?_;refine Qp J J J J J J ?_;refine Qp J J J J J J ?_;refine Qp J J J J J J ?_
    refine M0 (Qo J J J J) J J ?_;refine M0 (Qa J J J) J J ?_;refine Qp J J J J J J ?_;refine Qp J J J J J J ?_
    refine Qp J J J J J J ?_;refine Qp J J J J J J ?_;refine Qp J J J J J J ?_;refine Qp J J J J J J ?_
    refine M0 (Qo J J J J) J J ?_;refine Qe (Q0 ?_);refine Qm rfl ?_;refine Xa (T_r (F_r ?_))
    exact E_none rfl (W_end [0,1,2,3,4] (by decide) J J J)
  have g1 : decide ((w.Tick + 1) % 16 ≠ 0) = false := decide_eq_false q1
  by_cases q2 : (spotsM w.Level).length = 0
  · have g2 : decide (((els (spotsM w.Level)).length : Int) = 0) = true := decide_eq_true (by omega)
    rw [last_1 (.inr (.inl q2))]
    refine M1 (q_call J J (e2) J J J) J J ?_;refine M0 (Qb J J J) J J ?_;refine Qe (Q0 (Qd (Qd (Qc ?_))))
    refine M0 (Qa J J J) J J ?_;refine M0 (Qz J J J) J J ?_;refine M0 (Qf J J J J (by decide)) J J ?_
    refine M0 (Qg J J J J J) J J ?_;refine M0 (q_rem J J J J (by omega)) J J ?_;refine M0 (Qw J J J J (by assumption)) J J ?_
    refine M0 (Qa J J J) J J ?_;refine Qi J J J ?_;refine M0 (Qa J J J) J J ?_;refine Qi J J J ?_
    refine M0 (q_lenr J J J J) J J ?_;refine Qi J J J ?_;refine M0 (Qv J J J J (by assumption)) J J ?_;refine M0 (Qn J J J J) J J ?_
    refine M0 (Qa J J J) J J ?_;refine Qp J J J J J J ?_;refine Qp J J J J J J ?_;refine Qp J J J J J J ?_
    refine Qp J J J J J J ?_;refine Qp J J J J J J ?_;refine Qp J J J J J J ?_;refine M0 (Qo J J J J) J J ?_;refine Qe ?_
    refine Q0 ?_;refine Qm rfl ?_;refine Xa (T_r (F_r ?_))
    exact E_none rfl (W_end [0,1,2,3,4] (by decide) J J J)
  have g2 : decide (((els (spotsM w.Level)).length : Int) = 0) = false := decide_eq_false (by omega)
  by_cases q3 : 24 ≤ b4.length
  · have g3 : decide (((els b4).length : Int) ≥ 24) = true := decide_eq_true (by omega)
    rw [last_1 (.inr (.inr q3))]
    refine M1 (q_call J J (e2) J J J) J J ?_;refine M0 (Qb J J J) J J ?_;refine Qe (Q0 (Qd (Qd (Qc ?_))))
    refine M0 (Qa J J J) J J ?_;refine M0 (Qz J J J) J J ?_;refine M0 (Qf J J J J (by decide)) J J ?_
    refine M0 (Qg J J J J J) J J ?_;refine M0 (q_rem J J J J (by omega)) J J ?_;refine M0 (Qw J J J J (by assumption)) J J ?_
    refine M0 (Qa J J J) J J ?_;refine Qi J J J ?_;refine M0 (Qa J J J) J J ?_;refine Qi J J J ?_
    refine M0 (q_lenr J J J J) J J ?_;refine Qi J J J ?_;refine M0 (Qv J J J J (by assumption)) J J ?_;refine M0 (Qn J J J J) J J ?_
    refine M0 (Qa J J J) J J ?_;refine Qi J J J ?_;refine M0 (Qa J J J) J J ?_;refine M0 (Qt.yes J J J (Qz J J J)) J J ?_
    refine Qi J J J ?_;refine M0 (Qf J J J J (by decide)) J J ?_;refine Qi J J J ?_;refine M0 (Qg J J J J J) J J ?_
    refine Qi J J J ?_;refine M0 (q_lenr J J J J) J J ?_;refine Qi J J J ?_;refine M0 (q_geqK J J J J (by assumption)) J J ?_
    refine M0 (Qn J J J J) J J ?_;refine Qe (Q0 ?_);refine Qm rfl ?_;refine Xa (T_r (F_r ?_))
    exact E_none rfl (W_end [0,1,2,3,4] (by decide) J J J)
  have g3 : decide (((els b4).length : Int) ≥ 24) = false := decide_eq_false (by omega)
  have q : ¬ ((w.Tick + 1) % 16 ≠ 0 ∨ (spotsM w.Level).length = 0 ∨ 24 ≤ b4.length) := fun h => h.elim q1 fun h => h.elim q2 q3
  obtain ⟨i,hi1,hi2,hi3⟩ := spotOf_mem (seed := sd) q2
  obtain ⟨x,y,hxy,hx,hy⟩ := spot_rng hl (List.mem_of_getElem? hi3)
  have e3 := S_RandomBelow sd ((els (spotsM w.Level)).length : Int) hnr ⟨by omega,by omega⟩
  rw [show belowR sd ((els (spotsM w.Level)).length : Int) = i by rw [hlsp]; exact hi1] at e3
  have hsp : (els (spotsM w.Level))[(i : Int).toNat]? = some (Enc.e [x,y]) := els_sm (by rw [hi3,hxy])
  have hx0 : (els [x,y])[(0 : Int).toNat]? = some (Enc.e x) := rfl
  have hy0 : (els [x,y])[(1 : Int).toNat]? = some (Enc.e y) := rfl
  refine M1 (q_call J J (e2) J J J) J J ?_;refine M0 (Qb J J J) J J ?_;refine Qe (Q0 (Qd (Qd (Qc ?_))))
  refine M0 (Qa J J J) J J ?_;refine M0 (Qz J J J) J J ?_;refine M0 (Qf J J J J (by decide)) J J ?_
  refine M0 (Qg J J J J J) J J ?_;refine M0 (q_rem J J J J (by omega)) J J ?_;refine M0 (Qw J J J J (by assumption)) J J ?_
  refine M0 (Qa J J J) J J ?_;refine Qi J J J ?_;refine M0 (Qa J J J) J J ?_;refine Qi J J J ?_
  refine M0 (q_lenr J J J J) J J ?_;refine Qi J J J ?_;refine M0 (Qv J J J J (by assumption)) J J ?_;refine M0 (Qn J J J J) J J ?_
  refine M0 (Qa J J J) J J ?_;refine Qi J J J ?_;refine M0 (Qa J J J) J J ?_;refine M0 (Qt.yes J J J (Qz J J J)) J J ?_
  refine Qi J J J ?_;refine M0 (Qf J J J J (by decide)) J J ?_;refine Qi J J J ?_;refine M0 (Qg J J J J J) J J ?_
  refine Qi J J J ?_;refine M0 (q_lenr J J J J) J J ?_;refine Qi J J J ?_;refine M0 (q_geqK J J J J (by assumption)) J J ?_
  refine M0 (Qn J J J J) J J ?_;refine Qe (Q0 ?_);refine Ql rfl ?_;refine Qh (Q0 (Qd (Qc ?_)))
  refine M0 (Qa J J J) J J ?_;refine M0 (Qz J J J) J J ?_;refine M0 (Qf J J J J (by decide)) J J ?_
  refine M0 (Qg J J J J J) J J ?_;refine M0 (Qa J J J) J J ?_;refine M0 (q_lenr J J J J) J J ?_
  refine M1 (q_call J J (e3) J J J) J J ?_;refine M0 (Q8 J J J) J J ?_;refine M0 (q_ext J J J J) J J ?_
  refine M0 (q_ext J J J J) J J ?_;refine M0 (Qb J J J) J J ?_;refine M0 (Qb J J J) J J ?_;refine Qe (Q0 (Qd ?_))
  refine Qc ?_;refine M0 (Qa J J J) J J ?_;refine M0 (Qa J J J) J J ?_;refine M0 (Qz J J J) J J ?_
  refine M0 (Qf J J J J (by decide)) J J ?_;refine Q5 J J J J J J J J ?_;refine Qe (Q0 (Qd (Qd (Qc ?_))))
  refine M0 (Qa J J J) J J ?_;refine M0 (Qb J J J) J J ?_;refine Qe (Q0 (Qk ?_))
  refine AWP.pre (st' := (⟨_,[(0,.o (.c (.ptr 0 0))),(4,I (els w.Scores).length),(13,.o (.c (.ref 5))),(15,I (i : Int)),(16,I (els w.Scores).length)],[.box [.ref 1,jn (w.Tick + 1),jn (nextR sd),.ref 2,.ref 3],.row 1 (els w.Level.Rows),.row 1 (els s4),.row 9 (els b4),.gh 0 (.c (.ptr 0 0)),.row 1 (els (spotsM w.Level))]⟩ : St)) ?_ (W_go [0,1,2,3,4,5] (by decide) rfl (rfl) (.cons rfl (.cons rfl (.cons rfl (.cons rfl (.cons rfl (.nil)))))))
  refine A_loop (fun m st => ∃ t : Nat,t + m = (b4.length - w.Scores.length) ∧ (itemAt (b4.take (w.Scores.length + t)) x y = false) ∧ st = (fun t : Nat => (⟨_,[(0,.o (.c (.ptr 0 0))),(4,I (els w.Scores).length),(13,.o (.c (.ref 5))),(15,I (i : Int)),(16,I (((els w.Scores).length + t : Nat) : Int))],[.box [.ref 1,jn (w.Tick + 1),jn (nextR sd),.ref 2,.ref 3],.row 1 (els w.Level.Rows),.row 1 (els s4),.row 9 (els b4),.gh 0 (.c (.ptr 0 0)),.row 1 (els (spotsM w.Level))]⟩ : St)) t) ((b4.length - w.Scores.length)) ⟨(fun t : Nat => (⟨_,[(0,.o (.c (.ptr 0 0))),(4,I (els w.Scores).length),(13,.o (.c (.ref 5))),(15,I (i : Int)),(16,I (((els w.Scores).length + t : Nat) : Int))],[.box [.ref 1,jn (w.Tick + 1),jn (nextR sd),.ref 2,.ref 3],.row 1 (els w.Level.Rows),.row 1 (els s4),.row 9 (els b4),.gh 0 (.c (.ptr 0 0)),.row 1 (els (spotsM w.Level))]⟩ : St)) 0,W_go [0,1,2,3,4,5] (by decide) rfl (rfl) (.cons rfl (.cons rfl (.cons rfl (.cons rfl (.cons (I_eq (by omega)) (.nil)))))),0,by omega,at_pl hM1 x y,rfl⟩ ?_
  rintro m_C _ ⟨t,hk_C,hp_C,rfl⟩
  by_cases hlt : t < b4.length - w.Scores.length
  · have hb0 : decide ((((els w.Scores).length + t : Nat) : Int) < (els b4).length) = true := decide_eq_true (by omega)
    obtain ⟨b,hbb⟩ := some_sm (xs := b4) (i := w.Scores.length + t) (by omega)
    have he := at_el hbb
    refine Qd (Qd (Qc ?_));refine M0 (Qa J J J) J J ?_;refine M0 (Qa J J J) J J ?_;refine M0 (Qz J J J) J J ?_
    refine M0 (Qf J J J J (by decide)) J J ?_;refine M0 (Qg J J J J J) J J ?_;refine M0 (q_lenr J J J J) J J ?_
    refine M0 (Qr J J J J (by assumption)) J J ?_;refine Qe (Q0 ?_);refine Qm rfl ?_;refine Qh (Q0 (Qd (Qk ?_)))
    refine Qd ?_
    by_cases k1 : b.Kind = 2
    case neg =>
      have p1 : decide (b.Kind = 2) = false := decide_eq_false k1
      refine A_draw [[],[0],[0,1],[0,1,2],[],[0,1,2,3,4],[0,1,2,3,4,5],[0,1,2,3,4,5,6],[0,1,2,3,4,5,6,7],[0,1,2,3,4,5,6,7,8],[0,1,2,3,4,5,6,7,8,9],[0,1,2,3,4,5,6,7,8,9,10],[0,1,2,3,4,5,6,7,8,9,10,11],[0,1,2,3,4,5,6,7,8,9,10,11,12],[0,1,2,3,4,5,6,7,8,9],[0,1,2,3,4,5,6,7,8,9,10,11,12,13,14],[0,1,2,3,4,5,6,7,8,9,10,11,12,13,14,15],[0,1,2,3,4,5,6,7,8,9,10,11,12,13,14,15,16],[0,1,2,3,4,5,6,7,8,9],[0,1,2,3,4,5,6,7,8,9],[0,1,2,3,4,5,6,7,8,9,18,19],[0,1,2,3,4,5,6,7,8,9,18,19,20],[0,1,2,3,4,5,6,7,8,9,18,19,20,21],[0,1,2,3,4,5,6,7,8,9,18,19,20,21,22],[0,1,2,3,4,5,6,7,8,9,10,11,12,13,14,15,16,17,18,19,20,21,22,23],[0,1,2,3,4,5,6,7,8,9,10,11,12,13,14,15,16,17,18,19,20,21,22,23,24],[0,1,2,3,4,5,6,7,8,9,10,11,12,13,14,15,16,17,18,19,20,21,22,23,24,25],[0,1,2,3,4,5,6,7,8,9,10,11,12,13,14,15,16,17,18,19,20,21,22,23,24,25,26],[0,1,2,3,4,5,6,7,8,9,10,11,12,13,14,15,16,17,18,19,20,21,22,23,24,25,26,27],[0,1,2,3,4,5,6,7,8,9,10,11,12,13,14,15,16,17,18,19,20,21,22,23,24,25,26,27,28],[0,1,2,3,4,5,6,7,8,9,10,11,12,13,14,15,16,17,18,19,20,21,22,23,24,25,26,27,28,29],[0,1,2,3,4,5,6,7,8,9,10,11,12,13,14,15,16,17,18,19,20,21,22,23,24,25,26],[0,1,2,3,4,5,6,7,8,9,10,11,12,13,14,15,16,17,18,19,20,21,22,23,24,25,26,27,28,29,30,31],[0,1,2,3,4,5,6,7,8,9,10,11,12,13,14,15,16,17,18,19,20,21,22,23,24,25,26,27,28,29,30,31,32],[0,1,2,3,4,5,6,7,8,9,10,11,12,13,14,15,16,17,18,19,20,21,22,23,24,25,26,27,28,29,30,31,32,33],[0,1,2,3,4,5,6,7,8,9,10,11,12,13,14,15,16,17,18,19,20,21,22,23,24,25,26],[0,1,2,3,4,5,6,7,8,9,10,11,12,13,14,15,16,17,18,19,20,21,22,23,24,25,26],[0,1,2,3,4,5,6,7,8,9,10,11,12,13,14,15,16,17,18,19,20,21,22,23,24,25,26,35,36],[0,1,2,3,4,5,6,7,8,9,10,11,12,13,14,15,16,17,18,19,20,21,22,23,24,25,26,35,36,37],[0,1,2,3,4,5,6,7,8,9,10,11,12,13,14,15,16,17,18,19,20,21,22,23,24,25,26,35,36,37,38],[0,1,2,3,4,5,6,7,8,9,10,11,12,13,14,15,16,17,18,19,20,21,22,23,24,25,26,35,36,37,38,39],[0,1,2,3,4,5,6,7,8,9,10,11,12,13,14,15,16,17,18,19,20,21,22,23,24,25,26,27,28,29,30,31,32,33,34,35,36,37,38,39,40],[0,1,2,3,4,5,6,7,8,9,10,11,12,13,14,15,16,17,18,19,20,21,22,23,24,25,26,27,28,29,30,31,32,33,34,35,36,37,38,39,40,41]] [[],[243],[243,244],[243,244,245],[],[243,244,245,246,247],[243,244,245,246,247,248],[243,244,245,246,247,248,249],[243,244,245,246,247,248,249,250],[243,244,245,246,247,248,249,250,251],[243,244,245,246,247,248,249,250,251,252],[243,244,245,246,247,248,249,250,251,252,253],[243,244,245,246,247,248,249,250,251,252,253,254],[243,244,245,246,247,248,249,250,251,252,253,254,255],[243,244,245,246,247,248,249,250,251,252],[243,244,245,246,247,248,249,250,251,252,253,254,255,256,257],[243,244,245,246,247,248,249,250,251,252,253,254,255,256,257,258],[243,244,245,246,247,248,249,250,251,252,253,254,255,256,257,258,259],[243,244,245,246,247,248,249,250,251,252],[243,244,245,246,247,248,249,250,251,252],[243,244,245,246,247,248,249,250,251,252,261,262],[243,244,245,246,247,248,249,250,251,252,261,262,263],[243,244,245,246,247,248,249,250,251,252,261,262,263,264],[243,244,245,246,247,248,249,250,251,252,261,262,263,264,265],[243,244,245,246,247,248,249,250,251,252,253,254,255,256,257,258,259,260,261,262,263,264,265,266],[243,244,245,246,247,248,249,250,251,252,253,254,255,256,257,258,259,260,261,262,263,264,265,266,267],[243,244,245,246,247,248,249,250,251,252,253,254,255,256,257,258,259,260,261,262,263,264,265,266,267,268],[243,244,245,246,247,248,249,250,251,252,253,254,255,256,257,258,259,260,261,262,263,264,265,266,267,268,269],[243,244,245,246,247,248,249,250,251,252,253,254,255,256,257,258,259,260,261,262,263,264,265,266,267,268,269,270],[243,244,245,246,247,248,249,250,251,252,253,254,255,256,257,258,259,260,261,262,263,264,265,266,267,268,269,270,271],[243,244,245,246,247,248,249,250,251,252,253,254,255,256,257,258,259,260,261,262,263,264,265,266,267,268,269,270,271,272],[243,244,245,246,247,248,249,250,251,252,253,254,255,256,257,258,259,260,261,262,263,264,265,266,267,268,269],[243,244,245,246,247,248,249,250,251,252,253,254,255,256,257,258,259,260,261,262,263,264,265,266,267,268,269,270,271,272,273,274],[243,244,245,246,247,248,249,250,251,252,253,254,255,256,257,258,259,260,261,262,263,264,265,266,267,268,269,270,271,272,273,274,275],[243,244,245,246,247,248,249,250,251,252,253,254,255,256,257,258,259,260,261,262,263,264,265,266,267,268,269,270,271,272,273,274,275,276],[243,244,245,246,247,248,249,250,251,252,253,254,255,256,257,258,259,260,261,262,263,264,265,266,267,268,269],[243,244,245,246,247,248,249,250,251,252,253,254,255,256,257,258,259,260,261,262,263,264,265,266,267,268,269],[243,244,245,246,247,248,249,250,251,252,253,254,255,256,257,258,259,260,261,262,263,264,265,266,267,268,269,278,279],[243,244,245,246,247,248,249,250,251,252,253,254,255,256,257,258,259,260,261,262,263,264,265,266,267,268,269,278,279,280],[243,244,245,246,247,248,249,250,251,252,253,254,255,256,257,258,259,260,261,262,263,264,265,266,267,268,269,278,279,280,281],[243,244,245,246,247,248,249,250,251,252,253,254,255,256,257,258,259,260,261,262,263,264,265,266,267,268,269,278,279,280,281,282],[243,244,245,246,247,248,249,250,251,252,253,254,255,256,257,258,259,260,261,262,263,264,265,266,267,268,269,270,271,272,273,274,275,276,277,278,279,280,281,282,283],[243,244,245,246,247,248,249,250,251,252,253,254,255,256,257,258,259,260,261,262,263,264,265,266,267,268,269,270,271,272,273,274,275,276,277,278,279,280,281,282,283,284]] [[247],[247],[247],[247],[243,244,245,246],[],[],[],[],[],[257,261,262,263,264,265,266],[257,261,262,263,264,265,266],[257,261,262,263,264,265,266],[257,261,262,263,264,265,266],[253,254,255,256,261,262,263,264,265,266],[261,262,263,264,265,266],[261,262,263,264,265,266],[261,262,263,264,265,266],[253,254,255,256,257,258,259,260,262],[253,254,255,256,257,258,259,260,261],[253,254,255,256,257,258,259,260],[253,254,255,256,257,258,259,260],[253,254,255,256,257,258,259,260],[253,254,255,256,257,258,259,260],[],[],[],[274,278,279,280,281,282,283],[274,278,279,280,281,282,283],[274,278,279,280,281,282,283],[274,278,279,280,281,282,283],[270,271,272,273,278,279,280,281,282,283],[278,279,280,281,282,283],[278,279,280,281,282,283],[278,279,280,281,282,283],[270,271,272,273,274,275,276,277,279],[270,271,272,273,274,275,276,277,278],[270,271,272,273,274,275,276,277],[270,271,272,273,274,275,276,277],[270,271,272,273,274,275,276,277],[270,271,272,273,274,275,276,277],[],[]] rfl ?_
      refine DR.step (Qa J J J) J J ?_;refine DR.step (Qz J J J) J J ?_;refine DR.step (Qf J J J J (by decide)) J J ?_
      refine DR.step (Qg J J J J J) J J ?_;refine DR.step (Qa J J J) J J ?_;refine DR.step (Q3 J J J J J (by omega) (by omega)) J J ?_
      refine DR.step (q_flde J J J J (by decide)) J J ?_;refine DR.step (Q7 J J J J (by assumption) rfl) J J ?_
      refine DR.step (Qv J J J J (by assumption)) J J ?_;refine DR.step (Qa J J J) J J ?_;refine DR.step (Qt.no J J J J) J J ?_
      refine DR.step (Qt.no J J J J) J J ?_;refine DR.step (Qt.no J J J J) J J ?_;refine DR.step (Qt.no J J J J) J J ?_
      refine DR.step (Qt.no J J J J) J J ?_;refine DR.step (Qt.no J J J J) J J ?_;refine DR.step (Qt.no J J J J) J J ?_
      refine DR.step (Qt.no J J J J) J J ?_;refine DR.step (Qt.no J J J J) J J ?_;refine DR.step (Qt.no J J J J) J J ?_
      refine DR.step (Qt.no J J J J) J J ?_;refine DR.step (Qt.no J J J J) J J ?_;refine DR.step (Qt.no J J J J) J J ?_
      refine DR.step (Qt.no J J J J) J J ?_;refine DR.step (Qt.no J J J J) J J ?_;refine DR.step (Qn J J J J) J J ?_
      refine DR.step (Qa J J J) J J ?_;refine DR.step (Qt.no J J J J) J J ?_;refine DR.step (Qt.no J J J J) J J ?_
      refine DR.step (Qt.no J J J J) J J ?_;refine DR.step (Qt.no J J J J) J J ?_;refine DR.step (Qt.no J J J J) J J ?_
      refine DR.step (Qt.no J J J J) J J ?_;refine DR.step (Qt.no J J J J) J J ?_;refine DR.step (Qt.no J J J J) J J ?_
      refine DR.step (Qt.no J J J J) J J ?_;refine DR.step (Qt.no J J J J) J J ?_;refine DR.step (Qt.no J J J J) J J ?_
      refine DR.step (Qt.no J J J J) J J ?_;refine DR.step (Qt.no J J J J) J J ?_;refine DR.step (Qt.no J J J J) J J ?_
      refine DR.step (Qt.no J J J J) J J ?_;refine DR.step (Qn J J J J) J J ?_;refine DR.stop (by kernel_rfl) (by kernel_rfl) ?_
      refine Qe (Q0 ?_);refine Ql rfl ?_;refine Qh (Q1 (Q0 (Qc ?_)));refine M0 (Qa J J J) J J ?_
      refine M0 (Qs J J J J (by omega)) J J ?_;refine M0 (Qb J J J) J J ?_;refine Qe (Q0 ?_)
      exact ⟨(b4.length - w.Scores.length) - (t + 1),by omega,(fun t : Nat => (⟨_,[(0,.o (.c (.ptr 0 0))),(4,I (els w.Scores).length),(13,.o (.c (.ref 5))),(15,I (i : Int)),(16,I (((els w.Scores).length + t : Nat) : Int))],[.box [.ref 1,jn (w.Tick + 1),jn (nextR sd),.ref 2,.ref 3],.row 1 (els w.Level.Rows),.row 1 (els s4),.row 9 (els b4),.gh 0 (.c (.ptr 0 0)),.row 1 (els (spotsM w.Level))]⟩ : St)) (t + 1),W_go [0,1,2,3,4,5] (by decide) rfl (rfl) (.cons rfl (.cons rfl (.cons rfl (.cons rfl (.cons (I_eq (by omega)) (.nil)))))),t + 1,by omega,at_go hbb (fun h => k1 h.1) hp_C,rfl⟩
    have p1 : decide (b.Kind = 2) = true := decide_eq_true k1
    by_cases k2 : b.X = x
    case neg =>
      have p2 : decide (b.X = x) = false := decide_eq_false k2
      refine A_draw [[],[0],[0,1],[0,1,2],[],[0,1,2,3,4],[0,1,2,3,4,5],[0,1,2,3,4,5,6],[0,1,2,3,4,5,6,7],[0,1,2,3,4,5,6,7,8],[0,1,2,3,4,5,6,7,8,9],[0,1,2,3,4,5,6,7,8,9,10],[0,1,2,3,4,5,6,7,8,9,10,11],[0,1,2,3,4,5,6,7,8,9,10,11,12],[0,1,2,3,4,5,6,7,8,9],[0,1,2,3,4,5,6,7,8,9,10,11,12,13,14],[0,1,2,3,4,5,6,7,8,9,10,11,12,13,14,15],[0,1,2,3,4,5,6,7,8,9,10,11,12,13,14,15,16],[0,1,2,3,4,5,6,7,8,9],[0,1,2,3,4,5,6,7,8,9],[0,1,2,3,4,5,6,7,8,9,18,19],[0,1,2,3,4,5,6,7,8,9,18,19,20],[0,1,2,3,4,5,6,7,8,9,18,19,20,21],[0,1,2,3,4,5,6,7,8,9,18,19,20,21,22],[0,1,2,3,4,5,6,7,8,9,10,11,12,13,14,15,16,17,18,19,20,21,22,23],[0,1,2,3,4,5,6,7,8,9,10,11,12,13,14,15,16,17,18,19,20,21,22,23,24],[0,1,2,3,4,5,6,7,8,9,10,11,12,13,14,15,16,17,18,19,20,21,22,23,24,25],[0,1,2,3,4,5,6,7,8,9,10,11,12,13,14,15,16,17,18,19,20,21,22,23,24,25,26],[0,1,2,3,4,5,6,7,8,9,10,11,12,13,14,15,16,17,18,19,20,21,22,23,24,25,26,27],[0,1,2,3,4,5,6,7,8,9,10,11,12,13,14,15,16,17,18,19,20,21,22,23,24,25,26,27,28],[0,1,2,3,4,5,6,7,8,9,10,11,12,13,14,15,16,17,18,19,20,21,22,23,24,25,26,27,28,29],[0,1,2,3,4,5,6,7,8,9,10,11,12,13,14,15,16,17,18,19,20,21,22,23,24,25,26],[0,1,2,3,4,5,6,7,8,9,10,11,12,13,14,15,16,17,18,19,20,21,22,23,24,25,26,27,28,29,30,31],[0,1,2,3,4,5,6,7,8,9,10,11,12,13,14,15,16,17,18,19,20,21,22,23,24,25,26,27,28,29,30,31,32],[0,1,2,3,4,5,6,7,8,9,10,11,12,13,14,15,16,17,18,19,20,21,22,23,24,25,26,27,28,29,30,31,32,33],[0,1,2,3,4,5,6,7,8,9,10,11,12,13,14,15,16,17,18,19,20,21,22,23,24,25,26],[0,1,2,3,4,5,6,7,8,9,10,11,12,13,14,15,16,17,18,19,20,21,22,23,24,25,26],[0,1,2,3,4,5,6,7,8,9,10,11,12,13,14,15,16,17,18,19,20,21,22,23,24,25,26,35,36],[0,1,2,3,4,5,6,7,8,9,10,11,12,13,14,15,16,17,18,19,20,21,22,23,24,25,26,35,36,37],[0,1,2,3,4,5,6,7,8,9,10,11,12,13,14,15,16,17,18,19,20,21,22,23,24,25,26,35,36,37,38],[0,1,2,3,4,5,6,7,8,9,10,11,12,13,14,15,16,17,18,19,20,21,22,23,24,25,26,35,36,37,38,39],[0,1,2,3,4,5,6,7,8,9,10,11,12,13,14,15,16,17,18,19,20,21,22,23,24,25,26,27,28,29,30,31,32,33,34,35,36,37,38,39,40],[0,1,2,3,4,5,6,7,8,9,10,11,12,13,14,15,16,17,18,19,20,21,22,23,24,25,26,27,28,29,30,31,32,33,34,35,36,37,38,39,40,41]] [[],[243],[243,244],[243,244,245],[],[243,244,245,246,247],[243,244,245,246,247,248],[243,244,245,246,247,248,249],[243,244,245,246,247,248,249,250],[243,244,245,246,247,248,249,250,251],[243,244,245,246,247,248,249,250,251,252],[243,244,245,246,247,248,249,250,251,252,253],[243,244,245,246,247,248,249,250,251,252,253,254],[243,244,245,246,247,248,249,250,251,252,253,254,255],[243,244,245,246,247,248,249,250,251,252],[243,244,245,246,247,248,249,250,251,252,253,254,255,256,257],[243,244,245,246,247,248,249,250,251,252,253,254,255,256,257,258],[243,244,245,246,247,248,249,250,251,252,253,254,255,256,257,258,259],[243,244,245,246,247,248,249,250,251,252],[243,244,245,246,247,248,249,250,251,252],[243,244,245,246,247,248,249,250,251,252,261,262],[243,244,245,246,247,248,249,250,251,252,261,262,263],[243,244,245,246,247,248,249,250,251,252,261,262,263,264],[243,244,245,246,247,248,249,250,251,252,261,262,263,264,265],[243,244,245,246,247,248,249,250,251,252,253,254,255,256,257,258,259,260,261,262,263,264,265,266],[243,244,245,246,247,248,249,250,251,252,253,254,255,256,257,258,259,260,261,262,263,264,265,266,267],[243,244,245,246,247,248,249,250,251,252,253,254,255,256,257,258,259,260,261,262,263,264,265,266,267,268],[243,244,245,246,247,248,249,250,251,252,253,254,255,256,257,258,259,260,261,262,263,264,265,266,267,268,269],[243,244,245,246,247,248,249,250,251,252,253,254,255,256,257,258,259,260,261,262,263,264,265,266,267,268,269,270],[243,244,245,246,247,248,249,250,251,252,253,254,255,256,257,258,259,260,261,262,263,264,265,266,267,268,269,270,271],[243,244,245,246,247,248,249,250,251,252,253,254,255,256,257,258,259,260,261,262,263,264,265,266,267,268,269,270,271,272],[243,244,245,246,247,248,249,250,251,252,253,254,255,256,257,258,259,260,261,262,263,264,265,266,267,268,269],[243,244,245,246,247,248,249,250,251,252,253,254,255,256,257,258,259,260,261,262,263,264,265,266,267,268,269,270,271,272,273,274],[243,244,245,246,247,248,249,250,251,252,253,254,255,256,257,258,259,260,261,262,263,264,265,266,267,268,269,270,271,272,273,274,275],[243,244,245,246,247,248,249,250,251,252,253,254,255,256,257,258,259,260,261,262,263,264,265,266,267,268,269,270,271,272,273,274,275,276],[243,244,245,246,247,248,249,250,251,252,253,254,255,256,257,258,259,260,261,262,263,264,265,266,267,268,269],[243,244,245,246,247,248,249,250,251,252,253,254,255,256,257,258,259,260,261,262,263,264,265,266,267,268,269],[243,244,245,246,247,248,249,250,251,252,253,254,255,256,257,258,259,260,261,262,263,264,265,266,267,268,269,278,279],[243,244,245,246,247,248,249,250,251,252,253,254,255,256,257,258,259,260,261,262,263,264,265,266,267,268,269,278,279,280],[243,244,245,246,247,248,249,250,251,252,253,254,255,256,257,258,259,260,261,262,263,264,265,266,267,268,269,278,279,280,281],[243,244,245,246,247,248,249,250,251,252,253,254,255,256,257,258,259,260,261,262,263,264,265,266,267,268,269,278,279,280,281,282],[243,244,245,246,247,248,249,250,251,252,253,254,255,256,257,258,259,260,261,262,263,264,265,266,267,268,269,270,271,272,273,274,275,276,277,278,279,280,281,282,283],[243,244,245,246,247,248,249,250,251,252,253,254,255,256,257,258,259,260,261,262,263,264,265,266,267,268,269,270,271,272,273,274,275,276,277,278,279,280,281,282,283,284]] [[247],[247],[247],[247],[243,244,245,246],[],[],[],[],[],[257,261,262,263,264,265,266],[257,261,262,263,264,265,266],[257,261,262,263,264,265,266],[257,261,262,263,264,265,266],[253,254,255,256,261,262,263,264,265,266],[261,262,263,264,265,266],[261,262,263,264,265,266],[261,262,263,264,265,266],[253,254,255,256,257,258,259,260,262],[253,254,255,256,257,258,259,260,261],[253,254,255,256,257,258,259,260],[253,254,255,256,257,258,259,260],[253,254,255,256,257,258,259,260],[253,254,255,256,257,258,259,260],[],[],[],[274,278,279,280,281,282,283],[274,278,279,280,281,282,283],[274,278,279,280,281,282,283],[274,278,279,280,281,282,283],[270,271,272,273,278,279,280,281,282,283],[278,279,280,281,282,283],[278,279,280,281,282,283],[278,279,280,281,282,283],[270,271,272,273,274,275,276,277,279],[270,271,272,273,274,275,276,277,278],[270,271,272,273,274,275,276,277],[270,271,272,273,274,275,276,277],[270,271,272,273,274,275,276,277],[270,271,272,273,274,275,276,277],[],[]] rfl ?_
      refine DR.step (Qa J J J) J J ?_;refine DR.step (Qz J J J) J J ?_;refine DR.step (Qf J J J J (by decide)) J J ?_
      refine DR.step (Qg J J J J J) J J ?_;refine DR.step (Qa J J J) J J ?_;refine DR.step (Q3 J J J J J (by omega) (by omega)) J J ?_
      refine DR.step (q_flde J J J J (by decide)) J J ?_;refine DR.step (Q7 J J J J (by assumption) rfl) J J ?_
      refine DR.step (Qv J J J J (by assumption)) J J ?_;refine DR.step (Qa J J J) J J ?_
      refine DR.step (Qt.yes J J J (Qa J J J)) J J ?_;refine DR.step (Qt.yes J J J (Qz J J J)) J J ?_
      refine DR.step (Qt.yes J J J (Qf J J J J (by decide))) J J ?_;refine DR.step (Qt.yes J J J (Qg J J J J J)) J J ?_
      refine DR.step (Qt.yes J J J (Qa J J J)) J J ?_;refine DR.step (Qt.yes J J J (Q3 J J J J J (by omega) (by omega))) J J ?_
      refine DR.step (Qt.yes J J J (q_flde J J J J (by decide))) J J ?_;refine DR.step (Qt.yes J J J (Q7 J J J J (by assumption) rfl)) J J ?_
      refine DR.step (Qt.yes J J J (Qa J J J)) J J ?_;refine DR.step (Qt.yes J J J (Qa J J J)) J J ?_
      refine DR.step (Qt.yes J J J (Q3 J J J J J (by omega) (by omega))) J J ?_
      refine DR.step (Qt.yes J J J (Q7 J J J J (by assumption) rfl)) J J ?_
      refine DR.step (Qt.yes J J J (Q2 J J J J (by omega) (by assumption) rfl)) J J ?_;refine DR.step (Qt.yes J J J (q_lr1 J J J J)) J J ?_
      refine DR.step (Qt.yes J J J (Qv J J J J (by assumption))) J J ?_;refine DR.step (Qo J J J J) J J ?_
      refine DR.step (Qa J J J) J J ?_;refine DR.step (Qt.no J J J J) J J ?_;refine DR.step (Qt.no J J J J) J J ?_
      refine DR.step (Qt.no J J J J) J J ?_;refine DR.step (Qt.no J J J J) J J ?_;refine DR.step (Qt.no J J J J) J J ?_
      refine DR.step (Qt.no J J J J) J J ?_;refine DR.step (Qt.no J J J J) J J ?_;refine DR.step (Qt.no J J J J) J J ?_
      refine DR.step (Qt.no J J J J) J J ?_;refine DR.step (Qt.no J J J J) J J ?_;refine DR.step (Qt.no J J J J) J J ?_
      refine DR.step (Qt.no J J J J) J J ?_;refine DR.step (Qt.no J J J J) J J ?_;refine DR.step (Qt.no J J J J) J J ?_
      refine DR.step (Qt.no J J J J) J J ?_;refine DR.step (Qn J J J J) J J ?_;refine DR.stop (by kernel_rfl) (by kernel_rfl) ?_
      refine Qe (Q0 ?_);refine Ql rfl ?_;refine Qh (Q1 (Q0 (Qc ?_)));refine M0 (Qa J J J) J J ?_
      refine M0 (Qs J J J J (by omega)) J J ?_;refine M0 (Qb J J J) J J ?_;refine Qe (Q0 ?_)
      exact ⟨(b4.length - w.Scores.length) - (t + 1),by omega,(fun t : Nat => (⟨_,[(0,.o (.c (.ptr 0 0))),(4,I (els w.Scores).length),(13,.o (.c (.ref 5))),(15,I (i : Int)),(16,I (((els w.Scores).length + t : Nat) : Int))],[.box [.ref 1,jn (w.Tick + 1),jn (nextR sd),.ref 2,.ref 3],.row 1 (els w.Level.Rows),.row 1 (els s4),.row 9 (els b4),.gh 0 (.c (.ptr 0 0)),.row 1 (els (spotsM w.Level))]⟩ : St)) (t + 1),W_go [0,1,2,3,4,5] (by decide) rfl (rfl) (.cons rfl (.cons rfl (.cons rfl (.cons rfl (.cons (I_eq (by omega)) (.nil)))))),t + 1,by omega,at_go hbb (fun h => k2 h.2.1) hp_C,rfl⟩
    have p2 : decide (b.X = x) = true := decide_eq_true k2
    by_cases k3 : b.Y = y
    case neg =>
      have p3 : decide (b.Y = y) = false := decide_eq_false k3
      refine A_draw [[],[0],[0,1],[0,1,2],[],[0,1,2,3,4],[0,1,2,3,4,5],[0,1,2,3,4,5,6],[0,1,2,3,4,5,6,7],[0,1,2,3,4,5,6,7,8],[0,1,2,3,4,5,6,7,8,9],[0,1,2,3,4,5,6,7,8,9,10],[0,1,2,3,4,5,6,7,8,9,10,11],[0,1,2,3,4,5,6,7,8,9,10,11,12],[0,1,2,3,4,5,6,7,8,9],[0,1,2,3,4,5,6,7,8,9,10,11,12,13,14],[0,1,2,3,4,5,6,7,8,9,10,11,12,13,14,15],[0,1,2,3,4,5,6,7,8,9,10,11,12,13,14,15,16],[0,1,2,3,4,5,6,7,8,9],[0,1,2,3,4,5,6,7,8,9],[0,1,2,3,4,5,6,7,8,9,18,19],[0,1,2,3,4,5,6,7,8,9,18,19,20],[0,1,2,3,4,5,6,7,8,9,18,19,20,21],[0,1,2,3,4,5,6,7,8,9,18,19,20,21,22],[0,1,2,3,4,5,6,7,8,9,10,11,12,13,14,15,16,17,18,19,20,21,22,23],[0,1,2,3,4,5,6,7,8,9,10,11,12,13,14,15,16,17,18,19,20,21,22,23,24],[0,1,2,3,4,5,6,7,8,9,10,11,12,13,14,15,16,17,18,19,20,21,22,23,24,25],[0,1,2,3,4,5,6,7,8,9,10,11,12,13,14,15,16,17,18,19,20,21,22,23,24,25,26],[0,1,2,3,4,5,6,7,8,9,10,11,12,13,14,15,16,17,18,19,20,21,22,23,24,25,26,27],[0,1,2,3,4,5,6,7,8,9,10,11,12,13,14,15,16,17,18,19,20,21,22,23,24,25,26,27,28],[0,1,2,3,4,5,6,7,8,9,10,11,12,13,14,15,16,17,18,19,20,21,22,23,24,25,26,27,28,29],[0,1,2,3,4,5,6,7,8,9,10,11,12,13,14,15,16,17,18,19,20,21,22,23,24,25,26],[0,1,2,3,4,5,6,7,8,9,10,11,12,13,14,15,16,17,18,19,20,21,22,23,24,25,26,27,28,29,30,31],[0,1,2,3,4,5,6,7,8,9,10,11,12,13,14,15,16,17,18,19,20,21,22,23,24,25,26,27,28,29,30,31,32],[0,1,2,3,4,5,6,7,8,9,10,11,12,13,14,15,16,17,18,19,20,21,22,23,24,25,26,27,28,29,30,31,32,33],[0,1,2,3,4,5,6,7,8,9,10,11,12,13,14,15,16,17,18,19,20,21,22,23,24,25,26],[0,1,2,3,4,5,6,7,8,9,10,11,12,13,14,15,16,17,18,19,20,21,22,23,24,25,26],[0,1,2,3,4,5,6,7,8,9,10,11,12,13,14,15,16,17,18,19,20,21,22,23,24,25,26,35,36],[0,1,2,3,4,5,6,7,8,9,10,11,12,13,14,15,16,17,18,19,20,21,22,23,24,25,26,35,36,37],[0,1,2,3,4,5,6,7,8,9,10,11,12,13,14,15,16,17,18,19,20,21,22,23,24,25,26,35,36,37,38],[0,1,2,3,4,5,6,7,8,9,10,11,12,13,14,15,16,17,18,19,20,21,22,23,24,25,26,35,36,37,38,39],[0,1,2,3,4,5,6,7,8,9,10,11,12,13,14,15,16,17,18,19,20,21,22,23,24,25,26,27,28,29,30,31,32,33,34,35,36,37,38,39,40],[0,1,2,3,4,5,6,7,8,9,10,11,12,13,14,15,16,17,18,19,20,21,22,23,24,25,26,27,28,29,30,31,32,33,34,35,36,37,38,39,40,41]] [[],[243],[243,244],[243,244,245],[],[243,244,245,246,247],[243,244,245,246,247,248],[243,244,245,246,247,248,249],[243,244,245,246,247,248,249,250],[243,244,245,246,247,248,249,250,251],[243,244,245,246,247,248,249,250,251,252],[243,244,245,246,247,248,249,250,251,252,253],[243,244,245,246,247,248,249,250,251,252,253,254],[243,244,245,246,247,248,249,250,251,252,253,254,255],[243,244,245,246,247,248,249,250,251,252],[243,244,245,246,247,248,249,250,251,252,253,254,255,256,257],[243,244,245,246,247,248,249,250,251,252,253,254,255,256,257,258],[243,244,245,246,247,248,249,250,251,252,253,254,255,256,257,258,259],[243,244,245,246,247,248,249,250,251,252],[243,244,245,246,247,248,249,250,251,252],[243,244,245,246,247,248,249,250,251,252,261,262],[243,244,245,246,247,248,249,250,251,252,261,262,263],[243,244,245,246,247,248,249,250,251,252,261,262,263,264],[243,244,245,246,247,248,249,250,251,252,261,262,263,264,265],[243,244,245,246,247,248,249,250,251,252,253,254,255,256,257,258,259,260,261,262,263,264,265,266],[243,244,245,246,247,248,249,250,251,252,253,254,255,256,257,258,259,260,261,262,263,264,265,266,267],[243,244,245,246,247,248,249,250,251,252,253,254,255,256,257,258,259,260,261,262,263,264,265,266,267,268],[243,244,245,246,247,248,249,250,251,252,253,254,255,256,257,258,259,260,261,262,263,264,265,266,267,268,269],[243,244,245,246,247,248,249,250,251,252,253,254,255,256,257,258,259,260,261,262,263,264,265,266,267,268,269,270],[243,244,245,246,247,248,249,250,251,252,253,254,255,256,257,258,259,260,261,262,263,264,265,266,267,268,269,270,271],[243,244,245,246,247,248,249,250,251,252,253,254,255,256,257,258,259,260,261,262,263,264,265,266,267,268,269,270,271,272],[243,244,245,246,247,248,249,250,251,252,253,254,255,256,257,258,259,260,261,262,263,264,265,266,267,268,269],[243,244,245,246,247,248,249,250,251,252,253,254,255,256,257,258,259,260,261,262,263,264,265,266,267,268,269,270,271,272,273,274],[243,244,245,246,247,248,249,250,251,252,253,254,255,256,257,258,259,260,261,262,263,264,265,266,267,268,269,270,271,272,273,274,275],[243,244,245,246,247,248,249,250,251,252,253,254,255,256,257,258,259,260,261,262,263,264,265,266,267,268,269,270,271,272,273,274,275,276],[243,244,245,246,247,248,249,250,251,252,253,254,255,256,257,258,259,260,261,262,263,264,265,266,267,268,269],[243,244,245,246,247,248,249,250,251,252,253,254,255,256,257,258,259,260,261,262,263,264,265,266,267,268,269],[243,244,245,246,247,248,249,250,251,252,253,254,255,256,257,258,259,260,261,262,263,264,265,266,267,268,269,278,279],[243,244,245,246,247,248,249,250,251,252,253,254,255,256,257,258,259,260,261,262,263,264,265,266,267,268,269,278,279,280],[243,244,245,246,247,248,249,250,251,252,253,254,255,256,257,258,259,260,261,262,263,264,265,266,267,268,269,278,279,280,281],[243,244,245,246,247,248,249,250,251,252,253,254,255,256,257,258,259,260,261,262,263,264,265,266,267,268,269,278,279,280,281,282],[243,244,245,246,247,248,249,250,251,252,253,254,255,256,257,258,259,260,261,262,263,264,265,266,267,268,269,270,271,272,273,274,275,276,277,278,279,280,281,282,283],[243,244,245,246,247,248,249,250,251,252,253,254,255,256,257,258,259,260,261,262,263,264,265,266,267,268,269,270,271,272,273,274,275,276,277,278,279,280,281,282,283,284]] [[247],[247],[247],[247],[243,244,245,246],[],[],[],[],[],[257,261,262,263,264,265,266],[257,261,262,263,264,265,266],[257,261,262,263,264,265,266],[257,261,262,263,264,265,266],[253,254,255,256,261,262,263,264,265,266],[261,262,263,264,265,266],[261,262,263,264,265,266],[261,262,263,264,265,266],[253,254,255,256,257,258,259,260,262],[253,254,255,256,257,258,259,260,261],[253,254,255,256,257,258,259,260],[253,254,255,256,257,258,259,260],[253,254,255,256,257,258,259,260],[253,254,255,256,257,258,259,260],[],[],[],[274,278,279,280,281,282,283],[274,278,279,280,281,282,283],[274,278,279,280,281,282,283],[274,278,279,280,281,282,283],[270,271,272,273,278,279,280,281,282,283],[278,279,280,281,282,283],[278,279,280,281,282,283],[278,279,280,281,282,283],[270,271,272,273,274,275,276,277,279],[270,271,272,273,274,275,276,277,278],[270,271,272,273,274,275,276,277],[270,271,272,273,274,275,276,277],[270,271,272,273,274,275,276,277],[270,271,272,273,274,275,276,277],[],[]] rfl ?_
      refine DR.step (Qa J J J) J J ?_;refine DR.step (Qz J J J) J J ?_;refine DR.step (Qf J J J J (by decide)) J J ?_
      refine DR.step (Qg J J J J J) J J ?_;refine DR.step (Qa J J J) J J ?_;refine DR.step (Q3 J J J J J (by omega) (by omega)) J J ?_
      refine DR.step (q_flde J J J J (by decide)) J J ?_;refine DR.step (Q7 J J J J (by assumption) rfl) J J ?_
      refine DR.step (Qv J J J J (by assumption)) J J ?_;refine DR.step (Qa J J J) J J ?_
      refine DR.step (Qt.yes J J J (Qa J J J)) J J ?_;refine DR.step (Qt.yes J J J (Qz J J J)) J J ?_
      refine DR.step (Qt.yes J J J (Qf J J J J (by decide))) J J ?_;refine DR.step (Qt.yes J J J (Qg J J J J J)) J J ?_
      refine DR.step (Qt.yes J J J (Qa J J J)) J J ?_;refine DR.step (Qt.yes J J J (Q3 J J J J J (by omega) (by omega))) J J ?_
      refine DR.step (Qt.yes J J J (q_flde J J J J (by decide))) J J ?_;refine DR.step (Qt.yes J J J (Q7 J J J J (by assumption) rfl)) J J ?_
      refine DR.step (Qt.yes J J J (Qa J J J)) J J ?_;refine DR.step (Qt.yes J J J (Qa J J J)) J J ?_
      refine DR.step (Qt.yes J J J (Q3 J J J J J (by omega) (by omega))) J J ?_
      refine DR.step (Qt.yes J J J (Q7 J J J J (by assumption) rfl)) J J ?_
      refine DR.step (Qt.yes J J J (Q2 J J J J (by omega) (by assumption) rfl)) J J ?_;refine DR.step (Qt.yes J J J (q_lr1 J J J J)) J J ?_
      refine DR.step (Qt.yes J J J (Qv J J J J (by assumption))) J J ?_;refine DR.step (Qo J J J J) J J ?_
      refine DR.step (Qa J J J) J J ?_;refine DR.step (Qt.yes J J J (Qa J J J)) J J ?_
      refine DR.step (Qt.yes J J J (Qz J J J)) J J ?_;refine DR.step (Qt.yes J J J (Qf J J J J (by decide))) J J ?_
      refine DR.step (Qt.yes J J J (Qg J J J J J)) J J ?_;refine DR.step (Qt.yes J J J (Qa J J J)) J J ?_
      refine DR.step (Qt.yes J J J (Q3 J J J J J (by omega) (by omega))) J J ?_;refine DR.step (Qt.yes J J J (q_flde J J J J (by decide))) J J ?_
      refine DR.step (Qt.yes J J J (Q7 J J J J (by assumption) rfl)) J J ?_;refine DR.step (Qt.yes J J J (Qa J J J)) J J ?_
      refine DR.step (Qt.yes J J J (Qa J J J)) J J ?_;refine DR.step (Qt.yes J J J (Q3 J J J J J (by omega) (by omega))) J J ?_
      refine DR.step (Qt.yes J J J (Q7 J J J J (by assumption) rfl)) J J ?_
      refine DR.step (Qt.yes J J J (Q2 J J J J (by omega) (by assumption) rfl)) J J ?_;refine DR.step (Qt.yes J J J (q_lr1 J J J J)) J J ?_
      refine DR.step (Qt.yes J J J (Qv J J J J (by assumption))) J J ?_;refine DR.step (Qo J J J J) J J ?_
      refine DR.stop (by kernel_rfl) (by kernel_rfl) ?_
      refine Qe (Q0 ?_);refine Ql rfl ?_;refine Qh (Q1 (Q0 (Qc ?_)));refine M0 (Qa J J J) J J ?_
      refine M0 (Qs J J J J (by omega)) J J ?_;refine M0 (Qb J J J) J J ?_;refine Qe (Q0 ?_)
      exact ⟨(b4.length - w.Scores.length) - (t + 1),by omega,(fun t : Nat => (⟨_,[(0,.o (.c (.ptr 0 0))),(4,I (els w.Scores).length),(13,.o (.c (.ref 5))),(15,I (i : Int)),(16,I (((els w.Scores).length + t : Nat) : Int))],[.box [.ref 1,jn (w.Tick + 1),jn (nextR sd),.ref 2,.ref 3],.row 1 (els w.Level.Rows),.row 1 (els s4),.row 9 (els b4),.gh 0 (.c (.ptr 0 0)),.row 1 (els (spotsM w.Level))]⟩ : St)) (t + 1),W_go [0,1,2,3,4,5] (by decide) rfl (rfl) (.cons rfl (.cons rfl (.cons rfl (.cons rfl (.cons (I_eq (by omega)) (.nil)))))),t + 1,by omega,at_go hbb (fun h => k3 h.2.2) hp_C,rfl⟩
    have p3 : decide (b.Y = y) = true := decide_eq_true k3
    rw [last_2 q hxy (at_hit hbb ⟨k1,k2,k3⟩)]
    refine A_draw [[],[0],[0,1],[0,1,2],[],[0,1,2,3,4],[0,1,2,3,4,5],[0,1,2,3,4,5,6],[0,1,2,3,4,5,6,7],[0,1,2,3,4,5,6,7,8],[0,1,2,3,4,5,6,7,8,9],[0,1,2,3,4,5,6,7,8,9,10],[0,1,2,3,4,5,6,7,8,9,10,11],[0,1,2,3,4,5,6,7,8,9,10,11,12],[0,1,2,3,4,5,6,7,8,9],[0,1,2,3,4,5,6,7,8,9,10,11,12,13,14],[0,1,2,3,4,5,6,7,8,9,10,11,12,13,14,15],[0,1,2,3,4,5,6,7,8,9,10,11,12,13,14,15,16],[0,1,2,3,4,5,6,7,8,9],[0,1,2,3,4,5,6,7,8,9],[0,1,2,3,4,5,6,7,8,9,18,19],[0,1,2,3,4,5,6,7,8,9,18,19,20],[0,1,2,3,4,5,6,7,8,9,18,19,20,21],[0,1,2,3,4,5,6,7,8,9,18,19,20,21,22],[0,1,2,3,4,5,6,7,8,9,10,11,12,13,14,15,16,17,18,19,20,21,22,23],[0,1,2,3,4,5,6,7,8,9,10,11,12,13,14,15,16,17,18,19,20,21,22,23,24],[0,1,2,3,4,5,6,7,8,9,10,11,12,13,14,15,16,17,18,19,20,21,22,23,24,25],[0,1,2,3,4,5,6,7,8,9,10,11,12,13,14,15,16,17,18,19,20,21,22,23,24,25,26],[0,1,2,3,4,5,6,7,8,9,10,11,12,13,14,15,16,17,18,19,20,21,22,23,24,25,26,27],[0,1,2,3,4,5,6,7,8,9,10,11,12,13,14,15,16,17,18,19,20,21,22,23,24,25,26,27,28],[0,1,2,3,4,5,6,7,8,9,10,11,12,13,14,15,16,17,18,19,20,21,22,23,24,25,26,27,28,29],[0,1,2,3,4,5,6,7,8,9,10,11,12,13,14,15,16,17,18,19,20,21,22,23,24,25,26],[0,1,2,3,4,5,6,7,8,9,10,11,12,13,14,15,16,17,18,19,20,21,22,23,24,25,26,27,28,29,30,31],[0,1,2,3,4,5,6,7,8,9,10,11,12,13,14,15,16,17,18,19,20,21,22,23,24,25,26,27,28,29,30,31,32],[0,1,2,3,4,5,6,7,8,9,10,11,12,13,14,15,16,17,18,19,20,21,22,23,24,25,26,27,28,29,30,31,32,33],[0,1,2,3,4,5,6,7,8,9,10,11,12,13,14,15,16,17,18,19,20,21,22,23,24,25,26],[0,1,2,3,4,5,6,7,8,9,10,11,12,13,14,15,16,17,18,19,20,21,22,23,24,25,26],[0,1,2,3,4,5,6,7,8,9,10,11,12,13,14,15,16,17,18,19,20,21,22,23,24,25,26,35,36],[0,1,2,3,4,5,6,7,8,9,10,11,12,13,14,15,16,17,18,19,20,21,22,23,24,25,26,35,36,37],[0,1,2,3,4,5,6,7,8,9,10,11,12,13,14,15,16,17,18,19,20,21,22,23,24,25,26,35,36,37,38],[0,1,2,3,4,5,6,7,8,9,10,11,12,13,14,15,16,17,18,19,20,21,22,23,24,25,26,35,36,37,38,39],[0,1,2,3,4,5,6,7,8,9,10,11,12,13,14,15,16,17,18,19,20,21,22,23,24,25,26,27,28,29,30,31,32,33,34,35,36,37,38,39,40],[0,1,2,3,4,5,6,7,8,9,10,11,12,13,14,15,16,17,18,19,20,21,22,23,24,25,26,27,28,29,30,31,32,33,34,35,36,37,38,39,40,41]] [[],[243],[243,244],[243,244,245],[],[243,244,245,246,247],[243,244,245,246,247,248],[243,244,245,246,247,248,249],[243,244,245,246,247,248,249,250],[243,244,245,246,247,248,249,250,251],[243,244,245,246,247,248,249,250,251,252],[243,244,245,246,247,248,249,250,251,252,253],[243,244,245,246,247,248,249,250,251,252,253,254],[243,244,245,246,247,248,249,250,251,252,253,254,255],[243,244,245,246,247,248,249,250,251,252],[243,244,245,246,247,248,249,250,251,252,253,254,255,256,257],[243,244,245,246,247,248,249,250,251,252,253,254,255,256,257,258],[243,244,245,246,247,248,249,250,251,252,253,254,255,256,257,258,259],[243,244,245,246,247,248,249,250,251,252],[243,244,245,246,247,248,249,250,251,252],[243,244,245,246,247,248,249,250,251,252,261,262],[243,244,245,246,247,248,249,250,251,252,261,262,263],[243,244,245,246,247,248,249,250,251,252,261,262,263,264],[243,244,245,246,247,248,249,250,251,252,261,262,263,264,265],[243,244,245,246,247,248,249,250,251,252,253,254,255,256,257,258,259,260,261,262,263,264,265,266],[243,244,245,246,247,248,249,250,251,252,253,254,255,256,257,258,259,260,261,262,263,264,265,266,267],[243,244,245,246,247,248,249,250,251,252,253,254,255,256,257,258,259,260,261,262,263,264,265,266,267,268],[243,244,245,246,247,248,249,250,251,252,253,254,255,256,257,258,259,260,261,262,263,264,265,266,267,268,269],[243,244,245,246,247,248,249,250,251,252,253,254,255,256,257,258,259,260,261,262,263,264,265,266,267,268,269,270],[243,244,245,246,247,248,249,250,251,252,253,254,255,256,257,258,259,260,261,262,263,264,265,266,267,268,269,270,271],[243,244,245,246,247,248,249,250,251,252,253,254,255,256,257,258,259,260,261,262,263,264,265,266,267,268,269,270,271,272],[243,244,245,246,247,248,249,250,251,252,253,254,255,256,257,258,259,260,261,262,263,264,265,266,267,268,269],[243,244,245,246,247,248,249,250,251,252,253,254,255,256,257,258,259,260,261,262,263,264,265,266,267,268,269,270,271,272,273,274],[243,244,245,246,247,248,249,250,251,252,253,254,255,256,257,258,259,260,261,262,263,264,265,266,267,268,269,270,271,272,273,274,275],[243,244,245,246,247,248,249,250,251,252,253,254,255,256,257,258,259,260,261,262,263,264,265,266,267,268,269,270,271,272,273,274,275,276],[243,244,245,246,247,248,249,250,251,252,253,254,255,256,257,258,259,260,261,262,263,264,265,266,267,268,269],[243,244,245,246,247,248,249,250,251,252,253,254,255,256,257,258,259,260,261,262,263,264,265,266,267,268,269],[243,244,245,246,247,248,249,250,251,252,253,254,255,256,257,258,259,260,261,262,263,264,265,266,267,268,269,278,279],[243,244,245,246,247,248,249,250,251,252,253,254,255,256,257,258,259,260,261,262,263,264,265,266,267,268,269,278,279,280],[243,244,245,246,247,248,249,250,251,252,253,254,255,256,257,258,259,260,261,262,263,264,265,266,267,268,269,278,279,280,281],[243,244,245,246,247,248,249,250,251,252,253,254,255,256,257,258,259,260,261,262,263,264,265,266,267,268,269,278,279,280,281,282],[243,244,245,246,247,248,249,250,251,252,253,254,255,256,257,258,259,260,261,262,263,264,265,266,267,268,269,270,271,272,273,274,275,276,277,278,279,280,281,282,283],[243,244,245,246,247,248,249,250,251,252,253,254,255,256,257,258,259,260,261,262,263,264,265,266,267,268,269,270,271,272,273,274,275,276,277,278,279,280,281,282,283,284]] [[247],[247],[247],[247],[243,244,245,246],[],[],[],[],[],[257,261,262,263,264,265,266],[257,261,262,263,264,265,266],[257,261,262,263,264,265,266],[257,261,262,263,264,265,266],[253,254,255,256,261,262,263,264,265,266],[261,262,263,264,265,266],[261,262,263,264,265,266],[261,262,263,264,265,266],[253,254,255,256,257,258,259,260,262],[253,254,255,256,257,258,259,260,261],[253,254,255,256,257,258,259,260],[253,254,255,256,257,258,259,260],[253,254,255,256,257,258,259,260],[253,254,255,256,257,258,259,260],[],[],[],[274,278,279,280,281,282,283],[274,278,279,280,281,282,283],[274,278,279,280,281,282,283],[274,278,279,280,281,282,283],[270,271,272,273,278,279,280,281,282,283],[278,279,280,281,282,283],[278,279,280,281,282,283],[278,279,280,281,282,283],[270,271,272,273,274,275,276,277,279],[270,271,272,273,274,275,276,277,278],[270,271,272,273,274,275,276,277],[270,271,272,273,274,275,276,277],[270,271,272,273,274,275,276,277],[270,271,272,273,274,275,276,277],[],[]] rfl ?_
    refine DR.step (Qa J J J) J J ?_;refine DR.step (Qz J J J) J J ?_;refine DR.step (Qf J J J J (by decide)) J J ?_
    refine DR.step (Qg J J J J J) J J ?_;refine DR.step (Qa J J J) J J ?_;refine DR.step (Q3 J J J J J (by omega) (by omega)) J J ?_
    refine DR.step (q_flde J J J J (by decide)) J J ?_;refine DR.step (Q7 J J J J (by assumption) rfl) J J ?_
    refine DR.step (Qv J J J J (by assumption)) J J ?_;refine DR.step (Qa J J J) J J ?_
    refine DR.step (Qt.yes J J J (Qa J J J)) J J ?_;refine DR.step (Qt.yes J J J (Qz J J J)) J J ?_
    refine DR.step (Qt.yes J J J (Qf J J J J (by decide))) J J ?_;refine DR.step (Qt.yes J J J (Qg J J J J J)) J J ?_
    refine DR.step (Qt.yes J J J (Qa J J J)) J J ?_;refine DR.step (Qt.yes J J J (Q3 J J J J J (by omega) (by omega))) J J ?_
    refine DR.step (Qt.yes J J J (q_flde J J J J (by decide))) J J ?_;refine DR.step (Qt.yes J J J (Q7 J J J J (by assumption) rfl)) J J ?_
    refine DR.step (Qt.yes J J J (Qa J J J)) J J ?_;refine DR.step (Qt.yes J J J (Qa J J J)) J J ?_
    refine DR.step (Qt.yes J J J (Q3 J J J J J (by omega) (by omega))) J J ?_
    refine DR.step (Qt.yes J J J (Q7 J J J J (by assumption) rfl)) J J ?_
    refine DR.step (Qt.yes J J J (Q2 J J J J (by omega) (by assumption) rfl)) J J ?_;refine DR.step (Qt.yes J J J (q_lr1 J J J J)) J J ?_
    refine DR.step (Qt.yes J J J (Qv J J J J (by assumption))) J J ?_;refine DR.step (Qo J J J J) J J ?_
    refine DR.step (Qa J J J) J J ?_;refine DR.step (Qt.yes J J J (Qa J J J)) J J ?_
    refine DR.step (Qt.yes J J J (Qz J J J)) J J ?_;refine DR.step (Qt.yes J J J (Qf J J J J (by decide))) J J ?_
    refine DR.step (Qt.yes J J J (Qg J J J J J)) J J ?_;refine DR.step (Qt.yes J J J (Qa J J J)) J J ?_
    refine DR.step (Qt.yes J J J (Q3 J J J J J (by omega) (by omega))) J J ?_;refine DR.step (Qt.yes J J J (q_flde J J J J (by decide))) J J ?_
    refine DR.step (Qt.yes J J J (Q7 J J J J (by assumption) rfl)) J J ?_;refine DR.step (Qt.yes J J J (Qa J J J)) J J ?_
    refine DR.step (Qt.yes J J J (Qa J J J)) J J ?_;refine DR.step (Qt.yes J J J (Q3 J J J J J (by omega) (by omega))) J J ?_
    refine DR.step (Qt.yes J J J (Q7 J J J J (by assumption) rfl)) J J ?_
    refine DR.step (Qt.yes J J J (Q2 J J J J (by omega) (by assumption) rfl)) J J ?_;refine DR.step (Qt.yes J J J (q_lr1 J J J J)) J J ?_
    refine DR.step (Qt.yes J J J (Qv J J J J (by assumption))) J J ?_;refine DR.step (Qo J J J J) J J ?_
    refine DR.stop (by kernel_rfl) (by kernel_rfl) ?_
    refine Qe (Q0 ?_);refine Qm rfl ?_;refine Xa (B_r (T_r (T_r (B_r (T_r (F_r ?_))))))
    exact E_none rfl (W_end [0,1,2,3,4] (by decide) J J J)
  · have hb0 : decide ((((els w.Scores).length + t : Nat) : Int) < (els b4).length) = false := decide_eq_false (by omega)
    have hk : w.Scores.length + t = b4.length := by omega
    rw [hk,List.take_length] at hp_C
    rw [last_3 q hxy hp_C]
    refine Qd (Qd (Qc ?_));refine M0 (Qa J J J) J J ?_;refine M0 (Qa J J J) J J ?_;refine M0 (Qz J J J) J J ?_
    refine M0 (Qf J J J J (by decide)) J J ?_;refine M0 (Qg J J J J J) J J ?_;refine M0 (q_lenr J J J J) J J ?_
    refine M0 (Qr J J J J (by assumption)) J J ?_;refine Qe (Q0 ?_);refine Ql rfl ?_;refine Q9 (T_x (T_x (B_xs (Q0 ?_))))
    refine A_draw [[],[],[1],[1,2],[1,2,3],[],[],[5,6],[5,6,7],[5,6,7,8],[5,6,7,8,9],[],[],[11,12],[11,12,13],[11,12,13,14],[11,12,13,14,15],[5,6,7,8,9,10,11,12,13,14,15,16],[5,6,7,8,9,10,11,12,13,14,15,16,17],[1,2,3,4,5,6,7,8,9,10,11,12,13,14,15,16,17,18],[0,1,2,3,4,5,6,7,8,9,10,11,12,13,14,15,16,17,18,19],[0,1,2,3,4,5,6,7,8,9,10,11,12,13,14,15,16,17,18,19,20],[0,1,2,3,4,5,6,7,8,9,10,11,12,13,14,15,16,17,18,19,20,21]] [[],[],[287],[287,288],[287,288,289],[],[],[291,292],[291,292,293],[291,292,293,294],[291,292,293,294,295],[],[],[297,298],[297,298,299],[297,298,299,300],[297,298,299,300,301],[291,292,293,294,295,296,297,298,299,300,301,302],[291,292,293,294,295,296,297,298,299,300,301,302,303],[287,288,289,290,291,292,293,294,295,296,297,298,299,300,301,302,303,304],[286,287,288,289,290,291,292,293,294,295,296,297,298,299,300,301,302,303,304,305],[286,287,288,289,290,291,292,293,294,295,296,297,298,299,300,301,302,303,304,305,306],[286,287,288,289,290,291,292,293,294,295,296,297,298,299,300,301,302,303,304,305,306,307]] [[287,288,289,290,291,292,293,294,295,296,297,298,299,300,301,302,303,304,305],[286,291,292,293,294,295,296,297,298,299,300,301,302,303,304],[286,291,292,293,294,295,296,297,298,299,300,301,302,303,304],[286,291,292,293,294,295,296,297,298,299,300,301,302,303,304],[286,291,292,293,294,295,296,297,298,299,300,301,302,303,304],[286,287,288,289,290,292,297,298,299,300,301,302],[286,287,288,289,290,291,297,298,299,300,301,302],[286,287,288,289,290,297,298,299,300,301,302],[286,287,288,289,290,297,298,299,300,301,302],[286,287,288,289,290,297,298,299,300,301,302],[286,287,288,289,290,297,298,299,300,301,302],[286,287,288,289,290,291,292,293,294,295,296,298],[286,287,288,289,290,291,292,293,294,295,296,297],[286,287,288,289,290,291,292,293,294,295,296],[286,287,288,289,290,291,292,293,294,295,296],[286,287,288,289,290,291,292,293,294,295,296],[286,287,288,289,290,291,292,293,294,295,296],[286,287,288,289,290],[286,287,288,289,290],[286],[],[],[],[0]] rfl ?_
    refine DR.step (Qa J J J) J J ?_;refine DR.step (Qa J J J) J J ?_;refine DR.step (Qz J J J) J J ?_
    refine DR.step (Qf J J J J (by decide)) J J ?_;refine DR.step (Qg J J J J J) J J ?_;refine DR.step (Qa J J J) J J ?_
    refine DR.step (Qa J J J) J J ?_;refine DR.step (Q3 J J J J J (by omega) (by omega)) J J ?_
    refine DR.step (Q7 J J J J (by assumption) rfl) J J ?_;refine DR.step (Q2 J J J J (by omega) (by assumption) rfl) J J ?_
    refine DR.step (q_lr1 J J J J) J J ?_;refine DR.step (Qa J J J) J J ?_;refine DR.step (Qa J J J) J J ?_
    refine DR.step (Q3 J J J J J (by omega) (by omega)) J J ?_;refine DR.step (Q7 J J J J (by assumption) rfl) J J ?_
    refine DR.step (Q2 J J J J (by omega) (by assumption) rfl) J J ?_;refine DR.step (q_lr1 J J J J) J J ?_
    refine DR.step (q_build J J J J J) J J ?_;refine DR.step (q_bslice J J J J J J) J J ?_;refine DR.stop (by kernel_rfl) (by kernel_rfl) ?_
    refine AL.weak (st' := (⟨_,[(286,.o (.c (.ptr 0 0))),(290,.o (.c (.ref 3))),(304,.o (.c (.sb 5 1 9)))],[.box [.ref 1,jn (w.Tick + 1),jn (nextR sd),.ref 2,.ref 3],.row 1 (els w.Level.Rows),.row 1 (els s4),.row 9 (els b4),.gh 0 (.c (.ptr 0 0)),.box ((Enc.e (itemB x y)).map (V1.rd []))]⟩ : St)) (W_go [0,1,2,3,4,6] (by decide) rfl (rfl) (.cons rfl (.cons rfl (.cons rfl (.nil))))) ?_
    refine M_appo J J J J J J J J J J J J J J (by omega) (by omega) ?_;refine M0 (Qz J J J) J J ?_
    refine M0 (Qf J J J J (by decide)) J J ?_;refine Q5 J J J J J J J J ?_;refine Qe (F_n ?_)
    exact E_none rfl (W_end [0,1,2,3,4] (by decide) rfl (by exact rwBo (by rw [els_app]; rfl)) rfl)
end Go.Proofs.Ytmljakmaffbnlaa
end

section
set_option linter.unusedSimpArgs false
set_option linter.unusedVariables false
set_option maxRecDepth 8000
namespace Go.Proofs.Ytmljakmaffbnlaa
open Go.RowKit

set_option maxHeartbeats 8000000 in
theorem S_StepWorld (w : TWorld) (row : List Int) (hg : Enc.gd w) (gr : Enc.gd row) (h1 : w.Level.Rows.length ≤ 1048576) (h2 : w.Scores.length ≤ 1048576) (h3 : w.Bodies.length ≤ 1048576) : Con Try.prog 88 [] [ag w,al row] [.row 1 (els w.Level.Rows),.row 1 (els (stepW w row).Scores),.row 9 (els (stepW w row).Bodies)] (.o (.ag [.ref 0,jn (stepW w row).Tick,jn (stepW w row).Seed,.ref 1,.ref 2])) := by
  have hls := els_len w.Scores
  have hlb := els_len w.Bodies
  have c1 := S_copyWorld w hg h1 h2 h3
  have c2 := S_WorldOk w hg
  have c3 := S_rowOk row ((els w.Scores).length : Int) gr
  rw [show rowOk row ((els w.Scores).length : Int) = rowOk row (w.Scores.length : Int) by rw [hls]] at c3
  cases ho : worldOk w with
  | false =>
    rw [step_F (fun q => by rw [ho] at q; cases q.1)]
    rw [ho] at c2
    refine Con.of Try.func88 rfl Try.ntmps88 rfl (fun E => ?_)
    refine Qd (Qc ?_);refine M1 (Qq J J J J) J J ?_;refine M1 (Qx J J J) J J ?_;refine Qe (Q0 (Qd ?_))
    refine Qc ?_;refine M0 (Qu J J J J J J) J J ?_;refine M1 (q_call J J (c1) J J J) J J ?_;refine M1 (Qx J J J) J J ?_
    refine Qy J J J J J J J J J ?_;refine Qe (Q0 (Qd (Qd (Qc ?_))));refine M0 (Qu J J J J J J) J J ?_
    refine M0 (Qj J J (c2) rfl) J J ?_;refine M0 (Q4 J J J) J J ?_;refine M0 (Qa J J J) J J ?_;refine Qp J J J J J J ?_
    refine Qp J J J J J J ?_;refine Qp J J J J J J ?_;refine M0 (Qo J J J J) J J ?_;refine M0 (Qa J J J) J J ?_
    refine Qp J J J J J J ?_;refine Qp J J J J J J ?_;refine Qp J J J J J J ?_;refine Qp J J J J J J ?_
    refine Qp J J J J J J ?_;refine Qp J J J J J J ?_;refine M0 (Qo J J J J) J J ?_;refine Qe (Q0 ?_);refine Qm rfl ?_
    refine Qd (Qc ?_);refine M0 (Qu J J J J J J) J J ?_;refine Qy J J J J J J J J J ?_;refine Qe (Q0 (Xa ?_))
    refine T_r (F_r ?_)
    exact E_cell J J J J (W_end [2,3,4] (by decide) J J J)
  | true =>
  rw [ho] at c2
  by_cases ht : w.Tick = 100000
  · have f1 : decide (w.Tick = 100000) = true := decide_eq_true ht
    rw [step_F (fun q => q.2.1 ht)]
    refine Con.of Try.func88 rfl Try.ntmps88 rfl (fun E => ?_)
    refine Qd (Qc ?_);refine M1 (Qq J J J J) J J ?_;refine M1 (Qx J J J) J J ?_;refine Qe (Q0 (Qd ?_))
    refine Qc ?_;refine M0 (Qu J J J J J J) J J ?_;refine M1 (q_call J J (c1) J J J) J J ?_;refine M1 (Qx J J J) J J ?_
    refine Qy J J J J J J J J J ?_;refine Qe (Q0 (Qd (Qd (Qc ?_))));refine M0 (Qu J J J J J J) J J ?_
    refine M0 (Qj J J (c2) rfl) J J ?_;refine M0 (Q4 J J J) J J ?_;refine M0 (Qa J J J) J J ?_;refine Qi J J J ?_
    refine M0 (Qf J J J J (by decide)) J J ?_;refine Qi J J J ?_;refine M0 (Qg J J J J J) J J ?_;refine Qi J J J ?_
    refine M0 (Qv J J J J (by assumption)) J J ?_;refine M0 (Qn J J J J) J J ?_;refine M0 (Qa J J J) J J ?_
    refine Qp J J J J J J ?_;refine Qp J J J J J J ?_;refine Qp J J J J J J ?_;refine Qp J J J J J J ?_
    refine Qp J J J J J J ?_;refine Qp J J J J J J ?_;refine M0 (Qo J J J J) J J ?_;refine Qe (Q0 ?_);refine Qm rfl ?_
    refine Qd (Qc ?_);refine M0 (Qu J J J J J J) J J ?_;refine Qy J J J J J J J J J ?_;refine Qe (Q0 (Xa ?_))
    refine T_r (F_r ?_)
    exact E_cell J J J J (W_end [2,3,4] (by decide) J J J)
  have f1 : decide (w.Tick = 100000) = false := decide_eq_false ht
  cases hr : rowOk row (w.Scores.length : Int) with
  | false =>
    rw [step_F (fun q => by rw [hr] at q; cases q.2.2)]
    rw [hr] at c3
    refine Con.of Try.func88 rfl Try.ntmps88 rfl (fun E => ?_)
    refine Qd (Qc ?_);refine M1 (Qq J J J J) J J ?_;refine M1 (Qx J J J) J J ?_;refine Qe (Q0 (Qd ?_))
    refine Qc ?_;refine M0 (Qu J J J J J J) J J ?_;refine M1 (q_call J J (c1) J J J) J J ?_;refine M1 (Qx J J J) J J ?_
    refine Qy J J J J J J J J J ?_;refine Qe (Q0 (Qd (Qd (Qc ?_))));refine M0 (Qu J J J J J J) J J ?_
    refine M0 (Qj J J (c2) rfl) J J ?_;refine M0 (Q4 J J J) J J ?_;refine M0 (Qa J J J) J J ?_;refine Qi J J J ?_
    refine M0 (Qf J J J J (by decide)) J J ?_;refine Qi J J J ?_;refine M0 (Qg J J J J J) J J ?_;refine Qi J J J ?_
    refine M0 (Qv J J J J (by assumption)) J J ?_;refine M0 (Qn J J J J) J J ?_;refine M0 (Qa J J J) J J ?_;refine Qi J J J ?_
    refine M0 (Qa J J J) J J ?_;refine Qi J J J ?_;refine M0 (Qf J J J J (by decide)) J J ?_;refine Qi J J J ?_
    refine M0 (Qg J J J J J) J J ?_;refine Qi J J J ?_;refine M0 (q_len J J J) J J ?_;refine Qi J J J ?_
    refine M0 (Qj J J (c3) rfl) J J ?_;refine Qi J J J ?_;refine M0 (Q4 J J J) J J ?_;refine M0 (Qn J J J J) J J ?_;refine Qe ?_
    refine Q0 ?_;refine Qm rfl ?_;refine Qd (Qc ?_);refine M0 (Qu J J J J J J) J J ?_;refine Qy J J J J J J J J J ?_
    refine Qe (Q0 (Xa (T_r (F_r ?_))))
    exact E_cell J J J J (W_end [2,3,4] (by decide) J J J)
  | true =>
  rw [hr] at c3
  rw [step_T ⟨ho,ht,hr⟩]
  have d1 := S_l02Step w row hg ho ht hr
  refine Con.of Try.func88 rfl Try.ntmps88 rfl (fun E => ?_)
  refine Qd (Qc ?_);refine M1 (Qq J J J J) J J ?_;refine M1 (Qx J J J) J J ?_;refine Qe (Q0 (Qd ?_))
  refine Qc ?_;refine M0 (Qu J J J J J J) J J ?_;refine M1 (q_call J J (c1) J J J) J J ?_;refine M1 (Qx J J J) J J ?_
  refine Qy J J J J J J J J J ?_;refine Qe (Q0 (Qd (Qd (Qc ?_))));refine M0 (Qu J J J J J J) J J ?_
  refine M0 (Qj J J (c2) rfl) J J ?_;refine M0 (Q4 J J J) J J ?_;refine M0 (Qa J J J) J J ?_;refine Qi J J J ?_
  refine M0 (Qf J J J J (by decide)) J J ?_;refine Qi J J J ?_;refine M0 (Qg J J J J J) J J ?_;refine Qi J J J ?_
  refine M0 (Qv J J J J (by assumption)) J J ?_;refine M0 (Qn J J J J) J J ?_;refine M0 (Qa J J J) J J ?_;refine Qi J J J ?_
  refine M0 (Qa J J J) J J ?_;refine Qi J J J ?_;refine M0 (Qf J J J J (by decide)) J J ?_;refine Qi J J J ?_
  refine M0 (Qg J J J J J) J J ?_;refine Qi J J J ?_;refine M0 (q_len J J J) J J ?_;refine Qi J J J ?_
  refine M0 (Qj J J (c3) rfl) J J ?_;refine Qi J J J ?_;refine M0 (Q4 J J J) J J ?_;refine M0 (Qn J J J J) J J ?_;refine Qe ?_
  refine Q0 ?_;refine Ql rfl ?_;refine Qh (Q0 (Qd (Qc ?_)));refine M0 (Qa J J J) J J ?_
  refine AL.weak (st' := (⟨_,[(4,.o (.c (.ptr 4 0))),(5,.o (.c (.ptr 0 0))),(25,L row)],[.box [.ref 1,jn w.Tick,jn w.Seed,.ref 2,.ref 3],.row 1 (els w.Level.Rows),.row 1 (els w.Scores),.row 9 (els w.Bodies),.box [nilV,jn 0,jn 0,nilV,nilV]]⟩ : St)) (W_go [5,2,3,4,1] (by decide) rfl (rfl) (.cons rfl (.cons rfl (.cons rfl (.nil))))) ?_
  clear c1 c2 c3 f1
  refine Xd (lo := [_,_,_,_]) (gs := [(0,.c (.ptr 0 0))]) (lo' := [_,_,_,_]) (new := []) [0,1,2,3] [(0,0,.ptr 0 0)] (d1) J J J J J J J J J J J J J J J J J ?_
  refine Qe (Q0 (Qd (Qc ?_)));refine M0 (Qu J J J J J J) J J ?_;refine Qy J J J J J J J J J ?_;refine Qe ?_
  refine Q0 (Xa (F_r ?_))
  exact E_cell J J J J (W_end [1,2,3] (by decide) J J J)
end Go.Proofs.Ytmljakmaffbnlaa
end

section
set_option linter.unusedSimpArgs false
set_option linter.unusedVariables false
namespace Go.Proofs.Ytmljakmaffbnlaa
open Go.RowKit

theorem tot_wts : ∀ xs : List (List Int),tot xs ≤ wts xs
  | [] => Nat.le_refl _
  | x :: xs => by
    have h1 := tot_wts xs
    have h2 : tot (x :: xs) = x.length + tot xs := by simp [tot]
    have h3 : wts (x :: xs) = (x.length + wts x) + wts xs := rfl
    omega
theorem Enc.gd_take {α : Type} [Enc α] {xs : List α} (h : Enc.gd xs) (n : Nat) : Enc.gd (xs.take n) := ⟨Nat.le_trans (by simp; omega) h.1,fun x hx => h.2 x (List.mem_of_mem_take hx)⟩
structure RepIn (y : TReplay) : Prop where
  gd : Enc.gd y
  h1 : y.Level.Rows.length ≤ 1048576
  h2 : y.Keys.length ≤ 1048576
  h3 : y.Rows.length ≤ 1048576
  h4 : tot y.Rows ≤ 1048576
theorem rep_in {x : TReplay} (hg : Enc.gd x) (hw : Enc.wt x ≤ 1048576) : RepIn x := by
  have h0 : Enc.wt x = (x.Level.Rows.length + wts x.Level.Rows) + (x.Rows.length + wts x.Rows) + (x.Keys.length + wts x.Keys) := rfl
  have h1 := tot_wts x.Rows
  exact ⟨hg,by omega,by omega,by omega,by omega⟩
structure WorIn (w : TWorld) : Prop where
  gd : Enc.gd w
  h1 : w.Level.Rows.length ≤ 1048576
  h2 : w.Scores.length ≤ 1048576
  h3 : w.Bodies.length ≤ 1048576
theorem wor_zero : WorIn zeroWorld := ⟨⟨⟨by simp [zeroWorld],fun x hx => by simp [zeroWorld] at hx⟩,⟨by decide,by decide⟩,⟨by decide,by decide⟩,⟨by simp [zeroWorld],fun x hx => by simp [zeroWorld] at hx⟩,⟨by simp [zeroWorld],fun x hx => by simp [zeroWorld] at hx⟩⟩,by simp [zeroWorld],by simp [zeroWorld],by simp [zeroWorld]⟩
end Go.Proofs.Ytmljakmaffbnlaa
end

section
set_option linter.unusedSimpArgs false
set_option linter.unusedVariables false
set_option maxRecDepth 8000
namespace Go.Proofs.Ytmljakmaffbnlaa
open Go.RowKit

noncomputable def runM (w : TWorld) (rows : List (List Int)) : TWorld := rows.foldl stepW w
theorem step_in {w : TWorld} {row : List Int} (h : WorIn w) : WorIn (stepW w row) := by
  have h1 := stepW_fits (row := row) h.gd
  exact ⟨h1.1,by rw [stepW_level]; exact h.h1,by rw [h1.2.1]; exact h.h2,by have := h.h3; omega⟩
theorem ran_in : ∀ (rows : List (List Int)) {w : TWorld},WorIn w → WorIn (runM w rows)
  | [],_,h => h
  | r :: rs,w,h => ran_in rs (w := stepW w r) (step_in h)
theorem runM_next {w x : TWorld} {rows : List (List Int)} {k : Nat} {r : List Int} (hr : rows[k]? = some r) (h : x = runM w (rows.take k)) : stepW x r = runM w (rows.take (k + 1)) := by
  obtain ⟨hk,rfl⟩ := List.getElem?_eq_some_iff.1 hr
  rw [List.take_succ_eq_append_getElem hk,h]
  unfold runM
  rw [List.foldl_append]
  rfl
set_option maxHeartbeats 8000000 in
theorem I_RunWorld (w : TWorld) (rows : List (List Int)) (iw : WorIn w) (gr : Enc.gd rows) : Con Try.prog 55 [] [ag w,al rows] [.row 1 (els (runM w rows).Level.Rows),.row 1 (els (runM w rows).Scores),.row 9 (els (runM w rows).Bodies)] (.o (.ag [.ref 0,jn (runM w rows).Tick,jn (runM w rows).Seed,.ref 1,.ref 2])) := by
  have c1 := I_copyWorld w iw.gd iw.h1 iw.h2 iw.h3
  have hlr := els_len rows
  have hlg := gr.1
  refine Con.of Try.func55 rfl Try.ntmps55 rfl (fun E => ?_)
  refine Qd (Qc ?_);refine M1 (Qq J J J J) J J ?_;refine M1 (Qx J J J) J J ?_;refine Qe (Q0 (Qd ?_))
  refine Qc ?_;refine M0 (Qu J J J J J J) J J ?_;refine M1 (q_call J J (c1) J J J) J J ?_;refine M1 (Qx J J J) J J ?_
  refine Qy J J J J J J J J J ?_;refine Qe (Q0 (Qd (Qd (Qc ?_))));refine M0 (Qa J J J) J J ?_
  refine M0 (q_len J J J) J J ?_;refine M0 (Qa J J J) J J ?_;refine Qe (Q0 (Qk ?_))
  refine AWP.pre (st' := (⟨_,[(4,.o (.c (.ptr 4 0))),(5,.o (.c (.ptr 0 0))),(10,L rows),(11,I (els rows).length),(12,I 0)],[.box [.ref 1,jn w.Tick,jn w.Seed,.ref 2,.ref 3],.row 1 (els w.Level.Rows),.row 1 (els w.Scores),.row 9 (els w.Bodies),.box [nilV,jn 0,jn 0,nilV,nilV]]⟩ : St)) ?_ (W_go [5,2,3,4,1] (by decide) rfl (rfl) (.cons rfl (.cons rfl (.cons rfl (.cons rfl (.cons rfl (.nil)))))))
  clear c1
  refine A_loop (fun m st => ∃ (k : Nat) (x : TWorld),k + m = rows.length ∧ (x = runM w (rows.take k)) ∧ st = (fun (k : Nat) (x : TWorld) => (⟨_,[(4,.o (.c (.ptr 4 0))),(5,.o (.c (.ptr 0 0))),(10,L rows),(11,I (els rows).length),(12,I k)],[.box [.ref 1,jn x.Tick,jn x.Seed,.ref 2,.ref 3],.row 1 (els x.Level.Rows),.row 1 (els x.Scores),.row 9 (els x.Bodies),.box [nilV,jn 0,jn 0,nilV,nilV]]⟩ : St)) k x) (rows.length) ⟨(fun (k : Nat) (x : TWorld) => (⟨_,[(4,.o (.c (.ptr 4 0))),(5,.o (.c (.ptr 0 0))),(10,L rows),(11,I (els rows).length),(12,I k)],[.box [.ref 1,jn x.Tick,jn x.Seed,.ref 2,.ref 3],.row 1 (els x.Level.Rows),.row 1 (els x.Scores),.row 9 (els x.Bodies),.box [nilV,jn 0,jn 0,nilV,nilV]]⟩ : St)) 0 (w),W_go [0,1,2,3,4] (by decide) rfl (rfl) (.cons rfl (.cons rfl (.cons rfl (.cons rfl (.cons rfl (.nil)))))),0,w,by omega,rfl,rfl⟩ ?_
  rintro m_A _ ⟨k,x,hk_A,hp_A,rfl⟩
  have ix : WorIn x := by rw [hp_A]; exact ran_in _ iw
  by_cases hlt : k < rows.length
  · have hb0 : decide ((k : Int) < (els rows).length) = true := decide_eq_true (by omega)
    obtain ⟨r,hr⟩ := some_sm hlt
    have her := els_sm hr
    have cs := I_StepWorld x r ix.gd (gr.2 r (List.mem_of_getElem? hr)) ix.h1 ix.h2 ix.h3
    have hnx := runM_next hr hp_A
    have hlv := stepW_level x r
    generalize stepW x r = z at cs hnx hlv
    rw [← hlv] at cs
    refine Qd (Qc ?_);refine M0 (Qr J J J J (by assumption)) J J ?_;refine Qe (Q0 (Qd ?_));refine Qm rfl ?_;refine Qh ?_
    refine Q0 (Qd (Qk (Qd (Qc ?_))));refine M0 (Q2 J J J J (by omega) (by assumption) rfl) J J ?_
    refine M0 (q_lr1 J J J J) J J ?_;refine M0 (Qb J J J) J J ?_;refine Qe (Q0 (Qc ?_))
    refine M0 (Qu J J J J J J) J J ?_;refine M0 (Qa J J J) J J ?_;refine M1 (q_call J J (cs) J J J) J J ?_
    refine Qy J J J J J J J J J ?_;refine Qe (Q1 (Q0 (Qc ?_)));refine M0 (Qs J J J J (by omega)) J J ?_
    refine M0 (Qa J J J) J J ?_;refine Qe (Q0 ?_)
    exact ⟨rows.length - (k + 1),by omega,(fun (k : Nat) (x : TWorld) => (⟨_,[(4,.o (.c (.ptr 4 0))),(5,.o (.c (.ptr 0 0))),(10,L rows),(11,I (els rows).length),(12,I k)],[.box [.ref 1,jn x.Tick,jn x.Seed,.ref 2,.ref 3],.row 1 (els x.Level.Rows),.row 1 (els x.Scores),.row 9 (els x.Bodies),.box [nilV,jn 0,jn 0,nilV,nilV]]⟩ : St)) (k + 1) (z),W_go [0,5,6,7,4] (by decide) rfl (rfl) (.cons rfl (.cons rfl (.cons rfl (.cons rfl (.cons rfl (.nil)))))),k + 1,z,by omega,hnx,rfl⟩
  have hb0 : decide ((k : Int) < (els rows).length) = false := decide_eq_false (by omega)
  have hk : k = rows.length := by omega
  rw [hk,List.take_length] at hp_A
  rw [← hp_A]
  refine Qd (Qc ?_);refine M0 (Qr J J J J (by assumption)) J J ?_;refine Qe (Q0 (Qd ?_));refine Ql rfl ?_;refine Q9 ?_
  refine T_x (T_x (B_xs (Q0 (Qd (Qc ?_)))));refine M0 (Qu J J J J J J) J J ?_
  refine Qy J J J J J J J J J ?_;refine Qe (Q0 (Xa (F_r ?_)))
  exact E_cell J J J J (W_end [1,2,3] (by decide) J J J)
set_option maxHeartbeats 8000000 in
theorem S_RunWorld (w : TWorld) (rows : List (List Int)) (iw : WorIn w) (gr : Enc.gd rows) : Con Try.prog 54 [] [ag w,al rows] [.row 1 (els (runM w rows).Level.Rows),.row 1 (els (runM w rows).Scores),.row 9 (els (runM w rows).Bodies)] (.o (.ag [.ref 0,jn (runM w rows).Tick,jn (runM w rows).Seed,.ref 1,.ref 2])) := by
  have c1 := S_copyWorld w iw.gd iw.h1 iw.h2 iw.h3
  have hlr := els_len rows
  have hlg := gr.1
  refine Con.of Try.func54 rfl Try.ntmps54 rfl (fun E => ?_)
  refine Qd (Qc ?_);refine M1 (Qq J J J J) J J ?_;refine M1 (Qx J J J) J J ?_;refine Qe (Q0 (Qd ?_))
  refine Qc ?_;refine M0 (Qu J J J J J J) J J ?_;refine M1 (q_call J J (c1) J J J) J J ?_;refine M1 (Qx J J J) J J ?_
  refine Qy J J J J J J J J J ?_;refine Qe (Q0 (Qd (Qd (Qc ?_))));refine M0 (Qb J J J) J J ?_
  refine Qe (Q0 (Qk ?_))
  refine AWP.pre (st' := (⟨_,[(4,.o (.c (.ptr 4 0))),(5,.o (.c (.ptr 0 0))),(1,L rows),(6,I 0)],[.box [.ref 1,jn w.Tick,jn w.Seed,.ref 2,.ref 3],.row 1 (els w.Level.Rows),.row 1 (els w.Scores),.row 9 (els w.Bodies),.box [nilV,jn 0,jn 0,nilV,nilV]]⟩ : St)) ?_ (W_go [5,2,3,4,1] (by decide) rfl (rfl) (.cons rfl (.cons rfl (.cons rfl (.cons rfl (.nil))))))
  clear c1
  refine A_loop (fun m st => ∃ (k : Nat) (x : TWorld),k + m = rows.length ∧ (x = runM w (rows.take k)) ∧ st = (fun (k : Nat) (x : TWorld) => (⟨_,[(4,.o (.c (.ptr 4 0))),(5,.o (.c (.ptr 0 0))),(1,L rows),(6,I k)],[.box [.ref 1,jn x.Tick,jn x.Seed,.ref 2,.ref 3],.row 1 (els x.Level.Rows),.row 1 (els x.Scores),.row 9 (els x.Bodies),.box [nilV,jn 0,jn 0,nilV,nilV]]⟩ : St)) k x) (rows.length) ⟨(fun (k : Nat) (x : TWorld) => (⟨_,[(4,.o (.c (.ptr 4 0))),(5,.o (.c (.ptr 0 0))),(1,L rows),(6,I k)],[.box [.ref 1,jn x.Tick,jn x.Seed,.ref 2,.ref 3],.row 1 (els x.Level.Rows),.row 1 (els x.Scores),.row 9 (els x.Bodies),.box [nilV,jn 0,jn 0,nilV,nilV]]⟩ : St)) 0 (w),W_go [0,1,2,3,4] (by decide) rfl (rfl) (.cons rfl (.cons rfl (.cons rfl (.cons rfl (.nil))))),0,w,by omega,rfl,rfl⟩ ?_
  rintro m_A _ ⟨k,x,hk_A,hp_A,rfl⟩
  have ix : WorIn x := by rw [hp_A]; exact ran_in _ iw
  by_cases hlt : k < rows.length
  · have hb0 : decide ((k : Int) < (els rows).length) = true := decide_eq_true (by omega)
    obtain ⟨r,hr⟩ := some_sm hlt
    have her := els_sm hr
    have cs := S_StepWorld x r ix.gd (gr.2 r (List.mem_of_getElem? hr)) ix.h1 ix.h2 ix.h3
    have hnx := runM_next hr hp_A
    have hlv := stepW_level x r
    generalize stepW x r = z at cs hnx hlv
    rw [← hlv] at cs
    refine Qd (Qd (Qc ?_));refine M0 (Qa J J J) J J ?_;refine M0 (Qa J J J) J J ?_;refine M0 (q_len J J J) J J ?_
    refine M0 (Qr J J J J (by assumption)) J J ?_;refine Qe (Q0 ?_);refine Qm rfl ?_;refine Qh (Q0 (Qd (Qk ?_)))
    refine A_draw [[],[],[],[1,2],[1,2,3],[0,1,2,3,4],[0,1,2,3,4,5]] [[],[],[],[16,17],[16,17,18],[15,16,17,18,19],[15,16,17,18,19,20]] [[16,17,18,19],[15,17],[15,16],[15],[15],[],[]] rfl ?_
    refine DR.step (Qu J J J J J J) J J ?_;refine DR.step (Qa J J J) J J ?_;refine DR.step (Qa J J J) J J ?_
    refine DR.step (Q2 J J J J (by omega) (by assumption) rfl) J J ?_;refine DR.step (q_lr1 J J J J) J J ?_
    refine DR.step (q_call J J (cs) J J J) J J ?_;refine DR.stop (by kernel_rfl) (by kernel_rfl) ?_
    refine Qy J J J J J J J J J ?_;refine Qe (Q1 (Q0 (Qc ?_)));refine M0 (Qa J J J) J J ?_
    refine M0 (Qs J J J J (by omega)) J J ?_;refine M0 (Qb J J J) J J ?_;refine Qe (Q0 ?_)
    exact ⟨rows.length - (k + 1),by omega,(fun (k : Nat) (x : TWorld) => (⟨_,[(4,.o (.c (.ptr 4 0))),(5,.o (.c (.ptr 0 0))),(1,L rows),(6,I k)],[.box [.ref 1,jn x.Tick,jn x.Seed,.ref 2,.ref 3],.row 1 (els x.Level.Rows),.row 1 (els x.Scores),.row 9 (els x.Bodies),.box [nilV,jn 0,jn 0,nilV,nilV]]⟩ : St)) (k + 1) (z),W_go [0,5,6,7,4] (by decide) rfl (rfl) (.cons rfl (.cons rfl (.cons rfl (.cons rfl (.nil))))),k + 1,z,by omega,hnx,rfl⟩
  have hb0 : decide ((k : Int) < (els rows).length) = false := decide_eq_false (by omega)
  have hk : k = rows.length := by omega
  rw [hk,List.take_length] at hp_A
  rw [← hp_A]
  refine Qd (Qd (Qc ?_));refine M0 (Qa J J J) J J ?_;refine M0 (Qa J J J) J J ?_;refine M0 (q_len J J J) J J ?_
  refine M0 (Qr J J J J (by assumption)) J J ?_;refine Qe (Q0 ?_);refine Ql rfl ?_;refine Q9 (T_x (T_x (B_xs (Q0 ?_))))
  refine Qd (Qc ?_);refine M0 (Qu J J J J J J) J J ?_;refine Qy J J J J J J J J J ?_;refine Qe (Q0 (Xa ?_))
  refine F_r ?_
  exact E_cell J J J J (W_end [1,2,3] (by decide) J J J)
end Go.Proofs.Ytmljakmaffbnlaa
end

section
set_option linter.unusedSimpArgs false
set_option linter.unusedVariables false
set_option maxRecDepth 8000
namespace Go.Proofs.Ytmljakmaffbnlaa
open Go.RowKit

def zeroB (b : UInt8) : Bool := b == 0
def someB (b : UInt8) : Bool := !(b == 0)
def packZ (l : List UInt8) : List UInt8 := match l with
  | [] => []
  | x :: r => encVar (((x :: r).takeWhile zeroB).length : Nat) ++ (encVar ((((x :: r).dropWhile zeroB).takeWhile someB).length : Nat) ++ ((x :: r).dropWhile zeroB).takeWhile someB) ++ packZ (((x :: r).dropWhile zeroB).dropWhile someB)
termination_by l.length
decreasing_by
  by_cases h : zeroB x = true
  · rw [List.dropWhile_cons,if_pos h]
    have h1 := (List.dropWhile_sublist someB (l := r.dropWhile zeroB)).length_le
    have h2 := (List.dropWhile_sublist zeroB (l := r)).length_le
    simp only [List.length_cons]; omega
  · rw [List.dropWhile_cons,if_neg h,List.dropWhile_cons,if_pos (by simpa [zeroB,someB] using h)]
    have h1 := (List.dropWhile_sublist someB (l := r)).length_le
    simp only [List.length_cons]; omega
def uzGo (s : ByteArray) (strict : Bool) : Nat → Nat → List UInt8 → Option (List UInt8)
  | 0,pos,out => if pos < s.size then none else some out
  | f + 1,pos,out => if pos < s.size then (match decVar s pos with
    | none => none
    | some (n,j) => match unpackText s ((pos : Int) + (j : Int)) with
      | none => none
      | some (t,k) => if (20000 : Int) - out.length < n + t.size then none else if strict = true ∧ n = 0 ∧ t.size = 0 then none else uzGo s strict f (pos + j + k) (out ++ List.replicate n.toNat 0 ++ t.data.toList)) else some out
def unpackZ (strict : Bool) (s : ByteArray) : Option ByteArray := match uzGo s strict s.size 0 [] with
  | none => none
  | some out => if bs (packZ out) = s then some (bs out) else none
end Go.Proofs.Ytmljakmaffbnlaa
end

section
set_option linter.unusedSimpArgs false
set_option linter.unusedVariables false
set_option maxRecDepth 8000
namespace Go.Proofs.Ytmljakmaffbnlaa
open Go.RowKit

section
variable {P : Program} {E : Env} {ops : Array Oper} {rest : List Oper} {o : Oper} {QQ : Exit → St → Prop} {st : St} {t : TypeId} {y z : Operand} {qs : List Nat}
end
end Go.Proofs.Ytmljakmaffbnlaa
end

section
set_option linter.unusedSimpArgs false
set_option linter.unusedVariables false
set_option maxRecDepth 8000
namespace Go.Proofs.Ytmljakmaffbnlaa
open Go.RowKit

end Go.Proofs.Ytmljakmaffbnlaa
end

section
set_option linter.unusedSimpArgs false
set_option linter.unusedVariables false
set_option maxRecDepth 8000
namespace Go.Proofs.Ytmljakmaffbnlaa
open Go.RowKit

def xorB (a : ByteArray) (i : Nat) (x : UInt8) : UInt8 := if i < a.size then UInt8.ofNat (x.toNat ^^^ (byteAt a i).toNat) else x
def xorL (a b : ByteArray) : List UInt8 := (List.range b.size).map fun i => xorB a i (b.data.toList.getD i 0)
def xorText (a b : ByteArray) : ByteArray := bs (xorL a b)
end Go.Proofs.Ytmljakmaffbnlaa
end

section
set_option linter.unusedSimpArgs false
set_option linter.unusedVariables false
set_option maxRecDepth 8000
namespace Go.Proofs.Ytmljakmaffbnlaa
open Go.RowKit

section
variable {s : ByteArray} {b : Bool} {pos f j k : Nat} {acc : List UInt8} {n : Int} {t : ByteArray} (hp : pos < s.size)
include hp
end
def applyD (base delta : ByteArray) : Option ByteArray := match decVar delta 0 with
  | none => none
  | some (n,j) => match unpackZ true (delta.extract j delta.size) with
    | none => none
    | some x => if (x.size : Int) = n then some (xorText base x) else none
end Go.Proofs.Ytmljakmaffbnlaa
end

section
set_option linter.unusedSimpArgs false
set_option linter.unusedVariables false
set_option maxRecDepth 8000
namespace Go.Proofs.Ytmljakmaffbnlaa
open Go.RowKit

end Go.Proofs.Ytmljakmaffbnlaa
end

section
set_option linter.unusedSimpArgs false
set_option linter.unusedVariables false
set_option maxRecDepth 8000
namespace Go.Proofs.Ytmljakmaffbnlaa
open Go.RowKit

end Go.Proofs.Ytmljakmaffbnlaa
end

section
set_option linter.unusedSimpArgs false
set_option linter.unusedVariables false
set_option maxRecDepth 8000
namespace Go.Proofs.Ytmljakmaffbnlaa
open Go.RowKit

/-- The text behind the first n keys. -/
def keyText (s : ByteArray) (keys : List ByteArray) : Nat → Option ByteArray
  | 0 => some s
  | n + 1 => match keyText s keys n with
    | none => none
    | some t => match keys[n]? with
      | none => none
      | some d => applyD t d
structure ROk (r : TReplay) : Prop where
  l : levelOk r.Level = true
  p : 1 ≤ r.Players ∧ r.Players ≤ 4
  s : inR r.Seed 0 65535 = true
  e : 1 ≤ r.Every ∧ r.Every ≤ 100
  k : r.Keys.length ≤ 400
theorem rok {r : TReplay} (h : replayOk r = true) : ROk r := by
  unfold replayOk at h
  simp only [Bool.and_eq_true,decide_eq_true_eq,inR_iff] at h
  obtain ⟨⟨⟨⟨⟨⟨h1,h2⟩,h3⟩,h4⟩,h5⟩,h6⟩,h7⟩ := h
  refine ⟨h1,h2,inR_iff.2 h3,h4,?_⟩
  have : (r.Rows.length : Int) / r.Every ≤ r.Rows.length := Int.ediv_le_self _ (by omega)
  omega
section
variable {r : TReplay} {n : Nat} {s : ByteArray} {w : TWorld}
variable (h : keyText (worldBytes (newWorld r.Level r.Players.toNat r.Seed)) r.Keys n = some s)
include h
end
end Go.Proofs.Ytmljakmaffbnlaa
end

section
set_option linter.unusedSimpArgs false
set_option linter.unusedVariables false
set_option maxRecDepth 8000
namespace Go.Proofs.Ytmljakmaffbnlaa
open Go.RowKit

noncomputable def playM (r : TReplay) (k : Int) : Option TWorld := if replayOk r = true ∧ 0 ≤ k ∧ k ≤ r.Rows.length then some (runM (newWorld r.Level r.Players.toNat r.Seed) (r.Rows.take k.toNat)) else none
theorem play_no {r : TReplay} {k : Int} (h : ¬ (replayOk r = true ∧ 0 ≤ k ∧ k ≤ r.Rows.length)) : playM r k = none := if_neg h
theorem play_yes {r : TReplay} {k : Int} (h : replayOk r = true ∧ 0 ≤ k ∧ k ≤ r.Rows.length) : playM r k = some (runM (newWorld r.Level r.Players.toNat r.Seed) (r.Rows.take k.toNat)) := if_pos h
theorem new_in {r : TReplay} (ir : RepIn r) (h : replayOk r = true) : WorIn (newWorld r.Level r.Players.toNat r.Seed) := by
  have hr := rok h
  have hp := hr.p
  refine ⟨newWorld_gd (n := r.Players.toNat) ir.gd.1 hr.l (by omega) hr.s,ir.h1,?_,?_⟩
  · simp only [newWorld,List.length_replicate]; omega
  · simp only [newWorld,List.length_map,List.length_range]; omega
theorem play_in {r : TReplay} {k : Int} (ir : RepIn r) : WorIn (rwW (playM r k)) := by
  by_cases h : replayOk r = true ∧ 0 ≤ k ∧ k ≤ r.Rows.length
  · rw [play_yes h]
    exact ran_in _ (new_in ir h.1)
  · rw [play_no h]
    exact wor_zero
theorem takes_els {r : TReplay} {k : Int} : (els r.Rows).take k.toNat = els (r.Rows.take k.toNat) := (els_takeE2 _ _).symm
set_option maxHeartbeats 8000000 in
theorem I_PlayReplay (r : TReplay) (k : Int) (hg : Enc.gd r) (hk : I64 k) (ir : RepIn r) : Con Try.prog 16 [] [ag r,ai k] (ownO (Enc.e (rwW (playM r k)))) (.tu [.ag (ownV 0 (Enc.e (rwW (playM r k)))),.c (bv (rwB (playM r k)))]) := by
  have cr := I_ReplayOk r hg
  have hlk := els_len r.Rows
  obtain ⟨hk1,hk2⟩ := hk
  have hL := ir.h1
  refine Con.of Try.func16 rfl Try.ntmps16 rfl (fun E => ?_)
  refine Qd (Qc ?_);refine M1 (Qq J J J J) J J ?_;refine M1 (Qx J J J) J J ?_;refine M0 (Qb J J J) J J ?_;refine Qe ?_
  refine Q0 (Qd (Qd (Qc ?_)));refine M0 (Qu J J J J J J) J J ?_;refine M0 (Qj J J (cr) rfl) J J ?_
  refine M0 (Q4 J J J) J J ?_;refine M0 (Qa J J J) J J ?_;refine M0 (Qt.grdF J J J .stop (fun hgrd => Qa J J J)) J J ?_
  refine M0 (Qt.grdF J J J (.hit .stop) (fun hgrd => q_lss J J J J)) J J ?_;refine M0 (q_or J J J J) J J ?_;refine M0 (Qa J J J) J J ?_
  refine M0 (Qt.grdF J J J .stop (fun hgrd => Qa J J J)) J J ?_
  refine M0 (Qt.grdF J J J (.hit .stop) (fun hgrd => Qf J J J J (by decide))) J J ?_
  refine M0 (Qt.grdF J J J (.hit (.hit .stop)) (fun hgrd => Qg J J J J J)) J J ?_
  refine M0 (Qt.grdF J J J (.hit (.hit (.hit .stop))) (fun hgrd => q_len J J J)) J J ?_
  refine M0 (Qt.grdF J J J (.hit (.hit (.hit (.hit .stop)))) (fun hgrd => q_gtr J J J J)) J J ?_;refine M0 (q_or J J J J) J J ?_;refine Qe ?_
  refine Q0 ?_
  refine Xb rfl (fun h => ?_) (fun h => ?_)
  · rw [play_no (fun ⟨q1,q2,q3⟩ => by rw [q1] at h; simp at h; omega)]
    refine Qd (Qc ?_);refine M0 (q_build J J J J J) J J ?_;refine Qy J J J J J J J J J ?_;refine M0 (Qb J J J) J J ?_
    refine Qe (Q0 (Xa (T_r (F_r ?_))))
    exact E_cellt J J J J J (W_fill [1,1,9] [2,3,4] J J (by decide) J J J)
  simp only [Bool.or_eq_false_iff,Bool.not_eq_false',decide_eq_false_iff_not] at h
  have hv : replayOk r = true ∧ 0 ≤ k ∧ k ≤ r.Rows.length := ⟨h.1.1,by omega,by omega⟩
  have hr := rok hv.1
  obtain ⟨hp1,hp2⟩ := hr.p
  have hnw := I_NewWorld r.Level r.Players.toNat r.Seed hg.1 hL hr.l (by omega) hr.s
  rw [show ((r.Players.toNat : Nat) : Int) = r.Players by omega] at hnw
  have iw := new_in ir hv.1
  have hrw := I_RunWorld _ (r.Rows.take k.toNat) iw (Enc.gd_take hg.2.2.2.2.1 _)
  have hrw : Con Try.prog 55 [] [ag (newWorld r.Level r.Players.toNat r.Seed),.c (.rd [] (.sl (Enc.k (List Int)) ((els r.Rows).take k.toNat)))] (ownO (Enc.e (runM (newWorld r.Level r.Players.toNat r.Seed) (r.Rows.take k.toNat)))) (.o (.ag (ownV 0 (Enc.e (runM (newWorld r.Level r.Players.toNat r.Seed) (r.Rows.take k.toNat)))))) := by rw [takes_els]; exact hrw
  rw [play_yes hv]
  generalize newWorld r.Level r.Players.toNat r.Seed = w at hnw hrw
  refine AWP.pre (st' := (⟨_,[(1,I k),(2,.o (.c (.ptr 0 0))),(4,.o (.c (.ptr 1 0)))],[.box ((Enc.e r).map (V1.rd [])),.box [nilV,jn 0,jn 0,nilV,nilV]]⟩ : St)) ?_ (W_go [0,1] (by decide) rfl (rfl) (.cons rfl (.cons rfl (.cons rfl (.nil)))))
  refine Qh (Q0 (Qd (Qc ?_)));refine M0 (Qf J J J J (by decide)) J J ?_;refine M0 (Qu J J J J J J) J J ?_
  refine M0 (Qf J J J J (by decide)) J J ?_;refine M0 (Qg J J J J J) J J ?_;refine M0 (Qf J J J J (by decide)) J J ?_
  refine M0 (Qg J J J J J) J J ?_;refine M1 (q_call J J (hnw) J J J) J J ?_;refine M0 (Q8 J J J) J J ?_
  refine M0 (q_ext J J J J) J J ?_;refine M0 (q_ext J J J J) J J ?_;refine M1 (Qx J J J) J J ?_
  refine Qy J J J J J J J J J ?_;refine M0 (Qb J J J) J J ?_;refine Qe (Q0 (Qd (Qd (Qc ?_))))
  refine M0 (Qa J J J) J J ?_;refine M0 (Q4 J J J) J J ?_;refine Qe (Q0 ?_);refine Ql rfl ?_;refine Qh (Q0 (Qd ?_))
  have hq : (0 : Int) ≤ k ∧ k ≤ ((els r.Rows).length : Nat) := by omega
  refine A_draw [[],[],[1],[],[1,2,3],[0,1,2,3,4],[0,1,2,3,4,5],[0,1,2,3,4,5,6]] [[],[],[37],[],[37,38,39],[36,37,38,39,40],[36,37,38,39,40,41],[36,37,38,39,40,41]] [[37,38,39,40],[36,39],[36,39],[36,37,38],[36],[],[],[]] rfl ?_
  refine DR.step (Qu J J J J J J) J J ?_;refine DR.step (Qf J J J J (by decide)) J J ?_;refine DR.step (Qg J J J J J) J J ?_
  refine DR.step (Qa J J J) J J ?_;refine DR.step (q_part0 J J J J J hq) J J ?_;refine DR.step (q_call J J (hrw) J J J) J J ?_
  refine DR.stop (by kernel_rfl) (by kernel_rfl) ?_
  refine Qy J J J J J J J J J ?_;refine M0 (Qb J J J) J J ?_;refine Qe (Q0 (Xa (F_r ?_)))
  exact E_cellt J J J J J (W_end [6,7,8] (by decide) J J J)
set_option maxHeartbeats 8000000 in
theorem S_PlayReplay (r : TReplay) (k : Int) (hg : Enc.gd r) (hk : I64 k) (ir : RepIn r) : Con Try.prog 15 [] [ag r,ai k] (ownO (Enc.e (rwW (playM r k)))) (.tu [.ag (ownV 0 (Enc.e (rwW (playM r k)))),.c (bv (rwB (playM r k)))]) := by
  have cr := S_ReplayOk r hg
  have hlk := els_len r.Rows
  obtain ⟨hk1,hk2⟩ := hk
  have hL := ir.h1
  have ci := S_in k 0 ((els r.Rows).length : Int)
  refine Con.of Try.func15 rfl Try.ntmps15 rfl (fun E => ?_)
  refine Qd (Qc ?_);refine M1 (Qq J J J J) J J ?_;refine M1 (Qx J J J) J J ?_;refine M0 (Qb J J J) J J ?_;refine Qe ?_
  refine Q0 (Qd (Qd (Qc ?_)));refine M0 (Qu J J J J J J) J J ?_;refine M0 (Qj J J (cr) rfl) J J ?_
  refine M0 (Q4 J J J) J J ?_;refine M0 (Qa J J J) J J ?_;refine M0 (Qt.grdF J J J .stop (fun hgrd => Qa J J J)) J J ?_
  refine M0 (Qt.grdF J J J (.hit .stop) (fun hgrd => Qf J J J J (by decide))) J J ?_
  refine M0 (Qt.grdF J J J (.hit (.hit .stop)) (fun hgrd => Qg J J J J J)) J J ?_
  refine M0 (Qt.grdF J J J (.hit (.hit (.hit .stop))) (fun hgrd => q_len J J J)) J J ?_
  refine M0 (Qt.grdF J J J (.hit (.hit (.hit (.hit .stop)))) (fun hgrd => Qj J J (ci) rfl)) J J ?_
  refine M0 (Qt.grdF J J J (.hit (.hit (.hit (.hit (.hit .stop))))) (fun hgrd => Q4 J J J)) J J ?_;refine M0 (q_or J J J J) J J ?_;refine Qe ?_
  refine Q0 ?_
  refine Xb rfl (fun h => ?_) (fun h => ?_)
  · rw [play_no (fun ⟨q1,q2,q3⟩ => by rw [q1,inR_iff.2 (by omega)] at h; exact absurd h (by decide))]
    refine Qd (Qc ?_);refine M0 (q_build J J J J J) J J ?_;refine Qy J J J J J J J J J ?_;refine M0 (Qb J J J) J J ?_
    refine Qe (Q0 (Xa (T_r (F_r ?_))))
    exact E_cellt J J J J J (W_fill [1,1,9] [2,3,4] J J (by decide) J J J)
  simp only [Bool.or_eq_false_iff,Bool.not_eq_false',inR_iff] at h
  have hv : replayOk r = true ∧ 0 ≤ k ∧ k ≤ r.Rows.length := ⟨h.1,by omega,by omega⟩
  have hr := rok hv.1
  obtain ⟨hp1,hp2⟩ := hr.p
  have hnw := S_NewWorld r.Level r.Players.toNat r.Seed hg.1 hL hr.l (by omega) hr.s
  rw [show ((r.Players.toNat : Nat) : Int) = r.Players by omega] at hnw
  have iw := new_in ir hv.1
  have hrw := S_RunWorld _ (r.Rows.take k.toNat) iw (Enc.gd_take hg.2.2.2.2.1 _)
  have hrw : Con Try.prog 54 [] [ag (newWorld r.Level r.Players.toNat r.Seed),.c (.rd [] (.sl (Enc.k (List Int)) ((els r.Rows).take k.toNat)))] (ownO (Enc.e (runM (newWorld r.Level r.Players.toNat r.Seed) (r.Rows.take k.toNat)))) (.o (.ag (ownV 0 (Enc.e (runM (newWorld r.Level r.Players.toNat r.Seed) (r.Rows.take k.toNat)))))) := by rw [takes_els]; exact hrw
  rw [play_yes hv]
  generalize newWorld r.Level r.Players.toNat r.Seed = w at hnw hrw
  refine AWP.pre (st' := (⟨_,[(1,I k),(2,.o (.c (.ptr 0 0))),(4,.o (.c (.ptr 1 0)))],[.box ((Enc.e r).map (V1.rd [])),.box [nilV,jn 0,jn 0,nilV,nilV]]⟩ : St)) ?_ (W_go [0,1] (by decide) rfl (rfl) (.cons rfl (.cons rfl (.cons rfl (.nil)))))
  refine Qh (Q0 (Qd (Qc ?_)));refine M0 (Qf J J J J (by decide)) J J ?_;refine M0 (Qu J J J J J J) J J ?_
  refine M0 (Qf J J J J (by decide)) J J ?_;refine M0 (Qg J J J J J) J J ?_;refine M0 (Qf J J J J (by decide)) J J ?_
  refine M0 (Qg J J J J J) J J ?_;refine M1 (q_call J J (hnw) J J J) J J ?_;refine M0 (Q8 J J J) J J ?_
  refine M0 (q_ext J J J J) J J ?_;refine M0 (q_ext J J J J) J J ?_;refine M1 (Qx J J J) J J ?_
  refine Qy J J J J J J J J J ?_;refine M0 (Qb J J J) J J ?_;refine Qe (Q0 (Qd ?_))
  have hq : (0 : Int) ≤ k ∧ k ≤ ((els r.Rows).length : Nat) := by omega
  refine A_draw [[],[],[1],[],[1,2,3],[0,1,2,3,4],[0,1,2,3,4,5],[0,1,2,3,4,5,6]] [[],[],[31],[],[31,32,33],[30,31,32,33,34],[30,31,32,33,34,35],[30,31,32,33,34,35]] [[31,32,33,34],[30,33],[30,33],[30,31,32],[30],[],[],[]] rfl ?_
  refine DR.step (Qu J J J J J J) J J ?_;refine DR.step (Qf J J J J (by decide)) J J ?_;refine DR.step (Qg J J J J J) J J ?_
  refine DR.step (Qa J J J) J J ?_;refine DR.step (q_part0 J J J J J hq) J J ?_;refine DR.step (q_call J J (hrw) J J J) J J ?_
  refine DR.stop (by kernel_rfl) (by kernel_rfl) ?_
  refine Qy J J J J J J J J J ?_;refine M0 (Qb J J J) J J ?_;refine Qe (Q0 (Xa (F_r ?_)))
  exact E_cellt J J J J J (W_end [6,7,8] (by decide) J J J)
end Go.Proofs.Ytmljakmaffbnlaa
end

section
set_option linter.unusedSimpArgs false
set_option linter.unusedVariables false
set_option maxRecDepth 8000
namespace Go.Proofs.Ytmljakmaffbnlaa
open Go.RowKit

def cntW (x : TWorld) (k : Int) : Int := k + x.Level.Rows.length + x.Scores.length + 9 * x.Bodies.length
def markW (x : TWorld) (k : Int) : TWorld := ⟨⟨markS x.Level.Rows k⟩,x.Tick,x.Seed,markI x.Scores (k + x.Level.Rows.length),markB x.Bodies (k + x.Level.Rows.length + x.Scores.length)⟩
set_option maxHeartbeats 8000000 in
theorem L_markWorld (x : TWorld) (k : Int) (h1 : x.Level.Rows.length ≤ 1048576) (h2 : x.Scores.length ≤ 1048576) (h3 : x.Bodies.length ≤ 1048576) (h0 : 0 < k) (hk : k ≤ 1073741823) : Con Try.prog 13 [.row 1 (els x.Level.Rows),.row 1 (els x.Scores),.row 9 (els x.Bodies),.gh 0 (.ag (ownV 0 (Enc.e x)))] [.ag (ownV 0 (Enc.e x)),ai k]
    [.row 1 (els (markW x k).Level.Rows),.row 1 (els (markW x k).Scores),.row 9 (els (markW x k).Bodies),.gh 0 (.ag (ownV 0 (Enc.e x)))] (I (cntW x k)) := by
  refine Con.of Try.func13 rfl Try.ntmps13 rfl (fun E => ?_)
  refine Qd (Qc ?_);refine M1 (Qq J J J J) J J ?_;refine M0 (Qb J J J) J J ?_;refine Qe (Q0 (Qd ?_))
  refine Qc ?_;refine M0 (Qf J J J J (by decide)) J J ?_;refine M0 (Qu J J J J J J) J J ?_;refine M0 (Qa J J J) J J ?_
  refine Xd (lo := [_]) (gs := [(0,.ag [.ref 0])]) (lo' := [_]) (new := []) [0] [(0,0,.ref 0)] (L_markLevel x.Level.Rows k h1 h0 (by omega)) J J J J J J J J J J J J J J J J J ?_
  refine M0 (Qb J J J) J J ?_;refine Qe (Q0 (Qd (Qc ?_)));refine M0 (Qf J J J J (by decide)) J J ?_
  refine M0 (Qg J J J J J) J J ?_;refine M0 (Qa J J J) J J ?_
  refine Xd (lo := [_]) (gs := [(0,.c (.ref 0))]) (lo' := [_]) (new := []) [1] [(0,0,.ref 0)] (L_markIntS x.Scores (k + x.Level.Rows.length) (by omega) (by omega) (by omega)) J J J J J J J J J J J J J J J J J ?_
  refine M0 (Qb J J J) J J ?_;refine Qe (Q0 (Qd (Qc ?_)));refine M0 (Qf J J J J (by decide)) J J ?_
  refine M0 (Qg J J J J J) J J ?_;refine M0 (Qa J J J) J J ?_
  refine Xd (lo := [_]) (gs := [(0,.c (.ref 0))]) (lo' := [_]) (new := []) [2] [(0,0,.ref 0)] (L_markBodyS x.Bodies (k + x.Level.Rows.length + x.Scores.length) h3 (by omega) (by omega)) J J J J J J J J J J J J J J J J J ?_
  refine M0 (Qb J J J) J J ?_;refine Qe (Q0 (Qd (Qc ?_)));refine M0 (Qa J J J) J J ?_
  refine M0 (Qb J J J) J J ?_;refine Qe (Q0 (Xa (F_r ?_)))
  exact E_tmp J J (W_end [0,1,2,3] (by decide) J J J)
set_option maxHeartbeats 8000000 in
theorem L_heldWorld (x : TWorld) (k : Int) (h1 : x.Level.Rows.length ≤ 1048576) (h2 : x.Scores.length ≤ 1048576) (h3 : x.Bodies.length ≤ 1048576) (h0 : 0 < k) (hk : k ≤ 1073741823) : Con Try.prog 14 [] [ag (markW x k),ai k] [] (I (cntW x k)) := by
  have hn : decide (k + (x.Level.Rows.length : Int) < 0) = false := decide_eq_false (by omega)
  have hm : decide (k + (x.Level.Rows.length : Int) + x.Scores.length < 0) = false := decide_eq_false (by omega)
  have hm2 : decide (k + (x.Level.Rows.length : Int) + x.Scores.length + 9 * x.Bodies.length < 0) = false := decide_eq_false (by omega)
  refine Con.of Try.func14 rfl Try.ntmps14 rfl (fun E => ?_)
  refine Qd (Qc ?_);refine M1 (Qq J J J J) J J ?_;refine M0 (Qb J J J) J J ?_;refine Qe (Q0 (Qd ?_))
  refine Qc ?_;refine M0 (Qf J J J J (by decide)) J J ?_;refine M0 (Qu J J J J J J) J J ?_;refine M0 (Qa J J J) J J ?_
  refine M0 (Qj J J (L_heldLevel x.Level.Rows k h1 h0 (by omega)) rfl) J J ?_;refine M0 (Qb J J J) J J ?_;refine Qe (Q0 (Qd ?_))
  refine Qd (Qc ?_);refine M0 (Qa J J J) J J ?_;refine M0 (Qr J J J J (by assumption)) J J ?_;refine Qe (Q0 ?_)
  refine Ql rfl ?_;refine Qh (Q0 (Qd (Qc ?_)));refine M0 (Qf J J J J (by decide)) J J ?_
  refine M0 (Qg J J J J J) J J ?_;refine M0 (Qa J J J) J J ?_
  refine M0 (Qj J J (L_heldIntS x.Scores (k + x.Level.Rows.length) (by omega) (by omega) (by omega)) rfl) J J ?_;refine M0 (Qb J J J) J J ?_
  refine Qe (Q0 (Qd (Qd (Qc ?_))));refine M0 (Qa J J J) J J ?_;refine M0 (Qr J J J J (by assumption)) J J ?_
  refine Qe (Q0 ?_);refine Ql rfl ?_;refine Qh (Q0 (Qd (Qc ?_)));refine M0 (Qf J J J J (by decide)) J J ?_
  refine M0 (Qg J J J J J) J J ?_;refine M0 (Qa J J J) J J ?_
  refine M0 (Qj J J (L_heldBodyS x.Bodies (k + x.Level.Rows.length + x.Scores.length) h3 (by omega) (by omega)) rfl) J J ?_;refine M0 (Qb J J J) J J ?_
  refine Qe (Q0 (Qd (Qd (Qc ?_))));refine M0 (Qa J J J) J J ?_;refine M0 (Qr J J J J (by assumption)) J J ?_
  refine Qe (Q0 ?_);refine Ql rfl ?_;refine Qh (Q0 (Qd (Qc ?_)));refine M0 (Qa J J J) J J ?_
  refine M0 (Qb J J J) J J ?_;refine Qe (Q0 (Xa (F_r ?_)))
  exact E_tmp J J (W_end [] (by decide) J J J)
end Go.Proofs.Ytmljakmaffbnlaa
end
