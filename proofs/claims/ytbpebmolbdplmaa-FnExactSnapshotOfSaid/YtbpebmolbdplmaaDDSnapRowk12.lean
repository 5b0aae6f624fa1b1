/-
  A literal slice becomes an owned slice; comparing a slice with nil. No statement of the program is proved here.
  Conditions: none.
  WorldBytes, in the program and in the reference.
  Conditions: lists of at most 2^40 elements.
  SnapshotOf, in the program and in the reference.
  Conditions: lists of at most 2^30 elements.
  How the laws count, copy and compare packets and peers. No statement of the program is proved here.
  Conditions: lists of at most 2^20 elements.
  The law FnExactSnapshotOf returns true.
  Conditions: none.
  The kit's readings of the laws' structs as Lean data. No statement of the program is proved here.
  Conditions: none.
  The kit's readings of the laws' bodies and worlds as Lean data. No statement of the program is proved here.
  Conditions: none.
  The kit's readings of the laws' peers as Lean data. No statement of the program is proved here.
  Conditions: none.
-/
import Derived.Lib.LazyBuf
import Derived.Test.YtbpebmolbdplmaaDDSnapRowk8
import Derived.Test.YtbpebmolbdplmaaDDSnapRowk10
import Derived.Test.YtbpebmolbdplmaaDDSnapRowk11
section
set_option linter.unusedSimpArgs false
set_option linter.unusedVariables false
namespace Go.Proofs.Ytbpebmolbdplmaa
open Go.RowKit

def V1.tosr (q : Nat) : V1 → V1
  | .sb p n k => match Nat.beq p q with
    | true => match k with
      | 1 => .ref q
      | _ => .un
    | false => (V1.sb p n k).kill [q]
  | x => x.kill [q]
/-- A literal slice of plain values is a slice of one's own. -/
theorem Wk.sbrow {st : St} {q : Nat} {cs : List V1} {es : List (List T)} (hq : st.objs[q]? = some (.box cs)) (hs : sbE cs = some es) (hm : cs.length ≤ maxLen) : Wk st ⟨st.n, st.tmps.map fun t => (t.1, t.2.mapk (V1.tosr q)), (st.objs.map (Ob.mapk (V1.tosr q))).set q (.row 1 es)⟩ := by
  intro w H F a h1
  obtain ⟨hel, hes⟩ := sbE_ok cs es hs
  have hb := h1.obs q
  rw [getD_of hq] at hb
  obtain ⟨g, t, vs, e1, e2, e3⟩ := hb
  have hsay := h1.ok.says q
  rw [e1] at hsay
  have hg : w.heap[g]? = some (.cells vs.toArray t (0, 0)) := hsay
  have hqlt := getE_lt hq
  have hplain : ∀ (i : Nat) (e : List T), es[i]? = some e → ∃ u, vs[i]? = some u ∧ e = [.v u] ∧ u.oneCell' = true := fun i e hi => by
    obtain ⟨ps, u, h2, h3⟩ := hes i e hi
    have hil := getE_lt h2
    have hiv : vs[i]? = some (vs[i]'(by omega)) := List.getElem?_eq_getElem (by omega)
    obtain ⟨h4, h5⟩ := e3 i _ _ h2 hiv
    obtain ⟨h6, h7⟩ := RO.plain h4
    exact ⟨u, by rw [hiv, h6], h3, h7⟩
  obtain ⟨f, hf⟩ : ∃ f : Nat → Value, f = fun i => vs.getD i undef := ⟨_, rfl⟩
  have hOW : ∃ fp, OW w (.sl 1 es) (.slice (some ⟨g, 0, none⟩) es.length vs.length) fp ∧ (∀ b ∈ fp, b = g) ∧ fp.Nodup := by
    refine ⟨g :: (List.replicate es.length [([] : List Nat)]).flatten.flatten, OW.sl es g 0 1 vs.length t vs.toArray (0, 0) (fun i _ => vs.getD i undef) (List.replicate es.length [[]]) hg (.inl rfl) (by omega) (by omega) (by simp) (by omega) (fun e he => ?_) (by simp) (fun fs hfs => by rw [List.eq_of_mem_replicate hfs]; rfl) (fun i j hi hj => ?_) (fun i j e tt fs ff k1 k2 k3 k4 => ?_), ?_, ?_⟩
    · obtain ⟨i, hi⟩ := List.getElem?_of_mem he
      obtain ⟨u, _, h3, _⟩ := hplain i e hi
      rw [h3]; rfl
    · have h2 : i < vs.length := by omega
      have h3 : j = 0 := by omega
      subst h3
      simp [List.getD_eq_getElem?_getD, h2]
    · obtain ⟨u, h3, h4, h5⟩ := hplain i e k1
      subst h4
      have hj : j = 0 := by have := getE_lt k2; simp at this; exact this
      subst hj
      simp at k2
      subst k2
      have hfs : fs = [[]] := List.eq_of_mem_replicate (getE_mem k3)
      subst hfs
      simp at k4
      subst k4
      have h6 : vs.getD i undef = u := getD_of h3
      rw [h6]
      exact .v u h5
    · intro b hb
      simpa using hb
    · simp
  obtain ⟨fp, hO, hfp, hnd⟩ := hOW
  have hkeep : Keeps w w [g] := ⟨rfl, rfl, rfl, Nat.le_refl _, fun _ _ _ => rfl⟩
  obtain ⟨hok, htn⟩ := h1.ok.turn (p := q) (fp := [g]) (by rw [e1]; rfl) hkeep (.ow (.sl 1 es) (.slice (some ⟨g, 0, none⟩) es.length vs.length) fp) hO hnd trivial (fun b hb => .inl (by simp [hfp b hb]))
  have hone : ∀ x v, R1 w H F x v → R1 w (H.put q (.ow (.sl 1 es) (.slice (some ⟨g, 0, none⟩) es.length vs.length) fp)) F (V1.tosr q x) v := fun x v hx => by
    cases x with
    | sb p n k =>
      simp only [V1.tosr]
      split
      · rename_i hp
        have hpq := Nat.eq_of_beq_eq_true hp
        subst hpq
        split
        · obtain ⟨g', t', vs', k1, k2, k3, k4⟩ := hx
          rw [e1] at k1
          simp only [Pc.box.injEq] at k1
          obtain ⟨rfl, rfl, rfl⟩ := k1
          have hn : n = es.length := by omega
          have hvn : vs.length = es.length := by omega
          rw [k4, hn]
          exact ⟨.sl 1 es, fp, by rw [Hs.put_self, hvn]⟩
        · trivial
      · exact R1.killed h1.ok htn hx
    | _ => exact R1.killed h1.ok htn hx
  refine ⟨_, h1.mapk (V1.tosr q) hone hok ((st.objs.map (Ob.mapk (V1.tosr q))).set q (.row 1 es)) (fun p => ?_), fun p b hb => ?_, htn.gh⟩
  · by_cases hpq : p = q
    · subst hpq
      rw [getD_of (x := .row 1 es) (by simp [hqlt])]
      exact ⟨_, _, Hs.put_self _ _ _⟩
    · rw [List.getD_eq_getElem?_getD, List.getElem?_set_ne (Ne.symm hpq), List.getElem?_map]
      have h2 := h1.obs p
      rw [List.getD_eq_getElem?_getD] at h2
      have h3 := Hs.put_ne H (.ow (.sl 1 es) (.slice (some ⟨g, 0, none⟩) es.length vs.length) fp) hpq
      cases ho : st.objs[p]? with
      | none => rw [ho] at h2; exact h3.trans h2
      | some ob => rw [ho] at h2; exact RB.mapk hone h3 h2
  · by_cases hpq : p = q
    · subst hpq
      rw [Hs.put_self] at hb
      exact ⟨p, by rw [e1, hfp b hb]; simp [Pc.fp]⟩
    · exact ⟨p, by rw [← Hs.put_ne H _ hpq]; exact hb⟩
section
variable {P : Program} {ops : Array Oper} {o : Oper} {st : St} {n : Nat} {t t' : TypeId} {y z : Operand} {ps qs : List Nat}
end
end Go.Proofs.Ytbpebmolbdplmaa
end

section
set_option linter.unusedSimpArgs false
set_option linter.unusedVariables false
set_option maxRecDepth 8000
namespace Go.Proofs.Ytbpebmolbdplmaa
open Go.RowKit

theorem W_pre {st st' : St} {f : List (Nat × V) → St} (h : Wk st st') (k : ∃ l, Wk st' (f l)) : ∃ l, Wk st (f l) := k.imp fun _ hl => h.trans hl
theorem row2b {k : Nat} {o : Ob} {a b : List (List T)} (h : a = b) : [o, Ob.row k a] = [o, Ob.row k b] := by rw [h]
def bodyInts (b : TBody) : List Int := [b.Kind, b.Owner, b.X, b.Y, b.VX, b.VY, b.Aim, b.Life, b.Timer]
def worldInts (w : TWorld) : List Int := ([w.Tick, w.Seed, (w.Scores.length : Int)] ++ w.Scores) ++ w.Bodies.flatMap bodyInts
noncomputable def worldBytes (w : TWorld) : ByteArray := if worldOk w = true then packInts (worldInts w) else ⟨#[]⟩
theorem els_app {α : Type} [Enc α] (xs ys : List α) : els (xs ++ ys) = els xs ++ els ys := List.map_append
theorem flat_snoc {bs : List TBody} {k : Nat} (h : k < bs.length) : (bs.take (k + 1)).flatMap bodyInts = (bs.take k).flatMap bodyInts ++ bodyInts bs[k] := by
  rw [List.take_succ_eq_append_getElem h, List.flatMap_append]
  simp
theorem flat_len (bs : List TBody) : ∀ k, k ≤ bs.length → ((bs.take k).flatMap bodyInts).length = 9 * k
  | 0, _ => by simp
  | k + 1, h => by
    rw [flat_snoc (by omega), List.length_append, flat_len bs k (by omega)]
    simp [bodyInts]
    omega
theorem flat_gd {bs : List TBody} (hg : ∀ b ∈ bs, Enc.gd b) : ∀ x ∈ bs.flatMap bodyInts, I64 x := fun x hx => by
  obtain ⟨b, hb, hx⟩ := List.mem_flatMap.1 hx
  obtain ⟨b1, b2, b3, b4, b5, b6, b7, b8, b9⟩ := hg b hb
  simp only [bodyInts, List.mem_cons, List.not_mem_nil, or_false] at hx
  rcases hx with rfl | rfl | rfl | rfl | rfl | rfl | rfl | rfl | rfl <;> assumption
set_option maxHeartbeats 8000000 in
theorem I_bodyInts (b : TBody) : Con Try.prog 98 [] [ag b] [.row 1 (els (bodyInts b))] (.o (.c (.ref 0))) := by
  refine Con.of Try.func98 rfl Try.ntmps98 rfl (fun E => ?_)
  refine A_seq ?_; refine A_region ?_; refine M1 (q_boxN rfl rfl rfl rfl) rfl rfl ?_; refine M0 (q_assignC rfl rfl rfl) rfl rfl ?_; refine L_nil ?_; refine T_n ?_; refine A_seq ?_
  refine A_region ?_; refine M0 (q_fldp rfl rfl rfl rfl (by decide)) rfl rfl ?_; refine M0 (q_ld1 rfl rfl rfl rfl rfl) rfl rfl ?_; refine M0 (q_fldp rfl rfl rfl rfl (by decide)) rfl rfl ?_
  refine M0 (q_ld1 rfl rfl rfl rfl rfl) rfl rfl ?_; refine M0 (q_fldp rfl rfl rfl rfl (by decide)) rfl rfl ?_; refine M0 (q_ld1 rfl rfl rfl rfl rfl) rfl rfl ?_
  refine M0 (q_fldp rfl rfl rfl rfl (by decide)) rfl rfl ?_; refine M0 (q_ld1 rfl rfl rfl rfl rfl) rfl rfl ?_; refine M0 (q_fldp rfl rfl rfl rfl (by decide)) rfl rfl ?_
  refine M0 (q_ld1 rfl rfl rfl rfl rfl) rfl rfl ?_; refine M0 (q_fldp rfl rfl rfl rfl (by decide)) rfl rfl ?_; refine M0 (q_ld1 rfl rfl rfl rfl rfl) rfl rfl ?_
  refine M0 (q_fldp rfl rfl rfl rfl (by decide)) rfl rfl ?_; refine M0 (q_ld1 rfl rfl rfl rfl rfl) rfl rfl ?_; refine M0 (q_fldp rfl rfl rfl rfl (by decide)) rfl rfl ?_
  refine M0 (q_ld1 rfl rfl rfl rfl rfl) rfl rfl ?_; refine M0 (q_fldp rfl rfl rfl rfl (by decide)) rfl rfl ?_; refine M0 (q_ld1 rfl rfl rfl rfl rfl) rfl rfl ?_
  refine M1 (q_bslice rfl rfl rfl rfl rfl rfl) rfl rfl ?_; refine M0 (q_assignC rfl rfl rfl) rfl rfl ?_; refine L_nil ?_; refine T_n ?_; refine A_ret ?_; refine F_r ?_
  exact E_tmp rfl rfl (W_pre (Wk.sbrow (q := 1) rfl rfl (Nat.le_of_ble_eq_true rfl)) (W_end [1] (by decide) rfl rfl rfl))
set_option maxHeartbeats 8000000 in
theorem I_WorldBytes (x : TWorld) (hg : Enc.gd x) : Con Try.prog 48 [] [ag x] [] (S (worldBytes x)) := by
  have hc := I_WorldOk x hg
  obtain ⟨gL, gT, gS, gSc, gB⟩ := hg
  cases ho : worldOk x with
  | false =>
    rw [ho] at hc
    rw [show worldBytes x = ⟨#[]⟩ by rw [worldBytes, ho]; exact if_neg (by decide)]
    refine Con.of Try.func48 rfl Try.ntmps48 rfl (fun E => ?_)
    refine A_seq ?_; refine A_region ?_; refine M1 (q_boxN rfl rfl rfl rfl) rfl rfl ?_; refine M0 (q_assignC rfl rfl rfl) rfl rfl ?_; refine L_nil ?_; refine T_n ?_; refine A_seq ?_; refine A_seq ?_
    refine A_region ?_; refine M0 (q_ldN rfl rfl rfl rfl rfl rfl) rfl rfl ?_; refine M0 (q_call0 rfl rfl (hc) rfl) rfl rfl ?_; refine M0 (q_not rfl rfl rfl) rfl rfl ?_; refine L_nil ?_
    refine T_n ?_; refine A_ifT rfl ?_; refine A_seq ?_; refine A_region ?_; refine M0 (q_assignC rfl rfl rfl) rfl rfl ?_; refine L_nil ?_; refine T_n ?_; refine A_ret ?_; refine T_r ?_; refine F_r ?_
    exact E_tmp rfl rfl (W_end [] (by decide) rfl rfl rfl)
  | true =>
    rw [ho] at hc
    rw [show worldBytes x = packInts (worldInts x) by rw [worldBytes, ho]; exact if_pos rfl]
    obtain ⟨_, _, _, hn, _, hb, _⟩ := worldOk_spec ho
    have hls := els_len x.Scores
    have hlb := els_len x.Bodies
    refine Con.of Try.func48 rfl Try.ntmps48 rfl (fun E => ?_)
    refine A_seq ?_; refine A_region ?_; refine M1 (q_boxN rfl rfl rfl rfl) rfl rfl ?_; refine M0 (q_assignC rfl rfl rfl) rfl rfl ?_; refine L_nil ?_; refine T_n ?_; refine A_seq ?_; refine A_seq ?_
    refine A_region ?_; refine M0 (q_ldN rfl rfl rfl rfl rfl rfl) rfl rfl ?_; refine M0 (q_call0 rfl rfl (hc) rfl) rfl rfl ?_; refine M0 (q_not rfl rfl rfl) rfl rfl ?_; refine L_nil ?_
    refine T_n ?_; refine A_ifF rfl ?_; refine A_skip ?_; refine T_n ?_; refine A_seq ?_; refine A_region ?_; refine M0 (q_fldp rfl rfl rfl rfl (by decide)) rfl rfl ?_
    refine M0 (q_ld1 rfl rfl rfl rfl rfl) rfl rfl ?_; refine M0 (q_fldp rfl rfl rfl rfl (by decide)) rfl rfl ?_; refine M0 (q_ld1 rfl rfl rfl rfl rfl) rfl rfl ?_
    refine M0 (q_fldp rfl rfl rfl rfl (by decide)) rfl rfl ?_; refine M0 (q_ld1 rfl rfl rfl rfl rfl) rfl rfl ?_; refine M0 (q_len rfl rfl rfl) rfl rfl ?_
    refine M1 (q_bslice rfl rfl rfl rfl rfl rfl) rfl rfl ?_; refine M0 (q_assignC rfl rfl rfl) rfl rfl ?_; refine L_nil ?_; refine T_n ?_; refine A_seq ?_; refine A_region ?_
    refine M0 (q_moveC rfl rfl rfl) rfl rfl ?_; refine M0 (q_fldp rfl rfl rfl rfl (by decide)) rfl rfl ?_; refine M0 (q_ld1 rfl rfl rfl rfl rfl) rfl rfl ?_
    have hl3 : (els [x.Tick, x.Seed, ((els x.Scores).length : Int)]).length = 3 := rfl
    refine AL.weak (Wk.sbrow (q := 1) (es := els [x.Tick, x.Seed, ((els x.Scores).length : Int)]) rfl rfl (Nat.le_of_ble_eq_true rfl)) ?_
    refine AL.weak (st' := (⟨_, [(1, .o (.c (.ptr 0 0))), (17, .o (.c (.ref 1))), (19, L x.Scores)], [.box ((Enc.e x).map (V1.rd [])), .row 1 (els [x.Tick, x.Seed, ((els x.Scores).length : Int)])]⟩ : St)) (W_go [0, 1] (by decide) rfl (rfl) (.cons rfl (.cons rfl (.cons rfl (.nil))))) ?_
    refine M_app rfl rfl rfl rfl rfl rfl rfl rfl rfl rfl (els_plain _) (els_k _) (by omega) (by omega) ?_; refine M0 (q_assignC rfl rfl rfl) rfl rfl ?_; refine L_nil ?_; refine T_n ?_
    refine A_seq ?_; refine A_seq ?_; refine A_region ?_; refine M0 (q_fldp rfl rfl rfl rfl (by decide)) rfl rfl ?_; refine M0 (q_ld1 rfl rfl rfl rfl rfl) rfl rfl ?_
    refine M0 (q_len rfl rfl rfl) rfl rfl ?_; refine M0 (q_moveC rfl rfl rfl) rfl rfl ?_; refine L_nil ?_; refine T_n ?_; refine A_block ?_
    have hini : els (([x.Tick, x.Seed, (x.Scores.length : Int)] ++ x.Scores) ++ (x.Bodies.take 0).flatMap bodyInts) = els [x.Tick, x.Seed, ((els x.Scores).length : Int)] ++ els x.Scores := by rw [List.take_zero, List.flatMap_nil, List.append_nil, els_app, hls]
    refine A_loop (fun m st => ∃ k : Nat, k + m = x.Bodies.length ∧ (True) ∧ st = (fun k : Nat => (⟨_, [(1, .o (.c (.ptr 0 0))), (3, .o (.c (.ref 1))), (22, L x.Bodies), (23, I (els x.Bodies).length), (24, I k)], [.box ((Enc.e x).map (V1.rd [])), .row 1 (els (([x.Tick, x.Seed, (x.Scores.length : Int)] ++ x.Scores) ++ (x.Bodies.take k).flatMap bodyInts))]⟩ : St)) k) (x.Bodies.length) ⟨(fun k : Nat => (⟨_, [(1, .o (.c (.ptr 0 0))), (3, .o (.c (.ref 1))), (22, L x.Bodies), (23, I (els x.Bodies).length), (24, I k)], [.box ((Enc.e x).map (V1.rd [])), .row 1 (els (([x.Tick, x.Seed, (x.Scores.length : Int)] ++ x.Scores) ++ (x.Bodies.take k).flatMap bodyInts))]⟩ : St)) 0, W_go [0, 1] (by decide) rfl (row2b hini) (.cons rfl (.cons rfl (.cons rfl (.cons rfl (.cons rfl (.nil)))))), 0, by omega, trivial, rfl⟩ ?_
    rintro m_A _ ⟨k, hk_A, hp_A, rfl⟩
    have hla := els_len (([x.Tick, x.Seed, (x.Scores.length : Int)] ++ x.Scores) ++ (x.Bodies.take k).flatMap bodyInts)
    have hfl := flat_len x.Bodies k (by omega)
    have hlc : (([x.Tick, x.Seed, (x.Scores.length : Int)] ++ x.Scores) ++ (x.Bodies.take k).flatMap bodyInts).length = 3 + x.Scores.length + 9 * k := by
      rw [List.length_append, List.length_append, hfl]; rfl
    refine A_seq ?_; refine A_region ?_; refine M0 (q_lss rfl rfl rfl rfl) rfl rfl ?_; refine L_nil ?_; refine T_n ?_; refine A_seq ?_
    refine A_cond rfl (fun h => ?_) (fun h => ?_)
    · have h3 : k < x.Bodies.length := by have := of_decide_eq_true h; omega
      have hat := els_at h3
      have hlb9 : (els (bodyInts x.Bodies[k])).length = 9 := rfl
      refine A_skip ?_; refine T_n ?_; refine A_seq ?_; refine A_block ?_; refine A_seq ?_; refine A_region ?_; refine M0 (q_at rfl rfl rfl rfl (by omega) (by assumption) rfl) rfl rfl ?_
      refine M0 (q_lrN rfl rfl rfl rfl rfl) rfl rfl ?_; refine M1 (q_alloc rfl rfl rfl) rfl rfl ?_; refine M_stN rfl rfl rfl rfl rfl rfl rfl rfl rfl ?_; refine L_nil ?_; refine T_n ?_
      refine A_region ?_; refine M0 (q_moveC rfl rfl rfl) rfl rfl ?_; refine M0 (q_ldN rfl rfl rfl rfl rfl rfl) rfl rfl ?_
      refine M1 (q_call rfl rfl (I_bodyInts x.Bodies[k]) rfl rfl rfl) rfl rfl ?_; refine M_app rfl rfl rfl rfl rfl rfl rfl rfl rfl rfl (els_plain _) (els_k _) (by omega) (by omega) ?_
      refine M0 (q_assignC rfl rfl rfl) rfl rfl ?_; refine L_nil ?_; refine B_n ?_; refine T_n ?_; refine A_region ?_; refine M0 (q_add rfl rfl rfl rfl (by omega)) rfl rfl ?_
      refine M0 (q_moveC rfl rfl rfl) rfl rfl ?_; refine L_nil ?_; refine T_n ?_
      exact ⟨x.Bodies.length - (k + 1), by omega, (fun k : Nat => (⟨_, [(1, .o (.c (.ptr 0 0))), (3, .o (.c (.ref 1))), (22, L x.Bodies), (23, I (els x.Bodies).length), (24, I k)], [.box ((Enc.e x).map (V1.rd [])), .row 1 (els (([x.Tick, x.Seed, (x.Scores.length : Int)] ++ x.Scores) ++ (x.Bodies.take k).flatMap bodyInts))]⟩ : St)) (k + 1), W_go [0, 1] (by decide) rfl (row2b (by rw [flat_snoc h3, ← List.append_assoc, els_app _ (bodyInts x.Bodies[k])])) (.cons rfl (.cons rfl (.cons rfl (.cons rfl (.cons rfl (.nil)))))), k + 1, by omega, trivial, rfl⟩
    · have h3 : ¬ k < x.Bodies.length := by have := of_decide_eq_false h; omega
      have hk : x.Bodies.take k = x.Bodies := List.take_of_length_le (by omega)
      rw [hk] at hlc hla ⊢
      have hgi : Enc.gd (([x.Tick, x.Seed, (x.Scores.length : Int)] ++ x.Scores) ++ x.Bodies.flatMap bodyInts) := ⟨by omega, fun y hy => by
        rcases List.mem_append.1 hy with hy | hy
        · rcases List.mem_append.1 hy with hy | hy
          · simp only [List.mem_cons, List.not_mem_nil, or_false] at hy
            rcases hy with rfl | rfl | rfl
            · exact gT
            · exact gS
            · exact ⟨by omega, by omega⟩
          · exact gSc.2 y hy
        · exact flat_gd gB.2 y hy⟩
      have hp := I_PackInts (([x.Tick, x.Seed, (x.Scores.length : Int)] ++ x.Scores) ++ x.Bodies.flatMap bodyInts) hgi (by omega)
      refine A_exit ?_; refine T_x ?_; refine T_x ?_; refine B_xs ?_; refine T_n ?_; refine A_seq ?_; refine A_region ?_; refine M0 (q_moveC rfl rfl rfl) rfl rfl ?_
      refine M0 (q_call0 rfl rfl (hp) rfl) rfl rfl ?_; refine M0 (q_assignC rfl rfl rfl) rfl rfl ?_; refine L_nil ?_; refine T_n ?_; refine A_ret ?_; refine F_r ?_
      exact E_tmp rfl rfl (W_end [] (by decide) rfl rfl rfl)
set_option maxHeartbeats 8000000 in
theorem S_WorldBytes (x : TWorld) (hg : Enc.gd x) : Con Try.prog 47 [] [ag x] [] (S (worldBytes x)) := by
  have hc := S_WorldOk x hg
  obtain ⟨gL, gT, gS, gSc, gB⟩ := hg
  cases ho : worldOk x with
  | false =>
    rw [ho] at hc
    rw [show worldBytes x = ⟨#[]⟩ by rw [worldBytes, ho]; exact if_neg (by decide)]
    refine Con.of Try.func47 rfl Try.ntmps47 rfl (fun E => ?_)
    refine A_seq ?_; refine A_region ?_; refine M1 (q_boxN rfl rfl rfl rfl) rfl rfl ?_; refine M0 (q_assignC rfl rfl rfl) rfl rfl ?_; refine L_nil ?_; refine T_n ?_; refine A_seq ?_; refine A_seq ?_
    refine A_region ?_; refine M0 (q_ldN rfl rfl rfl rfl rfl rfl) rfl rfl ?_; refine M0 (q_call0 rfl rfl (hc) rfl) rfl rfl ?_; refine M0 (q_not rfl rfl rfl) rfl rfl ?_; refine L_nil ?_
    refine T_n ?_; refine A_ifT rfl ?_; refine A_seq ?_; refine A_region ?_; refine M0 (q_assignC rfl rfl rfl) rfl rfl ?_; refine L_nil ?_; refine T_n ?_; refine A_ret ?_; refine T_r ?_; refine F_r ?_
    exact E_tmp rfl rfl (W_end [] (by decide) rfl rfl rfl)
  | true =>
    rw [ho] at hc
    rw [show worldBytes x = packInts (worldInts x) by rw [worldBytes, ho]; exact if_pos rfl]
    obtain ⟨_, _, _, hn, _, hb, _⟩ := worldOk_spec ho
    have hls := els_len x.Scores
    have hlb := els_len x.Bodies
    refine Con.of Try.func47 rfl Try.ntmps47 rfl (fun E => ?_)
    refine A_seq ?_; refine A_region ?_; refine M1 (q_boxN rfl rfl rfl rfl) rfl rfl ?_; refine M0 (q_assignC rfl rfl rfl) rfl rfl ?_; refine L_nil ?_; refine T_n ?_; refine A_seq ?_; refine A_seq ?_
    refine A_region ?_; refine M0 (q_ldN rfl rfl rfl rfl rfl rfl) rfl rfl ?_; refine M0 (q_call0 rfl rfl (hc) rfl) rfl rfl ?_; refine M0 (q_not rfl rfl rfl) rfl rfl ?_; refine L_nil ?_
    refine T_n ?_; refine A_ifF rfl ?_; refine A_skip ?_; refine T_n ?_; refine A_seq ?_; refine A_region ?_; refine M0 (q_fldp rfl rfl rfl rfl (by decide)) rfl rfl ?_
    refine M0 (q_ld1 rfl rfl rfl rfl rfl) rfl rfl ?_; refine M0 (q_fldp rfl rfl rfl rfl (by decide)) rfl rfl ?_; refine M0 (q_ld1 rfl rfl rfl rfl rfl) rfl rfl ?_
    refine M0 (q_fldp rfl rfl rfl rfl (by decide)) rfl rfl ?_; refine M0 (q_ld1 rfl rfl rfl rfl rfl) rfl rfl ?_; refine M0 (q_len rfl rfl rfl) rfl rfl ?_
    refine M1 (q_bslice rfl rfl rfl rfl rfl rfl) rfl rfl ?_; refine M0 (q_fldp rfl rfl rfl rfl (by decide)) rfl rfl ?_; refine M0 (q_ld1 rfl rfl rfl rfl rfl) rfl rfl ?_
    have hl3 : (els [x.Tick, x.Seed, ((els x.Scores).length : Int)]).length = 3 := rfl
    refine AL.weak (Wk.sbrow (q := 1) (es := els [x.Tick, x.Seed, ((els x.Scores).length : Int)]) rfl rfl (Nat.le_of_ble_eq_true rfl)) ?_
    refine AL.weak (st' := (⟨_, [(1, .o (.c (.ptr 0 0))), (16, .o (.c (.ref 1))), (18, L x.Scores)], [.box ((Enc.e x).map (V1.rd [])), .row 1 (els [x.Tick, x.Seed, ((els x.Scores).length : Int)])]⟩ : St)) (W_go [0, 1] (by decide) rfl (rfl) (.cons rfl (.cons rfl (.cons rfl (.nil))))) ?_
    refine M_app rfl rfl rfl rfl rfl rfl rfl rfl rfl rfl (els_plain _) (els_k _) (by omega) (by omega) ?_; refine M0 (q_assignC rfl rfl rfl) rfl rfl ?_; refine L_nil ?_; refine T_n ?_
    refine A_seq ?_; refine A_seq ?_; refine A_region ?_; refine M0 (q_assignC rfl rfl rfl) rfl rfl ?_; refine L_nil ?_; refine T_n ?_; refine A_block ?_
    have hini : els (([x.Tick, x.Seed, (x.Scores.length : Int)] ++ x.Scores) ++ (x.Bodies.take 0).flatMap bodyInts) = els [x.Tick, x.Seed, ((els x.Scores).length : Int)] ++ els x.Scores := by rw [List.take_zero, List.flatMap_nil, List.append_nil, els_app, hls]
    refine A_loop (fun m st => ∃ k : Nat, k + m = x.Bodies.length ∧ (True) ∧ st = (fun k : Nat => (⟨_, [(1, .o (.c (.ptr 0 0))), (3, .o (.c (.ref 1))), (4, I k)], [.box ((Enc.e x).map (V1.rd [])), .row 1 (els (([x.Tick, x.Seed, (x.Scores.length : Int)] ++ x.Scores) ++ (x.Bodies.take k).flatMap bodyInts))]⟩ : St)) k) (x.Bodies.length) ⟨(fun k : Nat => (⟨_, [(1, .o (.c (.ptr 0 0))), (3, .o (.c (.ref 1))), (4, I k)], [.box ((Enc.e x).map (V1.rd [])), .row 1 (els (([x.Tick, x.Seed, (x.Scores.length : Int)] ++ x.Scores) ++ (x.Bodies.take k).flatMap bodyInts))]⟩ : St)) 0, W_go [0, 1] (by decide) rfl (row2b hini) (.cons rfl (.cons rfl (.cons rfl (.nil)))), 0, by omega, trivial, rfl⟩ ?_
    rintro m_A _ ⟨k, hk_A, hp_A, rfl⟩
    have hla := els_len (([x.Tick, x.Seed, (x.Scores.length : Int)] ++ x.Scores) ++ (x.Bodies.take k).flatMap bodyInts)
    have hfl := flat_len x.Bodies k (by omega)
    have hlc : (([x.Tick, x.Seed, (x.Scores.length : Int)] ++ x.Scores) ++ (x.Bodies.take k).flatMap bodyInts).length = 3 + x.Scores.length + 9 * k := by
      rw [List.length_append, List.length_append, hfl]; rfl
    refine A_seq ?_; refine A_seq ?_; refine A_region ?_; refine M0 (q_moveC rfl rfl rfl) rfl rfl ?_; refine M0 (q_fldp rfl rfl rfl rfl (by decide)) rfl rfl ?_
    refine M0 (q_ld1 rfl rfl rfl rfl rfl) rfl rfl ?_; refine M0 (q_len rfl rfl rfl) rfl rfl ?_; refine M0 (q_lss rfl rfl rfl rfl) rfl rfl ?_; refine L_nil ?_; refine T_n ?_
    refine A_cond rfl (fun h => ?_) (fun h => ?_)
    · have h3 : k < x.Bodies.length := by have := of_decide_eq_true h; omega
      have hat := els_at h3
      have hlb9 : (els (bodyInts x.Bodies[k])).length = 9 := rfl
      refine A_skip ?_; refine T_n ?_; refine A_seq ?_; refine A_block ?_; refine A_seq ?_; refine A_region ?_; refine M0 (q_fldp rfl rfl rfl rfl (by decide)) rfl rfl ?_
      refine M0 (q_ld1 rfl rfl rfl rfl rfl) rfl rfl ?_; refine M0 (q_moveC rfl rfl rfl) rfl rfl ?_; refine M0 (q_at rfl rfl rfl rfl (by omega) (by assumption) rfl) rfl rfl ?_
      refine M0 (q_lrN rfl rfl rfl rfl rfl) rfl rfl ?_; refine M1 (q_alloc rfl rfl rfl) rfl rfl ?_; refine M_stN rfl rfl rfl rfl rfl rfl rfl rfl rfl ?_; refine L_nil ?_; refine T_n ?_
      refine A_region ?_; refine M0 (q_moveC rfl rfl rfl) rfl rfl ?_; refine M0 (q_fldp rfl rfl rfl rfl (by decide)) rfl rfl ?_; refine M0 (q_ld1 rfl rfl rfl rfl rfl) rfl rfl ?_
      refine M0 (q_fldp rfl rfl rfl rfl (by decide)) rfl rfl ?_; refine M0 (q_ld1 rfl rfl rfl rfl rfl) rfl rfl ?_; refine M0 (q_fldp rfl rfl rfl rfl (by decide)) rfl rfl ?_
      refine M0 (q_ld1 rfl rfl rfl rfl rfl) rfl rfl ?_; refine M0 (q_fldp rfl rfl rfl rfl (by decide)) rfl rfl ?_; refine M0 (q_ld1 rfl rfl rfl rfl rfl) rfl rfl ?_
      refine M0 (q_fldp rfl rfl rfl rfl (by decide)) rfl rfl ?_; refine M0 (q_ld1 rfl rfl rfl rfl rfl) rfl rfl ?_; refine M0 (q_fldp rfl rfl rfl rfl (by decide)) rfl rfl ?_
      refine M0 (q_ld1 rfl rfl rfl rfl rfl) rfl rfl ?_; refine M0 (q_fldp rfl rfl rfl rfl (by decide)) rfl rfl ?_; refine M0 (q_ld1 rfl rfl rfl rfl rfl) rfl rfl ?_
      refine M0 (q_fldp rfl rfl rfl rfl (by decide)) rfl rfl ?_; refine M0 (q_ld1 rfl rfl rfl rfl rfl) rfl rfl ?_; refine M0 (q_fldp rfl rfl rfl rfl (by decide)) rfl rfl ?_
      refine M0 (q_ld1 rfl rfl rfl rfl rfl) rfl rfl ?_; refine M1 (q_bslice rfl rfl rfl rfl rfl rfl) rfl rfl ?_
      refine M_appsb rfl rfl rfl rfl rfl rfl rfl rfl rfl rfl (by omega) (by omega) ?_; refine M0 (q_assignC rfl rfl rfl) rfl rfl ?_; refine L_nil ?_; refine B_n ?_; refine T_n ?_
      refine A_region ?_; refine M0 (q_moveC rfl rfl rfl) rfl rfl ?_; refine M0 (q_add rfl rfl rfl rfl (by omega)) rfl rfl ?_; refine M0 (q_assignC rfl rfl rfl) rfl rfl ?_; refine L_nil ?_
      refine T_n ?_
      exact ⟨x.Bodies.length - (k + 1), by omega, (fun k : Nat => (⟨_, [(1, .o (.c (.ptr 0 0))), (3, .o (.c (.ref 1))), (4, I k)], [.box ((Enc.e x).map (V1.rd [])), .row 1 (els (([x.Tick, x.Seed, (x.Scores.length : Int)] ++ x.Scores) ++ (x.Bodies.take k).flatMap bodyInts))]⟩ : St)) (k + 1), W_go [0, 1] (by decide) rfl (row2b (by rw [flat_snoc h3, ← List.append_assoc, els_app _ (bodyInts x.Bodies[k])]; rfl)) (.cons rfl (.cons rfl (.cons rfl (.nil)))), k + 1, by omega, trivial, rfl⟩
    · have h3 : ¬ k < x.Bodies.length := by have := of_decide_eq_false h; omega
      have hk : x.Bodies.take k = x.Bodies := List.take_of_length_le (by omega)
      rw [hk] at hlc hla ⊢
      have hgi : Enc.gd (([x.Tick, x.Seed, (x.Scores.length : Int)] ++ x.Scores) ++ x.Bodies.flatMap bodyInts) := ⟨by omega, fun y hy => by
        rcases List.mem_append.1 hy with hy | hy
        · rcases List.mem_append.1 hy with hy | hy
          · simp only [List.mem_cons, List.not_mem_nil, or_false] at hy
            rcases hy with rfl | rfl | rfl
            · exact gT
            · exact gS
            · exact ⟨by omega, by omega⟩
          · exact gSc.2 y hy
        · exact flat_gd gB.2 y hy⟩
      have hp := S_PackInts (([x.Tick, x.Seed, (x.Scores.length : Int)] ++ x.Scores) ++ x.Bodies.flatMap bodyInts) hgi (by omega)
      refine A_exit ?_; refine T_x ?_; refine T_x ?_; refine B_xs ?_; refine T_n ?_; refine A_seq ?_; refine A_region ?_; refine M0 (q_moveC rfl rfl rfl) rfl rfl ?_
      refine M0 (q_call0 rfl rfl (hp) rfl) rfl rfl ?_; refine M0 (q_assignC rfl rfl rfl) rfl rfl ?_; refine L_nil ?_; refine T_n ?_; refine A_ret ?_; refine F_r ?_
      exact E_tmp rfl rfl (W_end [] (by decide) rfl rfl rfl)
end Go.Proofs.Ytbpebmolbdplmaa
end

section
set_option linter.unusedSimpArgs false
set_option linter.unusedVariables false
set_option maxRecDepth 8000
namespace Go.Proofs.Ytbpebmolbdplmaa
open Go.RowKit

noncomputable def snapshotOf (p : TPeer) : ByteArray := if peerOk p = true then worldBytes p.Base else ⟨#[]⟩
set_option maxHeartbeats 8000000 in
theorem I_SnapshotOf (p : TPeer) (g : Enc.gd p) : Con Try.prog 18 [] [ag p] [] (S (snapshotOf p)) := by
  have hc := I_PeerOk p g
  have hd := I_WorldBytes p.Base g.2.2.2.2.2.1
  cases ho : peerOk p with
  | false =>
    rw [ho] at hc
    rw [show snapshotOf p = ⟨#[]⟩ by rw [snapshotOf, ho]; exact if_neg (by decide)]
    refine Con.of Try.func18 rfl Try.ntmps18 rfl (fun E => ?_)
    refine A_seq ?_; refine A_region ?_; refine M1 (q_boxN rfl rfl rfl rfl) rfl rfl ?_; refine M0 (q_assignC rfl rfl rfl) rfl rfl ?_; refine L_nil ?_; refine T_n ?_; refine A_seq ?_; refine A_seq ?_
    refine A_region ?_; refine M0 (q_ldN rfl rfl rfl rfl rfl rfl) rfl rfl ?_; refine M0 (q_call0 rfl rfl (hc) rfl) rfl rfl ?_; refine M0 (q_not rfl rfl rfl) rfl rfl ?_; refine L_nil ?_
    refine T_n ?_; refine A_ifT rfl ?_; refine A_seq ?_; refine A_region ?_; refine M0 (q_assignC rfl rfl rfl) rfl rfl ?_; refine L_nil ?_; refine T_n ?_; refine A_ret ?_; refine T_r ?_; refine F_r ?_
    exact E_tmp rfl rfl (W_end [] (by decide) rfl rfl rfl)
  | true =>
    rw [ho] at hc
    rw [show snapshotOf p = worldBytes p.Base by rw [snapshotOf, ho]; exact if_pos rfl]
    refine Con.of Try.func18 rfl Try.ntmps18 rfl (fun E => ?_)
    refine A_seq ?_; refine A_region ?_; refine M1 (q_boxN rfl rfl rfl rfl) rfl rfl ?_; refine M0 (q_assignC rfl rfl rfl) rfl rfl ?_; refine L_nil ?_; refine T_n ?_; refine A_seq ?_; refine A_seq ?_
    refine A_region ?_; refine M0 (q_ldN rfl rfl rfl rfl rfl rfl) rfl rfl ?_; refine M0 (q_call0 rfl rfl (hc) rfl) rfl rfl ?_; refine M0 (q_not rfl rfl rfl) rfl rfl ?_; refine L_nil ?_
    refine T_n ?_; refine A_ifF rfl ?_; refine A_skip ?_; refine T_n ?_; refine A_seq ?_; refine A_region ?_; refine M0 (q_fldp rfl rfl rfl rfl (by decide)) rfl rfl ?_
    refine M0 (q_ldN rfl rfl rfl rfl rfl rfl) rfl rfl ?_; refine M0 (q_call0 rfl rfl (hd) rfl) rfl rfl ?_; refine M0 (q_assignC rfl rfl rfl) rfl rfl ?_; refine L_nil ?_; refine T_n ?_
    refine A_ret ?_; refine F_r ?_
    exact E_tmp rfl rfl (W_end [] (by decide) rfl rfl rfl)
set_option maxHeartbeats 8000000 in
theorem S_SnapshotOf (p : TPeer) (g : Enc.gd p) : Con Try.prog 17 [] [ag p] [] (S (snapshotOf p)) := by
  have hc := S_PeerOk p g
  have hd := S_WorldBytes p.Base g.2.2.2.2.2.1
  cases ho : peerOk p with
  | false =>
    rw [ho] at hc
    rw [show snapshotOf p = ⟨#[]⟩ by rw [snapshotOf, ho]; exact if_neg (by decide)]
    refine Con.of Try.func17 rfl Try.ntmps17 rfl (fun E => ?_)
    refine A_seq ?_; refine A_region ?_; refine M1 (q_boxN rfl rfl rfl rfl) rfl rfl ?_; refine M0 (q_assignC rfl rfl rfl) rfl rfl ?_; refine L_nil ?_; refine T_n ?_; refine A_seq ?_; refine A_seq ?_
    refine A_region ?_; refine M0 (q_ldN rfl rfl rfl rfl rfl rfl) rfl rfl ?_; refine M0 (q_call0 rfl rfl (hc) rfl) rfl rfl ?_; refine M0 (q_not rfl rfl rfl) rfl rfl ?_; refine L_nil ?_
    refine T_n ?_; refine A_ifT rfl ?_; refine A_seq ?_; refine A_region ?_; refine M0 (q_assignC rfl rfl rfl) rfl rfl ?_; refine L_nil ?_; refine T_n ?_; refine A_ret ?_; refine T_r ?_; refine F_r ?_
    exact E_tmp rfl rfl (W_end [] (by decide) rfl rfl rfl)
  | true =>
    rw [ho] at hc
    rw [show snapshotOf p = worldBytes p.Base by rw [snapshotOf, ho]; exact if_pos rfl]
    refine Con.of Try.func17 rfl Try.ntmps17 rfl (fun E => ?_)
    refine A_seq ?_; refine A_region ?_; refine M1 (q_boxN rfl rfl rfl rfl) rfl rfl ?_; refine M0 (q_assignC rfl rfl rfl) rfl rfl ?_; refine L_nil ?_; refine T_n ?_; refine A_seq ?_; refine A_seq ?_
    refine A_region ?_; refine M0 (q_ldN rfl rfl rfl rfl rfl rfl) rfl rfl ?_; refine M0 (q_call0 rfl rfl (hc) rfl) rfl rfl ?_; refine M0 (q_not rfl rfl rfl) rfl rfl ?_; refine L_nil ?_
    refine T_n ?_; refine A_ifF rfl ?_; refine A_skip ?_; refine T_n ?_; refine A_seq ?_; refine A_region ?_; refine M0 (q_fldp rfl rfl rfl rfl (by decide)) rfl rfl ?_
    refine M0 (q_ldN rfl rfl rfl rfl rfl rfl) rfl rfl ?_; refine M0 (q_call0 rfl rfl (hd) rfl) rfl rfl ?_; refine M0 (q_assignC rfl rfl rfl) rfl rfl ?_; refine L_nil ?_; refine T_n ?_
    refine A_ret ?_; refine F_r ?_
    exact E_tmp rfl rfl (W_end [] (by decide) rfl rfl rfl)
end Go.Proofs.Ytbpebmolbdplmaa
end

section
set_option linter.unusedVariables false
set_option linter.unusedSimpArgs false
set_option maxRecDepth 8000
namespace Go.Proofs.Ytbpebmolbdplmaa
open Go.RowKit

set_option maxHeartbeats 8000000 in
theorem to_Peer (x : TPeer) (hg : Enc.wt x ≤ 1048576) : Con Try.prog 9 [] [ag x] [.row 1 (els x.Tracks), .row 1 (els x.Base.Level.Rows), .row 1 (els x.Base.Scores), .row 9 (els x.Base.Bodies), .row 1 (els x.Now.Level.Rows), .row 1 (els x.Now.Scores), .row 9 (els x.Now.Bodies), .row 1 (els x.Used), .row 2 (els x.Saves), .row 1 (els x.Sums)] (.o (.ag [.rd [] (.v (.int .i64 x.Me)), .rd [] (.v (.int .i64 x.Delay)), .rd [] (.v (.int .i64 x.Ahead)), .rd [] (.v (.int .i64 x.Seed)), .ref 0, .ref 1, .rd [] (.v (.int .i64 x.Base.Tick)), .rd [] (.v (.int .i64 x.Base.Seed)), .ref 2, .ref 3, .ref 4, .rd [] (.v (.int .i64 x.Now.Tick)), .rd [] (.v (.int .i64 x.Now.Seed)), .ref 5, .ref 6, .ref 7, .ref 8, .ref 9, .rd [] (.v (.int .i64 x.Fault.Tick)), .rd [] (.v (.int .i64 x.Fault.Player)), .rd [] (.v (.int .i64 x.Fault.Add)), .rd [] (.v (.int .i64 x.Rolls)), .rd [] (.v (.int .i64 x.Again))])) := by
  have hw : Enc.wt x = Enc.wt x.Tracks + Enc.wt x.Base + Enc.wt x.Now + Enc.wt x.Used + Enc.wt x.Saves + Enc.wt x.Sums + Enc.wt x.Fault := rfl
  refine Con.of Try.func9 rfl Try.ntmps9 rfl (fun E => ?_)
  refine A_seq ?_; refine A_region ?_; refine M1 (q_boxN rfl rfl rfl rfl) rfl rfl ?_; refine M1 (q_alloc rfl rfl rfl) rfl rfl ?_; refine L_nil ?_; refine T_n ?_; refine A_seq ?_
  refine A_region ?_; refine M1 (q_alloc rfl rfl rfl) rfl rfl ?_; refine L_nil ?_; refine T_n ?_; refine A_seq ?_; refine A_region ?_; refine M0 (q_fldp rfl rfl rfl rfl (by decide)) rfl rfl ?_
  refine M0 (q_ld1 rfl rfl rfl rfl rfl) rfl rfl ?_; refine M0 (q_fldp rfl rfl rfl rfl (by decide)) rfl rfl ?_; refine M_st1 rfl rfl rfl rfl rfl rfl rfl rfl ?_; refine L_nil ?_; refine T_n ?_
  refine A_seq ?_; refine A_region ?_; refine M0 (q_fldp rfl rfl rfl rfl (by decide)) rfl rfl ?_; refine M0 (q_ld1 rfl rfl rfl rfl rfl) rfl rfl ?_
  refine M0 (q_fldp rfl rfl rfl rfl (by decide)) rfl rfl ?_; refine M_st1 rfl rfl rfl rfl rfl rfl rfl rfl ?_; refine L_nil ?_; refine T_n ?_; refine A_seq ?_; refine A_region ?_
  refine M0 (q_fldp rfl rfl rfl rfl (by decide)) rfl rfl ?_; refine M0 (q_ld1 rfl rfl rfl rfl rfl) rfl rfl ?_; refine M0 (q_fldp rfl rfl rfl rfl (by decide)) rfl rfl ?_
  refine M_st1 rfl rfl rfl rfl rfl rfl rfl rfl ?_; refine L_nil ?_; refine T_n ?_; refine A_seq ?_; refine A_region ?_; refine M0 (q_fldp rfl rfl rfl rfl (by decide)) rfl rfl ?_
  refine M0 (q_ld1 rfl rfl rfl rfl rfl) rfl rfl ?_; refine M0 (q_fldp rfl rfl rfl rfl (by decide)) rfl rfl ?_; refine M_st1 rfl rfl rfl rfl rfl rfl rfl rfl ?_; refine L_nil ?_; refine T_n ?_
  refine A_seq ?_; refine A_region ?_; refine M0 (q_fldp rfl rfl rfl rfl (by decide)) rfl rfl ?_; refine M0 (q_ld1 rfl rfl rfl rfl rfl) rfl rfl ?_
  refine AL.weak (st' := (⟨_, [(1, .o (.c (.ptr 0 0))), (2, .o (.c (.ptr 1 0))), (3, .o (.c (.ptr 2 0))), (17, L x.Tracks)], [.box ((Enc.e x).map (V1.rd [])), .box [.rd [] (.v (.int .i64 0)), .rd [] (.v (.int .i64 0)), .rd [] (.v (.int .i64 0)), .rd [] (.v (.int .i64 0)), .rd [] (.v (.slice none 0 0)), .rd [] (.v (.slice none 0 0)), .rd [] (.v (.int .i64 0)), .rd [] (.v (.int .i64 0)), .rd [] (.v (.slice none 0 0)), .rd [] (.v (.slice none 0 0)), .rd [] (.v (.slice none 0 0)), .rd [] (.v (.int .i64 0)), .rd [] (.v (.int .i64 0)), .rd [] (.v (.slice none 0 0)), .rd [] (.v (.slice none 0 0)), .rd [] (.v (.slice none 0 0)), .rd [] (.v (.slice none 0 0)), .rd [] (.v (.slice none 0 0)), .rd [] (.v (.int .i64 0)), .rd [] (.v (.int .i64 0)), .rd [] (.v (.int .i64 0)), .rd [] (.v (.int .i64 0)), .rd [] (.v (.int .i64 0))], .box [.rd [] (.v (.int .i64 x.Me)), .rd [] (.v (.int .i64 x.Delay)), .rd [] (.v (.int .i64 x.Ahead)), .rd [] (.v (.int .i64 x.Seed)), .rd [] (.v (.slice none 0 0)), .rd [] (.v (.slice none 0 0)), .rd [] (.v (.int .i64 0)), .rd [] (.v (.int .i64 0)), .rd [] (.v (.slice none 0 0)), .rd [] (.v (.slice none 0 0)), .rd [] (.v (.slice none 0 0)), .rd [] (.v (.int .i64 0)), .rd [] (.v (.int .i64 0)), .rd [] (.v (.slice none 0 0)), .rd [] (.v (.slice none 0 0)), .rd [] (.v (.slice none 0 0)), .rd [] (.v (.slice none 0 0)), .rd [] (.v (.slice none 0 0)), .rd [] (.v (.int .i64 0)), .rd [] (.v (.int .i64 0)), .rd [] (.v (.int .i64 0)), .rd [] (.v (.int .i64 0)), .rd [] (.v (.int .i64 0))]]⟩ : St)) (W_go [0, 1, 2] (by decide) rfl (rfl) (.cons rfl (.cons rfl (.cons rfl (.cons rfl (.nil)))))) ?_
  refine M1 (q_call rfl rfl (to_TrackS x.Tracks (by omega)) rfl rfl rfl) rfl rfl ?_; refine M0 (q_fldp rfl rfl rfl rfl (by decide)) rfl rfl ?_
  refine M_st1 rfl rfl rfl rfl rfl rfl rfl rfl ?_; refine L_nil ?_; refine T_n ?_; refine A_seq ?_; refine A_region ?_; refine M0 (q_fldp rfl rfl rfl rfl (by decide)) rfl rfl ?_
  refine M0 (q_ldN rfl rfl rfl rfl rfl rfl) rfl rfl ?_
  refine AL.weak (st' := (⟨_, [(1, .o (.c (.ptr 0 0))), (2, .o (.c (.ptr 1 0))), (3, .o (.c (.ptr 2 0))), (21, .o (.ag ((Enc.e x.Base).map (V1.rd []))))], [.box ((Enc.e x).map (V1.rd [])), .box [.rd [] (.v (.int .i64 0)), .rd [] (.v (.int .i64 0)), .rd [] (.v (.int .i64 0)), .rd [] (.v (.int .i64 0)), .rd [] (.v (.slice none 0 0)), .rd [] (.v (.slice none 0 0)), .rd [] (.v (.int .i64 0)), .rd [] (.v (.int .i64 0)), .rd [] (.v (.slice none 0 0)), .rd [] (.v (.slice none 0 0)), .rd [] (.v (.slice none 0 0)), .rd [] (.v (.int .i64 0)), .rd [] (.v (.int .i64 0)), .rd [] (.v (.slice none 0 0)), .rd [] (.v (.slice none 0 0)), .rd [] (.v (.slice none 0 0)), .rd [] (.v (.slice none 0 0)), .rd [] (.v (.slice none 0 0)), .rd [] (.v (.int .i64 0)), .rd [] (.v (.int .i64 0)), .rd [] (.v (.int .i64 0)), .rd [] (.v (.int .i64 0)), .rd [] (.v (.int .i64 0))], .box [.rd [] (.v (.int .i64 x.Me)), .rd [] (.v (.int .i64 x.Delay)), .rd [] (.v (.int .i64 x.Ahead)), .rd [] (.v (.int .i64 x.Seed)), .ref 3, .rd [] (.v (.slice none 0 0)), .rd [] (.v (.int .i64 0)), .rd [] (.v (.int .i64 0)), .rd [] (.v (.slice none 0 0)), .rd [] (.v (.slice none 0 0)), .rd [] (.v (.slice none 0 0)), .rd [] (.v (.int .i64 0)), .rd [] (.v (.int .i64 0)), .rd [] (.v (.slice none 0 0)), .rd [] (.v (.slice none 0 0)), .rd [] (.v (.slice none 0 0)), .rd [] (.v (.slice none 0 0)), .rd [] (.v (.slice none 0 0)), .rd [] (.v (.int .i64 0)), .rd [] (.v (.int .i64 0)), .rd [] (.v (.int .i64 0)), .rd [] (.v (.int .i64 0)), .rd [] (.v (.int .i64 0))], .row 1 (els x.Tracks)]⟩ : St)) (W_go [0, 1, 2, 3] (by decide) rfl (rfl) (.cons rfl (.cons rfl (.cons rfl (.cons rfl (.nil)))))) ?_
  refine M1 (q_call rfl rfl (to_World x.Base (by omega)) rfl rfl rfl) rfl rfl ?_; refine M0 (q_fldp rfl rfl rfl rfl (by decide)) rfl rfl ?_
  refine M_stN rfl rfl rfl rfl rfl rfl rfl rfl rfl ?_; refine L_nil ?_; refine T_n ?_; refine A_seq ?_; refine A_region ?_; refine M0 (q_fldp rfl rfl rfl rfl (by decide)) rfl rfl ?_
  refine M0 (q_ldN rfl rfl rfl rfl rfl rfl) rfl rfl ?_
  refine AL.weak (st' := (⟨_, [(1, .o (.c (.ptr 0 0))), (2, .o (.c (.ptr 1 0))), (3, .o (.c (.ptr 2 0))), (25, .o (.ag ((Enc.e x.Now).map (V1.rd []))))], [.box ((Enc.e x).map (V1.rd [])), .box [.rd [] (.v (.int .i64 0)), .rd [] (.v (.int .i64 0)), .rd [] (.v (.int .i64 0)), .rd [] (.v (.int .i64 0)), .rd [] (.v (.slice none 0 0)), .rd [] (.v (.slice none 0 0)), .rd [] (.v (.int .i64 0)), .rd [] (.v (.int .i64 0)), .rd [] (.v (.slice none 0 0)), .rd [] (.v (.slice none 0 0)), .rd [] (.v (.slice none 0 0)), .rd [] (.v (.int .i64 0)), .rd [] (.v (.int .i64 0)), .rd [] (.v (.slice none 0 0)), .rd [] (.v (.slice none 0 0)), .rd [] (.v (.slice none 0 0)), .rd [] (.v (.slice none 0 0)), .rd [] (.v (.slice none 0 0)), .rd [] (.v (.int .i64 0)), .rd [] (.v (.int .i64 0)), .rd [] (.v (.int .i64 0)), .rd [] (.v (.int .i64 0)), .rd [] (.v (.int .i64 0))], .box [.rd [] (.v (.int .i64 x.Me)), .rd [] (.v (.int .i64 x.Delay)), .rd [] (.v (.int .i64 x.Ahead)), .rd [] (.v (.int .i64 x.Seed)), .ref 3, .ref 4, .rd [] (.v (.int .i64 x.Base.Tick)), .rd [] (.v (.int .i64 x.Base.Seed)), .ref 5, .ref 6, .rd [] (.v (.slice none 0 0)), .rd [] (.v (.int .i64 0)), .rd [] (.v (.int .i64 0)), .rd [] (.v (.slice none 0 0)), .rd [] (.v (.slice none 0 0)), .rd [] (.v (.slice none 0 0)), .rd [] (.v (.slice none 0 0)), .rd [] (.v (.slice none 0 0)), .rd [] (.v (.int .i64 0)), .rd [] (.v (.int .i64 0)), .rd [] (.v (.int .i64 0)), .rd [] (.v (.int .i64 0)), .rd [] (.v (.int .i64 0))], .row 1 (els x.Tracks), .row 1 (els x.Base.Level.Rows), .row 1 (els x.Base.Scores), .row 9 (els x.Base.Bodies)]⟩ : St)) (W_go [0, 1, 2, 3, 4, 5, 6] (by decide) rfl (rfl) (.cons rfl (.cons rfl (.cons rfl (.cons rfl (.nil)))))) ?_
  refine M1 (q_call rfl rfl (to_World x.Now (by omega)) rfl rfl rfl) rfl rfl ?_; refine M0 (q_fldp rfl rfl rfl rfl (by decide)) rfl rfl ?_
  refine M_stN rfl rfl rfl rfl rfl rfl rfl rfl rfl ?_; refine L_nil ?_; refine T_n ?_; refine A_seq ?_; refine A_region ?_; refine M0 (q_fldp rfl rfl rfl rfl (by decide)) rfl rfl ?_
  refine M0 (q_ld1 rfl rfl rfl rfl rfl) rfl rfl ?_
  refine AL.weak (st' := (⟨_, [(1, .o (.c (.ptr 0 0))), (2, .o (.c (.ptr 1 0))), (3, .o (.c (.ptr 2 0))), (29, L x.Used)], [.box ((Enc.e x).map (V1.rd [])), .box [.rd [] (.v (.int .i64 0)), .rd [] (.v (.int .i64 0)), .rd [] (.v (.int .i64 0)), .rd [] (.v (.int .i64 0)), .rd [] (.v (.slice none 0 0)), .rd [] (.v (.slice none 0 0)), .rd [] (.v (.int .i64 0)), .rd [] (.v (.int .i64 0)), .rd [] (.v (.slice none 0 0)), .rd [] (.v (.slice none 0 0)), .rd [] (.v (.slice none 0 0)), .rd [] (.v (.int .i64 0)), .rd [] (.v (.int .i64 0)), .rd [] (.v (.slice none 0 0)), .rd [] (.v (.slice none 0 0)), .rd [] (.v (.slice none 0 0)), .rd [] (.v (.slice none 0 0)), .rd [] (.v (.slice none 0 0)), .rd [] (.v (.int .i64 0)), .rd [] (.v (.int .i64 0)), .rd [] (.v (.int .i64 0)), .rd [] (.v (.int .i64 0)), .rd [] (.v (.int .i64 0))], .box [.rd [] (.v (.int .i64 x.Me)), .rd [] (.v (.int .i64 x.Delay)), .rd [] (.v (.int .i64 x.Ahead)), .rd [] (.v (.int .i64 x.Seed)), .ref 3, .ref 4, .rd [] (.v (.int .i64 x.Base.Tick)), .rd [] (.v (.int .i64 x.Base.Seed)), .ref 5, .ref 6, .ref 7, .rd [] (.v (.int .i64 x.Now.Tick)), .rd [] (.v (.int .i64 x.Now.Seed)), .ref 8, .ref 9, .rd [] (.v (.slice none 0 0)), .rd [] (.v (.slice none 0 0)), .rd [] (.v (.slice none 0 0)), .rd [] (.v (.int .i64 0)), .rd [] (.v (.int .i64 0)), .rd [] (.v (.int .i64 0)), .rd [] (.v (.int .i64 0)), .rd [] (.v (.int .i64 0))], .row 1 (els x.Tracks), .row 1 (els x.Base.Level.Rows), .row 1 (els x.Base.Scores), .row 9 (els x.Base.Bodies), .row 1 (els x.Now.Level.Rows), .row 1 (els x.Now.Scores), .row 9 (els x.Now.Bodies)]⟩ : St)) (W_go [0, 1, 2, 3, 4, 5, 6, 7, 8, 9] (by decide) rfl (rfl) (.cons rfl (.cons rfl (.cons rfl (.cons rfl (.nil)))))) ?_
  refine M1 (q_call rfl rfl (to_IntSS x.Used (by omega)) rfl rfl rfl) rfl rfl ?_; refine M0 (q_fldp rfl rfl rfl rfl (by decide)) rfl rfl ?_
  refine M_st1 rfl rfl rfl rfl rfl rfl rfl rfl ?_; refine L_nil ?_; refine T_n ?_; refine A_seq ?_; refine A_region ?_; refine M0 (q_fldp rfl rfl rfl rfl (by decide)) rfl rfl ?_
  refine M0 (q_ld1 rfl rfl rfl rfl rfl) rfl rfl ?_
  refine AL.weak (st' := (⟨_, [(1, .o (.c (.ptr 0 0))), (2, .o (.c (.ptr 1 0))), (3, .o (.c (.ptr 2 0))), (33, L x.Saves)], [.box ((Enc.e x).map (V1.rd [])), .box [.rd [] (.v (.int .i64 0)), .rd [] (.v (.int .i64 0)), .rd [] (.v (.int .i64 0)), .rd [] (.v (.int .i64 0)), .rd [] (.v (.slice none 0 0)), .rd [] (.v (.slice none 0 0)), .rd [] (.v (.int .i64 0)), .rd [] (.v (.int .i64 0)), .rd [] (.v (.slice none 0 0)), .rd [] (.v (.slice none 0 0)), .rd [] (.v (.slice none 0 0)), .rd [] (.v (.int .i64 0)), .rd [] (.v (.int .i64 0)), .rd [] (.v (.slice none 0 0)), .rd [] (.v (.slice none 0 0)), .rd [] (.v (.slice none 0 0)), .rd [] (.v (.slice none 0 0)), .rd [] (.v (.slice none 0 0)), .rd [] (.v (.int .i64 0)), .rd [] (.v (.int .i64 0)), .rd [] (.v (.int .i64 0)), .rd [] (.v (.int .i64 0)), .rd [] (.v (.int .i64 0))], .box [.rd [] (.v (.int .i64 x.Me)), .rd [] (.v (.int .i64 x.Delay)), .rd [] (.v (.int .i64 x.Ahead)), .rd [] (.v (.int .i64 x.Seed)), .ref 3, .ref 4, .rd [] (.v (.int .i64 x.Base.Tick)), .rd [] (.v (.int .i64 x.Base.Seed)), .ref 5, .ref 6, .ref 7, .rd [] (.v (.int .i64 x.Now.Tick)), .rd [] (.v (.int .i64 x.Now.Seed)), .ref 8, .ref 9, .ref 10, .rd [] (.v (.slice none 0 0)), .rd [] (.v (.slice none 0 0)), .rd [] (.v (.int .i64 0)), .rd [] (.v (.int .i64 0)), .rd [] (.v (.int .i64 0)), .rd [] (.v (.int .i64 0)), .rd [] (.v (.int .i64 0))], .row 1 (els x.Tracks), .row 1 (els x.Base.Level.Rows), .row 1 (els x.Base.Scores), .row 9 (els x.Base.Bodies), .row 1 (els x.Now.Level.Rows), .row 1 (els x.Now.Scores), .row 9 (els x.Now.Bodies), .row 1 (els x.Used)]⟩ : St)) (W_go [0, 1, 2, 3, 4, 5, 6, 7, 8, 9, 10] (by decide) rfl (rfl) (.cons rfl (.cons rfl (.cons rfl (.cons rfl (.nil)))))) ?_
  refine M1 (q_call rfl rfl (to_SaveS x.Saves (by omega)) rfl rfl rfl) rfl rfl ?_; refine M0 (q_fldp rfl rfl rfl rfl (by decide)) rfl rfl ?_
  refine M_st1 rfl rfl rfl rfl rfl rfl rfl rfl ?_; refine L_nil ?_; refine T_n ?_; refine A_seq ?_; refine A_region ?_; refine M0 (q_fldp rfl rfl rfl rfl (by decide)) rfl rfl ?_
  refine M0 (q_ld1 rfl rfl rfl rfl rfl) rfl rfl ?_
  refine AL.weak (st' := (⟨_, [(1, .o (.c (.ptr 0 0))), (2, .o (.c (.ptr 1 0))), (3, .o (.c (.ptr 2 0))), (37, L x.Sums)], [.box ((Enc.e x).map (V1.rd [])), .box [.rd [] (.v (.int .i64 0)), .rd [] (.v (.int .i64 0)), .rd [] (.v (.int .i64 0)), .rd [] (.v (.int .i64 0)), .rd [] (.v (.slice none 0 0)), .rd [] (.v (.slice none 0 0)), .rd [] (.v (.int .i64 0)), .rd [] (.v (.int .i64 0)), .rd [] (.v (.slice none 0 0)), .rd [] (.v (.slice none 0 0)), .rd [] (.v (.slice none 0 0)), .rd [] (.v (.int .i64 0)), .rd [] (.v (.int .i64 0)), .rd [] (.v (.slice none 0 0)), .rd [] (.v (.slice none 0 0)), .rd [] (.v (.slice none 0 0)), .rd [] (.v (.slice none 0 0)), .rd [] (.v (.slice none 0 0)), .rd [] (.v (.int .i64 0)), .rd [] (.v (.int .i64 0)), .rd [] (.v (.int .i64 0)), .rd [] (.v (.int .i64 0)), .rd [] (.v (.int .i64 0))], .box [.rd [] (.v (.int .i64 x.Me)), .rd [] (.v (.int .i64 x.Delay)), .rd [] (.v (.int .i64 x.Ahead)), .rd [] (.v (.int .i64 x.Seed)), .ref 3, .ref 4, .rd [] (.v (.int .i64 x.Base.Tick)), .rd [] (.v (.int .i64 x.Base.Seed)), .ref 5, .ref 6, .ref 7, .rd [] (.v (.int .i64 x.Now.Tick)), .rd [] (.v (.int .i64 x.Now.Seed)), .ref 8, .ref 9, .ref 10, .ref 11, .rd [] (.v (.slice none 0 0)), .rd [] (.v (.int .i64 0)), .rd [] (.v (.int .i64 0)), .rd [] (.v (.int .i64 0)), .rd [] (.v (.int .i64 0)), .rd [] (.v (.int .i64 0))], .row 1 (els x.Tracks), .row 1 (els x.Base.Level.Rows), .row 1 (els x.Base.Scores), .row 9 (els x.Base.Bodies), .row 1 (els x.Now.Level.Rows), .row 1 (els x.Now.Scores), .row 9 (els x.Now.Bodies), .row 1 (els x.Used), .row 2 (els x.Saves)]⟩ : St)) (W_go [0, 1, 2, 3, 4, 5, 6, 7, 8, 9, 10, 11] (by decide) rfl (rfl) (.cons rfl (.cons rfl (.cons rfl (.cons rfl (.nil)))))) ?_
  refine M1 (q_call rfl rfl (to_IntS x.Sums (by omega)) rfl rfl rfl) rfl rfl ?_; refine M0 (q_fldp rfl rfl rfl rfl (by decide)) rfl rfl ?_
  refine M_st1 rfl rfl rfl rfl rfl rfl rfl rfl ?_; refine L_nil ?_; refine T_n ?_; refine A_seq ?_; refine A_region ?_; refine M0 (q_fldp rfl rfl rfl rfl (by decide)) rfl rfl ?_
  refine M0 (q_ldN rfl rfl rfl rfl rfl rfl) rfl rfl ?_
  refine AL.weak (st' := (⟨_, [(1, .o (.c (.ptr 0 0))), (2, .o (.c (.ptr 1 0))), (3, .o (.c (.ptr 2 0))), (41, .o (.ag ((Enc.e x.Fault).map (V1.rd []))))], [.box ((Enc.e x).map (V1.rd [])), .box [.rd [] (.v (.int .i64 0)), .rd [] (.v (.int .i64 0)), .rd [] (.v (.int .i64 0)), .rd [] (.v (.int .i64 0)), .rd [] (.v (.slice none 0 0)), .rd [] (.v (.slice none 0 0)), .rd [] (.v (.int .i64 0)), .rd [] (.v (.int .i64 0)), .rd [] (.v (.slice none 0 0)), .rd [] (.v (.slice none 0 0)), .rd [] (.v (.slice none 0 0)), .rd [] (.v (.int .i64 0)), .rd [] (.v (.int .i64 0)), .rd [] (.v (.slice none 0 0)), .rd [] (.v (.slice none 0 0)), .rd [] (.v (.slice none 0 0)), .rd [] (.v (.slice none 0 0)), .rd [] (.v (.slice none 0 0)), .rd [] (.v (.int .i64 0)), .rd [] (.v (.int .i64 0)), .rd [] (.v (.int .i64 0)), .rd [] (.v (.int .i64 0)), .rd [] (.v (.int .i64 0))], .box [.rd [] (.v (.int .i64 x.Me)), .rd [] (.v (.int .i64 x.Delay)), .rd [] (.v (.int .i64 x.Ahead)), .rd [] (.v (.int .i64 x.Seed)), .ref 3, .ref 4, .rd [] (.v (.int .i64 x.Base.Tick)), .rd [] (.v (.int .i64 x.Base.Seed)), .ref 5, .ref 6, .ref 7, .rd [] (.v (.int .i64 x.Now.Tick)), .rd [] (.v (.int .i64 x.Now.Seed)), .ref 8, .ref 9, .ref 10, .ref 11, .ref 12, .rd [] (.v (.int .i64 0)), .rd [] (.v (.int .i64 0)), .rd [] (.v (.int .i64 0)), .rd [] (.v (.int .i64 0)), .rd [] (.v (.int .i64 0))], .row 1 (els x.Tracks), .row 1 (els x.Base.Level.Rows), .row 1 (els x.Base.Scores), .row 9 (els x.Base.Bodies), .row 1 (els x.Now.Level.Rows), .row 1 (els x.Now.Scores), .row 9 (els x.Now.Bodies), .row 1 (els x.Used), .row 2 (els x.Saves), .row 1 (els x.Sums)]⟩ : St)) (W_go [0, 1, 2, 3, 4, 5, 6, 7, 8, 9, 10, 11, 12] (by decide) rfl (rfl) (.cons rfl (.cons rfl (.cons rfl (.cons rfl (.nil)))))) ?_
  first | refine M0 (q_call0 rfl rfl (to_Fault x.Fault (by omega)) rfl) rfl rfl ?_ | refine M1 (q_call rfl rfl (to_Fault x.Fault (by omega)) rfl rfl rfl) rfl rfl ?_
  refine AL.weak (st' := (⟨_, [(1, .o (.c (.ptr 0 0))), (2, .o (.c (.ptr 1 0))), (3, .o (.c (.ptr 2 0))), (42, .o (.ag ((Enc.e x.Fault).map (V1.rd []))))], [.box ((Enc.e x).map (V1.rd [])), .box [.rd [] (.v (.int .i64 0)), .rd [] (.v (.int .i64 0)), .rd [] (.v (.int .i64 0)), .rd [] (.v (.int .i64 0)), .rd [] (.v (.slice none 0 0)), .rd [] (.v (.slice none 0 0)), .rd [] (.v (.int .i64 0)), .rd [] (.v (.int .i64 0)), .rd [] (.v (.slice none 0 0)), .rd [] (.v (.slice none 0 0)), .rd [] (.v (.slice none 0 0)), .rd [] (.v (.int .i64 0)), .rd [] (.v (.int .i64 0)), .rd [] (.v (.slice none 0 0)), .rd [] (.v (.slice none 0 0)), .rd [] (.v (.slice none 0 0)), .rd [] (.v (.slice none 0 0)), .rd [] (.v (.slice none 0 0)), .rd [] (.v (.int .i64 0)), .rd [] (.v (.int .i64 0)), .rd [] (.v (.int .i64 0)), .rd [] (.v (.int .i64 0)), .rd [] (.v (.int .i64 0))], .box [.rd [] (.v (.int .i64 x.Me)), .rd [] (.v (.int .i64 x.Delay)), .rd [] (.v (.int .i64 x.Ahead)), .rd [] (.v (.int .i64 x.Seed)), .ref 3, .ref 4, .rd [] (.v (.int .i64 x.Base.Tick)), .rd [] (.v (.int .i64 x.Base.Seed)), .ref 5, .ref 6, .ref 7, .rd [] (.v (.int .i64 x.Now.Tick)), .rd [] (.v (.int .i64 x.Now.Seed)), .ref 8, .ref 9, .ref 10, .ref 11, .ref 12, .rd [] (.v (.int .i64 0)), .rd [] (.v (.int .i64 0)), .rd [] (.v (.int .i64 0)), .rd [] (.v (.int .i64 0)), .rd [] (.v (.int .i64 0))], .row 1 (els x.Tracks), .row 1 (els x.Base.Level.Rows), .row 1 (els x.Base.Scores), .row 9 (els x.Base.Bodies), .row 1 (els x.Now.Level.Rows), .row 1 (els x.Now.Scores), .row 9 (els x.Now.Bodies), .row 1 (els x.Used), .row 2 (els x.Saves), .row 1 (els x.Sums)]⟩ : St)) (W_go [0, 1, 2, 3, 4, 5, 6, 7, 8, 9, 10, 11, 12] (by decide) rfl (rfl) (.cons rfl (.cons rfl (.cons rfl (.cons rfl (.nil)))))) ?_
  refine M0 (q_fldp rfl rfl rfl rfl (by decide)) rfl rfl ?_; refine M_stN rfl rfl rfl rfl rfl rfl rfl rfl rfl ?_; refine L_nil ?_; refine T_n ?_; refine A_seq ?_; refine A_region ?_
  refine M0 (q_fldp rfl rfl rfl rfl (by decide)) rfl rfl ?_; refine M0 (q_ld1 rfl rfl rfl rfl rfl) rfl rfl ?_; refine M0 (q_fldp rfl rfl rfl rfl (by decide)) rfl rfl ?_
  refine M_st1 rfl rfl rfl rfl rfl rfl rfl rfl ?_; refine L_nil ?_; refine T_n ?_; refine A_seq ?_; refine A_region ?_; refine M0 (q_fldp rfl rfl rfl rfl (by decide)) rfl rfl ?_
  refine M0 (q_ld1 rfl rfl rfl rfl rfl) rfl rfl ?_; refine M0 (q_fldp rfl rfl rfl rfl (by decide)) rfl rfl ?_; refine M_st1 rfl rfl rfl rfl rfl rfl rfl rfl ?_; refine L_nil ?_; refine T_n ?_
  refine A_seq ?_; refine A_region ?_
  refine AL.weak (st' := (⟨_, [(2, .o (.c (.ptr 1 0))), (3, .o (.c (.ptr 2 0)))], [.box ((Enc.e x).map (V1.rd [])), .box [.rd [] (.v (.int .i64 0)), .rd [] (.v (.int .i64 0)), .rd [] (.v (.int .i64 0)), .rd [] (.v (.int .i64 0)), .rd [] (.v (.slice none 0 0)), .rd [] (.v (.slice none 0 0)), .rd [] (.v (.int .i64 0)), .rd [] (.v (.int .i64 0)), .rd [] (.v (.slice none 0 0)), .rd [] (.v (.slice none 0 0)), .rd [] (.v (.slice none 0 0)), .rd [] (.v (.int .i64 0)), .rd [] (.v (.int .i64 0)), .rd [] (.v (.slice none 0 0)), .rd [] (.v (.slice none 0 0)), .rd [] (.v (.slice none 0 0)), .rd [] (.v (.slice none 0 0)), .rd [] (.v (.slice none 0 0)), .rd [] (.v (.int .i64 0)), .rd [] (.v (.int .i64 0)), .rd [] (.v (.int .i64 0)), .rd [] (.v (.int .i64 0)), .rd [] (.v (.int .i64 0))], .box [.rd [] (.v (.int .i64 x.Me)), .rd [] (.v (.int .i64 x.Delay)), .rd [] (.v (.int .i64 x.Ahead)), .rd [] (.v (.int .i64 x.Seed)), .ref 3, .ref 4, .rd [] (.v (.int .i64 x.Base.Tick)), .rd [] (.v (.int .i64 x.Base.Seed)), .ref 5, .ref 6, .ref 7, .rd [] (.v (.int .i64 x.Now.Tick)), .rd [] (.v (.int .i64 x.Now.Seed)), .ref 8, .ref 9, .ref 10, .ref 11, .ref 12, .rd [] (.v (.int .i64 x.Fault.Tick)), .rd [] (.v (.int .i64 x.Fault.Player)), .rd [] (.v (.int .i64 x.Fault.Add)), .rd [] (.v (.int .i64 x.Rolls)), .rd [] (.v (.int .i64 x.Again))], .row 1 (els x.Tracks), .row 1 (els x.Base.Level.Rows), .row 1 (els x.Base.Scores), .row 9 (els x.Base.Bodies), .row 1 (els x.Now.Level.Rows), .row 1 (els x.Now.Scores), .row 9 (els x.Now.Bodies), .row 1 (els x.Used), .row 2 (els x.Saves), .row 1 (els x.Sums)]⟩ : St)) (W_go [0, 1, 2, 3, 4, 5, 6, 7, 8, 9, 10, 11, 12] (by decide) rfl (rfl) (.cons rfl (.cons rfl (.nil)))) ?_
  refine M0 (q_ldN rfl rfl rfl rfl rfl rfl) rfl rfl ?_
  refine AL.weak (st' := (⟨_, [(2, .o (.c (.ptr 1 0))), (50, .o (.ag [.rd [] (.v (.int .i64 x.Me)), .rd [] (.v (.int .i64 x.Delay)), .rd [] (.v (.int .i64 x.Ahead)), .rd [] (.v (.int .i64 x.Seed)), .ref 3, .ref 4, .rd [] (.v (.int .i64 x.Base.Tick)), .rd [] (.v (.int .i64 x.Base.Seed)), .ref 5, .ref 6, .ref 7, .rd [] (.v (.int .i64 x.Now.Tick)), .rd [] (.v (.int .i64 x.Now.Seed)), .ref 8, .ref 9, .ref 10, .ref 11, .ref 12, .rd [] (.v (.int .i64 x.Fault.Tick)), .rd [] (.v (.int .i64 x.Fault.Player)), .rd [] (.v (.int .i64 x.Fault.Add)), .rd [] (.v (.int .i64 x.Rolls)), .rd [] (.v (.int .i64 x.Again))]))], [.box ((Enc.e x).map (V1.rd [])), .box [.rd [] (.v (.int .i64 0)), .rd [] (.v (.int .i64 0)), .rd [] (.v (.int .i64 0)), .rd [] (.v (.int .i64 0)), .rd [] (.v (.slice none 0 0)), .rd [] (.v (.slice none 0 0)), .rd [] (.v (.int .i64 0)), .rd [] (.v (.int .i64 0)), .rd [] (.v (.slice none 0 0)), .rd [] (.v (.slice none 0 0)), .rd [] (.v (.slice none 0 0)), .rd [] (.v (.int .i64 0)), .rd [] (.v (.int .i64 0)), .rd [] (.v (.slice none 0 0)), .rd [] (.v (.slice none 0 0)), .rd [] (.v (.slice none 0 0)), .rd [] (.v (.slice none 0 0)), .rd [] (.v (.slice none 0 0)), .rd [] (.v (.int .i64 0)), .rd [] (.v (.int .i64 0)), .rd [] (.v (.int .i64 0)), .rd [] (.v (.int .i64 0)), .rd [] (.v (.int .i64 0))], .box [.rd [] (.v (.int .i64 x.Me)), .rd [] (.v (.int .i64 x.Delay)), .rd [] (.v (.int .i64 x.Ahead)), .rd [] (.v (.int .i64 x.Seed)), .ref 3, .ref 4, .rd [] (.v (.int .i64 x.Base.Tick)), .rd [] (.v (.int .i64 x.Base.Seed)), .ref 5, .ref 6, .ref 7, .rd [] (.v (.int .i64 x.Now.Tick)), .rd [] (.v (.int .i64 x.Now.Seed)), .ref 8, .ref 9, .ref 10, .ref 11, .ref 12, .rd [] (.v (.int .i64 x.Fault.Tick)), .rd [] (.v (.int .i64 x.Fault.Player)), .rd [] (.v (.int .i64 x.Fault.Add)), .rd [] (.v (.int .i64 x.Rolls)), .rd [] (.v (.int .i64 x.Again))], .row 1 (els x.Tracks), .row 1 (els x.Base.Level.Rows), .row 1 (els x.Base.Scores), .row 9 (els x.Base.Bodies), .row 1 (els x.Now.Level.Rows), .row 1 (els x.Now.Scores), .row 9 (els x.Now.Bodies), .row 1 (els x.Used), .row 2 (els x.Saves), .row 1 (els x.Sums)]⟩ : St)) (W_go [0, 1, 2, 3, 4, 5, 6, 7, 8, 9, 10, 11, 12] (by decide) rfl (rfl) (.cons rfl (.cons rfl (.nil)))) ?_
  refine M_stN rfl rfl rfl rfl rfl rfl rfl rfl rfl ?_
  refine AL.weak (st' := (⟨_, [(2, .o (.c (.ptr 1 0)))], [.box ((Enc.e x).map (V1.rd [])), .box [.rd [] (.v (.int .i64 x.Me)), .rd [] (.v (.int .i64 x.Delay)), .rd [] (.v (.int .i64 x.Ahead)), .rd [] (.v (.int .i64 x.Seed)), .ref 3, .ref 4, .rd [] (.v (.int .i64 x.Base.Tick)), .rd [] (.v (.int .i64 x.Base.Seed)), .ref 5, .ref 6, .ref 7, .rd [] (.v (.int .i64 x.Now.Tick)), .rd [] (.v (.int .i64 x.Now.Seed)), .ref 8, .ref 9, .ref 10, .ref 11, .ref 12, .rd [] (.v (.int .i64 x.Fault.Tick)), .rd [] (.v (.int .i64 x.Fault.Player)), .rd [] (.v (.int .i64 x.Fault.Add)), .rd [] (.v (.int .i64 x.Rolls)), .rd [] (.v (.int .i64 x.Again))], .box [.rd [] (.v (.int .i64 x.Me)), .rd [] (.v (.int .i64 x.Delay)), .rd [] (.v (.int .i64 x.Ahead)), .rd [] (.v (.int .i64 x.Seed)), .ref 3, .ref 4, .rd [] (.v (.int .i64 x.Base.Tick)), .rd [] (.v (.int .i64 x.Base.Seed)), .ref 5, .ref 6, .ref 7, .rd [] (.v (.int .i64 x.Now.Tick)), .rd [] (.v (.int .i64 x.Now.Seed)), .ref 8, .ref 9, .ref 10, .ref 11, .ref 12, .rd [] (.v (.int .i64 x.Fault.Tick)), .rd [] (.v (.int .i64 x.Fault.Player)), .rd [] (.v (.int .i64 x.Fault.Add)), .rd [] (.v (.int .i64 x.Rolls)), .rd [] (.v (.int .i64 x.Again))], .row 1 (els x.Tracks), .row 1 (els x.Base.Level.Rows), .row 1 (els x.Base.Scores), .row 9 (els x.Base.Bodies), .row 1 (els x.Now.Level.Rows), .row 1 (els x.Now.Scores), .row 9 (els x.Now.Bodies), .row 1 (els x.Used), .row 2 (els x.Saves), .row 1 (els x.Sums)]⟩ : St)) (W_go [0, 1, 2, 3, 4, 5, 6, 7, 8, 9, 10, 11, 12] (by decide) rfl ((by kernel_rfl)) (.cons rfl (.nil))) ?_
  refine L_nil ?_; refine T_n ?_; refine A_ret ?_
  refine F_r ?_
  refine E_cell (cs := [.rd [] (.v (.int .i64 x.Me)), .rd [] (.v (.int .i64 x.Delay)), .rd [] (.v (.int .i64 x.Ahead)), .rd [] (.v (.int .i64 x.Seed)), .ref 3, .ref 4, .rd [] (.v (.int .i64 x.Base.Tick)), .rd [] (.v (.int .i64 x.Base.Seed)), .ref 5, .ref 6, .ref 7, .rd [] (.v (.int .i64 x.Now.Tick)), .rd [] (.v (.int .i64 x.Now.Seed)), .ref 8, .ref 9, .ref 10, .ref 11, .ref 12, .rd [] (.v (.int .i64 x.Fault.Tick)), .rd [] (.v (.int .i64 x.Fault.Player)), .rd [] (.v (.int .i64 x.Fault.Add)), .rd [] (.v (.int .i64 x.Rolls)), .rd [] (.v (.int .i64 x.Again))]) rfl rfl rfl rfl ?_
  exact W_end [3, 4, 5, 6, 7, 8, 9, 10, 11, 12] (by decide) rfl (by kernel_rfl) (by kernel_rfl)
set_option maxHeartbeats 2000000 in
theorem sz_Peer (x : TPeer) (left : Int) (hg : Enc.gd x) (h0 : 0 ≤ left) (h1 : left ≤ 1048576) : Con Try.prog 7 [] [ag x, ai left] [] (I (szr (Enc.wt x) left)) := by
  obtain ⟨g_Me, g_Delay, g_Ahead, g_Seed, g_Tracks, g_Base, g_Now, g_Used, g_Saves, g_Sums, g_Fault, g_Rolls, g_Again⟩ := hg
  have hw : Enc.wt x = Enc.wt x.Tracks + Enc.wt x.Base + Enc.wt x.Now + Enc.wt x.Used + Enc.wt x.Saves + Enc.wt x.Sums + Enc.wt x.Fault := rfl
  have hm1 : decide ((-1 : Int) < 0) = true := rfl
  have hz_Fault : Enc.wt x.Fault = 0 := rfl
  have hc_Tracks := sz_TrackS x.Tracks (left) g_Tracks (by omega) (by omega)
  by_cases n_Tracks : left < Enc.wt x.Tracks
  · rw [szr_neg n_Tracks] at hc_Tracks
    refine Con.of Try.func7 rfl Try.ntmps7 rfl (fun E => ?_)
    refine A_seq ?_; refine A_region ?_; refine M1 (q_boxN rfl rfl rfl rfl) rfl rfl ?_; refine M0 (q_assignC rfl rfl rfl) rfl rfl ?_; refine L_nil ?_; refine T_n ?_; refine A_seq ?_
    refine A_region ?_; refine M0 (q_fldp rfl rfl rfl rfl (by decide)) rfl rfl ?_; refine M0 (q_ld1 rfl rfl rfl rfl rfl) rfl rfl ?_; refine M0 (q_moveC rfl rfl rfl) rfl rfl ?_
    refine M0 (q_call0 rfl rfl (hc_Tracks) rfl) rfl rfl ?_; refine M0 (q_assignC rfl rfl rfl) rfl rfl ?_; refine L_nil ?_; refine T_n ?_; refine A_seq ?_; refine A_seq ?_; refine A_region ?_
    refine M0 (q_moveC rfl rfl rfl) rfl rfl ?_; refine M0 (q_lssK rfl rfl rfl rfl (by assumption)) rfl rfl ?_; refine L_nil ?_; refine T_n ?_; refine A_ifT rfl ?_; refine A_seq ?_
    refine A_region ?_; refine M0 (q_assignC rfl rfl rfl) rfl rfl ?_; refine L_nil ?_; refine T_n ?_; refine A_ret ?_; refine T_r ?_; refine F_r ?_
    exact E_tmp rfl rfl (W_end [] (by decide) rfl rfl (I_eq (by rw [szr_neg (by omega)])))
  rw [szr_pos (by omega)] at hc_Tracks
  have hb_Tracks : decide (left - Enc.wt x.Tracks < 0) = false := decide_eq_false (by omega)
  have hc_Base := sz_World x.Base (left - Enc.wt x.Tracks) g_Base (by omega) (by omega)
  by_cases n_Base : left - Enc.wt x.Tracks < Enc.wt x.Base
  · rw [szr_neg n_Base] at hc_Base
    refine Con.of Try.func7 rfl Try.ntmps7 rfl (fun E => ?_)
    refine A_seq ?_; refine A_region ?_; refine M1 (q_boxN rfl rfl rfl rfl) rfl rfl ?_; refine M0 (q_assignC rfl rfl rfl) rfl rfl ?_; refine L_nil ?_; refine T_n ?_; refine A_seq ?_
    refine A_region ?_; refine M0 (q_fldp rfl rfl rfl rfl (by decide)) rfl rfl ?_; refine M0 (q_ld1 rfl rfl rfl rfl rfl) rfl rfl ?_; refine M0 (q_moveC rfl rfl rfl) rfl rfl ?_
    refine M0 (q_call0 rfl rfl (hc_Tracks) rfl) rfl rfl ?_; refine M0 (q_assignC rfl rfl rfl) rfl rfl ?_; refine L_nil ?_; refine T_n ?_; refine A_seq ?_; refine A_seq ?_; refine A_region ?_
    refine M0 (q_moveC rfl rfl rfl) rfl rfl ?_; refine M0 (q_lssK rfl rfl rfl rfl (by assumption)) rfl rfl ?_; refine L_nil ?_; refine T_n ?_; refine A_ifF rfl ?_; refine A_skip ?_; refine T_n ?_
    refine A_seq ?_; refine A_region ?_; refine M0 (q_fldp rfl rfl rfl rfl (by decide)) rfl rfl ?_; refine M0 (q_ldN rfl rfl rfl rfl rfl rfl) rfl rfl ?_
    refine M0 (q_moveC rfl rfl rfl) rfl rfl ?_; refine M0 (q_call0 rfl rfl (hc_Base) rfl) rfl rfl ?_; refine M0 (q_assignC rfl rfl rfl) rfl rfl ?_; refine L_nil ?_; refine T_n ?_
    refine A_seq ?_; refine A_seq ?_; refine A_region ?_; refine M0 (q_moveC rfl rfl rfl) rfl rfl ?_; refine M0 (q_lssK rfl rfl rfl rfl (by assumption)) rfl rfl ?_; refine L_nil ?_; refine T_n ?_
    refine A_ifT rfl ?_; refine A_seq ?_; refine A_region ?_; refine M0 (q_assignC rfl rfl rfl) rfl rfl ?_; refine L_nil ?_; refine T_n ?_; refine A_ret ?_; refine T_r ?_; refine F_r ?_
    exact E_tmp rfl rfl (W_end [] (by decide) rfl rfl (I_eq (by rw [szr_neg (by omega)])))
  rw [szr_pos (by omega)] at hc_Base
  have hb_Base : decide (left - Enc.wt x.Tracks - Enc.wt x.Base < 0) = false := decide_eq_false (by omega)
  have hc_Now := sz_World x.Now (left - Enc.wt x.Tracks - Enc.wt x.Base) g_Now (by omega) (by omega)
  by_cases n_Now : left - Enc.wt x.Tracks - Enc.wt x.Base < Enc.wt x.Now
  · rw [szr_neg n_Now] at hc_Now
    refine Con.of Try.func7 rfl Try.ntmps7 rfl (fun E => ?_)
    refine A_seq ?_; refine A_region ?_; refine M1 (q_boxN rfl rfl rfl rfl) rfl rfl ?_; refine M0 (q_assignC rfl rfl rfl) rfl rfl ?_; refine L_nil ?_; refine T_n ?_; refine A_seq ?_
    refine A_region ?_; refine M0 (q_fldp rfl rfl rfl rfl (by decide)) rfl rfl ?_; refine M0 (q_ld1 rfl rfl rfl rfl rfl) rfl rfl ?_; refine M0 (q_moveC rfl rfl rfl) rfl rfl ?_
    refine M0 (q_call0 rfl rfl (hc_Tracks) rfl) rfl rfl ?_; refine M0 (q_assignC rfl rfl rfl) rfl rfl ?_; refine L_nil ?_; refine T_n ?_; refine A_seq ?_; refine A_seq ?_; refine A_region ?_
    refine M0 (q_moveC rfl rfl rfl) rfl rfl ?_; refine M0 (q_lssK rfl rfl rfl rfl (by assumption)) rfl rfl ?_; refine L_nil ?_; refine T_n ?_; refine A_ifF rfl ?_; refine A_skip ?_; refine T_n ?_
    refine A_seq ?_; refine A_region ?_; refine M0 (q_fldp rfl rfl rfl rfl (by decide)) rfl rfl ?_; refine M0 (q_ldN rfl rfl rfl rfl rfl rfl) rfl rfl ?_
    refine M0 (q_moveC rfl rfl rfl) rfl rfl ?_; refine M0 (q_call0 rfl rfl (hc_Base) rfl) rfl rfl ?_; refine M0 (q_assignC rfl rfl rfl) rfl rfl ?_; refine L_nil ?_; refine T_n ?_
    refine A_seq ?_; refine A_seq ?_; refine A_region ?_; refine M0 (q_moveC rfl rfl rfl) rfl rfl ?_; refine M0 (q_lssK rfl rfl rfl rfl (by assumption)) rfl rfl ?_; refine L_nil ?_; refine T_n ?_
    refine A_ifF rfl ?_; refine A_skip ?_; refine T_n ?_; refine A_seq ?_; refine A_region ?_; refine M0 (q_fldp rfl rfl rfl rfl (by decide)) rfl rfl ?_
    refine M0 (q_ldN rfl rfl rfl rfl rfl rfl) rfl rfl ?_; refine M0 (q_moveC rfl rfl rfl) rfl rfl ?_; refine M0 (q_call0 rfl rfl (hc_Now) rfl) rfl rfl ?_
    refine M0 (q_assignC rfl rfl rfl) rfl rfl ?_; refine L_nil ?_; refine T_n ?_; refine A_seq ?_; refine A_seq ?_; refine A_region ?_; refine M0 (q_moveC rfl rfl rfl) rfl rfl ?_
    refine M0 (q_lssK rfl rfl rfl rfl (by assumption)) rfl rfl ?_; refine L_nil ?_; refine T_n ?_; refine A_ifT rfl ?_; refine A_seq ?_; refine A_region ?_
    refine M0 (q_assignC rfl rfl rfl) rfl rfl ?_; refine L_nil ?_; refine T_n ?_; refine A_ret ?_; refine T_r ?_; refine F_r ?_
    exact E_tmp rfl rfl (W_end [] (by decide) rfl rfl (I_eq (by rw [szr_neg (by omega)])))
  rw [szr_pos (by omega)] at hc_Now
  have hb_Now : decide (left - Enc.wt x.Tracks - Enc.wt x.Base - Enc.wt x.Now < 0) = false := decide_eq_false (by omega)
  have hc_Used := sz_IntSS x.Used (left - Enc.wt x.Tracks - Enc.wt x.Base - Enc.wt x.Now) g_Used (by omega) (by omega)
  by_cases n_Used : left - Enc.wt x.Tracks - Enc.wt x.Base - Enc.wt x.Now < Enc.wt x.Used
  · rw [szr_neg n_Used] at hc_Used
    refine Con.of Try.func7 rfl Try.ntmps7 rfl (fun E => ?_)
    refine A_seq ?_; refine A_region ?_; refine M1 (q_boxN rfl rfl rfl rfl) rfl rfl ?_; refine M0 (q_assignC rfl rfl rfl) rfl rfl ?_; refine L_nil ?_; refine T_n ?_; refine A_seq ?_
    refine A_region ?_; refine M0 (q_fldp rfl rfl rfl rfl (by decide)) rfl rfl ?_; refine M0 (q_ld1 rfl rfl rfl rfl rfl) rfl rfl ?_; refine M0 (q_moveC rfl rfl rfl) rfl rfl ?_
    refine M0 (q_call0 rfl rfl (hc_Tracks) rfl) rfl rfl ?_; refine M0 (q_assignC rfl rfl rfl) rfl rfl ?_; refine L_nil ?_; refine T_n ?_; refine A_seq ?_; refine A_seq ?_; refine A_region ?_
    refine M0 (q_moveC rfl rfl rfl) rfl rfl ?_; refine M0 (q_lssK rfl rfl rfl rfl (by assumption)) rfl rfl ?_; refine L_nil ?_; refine T_n ?_; refine A_ifF rfl ?_; refine A_skip ?_; refine T_n ?_
    refine A_seq ?_; refine A_region ?_; refine M0 (q_fldp rfl rfl rfl rfl (by decide)) rfl rfl ?_; refine M0 (q_ldN rfl rfl rfl rfl rfl rfl) rfl rfl ?_
    refine M0 (q_moveC rfl rfl rfl) rfl rfl ?_; refine M0 (q_call0 rfl rfl (hc_Base) rfl) rfl rfl ?_; refine M0 (q_assignC rfl rfl rfl) rfl rfl ?_; refine L_nil ?_; refine T_n ?_
    refine A_seq ?_; refine A_seq ?_; refine A_region ?_; refine M0 (q_moveC rfl rfl rfl) rfl rfl ?_; refine M0 (q_lssK rfl rfl rfl rfl (by assumption)) rfl rfl ?_; refine L_nil ?_; refine T_n ?_
    refine A_ifF rfl ?_; refine A_skip ?_; refine T_n ?_; refine A_seq ?_; refine A_region ?_; refine M0 (q_fldp rfl rfl rfl rfl (by decide)) rfl rfl ?_
    refine M0 (q_ldN rfl rfl rfl rfl rfl rfl) rfl rfl ?_; refine M0 (q_moveC rfl rfl rfl) rfl rfl ?_; refine M0 (q_call0 rfl rfl (hc_Now) rfl) rfl rfl ?_
    refine M0 (q_assignC rfl rfl rfl) rfl rfl ?_; refine L_nil ?_; refine T_n ?_; refine A_seq ?_; refine A_seq ?_; refine A_region ?_; refine M0 (q_moveC rfl rfl rfl) rfl rfl ?_
    refine M0 (q_lssK rfl rfl rfl rfl (by assumption)) rfl rfl ?_; refine L_nil ?_; refine T_n ?_; refine A_ifF rfl ?_; refine A_skip ?_; refine T_n ?_; refine A_seq ?_; refine A_region ?_
    refine M0 (q_fldp rfl rfl rfl rfl (by decide)) rfl rfl ?_; refine M0 (q_ld1 rfl rfl rfl rfl rfl) rfl rfl ?_; refine M0 (q_moveC rfl rfl rfl) rfl rfl ?_
    refine M0 (q_call0 rfl rfl (hc_Used) rfl) rfl rfl ?_; refine M0 (q_assignC rfl rfl rfl) rfl rfl ?_; refine L_nil ?_; refine T_n ?_; refine A_seq ?_; refine A_seq ?_; refine A_region ?_
    refine M0 (q_moveC rfl rfl rfl) rfl rfl ?_; refine M0 (q_lssK rfl rfl rfl rfl (by assumption)) rfl rfl ?_; refine L_nil ?_; refine T_n ?_; refine A_ifT rfl ?_; refine A_seq ?_
    refine A_region ?_; refine M0 (q_assignC rfl rfl rfl) rfl rfl ?_; refine L_nil ?_; refine T_n ?_; refine A_ret ?_; refine T_r ?_; refine F_r ?_
    exact E_tmp rfl rfl (W_end [] (by decide) rfl rfl (I_eq (by rw [szr_neg (by omega)])))
  rw [szr_pos (by omega)] at hc_Used
  have hb_Used : decide (left - Enc.wt x.Tracks - Enc.wt x.Base - Enc.wt x.Now - Enc.wt x.Used < 0) = false := decide_eq_false (by omega)
  have hc_Saves := sz_SaveS x.Saves (left - Enc.wt x.Tracks - Enc.wt x.Base - Enc.wt x.Now - Enc.wt x.Used) g_Saves (by omega) (by omega)
  by_cases n_Saves : left - Enc.wt x.Tracks - Enc.wt x.Base - Enc.wt x.Now - Enc.wt x.Used < Enc.wt x.Saves
  · rw [szr_neg n_Saves] at hc_Saves
    refine Con.of Try.func7 rfl Try.ntmps7 rfl (fun E => ?_)
    refine A_seq ?_; refine A_region ?_; refine M1 (q_boxN rfl rfl rfl rfl) rfl rfl ?_; refine M0 (q_assignC rfl rfl rfl) rfl rfl ?_; refine L_nil ?_; refine T_n ?_; refine A_seq ?_
    refine A_region ?_; refine M0 (q_fldp rfl rfl rfl rfl (by decide)) rfl rfl ?_; refine M0 (q_ld1 rfl rfl rfl rfl rfl) rfl rfl ?_; refine M0 (q_moveC rfl rfl rfl) rfl rfl ?_
    refine M0 (q_call0 rfl rfl (hc_Tracks) rfl) rfl rfl ?_; refine M0 (q_assignC rfl rfl rfl) rfl rfl ?_; refine L_nil ?_; refine T_n ?_; refine A_seq ?_; refine A_seq ?_; refine A_region ?_
    refine M0 (q_moveC rfl rfl rfl) rfl rfl ?_; refine M0 (q_lssK rfl rfl rfl rfl (by assumption)) rfl rfl ?_; refine L_nil ?_; refine T_n ?_; refine A_ifF rfl ?_; refine A_skip ?_; refine T_n ?_
    refine A_seq ?_; refine A_region ?_; refine M0 (q_fldp rfl rfl rfl rfl (by decide)) rfl rfl ?_; refine M0 (q_ldN rfl rfl rfl rfl rfl rfl) rfl rfl ?_
    refine M0 (q_moveC rfl rfl rfl) rfl rfl ?_; refine M0 (q_call0 rfl rfl (hc_Base) rfl) rfl rfl ?_; refine M0 (q_assignC rfl rfl rfl) rfl rfl ?_; refine L_nil ?_; refine T_n ?_
    refine A_seq ?_; refine A_seq ?_; refine A_region ?_; refine M0 (q_moveC rfl rfl rfl) rfl rfl ?_; refine M0 (q_lssK rfl rfl rfl rfl (by assumption)) rfl rfl ?_; refine L_nil ?_; refine T_n ?_
    refine A_ifF rfl ?_; refine A_skip ?_; refine T_n ?_; refine A_seq ?_; refine A_region ?_; refine M0 (q_fldp rfl rfl rfl rfl (by decide)) rfl rfl ?_
    refine M0 (q_ldN rfl rfl rfl rfl rfl rfl) rfl rfl ?_; refine M0 (q_moveC rfl rfl rfl) rfl rfl ?_; refine M0 (q_call0 rfl rfl (hc_Now) rfl) rfl rfl ?_
    refine M0 (q_assignC rfl rfl rfl) rfl rfl ?_; refine L_nil ?_; refine T_n ?_; refine A_seq ?_; refine A_seq ?_; refine A_region ?_; refine M0 (q_moveC rfl rfl rfl) rfl rfl ?_
    refine M0 (q_lssK rfl rfl rfl rfl (by assumption)) rfl rfl ?_; refine L_nil ?_; refine T_n ?_; refine A_ifF rfl ?_; refine A_skip ?_; refine T_n ?_; refine A_seq ?_; refine A_region ?_
    refine M0 (q_fldp rfl rfl rfl rfl (by decide)) rfl rfl ?_; refine M0 (q_ld1 rfl rfl rfl rfl rfl) rfl rfl ?_; refine M0 (q_moveC rfl rfl rfl) rfl rfl ?_
    refine M0 (q_call0 rfl rfl (hc_Used) rfl) rfl rfl ?_; refine M0 (q_assignC rfl rfl rfl) rfl rfl ?_; refine L_nil ?_; refine T_n ?_; refine A_seq ?_; refine A_seq ?_; refine A_region ?_
    refine M0 (q_moveC rfl rfl rfl) rfl rfl ?_; refine M0 (q_lssK rfl rfl rfl rfl (by assumption)) rfl rfl ?_; refine L_nil ?_; refine T_n ?_; refine A_ifF rfl ?_; refine A_skip ?_; refine T_n ?_
    refine A_seq ?_; refine A_region ?_; refine M0 (q_fldp rfl rfl rfl rfl (by decide)) rfl rfl ?_; refine M0 (q_ld1 rfl rfl rfl rfl rfl) rfl rfl ?_; refine M0 (q_moveC rfl rfl rfl) rfl rfl ?_
    refine M0 (q_call0 rfl rfl (hc_Saves) rfl) rfl rfl ?_; refine M0 (q_assignC rfl rfl rfl) rfl rfl ?_; refine L_nil ?_; refine T_n ?_; refine A_seq ?_; refine A_seq ?_; refine A_region ?_
    refine M0 (q_moveC rfl rfl rfl) rfl rfl ?_; refine M0 (q_lssK rfl rfl rfl rfl (by assumption)) rfl rfl ?_; refine L_nil ?_; refine T_n ?_; refine A_ifT rfl ?_; refine A_seq ?_
    refine A_region ?_; refine M0 (q_assignC rfl rfl rfl) rfl rfl ?_; refine L_nil ?_; refine T_n ?_; refine A_ret ?_; refine T_r ?_; refine F_r ?_
    exact E_tmp rfl rfl (W_end [] (by decide) rfl rfl (I_eq (by rw [szr_neg (by omega)])))
  rw [szr_pos (by omega)] at hc_Saves
  have hb_Saves : decide (left - Enc.wt x.Tracks - Enc.wt x.Base - Enc.wt x.Now - Enc.wt x.Used - Enc.wt x.Saves < 0) = false := decide_eq_false (by omega)
  have hc_Sums := sz_IntS x.Sums (left - Enc.wt x.Tracks - Enc.wt x.Base - Enc.wt x.Now - Enc.wt x.Used - Enc.wt x.Saves) g_Sums (by omega) (by omega)
  by_cases n_Sums : left - Enc.wt x.Tracks - Enc.wt x.Base - Enc.wt x.Now - Enc.wt x.Used - Enc.wt x.Saves < Enc.wt x.Sums
  · rw [szr_neg n_Sums] at hc_Sums
    refine Con.of Try.func7 rfl Try.ntmps7 rfl (fun E => ?_)
    refine A_seq ?_; refine A_region ?_; refine M1 (q_boxN rfl rfl rfl rfl) rfl rfl ?_; refine M0 (q_assignC rfl rfl rfl) rfl rfl ?_; refine L_nil ?_; refine T_n ?_; refine A_seq ?_
    refine A_region ?_; refine M0 (q_fldp rfl rfl rfl rfl (by decide)) rfl rfl ?_; refine M0 (q_ld1 rfl rfl rfl rfl rfl) rfl rfl ?_; refine M0 (q_moveC rfl rfl rfl) rfl rfl ?_
    refine M0 (q_call0 rfl rfl (hc_Tracks) rfl) rfl rfl ?_; refine M0 (q_assignC rfl rfl rfl) rfl rfl ?_; refine L_nil ?_; refine T_n ?_; refine A_seq ?_; refine A_seq ?_; refine A_region ?_
    refine M0 (q_moveC rfl rfl rfl) rfl rfl ?_; refine M0 (q_lssK rfl rfl rfl rfl (by assumption)) rfl rfl ?_; refine L_nil ?_; refine T_n ?_; refine A_ifF rfl ?_; refine A_skip ?_; refine T_n ?_
    refine A_seq ?_; refine A_region ?_; refine M0 (q_fldp rfl rfl rfl rfl (by decide)) rfl rfl ?_; refine M0 (q_ldN rfl rfl rfl rfl rfl rfl) rfl rfl ?_
    refine M0 (q_moveC rfl rfl rfl) rfl rfl ?_; refine M0 (q_call0 rfl rfl (hc_Base) rfl) rfl rfl ?_; refine M0 (q_assignC rfl rfl rfl) rfl rfl ?_; refine L_nil ?_; refine T_n ?_
    refine A_seq ?_; refine A_seq ?_; refine A_region ?_; refine M0 (q_moveC rfl rfl rfl) rfl rfl ?_; refine M0 (q_lssK rfl rfl rfl rfl (by assumption)) rfl rfl ?_; refine L_nil ?_; refine T_n ?_
    refine A_ifF rfl ?_; refine A_skip ?_; refine T_n ?_; refine A_seq ?_; refine A_region ?_; refine M0 (q_fldp rfl rfl rfl rfl (by decide)) rfl rfl ?_
    refine M0 (q_ldN rfl rfl rfl rfl rfl rfl) rfl rfl ?_; refine M0 (q_moveC rfl rfl rfl) rfl rfl ?_; refine M0 (q_call0 rfl rfl (hc_Now) rfl) rfl rfl ?_
    refine M0 (q_assignC rfl rfl rfl) rfl rfl ?_; refine L_nil ?_; refine T_n ?_; refine A_seq ?_; refine A_seq ?_; refine A_region ?_; refine M0 (q_moveC rfl rfl rfl) rfl rfl ?_
    refine M0 (q_lssK rfl rfl rfl rfl (by assumption)) rfl rfl ?_; refine L_nil ?_; refine T_n ?_; refine A_ifF rfl ?_; refine A_skip ?_; refine T_n ?_; refine A_seq ?_; refine A_region ?_
    refine M0 (q_fldp rfl rfl rfl rfl (by decide)) rfl rfl ?_; refine M0 (q_ld1 rfl rfl rfl rfl rfl) rfl rfl ?_; refine M0 (q_moveC rfl rfl rfl) rfl rfl ?_
    refine M0 (q_call0 rfl rfl (hc_Used) rfl) rfl rfl ?_; refine M0 (q_assignC rfl rfl rfl) rfl rfl ?_; refine L_nil ?_; refine T_n ?_; refine A_seq ?_; refine A_seq ?_; refine A_region ?_
    refine M0 (q_moveC rfl rfl rfl) rfl rfl ?_; refine M0 (q_lssK rfl rfl rfl rfl (by assumption)) rfl rfl ?_; refine L_nil ?_; refine T_n ?_; refine A_ifF rfl ?_; refine A_skip ?_; refine T_n ?_
    refine A_seq ?_; refine A_region ?_; refine M0 (q_fldp rfl rfl rfl rfl (by decide)) rfl rfl ?_; refine M0 (q_ld1 rfl rfl rfl rfl rfl) rfl rfl ?_; refine M0 (q_moveC rfl rfl rfl) rfl rfl ?_
    refine M0 (q_call0 rfl rfl (hc_Saves) rfl) rfl rfl ?_; refine M0 (q_assignC rfl rfl rfl) rfl rfl ?_; refine L_nil ?_; refine T_n ?_; refine A_seq ?_; refine A_seq ?_; refine A_region ?_
    refine M0 (q_moveC rfl rfl rfl) rfl rfl ?_; refine M0 (q_lssK rfl rfl rfl rfl (by assumption)) rfl rfl ?_; refine L_nil ?_; refine T_n ?_; refine A_ifF rfl ?_; refine A_skip ?_; refine T_n ?_
    refine A_seq ?_; refine A_region ?_; refine M0 (q_fldp rfl rfl rfl rfl (by decide)) rfl rfl ?_; refine M0 (q_ld1 rfl rfl rfl rfl rfl) rfl rfl ?_; refine M0 (q_moveC rfl rfl rfl) rfl rfl ?_
    refine M0 (q_call0 rfl rfl (hc_Sums) rfl) rfl rfl ?_; refine M0 (q_assignC rfl rfl rfl) rfl rfl ?_; refine L_nil ?_; refine T_n ?_; refine A_seq ?_; refine A_seq ?_; refine A_region ?_
    refine M0 (q_moveC rfl rfl rfl) rfl rfl ?_; refine M0 (q_lssK rfl rfl rfl rfl (by assumption)) rfl rfl ?_; refine L_nil ?_; refine T_n ?_; refine A_ifT rfl ?_; refine A_seq ?_
    refine A_region ?_; refine M0 (q_assignC rfl rfl rfl) rfl rfl ?_; refine L_nil ?_; refine T_n ?_; refine A_ret ?_; refine T_r ?_; refine F_r ?_
    exact E_tmp rfl rfl (W_end [] (by decide) rfl rfl (I_eq (by rw [szr_neg (by omega)])))
  rw [szr_pos (by omega)] at hc_Sums
  have hb_Sums : decide (left - Enc.wt x.Tracks - Enc.wt x.Base - Enc.wt x.Now - Enc.wt x.Used - Enc.wt x.Saves - Enc.wt x.Sums < 0) = false := decide_eq_false (by omega)
  refine Con.of Try.func7 rfl Try.ntmps7 rfl (fun E => ?_)
  refine A_seq ?_; refine A_region ?_; refine M1 (q_boxN rfl rfl rfl rfl) rfl rfl ?_; refine M0 (q_assignC rfl rfl rfl) rfl rfl ?_; refine L_nil ?_; refine T_n ?_; refine A_seq ?_
  refine A_region ?_; refine M0 (q_fldp rfl rfl rfl rfl (by decide)) rfl rfl ?_; refine M0 (q_ld1 rfl rfl rfl rfl rfl) rfl rfl ?_; refine M0 (q_moveC rfl rfl rfl) rfl rfl ?_
  refine M0 (q_call0 rfl rfl (hc_Tracks) rfl) rfl rfl ?_; refine M0 (q_assignC rfl rfl rfl) rfl rfl ?_; refine L_nil ?_; refine T_n ?_; refine A_seq ?_; refine A_seq ?_; refine A_region ?_
  refine M0 (q_moveC rfl rfl rfl) rfl rfl ?_; refine M0 (q_lssK rfl rfl rfl rfl (by assumption)) rfl rfl ?_; refine L_nil ?_; refine T_n ?_; refine A_ifF rfl ?_; refine A_skip ?_; refine T_n ?_
  refine A_seq ?_; refine A_region ?_; refine M0 (q_fldp rfl rfl rfl rfl (by decide)) rfl rfl ?_; refine M0 (q_ldN rfl rfl rfl rfl rfl rfl) rfl rfl ?_
  refine M0 (q_moveC rfl rfl rfl) rfl rfl ?_; refine M0 (q_call0 rfl rfl (hc_Base) rfl) rfl rfl ?_; refine M0 (q_assignC rfl rfl rfl) rfl rfl ?_; refine L_nil ?_; refine T_n ?_
  refine A_seq ?_; refine A_seq ?_; refine A_region ?_; refine M0 (q_moveC rfl rfl rfl) rfl rfl ?_; refine M0 (q_lssK rfl rfl rfl rfl (by assumption)) rfl rfl ?_; refine L_nil ?_; refine T_n ?_
  refine A_ifF rfl ?_; refine A_skip ?_; refine T_n ?_; refine A_seq ?_; refine A_region ?_; refine M0 (q_fldp rfl rfl rfl rfl (by decide)) rfl rfl ?_
  refine M0 (q_ldN rfl rfl rfl rfl rfl rfl) rfl rfl ?_; refine M0 (q_moveC rfl rfl rfl) rfl rfl ?_; refine M0 (q_call0 rfl rfl (hc_Now) rfl) rfl rfl ?_
  refine M0 (q_assignC rfl rfl rfl) rfl rfl ?_; refine L_nil ?_; refine T_n ?_; refine A_seq ?_; refine A_seq ?_; refine A_region ?_; refine M0 (q_moveC rfl rfl rfl) rfl rfl ?_
  refine M0 (q_lssK rfl rfl rfl rfl (by assumption)) rfl rfl ?_; refine L_nil ?_; refine T_n ?_; refine A_ifF rfl ?_; refine A_skip ?_; refine T_n ?_; refine A_seq ?_; refine A_region ?_
  refine M0 (q_fldp rfl rfl rfl rfl (by decide)) rfl rfl ?_; refine M0 (q_ld1 rfl rfl rfl rfl rfl) rfl rfl ?_; refine M0 (q_moveC rfl rfl rfl) rfl rfl ?_
  refine M0 (q_call0 rfl rfl (hc_Used) rfl) rfl rfl ?_; refine M0 (q_assignC rfl rfl rfl) rfl rfl ?_; refine L_nil ?_; refine T_n ?_; refine A_seq ?_; refine A_seq ?_; refine A_region ?_
  refine M0 (q_moveC rfl rfl rfl) rfl rfl ?_; refine M0 (q_lssK rfl rfl rfl rfl (by assumption)) rfl rfl ?_; refine L_nil ?_; refine T_n ?_; refine A_ifF rfl ?_; refine A_skip ?_; refine T_n ?_
  refine A_seq ?_; refine A_region ?_; refine M0 (q_fldp rfl rfl rfl rfl (by decide)) rfl rfl ?_; refine M0 (q_ld1 rfl rfl rfl rfl rfl) rfl rfl ?_; refine M0 (q_moveC rfl rfl rfl) rfl rfl ?_
  refine M0 (q_call0 rfl rfl (hc_Saves) rfl) rfl rfl ?_; refine M0 (q_assignC rfl rfl rfl) rfl rfl ?_; refine L_nil ?_; refine T_n ?_; refine A_seq ?_; refine A_seq ?_; refine A_region ?_
  refine M0 (q_moveC rfl rfl rfl) rfl rfl ?_; refine M0 (q_lssK rfl rfl rfl rfl (by assumption)) rfl rfl ?_; refine L_nil ?_; refine T_n ?_; refine A_ifF rfl ?_; refine A_skip ?_; refine T_n ?_
  refine A_seq ?_; refine A_region ?_; refine M0 (q_fldp rfl rfl rfl rfl (by decide)) rfl rfl ?_; refine M0 (q_ld1 rfl rfl rfl rfl rfl) rfl rfl ?_; refine M0 (q_moveC rfl rfl rfl) rfl rfl ?_
  refine M0 (q_call0 rfl rfl (hc_Sums) rfl) rfl rfl ?_; refine M0 (q_assignC rfl rfl rfl) rfl rfl ?_; refine L_nil ?_; refine T_n ?_; refine A_seq ?_; refine A_seq ?_; refine A_region ?_
  refine M0 (q_moveC rfl rfl rfl) rfl rfl ?_; refine M0 (q_lssK rfl rfl rfl rfl (by assumption)) rfl rfl ?_; refine L_nil ?_; refine T_n ?_; refine A_ifF rfl ?_; refine A_skip ?_; refine T_n ?_
  refine A_seq ?_; refine A_region ?_; refine M0 (q_moveC rfl rfl rfl) rfl rfl ?_; refine M0 (q_assignC rfl rfl rfl) rfl rfl ?_; refine L_nil ?_; refine T_n ?_; refine A_ret ?_; refine F_r ?_
  exact E_tmp rfl rfl (W_end [] (by decide) rfl rfl (I_eq (by rw [szr_pos (by omega)]; omega)))
set_option maxHeartbeats 2000000 in
theorem eq_Peer (x y : TPeer) (hg : Enc.gd x) : Con Try.prog 11 [] [ag x, ag y] [] (B (decide (x = y))) := by
  obtain ⟨g_Me, g_Delay, g_Ahead, g_Seed, g_Tracks, g_Base, g_Now, g_Used, g_Saves, g_Sums, g_Fault, g_Rolls, g_Again⟩ := hg
  by_cases e_Me : ¬ x.Me = y.Me
  · have hk : decide (x.Me ≠ y.Me) = true := by simp [e_Me]
    refine Con.of Try.func11 rfl Try.ntmps11 rfl (fun E => ?_)
    refine A_seq ?_; refine A_region ?_; refine M1 (q_boxN rfl rfl rfl rfl) rfl rfl ?_; refine M1 (q_boxN rfl rfl rfl rfl) rfl rfl ?_; refine M0 (q_assignC rfl rfl rfl) rfl rfl ?_
    refine L_nil ?_; refine T_n ?_; refine A_seq ?_; refine A_seq ?_; refine A_region ?_; refine M0 (q_fldp rfl rfl rfl rfl (by decide)) rfl rfl ?_
    refine M0 (q_ld1 rfl rfl rfl rfl rfl) rfl rfl ?_; refine M0 (q_fldp rfl rfl rfl rfl (by decide)) rfl rfl ?_; refine M0 (q_ld1 rfl rfl rfl rfl rfl) rfl rfl ?_
    refine M0 (q_neqK rfl rfl rfl rfl (by assumption)) rfl rfl ?_; refine L_nil ?_; refine T_n ?_; refine A_ifT rfl ?_; refine A_seq ?_; refine A_region ?_
    refine M0 (q_assignC rfl rfl rfl) rfl rfl ?_; refine L_nil ?_; refine T_n ?_; refine A_ret ?_; refine T_r ?_; refine F_r ?_
    exact E_tmp rfl rfl (W_end [] (by decide) rfl rfl (B_eq (decide_eq_false fun e => e_Me (by rw [e])).symm))
  have e_Me := Classical.not_not.1 e_Me
  have k_Me : decide (x.Me ≠ y.Me) = false := by simp [e_Me]
  by_cases e_Delay : ¬ x.Delay = y.Delay
  · have hk : decide (x.Delay ≠ y.Delay) = true := by simp [e_Delay]
    refine Con.of Try.func11 rfl Try.ntmps11 rfl (fun E => ?_)
    refine A_seq ?_; refine A_region ?_; refine M1 (q_boxN rfl rfl rfl rfl) rfl rfl ?_; refine M1 (q_boxN rfl rfl rfl rfl) rfl rfl ?_; refine M0 (q_assignC rfl rfl rfl) rfl rfl ?_
    refine L_nil ?_; refine T_n ?_; refine A_seq ?_; refine A_seq ?_; refine A_region ?_; refine M0 (q_fldp rfl rfl rfl rfl (by decide)) rfl rfl ?_
    refine M0 (q_ld1 rfl rfl rfl rfl rfl) rfl rfl ?_; refine M0 (q_fldp rfl rfl rfl rfl (by decide)) rfl rfl ?_; refine M0 (q_ld1 rfl rfl rfl rfl rfl) rfl rfl ?_
    refine M0 (q_neqK rfl rfl rfl rfl (by assumption)) rfl rfl ?_; refine L_nil ?_; refine T_n ?_; refine A_ifF rfl ?_; refine A_skip ?_; refine T_n ?_; refine A_seq ?_; refine A_seq ?_
    refine A_region ?_; refine M0 (q_fldp rfl rfl rfl rfl (by decide)) rfl rfl ?_; refine M0 (q_ld1 rfl rfl rfl rfl rfl) rfl rfl ?_; refine M0 (q_fldp rfl rfl rfl rfl (by decide)) rfl rfl ?_
    refine M0 (q_ld1 rfl rfl rfl rfl rfl) rfl rfl ?_; refine M0 (q_neqK rfl rfl rfl rfl (by assumption)) rfl rfl ?_; refine L_nil ?_; refine T_n ?_; refine A_ifT rfl ?_; refine A_seq ?_
    refine A_region ?_; refine M0 (q_assignC rfl rfl rfl) rfl rfl ?_; refine L_nil ?_; refine T_n ?_; refine A_ret ?_; refine T_r ?_; refine F_r ?_
    exact E_tmp rfl rfl (W_end [] (by decide) rfl rfl (B_eq (decide_eq_false fun e => e_Delay (by rw [e])).symm))
  have e_Delay := Classical.not_not.1 e_Delay
  have k_Delay : decide (x.Delay ≠ y.Delay) = false := by simp [e_Delay]
  by_cases e_Ahead : ¬ x.Ahead = y.Ahead
  · have hk : decide (x.Ahead ≠ y.Ahead) = true := by simp [e_Ahead]
    refine Con.of Try.func11 rfl Try.ntmps11 rfl (fun E => ?_)
    refine A_seq ?_; refine A_region ?_; refine M1 (q_boxN rfl rfl rfl rfl) rfl rfl ?_; refine M1 (q_boxN rfl rfl rfl rfl) rfl rfl ?_; refine M0 (q_assignC rfl rfl rfl) rfl rfl ?_
    refine L_nil ?_; refine T_n ?_; refine A_seq ?_; refine A_seq ?_; refine A_region ?_; refine M0 (q_fldp rfl rfl rfl rfl (by decide)) rfl rfl ?_
    refine M0 (q_ld1 rfl rfl rfl rfl rfl) rfl rfl ?_; refine M0 (q_fldp rfl rfl rfl rfl (by decide)) rfl rfl ?_; refine M0 (q_ld1 rfl rfl rfl rfl rfl) rfl rfl ?_
    refine M0 (q_neqK rfl rfl rfl rfl (by assumption)) rfl rfl ?_; refine L_nil ?_; refine T_n ?_; refine A_ifF rfl ?_; refine A_skip ?_; refine T_n ?_; refine A_seq ?_; refine A_seq ?_
    refine A_region ?_; refine M0 (q_fldp rfl rfl rfl rfl (by decide)) rfl rfl ?_; refine M0 (q_ld1 rfl rfl rfl rfl rfl) rfl rfl ?_; refine M0 (q_fldp rfl rfl rfl rfl (by decide)) rfl rfl ?_
    refine M0 (q_ld1 rfl rfl rfl rfl rfl) rfl rfl ?_; refine M0 (q_neqK rfl rfl rfl rfl (by assumption)) rfl rfl ?_; refine L_nil ?_; refine T_n ?_; refine A_ifF rfl ?_; refine A_skip ?_
    refine T_n ?_; refine A_seq ?_; refine A_seq ?_; refine A_region ?_; refine M0 (q_fldp rfl rfl rfl rfl (by decide)) rfl rfl ?_; refine M0 (q_ld1 rfl rfl rfl rfl rfl) rfl rfl ?_
    refine M0 (q_fldp rfl rfl rfl rfl (by decide)) rfl rfl ?_; refine M0 (q_ld1 rfl rfl rfl rfl rfl) rfl rfl ?_; refine M0 (q_neqK rfl rfl rfl rfl (by assumption)) rfl rfl ?_
    refine L_nil ?_; refine T_n ?_; refine A_ifT rfl ?_; refine A_seq ?_; refine A_region ?_; refine M0 (q_assignC rfl rfl rfl) rfl rfl ?_; refine L_nil ?_; refine T_n ?_; refine A_ret ?_; refine T_r ?_
    refine F_r ?_
    exact E_tmp rfl rfl (W_end [] (by decide) rfl rfl (B_eq (decide_eq_false fun e => e_Ahead (by rw [e])).symm))
  have e_Ahead := Classical.not_not.1 e_Ahead
  have k_Ahead : decide (x.Ahead ≠ y.Ahead) = false := by simp [e_Ahead]
  by_cases e_Seed : ¬ x.Seed = y.Seed
  · have hk : decide (x.Seed ≠ y.Seed) = true := by simp [e_Seed]
    refine Con.of Try.func11 rfl Try.ntmps11 rfl (fun E => ?_)
    refine A_seq ?_; refine A_region ?_; refine M1 (q_boxN rfl rfl rfl rfl) rfl rfl ?_; refine M1 (q_boxN rfl rfl rfl rfl) rfl rfl ?_; refine M0 (q_assignC rfl rfl rfl) rfl rfl ?_
    refine L_nil ?_; refine T_n ?_; refine A_seq ?_; refine A_seq ?_; refine A_region ?_; refine M0 (q_fldp rfl rfl rfl rfl (by decide)) rfl rfl ?_
    refine M0 (q_ld1 rfl rfl rfl rfl rfl) rfl rfl ?_; refine M0 (q_fldp rfl rfl rfl rfl (by decide)) rfl rfl ?_; refine M0 (q_ld1 rfl rfl rfl rfl rfl) rfl rfl ?_
    refine M0 (q_neqK rfl rfl rfl rfl (by assumption)) rfl rfl ?_; refine L_nil ?_; refine T_n ?_; refine A_ifF rfl ?_; refine A_skip ?_; refine T_n ?_; refine A_seq ?_; refine A_seq ?_
    refine A_region ?_; refine M0 (q_fldp rfl rfl rfl rfl (by decide)) rfl rfl ?_; refine M0 (q_ld1 rfl rfl rfl rfl rfl) rfl rfl ?_; refine M0 (q_fldp rfl rfl rfl rfl (by decide)) rfl rfl ?_
    refine M0 (q_ld1 rfl rfl rfl rfl rfl) rfl rfl ?_; refine M0 (q_neqK rfl rfl rfl rfl (by assumption)) rfl rfl ?_; refine L_nil ?_; refine T_n ?_; refine A_ifF rfl ?_; refine A_skip ?_
    refine T_n ?_; refine A_seq ?_; refine A_seq ?_; refine A_region ?_; refine M0 (q_fldp rfl rfl rfl rfl (by decide)) rfl rfl ?_; refine M0 (q_ld1 rfl rfl rfl rfl rfl) rfl rfl ?_
    refine M0 (q_fldp rfl rfl rfl rfl (by decide)) rfl rfl ?_; refine M0 (q_ld1 rfl rfl rfl rfl rfl) rfl rfl ?_; refine M0 (q_neqK rfl rfl rfl rfl (by assumption)) rfl rfl ?_
    refine L_nil ?_; refine T_n ?_; refine A_ifF rfl ?_; refine A_skip ?_; refine T_n ?_; refine A_seq ?_; refine A_seq ?_; refine A_region ?_
    refine M0 (q_fldp rfl rfl rfl rfl (by decide)) rfl rfl ?_; refine M0 (q_ld1 rfl rfl rfl rfl rfl) rfl rfl ?_; refine M0 (q_fldp rfl rfl rfl rfl (by decide)) rfl rfl ?_
    refine M0 (q_ld1 rfl rfl rfl rfl rfl) rfl rfl ?_; refine M0 (q_neqK rfl rfl rfl rfl (by assumption)) rfl rfl ?_; refine L_nil ?_; refine T_n ?_; refine A_ifT rfl ?_; refine A_seq ?_
    refine A_region ?_; refine M0 (q_assignC rfl rfl rfl) rfl rfl ?_; refine L_nil ?_; refine T_n ?_; refine A_ret ?_; refine T_r ?_; refine F_r ?_
    exact E_tmp rfl rfl (W_end [] (by decide) rfl rfl (B_eq (decide_eq_false fun e => e_Seed (by rw [e])).symm))
  have e_Seed := Classical.not_not.1 e_Seed
  have k_Seed : decide (x.Seed ≠ y.Seed) = false := by simp [e_Seed]
  by_cases e_Tracks : ¬ x.Tracks = y.Tracks
  · have hc := eq_TrackS x.Tracks y.Tracks g_Tracks
    rw [decide_eq_false e_Tracks] at hc
    refine Con.of Try.func11 rfl Try.ntmps11 rfl (fun E => ?_)
    refine A_seq ?_; refine A_region ?_; refine M1 (q_boxN rfl rfl rfl rfl) rfl rfl ?_; refine M1 (q_boxN rfl rfl rfl rfl) rfl rfl ?_; refine M0 (q_assignC rfl rfl rfl) rfl rfl ?_
    refine L_nil ?_; refine T_n ?_; refine A_seq ?_; refine A_seq ?_; refine A_region ?_; refine M0 (q_fldp rfl rfl rfl rfl (by decide)) rfl rfl ?_
    refine M0 (q_ld1 rfl rfl rfl rfl rfl) rfl rfl ?_; refine M0 (q_fldp rfl rfl rfl rfl (by decide)) rfl rfl ?_; refine M0 (q_ld1 rfl rfl rfl rfl rfl) rfl rfl ?_
    refine M0 (q_neqK rfl rfl rfl rfl (by assumption)) rfl rfl ?_; refine L_nil ?_; refine T_n ?_; refine A_ifF rfl ?_; refine A_skip ?_; refine T_n ?_; refine A_seq ?_; refine A_seq ?_
    refine A_region ?_; refine M0 (q_fldp rfl rfl rfl rfl (by decide)) rfl rfl ?_; refine M0 (q_ld1 rfl rfl rfl rfl rfl) rfl rfl ?_; refine M0 (q_fldp rfl rfl rfl rfl (by decide)) rfl rfl ?_
    refine M0 (q_ld1 rfl rfl rfl rfl rfl) rfl rfl ?_; refine M0 (q_neqK rfl rfl rfl rfl (by assumption)) rfl rfl ?_; refine L_nil ?_; refine T_n ?_; refine A_ifF rfl ?_; refine A_skip ?_
    refine T_n ?_; refine A_seq ?_; refine A_seq ?_; refine A_region ?_; refine M0 (q_fldp rfl rfl rfl rfl (by decide)) rfl rfl ?_; refine M0 (q_ld1 rfl rfl rfl rfl rfl) rfl rfl ?_
    refine M0 (q_fldp rfl rfl rfl rfl (by decide)) rfl rfl ?_; refine M0 (q_ld1 rfl rfl rfl rfl rfl) rfl rfl ?_; refine M0 (q_neqK rfl rfl rfl rfl (by assumption)) rfl rfl ?_
    refine L_nil ?_; refine T_n ?_; refine A_ifF rfl ?_; refine A_skip ?_; refine T_n ?_; refine A_seq ?_; refine A_seq ?_; refine A_region ?_
    refine M0 (q_fldp rfl rfl rfl rfl (by decide)) rfl rfl ?_; refine M0 (q_ld1 rfl rfl rfl rfl rfl) rfl rfl ?_; refine M0 (q_fldp rfl rfl rfl rfl (by decide)) rfl rfl ?_
    refine M0 (q_ld1 rfl rfl rfl rfl rfl) rfl rfl ?_; refine M0 (q_neqK rfl rfl rfl rfl (by assumption)) rfl rfl ?_; refine L_nil ?_; refine T_n ?_; refine A_ifF rfl ?_; refine A_skip ?_
    refine T_n ?_; refine A_seq ?_; refine A_seq ?_; refine A_region ?_; refine M0 (q_fldp rfl rfl rfl rfl (by decide)) rfl rfl ?_; refine M0 (q_ld1 rfl rfl rfl rfl rfl) rfl rfl ?_
    refine M0 (q_fldp rfl rfl rfl rfl (by decide)) rfl rfl ?_; refine M0 (q_ld1 rfl rfl rfl rfl rfl) rfl rfl ?_; refine M0 (q_call0 rfl rfl (hc) rfl) rfl rfl ?_
    refine M0 (q_not rfl rfl rfl) rfl rfl ?_; refine L_nil ?_; refine T_n ?_; refine A_ifT rfl ?_; refine A_seq ?_; refine A_region ?_; refine M0 (q_assignC rfl rfl rfl) rfl rfl ?_; refine L_nil ?_
    refine T_n ?_; refine A_ret ?_; refine T_r ?_; refine F_r ?_
    exact E_tmp rfl rfl (W_end [] (by decide) rfl rfl (B_eq (decide_eq_false fun e => e_Tracks (by rw [e])).symm))
  have e_Tracks := Classical.not_not.1 e_Tracks
  have hc_Tracks := eq_TrackS x.Tracks y.Tracks g_Tracks
  rw [decide_eq_true e_Tracks] at hc_Tracks
  by_cases e_Base : ¬ x.Base = y.Base
  · have hc := eq_World x.Base y.Base g_Base
    rw [decide_eq_false e_Base] at hc
    refine Con.of Try.func11 rfl Try.ntmps11 rfl (fun E => ?_)
    refine A_seq ?_; refine A_region ?_; refine M1 (q_boxN rfl rfl rfl rfl) rfl rfl ?_; refine M1 (q_boxN rfl rfl rfl rfl) rfl rfl ?_; refine M0 (q_assignC rfl rfl rfl) rfl rfl ?_
    refine L_nil ?_; refine T_n ?_; refine A_seq ?_; refine A_seq ?_; refine A_region ?_; refine M0 (q_fldp rfl rfl rfl rfl (by decide)) rfl rfl ?_
    refine M0 (q_ld1 rfl rfl rfl rfl rfl) rfl rfl ?_; refine M0 (q_fldp rfl rfl rfl rfl (by decide)) rfl rfl ?_; refine M0 (q_ld1 rfl rfl rfl rfl rfl) rfl rfl ?_
    refine M0 (q_neqK rfl rfl rfl rfl (by assumption)) rfl rfl ?_; refine L_nil ?_; refine T_n ?_; refine A_ifF rfl ?_; refine A_skip ?_; refine T_n ?_; refine A_seq ?_; refine A_seq ?_
    refine A_region ?_; refine M0 (q_fldp rfl rfl rfl rfl (by decide)) rfl rfl ?_; refine M0 (q_ld1 rfl rfl rfl rfl rfl) rfl rfl ?_; refine M0 (q_fldp rfl rfl rfl rfl (by decide)) rfl rfl ?_
    refine M0 (q_ld1 rfl rfl rfl rfl rfl) rfl rfl ?_; refine M0 (q_neqK rfl rfl rfl rfl (by assumption)) rfl rfl ?_; refine L_nil ?_; refine T_n ?_; refine A_ifF rfl ?_; refine A_skip ?_
    refine T_n ?_; refine A_seq ?_; refine A_seq ?_; refine A_region ?_; refine M0 (q_fldp rfl rfl rfl rfl (by decide)) rfl rfl ?_; refine M0 (q_ld1 rfl rfl rfl rfl rfl) rfl rfl ?_
    refine M0 (q_fldp rfl rfl rfl rfl (by decide)) rfl rfl ?_; refine M0 (q_ld1 rfl rfl rfl rfl rfl) rfl rfl ?_; refine M0 (q_neqK rfl rfl rfl rfl (by assumption)) rfl rfl ?_
    refine L_nil ?_; refine T_n ?_; refine A_ifF rfl ?_; refine A_skip ?_; refine T_n ?_; refine A_seq ?_; refine A_seq ?_; refine A_region ?_
    refine M0 (q_fldp rfl rfl rfl rfl (by decide)) rfl rfl ?_; refine M0 (q_ld1 rfl rfl rfl rfl rfl) rfl rfl ?_; refine M0 (q_fldp rfl rfl rfl rfl (by decide)) rfl rfl ?_
    refine M0 (q_ld1 rfl rfl rfl rfl rfl) rfl rfl ?_; refine M0 (q_neqK rfl rfl rfl rfl (by assumption)) rfl rfl ?_; refine L_nil ?_; refine T_n ?_; refine A_ifF rfl ?_; refine A_skip ?_
    refine T_n ?_; refine A_seq ?_; refine A_seq ?_; refine A_region ?_; refine M0 (q_fldp rfl rfl rfl rfl (by decide)) rfl rfl ?_; refine M0 (q_ld1 rfl rfl rfl rfl rfl) rfl rfl ?_
    refine M0 (q_fldp rfl rfl rfl rfl (by decide)) rfl rfl ?_; refine M0 (q_ld1 rfl rfl rfl rfl rfl) rfl rfl ?_; refine M0 (q_call0 rfl rfl (hc_Tracks) rfl) rfl rfl ?_
    refine M0 (q_not rfl rfl rfl) rfl rfl ?_; refine L_nil ?_; refine T_n ?_; refine A_ifF rfl ?_; refine A_skip ?_; refine T_n ?_; refine A_seq ?_; refine A_seq ?_; refine A_region ?_
    refine M0 (q_fldp rfl rfl rfl rfl (by decide)) rfl rfl ?_; refine M0 (q_ldN rfl rfl rfl rfl rfl rfl) rfl rfl ?_; refine M0 (q_fldp rfl rfl rfl rfl (by decide)) rfl rfl ?_
    refine M0 (q_ldN rfl rfl rfl rfl rfl rfl) rfl rfl ?_; refine M0 (q_call0 rfl rfl (hc) rfl) rfl rfl ?_; refine M0 (q_not rfl rfl rfl) rfl rfl ?_; refine L_nil ?_; refine T_n ?_
    refine A_ifT rfl ?_; refine A_seq ?_; refine A_region ?_; refine M0 (q_assignC rfl rfl rfl) rfl rfl ?_; refine L_nil ?_; refine T_n ?_; refine A_ret ?_; refine T_r ?_; refine F_r ?_
    exact E_tmp rfl rfl (W_end [] (by decide) rfl rfl (B_eq (decide_eq_false fun e => e_Base (by rw [e])).symm))
  have e_Base := Classical.not_not.1 e_Base
  have hc_Base := eq_World x.Base y.Base g_Base
  rw [decide_eq_true e_Base] at hc_Base
  by_cases e_Now : ¬ x.Now = y.Now
  · have hc := eq_World x.Now y.Now g_Now
    rw [decide_eq_false e_Now] at hc
    refine Con.of Try.func11 rfl Try.ntmps11 rfl (fun E => ?_)
    refine A_seq ?_; refine A_region ?_; refine M1 (q_boxN rfl rfl rfl rfl) rfl rfl ?_; refine M1 (q_boxN rfl rfl rfl rfl) rfl rfl ?_; refine M0 (q_assignC rfl rfl rfl) rfl rfl ?_
    refine L_nil ?_; refine T_n ?_; refine A_seq ?_; refine A_seq ?_; refine A_region ?_; refine M0 (q_fldp rfl rfl rfl rfl (by decide)) rfl rfl ?_
    refine M0 (q_ld1 rfl rfl rfl rfl rfl) rfl rfl ?_; refine M0 (q_fldp rfl rfl rfl rfl (by decide)) rfl rfl ?_; refine M0 (q_ld1 rfl rfl rfl rfl rfl) rfl rfl ?_
    refine M0 (q_neqK rfl rfl rfl rfl (by assumption)) rfl rfl ?_; refine L_nil ?_; refine T_n ?_; refine A_ifF rfl ?_; refine A_skip ?_; refine T_n ?_; refine A_seq ?_; refine A_seq ?_
    refine A_region ?_; refine M0 (q_fldp rfl rfl rfl rfl (by decide)) rfl rfl ?_; refine M0 (q_ld1 rfl rfl rfl rfl rfl) rfl rfl ?_; refine M0 (q_fldp rfl rfl rfl rfl (by decide)) rfl rfl ?_
    refine M0 (q_ld1 rfl rfl rfl rfl rfl) rfl rfl ?_; refine M0 (q_neqK rfl rfl rfl rfl (by assumption)) rfl rfl ?_; refine L_nil ?_; refine T_n ?_; refine A_ifF rfl ?_; refine A_skip ?_
    refine T_n ?_; refine A_seq ?_; refine A_seq ?_; refine A_region ?_; refine M0 (q_fldp rfl rfl rfl rfl (by decide)) rfl rfl ?_; refine M0 (q_ld1 rfl rfl rfl rfl rfl) rfl rfl ?_
    refine M0 (q_fldp rfl rfl rfl rfl (by decide)) rfl rfl ?_; refine M0 (q_ld1 rfl rfl rfl rfl rfl) rfl rfl ?_; refine M0 (q_neqK rfl rfl rfl rfl (by assumption)) rfl rfl ?_
    refine L_nil ?_; refine T_n ?_; refine A_ifF rfl ?_; refine A_skip ?_; refine T_n ?_; refine A_seq ?_; refine A_seq ?_; refine A_region ?_
    refine M0 (q_fldp rfl rfl rfl rfl (by decide)) rfl rfl ?_; refine M0 (q_ld1 rfl rfl rfl rfl rfl) rfl rfl ?_; refine M0 (q_fldp rfl rfl rfl rfl (by decide)) rfl rfl ?_
    refine M0 (q_ld1 rfl rfl rfl rfl rfl) rfl rfl ?_; refine M0 (q_neqK rfl rfl rfl rfl (by assumption)) rfl rfl ?_; refine L_nil ?_; refine T_n ?_; refine A_ifF rfl ?_; refine A_skip ?_
    refine T_n ?_; refine A_seq ?_; refine A_seq ?_; refine A_region ?_; refine M0 (q_fldp rfl rfl rfl rfl (by decide)) rfl rfl ?_; refine M0 (q_ld1 rfl rfl rfl rfl rfl) rfl rfl ?_
    refine M0 (q_fldp rfl rfl rfl rfl (by decide)) rfl rfl ?_; refine M0 (q_ld1 rfl rfl rfl rfl rfl) rfl rfl ?_; refine M0 (q_call0 rfl rfl (hc_Tracks) rfl) rfl rfl ?_
    refine M0 (q_not rfl rfl rfl) rfl rfl ?_; refine L_nil ?_; refine T_n ?_; refine A_ifF rfl ?_; refine A_skip ?_; refine T_n ?_; refine A_seq ?_; refine A_seq ?_; refine A_region ?_
    refine M0 (q_fldp rfl rfl rfl rfl (by decide)) rfl rfl ?_; refine M0 (q_ldN rfl rfl rfl rfl rfl rfl) rfl rfl ?_; refine M0 (q_fldp rfl rfl rfl rfl (by decide)) rfl rfl ?_
    refine M0 (q_ldN rfl rfl rfl rfl rfl rfl) rfl rfl ?_; refine M0 (q_call0 rfl rfl (hc_Base) rfl) rfl rfl ?_; refine M0 (q_not rfl rfl rfl) rfl rfl ?_; refine L_nil ?_; refine T_n ?_
    refine A_ifF rfl ?_; refine A_skip ?_; refine T_n ?_; refine A_seq ?_; refine A_seq ?_; refine A_region ?_; refine M0 (q_fldp rfl rfl rfl rfl (by decide)) rfl rfl ?_
    refine M0 (q_ldN rfl rfl rfl rfl rfl rfl) rfl rfl ?_; refine M0 (q_fldp rfl rfl rfl rfl (by decide)) rfl rfl ?_; refine M0 (q_ldN rfl rfl rfl rfl rfl rfl) rfl rfl ?_
    refine M0 (q_call0 rfl rfl (hc) rfl) rfl rfl ?_; refine M0 (q_not rfl rfl rfl) rfl rfl ?_; refine L_nil ?_; refine T_n ?_; refine A_ifT rfl ?_; refine A_seq ?_; refine A_region ?_
    refine M0 (q_assignC rfl rfl rfl) rfl rfl ?_; refine L_nil ?_; refine T_n ?_; refine A_ret ?_; refine T_r ?_; refine F_r ?_
    exact E_tmp rfl rfl (W_end [] (by decide) rfl rfl (B_eq (decide_eq_false fun e => e_Now (by rw [e])).symm))
  have e_Now := Classical.not_not.1 e_Now
  have hc_Now := eq_World x.Now y.Now g_Now
  rw [decide_eq_true e_Now] at hc_Now
  by_cases e_Used : ¬ x.Used = y.Used
  · have hc := eq_IntSS x.Used y.Used g_Used
    rw [decide_eq_false e_Used] at hc
    refine Con.of Try.func11 rfl Try.ntmps11 rfl (fun E => ?_)
    refine A_seq ?_; refine A_region ?_; refine M1 (q_boxN rfl rfl rfl rfl) rfl rfl ?_; refine M1 (q_boxN rfl rfl rfl rfl) rfl rfl ?_; refine M0 (q_assignC rfl rfl rfl) rfl rfl ?_
    refine L_nil ?_; refine T_n ?_; refine A_seq ?_; refine A_seq ?_; refine A_region ?_; refine M0 (q_fldp rfl rfl rfl rfl (by decide)) rfl rfl ?_
    refine M0 (q_ld1 rfl rfl rfl rfl rfl) rfl rfl ?_; refine M0 (q_fldp rfl rfl rfl rfl (by decide)) rfl rfl ?_; refine M0 (q_ld1 rfl rfl rfl rfl rfl) rfl rfl ?_
    refine M0 (q_neqK rfl rfl rfl rfl (by assumption)) rfl rfl ?_; refine L_nil ?_; refine T_n ?_; refine A_ifF rfl ?_; refine A_skip ?_; refine T_n ?_; refine A_seq ?_; refine A_seq ?_
    refine A_region ?_; refine M0 (q_fldp rfl rfl rfl rfl (by decide)) rfl rfl ?_; refine M0 (q_ld1 rfl rfl rfl rfl rfl) rfl rfl ?_; refine M0 (q_fldp rfl rfl rfl rfl (by decide)) rfl rfl ?_
    refine M0 (q_ld1 rfl rfl rfl rfl rfl) rfl rfl ?_; refine M0 (q_neqK rfl rfl rfl rfl (by assumption)) rfl rfl ?_; refine L_nil ?_; refine T_n ?_; refine A_ifF rfl ?_; refine A_skip ?_
    refine T_n ?_; refine A_seq ?_; refine A_seq ?_; refine A_region ?_; refine M0 (q_fldp rfl rfl rfl rfl (by decide)) rfl rfl ?_; refine M0 (q_ld1 rfl rfl rfl rfl rfl) rfl rfl ?_
    refine M0 (q_fldp rfl rfl rfl rfl (by decide)) rfl rfl ?_; refine M0 (q_ld1 rfl rfl rfl rfl rfl) rfl rfl ?_; refine M0 (q_neqK rfl rfl rfl rfl (by assumption)) rfl rfl ?_
    refine L_nil ?_; refine T_n ?_; refine A_ifF rfl ?_; refine A_skip ?_; refine T_n ?_; refine A_seq ?_; refine A_seq ?_; refine A_region ?_
    refine M0 (q_fldp rfl rfl rfl rfl (by decide)) rfl rfl ?_; refine M0 (q_ld1 rfl rfl rfl rfl rfl) rfl rfl ?_; refine M0 (q_fldp rfl rfl rfl rfl (by decide)) rfl rfl ?_
    refine M0 (q_ld1 rfl rfl rfl rfl rfl) rfl rfl ?_; refine M0 (q_neqK rfl rfl rfl rfl (by assumption)) rfl rfl ?_; refine L_nil ?_; refine T_n ?_; refine A_ifF rfl ?_; refine A_skip ?_
    refine T_n ?_; refine A_seq ?_; refine A_seq ?_; refine A_region ?_; refine M0 (q_fldp rfl rfl rfl rfl (by decide)) rfl rfl ?_; refine M0 (q_ld1 rfl rfl rfl rfl rfl) rfl rfl ?_
    refine M0 (q_fldp rfl rfl rfl rfl (by decide)) rfl rfl ?_; refine M0 (q_ld1 rfl rfl rfl rfl rfl) rfl rfl ?_; refine M0 (q_call0 rfl rfl (hc_Tracks) rfl) rfl rfl ?_
    refine M0 (q_not rfl rfl rfl) rfl rfl ?_; refine L_nil ?_; refine T_n ?_; refine A_ifF rfl ?_; refine A_skip ?_; refine T_n ?_; refine A_seq ?_; refine A_seq ?_; refine A_region ?_
    refine M0 (q_fldp rfl rfl rfl rfl (by decide)) rfl rfl ?_; refine M0 (q_ldN rfl rfl rfl rfl rfl rfl) rfl rfl ?_; refine M0 (q_fldp rfl rfl rfl rfl (by decide)) rfl rfl ?_
    refine M0 (q_ldN rfl rfl rfl rfl rfl rfl) rfl rfl ?_; refine M0 (q_call0 rfl rfl (hc_Base) rfl) rfl rfl ?_; refine M0 (q_not rfl rfl rfl) rfl rfl ?_; refine L_nil ?_; refine T_n ?_
    refine A_ifF rfl ?_; refine A_skip ?_; refine T_n ?_; refine A_seq ?_; refine A_seq ?_; refine A_region ?_; refine M0 (q_fldp rfl rfl rfl rfl (by decide)) rfl rfl ?_
    refine M0 (q_ldN rfl rfl rfl rfl rfl rfl) rfl rfl ?_; refine M0 (q_fldp rfl rfl rfl rfl (by decide)) rfl rfl ?_; refine M0 (q_ldN rfl rfl rfl rfl rfl rfl) rfl rfl ?_
    refine M0 (q_call0 rfl rfl (hc_Now) rfl) rfl rfl ?_; refine M0 (q_not rfl rfl rfl) rfl rfl ?_; refine L_nil ?_; refine T_n ?_; refine A_ifF rfl ?_; refine A_skip ?_; refine T_n ?_
    refine A_seq ?_; refine A_seq ?_; refine A_region ?_; refine M0 (q_fldp rfl rfl rfl rfl (by decide)) rfl rfl ?_; refine M0 (q_ld1 rfl rfl rfl rfl rfl) rfl rfl ?_
    refine M0 (q_fldp rfl rfl rfl rfl (by decide)) rfl rfl ?_; refine M0 (q_ld1 rfl rfl rfl rfl rfl) rfl rfl ?_; refine M0 (q_call0 rfl rfl (hc) rfl) rfl rfl ?_
    refine M0 (q_not rfl rfl rfl) rfl rfl ?_; refine L_nil ?_; refine T_n ?_; refine A_ifT rfl ?_; refine A_seq ?_; refine A_region ?_; refine M0 (q_assignC rfl rfl rfl) rfl rfl ?_; refine L_nil ?_
    refine T_n ?_; refine A_ret ?_; refine T_r ?_; refine F_r ?_
    exact E_tmp rfl rfl (W_end [] (by decide) rfl rfl (B_eq (decide_eq_false fun e => e_Used (by rw [e])).symm))
  have e_Used := Classical.not_not.1 e_Used
  have hc_Used := eq_IntSS x.Used y.Used g_Used
  rw [decide_eq_true e_Used] at hc_Used
  by_cases e_Saves : ¬ x.Saves = y.Saves
  · have hc := eq_SaveS x.Saves y.Saves g_Saves
    rw [decide_eq_false e_Saves] at hc
    refine Con.of Try.func11 rfl Try.ntmps11 rfl (fun E => ?_)
    refine A_seq ?_; refine A_region ?_; refine M1 (q_boxN rfl rfl rfl rfl) rfl rfl ?_; refine M1 (q_boxN rfl rfl rfl rfl) rfl rfl ?_; refine M0 (q_assignC rfl rfl rfl) rfl rfl ?_
    refine L_nil ?_; refine T_n ?_; refine A_seq ?_; refine A_seq ?_; refine A_region ?_; refine M0 (q_fldp rfl rfl rfl rfl (by decide)) rfl rfl ?_
    refine M0 (q_ld1 rfl rfl rfl rfl rfl) rfl rfl ?_; refine M0 (q_fldp rfl rfl rfl rfl (by decide)) rfl rfl ?_; refine M0 (q_ld1 rfl rfl rfl rfl rfl) rfl rfl ?_
    refine M0 (q_neqK rfl rfl rfl rfl (by assumption)) rfl rfl ?_; refine L_nil ?_; refine T_n ?_; refine A_ifF rfl ?_; refine A_skip ?_; refine T_n ?_; refine A_seq ?_; refine A_seq ?_
    refine A_region ?_; refine M0 (q_fldp rfl rfl rfl rfl (by decide)) rfl rfl ?_; refine M0 (q_ld1 rfl rfl rfl rfl rfl) rfl rfl ?_; refine M0 (q_fldp rfl rfl rfl rfl (by decide)) rfl rfl ?_
    refine M0 (q_ld1 rfl rfl rfl rfl rfl) rfl rfl ?_; refine M0 (q_neqK rfl rfl rfl rfl (by assumption)) rfl rfl ?_; refine L_nil ?_; refine T_n ?_; refine A_ifF rfl ?_; refine A_skip ?_
    refine T_n ?_; refine A_seq ?_; refine A_seq ?_; refine A_region ?_; refine M0 (q_fldp rfl rfl rfl rfl (by decide)) rfl rfl ?_; refine M0 (q_ld1 rfl rfl rfl rfl rfl) rfl rfl ?_
    refine M0 (q_fldp rfl rfl rfl rfl (by decide)) rfl rfl ?_; refine M0 (q_ld1 rfl rfl rfl rfl rfl) rfl rfl ?_; refine M0 (q_neqK rfl rfl rfl rfl (by assumption)) rfl rfl ?_
    refine L_nil ?_; refine T_n ?_; refine A_ifF rfl ?_; refine A_skip ?_; refine T_n ?_; refine A_seq ?_; refine A_seq ?_; refine A_region ?_
    refine M0 (q_fldp rfl rfl rfl rfl (by decide)) rfl rfl ?_; refine M0 (q_ld1 rfl rfl rfl rfl rfl) rfl rfl ?_; refine M0 (q_fldp rfl rfl rfl rfl (by decide)) rfl rfl ?_
    refine M0 (q_ld1 rfl rfl rfl rfl rfl) rfl rfl ?_; refine M0 (q_neqK rfl rfl rfl rfl (by assumption)) rfl rfl ?_; refine L_nil ?_; refine T_n ?_; refine A_ifF rfl ?_; refine A_skip ?_
    refine T_n ?_; refine A_seq ?_; refine A_seq ?_; refine A_region ?_; refine M0 (q_fldp rfl rfl rfl rfl (by decide)) rfl rfl ?_; refine M0 (q_ld1 rfl rfl rfl rfl rfl) rfl rfl ?_
    refine M0 (q_fldp rfl rfl rfl rfl (by decide)) rfl rfl ?_; refine M0 (q_ld1 rfl rfl rfl rfl rfl) rfl rfl ?_; refine M0 (q_call0 rfl rfl (hc_Tracks) rfl) rfl rfl ?_
    refine M0 (q_not rfl rfl rfl) rfl rfl ?_; refine L_nil ?_; refine T_n ?_; refine A_ifF rfl ?_; refine A_skip ?_; refine T_n ?_; refine A_seq ?_; refine A_seq ?_; refine A_region ?_
    refine M0 (q_fldp rfl rfl rfl rfl (by decide)) rfl rfl ?_; refine M0 (q_ldN rfl rfl rfl rfl rfl rfl) rfl rfl ?_; refine M0 (q_fldp rfl rfl rfl rfl (by decide)) rfl rfl ?_
    refine M0 (q_ldN rfl rfl rfl rfl rfl rfl) rfl rfl ?_; refine M0 (q_call0 rfl rfl (hc_Base) rfl) rfl rfl ?_; refine M0 (q_not rfl rfl rfl) rfl rfl ?_; refine L_nil ?_; refine T_n ?_
    refine A_ifF rfl ?_; refine A_skip ?_; refine T_n ?_; refine A_seq ?_; refine A_seq ?_; refine A_region ?_; refine M0 (q_fldp rfl rfl rfl rfl (by decide)) rfl rfl ?_
    refine M0 (q_ldN rfl rfl rfl rfl rfl rfl) rfl rfl ?_; refine M0 (q_fldp rfl rfl rfl rfl (by decide)) rfl rfl ?_; refine M0 (q_ldN rfl rfl rfl rfl rfl rfl) rfl rfl ?_
    refine M0 (q_call0 rfl rfl (hc_Now) rfl) rfl rfl ?_; refine M0 (q_not rfl rfl rfl) rfl rfl ?_; refine L_nil ?_; refine T_n ?_; refine A_ifF rfl ?_; refine A_skip ?_; refine T_n ?_
    refine A_seq ?_; refine A_seq ?_; refine A_region ?_; refine M0 (q_fldp rfl rfl rfl rfl (by decide)) rfl rfl ?_; refine M0 (q_ld1 rfl rfl rfl rfl rfl) rfl rfl ?_
    refine M0 (q_fldp rfl rfl rfl rfl (by decide)) rfl rfl ?_; refine M0 (q_ld1 rfl rfl rfl rfl rfl) rfl rfl ?_; refine M0 (q_call0 rfl rfl (hc_Used) rfl) rfl rfl ?_
    refine M0 (q_not rfl rfl rfl) rfl rfl ?_; refine L_nil ?_; refine T_n ?_; refine A_ifF rfl ?_; refine A_skip ?_; refine T_n ?_; refine A_seq ?_; refine A_seq ?_; refine A_region ?_
    refine M0 (q_fldp rfl rfl rfl rfl (by decide)) rfl rfl ?_; refine M0 (q_ld1 rfl rfl rfl rfl rfl) rfl rfl ?_; refine M0 (q_fldp rfl rfl rfl rfl (by decide)) rfl rfl ?_
    refine M0 (q_ld1 rfl rfl rfl rfl rfl) rfl rfl ?_; refine M0 (q_call0 rfl rfl (hc) rfl) rfl rfl ?_; refine M0 (q_not rfl rfl rfl) rfl rfl ?_; refine L_nil ?_; refine T_n ?_
    refine A_ifT rfl ?_; refine A_seq ?_; refine A_region ?_; refine M0 (q_assignC rfl rfl rfl) rfl rfl ?_; refine L_nil ?_; refine T_n ?_; refine A_ret ?_; refine T_r ?_; refine F_r ?_
    exact E_tmp rfl rfl (W_end [] (by decide) rfl rfl (B_eq (decide_eq_false fun e => e_Saves (by rw [e])).symm))
  have e_Saves := Classical.not_not.1 e_Saves
  have hc_Saves := eq_SaveS x.Saves y.Saves g_Saves
  rw [decide_eq_true e_Saves] at hc_Saves
  by_cases e_Sums : ¬ x.Sums = y.Sums
  · have hc := eq_IntS x.Sums y.Sums g_Sums
    rw [decide_eq_false e_Sums] at hc
    refine Con.of Try.func11 rfl Try.ntmps11 rfl (fun E => ?_)
    refine A_seq ?_; refine A_region ?_; refine M1 (q_boxN rfl rfl rfl rfl) rfl rfl ?_; refine M1 (q_boxN rfl rfl rfl rfl) rfl rfl ?_; refine M0 (q_assignC rfl rfl rfl) rfl rfl ?_
    refine L_nil ?_; refine T_n ?_; refine A_seq ?_; refine A_seq ?_; refine A_region ?_; refine M0 (q_fldp rfl rfl rfl rfl (by decide)) rfl rfl ?_
    refine M0 (q_ld1 rfl rfl rfl rfl rfl) rfl rfl ?_; refine M0 (q_fldp rfl rfl rfl rfl (by decide)) rfl rfl ?_; refine M0 (q_ld1 rfl rfl rfl rfl rfl) rfl rfl ?_
    refine M0 (q_neqK rfl rfl rfl rfl (by assumption)) rfl rfl ?_; refine L_nil ?_; refine T_n ?_; refine A_ifF rfl ?_; refine A_skip ?_; refine T_n ?_; refine A_seq ?_; refine A_seq ?_
    refine A_region ?_; refine M0 (q_fldp rfl rfl rfl rfl (by decide)) rfl rfl ?_; refine M0 (q_ld1 rfl rfl rfl rfl rfl) rfl rfl ?_; refine M0 (q_fldp rfl rfl rfl rfl (by decide)) rfl rfl ?_
    refine M0 (q_ld1 rfl rfl rfl rfl rfl) rfl rfl ?_; refine M0 (q_neqK rfl rfl rfl rfl (by assumption)) rfl rfl ?_; refine L_nil ?_; refine T_n ?_; refine A_ifF rfl ?_; refine A_skip ?_
    refine T_n ?_; refine A_seq ?_; refine A_seq ?_; refine A_region ?_; refine M0 (q_fldp rfl rfl rfl rfl (by decide)) rfl rfl ?_; refine M0 (q_ld1 rfl rfl rfl rfl rfl) rfl rfl ?_
    refine M0 (q_fldp rfl rfl rfl rfl (by decide)) rfl rfl ?_; refine M0 (q_ld1 rfl rfl rfl rfl rfl) rfl rfl ?_; refine M0 (q_neqK rfl rfl rfl rfl (by assumption)) rfl rfl ?_
    refine L_nil ?_; refine T_n ?_; refine A_ifF rfl ?_; refine A_skip ?_; refine T_n ?_; refine A_seq ?_; refine A_seq ?_; refine A_region ?_
    refine M0 (q_fldp rfl rfl rfl rfl (by decide)) rfl rfl ?_; refine M0 (q_ld1 rfl rfl rfl rfl rfl) rfl rfl ?_; refine M0 (q_fldp rfl rfl rfl rfl (by decide)) rfl rfl ?_
    refine M0 (q_ld1 rfl rfl rfl rfl rfl) rfl rfl ?_; refine M0 (q_neqK rfl rfl rfl rfl (by assumption)) rfl rfl ?_; refine L_nil ?_; refine T_n ?_; refine A_ifF rfl ?_; refine A_skip ?_
    refine T_n ?_; refine A_seq ?_; refine A_seq ?_; refine A_region ?_; refine M0 (q_fldp rfl rfl rfl rfl (by decide)) rfl rfl ?_; refine M0 (q_ld1 rfl rfl rfl rfl rfl) rfl rfl ?_
    refine M0 (q_fldp rfl rfl rfl rfl (by decide)) rfl rfl ?_; refine M0 (q_ld1 rfl rfl rfl rfl rfl) rfl rfl ?_; refine M0 (q_call0 rfl rfl (hc_Tracks) rfl) rfl rfl ?_
    refine M0 (q_not rfl rfl rfl) rfl rfl ?_; refine L_nil ?_; refine T_n ?_; refine A_ifF rfl ?_; refine A_skip ?_; refine T_n ?_; refine A_seq ?_; refine A_seq ?_; refine A_region ?_
    refine M0 (q_fldp rfl rfl rfl rfl (by decide)) rfl rfl ?_; refine M0 (q_ldN rfl rfl rfl rfl rfl rfl) rfl rfl ?_; refine M0 (q_fldp rfl rfl rfl rfl (by decide)) rfl rfl ?_
    refine M0 (q_ldN rfl rfl rfl rfl rfl rfl) rfl rfl ?_; refine M0 (q_call0 rfl rfl (hc_Base) rfl) rfl rfl ?_; refine M0 (q_not rfl rfl rfl) rfl rfl ?_; refine L_nil ?_; refine T_n ?_
    refine A_ifF rfl ?_; refine A_skip ?_; refine T_n ?_; refine A_seq ?_; refine A_seq ?_; refine A_region ?_; refine M0 (q_fldp rfl rfl rfl rfl (by decide)) rfl rfl ?_
    refine M0 (q_ldN rfl rfl rfl rfl rfl rfl) rfl rfl ?_; refine M0 (q_fldp rfl rfl rfl rfl (by decide)) rfl rfl ?_; refine M0 (q_ldN rfl rfl rfl rfl rfl rfl) rfl rfl ?_
    refine M0 (q_call0 rfl rfl (hc_Now) rfl) rfl rfl ?_; refine M0 (q_not rfl rfl rfl) rfl rfl ?_; refine L_nil ?_; refine T_n ?_; refine A_ifF rfl ?_; refine A_skip ?_; refine T_n ?_
    refine A_seq ?_; refine A_seq ?_; refine A_region ?_; refine M0 (q_fldp rfl rfl rfl rfl (by decide)) rfl rfl ?_; refine M0 (q_ld1 rfl rfl rfl rfl rfl) rfl rfl ?_
    refine M0 (q_fldp rfl rfl rfl rfl (by decide)) rfl rfl ?_; refine M0 (q_ld1 rfl rfl rfl rfl rfl) rfl rfl ?_; refine M0 (q_call0 rfl rfl (hc_Used) rfl) rfl rfl ?_
    refine M0 (q_not rfl rfl rfl) rfl rfl ?_; refine L_nil ?_; refine T_n ?_; refine A_ifF rfl ?_; refine A_skip ?_; refine T_n ?_; refine A_seq ?_; refine A_seq ?_; refine A_region ?_
    refine M0 (q_fldp rfl rfl rfl rfl (by decide)) rfl rfl ?_; refine M0 (q_ld1 rfl rfl rfl rfl rfl) rfl rfl ?_; refine M0 (q_fldp rfl rfl rfl rfl (by decide)) rfl rfl ?_
    refine M0 (q_ld1 rfl rfl rfl rfl rfl) rfl rfl ?_; refine M0 (q_call0 rfl rfl (hc_Saves) rfl) rfl rfl ?_; refine M0 (q_not rfl rfl rfl) rfl rfl ?_; refine L_nil ?_; refine T_n ?_
    refine A_ifF rfl ?_; refine A_skip ?_; refine T_n ?_; refine A_seq ?_; refine A_seq ?_; refine A_region ?_; refine M0 (q_fldp rfl rfl rfl rfl (by decide)) rfl rfl ?_
    refine M0 (q_ld1 rfl rfl rfl rfl rfl) rfl rfl ?_; refine M0 (q_fldp rfl rfl rfl rfl (by decide)) rfl rfl ?_; refine M0 (q_ld1 rfl rfl rfl rfl rfl) rfl rfl ?_
    refine M0 (q_call0 rfl rfl (hc) rfl) rfl rfl ?_; refine M0 (q_not rfl rfl rfl) rfl rfl ?_; refine L_nil ?_; refine T_n ?_; refine A_ifT rfl ?_; refine A_seq ?_; refine A_region ?_
    refine M0 (q_assignC rfl rfl rfl) rfl rfl ?_; refine L_nil ?_; refine T_n ?_; refine A_ret ?_; refine T_r ?_; refine F_r ?_
    exact E_tmp rfl rfl (W_end [] (by decide) rfl rfl (B_eq (decide_eq_false fun e => e_Sums (by rw [e])).symm))
  have e_Sums := Classical.not_not.1 e_Sums
  have hc_Sums := eq_IntS x.Sums y.Sums g_Sums
  rw [decide_eq_true e_Sums] at hc_Sums
  by_cases e_Fault : ¬ x.Fault = y.Fault
  · have hc := eq_Fault x.Fault y.Fault g_Fault
    rw [decide_eq_false e_Fault] at hc
    refine Con.of Try.func11 rfl Try.ntmps11 rfl (fun E => ?_)
    refine A_seq ?_; refine A_region ?_; refine M1 (q_boxN rfl rfl rfl rfl) rfl rfl ?_; refine M1 (q_boxN rfl rfl rfl rfl) rfl rfl ?_; refine M0 (q_assignC rfl rfl rfl) rfl rfl ?_
    refine L_nil ?_; refine T_n ?_; refine A_seq ?_; refine A_seq ?_; refine A_region ?_; refine M0 (q_fldp rfl rfl rfl rfl (by decide)) rfl rfl ?_
    refine M0 (q_ld1 rfl rfl rfl rfl rfl) rfl rfl ?_; refine M0 (q_fldp rfl rfl rfl rfl (by decide)) rfl rfl ?_; refine M0 (q_ld1 rfl rfl rfl rfl rfl) rfl rfl ?_
    refine M0 (q_neqK rfl rfl rfl rfl (by assumption)) rfl rfl ?_; refine L_nil ?_; refine T_n ?_; refine A_ifF rfl ?_; refine A_skip ?_; refine T_n ?_; refine A_seq ?_; refine A_seq ?_
    refine A_region ?_; refine M0 (q_fldp rfl rfl rfl rfl (by decide)) rfl rfl ?_; refine M0 (q_ld1 rfl rfl rfl rfl rfl) rfl rfl ?_; refine M0 (q_fldp rfl rfl rfl rfl (by decide)) rfl rfl ?_
    refine M0 (q_ld1 rfl rfl rfl rfl rfl) rfl rfl ?_; refine M0 (q_neqK rfl rfl rfl rfl (by assumption)) rfl rfl ?_; refine L_nil ?_; refine T_n ?_; refine A_ifF rfl ?_; refine A_skip ?_
    refine T_n ?_; refine A_seq ?_; refine A_seq ?_; refine A_region ?_; refine M0 (q_fldp rfl rfl rfl rfl (by decide)) rfl rfl ?_; refine M0 (q_ld1 rfl rfl rfl rfl rfl) rfl rfl ?_
    refine M0 (q_fldp rfl rfl rfl rfl (by decide)) rfl rfl ?_; refine M0 (q_ld1 rfl rfl rfl rfl rfl) rfl rfl ?_; refine M0 (q_neqK rfl rfl rfl rfl (by assumption)) rfl rfl ?_
    refine L_nil ?_; refine T_n ?_; refine A_ifF rfl ?_; refine A_skip ?_; refine T_n ?_; refine A_seq ?_; refine A_seq ?_; refine A_region ?_
    refine M0 (q_fldp rfl rfl rfl rfl (by decide)) rfl rfl ?_; refine M0 (q_ld1 rfl rfl rfl rfl rfl) rfl rfl ?_; refine M0 (q_fldp rfl rfl rfl rfl (by decide)) rfl rfl ?_
    refine M0 (q_ld1 rfl rfl rfl rfl rfl) rfl rfl ?_; refine M0 (q_neqK rfl rfl rfl rfl (by assumption)) rfl rfl ?_; refine L_nil ?_; refine T_n ?_; refine A_ifF rfl ?_; refine A_skip ?_
    refine T_n ?_; refine A_seq ?_; refine A_seq ?_; refine A_region ?_; refine M0 (q_fldp rfl rfl rfl rfl (by decide)) rfl rfl ?_; refine M0 (q_ld1 rfl rfl rfl rfl rfl) rfl rfl ?_
    refine M0 (q_fldp rfl rfl rfl rfl (by decide)) rfl rfl ?_; refine M0 (q_ld1 rfl rfl rfl rfl rfl) rfl rfl ?_; refine M0 (q_call0 rfl rfl (hc_Tracks) rfl) rfl rfl ?_
    refine M0 (q_not rfl rfl rfl) rfl rfl ?_; refine L_nil ?_; refine T_n ?_; refine A_ifF rfl ?_; refine A_skip ?_; refine T_n ?_; refine A_seq ?_; refine A_seq ?_; refine A_region ?_
    refine M0 (q_fldp rfl rfl rfl rfl (by decide)) rfl rfl ?_; refine M0 (q_ldN rfl rfl rfl rfl rfl rfl) rfl rfl ?_; refine M0 (q_fldp rfl rfl rfl rfl (by decide)) rfl rfl ?_
    refine M0 (q_ldN rfl rfl rfl rfl rfl rfl) rfl rfl ?_; refine M0 (q_call0 rfl rfl (hc_Base) rfl) rfl rfl ?_; refine M0 (q_not rfl rfl rfl) rfl rfl ?_; refine L_nil ?_; refine T_n ?_
    refine A_ifF rfl ?_; refine A_skip ?_; refine T_n ?_; refine A_seq ?_; refine A_seq ?_; refine A_region ?_; refine M0 (q_fldp rfl rfl rfl rfl (by decide)) rfl rfl ?_
    refine M0 (q_ldN rfl rfl rfl rfl rfl rfl) rfl rfl ?_; refine M0 (q_fldp rfl rfl rfl rfl (by decide)) rfl rfl ?_; refine M0 (q_ldN rfl rfl rfl rfl rfl rfl) rfl rfl ?_
    refine M0 (q_call0 rfl rfl (hc_Now) rfl) rfl rfl ?_; refine M0 (q_not rfl rfl rfl) rfl rfl ?_; refine L_nil ?_; refine T_n ?_; refine A_ifF rfl ?_; refine A_skip ?_; refine T_n ?_
    refine A_seq ?_; refine A_seq ?_; refine A_region ?_; refine M0 (q_fldp rfl rfl rfl rfl (by decide)) rfl rfl ?_; refine M0 (q_ld1 rfl rfl rfl rfl rfl) rfl rfl ?_
    refine M0 (q_fldp rfl rfl rfl rfl (by decide)) rfl rfl ?_; refine M0 (q_ld1 rfl rfl rfl rfl rfl) rfl rfl ?_; refine M0 (q_call0 rfl rfl (hc_Used) rfl) rfl rfl ?_
    refine M0 (q_not rfl rfl rfl) rfl rfl ?_; refine L_nil ?_; refine T_n ?_; refine A_ifF rfl ?_; refine A_skip ?_; refine T_n ?_; refine A_seq ?_; refine A_seq ?_; refine A_region ?_
    refine M0 (q_fldp rfl rfl rfl rfl (by decide)) rfl rfl ?_; refine M0 (q_ld1 rfl rfl rfl rfl rfl) rfl rfl ?_; refine M0 (q_fldp rfl rfl rfl rfl (by decide)) rfl rfl ?_
    refine M0 (q_ld1 rfl rfl rfl rfl rfl) rfl rfl ?_; refine M0 (q_call0 rfl rfl (hc_Saves) rfl) rfl rfl ?_; refine M0 (q_not rfl rfl rfl) rfl rfl ?_; refine L_nil ?_; refine T_n ?_
    refine A_ifF rfl ?_; refine A_skip ?_; refine T_n ?_; refine A_seq ?_; refine A_seq ?_; refine A_region ?_; refine M0 (q_fldp rfl rfl rfl rfl (by decide)) rfl rfl ?_
    refine M0 (q_ld1 rfl rfl rfl rfl rfl) rfl rfl ?_; refine M0 (q_fldp rfl rfl rfl rfl (by decide)) rfl rfl ?_; refine M0 (q_ld1 rfl rfl rfl rfl rfl) rfl rfl ?_
    refine M0 (q_call0 rfl rfl (hc_Sums) rfl) rfl rfl ?_; refine M0 (q_not rfl rfl rfl) rfl rfl ?_; refine L_nil ?_; refine T_n ?_; refine A_ifF rfl ?_; refine A_skip ?_; refine T_n ?_
    refine A_seq ?_; refine A_seq ?_; refine A_region ?_; refine M0 (q_fldp rfl rfl rfl rfl (by decide)) rfl rfl ?_; refine M0 (q_ldN rfl rfl rfl rfl rfl rfl) rfl rfl ?_
    refine M0 (q_fldp rfl rfl rfl rfl (by decide)) rfl rfl ?_; refine M0 (q_ldN rfl rfl rfl rfl rfl rfl) rfl rfl ?_; refine M0 (q_call0 rfl rfl (hc) rfl) rfl rfl ?_
    refine M0 (q_not rfl rfl rfl) rfl rfl ?_; refine L_nil ?_; refine T_n ?_; refine A_ifT rfl ?_; refine A_seq ?_; refine A_region ?_; refine M0 (q_assignC rfl rfl rfl) rfl rfl ?_; refine L_nil ?_
    refine T_n ?_; refine A_ret ?_; refine T_r ?_; refine F_r ?_
    exact E_tmp rfl rfl (W_end [] (by decide) rfl rfl (B_eq (decide_eq_false fun e => e_Fault (by rw [e])).symm))
  have e_Fault := Classical.not_not.1 e_Fault
  have hc_Fault := eq_Fault x.Fault y.Fault g_Fault
  rw [decide_eq_true e_Fault] at hc_Fault
  by_cases e_Rolls : ¬ x.Rolls = y.Rolls
  · have hk : decide (x.Rolls ≠ y.Rolls) = true := by simp [e_Rolls]
    refine Con.of Try.func11 rfl Try.ntmps11 rfl (fun E => ?_)
    refine A_seq ?_; refine A_region ?_; refine M1 (q_boxN rfl rfl rfl rfl) rfl rfl ?_; refine M1 (q_boxN rfl rfl rfl rfl) rfl rfl ?_; refine M0 (q_assignC rfl rfl rfl) rfl rfl ?_
    refine L_nil ?_; refine T_n ?_; refine A_seq ?_; refine A_seq ?_; refine A_region ?_; refine M0 (q_fldp rfl rfl rfl rfl (by decide)) rfl rfl ?_
    refine M0 (q_ld1 rfl rfl rfl rfl rfl) rfl rfl ?_; refine M0 (q_fldp rfl rfl rfl rfl (by decide)) rfl rfl ?_; refine M0 (q_ld1 rfl rfl rfl rfl rfl) rfl rfl ?_
    refine M0 (q_neqK rfl rfl rfl rfl (by assumption)) rfl rfl ?_; refine L_nil ?_; refine T_n ?_; refine A_ifF rfl ?_; refine A_skip ?_; refine T_n ?_; refine A_seq ?_; refine A_seq ?_
    refine A_region ?_; refine M0 (q_fldp rfl rfl rfl rfl (by decide)) rfl rfl ?_; refine M0 (q_ld1 rfl rfl rfl rfl rfl) rfl rfl ?_; refine M0 (q_fldp rfl rfl rfl rfl (by decide)) rfl rfl ?_
    refine M0 (q_ld1 rfl rfl rfl rfl rfl) rfl rfl ?_; refine M0 (q_neqK rfl rfl rfl rfl (by assumption)) rfl rfl ?_; refine L_nil ?_; refine T_n ?_; refine A_ifF rfl ?_; refine A_skip ?_
    refine T_n ?_; refine A_seq ?_; refine A_seq ?_; refine A_region ?_; refine M0 (q_fldp rfl rfl rfl rfl (by decide)) rfl rfl ?_; refine M0 (q_ld1 rfl rfl rfl rfl rfl) rfl rfl ?_
    refine M0 (q_fldp rfl rfl rfl rfl (by decide)) rfl rfl ?_; refine M0 (q_ld1 rfl rfl rfl rfl rfl) rfl rfl ?_; refine M0 (q_neqK rfl rfl rfl rfl (by assumption)) rfl rfl ?_
    refine L_nil ?_; refine T_n ?_; refine A_ifF rfl ?_; refine A_skip ?_; refine T_n ?_; refine A_seq ?_; refine A_seq ?_; refine A_region ?_
    refine M0 (q_fldp rfl rfl rfl rfl (by decide)) rfl rfl ?_; refine M0 (q_ld1 rfl rfl rfl rfl rfl) rfl rfl ?_; refine M0 (q_fldp rfl rfl rfl rfl (by decide)) rfl rfl ?_
    refine M0 (q_ld1 rfl rfl rfl rfl rfl) rfl rfl ?_; refine M0 (q_neqK rfl rfl rfl rfl (by assumption)) rfl rfl ?_; refine L_nil ?_; refine T_n ?_; refine A_ifF rfl ?_; refine A_skip ?_
    refine T_n ?_; refine A_seq ?_; refine A_seq ?_; refine A_region ?_; refine M0 (q_fldp rfl rfl rfl rfl (by decide)) rfl rfl ?_; refine M0 (q_ld1 rfl rfl rfl rfl rfl) rfl rfl ?_
    refine M0 (q_fldp rfl rfl rfl rfl (by decide)) rfl rfl ?_; refine M0 (q_ld1 rfl rfl rfl rfl rfl) rfl rfl ?_; refine M0 (q_call0 rfl rfl (hc_Tracks) rfl) rfl rfl ?_
    refine M0 (q_not rfl rfl rfl) rfl rfl ?_; refine L_nil ?_; refine T_n ?_; refine A_ifF rfl ?_; refine A_skip ?_; refine T_n ?_; refine A_seq ?_; refine A_seq ?_; refine A_region ?_
    refine M0 (q_fldp rfl rfl rfl rfl (by decide)) rfl rfl ?_; refine M0 (q_ldN rfl rfl rfl rfl rfl rfl) rfl rfl ?_; refine M0 (q_fldp rfl rfl rfl rfl (by decide)) rfl rfl ?_
    refine M0 (q_ldN rfl rfl rfl rfl rfl rfl) rfl rfl ?_; refine M0 (q_call0 rfl rfl (hc_Base) rfl) rfl rfl ?_; refine M0 (q_not rfl rfl rfl) rfl rfl ?_; refine L_nil ?_; refine T_n ?_
    refine A_ifF rfl ?_; refine A_skip ?_; refine T_n ?_; refine A_seq ?_; refine A_seq ?_; refine A_region ?_; refine M0 (q_fldp rfl rfl rfl rfl (by decide)) rfl rfl ?_
    refine M0 (q_ldN rfl rfl rfl rfl rfl rfl) rfl rfl ?_; refine M0 (q_fldp rfl rfl rfl rfl (by decide)) rfl rfl ?_; refine M0 (q_ldN rfl rfl rfl rfl rfl rfl) rfl rfl ?_
    refine M0 (q_call0 rfl rfl (hc_Now) rfl) rfl rfl ?_; refine M0 (q_not rfl rfl rfl) rfl rfl ?_; refine L_nil ?_; refine T_n ?_; refine A_ifF rfl ?_; refine A_skip ?_; refine T_n ?_
    refine A_seq ?_; refine A_seq ?_; refine A_region ?_; refine M0 (q_fldp rfl rfl rfl rfl (by decide)) rfl rfl ?_; refine M0 (q_ld1 rfl rfl rfl rfl rfl) rfl rfl ?_
    refine M0 (q_fldp rfl rfl rfl rfl (by decide)) rfl rfl ?_; refine M0 (q_ld1 rfl rfl rfl rfl rfl) rfl rfl ?_; refine M0 (q_call0 rfl rfl (hc_Used) rfl) rfl rfl ?_
    refine M0 (q_not rfl rfl rfl) rfl rfl ?_; refine L_nil ?_; refine T_n ?_; refine A_ifF rfl ?_; refine A_skip ?_; refine T_n ?_; refine A_seq ?_; refine A_seq ?_; refine A_region ?_
    refine M0 (q_fldp rfl rfl rfl rfl (by decide)) rfl rfl ?_; refine M0 (q_ld1 rfl rfl rfl rfl rfl) rfl rfl ?_; refine M0 (q_fldp rfl rfl rfl rfl (by decide)) rfl rfl ?_
    refine M0 (q_ld1 rfl rfl rfl rfl rfl) rfl rfl ?_; refine M0 (q_call0 rfl rfl (hc_Saves) rfl) rfl rfl ?_; refine M0 (q_not rfl rfl rfl) rfl rfl ?_; refine L_nil ?_; refine T_n ?_
    refine A_ifF rfl ?_; refine A_skip ?_; refine T_n ?_; refine A_seq ?_; refine A_seq ?_; refine A_region ?_; refine M0 (q_fldp rfl rfl rfl rfl (by decide)) rfl rfl ?_
    refine M0 (q_ld1 rfl rfl rfl rfl rfl) rfl rfl ?_; refine M0 (q_fldp rfl rfl rfl rfl (by decide)) rfl rfl ?_; refine M0 (q_ld1 rfl rfl rfl rfl rfl) rfl rfl ?_
    refine M0 (q_call0 rfl rfl (hc_Sums) rfl) rfl rfl ?_; refine M0 (q_not rfl rfl rfl) rfl rfl ?_; refine L_nil ?_; refine T_n ?_; refine A_ifF rfl ?_; refine A_skip ?_; refine T_n ?_
    refine A_seq ?_; refine A_seq ?_; refine A_region ?_; refine M0 (q_fldp rfl rfl rfl rfl (by decide)) rfl rfl ?_; refine M0 (q_ldN rfl rfl rfl rfl rfl rfl) rfl rfl ?_
    refine M0 (q_fldp rfl rfl rfl rfl (by decide)) rfl rfl ?_; refine M0 (q_ldN rfl rfl rfl rfl rfl rfl) rfl rfl ?_; refine M0 (q_call0 rfl rfl (hc_Fault) rfl) rfl rfl ?_
    refine M0 (q_not rfl rfl rfl) rfl rfl ?_; refine L_nil ?_; refine T_n ?_; refine A_ifF rfl ?_; refine A_skip ?_; refine T_n ?_; refine A_seq ?_; refine A_seq ?_; refine A_region ?_
    refine M0 (q_fldp rfl rfl rfl rfl (by decide)) rfl rfl ?_; refine M0 (q_ld1 rfl rfl rfl rfl rfl) rfl rfl ?_; refine M0 (q_fldp rfl rfl rfl rfl (by decide)) rfl rfl ?_
    refine M0 (q_ld1 rfl rfl rfl rfl rfl) rfl rfl ?_; refine M0 (q_neqK rfl rfl rfl rfl (by assumption)) rfl rfl ?_; refine L_nil ?_; refine T_n ?_; refine A_ifT rfl ?_; refine A_seq ?_
    refine A_region ?_; refine M0 (q_assignC rfl rfl rfl) rfl rfl ?_; refine L_nil ?_; refine T_n ?_; refine A_ret ?_; refine T_r ?_; refine F_r ?_
    exact E_tmp rfl rfl (W_end [] (by decide) rfl rfl (B_eq (decide_eq_false fun e => e_Rolls (by rw [e])).symm))
  have e_Rolls := Classical.not_not.1 e_Rolls
  have k_Rolls : decide (x.Rolls ≠ y.Rolls) = false := by simp [e_Rolls]
  by_cases e_Again : ¬ x.Again = y.Again
  · have hk : decide (x.Again ≠ y.Again) = true := by simp [e_Again]
    refine Con.of Try.func11 rfl Try.ntmps11 rfl (fun E => ?_)
    refine A_seq ?_; refine A_region ?_; refine M1 (q_boxN rfl rfl rfl rfl) rfl rfl ?_; refine M1 (q_boxN rfl rfl rfl rfl) rfl rfl ?_; refine M0 (q_assignC rfl rfl rfl) rfl rfl ?_
    refine L_nil ?_; refine T_n ?_; refine A_seq ?_; refine A_seq ?_; refine A_region ?_; refine M0 (q_fldp rfl rfl rfl rfl (by decide)) rfl rfl ?_
    refine M0 (q_ld1 rfl rfl rfl rfl rfl) rfl rfl ?_; refine M0 (q_fldp rfl rfl rfl rfl (by decide)) rfl rfl ?_; refine M0 (q_ld1 rfl rfl rfl rfl rfl) rfl rfl ?_
    refine M0 (q_neqK rfl rfl rfl rfl (by assumption)) rfl rfl ?_; refine L_nil ?_; refine T_n ?_; refine A_ifF rfl ?_; refine A_skip ?_; refine T_n ?_; refine A_seq ?_; refine A_seq ?_
    refine A_region ?_; refine M0 (q_fldp rfl rfl rfl rfl (by decide)) rfl rfl ?_; refine M0 (q_ld1 rfl rfl rfl rfl rfl) rfl rfl ?_; refine M0 (q_fldp rfl rfl rfl rfl (by decide)) rfl rfl ?_
    refine M0 (q_ld1 rfl rfl rfl rfl rfl) rfl rfl ?_; refine M0 (q_neqK rfl rfl rfl rfl (by assumption)) rfl rfl ?_; refine L_nil ?_; refine T_n ?_; refine A_ifF rfl ?_; refine A_skip ?_
    refine T_n ?_; refine A_seq ?_; refine A_seq ?_; refine A_region ?_; refine M0 (q_fldp rfl rfl rfl rfl (by decide)) rfl rfl ?_; refine M0 (q_ld1 rfl rfl rfl rfl rfl) rfl rfl ?_
    refine M0 (q_fldp rfl rfl rfl rfl (by decide)) rfl rfl ?_; refine M0 (q_ld1 rfl rfl rfl rfl rfl) rfl rfl ?_; refine M0 (q_neqK rfl rfl rfl rfl (by assumption)) rfl rfl ?_
    refine L_nil ?_; refine T_n ?_; refine A_ifF rfl ?_; refine A_skip ?_; refine T_n ?_; refine A_seq ?_; refine A_seq ?_; refine A_region ?_
    refine M0 (q_fldp rfl rfl rfl rfl (by decide)) rfl rfl ?_; refine M0 (q_ld1 rfl rfl rfl rfl rfl) rfl rfl ?_; refine M0 (q_fldp rfl rfl rfl rfl (by decide)) rfl rfl ?_
    refine M0 (q_ld1 rfl rfl rfl rfl rfl) rfl rfl ?_; refine M0 (q_neqK rfl rfl rfl rfl (by assumption)) rfl rfl ?_; refine L_nil ?_; refine T_n ?_; refine A_ifF rfl ?_; refine A_skip ?_
    refine T_n ?_; refine A_seq ?_; refine A_seq ?_; refine A_region ?_; refine M0 (q_fldp rfl rfl rfl rfl (by decide)) rfl rfl ?_; refine M0 (q_ld1 rfl rfl rfl rfl rfl) rfl rfl ?_
    refine M0 (q_fldp rfl rfl rfl rfl (by decide)) rfl rfl ?_; refine M0 (q_ld1 rfl rfl rfl rfl rfl) rfl rfl ?_; refine M0 (q_call0 rfl rfl (hc_Tracks) rfl) rfl rfl ?_
    refine M0 (q_not rfl rfl rfl) rfl rfl ?_; refine L_nil ?_; refine T_n ?_; refine A_ifF rfl ?_; refine A_skip ?_; refine T_n ?_; refine A_seq ?_; refine A_seq ?_; refine A_region ?_
    refine M0 (q_fldp rfl rfl rfl rfl (by decide)) rfl rfl ?_; refine M0 (q_ldN rfl rfl rfl rfl rfl rfl) rfl rfl ?_; refine M0 (q_fldp rfl rfl rfl rfl (by decide)) rfl rfl ?_
    refine M0 (q_ldN rfl rfl rfl rfl rfl rfl) rfl rfl ?_; refine M0 (q_call0 rfl rfl (hc_Base) rfl) rfl rfl ?_; refine M0 (q_not rfl rfl rfl) rfl rfl ?_; refine L_nil ?_; refine T_n ?_
    refine A_ifF rfl ?_; refine A_skip ?_; refine T_n ?_; refine A_seq ?_; refine A_seq ?_; refine A_region ?_; refine M0 (q_fldp rfl rfl rfl rfl (by decide)) rfl rfl ?_
    refine M0 (q_ldN rfl rfl rfl rfl rfl rfl) rfl rfl ?_; refine M0 (q_fldp rfl rfl rfl rfl (by decide)) rfl rfl ?_; refine M0 (q_ldN rfl rfl rfl rfl rfl rfl) rfl rfl ?_
    refine M0 (q_call0 rfl rfl (hc_Now) rfl) rfl rfl ?_; refine M0 (q_not rfl rfl rfl) rfl rfl ?_; refine L_nil ?_; refine T_n ?_; refine A_ifF rfl ?_; refine A_skip ?_; refine T_n ?_
    refine A_seq ?_; refine A_seq ?_; refine A_region ?_; refine M0 (q_fldp rfl rfl rfl rfl (by decide)) rfl rfl ?_; refine M0 (q_ld1 rfl rfl rfl rfl rfl) rfl rfl ?_
    refine M0 (q_fldp rfl rfl rfl rfl (by decide)) rfl rfl ?_; refine M0 (q_ld1 rfl rfl rfl rfl rfl) rfl rfl ?_; refine M0 (q_call0 rfl rfl (hc_Used) rfl) rfl rfl ?_
    refine M0 (q_not rfl rfl rfl) rfl rfl ?_; refine L_nil ?_; refine T_n ?_; refine A_ifF rfl ?_; refine A_skip ?_; refine T_n ?_; refine A_seq ?_; refine A_seq ?_; refine A_region ?_
    refine M0 (q_fldp rfl rfl rfl rfl (by decide)) rfl rfl ?_; refine M0 (q_ld1 rfl rfl rfl rfl rfl) rfl rfl ?_; refine M0 (q_fldp rfl rfl rfl rfl (by decide)) rfl rfl ?_
    refine M0 (q_ld1 rfl rfl rfl rfl rfl) rfl rfl ?_; refine M0 (q_call0 rfl rfl (hc_Saves) rfl) rfl rfl ?_; refine M0 (q_not rfl rfl rfl) rfl rfl ?_; refine L_nil ?_; refine T_n ?_
    refine A_ifF rfl ?_; refine A_skip ?_; refine T_n ?_; refine A_seq ?_; refine A_seq ?_; refine A_region ?_; refine M0 (q_fldp rfl rfl rfl rfl (by decide)) rfl rfl ?_
    refine M0 (q_ld1 rfl rfl rfl rfl rfl) rfl rfl ?_; refine M0 (q_fldp rfl rfl rfl rfl (by decide)) rfl rfl ?_; refine M0 (q_ld1 rfl rfl rfl rfl rfl) rfl rfl ?_
    refine M0 (q_call0 rfl rfl (hc_Sums) rfl) rfl rfl ?_; refine M0 (q_not rfl rfl rfl) rfl rfl ?_; refine L_nil ?_; refine T_n ?_; refine A_ifF rfl ?_; refine A_skip ?_; refine T_n ?_
    refine A_seq ?_; refine A_seq ?_; refine A_region ?_; refine M0 (q_fldp rfl rfl rfl rfl (by decide)) rfl rfl ?_; refine M0 (q_ldN rfl rfl rfl rfl rfl rfl) rfl rfl ?_
    refine M0 (q_fldp rfl rfl rfl rfl (by decide)) rfl rfl ?_; refine M0 (q_ldN rfl rfl rfl rfl rfl rfl) rfl rfl ?_; refine M0 (q_call0 rfl rfl (hc_Fault) rfl) rfl rfl ?_
    refine M0 (q_not rfl rfl rfl) rfl rfl ?_; refine L_nil ?_; refine T_n ?_; refine A_ifF rfl ?_; refine A_skip ?_; refine T_n ?_; refine A_seq ?_; refine A_seq ?_; refine A_region ?_
    refine M0 (q_fldp rfl rfl rfl rfl (by decide)) rfl rfl ?_; refine M0 (q_ld1 rfl rfl rfl rfl rfl) rfl rfl ?_; refine M0 (q_fldp rfl rfl rfl rfl (by decide)) rfl rfl ?_
    refine M0 (q_ld1 rfl rfl rfl rfl rfl) rfl rfl ?_; refine M0 (q_neqK rfl rfl rfl rfl (by assumption)) rfl rfl ?_; refine L_nil ?_; refine T_n ?_; refine A_ifF rfl ?_; refine A_skip ?_
    refine T_n ?_; refine A_seq ?_; refine A_seq ?_; refine A_region ?_; refine M0 (q_fldp rfl rfl rfl rfl (by decide)) rfl rfl ?_; refine M0 (q_ld1 rfl rfl rfl rfl rfl) rfl rfl ?_
    refine M0 (q_fldp rfl rfl rfl rfl (by decide)) rfl rfl ?_; refine M0 (q_ld1 rfl rfl rfl rfl rfl) rfl rfl ?_; refine M0 (q_neqK rfl rfl rfl rfl (by assumption)) rfl rfl ?_
    refine L_nil ?_; refine T_n ?_; refine A_ifT rfl ?_; refine A_seq ?_; refine A_region ?_; refine M0 (q_assignC rfl rfl rfl) rfl rfl ?_; refine L_nil ?_; refine T_n ?_; refine A_ret ?_; refine T_r ?_
    refine F_r ?_
    exact E_tmp rfl rfl (W_end [] (by decide) rfl rfl (B_eq (decide_eq_false fun e => e_Again (by rw [e])).symm))
  have e_Again := Classical.not_not.1 e_Again
  have k_Again : decide (x.Again ≠ y.Again) = false := by simp [e_Again]
  refine Con.of Try.func11 rfl Try.ntmps11 rfl (fun E => ?_)
  refine A_seq ?_; refine A_region ?_; refine M1 (q_boxN rfl rfl rfl rfl) rfl rfl ?_; refine M1 (q_boxN rfl rfl rfl rfl) rfl rfl ?_; refine M0 (q_assignC rfl rfl rfl) rfl rfl ?_
  refine L_nil ?_; refine T_n ?_; refine A_seq ?_; refine A_seq ?_; refine A_region ?_; refine M0 (q_fldp rfl rfl rfl rfl (by decide)) rfl rfl ?_
  refine M0 (q_ld1 rfl rfl rfl rfl rfl) rfl rfl ?_; refine M0 (q_fldp rfl rfl rfl rfl (by decide)) rfl rfl ?_; refine M0 (q_ld1 rfl rfl rfl rfl rfl) rfl rfl ?_
  refine M0 (q_neqK rfl rfl rfl rfl (by assumption)) rfl rfl ?_; refine L_nil ?_; refine T_n ?_; refine A_ifF rfl ?_; refine A_skip ?_; refine T_n ?_; refine A_seq ?_; refine A_seq ?_
  refine A_region ?_; refine M0 (q_fldp rfl rfl rfl rfl (by decide)) rfl rfl ?_; refine M0 (q_ld1 rfl rfl rfl rfl rfl) rfl rfl ?_; refine M0 (q_fldp rfl rfl rfl rfl (by decide)) rfl rfl ?_
  refine M0 (q_ld1 rfl rfl rfl rfl rfl) rfl rfl ?_; refine M0 (q_neqK rfl rfl rfl rfl (by assumption)) rfl rfl ?_; refine L_nil ?_; refine T_n ?_; refine A_ifF rfl ?_; refine A_skip ?_
  refine T_n ?_; refine A_seq ?_; refine A_seq ?_; refine A_region ?_; refine M0 (q_fldp rfl rfl rfl rfl (by decide)) rfl rfl ?_; refine M0 (q_ld1 rfl rfl rfl rfl rfl) rfl rfl ?_
  refine M0 (q_fldp rfl rfl rfl rfl (by decide)) rfl rfl ?_; refine M0 (q_ld1 rfl rfl rfl rfl rfl) rfl rfl ?_; refine M0 (q_neqK rfl rfl rfl rfl (by assumption)) rfl rfl ?_
  refine L_nil ?_; refine T_n ?_; refine A_ifF rfl ?_; refine A_skip ?_; refine T_n ?_; refine A_seq ?_; refine A_seq ?_; refine A_region ?_
  refine M0 (q_fldp rfl rfl rfl rfl (by decide)) rfl rfl ?_; refine M0 (q_ld1 rfl rfl rfl rfl rfl) rfl rfl ?_; refine M0 (q_fldp rfl rfl rfl rfl (by decide)) rfl rfl ?_
  refine M0 (q_ld1 rfl rfl rfl rfl rfl) rfl rfl ?_; refine M0 (q_neqK rfl rfl rfl rfl (by assumption)) rfl rfl ?_; refine L_nil ?_; refine T_n ?_; refine A_ifF rfl ?_; refine A_skip ?_
  refine T_n ?_; refine A_seq ?_; refine A_seq ?_; refine A_region ?_; refine M0 (q_fldp rfl rfl rfl rfl (by decide)) rfl rfl ?_; refine M0 (q_ld1 rfl rfl rfl rfl rfl) rfl rfl ?_
  refine M0 (q_fldp rfl rfl rfl rfl (by decide)) rfl rfl ?_; refine M0 (q_ld1 rfl rfl rfl rfl rfl) rfl rfl ?_; refine M0 (q_call0 rfl rfl (hc_Tracks) rfl) rfl rfl ?_
  refine M0 (q_not rfl rfl rfl) rfl rfl ?_; refine L_nil ?_; refine T_n ?_; refine A_ifF rfl ?_; refine A_skip ?_; refine T_n ?_; refine A_seq ?_; refine A_seq ?_; refine A_region ?_
  refine M0 (q_fldp rfl rfl rfl rfl (by decide)) rfl rfl ?_; refine M0 (q_ldN rfl rfl rfl rfl rfl rfl) rfl rfl ?_; refine M0 (q_fldp rfl rfl rfl rfl (by decide)) rfl rfl ?_
  refine M0 (q_ldN rfl rfl rfl rfl rfl rfl) rfl rfl ?_; refine M0 (q_call0 rfl rfl (hc_Base) rfl) rfl rfl ?_; refine M0 (q_not rfl rfl rfl) rfl rfl ?_; refine L_nil ?_; refine T_n ?_
  refine A_ifF rfl ?_; refine A_skip ?_; refine T_n ?_; refine A_seq ?_; refine A_seq ?_; refine A_region ?_; refine M0 (q_fldp rfl rfl rfl rfl (by decide)) rfl rfl ?_
  refine M0 (q_ldN rfl rfl rfl rfl rfl rfl) rfl rfl ?_; refine M0 (q_fldp rfl rfl rfl rfl (by decide)) rfl rfl ?_; refine M0 (q_ldN rfl rfl rfl rfl rfl rfl) rfl rfl ?_
  refine M0 (q_call0 rfl rfl (hc_Now) rfl) rfl rfl ?_; refine M0 (q_not rfl rfl rfl) rfl rfl ?_; refine L_nil ?_; refine T_n ?_; refine A_ifF rfl ?_; refine A_skip ?_; refine T_n ?_
  refine A_seq ?_; refine A_seq ?_; refine A_region ?_; refine M0 (q_fldp rfl rfl rfl rfl (by decide)) rfl rfl ?_; refine M0 (q_ld1 rfl rfl rfl rfl rfl) rfl rfl ?_
  refine M0 (q_fldp rfl rfl rfl rfl (by decide)) rfl rfl ?_; refine M0 (q_ld1 rfl rfl rfl rfl rfl) rfl rfl ?_; refine M0 (q_call0 rfl rfl (hc_Used) rfl) rfl rfl ?_
  refine M0 (q_not rfl rfl rfl) rfl rfl ?_; refine L_nil ?_; refine T_n ?_; refine A_ifF rfl ?_; refine A_skip ?_; refine T_n ?_; refine A_seq ?_; refine A_seq ?_; refine A_region ?_
  refine M0 (q_fldp rfl rfl rfl rfl (by decide)) rfl rfl ?_; refine M0 (q_ld1 rfl rfl rfl rfl rfl) rfl rfl ?_; refine M0 (q_fldp rfl rfl rfl rfl (by decide)) rfl rfl ?_
  refine M0 (q_ld1 rfl rfl rfl rfl rfl) rfl rfl ?_; refine M0 (q_call0 rfl rfl (hc_Saves) rfl) rfl rfl ?_; refine M0 (q_not rfl rfl rfl) rfl rfl ?_; refine L_nil ?_; refine T_n ?_
  refine A_ifF rfl ?_; refine A_skip ?_; refine T_n ?_; refine A_seq ?_; refine A_seq ?_; refine A_region ?_; refine M0 (q_fldp rfl rfl rfl rfl (by decide)) rfl rfl ?_
  refine M0 (q_ld1 rfl rfl rfl rfl rfl) rfl rfl ?_; refine M0 (q_fldp rfl rfl rfl rfl (by decide)) rfl rfl ?_; refine M0 (q_ld1 rfl rfl rfl rfl rfl) rfl rfl ?_
  refine M0 (q_call0 rfl rfl (hc_Sums) rfl) rfl rfl ?_; refine M0 (q_not rfl rfl rfl) rfl rfl ?_; refine L_nil ?_; refine T_n ?_; refine A_ifF rfl ?_; refine A_skip ?_; refine T_n ?_
  refine A_seq ?_; refine A_seq ?_; refine A_region ?_; refine M0 (q_fldp rfl rfl rfl rfl (by decide)) rfl rfl ?_; refine M0 (q_ldN rfl rfl rfl rfl rfl rfl) rfl rfl ?_
  refine M0 (q_fldp rfl rfl rfl rfl (by decide)) rfl rfl ?_; refine M0 (q_ldN rfl rfl rfl rfl rfl rfl) rfl rfl ?_; refine M0 (q_call0 rfl rfl (hc_Fault) rfl) rfl rfl ?_
  refine M0 (q_not rfl rfl rfl) rfl rfl ?_; refine L_nil ?_; refine T_n ?_; refine A_ifF rfl ?_; refine A_skip ?_; refine T_n ?_; refine A_seq ?_; refine A_seq ?_; refine A_region ?_
  refine M0 (q_fldp rfl rfl rfl rfl (by decide)) rfl rfl ?_; refine M0 (q_ld1 rfl rfl rfl rfl rfl) rfl rfl ?_; refine M0 (q_fldp rfl rfl rfl rfl (by decide)) rfl rfl ?_
  refine M0 (q_ld1 rfl rfl rfl rfl rfl) rfl rfl ?_; refine M0 (q_neqK rfl rfl rfl rfl (by assumption)) rfl rfl ?_; refine L_nil ?_; refine T_n ?_; refine A_ifF rfl ?_; refine A_skip ?_
  refine T_n ?_; refine A_seq ?_; refine A_seq ?_; refine A_region ?_; refine M0 (q_fldp rfl rfl rfl rfl (by decide)) rfl rfl ?_; refine M0 (q_ld1 rfl rfl rfl rfl rfl) rfl rfl ?_
  refine M0 (q_fldp rfl rfl rfl rfl (by decide)) rfl rfl ?_; refine M0 (q_ld1 rfl rfl rfl rfl rfl) rfl rfl ?_; refine M0 (q_neqK rfl rfl rfl rfl (by assumption)) rfl rfl ?_
  refine L_nil ?_; refine T_n ?_; refine A_ifF rfl ?_; refine A_skip ?_; refine T_n ?_; refine A_seq ?_; refine A_region ?_; refine M0 (q_assignC rfl rfl rfl) rfl rfl ?_; refine L_nil ?_
  refine T_n ?_; refine A_ret ?_; refine F_r ?_
  exact E_tmp rfl rfl (W_end [] (by decide) rfl rfl (B_eq (decide_eq_true (TPeer.same e_Me e_Delay e_Ahead e_Seed e_Tracks e_Base e_Now e_Used e_Saves e_Sums e_Fault e_Rolls e_Again)).symm))
end Go.Proofs.Ytbpebmolbdplmaa
end

section
set_option linter.unusedSimpArgs false
set_option linter.unusedVariables false
namespace Go.Proofs.Ytbpebmolbdplmaa
open Go.RowKit

@[reducible] def iv (n : Int) : V1 := .rd [] (.v (.int .i64 n))
set_option maxHeartbeats 8000000 in
theorem law_SnapshotOf (p : TPeer) (g_p : Enc.gd p) : Con Try.prog 5 [] [ag p] [] (B true) := by
  have hz_p := sz_Peer p (1048576) g_p (by omega) (by omega)
  by_cases n_p : (1048576 : Int) < Enc.wt p
  · rw [szr_neg n_p] at hz_p
    refine Con.of Try.func5 rfl Try.ntmps5 rfl (fun E => ?_)
    refine A_seq ?_; refine A_region ?_; refine M1 (q_boxN rfl rfl rfl rfl) rfl rfl ?_; refine M0 (q_assignC rfl rfl rfl) rfl rfl ?_; refine L_nil ?_; refine T_n ?_; refine A_seq ?_
    refine A_region ?_; refine M0 (q_assignC rfl rfl rfl) rfl rfl ?_; refine L_nil ?_; refine T_n ?_; refine A_seq ?_; refine A_region ?_; refine M0 (q_ldN rfl rfl rfl rfl rfl rfl) rfl rfl ?_
    refine M0 (q_moveC rfl rfl rfl) rfl rfl ?_; refine M0 (q_call0 rfl rfl (hz_p) rfl) rfl rfl ?_; refine M0 (q_assignC rfl rfl rfl) rfl rfl ?_; refine L_nil ?_; refine T_n ?_; refine A_seq ?_
    refine A_seq ?_; refine A_region ?_; refine M0 (q_moveC rfl rfl rfl) rfl rfl ?_; refine M0 (q_lssK (b := true) rfl rfl rfl rfl (by decide)) rfl rfl ?_; refine L_nil ?_; refine T_n ?_
    refine A_ifT rfl ?_; refine A_seq ?_; refine A_region ?_; refine M0 (q_assignC rfl rfl rfl) rfl rfl ?_; refine L_nil ?_; refine T_n ?_; refine A_ret ?_; refine T_r ?_; refine F_r ?_
    exact E_tmp rfl rfl (W_end [] (by decide) rfl rfl rfl)
  rw [szr_pos (by omega)] at hz_p
  have hb_p : decide ((1048576 : Int) - Enc.wt p < 0) = false := decide_eq_false (by omega)
  have ht_p := to_Peer p (by omega)
  have hq_p := eq_Peer p p g_p
  rw [decide_eq_true rfl] at hq_p
  have hsp := S_SnapshotOf p g_p
  have hip := I_SnapshotOf p g_p
  generalize snapshotOf p = y at hsp hip
  refine Con.of Try.func5 rfl Try.ntmps5 rfl (fun E => ?_)
  refine A_seq ?_; refine A_region ?_; refine M1 (q_boxN rfl rfl rfl rfl) rfl rfl ?_; refine M0 (q_assignC rfl rfl rfl) rfl rfl ?_; refine L_nil ?_; refine T_n ?_; refine A_seq ?_
  refine A_region ?_; refine M0 (q_assignC rfl rfl rfl) rfl rfl ?_; refine L_nil ?_; refine T_n ?_; refine A_seq ?_; refine A_region ?_; refine M0 (q_ldN rfl rfl rfl rfl rfl rfl) rfl rfl ?_
  refine M0 (q_moveC rfl rfl rfl) rfl rfl ?_; refine M0 (q_call0 rfl rfl (hz_p) rfl) rfl rfl ?_; refine M0 (q_assignC rfl rfl rfl) rfl rfl ?_; refine L_nil ?_; refine T_n ?_; refine A_seq ?_
  refine A_seq ?_; refine A_region ?_; refine M0 (q_moveC rfl rfl rfl) rfl rfl ?_; refine M0 (q_lssK rfl rfl rfl rfl (by assumption)) rfl rfl ?_; refine L_nil ?_; refine T_n ?_
  refine A_ifF rfl ?_; refine A_skip ?_; refine T_n ?_; refine A_seq ?_; refine A_region ?_; refine M0 (q_ldN rfl rfl rfl rfl rfl rfl) rfl rfl ?_
  refine M1 (q_call rfl rfl (ht_p) rfl rfl rfl) rfl rfl ?_
  refine AL.weak (st' := (⟨_, [(1, .o (.c (.ptr 0 0))), (13, .o (.ag [iv p.Me, iv p.Delay, iv p.Ahead, iv p.Seed, .ref 1, .ref 2, iv p.Base.Tick, iv p.Base.Seed, .ref 3, .ref 4, .ref 5, iv p.Now.Tick, iv p.Now.Seed, .ref 6, .ref 7, .ref 8, .ref 9, .ref 10, iv p.Fault.Tick, iv p.Fault.Player, iv p.Fault.Add, iv p.Rolls, iv p.Again]))], [.box ((Enc.e p).map (V1.rd [])), .row 1 (els p.Tracks), .row 1 (els p.Base.Level.Rows), .row 1 (els p.Base.Scores), .row 9 (els p.Base.Bodies), .row 1 (els p.Now.Level.Rows), .row 1 (els p.Now.Scores), .row 9 (els p.Now.Bodies), .row 1 (els p.Used), .row 2 (els p.Saves), .row 1 (els p.Sums)]⟩ : St)) (W_go [0, 1, 2, 3, 4, 5, 6, 7, 8, 9, 10] (by decide) rfl ((by kernel_rfl)) (.cons rfl (.cons rfl (.nil)))) ?_
  refine M0 (q_call0 rfl rfl (hsp) rfl) rfl rfl ?_
  refine AL.weak (st' := (⟨_, [(1, .o (.c (.ptr 0 0))), (14, S y)], [.box ((Enc.e p).map (V1.rd []))]⟩ : St)) (W_go [0] (by decide) rfl (rfl) (.cons rfl (.cons rfl (.nil)))) ?_
  refine M0 (q_assignC rfl rfl rfl) rfl rfl ?_; refine L_nil ?_; refine T_n ?_; refine A_seq ?_; refine A_region ?_; refine M0 (q_ldN rfl rfl rfl rfl rfl rfl) rfl rfl ?_
  refine M1 (q_call rfl rfl (ht_p) rfl rfl rfl) rfl rfl ?_
  refine AL.weak (st' := (⟨_, [(1, .o (.c (.ptr 0 0))), (4, S y), (16, .o (.ag [iv p.Me, iv p.Delay, iv p.Ahead, iv p.Seed, .ref 1, .ref 2, iv p.Base.Tick, iv p.Base.Seed, .ref 3, .ref 4, .ref 5, iv p.Now.Tick, iv p.Now.Seed, .ref 6, .ref 7, .ref 8, .ref 9, .ref 10, iv p.Fault.Tick, iv p.Fault.Player, iv p.Fault.Add, iv p.Rolls, iv p.Again]))], [.box ((Enc.e p).map (V1.rd [])), .row 1 (els p.Tracks), .row 1 (els p.Base.Level.Rows), .row 1 (els p.Base.Scores), .row 9 (els p.Base.Bodies), .row 1 (els p.Now.Level.Rows), .row 1 (els p.Now.Scores), .row 9 (els p.Now.Bodies), .row 1 (els p.Used), .row 2 (els p.Saves), .row 1 (els p.Sums)]⟩ : St)) (W_go [0, 1, 2, 3, 4, 5, 6, 7, 8, 9, 10] (by decide) rfl ((by kernel_rfl)) (.cons rfl (.cons rfl (.cons rfl (.nil))))) ?_
  refine M1 (q_alloc rfl rfl rfl) rfl rfl ?_
  refine M_stN rfl rfl rfl rfl rfl rfl rfl rfl rfl ?_
  refine AL.weak (st' := (⟨_, [(1, .o (.c (.ptr 0 0))), (4, S y), (5, .o (.c (.ptr 11 0)))], [.box ((Enc.e p).map (V1.rd [])), .row 1 (els p.Tracks), .row 1 (els p.Base.Level.Rows), .row 1 (els p.Base.Scores), .row 9 (els p.Base.Bodies), .row 1 (els p.Now.Level.Rows), .row 1 (els p.Now.Scores), .row 9 (els p.Now.Bodies), .row 1 (els p.Used), .row 2 (els p.Saves), .row 1 (els p.Sums), .box [iv p.Me, iv p.Delay, iv p.Ahead, iv p.Seed, .ref 1, .ref 2, iv p.Base.Tick, iv p.Base.Seed, .ref 3, .ref 4, .ref 5, iv p.Now.Tick, iv p.Now.Seed, .ref 6, .ref 7, .ref 8, .ref 9, .ref 10, iv p.Fault.Tick, iv p.Fault.Player, iv p.Fault.Add, iv p.Rolls, iv p.Again]]⟩ : St)) (W_go [0, 1, 2, 3, 4, 5, 6, 7, 8, 9, 10, 11] (by decide) rfl ((by kernel_rfl)) (.cons rfl (.cons rfl (.cons rfl (.nil))))) ?_
  refine L_nil ?_; refine T_n ?_; refine A_seq ?_; refine A_region ?_
  refine M0 (q_ldN rfl rfl rfl rfl rfl rfl) rfl rfl ?_
  refine AL.weak (st' := (⟨_, [(1, .o (.c (.ptr 0 0))), (4, S y), (5, .o (.c (.ptr 11 0))), (17, .o (.ag [iv p.Me, iv p.Delay, iv p.Ahead, iv p.Seed, .ref 1, .ref 2, iv p.Base.Tick, iv p.Base.Seed, .ref 3, .ref 4, .ref 5, iv p.Now.Tick, iv p.Now.Seed, .ref 6, .ref 7, .ref 8, .ref 9, .ref 10, iv p.Fault.Tick, iv p.Fault.Player, iv p.Fault.Add, iv p.Rolls, iv p.Again]))], [.box ((Enc.e p).map (V1.rd [])), .row 1 (els p.Tracks), .row 1 (els p.Base.Level.Rows), .row 1 (els p.Base.Scores), .row 9 (els p.Base.Bodies), .row 1 (els p.Now.Level.Rows), .row 1 (els p.Now.Scores), .row 9 (els p.Now.Bodies), .row 1 (els p.Used), .row 2 (els p.Saves), .row 1 (els p.Sums), .box [iv p.Me, iv p.Delay, iv p.Ahead, iv p.Seed, .ref 1, .ref 2, iv p.Base.Tick, iv p.Base.Seed, .ref 3, .ref 4, .ref 5, iv p.Now.Tick, iv p.Now.Seed, .ref 6, .ref 7, .ref 8, .ref 9, .ref 10, iv p.Fault.Tick, iv p.Fault.Player, iv p.Fault.Add, iv p.Rolls, iv p.Again]]⟩ : St)) (W_go [0, 1, 2, 3, 4, 5, 6, 7, 8, 9, 10, 11] (by decide) rfl ((by kernel_rfl)) (.cons rfl (.cons rfl (.cons rfl (.cons rfl (.nil)))))) ?_
  refine M0 (q_call0 rfl rfl (hip) rfl) rfl rfl ?_
  refine AL.weak (st' := (⟨_, [(1, .o (.c (.ptr 0 0))), (4, S y), (5, .o (.c (.ptr 11 0))), (18, S y)], [.box ((Enc.e p).map (V1.rd [])), .row 1 (els p.Tracks), .row 1 (els p.Base.Level.Rows), .row 1 (els p.Base.Scores), .row 9 (els p.Base.Bodies), .row 1 (els p.Now.Level.Rows), .row 1 (els p.Now.Scores), .row 9 (els p.Now.Bodies), .row 1 (els p.Used), .row 2 (els p.Saves), .row 1 (els p.Sums), .box [iv p.Me, iv p.Delay, iv p.Ahead, iv p.Seed, .ref 1, .ref 2, iv p.Base.Tick, iv p.Base.Seed, .ref 3, .ref 4, .ref 5, iv p.Now.Tick, iv p.Now.Seed, .ref 6, .ref 7, .ref 8, .ref 9, .ref 10, iv p.Fault.Tick, iv p.Fault.Player, iv p.Fault.Add, iv p.Rolls, iv p.Again]]⟩ : St)) (W_go [0, 1, 2, 3, 4, 5, 6, 7, 8, 9, 10, 11] (by decide) rfl ((by kernel_rfl)) (.cons rfl (.cons rfl (.cons rfl (.cons rfl (.nil)))))) ?_
  refine M0 (q_assignC rfl rfl rfl) rfl rfl ?_; refine L_nil ?_; refine T_n ?_; refine A_seq ?_; refine A_seq ?_; refine A_region ?_; refine M0 (q_moveC rfl rfl rfl) rfl rfl ?_
  refine M0 (q_moveC rfl rfl rfl) rfl rfl ?_; refine M0 (q_sneqR rfl rfl rfl rfl) rfl rfl ?_; refine L_nil ?_; refine T_n ?_; refine A_ifF rfl ?_; refine A_skip ?_; refine T_n ?_; refine A_seq ?_
  refine A_seq ?_
  refine AWP.pre (st' := (⟨_, [(1, .o (.c (.ptr 0 0))), (5, .o (.c (.ptr 11 0)))], [.box ((Enc.e p).map (V1.rd [])), .row 1 (els p.Tracks), .row 1 (els p.Base.Level.Rows), .row 1 (els p.Base.Scores), .row 9 (els p.Base.Bodies), .row 1 (els p.Now.Level.Rows), .row 1 (els p.Now.Scores), .row 9 (els p.Now.Bodies), .row 1 (els p.Used), .row 2 (els p.Saves), .row 1 (els p.Sums), .box [iv p.Me, iv p.Delay, iv p.Ahead, iv p.Seed, .ref 1, .ref 2, iv p.Base.Tick, iv p.Base.Seed, .ref 3, .ref 4, .ref 5, iv p.Now.Tick, iv p.Now.Seed, .ref 6, .ref 7, .ref 8, .ref 9, .ref 10, iv p.Fault.Tick, iv p.Fault.Player, iv p.Fault.Add, iv p.Rolls, iv p.Again]]⟩ : St)) ?_ (W_go [0, 1, 2, 3, 4, 5, 6, 7, 8, 9, 10, 11] (by decide) rfl ((by kernel_rfl)) (.cons rfl (.cons rfl (.nil))))
  refine A_draw [[], [], [1], [0, 1, 2], [0, 1, 2, 3]] [[], [], [23], [22, 23, 24], [22, 23, 24, 25]] [[23, 24], [22], [22], [], []] rfl ?_
  refine DR.step (q_ldN rfl rfl rfl rfl rfl rfl) rfl rfl ?_; refine DR.step (q_ldN rfl rfl rfl rfl rfl rfl) rfl rfl ?_; refine DR.step (q_call rfl rfl (ht_p) rfl rfl rfl) rfl rfl ?_
  refine DR.step (q_call0 rfl rfl (hq_p) rfl) rfl rfl ?_; refine DR.step (q_not rfl rfl rfl) rfl rfl ?_; refine DR.stop (by kernel_rfl) (by kernel_rfl) ?_
  refine L_nil ?_; refine T_n ?_
  refine AWP.pre (st' := (⟨_, [(26, B false)], []⟩ : St)) ?_ (W_go [] (by decide) rfl (rfl) (.cons rfl (.nil)))
  refine A_ifF rfl ?_; refine A_skip ?_; refine T_n ?_; refine A_seq ?_; refine A_region ?_; refine M0 (q_assignC rfl rfl rfl) rfl rfl ?_; refine L_nil ?_; refine T_n ?_; refine A_ret ?_
  refine F_r ?_
  exact E_tmp rfl rfl (W_end [] (by decide) rfl rfl rfl)
end Go.Proofs.Ytbpebmolbdplmaa
end

section
set_option linter.unusedVariables false
namespace Go.Proofs.Ytbpebmolbdplmaa
open Go.ChangeShapes Go.WideShapes Go.ChangeAt Go.RowKit

def RL (w : World) (ts : List T) (cs : List Value) : Prop := ∀ (j : Nat) (t : T) (u : Value), ts[j]? = some t → cs[j]? = some u → RO w (fun _ => True) t u
theorem RL.nil {w : World} {cs : List Value} : RL w [] cs := fun _ _ _ h => by simp at h
theorem RL.app {w : World} {ts us : List T} {cs : List Value} {o n : Nat} (h1 : RL w ts ((cs.drop o).take n)) (hn : ts.length = n) (h2 : RL w us (cs.drop (o + n))) : RL w (ts ++ us) (cs.drop o) := fun j t u h3 h4 => by
  rcases Nat.lt_or_ge j ts.length with hj | hj
  · rw [List.getElem?_append_left hj] at h3
    exact h1 j t u h3 (by rw [List.getElem?_take, if_pos (by omega)]; exact h4)
  · rw [List.getElem?_append_right hj] at h3
    refine h2 (j - ts.length) t u h3 ?_
    rw [List.getElem?_drop] at h4 ⊢
    rw [← h4]
    congr 1
    omega
theorem reads_fld {P : Program} {t tt : TypeId} {fs : Array Field} {f : Field} {α : Type} [Enc α] {H : Type} {enc : TypeId × Value → H} {w : World} {spare : Nat → Bool} {held : Bool} {fuel : Nat} {cs : List Value} {x : DataW H × List MemPlace}
    (ht : P.underlying t = some (.struct fs)) (h : DataW.trod enc P w 0 spare held fuel t cs = some x) (i : Nat) (hf : fs[i]? = some f) (hty : f.type = tt) [hα : RdOf P tt α] {o : Nat} (ho : f.offset = o) :
    ∃ y : α, Enc.gd y ∧ RL w (Enc.e y) ((cs.drop o).take (Enc.k α)) := by
  obtain ⟨xs, n, _, _, hl, hlen, hfs⟩ := DataW.trod_struct ht h
  have h1 := hfs i f hf
  have hi : i < fs.size := by
    rcases Nat.lt_or_ge i fs.size with h2 | h2
    · exact h2
    · rw [Array.getElem?_eq_none h2] at hf; cases hf
  rw [List.getElem?_eq_getElem (by omega), hty, ho, hα.size] at h1
  obtain ⟨y, hg, hr⟩ := hα.of h1
  exact ⟨y, hg, hr.2⟩
theorem reads_len {P : Program} {t : TypeId} {fs : Array Field} {H : Type} {enc : TypeId × Value → H} {w : World} {spare : Nat → Bool} {held : Bool} {fuel : Nat} {cs : List Value} {x : DataW H × List MemPlace}
    (ht : P.underlying t = some (.struct fs)) (h : DataW.trod enc P w 0 spare held fuel t cs = some x) : cs.length = P.cellsOf t := by
  obtain ⟨xs, n, _, _, hl, _⟩ := DataW.trod_struct ht h
  exact hl

instance : RdOf Try.prog 3 Int := rdOf_int Try.underlying3 (by kernel_rfl)
instance : RdOf Try.prog 9 ByteArray := rdOf_string Try.underlying9 (by kernel_rfl)
instance : RdOf Try.prog 26 (List Int) := rdOf_slice Try.underlying26 (by kernel_rfl)
instance : RdOf Try.prog 23 (List ByteArray) := rdOf_slice Try.underlying23 (by kernel_rfl)
instance : RdOf Try.prog 30 (List (List Int)) := rdOf_slice Try.underlying30 (by kernel_rfl)
instance : RdOf Try.prog 25 TLevel where
  size := by kernel_rfl
  of {H enc w spare held fuel cs x} h := by
    obtain ⟨y0, g0, r0⟩ := reads_fld (α := (List ByteArray)) (tt := 23) Try.underlying25 h 0 rfl rfl rfl
    refine ⟨⟨y0⟩, g0, ?_, ?_⟩
    · rw [reads_len Try.underlying25 h]; kernel_rfl
    · exact (RL.app (o := 0) (n := 1) r0 rfl (RL.nil) : RL w _ (cs.drop 0))
end Go.Proofs.Ytbpebmolbdplmaa
end

section
set_option linter.unusedVariables false
namespace Go.Proofs.Ytbpebmolbdplmaa
open Go.ChangeShapes Go.WideShapes Go.ChangeAt Go.RowKit

instance : RdOf Try.prog 184 TBody where
  size := by kernel_rfl
  of {H enc w spare held fuel cs x} h := by
    obtain ⟨y0, g0, r0⟩ := reads_fld (α := Int) (tt := 3) Try.underlying184 h 0 rfl rfl rfl
    obtain ⟨y1, g1, r1⟩ := reads_fld (α := Int) (tt := 3) Try.underlying184 h 1 rfl rfl rfl
    obtain ⟨y2, g2, r2⟩ := reads_fld (α := Int) (tt := 3) Try.underlying184 h 2 rfl rfl rfl
    obtain ⟨y3, g3, r3⟩ := reads_fld (α := Int) (tt := 3) Try.underlying184 h 3 rfl rfl rfl
    obtain ⟨y4, g4, r4⟩ := reads_fld (α := Int) (tt := 3) Try.underlying184 h 4 rfl rfl rfl
    obtain ⟨y5, g5, r5⟩ := reads_fld (α := Int) (tt := 3) Try.underlying184 h 5 rfl rfl rfl
    obtain ⟨y6, g6, r6⟩ := reads_fld (α := Int) (tt := 3) Try.underlying184 h 6 rfl rfl rfl
    obtain ⟨y7, g7, r7⟩ := reads_fld (α := Int) (tt := 3) Try.underlying184 h 7 rfl rfl rfl
    obtain ⟨y8, g8, r8⟩ := reads_fld (α := Int) (tt := 3) Try.underlying184 h 8 rfl rfl rfl
    refine ⟨⟨y0, y1, y2, y3, y4, y5, y6, y7, y8⟩, ⟨g0, g1, g2, g3, g4, g5, g6, g7, g8⟩, ?_, ?_⟩
    · rw [reads_len Try.underlying184 h]; kernel_rfl
    · exact (RL.app (o := 0) (n := 1) r0 rfl (RL.app (o := 1) (n := 1) r1 rfl (RL.app (o := 2) (n := 1) r2 rfl (RL.app (o := 3) (n := 1) r3 rfl (RL.app (o := 4) (n := 1) r4 rfl (RL.app (o := 5) (n := 1) r5 rfl (RL.app (o := 6) (n := 1) r6 rfl (RL.app (o := 7) (n := 1) r7 rfl (RL.app (o := 8) (n := 1) r8 rfl (RL.nil))))))))) : RL w _ (cs.drop 0))
instance : RdOf Try.prog 27 (List TBody) := rdOf_slice Try.underlying27 (by kernel_rfl)
instance : RdOf Try.prog 29 TWorld where
  size := by kernel_rfl
  of {H enc w spare held fuel cs x} h := by
    obtain ⟨y0, g0, r0⟩ := reads_fld (α := TLevel) (tt := 25) Try.underlying29 h 0 rfl rfl rfl
    obtain ⟨y1, g1, r1⟩ := reads_fld (α := Int) (tt := 3) Try.underlying29 h 1 rfl rfl rfl
    obtain ⟨y2, g2, r2⟩ := reads_fld (α := Int) (tt := 3) Try.underlying29 h 2 rfl rfl rfl
    obtain ⟨y3, g3, r3⟩ := reads_fld (α := (List Int)) (tt := 26) Try.underlying29 h 3 rfl rfl rfl
    obtain ⟨y4, g4, r4⟩ := reads_fld (α := (List TBody)) (tt := 27) Try.underlying29 h 4 rfl rfl rfl
    refine ⟨⟨y0, y1, y2, y3, y4⟩, ⟨g0, g1, g2, g3, g4⟩, ?_, ?_⟩
    · rw [reads_len Try.underlying29 h]; kernel_rfl
    · exact (RL.app (o := 0) (n := 1) r0 rfl (RL.app (o := 1) (n := 1) r1 rfl (RL.app (o := 2) (n := 1) r2 rfl (RL.app (o := 3) (n := 1) r3 rfl (RL.app (o := 4) (n := 1) r4 rfl (RL.nil))))) : RL w _ (cs.drop 0))
end Go.Proofs.Ytbpebmolbdplmaa
end

section
set_option linter.unusedVariables false
namespace Go.Proofs.Ytbpebmolbdplmaa
open Go.ChangeShapes Go.WideShapes Go.ChangeAt Go.RowKit

instance : RdOf Try.prog 126 TTrack where
  size := by kernel_rfl
  of {H enc w spare held fuel cs x} h := by
    obtain ⟨y0, g0, r0⟩ := reads_fld (α := (List Int)) (tt := 26) Try.underlying126 h 0 rfl rfl rfl
    refine ⟨⟨y0⟩, g0, ?_, ?_⟩
    · rw [reads_len Try.underlying126 h]; kernel_rfl
    · exact (RL.app (o := 0) (n := 1) r0 rfl (RL.nil) : RL w _ (cs.drop 0))
instance : RdOf Try.prog 22 (List TTrack) := rdOf_slice Try.underlying22 (by kernel_rfl)
instance : RdOf Try.prog 130 TSave where
  size := by kernel_rfl
  of {H enc w spare held fuel cs x} h := by
    obtain ⟨y0, g0, r0⟩ := reads_fld (α := Int) (tt := 3) Try.underlying130 h 0 rfl rfl rfl
    obtain ⟨y1, g1, r1⟩ := reads_fld (α := ByteArray) (tt := 9) Try.underlying130 h 1 rfl rfl rfl
    refine ⟨⟨y0, y1⟩, ⟨g0, g1⟩, ?_, ?_⟩
    · rw [reads_len Try.underlying130 h]; kernel_rfl
    · exact (RL.app (o := 0) (n := 1) r0 rfl (RL.app (o := 1) (n := 1) r1 rfl (RL.nil)) : RL w _ (cs.drop 0))
instance : RdOf Try.prog 31 (List TSave) := rdOf_slice Try.underlying31 (by kernel_rfl)
instance : RdOf Try.prog 33 TFault where
  size := by kernel_rfl
  of {H enc w spare held fuel cs x} h := by
    obtain ⟨y0, g0, r0⟩ := reads_fld (α := Int) (tt := 3) Try.underlying33 h 0 rfl rfl rfl
    obtain ⟨y1, g1, r1⟩ := reads_fld (α := Int) (tt := 3) Try.underlying33 h 1 rfl rfl rfl
    obtain ⟨y2, g2, r2⟩ := reads_fld (α := Int) (tt := 3) Try.underlying33 h 2 rfl rfl rfl
    refine ⟨⟨y0, y1, y2⟩, ⟨g0, g1, g2⟩, ?_, ?_⟩
    · rw [reads_len Try.underlying33 h]; kernel_rfl
    · exact (RL.app (o := 0) (n := 1) r0 rfl (RL.app (o := 1) (n := 1) r1 rfl (RL.app (o := 2) (n := 1) r2 rfl (RL.nil))) : RL w _ (cs.drop 0))
instance : RdOf Try.prog 51 TPacket where
  size := by kernel_rfl
  of {H enc w spare held fuel cs x} h := by
    obtain ⟨y0, g0, r0⟩ := reads_fld (α := Int) (tt := 3) Try.underlying51 h 0 rfl rfl rfl
    obtain ⟨y1, g1, r1⟩ := reads_fld (α := Int) (tt := 3) Try.underlying51 h 1 rfl rfl rfl
    obtain ⟨y2, g2, r2⟩ := reads_fld (α := Int) (tt := 3) Try.underlying51 h 2 rfl rfl rfl
    obtain ⟨y3, g3, r3⟩ := reads_fld (α := (List Int)) (tt := 26) Try.underlying51 h 3 rfl rfl rfl
    obtain ⟨y4, g4, r4⟩ := reads_fld (α := (List Int)) (tt := 26) Try.underlying51 h 4 rfl rfl rfl
    obtain ⟨y5, g5, r5⟩ := reads_fld (α := Int) (tt := 3) Try.underlying51 h 5 rfl rfl rfl
    obtain ⟨y6, g6, r6⟩ := reads_fld (α := Int) (tt := 3) Try.underlying51 h 6 rfl rfl rfl
    obtain ⟨y7, g7, r7⟩ := reads_fld (α := Int) (tt := 3) Try.underlying51 h 7 rfl rfl rfl
    obtain ⟨y8, g8, r8⟩ := reads_fld (α := Int) (tt := 3) Try.underlying51 h 8 rfl rfl rfl
    refine ⟨⟨y0, y1, y2, y3, y4, y5, y6, y7, y8⟩, ⟨g0, g1, g2, g3, g4, g5, g6, g7, g8⟩, ?_, ?_⟩
    · rw [reads_len Try.underlying51 h]; kernel_rfl
    · exact (RL.app (o := 0) (n := 1) r0 rfl (RL.app (o := 1) (n := 1) r1 rfl (RL.app (o := 2) (n := 1) r2 rfl (RL.app (o := 3) (n := 1) r3 rfl (RL.app (o := 4) (n := 1) r4 rfl (RL.app (o := 5) (n := 1) r5 rfl (RL.app (o := 6) (n := 1) r6 rfl (RL.app (o := 7) (n := 1) r7 rfl (RL.app (o := 8) (n := 1) r8 rfl (RL.nil))))))))) : RL w _ (cs.drop 0))
instance : RdOf Try.prog 35 TPeer where
  size := by kernel_rfl
  of {H enc w spare held fuel cs x} h := by
    obtain ⟨y0, g0, r0⟩ := reads_fld (α := Int) (tt := 3) Try.underlying35 h 0 rfl rfl rfl
    obtain ⟨y1, g1, r1⟩ := reads_fld (α := Int) (tt := 3) Try.underlying35 h 1 rfl rfl rfl
    obtain ⟨y2, g2, r2⟩ := reads_fld (α := Int) (tt := 3) Try.underlying35 h 2 rfl rfl rfl
    obtain ⟨y3, g3, r3⟩ := reads_fld (α := Int) (tt := 3) Try.underlying35 h 3 rfl rfl rfl
    obtain ⟨y4, g4, r4⟩ := reads_fld (α := (List TTrack)) (tt := 22) Try.underlying35 h 4 rfl rfl rfl
    obtain ⟨y5, g5, r5⟩ := reads_fld (α := TWorld) (tt := 29) Try.underlying35 h 5 rfl rfl rfl
    obtain ⟨y6, g6, r6⟩ := reads_fld (α := TWorld) (tt := 29) Try.underlying35 h 6 rfl rfl rfl
    obtain ⟨y7, g7, r7⟩ := reads_fld (α := (List (List Int))) (tt := 30) Try.underlying35 h 7 rfl rfl rfl
    obtain ⟨y8, g8, r8⟩ := reads_fld (α := (List TSave)) (tt := 31) Try.underlying35 h 8 rfl rfl rfl
    obtain ⟨y9, g9, r9⟩ := reads_fld (α := (List Int)) (tt := 26) Try.underlying35 h 9 rfl rfl rfl
    obtain ⟨y10, g10, r10⟩ := reads_fld (α := TFault) (tt := 33) Try.underlying35 h 10 rfl rfl rfl
    obtain ⟨y11, g11, r11⟩ := reads_fld (α := Int) (tt := 3) Try.underlying35 h 11 rfl rfl rfl
    obtain ⟨y12, g12, r12⟩ := reads_fld (α := Int) (tt := 3) Try.underlying35 h 12 rfl rfl rfl
    refine ⟨⟨y0, y1, y2, y3, y4, y5, y6, y7, y8, y9, y10, y11, y12⟩, ⟨g0, g1, g2, g3, g4, g5, g6, g7, g8, g9, g10, g11, g12⟩, ?_, ?_⟩
    · rw [reads_len Try.underlying35 h]; kernel_rfl
    · exact (RL.app (o := 0) (n := 1) r0 rfl (RL.app (o := 1) (n := 1) r1 rfl (RL.app (o := 2) (n := 1) r2 rfl (RL.app (o := 3) (n := 1) r3 rfl (RL.app (o := 4) (n := 1) r4 rfl (RL.app (o := 5) (n := 5) r5 rfl (RL.app (o := 10) (n := 5) r6 rfl (RL.app (o := 15) (n := 1) r7 rfl (RL.app (o := 16) (n := 1) r8 rfl (RL.app (o := 17) (n := 1) r9 rfl (RL.app (o := 18) (n := 3) r10 rfl (RL.app (o := 21) (n := 1) r11 rfl (RL.app (o := 22) (n := 1) r12 rfl (RL.nil))))))))))))) : RL w _ (cs.drop 0))
end Go.Proofs.Ytbpebmolbdplmaa
end
