/-
  A literal slice becomes an owned slice; comparing a slice with nil. No statement of the program is proved here.
  Conditions: none.
  The parts' names: PartsOf, in the program and in the reference.
  Conditions: lists of at most 2^20 elements.
  Marks of worlds and spectators. No statement of the program is proved here.
  Conditions: lists of at most 2^20 elements.
  The law FnExactPartsOf returns true.
  Conditions: none.
  The kit's readings of the laws' structs as Lean data. No statement of the program is proved here.
  Conditions: none.
  The kit's readings of the laws' bodies and worlds as Lean data. No statement of the program is proved here.
  Conditions: none.
-/
import Derived.Lib.LazyBuf
import Derived.Test.YtkfnaniegldfaaaDoorDDPartsRowk11
section
set_option linter.unusedSimpArgs false
set_option linter.unusedVariables false
namespace Go.Proofs.YtkfnaniegldfaaaDoor
open Go.RowKit

def V1.tosr (q : Nat) : V1 → V1
  | .sb p n k => match Nat.beq p q with
    | true => match k with
      | 1 => .ref q
      | _ => .un
    | false => (V1.sb p n k).kill [q]
  | x => x.kill [q]
/-- A literal slice of plain values is a slice of one's own. -/
theorem Wk.sbrow {st : St} {q : Nat} {cs : List V1} {es : List (List T)} (hq : st.objs[q]? = some (.box cs)) (hs : sbE cs = some es) (hm : cs.length ≤ maxLen) : Wk st ⟨st.n, st.tmps.map fun t => (t.1, t.2.mapk (V1.tosr q)), (st.objs.map (Ob.mapk (V1.tosr q))).set q (.row 1 es)⟩ := by
  intro w H F a h1
  obtain ⟨hel, hes⟩ := sbE_ok cs es hs
  have hb := h1.obs q
  rw [getD_of hq] at hb
  obtain ⟨g, t, vs, e1, e2, e3⟩ := hb
  have hsay := h1.ok.says q
  rw [e1] at hsay
  have hg : w.heap[g]? = some (.cells vs.toArray t (0, 0)) := hsay
  have hqlt := getE_lt hq
  have hplain : ∀ (i : Nat) (e : List T), es[i]? = some e → ∃ u, vs[i]? = some u ∧ e = [.v u] ∧ u.oneCell' = true := fun i e hi => by
    obtain ⟨ps, u, h2, h3⟩ := hes i e hi
    have hil := getE_lt h2
    have hiv : vs[i]? = some (vs[i]'(by omega)) := List.getElem?_eq_getElem (by omega)
    obtain ⟨h4, h5⟩ := e3 i _ _ h2 hiv
    obtain ⟨h6, h7⟩ := RO.plain h4
    exact ⟨u, by rw [hiv, h6], h3, h7⟩
  obtain ⟨f, hf⟩ : ∃ f : Nat → Value, f = fun i => vs.getD i undef := ⟨_, rfl⟩
  have hOW : ∃ fp, OW w (.sl 1 es) (.slice (some ⟨g, 0, none⟩) es.length vs.length) fp ∧ (∀ b ∈ fp, b = g) ∧ fp.Nodup := by
    refine ⟨g :: (List.replicate es.length [([] : List Nat)]).flatten.flatten, OW.sl es g 0 1 vs.length t vs.toArray (0, 0) (fun i _ => vs.getD i undef) (List.replicate es.length [[]]) hg (.inl rfl) (by omega) (by omega) (by simp) (by omega) (fun e he => ?_) (by simp) (fun fs hfs => by rw [List.eq_of_mem_replicate hfs]; rfl) (fun i j hi hj => ?_) (fun i j e tt fs ff k1 k2 k3 k4 => ?_), ?_, ?_⟩
    · obtain ⟨i, hi⟩ := List.getElem?_of_mem he
      obtain ⟨u, _, h3, _⟩ := hplain i e hi
      rw [h3]; rfl
    · have h2 : i < vs.length := by omega
      have h3 : j = 0 := by omega
      subst h3
      simp [List.getD_eq_getElem?_getD, h2]
    · obtain ⟨u, h3, h4, h5⟩ := hplain i e k1
      subst h4
      have hj : j = 0 := by have := getE_lt k2; simp at this; exact this
      subst hj
      simp at k2
      subst k2
      have hfs : fs = [[]] := List.eq_of_mem_replicate (getE_mem k3)
      subst hfs
      simp at k4
      subst k4
      have h6 : vs.getD i undef = u := getD_of h3
      rw [h6]
      exact .v u h5
    · intro b hb
      simpa using hb
    · simp
  obtain ⟨fp, hO, hfp, hnd⟩ := hOW
  have hkeep : Keeps w w [g] := ⟨rfl, rfl, rfl, Nat.le_refl _, fun _ _ _ => rfl⟩
  obtain ⟨hok, htn⟩ := h1.ok.turn (p := q) (fp := [g]) (by rw [e1]; rfl) hkeep (.ow (.sl 1 es) (.slice (some ⟨g, 0, none⟩) es.length vs.length) fp) hO hnd trivial (fun b hb => .inl (by simp [hfp b hb]))
  have hone : ∀ x v, R1 w H F x v → R1 w (H.put q (.ow (.sl 1 es) (.slice (some ⟨g, 0, none⟩) es.length vs.length) fp)) F (V1.tosr q x) v := fun x v hx => by
    cases x with
    | sb p n k =>
      simp only [V1.tosr]
      split
      · rename_i hp
        have hpq := Nat.eq_of_beq_eq_true hp
        subst hpq
        split
        · obtain ⟨g', t', vs', k1, k2, k3, k4⟩ := hx
          rw [e1] at k1
          simp only [Pc.box.injEq] at k1
          obtain ⟨rfl, rfl, rfl⟩ := k1
          have hn : n = es.length := by omega
          have hvn : vs.length = es.length := by omega
          rw [k4, hn]
          exact ⟨.sl 1 es, fp, by rw [Hs.put_self, hvn]⟩
        · trivial
      · exact R1.killed h1.ok htn hx
    | _ => exact R1.killed h1.ok htn hx
  refine ⟨_, h1.mapk (V1.tosr q) hone hok ((st.objs.map (Ob.mapk (V1.tosr q))).set q (.row 1 es)) (fun p => ?_), fun p b hb => ?_, htn.gh⟩
  · by_cases hpq : p = q
    · subst hpq
      rw [getD_of (x := .row 1 es) (by simp [hqlt])]
      exact ⟨_, _, Hs.put_self _ _ _⟩
    · rw [List.getD_eq_getElem?_getD, List.getElem?_set_ne (Ne.symm hpq), List.getElem?_map]
      have h2 := h1.obs p
      rw [List.getD_eq_getElem?_getD] at h2
      have h3 := Hs.put_ne H (.ow (.sl 1 es) (.slice (some ⟨g, 0, none⟩) es.length vs.length) fp) hpq
      cases ho : st.objs[p]? with
      | none => rw [ho] at h2; exact h3.trans h2
      | some ob => rw [ho] at h2; exact RB.mapk hone h3 h2
  · by_cases hpq : p = q
    · subst hpq
      rw [Hs.put_self] at hb
      exact ⟨p, by rw [e1, hfp b hb]; simp [Pc.fp]⟩
    · exact ⟨p, by rw [← Hs.put_ne H _ hpq]; exact hb⟩
section
variable {P : Program} {ops : Array Oper} {o : Oper} {st : St} {n : Nat} {t t' : TypeId} {y z : Operand} {ps qs : List Nat}
end
end Go.Proofs.YtkfnaniegldfaaaDoor
end

section
set_option linter.unusedSimpArgs false
set_option linter.unusedVariables false
set_option maxRecDepth 8000
namespace Go.Proofs.YtkfnaniegldfaaaDoor
open Go.RowKit

theorem row2p {k : Nat} {o : Ob} {a b : List (List T)} (h : a = b) : [o, Ob.row k a] = [o, Ob.row k b] := by rw [h]
def seedB : ByteArray := bs [115, 101, 101, 100]
def scoreN (k : Nat) : ByteArray := bs [115, 99, 111, 114, 101, 32] ++ fmtN k
def bodyN (k : Nat) : ByteArray := bs [98, 111, 100, 121, 32] ++ fmtN k
def partsTo (n m : Nat) : List ByteArray := (seedB :: (List.range n).map scoreN) ++ (List.range m).map bodyN
noncomputable def partsOf (w : TWorld) : List ByteArray := if worldOk w = true then partsTo w.Scores.length w.Bodies.length else []
theorem partsTo_len (n m : Nat) : (partsTo n m).length = 1 + n + m := by simp [partsTo]; omega
theorem partsTo_n (n : Nat) : partsTo (n + 1) 0 = partsTo n 0 ++ [scoreN n] := by simp [partsTo, List.range_succ]
theorem partsTo_m (n m : Nat) : partsTo n (m + 1) = partsTo n m ++ [bodyN m] := by simp [partsTo, List.range_succ]
theorem parts_next {n m : Nat} {l : List ByteArray} {x : ByteArray} (h : l = partsTo n m ++ [x]) : els l = els (partsTo n m) ++ [Enc.e x] := by rw [h]; simp [els]
set_option maxHeartbeats 8000000 in
theorem I_PartsOf (x : TWorld) (hg : Enc.gd x) : Con Tryd.prog 16 [] [ag x] [.row 1 (els (partsOf x))] (.o (.c (.ref 0))) := by
  have hc := I_WorldOk x hg
  cases ho : worldOk x with
  | false =>
    rw [ho] at hc
    rw [show partsOf x = [] by rw [partsOf, ho]; exact if_neg (by decide)]
    refine Con.of Tryd.func16 rfl Tryd.ntmps16 rfl (fun E => ?_)
    refine A_seq ?_; refine A_region ?_; refine M1 (q_boxN rfl rfl rfl rfl) rfl rfl ?_; refine M0 (q_assignC rfl rfl rfl) rfl rfl ?_; refine L_nil ?_; refine T_n ?_; refine A_seq ?_; refine A_seq ?_
    refine A_region ?_; refine M0 (q_ldN rfl rfl rfl rfl rfl rfl) rfl rfl ?_; refine M0 (q_call0 rfl rfl (hc) rfl) rfl rfl ?_; refine M0 (q_not rfl rfl rfl) rfl rfl ?_; refine L_nil ?_
    refine T_n ?_; refine A_ifT rfl ?_; refine A_seq ?_; refine A_region ?_; refine M0 (q_assignC rfl rfl rfl) rfl rfl ?_; refine L_nil ?_; refine T_n ?_; refine A_ret ?_; refine T_r ?_; refine F_r ?_
    exact E_tmp rfl rfl (W_fill [1] [1] rfl rfl (by decide) rfl rfl rfl)
  | true =>
    rw [ho] at hc
    rw [show partsOf x = partsTo x.Scores.length x.Bodies.length by rw [partsOf, ho]; exact if_pos rfl]
    obtain ⟨_, _, _, hn, _, hb, _⟩ := worldOk_spec ho
    have hls := els_len x.Scores
    have hlb := els_len x.Bodies
    refine Con.of Tryd.func16 rfl Tryd.ntmps16 rfl (fun E => ?_)
    refine A_seq ?_; refine A_region ?_; refine M1 (q_boxN rfl rfl rfl rfl) rfl rfl ?_; refine M0 (q_assignC rfl rfl rfl) rfl rfl ?_; refine L_nil ?_; refine T_n ?_; refine A_seq ?_; refine A_seq ?_
    refine A_region ?_; refine M0 (q_ldN rfl rfl rfl rfl rfl rfl) rfl rfl ?_; refine M0 (q_call0 rfl rfl (hc) rfl) rfl rfl ?_; refine M0 (q_not rfl rfl rfl) rfl rfl ?_; refine L_nil ?_
    refine T_n ?_; refine A_ifF rfl ?_; refine A_skip ?_; refine T_n ?_; refine A_seq ?_; refine A_region ?_; refine M1 (q_bslice rfl rfl rfl rfl rfl rfl) rfl rfl ?_
    refine M0 (q_assignC rfl rfl rfl) rfl rfl ?_; refine L_nil ?_; refine T_n ?_; refine A_seq ?_; refine A_seq ?_; refine A_region ?_; refine M0 (q_fldp rfl rfl rfl rfl (by decide)) rfl rfl ?_
    refine M0 (q_ld1 rfl rfl rfl rfl rfl) rfl rfl ?_; refine M0 (q_len rfl rfl rfl) rfl rfl ?_; refine M0 (q_moveC rfl rfl rfl) rfl rfl ?_; refine L_nil ?_; refine T_n ?_; refine A_block ?_
    refine AWP.pre ?_ (Wk.sbrow (q := 1) (es := els [seedB]) rfl rfl (Nat.le_of_ble_eq_true rfl))
    refine A_loop (fun m st => ∃ k : Nat, k + m = x.Scores.length ∧ (True) ∧ st = (fun k : Nat => (⟨_, [(1, .o (.c (.ptr 0 0))), (3, .o (.c (.ref 1))), (12, I (els x.Scores).length), (13, I k)], [.box ((Enc.e x).map (V1.rd [])), .row 1 (els (partsTo k 0))]⟩ : St)) k) (x.Scores.length) ⟨(fun k : Nat => (⟨_, [(1, .o (.c (.ptr 0 0))), (3, .o (.c (.ref 1))), (12, I (els x.Scores).length), (13, I k)], [.box ((Enc.e x).map (V1.rd [])), .row 1 (els (partsTo k 0))]⟩ : St)) 0, W_go [0, 1] (by decide) rfl (rfl) (.cons rfl (.cons rfl (.cons rfl (.cons rfl (.nil))))), 0, by omega, trivial, rfl⟩ ?_
    rintro m_A _ ⟨k, hk_A, hp_A, rfl⟩
    have hpl := partsTo_len k 0
    have hle := els_len (partsTo k 0)
    refine A_seq ?_; refine A_region ?_; refine M0 (q_lss rfl rfl rfl rfl) rfl rfl ?_; refine L_nil ?_; refine T_n ?_; refine A_seq ?_
    refine A_cond rfl (fun h => ?_) (fun h => ?_)
    · have h3 : k < x.Scores.length := by have := of_decide_eq_true h; omega
      have hf := I_FormatInt k (by omega)
      have hfs := fmtN_size k
      refine A_skip ?_; refine T_n ?_; refine A_seq ?_; refine A_block ?_; refine A_seq ?_; refine A_region ?_; refine M0 (q_moveC rfl rfl rfl) rfl rfl ?_; refine M0 (q_assignC rfl rfl rfl) rfl rfl ?_
      refine L_nil ?_; refine T_n ?_; refine A_region ?_; refine M0 (q_moveC rfl rfl rfl) rfl rfl ?_; refine M0 (q_moveC rfl rfl rfl) rfl rfl ?_; refine M0 (q_call0 rfl rfl (hf) rfl) rfl rfl ?_
      refine M0 (q_cat rfl rfl rfl rfl (by simp only [bs_size, cat_size, List.length_cons, List.length_nil, List.length_append]; omega)) rfl rfl ?_
      refine M1 (q_bslice rfl rfl rfl rfl rfl rfl) rfl rfl ?_; refine M_appsb rfl rfl rfl rfl rfl rfl rfl rfl rfl rfl (by omega) (by omega) ?_; refine M0 (q_assignC rfl rfl rfl) rfl rfl ?_
      refine L_nil ?_; refine B_n ?_; refine T_n ?_; refine A_region ?_; refine M0 (q_add rfl rfl rfl rfl (by omega)) rfl rfl ?_; refine M0 (q_moveC rfl rfl rfl) rfl rfl ?_; refine L_nil ?_
      refine T_n ?_
      exact ⟨x.Scores.length - (k + 1), by omega, (fun k : Nat => (⟨_, [(1, .o (.c (.ptr 0 0))), (3, .o (.c (.ref 1))), (12, I (els x.Scores).length), (13, I k)], [.box ((Enc.e x).map (V1.rd [])), .row 1 (els (partsTo k 0))]⟩ : St)) (k + 1), W_go [0, 1] (by decide) rfl (row2p (parts_next (partsTo_n k))) (.cons rfl (.cons rfl (.cons rfl (.cons rfl (.nil))))), k + 1, by omega, trivial, rfl⟩
    · have h3 : ¬ k < x.Scores.length := by have := of_decide_eq_false h; omega
      have hk : k = x.Scores.length := by omega
      rw [hk]
      refine A_exit ?_; refine T_x ?_; refine T_x ?_; refine B_xs ?_; refine T_n ?_; refine A_seq ?_; refine A_seq ?_; refine A_region ?_; refine M0 (q_fldp rfl rfl rfl rfl (by decide)) rfl rfl ?_
      refine M0 (q_ld1 rfl rfl rfl rfl rfl) rfl rfl ?_; refine M0 (q_len rfl rfl rfl) rfl rfl ?_; refine M0 (q_moveC rfl rfl rfl) rfl rfl ?_; refine L_nil ?_; refine T_n ?_; refine A_block ?_
      refine A_loop (fun m st => ∃ j : Nat, j + m = x.Bodies.length ∧ (True) ∧ st = (fun j : Nat => (⟨_, [(1, .o (.c (.ptr 0 0))), (3, .o (.c (.ref 1))), (25, I (els x.Bodies).length), (26, I j)], [.box ((Enc.e x).map (V1.rd [])), .row 1 (els (partsTo x.Scores.length j))]⟩ : St)) j) (x.Bodies.length) ⟨(fun j : Nat => (⟨_, [(1, .o (.c (.ptr 0 0))), (3, .o (.c (.ref 1))), (25, I (els x.Bodies).length), (26, I j)], [.box ((Enc.e x).map (V1.rd [])), .row 1 (els (partsTo x.Scores.length j))]⟩ : St)) 0, W_go [0, 1] (by decide) rfl (rfl) (.cons rfl (.cons rfl (.cons rfl (.cons rfl (.nil))))), 0, by omega, trivial, rfl⟩ ?_
      rintro m_B _ ⟨j, hk_B, hp_B, rfl⟩
      have hpl2 := partsTo_len x.Scores.length j
      have hle2 := els_len (partsTo x.Scores.length j)
      refine A_seq ?_; refine A_region ?_; refine M0 (q_lss rfl rfl rfl rfl) rfl rfl ?_; refine L_nil ?_; refine T_n ?_; refine A_seq ?_
      refine A_cond rfl (fun h => ?_) (fun h => ?_)
      · have h3 : j < x.Bodies.length := by have := of_decide_eq_true h; omega
        have hf := I_FormatInt j (by omega)
        have hfs := fmtN_size j
        refine A_skip ?_; refine T_n ?_; refine A_seq ?_; refine A_block ?_; refine A_seq ?_; refine A_region ?_; refine M0 (q_moveC rfl rfl rfl) rfl rfl ?_; refine M0 (q_assignC rfl rfl rfl) rfl rfl ?_
        refine L_nil ?_; refine T_n ?_; refine A_region ?_; refine M0 (q_moveC rfl rfl rfl) rfl rfl ?_; refine M0 (q_moveC rfl rfl rfl) rfl rfl ?_; refine M0 (q_call0 rfl rfl (hf) rfl) rfl rfl ?_
        refine M0 (q_cat rfl rfl rfl rfl (by simp only [bs_size, cat_size, List.length_cons, List.length_nil, List.length_append]; omega)) rfl rfl ?_
        refine M1 (q_bslice rfl rfl rfl rfl rfl rfl) rfl rfl ?_; refine M_appsb rfl rfl rfl rfl rfl rfl rfl rfl rfl rfl (by omega) (by omega) ?_; refine M0 (q_assignC rfl rfl rfl) rfl rfl ?_
        refine L_nil ?_; refine B_n ?_; refine T_n ?_; refine A_region ?_; refine M0 (q_add rfl rfl rfl rfl (by omega)) rfl rfl ?_; refine M0 (q_moveC rfl rfl rfl) rfl rfl ?_; refine L_nil ?_
        refine T_n ?_
        exact ⟨x.Bodies.length - (j + 1), by omega, (fun j : Nat => (⟨_, [(1, .o (.c (.ptr 0 0))), (3, .o (.c (.ref 1))), (25, I (els x.Bodies).length), (26, I j)], [.box ((Enc.e x).map (V1.rd [])), .row 1 (els (partsTo x.Scores.length j))]⟩ : St)) (j + 1), W_go [0, 1] (by decide) rfl (row2p (parts_next (partsTo_m x.Scores.length j))) (.cons rfl (.cons rfl (.cons rfl (.cons rfl (.nil))))), j + 1, by omega, trivial, rfl⟩
      · have h3 : ¬ j < x.Bodies.length := by have := of_decide_eq_false h; omega
        have hm : j = x.Bodies.length := by omega
        rw [hm]
        refine A_exit ?_; refine T_x ?_; refine T_x ?_; refine B_xs ?_; refine T_n ?_; refine A_seq ?_; refine A_region ?_; refine M0 (q_moveC rfl rfl rfl) rfl rfl ?_
        refine M0 (q_assignC rfl rfl rfl) rfl rfl ?_; refine L_nil ?_; refine T_n ?_; refine A_ret ?_; refine F_r ?_
        exact E_tmp rfl rfl (W_end [1] (by decide) rfl rfl rfl)
set_option maxHeartbeats 8000000 in
theorem S_PartsOf (x : TWorld) (hg : Enc.gd x) : Con Tryd.prog 14 [] [ag x] [.row 1 (els (partsOf x))] (.o (.c (.ref 0))) := by
  have hc := S_WorldOk x hg
  cases ho : worldOk x with
  | false =>
    rw [ho] at hc
    rw [show partsOf x = [] by rw [partsOf, ho]; exact if_neg (by decide)]
    refine Con.of Tryd.func14 rfl Tryd.ntmps14 rfl (fun E => ?_)
    refine A_seq ?_; refine A_region ?_; refine M1 (q_boxN rfl rfl rfl rfl) rfl rfl ?_; refine M0 (q_assignC rfl rfl rfl) rfl rfl ?_; refine L_nil ?_; refine T_n ?_; refine A_seq ?_
    refine A_region ?_; refine M1 (q_bslice0 rfl rfl rfl) rfl rfl ?_; refine M0 (q_assignC rfl rfl rfl) rfl rfl ?_; refine L_nil ?_; refine T_n ?_; refine A_seq ?_; refine A_seq ?_
    refine A_region ?_; refine M0 (q_ldN rfl rfl rfl rfl rfl rfl) rfl rfl ?_; refine M0 (q_call0 rfl rfl (hc) rfl) rfl rfl ?_; refine M0 (q_not rfl rfl rfl) rfl rfl ?_; refine L_nil ?_
    refine T_n ?_; refine A_ifT rfl ?_; refine A_seq ?_; refine A_region ?_; refine M0 (q_moveC rfl rfl rfl) rfl rfl ?_; refine M0 (q_assignC rfl rfl rfl) rfl rfl ?_; refine L_nil ?_; refine T_n ?_
    refine A_ret ?_; refine T_r ?_; refine F_r ?_
    exact E_tmp rfl rfl (W_end [1] (by decide) rfl rfl rfl)
  | true =>
    rw [ho] at hc
    rw [show partsOf x = partsTo x.Scores.length x.Bodies.length by rw [partsOf, ho]; exact if_pos rfl]
    obtain ⟨_, _, _, hn, _, hb, _⟩ := worldOk_spec ho
    have hls := els_len x.Scores
    have hlb := els_len x.Bodies
    refine Con.of Tryd.func14 rfl Tryd.ntmps14 rfl (fun E => ?_)
    refine A_seq ?_; refine A_region ?_; refine M1 (q_boxN rfl rfl rfl rfl) rfl rfl ?_; refine M0 (q_assignC rfl rfl rfl) rfl rfl ?_; refine L_nil ?_; refine T_n ?_; refine A_seq ?_
    refine A_region ?_; refine M1 (q_bslice0 rfl rfl rfl) rfl rfl ?_; refine M0 (q_assignC rfl rfl rfl) rfl rfl ?_; refine L_nil ?_; refine T_n ?_; refine A_seq ?_; refine A_seq ?_
    refine A_region ?_; refine M0 (q_ldN rfl rfl rfl rfl rfl rfl) rfl rfl ?_; refine M0 (q_call0 rfl rfl (hc) rfl) rfl rfl ?_; refine M0 (q_not rfl rfl rfl) rfl rfl ?_; refine L_nil ?_
    refine T_n ?_; refine A_ifF rfl ?_; refine A_skip ?_; refine T_n ?_; refine A_seq ?_; refine A_region ?_; refine M0 (q_moveC rfl rfl rfl) rfl rfl ?_
    refine M1 (q_bslice rfl rfl rfl rfl rfl rfl) rfl rfl ?_; refine M_appsb rfl rfl rfl rfl rfl rfl rfl rfl rfl rfl (by decide) (by decide) ?_; refine M0 (q_assignC rfl rfl rfl) rfl rfl ?_
    refine L_nil ?_; refine T_n ?_; refine A_seq ?_; refine A_seq ?_; refine A_region ?_; refine M0 (q_assignC rfl rfl rfl) rfl rfl ?_; refine L_nil ?_; refine T_n ?_; refine A_block ?_
    refine A_loop (fun m st => ∃ k : Nat, k + m = x.Scores.length ∧ (True) ∧ st = (fun k : Nat => (⟨_, [(1, .o (.c (.ptr 0 0))), (3, .o (.c (.ref 1))), (4, I k)], [.box ((Enc.e x).map (V1.rd [])), .row 1 (els (partsTo k 0))]⟩ : St)) k) (x.Scores.length) ⟨(fun k : Nat => (⟨_, [(1, .o (.c (.ptr 0 0))), (3, .o (.c (.ref 1))), (4, I k)], [.box ((Enc.e x).map (V1.rd [])), .row 1 (els (partsTo k 0))]⟩ : St)) 0, W_go [0, 1] (by decide) rfl (rfl) (.cons rfl (.cons rfl (.cons rfl (.nil)))), 0, by omega, trivial, rfl⟩ ?_
    rintro m_A _ ⟨k, hk_A, hp_A, rfl⟩
    have hpl := partsTo_len k 0
    have hle := els_len (partsTo k 0)
    refine A_seq ?_; refine A_seq ?_; refine A_region ?_; refine M0 (q_moveC rfl rfl rfl) rfl rfl ?_; refine M0 (q_fldp rfl rfl rfl rfl (by decide)) rfl rfl ?_
    refine M0 (q_ld1 rfl rfl rfl rfl rfl) rfl rfl ?_; refine M0 (q_len rfl rfl rfl) rfl rfl ?_; refine M0 (q_lss rfl rfl rfl rfl) rfl rfl ?_; refine L_nil ?_; refine T_n ?_
    refine A_cond rfl (fun h => ?_) (fun h => ?_)
    · have h3 : k < x.Scores.length := by have := of_decide_eq_true h; omega
      have hf := S_FormatInt k (by omega)
      have hfs := fmtN_size k
      refine A_skip ?_; refine T_n ?_; refine A_seq ?_; refine A_block ?_; refine A_region ?_; refine M0 (q_moveC rfl rfl rfl) rfl rfl ?_; refine M0 (q_moveC rfl rfl rfl) rfl rfl ?_
      refine M0 (q_call0 rfl rfl (hf) rfl) rfl rfl ?_
      refine M0 (q_cat rfl rfl rfl rfl (by simp only [bs_size, cat_size, List.length_cons, List.length_nil, List.length_append]; omega)) rfl rfl ?_
      refine M1 (q_bslice rfl rfl rfl rfl rfl rfl) rfl rfl ?_; refine M_appsb rfl rfl rfl rfl rfl rfl rfl rfl rfl rfl (by omega) (by omega) ?_; refine M0 (q_assignC rfl rfl rfl) rfl rfl ?_
      refine L_nil ?_; refine B_n ?_; refine T_n ?_; refine A_region ?_; refine M0 (q_moveC rfl rfl rfl) rfl rfl ?_; refine M0 (q_add rfl rfl rfl rfl (by omega)) rfl rfl ?_
      refine M0 (q_assignC rfl rfl rfl) rfl rfl ?_; refine L_nil ?_; refine T_n ?_
      exact ⟨x.Scores.length - (k + 1), by omega, (fun k : Nat => (⟨_, [(1, .o (.c (.ptr 0 0))), (3, .o (.c (.ref 1))), (4, I k)], [.box ((Enc.e x).map (V1.rd [])), .row 1 (els (partsTo k 0))]⟩ : St)) (k + 1), W_go [0, 1] (by decide) rfl (row2p (parts_next (partsTo_n k))) (.cons rfl (.cons rfl (.cons rfl (.nil)))), k + 1, by omega, trivial, rfl⟩
    · have h3 : ¬ k < x.Scores.length := by have := of_decide_eq_false h; omega
      have hk : k = x.Scores.length := by omega
      rw [hk]
      refine A_exit ?_; refine T_x ?_; refine T_x ?_; refine B_xs ?_; refine T_n ?_; refine A_seq ?_; refine A_seq ?_; refine A_region ?_; refine M0 (q_assignC rfl rfl rfl) rfl rfl ?_; refine L_nil ?_
      refine T_n ?_; refine A_block ?_
      refine A_loop (fun m st => ∃ j : Nat, j + m = x.Bodies.length ∧ (True) ∧ st = (fun j : Nat => (⟨_, [(1, .o (.c (.ptr 0 0))), (3, .o (.c (.ref 1))), (5, I j)], [.box ((Enc.e x).map (V1.rd [])), .row 1 (els (partsTo x.Scores.length j))]⟩ : St)) j) (x.Bodies.length) ⟨(fun j : Nat => (⟨_, [(1, .o (.c (.ptr 0 0))), (3, .o (.c (.ref 1))), (5, I j)], [.box ((Enc.e x).map (V1.rd [])), .row 1 (els (partsTo x.Scores.length j))]⟩ : St)) 0, W_go [0, 1] (by decide) rfl (rfl) (.cons rfl (.cons rfl (.cons rfl (.nil)))), 0, by omega, trivial, rfl⟩ ?_
      rintro m_B _ ⟨j, hk_B, hp_B, rfl⟩
      have hpl2 := partsTo_len x.Scores.length j
      have hle2 := els_len (partsTo x.Scores.length j)
      refine A_seq ?_; refine A_seq ?_; refine A_region ?_; refine M0 (q_moveC rfl rfl rfl) rfl rfl ?_; refine M0 (q_fldp rfl rfl rfl rfl (by decide)) rfl rfl ?_
      refine M0 (q_ld1 rfl rfl rfl rfl rfl) rfl rfl ?_; refine M0 (q_len rfl rfl rfl) rfl rfl ?_; refine M0 (q_lss rfl rfl rfl rfl) rfl rfl ?_; refine L_nil ?_; refine T_n ?_
      refine A_cond rfl (fun h => ?_) (fun h => ?_)
      · have h3 : j < x.Bodies.length := by have := of_decide_eq_true h; omega
        have hf := S_FormatInt j (by omega)
        have hfs := fmtN_size j
        refine A_skip ?_; refine T_n ?_; refine A_seq ?_; refine A_block ?_; refine A_region ?_; refine M0 (q_moveC rfl rfl rfl) rfl rfl ?_; refine M0 (q_moveC rfl rfl rfl) rfl rfl ?_
        refine M0 (q_call0 rfl rfl (hf) rfl) rfl rfl ?_
        refine M0 (q_cat rfl rfl rfl rfl (by simp only [bs_size, cat_size, List.length_cons, List.length_nil, List.length_append]; omega)) rfl rfl ?_
        refine M1 (q_bslice rfl rfl rfl rfl rfl rfl) rfl rfl ?_; refine M_appsb rfl rfl rfl rfl rfl rfl rfl rfl rfl rfl (by omega) (by omega) ?_; refine M0 (q_assignC rfl rfl rfl) rfl rfl ?_
        refine L_nil ?_; refine B_n ?_; refine T_n ?_; refine A_region ?_; refine M0 (q_moveC rfl rfl rfl) rfl rfl ?_; refine M0 (q_add rfl rfl rfl rfl (by omega)) rfl rfl ?_
        refine M0 (q_assignC rfl rfl rfl) rfl rfl ?_; refine L_nil ?_; refine T_n ?_
        exact ⟨x.Bodies.length - (j + 1), by omega, (fun j : Nat => (⟨_, [(1, .o (.c (.ptr 0 0))), (3, .o (.c (.ref 1))), (5, I j)], [.box ((Enc.e x).map (V1.rd [])), .row 1 (els (partsTo x.Scores.length j))]⟩ : St)) (j + 1), W_go [0, 1] (by decide) rfl (row2p (parts_next (partsTo_m x.Scores.length j))) (.cons rfl (.cons rfl (.cons rfl (.nil)))), j + 1, by omega, trivial, rfl⟩
      · have h3 : ¬ j < x.Bodies.length := by have := of_decide_eq_false h; omega
        have hm : j = x.Bodies.length := by omega
        rw [hm]
        refine A_exit ?_; refine T_x ?_; refine T_x ?_; refine B_xs ?_; refine T_n ?_; refine A_seq ?_; refine A_region ?_; refine M0 (q_moveC rfl rfl rfl) rfl rfl ?_
        refine M0 (q_assignC rfl rfl rfl) rfl rfl ?_; refine L_nil ?_; refine T_n ?_; refine A_ret ?_; refine F_r ?_
        exact E_tmp rfl rfl (W_end [1] (by decide) rfl rfl rfl)
end Go.Proofs.YtkfnaniegldfaaaDoor
end

section
set_option linter.unusedSimpArgs false
set_option linter.unusedVariables false
set_option maxRecDepth 8000
namespace Go.Proofs.YtkfnaniegldfaaaDoor
open Go.RowKit

def cntW (x : TWorld) (k : Int) : Int := k + x.Level.Rows.length + x.Scores.length + 9 * x.Bodies.length
def markW (x : TWorld) (k : Int) : TWorld := ⟨⟨markS x.Level.Rows k⟩, x.Tick, x.Seed, markI x.Scores (k + x.Level.Rows.length), markB x.Bodies (k + x.Level.Rows.length + x.Scores.length)⟩
set_option maxHeartbeats 8000000 in
theorem L_markWorld (x : TWorld) (k : Int) (h1 : x.Level.Rows.length ≤ 1048576) (h2 : x.Scores.length ≤ 1048576) (h3 : x.Bodies.length ≤ 1048576) (h0 : 0 < k) (hk : k ≤ 1073741823) : Con Tryd.prog 19 [.row 1 (els x.Level.Rows), .row 1 (els x.Scores), .row 9 (els x.Bodies), .gh 0 (.ag (ownV 0 (Enc.e x)))] [.ag (ownV 0 (Enc.e x)), ai k]
    [.row 1 (els (markW x k).Level.Rows), .row 1 (els (markW x k).Scores), .row 9 (els (markW x k).Bodies), .gh 0 (.ag (ownV 0 (Enc.e x)))] (I (cntW x k)) := by
  refine Con.of Tryd.func19 rfl Tryd.ntmps19 rfl (fun E => ?_)
  refine A_seq ?_; refine A_region ?_; refine M1 (q_boxN rfl rfl rfl rfl) rfl rfl ?_; refine M0 (q_assignC rfl rfl rfl) rfl rfl ?_; refine L_nil ?_; refine T_n ?_; refine A_seq ?_
  refine A_region ?_; refine M0 (q_fldp rfl rfl rfl rfl (by decide)) rfl rfl ?_; refine M0 (q_ldN rfl rfl rfl rfl rfl rfl) rfl rfl ?_; refine M0 (q_moveC rfl rfl rfl) rfl rfl ?_
  refine M_lent (lo := [_]) (gs := [(0, .ag [.ref 0])]) (lo' := [_]) (new := []) [0] [(0, 0, .ref 0)] (L_markLevel x.Level.Rows k h1 h0 (by omega)) rfl rfl rfl rfl rfl rfl rfl rfl rfl rfl rfl rfl rfl rfl rfl rfl rfl ?_
  refine M0 (q_assignC rfl rfl rfl) rfl rfl ?_; refine L_nil ?_; refine T_n ?_; refine A_seq ?_; refine A_region ?_; refine M0 (q_fldp rfl rfl rfl rfl (by decide)) rfl rfl ?_
  refine M0 (q_ld1 rfl rfl rfl rfl rfl) rfl rfl ?_; refine M0 (q_moveC rfl rfl rfl) rfl rfl ?_
  refine M_lent (lo := [_]) (gs := [(0, .c (.ref 0))]) (lo' := [_]) (new := []) [1] [(0, 0, .ref 0)] (L_markIntS x.Scores (k + x.Level.Rows.length) (by omega) (by omega) (by omega)) rfl rfl rfl rfl rfl rfl rfl rfl rfl rfl rfl rfl rfl rfl rfl rfl rfl ?_
  refine M0 (q_assignC rfl rfl rfl) rfl rfl ?_; refine L_nil ?_; refine T_n ?_; refine A_seq ?_; refine A_region ?_; refine M0 (q_fldp rfl rfl rfl rfl (by decide)) rfl rfl ?_
  refine M0 (q_ld1 rfl rfl rfl rfl rfl) rfl rfl ?_; refine M0 (q_moveC rfl rfl rfl) rfl rfl ?_
  refine M_lent (lo := [_]) (gs := [(0, .c (.ref 0))]) (lo' := [_]) (new := []) [2] [(0, 0, .ref 0)] (L_markBodyS x.Bodies (k + x.Level.Rows.length + x.Scores.length) h3 (by omega) (by omega)) rfl rfl rfl rfl rfl rfl rfl rfl rfl rfl rfl rfl rfl rfl rfl rfl rfl ?_
  refine M0 (q_assignC rfl rfl rfl) rfl rfl ?_; refine L_nil ?_; refine T_n ?_; refine A_seq ?_; refine A_region ?_; refine M0 (q_moveC rfl rfl rfl) rfl rfl ?_
  refine M0 (q_assignC rfl rfl rfl) rfl rfl ?_; refine L_nil ?_; refine T_n ?_; refine A_ret ?_; refine F_r ?_
  exact E_tmp rfl rfl (W_end [0, 1, 2, 3] (by decide) rfl rfl rfl)
end Go.Proofs.YtkfnaniegldfaaaDoor
end

section
set_option linter.unusedSimpArgs false
set_option linter.unusedVariables false
namespace Go.Proofs.YtkfnaniegldfaaaDoor
open Go.RowKit

@[reducible] def iv (n : Int) : V1 := .rd [] (.v (.int .i64 n))
theorem parts_len (x : TWorld) : (partsOf x).length ≤ 29 := by
  unfold partsOf
  split
  · rename_i h
    obtain ⟨_, _, _, hn, _, hb, _⟩ := worldOk_spec h
    rw [partsTo_len]; omega
  · simp
theorem parts_mem (x : TWorld) : ∀ s ∈ partsOf x, s.size ≤ 1099511627776 := fun s hs => by
  unfold partsOf at hs
  split at hs
  · rename_i h
    obtain ⟨_, _, _, hn, _, hb, _⟩ := worldOk_spec h
    simp only [partsTo, List.mem_append, List.mem_cons, List.mem_map, List.mem_range] at hs
    rcases hs with (rfl | ⟨k, hk, rfl⟩) | ⟨k, hk, rfl⟩
    · decide
    · have := fmtN_size k
      rw [scoreN, cat_size, bs_size]; simp; omega
    · have := fmtN_size k
      rw [bodyN, cat_size, bs_size]; simp; omega
  · simp at hs
theorem parts_gd (x : TWorld) : Enc.gd (partsOf x) := ⟨by have := parts_len x; omega, fun s hs => Nat.le_trans (parts_mem x s hs) (by decide)⟩
set_option maxHeartbeats 8000000 in
theorem law_PartsOf (x : TWorld) (hx : Enc.gd x) : Con Tryd.prog 4 [] [ag x] [] (B true) := by
  have hz1 := sz_World x 1048576 hx (by omega) (by omega)
  by_cases n1 : (1048576 : Int) < Enc.wt x
  · rw [szr_neg n1] at hz1
    refine Con.of Tryd.func4 rfl Tryd.ntmps4 rfl (fun E => ?_)
    refine A_seq ?_; refine A_region ?_; refine M1 (q_boxN rfl rfl rfl rfl) rfl rfl ?_; refine M0 (q_assignC rfl rfl rfl) rfl rfl ?_; refine L_nil ?_; refine T_n ?_; refine A_seq ?_
    refine A_region ?_; refine M0 (q_assignC rfl rfl rfl) rfl rfl ?_; refine L_nil ?_; refine T_n ?_; refine A_seq ?_; refine A_region ?_; refine M0 (q_ldN rfl rfl rfl rfl rfl rfl) rfl rfl ?_
    refine M0 (q_moveC rfl rfl rfl) rfl rfl ?_; refine M0 (q_call0 rfl rfl (hz1) rfl) rfl rfl ?_; refine M0 (q_assignC rfl rfl rfl) rfl rfl ?_; refine L_nil ?_; refine T_n ?_; refine A_seq ?_
    refine A_seq ?_; refine A_region ?_; refine M0 (q_moveC rfl rfl rfl) rfl rfl ?_; refine M0 (q_lssK (b := true) rfl rfl rfl rfl (by decide)) rfl rfl ?_; refine L_nil ?_; refine T_n ?_
    refine A_ifT rfl ?_; refine A_seq ?_; refine A_region ?_; refine M0 (q_assignC rfl rfl rfl) rfl rfl ?_; refine L_nil ?_; refine T_n ?_; refine A_ret ?_; refine T_r ?_; refine F_r ?_
    exact E_tmp rfl rfl (W_end [] (by decide) rfl rfl rfl)
  rw [szr_pos (by omega)] at hz1
  have hb1 : decide ((1048576 : Int) - Enc.wt x < 0) = false := decide_eq_false (by omega)
  have hw : Enc.wt x = Enc.wt x.Level + Enc.wt x.Scores + Enc.wt x.Bodies := rfl
  have hL : x.Level.Rows.length ≤ 1048576 := by have h2 : Enc.wt x.Level = x.Level.Rows.length + wts x.Level.Rows := rfl; omega
  have hS : x.Scores.length ≤ 1048576 := by have h2 : Enc.wt x.Scores = x.Scores.length + wts x.Scores := rfl; omega
  have hB : x.Bodies.length ≤ 1048576 := by have h2 : Enc.wt x.Bodies = x.Bodies.length + wts x.Bodies := rfl; omega
  have ht1 := to_World x (by omega)
  have hsp := S_PartsOf x hx
  have hip := I_PartsOf x hx
  have hyl : (partsOf x).length ≤ 1048576 := Nat.le_trans (parts_len x) (by decide)
  have hyg : Enc.gd (partsOf x) := parts_gd x
  generalize partsOf x = y at hsp hip hyl hyg
  have hq1 := eq_StringS y y hyg
  have hq2 := eq_World x x hx
  rw [decide_eq_true rfl] at hq1 hq2
  have hm_x := L_markWorld x 1 hL hS hB (by omega) (by omega)
  have hm_y := L_markStringS y 1 hyl (by omega) (by omega)
  have hh := L_heldStringS y 1 hyl (by omega) (by omega)
  have hk1 : decide (cntW x 1 < 0) = false := decide_eq_false (by unfold cntW; omega)
  have hk2 : decide ((1 : Int) + y.length < 0) = false := decide_eq_false (by omega)
  refine Con.of Tryd.func4 rfl Tryd.ntmps4 rfl (fun E => ?_)
  refine A_seq ?_; refine A_region ?_; refine M1 (q_boxN rfl rfl rfl rfl) rfl rfl ?_; refine M0 (q_assignC rfl rfl rfl) rfl rfl ?_; refine L_nil ?_; refine T_n ?_; refine A_seq ?_
  refine A_region ?_; refine M0 (q_assignC rfl rfl rfl) rfl rfl ?_; refine L_nil ?_; refine T_n ?_; refine A_seq ?_; refine A_region ?_; refine M0 (q_ldN rfl rfl rfl rfl rfl rfl) rfl rfl ?_
  refine M0 (q_moveC rfl rfl rfl) rfl rfl ?_; refine M0 (q_call0 rfl rfl (hz1) rfl) rfl rfl ?_; refine M0 (q_assignC rfl rfl rfl) rfl rfl ?_; refine L_nil ?_; refine T_n ?_; refine A_seq ?_
  refine A_seq ?_; refine A_region ?_; refine M0 (q_moveC rfl rfl rfl) rfl rfl ?_; refine M0 (q_lssK rfl rfl rfl rfl (by assumption)) rfl rfl ?_; refine L_nil ?_; refine T_n ?_
  refine A_ifF rfl ?_; refine A_skip ?_; refine T_n ?_; refine A_seq ?_; refine A_region ?_; refine M0 (q_ldN rfl rfl rfl rfl rfl rfl) rfl rfl ?_
  refine M1 (q_call rfl rfl (ht1) rfl rfl rfl) rfl rfl ?_; refine M1 (q_call rfl rfl (hsp) rfl rfl rfl) rfl rfl ?_; refine M0 (q_assignC rfl rfl rfl) rfl rfl ?_; refine L_nil ?_
  refine T_n ?_; refine A_seq ?_; refine A_region ?_; refine M0 (q_ldN rfl rfl rfl rfl rfl rfl) rfl rfl ?_; refine M1 (q_call rfl rfl (ht1) rfl rfl rfl) rfl rfl ?_
  refine M1 (q_alloc rfl rfl rfl) rfl rfl ?_; refine M_stN rfl rfl rfl rfl rfl rfl rfl rfl rfl ?_; refine L_nil ?_; refine T_n ?_; refine A_seq ?_; refine A_region ?_
  refine M0 (q_ldN rfl rfl rfl rfl rfl rfl) rfl rfl ?_; refine M1 (q_call rfl rfl (hip) rfl rfl rfl) rfl rfl ?_; refine M0 (q_assignC rfl rfl rfl) rfl rfl ?_; refine L_nil ?_; refine T_n ?_
  refine A_seq ?_; refine A_seq ?_; refine A_region ?_; refine M0 (q_moveC rfl rfl rfl) rfl rfl ?_; refine M0 (q_moveC rfl rfl rfl) rfl rfl ?_; refine M0 (q_call0 rfl rfl (hq1) rfl) rfl rfl ?_
  refine M0 (q_not rfl rfl rfl) rfl rfl ?_; refine L_nil ?_; refine T_n ?_; refine A_ifF rfl ?_; refine A_skip ?_; refine T_n ?_; refine A_seq ?_; refine A_seq ?_
  refine AWP.pre (st' := (⟨_, [(1, .o (.c (.ptr 0 0))), (4, .o (.c (.ref 1))), (5, .o (.c (.ptr 5 0))), (6, .o (.c (.ref 6)))], [.box ((Enc.e x).map (V1.rd [])), .row 1 (els y), .row 1 (els x.Level.Rows), .row 1 (els x.Scores), .row 9 (els x.Bodies), .box [.ref 2, iv x.Tick, iv x.Seed, .ref 3, .ref 4], .row 1 (els y)]⟩ : St)) ?_ (W_go [0, 4, 5, 6, 7, 8, 9] (by decide) rfl (rfl) (.cons rfl (.cons rfl (.cons rfl (.cons rfl (.nil))))))
  refine A_draw [[], [], [1], [0, 1, 2], [0, 1, 2, 3]] [[], [], [28], [27, 28, 29], [27, 28, 29, 30]] [[28, 29], [27], [27], [], []] rfl ?_
  refine DR.step (q_ldN rfl rfl rfl rfl rfl rfl) rfl rfl ?_; refine DR.step (q_ldN rfl rfl rfl rfl rfl rfl) rfl rfl ?_; refine DR.step (q_call rfl rfl (ht1) rfl rfl rfl) rfl rfl ?_
  refine DR.step (q_call0 rfl rfl (hq2) rfl) rfl rfl ?_; refine DR.step (q_not rfl rfl rfl) rfl rfl ?_; refine DR.stop (by kernel_rfl) (by kernel_rfl) ?_
  refine L_nil ?_; refine T_n ?_
  refine AWP.pre (st' := (⟨_, [(1, .o (.c (.ptr 0 0))), (4, .o (.c (.ref 1))), (5, .o (.c (.ptr 5 0))), (6, .o (.c (.ref 6))), (31, B false)], [.box ((Enc.e x).map (V1.rd [])), .row 1 (els y), .row 1 (els x.Level.Rows), .row 1 (els x.Scores), .row 9 (els x.Bodies), .box [.ref 2, iv x.Tick, iv x.Seed, .ref 3, .ref 4], .row 1 (els y)]⟩ : St)) ?_ (W_go [0, 1, 2, 3, 4, 5, 6] (by decide) rfl (rfl) (.cons rfl (.cons rfl (.cons rfl (.cons rfl (.cons rfl (.nil)))))))
  refine A_ifF rfl ?_; refine A_skip ?_; refine T_n ?_; refine A_seq ?_; refine A_region ?_; refine M0 (q_assignC rfl rfl rfl) rfl rfl ?_; refine L_nil ?_; refine T_n ?_; refine A_seq ?_
  refine A_region ?_; refine M0 (q_ldN rfl rfl rfl rfl rfl rfl) rfl rfl ?_; refine M0 (q_moveC rfl rfl rfl) rfl rfl ?_
  refine M_lent (lo := [_, _, _]) (gs := [(0, .ag [.ref 0, iv x.Tick, iv x.Seed, .ref 1, .ref 2])]) (lo' := [_, _, _]) (new := []) [2, 3, 4] [(0, 0, .ref 0), (0, 3, .ref 1), (0, 4, .ref 2)] (hm_x) rfl rfl rfl rfl rfl rfl rfl rfl rfl rfl rfl rfl rfl rfl rfl rfl rfl ?_
  refine M0 (q_assignC rfl rfl rfl) rfl rfl ?_; refine L_nil ?_; refine T_n ?_; refine A_seq ?_; refine A_seq ?_; refine A_region ?_; refine M0 (q_moveC rfl rfl rfl) rfl rfl ?_
  refine M0 (q_lssK rfl rfl rfl rfl (by assumption)) rfl rfl ?_; refine M0 (q_moveC rfl rfl rfl) rfl rfl ?_; refine M_yes rfl rfl rfl ?_; refine M0 (q_moveC rfl rfl rfl) rfl rfl ?_
  refine M_yes rfl rfl rfl ?_; refine M0 (q_moveC rfl rfl rfl) rfl rfl ?_; refine M_yes rfl rfl rfl ?_
  refine AL.weak (st' := (⟨_, [(1, .o (.c (.ptr 0 0))), (4, .o (.c (.ref 1))), (6, .o (.c (.ref 2))), (37, B false), (38, .o (.c (.ref 2))), (39, .o (.c (.ref 1)))], [.box ((Enc.e x).map (V1.rd [])), .row 1 (els y), .row 1 (els y)]⟩ : St)) (W_go [0, 1, 6] (by decide) rfl (rfl) (.cons rfl (.cons rfl (.cons rfl (.cons rfl (.cons rfl (.cons rfl (.nil)))))))) ?_
  refine M0 (q_call0 rfl rfl (hq1) rfl) rfl rfl ?_; refine M_yes rfl rfl rfl ?_; refine M0 (q_not rfl rfl rfl) rfl rfl ?_; refine M0 (q_pickF rfl rfl rfl rfl) rfl rfl ?_; refine L_nil ?_
  refine T_n ?_; refine A_ifF rfl ?_; refine A_skip ?_; refine T_n ?_; refine A_seq ?_; refine A_region ?_; refine M0 (q_assignC rfl rfl rfl) rfl rfl ?_; refine L_nil ?_; refine T_n ?_
  refine A_seq ?_; refine A_region ?_; refine M0 (q_moveC rfl rfl rfl) rfl rfl ?_; refine M0 (q_moveC rfl rfl rfl) rfl rfl ?_
  refine AL.weak (st' := (⟨_, [(1, .o (.c (.ptr 0 0))), (4, .o (.c (.ref 1))), (6, .o (.c (.ref 2))), (43, .o (.c (.ref 2))), (44, I 1)], [.box ((Enc.e x).map (V1.rd [])), .row 1 (els y), .row 1 (els y)]⟩ : St)) (W_go [0, 1, 2] (by decide) rfl (rfl) (.cons rfl (.cons rfl (.cons rfl (.cons rfl (.cons rfl (.nil))))))) ?_
  refine M_lent (lo := [_]) (gs := [(0, .c (.ref 0))]) (lo' := [_]) (new := []) [2] [(0, 0, .ref 0)] (hm_y) rfl rfl rfl rfl rfl rfl rfl rfl rfl rfl rfl rfl rfl rfl rfl rfl rfl ?_
  refine M0 (q_assignC rfl rfl rfl) rfl rfl ?_; refine L_nil ?_; refine T_n ?_; refine A_seq ?_; refine A_region ?_; refine M0 (q_assignC rfl rfl rfl) rfl rfl ?_; refine L_nil ?_; refine T_n ?_
  refine A_seq ?_; refine A_region ?_; refine M0 (q_moveC rfl rfl rfl) rfl rfl ?_; refine M0 (q_moveC rfl rfl rfl) rfl rfl ?_
  refine AL.weak (st' := (⟨_, [(1, .o (.c (.ptr 0 0))), (4, .o (.c (.ref 1))), (6, .o (.c (.ref 2))), (8, I (1 + y.length)), (46, .o (.c (.ref 2))), (47, I 1)], [.box ((Enc.e x).map (V1.rd [])), .row 1 (els y), .row 1 (els (markS y 1))]⟩ : St)) (W_go [0, 1, 2] (by decide) rfl (rfl) (.cons rfl (.cons rfl (.cons rfl (.cons rfl (.cons rfl (.cons rfl (.nil)))))))) ?_
  refine M0 (q_call0 rfl rfl (hh) rfl) rfl rfl ?_; refine M0 (q_assignC rfl rfl rfl) rfl rfl ?_; refine L_nil ?_; refine T_n ?_; refine A_seq ?_; refine A_seq ?_; refine A_region ?_
  refine M0 (q_moveC rfl rfl rfl) rfl rfl ?_; refine M0 (q_lssK rfl rfl rfl rfl (by assumption)) rfl rfl ?_; refine L_nil ?_; refine T_n ?_; refine A_ifF rfl ?_; refine A_skip ?_; refine T_n ?_
  refine A_seq ?_; refine A_seq ?_; refine A_region ?_; refine M0 (q_moveC rfl rfl rfl) rfl rfl ?_; refine M0 (q_moveC rfl rfl rfl) rfl rfl ?_; refine M0 (q_neqR rfl rfl rfl rfl) rfl rfl ?_
  refine L_nil ?_; refine T_n ?_; refine A_ifF rfl ?_; refine A_skip ?_; refine T_n ?_; refine A_seq ?_; refine A_region ?_; refine M0 (q_ldN rfl rfl rfl rfl rfl rfl) rfl rfl ?_
  refine AL.weak (st' := (⟨_, [(4, .o (.c (.ref 0))), (6, .o (.c (.ref 1))), (8, I (1 + y.length)), (54, .o (.ag ((Enc.e x).map (V1.rd []))))], [.row 1 (els y), .row 1 (els (markS y 1))]⟩ : St)) (W_go [1, 2] (by decide) rfl (rfl) (.cons rfl (.cons rfl (.cons rfl (.cons rfl (.nil)))))) ?_
  refine M1 (q_call rfl rfl (ht1) rfl rfl rfl) rfl rfl ?_; refine M1 (q_call rfl rfl (hip) rfl rfl rfl) rfl rfl ?_; refine M0 (q_assignC rfl rfl rfl) rfl rfl ?_; refine L_nil ?_
  refine T_n ?_; refine A_seq ?_; refine A_seq ?_; refine A_region ?_; refine M0 (q_moveC rfl rfl rfl) rfl rfl ?_; refine M0 (q_moveC rfl rfl rfl) rfl rfl ?_
  refine M0 (q_call0 rfl rfl (hq1) rfl) rfl rfl ?_; refine M0 (q_not rfl rfl rfl) rfl rfl ?_; refine L_nil ?_; refine T_n ?_; refine A_ifF rfl ?_; refine A_skip ?_; refine T_n ?_; refine A_seq ?_
  refine A_region ?_; refine M0 (q_assignC rfl rfl rfl) rfl rfl ?_; refine L_nil ?_; refine T_n ?_; refine A_seq ?_; refine A_region ?_; refine M0 (q_moveC rfl rfl rfl) rfl rfl ?_
  refine M0 (q_moveC rfl rfl rfl) rfl rfl ?_
  refine AL.weak (st' := (⟨_, [(8, I (1 + y.length)), (61, .o (.c (.ref 0))), (62, I 1)], [.row 1 (els (markS y 1))]⟩ : St)) (W_go [1] (by decide) rfl (rfl) (.cons rfl (.cons rfl (.cons rfl (.nil))))) ?_
  refine M0 (q_call0 rfl rfl (hh) rfl) rfl rfl ?_; refine M0 (q_assignC rfl rfl rfl) rfl rfl ?_; refine L_nil ?_; refine T_n ?_; refine A_seq ?_; refine A_seq ?_; refine A_region ?_
  refine M0 (q_moveC rfl rfl rfl) rfl rfl ?_; refine M0 (q_lssK rfl rfl rfl rfl (by assumption)) rfl rfl ?_; refine L_nil ?_; refine T_n ?_; refine A_ifF rfl ?_; refine A_skip ?_; refine T_n ?_
  refine A_seq ?_; refine A_seq ?_; refine A_region ?_; refine M0 (q_moveC rfl rfl rfl) rfl rfl ?_; refine M0 (q_moveC rfl rfl rfl) rfl rfl ?_; refine M0 (q_neqR rfl rfl rfl rfl) rfl rfl ?_
  refine L_nil ?_; refine T_n ?_; refine A_ifF rfl ?_; refine A_skip ?_; refine T_n ?_; refine A_seq ?_; refine A_region ?_; refine M0 (q_assignC rfl rfl rfl) rfl rfl ?_; refine L_nil ?_
  refine T_n ?_; refine A_ret ?_; refine F_r ?_
  exact E_tmp rfl rfl (W_end [] (by decide) rfl rfl rfl)
end Go.Proofs.YtkfnaniegldfaaaDoor
end

section
set_option linter.unusedVariables false
namespace Go.Proofs.YtkfnaniegldfaaaDoor
open Go.ChangeShapes Go.WideShapes Go.ChangeAt Go.RowKit

def RL (w : World) (ts : List T) (cs : List Value) : Prop := ∀ (j : Nat) (t : T) (u : Value), ts[j]? = some t → cs[j]? = some u → RO w (fun _ => True) t u
theorem RL.nil {w : World} {cs : List Value} : RL w [] cs := fun _ _ _ h => by simp at h
theorem RL.app {w : World} {ts us : List T} {cs : List Value} {o n : Nat} (h1 : RL w ts ((cs.drop o).take n)) (hn : ts.length = n) (h2 : RL w us (cs.drop (o + n))) : RL w (ts ++ us) (cs.drop o) := fun j t u h3 h4 => by
  rcases Nat.lt_or_ge j ts.length with hj | hj
  · rw [List.getElem?_append_left hj] at h3
    exact h1 j t u h3 (by rw [List.getElem?_take, if_pos (by omega)]; exact h4)
  · rw [List.getElem?_append_right hj] at h3
    refine h2 (j - ts.length) t u h3 ?_
    rw [List.getElem?_drop] at h4 ⊢
    rw [← h4]
    congr 1
    omega
theorem reads_fld {P : Program} {t tt : TypeId} {fs : Array Field} {f : Field} {α : Type} [Enc α] {H : Type} {enc : TypeId × Value → H} {w : World} {spare : Nat → Bool} {held : Bool} {fuel : Nat} {cs : List Value} {x : DataW H × List MemPlace}
    (ht : P.underlying t = some (.struct fs)) (h : DataW.trod enc P w 0 spare held fuel t cs = some x) (i : Nat) (hf : fs[i]? = some f) (hty : f.type = tt) [hα : RdOf P tt α] {o : Nat} (ho : f.offset = o) :
    ∃ y : α, Enc.gd y ∧ RL w (Enc.e y) ((cs.drop o).take (Enc.k α)) := by
  obtain ⟨xs, n, _, _, hl, hlen, hfs⟩ := DataW.trod_struct ht h
  have h1 := hfs i f hf
  have hi : i < fs.size := by
    rcases Nat.lt_or_ge i fs.size with h2 | h2
    · exact h2
    · rw [Array.getElem?_eq_none h2] at hf; cases hf
  rw [List.getElem?_eq_getElem (by omega), hty, ho, hα.size] at h1
  obtain ⟨y, hg, hr⟩ := hα.of h1
  exact ⟨y, hg, hr.2⟩
theorem reads_len {P : Program} {t : TypeId} {fs : Array Field} {H : Type} {enc : TypeId × Value → H} {w : World} {spare : Nat → Bool} {held : Bool} {fuel : Nat} {cs : List Value} {x : DataW H × List MemPlace}
    (ht : P.underlying t = some (.struct fs)) (h : DataW.trod enc P w 0 spare held fuel t cs = some x) : cs.length = P.cellsOf t := by
  obtain ⟨xs, n, _, _, hl, _⟩ := DataW.trod_struct ht h
  exact hl

instance : RdOf Tryd.prog 3 Int := rdOf_int Tryd.underlying3 (by kernel_rfl)
instance : RdOf Tryd.prog 9 ByteArray := rdOf_string Tryd.underlying9 (by kernel_rfl)
instance : RdOf Tryd.prog 32 (List Int) := rdOf_slice Tryd.underlying32 (by kernel_rfl)
instance : RdOf Tryd.prog 22 (List ByteArray) := rdOf_slice Tryd.underlying22 (by kernel_rfl)
instance : RdOf Tryd.prog 52 (List (List Int)) := rdOf_slice Tryd.underlying52 (by kernel_rfl)
instance : RdOf Tryd.prog 31 TLevel where
  size := by kernel_rfl
  of {H enc w spare held fuel cs x} h := by
    obtain ⟨y0, g0, r0⟩ := reads_fld (α := (List ByteArray)) (tt := 22) Tryd.underlying31 h 0 rfl rfl rfl
    refine ⟨⟨y0⟩, g0, ?_, ?_⟩
    · rw [reads_len Tryd.underlying31 h]; kernel_rfl
    · exact (RL.app (o := 0) (n := 1) r0 rfl (RL.nil) : RL w _ (cs.drop 0))
end Go.Proofs.YtkfnaniegldfaaaDoor
end

section
set_option linter.unusedVariables false
namespace Go.Proofs.YtkfnaniegldfaaaDoor
open Go.ChangeShapes Go.WideShapes Go.ChangeAt Go.RowKit

instance : RdOf Tryd.prog 105 TBody where
  size := by kernel_rfl
  of {H enc w spare held fuel cs x} h := by
    obtain ⟨y0, g0, r0⟩ := reads_fld (α := Int) (tt := 3) Tryd.underlying105 h 0 rfl rfl rfl
    obtain ⟨y1, g1, r1⟩ := reads_fld (α := Int) (tt := 3) Tryd.underlying105 h 1 rfl rfl rfl
    obtain ⟨y2, g2, r2⟩ := reads_fld (α := Int) (tt := 3) Tryd.underlying105 h 2 rfl rfl rfl
    obtain ⟨y3, g3, r3⟩ := reads_fld (α := Int) (tt := 3) Tryd.underlying105 h 3 rfl rfl rfl
    obtain ⟨y4, g4, r4⟩ := reads_fld (α := Int) (tt := 3) Tryd.underlying105 h 4 rfl rfl rfl
    obtain ⟨y5, g5, r5⟩ := reads_fld (α := Int) (tt := 3) Tryd.underlying105 h 5 rfl rfl rfl
    obtain ⟨y6, g6, r6⟩ := reads_fld (α := Int) (tt := 3) Tryd.underlying105 h 6 rfl rfl rfl
    obtain ⟨y7, g7, r7⟩ := reads_fld (α := Int) (tt := 3) Tryd.underlying105 h 7 rfl rfl rfl
    obtain ⟨y8, g8, r8⟩ := reads_fld (α := Int) (tt := 3) Tryd.underlying105 h 8 rfl rfl rfl
    refine ⟨⟨y0, y1, y2, y3, y4, y5, y6, y7, y8⟩, ⟨g0, g1, g2, g3, g4, g5, g6, g7, g8⟩, ?_, ?_⟩
    · rw [reads_len Tryd.underlying105 h]; kernel_rfl
    · exact (RL.app (o := 0) (n := 1) r0 rfl (RL.app (o := 1) (n := 1) r1 rfl (RL.app (o := 2) (n := 1) r2 rfl (RL.app (o := 3) (n := 1) r3 rfl (RL.app (o := 4) (n := 1) r4 rfl (RL.app (o := 5) (n := 1) r5 rfl (RL.app (o := 6) (n := 1) r6 rfl (RL.app (o := 7) (n := 1) r7 rfl (RL.app (o := 8) (n := 1) r8 rfl (RL.nil))))))))) : RL w _ (cs.drop 0))
instance : RdOf Tryd.prog 33 (List TBody) := rdOf_slice Tryd.underlying33 (by kernel_rfl)
instance : RdOf Tryd.prog 35 TWorld where
  size := by kernel_rfl
  of {H enc w spare held fuel cs x} h := by
    obtain ⟨y0, g0, r0⟩ := reads_fld (α := TLevel) (tt := 31) Tryd.underlying35 h 0 rfl rfl rfl
    obtain ⟨y1, g1, r1⟩ := reads_fld (α := Int) (tt := 3) Tryd.underlying35 h 1 rfl rfl rfl
    obtain ⟨y2, g2, r2⟩ := reads_fld (α := Int) (tt := 3) Tryd.underlying35 h 2 rfl rfl rfl
    obtain ⟨y3, g3, r3⟩ := reads_fld (α := (List Int)) (tt := 32) Tryd.underlying35 h 3 rfl rfl rfl
    obtain ⟨y4, g4, r4⟩ := reads_fld (α := (List TBody)) (tt := 33) Tryd.underlying35 h 4 rfl rfl rfl
    refine ⟨⟨y0, y1, y2, y3, y4⟩, ⟨g0, g1, g2, g3, g4⟩, ?_, ?_⟩
    · rw [reads_len Tryd.underlying35 h]; kernel_rfl
    · exact (RL.app (o := 0) (n := 1) r0 rfl (RL.app (o := 1) (n := 1) r1 rfl (RL.app (o := 2) (n := 1) r2 rfl (RL.app (o := 3) (n := 1) r3 rfl (RL.app (o := 4) (n := 1) r4 rfl (RL.nil))))) : RL w _ (cs.drop 0))
end Go.Proofs.YtkfnaniegldfaaaDoor
end
