/-
  A literal slice becomes an owned slice; comparing a slice with nil. No statement of the program is proved here.
  Conditions: none.
  The parts' names: PartsOf, in the program and in the reference.
  Conditions: lists of at most 2^20 elements.
  Numbers as bytes: EncodeVarint, Signless, PackInts, PackText, Checksum, SealText, in the program and in the reference.
  Conditions: lists of at most 2^30 elements.
  WorldBytes, in the program and in the reference.
  Conditions: lists of at most 2^40 elements.
  The parts' sums: PartSum, in the program and in the reference.
  Conditions: lists of at most 2^20 elements.
  The law FnExactPartSum returns true.
  Conditions: none.
  The kit's readings of the laws' structs as Lean data. No statement of the program is proved here.
  Conditions: none.
  The kit's readings of the laws' bodies and worlds as Lean data. No statement of the program is proved here.
  Conditions: none.
-/
import Derived.Lib.LazyBuf
import Derived.Test.YtkfnaniegldfaaaDoorDDSumRowk9
import Derived.Test.YtkfnaniegldfaaaDoorDDSumRowk11
section
set_option linter.unusedSimpArgs false
set_option linter.unusedVariables false
namespace Go.Proofs.YtkfnaniegldfaaaDoor
open Go.RowKit

def V1.tosr (q : Nat) : V1 → V1
  | .sb p n k => match Nat.beq p q with
    | true => match k with
      | 1 => .ref q
      | _ => .un
    | false => (V1.sb p n k).kill [q]
  | x => x.kill [q]
/-- A literal slice of plain values is a slice of one's own. -/
theorem Wk.sbrow {st : St} {q : Nat} {cs : List V1} {es : List (List T)} (hq : st.objs[q]? = some (.box cs)) (hs : sbE cs = some es) (hm : cs.length ≤ maxLen) : Wk st ⟨st.n, st.tmps.map fun t => (t.1, t.2.mapk (V1.tosr q)), (st.objs.map (Ob.mapk (V1.tosr q))).set q (.row 1 es)⟩ := by
  intro w H F a h1
  obtain ⟨hel, hes⟩ := sbE_ok cs es hs
  have hb := h1.obs q
  rw [getD_of hq] at hb
  obtain ⟨g, t, vs, e1, e2, e3⟩ := hb
  have hsay := h1.ok.says q
  rw [e1] at hsay
  have hg : w.heap[g]? = some (.cells vs.toArray t (0, 0)) := hsay
  have hqlt := getE_lt hq
  have hplain : ∀ (i : Nat) (e : List T), es[i]? = some e → ∃ u, vs[i]? = some u ∧ e = [.v u] ∧ u.oneCell' = true := fun i e hi => by
    obtain ⟨ps, u, h2, h3⟩ := hes i e hi
    have hil := getE_lt h2
    have hiv : vs[i]? = some (vs[i]'(by omega)) := List.getElem?_eq_getElem (by omega)
    obtain ⟨h4, h5⟩ := e3 i _ _ h2 hiv
    obtain ⟨h6, h7⟩ := RO.plain h4
    exact ⟨u, by rw [hiv, h6], h3, h7⟩
  obtain ⟨f, hf⟩ : ∃ f : Nat → Value, f = fun i => vs.getD i undef := ⟨_, rfl⟩
  have hOW : ∃ fp, OW w (.sl 1 es) (.slice (some ⟨g, 0, none⟩) es.length vs.length) fp ∧ (∀ b ∈ fp, b = g) ∧ fp.Nodup := by
    refine ⟨g :: (List.replicate es.length [([] : List Nat)]).flatten.flatten, OW.sl es g 0 1 vs.length t vs.toArray (0, 0) (fun i _ => vs.getD i undef) (List.replicate es.length [[]]) hg (.inl rfl) (by omega) (by omega) (by simp) (by omega) (fun e he => ?_) (by simp) (fun fs hfs => by rw [List.eq_of_mem_replicate hfs]; rfl) (fun i j hi hj => ?_) (fun i j e tt fs ff k1 k2 k3 k4 => ?_), ?_, ?_⟩
    · obtain ⟨i, hi⟩ := List.getElem?_of_mem he
      obtain ⟨u, _, h3, _⟩ := hplain i e hi
      rw [h3]; rfl
    · have h2 : i < vs.length := by omega
      have h3 : j = 0 := by omega
      subst h3
      simp [List.getD_eq_getElem?_getD, h2]
    · obtain ⟨u, h3, h4, h5⟩ := hplain i e k1
      subst h4
      have hj : j = 0 := by have := getE_lt k2; simp at this; exact this
      subst hj
      simp at k2
      subst k2
      have hfs : fs = [[]] := List.eq_of_mem_replicate (getE_mem k3)
      subst hfs
      simp at k4
      subst k4
      have h6 : vs.getD i undef = u := getD_of h3
      rw [h6]
      exact .v u h5
    · intro b hb
      simpa using hb
    · simp
  obtain ⟨fp, hO, hfp, hnd⟩ := hOW
  have hkeep : Keeps w w [g] := ⟨rfl, rfl, rfl, Nat.le_refl _, fun _ _ _ => rfl⟩
  obtain ⟨hok, htn⟩ := h1.ok.turn (p := q) (fp := [g]) (by rw [e1]; rfl) hkeep (.ow (.sl 1 es) (.slice (some ⟨g, 0, none⟩) es.length vs.length) fp) hO hnd trivial (fun b hb => .inl (by simp [hfp b hb]))
  have hone : ∀ x v, R1 w H F x v → R1 w (H.put q (.ow (.sl 1 es) (.slice (some ⟨g, 0, none⟩) es.length vs.length) fp)) F (V1.tosr q x) v := fun x v hx => by
    cases x with
    | sb p n k =>
      simp only [V1.tosr]
      split
      · rename_i hp
        have hpq := Nat.eq_of_beq_eq_true hp
        subst hpq
        split
        · obtain ⟨g', t', vs', k1, k2, k3, k4⟩ := hx
          rw [e1] at k1
          simp only [Pc.box.injEq] at k1
          obtain ⟨rfl, rfl, rfl⟩ := k1
          have hn : n = es.length := by omega
          have hvn : vs.length = es.length := by omega
          rw [k4, hn]
          exact ⟨.sl 1 es, fp, by rw [Hs.put_self, hvn]⟩
        · trivial
      · exact R1.killed h1.ok htn hx
    | _ => exact R1.killed h1.ok htn hx
  refine ⟨_, h1.mapk (V1.tosr q) hone hok ((st.objs.map (Ob.mapk (V1.tosr q))).set q (.row 1 es)) (fun p => ?_), fun p b hb => ?_, htn.gh⟩
  · by_cases hpq : p = q
    · subst hpq
      rw [getD_of (x := .row 1 es) (by simp [hqlt])]
      exact ⟨_, _, Hs.put_self _ _ _⟩
    · rw [List.getD_eq_getElem?_getD, List.getElem?_set_ne (Ne.symm hpq), List.getElem?_map]
      have h2 := h1.obs p
      rw [List.getD_eq_getElem?_getD] at h2
      have h3 := Hs.put_ne H (.ow (.sl 1 es) (.slice (some ⟨g, 0, none⟩) es.length vs.length) fp) hpq
      cases ho : st.objs[p]? with
      | none => rw [ho] at h2; exact h3.trans h2
      | some ob => rw [ho] at h2; exact RB.mapk hone h3 h2
  · by_cases hpq : p = q
    · subst hpq
      rw [Hs.put_self] at hb
      exact ⟨p, by rw [e1, hfp b hb]; simp [Pc.fp]⟩
    · exact ⟨p, by rw [← Hs.put_ne H _ hpq]; exact hb⟩
section
variable {P : Program} {ops : Array Oper} {o : Oper} {st : St} {n : Nat} {t t' : TypeId} {y z : Operand} {ps qs : List Nat}
end
end Go.Proofs.YtkfnaniegldfaaaDoor
end

section
set_option linter.unusedSimpArgs false
set_option linter.unusedVariables false
set_option maxRecDepth 8000
namespace Go.Proofs.YtkfnaniegldfaaaDoor
open Go.RowKit

theorem row2p {k : Nat} {o : Ob} {a b : List (List T)} (h : a = b) : [o, Ob.row k a] = [o, Ob.row k b] := by rw [h]
def seedB : ByteArray := bs [115, 101, 101, 100]
def scoreN (k : Nat) : ByteArray := bs [115, 99, 111, 114, 101, 32] ++ fmtN k
def bodyN (k : Nat) : ByteArray := bs [98, 111, 100, 121, 32] ++ fmtN k
def partsTo (n m : Nat) : List ByteArray := (seedB :: (List.range n).map scoreN) ++ (List.range m).map bodyN
noncomputable def partsOf (w : TWorld) : List ByteArray := if worldOk w = true then partsTo w.Scores.length w.Bodies.length else []
theorem partsTo_len (n m : Nat) : (partsTo n m).length = 1 + n + m := by simp [partsTo]; omega
theorem partsTo_n (n : Nat) : partsTo (n + 1) 0 = partsTo n 0 ++ [scoreN n] := by simp [partsTo, List.range_succ]
theorem partsTo_m (n m : Nat) : partsTo n (m + 1) = partsTo n m ++ [bodyN m] := by simp [partsTo, List.range_succ]
theorem parts_next {n m : Nat} {l : List ByteArray} {x : ByteArray} (h : l = partsTo n m ++ [x]) : els l = els (partsTo n m) ++ [Enc.e x] := by rw [h]; simp [els]
set_option maxHeartbeats 8000000 in
theorem I_PartsOf (x : TWorld) (hg : Enc.gd x) : Con Tryd.prog 16 [] [ag x] [.row 1 (els (partsOf x))] (.o (.c (.ref 0))) := by
  have hc := I_WorldOk x hg
  cases ho : worldOk x with
  | false =>
    rw [ho] at hc
    rw [show partsOf x = [] by rw [partsOf, ho]; exact if_neg (by decide)]
    refine Con.of Tryd.func16 rfl Tryd.ntmps16 rfl (fun E => ?_)
    refine A_seq ?_; refine A_region ?_; refine M1 (q_boxN rfl rfl rfl rfl) rfl rfl ?_; refine M0 (q_assignC rfl rfl rfl) rfl rfl ?_; refine L_nil ?_; refine T_n ?_; refine A_seq ?_; refine A_seq ?_
    refine A_region ?_; refine M0 (q_ldN rfl rfl rfl rfl rfl rfl) rfl rfl ?_; refine M0 (q_call0 rfl rfl (hc) rfl) rfl rfl ?_; refine M0 (q_not rfl rfl rfl) rfl rfl ?_; refine L_nil ?_
    refine T_n ?_; refine A_ifT rfl ?_; refine A_seq ?_; refine A_region ?_; refine M0 (q_assignC rfl rfl rfl) rfl rfl ?_; refine L_nil ?_; refine T_n ?_; refine A_ret ?_; refine T_r ?_; refine F_r ?_
    exact E_tmp rfl rfl (W_fill [1] [1] rfl rfl (by decide) rfl rfl rfl)
  | true =>
    rw [ho] at hc
    rw [show partsOf x = partsTo x.Scores.length x.Bodies.length by rw [partsOf, ho]; exact if_pos rfl]
    obtain ⟨_, _, _, hn, _, hb, _⟩ := worldOk_spec ho
    have hls := els_len x.Scores
    have hlb := els_len x.Bodies
    refine Con.of Tryd.func16 rfl Tryd.ntmps16 rfl (fun E => ?_)
    refine A_seq ?_; refine A_region ?_; refine M1 (q_boxN rfl rfl rfl rfl) rfl rfl ?_; refine M0 (q_assignC rfl rfl rfl) rfl rfl ?_; refine L_nil ?_; refine T_n ?_; refine A_seq ?_; refine A_seq ?_
    refine A_region ?_; refine M0 (q_ldN rfl rfl rfl rfl rfl rfl) rfl rfl ?_; refine M0 (q_call0 rfl rfl (hc) rfl) rfl rfl ?_; refine M0 (q_not rfl rfl rfl) rfl rfl ?_; refine L_nil ?_
    refine T_n ?_; refine A_ifF rfl ?_; refine A_skip ?_; refine T_n ?_; refine A_seq ?_; refine A_region ?_; refine M1 (q_bslice rfl rfl rfl rfl rfl rfl) rfl rfl ?_
    refine M0 (q_assignC rfl rfl rfl) rfl rfl ?_; refine L_nil ?_; refine T_n ?_; refine A_seq ?_; refine A_seq ?_; refine A_region ?_; refine M0 (q_fldp rfl rfl rfl rfl (by decide)) rfl rfl ?_
    refine M0 (q_ld1 rfl rfl rfl rfl rfl) rfl rfl ?_; refine M0 (q_len rfl rfl rfl) rfl rfl ?_; refine M0 (q_moveC rfl rfl rfl) rfl rfl ?_; refine L_nil ?_; refine T_n ?_; refine A_block ?_
    refine AWP.pre ?_ (Wk.sbrow (q := 1) (es := els [seedB]) rfl rfl (Nat.le_of_ble_eq_true rfl))
    refine A_loop (fun m st => ∃ k : Nat, k + m = x.Scores.length ∧ (True) ∧ st = (fun k : Nat => (⟨_, [(1, .o (.c (.ptr 0 0))), (3, .o (.c (.ref 1))), (12, I (els x.Scores).length), (13, I k)], [.box ((Enc.e x).map (V1.rd [])), .row 1 (els (partsTo k 0))]⟩ : St)) k) (x.Scores.length) ⟨(fun k : Nat => (⟨_, [(1, .o (.c (.ptr 0 0))), (3, .o (.c (.ref 1))), (12, I (els x.Scores).length), (13, I k)], [.box ((Enc.e x).map (V1.rd [])), .row 1 (els (partsTo k 0))]⟩ : St)) 0, W_go [0, 1] (by decide) rfl (rfl) (.cons rfl (.cons rfl (.cons rfl (.cons rfl (.nil))))), 0, by omega, trivial, rfl⟩ ?_
    rintro m_A _ ⟨k, hk_A, hp_A, rfl⟩
    have hpl := partsTo_len k 0
    have hle := els_len (partsTo k 0)
    refine A_seq ?_; refine A_region ?_; refine M0 (q_lss rfl rfl rfl rfl) rfl rfl ?_; refine L_nil ?_; refine T_n ?_; refine A_seq ?_
    refine A_cond rfl (fun h => ?_) (fun h => ?_)
    · have h3 : k < x.Scores.length := by have := of_decide_eq_true h; omega
      have hf := I_FormatInt k (by omega)
      have hfs := fmtN_size k
      refine A_skip ?_; refine T_n ?_; refine A_seq ?_; refine A_block ?_; refine A_seq ?_; refine A_region ?_; refine M0 (q_moveC rfl rfl rfl) rfl rfl ?_; refine M0 (q_assignC rfl rfl rfl) rfl rfl ?_
      refine L_nil ?_; refine T_n ?_; refine A_region ?_; refine M0 (q_moveC rfl rfl rfl) rfl rfl ?_; refine M0 (q_moveC rfl rfl rfl) rfl rfl ?_; refine M0 (q_call0 rfl rfl (hf) rfl) rfl rfl ?_
      refine M0 (q_cat rfl rfl rfl rfl (by simp only [bs_size, cat_size, List.length_cons, List.length_nil, List.length_append]; omega)) rfl rfl ?_
      refine M1 (q_bslice rfl rfl rfl rfl rfl rfl) rfl rfl ?_; refine M_appsb rfl rfl rfl rfl rfl rfl rfl rfl rfl rfl (by omega) (by omega) ?_; refine M0 (q_assignC rfl rfl rfl) rfl rfl ?_
      refine L_nil ?_; refine B_n ?_; refine T_n ?_; refine A_region ?_; refine M0 (q_add rfl rfl rfl rfl (by omega)) rfl rfl ?_; refine M0 (q_moveC rfl rfl rfl) rfl rfl ?_; refine L_nil ?_
      refine T_n ?_
      exact ⟨x.Scores.length - (k + 1), by omega, (fun k : Nat => (⟨_, [(1, .o (.c (.ptr 0 0))), (3, .o (.c (.ref 1))), (12, I (els x.Scores).length), (13, I k)], [.box ((Enc.e x).map (V1.rd [])), .row 1 (els (partsTo k 0))]⟩ : St)) (k + 1), W_go [0, 1] (by decide) rfl (row2p (parts_next (partsTo_n k))) (.cons rfl (.cons rfl (.cons rfl (.cons rfl (.nil))))), k + 1, by omega, trivial, rfl⟩
    · have h3 : ¬ k < x.Scores.length := by have := of_decide_eq_false h; omega
      have hk : k = x.Scores.length := by omega
      rw [hk]
      refine A_exit ?_; refine T_x ?_; refine T_x ?_; refine B_xs ?_; refine T_n ?_; refine A_seq ?_; refine A_seq ?_; refine A_region ?_; refine M0 (q_fldp rfl rfl rfl rfl (by decide)) rfl rfl ?_
      refine M0 (q_ld1 rfl rfl rfl rfl rfl) rfl rfl ?_; refine M0 (q_len rfl rfl rfl) rfl rfl ?_; refine M0 (q_moveC rfl rfl rfl) rfl rfl ?_; refine L_nil ?_; refine T_n ?_; refine A_block ?_
      refine A_loop (fun m st => ∃ j : Nat, j + m = x.Bodies.length ∧ (True) ∧ st = (fun j : Nat => (⟨_, [(1, .o (.c (.ptr 0 0))), (3, .o (.c (.ref 1))), (25, I (els x.Bodies).length), (26, I j)], [.box ((Enc.e x).map (V1.rd [])), .row 1 (els (partsTo x.Scores.length j))]⟩ : St)) j) (x.Bodies.length) ⟨(fun j : Nat => (⟨_, [(1, .o (.c (.ptr 0 0))), (3, .o (.c (.ref 1))), (25, I (els x.Bodies).length), (26, I j)], [.box ((Enc.e x).map (V1.rd [])), .row 1 (els (partsTo x.Scores.length j))]⟩ : St)) 0, W_go [0, 1] (by decide) rfl (rfl) (.cons rfl (.cons rfl (.cons rfl (.cons rfl (.nil))))), 0, by omega, trivial, rfl⟩ ?_
      rintro m_B _ ⟨j, hk_B, hp_B, rfl⟩
      have hpl2 := partsTo_len x.Scores.length j
      have hle2 := els_len (partsTo x.Scores.length j)
      refine A_seq ?_; refine A_region ?_; refine M0 (q_lss rfl rfl rfl rfl) rfl rfl ?_; refine L_nil ?_; refine T_n ?_; refine A_seq ?_
      refine A_cond rfl (fun h => ?_) (fun h => ?_)
      · have h3 : j < x.Bodies.length := by have := of_decide_eq_true h; omega
        have hf := I_FormatInt j (by omega)
        have hfs := fmtN_size j
        refine A_skip ?_; refine T_n ?_; refine A_seq ?_; refine A_block ?_; refine A_seq ?_; refine A_region ?_; refine M0 (q_moveC rfl rfl rfl) rfl rfl ?_; refine M0 (q_assignC rfl rfl rfl) rfl rfl ?_
        refine L_nil ?_; refine T_n ?_; refine A_region ?_; refine M0 (q_moveC rfl rfl rfl) rfl rfl ?_; refine M0 (q_moveC rfl rfl rfl) rfl rfl ?_; refine M0 (q_call0 rfl rfl (hf) rfl) rfl rfl ?_
        refine M0 (q_cat rfl rfl rfl rfl (by simp only [bs_size, cat_size, List.length_cons, List.length_nil, List.length_append]; omega)) rfl rfl ?_
        refine M1 (q_bslice rfl rfl rfl rfl rfl rfl) rfl rfl ?_; refine M_appsb rfl rfl rfl rfl rfl rfl rfl rfl rfl rfl (by omega) (by omega) ?_; refine M0 (q_assignC rfl rfl rfl) rfl rfl ?_
        refine L_nil ?_; refine B_n ?_; refine T_n ?_; refine A_region ?_; refine M0 (q_add rfl rfl rfl rfl (by omega)) rfl rfl ?_; refine M0 (q_moveC rfl rfl rfl) rfl rfl ?_; refine L_nil ?_
        refine T_n ?_
        exact ⟨x.Bodies.length - (j + 1), by omega, (fun j : Nat => (⟨_, [(1, .o (.c (.ptr 0 0))), (3, .o (.c (.ref 1))), (25, I (els x.Bodies).length), (26, I j)], [.box ((Enc.e x).map (V1.rd [])), .row 1 (els (partsTo x.Scores.length j))]⟩ : St)) (j + 1), W_go [0, 1] (by decide) rfl (row2p (parts_next (partsTo_m x.Scores.length j))) (.cons rfl (.cons rfl (.cons rfl (.cons rfl (.nil))))), j + 1, by omega, trivial, rfl⟩
      · have h3 : ¬ j < x.Bodies.length := by have := of_decide_eq_false h; omega
        have hm : j = x.Bodies.length := by omega
        rw [hm]
        refine A_exit ?_; refine T_x ?_; refine T_x ?_; refine B_xs ?_; refine T_n ?_; refine A_seq ?_; refine A_region ?_; refine M0 (q_moveC rfl rfl rfl) rfl rfl ?_
        refine M0 (q_assignC rfl rfl rfl) rfl rfl ?_; refine L_nil ?_; refine T_n ?_; refine A_ret ?_; refine F_r ?_
        exact E_tmp rfl rfl (W_end [1] (by decide) rfl rfl rfl)
set_option maxHeartbeats 8000000 in
theorem S_PartsOf (x : TWorld) (hg : Enc.gd x) : Con Tryd.prog 14 [] [ag x] [.row 1 (els (partsOf x))] (.o (.c (.ref 0))) := by
  have hc := S_WorldOk x hg
  cases ho : worldOk x with
  | false =>
    rw [ho] at hc
    rw [show partsOf x = [] by rw [partsOf, ho]; exact if_neg (by decide)]
    refine Con.of Tryd.func14 rfl Tryd.ntmps14 rfl (fun E => ?_)
    refine A_seq ?_; refine A_region ?_; refine M1 (q_boxN rfl rfl rfl rfl) rfl rfl ?_; refine M0 (q_assignC rfl rfl rfl) rfl rfl ?_; refine L_nil ?_; refine T_n ?_; refine A_seq ?_
    refine A_region ?_; refine M1 (q_bslice0 rfl rfl rfl) rfl rfl ?_; refine M0 (q_assignC rfl rfl rfl) rfl rfl ?_; refine L_nil ?_; refine T_n ?_; refine A_seq ?_; refine A_seq ?_
    refine A_region ?_; refine M0 (q_ldN rfl rfl rfl rfl rfl rfl) rfl rfl ?_; refine M0 (q_call0 rfl rfl (hc) rfl) rfl rfl ?_; refine M0 (q_not rfl rfl rfl) rfl rfl ?_; refine L_nil ?_
    refine T_n ?_; refine A_ifT rfl ?_; refine A_seq ?_; refine A_region ?_; refine M0 (q_moveC rfl rfl rfl) rfl rfl ?_; refine M0 (q_assignC rfl rfl rfl) rfl rfl ?_; refine L_nil ?_; refine T_n ?_
    refine A_ret ?_; refine T_r ?_; refine F_r ?_
    exact E_tmp rfl rfl (W_end [1] (by decide) rfl rfl rfl)
  | true =>
    rw [ho] at hc
    rw [show partsOf x = partsTo x.Scores.length x.Bodies.length by rw [partsOf, ho]; exact if_pos rfl]
    obtain ⟨_, _, _, hn, _, hb, _⟩ := worldOk_spec ho
    have hls := els_len x.Scores
    have hlb := els_len x.Bodies
    refine Con.of Tryd.func14 rfl Tryd.ntmps14 rfl (fun E => ?_)
    refine A_seq ?_; refine A_region ?_; refine M1 (q_boxN rfl rfl rfl rfl) rfl rfl ?_; refine M0 (q_assignC rfl rfl rfl) rfl rfl ?_; refine L_nil ?_; refine T_n ?_; refine A_seq ?_
    refine A_region ?_; refine M1 (q_bslice0 rfl rfl rfl) rfl rfl ?_; refine M0 (q_assignC rfl rfl rfl) rfl rfl ?_; refine L_nil ?_; refine T_n ?_; refine A_seq ?_; refine A_seq ?_
    refine A_region ?_; refine M0 (q_ldN rfl rfl rfl rfl rfl rfl) rfl rfl ?_; refine M0 (q_call0 rfl rfl (hc) rfl) rfl rfl ?_; refine M0 (q_not rfl rfl rfl) rfl rfl ?_; refine L_nil ?_
    refine T_n ?_; refine A_ifF rfl ?_; refine A_skip ?_; refine T_n ?_; refine A_seq ?_; refine A_region ?_; refine M0 (q_moveC rfl rfl rfl) rfl rfl ?_
    refine M1 (q_bslice rfl rfl rfl rfl rfl rfl) rfl rfl ?_; refine M_appsb rfl rfl rfl rfl rfl rfl rfl rfl rfl rfl (by decide) (by decide) ?_; refine M0 (q_assignC rfl rfl rfl) rfl rfl ?_
    refine L_nil ?_; refine T_n ?_; refine A_seq ?_; refine A_seq ?_; refine A_region ?_; refine M0 (q_assignC rfl rfl rfl) rfl rfl ?_; refine L_nil ?_; refine T_n ?_; refine A_block ?_
    refine A_loop (fun m st => ∃ k : Nat, k + m = x.Scores.length ∧ (True) ∧ st = (fun k : Nat => (⟨_, [(1, .o (.c (.ptr 0 0))), (3, .o (.c (.ref 1))), (4, I k)], [.box ((Enc.e x).map (V1.rd [])), .row 1 (els (partsTo k 0))]⟩ : St)) k) (x.Scores.length) ⟨(fun k : Nat => (⟨_, [(1, .o (.c (.ptr 0 0))), (3, .o (.c (.ref 1))), (4, I k)], [.box ((Enc.e x).map (V1.rd [])), .row 1 (els (partsTo k 0))]⟩ : St)) 0, W_go [0, 1] (by decide) rfl (rfl) (.cons rfl (.cons rfl (.cons rfl (.nil)))), 0, by omega, trivial, rfl⟩ ?_
    rintro m_A _ ⟨k, hk_A, hp_A, rfl⟩
    have hpl := partsTo_len k 0
    have hle := els_len (partsTo k 0)
    refine A_seq ?_; refine A_seq ?_; refine A_region ?_; refine M0 (q_moveC rfl rfl rfl) rfl rfl ?_; refine M0 (q_fldp rfl rfl rfl rfl (by decide)) rfl rfl ?_
    refine M0 (q_ld1 rfl rfl rfl rfl rfl) rfl rfl ?_; refine M0 (q_len rfl rfl rfl) rfl rfl ?_; refine M0 (q_lss rfl rfl rfl rfl) rfl rfl ?_; refine L_nil ?_; refine T_n ?_
    refine A_cond rfl (fun h => ?_) (fun h => ?_)
    · have h3 : k < x.Scores.length := by have := of_decide_eq_true h; omega
      have hf := S_FormatInt k (by omega)
      have hfs := fmtN_size k
      refine A_skip ?_; refine T_n ?_; refine A_seq ?_; refine A_block ?_; refine A_region ?_; refine M0 (q_moveC rfl rfl rfl) rfl rfl ?_; refine M0 (q_moveC rfl rfl rfl) rfl rfl ?_
      refine M0 (q_call0 rfl rfl (hf) rfl) rfl rfl ?_
      refine M0 (q_cat rfl rfl rfl rfl (by simp only [bs_size, cat_size, List.length_cons, List.length_nil, List.length_append]; omega)) rfl rfl ?_
      refine M1 (q_bslice rfl rfl rfl rfl rfl rfl) rfl rfl ?_; refine M_appsb rfl rfl rfl rfl rfl rfl rfl rfl rfl rfl (by omega) (by omega) ?_; refine M0 (q_assignC rfl rfl rfl) rfl rfl ?_
      refine L_nil ?_; refine B_n ?_; refine T_n ?_; refine A_region ?_; refine M0 (q_moveC rfl rfl rfl) rfl rfl ?_; refine M0 (q_add rfl rfl rfl rfl (by omega)) rfl rfl ?_
      refine M0 (q_assignC rfl rfl rfl) rfl rfl ?_; refine L_nil ?_; refine T_n ?_
      exact ⟨x.Scores.length - (k + 1), by omega, (fun k : Nat => (⟨_, [(1, .o (.c (.ptr 0 0))), (3, .o (.c (.ref 1))), (4, I k)], [.box ((Enc.e x).map (V1.rd [])), .row 1 (els (partsTo k 0))]⟩ : St)) (k + 1), W_go [0, 1] (by decide) rfl (row2p (parts_next (partsTo_n k))) (.cons rfl (.cons rfl (.cons rfl (.nil)))), k + 1, by omega, trivial, rfl⟩
    · have h3 : ¬ k < x.Scores.length := by have := of_decide_eq_false h; omega
      have hk : k = x.Scores.length := by omega
      rw [hk]
      refine A_exit ?_; refine T_x ?_; refine T_x ?_; refine B_xs ?_; refine T_n ?_; refine A_seq ?_; refine A_seq ?_; refine A_region ?_; refine M0 (q_assignC rfl rfl rfl) rfl rfl ?_; refine L_nil ?_
      refine T_n ?_; refine A_block ?_
      refine A_loop (fun m st => ∃ j : Nat, j + m = x.Bodies.length ∧ (True) ∧ st = (fun j : Nat => (⟨_, [(1, .o (.c (.ptr 0 0))), (3, .o (.c (.ref 1))), (5, I j)], [.box ((Enc.e x).map (V1.rd [])), .row 1 (els (partsTo x.Scores.length j))]⟩ : St)) j) (x.Bodies.length) ⟨(fun j : Nat => (⟨_, [(1, .o (.c (.ptr 0 0))), (3, .o (.c (.ref 1))), (5, I j)], [.box ((Enc.e x).map (V1.rd [])), .row 1 (els (partsTo x.Scores.length j))]⟩ : St)) 0, W_go [0, 1] (by decide) rfl (rfl) (.cons rfl (.cons rfl (.cons rfl (.nil)))), 0, by omega, trivial, rfl⟩ ?_
      rintro m_B _ ⟨j, hk_B, hp_B, rfl⟩
      have hpl2 := partsTo_len x.Scores.length j
      have hle2 := els_len (partsTo x.Scores.length j)
      refine A_seq ?_; refine A_seq ?_; refine A_region ?_; refine M0 (q_moveC rfl rfl rfl) rfl rfl ?_; refine M0 (q_fldp rfl rfl rfl rfl (by decide)) rfl rfl ?_
      refine M0 (q_ld1 rfl rfl rfl rfl rfl) rfl rfl ?_; refine M0 (q_len rfl rfl rfl) rfl rfl ?_; refine M0 (q_lss rfl rfl rfl rfl) rfl rfl ?_; refine L_nil ?_; refine T_n ?_
      refine A_cond rfl (fun h => ?_) (fun h => ?_)
      · have h3 : j < x.Bodies.length := by have := of_decide_eq_true h; omega
        have hf := S_FormatInt j (by omega)
        have hfs := fmtN_size j
        refine A_skip ?_; refine T_n ?_; refine A_seq ?_; refine A_block ?_; refine A_region ?_; refine M0 (q_moveC rfl rfl rfl) rfl rfl ?_; refine M0 (q_moveC rfl rfl rfl) rfl rfl ?_
        refine M0 (q_call0 rfl rfl (hf) rfl) rfl rfl ?_
        refine M0 (q_cat rfl rfl rfl rfl (by simp only [bs_size, cat_size, List.length_cons, List.length_nil, List.length_append]; omega)) rfl rfl ?_
        refine M1 (q_bslice rfl rfl rfl rfl rfl rfl) rfl rfl ?_; refine M_appsb rfl rfl rfl rfl rfl rfl rfl rfl rfl rfl (by omega) (by omega) ?_; refine M0 (q_assignC rfl rfl rfl) rfl rfl ?_
        refine L_nil ?_; refine B_n ?_; refine T_n ?_; refine A_region ?_; refine M0 (q_moveC rfl rfl rfl) rfl rfl ?_; refine M0 (q_add rfl rfl rfl rfl (by omega)) rfl rfl ?_
        refine M0 (q_assignC rfl rfl rfl) rfl rfl ?_; refine L_nil ?_; refine T_n ?_
        exact ⟨x.Bodies.length - (j + 1), by omega, (fun j : Nat => (⟨_, [(1, .o (.c (.ptr 0 0))), (3, .o (.c (.ref 1))), (5, I j)], [.box ((Enc.e x).map (V1.rd [])), .row 1 (els (partsTo x.Scores.length j))]⟩ : St)) (j + 1), W_go [0, 1] (by decide) rfl (row2p (parts_next (partsTo_m x.Scores.length j))) (.cons rfl (.cons rfl (.cons rfl (.nil)))), j + 1, by omega, trivial, rfl⟩
      · have h3 : ¬ j < x.Bodies.length := by have := of_decide_eq_false h; omega
        have hm : j = x.Bodies.length := by omega
        rw [hm]
        refine A_exit ?_; refine T_x ?_; refine T_x ?_; refine B_xs ?_; refine T_n ?_; refine A_seq ?_; refine A_region ?_; refine M0 (q_moveC rfl rfl rfl) rfl rfl ?_
        refine M0 (q_assignC rfl rfl rfl) rfl rfl ?_; refine L_nil ?_; refine T_n ?_; refine A_ret ?_; refine F_r ?_
        exact E_tmp rfl rfl (W_end [1] (by decide) rfl rfl rfl)
end Go.Proofs.YtkfnaniegldfaaaDoor
end

section
set_option linter.unusedSimpArgs false
set_option linter.unusedVariables false
set_option maxRecDepth 8000
namespace Go.Proofs.YtkfnaniegldfaaaDoor
open Go.RowKit

def varN (n : Nat) : List UInt8 := if n < 128 then [UInt8.ofNat n] else UInt8.ofNat (n % 128 + 128) :: varN (n / 128)
termination_by n
decreasing_by omega
def encVar (n : Int) : List UInt8 := if 0 ≤ n ∧ n ≤ 1099511627775 then varN n.toNat else []
theorem varN_small {n : Nat} (h : n < 128) : varN n = [UInt8.ofNat n] := by rw [varN, if_pos h]
theorem varN_big {n : Nat} (h : ¬ n < 128) : varN n = UInt8.ofNat (n % 128 + 128) :: varN (n / 128) := by rw [varN, if_neg h]
theorem varN_step {acc : List UInt8} {m : Nat} {l : List UInt8} (h : acc ++ varN m = l) (hm : ¬ m < 128) {x : UInt8} (hx : x = UInt8.ofNat (m % 128 + 128)) : (acc ++ [x]) ++ varN (m / 128) = l := by
  rw [← h, varN_big hm, hx]; simp
theorem varN_end {acc : List UInt8} {m : Nat} {l : List UInt8} (h : acc ++ varN m = l) (hm : m < 128) {x : UInt8} (hx : x = UInt8.ofNat m) : acc ++ [x] = l := by
  rw [← h, varN_small hm, hx]

set_option maxHeartbeats 8000000 in
theorem I_EncodeVarint (n : Int) : Con Tryd.prog 92 [] [ai n] [] (S (bs (encVar n))) := by
  refine Con.of Tryd.func92 rfl Tryd.ntmps92 rfl (fun E => ?_)
  refine A_seq ?_; refine A_region ?_; refine M0 (q_assignC rfl rfl rfl) rfl rfl ?_; refine L_nil ?_; refine T_n ?_; refine A_seq ?_; refine A_seq ?_; refine A_region ?_
  refine M0 (q_moveC rfl rfl rfl) rfl rfl ?_; refine M0 (q_lss rfl rfl rfl rfl) rfl rfl ?_; refine M0 (q_moveC rfl rfl rfl) rfl rfl ?_
  refine M0 (Qt.grdF rfl rfl rfl .stop (fun hgrd => q_moveC rfl rfl rfl)) rfl rfl ?_; refine M0 (Qt.grdF rfl rfl rfl (.hit .stop) (fun hgrd => q_gtr rfl rfl rfl rfl)) rfl rfl ?_
  refine M0 (q_or rfl rfl rfl rfl) rfl rfl ?_; refine L_nil ?_; refine T_n ?_
  refine A_cond rfl (fun h => ?_) (fun h => ?_)
  · simp only [Bool.or_eq_true, decide_eq_true_eq] at h
    refine A_seq ?_; refine A_region ?_; refine M0 (q_assignC rfl rfl rfl) rfl rfl ?_; refine L_nil ?_; refine T_n ?_; refine A_ret ?_; refine T_r ?_; refine F_r ?_
    exact E_tmp rfl rfl (W_end [] (by decide) rfl rfl (S_eq (by rw [encVar, if_neg (by omega)])))
  simp only [Bool.or_eq_false_iff, decide_eq_false_iff_not] at h
  have he : encVar n = varN n.toNat := by rw [encVar, if_pos (by omega)]
  rw [he]
  refine A_skip ?_; refine T_n ?_; refine A_seq ?_; refine A_region ?_; refine M0 (q_assignC rfl rfl rfl) rfl rfl ?_; refine L_nil ?_; refine T_n ?_; refine A_seq ?_; refine A_block ?_
  refine AWP.pre ?_ (W_nil 3 1 rfl)
  refine A_loop (fun m__ st => ∃ (m : Nat) (acc : List UInt8), m = m__ ∧ (acc ++ varN m = varN n.toNat ∧ acc.length + m ≤ 1099511627775) ∧ st = (fun (m : Nat) (acc : List UInt8) => (⟨_, [(0, I m), (3, .o (.c (.ref 0)))], [.row 1 (bE acc)]⟩ : St)) (m) (acc)) ((fun (m : Nat) (acc : List UInt8) => m) (n.toNat) ([])) ⟨(fun (m : Nat) (acc : List UInt8) => (⟨_, [(0, I m), (3, .o (.c (.ref 0)))], [.row 1 (bE acc)]⟩ : St)) (n.toNat) ([]), W_go [0] (by decide) rfl (rfl) (.cons (I_eq (by omega)) (.cons rfl (.nil))), n.toNat, [], rfl, ⟨rfl, by simp <;> omega⟩, rfl⟩ ?_
  rintro m_A _ ⟨m, acc, hk_A, hp_A, rfl⟩
  refine A_seq ?_; refine A_seq ?_; refine A_region ?_; refine M0 (q_moveC rfl rfl rfl) rfl rfl ?_; refine M0 (q_geq rfl rfl rfl rfl) rfl rfl ?_; refine L_nil ?_; refine T_n ?_
  refine A_cond rfl (fun h5 => ?_) (fun h5 => ?_)
  · have h5 : ¬ m < 128 := by have := of_decide_eq_true h5; omega
    have hl := bE_len acc
    refine A_skip ?_; refine T_n ?_; refine A_block ?_; refine A_seq ?_; refine A_region ?_; refine M0 (q_moveC rfl rfl rfl) rfl rfl ?_; refine M0 (q_moveC rfl rfl rfl) rfl rfl ?_
    refine M0 (q_rem rfl rfl rfl rfl (by omega)) rfl rfl ?_; refine M0 (q_add rfl rfl rfl rfl (by omega)) rfl rfl ?_; refine M0 (q_convI rfl rfl rfl rfl (wrap_u8_in (by omega))) rfl rfl ?_
    refine M1 (q_bslice rfl rfl rfl rfl rfl rfl) rfl rfl ?_; refine M_appsb rfl rfl rfl rfl rfl rfl rfl rfl rfl rfl (by omega) (by omega) ?_; refine M0 (q_assignC rfl rfl rfl) rfl rfl ?_
    refine L_nil ?_; refine T_n ?_; refine A_region ?_; refine M0 (q_moveC rfl rfl rfl) rfl rfl ?_; refine M0 (q_quo rfl rfl rfl rfl (by omega)) rfl rfl ?_
    refine M0 (q_assignC rfl rfl rfl) rfl rfl ?_; refine L_nil ?_; refine B_n ?_; refine T_n ?_
    refine ⟨(m / 128), (by omega), (fun (m : Nat) (acc : List UInt8) => (⟨_, [(0, I m), (3, .o (.c (.ref 0)))], [.row 1 (bE acc)]⟩ : St)) (m / 128) (acc ++ [UInt8.ofNat ((m : Int) % 128 + 128).toNat]), W_go [0] (by decide) rfl (row_eq (bE_snoc _ _ (by omega)).symm) (.cons (I_eq (by omega)) (.cons rfl (.nil))), m / 128, acc ++ [UInt8.ofNat ((m : Int) % 128 + 128).toNat], rfl, ⟨varN_step hp_A.1 h5 (by congr 1 <;> omega), by have := hp_A.2; simp <;> omega⟩, rfl⟩
  · have h5 : m < 128 := by have := of_decide_eq_false h5; omega
    have hl := bE_len acc
    have hb := hp_A.2
    refine A_exit ?_; refine T_x ?_; refine T_x ?_; refine B_xs ?_; refine T_n ?_; refine A_seq ?_; refine A_region ?_; refine M0 (q_moveC rfl rfl rfl) rfl rfl ?_
    refine M0 (q_moveC rfl rfl rfl) rfl rfl ?_; refine M0 (q_convI rfl rfl rfl rfl (wrap_u8_in (by omega))) rfl rfl ?_; refine M1 (q_bslice rfl rfl rfl rfl rfl rfl) rfl rfl ?_
    refine M_appsb rfl rfl rfl rfl rfl rfl rfl rfl rfl rfl (by omega) (by omega) ?_; refine M0 (q_assignC rfl rfl rfl) rfl rfl ?_; refine L_nil ?_; refine T_n ?_; refine A_seq ?_
    refine A_region ?_; refine M0 (q_moveC rfl rfl rfl) rfl rfl ?_; refine M0 (q_bstr rfl rfl rfl rfl) rfl rfl ?_; refine M0 (q_assignC rfl rfl rfl) rfl rfl ?_; refine L_nil ?_; refine T_n ?_
    refine A_ret ?_; refine F_r ?_
    exact E_tmp rfl rfl (W_end [] (by decide) rfl rfl (S_eq (congrArg bs (varN_end hp_A.1 h5 (by congr 1)))))
set_option maxHeartbeats 8000000 in
theorem S_EncodeVarint (n : Int) : Con Tryd.prog 90 [] [ai n] [] (S (bs (encVar n))) := by
  refine Con.of Tryd.func90 rfl Tryd.ntmps90 rfl (fun E => ?_)
  refine A_seq ?_; refine A_region ?_; refine M0 (q_assignC rfl rfl rfl) rfl rfl ?_; refine L_nil ?_; refine T_n ?_; refine A_seq ?_; refine A_seq ?_; refine A_region ?_
  refine M0 (q_moveC rfl rfl rfl) rfl rfl ?_; refine M0 (q_call0 rfl rfl (S_in n 0 1099511627775) rfl) rfl rfl ?_; refine M0 (q_not rfl rfl rfl) rfl rfl ?_; refine L_nil ?_; refine T_n ?_
  refine A_cond rfl (fun h => ?_) (fun h => ?_)
  · have h : ¬ (0 ≤ n ∧ n ≤ 1099511627775) := by rw [← inR_iff]; simpa using h
    refine A_seq ?_; refine A_region ?_; refine M0 (q_assignC rfl rfl rfl) rfl rfl ?_; refine L_nil ?_; refine T_n ?_; refine A_ret ?_; refine T_r ?_; refine F_r ?_
    exact E_tmp rfl rfl (W_end [] (by decide) rfl rfl (S_eq (by rw [encVar, if_neg h])))
  have h : 0 ≤ n ∧ n ≤ 1099511627775 := by rw [← inR_iff]; simpa using h
  have he : encVar n = varN n.toNat := by rw [encVar, if_pos h]
  rw [he]
  refine A_skip ?_; refine T_n ?_; refine A_seq ?_; refine A_region ?_; refine M1 (q_bslice0 rfl rfl rfl) rfl rfl ?_; refine M0 (q_assignC rfl rfl rfl) rfl rfl ?_; refine L_nil ?_; refine T_n ?_
  refine A_seq ?_; refine A_block ?_
  refine A_loop (fun m__ st => ∃ (m : Nat) (acc : List UInt8), m = m__ ∧ (acc ++ varN m = varN n.toNat ∧ acc.length + m ≤ 1099511627775) ∧ st = (fun (m : Nat) (acc : List UInt8) => (⟨_, [(0, I m), (3, .o (.c (.ref 0)))], [.row 1 (bE acc)]⟩ : St)) (m) (acc)) ((fun (m : Nat) (acc : List UInt8) => m) (n.toNat) ([])) ⟨(fun (m : Nat) (acc : List UInt8) => (⟨_, [(0, I m), (3, .o (.c (.ref 0)))], [.row 1 (bE acc)]⟩ : St)) (n.toNat) ([]), W_go [0] (by decide) rfl (rfl) (.cons (I_eq (by omega)) (.cons rfl (.nil))), n.toNat, [], rfl, ⟨rfl, by simp <;> omega⟩, rfl⟩ ?_
  rintro m_A _ ⟨m, acc, hk_A, hp_A, rfl⟩
  refine A_seq ?_; refine A_seq ?_; refine A_region ?_; refine M0 (q_moveC rfl rfl rfl) rfl rfl ?_; refine M0 (q_gtr rfl rfl rfl rfl) rfl rfl ?_; refine L_nil ?_; refine T_n ?_
  refine A_cond rfl (fun h5 => ?_) (fun h5 => ?_)
  · have h5 : ¬ m < 128 := by have := of_decide_eq_true h5; omega
    have hl := bE_len acc
    have hb := hp_A.2
    have hb1 : (m : Int).toNat &&& (127 : Int).toNat = m % 128 := Nat.and_two_pow_sub_one_eq_mod m 7
    have hb2 : ((m % 128 : Nat) : Int).toNat ||| (128 : Int).toNat = m % 128 + 128 := by
      have := Nat.two_pow_add_eq_or_of_lt (i := 7) (b := m % 128) (by omega) 1
      rw [Nat.or_comm]
      show 128 ||| m % 128 = _
      rw [← this]; omega
    have hb3 : (m : Int) / 2 ^ (7 : Int).toNat = (m / 128 : Nat) := by
      show (m : Int) / 128 = _
      omega
    refine A_skip ?_; refine T_n ?_; refine A_block ?_; refine A_seq ?_; refine A_region ?_; refine M0 (q_moveC rfl rfl rfl) rfl rfl ?_; refine M0 (q_moveC rfl rfl rfl) rfl rfl ?_
    refine M0 (q_bandK rfl rfl rfl rfl (by assumption) (by omega)) rfl rfl ?_; refine M0 (q_borK rfl rfl rfl rfl (by assumption) (by omega)) rfl rfl ?_
    refine M0 (q_convI rfl rfl rfl rfl (wrap_u8_in (by omega))) rfl rfl ?_; refine M1 (q_bslice rfl rfl rfl rfl rfl rfl) rfl rfl ?_
    refine M_appsb rfl rfl rfl rfl rfl rfl rfl rfl rfl rfl (by omega) (by omega) ?_; refine M0 (q_assignC rfl rfl rfl) rfl rfl ?_; refine L_nil ?_; refine T_n ?_; refine A_region ?_
    refine M0 (q_moveC rfl rfl rfl) rfl rfl ?_; refine M0 (q_shrK rfl rfl rfl rfl (by assumption) ⟨by omega, by omega, by decide⟩) rfl rfl ?_; refine M0 (q_assignC rfl rfl rfl) rfl rfl ?_
    refine L_nil ?_; refine B_n ?_; refine T_n ?_
    refine ⟨(m / 128), (by omega), (fun (m : Nat) (acc : List UInt8) => (⟨_, [(0, I m), (3, .o (.c (.ref 0)))], [.row 1 (bE acc)]⟩ : St)) (m / 128) (acc ++ [UInt8.ofNat ((m % 128 + 128 : Nat) : Int).toNat]), W_go [0] (by decide) rfl (row_eq (bE_snoc _ _ (by omega)).symm) (.cons rfl (.cons rfl (.nil))), m / 128, acc ++ [UInt8.ofNat ((m % 128 + 128 : Nat) : Int).toNat], rfl, ⟨varN_step hp_A.1 h5 (by congr 1), by simp <;> omega⟩, rfl⟩
  · have h5 : m < 128 := by have := of_decide_eq_false h5; omega
    have hl := bE_len acc
    have hb := hp_A.2
    refine A_exit ?_; refine T_x ?_; refine T_x ?_; refine B_xs ?_; refine T_n ?_; refine A_seq ?_; refine A_region ?_; refine M0 (q_moveC rfl rfl rfl) rfl rfl ?_
    refine M0 (q_moveC rfl rfl rfl) rfl rfl ?_; refine M0 (q_convI rfl rfl rfl rfl (wrap_u8_in (by omega))) rfl rfl ?_; refine M1 (q_bslice rfl rfl rfl rfl rfl rfl) rfl rfl ?_
    refine M_appsb rfl rfl rfl rfl rfl rfl rfl rfl rfl rfl (by omega) (by omega) ?_; refine M0 (q_bstr rfl rfl rfl rfl) rfl rfl ?_; refine M0 (q_assignC rfl rfl rfl) rfl rfl ?_
    refine L_nil ?_; refine T_n ?_; refine A_ret ?_; refine F_r ?_
    exact E_tmp rfl rfl (W_end [] (by decide) rfl rfl (S_eq (congrArg bs (varN_end hp_A.1 h5 (by congr 1)))))

theorem varN_pow : ∀ (j n : Nat), n < 128 ^ (j + 1) → (varN n).length ≤ j + 1
  | 0, n, h => by rw [varN_small (by omega)]; simp
  | j + 1, n, h => by
    by_cases hn : n < 128
    · rw [varN_small hn]; simp
    · rw [varN_big hn, List.length_cons]
      have := varN_pow j (n / 128) (by rw [Nat.pow_succ] at h; omega)
      omega
theorem encVar_len (n : Int) : (encVar n).length ≤ 6 := by
  unfold encVar
  split
  · exact varN_pow 5 _ (by omega)
  · simp
def signless (n : Int) : Int := if -549755813888 ≤ n ∧ n ≤ 549755813887 then (if 0 ≤ n then 2 * n else -2 * n - 1) else -1
set_option maxHeartbeats 8000000 in
theorem I_Signless (n : Int) (hn : I64 n) : Con Tryd.prog 93 [] [ai n] [] (I (signless n)) := by
  obtain ⟨hn1, hn2⟩ := hn
  refine Con.of Tryd.func93 rfl Tryd.ntmps93 rfl (fun E => ?_)
  refine A_seq ?_; refine A_region ?_; refine M0 (q_assignC rfl rfl rfl) rfl rfl ?_; refine L_nil ?_; refine T_n ?_; refine A_seq ?_; refine A_seq ?_; refine A_region ?_
  refine M0 (q_moveC rfl rfl rfl) rfl rfl ?_; refine M0 (q_lss rfl rfl rfl rfl) rfl rfl ?_; refine M0 (q_moveC rfl rfl rfl) rfl rfl ?_
  refine M0 (Qt.grdF rfl rfl rfl .stop (fun hgrd => q_moveC rfl rfl rfl)) rfl rfl ?_; refine M0 (Qt.grdF rfl rfl rfl (.hit .stop) (fun hgrd => q_gtr rfl rfl rfl rfl)) rfl rfl ?_
  refine M0 (q_or rfl rfl rfl rfl) rfl rfl ?_; refine L_nil ?_; refine T_n ?_
  refine A_cond rfl (fun h => ?_) (fun h => ?_)
  · simp only [Bool.or_eq_true, decide_eq_true_eq] at h
    refine A_seq ?_; refine A_region ?_; refine M0 (q_assignC rfl rfl rfl) rfl rfl ?_; refine L_nil ?_; refine T_n ?_; refine A_ret ?_; refine T_r ?_; refine F_r ?_
    exact E_tmp rfl rfl (W_end [] (by decide) rfl rfl (I_eq (by rw [signless, if_neg (by omega)])))
  simp only [Bool.or_eq_false_iff, decide_eq_false_iff_not] at h
  refine A_skip ?_; refine T_n ?_; refine A_seq ?_; refine A_seq ?_; refine A_region ?_; refine M0 (q_moveC rfl rfl rfl) rfl rfl ?_; refine M0 (q_geq rfl rfl rfl rfl) rfl rfl ?_; refine L_nil ?_
  refine T_n ?_
  refine A_cond rfl (fun h1 => ?_) (fun h1 => ?_)
  · have h1 := of_decide_eq_true h1
    refine A_seq ?_; refine A_region ?_; refine M0 (q_moveC rfl rfl rfl) rfl rfl ?_; refine M0 (q_mul rfl rfl rfl rfl (by omega)) rfl rfl ?_; refine M0 (q_assignC rfl rfl rfl) rfl rfl ?_
    refine L_nil ?_; refine T_n ?_; refine A_ret ?_; refine T_r ?_; refine F_r ?_
    exact E_tmp rfl rfl (W_end [] (by decide) rfl rfl (I_eq (by rw [signless, if_pos (by omega), if_pos (by omega)])))
  · have h1 := of_decide_eq_false h1
    refine A_skip ?_; refine T_n ?_; refine A_seq ?_; refine A_region ?_; refine M0 (q_moveC rfl rfl rfl) rfl rfl ?_; refine M0 (q_mul rfl rfl rfl rfl (by omega)) rfl rfl ?_
    refine M0 (q_sub rfl rfl rfl rfl (by omega)) rfl rfl ?_; refine M0 (q_assignC rfl rfl rfl) rfl rfl ?_; refine L_nil ?_; refine T_n ?_; refine A_ret ?_; refine F_r ?_
    exact E_tmp rfl rfl (W_end [] (by decide) rfl rfl (I_eq (by rw [signless, if_pos (by omega), if_neg (by omega)])))
set_option maxHeartbeats 8000000 in
theorem S_Signless (n : Int) (hn : I64 n) : Con Tryd.prog 91 [] [ai n] [] (I (signless n)) := by
  obtain ⟨hn1, hn2⟩ := hn
  refine Con.of Tryd.func91 rfl Tryd.ntmps91 rfl (fun E => ?_)
  refine A_seq ?_; refine A_region ?_; refine M0 (q_assignC rfl rfl rfl) rfl rfl ?_; refine L_nil ?_; refine T_n ?_; refine A_seq ?_; refine A_seq ?_; refine A_region ?_
  refine M0 (q_moveC rfl rfl rfl) rfl rfl ?_; refine M0 (q_call0 rfl rfl (S_in n (-549755813888) 549755813887) rfl) rfl rfl ?_; refine M0 (q_not rfl rfl rfl) rfl rfl ?_; refine L_nil ?_
  refine T_n ?_
  refine A_cond rfl (fun h => ?_) (fun h => ?_)
  · have h : ¬ (-549755813888 ≤ n ∧ n ≤ 549755813887) := by rw [← inR_iff]; simpa using h
    refine A_seq ?_; refine A_region ?_; refine M0 (q_assignC rfl rfl rfl) rfl rfl ?_; refine L_nil ?_; refine T_n ?_; refine A_ret ?_; refine T_r ?_; refine F_r ?_
    exact E_tmp rfl rfl (W_end [] (by decide) rfl rfl (I_eq (by rw [signless, if_neg (by omega)])))
  have h : -549755813888 ≤ n ∧ n ≤ 549755813887 := by rw [← inR_iff]; simpa using h
  refine A_skip ?_; refine T_n ?_; refine A_seq ?_; refine A_seq ?_; refine A_region ?_; refine M0 (q_moveC rfl rfl rfl) rfl rfl ?_; refine M0 (q_geq rfl rfl rfl rfl) rfl rfl ?_; refine L_nil ?_
  refine T_n ?_
  refine A_cond rfl (fun h1 => ?_) (fun h1 => ?_)
  · have h1 := of_decide_eq_true h1
    refine A_seq ?_; refine A_region ?_; refine M0 (q_moveC rfl rfl rfl) rfl rfl ?_; refine M0 (q_mul rfl rfl rfl rfl (by omega)) rfl rfl ?_; refine M0 (q_assignC rfl rfl rfl) rfl rfl ?_
    refine L_nil ?_; refine T_n ?_; refine A_ret ?_; refine T_r ?_; refine F_r ?_
    exact E_tmp rfl rfl (W_end [] (by decide) rfl rfl (I_eq (by rw [signless, if_pos (by omega), if_pos (by omega)])))
  · have h1 := of_decide_eq_false h1
    refine A_skip ?_; refine T_n ?_; refine A_seq ?_; refine A_region ?_; refine M0 (q_moveC rfl rfl rfl) rfl rfl ?_; refine M0 (q_mul rfl rfl rfl rfl (by omega)) rfl rfl ?_
    refine M0 (q_sub rfl rfl rfl rfl (by omega)) rfl rfl ?_; refine M0 (q_assignC rfl rfl rfl) rfl rfl ?_; refine L_nil ?_; refine T_n ?_; refine A_ret ?_; refine F_r ?_
    exact E_tmp rfl rfl (W_end [] (by decide) rfl rfl (I_eq (by rw [signless, if_pos (by omega), if_neg (by omega)])))
/-- The first k numbers of a list. -/
def packK (xs : List Int) (k : Nat) : List UInt8 := encVar xs.length ++ (xs.take k).flatMap fun x => encVar (signless x)
def packInts (xs : List Int) : ByteArray := if xs.all (fun x => decide (0 ≤ signless x)) then bs (packK xs xs.length) else bs []
theorem packK_succ {xs : List Int} {k : Nat} (h : k < xs.length) : packK xs (k + 1) = packK xs k ++ encVar (signless xs[k]) := by
  unfold packK
  rw [List.take_succ_eq_append_getElem h, List.flatMap_append, List.append_assoc]
  simp
theorem packK_len (xs : List Int) : ∀ k, k ≤ xs.length → (packK xs k).length ≤ 6 * k + 6
  | 0, _ => by simp [packK]; exact encVar_len _
  | k + 1, h => by
    rw [packK_succ (by omega), List.length_append]
    have := packK_len xs k (by omega)
    have := encVar_len (signless xs[k])
    omega
theorem packInts_size (xs : List Int) : (packInts xs).size ≤ 6 * xs.length + 6 := by
  unfold packInts
  split
  · rw [bs_size]; exact packK_len xs _ (Nat.le_refl _)
  · rw [bs_size]; simp
set_option maxHeartbeats 8000000 in
theorem I_PackInts (xs : List Int) (hg : Enc.gd xs) (hL : xs.length ≤ 1073741824) : Con Tryd.prog 56 [] [al xs] [] (S (packInts xs)) := by
  have hlx := els_len xs
  have h1 := bs_size (encVar (els xs).length)
  have h2 := encVar_len (els xs).length
  refine Con.of Tryd.func56 rfl Tryd.ntmps56 rfl (fun E => ?_)
  refine A_seq ?_; refine A_region ?_; refine M0 (q_assignC rfl rfl rfl) rfl rfl ?_; refine L_nil ?_; refine T_n ?_; refine A_seq ?_; refine A_region ?_; refine M0 (q_moveC rfl rfl rfl) rfl rfl ?_
  refine M0 (q_len rfl rfl rfl) rfl rfl ?_; refine M0 (q_call0 rfl rfl (I_EncodeVarint (els xs).length) rfl) rfl rfl ?_; refine M1 (q_strb rfl rfl rfl (by omega)) rfl rfl ?_
  refine M0 (q_assignC rfl rfl rfl) rfl rfl ?_; refine L_nil ?_; refine T_n ?_; refine A_seq ?_; refine A_seq ?_; refine A_region ?_; refine M0 (q_moveC rfl rfl rfl) rfl rfl ?_
  refine M0 (q_len rfl rfl rfl) rfl rfl ?_; refine M0 (q_moveC rfl rfl rfl) rfl rfl ?_; refine L_nil ?_; refine T_n ?_; refine A_block ?_
  refine A_loop (fun m st => ∃ k : Nat, k + m = xs.length ∧ ((xs.take k).all (fun x => decide (0 ≤ signless x)) = true) ∧ st = (fun k : Nat => (⟨_, [(3, .o (.c (.ref 0))), (11, L xs), (12, I (els xs).length), (13, I k)], [.row 1 (bE (packK xs k))]⟩ : St)) k) (xs.length) ⟨(fun k : Nat => (⟨_, [(3, .o (.c (.ref 0))), (11, L xs), (12, I (els xs).length), (13, I k)], [.row 1 (bE (packK xs k))]⟩ : St)) 0, W_go [0] (by decide) rfl (row_eq (by rw [bs_list, hlx]; simp [packK])) (.cons rfl (.cons rfl (.cons rfl (.cons rfl (.nil))))), 0, by omega, by simp, rfl⟩ ?_
  rintro m_A _ ⟨k, hk_A, hp_A, rfl⟩
  refine A_seq ?_; refine A_region ?_; refine M0 (q_lss rfl rfl rfl rfl) rfl rfl ?_; refine L_nil ?_; refine T_n ?_; refine A_seq ?_
  refine A_cond rfl (fun h => ?_) (fun h => ?_)
  · have h3 : k < xs.length := by have := of_decide_eq_true h; omega
    have hat := els_at h3
    have hb1 := bE_len (packK xs k)
    have hb2 := packK_len xs k (by omega)
    have hb3 := bs_size (encVar (signless xs[k]))
    have hb4 := encVar_len (signless xs[k])
    refine A_skip ?_; refine T_n ?_; refine A_seq ?_; refine A_block ?_; refine A_seq ?_; refine A_region ?_; refine M0 (q_at rfl rfl rfl rfl (by omega) (by assumption) rfl) rfl rfl ?_
    refine M0 (q_lr1 rfl rfl rfl rfl) rfl rfl ?_; refine M0 (q_assignC rfl rfl rfl) rfl rfl ?_; refine L_nil ?_; refine T_n ?_; refine A_seq ?_; refine A_region ?_
    refine M0 (q_moveC rfl rfl rfl) rfl rfl ?_; refine M0 (q_call0 rfl rfl (I_Signless xs[k] (hg.2 _ (List.getElem_mem h3))) rfl) rfl rfl ?_; refine M0 (q_assignC rfl rfl rfl) rfl rfl ?_
    refine L_nil ?_; refine T_n ?_; refine A_seq ?_; refine A_seq ?_; refine A_region ?_; refine M0 (q_moveC rfl rfl rfl) rfl rfl ?_; refine M0 (q_lss rfl rfl rfl rfl) rfl rfl ?_; refine L_nil ?_
    refine T_n ?_
    refine A_cond rfl (fun h4 => ?_) (fun h4 => ?_)
    · refine A_seq ?_; refine A_region ?_; refine M0 (q_assignC rfl rfl rfl) rfl rfl ?_; refine L_nil ?_; refine T_n ?_; refine A_ret ?_; refine T_r ?_; refine B_r ?_; refine T_r ?_; refine T_r ?_
      refine B_r ?_; refine T_r ?_; refine F_r ?_
      exact E_tmp rfl rfl (W_end [] (by decide) rfl rfl (S_eq (by rw [packInts, all_no h3 (by simpa using h4)]; rfl)))
    · refine A_skip ?_; refine T_n ?_; refine A_region ?_; refine M0 (q_moveC rfl rfl rfl) rfl rfl ?_; refine M0 (q_moveC rfl rfl rfl) rfl rfl ?_
      refine M0 (q_call0 rfl rfl (I_EncodeVarint (signless xs[k])) rfl) rfl rfl ?_; refine M_appstr rfl rfl rfl rfl rfl rfl rfl (by omega) (by omega) ?_
      refine M0 (q_assignC rfl rfl rfl) rfl rfl ?_; refine L_nil ?_; refine B_n ?_; refine T_n ?_; refine A_region ?_; refine M0 (q_add rfl rfl rfl rfl (by omega)) rfl rfl ?_
      refine M0 (q_moveC rfl rfl rfl) rfl rfl ?_; refine L_nil ?_; refine T_n ?_
      exact ⟨xs.length - (k + 1), by omega, (fun k : Nat => (⟨_, [(3, .o (.c (.ref 0))), (11, L xs), (12, I (els xs).length), (13, I k)], [.row 1 (bE (packK xs k))]⟩ : St)) (k + 1), W_go [0] (by decide) rfl (row_eq (by rw [bs_list, bE_app, packK_succ h3])) (.cons rfl (.cons rfl (.cons rfl (.cons rfl (.nil))))), k + 1, by omega, all_next hp_A h3 (by simpa using h4), rfl⟩
  · have h3 : ¬ ((k : Int) < (els xs).length) := of_decide_eq_false h
    have hk : k = xs.length := by omega
    refine A_exit ?_; refine T_x ?_; refine T_x ?_; refine B_xs ?_; refine T_n ?_; refine A_seq ?_; refine A_region ?_; refine M0 (q_moveC rfl rfl rfl) rfl rfl ?_
    refine M0 (q_bstr rfl rfl rfl rfl) rfl rfl ?_; refine M0 (q_assignC rfl rfl rfl) rfl rfl ?_; refine L_nil ?_; refine T_n ?_; refine A_ret ?_; refine F_r ?_
    exact E_tmp rfl rfl (W_end [] (by decide) rfl rfl (S_eq (by rw [packInts, all_end hp_A (by omega), hk]; rfl)))
set_option maxHeartbeats 8000000 in
theorem S_PackInts (xs : List Int) (hg : Enc.gd xs) (hL : xs.length ≤ 1073741824) : Con Tryd.prog 54 [] [al xs] [] (S (packInts xs)) := by
  have hlx := els_len xs
  refine Con.of Tryd.func54 rfl Tryd.ntmps54 rfl (fun E => ?_)
  refine A_seq ?_; refine A_region ?_; refine M0 (q_assignC rfl rfl rfl) rfl rfl ?_; refine L_nil ?_; refine T_n ?_; refine A_seq ?_; refine A_region ?_; refine M0 (q_moveC rfl rfl rfl) rfl rfl ?_
  refine M0 (q_len rfl rfl rfl) rfl rfl ?_; refine M0 (q_call0 rfl rfl (S_EncodeVarint (els xs).length) rfl) rfl rfl ?_; refine M0 (q_assignC rfl rfl rfl) rfl rfl ?_; refine L_nil ?_
  refine T_n ?_; refine A_seq ?_; refine A_seq ?_; refine A_region ?_; refine M0 (q_assignC rfl rfl rfl) rfl rfl ?_; refine L_nil ?_; refine T_n ?_; refine A_block ?_
  refine A_loop (fun m st => ∃ k : Nat, k + m = xs.length ∧ ((xs.take k).all (fun x => decide (0 ≤ signless x)) = true) ∧ st = (fun k : Nat => (⟨_, [(0, L xs), (3, S (bs (packK xs k))), (4, I k)], []⟩ : St)) k) (xs.length) ⟨(fun k : Nat => (⟨_, [(0, L xs), (3, S (bs (packK xs k))), (4, I k)], []⟩ : St)) 0, W_go [] (by decide) rfl (rfl) (.cons rfl (.cons (S_eq (by rw [hlx]; simp [packK])) (.cons rfl (.nil)))), 0, by omega, by simp, rfl⟩ ?_
  rintro m_A _ ⟨k, hk_A, hp_A, rfl⟩
  refine A_seq ?_; refine A_seq ?_; refine A_region ?_; refine M0 (q_moveC rfl rfl rfl) rfl rfl ?_; refine M0 (q_moveC rfl rfl rfl) rfl rfl ?_; refine M0 (q_len rfl rfl rfl) rfl rfl ?_
  refine M0 (q_lss rfl rfl rfl rfl) rfl rfl ?_; refine L_nil ?_; refine T_n ?_
  refine A_cond rfl (fun h => ?_) (fun h => ?_)
  · have h3 : k < xs.length := by have := of_decide_eq_true h; omega
    have hat := els_at h3
    have hb1 := bs_size (packK xs k)
    have hb2 := packK_len xs k (by omega)
    have hb3 := bs_size (encVar (signless xs[k]))
    have hb4 := encVar_len (signless xs[k])
    have hc := S_Signless xs[k] (hg.2 _ (List.getElem_mem h3))
    refine A_skip ?_; refine T_n ?_; refine A_seq ?_; refine A_block ?_; refine A_seq ?_; refine A_seq ?_; refine A_region ?_; refine M0 (q_moveC rfl rfl rfl) rfl rfl ?_
    refine M0 (q_moveC rfl rfl rfl) rfl rfl ?_; refine M0 (q_at rfl rfl rfl rfl (by omega) (by assumption) rfl) rfl rfl ?_; refine M0 (q_lr1 rfl rfl rfl rfl) rfl rfl ?_
    refine M0 (q_call0 rfl rfl (hc) rfl) rfl rfl ?_; refine M0 (q_lss rfl rfl rfl rfl) rfl rfl ?_; refine L_nil ?_; refine T_n ?_
    refine A_cond rfl (fun h4 => ?_) (fun h4 => ?_)
    · refine A_seq ?_; refine A_region ?_; refine M0 (q_assignC rfl rfl rfl) rfl rfl ?_; refine L_nil ?_; refine T_n ?_; refine A_ret ?_; refine T_r ?_; refine B_r ?_; refine T_r ?_; refine T_r ?_
      refine B_r ?_; refine T_r ?_; refine F_r ?_
      exact E_tmp rfl rfl (W_end [] (by decide) rfl rfl (S_eq (by rw [packInts, all_no h3 (by simpa using h4)]; rfl)))
    · refine A_skip ?_; refine T_n ?_; refine A_region ?_; refine M0 (q_moveC rfl rfl rfl) rfl rfl ?_; refine M0 (q_moveC rfl rfl rfl) rfl rfl ?_; refine M0 (q_moveC rfl rfl rfl) rfl rfl ?_
      refine M0 (q_at rfl rfl rfl rfl (by omega) (by assumption) rfl) rfl rfl ?_; refine M0 (q_lr1 rfl rfl rfl rfl) rfl rfl ?_; refine M0 (q_call0 rfl rfl (hc) rfl) rfl rfl ?_
      refine M0 (q_call0 rfl rfl (S_EncodeVarint (signless xs[k])) rfl) rfl rfl ?_; refine M0 (q_cat rfl rfl rfl rfl (by omega)) rfl rfl ?_; refine M0 (q_assignC rfl rfl rfl) rfl rfl ?_
      refine L_nil ?_; refine B_n ?_; refine T_n ?_; refine A_region ?_; refine M0 (q_moveC rfl rfl rfl) rfl rfl ?_; refine M0 (q_add rfl rfl rfl rfl (by omega)) rfl rfl ?_
      refine M0 (q_assignC rfl rfl rfl) rfl rfl ?_; refine L_nil ?_; refine T_n ?_
      exact ⟨xs.length - (k + 1), by omega, (fun k : Nat => (⟨_, [(0, L xs), (3, S (bs (packK xs k))), (4, I k)], []⟩ : St)) (k + 1), W_go [] (by decide) rfl (rfl) (.cons rfl (.cons (S_eq (by rw [bs_app, packK_succ h3])) (.cons rfl (.nil)))), k + 1, by omega, all_next hp_A h3 (by simpa using h4), rfl⟩
  · have h3 : ¬ ((k : Int) < (els xs).length) := of_decide_eq_false h
    have hk : k = xs.length := by omega
    refine A_exit ?_; refine T_x ?_; refine T_x ?_; refine B_xs ?_; refine T_n ?_; refine A_seq ?_; refine A_region ?_; refine M0 (q_moveC rfl rfl rfl) rfl rfl ?_
    refine M0 (q_assignC rfl rfl rfl) rfl rfl ?_; refine L_nil ?_; refine T_n ?_; refine A_ret ?_; refine F_r ?_
    exact E_tmp rfl rfl (W_end [] (by decide) rfl rfl (S_eq (by rw [packInts, all_end hp_A (by omega), hk]; rfl)))

def sumA (s : ByteArray) : Nat → Int
  | 0 => 0
  | k + 1 => (sumA s k + byteAt s k) % 65521
def sumB (s : ByteArray) : Nat → Int
  | 0 => 0
  | k + 1 => (sumB s k + byteAt s k * (((k : Int) + 1) % 65521)) % 65521
def checksum (s : ByteArray) : Int := sumA s s.size + 65536 * sumB s s.size
theorem sumA_lt (s : ByteArray) : ∀ k, 0 ≤ sumA s k ∧ sumA s k < 65521
  | 0 => by simp [sumA]
  | k + 1 => by simp only [sumA]; omega
theorem sumB_lt (s : ByteArray) : ∀ k, 0 ≤ sumB s k ∧ sumB s k < 65521
  | 0 => by simp [sumB]
  | k + 1 => by simp only [sumB]; omega
set_option maxHeartbeats 8000000 in
theorem I_Checksum (s : ByteArray) (hs : s.size ≤ 1099511627776) : Con Tryd.prog 55 [] [astr s] [] (I (checksum s)) := by
  refine Con.of Tryd.func55 rfl Tryd.ntmps55 rfl (fun E => ?_)
  refine A_seq ?_; refine A_region ?_; refine M0 (q_assignC rfl rfl rfl) rfl rfl ?_; refine L_nil ?_; refine T_n ?_; refine A_seq ?_; refine A_region ?_
  refine M0 (q_assignC rfl rfl rfl) rfl rfl ?_; refine L_nil ?_; refine T_n ?_; refine A_seq ?_; refine A_region ?_; refine M0 (q_assignC rfl rfl rfl) rfl rfl ?_; refine L_nil ?_; refine T_n ?_
  refine A_seq ?_; refine A_seq ?_; refine A_region ?_; refine M0 (q_assignC rfl rfl rfl) rfl rfl ?_; refine L_nil ?_; refine T_n ?_; refine A_block ?_
  refine A_loop (fun m st => ∃ k : Nat, k + m = s.size ∧ (True) ∧ st = (fun k : Nat => (⟨_, [(0, S s), (3, I (sumA s k)), (4, I (sumB s k)), (5, I k)], []⟩ : St)) k) (s.size) ⟨(fun k : Nat => (⟨_, [(0, S s), (3, I (sumA s k)), (4, I (sumB s k)), (5, I k)], []⟩ : St)) 0, W_go [] (by decide) rfl (rfl) (.cons rfl (.cons rfl (.cons rfl (.cons rfl (.nil))))), 0, by omega, trivial, rfl⟩ ?_
  rintro m_A _ ⟨k, hk_A, hp_A, rfl⟩
  refine A_seq ?_; refine A_seq ?_; refine A_region ?_; refine M0 (q_moveC rfl rfl rfl) rfl rfl ?_; refine M0 (q_moveC rfl rfl rfl) rfl rfl ?_; refine M0 (q_lens rfl rfl rfl) rfl rfl ?_
  refine M0 (q_lss rfl rfl rfl rfl) rfl rfl ?_; refine L_nil ?_; refine T_n ?_
  refine A_cond rfl (fun h => ?_) (fun h => ?_)
  · have h3 : k < s.size := by have := of_decide_eq_true h; omega
    have hb1 := sumA_lt s k
    have hb2 := sumB_lt s k
    obtain ⟨t, ht⟩ : ∃ t, byteAt s (k : Int).toNat = t := ⟨_, rfl⟩
    have htb : 0 ≤ t ∧ t ≤ 255 := ht ▸ byteAt_lt _ _
    have hmul : 0 ≤ t * (((k : Int) + 1) % 65521) ∧ t * (((k : Int) + 1) % 65521) ≤ 255 * 65520 := by
      have h5 : 0 ≤ ((k : Int) + 1) % 65521 ∧ ((k : Int) + 1) % 65521 ≤ 65520 := by omega
      exact ⟨Int.mul_nonneg htb.1 h5.1, Int.mul_le_mul htb.2 h5.2 h5.1 (by omega)⟩
    have e1 : sumA s (k + 1) = (sumA s k + t) % 65521 := by rw [sumA, ← ht]; rfl
    have e2 : sumB s (k + 1) = (sumB s k + t * (((k : Int) + 1) % 65521)) % 65521 := by rw [sumB, ← ht]; rfl
    refine A_skip ?_; refine T_n ?_; refine A_seq ?_; refine A_block ?_; refine A_seq ?_; refine A_region ?_; refine M0 (q_moveC rfl rfl rfl) rfl rfl ?_; refine M0 (q_moveC rfl rfl rfl) rfl rfl ?_
    refine M0 (q_moveC rfl rfl rfl) rfl rfl ?_; refine M0 (q_byteK rfl rfl rfl rfl (by assumption) (by omega)) rfl rfl ?_
    refine M0 (q_convI rfl rfl rfl rfl (wrap_i64 (by omega))) rfl rfl ?_; refine M0 (q_add rfl rfl rfl rfl (by omega)) rfl rfl ?_; refine M0 (q_rem rfl rfl rfl rfl (by omega)) rfl rfl ?_
    refine M0 (q_assignC rfl rfl rfl) rfl rfl ?_; refine L_nil ?_; refine T_n ?_; refine A_region ?_; refine M0 (q_moveC rfl rfl rfl) rfl rfl ?_; refine M0 (q_moveC rfl rfl rfl) rfl rfl ?_
    refine M0 (q_moveC rfl rfl rfl) rfl rfl ?_; refine M0 (q_byteK rfl rfl rfl rfl (by assumption) (by omega)) rfl rfl ?_
    refine M0 (q_convI rfl rfl rfl rfl (wrap_i64 (by omega))) rfl rfl ?_; refine M0 (q_moveC rfl rfl rfl) rfl rfl ?_; refine M0 (q_add rfl rfl rfl rfl (by omega)) rfl rfl ?_
    refine M0 (q_rem rfl rfl rfl rfl (by omega)) rfl rfl ?_; refine M0 (q_mul rfl rfl rfl rfl (by omega)) rfl rfl ?_; refine M0 (q_add rfl rfl rfl rfl (by omega)) rfl rfl ?_
    refine M0 (q_rem rfl rfl rfl rfl (by omega)) rfl rfl ?_; refine M0 (q_assignC rfl rfl rfl) rfl rfl ?_; refine L_nil ?_; refine B_n ?_; refine T_n ?_; refine A_region ?_
    refine M0 (q_moveC rfl rfl rfl) rfl rfl ?_; refine M0 (q_add rfl rfl rfl rfl (by omega)) rfl rfl ?_; refine M0 (q_assignC rfl rfl rfl) rfl rfl ?_; refine L_nil ?_; refine T_n ?_
    exact ⟨s.size - (k + 1), by omega, (fun k : Nat => (⟨_, [(0, S s), (3, I (sumA s k)), (4, I (sumB s k)), (5, I k)], []⟩ : St)) (k + 1), W_go [] (by decide) rfl (rfl) (.cons rfl (.cons (I_eq e1.symm) (.cons (I_eq e2.symm) (.cons rfl (.nil))))), k + 1, by omega, trivial, rfl⟩
  · have h3 : ¬ ((k : Int) < s.size) := of_decide_eq_false h
    have hk : k = s.size := by omega
    have hb1 := sumA_lt s k
    have hb2 := sumB_lt s k
    refine A_exit ?_; refine T_x ?_; refine T_x ?_; refine B_xs ?_; refine T_n ?_; refine A_seq ?_; refine A_region ?_; refine M0 (q_moveC rfl rfl rfl) rfl rfl ?_
    refine M0 (q_moveC rfl rfl rfl) rfl rfl ?_; refine M0 (q_mul rfl rfl rfl rfl (by omega)) rfl rfl ?_; refine M0 (q_add rfl rfl rfl rfl (by omega)) rfl rfl ?_
    refine M0 (q_assignC rfl rfl rfl) rfl rfl ?_; refine L_nil ?_; refine T_n ?_; refine A_ret ?_; refine F_r ?_
    exact E_tmp rfl rfl (W_end [] (by decide) rfl rfl (I_eq (by rw [checksum, hk])))
set_option maxHeartbeats 8000000 in
theorem S_Checksum (s : ByteArray) (hs : s.size ≤ 1099511627776) : Con Tryd.prog 53 [] [astr s] [] (I (checksum s)) := by
  refine Con.of Tryd.func53 rfl Tryd.ntmps53 rfl (fun E => ?_)
  refine A_seq ?_; refine A_region ?_; refine M0 (q_assignC rfl rfl rfl) rfl rfl ?_; refine L_nil ?_; refine T_n ?_; refine A_seq ?_; refine A_region ?_
  refine M0 (q_assignC rfl rfl rfl) rfl rfl ?_; refine L_nil ?_; refine T_n ?_; refine A_seq ?_; refine A_region ?_; refine M0 (q_assignC rfl rfl rfl) rfl rfl ?_; refine L_nil ?_; refine T_n ?_
  refine A_seq ?_; refine A_seq ?_; refine A_region ?_; refine M0 (q_assignC rfl rfl rfl) rfl rfl ?_; refine L_nil ?_; refine T_n ?_; refine A_block ?_
  refine A_loop (fun m st => ∃ k : Nat, k + m = s.size ∧ (True) ∧ st = (fun k : Nat => (⟨_, [(0, S s), (3, I (sumA s k)), (4, I (sumB s k)), (5, I k)], []⟩ : St)) k) (s.size) ⟨(fun k : Nat => (⟨_, [(0, S s), (3, I (sumA s k)), (4, I (sumB s k)), (5, I k)], []⟩ : St)) 0, W_go [] (by decide) rfl (rfl) (.cons rfl (.cons rfl (.cons rfl (.cons rfl (.nil))))), 0, by omega, trivial, rfl⟩ ?_
  rintro m_A _ ⟨k, hk_A, hp_A, rfl⟩
  refine A_seq ?_; refine A_seq ?_; refine A_region ?_; refine M0 (q_moveC rfl rfl rfl) rfl rfl ?_; refine M0 (q_moveC rfl rfl rfl) rfl rfl ?_; refine M0 (q_lens rfl rfl rfl) rfl rfl ?_
  refine M0 (q_lss rfl rfl rfl rfl) rfl rfl ?_; refine L_nil ?_; refine T_n ?_
  refine A_cond rfl (fun h => ?_) (fun h => ?_)
  · have h3 : k < s.size := by have := of_decide_eq_true h; omega
    have hb1 := sumA_lt s k
    have hb2 := sumB_lt s k
    obtain ⟨t, ht⟩ : ∃ t, byteAt s (k : Int).toNat = t := ⟨_, rfl⟩
    have htb : 0 ≤ t ∧ t ≤ 255 := ht ▸ byteAt_lt _ _
    have hmul : 0 ≤ t * (((k : Int) + 1) % 65521) ∧ t * (((k : Int) + 1) % 65521) ≤ 255 * 65520 := by
      have h5 : 0 ≤ ((k : Int) + 1) % 65521 ∧ ((k : Int) + 1) % 65521 ≤ 65520 := by omega
      exact ⟨Int.mul_nonneg htb.1 h5.1, Int.mul_le_mul htb.2 h5.2 h5.1 (by omega)⟩
    have e1 : sumA s (k + 1) = (sumA s k + t) % 65521 := by rw [sumA, ← ht]; rfl
    have e2 : sumB s (k + 1) = (sumB s k + t * (((k : Int) + 1) % 65521)) % 65521 := by rw [sumB, ← ht]; rfl
    refine A_skip ?_; refine T_n ?_; refine A_seq ?_; refine A_block ?_; refine A_seq ?_; refine A_region ?_; refine M0 (q_moveC rfl rfl rfl) rfl rfl ?_; refine M0 (q_moveC rfl rfl rfl) rfl rfl ?_
    refine M0 (q_moveC rfl rfl rfl) rfl rfl ?_; refine M0 (q_byteK rfl rfl rfl rfl (by assumption) (by omega)) rfl rfl ?_
    refine M0 (q_convI rfl rfl rfl rfl (wrap_i64 (by omega))) rfl rfl ?_; refine M0 (q_add rfl rfl rfl rfl (by omega)) rfl rfl ?_; refine M0 (q_rem rfl rfl rfl rfl (by omega)) rfl rfl ?_
    refine M0 (q_assignC rfl rfl rfl) rfl rfl ?_; refine L_nil ?_; refine T_n ?_; refine A_region ?_; refine M0 (q_moveC rfl rfl rfl) rfl rfl ?_; refine M0 (q_moveC rfl rfl rfl) rfl rfl ?_
    refine M0 (q_moveC rfl rfl rfl) rfl rfl ?_; refine M0 (q_byteK rfl rfl rfl rfl (by assumption) (by omega)) rfl rfl ?_
    refine M0 (q_convI rfl rfl rfl rfl (wrap_i64 (by omega))) rfl rfl ?_; refine M0 (q_moveC rfl rfl rfl) rfl rfl ?_; refine M0 (q_add rfl rfl rfl rfl (by omega)) rfl rfl ?_
    refine M0 (q_rem rfl rfl rfl rfl (by omega)) rfl rfl ?_; refine M0 (q_mul rfl rfl rfl rfl (by omega)) rfl rfl ?_; refine M0 (q_add rfl rfl rfl rfl (by omega)) rfl rfl ?_
    refine M0 (q_rem rfl rfl rfl rfl (by omega)) rfl rfl ?_; refine M0 (q_assignC rfl rfl rfl) rfl rfl ?_; refine L_nil ?_; refine B_n ?_; refine T_n ?_; refine A_region ?_
    refine M0 (q_moveC rfl rfl rfl) rfl rfl ?_; refine M0 (q_add rfl rfl rfl rfl (by omega)) rfl rfl ?_; refine M0 (q_assignC rfl rfl rfl) rfl rfl ?_; refine L_nil ?_; refine T_n ?_
    exact ⟨s.size - (k + 1), by omega, (fun k : Nat => (⟨_, [(0, S s), (3, I (sumA s k)), (4, I (sumB s k)), (5, I k)], []⟩ : St)) (k + 1), W_go [] (by decide) rfl (rfl) (.cons rfl (.cons (I_eq e1.symm) (.cons (I_eq e2.symm) (.cons rfl (.nil))))), k + 1, by omega, trivial, rfl⟩
  · have h3 : ¬ ((k : Int) < s.size) := of_decide_eq_false h
    have hk : k = s.size := by omega
    have hb1 := sumA_lt s k
    have hb2 := sumB_lt s k
    refine A_exit ?_; refine T_x ?_; refine T_x ?_; refine B_xs ?_; refine T_n ?_; refine A_seq ?_; refine A_region ?_; refine M0 (q_moveC rfl rfl rfl) rfl rfl ?_
    refine M0 (q_moveC rfl rfl rfl) rfl rfl ?_; refine M0 (q_mul rfl rfl rfl rfl (by omega)) rfl rfl ?_; refine M0 (q_add rfl rfl rfl rfl (by omega)) rfl rfl ?_
    refine M0 (q_assignC rfl rfl rfl) rfl rfl ?_; refine L_nil ?_; refine T_n ?_; refine A_ret ?_; refine F_r ?_
    exact E_tmp rfl rfl (W_end [] (by decide) rfl rfl (I_eq (by rw [checksum, hk])))

end Go.Proofs.YtkfnaniegldfaaaDoor
end

section
set_option linter.unusedSimpArgs false
set_option linter.unusedVariables false
set_option maxRecDepth 8000
namespace Go.Proofs.YtkfnaniegldfaaaDoor
open Go.RowKit

theorem W_pre {st st' : St} {f : List (Nat × V) → St} (h : Wk st st') (k : ∃ l, Wk st' (f l)) : ∃ l, Wk st (f l) := k.imp fun _ hl => h.trans hl
def bodyInts (b : TBody) : List Int := [b.Kind, b.Owner, b.X, b.Y, b.VX, b.VY, b.Aim, b.Life, b.Timer]
theorem flat_gd {bs : List TBody} (hg : ∀ b ∈ bs, Enc.gd b) : ∀ x ∈ bs.flatMap bodyInts, I64 x := fun x hx => by
  obtain ⟨b, hb, hx⟩ := List.mem_flatMap.1 hx
  obtain ⟨b1, b2, b3, b4, b5, b6, b7, b8, b9⟩ := hg b hb
  simp only [bodyInts, List.mem_cons, List.not_mem_nil, or_false] at hx
  rcases hx with rfl | rfl | rfl | rfl | rfl | rfl | rfl | rfl | rfl <;> assumption
set_option maxHeartbeats 8000000 in
theorem I_bodyInts (b : TBody) : Con Tryd.prog 57 [] [ag b] [.row 1 (els (bodyInts b))] (.o (.c (.ref 0))) := by
  refine Con.of Tryd.func57 rfl Tryd.ntmps57 rfl (fun E => ?_)
  refine A_seq ?_; refine A_region ?_; refine M1 (q_boxN rfl rfl rfl rfl) rfl rfl ?_; refine M0 (q_assignC rfl rfl rfl) rfl rfl ?_; refine L_nil ?_; refine T_n ?_; refine A_seq ?_
  refine A_region ?_; refine M0 (q_fldp rfl rfl rfl rfl (by decide)) rfl rfl ?_; refine M0 (q_ld1 rfl rfl rfl rfl rfl) rfl rfl ?_; refine M0 (q_fldp rfl rfl rfl rfl (by decide)) rfl rfl ?_
  refine M0 (q_ld1 rfl rfl rfl rfl rfl) rfl rfl ?_; refine M0 (q_fldp rfl rfl rfl rfl (by decide)) rfl rfl ?_; refine M0 (q_ld1 rfl rfl rfl rfl rfl) rfl rfl ?_
  refine M0 (q_fldp rfl rfl rfl rfl (by decide)) rfl rfl ?_; refine M0 (q_ld1 rfl rfl rfl rfl rfl) rfl rfl ?_; refine M0 (q_fldp rfl rfl rfl rfl (by decide)) rfl rfl ?_
  refine M0 (q_ld1 rfl rfl rfl rfl rfl) rfl rfl ?_; refine M0 (q_fldp rfl rfl rfl rfl (by decide)) rfl rfl ?_; refine M0 (q_ld1 rfl rfl rfl rfl rfl) rfl rfl ?_
  refine M0 (q_fldp rfl rfl rfl rfl (by decide)) rfl rfl ?_; refine M0 (q_ld1 rfl rfl rfl rfl rfl) rfl rfl ?_; refine M0 (q_fldp rfl rfl rfl rfl (by decide)) rfl rfl ?_
  refine M0 (q_ld1 rfl rfl rfl rfl rfl) rfl rfl ?_; refine M0 (q_fldp rfl rfl rfl rfl (by decide)) rfl rfl ?_; refine M0 (q_ld1 rfl rfl rfl rfl rfl) rfl rfl ?_
  refine M1 (q_bslice rfl rfl rfl rfl rfl rfl) rfl rfl ?_; refine M0 (q_assignC rfl rfl rfl) rfl rfl ?_; refine L_nil ?_; refine T_n ?_; refine A_ret ?_; refine F_r ?_
  exact E_tmp rfl rfl (W_pre (Wk.sbrow (q := 1) rfl rfl (Nat.le_of_ble_eq_true rfl)) (W_end [1] (by decide) rfl rfl rfl))
end Go.Proofs.YtkfnaniegldfaaaDoor
end

section
set_option linter.unusedSimpArgs false
set_option linter.unusedVariables false
set_option maxRecDepth 8000
namespace Go.Proofs.YtkfnaniegldfaaaDoor
open Go.RowKit

def zB : TBody := ⟨0, 0, 0, 0, 0, 0, 0, 0, 0⟩
def partAt (x : TWorld) (k : Nat) : List Int := if k = 0 then [x.Seed] else if k ≤ x.Scores.length then [x.Scores.getD (k - 1) 0] else bodyInts (x.Bodies.getD (k - 1 - x.Scores.length) zB)
noncomputable def partInts (x : TWorld) (s : ByteArray) : List Int := match (partsOf x).findIdx? (fun t => decide (t = s)) with
  | none => []
  | some k => partAt x k
noncomputable def sumOf (l : List Int) : Int := match l with
  | [] => -1
  | [n] => n
  | l => checksum (packInts l)
theorem part_none {x : TWorld} {s : ByteArray} {k : Nat} (hk : (partsOf x).length ≤ k) (h : ∀ j (hj : j < (partsOf x).length), j < k → (partsOf x)[j] ≠ s) : partInts x s = [] := by
  have h1 : (partsOf x).findIdx? (fun t => decide (t = s)) = none := by
    rw [List.findIdx?_eq_none_iff]
    intro t ht
    obtain ⟨j, hj, rfl⟩ := List.getElem_of_mem ht
    exact decide_eq_false (h j hj (by omega))
  rw [partInts, h1]
theorem part_hit {x : TWorld} {s : ByteArray} {k : Nat} (hk : k < (partsOf x).length) (h : ∀ j (hj : j < (partsOf x).length), j < k → (partsOf x)[j] ≠ s) (he : (partsOf x)[k] = s) : partInts x s = partAt x k := by
  have h1 : (partsOf x).findIdx? (fun t => decide (t = s)) = some k := by
    rw [List.findIdx?_eq_some_iff_getElem]
    exact ⟨hk, decide_eq_true he, fun j hj => by simpa using h j (by omega) hj⟩
  rw [partInts, h1]
theorem part_next {y : List ByteArray} {s : ByteArray} {k : Nat} (hk : k < y.length) (h : ∀ j (hj : j < y.length), j < k → y[j] ≠ s) (he : ¬ y[k] = s) : ∀ j (hj : j < y.length), j < k + 1 → y[j] ≠ s := fun j hj hl => by
  by_cases e : j = k
  · subst e; exact he
  · exact h j hj (by omega)
theorem parts_at {x : TWorld} {k : Nat} (hk : k < (partsOf x).length) : worldOk x = true ∧ k < 1 + x.Scores.length + x.Bodies.length := by
  unfold partsOf at hk
  split at hk
  · rename_i h
    exact ⟨h, by rwa [partsTo_len] at hk⟩
  · simp at hk
theorem parts_29 (x : TWorld) : (partsOf x).length ≤ 29 := by
  unfold partsOf
  split
  · rename_i h
    obtain ⟨_, _, _, hn, _, hb, _⟩ := worldOk_spec h
    rw [partsTo_len]; omega
  · simp
theorem at_int {α : Type} [Enc α] {xs : List α} {i : Int} {k : Nat} (e : i = k) (h : k < xs.length) : (els xs)[i.toNat]? = some (Enc.e xs[k]) := by
  subst e; exact els_at h
theorem partAt_0 (x : TWorld) : partAt x 0 = [x.Seed] := if_pos rfl
theorem partAt_s {x : TWorld} {k : Nat} (h0 : k ≠ 0) (h : k - 1 < x.Scores.length) : partAt x k = [x.Scores[k - 1]] := by
  rw [partAt, if_neg h0, if_pos (by omega), List.getD_eq_getElem?_getD, List.getElem?_eq_getElem h]; rfl
theorem partAt_b {x : TWorld} {k : Nat} (h0 : k ≠ 0) (h1 : ¬ k ≤ x.Scores.length) (h : k - 1 - x.Scores.length < x.Bodies.length) : partAt x k = bodyInts x.Bodies[k - 1 - x.Scores.length] := by
  rw [partAt, if_neg h0, if_neg h1, List.getD_eq_getElem?_getD, List.getElem?_eq_getElem h]; rfl
theorem body_gd {b : TBody} (h : Enc.gd b) : Enc.gd (bodyInts b) := ⟨by show (9 : Nat) ≤ _; decide, fun x hx => by
  have := flat_gd (bs := [b]) (fun c hc => by simp at hc; subst hc; exact h) x (by simpa using hx)
  exact this⟩
theorem body_pk (b : TBody) : (packInts (bodyInts b)).size ≤ 1099511627776 := by
  have h := packInts_size (bodyInts b)
  have h2 : (bodyInts b).length = 9 := rfl
  omega
theorem sumOf_b (b : TBody) : sumOf (bodyInts b) = checksum (packInts (bodyInts b)) := rfl
set_option maxHeartbeats 8000000 in
theorem I_PartSum (x : TWorld) (s : ByteArray) (hg : Enc.gd x) : Con Tryd.prog 23 [] [ag x, astr s] [] (I (sumOf (partInts x s))) := by
  have hp := I_PartsOf x hg
  have hly := els_len (partsOf x)
  have hpl := parts_29 x
  have hls := els_len x.Scores
  have hlb := els_len x.Bodies
  refine Con.of Tryd.func23 rfl Tryd.ntmps23 rfl (fun E => ?_)
  refine A_seq ?_; refine A_region ?_; refine M1 (q_boxN rfl rfl rfl rfl) rfl rfl ?_; refine M0 (q_assignC rfl rfl rfl) rfl rfl ?_; refine L_nil ?_; refine T_n ?_; refine A_seq ?_; refine A_seq ?_
  refine A_region ?_; refine M0 (q_ldN rfl rfl rfl rfl rfl rfl) rfl rfl ?_; refine M1 (q_call rfl rfl (hp) rfl rfl rfl) rfl rfl ?_; refine M0 (q_lenr rfl rfl rfl rfl) rfl rfl ?_
  refine M0 (q_moveC rfl rfl rfl) rfl rfl ?_; refine L_nil ?_; refine T_n ?_; refine A_block ?_
  refine A_loop (fun m st => ∃ k : Nat, k + m = (partsOf x).length ∧ ((∀ j (hj : j < (partsOf x).length), j < k → (partsOf x)[j] ≠ s)) ∧ st = (fun k : Nat => (⟨_, [(1, S s), (2, .o (.c (.ptr 0 0))), (8, .o (.c (.ref 1))), (9, I (els (partsOf x)).length), (10, I k)], [.box ((Enc.e x).map (V1.rd [])), .row 1 (els (partsOf x))]⟩ : St)) k) ((partsOf x).length) ⟨(fun k : Nat => (⟨_, [(1, S s), (2, .o (.c (.ptr 0 0))), (8, .o (.c (.ref 1))), (9, I (els (partsOf x)).length), (10, I k)], [.box ((Enc.e x).map (V1.rd [])), .row 1 (els (partsOf x))]⟩ : St)) 0, W_go [0, 1] (by decide) rfl (rfl) (.cons rfl (.cons rfl (.cons rfl (.cons rfl (.cons rfl (.nil)))))), 0, by omega, fun j hj h => absurd h (Nat.not_lt_zero _), rfl⟩ ?_
  rintro m_A _ ⟨k, hk_A, hp_A, rfl⟩
  refine A_seq ?_; refine A_region ?_; refine M0 (q_lss rfl rfl rfl rfl) rfl rfl ?_; refine L_nil ?_; refine T_n ?_; refine A_seq ?_
  refine A_cond rfl (fun h => ?_) (fun h => ?_)
  · have h3 : k < (partsOf x).length := by have := of_decide_eq_true h; omega
    have hat := els_at h3
    by_cases he : (partsOf x)[k] = s
    · have hb : decide ((partsOf x)[k] ≠ s) = false := decide_eq_false (fun h => h he)
      rw [part_hit h3 hp_A he]
      obtain ⟨hok, hkl⟩ := parts_at h3
      by_cases k0 : k = 0
      · have hb0 : decide ((k : Int) = 0) = true := decide_eq_true (by omega)
        subst k0
        rw [partAt_0]
        refine A_skip ?_; refine T_n ?_; refine A_seq ?_; refine A_block ?_; refine A_seq ?_; refine A_region ?_; refine M0 (q_moveC rfl rfl rfl) rfl rfl ?_
        refine M0 (q_ar rfl rfl rfl rfl rfl (by omega) (by omega)) rfl rfl ?_; refine M0 (q_le1 rfl rfl rfl rfl (by assumption) rfl) rfl rfl ?_; refine M0 (q_assignC rfl rfl rfl) rfl rfl ?_
        refine M0 (q_assignC rfl rfl rfl) rfl rfl ?_; refine L_nil ?_; refine T_n ?_; refine A_seq ?_; refine A_seq ?_; refine A_region ?_; refine M0 (q_moveC rfl rfl rfl) rfl rfl ?_
        refine M0 (q_moveC rfl rfl rfl) rfl rfl ?_; refine M0 (q_sneqK rfl rfl rfl rfl (by assumption)) rfl rfl ?_; refine L_nil ?_; refine T_n ?_; refine A_ifF rfl ?_; refine A_skip ?_; refine T_n ?_
        refine A_seq ?_; refine A_seq ?_; refine A_region ?_; refine M0 (q_moveC rfl rfl rfl) rfl rfl ?_; refine M0 (q_eqlK rfl rfl rfl rfl (by assumption)) rfl rfl ?_; refine L_nil ?_; refine T_n ?_
        refine A_ifT rfl ?_; refine A_seq ?_; refine A_region ?_; refine M0 (q_fldp rfl rfl rfl rfl (by decide)) rfl rfl ?_; refine M0 (q_ld1 rfl rfl rfl rfl rfl) rfl rfl ?_
        refine M0 (q_assignC rfl rfl rfl) rfl rfl ?_; refine L_nil ?_; refine T_n ?_; refine A_ret ?_; refine T_r ?_; refine B_r ?_; refine T_r ?_; refine T_r ?_; refine B_r ?_; refine T_r ?_; refine F_r ?_
        exact E_tmp rfl rfl (W_end [] (by decide) rfl rfl rfl)
      · have hb0 : decide ((k : Int) = 0) = false := decide_eq_false (by omega)
        by_cases k1 : k ≤ x.Scores.length
        · have hb1 : decide ((k : Int) ≤ (els x.Scores).length) = true := decide_eq_true (by omega)
          have hat2 := at_int (xs := x.Scores) (i := (k : Int) - 1) (k := k - 1) (by omega) (by omega)
          rw [partAt_s k0 (by omega)]
          refine A_skip ?_; refine T_n ?_; refine A_seq ?_; refine A_block ?_; refine A_seq ?_; refine A_region ?_; refine M0 (q_moveC rfl rfl rfl) rfl rfl ?_
          refine M0 (q_ar rfl rfl rfl rfl rfl (by omega) (by omega)) rfl rfl ?_; refine M0 (q_le1 rfl rfl rfl rfl (by assumption) rfl) rfl rfl ?_; refine M0 (q_assignC rfl rfl rfl) rfl rfl ?_
          refine M0 (q_assignC rfl rfl rfl) rfl rfl ?_; refine L_nil ?_; refine T_n ?_; refine A_seq ?_; refine A_seq ?_; refine A_region ?_; refine M0 (q_moveC rfl rfl rfl) rfl rfl ?_
          refine M0 (q_moveC rfl rfl rfl) rfl rfl ?_; refine M0 (q_sneqK rfl rfl rfl rfl (by assumption)) rfl rfl ?_; refine L_nil ?_; refine T_n ?_; refine A_ifF rfl ?_; refine A_skip ?_; refine T_n ?_
          refine A_seq ?_; refine A_seq ?_; refine A_region ?_; refine M0 (q_moveC rfl rfl rfl) rfl rfl ?_; refine M0 (q_eqlK rfl rfl rfl rfl (by assumption)) rfl rfl ?_; refine L_nil ?_; refine T_n ?_
          refine A_ifF rfl ?_; refine A_skip ?_; refine T_n ?_; refine A_seq ?_; refine A_seq ?_; refine A_region ?_; refine M0 (q_moveC rfl rfl rfl) rfl rfl ?_
          refine M0 (q_fldp rfl rfl rfl rfl (by decide)) rfl rfl ?_; refine M0 (q_ld1 rfl rfl rfl rfl rfl) rfl rfl ?_; refine M0 (q_len rfl rfl rfl) rfl rfl ?_
          refine M0 (q_leqK rfl rfl rfl rfl (by assumption)) rfl rfl ?_; refine L_nil ?_; refine T_n ?_; refine A_ifT rfl ?_; refine A_seq ?_; refine A_region ?_
          refine M0 (q_fldp rfl rfl rfl rfl (by decide)) rfl rfl ?_; refine M0 (q_ld1 rfl rfl rfl rfl rfl) rfl rfl ?_; refine M0 (q_moveC rfl rfl rfl) rfl rfl ?_
          refine M0 (q_sub rfl rfl rfl rfl (by omega)) rfl rfl ?_; refine M0 (q_at rfl rfl rfl rfl (by omega) (by assumption) rfl) rfl rfl ?_; refine M0 (q_lr1 rfl rfl rfl rfl) rfl rfl ?_
          refine M0 (q_assignC rfl rfl rfl) rfl rfl ?_; refine L_nil ?_; refine T_n ?_; refine A_ret ?_; refine T_r ?_; refine B_r ?_; refine T_r ?_; refine T_r ?_; refine B_r ?_; refine T_r ?_; refine F_r ?_
          exact E_tmp rfl rfl (W_end [] (by decide) rfl rfl rfl)
        · have hb1 : decide ((k : Int) ≤ (els x.Scores).length) = false := decide_eq_false (by omega)
          have hjb : k - 1 - x.Scores.length < x.Bodies.length := by omega
          have hat2 := at_int (xs := x.Bodies) (i := (k : Int) - 1 - (els x.Scores).length) (k := k - 1 - x.Scores.length) (by omega) hjb
          have hbg : Enc.gd x.Bodies[k - 1 - x.Scores.length] := hg.2.2.2.2.2 _ (List.getElem_mem hjb)
          rw [partAt_b k0 k1 hjb, sumOf_b]
          generalize x.Bodies[k - 1 - x.Scores.length] = b at hat2 hbg
          have hc1 := I_bodyInts b
          have hc2 := I_PackInts (bodyInts b) (body_gd hbg) (by show (9 : Nat) ≤ _; decide)
          have hc3 := I_Checksum (packInts (bodyInts b)) (body_pk b)
          refine A_skip ?_; refine T_n ?_; refine A_seq ?_; refine A_block ?_; refine A_seq ?_; refine A_region ?_; refine M0 (q_moveC rfl rfl rfl) rfl rfl ?_
          refine M0 (q_ar rfl rfl rfl rfl rfl (by omega) (by omega)) rfl rfl ?_; refine M0 (q_le1 rfl rfl rfl rfl (by assumption) rfl) rfl rfl ?_; refine M0 (q_assignC rfl rfl rfl) rfl rfl ?_
          refine M0 (q_assignC rfl rfl rfl) rfl rfl ?_; refine L_nil ?_; refine T_n ?_; refine A_seq ?_; refine A_seq ?_; refine A_region ?_; refine M0 (q_moveC rfl rfl rfl) rfl rfl ?_
          refine M0 (q_moveC rfl rfl rfl) rfl rfl ?_; refine M0 (q_sneqK rfl rfl rfl rfl (by assumption)) rfl rfl ?_; refine L_nil ?_; refine T_n ?_; refine A_ifF rfl ?_; refine A_skip ?_; refine T_n ?_
          refine A_seq ?_; refine A_seq ?_; refine A_region ?_; refine M0 (q_moveC rfl rfl rfl) rfl rfl ?_; refine M0 (q_eqlK rfl rfl rfl rfl (by assumption)) rfl rfl ?_; refine L_nil ?_; refine T_n ?_
          refine A_ifF rfl ?_; refine A_skip ?_; refine T_n ?_; refine A_seq ?_; refine A_seq ?_; refine A_region ?_; refine M0 (q_moveC rfl rfl rfl) rfl rfl ?_
          refine M0 (q_fldp rfl rfl rfl rfl (by decide)) rfl rfl ?_; refine M0 (q_ld1 rfl rfl rfl rfl rfl) rfl rfl ?_; refine M0 (q_len rfl rfl rfl) rfl rfl ?_
          refine M0 (q_leqK rfl rfl rfl rfl (by assumption)) rfl rfl ?_; refine L_nil ?_; refine T_n ?_; refine A_ifF rfl ?_; refine A_skip ?_; refine T_n ?_; refine A_seq ?_; refine A_region ?_
          refine M0 (q_fldp rfl rfl rfl rfl (by decide)) rfl rfl ?_; refine M0 (q_ld1 rfl rfl rfl rfl rfl) rfl rfl ?_; refine M0 (q_moveC rfl rfl rfl) rfl rfl ?_
          refine M0 (q_sub rfl rfl rfl rfl (by omega)) rfl rfl ?_; refine M0 (q_fldp rfl rfl rfl rfl (by decide)) rfl rfl ?_; refine M0 (q_ld1 rfl rfl rfl rfl rfl) rfl rfl ?_
          refine M0 (q_len rfl rfl rfl) rfl rfl ?_; refine M0 (q_sub rfl rfl rfl rfl (by omega)) rfl rfl ?_; refine M0 (q_at rfl rfl rfl rfl (by omega) (by assumption) rfl) rfl rfl ?_
          refine M0 (q_lrN rfl rfl rfl rfl rfl) rfl rfl ?_; refine M1 (q_call rfl rfl (hc1) rfl rfl rfl) rfl rfl ?_; refine M0 (q_call0 rfl rfl (hc2) rfl) rfl rfl ?_
          refine M0 (q_call0 rfl rfl (hc3) rfl) rfl rfl ?_; refine M0 (q_assignC rfl rfl rfl) rfl rfl ?_; refine L_nil ?_; refine T_n ?_; refine A_ret ?_; refine B_r ?_; refine T_r ?_; refine T_r ?_
          refine B_r ?_; refine T_r ?_; refine F_r ?_
          exact E_tmp rfl rfl (W_end [] (by decide) rfl rfl rfl)
    · have hb : decide ((partsOf x)[k] ≠ s) = true := decide_eq_true he
      refine A_skip ?_; refine T_n ?_; refine A_seq ?_; refine A_block ?_; refine A_seq ?_; refine A_region ?_; refine M0 (q_moveC rfl rfl rfl) rfl rfl ?_
      refine M0 (q_ar rfl rfl rfl rfl rfl (by omega) (by omega)) rfl rfl ?_; refine M0 (q_le1 rfl rfl rfl rfl (by assumption) rfl) rfl rfl ?_; refine M0 (q_assignC rfl rfl rfl) rfl rfl ?_
      refine M0 (q_assignC rfl rfl rfl) rfl rfl ?_; refine L_nil ?_; refine T_n ?_; refine A_seq ?_; refine A_seq ?_; refine A_region ?_; refine M0 (q_moveC rfl rfl rfl) rfl rfl ?_
      refine M0 (q_moveC rfl rfl rfl) rfl rfl ?_; refine M0 (q_sneqK rfl rfl rfl rfl (by assumption)) rfl rfl ?_; refine L_nil ?_; refine T_n ?_; refine A_ifT rfl ?_; refine A_exit ?_; refine T_x ?_
      refine B_xs ?_; refine T_n ?_; refine A_region ?_; refine M0 (q_add rfl rfl rfl rfl (by omega)) rfl rfl ?_; refine M0 (q_moveC rfl rfl rfl) rfl rfl ?_; refine L_nil ?_; refine T_n ?_
      exact ⟨(partsOf x).length - (k + 1), by omega, (fun k : Nat => (⟨_, [(1, S s), (2, .o (.c (.ptr 0 0))), (8, .o (.c (.ref 1))), (9, I (els (partsOf x)).length), (10, I k)], [.box ((Enc.e x).map (V1.rd [])), .row 1 (els (partsOf x))]⟩ : St)) (k + 1), W_go [0, 1] (by decide) rfl (rfl) (.cons rfl (.cons rfl (.cons rfl (.cons rfl (.cons rfl (.nil)))))), k + 1, by omega, part_next h3 hp_A he, rfl⟩
  · have h3 : ¬ ((k : Int) < (els (partsOf x)).length) := of_decide_eq_false h
    rw [part_none (by omega) hp_A]
    refine A_exit ?_; refine T_x ?_; refine T_x ?_; refine B_xs ?_; refine T_n ?_; refine A_seq ?_; refine A_region ?_; refine M0 (q_assignC rfl rfl rfl) rfl rfl ?_; refine L_nil ?_; refine T_n ?_
    refine A_ret ?_; refine F_r ?_
    exact E_tmp rfl rfl (W_end [] (by decide) rfl rfl rfl)
set_option maxHeartbeats 8000000 in
theorem S_l06Body (b : TBody) : Con Tryd.prog 89 [] [ag b] [.row 1 (els (bodyInts b))] (.o (.c (.ref 0))) := by
  refine Con.of Tryd.func89 rfl Tryd.ntmps89 rfl (fun E => ?_)
  refine A_seq ?_; refine A_region ?_; refine M1 (q_boxN rfl rfl rfl rfl) rfl rfl ?_; refine M0 (q_assignC rfl rfl rfl) rfl rfl ?_; refine L_nil ?_; refine T_n ?_; refine A_seq ?_
  refine A_region ?_; refine M0 (q_fldp rfl rfl rfl rfl (by decide)) rfl rfl ?_; refine M0 (q_ld1 rfl rfl rfl rfl rfl) rfl rfl ?_; refine M0 (q_fldp rfl rfl rfl rfl (by decide)) rfl rfl ?_
  refine M0 (q_ld1 rfl rfl rfl rfl rfl) rfl rfl ?_; refine M0 (q_fldp rfl rfl rfl rfl (by decide)) rfl rfl ?_; refine M0 (q_ld1 rfl rfl rfl rfl rfl) rfl rfl ?_
  refine M0 (q_fldp rfl rfl rfl rfl (by decide)) rfl rfl ?_; refine M0 (q_ld1 rfl rfl rfl rfl rfl) rfl rfl ?_; refine M0 (q_fldp rfl rfl rfl rfl (by decide)) rfl rfl ?_
  refine M0 (q_ld1 rfl rfl rfl rfl rfl) rfl rfl ?_; refine M0 (q_fldp rfl rfl rfl rfl (by decide)) rfl rfl ?_; refine M0 (q_ld1 rfl rfl rfl rfl rfl) rfl rfl ?_
  refine M0 (q_fldp rfl rfl rfl rfl (by decide)) rfl rfl ?_; refine M0 (q_ld1 rfl rfl rfl rfl rfl) rfl rfl ?_; refine M0 (q_fldp rfl rfl rfl rfl (by decide)) rfl rfl ?_
  refine M0 (q_ld1 rfl rfl rfl rfl rfl) rfl rfl ?_; refine M0 (q_fldp rfl rfl rfl rfl (by decide)) rfl rfl ?_; refine M0 (q_ld1 rfl rfl rfl rfl rfl) rfl rfl ?_
  refine M1 (q_bslice rfl rfl rfl rfl rfl rfl) rfl rfl ?_; refine M0 (q_assignC rfl rfl rfl) rfl rfl ?_; refine L_nil ?_; refine T_n ?_; refine A_ret ?_; refine F_r ?_
  exact E_tmp rfl rfl (W_pre (Wk.sbrow (q := 1) rfl rfl (Nat.le_of_ble_eq_true rfl)) (W_end [1] (by decide) rfl rfl rfl))
set_option maxHeartbeats 8000000 in
theorem S_l06Part (x : TWorld) (s : ByteArray) (hg : Enc.gd x) : Con Tryd.prog 52 [] [ag x, astr s] [.row 1 (els (partInts x s))] (.o (.c (.ref 0))) := by
  have hp := S_PartsOf x hg
  have hly := els_len (partsOf x)
  have hpl := parts_29 x
  have hls := els_len x.Scores
  have hlb := els_len x.Bodies
  refine Con.of Tryd.func52 rfl Tryd.ntmps52 rfl (fun E => ?_)
  refine A_seq ?_; refine A_region ?_; refine M1 (q_boxN rfl rfl rfl rfl) rfl rfl ?_; refine M0 (q_assignC rfl rfl rfl) rfl rfl ?_; refine L_nil ?_; refine T_n ?_; refine A_seq ?_
  refine A_region ?_; refine M0 (q_ldN rfl rfl rfl rfl rfl rfl) rfl rfl ?_; refine M1 (q_call rfl rfl (hp) rfl rfl rfl) rfl rfl ?_; refine M0 (q_assignC rfl rfl rfl) rfl rfl ?_
  refine L_nil ?_; refine T_n ?_; refine A_seq ?_; refine A_seq ?_; refine A_region ?_; refine M0 (q_assignC rfl rfl rfl) rfl rfl ?_; refine L_nil ?_; refine T_n ?_; refine A_block ?_
  refine A_loop (fun m st => ∃ k : Nat, k + m = (partsOf x).length ∧ ((∀ j (hj : j < (partsOf x).length), j < k → (partsOf x)[j] ≠ s)) ∧ st = (fun k : Nat => (⟨_, [(1, S s), (2, .o (.c (.ptr 0 0))), (5, .o (.c (.ref 1))), (6, I k)], [.box ((Enc.e x).map (V1.rd [])), .row 1 (els (partsOf x))]⟩ : St)) k) ((partsOf x).length) ⟨(fun k : Nat => (⟨_, [(1, S s), (2, .o (.c (.ptr 0 0))), (5, .o (.c (.ref 1))), (6, I k)], [.box ((Enc.e x).map (V1.rd [])), .row 1 (els (partsOf x))]⟩ : St)) 0, W_go [0, 1] (by decide) rfl (rfl) (.cons rfl (.cons rfl (.cons rfl (.cons rfl (.nil))))), 0, by omega, fun j hj h => absurd h (Nat.not_lt_zero _), rfl⟩ ?_
  rintro m_A _ ⟨k, hk_A, hp_A, rfl⟩
  refine A_seq ?_; refine A_seq ?_; refine A_region ?_; refine M0 (q_moveC rfl rfl rfl) rfl rfl ?_; refine M0 (q_moveC rfl rfl rfl) rfl rfl ?_; refine M0 (q_lenr rfl rfl rfl rfl) rfl rfl ?_
  refine M0 (q_lss rfl rfl rfl rfl) rfl rfl ?_; refine L_nil ?_; refine T_n ?_
  refine A_cond rfl (fun h => ?_) (fun h => ?_)
  · have h3 : k < (partsOf x).length := by have := of_decide_eq_true h; omega
    have hat := els_at h3
    by_cases he : (partsOf x)[k] = s
    · have hb : decide ((partsOf x)[k] ≠ s) = false := decide_eq_false (fun h => h he)
      rw [part_hit h3 hp_A he]
      obtain ⟨hok, hkl⟩ := parts_at h3
      by_cases k0 : k = 0
      · have hb0 : decide ((k : Int) = 0) = true := decide_eq_true (by omega)
        subst k0
        rw [partAt_0]
        refine A_skip ?_; refine T_n ?_; refine A_seq ?_; refine A_block ?_; refine A_seq ?_; refine A_seq ?_; refine A_region ?_; refine M0 (q_moveC rfl rfl rfl) rfl rfl ?_
        refine M0 (q_moveC rfl rfl rfl) rfl rfl ?_; refine M0 (q_ar rfl rfl rfl rfl rfl (by omega) (by omega)) rfl rfl ?_; refine M0 (q_le1 rfl rfl rfl rfl (by assumption) rfl) rfl rfl ?_
        refine M0 (q_moveC rfl rfl rfl) rfl rfl ?_; refine M0 (q_sneqK rfl rfl rfl rfl (by assumption)) rfl rfl ?_; refine L_nil ?_; refine T_n ?_; refine A_ifF rfl ?_; refine A_skip ?_; refine T_n ?_
        refine A_seq ?_; refine A_region ?_; refine M0 (q_fldp rfl rfl rfl rfl (by decide)) rfl rfl ?_; refine M0 (q_ld1 rfl rfl rfl rfl rfl) rfl rfl ?_; refine M0 (q_len rfl rfl rfl) rfl rfl ?_
        refine M0 (q_assignC rfl rfl rfl) rfl rfl ?_; refine L_nil ?_; refine T_n ?_; refine A_seq ?_; refine A_block ?_; refine A_seq ?_; refine A_region ?_; refine M0 (q_moveC rfl rfl rfl) rfl rfl ?_
        refine M0 (q_eqlK rfl rfl rfl rfl (by assumption)) rfl rfl ?_; refine M0 (q_assignC rfl rfl rfl) rfl rfl ?_; refine L_nil ?_; refine T_n ?_; refine A_ifT rfl ?_; refine A_seq ?_
        refine A_region ?_; refine M0 (q_fldp rfl rfl rfl rfl (by decide)) rfl rfl ?_; refine M0 (q_ld1 rfl rfl rfl rfl rfl) rfl rfl ?_; refine M1 (q_bslice rfl rfl rfl rfl rfl rfl) rfl rfl ?_
        refine M0 (q_assignC rfl rfl rfl) rfl rfl ?_; refine L_nil ?_; refine T_n ?_; refine A_ret ?_; refine B_r ?_; refine T_r ?_; refine B_r ?_; refine T_r ?_; refine T_r ?_; refine B_r ?_; refine T_r ?_
        refine F_r ?_
        exact E_tmp rfl rfl (W_pre (Wk.sbrow (q := 2) rfl rfl (Nat.le_of_ble_eq_true rfl)) (W_end [2] (by decide) rfl rfl rfl))
      · have hb0 : decide ((k : Int) = 0) = false := decide_eq_false (by omega)
        by_cases k1 : k ≤ x.Scores.length
        · have hb1 : decide ((k : Int) ≤ (els x.Scores).length) = true := decide_eq_true (by omega)
          have hat2 := at_int (xs := x.Scores) (i := (k : Int) - 1) (k := k - 1) (by omega) (by omega)
          rw [partAt_s k0 (by omega)]
          refine A_skip ?_; refine T_n ?_; refine A_seq ?_; refine A_block ?_; refine A_seq ?_; refine A_seq ?_; refine A_region ?_; refine M0 (q_moveC rfl rfl rfl) rfl rfl ?_
          refine M0 (q_moveC rfl rfl rfl) rfl rfl ?_; refine M0 (q_ar rfl rfl rfl rfl rfl (by omega) (by omega)) rfl rfl ?_; refine M0 (q_le1 rfl rfl rfl rfl (by assumption) rfl) rfl rfl ?_
          refine M0 (q_moveC rfl rfl rfl) rfl rfl ?_; refine M0 (q_sneqK rfl rfl rfl rfl (by assumption)) rfl rfl ?_; refine L_nil ?_; refine T_n ?_; refine A_ifF rfl ?_; refine A_skip ?_; refine T_n ?_
          refine A_seq ?_; refine A_region ?_; refine M0 (q_fldp rfl rfl rfl rfl (by decide)) rfl rfl ?_; refine M0 (q_ld1 rfl rfl rfl rfl rfl) rfl rfl ?_; refine M0 (q_len rfl rfl rfl) rfl rfl ?_
          refine M0 (q_assignC rfl rfl rfl) rfl rfl ?_; refine L_nil ?_; refine T_n ?_; refine A_seq ?_; refine A_block ?_; refine A_seq ?_; refine A_region ?_; refine M0 (q_moveC rfl rfl rfl) rfl rfl ?_
          refine M0 (q_eqlK rfl rfl rfl rfl (by assumption)) rfl rfl ?_; refine M0 (q_assignC rfl rfl rfl) rfl rfl ?_; refine L_nil ?_; refine T_n ?_; refine A_ifF rfl ?_; refine A_seq ?_
          refine A_region ?_; refine M0 (q_moveC rfl rfl rfl) rfl rfl ?_; refine M0 (q_moveC rfl rfl rfl) rfl rfl ?_; refine M0 (q_leqK rfl rfl rfl rfl (by assumption)) rfl rfl ?_
          refine M0 (q_assignC rfl rfl rfl) rfl rfl ?_; refine L_nil ?_; refine T_n ?_; refine A_ifT rfl ?_; refine A_seq ?_; refine A_region ?_
          refine M0 (q_fldp rfl rfl rfl rfl (by decide)) rfl rfl ?_; refine M0 (q_ld1 rfl rfl rfl rfl rfl) rfl rfl ?_; refine M0 (q_moveC rfl rfl rfl) rfl rfl ?_
          refine M0 (q_sub rfl rfl rfl rfl (by omega)) rfl rfl ?_; refine M0 (q_at rfl rfl rfl rfl (by omega) (by assumption) rfl) rfl rfl ?_; refine M0 (q_lr1 rfl rfl rfl rfl) rfl rfl ?_
          refine M1 (q_bslice rfl rfl rfl rfl rfl rfl) rfl rfl ?_; refine M0 (q_assignC rfl rfl rfl) rfl rfl ?_; refine L_nil ?_; refine T_n ?_; refine A_ret ?_; refine B_r ?_; refine T_r ?_
          refine B_r ?_; refine T_r ?_; refine T_r ?_; refine B_r ?_; refine T_r ?_; refine F_r ?_
          exact E_tmp rfl rfl (W_pre (Wk.sbrow (q := 2) rfl rfl (Nat.le_of_ble_eq_true rfl)) (W_end [2] (by decide) rfl rfl rfl))
        · have hb1 : decide ((k : Int) ≤ (els x.Scores).length) = false := decide_eq_false (by omega)
          have hjb : k - 1 - x.Scores.length < x.Bodies.length := by omega
          have hat2 := at_int (xs := x.Bodies) (i := (k : Int) - 1 - (els x.Scores).length) (k := k - 1 - x.Scores.length) (by omega) hjb
          rw [partAt_b k0 k1 hjb]
          generalize x.Bodies[k - 1 - x.Scores.length] = b at hat2
          have hc1 := S_l06Body b
          refine A_skip ?_; refine T_n ?_; refine A_seq ?_; refine A_block ?_; refine A_seq ?_; refine A_seq ?_; refine A_region ?_; refine M0 (q_moveC rfl rfl rfl) rfl rfl ?_
          refine M0 (q_moveC rfl rfl rfl) rfl rfl ?_; refine M0 (q_ar rfl rfl rfl rfl rfl (by omega) (by omega)) rfl rfl ?_; refine M0 (q_le1 rfl rfl rfl rfl (by assumption) rfl) rfl rfl ?_
          refine M0 (q_moveC rfl rfl rfl) rfl rfl ?_; refine M0 (q_sneqK rfl rfl rfl rfl (by assumption)) rfl rfl ?_; refine L_nil ?_; refine T_n ?_; refine A_ifF rfl ?_; refine A_skip ?_; refine T_n ?_
          refine A_seq ?_; refine A_region ?_; refine M0 (q_fldp rfl rfl rfl rfl (by decide)) rfl rfl ?_; refine M0 (q_ld1 rfl rfl rfl rfl rfl) rfl rfl ?_; refine M0 (q_len rfl rfl rfl) rfl rfl ?_
          refine M0 (q_assignC rfl rfl rfl) rfl rfl ?_; refine L_nil ?_; refine T_n ?_; refine A_seq ?_; refine A_block ?_; refine A_seq ?_; refine A_region ?_; refine M0 (q_moveC rfl rfl rfl) rfl rfl ?_
          refine M0 (q_eqlK rfl rfl rfl rfl (by assumption)) rfl rfl ?_; refine M0 (q_assignC rfl rfl rfl) rfl rfl ?_; refine L_nil ?_; refine T_n ?_; refine A_ifF rfl ?_; refine A_seq ?_
          refine A_region ?_; refine M0 (q_moveC rfl rfl rfl) rfl rfl ?_; refine M0 (q_moveC rfl rfl rfl) rfl rfl ?_; refine M0 (q_leqK rfl rfl rfl rfl (by assumption)) rfl rfl ?_
          refine M0 (q_assignC rfl rfl rfl) rfl rfl ?_; refine L_nil ?_; refine T_n ?_; refine A_ifF rfl ?_; refine A_skip ?_; refine B_n ?_; refine T_n ?_; refine A_seq ?_; refine A_region ?_
          refine M0 (q_fldp rfl rfl rfl rfl (by decide)) rfl rfl ?_; refine M0 (q_ld1 rfl rfl rfl rfl rfl) rfl rfl ?_; refine M0 (q_moveC rfl rfl rfl) rfl rfl ?_
          refine M0 (q_sub rfl rfl rfl rfl (by omega)) rfl rfl ?_; refine M0 (q_moveC rfl rfl rfl) rfl rfl ?_; refine M0 (q_sub rfl rfl rfl rfl (by omega)) rfl rfl ?_
          refine M0 (q_at rfl rfl rfl rfl (by omega) (by assumption) rfl) rfl rfl ?_; refine M0 (q_lrN rfl rfl rfl rfl rfl) rfl rfl ?_; refine M1 (q_call rfl rfl (hc1) rfl rfl rfl) rfl rfl ?_
          refine M0 (q_assignC rfl rfl rfl) rfl rfl ?_; refine L_nil ?_; refine T_n ?_; refine A_ret ?_; refine B_r ?_; refine T_r ?_; refine T_r ?_; refine B_r ?_; refine T_r ?_; refine F_r ?_
          exact E_tmp rfl rfl (W_end [2] (by decide) rfl rfl rfl)
    · have hb : decide ((partsOf x)[k] ≠ s) = true := decide_eq_true he
      refine A_skip ?_; refine T_n ?_; refine A_seq ?_; refine A_block ?_; refine A_seq ?_; refine A_seq ?_; refine A_region ?_; refine M0 (q_moveC rfl rfl rfl) rfl rfl ?_
      refine M0 (q_moveC rfl rfl rfl) rfl rfl ?_; refine M0 (q_ar rfl rfl rfl rfl rfl (by omega) (by omega)) rfl rfl ?_; refine M0 (q_le1 rfl rfl rfl rfl (by assumption) rfl) rfl rfl ?_
      refine M0 (q_moveC rfl rfl rfl) rfl rfl ?_; refine M0 (q_sneqK rfl rfl rfl rfl (by assumption)) rfl rfl ?_; refine L_nil ?_; refine T_n ?_; refine A_ifT rfl ?_; refine A_exit ?_; refine T_x ?_
      refine B_xs ?_; refine T_n ?_; refine A_region ?_; refine M0 (q_moveC rfl rfl rfl) rfl rfl ?_; refine M0 (q_add rfl rfl rfl rfl (by omega)) rfl rfl ?_
      refine M0 (q_assignC rfl rfl rfl) rfl rfl ?_; refine L_nil ?_; refine T_n ?_
      exact ⟨(partsOf x).length - (k + 1), by omega, (fun k : Nat => (⟨_, [(1, S s), (2, .o (.c (.ptr 0 0))), (5, .o (.c (.ref 1))), (6, I k)], [.box ((Enc.e x).map (V1.rd [])), .row 1 (els (partsOf x))]⟩ : St)) (k + 1), W_go [0, 1] (by decide) rfl (rfl) (.cons rfl (.cons rfl (.cons rfl (.cons rfl (.nil))))), k + 1, by omega, part_next h3 hp_A he, rfl⟩
  · have h3 : ¬ ((k : Int) < (els (partsOf x)).length) := of_decide_eq_false h
    rw [part_none (by omega) hp_A]
    refine A_exit ?_; refine T_x ?_; refine T_x ?_; refine B_xs ?_; refine T_n ?_; refine A_seq ?_; refine A_region ?_; refine M0 (q_assignC rfl rfl rfl) rfl rfl ?_; refine L_nil ?_; refine T_n ?_
    refine A_ret ?_; refine F_r ?_
    exact E_tmp rfl rfl (W_fill [1] [2] rfl rfl (by decide) rfl rfl rfl)
theorem part_cases (x : TWorld) (s : ByteArray) : partInts x s = [] ∨ (∃ n, partInts x s = [n]) ∨ ∃ b ∈ x.Bodies, partInts x s = bodyInts b := by
  by_cases h : ∃ k, ∃ hk : k < (partsOf x).length, (∀ j (hj : j < (partsOf x).length), j < k → (partsOf x)[j] ≠ s) ∧ (partsOf x)[k] = s
  · obtain ⟨k, hk, h1, h2⟩ := h
    rw [part_hit hk h1 h2]
    obtain ⟨hok, hkl⟩ := parts_at hk
    by_cases k0 : k = 0
    · subst k0; exact .inr (.inl ⟨_, partAt_0 x⟩)
    by_cases k1 : k ≤ x.Scores.length
    · exact .inr (.inl ⟨_, partAt_s k0 (by omega)⟩)
    · exact .inr (.inr ⟨_, List.getElem_mem (by omega), partAt_b k0 k1 (by omega)⟩)
  · left
    cases hf : (partsOf x).findIdx? (fun t => decide (t = s)) with
    | none => rw [partInts, hf]
    | some k =>
      rw [List.findIdx?_eq_some_iff_getElem] at hf
      obtain ⟨hk, h1, h2⟩ := hf
      exact absurd ⟨k, hk, fun j hj hl => by simpa using h2 j hl, of_decide_eq_true h1⟩ h
set_option maxHeartbeats 8000000 in
theorem S_PartSum (x : TWorld) (s : ByteArray) (hg : Enc.gd x) : Con Tryd.prog 22 [] [ag x, astr s] [] (I (sumOf (partInts x s))) := by
  have hp := S_l06Part x s hg
  rcases part_cases x s with h | ⟨n, h⟩ | ⟨b, hb, h⟩
  · rw [h] at hp ⊢
    have hb0 : decide (((els ([] : List Int)).length : Int) = 0) = true := rfl
    refine Con.of Tryd.func22 rfl Tryd.ntmps22 rfl (fun E => ?_)
    refine A_seq ?_; refine A_region ?_; refine M1 (q_boxN rfl rfl rfl rfl) rfl rfl ?_; refine M0 (q_assignC rfl rfl rfl) rfl rfl ?_; refine L_nil ?_; refine T_n ?_; refine A_seq ?_
    refine A_region ?_; refine M0 (q_ldN rfl rfl rfl rfl rfl rfl) rfl rfl ?_; refine M0 (q_moveC rfl rfl rfl) rfl rfl ?_; refine M1 (q_call rfl rfl (hp) rfl rfl rfl) rfl rfl ?_
    refine M0 (q_assignC rfl rfl rfl) rfl rfl ?_; refine L_nil ?_; refine T_n ?_; refine A_seq ?_; refine A_seq ?_; refine A_region ?_; refine M0 (q_moveC rfl rfl rfl) rfl rfl ?_
    refine M0 (q_lenr rfl rfl rfl rfl) rfl rfl ?_; refine L_nil ?_; refine T_n ?_; refine A_block ?_; refine A_seq ?_; refine A_region ?_
    refine M0 (q_eqlK rfl rfl rfl rfl (by assumption)) rfl rfl ?_; refine M0 (q_assignC rfl rfl rfl) rfl rfl ?_; refine L_nil ?_; refine T_n ?_; refine A_ifT rfl ?_; refine A_seq ?_
    refine A_region ?_; refine M0 (q_assignC rfl rfl rfl) rfl rfl ?_; refine L_nil ?_; refine T_n ?_; refine A_ret ?_; refine B_r ?_; refine T_r ?_; refine F_r ?_
    exact E_tmp rfl rfl (W_end [] (by decide) rfl rfl rfl)
  · rw [h] at hp ⊢
    have hb0 : decide (((els [n]).length : Int) = 0) = false := rfl
    have hb1 : decide (((els [n]).length : Int) = 1) = true := rfl
    have hat : (els [n])[(0 : Int).toNat]? = some (Enc.e n) := rfl
    have hl1 : (els [n]).length = 1 := rfl
    refine Con.of Tryd.func22 rfl Tryd.ntmps22 rfl (fun E => ?_)
    refine A_seq ?_; refine A_region ?_; refine M1 (q_boxN rfl rfl rfl rfl) rfl rfl ?_; refine M0 (q_assignC rfl rfl rfl) rfl rfl ?_; refine L_nil ?_; refine T_n ?_; refine A_seq ?_
    refine A_region ?_; refine M0 (q_ldN rfl rfl rfl rfl rfl rfl) rfl rfl ?_; refine M0 (q_moveC rfl rfl rfl) rfl rfl ?_; refine M1 (q_call rfl rfl (hp) rfl rfl rfl) rfl rfl ?_
    refine M0 (q_assignC rfl rfl rfl) rfl rfl ?_; refine L_nil ?_; refine T_n ?_; refine A_seq ?_; refine A_seq ?_; refine A_region ?_; refine M0 (q_moveC rfl rfl rfl) rfl rfl ?_
    refine M0 (q_lenr rfl rfl rfl rfl) rfl rfl ?_; refine L_nil ?_; refine T_n ?_; refine A_block ?_; refine A_seq ?_; refine A_region ?_
    refine M0 (q_eqlK rfl rfl rfl rfl (by assumption)) rfl rfl ?_; refine M0 (q_assignC rfl rfl rfl) rfl rfl ?_; refine L_nil ?_; refine T_n ?_; refine A_ifF rfl ?_; refine A_seq ?_
    refine A_region ?_; refine M0 (q_eqlK rfl rfl rfl rfl (by assumption)) rfl rfl ?_; refine M0 (q_assignC rfl rfl rfl) rfl rfl ?_; refine L_nil ?_; refine T_n ?_; refine A_ifT rfl ?_
    refine A_seq ?_; refine A_region ?_; refine M0 (q_moveC rfl rfl rfl) rfl rfl ?_; refine M0 (q_ar rfl rfl rfl rfl rfl (by omega) (by omega)) rfl rfl ?_
    refine M0 (q_le1 rfl rfl rfl rfl (by assumption) rfl) rfl rfl ?_; refine M0 (q_assignC rfl rfl rfl) rfl rfl ?_; refine L_nil ?_; refine T_n ?_; refine A_ret ?_; refine B_r ?_; refine T_r ?_
    refine F_r ?_
    exact E_tmp rfl rfl (W_end [] (by decide) rfl rfl rfl)
  · rw [h] at hp ⊢
    rw [sumOf_b]
    have hbg : Enc.gd b := hg.2.2.2.2.2 _ hb
    have hb0 : decide (((els (bodyInts b)).length : Int) = 0) = false := rfl
    have hb1 : decide (((els (bodyInts b)).length : Int) = 1) = false := rfl
    have hc2 := S_PackInts (bodyInts b) (body_gd hbg) (by show (9 : Nat) ≤ _; decide)
    have hc3 := S_Checksum (packInts (bodyInts b)) (body_pk b)
    refine Con.of Tryd.func22 rfl Tryd.ntmps22 rfl (fun E => ?_)
    refine A_seq ?_; refine A_region ?_; refine M1 (q_boxN rfl rfl rfl rfl) rfl rfl ?_; refine M0 (q_assignC rfl rfl rfl) rfl rfl ?_; refine L_nil ?_; refine T_n ?_; refine A_seq ?_
    refine A_region ?_; refine M0 (q_ldN rfl rfl rfl rfl rfl rfl) rfl rfl ?_; refine M0 (q_moveC rfl rfl rfl) rfl rfl ?_; refine M1 (q_call rfl rfl (hp) rfl rfl rfl) rfl rfl ?_
    refine M0 (q_assignC rfl rfl rfl) rfl rfl ?_; refine L_nil ?_; refine T_n ?_; refine A_seq ?_; refine A_seq ?_; refine A_region ?_; refine M0 (q_moveC rfl rfl rfl) rfl rfl ?_
    refine M0 (q_lenr rfl rfl rfl rfl) rfl rfl ?_; refine L_nil ?_; refine T_n ?_; refine A_block ?_; refine A_seq ?_; refine A_region ?_
    refine M0 (q_eqlK rfl rfl rfl rfl (by assumption)) rfl rfl ?_; refine M0 (q_assignC rfl rfl rfl) rfl rfl ?_; refine L_nil ?_; refine T_n ?_; refine A_ifF rfl ?_; refine A_seq ?_
    refine A_region ?_; refine M0 (q_eqlK rfl rfl rfl rfl (by assumption)) rfl rfl ?_; refine M0 (q_assignC rfl rfl rfl) rfl rfl ?_; refine L_nil ?_; refine T_n ?_; refine A_ifF rfl ?_
    refine A_skip ?_; refine B_n ?_; refine T_n ?_; refine A_seq ?_; refine A_region ?_; refine M0 (q_moveC rfl rfl rfl) rfl rfl ?_; refine M0 (q_call0 rfl rfl (hc2) rfl) rfl rfl ?_
    refine M0 (q_call0 rfl rfl (hc3) rfl) rfl rfl ?_; refine M0 (q_assignC rfl rfl rfl) rfl rfl ?_; refine L_nil ?_; refine T_n ?_; refine A_ret ?_; refine F_r ?_
    exact E_tmp rfl rfl (W_end [] (by decide) rfl rfl rfl)
end Go.Proofs.YtkfnaniegldfaaaDoor
end

section
set_option linter.unusedSimpArgs false
set_option linter.unusedVariables false
namespace Go.Proofs.YtkfnaniegldfaaaDoor
open Go.RowKit

@[reducible] def iv (n : Int) : V1 := .rd [] (.v (.int .i64 n))
set_option maxHeartbeats 8000000 in
theorem law_PartSum (x : TWorld) (s : ByteArray) (hx : Enc.gd x) (hgs : Enc.gd s) : Con Tryd.prog 5 [] [ag x, astr s] [] (B true) := by
  by_cases n0 : (1048576 : Int) < s.size
  · have hb0 : decide ((1048576 : Int) < s.size) = true := decide_eq_true n0
    refine Con.of Tryd.func5 rfl Tryd.ntmps5 rfl (fun E => ?_)
    refine A_seq ?_; refine A_region ?_; refine M1 (q_boxN rfl rfl rfl rfl) rfl rfl ?_; refine M0 (q_assignC rfl rfl rfl) rfl rfl ?_; refine L_nil ?_; refine T_n ?_; refine A_seq ?_; refine A_seq ?_
    refine A_region ?_; refine M0 (q_moveC rfl rfl rfl) rfl rfl ?_; refine M0 (q_lens rfl rfl rfl) rfl rfl ?_; refine M0 (q_gtrK rfl rfl rfl rfl (by assumption)) rfl rfl ?_; refine L_nil ?_
    refine T_n ?_; refine A_ifT rfl ?_; refine A_seq ?_; refine A_region ?_; refine M0 (q_assignC rfl rfl rfl) rfl rfl ?_; refine L_nil ?_; refine T_n ?_; refine A_ret ?_; refine T_r ?_; refine F_r ?_
    exact E_tmp rfl rfl (W_end [] (by decide) rfl rfl rfl)
  have hb0 : decide ((1048576 : Int) < s.size) = false := decide_eq_false n0
  have hz1 := sz_World x 1048576 hx (by omega) (by omega)
  by_cases n1 : (1048576 : Int) < Enc.wt x
  · rw [szr_neg n1] at hz1
    refine Con.of Tryd.func5 rfl Tryd.ntmps5 rfl (fun E => ?_)
    refine A_seq ?_; refine A_region ?_; refine M1 (q_boxN rfl rfl rfl rfl) rfl rfl ?_; refine M0 (q_assignC rfl rfl rfl) rfl rfl ?_; refine L_nil ?_; refine T_n ?_; refine A_seq ?_; refine A_seq ?_
    refine A_region ?_; refine M0 (q_moveC rfl rfl rfl) rfl rfl ?_; refine M0 (q_lens rfl rfl rfl) rfl rfl ?_; refine M0 (q_gtrK rfl rfl rfl rfl (by assumption)) rfl rfl ?_; refine L_nil ?_
    refine T_n ?_; refine A_ifF rfl ?_; refine A_skip ?_; refine T_n ?_; refine A_seq ?_; refine A_region ?_; refine M0 (q_assignC rfl rfl rfl) rfl rfl ?_; refine L_nil ?_; refine T_n ?_
    refine A_seq ?_; refine A_region ?_; refine M0 (q_ldN rfl rfl rfl rfl rfl rfl) rfl rfl ?_; refine M0 (q_moveC rfl rfl rfl) rfl rfl ?_; refine M0 (q_call0 rfl rfl (hz1) rfl) rfl rfl ?_
    refine M0 (q_assignC rfl rfl rfl) rfl rfl ?_; refine L_nil ?_; refine T_n ?_; refine A_seq ?_; refine A_seq ?_; refine A_region ?_; refine M0 (q_moveC rfl rfl rfl) rfl rfl ?_
    refine M0 (q_lssK (b := true) rfl rfl rfl rfl (by decide)) rfl rfl ?_; refine L_nil ?_; refine T_n ?_; refine A_ifT rfl ?_; refine A_seq ?_; refine A_region ?_
    refine M0 (q_assignC rfl rfl rfl) rfl rfl ?_; refine L_nil ?_; refine T_n ?_; refine A_ret ?_; refine T_r ?_; refine F_r ?_
    exact E_tmp rfl rfl (W_end [] (by decide) rfl rfl rfl)
  rw [szr_pos (by omega)] at hz1
  have hb1 : decide ((1048576 : Int) - Enc.wt x < 0) = false := decide_eq_false (by omega)
  have hw : Enc.wt x = Enc.wt x.Level + Enc.wt x.Scores + Enc.wt x.Bodies := rfl
  have hL : x.Level.Rows.length ≤ 1048576 := by have h2 : Enc.wt x.Level = x.Level.Rows.length + wts x.Level.Rows := rfl; omega
  have hS : x.Scores.length ≤ 1048576 := by have h2 : Enc.wt x.Scores = x.Scores.length + wts x.Scores := rfl; omega
  have hB : x.Bodies.length ≤ 1048576 := by have h2 : Enc.wt x.Bodies = x.Bodies.length + wts x.Bodies := rfl; omega
  have ht1 := to_World x (by omega)
  have hsp := S_PartSum x s hx
  have hip := I_PartSum x s hx
  generalize sumOf (partInts x s) = y at hsp hip
  have hq2 := eq_World x x hx
  rw [decide_eq_true rfl] at hq2
  refine Con.of Tryd.func5 rfl Tryd.ntmps5 rfl (fun E => ?_)
  refine A_seq ?_; refine A_region ?_; refine M1 (q_boxN rfl rfl rfl rfl) rfl rfl ?_; refine M0 (q_assignC rfl rfl rfl) rfl rfl ?_; refine L_nil ?_; refine T_n ?_; refine A_seq ?_; refine A_seq ?_
  refine A_region ?_; refine M0 (q_moveC rfl rfl rfl) rfl rfl ?_; refine M0 (q_lens rfl rfl rfl) rfl rfl ?_; refine M0 (q_gtrK rfl rfl rfl rfl (by assumption)) rfl rfl ?_; refine L_nil ?_
  refine T_n ?_; refine A_ifF rfl ?_; refine A_skip ?_; refine T_n ?_; refine A_seq ?_; refine A_region ?_; refine M0 (q_assignC rfl rfl rfl) rfl rfl ?_; refine L_nil ?_; refine T_n ?_
  refine A_seq ?_; refine A_region ?_; refine M0 (q_ldN rfl rfl rfl rfl rfl rfl) rfl rfl ?_; refine M0 (q_moveC rfl rfl rfl) rfl rfl ?_; refine M0 (q_call0 rfl rfl (hz1) rfl) rfl rfl ?_
  refine M0 (q_assignC rfl rfl rfl) rfl rfl ?_; refine L_nil ?_; refine T_n ?_; refine A_seq ?_; refine A_seq ?_; refine A_region ?_; refine M0 (q_moveC rfl rfl rfl) rfl rfl ?_
  refine M0 (q_lssK rfl rfl rfl rfl (by assumption)) rfl rfl ?_; refine L_nil ?_; refine T_n ?_; refine A_ifF rfl ?_; refine A_skip ?_; refine T_n ?_; refine A_seq ?_; refine A_region ?_
  refine M0 (q_ldN rfl rfl rfl rfl rfl rfl) rfl rfl ?_; refine M1 (q_call rfl rfl (ht1) rfl rfl rfl) rfl rfl ?_; refine M0 (q_moveC rfl rfl rfl) rfl rfl ?_
  refine M0 (q_call0 rfl rfl (hsp) rfl) rfl rfl ?_; refine M0 (q_assignC rfl rfl rfl) rfl rfl ?_; refine L_nil ?_; refine T_n ?_; refine A_seq ?_; refine A_region ?_
  refine M0 (q_ldN rfl rfl rfl rfl rfl rfl) rfl rfl ?_; refine M1 (q_call rfl rfl (ht1) rfl rfl rfl) rfl rfl ?_; refine M1 (q_alloc rfl rfl rfl) rfl rfl ?_
  refine M_stN rfl rfl rfl rfl rfl rfl rfl rfl rfl ?_; refine L_nil ?_; refine T_n ?_; refine A_seq ?_; refine A_region ?_; refine M0 (q_ldN rfl rfl rfl rfl rfl rfl) rfl rfl ?_
  refine M0 (q_moveC rfl rfl rfl) rfl rfl ?_; refine M0 (q_call0 rfl rfl (hip) rfl) rfl rfl ?_; refine M0 (q_assignC rfl rfl rfl) rfl rfl ?_; refine L_nil ?_; refine T_n ?_; refine A_seq ?_
  refine A_seq ?_; refine A_region ?_; refine M0 (q_moveC rfl rfl rfl) rfl rfl ?_; refine M0 (q_moveC rfl rfl rfl) rfl rfl ?_; refine M0 (q_neqR rfl rfl rfl rfl) rfl rfl ?_; refine L_nil ?_
  refine T_n ?_; refine A_ifF rfl ?_; refine A_skip ?_; refine T_n ?_; refine A_seq ?_; refine A_seq ?_
  refine AWP.pre (st' := (⟨_, [(2, .o (.c (.ptr 0 0))), (7, .o (.c (.ptr 4 0)))], [.box ((Enc.e x).map (V1.rd [])), .row 1 (els x.Level.Rows), .row 1 (els x.Scores), .row 9 (els x.Bodies), .box [.ref 1, iv x.Tick, iv x.Seed, .ref 2, .ref 3]]⟩ : St)) ?_ (W_go [0, 4, 5, 6, 7] (by decide) rfl (rfl) (.cons rfl (.cons rfl (.nil))))
  refine A_draw [[], [], [1], [0, 1, 2], [0, 1, 2, 3]] [[], [], [30], [29, 30, 31], [29, 30, 31, 32]] [[30, 31], [29], [29], [], []] rfl ?_
  refine DR.step (q_ldN rfl rfl rfl rfl rfl rfl) rfl rfl ?_; refine DR.step (q_ldN rfl rfl rfl rfl rfl rfl) rfl rfl ?_; refine DR.step (q_call rfl rfl (ht1) rfl rfl rfl) rfl rfl ?_
  refine DR.step (q_call0 rfl rfl (hq2) rfl) rfl rfl ?_; refine DR.step (q_not rfl rfl rfl) rfl rfl ?_; refine DR.stop (by kernel_rfl) (by kernel_rfl) ?_
  refine L_nil ?_; refine T_n ?_
  refine AWP.pre (st' := (⟨_, [(33, B false)], []⟩ : St)) ?_ (W_go [] (by decide) rfl (rfl) (.cons rfl (.nil)))
  refine A_ifF rfl ?_; refine A_skip ?_; refine T_n ?_; refine A_seq ?_; refine A_region ?_; refine M0 (q_assignC rfl rfl rfl) rfl rfl ?_; refine L_nil ?_; refine T_n ?_; refine A_ret ?_
  refine F_r ?_
  exact E_tmp rfl rfl (W_end [] (by decide) rfl rfl rfl)
end Go.Proofs.YtkfnaniegldfaaaDoor
end

section
set_option linter.unusedVariables false
namespace Go.Proofs.YtkfnaniegldfaaaDoor
open Go.ChangeShapes Go.WideShapes Go.ChangeAt Go.RowKit

def RL (w : World) (ts : List T) (cs : List Value) : Prop := ∀ (j : Nat) (t : T) (u : Value), ts[j]? = some t → cs[j]? = some u → RO w (fun _ => True) t u
theorem RL.nil {w : World} {cs : List Value} : RL w [] cs := fun _ _ _ h => by simp at h
theorem RL.app {w : World} {ts us : List T} {cs : List Value} {o n : Nat} (h1 : RL w ts ((cs.drop o).take n)) (hn : ts.length = n) (h2 : RL w us (cs.drop (o + n))) : RL w (ts ++ us) (cs.drop o) := fun j t u h3 h4 => by
  rcases Nat.lt_or_ge j ts.length with hj | hj
  · rw [List.getElem?_append_left hj] at h3
    exact h1 j t u h3 (by rw [List.getElem?_take, if_pos (by omega)]; exact h4)
  · rw [List.getElem?_append_right hj] at h3
    refine h2 (j - ts.length) t u h3 ?_
    rw [List.getElem?_drop] at h4 ⊢
    rw [← h4]
    congr 1
    omega
theorem reads_fld {P : Program} {t tt : TypeId} {fs : Array Field} {f : Field} {α : Type} [Enc α] {H : Type} {enc : TypeId × Value → H} {w : World} {spare : Nat → Bool} {held : Bool} {fuel : Nat} {cs : List Value} {x : DataW H × List MemPlace}
    (ht : P.underlying t = some (.struct fs)) (h : DataW.trod enc P w 0 spare held fuel t cs = some x) (i : Nat) (hf : fs[i]? = some f) (hty : f.type = tt) [hα : RdOf P tt α] {o : Nat} (ho : f.offset = o) :
    ∃ y : α, Enc.gd y ∧ RL w (Enc.e y) ((cs.drop o).take (Enc.k α)) := by
  obtain ⟨xs, n, _, _, hl, hlen, hfs⟩ := DataW.trod_struct ht h
  have h1 := hfs i f hf
  have hi : i < fs.size := by
    rcases Nat.lt_or_ge i fs.size with h2 | h2
    · exact h2
    · rw [Array.getElem?_eq_none h2] at hf; cases hf
  rw [List.getElem?_eq_getElem (by omega), hty, ho, hα.size] at h1
  obtain ⟨y, hg, hr⟩ := hα.of h1
  exact ⟨y, hg, hr.2⟩
theorem reads_len {P : Program} {t : TypeId} {fs : Array Field} {H : Type} {enc : TypeId × Value → H} {w : World} {spare : Nat → Bool} {held : Bool} {fuel : Nat} {cs : List Value} {x : DataW H × List MemPlace}
    (ht : P.underlying t = some (.struct fs)) (h : DataW.trod enc P w 0 spare held fuel t cs = some x) : cs.length = P.cellsOf t := by
  obtain ⟨xs, n, _, _, hl, _⟩ := DataW.trod_struct ht h
  exact hl

instance : RdOf Tryd.prog 3 Int := rdOf_int Tryd.underlying3 (by kernel_rfl)
instance : RdOf Tryd.prog 9 ByteArray := rdOf_string Tryd.underlying9 (by kernel_rfl)
instance : RdOf Tryd.prog 32 (List Int) := rdOf_slice Tryd.underlying32 (by kernel_rfl)
instance : RdOf Tryd.prog 22 (List ByteArray) := rdOf_slice Tryd.underlying22 (by kernel_rfl)
instance : RdOf Tryd.prog 52 (List (List Int)) := rdOf_slice Tryd.underlying52 (by kernel_rfl)
instance : RdOf Tryd.prog 31 TLevel where
  size := by kernel_rfl
  of {H enc w spare held fuel cs x} h := by
    obtain ⟨y0, g0, r0⟩ := reads_fld (α := (List ByteArray)) (tt := 22) Tryd.underlying31 h 0 rfl rfl rfl
    refine ⟨⟨y0⟩, g0, ?_, ?_⟩
    · rw [reads_len Tryd.underlying31 h]; kernel_rfl
    · exact (RL.app (o := 0) (n := 1) r0 rfl (RL.nil) : RL w _ (cs.drop 0))
end Go.Proofs.YtkfnaniegldfaaaDoor
end

section
set_option linter.unusedVariables false
namespace Go.Proofs.YtkfnaniegldfaaaDoor
open Go.ChangeShapes Go.WideShapes Go.ChangeAt Go.RowKit

instance : RdOf Tryd.prog 105 TBody where
  size := by kernel_rfl
  of {H enc w spare held fuel cs x} h := by
    obtain ⟨y0, g0, r0⟩ := reads_fld (α := Int) (tt := 3) Tryd.underlying105 h 0 rfl rfl rfl
    obtain ⟨y1, g1, r1⟩ := reads_fld (α := Int) (tt := 3) Tryd.underlying105 h 1 rfl rfl rfl
    obtain ⟨y2, g2, r2⟩ := reads_fld (α := Int) (tt := 3) Tryd.underlying105 h 2 rfl rfl rfl
    obtain ⟨y3, g3, r3⟩ := reads_fld (α := Int) (tt := 3) Tryd.underlying105 h 3 rfl rfl rfl
    obtain ⟨y4, g4, r4⟩ := reads_fld (α := Int) (tt := 3) Tryd.underlying105 h 4 rfl rfl rfl
    obtain ⟨y5, g5, r5⟩ := reads_fld (α := Int) (tt := 3) Tryd.underlying105 h 5 rfl rfl rfl
    obtain ⟨y6, g6, r6⟩ := reads_fld (α := Int) (tt := 3) Tryd.underlying105 h 6 rfl rfl rfl
    obtain ⟨y7, g7, r7⟩ := reads_fld (α := Int) (tt := 3) Tryd.underlying105 h 7 rfl rfl rfl
    obtain ⟨y8, g8, r8⟩ := reads_fld (α := Int) (tt := 3) Tryd.underlying105 h 8 rfl rfl rfl
    refine ⟨⟨y0, y1, y2, y3, y4, y5, y6, y7, y8⟩, ⟨g0, g1, g2, g3, g4, g5, g6, g7, g8⟩, ?_, ?_⟩
    · rw [reads_len Tryd.underlying105 h]; kernel_rfl
    · exact (RL.app (o := 0) (n := 1) r0 rfl (RL.app (o := 1) (n := 1) r1 rfl (RL.app (o := 2) (n := 1) r2 rfl (RL.app (o := 3) (n := 1) r3 rfl (RL.app (o := 4) (n := 1) r4 rfl (RL.app (o := 5) (n := 1) r5 rfl (RL.app (o := 6) (n := 1) r6 rfl (RL.app (o := 7) (n := 1) r7 rfl (RL.app (o := 8) (n := 1) r8 rfl (RL.nil))))))))) : RL w _ (cs.drop 0))
instance : RdOf Tryd.prog 33 (List TBody) := rdOf_slice Tryd.underlying33 (by kernel_rfl)
instance : RdOf Tryd.prog 35 TWorld where
  size := by kernel_rfl
  of {H enc w spare held fuel cs x} h := by
    obtain ⟨y0, g0, r0⟩ := reads_fld (α := TLevel) (tt := 31) Tryd.underlying35 h 0 rfl rfl rfl
    obtain ⟨y1, g1, r1⟩ := reads_fld (α := Int) (tt := 3) Tryd.underlying35 h 1 rfl rfl rfl
    obtain ⟨y2, g2, r2⟩ := reads_fld (α := Int) (tt := 3) Tryd.underlying35 h 2 rfl rfl rfl
    obtain ⟨y3, g3, r3⟩ := reads_fld (α := (List Int)) (tt := 32) Tryd.underlying35 h 3 rfl rfl rfl
    obtain ⟨y4, g4, r4⟩ := reads_fld (α := (List TBody)) (tt := 33) Tryd.underlying35 h 4 rfl rfl rfl
    refine ⟨⟨y0, y1, y2, y3, y4⟩, ⟨g0, g1, g2, g3, g4⟩, ?_, ?_⟩
    · rw [reads_len Tryd.underlying35 h]; kernel_rfl
    · exact (RL.app (o := 0) (n := 1) r0 rfl (RL.app (o := 1) (n := 1) r1 rfl (RL.app (o := 2) (n := 1) r2 rfl (RL.app (o := 3) (n := 1) r3 rfl (RL.app (o := 4) (n := 1) r4 rfl (RL.nil))))) : RL w _ (cs.drop 0))
end Go.Proofs.YtkfnaniegldfaaaDoor
end
