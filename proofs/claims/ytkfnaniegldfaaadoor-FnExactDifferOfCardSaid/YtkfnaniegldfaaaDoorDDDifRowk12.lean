/-
  A literal slice becomes an owned slice; comparing a slice with nil. No statement of the program is proved here.
  Conditions: none.
  The parts' names: PartsOf, in the program and in the reference.
  Conditions: lists of at most 2^20 elements.
  Numbers as bytes: EncodeVarint, Signless, PackInts, PackText, Checksum, SealText, in the program and in the reference.
  Conditions: lists of at most 2^30 elements.
  WorldBytes, in the program and in the reference.
  Conditions: lists of at most 2^40 elements.
  The parts' sums: PartSum, in the program and in the reference.
  Conditions: lists of at most 2^20 elements.
  The plain law of DifferOf: what the program lists is what the reference lists. No statement of the program is proved here.
  Conditions: none.
-/
import Derived.Lib.LazyBuf
import Derived.Test.YtkfnaniegldfaaaDoorDDDifRowk9
import Derived.Test.YtkfnaniegldfaaaDoorDDDifRowk11
section
set_option linter.unusedSimpArgs false
set_option linter.unusedVariables false
namespace Go.Proofs.YtkfnaniegldfaaaDoor
open Go.RowKit

def V1.tosr (q : Nat) : V1 → V1
  | .sb p n k => match Nat.beq p q with
    | true => match k with
      | 1 => .ref q
      | _ => .un
    | false => (V1.sb p n k).kill [q]
  | x => x.kill [q]
/-- A literal slice of plain values is a slice of one's own. -/
theorem Wk.sbrow {st : St} {q : Nat} {cs : List V1} {es : List (List T)} (hq : st.objs[q]? = some (.box cs)) (hs : sbE cs = some es) (hm : cs.length ≤ maxLen) : Wk st ⟨st.n, st.tmps.map fun t => (t.1, t.2.mapk (V1.tosr q)), (st.objs.map (Ob.mapk (V1.tosr q))).set q (.row 1 es)⟩ := by
  intro w H F a h1
  obtain ⟨hel, hes⟩ := sbE_ok cs es hs
  have hb := h1.obs q
  rw [getD_of hq] at hb
  obtain ⟨g, t, vs, e1, e2, e3⟩ := hb
  have hsay := h1.ok.says q
  rw [e1] at hsay
  have hg : w.heap[g]? = some (.cells vs.toArray t (0, 0)) := hsay
  have hqlt := getE_lt hq
  have hplain : ∀ (i : Nat) (e : List T), es[i]? = some e → ∃ u, vs[i]? = some u ∧ e = [.v u] ∧ u.oneCell' = true := fun i e hi => by
    obtain ⟨ps, u, h2, h3⟩ := hes i e hi
    have hil := getE_lt h2
    have hiv : vs[i]? = some (vs[i]'(by omega)) := List.getElem?_eq_getElem (by omega)
    obtain ⟨h4, h5⟩ := e3 i _ _ h2 hiv
    obtain ⟨h6, h7⟩ := RO.plain h4
    exact ⟨u, by rw [hiv, h6], h3, h7⟩
  obtain ⟨f, hf⟩ : ∃ f : Nat → Value, f = fun i => vs.getD i undef := ⟨_, rfl⟩
  have hOW : ∃ fp, OW w (.sl 1 es) (.slice (some ⟨g, 0, none⟩) es.length vs.length) fp ∧ (∀ b ∈ fp, b = g) ∧ fp.Nodup := by
    refine ⟨g :: (List.replicate es.length [([] : List Nat)]).flatten.flatten, OW.sl es g 0 1 vs.length t vs.toArray (0, 0) (fun i _ => vs.getD i undef) (List.replicate es.length [[]]) hg (.inl rfl) (by omega) (by omega) (by simp) (by omega) (fun e he => ?_) (by simp) (fun fs hfs => by rw [List.eq_of_mem_replicate hfs]; rfl) (fun i j hi hj => ?_) (fun i j e tt fs ff k1 k2 k3 k4 => ?_), ?_, ?_⟩
    · obtain ⟨i, hi⟩ := List.getElem?_of_mem he
      obtain ⟨u, _, h3, _⟩ := hplain i e hi
      rw [h3]; rfl
    · have h2 : i < vs.length := by omega
      have h3 : j = 0 := by omega
      subst h3
      simp [List.getD_eq_getElem?_getD, h2]
    · obtain ⟨u, h3, h4, h5⟩ := hplain i e k1
      subst h4
      have hj : j = 0 := by have := getE_lt k2; simp at this; exact this
      subst hj
      simp at k2
      subst k2
      have hfs : fs = [[]] := List.eq_of_mem_replicate (getE_mem k3)
      subst hfs
      simp at k4
      subst k4
      have h6 : vs.getD i undef = u := getD_of h3
      rw [h6]
      exact .v u h5
    · intro b hb
      simpa using hb
    · simp
  obtain ⟨fp, hO, hfp, hnd⟩ := hOW
  have hkeep : Keeps w w [g] := ⟨rfl, rfl, rfl, Nat.le_refl _, fun _ _ _ => rfl⟩
  obtain ⟨hok, htn⟩ := h1.ok.turn (p := q) (fp := [g]) (by rw [e1]; rfl) hkeep (.ow (.sl 1 es) (.slice (some ⟨g, 0, none⟩) es.length vs.length) fp) hO hnd trivial (fun b hb => .inl (by simp [hfp b hb]))
  have hone : ∀ x v, R1 w H F x v → R1 w (H.put q (.ow (.sl 1 es) (.slice (some ⟨g, 0, none⟩) es.length vs.length) fp)) F (V1.tosr q x) v := fun x v hx => by
    cases x with
    | sb p n k =>
      simp only [V1.tosr]
      split
      · rename_i hp
        have hpq := Nat.eq_of_beq_eq_true hp
        subst hpq
        split
        · obtain ⟨g', t', vs', k1, k2, k3, k4⟩ := hx
          rw [e1] at k1
          simp only [Pc.box.injEq] at k1
          obtain ⟨rfl, rfl, rfl⟩ := k1
          have hn : n = es.length := by omega
          have hvn : vs.length = es.length := by omega
          rw [k4, hn]
          exact ⟨.sl 1 es, fp, by rw [Hs.put_self, hvn]⟩
        · trivial
      · exact R1.killed h1.ok htn hx
    | _ => exact R1.killed h1.ok htn hx
  refine ⟨_, h1.mapk (V1.tosr q) hone hok ((st.objs.map (Ob.mapk (V1.tosr q))).set q (.row 1 es)) (fun p => ?_), fun p b hb => ?_, htn.gh⟩
  · by_cases hpq : p = q
    · subst hpq
      rw [getD_of (x := .row 1 es) (by simp [hqlt])]
      exact ⟨_, _, Hs.put_self _ _ _⟩
    · rw [List.getD_eq_getElem?_getD, List.getElem?_set_ne (Ne.symm hpq), List.getElem?_map]
      have h2 := h1.obs p
      rw [List.getD_eq_getElem?_getD] at h2
      have h3 := Hs.put_ne H (.ow (.sl 1 es) (.slice (some ⟨g, 0, none⟩) es.length vs.length) fp) hpq
      cases ho : st.objs[p]? with
      | none => rw [ho] at h2; exact h3.trans h2
      | some ob => rw [ho] at h2; exact RB.mapk hone h3 h2
  · by_cases hpq : p = q
    · subst hpq
      rw [Hs.put_self] at hb
      exact ⟨p, by rw [e1, hfp b hb]; simp [Pc.fp]⟩
    · exact ⟨p, by rw [← Hs.put_ne H _ hpq]; exact hb⟩
section
variable {P : Program} {ops : Array Oper} {o : Oper} {st : St} {n : Nat} {t t' : TypeId} {y z : Operand} {ps qs : List Nat}
end
end Go.Proofs.YtkfnaniegldfaaaDoor
end

section
set_option linter.unusedSimpArgs false
set_option linter.unusedVariables false
set_option maxRecDepth 8000
namespace Go.Proofs.YtkfnaniegldfaaaDoor
open Go.RowKit

theorem row2p {k : Nat} {o : Ob} {a b : List (List T)} (h : a = b) : [o, Ob.row k a] = [o, Ob.row k b] := by rw [h]
def seedB : ByteArray := bs [115, 101, 101, 100]
def scoreN (k : Nat) : ByteArray := bs [115, 99, 111, 114, 101, 32] ++ fmtN k
def bodyN (k : Nat) : ByteArray := bs [98, 111, 100, 121, 32] ++ fmtN k
def partsTo (n m : Nat) : List ByteArray := (seedB :: (List.range n).map scoreN) ++ (List.range m).map bodyN
noncomputable def partsOf (w : TWorld) : List ByteArray := if worldOk w = true then partsTo w.Scores.length w.Bodies.length else []
theorem partsTo_len (n m : Nat) : (partsTo n m).length = 1 + n + m := by simp [partsTo]; omega
theorem partsTo_n (n : Nat) : partsTo (n + 1) 0 = partsTo n 0 ++ [scoreN n] := by simp [partsTo, List.range_succ]
theorem partsTo_m (n m : Nat) : partsTo n (m + 1) = partsTo n m ++ [bodyN m] := by simp [partsTo, List.range_succ]
theorem parts_next {n m : Nat} {l : List ByteArray} {x : ByteArray} (h : l = partsTo n m ++ [x]) : els l = els (partsTo n m) ++ [Enc.e x] := by rw [h]; simp [els]
set_option maxHeartbeats 8000000 in
theorem S_PartsOf (x : TWorld) (hg : Enc.gd x) : Con Tryd.prog 14 [] [ag x] [.row 1 (els (partsOf x))] (.o (.c (.ref 0))) := by
  have hc := S_WorldOk x hg
  cases ho : worldOk x with
  | false =>
    rw [ho] at hc
    rw [show partsOf x = [] by rw [partsOf, ho]; exact if_neg (by decide)]
    refine Con.of Tryd.func14 rfl Tryd.ntmps14 rfl (fun E => ?_)
    refine A_seq ?_; refine A_region ?_; refine M1 (q_boxN rfl rfl rfl rfl) rfl rfl ?_; refine M0 (q_assignC rfl rfl rfl) rfl rfl ?_; refine L_nil ?_; refine T_n ?_; refine A_seq ?_
    refine A_region ?_; refine M1 (q_bslice0 rfl rfl rfl) rfl rfl ?_; refine M0 (q_assignC rfl rfl rfl) rfl rfl ?_; refine L_nil ?_; refine T_n ?_; refine A_seq ?_; refine A_seq ?_
    refine A_region ?_; refine M0 (q_ldN rfl rfl rfl rfl rfl rfl) rfl rfl ?_; refine M0 (q_call0 rfl rfl (hc) rfl) rfl rfl ?_; refine M0 (q_not rfl rfl rfl) rfl rfl ?_; refine L_nil ?_
    refine T_n ?_; refine A_ifT rfl ?_; refine A_seq ?_; refine A_region ?_; refine M0 (q_moveC rfl rfl rfl) rfl rfl ?_; refine M0 (q_assignC rfl rfl rfl) rfl rfl ?_; refine L_nil ?_; refine T_n ?_
    refine A_ret ?_; refine T_r ?_; refine F_r ?_
    exact E_tmp rfl rfl (W_end [1] (by decide) rfl rfl rfl)
  | true =>
    rw [ho] at hc
    rw [show partsOf x = partsTo x.Scores.length x.Bodies.length by rw [partsOf, ho]; exact if_pos rfl]
    obtain ⟨_, _, _, hn, _, hb, _⟩ := worldOk_spec ho
    have hls := els_len x.Scores
    have hlb := els_len x.Bodies
    refine Con.of Tryd.func14 rfl Tryd.ntmps14 rfl (fun E => ?_)
    refine A_seq ?_; refine A_region ?_; refine M1 (q_boxN rfl rfl rfl rfl) rfl rfl ?_; refine M0 (q_assignC rfl rfl rfl) rfl rfl ?_; refine L_nil ?_; refine T_n ?_; refine A_seq ?_
    refine A_region ?_; refine M1 (q_bslice0 rfl rfl rfl) rfl rfl ?_; refine M0 (q_assignC rfl rfl rfl) rfl rfl ?_; refine L_nil ?_; refine T_n ?_; refine A_seq ?_; refine A_seq ?_
    refine A_region ?_; refine M0 (q_ldN rfl rfl rfl rfl rfl rfl) rfl rfl ?_; refine M0 (q_call0 rfl rfl (hc) rfl) rfl rfl ?_; refine M0 (q_not rfl rfl rfl) rfl rfl ?_; refine L_nil ?_
    refine T_n ?_; refine A_ifF rfl ?_; refine A_skip ?_; refine T_n ?_; refine A_seq ?_; refine A_region ?_; refine M0 (q_moveC rfl rfl rfl) rfl rfl ?_
    refine M1 (q_bslice rfl rfl rfl rfl rfl rfl) rfl rfl ?_; refine M_appsb rfl rfl rfl rfl rfl rfl rfl rfl rfl rfl (by decide) (by decide) ?_; refine M0 (q_assignC rfl rfl rfl) rfl rfl ?_
    refine L_nil ?_; refine T_n ?_; refine A_seq ?_; refine A_seq ?_; refine A_region ?_; refine M0 (q_assignC rfl rfl rfl) rfl rfl ?_; refine L_nil ?_; refine T_n ?_; refine A_block ?_
    refine A_loop (fun m st => ∃ k : Nat, k + m = x.Scores.length ∧ (True) ∧ st = (fun k : Nat => (⟨_, [(1, .o (.c (.ptr 0 0))), (3, .o (.c (.ref 1))), (4, I k)], [.box ((Enc.e x).map (V1.rd [])), .row 1 (els (partsTo k 0))]⟩ : St)) k) (x.Scores.length) ⟨(fun k : Nat => (⟨_, [(1, .o (.c (.ptr 0 0))), (3, .o (.c (.ref 1))), (4, I k)], [.box ((Enc.e x).map (V1.rd [])), .row 1 (els (partsTo k 0))]⟩ : St)) 0, W_go [0, 1] (by decide) rfl (rfl) (.cons rfl (.cons rfl (.cons rfl (.nil)))), 0, by omega, trivial, rfl⟩ ?_
    rintro m_A _ ⟨k, hk_A, hp_A, rfl⟩
    have hpl := partsTo_len k 0
    have hle := els_len (partsTo k 0)
    refine A_seq ?_; refine A_seq ?_; refine A_region ?_; refine M0 (q_moveC rfl rfl rfl) rfl rfl ?_; refine M0 (q_fldp rfl rfl rfl rfl (by decide)) rfl rfl ?_
    refine M0 (q_ld1 rfl rfl rfl rfl rfl) rfl rfl ?_; refine M0 (q_len rfl rfl rfl) rfl rfl ?_; refine M0 (q_lss rfl rfl rfl rfl) rfl rfl ?_; refine L_nil ?_; refine T_n ?_
    refine A_cond rfl (fun h => ?_) (fun h => ?_)
    · have h3 : k < x.Scores.length := by have := of_decide_eq_true h; omega
      have hf := S_FormatInt k (by omega)
      have hfs := fmtN_size k
      refine A_skip ?_; refine T_n ?_; refine A_seq ?_; refine A_block ?_; refine A_region ?_; refine M0 (q_moveC rfl rfl rfl) rfl rfl ?_; refine M0 (q_moveC rfl rfl rfl) rfl rfl ?_
      refine M0 (q_call0 rfl rfl (hf) rfl) rfl rfl ?_
      refine M0 (q_cat rfl rfl rfl rfl (by simp only [bs_size, cat_size, List.length_cons, List.length_nil, List.length_append]; omega)) rfl rfl ?_
      refine M1 (q_bslice rfl rfl rfl rfl rfl rfl) rfl rfl ?_; refine M_appsb rfl rfl rfl rfl rfl rfl rfl rfl rfl rfl (by omega) (by omega) ?_; refine M0 (q_assignC rfl rfl rfl) rfl rfl ?_
      refine L_nil ?_; refine B_n ?_; refine T_n ?_; refine A_region ?_; refine M0 (q_moveC rfl rfl rfl) rfl rfl ?_; refine M0 (q_add rfl rfl rfl rfl (by omega)) rfl rfl ?_
      refine M0 (q_assignC rfl rfl rfl) rfl rfl ?_; refine L_nil ?_; refine T_n ?_
      exact ⟨x.Scores.length - (k + 1), by omega, (fun k : Nat => (⟨_, [(1, .o (.c (.ptr 0 0))), (3, .o (.c (.ref 1))), (4, I k)], [.box ((Enc.e x).map (V1.rd [])), .row 1 (els (partsTo k 0))]⟩ : St)) (k + 1), W_go [0, 1] (by decide) rfl (row2p (parts_next (partsTo_n k))) (.cons rfl (.cons rfl (.cons rfl (.nil)))), k + 1, by omega, trivial, rfl⟩
    · have h3 : ¬ k < x.Scores.length := by have := of_decide_eq_false h; omega
      have hk : k = x.Scores.length := by omega
      rw [hk]
      refine A_exit ?_; refine T_x ?_; refine T_x ?_; refine B_xs ?_; refine T_n ?_; refine A_seq ?_; refine A_seq ?_; refine A_region ?_; refine M0 (q_assignC rfl rfl rfl) rfl rfl ?_; refine L_nil ?_
      refine T_n ?_; refine A_block ?_
      refine A_loop (fun m st => ∃ j : Nat, j + m = x.Bodies.length ∧ (True) ∧ st = (fun j : Nat => (⟨_, [(1, .o (.c (.ptr 0 0))), (3, .o (.c (.ref 1))), (5, I j)], [.box ((Enc.e x).map (V1.rd [])), .row 1 (els (partsTo x.Scores.length j))]⟩ : St)) j) (x.Bodies.length) ⟨(fun j : Nat => (⟨_, [(1, .o (.c (.ptr 0 0))), (3, .o (.c (.ref 1))), (5, I j)], [.box ((Enc.e x).map (V1.rd [])), .row 1 (els (partsTo x.Scores.length j))]⟩ : St)) 0, W_go [0, 1] (by decide) rfl (rfl) (.cons rfl (.cons rfl (.cons rfl (.nil)))), 0, by omega, trivial, rfl⟩ ?_
      rintro m_B _ ⟨j, hk_B, hp_B, rfl⟩
      have hpl2 := partsTo_len x.Scores.length j
      have hle2 := els_len (partsTo x.Scores.length j)
      refine A_seq ?_; refine A_seq ?_; refine A_region ?_; refine M0 (q_moveC rfl rfl rfl) rfl rfl ?_; refine M0 (q_fldp rfl rfl rfl rfl (by decide)) rfl rfl ?_
      refine M0 (q_ld1 rfl rfl rfl rfl rfl) rfl rfl ?_; refine M0 (q_len rfl rfl rfl) rfl rfl ?_; refine M0 (q_lss rfl rfl rfl rfl) rfl rfl ?_; refine L_nil ?_; refine T_n ?_
      refine A_cond rfl (fun h => ?_) (fun h => ?_)
      · have h3 : j < x.Bodies.length := by have := of_decide_eq_true h; omega
        have hf := S_FormatInt j (by omega)
        have hfs := fmtN_size j
        refine A_skip ?_; refine T_n ?_; refine A_seq ?_; refine A_block ?_; refine A_region ?_; refine M0 (q_moveC rfl rfl rfl) rfl rfl ?_; refine M0 (q_moveC rfl rfl rfl) rfl rfl ?_
        refine M0 (q_call0 rfl rfl (hf) rfl) rfl rfl ?_
        refine M0 (q_cat rfl rfl rfl rfl (by simp only [bs_size, cat_size, List.length_cons, List.length_nil, List.length_append]; omega)) rfl rfl ?_
        refine M1 (q_bslice rfl rfl rfl rfl rfl rfl) rfl rfl ?_; refine M_appsb rfl rfl rfl rfl rfl rfl rfl rfl rfl rfl (by omega) (by omega) ?_; refine M0 (q_assignC rfl rfl rfl) rfl rfl ?_
        refine L_nil ?_; refine B_n ?_; refine T_n ?_; refine A_region ?_; refine M0 (q_moveC rfl rfl rfl) rfl rfl ?_; refine M0 (q_add rfl rfl rfl rfl (by omega)) rfl rfl ?_
        refine M0 (q_assignC rfl rfl rfl) rfl rfl ?_; refine L_nil ?_; refine T_n ?_
        exact ⟨x.Bodies.length - (j + 1), by omega, (fun j : Nat => (⟨_, [(1, .o (.c (.ptr 0 0))), (3, .o (.c (.ref 1))), (5, I j)], [.box ((Enc.e x).map (V1.rd [])), .row 1 (els (partsTo x.Scores.length j))]⟩ : St)) (j + 1), W_go [0, 1] (by decide) rfl (row2p (parts_next (partsTo_m x.Scores.length j))) (.cons rfl (.cons rfl (.cons rfl (.nil)))), j + 1, by omega, trivial, rfl⟩
      · have h3 : ¬ j < x.Bodies.length := by have := of_decide_eq_false h; omega
        have hm : j = x.Bodies.length := by omega
        rw [hm]
        refine A_exit ?_; refine T_x ?_; refine T_x ?_; refine B_xs ?_; refine T_n ?_; refine A_seq ?_; refine A_region ?_; refine M0 (q_moveC rfl rfl rfl) rfl rfl ?_
        refine M0 (q_assignC rfl rfl rfl) rfl rfl ?_; refine L_nil ?_; refine T_n ?_; refine A_ret ?_; refine F_r ?_
        exact E_tmp rfl rfl (W_end [1] (by decide) rfl rfl rfl)
end Go.Proofs.YtkfnaniegldfaaaDoor
end

section
set_option linter.unusedSimpArgs false
set_option linter.unusedVariables false
set_option maxRecDepth 8000
namespace Go.Proofs.YtkfnaniegldfaaaDoor
open Go.RowKit

end Go.Proofs.YtkfnaniegldfaaaDoor
end

section
set_option linter.unusedSimpArgs false
set_option linter.unusedVariables false
set_option maxRecDepth 8000
namespace Go.Proofs.YtkfnaniegldfaaaDoor
open Go.RowKit

theorem W_pre {st st' : St} {f : List (Nat × V) → St} (h : Wk st st') (k : ∃ l, Wk st' (f l)) : ∃ l, Wk st (f l) := k.imp fun _ hl => h.trans hl
def bodyInts (b : TBody) : List Int := [b.Kind, b.Owner, b.X, b.Y, b.VX, b.VY, b.Aim, b.Life, b.Timer]
theorem flat_gd {bs : List TBody} (hg : ∀ b ∈ bs, Enc.gd b) : ∀ x ∈ bs.flatMap bodyInts, I64 x := fun x hx => by
  obtain ⟨b, hb, hx⟩ := List.mem_flatMap.1 hx
  obtain ⟨b1, b2, b3, b4, b5, b6, b7, b8, b9⟩ := hg b hb
  simp only [bodyInts, List.mem_cons, List.not_mem_nil, or_false] at hx
  rcases hx with rfl | rfl | rfl | rfl | rfl | rfl | rfl | rfl | rfl <;> assumption
end Go.Proofs.YtkfnaniegldfaaaDoor
end

section
set_option linter.unusedSimpArgs false
set_option linter.unusedVariables false
set_option maxRecDepth 8000
namespace Go.Proofs.YtkfnaniegldfaaaDoor
open Go.RowKit

def zB : TBody := ⟨0, 0, 0, 0, 0, 0, 0, 0, 0⟩
def partAt (x : TWorld) (k : Nat) : List Int := if k = 0 then [x.Seed] else if k ≤ x.Scores.length then [x.Scores.getD (k - 1) 0] else bodyInts (x.Bodies.getD (k - 1 - x.Scores.length) zB)
noncomputable def partInts (x : TWorld) (s : ByteArray) : List Int := match (partsOf x).findIdx? (fun t => decide (t = s)) with
  | none => []
  | some k => partAt x k
theorem part_none {x : TWorld} {s : ByteArray} {k : Nat} (hk : (partsOf x).length ≤ k) (h : ∀ j (hj : j < (partsOf x).length), j < k → (partsOf x)[j] ≠ s) : partInts x s = [] := by
  have h1 : (partsOf x).findIdx? (fun t => decide (t = s)) = none := by
    rw [List.findIdx?_eq_none_iff]
    intro t ht
    obtain ⟨j, hj, rfl⟩ := List.getElem_of_mem ht
    exact decide_eq_false (h j hj (by omega))
  rw [partInts, h1]
theorem part_hit {x : TWorld} {s : ByteArray} {k : Nat} (hk : k < (partsOf x).length) (h : ∀ j (hj : j < (partsOf x).length), j < k → (partsOf x)[j] ≠ s) (he : (partsOf x)[k] = s) : partInts x s = partAt x k := by
  have h1 : (partsOf x).findIdx? (fun t => decide (t = s)) = some k := by
    rw [List.findIdx?_eq_some_iff_getElem]
    exact ⟨hk, decide_eq_true he, fun j hj => by simpa using h j (by omega) hj⟩
  rw [partInts, h1]
theorem part_next {y : List ByteArray} {s : ByteArray} {k : Nat} (hk : k < y.length) (h : ∀ j (hj : j < y.length), j < k → y[j] ≠ s) (he : ¬ y[k] = s) : ∀ j (hj : j < y.length), j < k + 1 → y[j] ≠ s := fun j hj hl => by
  by_cases e : j = k
  · subst e; exact he
  · exact h j hj (by omega)
theorem parts_at {x : TWorld} {k : Nat} (hk : k < (partsOf x).length) : worldOk x = true ∧ k < 1 + x.Scores.length + x.Bodies.length := by
  unfold partsOf at hk
  split at hk
  · rename_i h
    exact ⟨h, by rwa [partsTo_len] at hk⟩
  · simp at hk
theorem parts_29 (x : TWorld) : (partsOf x).length ≤ 29 := by
  unfold partsOf
  split
  · rename_i h
    obtain ⟨_, _, _, hn, _, hb, _⟩ := worldOk_spec h
    rw [partsTo_len]; omega
  · simp
theorem at_int {α : Type} [Enc α] {xs : List α} {i : Int} {k : Nat} (e : i = k) (h : k < xs.length) : (els xs)[i.toNat]? = some (Enc.e xs[k]) := by
  subst e; exact els_at h
theorem partAt_0 (x : TWorld) : partAt x 0 = [x.Seed] := if_pos rfl
theorem partAt_s {x : TWorld} {k : Nat} (h0 : k ≠ 0) (h : k - 1 < x.Scores.length) : partAt x k = [x.Scores[k - 1]] := by
  rw [partAt, if_neg h0, if_pos (by omega), List.getD_eq_getElem?_getD, List.getElem?_eq_getElem h]; rfl
theorem partAt_b {x : TWorld} {k : Nat} (h0 : k ≠ 0) (h1 : ¬ k ≤ x.Scores.length) (h : k - 1 - x.Scores.length < x.Bodies.length) : partAt x k = bodyInts x.Bodies[k - 1 - x.Scores.length] := by
  rw [partAt, if_neg h0, if_neg h1, List.getD_eq_getElem?_getD, List.getElem?_eq_getElem h]; rfl
theorem body_gd {b : TBody} (h : Enc.gd b) : Enc.gd (bodyInts b) := ⟨by show (9 : Nat) ≤ _; decide, fun x hx => by
  have := flat_gd (bs := [b]) (fun c hc => by simp at hc; subst hc; exact h) x (by simpa using hx)
  exact this⟩
set_option maxHeartbeats 8000000 in
theorem S_l06Body (b : TBody) : Con Tryd.prog 89 [] [ag b] [.row 1 (els (bodyInts b))] (.o (.c (.ref 0))) := by
  refine Con.of Tryd.func89 rfl Tryd.ntmps89 rfl (fun E => ?_)
  refine A_seq ?_; refine A_region ?_; refine M1 (q_boxN rfl rfl rfl rfl) rfl rfl ?_; refine M0 (q_assignC rfl rfl rfl) rfl rfl ?_; refine L_nil ?_; refine T_n ?_; refine A_seq ?_
  refine A_region ?_; refine M0 (q_fldp rfl rfl rfl rfl (by decide)) rfl rfl ?_; refine M0 (q_ld1 rfl rfl rfl rfl rfl) rfl rfl ?_; refine M0 (q_fldp rfl rfl rfl rfl (by decide)) rfl rfl ?_
  refine M0 (q_ld1 rfl rfl rfl rfl rfl) rfl rfl ?_; refine M0 (q_fldp rfl rfl rfl rfl (by decide)) rfl rfl ?_; refine M0 (q_ld1 rfl rfl rfl rfl rfl) rfl rfl ?_
  refine M0 (q_fldp rfl rfl rfl rfl (by decide)) rfl rfl ?_; refine M0 (q_ld1 rfl rfl rfl rfl rfl) rfl rfl ?_; refine M0 (q_fldp rfl rfl rfl rfl (by decide)) rfl rfl ?_
  refine M0 (q_ld1 rfl rfl rfl rfl rfl) rfl rfl ?_; refine M0 (q_fldp rfl rfl rfl rfl (by decide)) rfl rfl ?_; refine M0 (q_ld1 rfl rfl rfl rfl rfl) rfl rfl ?_
  refine M0 (q_fldp rfl rfl rfl rfl (by decide)) rfl rfl ?_; refine M0 (q_ld1 rfl rfl rfl rfl rfl) rfl rfl ?_; refine M0 (q_fldp rfl rfl rfl rfl (by decide)) rfl rfl ?_
  refine M0 (q_ld1 rfl rfl rfl rfl rfl) rfl rfl ?_; refine M0 (q_fldp rfl rfl rfl rfl (by decide)) rfl rfl ?_; refine M0 (q_ld1 rfl rfl rfl rfl rfl) rfl rfl ?_
  refine M1 (q_bslice rfl rfl rfl rfl rfl rfl) rfl rfl ?_; refine M0 (q_assignC rfl rfl rfl) rfl rfl ?_; refine L_nil ?_; refine T_n ?_; refine A_ret ?_; refine F_r ?_
  exact E_tmp rfl rfl (W_pre (Wk.sbrow (q := 1) rfl rfl (Nat.le_of_ble_eq_true rfl)) (W_end [1] (by decide) rfl rfl rfl))
set_option maxHeartbeats 8000000 in
theorem S_l06Part (x : TWorld) (s : ByteArray) (hg : Enc.gd x) : Con Tryd.prog 52 [] [ag x, astr s] [.row 1 (els (partInts x s))] (.o (.c (.ref 0))) := by
  have hp := S_PartsOf x hg
  have hly := els_len (partsOf x)
  have hpl := parts_29 x
  have hls := els_len x.Scores
  have hlb := els_len x.Bodies
  refine Con.of Tryd.func52 rfl Tryd.ntmps52 rfl (fun E => ?_)
  refine A_seq ?_; refine A_region ?_; refine M1 (q_boxN rfl rfl rfl rfl) rfl rfl ?_; refine M0 (q_assignC rfl rfl rfl) rfl rfl ?_; refine L_nil ?_; refine T_n ?_; refine A_seq ?_
  refine A_region ?_; refine M0 (q_ldN rfl rfl rfl rfl rfl rfl) rfl rfl ?_; refine M1 (q_call rfl rfl (hp) rfl rfl rfl) rfl rfl ?_; refine M0 (q_assignC rfl rfl rfl) rfl rfl ?_
  refine L_nil ?_; refine T_n ?_; refine A_seq ?_; refine A_seq ?_; refine A_region ?_; refine M0 (q_assignC rfl rfl rfl) rfl rfl ?_; refine L_nil ?_; refine T_n ?_; refine A_block ?_
  refine A_loop (fun m st => ∃ k : Nat, k + m = (partsOf x).length ∧ ((∀ j (hj : j < (partsOf x).length), j < k → (partsOf x)[j] ≠ s)) ∧ st = (fun k : Nat => (⟨_, [(1, S s), (2, .o (.c (.ptr 0 0))), (5, .o (.c (.ref 1))), (6, I k)], [.box ((Enc.e x).map (V1.rd [])), .row 1 (els (partsOf x))]⟩ : St)) k) ((partsOf x).length) ⟨(fun k : Nat => (⟨_, [(1, S s), (2, .o (.c (.ptr 0 0))), (5, .o (.c (.ref 1))), (6, I k)], [.box ((Enc.e x).map (V1.rd [])), .row 1 (els (partsOf x))]⟩ : St)) 0, W_go [0, 1] (by decide) rfl (rfl) (.cons rfl (.cons rfl (.cons rfl (.cons rfl (.nil))))), 0, by omega, fun j hj h => absurd h (Nat.not_lt_zero _), rfl⟩ ?_
  rintro m_A _ ⟨k, hk_A, hp_A, rfl⟩
  refine A_seq ?_; refine A_seq ?_; refine A_region ?_; refine M0 (q_moveC rfl rfl rfl) rfl rfl ?_; refine M0 (q_moveC rfl rfl rfl) rfl rfl ?_; refine M0 (q_lenr rfl rfl rfl rfl) rfl rfl ?_
  refine M0 (q_lss rfl rfl rfl rfl) rfl rfl ?_; refine L_nil ?_; refine T_n ?_
  refine A_cond rfl (fun h => ?_) (fun h => ?_)
  · have h3 : k < (partsOf x).length := by have := of_decide_eq_true h; omega
    have hat := els_at h3
    by_cases he : (partsOf x)[k] = s
    · have hb : decide ((partsOf x)[k] ≠ s) = false := decide_eq_false (fun h => h he)
      rw [part_hit h3 hp_A he]
      obtain ⟨hok, hkl⟩ := parts_at h3
      by_cases k0 : k = 0
      · have hb0 : decide ((k : Int) = 0) = true := decide_eq_true (by omega)
        subst k0
        rw [partAt_0]
        refine A_skip ?_; refine T_n ?_; refine A_seq ?_; refine A_block ?_; refine A_seq ?_; refine A_seq ?_; refine A_region ?_; refine M0 (q_moveC rfl rfl rfl) rfl rfl ?_
        refine M0 (q_moveC rfl rfl rfl) rfl rfl ?_; refine M0 (q_ar rfl rfl rfl rfl rfl (by omega) (by omega)) rfl rfl ?_; refine M0 (q_le1 rfl rfl rfl rfl (by assumption) rfl) rfl rfl ?_
        refine M0 (q_moveC rfl rfl rfl) rfl rfl ?_; refine M0 (q_sneqK rfl rfl rfl rfl (by assumption)) rfl rfl ?_; refine L_nil ?_; refine T_n ?_; refine A_ifF rfl ?_; refine A_skip ?_; refine T_n ?_
        refine A_seq ?_; refine A_region ?_; refine M0 (q_fldp rfl rfl rfl rfl (by decide)) rfl rfl ?_; refine M0 (q_ld1 rfl rfl rfl rfl rfl) rfl rfl ?_; refine M0 (q_len rfl rfl rfl) rfl rfl ?_
        refine M0 (q_assignC rfl rfl rfl) rfl rfl ?_; refine L_nil ?_; refine T_n ?_; refine A_seq ?_; refine A_block ?_; refine A_seq ?_; refine A_region ?_; refine M0 (q_moveC rfl rfl rfl) rfl rfl ?_
        refine M0 (q_eqlK rfl rfl rfl rfl (by assumption)) rfl rfl ?_; refine M0 (q_assignC rfl rfl rfl) rfl rfl ?_; refine L_nil ?_; refine T_n ?_; refine A_ifT rfl ?_; refine A_seq ?_
        refine A_region ?_; refine M0 (q_fldp rfl rfl rfl rfl (by decide)) rfl rfl ?_; refine M0 (q_ld1 rfl rfl rfl rfl rfl) rfl rfl ?_; refine M1 (q_bslice rfl rfl rfl rfl rfl rfl) rfl rfl ?_
        refine M0 (q_assignC rfl rfl rfl) rfl rfl ?_; refine L_nil ?_; refine T_n ?_; refine A_ret ?_; refine B_r ?_; refine T_r ?_; refine B_r ?_; refine T_r ?_; refine T_r ?_; refine B_r ?_; refine T_r ?_
        refine F_r ?_
        exact E_tmp rfl rfl (W_pre (Wk.sbrow (q := 2) rfl rfl (Nat.le_of_ble_eq_true rfl)) (W_end [2] (by decide) rfl rfl rfl))
      · have hb0 : decide ((k : Int) = 0) = false := decide_eq_false (by omega)
        by_cases k1 : k ≤ x.Scores.length
        · have hb1 : decide ((k : Int) ≤ (els x.Scores).length) = true := decide_eq_true (by omega)
          have hat2 := at_int (xs := x.Scores) (i := (k : Int) - 1) (k := k - 1) (by omega) (by omega)
          rw [partAt_s k0 (by omega)]
          refine A_skip ?_; refine T_n ?_; refine A_seq ?_; refine A_block ?_; refine A_seq ?_; refine A_seq ?_; refine A_region ?_; refine M0 (q_moveC rfl rfl rfl) rfl rfl ?_
          refine M0 (q_moveC rfl rfl rfl) rfl rfl ?_; refine M0 (q_ar rfl rfl rfl rfl rfl (by omega) (by omega)) rfl rfl ?_; refine M0 (q_le1 rfl rfl rfl rfl (by assumption) rfl) rfl rfl ?_
          refine M0 (q_moveC rfl rfl rfl) rfl rfl ?_; refine M0 (q_sneqK rfl rfl rfl rfl (by assumption)) rfl rfl ?_; refine L_nil ?_; refine T_n ?_; refine A_ifF rfl ?_; refine A_skip ?_; refine T_n ?_
          refine A_seq ?_; refine A_region ?_; refine M0 (q_fldp rfl rfl rfl rfl (by decide)) rfl rfl ?_; refine M0 (q_ld1 rfl rfl rfl rfl rfl) rfl rfl ?_; refine M0 (q_len rfl rfl rfl) rfl rfl ?_
          refine M0 (q_assignC rfl rfl rfl) rfl rfl ?_; refine L_nil ?_; refine T_n ?_; refine A_seq ?_; refine A_block ?_; refine A_seq ?_; refine A_region ?_; refine M0 (q_moveC rfl rfl rfl) rfl rfl ?_
          refine M0 (q_eqlK rfl rfl rfl rfl (by assumption)) rfl rfl ?_; refine M0 (q_assignC rfl rfl rfl) rfl rfl ?_; refine L_nil ?_; refine T_n ?_; refine A_ifF rfl ?_; refine A_seq ?_
          refine A_region ?_; refine M0 (q_moveC rfl rfl rfl) rfl rfl ?_; refine M0 (q_moveC rfl rfl rfl) rfl rfl ?_; refine M0 (q_leqK rfl rfl rfl rfl (by assumption)) rfl rfl ?_
          refine M0 (q_assignC rfl rfl rfl) rfl rfl ?_; refine L_nil ?_; refine T_n ?_; refine A_ifT rfl ?_; refine A_seq ?_; refine A_region ?_
          refine M0 (q_fldp rfl rfl rfl rfl (by decide)) rfl rfl ?_; refine M0 (q_ld1 rfl rfl rfl rfl rfl) rfl rfl ?_; refine M0 (q_moveC rfl rfl rfl) rfl rfl ?_
          refine M0 (q_sub rfl rfl rfl rfl (by omega)) rfl rfl ?_; refine M0 (q_at rfl rfl rfl rfl (by omega) (by assumption) rfl) rfl rfl ?_; refine M0 (q_lr1 rfl rfl rfl rfl) rfl rfl ?_
          refine M1 (q_bslice rfl rfl rfl rfl rfl rfl) rfl rfl ?_; refine M0 (q_assignC rfl rfl rfl) rfl rfl ?_; refine L_nil ?_; refine T_n ?_; refine A_ret ?_; refine B_r ?_; refine T_r ?_
          refine B_r ?_; refine T_r ?_; refine T_r ?_; refine B_r ?_; refine T_r ?_; refine F_r ?_
          exact E_tmp rfl rfl (W_pre (Wk.sbrow (q := 2) rfl rfl (Nat.le_of_ble_eq_true rfl)) (W_end [2] (by decide) rfl rfl rfl))
        · have hb1 : decide ((k : Int) ≤ (els x.Scores).length) = false := decide_eq_false (by omega)
          have hjb : k - 1 - x.Scores.length < x.Bodies.length := by omega
          have hat2 := at_int (xs := x.Bodies) (i := (k : Int) - 1 - (els x.Scores).length) (k := k - 1 - x.Scores.length) (by omega) hjb
          rw [partAt_b k0 k1 hjb]
          generalize x.Bodies[k - 1 - x.Scores.length] = b at hat2
          have hc1 := S_l06Body b
          refine A_skip ?_; refine T_n ?_; refine A_seq ?_; refine A_block ?_; refine A_seq ?_; refine A_seq ?_; refine A_region ?_; refine M0 (q_moveC rfl rfl rfl) rfl rfl ?_
          refine M0 (q_moveC rfl rfl rfl) rfl rfl ?_; refine M0 (q_ar rfl rfl rfl rfl rfl (by omega) (by omega)) rfl rfl ?_; refine M0 (q_le1 rfl rfl rfl rfl (by assumption) rfl) rfl rfl ?_
          refine M0 (q_moveC rfl rfl rfl) rfl rfl ?_; refine M0 (q_sneqK rfl rfl rfl rfl (by assumption)) rfl rfl ?_; refine L_nil ?_; refine T_n ?_; refine A_ifF rfl ?_; refine A_skip ?_; refine T_n ?_
          refine A_seq ?_; refine A_region ?_; refine M0 (q_fldp rfl rfl rfl rfl (by decide)) rfl rfl ?_; refine M0 (q_ld1 rfl rfl rfl rfl rfl) rfl rfl ?_; refine M0 (q_len rfl rfl rfl) rfl rfl ?_
          refine M0 (q_assignC rfl rfl rfl) rfl rfl ?_; refine L_nil ?_; refine T_n ?_; refine A_seq ?_; refine A_block ?_; refine A_seq ?_; refine A_region ?_; refine M0 (q_moveC rfl rfl rfl) rfl rfl ?_
          refine M0 (q_eqlK rfl rfl rfl rfl (by assumption)) rfl rfl ?_; refine M0 (q_assignC rfl rfl rfl) rfl rfl ?_; refine L_nil ?_; refine T_n ?_; refine A_ifF rfl ?_; refine A_seq ?_
          refine A_region ?_; refine M0 (q_moveC rfl rfl rfl) rfl rfl ?_; refine M0 (q_moveC rfl rfl rfl) rfl rfl ?_; refine M0 (q_leqK rfl rfl rfl rfl (by assumption)) rfl rfl ?_
          refine M0 (q_assignC rfl rfl rfl) rfl rfl ?_; refine L_nil ?_; refine T_n ?_; refine A_ifF rfl ?_; refine A_skip ?_; refine B_n ?_; refine T_n ?_; refine A_seq ?_; refine A_region ?_
          refine M0 (q_fldp rfl rfl rfl rfl (by decide)) rfl rfl ?_; refine M0 (q_ld1 rfl rfl rfl rfl rfl) rfl rfl ?_; refine M0 (q_moveC rfl rfl rfl) rfl rfl ?_
          refine M0 (q_sub rfl rfl rfl rfl (by omega)) rfl rfl ?_; refine M0 (q_moveC rfl rfl rfl) rfl rfl ?_; refine M0 (q_sub rfl rfl rfl rfl (by omega)) rfl rfl ?_
          refine M0 (q_at rfl rfl rfl rfl (by omega) (by assumption) rfl) rfl rfl ?_; refine M0 (q_lrN rfl rfl rfl rfl rfl) rfl rfl ?_; refine M1 (q_call rfl rfl (hc1) rfl rfl rfl) rfl rfl ?_
          refine M0 (q_assignC rfl rfl rfl) rfl rfl ?_; refine L_nil ?_; refine T_n ?_; refine A_ret ?_; refine B_r ?_; refine T_r ?_; refine T_r ?_; refine B_r ?_; refine T_r ?_; refine F_r ?_
          exact E_tmp rfl rfl (W_end [2] (by decide) rfl rfl rfl)
    · have hb : decide ((partsOf x)[k] ≠ s) = true := decide_eq_true he
      refine A_skip ?_; refine T_n ?_; refine A_seq ?_; refine A_block ?_; refine A_seq ?_; refine A_seq ?_; refine A_region ?_; refine M0 (q_moveC rfl rfl rfl) rfl rfl ?_
      refine M0 (q_moveC rfl rfl rfl) rfl rfl ?_; refine M0 (q_ar rfl rfl rfl rfl rfl (by omega) (by omega)) rfl rfl ?_; refine M0 (q_le1 rfl rfl rfl rfl (by assumption) rfl) rfl rfl ?_
      refine M0 (q_moveC rfl rfl rfl) rfl rfl ?_; refine M0 (q_sneqK rfl rfl rfl rfl (by assumption)) rfl rfl ?_; refine L_nil ?_; refine T_n ?_; refine A_ifT rfl ?_; refine A_exit ?_; refine T_x ?_
      refine B_xs ?_; refine T_n ?_; refine A_region ?_; refine M0 (q_moveC rfl rfl rfl) rfl rfl ?_; refine M0 (q_add rfl rfl rfl rfl (by omega)) rfl rfl ?_
      refine M0 (q_assignC rfl rfl rfl) rfl rfl ?_; refine L_nil ?_; refine T_n ?_
      exact ⟨(partsOf x).length - (k + 1), by omega, (fun k : Nat => (⟨_, [(1, S s), (2, .o (.c (.ptr 0 0))), (5, .o (.c (.ref 1))), (6, I k)], [.box ((Enc.e x).map (V1.rd [])), .row 1 (els (partsOf x))]⟩ : St)) (k + 1), W_go [0, 1] (by decide) rfl (rfl) (.cons rfl (.cons rfl (.cons rfl (.cons rfl (.nil))))), k + 1, by omega, part_next h3 hp_A he, rfl⟩
  · have h3 : ¬ ((k : Int) < (els (partsOf x)).length) := of_decide_eq_false h
    rw [part_none (by omega) hp_A]
    refine A_exit ?_; refine T_x ?_; refine T_x ?_; refine B_xs ?_; refine T_n ?_; refine A_seq ?_; refine A_region ?_; refine M0 (q_assignC rfl rfl rfl) rfl rfl ?_; refine L_nil ?_; refine T_n ?_
    refine A_ret ?_; refine F_r ?_
    exact E_tmp rfl rfl (W_fill [1] [2] rfl rfl (by decide) rfl rfl rfl)
end Go.Proofs.YtkfnaniegldfaaaDoor
end

section
set_option linter.unusedSimpArgs false
set_option linter.unusedVariables false
set_option maxRecDepth 8000
namespace Go.Proofs.YtkfnaniegldfaaaDoor
open Go.RowKit

def dSeed (a b : TWorld) : List ByteArray := if a.Seed ≠ b.Seed then [seedB] else []
def scDiff (a b : TWorld) (k : Nat) : Bool := decide (b.Scores.length ≤ k) || decide (a.Scores.getD k 0 ≠ b.Scores.getD k 0)
def boDiff (a b : TWorld) (k : Nat) : Bool := decide (b.Bodies.length ≤ k) || decide (bodyInts (a.Bodies.getD k zB) ≠ bodyInts (b.Bodies.getD k zB))
def dS (a b : TWorld) (n : Nat) : List ByteArray := dSeed a b ++ ((List.range n).filter (scDiff a b)).map scoreN
def dB (a b : TWorld) (m : Nat) : List ByteArray := dS a b a.Scores.length ++ ((List.range m).filter (boDiff a b)).map bodyN
def dC (a b : TWorld) (j : Nat) : List ByteArray := dB a b a.Bodies.length ++ (List.range' a.Scores.length j).map scoreN
def dD (a b : TWorld) (j : Nat) : List ByteArray := dC a b (b.Scores.length - a.Scores.length) ++ (List.range' a.Bodies.length j).map bodyN
noncomputable def differ (a b : TWorld) : List ByteArray := if worldOk a = true ∧ worldOk b = true then dD a b (b.Bodies.length - a.Bodies.length) else []
theorem filt_yes {α : Type} {p : Nat → Bool} {f : Nat → α} {n : Nat} (l : List α) (h : p n = true) : l ++ ((List.range (n + 1)).filter p).map f = (l ++ ((List.range n).filter p).map f) ++ [f n] := by
  rw [List.range_succ, List.filter_append, List.map_append, List.append_assoc]
  simp [h]
theorem filt_no {α : Type} {p : Nat → Bool} {f : Nat → α} {n : Nat} (l : List α) (h : p n = false) : l ++ ((List.range (n + 1)).filter p).map f = l ++ ((List.range n).filter p).map f := by
  rw [List.range_succ, List.filter_append, List.map_append]
  simp [h]
theorem rng_snoc {α : Type} {f : Nat → α} {a j : Nat} (l : List α) : l ++ (List.range' a (j + 1)).map f = (l ++ (List.range' a j).map f) ++ [f (a + j)] := by
  rw [List.range'_1_concat, List.map_append, List.append_assoc]
  rfl
theorem rng_filt (a : Nat) : ∀ n, (List.range n).filter (fun k => decide (a ≤ k)) = List.range' a (n - a)
  | 0 => by simp
  | n + 1 => by
    rw [List.range_succ, List.filter_append, rng_filt a n]
    by_cases h : a ≤ n
    · rw [show n + 1 - a = (n - a) + 1 by omega, List.range'_1_concat]
      simp [h, show a + (n - a) = n by omega]
    · rw [show n + 1 - a = 0 by omega, show n - a = 0 by omega]
      simp [h]
theorem dec_inj {i j : Nat} (hi : i < 100) (hj : j < 100) (h : Lib.decDigits i = Lib.decDigits j) : i = j := by
  have u : ∀ {x y : Nat}, x < 256 → y < 256 → UInt8.ofNat x = UInt8.ofNat y → x = y := fun {x y} hx hy e => by
    have := congrArg UInt8.toNat e
    rwa [UInt8.toNat_ofNat', UInt8.toNat_ofNat', Nat.mod_eq_of_lt hx, Nat.mod_eq_of_lt hy] at this
  by_cases h1 : i < 10
  · rw [Lib.decDigits_one h1] at h
    by_cases h2 : j < 10
    · rw [Lib.decDigits_one h2] at h
      have := u (by omega) (by omega) (List.cons.inj h).1
      omega
    · rw [Lib.decDigits_two h2 hj] at h
      have := congrArg List.length h
      simp at this
  · rw [Lib.decDigits_two h1 hi] at h
    by_cases h2 : j < 10
    · rw [Lib.decDigits_one h2] at h
      have := congrArg List.length h
      simp at this
    · rw [Lib.decDigits_two h2 hj] at h
      have e1 := u (by omega) (by omega) (List.cons.inj h).1
      have e2 := u (by omega) (by omega) (List.cons.inj (List.cons.inj h).2).1
      omega
theorem scoreN_eq (k : Nat) : scoreN k = bs ([115, 99, 111, 114, 101, 32] ++ Lib.decDigits k) := bs_app _ _
theorem bodyN_eq (k : Nat) : bodyN k = bs ([98, 111, 100, 121, 32] ++ Lib.decDigits k) := bs_app _ _
theorem score_inj {i j : Nat} (hi : i < 100) (hj : j < 100) (h : scoreN i = scoreN j) : i = j := by
  rw [scoreN_eq, scoreN_eq, bs_inj] at h
  exact dec_inj hi hj (List.append_cancel_left h)
theorem body_inj {i j : Nat} (hi : i < 100) (hj : j < 100) (h : bodyN i = bodyN j) : i = j := by
  rw [bodyN_eq, bodyN_eq, bs_inj] at h
  exact dec_inj hi hj (List.append_cancel_left h)
theorem score_body (i j : Nat) : scoreN i ≠ bodyN j := fun h => by
  rw [scoreN_eq, bodyN_eq, bs_inj] at h
  exact absurd (List.cons.inj h).1 (by decide)
theorem seed_score (i : Nat) : seedB ≠ scoreN i := fun h => by
  rw [scoreN_eq, seedB, bs_inj] at h
  exact absurd (List.cons.inj (List.cons.inj h).2).1 (by decide)
theorem seed_body (i : Nat) : seedB ≠ bodyN i := fun h => by
  rw [bodyN_eq, seedB, bs_inj] at h
  exact absurd (List.cons.inj h).1 (by decide)
theorem to_0 {n m : Nat} {h : 0 < (partsTo n m).length} : (partsTo n m)[0] = seedB := rfl
theorem to_s {n m k : Nat} (hk : k < n) {h : k + 1 < (partsTo n m).length} : (partsTo n m)[k + 1] = scoreN k := by
  simp only [partsTo]
  rw [List.getElem_append_left (by simp; omega), List.getElem_cons_succ]
  simp
theorem to_b {n m k : Nat} (hk : k < m) {h : k + 1 + n < (partsTo n m).length} : (partsTo n m)[k + 1 + n] = bodyN k := by
  simp only [partsTo]
  rw [List.getElem_append_right (by simp; omega)]
  simp [show k + 1 + n - (n + 1) = k by omega]
section
variable {x : TWorld} (ho : worldOk x = true)
include ho
theorem parts_is : partsOf x = partsTo x.Scores.length x.Bodies.length := by rw [partsOf, ho]; exact if_pos rfl
theorem pI_seed : partInts x seedB = [x.Seed] := by
  have hp := parts_is ho
  have hl := partsTo_len x.Scores.length x.Bodies.length
  rw [← partAt_0 x]
  refine part_hit (k := 0) (by rw [hp]; omega) (fun j hj h => absurd h (Nat.not_lt_zero _)) ?_
  simp only [hp]
  rfl
theorem pI_score (k : Nat) (hk : k < 100) : partInts x (scoreN k) = if k < x.Scores.length then [x.Scores.getD k 0] else [] := by
  have hp := parts_is ho
  have hl := partsTo_len x.Scores.length x.Bodies.length
  obtain ⟨_, _, _, hn, _, hb, _⟩ := worldOk_spec ho
  have hne : ∀ j (hj : j < (partsOf x).length), j ≠ k + 1 ∨ ¬ k < x.Scores.length → (partsOf x)[j] ≠ scoreN k := fun j hj hc => by
    have hj2 : j < (partsTo x.Scores.length x.Bodies.length).length := by rw [← hp]; exact hj
    rw [List.getElem_of_eq hp hj]
    rcases j with _ | j
    · rw [to_0]; exact seed_score k
    · by_cases h1 : j < x.Scores.length
      · rw [to_s h1]
        intro e
        have := score_inj (by omega) hk e
        omega
      · obtain ⟨i, rfl⟩ : ∃ i, j = i + x.Scores.length := ⟨j - x.Scores.length, by omega⟩
        have h2 := to_b (n := x.Scores.length) (m := x.Bodies.length) (k := i) (by omega) (h := by omega)
        have h3 : (partsTo x.Scores.length x.Bodies.length)[i + x.Scores.length + 1] = bodyN i := by
          rw [← h2]; congr 1; omega
        rw [h3]
        exact fun e => score_body k i e.symm
  by_cases h : k < x.Scores.length
  · rw [if_pos h]
    have h2 := part_hit (x := x) (s := scoreN k) (k := k + 1) (by rw [hp]; omega) (fun j hj hjk => hne j hj (by omega)) (by rw [List.getElem_of_eq hp]; exact to_s h)
    rw [h2, partAt, if_neg (by omega), if_pos (by omega)]
    rfl
  · rw [if_neg h]
    exact part_none (k := (partsOf x).length) (Nat.le_refl _) (fun j hj _ => hne j hj (.inr h))
theorem pI_body (k : Nat) (hk : k < 100) : partInts x (bodyN k) = if k < x.Bodies.length then bodyInts (x.Bodies.getD k zB) else [] := by
  have hp := parts_is ho
  have hl := partsTo_len x.Scores.length x.Bodies.length
  obtain ⟨_, _, _, hn, _, hb, _⟩ := worldOk_spec ho
  have hne : ∀ j (hj : j < (partsOf x).length), j ≠ k + 1 + x.Scores.length ∨ ¬ k < x.Bodies.length → (partsOf x)[j] ≠ bodyN k := fun j hj hc => by
    have hj2 : j < (partsTo x.Scores.length x.Bodies.length).length := by rw [← hp]; exact hj
    rw [List.getElem_of_eq hp hj]
    rcases j with _ | j
    · rw [to_0]; exact seed_body k
    · by_cases h1 : j < x.Scores.length
      · rw [to_s h1]; exact score_body j k
      · obtain ⟨i, rfl⟩ : ∃ i, j = i + x.Scores.length := ⟨j - x.Scores.length, by omega⟩
        have h2 := to_b (n := x.Scores.length) (m := x.Bodies.length) (k := i) (by omega) (h := by omega)
        have h3 : (partsTo x.Scores.length x.Bodies.length)[i + x.Scores.length + 1] = bodyN i := by
          rw [← h2]; congr 1; omega
        rw [h3]
        intro e
        have := body_inj (by omega) hk e
        omega
  by_cases h : k < x.Bodies.length
  · rw [if_pos h]
    have h2 := part_hit (x := x) (s := bodyN k) (k := k + 1 + x.Scores.length) (by rw [hp]; omega) (fun j hj hjk => hne j hj (by omega)) (by rw [List.getElem_of_eq hp]; exact to_b h)
    rw [h2, partAt, if_neg (by omega), if_neg (by omega), show k + 1 + x.Scores.length - 1 - x.Scores.length = k by omega]
  · rw [if_neg h]
    exact part_none (k := (partsOf x).length) (Nat.le_refl _) (fun j hj _ => hne j hj (.inr h))
end
noncomputable def fA (a b : TWorld) (s : ByteArray) : Bool := !decide (partInts a s = partInts b s)
noncomputable def fB (a : TWorld) (s : ByteArray) : Bool := decide (partInts a s = [])
theorem filt_map {p : ByteArray → Bool} {q : Nat → Bool} {f : Nat → ByteArray} {n : Nat} (h : ∀ k, k < n → p (f k) = q k) : ((List.range n).map f).filter p = ((List.range n).filter q).map f := by
  rw [List.filter_map]
  congr 1
  exact List.filter_congr fun k hk => h k (List.mem_range.1 hk)
theorem bodyInts_ne (b : TBody) : bodyInts b ≠ [] := by simp [bodyInts]
theorem differ_eq {a b : TWorld} (ha : worldOk a = true) (hb : worldOk b = true) : (partsOf a).filter (fA a b) ++ (partsOf b).filter (fB a) = differ a b := by
  rw [differ, if_pos ⟨ha, hb⟩, parts_is ha, parts_is hb]
  obtain ⟨_, _, _, hn, _, hm, _⟩ := worldOk_spec ha
  obtain ⟨_, _, _, hn2, _, hm2, _⟩ := worldOk_spec hb
  have e1 : (partsTo a.Scores.length a.Bodies.length).filter (fA a b) = dB a b a.Bodies.length := by
    rw [partsTo, List.filter_append, dB, dS]
    congr 1
    · rw [List.filter_cons, filt_map (q := scDiff a b) (fun k hk => ?_)]
      · rw [fA, pI_seed ha, pI_seed hb, dSeed]
        by_cases e : a.Seed = b.Seed <;> simp [e]
      · rw [fA, pI_score ha k (by omega), pI_score hb k (by omega), if_pos hk, scDiff]
        by_cases h : k < b.Scores.length
        · rw [if_pos h, decide_eq_false (by omega : ¬ b.Scores.length ≤ k), Bool.false_or]
          by_cases e : a.Scores.getD k 0 = b.Scores.getD k 0 <;> simp [e]
        · rw [if_neg h, decide_eq_true (by omega : b.Scores.length ≤ k)]
          simp
    · refine filt_map (fun k hk => ?_)
      rw [fA, pI_body ha k (by omega), pI_body hb k (by omega), if_pos hk, boDiff]
      by_cases h : k < b.Bodies.length
      · rw [if_pos h, decide_eq_false (by omega : ¬ b.Bodies.length ≤ k), Bool.false_or]
        by_cases e : bodyInts (a.Bodies.getD k zB) = bodyInts (b.Bodies.getD k zB) <;> simp [e]
      · rw [if_neg h, decide_eq_true (by omega : b.Bodies.length ≤ k)]
        simp [bodyInts_ne]
  have e2 : (partsTo b.Scores.length b.Bodies.length).filter (fB a) = (List.range' a.Scores.length (b.Scores.length - a.Scores.length)).map scoreN ++ (List.range' a.Bodies.length (b.Bodies.length - a.Bodies.length)).map bodyN := by
    rw [partsTo, List.filter_append, List.filter_cons, filt_map (q := fun k => decide (a.Scores.length ≤ k)) (fun k hk => ?_), filt_map (q := fun k => decide (a.Bodies.length ≤ k)) (fun k hk => ?_), rng_filt, rng_filt]
    · rw [fB, pI_seed ha]; simp
    · rw [fB, pI_body ha k (by omega)]
      by_cases h : k < a.Bodies.length
      · rw [if_pos h, decide_eq_false (bodyInts_ne _), decide_eq_false (by omega)]
      · rw [if_neg h, decide_eq_true rfl, decide_eq_true (by omega)]
    · rw [fB, pI_score ha k (by omega)]
      by_cases h : k < a.Scores.length
      · rw [if_pos h, decide_eq_false (by simp), decide_eq_false (by omega)]
      · rw [if_neg h, decide_eq_true rfl, decide_eq_true (by omega)]
  rw [e1, e2, dD, dC, List.append_assoc]
end Go.Proofs.YtkfnaniegldfaaaDoor
end
