/-
  A literal slice becomes an owned slice; comparing a slice with nil. No statement of the program is proved here.
  Conditions: none.
  Numbers as bytes: EncodeVarint, Signless, PackInts, PackText, Checksum, SealText, in the program and in the reference.
  Conditions: lists of at most 2^30 elements.
  WorldBytes, in the program and in the reference.
  Conditions: lists of at most 2^40 elements.
  Numbers read from bytes: DecodeVarint, Signed, UnpackInts, UnpackText, OpenText, in the program and in the reference.
  Conditions: texts of at most 2^40 bytes.
  Lists and texts read from bytes: Signed, UnpackInts, UnpackText, OpenText, in the program and in the reference.
  Conditions: texts of at most 2^40 bytes.
  Runs of inputs as bytes: PackTrack, and the columns of rows, in the program and in the reference.
  Conditions: at most 400 rows of equal length.
  UnpackTrack, in the program and in the reference.
  Conditions: texts of at most 2^40 bytes.
  The players' columns read from bytes: unpackColumns of the program, l07Columns of the reference.
  Conditions: texts of at most 2^40 bytes, at most 4 players and 400 rows.
  Streams of rows as bytes: EncodeStream, in the program and in the reference.
  Conditions: none.
  What the two DecodeStream return is the same. No statement of the program is proved here: plain law.
  Conditions: none.
  What a valid replay is, in the program and in the reference.
  Conditions: none.
  A new replay, in the program and in the reference.
  Conditions: none.
  What ReadWorld returns, as data; Clone of lists.
  Conditions: texts of at most 2^40 bytes, a level of at most 2^20 rows.
  ReadWorld of the program.
  Conditions: texts of at most 2^40 bytes, a level of at most 2^20 rows.
  ReadWorld of the reference.
  Conditions: texts of at most 2^40 bytes, a level of at most 2^20 rows.
  NewSpectator, in the program and in the reference.
  Conditions: texts of at most 2^40 bytes, a level of at most 2^20 rows.
-/
import Derived.Lib.LazyBuf
import Derived.Test.YtkfnaniegldfaaaDDSpectRowk8
import Derived.Test.YtkfnaniegldfaaaDDSpectRowk9
import Derived.Test.YtkfnaniegldfaaaDDSpectRowk10
section
set_option linter.unusedSimpArgs false
set_option linter.unusedVariables false
namespace Go.Proofs.Ytkfnaniegldfaaa
open Go.RowKit

def V1.tosr (q : Nat) : V1 → V1
  | .sb p n k => match Nat.beq p q with
    | true => match k with
      | 1 => .ref q
      | _ => .un
    | false => (V1.sb p n k).kill [q]
  | x => x.kill [q]
/-- A literal slice of plain values is a slice of one's own. -/
theorem Wk.sbrow {st : St} {q : Nat} {cs : List V1} {es : List (List T)} (hq : st.objs[q]? = some (.box cs)) (hs : sbE cs = some es) (hm : cs.length ≤ maxLen) : Wk st ⟨st.n, st.tmps.map fun t => (t.1, t.2.mapk (V1.tosr q)), (st.objs.map (Ob.mapk (V1.tosr q))).set q (.row 1 es)⟩ := by
  intro w H F a h1
  obtain ⟨hel, hes⟩ := sbE_ok cs es hs
  have hb := h1.obs q
  rw [getD_of hq] at hb
  obtain ⟨g, t, vs, e1, e2, e3⟩ := hb
  have hsay := h1.ok.says q
  rw [e1] at hsay
  have hg : w.heap[g]? = some (.cells vs.toArray t (0, 0)) := hsay
  have hqlt := getE_lt hq
  have hplain : ∀ (i : Nat) (e : List T), es[i]? = some e → ∃ u, vs[i]? = some u ∧ e = [.v u] ∧ u.oneCell' = true := fun i e hi => by
    obtain ⟨ps, u, h2, h3⟩ := hes i e hi
    have hil := getE_lt h2
    have hiv : vs[i]? = some (vs[i]'(by omega)) := List.getElem?_eq_getElem (by omega)
    obtain ⟨h4, h5⟩ := e3 i _ _ h2 hiv
    obtain ⟨h6, h7⟩ := RO.plain h4
    exact ⟨u, by rw [hiv, h6], h3, h7⟩
  obtain ⟨f, hf⟩ : ∃ f : Nat → Value, f = fun i => vs.getD i undef := ⟨_, rfl⟩
  have hOW : ∃ fp, OW w (.sl 1 es) (.slice (some ⟨g, 0, none⟩) es.length vs.length) fp ∧ (∀ b ∈ fp, b = g) ∧ fp.Nodup := by
    refine ⟨g :: (List.replicate es.length [([] : List Nat)]).flatten.flatten, OW.sl es g 0 1 vs.length t vs.toArray (0, 0) (fun i _ => vs.getD i undef) (List.replicate es.length [[]]) hg (.inl rfl) (by omega) (by omega) (by simp) (by omega) (fun e he => ?_) (by simp) (fun fs hfs => by rw [List.eq_of_mem_replicate hfs]; rfl) (fun i j hi hj => ?_) (fun i j e tt fs ff k1 k2 k3 k4 => ?_), ?_, ?_⟩
    · obtain ⟨i, hi⟩ := List.getElem?_of_mem he
      obtain ⟨u, _, h3, _⟩ := hplain i e hi
      rw [h3]; rfl
    · have h2 : i < vs.length := by omega
      have h3 : j = 0 := by omega
      subst h3
      simp [List.getD_eq_getElem?_getD, h2]
    · obtain ⟨u, h3, h4, h5⟩ := hplain i e k1
      subst h4
      have hj : j = 0 := by have := getE_lt k2; simp at this; exact this
      subst hj
      simp at k2
      subst k2
      have hfs : fs = [[]] := List.eq_of_mem_replicate (getE_mem k3)
      subst hfs
      simp at k4
      subst k4
      have h6 : vs.getD i undef = u := getD_of h3
      rw [h6]
      exact .v u h5
    · intro b hb
      simpa using hb
    · simp
  obtain ⟨fp, hO, hfp, hnd⟩ := hOW
  have hkeep : Keeps w w [g] := ⟨rfl, rfl, rfl, Nat.le_refl _, fun _ _ _ => rfl⟩
  obtain ⟨hok, htn⟩ := h1.ok.turn (p := q) (fp := [g]) (by rw [e1]; rfl) hkeep (.ow (.sl 1 es) (.slice (some ⟨g, 0, none⟩) es.length vs.length) fp) hO hnd trivial (fun b hb => .inl (by simp [hfp b hb]))
  have hone : ∀ x v, R1 w H F x v → R1 w (H.put q (.ow (.sl 1 es) (.slice (some ⟨g, 0, none⟩) es.length vs.length) fp)) F (V1.tosr q x) v := fun x v hx => by
    cases x with
    | sb p n k =>
      simp only [V1.tosr]
      split
      · rename_i hp
        have hpq := Nat.eq_of_beq_eq_true hp
        subst hpq
        split
        · obtain ⟨g', t', vs', k1, k2, k3, k4⟩ := hx
          rw [e1] at k1
          simp only [Pc.box.injEq] at k1
          obtain ⟨rfl, rfl, rfl⟩ := k1
          have hn : n = es.length := by omega
          have hvn : vs.length = es.length := by omega
          rw [k4, hn]
          exact ⟨.sl 1 es, fp, by rw [Hs.put_self, hvn]⟩
        · trivial
      · exact R1.killed h1.ok htn hx
    | _ => exact R1.killed h1.ok htn hx
  refine ⟨_, h1.mapk (V1.tosr q) hone hok ((st.objs.map (Ob.mapk (V1.tosr q))).set q (.row 1 es)) (fun p => ?_), fun p b hb => ?_, htn.gh⟩
  · by_cases hpq : p = q
    · subst hpq
      rw [getD_of (x := .row 1 es) (by simp [hqlt])]
      exact ⟨_, _, Hs.put_self _ _ _⟩
    · rw [List.getD_eq_getElem?_getD, List.getElem?_set_ne (Ne.symm hpq), List.getElem?_map]
      have h2 := h1.obs p
      rw [List.getD_eq_getElem?_getD] at h2
      have h3 := Hs.put_ne H (.ow (.sl 1 es) (.slice (some ⟨g, 0, none⟩) es.length vs.length) fp) hpq
      cases ho : st.objs[p]? with
      | none => rw [ho] at h2; exact h3.trans h2
      | some ob => rw [ho] at h2; exact RB.mapk hone h3 h2
  · by_cases hpq : p = q
    · subst hpq
      rw [Hs.put_self] at hb
      exact ⟨p, by rw [e1, hfp b hb]; simp [Pc.fp]⟩
    · exact ⟨p, by rw [← Hs.put_ne H _ hpq]; exact hb⟩
section
variable {P : Program} {ops : Array Oper} {o : Oper} {st : St} {n : Nat} {t t' : TypeId} {y z : Operand} {ps qs : List Nat}
/-- Data that is not empty is not nil. -/
theorem q_slnil {kk : Nat} {es : List (List T)} {e : TypeId} {zs : List Value} {by_ : Nat} [hm : TyMake P t e zs by_] (ho : o.op = .binOp .eql t y z t') (hg : o.guard = none) (hy : st.ev y = .o (.c (.rd ps (.sl kk es)))) (hz : st.ev z = .o (.c (.rd qs (.v (.slice none 0 0))))) (hne : 0 < es.length) : Qt P ops o st (B false) [] n :=
  .pure hg fun a w H F hr => ⟨.bool false, by
    have h2 := hr.plain hz
    have h1 : RO w (inP H F ps) (.sl kk es) (a.eval y) := hr.v1 hy
    obtain ⟨b, o', c, hv, _⟩ := RO.at_ h1 (i := 0) (List.getElem?_eq_getElem hne)
    simp [execOp, ho, h2, hv, eqGuard, Lib.run_eql_slice_nil (P := P) (h := hm.slice)], plainV _ rfl⟩
end
end Go.Proofs.Ytkfnaniegldfaaa
end

section
set_option linter.unusedSimpArgs false
set_option linter.unusedVariables false
set_option maxRecDepth 8000
namespace Go.Proofs.Ytkfnaniegldfaaa
open Go.RowKit

def varN (n : Nat) : List UInt8 := if n < 128 then [UInt8.ofNat n] else UInt8.ofNat (n % 128 + 128) :: varN (n / 128)
termination_by n
decreasing_by omega
def encVar (n : Int) : List UInt8 := if 0 ≤ n ∧ n ≤ 1099511627775 then varN n.toNat else []
theorem varN_small {n : Nat} (h : n < 128) : varN n = [UInt8.ofNat n] := by rw [varN, if_pos h]
theorem varN_big {n : Nat} (h : ¬ n < 128) : varN n = UInt8.ofNat (n % 128 + 128) :: varN (n / 128) := by rw [varN, if_neg h]
theorem varN_step {acc : List UInt8} {m : Nat} {l : List UInt8} (h : acc ++ varN m = l) (hm : ¬ m < 128) {x : UInt8} (hx : x = UInt8.ofNat (m % 128 + 128)) : (acc ++ [x]) ++ varN (m / 128) = l := by
  rw [← h, varN_big hm, hx]; simp
theorem varN_end {acc : List UInt8} {m : Nat} {l : List UInt8} (h : acc ++ varN m = l) (hm : m < 128) {x : UInt8} (hx : x = UInt8.ofNat m) : acc ++ [x] = l := by
  rw [← h, varN_small hm, hx]

set_option maxHeartbeats 8000000 in
theorem S_EncodeVarint (n : Int) : Con Try.prog 107 [] [ai n] [] (S (bs (encVar n))) := by
  refine Con.of Try.func107 rfl Try.ntmps107 rfl (fun E => ?_)
  refine A_seq ?_; refine A_region ?_; refine M0 (q_assignC rfl rfl rfl) rfl rfl ?_; refine L_nil ?_; refine T_n ?_; refine A_seq ?_; refine A_seq ?_; refine A_region ?_
  refine M0 (q_moveC rfl rfl rfl) rfl rfl ?_; refine M0 (q_call0 rfl rfl (S_in n 0 1099511627775) rfl) rfl rfl ?_; refine M0 (q_not rfl rfl rfl) rfl rfl ?_; refine L_nil ?_; refine T_n ?_
  refine A_cond rfl (fun h => ?_) (fun h => ?_)
  · have h : ¬ (0 ≤ n ∧ n ≤ 1099511627775) := by rw [← inR_iff]; simpa using h
    refine A_seq ?_; refine A_region ?_; refine M0 (q_assignC rfl rfl rfl) rfl rfl ?_; refine L_nil ?_; refine T_n ?_; refine A_ret ?_; refine T_r ?_; refine F_r ?_
    exact E_tmp rfl rfl (W_end [] (by decide) rfl rfl (S_eq (by rw [encVar, if_neg h])))
  have h : 0 ≤ n ∧ n ≤ 1099511627775 := by rw [← inR_iff]; simpa using h
  have he : encVar n = varN n.toNat := by rw [encVar, if_pos h]
  rw [he]
  refine A_skip ?_; refine T_n ?_; refine A_seq ?_; refine A_region ?_; refine M1 (q_bslice0 rfl rfl rfl) rfl rfl ?_; refine M0 (q_assignC rfl rfl rfl) rfl rfl ?_; refine L_nil ?_; refine T_n ?_
  refine A_seq ?_; refine A_block ?_
  refine A_loop (fun m__ st => ∃ (m : Nat) (acc : List UInt8), m = m__ ∧ (acc ++ varN m = varN n.toNat ∧ acc.length + m ≤ 1099511627775) ∧ st = (fun (m : Nat) (acc : List UInt8) => (⟨_, [(0, I m), (3, .o (.c (.ref 0)))], [.row 1 (bE acc)]⟩ : St)) (m) (acc)) ((fun (m : Nat) (acc : List UInt8) => m) (n.toNat) ([])) ⟨(fun (m : Nat) (acc : List UInt8) => (⟨_, [(0, I m), (3, .o (.c (.ref 0)))], [.row 1 (bE acc)]⟩ : St)) (n.toNat) ([]), W_go [0] (by decide) rfl (rfl) (.cons (I_eq (by omega)) (.cons rfl (.nil))), n.toNat, [], rfl, ⟨rfl, by simp <;> omega⟩, rfl⟩ ?_
  rintro m_A _ ⟨m, acc, hk_A, hp_A, rfl⟩
  refine A_seq ?_; refine A_seq ?_; refine A_region ?_; refine M0 (q_moveC rfl rfl rfl) rfl rfl ?_; refine M0 (q_gtr rfl rfl rfl rfl) rfl rfl ?_; refine L_nil ?_; refine T_n ?_
  refine A_cond rfl (fun h5 => ?_) (fun h5 => ?_)
  · have h5 : ¬ m < 128 := by have := of_decide_eq_true h5; omega
    have hl := bE_len acc
    have hb := hp_A.2
    have hb1 : (m : Int).toNat &&& (127 : Int).toNat = m % 128 := Nat.and_two_pow_sub_one_eq_mod m 7
    have hb2 : ((m % 128 : Nat) : Int).toNat ||| (128 : Int).toNat = m % 128 + 128 := by
      have := Nat.two_pow_add_eq_or_of_lt (i := 7) (b := m % 128) (by omega) 1
      rw [Nat.or_comm]
      show 128 ||| m % 128 = _
      rw [← this]; omega
    have hb3 : (m : Int) / 2 ^ (7 : Int).toNat = (m / 128 : Nat) := by
      show (m : Int) / 128 = _
      omega
    refine A_skip ?_; refine T_n ?_; refine A_block ?_; refine A_seq ?_; refine A_region ?_; refine M0 (q_moveC rfl rfl rfl) rfl rfl ?_; refine M0 (q_moveC rfl rfl rfl) rfl rfl ?_
    refine M0 (q_bandK rfl rfl rfl rfl (by assumption) (by omega)) rfl rfl ?_; refine M0 (q_borK rfl rfl rfl rfl (by assumption) (by omega)) rfl rfl ?_
    refine M0 (q_convI rfl rfl rfl rfl (wrap_u8_in (by omega))) rfl rfl ?_; refine M1 (q_bslice rfl rfl rfl rfl rfl rfl) rfl rfl ?_
    refine M_appsb rfl rfl rfl rfl rfl rfl rfl rfl rfl rfl (by omega) (by omega) ?_; refine M0 (q_assignC rfl rfl rfl) rfl rfl ?_; refine L_nil ?_; refine T_n ?_; refine A_region ?_
    refine M0 (q_moveC rfl rfl rfl) rfl rfl ?_; refine M0 (q_shrK rfl rfl rfl rfl (by assumption) ⟨by omega, by omega, by decide⟩) rfl rfl ?_; refine M0 (q_assignC rfl rfl rfl) rfl rfl ?_
    refine L_nil ?_; refine B_n ?_; refine T_n ?_
    refine ⟨(m / 128), (by omega), (fun (m : Nat) (acc : List UInt8) => (⟨_, [(0, I m), (3, .o (.c (.ref 0)))], [.row 1 (bE acc)]⟩ : St)) (m / 128) (acc ++ [UInt8.ofNat ((m % 128 + 128 : Nat) : Int).toNat]), W_go [0] (by decide) rfl (row_eq (bE_snoc _ _ (by omega)).symm) (.cons rfl (.cons rfl (.nil))), m / 128, acc ++ [UInt8.ofNat ((m % 128 + 128 : Nat) : Int).toNat], rfl, ⟨varN_step hp_A.1 h5 (by congr 1), by simp <;> omega⟩, rfl⟩
  · have h5 : m < 128 := by have := of_decide_eq_false h5; omega
    have hl := bE_len acc
    have hb := hp_A.2
    refine A_exit ?_; refine T_x ?_; refine T_x ?_; refine B_xs ?_; refine T_n ?_; refine A_seq ?_; refine A_region ?_; refine M0 (q_moveC rfl rfl rfl) rfl rfl ?_
    refine M0 (q_moveC rfl rfl rfl) rfl rfl ?_; refine M0 (q_convI rfl rfl rfl rfl (wrap_u8_in (by omega))) rfl rfl ?_; refine M1 (q_bslice rfl rfl rfl rfl rfl rfl) rfl rfl ?_
    refine M_appsb rfl rfl rfl rfl rfl rfl rfl rfl rfl rfl (by omega) (by omega) ?_; refine M0 (q_bstr rfl rfl rfl rfl) rfl rfl ?_; refine M0 (q_assignC rfl rfl rfl) rfl rfl ?_
    refine L_nil ?_; refine T_n ?_; refine A_ret ?_; refine F_r ?_
    exact E_tmp rfl rfl (W_end [] (by decide) rfl rfl (S_eq (congrArg bs (varN_end hp_A.1 h5 (by congr 1)))))

theorem varN_pow : ∀ (j n : Nat), n < 128 ^ (j + 1) → (varN n).length ≤ j + 1
  | 0, n, h => by rw [varN_small (by omega)]; simp
  | j + 1, n, h => by
    by_cases hn : n < 128
    · rw [varN_small hn]; simp
    · rw [varN_big hn, List.length_cons]
      have := varN_pow j (n / 128) (by rw [Nat.pow_succ] at h; omega)
      omega
theorem encVar_len (n : Int) : (encVar n).length ≤ 6 := by
  unfold encVar
  split
  · exact varN_pow 5 _ (by omega)
  · simp
def signless (n : Int) : Int := if -549755813888 ≤ n ∧ n ≤ 549755813887 then (if 0 ≤ n then 2 * n else -2 * n - 1) else -1
set_option maxHeartbeats 8000000 in
theorem S_Signless (n : Int) (hn : I64 n) : Con Try.prog 108 [] [ai n] [] (I (signless n)) := by
  obtain ⟨hn1, hn2⟩ := hn
  refine Con.of Try.func108 rfl Try.ntmps108 rfl (fun E => ?_)
  refine A_seq ?_; refine A_region ?_; refine M0 (q_assignC rfl rfl rfl) rfl rfl ?_; refine L_nil ?_; refine T_n ?_; refine A_seq ?_; refine A_seq ?_; refine A_region ?_
  refine M0 (q_moveC rfl rfl rfl) rfl rfl ?_; refine M0 (q_call0 rfl rfl (S_in n (-549755813888) 549755813887) rfl) rfl rfl ?_; refine M0 (q_not rfl rfl rfl) rfl rfl ?_; refine L_nil ?_
  refine T_n ?_
  refine A_cond rfl (fun h => ?_) (fun h => ?_)
  · have h : ¬ (-549755813888 ≤ n ∧ n ≤ 549755813887) := by rw [← inR_iff]; simpa using h
    refine A_seq ?_; refine A_region ?_; refine M0 (q_assignC rfl rfl rfl) rfl rfl ?_; refine L_nil ?_; refine T_n ?_; refine A_ret ?_; refine T_r ?_; refine F_r ?_
    exact E_tmp rfl rfl (W_end [] (by decide) rfl rfl (I_eq (by rw [signless, if_neg (by omega)])))
  have h : -549755813888 ≤ n ∧ n ≤ 549755813887 := by rw [← inR_iff]; simpa using h
  refine A_skip ?_; refine T_n ?_; refine A_seq ?_; refine A_seq ?_; refine A_region ?_; refine M0 (q_moveC rfl rfl rfl) rfl rfl ?_; refine M0 (q_geq rfl rfl rfl rfl) rfl rfl ?_; refine L_nil ?_
  refine T_n ?_
  refine A_cond rfl (fun h1 => ?_) (fun h1 => ?_)
  · have h1 := of_decide_eq_true h1
    refine A_seq ?_; refine A_region ?_; refine M0 (q_moveC rfl rfl rfl) rfl rfl ?_; refine M0 (q_mul rfl rfl rfl rfl (by omega)) rfl rfl ?_; refine M0 (q_assignC rfl rfl rfl) rfl rfl ?_
    refine L_nil ?_; refine T_n ?_; refine A_ret ?_; refine T_r ?_; refine F_r ?_
    exact E_tmp rfl rfl (W_end [] (by decide) rfl rfl (I_eq (by rw [signless, if_pos (by omega), if_pos (by omega)])))
  · have h1 := of_decide_eq_false h1
    refine A_skip ?_; refine T_n ?_; refine A_seq ?_; refine A_region ?_; refine M0 (q_moveC rfl rfl rfl) rfl rfl ?_; refine M0 (q_mul rfl rfl rfl rfl (by omega)) rfl rfl ?_
    refine M0 (q_sub rfl rfl rfl rfl (by omega)) rfl rfl ?_; refine M0 (q_assignC rfl rfl rfl) rfl rfl ?_; refine L_nil ?_; refine T_n ?_; refine A_ret ?_; refine F_r ?_
    exact E_tmp rfl rfl (W_end [] (by decide) rfl rfl (I_eq (by rw [signless, if_pos (by omega), if_neg (by omega)])))
/-- The first k numbers of a list. -/
def packK (xs : List Int) (k : Nat) : List UInt8 := encVar xs.length ++ (xs.take k).flatMap fun x => encVar (signless x)
def packInts (xs : List Int) : ByteArray := if xs.all (fun x => decide (0 ≤ signless x)) then bs (packK xs xs.length) else bs []
theorem packK_succ {xs : List Int} {k : Nat} (h : k < xs.length) : packK xs (k + 1) = packK xs k ++ encVar (signless xs[k]) := by
  unfold packK
  rw [List.take_succ_eq_append_getElem h, List.flatMap_append, List.append_assoc]
  simp
theorem packK_len (xs : List Int) : ∀ k, k ≤ xs.length → (packK xs k).length ≤ 6 * k + 6
  | 0, _ => by simp [packK]; exact encVar_len _
  | k + 1, h => by
    rw [packK_succ (by omega), List.length_append]
    have := packK_len xs k (by omega)
    have := encVar_len (signless xs[k])
    omega
set_option maxHeartbeats 8000000 in
theorem S_PackInts (xs : List Int) (hg : Enc.gd xs) (hL : xs.length ≤ 1073741824) : Con Try.prog 65 [] [al xs] [] (S (packInts xs)) := by
  have hlx := els_len xs
  refine Con.of Try.func65 rfl Try.ntmps65 rfl (fun E => ?_)
  refine A_seq ?_; refine A_region ?_; refine M0 (q_assignC rfl rfl rfl) rfl rfl ?_; refine L_nil ?_; refine T_n ?_; refine A_seq ?_; refine A_region ?_; refine M0 (q_moveC rfl rfl rfl) rfl rfl ?_
  refine M0 (q_len rfl rfl rfl) rfl rfl ?_; refine M0 (q_call0 rfl rfl (S_EncodeVarint (els xs).length) rfl) rfl rfl ?_; refine M0 (q_assignC rfl rfl rfl) rfl rfl ?_; refine L_nil ?_
  refine T_n ?_; refine A_seq ?_; refine A_seq ?_; refine A_region ?_; refine M0 (q_assignC rfl rfl rfl) rfl rfl ?_; refine L_nil ?_; refine T_n ?_; refine A_block ?_
  refine A_loop (fun m st => ∃ k : Nat, k + m = xs.length ∧ ((xs.take k).all (fun x => decide (0 ≤ signless x)) = true) ∧ st = (fun k : Nat => (⟨_, [(0, L xs), (3, S (bs (packK xs k))), (4, I k)], []⟩ : St)) k) (xs.length) ⟨(fun k : Nat => (⟨_, [(0, L xs), (3, S (bs (packK xs k))), (4, I k)], []⟩ : St)) 0, W_go [] (by decide) rfl (rfl) (.cons rfl (.cons (S_eq (by rw [hlx]; simp [packK])) (.cons rfl (.nil)))), 0, by omega, by simp, rfl⟩ ?_
  rintro m_A _ ⟨k, hk_A, hp_A, rfl⟩
  refine A_seq ?_; refine A_seq ?_; refine A_region ?_; refine M0 (q_moveC rfl rfl rfl) rfl rfl ?_; refine M0 (q_moveC rfl rfl rfl) rfl rfl ?_; refine M0 (q_len rfl rfl rfl) rfl rfl ?_
  refine M0 (q_lss rfl rfl rfl rfl) rfl rfl ?_; refine L_nil ?_; refine T_n ?_
  refine A_cond rfl (fun h => ?_) (fun h => ?_)
  · have h3 : k < xs.length := by have := of_decide_eq_true h; omega
    have hat := els_at h3
    have hb1 := bs_size (packK xs k)
    have hb2 := packK_len xs k (by omega)
    have hb3 := bs_size (encVar (signless xs[k]))
    have hb4 := encVar_len (signless xs[k])
    have hc := S_Signless xs[k] (hg.2 _ (List.getElem_mem h3))
    refine A_skip ?_; refine T_n ?_; refine A_seq ?_; refine A_block ?_; refine A_seq ?_; refine A_seq ?_; refine A_region ?_; refine M0 (q_moveC rfl rfl rfl) rfl rfl ?_
    refine M0 (q_moveC rfl rfl rfl) rfl rfl ?_; refine M0 (q_at rfl rfl rfl rfl (by omega) (by assumption) rfl) rfl rfl ?_; refine M0 (q_lr1 rfl rfl rfl rfl) rfl rfl ?_
    refine M0 (q_call0 rfl rfl (hc) rfl) rfl rfl ?_; refine M0 (q_lss rfl rfl rfl rfl) rfl rfl ?_; refine L_nil ?_; refine T_n ?_
    refine A_cond rfl (fun h4 => ?_) (fun h4 => ?_)
    · refine A_seq ?_; refine A_region ?_; refine M0 (q_assignC rfl rfl rfl) rfl rfl ?_; refine L_nil ?_; refine T_n ?_; refine A_ret ?_; refine T_r ?_; refine B_r ?_; refine T_r ?_; refine T_r ?_
      refine B_r ?_; refine T_r ?_; refine F_r ?_
      exact E_tmp rfl rfl (W_end [] (by decide) rfl rfl (S_eq (by rw [packInts, all_no h3 (by simpa using h4)]; rfl)))
    · refine A_skip ?_; refine T_n ?_; refine A_region ?_; refine M0 (q_moveC rfl rfl rfl) rfl rfl ?_; refine M0 (q_moveC rfl rfl rfl) rfl rfl ?_; refine M0 (q_moveC rfl rfl rfl) rfl rfl ?_
      refine M0 (q_at rfl rfl rfl rfl (by omega) (by assumption) rfl) rfl rfl ?_; refine M0 (q_lr1 rfl rfl rfl rfl) rfl rfl ?_; refine M0 (q_call0 rfl rfl (hc) rfl) rfl rfl ?_
      refine M0 (q_call0 rfl rfl (S_EncodeVarint (signless xs[k])) rfl) rfl rfl ?_; refine M0 (q_cat rfl rfl rfl rfl (by omega)) rfl rfl ?_; refine M0 (q_assignC rfl rfl rfl) rfl rfl ?_
      refine L_nil ?_; refine B_n ?_; refine T_n ?_; refine A_region ?_; refine M0 (q_moveC rfl rfl rfl) rfl rfl ?_; refine M0 (q_add rfl rfl rfl rfl (by omega)) rfl rfl ?_
      refine M0 (q_assignC rfl rfl rfl) rfl rfl ?_; refine L_nil ?_; refine T_n ?_
      exact ⟨xs.length - (k + 1), by omega, (fun k : Nat => (⟨_, [(0, L xs), (3, S (bs (packK xs k))), (4, I k)], []⟩ : St)) (k + 1), W_go [] (by decide) rfl (rfl) (.cons rfl (.cons (S_eq (by rw [bs_app, packK_succ h3])) (.cons rfl (.nil)))), k + 1, by omega, all_next hp_A h3 (by simpa using h4), rfl⟩
  · have h3 : ¬ ((k : Int) < (els xs).length) := of_decide_eq_false h
    have hk : k = xs.length := by omega
    refine A_exit ?_; refine T_x ?_; refine T_x ?_; refine B_xs ?_; refine T_n ?_; refine A_seq ?_; refine A_region ?_; refine M0 (q_moveC rfl rfl rfl) rfl rfl ?_
    refine M0 (q_assignC rfl rfl rfl) rfl rfl ?_; refine L_nil ?_; refine T_n ?_; refine A_ret ?_; refine F_r ?_
    exact E_tmp rfl rfl (W_end [] (by decide) rfl rfl (S_eq (by rw [packInts, all_end hp_A (by omega), hk]; rfl)))

end Go.Proofs.Ytkfnaniegldfaaa
end

section
set_option linter.unusedSimpArgs false
set_option linter.unusedVariables false
set_option maxRecDepth 8000
namespace Go.Proofs.Ytkfnaniegldfaaa
open Go.RowKit

theorem row2b {k : Nat} {o : Ob} {a b : List (List T)} (h : a = b) : [o, Ob.row k a] = [o, Ob.row k b] := by rw [h]
def bodyInts (b : TBody) : List Int := [b.Kind, b.Owner, b.X, b.Y, b.VX, b.VY, b.Aim, b.Life, b.Timer]
def worldInts (w : TWorld) : List Int := ([w.Tick, w.Seed, (w.Scores.length : Int)] ++ w.Scores) ++ w.Bodies.flatMap bodyInts
noncomputable def worldBytes (w : TWorld) : ByteArray := if worldOk w = true then packInts (worldInts w) else ⟨#[]⟩
theorem els_app {α : Type} [Enc α] (xs ys : List α) : els (xs ++ ys) = els xs ++ els ys := List.map_append
theorem flat_snoc {bs : List TBody} {k : Nat} (h : k < bs.length) : (bs.take (k + 1)).flatMap bodyInts = (bs.take k).flatMap bodyInts ++ bodyInts bs[k] := by
  rw [List.take_succ_eq_append_getElem h, List.flatMap_append]
  simp
theorem flat_len (bs : List TBody) : ∀ k, k ≤ bs.length → ((bs.take k).flatMap bodyInts).length = 9 * k
  | 0, _ => by simp
  | k + 1, h => by
    rw [flat_snoc (by omega), List.length_append, flat_len bs k (by omega)]
    simp [bodyInts]
    omega
theorem flat_gd {bs : List TBody} (hg : ∀ b ∈ bs, Enc.gd b) : ∀ x ∈ bs.flatMap bodyInts, I64 x := fun x hx => by
  obtain ⟨b, hb, hx⟩ := List.mem_flatMap.1 hx
  obtain ⟨b1, b2, b3, b4, b5, b6, b7, b8, b9⟩ := hg b hb
  simp only [bodyInts, List.mem_cons, List.not_mem_nil, or_false] at hx
  rcases hx with rfl | rfl | rfl | rfl | rfl | rfl | rfl | rfl | rfl <;> assumption
set_option maxHeartbeats 8000000 in
theorem S_WorldBytes (x : TWorld) (hg : Enc.gd x) : Con Try.prog 79 [] [ag x] [] (S (worldBytes x)) := by
  have hc := S_WorldOk x hg
  obtain ⟨gL, gT, gS, gSc, gB⟩ := hg
  cases ho : worldOk x with
  | false =>
    rw [ho] at hc
    rw [show worldBytes x = ⟨#[]⟩ by rw [worldBytes, ho]; exact if_neg (by decide)]
    refine Con.of Try.func79 rfl Try.ntmps79 rfl (fun E => ?_)
    refine A_seq ?_; refine A_region ?_; refine M1 (q_boxN rfl rfl rfl rfl) rfl rfl ?_; refine M0 (q_assignC rfl rfl rfl) rfl rfl ?_; refine L_nil ?_; refine T_n ?_; refine A_seq ?_; refine A_seq ?_
    refine A_region ?_; refine M0 (q_ldN rfl rfl rfl rfl rfl rfl) rfl rfl ?_; refine M0 (q_call0 rfl rfl (hc) rfl) rfl rfl ?_; refine M0 (q_not rfl rfl rfl) rfl rfl ?_; refine L_nil ?_
    refine T_n ?_; refine A_ifT rfl ?_; refine A_seq ?_; refine A_region ?_; refine M0 (q_assignC rfl rfl rfl) rfl rfl ?_; refine L_nil ?_; refine T_n ?_; refine A_ret ?_; refine T_r ?_; refine F_r ?_
    exact E_tmp rfl rfl (W_end [] (by decide) rfl rfl rfl)
  | true =>
    rw [ho] at hc
    rw [show worldBytes x = packInts (worldInts x) by rw [worldBytes, ho]; exact if_pos rfl]
    obtain ⟨_, _, _, hn, _, hb, _⟩ := worldOk_spec ho
    have hls := els_len x.Scores
    have hlb := els_len x.Bodies
    refine Con.of Try.func79 rfl Try.ntmps79 rfl (fun E => ?_)
    refine A_seq ?_; refine A_region ?_; refine M1 (q_boxN rfl rfl rfl rfl) rfl rfl ?_; refine M0 (q_assignC rfl rfl rfl) rfl rfl ?_; refine L_nil ?_; refine T_n ?_; refine A_seq ?_; refine A_seq ?_
    refine A_region ?_; refine M0 (q_ldN rfl rfl rfl rfl rfl rfl) rfl rfl ?_; refine M0 (q_call0 rfl rfl (hc) rfl) rfl rfl ?_; refine M0 (q_not rfl rfl rfl) rfl rfl ?_; refine L_nil ?_
    refine T_n ?_; refine A_ifF rfl ?_; refine A_skip ?_; refine T_n ?_; refine A_seq ?_; refine A_region ?_; refine M0 (q_fldp rfl rfl rfl rfl (by decide)) rfl rfl ?_
    refine M0 (q_ld1 rfl rfl rfl rfl rfl) rfl rfl ?_; refine M0 (q_fldp rfl rfl rfl rfl (by decide)) rfl rfl ?_; refine M0 (q_ld1 rfl rfl rfl rfl rfl) rfl rfl ?_
    refine M0 (q_fldp rfl rfl rfl rfl (by decide)) rfl rfl ?_; refine M0 (q_ld1 rfl rfl rfl rfl rfl) rfl rfl ?_; refine M0 (q_len rfl rfl rfl) rfl rfl ?_
    refine M1 (q_bslice rfl rfl rfl rfl rfl rfl) rfl rfl ?_; refine M0 (q_fldp rfl rfl rfl rfl (by decide)) rfl rfl ?_; refine M0 (q_ld1 rfl rfl rfl rfl rfl) rfl rfl ?_
    have hl3 : (els [x.Tick, x.Seed, ((els x.Scores).length : Int)]).length = 3 := rfl
    refine AL.weak (Wk.sbrow (q := 1) (es := els [x.Tick, x.Seed, ((els x.Scores).length : Int)]) rfl rfl (Nat.le_of_ble_eq_true rfl)) ?_
    refine AL.weak (st' := (⟨_, [(1, .o (.c (.ptr 0 0))), (16, .o (.c (.ref 1))), (18, L x.Scores)], [.box ((Enc.e x).map (V1.rd [])), .row 1 (els [x.Tick, x.Seed, ((els x.Scores).length : Int)])]⟩ : St)) (W_go [0, 1] (by decide) rfl (rfl) (.cons rfl (.cons rfl (.cons rfl (.nil))))) ?_
    refine M_app rfl rfl rfl rfl rfl rfl rfl rfl rfl rfl (els_plain _) (els_k _) (by omega) (by omega) ?_; refine M0 (q_assignC rfl rfl rfl) rfl rfl ?_; refine L_nil ?_; refine T_n ?_
    refine A_seq ?_; refine A_seq ?_; refine A_region ?_; refine M0 (q_assignC rfl rfl rfl) rfl rfl ?_; refine L_nil ?_; refine T_n ?_; refine A_block ?_
    have hini : els (([x.Tick, x.Seed, (x.Scores.length : Int)] ++ x.Scores) ++ (x.Bodies.take 0).flatMap bodyInts) = els [x.Tick, x.Seed, ((els x.Scores).length : Int)] ++ els x.Scores := by rw [List.take_zero, List.flatMap_nil, List.append_nil, els_app, hls]
    refine A_loop (fun m st => ∃ k : Nat, k + m = x.Bodies.length ∧ (True) ∧ st = (fun k : Nat => (⟨_, [(1, .o (.c (.ptr 0 0))), (3, .o (.c (.ref 1))), (4, I k)], [.box ((Enc.e x).map (V1.rd [])), .row 1 (els (([x.Tick, x.Seed, (x.Scores.length : Int)] ++ x.Scores) ++ (x.Bodies.take k).flatMap bodyInts))]⟩ : St)) k) (x.Bodies.length) ⟨(fun k : Nat => (⟨_, [(1, .o (.c (.ptr 0 0))), (3, .o (.c (.ref 1))), (4, I k)], [.box ((Enc.e x).map (V1.rd [])), .row 1 (els (([x.Tick, x.Seed, (x.Scores.length : Int)] ++ x.Scores) ++ (x.Bodies.take k).flatMap bodyInts))]⟩ : St)) 0, W_go [0, 1] (by decide) rfl (row2b hini) (.cons rfl (.cons rfl (.cons rfl (.nil)))), 0, by omega, trivial, rfl⟩ ?_
    rintro m_A _ ⟨k, hk_A, hp_A, rfl⟩
    have hla := els_len (([x.Tick, x.Seed, (x.Scores.length : Int)] ++ x.Scores) ++ (x.Bodies.take k).flatMap bodyInts)
    have hfl := flat_len x.Bodies k (by omega)
    have hlc : (([x.Tick, x.Seed, (x.Scores.length : Int)] ++ x.Scores) ++ (x.Bodies.take k).flatMap bodyInts).length = 3 + x.Scores.length + 9 * k := by
      rw [List.length_append, List.length_append, hfl]; rfl
    refine A_seq ?_; refine A_seq ?_; refine A_region ?_; refine M0 (q_moveC rfl rfl rfl) rfl rfl ?_; refine M0 (q_fldp rfl rfl rfl rfl (by decide)) rfl rfl ?_
    refine M0 (q_ld1 rfl rfl rfl rfl rfl) rfl rfl ?_; refine M0 (q_len rfl rfl rfl) rfl rfl ?_; refine M0 (q_lss rfl rfl rfl rfl) rfl rfl ?_; refine L_nil ?_; refine T_n ?_
    refine A_cond rfl (fun h => ?_) (fun h => ?_)
    · have h3 : k < x.Bodies.length := by have := of_decide_eq_true h; omega
      have hat := els_at h3
      have hlb9 : (els (bodyInts x.Bodies[k])).length = 9 := rfl
      refine A_skip ?_; refine T_n ?_; refine A_seq ?_; refine A_block ?_; refine A_seq ?_; refine A_region ?_; refine M0 (q_fldp rfl rfl rfl rfl (by decide)) rfl rfl ?_
      refine M0 (q_ld1 rfl rfl rfl rfl rfl) rfl rfl ?_; refine M0 (q_moveC rfl rfl rfl) rfl rfl ?_; refine M0 (q_at rfl rfl rfl rfl (by omega) (by assumption) rfl) rfl rfl ?_
      refine M0 (q_lrN rfl rfl rfl rfl rfl) rfl rfl ?_; refine M1 (q_alloc rfl rfl rfl) rfl rfl ?_; refine M_stN rfl rfl rfl rfl rfl rfl rfl rfl rfl ?_; refine L_nil ?_; refine T_n ?_
      refine A_region ?_; refine M0 (q_moveC rfl rfl rfl) rfl rfl ?_; refine M0 (q_fldp rfl rfl rfl rfl (by decide)) rfl rfl ?_; refine M0 (q_ld1 rfl rfl rfl rfl rfl) rfl rfl ?_
      refine M0 (q_fldp rfl rfl rfl rfl (by decide)) rfl rfl ?_; refine M0 (q_ld1 rfl rfl rfl rfl rfl) rfl rfl ?_; refine M0 (q_fldp rfl rfl rfl rfl (by decide)) rfl rfl ?_
      refine M0 (q_ld1 rfl rfl rfl rfl rfl) rfl rfl ?_; refine M0 (q_fldp rfl rfl rfl rfl (by decide)) rfl rfl ?_; refine M0 (q_ld1 rfl rfl rfl rfl rfl) rfl rfl ?_
      refine M0 (q_fldp rfl rfl rfl rfl (by decide)) rfl rfl ?_; refine M0 (q_ld1 rfl rfl rfl rfl rfl) rfl rfl ?_; refine M0 (q_fldp rfl rfl rfl rfl (by decide)) rfl rfl ?_
      refine M0 (q_ld1 rfl rfl rfl rfl rfl) rfl rfl ?_; refine M0 (q_fldp rfl rfl rfl rfl (by decide)) rfl rfl ?_; refine M0 (q_ld1 rfl rfl rfl rfl rfl) rfl rfl ?_
      refine M0 (q_fldp rfl rfl rfl rfl (by decide)) rfl rfl ?_; refine M0 (q_ld1 rfl rfl rfl rfl rfl) rfl rfl ?_; refine M0 (q_fldp rfl rfl rfl rfl (by decide)) rfl rfl ?_
      refine M0 (q_ld1 rfl rfl rfl rfl rfl) rfl rfl ?_; refine M1 (q_bslice rfl rfl rfl rfl rfl rfl) rfl rfl ?_
      refine M_appsb rfl rfl rfl rfl rfl rfl rfl rfl rfl rfl (by omega) (by omega) ?_; refine M0 (q_assignC rfl rfl rfl) rfl rfl ?_; refine L_nil ?_; refine B_n ?_; refine T_n ?_
      refine A_region ?_; refine M0 (q_moveC rfl rfl rfl) rfl rfl ?_; refine M0 (q_add rfl rfl rfl rfl (by omega)) rfl rfl ?_; refine M0 (q_assignC rfl rfl rfl) rfl rfl ?_; refine L_nil ?_
      refine T_n ?_
      exact ⟨x.Bodies.length - (k + 1), by omega, (fun k : Nat => (⟨_, [(1, .o (.c (.ptr 0 0))), (3, .o (.c (.ref 1))), (4, I k)], [.box ((Enc.e x).map (V1.rd [])), .row 1 (els (([x.Tick, x.Seed, (x.Scores.length : Int)] ++ x.Scores) ++ (x.Bodies.take k).flatMap bodyInts))]⟩ : St)) (k + 1), W_go [0, 1] (by decide) rfl (row2b (by rw [flat_snoc h3, ← List.append_assoc, els_app _ (bodyInts x.Bodies[k])]; rfl)) (.cons rfl (.cons rfl (.cons rfl (.nil)))), k + 1, by omega, trivial, rfl⟩
    · have h3 : ¬ k < x.Bodies.length := by have := of_decide_eq_false h; omega
      have hk : x.Bodies.take k = x.Bodies := List.take_of_length_le (by omega)
      rw [hk] at hlc hla ⊢
      have hgi : Enc.gd (([x.Tick, x.Seed, (x.Scores.length : Int)] ++ x.Scores) ++ x.Bodies.flatMap bodyInts) := ⟨by omega, fun y hy => by
        rcases List.mem_append.1 hy with hy | hy
        · rcases List.mem_append.1 hy with hy | hy
          · simp only [List.mem_cons, List.not_mem_nil, or_false] at hy
            rcases hy with rfl | rfl | rfl
            · exact gT
            · exact gS
            · exact ⟨by omega, by omega⟩
          · exact gSc.2 y hy
        · exact flat_gd gB.2 y hy⟩
      have hp := S_PackInts (([x.Tick, x.Seed, (x.Scores.length : Int)] ++ x.Scores) ++ x.Bodies.flatMap bodyInts) hgi (by omega)
      refine A_exit ?_; refine T_x ?_; refine T_x ?_; refine B_xs ?_; refine T_n ?_; refine A_seq ?_; refine A_region ?_; refine M0 (q_moveC rfl rfl rfl) rfl rfl ?_
      refine M0 (q_call0 rfl rfl (hp) rfl) rfl rfl ?_; refine M0 (q_assignC rfl rfl rfl) rfl rfl ?_; refine L_nil ?_; refine T_n ?_; refine A_ret ?_; refine F_r ?_
      exact E_tmp rfl rfl (W_end [] (by decide) rfl rfl rfl)
end Go.Proofs.Ytkfnaniegldfaaa
end

section
set_option linter.unusedSimpArgs false
set_option linter.unusedVariables false
set_option maxRecDepth 8000
namespace Go.Proofs.Ytkfnaniegldfaaa
open Go.RowKit

/-- DecodeVarint from byte k of the number on: what has been read so far is n. -/
def dvGo (s : ByteArray) (p : Nat) (n : Int) (k : Nat) : Nat → Option (Int × Nat)
  | 0 => none
  | f + 1 => if p + k < s.size then
      (if 128 ≤ byteAt s (p + k) then dvGo s p (n + byteAt s (p + k) % 128 * 2 ^ (7 * k)) (k + 1) f
       else if (byteAt s (p + k) = 0 ∧ 0 < k) ∨ 1099511627775 < n + byteAt s (p + k) % 128 * 2 ^ (7 * k) then none
       else some (n + byteAt s (p + k) % 128 * 2 ^ (7 * k), k + 1)) else none
def decVar (s : ByteArray) (p : Int) : Option (Int × Nat) := if 0 ≤ p ∧ p < s.size then dvGo s p.toNat 0 0 6 else none
@[reducible] def bv (b : Bool) : V1 := .rd [] (.v (.bool b))
@[reducible] def jn (n : Int) : V1 := .rd [] (.v (.int .i64 n))
@[reducible] def dvR : Option (Int × Nat) → V
  | none => .tu [.c (jn 0), .c (jn 0), .c (bv false)]
  | some (n, k) => .tu [.c (jn n), .c (jn k), .c (bv true)]
theorem pow7 {k : Nat} (h : k ≤ 6) : ∃ M : Nat, 2 ^ (7 * k) = M ∧ 1 ≤ M ∧ M ≤ 4398046511104 := by
  refine ⟨_, rfl, Nat.one_le_two_pow, ?_⟩
  exact Nat.le_trans (Nat.pow_le_pow_right (by omega) (show 7 * k ≤ 42 by omega)) (by decide)
theorem pow7s (k : Nat) : 2 ^ (7 * (k + 1)) = 128 * 2 ^ (7 * k) := by
  rw [show 7 * (k + 1) = 7 * k + 7 by omega, Nat.pow_add]
  omega
theorem dv_part {c : Int} {M : Nat} (h0 : 0 ≤ c) (h1 : c < 128) : 0 ≤ c * (M : Int) ∧ c * (M : Int) ≤ 127 * M := by
  refine ⟨Int.mul_nonneg h0 (by omega), Int.mul_le_mul_of_nonneg_right (by omega) (by omega)⟩
theorem pow7i (k : Nat) : (2 : Int) ^ (7 * (k : Int)).toNat = ((2 ^ (7 * k) : Nat) : Int) := by
  rw [show (7 * (k : Int)).toNat = 7 * k by omega]
  norm_cast
set_option maxHeartbeats 8000000 in
theorem I_DecodeVarint (s : ByteArray) (p : Int) (hs : s.size ≤ 1099511627776) (hp : I64 p) : Con Try.prog 103 [] [astr s, ai p] [] (dvR (decVar s p)) := by
  obtain ⟨hp1, hp2⟩ := hp
  by_cases hin : ¬ (0 ≤ p ∧ p < s.size)
  · rw [show decVar s p = none by rw [decVar, if_neg hin]]
    refine Con.of Try.func103 rfl Try.ntmps103 rfl (fun E => ?_)
    refine A_seq ?_; refine A_region ?_; refine M0 (q_assignC rfl rfl rfl) rfl rfl ?_; refine M0 (q_assignC rfl rfl rfl) rfl rfl ?_; refine M0 (q_assignC rfl rfl rfl) rfl rfl ?_; refine L_nil ?_
    refine T_n ?_; refine A_seq ?_; refine A_seq ?_; refine A_region ?_; refine M0 (q_moveC rfl rfl rfl) rfl rfl ?_; refine M0 (q_lss rfl rfl rfl rfl) rfl rfl ?_
    refine M0 (q_moveC rfl rfl rfl) rfl rfl ?_; refine M0 (Qt.grdF rfl rfl rfl .stop (fun hgrd => q_moveC rfl rfl rfl)) rfl rfl ?_
    refine M0 (Qt.grdF rfl rfl rfl (.hit .stop) (fun hgrd => q_moveC rfl rfl rfl)) rfl rfl ?_
    refine M0 (Qt.grdF rfl rfl rfl (.hit (.hit .stop)) (fun hgrd => q_lens rfl rfl rfl)) rfl rfl ?_
    refine M0 (Qt.grdF rfl rfl rfl (.hit (.hit (.hit .stop))) (fun hgrd => q_geq rfl rfl rfl rfl)) rfl rfl ?_; refine M0 (q_or rfl rfl rfl rfl) rfl rfl ?_; refine L_nil ?_; refine T_n ?_
    refine A_cond rfl (fun h => ?_) (fun h => ?_)
    · refine A_seq ?_; refine A_region ?_; refine M0 (q_assignC rfl rfl rfl) rfl rfl ?_; refine M0 (q_assignC rfl rfl rfl) rfl rfl ?_; refine M0 (q_assignC rfl rfl rfl) rfl rfl ?_; refine L_nil ?_
      refine T_n ?_; refine A_ret ?_; refine T_r ?_; refine F_r ?_
      exact E_tmp3 rfl rfl rfl rfl (W_end [] (by decide) rfl rfl rfl)
    · simp only [Bool.or_eq_false_iff, decide_eq_false_iff_not] at h
      omega
  have hin := Classical.not_not.1 hin
  obtain ⟨q, rfl⟩ : ∃ q : Nat, p = q := ⟨p.toNat, by omega⟩
  rw [show decVar s q = dvGo s q 0 0 6 by rw [decVar, if_pos hin]; rfl]
  have hb1 : decide ((q : Int) < 0) = false := decide_eq_false (by omega)
  have hb2 : decide ((s.size : Int) ≤ q) = false := decide_eq_false (by omega)
  refine Con.of Try.func103 rfl Try.ntmps103 rfl (fun E => ?_)
  refine A_seq ?_; refine A_region ?_; refine M0 (q_assignC rfl rfl rfl) rfl rfl ?_; refine M0 (q_assignC rfl rfl rfl) rfl rfl ?_; refine M0 (q_assignC rfl rfl rfl) rfl rfl ?_; refine L_nil ?_
  refine T_n ?_; refine A_seq ?_; refine A_seq ?_; refine A_region ?_; refine M0 (q_moveC rfl rfl rfl) rfl rfl ?_; refine M0 (q_lssK rfl rfl rfl rfl (by assumption)) rfl rfl ?_
  refine M0 (q_moveC rfl rfl rfl) rfl rfl ?_; refine M_yes rfl rfl rfl ?_; refine M0 (q_moveC rfl rfl rfl) rfl rfl ?_; refine M_yes rfl rfl rfl ?_; refine M0 (q_moveC rfl rfl rfl) rfl rfl ?_
  refine M_yes rfl rfl rfl ?_; refine M0 (q_lens rfl rfl rfl) rfl rfl ?_; refine M_yes rfl rfl rfl ?_; refine M0 (q_geqK rfl rfl rfl rfl (by assumption)) rfl rfl ?_
  refine M0 (q_pickF rfl rfl rfl rfl) rfl rfl ?_; refine L_nil ?_; refine T_n ?_; refine A_ifF rfl ?_; refine A_skip ?_; refine T_n ?_; refine A_seq ?_; refine A_region ?_
  refine M0 (q_assignC rfl rfl rfl) rfl rfl ?_; refine L_nil ?_; refine T_n ?_; refine A_seq ?_; refine A_seq ?_; refine A_region ?_; refine M0 (q_assignC rfl rfl rfl) rfl rfl ?_; refine L_nil ?_
  refine T_n ?_; refine A_block ?_
  refine A_loop (fun m__ st => ∃ (k : Nat) (n : Int), 6 - k = m__ ∧ (k ≤ 6 ∧ 0 ≤ n ∧ n < ((2 ^ (7 * k) : Nat) : Int) ∧ dvGo s q n k (6 - k) = dvGo s q 0 0 6) ∧ st = (fun (k : Nat) (n : Int) => (⟨_, [(0, S s), (1, I q), (7, I n), (8, I k)], []⟩ : St)) (k) (n)) ((fun (k : Nat) (n : Int) => 6 - k) (0) (0)) ⟨(fun (k : Nat) (n : Int) => (⟨_, [(0, S s), (1, I q), (7, I n), (8, I k)], []⟩ : St)) (0) (0), W_go [] (by decide) rfl (rfl) (.cons rfl (.cons rfl (.cons rfl (.cons rfl (.nil))))), 0, 0, rfl, ⟨by omega, by omega, by simp, rfl⟩, rfl⟩ ?_
  rintro m_A _ ⟨k, n, hk_A, hp_A, rfl⟩
  obtain ⟨hk6, hn0, hn1, hgo⟩ := hp_A
  obtain ⟨M, hM, hM1, hM2⟩ := pow7 hk6
  have hMs := pow7s k
  rw [hM] at hn1 hMs
  rw [← hgo]
  refine A_seq ?_; refine A_seq ?_; refine A_region ?_; refine M0 (q_moveC rfl rfl rfl) rfl rfl ?_; refine M0 (q_lss rfl rfl rfl rfl) rfl rfl ?_; refine M0 (q_moveC rfl rfl rfl) rfl rfl ?_
  refine M0 (Qt.grdT rfl rfl rfl .stop (fun hgrd => q_moveC rfl rfl rfl)) rfl rfl ?_; refine M0 (Qt.grdT rfl rfl rfl (.hit .stop) (fun hgrd => q_moveC rfl rfl rfl)) rfl rfl ?_
  refine M0 (Qt.grdT rfl rfl rfl (.hit (.hit .stop)) (fun hgrd => q_lens rfl rfl rfl)) rfl rfl ?_
  refine M0 (Qt.grdT rfl rfl rfl (.hit (.hit (.hit .stop))) (fun hgrd => q_moveC rfl rfl rfl)) rfl rfl ?_
  refine M0 (Qt.grdT rfl rfl rfl (.hit (.hit (.hit (.hit .stop)))) (fun hgrd => q_sub rfl rfl rfl rfl (by omega))) rfl rfl ?_
  refine M0 (Qt.grdT rfl rfl rfl (.hit (.hit (.hit (.hit (.hit .stop))))) (fun hgrd => q_lss rfl rfl rfl rfl)) rfl rfl ?_; refine M0 (q_and rfl rfl rfl rfl) rfl rfl ?_; refine L_nil ?_
  refine T_n ?_
  refine A_cond rfl (fun h => ?_) (fun h => ?_)
  · simp only [Bool.and_eq_true, decide_eq_true_eq] at h
    have hlt : q + k < s.size := by omega
    obtain ⟨f, hf⟩ : ∃ f, 6 - k = f + 1 := ⟨5 - k, by omega⟩
    obtain ⟨c, hc⟩ : ∃ c, byteAt s (q + k) = c := ⟨_, rfl⟩
    have hcr := byteAt_lt s (q + k)
    rw [hc] at hcr
    have hc1 : byteAt s ((q : Int) + (k : Int)).toNat = c := by rw [← hc]; congr 1
    obtain ⟨d, hd⟩ : ∃ d : Nat, c % 128 = d := ⟨(c % 128).toNat, by omega⟩
    have hd1 : c.toNat &&& (127 : Int).toNat = d := by
      rw [show (127 : Int).toNat = 2 ^ 7 - 1 from rfl, Nat.and_two_pow_sub_one_eq_mod]
      omega
    have hdM := dv_part (c := d) (M := M) (by omega) (by omega)
    obtain ⟨r, hr⟩ : ∃ r, (d : Int) * M = r := ⟨_, rfl⟩
    rw [hr] at hdM
    have hr1 : (d : Int) * 2 ^ (7 * (k : Int)).toNat = r := by rw [pow7i, hM, hr]
    have hgo1 : dvGo s q n k (f + 1) = if 128 ≤ c then dvGo s q (n + r) (k + 1) f else if (c = 0 ∧ 0 < k) ∨ 1099511627775 < n + r then none else some (n + r, k + 1) := by
      have h9 : c % 128 * 2 ^ (7 * k) = r := by
        rw [hd, ← hr, ← hM]
        norm_cast
      rw [dvGo, if_pos hlt, hc, h9]
    rw [hf, hgo1]
    by_cases h7 : 128 ≤ c
    · have hb7 : decide (128 ≤ c) = true := decide_eq_true h7
      refine A_skip ?_; refine T_n ?_; refine A_seq ?_; refine A_block ?_; refine A_seq ?_; refine A_region ?_; refine M0 (q_moveC rfl rfl rfl) rfl rfl ?_; refine M0 (q_moveC rfl rfl rfl) rfl rfl ?_
      refine M0 (q_moveC rfl rfl rfl) rfl rfl ?_; refine M0 (q_add rfl rfl rfl rfl (by omega)) rfl rfl ?_; refine M0 (q_byteK rfl rfl rfl rfl (by assumption) (by omega)) rfl rfl ?_
      refine M0 (q_assignC rfl rfl rfl) rfl rfl ?_; refine L_nil ?_; refine T_n ?_; refine A_seq ?_; refine A_region ?_; refine M0 (q_moveC rfl rfl rfl) rfl rfl ?_
      refine M0 (q_moveC rfl rfl rfl) rfl rfl ?_; refine M0 (q_band8K rfl rfl rfl rfl (by assumption) (by omega)) rfl rfl ?_
      refine M0 (q_convI rfl rfl rfl rfl (wrap_i64 (by omega))) rfl rfl ?_; refine M0 (q_moveC rfl rfl rfl) rfl rfl ?_; refine M0 (q_mul rfl rfl rfl rfl (by omega)) rfl rfl ?_
      refine M0 (q_shlK rfl rfl rfl rfl (by assumption) (by omega) (by omega)) rfl rfl ?_; refine M0 (q_add rfl rfl rfl rfl (by omega)) rfl rfl ?_
      refine M0 (q_assignC rfl rfl rfl) rfl rfl ?_; refine L_nil ?_; refine T_n ?_; refine A_seq ?_; refine A_seq ?_; refine A_region ?_; refine M0 (q_moveC rfl rfl rfl) rfl rfl ?_
      refine M0 (q_geqK rfl rfl rfl rfl (by assumption)) rfl rfl ?_; refine L_nil ?_; refine T_n ?_; refine A_ifT rfl ?_; refine A_exit ?_; refine T_x ?_; refine B_xs ?_; refine T_n ?_
      refine A_region ?_; refine M0 (q_moveC rfl rfl rfl) rfl rfl ?_; refine M0 (q_add rfl rfl rfl rfl (by omega)) rfl rfl ?_; refine M0 (q_assignC rfl rfl rfl) rfl rfl ?_; refine L_nil ?_
      refine T_n ?_
      refine ⟨6 - (k + 1), (by omega), (fun (k : Nat) (n : Int) => (⟨_, [(0, S s), (1, I q), (7, I n), (8, I k)], []⟩ : St)) (k + 1) (n + r), W_go [] (by decide) rfl (rfl) (.cons rfl (.cons rfl (.cons rfl (.cons rfl (.nil))))), k + 1, n + r, rfl, ⟨by omega, by omega, by rw [hMs]; omega, by rw [if_pos h7, show 6 - (k + 1) = f by omega]⟩, rfl⟩
    have hb7 : decide (128 ≤ c) = false := decide_eq_false h7
    rw [if_neg h7]
    refine A_skip ?_; refine T_n ?_; refine A_seq ?_; refine A_block ?_; refine A_seq ?_; refine A_region ?_; refine M0 (q_moveC rfl rfl rfl) rfl rfl ?_; refine M0 (q_moveC rfl rfl rfl) rfl rfl ?_
    refine M0 (q_moveC rfl rfl rfl) rfl rfl ?_; refine M0 (q_add rfl rfl rfl rfl (by omega)) rfl rfl ?_; refine M0 (q_byteK rfl rfl rfl rfl (by assumption) (by omega)) rfl rfl ?_
    refine M0 (q_assignC rfl rfl rfl) rfl rfl ?_; refine L_nil ?_; refine T_n ?_; refine A_seq ?_; refine A_region ?_; refine M0 (q_moveC rfl rfl rfl) rfl rfl ?_
    refine M0 (q_moveC rfl rfl rfl) rfl rfl ?_; refine M0 (q_band8K rfl rfl rfl rfl (by assumption) (by omega)) rfl rfl ?_
    refine M0 (q_convI rfl rfl rfl rfl (wrap_i64 (by omega))) rfl rfl ?_; refine M0 (q_moveC rfl rfl rfl) rfl rfl ?_; refine M0 (q_mul rfl rfl rfl rfl (by omega)) rfl rfl ?_
    refine M0 (q_shlK rfl rfl rfl rfl (by assumption) (by omega) (by omega)) rfl rfl ?_; refine M0 (q_add rfl rfl rfl rfl (by omega)) rfl rfl ?_
    refine M0 (q_assignC rfl rfl rfl) rfl rfl ?_; refine L_nil ?_; refine T_n ?_; refine A_seq ?_; refine A_seq ?_; refine A_region ?_; refine M0 (q_moveC rfl rfl rfl) rfl rfl ?_
    refine M0 (q_geqK rfl rfl rfl rfl (by assumption)) rfl rfl ?_; refine L_nil ?_; refine T_n ?_; refine A_ifF rfl ?_; refine A_skip ?_; refine T_n ?_; refine A_seq ?_; refine A_seq ?_
    refine A_region ?_; refine M0 (q_moveC rfl rfl rfl) rfl rfl ?_; refine M0 (q_eql rfl rfl rfl rfl) rfl rfl ?_; refine M0 (q_moveC rfl rfl rfl) rfl rfl ?_
    refine M0 (Qt.grdT rfl rfl rfl .stop (fun hgrd => q_moveC rfl rfl rfl)) rfl rfl ?_; refine M0 (Qt.grdT rfl rfl rfl (.hit .stop) (fun hgrd => q_gtr rfl rfl rfl rfl)) rfl rfl ?_
    refine M0 (q_and rfl rfl rfl rfl) rfl rfl ?_; refine M0 (q_moveC rfl rfl rfl) rfl rfl ?_; refine M0 (Qt.grdF rfl rfl rfl .stop (fun hgrd => q_moveC rfl rfl rfl)) rfl rfl ?_
    refine M0 (Qt.grdF rfl rfl rfl (.hit .stop) (fun hgrd => q_gtr rfl rfl rfl rfl)) rfl rfl ?_; refine M0 (q_or rfl rfl rfl rfl) rfl rfl ?_; refine L_nil ?_; refine T_n ?_
    refine A_cond rfl (fun h8 => ?_) (fun h8 => ?_)
    · simp only [Bool.or_eq_true, Bool.and_eq_true, decide_eq_true_eq] at h8
      rw [if_pos (by omega)]
      refine A_seq ?_; refine A_region ?_; refine M0 (q_assignC rfl rfl rfl) rfl rfl ?_; refine M0 (q_assignC rfl rfl rfl) rfl rfl ?_; refine M0 (q_assignC rfl rfl rfl) rfl rfl ?_; refine L_nil ?_
      refine T_n ?_; refine A_ret ?_; refine T_r ?_; refine B_r ?_; refine T_r ?_; refine T_r ?_; refine B_r ?_; refine T_r ?_; refine F_r ?_
      exact E_tmp3 rfl rfl rfl rfl (W_end [] (by decide) rfl rfl rfl)
    · simp only [Bool.or_eq_false_iff, Bool.and_eq_false_iff, decide_eq_false_iff_not] at h8
      rw [if_neg (by omega)]
      refine A_skip ?_; refine T_n ?_; refine A_seq ?_; refine A_region ?_; refine M0 (q_moveC rfl rfl rfl) rfl rfl ?_; refine M0 (q_moveC rfl rfl rfl) rfl rfl ?_
      refine M0 (q_add rfl rfl rfl rfl (by omega)) rfl rfl ?_; refine M0 (q_assignC rfl rfl rfl) rfl rfl ?_; refine M0 (q_assignC rfl rfl rfl) rfl rfl ?_
      refine M0 (q_assignC rfl rfl rfl) rfl rfl ?_; refine L_nil ?_; refine T_n ?_; refine A_ret ?_; refine B_r ?_; refine T_r ?_; refine T_r ?_; refine B_r ?_; refine T_r ?_; refine F_r ?_
      exact E_tmp3 rfl rfl rfl rfl (W_end [] (by decide) rfl rfl rfl)
  · simp only [Bool.and_eq_false_iff, decide_eq_false_iff_not] at h
    rw [show dvGo s q n k (6 - k) = none by
      cases hf : 6 - k with
      | zero => rfl
      | succ f => rw [dvGo, if_neg (by omega)]]
    refine A_exit ?_; refine T_x ?_; refine T_x ?_; refine B_xs ?_; refine T_n ?_; refine A_seq ?_; refine A_region ?_; refine M0 (q_assignC rfl rfl rfl) rfl rfl ?_
    refine M0 (q_assignC rfl rfl rfl) rfl rfl ?_; refine M0 (q_assignC rfl rfl rfl) rfl rfl ?_; refine L_nil ?_; refine T_n ?_; refine A_ret ?_; refine F_r ?_
    exact E_tmp3 rfl rfl rfl rfl (W_end [] (by decide) rfl rfl rfl)
theorem or_add {n r M : Nat} {k d : Nat} (hM : 2 ^ (7 * k) = M) (hn : n < M) (hr : d * M = r) : n ||| r = n + r := by
  subst hM
  rw [← hr, Nat.mul_comm, Nat.add_comm, Nat.or_comm]
  exact (Nat.two_pow_add_eq_or_of_lt hn d).symm
/-- the bytes of s from p on, k of them -/
def bytesL (s : ByteArray) (p k : Nat) : List UInt8 := (s.data.toList.drop p).take k
theorem byteAt_list {s : ByteArray} {i : Nat} (h : i < s.size) : ∃ b : UInt8, s.data.toList[i]? = some b ∧ byteAt s i = (b.toNat : Int) := by
  have h1 : i < s.data.size := h
  refine ⟨s.data[i], by simp [h1], ?_⟩
  unfold byteAt
  have : s[i]? = some s.data[i] := by
    rw [getElem?_pos s i h]
    rfl
  rw [this]
  rfl
theorem bytesL_succ {s : ByteArray} {p k : Nat} (h : p + k < s.size) : ∃ b : UInt8, bytesL s p (k + 1) = bytesL s p k ++ [b] ∧ byteAt s (p + k) = (b.toNat : Int) := by
  obtain ⟨b, h1, h2⟩ := byteAt_list h
  refine ⟨b, ?_, h2⟩
  unfold bytesL
  rw [List.take_add_one, List.getElem?_drop, h1]
  rfl
def dval : List UInt8 → Nat
  | [] => 0
  | b :: l => b.toNat % 128 + 128 * dval l
theorem dval_snoc (b : UInt8) : ∀ l : List UInt8, dval (l ++ [b]) = dval l + b.toNat % 128 * 2 ^ (7 * l.length)
  | [] => by simp [dval]
  | a :: l => by
    have h1 := dval_snoc b l
    have h2 := pow7s l.length
    simp only [List.cons_append, dval, List.length_cons, h1, h2]
    rw [Nat.mul_add, Nat.add_assoc, Nat.mul_left_comm]
theorem dval_lt : ∀ l : List UInt8, dval l < 2 ^ (7 * l.length)
  | [] => by simp [dval]
  | a :: l => by
    have h1 := dval_lt l
    have h2 := pow7s l.length
    simp only [dval, List.length_cons, h2]
    omega
theorem dval_zero {b : UInt8} (hb : b.toNat < 128) : ∀ {l : List UInt8}, dval (l ++ [b]) = 0 → b.toNat = 0
  | [], h => by simp [dval] at h; omega
  | a :: l, h => by
    simp only [List.cons_append, dval] at h
    exact dval_zero hb (l := l) (by omega)
theorem canon {b : UInt8} (hb : b.toNat < 128) : ∀ (l : List UInt8), (∀ a ∈ l, 128 ≤ a.toNat) → (varN (dval (l ++ [b])) = l ++ [b] ↔ (l = [] ∨ b.toNat ≠ 0))
  | [], _ => by
    simp only [List.nil_append, dval, true_or, iff_true]
    rw [Nat.mod_eq_of_lt hb, Nat.mul_zero, Nat.add_zero, varN_small hb, UInt8.ofNat_toNat]
  | a :: l, h => by
    have ih := canon hb l fun x hx => h x (by simp [hx])
    have ha := h a (by simp)
    have ha2 := a.toNat_lt
    simp only [List.cons_append, dval]
    by_cases hD : dval (l ++ [b]) = 0
    · have h0 := dval_zero hb hD
      rw [hD, Nat.mul_zero, Nat.add_zero, varN_small (by omega)]
      constructor
      · intro e
        have := congrArg List.length e
        simp at this
      · intro e
        rcases e with e | e
        · cases e
        · exact absurd h0 e
    · have hm : (a.toNat % 128 + 128 * dval (l ++ [b])) % 128 = a.toNat % 128 := by omega
      have hq : (a.toNat % 128 + 128 * dval (l ++ [b])) / 128 = dval (l ++ [b]) := by omega
      have ha3 : UInt8.ofNat (a.toNat % 128 + 128) = a := by
        rw [show a.toNat % 128 + 128 = a.toNat by omega, UInt8.ofNat_toNat]
      rw [varN_big (by omega), hm, hq, ha3]
      simp only [List.cons.injEq, true_and]
      rw [ih]
      constructor
      · intro e
        rcases e with rfl | e
        · refine .inr fun e => hD ?_
          simp [dval, e]
        · exact .inr e
      · intro e
        rcases e with e | e
        · cases e
        · exact .inr e
theorem extract_list (s : ByteArray) (p q : Nat) : (s.extract p q).data.toList = (s.data.toList.drop p).take (q - p) := by
  rw [ByteArray.data_extract, Array.toList_extract]
theorem extract_bytes (s : ByteArray) (p k : Nat) : s.extract p (p + k) = bs (bytesL s p k) := by
  rw [← bs_of (s.extract p (p + k)), extract_list, show p + k - p = k by omega]
  rfl
set_option maxHeartbeats 8000000 in
theorem S_DecodeVarint (s : ByteArray) (p : Int) (hs : s.size ≤ 1099511627776) (hp : I64 p) : Con Try.prog 99 [] [astr s, ai p] [] (dvR (decVar s p)) := by
  obtain ⟨hp1, hp2⟩ := hp
  by_cases hneg : p < 0
  · have hb1 : decide (p < 0) = true := decide_eq_true hneg
    rw [show decVar s p = none by rw [decVar, if_neg (by omega)]]
    refine Con.of Try.func99 rfl Try.ntmps99 rfl (fun E => ?_)
    refine A_seq ?_; refine A_region ?_; refine M0 (q_assignC rfl rfl rfl) rfl rfl ?_; refine M0 (q_assignC rfl rfl rfl) rfl rfl ?_; refine M0 (q_assignC rfl rfl rfl) rfl rfl ?_; refine L_nil ?_
    refine T_n ?_; refine A_seq ?_; refine A_seq ?_; refine A_region ?_; refine M0 (q_moveC rfl rfl rfl) rfl rfl ?_; refine M0 (q_lssK rfl rfl rfl rfl (by assumption)) rfl rfl ?_; refine L_nil ?_
    refine T_n ?_; refine A_ifT rfl ?_; refine A_seq ?_; refine A_region ?_; refine M0 (q_assignC rfl rfl rfl) rfl rfl ?_; refine M0 (q_assignC rfl rfl rfl) rfl rfl ?_
    refine M0 (q_assignC rfl rfl rfl) rfl rfl ?_; refine L_nil ?_; refine T_n ?_; refine A_ret ?_; refine T_r ?_; refine F_r ?_
    exact E_tmp3 rfl rfl rfl rfl (W_end [] (by decide) rfl rfl rfl)
  have hb1 : decide (p < 0) = false := decide_eq_false hneg
  by_cases hbig : (s.size : Int) ≤ p
  · have hb2 : decide (p < (s.size : Int)) = false := decide_eq_false (by omega)
    rw [show decVar s p = none by rw [decVar, if_neg (by omega)]]
    refine Con.of Try.func99 rfl Try.ntmps99 rfl (fun E => ?_)
    refine A_seq ?_; refine A_region ?_; refine M0 (q_assignC rfl rfl rfl) rfl rfl ?_; refine M0 (q_assignC rfl rfl rfl) rfl rfl ?_; refine M0 (q_assignC rfl rfl rfl) rfl rfl ?_; refine L_nil ?_
    refine T_n ?_; refine A_seq ?_; refine A_seq ?_; refine A_region ?_; refine M0 (q_moveC rfl rfl rfl) rfl rfl ?_; refine M0 (q_lssK rfl rfl rfl rfl (by assumption)) rfl rfl ?_; refine L_nil ?_
    refine T_n ?_; refine A_ifF rfl ?_; refine A_skip ?_; refine T_n ?_; refine A_seq ?_; refine A_region ?_; refine M0 (q_assignC rfl rfl rfl) rfl rfl ?_; refine L_nil ?_; refine T_n ?_
    refine A_seq ?_; refine A_seq ?_; refine A_region ?_; refine M0 (q_assignC rfl rfl rfl) rfl rfl ?_; refine L_nil ?_; refine T_n ?_; refine A_block ?_
    refine A_loop (fun m st => ∃ k : Nat, k + m = 1 ∧ (True) ∧ st = (fun k : Nat => (⟨_, [(0, S s), (1, I p), (8, I k)], []⟩ : St)) k) (1) ⟨(fun k : Nat => (⟨_, [(0, S s), (1, I p), (8, I k)], []⟩ : St)) 0, W_go [] (by decide) rfl (rfl) (.cons rfl (.cons rfl (.cons rfl (.nil)))), 0, by omega, trivial, rfl⟩ ?_
    rintro m_A _ ⟨k, hk_A, hp_A, rfl⟩
    have hkz : k = 0 ∨ k = 1 := by omega
    have hb3 : decide ((k : Int) < 6) = true := decide_eq_true (by omega)
    refine A_seq ?_; refine A_seq ?_; refine A_region ?_; refine M0 (q_moveC rfl rfl rfl) rfl rfl ?_; refine M0 (q_lssK rfl rfl rfl rfl (by assumption)) rfl rfl ?_
    refine M0 (q_moveC rfl rfl rfl) rfl rfl ?_; refine M_yes rfl rfl rfl ?_; refine M0 (q_moveC rfl rfl rfl) rfl rfl ?_; refine M_yes rfl rfl rfl ?_; refine M0 (q_moveC rfl rfl rfl) rfl rfl ?_
    refine M_yes rfl rfl rfl ?_; refine M0 (q_lens rfl rfl rfl) rfl rfl ?_; refine M_yes rfl rfl rfl ?_; refine M0 (q_lssK rfl rfl rfl rfl (by assumption)) rfl rfl ?_
    refine M0 (q_pickT rfl rfl rfl rfl) rfl rfl ?_; refine M0 (q_moveC rfl rfl rfl) rfl rfl ?_; refine M_no rfl rfl rfl rfl rfl rfl ?_; refine M_no rfl rfl rfl rfl rfl rfl ?_
    refine M_no rfl rfl rfl rfl rfl rfl ?_; refine M_no rfl rfl rfl rfl rfl rfl ?_; refine M_no rfl rfl rfl rfl rfl rfl ?_; refine M_no rfl rfl rfl rfl rfl rfl ?_
    refine M0 (q_pickF rfl rfl rfl rfl) rfl rfl ?_; refine L_nil ?_; refine T_n ?_; refine A_ifF rfl ?_; refine A_exit ?_; refine T_x ?_; refine T_x ?_; refine B_xs ?_; refine T_n ?_; refine A_seq ?_
    refine A_region ?_; refine M0 (q_assignC rfl rfl rfl) rfl rfl ?_; refine M0 (q_assignC rfl rfl rfl) rfl rfl ?_; refine M0 (q_assignC rfl rfl rfl) rfl rfl ?_; refine L_nil ?_; refine T_n ?_
    refine A_ret ?_; refine F_r ?_
    exact E_tmp3 rfl rfl rfl rfl (W_end [] (by decide) rfl rfl rfl)
  obtain ⟨q, rfl⟩ : ∃ q : Nat, p = q := ⟨p.toNat, by omega⟩
  have hb2 : decide ((q : Int) < (s.size : Int)) = true := decide_eq_true (by omega)
  rw [show decVar s q = dvGo s q 0 0 6 by rw [decVar, if_pos (by omega)]; rfl]
  refine Con.of Try.func99 rfl Try.ntmps99 rfl (fun E => ?_)
  refine A_seq ?_; refine A_region ?_; refine M0 (q_assignC rfl rfl rfl) rfl rfl ?_; refine M0 (q_assignC rfl rfl rfl) rfl rfl ?_; refine M0 (q_assignC rfl rfl rfl) rfl rfl ?_; refine L_nil ?_
  refine T_n ?_; refine A_seq ?_; refine A_seq ?_; refine A_region ?_; refine M0 (q_moveC rfl rfl rfl) rfl rfl ?_; refine M0 (q_lssK rfl rfl rfl rfl (by assumption)) rfl rfl ?_; refine L_nil ?_
  refine T_n ?_; refine A_ifF rfl ?_; refine A_skip ?_; refine T_n ?_; refine A_seq ?_; refine A_region ?_; refine M0 (q_assignC rfl rfl rfl) rfl rfl ?_; refine L_nil ?_; refine T_n ?_
  refine A_seq ?_; refine A_seq ?_; refine A_region ?_; refine M0 (q_assignC rfl rfl rfl) rfl rfl ?_; refine L_nil ?_; refine T_n ?_; refine A_block ?_
  refine A_loop (fun m__ st => ∃ (k : Nat) (n : Nat), 6 - k = m__ ∧ (k ≤ 6 ∧ q + k ≤ s.size ∧ (∀ a ∈ bytesL s q k, 128 ≤ a.toNat) ∧ n = dval (bytesL s q k) ∧ dvGo s q n k (6 - k) = dvGo s q 0 0 6) ∧ st = (fun (k : Nat) (n : Nat) => (⟨_, [(0, S s), (1, I q), (7, I n), (8, I k)], []⟩ : St)) (k) (n)) ((fun (k : Nat) (n : Nat) => 6 - k) (0) (0)) ⟨(fun (k : Nat) (n : Nat) => (⟨_, [(0, S s), (1, I q), (7, I n), (8, I k)], []⟩ : St)) (0) (0), W_go [] (by decide) rfl (rfl) (.cons rfl (.cons rfl (.cons rfl (.cons rfl (.nil))))), 0, 0, rfl, ⟨by omega, by omega, by simp [bytesL], by simp [bytesL, dval], rfl⟩, rfl⟩ ?_
  rintro m_A _ ⟨k, n, hk_A, hp_A, rfl⟩
  obtain ⟨hk6, hqk, hall, hn, hgo⟩ := hp_A
  have hlen : (bytesL s q k).length = k := by
    have : s.data.toList.length = s.size := by simp
    simp [bytesL]; omega
  have hn1 := dval_lt (bytesL s q k)
  rw [← hn, hlen] at hn1
  obtain ⟨M, hM, hM1, hM2⟩ := pow7 hk6
  have hMs := pow7s k
  rw [hM] at hn1 hMs
  rw [← hgo]
  refine A_seq ?_; refine A_seq ?_; refine A_region ?_; refine M0 (q_moveC rfl rfl rfl) rfl rfl ?_; refine M0 (q_lss rfl rfl rfl rfl) rfl rfl ?_; refine M0 (q_moveC rfl rfl rfl) rfl rfl ?_
  refine M0 (Qt.grdT rfl rfl rfl .stop (fun hgrd => q_moveC rfl rfl rfl)) rfl rfl ?_; refine M0 (Qt.grdT rfl rfl rfl (.hit .stop) (fun hgrd => q_moveC rfl rfl rfl)) rfl rfl ?_
  refine M0 (Qt.grdT rfl rfl rfl (.hit (.hit .stop)) (fun hgrd => q_lens rfl rfl rfl)) rfl rfl ?_
  refine M0 (Qt.grdT rfl rfl rfl (.hit (.hit (.hit .stop))) (fun hgrd => q_lssK rfl rfl rfl rfl (by assumption))) rfl rfl ?_; refine M0 (q_and rfl rfl rfl rfl) rfl rfl ?_
  refine M0 (q_moveC rfl rfl rfl) rfl rfl ?_; refine M0 (Qt.grdT rfl rfl rfl .stop (fun hgrd => q_moveC rfl rfl rfl)) rfl rfl ?_
  refine M0 (Qt.grdT rfl rfl rfl (.hit .stop) (fun hgrd => q_moveC rfl rfl rfl)) rfl rfl ?_
  refine M0 (Qt.grdT rfl rfl rfl (.hit (.hit .stop)) (fun hgrd => q_add rfl rfl rfl rfl (by omega))) rfl rfl ?_
  refine M0 (Qt.grdT rfl rfl rfl (.hit (.hit (.hit .stop))) (fun hgrd => q_moveC rfl rfl rfl)) rfl rfl ?_
  refine M0 (Qt.grdT rfl rfl rfl (.hit (.hit (.hit (.hit .stop)))) (fun hgrd => q_lens rfl rfl rfl)) rfl rfl ?_
  refine M0 (Qt.grdT rfl rfl rfl (.hit (.hit (.hit (.hit (.hit .stop))))) (fun hgrd => q_lss rfl rfl rfl rfl)) rfl rfl ?_; refine M0 (q_and rfl rfl rfl rfl) rfl rfl ?_; refine L_nil ?_
  refine T_n ?_
  refine A_cond rfl (fun h => ?_) (fun h => ?_)
  · simp only [Bool.and_eq_true, decide_eq_true_eq] at h
    have hlt : q + k < s.size := by omega
    obtain ⟨f, hf⟩ : ∃ f, 6 - k = f + 1 := ⟨5 - k, by omega⟩
    obtain ⟨b, hb, hcb⟩ := bytesL_succ hlt
    obtain ⟨c, hc⟩ : ∃ c : Nat, b.toNat = c := ⟨_, rfl⟩
    rw [hc] at hcb
    have hcr := byteAt_lt s (q + k)
    rw [hcb] at hcr
    have hc1 : byteAt s ((q : Int) + (k : Int)).toNat = (c : Int) := by rw [← hcb]; congr 1
    obtain ⟨d, hd⟩ : ∃ d : Nat, c % 128 = d := ⟨_, rfl⟩
    have hd1 : (c : Int).toNat &&& (127 : Int).toNat = d := by
      rw [show (127 : Int).toNat = 2 ^ 7 - 1 from rfl, Nat.and_two_pow_sub_one_eq_mod]
      exact hd
    obtain ⟨r, hr⟩ : ∃ r : Nat, d * M = r := ⟨_, rfl⟩
    have hr2 : r ≤ 127 * M := by rw [← hr]; exact Nat.mul_le_mul_right _ (by omega)
    have hr1 : (d : Int) * 2 ^ (7 * (k : Int)).toNat = (r : Int) := by rw [pow7i, hM, ← hr]; norm_cast
    have hor : (n : Int).toNat ||| (r : Int).toNat = n + r := or_add hM hn1 hr
    have hval : n + r = dval (bytesL s q (k + 1)) := by rw [hb, dval_snoc, hlen, hM, hc, hd, hr, ← hn]
    have hgo1 : dvGo s q n k (f + 1) = if 128 ≤ (c : Int) then dvGo s q ((n + r : Nat) : Int) (k + 1) f else if ((c : Int) = 0 ∧ 0 < k) ∨ 1099511627775 < ((n + r : Nat) : Int) then none else some (((n + r : Nat) : Int), k + 1) := by
      have h9 : (n : Int) + (c : Int) % 128 * 2 ^ (7 * k) = ((n + r : Nat) : Int) := by
        rw [show (c : Int) % 128 = d by omega, ← hr, ← hM]
        norm_cast
      rw [dvGo, if_pos hlt, hcb, h9]
    rw [hf, hgo1]
    by_cases h7 : 128 ≤ (c : Int)
    · have hb7 : decide ((c : Int) < 128) = false := decide_eq_false (by omega)
      refine A_skip ?_; refine T_n ?_; refine A_seq ?_; refine A_block ?_; refine A_seq ?_; refine A_region ?_; refine M0 (q_moveC rfl rfl rfl) rfl rfl ?_; refine M0 (q_moveC rfl rfl rfl) rfl rfl ?_
      refine M0 (q_moveC rfl rfl rfl) rfl rfl ?_; refine M0 (q_moveC rfl rfl rfl) rfl rfl ?_; refine M0 (q_add rfl rfl rfl rfl (by omega)) rfl rfl ?_
      refine M0 (q_byteK rfl rfl rfl rfl (by assumption) (by omega)) rfl rfl ?_; refine M0 (q_band8K rfl rfl rfl rfl (by assumption) (by omega)) rfl rfl ?_
      refine M0 (q_convI rfl rfl rfl rfl (wrap_i64 (by omega))) rfl rfl ?_; refine M0 (q_moveC rfl rfl rfl) rfl rfl ?_; refine M0 (q_mul rfl rfl rfl rfl (by omega)) rfl rfl ?_
      refine M0 (q_shlK rfl rfl rfl rfl (by assumption) (by omega) (by omega)) rfl rfl ?_; refine M0 (q_borK rfl rfl rfl rfl (by assumption) (by omega)) rfl rfl ?_
      refine M0 (q_assignC rfl rfl rfl) rfl rfl ?_; refine L_nil ?_; refine T_n ?_; refine A_seq ?_; refine A_region ?_; refine M0 (q_moveC rfl rfl rfl) rfl rfl ?_
      refine M0 (q_moveC rfl rfl rfl) rfl rfl ?_; refine M0 (q_moveC rfl rfl rfl) rfl rfl ?_; refine M0 (q_add rfl rfl rfl rfl (by omega)) rfl rfl ?_
      refine M0 (q_byteK rfl rfl rfl rfl (by assumption) (by omega)) rfl rfl ?_; refine M0 (q_lssK rfl rfl rfl rfl (by assumption)) rfl rfl ?_; refine L_nil ?_; refine T_n ?_
      refine A_ifF rfl ?_; refine A_skip ?_; refine B_n ?_; refine T_n ?_; refine A_region ?_; refine M0 (q_moveC rfl rfl rfl) rfl rfl ?_; refine M0 (q_add rfl rfl rfl rfl (by omega)) rfl rfl ?_
      refine M0 (q_assignC rfl rfl rfl) rfl rfl ?_; refine L_nil ?_; refine T_n ?_
      refine ⟨6 - (k + 1), (by omega), (fun (k : Nat) (n : Nat) => (⟨_, [(0, S s), (1, I q), (7, I n), (8, I k)], []⟩ : St)) (k + 1) (n + r), W_go [] (by decide) rfl (rfl) (.cons rfl (.cons rfl (.cons rfl (.cons rfl (.nil))))), k + 1, n + r, rfl, ⟨by omega, by omega, by rw [hb]; intro a ha; rcases List.mem_append.1 ha with ha | ha; exact hall a ha; simp only [List.mem_singleton] at ha; rw [ha]; omega, hval, by rw [if_pos h7, show 6 - (k + 1) = f by omega]⟩, rfl⟩
    have hb7 : decide ((c : Int) < 128) = true := decide_eq_true (by omega)
    rw [if_neg h7]
    have hcan := canon (b := b) (by omega) (bytesL s q k) hall
    rw [← hb, ← hval] at hcan
    have hle := encVar_len ((n + r : Nat) : Int)
    have hex := extract_bytes s q (k + 1)
    have hnil : bytesL s q k = [] ↔ k = 0 := by rw [← List.length_eq_zero_iff, hlen]
    have hne : bytesL s q (k + 1) ≠ [] := by rw [hb]; simp
    have hex1 : s.extract ((q : Int)).toNat ((q : Int) + (k : Int) + 1).toNat = bs (bytesL s q (k + 1)) := by rw [← hex]; congr 1
    have hiff : bs (encVar ((n + r : Nat) : Int)) = bs (bytesL s q (k + 1)) ↔ ¬ (((c : Int) = 0 ∧ 0 < k) ∨ 1099511627775 < ((n + r : Nat) : Int)) := by
      rw [bs_inj, encVar]
      split
      · rename_i h5
        rw [show (((n + r : Nat) : Int)).toNat = n + r by omega, hcan, hnil]
        omega
      · exact ⟨fun e => absurd e.symm hne, fun e => by omega⟩
    by_cases h8 : ((c : Int) = 0 ∧ 0 < k) ∨ 1099511627775 < ((n + r : Nat) : Int)
    · rw [if_pos h8]
      have hb8 : decide (bs (encVar ((n + r : Nat) : Int)) ≠ s.extract ((q : Int)).toNat ((q : Int) + (k : Int) + 1).toNat) = true := decide_eq_true (by rw [hex1]; exact fun e => hiff.1 e h8)
      refine A_skip ?_; refine T_n ?_; refine A_seq ?_; refine A_block ?_; refine A_seq ?_; refine A_region ?_; refine M0 (q_moveC rfl rfl rfl) rfl rfl ?_; refine M0 (q_moveC rfl rfl rfl) rfl rfl ?_
      refine M0 (q_moveC rfl rfl rfl) rfl rfl ?_; refine M0 (q_moveC rfl rfl rfl) rfl rfl ?_; refine M0 (q_add rfl rfl rfl rfl (by omega)) rfl rfl ?_
      refine M0 (q_byteK rfl rfl rfl rfl (by assumption) (by omega)) rfl rfl ?_; refine M0 (q_band8K rfl rfl rfl rfl (by assumption) (by omega)) rfl rfl ?_
      refine M0 (q_convI rfl rfl rfl rfl (wrap_i64 (by omega))) rfl rfl ?_; refine M0 (q_moveC rfl rfl rfl) rfl rfl ?_; refine M0 (q_mul rfl rfl rfl rfl (by omega)) rfl rfl ?_
      refine M0 (q_shlK rfl rfl rfl rfl (by assumption) (by omega) (by omega)) rfl rfl ?_; refine M0 (q_borK rfl rfl rfl rfl (by assumption) (by omega)) rfl rfl ?_
      refine M0 (q_assignC rfl rfl rfl) rfl rfl ?_; refine L_nil ?_; refine T_n ?_; refine A_seq ?_; refine A_region ?_; refine M0 (q_moveC rfl rfl rfl) rfl rfl ?_
      refine M0 (q_moveC rfl rfl rfl) rfl rfl ?_; refine M0 (q_moveC rfl rfl rfl) rfl rfl ?_; refine M0 (q_add rfl rfl rfl rfl (by omega)) rfl rfl ?_
      refine M0 (q_byteK rfl rfl rfl rfl (by assumption) (by omega)) rfl rfl ?_; refine M0 (q_lssK rfl rfl rfl rfl (by assumption)) rfl rfl ?_; refine L_nil ?_; refine T_n ?_
      refine A_ifT rfl ?_; refine A_seq ?_; refine A_seq ?_
      refine A_draw [[], [0], [], [], [], [], [4, 5], [4, 5, 6], [2, 3, 4, 5, 6, 7], [0, 1, 2, 3, 4, 5, 6, 7, 8]] [[], [47], [], [], [], [], [51, 52], [51, 52, 53], [49, 50, 51, 52, 53, 54], [47, 48, 49, 50, 51, 52, 53, 54, 55]] [[49, 50, 51, 52, 53, 54, 55], [49, 50, 51, 52, 53, 54, 55], [47, 48, 50, 51, 52, 53, 54], [47, 48, 49, 51, 52, 53, 54], [47, 48, 49, 50, 52], [47, 48, 49, 50, 51], [47, 48, 49, 50], [47, 48, 49, 50], [47, 48], []] rfl ?_
      refine DR.step (q_moveC rfl rfl rfl) rfl rfl ?_; refine DR.step (q_call0 rfl rfl (S_EncodeVarint ((n + r : Nat) : Int)) rfl) rfl rfl ?_; refine DR.step (q_moveC rfl rfl rfl) rfl rfl ?_
      refine DR.step (q_moveC rfl rfl rfl) rfl rfl ?_; refine DR.step (q_moveC rfl rfl rfl) rfl rfl ?_; refine DR.step (q_moveC rfl rfl rfl) rfl rfl ?_
      refine DR.step (q_add rfl rfl rfl rfl (by omega)) rfl rfl ?_; refine DR.step (q_add rfl rfl rfl rfl (by omega)) rfl rfl ?_
      refine DR.step (q_sslice rfl rfl rfl rfl rfl (by omega)) rfl rfl ?_; refine DR.step (q_sneqK rfl rfl rfl rfl (by assumption)) rfl rfl ?_
      refine DR.stop (by kernel_rfl) (by kernel_rfl) ?_
      refine L_nil ?_; refine T_n ?_; refine A_ifT rfl ?_; refine A_seq ?_; refine A_region ?_; refine M0 (q_assignC rfl rfl rfl) rfl rfl ?_; refine M0 (q_assignC rfl rfl rfl) rfl rfl ?_
      refine M0 (q_assignC rfl rfl rfl) rfl rfl ?_; refine L_nil ?_; refine T_n ?_; refine A_ret ?_; refine T_r ?_; refine B_r ?_; refine T_r ?_; refine T_r ?_; refine B_r ?_; refine T_r ?_; refine F_r ?_
      exact E_tmp3 rfl rfl rfl rfl (W_end [] (by decide) rfl rfl rfl)
    · rw [if_neg h8]
      have hb8 : decide (bs (encVar ((n + r : Nat) : Int)) ≠ s.extract ((q : Int)).toNat ((q : Int) + (k : Int) + 1).toNat) = false := decide_eq_false (by rw [hex1]; exact fun e => e (hiff.2 h8))
      refine A_skip ?_; refine T_n ?_; refine A_seq ?_; refine A_block ?_; refine A_seq ?_; refine A_region ?_; refine M0 (q_moveC rfl rfl rfl) rfl rfl ?_; refine M0 (q_moveC rfl rfl rfl) rfl rfl ?_
      refine M0 (q_moveC rfl rfl rfl) rfl rfl ?_; refine M0 (q_moveC rfl rfl rfl) rfl rfl ?_; refine M0 (q_add rfl rfl rfl rfl (by omega)) rfl rfl ?_
      refine M0 (q_byteK rfl rfl rfl rfl (by assumption) (by omega)) rfl rfl ?_; refine M0 (q_band8K rfl rfl rfl rfl (by assumption) (by omega)) rfl rfl ?_
      refine M0 (q_convI rfl rfl rfl rfl (wrap_i64 (by omega))) rfl rfl ?_; refine M0 (q_moveC rfl rfl rfl) rfl rfl ?_; refine M0 (q_mul rfl rfl rfl rfl (by omega)) rfl rfl ?_
      refine M0 (q_shlK rfl rfl rfl rfl (by assumption) (by omega) (by omega)) rfl rfl ?_; refine M0 (q_borK rfl rfl rfl rfl (by assumption) (by omega)) rfl rfl ?_
      refine M0 (q_assignC rfl rfl rfl) rfl rfl ?_; refine L_nil ?_; refine T_n ?_; refine A_seq ?_; refine A_region ?_; refine M0 (q_moveC rfl rfl rfl) rfl rfl ?_
      refine M0 (q_moveC rfl rfl rfl) rfl rfl ?_; refine M0 (q_moveC rfl rfl rfl) rfl rfl ?_; refine M0 (q_add rfl rfl rfl rfl (by omega)) rfl rfl ?_
      refine M0 (q_byteK rfl rfl rfl rfl (by assumption) (by omega)) rfl rfl ?_; refine M0 (q_lssK rfl rfl rfl rfl (by assumption)) rfl rfl ?_; refine L_nil ?_; refine T_n ?_
      refine A_ifT rfl ?_; refine A_seq ?_; refine A_seq ?_
      refine A_draw [[], [0], [], [], [], [], [4, 5], [4, 5, 6], [2, 3, 4, 5, 6, 7], [0, 1, 2, 3, 4, 5, 6, 7, 8]] [[], [47], [], [], [], [], [51, 52], [51, 52, 53], [49, 50, 51, 52, 53, 54], [47, 48, 49, 50, 51, 52, 53, 54, 55]] [[49, 50, 51, 52, 53, 54, 55], [49, 50, 51, 52, 53, 54, 55], [47, 48, 50, 51, 52, 53, 54], [47, 48, 49, 51, 52, 53, 54], [47, 48, 49, 50, 52], [47, 48, 49, 50, 51], [47, 48, 49, 50], [47, 48, 49, 50], [47, 48], []] rfl ?_
      refine DR.step (q_moveC rfl rfl rfl) rfl rfl ?_; refine DR.step (q_call0 rfl rfl (S_EncodeVarint ((n + r : Nat) : Int)) rfl) rfl rfl ?_; refine DR.step (q_moveC rfl rfl rfl) rfl rfl ?_
      refine DR.step (q_moveC rfl rfl rfl) rfl rfl ?_; refine DR.step (q_moveC rfl rfl rfl) rfl rfl ?_; refine DR.step (q_moveC rfl rfl rfl) rfl rfl ?_
      refine DR.step (q_add rfl rfl rfl rfl (by omega)) rfl rfl ?_; refine DR.step (q_add rfl rfl rfl rfl (by omega)) rfl rfl ?_
      refine DR.step (q_sslice rfl rfl rfl rfl rfl (by omega)) rfl rfl ?_; refine DR.step (q_sneqK rfl rfl rfl rfl (by assumption)) rfl rfl ?_
      refine DR.stop (by kernel_rfl) (by kernel_rfl) ?_
      refine L_nil ?_; refine T_n ?_; refine A_ifF rfl ?_; refine A_skip ?_; refine T_n ?_; refine A_seq ?_; refine A_region ?_; refine M0 (q_moveC rfl rfl rfl) rfl rfl ?_
      refine M0 (q_moveC rfl rfl rfl) rfl rfl ?_; refine M0 (q_add rfl rfl rfl rfl (by omega)) rfl rfl ?_; refine M0 (q_assignC rfl rfl rfl) rfl rfl ?_
      refine M0 (q_assignC rfl rfl rfl) rfl rfl ?_; refine M0 (q_assignC rfl rfl rfl) rfl rfl ?_; refine L_nil ?_; refine T_n ?_; refine A_ret ?_; refine B_r ?_; refine T_r ?_; refine T_r ?_
      refine B_r ?_; refine T_r ?_; refine F_r ?_
      exact E_tmp3 rfl rfl rfl rfl (W_end [] (by decide) rfl rfl rfl)
  · simp only [Bool.and_true, Bool.and_eq_false_iff, decide_eq_false_iff_not] at h
    rw [show dvGo s q n k (6 - k) = none by
      cases hf : 6 - k with
      | zero => rfl
      | succ f => rw [dvGo, if_neg (by omega)]]
    refine A_exit ?_; refine T_x ?_; refine T_x ?_; refine B_xs ?_; refine T_n ?_; refine A_seq ?_; refine A_region ?_; refine M0 (q_assignC rfl rfl rfl) rfl rfl ?_
    refine M0 (q_assignC rfl rfl rfl) rfl rfl ?_; refine M0 (q_assignC rfl rfl rfl) rfl rfl ?_; refine L_nil ?_; refine T_n ?_; refine A_ret ?_; refine F_r ?_
    exact E_tmp3 rfl rfl rfl rfl (W_end [] (by decide) rfl rfl rfl)
end Go.Proofs.Ytkfnaniegldfaaa
end

section
set_option linter.unusedSimpArgs false
set_option linter.unusedVariables false
set_option maxRecDepth 8000
namespace Go.Proofs.Ytkfnaniegldfaaa
open Go.RowKit

theorem dvGo_some (s : ByteArray) (q : Nat) : ∀ (f k : Nat) (n m : Int) (j : Nat), 0 ≤ n → dvGo s q n k f = some (m, j) → 0 ≤ m ∧ m ≤ 1099511627775 ∧ k < j ∧ j ≤ k + f ∧ q + j ≤ s.size := by
  intro f
  induction f with
  | zero => intro k n m j _ h; simp [dvGo] at h
  | succ f ih =>
    intro k n m j h0 h
    have hb := byteAt_lt s (q + k)
    rw [dvGo] at h
    have hp : (0 : Int) ≤ byteAt s (q + k) % 128 * 2 ^ (7 * k) := Int.mul_nonneg (by omega) (Int.le_of_lt (Int.pow_pos (by omega)))
    split at h
    · split at h
      · have := ih (k + 1) _ m j (by omega) h
        omega
      · split at h
        · cases h
        · simp only [Option.some.injEq, Prod.mk.injEq] at h
          obtain ⟨rfl, rfl⟩ := h
          omega
    · cases h
theorem decVar_some {s : ByteArray} {p m : Int} {j : Nat} (h : decVar s p = some (m, j)) : 0 ≤ p ∧ 0 ≤ m ∧ m ≤ 1099511627775 ∧ 1 ≤ j ∧ j ≤ 6 ∧ p + j ≤ s.size := by
  unfold decVar at h
  split at h
  · have := dvGo_some s p.toNat 6 0 0 m j (by omega) h
    omega
  · cases h
theorem q_quoN {P : Program} {ops : Array Oper} {o : Oper} {st : St} {n : Nat} {t t' : TypeId} {y z : Operand} {ps qs : List Nat} {i j r : Int} (ho : o.op = .binOp .quo t y z t') (hg : o.guard = none) (hy : st.ev y = .o (.c (.rd ps (.v (.int .i64 i))))) (hz : st.ev z = .o (.c (.rd qs (.v (.int .i64 j)))))
    (hr : i.tdiv j = r) (hb : -9223372036854775808 ≤ i ∧ i ≤ 9223372036854775807 ∧ 1 ≤ j) : Qt P ops o st (I r) [] n :=
  hr ▸ q_arith ho hg hy hz fun w => by
    have : j ≠ 0 := by omega
    simp [binOp, Op.intDiv, this, IntWalk.i64_quo' _ _ hb]
def signed (n : Int) : Int := if 0 ≤ n ∧ n ≤ 1099511627775 then (if n % 2 = 0 then n / 2 else -((n + 1) / 2)) else 0
theorem signed_gd (n : Int) : I64 (signed n) := by
  unfold signed
  split
  · split <;> exact ⟨by omega, by omega⟩
  · exact ⟨by omega, by omega⟩
theorem neg_tdiv {n : Int} (h : 0 ≤ n) : (-(n + 1)).tdiv 2 = -((n + 1) / 2) := by
  rw [Int.neg_tdiv, Int.tdiv_eq_ediv_of_nonneg (by omega)]
set_option maxHeartbeats 8000000 in
theorem I_Signed (n : Int) (hn : I64 n) : Con Try.prog 104 [] [ai n] [] (I (signed n)) := by
  obtain ⟨hn1, hn2⟩ := hn
  refine Con.of Try.func104 rfl Try.ntmps104 rfl (fun E => ?_)
  refine A_seq ?_; refine A_region ?_; refine M0 (q_assignC rfl rfl rfl) rfl rfl ?_; refine L_nil ?_; refine T_n ?_; refine A_seq ?_; refine A_seq ?_; refine A_region ?_
  refine M0 (q_moveC rfl rfl rfl) rfl rfl ?_; refine M0 (q_lss rfl rfl rfl rfl) rfl rfl ?_; refine M0 (q_moveC rfl rfl rfl) rfl rfl ?_
  refine M0 (Qt.grdF rfl rfl rfl .stop (fun hgrd => q_moveC rfl rfl rfl)) rfl rfl ?_; refine M0 (Qt.grdF rfl rfl rfl (.hit .stop) (fun hgrd => q_gtr rfl rfl rfl rfl)) rfl rfl ?_
  refine M0 (q_or rfl rfl rfl rfl) rfl rfl ?_; refine L_nil ?_; refine T_n ?_
  refine A_cond rfl (fun h => ?_) (fun h => ?_)
  · simp only [Bool.or_eq_true, decide_eq_true_eq] at h
    refine A_seq ?_; refine A_region ?_; refine M0 (q_assignC rfl rfl rfl) rfl rfl ?_; refine L_nil ?_; refine T_n ?_; refine A_ret ?_; refine T_r ?_; refine F_r ?_
    exact E_tmp rfl rfl (W_end [] (by decide) rfl rfl (I_eq (by rw [signed, if_neg (by omega)])))
  simp only [Bool.or_eq_false_iff, decide_eq_false_iff_not] at h
  have hv := neg_tdiv (n := n) (by omega)
  refine A_skip ?_; refine T_n ?_; refine A_seq ?_; refine A_seq ?_; refine A_region ?_; refine M0 (q_moveC rfl rfl rfl) rfl rfl ?_; refine M0 (q_rem rfl rfl rfl rfl (by omega)) rfl rfl ?_
  refine M0 (q_eql rfl rfl rfl rfl) rfl rfl ?_; refine L_nil ?_; refine T_n ?_
  refine A_cond rfl (fun h1 => ?_) (fun h1 => ?_)
  · have h1 := of_decide_eq_true h1
    refine A_seq ?_; refine A_region ?_; refine M0 (q_moveC rfl rfl rfl) rfl rfl ?_; refine M0 (q_quo rfl rfl rfl rfl (by omega)) rfl rfl ?_; refine M0 (q_assignC rfl rfl rfl) rfl rfl ?_
    refine L_nil ?_; refine T_n ?_; refine A_ret ?_; refine T_r ?_; refine F_r ?_
    exact E_tmp rfl rfl (W_end [] (by decide) rfl rfl (I_eq (by rw [signed, if_pos (by omega), if_pos (by omega)])))
  · have h1 := of_decide_eq_false h1
    refine A_skip ?_; refine T_n ?_; refine A_seq ?_; refine A_region ?_; refine M0 (q_moveC rfl rfl rfl) rfl rfl ?_; refine M0 (q_add rfl rfl rfl rfl (by omega)) rfl rfl ?_
    refine M0 (q_neg rfl rfl rfl (by omega)) rfl rfl ?_; refine M0 (q_quoN rfl rfl rfl rfl (by assumption) (by omega)) rfl rfl ?_; refine M0 (q_assignC rfl rfl rfl) rfl rfl ?_
    refine L_nil ?_; refine T_n ?_; refine A_ret ?_; refine F_r ?_
    exact E_tmp rfl rfl (W_end [] (by decide) rfl rfl (I_eq (by rw [signed, if_pos (by omega), if_neg (by omega)])))
set_option maxHeartbeats 8000000 in
theorem S_Signed (n : Int) (hn : I64 n) : Con Try.prog 100 [] [ai n] [] (I (signed n)) := by
  obtain ⟨hn1, hn2⟩ := hn
  refine Con.of Try.func100 rfl Try.ntmps100 rfl (fun E => ?_)
  refine A_seq ?_; refine A_region ?_; refine M0 (q_assignC rfl rfl rfl) rfl rfl ?_; refine L_nil ?_; refine T_n ?_; refine A_seq ?_; refine A_seq ?_; refine A_region ?_
  refine M0 (q_moveC rfl rfl rfl) rfl rfl ?_; refine M0 (q_call0 rfl rfl (S_in n 0 1099511627775) rfl) rfl rfl ?_; refine M0 (q_not rfl rfl rfl) rfl rfl ?_; refine L_nil ?_; refine T_n ?_
  refine A_cond rfl (fun h => ?_) (fun h => ?_)
  · have h : ¬ (0 ≤ n ∧ n ≤ 1099511627775) := by rw [← inR_iff]; simpa using h
    refine A_seq ?_; refine A_region ?_; refine M0 (q_assignC rfl rfl rfl) rfl rfl ?_; refine L_nil ?_; refine T_n ?_; refine A_ret ?_; refine T_r ?_; refine F_r ?_
    exact E_tmp rfl rfl (W_end [] (by decide) rfl rfl (I_eq (by rw [signed, if_neg h])))
  have h : 0 ≤ n ∧ n ≤ 1099511627775 := by rw [← inR_iff]; simpa using h
  have hv := neg_tdiv (n := n) (by omega)
  have hm : n.toNat &&& (1 : Int).toNat = n.toNat % 2 := Nat.and_two_pow_sub_one_eq_mod n.toNat 1
  refine A_skip ?_; refine T_n ?_; refine A_seq ?_; refine A_seq ?_; refine A_region ?_; refine M0 (q_moveC rfl rfl rfl) rfl rfl ?_
  refine M0 (q_bandK rfl rfl rfl rfl (by assumption) (by omega)) rfl rfl ?_; refine M0 (q_eql rfl rfl rfl rfl) rfl rfl ?_; refine L_nil ?_; refine T_n ?_
  refine A_cond rfl (fun h1 => ?_) (fun h1 => ?_)
  · have h1 := of_decide_eq_true h1
    refine A_seq ?_; refine A_region ?_; refine M0 (q_moveC rfl rfl rfl) rfl rfl ?_; refine M0 (q_add rfl rfl rfl rfl (by omega)) rfl rfl ?_
    refine M0 (q_neg rfl rfl rfl (by omega)) rfl rfl ?_; refine M0 (q_quoN rfl rfl rfl rfl (by assumption) (by omega)) rfl rfl ?_; refine M0 (q_assignC rfl rfl rfl) rfl rfl ?_
    refine L_nil ?_; refine T_n ?_; refine A_ret ?_; refine T_r ?_; refine F_r ?_
    exact E_tmp rfl rfl (W_end [] (by decide) rfl rfl (I_eq (by rw [signed, if_pos (by omega), if_neg (by omega)])))
  · have h1 := of_decide_eq_false h1
    refine A_skip ?_; refine T_n ?_; refine A_seq ?_; refine A_region ?_; refine M0 (q_moveC rfl rfl rfl) rfl rfl ?_; refine M0 (q_quo rfl rfl rfl rfl (by omega)) rfl rfl ?_
    refine M0 (q_assignC rfl rfl rfl) rfl rfl ?_; refine L_nil ?_; refine T_n ?_; refine A_ret ?_; refine F_r ?_
    exact E_tmp rfl rfl (W_end [] (by decide) rfl rfl (I_eq (by rw [signed, if_pos (by omega), if_pos (by omega)])))
/-! ### Lists -/
def uiGo (s : ByteArray) (p : Nat) : Nat → Nat → Option (List Int × Nat)
  | 0, pos => some ([], pos)
  | c + 1, pos => match decVar s ((p : Int) + (pos : Int)) with
    | none => none
    | some (v, m) => (uiGo s p c (pos + m)).map fun r => (signed v :: r.1, r.2)
def unpackInts (s : ByteArray) (p : Int) : Option (List Int × Nat) := match decVar s p with
  | none => none
  | some (n, k) => uiGo s p.toNat n.toNat k
@[reducible] def uiO : Option (List Int × Nat) → List Ob
  | none => [.row 1 []]
  | some (l, _) => [.row 1 (els l)]
@[reducible] def uiR : Option (List Int × Nat) → V
  | none => .tu [.c (.ref 0), .c (jn 0), .c (bv false)]
  | some (_, k) => .tu [.c (.ref 0), .c (jn k), .c (bv true)]
theorem uiGo_some (s : ByteArray) (p : Nat) : ∀ (c pos : Nat) (l : List Int) (j : Nat), uiGo s p c pos = some (l, j) → l.length = c ∧ pos + c ≤ j ∧ (0 < c → p + j ≤ s.size) ∧ (∀ x ∈ l, I64 x) := by
  intro c
  induction c with
  | zero =>
    intro pos l j h
    simp only [uiGo, Option.some.injEq, Prod.mk.injEq] at h
    obtain ⟨rfl, rfl⟩ := h
    exact ⟨rfl, by omega, fun h => by omega, fun x hx => by simp at hx⟩
  | succ c ih =>
    intro pos l j h
    rw [uiGo] at h
    split at h
    · cases h
    · rename_i v m hd
      obtain ⟨r, h1, h2⟩ := Option.map_eq_some_iff.1 h
      simp only [Prod.mk.injEq] at h2
      obtain ⟨rfl, rfl⟩ := h2
      have hm := decVar_some hd
      obtain ⟨a1, a2, a3, a4⟩ := ih (pos + m) r.1 r.2 h1
      refine ⟨by simp [a1], by omega, fun _ => ?_, fun x hx => ?_⟩
      · by_cases hc : 0 < c
        · exact a3 hc
        · have : c = 0 := by omega
          subst this
          simp only [uiGo, Option.some.injEq] at h1
          rw [← h1]
          show p + (pos + m) ≤ s.size
          omega
      · rcases List.mem_cons.1 hx with rfl | hx
        · exact signed_gd v
        · exact a4 x hx
theorem unpackInts_some {s : ByteArray} {p : Int} {l : List Int} {j : Nat} (h : unpackInts s p = some (l, j)) : 0 ≤ p ∧ 1 ≤ j ∧ p + j ≤ s.size ∧ (l.length : Int) + 1 ≤ j ∧ (∀ x ∈ l, I64 x) := by
  unfold unpackInts at h
  split at h
  · cases h
  · rename_i n k hd
    have hm := decVar_some hd
    obtain ⟨a1, a2, a3, a4⟩ := uiGo_some s _ _ _ _ _ h
    refine ⟨hm.1, by omega, ?_, by omega, a4⟩
    by_cases hn : 0 < n.toNat
    · have := a3 hn; omega
    · have h0 : n.toNat = 0 := by omega
      rw [h0] at h
      simp only [uiGo, Option.some.injEq, Prod.mk.injEq] at h
      omega
theorem els_snocI (acc : List Int) (v : Int) : els (acc ++ [v]) = els acc ++ [[.v (.int .i64 v)]] := by simp [els, Enc.e]
set_option maxHeartbeats 8000000 in
theorem I_UnpackInts (s : ByteArray) (p : Int) (hs : s.size ≤ 1099511627776) (hp : I64 p) : Con Try.prog 57 [] [astr s, ai p] (uiO (unpackInts s p)) (uiR (unpackInts s p)) := by
  have hd := I_DecodeVarint s p hs hp
  cases hv : decVar s p with
  | none =>
    rw [hv] at hd
    rw [show unpackInts s p = none by rw [unpackInts, hv]]
    refine Con.of Try.func57 rfl Try.ntmps57 rfl (fun E => ?_)
    refine A_seq ?_; refine A_region ?_; refine M0 (q_assignC rfl rfl rfl) rfl rfl ?_; refine M0 (q_assignC rfl rfl rfl) rfl rfl ?_; refine M0 (q_assignC rfl rfl rfl) rfl rfl ?_; refine L_nil ?_
    refine T_n ?_; refine A_seq ?_; refine A_region ?_; refine M0 (q_moveC rfl rfl rfl) rfl rfl ?_; refine M0 (q_moveC rfl rfl rfl) rfl rfl ?_
    refine M1 (q_call rfl rfl (hd) rfl rfl rfl) rfl rfl ?_; refine M0 (q_moveT rfl rfl rfl) rfl rfl ?_; refine M0 (q_ext rfl rfl rfl rfl) rfl rfl ?_
    refine M0 (q_ext rfl rfl rfl rfl) rfl rfl ?_; refine M0 (q_ext rfl rfl rfl rfl) rfl rfl ?_; refine M0 (q_assignC rfl rfl rfl) rfl rfl ?_; refine M0 (q_assignC rfl rfl rfl) rfl rfl ?_
    refine M0 (q_assignC rfl rfl rfl) rfl rfl ?_; refine L_nil ?_; refine T_n ?_; refine A_seq ?_; refine A_seq ?_; refine A_region ?_; refine M0 (q_moveC rfl rfl rfl) rfl rfl ?_
    refine M0 (q_not rfl rfl rfl) rfl rfl ?_; refine M0 (q_moveC rfl rfl rfl) rfl rfl ?_; refine M_no rfl rfl rfl rfl rfl rfl ?_; refine M_no rfl rfl rfl rfl rfl rfl ?_
    refine M_no rfl rfl rfl rfl rfl rfl ?_; refine M_no rfl rfl rfl rfl rfl rfl ?_; refine M_no rfl rfl rfl rfl rfl rfl ?_; refine M_no rfl rfl rfl rfl rfl rfl ?_
    refine M_no rfl rfl rfl rfl rfl rfl ?_; refine M_no rfl rfl rfl rfl rfl rfl ?_; refine M0 (q_pickT rfl rfl rfl rfl) rfl rfl ?_; refine L_nil ?_; refine T_n ?_; refine A_ifT rfl ?_
    refine A_seq ?_; refine A_region ?_; refine M0 (q_assignC rfl rfl rfl) rfl rfl ?_; refine M0 (q_assignC rfl rfl rfl) rfl rfl ?_; refine M0 (q_assignC rfl rfl rfl) rfl rfl ?_; refine L_nil ?_
    refine T_n ?_; refine A_ret ?_; refine T_r ?_; refine F_r ?_
    exact E_tmp3 rfl rfl rfl rfl (W_fill [1] [0] rfl rfl (by decide) rfl rfl rfl)
  | some r =>
    obtain ⟨n, k0⟩ := r
    rw [hv] at hd
    have hm := decVar_some hv
    obtain ⟨q, rfl⟩ : ∃ q : Nat, p = q := ⟨p.toNat, by omega⟩
    obtain ⟨c, rfl⟩ : ∃ c : Nat, n = c := ⟨n.toNat, by omega⟩
    rw [show unpackInts s q = uiGo s q c k0 by rw [unpackInts, hv]; rfl]
    by_cases hbig : (s.size : Int) - q - k0 < c
    · have hb : decide ((s.size : Int) - q - k0 < c) = true := decide_eq_true hbig
      have hno : uiGo s q c k0 = none := by
        cases ho : uiGo s q c k0 with
        | none => rfl
        | some r =>
          have := uiGo_some s q c k0 r.1 r.2 ho
          omega
      rw [hno]
      refine Con.of Try.func57 rfl Try.ntmps57 rfl (fun E => ?_)
      refine A_seq ?_; refine A_region ?_; refine M0 (q_assignC rfl rfl rfl) rfl rfl ?_; refine M0 (q_assignC rfl rfl rfl) rfl rfl ?_; refine M0 (q_assignC rfl rfl rfl) rfl rfl ?_; refine L_nil ?_
      refine T_n ?_; refine A_seq ?_; refine A_region ?_; refine M0 (q_moveC rfl rfl rfl) rfl rfl ?_; refine M0 (q_moveC rfl rfl rfl) rfl rfl ?_
      refine M1 (q_call rfl rfl (hd) rfl rfl rfl) rfl rfl ?_; refine M0 (q_moveT rfl rfl rfl) rfl rfl ?_; refine M0 (q_ext rfl rfl rfl rfl) rfl rfl ?_
      refine M0 (q_ext rfl rfl rfl rfl) rfl rfl ?_; refine M0 (q_ext rfl rfl rfl rfl) rfl rfl ?_; refine M0 (q_assignC rfl rfl rfl) rfl rfl ?_; refine M0 (q_assignC rfl rfl rfl) rfl rfl ?_
      refine M0 (q_assignC rfl rfl rfl) rfl rfl ?_; refine L_nil ?_; refine T_n ?_; refine A_seq ?_; refine A_seq ?_; refine A_region ?_; refine M0 (q_moveC rfl rfl rfl) rfl rfl ?_
      refine M0 (q_not rfl rfl rfl) rfl rfl ?_; refine M0 (q_moveC rfl rfl rfl) rfl rfl ?_; refine M_yes rfl rfl rfl ?_; refine M0 (q_moveC rfl rfl rfl) rfl rfl ?_; refine M_yes rfl rfl rfl ?_
      refine M0 (q_moveC rfl rfl rfl) rfl rfl ?_; refine M_yes rfl rfl rfl ?_; refine M0 (q_lens rfl rfl rfl) rfl rfl ?_; refine M_yes rfl rfl rfl ?_; refine M0 (q_moveC rfl rfl rfl) rfl rfl ?_
      refine M_yes rfl rfl rfl ?_; refine M0 (q_sub rfl rfl rfl rfl (by omega)) rfl rfl ?_; refine M_yes rfl rfl rfl ?_; refine M0 (q_moveC rfl rfl rfl) rfl rfl ?_; refine M_yes rfl rfl rfl ?_
      refine M0 (q_sub rfl rfl rfl rfl (by omega)) rfl rfl ?_; refine M_yes rfl rfl rfl ?_; refine M0 (q_gtrK rfl rfl rfl rfl (by assumption)) rfl rfl ?_
      refine M0 (q_pickF rfl rfl rfl rfl) rfl rfl ?_; refine L_nil ?_; refine T_n ?_; refine A_ifT rfl ?_; refine A_seq ?_; refine A_region ?_; refine M0 (q_assignC rfl rfl rfl) rfl rfl ?_
      refine M0 (q_assignC rfl rfl rfl) rfl rfl ?_; refine M0 (q_assignC rfl rfl rfl) rfl rfl ?_; refine L_nil ?_; refine T_n ?_; refine A_ret ?_; refine T_r ?_; refine F_r ?_
      exact E_tmp3 rfl rfl rfl rfl (W_fill [1] [0] rfl rfl (by decide) rfl rfl rfl)
    have hb : decide ((s.size : Int) - q - k0 < c) = false := decide_eq_false hbig
    refine Con.of Try.func57 rfl Try.ntmps57 rfl (fun E => ?_)
    refine A_seq ?_; refine A_region ?_; refine M0 (q_assignC rfl rfl rfl) rfl rfl ?_; refine M0 (q_assignC rfl rfl rfl) rfl rfl ?_; refine M0 (q_assignC rfl rfl rfl) rfl rfl ?_; refine L_nil ?_
    refine T_n ?_; refine A_seq ?_; refine A_region ?_; refine M0 (q_moveC rfl rfl rfl) rfl rfl ?_; refine M0 (q_moveC rfl rfl rfl) rfl rfl ?_
    refine M1 (q_call rfl rfl (hd) rfl rfl rfl) rfl rfl ?_; refine M0 (q_moveT rfl rfl rfl) rfl rfl ?_; refine M0 (q_ext rfl rfl rfl rfl) rfl rfl ?_
    refine M0 (q_ext rfl rfl rfl rfl) rfl rfl ?_; refine M0 (q_ext rfl rfl rfl rfl) rfl rfl ?_; refine M0 (q_assignC rfl rfl rfl) rfl rfl ?_; refine M0 (q_assignC rfl rfl rfl) rfl rfl ?_
    refine M0 (q_assignC rfl rfl rfl) rfl rfl ?_; refine L_nil ?_; refine T_n ?_; refine A_seq ?_; refine A_seq ?_; refine A_region ?_; refine M0 (q_moveC rfl rfl rfl) rfl rfl ?_
    refine M0 (q_not rfl rfl rfl) rfl rfl ?_; refine M0 (q_moveC rfl rfl rfl) rfl rfl ?_; refine M_yes rfl rfl rfl ?_; refine M0 (q_moveC rfl rfl rfl) rfl rfl ?_; refine M_yes rfl rfl rfl ?_
    refine M0 (q_moveC rfl rfl rfl) rfl rfl ?_; refine M_yes rfl rfl rfl ?_; refine M0 (q_lens rfl rfl rfl) rfl rfl ?_; refine M_yes rfl rfl rfl ?_; refine M0 (q_moveC rfl rfl rfl) rfl rfl ?_
    refine M_yes rfl rfl rfl ?_; refine M0 (q_sub rfl rfl rfl rfl (by omega)) rfl rfl ?_; refine M_yes rfl rfl rfl ?_; refine M0 (q_moveC rfl rfl rfl) rfl rfl ?_; refine M_yes rfl rfl rfl ?_
    refine M0 (q_sub rfl rfl rfl rfl (by omega)) rfl rfl ?_; refine M_yes rfl rfl rfl ?_; refine M0 (q_gtrK rfl rfl rfl rfl (by assumption)) rfl rfl ?_
    refine M0 (q_pickF rfl rfl rfl rfl) rfl rfl ?_; refine L_nil ?_; refine T_n ?_; refine A_ifF rfl ?_; refine A_skip ?_; refine T_n ?_; refine A_seq ?_; refine A_region ?_
    refine M0 (q_moveC rfl rfl rfl) rfl rfl ?_; refine M1 (q_makec 1 rfl rfl rfl rfl (by omega) (by omega) (by omega) (by omega) rfl (by simp)) rfl rfl ?_
    refine M0 (q_assignC rfl rfl rfl) rfl rfl ?_; refine L_nil ?_; refine T_n ?_; refine A_seq ?_; refine A_seq ?_; refine A_region ?_; refine M0 (q_assignC rfl rfl rfl) rfl rfl ?_; refine L_nil ?_
    refine T_n ?_; refine A_block ?_
    refine A_loop (fun m__ st => ∃ (k : Nat) (pos : Nat) (acc : List Int), c - k = m__ ∧ (k ≤ c ∧ acc.length = k ∧ q + pos + (c - k) ≤ s.size + (c - k) ∧ q + pos ≤ s.size ∧ (uiGo s q (c - k) pos).map (fun r => (acc ++ r.1, r.2)) = uiGo s q c k0) ∧ st = (fun (k : Nat) (pos : Nat) (acc : List Int) => (⟨_, [(0, S s), (1, I q), (7, I c), (8, I pos), (10, .o (.c (.ref 0))), (11, I k)], [.row 1 (els acc)]⟩ : St)) (k) (pos) (acc)) ((fun (k : Nat) (pos : Nat) (acc : List Int) => c - k) (0) (k0) ([])) ⟨(fun (k : Nat) (pos : Nat) (acc : List Int) => (⟨_, [(0, S s), (1, I q), (7, I c), (8, I pos), (10, .o (.c (.ref 0))), (11, I k)], [.row 1 (els acc)]⟩ : St)) (0) (k0) ([]), W_go [0] (by decide) rfl (rfl) (.cons rfl (.cons rfl (.cons rfl (.cons rfl (.cons rfl (.cons rfl (.nil))))))), 0, k0, [], rfl, ⟨by omega, rfl, by omega, by omega, by simp⟩, rfl⟩ ?_
    rintro m_A _ ⟨k, pos, acc, hk_A, hp_A, rfl⟩
    obtain ⟨hkc, hacc, _, hpos, hgo⟩ := hp_A
    have hla := els_len acc
    rw [← hgo]
    refine A_seq ?_; refine A_seq ?_; refine A_region ?_; refine M0 (q_moveC rfl rfl rfl) rfl rfl ?_; refine M0 (q_moveC rfl rfl rfl) rfl rfl ?_; refine M0 (q_lss rfl rfl rfl rfl) rfl rfl ?_
    refine L_nil ?_; refine T_n ?_
    refine A_cond rfl (fun h => ?_) (fun h => ?_)
    · have hlt : k < c := by have := of_decide_eq_true h; omega
      have hd2 := I_DecodeVarint s ((q : Int) + (pos : Int)) hs ⟨by omega, by omega⟩
      obtain ⟨f, hf⟩ : ∃ f, c - k = f + 1 := ⟨c - k - 1, by omega⟩
      rw [hf]
      cases hv2 : decVar s ((q : Int) + (pos : Int)) with
      | none =>
        rw [hv2] at hd2
        rw [show uiGo s q (f + 1) pos = none by rw [uiGo, hv2]]
        refine A_skip ?_; refine T_n ?_; refine A_seq ?_; refine A_block ?_; refine A_seq ?_; refine A_region ?_; refine M0 (q_moveC rfl rfl rfl) rfl rfl ?_; refine M0 (q_moveC rfl rfl rfl) rfl rfl ?_
        refine M0 (q_moveC rfl rfl rfl) rfl rfl ?_; refine M0 (q_add rfl rfl rfl rfl (by omega)) rfl rfl ?_; refine M1 (q_call rfl rfl (hd2) rfl rfl rfl) rfl rfl ?_
        refine M0 (q_moveT rfl rfl rfl) rfl rfl ?_; refine M0 (q_ext rfl rfl rfl rfl) rfl rfl ?_; refine M0 (q_ext rfl rfl rfl rfl) rfl rfl ?_; refine M0 (q_ext rfl rfl rfl rfl) rfl rfl ?_
        refine M0 (q_assignC rfl rfl rfl) rfl rfl ?_; refine M0 (q_assignC rfl rfl rfl) rfl rfl ?_; refine M0 (q_assignC rfl rfl rfl) rfl rfl ?_; refine L_nil ?_; refine T_n ?_; refine A_seq ?_
        refine A_seq ?_; refine A_region ?_; refine M0 (q_moveC rfl rfl rfl) rfl rfl ?_; refine M0 (q_not rfl rfl rfl) rfl rfl ?_; refine L_nil ?_; refine T_n ?_; refine A_ifT rfl ?_; refine A_seq ?_
        refine A_region ?_; refine M0 (q_assignC rfl rfl rfl) rfl rfl ?_; refine M0 (q_assignC rfl rfl rfl) rfl rfl ?_; refine M0 (q_assignC rfl rfl rfl) rfl rfl ?_; refine L_nil ?_; refine T_n ?_
        refine A_ret ?_; refine T_r ?_; refine B_r ?_; refine T_r ?_; refine T_r ?_; refine B_r ?_; refine T_r ?_; refine F_r ?_
        exact E_tmp3 rfl rfl rfl rfl (W_fill [1] [1] rfl rfl (by decide) rfl rfl rfl)
      | some r =>
        obtain ⟨v, m⟩ := r
        rw [hv2] at hd2
        have hm2 := decVar_some hv2
        have hsg := I_Signed v ⟨by omega, by omega⟩
        refine A_skip ?_; refine T_n ?_; refine A_seq ?_; refine A_block ?_; refine A_seq ?_; refine A_region ?_; refine M0 (q_moveC rfl rfl rfl) rfl rfl ?_; refine M0 (q_moveC rfl rfl rfl) rfl rfl ?_
        refine M0 (q_moveC rfl rfl rfl) rfl rfl ?_; refine M0 (q_add rfl rfl rfl rfl (by omega)) rfl rfl ?_; refine M1 (q_call rfl rfl (hd2) rfl rfl rfl) rfl rfl ?_
        refine M0 (q_moveT rfl rfl rfl) rfl rfl ?_; refine M0 (q_ext rfl rfl rfl rfl) rfl rfl ?_; refine M0 (q_ext rfl rfl rfl rfl) rfl rfl ?_; refine M0 (q_ext rfl rfl rfl rfl) rfl rfl ?_
        refine M0 (q_assignC rfl rfl rfl) rfl rfl ?_; refine M0 (q_assignC rfl rfl rfl) rfl rfl ?_; refine M0 (q_assignC rfl rfl rfl) rfl rfl ?_; refine L_nil ?_; refine T_n ?_; refine A_seq ?_
        refine A_seq ?_; refine A_region ?_; refine M0 (q_moveC rfl rfl rfl) rfl rfl ?_; refine M0 (q_not rfl rfl rfl) rfl rfl ?_; refine L_nil ?_; refine T_n ?_; refine A_ifF rfl ?_; refine A_skip ?_
        refine T_n ?_; refine A_seq ?_; refine A_region ?_; refine M0 (q_moveC rfl rfl rfl) rfl rfl ?_; refine M0 (q_moveC rfl rfl rfl) rfl rfl ?_; refine M0 (q_call0 rfl rfl (hsg) rfl) rfl rfl ?_
        refine M1 (q_bslice rfl rfl rfl rfl rfl rfl) rfl rfl ?_; refine M_appsb rfl rfl rfl rfl rfl rfl rfl rfl rfl rfl (by omega) (by omega) ?_; refine M0 (q_assignC rfl rfl rfl) rfl rfl ?_
        refine L_nil ?_; refine T_n ?_; refine A_region ?_; refine M0 (q_moveC rfl rfl rfl) rfl rfl ?_; refine M0 (q_moveC rfl rfl rfl) rfl rfl ?_
        refine M0 (q_add rfl rfl rfl rfl (by omega)) rfl rfl ?_; refine M0 (q_assignC rfl rfl rfl) rfl rfl ?_; refine L_nil ?_; refine B_n ?_; refine T_n ?_; refine A_region ?_
        refine M0 (q_moveC rfl rfl rfl) rfl rfl ?_; refine M0 (q_add rfl rfl rfl rfl (by omega)) rfl rfl ?_; refine M0 (q_assignC rfl rfl rfl) rfl rfl ?_; refine L_nil ?_; refine T_n ?_
        refine ⟨c - (k + 1), (by omega), (fun (k : Nat) (pos : Nat) (acc : List Int) => (⟨_, [(0, S s), (1, I q), (7, I c), (8, I pos), (10, .o (.c (.ref 0))), (11, I k)], [.row 1 (els acc)]⟩ : St)) (k + 1) (pos + m) (acc ++ [signed v]), W_go [0] (by decide) rfl (row_eq (els_snocI acc _)) (.cons rfl (.cons rfl (.cons rfl (.cons rfl (.cons rfl (.cons rfl (.nil))))))), k + 1, pos + m, acc ++ [signed v], rfl, ⟨by omega, by simp [hacc], by omega, by omega, by rw [uiGo, hv2, show c - (k + 1) = f by omega]; simp [Option.map_map]; rfl⟩, rfl⟩
    · have hkk : k = c := by have := of_decide_eq_false h; omega
      subst hkk
      rw [show uiGo s q (k - k) pos = some ([], pos) by rw [Nat.sub_self]; rfl]
      refine A_exit ?_; refine T_x ?_; refine T_x ?_; refine B_xs ?_; refine T_n ?_; refine A_seq ?_; refine A_region ?_; refine M0 (q_moveC rfl rfl rfl) rfl rfl ?_
      refine M0 (q_moveC rfl rfl rfl) rfl rfl ?_; refine M0 (q_assignC rfl rfl rfl) rfl rfl ?_; refine M0 (q_assignC rfl rfl rfl) rfl rfl ?_; refine M0 (q_assignC rfl rfl rfl) rfl rfl ?_
      refine L_nil ?_; refine T_n ?_; refine A_ret ?_; refine F_r ?_
      exact E_tmp3 rfl rfl rfl rfl (W_end [0] (by decide) rfl (row_eq (by simp)) rfl)
set_option maxHeartbeats 8000000 in
theorem S_UnpackInts (s : ByteArray) (p : Int) (hs : s.size ≤ 1099511627776) (hp : I64 p) : Con Try.prog 53 [] [astr s, ai p] (uiO (unpackInts s p)) (uiR (unpackInts s p)) := by
  have hd := S_DecodeVarint s p hs hp
  have h00 : ([] : List (List T)).length = 0 := rfl
  cases hv : decVar s p with
  | none =>
    rw [hv] at hd
    rw [show unpackInts s p = none by rw [unpackInts, hv]]
    have hb0 : decide ((0 : Int) < 0) = false := rfl
    refine Con.of Try.func53 rfl Try.ntmps53 rfl (fun E => ?_)
    refine A_seq ?_; refine A_region ?_; refine M0 (q_assignC rfl rfl rfl) rfl rfl ?_; refine M0 (q_assignC rfl rfl rfl) rfl rfl ?_; refine M0 (q_assignC rfl rfl rfl) rfl rfl ?_; refine L_nil ?_
    refine T_n ?_; refine A_seq ?_; refine A_region ?_; refine M0 (q_moveC rfl rfl rfl) rfl rfl ?_; refine M0 (q_moveC rfl rfl rfl) rfl rfl ?_
    refine M1 (q_call rfl rfl (hd) rfl rfl rfl) rfl rfl ?_; refine M0 (q_moveT rfl rfl rfl) rfl rfl ?_; refine M0 (q_ext rfl rfl rfl rfl) rfl rfl ?_
    refine M0 (q_ext rfl rfl rfl rfl) rfl rfl ?_; refine M0 (q_ext rfl rfl rfl rfl) rfl rfl ?_; refine M0 (q_assignC rfl rfl rfl) rfl rfl ?_; refine M0 (q_assignC rfl rfl rfl) rfl rfl ?_
    refine M0 (q_assignC rfl rfl rfl) rfl rfl ?_; refine L_nil ?_; refine T_n ?_; refine A_seq ?_; refine A_region ?_; refine M1 (q_bslice0 rfl rfl rfl) rfl rfl ?_
    refine M0 (q_assignC rfl rfl rfl) rfl rfl ?_; refine L_nil ?_; refine T_n ?_; refine A_seq ?_; refine A_seq ?_; refine A_region ?_; refine M0 (q_assignC rfl rfl rfl) rfl rfl ?_; refine L_nil ?_
    refine T_n ?_; refine A_block ?_
    refine A_loop (fun m st => ∃ k : Nat, k + m = 1 ∧ (k = 0) ∧ st = (fun k : Nat => (⟨_, [(7, I 0), (9, B false), (11, I k)], []⟩ : St)) k) (1) ⟨(fun k : Nat => (⟨_, [(7, I 0), (9, B false), (11, I k)], []⟩ : St)) 0, W_go [] (by decide) rfl (rfl) (.cons rfl (.cons rfl (.cons rfl (.nil)))), 0, by omega, rfl, rfl⟩ ?_
    rintro m_A _ ⟨k, hk_A, hp_A, rfl⟩
    subst hp_A
    refine A_seq ?_; refine A_seq ?_; refine A_region ?_; refine M0 (q_moveC rfl rfl rfl) rfl rfl ?_; refine M0 (q_moveC rfl rfl rfl) rfl rfl ?_
    refine M0 (q_lssK rfl rfl rfl rfl (by assumption)) rfl rfl ?_; refine M0 (q_moveC rfl rfl rfl) rfl rfl ?_; refine M_no rfl rfl rfl rfl rfl rfl ?_
    refine M0 (q_pickF rfl rfl rfl rfl) rfl rfl ?_; refine L_nil ?_; refine T_n ?_; refine A_ifF rfl ?_; refine A_exit ?_; refine T_x ?_; refine T_x ?_; refine B_xs ?_; refine T_n ?_; refine A_seq ?_
    refine A_seq ?_; refine A_region ?_; refine M0 (q_moveC rfl rfl rfl) rfl rfl ?_; refine M0 (q_not rfl rfl rfl) rfl rfl ?_; refine L_nil ?_; refine T_n ?_; refine A_ifT rfl ?_; refine A_seq ?_
    refine A_region ?_; refine M1 (q_bslice0 rfl rfl rfl) rfl rfl ?_; refine M0 (q_assignC rfl rfl rfl) rfl rfl ?_; refine M0 (q_assignC rfl rfl rfl) rfl rfl ?_
    refine M0 (q_assignC rfl rfl rfl) rfl rfl ?_; refine L_nil ?_; refine T_n ?_; refine A_ret ?_; refine T_r ?_; refine F_r ?_
    exact E_tmp3 rfl rfl rfl rfl (W_end [0] (by decide) rfl rfl rfl)
  | some r =>
    obtain ⟨n, k0⟩ := r
    rw [hv] at hd
    have hm := decVar_some hv
    obtain ⟨q, rfl⟩ : ∃ q : Nat, p = q := ⟨p.toNat, by omega⟩
    obtain ⟨c, rfl⟩ : ∃ c : Nat, n = c := ⟨n.toNat, by omega⟩
    rw [show unpackInts s q = uiGo s q c k0 by rw [unpackInts, hv]; rfl]
    refine Con.of Try.func53 rfl Try.ntmps53 rfl (fun E => ?_)
    refine A_seq ?_; refine A_region ?_; refine M0 (q_assignC rfl rfl rfl) rfl rfl ?_; refine M0 (q_assignC rfl rfl rfl) rfl rfl ?_; refine M0 (q_assignC rfl rfl rfl) rfl rfl ?_; refine L_nil ?_
    refine T_n ?_; refine A_seq ?_; refine A_region ?_; refine M0 (q_moveC rfl rfl rfl) rfl rfl ?_; refine M0 (q_moveC rfl rfl rfl) rfl rfl ?_
    refine M1 (q_call rfl rfl (hd) rfl rfl rfl) rfl rfl ?_; refine M0 (q_moveT rfl rfl rfl) rfl rfl ?_; refine M0 (q_ext rfl rfl rfl rfl) rfl rfl ?_
    refine M0 (q_ext rfl rfl rfl rfl) rfl rfl ?_; refine M0 (q_ext rfl rfl rfl rfl) rfl rfl ?_; refine M0 (q_assignC rfl rfl rfl) rfl rfl ?_; refine M0 (q_assignC rfl rfl rfl) rfl rfl ?_
    refine M0 (q_assignC rfl rfl rfl) rfl rfl ?_; refine L_nil ?_; refine T_n ?_; refine A_seq ?_; refine A_region ?_; refine M1 (q_bslice0 rfl rfl rfl) rfl rfl ?_
    refine M0 (q_assignC rfl rfl rfl) rfl rfl ?_; refine L_nil ?_; refine T_n ?_; refine A_seq ?_; refine A_seq ?_; refine A_region ?_; refine M0 (q_assignC rfl rfl rfl) rfl rfl ?_; refine L_nil ?_
    refine T_n ?_; refine A_block ?_
    refine A_loop (fun m__ st => ∃ (k : Nat) (pos : Nat) (acc : List Int) (ok : Bool), c + 1 - k = m__ ∧ (k ≤ c + 1 ∧ acc.length = k ∧ k ≤ s.size + 1 ∧ (ok = true → k ≤ c ∧ k + 1 ≤ pos ∧ q + pos ≤ s.size ∧ (uiGo s q (c - k) pos).map (fun r => (acc ++ r.1, r.2)) = uiGo s q c k0) ∧ (ok = false → uiGo s q c k0 = none) ∧ pos ≤ s.size) ∧ st = (fun (k : Nat) (pos : Nat) (acc : List Int) (ok : Bool) => (⟨_, [(0, S s), (1, I q), (7, I c), (8, I pos), (9, B ok), (10, .o (.c (.ref 0))), (11, I k)], [.row 1 (els acc)]⟩ : St)) (k) (pos) (acc) (ok)) ((fun (k : Nat) (pos : Nat) (acc : List Int) (ok : Bool) => c + 1 - k) (0) (k0) ([]) (true)) ⟨(fun (k : Nat) (pos : Nat) (acc : List Int) (ok : Bool) => (⟨_, [(0, S s), (1, I q), (7, I c), (8, I pos), (9, B ok), (10, .o (.c (.ref 0))), (11, I k)], [.row 1 (els acc)]⟩ : St)) (0) (k0) ([]) (true), W_go [0] (by decide) rfl (rfl) (.cons rfl (.cons rfl (.cons rfl (.cons rfl (.cons rfl (.cons rfl (.cons rfl (.nil)))))))), 0, k0, [], true, rfl, ⟨by omega, rfl, by omega, fun _ => ⟨by omega, by omega, by omega, by simp⟩, fun e => (by cases e), by omega⟩, rfl⟩ ?_
    rintro m_A _ ⟨k, pos, acc, ok, hk_A, hp_A, rfl⟩
    obtain ⟨hkc, hacc, hks, hok, hno, hps⟩ := hp_A
    have hla := els_len acc
    cases ok with
    | false =>
      rw [hno rfl]
      by_cases hlt : (k : Int) < c
      · have hb : decide ((k : Int) < c) = true := decide_eq_true hlt
        refine A_seq ?_; refine A_seq ?_; refine A_region ?_; refine M0 (q_moveC rfl rfl rfl) rfl rfl ?_; refine M0 (q_moveC rfl rfl rfl) rfl rfl ?_
        refine M0 (q_lssK rfl rfl rfl rfl (by assumption)) rfl rfl ?_; refine M0 (q_moveC rfl rfl rfl) rfl rfl ?_; refine M_yes rfl rfl rfl ?_; refine M0 (q_moveC rfl rfl rfl) rfl rfl ?_
        refine M0 (q_pickT rfl rfl rfl rfl) rfl rfl ?_; refine L_nil ?_; refine T_n ?_; refine A_ifF rfl ?_; refine A_exit ?_; refine T_x ?_; refine T_x ?_; refine B_xs ?_; refine T_n ?_; refine A_seq ?_
        refine A_seq ?_; refine A_region ?_; refine M0 (q_moveC rfl rfl rfl) rfl rfl ?_; refine M0 (q_not rfl rfl rfl) rfl rfl ?_; refine L_nil ?_; refine T_n ?_; refine A_ifT rfl ?_; refine A_seq ?_
        refine A_region ?_; refine M1 (q_bslice0 rfl rfl rfl) rfl rfl ?_; refine M0 (q_assignC rfl rfl rfl) rfl rfl ?_; refine M0 (q_assignC rfl rfl rfl) rfl rfl ?_
        refine M0 (q_assignC rfl rfl rfl) rfl rfl ?_; refine L_nil ?_; refine T_n ?_; refine A_ret ?_; refine T_r ?_; refine F_r ?_
        exact E_tmp3 rfl rfl rfl rfl (W_end [1] (by decide) rfl rfl rfl)
      · have hb : decide ((k : Int) < c) = false := decide_eq_false hlt
        refine A_seq ?_; refine A_seq ?_; refine A_region ?_; refine M0 (q_moveC rfl rfl rfl) rfl rfl ?_; refine M0 (q_moveC rfl rfl rfl) rfl rfl ?_
        refine M0 (q_lssK rfl rfl rfl rfl (by assumption)) rfl rfl ?_; refine M0 (q_moveC rfl rfl rfl) rfl rfl ?_; refine M_no rfl rfl rfl rfl rfl rfl ?_
        refine M0 (q_pickF rfl rfl rfl rfl) rfl rfl ?_; refine L_nil ?_; refine T_n ?_; refine A_ifF rfl ?_; refine A_exit ?_; refine T_x ?_; refine T_x ?_; refine B_xs ?_; refine T_n ?_; refine A_seq ?_
        refine A_seq ?_; refine A_region ?_; refine M0 (q_moveC rfl rfl rfl) rfl rfl ?_; refine M0 (q_not rfl rfl rfl) rfl rfl ?_; refine L_nil ?_; refine T_n ?_; refine A_ifT rfl ?_; refine A_seq ?_
        refine A_region ?_; refine M1 (q_bslice0 rfl rfl rfl) rfl rfl ?_; refine M0 (q_assignC rfl rfl rfl) rfl rfl ?_; refine M0 (q_assignC rfl rfl rfl) rfl rfl ?_
        refine M0 (q_assignC rfl rfl rfl) rfl rfl ?_; refine L_nil ?_; refine T_n ?_; refine A_ret ?_; refine T_r ?_; refine F_r ?_
        exact E_tmp3 rfl rfl rfl rfl (W_end [1] (by decide) rfl rfl rfl)
    | true =>
      obtain ⟨hkc2, hkp, hpos, hgo⟩ := hok rfl
      rw [← hgo]
      by_cases hlt : (k : Int) < c
      · have hb : decide ((k : Int) < c) = true := decide_eq_true hlt
        have hd2 := S_DecodeVarint s ((q : Int) + (pos : Int)) hs ⟨by omega, by omega⟩
        obtain ⟨f, hf⟩ : ∃ f, c - k = f + 1 := ⟨c - k - 1, by omega⟩
        rw [hf]
        cases hv2 : decVar s ((q : Int) + (pos : Int)) with
        | none =>
          rw [hv2] at hd2
          rw [show uiGo s q (f + 1) pos = none by rw [uiGo, hv2]]
          have hsg := S_Signed 0 ⟨by omega, by omega⟩
          refine A_seq ?_; refine A_seq ?_; refine A_region ?_; refine M0 (q_moveC rfl rfl rfl) rfl rfl ?_; refine M0 (q_moveC rfl rfl rfl) rfl rfl ?_
          refine M0 (q_lssK rfl rfl rfl rfl (by assumption)) rfl rfl ?_; refine M0 (q_moveC rfl rfl rfl) rfl rfl ?_; refine M_yes rfl rfl rfl ?_; refine M0 (q_moveC rfl rfl rfl) rfl rfl ?_
          refine M0 (q_pickT rfl rfl rfl rfl) rfl rfl ?_; refine L_nil ?_; refine T_n ?_; refine A_ifT rfl ?_; refine A_skip ?_; refine T_n ?_; refine A_seq ?_; refine A_block ?_; refine A_seq ?_
          refine A_region ?_; refine M0 (q_moveC rfl rfl rfl) rfl rfl ?_; refine M0 (q_moveC rfl rfl rfl) rfl rfl ?_; refine M0 (q_moveC rfl rfl rfl) rfl rfl ?_
          refine M0 (q_add rfl rfl rfl rfl (by omega)) rfl rfl ?_; refine M1 (q_call rfl rfl (hd2) rfl rfl rfl) rfl rfl ?_; refine M0 (q_moveT rfl rfl rfl) rfl rfl ?_
          refine M0 (q_ext rfl rfl rfl rfl) rfl rfl ?_; refine M0 (q_ext rfl rfl rfl rfl) rfl rfl ?_; refine M0 (q_ext rfl rfl rfl rfl) rfl rfl ?_; refine M0 (q_assignC rfl rfl rfl) rfl rfl ?_
          refine M0 (q_assignC rfl rfl rfl) rfl rfl ?_; refine M0 (q_assignC rfl rfl rfl) rfl rfl ?_; refine L_nil ?_; refine T_n ?_; refine A_seq ?_; refine A_region ?_
          refine M0 (q_moveC rfl rfl rfl) rfl rfl ?_; refine M0 (q_assignC rfl rfl rfl) rfl rfl ?_; refine L_nil ?_; refine T_n ?_; refine A_seq ?_; refine A_region ?_
          refine M0 (q_moveC rfl rfl rfl) rfl rfl ?_; refine M0 (q_moveC rfl rfl rfl) rfl rfl ?_; refine M0 (q_add rfl rfl rfl rfl (by omega)) rfl rfl ?_
          refine M0 (q_assignC rfl rfl rfl) rfl rfl ?_; refine L_nil ?_; refine T_n ?_; refine A_region ?_; refine M0 (q_moveC rfl rfl rfl) rfl rfl ?_; refine M0 (q_moveC rfl rfl rfl) rfl rfl ?_
          refine M0 (q_call0 rfl rfl (hsg) rfl) rfl rfl ?_; refine M1 (q_bslice rfl rfl rfl rfl rfl rfl) rfl rfl ?_
          refine M_appsb rfl rfl rfl rfl rfl rfl rfl rfl rfl rfl (by omega) (by omega) ?_; refine M0 (q_assignC rfl rfl rfl) rfl rfl ?_; refine L_nil ?_; refine B_n ?_; refine T_n ?_
          refine A_region ?_; refine M0 (q_moveC rfl rfl rfl) rfl rfl ?_; refine M0 (q_add rfl rfl rfl rfl (by omega)) rfl rfl ?_; refine M0 (q_assignC rfl rfl rfl) rfl rfl ?_; refine L_nil ?_
          refine T_n ?_
          refine ⟨c + 1 - (k + 1), (by omega), (fun (k : Nat) (pos : Nat) (acc : List Int) (ok : Bool) => (⟨_, [(0, S s), (1, I q), (7, I c), (8, I pos), (9, B ok), (10, .o (.c (.ref 0))), (11, I k)], [.row 1 (els acc)]⟩ : St)) (k + 1) (pos) (acc ++ [signed 0]) (false), W_go [0] (by decide) rfl (row_eq (els_snocI acc _)) (.cons rfl (.cons rfl (.cons rfl (.cons rfl (.cons rfl (.cons rfl (.cons rfl (.nil)))))))), k + 1, pos, acc ++ [signed 0], false, rfl, ⟨by omega, by simp [hacc], by omega, fun e => (by cases e), fun _ => rfl, hps⟩, rfl⟩
        | some r =>
          obtain ⟨v, m⟩ := r
          rw [hv2] at hd2
          have hm2 := decVar_some hv2
          have hsg := S_Signed v ⟨by omega, by omega⟩
          refine A_seq ?_; refine A_seq ?_; refine A_region ?_; refine M0 (q_moveC rfl rfl rfl) rfl rfl ?_; refine M0 (q_moveC rfl rfl rfl) rfl rfl ?_
          refine M0 (q_lssK rfl rfl rfl rfl (by assumption)) rfl rfl ?_; refine M0 (q_moveC rfl rfl rfl) rfl rfl ?_; refine M_yes rfl rfl rfl ?_; refine M0 (q_moveC rfl rfl rfl) rfl rfl ?_
          refine M0 (q_pickT rfl rfl rfl rfl) rfl rfl ?_; refine L_nil ?_; refine T_n ?_; refine A_ifT rfl ?_; refine A_skip ?_; refine T_n ?_; refine A_seq ?_; refine A_block ?_; refine A_seq ?_
          refine A_region ?_; refine M0 (q_moveC rfl rfl rfl) rfl rfl ?_; refine M0 (q_moveC rfl rfl rfl) rfl rfl ?_; refine M0 (q_moveC rfl rfl rfl) rfl rfl ?_
          refine M0 (q_add rfl rfl rfl rfl (by omega)) rfl rfl ?_; refine M1 (q_call rfl rfl (hd2) rfl rfl rfl) rfl rfl ?_; refine M0 (q_moveT rfl rfl rfl) rfl rfl ?_
          refine M0 (q_ext rfl rfl rfl rfl) rfl rfl ?_; refine M0 (q_ext rfl rfl rfl rfl) rfl rfl ?_; refine M0 (q_ext rfl rfl rfl rfl) rfl rfl ?_; refine M0 (q_assignC rfl rfl rfl) rfl rfl ?_
          refine M0 (q_assignC rfl rfl rfl) rfl rfl ?_; refine M0 (q_assignC rfl rfl rfl) rfl rfl ?_; refine L_nil ?_; refine T_n ?_; refine A_seq ?_; refine A_region ?_
          refine M0 (q_moveC rfl rfl rfl) rfl rfl ?_; refine M0 (q_assignC rfl rfl rfl) rfl rfl ?_; refine L_nil ?_; refine T_n ?_; refine A_seq ?_; refine A_region ?_
          refine M0 (q_moveC rfl rfl rfl) rfl rfl ?_; refine M0 (q_moveC rfl rfl rfl) rfl rfl ?_; refine M0 (q_add rfl rfl rfl rfl (by omega)) rfl rfl ?_
          refine M0 (q_assignC rfl rfl rfl) rfl rfl ?_; refine L_nil ?_; refine T_n ?_; refine A_region ?_; refine M0 (q_moveC rfl rfl rfl) rfl rfl ?_; refine M0 (q_moveC rfl rfl rfl) rfl rfl ?_
          refine M0 (q_call0 rfl rfl (hsg) rfl) rfl rfl ?_; refine M1 (q_bslice rfl rfl rfl rfl rfl rfl) rfl rfl ?_
          refine M_appsb rfl rfl rfl rfl rfl rfl rfl rfl rfl rfl (by omega) (by omega) ?_; refine M0 (q_assignC rfl rfl rfl) rfl rfl ?_; refine L_nil ?_; refine B_n ?_; refine T_n ?_
          refine A_region ?_; refine M0 (q_moveC rfl rfl rfl) rfl rfl ?_; refine M0 (q_add rfl rfl rfl rfl (by omega)) rfl rfl ?_; refine M0 (q_assignC rfl rfl rfl) rfl rfl ?_; refine L_nil ?_
          refine T_n ?_
          refine ⟨c + 1 - (k + 1), (by omega), (fun (k : Nat) (pos : Nat) (acc : List Int) (ok : Bool) => (⟨_, [(0, S s), (1, I q), (7, I c), (8, I pos), (9, B ok), (10, .o (.c (.ref 0))), (11, I k)], [.row 1 (els acc)]⟩ : St)) (k + 1) (pos + m) (acc ++ [signed v]) (true), W_go [0] (by decide) rfl (row_eq (els_snocI acc _)) (.cons rfl (.cons rfl (.cons rfl (.cons rfl (.cons rfl (.cons rfl (.cons rfl (.nil)))))))), k + 1, pos + m, acc ++ [signed v], true, rfl, ⟨by omega, by simp [hacc], by omega, fun _ => ⟨by omega, by omega, by omega, by rw [uiGo, hv2, show c - (k + 1) = f by omega]; simp [Option.map_map]; rfl⟩, fun e => (by cases e), by omega⟩, rfl⟩
      · have hb : decide ((k : Int) < c) = false := decide_eq_false hlt
        have hkk : k = c := by omega
        subst hkk
        rw [show uiGo s q (k - k) pos = some ([], pos) by rw [Nat.sub_self]; rfl]
        refine A_seq ?_; refine A_seq ?_; refine A_region ?_; refine M0 (q_moveC rfl rfl rfl) rfl rfl ?_; refine M0 (q_moveC rfl rfl rfl) rfl rfl ?_
        refine M0 (q_lssK rfl rfl rfl rfl (by assumption)) rfl rfl ?_; refine M0 (q_moveC rfl rfl rfl) rfl rfl ?_; refine M_no rfl rfl rfl rfl rfl rfl ?_
        refine M0 (q_pickF rfl rfl rfl rfl) rfl rfl ?_; refine L_nil ?_; refine T_n ?_; refine A_ifF rfl ?_; refine A_exit ?_; refine T_x ?_; refine T_x ?_; refine B_xs ?_; refine T_n ?_; refine A_seq ?_
        refine A_seq ?_; refine A_region ?_; refine M0 (q_moveC rfl rfl rfl) rfl rfl ?_; refine M0 (q_not rfl rfl rfl) rfl rfl ?_; refine L_nil ?_; refine T_n ?_; refine A_ifF rfl ?_; refine A_skip ?_
        refine T_n ?_; refine A_seq ?_; refine A_region ?_; refine M0 (q_moveC rfl rfl rfl) rfl rfl ?_; refine M0 (q_moveC rfl rfl rfl) rfl rfl ?_; refine M0 (q_assignC rfl rfl rfl) rfl rfl ?_
        refine M0 (q_assignC rfl rfl rfl) rfl rfl ?_; refine M0 (q_assignC rfl rfl rfl) rfl rfl ?_; refine L_nil ?_; refine T_n ?_; refine A_ret ?_; refine F_r ?_
        exact E_tmp3 rfl rfl rfl rfl (W_end [0] (by decide) rfl (row_eq (by simp)) rfl)
/-! ### Texts -/
end Go.Proofs.Ytkfnaniegldfaaa
end

section
set_option linter.unusedSimpArgs false
set_option linter.unusedVariables false
namespace Go.Proofs.Ytkfnaniegldfaaa
open Go.RowKit

end Go.Proofs.Ytkfnaniegldfaaa
end

section
set_option linter.unusedSimpArgs false
set_option linter.unusedVariables false
set_option maxRecDepth 8000
namespace Go.Proofs.Ytkfnaniegldfaaa
open Go.RowKit

end Go.Proofs.Ytkfnaniegldfaaa
end

section
set_option linter.unusedSimpArgs false
set_option linter.unusedVariables false
set_option maxRecDepth 8000
namespace Go.Proofs.Ytkfnaniegldfaaa
open Go.RowKit

end Go.Proofs.Ytkfnaniegldfaaa
end

section
set_option linter.unusedSimpArgs false
set_option linter.unusedVariables false
namespace Go.Proofs.Ytkfnaniegldfaaa
open Go.RowKit

end Go.Proofs.Ytkfnaniegldfaaa
end

section
set_option linter.unusedSimpArgs false
set_option linter.unusedVariables false
namespace Go.Proofs.Ytkfnaniegldfaaa
open Go.RowKit

/-! ### Numbers -/
theorem bytesL_len {s : ByteArray} {q k : Nat} (h : q + k ≤ s.size) : (bytesL s q k).length = k := by
  have : s.data.toList.length = s.size := by simp
  simp [bytesL]; omega
theorem dvGo_canon (s : ByteArray) (q : Nat) : ∀ (f k : Nat) (m : Int) (j : Nat), q + k ≤ s.size → (∀ a ∈ bytesL s q k, 128 ≤ a.toNat) → dvGo s q (dval (bytesL s q k) : Nat) k f = some (m, j) → encVar m = bytesL s q j := by
  intro f
  induction f with
  | zero => intro k m j _ _ h; simp [dvGo] at h
  | succ f ih =>
    intro k m j hqk hall h
    have hlen := bytesL_len hqk
    rw [dvGo] at h
    split at h
    · rename_i hlt
      obtain ⟨b, hb, hcb⟩ := bytesL_succ hlt
      have hval : (dval (bytesL s q k) : Int) + byteAt s (q + k) % 128 * 2 ^ (7 * k) = ((dval (bytesL s q (k + 1)) : Nat) : Int) := by
        rw [hb, dval_snoc, hlen, hcb]
        push_cast
        rfl
      rw [hval] at h
      split at h
      · rename_i h128
        refine ih (k + 1) m j (by omega) (fun a ha => ?_) h
        rw [hb] at ha
        rcases List.mem_append.1 ha with ha | ha
        · exact hall a ha
        · simp only [List.mem_singleton] at ha
          rw [ha]; omega
      · rename_i h128
        split at h
        · cases h
        · rename_i hbad
          simp only [Option.some.injEq, Prod.mk.injEq] at h
          obtain ⟨rfl, rfl⟩ := h
          have hcan := canon (b := b) (by omega) (bytesL s q k) hall
          have hnil : bytesL s q k = [] ↔ k = 0 := by rw [← List.length_eq_zero_iff, hlen]
          rw [← hb, hnil] at hcan
          rw [encVar, if_pos (by omega), show ((dval (bytesL s q (k + 1)) : Nat) : Int).toNat = dval (bytesL s q (k + 1)) by omega]
          exact hcan.2 (by omega)
    · cases h
theorem decVar_canon {s : ByteArray} {p m : Int} {j : Nat} (h : decVar s p = some (m, j)) : encVar m = bytesL s p.toNat j := by
  unfold decVar at h
  split at h
  · exact dvGo_canon s p.toNat 6 0 m j (by omega) (by simp [bytesL]) (by simpa [bytesL, dval] using h)
  · cases h
theorem signless_signed {u : Int} (h : 0 ≤ u ∧ u ≤ 1099511627775) : signless (signed u) = u := by
  unfold signed
  rw [if_pos h]
  split
  · rw [signless, if_pos (by omega), if_pos (by omega)]; omega
  · rw [signless, if_pos (by omega), if_neg (by omega)]; omega
/-! ### Lists -/
theorem bytesL_app {s : ByteArray} {q j k : Nat} : bytesL s q j ++ bytesL s (q + j) k = bytesL s q (j + k) := by
  unfold bytesL
  rw [← List.drop_drop, List.take_add]
def packB (l : List Int) : List UInt8 := l.flatMap fun x => encVar (signless x)
theorem uiGo_canon (s : ByteArray) (p : Nat) : ∀ (c pos : Nat) (l : List Int) (j : Nat), uiGo s p c pos = some (l, j) → pos ≤ j ∧ packB l = bytesL s (p + pos) (j - pos) ∧ ∀ x ∈ l, 0 ≤ signless x := by
  intro c
  induction c with
  | zero =>
    intro pos l j h
    simp only [uiGo, Option.some.injEq, Prod.mk.injEq] at h
    obtain ⟨rfl, rfl⟩ := h
    exact ⟨Nat.le_refl _, by simp [packB, bytesL], fun x hx => by simp at hx⟩
  | succ c ih =>
    intro pos l j h
    rw [uiGo] at h
    split at h
    · cases h
    · rename_i v m hd
      obtain ⟨r, h1, h2⟩ := Option.map_eq_some_iff.1 h
      simp only [Prod.mk.injEq] at h2
      obtain ⟨rfl, rfl⟩ := h2
      have hm := decVar_some hd
      have hcn := decVar_canon hd
      obtain ⟨a1, a2, a3⟩ := ih (pos + m) r.1 r.2 h1
      have hsg := signless_signed (u := v) (by omega)
      refine ⟨by omega, ?_, fun x hx => ?_⟩
      · rw [packB, List.flatMap_cons, hsg, hcn, show ((p : Int) + (pos : Int)).toNat = p + pos by omega]
        show bytesL s (p + pos) m ++ packB r.1 = _
        rw [a2, show p + (pos + m) = p + pos + m by omega, bytesL_app]
        congr 1
        omega
      · rcases List.mem_cons.1 hx with rfl | hx
        · rw [hsg]; omega
        · exact a3 x hx
theorem unpackInts_canon {s : ByteArray} {p : Int} {l : List Int} {j : Nat} (h : unpackInts s p = some (l, j)) : packInts l = bs (bytesL s p.toNat j) := by
  unfold unpackInts at h
  split at h
  · cases h
  · rename_i n k hd
    have hm := decVar_some hd
    have hcn := decVar_canon hd
    obtain ⟨a1, a2, a3⟩ := uiGo_canon s _ _ _ _ _ h
    obtain ⟨b1, b2, b3, b4⟩ := uiGo_some s _ _ _ _ _ h
    have hall : (l.all fun x => decide (0 ≤ signless x)) = true := List.all_eq_true.2 fun x hx => decide_eq_true (a3 x hx)
    rw [packInts, if_pos hall, packK, List.take_length, show (l.length : Int) = n by omega, hcn]
    show bs (bytesL s p.toNat k ++ packB l) = _
    rw [a2, bytesL_app]
    congr 2
    omega
/-! ### Texts -/
/-! ### Columns -/
/-! ### DecodeStream -/
theorem bytesL_all (s : ByteArray) (k : Nat) (h : k ≤ s.size) : bs (bytesL s 0 k) = s ↔ k = s.size := by
  constructor
  · intro e
    have := congrArg ByteArray.size e
    rw [bs_size, bytesL_len (by omega)] at this
    exact this
  · intro e
    subst e
    unfold bytesL
    rw [List.drop_zero, show s.size = s.data.toList.length by simp, List.take_length, bs_of]
end Go.Proofs.Ytkfnaniegldfaaa
end

section
set_option linter.unusedSimpArgs false
set_option linter.unusedVariables false
namespace Go.Proofs.Ytkfnaniegldfaaa
open Go.RowKit

end Go.Proofs.Ytkfnaniegldfaaa
end

section
set_option linter.unusedSimpArgs false
set_option linter.unusedVariables false
namespace Go.Proofs.Ytkfnaniegldfaaa
open Go.RowKit

/-- An argument that is nil is an empty slice. -/
inductive Den1 : V1 → V1 → Prop
  | same (x : V1) : Den1 x x
  | nil (qs : List Nat) (k : Nat) : Den1 (.rd qs (.v (.slice none 0 0))) (.rd qs (.sl k []))
inductive DenL : List V1 → List V1 → Prop
  | nil : DenL [] []
  | cons {x y : V1} {xs ys : List V1} (h : Den1 x y) (t : DenL xs ys) : DenL (x :: xs) (y :: ys)
inductive Den2 : V2 → V2 → Prop
  | same (x : V2) : Den2 x x
  | ag {xs ys : List V1} (h : DenL xs ys) : Den2 (.ag xs) (.ag ys)
inductive DenA : List V2 → List V2 → Prop
  | nil : DenA [] []
  | cons {x y : V2} {xs ys : List V2} (h : Den2 x y) (t : DenA xs ys) : DenA (x :: xs) (y :: ys)
section
variable {w : World} {H : Hs} {F : Nat → Prop}
theorem Den1.r {x y : V1} (h : Den1 x y) {v : Value} (hx : R1 w H F x v) : R1 w H F y v := by
  cases h with
  | same => exact hx
  | nil qs k => obtain ⟨rfl, _⟩ := RO.plain hx; exact .nil _ _ _ (by simp)
theorem DenL.r : ∀ {xs ys : List V1}, DenL xs ys → xs.length = ys.length ∧ ∀ (i : Nat) (y : V1), ys[i]? = some y → ∃ x, xs[i]? = some x ∧ Den1 x y
  | _, _, .nil => ⟨rfl, fun i y h => by simp at h⟩
  | _, _, .cons (x := x) h t => by
    obtain ⟨h1, h2⟩ := DenL.r t
    refine ⟨by simp [h1], fun i y hy => ?_⟩
    cases i with
    | zero => simp at hy; subst hy; exact ⟨x, rfl, h⟩
    | succ i => simpa using h2 i y (by simpa using hy)
theorem Den2.r {x y : V2} (h : Den2 x y) {v : Value} (hx : R2 w H F x v) : R2 w H F y v := by
  cases h with
  | same => exact hx
  | ag h =>
    obtain ⟨h1, h2⟩ := h.r
    obtain ⟨us, e, hl, hr⟩ := hx
    refine ⟨us, e, by omega, fun i y u h3 h4 => ?_⟩
    obtain ⟨x, h5, h6⟩ := h2 i y h3
    exact h6.r (hr i x u h5 h4)
theorem DenA.r : ∀ {xs ys : List V2}, DenA xs ys → xs.length = ys.length ∧ ∀ (i : Nat) (y : V2), ys[i]? = some y → ∃ x, xs[i]? = some x ∧ Den2 x y
  | _, _, .nil => ⟨rfl, fun i y h => by simp at h⟩
  | _, _, .cons (x := x) h t => by
    obtain ⟨h1, h2⟩ := DenA.r t
    refine ⟨by simp [h1], fun i y hy => ?_⟩
    cases i with
    | zero => simp at hy; subst hy; exact ⟨x, rfl, h⟩
    | succ i => simpa using h2 i y (by simpa using hy)
end
def nilV : V1 := .rd [] (.v (.slice none 0 0))
set_option maxHeartbeats 8000000 in
theorem I_copyLevel (x : TLevel) (hg : Enc.gd x) (hL : x.Rows.length ≤ 1048576) : Con Try.prog 96 [] [ag x] [.row 1 (els x.Rows)] (.o (.ag [.ref 0])) := by
  have hlx := els_len x.Rows
  have hg1 := hg.1
  refine Con.of Try.func96 rfl Try.ntmps96 rfl (fun E => ?_)
  refine A_seq ?_; refine A_region ?_; refine M1 (q_boxN rfl rfl rfl rfl) rfl rfl ?_; refine M1 (q_alloc rfl rfl rfl) rfl rfl ?_; refine L_nil ?_; refine T_n ?_; refine A_seq ?_
  refine A_region ?_; refine M0 (q_fldp rfl rfl rfl rfl (by decide)) rfl rfl ?_; refine M0 (q_ld1 rfl rfl rfl rfl rfl) rfl rfl ?_
  refine M_appnil rfl rfl rfl rfl rfl rfl rfl rfl (els_plain _) (els_k _) (by omega) (by omega) ?_; refine M0 (q_build rfl rfl rfl rfl rfl) rfl rfl ?_
  refine M_stN rfl rfl rfl rfl rfl rfl rfl rfl rfl ?_; refine L_nil ?_; refine T_n ?_; refine A_ret ?_; refine F_r ?_
  exact E_cell rfl rfl rfl rfl (W_end [2] (by decide) rfl rfl rfl)
set_option maxHeartbeats 8000000 in
theorem S_copyLevel (x : TLevel) (hg : Enc.gd x) (hL : x.Rows.length ≤ 1048576) : Con Try.prog 92 [] [ag x] [.row 1 (els x.Rows)] (.o (.ag [.ref 0])) := by
  have hlx := els_len x.Rows
  have hg1 := hg.1
  have h00 : ([] : List (List T)).length = 0 := rfl
  refine Con.of Try.func92 rfl Try.ntmps92 rfl (fun E => ?_)
  refine A_seq ?_; refine A_region ?_; refine M1 (q_boxN rfl rfl rfl rfl) rfl rfl ?_; refine M1 (q_alloc rfl rfl rfl) rfl rfl ?_; refine L_nil ?_; refine T_n ?_; refine A_seq ?_
  refine A_region ?_; refine M1 (q_bslice0 rfl rfl rfl) rfl rfl ?_; refine M0 (q_fldp rfl rfl rfl rfl (by decide)) rfl rfl ?_; refine M0 (q_ld1 rfl rfl rfl rfl rfl) rfl rfl ?_
  refine M_app rfl rfl rfl rfl rfl rfl rfl rfl rfl rfl (els_plain _) (els_k _) (by omega) (by omega) ?_; refine M0 (q_build rfl rfl rfl rfl rfl) rfl rfl ?_
  refine M_stN rfl rfl rfl rfl rfl rfl rfl rfl rfl ?_; refine L_nil ?_; refine T_n ?_; refine A_ret ?_; refine F_r ?_
  exact E_cell rfl rfl rfl rfl (W_end [2] (by decide) rfl rfl rfl)
end Go.Proofs.Ytkfnaniegldfaaa
end

section
set_option linter.unusedSimpArgs false
set_option linter.unusedVariables false
set_option maxRecDepth 8000
namespace Go.Proofs.Ytkfnaniegldfaaa
open Go.RowKit

set_option maxHeartbeats 8000000 in
theorem Clone_ints (xs : List Int) (hne : 0 < xs.length) (hL : xs.length ≤ 1099511627776) : Con Try.prog 117 [] [al xs] [.row 1 (els xs)] (.o (.c (.ref 0))) := by
  have hlx := els_len xs
  have hlp : 0 < (els xs).length := by omega
  refine Con.of Try.func117 rfl Try.ntmps117 rfl (fun E => ?_)
  have h00 : ([] : List (List T)).length = 0 := rfl
  refine A_seq ?_; refine A_region ?_; refine M0 (q_assignC rfl rfl rfl) rfl rfl ?_; refine L_nil ?_; refine T_n ?_; refine A_seq ?_; refine A_seq ?_; refine A_region ?_
  refine M0 (q_moveC rfl rfl rfl) rfl rfl ?_; refine M0 (q_slnil rfl rfl rfl rfl hlp) rfl rfl ?_; refine L_nil ?_; refine T_n ?_; refine A_ifF rfl ?_; refine A_skip ?_; refine T_n ?_
  refine A_seq ?_; refine A_region ?_; refine M1 (q_bslice0 rfl rfl rfl) rfl rfl ?_; refine M0 (q_moveC rfl rfl rfl) rfl rfl ?_
  refine M_app rfl rfl rfl rfl rfl rfl rfl rfl rfl rfl (els_plain _) (els_k _) (by omega) (by omega) ?_; refine M0 (q_assignC rfl rfl rfl) rfl rfl ?_; refine L_nil ?_; refine T_n ?_
  refine A_ret ?_; refine F_r ?_
  exact E_tmp rfl rfl (W_end [0] (by decide) rfl rfl rfl)
@[reducible] def jv (n : Int) : V1 := .rd [] (.v (.int .i64 n))
def bodyOf (l : List Int) : TBody := ⟨l.getD 0 0, l.getD 1 0, l.getD 2 0, l.getD 3 0, l.getD 4 0, l.getD 5 0, l.getD 6 0, l.getD 7 0, l.getD 8 0⟩
def bodiesOf (l : List Int) (n : Nat) : List TBody := (List.range n).map fun k => bodyOf (l.drop (9 * k))
def zeroWorld : TWorld := ⟨⟨[]⟩, 0, 0, [], []⟩
def worldOf (lv : TLevel) (l : List Int) : TWorld := ⟨lv, l.getD 0 0, l.getD 1 0, (l.drop 3).take (l.getD 2 0).toNat, bodiesOf (l.drop (3 + (l.getD 2 0).toNat)) ((l.length - 3 - (l.getD 2 0).toNat) / 9)⟩
def formOk (l : List Int) : Prop := 3 ≤ l.length ∧ (1 ≤ l.getD 2 0 ∧ l.getD 2 0 ≤ 4) ∧ 3 + l.getD 2 0 ≤ l.length ∧ ((l.length : Int) - 3 - l.getD 2 0) % 9 = 0
noncomputable def readWorld (lv : TLevel) (s : ByteArray) : Option TWorld := match unpackInts s 0 with
  | none => none
  | some (l, pos) => @ite _ (pos = s.size ∧ formOk l ∧ worldOk (worldOf lv l) = true) (Classical.propDecidable _) (some (worldOf lv l)) none
theorem readWorld_none {lv : TLevel} {s : ByteArray} (h : unpackInts s 0 = none) : readWorld lv s = none := by rw [readWorld, h]
theorem readWorld_yes {lv : TLevel} {s : ByteArray} {l : List Int} {pos : Nat} (h : unpackInts s 0 = some (l, pos)) (hp : pos = s.size ∧ formOk l ∧ worldOk (worldOf lv l) = true) : readWorld lv s = some (worldOf lv l) := by
  rw [readWorld, h]
  exact @if_pos _ (Classical.propDecidable _) hp _ _ _
theorem readWorld_no {lv : TLevel} {s : ByteArray} {l : List Int} {pos : Nat} (h : unpackInts s 0 = some (l, pos)) (hp : ¬ (pos = s.size ∧ formOk l ∧ worldOk (worldOf lv l) = true)) : readWorld lv s = none := by
  rw [readWorld, h]
  exact @if_neg _ (Classical.propDecidable _) hp _ _ _
@[reducible] def rwW (r : Option TWorld) : TWorld := r.getD zeroWorld
@[reducible] def rwB (r : Option TWorld) : Bool := r.isSome
theorem bodiesOf_len (l : List Int) (n : Nat) : (bodiesOf l n).length = n := by simp [bodiesOf]
theorem bodiesOf_snoc (l : List Int) (n : Nat) : bodiesOf l (n + 1) = bodiesOf l n ++ [bodyOf (l.drop (9 * n))] := by
  rw [bodiesOf, List.range_succ, List.map_append]
  rfl
theorem bodyOf_ints {l : List Int} (h : 9 ≤ l.length) : bodyInts (bodyOf l) = l.take 9 := by
  match l, h with
  | a :: b :: c :: d :: e :: f :: g :: i :: j :: r, _ => rfl
theorem bodiesOf_ints : ∀ (n : Nat) (l : List Int), 9 * n ≤ l.length → (bodiesOf l n).flatMap bodyInts = l.take (9 * n)
  | 0, l, _ => by simp [bodiesOf]
  | n + 1, l, h => by
    rw [bodiesOf_snoc, List.flatMap_append, bodiesOf_ints n l (by omega), List.flatMap_singleton, bodyOf_ints (by simp; omega), Nat.mul_succ, List.take_add]
theorem bodyOf_gd {l : List Int} (h : ∀ x ∈ l, I64 x) : Enc.gd (bodyOf l) := by
  have hd : ∀ i, I64 (l.getD i 0) := fun i => by
    rw [List.getD_eq_getElem?_getD]
    cases hi : l[i]? with
    | none => exact ⟨by decide, by decide⟩
    | some x => exact h x (List.mem_of_getElem? hi)
  exact ⟨hd 0, hd 1, hd 2, hd 3, hd 4, hd 5, hd 6, hd 7, hd 8⟩
theorem worldOf_gd {lv : TLevel} {l : List Int} (hlv : Enc.gd lv) (h : ∀ x ∈ l, I64 x) (hL : l.length ≤ 1099511627776) : Enc.gd (worldOf lv l) := by
  have hd : ∀ i, I64 (l.getD i 0) := fun i => by
    rw [List.getD_eq_getElem?_getD]
    cases hi : l[i]? with
    | none => exact ⟨by decide, by decide⟩
    | some x => exact h x (List.mem_of_getElem? hi)
  refine ⟨hlv, hd 0, hd 1, ⟨?_, fun x hx => h x (List.mem_of_mem_drop (List.mem_of_mem_take hx))⟩, ⟨?_, fun b hb => ?_⟩⟩
  · show ((l.drop 3).take (l.getD 2 0).toNat).length ≤ _
    simp; omega
  · show (bodiesOf _ _).length ≤ _
    rw [bodiesOf_len]
    have : (l.length - 3 - (l.getD 2 0).toNat) / 9 ≤ l.length := by omega
    omega
  · obtain ⟨k, hk, rfl⟩ := List.mem_map.1 (show b ∈ (List.range _).map _ from hb)
    exact bodyOf_gd fun x hx => h x (List.mem_of_mem_drop (List.mem_of_mem_drop hx))
theorem worldOf_ints {lv : TLevel} {l : List Int} (h : formOk l) : worldInts (worldOf lv l) = l := by
  obtain ⟨h3, h4, h5, h6⟩ := h
  obtain ⟨p, hp⟩ : ∃ p : Nat, l.getD 2 0 = p := ⟨(l.getD 2 0).toNat, by omega⟩
  match l, h3 with
  | a :: b :: c :: r, _ =>
    have hc : c = p := by simpa using hp
    subst hc
    simp only [List.length_cons] at h5 h6
    simp only [List.getD_cons_succ, List.getD_cons_zero] at h4 h5 h6
    have hl : ((r.take p).length : Int) = p := by simp; omega
    show ([a, b, ((((a :: b :: (p : Int) :: r).drop 3).take ((p : Int)).toNat).length : Int)] ++ ((a :: b :: (p : Int) :: r).drop 3).take ((p : Int)).toNat) ++ (bodiesOf ((a :: b :: (p : Int) :: r).drop (3 + ((p : Int)).toNat)) (((a :: b :: (p : Int) :: r).length - 3 - ((p : Int)).toNat) / 9)).flatMap bodyInts = _
    rw [Int.toNat_natCast]
    have hdr : (a :: b :: (p : Int) :: r).drop (3 + p) = r.drop p := by
      rw [← List.drop_drop]; rfl
    have hd3 : (a :: b :: (p : Int) :: r).drop 3 = r := rfl
    have hlen : (a :: b :: (p : Int) :: r).length - 3 - p = (r.drop p).length := by simp
    have h9 : 9 * ((r.drop p).length / 9) = (r.drop p).length := by
      have : (r.drop p).length = r.length - p := by simp
      omega
    rw [hdr, hd3, hlen, bodiesOf_ints _ _ (by omega), h9, List.take_length, hl]
    simp
theorem row7 {a b c d e f : Ob} {k : Nat} {x y : List (List T)} (h : x = y) : [a, b, c, d, e, f, Ob.row k x] = [a, b, c, d, e, f, Ob.row k y] := by rw [h]
theorem rdE {ps : List Nat} {k : Nat} {a b : List (List T)} (h : a = b) : V.o (.c (.rd ps (.sl k a))) = V.o (.c (.rd ps (.sl k b))) := by rw [h]
theorem els_takeE2 {α : Type} [Enc α] (xs : List α) (n : Nat) : els (xs.take n) = (els xs).take n := List.map_take
theorem els_dropE {α : Type} [Enc α] (xs : List α) (n : Nat) : els (xs.drop n) = (els xs).drop n := List.map_drop
theorem chunk_at {rest : List Int} {m : Nat} (h : 9 * m + 9 ≤ rest.length) {j : Nat} (hj : j < 9) (a b : Int) (ha : a = 9 * m + 9) (hb : b = 9 * m) (i : Int) (hi : i = j) : (((els rest).take a.toNat).drop b.toNat)[i.toNat]? = some [.v (.int .i64 ((rest.drop (9 * m)).getD j 0))] := by
  subst ha hb hi
  rw [show ((9 : Int) * (m : Int) + 9).toNat = 9 * m + 9 by omega, show ((9 : Int) * (m : Int)).toNat = 9 * m by omega, Int.toNat_natCast, List.getElem?_drop, List.getElem?_take, if_pos (by omega), List.getD_eq_getElem?_getD, List.getElem?_drop, els, List.getElem?_map, List.getElem?_eq_getElem (by omega)]
  rfl
theorem els_getD {l : List Int} {j : Nat} (h : j < l.length) (i : Int) (hi : i = j) : (els l)[i.toNat]? = some [.v (.int .i64 (l.getD j 0))] := by
  subst hi
  rw [Int.toNat_natCast, List.getD_eq_getElem?_getD, els, List.getElem?_map, List.getElem?_eq_getElem h]
  rfl
end Go.Proofs.Ytkfnaniegldfaaa
end

section
set_option linter.unusedSimpArgs false
set_option linter.unusedVariables false
set_option maxRecDepth 8000
namespace Go.Proofs.Ytkfnaniegldfaaa
open Go.RowKit

set_option maxHeartbeats 8000000 in
theorem I_ReadWorld (lv : TLevel) (s : ByteArray) (hg : Enc.gd lv) (hL : lv.Rows.length ≤ 1048576) (hs : s.size ≤ 1099511627776) : Con Try.prog 77 [] [ag lv, astr s] (ownO (Enc.e (rwW (readWorld lv s)))) (.tu [.ag (ownV 0 (Enc.e (rwW (readWorld lv s)))), .c (bv (rwB (readWorld lv s)))]) := by
  have hui := I_UnpackInts s 0 hs ⟨by omega, by omega⟩
  cases hu : unpackInts s 0 with
  | none =>
    rw [hu] at hui
    rw [readWorld_none hu]
    refine Con.of Try.func77 rfl Try.ntmps77 rfl (fun E => ?_)
    refine A_seq ?_; refine A_region ?_; refine M1 (q_boxN rfl rfl rfl rfl) rfl rfl ?_; refine M1 (q_alloc rfl rfl rfl) rfl rfl ?_; refine M0 (q_assignC rfl rfl rfl) rfl rfl ?_; refine L_nil ?_
    refine T_n ?_; refine A_seq ?_; refine A_region ?_; refine M0 (q_moveC rfl rfl rfl) rfl rfl ?_; refine M1 (q_call rfl rfl (hui) rfl rfl rfl) rfl rfl ?_
    refine M0 (q_moveT rfl rfl rfl) rfl rfl ?_; refine M0 (q_ext rfl rfl rfl rfl) rfl rfl ?_; refine M0 (q_ext rfl rfl rfl rfl) rfl rfl ?_; refine M0 (q_ext rfl rfl rfl rfl) rfl rfl ?_
    refine M0 (q_assignC rfl rfl rfl) rfl rfl ?_; refine M0 (q_assignC rfl rfl rfl) rfl rfl ?_; refine M0 (q_assignC rfl rfl rfl) rfl rfl ?_; refine L_nil ?_; refine T_n ?_; refine A_seq ?_
    refine A_seq ?_; refine A_region ?_; refine M0 (q_moveC rfl rfl rfl) rfl rfl ?_; refine M0 (q_not rfl rfl rfl) rfl rfl ?_; refine M0 (q_moveC rfl rfl rfl) rfl rfl ?_
    refine M_no rfl rfl rfl rfl rfl rfl ?_; refine M_no rfl rfl rfl rfl rfl rfl ?_; refine M_no rfl rfl rfl rfl rfl rfl ?_; refine M_no rfl rfl rfl rfl rfl rfl ?_
    refine M0 (q_pickT rfl rfl rfl rfl) rfl rfl ?_; refine M0 (q_moveC rfl rfl rfl) rfl rfl ?_; refine M_no rfl rfl rfl rfl rfl rfl ?_; refine M_no rfl rfl rfl rfl rfl rfl ?_
    refine M_no rfl rfl rfl rfl rfl rfl ?_; refine M0 (q_pickT rfl rfl rfl rfl) rfl rfl ?_; refine L_nil ?_; refine T_n ?_; refine A_ifT rfl ?_; refine A_seq ?_; refine A_region ?_
    refine M0 (q_build rfl rfl rfl rfl rfl) rfl rfl ?_; refine M_stN rfl rfl rfl rfl rfl rfl rfl rfl rfl ?_; refine M0 (q_assignC rfl rfl rfl) rfl rfl ?_; refine L_nil ?_; refine T_n ?_
    refine A_ret ?_; refine T_r ?_; refine F_r ?_
    exact E_cellt rfl rfl rfl rfl rfl (W_fill [1, 1, 9] [3, 4, 5] rfl rfl (by decide) rfl rfl rfl)
  | some r =>
    obtain ⟨l, pos⟩ := r
    rw [hu] at hui
    obtain ⟨_, hu1, hu2, hu3, hu4⟩ := unpackInts_some hu
    have hll := els_len l
    refine Con.of Try.func77 rfl Try.ntmps77 rfl (fun E => ?_)
    refine A_seq ?_; refine A_region ?_; refine M1 (q_boxN rfl rfl rfl rfl) rfl rfl ?_; refine M1 (q_alloc rfl rfl rfl) rfl rfl ?_; refine M0 (q_assignC rfl rfl rfl) rfl rfl ?_; refine L_nil ?_
    refine T_n ?_; refine A_seq ?_; refine A_region ?_; refine M0 (q_moveC rfl rfl rfl) rfl rfl ?_; refine M1 (q_call rfl rfl (hui) rfl rfl rfl) rfl rfl ?_
    refine M0 (q_moveT rfl rfl rfl) rfl rfl ?_; refine M0 (q_ext rfl rfl rfl rfl) rfl rfl ?_; refine M0 (q_ext rfl rfl rfl rfl) rfl rfl ?_; refine M0 (q_ext rfl rfl rfl rfl) rfl rfl ?_
    refine M0 (q_assignC rfl rfl rfl) rfl rfl ?_; refine M0 (q_assignC rfl rfl rfl) rfl rfl ?_; refine M0 (q_assignC rfl rfl rfl) rfl rfl ?_; refine L_nil ?_; refine T_n ?_; refine A_seq ?_
    refine A_seq ?_; refine A_region ?_; refine M0 (q_moveC rfl rfl rfl) rfl rfl ?_; refine M0 (q_not rfl rfl rfl) rfl rfl ?_; refine M0 (q_moveC rfl rfl rfl) rfl rfl ?_
    refine M_yes rfl rfl rfl ?_; refine M0 (q_moveC rfl rfl rfl) rfl rfl ?_; refine M_yes rfl rfl rfl ?_; refine M0 (q_moveC rfl rfl rfl) rfl rfl ?_; refine M_yes rfl rfl rfl ?_
    refine M0 (q_lens rfl rfl rfl) rfl rfl ?_; refine M_yes rfl rfl rfl ?_; refine M0 (q_neq rfl rfl rfl rfl) rfl rfl ?_; refine M0 (q_pickF rfl rfl rfl rfl) rfl rfl ?_
    refine M0 (q_moveC rfl rfl rfl) rfl rfl ?_; refine M0 (Qt.grdF rfl rfl rfl .stop (fun hgrd => q_moveC rfl rfl rfl)) rfl rfl ?_
    refine M0 (Qt.grdF rfl rfl rfl (.hit .stop) (fun hgrd => q_lenr rfl rfl rfl rfl)) rfl rfl ?_
    refine M0 (Qt.grdF rfl rfl rfl (.hit (.hit .stop)) (fun hgrd => q_lss rfl rfl rfl rfl)) rfl rfl ?_; refine M0 (q_or rfl rfl rfl rfl) rfl rfl ?_; refine L_nil ?_; refine T_n ?_
    refine A_cond rfl (fun h => ?_) (fun h => ?_)
    · simp only [Bool.or_eq_true, decide_eq_true_eq] at h
      rw [readWorld_no hu (fun hh => by have := hh.2.1.1; omega)]
      refine A_seq ?_; refine A_region ?_; refine M0 (q_build rfl rfl rfl rfl rfl) rfl rfl ?_; refine M_stN rfl rfl rfl rfl rfl rfl rfl rfl rfl ?_; refine M0 (q_assignC rfl rfl rfl) rfl rfl ?_
      refine L_nil ?_; refine T_n ?_; refine A_ret ?_; refine T_r ?_; refine F_r ?_
      exact E_cellt rfl rfl rfl rfl rfl (W_fill [1, 1, 9] [3, 4, 5] rfl rfl (by decide) rfl rfl rfl)
    simp only [Bool.or_eq_false_iff, decide_eq_false_iff_not] at h
    have ha0 := els_getD (l := l) (j := 0) (by omega) 0 rfl
    have ha1 := els_getD (l := l) (j := 1) (by omega) 1 rfl
    have ha2 := els_getD (l := l) (j := 2) (by omega) 2 rfl
    obtain ⟨l2, hl2⟩ : ∃ l2, l.getD 2 0 = l2 := ⟨_, rfl⟩
    rw [hl2] at ha2
    have hl264 : I64 l2 := by
      rw [← hl2, List.getD_eq_getElem?_getD, List.getElem?_eq_getElem (by omega)]
      exact hu4 _ (List.getElem_mem _)
    have hl21 := hl264.1
    have hl22 := hl264.2
    have hbt := I_between l2 1 4
    by_cases hin : inR l2 1 4 = true
    case neg =>
      have hf : inR l2 1 4 = false := by simpa using hin
      rw [hf] at hbt
      rw [readWorld_no hu (fun hh => by have := hh.2.1.2.1; rw [hl2, ← inR_iff] at this; exact hin this)]
      refine A_skip ?_; refine T_n ?_; refine A_seq ?_; refine A_region ?_; refine M0 (q_moveC rfl rfl rfl) rfl rfl ?_; refine M0 (q_ar rfl rfl rfl rfl rfl (by omega) (by omega)) rfl rfl ?_
      refine M0 (q_le1 rfl rfl rfl rfl (by assumption) rfl) rfl rfl ?_; refine M0 (q_assignC rfl rfl rfl) rfl rfl ?_; refine L_nil ?_; refine T_n ?_; refine A_seq ?_; refine A_seq ?_
      refine A_region ?_; refine M0 (q_moveC rfl rfl rfl) rfl rfl ?_; refine M0 (q_call0 rfl rfl (hbt) rfl) rfl rfl ?_; refine M0 (q_not rfl rfl rfl) rfl rfl ?_
      refine M0 (q_moveC rfl rfl rfl) rfl rfl ?_; refine M_no rfl rfl rfl rfl rfl rfl ?_; refine M_no rfl rfl rfl rfl rfl rfl ?_; refine M_no rfl rfl rfl rfl rfl rfl ?_
      refine M_no rfl rfl rfl rfl rfl rfl ?_; refine M_no rfl rfl rfl rfl rfl rfl ?_; refine M0 (q_pickT rfl rfl rfl rfl) rfl rfl ?_; refine L_nil ?_; refine T_n ?_; refine A_ifT rfl ?_
      refine A_seq ?_; refine A_region ?_; refine M0 (q_build rfl rfl rfl rfl rfl) rfl rfl ?_; refine M_stN rfl rfl rfl rfl rfl rfl rfl rfl rfl ?_; refine M0 (q_assignC rfl rfl rfl) rfl rfl ?_
      refine L_nil ?_; refine T_n ?_; refine A_ret ?_; refine T_r ?_; refine F_r ?_
      exact E_cellt rfl rfl rfl rfl rfl (W_fill [1, 1, 9] [3, 4, 5] rfl rfl (by decide) rfl rfl rfl)
    rw [hin] at hbt
    have hin2 := inR_iff.1 hin
    obtain ⟨p, rfl⟩ : ∃ p : Nat, l2 = p := ⟨l2.toNat, by omega⟩
    refine A_skip ?_; refine T_n ?_; refine A_seq ?_; refine A_region ?_; refine M0 (q_moveC rfl rfl rfl) rfl rfl ?_; refine M0 (q_ar rfl rfl rfl rfl rfl (by omega) (by omega)) rfl rfl ?_
    refine M0 (q_le1 rfl rfl rfl rfl (by assumption) rfl) rfl rfl ?_; refine M0 (q_assignC rfl rfl rfl) rfl rfl ?_; refine L_nil ?_; refine T_n ?_; refine A_seq ?_; refine A_seq ?_
    refine A_region ?_; refine M0 (q_moveC rfl rfl rfl) rfl rfl ?_; refine M0 (q_call0 rfl rfl (hbt) rfl) rfl rfl ?_; refine M0 (q_not rfl rfl rfl) rfl rfl ?_
    refine M0 (q_moveC rfl rfl rfl) rfl rfl ?_; refine M_yes rfl rfl rfl ?_; refine M0 (q_moveC rfl rfl rfl) rfl rfl ?_; refine M_yes rfl rfl rfl ?_
    refine M0 (q_lenr rfl rfl rfl rfl) rfl rfl ?_; refine M_yes rfl rfl rfl ?_; refine M0 (q_moveC rfl rfl rfl) rfl rfl ?_; refine M_yes rfl rfl rfl ?_
    refine M0 (q_add rfl rfl rfl rfl (by omega)) rfl rfl ?_; refine M_yes rfl rfl rfl ?_; refine M0 (q_lss rfl rfl rfl rfl) rfl rfl ?_; refine M0 (q_pickF rfl rfl rfl rfl) rfl rfl ?_
    refine L_nil ?_; refine T_n ?_
    refine A_cond rfl (fun h2 => ?_) (fun h2 => ?_)
    · have h2 := of_decide_eq_true h2
      rw [readWorld_no hu (fun hh => by have := hh.2.1.2.2.1; omega)]
      refine A_seq ?_; refine A_region ?_; refine M0 (q_build rfl rfl rfl rfl rfl) rfl rfl ?_; refine M_stN rfl rfl rfl rfl rfl rfl rfl rfl rfl ?_; refine M0 (q_assignC rfl rfl rfl) rfl rfl ?_
      refine L_nil ?_; refine T_n ?_; refine A_ret ?_; refine T_r ?_; refine F_r ?_
      exact E_cellt rfl rfl rfl rfl rfl (W_fill [1, 1, 9] [3, 4, 5] rfl rfl (by decide) rfl rfl rfl)
    have h2 := of_decide_eq_false h2
    refine A_skip ?_; refine T_n ?_; refine A_seq ?_
    refine A_draw [[], [0], [], [2], [2, 3], [], [5], [5, 6], [0, 1, 2, 3, 4, 5, 6, 7], [], [0, 1, 2, 3, 4, 5, 6, 7, 8, 9]] [[], [48], [], [50], [50, 51], [], [53], [53, 54], [48, 49, 50, 51, 52, 53, 54, 55], [], [10, 48, 49, 50, 51, 52, 53, 54, 55, 56]] [[10, 50, 51, 52, 53, 54, 55], [10, 50, 51, 52, 53, 54, 55], [10, 48, 49, 53, 54, 55], [10, 48, 49, 53, 54, 55], [10, 48, 49, 53, 54, 55], [10, 48, 49, 50, 51, 52], [10, 48, 49, 50, 51, 52], [10, 48, 49, 50, 51, 52], [10], [48, 49, 50, 51, 52, 53, 54, 55, 56], []] rfl ?_
    refine DR.step (q_ldN rfl rfl rfl rfl rfl rfl) rfl rfl ?_; refine DR.step (q_call rfl rfl (I_copyLevel lv hg hL) rfl rfl rfl) rfl rfl ?_
    refine DR.step (q_moveC rfl rfl rfl) rfl rfl ?_; refine DR.step (q_ar rfl rfl rfl rfl rfl (by omega) (by omega)) rfl rfl ?_
    refine DR.step (q_le1 rfl rfl rfl rfl (by assumption) rfl) rfl rfl ?_; refine DR.step (q_moveC rfl rfl rfl) rfl rfl ?_
    refine DR.step (q_ar rfl rfl rfl rfl rfl (by omega) (by omega)) rfl rfl ?_; refine DR.step (q_le1 rfl rfl rfl rfl (by assumption) rfl) rfl rfl ?_
    refine DR.step (q_build rfl rfl rfl rfl rfl) rfl rfl ?_; refine DR.step (q_alloc rfl rfl rfl) rfl rfl ?_; refine DR.stop (by kernel_rfl) (by kernel_rfl) ?_
    refine AL.weak (st' := (⟨_, [(4, .o (.c (.ptr 1 0))), (6, .o (.c (.ref 2))), (9, I p), (10, .o (.c (.ptr 4 0))), (56, .o (.ag [.ref 3, jv (l.getD 0 0), jv (l.getD 1 0), nilV, nilV]))], [.box ((Enc.e lv).map (V1.rd [])), .box [nilV, jv 0, jv 0, nilV, nilV], .row 1 (els l), .row 1 (els lv.Rows), .box [nilV, jv 0, jv 0, nilV, nilV]]⟩ : St)) (W_go [0, 1, 2, 3, 4] (by decide) rfl (rfl) (.cons rfl (.cons rfl (.cons rfl (.cons rfl (.cons rfl (.nil))))))) ?_
    have hpl : (p : Int) ≤ 4 := hin2.2
    have hcl := Clone_ints ((l.drop 3).take p) (by simp; omega) (by simp; omega)
    rw [show al ((l.drop 3).take p) = .c (.rd [] (.sl 1 (((els l).take ((3 : Int) + (p : Int)).toNat).drop (3 : Int).toNat))) by
      rw [show ((3 : Int) + (p : Int)).toNat = 3 + p by omega, show (3 : Int).toNat = 3 from rfl, List.drop_take, ← els_dropE, ← els_takeE2, show 3 + p - 3 = p by omega]; rfl] at hcl
    obtain ⟨rest, hrest⟩ : ∃ rest, rest = l.drop (3 + p) := ⟨_, rfl⟩
    have hre : (els l).drop ((3 : Int) + (p : Int)).toNat = els rest := by rw [show ((3 : Int) + (p : Int)).toNat = 3 + p by omega, ← els_dropE, hrest]
    have hrl : rest.length = l.length - (3 + p) := by rw [hrest]; simp
    have hrl2 := els_len rest
    have hdl : ((els l).drop ((3 : Int) + (p : Int)).toNat).length = l.length - (3 + p) := by rw [List.length_drop, hll]; congr 1
    refine M_stN rfl rfl rfl rfl rfl rfl rfl rfl rfl ?_; refine L_nil ?_; refine T_n ?_; refine A_seq ?_; refine A_region ?_; refine M0 (q_moveC rfl rfl rfl) rfl rfl ?_
    refine M0 (q_moveC rfl rfl rfl) rfl rfl ?_; refine M0 (q_add rfl rfl rfl rfl (by omega)) rfl rfl ?_; refine M0 (q_partr rfl rfl rfl rfl rfl rfl rfl (by omega)) rfl rfl ?_
    refine M1 (q_call rfl rfl (hcl) rfl rfl rfl) rfl rfl ?_; refine M0 (q_fldp rfl rfl rfl rfl (by decide)) rfl rfl ?_; refine M_st1 rfl rfl rfl rfl rfl rfl rfl rfl ?_; refine L_nil ?_
    refine T_n ?_; refine A_seq ?_; refine A_region ?_; refine M0 (q_moveC rfl rfl rfl) rfl rfl ?_; refine M0 (q_moveC rfl rfl rfl) rfl rfl ?_
    refine M0 (q_add rfl rfl rfl rfl (by omega)) rfl rfl ?_; refine M0 (q_partr1 rfl rfl rfl rfl rfl rfl (by omega)) rfl rfl ?_; refine M0 (q_assignC rfl rfl rfl) rfl rfl ?_; refine L_nil ?_
    refine T_n ?_; refine A_seq ?_; refine A_seq ?_; refine A_region ?_; refine M0 (q_moveC rfl rfl rfl) rfl rfl ?_; refine M0 (q_len rfl rfl rfl) rfl rfl ?_
    refine M0 (q_rem rfl rfl rfl rfl (by omega)) rfl rfl ?_; refine M0 (q_neq rfl rfl rfl rfl) rfl rfl ?_; refine M0 (q_moveC rfl rfl rfl) rfl rfl ?_
    refine M0 (Qt.grdF rfl rfl rfl .stop (fun hgrd => q_moveC rfl rfl rfl)) rfl rfl ?_; refine M0 (Qt.grdF rfl rfl rfl (.hit .stop) (fun hgrd => q_len rfl rfl rfl)) rfl rfl ?_
    refine M0 (Qt.grdF rfl rfl rfl (.hit (.hit .stop)) (fun hgrd => q_quo rfl rfl rfl rfl (by omega))) rfl rfl ?_
    refine M0 (Qt.grdF rfl rfl rfl (.hit (.hit (.hit .stop))) (fun hgrd => q_gtr rfl rfl rfl rfl)) rfl rfl ?_; refine M0 (q_or rfl rfl rfl rfl) rfl rfl ?_; refine L_nil ?_; refine T_n ?_
    refine A_cond rfl (fun h3 => ?_) (fun h3 => ?_)
    · simp only [Bool.or_eq_true, decide_eq_true_eq] at h3
      rw [readWorld_no hu (fun hh => by
        have h8 := hh.2.1.2.2.2
        have h9 := (worldOk_spec hh.2.2).2.2.2.2.2.1.2
        have h10 : (worldOf lv l).Bodies.length = (l.length - 3 - (l.getD 2 0).toNat) / 9 := bodiesOf_len _ _
        rw [hl2] at h8 h10
        omega)]
      refine A_seq ?_; refine A_region ?_; refine M0 (q_build rfl rfl rfl rfl rfl) rfl rfl ?_; refine M_stN rfl rfl rfl rfl rfl rfl rfl rfl rfl ?_; refine M0 (q_assignC rfl rfl rfl) rfl rfl ?_
      refine L_nil ?_; refine T_n ?_; refine A_ret ?_; refine T_r ?_; refine F_r ?_
      exact E_cellt rfl rfl rfl rfl rfl (W_fill [1, 1, 9] [6, 7, 8] rfl rfl (by decide) rfl rfl rfl)
    simp only [Bool.or_eq_false_iff, decide_eq_false_iff_not] at h3
    obtain ⟨nb, hn⟩ : ∃ nb, rest.length = 9 * nb := ⟨rest.length / 9, by omega⟩
    have hform : formOk l := ⟨by omega, by rw [hl2]; exact hin2, by rw [hl2]; omega, by rw [hl2]; omega⟩
    have hwo : worldOf lv l = ⟨lv, l.getD 0 0, l.getD 1 0, (l.drop 3).take p, bodiesOf rest nb⟩ := by
      rw [worldOf, hl2, Int.toNat_natCast, ← hrest, show (l.length - 3 - p) / 9 = nb by omega]
    have hwg := worldOf_gd (lv := lv) hg hu4 (by omega)
    rw [hwo] at hwg
    refine AWP.pre (st' := (⟨_, [(4, .o (.c (.ptr 1 0))), (10, .o (.c (.ptr 4 0))), (11, .o (.c (.rd [2] (.sl 1 (els rest)))))], [.box ((Enc.e lv).map (V1.rd [])), .box [nilV, jv 0, jv 0, nilV, nilV], .row 1 (els l), .row 1 (els lv.Rows), .box [.ref 3, jv (l.getD 0 0), jv (l.getD 1 0), .ref 5, nilV], .row 1 (els ((l.drop 3).take p))]⟩ : St)) ?_ (W_go [0, 1, 2, 3, 4, 5] (by decide) rfl (rfl) (.cons rfl (.cons rfl (.cons (rdE hre) (.nil)))))
    refine AWP.pre ?_ (Wk.nilbox (p := 4) (i := 4) 9 rfl rfl)
    refine A_skip ?_; refine T_n ?_; refine A_seq ?_; refine A_seq ?_; refine A_region ?_; refine M0 (q_assignC rfl rfl rfl) rfl rfl ?_; refine L_nil ?_; refine T_n ?_; refine A_block ?_
    refine A_loop (fun m st => ∃ k : Nat, k + m = nb ∧ (True) ∧ st = (fun k : Nat => (⟨_, [(4, .o (.c (.ptr 1 0))), (10, .o (.c (.ptr 4 0))), (11, .o (.c (.rd [2] (.sl 1 (els rest))))), (12, I (9 * (k : Int)))], [.box ((Enc.e lv).map (V1.rd [])), .box [nilV, jv 0, jv 0, nilV, nilV], .row 1 (els l), .row 1 (els lv.Rows), .box [.ref 3, jv (l.getD 0 0), jv (l.getD 1 0), .ref 5, .ref 6], .row 1 (els ((l.drop 3).take p)), .row 9 (els (bodiesOf rest k))]⟩ : St)) k) (nb) ⟨(fun k : Nat => (⟨_, [(4, .o (.c (.ptr 1 0))), (10, .o (.c (.ptr 4 0))), (11, .o (.c (.rd [2] (.sl 1 (els rest))))), (12, I (9 * (k : Int)))], [.box ((Enc.e lv).map (V1.rd [])), .box [nilV, jv 0, jv 0, nilV, nilV], .row 1 (els l), .row 1 (els lv.Rows), .box [.ref 3, jv (l.getD 0 0), jv (l.getD 1 0), .ref 5, .ref 6], .row 1 (els ((l.drop 3).take p)), .row 9 (els (bodiesOf rest k))]⟩ : St)) 0, W_go [0, 1, 2, 3, 4, 5, 6] (by decide) rfl (rfl) (.cons rfl (.cons rfl (.cons rfl (.cons (I_eq (by simp)) (.nil))))), 0, by omega, trivial, rfl⟩ ?_
    rintro m_A _ ⟨k, hk_A, hp_A, rfl⟩
    have hlbk := els_len (bodiesOf rest k)
    have hlbk2 := bodiesOf_len rest k
    refine A_seq ?_; refine A_seq ?_; refine A_region ?_; refine M0 (q_moveC rfl rfl rfl) rfl rfl ?_; refine M0 (q_moveC rfl rfl rfl) rfl rfl ?_; refine M0 (q_len rfl rfl rfl) rfl rfl ?_
    refine M0 (q_lss rfl rfl rfl rfl) rfl rfl ?_; refine L_nil ?_; refine T_n ?_
    refine A_cond rfl (fun h4 => ?_) (fun h4 => ?_)
    · have h4 := of_decide_eq_true h4
      have hk9 : 9 * k + 9 ≤ rest.length := by omega
      have hc0 := chunk_at (rest := rest) (m := k) (by omega) (j := 0) (by omega) (9 * (k : Int) + 9) (9 * (k : Int)) rfl rfl 0 rfl
      have hc1 := chunk_at (rest := rest) (m := k) (by omega) (j := 1) (by omega) (9 * (k : Int) + 9) (9 * (k : Int)) rfl rfl 1 rfl
      have hc2 := chunk_at (rest := rest) (m := k) (by omega) (j := 2) (by omega) (9 * (k : Int) + 9) (9 * (k : Int)) rfl rfl 2 rfl
      have hc3 := chunk_at (rest := rest) (m := k) (by omega) (j := 3) (by omega) (9 * (k : Int) + 9) (9 * (k : Int)) rfl rfl 3 rfl
      have hc4 := chunk_at (rest := rest) (m := k) (by omega) (j := 4) (by omega) (9 * (k : Int) + 9) (9 * (k : Int)) rfl rfl 4 rfl
      have hc5 := chunk_at (rest := rest) (m := k) (by omega) (j := 5) (by omega) (9 * (k : Int) + 9) (9 * (k : Int)) rfl rfl 5 rfl
      have hc6 := chunk_at (rest := rest) (m := k) (by omega) (j := 6) (by omega) (9 * (k : Int) + 9) (9 * (k : Int)) rfl rfl 6 rfl
      have hc7 := chunk_at (rest := rest) (m := k) (by omega) (j := 7) (by omega) (9 * (k : Int) + 9) (9 * (k : Int)) rfl rfl 7 rfl
      have hc8 := chunk_at (rest := rest) (m := k) (by omega) (j := 8) (by omega) (9 * (k : Int) + 9) (9 * (k : Int)) rfl rfl 8 rfl
      have hlbk3 : (els (bodiesOf rest k)).length = k := by omega
      have hlt : (9 * (k : Int) + 9 ≤ (els rest).length) := by omega
      have hk24 : k ≤ 24 := by omega
      have hknb : k < nb := by omega
      clear hwg hwo hform hre hcl hdl h3 h2 hin2 hin hbt hl264 hl21 hl22 ha0 ha1 ha2 h hu1 hu2 hu3 hu4 hll hui hrl hrl2 hn hpl hlbk hlbk2 hp_A hk9 h4
      refine A_skip ?_; refine T_n ?_; refine A_seq ?_; refine A_block ?_; refine A_seq ?_; refine A_region ?_; refine M0 (q_moveC rfl rfl rfl) rfl rfl ?_; refine M0 (q_moveC rfl rfl rfl) rfl rfl ?_
      refine M0 (q_moveC rfl rfl rfl) rfl rfl ?_; refine M0 (q_add rfl rfl rfl rfl (by omega)) rfl rfl ?_; refine M0 (q_part rfl rfl rfl rfl rfl rfl (by omega)) rfl rfl ?_
      refine M0 (q_assignC rfl rfl rfl) rfl rfl ?_; refine L_nil ?_; refine T_n ?_
      refine A_draw [[], [0], [], [2], [2, 3], [], [5], [5, 6], [], [8], [8, 9], [], [11], [11, 12], [], [14], [14, 15], [], [17], [17, 18], [], [20], [20, 21], [], [23], [23, 24], [], [26], [26, 27], [2, 3, 4, 5, 6, 7, 8, 9, 10, 11, 12, 13, 14, 15, 16, 17, 18, 19, 20, 21, 22, 23, 24, 25, 26, 27, 28], [2, 3, 4, 5, 6, 7, 8, 9, 10, 11, 12, 13, 14, 15, 16, 17, 18, 19, 20, 21, 22, 23, 24, 25, 26, 27, 28, 29], [0, 1, 2, 3, 4, 5, 6, 7, 8, 9, 10, 11, 12, 13, 14, 15, 16, 17, 18, 19, 20, 21, 22, 23, 24, 25, 26, 27, 28, 29, 30], [0, 1, 2, 3, 4, 5, 6, 7, 8, 9, 10, 11, 12, 13, 14, 15, 16, 17, 18, 19, 20, 21, 22, 23, 24, 25, 26, 27, 28, 29, 30, 31], [0, 1, 2, 3, 4, 5, 6, 7, 8, 9, 10, 11, 12, 13, 14, 15, 16, 17, 18, 19, 20, 21, 22, 23, 24, 25, 26, 27, 28, 29, 30, 31, 32]] [[], [89], [], [91], [91, 92], [], [94], [94, 95], [], [97], [97, 98], [], [100], [100, 101], [], [103], [103, 104], [], [106], [106, 107], [], [109], [109, 110], [], [112], [112, 113], [], [115], [115, 116], [91, 92, 93, 94, 95, 96, 97, 98, 99, 100, 101, 102, 103, 104, 105, 106, 107, 108, 109, 110, 111, 112, 113, 114, 115, 116, 117], [91, 92, 93, 94, 95, 96, 97, 98, 99, 100, 101, 102, 103, 104, 105, 106, 107, 108, 109, 110, 111, 112, 113, 114, 115, 116, 117, 118], [89, 90, 91, 92, 93, 94, 95, 96, 97, 98, 99, 100, 101, 102, 103, 104, 105, 106, 107, 108, 109, 110, 111, 112, 113, 114, 115, 116, 117, 118, 119], [89, 90, 91, 92, 93, 94, 95, 96, 97, 98, 99, 100, 101, 102, 103, 104, 105, 106, 107, 108, 109, 110, 111, 112, 113, 114, 115, 116, 117, 118, 119, 120], [89, 90, 91, 92, 93, 94, 95, 96, 97, 98, 99, 100, 101, 102, 103, 104, 105, 106, 107, 108, 109, 110, 111, 112, 113, 114, 115, 116, 117, 118, 119, 120, 121]] [[91, 92, 93, 94, 95, 96, 97, 98, 99, 100, 101, 102, 103, 104, 105, 106, 107, 108, 109, 110, 111, 112, 113, 114, 115, 116, 117, 118, 119], [91, 92, 93, 94, 95, 96, 97, 98, 99, 100, 101, 102, 103, 104, 105, 106, 107, 108, 109, 110, 111, 112, 113, 114, 115, 116, 117, 118, 119], [89, 90, 94, 95, 96, 97, 98, 99, 100, 101, 102, 103, 104, 105, 106, 107, 108, 109, 110, 111, 112, 113, 114, 115, 116, 117], [89, 90, 94, 95, 96, 97, 98, 99, 100, 101, 102, 103, 104, 105, 106, 107, 108, 109, 110, 111, 112, 113, 114, 115, 116, 117], [89, 90, 94, 95, 96, 97, 98, 99, 100, 101, 102, 103, 104, 105, 106, 107, 108, 109, 110, 111, 112, 113, 114, 115, 116, 117], [89, 90, 91, 92, 93, 97, 98, 99, 100, 101, 102, 103, 104, 105, 106, 107, 108, 109, 110, 111, 112, 113, 114, 115, 116, 117], [89, 90, 91, 92, 93, 97, 98, 99, 100, 101, 102, 103, 104, 105, 106, 107, 108, 109, 110, 111, 112, 113, 114, 115, 116, 117], [89, 90, 91, 92, 93, 97, 98, 99, 100, 101, 102, 103, 104, 105, 106, 107, 108, 109, 110, 111, 112, 113, 114, 115, 116, 117], [89, 90, 91, 92, 93, 94, 95, 96, 100, 101, 102, 103, 104, 105, 106, 107, 108, 109, 110, 111, 112, 113, 114, 115, 116, 117], [89, 90, 91, 92, 93, 94, 95, 96, 100, 101, 102, 103, 104, 105, 106, 107, 108, 109, 110, 111, 112, 113, 114, 115, 116, 117], [89, 90, 91, 92, 93, 94, 95, 96, 100, 101, 102, 103, 104, 105, 106, 107, 108, 109, 110, 111, 112, 113, 114, 115, 116, 117], [89, 90, 91, 92, 93, 94, 95, 96, 97, 98, 99, 103, 104, 105, 106, 107, 108, 109, 110, 111, 112, 113, 114, 115, 116, 117], [89, 90, 91, 92, 93, 94, 95, 96, 97, 98, 99, 103, 104, 105, 106, 107, 108, 109, 110, 111, 112, 113, 114, 115, 116, 117], [89, 90, 91, 92, 93, 94, 95, 96, 97, 98, 99, 103, 104, 105, 106, 107, 108, 109, 110, 111, 112, 113, 114, 115, 116, 117], [89, 90, 91, 92, 93, 94, 95, 96, 97, 98, 99, 100, 101, 102, 106, 107, 108, 109, 110, 111, 112, 113, 114, 115, 116, 117], [89, 90, 91, 92, 93, 94, 95, 96, 97, 98, 99, 100, 101, 102, 106, 107, 108, 109, 110, 111, 112, 113, 114, 115, 116, 117], [89, 90, 91, 92, 93, 94, 95, 96, 97, 98, 99, 100, 101, 102, 106, 107, 108, 109, 110, 111, 112, 113, 114, 115, 116, 117], [89, 90, 91, 92, 93, 94, 95, 96, 97, 98, 99, 100, 101, 102, 103, 104, 105, 109, 110, 111, 112, 113, 114, 115, 116, 117], [89, 90, 91, 92, 93, 94, 95, 96, 97, 98, 99, 100, 101, 102, 103, 104, 105, 109, 110, 111, 112, 113, 114, 115, 116, 117], [89, 90, 91, 92, 93, 94, 95, 96, 97, 98, 99, 100, 101, 102, 103, 104, 105, 109, 110, 111, 112, 113, 114, 115, 116, 117], [89, 90, 91, 92, 93, 94, 95, 96, 97, 98, 99, 100, 101, 102, 103, 104, 105, 106, 107, 108, 112, 113, 114, 115, 116, 117], [89, 90, 91, 92, 93, 94, 95, 96, 97, 98, 99, 100, 101, 102, 103, 104, 105, 106, 107, 108, 112, 113, 114, 115, 116, 117], [89, 90, 91, 92, 93, 94, 95, 96, 97, 98, 99, 100, 101, 102, 103, 104, 105, 106, 107, 108, 112, 113, 114, 115, 116, 117], [89, 90, 91, 92, 93, 94, 95, 96, 97, 98, 99, 100, 101, 102, 103, 104, 105, 106, 107, 108, 109, 110, 111, 115, 116, 117], [89, 90, 91, 92, 93, 94, 95, 96, 97, 98, 99, 100, 101, 102, 103, 104, 105, 106, 107, 108, 109, 110, 111, 115, 116, 117], [89, 90, 91, 92, 93, 94, 95, 96, 97, 98, 99, 100, 101, 102, 103, 104, 105, 106, 107, 108, 109, 110, 111, 115, 116, 117], [89, 90, 91, 92, 93, 94, 95, 96, 97, 98, 99, 100, 101, 102, 103, 104, 105, 106, 107, 108, 109, 110, 111, 112, 113, 114], [89, 90, 91, 92, 93, 94, 95, 96, 97, 98, 99, 100, 101, 102, 103, 104, 105, 106, 107, 108, 109, 110, 111, 112, 113, 114], [89, 90, 91, 92, 93, 94, 95, 96, 97, 98, 99, 100, 101, 102, 103, 104, 105, 106, 107, 108, 109, 110, 111, 112, 113, 114], [89, 90], [89, 90], [], [], []] rfl ?_
      refine DR.step (q_fldp rfl rfl rfl rfl (by decide)) rfl rfl ?_; refine DR.step (q_ld1 rfl rfl rfl rfl rfl) rfl rfl ?_; refine DR.step (q_moveC rfl rfl rfl) rfl rfl ?_
      refine DR.step (q_at rfl rfl rfl rfl (by omega) (by assumption) rfl) rfl rfl ?_; refine DR.step (q_lr1 rfl rfl rfl rfl) rfl rfl ?_; refine DR.step (q_moveC rfl rfl rfl) rfl rfl ?_
      refine DR.step (q_at rfl rfl rfl rfl (by omega) (by assumption) rfl) rfl rfl ?_; refine DR.step (q_lr1 rfl rfl rfl rfl) rfl rfl ?_; refine DR.step (q_moveC rfl rfl rfl) rfl rfl ?_
      refine DR.step (q_at rfl rfl rfl rfl (by omega) (by assumption) rfl) rfl rfl ?_; refine DR.step (q_lr1 rfl rfl rfl rfl) rfl rfl ?_; refine DR.step (q_moveC rfl rfl rfl) rfl rfl ?_
      refine DR.step (q_at rfl rfl rfl rfl (by omega) (by assumption) rfl) rfl rfl ?_; refine DR.step (q_lr1 rfl rfl rfl rfl) rfl rfl ?_; refine DR.step (q_moveC rfl rfl rfl) rfl rfl ?_
      refine DR.step (q_at rfl rfl rfl rfl (by omega) (by assumption) rfl) rfl rfl ?_; refine DR.step (q_lr1 rfl rfl rfl rfl) rfl rfl ?_; refine DR.step (q_moveC rfl rfl rfl) rfl rfl ?_
      refine DR.step (q_at rfl rfl rfl rfl (by omega) (by assumption) rfl) rfl rfl ?_; refine DR.step (q_lr1 rfl rfl rfl rfl) rfl rfl ?_; refine DR.step (q_moveC rfl rfl rfl) rfl rfl ?_
      refine DR.step (q_at rfl rfl rfl rfl (by omega) (by assumption) rfl) rfl rfl ?_; refine DR.step (q_lr1 rfl rfl rfl rfl) rfl rfl ?_; refine DR.step (q_moveC rfl rfl rfl) rfl rfl ?_
      refine DR.step (q_at rfl rfl rfl rfl (by omega) (by assumption) rfl) rfl rfl ?_; refine DR.step (q_lr1 rfl rfl rfl rfl) rfl rfl ?_; refine DR.step (q_moveC rfl rfl rfl) rfl rfl ?_
      refine DR.step (q_at rfl rfl rfl rfl (by omega) (by assumption) rfl) rfl rfl ?_; refine DR.step (q_lr1 rfl rfl rfl rfl) rfl rfl ?_
      refine DR.step (x := .o (.ag [jv ((rest.drop (9 * k)).getD 0 0), jv ((rest.drop (9 * k)).getD 1 0), jv ((rest.drop (9 * k)).getD 2 0), jv ((rest.drop (9 * k)).getD 3 0), jv ((rest.drop (9 * k)).getD 4 0), jv ((rest.drop (9 * k)).getD 5 0), jv ((rest.drop (9 * k)).getD 6 0), jv ((rest.drop (9 * k)).getD 7 0), jv ((rest.drop (9 * k)).getD 8 0)])) (q_build rfl rfl rfl rfl rfl) rfl rfl ?_
      refine DR.step (q_bslice rfl rfl rfl rfl rfl rfl) rfl rfl ?_; refine DR.stop (by kernel_rfl) (by kernel_rfl) ?_
      refine AL.weak (st' := (⟨_, [(4, .o (.c (.ptr 1 0))), (10, .o (.c (.ptr 4 0))), (11, .o (.c (.rd [2] (.sl 1 (els rest))))), (12, I (9 * (k : Int))), (90, .o (.c (.ref 6))), (119, .o (.c (.sb 7 1 9)))], [.box ((Enc.e lv).map (V1.rd [])), .box [nilV, jv 0, jv 0, nilV, nilV], .row 1 (els l), .row 1 (els lv.Rows), .box [.ref 3, jv (l.getD 0 0), jv (l.getD 1 0), .ref 5, .ref 6], .row 1 (els ((l.drop 3).take p)), .row 9 (els (bodiesOf rest k)), .box [jv ((rest.drop (9 * k)).getD 0 0), jv ((rest.drop (9 * k)).getD 1 0), jv ((rest.drop (9 * k)).getD 2 0), jv ((rest.drop (9 * k)).getD 3 0), jv ((rest.drop (9 * k)).getD 4 0), jv ((rest.drop (9 * k)).getD 5 0), jv ((rest.drop (9 * k)).getD 6 0), jv ((rest.drop (9 * k)).getD 7 0), jv ((rest.drop (9 * k)).getD 8 0)]]⟩ : St)) (W_go [0, 1, 2, 3, 4, 5, 6, 7] (by decide) rfl (rfl) (.cons rfl (.cons rfl (.cons rfl (.cons rfl (.cons rfl (.cons rfl (.nil)))))))) ?_
      refine M_appo rfl rfl rfl rfl rfl rfl rfl rfl rfl rfl rfl rfl rfl rfl (by omega) (by omega) ?_; refine M0 (q_fldp rfl rfl rfl rfl (by decide)) rfl rfl ?_
      refine M_st1 rfl rfl rfl rfl rfl rfl rfl rfl ?_; refine L_nil ?_; refine B_n ?_; refine T_n ?_; refine A_region ?_; refine M0 (q_moveC rfl rfl rfl) rfl rfl ?_
      refine M0 (q_add rfl rfl rfl rfl (by omega)) rfl rfl ?_; refine M0 (q_assignC rfl rfl rfl) rfl rfl ?_; refine L_nil ?_; refine T_n ?_
      exact ⟨nb - (k + 1), by omega, (fun k : Nat => (⟨_, [(4, .o (.c (.ptr 1 0))), (10, .o (.c (.ptr 4 0))), (11, .o (.c (.rd [2] (.sl 1 (els rest))))), (12, I (9 * (k : Int)))], [.box ((Enc.e lv).map (V1.rd [])), .box [nilV, jv 0, jv 0, nilV, nilV], .row 1 (els l), .row 1 (els lv.Rows), .box [.ref 3, jv (l.getD 0 0), jv (l.getD 1 0), .ref 5, .ref 6], .row 1 (els ((l.drop 3).take p)), .row 9 (els (bodiesOf rest k))]⟩ : St)) (k + 1), W_go [0, 1, 2, 3, 4, 5, 6] (by decide) rfl (row7 (by rw [bodiesOf_snoc, els_app]; rfl)) (.cons rfl (.cons rfl (.cons rfl (.cons (I_eq (by omega)) (.nil))))), k + 1, by omega, trivial, rfl⟩
    · have h4 := of_decide_eq_false h4
      have hkn : k = nb := by omega
      subst hkn
      have hwk := I_WorldOk ⟨lv, l.getD 0 0, l.getD 1 0, (l.drop 3).take p, bodiesOf rest k⟩ hwg
      cases ho : worldOk ⟨lv, l.getD 0 0, l.getD 1 0, (l.drop 3).take p, bodiesOf rest k⟩ with
      | false =>
        rw [ho] at hwk
        rw [readWorld_no hu (fun hh => by have h9 := hh.2.2; rw [hwo, ho] at h9; cases h9)]
        refine A_exit ?_; refine T_x ?_; refine T_x ?_; refine B_xs ?_; refine T_n ?_; refine A_seq ?_; refine A_seq ?_; refine A_region ?_; refine M0 (q_ldN rfl rfl rfl rfl rfl rfl) rfl rfl ?_
        refine M0 (q_call0 rfl rfl (hwk) rfl) rfl rfl ?_; refine M0 (q_not rfl rfl rfl) rfl rfl ?_; refine L_nil ?_; refine T_n ?_; refine A_ifT rfl ?_; refine A_seq ?_; refine A_region ?_
        refine M0 (q_build rfl rfl rfl rfl rfl) rfl rfl ?_; refine M_stN rfl rfl rfl rfl rfl rfl rfl rfl rfl ?_; refine M0 (q_assignC rfl rfl rfl) rfl rfl ?_; refine L_nil ?_; refine T_n ?_
        refine A_ret ?_; refine T_r ?_; refine F_r ?_
        exact E_cellt rfl rfl rfl rfl rfl (W_fill [1, 1, 9] [7, 8, 9] rfl rfl (by decide) rfl rfl rfl)
      | true =>
        rw [ho] at hwk
        rw [readWorld_yes hu ⟨by omega, hform, by rw [hwo]; exact ho⟩, hwo]
        refine A_exit ?_; refine T_x ?_; refine T_x ?_; refine B_xs ?_; refine T_n ?_; refine A_seq ?_; refine A_seq ?_; refine A_region ?_; refine M0 (q_ldN rfl rfl rfl rfl rfl rfl) rfl rfl ?_
        refine M0 (q_call0 rfl rfl (hwk) rfl) rfl rfl ?_; refine M0 (q_not rfl rfl rfl) rfl rfl ?_; refine L_nil ?_; refine T_n ?_; refine A_ifF rfl ?_; refine A_skip ?_; refine T_n ?_; refine A_seq ?_
        refine A_region ?_; refine M0 (q_ldN rfl rfl rfl rfl rfl rfl) rfl rfl ?_; refine M_stN rfl rfl rfl rfl rfl rfl rfl rfl rfl ?_; refine M0 (q_assignC rfl rfl rfl) rfl rfl ?_; refine L_nil ?_
        refine T_n ?_; refine A_ret ?_; refine F_r ?_
        exact E_cellt rfl rfl rfl rfl rfl (W_end [3, 5, 6] (by decide) rfl rfl rfl)
end Go.Proofs.Ytkfnaniegldfaaa
end

section
set_option linter.unusedSimpArgs false
set_option linter.unusedVariables false
set_option maxRecDepth 8000
namespace Go.Proofs.Ytkfnaniegldfaaa
open Go.RowKit

theorem row6 {a b c d e : Ob} {k : Nat} {x y : List (List T)} (h : x = y) : [a, b, c, d, e, Ob.row k x] = [a, b, c, d, e, Ob.row k y] := by rw [h]
theorem plain_dt (l : List Int) (a b : Nat) : plainT (((els l).take a).drop b) := fun e he => els_plain l e (List.mem_of_mem_take (List.mem_of_mem_drop he))
theorem k_dt (l : List Int) (a b : Nat) : ∀ e ∈ ((els l).take a).drop b, e.length = 1 := fun e he => els_k l e (List.mem_of_mem_take (List.mem_of_mem_drop he))
theorem world_bytes_eq {lv : TLevel} {s : ByteArray} {l : List Int} {pos : Nat} (hu : unpackInts s 0 = some (l, pos)) (hp : pos = s.size) (hf : formOk l) : worldBytes (worldOf lv l) = s ↔ worldOk (worldOf lv l) = true := by
  have hcn := unpackInts_canon hu
  have hb := bytesL_all s pos (by omega)
  have hs : packInts l = s := by rw [hcn]; exact hb.2 hp
  cases ho : worldOk (worldOf lv l) with
  | true =>
    rw [show worldBytes (worldOf lv l) = packInts (worldInts (worldOf lv l)) by rw [worldBytes, ho]; exact if_pos rfl, worldOf_ints hf]
    exact ⟨fun _ => rfl, fun _ => hs⟩
  | false =>
    rw [show worldBytes (worldOf lv l) = ⟨#[]⟩ by rw [worldBytes, ho]; exact if_neg (by decide)]
    refine ⟨fun h => ?_, fun h => by cases h⟩
    have h1 := (unpackInts_some hu).2.1
    rw [hp, ← h] at h1
    exact absurd h1 (by decide)
theorem body_cells {l rest : List Int} {c q : Nat} (hr : rest = l.drop c) : Enc.e (bodyOf (rest.drop (9 * q))) = [.v (.int .i64 (l.getD (c + 9 * q + 0) 0)), .v (.int .i64 (l.getD (c + 9 * q + 1) 0)), .v (.int .i64 (l.getD (c + 9 * q + 2) 0)), .v (.int .i64 (l.getD (c + 9 * q + 3) 0)), .v (.int .i64 (l.getD (c + 9 * q + 4) 0)), .v (.int .i64 (l.getD (c + 9 * q + 5) 0)), .v (.int .i64 (l.getD (c + 9 * q + 6) 0)), .v (.int .i64 (l.getD (c + 9 * q + 7) 0)), .v (.int .i64 (l.getD (c + 9 * q + 8) 0))] := by
  have h : ∀ j, (rest.drop (9 * q)).getD j 0 = l.getD (c + 9 * q + j) 0 := fun j => by
    rw [hr, List.drop_drop, List.getD_eq_getElem?_getD, List.getD_eq_getElem?_getD, List.getElem?_drop]
  show [T.v (.int .i64 ((rest.drop (9 * q)).getD 0 0)), .v (.int .i64 ((rest.drop (9 * q)).getD 1 0)), .v (.int .i64 ((rest.drop (9 * q)).getD 2 0)), .v (.int .i64 ((rest.drop (9 * q)).getD 3 0)), .v (.int .i64 ((rest.drop (9 * q)).getD 4 0)), .v (.int .i64 ((rest.drop (9 * q)).getD 5 0)), .v (.int .i64 ((rest.drop (9 * q)).getD 6 0)), .v (.int .i64 ((rest.drop (9 * q)).getD 7 0)), .v (.int .i64 ((rest.drop (9 * q)).getD 8 0))] = _
  simp only [h]
set_option maxHeartbeats 8000000 in
theorem S_ReadWorld (lv : TLevel) (s : ByteArray) (hg : Enc.gd lv) (hL : lv.Rows.length ≤ 1048576) (hs : s.size ≤ 1099511627776) : Con Try.prog 76 [] [ag lv, astr s] (ownO (Enc.e (rwW (readWorld lv s)))) (.tu [.ag (ownV 0 (Enc.e (rwW (readWorld lv s)))), .c (bv (rwB (readWorld lv s)))]) := by
  have hui := S_UnpackInts s 0 hs ⟨by omega, by omega⟩
  cases hu : unpackInts s 0 with
  | none =>
    rw [hu] at hui
    rw [readWorld_none hu]
    refine Con.of Try.func76 rfl Try.ntmps76 rfl (fun E => ?_)
    refine A_seq ?_; refine A_region ?_; refine M1 (q_boxN rfl rfl rfl rfl) rfl rfl ?_; refine M1 (q_alloc rfl rfl rfl) rfl rfl ?_; refine M0 (q_assignC rfl rfl rfl) rfl rfl ?_; refine L_nil ?_
    refine T_n ?_; refine A_seq ?_; refine A_region ?_; refine M0 (q_moveC rfl rfl rfl) rfl rfl ?_; refine M1 (q_call rfl rfl (hui) rfl rfl rfl) rfl rfl ?_
    refine M0 (q_moveT rfl rfl rfl) rfl rfl ?_; refine M0 (q_ext rfl rfl rfl rfl) rfl rfl ?_; refine M0 (q_ext rfl rfl rfl rfl) rfl rfl ?_; refine M0 (q_ext rfl rfl rfl rfl) rfl rfl ?_
    refine M0 (q_assignC rfl rfl rfl) rfl rfl ?_; refine M0 (q_assignC rfl rfl rfl) rfl rfl ?_; refine M0 (q_assignC rfl rfl rfl) rfl rfl ?_; refine L_nil ?_; refine T_n ?_; refine A_seq ?_
    refine A_seq ?_; refine A_region ?_; refine M0 (q_moveC rfl rfl rfl) rfl rfl ?_; refine M0 (q_not rfl rfl rfl) rfl rfl ?_; refine M0 (q_moveC rfl rfl rfl) rfl rfl ?_
    refine M_no rfl rfl rfl rfl rfl rfl ?_; refine M_no rfl rfl rfl rfl rfl rfl ?_; refine M_no rfl rfl rfl rfl rfl rfl ?_; refine M_no rfl rfl rfl rfl rfl rfl ?_
    refine M0 (q_pickT rfl rfl rfl rfl) rfl rfl ?_; refine M0 (q_moveC rfl rfl rfl) rfl rfl ?_; refine M_no rfl rfl rfl rfl rfl rfl ?_; refine M_no rfl rfl rfl rfl rfl rfl ?_
    refine M_no rfl rfl rfl rfl rfl rfl ?_; refine M0 (q_pickT rfl rfl rfl rfl) rfl rfl ?_; refine M0 (q_moveC rfl rfl rfl) rfl rfl ?_; refine M_no rfl rfl rfl rfl rfl rfl ?_
    refine M_no rfl rfl rfl rfl rfl rfl ?_; refine M_no rfl rfl rfl rfl rfl rfl ?_; refine M_no rfl rfl rfl rfl rfl rfl ?_; refine M_no rfl rfl rfl rfl rfl rfl ?_
    refine M0 (q_pickT rfl rfl rfl rfl) rfl rfl ?_; refine M0 (q_moveC rfl rfl rfl) rfl rfl ?_; refine M_no rfl rfl rfl rfl rfl rfl ?_; refine M_no rfl rfl rfl rfl rfl rfl ?_
    refine M_no rfl rfl rfl rfl rfl rfl ?_; refine M_no rfl rfl rfl rfl rfl rfl ?_; refine M_no rfl rfl rfl rfl rfl rfl ?_; refine M_no rfl rfl rfl rfl rfl rfl ?_
    refine M_no rfl rfl rfl rfl rfl rfl ?_; refine M0 (q_pickT rfl rfl rfl rfl) rfl rfl ?_; refine M0 (q_moveC rfl rfl rfl) rfl rfl ?_; refine M_no rfl rfl rfl rfl rfl rfl ?_
    refine M_no rfl rfl rfl rfl rfl rfl ?_; refine M_no rfl rfl rfl rfl rfl rfl ?_; refine M_no rfl rfl rfl rfl rfl rfl ?_; refine M_no rfl rfl rfl rfl rfl rfl ?_
    refine M_no rfl rfl rfl rfl rfl rfl ?_; refine M_no rfl rfl rfl rfl rfl rfl ?_; refine M_no rfl rfl rfl rfl rfl rfl ?_; refine M_no rfl rfl rfl rfl rfl rfl ?_
    refine M0 (q_pickT rfl rfl rfl rfl) rfl rfl ?_; refine L_nil ?_; refine T_n ?_; refine A_ifT rfl ?_; refine A_seq ?_; refine A_region ?_; refine M0 (q_build rfl rfl rfl rfl rfl) rfl rfl ?_
    refine M_stN rfl rfl rfl rfl rfl rfl rfl rfl rfl ?_; refine M0 (q_assignC rfl rfl rfl) rfl rfl ?_; refine L_nil ?_; refine T_n ?_; refine A_ret ?_; refine T_r ?_; refine F_r ?_
    exact E_cellt rfl rfl rfl rfl rfl (W_fill [1, 1, 9] [3, 4, 5] rfl rfl (by decide) rfl rfl rfl)
  | some r =>
    obtain ⟨l, pos⟩ := r
    rw [hu] at hui
    obtain ⟨_, hu1, hu2, hu3, hu4⟩ := unpackInts_some hu
    have hll := els_len l
    by_cases c1 : (pos : Int) ≠ s.size
    · have hb1 : decide ((pos : Int) ≠ s.size) = true := decide_eq_true c1
      rw [readWorld_no hu (fun hh => by have := hh.1; omega)]
      refine Con.of Try.func76 rfl Try.ntmps76 rfl (fun E => ?_)
      refine A_seq ?_; refine A_region ?_; refine M1 (q_boxN rfl rfl rfl rfl) rfl rfl ?_; refine M1 (q_alloc rfl rfl rfl) rfl rfl ?_; refine M0 (q_assignC rfl rfl rfl) rfl rfl ?_; refine L_nil ?_
      refine T_n ?_; refine A_seq ?_; refine A_region ?_; refine M0 (q_moveC rfl rfl rfl) rfl rfl ?_; refine M1 (q_call rfl rfl (hui) rfl rfl rfl) rfl rfl ?_
      refine M0 (q_moveT rfl rfl rfl) rfl rfl ?_; refine M0 (q_ext rfl rfl rfl rfl) rfl rfl ?_; refine M0 (q_ext rfl rfl rfl rfl) rfl rfl ?_; refine M0 (q_ext rfl rfl rfl rfl) rfl rfl ?_
      refine M0 (q_assignC rfl rfl rfl) rfl rfl ?_; refine M0 (q_assignC rfl rfl rfl) rfl rfl ?_; refine M0 (q_assignC rfl rfl rfl) rfl rfl ?_; refine L_nil ?_; refine T_n ?_; refine A_seq ?_
      refine A_seq ?_; refine A_region ?_; refine M0 (q_moveC rfl rfl rfl) rfl rfl ?_; refine M0 (q_not rfl rfl rfl) rfl rfl ?_; refine M0 (q_moveC rfl rfl rfl) rfl rfl ?_
      refine M_yes rfl rfl rfl ?_; refine M0 (q_moveC rfl rfl rfl) rfl rfl ?_; refine M_yes rfl rfl rfl ?_; refine M0 (q_moveC rfl rfl rfl) rfl rfl ?_; refine M_yes rfl rfl rfl ?_
      refine M0 (q_lens rfl rfl rfl) rfl rfl ?_; refine M_yes rfl rfl rfl ?_; refine M0 (q_neqK rfl rfl rfl rfl (by assumption)) rfl rfl ?_; refine M0 (q_pickF rfl rfl rfl rfl) rfl rfl ?_
      refine M0 (q_moveC rfl rfl rfl) rfl rfl ?_; refine M_no rfl rfl rfl rfl rfl rfl ?_; refine M_no rfl rfl rfl rfl rfl rfl ?_; refine M_no rfl rfl rfl rfl rfl rfl ?_
      refine M0 (q_pickT rfl rfl rfl rfl) rfl rfl ?_; refine M0 (q_moveC rfl rfl rfl) rfl rfl ?_; refine M_no rfl rfl rfl rfl rfl rfl ?_; refine M_no rfl rfl rfl rfl rfl rfl ?_
      refine M_no rfl rfl rfl rfl rfl rfl ?_; refine M_no rfl rfl rfl rfl rfl rfl ?_; refine M_no rfl rfl rfl rfl rfl rfl ?_; refine M0 (q_pickT rfl rfl rfl rfl) rfl rfl ?_
      refine M0 (q_moveC rfl rfl rfl) rfl rfl ?_; refine M_no rfl rfl rfl rfl rfl rfl ?_; refine M_no rfl rfl rfl rfl rfl rfl ?_; refine M_no rfl rfl rfl rfl rfl rfl ?_
      refine M_no rfl rfl rfl rfl rfl rfl ?_; refine M_no rfl rfl rfl rfl rfl rfl ?_; refine M_no rfl rfl rfl rfl rfl rfl ?_; refine M_no rfl rfl rfl rfl rfl rfl ?_
      refine M0 (q_pickT rfl rfl rfl rfl) rfl rfl ?_; refine M0 (q_moveC rfl rfl rfl) rfl rfl ?_; refine M_no rfl rfl rfl rfl rfl rfl ?_; refine M_no rfl rfl rfl rfl rfl rfl ?_
      refine M_no rfl rfl rfl rfl rfl rfl ?_; refine M_no rfl rfl rfl rfl rfl rfl ?_; refine M_no rfl rfl rfl rfl rfl rfl ?_; refine M_no rfl rfl rfl rfl rfl rfl ?_
      refine M_no rfl rfl rfl rfl rfl rfl ?_; refine M_no rfl rfl rfl rfl rfl rfl ?_; refine M_no rfl rfl rfl rfl rfl rfl ?_; refine M0 (q_pickT rfl rfl rfl rfl) rfl rfl ?_; refine L_nil ?_
      refine T_n ?_; refine A_ifT rfl ?_; refine A_seq ?_; refine A_region ?_; refine M0 (q_build rfl rfl rfl rfl rfl) rfl rfl ?_; refine M_stN rfl rfl rfl rfl rfl rfl rfl rfl rfl ?_
      refine M0 (q_assignC rfl rfl rfl) rfl rfl ?_; refine L_nil ?_; refine T_n ?_; refine A_ret ?_; refine T_r ?_; refine F_r ?_
      exact E_cellt rfl rfl rfl rfl rfl (W_fill [1, 1, 9] [3, 4, 5] rfl rfl (by decide) rfl rfl rfl)
    have hb1 : decide ((pos : Int) ≠ s.size) = false := decide_eq_false c1
    by_cases c2 : ((els l).length : Int) < 3
    · have hb2 : decide (((els l).length : Int) < 3) = true := decide_eq_true c2
      rw [readWorld_no hu (fun hh => by have := hh.2.1.1; omega)]
      refine Con.of Try.func76 rfl Try.ntmps76 rfl (fun E => ?_)
      refine A_seq ?_; refine A_region ?_; refine M1 (q_boxN rfl rfl rfl rfl) rfl rfl ?_; refine M1 (q_alloc rfl rfl rfl) rfl rfl ?_; refine M0 (q_assignC rfl rfl rfl) rfl rfl ?_; refine L_nil ?_
      refine T_n ?_; refine A_seq ?_; refine A_region ?_; refine M0 (q_moveC rfl rfl rfl) rfl rfl ?_; refine M1 (q_call rfl rfl (hui) rfl rfl rfl) rfl rfl ?_
      refine M0 (q_moveT rfl rfl rfl) rfl rfl ?_; refine M0 (q_ext rfl rfl rfl rfl) rfl rfl ?_; refine M0 (q_ext rfl rfl rfl rfl) rfl rfl ?_; refine M0 (q_ext rfl rfl rfl rfl) rfl rfl ?_
      refine M0 (q_assignC rfl rfl rfl) rfl rfl ?_; refine M0 (q_assignC rfl rfl rfl) rfl rfl ?_; refine M0 (q_assignC rfl rfl rfl) rfl rfl ?_; refine L_nil ?_; refine T_n ?_; refine A_seq ?_
      refine A_seq ?_; refine A_region ?_; refine M0 (q_moveC rfl rfl rfl) rfl rfl ?_; refine M0 (q_not rfl rfl rfl) rfl rfl ?_; refine M0 (q_moveC rfl rfl rfl) rfl rfl ?_
      refine M_yes rfl rfl rfl ?_; refine M0 (q_moveC rfl rfl rfl) rfl rfl ?_; refine M_yes rfl rfl rfl ?_; refine M0 (q_moveC rfl rfl rfl) rfl rfl ?_; refine M_yes rfl rfl rfl ?_
      refine M0 (q_lens rfl rfl rfl) rfl rfl ?_; refine M_yes rfl rfl rfl ?_; refine M0 (q_neqK rfl rfl rfl rfl (by assumption)) rfl rfl ?_; refine M0 (q_pickF rfl rfl rfl rfl) rfl rfl ?_
      refine M0 (q_moveC rfl rfl rfl) rfl rfl ?_; refine M_yes rfl rfl rfl ?_; refine M0 (q_moveC rfl rfl rfl) rfl rfl ?_; refine M_yes rfl rfl rfl ?_
      refine M0 (q_lenr rfl rfl rfl rfl) rfl rfl ?_; refine M_yes rfl rfl rfl ?_; refine M0 (q_lssK rfl rfl rfl rfl (by assumption)) rfl rfl ?_; refine M0 (q_pickF rfl rfl rfl rfl) rfl rfl ?_
      refine M0 (q_moveC rfl rfl rfl) rfl rfl ?_; refine M_no rfl rfl rfl rfl rfl rfl ?_; refine M_no rfl rfl rfl rfl rfl rfl ?_; refine M_no rfl rfl rfl rfl rfl rfl ?_
      refine M_no rfl rfl rfl rfl rfl rfl ?_; refine M_no rfl rfl rfl rfl rfl rfl ?_; refine M0 (q_pickT rfl rfl rfl rfl) rfl rfl ?_; refine M0 (q_moveC rfl rfl rfl) rfl rfl ?_
      refine M_no rfl rfl rfl rfl rfl rfl ?_; refine M_no rfl rfl rfl rfl rfl rfl ?_; refine M_no rfl rfl rfl rfl rfl rfl ?_; refine M_no rfl rfl rfl rfl rfl rfl ?_
      refine M_no rfl rfl rfl rfl rfl rfl ?_; refine M_no rfl rfl rfl rfl rfl rfl ?_; refine M_no rfl rfl rfl rfl rfl rfl ?_; refine M0 (q_pickT rfl rfl rfl rfl) rfl rfl ?_
      refine M0 (q_moveC rfl rfl rfl) rfl rfl ?_; refine M_no rfl rfl rfl rfl rfl rfl ?_; refine M_no rfl rfl rfl rfl rfl rfl ?_; refine M_no rfl rfl rfl rfl rfl rfl ?_
      refine M_no rfl rfl rfl rfl rfl rfl ?_; refine M_no rfl rfl rfl rfl rfl rfl ?_; refine M_no rfl rfl rfl rfl rfl rfl ?_; refine M_no rfl rfl rfl rfl rfl rfl ?_
      refine M_no rfl rfl rfl rfl rfl rfl ?_; refine M_no rfl rfl rfl rfl rfl rfl ?_; refine M0 (q_pickT rfl rfl rfl rfl) rfl rfl ?_; refine L_nil ?_; refine T_n ?_; refine A_ifT rfl ?_
      refine A_seq ?_; refine A_region ?_; refine M0 (q_build rfl rfl rfl rfl rfl) rfl rfl ?_; refine M_stN rfl rfl rfl rfl rfl rfl rfl rfl rfl ?_; refine M0 (q_assignC rfl rfl rfl) rfl rfl ?_
      refine L_nil ?_; refine T_n ?_; refine A_ret ?_; refine T_r ?_; refine F_r ?_
      exact E_cellt rfl rfl rfl rfl rfl (W_fill [1, 1, 9] [3, 4, 5] rfl rfl (by decide) rfl rfl rfl)
    have hb2 : decide (((els l).length : Int) < 3) = false := decide_eq_false c2
    have ha0 := els_getD (l := l) (j := 0) (by omega) 0 rfl
    have ha1 := els_getD (l := l) (j := 1) (by omega) 1 rfl
    have ha2 := els_getD (l := l) (j := 2) (by omega) 2 rfl
    obtain ⟨l2, hl2⟩ : ∃ l2, l.getD 2 0 = l2 := ⟨_, rfl⟩
    rw [hl2] at ha2
    have hbt := S_in l2 1 4
    by_cases hin : inR l2 1 4 = true
    case neg =>
      have hf : inR l2 1 4 = false := by simpa using hin
      rw [hf] at hbt
      rw [readWorld_no hu (fun hh => by have := hh.2.1.2.1; rw [hl2, ← inR_iff] at this; exact hin this)]
      refine Con.of Try.func76 rfl Try.ntmps76 rfl (fun E => ?_)
      refine A_seq ?_; refine A_region ?_; refine M1 (q_boxN rfl rfl rfl rfl) rfl rfl ?_; refine M1 (q_alloc rfl rfl rfl) rfl rfl ?_; refine M0 (q_assignC rfl rfl rfl) rfl rfl ?_; refine L_nil ?_
      refine T_n ?_; refine A_seq ?_; refine A_region ?_; refine M0 (q_moveC rfl rfl rfl) rfl rfl ?_; refine M1 (q_call rfl rfl (hui) rfl rfl rfl) rfl rfl ?_
      refine M0 (q_moveT rfl rfl rfl) rfl rfl ?_; refine M0 (q_ext rfl rfl rfl rfl) rfl rfl ?_; refine M0 (q_ext rfl rfl rfl rfl) rfl rfl ?_; refine M0 (q_ext rfl rfl rfl rfl) rfl rfl ?_
      refine M0 (q_assignC rfl rfl rfl) rfl rfl ?_; refine M0 (q_assignC rfl rfl rfl) rfl rfl ?_; refine M0 (q_assignC rfl rfl rfl) rfl rfl ?_; refine L_nil ?_; refine T_n ?_; refine A_seq ?_
      refine A_seq ?_; refine A_region ?_; refine M0 (q_moveC rfl rfl rfl) rfl rfl ?_; refine M0 (q_not rfl rfl rfl) rfl rfl ?_; refine M0 (q_moveC rfl rfl rfl) rfl rfl ?_
      refine M_yes rfl rfl rfl ?_; refine M0 (q_moveC rfl rfl rfl) rfl rfl ?_; refine M_yes rfl rfl rfl ?_; refine M0 (q_moveC rfl rfl rfl) rfl rfl ?_; refine M_yes rfl rfl rfl ?_
      refine M0 (q_lens rfl rfl rfl) rfl rfl ?_; refine M_yes rfl rfl rfl ?_; refine M0 (q_neqK rfl rfl rfl rfl (by assumption)) rfl rfl ?_; refine M0 (q_pickF rfl rfl rfl rfl) rfl rfl ?_
      refine M0 (q_moveC rfl rfl rfl) rfl rfl ?_; refine M_yes rfl rfl rfl ?_; refine M0 (q_moveC rfl rfl rfl) rfl rfl ?_; refine M_yes rfl rfl rfl ?_
      refine M0 (q_lenr rfl rfl rfl rfl) rfl rfl ?_; refine M_yes rfl rfl rfl ?_; refine M0 (q_lssK rfl rfl rfl rfl (by assumption)) rfl rfl ?_; refine M0 (q_pickF rfl rfl rfl rfl) rfl rfl ?_
      refine M0 (q_moveC rfl rfl rfl) rfl rfl ?_; refine M_yes rfl rfl rfl ?_; refine M0 (q_moveC rfl rfl rfl) rfl rfl ?_; refine M_yes rfl rfl rfl ?_
      refine M0 (q_ar rfl rfl rfl rfl rfl (by omega) (by omega)) rfl rfl ?_; refine M_yes rfl rfl rfl ?_; refine M0 (q_le1 rfl rfl rfl rfl (by assumption) rfl) rfl rfl ?_
      refine M_yes rfl rfl rfl ?_; refine M0 (q_call0 rfl rfl (hbt) rfl) rfl rfl ?_; refine M_yes rfl rfl rfl ?_; refine M0 (q_not rfl rfl rfl) rfl rfl ?_
      refine M0 (q_pickF rfl rfl rfl rfl) rfl rfl ?_; refine M0 (q_moveC rfl rfl rfl) rfl rfl ?_; refine M_no rfl rfl rfl rfl rfl rfl ?_; refine M_no rfl rfl rfl rfl rfl rfl ?_
      refine M_no rfl rfl rfl rfl rfl rfl ?_; refine M_no rfl rfl rfl rfl rfl rfl ?_; refine M_no rfl rfl rfl rfl rfl rfl ?_; refine M_no rfl rfl rfl rfl rfl rfl ?_
      refine M_no rfl rfl rfl rfl rfl rfl ?_; refine M0 (q_pickT rfl rfl rfl rfl) rfl rfl ?_; refine M0 (q_moveC rfl rfl rfl) rfl rfl ?_; refine M_no rfl rfl rfl rfl rfl rfl ?_
      refine M_no rfl rfl rfl rfl rfl rfl ?_; refine M_no rfl rfl rfl rfl rfl rfl ?_; refine M_no rfl rfl rfl rfl rfl rfl ?_; refine M_no rfl rfl rfl rfl rfl rfl ?_
      refine M_no rfl rfl rfl rfl rfl rfl ?_; refine M_no rfl rfl rfl rfl rfl rfl ?_; refine M_no rfl rfl rfl rfl rfl rfl ?_; refine M_no rfl rfl rfl rfl rfl rfl ?_
      refine M0 (q_pickT rfl rfl rfl rfl) rfl rfl ?_; refine L_nil ?_; refine T_n ?_; refine A_ifT rfl ?_; refine A_seq ?_; refine A_region ?_; refine M0 (q_build rfl rfl rfl rfl rfl) rfl rfl ?_
      refine M_stN rfl rfl rfl rfl rfl rfl rfl rfl rfl ?_; refine M0 (q_assignC rfl rfl rfl) rfl rfl ?_; refine L_nil ?_; refine T_n ?_; refine A_ret ?_; refine T_r ?_; refine F_r ?_
      exact E_cellt rfl rfl rfl rfl rfl (W_fill [1, 1, 9] [3, 4, 5] rfl rfl (by decide) rfl rfl rfl)
    rw [hin] at hbt
    have hin2 := inR_iff.1 hin
    obtain ⟨p, rfl⟩ : ∃ p : Nat, l2 = p := ⟨l2.toNat, by omega⟩
    by_cases c4 : ((els l).length : Int) < 3 + (p : Int)
    · have hb4 : decide (((els l).length : Int) < 3 + (p : Int)) = true := decide_eq_true c4
      rw [readWorld_no hu (fun hh => by have := hh.2.1.2.2.1; omega)]
      refine Con.of Try.func76 rfl Try.ntmps76 rfl (fun E => ?_)
      refine A_seq ?_; refine A_region ?_; refine M1 (q_boxN rfl rfl rfl rfl) rfl rfl ?_; refine M1 (q_alloc rfl rfl rfl) rfl rfl ?_; refine M0 (q_assignC rfl rfl rfl) rfl rfl ?_; refine L_nil ?_
      refine T_n ?_; refine A_seq ?_; refine A_region ?_; refine M0 (q_moveC rfl rfl rfl) rfl rfl ?_; refine M1 (q_call rfl rfl (hui) rfl rfl rfl) rfl rfl ?_
      refine M0 (q_moveT rfl rfl rfl) rfl rfl ?_; refine M0 (q_ext rfl rfl rfl rfl) rfl rfl ?_; refine M0 (q_ext rfl rfl rfl rfl) rfl rfl ?_; refine M0 (q_ext rfl rfl rfl rfl) rfl rfl ?_
      refine M0 (q_assignC rfl rfl rfl) rfl rfl ?_; refine M0 (q_assignC rfl rfl rfl) rfl rfl ?_; refine M0 (q_assignC rfl rfl rfl) rfl rfl ?_; refine L_nil ?_; refine T_n ?_; refine A_seq ?_
      refine A_seq ?_; refine A_region ?_; refine M0 (q_moveC rfl rfl rfl) rfl rfl ?_; refine M0 (q_not rfl rfl rfl) rfl rfl ?_; refine M0 (q_moveC rfl rfl rfl) rfl rfl ?_
      refine M_yes rfl rfl rfl ?_; refine M0 (q_moveC rfl rfl rfl) rfl rfl ?_; refine M_yes rfl rfl rfl ?_; refine M0 (q_moveC rfl rfl rfl) rfl rfl ?_; refine M_yes rfl rfl rfl ?_
      refine M0 (q_lens rfl rfl rfl) rfl rfl ?_; refine M_yes rfl rfl rfl ?_; refine M0 (q_neqK rfl rfl rfl rfl (by assumption)) rfl rfl ?_; refine M0 (q_pickF rfl rfl rfl rfl) rfl rfl ?_
      refine M0 (q_moveC rfl rfl rfl) rfl rfl ?_; refine M_yes rfl rfl rfl ?_; refine M0 (q_moveC rfl rfl rfl) rfl rfl ?_; refine M_yes rfl rfl rfl ?_
      refine M0 (q_lenr rfl rfl rfl rfl) rfl rfl ?_; refine M_yes rfl rfl rfl ?_; refine M0 (q_lssK rfl rfl rfl rfl (by assumption)) rfl rfl ?_; refine M0 (q_pickF rfl rfl rfl rfl) rfl rfl ?_
      refine M0 (q_moveC rfl rfl rfl) rfl rfl ?_; refine M_yes rfl rfl rfl ?_; refine M0 (q_moveC rfl rfl rfl) rfl rfl ?_; refine M_yes rfl rfl rfl ?_
      refine M0 (q_ar rfl rfl rfl rfl rfl (by omega) (by omega)) rfl rfl ?_; refine M_yes rfl rfl rfl ?_; refine M0 (q_le1 rfl rfl rfl rfl (by assumption) rfl) rfl rfl ?_
      refine M_yes rfl rfl rfl ?_; refine M0 (q_call0 rfl rfl (hbt) rfl) rfl rfl ?_; refine M_yes rfl rfl rfl ?_; refine M0 (q_not rfl rfl rfl) rfl rfl ?_
      refine M0 (q_pickF rfl rfl rfl rfl) rfl rfl ?_; refine M0 (q_moveC rfl rfl rfl) rfl rfl ?_; refine M_yes rfl rfl rfl ?_; refine M0 (q_moveC rfl rfl rfl) rfl rfl ?_
      refine M_yes rfl rfl rfl ?_; refine M0 (q_lenr rfl rfl rfl rfl) rfl rfl ?_; refine M_yes rfl rfl rfl ?_; refine M0 (q_moveC rfl rfl rfl) rfl rfl ?_; refine M_yes rfl rfl rfl ?_
      refine M0 (q_ar rfl rfl rfl rfl rfl (by omega) (by omega)) rfl rfl ?_; refine M_yes rfl rfl rfl ?_; refine M0 (q_le1 rfl rfl rfl rfl (by assumption) rfl) rfl rfl ?_
      refine M_yes rfl rfl rfl ?_; refine M0 (q_add rfl rfl rfl rfl (by omega)) rfl rfl ?_; refine M_yes rfl rfl rfl ?_; refine M0 (q_lssK rfl rfl rfl rfl (by assumption)) rfl rfl ?_
      refine M0 (q_pickF rfl rfl rfl rfl) rfl rfl ?_; refine M0 (q_moveC rfl rfl rfl) rfl rfl ?_; refine M_no rfl rfl rfl rfl rfl rfl ?_; refine M_no rfl rfl rfl rfl rfl rfl ?_
      refine M_no rfl rfl rfl rfl rfl rfl ?_; refine M_no rfl rfl rfl rfl rfl rfl ?_; refine M_no rfl rfl rfl rfl rfl rfl ?_; refine M_no rfl rfl rfl rfl rfl rfl ?_
      refine M_no rfl rfl rfl rfl rfl rfl ?_; refine M_no rfl rfl rfl rfl rfl rfl ?_; refine M_no rfl rfl rfl rfl rfl rfl ?_; refine M0 (q_pickT rfl rfl rfl rfl) rfl rfl ?_; refine L_nil ?_
      refine T_n ?_; refine A_ifT rfl ?_; refine A_seq ?_; refine A_region ?_; refine M0 (q_build rfl rfl rfl rfl rfl) rfl rfl ?_; refine M_stN rfl rfl rfl rfl rfl rfl rfl rfl rfl ?_
      refine M0 (q_assignC rfl rfl rfl) rfl rfl ?_; refine L_nil ?_; refine T_n ?_; refine A_ret ?_; refine T_r ?_; refine F_r ?_
      exact E_cellt rfl rfl rfl rfl rfl (W_fill [1, 1, 9] [3, 4, 5] rfl rfl (by decide) rfl rfl rfl)
    have hb4 : decide (((els l).length : Int) < 3 + (p : Int)) = false := decide_eq_false c4
    by_cases c5 : (((els l).length : Int) - 3 - (p : Int)) % 9 ≠ 0
    · have hb5 : decide ((((els l).length : Int) - 3 - (p : Int)) % 9 ≠ 0) = true := decide_eq_true c5
      rw [readWorld_no hu (fun hh => by have := hh.2.1.2.2.2; rw [hl2] at this; omega)]
      refine Con.of Try.func76 rfl Try.ntmps76 rfl (fun E => ?_)
      refine A_seq ?_; refine A_region ?_; refine M1 (q_boxN rfl rfl rfl rfl) rfl rfl ?_; refine M1 (q_alloc rfl rfl rfl) rfl rfl ?_; refine M0 (q_assignC rfl rfl rfl) rfl rfl ?_; refine L_nil ?_
      refine T_n ?_; refine A_seq ?_; refine A_region ?_; refine M0 (q_moveC rfl rfl rfl) rfl rfl ?_; refine M1 (q_call rfl rfl (hui) rfl rfl rfl) rfl rfl ?_
      refine M0 (q_moveT rfl rfl rfl) rfl rfl ?_; refine M0 (q_ext rfl rfl rfl rfl) rfl rfl ?_; refine M0 (q_ext rfl rfl rfl rfl) rfl rfl ?_; refine M0 (q_ext rfl rfl rfl rfl) rfl rfl ?_
      refine M0 (q_assignC rfl rfl rfl) rfl rfl ?_; refine M0 (q_assignC rfl rfl rfl) rfl rfl ?_; refine M0 (q_assignC rfl rfl rfl) rfl rfl ?_; refine L_nil ?_; refine T_n ?_; refine A_seq ?_
      refine A_seq ?_; refine A_region ?_; refine M0 (q_moveC rfl rfl rfl) rfl rfl ?_; refine M0 (q_not rfl rfl rfl) rfl rfl ?_; refine M0 (q_moveC rfl rfl rfl) rfl rfl ?_
      refine M_yes rfl rfl rfl ?_; refine M0 (q_moveC rfl rfl rfl) rfl rfl ?_; refine M_yes rfl rfl rfl ?_; refine M0 (q_moveC rfl rfl rfl) rfl rfl ?_; refine M_yes rfl rfl rfl ?_
      refine M0 (q_lens rfl rfl rfl) rfl rfl ?_; refine M_yes rfl rfl rfl ?_; refine M0 (q_neqK rfl rfl rfl rfl (by assumption)) rfl rfl ?_; refine M0 (q_pickF rfl rfl rfl rfl) rfl rfl ?_
      refine M0 (q_moveC rfl rfl rfl) rfl rfl ?_; refine M_yes rfl rfl rfl ?_; refine M0 (q_moveC rfl rfl rfl) rfl rfl ?_; refine M_yes rfl rfl rfl ?_
      refine M0 (q_lenr rfl rfl rfl rfl) rfl rfl ?_; refine M_yes rfl rfl rfl ?_; refine M0 (q_lssK rfl rfl rfl rfl (by assumption)) rfl rfl ?_; refine M0 (q_pickF rfl rfl rfl rfl) rfl rfl ?_
      refine M0 (q_moveC rfl rfl rfl) rfl rfl ?_; refine M_yes rfl rfl rfl ?_; refine M0 (q_moveC rfl rfl rfl) rfl rfl ?_; refine M_yes rfl rfl rfl ?_
      refine M0 (q_ar rfl rfl rfl rfl rfl (by omega) (by omega)) rfl rfl ?_; refine M_yes rfl rfl rfl ?_; refine M0 (q_le1 rfl rfl rfl rfl (by assumption) rfl) rfl rfl ?_
      refine M_yes rfl rfl rfl ?_; refine M0 (q_call0 rfl rfl (hbt) rfl) rfl rfl ?_; refine M_yes rfl rfl rfl ?_; refine M0 (q_not rfl rfl rfl) rfl rfl ?_
      refine M0 (q_pickF rfl rfl rfl rfl) rfl rfl ?_; refine M0 (q_moveC rfl rfl rfl) rfl rfl ?_; refine M_yes rfl rfl rfl ?_; refine M0 (q_moveC rfl rfl rfl) rfl rfl ?_
      refine M_yes rfl rfl rfl ?_; refine M0 (q_lenr rfl rfl rfl rfl) rfl rfl ?_; refine M_yes rfl rfl rfl ?_; refine M0 (q_moveC rfl rfl rfl) rfl rfl ?_; refine M_yes rfl rfl rfl ?_
      refine M0 (q_ar rfl rfl rfl rfl rfl (by omega) (by omega)) rfl rfl ?_; refine M_yes rfl rfl rfl ?_; refine M0 (q_le1 rfl rfl rfl rfl (by assumption) rfl) rfl rfl ?_
      refine M_yes rfl rfl rfl ?_; refine M0 (q_add rfl rfl rfl rfl (by omega)) rfl rfl ?_; refine M_yes rfl rfl rfl ?_; refine M0 (q_lssK rfl rfl rfl rfl (by assumption)) rfl rfl ?_
      refine M0 (q_pickF rfl rfl rfl rfl) rfl rfl ?_; refine M0 (q_moveC rfl rfl rfl) rfl rfl ?_; refine M_yes rfl rfl rfl ?_; refine M0 (q_moveC rfl rfl rfl) rfl rfl ?_
      refine M_yes rfl rfl rfl ?_; refine M0 (q_lenr rfl rfl rfl rfl) rfl rfl ?_; refine M_yes rfl rfl rfl ?_; refine M0 (q_sub rfl rfl rfl rfl (by omega)) rfl rfl ?_
      refine M_yes rfl rfl rfl ?_; refine M0 (q_moveC rfl rfl rfl) rfl rfl ?_; refine M_yes rfl rfl rfl ?_; refine M0 (q_ar rfl rfl rfl rfl rfl (by omega) (by omega)) rfl rfl ?_
      refine M_yes rfl rfl rfl ?_; refine M0 (q_le1 rfl rfl rfl rfl (by assumption) rfl) rfl rfl ?_; refine M_yes rfl rfl rfl ?_; refine M0 (q_sub rfl rfl rfl rfl (by omega)) rfl rfl ?_
      refine M_yes rfl rfl rfl ?_; refine M0 (q_rem rfl rfl rfl rfl (by omega)) rfl rfl ?_; refine M_yes rfl rfl rfl ?_; refine M0 (q_neqK rfl rfl rfl rfl (by assumption)) rfl rfl ?_
      refine M0 (q_pickF rfl rfl rfl rfl) rfl rfl ?_; refine L_nil ?_; refine T_n ?_; refine A_ifT rfl ?_; refine A_seq ?_; refine A_region ?_; refine M0 (q_build rfl rfl rfl rfl rfl) rfl rfl ?_
      refine M_stN rfl rfl rfl rfl rfl rfl rfl rfl rfl ?_; refine M0 (q_assignC rfl rfl rfl) rfl rfl ?_; refine L_nil ?_; refine T_n ?_; refine A_ret ?_; refine T_r ?_; refine F_r ?_
      exact E_cellt rfl rfl rfl rfl rfl (W_fill [1, 1, 9] [3, 4, 5] rfl rfl (by decide) rfl rfl rfl)
    have hb5 : decide ((((els l).length : Int) - 3 - (p : Int)) % 9 ≠ 0) = false := decide_eq_false c5
    obtain ⟨rest, hrest⟩ : ∃ rest, rest = l.drop (3 + p) := ⟨_, rfl⟩
    have hrl : rest.length = l.length - (3 + p) := by rw [hrest]; simp
    obtain ⟨nb, hn⟩ : ∃ nb, rest.length = 9 * nb := ⟨rest.length / 9, by omega⟩
    have hform : formOk l := ⟨by omega, by rw [hl2]; exact hin2, by rw [hl2]; omega, by rw [hl2]; omega⟩
    have hwo : worldOf lv l = ⟨lv, l.getD 0 0, l.getD 1 0, (l.drop 3).take p, bodiesOf rest nb⟩ := by
      rw [worldOf, hl2, Int.toNat_natCast, ← hrest, show (l.length - 3 - p) / 9 = nb by omega]
    have hwg := worldOf_gd (lv := lv) hg hu4 (by omega)
    rw [hwo] at hwg
    have hwb := world_bytes_eq (lv := lv) hu (by omega) hform
    rw [hwo] at hwb
    have hpl : ((((els l).take ((3 : Int) + (p : Int)).toNat).drop (3 : Int).toNat)).length = p := by
      rw [List.length_drop, List.length_take, hll]; omega
    have hsc : els ((l.drop 3).take p) = (((els l).take ((3 : Int) + (p : Int)).toNat).drop (3 : Int).toNat) := by
      rw [show ((3 : Int) + (p : Int)).toNat = 3 + p by omega, show (3 : Int).toNat = 3 from rfl, List.drop_take, ← els_dropE, ← els_takeE2, show 3 + p - 3 = p by omega]
    refine Con.of Try.func76 rfl Try.ntmps76 rfl (fun E => ?_)
    refine A_seq ?_; refine A_region ?_; refine M1 (q_boxN rfl rfl rfl rfl) rfl rfl ?_; refine M1 (q_alloc rfl rfl rfl) rfl rfl ?_; refine M0 (q_assignC rfl rfl rfl) rfl rfl ?_; refine L_nil ?_
    refine T_n ?_; refine A_seq ?_; refine A_region ?_; refine M0 (q_moveC rfl rfl rfl) rfl rfl ?_; refine M1 (q_call rfl rfl (hui) rfl rfl rfl) rfl rfl ?_
    refine M0 (q_moveT rfl rfl rfl) rfl rfl ?_; refine M0 (q_ext rfl rfl rfl rfl) rfl rfl ?_; refine M0 (q_ext rfl rfl rfl rfl) rfl rfl ?_; refine M0 (q_ext rfl rfl rfl rfl) rfl rfl ?_
    refine M0 (q_assignC rfl rfl rfl) rfl rfl ?_; refine M0 (q_assignC rfl rfl rfl) rfl rfl ?_; refine M0 (q_assignC rfl rfl rfl) rfl rfl ?_; refine L_nil ?_; refine T_n ?_; refine A_seq ?_
    refine A_seq ?_; refine A_region ?_; refine M0 (q_moveC rfl rfl rfl) rfl rfl ?_; refine M0 (q_not rfl rfl rfl) rfl rfl ?_; refine M0 (q_moveC rfl rfl rfl) rfl rfl ?_
    refine M_yes rfl rfl rfl ?_; refine M0 (q_moveC rfl rfl rfl) rfl rfl ?_; refine M_yes rfl rfl rfl ?_; refine M0 (q_moveC rfl rfl rfl) rfl rfl ?_; refine M_yes rfl rfl rfl ?_
    refine M0 (q_lens rfl rfl rfl) rfl rfl ?_; refine M_yes rfl rfl rfl ?_; refine M0 (q_neqK rfl rfl rfl rfl (by assumption)) rfl rfl ?_; refine M0 (q_pickF rfl rfl rfl rfl) rfl rfl ?_
    refine M0 (q_moveC rfl rfl rfl) rfl rfl ?_; refine M_yes rfl rfl rfl ?_; refine M0 (q_moveC rfl rfl rfl) rfl rfl ?_; refine M_yes rfl rfl rfl ?_
    refine M0 (q_lenr rfl rfl rfl rfl) rfl rfl ?_; refine M_yes rfl rfl rfl ?_; refine M0 (q_lssK rfl rfl rfl rfl (by assumption)) rfl rfl ?_; refine M0 (q_pickF rfl rfl rfl rfl) rfl rfl ?_
    refine M0 (q_moveC rfl rfl rfl) rfl rfl ?_; refine M_yes rfl rfl rfl ?_; refine M0 (q_moveC rfl rfl rfl) rfl rfl ?_; refine M_yes rfl rfl rfl ?_
    refine M0 (q_ar rfl rfl rfl rfl rfl (by omega) (by omega)) rfl rfl ?_; refine M_yes rfl rfl rfl ?_; refine M0 (q_le1 rfl rfl rfl rfl (by assumption) rfl) rfl rfl ?_
    refine M_yes rfl rfl rfl ?_; refine M0 (q_call0 rfl rfl (hbt) rfl) rfl rfl ?_; refine M_yes rfl rfl rfl ?_; refine M0 (q_not rfl rfl rfl) rfl rfl ?_
    refine M0 (q_pickF rfl rfl rfl rfl) rfl rfl ?_; refine M0 (q_moveC rfl rfl rfl) rfl rfl ?_; refine M_yes rfl rfl rfl ?_; refine M0 (q_moveC rfl rfl rfl) rfl rfl ?_
    refine M_yes rfl rfl rfl ?_; refine M0 (q_lenr rfl rfl rfl rfl) rfl rfl ?_; refine M_yes rfl rfl rfl ?_; refine M0 (q_moveC rfl rfl rfl) rfl rfl ?_; refine M_yes rfl rfl rfl ?_
    refine M0 (q_ar rfl rfl rfl rfl rfl (by omega) (by omega)) rfl rfl ?_; refine M_yes rfl rfl rfl ?_; refine M0 (q_le1 rfl rfl rfl rfl (by assumption) rfl) rfl rfl ?_
    refine M_yes rfl rfl rfl ?_; refine M0 (q_add rfl rfl rfl rfl (by omega)) rfl rfl ?_; refine M_yes rfl rfl rfl ?_; refine M0 (q_lssK rfl rfl rfl rfl (by assumption)) rfl rfl ?_
    refine M0 (q_pickF rfl rfl rfl rfl) rfl rfl ?_; refine M0 (q_moveC rfl rfl rfl) rfl rfl ?_; refine M_yes rfl rfl rfl ?_; refine M0 (q_moveC rfl rfl rfl) rfl rfl ?_
    refine M_yes rfl rfl rfl ?_; refine M0 (q_lenr rfl rfl rfl rfl) rfl rfl ?_; refine M_yes rfl rfl rfl ?_; refine M0 (q_sub rfl rfl rfl rfl (by omega)) rfl rfl ?_
    refine M_yes rfl rfl rfl ?_; refine M0 (q_moveC rfl rfl rfl) rfl rfl ?_; refine M_yes rfl rfl rfl ?_; refine M0 (q_ar rfl rfl rfl rfl rfl (by omega) (by omega)) rfl rfl ?_
    refine M_yes rfl rfl rfl ?_; refine M0 (q_le1 rfl rfl rfl rfl (by assumption) rfl) rfl rfl ?_; refine M_yes rfl rfl rfl ?_; refine M0 (q_sub rfl rfl rfl rfl (by omega)) rfl rfl ?_
    refine M_yes rfl rfl rfl ?_; refine M0 (q_rem rfl rfl rfl rfl (by omega)) rfl rfl ?_; refine M_yes rfl rfl rfl ?_; refine M0 (q_neqK rfl rfl rfl rfl (by assumption)) rfl rfl ?_
    refine M0 (q_pickF rfl rfl rfl rfl) rfl rfl ?_; refine L_nil ?_; refine T_n ?_; refine A_ifF rfl ?_; refine A_skip ?_; refine T_n ?_; refine A_seq ?_; refine A_region ?_
    refine M0 (q_moveC rfl rfl rfl) rfl rfl ?_; refine M0 (q_ar rfl rfl rfl rfl rfl (by omega) (by omega)) rfl rfl ?_; refine M0 (q_le1 rfl rfl rfl rfl (by assumption) rfl) rfl rfl ?_
    refine M0 (q_add rfl rfl rfl rfl (by omega)) rfl rfl ?_; refine M0 (q_assignC rfl rfl rfl) rfl rfl ?_; refine L_nil ?_; refine T_n ?_; refine A_seq ?_
    refine A_draw [[], [0], [], [2], [2, 3], [], [5], [5, 6], [], [], [], [9, 10], [0, 1, 8, 9, 10, 11], [0, 1, 2, 3, 4, 5, 6, 7, 8, 9, 10, 11, 12], [], [0, 1, 2, 3, 4, 5, 6, 7, 8, 9, 10, 11, 12, 13, 14]] [[], [63], [], [65], [65, 66], [], [68], [68, 69], [], [], [], [72, 73], [63, 64, 71, 72, 73, 74], [63, 64, 65, 66, 67, 68, 69, 70, 71, 72, 73, 74, 75], [], [10, 63, 64, 65, 66, 67, 68, 69, 70, 71, 72, 73, 74, 75, 76]] [[10, 65, 66, 67, 68, 69, 70, 71, 72, 73, 74], [10, 65, 66, 67, 68, 69, 70, 71, 72, 73, 74], [10, 63, 64, 68, 69, 70, 71, 72, 73, 74, 75], [10, 63, 64, 68, 69, 70, 71, 72, 73, 74, 75], [10, 63, 64, 68, 69, 70, 71, 72, 73, 74, 75], [10, 63, 64, 65, 66, 67, 71, 72, 73, 74, 75], [10, 63, 64, 65, 66, 67, 71, 72, 73, 74, 75], [10, 63, 64, 65, 66, 67, 71, 72, 73, 74, 75], [10, 63, 64, 65, 66, 67, 68, 69, 70, 72, 73, 74], [10, 63, 64, 65, 66, 67, 68, 69, 70, 71, 73], [10, 63, 64, 65, 66, 67, 68, 69, 70, 71, 72], [10, 63, 64, 65, 66, 67, 68, 69, 70, 71], [10, 65, 66, 67, 68, 69, 70], [10], [63, 64, 65, 66, 67, 68, 69, 70, 71, 72, 73, 74, 75, 76], []] rfl ?_
    refine DR.step (q_ldN rfl rfl rfl rfl rfl rfl) rfl rfl ?_; refine DR.step (q_call rfl rfl (S_copyLevel lv hg hL) rfl rfl rfl) rfl rfl ?_
    refine DR.step (q_moveC rfl rfl rfl) rfl rfl ?_; refine DR.step (q_ar rfl rfl rfl rfl rfl (by omega) (by omega)) rfl rfl ?_
    refine DR.step (q_le1 rfl rfl rfl rfl (by assumption) rfl) rfl rfl ?_; refine DR.step (q_moveC rfl rfl rfl) rfl rfl ?_
    refine DR.step (q_ar rfl rfl rfl rfl rfl (by omega) (by omega)) rfl rfl ?_; refine DR.step (q_le1 rfl rfl rfl rfl (by assumption) rfl) rfl rfl ?_
    refine DR.step (q_bslicez rfl rfl rfl) rfl rfl ?_; refine DR.step (q_moveC rfl rfl rfl) rfl rfl ?_; refine DR.step (q_moveC rfl rfl rfl) rfl rfl ?_
    refine DR.step (q_partr rfl rfl rfl rfl rfl rfl rfl (by omega)) rfl rfl ?_
    refine DR.step (q_appz rfl rfl rfl rfl rfl rfl (plain_dt _ _ _) (k_dt _ _ _) (by omega) (by omega) (by omega)) rfl rfl ?_; refine DR.step (q_build rfl rfl rfl rfl rfl) rfl rfl ?_
    refine DR.step (q_alloc rfl rfl rfl) rfl rfl ?_; refine DR.stop (by kernel_rfl) (by kernel_rfl) ?_
    refine AL.weak (st' := (⟨_, [(1, S s), (4, .o (.c (.ptr 1 0))), (6, .o (.c (.ref 2))), (9, I (3 + (p : Int))), (10, .o (.c (.ptr 4 0))), (76, .o (.ag [.ref 3, jv (l.getD 0 0), jv (l.getD 1 0), .ref 5, nilV]))], [.box ((Enc.e lv).map (V1.rd [])), .box [nilV, jv 0, jv 0, nilV, nilV], .row 1 (els l), .row 1 (els lv.Rows), .box [nilV, jv 0, jv 0, nilV, nilV], .row 1 (els ((l.drop 3).take p))]⟩ : St)) (W_go [0, 1, 2, 3, 6, 5] (by decide) rfl (row6 hsc) (.cons rfl (.cons rfl (.cons rfl (.cons rfl (.cons rfl (.cons rfl (.nil)))))))) ?_
    refine AL.weak (Wk.refl _) ?_
    refine M_stN rfl rfl rfl rfl rfl rfl rfl rfl rfl ?_; refine L_nil ?_; refine T_n ?_; refine A_seq ?_; refine A_seq ?_; refine A_region ?_; refine M0 (q_moveC rfl rfl rfl) rfl rfl ?_
    refine M0 (q_assignC rfl rfl rfl) rfl rfl ?_; refine L_nil ?_; refine T_n ?_; refine A_block ?_
    refine AWP.pre ?_ (Wk.nilbox (p := 4) (i := 4) 9 rfl rfl)
    skip
    refine A_loop (fun m st => ∃ q : Nat, q + m = nb ∧ (True) ∧ st = (fun q : Nat => (⟨_, [(1, S s), (4, .o (.c (.ptr 1 0))), (6, .o (.c (.ref 2))), (10, .o (.c (.ptr 4 0))), (11, I ((3 + p + 9 * q : Nat) : Int))], [.box ((Enc.e lv).map (V1.rd [])), .box [nilV, jv 0, jv 0, nilV, nilV], .row 1 (els l), .row 1 (els lv.Rows), .box [.ref 3, jv (l.getD 0 0), jv (l.getD 1 0), .ref 5, .ref 6], .row 1 (els ((l.drop 3).take p)), .row 9 (els (bodiesOf rest q))]⟩ : St)) q) (nb) ⟨(fun q : Nat => (⟨_, [(1, S s), (4, .o (.c (.ptr 1 0))), (6, .o (.c (.ref 2))), (10, .o (.c (.ptr 4 0))), (11, I ((3 + p + 9 * q : Nat) : Int))], [.box ((Enc.e lv).map (V1.rd [])), .box [nilV, jv 0, jv 0, nilV, nilV], .row 1 (els l), .row 1 (els lv.Rows), .box [.ref 3, jv (l.getD 0 0), jv (l.getD 1 0), .ref 5, .ref 6], .row 1 (els ((l.drop 3).take p)), .row 9 (els (bodiesOf rest q))]⟩ : St)) 0, W_go [0, 1, 2, 3, 4, 5, 6] (by decide) rfl (rfl) (.cons rfl (.cons rfl (.cons rfl (.cons rfl (.cons (I_eq (by omega)) (.nil)))))), 0, by omega, trivial, rfl⟩ ?_
    rintro m_A _ ⟨q, hk_A, hp_A, rfl⟩
    have hlbk := els_len (bodiesOf rest q)
    have hlbk2 := bodiesOf_len rest q
    by_cases h4 : ((3 + p + 9 * q : Nat) : Int) < (els l).length
    · have hb6 : decide (((3 + p + 9 * q : Nat) : Int) < (els l).length) = true := decide_eq_true h4
      have hc0 := els_getD (l := l) (j := 3 + p + 9 * q + 0) (by omega) (((3 + p + 9 * q : Nat) : Int)) (by omega)
      have hc1 := els_getD (l := l) (j := 3 + p + 9 * q + 1) (by omega) (((3 + p + 9 * q : Nat) : Int) + 1) (by omega)
      have hc2 := els_getD (l := l) (j := 3 + p + 9 * q + 2) (by omega) (((3 + p + 9 * q : Nat) : Int) + 2) (by omega)
      have hc3 := els_getD (l := l) (j := 3 + p + 9 * q + 3) (by omega) (((3 + p + 9 * q : Nat) : Int) + 3) (by omega)
      have hc4 := els_getD (l := l) (j := 3 + p + 9 * q + 4) (by omega) (((3 + p + 9 * q : Nat) : Int) + 4) (by omega)
      have hc5 := els_getD (l := l) (j := 3 + p + 9 * q + 5) (by omega) (((3 + p + 9 * q : Nat) : Int) + 5) (by omega)
      have hc6 := els_getD (l := l) (j := 3 + p + 9 * q + 6) (by omega) (((3 + p + 9 * q : Nat) : Int) + 6) (by omega)
      have hc7 := els_getD (l := l) (j := 3 + p + 9 * q + 7) (by omega) (((3 + p + 9 * q : Nat) : Int) + 7) (by omega)
      have hc8 := els_getD (l := l) (j := 3 + p + 9 * q + 8) (by omega) (((3 + p + 9 * q : Nat) : Int) + 8) (by omega)
      have hbc := body_cells (q := q) hrest
      have hq24 : (els (bodiesOf rest q)).length ≤ 1099511627776 := by omega
      have hlt : ((3 + p + 9 * q : Nat) : Int) + 9 ≤ (els l).length := by omega
      have hidx : (3 + p + 9 * q : Nat) ≤ 1099511627776 := by omega
      have hqnb : q < nb := by omega
      clear hwg hwo hwb hform hsc hbt hin2 hin ha0 ha1 ha2 hl2 hb1 hb2 hb4 hb5 c1 c2 c4 c5 hu1 hu2 hu3 hu4 hui hpl hrl hn hll hlbk hlbk2 hp_A
      refine A_seq ?_; refine A_seq ?_; refine A_region ?_; refine M0 (q_moveC rfl rfl rfl) rfl rfl ?_; refine M0 (q_moveC rfl rfl rfl) rfl rfl ?_; refine M0 (q_lenr rfl rfl rfl rfl) rfl rfl ?_
      refine M0 (q_lssK rfl rfl rfl rfl (by assumption)) rfl rfl ?_; refine L_nil ?_; refine T_n ?_; refine A_ifT rfl ?_; refine A_skip ?_; refine T_n ?_; refine A_seq ?_; refine A_block ?_
      refine A_draw [[], [0], [], [], [2, 3], [2, 3, 4], [], [], [7], [6, 7, 8], [6, 7, 8, 9], [], [], [12], [11, 12, 13], [11, 12, 13, 14], [], [], [17], [16, 17, 18], [16, 17, 18, 19], [], [], [22], [21, 22, 23], [21, 22, 23, 24], [], [], [27], [26, 27, 28], [26, 27, 28, 29], [], [], [32], [31, 32, 33], [31, 32, 33, 34], [], [], [37], [36, 37, 38], [36, 37, 38, 39], [], [], [42], [41, 42, 43], [41, 42, 43, 44], [2, 3, 4, 5, 6, 7, 8, 9, 10, 11, 12, 13, 14, 15, 16, 17, 18, 19, 20, 21, 22, 23, 24, 25, 26, 27, 28, 29, 30, 31, 32, 33, 34, 35, 36, 37, 38, 39, 40, 41, 42, 43, 44, 45], [2, 3, 4, 5, 6, 7, 8, 9, 10, 11, 12, 13, 14, 15, 16, 17, 18, 19, 20, 21, 22, 23, 24, 25, 26, 27, 28, 29, 30, 31, 32, 33, 34, 35, 36, 37, 38, 39, 40, 41, 42, 43, 44, 45, 46], [0, 1, 2, 3, 4, 5, 6, 7, 8, 9, 10, 11, 12, 13, 14, 15, 16, 17, 18, 19, 20, 21, 22, 23, 24, 25, 26, 27, 28, 29, 30, 31, 32, 33, 34, 35, 36, 37, 38, 39, 40, 41, 42, 43, 44, 45, 46, 47], [0, 1, 2, 3, 4, 5, 6, 7, 8, 9, 10, 11, 12, 13, 14, 15, 16, 17, 18, 19, 20, 21, 22, 23, 24, 25, 26, 27, 28, 29, 30, 31, 32, 33, 34, 35, 36, 37, 38, 39, 40, 41, 42, 43, 44, 45, 46, 47, 48], [0, 1, 2, 3, 4, 5, 6, 7, 8, 9, 10, 11, 12, 13, 14, 15, 16, 17, 18, 19, 20, 21, 22, 23, 24, 25, 26, 27, 28, 29, 30, 31, 32, 33, 34, 35, 36, 37, 38, 39, 40, 41, 42, 43, 44, 45, 46, 47, 48, 49]] [[], [84], [], [], [86, 87], [86, 87, 88], [], [], [91], [90, 91, 92], [90, 91, 92, 93], [], [], [96], [95, 96, 97], [95, 96, 97, 98], [], [], [101], [100, 101, 102], [100, 101, 102, 103], [], [], [106], [105, 106, 107], [105, 106, 107, 108], [], [], [111], [110, 111, 112], [110, 111, 112, 113], [], [], [116], [115, 116, 117], [115, 116, 117, 118], [], [], [121], [120, 121, 122], [120, 121, 122, 123], [], [], [126], [125, 126, 127], [125, 126, 127, 128], [86, 87, 88, 89, 90, 91, 92, 93, 94, 95, 96, 97, 98, 99, 100, 101, 102, 103, 104, 105, 106, 107, 108, 109, 110, 111, 112, 113, 114, 115, 116, 117, 118, 119, 120, 121, 122, 123, 124, 125, 126, 127, 128, 129], [86, 87, 88, 89, 90, 91, 92, 93, 94, 95, 96, 97, 98, 99, 100, 101, 102, 103, 104, 105, 106, 107, 108, 109, 110, 111, 112, 113, 114, 115, 116, 117, 118, 119, 120, 121, 122, 123, 124, 125, 126, 127, 128, 129, 130], [84, 85, 86, 87, 88, 89, 90, 91, 92, 93, 94, 95, 96, 97, 98, 99, 100, 101, 102, 103, 104, 105, 106, 107, 108, 109, 110, 111, 112, 113, 114, 115, 116, 117, 118, 119, 120, 121, 122, 123, 124, 125, 126, 127, 128, 129, 130, 131], [84, 85, 86, 87, 88, 89, 90, 91, 92, 93, 94, 95, 96, 97, 98, 99, 100, 101, 102, 103, 104, 105, 106, 107, 108, 109, 110, 111, 112, 113, 114, 115, 116, 117, 118, 119, 120, 121, 122, 123, 124, 125, 126, 127, 128, 129, 130, 131, 132], [84, 85, 86, 87, 88, 89, 90, 91, 92, 93, 94, 95, 96, 97, 98, 99, 100, 101, 102, 103, 104, 105, 106, 107, 108, 109, 110, 111, 112, 113, 114, 115, 116, 117, 118, 119, 120, 121, 122, 123, 124, 125, 126, 127, 128, 129, 130, 131, 132, 133]] [[86, 87, 88, 89, 90, 91, 92, 93, 94, 95, 96, 97, 98, 99, 100, 101, 102, 103, 104, 105, 106, 107, 108, 109, 110, 111, 112, 113, 114, 115, 116, 117, 118, 119, 120, 121, 122, 123, 124, 125, 126, 127, 128, 129, 130, 131], [86, 87, 88, 89, 90, 91, 92, 93, 94, 95, 96, 97, 98, 99, 100, 101, 102, 103, 104, 105, 106, 107, 108, 109, 110, 111, 112, 113, 114, 115, 116, 117, 118, 119, 120, 121, 122, 123, 124, 125, 126, 127, 128, 129, 130, 131], [84, 85, 87, 90, 91, 92, 93, 94, 95, 96, 97, 98, 99, 100, 101, 102, 103, 104, 105, 106, 107, 108, 109, 110, 111, 112, 113, 114, 115, 116, 117, 118, 119, 120, 121, 122, 123, 124, 125, 126, 127, 128, 129], [84, 85, 86, 90, 91, 92, 93, 94, 95, 96, 97, 98, 99, 100, 101, 102, 103, 104, 105, 106, 107, 108, 109, 110, 111, 112, 113, 114, 115, 116, 117, 118, 119, 120, 121, 122, 123, 124, 125, 126, 127, 128, 129], [84, 85, 90, 91, 92, 93, 94, 95, 96, 97, 98, 99, 100, 101, 102, 103, 104, 105, 106, 107, 108, 109, 110, 111, 112, 113, 114, 115, 116, 117, 118, 119, 120, 121, 122, 123, 124, 125, 126, 127, 128, 129], [84, 85, 90, 91, 92, 93, 94, 95, 96, 97, 98, 99, 100, 101, 102, 103, 104, 105, 106, 107, 108, 109, 110, 111, 112, 113, 114, 115, 116, 117, 118, 119, 120, 121, 122, 123, 124, 125, 126, 127, 128, 129], [84, 85, 86, 87, 88, 89, 91, 92, 95, 96, 97, 98, 99, 100, 101, 102, 103, 104, 105, 106, 107, 108, 109, 110, 111, 112, 113, 114, 115, 116, 117, 118, 119, 120, 121, 122, 123, 124, 125, 126, 127, 128, 129], [84, 85, 86, 87, 88, 89, 90, 95, 96, 97, 98, 99, 100, 101, 102, 103, 104, 105, 106, 107, 108, 109, 110, 111, 112, 113, 114, 115, 116, 117, 118, 119, 120, 121, 122, 123, 124, 125, 126, 127, 128, 129], [84, 85, 86, 87, 88, 89, 90, 95, 96, 97, 98, 99, 100, 101, 102, 103, 104, 105, 106, 107, 108, 109, 110, 111, 112, 113, 114, 115, 116, 117, 118, 119, 120, 121, 122, 123, 124, 125, 126, 127, 128, 129], [84, 85, 86, 87, 88, 89, 95, 96, 97, 98, 99, 100, 101, 102, 103, 104, 105, 106, 107, 108, 109, 110, 111, 112, 113, 114, 115, 116, 117, 118, 119, 120, 121, 122, 123, 124, 125, 126, 127, 128, 129], [84, 85, 86, 87, 88, 89, 95, 96, 97, 98, 99, 100, 101, 102, 103, 104, 105, 106, 107, 108, 109, 110, 111, 112, 113, 114, 115, 116, 117, 118, 119, 120, 121, 122, 123, 124, 125, 126, 127, 128, 129], [84, 85, 86, 87, 88, 89, 90, 91, 92, 93, 94, 96, 97, 100, 101, 102, 103, 104, 105, 106, 107, 108, 109, 110, 111, 112, 113, 114, 115, 116, 117, 118, 119, 120, 121, 122, 123, 124, 125, 126, 127, 128, 129], [84, 85, 86, 87, 88, 89, 90, 91, 92, 93, 94, 95, 100, 101, 102, 103, 104, 105, 106, 107, 108, 109, 110, 111, 112, 113, 114, 115, 116, 117, 118, 119, 120, 121, 122, 123, 124, 125, 126, 127, 128, 129], [84, 85, 86, 87, 88, 89, 90, 91, 92, 93, 94, 95, 100, 101, 102, 103, 104, 105, 106, 107, 108, 109, 110, 111, 112, 113, 114, 115, 116, 117, 118, 119, 120, 121, 122, 123, 124, 125, 126, 127, 128, 129], [84, 85, 86, 87, 88, 89, 90, 91, 92, 93, 94, 100, 101, 102, 103, 104, 105, 106, 107, 108, 109, 110, 111, 112, 113, 114, 115, 116, 117, 118, 119, 120, 121, 122, 123, 124, 125, 126, 127, 128, 129], [84, 85, 86, 87, 88, 89, 90, 91, 92, 93, 94, 100, 101, 102, 103, 104, 105, 106, 107, 108, 109, 110, 111, 112, 113, 114, 115, 116, 117, 118, 119, 120, 121, 122, 123, 124, 125, 126, 127, 128, 129], [84, 85, 86, 87, 88, 89, 90, 91, 92, 93, 94, 95, 96, 97, 98, 99, 101, 102, 105, 106, 107, 108, 109, 110, 111, 112, 113, 114, 115, 116, 117, 118, 119, 120, 121, 122, 123, 124, 125, 126, 127, 128, 129], [84, 85, 86, 87, 88, 89, 90, 91, 92, 93, 94, 95, 96, 97, 98, 99, 100, 105, 106, 107, 108, 109, 110, 111, 112, 113, 114, 115, 116, 117, 118, 119, 120, 121, 122, 123, 124, 125, 126, 127, 128, 129], [84, 85, 86, 87, 88, 89, 90, 91, 92, 93, 94, 95, 96, 97, 98, 99, 100, 105, 106, 107, 108, 109, 110, 111, 112, 113, 114, 115, 116, 117, 118, 119, 120, 121, 122, 123, 124, 125, 126, 127, 128, 129], [84, 85, 86, 87, 88, 89, 90, 91, 92, 93, 94, 95, 96, 97, 98, 99, 105, 106, 107, 108, 109, 110, 111, 112, 113, 114, 115, 116, 117, 118, 119, 120, 121, 122, 123, 124, 125, 126, 127, 128, 129], [84, 85, 86, 87, 88, 89, 90, 91, 92, 93, 94, 95, 96, 97, 98, 99, 105, 106, 107, 108, 109, 110, 111, 112, 113, 114, 115, 116, 117, 118, 119, 120, 121, 122, 123, 124, 125, 126, 127, 128, 129], [84, 85, 86, 87, 88, 89, 90, 91, 92, 93, 94, 95, 96, 97, 98, 99, 100, 101, 102, 103, 104, 106, 107, 110, 111, 112, 113, 114, 115, 116, 117, 118, 119, 120, 121, 122, 123, 124, 125, 126, 127, 128, 129], [84, 85, 86, 87, 88, 89, 90, 91, 92, 93, 94, 95, 96, 97, 98, 99, 100, 101, 102, 103, 104, 105, 110, 111, 112, 113, 114, 115, 116, 117, 118, 119, 120, 121, 122, 123, 124, 125, 126, 127, 128, 129], [84, 85, 86, 87, 88, 89, 90, 91, 92, 93, 94, 95, 96, 97, 98, 99, 100, 101, 102, 103, 104, 105, 110, 111, 112, 113, 114, 115, 116, 117, 118, 119, 120, 121, 122, 123, 124, 125, 126, 127, 128, 129], [84, 85, 86, 87, 88, 89, 90, 91, 92, 93, 94, 95, 96, 97, 98, 99, 100, 101, 102, 103, 104, 110, 111, 112, 113, 114, 115, 116, 117, 118, 119, 120, 121, 122, 123, 124, 125, 126, 127, 128, 129], [84, 85, 86, 87, 88, 89, 90, 91, 92, 93, 94, 95, 96, 97, 98, 99, 100, 101, 102, 103, 104, 110, 111, 112, 113, 114, 115, 116, 117, 118, 119, 120, 121, 122, 123, 124, 125, 126, 127, 128, 129], [84, 85, 86, 87, 88, 89, 90, 91, 92, 93, 94, 95, 96, 97, 98, 99, 100, 101, 102, 103, 104, 105, 106, 107, 108, 109, 111, 112, 115, 116, 117, 118, 119, 120, 121, 122, 123, 124, 125, 126, 127, 128, 129], [84, 85, 86, 87, 88, 89, 90, 91, 92, 93, 94, 95, 96, 97, 98, 99, 100, 101, 102, 103, 104, 105, 106, 107, 108, 109, 110, 115, 116, 117, 118, 119, 120, 121, 122, 123, 124, 125, 126, 127, 128, 129], [84, 85, 86, 87, 88, 89, 90, 91, 92, 93, 94, 95, 96, 97, 98, 99, 100, 101, 102, 103, 104, 105, 106, 107, 108, 109, 110, 115, 116, 117, 118, 119, 120, 121, 122, 123, 124, 125, 126, 127, 128, 129], [84, 85, 86, 87, 88, 89, 90, 91, 92, 93, 94, 95, 96, 97, 98, 99, 100, 101, 102, 103, 104, 105, 106, 107, 108, 109, 115, 116, 117, 118, 119, 120, 121, 122, 123, 124, 125, 126, 127, 128, 129], [84, 85, 86, 87, 88, 89, 90, 91, 92, 93, 94, 95, 96, 97, 98, 99, 100, 101, 102, 103, 104, 105, 106, 107, 108, 109, 115, 116, 117, 118, 119, 120, 121, 122, 123, 124, 125, 126, 127, 128, 129], [84, 85, 86, 87, 88, 89, 90, 91, 92, 93, 94, 95, 96, 97, 98, 99, 100, 101, 102, 103, 104, 105, 106, 107, 108, 109, 110, 111, 112, 113, 114, 116, 117, 120, 121, 122, 123, 124, 125, 126, 127, 128, 129], [84, 85, 86, 87, 88, 89, 90, 91, 92, 93, 94, 95, 96, 97, 98, 99, 100, 101, 102, 103, 104, 105, 106, 107, 108, 109, 110, 111, 112, 113, 114, 115, 120, 121, 122, 123, 124, 125, 126, 127, 128, 129], [84, 85, 86, 87, 88, 89, 90, 91, 92, 93, 94, 95, 96, 97, 98, 99, 100, 101, 102, 103, 104, 105, 106, 107, 108, 109, 110, 111, 112, 113, 114, 115, 120, 121, 122, 123, 124, 125, 126, 127, 128, 129], [84, 85, 86, 87, 88, 89, 90, 91, 92, 93, 94, 95, 96, 97, 98, 99, 100, 101, 102, 103, 104, 105, 106, 107, 108, 109, 110, 111, 112, 113, 114, 120, 121, 122, 123, 124, 125, 126, 127, 128, 129], [84, 85, 86, 87, 88, 89, 90, 91, 92, 93, 94, 95, 96, 97, 98, 99, 100, 101, 102, 103, 104, 105, 106, 107, 108, 109, 110, 111, 112, 113, 114, 120, 121, 122, 123, 124, 125, 126, 127, 128, 129], [84, 85, 86, 87, 88, 89, 90, 91, 92, 93, 94, 95, 96, 97, 98, 99, 100, 101, 102, 103, 104, 105, 106, 107, 108, 109, 110, 111, 112, 113, 114, 115, 116, 117, 118, 119, 121, 122, 125, 126, 127, 128, 129], [84, 85, 86, 87, 88, 89, 90, 91, 92, 93, 94, 95, 96, 97, 98, 99, 100, 101, 102, 103, 104, 105, 106, 107, 108, 109, 110, 111, 112, 113, 114, 115, 116, 117, 118, 119, 120, 125, 126, 127, 128, 129], [84, 85, 86, 87, 88, 89, 90, 91, 92, 93, 94, 95, 96, 97, 98, 99, 100, 101, 102, 103, 104, 105, 106, 107, 108, 109, 110, 111, 112, 113, 114, 115, 116, 117, 118, 119, 120, 125, 126, 127, 128, 129], [84, 85, 86, 87, 88, 89, 90, 91, 92, 93, 94, 95, 96, 97, 98, 99, 100, 101, 102, 103, 104, 105, 106, 107, 108, 109, 110, 111, 112, 113, 114, 115, 116, 117, 118, 119, 125, 126, 127, 128, 129], [84, 85, 86, 87, 88, 89, 90, 91, 92, 93, 94, 95, 96, 97, 98, 99, 100, 101, 102, 103, 104, 105, 106, 107, 108, 109, 110, 111, 112, 113, 114, 115, 116, 117, 118, 119, 125, 126, 127, 128, 129], [84, 85, 86, 87, 88, 89, 90, 91, 92, 93, 94, 95, 96, 97, 98, 99, 100, 101, 102, 103, 104, 105, 106, 107, 108, 109, 110, 111, 112, 113, 114, 115, 116, 117, 118, 119, 120, 121, 122, 123, 124, 126, 127], [84, 85, 86, 87, 88, 89, 90, 91, 92, 93, 94, 95, 96, 97, 98, 99, 100, 101, 102, 103, 104, 105, 106, 107, 108, 109, 110, 111, 112, 113, 114, 115, 116, 117, 118, 119, 120, 121, 122, 123, 124, 125], [84, 85, 86, 87, 88, 89, 90, 91, 92, 93, 94, 95, 96, 97, 98, 99, 100, 101, 102, 103, 104, 105, 106, 107, 108, 109, 110, 111, 112, 113, 114, 115, 116, 117, 118, 119, 120, 121, 122, 123, 124, 125], [84, 85, 86, 87, 88, 89, 90, 91, 92, 93, 94, 95, 96, 97, 98, 99, 100, 101, 102, 103, 104, 105, 106, 107, 108, 109, 110, 111, 112, 113, 114, 115, 116, 117, 118, 119, 120, 121, 122, 123, 124], [84, 85, 86, 87, 88, 89, 90, 91, 92, 93, 94, 95, 96, 97, 98, 99, 100, 101, 102, 103, 104, 105, 106, 107, 108, 109, 110, 111, 112, 113, 114, 115, 116, 117, 118, 119, 120, 121, 122, 123, 124], [84, 85], [84, 85], [], [], []] rfl ?_
      refine DR.step (q_fldp rfl rfl rfl rfl (by decide)) rfl rfl ?_; refine DR.step (q_ld1 rfl rfl rfl rfl rfl) rfl rfl ?_; refine DR.step (q_moveC rfl rfl rfl) rfl rfl ?_
      refine DR.step (q_moveC rfl rfl rfl) rfl rfl ?_; refine DR.step (q_ar rfl rfl rfl rfl rfl (by omega) (by assumption)) rfl rfl ?_
      refine DR.step (q_le1 rfl rfl rfl rfl (by assumption) rfl) rfl rfl ?_; refine DR.step (q_moveC rfl rfl rfl) rfl rfl ?_; refine DR.step (q_moveC rfl rfl rfl) rfl rfl ?_
      refine DR.step (q_add rfl rfl rfl rfl (by omega)) rfl rfl ?_; refine DR.step (q_ar rfl rfl rfl rfl rfl (by omega) (by omega)) rfl rfl ?_
      refine DR.step (q_le1 rfl rfl rfl rfl (by assumption) rfl) rfl rfl ?_; refine DR.step (q_moveC rfl rfl rfl) rfl rfl ?_; refine DR.step (q_moveC rfl rfl rfl) rfl rfl ?_
      refine DR.step (q_add rfl rfl rfl rfl (by omega)) rfl rfl ?_; refine DR.step (q_ar rfl rfl rfl rfl rfl (by omega) (by omega)) rfl rfl ?_
      refine DR.step (q_le1 rfl rfl rfl rfl (by assumption) rfl) rfl rfl ?_; refine DR.step (q_moveC rfl rfl rfl) rfl rfl ?_; refine DR.step (q_moveC rfl rfl rfl) rfl rfl ?_
      refine DR.step (q_add rfl rfl rfl rfl (by omega)) rfl rfl ?_; refine DR.step (q_ar rfl rfl rfl rfl rfl (by omega) (by omega)) rfl rfl ?_
      refine DR.step (q_le1 rfl rfl rfl rfl (by assumption) rfl) rfl rfl ?_; refine DR.step (q_moveC rfl rfl rfl) rfl rfl ?_; refine DR.step (q_moveC rfl rfl rfl) rfl rfl ?_
      refine DR.step (q_add rfl rfl rfl rfl (by omega)) rfl rfl ?_; refine DR.step (q_ar rfl rfl rfl rfl rfl (by omega) (by omega)) rfl rfl ?_
      refine DR.step (q_le1 rfl rfl rfl rfl (by assumption) rfl) rfl rfl ?_; refine DR.step (q_moveC rfl rfl rfl) rfl rfl ?_; refine DR.step (q_moveC rfl rfl rfl) rfl rfl ?_
      refine DR.step (q_add rfl rfl rfl rfl (by omega)) rfl rfl ?_; refine DR.step (q_ar rfl rfl rfl rfl rfl (by omega) (by omega)) rfl rfl ?_
      refine DR.step (q_le1 rfl rfl rfl rfl (by assumption) rfl) rfl rfl ?_; refine DR.step (q_moveC rfl rfl rfl) rfl rfl ?_; refine DR.step (q_moveC rfl rfl rfl) rfl rfl ?_
      refine DR.step (q_add rfl rfl rfl rfl (by omega)) rfl rfl ?_; refine DR.step (q_ar rfl rfl rfl rfl rfl (by omega) (by omega)) rfl rfl ?_
      refine DR.step (q_le1 rfl rfl rfl rfl (by assumption) rfl) rfl rfl ?_; refine DR.step (q_moveC rfl rfl rfl) rfl rfl ?_; refine DR.step (q_moveC rfl rfl rfl) rfl rfl ?_
      refine DR.step (q_add rfl rfl rfl rfl (by omega)) rfl rfl ?_; refine DR.step (q_ar rfl rfl rfl rfl rfl (by omega) (by omega)) rfl rfl ?_
      refine DR.step (q_le1 rfl rfl rfl rfl (by assumption) rfl) rfl rfl ?_; refine DR.step (q_moveC rfl rfl rfl) rfl rfl ?_; refine DR.step (q_moveC rfl rfl rfl) rfl rfl ?_
      refine DR.step (q_add rfl rfl rfl rfl (by omega)) rfl rfl ?_; refine DR.step (q_ar rfl rfl rfl rfl rfl (by omega) (by assumption)) rfl rfl ?_
      refine DR.step (q_le1 rfl rfl rfl rfl (by assumption) rfl) rfl rfl ?_
      refine DR.step (x := .o (.ag [jv (l.getD (3 + p + 9 * q + 0) 0), jv (l.getD (3 + p + 9 * q + 1) 0), jv (l.getD (3 + p + 9 * q + 2) 0), jv (l.getD (3 + p + 9 * q + 3) 0), jv (l.getD (3 + p + 9 * q + 4) 0), jv (l.getD (3 + p + 9 * q + 5) 0), jv (l.getD (3 + p + 9 * q + 6) 0), jv (l.getD (3 + p + 9 * q + 7) 0), jv (l.getD (3 + p + 9 * q + 8) 0)])) (q_build rfl rfl rfl rfl rfl) rfl rfl ?_
      refine DR.step (q_bslice rfl rfl rfl rfl rfl rfl) rfl rfl ?_; refine DR.stop (by kernel_rfl) (by kernel_rfl) ?_
      refine AL.weak (st' := (⟨_, [(1, S s), (4, .o (.c (.ptr 1 0))), (6, .o (.c (.ref 2))), (10, .o (.c (.ptr 4 0))), (11, I ((3 + p + 9 * q : Nat) : Int)), (85, .o (.c (.ref 6))), (131, .o (.c (.sb 7 1 9)))], [.box ((Enc.e lv).map (V1.rd [])), .box [nilV, jv 0, jv 0, nilV, nilV], .row 1 (els l), .row 1 (els lv.Rows), .box [.ref 3, jv (l.getD 0 0), jv (l.getD 1 0), .ref 5, .ref 6], .row 1 (els ((l.drop 3).take p)), .row 9 (els (bodiesOf rest q)), .box [jv (l.getD (3 + p + 9 * q + 0) 0), jv (l.getD (3 + p + 9 * q + 1) 0), jv (l.getD (3 + p + 9 * q + 2) 0), jv (l.getD (3 + p + 9 * q + 3) 0), jv (l.getD (3 + p + 9 * q + 4) 0), jv (l.getD (3 + p + 9 * q + 5) 0), jv (l.getD (3 + p + 9 * q + 6) 0), jv (l.getD (3 + p + 9 * q + 7) 0), jv (l.getD (3 + p + 9 * q + 8) 0)]]⟩ : St)) (W_go [0, 1, 2, 3, 4, 5, 6, 7] (by decide) rfl (rfl) (.cons rfl (.cons rfl (.cons rfl (.cons rfl (.cons rfl (.cons rfl (.cons rfl (.nil))))))))) ?_
      refine M_appo rfl rfl rfl rfl rfl rfl rfl rfl rfl rfl rfl rfl rfl rfl (by omega) (by omega) ?_; refine M0 (q_fldp rfl rfl rfl rfl (by decide)) rfl rfl ?_
      refine M_st1 rfl rfl rfl rfl rfl rfl rfl rfl ?_; refine L_nil ?_; refine B_n ?_; refine T_n ?_; refine A_region ?_; refine M0 (q_moveC rfl rfl rfl) rfl rfl ?_
      refine M0 (q_add rfl rfl rfl rfl (by omega)) rfl rfl ?_; refine M0 (q_assignC rfl rfl rfl) rfl rfl ?_; refine L_nil ?_; refine T_n ?_
      exact ⟨nb - (q + 1), by omega, (fun q : Nat => (⟨_, [(1, S s), (4, .o (.c (.ptr 1 0))), (6, .o (.c (.ref 2))), (10, .o (.c (.ptr 4 0))), (11, I ((3 + p + 9 * q : Nat) : Int))], [.box ((Enc.e lv).map (V1.rd [])), .box [nilV, jv 0, jv 0, nilV, nilV], .row 1 (els l), .row 1 (els lv.Rows), .box [.ref 3, jv (l.getD 0 0), jv (l.getD 1 0), .ref 5, .ref 6], .row 1 (els ((l.drop 3).take p)), .row 9 (els (bodiesOf rest q))]⟩ : St)) (q + 1), W_go [0, 1, 2, 3, 4, 5, 6] (by decide) rfl (row7 (by rw [bodiesOf_snoc, els_app, show els [bodyOf (rest.drop (9 * q))] = [Enc.e (bodyOf (rest.drop (9 * q)))] from rfl, hbc]; rfl)) (.cons rfl (.cons rfl (.cons rfl (.cons rfl (.cons (I_eq (by omega)) (.nil)))))), q + 1, by omega, trivial, rfl⟩
    · have hb6 : decide (((3 + p + 9 * q : Nat) : Int) < (els l).length) = false := decide_eq_false h4
      have hqn : q = nb := by omega
      subst hqn
      have hwk := S_WorldBytes ⟨lv, l.getD 0 0, l.getD 1 0, (l.drop 3).take p, bodiesOf rest q⟩ hwg
      cases ho : worldOk ⟨lv, l.getD 0 0, l.getD 1 0, (l.drop 3).take p, bodiesOf rest q⟩ with
      | false =>
        have hne : decide (worldBytes ⟨lv, l.getD 0 0, l.getD 1 0, (l.drop 3).take p, bodiesOf rest q⟩ ≠ s) = true := decide_eq_true fun h => by rw [hwb, ho] at h; cases h
        rw [readWorld_no hu (fun hh => by have h9 := hh.2.2; rw [hwo, ho] at h9; cases h9)]
        refine A_seq ?_; refine A_seq ?_; refine A_region ?_; refine M0 (q_moveC rfl rfl rfl) rfl rfl ?_; refine M0 (q_moveC rfl rfl rfl) rfl rfl ?_; refine M0 (q_lenr rfl rfl rfl rfl) rfl rfl ?_
        refine M0 (q_lssK rfl rfl rfl rfl (by assumption)) rfl rfl ?_; refine L_nil ?_; refine T_n ?_; refine A_ifF rfl ?_; refine A_exit ?_; refine T_x ?_; refine T_x ?_; refine B_xs ?_; refine T_n ?_
        refine A_seq ?_; refine A_seq ?_; refine A_region ?_; refine M0 (q_ldN rfl rfl rfl rfl rfl rfl) rfl rfl ?_; refine M0 (q_call0 rfl rfl (hwk) rfl) rfl rfl ?_
        refine M0 (q_moveC rfl rfl rfl) rfl rfl ?_; refine M0 (q_sneqK rfl rfl rfl rfl (by assumption)) rfl rfl ?_; refine L_nil ?_; refine T_n ?_; refine A_ifT rfl ?_; refine A_seq ?_
        refine A_region ?_; refine M0 (q_build rfl rfl rfl rfl rfl) rfl rfl ?_; refine M_stN rfl rfl rfl rfl rfl rfl rfl rfl rfl ?_; refine M0 (q_assignC rfl rfl rfl) rfl rfl ?_; refine L_nil ?_
        refine T_n ?_; refine A_ret ?_; refine T_r ?_; refine F_r ?_
        exact E_cellt rfl rfl rfl rfl rfl (W_fill [1, 1, 9] [7, 8, 9] rfl rfl (by decide) rfl rfl rfl)
      | true =>
        have hne : decide (worldBytes ⟨lv, l.getD 0 0, l.getD 1 0, (l.drop 3).take p, bodiesOf rest q⟩ ≠ s) = false := decide_eq_false fun h => h (hwb.2 ho)
        rw [readWorld_yes hu ⟨by omega, hform, by rw [hwo]; exact ho⟩, hwo]
        refine A_seq ?_; refine A_seq ?_; refine A_region ?_; refine M0 (q_moveC rfl rfl rfl) rfl rfl ?_; refine M0 (q_moveC rfl rfl rfl) rfl rfl ?_; refine M0 (q_lenr rfl rfl rfl rfl) rfl rfl ?_
        refine M0 (q_lssK rfl rfl rfl rfl (by assumption)) rfl rfl ?_; refine L_nil ?_; refine T_n ?_; refine A_ifF rfl ?_; refine A_exit ?_; refine T_x ?_; refine T_x ?_; refine B_xs ?_; refine T_n ?_
        refine A_seq ?_; refine A_seq ?_; refine A_region ?_; refine M0 (q_ldN rfl rfl rfl rfl rfl rfl) rfl rfl ?_; refine M0 (q_call0 rfl rfl (hwk) rfl) rfl rfl ?_
        refine M0 (q_moveC rfl rfl rfl) rfl rfl ?_; refine M0 (q_sneqK rfl rfl rfl rfl (by assumption)) rfl rfl ?_; refine L_nil ?_; refine T_n ?_; refine A_ifF rfl ?_; refine A_skip ?_; refine T_n ?_
        refine A_seq ?_; refine A_region ?_; refine M0 (q_ldN rfl rfl rfl rfl rfl rfl) rfl rfl ?_; refine M_stN rfl rfl rfl rfl rfl rfl rfl rfl rfl ?_; refine M0 (q_assignC rfl rfl rfl) rfl rfl ?_
        refine L_nil ?_; refine T_n ?_; refine A_ret ?_; refine F_r ?_
        exact E_cellt rfl rfl rfl rfl rfl (W_end [3, 5, 6] (by decide) rfl rfl rfl)
end Go.Proofs.Ytkfnaniegldfaaa
end

section
set_option linter.unusedSimpArgs false
set_option linter.unusedVariables false
set_option maxRecDepth 8000
namespace Go.Proofs.Ytkfnaniegldfaaa
open Go.RowKit

set_option maxHeartbeats 8000000 in
theorem I_NewSpectator (lv : TLevel) (s : ByteArray) (hg : Enc.gd lv) (hL : lv.Rows.length ≤ 1048576) (hs : s.size ≤ 1099511627776) : Con Try.prog 26 [] [ag lv, astr s] (ownO (Enc.e (⟨rwW (readWorld lv s), 0⟩ : TSpectator))) (.tu [.ag (ownV 0 (Enc.e (⟨rwW (readWorld lv s), 0⟩ : TSpectator))), .c (bv (rwB (readWorld lv s)))]) := by
  have hr := I_ReadWorld lv s hg hL hs
  cases hw : readWorld lv s with
  | none =>
    rw [hw] at hr
    refine Con.of Try.func26 rfl Try.ntmps26 rfl (fun E => ?_)
    refine A_seq ?_; refine A_region ?_; refine M1 (q_boxN rfl rfl rfl rfl) rfl rfl ?_; refine M1 (q_alloc rfl rfl rfl) rfl rfl ?_; refine M0 (q_assignC rfl rfl rfl) rfl rfl ?_; refine L_nil ?_
    refine T_n ?_; refine A_seq ?_; refine A_region ?_; refine M0 (q_ldN rfl rfl rfl rfl rfl rfl) rfl rfl ?_; refine M0 (q_moveC rfl rfl rfl) rfl rfl ?_
    refine M1 (q_call rfl rfl (hr) rfl rfl rfl) rfl rfl ?_; refine M0 (q_moveT rfl rfl rfl) rfl rfl ?_; refine M0 (q_ext rfl rfl rfl rfl) rfl rfl ?_
    refine M0 (q_ext rfl rfl rfl rfl) rfl rfl ?_; refine M1 (q_alloc rfl rfl rfl) rfl rfl ?_; refine M_stN rfl rfl rfl rfl rfl rfl rfl rfl rfl ?_
    refine M0 (q_assignC rfl rfl rfl) rfl rfl ?_; refine L_nil ?_; refine T_n ?_; refine A_seq ?_; refine A_seq ?_; refine A_region ?_; refine M0 (q_moveC rfl rfl rfl) rfl rfl ?_
    refine M0 (q_not rfl rfl rfl) rfl rfl ?_; refine L_nil ?_; refine T_n ?_; refine A_ifT rfl ?_; refine A_seq ?_; refine A_region ?_; refine M0 (q_build rfl rfl rfl rfl rfl) rfl rfl ?_
    refine M_stN rfl rfl rfl rfl rfl rfl rfl rfl rfl ?_; refine M0 (q_assignC rfl rfl rfl) rfl rfl ?_; refine L_nil ?_; refine T_n ?_; refine A_ret ?_; refine T_r ?_; refine F_r ?_
    exact E_cellt rfl rfl rfl rfl rfl (W_fill [1, 1, 9] [6, 7, 8] rfl rfl (by decide) rfl rfl rfl)
  | some w =>
    rw [hw] at hr
    refine Con.of Try.func26 rfl Try.ntmps26 rfl (fun E => ?_)
    refine A_seq ?_; refine A_region ?_; refine M1 (q_boxN rfl rfl rfl rfl) rfl rfl ?_; refine M1 (q_alloc rfl rfl rfl) rfl rfl ?_; refine M0 (q_assignC rfl rfl rfl) rfl rfl ?_; refine L_nil ?_
    refine T_n ?_; refine A_seq ?_; refine A_region ?_; refine M0 (q_ldN rfl rfl rfl rfl rfl rfl) rfl rfl ?_; refine M0 (q_moveC rfl rfl rfl) rfl rfl ?_
    refine M1 (q_call rfl rfl (hr) rfl rfl rfl) rfl rfl ?_; refine M0 (q_moveT rfl rfl rfl) rfl rfl ?_; refine M0 (q_ext rfl rfl rfl rfl) rfl rfl ?_
    refine M0 (q_ext rfl rfl rfl rfl) rfl rfl ?_; refine M1 (q_alloc rfl rfl rfl) rfl rfl ?_; refine M_stN rfl rfl rfl rfl rfl rfl rfl rfl rfl ?_
    refine M0 (q_assignC rfl rfl rfl) rfl rfl ?_; refine L_nil ?_; refine T_n ?_; refine A_seq ?_; refine A_seq ?_; refine A_region ?_; refine M0 (q_moveC rfl rfl rfl) rfl rfl ?_
    refine M0 (q_not rfl rfl rfl) rfl rfl ?_; refine L_nil ?_; refine T_n ?_; refine A_ifF rfl ?_; refine A_skip ?_; refine T_n ?_; refine A_seq ?_; refine A_region ?_
    refine M0 (q_ldN rfl rfl rfl rfl rfl rfl) rfl rfl ?_; refine M0 (q_build rfl rfl rfl rfl rfl) rfl rfl ?_; refine M_stN rfl rfl rfl rfl rfl rfl rfl rfl rfl ?_
    refine M0 (q_assignC rfl rfl rfl) rfl rfl ?_; refine L_nil ?_; refine T_n ?_; refine A_ret ?_; refine F_r ?_
    exact E_cellt rfl rfl rfl rfl rfl (W_end [2, 3, 4] (by decide) rfl rfl rfl)
set_option maxHeartbeats 8000000 in
theorem S_NewSpectator (lv : TLevel) (s : ByteArray) (hg : Enc.gd lv) (hL : lv.Rows.length ≤ 1048576) (hs : s.size ≤ 1099511627776) : Con Try.prog 24 [] [ag lv, astr s] (ownO (Enc.e (⟨rwW (readWorld lv s), 0⟩ : TSpectator))) (.tu [.ag (ownV 0 (Enc.e (⟨rwW (readWorld lv s), 0⟩ : TSpectator))), .c (bv (rwB (readWorld lv s)))]) := by
  have hr := S_ReadWorld lv s hg hL hs
  generalize readWorld lv s = r at hr
  refine Con.of Try.func24 rfl Try.ntmps24 rfl (fun E => ?_)
  refine A_seq ?_; refine A_region ?_; refine M1 (q_boxN rfl rfl rfl rfl) rfl rfl ?_; refine M1 (q_alloc rfl rfl rfl) rfl rfl ?_; refine M0 (q_assignC rfl rfl rfl) rfl rfl ?_; refine L_nil ?_
  refine T_n ?_; refine A_seq ?_; refine A_region ?_; refine M0 (q_ldN rfl rfl rfl rfl rfl rfl) rfl rfl ?_; refine M0 (q_moveC rfl rfl rfl) rfl rfl ?_
  refine M1 (q_call rfl rfl (hr) rfl rfl rfl) rfl rfl ?_; refine M0 (q_moveT rfl rfl rfl) rfl rfl ?_; refine M0 (q_ext rfl rfl rfl rfl) rfl rfl ?_
  refine M0 (q_ext rfl rfl rfl rfl) rfl rfl ?_; refine M1 (q_alloc rfl rfl rfl) rfl rfl ?_; refine M_stN rfl rfl rfl rfl rfl rfl rfl rfl rfl ?_
  refine M0 (q_assignC rfl rfl rfl) rfl rfl ?_; refine L_nil ?_; refine T_n ?_; refine A_seq ?_; refine A_region ?_; refine M0 (q_ldN rfl rfl rfl rfl rfl rfl) rfl rfl ?_
  refine M0 (q_build rfl rfl rfl rfl rfl) rfl rfl ?_; refine M0 (q_moveC rfl rfl rfl) rfl rfl ?_; refine M_stN rfl rfl rfl rfl rfl rfl rfl rfl rfl ?_
  refine M0 (q_assignC rfl rfl rfl) rfl rfl ?_; refine L_nil ?_; refine T_n ?_; refine A_ret ?_; refine F_r ?_
  exact E_cellt rfl rfl rfl rfl rfl (W_end [2, 3, 4] (by decide) rfl rfl rfl)
end Go.Proofs.Ytkfnaniegldfaaa
end
