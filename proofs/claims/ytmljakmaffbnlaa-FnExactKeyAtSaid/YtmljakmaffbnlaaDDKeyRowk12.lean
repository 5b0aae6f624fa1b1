/-
  A literal slice becomes an owned slice; comparing a slice with nil. No statement of the program is proved here.
  Conditions: none.
  WorldBytes, in the program and in the reference.
  Conditions: lists of at most 2^40 elements.
  What a valid replay is, in the program and in the reference.
  Conditions: none.
  A new replay, in the program and in the reference.
  Conditions: none.
  What ReadWorld returns, as data; Clone of lists.
  Conditions: texts of at most 2^40 bytes, a level of at most 2^20 rows.
  Where players begin, and new worlds, as data; a new world is valid and is read back from its bytes. No statement of the program is proved here.
  Conditions: none.
  StartOf, fresh players and NewWorld, in the program and in the reference.
  Conditions: a valid level; 1 to 4 players.
  Fresh players and NewWorld, in the program and in the reference.
  Conditions: a valid level; 1 to 4 players; a valid seed.
  ReadWorld of the program.
  Conditions: texts of at most 2^40 bytes, a level of at most 2^20 rows.
  ReadWorld of the reference.
  Conditions: texts of at most 2^40 bytes, a level of at most 2^20 rows.
  How great replays and worlds are that a law has copied. No statement of the program is proved here.
  Conditions: none.
-/
import Derived.Lib.LazyBuf
import Derived.Test.YtmljakmaffbnlaaDDKeyRowk8
import Derived.Test.YtmljakmaffbnlaaDDKeyRowk9
import Derived.Test.YtmljakmaffbnlaaDDKeyRowk10
import Derived.Test.YtmljakmaffbnlaaDDKeyRowk11
section
set_option linter.unusedSimpArgs false
set_option linter.unusedVariables false
namespace Go.Proofs.Ytmljakmaffbnlaa
open Go.RowKit

def V1.tosr (q : Nat) : V1 → V1
  | .sb p n k => match Nat.beq p q with
    | true => match k with
      | 1 => .ref q
      | _ => .un
    | false => (V1.sb p n k).kill [q]
  | x => x.kill [q]
/-- A literal slice of plain values is a slice of one's own. -/
theorem Wk.sbrow {st : St} {q : Nat} {cs : List V1} {es : List (List T)} (hq : st.objs[q]? = some (.box cs)) (hs : sbE cs = some es) (hm : cs.length ≤ maxLen) : Wk st ⟨st.n,st.tmps.map fun t => (t.1,t.2.mapk (V1.tosr q)),(st.objs.map (Ob.mapk (V1.tosr q))).set q (.row 1 es)⟩ := by
  intro w H F a h1
  obtain ⟨hel,hes⟩ := sbE_ok cs es hs
  have hb := h1.obs q
  rw [getD_of hq] at hb
  obtain ⟨g,t,vs,e1,e2,e3⟩ := hb
  have hsay := h1.ok.says q
  rw [e1] at hsay
  have hg : w.heap[g]? = some (.cells vs.toArray t (0,0)) := hsay
  have hqlt := getE_lt hq
  have hplain : ∀ (i : Nat) (e : List T),es[i]? = some e → ∃ u,vs[i]? = some u ∧ e = [.v u] ∧ u.oneCell' = true := fun i e hi => by
    obtain ⟨ps,u,h2,h3⟩ := hes i e hi
    have hil := getE_lt h2
    have hiv : vs[i]? = some (vs[i]'(by omega)) := List.getElem?_eq_getElem (by omega)
    obtain ⟨h4,h5⟩ := e3 i _ _ h2 hiv
    obtain ⟨h6,h7⟩ := RO.plain h4
    exact ⟨u,by rw [hiv,h6],h3,h7⟩
  obtain ⟨f,hf⟩ : ∃ f : Nat → Value,f = fun i => vs.getD i undef := ⟨_,rfl⟩
  have hOW : ∃ fp,OW w (.sl 1 es) (.slice (some ⟨g,0,none⟩) es.length vs.length) fp ∧ (∀ b ∈ fp,b = g) ∧ fp.Nodup := by
    refine ⟨g :: (List.replicate es.length [([] : List Nat)]).flatten.flatten,OW.sl es g 0 1 vs.length t vs.toArray (0,0) (fun i _ => vs.getD i undef) (List.replicate es.length [[]]) hg (.inl rfl) (by omega) (by omega) (by simp) (by omega) (fun e he => ?_) (by simp) (fun fs hfs => by rw [List.eq_of_mem_replicate hfs]; rfl) (fun i j hi hj => ?_) (fun i j e tt fs ff k1 k2 k3 k4 => ?_),?_,?_⟩
    · obtain ⟨i,hi⟩ := List.getElem?_of_mem he
      obtain ⟨u,_,h3,_⟩ := hplain i e hi
      rw [h3]; rfl
    · have h2 : i < vs.length := by omega
      have h3 : j = 0 := by omega
      subst h3
      simp [List.getD_eq_getElem?_getD,h2]
    · obtain ⟨u,h3,h4,h5⟩ := hplain i e k1
      subst h4
      have hj : j = 0 := by have := getE_lt k2; simp at this; exact this
      subst hj
      simp at k2
      subst k2
      have hfs : fs = [[]] := List.eq_of_mem_replicate (getE_mem k3)
      subst hfs
      simp at k4
      subst k4
      have h6 : vs.getD i undef = u := getD_of h3
      rw [h6]
      exact .v u h5
    · intro b hb
      simpa using hb
    · simp
  obtain ⟨fp,hO,hfp,hnd⟩ := hOW
  have hkeep : Keeps w w [g] := ⟨rfl,rfl,rfl,Nat.le_refl _,fun _ _ _ => rfl⟩
  obtain ⟨hok,htn⟩ := h1.ok.turn (p := q) (fp := [g]) (by rw [e1]; rfl) hkeep (.ow (.sl 1 es) (.slice (some ⟨g,0,none⟩) es.length vs.length) fp) hO hnd trivial (fun b hb => .inl (by simp [hfp b hb]))
  have hone : ∀ x v,R1 w H F x v → R1 w (H.put q (.ow (.sl 1 es) (.slice (some ⟨g,0,none⟩) es.length vs.length) fp)) F (V1.tosr q x) v := fun x v hx => by
    cases x with
    | sb p n k =>
      simp only [V1.tosr]
      split
      · rename_i hp
        have hpq := Nat.eq_of_beq_eq_true hp
        subst hpq
        split
        · obtain ⟨g',t',vs',k1,k2,k3,k4⟩ := hx
          rw [e1] at k1
          simp only [Pc.box.injEq] at k1
          obtain ⟨rfl,rfl,rfl⟩ := k1
          have hn : n = es.length := by omega
          have hvn : vs.length = es.length := by omega
          rw [k4,hn]
          exact ⟨.sl 1 es,fp,by rw [Hs.put_self,hvn]⟩
        · trivial
      · exact R1.killed h1.ok htn hx
    | _ => exact R1.killed h1.ok htn hx
  refine ⟨_,h1.mapk (V1.tosr q) hone hok ((st.objs.map (Ob.mapk (V1.tosr q))).set q (.row 1 es)) (fun p => ?_),fun p b hb => ?_,htn.gh⟩
  · by_cases hpq : p = q
    · subst hpq
      rw [getD_of (x := .row 1 es) (by simp [hqlt])]
      exact ⟨_,_,Hs.put_self _ _ _⟩
    · rw [List.getD_eq_getElem?_getD,List.getElem?_set_ne (Ne.symm hpq),List.getElem?_map]
      have h2 := h1.obs p
      rw [List.getD_eq_getElem?_getD] at h2
      have h3 := Hs.put_ne H (.ow (.sl 1 es) (.slice (some ⟨g,0,none⟩) es.length vs.length) fp) hpq
      cases ho : st.objs[p]? with
      | none => rw [ho] at h2; exact h3.trans h2
      | some ob => rw [ho] at h2; exact RB.mapk hone h3 h2
  · by_cases hpq : p = q
    · subst hpq
      rw [Hs.put_self] at hb
      exact ⟨p,by rw [e1,hfp b hb]; simp [Pc.fp]⟩
    · exact ⟨p,by rw [← Hs.put_ne H _ hpq]; exact hb⟩
section
variable {P : Program} {ops : Array Oper} {o : Oper} {st : St} {n : Nat} {t t' : TypeId} {y z : Operand} {ps qs : List Nat}
/-- Data that is not empty is not nil. -/
theorem q_slnil {kk : Nat} {es : List (List T)} {e : TypeId} {zs : List Value} {by_ : Nat} [hm : TyMake P t e zs by_] (ho : o.op = .binOp .eql t y z t') (hg : o.guard = none) (hy : st.ev y = .o (.c (.rd ps (.sl kk es)))) (hz : st.ev z = .o (.c (.rd qs (.v (.slice none 0 0))))) (hne : 0 < es.length) : Qt P ops o st (B false) [] n :=
  .pure hg fun a w H F hr => ⟨.bool false,by
    have h2 := hr.plain hz
    have h1 : RO w (inP H F ps) (.sl kk es) (a.eval y) := hr.v1 hy
    obtain ⟨b,o',c,hv,_⟩ := RO.at_ h1 (i := 0) (List.getElem?_eq_getElem hne)
    simp [execOp,ho,h2,hv,eqGuard,Lib.run_eql_slice_nil (P := P) (h := hm.slice)],plainV _ rfl⟩
end
end Go.Proofs.Ytmljakmaffbnlaa
end

section
set_option linter.unusedSimpArgs false
set_option linter.unusedVariables false
set_option maxRecDepth 8000
namespace Go.Proofs.Ytmljakmaffbnlaa
open Go.RowKit

theorem W_pre {st st' : St} {f : List (Nat × V) → St} (h : Wk st st') (k : ∃ l,Wk st' (f l)) : ∃ l,Wk st (f l) := k.imp fun _ hl => h.trans hl
theorem row2b {k : Nat} {o : Ob} {a b : List (List T)} (h : a = b) : [o,Ob.row k a] = [o,Ob.row k b] := by rw [h]
def bodyInts (b : TBody) : List Int := [b.Kind,b.Owner,b.X,b.Y,b.VX,b.VY,b.Aim,b.Life,b.Timer]
def worldInts (w : TWorld) : List Int := ([w.Tick,w.Seed,(w.Scores.length : Int)] ++ w.Scores) ++ w.Bodies.flatMap bodyInts
noncomputable def worldBytes (w : TWorld) : ByteArray := if worldOk w = true then packInts (worldInts w) else ⟨#[]⟩
theorem els_app {α : Type} [Enc α] (xs ys : List α) : els (xs ++ ys) = els xs ++ els ys := List.map_append
theorem flat_snoc {bs : List TBody} {k : Nat} (h : k < bs.length) : (bs.take (k + 1)).flatMap bodyInts = (bs.take k).flatMap bodyInts ++ bodyInts bs[k] := by
  rw [List.take_succ_eq_append_getElem h,List.flatMap_append]
  simp
theorem flat_len (bs : List TBody) : ∀ k,k ≤ bs.length → ((bs.take k).flatMap bodyInts).length = 9 * k
  | 0,_ => by simp
  | k + 1,h => by
    rw [flat_snoc (by omega),List.length_append,flat_len bs k (by omega)]
    simp [bodyInts]
    omega
theorem flat_gd {bs : List TBody} (hg : ∀ b ∈ bs,Enc.gd b) : ∀ x ∈ bs.flatMap bodyInts,I64 x := fun x hx => by
  obtain ⟨b,hb,hx⟩ := List.mem_flatMap.1 hx
  obtain ⟨b1,b2,b3,b4,b5,b6,b7,b8,b9⟩ := hg b hb
  simp only [bodyInts,List.mem_cons,List.not_mem_nil,or_false] at hx
  rcases hx with rfl | rfl | rfl | rfl | rfl | rfl | rfl | rfl | rfl <;> assumption
set_option maxHeartbeats 8000000 in
theorem I_bodyInts (b : TBody) : Con Try.prog 78 [] [ag b] [.row 1 (els (bodyInts b))] (.o (.c (.ref 0))) := by
  refine Con.of Try.func78 rfl Try.ntmps78 rfl (fun E => ?_)
  refine A_seq (A_region ?_);refine M1 (q_boxN rfl rfl rfl rfl) rfl rfl ?_;refine M0 (q_assignC rfl rfl rfl) rfl rfl ?_;refine L_nil (T_n (A_seq ?_))
  refine A_region ?_;refine M0 (q_fldp rfl rfl rfl rfl (by decide)) rfl rfl ?_;refine M0 (q_ld1 rfl rfl rfl rfl rfl) rfl rfl ?_;refine M0 (q_fldp rfl rfl rfl rfl (by decide)) rfl rfl ?_
  refine M0 (q_ld1 rfl rfl rfl rfl rfl) rfl rfl ?_;refine M0 (q_fldp rfl rfl rfl rfl (by decide)) rfl rfl ?_;refine M0 (q_ld1 rfl rfl rfl rfl rfl) rfl rfl ?_
  refine M0 (q_fldp rfl rfl rfl rfl (by decide)) rfl rfl ?_;refine M0 (q_ld1 rfl rfl rfl rfl rfl) rfl rfl ?_;refine M0 (q_fldp rfl rfl rfl rfl (by decide)) rfl rfl ?_
  refine M0 (q_ld1 rfl rfl rfl rfl rfl) rfl rfl ?_;refine M0 (q_fldp rfl rfl rfl rfl (by decide)) rfl rfl ?_;refine M0 (q_ld1 rfl rfl rfl rfl rfl) rfl rfl ?_
  refine M0 (q_fldp rfl rfl rfl rfl (by decide)) rfl rfl ?_;refine M0 (q_ld1 rfl rfl rfl rfl rfl) rfl rfl ?_;refine M0 (q_fldp rfl rfl rfl rfl (by decide)) rfl rfl ?_
  refine M0 (q_ld1 rfl rfl rfl rfl rfl) rfl rfl ?_;refine M0 (q_fldp rfl rfl rfl rfl (by decide)) rfl rfl ?_;refine M0 (q_ld1 rfl rfl rfl rfl rfl) rfl rfl ?_
  refine M1 (q_bslice rfl rfl rfl rfl rfl rfl) rfl rfl ?_;refine M0 (q_assignC rfl rfl rfl) rfl rfl ?_;refine L_nil (T_n (A_ret (F_r ?_)))
  exact E_tmp rfl rfl (W_pre (Wk.sbrow (q := 1) rfl rfl (Nat.le_of_ble_eq_true rfl)) (W_end [1] (by decide) rfl rfl rfl))
set_option maxHeartbeats 8000000 in
theorem I_WorldBytes (x : TWorld) (hg : Enc.gd x) : Con Try.prog 40 [] [ag x] [] (S (worldBytes x)) := by
  have hc := I_WorldOk x hg
  obtain ⟨gL,gT,gS,gSc,gB⟩ := hg
  cases ho : worldOk x with
  | false =>
    rw [ho] at hc
    rw [show worldBytes x = ⟨#[]⟩ by rw [worldBytes,ho]; exact if_neg (by decide)]
    refine Con.of Try.func40 rfl Try.ntmps40 rfl (fun E => ?_)
    refine A_seq (A_region ?_);refine M1 (q_boxN rfl rfl rfl rfl) rfl rfl ?_;refine M0 (q_assignC rfl rfl rfl) rfl rfl ?_;refine L_nil (T_n (A_seq (A_seq ?_)))
    refine A_region ?_;refine M0 (q_ldN rfl rfl rfl rfl rfl rfl) rfl rfl ?_;refine M0 (q_call0 rfl rfl (hc) rfl) rfl rfl ?_;refine M0 (q_not rfl rfl rfl) rfl rfl ?_;refine L_nil ?_
    refine T_n ?_;refine A_ifT rfl ?_;refine A_seq (A_region ?_);refine M0 (q_assignC rfl rfl rfl) rfl rfl ?_;refine L_nil (T_n (A_ret (T_r (F_r ?_))))
    exact E_tmp rfl rfl (W_end [] (by decide) rfl rfl rfl)
  | true =>
    rw [ho] at hc
    rw [show worldBytes x = packInts (worldInts x) by rw [worldBytes,ho]; exact if_pos rfl]
    obtain ⟨_,_,_,hn,_,hb,_⟩ := worldOk_spec ho
    have hls := els_len x.Scores
    have hlb := els_len x.Bodies
    refine Con.of Try.func40 rfl Try.ntmps40 rfl (fun E => ?_)
    refine A_seq (A_region ?_);refine M1 (q_boxN rfl rfl rfl rfl) rfl rfl ?_;refine M0 (q_assignC rfl rfl rfl) rfl rfl ?_;refine L_nil (T_n (A_seq (A_seq ?_)))
    refine A_region ?_;refine M0 (q_ldN rfl rfl rfl rfl rfl rfl) rfl rfl ?_;refine M0 (q_call0 rfl rfl (hc) rfl) rfl rfl ?_;refine M0 (q_not rfl rfl rfl) rfl rfl ?_;refine L_nil ?_
    refine T_n ?_;refine A_ifF rfl ?_;refine A_skip (T_n (A_seq (A_region ?_)));refine M0 (q_fldp rfl rfl rfl rfl (by decide)) rfl rfl ?_
    refine M0 (q_ld1 rfl rfl rfl rfl rfl) rfl rfl ?_;refine M0 (q_fldp rfl rfl rfl rfl (by decide)) rfl rfl ?_;refine M0 (q_ld1 rfl rfl rfl rfl rfl) rfl rfl ?_
    refine M0 (q_fldp rfl rfl rfl rfl (by decide)) rfl rfl ?_;refine M0 (q_ld1 rfl rfl rfl rfl rfl) rfl rfl ?_;refine M0 (q_len rfl rfl rfl) rfl rfl ?_
    refine M1 (q_bslice rfl rfl rfl rfl rfl rfl) rfl rfl ?_;refine M0 (q_assignC rfl rfl rfl) rfl rfl ?_;refine L_nil (T_n (A_seq (A_region ?_)))
    refine M0 (q_moveC rfl rfl rfl) rfl rfl ?_;refine M0 (q_fldp rfl rfl rfl rfl (by decide)) rfl rfl ?_;refine M0 (q_ld1 rfl rfl rfl rfl rfl) rfl rfl ?_
    have hl3 : (els [x.Tick,x.Seed,((els x.Scores).length : Int)]).length = 3 := rfl
    refine AL.weak (Wk.sbrow (q := 1) (es := els [x.Tick,x.Seed,((els x.Scores).length : Int)]) rfl rfl (Nat.le_of_ble_eq_true rfl)) ?_
    refine AL.weak (st' := (⟨_,[(1,.o (.c (.ptr 0 0))),(17,.o (.c (.ref 1))),(19,L x.Scores)],[.box ((Enc.e x).map (V1.rd [])),.row 1 (els [x.Tick,x.Seed,((els x.Scores).length : Int)])]⟩ : St)) (W_go [0,1] (by decide) rfl (rfl) (.cons rfl (.cons rfl (.cons rfl (.nil))))) ?_
    refine M_app rfl rfl rfl rfl rfl rfl rfl rfl rfl rfl (els_plain _) (els_k _) (by omega) (by omega) ?_;refine M0 (q_assignC rfl rfl rfl) rfl rfl ?_;refine L_nil (T_n ?_)
    refine A_seq (A_seq (A_region ?_));refine M0 (q_fldp rfl rfl rfl rfl (by decide)) rfl rfl ?_;refine M0 (q_ld1 rfl rfl rfl rfl rfl) rfl rfl ?_
    refine M0 (q_len rfl rfl rfl) rfl rfl ?_;refine M0 (q_moveC rfl rfl rfl) rfl rfl ?_;refine L_nil (T_n (A_block ?_))
    have hini : els (([x.Tick,x.Seed,(x.Scores.length : Int)] ++ x.Scores) ++ (x.Bodies.take 0).flatMap bodyInts) = els [x.Tick,x.Seed,((els x.Scores).length : Int)] ++ els x.Scores := by rw [List.take_zero,List.flatMap_nil,List.append_nil,els_app,hls]
    refine A_loop (fun m st => ∃ k : Nat,k + m = x.Bodies.length ∧ (True) ∧ st = (fun k : Nat => (⟨_,[(1,.o (.c (.ptr 0 0))),(3,.o (.c (.ref 1))),(22,L x.Bodies),(23,I (els x.Bodies).length),(24,I k)],[.box ((Enc.e x).map (V1.rd [])),.row 1 (els (([x.Tick,x.Seed,(x.Scores.length : Int)] ++ x.Scores) ++ (x.Bodies.take k).flatMap bodyInts))]⟩ : St)) k) (x.Bodies.length) ⟨(fun k : Nat => (⟨_,[(1,.o (.c (.ptr 0 0))),(3,.o (.c (.ref 1))),(22,L x.Bodies),(23,I (els x.Bodies).length),(24,I k)],[.box ((Enc.e x).map (V1.rd [])),.row 1 (els (([x.Tick,x.Seed,(x.Scores.length : Int)] ++ x.Scores) ++ (x.Bodies.take k).flatMap bodyInts))]⟩ : St)) 0,W_go [0,1] (by decide) rfl (row2b hini) (.cons rfl (.cons rfl (.cons rfl (.cons rfl (.cons rfl (.nil)))))),0,by omega,trivial,rfl⟩ ?_
    rintro m_A _ ⟨k,hk_A,hp_A,rfl⟩
    have hla := els_len (([x.Tick,x.Seed,(x.Scores.length : Int)] ++ x.Scores) ++ (x.Bodies.take k).flatMap bodyInts)
    have hfl := flat_len x.Bodies k (by omega)
    have hlc : (([x.Tick,x.Seed,(x.Scores.length : Int)] ++ x.Scores) ++ (x.Bodies.take k).flatMap bodyInts).length = 3 + x.Scores.length + 9 * k := by
      rw [List.length_append,List.length_append,hfl]; rfl
    refine A_seq (A_region ?_);refine M0 (q_lss rfl rfl rfl rfl) rfl rfl ?_;refine L_nil (T_n (A_seq ?_))
    refine A_cond rfl (fun h => ?_) (fun h => ?_)
    · have h3 : k < x.Bodies.length := by have := of_decide_eq_true h; omega
      have hat := els_at h3
      have hlb9 : (els (bodyInts x.Bodies[k])).length = 9 := rfl
      refine A_skip (T_n (A_seq (A_block (A_seq (A_region ?_)))));refine M0 (q_at rfl rfl rfl rfl (by omega) (by assumption) rfl) rfl rfl ?_
      refine M0 (q_lrN rfl rfl rfl rfl rfl) rfl rfl ?_;refine M1 (q_alloc rfl rfl rfl) rfl rfl ?_;refine M_stN rfl rfl rfl rfl rfl rfl rfl rfl rfl ?_;refine L_nil (T_n ?_)
      refine A_region ?_;refine M0 (q_moveC rfl rfl rfl) rfl rfl ?_;refine M0 (q_ldN rfl rfl rfl rfl rfl rfl) rfl rfl ?_
      refine M1 (q_call rfl rfl (I_bodyInts x.Bodies[k]) rfl rfl rfl) rfl rfl ?_;refine M_app rfl rfl rfl rfl rfl rfl rfl rfl rfl rfl (els_plain _) (els_k _) (by omega) (by omega) ?_
      refine M0 (q_assignC rfl rfl rfl) rfl rfl ?_;refine L_nil (B_n (T_n (A_region ?_)));refine M0 (q_add rfl rfl rfl rfl (by omega)) rfl rfl ?_
      refine M0 (q_moveC rfl rfl rfl) rfl rfl ?_;refine L_nil (T_n ?_)
      exact ⟨x.Bodies.length - (k + 1),by omega,(fun k : Nat => (⟨_,[(1,.o (.c (.ptr 0 0))),(3,.o (.c (.ref 1))),(22,L x.Bodies),(23,I (els x.Bodies).length),(24,I k)],[.box ((Enc.e x).map (V1.rd [])),.row 1 (els (([x.Tick,x.Seed,(x.Scores.length : Int)] ++ x.Scores) ++ (x.Bodies.take k).flatMap bodyInts))]⟩ : St)) (k + 1),W_go [0,1] (by decide) rfl (row2b (by rw [flat_snoc h3,← List.append_assoc,els_app _ (bodyInts x.Bodies[k])])) (.cons rfl (.cons rfl (.cons rfl (.cons rfl (.cons rfl (.nil)))))),k + 1,by omega,trivial,rfl⟩
    · have h3 : ¬ k < x.Bodies.length := by have := of_decide_eq_false h; omega
      have hk : x.Bodies.take k = x.Bodies := List.take_of_length_le (by omega)
      rw [hk] at hlc hla ⊢
      have hgi : Enc.gd (([x.Tick,x.Seed,(x.Scores.length : Int)] ++ x.Scores) ++ x.Bodies.flatMap bodyInts) := ⟨by omega,fun y hy => by
        rcases List.mem_append.1 hy with hy | hy
        · rcases List.mem_append.1 hy with hy | hy
          · simp only [List.mem_cons,List.not_mem_nil,or_false] at hy
            rcases hy with rfl | rfl | rfl
            · exact gT
            · exact gS
            · exact ⟨by omega,by omega⟩
          · exact gSc.2 y hy
        · exact flat_gd gB.2 y hy⟩
      have hp := I_PackInts (([x.Tick,x.Seed,(x.Scores.length : Int)] ++ x.Scores) ++ x.Bodies.flatMap bodyInts) hgi (by omega)
      refine A_exit (T_x (T_x (B_xs (T_n (A_seq (A_region ?_))))));refine M0 (q_moveC rfl rfl rfl) rfl rfl ?_
      refine M0 (q_call0 rfl rfl (hp) rfl) rfl rfl ?_;refine M0 (q_assignC rfl rfl rfl) rfl rfl ?_;refine L_nil (T_n (A_ret (F_r ?_)))
      exact E_tmp rfl rfl (W_end [] (by decide) rfl rfl rfl)
set_option maxHeartbeats 8000000 in
theorem S_WorldBytes (x : TWorld) (hg : Enc.gd x) : Con Try.prog 33 [] [ag x] [] (S (worldBytes x)) := by
  have hc := S_WorldOk x hg
  obtain ⟨gL,gT,gS,gSc,gB⟩ := hg
  cases ho : worldOk x with
  | false =>
    rw [ho] at hc
    rw [show worldBytes x = ⟨#[]⟩ by rw [worldBytes,ho]; exact if_neg (by decide)]
    refine Con.of Try.func33 rfl Try.ntmps33 rfl (fun E => ?_)
    refine A_seq (A_region ?_);refine M1 (q_boxN rfl rfl rfl rfl) rfl rfl ?_;refine M0 (q_assignC rfl rfl rfl) rfl rfl ?_;refine L_nil (T_n (A_seq (A_seq ?_)))
    refine A_region ?_;refine M0 (q_ldN rfl rfl rfl rfl rfl rfl) rfl rfl ?_;refine M0 (q_call0 rfl rfl (hc) rfl) rfl rfl ?_;refine M0 (q_not rfl rfl rfl) rfl rfl ?_;refine L_nil ?_
    refine T_n ?_;refine A_ifT rfl ?_;refine A_seq (A_region ?_);refine M0 (q_assignC rfl rfl rfl) rfl rfl ?_;refine L_nil (T_n (A_ret (T_r (F_r ?_))))
    exact E_tmp rfl rfl (W_end [] (by decide) rfl rfl rfl)
  | true =>
    rw [ho] at hc
    rw [show worldBytes x = packInts (worldInts x) by rw [worldBytes,ho]; exact if_pos rfl]
    obtain ⟨_,_,_,hn,_,hb,_⟩ := worldOk_spec ho
    have hls := els_len x.Scores
    have hlb := els_len x.Bodies
    refine Con.of Try.func33 rfl Try.ntmps33 rfl (fun E => ?_)
    refine A_seq (A_region ?_);refine M1 (q_boxN rfl rfl rfl rfl) rfl rfl ?_;refine M0 (q_assignC rfl rfl rfl) rfl rfl ?_;refine L_nil (T_n (A_seq (A_seq ?_)))
    refine A_region ?_;refine M0 (q_ldN rfl rfl rfl rfl rfl rfl) rfl rfl ?_;refine M0 (q_call0 rfl rfl (hc) rfl) rfl rfl ?_;refine M0 (q_not rfl rfl rfl) rfl rfl ?_;refine L_nil ?_
    refine T_n ?_;refine A_ifF rfl ?_;refine A_skip (T_n (A_seq (A_region ?_)));refine M0 (q_fldp rfl rfl rfl rfl (by decide)) rfl rfl ?_
    refine M0 (q_ld1 rfl rfl rfl rfl rfl) rfl rfl ?_;refine M0 (q_fldp rfl rfl rfl rfl (by decide)) rfl rfl ?_;refine M0 (q_ld1 rfl rfl rfl rfl rfl) rfl rfl ?_
    refine M0 (q_fldp rfl rfl rfl rfl (by decide)) rfl rfl ?_;refine M0 (q_ld1 rfl rfl rfl rfl rfl) rfl rfl ?_;refine M0 (q_len rfl rfl rfl) rfl rfl ?_
    refine M1 (q_bslice rfl rfl rfl rfl rfl rfl) rfl rfl ?_;refine M0 (q_fldp rfl rfl rfl rfl (by decide)) rfl rfl ?_;refine M0 (q_ld1 rfl rfl rfl rfl rfl) rfl rfl ?_
    have hl3 : (els [x.Tick,x.Seed,((els x.Scores).length : Int)]).length = 3 := rfl
    refine AL.weak (Wk.sbrow (q := 1) (es := els [x.Tick,x.Seed,((els x.Scores).length : Int)]) rfl rfl (Nat.le_of_ble_eq_true rfl)) ?_
    refine AL.weak (st' := (⟨_,[(1,.o (.c (.ptr 0 0))),(16,.o (.c (.ref 1))),(18,L x.Scores)],[.box ((Enc.e x).map (V1.rd [])),.row 1 (els [x.Tick,x.Seed,((els x.Scores).length : Int)])]⟩ : St)) (W_go [0,1] (by decide) rfl (rfl) (.cons rfl (.cons rfl (.cons rfl (.nil))))) ?_
    refine M_app rfl rfl rfl rfl rfl rfl rfl rfl rfl rfl (els_plain _) (els_k _) (by omega) (by omega) ?_;refine M0 (q_assignC rfl rfl rfl) rfl rfl ?_;refine L_nil (T_n ?_)
    refine A_seq (A_seq (A_region ?_));refine M0 (q_assignC rfl rfl rfl) rfl rfl ?_;refine L_nil (T_n (A_block ?_))
    have hini : els (([x.Tick,x.Seed,(x.Scores.length : Int)] ++ x.Scores) ++ (x.Bodies.take 0).flatMap bodyInts) = els [x.Tick,x.Seed,((els x.Scores).length : Int)] ++ els x.Scores := by rw [List.take_zero,List.flatMap_nil,List.append_nil,els_app,hls]
    refine A_loop (fun m st => ∃ k : Nat,k + m = x.Bodies.length ∧ (True) ∧ st = (fun k : Nat => (⟨_,[(1,.o (.c (.ptr 0 0))),(3,.o (.c (.ref 1))),(4,I k)],[.box ((Enc.e x).map (V1.rd [])),.row 1 (els (([x.Tick,x.Seed,(x.Scores.length : Int)] ++ x.Scores) ++ (x.Bodies.take k).flatMap bodyInts))]⟩ : St)) k) (x.Bodies.length) ⟨(fun k : Nat => (⟨_,[(1,.o (.c (.ptr 0 0))),(3,.o (.c (.ref 1))),(4,I k)],[.box ((Enc.e x).map (V1.rd [])),.row 1 (els (([x.Tick,x.Seed,(x.Scores.length : Int)] ++ x.Scores) ++ (x.Bodies.take k).flatMap bodyInts))]⟩ : St)) 0,W_go [0,1] (by decide) rfl (row2b hini) (.cons rfl (.cons rfl (.cons rfl (.nil)))),0,by omega,trivial,rfl⟩ ?_
    rintro m_A _ ⟨k,hk_A,hp_A,rfl⟩
    have hla := els_len (([x.Tick,x.Seed,(x.Scores.length : Int)] ++ x.Scores) ++ (x.Bodies.take k).flatMap bodyInts)
    have hfl := flat_len x.Bodies k (by omega)
    have hlc : (([x.Tick,x.Seed,(x.Scores.length : Int)] ++ x.Scores) ++ (x.Bodies.take k).flatMap bodyInts).length = 3 + x.Scores.length + 9 * k := by
      rw [List.length_append,List.length_append,hfl]; rfl
    refine A_seq (A_seq (A_region ?_));refine M0 (q_moveC rfl rfl rfl) rfl rfl ?_;refine M0 (q_fldp rfl rfl rfl rfl (by decide)) rfl rfl ?_
    refine M0 (q_ld1 rfl rfl rfl rfl rfl) rfl rfl ?_;refine M0 (q_len rfl rfl rfl) rfl rfl ?_;refine M0 (q_lss rfl rfl rfl rfl) rfl rfl ?_;refine L_nil (T_n ?_)
    refine A_cond rfl (fun h => ?_) (fun h => ?_)
    · have h3 : k < x.Bodies.length := by have := of_decide_eq_true h; omega
      have hat := els_at h3
      have hlb9 : (els (bodyInts x.Bodies[k])).length = 9 := rfl
      refine A_skip (T_n (A_seq (A_block (A_seq (A_region ?_)))));refine M0 (q_fldp rfl rfl rfl rfl (by decide)) rfl rfl ?_
      refine M0 (q_ld1 rfl rfl rfl rfl rfl) rfl rfl ?_;refine M0 (q_moveC rfl rfl rfl) rfl rfl ?_;refine M0 (q_at rfl rfl rfl rfl (by omega) (by assumption) rfl) rfl rfl ?_
      refine M0 (q_lrN rfl rfl rfl rfl rfl) rfl rfl ?_;refine M1 (q_alloc rfl rfl rfl) rfl rfl ?_;refine M_stN rfl rfl rfl rfl rfl rfl rfl rfl rfl ?_;refine L_nil (T_n ?_)
      refine A_region ?_;refine M0 (q_moveC rfl rfl rfl) rfl rfl ?_;refine M0 (q_fldp rfl rfl rfl rfl (by decide)) rfl rfl ?_;refine M0 (q_ld1 rfl rfl rfl rfl rfl) rfl rfl ?_
      refine M0 (q_fldp rfl rfl rfl rfl (by decide)) rfl rfl ?_;refine M0 (q_ld1 rfl rfl rfl rfl rfl) rfl rfl ?_;refine M0 (q_fldp rfl rfl rfl rfl (by decide)) rfl rfl ?_
      refine M0 (q_ld1 rfl rfl rfl rfl rfl) rfl rfl ?_;refine M0 (q_fldp rfl rfl rfl rfl (by decide)) rfl rfl ?_;refine M0 (q_ld1 rfl rfl rfl rfl rfl) rfl rfl ?_
      refine M0 (q_fldp rfl rfl rfl rfl (by decide)) rfl rfl ?_;refine M0 (q_ld1 rfl rfl rfl rfl rfl) rfl rfl ?_;refine M0 (q_fldp rfl rfl rfl rfl (by decide)) rfl rfl ?_
      refine M0 (q_ld1 rfl rfl rfl rfl rfl) rfl rfl ?_;refine M0 (q_fldp rfl rfl rfl rfl (by decide)) rfl rfl ?_;refine M0 (q_ld1 rfl rfl rfl rfl rfl) rfl rfl ?_
      refine M0 (q_fldp rfl rfl rfl rfl (by decide)) rfl rfl ?_;refine M0 (q_ld1 rfl rfl rfl rfl rfl) rfl rfl ?_;refine M0 (q_fldp rfl rfl rfl rfl (by decide)) rfl rfl ?_
      refine M0 (q_ld1 rfl rfl rfl rfl rfl) rfl rfl ?_;refine M1 (q_bslice rfl rfl rfl rfl rfl rfl) rfl rfl ?_
      refine M_appsb rfl rfl rfl rfl rfl rfl rfl rfl rfl rfl (by omega) (by omega) ?_;refine M0 (q_assignC rfl rfl rfl) rfl rfl ?_;refine L_nil (B_n (T_n ?_))
      refine A_region ?_;refine M0 (q_moveC rfl rfl rfl) rfl rfl ?_;refine M0 (q_add rfl rfl rfl rfl (by omega)) rfl rfl ?_;refine M0 (q_assignC rfl rfl rfl) rfl rfl ?_;refine L_nil ?_
      refine T_n ?_
      exact ⟨x.Bodies.length - (k + 1),by omega,(fun k : Nat => (⟨_,[(1,.o (.c (.ptr 0 0))),(3,.o (.c (.ref 1))),(4,I k)],[.box ((Enc.e x).map (V1.rd [])),.row 1 (els (([x.Tick,x.Seed,(x.Scores.length : Int)] ++ x.Scores) ++ (x.Bodies.take k).flatMap bodyInts))]⟩ : St)) (k + 1),W_go [0,1] (by decide) rfl (row2b (by rw [flat_snoc h3,← List.append_assoc,els_app _ (bodyInts x.Bodies[k])]; rfl)) (.cons rfl (.cons rfl (.cons rfl (.nil)))),k + 1,by omega,trivial,rfl⟩
    · have h3 : ¬ k < x.Bodies.length := by have := of_decide_eq_false h; omega
      have hk : x.Bodies.take k = x.Bodies := List.take_of_length_le (by omega)
      rw [hk] at hlc hla ⊢
      have hgi : Enc.gd (([x.Tick,x.Seed,(x.Scores.length : Int)] ++ x.Scores) ++ x.Bodies.flatMap bodyInts) := ⟨by omega,fun y hy => by
        rcases List.mem_append.1 hy with hy | hy
        · rcases List.mem_append.1 hy with hy | hy
          · simp only [List.mem_cons,List.not_mem_nil,or_false] at hy
            rcases hy with rfl | rfl | rfl
            · exact gT
            · exact gS
            · exact ⟨by omega,by omega⟩
          · exact gSc.2 y hy
        · exact flat_gd gB.2 y hy⟩
      have hp := S_PackInts (([x.Tick,x.Seed,(x.Scores.length : Int)] ++ x.Scores) ++ x.Bodies.flatMap bodyInts) hgi (by omega)
      refine A_exit (T_x (T_x (B_xs (T_n (A_seq (A_region ?_))))));refine M0 (q_moveC rfl rfl rfl) rfl rfl ?_
      refine M0 (q_call0 rfl rfl (hp) rfl) rfl rfl ?_;refine M0 (q_assignC rfl rfl rfl) rfl rfl ?_;refine L_nil (T_n (A_ret (F_r ?_)))
      exact E_tmp rfl rfl (W_end [] (by decide) rfl rfl rfl)
end Go.Proofs.Ytmljakmaffbnlaa
end

section
set_option linter.unusedSimpArgs false
set_option linter.unusedVariables false
namespace Go.Proofs.Ytmljakmaffbnlaa
open Go.RowKit

def replayOk (r : TReplay) : Bool := levelOk r.Level && inR r.Players 1 4 && inR r.Seed 0 65535 && inR r.Every 1 100 && decide (r.Rows.length ≤ 400) && (r.Rows.all fun row => rowOk row r.Players) && decide ((r.Keys.length : Int) = (r.Rows.length : Int) / r.Every)
theorem replay_no {r : TReplay} (h : ((!levelOk r.Level || !inR r.Players 1 4) || !inR r.Seed 0 65535) = true ∨ ((!inR r.Every 1 100) || decide (400 < (r.Rows.length : Int))) = true ∨ (r.Rows.all fun row => rowOk row r.Players) = false) : replayOk r = false := by
  unfold replayOk
  rcases h with h | h | h
  · simp only [Bool.or_eq_true,Bool.not_eq_true'] at h
    rcases h with (h | h) | h <;> simp [h]
  · simp only [Bool.or_eq_true,Bool.not_eq_true',decide_eq_true_eq] at h
    rcases h with h | h
    · simp [h]
    · simp [show ¬ r.Rows.length ≤ 400 by omega]
  · simp [h]
theorem replay_yes {r : TReplay} (h1 : ((!levelOk r.Level || !inR r.Players 1 4) || !inR r.Seed 0 65535) = false) (h2 : ((!inR r.Every 1 100) || decide (400 < (r.Rows.length : Int))) = false) (h3 : (r.Rows.all fun row => rowOk row r.Players) = true) : replayOk r = decide ((r.Keys.length : Int) = (r.Rows.length : Int) / r.Every) := by
  simp only [Bool.or_eq_false_iff,Bool.not_eq_false',decide_eq_false_iff_not] at h1 h2
  unfold replayOk
  rw [h3]
  simp [h1,h2,show r.Rows.length ≤ 400 by omega]

set_option maxHeartbeats 4000000 in
theorem I_ReplayOk (x : TReplay) (hg : Enc.gd x) : Con Try.prog 38 [] [ag x] [] (B (replayOk x)) := by
  obtain ⟨g_Level,g_Players,g_Seed,g_Every,g_Rows,g_Keys⟩ := hg
  have g1 := g_Rows.1
  have g2 := g_Keys.1
  have hlr := els_len x.Rows
  have hlk := els_len x.Keys
  have cl := I_LevelOk x.Level g_Level
  refine Con.of Try.func38 rfl Try.ntmps38 rfl (fun E => ?_)
  refine A_seq (A_region ?_);refine M1 (q_boxN rfl rfl rfl rfl) rfl rfl ?_;refine M0 (q_assignC rfl rfl rfl) rfl rfl ?_;refine L_nil (T_n (A_seq (A_seq ?_)))
  refine A_region ?_;refine M0 (q_fldp rfl rfl rfl rfl (by decide)) rfl rfl ?_;refine M0 (q_ldN rfl rfl rfl rfl rfl rfl) rfl rfl ?_;refine M0 (q_call0 rfl rfl (cl) rfl) rfl rfl ?_
  refine M0 (q_not rfl rfl rfl) rfl rfl ?_;refine M0 (q_moveC rfl rfl rfl) rfl rfl ?_;refine M0 (Qt.grdF rfl rfl rfl .stop (fun hgrd => q_fldp rfl rfl rfl rfl (by decide))) rfl rfl ?_
  refine M0 (Qt.grdF rfl rfl rfl (.hit .stop) (fun hgrd => q_ld1 rfl rfl rfl rfl rfl)) rfl rfl ?_
  refine M0 (Qt.grdF rfl rfl rfl (.hit (.hit .stop)) (fun hgrd => q_call0 rfl rfl (I_between x.Players 1 4) rfl)) rfl rfl ?_
  refine M0 (Qt.grdF rfl rfl rfl (.hit (.hit (.hit .stop))) (fun hgrd => q_not rfl rfl rfl)) rfl rfl ?_;refine M0 (q_or rfl rfl rfl rfl) rfl rfl ?_
  refine M0 (q_moveC rfl rfl rfl) rfl rfl ?_;refine M0 (Qt.grdF rfl rfl rfl .stop (fun hgrd => q_fldp rfl rfl rfl rfl (by decide))) rfl rfl ?_
  refine M0 (Qt.grdF rfl rfl rfl (.hit .stop) (fun hgrd => q_ld1 rfl rfl rfl rfl rfl)) rfl rfl ?_
  refine M0 (Qt.grdF rfl rfl rfl (.hit (.hit .stop)) (fun hgrd => q_call0 rfl rfl (I_between x.Seed 0 65535) rfl)) rfl rfl ?_
  refine M0 (Qt.grdF rfl rfl rfl (.hit (.hit (.hit .stop))) (fun hgrd => q_not rfl rfl rfl)) rfl rfl ?_;refine M0 (q_or rfl rfl rfl rfl) rfl rfl ?_;refine L_nil (T_n ?_)
  refine A_cond rfl (fun h1 => ?_) (fun h1 => ?_)
  · refine A_seq (A_region ?_);refine M0 (q_assignC rfl rfl rfl) rfl rfl ?_;refine L_nil (T_n (A_ret (T_r (F_r ?_))))
    exact E_tmp rfl rfl (W_end [] (by decide) rfl rfl (B_eq (replay_no (.inl h1)).symm))
  refine AWP.pre (st' := (⟨_,[(1,.o (.c (.ptr 0 0)))],[.box ((Enc.e x).map (V1.rd []))]⟩ : St)) ?_ (W_go [0] (by decide) rfl (rfl) (.cons rfl (.nil)))
  refine A_skip (T_n (A_seq (A_seq (A_region ?_))));refine M0 (q_fldp rfl rfl rfl rfl (by decide)) rfl rfl ?_
  refine M0 (q_ld1 rfl rfl rfl rfl rfl) rfl rfl ?_;refine M0 (q_call0 rfl rfl (I_between x.Every 1 100) rfl) rfl rfl ?_;refine M0 (q_not rfl rfl rfl) rfl rfl ?_
  refine M0 (q_moveC rfl rfl rfl) rfl rfl ?_;refine M0 (Qt.grdF rfl rfl rfl .stop (fun hgrd => q_fldp rfl rfl rfl rfl (by decide))) rfl rfl ?_
  refine M0 (Qt.grdF rfl rfl rfl (.hit .stop) (fun hgrd => q_ld1 rfl rfl rfl rfl rfl)) rfl rfl ?_
  refine M0 (Qt.grdF rfl rfl rfl (.hit (.hit .stop)) (fun hgrd => q_len rfl rfl rfl)) rfl rfl ?_
  refine M0 (Qt.grdF rfl rfl rfl (.hit (.hit (.hit .stop))) (fun hgrd => q_gtr rfl rfl rfl rfl)) rfl rfl ?_;refine M0 (q_or rfl rfl rfl rfl) rfl rfl ?_;refine L_nil (T_n ?_)
  refine A_cond rfl (fun h2 => ?_) (fun h2 => ?_)
  · refine A_seq (A_region ?_);refine M0 (q_assignC rfl rfl rfl) rfl rfl ?_;refine L_nil (T_n (A_ret (T_r (F_r ?_))))
    exact E_tmp rfl rfl (W_end [] (by decide) rfl rfl (B_eq (replay_no (.inr (.inl (by rwa [hlr] at h2)))).symm))
  rw [hlr] at h2
  have hE : 1 ≤ x.Every := by
    simp only [Bool.or_eq_false_iff,Bool.not_eq_false',inR_iff] at h2
    exact h2.1.1
  refine A_skip (T_n (A_seq (A_seq (A_region ?_))));refine M0 (q_fldp rfl rfl rfl rfl (by decide)) rfl rfl ?_
  refine M0 (q_ld1 rfl rfl rfl rfl rfl) rfl rfl ?_;refine M0 (q_len rfl rfl rfl) rfl rfl ?_;refine M0 (q_moveC rfl rfl rfl) rfl rfl ?_;refine L_nil (T_n (A_block ?_))
  refine A_loop (fun m st => ∃ k : Nat,k + m = x.Rows.length ∧ ((x.Rows.take k).all (fun row => rowOk row x.Players) = true) ∧ st = (fun k : Nat => (⟨_,[(1,.o (.c (.ptr 0 0))),(32,L x.Rows),(33,I (els x.Rows).length),(34,I k)],[.box ((Enc.e x).map (V1.rd []))]⟩ : St)) k) (x.Rows.length) ⟨(fun k : Nat => (⟨_,[(1,.o (.c (.ptr 0 0))),(32,L x.Rows),(33,I (els x.Rows).length),(34,I k)],[.box ((Enc.e x).map (V1.rd []))]⟩ : St)) 0,W_go [0] (by decide) rfl (rfl) (.cons rfl (.cons rfl (.cons rfl (.cons rfl (.nil))))),0,by omega,by simp,rfl⟩ ?_
  rintro m_A _ ⟨k,hk_A,hp_A,rfl⟩
  refine A_seq (A_region ?_);refine M0 (q_lss rfl rfl rfl rfl) rfl rfl ?_;refine L_nil (T_n (A_seq ?_))
  refine A_cond rfl (fun h => ?_) (fun h => ?_)
  · have h3 : k < x.Rows.length := by have := of_decide_eq_true h; omega
    have hat := els_at h3
    have hc := I_rowOk x.Rows[k] x.Players (g_Rows.2 _ (List.getElem_mem h3))
    refine A_skip (T_n (A_seq (A_block (A_seq (A_region ?_)))));refine M0 (q_at rfl rfl rfl rfl (by omega) (by assumption) rfl) rfl rfl ?_
    refine M0 (q_lr1 rfl rfl rfl rfl) rfl rfl ?_;refine M0 (q_assignC rfl rfl rfl) rfl rfl ?_;refine L_nil (T_n (A_seq (A_region ?_)))
    refine M0 (q_moveC rfl rfl rfl) rfl rfl ?_;refine M0 (q_fldp rfl rfl rfl rfl (by decide)) rfl rfl ?_;refine M0 (q_ld1 rfl rfl rfl rfl rfl) rfl rfl ?_
    refine M0 (q_call0 rfl rfl (hc) rfl) rfl rfl ?_;refine M0 (q_not rfl rfl rfl) rfl rfl ?_;refine L_nil (T_n ?_)
    refine A_cond rfl (fun h4 => ?_) (fun h4 => ?_)
    · refine A_seq (A_region ?_);refine M0 (q_assignC rfl rfl rfl) rfl rfl ?_;refine L_nil (T_n (A_ret (B_r (T_r (T_r (B_r ?_))))))
      refine T_r (F_r ?_)
      exact E_tmp rfl rfl (W_end [] (by decide) rfl rfl (B_eq (replay_no (.inr (.inr (all_no h3 (by simpa using h4))))).symm))
    · refine A_skip (B_n (T_n (A_region ?_)));refine M0 (q_add rfl rfl rfl rfl (by omega)) rfl rfl ?_;refine M0 (q_moveC rfl rfl rfl) rfl rfl ?_;refine L_nil ?_
      refine T_n ?_
      exact ⟨x.Rows.length - (k + 1),by omega,(fun k : Nat => (⟨_,[(1,.o (.c (.ptr 0 0))),(32,L x.Rows),(33,I (els x.Rows).length),(34,I k)],[.box ((Enc.e x).map (V1.rd []))]⟩ : St)) (k + 1),W_go [0] (by decide) rfl (rfl) (.cons rfl (.cons rfl (.cons rfl (.cons rfl (.nil))))),k + 1,by omega,all_next hp_A h3 (by simpa using h4),rfl⟩
  · have h3 : ¬ ((k : Int) < (els x.Rows).length) := of_decide_eq_false h
    refine A_exit (T_x (T_x (B_xs (T_n (A_seq ?_)))))
    refine A_draw [[],[0],[0,1],[],[3],[3,4],[],[6],[3,4,5,6,7],[0,1,2,3,4,5,6,7,8],[0,1,2,3,4,5,6,7,8,9]] [[],[44],[44,45],[],[47],[47,48],[],[50],[47,48,49,50,51],[44,45,46,47,48,49,50,51,52],[44,45,46,47,48,49,50,51,52,53]] [[47,48,49,50,51,52],[47,48,49,50,51,52],[47,48,49,50,51,52],[44,45,46,50,51],[44,45,46,50,51],[44,45,46,50,51],[44,45,46,47,48,49],[44,45,46,47,48,49],[44,45,46],[],[]] rfl ?_
    refine DR.step (q_fldp rfl rfl rfl rfl (by decide)) rfl rfl ?_;refine DR.step (q_ld1 rfl rfl rfl rfl rfl) rfl rfl ?_;refine DR.step (q_len rfl rfl rfl) rfl rfl ?_
    refine DR.step (q_fldp rfl rfl rfl rfl (by decide)) rfl rfl ?_;refine DR.step (q_ld1 rfl rfl rfl rfl rfl) rfl rfl ?_;refine DR.step (q_len rfl rfl rfl) rfl rfl ?_
    refine DR.step (q_fldp rfl rfl rfl rfl (by decide)) rfl rfl ?_;refine DR.step (q_ld1 rfl rfl rfl rfl rfl) rfl rfl ?_;refine DR.step (q_quo rfl rfl rfl rfl (by omega)) rfl rfl ?_
    refine DR.step (q_eql rfl rfl rfl rfl) rfl rfl ?_;refine DR.step (q_assignC rfl rfl rfl) rfl rfl ?_;refine DR.stop (by kernel_rfl) (by kernel_rfl) ?_
    refine L_nil (T_n (A_ret (F_r ?_)))
    exact E_tmp rfl rfl (W_end [] (by decide) rfl rfl (B_eq (by rw [replay_yes h1 h2 (all_end hp_A (by omega)),hlr,hlk])))
set_option maxHeartbeats 4000000 in
theorem S_ReplayOk (x : TReplay) (hg : Enc.gd x) : Con Try.prog 30 [] [ag x] [] (B (replayOk x)) := by
  obtain ⟨g_Level,g_Players,g_Seed,g_Every,g_Rows,g_Keys⟩ := hg
  have g1 := g_Rows.1
  have g2 := g_Keys.1
  have hlr := els_len x.Rows
  have hlk := els_len x.Keys
  have cl := S_LevelOk x.Level g_Level
  refine Con.of Try.func30 rfl Try.ntmps30 rfl (fun E => ?_)
  refine A_seq (A_region ?_);refine M1 (q_boxN rfl rfl rfl rfl) rfl rfl ?_;refine M0 (q_assignC rfl rfl rfl) rfl rfl ?_;refine L_nil (T_n (A_seq (A_seq ?_)))
  refine A_region ?_;refine M0 (q_fldp rfl rfl rfl rfl (by decide)) rfl rfl ?_;refine M0 (q_ldN rfl rfl rfl rfl rfl rfl) rfl rfl ?_;refine M0 (q_call0 rfl rfl (cl) rfl) rfl rfl ?_
  refine M0 (q_not rfl rfl rfl) rfl rfl ?_;refine M0 (q_moveC rfl rfl rfl) rfl rfl ?_;refine M0 (Qt.grdF rfl rfl rfl .stop (fun hgrd => q_fldp rfl rfl rfl rfl (by decide))) rfl rfl ?_
  refine M0 (Qt.grdF rfl rfl rfl (.hit .stop) (fun hgrd => q_ld1 rfl rfl rfl rfl rfl)) rfl rfl ?_
  refine M0 (Qt.grdF rfl rfl rfl (.hit (.hit .stop)) (fun hgrd => q_call0 rfl rfl (S_in x.Players 1 4) rfl)) rfl rfl ?_
  refine M0 (Qt.grdF rfl rfl rfl (.hit (.hit (.hit .stop))) (fun hgrd => q_not rfl rfl rfl)) rfl rfl ?_;refine M0 (q_or rfl rfl rfl rfl) rfl rfl ?_
  refine M0 (q_moveC rfl rfl rfl) rfl rfl ?_;refine M0 (Qt.grdF rfl rfl rfl .stop (fun hgrd => q_fldp rfl rfl rfl rfl (by decide))) rfl rfl ?_
  refine M0 (Qt.grdF rfl rfl rfl (.hit .stop) (fun hgrd => q_ld1 rfl rfl rfl rfl rfl)) rfl rfl ?_
  refine M0 (Qt.grdF rfl rfl rfl (.hit (.hit .stop)) (fun hgrd => q_call0 rfl rfl (S_in x.Seed 0 65535) rfl)) rfl rfl ?_
  refine M0 (Qt.grdF rfl rfl rfl (.hit (.hit (.hit .stop))) (fun hgrd => q_not rfl rfl rfl)) rfl rfl ?_;refine M0 (q_or rfl rfl rfl rfl) rfl rfl ?_
  refine M0 (q_moveC rfl rfl rfl) rfl rfl ?_;refine M0 (Qt.grdF rfl rfl rfl .stop (fun hgrd => q_fldp rfl rfl rfl rfl (by decide))) rfl rfl ?_
  refine M0 (Qt.grdF rfl rfl rfl (.hit .stop) (fun hgrd => q_ld1 rfl rfl rfl rfl rfl)) rfl rfl ?_
  refine M0 (Qt.grdF rfl rfl rfl (.hit (.hit .stop)) (fun hgrd => q_call0 rfl rfl (S_in x.Every 1 100) rfl)) rfl rfl ?_
  refine M0 (Qt.grdF rfl rfl rfl (.hit (.hit (.hit .stop))) (fun hgrd => q_not rfl rfl rfl)) rfl rfl ?_;refine M0 (q_or rfl rfl rfl rfl) rfl rfl ?_
  refine M0 (q_moveC rfl rfl rfl) rfl rfl ?_;refine M0 (Qt.grdF rfl rfl rfl .stop (fun hgrd => q_fldp rfl rfl rfl rfl (by decide))) rfl rfl ?_
  refine M0 (Qt.grdF rfl rfl rfl (.hit .stop) (fun hgrd => q_ld1 rfl rfl rfl rfl rfl)) rfl rfl ?_
  refine M0 (Qt.grdF rfl rfl rfl (.hit (.hit .stop)) (fun hgrd => q_len rfl rfl rfl)) rfl rfl ?_
  refine M0 (Qt.grdF rfl rfl rfl (.hit (.hit (.hit .stop))) (fun hgrd => q_gtr rfl rfl rfl rfl)) rfl rfl ?_;refine M0 (q_or rfl rfl rfl rfl) rfl rfl ?_;refine L_nil (T_n ?_)
  refine A_cond rfl (fun h1 => ?_) (fun h1 => ?_)
  · rw [hlr,Bool.or_assoc,Bool.or_eq_true] at h1
    refine A_seq (A_region ?_);refine M0 (q_assignC rfl rfl rfl) rfl rfl ?_;refine L_nil (T_n (A_ret (T_r (F_r ?_))))
    exact E_tmp rfl rfl (W_end [] (by decide) rfl rfl (B_eq (replay_no (h1.imp_right .inl)).symm))
  rw [hlr,Bool.or_assoc,Bool.or_eq_false_iff] at h1
  have hE : 1 ≤ x.Every := by
    have h2 := h1.2
    simp only [Bool.or_eq_false_iff,Bool.not_eq_false',inR_iff] at h2
    exact h2.1.1
  refine AWP.pre (st' := (⟨_,[(1,.o (.c (.ptr 0 0)))],[.box ((Enc.e x).map (V1.rd []))]⟩ : St)) ?_ (W_go [0] (by decide) rfl (rfl) (.cons rfl (.nil)))
  refine A_skip (T_n (A_seq (A_seq (A_region ?_))));refine M0 (q_assignC rfl rfl rfl) rfl rfl ?_;refine L_nil (T_n (A_block ?_))
  refine A_loop (fun m st => ∃ k : Nat,k + m = x.Rows.length ∧ ((x.Rows.take k).all (fun row => rowOk row x.Players) = true) ∧ st = (fun k : Nat => (⟨_,[(1,.o (.c (.ptr 0 0))),(3,I k)],[.box ((Enc.e x).map (V1.rd []))]⟩ : St)) k) (x.Rows.length) ⟨(fun k : Nat => (⟨_,[(1,.o (.c (.ptr 0 0))),(3,I k)],[.box ((Enc.e x).map (V1.rd []))]⟩ : St)) 0,W_go [0] (by decide) rfl (rfl) (.cons rfl (.cons rfl (.nil))),0,by omega,by simp,rfl⟩ ?_
  rintro m_A _ ⟨k,hk_A,hp_A,rfl⟩
  refine A_seq (A_seq (A_region ?_));refine M0 (q_moveC rfl rfl rfl) rfl rfl ?_;refine M0 (q_fldp rfl rfl rfl rfl (by decide)) rfl rfl ?_
  refine M0 (q_ld1 rfl rfl rfl rfl rfl) rfl rfl ?_;refine M0 (q_len rfl rfl rfl) rfl rfl ?_;refine M0 (q_lss rfl rfl rfl rfl) rfl rfl ?_;refine L_nil (T_n ?_)
  refine A_cond rfl (fun h => ?_) (fun h => ?_)
  · have h3 : k < x.Rows.length := by have := of_decide_eq_true h; omega
    have hat := els_at h3
    have hc := S_rowOk x.Rows[k] x.Players (g_Rows.2 _ (List.getElem_mem h3))
    refine A_skip (T_n (A_seq (A_block (A_seq ?_))))
    refine A_draw [[],[0],[],[0,1,2],[0,1,2,3],[],[5],[0,1,2,3,4,5,6],[0,1,2,3,4,5,6,7]] [[],[39],[],[39,40,41],[39,40,41,42],[],[44],[39,40,41,42,43,44,45],[39,40,41,42,43,44,45,46]] [[41,44,45],[41,44,45],[39,40,44,45],[44,45],[44,45],[39,40,41,42,43],[39,40,41,42,43],[],[]] rfl ?_
    refine DR.step (q_fldp rfl rfl rfl rfl (by decide)) rfl rfl ?_;refine DR.step (q_ld1 rfl rfl rfl rfl rfl) rfl rfl ?_;refine DR.step (q_moveC rfl rfl rfl) rfl rfl ?_
    refine DR.step (q_at rfl rfl rfl rfl (by omega) (by assumption) rfl) rfl rfl ?_;refine DR.step (q_lr1 rfl rfl rfl rfl) rfl rfl ?_
    refine DR.step (q_fldp rfl rfl rfl rfl (by decide)) rfl rfl ?_;refine DR.step (q_ld1 rfl rfl rfl rfl rfl) rfl rfl ?_;refine DR.step (q_call0 rfl rfl (hc) rfl) rfl rfl ?_
    refine DR.step (q_not rfl rfl rfl) rfl rfl ?_;refine DR.stop (by kernel_rfl) (by kernel_rfl) ?_
    refine L_nil (T_n ?_)
    refine A_cond rfl (fun h4 => ?_) (fun h4 => ?_)
    · refine A_seq (A_region ?_);refine M0 (q_assignC rfl rfl rfl) rfl rfl ?_;refine L_nil (T_n (A_ret (B_r (T_r (T_r (B_r ?_))))))
      refine T_r (F_r ?_)
      exact E_tmp rfl rfl (W_end [] (by decide) rfl rfl (B_eq (replay_no (.inr (.inr (all_no h3 (by simpa using h4))))).symm))
    · refine A_skip (B_n (T_n (A_region ?_)));refine M0 (q_moveC rfl rfl rfl) rfl rfl ?_;refine M0 (q_add rfl rfl rfl rfl (by omega)) rfl rfl ?_
      refine M0 (q_assignC rfl rfl rfl) rfl rfl ?_;refine L_nil (T_n ?_)
      exact ⟨x.Rows.length - (k + 1),by omega,(fun k : Nat => (⟨_,[(1,.o (.c (.ptr 0 0))),(3,I k)],[.box ((Enc.e x).map (V1.rd []))]⟩ : St)) (k + 1),W_go [0] (by decide) rfl (rfl) (.cons rfl (.cons rfl (.nil))),k + 1,by omega,all_next hp_A h3 (by simpa using h4),rfl⟩
  · have h3 : ¬ ((k : Int) < (els x.Rows).length) := of_decide_eq_false h
    refine A_exit (T_x (T_x (B_xs (T_n (A_seq ?_)))))
    refine A_draw [[],[0],[0,1],[],[3],[3,4],[],[6],[3,4,5,6,7],[0,1,2,3,4,5,6,7,8],[0,1,2,3,4,5,6,7,8,9]] [[],[48],[48,49],[],[51],[51,52],[],[54],[51,52,53,54,55],[48,49,50,51,52,53,54,55,56],[48,49,50,51,52,53,54,55,56,57]] [[51,52,53,54,55,56],[51,52,53,54,55,56],[51,52,53,54,55,56],[48,49,50,54,55],[48,49,50,54,55],[48,49,50,54,55],[48,49,50,51,52,53],[48,49,50,51,52,53],[48,49,50],[],[]] rfl ?_
    refine DR.step (q_fldp rfl rfl rfl rfl (by decide)) rfl rfl ?_;refine DR.step (q_ld1 rfl rfl rfl rfl rfl) rfl rfl ?_;refine DR.step (q_len rfl rfl rfl) rfl rfl ?_
    refine DR.step (q_fldp rfl rfl rfl rfl (by decide)) rfl rfl ?_;refine DR.step (q_ld1 rfl rfl rfl rfl rfl) rfl rfl ?_;refine DR.step (q_len rfl rfl rfl) rfl rfl ?_
    refine DR.step (q_fldp rfl rfl rfl rfl (by decide)) rfl rfl ?_;refine DR.step (q_ld1 rfl rfl rfl rfl rfl) rfl rfl ?_;refine DR.step (q_quo rfl rfl rfl rfl (by omega)) rfl rfl ?_
    refine DR.step (q_eql rfl rfl rfl rfl) rfl rfl ?_;refine DR.step (q_assignC rfl rfl rfl) rfl rfl ?_;refine DR.stop (by kernel_rfl) (by kernel_rfl) ?_
    refine L_nil (T_n (A_ret (F_r ?_)))
    exact E_tmp rfl rfl (W_end [] (by decide) rfl rfl (B_eq (by rw [replay_yes h1.1 h1.2 (all_end hp_A (by omega)),hlr,hlk])))
end Go.Proofs.Ytmljakmaffbnlaa
end

section
set_option linter.unusedSimpArgs false
set_option linter.unusedVariables false
namespace Go.Proofs.Ytmljakmaffbnlaa
open Go.RowKit

/-- An argument that is nil is an empty slice. -/
inductive Den1 : V1 → V1 → Prop
  | same (x : V1) : Den1 x x
  | nil (qs : List Nat) (k : Nat) : Den1 (.rd qs (.v (.slice none 0 0))) (.rd qs (.sl k []))
inductive DenL : List V1 → List V1 → Prop
  | nil : DenL [] []
  | cons {x y : V1} {xs ys : List V1} (h : Den1 x y) (t : DenL xs ys) : DenL (x :: xs) (y :: ys)
inductive Den2 : V2 → V2 → Prop
  | same (x : V2) : Den2 x x
  | ag {xs ys : List V1} (h : DenL xs ys) : Den2 (.ag xs) (.ag ys)
inductive DenA : List V2 → List V2 → Prop
  | nil : DenA [] []
  | cons {x y : V2} {xs ys : List V2} (h : Den2 x y) (t : DenA xs ys) : DenA (x :: xs) (y :: ys)
section
variable {w : World} {H : Hs} {F : Nat → Prop}
theorem Den1.r {x y : V1} (h : Den1 x y) {v : Value} (hx : R1 w H F x v) : R1 w H F y v := by
  cases h with
  | same => exact hx
  | nil qs k => obtain ⟨rfl,_⟩ := RO.plain hx; exact .nil _ _ _ (by simp)
theorem DenL.r : ∀ {xs ys : List V1},DenL xs ys → xs.length = ys.length ∧ ∀ (i : Nat) (y : V1),ys[i]? = some y → ∃ x,xs[i]? = some x ∧ Den1 x y
  | _,_,.nil => ⟨rfl,fun i y h => by simp at h⟩
  | _,_,.cons (x := x) h t => by
    obtain ⟨h1,h2⟩ := DenL.r t
    refine ⟨by simp [h1],fun i y hy => ?_⟩
    cases i with
    | zero => simp at hy; subst hy; exact ⟨x,rfl,h⟩
    | succ i => simpa using h2 i y (by simpa using hy)
theorem Den2.r {x y : V2} (h : Den2 x y) {v : Value} (hx : R2 w H F x v) : R2 w H F y v := by
  cases h with
  | same => exact hx
  | ag h =>
    obtain ⟨h1,h2⟩ := h.r
    obtain ⟨us,e,hl,hr⟩ := hx
    refine ⟨us,e,by omega,fun i y u h3 h4 => ?_⟩
    obtain ⟨x,h5,h6⟩ := h2 i y h3
    exact h6.r (hr i x u h5 h4)
theorem DenA.r : ∀ {xs ys : List V2},DenA xs ys → xs.length = ys.length ∧ ∀ (i : Nat) (y : V2),ys[i]? = some y → ∃ x,xs[i]? = some x ∧ Den2 x y
  | _,_,.nil => ⟨rfl,fun i y h => by simp at h⟩
  | _,_,.cons (x := x) h t => by
    obtain ⟨h1,h2⟩ := DenA.r t
    refine ⟨by simp [h1],fun i y hy => ?_⟩
    cases i with
    | zero => simp at hy; subst hy; exact ⟨x,rfl,h⟩
    | succ i => simpa using h2 i y (by simpa using hy)
end
def nilV : V1 := .rd [] (.v (.slice none 0 0))
set_option maxHeartbeats 8000000 in
theorem I_copyLevel (x : TLevel) (hg : Enc.gd x) (hL : x.Rows.length ≤ 1048576) : Con Try.prog 76 [] [ag x] [.row 1 (els x.Rows)] (.o (.ag [.ref 0])) := by
  have hlx := els_len x.Rows
  have hg1 := hg.1
  refine Con.of Try.func76 rfl Try.ntmps76 rfl (fun E => ?_)
  refine A_seq (A_region ?_);refine M1 (q_boxN rfl rfl rfl rfl) rfl rfl ?_;refine M1 (q_alloc rfl rfl rfl) rfl rfl ?_;refine L_nil (T_n (A_seq ?_))
  refine A_region ?_;refine M0 (q_fldp rfl rfl rfl rfl (by decide)) rfl rfl ?_;refine M0 (q_ld1 rfl rfl rfl rfl rfl) rfl rfl ?_
  refine M_appnil rfl rfl rfl rfl rfl rfl rfl rfl (els_plain _) (els_k _) (by omega) (by omega) ?_;refine M0 (q_build rfl rfl rfl rfl rfl) rfl rfl ?_
  refine M_stN rfl rfl rfl rfl rfl rfl rfl rfl rfl ?_;refine L_nil (T_n (A_ret (F_r ?_)))
  exact E_cell rfl rfl rfl rfl (W_end [2] (by decide) rfl rfl rfl)
set_option maxHeartbeats 8000000 in
theorem S_copyLevel (x : TLevel) (hg : Enc.gd x) (hL : x.Rows.length ≤ 1048576) : Con Try.prog 68 [] [ag x] [.row 1 (els x.Rows)] (.o (.ag [.ref 0])) := by
  have hlx := els_len x.Rows
  have hg1 := hg.1
  have h00 : ([] : List (List T)).length = 0 := rfl
  refine Con.of Try.func68 rfl Try.ntmps68 rfl (fun E => ?_)
  refine A_seq (A_region ?_);refine M1 (q_boxN rfl rfl rfl rfl) rfl rfl ?_;refine M1 (q_alloc rfl rfl rfl) rfl rfl ?_;refine L_nil (T_n (A_seq ?_))
  refine A_region ?_;refine M1 (q_bslice0 rfl rfl rfl) rfl rfl ?_;refine M0 (q_fldp rfl rfl rfl rfl (by decide)) rfl rfl ?_;refine M0 (q_ld1 rfl rfl rfl rfl rfl) rfl rfl ?_
  refine M_app rfl rfl rfl rfl rfl rfl rfl rfl rfl rfl (els_plain _) (els_k _) (by omega) (by omega) ?_;refine M0 (q_build rfl rfl rfl rfl rfl) rfl rfl ?_
  refine M_stN rfl rfl rfl rfl rfl rfl rfl rfl rfl ?_;refine L_nil (T_n (A_ret (F_r ?_)))
  exact E_cell rfl rfl rfl rfl (W_end [2] (by decide) rfl rfl rfl)
end Go.Proofs.Ytmljakmaffbnlaa
end

section
set_option linter.unusedSimpArgs false
set_option linter.unusedVariables false
set_option maxRecDepth 8000
namespace Go.Proofs.Ytmljakmaffbnlaa
open Go.RowKit

set_option maxHeartbeats 8000000 in
theorem Clone_ints (xs : List Int) (hne : 0 < xs.length) (hL : xs.length ≤ 1099511627776) : Con Try.prog 84 [] [al xs] [.row 1 (els xs)] (.o (.c (.ref 0))) := by
  have hlx := els_len xs
  have hlp : 0 < (els xs).length := by omega
  refine Con.of Try.func84 rfl Try.ntmps84 rfl (fun E => ?_)
  have h00 : ([] : List (List T)).length = 0 := rfl
  refine A_seq (A_region ?_);refine M0 (q_assignC rfl rfl rfl) rfl rfl ?_;refine L_nil (T_n (A_seq (A_seq (A_region ?_))))
  refine M0 (q_moveC rfl rfl rfl) rfl rfl ?_;refine M0 (q_slnil rfl rfl rfl rfl hlp) rfl rfl ?_;refine L_nil (T_n ?_);refine A_ifF rfl ?_;refine A_skip (T_n ?_)
  refine A_seq (A_region ?_);refine M1 (q_bslice0 rfl rfl rfl) rfl rfl ?_;refine M0 (q_moveC rfl rfl rfl) rfl rfl ?_
  refine M_app rfl rfl rfl rfl rfl rfl rfl rfl rfl rfl (els_plain _) (els_k _) (by omega) (by omega) ?_;refine M0 (q_assignC rfl rfl rfl) rfl rfl ?_;refine L_nil (T_n ?_)
  refine A_ret (F_r ?_)
  exact E_tmp rfl rfl (W_end [0] (by decide) rfl rfl rfl)
@[reducible] def jv (n : Int) : V1 := .rd [] (.v (.int .i64 n))
def bodyOf (l : List Int) : TBody := ⟨l.getD 0 0,l.getD 1 0,l.getD 2 0,l.getD 3 0,l.getD 4 0,l.getD 5 0,l.getD 6 0,l.getD 7 0,l.getD 8 0⟩
def bodiesOf (l : List Int) (n : Nat) : List TBody := (List.range n).map fun k => bodyOf (l.drop (9 * k))
def zeroWorld : TWorld := ⟨⟨[]⟩,0,0,[],[]⟩
def worldOf (lv : TLevel) (l : List Int) : TWorld := ⟨lv,l.getD 0 0,l.getD 1 0,(l.drop 3).take (l.getD 2 0).toNat,bodiesOf (l.drop (3 + (l.getD 2 0).toNat)) ((l.length - 3 - (l.getD 2 0).toNat) / 9)⟩
def formOk (l : List Int) : Prop := 3 ≤ l.length ∧ (1 ≤ l.getD 2 0 ∧ l.getD 2 0 ≤ 4) ∧ 3 + l.getD 2 0 ≤ l.length ∧ ((l.length : Int) - 3 - l.getD 2 0) % 9 = 0
noncomputable def readWorld (lv : TLevel) (s : ByteArray) : Option TWorld := match unpackInts s 0 with
  | none => none
  | some (l,pos) => @ite _ (pos = s.size ∧ formOk l ∧ worldOk (worldOf lv l) = true) (Classical.propDecidable _) (some (worldOf lv l)) none
theorem readWorld_none {lv : TLevel} {s : ByteArray} (h : unpackInts s 0 = none) : readWorld lv s = none := by rw [readWorld,h]
theorem readWorld_yes {lv : TLevel} {s : ByteArray} {l : List Int} {pos : Nat} (h : unpackInts s 0 = some (l,pos)) (hp : pos = s.size ∧ formOk l ∧ worldOk (worldOf lv l) = true) : readWorld lv s = some (worldOf lv l) := by
  rw [readWorld,h]
  exact @if_pos _ (Classical.propDecidable _) hp _ _ _
theorem readWorld_no {lv : TLevel} {s : ByteArray} {l : List Int} {pos : Nat} (h : unpackInts s 0 = some (l,pos)) (hp : ¬ (pos = s.size ∧ formOk l ∧ worldOk (worldOf lv l) = true)) : readWorld lv s = none := by
  rw [readWorld,h]
  exact @if_neg _ (Classical.propDecidable _) hp _ _ _
@[reducible] def rwW (r : Option TWorld) : TWorld := r.getD zeroWorld
@[reducible] def rwB (r : Option TWorld) : Bool := r.isSome
theorem bodiesOf_len (l : List Int) (n : Nat) : (bodiesOf l n).length = n := by simp [bodiesOf]
theorem bodiesOf_snoc (l : List Int) (n : Nat) : bodiesOf l (n + 1) = bodiesOf l n ++ [bodyOf (l.drop (9 * n))] := by
  rw [bodiesOf,List.range_succ,List.map_append]
  rfl
theorem bodyOf_ints {l : List Int} (h : 9 ≤ l.length) : bodyInts (bodyOf l) = l.take 9 := by
  match l,h with
  | a :: b :: c :: d :: e :: f :: g :: i :: j :: r,_ => rfl
theorem bodiesOf_ints : ∀ (n : Nat) (l : List Int),9 * n ≤ l.length → (bodiesOf l n).flatMap bodyInts = l.take (9 * n)
  | 0,l,_ => by simp [bodiesOf]
  | n + 1,l,h => by
    rw [bodiesOf_snoc,List.flatMap_append,bodiesOf_ints n l (by omega),List.flatMap_singleton,bodyOf_ints (by simp; omega),Nat.mul_succ,List.take_add]
theorem bodyOf_gd {l : List Int} (h : ∀ x ∈ l,I64 x) : Enc.gd (bodyOf l) := by
  have hd : ∀ i,I64 (l.getD i 0) := fun i => by
    rw [List.getD_eq_getElem?_getD]
    cases hi : l[i]? with
    | none => exact ⟨by decide,by decide⟩
    | some x => exact h x (List.mem_of_getElem? hi)
  exact ⟨hd 0,hd 1,hd 2,hd 3,hd 4,hd 5,hd 6,hd 7,hd 8⟩
theorem worldOf_gd {lv : TLevel} {l : List Int} (hlv : Enc.gd lv) (h : ∀ x ∈ l,I64 x) (hL : l.length ≤ 1099511627776) : Enc.gd (worldOf lv l) := by
  have hd : ∀ i,I64 (l.getD i 0) := fun i => by
    rw [List.getD_eq_getElem?_getD]
    cases hi : l[i]? with
    | none => exact ⟨by decide,by decide⟩
    | some x => exact h x (List.mem_of_getElem? hi)
  refine ⟨hlv,hd 0,hd 1,⟨?_,fun x hx => h x (List.mem_of_mem_drop (List.mem_of_mem_take hx))⟩,⟨?_,fun b hb => ?_⟩⟩
  · show ((l.drop 3).take (l.getD 2 0).toNat).length ≤ _
    simp; omega
  · show (bodiesOf _ _).length ≤ _
    rw [bodiesOf_len]
    have : (l.length - 3 - (l.getD 2 0).toNat) / 9 ≤ l.length := by omega
    omega
  · obtain ⟨k,hk,rfl⟩ := List.mem_map.1 (show b ∈ (List.range _).map _ from hb)
    exact bodyOf_gd fun x hx => h x (List.mem_of_mem_drop (List.mem_of_mem_drop hx))
theorem worldOf_ints {lv : TLevel} {l : List Int} (h : formOk l) : worldInts (worldOf lv l) = l := by
  obtain ⟨h3,h4,h5,h6⟩ := h
  obtain ⟨p,hp⟩ : ∃ p : Nat,l.getD 2 0 = p := ⟨(l.getD 2 0).toNat,by omega⟩
  match l,h3 with
  | a :: b :: c :: r,_ =>
    have hc : c = p := by simpa using hp
    subst hc
    simp only [List.length_cons] at h5 h6
    simp only [List.getD_cons_succ,List.getD_cons_zero] at h4 h5 h6
    have hl : ((r.take p).length : Int) = p := by simp; omega
    show ([a,b,((((a :: b :: (p : Int) :: r).drop 3).take ((p : Int)).toNat).length : Int)] ++ ((a :: b :: (p : Int) :: r).drop 3).take ((p : Int)).toNat) ++ (bodiesOf ((a :: b :: (p : Int) :: r).drop (3 + ((p : Int)).toNat)) (((a :: b :: (p : Int) :: r).length - 3 - ((p : Int)).toNat) / 9)).flatMap bodyInts = _
    rw [Int.toNat_natCast]
    have hdr : (a :: b :: (p : Int) :: r).drop (3 + p) = r.drop p := by
      rw [← List.drop_drop]; rfl
    have hd3 : (a :: b :: (p : Int) :: r).drop 3 = r := rfl
    have hlen : (a :: b :: (p : Int) :: r).length - 3 - p = (r.drop p).length := by simp
    have h9 : 9 * ((r.drop p).length / 9) = (r.drop p).length := by
      have : (r.drop p).length = r.length - p := by simp
      omega
    rw [hdr,hd3,hlen,bodiesOf_ints _ _ (by omega),h9,List.take_length,hl]
    simp
theorem row7 {a b c d e f : Ob} {k : Nat} {x y : List (List T)} (h : x = y) : [a,b,c,d,e,f,Ob.row k x] = [a,b,c,d,e,f,Ob.row k y] := by rw [h]
theorem rdE {ps : List Nat} {k : Nat} {a b : List (List T)} (h : a = b) : V.o (.c (.rd ps (.sl k a))) = V.o (.c (.rd ps (.sl k b))) := by rw [h]
theorem els_takeE2 {α : Type} [Enc α] (xs : List α) (n : Nat) : els (xs.take n) = (els xs).take n := List.map_take
theorem els_dropE {α : Type} [Enc α] (xs : List α) (n : Nat) : els (xs.drop n) = (els xs).drop n := List.map_drop
theorem chunk_at {rest : List Int} {m : Nat} (h : 9 * m + 9 ≤ rest.length) {j : Nat} (hj : j < 9) (a b : Int) (ha : a = 9 * m + 9) (hb : b = 9 * m) (i : Int) (hi : i = j) : (((els rest).take a.toNat).drop b.toNat)[i.toNat]? = some [.v (.int .i64 ((rest.drop (9 * m)).getD j 0))] := by
  subst ha hb hi
  rw [show ((9 : Int) * (m : Int) + 9).toNat = 9 * m + 9 by omega,show ((9 : Int) * (m : Int)).toNat = 9 * m by omega,Int.toNat_natCast,List.getElem?_drop,List.getElem?_take,if_pos (by omega),List.getD_eq_getElem?_getD,List.getElem?_drop,els,List.getElem?_map,List.getElem?_eq_getElem (by omega)]
  rfl
theorem els_getD {l : List Int} {j : Nat} (h : j < l.length) (i : Int) (hi : i = j) : (els l)[i.toNat]? = some [.v (.int .i64 (l.getD j 0))] := by
  subst hi
  rw [Int.toNat_natCast,List.getD_eq_getElem?_getD,els,List.getElem?_map,List.getElem?_eq_getElem h]
  rfl
end Go.Proofs.Ytmljakmaffbnlaa
end

section
set_option linter.unusedSimpArgs false
set_option linter.unusedVariables false
set_option maxRecDepth 8000
namespace Go.Proofs.Ytmljakmaffbnlaa
open Go.RowKit

/-- The first of n tiles of a row that q holds of. -/
def colF (q : Int → Bool) (row : ByteArray) : Nat → Option Nat
  | 0 => none
  | c + 1 => match colF q row c with
    | some x => some x
    | none => if q (byteAt row c) = true then some c else none
/-- The first tile of n rows that q holds of. -/
def tileF (q : Int → Bool) (rows : List ByteArray) : Nat → Option (Nat × Nat)
  | 0 => none
  | r + 1 => match tileF q rows r with
    | some x => some x
    | none => match rows[r]? with
      | none => none
      | some row => (colF q row row.size).map fun c => (r,c)
def isOpen (t : Int) : Bool := decide (t ≠ 35)
def isDig (p : Int) (t : Int) : Bool := decide (t = 49 + p)
def spX : Option (Nat × Nat) → Int
  | none => -1
  | some (_,c) => 16 * c + 2
def spY : Option (Nat × Nat) → Int
  | none => -1
  | some (r,_) => 16 * r + 2
def startT (l : TLevel) (p : Int) : Option (Nat × Nat) := match tileF (isDig p) l.Rows l.Rows.length with
  | some x => some x
  | none => tileF isOpen l.Rows l.Rows.length
theorem colF_some {q : Int → Bool} {row : ByteArray} : ∀ {n c : Nat},colF q row n = some c → c < n ∧ q (byteAt row c) = true
  | 0,c,h => by cases h
  | n + 1,c,h => by
    rw [colF] at h
    cases h1 : colF q row n with
    | some x => rw [h1] at h; cases h; have := colF_some h1; exact ⟨by omega,this.2⟩
    | none =>
      rw [h1] at h
      by_cases h2 : q (byteAt row n) = true
      · rw [if_pos h2] at h; cases h; exact ⟨by omega,h2⟩
      · rw [if_neg h2] at h; cases h
theorem colF_none {q : Int → Bool} {row : ByteArray} : ∀ {n : Nat},colF q row n = none → ∀ c,c < n → q (byteAt row c) = false
  | 0,h,c,hc => by omega
  | n + 1,h,c,hc => by
    rw [colF] at h
    cases h1 : colF q row n with
    | some x => rw [h1] at h; cases h
    | none =>
      rw [h1] at h
      by_cases h2 : q (byteAt row n) = true
      · rw [if_pos h2] at h; cases h
      · by_cases e : c = n
        · subst e; simpa using h2
        · exact colF_none h1 c (by omega)
theorem tileF_some {q : Int → Bool} {rows : List ByteArray} : ∀ {n r c : Nat},tileF q rows n = some (r,c) → ∃ h : r < rows.length,r < n ∧ c < rows[r].size ∧ q (byteAt rows[r] c) = true
  | 0,r,c,h => by cases h
  | n + 1,r,c,h => by
    rw [tileF] at h
    cases h1 : tileF q rows n with
    | some x => rw [h1] at h; cases h; obtain ⟨a,b,d⟩ := tileF_some h1; exact ⟨a,by omega,d⟩
    | none =>
      rw [h1] at h
      cases h2 : rows[n]? with
      | none => rw [h2] at h; cases h
      | some row =>
        rw [h2] at h
        simp only [Option.map_eq_some_iff,Prod.mk.injEq] at h
        obtain ⟨c',h3,rfl,rfl⟩ := h
        have hn := (List.getElem?_eq_some_iff.1 h2).1
        have he := (List.getElem?_eq_some_iff.1 h2).2
        have := colF_some h3
        exact ⟨hn,by omega,by rw [he]; exact this.1,by rw [he]; exact this.2⟩
theorem tileF_none {q : Int → Bool} {rows : List ByteArray} : ∀ {n : Nat},tileF q rows n = none → ∀ r (h : r < rows.length),r < n → ∀ c,c < rows[r].size → q (byteAt rows[r] c) = false
  | 0,h,r,hr,hn,c,hc => by omega
  | n + 1,h,r,hr,hn,c,hc => by
    rw [tileF] at h
    cases h1 : tileF q rows n with
    | some x => rw [h1] at h; cases h
    | none =>
      rw [h1] at h
      by_cases e : r = n
      · subst e
        rw [List.getElem?_eq_getElem hr] at h
        simp only [Option.map_eq_none_iff] at h
        exact colF_none h c hc
      · exact tileF_none h1 r hr (by omega) c hc
theorem tileM_open {e : Bool} {t : Int} {s s' : Seen × Bool} (h : tileM e t s = some s') (ho : s'.2 = true) : s.2 = true ∨ t ≠ 35 := by
  by_cases ht : t = 35
  · rw [tileM,if_pos ht] at h; cases h; exact .inl ho
  · exact .inr ht
theorem cols_open {row : ByteArray} {er : Bool} {w : Nat} {s : Seen × Bool} : ∀ {n : Nat} {s' : Seen × Bool},colsM row er w s n = some s' → s'.2 = true → s.2 = true ∨ ∃ c,c < n ∧ byteAt row c ≠ 35
  | 0,s',h,ho => by cases h; exact .inl ho
  | n + 1,s',h,ho => by
    rw [colsM] at h
    cases h1 : colsM row er w s n with
    | none => rw [h1] at h; cases h
    | some s1 =>
      rw [h1] at h
      rcases tileM_open h ho with h2 | h2
      · rcases cols_open h1 h2 with h3 | ⟨c,hc,h3⟩
        · exact .inl h3
        · exact .inr ⟨c,by omega,h3⟩
      · exact .inr ⟨n,by omega,h2⟩
theorem rows_open {rows : List ByteArray} {w : Nat} : ∀ {n : Nat} {s : Seen × Bool},rowsM rows w n = some s → s.2 = true → ∃ r c,∃ h : r < rows.length,r < n ∧ c < rows[r].size ∧ byteAt rows[r] c ≠ 35
  | 0,s,h,ho => by cases h; cases ho
  | n + 1,s,h,ho => by
    rw [rowsM] at h
    cases h1 : rowsM rows w n with
    | none => rw [h1] at h; cases h
    | some s1 =>
      rw [h1] at h
      cases h2 : rows[n]? with
      | none => rw [h2] at h; cases h
      | some row =>
        rw [h2] at h
        simp only at h
        split at h
        · rename_i hw
          have hn := (List.getElem?_eq_some_iff.1 h2).1
          have he := (List.getElem?_eq_some_iff.1 h2).2
          rcases cols_open h ho with h3 | ⟨c,hc,h3⟩
          · obtain ⟨r,c,a,b,d⟩ := rows_open h1 h3
            exact ⟨r,c,a,by omega,d⟩
          · exact ⟨n,c,hn,by omega,by rw [he]; omega,by rw [he]; exact h3⟩
        · cases h
theorem level_open {l : TLevel} (h : levelOk l = true) : ∃ r c,∃ h : r < l.Rows.length,c < (l.Rows[r]).size ∧ byteAt (l.Rows[r]) c ≠ 35 := by
  unfold levelOk at h
  simp only [Bool.and_eq_true] at h
  obtain ⟨_,h5⟩ := h
  split at h5
  · rename_i s hs
    obtain ⟨r,c,a,b,d⟩ := rows_open hs h5
    exact ⟨r,c,a,d⟩
  · cases h5
/-- A valid level has a place to begin at, which is no wall. -/
theorem start_some {l : TLevel} (hl : levelOk l = true) {p : Int} (hp : 0 ≤ p ∧ p ≤ 3) : ∃ r c,startT l p = some (r,c) ∧ ∃ h : r < l.Rows.length,c < (l.Rows[r]).size ∧ byteAt (l.Rows[r]) c ≠ 35 := by
  unfold startT
  cases h1 : tileF (isDig p) l.Rows l.Rows.length with
  | some x =>
    obtain ⟨r,c⟩ := x
    obtain ⟨a,b,d,e⟩ := tileF_some h1
    refine ⟨r,c,rfl,a,d,?_⟩
    have := of_decide_eq_true e
    omega
  | none =>
    cases h2 : tileF isOpen l.Rows l.Rows.length with
    | some x =>
      obtain ⟨r,c⟩ := x
      obtain ⟨a,b,d,e⟩ := tileF_some h2
      exact ⟨r,c,rfl,a,d,of_decide_eq_true e⟩
    | none =>
      obtain ⟨r,c,a,d,e⟩ := level_open hl
      have := tileF_none h2 r a a c d
      exact absurd e (of_decide_eq_false this)
/-- The first open tile of r rows and c tiles of the next one. -/
def openF (rows : List ByteArray) (row : ByteArray) (r c : Nat) : Option (Nat × Nat) := match tileF isOpen rows r with
  | some x => some x
  | none => (colF isOpen row c).map fun c => (r,c)
theorem openF_zero {rows : List ByteArray} {row : ByteArray} {r : Nat} : openF rows row r 0 = tileF isOpen rows r := by
  unfold openF
  cases tileF isOpen rows r <;> rfl
theorem openF_end {rows : List ByteArray} {row : ByteArray} {r : Nat} (h : rows[r]? = some row) : openF rows row r row.size = tileF isOpen rows (r + 1) := by
  rw [openF,tileF,h]
theorem openF_keep {rows : List ByteArray} {row : ByteArray} {r c : Nat} {x : Nat × Nat} (h : openF rows row r c = some x) : openF rows row r (c + 1) = some x := by
  unfold openF at h ⊢
  cases h1 : tileF isOpen rows r with
  | some y => rw [h1] at h; exact h
  | none =>
    rw [h1] at h
    simp only [Option.map_eq_some_iff] at h ⊢
    obtain ⟨a,h2,h3⟩ := h
    exact ⟨a,by rw [colF,h2],h3⟩
theorem openF_step {rows : List ByteArray} {row : ByteArray} {r c : Nat} (h : openF rows row r c = none) : openF rows row r (c + 1) = if byteAt row c = 35 then none else some (r,c) := by
  unfold openF at h ⊢
  cases h1 : tileF isOpen rows r with
  | some y => rw [h1] at h; cases h
  | none =>
    rw [h1] at h
    simp only [Option.map_eq_none_iff] at h
    simp only [colF,h]
    by_cases h2 : byteAt row c = 35
    · rw [if_pos h2,if_neg (show ¬ isOpen (byteAt row c) = true from fun q => of_decide_eq_true q h2)]; rfl
    · rw [if_neg h2,if_pos (show isOpen (byteAt row c) = true from decide_eq_true h2)]; rfl
theorem colF_step {q : Int → Bool} {row : ByteArray} {c : Nat} (h : colF q row c = none) (hq : q (byteAt row c) = false) : colF q row (c + 1) = none := by rw [colF,h]; simp [hq]
theorem colF_hit {q : Int → Bool} {row : ByteArray} {c : Nat} (h : colF q row c = none) (hq : q (byteAt row c) = true) : ∀ {n : Nat},c < n → colF q row n = some c
  | 0,hn => by omega
  | n + 1,hn => by
    rw [colF]
    by_cases e : c = n
    · subst e; rw [h]; simp [hq]
    · rw [colF_hit h hq (by omega)]
theorem tileF_step {q : Int → Bool} {rows : List ByteArray} {row : ByteArray} {r : Nat} (h : tileF q rows r = none) (hr : rows[r]? = some row) (hc : colF q row row.size = none) : tileF q rows (r + 1) = none := by rw [tileF,h,hr]; simp [hc]
theorem tileF_hit {q : Int → Bool} {rows : List ByteArray} {row : ByteArray} {r c : Nat} (h : tileF q rows r = none) (hr : rows[r]? = some row) (hc : colF q row row.size = some c) : ∀ {n : Nat},r < n → tileF q rows n = some (r,c)
  | 0,hn => by omega
  | n + 1,hn => by
    rw [tileF]
    by_cases e : r = n
    · subst e; rw [h,hr]; simp [hc]
    · rw [tileF_hit h hr hc (by omega)]
theorem start_dig {l : TLevel} {p : Int} {row : ByteArray} {r c : Nat} (h : tileF (isDig p) l.Rows r = none) (hr : l.Rows[r]? = some row) (hc : colF (isDig p) row c = none) (hcs : c < row.size) (hb : byteAt row c = 49 + p) : startT l p = some (r,c) := by
  have h1 := colF_hit hc (show isDig p (byteAt row c) = true from decide_eq_true hb) hcs
  rw [startT,tileF_hit h hr h1 (List.getElem?_eq_some_iff.1 hr).1]
theorem start_open {l : TLevel} {p : Int} {n : Nat} (h : tileF (isDig p) l.Rows n = none) (hn : n = l.Rows.length) : startT l p = tileF isOpen l.Rows n := by
  subst hn
  rw [startT,h]
theorem spX_neg {o : Option (Nat × Nat)} : spX o < 0 ↔ o = none := by
  cases o with
  | none => simp [spX]
  | some x => obtain ⟨r,c⟩ := x; simp [spX]; omega
def fresh (l : TLevel) (p : Int) : TBody := ⟨0,p,spX (startT l p),spY (startT l p),0,0,1,3,0⟩
theorem fresh_free {l : TLevel} (hl : levelOk l = true) {p : Int} (hp : 0 ≤ p ∧ p ≤ 3) : solidM l (fresh l p).X (fresh l p).Y 12 = false ∧ (0 ≤ (fresh l p).X ∧ (fresh l p).X ≤ 400) ∧ (0 ≤ (fresh l p).Y ∧ (fresh l p).Y ≤ 400) := by
  obtain ⟨r,c,h1,hr,hc,hb⟩ := start_some hl hp
  obtain ⟨l3,l12,w,w4,w20,hw⟩ := level_facts hl
  have hwr := hw r hr
  rw [fresh,h1]
  refine ⟨solidM_F ?_,by simp only [spX]; omega,by simp only [spY]; omega⟩
  rintro ⟨r',c',a1,a2,a3,a4,hwall⟩
  simp only [spX,spY] at a1 a2 a3 a4
  have e1 : r' = r := by omega
  have e2 : c' = c := by omega
  subst e1 e2
  exact no_wall hr hc hb hwall
def newWorld (l : TLevel) (n : Nat) (seed : Int) : TWorld := ⟨l,0,seed,List.replicate n 0,(List.range n).map fun (k : Nat) => fresh l (k : Int)⟩
theorem newWorld_ok {l : TLevel} {n : Nat} {seed : Int} (hl : levelOk l = true) (hn : 1 ≤ n ∧ n ≤ 4) (hs : inR seed 0 65535 = true) : worldOk (newWorld l n seed) = true := by
  refine worldOk_T ⟨hl,rfl,hs,by simpa [newWorld] using hn,?_,by simp [newWorld]; omega,?_⟩
  · simp only [newWorld,scoresOk,List.all_replicate]
    simp [inR]
  · intro k hk
    have hk4 : k < n := by simpa [newWorld] using hk
    have hlen : (newWorld l n seed).Scores.length = n := by simp [newWorld]
    have hb : (newWorld l n seed).Bodies[k] = fresh l k := by simp [newWorld]
    rw [hlen,hb]
    obtain ⟨h1,h2,h3⟩ := fresh_free hl (p := (k : Int)) (by omega)
    show bodyAt l n k (fresh l k) = true
    rw [bodyAt,if_pos hk4,Bool.and_eq_true]
    refine ⟨?_,decide_eq_true ⟨rfl,rfl⟩⟩
    rw [bodyM,show sizeOf (fresh l k).Kind = 12 from rfl,h1]
    have e1 : inR (fresh l (k : Int)).Kind 0 2 = true := rfl
    have e2 : inR (fresh l (k : Int)).Owner 0 ((n : Int) - 1) = true := inR_iff.2 ⟨by show (0 : Int) ≤ k; omega,by show (k : Int) ≤ n - 1; omega⟩
    have e3 : inR (fresh l (k : Int)).VX (-15) 15 = true := rfl
    have e4 : inR (fresh l (k : Int)).VY (-15) 15 = true := rfl
    have e5 : tailM (fresh l (k : Int)) = true := rfl
    rw [e1,e2,e3,e4,e5]
    rfl
theorem bodyOf_app (b : TBody) (r : List Int) : bodyOf (bodyInts b ++ r) = b := by cases b; rfl
theorem flat_drop : ∀ (bs : List TBody) (k : Nat) (h : k < bs.length),∃ r,(bs.flatMap bodyInts).drop (9 * k) = bodyInts bs[k] ++ r
  | [],k,h => by simp at h
  | b :: bs,0,h => ⟨bs.flatMap bodyInts,by simp⟩
  | b :: bs,k + 1,h => by
    obtain ⟨r,hr⟩ := flat_drop bs k (by simpa using h)
    refine ⟨r,?_⟩
    rw [List.flatMap_cons,show 9 * (k + 1) = (bodyInts b).length + 9 * k by simp [bodyInts]; omega,← List.drop_drop,List.drop_left,hr]
    rfl
theorem bodiesOf_flat (bs : List TBody) : bodiesOf (bs.flatMap bodyInts) bs.length = bs := by
  apply List.ext_getElem
  · simp [bodiesOf]
  · intro k h1 h2
    obtain ⟨r,hr⟩ := flat_drop bs k h2
    simp only [bodiesOf,List.getElem_map,List.getElem_range,hr,bodyOf_app]
theorem flat_length (bs : List TBody) : (bs.flatMap bodyInts).length = 9 * bs.length := by
  have := flat_len bs bs.length (Nat.le_refl _)
  rwa [List.take_length] at this
theorem worldOf_ints2 (w : TWorld) (h1 : 1 ≤ w.Scores.length) (h2 : w.Scores.length ≤ 4) : worldOf w.Level (worldInts w) = w ∧ formOk (worldInts w) := by
  have hn : (worldInts w).getD 2 0 = (w.Scores.length : Int) := rfl
  have hd : (worldInts w).drop 3 = w.Scores ++ w.Bodies.flatMap bodyInts := by simp [worldInts]
  have hd2 : (worldInts w).drop (3 + w.Scores.length) = w.Bodies.flatMap bodyInts := by rw [← List.drop_drop,hd,List.drop_left]
  have hl : (worldInts w).length = 3 + w.Scores.length + 9 * w.Bodies.length := by
    have := flat_length w.Bodies
    simp only [worldInts,List.length_append,List.length_cons,List.length_nil]
    omega
  constructor
  · rw [worldOf,hn,hd,show ((w.Scores.length : Nat) : Int).toNat = w.Scores.length by omega,List.take_left,hd2,hl,show (3 + w.Scores.length + 9 * w.Bodies.length - 3 - w.Scores.length) / 9 = w.Bodies.length by omega,bodiesOf_flat]
    rfl
  · rw [formOk,hn,hl]
    omega
theorem newWorld_back {l : TLevel} {n : Nat} {seed : Int} (hl : levelOk l = true) (hn : 1 ≤ n ∧ n ≤ 4) (hs : inR seed 0 65535 = true) : readWorld l (worldBytes (newWorld l n seed)) = some (newWorld l n seed) := by
  have hok := newWorld_ok hl hn hs
  have hlen : (newWorld l n seed).Scores.length = n := by simp [newWorld]
  obtain ⟨h1,h2⟩ := worldOf_ints2 (newWorld l n seed) (by omega) (by omega)
  have hs := inR_iff.1 hs
  have hx : ∀ x ∈ worldInts (newWorld l n seed),0 ≤ signless x := by
    intro x hx
    have hb : 0 ≤ x ∧ x ≤ 65535 := by
      simp only [worldInts,List.mem_append,List.mem_cons,List.not_mem_nil,or_false,List.mem_flatMap] at hx
      rcases hx with (h | h) | ⟨b,hb,h⟩
      · rcases h with h | h | h <;> subst h
        · show (0 : Int) ≤ 0 ∧ (0 : Int) ≤ 65535; omega
        · exact hs
        · omega
      · have : x = 0 := by simpa [newWorld] using (List.eq_of_mem_replicate h)
        omega
      · simp only [newWorld,List.mem_map,List.mem_range] at hb
        obtain ⟨k,hk,rfl⟩ := hb
        obtain ⟨_,h3,h4⟩ := fresh_free hl (p := (k : Int)) (by omega)
        simp only [bodyInts,List.mem_cons,List.not_mem_nil,or_false] at h
        rcases h with h | h | h | h | h | h | h | h | h <;> subst h
        · show (0 : Int) ≤ 0 ∧ (0 : Int) ≤ 65535; omega
        · show (0 : Int) ≤ k ∧ (k : Int) ≤ 65535; omega
        · omega
        · omega
        all_goals (simp only [fresh]; omega)
    unfold signless
    rw [if_pos (by omega),if_pos hb.1]
    omega
  have hL : (worldInts (newWorld l n seed)).length ≤ 1073741824 := by
    have := flat_length (newWorld l n seed).Bodies
    have h5 : (newWorld l n seed).Bodies.length = n := by simp [newWorld]
    simp only [worldInts,List.length_append,List.length_cons,List.length_nil]
    omega
  have hu := unpackInts_enc hx hL
  rw [worldBytes,if_pos hok]
  have := readWorld_yes (lv := l) hu ⟨rfl,h2,by rw [show worldOf l (worldInts (newWorld l n seed)) = newWorld l n seed from h1]; exact hok⟩
  rw [this,show worldOf l (worldInts (newWorld l n seed)) = newWorld l n seed from h1]
end Go.Proofs.Ytmljakmaffbnlaa
end

section
set_option linter.unusedSimpArgs false
set_option linter.unusedVariables false
set_option maxRecDepth 8000
namespace Go.Proofs.Ytmljakmaffbnlaa
open Go.RowKit

theorem openF_35 {rows : List ByteArray} {row : ByteArray} {r c : Nat} (h : byteAt row c = 35) : openF rows row r c = openF rows row r (c + 1) := by
  cases ho : openF rows row r c with
  | some x => rw [openF_keep ho]
  | none => rw [openF_step ho,if_pos h]
theorem tu2 {x y x' y' : Int} (h1 : x = x') (h2 : y = y') : V.tu [.c (jn x),.c (jn y)] = V.tu [.c (jn x'),.c (jn y')] := by rw [h1,h2]
set_option maxHeartbeats 8000000 in
theorem I_StartOf (l : TLevel) (p : Int) (hg : Enc.gd l) (hl : levelOk l = true) (hp : 0 ≤ p ∧ p ≤ 3) : Con Try.prog 101 [] [ag l,ai p] [] (.tu [.c (jn (spX (startT l p))),.c (jn (spY (startT l p)))]) := by
  have hc := I_LevelOk l hg
  rw [hl] at hc
  have hlr := els_len l.Rows
  have hx : l.Rows.length ≤ 9223372036854775807 := hg.1
  obtain ⟨l3,l12,w,w4,w20,hw⟩ := level_facts hl
  have b1 : decide (p < 0) = false := decide_eq_false (by omega)
  have b2 : decide (p ≥ 4) = false := decide_eq_false (by omega)
  refine Con.of Try.func101 rfl Try.ntmps101 rfl (fun E => ?_)
  refine A_seq (A_region ?_);refine M1 (q_boxN rfl rfl rfl rfl) rfl rfl ?_;refine M0 (q_assignC rfl rfl rfl) rfl rfl ?_;refine M0 (q_assignC rfl rfl rfl) rfl rfl ?_
  refine L_nil (T_n (A_seq (A_seq (A_region ?_))));refine M0 (q_moveC rfl rfl rfl) rfl rfl ?_;refine M0 (q_lssK rfl rfl rfl rfl (by assumption)) rfl rfl ?_
  refine M0 (q_moveC rfl rfl rfl) rfl rfl ?_;refine M_yes rfl rfl rfl ?_;refine M0 (q_moveC rfl rfl rfl) rfl rfl ?_;refine M_yes rfl rfl rfl ?_
  refine M0 (q_geqK rfl rfl rfl rfl (by assumption)) rfl rfl ?_;refine M0 (q_pickF rfl rfl rfl rfl) rfl rfl ?_;refine M0 (q_moveC rfl rfl rfl) rfl rfl ?_;refine M_yes rfl rfl rfl ?_
  refine M0 (q_ldN rfl rfl rfl rfl rfl rfl) rfl rfl ?_;refine M_yes rfl rfl rfl ?_;refine M0 (q_call0 rfl rfl (hc) rfl) rfl rfl ?_;refine M_yes rfl rfl rfl ?_
  refine M0 (q_not rfl rfl rfl) rfl rfl ?_;refine M0 (q_pickF rfl rfl rfl rfl) rfl rfl ?_;refine L_nil (T_n ?_);refine A_ifF rfl ?_;refine A_skip (T_n (A_seq ?_))
  refine A_region ?_;refine M0 (q_assignC rfl rfl rfl) rfl rfl ?_;refine L_nil (T_n (A_seq (A_region ?_)));refine M0 (q_assignC rfl rfl rfl) rfl rfl ?_
  refine L_nil (T_n (A_seq (A_seq (A_region ?_))));refine M0 (q_fldp rfl rfl rfl rfl (by decide)) rfl rfl ?_
  refine M0 (q_ld1 rfl rfl rfl rfl rfl) rfl rfl ?_;refine M0 (q_len rfl rfl rfl) rfl rfl ?_;refine M0 (q_moveC rfl rfl rfl) rfl rfl ?_;refine L_nil (T_n (A_block ?_))
  refine A_loop (fun m st => ∃ r : Nat,r + m = l.Rows.length ∧ (tileF (isDig p) l.Rows r = none) ∧ st = (fun r : Nat => (⟨_,[(1,I p),(2,.o (.c (.ptr 0 0))),(6,I (spX (tileF isOpen l.Rows r))),(7,I (spY (tileF isOpen l.Rows r))),(23,L l.Rows),(24,I (els l.Rows).length),(25,I r)],[.box ((Enc.e l).map (V1.rd []))]⟩ : St)) r) (l.Rows.length) ⟨(fun r : Nat => (⟨_,[(1,I p),(2,.o (.c (.ptr 0 0))),(6,I (spX (tileF isOpen l.Rows r))),(7,I (spY (tileF isOpen l.Rows r))),(23,L l.Rows),(24,I (els l.Rows).length),(25,I r)],[.box ((Enc.e l).map (V1.rd []))]⟩ : St)) 0,W_go [0] (by decide) rfl (rfl) (.cons rfl (.cons rfl (.cons rfl (.cons rfl (.cons rfl (.cons rfl (.cons rfl (.nil)))))))),0,by omega,rfl,rfl⟩ ?_
  rintro m_A _ ⟨r,hk_A,hp_A,rfl⟩
  refine A_seq (A_region ?_);refine M0 (q_lss rfl rfl rfl rfl) rfl rfl ?_;refine L_nil (T_n (A_seq ?_))
  refine A_cond rfl (fun h => ?_) (fun h => ?_)
  · have h3 : r < l.Rows.length := by have := of_decide_eq_true h; omega
    have hat := els_at h3
    have hwr := hw r h3
    have hrow := List.getElem?_eq_getElem h3
    generalize l.Rows[r] = row at hat hwr hrow
    refine A_skip (T_n (A_seq (A_block (A_seq (A_region ?_)))));refine M0 (q_moveC rfl rfl rfl) rfl rfl ?_
    refine M0 (q_at rfl rfl rfl rfl (by omega) (by assumption) rfl) rfl rfl ?_;refine M0 (q_lr1 rfl rfl rfl rfl) rfl rfl ?_;refine M0 (q_assignC rfl rfl rfl) rfl rfl ?_
    refine M0 (q_assignC rfl rfl rfl) rfl rfl ?_;refine L_nil (T_n (A_seq (A_region ?_)));refine M0 (q_assignC rfl rfl rfl) rfl rfl ?_;refine L_nil (T_n ?_)
    refine A_block ?_
    refine A_loop (fun m st => ∃ c : Nat,c + m = row.size ∧ (colF (isDig p) row c = none) ∧ st = (fun c : Nat => (⟨_,[(1,I p),(2,.o (.c (.ptr 0 0))),(6,I (spX (openF l.Rows row r c))),(7,I (spY (openF l.Rows row r c))),(8,I r),(9,S row),(10,I c),(23,L l.Rows),(24,I (els l.Rows).length),(25,I r)],[.box ((Enc.e l).map (V1.rd []))]⟩ : St)) c) (row.size) ⟨(fun c : Nat => (⟨_,[(1,I p),(2,.o (.c (.ptr 0 0))),(6,I (spX (openF l.Rows row r c))),(7,I (spY (openF l.Rows row r c))),(8,I r),(9,S row),(10,I c),(23,L l.Rows),(24,I (els l.Rows).length),(25,I r)],[.box ((Enc.e l).map (V1.rd []))]⟩ : St)) 0,W_go [0] (by decide) rfl (rfl) (.cons rfl (.cons rfl (.cons (I_eq (by rw [openF_zero])) (.cons (I_eq (by rw [openF_zero])) (.cons rfl (.cons rfl (.cons rfl (.cons rfl (.cons rfl (.cons rfl (.nil))))))))))),0,by omega,rfl,rfl⟩ ?_
    rintro m_D _ ⟨c,hk_D,hp_D,rfl⟩
    refine A_seq (A_seq (A_region ?_));refine M0 (q_moveC rfl rfl rfl) rfl rfl ?_;refine M0 (q_moveC rfl rfl rfl) rfl rfl ?_;refine M0 (q_lens rfl rfl rfl) rfl rfl ?_
    refine M0 (q_lss rfl rfl rfl rfl) rfl rfl ?_;refine L_nil (T_n ?_)
    refine A_cond rfl (fun h4 => ?_) (fun h4 => ?_)
    · have h4 : c < row.size := by have := of_decide_eq_true h4; omega
      have hbt := byteAt_lt row c
      have hbt2 := byteAt_lt row (c : Int).toNat
      by_cases hd : byteAt row c = 49 + p
      · have hb : decide (byteAt row (c : Int).toNat = 49 + p) = true := decide_eq_true hd
        rw [start_dig hp_A hrow hp_D h4 hd]
        clear hd
        refine A_skip (T_n (A_seq (A_block (A_seq (A_seq (A_region ?_))))));refine M0 (q_moveC rfl rfl rfl) rfl rfl ?_
        refine M0 (q_moveC rfl rfl rfl) rfl rfl ?_;refine M0 (q_byte rfl rfl rfl rfl (by omega)) rfl rfl ?_;refine M0 (q_moveC rfl rfl rfl) rfl rfl ?_
        refine M0 (q_add rfl rfl rfl rfl (by omega)) rfl rfl ?_;refine M0 (q_convI rfl rfl rfl rfl (wrap_u8_in (by omega))) rfl rfl ?_
        refine M0 (q_eqlK rfl rfl rfl rfl (by assumption)) rfl rfl ?_;refine L_nil (T_n ?_);refine A_ifT rfl ?_;refine A_seq (A_region ?_)
        refine M0 (q_moveC rfl rfl rfl) rfl rfl ?_;refine M0 (q_mul rfl rfl rfl rfl (by omega)) rfl rfl ?_;refine M0 (q_add rfl rfl rfl rfl (by omega)) rfl rfl ?_
        refine M0 (q_moveC rfl rfl rfl) rfl rfl ?_;refine M0 (q_mul rfl rfl rfl rfl (by omega)) rfl rfl ?_;refine M0 (q_add rfl rfl rfl rfl (by omega)) rfl rfl ?_
        refine M0 (q_assignC rfl rfl rfl) rfl rfl ?_;refine M0 (q_assignC rfl rfl rfl) rfl rfl ?_;refine L_nil (T_n (A_ret (T_r (B_r (T_r ?_)))))
        refine T_r (B_r (B_r (T_r (T_r (B_r (T_r (F_r ?_)))))))
        exact E_tmp2 rfl rfl rfl (W_end [] (by decide) rfl rfl (tu2 (show (c : Int) * 16 + 2 = 16 * (c : Int) + 2 by omega) (show (r : Int) * 16 + 2 = 16 * (r : Int) + 2 by omega)))
      have hb : decide (byteAt row (c : Int).toNat = 49 + p) = false := decide_eq_false hd
      have hnd := colF_step hp_D (show isDig p (byteAt row c) = false from decide_eq_false hd)
      by_cases h35 : byteAt row c = 35
      · have hb3 : decide (byteAt row (c : Int).toNat ≠ 35) = false := decide_eq_false (fun q => q h35)
        have hnx : spX (openF l.Rows row r c) = spX (openF l.Rows row r (c + 1)) := by rw [openF_35 h35]
        have hny : spY (openF l.Rows row r c) = spY (openF l.Rows row r (c + 1)) := by rw [openF_35 h35]
        clear h35
        refine A_skip (T_n (A_seq (A_block (A_seq (A_seq (A_region ?_))))));refine M0 (q_moveC rfl rfl rfl) rfl rfl ?_
        refine M0 (q_moveC rfl rfl rfl) rfl rfl ?_;refine M0 (q_byte rfl rfl rfl rfl (by omega)) rfl rfl ?_;refine M0 (q_moveC rfl rfl rfl) rfl rfl ?_
        refine M0 (q_add rfl rfl rfl rfl (by omega)) rfl rfl ?_;refine M0 (q_convI rfl rfl rfl rfl (wrap_u8_in (by omega))) rfl rfl ?_
        refine M0 (q_eqlK rfl rfl rfl rfl (by assumption)) rfl rfl ?_;refine L_nil (T_n ?_);refine A_ifF rfl ?_;refine A_skip (T_n (A_seq (A_region ?_)))
        refine M0 (q_moveC rfl rfl rfl) rfl rfl ?_;refine M0 (q_moveC rfl rfl rfl) rfl rfl ?_;refine M0 (q_byte rfl rfl rfl rfl (by omega)) rfl rfl ?_
        refine M0 (q_neqK rfl rfl rfl rfl (by assumption)) rfl rfl ?_;refine M0 (q_moveC rfl rfl rfl) rfl rfl ?_;refine M_no rfl rfl rfl rfl rfl rfl ?_;refine M_no rfl rfl rfl rfl rfl rfl ?_
        refine M0 (q_pickF rfl rfl rfl rfl) rfl rfl ?_;refine L_nil (T_n ?_);refine A_ifF rfl ?_;refine A_skip (B_n (T_n (A_region ?_)))
        refine M0 (q_moveC rfl rfl rfl) rfl rfl ?_;refine M0 (q_add rfl rfl rfl rfl (by omega)) rfl rfl ?_;refine M0 (q_assignC rfl rfl rfl) rfl rfl ?_;refine L_nil (T_n ?_)
        exact ⟨row.size - (c + 1),by omega,(fun c : Nat => (⟨_,[(1,I p),(2,.o (.c (.ptr 0 0))),(6,I (spX (openF l.Rows row r c))),(7,I (spY (openF l.Rows row r c))),(8,I r),(9,S row),(10,I c),(23,L l.Rows),(24,I (els l.Rows).length),(25,I r)],[.box ((Enc.e l).map (V1.rd []))]⟩ : St)) (c + 1),W_go [0] (by decide) rfl (rfl) (.cons rfl (.cons rfl (.cons (I_eq hnx) (.cons (I_eq hny) (.cons rfl (.cons rfl (.cons rfl (.cons rfl (.cons rfl (.cons rfl (.nil))))))))))),c + 1,by omega,hnd,rfl⟩
      have hb3 : decide (byteAt row (c : Int).toNat ≠ 35) = true := decide_eq_true h35
      have h35' := h35
      cases ho : openF l.Rows row r c with
      | some x =>
        have hlt : decide (spX (openF l.Rows row r c) < 0) = false := decide_eq_false (by rw [spX_neg,ho]; simp)
        have hnx : spX (some x) = spX (openF l.Rows row r (c + 1)) := by rw [openF_keep ho]
        have hny : spY (some x) = spY (openF l.Rows row r (c + 1)) := by rw [openF_keep ho]
        rw [ho] at hlt
        refine A_skip (T_n (A_seq (A_block (A_seq (A_seq (A_region ?_))))));refine M0 (q_moveC rfl rfl rfl) rfl rfl ?_
        refine M0 (q_moveC rfl rfl rfl) rfl rfl ?_;refine M0 (q_byte rfl rfl rfl rfl (by omega)) rfl rfl ?_;refine M0 (q_moveC rfl rfl rfl) rfl rfl ?_
        refine M0 (q_add rfl rfl rfl rfl (by omega)) rfl rfl ?_;refine M0 (q_convI rfl rfl rfl rfl (wrap_u8_in (by omega))) rfl rfl ?_
        refine M0 (q_eqlK rfl rfl rfl rfl (by assumption)) rfl rfl ?_;refine L_nil (T_n ?_);refine A_ifF rfl ?_;refine A_skip (T_n (A_seq (A_region ?_)))
        refine M0 (q_moveC rfl rfl rfl) rfl rfl ?_;refine M0 (q_moveC rfl rfl rfl) rfl rfl ?_;refine M0 (q_byte rfl rfl rfl rfl (by omega)) rfl rfl ?_
        refine M0 (q_neqK rfl rfl rfl rfl (by assumption)) rfl rfl ?_;refine M0 (q_moveC rfl rfl rfl) rfl rfl ?_;refine M_yes rfl rfl rfl ?_;refine M0 (q_moveC rfl rfl rfl) rfl rfl ?_
        refine M_yes rfl rfl rfl ?_;refine M0 (q_lssK rfl rfl rfl rfl (by assumption)) rfl rfl ?_;refine M0 (q_pickT rfl rfl rfl rfl) rfl rfl ?_;refine L_nil (T_n ?_)
        refine A_ifF rfl ?_;refine A_skip (B_n (T_n (A_region ?_)));refine M0 (q_moveC rfl rfl rfl) rfl rfl ?_;refine M0 (q_add rfl rfl rfl rfl (by omega)) rfl rfl ?_
        refine M0 (q_assignC rfl rfl rfl) rfl rfl ?_;refine L_nil (T_n ?_)
        exact ⟨row.size - (c + 1),by omega,(fun c : Nat => (⟨_,[(1,I p),(2,.o (.c (.ptr 0 0))),(6,I (spX (openF l.Rows row r c))),(7,I (spY (openF l.Rows row r c))),(8,I r),(9,S row),(10,I c),(23,L l.Rows),(24,I (els l.Rows).length),(25,I r)],[.box ((Enc.e l).map (V1.rd []))]⟩ : St)) (c + 1),W_go [0] (by decide) rfl (rfl) (.cons rfl (.cons rfl (.cons (I_eq hnx) (.cons (I_eq hny) (.cons rfl (.cons rfl (.cons rfl (.cons rfl (.cons rfl (.cons rfl (.nil))))))))))),c + 1,by omega,hnd,rfl⟩
      | none =>
        have hlt : decide (spX none < 0) = true := rfl
        have hnx : (c : Int) * 16 + 2 = spX (openF l.Rows row r (c + 1)) := by rw [openF_step ho,if_neg h35']; show (c : Int) * 16 + 2 = 16 * (c : Int) + 2; omega
        have hny : (r : Int) * 16 + 2 = spY (openF l.Rows row r (c + 1)) := by rw [openF_step ho,if_neg h35']; show (r : Int) * 16 + 2 = 16 * (r : Int) + 2; omega
        refine A_skip (T_n (A_seq (A_block (A_seq (A_seq (A_region ?_))))));refine M0 (q_moveC rfl rfl rfl) rfl rfl ?_
        refine M0 (q_moveC rfl rfl rfl) rfl rfl ?_;refine M0 (q_byte rfl rfl rfl rfl (by omega)) rfl rfl ?_;refine M0 (q_moveC rfl rfl rfl) rfl rfl ?_
        refine M0 (q_add rfl rfl rfl rfl (by omega)) rfl rfl ?_;refine M0 (q_convI rfl rfl rfl rfl (wrap_u8_in (by omega))) rfl rfl ?_
        refine M0 (q_eqlK rfl rfl rfl rfl (by assumption)) rfl rfl ?_;refine L_nil (T_n ?_);refine A_ifF rfl ?_;refine A_skip (T_n (A_seq (A_region ?_)))
        refine M0 (q_moveC rfl rfl rfl) rfl rfl ?_;refine M0 (q_moveC rfl rfl rfl) rfl rfl ?_;refine M0 (q_byte rfl rfl rfl rfl (by omega)) rfl rfl ?_
        refine M0 (q_neqK rfl rfl rfl rfl (by assumption)) rfl rfl ?_;refine M0 (q_moveC rfl rfl rfl) rfl rfl ?_;refine M_yes rfl rfl rfl ?_;refine M0 (q_moveC rfl rfl rfl) rfl rfl ?_
        refine M_yes rfl rfl rfl ?_;refine M0 (q_lssK rfl rfl rfl rfl (by assumption)) rfl rfl ?_;refine M0 (q_pickT rfl rfl rfl rfl) rfl rfl ?_;refine L_nil (T_n ?_)
        refine A_ifT rfl ?_;refine A_seq (A_region ?_);refine M0 (q_moveC rfl rfl rfl) rfl rfl ?_;refine M0 (q_mul rfl rfl rfl rfl (by omega)) rfl rfl ?_
        refine M0 (q_add rfl rfl rfl rfl (by omega)) rfl rfl ?_;refine M0 (q_assignC rfl rfl rfl) rfl rfl ?_;refine L_nil (T_n (A_region ?_))
        refine M0 (q_moveC rfl rfl rfl) rfl rfl ?_;refine M0 (q_mul rfl rfl rfl rfl (by omega)) rfl rfl ?_;refine M0 (q_add rfl rfl rfl rfl (by omega)) rfl rfl ?_
        refine M0 (q_assignC rfl rfl rfl) rfl rfl ?_;refine L_nil (B_n (T_n (A_region ?_)));refine M0 (q_moveC rfl rfl rfl) rfl rfl ?_
        refine M0 (q_add rfl rfl rfl rfl (by omega)) rfl rfl ?_;refine M0 (q_assignC rfl rfl rfl) rfl rfl ?_;refine L_nil (T_n ?_)
        exact ⟨row.size - (c + 1),by omega,(fun c : Nat => (⟨_,[(1,I p),(2,.o (.c (.ptr 0 0))),(6,I (spX (openF l.Rows row r c))),(7,I (spY (openF l.Rows row r c))),(8,I r),(9,S row),(10,I c),(23,L l.Rows),(24,I (els l.Rows).length),(25,I r)],[.box ((Enc.e l).map (V1.rd []))]⟩ : St)) (c + 1),W_go [0] (by decide) rfl (rfl) (.cons rfl (.cons rfl (.cons (I_eq hnx) (.cons (I_eq hny) (.cons rfl (.cons rfl (.cons rfl (.cons rfl (.cons rfl (.cons rfl (.nil))))))))))),c + 1,by omega,hnd,rfl⟩
    · have h4 : c = row.size := by have := of_decide_eq_false h4; omega
      subst h4
      refine A_exit (T_x (T_x (B_xs (B_n (T_n (A_region ?_))))));refine M0 (q_add rfl rfl rfl rfl (by omega)) rfl rfl ?_
      refine M0 (q_moveC rfl rfl rfl) rfl rfl ?_;refine L_nil (T_n ?_)
      exact ⟨l.Rows.length - (r + 1),by omega,(fun r : Nat => (⟨_,[(1,I p),(2,.o (.c (.ptr 0 0))),(6,I (spX (tileF isOpen l.Rows r))),(7,I (spY (tileF isOpen l.Rows r))),(23,L l.Rows),(24,I (els l.Rows).length),(25,I r)],[.box ((Enc.e l).map (V1.rd []))]⟩ : St)) (r + 1),W_go [0] (by decide) rfl (rfl) (.cons rfl (.cons rfl (.cons (I_eq (by rw [← openF_end hrow])) (.cons (I_eq (by rw [← openF_end hrow])) (.cons rfl (.cons rfl (.cons rfl (.nil)))))))),r + 1,by omega,tileF_step hp_A hrow hp_D,rfl⟩
  · have h3 : r = l.Rows.length := by have := of_decide_eq_false h; omega
    rw [start_open hp_A h3]
    refine A_exit (T_x (T_x (B_xs (T_n (A_seq (A_region ?_))))));refine M0 (q_moveC rfl rfl rfl) rfl rfl ?_
    refine M0 (q_moveC rfl rfl rfl) rfl rfl ?_;refine M0 (q_assignC rfl rfl rfl) rfl rfl ?_;refine M0 (q_assignC rfl rfl rfl) rfl rfl ?_;refine L_nil (T_n (A_ret ?_))
    refine F_r ?_
    exact E_tmp2 rfl rfl rfl (W_end [] (by decide) rfl rfl rfl)
set_option maxHeartbeats 8000000 in
theorem S_StartOf (l : TLevel) (p : Int) (hg : Enc.gd l) (hl : levelOk l = true) (hp : 0 ≤ p ∧ p ≤ 3) : Con Try.prog 95 [] [ag l,ai p] [] (.tu [.c (jn (spX (startT l p))),.c (jn (spY (startT l p)))]) := by
  have hc := S_LevelOk l hg
  rw [hl] at hc
  have hlr := els_len l.Rows
  have hx : l.Rows.length ≤ 9223372036854775807 := hg.1
  obtain ⟨l3,l12,w,w4,w20,hw⟩ := level_facts hl
  have hci := S_in p 0 3
  rw [inR_iff.2 hp] at hci
  refine Con.of Try.func95 rfl Try.ntmps95 rfl (fun E => ?_)
  refine A_seq (A_region ?_);refine M1 (q_boxN rfl rfl rfl rfl) rfl rfl ?_;refine M0 (q_assignC rfl rfl rfl) rfl rfl ?_;refine M0 (q_assignC rfl rfl rfl) rfl rfl ?_
  refine L_nil (T_n (A_seq (A_region ?_)));refine M0 (q_assignC rfl rfl rfl) rfl rfl ?_;refine L_nil (T_n (A_seq (A_region ?_)))
  refine M0 (q_assignC rfl rfl rfl) rfl rfl ?_;refine L_nil (T_n (A_seq (A_seq (A_region ?_))));refine M0 (q_ldN rfl rfl rfl rfl rfl rfl) rfl rfl ?_
  refine M0 (q_call0 rfl rfl (hc) rfl) rfl rfl ?_;refine M0 (q_not rfl rfl rfl) rfl rfl ?_;refine M0 (q_moveC rfl rfl rfl) rfl rfl ?_;refine M_yes rfl rfl rfl ?_
  refine M0 (q_moveC rfl rfl rfl) rfl rfl ?_;refine M_yes rfl rfl rfl ?_;refine M0 (q_call0 rfl rfl (hci) rfl) rfl rfl ?_;refine M_yes rfl rfl rfl ?_
  refine M0 (q_not rfl rfl rfl) rfl rfl ?_;refine M0 (q_pickF rfl rfl rfl rfl) rfl rfl ?_;refine L_nil (T_n ?_);refine A_ifF rfl ?_;refine A_skip (T_n (A_seq ?_))
  refine A_seq (A_region ?_);refine M0 (q_assignC rfl rfl rfl) rfl rfl ?_;refine L_nil (T_n (A_block ?_))
  refine A_loop (fun m st => ∃ r : Nat,r + m = l.Rows.length ∧ (tileF (isDig p) l.Rows r = none) ∧ st = (fun r : Nat => (⟨_,[(1,I p),(2,.o (.c (.ptr 0 0))),(6,I (spX (tileF isOpen l.Rows r))),(7,I (spY (tileF isOpen l.Rows r))),(8,I r)],[.box ((Enc.e l).map (V1.rd []))]⟩ : St)) r) (l.Rows.length) ⟨(fun r : Nat => (⟨_,[(1,I p),(2,.o (.c (.ptr 0 0))),(6,I (spX (tileF isOpen l.Rows r))),(7,I (spY (tileF isOpen l.Rows r))),(8,I r)],[.box ((Enc.e l).map (V1.rd []))]⟩ : St)) 0,W_go [0] (by decide) rfl (rfl) (.cons rfl (.cons rfl (.cons rfl (.cons rfl (.cons rfl (.nil)))))),0,by omega,rfl,rfl⟩ ?_
  rintro m_A _ ⟨r,hk_A,hp_A,rfl⟩
  refine A_seq (A_seq (A_region ?_));refine M0 (q_moveC rfl rfl rfl) rfl rfl ?_;refine M0 (q_fldp rfl rfl rfl rfl (by decide)) rfl rfl ?_
  refine M0 (q_ld1 rfl rfl rfl rfl rfl) rfl rfl ?_;refine M0 (q_len rfl rfl rfl) rfl rfl ?_;refine M0 (q_lss rfl rfl rfl rfl) rfl rfl ?_;refine L_nil (T_n ?_)
  refine A_cond rfl (fun h => ?_) (fun h => ?_)
  · have h3 : r < l.Rows.length := by have := of_decide_eq_true h; omega
    have hat := els_at h3
    have hwr := hw r h3
    have hrow := List.getElem?_eq_getElem h3
    generalize l.Rows[r] = row at hat hwr hrow
    refine A_skip (T_n (A_seq (A_block (A_seq (A_region ?_)))));refine M0 (q_assignC rfl rfl rfl) rfl rfl ?_;refine L_nil (T_n ?_)
    refine A_block ?_
    refine A_loop (fun m st => ∃ c : Nat,c + m = row.size ∧ (colF (isDig p) row c = none) ∧ st = (fun c : Nat => (⟨_,[(1,I p),(2,.o (.c (.ptr 0 0))),(6,I (spX (openF l.Rows row r c))),(7,I (spY (openF l.Rows row r c))),(8,I r),(9,I c)],[.box ((Enc.e l).map (V1.rd []))]⟩ : St)) c) (row.size) ⟨(fun c : Nat => (⟨_,[(1,I p),(2,.o (.c (.ptr 0 0))),(6,I (spX (openF l.Rows row r c))),(7,I (spY (openF l.Rows row r c))),(8,I r),(9,I c)],[.box ((Enc.e l).map (V1.rd []))]⟩ : St)) 0,W_go [0] (by decide) rfl (rfl) (.cons rfl (.cons rfl (.cons (I_eq (by rw [openF_zero])) (.cons (I_eq (by rw [openF_zero])) (.cons rfl (.cons rfl (.nil))))))),0,by omega,rfl,rfl⟩ ?_
    rintro m_D _ ⟨c,hk_D,hp_D,rfl⟩
    refine A_seq (A_seq (A_region ?_));refine M0 (q_moveC rfl rfl rfl) rfl rfl ?_;refine M0 (q_fldp rfl rfl rfl rfl (by decide)) rfl rfl ?_
    refine M0 (q_ld1 rfl rfl rfl rfl rfl) rfl rfl ?_;refine M0 (q_moveC rfl rfl rfl) rfl rfl ?_;refine M0 (q_at rfl rfl rfl rfl (by omega) (by assumption) rfl) rfl rfl ?_
    refine M0 (q_lr1 rfl rfl rfl rfl) rfl rfl ?_;refine M0 (q_lens rfl rfl rfl) rfl rfl ?_;refine M0 (q_lss rfl rfl rfl rfl) rfl rfl ?_;refine L_nil (T_n ?_)
    refine A_cond rfl (fun h4 => ?_) (fun h4 => ?_)
    · have h4 : c < row.size := by have := of_decide_eq_true h4; omega
      have hbt := byteAt_lt row c
      have hbt2 := byteAt_lt row (c : Int).toNat
      by_cases hd : byteAt row c = 49 + p
      · have hb : decide (byteAt row (c : Int).toNat - 49 = p) = true := decide_eq_true (by show byteAt row c - 49 = p; omega)
        have hb3 : decide (byteAt row (c : Int).toNat ≠ 35) = true := decide_eq_true (by show byteAt row c ≠ 35; omega)
        rw [start_dig hp_A hrow hp_D h4 hd]
        clear hd
        cases ho : openF l.Rows row r c with
        | some x =>
          have hlt : decide (spX (openF l.Rows row r c) < 0) = false := decide_eq_false (by rw [spX_neg,ho]; simp)
          rw [ho] at hlt
          refine A_skip (T_n (A_seq (A_block (A_seq (A_region ?_)))));refine M0 (q_fldp rfl rfl rfl rfl (by decide)) rfl rfl ?_
          refine M0 (q_ld1 rfl rfl rfl rfl rfl) rfl rfl ?_;refine M0 (q_moveC rfl rfl rfl) rfl rfl ?_;refine M0 (q_at rfl rfl rfl rfl (by omega) (by assumption) rfl) rfl rfl ?_
          refine M0 (q_lr1 rfl rfl rfl rfl) rfl rfl ?_;refine M0 (q_moveC rfl rfl rfl) rfl rfl ?_;refine M0 (q_byte rfl rfl rfl rfl (by omega)) rfl rfl ?_
          refine M0 (q_assignC rfl rfl rfl) rfl rfl ?_;refine L_nil (T_n (A_seq (A_seq (A_region ?_))));refine M0 (q_moveC rfl rfl rfl) rfl rfl ?_
          refine M0 (q_neqK rfl rfl rfl rfl (by assumption)) rfl rfl ?_;refine M0 (q_moveC rfl rfl rfl) rfl rfl ?_;refine M_yes rfl rfl rfl ?_;refine M0 (q_moveC rfl rfl rfl) rfl rfl ?_
          refine M_yes rfl rfl rfl ?_;refine M0 (q_lssK rfl rfl rfl rfl (by assumption)) rfl rfl ?_;refine M0 (q_pickT rfl rfl rfl rfl) rfl rfl ?_;refine M0 (q_moveC rfl rfl rfl) rfl rfl ?_
          refine M_yes rfl rfl rfl ?_;refine M0 (q_moveC rfl rfl rfl) rfl rfl ?_;refine M_yes rfl rfl rfl ?_;refine M0 (q_convI rfl rfl rfl rfl (wrap_i64 (by omega))) rfl rfl ?_
          refine M_yes rfl rfl rfl ?_;refine M0 (q_sub rfl rfl rfl rfl (by omega)) rfl rfl ?_;refine M_yes rfl rfl rfl ?_;refine M0 (q_moveC rfl rfl rfl) rfl rfl ?_;refine M_yes rfl rfl rfl ?_
          refine M0 (q_eqlK rfl rfl rfl rfl (by assumption)) rfl rfl ?_;refine M0 (q_pickF rfl rfl rfl rfl) rfl rfl ?_;refine L_nil (T_n ?_);refine A_ifT rfl ?_;refine A_seq ?_
          refine A_region ?_;refine M0 (q_moveC rfl rfl rfl) rfl rfl ?_;refine M0 (q_mul rfl rfl rfl rfl (by omega)) rfl rfl ?_;refine M0 (q_add rfl rfl rfl rfl (by omega)) rfl rfl ?_
          refine M0 (q_assignC rfl rfl rfl) rfl rfl ?_;refine L_nil (T_n (A_region ?_));refine M0 (q_moveC rfl rfl rfl) rfl rfl ?_
          refine M0 (q_mul rfl rfl rfl rfl (by omega)) rfl rfl ?_;refine M0 (q_add rfl rfl rfl rfl (by omega)) rfl rfl ?_;refine M0 (q_assignC rfl rfl rfl) rfl rfl ?_;refine L_nil ?_
          refine T_n (A_seq (A_region ?_));refine M0 (q_moveC rfl rfl rfl) rfl rfl ?_;refine M0 (q_convI rfl rfl rfl rfl (wrap_i64 (by omega))) rfl rfl ?_
          refine M0 (q_sub rfl rfl rfl rfl (by omega)) rfl rfl ?_;refine M0 (q_moveC rfl rfl rfl) rfl rfl ?_;refine M0 (q_eqlK rfl rfl rfl rfl (by assumption)) rfl rfl ?_;refine L_nil ?_
          refine T_n ?_;refine A_ifT rfl ?_;refine A_seq (A_region ?_);refine M0 (q_moveC rfl rfl rfl) rfl rfl ?_;refine M0 (q_moveC rfl rfl rfl) rfl rfl ?_
          refine M0 (q_assignC rfl rfl rfl) rfl rfl ?_;refine M0 (q_assignC rfl rfl rfl) rfl rfl ?_;refine L_nil (T_n (A_ret (B_r (T_r (T_r ?_)))))
          refine B_r (B_r (T_r (T_r (B_r (T_r (F_r ?_))))))
          exact E_tmp2 rfl rfl rfl (W_end [] (by decide) rfl rfl rfl)
        | none =>
          have hlt : decide (spX none < 0) = true := rfl
          refine A_skip (T_n (A_seq (A_block (A_seq (A_region ?_)))));refine M0 (q_fldp rfl rfl rfl rfl (by decide)) rfl rfl ?_
          refine M0 (q_ld1 rfl rfl rfl rfl rfl) rfl rfl ?_;refine M0 (q_moveC rfl rfl rfl) rfl rfl ?_;refine M0 (q_at rfl rfl rfl rfl (by omega) (by assumption) rfl) rfl rfl ?_
          refine M0 (q_lr1 rfl rfl rfl rfl) rfl rfl ?_;refine M0 (q_moveC rfl rfl rfl) rfl rfl ?_;refine M0 (q_byte rfl rfl rfl rfl (by omega)) rfl rfl ?_
          refine M0 (q_assignC rfl rfl rfl) rfl rfl ?_;refine L_nil (T_n (A_seq (A_seq (A_region ?_))));refine M0 (q_moveC rfl rfl rfl) rfl rfl ?_
          refine M0 (q_neqK rfl rfl rfl rfl (by assumption)) rfl rfl ?_;refine M0 (q_moveC rfl rfl rfl) rfl rfl ?_;refine M_yes rfl rfl rfl ?_;refine M0 (q_moveC rfl rfl rfl) rfl rfl ?_
          refine M_yes rfl rfl rfl ?_;refine M0 (q_lssK rfl rfl rfl rfl (by assumption)) rfl rfl ?_;refine M0 (q_pickT rfl rfl rfl rfl) rfl rfl ?_;refine M0 (q_moveC rfl rfl rfl) rfl rfl ?_
          refine M_no rfl rfl rfl rfl rfl rfl ?_;refine M_no rfl rfl rfl rfl rfl rfl ?_;refine M_no rfl rfl rfl rfl rfl rfl ?_;refine M_no rfl rfl rfl rfl rfl rfl ?_
          refine M_no rfl rfl rfl rfl rfl rfl ?_;refine M0 (q_pickT rfl rfl rfl rfl) rfl rfl ?_;refine L_nil (T_n ?_);refine A_ifT rfl ?_;refine A_seq (A_region ?_)
          refine M0 (q_moveC rfl rfl rfl) rfl rfl ?_;refine M0 (q_mul rfl rfl rfl rfl (by omega)) rfl rfl ?_;refine M0 (q_add rfl rfl rfl rfl (by omega)) rfl rfl ?_
          refine M0 (q_assignC rfl rfl rfl) rfl rfl ?_;refine L_nil (T_n (A_region ?_));refine M0 (q_moveC rfl rfl rfl) rfl rfl ?_
          refine M0 (q_mul rfl rfl rfl rfl (by omega)) rfl rfl ?_;refine M0 (q_add rfl rfl rfl rfl (by omega)) rfl rfl ?_;refine M0 (q_assignC rfl rfl rfl) rfl rfl ?_;refine L_nil ?_
          refine T_n (A_seq (A_region ?_));refine M0 (q_moveC rfl rfl rfl) rfl rfl ?_;refine M0 (q_convI rfl rfl rfl rfl (wrap_i64 (by omega))) rfl rfl ?_
          refine M0 (q_sub rfl rfl rfl rfl (by omega)) rfl rfl ?_;refine M0 (q_moveC rfl rfl rfl) rfl rfl ?_;refine M0 (q_eqlK rfl rfl rfl rfl (by assumption)) rfl rfl ?_;refine L_nil ?_
          refine T_n ?_;refine A_ifT rfl ?_;refine A_seq (A_region ?_);refine M0 (q_moveC rfl rfl rfl) rfl rfl ?_;refine M0 (q_moveC rfl rfl rfl) rfl rfl ?_
          refine M0 (q_assignC rfl rfl rfl) rfl rfl ?_;refine M0 (q_assignC rfl rfl rfl) rfl rfl ?_;refine L_nil (T_n (A_ret (B_r (T_r (T_r ?_)))))
          refine B_r (B_r (T_r (T_r (B_r (T_r (F_r ?_))))))
          exact E_tmp2 rfl rfl rfl (W_end [] (by decide) rfl rfl rfl)
      have hb : decide (byteAt row (c : Int).toNat - 49 = p) = false := decide_eq_false (by show ¬ byteAt row c - 49 = p; omega)
      have hnd := colF_step hp_D (show isDig p (byteAt row c) = false from decide_eq_false hd)
      by_cases h35 : byteAt row c = 35
      · have hb3 : decide (byteAt row (c : Int).toNat ≠ 35) = false := decide_eq_false (fun q => q h35)
        have hnx : spX (openF l.Rows row r c) = spX (openF l.Rows row r (c + 1)) := by rw [openF_35 h35]
        have hny : spY (openF l.Rows row r c) = spY (openF l.Rows row r (c + 1)) := by rw [openF_35 h35]
        clear h35
        refine A_skip (T_n (A_seq (A_block (A_seq (A_region ?_)))));refine M0 (q_fldp rfl rfl rfl rfl (by decide)) rfl rfl ?_
        refine M0 (q_ld1 rfl rfl rfl rfl rfl) rfl rfl ?_;refine M0 (q_moveC rfl rfl rfl) rfl rfl ?_;refine M0 (q_at rfl rfl rfl rfl (by omega) (by assumption) rfl) rfl rfl ?_
        refine M0 (q_lr1 rfl rfl rfl rfl) rfl rfl ?_;refine M0 (q_moveC rfl rfl rfl) rfl rfl ?_;refine M0 (q_byte rfl rfl rfl rfl (by omega)) rfl rfl ?_
        refine M0 (q_assignC rfl rfl rfl) rfl rfl ?_;refine L_nil (T_n (A_seq (A_seq (A_region ?_))));refine M0 (q_moveC rfl rfl rfl) rfl rfl ?_
        refine M0 (q_neqK rfl rfl rfl rfl (by assumption)) rfl rfl ?_;refine M0 (q_moveC rfl rfl rfl) rfl rfl ?_;refine M_no rfl rfl rfl rfl rfl rfl ?_;refine M_no rfl rfl rfl rfl rfl rfl ?_
        refine M0 (q_pickF rfl rfl rfl rfl) rfl rfl ?_;refine M0 (q_moveC rfl rfl rfl) rfl rfl ?_;refine M_yes rfl rfl rfl ?_;refine M0 (q_moveC rfl rfl rfl) rfl rfl ?_
        refine M_yes rfl rfl rfl ?_;refine M0 (q_convI rfl rfl rfl rfl (wrap_i64 (by omega))) rfl rfl ?_;refine M_yes rfl rfl rfl ?_;refine M0 (q_sub rfl rfl rfl rfl (by omega)) rfl rfl ?_
        refine M_yes rfl rfl rfl ?_;refine M0 (q_moveC rfl rfl rfl) rfl rfl ?_;refine M_yes rfl rfl rfl ?_;refine M0 (q_eqlK rfl rfl rfl rfl (by assumption)) rfl rfl ?_
        refine M0 (q_pickF rfl rfl rfl rfl) rfl rfl ?_;refine L_nil (T_n ?_);refine A_ifF rfl ?_;refine A_skip (T_n (A_seq (A_region ?_)))
        refine M0 (q_moveC rfl rfl rfl) rfl rfl ?_;refine M0 (q_convI rfl rfl rfl rfl (wrap_i64 (by omega))) rfl rfl ?_;refine M0 (q_sub rfl rfl rfl rfl (by omega)) rfl rfl ?_
        refine M0 (q_moveC rfl rfl rfl) rfl rfl ?_;refine M0 (q_eqlK rfl rfl rfl rfl (by assumption)) rfl rfl ?_;refine L_nil (T_n ?_);refine A_ifF rfl ?_;refine A_skip (B_n ?_)
        refine T_n (A_region ?_);refine M0 (q_moveC rfl rfl rfl) rfl rfl ?_;refine M0 (q_add rfl rfl rfl rfl (by omega)) rfl rfl ?_;refine M0 (q_assignC rfl rfl rfl) rfl rfl ?_
        refine L_nil (T_n ?_)
        exact ⟨row.size - (c + 1),by omega,(fun c : Nat => (⟨_,[(1,I p),(2,.o (.c (.ptr 0 0))),(6,I (spX (openF l.Rows row r c))),(7,I (spY (openF l.Rows row r c))),(8,I r),(9,I c)],[.box ((Enc.e l).map (V1.rd []))]⟩ : St)) (c + 1),W_go [0] (by decide) rfl (rfl) (.cons rfl (.cons rfl (.cons (I_eq hnx) (.cons (I_eq hny) (.cons rfl (.cons rfl (.nil))))))),c + 1,by omega,hnd,rfl⟩
      have hb3 : decide (byteAt row (c : Int).toNat ≠ 35) = true := decide_eq_true h35
      have h35' := h35
      cases ho : openF l.Rows row r c with
      | some x =>
        have hlt : decide (spX (openF l.Rows row r c) < 0) = false := decide_eq_false (by rw [spX_neg,ho]; simp)
        have hnx : spX (some x) = spX (openF l.Rows row r (c + 1)) := by rw [openF_keep ho]
        have hny : spY (some x) = spY (openF l.Rows row r (c + 1)) := by rw [openF_keep ho]
        rw [ho] at hlt
        refine A_skip (T_n (A_seq (A_block (A_seq (A_region ?_)))));refine M0 (q_fldp rfl rfl rfl rfl (by decide)) rfl rfl ?_
        refine M0 (q_ld1 rfl rfl rfl rfl rfl) rfl rfl ?_;refine M0 (q_moveC rfl rfl rfl) rfl rfl ?_;refine M0 (q_at rfl rfl rfl rfl (by omega) (by assumption) rfl) rfl rfl ?_
        refine M0 (q_lr1 rfl rfl rfl rfl) rfl rfl ?_;refine M0 (q_moveC rfl rfl rfl) rfl rfl ?_;refine M0 (q_byte rfl rfl rfl rfl (by omega)) rfl rfl ?_
        refine M0 (q_assignC rfl rfl rfl) rfl rfl ?_;refine L_nil (T_n (A_seq (A_seq (A_region ?_))));refine M0 (q_moveC rfl rfl rfl) rfl rfl ?_
        refine M0 (q_neqK rfl rfl rfl rfl (by assumption)) rfl rfl ?_;refine M0 (q_moveC rfl rfl rfl) rfl rfl ?_;refine M_yes rfl rfl rfl ?_;refine M0 (q_moveC rfl rfl rfl) rfl rfl ?_
        refine M_yes rfl rfl rfl ?_;refine M0 (q_lssK rfl rfl rfl rfl (by assumption)) rfl rfl ?_;refine M0 (q_pickT rfl rfl rfl rfl) rfl rfl ?_;refine M0 (q_moveC rfl rfl rfl) rfl rfl ?_
        refine M_yes rfl rfl rfl ?_;refine M0 (q_moveC rfl rfl rfl) rfl rfl ?_;refine M_yes rfl rfl rfl ?_;refine M0 (q_convI rfl rfl rfl rfl (wrap_i64 (by omega))) rfl rfl ?_
        refine M_yes rfl rfl rfl ?_;refine M0 (q_sub rfl rfl rfl rfl (by omega)) rfl rfl ?_;refine M_yes rfl rfl rfl ?_;refine M0 (q_moveC rfl rfl rfl) rfl rfl ?_;refine M_yes rfl rfl rfl ?_
        refine M0 (q_eqlK rfl rfl rfl rfl (by assumption)) rfl rfl ?_;refine M0 (q_pickF rfl rfl rfl rfl) rfl rfl ?_;refine L_nil (T_n ?_);refine A_ifF rfl ?_;refine A_skip ?_
        refine T_n (A_seq (A_region ?_));refine M0 (q_moveC rfl rfl rfl) rfl rfl ?_;refine M0 (q_convI rfl rfl rfl rfl (wrap_i64 (by omega))) rfl rfl ?_
        refine M0 (q_sub rfl rfl rfl rfl (by omega)) rfl rfl ?_;refine M0 (q_moveC rfl rfl rfl) rfl rfl ?_;refine M0 (q_eqlK rfl rfl rfl rfl (by assumption)) rfl rfl ?_;refine L_nil ?_
        refine T_n ?_;refine A_ifF rfl ?_;refine A_skip (B_n (T_n (A_region ?_)));refine M0 (q_moveC rfl rfl rfl) rfl rfl ?_
        refine M0 (q_add rfl rfl rfl rfl (by omega)) rfl rfl ?_;refine M0 (q_assignC rfl rfl rfl) rfl rfl ?_;refine L_nil (T_n ?_)
        exact ⟨row.size - (c + 1),by omega,(fun c : Nat => (⟨_,[(1,I p),(2,.o (.c (.ptr 0 0))),(6,I (spX (openF l.Rows row r c))),(7,I (spY (openF l.Rows row r c))),(8,I r),(9,I c)],[.box ((Enc.e l).map (V1.rd []))]⟩ : St)) (c + 1),W_go [0] (by decide) rfl (rfl) (.cons rfl (.cons rfl (.cons (I_eq hnx) (.cons (I_eq hny) (.cons rfl (.cons rfl (.nil))))))),c + 1,by omega,hnd,rfl⟩
      | none =>
        have hlt : decide (spX none < 0) = true := rfl
        have hnx : 16 * (c : Int) + 2 = spX (openF l.Rows row r (c + 1)) := by rw [openF_step ho,if_neg h35']; rfl
        have hny : 16 * (r : Int) + 2 = spY (openF l.Rows row r (c + 1)) := by rw [openF_step ho,if_neg h35']; rfl
        refine A_skip (T_n (A_seq (A_block (A_seq (A_region ?_)))));refine M0 (q_fldp rfl rfl rfl rfl (by decide)) rfl rfl ?_
        refine M0 (q_ld1 rfl rfl rfl rfl rfl) rfl rfl ?_;refine M0 (q_moveC rfl rfl rfl) rfl rfl ?_;refine M0 (q_at rfl rfl rfl rfl (by omega) (by assumption) rfl) rfl rfl ?_
        refine M0 (q_lr1 rfl rfl rfl rfl) rfl rfl ?_;refine M0 (q_moveC rfl rfl rfl) rfl rfl ?_;refine M0 (q_byte rfl rfl rfl rfl (by omega)) rfl rfl ?_
        refine M0 (q_assignC rfl rfl rfl) rfl rfl ?_;refine L_nil (T_n (A_seq (A_seq (A_region ?_))));refine M0 (q_moveC rfl rfl rfl) rfl rfl ?_
        refine M0 (q_neqK rfl rfl rfl rfl (by assumption)) rfl rfl ?_;refine M0 (q_moveC rfl rfl rfl) rfl rfl ?_;refine M_yes rfl rfl rfl ?_;refine M0 (q_moveC rfl rfl rfl) rfl rfl ?_
        refine M_yes rfl rfl rfl ?_;refine M0 (q_lssK rfl rfl rfl rfl (by assumption)) rfl rfl ?_;refine M0 (q_pickT rfl rfl rfl rfl) rfl rfl ?_;refine M0 (q_moveC rfl rfl rfl) rfl rfl ?_
        refine M_no rfl rfl rfl rfl rfl rfl ?_;refine M_no rfl rfl rfl rfl rfl rfl ?_;refine M_no rfl rfl rfl rfl rfl rfl ?_;refine M_no rfl rfl rfl rfl rfl rfl ?_
        refine M_no rfl rfl rfl rfl rfl rfl ?_;refine M0 (q_pickT rfl rfl rfl rfl) rfl rfl ?_;refine L_nil (T_n ?_);refine A_ifT rfl ?_;refine A_seq (A_region ?_)
        refine M0 (q_moveC rfl rfl rfl) rfl rfl ?_;refine M0 (q_mul rfl rfl rfl rfl (by omega)) rfl rfl ?_;refine M0 (q_add rfl rfl rfl rfl (by omega)) rfl rfl ?_
        refine M0 (q_assignC rfl rfl rfl) rfl rfl ?_;refine L_nil (T_n (A_region ?_));refine M0 (q_moveC rfl rfl rfl) rfl rfl ?_
        refine M0 (q_mul rfl rfl rfl rfl (by omega)) rfl rfl ?_;refine M0 (q_add rfl rfl rfl rfl (by omega)) rfl rfl ?_;refine M0 (q_assignC rfl rfl rfl) rfl rfl ?_;refine L_nil ?_
        refine T_n (A_seq (A_region ?_));refine M0 (q_moveC rfl rfl rfl) rfl rfl ?_;refine M0 (q_convI rfl rfl rfl rfl (wrap_i64 (by omega))) rfl rfl ?_
        refine M0 (q_sub rfl rfl rfl rfl (by omega)) rfl rfl ?_;refine M0 (q_moveC rfl rfl rfl) rfl rfl ?_;refine M0 (q_eqlK rfl rfl rfl rfl (by assumption)) rfl rfl ?_;refine L_nil ?_
        refine T_n ?_;refine A_ifF rfl ?_;refine A_skip (B_n (T_n (A_region ?_)));refine M0 (q_moveC rfl rfl rfl) rfl rfl ?_
        refine M0 (q_add rfl rfl rfl rfl (by omega)) rfl rfl ?_;refine M0 (q_assignC rfl rfl rfl) rfl rfl ?_;refine L_nil (T_n ?_)
        exact ⟨row.size - (c + 1),by omega,(fun c : Nat => (⟨_,[(1,I p),(2,.o (.c (.ptr 0 0))),(6,I (spX (openF l.Rows row r c))),(7,I (spY (openF l.Rows row r c))),(8,I r),(9,I c)],[.box ((Enc.e l).map (V1.rd []))]⟩ : St)) (c + 1),W_go [0] (by decide) rfl (rfl) (.cons rfl (.cons rfl (.cons (I_eq hnx) (.cons (I_eq hny) (.cons rfl (.cons rfl (.nil))))))),c + 1,by omega,hnd,rfl⟩
    · have h4 : c = row.size := by have := of_decide_eq_false h4; omega
      subst h4
      refine A_exit (T_x (T_x (B_xs (B_n (T_n (A_region ?_))))));refine M0 (q_moveC rfl rfl rfl) rfl rfl ?_
      refine M0 (q_add rfl rfl rfl rfl (by omega)) rfl rfl ?_;refine M0 (q_assignC rfl rfl rfl) rfl rfl ?_;refine L_nil (T_n ?_)
      exact ⟨l.Rows.length - (r + 1),by omega,(fun r : Nat => (⟨_,[(1,I p),(2,.o (.c (.ptr 0 0))),(6,I (spX (tileF isOpen l.Rows r))),(7,I (spY (tileF isOpen l.Rows r))),(8,I r)],[.box ((Enc.e l).map (V1.rd []))]⟩ : St)) (r + 1),W_go [0] (by decide) rfl (rfl) (.cons rfl (.cons rfl (.cons (I_eq (by rw [← openF_end hrow])) (.cons (I_eq (by rw [← openF_end hrow])) (.cons rfl (.nil)))))),r + 1,by omega,tileF_step hp_A hrow hp_D,rfl⟩
  · have h3 : r = l.Rows.length := by have := of_decide_eq_false h; omega
    rw [start_open hp_A h3]
    refine A_exit (T_x (T_x (B_xs (T_n (A_seq (A_region ?_))))));refine M0 (q_moveC rfl rfl rfl) rfl rfl ?_
    refine M0 (q_moveC rfl rfl rfl) rfl rfl ?_;refine M0 (q_assignC rfl rfl rfl) rfl rfl ?_;refine M0 (q_assignC rfl rfl rfl) rfl rfl ?_;refine L_nil (T_n (A_ret ?_))
    refine F_r ?_
    exact E_tmp2 rfl rfl rfl (W_end [] (by decide) rfl rfl rfl)
end Go.Proofs.Ytmljakmaffbnlaa
end

section
set_option linter.unusedSimpArgs false
set_option linter.unusedVariables false
set_option maxRecDepth 8000
namespace Go.Proofs.Ytmljakmaffbnlaa
open Go.RowKit

set_option maxHeartbeats 8000000 in
theorem I_fresh (l : TLevel) (p : Int) (hg : Enc.gd l) (hl : levelOk l = true) (hp : 0 ≤ p ∧ p ≤ 3) : Con Try.prog 77 [] [ag l,ai p] [] (.o (.ag ((Enc.e (fresh l p)).map (V1.rd [])))) := by
  have hc := I_StartOf l p hg hl hp
  refine Con.of Try.func77 rfl Try.ntmps77 rfl (fun E => ?_)
  refine A_seq (A_region ?_);refine M1 (q_boxN rfl rfl rfl rfl) rfl rfl ?_;refine M1 (q_alloc rfl rfl rfl) rfl rfl ?_;refine L_nil (T_n (A_seq ?_))
  refine A_region ?_;refine M0 (q_ldN rfl rfl rfl rfl rfl rfl) rfl rfl ?_;refine M0 (q_moveC rfl rfl rfl) rfl rfl ?_;refine M1 (q_call rfl rfl (hc) rfl rfl rfl) rfl rfl ?_
  refine M0 (q_moveT rfl rfl rfl) rfl rfl ?_;refine M0 (q_ext rfl rfl rfl rfl) rfl rfl ?_;refine M0 (q_ext rfl rfl rfl rfl) rfl rfl ?_;refine M0 (q_assignC rfl rfl rfl) rfl rfl ?_
  refine M0 (q_assignC rfl rfl rfl) rfl rfl ?_;refine L_nil (T_n (A_seq (A_region ?_)));refine M0 (q_moveC rfl rfl rfl) rfl rfl ?_
  refine M0 (q_moveC rfl rfl rfl) rfl rfl ?_;refine M0 (q_moveC rfl rfl rfl) rfl rfl ?_;refine M0 (q_build rfl rfl rfl rfl rfl) rfl rfl ?_
  refine M_stN rfl rfl rfl rfl rfl rfl rfl rfl rfl ?_;refine L_nil (T_n (A_ret (F_r ?_)))
  exact E_cell rfl rfl rfl rfl (W_end [] (by decide) rfl rfl rfl)
set_option maxHeartbeats 8000000 in
theorem S_fresh (l : TLevel) (p : Int) (hg : Enc.gd l) (hl : levelOk l = true) (hp : 0 ≤ p ∧ p ≤ 3) : Con Try.prog 69 [] [ag l,ai p] [] (.o (.ag ((Enc.e (fresh l p)).map (V1.rd [])))) := by
  have hc := S_StartOf l p hg hl hp
  refine Con.of Try.func69 rfl Try.ntmps69 rfl (fun E => ?_)
  refine A_seq (A_region ?_);refine M1 (q_boxN rfl rfl rfl rfl) rfl rfl ?_;refine M1 (q_alloc rfl rfl rfl) rfl rfl ?_;refine L_nil (T_n (A_seq ?_))
  refine A_region ?_;refine M0 (q_ldN rfl rfl rfl rfl rfl rfl) rfl rfl ?_;refine M0 (q_moveC rfl rfl rfl) rfl rfl ?_;refine M1 (q_call rfl rfl (hc) rfl rfl rfl) rfl rfl ?_
  refine M0 (q_moveT rfl rfl rfl) rfl rfl ?_;refine M0 (q_ext rfl rfl rfl rfl) rfl rfl ?_;refine M0 (q_ext rfl rfl rfl rfl) rfl rfl ?_;refine M0 (q_assignC rfl rfl rfl) rfl rfl ?_
  refine M0 (q_assignC rfl rfl rfl) rfl rfl ?_;refine L_nil (T_n (A_seq (A_region ?_)));refine M0 (q_moveC rfl rfl rfl) rfl rfl ?_
  refine M0 (q_moveC rfl rfl rfl) rfl rfl ?_;refine M0 (q_moveC rfl rfl rfl) rfl rfl ?_;refine M0 (q_build rfl rfl rfl rfl rfl) rfl rfl ?_
  refine M_stN rfl rfl rfl rfl rfl rfl rfl rfl rfl ?_;refine L_nil (T_n (A_ret (F_r ?_)))
  exact E_cell rfl rfl rfl rfl (W_end [] (by decide) rfl rfl rfl)
theorem row6w {a b c d e : Ob} {k : Nat} {x y : List (List T)} (h : x = y) : [a,b,c,d,e,Ob.row k x] = [a,b,c,d,e,Ob.row k y] := by rw [h]
def freshs (l : TLevel) (k : Nat) : List TBody := (List.range k).map fun (k : Nat) => fresh l (k : Int)
theorem freshs_succ (l : TLevel) (k : Nat) : freshs l (k + 1) = freshs l k ++ [fresh l k] := by simp [freshs,List.range_succ]
theorem freshs_len (l : TLevel) (k : Nat) : (freshs l k).length = k := by simp [freshs]
theorem zeros_els (n : Nat) : els (List.replicate n (0 : Int)) = List.replicate n [.v (.int .i64 0)] := by simp [els,Enc.e]
theorem newWorld_gd {l : TLevel} {n : Nat} {seed : Int} (hg : Enc.gd l) (hl : levelOk l = true) (hn : 1 ≤ n ∧ n ≤ 4) (hs : inR seed 0 65535 = true) : Enc.gd (newWorld l n seed) := by
  have h0 : I64 0 := ⟨by decide,by decide⟩
  have hsd := inR_iff.1 hs
  refine ⟨hg,h0,⟨by show (-9223372036854775808 : Int) ≤ seed; omega,by show seed ≤ 9223372036854775807; omega⟩,⟨by simp [newWorld]; omega,fun x hx => ?_⟩,⟨by simp [newWorld]; omega,fun b hb => ?_⟩⟩
  · have : x = 0 := by simpa [newWorld] using List.eq_of_mem_replicate hx
    rw [this]; exact h0
  · simp only [newWorld,List.mem_map,List.mem_range] at hb
    obtain ⟨k,hk,rfl⟩ := hb
    obtain ⟨_,h3,h4⟩ := fresh_free hl (p := (k : Int)) (by omega)
    exact ⟨h0,⟨by show (-9223372036854775808 : Int) ≤ (k : Int); omega,by show (k : Int) ≤ 9223372036854775807; omega⟩,⟨by omega,by omega⟩,⟨by omega,by omega⟩,h0,h0,⟨by simp only [fresh]; omega,by simp only [fresh]; omega⟩,⟨by simp only [fresh]; omega,by simp only [fresh]; omega⟩,h0⟩
set_option maxHeartbeats 8000000 in
theorem I_NewWorld (l : TLevel) (n : Nat) (seed : Int) (hg : Enc.gd l) (hL : l.Rows.length ≤ 1048576) (hl : levelOk l = true) (hn : 1 ≤ n ∧ n ≤ 4) (hs : inR seed 0 65535 = true) : Con Try.prog 39 [] [ag l,ai n,ai seed] (ownO (Enc.e (newWorld l n seed))) (.tu [.ag (ownV 0 (Enc.e (newWorld l n seed))),.c (bv true)]) := by
  have c1 := I_LevelOk l hg
  have c2 := I_between n 1 4
  have c3 := I_between seed 0 65535
  rw [hl] at c1
  rw [inR_iff.2 (by omega)] at c2
  rw [hs] at c3
  have hwk := I_WorldOk (newWorld l n seed) (newWorld_gd hg hl hn hs)
  rw [newWorld_ok hl hn hs] at hwk
  have hcl := I_copyLevel l hg hL
  refine Con.of Try.func39 rfl Try.ntmps39 rfl (fun E => ?_)
  refine A_seq (A_region ?_);refine M1 (q_boxN rfl rfl rfl rfl) rfl rfl ?_;refine M1 (q_alloc rfl rfl rfl) rfl rfl ?_;refine M0 (q_assignC rfl rfl rfl) rfl rfl ?_;refine L_nil ?_
  refine T_n (A_seq (A_seq (A_region ?_)));refine M0 (q_ldN rfl rfl rfl rfl rfl rfl) rfl rfl ?_;refine M0 (q_call0 rfl rfl (c1) rfl) rfl rfl ?_
  refine M0 (q_not rfl rfl rfl) rfl rfl ?_;refine M0 (q_moveC rfl rfl rfl) rfl rfl ?_;refine M_yes rfl rfl rfl ?_;refine M0 (q_moveC rfl rfl rfl) rfl rfl ?_;refine M_yes rfl rfl rfl ?_
  refine M0 (q_call0 rfl rfl (c2) rfl) rfl rfl ?_;refine M_yes rfl rfl rfl ?_;refine M0 (q_not rfl rfl rfl) rfl rfl ?_;refine M0 (q_pickF rfl rfl rfl rfl) rfl rfl ?_
  refine M0 (q_moveC rfl rfl rfl) rfl rfl ?_;refine M_yes rfl rfl rfl ?_;refine M0 (q_moveC rfl rfl rfl) rfl rfl ?_;refine M_yes rfl rfl rfl ?_
  refine M0 (q_call0 rfl rfl (c3) rfl) rfl rfl ?_;refine M_yes rfl rfl rfl ?_;refine M0 (q_not rfl rfl rfl) rfl rfl ?_;refine M0 (q_pickF rfl rfl rfl rfl) rfl rfl ?_;refine L_nil ?_
  refine T_n ?_;refine A_ifF rfl ?_;refine A_skip (T_n (A_seq ?_))
  refine AWP.pre (st' := (⟨_,[(1,I n),(2,I seed),(3,.o (.c (.ptr 0 0))),(6,.o (.c (.ptr 1 0)))],[.box ((Enc.e l).map (V1.rd [])),.box [nilV,jn 0,jn 0,nilV,nilV]]⟩ : St)) ?_ (W_go [0,1] (by decide) rfl (rfl) (.cons rfl (.cons rfl (.cons rfl (.cons rfl (.nil))))))
  skip
  refine A_draw [[],[0],[],[],[3],[0,1,2,3,4],[],[0,1,2,3,4,5,6]] [[],[24],[],[],[27],[24,25,26,27,28],[],[8,24,25,26,27,28,29]] [[8,26,27,28],[8,26,27,28],[8,24,25,27,28],[8,24,25,26],[8,24,25,26],[8],[24,25,26,27,28,29],[]] rfl ?_
  refine DR.step (q_ldN rfl rfl rfl rfl rfl rfl) rfl rfl ?_;refine DR.step (q_call rfl rfl (hcl) rfl rfl rfl) rfl rfl ?_;refine DR.step (q_moveC rfl rfl rfl) rfl rfl ?_
  refine DR.step (q_moveC rfl rfl rfl) rfl rfl ?_;refine DR.step (q_make 0 rfl rfl rfl rfl (by omega) (by omega) (by omega) rfl (by decide)) rfl rfl ?_
  refine DR.step (q_build rfl rfl rfl rfl rfl) rfl rfl ?_;refine DR.step (q_alloc rfl rfl rfl) rfl rfl ?_;refine DR.stop (by kernel_rfl) (by kernel_rfl) ?_
  refine AL.weak (st' := (⟨_,[(1,I n),(3,.o (.c (.ptr 0 0))),(6,.o (.c (.ptr 1 0))),(8,.o (.c (.ptr 4 0))),(29,.o (.ag [.ref 2,jn 0,jn seed,.ref 3,nilV]))],[.box ((Enc.e l).map (V1.rd [])),.box [nilV,jn 0,jn 0,nilV,nilV],.row 1 (els l.Rows),.row 1 (els (List.replicate n (0 : Int))),.box [nilV,jn 0,jn 0,nilV,nilV]]⟩ : St)) (W_go [0,1,2,3,4] (by decide) rfl ((by rw [zeros_els]; rfl)) (.cons rfl (.cons rfl (.cons rfl (.cons rfl (.cons rfl (.nil))))))) ?_
  refine M_stN rfl rfl rfl rfl rfl rfl rfl rfl rfl ?_;refine L_nil (T_n (A_seq (A_seq (A_region ?_))));refine M0 (q_assignC rfl rfl rfl) rfl rfl ?_
  refine L_nil (T_n (A_block ?_))
  refine AWP.pre (st' := (⟨_,[(1,I n),(3,.o (.c (.ptr 0 0))),(6,.o (.c (.ptr 1 0))),(8,.o (.c (.ptr 4 0))),(9,I 0)],[.box ((Enc.e l).map (V1.rd [])),.box [nilV,jn 0,jn 0,nilV,nilV],.row 1 (els l.Rows),.row 1 (els (List.replicate n (0 : Int))),.box [.ref 2,jn 0,jn seed,.ref 3,nilV]]⟩ : St)) ?_ (W_go [0,1,2,3,4] (by decide) rfl (rfl) (.cons rfl (.cons rfl (.cons rfl (.cons rfl (.cons rfl (.nil)))))))
  refine AWP.pre ?_ (Wk.nilbox (p := 4) (i := 4) 9 rfl rfl)
  refine A_loop (fun m st => ∃ k : Nat,k + m = n ∧ (True) ∧ st = (fun k : Nat => (⟨_,[(1,I n),(3,.o (.c (.ptr 0 0))),(6,.o (.c (.ptr 1 0))),(8,.o (.c (.ptr 4 0))),(9,I k)],[.box ((Enc.e l).map (V1.rd [])),.box [nilV,jn 0,jn 0,nilV,nilV],.row 1 (els l.Rows),.row 1 (els (List.replicate n (0 : Int))),.box [.ref 2,jn 0,jn seed,.ref 3,.ref 5],.row 9 (els (freshs l k))]⟩ : St)) k) (n) ⟨(fun k : Nat => (⟨_,[(1,I n),(3,.o (.c (.ptr 0 0))),(6,.o (.c (.ptr 1 0))),(8,.o (.c (.ptr 4 0))),(9,I k)],[.box ((Enc.e l).map (V1.rd [])),.box [nilV,jn 0,jn 0,nilV,nilV],.row 1 (els l.Rows),.row 1 (els (List.replicate n (0 : Int))),.box [.ref 2,jn 0,jn seed,.ref 3,.ref 5],.row 9 (els (freshs l k))]⟩ : St)) 0,W_go [0,1,2,3,4,5] (by decide) rfl (rfl) (.cons rfl (.cons rfl (.cons rfl (.cons rfl (.cons rfl (.nil)))))),0,by omega,trivial,rfl⟩ ?_
  rintro m_A _ ⟨k,hk_A,hp_A,rfl⟩
  have hlk := els_len (freshs l k)
  have hlk2 := freshs_len l k
  refine A_seq (A_seq (A_region ?_));refine M0 (q_moveC rfl rfl rfl) rfl rfl ?_;refine M0 (q_moveC rfl rfl rfl) rfl rfl ?_;refine M0 (q_lss rfl rfl rfl rfl) rfl rfl ?_
  refine L_nil (T_n ?_)
  refine A_cond rfl (fun h => ?_) (fun h => ?_)
  · have h3 : k < n := by have := of_decide_eq_true h; omega
    have hf := I_fresh l k hg hl (by omega)
    refine A_skip (T_n (A_seq (A_block ?_)))
    refine A_draw [[],[0],[],[],[2,3],[2,3,4],[0,1,2,3,4,5],[0,1,2,3,4,5,6],[0,1,2,3,4,5,6,7]] [[],[35],[],[],[37,38],[37,38,39],[35,36,37,38,39,40],[35,36,37,38,39,40,41],[35,36,37,38,39,40,41,42]] [[37,38,39,40],[37,38,39,40],[35,36,38],[35,36,37],[35,36],[35,36],[],[],[]] rfl ?_
    refine DR.step (q_fldp rfl rfl rfl rfl (by decide)) rfl rfl ?_;refine DR.step (q_ld1 rfl rfl rfl rfl rfl) rfl rfl ?_;refine DR.step (q_ldN rfl rfl rfl rfl rfl rfl) rfl rfl ?_
    refine DR.step (q_moveC rfl rfl rfl) rfl rfl ?_;refine DR.step (q_call rfl rfl (hf) rfl rfl rfl) rfl rfl ?_;refine DR.step (q_bslice rfl rfl rfl rfl rfl rfl) rfl rfl ?_
    refine DR.stop (by kernel_rfl) (by kernel_rfl) ?_
    refine AL.weak (st' := (⟨_,[(1,I n),(3,.o (.c (.ptr 0 0))),(6,.o (.c (.ptr 1 0))),(8,.o (.c (.ptr 4 0))),(9,I k),(36,.o (.c (.ref 5))),(40,.o (.c (.sb 6 1 9)))],[.box ((Enc.e l).map (V1.rd [])),.box [nilV,jn 0,jn 0,nilV,nilV],.row 1 (els l.Rows),.row 1 (els (List.replicate n (0 : Int))),.box [.ref 2,jn 0,jn seed,.ref 3,.ref 5],.row 9 (els (freshs l k)),.box [jn 0,jn (k : Int),jn (spX (startT l k)),jn (spY (startT l k)),jn 0,jn 0,jn 1,jn 3,jn 0]]⟩ : St)) (W_go [0,1,2,3,4,5,6] (by decide) rfl (rfl) (.cons rfl (.cons rfl (.cons rfl (.cons rfl (.cons rfl (.cons rfl (.cons rfl (.nil))))))))) ?_
    refine M_appo rfl rfl rfl rfl rfl rfl rfl rfl rfl rfl rfl rfl rfl rfl (by omega) (by omega) ?_;refine M0 (q_fldp rfl rfl rfl rfl (by decide)) rfl rfl ?_
    refine M_st1 rfl rfl rfl rfl rfl rfl rfl rfl ?_;refine L_nil (B_n (T_n (A_region ?_)));refine M0 (q_moveC rfl rfl rfl) rfl rfl ?_
    refine M0 (q_add rfl rfl rfl rfl (by omega)) rfl rfl ?_;refine M0 (q_assignC rfl rfl rfl) rfl rfl ?_;refine L_nil (T_n ?_)
    exact ⟨n - (k + 1),by omega,(fun k : Nat => (⟨_,[(1,I n),(3,.o (.c (.ptr 0 0))),(6,.o (.c (.ptr 1 0))),(8,.o (.c (.ptr 4 0))),(9,I k)],[.box ((Enc.e l).map (V1.rd [])),.box [nilV,jn 0,jn 0,nilV,nilV],.row 1 (els l.Rows),.row 1 (els (List.replicate n (0 : Int))),.box [.ref 2,jn 0,jn seed,.ref 3,.ref 5],.row 9 (els (freshs l k))]⟩ : St)) (k + 1),W_go [0,1,2,3,4,5] (by decide) rfl (row6w (by rw [freshs_succ]; simp [els]; rfl)) (.cons rfl (.cons rfl (.cons rfl (.cons rfl (.cons rfl (.nil)))))),k + 1,by omega,trivial,rfl⟩
  have h3 : k = n := by have := of_decide_eq_false h; omega
  subst h3
  refine A_exit (T_x (T_x (B_xs (T_n (A_seq (A_seq (A_region ?_)))))));refine M0 (q_ldN rfl rfl rfl rfl rfl rfl) rfl rfl ?_
  refine M0 (q_call0 rfl rfl (hwk) rfl) rfl rfl ?_;refine M0 (q_not rfl rfl rfl) rfl rfl ?_;refine L_nil (T_n ?_);refine A_ifF rfl ?_;refine A_skip (T_n (A_seq ?_))
  refine A_region ?_;refine M0 (q_ldN rfl rfl rfl rfl rfl rfl) rfl rfl ?_;refine M_stN rfl rfl rfl rfl rfl rfl rfl rfl rfl ?_;refine M0 (q_assignC rfl rfl rfl) rfl rfl ?_;refine L_nil ?_
  refine T_n (A_ret (F_r ?_))
  exact E_cellt rfl rfl rfl rfl rfl (W_end [2,3,5] (by decide) rfl rfl rfl)
theorem reps_succ (k : Nat) : els (List.replicate k (0 : Int)) ++ [[.v (.int .i64 0)]] = els (List.replicate (k + 1) (0 : Int)) := by rw [List.replicate_succ']; simp [els,Enc.e]
theorem row65 {a b c d e : Ob} {k : Nat} {x y : List (List T)} (h : x = y) : [a,b,c,d,Ob.row k x,e] = [a,b,c,d,Ob.row k y,e] := by rw [h]
set_option maxHeartbeats 8000000 in
theorem S_NewWorld (l : TLevel) (n : Nat) (seed : Int) (hg : Enc.gd l) (hL : l.Rows.length ≤ 1048576) (hl : levelOk l = true) (hn : 1 ≤ n ∧ n ≤ 4) (hs : inR seed 0 65535 = true) : Con Try.prog 32 [] [ag l,ai n,ai seed] (ownO (Enc.e (newWorld l n seed))) (.tu [.ag (ownV 0 (Enc.e (newWorld l n seed))),.c (bv true)]) := by
  have hwk := S_WorldOk (newWorld l n seed) (newWorld_gd hg hl hn hs)
  rw [newWorld_ok hl hn hs] at hwk
  have hcl := S_copyLevel l hg hL
  refine Con.of Try.func32 rfl Try.ntmps32 rfl (fun E => ?_)
  refine A_seq (A_region ?_);refine M1 (q_boxN rfl rfl rfl rfl) rfl rfl ?_;refine M1 (q_alloc rfl rfl rfl) rfl rfl ?_;refine M0 (q_assignC rfl rfl rfl) rfl rfl ?_;refine L_nil ?_
  refine T_n (A_seq (A_region ?_));refine M0 (q_ldN rfl rfl rfl rfl rfl rfl) rfl rfl ?_;refine M1 (q_call rfl rfl (hcl) rfl rfl rfl) rfl rfl ?_
  refine M0 (q_moveC rfl rfl rfl) rfl rfl ?_;refine M0 (q_build rfl rfl rfl rfl rfl) rfl rfl ?_;refine M1 (q_alloc rfl rfl rfl) rfl rfl ?_
  refine M_stN rfl rfl rfl rfl rfl rfl rfl rfl rfl ?_;refine L_nil (T_n (A_seq (A_seq (A_region ?_))));refine M0 (q_assignC rfl rfl rfl) rfl rfl ?_
  refine L_nil (T_n (A_block ?_))
  refine AWP.pre (st' := (⟨_,[(1,I n),(3,.o (.c (.ptr 0 0))),(6,.o (.c (.ptr 1 0))),(8,.o (.c (.ptr 3 0))),(9,I 0)],[.box ((Enc.e l).map (V1.rd [])),.box [nilV,jn 0,jn 0,nilV,nilV],.row 1 (els l.Rows),.box [.ref 2,jn 0,jn seed,nilV,nilV]]⟩ : St)) ?_ (W_go [0,1,2,3] (by decide) rfl (rfl) (.cons rfl (.cons rfl (.cons rfl (.cons rfl (.cons rfl (.nil)))))))
  refine AWP.pre ?_ (Wk.nilbox (p := 3) (i := 3) 1 rfl rfl)
  refine AWP.pre ?_ (Wk.nilbox (p := 3) (i := 4) 9 rfl rfl)
  refine A_loop (fun m st => ∃ k : Nat,k + m = n ∧ (True) ∧ st = (fun k : Nat => (⟨_,[(1,I n),(3,.o (.c (.ptr 0 0))),(6,.o (.c (.ptr 1 0))),(8,.o (.c (.ptr 3 0))),(9,I k)],[.box ((Enc.e l).map (V1.rd [])),.box [nilV,jn 0,jn 0,nilV,nilV],.row 1 (els l.Rows),.box [.ref 2,jn 0,jn seed,.ref 4,.ref 5],.row 1 (els (List.replicate k (0 : Int))),.row 9 (els (freshs l k))]⟩ : St)) k) (n) ⟨(fun k : Nat => (⟨_,[(1,I n),(3,.o (.c (.ptr 0 0))),(6,.o (.c (.ptr 1 0))),(8,.o (.c (.ptr 3 0))),(9,I k)],[.box ((Enc.e l).map (V1.rd [])),.box [nilV,jn 0,jn 0,nilV,nilV],.row 1 (els l.Rows),.box [.ref 2,jn 0,jn seed,.ref 4,.ref 5],.row 1 (els (List.replicate k (0 : Int))),.row 9 (els (freshs l k))]⟩ : St)) 0,W_go [0,1,2,3,4,5] (by decide) rfl (rfl) (.cons rfl (.cons rfl (.cons rfl (.cons rfl (.cons rfl (.nil)))))),0,by omega,trivial,rfl⟩ ?_
  rintro m_A _ ⟨k,hk_A,hp_A,rfl⟩
  have hlk := els_len (freshs l k)
  have hlk2 := freshs_len l k
  have hl0 : (els (List.replicate k (0 : Int))).length = k := by rw [els_len,List.length_replicate]
  have f2 : decide ((k : Int) ≤ 4) = true := decide_eq_true (by omega)
  by_cases h3 : k < n
  · have f1 : decide ((k : Int) < n) = true := decide_eq_true (by omega)
    have hf := S_fresh l k hg hl (by omega)
    refine A_seq (A_seq (A_region ?_));refine M0 (q_moveC rfl rfl rfl) rfl rfl ?_;refine M0 (q_moveC rfl rfl rfl) rfl rfl ?_
    refine M0 (q_lssK rfl rfl rfl rfl (by assumption)) rfl rfl ?_;refine M0 (q_moveC rfl rfl rfl) rfl rfl ?_;refine M_yes rfl rfl rfl ?_;refine M0 (q_moveC rfl rfl rfl) rfl rfl ?_
    refine M_yes rfl rfl rfl ?_;refine M0 (q_leqK rfl rfl rfl rfl (by assumption)) rfl rfl ?_;refine M0 (q_pickT rfl rfl rfl rfl) rfl rfl ?_;refine L_nil (T_n ?_)
    refine A_ifT rfl ?_;refine A_skip (T_n (A_seq (A_block (A_seq (A_region ?_)))));refine M0 (q_fldp rfl rfl rfl rfl (by decide)) rfl rfl ?_
    refine M0 (q_ld1 rfl rfl rfl rfl rfl) rfl rfl ?_;refine M1 (q_bslice rfl rfl rfl rfl rfl rfl) rfl rfl ?_
    refine M_appsb rfl rfl rfl rfl rfl rfl rfl rfl rfl rfl (by omega) (by omega) ?_;refine M0 (q_fldp rfl rfl rfl rfl (by decide)) rfl rfl ?_
    refine M_st1 rfl rfl rfl rfl rfl rfl rfl rfl ?_;refine L_nil (T_n ?_)
    refine AWP.pre (st' := (⟨_,[(1,I n),(3,.o (.c (.ptr 0 0))),(6,.o (.c (.ptr 1 0))),(8,.o (.c (.ptr 3 0))),(9,I k)],[.box ((Enc.e l).map (V1.rd [])),.box [nilV,jn 0,jn 0,nilV,nilV],.row 1 (els l.Rows),.box [.ref 2,jn 0,jn seed,.ref 4,.ref 5],.row 1 (els (List.replicate (k + 1) (0 : Int))),.row 9 (els (freshs l k))]⟩ : St)) ?_ (W_go [0,1,2,3,4,5] (by decide) rfl ((row65 (reps_succ k).symm)) (.cons rfl (.cons rfl (.cons rfl (.cons rfl (.cons rfl (.nil)))))))
    refine A_draw [[],[0],[],[],[2,3],[2,3,4],[0,1,2,3,4,5],[0,1,2,3,4,5,6],[0,1,2,3,4,5,6,7]] [[],[28],[],[],[30,31],[30,31,32],[28,29,30,31,32,33],[28,29,30,31,32,33,34],[28,29,30,31,32,33,34,35]] [[30,31,32,33],[30,31,32,33],[28,29,31],[28,29,30],[28,29],[28,29],[],[],[]] rfl ?_
    refine DR.step (q_fldp rfl rfl rfl rfl (by decide)) rfl rfl ?_;refine DR.step (q_ld1 rfl rfl rfl rfl rfl) rfl rfl ?_;refine DR.step (q_ldN rfl rfl rfl rfl rfl rfl) rfl rfl ?_
    refine DR.step (q_moveC rfl rfl rfl) rfl rfl ?_;refine DR.step (q_call rfl rfl (hf) rfl rfl rfl) rfl rfl ?_;refine DR.step (q_bslice rfl rfl rfl rfl rfl rfl) rfl rfl ?_
    refine DR.stop (by kernel_rfl) (by kernel_rfl) ?_
    refine AL.weak (st' := (⟨_,[(1,I n),(3,.o (.c (.ptr 0 0))),(6,.o (.c (.ptr 1 0))),(8,.o (.c (.ptr 3 0))),(9,I k),(29,.o (.c (.ref 5))),(33,.o (.c (.sb 6 1 9)))],[.box ((Enc.e l).map (V1.rd [])),.box [nilV,jn 0,jn 0,nilV,nilV],.row 1 (els l.Rows),.box [.ref 2,jn 0,jn seed,.ref 4,.ref 5],.row 1 (els (List.replicate (k + 1) (0 : Int))),.row 9 (els (freshs l k)),.box [jn 0,jn (k : Int),jn (spX (startT l k)),jn (spY (startT l k)),jn 0,jn 0,jn 1,jn 3,jn 0]]⟩ : St)) (W_go [0,1,2,3,4,5,6] (by decide) rfl (rfl) (.cons rfl (.cons rfl (.cons rfl (.cons rfl (.cons rfl (.cons rfl (.cons rfl (.nil))))))))) ?_
    refine M_appo rfl rfl rfl rfl rfl rfl rfl rfl rfl rfl rfl rfl rfl rfl (by omega) (by omega) ?_;refine M0 (q_fldp rfl rfl rfl rfl (by decide)) rfl rfl ?_
    refine M_st1 rfl rfl rfl rfl rfl rfl rfl rfl ?_;refine L_nil (B_n (T_n (A_region ?_)));refine M0 (q_moveC rfl rfl rfl) rfl rfl ?_
    refine M0 (q_add rfl rfl rfl rfl (by omega)) rfl rfl ?_;refine M0 (q_assignC rfl rfl rfl) rfl rfl ?_;refine L_nil (T_n ?_)
    exact ⟨n - (k + 1),by omega,(fun k : Nat => (⟨_,[(1,I n),(3,.o (.c (.ptr 0 0))),(6,.o (.c (.ptr 1 0))),(8,.o (.c (.ptr 3 0))),(9,I k)],[.box ((Enc.e l).map (V1.rd [])),.box [nilV,jn 0,jn 0,nilV,nilV],.row 1 (els l.Rows),.box [.ref 2,jn 0,jn seed,.ref 4,.ref 5],.row 1 (els (List.replicate k (0 : Int))),.row 9 (els (freshs l k))]⟩ : St)) (k + 1),W_go [0,1,2,3,4,5] (by decide) rfl (row6w (by rw [freshs_succ]; simp [els]; rfl)) (.cons rfl (.cons rfl (.cons rfl (.cons rfl (.cons rfl (.nil)))))),k + 1,by omega,trivial,rfl⟩
  have f1 : decide ((k : Int) < n) = false := decide_eq_false (by omega)
  have h3 : k = n := by omega
  subst h3
  refine A_seq (A_seq (A_region ?_));refine M0 (q_moveC rfl rfl rfl) rfl rfl ?_;refine M0 (q_moveC rfl rfl rfl) rfl rfl ?_
  refine M0 (q_lssK rfl rfl rfl rfl (by assumption)) rfl rfl ?_;refine M0 (q_moveC rfl rfl rfl) rfl rfl ?_;refine M_no rfl rfl rfl rfl rfl rfl ?_;refine M_no rfl rfl rfl rfl rfl rfl ?_
  refine M0 (q_pickF rfl rfl rfl rfl) rfl rfl ?_;refine L_nil (T_n ?_);refine A_ifF rfl ?_;refine A_exit (T_x (T_x (B_xs (T_n (A_seq ?_)))))
  refine A_seq (A_region ?_);refine M0 (q_ldN rfl rfl rfl rfl rfl rfl) rfl rfl ?_;refine M0 (q_call0 rfl rfl (hwk) rfl) rfl rfl ?_;refine M0 (q_not rfl rfl rfl) rfl rfl ?_
  refine L_nil (T_n ?_);refine A_ifF rfl ?_;refine A_skip (T_n (A_seq (A_region ?_)));refine M0 (q_ldN rfl rfl rfl rfl rfl rfl) rfl rfl ?_
  refine M_stN rfl rfl rfl rfl rfl rfl rfl rfl rfl ?_;refine M0 (q_assignC rfl rfl rfl) rfl rfl ?_;refine L_nil (T_n (A_ret (F_r ?_)))
  exact E_cellt rfl rfl rfl rfl rfl (W_end [2,4,5] (by decide) rfl rfl rfl)
end Go.Proofs.Ytmljakmaffbnlaa
end

section
set_option linter.unusedSimpArgs false
set_option linter.unusedVariables false
set_option maxRecDepth 8000
namespace Go.Proofs.Ytmljakmaffbnlaa
open Go.RowKit

set_option maxHeartbeats 8000000 in
theorem I_ReadWorld (lv : TLevel) (s : ByteArray) (hg : Enc.gd lv) (hL : lv.Rows.length ≤ 1048576) (hs : s.size ≤ 1099511627776) : Con Try.prog 42 [] [ag lv,astr s] (ownO (Enc.e (rwW (readWorld lv s)))) (.tu [.ag (ownV 0 (Enc.e (rwW (readWorld lv s)))),.c (bv (rwB (readWorld lv s)))]) := by
  have hui := I_UnpackInts s 0 hs ⟨by omega,by omega⟩
  cases hu : unpackInts s 0 with
  | none =>
    rw [hu] at hui
    rw [readWorld_none hu]
    refine Con.of Try.func42 rfl Try.ntmps42 rfl (fun E => ?_)
    refine A_seq (A_region ?_);refine M1 (q_boxN rfl rfl rfl rfl) rfl rfl ?_;refine M1 (q_alloc rfl rfl rfl) rfl rfl ?_;refine M0 (q_assignC rfl rfl rfl) rfl rfl ?_;refine L_nil ?_
    refine T_n (A_seq (A_region ?_));refine M0 (q_moveC rfl rfl rfl) rfl rfl ?_;refine M1 (q_call rfl rfl (hui) rfl rfl rfl) rfl rfl ?_
    refine M0 (q_moveT rfl rfl rfl) rfl rfl ?_;refine M0 (q_ext rfl rfl rfl rfl) rfl rfl ?_;refine M0 (q_ext rfl rfl rfl rfl) rfl rfl ?_;refine M0 (q_ext rfl rfl rfl rfl) rfl rfl ?_
    refine M0 (q_assignC rfl rfl rfl) rfl rfl ?_;refine M0 (q_assignC rfl rfl rfl) rfl rfl ?_;refine M0 (q_assignC rfl rfl rfl) rfl rfl ?_;refine L_nil (T_n (A_seq ?_))
    refine A_seq (A_region ?_);refine M0 (q_moveC rfl rfl rfl) rfl rfl ?_;refine M0 (q_not rfl rfl rfl) rfl rfl ?_;refine M0 (q_moveC rfl rfl rfl) rfl rfl ?_
    refine M_no rfl rfl rfl rfl rfl rfl ?_;refine M_no rfl rfl rfl rfl rfl rfl ?_;refine M_no rfl rfl rfl rfl rfl rfl ?_;refine M_no rfl rfl rfl rfl rfl rfl ?_
    refine M0 (q_pickT rfl rfl rfl rfl) rfl rfl ?_;refine M0 (q_moveC rfl rfl rfl) rfl rfl ?_;refine M_no rfl rfl rfl rfl rfl rfl ?_;refine M_no rfl rfl rfl rfl rfl rfl ?_
    refine M_no rfl rfl rfl rfl rfl rfl ?_;refine M0 (q_pickT rfl rfl rfl rfl) rfl rfl ?_;refine L_nil (T_n ?_);refine A_ifT rfl ?_;refine A_seq (A_region ?_)
    refine M0 (q_build rfl rfl rfl rfl rfl) rfl rfl ?_;refine M_stN rfl rfl rfl rfl rfl rfl rfl rfl rfl ?_;refine M0 (q_assignC rfl rfl rfl) rfl rfl ?_;refine L_nil (T_n ?_)
    refine A_ret (T_r (F_r ?_))
    exact E_cellt rfl rfl rfl rfl rfl (W_fill [1,1,9] [3,4,5] rfl rfl (by decide) rfl rfl rfl)
  | some r =>
    obtain ⟨l,pos⟩ := r
    rw [hu] at hui
    obtain ⟨_,hu1,hu2,hu3,hu4⟩ := unpackInts_some hu
    have hll := els_len l
    refine Con.of Try.func42 rfl Try.ntmps42 rfl (fun E => ?_)
    refine A_seq (A_region ?_);refine M1 (q_boxN rfl rfl rfl rfl) rfl rfl ?_;refine M1 (q_alloc rfl rfl rfl) rfl rfl ?_;refine M0 (q_assignC rfl rfl rfl) rfl rfl ?_;refine L_nil ?_
    refine T_n (A_seq (A_region ?_));refine M0 (q_moveC rfl rfl rfl) rfl rfl ?_;refine M1 (q_call rfl rfl (hui) rfl rfl rfl) rfl rfl ?_
    refine M0 (q_moveT rfl rfl rfl) rfl rfl ?_;refine M0 (q_ext rfl rfl rfl rfl) rfl rfl ?_;refine M0 (q_ext rfl rfl rfl rfl) rfl rfl ?_;refine M0 (q_ext rfl rfl rfl rfl) rfl rfl ?_
    refine M0 (q_assignC rfl rfl rfl) rfl rfl ?_;refine M0 (q_assignC rfl rfl rfl) rfl rfl ?_;refine M0 (q_assignC rfl rfl rfl) rfl rfl ?_;refine L_nil (T_n (A_seq ?_))
    refine A_seq (A_region ?_);refine M0 (q_moveC rfl rfl rfl) rfl rfl ?_;refine M0 (q_not rfl rfl rfl) rfl rfl ?_;refine M0 (q_moveC rfl rfl rfl) rfl rfl ?_
    refine M_yes rfl rfl rfl ?_;refine M0 (q_moveC rfl rfl rfl) rfl rfl ?_;refine M_yes rfl rfl rfl ?_;refine M0 (q_moveC rfl rfl rfl) rfl rfl ?_;refine M_yes rfl rfl rfl ?_
    refine M0 (q_lens rfl rfl rfl) rfl rfl ?_;refine M_yes rfl rfl rfl ?_;refine M0 (q_neq rfl rfl rfl rfl) rfl rfl ?_;refine M0 (q_pickF rfl rfl rfl rfl) rfl rfl ?_
    refine M0 (q_moveC rfl rfl rfl) rfl rfl ?_;refine M0 (Qt.grdF rfl rfl rfl .stop (fun hgrd => q_moveC rfl rfl rfl)) rfl rfl ?_
    refine M0 (Qt.grdF rfl rfl rfl (.hit .stop) (fun hgrd => q_lenr rfl rfl rfl rfl)) rfl rfl ?_
    refine M0 (Qt.grdF rfl rfl rfl (.hit (.hit .stop)) (fun hgrd => q_lss rfl rfl rfl rfl)) rfl rfl ?_;refine M0 (q_or rfl rfl rfl rfl) rfl rfl ?_;refine L_nil (T_n ?_)
    refine A_cond rfl (fun h => ?_) (fun h => ?_)
    · simp only [Bool.or_eq_true,decide_eq_true_eq] at h
      rw [readWorld_no hu (fun hh => by have := hh.2.1.1; omega)]
      refine A_seq (A_region ?_);refine M0 (q_build rfl rfl rfl rfl rfl) rfl rfl ?_;refine M_stN rfl rfl rfl rfl rfl rfl rfl rfl rfl ?_;refine M0 (q_assignC rfl rfl rfl) rfl rfl ?_
      refine L_nil (T_n (A_ret (T_r (F_r ?_))))
      exact E_cellt rfl rfl rfl rfl rfl (W_fill [1,1,9] [3,4,5] rfl rfl (by decide) rfl rfl rfl)
    simp only [Bool.or_eq_false_iff,decide_eq_false_iff_not] at h
    have ha0 := els_getD (l := l) (j := 0) (by omega) 0 rfl
    have ha1 := els_getD (l := l) (j := 1) (by omega) 1 rfl
    have ha2 := els_getD (l := l) (j := 2) (by omega) 2 rfl
    obtain ⟨l2,hl2⟩ : ∃ l2,l.getD 2 0 = l2 := ⟨_,rfl⟩
    rw [hl2] at ha2
    have hl264 : I64 l2 := by
      rw [← hl2,List.getD_eq_getElem?_getD,List.getElem?_eq_getElem (by omega)]
      exact hu4 _ (List.getElem_mem _)
    have hl21 := hl264.1
    have hl22 := hl264.2
    have hbt := I_between l2 1 4
    by_cases hin : inR l2 1 4 = true
    case neg =>
      have hf : inR l2 1 4 = false := by simpa using hin
      rw [hf] at hbt
      rw [readWorld_no hu (fun hh => by have := hh.2.1.2.1; rw [hl2,← inR_iff] at this; exact hin this)]
      refine A_skip (T_n (A_seq (A_region ?_)));refine M0 (q_moveC rfl rfl rfl) rfl rfl ?_;refine M0 (q_ar rfl rfl rfl rfl rfl (by omega) (by omega)) rfl rfl ?_
      refine M0 (q_le1 rfl rfl rfl rfl (by assumption) rfl) rfl rfl ?_;refine M0 (q_assignC rfl rfl rfl) rfl rfl ?_;refine L_nil (T_n (A_seq (A_seq ?_)))
      refine A_region ?_;refine M0 (q_moveC rfl rfl rfl) rfl rfl ?_;refine M0 (q_call0 rfl rfl (hbt) rfl) rfl rfl ?_;refine M0 (q_not rfl rfl rfl) rfl rfl ?_
      refine M0 (q_moveC rfl rfl rfl) rfl rfl ?_;refine M_no rfl rfl rfl rfl rfl rfl ?_;refine M_no rfl rfl rfl rfl rfl rfl ?_;refine M_no rfl rfl rfl rfl rfl rfl ?_
      refine M_no rfl rfl rfl rfl rfl rfl ?_;refine M_no rfl rfl rfl rfl rfl rfl ?_;refine M0 (q_pickT rfl rfl rfl rfl) rfl rfl ?_;refine L_nil (T_n ?_);refine A_ifT rfl ?_
      refine A_seq (A_region ?_);refine M0 (q_build rfl rfl rfl rfl rfl) rfl rfl ?_;refine M_stN rfl rfl rfl rfl rfl rfl rfl rfl rfl ?_;refine M0 (q_assignC rfl rfl rfl) rfl rfl ?_
      refine L_nil (T_n (A_ret (T_r (F_r ?_))))
      exact E_cellt rfl rfl rfl rfl rfl (W_fill [1,1,9] [3,4,5] rfl rfl (by decide) rfl rfl rfl)
    rw [hin] at hbt
    have hin2 := inR_iff.1 hin
    obtain ⟨p,rfl⟩ : ∃ p : Nat,l2 = p := ⟨l2.toNat,by omega⟩
    refine A_skip (T_n (A_seq (A_region ?_)));refine M0 (q_moveC rfl rfl rfl) rfl rfl ?_;refine M0 (q_ar rfl rfl rfl rfl rfl (by omega) (by omega)) rfl rfl ?_
    refine M0 (q_le1 rfl rfl rfl rfl (by assumption) rfl) rfl rfl ?_;refine M0 (q_assignC rfl rfl rfl) rfl rfl ?_;refine L_nil (T_n (A_seq (A_seq ?_)))
    refine A_region ?_;refine M0 (q_moveC rfl rfl rfl) rfl rfl ?_;refine M0 (q_call0 rfl rfl (hbt) rfl) rfl rfl ?_;refine M0 (q_not rfl rfl rfl) rfl rfl ?_
    refine M0 (q_moveC rfl rfl rfl) rfl rfl ?_;refine M_yes rfl rfl rfl ?_;refine M0 (q_moveC rfl rfl rfl) rfl rfl ?_;refine M_yes rfl rfl rfl ?_
    refine M0 (q_lenr rfl rfl rfl rfl) rfl rfl ?_;refine M_yes rfl rfl rfl ?_;refine M0 (q_moveC rfl rfl rfl) rfl rfl ?_;refine M_yes rfl rfl rfl ?_
    refine M0 (q_add rfl rfl rfl rfl (by omega)) rfl rfl ?_;refine M_yes rfl rfl rfl ?_;refine M0 (q_lss rfl rfl rfl rfl) rfl rfl ?_;refine M0 (q_pickF rfl rfl rfl rfl) rfl rfl ?_
    refine L_nil (T_n ?_)
    refine A_cond rfl (fun h2 => ?_) (fun h2 => ?_)
    · have h2 := of_decide_eq_true h2
      rw [readWorld_no hu (fun hh => by have := hh.2.1.2.2.1; omega)]
      refine A_seq (A_region ?_);refine M0 (q_build rfl rfl rfl rfl rfl) rfl rfl ?_;refine M_stN rfl rfl rfl rfl rfl rfl rfl rfl rfl ?_;refine M0 (q_assignC rfl rfl rfl) rfl rfl ?_
      refine L_nil (T_n (A_ret (T_r (F_r ?_))))
      exact E_cellt rfl rfl rfl rfl rfl (W_fill [1,1,9] [3,4,5] rfl rfl (by decide) rfl rfl rfl)
    have h2 := of_decide_eq_false h2
    refine A_skip (T_n (A_seq ?_))
    refine A_draw [[],[0],[],[2],[2,3],[],[5],[5,6],[0,1,2,3,4,5,6,7],[],[0,1,2,3,4,5,6,7,8,9]] [[],[48],[],[50],[50,51],[],[53],[53,54],[48,49,50,51,52,53,54,55],[],[10,48,49,50,51,52,53,54,55,56]] [[10,50,51,52,53,54,55],[10,50,51,52,53,54,55],[10,48,49,53,54,55],[10,48,49,53,54,55],[10,48,49,53,54,55],[10,48,49,50,51,52],[10,48,49,50,51,52],[10,48,49,50,51,52],[10],[48,49,50,51,52,53,54,55,56],[]] rfl ?_
    refine DR.step (q_ldN rfl rfl rfl rfl rfl rfl) rfl rfl ?_;refine DR.step (q_call rfl rfl (I_copyLevel lv hg hL) rfl rfl rfl) rfl rfl ?_
    refine DR.step (q_moveC rfl rfl rfl) rfl rfl ?_;refine DR.step (q_ar rfl rfl rfl rfl rfl (by omega) (by omega)) rfl rfl ?_
    refine DR.step (q_le1 rfl rfl rfl rfl (by assumption) rfl) rfl rfl ?_;refine DR.step (q_moveC rfl rfl rfl) rfl rfl ?_
    refine DR.step (q_ar rfl rfl rfl rfl rfl (by omega) (by omega)) rfl rfl ?_;refine DR.step (q_le1 rfl rfl rfl rfl (by assumption) rfl) rfl rfl ?_
    refine DR.step (q_build rfl rfl rfl rfl rfl) rfl rfl ?_;refine DR.step (q_alloc rfl rfl rfl) rfl rfl ?_;refine DR.stop (by kernel_rfl) (by kernel_rfl) ?_
    refine AL.weak (st' := (⟨_,[(4,.o (.c (.ptr 1 0))),(6,.o (.c (.ref 2))),(9,I p),(10,.o (.c (.ptr 4 0))),(56,.o (.ag [.ref 3,jv (l.getD 0 0),jv (l.getD 1 0),nilV,nilV]))],[.box ((Enc.e lv).map (V1.rd [])),.box [nilV,jv 0,jv 0,nilV,nilV],.row 1 (els l),.row 1 (els lv.Rows),.box [nilV,jv 0,jv 0,nilV,nilV]]⟩ : St)) (W_go [0,1,2,3,4] (by decide) rfl (rfl) (.cons rfl (.cons rfl (.cons rfl (.cons rfl (.cons rfl (.nil))))))) ?_
    have hpl : (p : Int) ≤ 4 := hin2.2
    have hcl := Clone_ints ((l.drop 3).take p) (by simp; omega) (by simp; omega)
    rw [show al ((l.drop 3).take p) = .c (.rd [] (.sl 1 (((els l).take ((3 : Int) + (p : Int)).toNat).drop (3 : Int).toNat))) by
      rw [show ((3 : Int) + (p : Int)).toNat = 3 + p by omega,show (3 : Int).toNat = 3 from rfl,List.drop_take,← els_dropE,← els_takeE2,show 3 + p - 3 = p by omega]; rfl] at hcl
    obtain ⟨rest,hrest⟩ : ∃ rest,rest = l.drop (3 + p) := ⟨_,rfl⟩
    have hre : (els l).drop ((3 : Int) + (p : Int)).toNat = els rest := by rw [show ((3 : Int) + (p : Int)).toNat = 3 + p by omega,← els_dropE,hrest]
    have hrl : rest.length = l.length - (3 + p) := by rw [hrest]; simp
    have hrl2 := els_len rest
    have hdl : ((els l).drop ((3 : Int) + (p : Int)).toNat).length = l.length - (3 + p) := by rw [List.length_drop,hll]; congr 1
    refine M_stN rfl rfl rfl rfl rfl rfl rfl rfl rfl ?_;refine L_nil (T_n (A_seq (A_region ?_)));refine M0 (q_moveC rfl rfl rfl) rfl rfl ?_
    refine M0 (q_moveC rfl rfl rfl) rfl rfl ?_;refine M0 (q_add rfl rfl rfl rfl (by omega)) rfl rfl ?_;refine M0 (q_partr rfl rfl rfl rfl rfl rfl rfl (by omega)) rfl rfl ?_
    refine M1 (q_call rfl rfl (hcl) rfl rfl rfl) rfl rfl ?_;refine M0 (q_fldp rfl rfl rfl rfl (by decide)) rfl rfl ?_;refine M_st1 rfl rfl rfl rfl rfl rfl rfl rfl ?_;refine L_nil ?_
    refine T_n (A_seq (A_region ?_));refine M0 (q_moveC rfl rfl rfl) rfl rfl ?_;refine M0 (q_moveC rfl rfl rfl) rfl rfl ?_
    refine M0 (q_add rfl rfl rfl rfl (by omega)) rfl rfl ?_;refine M0 (q_partr1 rfl rfl rfl rfl rfl rfl (by omega)) rfl rfl ?_;refine M0 (q_assignC rfl rfl rfl) rfl rfl ?_;refine L_nil ?_
    refine T_n (A_seq (A_seq (A_region ?_)));refine M0 (q_moveC rfl rfl rfl) rfl rfl ?_;refine M0 (q_len rfl rfl rfl) rfl rfl ?_
    refine M0 (q_rem rfl rfl rfl rfl (by omega)) rfl rfl ?_;refine M0 (q_neq rfl rfl rfl rfl) rfl rfl ?_;refine M0 (q_moveC rfl rfl rfl) rfl rfl ?_
    refine M0 (Qt.grdF rfl rfl rfl .stop (fun hgrd => q_moveC rfl rfl rfl)) rfl rfl ?_;refine M0 (Qt.grdF rfl rfl rfl (.hit .stop) (fun hgrd => q_len rfl rfl rfl)) rfl rfl ?_
    refine M0 (Qt.grdF rfl rfl rfl (.hit (.hit .stop)) (fun hgrd => q_quo rfl rfl rfl rfl (by omega))) rfl rfl ?_
    refine M0 (Qt.grdF rfl rfl rfl (.hit (.hit (.hit .stop))) (fun hgrd => q_gtr rfl rfl rfl rfl)) rfl rfl ?_;refine M0 (q_or rfl rfl rfl rfl) rfl rfl ?_;refine L_nil (T_n ?_)
    refine A_cond rfl (fun h3 => ?_) (fun h3 => ?_)
    · simp only [Bool.or_eq_true,decide_eq_true_eq] at h3
      rw [readWorld_no hu (fun hh => by
        have h8 := hh.2.1.2.2.2
        have h9 := (worldOk_spec hh.2.2).2.2.2.2.2.1.2
        have h10 : (worldOf lv l).Bodies.length = (l.length - 3 - (l.getD 2 0).toNat) / 9 := bodiesOf_len _ _
        rw [hl2] at h8 h10
        omega)]
      refine A_seq (A_region ?_);refine M0 (q_build rfl rfl rfl rfl rfl) rfl rfl ?_;refine M_stN rfl rfl rfl rfl rfl rfl rfl rfl rfl ?_;refine M0 (q_assignC rfl rfl rfl) rfl rfl ?_
      refine L_nil (T_n (A_ret (T_r (F_r ?_))))
      exact E_cellt rfl rfl rfl rfl rfl (W_fill [1,1,9] [6,7,8] rfl rfl (by decide) rfl rfl rfl)
    simp only [Bool.or_eq_false_iff,decide_eq_false_iff_not] at h3
    obtain ⟨nb,hn⟩ : ∃ nb,rest.length = 9 * nb := ⟨rest.length / 9,by omega⟩
    have hform : formOk l := ⟨by omega,by rw [hl2]; exact hin2,by rw [hl2]; omega,by rw [hl2]; omega⟩
    have hwo : worldOf lv l = ⟨lv,l.getD 0 0,l.getD 1 0,(l.drop 3).take p,bodiesOf rest nb⟩ := by
      rw [worldOf,hl2,Int.toNat_natCast,← hrest,show (l.length - 3 - p) / 9 = nb by omega]
    have hwg := worldOf_gd (lv := lv) hg hu4 (by omega)
    rw [hwo] at hwg
    refine AWP.pre (st' := (⟨_,[(4,.o (.c (.ptr 1 0))),(10,.o (.c (.ptr 4 0))),(11,.o (.c (.rd [2] (.sl 1 (els rest)))))],[.box ((Enc.e lv).map (V1.rd [])),.box [nilV,jv 0,jv 0,nilV,nilV],.row 1 (els l),.row 1 (els lv.Rows),.box [.ref 3,jv (l.getD 0 0),jv (l.getD 1 0),.ref 5,nilV],.row 1 (els ((l.drop 3).take p))]⟩ : St)) ?_ (W_go [0,1,2,3,4,5] (by decide) rfl (rfl) (.cons rfl (.cons rfl (.cons (rdE hre) (.nil)))))
    refine AWP.pre ?_ (Wk.nilbox (p := 4) (i := 4) 9 rfl rfl)
    refine A_skip (T_n (A_seq (A_seq (A_region ?_))));refine M0 (q_assignC rfl rfl rfl) rfl rfl ?_;refine L_nil (T_n (A_block ?_))
    refine A_loop (fun m st => ∃ k : Nat,k + m = nb ∧ (True) ∧ st = (fun k : Nat => (⟨_,[(4,.o (.c (.ptr 1 0))),(10,.o (.c (.ptr 4 0))),(11,.o (.c (.rd [2] (.sl 1 (els rest))))),(12,I (9 * (k : Int)))],[.box ((Enc.e lv).map (V1.rd [])),.box [nilV,jv 0,jv 0,nilV,nilV],.row 1 (els l),.row 1 (els lv.Rows),.box [.ref 3,jv (l.getD 0 0),jv (l.getD 1 0),.ref 5,.ref 6],.row 1 (els ((l.drop 3).take p)),.row 9 (els (bodiesOf rest k))]⟩ : St)) k) (nb) ⟨(fun k : Nat => (⟨_,[(4,.o (.c (.ptr 1 0))),(10,.o (.c (.ptr 4 0))),(11,.o (.c (.rd [2] (.sl 1 (els rest))))),(12,I (9 * (k : Int)))],[.box ((Enc.e lv).map (V1.rd [])),.box [nilV,jv 0,jv 0,nilV,nilV],.row 1 (els l),.row 1 (els lv.Rows),.box [.ref 3,jv (l.getD 0 0),jv (l.getD 1 0),.ref 5,.ref 6],.row 1 (els ((l.drop 3).take p)),.row 9 (els (bodiesOf rest k))]⟩ : St)) 0,W_go [0,1,2,3,4,5,6] (by decide) rfl (rfl) (.cons rfl (.cons rfl (.cons rfl (.cons (I_eq (by simp)) (.nil))))),0,by omega,trivial,rfl⟩ ?_
    rintro m_A _ ⟨k,hk_A,hp_A,rfl⟩
    have hlbk := els_len (bodiesOf rest k)
    have hlbk2 := bodiesOf_len rest k
    refine A_seq (A_seq (A_region ?_));refine M0 (q_moveC rfl rfl rfl) rfl rfl ?_;refine M0 (q_moveC rfl rfl rfl) rfl rfl ?_;refine M0 (q_len rfl rfl rfl) rfl rfl ?_
    refine M0 (q_lss rfl rfl rfl rfl) rfl rfl ?_;refine L_nil (T_n ?_)
    refine A_cond rfl (fun h4 => ?_) (fun h4 => ?_)
    · have h4 := of_decide_eq_true h4
      have hk9 : 9 * k + 9 ≤ rest.length := by omega
      have hc0 := chunk_at (rest := rest) (m := k) (by omega) (j := 0) (by omega) (9 * (k : Int) + 9) (9 * (k : Int)) rfl rfl 0 rfl
      have hc1 := chunk_at (rest := rest) (m := k) (by omega) (j := 1) (by omega) (9 * (k : Int) + 9) (9 * (k : Int)) rfl rfl 1 rfl
      have hc2 := chunk_at (rest := rest) (m := k) (by omega) (j := 2) (by omega) (9 * (k : Int) + 9) (9 * (k : Int)) rfl rfl 2 rfl
      have hc3 := chunk_at (rest := rest) (m := k) (by omega) (j := 3) (by omega) (9 * (k : Int) + 9) (9 * (k : Int)) rfl rfl 3 rfl
      have hc4 := chunk_at (rest := rest) (m := k) (by omega) (j := 4) (by omega) (9 * (k : Int) + 9) (9 * (k : Int)) rfl rfl 4 rfl
      have hc5 := chunk_at (rest := rest) (m := k) (by omega) (j := 5) (by omega) (9 * (k : Int) + 9) (9 * (k : Int)) rfl rfl 5 rfl
      have hc6 := chunk_at (rest := rest) (m := k) (by omega) (j := 6) (by omega) (9 * (k : Int) + 9) (9 * (k : Int)) rfl rfl 6 rfl
      have hc7 := chunk_at (rest := rest) (m := k) (by omega) (j := 7) (by omega) (9 * (k : Int) + 9) (9 * (k : Int)) rfl rfl 7 rfl
      have hc8 := chunk_at (rest := rest) (m := k) (by omega) (j := 8) (by omega) (9 * (k : Int) + 9) (9 * (k : Int)) rfl rfl 8 rfl
      have hlbk3 : (els (bodiesOf rest k)).length = k := by omega
      have hlt : (9 * (k : Int) + 9 ≤ (els rest).length) := by omega
      have hk24 : k ≤ 24 := by omega
      have hknb : k < nb := by omega
      clear hwg hwo hform hre hcl hdl h3 h2 hin2 hin hbt hl264 hl21 hl22 ha0 ha1 ha2 h hu1 hu2 hu3 hu4 hll hui hrl hrl2 hn hpl hlbk hlbk2 hp_A hk9 h4
      refine A_skip (T_n (A_seq (A_block (A_seq (A_region ?_)))));refine M0 (q_moveC rfl rfl rfl) rfl rfl ?_;refine M0 (q_moveC rfl rfl rfl) rfl rfl ?_
      refine M0 (q_moveC rfl rfl rfl) rfl rfl ?_;refine M0 (q_add rfl rfl rfl rfl (by omega)) rfl rfl ?_;refine M0 (q_part rfl rfl rfl rfl rfl rfl (by omega)) rfl rfl ?_
      refine M0 (q_assignC rfl rfl rfl) rfl rfl ?_;refine L_nil (T_n ?_)
      refine A_draw [[],[0],[],[2],[2,3],[],[5],[5,6],[],[8],[8,9],[],[11],[11,12],[],[14],[14,15],[],[17],[17,18],[],[20],[20,21],[],[23],[23,24],[],[26],[26,27],[2,3,4,5,6,7,8,9,10,11,12,13,14,15,16,17,18,19,20,21,22,23,24,25,26,27,28],[2,3,4,5,6,7,8,9,10,11,12,13,14,15,16,17,18,19,20,21,22,23,24,25,26,27,28,29],[0,1,2,3,4,5,6,7,8,9,10,11,12,13,14,15,16,17,18,19,20,21,22,23,24,25,26,27,28,29,30],[0,1,2,3,4,5,6,7,8,9,10,11,12,13,14,15,16,17,18,19,20,21,22,23,24,25,26,27,28,29,30,31],[0,1,2,3,4,5,6,7,8,9,10,11,12,13,14,15,16,17,18,19,20,21,22,23,24,25,26,27,28,29,30,31,32]] [[],[89],[],[91],[91,92],[],[94],[94,95],[],[97],[97,98],[],[100],[100,101],[],[103],[103,104],[],[106],[106,107],[],[109],[109,110],[],[112],[112,113],[],[115],[115,116],[91,92,93,94,95,96,97,98,99,100,101,102,103,104,105,106,107,108,109,110,111,112,113,114,115,116,117],[91,92,93,94,95,96,97,98,99,100,101,102,103,104,105,106,107,108,109,110,111,112,113,114,115,116,117,118],[89,90,91,92,93,94,95,96,97,98,99,100,101,102,103,104,105,106,107,108,109,110,111,112,113,114,115,116,117,118,119],[89,90,91,92,93,94,95,96,97,98,99,100,101,102,103,104,105,106,107,108,109,110,111,112,113,114,115,116,117,118,119,120],[89,90,91,92,93,94,95,96,97,98,99,100,101,102,103,104,105,106,107,108,109,110,111,112,113,114,115,116,117,118,119,120,121]] [[91,92,93,94,95,96,97,98,99,100,101,102,103,104,105,106,107,108,109,110,111,112,113,114,115,116,117,118,119],[91,92,93,94,95,96,97,98,99,100,101,102,103,104,105,106,107,108,109,110,111,112,113,114,115,116,117,118,119],[89,90,94,95,96,97,98,99,100,101,102,103,104,105,106,107,108,109,110,111,112,113,114,115,116,117],[89,90,94,95,96,97,98,99,100,101,102,103,104,105,106,107,108,109,110,111,112,113,114,115,116,117],[89,90,94,95,96,97,98,99,100,101,102,103,104,105,106,107,108,109,110,111,112,113,114,115,116,117],[89,90,91,92,93,97,98,99,100,101,102,103,104,105,106,107,108,109,110,111,112,113,114,115,116,117],[89,90,91,92,93,97,98,99,100,101,102,103,104,105,106,107,108,109,110,111,112,113,114,115,116,117],[89,90,91,92,93,97,98,99,100,101,102,103,104,105,106,107,108,109,110,111,112,113,114,115,116,117],[89,90,91,92,93,94,95,96,100,101,102,103,104,105,106,107,108,109,110,111,112,113,114,115,116,117],[89,90,91,92,93,94,95,96,100,101,102,103,104,105,106,107,108,109,110,111,112,113,114,115,116,117],[89,90,91,92,93,94,95,96,100,101,102,103,104,105,106,107,108,109,110,111,112,113,114,115,116,117],[89,90,91,92,93,94,95,96,97,98,99,103,104,105,106,107,108,109,110,111,112,113,114,115,116,117],[89,90,91,92,93,94,95,96,97,98,99,103,104,105,106,107,108,109,110,111,112,113,114,115,116,117],[89,90,91,92,93,94,95,96,97,98,99,103,104,105,106,107,108,109,110,111,112,113,114,115,116,117],[89,90,91,92,93,94,95,96,97,98,99,100,101,102,106,107,108,109,110,111,112,113,114,115,116,117],[89,90,91,92,93,94,95,96,97,98,99,100,101,102,106,107,108,109,110,111,112,113,114,115,116,117],[89,90,91,92,93,94,95,96,97,98,99,100,101,102,106,107,108,109,110,111,112,113,114,115,116,117],[89,90,91,92,93,94,95,96,97,98,99,100,101,102,103,104,105,109,110,111,112,113,114,115,116,117],[89,90,91,92,93,94,95,96,97,98,99,100,101,102,103,104,105,109,110,111,112,113,114,115,116,117],[89,90,91,92,93,94,95,96,97,98,99,100,101,102,103,104,105,109,110,111,112,113,114,115,116,117],[89,90,91,92,93,94,95,96,97,98,99,100,101,102,103,104,105,106,107,108,112,113,114,115,116,117],[89,90,91,92,93,94,95,96,97,98,99,100,101,102,103,104,105,106,107,108,112,113,114,115,116,117],[89,90,91,92,93,94,95,96,97,98,99,100,101,102,103,104,105,106,107,108,112,113,114,115,116,117],[89,90,91,92,93,94,95,96,97,98,99,100,101,102,103,104,105,106,107,108,109,110,111,115,116,117],[89,90,91,92,93,94,95,96,97,98,99,100,101,102,103,104,105,106,107,108,109,110,111,115,116,117],[89,90,91,92,93,94,95,96,97,98,99,100,101,102,103,104,105,106,107,108,109,110,111,115,116,117],[89,90,91,92,93,94,95,96,97,98,99,100,101,102,103,104,105,106,107,108,109,110,111,112,113,114],[89,90,91,92,93,94,95,96,97,98,99,100,101,102,103,104,105,106,107,108,109,110,111,112,113,114],[89,90,91,92,93,94,95,96,97,98,99,100,101,102,103,104,105,106,107,108,109,110,111,112,113,114],[89,90],[89,90],[],[],[]] rfl ?_
      refine DR.step (q_fldp rfl rfl rfl rfl (by decide)) rfl rfl ?_;refine DR.step (q_ld1 rfl rfl rfl rfl rfl) rfl rfl ?_;refine DR.step (q_moveC rfl rfl rfl) rfl rfl ?_
      refine DR.step (q_at rfl rfl rfl rfl (by omega) (by assumption) rfl) rfl rfl ?_;refine DR.step (q_lr1 rfl rfl rfl rfl) rfl rfl ?_;refine DR.step (q_moveC rfl rfl rfl) rfl rfl ?_
      refine DR.step (q_at rfl rfl rfl rfl (by omega) (by assumption) rfl) rfl rfl ?_;refine DR.step (q_lr1 rfl rfl rfl rfl) rfl rfl ?_;refine DR.step (q_moveC rfl rfl rfl) rfl rfl ?_
      refine DR.step (q_at rfl rfl rfl rfl (by omega) (by assumption) rfl) rfl rfl ?_;refine DR.step (q_lr1 rfl rfl rfl rfl) rfl rfl ?_;refine DR.step (q_moveC rfl rfl rfl) rfl rfl ?_
      refine DR.step (q_at rfl rfl rfl rfl (by omega) (by assumption) rfl) rfl rfl ?_;refine DR.step (q_lr1 rfl rfl rfl rfl) rfl rfl ?_;refine DR.step (q_moveC rfl rfl rfl) rfl rfl ?_
      refine DR.step (q_at rfl rfl rfl rfl (by omega) (by assumption) rfl) rfl rfl ?_;refine DR.step (q_lr1 rfl rfl rfl rfl) rfl rfl ?_;refine DR.step (q_moveC rfl rfl rfl) rfl rfl ?_
      refine DR.step (q_at rfl rfl rfl rfl (by omega) (by assumption) rfl) rfl rfl ?_;refine DR.step (q_lr1 rfl rfl rfl rfl) rfl rfl ?_;refine DR.step (q_moveC rfl rfl rfl) rfl rfl ?_
      refine DR.step (q_at rfl rfl rfl rfl (by omega) (by assumption) rfl) rfl rfl ?_;refine DR.step (q_lr1 rfl rfl rfl rfl) rfl rfl ?_;refine DR.step (q_moveC rfl rfl rfl) rfl rfl ?_
      refine DR.step (q_at rfl rfl rfl rfl (by omega) (by assumption) rfl) rfl rfl ?_;refine DR.step (q_lr1 rfl rfl rfl rfl) rfl rfl ?_;refine DR.step (q_moveC rfl rfl rfl) rfl rfl ?_
      refine DR.step (q_at rfl rfl rfl rfl (by omega) (by assumption) rfl) rfl rfl ?_;refine DR.step (q_lr1 rfl rfl rfl rfl) rfl rfl ?_
      refine DR.step (x := .o (.ag [jv ((rest.drop (9 * k)).getD 0 0),jv ((rest.drop (9 * k)).getD 1 0),jv ((rest.drop (9 * k)).getD 2 0),jv ((rest.drop (9 * k)).getD 3 0),jv ((rest.drop (9 * k)).getD 4 0),jv ((rest.drop (9 * k)).getD 5 0),jv ((rest.drop (9 * k)).getD 6 0),jv ((rest.drop (9 * k)).getD 7 0),jv ((rest.drop (9 * k)).getD 8 0)])) (q_build rfl rfl rfl rfl rfl) rfl rfl ?_
      refine DR.step (q_bslice rfl rfl rfl rfl rfl rfl) rfl rfl ?_;refine DR.stop (by kernel_rfl) (by kernel_rfl) ?_
      refine AL.weak (st' := (⟨_,[(4,.o (.c (.ptr 1 0))),(10,.o (.c (.ptr 4 0))),(11,.o (.c (.rd [2] (.sl 1 (els rest))))),(12,I (9 * (k : Int))),(90,.o (.c (.ref 6))),(119,.o (.c (.sb 7 1 9)))],[.box ((Enc.e lv).map (V1.rd [])),.box [nilV,jv 0,jv 0,nilV,nilV],.row 1 (els l),.row 1 (els lv.Rows),.box [.ref 3,jv (l.getD 0 0),jv (l.getD 1 0),.ref 5,.ref 6],.row 1 (els ((l.drop 3).take p)),.row 9 (els (bodiesOf rest k)),.box [jv ((rest.drop (9 * k)).getD 0 0),jv ((rest.drop (9 * k)).getD 1 0),jv ((rest.drop (9 * k)).getD 2 0),jv ((rest.drop (9 * k)).getD 3 0),jv ((rest.drop (9 * k)).getD 4 0),jv ((rest.drop (9 * k)).getD 5 0),jv ((rest.drop (9 * k)).getD 6 0),jv ((rest.drop (9 * k)).getD 7 0),jv ((rest.drop (9 * k)).getD 8 0)]]⟩ : St)) (W_go [0,1,2,3,4,5,6,7] (by decide) rfl (rfl) (.cons rfl (.cons rfl (.cons rfl (.cons rfl (.cons rfl (.cons rfl (.nil)))))))) ?_
      refine M_appo rfl rfl rfl rfl rfl rfl rfl rfl rfl rfl rfl rfl rfl rfl (by omega) (by omega) ?_;refine M0 (q_fldp rfl rfl rfl rfl (by decide)) rfl rfl ?_
      refine M_st1 rfl rfl rfl rfl rfl rfl rfl rfl ?_;refine L_nil (B_n (T_n (A_region ?_)));refine M0 (q_moveC rfl rfl rfl) rfl rfl ?_
      refine M0 (q_add rfl rfl rfl rfl (by omega)) rfl rfl ?_;refine M0 (q_assignC rfl rfl rfl) rfl rfl ?_;refine L_nil (T_n ?_)
      exact ⟨nb - (k + 1),by omega,(fun k : Nat => (⟨_,[(4,.o (.c (.ptr 1 0))),(10,.o (.c (.ptr 4 0))),(11,.o (.c (.rd [2] (.sl 1 (els rest))))),(12,I (9 * (k : Int)))],[.box ((Enc.e lv).map (V1.rd [])),.box [nilV,jv 0,jv 0,nilV,nilV],.row 1 (els l),.row 1 (els lv.Rows),.box [.ref 3,jv (l.getD 0 0),jv (l.getD 1 0),.ref 5,.ref 6],.row 1 (els ((l.drop 3).take p)),.row 9 (els (bodiesOf rest k))]⟩ : St)) (k + 1),W_go [0,1,2,3,4,5,6] (by decide) rfl (row7 (by rw [bodiesOf_snoc,els_app]; rfl)) (.cons rfl (.cons rfl (.cons rfl (.cons (I_eq (by omega)) (.nil))))),k + 1,by omega,trivial,rfl⟩
    · have h4 := of_decide_eq_false h4
      have hkn : k = nb := by omega
      subst hkn
      have hwk := I_WorldOk ⟨lv,l.getD 0 0,l.getD 1 0,(l.drop 3).take p,bodiesOf rest k⟩ hwg
      cases ho : worldOk ⟨lv,l.getD 0 0,l.getD 1 0,(l.drop 3).take p,bodiesOf rest k⟩ with
      | false =>
        rw [ho] at hwk
        rw [readWorld_no hu (fun hh => by have h9 := hh.2.2; rw [hwo,ho] at h9; cases h9)]
        refine A_exit (T_x (T_x (B_xs (T_n (A_seq (A_seq (A_region ?_)))))));refine M0 (q_ldN rfl rfl rfl rfl rfl rfl) rfl rfl ?_
        refine M0 (q_call0 rfl rfl (hwk) rfl) rfl rfl ?_;refine M0 (q_not rfl rfl rfl) rfl rfl ?_;refine L_nil (T_n ?_);refine A_ifT rfl ?_;refine A_seq (A_region ?_)
        refine M0 (q_build rfl rfl rfl rfl rfl) rfl rfl ?_;refine M_stN rfl rfl rfl rfl rfl rfl rfl rfl rfl ?_;refine M0 (q_assignC rfl rfl rfl) rfl rfl ?_;refine L_nil (T_n ?_)
        refine A_ret (T_r (F_r ?_))
        exact E_cellt rfl rfl rfl rfl rfl (W_fill [1,1,9] [7,8,9] rfl rfl (by decide) rfl rfl rfl)
      | true =>
        rw [ho] at hwk
        rw [readWorld_yes hu ⟨by omega,hform,by rw [hwo]; exact ho⟩,hwo]
        refine A_exit (T_x (T_x (B_xs (T_n (A_seq (A_seq (A_region ?_)))))));refine M0 (q_ldN rfl rfl rfl rfl rfl rfl) rfl rfl ?_
        refine M0 (q_call0 rfl rfl (hwk) rfl) rfl rfl ?_;refine M0 (q_not rfl rfl rfl) rfl rfl ?_;refine L_nil (T_n ?_);refine A_ifF rfl ?_;refine A_skip (T_n (A_seq ?_))
        refine A_region ?_;refine M0 (q_ldN rfl rfl rfl rfl rfl rfl) rfl rfl ?_;refine M_stN rfl rfl rfl rfl rfl rfl rfl rfl rfl ?_;refine M0 (q_assignC rfl rfl rfl) rfl rfl ?_;refine L_nil ?_
        refine T_n (A_ret (F_r ?_))
        exact E_cellt rfl rfl rfl rfl rfl (W_end [3,5,6] (by decide) rfl rfl rfl)
end Go.Proofs.Ytmljakmaffbnlaa
end

section
set_option linter.unusedSimpArgs false
set_option linter.unusedVariables false
set_option maxRecDepth 8000
namespace Go.Proofs.Ytmljakmaffbnlaa
open Go.RowKit

theorem row6 {a b c d e : Ob} {k : Nat} {x y : List (List T)} (h : x = y) : [a,b,c,d,e,Ob.row k x] = [a,b,c,d,e,Ob.row k y] := by rw [h]
theorem plain_dt (l : List Int) (a b : Nat) : plainT (((els l).take a).drop b) := fun e he => els_plain l e (List.mem_of_mem_take (List.mem_of_mem_drop he))
theorem k_dt (l : List Int) (a b : Nat) : ∀ e ∈ ((els l).take a).drop b,e.length = 1 := fun e he => els_k l e (List.mem_of_mem_take (List.mem_of_mem_drop he))
theorem world_bytes_eq {lv : TLevel} {s : ByteArray} {l : List Int} {pos : Nat} (hu : unpackInts s 0 = some (l,pos)) (hp : pos = s.size) (hf : formOk l) : worldBytes (worldOf lv l) = s ↔ worldOk (worldOf lv l) = true := by
  have hcn := unpackInts_canon hu
  have hb := bytesL_all s pos (by omega)
  have hs : packInts l = s := by rw [hcn]; exact hb.2 hp
  cases ho : worldOk (worldOf lv l) with
  | true =>
    rw [show worldBytes (worldOf lv l) = packInts (worldInts (worldOf lv l)) by rw [worldBytes,ho]; exact if_pos rfl,worldOf_ints hf]
    exact ⟨fun _ => rfl,fun _ => hs⟩
  | false =>
    rw [show worldBytes (worldOf lv l) = ⟨#[]⟩ by rw [worldBytes,ho]; exact if_neg (by decide)]
    refine ⟨fun h => ?_,fun h => by cases h⟩
    have h1 := (unpackInts_some hu).2.1
    rw [hp,← h] at h1
    exact absurd h1 (by decide)
theorem body_cells {l rest : List Int} {c q : Nat} (hr : rest = l.drop c) : Enc.e (bodyOf (rest.drop (9 * q))) = [.v (.int .i64 (l.getD (c + 9 * q + 0) 0)),.v (.int .i64 (l.getD (c + 9 * q + 1) 0)),.v (.int .i64 (l.getD (c + 9 * q + 2) 0)),.v (.int .i64 (l.getD (c + 9 * q + 3) 0)),.v (.int .i64 (l.getD (c + 9 * q + 4) 0)),.v (.int .i64 (l.getD (c + 9 * q + 5) 0)),.v (.int .i64 (l.getD (c + 9 * q + 6) 0)),.v (.int .i64 (l.getD (c + 9 * q + 7) 0)),.v (.int .i64 (l.getD (c + 9 * q + 8) 0))] := by
  have h : ∀ j,(rest.drop (9 * q)).getD j 0 = l.getD (c + 9 * q + j) 0 := fun j => by
    rw [hr,List.drop_drop,List.getD_eq_getElem?_getD,List.getD_eq_getElem?_getD,List.getElem?_drop]
  show [T.v (.int .i64 ((rest.drop (9 * q)).getD 0 0)),.v (.int .i64 ((rest.drop (9 * q)).getD 1 0)),.v (.int .i64 ((rest.drop (9 * q)).getD 2 0)),.v (.int .i64 ((rest.drop (9 * q)).getD 3 0)),.v (.int .i64 ((rest.drop (9 * q)).getD 4 0)),.v (.int .i64 ((rest.drop (9 * q)).getD 5 0)),.v (.int .i64 ((rest.drop (9 * q)).getD 6 0)),.v (.int .i64 ((rest.drop (9 * q)).getD 7 0)),.v (.int .i64 ((rest.drop (9 * q)).getD 8 0))] = _
  simp only [h]
set_option maxHeartbeats 8000000 in
theorem S_ReadWorld (lv : TLevel) (s : ByteArray) (hg : Enc.gd lv) (hL : lv.Rows.length ≤ 1048576) (hs : s.size ≤ 1099511627776) : Con Try.prog 35 [] [ag lv,astr s] (ownO (Enc.e (rwW (readWorld lv s)))) (.tu [.ag (ownV 0 (Enc.e (rwW (readWorld lv s)))),.c (bv (rwB (readWorld lv s)))]) := by
  have hui := S_UnpackInts s 0 hs ⟨by omega,by omega⟩
  cases hu : unpackInts s 0 with
  | none =>
    rw [hu] at hui
    rw [readWorld_none hu]
    refine Con.of Try.func35 rfl Try.ntmps35 rfl (fun E => ?_)
    refine A_seq (A_region ?_);refine M1 (q_boxN rfl rfl rfl rfl) rfl rfl ?_;refine M1 (q_alloc rfl rfl rfl) rfl rfl ?_;refine M0 (q_assignC rfl rfl rfl) rfl rfl ?_;refine L_nil ?_
    refine T_n (A_seq (A_region ?_));refine M0 (q_moveC rfl rfl rfl) rfl rfl ?_;refine M1 (q_call rfl rfl (hui) rfl rfl rfl) rfl rfl ?_
    refine M0 (q_moveT rfl rfl rfl) rfl rfl ?_;refine M0 (q_ext rfl rfl rfl rfl) rfl rfl ?_;refine M0 (q_ext rfl rfl rfl rfl) rfl rfl ?_;refine M0 (q_ext rfl rfl rfl rfl) rfl rfl ?_
    refine M0 (q_assignC rfl rfl rfl) rfl rfl ?_;refine M0 (q_assignC rfl rfl rfl) rfl rfl ?_;refine M0 (q_assignC rfl rfl rfl) rfl rfl ?_;refine L_nil (T_n (A_seq ?_))
    refine A_seq (A_region ?_);refine M0 (q_moveC rfl rfl rfl) rfl rfl ?_;refine M0 (q_not rfl rfl rfl) rfl rfl ?_;refine M0 (q_moveC rfl rfl rfl) rfl rfl ?_
    refine M_no rfl rfl rfl rfl rfl rfl ?_;refine M_no rfl rfl rfl rfl rfl rfl ?_;refine M_no rfl rfl rfl rfl rfl rfl ?_;refine M_no rfl rfl rfl rfl rfl rfl ?_
    refine M0 (q_pickT rfl rfl rfl rfl) rfl rfl ?_;refine M0 (q_moveC rfl rfl rfl) rfl rfl ?_;refine M_no rfl rfl rfl rfl rfl rfl ?_;refine M_no rfl rfl rfl rfl rfl rfl ?_
    refine M_no rfl rfl rfl rfl rfl rfl ?_;refine M0 (q_pickT rfl rfl rfl rfl) rfl rfl ?_;refine M0 (q_moveC rfl rfl rfl) rfl rfl ?_;refine M_no rfl rfl rfl rfl rfl rfl ?_
    refine M_no rfl rfl rfl rfl rfl rfl ?_;refine M_no rfl rfl rfl rfl rfl rfl ?_;refine M_no rfl rfl rfl rfl rfl rfl ?_;refine M_no rfl rfl rfl rfl rfl rfl ?_
    refine M0 (q_pickT rfl rfl rfl rfl) rfl rfl ?_;refine M0 (q_moveC rfl rfl rfl) rfl rfl ?_;refine M_no rfl rfl rfl rfl rfl rfl ?_;refine M_no rfl rfl rfl rfl rfl rfl ?_
    refine M_no rfl rfl rfl rfl rfl rfl ?_;refine M_no rfl rfl rfl rfl rfl rfl ?_;refine M_no rfl rfl rfl rfl rfl rfl ?_;refine M_no rfl rfl rfl rfl rfl rfl ?_
    refine M_no rfl rfl rfl rfl rfl rfl ?_;refine M0 (q_pickT rfl rfl rfl rfl) rfl rfl ?_;refine M0 (q_moveC rfl rfl rfl) rfl rfl ?_;refine M_no rfl rfl rfl rfl rfl rfl ?_
    refine M_no rfl rfl rfl rfl rfl rfl ?_;refine M_no rfl rfl rfl rfl rfl rfl ?_;refine M_no rfl rfl rfl rfl rfl rfl ?_;refine M_no rfl rfl rfl rfl rfl rfl ?_
    refine M_no rfl rfl rfl rfl rfl rfl ?_;refine M_no rfl rfl rfl rfl rfl rfl ?_;refine M_no rfl rfl rfl rfl rfl rfl ?_;refine M_no rfl rfl rfl rfl rfl rfl ?_
    refine M0 (q_pickT rfl rfl rfl rfl) rfl rfl ?_;refine L_nil (T_n ?_);refine A_ifT rfl ?_;refine A_seq (A_region ?_);refine M0 (q_build rfl rfl rfl rfl rfl) rfl rfl ?_
    refine M_stN rfl rfl rfl rfl rfl rfl rfl rfl rfl ?_;refine M0 (q_assignC rfl rfl rfl) rfl rfl ?_;refine L_nil (T_n (A_ret (T_r (F_r ?_))))
    exact E_cellt rfl rfl rfl rfl rfl (W_fill [1,1,9] [3,4,5] rfl rfl (by decide) rfl rfl rfl)
  | some r =>
    obtain ⟨l,pos⟩ := r
    rw [hu] at hui
    obtain ⟨_,hu1,hu2,hu3,hu4⟩ := unpackInts_some hu
    have hll := els_len l
    by_cases c1 : (pos : Int) ≠ s.size
    · have hb1 : decide ((pos : Int) ≠ s.size) = true := decide_eq_true c1
      rw [readWorld_no hu (fun hh => by have := hh.1; omega)]
      refine Con.of Try.func35 rfl Try.ntmps35 rfl (fun E => ?_)
      refine A_seq (A_region ?_);refine M1 (q_boxN rfl rfl rfl rfl) rfl rfl ?_;refine M1 (q_alloc rfl rfl rfl) rfl rfl ?_;refine M0 (q_assignC rfl rfl rfl) rfl rfl ?_;refine L_nil ?_
      refine T_n (A_seq (A_region ?_));refine M0 (q_moveC rfl rfl rfl) rfl rfl ?_;refine M1 (q_call rfl rfl (hui) rfl rfl rfl) rfl rfl ?_
      refine M0 (q_moveT rfl rfl rfl) rfl rfl ?_;refine M0 (q_ext rfl rfl rfl rfl) rfl rfl ?_;refine M0 (q_ext rfl rfl rfl rfl) rfl rfl ?_;refine M0 (q_ext rfl rfl rfl rfl) rfl rfl ?_
      refine M0 (q_assignC rfl rfl rfl) rfl rfl ?_;refine M0 (q_assignC rfl rfl rfl) rfl rfl ?_;refine M0 (q_assignC rfl rfl rfl) rfl rfl ?_;refine L_nil (T_n (A_seq ?_))
      refine A_seq (A_region ?_);refine M0 (q_moveC rfl rfl rfl) rfl rfl ?_;refine M0 (q_not rfl rfl rfl) rfl rfl ?_;refine M0 (q_moveC rfl rfl rfl) rfl rfl ?_
      refine M_yes rfl rfl rfl ?_;refine M0 (q_moveC rfl rfl rfl) rfl rfl ?_;refine M_yes rfl rfl rfl ?_;refine M0 (q_moveC rfl rfl rfl) rfl rfl ?_;refine M_yes rfl rfl rfl ?_
      refine M0 (q_lens rfl rfl rfl) rfl rfl ?_;refine M_yes rfl rfl rfl ?_;refine M0 (q_neqK rfl rfl rfl rfl (by assumption)) rfl rfl ?_;refine M0 (q_pickF rfl rfl rfl rfl) rfl rfl ?_
      refine M0 (q_moveC rfl rfl rfl) rfl rfl ?_;refine M_no rfl rfl rfl rfl rfl rfl ?_;refine M_no rfl rfl rfl rfl rfl rfl ?_;refine M_no rfl rfl rfl rfl rfl rfl ?_
      refine M0 (q_pickT rfl rfl rfl rfl) rfl rfl ?_;refine M0 (q_moveC rfl rfl rfl) rfl rfl ?_;refine M_no rfl rfl rfl rfl rfl rfl ?_;refine M_no rfl rfl rfl rfl rfl rfl ?_
      refine M_no rfl rfl rfl rfl rfl rfl ?_;refine M_no rfl rfl rfl rfl rfl rfl ?_;refine M_no rfl rfl rfl rfl rfl rfl ?_;refine M0 (q_pickT rfl rfl rfl rfl) rfl rfl ?_
      refine M0 (q_moveC rfl rfl rfl) rfl rfl ?_;refine M_no rfl rfl rfl rfl rfl rfl ?_;refine M_no rfl rfl rfl rfl rfl rfl ?_;refine M_no rfl rfl rfl rfl rfl rfl ?_
      refine M_no rfl rfl rfl rfl rfl rfl ?_;refine M_no rfl rfl rfl rfl rfl rfl ?_;refine M_no rfl rfl rfl rfl rfl rfl ?_;refine M_no rfl rfl rfl rfl rfl rfl ?_
      refine M0 (q_pickT rfl rfl rfl rfl) rfl rfl ?_;refine M0 (q_moveC rfl rfl rfl) rfl rfl ?_;refine M_no rfl rfl rfl rfl rfl rfl ?_;refine M_no rfl rfl rfl rfl rfl rfl ?_
      refine M_no rfl rfl rfl rfl rfl rfl ?_;refine M_no rfl rfl rfl rfl rfl rfl ?_;refine M_no rfl rfl rfl rfl rfl rfl ?_;refine M_no rfl rfl rfl rfl rfl rfl ?_
      refine M_no rfl rfl rfl rfl rfl rfl ?_;refine M_no rfl rfl rfl rfl rfl rfl ?_;refine M_no rfl rfl rfl rfl rfl rfl ?_;refine M0 (q_pickT rfl rfl rfl rfl) rfl rfl ?_;refine L_nil ?_
      refine T_n ?_;refine A_ifT rfl ?_;refine A_seq (A_region ?_);refine M0 (q_build rfl rfl rfl rfl rfl) rfl rfl ?_;refine M_stN rfl rfl rfl rfl rfl rfl rfl rfl rfl ?_
      refine M0 (q_assignC rfl rfl rfl) rfl rfl ?_;refine L_nil (T_n (A_ret (T_r (F_r ?_))))
      exact E_cellt rfl rfl rfl rfl rfl (W_fill [1,1,9] [3,4,5] rfl rfl (by decide) rfl rfl rfl)
    have hb1 : decide ((pos : Int) ≠ s.size) = false := decide_eq_false c1
    by_cases c2 : ((els l).length : Int) < 3
    · have hb2 : decide (((els l).length : Int) < 3) = true := decide_eq_true c2
      rw [readWorld_no hu (fun hh => by have := hh.2.1.1; omega)]
      refine Con.of Try.func35 rfl Try.ntmps35 rfl (fun E => ?_)
      refine A_seq (A_region ?_);refine M1 (q_boxN rfl rfl rfl rfl) rfl rfl ?_;refine M1 (q_alloc rfl rfl rfl) rfl rfl ?_;refine M0 (q_assignC rfl rfl rfl) rfl rfl ?_;refine L_nil ?_
      refine T_n (A_seq (A_region ?_));refine M0 (q_moveC rfl rfl rfl) rfl rfl ?_;refine M1 (q_call rfl rfl (hui) rfl rfl rfl) rfl rfl ?_
      refine M0 (q_moveT rfl rfl rfl) rfl rfl ?_;refine M0 (q_ext rfl rfl rfl rfl) rfl rfl ?_;refine M0 (q_ext rfl rfl rfl rfl) rfl rfl ?_;refine M0 (q_ext rfl rfl rfl rfl) rfl rfl ?_
      refine M0 (q_assignC rfl rfl rfl) rfl rfl ?_;refine M0 (q_assignC rfl rfl rfl) rfl rfl ?_;refine M0 (q_assignC rfl rfl rfl) rfl rfl ?_;refine L_nil (T_n (A_seq ?_))
      refine A_seq (A_region ?_);refine M0 (q_moveC rfl rfl rfl) rfl rfl ?_;refine M0 (q_not rfl rfl rfl) rfl rfl ?_;refine M0 (q_moveC rfl rfl rfl) rfl rfl ?_
      refine M_yes rfl rfl rfl ?_;refine M0 (q_moveC rfl rfl rfl) rfl rfl ?_;refine M_yes rfl rfl rfl ?_;refine M0 (q_moveC rfl rfl rfl) rfl rfl ?_;refine M_yes rfl rfl rfl ?_
      refine M0 (q_lens rfl rfl rfl) rfl rfl ?_;refine M_yes rfl rfl rfl ?_;refine M0 (q_neqK rfl rfl rfl rfl (by assumption)) rfl rfl ?_;refine M0 (q_pickF rfl rfl rfl rfl) rfl rfl ?_
      refine M0 (q_moveC rfl rfl rfl) rfl rfl ?_;refine M_yes rfl rfl rfl ?_;refine M0 (q_moveC rfl rfl rfl) rfl rfl ?_;refine M_yes rfl rfl rfl ?_
      refine M0 (q_lenr rfl rfl rfl rfl) rfl rfl ?_;refine M_yes rfl rfl rfl ?_;refine M0 (q_lssK rfl rfl rfl rfl (by assumption)) rfl rfl ?_;refine M0 (q_pickF rfl rfl rfl rfl) rfl rfl ?_
      refine M0 (q_moveC rfl rfl rfl) rfl rfl ?_;refine M_no rfl rfl rfl rfl rfl rfl ?_;refine M_no rfl rfl rfl rfl rfl rfl ?_;refine M_no rfl rfl rfl rfl rfl rfl ?_
      refine M_no rfl rfl rfl rfl rfl rfl ?_;refine M_no rfl rfl rfl rfl rfl rfl ?_;refine M0 (q_pickT rfl rfl rfl rfl) rfl rfl ?_;refine M0 (q_moveC rfl rfl rfl) rfl rfl ?_
      refine M_no rfl rfl rfl rfl rfl rfl ?_;refine M_no rfl rfl rfl rfl rfl rfl ?_;refine M_no rfl rfl rfl rfl rfl rfl ?_;refine M_no rfl rfl rfl rfl rfl rfl ?_
      refine M_no rfl rfl rfl rfl rfl rfl ?_;refine M_no rfl rfl rfl rfl rfl rfl ?_;refine M_no rfl rfl rfl rfl rfl rfl ?_;refine M0 (q_pickT rfl rfl rfl rfl) rfl rfl ?_
      refine M0 (q_moveC rfl rfl rfl) rfl rfl ?_;refine M_no rfl rfl rfl rfl rfl rfl ?_;refine M_no rfl rfl rfl rfl rfl rfl ?_;refine M_no rfl rfl rfl rfl rfl rfl ?_
      refine M_no rfl rfl rfl rfl rfl rfl ?_;refine M_no rfl rfl rfl rfl rfl rfl ?_;refine M_no rfl rfl rfl rfl rfl rfl ?_;refine M_no rfl rfl rfl rfl rfl rfl ?_
      refine M_no rfl rfl rfl rfl rfl rfl ?_;refine M_no rfl rfl rfl rfl rfl rfl ?_;refine M0 (q_pickT rfl rfl rfl rfl) rfl rfl ?_;refine L_nil (T_n ?_);refine A_ifT rfl ?_
      refine A_seq (A_region ?_);refine M0 (q_build rfl rfl rfl rfl rfl) rfl rfl ?_;refine M_stN rfl rfl rfl rfl rfl rfl rfl rfl rfl ?_;refine M0 (q_assignC rfl rfl rfl) rfl rfl ?_
      refine L_nil (T_n (A_ret (T_r (F_r ?_))))
      exact E_cellt rfl rfl rfl rfl rfl (W_fill [1,1,9] [3,4,5] rfl rfl (by decide) rfl rfl rfl)
    have hb2 : decide (((els l).length : Int) < 3) = false := decide_eq_false c2
    have ha0 := els_getD (l := l) (j := 0) (by omega) 0 rfl
    have ha1 := els_getD (l := l) (j := 1) (by omega) 1 rfl
    have ha2 := els_getD (l := l) (j := 2) (by omega) 2 rfl
    obtain ⟨l2,hl2⟩ : ∃ l2,l.getD 2 0 = l2 := ⟨_,rfl⟩
    rw [hl2] at ha2
    have hbt := S_in l2 1 4
    by_cases hin : inR l2 1 4 = true
    case neg =>
      have hf : inR l2 1 4 = false := by simpa using hin
      rw [hf] at hbt
      rw [readWorld_no hu (fun hh => by have := hh.2.1.2.1; rw [hl2,← inR_iff] at this; exact hin this)]
      refine Con.of Try.func35 rfl Try.ntmps35 rfl (fun E => ?_)
      refine A_seq (A_region ?_);refine M1 (q_boxN rfl rfl rfl rfl) rfl rfl ?_;refine M1 (q_alloc rfl rfl rfl) rfl rfl ?_;refine M0 (q_assignC rfl rfl rfl) rfl rfl ?_;refine L_nil ?_
      refine T_n (A_seq (A_region ?_));refine M0 (q_moveC rfl rfl rfl) rfl rfl ?_;refine M1 (q_call rfl rfl (hui) rfl rfl rfl) rfl rfl ?_
      refine M0 (q_moveT rfl rfl rfl) rfl rfl ?_;refine M0 (q_ext rfl rfl rfl rfl) rfl rfl ?_;refine M0 (q_ext rfl rfl rfl rfl) rfl rfl ?_;refine M0 (q_ext rfl rfl rfl rfl) rfl rfl ?_
      refine M0 (q_assignC rfl rfl rfl) rfl rfl ?_;refine M0 (q_assignC rfl rfl rfl) rfl rfl ?_;refine M0 (q_assignC rfl rfl rfl) rfl rfl ?_;refine L_nil (T_n (A_seq ?_))
      refine A_seq (A_region ?_);refine M0 (q_moveC rfl rfl rfl) rfl rfl ?_;refine M0 (q_not rfl rfl rfl) rfl rfl ?_;refine M0 (q_moveC rfl rfl rfl) rfl rfl ?_
      refine M_yes rfl rfl rfl ?_;refine M0 (q_moveC rfl rfl rfl) rfl rfl ?_;refine M_yes rfl rfl rfl ?_;refine M0 (q_moveC rfl rfl rfl) rfl rfl ?_;refine M_yes rfl rfl rfl ?_
      refine M0 (q_lens rfl rfl rfl) rfl rfl ?_;refine M_yes rfl rfl rfl ?_;refine M0 (q_neqK rfl rfl rfl rfl (by assumption)) rfl rfl ?_;refine M0 (q_pickF rfl rfl rfl rfl) rfl rfl ?_
      refine M0 (q_moveC rfl rfl rfl) rfl rfl ?_;refine M_yes rfl rfl rfl ?_;refine M0 (q_moveC rfl rfl rfl) rfl rfl ?_;refine M_yes rfl rfl rfl ?_
      refine M0 (q_lenr rfl rfl rfl rfl) rfl rfl ?_;refine M_yes rfl rfl rfl ?_;refine M0 (q_lssK rfl rfl rfl rfl (by assumption)) rfl rfl ?_;refine M0 (q_pickF rfl rfl rfl rfl) rfl rfl ?_
      refine M0 (q_moveC rfl rfl rfl) rfl rfl ?_;refine M_yes rfl rfl rfl ?_;refine M0 (q_moveC rfl rfl rfl) rfl rfl ?_;refine M_yes rfl rfl rfl ?_
      refine M0 (q_ar rfl rfl rfl rfl rfl (by omega) (by omega)) rfl rfl ?_;refine M_yes rfl rfl rfl ?_;refine M0 (q_le1 rfl rfl rfl rfl (by assumption) rfl) rfl rfl ?_
      refine M_yes rfl rfl rfl ?_;refine M0 (q_call0 rfl rfl (hbt) rfl) rfl rfl ?_;refine M_yes rfl rfl rfl ?_;refine M0 (q_not rfl rfl rfl) rfl rfl ?_
      refine M0 (q_pickF rfl rfl rfl rfl) rfl rfl ?_;refine M0 (q_moveC rfl rfl rfl) rfl rfl ?_;refine M_no rfl rfl rfl rfl rfl rfl ?_;refine M_no rfl rfl rfl rfl rfl rfl ?_
      refine M_no rfl rfl rfl rfl rfl rfl ?_;refine M_no rfl rfl rfl rfl rfl rfl ?_;refine M_no rfl rfl rfl rfl rfl rfl ?_;refine M_no rfl rfl rfl rfl rfl rfl ?_
      refine M_no rfl rfl rfl rfl rfl rfl ?_;refine M0 (q_pickT rfl rfl rfl rfl) rfl rfl ?_;refine M0 (q_moveC rfl rfl rfl) rfl rfl ?_;refine M_no rfl rfl rfl rfl rfl rfl ?_
      refine M_no rfl rfl rfl rfl rfl rfl ?_;refine M_no rfl rfl rfl rfl rfl rfl ?_;refine M_no rfl rfl rfl rfl rfl rfl ?_;refine M_no rfl rfl rfl rfl rfl rfl ?_
      refine M_no rfl rfl rfl rfl rfl rfl ?_;refine M_no rfl rfl rfl rfl rfl rfl ?_;refine M_no rfl rfl rfl rfl rfl rfl ?_;refine M_no rfl rfl rfl rfl rfl rfl ?_
      refine M0 (q_pickT rfl rfl rfl rfl) rfl rfl ?_;refine L_nil (T_n ?_);refine A_ifT rfl ?_;refine A_seq (A_region ?_);refine M0 (q_build rfl rfl rfl rfl rfl) rfl rfl ?_
      refine M_stN rfl rfl rfl rfl rfl rfl rfl rfl rfl ?_;refine M0 (q_assignC rfl rfl rfl) rfl rfl ?_;refine L_nil (T_n (A_ret (T_r (F_r ?_))))
      exact E_cellt rfl rfl rfl rfl rfl (W_fill [1,1,9] [3,4,5] rfl rfl (by decide) rfl rfl rfl)
    rw [hin] at hbt
    have hin2 := inR_iff.1 hin
    obtain ⟨p,rfl⟩ : ∃ p : Nat,l2 = p := ⟨l2.toNat,by omega⟩
    by_cases c4 : ((els l).length : Int) < 3 + (p : Int)
    · have hb4 : decide (((els l).length : Int) < 3 + (p : Int)) = true := decide_eq_true c4
      rw [readWorld_no hu (fun hh => by have := hh.2.1.2.2.1; omega)]
      refine Con.of Try.func35 rfl Try.ntmps35 rfl (fun E => ?_)
      refine A_seq (A_region ?_);refine M1 (q_boxN rfl rfl rfl rfl) rfl rfl ?_;refine M1 (q_alloc rfl rfl rfl) rfl rfl ?_;refine M0 (q_assignC rfl rfl rfl) rfl rfl ?_;refine L_nil ?_
      refine T_n (A_seq (A_region ?_));refine M0 (q_moveC rfl rfl rfl) rfl rfl ?_;refine M1 (q_call rfl rfl (hui) rfl rfl rfl) rfl rfl ?_
      refine M0 (q_moveT rfl rfl rfl) rfl rfl ?_;refine M0 (q_ext rfl rfl rfl rfl) rfl rfl ?_;refine M0 (q_ext rfl rfl rfl rfl) rfl rfl ?_;refine M0 (q_ext rfl rfl rfl rfl) rfl rfl ?_
      refine M0 (q_assignC rfl rfl rfl) rfl rfl ?_;refine M0 (q_assignC rfl rfl rfl) rfl rfl ?_;refine M0 (q_assignC rfl rfl rfl) rfl rfl ?_;refine L_nil (T_n (A_seq ?_))
      refine A_seq (A_region ?_);refine M0 (q_moveC rfl rfl rfl) rfl rfl ?_;refine M0 (q_not rfl rfl rfl) rfl rfl ?_;refine M0 (q_moveC rfl rfl rfl) rfl rfl ?_
      refine M_yes rfl rfl rfl ?_;refine M0 (q_moveC rfl rfl rfl) rfl rfl ?_;refine M_yes rfl rfl rfl ?_;refine M0 (q_moveC rfl rfl rfl) rfl rfl ?_;refine M_yes rfl rfl rfl ?_
      refine M0 (q_lens rfl rfl rfl) rfl rfl ?_;refine M_yes rfl rfl rfl ?_;refine M0 (q_neqK rfl rfl rfl rfl (by assumption)) rfl rfl ?_;refine M0 (q_pickF rfl rfl rfl rfl) rfl rfl ?_
      refine M0 (q_moveC rfl rfl rfl) rfl rfl ?_;refine M_yes rfl rfl rfl ?_;refine M0 (q_moveC rfl rfl rfl) rfl rfl ?_;refine M_yes rfl rfl rfl ?_
      refine M0 (q_lenr rfl rfl rfl rfl) rfl rfl ?_;refine M_yes rfl rfl rfl ?_;refine M0 (q_lssK rfl rfl rfl rfl (by assumption)) rfl rfl ?_;refine M0 (q_pickF rfl rfl rfl rfl) rfl rfl ?_
      refine M0 (q_moveC rfl rfl rfl) rfl rfl ?_;refine M_yes rfl rfl rfl ?_;refine M0 (q_moveC rfl rfl rfl) rfl rfl ?_;refine M_yes rfl rfl rfl ?_
      refine M0 (q_ar rfl rfl rfl rfl rfl (by omega) (by omega)) rfl rfl ?_;refine M_yes rfl rfl rfl ?_;refine M0 (q_le1 rfl rfl rfl rfl (by assumption) rfl) rfl rfl ?_
      refine M_yes rfl rfl rfl ?_;refine M0 (q_call0 rfl rfl (hbt) rfl) rfl rfl ?_;refine M_yes rfl rfl rfl ?_;refine M0 (q_not rfl rfl rfl) rfl rfl ?_
      refine M0 (q_pickF rfl rfl rfl rfl) rfl rfl ?_;refine M0 (q_moveC rfl rfl rfl) rfl rfl ?_;refine M_yes rfl rfl rfl ?_;refine M0 (q_moveC rfl rfl rfl) rfl rfl ?_
      refine M_yes rfl rfl rfl ?_;refine M0 (q_lenr rfl rfl rfl rfl) rfl rfl ?_;refine M_yes rfl rfl rfl ?_;refine M0 (q_moveC rfl rfl rfl) rfl rfl ?_;refine M_yes rfl rfl rfl ?_
      refine M0 (q_ar rfl rfl rfl rfl rfl (by omega) (by omega)) rfl rfl ?_;refine M_yes rfl rfl rfl ?_;refine M0 (q_le1 rfl rfl rfl rfl (by assumption) rfl) rfl rfl ?_
      refine M_yes rfl rfl rfl ?_;refine M0 (q_add rfl rfl rfl rfl (by omega)) rfl rfl ?_;refine M_yes rfl rfl rfl ?_;refine M0 (q_lssK rfl rfl rfl rfl (by assumption)) rfl rfl ?_
      refine M0 (q_pickF rfl rfl rfl rfl) rfl rfl ?_;refine M0 (q_moveC rfl rfl rfl) rfl rfl ?_;refine M_no rfl rfl rfl rfl rfl rfl ?_;refine M_no rfl rfl rfl rfl rfl rfl ?_
      refine M_no rfl rfl rfl rfl rfl rfl ?_;refine M_no rfl rfl rfl rfl rfl rfl ?_;refine M_no rfl rfl rfl rfl rfl rfl ?_;refine M_no rfl rfl rfl rfl rfl rfl ?_
      refine M_no rfl rfl rfl rfl rfl rfl ?_;refine M_no rfl rfl rfl rfl rfl rfl ?_;refine M_no rfl rfl rfl rfl rfl rfl ?_;refine M0 (q_pickT rfl rfl rfl rfl) rfl rfl ?_;refine L_nil ?_
      refine T_n ?_;refine A_ifT rfl ?_;refine A_seq (A_region ?_);refine M0 (q_build rfl rfl rfl rfl rfl) rfl rfl ?_;refine M_stN rfl rfl rfl rfl rfl rfl rfl rfl rfl ?_
      refine M0 (q_assignC rfl rfl rfl) rfl rfl ?_;refine L_nil (T_n (A_ret (T_r (F_r ?_))))
      exact E_cellt rfl rfl rfl rfl rfl (W_fill [1,1,9] [3,4,5] rfl rfl (by decide) rfl rfl rfl)
    have hb4 : decide (((els l).length : Int) < 3 + (p : Int)) = false := decide_eq_false c4
    by_cases c5 : (((els l).length : Int) - 3 - (p : Int)) % 9 ≠ 0
    · have hb5 : decide ((((els l).length : Int) - 3 - (p : Int)) % 9 ≠ 0) = true := decide_eq_true c5
      rw [readWorld_no hu (fun hh => by have := hh.2.1.2.2.2; rw [hl2] at this; omega)]
      refine Con.of Try.func35 rfl Try.ntmps35 rfl (fun E => ?_)
      refine A_seq (A_region ?_);refine M1 (q_boxN rfl rfl rfl rfl) rfl rfl ?_;refine M1 (q_alloc rfl rfl rfl) rfl rfl ?_;refine M0 (q_assignC rfl rfl rfl) rfl rfl ?_;refine L_nil ?_
      refine T_n (A_seq (A_region ?_));refine M0 (q_moveC rfl rfl rfl) rfl rfl ?_;refine M1 (q_call rfl rfl (hui) rfl rfl rfl) rfl rfl ?_
      refine M0 (q_moveT rfl rfl rfl) rfl rfl ?_;refine M0 (q_ext rfl rfl rfl rfl) rfl rfl ?_;refine M0 (q_ext rfl rfl rfl rfl) rfl rfl ?_;refine M0 (q_ext rfl rfl rfl rfl) rfl rfl ?_
      refine M0 (q_assignC rfl rfl rfl) rfl rfl ?_;refine M0 (q_assignC rfl rfl rfl) rfl rfl ?_;refine M0 (q_assignC rfl rfl rfl) rfl rfl ?_;refine L_nil (T_n (A_seq ?_))
      refine A_seq (A_region ?_);refine M0 (q_moveC rfl rfl rfl) rfl rfl ?_;refine M0 (q_not rfl rfl rfl) rfl rfl ?_;refine M0 (q_moveC rfl rfl rfl) rfl rfl ?_
      refine M_yes rfl rfl rfl ?_;refine M0 (q_moveC rfl rfl rfl) rfl rfl ?_;refine M_yes rfl rfl rfl ?_;refine M0 (q_moveC rfl rfl rfl) rfl rfl ?_;refine M_yes rfl rfl rfl ?_
      refine M0 (q_lens rfl rfl rfl) rfl rfl ?_;refine M_yes rfl rfl rfl ?_;refine M0 (q_neqK rfl rfl rfl rfl (by assumption)) rfl rfl ?_;refine M0 (q_pickF rfl rfl rfl rfl) rfl rfl ?_
      refine M0 (q_moveC rfl rfl rfl) rfl rfl ?_;refine M_yes rfl rfl rfl ?_;refine M0 (q_moveC rfl rfl rfl) rfl rfl ?_;refine M_yes rfl rfl rfl ?_
      refine M0 (q_lenr rfl rfl rfl rfl) rfl rfl ?_;refine M_yes rfl rfl rfl ?_;refine M0 (q_lssK rfl rfl rfl rfl (by assumption)) rfl rfl ?_;refine M0 (q_pickF rfl rfl rfl rfl) rfl rfl ?_
      refine M0 (q_moveC rfl rfl rfl) rfl rfl ?_;refine M_yes rfl rfl rfl ?_;refine M0 (q_moveC rfl rfl rfl) rfl rfl ?_;refine M_yes rfl rfl rfl ?_
      refine M0 (q_ar rfl rfl rfl rfl rfl (by omega) (by omega)) rfl rfl ?_;refine M_yes rfl rfl rfl ?_;refine M0 (q_le1 rfl rfl rfl rfl (by assumption) rfl) rfl rfl ?_
      refine M_yes rfl rfl rfl ?_;refine M0 (q_call0 rfl rfl (hbt) rfl) rfl rfl ?_;refine M_yes rfl rfl rfl ?_;refine M0 (q_not rfl rfl rfl) rfl rfl ?_
      refine M0 (q_pickF rfl rfl rfl rfl) rfl rfl ?_;refine M0 (q_moveC rfl rfl rfl) rfl rfl ?_;refine M_yes rfl rfl rfl ?_;refine M0 (q_moveC rfl rfl rfl) rfl rfl ?_
      refine M_yes rfl rfl rfl ?_;refine M0 (q_lenr rfl rfl rfl rfl) rfl rfl ?_;refine M_yes rfl rfl rfl ?_;refine M0 (q_moveC rfl rfl rfl) rfl rfl ?_;refine M_yes rfl rfl rfl ?_
      refine M0 (q_ar rfl rfl rfl rfl rfl (by omega) (by omega)) rfl rfl ?_;refine M_yes rfl rfl rfl ?_;refine M0 (q_le1 rfl rfl rfl rfl (by assumption) rfl) rfl rfl ?_
      refine M_yes rfl rfl rfl ?_;refine M0 (q_add rfl rfl rfl rfl (by omega)) rfl rfl ?_;refine M_yes rfl rfl rfl ?_;refine M0 (q_lssK rfl rfl rfl rfl (by assumption)) rfl rfl ?_
      refine M0 (q_pickF rfl rfl rfl rfl) rfl rfl ?_;refine M0 (q_moveC rfl rfl rfl) rfl rfl ?_;refine M_yes rfl rfl rfl ?_;refine M0 (q_moveC rfl rfl rfl) rfl rfl ?_
      refine M_yes rfl rfl rfl ?_;refine M0 (q_lenr rfl rfl rfl rfl) rfl rfl ?_;refine M_yes rfl rfl rfl ?_;refine M0 (q_sub rfl rfl rfl rfl (by omega)) rfl rfl ?_
      refine M_yes rfl rfl rfl ?_;refine M0 (q_moveC rfl rfl rfl) rfl rfl ?_;refine M_yes rfl rfl rfl ?_;refine M0 (q_ar rfl rfl rfl rfl rfl (by omega) (by omega)) rfl rfl ?_
      refine M_yes rfl rfl rfl ?_;refine M0 (q_le1 rfl rfl rfl rfl (by assumption) rfl) rfl rfl ?_;refine M_yes rfl rfl rfl ?_;refine M0 (q_sub rfl rfl rfl rfl (by omega)) rfl rfl ?_
      refine M_yes rfl rfl rfl ?_;refine M0 (q_rem rfl rfl rfl rfl (by omega)) rfl rfl ?_;refine M_yes rfl rfl rfl ?_;refine M0 (q_neqK rfl rfl rfl rfl (by assumption)) rfl rfl ?_
      refine M0 (q_pickF rfl rfl rfl rfl) rfl rfl ?_;refine L_nil (T_n ?_);refine A_ifT rfl ?_;refine A_seq (A_region ?_);refine M0 (q_build rfl rfl rfl rfl rfl) rfl rfl ?_
      refine M_stN rfl rfl rfl rfl rfl rfl rfl rfl rfl ?_;refine M0 (q_assignC rfl rfl rfl) rfl rfl ?_;refine L_nil (T_n (A_ret (T_r (F_r ?_))))
      exact E_cellt rfl rfl rfl rfl rfl (W_fill [1,1,9] [3,4,5] rfl rfl (by decide) rfl rfl rfl)
    have hb5 : decide ((((els l).length : Int) - 3 - (p : Int)) % 9 ≠ 0) = false := decide_eq_false c5
    obtain ⟨rest,hrest⟩ : ∃ rest,rest = l.drop (3 + p) := ⟨_,rfl⟩
    have hrl : rest.length = l.length - (3 + p) := by rw [hrest]; simp
    obtain ⟨nb,hn⟩ : ∃ nb,rest.length = 9 * nb := ⟨rest.length / 9,by omega⟩
    have hform : formOk l := ⟨by omega,by rw [hl2]; exact hin2,by rw [hl2]; omega,by rw [hl2]; omega⟩
    have hwo : worldOf lv l = ⟨lv,l.getD 0 0,l.getD 1 0,(l.drop 3).take p,bodiesOf rest nb⟩ := by
      rw [worldOf,hl2,Int.toNat_natCast,← hrest,show (l.length - 3 - p) / 9 = nb by omega]
    have hwg := worldOf_gd (lv := lv) hg hu4 (by omega)
    rw [hwo] at hwg
    have hwb := world_bytes_eq (lv := lv) hu (by omega) hform
    rw [hwo] at hwb
    have hpl : ((((els l).take ((3 : Int) + (p : Int)).toNat).drop (3 : Int).toNat)).length = p := by
      rw [List.length_drop,List.length_take,hll]; omega
    have hsc : els ((l.drop 3).take p) = (((els l).take ((3 : Int) + (p : Int)).toNat).drop (3 : Int).toNat) := by
      rw [show ((3 : Int) + (p : Int)).toNat = 3 + p by omega,show (3 : Int).toNat = 3 from rfl,List.drop_take,← els_dropE,← els_takeE2,show 3 + p - 3 = p by omega]
    refine Con.of Try.func35 rfl Try.ntmps35 rfl (fun E => ?_)
    refine A_seq (A_region ?_);refine M1 (q_boxN rfl rfl rfl rfl) rfl rfl ?_;refine M1 (q_alloc rfl rfl rfl) rfl rfl ?_;refine M0 (q_assignC rfl rfl rfl) rfl rfl ?_;refine L_nil ?_
    refine T_n (A_seq (A_region ?_));refine M0 (q_moveC rfl rfl rfl) rfl rfl ?_;refine M1 (q_call rfl rfl (hui) rfl rfl rfl) rfl rfl ?_
    refine M0 (q_moveT rfl rfl rfl) rfl rfl ?_;refine M0 (q_ext rfl rfl rfl rfl) rfl rfl ?_;refine M0 (q_ext rfl rfl rfl rfl) rfl rfl ?_;refine M0 (q_ext rfl rfl rfl rfl) rfl rfl ?_
    refine M0 (q_assignC rfl rfl rfl) rfl rfl ?_;refine M0 (q_assignC rfl rfl rfl) rfl rfl ?_;refine M0 (q_assignC rfl rfl rfl) rfl rfl ?_;refine L_nil (T_n (A_seq ?_))
    refine A_seq (A_region ?_);refine M0 (q_moveC rfl rfl rfl) rfl rfl ?_;refine M0 (q_not rfl rfl rfl) rfl rfl ?_;refine M0 (q_moveC rfl rfl rfl) rfl rfl ?_
    refine M_yes rfl rfl rfl ?_;refine M0 (q_moveC rfl rfl rfl) rfl rfl ?_;refine M_yes rfl rfl rfl ?_;refine M0 (q_moveC rfl rfl rfl) rfl rfl ?_;refine M_yes rfl rfl rfl ?_
    refine M0 (q_lens rfl rfl rfl) rfl rfl ?_;refine M_yes rfl rfl rfl ?_;refine M0 (q_neqK rfl rfl rfl rfl (by assumption)) rfl rfl ?_;refine M0 (q_pickF rfl rfl rfl rfl) rfl rfl ?_
    refine M0 (q_moveC rfl rfl rfl) rfl rfl ?_;refine M_yes rfl rfl rfl ?_;refine M0 (q_moveC rfl rfl rfl) rfl rfl ?_;refine M_yes rfl rfl rfl ?_
    refine M0 (q_lenr rfl rfl rfl rfl) rfl rfl ?_;refine M_yes rfl rfl rfl ?_;refine M0 (q_lssK rfl rfl rfl rfl (by assumption)) rfl rfl ?_;refine M0 (q_pickF rfl rfl rfl rfl) rfl rfl ?_
    refine M0 (q_moveC rfl rfl rfl) rfl rfl ?_;refine M_yes rfl rfl rfl ?_;refine M0 (q_moveC rfl rfl rfl) rfl rfl ?_;refine M_yes rfl rfl rfl ?_
    refine M0 (q_ar rfl rfl rfl rfl rfl (by omega) (by omega)) rfl rfl ?_;refine M_yes rfl rfl rfl ?_;refine M0 (q_le1 rfl rfl rfl rfl (by assumption) rfl) rfl rfl ?_
    refine M_yes rfl rfl rfl ?_;refine M0 (q_call0 rfl rfl (hbt) rfl) rfl rfl ?_;refine M_yes rfl rfl rfl ?_;refine M0 (q_not rfl rfl rfl) rfl rfl ?_
    refine M0 (q_pickF rfl rfl rfl rfl) rfl rfl ?_;refine M0 (q_moveC rfl rfl rfl) rfl rfl ?_;refine M_yes rfl rfl rfl ?_;refine M0 (q_moveC rfl rfl rfl) rfl rfl ?_
    refine M_yes rfl rfl rfl ?_;refine M0 (q_lenr rfl rfl rfl rfl) rfl rfl ?_;refine M_yes rfl rfl rfl ?_;refine M0 (q_moveC rfl rfl rfl) rfl rfl ?_;refine M_yes rfl rfl rfl ?_
    refine M0 (q_ar rfl rfl rfl rfl rfl (by omega) (by omega)) rfl rfl ?_;refine M_yes rfl rfl rfl ?_;refine M0 (q_le1 rfl rfl rfl rfl (by assumption) rfl) rfl rfl ?_
    refine M_yes rfl rfl rfl ?_;refine M0 (q_add rfl rfl rfl rfl (by omega)) rfl rfl ?_;refine M_yes rfl rfl rfl ?_;refine M0 (q_lssK rfl rfl rfl rfl (by assumption)) rfl rfl ?_
    refine M0 (q_pickF rfl rfl rfl rfl) rfl rfl ?_;refine M0 (q_moveC rfl rfl rfl) rfl rfl ?_;refine M_yes rfl rfl rfl ?_;refine M0 (q_moveC rfl rfl rfl) rfl rfl ?_
    refine M_yes rfl rfl rfl ?_;refine M0 (q_lenr rfl rfl rfl rfl) rfl rfl ?_;refine M_yes rfl rfl rfl ?_;refine M0 (q_sub rfl rfl rfl rfl (by omega)) rfl rfl ?_
    refine M_yes rfl rfl rfl ?_;refine M0 (q_moveC rfl rfl rfl) rfl rfl ?_;refine M_yes rfl rfl rfl ?_;refine M0 (q_ar rfl rfl rfl rfl rfl (by omega) (by omega)) rfl rfl ?_
    refine M_yes rfl rfl rfl ?_;refine M0 (q_le1 rfl rfl rfl rfl (by assumption) rfl) rfl rfl ?_;refine M_yes rfl rfl rfl ?_;refine M0 (q_sub rfl rfl rfl rfl (by omega)) rfl rfl ?_
    refine M_yes rfl rfl rfl ?_;refine M0 (q_rem rfl rfl rfl rfl (by omega)) rfl rfl ?_;refine M_yes rfl rfl rfl ?_;refine M0 (q_neqK rfl rfl rfl rfl (by assumption)) rfl rfl ?_
    refine M0 (q_pickF rfl rfl rfl rfl) rfl rfl ?_;refine L_nil (T_n ?_);refine A_ifF rfl ?_;refine A_skip (T_n (A_seq (A_region ?_)))
    refine M0 (q_moveC rfl rfl rfl) rfl rfl ?_;refine M0 (q_ar rfl rfl rfl rfl rfl (by omega) (by omega)) rfl rfl ?_;refine M0 (q_le1 rfl rfl rfl rfl (by assumption) rfl) rfl rfl ?_
    refine M0 (q_add rfl rfl rfl rfl (by omega)) rfl rfl ?_;refine M0 (q_assignC rfl rfl rfl) rfl rfl ?_;refine L_nil (T_n (A_seq ?_))
    refine A_draw [[],[0],[],[2],[2,3],[],[5],[5,6],[],[],[],[9,10],[0,1,8,9,10,11],[0,1,2,3,4,5,6,7,8,9,10,11,12],[],[0,1,2,3,4,5,6,7,8,9,10,11,12,13,14]] [[],[63],[],[65],[65,66],[],[68],[68,69],[],[],[],[72,73],[63,64,71,72,73,74],[63,64,65,66,67,68,69,70,71,72,73,74,75],[],[10,63,64,65,66,67,68,69,70,71,72,73,74,75,76]] [[10,65,66,67,68,69,70,71,72,73,74],[10,65,66,67,68,69,70,71,72,73,74],[10,63,64,68,69,70,71,72,73,74,75],[10,63,64,68,69,70,71,72,73,74,75],[10,63,64,68,69,70,71,72,73,74,75],[10,63,64,65,66,67,71,72,73,74,75],[10,63,64,65,66,67,71,72,73,74,75],[10,63,64,65,66,67,71,72,73,74,75],[10,63,64,65,66,67,68,69,70,72,73,74],[10,63,64,65,66,67,68,69,70,71,73],[10,63,64,65,66,67,68,69,70,71,72],[10,63,64,65,66,67,68,69,70,71],[10,65,66,67,68,69,70],[10],[63,64,65,66,67,68,69,70,71,72,73,74,75,76],[]] rfl ?_
    refine DR.step (q_ldN rfl rfl rfl rfl rfl rfl) rfl rfl ?_;refine DR.step (q_call rfl rfl (S_copyLevel lv hg hL) rfl rfl rfl) rfl rfl ?_
    refine DR.step (q_moveC rfl rfl rfl) rfl rfl ?_;refine DR.step (q_ar rfl rfl rfl rfl rfl (by omega) (by omega)) rfl rfl ?_
    refine DR.step (q_le1 rfl rfl rfl rfl (by assumption) rfl) rfl rfl ?_;refine DR.step (q_moveC rfl rfl rfl) rfl rfl ?_
    refine DR.step (q_ar rfl rfl rfl rfl rfl (by omega) (by omega)) rfl rfl ?_;refine DR.step (q_le1 rfl rfl rfl rfl (by assumption) rfl) rfl rfl ?_
    refine DR.step (q_bslicez rfl rfl rfl) rfl rfl ?_;refine DR.step (q_moveC rfl rfl rfl) rfl rfl ?_;refine DR.step (q_moveC rfl rfl rfl) rfl rfl ?_
    refine DR.step (q_partr rfl rfl rfl rfl rfl rfl rfl (by omega)) rfl rfl ?_
    refine DR.step (q_appz rfl rfl rfl rfl rfl rfl (plain_dt _ _ _) (k_dt _ _ _) (by omega) (by omega) (by omega)) rfl rfl ?_;refine DR.step (q_build rfl rfl rfl rfl rfl) rfl rfl ?_
    refine DR.step (q_alloc rfl rfl rfl) rfl rfl ?_;refine DR.stop (by kernel_rfl) (by kernel_rfl) ?_
    refine AL.weak (st' := (⟨_,[(1,S s),(4,.o (.c (.ptr 1 0))),(6,.o (.c (.ref 2))),(9,I (3 + (p : Int))),(10,.o (.c (.ptr 4 0))),(76,.o (.ag [.ref 3,jv (l.getD 0 0),jv (l.getD 1 0),.ref 5,nilV]))],[.box ((Enc.e lv).map (V1.rd [])),.box [nilV,jv 0,jv 0,nilV,nilV],.row 1 (els l),.row 1 (els lv.Rows),.box [nilV,jv 0,jv 0,nilV,nilV],.row 1 (els ((l.drop 3).take p))]⟩ : St)) (W_go [0,1,2,3,6,5] (by decide) rfl (row6 hsc) (.cons rfl (.cons rfl (.cons rfl (.cons rfl (.cons rfl (.cons rfl (.nil)))))))) ?_
    refine AL.weak (Wk.refl _) ?_
    refine M_stN rfl rfl rfl rfl rfl rfl rfl rfl rfl ?_;refine L_nil (T_n (A_seq (A_seq (A_region ?_))));refine M0 (q_moveC rfl rfl rfl) rfl rfl ?_
    refine M0 (q_assignC rfl rfl rfl) rfl rfl ?_;refine L_nil (T_n (A_block ?_))
    refine AWP.pre ?_ (Wk.nilbox (p := 4) (i := 4) 9 rfl rfl)
    skip
    refine A_loop (fun m st => ∃ q : Nat,q + m = nb ∧ (True) ∧ st = (fun q : Nat => (⟨_,[(1,S s),(4,.o (.c (.ptr 1 0))),(6,.o (.c (.ref 2))),(10,.o (.c (.ptr 4 0))),(11,I ((3 + p + 9 * q : Nat) : Int))],[.box ((Enc.e lv).map (V1.rd [])),.box [nilV,jv 0,jv 0,nilV,nilV],.row 1 (els l),.row 1 (els lv.Rows),.box [.ref 3,jv (l.getD 0 0),jv (l.getD 1 0),.ref 5,.ref 6],.row 1 (els ((l.drop 3).take p)),.row 9 (els (bodiesOf rest q))]⟩ : St)) q) (nb) ⟨(fun q : Nat => (⟨_,[(1,S s),(4,.o (.c (.ptr 1 0))),(6,.o (.c (.ref 2))),(10,.o (.c (.ptr 4 0))),(11,I ((3 + p + 9 * q : Nat) : Int))],[.box ((Enc.e lv).map (V1.rd [])),.box [nilV,jv 0,jv 0,nilV,nilV],.row 1 (els l),.row 1 (els lv.Rows),.box [.ref 3,jv (l.getD 0 0),jv (l.getD 1 0),.ref 5,.ref 6],.row 1 (els ((l.drop 3).take p)),.row 9 (els (bodiesOf rest q))]⟩ : St)) 0,W_go [0,1,2,3,4,5,6] (by decide) rfl (rfl) (.cons rfl (.cons rfl (.cons rfl (.cons rfl (.cons (I_eq (by omega)) (.nil)))))),0,by omega,trivial,rfl⟩ ?_
    rintro m_A _ ⟨q,hk_A,hp_A,rfl⟩
    have hlbk := els_len (bodiesOf rest q)
    have hlbk2 := bodiesOf_len rest q
    by_cases h4 : ((3 + p + 9 * q : Nat) : Int) < (els l).length
    · have hb6 : decide (((3 + p + 9 * q : Nat) : Int) < (els l).length) = true := decide_eq_true h4
      have hc0 := els_getD (l := l) (j := 3 + p + 9 * q + 0) (by omega) (((3 + p + 9 * q : Nat) : Int)) (by omega)
      have hc1 := els_getD (l := l) (j := 3 + p + 9 * q + 1) (by omega) (((3 + p + 9 * q : Nat) : Int) + 1) (by omega)
      have hc2 := els_getD (l := l) (j := 3 + p + 9 * q + 2) (by omega) (((3 + p + 9 * q : Nat) : Int) + 2) (by omega)
      have hc3 := els_getD (l := l) (j := 3 + p + 9 * q + 3) (by omega) (((3 + p + 9 * q : Nat) : Int) + 3) (by omega)
      have hc4 := els_getD (l := l) (j := 3 + p + 9 * q + 4) (by omega) (((3 + p + 9 * q : Nat) : Int) + 4) (by omega)
      have hc5 := els_getD (l := l) (j := 3 + p + 9 * q + 5) (by omega) (((3 + p + 9 * q : Nat) : Int) + 5) (by omega)
      have hc6 := els_getD (l := l) (j := 3 + p + 9 * q + 6) (by omega) (((3 + p + 9 * q : Nat) : Int) + 6) (by omega)
      have hc7 := els_getD (l := l) (j := 3 + p + 9 * q + 7) (by omega) (((3 + p + 9 * q : Nat) : Int) + 7) (by omega)
      have hc8 := els_getD (l := l) (j := 3 + p + 9 * q + 8) (by omega) (((3 + p + 9 * q : Nat) : Int) + 8) (by omega)
      have hbc := body_cells (q := q) hrest
      have hq24 : (els (bodiesOf rest q)).length ≤ 1099511627776 := by omega
      have hlt : ((3 + p + 9 * q : Nat) : Int) + 9 ≤ (els l).length := by omega
      have hidx : (3 + p + 9 * q : Nat) ≤ 1099511627776 := by omega
      have hqnb : q < nb := by omega
      clear hwg hwo hwb hform hsc hbt hin2 hin ha0 ha1 ha2 hl2 hb1 hb2 hb4 hb5 c1 c2 c4 c5 hu1 hu2 hu3 hu4 hui hpl hrl hn hll hlbk hlbk2 hp_A
      refine A_seq (A_seq (A_region ?_));refine M0 (q_moveC rfl rfl rfl) rfl rfl ?_;refine M0 (q_moveC rfl rfl rfl) rfl rfl ?_;refine M0 (q_lenr rfl rfl rfl rfl) rfl rfl ?_
      refine M0 (q_lssK rfl rfl rfl rfl (by assumption)) rfl rfl ?_;refine L_nil (T_n ?_);refine A_ifT rfl ?_;refine A_skip (T_n (A_seq (A_block ?_)))
      refine A_draw [[],[0],[],[],[2,3],[2,3,4],[],[],[7],[6,7,8],[6,7,8,9],[],[],[12],[11,12,13],[11,12,13,14],[],[],[17],[16,17,18],[16,17,18,19],[],[],[22],[21,22,23],[21,22,23,24],[],[],[27],[26,27,28],[26,27,28,29],[],[],[32],[31,32,33],[31,32,33,34],[],[],[37],[36,37,38],[36,37,38,39],[],[],[42],[41,42,43],[41,42,43,44],[2,3,4,5,6,7,8,9,10,11,12,13,14,15,16,17,18,19,20,21,22,23,24,25,26,27,28,29,30,31,32,33,34,35,36,37,38,39,40,41,42,43,44,45],[2,3,4,5,6,7,8,9,10,11,12,13,14,15,16,17,18,19,20,21,22,23,24,25,26,27,28,29,30,31,32,33,34,35,36,37,38,39,40,41,42,43,44,45,46],[0,1,2,3,4,5,6,7,8,9,10,11,12,13,14,15,16,17,18,19,20,21,22,23,24,25,26,27,28,29,30,31,32,33,34,35,36,37,38,39,40,41,42,43,44,45,46,47],[0,1,2,3,4,5,6,7,8,9,10,11,12,13,14,15,16,17,18,19,20,21,22,23,24,25,26,27,28,29,30,31,32,33,34,35,36,37,38,39,40,41,42,43,44,45,46,47,48],[0,1,2,3,4,5,6,7,8,9,10,11,12,13,14,15,16,17,18,19,20,21,22,23,24,25,26,27,28,29,30,31,32,33,34,35,36,37,38,39,40,41,42,43,44,45,46,47,48,49]] [[],[84],[],[],[86,87],[86,87,88],[],[],[91],[90,91,92],[90,91,92,93],[],[],[96],[95,96,97],[95,96,97,98],[],[],[101],[100,101,102],[100,101,102,103],[],[],[106],[105,106,107],[105,106,107,108],[],[],[111],[110,111,112],[110,111,112,113],[],[],[116],[115,116,117],[115,116,117,118],[],[],[121],[120,121,122],[120,121,122,123],[],[],[126],[125,126,127],[125,126,127,128],[86,87,88,89,90,91,92,93,94,95,96,97,98,99,100,101,102,103,104,105,106,107,108,109,110,111,112,113,114,115,116,117,118,119,120,121,122,123,124,125,126,127,128,129],[86,87,88,89,90,91,92,93,94,95,96,97,98,99,100,101,102,103,104,105,106,107,108,109,110,111,112,113,114,115,116,117,118,119,120,121,122,123,124,125,126,127,128,129,130],[84,85,86,87,88,89,90,91,92,93,94,95,96,97,98,99,100,101,102,103,104,105,106,107,108,109,110,111,112,113,114,115,116,117,118,119,120,121,122,123,124,125,126,127,128,129,130,131],[84,85,86,87,88,89,90,91,92,93,94,95,96,97,98,99,100,101,102,103,104,105,106,107,108,109,110,111,112,113,114,115,116,117,118,119,120,121,122,123,124,125,126,127,128,129,130,131,132],[84,85,86,87,88,89,90,91,92,93,94,95,96,97,98,99,100,101,102,103,104,105,106,107,108,109,110,111,112,113,114,115,116,117,118,119,120,121,122,123,124,125,126,127,128,129,130,131,132,133]] [[86,87,88,89,90,91,92,93,94,95,96,97,98,99,100,101,102,103,104,105,106,107,108,109,110,111,112,113,114,115,116,117,118,119,120,121,122,123,124,125,126,127,128,129,130,131],[86,87,88,89,90,91,92,93,94,95,96,97,98,99,100,101,102,103,104,105,106,107,108,109,110,111,112,113,114,115,116,117,118,119,120,121,122,123,124,125,126,127,128,129,130,131],[84,85,87,90,91,92,93,94,95,96,97,98,99,100,101,102,103,104,105,106,107,108,109,110,111,112,113,114,115,116,117,118,119,120,121,122,123,124,125,126,127,128,129],[84,85,86,90,91,92,93,94,95,96,97,98,99,100,101,102,103,104,105,106,107,108,109,110,111,112,113,114,115,116,117,118,119,120,121,122,123,124,125,126,127,128,129],[84,85,90,91,92,93,94,95,96,97,98,99,100,101,102,103,104,105,106,107,108,109,110,111,112,113,114,115,116,117,118,119,120,121,122,123,124,125,126,127,128,129],[84,85,90,91,92,93,94,95,96,97,98,99,100,101,102,103,104,105,106,107,108,109,110,111,112,113,114,115,116,117,118,119,120,121,122,123,124,125,126,127,128,129],[84,85,86,87,88,89,91,92,95,96,97,98,99,100,101,102,103,104,105,106,107,108,109,110,111,112,113,114,115,116,117,118,119,120,121,122,123,124,125,126,127,128,129],[84,85,86,87,88,89,90,95,96,97,98,99,100,101,102,103,104,105,106,107,108,109,110,111,112,113,114,115,116,117,118,119,120,121,122,123,124,125,126,127,128,129],[84,85,86,87,88,89,90,95,96,97,98,99,100,101,102,103,104,105,106,107,108,109,110,111,112,113,114,115,116,117,118,119,120,121,122,123,124,125,126,127,128,129],[84,85,86,87,88,89,95,96,97,98,99,100,101,102,103,104,105,106,107,108,109,110,111,112,113,114,115,116,117,118,119,120,121,122,123,124,125,126,127,128,129],[84,85,86,87,88,89,95,96,97,98,99,100,101,102,103,104,105,106,107,108,109,110,111,112,113,114,115,116,117,118,119,120,121,122,123,124,125,126,127,128,129],[84,85,86,87,88,89,90,91,92,93,94,96,97,100,101,102,103,104,105,106,107,108,109,110,111,112,113,114,115,116,117,118,119,120,121,122,123,124,125,126,127,128,129],[84,85,86,87,88,89,90,91,92,93,94,95,100,101,102,103,104,105,106,107,108,109,110,111,112,113,114,115,116,117,118,119,120,121,122,123,124,125,126,127,128,129],[84,85,86,87,88,89,90,91,92,93,94,95,100,101,102,103,104,105,106,107,108,109,110,111,112,113,114,115,116,117,118,119,120,121,122,123,124,125,126,127,128,129],[84,85,86,87,88,89,90,91,92,93,94,100,101,102,103,104,105,106,107,108,109,110,111,112,113,114,115,116,117,118,119,120,121,122,123,124,125,126,127,128,129],[84,85,86,87,88,89,90,91,92,93,94,100,101,102,103,104,105,106,107,108,109,110,111,112,113,114,115,116,117,118,119,120,121,122,123,124,125,126,127,128,129],[84,85,86,87,88,89,90,91,92,93,94,95,96,97,98,99,101,102,105,106,107,108,109,110,111,112,113,114,115,116,117,118,119,120,121,122,123,124,125,126,127,128,129],[84,85,86,87,88,89,90,91,92,93,94,95,96,97,98,99,100,105,106,107,108,109,110,111,112,113,114,115,116,117,118,119,120,121,122,123,124,125,126,127,128,129],[84,85,86,87,88,89,90,91,92,93,94,95,96,97,98,99,100,105,106,107,108,109,110,111,112,113,114,115,116,117,118,119,120,121,122,123,124,125,126,127,128,129],[84,85,86,87,88,89,90,91,92,93,94,95,96,97,98,99,105,106,107,108,109,110,111,112,113,114,115,116,117,118,119,120,121,122,123,124,125,126,127,128,129],[84,85,86,87,88,89,90,91,92,93,94,95,96,97,98,99,105,106,107,108,109,110,111,112,113,114,115,116,117,118,119,120,121,122,123,124,125,126,127,128,129],[84,85,86,87,88,89,90,91,92,93,94,95,96,97,98,99,100,101,102,103,104,106,107,110,111,112,113,114,115,116,117,118,119,120,121,122,123,124,125,126,127,128,129],[84,85,86,87,88,89,90,91,92,93,94,95,96,97,98,99,100,101,102,103,104,105,110,111,112,113,114,115,116,117,118,119,120,121,122,123,124,125,126,127,128,129],[84,85,86,87,88,89,90,91,92,93,94,95,96,97,98,99,100,101,102,103,104,105,110,111,112,113,114,115,116,117,118,119,120,121,122,123,124,125,126,127,128,129],[84,85,86,87,88,89,90,91,92,93,94,95,96,97,98,99,100,101,102,103,104,110,111,112,113,114,115,116,117,118,119,120,121,122,123,124,125,126,127,128,129],[84,85,86,87,88,89,90,91,92,93,94,95,96,97,98,99,100,101,102,103,104,110,111,112,113,114,115,116,117,118,119,120,121,122,123,124,125,126,127,128,129],[84,85,86,87,88,89,90,91,92,93,94,95,96,97,98,99,100,101,102,103,104,105,106,107,108,109,111,112,115,116,117,118,119,120,121,122,123,124,125,126,127,128,129],[84,85,86,87,88,89,90,91,92,93,94,95,96,97,98,99,100,101,102,103,104,105,106,107,108,109,110,115,116,117,118,119,120,121,122,123,124,125,126,127,128,129],[84,85,86,87,88,89,90,91,92,93,94,95,96,97,98,99,100,101,102,103,104,105,106,107,108,109,110,115,116,117,118,119,120,121,122,123,124,125,126,127,128,129],[84,85,86,87,88,89,90,91,92,93,94,95,96,97,98,99,100,101,102,103,104,105,106,107,108,109,115,116,117,118,119,120,121,122,123,124,125,126,127,128,129],[84,85,86,87,88,89,90,91,92,93,94,95,96,97,98,99,100,101,102,103,104,105,106,107,108,109,115,116,117,118,119,120,121,122,123,124,125,126,127,128,129],[84,85,86,87,88,89,90,91,92,93,94,95,96,97,98,99,100,101,102,103,104,105,106,107,108,109,110,111,112,113,114,116,117,120,121,122,123,124,125,126,127,128,129],[84,85,86,87,88,89,90,91,92,93,94,95,96,97,98,99,100,101,102,103,104,105,106,107,108,109,110,111,112,113,114,115,120,121,122,123,124,125,126,127,128,129],[84,85,86,87,88,89,90,91,92,93,94,95,96,97,98,99,100,101,102,103,104,105,106,107,108,109,110,111,112,113,114,115,120,121,122,123,124,125,126,127,128,129],[84,85,86,87,88,89,90,91,92,93,94,95,96,97,98,99,100,101,102,103,104,105,106,107,108,109,110,111,112,113,114,120,121,122,123,124,125,126,127,128,129],[84,85,86,87,88,89,90,91,92,93,94,95,96,97,98,99,100,101,102,103,104,105,106,107,108,109,110,111,112,113,114,120,121,122,123,124,125,126,127,128,129],[84,85,86,87,88,89,90,91,92,93,94,95,96,97,98,99,100,101,102,103,104,105,106,107,108,109,110,111,112,113,114,115,116,117,118,119,121,122,125,126,127,128,129],[84,85,86,87,88,89,90,91,92,93,94,95,96,97,98,99,100,101,102,103,104,105,106,107,108,109,110,111,112,113,114,115,116,117,118,119,120,125,126,127,128,129],[84,85,86,87,88,89,90,91,92,93,94,95,96,97,98,99,100,101,102,103,104,105,106,107,108,109,110,111,112,113,114,115,116,117,118,119,120,125,126,127,128,129],[84,85,86,87,88,89,90,91,92,93,94,95,96,97,98,99,100,101,102,103,104,105,106,107,108,109,110,111,112,113,114,115,116,117,118,119,125,126,127,128,129],[84,85,86,87,88,89,90,91,92,93,94,95,96,97,98,99,100,101,102,103,104,105,106,107,108,109,110,111,112,113,114,115,116,117,118,119,125,126,127,128,129],[84,85,86,87,88,89,90,91,92,93,94,95,96,97,98,99,100,101,102,103,104,105,106,107,108,109,110,111,112,113,114,115,116,117,118,119,120,121,122,123,124,126,127],[84,85,86,87,88,89,90,91,92,93,94,95,96,97,98,99,100,101,102,103,104,105,106,107,108,109,110,111,112,113,114,115,116,117,118,119,120,121,122,123,124,125],[84,85,86,87,88,89,90,91,92,93,94,95,96,97,98,99,100,101,102,103,104,105,106,107,108,109,110,111,112,113,114,115,116,117,118,119,120,121,122,123,124,125],[84,85,86,87,88,89,90,91,92,93,94,95,96,97,98,99,100,101,102,103,104,105,106,107,108,109,110,111,112,113,114,115,116,117,118,119,120,121,122,123,124],[84,85,86,87,88,89,90,91,92,93,94,95,96,97,98,99,100,101,102,103,104,105,106,107,108,109,110,111,112,113,114,115,116,117,118,119,120,121,122,123,124],[84,85],[84,85],[],[],[]] rfl ?_
      refine DR.step (q_fldp rfl rfl rfl rfl (by decide)) rfl rfl ?_;refine DR.step (q_ld1 rfl rfl rfl rfl rfl) rfl rfl ?_;refine DR.step (q_moveC rfl rfl rfl) rfl rfl ?_
      refine DR.step (q_moveC rfl rfl rfl) rfl rfl ?_;refine DR.step (q_ar rfl rfl rfl rfl rfl (by omega) (by assumption)) rfl rfl ?_
      refine DR.step (q_le1 rfl rfl rfl rfl (by assumption) rfl) rfl rfl ?_;refine DR.step (q_moveC rfl rfl rfl) rfl rfl ?_;refine DR.step (q_moveC rfl rfl rfl) rfl rfl ?_
      refine DR.step (q_add rfl rfl rfl rfl (by omega)) rfl rfl ?_;refine DR.step (q_ar rfl rfl rfl rfl rfl (by omega) (by omega)) rfl rfl ?_
      refine DR.step (q_le1 rfl rfl rfl rfl (by assumption) rfl) rfl rfl ?_;refine DR.step (q_moveC rfl rfl rfl) rfl rfl ?_;refine DR.step (q_moveC rfl rfl rfl) rfl rfl ?_
      refine DR.step (q_add rfl rfl rfl rfl (by omega)) rfl rfl ?_;refine DR.step (q_ar rfl rfl rfl rfl rfl (by omega) (by omega)) rfl rfl ?_
      refine DR.step (q_le1 rfl rfl rfl rfl (by assumption) rfl) rfl rfl ?_;refine DR.step (q_moveC rfl rfl rfl) rfl rfl ?_;refine DR.step (q_moveC rfl rfl rfl) rfl rfl ?_
      refine DR.step (q_add rfl rfl rfl rfl (by omega)) rfl rfl ?_;refine DR.step (q_ar rfl rfl rfl rfl rfl (by omega) (by omega)) rfl rfl ?_
      refine DR.step (q_le1 rfl rfl rfl rfl (by assumption) rfl) rfl rfl ?_;refine DR.step (q_moveC rfl rfl rfl) rfl rfl ?_;refine DR.step (q_moveC rfl rfl rfl) rfl rfl ?_
      refine DR.step (q_add rfl rfl rfl rfl (by omega)) rfl rfl ?_;refine DR.step (q_ar rfl rfl rfl rfl rfl (by omega) (by omega)) rfl rfl ?_
      refine DR.step (q_le1 rfl rfl rfl rfl (by assumption) rfl) rfl rfl ?_;refine DR.step (q_moveC rfl rfl rfl) rfl rfl ?_;refine DR.step (q_moveC rfl rfl rfl) rfl rfl ?_
      refine DR.step (q_add rfl rfl rfl rfl (by omega)) rfl rfl ?_;refine DR.step (q_ar rfl rfl rfl rfl rfl (by omega) (by omega)) rfl rfl ?_
      refine DR.step (q_le1 rfl rfl rfl rfl (by assumption) rfl) rfl rfl ?_;refine DR.step (q_moveC rfl rfl rfl) rfl rfl ?_;refine DR.step (q_moveC rfl rfl rfl) rfl rfl ?_
      refine DR.step (q_add rfl rfl rfl rfl (by omega)) rfl rfl ?_;refine DR.step (q_ar rfl rfl rfl rfl rfl (by omega) (by omega)) rfl rfl ?_
      refine DR.step (q_le1 rfl rfl rfl rfl (by assumption) rfl) rfl rfl ?_;refine DR.step (q_moveC rfl rfl rfl) rfl rfl ?_;refine DR.step (q_moveC rfl rfl rfl) rfl rfl ?_
      refine DR.step (q_add rfl rfl rfl rfl (by omega)) rfl rfl ?_;refine DR.step (q_ar rfl rfl rfl rfl rfl (by omega) (by omega)) rfl rfl ?_
      refine DR.step (q_le1 rfl rfl rfl rfl (by assumption) rfl) rfl rfl ?_;refine DR.step (q_moveC rfl rfl rfl) rfl rfl ?_;refine DR.step (q_moveC rfl rfl rfl) rfl rfl ?_
      refine DR.step (q_add rfl rfl rfl rfl (by omega)) rfl rfl ?_;refine DR.step (q_ar rfl rfl rfl rfl rfl (by omega) (by assumption)) rfl rfl ?_
      refine DR.step (q_le1 rfl rfl rfl rfl (by assumption) rfl) rfl rfl ?_
      refine DR.step (x := .o (.ag [jv (l.getD (3 + p + 9 * q + 0) 0),jv (l.getD (3 + p + 9 * q + 1) 0),jv (l.getD (3 + p + 9 * q + 2) 0),jv (l.getD (3 + p + 9 * q + 3) 0),jv (l.getD (3 + p + 9 * q + 4) 0),jv (l.getD (3 + p + 9 * q + 5) 0),jv (l.getD (3 + p + 9 * q + 6) 0),jv (l.getD (3 + p + 9 * q + 7) 0),jv (l.getD (3 + p + 9 * q + 8) 0)])) (q_build rfl rfl rfl rfl rfl) rfl rfl ?_
      refine DR.step (q_bslice rfl rfl rfl rfl rfl rfl) rfl rfl ?_;refine DR.stop (by kernel_rfl) (by kernel_rfl) ?_
      refine AL.weak (st' := (⟨_,[(1,S s),(4,.o (.c (.ptr 1 0))),(6,.o (.c (.ref 2))),(10,.o (.c (.ptr 4 0))),(11,I ((3 + p + 9 * q : Nat) : Int)),(85,.o (.c (.ref 6))),(131,.o (.c (.sb 7 1 9)))],[.box ((Enc.e lv).map (V1.rd [])),.box [nilV,jv 0,jv 0,nilV,nilV],.row 1 (els l),.row 1 (els lv.Rows),.box [.ref 3,jv (l.getD 0 0),jv (l.getD 1 0),.ref 5,.ref 6],.row 1 (els ((l.drop 3).take p)),.row 9 (els (bodiesOf rest q)),.box [jv (l.getD (3 + p + 9 * q + 0) 0),jv (l.getD (3 + p + 9 * q + 1) 0),jv (l.getD (3 + p + 9 * q + 2) 0),jv (l.getD (3 + p + 9 * q + 3) 0),jv (l.getD (3 + p + 9 * q + 4) 0),jv (l.getD (3 + p + 9 * q + 5) 0),jv (l.getD (3 + p + 9 * q + 6) 0),jv (l.getD (3 + p + 9 * q + 7) 0),jv (l.getD (3 + p + 9 * q + 8) 0)]]⟩ : St)) (W_go [0,1,2,3,4,5,6,7] (by decide) rfl (rfl) (.cons rfl (.cons rfl (.cons rfl (.cons rfl (.cons rfl (.cons rfl (.cons rfl (.nil))))))))) ?_
      refine M_appo rfl rfl rfl rfl rfl rfl rfl rfl rfl rfl rfl rfl rfl rfl (by omega) (by omega) ?_;refine M0 (q_fldp rfl rfl rfl rfl (by decide)) rfl rfl ?_
      refine M_st1 rfl rfl rfl rfl rfl rfl rfl rfl ?_;refine L_nil (B_n (T_n (A_region ?_)));refine M0 (q_moveC rfl rfl rfl) rfl rfl ?_
      refine M0 (q_add rfl rfl rfl rfl (by omega)) rfl rfl ?_;refine M0 (q_assignC rfl rfl rfl) rfl rfl ?_;refine L_nil (T_n ?_)
      exact ⟨nb - (q + 1),by omega,(fun q : Nat => (⟨_,[(1,S s),(4,.o (.c (.ptr 1 0))),(6,.o (.c (.ref 2))),(10,.o (.c (.ptr 4 0))),(11,I ((3 + p + 9 * q : Nat) : Int))],[.box ((Enc.e lv).map (V1.rd [])),.box [nilV,jv 0,jv 0,nilV,nilV],.row 1 (els l),.row 1 (els lv.Rows),.box [.ref 3,jv (l.getD 0 0),jv (l.getD 1 0),.ref 5,.ref 6],.row 1 (els ((l.drop 3).take p)),.row 9 (els (bodiesOf rest q))]⟩ : St)) (q + 1),W_go [0,1,2,3,4,5,6] (by decide) rfl (row7 (by rw [bodiesOf_snoc,els_app,show els [bodyOf (rest.drop (9 * q))] = [Enc.e (bodyOf (rest.drop (9 * q)))] from rfl,hbc]; rfl)) (.cons rfl (.cons rfl (.cons rfl (.cons rfl (.cons (I_eq (by omega)) (.nil)))))),q + 1,by omega,trivial,rfl⟩
    · have hb6 : decide (((3 + p + 9 * q : Nat) : Int) < (els l).length) = false := decide_eq_false h4
      have hqn : q = nb := by omega
      subst hqn
      have hwk := S_WorldBytes ⟨lv,l.getD 0 0,l.getD 1 0,(l.drop 3).take p,bodiesOf rest q⟩ hwg
      cases ho : worldOk ⟨lv,l.getD 0 0,l.getD 1 0,(l.drop 3).take p,bodiesOf rest q⟩ with
      | false =>
        have hne : decide (worldBytes ⟨lv,l.getD 0 0,l.getD 1 0,(l.drop 3).take p,bodiesOf rest q⟩ ≠ s) = true := decide_eq_true fun h => by rw [hwb,ho] at h; cases h
        rw [readWorld_no hu (fun hh => by have h9 := hh.2.2; rw [hwo,ho] at h9; cases h9)]
        refine A_seq (A_seq (A_region ?_));refine M0 (q_moveC rfl rfl rfl) rfl rfl ?_;refine M0 (q_moveC rfl rfl rfl) rfl rfl ?_;refine M0 (q_lenr rfl rfl rfl rfl) rfl rfl ?_
        refine M0 (q_lssK rfl rfl rfl rfl (by assumption)) rfl rfl ?_;refine L_nil (T_n ?_);refine A_ifF rfl ?_;refine A_exit (T_x (T_x (B_xs (T_n ?_))))
        refine A_seq (A_seq (A_region ?_));refine M0 (q_ldN rfl rfl rfl rfl rfl rfl) rfl rfl ?_;refine M0 (q_call0 rfl rfl (hwk) rfl) rfl rfl ?_
        refine M0 (q_moveC rfl rfl rfl) rfl rfl ?_;refine M0 (q_sneqK rfl rfl rfl rfl (by assumption)) rfl rfl ?_;refine L_nil (T_n ?_);refine A_ifT rfl ?_;refine A_seq ?_
        refine A_region ?_;refine M0 (q_build rfl rfl rfl rfl rfl) rfl rfl ?_;refine M_stN rfl rfl rfl rfl rfl rfl rfl rfl rfl ?_;refine M0 (q_assignC rfl rfl rfl) rfl rfl ?_;refine L_nil ?_
        refine T_n (A_ret (T_r (F_r ?_)))
        exact E_cellt rfl rfl rfl rfl rfl (W_fill [1,1,9] [7,8,9] rfl rfl (by decide) rfl rfl rfl)
      | true =>
        have hne : decide (worldBytes ⟨lv,l.getD 0 0,l.getD 1 0,(l.drop 3).take p,bodiesOf rest q⟩ ≠ s) = false := decide_eq_false fun h => h (hwb.2 ho)
        rw [readWorld_yes hu ⟨by omega,hform,by rw [hwo]; exact ho⟩,hwo]
        refine A_seq (A_seq (A_region ?_));refine M0 (q_moveC rfl rfl rfl) rfl rfl ?_;refine M0 (q_moveC rfl rfl rfl) rfl rfl ?_;refine M0 (q_lenr rfl rfl rfl rfl) rfl rfl ?_
        refine M0 (q_lssK rfl rfl rfl rfl (by assumption)) rfl rfl ?_;refine L_nil (T_n ?_);refine A_ifF rfl ?_;refine A_exit (T_x (T_x (B_xs (T_n ?_))))
        refine A_seq (A_seq (A_region ?_));refine M0 (q_ldN rfl rfl rfl rfl rfl rfl) rfl rfl ?_;refine M0 (q_call0 rfl rfl (hwk) rfl) rfl rfl ?_
        refine M0 (q_moveC rfl rfl rfl) rfl rfl ?_;refine M0 (q_sneqK rfl rfl rfl rfl (by assumption)) rfl rfl ?_;refine L_nil (T_n ?_);refine A_ifF rfl ?_;refine A_skip (T_n ?_)
        refine A_seq (A_region ?_);refine M0 (q_ldN rfl rfl rfl rfl rfl rfl) rfl rfl ?_;refine M_stN rfl rfl rfl rfl rfl rfl rfl rfl rfl ?_;refine M0 (q_assignC rfl rfl rfl) rfl rfl ?_
        refine L_nil (T_n (A_ret (F_r ?_)))
        exact E_cellt rfl rfl rfl rfl rfl (W_end [3,5,6] (by decide) rfl rfl rfl)
end Go.Proofs.Ytmljakmaffbnlaa
end

section
set_option linter.unusedSimpArgs false
set_option linter.unusedVariables false
namespace Go.Proofs.Ytmljakmaffbnlaa
open Go.RowKit

theorem tot_wts : ∀ xs : List (List Int),tot xs ≤ wts xs
  | [] => Nat.le_refl _
  | x :: xs => by
    have h1 := tot_wts xs
    have h2 : tot (x :: xs) = x.length + tot xs := by simp [tot]
    have h3 : wts (x :: xs) = (x.length + wts x) + wts xs := rfl
    omega
structure RepIn (y : TReplay) : Prop where
  gd : Enc.gd y
  h1 : y.Level.Rows.length ≤ 1048576
  h2 : y.Keys.length ≤ 1048576
  h3 : y.Rows.length ≤ 1048576
  h4 : tot y.Rows ≤ 1048576
theorem rep_in {x : TReplay} (hg : Enc.gd x) (hw : Enc.wt x ≤ 1048576) : RepIn x := by
  have h0 : Enc.wt x = (x.Level.Rows.length + wts x.Level.Rows) + (x.Rows.length + wts x.Rows) + (x.Keys.length + wts x.Keys) := rfl
  have h1 := tot_wts x.Rows
  exact ⟨hg,by omega,by omega,by omega,by omega⟩
structure WorIn (w : TWorld) : Prop where
  gd : Enc.gd w
  h1 : w.Level.Rows.length ≤ 1048576
  h2 : w.Scores.length ≤ 1048576
  h3 : w.Bodies.length ≤ 1048576
theorem wor_zero : WorIn zeroWorld := ⟨⟨⟨by simp [zeroWorld],fun x hx => by simp [zeroWorld] at hx⟩,⟨by decide,by decide⟩,⟨by decide,by decide⟩,⟨by simp [zeroWorld],fun x hx => by simp [zeroWorld] at hx⟩,⟨by simp [zeroWorld],fun x hx => by simp [zeroWorld] at hx⟩⟩,by simp [zeroWorld],by simp [zeroWorld],by simp [zeroWorld]⟩
theorem read_in {lv : TLevel} {s : ByteArray} (hg : Enc.gd lv) (hL : lv.Rows.length ≤ 1048576) (hs : s.size ≤ 1099511627776) : WorIn (rwW (readWorld lv s)) := by
  cases hu : unpackInts s 0 with
  | none => rw [readWorld_none hu]; exact wor_zero
  | some r =>
    obtain ⟨l,pos⟩ := r
    obtain ⟨_,hu1,hu2,hu3,hu4⟩ := unpackInts_some hu
    by_cases hp : pos = s.size ∧ formOk l ∧ worldOk (worldOf lv l) = true
    · rw [readWorld_yes hu hp]
      have hw := worldOk_spec hp.2.2
      exact ⟨worldOf_gd hg hu4 (by omega),hL,Nat.le_trans hw.2.2.2.1.2 (by decide),Nat.le_trans hw.2.2.2.2.2.1.2 (by decide)⟩
    · rw [readWorld_no hu hp]; exact wor_zero
end Go.Proofs.Ytmljakmaffbnlaa
end
