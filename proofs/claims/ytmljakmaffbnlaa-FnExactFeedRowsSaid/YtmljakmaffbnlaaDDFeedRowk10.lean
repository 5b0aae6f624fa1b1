/-
  A literal slice becomes an owned slice; comparing a slice with nil. No statement of the program is proved here.
  Conditions: none.
  Numbers as bytes: EncodeVarint, Signless, PackInts, PackText, Checksum, SealText, in the program and in the reference.
  Conditions: lists of at most 2^30 elements.
  WorldBytes, in the program and in the reference.
  Conditions: lists of at most 2^40 elements.
  Numbers read from bytes: DecodeVarint, Signed, UnpackInts, UnpackText, OpenText, in the program and in the reference.
  Conditions: texts of at most 2^40 bytes.
  Lists and texts read from bytes: Signed, UnpackInts, UnpackText, OpenText, in the program and in the reference.
  Conditions: texts of at most 2^40 bytes.
  Runs of inputs as bytes: PackTrack, and the columns of rows, in the program and in the reference.
  Conditions: at most 400 rows of equal length.
  UnpackTrack, in the program and in the reference.
  Conditions: texts of at most 2^40 bytes.
  The players' columns read from bytes: unpackColumns of the program, l07Columns of the reference.
  Conditions: texts of at most 2^40 bytes, at most 4 players and 400 rows.
  Streams of rows as bytes: EncodeStream, in the program and in the reference.
  Conditions: none.
  What the two DecodeStream return is the same. No statement of the program is proved here: plain law.
  Conditions: none.
  What a valid replay is, in the program and in the reference.
  Conditions: none.
  A new replay, in the program and in the reference.
  Conditions: none.
  What ReadWorld returns, as data; Clone of lists.
  Conditions: texts of at most 2^40 bytes, a level of at most 2^20 rows.
  Numbers, lists and texts read back from their bytes. No statement of the program is proved here.
  Conditions: none.
  Where players begin, and new worlds, as data; a new world is valid and is read back from its bytes. No statement of the program is proved here.
  Conditions: none.
  A tick of a world, as data: steering, moving, meeting. No statement of the program is proved here.
  Conditions: none.
  Nil checks of pointers to one's own memory; two branches that come to one state. No statement of the program is proved here.
  Conditions: none.
  StartOf, fresh players and NewWorld, in the program and in the reference.
  Conditions: a valid level; 1 to 4 players.
  Fresh players and NewWorld, in the program and in the reference.
  Conditions: a valid level; 1 to 4 players; a valid seed.
  Random numbers, meeting bodies, shots and directions, in the program and in the reference.
  Conditions: numbers in their ranges.
  Steering and moving a body, in the program and in the reference.
  Conditions: a valid body in a valid level.
  Moving a body, in the program and in the reference.
  Conditions: a body in a free place of a valid level, speeds in range.
  Who is met, and points, in the program and in the reference.
  Conditions: bodies with a place.
  The spots of a level, in the program and in the reference.
  Conditions: a valid level.
-/
import Derived.Lib.LazyBuf
import Derived.Test.YtmljakmaffbnlaaDDFeedRowk6
import Derived.Test.YtmljakmaffbnlaaDDFeedRowk8
import Derived.Test.YtmljakmaffbnlaaDDFeedRowk9
section
set_option linter.unusedSimpArgs false
set_option linter.unusedVariables false
namespace Go.Proofs.Ytmljakmaffbnlaa
open Go.RowKit

def V1.tosr (q : Nat) : V1 → V1
  | .sb p n k => match Nat.beq p q with
    | true => match k with
      | 1 => .ref q
      | _ => .un
    | false => (V1.sb p n k).kill [q]
  | x => x.kill [q]
/-- A literal slice of plain values is a slice of one's own. -/
theorem Wk.sbrow {st : St} {q : Nat} {cs : List V1} {es : List (List T)} (hq : st.objs[q]? = some (.box cs)) (hs : sbE cs = some es) (hm : cs.length ≤ maxLen) : Wk st ⟨st.n,st.tmps.map fun t => (t.1,t.2.mapk (V1.tosr q)),(st.objs.map (Ob.mapk (V1.tosr q))).set q (.row 1 es)⟩ := by
  intro w H F a h1
  obtain ⟨hel,hes⟩ := sbE_ok cs es hs
  have hb := h1.obs q
  rw [getD_of hq] at hb
  obtain ⟨g,t,vs,e1,e2,e3⟩ := hb
  have hsay := h1.ok.says q
  rw [e1] at hsay
  have hg : w.heap[g]? = some (.cells vs.toArray t (0,0)) := hsay
  have hqlt := getE_lt hq
  have hplain : ∀ (i : Nat) (e : List T),es[i]? = some e → ∃ u,vs[i]? = some u ∧ e = [.v u] ∧ u.oneCell' = true := fun i e hi => by
    obtain ⟨ps,u,h2,h3⟩ := hes i e hi
    have hil := getE_lt h2
    have hiv : vs[i]? = some (vs[i]'(by omega)) := List.getElem?_eq_getElem (by omega)
    obtain ⟨h4,h5⟩ := e3 i _ _ h2 hiv
    obtain ⟨h6,h7⟩ := RO.plain h4
    exact ⟨u,by rw [hiv,h6],h3,h7⟩
  obtain ⟨f,hf⟩ : ∃ f : Nat → Value,f = fun i => vs.getD i undef := ⟨_,rfl⟩
  have hOW : ∃ fp,OW w (.sl 1 es) (.slice (some ⟨g,0,none⟩) es.length vs.length) fp ∧ (∀ b ∈ fp,b = g) ∧ fp.Nodup := by
    refine ⟨g :: (List.replicate es.length [([] : List Nat)]).flatten.flatten,OW.sl es g 0 1 vs.length t vs.toArray (0,0) (fun i _ => vs.getD i undef) (List.replicate es.length [[]]) hg (.inl rfl) (by omega) (by omega) (by simp) (by omega) (fun e he => ?_) (by simp) (fun fs hfs => by rw [List.eq_of_mem_replicate hfs]; rfl) (fun i j hi hj => ?_) (fun i j e tt fs ff k1 k2 k3 k4 => ?_),?_,?_⟩
    · obtain ⟨i,hi⟩ := List.getElem?_of_mem he
      obtain ⟨u,_,h3,_⟩ := hplain i e hi
      rw [h3]; rfl
    · have h2 : i < vs.length := by omega
      have h3 : j = 0 := by omega
      subst h3
      simp [List.getD_eq_getElem?_getD,h2]
    · obtain ⟨u,h3,h4,h5⟩ := hplain i e k1
      subst h4
      have hj : j = 0 := by have := getE_lt k2; simp at this; exact this
      subst hj
      simp at k2
      subst k2
      have hfs : fs = [[]] := List.eq_of_mem_replicate (getE_mem k3)
      subst hfs
      simp at k4
      subst k4
      have h6 : vs.getD i undef = u := getD_of h3
      rw [h6]
      exact .v u h5
    · intro b hb
      simpa using hb
    · simp
  obtain ⟨fp,hO,hfp,hnd⟩ := hOW
  have hkeep : Keeps w w [g] := ⟨rfl,rfl,rfl,Nat.le_refl _,fun _ _ _ => rfl⟩
  obtain ⟨hok,htn⟩ := h1.ok.turn (p := q) (fp := [g]) (by rw [e1]; rfl) hkeep (.ow (.sl 1 es) (.slice (some ⟨g,0,none⟩) es.length vs.length) fp) hO hnd trivial (fun b hb => .inl (by simp [hfp b hb]))
  have hone : ∀ x v,R1 w H F x v → R1 w (H.put q (.ow (.sl 1 es) (.slice (some ⟨g,0,none⟩) es.length vs.length) fp)) F (V1.tosr q x) v := fun x v hx => by
    cases x with
    | sb p n k =>
      simp only [V1.tosr]
      split
      · rename_i hp
        have hpq := Nat.eq_of_beq_eq_true hp
        subst hpq
        split
        · obtain ⟨g',t',vs',k1,k2,k3,k4⟩ := hx
          rw [e1] at k1
          simp only [Pc.box.injEq] at k1
          obtain ⟨rfl,rfl,rfl⟩ := k1
          have hn : n = es.length := by omega
          have hvn : vs.length = es.length := by omega
          rw [k4,hn]
          exact ⟨.sl 1 es,fp,by rw [Hs.put_self,hvn]⟩
        · trivial
      · exact R1.killed h1.ok htn hx
    | _ => exact R1.killed h1.ok htn hx
  refine ⟨_,h1.mapk (V1.tosr q) hone hok ((st.objs.map (Ob.mapk (V1.tosr q))).set q (.row 1 es)) (fun p => ?_),fun p b hb => ?_,htn.gh⟩
  · by_cases hpq : p = q
    · subst hpq
      rw [getD_of (x := .row 1 es) (by simp [hqlt])]
      exact ⟨_,_,Hs.put_self _ _ _⟩
    · rw [List.getD_eq_getElem?_getD,List.getElem?_set_ne (Ne.symm hpq),List.getElem?_map]
      have h2 := h1.obs p
      rw [List.getD_eq_getElem?_getD] at h2
      have h3 := Hs.put_ne H (.ow (.sl 1 es) (.slice (some ⟨g,0,none⟩) es.length vs.length) fp) hpq
      cases ho : st.objs[p]? with
      | none => rw [ho] at h2; exact h3.trans h2
      | some ob => rw [ho] at h2; exact RB.mapk hone h3 h2
  · by_cases hpq : p = q
    · subst hpq
      rw [Hs.put_self] at hb
      exact ⟨p,by rw [e1,hfp b hb]; simp [Pc.fp]⟩
    · exact ⟨p,by rw [← Hs.put_ne H _ hpq]; exact hb⟩
section
variable {P : Program} {ops : Array Oper} {o : Oper} {st : St} {n : Nat} {t t' : TypeId} {y z : Operand} {ps qs : List Nat}
end
end Go.Proofs.Ytmljakmaffbnlaa
end

section
set_option linter.unusedSimpArgs false
set_option linter.unusedVariables false
set_option maxRecDepth 8000
namespace Go.Proofs.Ytmljakmaffbnlaa
open Go.RowKit

end Go.Proofs.Ytmljakmaffbnlaa
end

section
set_option linter.unusedSimpArgs false
set_option linter.unusedVariables false
set_option maxRecDepth 8000
namespace Go.Proofs.Ytmljakmaffbnlaa
open Go.RowKit

theorem els_app {α : Type} [Enc α] (xs ys : List α) : els (xs ++ ys) = els xs ++ els ys := List.map_append
end Go.Proofs.Ytmljakmaffbnlaa
end

section
set_option linter.unusedSimpArgs false
set_option linter.unusedVariables false
set_option maxRecDepth 8000
namespace Go.Proofs.Ytmljakmaffbnlaa
open Go.RowKit

@[reducible] def bv (b : Bool) : V1 := .rd [] (.v (.bool b))
@[reducible] def jn (n : Int) : V1 := .rd [] (.v (.int .i64 n))
end Go.Proofs.Ytmljakmaffbnlaa
end

section
set_option linter.unusedSimpArgs false
set_option linter.unusedVariables false
set_option maxRecDepth 8000
namespace Go.Proofs.Ytmljakmaffbnlaa
open Go.RowKit

def signed (n : Int) : Int := if 0 ≤ n ∧ n ≤ 1099511627775 then (if n % 2 = 0 then n / 2 else -((n + 1) / 2)) else 0
/-! ### Lists -/
/-! ### Texts -/
end Go.Proofs.Ytmljakmaffbnlaa
end

section
set_option linter.unusedSimpArgs false
set_option linter.unusedVariables false
namespace Go.Proofs.Ytmljakmaffbnlaa
open Go.RowKit

end Go.Proofs.Ytmljakmaffbnlaa
end

section
set_option linter.unusedSimpArgs false
set_option linter.unusedVariables false
set_option maxRecDepth 8000
namespace Go.Proofs.Ytmljakmaffbnlaa
open Go.RowKit

end Go.Proofs.Ytmljakmaffbnlaa
end

section
set_option linter.unusedSimpArgs false
set_option linter.unusedVariables false
set_option maxRecDepth 8000
namespace Go.Proofs.Ytmljakmaffbnlaa
open Go.RowKit

end Go.Proofs.Ytmljakmaffbnlaa
end

section
set_option linter.unusedSimpArgs false
set_option linter.unusedVariables false
namespace Go.Proofs.Ytmljakmaffbnlaa
open Go.RowKit

end Go.Proofs.Ytmljakmaffbnlaa
end

section
set_option linter.unusedSimpArgs false
set_option linter.unusedVariables false
namespace Go.Proofs.Ytmljakmaffbnlaa
open Go.RowKit

/-! ### Numbers -/
/-! ### Lists -/
/-! ### Texts -/
/-! ### Columns -/
/-! ### DecodeStream -/
end Go.Proofs.Ytmljakmaffbnlaa
end

section
set_option linter.unusedSimpArgs false
set_option linter.unusedVariables false
namespace Go.Proofs.Ytmljakmaffbnlaa
open Go.RowKit

end Go.Proofs.Ytmljakmaffbnlaa
end

section
set_option linter.unusedSimpArgs false
set_option linter.unusedVariables false
namespace Go.Proofs.Ytmljakmaffbnlaa
open Go.RowKit

/-- An argument that is nil is an empty slice. -/
inductive Den1 : V1 → V1 → Prop
  | same (x : V1) : Den1 x x
  | nil (qs : List Nat) (k : Nat) : Den1 (.rd qs (.v (.slice none 0 0))) (.rd qs (.sl k []))
inductive DenL : List V1 → List V1 → Prop
  | nil : DenL [] []
  | cons {x y : V1} {xs ys : List V1} (h : Den1 x y) (t : DenL xs ys) : DenL (x :: xs) (y :: ys)
inductive Den2 : V2 → V2 → Prop
  | same (x : V2) : Den2 x x
  | ag {xs ys : List V1} (h : DenL xs ys) : Den2 (.ag xs) (.ag ys)
inductive DenA : List V2 → List V2 → Prop
  | nil : DenA [] []
  | cons {x y : V2} {xs ys : List V2} (h : Den2 x y) (t : DenA xs ys) : DenA (x :: xs) (y :: ys)
section
variable {w : World} {H : Hs} {F : Nat → Prop}
theorem Den1.r {x y : V1} (h : Den1 x y) {v : Value} (hx : R1 w H F x v) : R1 w H F y v := by
  cases h with
  | same => exact hx
  | nil qs k => obtain ⟨rfl,_⟩ := RO.plain hx; exact .nil _ _ _ (by simp)
theorem DenL.r : ∀ {xs ys : List V1},DenL xs ys → xs.length = ys.length ∧ ∀ (i : Nat) (y : V1),ys[i]? = some y → ∃ x,xs[i]? = some x ∧ Den1 x y
  | _,_,.nil => ⟨rfl,fun i y h => by simp at h⟩
  | _,_,.cons (x := x) h t => by
    obtain ⟨h1,h2⟩ := DenL.r t
    refine ⟨by simp [h1],fun i y hy => ?_⟩
    cases i with
    | zero => simp at hy; subst hy; exact ⟨x,rfl,h⟩
    | succ i => simpa using h2 i y (by simpa using hy)
theorem Den2.r {x y : V2} (h : Den2 x y) {v : Value} (hx : R2 w H F x v) : R2 w H F y v := by
  cases h with
  | same => exact hx
  | ag h =>
    obtain ⟨h1,h2⟩ := h.r
    obtain ⟨us,e,hl,hr⟩ := hx
    refine ⟨us,e,by omega,fun i y u h3 h4 => ?_⟩
    obtain ⟨x,h5,h6⟩ := h2 i y h3
    exact h6.r (hr i x u h5 h4)
theorem DenA.r : ∀ {xs ys : List V2},DenA xs ys → xs.length = ys.length ∧ ∀ (i : Nat) (y : V2),ys[i]? = some y → ∃ x,xs[i]? = some x ∧ Den2 x y
  | _,_,.nil => ⟨rfl,fun i y h => by simp at h⟩
  | _,_,.cons (x := x) h t => by
    obtain ⟨h1,h2⟩ := DenA.r t
    refine ⟨by simp [h1],fun i y hy => ?_⟩
    cases i with
    | zero => simp at hy; subst hy; exact ⟨x,rfl,h⟩
    | succ i => simpa using h2 i y (by simpa using hy)
end
def nilV : V1 := .rd [] (.v (.slice none 0 0))
set_option maxHeartbeats 8000000 in
theorem I_copyLevel (x : TLevel) (hg : Enc.gd x) (hL : x.Rows.length ≤ 1048576) : Con Try.prog 76 [] [ag x] [.row 1 (els x.Rows)] (.o (.ag [.ref 0])) := by
  have hlx := els_len x.Rows
  have hg1 := hg.1
  refine Con.of Try.func76 rfl Try.ntmps76 rfl (fun E => ?_)
  refine Qd (Qc ?_);refine M1 (Qq J J J J) J J ?_;refine M1 (Qx J J J) J J ?_;refine Qe (Q0 (Qd ?_))
  refine Qc ?_;refine M0 (Qf J J J J (by decide)) J J ?_;refine M0 (Qg J J J J J) J J ?_
  refine M_appnil J J J J J J J J (els_plain _) (els_k _) (by omega) (by omega) ?_;refine M0 (q_build J J J J J) J J ?_
  refine Qy J J J J J J J J J ?_;refine Qe (Q0 (Xa (F_r ?_)))
  exact E_cell J J J J (W_end [2] (by decide) J J J)
set_option maxHeartbeats 8000000 in
theorem S_copyLevel (x : TLevel) (hg : Enc.gd x) (hL : x.Rows.length ≤ 1048576) : Con Try.prog 68 [] [ag x] [.row 1 (els x.Rows)] (.o (.ag [.ref 0])) := by
  have hlx := els_len x.Rows
  have hg1 := hg.1
  have h00 : ([] : List (List T)).length = 0 := rfl
  refine Con.of Try.func68 rfl Try.ntmps68 rfl (fun E => ?_)
  refine Qd (Qc ?_);refine M1 (Qq J J J J) J J ?_;refine M1 (Qx J J J) J J ?_;refine Qe (Q0 (Qd ?_))
  refine Qc ?_;refine M1 (q_bslice0 J J J) J J ?_;refine M0 (Qf J J J J (by decide)) J J ?_;refine M0 (Qg J J J J J) J J ?_
  refine M_app J J J J J J J J J J (els_plain _) (els_k _) (by omega) (by omega) ?_;refine M0 (q_build J J J J J) J J ?_
  refine Qy J J J J J J J J J ?_;refine Qe (Q0 (Xa (F_r ?_)))
  exact E_cell J J J J (W_end [2] (by decide) J J J)
end Go.Proofs.Ytmljakmaffbnlaa
end

section
set_option linter.unusedSimpArgs false
set_option linter.unusedVariables false
set_option maxRecDepth 8000
namespace Go.Proofs.Ytmljakmaffbnlaa
open Go.RowKit

theorem els_takeE2 {α : Type} [Enc α] (xs : List α) (n : Nat) : els (xs.take n) = (els xs).take n := List.map_take
end Go.Proofs.Ytmljakmaffbnlaa
end

section
set_option linter.unusedSimpArgs false
set_option linter.unusedVariables false
set_option maxRecDepth 8000
namespace Go.Proofs.Ytmljakmaffbnlaa
open Go.RowKit

end Go.Proofs.Ytmljakmaffbnlaa
end

section
set_option linter.unusedSimpArgs false
set_option linter.unusedVariables false
set_option maxRecDepth 8000
namespace Go.Proofs.Ytmljakmaffbnlaa
open Go.RowKit

/-- The first of n tiles of a row that q holds of. -/
def colF (q : Int → Bool) (row : ByteArray) : Nat → Option Nat
  | 0 => none
  | c + 1 => match colF q row c with
    | some x => some x
    | none => if q (byteAt row c) = true then some c else none
/-- The first tile of n rows that q holds of. -/
def tileF (q : Int → Bool) (rows : List ByteArray) : Nat → Option (Nat × Nat)
  | 0 => none
  | r + 1 => match tileF q rows r with
    | some x => some x
    | none => match rows[r]? with
      | none => none
      | some row => (colF q row row.size).map fun c => (r,c)
def isOpen (t : Int) : Bool := decide (t ≠ 35)
def isDig (p : Int) (t : Int) : Bool := decide (t = 49 + p)
def spX : Option (Nat × Nat) → Int
  | none => -1
  | some (_,c) => 16 * c + 2
def spY : Option (Nat × Nat) → Int
  | none => -1
  | some (r,_) => 16 * r + 2
def startT (l : TLevel) (p : Int) : Option (Nat × Nat) := match tileF (isDig p) l.Rows l.Rows.length with
  | some x => some x
  | none => tileF isOpen l.Rows l.Rows.length
theorem colF_some {q : Int → Bool} {row : ByteArray} : ∀ {n c : Nat},colF q row n = some c → c < n ∧ q (byteAt row c) = true
  | 0,c,h => by cases h
  | n + 1,c,h => by
    rw [colF] at h
    cases h1 : colF q row n with
    | some x => rw [h1] at h; cases h; have := colF_some h1; exact ⟨by omega,this.2⟩
    | none =>
      rw [h1] at h
      by_cases h2 : q (byteAt row n) = true
      · rw [if_pos h2] at h; cases h; exact ⟨by omega,h2⟩
      · rw [if_neg h2] at h; cases h
theorem colF_none {q : Int → Bool} {row : ByteArray} : ∀ {n : Nat},colF q row n = none → ∀ c,c < n → q (byteAt row c) = false
  | 0,h,c,hc => by omega
  | n + 1,h,c,hc => by
    rw [colF] at h
    cases h1 : colF q row n with
    | some x => rw [h1] at h; cases h
    | none =>
      rw [h1] at h
      by_cases h2 : q (byteAt row n) = true
      · rw [if_pos h2] at h; cases h
      · by_cases e : c = n
        · subst e; simpa using h2
        · exact colF_none h1 c (by omega)
theorem tileF_some {q : Int → Bool} {rows : List ByteArray} : ∀ {n r c : Nat},tileF q rows n = some (r,c) → ∃ h : r < rows.length,r < n ∧ c < rows[r].size ∧ q (byteAt rows[r] c) = true
  | 0,r,c,h => by cases h
  | n + 1,r,c,h => by
    rw [tileF] at h
    cases h1 : tileF q rows n with
    | some x => rw [h1] at h; cases h; obtain ⟨a,b,d⟩ := tileF_some h1; exact ⟨a,by omega,d⟩
    | none =>
      rw [h1] at h
      cases h2 : rows[n]? with
      | none => rw [h2] at h; cases h
      | some row =>
        rw [h2] at h
        simp only [Option.map_eq_some_iff,Prod.mk.injEq] at h
        obtain ⟨c',h3,rfl,rfl⟩ := h
        have hn := (List.getElem?_eq_some_iff.1 h2).1
        have he := (List.getElem?_eq_some_iff.1 h2).2
        have := colF_some h3
        exact ⟨hn,by omega,by rw [he]; exact this.1,by rw [he]; exact this.2⟩
theorem tileF_none {q : Int → Bool} {rows : List ByteArray} : ∀ {n : Nat},tileF q rows n = none → ∀ r (h : r < rows.length),r < n → ∀ c,c < rows[r].size → q (byteAt rows[r] c) = false
  | 0,h,r,hr,hn,c,hc => by omega
  | n + 1,h,r,hr,hn,c,hc => by
    rw [tileF] at h
    cases h1 : tileF q rows n with
    | some x => rw [h1] at h; cases h
    | none =>
      rw [h1] at h
      by_cases e : r = n
      · subst e
        rw [List.getElem?_eq_getElem hr] at h
        simp only [Option.map_eq_none_iff] at h
        exact colF_none h c hc
      · exact tileF_none h1 r hr (by omega) c hc
theorem tileM_open {e : Bool} {t : Int} {s s' : Seen × Bool} (h : tileM e t s = some s') (ho : s'.2 = true) : s.2 = true ∨ t ≠ 35 := by
  by_cases ht : t = 35
  · rw [tileM,if_pos ht] at h; cases h; exact .inl ho
  · exact .inr ht
theorem cols_open {row : ByteArray} {er : Bool} {w : Nat} {s : Seen × Bool} : ∀ {n : Nat} {s' : Seen × Bool},colsM row er w s n = some s' → s'.2 = true → s.2 = true ∨ ∃ c,c < n ∧ byteAt row c ≠ 35
  | 0,s',h,ho => by cases h; exact .inl ho
  | n + 1,s',h,ho => by
    rw [colsM] at h
    cases h1 : colsM row er w s n with
    | none => rw [h1] at h; cases h
    | some s1 =>
      rw [h1] at h
      rcases tileM_open h ho with h2 | h2
      · rcases cols_open h1 h2 with h3 | ⟨c,hc,h3⟩
        · exact .inl h3
        · exact .inr ⟨c,by omega,h3⟩
      · exact .inr ⟨n,by omega,h2⟩
theorem rows_open {rows : List ByteArray} {w : Nat} : ∀ {n : Nat} {s : Seen × Bool},rowsM rows w n = some s → s.2 = true → ∃ r c,∃ h : r < rows.length,r < n ∧ c < rows[r].size ∧ byteAt rows[r] c ≠ 35
  | 0,s,h,ho => by cases h; cases ho
  | n + 1,s,h,ho => by
    rw [rowsM] at h
    cases h1 : rowsM rows w n with
    | none => rw [h1] at h; cases h
    | some s1 =>
      rw [h1] at h
      cases h2 : rows[n]? with
      | none => rw [h2] at h; cases h
      | some row =>
        rw [h2] at h
        simp only at h
        split at h
        · rename_i hw
          have hn := (List.getElem?_eq_some_iff.1 h2).1
          have he := (List.getElem?_eq_some_iff.1 h2).2
          rcases cols_open h ho with h3 | ⟨c,hc,h3⟩
          · obtain ⟨r,c,a,b,d⟩ := rows_open h1 h3
            exact ⟨r,c,a,by omega,d⟩
          · exact ⟨n,c,hn,by omega,by rw [he]; omega,by rw [he]; exact h3⟩
        · cases h
theorem level_open {l : TLevel} (h : levelOk l = true) : ∃ r c,∃ h : r < l.Rows.length,c < (l.Rows[r]).size ∧ byteAt (l.Rows[r]) c ≠ 35 := by
  unfold levelOk at h
  simp only [Bool.and_eq_true] at h
  obtain ⟨_,h5⟩ := h
  split at h5
  · rename_i s hs
    obtain ⟨r,c,a,b,d⟩ := rows_open hs h5
    exact ⟨r,c,a,d⟩
  · cases h5
/-- A valid level has a place to begin at, which is no wall. -/
theorem start_some {l : TLevel} (hl : levelOk l = true) {p : Int} (hp : 0 ≤ p ∧ p ≤ 3) : ∃ r c,startT l p = some (r,c) ∧ ∃ h : r < l.Rows.length,c < (l.Rows[r]).size ∧ byteAt (l.Rows[r]) c ≠ 35 := by
  unfold startT
  cases h1 : tileF (isDig p) l.Rows l.Rows.length with
  | some x =>
    obtain ⟨r,c⟩ := x
    obtain ⟨a,b,d,e⟩ := tileF_some h1
    refine ⟨r,c,rfl,a,d,?_⟩
    have := of_decide_eq_true e
    omega
  | none =>
    cases h2 : tileF isOpen l.Rows l.Rows.length with
    | some x =>
      obtain ⟨r,c⟩ := x
      obtain ⟨a,b,d,e⟩ := tileF_some h2
      exact ⟨r,c,rfl,a,d,of_decide_eq_true e⟩
    | none =>
      obtain ⟨r,c,a,d,e⟩ := level_open hl
      have := tileF_none h2 r a a c d
      exact absurd e (of_decide_eq_false this)
/-- The first open tile of r rows and c tiles of the next one. -/
def openF (rows : List ByteArray) (row : ByteArray) (r c : Nat) : Option (Nat × Nat) := match tileF isOpen rows r with
  | some x => some x
  | none => (colF isOpen row c).map fun c => (r,c)
theorem openF_zero {rows : List ByteArray} {row : ByteArray} {r : Nat} : openF rows row r 0 = tileF isOpen rows r := by
  unfold openF
  cases tileF isOpen rows r <;> rfl
theorem openF_end {rows : List ByteArray} {row : ByteArray} {r : Nat} (h : rows[r]? = some row) : openF rows row r row.size = tileF isOpen rows (r + 1) := by
  rw [openF,tileF,h]
theorem openF_keep {rows : List ByteArray} {row : ByteArray} {r c : Nat} {x : Nat × Nat} (h : openF rows row r c = some x) : openF rows row r (c + 1) = some x := by
  unfold openF at h ⊢
  cases h1 : tileF isOpen rows r with
  | some y => rw [h1] at h; exact h
  | none =>
    rw [h1] at h
    simp only [Option.map_eq_some_iff] at h ⊢
    obtain ⟨a,h2,h3⟩ := h
    exact ⟨a,by rw [colF,h2],h3⟩
theorem openF_step {rows : List ByteArray} {row : ByteArray} {r c : Nat} (h : openF rows row r c = none) : openF rows row r (c + 1) = if byteAt row c = 35 then none else some (r,c) := by
  unfold openF at h ⊢
  cases h1 : tileF isOpen rows r with
  | some y => rw [h1] at h; cases h
  | none =>
    rw [h1] at h
    simp only [Option.map_eq_none_iff] at h
    simp only [colF,h]
    by_cases h2 : byteAt row c = 35
    · rw [if_pos h2,if_neg (show ¬ isOpen (byteAt row c) = true from fun q => of_decide_eq_true q h2)]; rfl
    · rw [if_neg h2,if_pos (show isOpen (byteAt row c) = true from decide_eq_true h2)]; rfl
theorem colF_step {q : Int → Bool} {row : ByteArray} {c : Nat} (h : colF q row c = none) (hq : q (byteAt row c) = false) : colF q row (c + 1) = none := by rw [colF,h]; simp [hq]
theorem colF_hit {q : Int → Bool} {row : ByteArray} {c : Nat} (h : colF q row c = none) (hq : q (byteAt row c) = true) : ∀ {n : Nat},c < n → colF q row n = some c
  | 0,hn => by omega
  | n + 1,hn => by
    rw [colF]
    by_cases e : c = n
    · subst e; rw [h]; simp [hq]
    · rw [colF_hit h hq (by omega)]
theorem tileF_step {q : Int → Bool} {rows : List ByteArray} {row : ByteArray} {r : Nat} (h : tileF q rows r = none) (hr : rows[r]? = some row) (hc : colF q row row.size = none) : tileF q rows (r + 1) = none := by rw [tileF,h,hr]; simp [hc]
theorem tileF_hit {q : Int → Bool} {rows : List ByteArray} {row : ByteArray} {r c : Nat} (h : tileF q rows r = none) (hr : rows[r]? = some row) (hc : colF q row row.size = some c) : ∀ {n : Nat},r < n → tileF q rows n = some (r,c)
  | 0,hn => by omega
  | n + 1,hn => by
    rw [tileF]
    by_cases e : r = n
    · subst e; rw [h,hr]; simp [hc]
    · rw [tileF_hit h hr hc (by omega)]
theorem start_dig {l : TLevel} {p : Int} {row : ByteArray} {r c : Nat} (h : tileF (isDig p) l.Rows r = none) (hr : l.Rows[r]? = some row) (hc : colF (isDig p) row c = none) (hcs : c < row.size) (hb : byteAt row c = 49 + p) : startT l p = some (r,c) := by
  have h1 := colF_hit hc (show isDig p (byteAt row c) = true from decide_eq_true hb) hcs
  rw [startT,tileF_hit h hr h1 (List.getElem?_eq_some_iff.1 hr).1]
theorem start_open {l : TLevel} {p : Int} {n : Nat} (h : tileF (isDig p) l.Rows n = none) (hn : n = l.Rows.length) : startT l p = tileF isOpen l.Rows n := by
  subst hn
  rw [startT,h]
theorem spX_neg {o : Option (Nat × Nat)} : spX o < 0 ↔ o = none := by
  cases o with
  | none => simp [spX]
  | some x => obtain ⟨r,c⟩ := x; simp [spX]; omega
def fresh (l : TLevel) (p : Int) : TBody := ⟨0,p,spX (startT l p),spY (startT l p),0,0,1,3,0⟩
theorem fresh_free {l : TLevel} (hl : levelOk l = true) {p : Int} (hp : 0 ≤ p ∧ p ≤ 3) : solidM l (fresh l p).X (fresh l p).Y 12 = false ∧ (0 ≤ (fresh l p).X ∧ (fresh l p).X ≤ 400) ∧ (0 ≤ (fresh l p).Y ∧ (fresh l p).Y ≤ 400) := by
  obtain ⟨r,c,h1,hr,hc,hb⟩ := start_some hl hp
  obtain ⟨l3,l12,w,w4,w20,hw⟩ := level_facts hl
  have hwr := hw r hr
  rw [fresh,h1]
  refine ⟨solidM_F ?_,by simp only [spX]; omega,by simp only [spY]; omega⟩
  rintro ⟨r',c',a1,a2,a3,a4,hwall⟩
  simp only [spX,spY] at a1 a2 a3 a4
  have e1 : r' = r := by omega
  have e2 : c' = c := by omega
  subst e1 e2
  exact no_wall hr hc hb hwall
end Go.Proofs.Ytmljakmaffbnlaa
end

section
set_option linter.unusedSimpArgs false
set_option linter.unusedVariables false
set_option maxRecDepth 8000
namespace Go.Proofs.Ytmljakmaffbnlaa
open Go.RowKit

def nextR (s : Int) : Int := if 0 ≤ s ∧ s ≤ 65535 then (s * 25173 + 13849) % 65536 else 0
def belowR (s n : Int) : Int := nextR s / 16 % n
theorem nextR_rng (s : Int) : 0 ≤ nextR s ∧ nextR s ≤ 65535 := by
  unfold nextR
  split <;> omega
def pressed (i k : Int) : Bool := decide (((i.toNat &&& k.toNat : Nat) : Int) ≠ 0)
noncomputable def steer (l : TLevel) (b : TBody) (i : Int) : TBody × Bool :=
  (⟨b.Kind,b.Owner,b.X,b.Y,
    if (pressed i 1 && !pressed i 2) = true then -3 else if (pressed i 2 && !pressed i 1) = true then 3 else 0,
    if (pressed i 4 && solidM l b.X (b.Y + 1) 12) = true then -9 else min (b.VY + 1) 8,
    if (pressed i 1 && !pressed i 2) = true then -1 else if (pressed i 2 && !pressed i 1) = true then 1 else b.Aim,
    b.Life,
    if (pressed i 8 && decide ((if 0 < b.Timer then b.Timer - 1 else b.Timer) = 0)) = true then 12 else (if 0 < b.Timer then b.Timer - 1 else b.Timer)⟩,
   pressed i 8 && decide ((if 0 < b.Timer then b.Timer - 1 else b.Timer) = 0))
/-- From x on, n steps, ass far ass nothing is hit. -/
def slide (hit : Int → Bool) (step : Int) : Nat → Int → Int × Bool
  | 0,x => (x,false)
  | n + 1,x => if hit (x + step) = true then (x,true) else slide hit step n (x + step)
theorem slide_hit {hit : Int → Bool} {step x : Int} {n : Nat} (h : hit (x + step) = true) : slide hit step (n + 1) x = (x,true) := by rw [slide,if_pos h]
theorem slide_go {hit : Int → Bool} {step x : Int} {n : Nat} (h : hit (x + step) = false) : slide hit step (n + 1) x = slide hit step n (x + step) := by rw [slide,if_neg (by rw [h]; simp)]
def dirOf (v : Int) : Int := if v < 0 then -1 else 1
noncomputable def moveX (l : TLevel) (b : TBody) : Int × Bool := slide (fun x => solidM l x b.Y (sizeOf b.Kind)) (dirOf b.VX) b.VX.natAbs b.X
noncomputable def moveY (l : TLevel) (b : TBody) : Int × Bool := slide (fun y => solidM l (moveX l b).1 y (sizeOf b.Kind)) (dirOf b.VY) b.VY.natAbs b.Y
noncomputable def moveM (l : TLevel) (b : TBody) : TBody × Bool :=
  (⟨b.Kind,b.Owner,(moveX l b).1,(moveY l b).1,if (moveX l b).2 = true then 0 else b.VX,if (moveY l b).2 = true then 0 else b.VY,b.Aim,b.Life,b.Timer⟩,(moveX l b).2 || (moveY l b).2)
def shotOf (b : TBody) : TBody := ⟨1,b.Owner,b.X + 4,b.Y + 4,6 * b.Aim,0,0,0,25⟩
def meetM (a b : TBody) : Bool :=
  ((decide (a.X < b.X + sizeOf b.Kind) && decide (b.X < a.X + sizeOf a.Kind)) && decide (a.Y < b.Y + sizeOf b.Kind)) && decide (b.Y < a.Y + sizeOf a.Kind)
/-- A body with a place in a valid level. -/
structure Placed (b : TBody) : Prop where
  k : 0 ≤ b.Kind ∧ b.Kind ≤ 2
  x : 0 ≤ b.X ∧ b.X ≤ 1000
  y : 0 ≤ b.Y ∧ b.Y ≤ 1000
theorem size_pos {k : Int} (h : 0 ≤ k ∧ k ≤ 2) : 4 ≤ sizeOf k ∧ sizeOf k ≤ 12 := by
  unfold sizeOf
  split
  · omega
  · split
    · omega
    · split <;> omega
/-- The first of the spots of n tiles of row r. -/
def colSp (row : ByteArray) (r : Nat) : Nat → List (List Int)
  | 0 => []
  | c + 1 => if byteAt row c = 111 then colSp row r c ++ [[(c : Int) * 16 + 4,(r : Int) * 16 + 4]] else colSp row r c
def rowSp (rows : List ByteArray) : Nat → List (List Int)
  | 0 => []
  | r + 1 => match rows[r]? with
    | none => rowSp rows r
    | some row => rowSp rows r ++ colSp row r row.size
end Go.Proofs.Ytmljakmaffbnlaa
end

section
set_option linter.unusedSimpArgs false
set_option linter.unusedVariables false
namespace Go.Proofs.Ytmljakmaffbnlaa
open Go.RowKit

section
variable {P : Program} {E : Env} {ops : Array Oper} {o : Oper} {st : St} {n : Nat} {y : Operand}
theorem Qz {p i : Nat} (ho : o.op = .nilCheck y) (hg : o.guard = none) (hy : st.ev y = .o (.c (.ptr p i))) : Qt P ops o st (.o (.c (.ptr p i))) [] n :=
  .pure hg fun a w H F hr => by
    obtain ⟨g,tt,vs,e1,e2⟩ := hr.v1 hy
    exact ⟨.pointer (some ⟨g,i,none⟩),by simp [execOp,ho,e2],g,tt,vs,e1,rfl⟩
theorem q_nile {p k i j : Nat} (ho : o.op = .nilCheck y) (hg : o.guard = none) (hy : st.ev y = .o (.c (.el p k i j))) : Qt P ops o st (.o (.c (.el p k i j))) [] n :=
  .pure hg fun a w H F hr => by
    obtain ⟨b,o',m',c,x,fp,e1,e2⟩ := hr.v1 hy
    exact ⟨.pointer (some ⟨b,o' + i * k + j,none⟩),by simp [execOp,ho,e2],b,o',m',c,x,fp,e1,rfl⟩
end
structure Mid (st' : St) (e : Exit) (st : St) : Prop where
  h : e = .normal ∧ Wk st st'
section
variable {P : Program} {E : Env} {st st' : St}
theorem Mid.n (h : Wk st st') : Mid st' .normal st := ⟨rfl,h⟩
theorem A_join {c d : Code} {Q Q' : Exit → St → Prop} (st' : St) (h1 : AWP P E c (Mid st') st) (h2 : AWP P E d Q' st') : AWP P E c (thn (AWP P E d Q') Q) st :=
  AWP.mono (fun e s h => by obtain ⟨rfl,hw⟩ := h.h; exact ⟨AWP.weak hw h2⟩) h1
end
end Go.Proofs.Ytmljakmaffbnlaa
end

section
set_option linter.unusedSimpArgs false
set_option linter.unusedVariables false
set_option maxRecDepth 8000
namespace Go.Proofs.Ytmljakmaffbnlaa
open Go.RowKit

theorem openF_35 {rows : List ByteArray} {row : ByteArray} {r c : Nat} (h : byteAt row c = 35) : openF rows row r c = openF rows row r (c + 1) := by
  cases ho : openF rows row r c with
  | some x => rw [openF_keep ho]
  | none => rw [openF_step ho,if_pos h]
theorem tu2 {x y x' y' : Int} (h1 : x = x') (h2 : y = y') : V.tu [.c (jn x),.c (jn y)] = V.tu [.c (jn x'),.c (jn y')] := by rw [h1,h2]
set_option maxHeartbeats 8000000 in
theorem I_StartOf (l : TLevel) (p : Int) (hg : Enc.gd l) (hl : levelOk l = true) (hp : 0 ≤ p ∧ p ≤ 3) : Con Try.prog 101 [] [ag l,ai p] [] (.tu [.c (jn (spX (startT l p))),.c (jn (spY (startT l p)))]) := by
  have hc := I_LevelOk l hg
  rw [hl] at hc
  have hlr := els_len l.Rows
  have hx : l.Rows.length ≤ 9223372036854775807 := hg.1
  obtain ⟨l3,l12,w,w4,w20,hw⟩ := level_facts hl
  have b1 : decide (p < 0) = false := decide_eq_false (by omega)
  have b2 : decide (p ≥ 4) = false := decide_eq_false (by omega)
  refine Con.of Try.func101 rfl Try.ntmps101 rfl (fun E => ?_)
  refine Qd (Qc ?_);refine M1 (Qq J J J J) J J ?_;refine M0 (Qb J J J) J J ?_;refine M0 (Qb J J J) J J ?_
  refine Qe (Q0 (Qd (Qd (Qc ?_))));refine M0 (Qa J J J) J J ?_;refine M0 (Qr J J J J (by assumption)) J J ?_
  refine M0 (Qa J J J) J J ?_;refine Qi J J J ?_;refine M0 (Qa J J J) J J ?_;refine Qi J J J ?_
  refine M0 (q_geqK J J J J (by assumption)) J J ?_;refine M0 (Qn J J J J) J J ?_;refine M0 (Qa J J J) J J ?_;refine Qi J J J ?_
  refine M0 (Qu J J J J J J) J J ?_;refine Qi J J J ?_;refine M0 (Qj J J (hc) rfl) J J ?_;refine Qi J J J ?_
  refine M0 (Q4 J J J) J J ?_;refine M0 (Qn J J J J) J J ?_;refine Qe (Q0 ?_);refine Ql rfl ?_;refine Qh (Q0 (Qd ?_))
  refine Qc ?_;refine M0 (Qb J J J) J J ?_;refine Qe (Q0 (Qd (Qc ?_)));refine M0 (Qb J J J) J J ?_
  refine Qe (Q0 (Qd (Qd (Qc ?_))));refine M0 (Qf J J J J (by decide)) J J ?_
  refine M0 (Qg J J J J J) J J ?_;refine M0 (q_len J J J) J J ?_;refine M0 (Qa J J J) J J ?_;refine Qe (Q0 (Qk ?_))
  refine A_loop (fun m st => ∃ r : Nat,r + m = l.Rows.length ∧ (tileF (isDig p) l.Rows r = none) ∧ st = (fun r : Nat => (⟨_,[(1,I p),(2,.o (.c (.ptr 0 0))),(6,I (spX (tileF isOpen l.Rows r))),(7,I (spY (tileF isOpen l.Rows r))),(23,L l.Rows),(24,I (els l.Rows).length),(25,I r)],[.box ((Enc.e l).map (V1.rd []))]⟩ : St)) r) (l.Rows.length) ⟨(fun r : Nat => (⟨_,[(1,I p),(2,.o (.c (.ptr 0 0))),(6,I (spX (tileF isOpen l.Rows r))),(7,I (spY (tileF isOpen l.Rows r))),(23,L l.Rows),(24,I (els l.Rows).length),(25,I r)],[.box ((Enc.e l).map (V1.rd []))]⟩ : St)) 0,W_go [0] (by decide) rfl (rfl) (.cons rfl (.cons rfl (.cons rfl (.cons rfl (.cons rfl (.cons rfl (.cons rfl (.nil)))))))),0,by omega,rfl,rfl⟩ ?_
  rintro m_A _ ⟨r,hk_A,hp_A,rfl⟩
  refine Qd (Qc ?_);refine M0 (q_lss J J J J) J J ?_;refine Qe (Q0 (Qd ?_))
  refine Xb rfl (fun h => ?_) (fun h => ?_)
  · have h3 : r < l.Rows.length := by have := of_decide_eq_true h; omega
    have hat := els_at h3
    have hwr := hw r h3
    have hrow := List.getElem?_eq_getElem h3
    generalize l.Rows[r] = row at hat hwr hrow
    refine Qh (Q0 (Qd (Qk (Qd (Qc ?_)))));refine M0 (Qa J J J) J J ?_
    refine M0 (Q2 J J J J (by omega) (by assumption) rfl) J J ?_;refine M0 (q_lr1 J J J J) J J ?_;refine M0 (Qb J J J) J J ?_
    refine M0 (Qb J J J) J J ?_;refine Qe (Q0 (Qd (Qc ?_)));refine M0 (Qb J J J) J J ?_;refine Qe (Q0 ?_)
    refine Qk ?_
    refine A_loop (fun m st => ∃ c : Nat,c + m = row.size ∧ (colF (isDig p) row c = none) ∧ st = (fun c : Nat => (⟨_,[(1,I p),(2,.o (.c (.ptr 0 0))),(6,I (spX (openF l.Rows row r c))),(7,I (spY (openF l.Rows row r c))),(8,I r),(9,S row),(10,I c),(23,L l.Rows),(24,I (els l.Rows).length),(25,I r)],[.box ((Enc.e l).map (V1.rd []))]⟩ : St)) c) (row.size) ⟨(fun c : Nat => (⟨_,[(1,I p),(2,.o (.c (.ptr 0 0))),(6,I (spX (openF l.Rows row r c))),(7,I (spY (openF l.Rows row r c))),(8,I r),(9,S row),(10,I c),(23,L l.Rows),(24,I (els l.Rows).length),(25,I r)],[.box ((Enc.e l).map (V1.rd []))]⟩ : St)) 0,W_go [0] (by decide) rfl (rfl) (.cons rfl (.cons rfl (.cons (I_eq (by rw [openF_zero])) (.cons (I_eq (by rw [openF_zero])) (.cons rfl (.cons rfl (.cons rfl (.cons rfl (.cons rfl (.cons rfl (.nil))))))))))),0,by omega,rfl,rfl⟩ ?_
    rintro m_D _ ⟨c,hk_D,hp_D,rfl⟩
    refine Qd (Qd (Qc ?_));refine M0 (Qa J J J) J J ?_;refine M0 (Qa J J J) J J ?_;refine M0 (q_lens J J J) J J ?_
    refine M0 (q_lss J J J J) J J ?_;refine Qe (Q0 ?_)
    refine Xb rfl (fun h4 => ?_) (fun h4 => ?_)
    · have h4 : c < row.size := by have := of_decide_eq_true h4; omega
      have hbt := byteAt_lt row c
      have hbt2 := byteAt_lt row (c : Int).toNat
      by_cases hd : byteAt row c = 49 + p
      · have hb : decide (byteAt row (c : Int).toNat = 49 + p) = true := decide_eq_true hd
        rw [start_dig hp_A hrow hp_D h4 hd]
        clear hd
        refine Qh (Q0 (Qd (Qk (Qd (Qd (Qc ?_))))));refine M0 (Qa J J J) J J ?_
        refine M0 (Qa J J J) J J ?_;refine M0 (q_byte J J J J (by omega)) J J ?_;refine M0 (Qa J J J) J J ?_
        refine M0 (Qs J J J J (by omega)) J J ?_;refine M0 (q_convI J J J J (wrap_u8_in (by omega))) J J ?_
        refine M0 (Qv J J J J (by assumption)) J J ?_;refine Qe (Q0 ?_);refine Qm rfl ?_;refine Qd (Qc ?_)
        refine M0 (Qa J J J) J J ?_;refine M0 (q_mul J J J J (by omega)) J J ?_;refine M0 (Qs J J J J (by omega)) J J ?_
        refine M0 (Qa J J J) J J ?_;refine M0 (q_mul J J J J (by omega)) J J ?_;refine M0 (Qs J J J J (by omega)) J J ?_
        refine M0 (Qb J J J) J J ?_;refine M0 (Qb J J J) J J ?_;refine Qe (Q0 (Xa (T_r (B_r (T_r ?_)))))
        refine T_r (B_r (B_r (T_r (T_r (B_r (T_r (F_r ?_)))))))
        exact E_tmp2 J J J (W_end [] (by decide) J J (tu2 (show (c : Int) * 16 + 2 = 16 * (c : Int) + 2 by omega) (show (r : Int) * 16 + 2 = 16 * (r : Int) + 2 by omega)))
      have hb : decide (byteAt row (c : Int).toNat = 49 + p) = false := decide_eq_false hd
      have hnd := colF_step hp_D (show isDig p (byteAt row c) = false from decide_eq_false hd)
      by_cases h35 : byteAt row c = 35
      · have hb3 : decide (byteAt row (c : Int).toNat ≠ 35) = false := decide_eq_false (fun q => q h35)
        have hnx : spX (openF l.Rows row r c) = spX (openF l.Rows row r (c + 1)) := by rw [openF_35 h35]
        have hny : spY (openF l.Rows row r c) = spY (openF l.Rows row r (c + 1)) := by rw [openF_35 h35]
        clear h35
        refine Qh (Q0 (Qd (Qk (Qd (Qd (Qc ?_))))));refine M0 (Qa J J J) J J ?_
        refine M0 (Qa J J J) J J ?_;refine M0 (q_byte J J J J (by omega)) J J ?_;refine M0 (Qa J J J) J J ?_
        refine M0 (Qs J J J J (by omega)) J J ?_;refine M0 (q_convI J J J J (wrap_u8_in (by omega))) J J ?_
        refine M0 (Qv J J J J (by assumption)) J J ?_;refine Qe (Q0 ?_);refine Ql rfl ?_;refine Qh (Q0 (Qd (Qc ?_)))
        refine M0 (Qa J J J) J J ?_;refine M0 (Qa J J J) J J ?_;refine M0 (q_byte J J J J (by omega)) J J ?_
        refine M0 (Qw J J J J (by assumption)) J J ?_;refine M0 (Qa J J J) J J ?_;refine Qp J J J J J J ?_;refine Qp J J J J J J ?_
        refine M0 (Qn J J J J) J J ?_;refine Qe (Q0 ?_);refine Ql rfl ?_;refine Qh (Q1 (Q0 (Qc ?_)))
        refine M0 (Qa J J J) J J ?_;refine M0 (Qs J J J J (by omega)) J J ?_;refine M0 (Qb J J J) J J ?_;refine Qe (Q0 ?_)
        exact ⟨row.size - (c + 1),by omega,(fun c : Nat => (⟨_,[(1,I p),(2,.o (.c (.ptr 0 0))),(6,I (spX (openF l.Rows row r c))),(7,I (spY (openF l.Rows row r c))),(8,I r),(9,S row),(10,I c),(23,L l.Rows),(24,I (els l.Rows).length),(25,I r)],[.box ((Enc.e l).map (V1.rd []))]⟩ : St)) (c + 1),W_go [0] (by decide) rfl (rfl) (.cons rfl (.cons rfl (.cons (I_eq hnx) (.cons (I_eq hny) (.cons rfl (.cons rfl (.cons rfl (.cons rfl (.cons rfl (.cons rfl (.nil))))))))))),c + 1,by omega,hnd,rfl⟩
      have hb3 : decide (byteAt row (c : Int).toNat ≠ 35) = true := decide_eq_true h35
      have h35' := h35
      cases ho : openF l.Rows row r c with
      | some x =>
        have hlt : decide (spX (openF l.Rows row r c) < 0) = false := decide_eq_false (by rw [spX_neg,ho]; simp)
        have hnx : spX (some x) = spX (openF l.Rows row r (c + 1)) := by rw [openF_keep ho]
        have hny : spY (some x) = spY (openF l.Rows row r (c + 1)) := by rw [openF_keep ho]
        rw [ho] at hlt
        refine Qh (Q0 (Qd (Qk (Qd (Qd (Qc ?_))))));refine M0 (Qa J J J) J J ?_
        refine M0 (Qa J J J) J J ?_;refine M0 (q_byte J J J J (by omega)) J J ?_;refine M0 (Qa J J J) J J ?_
        refine M0 (Qs J J J J (by omega)) J J ?_;refine M0 (q_convI J J J J (wrap_u8_in (by omega))) J J ?_
        refine M0 (Qv J J J J (by assumption)) J J ?_;refine Qe (Q0 ?_);refine Ql rfl ?_;refine Qh (Q0 (Qd (Qc ?_)))
        refine M0 (Qa J J J) J J ?_;refine M0 (Qa J J J) J J ?_;refine M0 (q_byte J J J J (by omega)) J J ?_
        refine M0 (Qw J J J J (by assumption)) J J ?_;refine M0 (Qa J J J) J J ?_;refine Qi J J J ?_;refine M0 (Qa J J J) J J ?_
        refine Qi J J J ?_;refine M0 (Qr J J J J (by assumption)) J J ?_;refine M0 (Qo J J J J) J J ?_;refine Qe (Q0 ?_)
        refine Ql rfl ?_;refine Qh (Q1 (Q0 (Qc ?_)));refine M0 (Qa J J J) J J ?_;refine M0 (Qs J J J J (by omega)) J J ?_
        refine M0 (Qb J J J) J J ?_;refine Qe (Q0 ?_)
        exact ⟨row.size - (c + 1),by omega,(fun c : Nat => (⟨_,[(1,I p),(2,.o (.c (.ptr 0 0))),(6,I (spX (openF l.Rows row r c))),(7,I (spY (openF l.Rows row r c))),(8,I r),(9,S row),(10,I c),(23,L l.Rows),(24,I (els l.Rows).length),(25,I r)],[.box ((Enc.e l).map (V1.rd []))]⟩ : St)) (c + 1),W_go [0] (by decide) rfl (rfl) (.cons rfl (.cons rfl (.cons (I_eq hnx) (.cons (I_eq hny) (.cons rfl (.cons rfl (.cons rfl (.cons rfl (.cons rfl (.cons rfl (.nil))))))))))),c + 1,by omega,hnd,rfl⟩
      | none =>
        have hlt : decide (spX none < 0) = true := rfl
        have hnx : (c : Int) * 16 + 2 = spX (openF l.Rows row r (c + 1)) := by rw [openF_step ho,if_neg h35']; show (c : Int) * 16 + 2 = 16 * (c : Int) + 2; omega
        have hny : (r : Int) * 16 + 2 = spY (openF l.Rows row r (c + 1)) := by rw [openF_step ho,if_neg h35']; show (r : Int) * 16 + 2 = 16 * (r : Int) + 2; omega
        refine Qh (Q0 (Qd (Qk (Qd (Qd (Qc ?_))))));refine M0 (Qa J J J) J J ?_
        refine M0 (Qa J J J) J J ?_;refine M0 (q_byte J J J J (by omega)) J J ?_;refine M0 (Qa J J J) J J ?_
        refine M0 (Qs J J J J (by omega)) J J ?_;refine M0 (q_convI J J J J (wrap_u8_in (by omega))) J J ?_
        refine M0 (Qv J J J J (by assumption)) J J ?_;refine Qe (Q0 ?_);refine Ql rfl ?_;refine Qh (Q0 (Qd (Qc ?_)))
        refine M0 (Qa J J J) J J ?_;refine M0 (Qa J J J) J J ?_;refine M0 (q_byte J J J J (by omega)) J J ?_
        refine M0 (Qw J J J J (by assumption)) J J ?_;refine M0 (Qa J J J) J J ?_;refine Qi J J J ?_;refine M0 (Qa J J J) J J ?_
        refine Qi J J J ?_;refine M0 (Qr J J J J (by assumption)) J J ?_;refine M0 (Qo J J J J) J J ?_;refine Qe (Q0 ?_)
        refine Qm rfl ?_;refine Qd (Qc ?_);refine M0 (Qa J J J) J J ?_;refine M0 (q_mul J J J J (by omega)) J J ?_
        refine M0 (Qs J J J J (by omega)) J J ?_;refine M0 (Qb J J J) J J ?_;refine Qe (Q0 (Qc ?_))
        refine M0 (Qa J J J) J J ?_;refine M0 (q_mul J J J J (by omega)) J J ?_;refine M0 (Qs J J J J (by omega)) J J ?_
        refine M0 (Qb J J J) J J ?_;refine Qe (Q1 (Q0 (Qc ?_)));refine M0 (Qa J J J) J J ?_
        refine M0 (Qs J J J J (by omega)) J J ?_;refine M0 (Qb J J J) J J ?_;refine Qe (Q0 ?_)
        exact ⟨row.size - (c + 1),by omega,(fun c : Nat => (⟨_,[(1,I p),(2,.o (.c (.ptr 0 0))),(6,I (spX (openF l.Rows row r c))),(7,I (spY (openF l.Rows row r c))),(8,I r),(9,S row),(10,I c),(23,L l.Rows),(24,I (els l.Rows).length),(25,I r)],[.box ((Enc.e l).map (V1.rd []))]⟩ : St)) (c + 1),W_go [0] (by decide) rfl (rfl) (.cons rfl (.cons rfl (.cons (I_eq hnx) (.cons (I_eq hny) (.cons rfl (.cons rfl (.cons rfl (.cons rfl (.cons rfl (.cons rfl (.nil))))))))))),c + 1,by omega,hnd,rfl⟩
    · have h4 : c = row.size := by have := of_decide_eq_false h4; omega
      subst h4
      refine Q9 (T_x (T_x (B_xs (Q1 (Q0 (Qc ?_))))));refine M0 (Qs J J J J (by omega)) J J ?_
      refine M0 (Qa J J J) J J ?_;refine Qe (Q0 ?_)
      exact ⟨l.Rows.length - (r + 1),by omega,(fun r : Nat => (⟨_,[(1,I p),(2,.o (.c (.ptr 0 0))),(6,I (spX (tileF isOpen l.Rows r))),(7,I (spY (tileF isOpen l.Rows r))),(23,L l.Rows),(24,I (els l.Rows).length),(25,I r)],[.box ((Enc.e l).map (V1.rd []))]⟩ : St)) (r + 1),W_go [0] (by decide) rfl (rfl) (.cons rfl (.cons rfl (.cons (I_eq (by rw [← openF_end hrow])) (.cons (I_eq (by rw [← openF_end hrow])) (.cons rfl (.cons rfl (.cons rfl (.nil)))))))),r + 1,by omega,tileF_step hp_A hrow hp_D,rfl⟩
  · have h3 : r = l.Rows.length := by have := of_decide_eq_false h; omega
    rw [start_open hp_A h3]
    refine Q9 (T_x (T_x (B_xs (Q0 (Qd (Qc ?_))))));refine M0 (Qa J J J) J J ?_
    refine M0 (Qa J J J) J J ?_;refine M0 (Qb J J J) J J ?_;refine M0 (Qb J J J) J J ?_;refine Qe (Q0 (Xa ?_))
    refine F_r ?_
    exact E_tmp2 J J J (W_end [] (by decide) J J J)
set_option maxHeartbeats 8000000 in
theorem S_StartOf (l : TLevel) (p : Int) (hg : Enc.gd l) (hl : levelOk l = true) (hp : 0 ≤ p ∧ p ≤ 3) : Con Try.prog 95 [] [ag l,ai p] [] (.tu [.c (jn (spX (startT l p))),.c (jn (spY (startT l p)))]) := by
  have hc := S_LevelOk l hg
  rw [hl] at hc
  have hlr := els_len l.Rows
  have hx : l.Rows.length ≤ 9223372036854775807 := hg.1
  obtain ⟨l3,l12,w,w4,w20,hw⟩ := level_facts hl
  have hci := S_in p 0 3
  rw [inR_iff.2 hp] at hci
  refine Con.of Try.func95 rfl Try.ntmps95 rfl (fun E => ?_)
  refine Qd (Qc ?_);refine M1 (Qq J J J J) J J ?_;refine M0 (Qb J J J) J J ?_;refine M0 (Qb J J J) J J ?_
  refine Qe (Q0 (Qd (Qc ?_)));refine M0 (Qb J J J) J J ?_;refine Qe (Q0 (Qd (Qc ?_)))
  refine M0 (Qb J J J) J J ?_;refine Qe (Q0 (Qd (Qd (Qc ?_))));refine M0 (Qu J J J J J J) J J ?_
  refine M0 (Qj J J (hc) rfl) J J ?_;refine M0 (Q4 J J J) J J ?_;refine M0 (Qa J J J) J J ?_;refine Qi J J J ?_
  refine M0 (Qa J J J) J J ?_;refine Qi J J J ?_;refine M0 (Qj J J (hci) rfl) J J ?_;refine Qi J J J ?_
  refine M0 (Q4 J J J) J J ?_;refine M0 (Qn J J J J) J J ?_;refine Qe (Q0 ?_);refine Ql rfl ?_;refine Qh (Q0 (Qd ?_))
  refine Qd (Qc ?_);refine M0 (Qb J J J) J J ?_;refine Qe (Q0 (Qk ?_))
  refine A_loop (fun m st => ∃ r : Nat,r + m = l.Rows.length ∧ (tileF (isDig p) l.Rows r = none) ∧ st = (fun r : Nat => (⟨_,[(1,I p),(2,.o (.c (.ptr 0 0))),(6,I (spX (tileF isOpen l.Rows r))),(7,I (spY (tileF isOpen l.Rows r))),(8,I r)],[.box ((Enc.e l).map (V1.rd []))]⟩ : St)) r) (l.Rows.length) ⟨(fun r : Nat => (⟨_,[(1,I p),(2,.o (.c (.ptr 0 0))),(6,I (spX (tileF isOpen l.Rows r))),(7,I (spY (tileF isOpen l.Rows r))),(8,I r)],[.box ((Enc.e l).map (V1.rd []))]⟩ : St)) 0,W_go [0] (by decide) rfl (rfl) (.cons rfl (.cons rfl (.cons rfl (.cons rfl (.cons rfl (.nil)))))),0,by omega,rfl,rfl⟩ ?_
  rintro m_A _ ⟨r,hk_A,hp_A,rfl⟩
  refine Qd (Qd (Qc ?_));refine M0 (Qa J J J) J J ?_;refine M0 (Qf J J J J (by decide)) J J ?_
  refine M0 (Qg J J J J J) J J ?_;refine M0 (q_len J J J) J J ?_;refine M0 (q_lss J J J J) J J ?_;refine Qe (Q0 ?_)
  refine Xb rfl (fun h => ?_) (fun h => ?_)
  · have h3 : r < l.Rows.length := by have := of_decide_eq_true h; omega
    have hat := els_at h3
    have hwr := hw r h3
    have hrow := List.getElem?_eq_getElem h3
    generalize l.Rows[r] = row at hat hwr hrow
    refine Qh (Q0 (Qd (Qk (Qd (Qc ?_)))));refine M0 (Qb J J J) J J ?_;refine Qe (Q0 ?_)
    refine Qk ?_
    refine A_loop (fun m st => ∃ c : Nat,c + m = row.size ∧ (colF (isDig p) row c = none) ∧ st = (fun c : Nat => (⟨_,[(1,I p),(2,.o (.c (.ptr 0 0))),(6,I (spX (openF l.Rows row r c))),(7,I (spY (openF l.Rows row r c))),(8,I r),(9,I c)],[.box ((Enc.e l).map (V1.rd []))]⟩ : St)) c) (row.size) ⟨(fun c : Nat => (⟨_,[(1,I p),(2,.o (.c (.ptr 0 0))),(6,I (spX (openF l.Rows row r c))),(7,I (spY (openF l.Rows row r c))),(8,I r),(9,I c)],[.box ((Enc.e l).map (V1.rd []))]⟩ : St)) 0,W_go [0] (by decide) rfl (rfl) (.cons rfl (.cons rfl (.cons (I_eq (by rw [openF_zero])) (.cons (I_eq (by rw [openF_zero])) (.cons rfl (.cons rfl (.nil))))))),0,by omega,rfl,rfl⟩ ?_
    rintro m_D _ ⟨c,hk_D,hp_D,rfl⟩
    refine Qd (Qd (Qc ?_));refine M0 (Qa J J J) J J ?_;refine M0 (Qf J J J J (by decide)) J J ?_
    refine M0 (Qg J J J J J) J J ?_;refine M0 (Qa J J J) J J ?_;refine M0 (Q2 J J J J (by omega) (by assumption) rfl) J J ?_
    refine M0 (q_lr1 J J J J) J J ?_;refine M0 (q_lens J J J) J J ?_;refine M0 (q_lss J J J J) J J ?_;refine Qe (Q0 ?_)
    refine Xb rfl (fun h4 => ?_) (fun h4 => ?_)
    · have h4 : c < row.size := by have := of_decide_eq_true h4; omega
      have hbt := byteAt_lt row c
      have hbt2 := byteAt_lt row (c : Int).toNat
      by_cases hd : byteAt row c = 49 + p
      · have hb : decide (byteAt row (c : Int).toNat - 49 = p) = true := decide_eq_true (by show byteAt row c - 49 = p; omega)
        have hb3 : decide (byteAt row (c : Int).toNat ≠ 35) = true := decide_eq_true (by show byteAt row c ≠ 35; omega)
        rw [start_dig hp_A hrow hp_D h4 hd]
        clear hd
        cases ho : openF l.Rows row r c with
        | some x =>
          have hlt : decide (spX (openF l.Rows row r c) < 0) = false := decide_eq_false (by rw [spX_neg,ho]; simp)
          rw [ho] at hlt
          refine Qh (Q0 (Qd (Qk (Qd (Qc ?_)))));refine M0 (Qf J J J J (by decide)) J J ?_
          refine M0 (Qg J J J J J) J J ?_;refine M0 (Qa J J J) J J ?_;refine M0 (Q2 J J J J (by omega) (by assumption) rfl) J J ?_
          refine M0 (q_lr1 J J J J) J J ?_;refine M0 (Qa J J J) J J ?_;refine M0 (q_byte J J J J (by omega)) J J ?_
          refine M0 (Qb J J J) J J ?_;refine Qe (Q0 (Qd (Qd (Qc ?_))));refine M0 (Qa J J J) J J ?_
          refine M0 (Qw J J J J (by assumption)) J J ?_;refine M0 (Qa J J J) J J ?_;refine Qi J J J ?_;refine M0 (Qa J J J) J J ?_
          refine Qi J J J ?_;refine M0 (Qr J J J J (by assumption)) J J ?_;refine M0 (Qo J J J J) J J ?_;refine M0 (Qa J J J) J J ?_
          refine Qi J J J ?_;refine M0 (Qa J J J) J J ?_;refine Qi J J J ?_;refine M0 (q_convI J J J J (wrap_i64 (by omega))) J J ?_
          refine Qi J J J ?_;refine M0 (Xc J J J J (by omega)) J J ?_;refine Qi J J J ?_;refine M0 (Qa J J J) J J ?_;refine Qi J J J ?_
          refine M0 (Qv J J J J (by assumption)) J J ?_;refine M0 (Qn J J J J) J J ?_;refine Qe (Q0 ?_);refine Qm rfl ?_;refine Qd ?_
          refine Qc ?_;refine M0 (Qa J J J) J J ?_;refine M0 (q_mul J J J J (by omega)) J J ?_;refine M0 (Qs J J J J (by omega)) J J ?_
          refine M0 (Qb J J J) J J ?_;refine Qe (Q0 (Qc ?_));refine M0 (Qa J J J) J J ?_
          refine M0 (q_mul J J J J (by omega)) J J ?_;refine M0 (Qs J J J J (by omega)) J J ?_;refine M0 (Qb J J J) J J ?_;refine Qe ?_
          refine Q0 (Qd (Qc ?_));refine M0 (Qa J J J) J J ?_;refine M0 (q_convI J J J J (wrap_i64 (by omega))) J J ?_
          refine M0 (Xc J J J J (by omega)) J J ?_;refine M0 (Qa J J J) J J ?_;refine M0 (Qv J J J J (by assumption)) J J ?_;refine Qe ?_
          refine Q0 ?_;refine Qm rfl ?_;refine Qd (Qc ?_);refine M0 (Qa J J J) J J ?_;refine M0 (Qa J J J) J J ?_
          refine M0 (Qb J J J) J J ?_;refine M0 (Qb J J J) J J ?_;refine Qe (Q0 (Xa (B_r (T_r (T_r ?_)))))
          refine B_r (B_r (T_r (T_r (B_r (T_r (F_r ?_))))))
          exact E_tmp2 J J J (W_end [] (by decide) J J J)
        | none =>
          have hlt : decide (spX none < 0) = true := rfl
          refine Qh (Q0 (Qd (Qk (Qd (Qc ?_)))));refine M0 (Qf J J J J (by decide)) J J ?_
          refine M0 (Qg J J J J J) J J ?_;refine M0 (Qa J J J) J J ?_;refine M0 (Q2 J J J J (by omega) (by assumption) rfl) J J ?_
          refine M0 (q_lr1 J J J J) J J ?_;refine M0 (Qa J J J) J J ?_;refine M0 (q_byte J J J J (by omega)) J J ?_
          refine M0 (Qb J J J) J J ?_;refine Qe (Q0 (Qd (Qd (Qc ?_))));refine M0 (Qa J J J) J J ?_
          refine M0 (Qw J J J J (by assumption)) J J ?_;refine M0 (Qa J J J) J J ?_;refine Qi J J J ?_;refine M0 (Qa J J J) J J ?_
          refine Qi J J J ?_;refine M0 (Qr J J J J (by assumption)) J J ?_;refine M0 (Qo J J J J) J J ?_;refine M0 (Qa J J J) J J ?_
          refine Qp J J J J J J ?_;refine Qp J J J J J J ?_;refine Qp J J J J J J ?_;refine Qp J J J J J J ?_
          refine Qp J J J J J J ?_;refine M0 (Qo J J J J) J J ?_;refine Qe (Q0 ?_);refine Qm rfl ?_;refine Qd (Qc ?_)
          refine M0 (Qa J J J) J J ?_;refine M0 (q_mul J J J J (by omega)) J J ?_;refine M0 (Qs J J J J (by omega)) J J ?_
          refine M0 (Qb J J J) J J ?_;refine Qe (Q0 (Qc ?_));refine M0 (Qa J J J) J J ?_
          refine M0 (q_mul J J J J (by omega)) J J ?_;refine M0 (Qs J J J J (by omega)) J J ?_;refine M0 (Qb J J J) J J ?_;refine Qe ?_
          refine Q0 (Qd (Qc ?_));refine M0 (Qa J J J) J J ?_;refine M0 (q_convI J J J J (wrap_i64 (by omega))) J J ?_
          refine M0 (Xc J J J J (by omega)) J J ?_;refine M0 (Qa J J J) J J ?_;refine M0 (Qv J J J J (by assumption)) J J ?_;refine Qe ?_
          refine Q0 ?_;refine Qm rfl ?_;refine Qd (Qc ?_);refine M0 (Qa J J J) J J ?_;refine M0 (Qa J J J) J J ?_
          refine M0 (Qb J J J) J J ?_;refine M0 (Qb J J J) J J ?_;refine Qe (Q0 (Xa (B_r (T_r (T_r ?_)))))
          refine B_r (B_r (T_r (T_r (B_r (T_r (F_r ?_))))))
          exact E_tmp2 J J J (W_end [] (by decide) J J J)
      have hb : decide (byteAt row (c : Int).toNat - 49 = p) = false := decide_eq_false (by show ¬ byteAt row c - 49 = p; omega)
      have hnd := colF_step hp_D (show isDig p (byteAt row c) = false from decide_eq_false hd)
      by_cases h35 : byteAt row c = 35
      · have hb3 : decide (byteAt row (c : Int).toNat ≠ 35) = false := decide_eq_false (fun q => q h35)
        have hnx : spX (openF l.Rows row r c) = spX (openF l.Rows row r (c + 1)) := by rw [openF_35 h35]
        have hny : spY (openF l.Rows row r c) = spY (openF l.Rows row r (c + 1)) := by rw [openF_35 h35]
        clear h35
        refine Qh (Q0 (Qd (Qk (Qd (Qc ?_)))));refine M0 (Qf J J J J (by decide)) J J ?_
        refine M0 (Qg J J J J J) J J ?_;refine M0 (Qa J J J) J J ?_;refine M0 (Q2 J J J J (by omega) (by assumption) rfl) J J ?_
        refine M0 (q_lr1 J J J J) J J ?_;refine M0 (Qa J J J) J J ?_;refine M0 (q_byte J J J J (by omega)) J J ?_
        refine M0 (Qb J J J) J J ?_;refine Qe (Q0 (Qd (Qd (Qc ?_))));refine M0 (Qa J J J) J J ?_
        refine M0 (Qw J J J J (by assumption)) J J ?_;refine M0 (Qa J J J) J J ?_;refine Qp J J J J J J ?_;refine Qp J J J J J J ?_
        refine M0 (Qn J J J J) J J ?_;refine M0 (Qa J J J) J J ?_;refine Qi J J J ?_;refine M0 (Qa J J J) J J ?_
        refine Qi J J J ?_;refine M0 (q_convI J J J J (wrap_i64 (by omega))) J J ?_;refine Qi J J J ?_;refine M0 (Xc J J J J (by omega)) J J ?_
        refine Qi J J J ?_;refine M0 (Qa J J J) J J ?_;refine Qi J J J ?_;refine M0 (Qv J J J J (by assumption)) J J ?_
        refine M0 (Qn J J J J) J J ?_;refine Qe (Q0 ?_);refine Ql rfl ?_;refine Qh (Q0 (Qd (Qc ?_)))
        refine M0 (Qa J J J) J J ?_;refine M0 (q_convI J J J J (wrap_i64 (by omega))) J J ?_;refine M0 (Xc J J J J (by omega)) J J ?_
        refine M0 (Qa J J J) J J ?_;refine M0 (Qv J J J J (by assumption)) J J ?_;refine Qe (Q0 ?_);refine Ql rfl ?_;refine Qh (Q1 ?_)
        refine Q0 (Qc ?_);refine M0 (Qa J J J) J J ?_;refine M0 (Qs J J J J (by omega)) J J ?_;refine M0 (Qb J J J) J J ?_
        refine Qe (Q0 ?_)
        exact ⟨row.size - (c + 1),by omega,(fun c : Nat => (⟨_,[(1,I p),(2,.o (.c (.ptr 0 0))),(6,I (spX (openF l.Rows row r c))),(7,I (spY (openF l.Rows row r c))),(8,I r),(9,I c)],[.box ((Enc.e l).map (V1.rd []))]⟩ : St)) (c + 1),W_go [0] (by decide) rfl (rfl) (.cons rfl (.cons rfl (.cons (I_eq hnx) (.cons (I_eq hny) (.cons rfl (.cons rfl (.nil))))))),c + 1,by omega,hnd,rfl⟩
      have hb3 : decide (byteAt row (c : Int).toNat ≠ 35) = true := decide_eq_true h35
      have h35' := h35
      cases ho : openF l.Rows row r c with
      | some x =>
        have hlt : decide (spX (openF l.Rows row r c) < 0) = false := decide_eq_false (by rw [spX_neg,ho]; simp)
        have hnx : spX (some x) = spX (openF l.Rows row r (c + 1)) := by rw [openF_keep ho]
        have hny : spY (some x) = spY (openF l.Rows row r (c + 1)) := by rw [openF_keep ho]
        rw [ho] at hlt
        refine Qh (Q0 (Qd (Qk (Qd (Qc ?_)))));refine M0 (Qf J J J J (by decide)) J J ?_
        refine M0 (Qg J J J J J) J J ?_;refine M0 (Qa J J J) J J ?_;refine M0 (Q2 J J J J (by omega) (by assumption) rfl) J J ?_
        refine M0 (q_lr1 J J J J) J J ?_;refine M0 (Qa J J J) J J ?_;refine M0 (q_byte J J J J (by omega)) J J ?_
        refine M0 (Qb J J J) J J ?_;refine Qe (Q0 (Qd (Qd (Qc ?_))));refine M0 (Qa J J J) J J ?_
        refine M0 (Qw J J J J (by assumption)) J J ?_;refine M0 (Qa J J J) J J ?_;refine Qi J J J ?_;refine M0 (Qa J J J) J J ?_
        refine Qi J J J ?_;refine M0 (Qr J J J J (by assumption)) J J ?_;refine M0 (Qo J J J J) J J ?_;refine M0 (Qa J J J) J J ?_
        refine Qi J J J ?_;refine M0 (Qa J J J) J J ?_;refine Qi J J J ?_;refine M0 (q_convI J J J J (wrap_i64 (by omega))) J J ?_
        refine Qi J J J ?_;refine M0 (Xc J J J J (by omega)) J J ?_;refine Qi J J J ?_;refine M0 (Qa J J J) J J ?_;refine Qi J J J ?_
        refine M0 (Qv J J J J (by assumption)) J J ?_;refine M0 (Qn J J J J) J J ?_;refine Qe (Q0 ?_);refine Ql rfl ?_;refine Qh ?_
        refine Q0 (Qd (Qc ?_));refine M0 (Qa J J J) J J ?_;refine M0 (q_convI J J J J (wrap_i64 (by omega))) J J ?_
        refine M0 (Xc J J J J (by omega)) J J ?_;refine M0 (Qa J J J) J J ?_;refine M0 (Qv J J J J (by assumption)) J J ?_;refine Qe ?_
        refine Q0 ?_;refine Ql rfl ?_;refine Qh (Q1 (Q0 (Qc ?_)));refine M0 (Qa J J J) J J ?_
        refine M0 (Qs J J J J (by omega)) J J ?_;refine M0 (Qb J J J) J J ?_;refine Qe (Q0 ?_)
        exact ⟨row.size - (c + 1),by omega,(fun c : Nat => (⟨_,[(1,I p),(2,.o (.c (.ptr 0 0))),(6,I (spX (openF l.Rows row r c))),(7,I (spY (openF l.Rows row r c))),(8,I r),(9,I c)],[.box ((Enc.e l).map (V1.rd []))]⟩ : St)) (c + 1),W_go [0] (by decide) rfl (rfl) (.cons rfl (.cons rfl (.cons (I_eq hnx) (.cons (I_eq hny) (.cons rfl (.cons rfl (.nil))))))),c + 1,by omega,hnd,rfl⟩
      | none =>
        have hlt : decide (spX none < 0) = true := rfl
        have hnx : 16 * (c : Int) + 2 = spX (openF l.Rows row r (c + 1)) := by rw [openF_step ho,if_neg h35']; rfl
        have hny : 16 * (r : Int) + 2 = spY (openF l.Rows row r (c + 1)) := by rw [openF_step ho,if_neg h35']; rfl
        refine Qh (Q0 (Qd (Qk (Qd (Qc ?_)))));refine M0 (Qf J J J J (by decide)) J J ?_
        refine M0 (Qg J J J J J) J J ?_;refine M0 (Qa J J J) J J ?_;refine M0 (Q2 J J J J (by omega) (by assumption) rfl) J J ?_
        refine M0 (q_lr1 J J J J) J J ?_;refine M0 (Qa J J J) J J ?_;refine M0 (q_byte J J J J (by omega)) J J ?_
        refine M0 (Qb J J J) J J ?_;refine Qe (Q0 (Qd (Qd (Qc ?_))));refine M0 (Qa J J J) J J ?_
        refine M0 (Qw J J J J (by assumption)) J J ?_;refine M0 (Qa J J J) J J ?_;refine Qi J J J ?_;refine M0 (Qa J J J) J J ?_
        refine Qi J J J ?_;refine M0 (Qr J J J J (by assumption)) J J ?_;refine M0 (Qo J J J J) J J ?_;refine M0 (Qa J J J) J J ?_
        refine Qp J J J J J J ?_;refine Qp J J J J J J ?_;refine Qp J J J J J J ?_;refine Qp J J J J J J ?_
        refine Qp J J J J J J ?_;refine M0 (Qo J J J J) J J ?_;refine Qe (Q0 ?_);refine Qm rfl ?_;refine Qd (Qc ?_)
        refine M0 (Qa J J J) J J ?_;refine M0 (q_mul J J J J (by omega)) J J ?_;refine M0 (Qs J J J J (by omega)) J J ?_
        refine M0 (Qb J J J) J J ?_;refine Qe (Q0 (Qc ?_));refine M0 (Qa J J J) J J ?_
        refine M0 (q_mul J J J J (by omega)) J J ?_;refine M0 (Qs J J J J (by omega)) J J ?_;refine M0 (Qb J J J) J J ?_;refine Qe ?_
        refine Q0 (Qd (Qc ?_));refine M0 (Qa J J J) J J ?_;refine M0 (q_convI J J J J (wrap_i64 (by omega))) J J ?_
        refine M0 (Xc J J J J (by omega)) J J ?_;refine M0 (Qa J J J) J J ?_;refine M0 (Qv J J J J (by assumption)) J J ?_;refine Qe ?_
        refine Q0 ?_;refine Ql rfl ?_;refine Qh (Q1 (Q0 (Qc ?_)));refine M0 (Qa J J J) J J ?_
        refine M0 (Qs J J J J (by omega)) J J ?_;refine M0 (Qb J J J) J J ?_;refine Qe (Q0 ?_)
        exact ⟨row.size - (c + 1),by omega,(fun c : Nat => (⟨_,[(1,I p),(2,.o (.c (.ptr 0 0))),(6,I (spX (openF l.Rows row r c))),(7,I (spY (openF l.Rows row r c))),(8,I r),(9,I c)],[.box ((Enc.e l).map (V1.rd []))]⟩ : St)) (c + 1),W_go [0] (by decide) rfl (rfl) (.cons rfl (.cons rfl (.cons (I_eq hnx) (.cons (I_eq hny) (.cons rfl (.cons rfl (.nil))))))),c + 1,by omega,hnd,rfl⟩
    · have h4 : c = row.size := by have := of_decide_eq_false h4; omega
      subst h4
      refine Q9 (T_x (T_x (B_xs (Q1 (Q0 (Qc ?_))))));refine M0 (Qa J J J) J J ?_
      refine M0 (Qs J J J J (by omega)) J J ?_;refine M0 (Qb J J J) J J ?_;refine Qe (Q0 ?_)
      exact ⟨l.Rows.length - (r + 1),by omega,(fun r : Nat => (⟨_,[(1,I p),(2,.o (.c (.ptr 0 0))),(6,I (spX (tileF isOpen l.Rows r))),(7,I (spY (tileF isOpen l.Rows r))),(8,I r)],[.box ((Enc.e l).map (V1.rd []))]⟩ : St)) (r + 1),W_go [0] (by decide) rfl (rfl) (.cons rfl (.cons rfl (.cons (I_eq (by rw [← openF_end hrow])) (.cons (I_eq (by rw [← openF_end hrow])) (.cons rfl (.nil)))))),r + 1,by omega,tileF_step hp_A hrow hp_D,rfl⟩
  · have h3 : r = l.Rows.length := by have := of_decide_eq_false h; omega
    rw [start_open hp_A h3]
    refine Q9 (T_x (T_x (B_xs (Q0 (Qd (Qc ?_))))));refine M0 (Qa J J J) J J ?_
    refine M0 (Qa J J J) J J ?_;refine M0 (Qb J J J) J J ?_;refine M0 (Qb J J J) J J ?_;refine Qe (Q0 (Xa ?_))
    refine F_r ?_
    exact E_tmp2 J J J (W_end [] (by decide) J J J)
end Go.Proofs.Ytmljakmaffbnlaa
end

section
set_option linter.unusedSimpArgs false
set_option linter.unusedVariables false
set_option maxRecDepth 8000
namespace Go.Proofs.Ytmljakmaffbnlaa
open Go.RowKit

set_option maxHeartbeats 8000000 in
theorem I_fresh (l : TLevel) (p : Int) (hg : Enc.gd l) (hl : levelOk l = true) (hp : 0 ≤ p ∧ p ≤ 3) : Con Try.prog 77 [] [ag l,ai p] [] (.o (.ag ((Enc.e (fresh l p)).map (V1.rd [])))) := by
  have hc := I_StartOf l p hg hl hp
  refine Con.of Try.func77 rfl Try.ntmps77 rfl (fun E => ?_)
  refine Qd (Qc ?_);refine M1 (Qq J J J J) J J ?_;refine M1 (Qx J J J) J J ?_;refine Qe (Q0 (Qd ?_))
  refine Qc ?_;refine M0 (Qu J J J J J J) J J ?_;refine M0 (Qa J J J) J J ?_;refine M1 (q_call J J (hc) J J J) J J ?_
  refine M0 (Q8 J J J) J J ?_;refine M0 (q_ext J J J J) J J ?_;refine M0 (q_ext J J J J) J J ?_;refine M0 (Qb J J J) J J ?_
  refine M0 (Qb J J J) J J ?_;refine Qe (Q0 (Qd (Qc ?_)));refine M0 (Qa J J J) J J ?_
  refine M0 (Qa J J J) J J ?_;refine M0 (Qa J J J) J J ?_;refine M0 (q_build J J J J J) J J ?_
  refine Qy J J J J J J J J J ?_;refine Qe (Q0 (Xa (F_r ?_)))
  exact E_cell J J J J (W_end [] (by decide) J J J)
set_option maxHeartbeats 8000000 in
theorem S_fresh (l : TLevel) (p : Int) (hg : Enc.gd l) (hl : levelOk l = true) (hp : 0 ≤ p ∧ p ≤ 3) : Con Try.prog 69 [] [ag l,ai p] [] (.o (.ag ((Enc.e (fresh l p)).map (V1.rd [])))) := by
  have hc := S_StartOf l p hg hl hp
  refine Con.of Try.func69 rfl Try.ntmps69 rfl (fun E => ?_)
  refine Qd (Qc ?_);refine M1 (Qq J J J J) J J ?_;refine M1 (Qx J J J) J J ?_;refine Qe (Q0 (Qd ?_))
  refine Qc ?_;refine M0 (Qu J J J J J J) J J ?_;refine M0 (Qa J J J) J J ?_;refine M1 (q_call J J (hc) J J J) J J ?_
  refine M0 (Q8 J J J) J J ?_;refine M0 (q_ext J J J J) J J ?_;refine M0 (q_ext J J J J) J J ?_;refine M0 (Qb J J J) J J ?_
  refine M0 (Qb J J J) J J ?_;refine Qe (Q0 (Qd (Qc ?_)));refine M0 (Qa J J J) J J ?_
  refine M0 (Qa J J J) J J ?_;refine M0 (Qa J J J) J J ?_;refine M0 (q_build J J J J J) J J ?_
  refine Qy J J J J J J J J J ?_;refine Qe (Q0 (Xa (F_r ?_)))
  exact E_cell J J J J (W_end [] (by decide) J J J)
end Go.Proofs.Ytmljakmaffbnlaa
end

section
set_option linter.unusedSimpArgs false
set_option linter.unusedVariables false
set_option maxRecDepth 8000
namespace Go.Proofs.Ytmljakmaffbnlaa
open Go.RowKit

set_option maxHeartbeats 8000000 in
theorem I_NextRandom (s : Int) (h : 0 ≤ s ∧ s ≤ 65535) : Con Try.prog 112 [] [ai s] [] (I (nextR s)) := by
  have f1 : decide (s < 0) = false := decide_eq_false (by omega)
  have f2 : decide (65535 < s) = false := decide_eq_false (by omega)
  refine Con.of Try.func112 rfl Try.ntmps112 rfl (fun E => ?_)
  refine Qd (Qc ?_);refine M0 (Qb J J J) J J ?_;refine Qe (Q0 (Qd (Qd (Qc ?_))))
  refine M0 (Qa J J J) J J ?_;refine M0 (Qr J J J J (by assumption)) J J ?_;refine M0 (Qa J J J) J J ?_;refine Qi J J J ?_
  refine M0 (Qa J J J) J J ?_;refine Qi J J J ?_;refine M0 (q_gtrK J J J J (by assumption)) J J ?_;refine M0 (Qn J J J J) J J ?_
  refine Qe (Q0 ?_);refine Ql rfl ?_;refine Qh (Q0 (Qd (Qc ?_)));refine M0 (Qa J J J) J J ?_
  refine M0 (q_mul J J J J (by omega)) J J ?_;refine M0 (Qs J J J J (by omega)) J J ?_;refine M0 (q_rem J J J J (by omega)) J J ?_
  refine M0 (Qb J J J) J J ?_;refine Qe (Q0 (Xa (F_r ?_)))
  exact E_tmp J J (W_end [] (by decide) J J (I_eq (by rw [nextR,if_pos h])))
theorem and_64k (n : Int) (h : 0 ≤ n) : ((n.toNat &&& (65535 : Int).toNat : Nat) : Int) = n % 65536 := by
  have := Nat.and_two_pow_sub_one_eq_mod n.toNat 16
  rw [show (65535 : Int).toNat = 2 ^ 16 - 1 from rfl,this]
  omega
set_option maxHeartbeats 8000000 in
theorem S_NextRandom (s : Int) (h : 0 ≤ s ∧ s ≤ 65535) : Con Try.prog 126 [] [ai s] [] (I (nextR s)) := by
  have hc := S_in s 0 65535
  rw [inR_iff.2 h] at hc
  refine Con.of Try.func126 rfl Try.ntmps126 rfl (fun E => ?_)
  refine Qd (Qc ?_);refine M0 (Qb J J J) J J ?_;refine Qe (Q0 (Qd (Qd (Qc ?_))))
  refine M0 (Qa J J J) J J ?_;refine M0 (Qj J J (hc) rfl) J J ?_;refine M0 (Q4 J J J) J J ?_;refine Qe (Q0 ?_);refine Ql rfl ?_
  refine Qh (Q0 (Qd (Qc ?_)));refine M0 (Qa J J J) J J ?_;refine M0 (q_mul J J J J (by omega)) J J ?_
  refine M0 (Qs J J J J (by omega)) J J ?_;refine M0 (q_band J J J J (by omega)) J J ?_;refine M0 (Qb J J J) J J ?_;refine Qe ?_
  refine Q0 (Xa (F_r ?_))
  exact E_tmp J J (W_end [] (by decide) J J (I_eq (by rw [nextR,if_pos h,and_64k _ (by omega)])))
set_option maxHeartbeats 8000000 in
theorem I_RandomBelow (s n : Int) (h : 0 ≤ s ∧ s ≤ 65535) (hn : 1 ≤ n ∧ n ≤ 4096) : Con Try.prog 114 [] [ai s,ai n] [] (.tu [.c (jn (nextR s)),.c (jn (belowR s n))]) := by
  have f1 : decide (s < 0) = false := decide_eq_false (by omega)
  have f2 : decide (65535 < s) = false := decide_eq_false (by omega)
  have f3 : decide (n < 1) = false := decide_eq_false (by omega)
  have f4 : decide (4096 < n) = false := decide_eq_false (by omega)
  have hc := I_NextRandom s h
  have hr := nextR_rng s
  refine Con.of Try.func114 rfl Try.ntmps114 rfl (fun E => ?_)
  refine Qd (Qc ?_);refine M0 (Qb J J J) J J ?_;refine M0 (Qb J J J) J J ?_;refine Qe (Q0 (Qd (Qd ?_)))
  refine Qc ?_;refine M0 (Qa J J J) J J ?_;refine M0 (Qr J J J J (by assumption)) J J ?_;refine M0 (Qa J J J) J J ?_
  refine Qi J J J ?_;refine M0 (Qa J J J) J J ?_;refine Qi J J J ?_;refine M0 (q_gtrK J J J J (by assumption)) J J ?_
  refine M0 (Qn J J J J) J J ?_;refine M0 (Qa J J J) J J ?_;refine Qi J J J ?_;refine M0 (Qa J J J) J J ?_
  refine Qi J J J ?_;refine M0 (Qr J J J J (by assumption)) J J ?_;refine M0 (Qn J J J J) J J ?_;refine M0 (Qa J J J) J J ?_
  refine Qi J J J ?_;refine M0 (Qa J J J) J J ?_;refine Qi J J J ?_;refine M0 (q_gtrK J J J J (by assumption)) J J ?_
  refine M0 (Qn J J J J) J J ?_;refine Qe (Q0 ?_);refine Ql rfl ?_;refine Qh (Q0 (Qd (Qc ?_)))
  refine M0 (Qa J J J) J J ?_;refine M0 (Qj J J (hc) rfl) J J ?_;refine M0 (Qb J J J) J J ?_;refine Qe (Q0 (Qd ?_))
  refine A_draw [[],[],[1],[],[1,2,3],[0],[0,1,2,3,4,5]] [[],[],[24],[],[24,25,26],[23],[4,23,24,25,26,27]] [[24,25,26,27],[4,23,26],[4,23,26],[4,23,24,25],[4,23],[24,25,26,27],[]] rfl ?_
  refine DR.step (Qa J J J) J J ?_;refine DR.step (Qa J J J) J J ?_;refine DR.step (q_quo J J J J (by omega)) J J ?_
  refine DR.step (Qa J J J) J J ?_;refine DR.step (q_rem J J J J (by omega)) J J ?_;refine DR.step (Qb J J J) J J ?_
  refine DR.step (Qb J J J) J J ?_;refine DR.stop (by kernel_rfl) (by kernel_rfl) ?_
  refine Qe (Q0 (Xa (F_r ?_)))
  exact E_tmp2 J J J (W_end [] (by decide) J J J)
set_option maxHeartbeats 8000000 in
theorem S_RandomBelow (s n : Int) (h : 0 ≤ s ∧ s ≤ 65535) (hn : 1 ≤ n ∧ n ≤ 4096) : Con Try.prog 128 [] [ai s,ai n] [] (.tu [.c (jn (nextR s)),.c (jn (belowR s n))]) := by
  have c1 := S_in s 0 65535
  have c2 := S_in n 1 4096
  rw [inR_iff.2 h] at c1
  rw [inR_iff.2 hn] at c2
  have hc := S_NextRandom s h
  have hr := nextR_rng s
  refine Con.of Try.func128 rfl Try.ntmps128 rfl (fun E => ?_)
  refine Qd (Qc ?_);refine M0 (Qb J J J) J J ?_;refine M0 (Qb J J J) J J ?_;refine Qe (Q0 (Qd (Qd ?_)))
  refine Qc ?_;refine M0 (Qa J J J) J J ?_;refine M0 (Qj J J (c1) rfl) J J ?_;refine M0 (Q4 J J J) J J ?_
  refine M0 (Qa J J J) J J ?_;refine Qi J J J ?_;refine M0 (Qa J J J) J J ?_;refine Qi J J J ?_
  refine M0 (Qj J J (c2) rfl) J J ?_;refine Qi J J J ?_;refine M0 (Q4 J J J) J J ?_;refine M0 (Qn J J J J) J J ?_;refine Qe ?_
  refine Q0 ?_;refine Ql rfl ?_;refine Qh (Q0 (Qd (Qc ?_)));refine M0 (Qa J J J) J J ?_
  refine M0 (Qj J J (hc) rfl) J J ?_;refine M0 (Qb J J J) J J ?_;refine Qe (Q0 (Qd ?_))
  refine A_draw [[],[],[1],[],[1,2,3],[0],[0,1,2,3,4,5]] [[],[],[18],[],[18,19,20],[17],[4,17,18,19,20,21]] [[18,19,20,21],[4,17,20],[4,17,20],[4,17,18,19],[4,17],[18,19,20,21],[]] rfl ?_
  refine DR.step (Qa J J J) J J ?_;refine DR.step (Qa J J J) J J ?_;refine DR.step (q_quo J J J J (by omega)) J J ?_
  refine DR.step (Qa J J J) J J ?_;refine DR.step (q_rem J J J J (by omega)) J J ?_;refine DR.step (Qb J J J) J J ?_
  refine DR.step (Qb J J J) J J ?_;refine DR.stop (by kernel_rfl) (by kernel_rfl) ?_
  refine Qe (Q0 (Xa (F_r ?_)))
  exact E_tmp2 J J J (W_end [] (by decide) J J J)
set_option maxHeartbeats 8000000 in
theorem I_ShotOf (b : TBody) (hx : 0 ≤ b.X ∧ b.X ≤ 1000) (hy : 0 ≤ b.Y ∧ b.Y ≤ 1000) (ha : -1 ≤ b.Aim ∧ b.Aim ≤ 1) : Con Try.prog 130 [] [ag b] [] (.o (.ag ((Enc.e (shotOf b)).map (V1.rd [])))) := by
  have c1 := I_between b.X 0 1000
  have c2 := I_between b.Y 0 1000
  have c3 := I_between b.Aim (-1) 1
  rw [inR_iff.2 hx] at c1
  rw [inR_iff.2 hy] at c2
  rw [inR_iff.2 ha] at c3
  refine Con.of Try.func130 rfl Try.ntmps130 rfl (fun E => ?_)
  refine Qd (Qc ?_);refine M1 (Qq J J J J) J J ?_;refine M1 (Qx J J J) J J ?_;refine Qe (Q0 (Qd (Qd ?_)))
  refine Qc ?_;refine M0 (Qf J J J J (by decide)) J J ?_;refine M0 (Qg J J J J J) J J ?_;refine M0 (Qj J J (c1) rfl) J J ?_
  refine M0 (Q4 J J J) J J ?_;refine M0 (Qa J J J) J J ?_;refine Qi J J J ?_;refine M0 (Qf J J J J (by decide)) J J ?_
  refine Qi J J J ?_;refine M0 (Qg J J J J J) J J ?_;refine Qi J J J ?_;refine M0 (Qj J J (c2) rfl) J J ?_;refine Qi J J J ?_
  refine M0 (Q4 J J J) J J ?_;refine M0 (Qn J J J J) J J ?_;refine M0 (Qa J J J) J J ?_;refine Qi J J J ?_
  refine M0 (Qf J J J J (by decide)) J J ?_;refine Qi J J J ?_;refine M0 (Qg J J J J J) J J ?_;refine Qi J J J ?_
  refine M0 (Qj J J (c3) rfl) J J ?_;refine Qi J J J ?_;refine M0 (Q4 J J J) J J ?_;refine M0 (Qn J J J J) J J ?_;refine Qe ?_
  refine Q0 ?_;refine Ql rfl ?_;refine Qh (Q0 (Qd (Qc ?_)));refine M0 (Qf J J J J (by decide)) J J ?_
  refine M0 (Qg J J J J J) J J ?_;refine M0 (Qf J J J J (by decide)) J J ?_;refine M0 (Qg J J J J J) J J ?_
  refine M0 (Qs J J J J (by omega)) J J ?_;refine M0 (Qf J J J J (by decide)) J J ?_;refine M0 (Qg J J J J J) J J ?_
  refine M0 (Qs J J J J (by omega)) J J ?_;refine M0 (Qf J J J J (by decide)) J J ?_;refine M0 (Qg J J J J J) J J ?_
  refine M0 (q_mul J J J J (by omega)) J J ?_;refine M0 (q_build J J J J J) J J ?_;refine Qy J J J J J J J J J ?_;refine Qe ?_
  refine Q0 (Xa (F_r ?_))
  exact E_cell J J J J (W_end [] (by decide) J J J)
set_option maxHeartbeats 8000000 in
theorem S_ShotOf (b : TBody) (hx : 0 ≤ b.X ∧ b.X ≤ 1000) (hy : 0 ≤ b.Y ∧ b.Y ≤ 1000) (ha : -1 ≤ b.Aim ∧ b.Aim ≤ 1) : Con Try.prog 123 [] [ag b] [] (.o (.ag ((Enc.e (shotOf b)).map (V1.rd [])))) := by
  have c1 := S_in b.X 0 1000
  have c2 := S_in b.Y 0 1000
  have c3 := S_in b.Aim (-1) 1
  rw [inR_iff.2 hx] at c1
  rw [inR_iff.2 hy] at c2
  rw [inR_iff.2 ha] at c3
  refine Con.of Try.func123 rfl Try.ntmps123 rfl (fun E => ?_)
  refine Qd (Qc ?_);refine M1 (Qq J J J J) J J ?_;refine M1 (Qx J J J) J J ?_;refine Qe (Q0 (Qd (Qd ?_)))
  refine Qc ?_;refine M0 (Qf J J J J (by decide)) J J ?_;refine M0 (Qg J J J J J) J J ?_;refine M0 (Qj J J (c1) rfl) J J ?_
  refine M0 (Q4 J J J) J J ?_;refine M0 (Qa J J J) J J ?_;refine Qi J J J ?_;refine M0 (Qf J J J J (by decide)) J J ?_
  refine Qi J J J ?_;refine M0 (Qg J J J J J) J J ?_;refine Qi J J J ?_;refine M0 (Qj J J (c2) rfl) J J ?_;refine Qi J J J ?_
  refine M0 (Q4 J J J) J J ?_;refine M0 (Qn J J J J) J J ?_;refine M0 (Qa J J J) J J ?_;refine Qi J J J ?_
  refine M0 (Qf J J J J (by decide)) J J ?_;refine Qi J J J ?_;refine M0 (Qg J J J J J) J J ?_;refine Qi J J J ?_
  refine M0 (Qj J J (c3) rfl) J J ?_;refine Qi J J J ?_;refine M0 (Q4 J J J) J J ?_;refine M0 (Qn J J J J) J J ?_;refine Qe ?_
  refine Q0 ?_;refine Ql rfl ?_;refine Qh (Q0 (Qd (Qc ?_)));refine M0 (Qf J J J J (by decide)) J J ?_
  refine M0 (Qg J J J J J) J J ?_;refine M0 (Qf J J J J (by decide)) J J ?_;refine M0 (Qg J J J J J) J J ?_
  refine M0 (Qs J J J J (by omega)) J J ?_;refine M0 (Qf J J J J (by decide)) J J ?_;refine M0 (Qg J J J J J) J J ?_
  refine M0 (Qs J J J J (by omega)) J J ?_;refine M0 (Qf J J J J (by decide)) J J ?_;refine M0 (Qg J J J J J) J J ?_
  refine M0 (q_mul J J J J (by omega)) J J ?_;refine M0 (q_build J J J J J) J J ?_;refine Qy J J J J J J J J J ?_;refine Qe ?_
  refine Q0 (Xa (F_r ?_))
  exact E_cell J J J J (W_end [] (by decide) J J J)
set_option maxHeartbeats 8000000 in
theorem I_direction (v : Int) (h : -15 ≤ v ∧ v ≤ 15) : Con Try.prog 137 [] [ai v] [] (.tu [.c (jn (dirOf v)),.c (jn v.natAbs)]) := by
  by_cases hv : v < 0
  · have f1 : decide (v < 0) = true := decide_eq_true hv
    refine Con.of Try.func137 rfl Try.ntmps137 rfl (fun E => ?_)
    refine Qd (Qc ?_);refine M0 (Qb J J J) J J ?_;refine M0 (Qb J J J) J J ?_;refine Qe (Q0 (Qd (Qd ?_)))
    refine Qc ?_;refine M0 (Qa J J J) J J ?_;refine M0 (Qr J J J J (by assumption)) J J ?_;refine Qe (Q0 ?_);refine Qm rfl ?_
    refine Qd (Qc ?_);refine M0 (Qa J J J) J J ?_;refine M0 (q_neg J J J (by omega)) J J ?_;refine M0 (Qb J J J) J J ?_
    refine M0 (Qb J J J) J J ?_;refine Qe (Q0 (Xa (T_r (F_r ?_))))
    exact E_tmp2 J J J (W_end [] (by decide) J J (tu2 (by rw [dirOf,if_pos hv]) (by omega)))
  · have f1 : decide (v < 0) = false := decide_eq_false hv
    refine Con.of Try.func137 rfl Try.ntmps137 rfl (fun E => ?_)
    refine Qd (Qc ?_);refine M0 (Qb J J J) J J ?_;refine M0 (Qb J J J) J J ?_;refine Qe (Q0 (Qd (Qd ?_)))
    refine Qc ?_;refine M0 (Qa J J J) J J ?_;refine M0 (Qr J J J J (by assumption)) J J ?_;refine Qe (Q0 ?_);refine Ql rfl ?_
    refine Qh (Q0 (Qd (Qc ?_)));refine M0 (Qa J J J) J J ?_;refine M0 (Qb J J J) J J ?_
    refine M0 (Qb J J J) J J ?_;refine Qe (Q0 (Xa (F_r ?_)))
    exact E_tmp2 J J J (W_end [] (by decide) J J (tu2 (by rw [dirOf,if_neg hv]) (by omega)))
set_option maxHeartbeats 8000000 in
theorem I_BodiesMeet (a b : TBody) (ha : Placed a) (hb : Placed b) : Con Try.prog 138 [] [ag a,ag b] [] (B (meetM a b)) := by
  have sa := size_pos ha.k
  have sb := size_pos hb.k
  obtain ⟨ax1,ax2⟩ := ha.x
  obtain ⟨ay1,ay2⟩ := ha.y
  obtain ⟨bx1,bx2⟩ := hb.x
  obtain ⟨by1,by2⟩ := hb.y
  have c1 := I_SizeOf a.Kind
  have c2 := I_SizeOf b.Kind
  have f1 : decide (sizeOf a.Kind = 0) = false := decide_eq_false (by omega)
  have f2 : decide (sizeOf b.Kind = 0) = false := decide_eq_false (by omega)
  have x1 : decide (a.X < 0) = false := decide_eq_false (by omega)
  have x2 : decide (1000 < a.X) = false := decide_eq_false (by omega)
  have x3 : decide (a.Y < 0) = false := decide_eq_false (by omega)
  have x4 : decide (1000 < a.Y) = false := decide_eq_false (by omega)
  have x5 : decide (b.X < 0) = false := decide_eq_false (by omega)
  have x6 : decide (1000 < b.X) = false := decide_eq_false (by omega)
  have x7 : decide (b.Y < 0) = false := decide_eq_false (by omega)
  have x8 : decide (1000 < b.Y) = false := decide_eq_false (by omega)
  refine Con.of Try.func138 rfl Try.ntmps138 rfl (fun E => ?_)
  refine Qd (Qc ?_);refine M1 (Qq J J J J) J J ?_;refine M1 (Qq J J J J) J J ?_;refine M0 (Qb J J J) J J ?_
  refine Qe (Q0 (Qd (Qc ?_)));refine M0 (Qf J J J J (by decide)) J J ?_;refine M0 (Qg J J J J J) J J ?_
  refine M0 (Qj J J (c1) rfl) J J ?_;refine M0 (Qb J J J) J J ?_;refine Qe (Q0 (Qd (Qc ?_)))
  refine M0 (Qf J J J J (by decide)) J J ?_;refine M0 (Qg J J J J J) J J ?_;refine M0 (Qj J J (c2) rfl) J J ?_
  refine M0 (Qb J J J) J J ?_;refine Qe (Q0 (Qd (Qd (Qc ?_))));refine M0 (Qa J J J) J J ?_
  refine M0 (Qv J J J J (by assumption)) J J ?_;refine M0 (Qa J J J) J J ?_;refine Qi J J J ?_;refine M0 (Qa J J J) J J ?_
  refine Qi J J J ?_;refine M0 (Qv J J J J (by assumption)) J J ?_;refine M0 (Qn J J J J) J J ?_;refine Qe (Q0 ?_)
  refine Ql rfl ?_;refine Qh (Q0 (Qd (Qd (Qc ?_))));refine M0 (Qf J J J J (by decide)) J J ?_
  refine M0 (Qg J J J J J) J J ?_;refine M0 (Qf J J J J (by decide)) J J ?_;refine M0 (Qg J J J J J) J J ?_
  refine M0 (Qf J J J J (by decide)) J J ?_;refine M0 (Qg J J J J J) J J ?_;refine M0 (Qf J J J J (by decide)) J J ?_
  refine M0 (Qg J J J J J) J J ?_;refine M1 (q_bslice J J J J J J) J J ?_;refine M0 (q_lensb J J J) J J ?_
  refine M0 (Qa J J J) J J ?_;refine Qe (Q0 (Qk ?_))
  refine A_loop (fun m st => ∃ k : Nat,k + m = 4 ∧ (True) ∧ st = (fun k : Nat => (⟨_,[(2,.o (.c (.ptr 0 0))),(3,.o (.c (.ptr 1 0))),(5,I (sizeOf a.Kind)),(6,I (sizeOf b.Kind)),(29,.o (.c (.sb 2 4 1))),(30,I 4),(31,I k)],[.box ((Enc.e a).map (V1.rd [])),.box ((Enc.e b).map (V1.rd [])),.box [jn a.X,jn a.Y,jn b.X,jn b.Y]]⟩ : St)) k) (4) ⟨(fun k : Nat => (⟨_,[(2,.o (.c (.ptr 0 0))),(3,.o (.c (.ptr 1 0))),(5,I (sizeOf a.Kind)),(6,I (sizeOf b.Kind)),(29,.o (.c (.sb 2 4 1))),(30,I 4),(31,I k)],[.box ((Enc.e a).map (V1.rd [])),.box ((Enc.e b).map (V1.rd [])),.box [jn a.X,jn a.Y,jn b.X,jn b.Y]]⟩ : St)) 0,W_go [0,1,2] (by decide) rfl (rfl) (.cons rfl (.cons rfl (.cons rfl (.cons rfl (.cons rfl (.cons rfl (.cons rfl (.nil)))))))),0,by omega,trivial,rfl⟩ ?_
  rintro m_A _ ⟨k,hk_A,hp_A,rfl⟩
  have hk : k = 0 ∨ k = 1 ∨ k = 2 ∨ k = 3 ∨ k = 4 := by omega
  rcases hk with hk | hk | hk | hk | hk
  · subst hk
    refine Qd (Qc ?_);refine M0 (Qr (b := true) J J J J (by decide)) J J ?_;refine Qe (Q0 (Qd ?_));refine Qm rfl ?_;refine Qh ?_
    refine Q0 (Qd (Qk (Qd (Qc ?_))));refine M0 (q_sbat J J J J (by omega)) J J ?_
    refine M0 (Qg J J J J J) J J ?_;refine M0 (Qb J J J) J J ?_;refine Qe (Q0 (Qd (Qc ?_)))
    refine M0 (Qa J J J) J J ?_;refine M0 (Qr J J J J (by assumption)) J J ?_;refine M0 (Qa J J J) J J ?_;refine Qi J J J ?_
    refine M0 (Qa J J J) J J ?_;refine Qi J J J ?_;refine M0 (q_gtrK J J J J (by assumption)) J J ?_;refine M0 (Qn J J J J) J J ?_
    refine Qe (Q0 ?_);refine Ql rfl ?_;refine Qh (Q1 (Q0 (Qc ?_)));refine M0 (Qs J J J J (by omega)) J J ?_
    refine M0 (Qa J J J) J J ?_;refine Qe (Q0 ?_)
    exact ⟨4 - (0 + 1),by omega,(fun k : Nat => (⟨_,[(2,.o (.c (.ptr 0 0))),(3,.o (.c (.ptr 1 0))),(5,I (sizeOf a.Kind)),(6,I (sizeOf b.Kind)),(29,.o (.c (.sb 2 4 1))),(30,I 4),(31,I k)],[.box ((Enc.e a).map (V1.rd [])),.box ((Enc.e b).map (V1.rd [])),.box [jn a.X,jn a.Y,jn b.X,jn b.Y]]⟩ : St)) (0 + 1),W_go [0,1,2] (by decide) rfl (rfl) (.cons rfl (.cons rfl (.cons rfl (.cons rfl (.cons rfl (.cons rfl (.cons rfl (.nil)))))))),0 + 1,by omega,trivial,rfl⟩
  · subst hk
    refine Qd (Qc ?_);refine M0 (Qr (b := true) J J J J (by decide)) J J ?_;refine Qe (Q0 (Qd ?_));refine Qm rfl ?_;refine Qh ?_
    refine Q0 (Qd (Qk (Qd (Qc ?_))));refine M0 (q_sbat J J J J (by omega)) J J ?_
    refine M0 (Qg J J J J J) J J ?_;refine M0 (Qb J J J) J J ?_;refine Qe (Q0 (Qd (Qc ?_)))
    refine M0 (Qa J J J) J J ?_;refine M0 (Qr J J J J (by assumption)) J J ?_;refine M0 (Qa J J J) J J ?_;refine Qi J J J ?_
    refine M0 (Qa J J J) J J ?_;refine Qi J J J ?_;refine M0 (q_gtrK J J J J (by assumption)) J J ?_;refine M0 (Qn J J J J) J J ?_
    refine Qe (Q0 ?_);refine Ql rfl ?_;refine Qh (Q1 (Q0 (Qc ?_)));refine M0 (Qs J J J J (by omega)) J J ?_
    refine M0 (Qa J J J) J J ?_;refine Qe (Q0 ?_)
    exact ⟨4 - (1 + 1),by omega,(fun k : Nat => (⟨_,[(2,.o (.c (.ptr 0 0))),(3,.o (.c (.ptr 1 0))),(5,I (sizeOf a.Kind)),(6,I (sizeOf b.Kind)),(29,.o (.c (.sb 2 4 1))),(30,I 4),(31,I k)],[.box ((Enc.e a).map (V1.rd [])),.box ((Enc.e b).map (V1.rd [])),.box [jn a.X,jn a.Y,jn b.X,jn b.Y]]⟩ : St)) (1 + 1),W_go [0,1,2] (by decide) rfl (rfl) (.cons rfl (.cons rfl (.cons rfl (.cons rfl (.cons rfl (.cons rfl (.cons rfl (.nil)))))))),1 + 1,by omega,trivial,rfl⟩
  · subst hk
    refine Qd (Qc ?_);refine M0 (Qr (b := true) J J J J (by decide)) J J ?_;refine Qe (Q0 (Qd ?_));refine Qm rfl ?_;refine Qh ?_
    refine Q0 (Qd (Qk (Qd (Qc ?_))));refine M0 (q_sbat J J J J (by omega)) J J ?_
    refine M0 (Qg J J J J J) J J ?_;refine M0 (Qb J J J) J J ?_;refine Qe (Q0 (Qd (Qc ?_)))
    refine M0 (Qa J J J) J J ?_;refine M0 (Qr J J J J (by assumption)) J J ?_;refine M0 (Qa J J J) J J ?_;refine Qi J J J ?_
    refine M0 (Qa J J J) J J ?_;refine Qi J J J ?_;refine M0 (q_gtrK J J J J (by assumption)) J J ?_;refine M0 (Qn J J J J) J J ?_
    refine Qe (Q0 ?_);refine Ql rfl ?_;refine Qh (Q1 (Q0 (Qc ?_)));refine M0 (Qs J J J J (by omega)) J J ?_
    refine M0 (Qa J J J) J J ?_;refine Qe (Q0 ?_)
    exact ⟨4 - (2 + 1),by omega,(fun k : Nat => (⟨_,[(2,.o (.c (.ptr 0 0))),(3,.o (.c (.ptr 1 0))),(5,I (sizeOf a.Kind)),(6,I (sizeOf b.Kind)),(29,.o (.c (.sb 2 4 1))),(30,I 4),(31,I k)],[.box ((Enc.e a).map (V1.rd [])),.box ((Enc.e b).map (V1.rd [])),.box [jn a.X,jn a.Y,jn b.X,jn b.Y]]⟩ : St)) (2 + 1),W_go [0,1,2] (by decide) rfl (rfl) (.cons rfl (.cons rfl (.cons rfl (.cons rfl (.cons rfl (.cons rfl (.cons rfl (.nil)))))))),2 + 1,by omega,trivial,rfl⟩
  · subst hk
    refine Qd (Qc ?_);refine M0 (Qr (b := true) J J J J (by decide)) J J ?_;refine Qe (Q0 (Qd ?_));refine Qm rfl ?_;refine Qh ?_
    refine Q0 (Qd (Qk (Qd (Qc ?_))));refine M0 (q_sbat J J J J (by omega)) J J ?_
    refine M0 (Qg J J J J J) J J ?_;refine M0 (Qb J J J) J J ?_;refine Qe (Q0 (Qd (Qc ?_)))
    refine M0 (Qa J J J) J J ?_;refine M0 (Qr J J J J (by assumption)) J J ?_;refine M0 (Qa J J J) J J ?_;refine Qi J J J ?_
    refine M0 (Qa J J J) J J ?_;refine Qi J J J ?_;refine M0 (q_gtrK J J J J (by assumption)) J J ?_;refine M0 (Qn J J J J) J J ?_
    refine Qe (Q0 ?_);refine Ql rfl ?_;refine Qh (Q1 (Q0 (Qc ?_)));refine M0 (Qs J J J J (by omega)) J J ?_
    refine M0 (Qa J J J) J J ?_;refine Qe (Q0 ?_)
    exact ⟨4 - (3 + 1),by omega,(fun k : Nat => (⟨_,[(2,.o (.c (.ptr 0 0))),(3,.o (.c (.ptr 1 0))),(5,I (sizeOf a.Kind)),(6,I (sizeOf b.Kind)),(29,.o (.c (.sb 2 4 1))),(30,I 4),(31,I k)],[.box ((Enc.e a).map (V1.rd [])),.box ((Enc.e b).map (V1.rd [])),.box [jn a.X,jn a.Y,jn b.X,jn b.Y]]⟩ : St)) (3 + 1),W_go [0,1,2] (by decide) rfl (rfl) (.cons rfl (.cons rfl (.cons rfl (.cons rfl (.cons rfl (.cons rfl (.cons rfl (.nil)))))))),3 + 1,by omega,trivial,rfl⟩
  · subst hk
    refine Qd (Qc ?_);refine M0 (Qr (b := false) J J J J (by decide)) J J ?_;refine Qe (Q0 (Qd ?_));refine Ql rfl ?_
    refine Q9 (T_x (T_x (B_xs (Q0 (Qd (Qc ?_))))));refine M0 (Qf J J J J (by decide)) J J ?_
    refine M0 (Qg J J J J J) J J ?_;refine M0 (Qf J J J J (by decide)) J J ?_;refine M0 (Qg J J J J J) J J ?_
    refine M0 (Qa J J J) J J ?_;refine M0 (Qs J J J J (by omega)) J J ?_;refine M0 (q_lss J J J J) J J ?_
    refine M0 (Qa J J J) J J ?_;refine M0 (Qt.grdT J J J .stop (fun hgrd => Qf J J J J (by decide))) J J ?_
    refine M0 (Qt.grdT J J J (.hit .stop) (fun hgrd => Qg J J J J J)) J J ?_
    refine M0 (Qt.grdT J J J (.hit (.hit .stop)) (fun hgrd => Qf J J J J (by decide))) J J ?_
    refine M0 (Qt.grdT J J J (.hit (.hit (.hit .stop))) (fun hgrd => Qg J J J J J)) J J ?_
    refine M0 (Qt.grdT J J J (.hit (.hit (.hit (.hit .stop)))) (fun hgrd => Qa J J J)) J J ?_
    refine M0 (Qt.grdT J J J (.hit (.hit (.hit (.hit (.hit .stop))))) (fun hgrd => Qs J J J J (by omega))) J J ?_
    refine M0 (Qt.grdT J J J (.hit (.hit (.hit (.hit (.hit (.hit .stop)))))) (fun hgrd => q_lss J J J J)) J J ?_;refine M0 (q_and J J J J) J J ?_
    refine M0 (Qa J J J) J J ?_;refine M0 (Qt.grdT J J J .stop (fun hgrd => Qf J J J J (by decide))) J J ?_
    refine M0 (Qt.grdT J J J (.hit .stop) (fun hgrd => Qg J J J J J)) J J ?_
    refine M0 (Qt.grdT J J J (.hit (.hit .stop)) (fun hgrd => Qf J J J J (by decide))) J J ?_
    refine M0 (Qt.grdT J J J (.hit (.hit (.hit .stop))) (fun hgrd => Qg J J J J J)) J J ?_
    refine M0 (Qt.grdT J J J (.hit (.hit (.hit (.hit .stop)))) (fun hgrd => Qa J J J)) J J ?_
    refine M0 (Qt.grdT J J J (.hit (.hit (.hit (.hit (.hit .stop))))) (fun hgrd => Qs J J J J (by omega))) J J ?_
    refine M0 (Qt.grdT J J J (.hit (.hit (.hit (.hit (.hit (.hit .stop)))))) (fun hgrd => q_lss J J J J)) J J ?_;refine M0 (q_and J J J J) J J ?_
    refine M0 (Qa J J J) J J ?_;refine M0 (Qt.grdT J J J .stop (fun hgrd => Qf J J J J (by decide))) J J ?_
    refine M0 (Qt.grdT J J J (.hit .stop) (fun hgrd => Qg J J J J J)) J J ?_
    refine M0 (Qt.grdT J J J (.hit (.hit .stop)) (fun hgrd => Qf J J J J (by decide))) J J ?_
    refine M0 (Qt.grdT J J J (.hit (.hit (.hit .stop))) (fun hgrd => Qg J J J J J)) J J ?_
    refine M0 (Qt.grdT J J J (.hit (.hit (.hit (.hit .stop)))) (fun hgrd => Qa J J J)) J J ?_
    refine M0 (Qt.grdT J J J (.hit (.hit (.hit (.hit (.hit .stop))))) (fun hgrd => Qs J J J J (by omega))) J J ?_
    refine M0 (Qt.grdT J J J (.hit (.hit (.hit (.hit (.hit (.hit .stop)))))) (fun hgrd => q_lss J J J J)) J J ?_;refine M0 (q_and J J J J) J J ?_
    refine M0 (Qb J J J) J J ?_;refine Qe (Q0 (Xa (F_r ?_)))
    exact E_tmp J J (W_end [] (by decide) J J J)
set_option maxHeartbeats 8000000 in
theorem S_BodiesMeet (a b : TBody) (ha : Placed a) (hb : Placed b) : Con Try.prog 139 [] [ag a,ag b] [] (B (meetM a b)) := by
  have sa := size_pos ha.k
  have sb := size_pos hb.k
  obtain ⟨ax1,ax2⟩ := ha.x
  obtain ⟨ay1,ay2⟩ := ha.y
  obtain ⟨bx1,bx2⟩ := hb.x
  obtain ⟨by1,by2⟩ := hb.y
  have c1 := S_SizeOf a.Kind
  have c2 := S_SizeOf b.Kind
  have c3 := S_in a.X 0 1000
  have c4 := S_in a.Y 0 1000
  have c5 := S_in b.X 0 1000
  have c6 := S_in b.Y 0 1000
  rw [inR_iff.2 ha.x] at c3
  rw [inR_iff.2 ha.y] at c4
  rw [inR_iff.2 hb.x] at c5
  rw [inR_iff.2 hb.y] at c6
  have f1 : decide (sizeOf a.Kind = 0) = false := decide_eq_false (by omega)
  have f2 : decide (sizeOf b.Kind = 0) = false := decide_eq_false (by omega)
  refine Con.of Try.func139 rfl Try.ntmps139 rfl (fun E => ?_)
  refine Qd (Qc ?_);refine M1 (Qq J J J J) J J ?_;refine M1 (Qq J J J J) J J ?_;refine M0 (Qb J J J) J J ?_
  refine Qe (Q0 (Qd (Qc ?_)));refine M0 (Qf J J J J (by decide)) J J ?_;refine M0 (Qg J J J J J) J J ?_
  refine M0 (Qj J J (c1) rfl) J J ?_;refine M0 (Qb J J J) J J ?_;refine Qe (Q0 (Qd (Qc ?_)))
  refine M0 (Qf J J J J (by decide)) J J ?_;refine M0 (Qg J J J J J) J J ?_;refine M0 (Qj J J (c2) rfl) J J ?_
  refine M0 (Qb J J J) J J ?_;refine Qe (Q0 (Qd (Qd (Qc ?_))));refine M0 (Qa J J J) J J ?_
  refine M0 (Qv J J J J (by assumption)) J J ?_;refine M0 (Qa J J J) J J ?_;refine Qi J J J ?_;refine M0 (Qa J J J) J J ?_
  refine Qi J J J ?_;refine M0 (Qv J J J J (by assumption)) J J ?_;refine M0 (Qn J J J J) J J ?_;refine M0 (Qa J J J) J J ?_
  refine Qi J J J ?_;refine M0 (Qf J J J J (by decide)) J J ?_;refine Qi J J J ?_;refine M0 (Qg J J J J J) J J ?_
  refine Qi J J J ?_;refine M0 (Qj J J (c3) rfl) J J ?_;refine Qi J J J ?_;refine M0 (Q4 J J J) J J ?_
  refine M0 (Qn J J J J) J J ?_;refine M0 (Qa J J J) J J ?_;refine Qi J J J ?_;refine M0 (Qf J J J J (by decide)) J J ?_
  refine Qi J J J ?_;refine M0 (Qg J J J J J) J J ?_;refine Qi J J J ?_;refine M0 (Qj J J (c4) rfl) J J ?_;refine Qi J J J ?_
  refine M0 (Q4 J J J) J J ?_;refine M0 (Qn J J J J) J J ?_;refine M0 (Qa J J J) J J ?_;refine Qi J J J ?_
  refine M0 (Qf J J J J (by decide)) J J ?_;refine Qi J J J ?_;refine M0 (Qg J J J J J) J J ?_;refine Qi J J J ?_
  refine M0 (Qj J J (c5) rfl) J J ?_;refine Qi J J J ?_;refine M0 (Q4 J J J) J J ?_;refine M0 (Qn J J J J) J J ?_
  refine M0 (Qa J J J) J J ?_;refine Qi J J J ?_;refine M0 (Qf J J J J (by decide)) J J ?_;refine Qi J J J ?_
  refine M0 (Qg J J J J J) J J ?_;refine Qi J J J ?_;refine M0 (Qj J J (c6) rfl) J J ?_;refine Qi J J J ?_
  refine M0 (Q4 J J J) J J ?_;refine M0 (Qn J J J J) J J ?_;refine Qe (Q0 ?_);refine Ql rfl ?_;refine Qh (Q0 (Qd ?_))
  refine Qc ?_;refine M0 (Qf J J J J (by decide)) J J ?_;refine M0 (Qg J J J J J) J J ?_;refine M0 (Qf J J J J (by decide)) J J ?_
  refine M0 (Qg J J J J J) J J ?_;refine M0 (Qa J J J) J J ?_;refine M0 (Qs J J J J (by omega)) J J ?_
  refine M0 (q_lss J J J J) J J ?_;refine M0 (Qa J J J) J J ?_
  refine M0 (Qt.grdT J J J .stop (fun hgrd => Qf J J J J (by decide))) J J ?_
  refine M0 (Qt.grdT J J J (.hit .stop) (fun hgrd => Qg J J J J J)) J J ?_
  refine M0 (Qt.grdT J J J (.hit (.hit .stop)) (fun hgrd => Qf J J J J (by decide))) J J ?_
  refine M0 (Qt.grdT J J J (.hit (.hit (.hit .stop))) (fun hgrd => Qg J J J J J)) J J ?_
  refine M0 (Qt.grdT J J J (.hit (.hit (.hit (.hit .stop)))) (fun hgrd => Qa J J J)) J J ?_
  refine M0 (Qt.grdT J J J (.hit (.hit (.hit (.hit (.hit .stop))))) (fun hgrd => Qs J J J J (by omega))) J J ?_
  refine M0 (Qt.grdT J J J (.hit (.hit (.hit (.hit (.hit (.hit .stop)))))) (fun hgrd => q_lss J J J J)) J J ?_;refine M0 (q_and J J J J) J J ?_
  refine M0 (Qa J J J) J J ?_;refine M0 (Qt.grdT J J J .stop (fun hgrd => Qf J J J J (by decide))) J J ?_
  refine M0 (Qt.grdT J J J (.hit .stop) (fun hgrd => Qg J J J J J)) J J ?_
  refine M0 (Qt.grdT J J J (.hit (.hit .stop)) (fun hgrd => Qf J J J J (by decide))) J J ?_
  refine M0 (Qt.grdT J J J (.hit (.hit (.hit .stop))) (fun hgrd => Qg J J J J J)) J J ?_
  refine M0 (Qt.grdT J J J (.hit (.hit (.hit (.hit .stop)))) (fun hgrd => Qa J J J)) J J ?_
  refine M0 (Qt.grdT J J J (.hit (.hit (.hit (.hit (.hit .stop))))) (fun hgrd => Qs J J J J (by omega))) J J ?_
  refine M0 (Qt.grdT J J J (.hit (.hit (.hit (.hit (.hit (.hit .stop)))))) (fun hgrd => q_lss J J J J)) J J ?_;refine M0 (q_and J J J J) J J ?_
  refine M0 (Qa J J J) J J ?_;refine M0 (Qt.grdT J J J .stop (fun hgrd => Qf J J J J (by decide))) J J ?_
  refine M0 (Qt.grdT J J J (.hit .stop) (fun hgrd => Qg J J J J J)) J J ?_
  refine M0 (Qt.grdT J J J (.hit (.hit .stop)) (fun hgrd => Qf J J J J (by decide))) J J ?_
  refine M0 (Qt.grdT J J J (.hit (.hit (.hit .stop))) (fun hgrd => Qg J J J J J)) J J ?_
  refine M0 (Qt.grdT J J J (.hit (.hit (.hit (.hit .stop)))) (fun hgrd => Qa J J J)) J J ?_
  refine M0 (Qt.grdT J J J (.hit (.hit (.hit (.hit (.hit .stop))))) (fun hgrd => Qs J J J J (by omega))) J J ?_
  refine M0 (Qt.grdT J J J (.hit (.hit (.hit (.hit (.hit (.hit .stop)))))) (fun hgrd => q_lss J J J J)) J J ?_;refine M0 (q_and J J J J) J J ?_
  refine M0 (Qb J J J) J J ?_;refine Qe (Q0 (Xa (F_r ?_)))
  exact E_tmp J J (W_end [] (by decide) J J J)
end Go.Proofs.Ytmljakmaffbnlaa
end

section
set_option linter.unusedSimpArgs false
set_option linter.unusedVariables false
set_option maxRecDepth 8000
namespace Go.Proofs.Ytmljakmaffbnlaa
open Go.RowKit

theorem place_rng {l : TLevel} {x y s : Int} (hl : levelOk l = true) (h1 : 1 ≤ s ∧ s ≤ 16) (h : solidM l x y s = false) : (0 ≤ x ∧ x ≤ 400) ∧ (0 ≤ y ∧ y ≤ 400) := by
  obtain ⟨l3,l12,w,w4,w20,hw⟩ := level_facts hl
  have hn : ¬ hits l x y s := fun hh => by rw [solidM_T hh] at h; cases h
  have : ¬ (x < 0 ∨ y < 0 ∨ (w : Int) * 16 - s < x ∨ (l.Rows.length : Int) * 16 - s < y) := fun q => hn (out_hits hw h1.1 q)
  omega
theorem solidAt_eq {l : TLevel} {x y s : Int} (hl : levelOk l = true) (h1 : 1 ≤ s ∧ s ≤ 16) : solidAt l x y s = solidM l x y s := by
  rw [solidAt,inR_iff.2 h1,hl]; rfl
theorem steer_and {i : Int} {k m : Int} (h : (pressed i k && decide (((i.toNat &&& m.toNat : Nat) : Int) = 0)) = true) : (pressed i k && !pressed i m) = true := by
  simp only [Bool.and_eq_true,decide_eq_true_eq,Bool.not_eq_true'] at h ⊢
  exact ⟨h.1,decide_eq_false (fun q => q h.2)⟩
theorem steer_no {i : Int} {k m : Int} (h : (pressed i k && decide (((i.toNat &&& m.toNat : Nat) : Int) = 0)) = false) : (pressed i k && !pressed i m) = false := by
  rw [← Bool.not_eq_true] at h ⊢
  intro q
  simp only [Bool.and_eq_true,decide_eq_true_eq,Bool.not_eq_true',pressed,decide_eq_false_iff_not,Classical.not_not] at h q
  exact h q
@[reducible] def stB (K O X Y VX VY A L T : Int) : List V1 := [jn K,jn O,jn X,jn Y,jn VX,jn VY,jn A,jn L,jn T]
set_option maxHeartbeats 8000000 in
theorem I_SteerPlayer (l : TLevel) (b : TBody) (i : Int) (hg : Enc.gd l) (hl : levelOk l = true) (gb : Enc.gd b) (hk : b.Kind = 0) (ho : 0 ≤ b.Owner ∧ b.Owner ≤ 3) (hf : 1 ≤ b.Life) (hi : 0 ≤ i ∧ i ≤ 15) (hb : bodyM l (b.Owner + 1) b = true) (ht : 0 ≤ b.Timer ∧ b.Timer ≤ 20) (hv : -15 ≤ b.VY ∧ b.VY ≤ 15) (hp : solidM l b.X b.Y 12 = false) : Con Try.prog 129 [] [ag l,ag b,ai i] [] (.tu [.ag ((Enc.e (steer l b i).1).map (V1.rd [])),.c (bv (steer l b i).2)]) := by
  obtain ⟨⟨px1,px2⟩,⟨py1,py2⟩⟩ := place_rng hl (by decide) hp
  have c1 := I_LevelOk l hg
  have c2 := I_between b.Owner 0 3
  have c3 := I_between i 0 15
  have c4 := I_BodyOk l (b.Owner + 1) b hg gb (by omega)
  rw [hl] at c1
  rw [inR_iff.2 ho] at c2
  rw [inR_iff.2 hi] at c3
  rw [hl,hb] at c4
  have f1 : decide (b.Kind ≠ 0) = false := decide_eq_false (fun q => q hk)
  have f2 : decide (b.Life < 1) = false := decide_eq_false (by omega)
  have cs := I_SolidAt l b.X (b.Y + 1) 12 hg ⟨by omega,by omega⟩ ⟨by omega,by omega⟩
  rw [solidAt_eq hl (by decide)] at cs
  have cz : Con Try.prog 119 [] [ai 0] [] (I 12) := I_SizeOf 0
  obtain ⟨T,hT⟩ : ∃ T,T = (if 0 < b.Timer then b.Timer - 1 else b.Timer) := ⟨_,rfl⟩
  have hT1 : 0 ≤ T ∧ T ≤ 20 := by rw [hT]; split <;> omega
  obtain ⟨R,hR⟩ : ∃ R,R = (pressed i 2 && !pressed i 1) := ⟨_,rfl⟩
  obtain ⟨Lf,hLf⟩ : ∃ Lf,Lf = (pressed i 1 && !pressed i 2) := ⟨_,rfl⟩
  rw [steer,← hT,← hR,← hLf]
  refine Con.of Try.func129 rfl Try.ntmps129 rfl (fun E => ?_)
  refine Qd (Qc ?_);refine M1 (Qq J J J J) J J ?_;refine M1 (Qq J J J J) J J ?_;refine M1 (Qx J J J) J J ?_
  refine M0 (Qb J J J) J J ?_;refine Qe (Q0 (Qd (Qd (Qc ?_))));refine M0 (Qu J J J J J J) J J ?_
  refine M0 (Qj J J (c1) rfl) J J ?_;refine M0 (Q4 J J J) J J ?_;refine M0 (Qa J J J) J J ?_;refine Qi J J J ?_
  refine M0 (Qf J J J J (by decide)) J J ?_;refine Qi J J J ?_;refine M0 (Qg J J J J J) J J ?_;refine Qi J J J ?_
  refine M0 (Qw J J J J (by assumption)) J J ?_;refine M0 (Qn J J J J) J J ?_;refine M0 (Qa J J J) J J ?_;refine Qi J J J ?_
  refine M0 (Qf J J J J (by decide)) J J ?_;refine Qi J J J ?_;refine M0 (Qg J J J J J) J J ?_;refine Qi J J J ?_
  refine M0 (Qr J J J J (by assumption)) J J ?_;refine M0 (Qn J J J J) J J ?_;refine M0 (Qa J J J) J J ?_;refine Qi J J J ?_
  refine M0 (Qf J J J J (by decide)) J J ?_;refine Qi J J J ?_;refine M0 (Qg J J J J J) J J ?_;refine Qi J J J ?_
  refine M0 (Qj J J (c2) rfl) J J ?_;refine Qi J J J ?_;refine M0 (Q4 J J J) J J ?_;refine M0 (Qn J J J J) J J ?_;refine Qe ?_
  refine Q0 ?_;refine Ql rfl ?_;refine Qh (Q0 (Qd (Qd (Qc ?_))));refine M0 (Qa J J J) J J ?_
  refine M0 (Qj J J (c3) rfl) J J ?_;refine M0 (Q4 J J J) J J ?_;refine M0 (Qa J J J) J J ?_;refine Qi J J J ?_
  refine M0 (Qu J J J J J J) J J ?_;refine Qi J J J ?_;refine M0 (Qf J J J J (by decide)) J J ?_;refine Qi J J J ?_
  refine M0 (Qg J J J J J) J J ?_;refine Qi J J J ?_;refine M0 (Qs J J J J (by omega)) J J ?_;refine Qi J J J ?_
  refine M0 (Qu J J J J J J) J J ?_;refine Qi J J J ?_;refine M0 (Qj J J (c4) rfl) J J ?_;refine Qi J J J ?_
  refine M0 (Q4 J J J) J J ?_;refine M0 (Qn J J J J) J J ?_;refine Qe (Q0 ?_);refine Ql rfl ?_;refine Qh (Q0 (Qd ?_))
  refine Qd (Qc ?_);refine M0 (Qf J J J J (by decide)) J J ?_;refine M0 (Qg J J J J J) J J ?_
  refine M0 (q_gtr J J J J) J J ?_;refine Qe (Q0 ?_)
  refine A_join (⟨101,[(2,I i),(3,.o (.c (.ptr 0 0))),(4,.o (.c (.ptr 1 0))),(6,.o (.c (.ptr 2 0)))],[.box ((Enc.e l).map (V1.rd [])),.box (stB b.Kind b.Owner b.X b.Y b.VX b.VY b.Aim b.Life T),.box (stB 0 0 0 0 0 0 0 0 0)]⟩ : St) ?_ ?_
  · refine Xb rfl (fun h => ?_) (fun h => ?_)
    · have h := of_decide_eq_true h
      have hT2 : b.Timer - 1 = T := by rw [hT,if_pos h]
      refine Qc ?_;refine M0 (Qf J J J J (by decide)) J J ?_;refine M0 (Qg J J J J J) J J ?_;refine M0 (Xc J J J J (by omega)) J J ?_
      refine M0 (Qf J J J J (by decide)) J J ?_;refine Q5 J J J J J J J J ?_;refine Qe ?_
      exact Mid.n (W_go [0,1,2] (by decide) rfl ((by rw [← hT2]; rfl)) (.cons rfl (.cons rfl (.cons rfl (.cons rfl (.nil))))))
    · have h := of_decide_eq_false h
      have hT2 : b.Timer = T := by rw [hT,if_neg h]
      refine Qh ?_
      exact Mid.n (W_go [0,1,2] (by decide) rfl ((by rw [← hT2]; rfl)) (.cons rfl (.cons rfl (.cons rfl (.cons rfl (.nil))))))
  refine Qd (Qc ?_);refine M0 (Qa J J J) J J ?_;refine M0 (q_band J J J J (by omega)) J J ?_;refine M0 (q_neq J J J J) J J ?_
  refine M0 (Qb J J J) J J ?_;refine Qe (Q0 (Qd (Qc ?_)));refine M0 (Qa J J J) J J ?_
  refine M0 (q_band J J J J (by omega)) J J ?_;refine M0 (q_neq J J J J) J J ?_;refine M0 (Qb J J J) J J ?_;refine Qe (Q0 ?_)
  refine Qd (Qc ?_);refine M0 (Qf J J J J (by decide)) J J ?_;refine Q5 J J J J J J J J ?_;refine Qe (Q0 (Qd ?_))
  refine Qd (Qc ?_);refine M0 (Qa J J J) J J ?_;refine M0 (Qa J J J) J J ?_
  refine M0 (Qt.grdT J J J .stop (fun hgrd => Qa J J J)) J J ?_;refine M0 (Qt.grdT J J J (.hit .stop) (fun hgrd => Q4 J J J)) J J ?_
  refine M0 (q_and J J J J) J J ?_;refine Qe (Q0 ?_)
  refine A_join (⟨101,[(2,I i),(3,.o (.c (.ptr 0 0))),(4,.o (.c (.ptr 1 0))),(6,.o (.c (.ptr 2 0))),(8,B (pressed i 1)),(9,B (pressed i 2))],[.box ((Enc.e l).map (V1.rd [])),.box (stB b.Kind b.Owner b.X b.Y (if R = true then 3 else 0) b.VY (if R = true then 1 else b.Aim) b.Life T),.box (stB 0 0 0 0 0 0 0 0 0)]⟩ : St) ?_ ?_
  · refine Xb rfl (fun h => ?_) (fun h => ?_)
    · have h2 : R = true := by rw [hR]; exact h
      refine Qd (Qc ?_);refine M0 (Qf J J J J (by decide)) J J ?_;refine Q5 J J J J J J J J ?_;refine Qe (Q0 ?_)
      refine Qc ?_;refine M0 (Qf J J J J (by decide)) J J ?_;refine Q5 J J J J J J J J ?_;refine Qe ?_
      exact Mid.n (W_go [0,1,2] (by decide) rfl ((by rw [if_pos h2,if_pos h2]; rfl)) (.cons rfl (.cons rfl (.cons rfl (.cons rfl (.cons rfl (.cons rfl (.nil))))))))
    · have h2 : ¬ R = true := by rw [hR]; intro q; exact Bool.false_ne_true (Eq.trans (h).symm q)
      refine Qh ?_
      exact Mid.n (W_go [0,1,2] (by decide) rfl ((by rw [if_neg h2,if_neg h2]; rfl)) (.cons rfl (.cons rfl (.cons rfl (.cons rfl (.cons rfl (.cons rfl (.nil))))))))
  refine Qd (Qd (Qc ?_));refine M0 (Qa J J J) J J ?_;refine M0 (Qa J J J) J J ?_
  refine M0 (Qt.grdT J J J .stop (fun hgrd => Qa J J J)) J J ?_;refine M0 (Qt.grdT J J J (.hit .stop) (fun hgrd => Q4 J J J)) J J ?_
  refine M0 (q_and J J J J) J J ?_;refine Qe (Q0 ?_)
  refine A_join (⟨101,[(2,I i),(3,.o (.c (.ptr 0 0))),(4,.o (.c (.ptr 1 0))),(6,.o (.c (.ptr 2 0))),(8,B (pressed i 1)),(9,B (pressed i 2))],[.box ((Enc.e l).map (V1.rd [])),.box (stB b.Kind b.Owner b.X b.Y (if Lf = true then -3 else if R = true then 3 else 0) b.VY (if Lf = true then -1 else if R = true then 1 else b.Aim) b.Life T),.box (stB 0 0 0 0 0 0 0 0 0)]⟩ : St) ?_ ?_
  · refine Xb rfl (fun h => ?_) (fun h => ?_)
    · have h2 : Lf = true := by rw [hLf]; exact h
      refine Qd (Qc ?_);refine M0 (Qf J J J J (by decide)) J J ?_;refine Q5 J J J J J J J J ?_;refine Qe (Q0 ?_)
      refine Qc ?_;refine M0 (Qf J J J J (by decide)) J J ?_;refine Q5 J J J J J J J J ?_;refine Qe ?_
      exact Mid.n (W_go [0,1,2] (by decide) rfl ((by rw [if_pos h2,if_pos h2]; rfl)) (.cons rfl (.cons rfl (.cons rfl (.cons rfl (.cons rfl (.cons rfl (.nil))))))))
    · have h2 : ¬ Lf = true := by rw [hLf]; intro q; exact Bool.false_ne_true (Eq.trans (h).symm q)
      refine Qh ?_
      exact Mid.n (W_go [0,1,2] (by decide) rfl ((by rw [if_neg h2,if_neg h2]; rfl)) (.cons rfl (.cons rfl (.cons rfl (.cons rfl (.cons rfl (.cons rfl (.nil))))))))
  obtain ⟨vx,hvx⟩ : ∃ vx,vx = (if Lf = true then -3 else if R = true then 3 else 0) := ⟨_,rfl⟩
  obtain ⟨am,ham⟩ : ∃ am,am = (if Lf = true then -1 else if R = true then 1 else b.Aim) := ⟨_,rfl⟩
  rw [← hvx,← ham]
  obtain ⟨Fi,hFi⟩ : ∃ Fi,Fi = (pressed i 8 && decide (T = 0)) := ⟨_,rfl⟩
  rw [← hFi]
  by_cases hJ : pressed i 4 = true
  · have fJ : decide (((i.toNat &&& (4 : Int).toNat : Nat) : Int) ≠ 0) = true := hJ
    cases hs : solidM l b.X (b.Y + 1) 12 with
    | true =>
      rw [hs] at cs
      rw [hJ]
      refine Qd (Qd ?_)
      refine A_draw [[],[0],[0,1],[0,1,2],[0,1,2,3],[0,1,2,3],[0,1,2,3,5],[0,1,2,3],[0,1,2,3,7],[0,1,2,3,7,8],[0,1,2,3],[0,1,2,3,4,5,6,7,8,9,10],[0,1,2,3,4,5,6,7,8,9,10,11]] [[],[71],[71,72],[71,72,73],[71,72,73,74],[71,72,73,74],[71,72,73,74,76],[71,72,73,74],[71,72,73,74,78],[71,72,73,74,78,79],[71,72,73,74],[71,72,73,74,75,76,77,78,79,80,81],[71,72,73,74,75,76,77,78,79,80,81,82]] [[],[],[],[],[76,77,78,79,80,81],[75,78,79,80,81],[75,78,79,80,81],[75,76,77,81],[75,76,77,81],[75,76,77,81],[75,76,77,78,79,80],[],[]] rfl ?_
      refine DR.step (Qa J J J) J J ?_;refine DR.step (q_band J J J J (by omega)) J J ?_;refine DR.step (Qw J J J J (by assumption)) J J ?_
      refine DR.step (Qa J J J) J J ?_;refine DR.step (Qt.yes J J J (Qu J J J J J J)) J J ?_
      refine DR.step (Qt.yes J J J (Qf J J J J (by decide))) J J ?_;refine DR.step (Qt.yes J J J (Qg J J J J J)) J J ?_
      refine DR.step (Qt.yes J J J (Qf J J J J (by decide))) J J ?_;refine DR.step (Qt.yes J J J (Qg J J J J J)) J J ?_
      refine DR.step (Qt.yes J J J (Qs J J J J (by omega))) J J ?_;refine DR.step (Qt.yes J J J (Qj J J (cz) rfl)) J J ?_
      refine DR.step (Qt.yes J J J (Qj J J (cs) rfl)) J J ?_;refine DR.step (Qo J J J J) J J ?_;refine DR.stop (by kernel_rfl) (by kernel_rfl) ?_
      refine Qe (Q0 ?_);refine Qm rfl ?_;refine Qc ?_;refine M0 (Qf J J J J (by decide)) J J ?_;refine Q5 J J J J J J J J ?_
      refine Qe (Q0 (Qd (Qd (Qc ?_))));refine M0 (Qa J J J) J J ?_;refine M0 (q_band J J J J (by omega)) J J ?_
      refine M0 (q_neq J J J J) J J ?_;refine M0 (Qa J J J) J J ?_
      refine M0 (Qt.grdT J J J .stop (fun hgrd => Qf J J J J (by decide))) J J ?_
      refine M0 (Qt.grdT J J J (.hit .stop) (fun hgrd => Qg J J J J J)) J J ?_
      refine M0 (Qt.grdT J J J (.hit (.hit .stop)) (fun hgrd => q_eql J J J J)) J J ?_;refine M0 (q_and J J J J) J J ?_;refine Qe (Q0 ?_)
      refine Xb rfl (fun h => ?_) (fun h => ?_)
      · have h2 : Fi = true := by rw [hFi]; exact h
        rw [h2]
        refine Qd (Qc ?_);refine M0 (Qf J J J J (by decide)) J J ?_;refine Q5 J J J J J J J J ?_;refine Qe (Q0 (Qd ?_))
        refine Qc ?_;refine M0 (Qu J J J J J J) J J ?_;refine Qy J J J J J J J J J ?_;refine M0 (Qb J J J) J J ?_;refine Qe ?_
        refine Q0 (Xa (T_r (F_r ?_)))
        exact E_cellt J J J J J (W_end [] (by decide) J J J)
      · have h2 : Fi = false := by rw [hFi]; exact h
        rw [h2]
        refine Qh (Q0 (Qd (Qc ?_)));refine M0 (Qu J J J J J J) J J ?_;refine Qy J J J J J J J J J ?_
        refine M0 (Qb J J J) J J ?_;refine Qe (Q0 (Xa (F_r ?_)))
        exact E_cellt J J J J J (W_end [] (by decide) J J J)
    | false =>
      rw [hs] at cs
      rw [hJ]
      refine Qd (Qd ?_)
      refine A_draw [[],[0],[0,1],[0,1,2],[0,1,2,3],[0,1,2,3],[0,1,2,3,5],[0,1,2,3],[0,1,2,3,7],[0,1,2,3,7,8],[0,1,2,3],[0,1,2,3,4,5,6,7,8,9,10],[0,1,2,3,4,5,6,7,8,9,10,11]] [[],[71],[71,72],[71,72,73],[71,72,73,74],[71,72,73,74],[71,72,73,74,76],[71,72,73,74],[71,72,73,74,78],[71,72,73,74,78,79],[71,72,73,74],[71,72,73,74,75,76,77,78,79,80,81],[71,72,73,74,75,76,77,78,79,80,81,82]] [[],[],[],[],[76,77,78,79,80,81],[75,78,79,80,81],[75,78,79,80,81],[75,76,77,81],[75,76,77,81],[75,76,77,81],[75,76,77,78,79,80],[],[]] rfl ?_
      refine DR.step (Qa J J J) J J ?_;refine DR.step (q_band J J J J (by omega)) J J ?_;refine DR.step (Qw J J J J (by assumption)) J J ?_
      refine DR.step (Qa J J J) J J ?_;refine DR.step (Qt.yes J J J (Qu J J J J J J)) J J ?_
      refine DR.step (Qt.yes J J J (Qf J J J J (by decide))) J J ?_;refine DR.step (Qt.yes J J J (Qg J J J J J)) J J ?_
      refine DR.step (Qt.yes J J J (Qf J J J J (by decide))) J J ?_;refine DR.step (Qt.yes J J J (Qg J J J J J)) J J ?_
      refine DR.step (Qt.yes J J J (Qs J J J J (by omega))) J J ?_;refine DR.step (Qt.yes J J J (Qj J J (cz) rfl)) J J ?_
      refine DR.step (Qt.yes J J J (Qj J J (cs) rfl)) J J ?_;refine DR.step (Qo J J J J) J J ?_;refine DR.stop (by kernel_rfl) (by kernel_rfl) ?_
      refine Qe (Q0 ?_);refine Ql rfl ?_;refine Qc ?_;refine M0 (Qf J J J J (by decide)) J J ?_;refine M0 (Qg J J J J J) J J ?_
      refine M0 (Qs J J J J (by omega)) J J ?_;refine M0 (q_min J J J J) J J ?_;refine M0 (Qf J J J J (by decide)) J J ?_
      refine Q5 J J J J J J J J ?_;refine Qe (Q0 (Qd (Qd (Qc ?_))));refine M0 (Qa J J J) J J ?_
      refine M0 (q_band J J J J (by omega)) J J ?_;refine M0 (q_neq J J J J) J J ?_;refine M0 (Qa J J J) J J ?_
      refine M0 (Qt.grdT J J J .stop (fun hgrd => Qf J J J J (by decide))) J J ?_
      refine M0 (Qt.grdT J J J (.hit .stop) (fun hgrd => Qg J J J J J)) J J ?_
      refine M0 (Qt.grdT J J J (.hit (.hit .stop)) (fun hgrd => q_eql J J J J)) J J ?_;refine M0 (q_and J J J J) J J ?_;refine Qe (Q0 ?_)
      refine Xb rfl (fun h => ?_) (fun h => ?_)
      · have h2 : Fi = true := by rw [hFi]; exact h
        rw [h2]
        refine Qd (Qc ?_);refine M0 (Qf J J J J (by decide)) J J ?_;refine Q5 J J J J J J J J ?_;refine Qe (Q0 (Qd ?_))
        refine Qc ?_;refine M0 (Qu J J J J J J) J J ?_;refine Qy J J J J J J J J J ?_;refine M0 (Qb J J J) J J ?_;refine Qe ?_
        refine Q0 (Xa (T_r (F_r ?_)))
        exact E_cellt J J J J J (W_end [] (by decide) J J J)
      · have h2 : Fi = false := by rw [hFi]; exact h
        rw [h2]
        refine Qh (Q0 (Qd (Qc ?_)));refine M0 (Qu J J J J J J) J J ?_;refine Qy J J J J J J J J J ?_
        refine M0 (Qb J J J) J J ?_;refine Qe (Q0 (Xa (F_r ?_)))
        exact E_cellt J J J J J (W_end [] (by decide) J J J)
  · have fJ : decide (((i.toNat &&& (4 : Int).toNat : Nat) : Int) ≠ 0) = false := by simpa [pressed] using hJ
    rw [show pressed i 4 = false by simpa using hJ]
    refine Qd (Qd ?_)
    refine A_draw [[],[0],[0,1],[0,1,2],[0,1,2,3],[0,1,2,3],[0,1,2,3,5],[0,1,2,3],[0,1,2,3,7],[0,1,2,3,7,8],[0,1,2,3],[0,1,2,3,4,5,6,7,8,9,10],[0,1,2,3,4,5,6,7,8,9,10,11]] [[],[71],[71,72],[71,72,73],[71,72,73,74],[71,72,73,74],[71,72,73,74,76],[71,72,73,74],[71,72,73,74,78],[71,72,73,74,78,79],[71,72,73,74],[71,72,73,74,75,76,77,78,79,80,81],[71,72,73,74,75,76,77,78,79,80,81,82]] [[],[],[],[],[76,77,78,79,80,81],[75,78,79,80,81],[75,78,79,80,81],[75,76,77,81],[75,76,77,81],[75,76,77,81],[75,76,77,78,79,80],[],[]] rfl ?_
    refine DR.step (Qa J J J) J J ?_;refine DR.step (q_band J J J J (by omega)) J J ?_;refine DR.step (Qw J J J J (by assumption)) J J ?_
    refine DR.step (Qa J J J) J J ?_;refine DR.step (Qt.no J J J J) J J ?_;refine DR.step (Qt.no J J J J) J J ?_
    refine DR.step (Qt.no J J J J) J J ?_;refine DR.step (Qt.no J J J J) J J ?_;refine DR.step (Qt.no J J J J) J J ?_
    refine DR.step (Qt.no J J J J) J J ?_;refine DR.step (Qt.no J J J J) J J ?_;refine DR.step (Qt.no J J J J) J J ?_
    refine DR.step (Qn J J J J) J J ?_;refine DR.stop (by kernel_rfl) (by kernel_rfl) ?_
    refine Qe (Q0 ?_);refine Ql rfl ?_;refine Qc ?_;refine M0 (Qf J J J J (by decide)) J J ?_;refine M0 (Qg J J J J J) J J ?_
    refine M0 (Qs J J J J (by omega)) J J ?_;refine M0 (q_min J J J J) J J ?_;refine M0 (Qf J J J J (by decide)) J J ?_
    refine Q5 J J J J J J J J ?_;refine Qe (Q0 (Qd (Qd (Qc ?_))));refine M0 (Qa J J J) J J ?_
    refine M0 (q_band J J J J (by omega)) J J ?_;refine M0 (q_neq J J J J) J J ?_;refine M0 (Qa J J J) J J ?_
    refine M0 (Qt.grdT J J J .stop (fun hgrd => Qf J J J J (by decide))) J J ?_
    refine M0 (Qt.grdT J J J (.hit .stop) (fun hgrd => Qg J J J J J)) J J ?_
    refine M0 (Qt.grdT J J J (.hit (.hit .stop)) (fun hgrd => q_eql J J J J)) J J ?_;refine M0 (q_and J J J J) J J ?_;refine Qe (Q0 ?_)
    refine Xb rfl (fun h => ?_) (fun h => ?_)
    · have h2 : Fi = true := by rw [hFi]; exact h
      rw [h2]
      refine Qd (Qc ?_);refine M0 (Qf J J J J (by decide)) J J ?_;refine Q5 J J J J J J J J ?_;refine Qe (Q0 (Qd ?_))
      refine Qc ?_;refine M0 (Qu J J J J J J) J J ?_;refine Qy J J J J J J J J J ?_;refine M0 (Qb J J J) J J ?_;refine Qe ?_
      refine Q0 (Xa (T_r (F_r ?_)))
      exact E_cellt J J J J J (W_end [] (by decide) J J J)
    · have h2 : Fi = false := by rw [hFi]; exact h
      rw [h2]
      refine Qh (Q0 (Qd (Qc ?_)));refine M0 (Qu J J J J J J) J J ?_;refine Qy J J J J J J J J J ?_
      refine M0 (Qb J J J) J J ?_;refine Qe (Q0 (Xa (F_r ?_)))
      exact E_cellt J J J J J (W_end [] (by decide) J J J)
set_option maxHeartbeats 8000000 in
theorem S_l02Steer (l : TLevel) (b : TBody) (i : Int) (hg : Enc.gd l) (hl : levelOk l = true) (hk : b.Kind = 0) (hi : 0 ≤ i ∧ i ≤ 15) (ht : 0 ≤ b.Timer ∧ b.Timer ≤ 20) (hv : -15 ≤ b.VY ∧ b.VY ≤ 15) (hp : solidM l b.X b.Y 12 = false) : Con Try.prog 122 [] [ag l,ag b,ai i] [] (.tu [.ag ((Enc.e (steer l b i).1).map (V1.rd [])),.c (bv (steer l b i).2)]) := by
  obtain ⟨⟨px1,px2⟩,⟨py1,py2⟩⟩ := place_rng hl (by decide) hp
  have cs := S_l02Solid l b.X (b.Y + 1) 12 hl ⟨by omega,by omega⟩ ⟨by omega,by omega⟩ (by decide) (by decide)
  have cz : Con Try.prog 116 [] [ai b.Kind] [] (I 12) := by rw [hk]; exact S_SizeOf 0
  obtain ⟨T,hT⟩ : ∃ T,T = (if 0 < b.Timer then b.Timer - 1 else b.Timer) := ⟨_,rfl⟩
  have hT1 : 0 ≤ T ∧ T ≤ 20 := by rw [hT]; split <;> omega
  obtain ⟨R,hR⟩ : ∃ R,R = (pressed i 2 && !pressed i 1) := ⟨_,rfl⟩
  obtain ⟨Lf,hLf⟩ : ∃ Lf,Lf = (pressed i 1 && !pressed i 2) := ⟨_,rfl⟩
  rw [steer,← hT,← hR,← hLf]
  refine Con.of Try.func122 rfl Try.ntmps122 rfl (fun E => ?_)
  refine Qd (Qc ?_);refine M1 (Qq J J J J) J J ?_;refine M1 (Qq J J J J) J J ?_;refine M1 (Qx J J J) J J ?_
  refine M0 (Qb J J J) J J ?_;refine Qe (Q0 (Qd (Qd (Qc ?_))));refine M0 (Qf J J J J (by decide)) J J ?_
  refine M0 (Qg J J J J J) J J ?_;refine M0 (q_gtr J J J J) J J ?_;refine Qe (Q0 ?_)
  refine A_join (⟨68,[(2,I i),(3,.o (.c (.ptr 0 0))),(4,.o (.c (.ptr 1 0))),(6,.o (.c (.ptr 2 0)))],[.box ((Enc.e l).map (V1.rd [])),.box (stB b.Kind b.Owner b.X b.Y b.VX b.VY b.Aim b.Life T),.box (stB 0 0 0 0 0 0 0 0 0)]⟩ : St) ?_ ?_
  · refine Xb rfl (fun h => ?_) (fun h => ?_)
    · have h := of_decide_eq_true h
      have hT2 : b.Timer - 1 = T := by rw [hT,if_pos h]
      refine Qc ?_;refine M0 (Qf J J J J (by decide)) J J ?_;refine M0 (Qg J J J J J) J J ?_;refine M0 (Xc J J J J (by omega)) J J ?_
      refine M0 (Qf J J J J (by decide)) J J ?_;refine Q5 J J J J J J J J ?_;refine Qe ?_
      exact Mid.n (W_go [0,1,2] (by decide) rfl ((by rw [← hT2]; rfl)) (.cons rfl (.cons rfl (.cons rfl (.cons rfl (.nil))))))
    · have h := of_decide_eq_false h
      have hT2 : b.Timer = T := by rw [hT,if_neg h]
      refine Qh ?_
      exact Mid.n (W_go [0,1,2] (by decide) rfl ((by rw [← hT2]; rfl)) (.cons rfl (.cons rfl (.cons rfl (.cons rfl (.nil))))))
  refine Qd (Qc ?_);refine M0 (Qf J J J J (by decide)) J J ?_;refine Q5 J J J J J J J J ?_;refine Qe (Q0 (Qd ?_))
  refine Qd (Qc ?_);refine M0 (Qa J J J) J J ?_;refine M0 (q_band J J J J (by omega)) J J ?_;refine M0 (q_neq J J J J) J J ?_
  refine M0 (Qa J J J) J J ?_;refine M0 (Qt.grdT J J J .stop (fun hgrd => Qa J J J)) J J ?_
  refine M0 (Qt.grdT J J J (.hit .stop) (fun hgrd => q_band J J J J (by omega))) J J ?_
  refine M0 (Qt.grdT J J J (.hit (.hit .stop)) (fun hgrd => q_eql J J J J)) J J ?_;refine M0 (q_and J J J J) J J ?_;refine Qe (Q0 ?_)
  refine A_join (⟨68,[(2,I i),(3,.o (.c (.ptr 0 0))),(4,.o (.c (.ptr 1 0))),(6,.o (.c (.ptr 2 0)))],[.box ((Enc.e l).map (V1.rd [])),.box (stB b.Kind b.Owner b.X b.Y (if R = true then 3 else 0) b.VY (if R = true then 1 else b.Aim) b.Life T),.box (stB 0 0 0 0 0 0 0 0 0)]⟩ : St) ?_ ?_
  · refine Xb rfl (fun h => ?_) (fun h => ?_)
    · have h2 : R = true := by rw [hR]; exact steer_and h
      refine Qd (Qc ?_);refine M0 (Qf J J J J (by decide)) J J ?_;refine Q5 J J J J J J J J ?_;refine Qe (Q0 ?_)
      refine Qc ?_;refine M0 (Qf J J J J (by decide)) J J ?_;refine Q5 J J J J J J J J ?_;refine Qe ?_
      exact Mid.n (W_go [0,1,2] (by decide) rfl ((by rw [if_pos h2,if_pos h2]; rfl)) (.cons rfl (.cons rfl (.cons rfl (.cons rfl (.nil))))))
    · have h2 : ¬ R = true := by rw [hR]; intro q; exact Bool.false_ne_true (Eq.trans (steer_no h).symm q)
      refine Qh ?_
      exact Mid.n (W_go [0,1,2] (by decide) rfl ((by rw [if_neg h2,if_neg h2]; rfl)) (.cons rfl (.cons rfl (.cons rfl (.cons rfl (.nil))))))
  refine Qd (Qd (Qc ?_));refine M0 (Qa J J J) J J ?_;refine M0 (q_band J J J J (by omega)) J J ?_
  refine M0 (q_neq J J J J) J J ?_;refine M0 (Qa J J J) J J ?_;refine M0 (Qt.grdT J J J .stop (fun hgrd => Qa J J J)) J J ?_
  refine M0 (Qt.grdT J J J (.hit .stop) (fun hgrd => q_band J J J J (by omega))) J J ?_
  refine M0 (Qt.grdT J J J (.hit (.hit .stop)) (fun hgrd => q_eql J J J J)) J J ?_;refine M0 (q_and J J J J) J J ?_;refine Qe (Q0 ?_)
  refine A_join (⟨68,[(2,I i),(3,.o (.c (.ptr 0 0))),(4,.o (.c (.ptr 1 0))),(6,.o (.c (.ptr 2 0)))],[.box ((Enc.e l).map (V1.rd [])),.box (stB b.Kind b.Owner b.X b.Y (if Lf = true then -3 else if R = true then 3 else 0) b.VY (if Lf = true then -1 else if R = true then 1 else b.Aim) b.Life T),.box (stB 0 0 0 0 0 0 0 0 0)]⟩ : St) ?_ ?_
  · refine Xb rfl (fun h => ?_) (fun h => ?_)
    · have h2 : Lf = true := by rw [hLf]; exact steer_and h
      refine Qd (Qc ?_);refine M0 (Qf J J J J (by decide)) J J ?_;refine Q5 J J J J J J J J ?_;refine Qe (Q0 ?_)
      refine Qc ?_;refine M0 (Qf J J J J (by decide)) J J ?_;refine Q5 J J J J J J J J ?_;refine Qe ?_
      exact Mid.n (W_go [0,1,2] (by decide) rfl ((by rw [if_pos h2,if_pos h2]; rfl)) (.cons rfl (.cons rfl (.cons rfl (.cons rfl (.nil))))))
    · have h2 : ¬ Lf = true := by rw [hLf]; intro q; exact Bool.false_ne_true (Eq.trans (steer_no h).symm q)
      refine Qh ?_
      exact Mid.n (W_go [0,1,2] (by decide) rfl ((by rw [if_neg h2,if_neg h2]; rfl)) (.cons rfl (.cons rfl (.cons rfl (.cons rfl (.nil))))))
  obtain ⟨vx,hvx⟩ : ∃ vx,vx = (if Lf = true then -3 else if R = true then 3 else 0) := ⟨_,rfl⟩
  obtain ⟨am,ham⟩ : ∃ am,am = (if Lf = true then -1 else if R = true then 1 else b.Aim) := ⟨_,rfl⟩
  rw [← hvx,← ham]
  obtain ⟨Fi,hFi⟩ : ∃ Fi,Fi = (pressed i 8 && decide (T = 0)) := ⟨_,rfl⟩
  rw [← hFi]
  by_cases hJ : pressed i 4 = true
  · have fJ : decide (((i.toNat &&& (4 : Int).toNat : Nat) : Int) ≠ 0) = true := hJ
    cases hs : solidM l b.X (b.Y + 1) 12 with
    | true =>
      rw [hs] at cs
      rw [hJ]
      refine Qd (Qd ?_)
      refine A_draw [[],[0],[0,1],[0,1,2],[0,1,2,3],[0,1,2,3],[0,1,2,3,5],[0,1,2,3],[0,1,2,3,7],[0,1,2,3,7,8],[0,1,2,3],[0,1,2,3,10],[0,1,2,3,10,11],[0,1,2,3,4,5,6,7,8,9,10,11,12],[0,1,2,3,4,5,6,7,8,9,10,11,12,13]] [[],[36],[36,37],[36,37,38],[36,37,38,39],[36,37,38,39],[36,37,38,39,41],[36,37,38,39],[36,37,38,39,43],[36,37,38,39,43,44],[36,37,38,39],[36,37,38,39,46],[36,37,38,39,46,47],[36,37,38,39,40,41,42,43,44,45,46,47,48],[36,37,38,39,40,41,42,43,44,45,46,47,48,49]] [[],[],[],[],[41,42,43,44,45,46,47,48],[40,43,44,45,46,47,48],[40,43,44,45,46,47,48],[40,41,42,46,47,48],[40,41,42,46,47,48],[40,41,42,46,47,48],[40,41,42,43,44,45],[40,41,42,43,44,45],[40,41,42,43,44,45],[],[]] rfl ?_
      refine DR.step (Qa J J J) J J ?_;refine DR.step (q_band J J J J (by omega)) J J ?_;refine DR.step (Qw J J J J (by assumption)) J J ?_
      refine DR.step (Qa J J J) J J ?_;refine DR.step (Qt.yes J J J (Qu J J J J J J)) J J ?_
      refine DR.step (Qt.yes J J J (Qf J J J J (by decide))) J J ?_;refine DR.step (Qt.yes J J J (Qg J J J J J)) J J ?_
      refine DR.step (Qt.yes J J J (Qf J J J J (by decide))) J J ?_;refine DR.step (Qt.yes J J J (Qg J J J J J)) J J ?_
      refine DR.step (Qt.yes J J J (Qs J J J J (by omega))) J J ?_;refine DR.step (Qt.yes J J J (Qf J J J J (by decide))) J J ?_
      refine DR.step (Qt.yes J J J (Qg J J J J J)) J J ?_;refine DR.step (Qt.yes J J J (Qj J J (cz) rfl)) J J ?_
      refine DR.step (Qt.yes J J J (Qj J J (cs) rfl)) J J ?_;refine DR.step (Qo J J J J) J J ?_;refine DR.stop (by kernel_rfl) (by kernel_rfl) ?_
      refine Qe (Q0 ?_);refine Qm rfl ?_;refine Qc ?_;refine M0 (Qf J J J J (by decide)) J J ?_;refine Q5 J J J J J J J J ?_
      refine Qe (Q0 (Qd (Qd (Qc ?_))));refine M0 (Qa J J J) J J ?_;refine M0 (q_band J J J J (by omega)) J J ?_
      refine M0 (q_neq J J J J) J J ?_;refine M0 (Qa J J J) J J ?_
      refine M0 (Qt.grdT J J J .stop (fun hgrd => Qf J J J J (by decide))) J J ?_
      refine M0 (Qt.grdT J J J (.hit .stop) (fun hgrd => Qg J J J J J)) J J ?_
      refine M0 (Qt.grdT J J J (.hit (.hit .stop)) (fun hgrd => q_eql J J J J)) J J ?_;refine M0 (q_and J J J J) J J ?_;refine Qe (Q0 ?_)
      refine Xb rfl (fun h => ?_) (fun h => ?_)
      · have h2 : Fi = true := by rw [hFi]; exact h
        rw [h2]
        refine Qd (Qc ?_);refine M0 (Qf J J J J (by decide)) J J ?_;refine Q5 J J J J J J J J ?_;refine Qe (Q0 (Qd ?_))
        refine Qc ?_;refine M0 (Qu J J J J J J) J J ?_;refine Qy J J J J J J J J J ?_;refine M0 (Qb J J J) J J ?_;refine Qe ?_
        refine Q0 (Xa (T_r (F_r ?_)))
        exact E_cellt J J J J J (W_end [] (by decide) J J J)
      · have h2 : Fi = false := by rw [hFi]; exact h
        rw [h2]
        refine Qh (Q0 (Qd (Qc ?_)));refine M0 (Qu J J J J J J) J J ?_;refine Qy J J J J J J J J J ?_
        refine M0 (Qb J J J) J J ?_;refine Qe (Q0 (Xa (F_r ?_)))
        exact E_cellt J J J J J (W_end [] (by decide) J J J)
    | false =>
      rw [hs] at cs
      rw [hJ]
      refine Qd (Qd ?_)
      refine A_draw [[],[0],[0,1],[0,1,2],[0,1,2,3],[0,1,2,3],[0,1,2,3,5],[0,1,2,3],[0,1,2,3,7],[0,1,2,3,7,8],[0,1,2,3],[0,1,2,3,10],[0,1,2,3,10,11],[0,1,2,3,4,5,6,7,8,9,10,11,12],[0,1,2,3,4,5,6,7,8,9,10,11,12,13]] [[],[36],[36,37],[36,37,38],[36,37,38,39],[36,37,38,39],[36,37,38,39,41],[36,37,38,39],[36,37,38,39,43],[36,37,38,39,43,44],[36,37,38,39],[36,37,38,39,46],[36,37,38,39,46,47],[36,37,38,39,40,41,42,43,44,45,46,47,48],[36,37,38,39,40,41,42,43,44,45,46,47,48,49]] [[],[],[],[],[41,42,43,44,45,46,47,48],[40,43,44,45,46,47,48],[40,43,44,45,46,47,48],[40,41,42,46,47,48],[40,41,42,46,47,48],[40,41,42,46,47,48],[40,41,42,43,44,45],[40,41,42,43,44,45],[40,41,42,43,44,45],[],[]] rfl ?_
      refine DR.step (Qa J J J) J J ?_;refine DR.step (q_band J J J J (by omega)) J J ?_;refine DR.step (Qw J J J J (by assumption)) J J ?_
      refine DR.step (Qa J J J) J J ?_;refine DR.step (Qt.yes J J J (Qu J J J J J J)) J J ?_
      refine DR.step (Qt.yes J J J (Qf J J J J (by decide))) J J ?_;refine DR.step (Qt.yes J J J (Qg J J J J J)) J J ?_
      refine DR.step (Qt.yes J J J (Qf J J J J (by decide))) J J ?_;refine DR.step (Qt.yes J J J (Qg J J J J J)) J J ?_
      refine DR.step (Qt.yes J J J (Qs J J J J (by omega))) J J ?_;refine DR.step (Qt.yes J J J (Qf J J J J (by decide))) J J ?_
      refine DR.step (Qt.yes J J J (Qg J J J J J)) J J ?_;refine DR.step (Qt.yes J J J (Qj J J (cz) rfl)) J J ?_
      refine DR.step (Qt.yes J J J (Qj J J (cs) rfl)) J J ?_;refine DR.step (Qo J J J J) J J ?_;refine DR.stop (by kernel_rfl) (by kernel_rfl) ?_
      refine Qe (Q0 ?_);refine Ql rfl ?_;refine Qc ?_;refine M0 (Qf J J J J (by decide)) J J ?_;refine M0 (Qg J J J J J) J J ?_
      refine M0 (Qs J J J J (by omega)) J J ?_;refine M0 (q_min J J J J) J J ?_;refine M0 (Qf J J J J (by decide)) J J ?_
      refine Q5 J J J J J J J J ?_;refine Qe (Q0 (Qd (Qd (Qc ?_))));refine M0 (Qa J J J) J J ?_
      refine M0 (q_band J J J J (by omega)) J J ?_;refine M0 (q_neq J J J J) J J ?_;refine M0 (Qa J J J) J J ?_
      refine M0 (Qt.grdT J J J .stop (fun hgrd => Qf J J J J (by decide))) J J ?_
      refine M0 (Qt.grdT J J J (.hit .stop) (fun hgrd => Qg J J J J J)) J J ?_
      refine M0 (Qt.grdT J J J (.hit (.hit .stop)) (fun hgrd => q_eql J J J J)) J J ?_;refine M0 (q_and J J J J) J J ?_;refine Qe (Q0 ?_)
      refine Xb rfl (fun h => ?_) (fun h => ?_)
      · have h2 : Fi = true := by rw [hFi]; exact h
        rw [h2]
        refine Qd (Qc ?_);refine M0 (Qf J J J J (by decide)) J J ?_;refine Q5 J J J J J J J J ?_;refine Qe (Q0 (Qd ?_))
        refine Qc ?_;refine M0 (Qu J J J J J J) J J ?_;refine Qy J J J J J J J J J ?_;refine M0 (Qb J J J) J J ?_;refine Qe ?_
        refine Q0 (Xa (T_r (F_r ?_)))
        exact E_cellt J J J J J (W_end [] (by decide) J J J)
      · have h2 : Fi = false := by rw [hFi]; exact h
        rw [h2]
        refine Qh (Q0 (Qd (Qc ?_)));refine M0 (Qu J J J J J J) J J ?_;refine Qy J J J J J J J J J ?_
        refine M0 (Qb J J J) J J ?_;refine Qe (Q0 (Xa (F_r ?_)))
        exact E_cellt J J J J J (W_end [] (by decide) J J J)
  · have fJ : decide (((i.toNat &&& (4 : Int).toNat : Nat) : Int) ≠ 0) = false := by simpa [pressed] using hJ
    rw [show pressed i 4 = false by simpa using hJ]
    refine Qd (Qd ?_)
    refine A_draw [[],[0],[0,1],[0,1,2],[0,1,2,3],[0,1,2,3],[0,1,2,3,5],[0,1,2,3],[0,1,2,3,7],[0,1,2,3,7,8],[0,1,2,3],[0,1,2,3,10],[0,1,2,3,10,11],[0,1,2,3,4,5,6,7,8,9,10,11,12],[0,1,2,3,4,5,6,7,8,9,10,11,12,13]] [[],[36],[36,37],[36,37,38],[36,37,38,39],[36,37,38,39],[36,37,38,39,41],[36,37,38,39],[36,37,38,39,43],[36,37,38,39,43,44],[36,37,38,39],[36,37,38,39,46],[36,37,38,39,46,47],[36,37,38,39,40,41,42,43,44,45,46,47,48],[36,37,38,39,40,41,42,43,44,45,46,47,48,49]] [[],[],[],[],[41,42,43,44,45,46,47,48],[40,43,44,45,46,47,48],[40,43,44,45,46,47,48],[40,41,42,46,47,48],[40,41,42,46,47,48],[40,41,42,46,47,48],[40,41,42,43,44,45],[40,41,42,43,44,45],[40,41,42,43,44,45],[],[]] rfl ?_
    refine DR.step (Qa J J J) J J ?_;refine DR.step (q_band J J J J (by omega)) J J ?_;refine DR.step (Qw J J J J (by assumption)) J J ?_
    refine DR.step (Qa J J J) J J ?_;refine DR.step (Qt.no J J J J) J J ?_;refine DR.step (Qt.no J J J J) J J ?_
    refine DR.step (Qt.no J J J J) J J ?_;refine DR.step (Qt.no J J J J) J J ?_;refine DR.step (Qt.no J J J J) J J ?_
    refine DR.step (Qt.no J J J J) J J ?_;refine DR.step (Qt.no J J J J) J J ?_;refine DR.step (Qt.no J J J J) J J ?_
    refine DR.step (Qt.no J J J J) J J ?_;refine DR.step (Qt.no J J J J) J J ?_;refine DR.step (Qn J J J J) J J ?_
    refine DR.stop (by kernel_rfl) (by kernel_rfl) ?_
    refine Qe (Q0 ?_);refine Ql rfl ?_;refine Qc ?_;refine M0 (Qf J J J J (by decide)) J J ?_;refine M0 (Qg J J J J J) J J ?_
    refine M0 (Qs J J J J (by omega)) J J ?_;refine M0 (q_min J J J J) J J ?_;refine M0 (Qf J J J J (by decide)) J J ?_
    refine Q5 J J J J J J J J ?_;refine Qe (Q0 (Qd (Qd (Qc ?_))));refine M0 (Qa J J J) J J ?_
    refine M0 (q_band J J J J (by omega)) J J ?_;refine M0 (q_neq J J J J) J J ?_;refine M0 (Qa J J J) J J ?_
    refine M0 (Qt.grdT J J J .stop (fun hgrd => Qf J J J J (by decide))) J J ?_
    refine M0 (Qt.grdT J J J (.hit .stop) (fun hgrd => Qg J J J J J)) J J ?_
    refine M0 (Qt.grdT J J J (.hit (.hit .stop)) (fun hgrd => q_eql J J J J)) J J ?_;refine M0 (q_and J J J J) J J ?_;refine Qe (Q0 ?_)
    refine Xb rfl (fun h => ?_) (fun h => ?_)
    · have h2 : Fi = true := by rw [hFi]; exact h
      rw [h2]
      refine Qd (Qc ?_);refine M0 (Qf J J J J (by decide)) J J ?_;refine Q5 J J J J J J J J ?_;refine Qe (Q0 (Qd ?_))
      refine Qc ?_;refine M0 (Qu J J J J J J) J J ?_;refine Qy J J J J J J J J J ?_;refine M0 (Qb J J J) J J ?_;refine Qe ?_
      refine Q0 (Xa (T_r (F_r ?_)))
      exact E_cellt J J J J J (W_end [] (by decide) J J J)
    · have h2 : Fi = false := by rw [hFi]; exact h
      rw [h2]
      refine Qh (Q0 (Qd (Qc ?_)));refine M0 (Qu J J J J J J) J J ?_;refine Qy J J J J J J J J J ?_
      refine M0 (Qb J J J) J J ?_;refine Qe (Q0 (Xa (F_r ?_)))
      exact E_cellt J J J J J (W_end [] (by decide) J J J)
end Go.Proofs.Ytmljakmaffbnlaa
end

section
set_option linter.unusedSimpArgs false
set_option linter.unusedVariables false
set_option maxRecDepth 8000
namespace Go.Proofs.Ytmljakmaffbnlaa
open Go.RowKit

theorem slide_free {hit : Int → Bool} {step : Int} : ∀ (n : Nat) (x : Int),hit x = false → hit (slide hit step n x).1 = false
  | 0,x,h => h
  | n + 1,x,h => by
    rw [slide]
    split
    · exact h
    · exact slide_free n (x + step) (by rename_i q; simpa using q)
section
variable {P : Program} {E : Env} {st st' : St}
theorem A_joinb {c d : Code} {id : Nat} {Q Q' : Exit → St → Prop} (st' : St) (h1 : AWP P E c (blk id (Mid st')) st) (h2 : AWP P E d Q' st') : AWP P E c (blk id (thn (AWP P E d Q') Q)) st :=
  AWP.mono (fun e s h => by
    have hh := h.h
    cases e with
    | normal => obtain ⟨_,hw⟩ := hh.h; exact ⟨⟨AWP.weak hw h2⟩⟩
    | exit id' =>
      by_cases hi : id' = id
      · subst hi
        have hh : (if id' = id' then Mid st' .normal s else Mid st' (.exit id') s) := hh
        rw [if_pos rfl] at hh
        obtain ⟨_,hw⟩ := hh.h
        exact B_xs (Q0 (AWP.weak hw h2))
      · have hh : (if id' = id then Mid st' .normal s else Mid st' (.exit id') s) := hh
        rw [if_neg hi] at hh
        obtain ⟨he,_⟩ := hh.h
        cases he
    | goto l => obtain ⟨he,_⟩ := Mid.h hh; cases he
    | ret => obtain ⟨he,_⟩ := Mid.h hh; cases he
    | panic c => obtain ⟨he,_⟩ := Mid.h hh; cases he
    | outgrown => obtain ⟨he,_⟩ := Mid.h hh; cases he) h1
end
set_option maxHeartbeats 8000000 in
theorem I_MoveBody (l : TLevel) (b : TBody) (hg : Enc.gd l) (hl : levelOk l = true) (hk : 0 ≤ b.Kind ∧ b.Kind ≤ 2) (hp : solidM l b.X b.Y (sizeOf b.Kind) = false) (hx : -15 ≤ b.VX ∧ b.VX ≤ 15) (hy : -15 ≤ b.VY ∧ b.VY ≤ 15) : Con Try.prog 131 [] [ag l,ag b] [] (.tu [.ag ((Enc.e (moveM l b).1).map (V1.rd [])),.c (bv (moveM l b).2)]) := by
  obtain ⟨s4,s12⟩ := size_pos hk
  obtain ⟨s,hs⟩ : ∃ s,s = sizeOf b.Kind := ⟨_,rfl⟩
  rw [← hs] at s4 s12 hp
  have cz := I_SizeOf b.Kind
  rw [← hs] at cz
  obtain ⟨⟨px1,px2⟩,⟨py1,py2⟩⟩ := place_rng hl ⟨by omega,by omega⟩ hp
  obtain ⟨X1,b1,hR⟩ : ∃ X1 b1,(X1,b1) = moveX l b := ⟨_,_,rfl⟩
  obtain ⟨Y1,b2,hS⟩ : ∃ Y1 b2,(Y1,b2) = moveY l b := ⟨_,_,rfl⟩
  obtain ⟨N,hN⟩ : ∃ N,N = b.VX.natAbs := ⟨_,rfl⟩
  obtain ⟨M,hM⟩ : ∃ M,M = b.VY.natAbs := ⟨_,rfl⟩
  obtain ⟨d,hd⟩ : ∃ d,d = dirOf b.VX := ⟨_,rfl⟩
  obtain ⟨e,he⟩ : ∃ e,e = dirOf b.VY := ⟨_,rfl⟩
  have hd1 : -1 ≤ d ∧ d ≤ 1 := by rw [hd,dirOf]; split <;> omega
  have he1 : -1 ≤ e ∧ e ≤ 1 := by rw [he,dirOf]; split <;> omega
  have hR1 : slide (fun z => solidM l z b.Y s) d (N - 0) b.X = (X1,b1) := by rw [hs,hd,hN]; exact hR.symm
  have hR2 : slide (fun z => solidM l X1 z s) e (M - 0) b.Y = (Y1,b2) := by rw [show X1 = (moveX l b).1 by rw [← hR],hs,he,hM]; exact hS.symm
  have hp2 : solidM l X1 b.Y s = false := by have h := slide_free (hit := fun z => solidM l z b.Y s) (step := d) (N - 0) b.X hp; rw [hR1] at h; exact h
  have hmm : moveM l b = (⟨b.Kind,b.Owner,X1,Y1,if b1 = true then 0 else b.VX,if b2 = true then 0 else b.VY,b.Aim,b.Life,b.Timer⟩,b1 || b2) := by rw [moveM,← hR,← hS]
  rw [hmm]
  have hNb : N ≤ 15 := by omega
  have hMb : M ≤ 15 := by omega
  have ca := I_SolidAt l b.X b.Y s hg ⟨by omega,by omega⟩ ⟨by omega,by omega⟩
  rw [solidAt_eq hl ⟨by omega,by omega⟩,hp] at ca
  have c1 := I_between b.VX (-15) 15
  have c2 := I_between b.VY (-15) 15
  rw [inR_iff.2 hx] at c1
  rw [inR_iff.2 hy] at c2
  have d1 := I_direction b.VX hx
  have d2 := I_direction b.VY hy
  rw [← hd,← hN] at d1
  rw [← he,← hM] at d2
  refine Con.of Try.func131 rfl Try.ntmps131 rfl (fun E => ?_)
  refine Qd (Qc ?_);refine M1 (Qq J J J J) J J ?_;refine M1 (Qq J J J J) J J ?_;refine M1 (Qx J J J) J J ?_
  refine M0 (Qb J J J) J J ?_;refine Qe (Q0 (Qd (Qc ?_)));refine M0 (Qf J J J J (by decide)) J J ?_
  refine M0 (Qg J J J J J) J J ?_;refine M0 (Qj J J (cz) rfl) J J ?_;refine M0 (Qb J J J) J J ?_;refine Qe (Q0 ?_)
  refine Qd (Qd (Qc ?_));refine M0 (Qu J J J J J J) J J ?_;refine M0 (Qf J J J J (by decide)) J J ?_
  refine M0 (Qg J J J J J) J J ?_;refine M0 (Qf J J J J (by decide)) J J ?_;refine M0 (Qg J J J J J) J J ?_
  refine M0 (Qa J J J) J J ?_;refine M0 (Qj J J (ca) rfl) J J ?_;refine Qe (Q0 ?_);refine Ql rfl ?_;refine Qh (Q0 (Qd ?_))
  refine Qd (Qc ?_);refine M0 (Qf J J J J (by decide)) J J ?_;refine M0 (Qg J J J J J) J J ?_
  refine M0 (Qj J J (c1) rfl) J J ?_;refine M0 (Q4 J J J) J J ?_;refine M0 (Qa J J J) J J ?_;refine Qi J J J ?_
  refine M0 (Qf J J J J (by decide)) J J ?_;refine Qi J J J ?_;refine M0 (Qg J J J J J) J J ?_;refine Qi J J J ?_
  refine M0 (Qj J J (c2) rfl) J J ?_;refine Qi J J J ?_;refine M0 (Q4 J J J) J J ?_;refine M0 (Qn J J J J) J J ?_;refine Qe ?_
  refine Q0 ?_;refine Ql rfl ?_;refine Qh (Q0 (Qd (Qc ?_)));refine M0 (Qb J J J) J J ?_;refine Qe (Q0 ?_)
  refine Qd (Qc ?_);refine M0 (Qf J J J J (by decide)) J J ?_;refine M0 (Qg J J J J J) J J ?_
  refine M1 (q_call J J (d1) J J J) J J ?_;refine M0 (Q8 J J J) J J ?_;refine M0 (q_ext J J J J) J J ?_
  refine M0 (q_ext J J J J) J J ?_;refine M0 (Qb J J J) J J ?_;refine M0 (Qb J J J) J J ?_;refine Qe (Q0 (Qd ?_))
  refine Qd (Qc ?_);refine M0 (Qb J J J) J J ?_;refine Qe (Q0 (Qk ?_))
  refine A_joinb (⟨88,[(2,.o (.c (.ptr 0 0))),(3,.o (.c (.ptr 1 0))),(4,.o (.c (.ptr 2 0))),(6,I s),(7,B b1)],[.box ((Enc.e l).map (V1.rd [])),.box (stB b.Kind b.Owner X1 b.Y (if b1 = true then 0 else b.VX) b.VY b.Aim b.Life b.Timer),.box (stB 0 0 0 0 0 0 0 0 0)]⟩ : St) ?_ ?_
  · skip
    refine A_loop (fun m__ st => ∃ (k : Nat) (x : Int),N - k = m__ ∧ (k ≤ N ∧ solidM l x b.Y s = false ∧ slide (fun z => solidM l z b.Y s) d (N - k) x = (X1,b1)) ∧ st = (fun (k : Nat) (x : Int) => (⟨_,[(2,.o (.c (.ptr 0 0))),(3,.o (.c (.ptr 1 0))),(4,.o (.c (.ptr 2 0))),(6,I s),(7,B false),(8,I d),(9,I N),(10,I k)],[.box ((Enc.e l).map (V1.rd [])),.box (stB b.Kind b.Owner x b.Y b.VX b.VY b.Aim b.Life b.Timer),.box (stB 0 0 0 0 0 0 0 0 0)]⟩ : St)) (k) (x)) ((fun (k : Nat) (x : Int) => N - k) (0) (b.X)) ⟨(fun (k : Nat) (x : Int) => (⟨_,[(2,.o (.c (.ptr 0 0))),(3,.o (.c (.ptr 1 0))),(4,.o (.c (.ptr 2 0))),(6,I s),(7,B false),(8,I d),(9,I N),(10,I k)],[.box ((Enc.e l).map (V1.rd [])),.box (stB b.Kind b.Owner x b.Y b.VX b.VY b.Aim b.Life b.Timer),.box (stB 0 0 0 0 0 0 0 0 0)]⟩ : St)) (0) (b.X),W_go [0,1,2] (by decide) rfl (rfl) (.cons rfl (.cons rfl (.cons rfl (.cons rfl (.cons rfl (.cons rfl (.cons rfl (.cons rfl (.nil))))))))),0,b.X,rfl,⟨by omega,hp,hR1⟩,rfl⟩ ?_
    rintro m_A _ ⟨k,x,hk_A,hp_A,rfl⟩
    obtain ⟨hkn,hfr,hsl⟩ := hp_A
    obtain ⟨⟨qx1,qx2⟩,_⟩ := place_rng hl ⟨by omega,by omega⟩ hfr
    by_cases hlt : k < N
    · have hb : decide ((k : Int) < N) = true := decide_eq_true (by omega)
      have cs := I_solid l (x + d) b.Y s hl ⟨by omega,by omega⟩ ⟨by omega,by omega⟩ (by omega) (by omega)
      obtain ⟨m,hm⟩ : ∃ m,N - k = m + 1 := ⟨N - k - 1,by omega⟩
      cases hh : solidM l (x + d) b.Y s with
      | true =>
        rw [hh] at cs
        rw [hm,slide_hit (hit := fun z => solidM l z b.Y s) hh] at hsl
        obtain ⟨rfl,rfl⟩ := Prod.mk.inj hsl
        refine Qd (Qd (Qc ?_));refine M0 (Qa J J J) J J ?_;refine M0 (Qa J J J) J J ?_
        refine M0 (Qr J J J J (by assumption)) J J ?_;refine Qe (Q0 ?_);refine Qm rfl ?_;refine Qh (Q0 (Qd (Qk ?_)))
        refine Qd (Qd (Qc ?_));refine M0 (Qu J J J J J J) J J ?_;refine M0 (Qf J J J J (by decide)) J J ?_
        refine M0 (Qg J J J J J) J J ?_;refine M0 (Qa J J J) J J ?_;refine M0 (Qs J J J J (by omega)) J J ?_
        refine M0 (Qf J J J J (by decide)) J J ?_;refine M0 (Qg J J J J J) J J ?_;refine M0 (Qa J J J) J J ?_
        refine M0 (Qj J J (cs) rfl) J J ?_;refine Qe (Q0 ?_);refine Qm rfl ?_;refine Qd (Qc ?_)
        refine M0 (Qf J J J J (by decide)) J J ?_;refine Q5 J J J J J J J J ?_;refine Qe (Q0 (Qd (Qc ?_)))
        refine M0 (Qb J J J) J J ?_;refine Qe (Q0 (Q9 (T_x ?_)));refine B_xo rfl ?_;refine T_x (T_x (B_xs ?_))
        exact Mid.n (W_go [0,1,2] (by decide) rfl (rfl) (.cons rfl (.cons rfl (.cons rfl (.cons rfl (.cons rfl (.nil)))))))
      | false =>
        rw [hh] at cs
        rw [hm,slide_go (hit := fun z => solidM l z b.Y s) hh] at hsl
        refine Qd (Qd (Qc ?_));refine M0 (Qa J J J) J J ?_;refine M0 (Qa J J J) J J ?_
        refine M0 (Qr J J J J (by assumption)) J J ?_;refine Qe (Q0 ?_);refine Qm rfl ?_;refine Qh (Q0 (Qd (Qk ?_)))
        refine Qd (Qd (Qc ?_));refine M0 (Qu J J J J J J) J J ?_;refine M0 (Qf J J J J (by decide)) J J ?_
        refine M0 (Qg J J J J J) J J ?_;refine M0 (Qa J J J) J J ?_;refine M0 (Qs J J J J (by omega)) J J ?_
        refine M0 (Qf J J J J (by decide)) J J ?_;refine M0 (Qg J J J J J) J J ?_;refine M0 (Qa J J J) J J ?_
        refine M0 (Qj J J (cs) rfl) J J ?_;refine Qe (Q0 ?_);refine Ql rfl ?_;refine Qh (Q0 (Qc ?_))
        refine M0 (Qf J J J J (by decide)) J J ?_;refine M0 (Qg J J J J J) J J ?_;refine M0 (Qa J J J) J J ?_
        refine M0 (Qs J J J J (by omega)) J J ?_;refine M0 (Qf J J J J (by decide)) J J ?_;refine Q5 J J J J J J J J ?_;refine Qe ?_
        refine Q1 (Q0 (Qc ?_));refine M0 (Qa J J J) J J ?_;refine M0 (Qs J J J J (by omega)) J J ?_
        refine M0 (Qb J J J) J J ?_;refine Qe (Q0 ?_)
        refine ⟨N - (k + 1),(by omega),(fun (k : Nat) (x : Int) => (⟨_,[(2,.o (.c (.ptr 0 0))),(3,.o (.c (.ptr 1 0))),(4,.o (.c (.ptr 2 0))),(6,I s),(7,B false),(8,I d),(9,I N),(10,I k)],[.box ((Enc.e l).map (V1.rd [])),.box (stB b.Kind b.Owner x b.Y b.VX b.VY b.Aim b.Life b.Timer),.box (stB 0 0 0 0 0 0 0 0 0)]⟩ : St)) (k + 1) (x + d),W_go [0,1,2] (by decide) rfl (rfl) (.cons rfl (.cons rfl (.cons rfl (.cons rfl (.cons rfl (.cons rfl (.cons rfl (.cons rfl (.nil))))))))),k + 1,x + d,rfl,⟨by omega,hh,by rw [show N - (k + 1) = m by omega]; exact hsl⟩,rfl⟩
    · have hb : decide ((k : Int) < N) = false := decide_eq_false (by omega)
      rw [show N - k = 0 by omega,slide] at hsl
      obtain ⟨rfl,rfl⟩ := Prod.mk.inj hsl
      refine Qd (Qd (Qc ?_));refine M0 (Qa J J J) J J ?_;refine M0 (Qa J J J) J J ?_
      refine M0 (Qr J J J J (by assumption)) J J ?_;refine Qe (Q0 ?_);refine Ql rfl ?_;refine Q9 (T_x (T_x (B_xs ?_)))
      exact Mid.n (W_go [0,1,2] (by decide) rfl (rfl) (.cons rfl (.cons rfl (.cons rfl (.cons rfl (.cons rfl (.nil)))))))
  refine Qd (Qc ?_);refine M0 (Qf J J J J (by decide)) J J ?_;refine M0 (Qg J J J J J) J J ?_
  refine M1 (q_call J J (d2) J J J) J J ?_;refine M0 (Q8 J J J) J J ?_;refine M0 (q_ext J J J J) J J ?_
  refine M0 (q_ext J J J J) J J ?_;refine M0 (Qb J J J) J J ?_;refine M0 (Qb J J J) J J ?_;refine Qe (Q0 (Qd ?_))
  refine Qd (Qc ?_);refine M0 (Qb J J J) J J ?_;refine Qe (Q0 (Qk ?_))
  refine A_joinb (⟨88,[(2,.o (.c (.ptr 0 0))),(3,.o (.c (.ptr 1 0))),(4,.o (.c (.ptr 2 0))),(6,I s),(7,B (b1 || b2))],[.box ((Enc.e l).map (V1.rd [])),.box (stB b.Kind b.Owner X1 Y1 (if b1 = true then 0 else b.VX) (if b2 = true then 0 else b.VY) b.Aim b.Life b.Timer),.box (stB 0 0 0 0 0 0 0 0 0)]⟩ : St) ?_ ?_
  · skip
    refine A_loop (fun m__ st => ∃ (k : Nat) (y : Int),M - k = m__ ∧ (k ≤ M ∧ solidM l X1 y s = false ∧ slide (fun z => solidM l X1 z s) e (M - k) y = (Y1,b2)) ∧ st = (fun (k : Nat) (y : Int) => (⟨_,[(2,.o (.c (.ptr 0 0))),(3,.o (.c (.ptr 1 0))),(4,.o (.c (.ptr 2 0))),(6,I s),(7,B b1),(8,I e),(9,I M),(11,I k)],[.box ((Enc.e l).map (V1.rd [])),.box (stB b.Kind b.Owner X1 y (if b1 = true then 0 else b.VX) b.VY b.Aim b.Life b.Timer),.box (stB 0 0 0 0 0 0 0 0 0)]⟩ : St)) (k) (y)) ((fun (k : Nat) (y : Int) => M - k) (0) (b.Y)) ⟨(fun (k : Nat) (y : Int) => (⟨_,[(2,.o (.c (.ptr 0 0))),(3,.o (.c (.ptr 1 0))),(4,.o (.c (.ptr 2 0))),(6,I s),(7,B b1),(8,I e),(9,I M),(11,I k)],[.box ((Enc.e l).map (V1.rd [])),.box (stB b.Kind b.Owner X1 y (if b1 = true then 0 else b.VX) b.VY b.Aim b.Life b.Timer),.box (stB 0 0 0 0 0 0 0 0 0)]⟩ : St)) (0) (b.Y),W_go [0,1,2] (by decide) rfl (rfl) (.cons rfl (.cons rfl (.cons rfl (.cons rfl (.cons rfl (.cons rfl (.cons rfl (.cons rfl (.nil))))))))),0,b.Y,rfl,⟨by omega,hp2,hR2⟩,rfl⟩ ?_
    rintro m_B _ ⟨k,y,hk_B,hp_B,rfl⟩
    obtain ⟨hkn,hfr,hsl⟩ := hp_B
    obtain ⟨_,⟨qx1,qx2⟩⟩ := place_rng hl ⟨by omega,by omega⟩ hfr
    by_cases hlt : k < M
    · have hb : decide ((k : Int) < M) = true := decide_eq_true (by omega)
      have cs := I_solid l X1 (y + e) s hl ⟨by omega,by omega⟩ ⟨by omega,by omega⟩ (by omega) (by omega)
      obtain ⟨m,hm⟩ : ∃ m,M - k = m + 1 := ⟨M - k - 1,by omega⟩
      cases hh : solidM l X1 (y + e) s with
      | true =>
        rw [hh] at cs
        rw [hm,slide_hit (hit := fun z => solidM l X1 z s) hh] at hsl
        obtain ⟨rfl,rfl⟩ := Prod.mk.inj hsl
        refine Qd (Qd (Qc ?_));refine M0 (Qa J J J) J J ?_;refine M0 (Qa J J J) J J ?_
        refine M0 (Qr J J J J (by assumption)) J J ?_;refine Qe (Q0 ?_);refine Qm rfl ?_;refine Qh (Q0 (Qd (Qk ?_)))
        refine Qd (Qd (Qc ?_));refine M0 (Qu J J J J J J) J J ?_;refine M0 (Qf J J J J (by decide)) J J ?_
        refine M0 (Qg J J J J J) J J ?_;refine M0 (Qf J J J J (by decide)) J J ?_;refine M0 (Qg J J J J J) J J ?_
        refine M0 (Qa J J J) J J ?_;refine M0 (Qs J J J J (by omega)) J J ?_;refine M0 (Qa J J J) J J ?_
        refine M0 (Qj J J (cs) rfl) J J ?_;refine Qe (Q0 ?_);refine Qm rfl ?_;refine Qd (Qc ?_)
        refine M0 (Qf J J J J (by decide)) J J ?_;refine Q5 J J J J J J J J ?_;refine Qe (Q0 (Qd (Qc ?_)))
        refine M0 (Qb J J J) J J ?_;refine Qe (Q0 (Q9 (T_x ?_)));refine B_xo rfl ?_;refine T_x (T_x (B_xs ?_))
        exact Mid.n (W_go [0,1,2] (by decide) rfl (rfl) (.cons rfl (.cons rfl (.cons rfl (.cons rfl (.cons (by cases b1 <;> rfl) (.nil)))))))
      | false =>
        rw [hh] at cs
        rw [hm,slide_go (hit := fun z => solidM l X1 z s) hh] at hsl
        refine Qd (Qd (Qc ?_));refine M0 (Qa J J J) J J ?_;refine M0 (Qa J J J) J J ?_
        refine M0 (Qr J J J J (by assumption)) J J ?_;refine Qe (Q0 ?_);refine Qm rfl ?_;refine Qh (Q0 (Qd (Qk ?_)))
        refine Qd (Qd (Qc ?_));refine M0 (Qu J J J J J J) J J ?_;refine M0 (Qf J J J J (by decide)) J J ?_
        refine M0 (Qg J J J J J) J J ?_;refine M0 (Qf J J J J (by decide)) J J ?_;refine M0 (Qg J J J J J) J J ?_
        refine M0 (Qa J J J) J J ?_;refine M0 (Qs J J J J (by omega)) J J ?_;refine M0 (Qa J J J) J J ?_
        refine M0 (Qj J J (cs) rfl) J J ?_;refine Qe (Q0 ?_);refine Ql rfl ?_;refine Qh (Q0 (Qc ?_))
        refine M0 (Qf J J J J (by decide)) J J ?_;refine M0 (Qg J J J J J) J J ?_;refine M0 (Qa J J J) J J ?_
        refine M0 (Qs J J J J (by omega)) J J ?_;refine M0 (Qf J J J J (by decide)) J J ?_;refine Q5 J J J J J J J J ?_;refine Qe ?_
        refine Q1 (Q0 (Qc ?_));refine M0 (Qa J J J) J J ?_;refine M0 (Qs J J J J (by omega)) J J ?_
        refine M0 (Qb J J J) J J ?_;refine Qe (Q0 ?_)
        refine ⟨M - (k + 1),(by omega),(fun (k : Nat) (y : Int) => (⟨_,[(2,.o (.c (.ptr 0 0))),(3,.o (.c (.ptr 1 0))),(4,.o (.c (.ptr 2 0))),(6,I s),(7,B b1),(8,I e),(9,I M),(11,I k)],[.box ((Enc.e l).map (V1.rd [])),.box (stB b.Kind b.Owner X1 y (if b1 = true then 0 else b.VX) b.VY b.Aim b.Life b.Timer),.box (stB 0 0 0 0 0 0 0 0 0)]⟩ : St)) (k + 1) (y + e),W_go [0,1,2] (by decide) rfl (rfl) (.cons rfl (.cons rfl (.cons rfl (.cons rfl (.cons rfl (.cons rfl (.cons rfl (.cons rfl (.nil))))))))),k + 1,y + e,rfl,⟨by omega,hh,by rw [show M - (k + 1) = m by omega]; exact hsl⟩,rfl⟩
    · have hb : decide ((k : Int) < M) = false := decide_eq_false (by omega)
      rw [show M - k = 0 by omega,slide] at hsl
      obtain ⟨rfl,rfl⟩ := Prod.mk.inj hsl
      refine Qd (Qd (Qc ?_));refine M0 (Qa J J J) J J ?_;refine M0 (Qa J J J) J J ?_
      refine M0 (Qr J J J J (by assumption)) J J ?_;refine Qe (Q0 ?_);refine Ql rfl ?_;refine Q9 (T_x (T_x (B_xs ?_)))
      exact Mid.n (W_go [0,1,2] (by decide) rfl (rfl) (.cons rfl (.cons rfl (.cons rfl (.cons rfl (.cons (by cases b1 <;> rfl) (.nil)))))))
  refine Qd (Qc ?_);refine M0 (Qu J J J J J J) J J ?_;refine M0 (Qa J J J) J J ?_;refine Qy J J J J J J J J J ?_
  refine M0 (Qb J J J) J J ?_;refine Qe (Q0 (Xa (F_r ?_)))
  exact E_cellt J J J J J (W_end [] (by decide) J J J)
set_option maxHeartbeats 8000000 in
theorem S_l02Move (l : TLevel) (b : TBody) (hg : Enc.gd l) (hl : levelOk l = true) (hk : 0 ≤ b.Kind ∧ b.Kind ≤ 2) (hp : solidM l b.X b.Y (sizeOf b.Kind) = false) (hx : -15 ≤ b.VX ∧ b.VX ≤ 15) (hy : -15 ≤ b.VY ∧ b.VY ≤ 15) : Con Try.prog 124 [] [ag l,ag b] [] (.tu [.ag ((Enc.e (moveM l b).1).map (V1.rd [])),.c (bv (moveM l b).2)]) := by
  obtain ⟨s4,s12⟩ := size_pos hk
  obtain ⟨s,hs⟩ : ∃ s,s = sizeOf b.Kind := ⟨_,rfl⟩
  rw [← hs] at s4 s12 hp
  have cz := S_SizeOf b.Kind
  rw [← hs] at cz
  obtain ⟨⟨px1,px2⟩,⟨py1,py2⟩⟩ := place_rng hl ⟨by omega,by omega⟩ hp
  obtain ⟨X1,b1,hR⟩ : ∃ X1 b1,(X1,b1) = moveX l b := ⟨_,_,rfl⟩
  obtain ⟨Y1,b2,hS⟩ : ∃ Y1 b2,(Y1,b2) = moveY l b := ⟨_,_,rfl⟩
  obtain ⟨N,hN⟩ : ∃ N,N = b.VX.natAbs := ⟨_,rfl⟩
  obtain ⟨M,hM⟩ : ∃ M,M = b.VY.natAbs := ⟨_,rfl⟩
  obtain ⟨d,hd⟩ : ∃ d,d = dirOf b.VX := ⟨_,rfl⟩
  obtain ⟨e,he⟩ : ∃ e,e = dirOf b.VY := ⟨_,rfl⟩
  have hd1 : -1 ≤ d ∧ d ≤ 1 := by rw [hd,dirOf]; split <;> omega
  have he1 : -1 ≤ e ∧ e ≤ 1 := by rw [he,dirOf]; split <;> omega
  have hR1 : slide (fun z => solidM l z b.Y s) d (N - 0) b.X = (X1,b1) := by rw [hs,hd,hN]; exact hR.symm
  have hR2 : slide (fun z => solidM l X1 z s) e (M - 0) b.Y = (Y1,b2) := by rw [show X1 = (moveX l b).1 by rw [← hR],hs,he,hM]; exact hS.symm
  have hp2 : solidM l X1 b.Y s = false := by have h := slide_free (hit := fun z => solidM l z b.Y s) (step := d) (N - 0) b.X hp; rw [hR1] at h; exact h
  have hmm : moveM l b = (⟨b.Kind,b.Owner,X1,Y1,if b1 = true then 0 else b.VX,if b2 = true then 0 else b.VY,b.Aim,b.Life,b.Timer⟩,b1 || b2) := by rw [moveM,← hR,← hS]
  rw [hmm]
  have hNb : N ≤ 15 := by omega
  have hMb : M ≤ 15 := by omega
  refine Con.of Try.func124 rfl Try.ntmps124 rfl (fun E => ?_)
  refine Qd (Qc ?_);refine M1 (Qq J J J J) J J ?_;refine M1 (Qq J J J J) J J ?_;refine M1 (Qx J J J) J J ?_
  refine M0 (Qb J J J) J J ?_;refine Qe (Q0 (Qd (Qc ?_)));refine M0 (Qf J J J J (by decide)) J J ?_
  refine M0 (Qg J J J J J) J J ?_;refine M0 (Qj J J (cz) rfl) J J ?_;refine M0 (Qb J J J) J J ?_;refine Qe (Q0 ?_)
  refine Qd (Qc ?_);refine M0 (Qb J J J) J J ?_;refine Qe (Q0 (Qd (Qc ?_)))
  refine M0 (Qb J J J) J J ?_;refine Qe (Q0 (Qd (Qc ?_)));refine M0 (Qf J J J J (by decide)) J J ?_
  refine M0 (Qg J J J J J) J J ?_;refine M0 (Qb J J J) J J ?_;refine Qe (Q0 (Qd (Qd (Qc ?_))))
  refine M0 (Qa J J J) J J ?_;refine M0 (q_lss J J J J) J J ?_;refine Qe (Q0 ?_)
  refine A_join (⟨65,[(2,.o (.c (.ptr 0 0))),(3,.o (.c (.ptr 1 0))),(4,.o (.c (.ptr 2 0))),(6,I s),(7,B false),(8,I d),(9,I N)],[.box ((Enc.e l).map (V1.rd [])),.box (stB b.Kind b.Owner b.X b.Y b.VX b.VY b.Aim b.Life b.Timer),.box (stB 0 0 0 0 0 0 0 0 0)]⟩ : St) ?_ ?_
  · refine Xb rfl (fun h => ?_) (fun h => ?_)
    · have h := of_decide_eq_true h
      obtain rfl : d = -1 := by rw [hd,dirOf,if_pos h]
      have hq : (N : Int) = -b.VX := by omega
      refine Qd (Qc ?_);refine M0 (Qb J J J) J J ?_;refine Qe (Q0 (Qc ?_));refine M0 (Qa J J J) J J ?_
      refine M0 (q_neg J J J (by omega)) J J ?_;refine M0 (Qb J J J) J J ?_;refine Qe ?_
      exact Mid.n (W_go [0,1,2] (by decide) rfl (rfl) (.cons rfl (.cons rfl (.cons rfl (.cons rfl (.cons rfl (.cons rfl (.cons (by rw [hq]; rfl) (.nil)))))))))
    · have h := of_decide_eq_false h
      obtain rfl : d = 1 := by rw [hd,dirOf,if_neg h]
      have hq : (N : Int) = b.VX := by omega
      refine Qh ?_
      exact Mid.n (W_go [0,1,2] (by decide) rfl (rfl) (.cons rfl (.cons rfl (.cons rfl (.cons rfl (.cons rfl (.cons rfl (.cons (by rw [hq]; rfl) (.nil)))))))))
  refine Qd (Qk ?_)
  refine A_joinb (⟨65,[(2,.o (.c (.ptr 0 0))),(3,.o (.c (.ptr 1 0))),(4,.o (.c (.ptr 2 0))),(6,I s),(7,B b1)],[.box ((Enc.e l).map (V1.rd [])),.box (stB b.Kind b.Owner X1 b.Y (if b1 = true then 0 else b.VX) b.VY b.Aim b.Life b.Timer),.box (stB 0 0 0 0 0 0 0 0 0)]⟩ : St) ?_ ?_
  · skip
    refine A_loop (fun m__ st => ∃ (k : Nat) (x : Int),N - k = m__ ∧ (k ≤ N ∧ solidM l x b.Y s = false ∧ slide (fun z => solidM l z b.Y s) d (N - k) x = (X1,b1)) ∧ st = (fun (k : Nat) (x : Int) => (⟨_,[(2,.o (.c (.ptr 0 0))),(3,.o (.c (.ptr 1 0))),(4,.o (.c (.ptr 2 0))),(6,I s),(7,B false),(8,I d),(9,I ((N : Int) - k))],[.box ((Enc.e l).map (V1.rd [])),.box (stB b.Kind b.Owner x b.Y b.VX b.VY b.Aim b.Life b.Timer),.box (stB 0 0 0 0 0 0 0 0 0)]⟩ : St)) (k) (x)) ((fun (k : Nat) (x : Int) => N - k) (0) (b.X)) ⟨(fun (k : Nat) (x : Int) => (⟨_,[(2,.o (.c (.ptr 0 0))),(3,.o (.c (.ptr 1 0))),(4,.o (.c (.ptr 2 0))),(6,I s),(7,B false),(8,I d),(9,I ((N : Int) - k))],[.box ((Enc.e l).map (V1.rd [])),.box (stB b.Kind b.Owner x b.Y b.VX b.VY b.Aim b.Life b.Timer),.box (stB 0 0 0 0 0 0 0 0 0)]⟩ : St)) (0) (b.X),W_go [0,1,2] (by decide) rfl (rfl) (.cons rfl (.cons rfl (.cons rfl (.cons rfl (.cons rfl (.cons rfl (.cons (by rw [show ((N : Int) - ((0 : Nat) : Int)) = (N : Int) by omega]; rfl) (.nil)))))))),0,b.X,rfl,⟨by omega,hp,hR1⟩,rfl⟩ ?_
    rintro m_A _ ⟨k,x,hk_A,hp_A,rfl⟩
    obtain ⟨hkn,hfr,hsl⟩ := hp_A
    obtain ⟨⟨qx1,qx2⟩,_⟩ := place_rng hl ⟨by omega,by omega⟩ hfr
    by_cases hlt : k < N
    · have hb : decide ((0 : Int) < (N : Int) - k) = true := decide_eq_true (by omega)
      have cs := S_l02Solid l (x + d) b.Y s hl ⟨by omega,by omega⟩ ⟨by omega,by omega⟩ (by omega) (by omega)
      obtain ⟨m,hm⟩ : ∃ m,N - k = m + 1 := ⟨N - k - 1,by omega⟩
      cases hh : solidM l (x + d) b.Y s with
      | true =>
        rw [hh] at cs
        rw [hm,slide_hit (hit := fun z => solidM l z b.Y s) hh] at hsl
        obtain ⟨rfl,rfl⟩ := Prod.mk.inj hsl
        refine Qd (Qd (Qc ?_));refine M0 (Qa J J J) J J ?_;refine M0 (q_gtrK J J J J (by assumption)) J J ?_;refine Qe (Q0 ?_)
        refine Qm rfl ?_;refine Qh (Q0 (Qd (Qk (Qd (Qd (Qc ?_))))));refine M0 (Qu J J J J J J) J J ?_
        refine M0 (Qf J J J J (by decide)) J J ?_;refine M0 (Qg J J J J J) J J ?_;refine M0 (Qa J J J) J J ?_
        refine M0 (Qs J J J J (by omega)) J J ?_;refine M0 (Qf J J J J (by decide)) J J ?_;refine M0 (Qg J J J J J) J J ?_
        refine M0 (Qa J J J) J J ?_;refine M0 (Qj J J (cs) rfl) J J ?_;refine Qe (Q0 ?_);refine Qm rfl ?_;refine Qd (Qc ?_)
        refine M0 (Qf J J J J (by decide)) J J ?_;refine Q5 J J J J J J J J ?_;refine Qe (Q0 (Qd (Qc ?_)))
        refine M0 (Qb J J J) J J ?_;refine Qe (Q0 (Q9 (T_x ?_)));refine B_xo rfl ?_;refine T_x (T_x (B_xs ?_))
        exact Mid.n (W_go [0,1,2] (by decide) rfl (rfl) (.cons rfl (.cons rfl (.cons rfl (.cons rfl (.cons rfl (.nil)))))))
      | false =>
        rw [hh] at cs
        rw [hm,slide_go (hit := fun z => solidM l z b.Y s) hh] at hsl
        refine Qd (Qd (Qc ?_));refine M0 (Qa J J J) J J ?_;refine M0 (q_gtrK J J J J (by assumption)) J J ?_;refine Qe (Q0 ?_)
        refine Qm rfl ?_;refine Qh (Q0 (Qd (Qk (Qd (Qd (Qc ?_))))));refine M0 (Qu J J J J J J) J J ?_
        refine M0 (Qf J J J J (by decide)) J J ?_;refine M0 (Qg J J J J J) J J ?_;refine M0 (Qa J J J) J J ?_
        refine M0 (Qs J J J J (by omega)) J J ?_;refine M0 (Qf J J J J (by decide)) J J ?_;refine M0 (Qg J J J J J) J J ?_
        refine M0 (Qa J J J) J J ?_;refine M0 (Qj J J (cs) rfl) J J ?_;refine Qe (Q0 ?_);refine Ql rfl ?_;refine Qh (Q0 ?_)
        refine Qc ?_;refine M0 (Qf J J J J (by decide)) J J ?_;refine M0 (Qg J J J J J) J J ?_;refine M0 (Qa J J J) J J ?_
        refine M0 (Qs J J J J (by omega)) J J ?_;refine M0 (Qf J J J J (by decide)) J J ?_;refine Q5 J J J J J J J J ?_;refine Qe ?_
        refine Q1 (Q0 (Qc ?_));refine M0 (Qa J J J) J J ?_;refine M0 (Xc J J J J (by omega)) J J ?_
        refine M0 (Qb J J J) J J ?_;refine Qe (Q0 ?_)
        refine ⟨N - (k + 1),(by omega),(fun (k : Nat) (x : Int) => (⟨_,[(2,.o (.c (.ptr 0 0))),(3,.o (.c (.ptr 1 0))),(4,.o (.c (.ptr 2 0))),(6,I s),(7,B false),(8,I d),(9,I ((N : Int) - k))],[.box ((Enc.e l).map (V1.rd [])),.box (stB b.Kind b.Owner x b.Y b.VX b.VY b.Aim b.Life b.Timer),.box (stB 0 0 0 0 0 0 0 0 0)]⟩ : St)) (k + 1) (x + d),W_go [0,1,2] (by decide) rfl (rfl) (.cons rfl (.cons rfl (.cons rfl (.cons rfl (.cons rfl (.cons rfl (.cons (by rw [show ((N : Int) - ((k + 1 : Nat) : Int)) = (N : Int) - k - 1 by omega]; rfl) (.nil)))))))),k + 1,x + d,rfl,⟨by omega,hh,by rw [show N - (k + 1) = m by omega]; exact hsl⟩,rfl⟩
    · have hb : decide ((0 : Int) < (N : Int) - k) = false := decide_eq_false (by omega)
      rw [show N - k = 0 by omega,slide] at hsl
      obtain ⟨rfl,rfl⟩ := Prod.mk.inj hsl
      refine Qd (Qd (Qc ?_));refine M0 (Qa J J J) J J ?_;refine M0 (q_gtrK J J J J (by assumption)) J J ?_;refine Qe (Q0 ?_)
      refine Ql rfl ?_;refine Q9 (T_x (T_x (B_xs ?_)))
      exact Mid.n (W_go [0,1,2] (by decide) rfl (rfl) (.cons rfl (.cons rfl (.cons rfl (.cons rfl (.cons rfl (.nil)))))))
  refine Qd (Qc ?_);refine M0 (Qb J J J) J J ?_;refine Qe (Q0 (Qd (Qc ?_)))
  refine M0 (Qf J J J J (by decide)) J J ?_;refine M0 (Qg J J J J J) J J ?_;refine M0 (Qb J J J) J J ?_;refine Qe (Q0 ?_)
  refine Qd (Qd (Qc ?_));refine M0 (Qa J J J) J J ?_;refine M0 (q_lss J J J J) J J ?_;refine Qe (Q0 ?_)
  refine A_join (⟨65,[(2,.o (.c (.ptr 0 0))),(3,.o (.c (.ptr 1 0))),(4,.o (.c (.ptr 2 0))),(6,I s),(7,B b1),(8,I e),(9,I M)],[.box ((Enc.e l).map (V1.rd [])),.box (stB b.Kind b.Owner X1 b.Y (if b1 = true then 0 else b.VX) b.VY b.Aim b.Life b.Timer),.box (stB 0 0 0 0 0 0 0 0 0)]⟩ : St) ?_ ?_
  · refine Xb rfl (fun h => ?_) (fun h => ?_)
    · have h := of_decide_eq_true h
      obtain rfl : e = -1 := by rw [he,dirOf,if_pos h]
      have hq : (M : Int) = -b.VY := by omega
      refine Qd (Qc ?_);refine M0 (Qb J J J) J J ?_;refine Qe (Q0 (Qc ?_));refine M0 (Qa J J J) J J ?_
      refine M0 (q_neg J J J (by omega)) J J ?_;refine M0 (Qb J J J) J J ?_;refine Qe ?_
      exact Mid.n (W_go [0,1,2] (by decide) rfl (rfl) (.cons rfl (.cons rfl (.cons rfl (.cons rfl (.cons rfl (.cons rfl (.cons (by rw [hq]; rfl) (.nil)))))))))
    · have h := of_decide_eq_false h
      obtain rfl : e = 1 := by rw [he,dirOf,if_neg h]
      have hq : (M : Int) = b.VY := by omega
      refine Qh ?_
      exact Mid.n (W_go [0,1,2] (by decide) rfl (rfl) (.cons rfl (.cons rfl (.cons rfl (.cons rfl (.cons rfl (.cons rfl (.cons (by rw [hq]; rfl) (.nil)))))))))
  refine Qd (Qk ?_)
  refine A_joinb (⟨65,[(2,.o (.c (.ptr 0 0))),(3,.o (.c (.ptr 1 0))),(4,.o (.c (.ptr 2 0))),(6,I s),(7,B (b1 || b2))],[.box ((Enc.e l).map (V1.rd [])),.box (stB b.Kind b.Owner X1 Y1 (if b1 = true then 0 else b.VX) (if b2 = true then 0 else b.VY) b.Aim b.Life b.Timer),.box (stB 0 0 0 0 0 0 0 0 0)]⟩ : St) ?_ ?_
  · skip
    refine A_loop (fun m__ st => ∃ (k : Nat) (y : Int),M - k = m__ ∧ (k ≤ M ∧ solidM l X1 y s = false ∧ slide (fun z => solidM l X1 z s) e (M - k) y = (Y1,b2)) ∧ st = (fun (k : Nat) (y : Int) => (⟨_,[(2,.o (.c (.ptr 0 0))),(3,.o (.c (.ptr 1 0))),(4,.o (.c (.ptr 2 0))),(6,I s),(7,B b1),(8,I e),(9,I ((M : Int) - k))],[.box ((Enc.e l).map (V1.rd [])),.box (stB b.Kind b.Owner X1 y (if b1 = true then 0 else b.VX) b.VY b.Aim b.Life b.Timer),.box (stB 0 0 0 0 0 0 0 0 0)]⟩ : St)) (k) (y)) ((fun (k : Nat) (y : Int) => M - k) (0) (b.Y)) ⟨(fun (k : Nat) (y : Int) => (⟨_,[(2,.o (.c (.ptr 0 0))),(3,.o (.c (.ptr 1 0))),(4,.o (.c (.ptr 2 0))),(6,I s),(7,B b1),(8,I e),(9,I ((M : Int) - k))],[.box ((Enc.e l).map (V1.rd [])),.box (stB b.Kind b.Owner X1 y (if b1 = true then 0 else b.VX) b.VY b.Aim b.Life b.Timer),.box (stB 0 0 0 0 0 0 0 0 0)]⟩ : St)) (0) (b.Y),W_go [0,1,2] (by decide) rfl (rfl) (.cons rfl (.cons rfl (.cons rfl (.cons rfl (.cons rfl (.cons rfl (.cons (by rw [show ((M : Int) - ((0 : Nat) : Int)) = (M : Int) by omega]; rfl) (.nil)))))))),0,b.Y,rfl,⟨by omega,hp2,hR2⟩,rfl⟩ ?_
    rintro m_B _ ⟨k,y,hk_B,hp_B,rfl⟩
    obtain ⟨hkn,hfr,hsl⟩ := hp_B
    obtain ⟨_,⟨qx1,qx2⟩⟩ := place_rng hl ⟨by omega,by omega⟩ hfr
    by_cases hlt : k < M
    · have hb : decide ((0 : Int) < (M : Int) - k) = true := decide_eq_true (by omega)
      have cs := S_l02Solid l X1 (y + e) s hl ⟨by omega,by omega⟩ ⟨by omega,by omega⟩ (by omega) (by omega)
      obtain ⟨m,hm⟩ : ∃ m,M - k = m + 1 := ⟨M - k - 1,by omega⟩
      cases hh : solidM l X1 (y + e) s with
      | true =>
        rw [hh] at cs
        rw [hm,slide_hit (hit := fun z => solidM l X1 z s) hh] at hsl
        obtain ⟨rfl,rfl⟩ := Prod.mk.inj hsl
        refine Qd (Qd (Qc ?_));refine M0 (Qa J J J) J J ?_;refine M0 (q_gtrK J J J J (by assumption)) J J ?_;refine Qe (Q0 ?_)
        refine Qm rfl ?_;refine Qh (Q0 (Qd (Qk (Qd (Qd (Qc ?_))))));refine M0 (Qu J J J J J J) J J ?_
        refine M0 (Qf J J J J (by decide)) J J ?_;refine M0 (Qg J J J J J) J J ?_;refine M0 (Qf J J J J (by decide)) J J ?_
        refine M0 (Qg J J J J J) J J ?_;refine M0 (Qa J J J) J J ?_;refine M0 (Qs J J J J (by omega)) J J ?_
        refine M0 (Qa J J J) J J ?_;refine M0 (Qj J J (cs) rfl) J J ?_;refine Qe (Q0 ?_);refine Qm rfl ?_;refine Qd (Qc ?_)
        refine M0 (Qf J J J J (by decide)) J J ?_;refine Q5 J J J J J J J J ?_;refine Qe (Q0 (Qd (Qc ?_)))
        refine M0 (Qb J J J) J J ?_;refine Qe (Q0 (Q9 (T_x ?_)));refine B_xo rfl ?_;refine T_x (T_x (B_xs ?_))
        exact Mid.n (W_go [0,1,2] (by decide) rfl (rfl) (.cons rfl (.cons rfl (.cons rfl (.cons rfl (.cons (by cases b1 <;> rfl) (.nil)))))))
      | false =>
        rw [hh] at cs
        rw [hm,slide_go (hit := fun z => solidM l X1 z s) hh] at hsl
        refine Qd (Qd (Qc ?_));refine M0 (Qa J J J) J J ?_;refine M0 (q_gtrK J J J J (by assumption)) J J ?_;refine Qe (Q0 ?_)
        refine Qm rfl ?_;refine Qh (Q0 (Qd (Qk (Qd (Qd (Qc ?_))))));refine M0 (Qu J J J J J J) J J ?_
        refine M0 (Qf J J J J (by decide)) J J ?_;refine M0 (Qg J J J J J) J J ?_;refine M0 (Qf J J J J (by decide)) J J ?_
        refine M0 (Qg J J J J J) J J ?_;refine M0 (Qa J J J) J J ?_;refine M0 (Qs J J J J (by omega)) J J ?_
        refine M0 (Qa J J J) J J ?_;refine M0 (Qj J J (cs) rfl) J J ?_;refine Qe (Q0 ?_);refine Ql rfl ?_;refine Qh (Q0 ?_)
        refine Qc ?_;refine M0 (Qf J J J J (by decide)) J J ?_;refine M0 (Qg J J J J J) J J ?_;refine M0 (Qa J J J) J J ?_
        refine M0 (Qs J J J J (by omega)) J J ?_;refine M0 (Qf J J J J (by decide)) J J ?_;refine Q5 J J J J J J J J ?_;refine Qe ?_
        refine Q1 (Q0 (Qc ?_));refine M0 (Qa J J J) J J ?_;refine M0 (Xc J J J J (by omega)) J J ?_
        refine M0 (Qb J J J) J J ?_;refine Qe (Q0 ?_)
        refine ⟨M - (k + 1),(by omega),(fun (k : Nat) (y : Int) => (⟨_,[(2,.o (.c (.ptr 0 0))),(3,.o (.c (.ptr 1 0))),(4,.o (.c (.ptr 2 0))),(6,I s),(7,B b1),(8,I e),(9,I ((M : Int) - k))],[.box ((Enc.e l).map (V1.rd [])),.box (stB b.Kind b.Owner X1 y (if b1 = true then 0 else b.VX) b.VY b.Aim b.Life b.Timer),.box (stB 0 0 0 0 0 0 0 0 0)]⟩ : St)) (k + 1) (y + e),W_go [0,1,2] (by decide) rfl (rfl) (.cons rfl (.cons rfl (.cons rfl (.cons rfl (.cons rfl (.cons rfl (.cons (by rw [show ((M : Int) - ((k + 1 : Nat) : Int)) = (M : Int) - k - 1 by omega]; rfl) (.nil)))))))),k + 1,y + e,rfl,⟨by omega,hh,by rw [show M - (k + 1) = m by omega]; exact hsl⟩,rfl⟩
    · have hb : decide ((0 : Int) < (M : Int) - k) = false := decide_eq_false (by omega)
      rw [show M - k = 0 by omega,slide] at hsl
      obtain ⟨rfl,rfl⟩ := Prod.mk.inj hsl
      refine Qd (Qd (Qc ?_));refine M0 (Qa J J J) J J ?_;refine M0 (q_gtrK J J J J (by assumption)) J J ?_;refine Qe (Q0 ?_)
      refine Ql rfl ?_;refine Q9 (T_x (T_x (B_xs ?_)))
      exact Mid.n (W_go [0,1,2] (by decide) rfl (rfl) (.cons rfl (.cons rfl (.cons rfl (.cons rfl (.cons (by cases b1 <;> rfl) (.nil)))))))
  refine Qd (Qc ?_);refine M0 (Qu J J J J J J) J J ?_;refine M0 (Qa J J J) J J ?_;refine Qy J J J J J J J J J ?_
  refine M0 (Qb J J J) J J ?_;refine Qe (Q0 (Xa (F_r ?_)))
  exact E_cellt J J J J J (W_end [] (by decide) J J J)
end Go.Proofs.Ytmljakmaffbnlaa
end

section
set_option linter.unusedSimpArgs false
set_option linter.unusedVariables false
set_option maxRecDepth 8000
namespace Go.Proofs.Ytmljakmaffbnlaa
open Go.RowKit

def metC (bs : List TBody) (b : TBody) (o : Int) (k : Nat) : Bool := match bs[k]? with
  | none => false
  | some p => (decide ((k : Int) ≠ o) && decide (0 < p.Life)) && meetM p b
/-- The first of n players that is met. -/
def metF (bs : List TBody) (b : TBody) (o : Int) : Nat → Option Nat
  | 0 => none
  | n + 1 => match metF bs b o n with
    | some k => some k
    | none => if metC bs b o n = true then some n else none
def metI (bs : List TBody) (b : TBody) (o : Int) (n : Nat) : Int := match metF bs b o n with
  | some k => k
  | none => -1
section
variable {bs : List TBody} {b p : TBody} {o : Int} {k n : Nat}
theorem metC_at (h : bs[k]? = some p) : metC bs b o k = ((decide ((k : Int) ≠ o) && decide (0 < p.Life)) && meetM p b) := by rw [metC,h]
theorem metF_no (h : metF bs b o k = none) (hc : metC bs b o k = false) : metF bs b o (k + 1) = none := by rw [metF,h]; simp [hc]
theorem metF_hit (h : metF bs b o k = none) (hc : metC bs b o k = true) : ∀ {n : Nat},k < n → metF bs b o n = some k
  | n + 1,hlt => by
    rcases Nat.lt_or_ge k n with h1 | h1
    · rw [metF,metF_hit h hc h1]
    · have : k = n := by omega
      subst this
      rw [metF,h]; simp [hc]
theorem metF_lt : ∀ {n : Nat},metF bs b o n = some k → k < n ∧ metC bs b o k = true
  | 0,h => by cases h
  | n + 1,h => by
    rw [metF] at h
    cases hm : metF bs b o n with
    | some j =>
      rw [hm] at h
      cases h
      have := metF_lt hm
      exact ⟨by omega,this.2⟩
    | none =>
      rw [hm] at h
      simp only at h
      split at h
      · cases h; rename_i hc; exact ⟨by omega,hc⟩
      · cases h
theorem metC_life (h : metC bs b o k = true) : ∃ p,bs[k]? = some p ∧ 0 < p.Life ∧ (k : Int) ≠ o ∧ meetM p b = true := by
  unfold metC at h
  split at h
  · cases h
  · rename_i p hp
    simp only [Bool.and_eq_true,decide_eq_true_eq] at h
    exact ⟨p,hp,h.1.2,h.1.1,h.2⟩
end
theorem els_sm {α : Type} [Enc α] {xs : List α} {i : Nat} {x : α} (h : xs[i]? = some x) : (els xs)[(i : Int).toNat]? = some (Enc.e x) := by simp [els,h]
theorem some_sm {α : Type} {xs : List α} {i : Nat} (h : i < xs.length) : ∃ x,xs[i]? = some x := ⟨xs[i],List.getElem?_eq_getElem h⟩
set_option maxHeartbeats 8000000 in
theorem I_playerMet (w : TWorld) (b : TBody) (o : Int) (hn : w.Scores.length ≤ w.Bodies.length) (h4 : w.Scores.length ≤ 4) (hp : ∀ k p,k < w.Scores.length → w.Bodies[k]? = some p → Placed p) (hb : Placed b) : Con Try.prog 132 [.box [.ref 1,jn w.Tick,jn w.Seed,.ref 2,.ref 3],.row 1 (els w.Level.Rows),.row 1 (els w.Scores),.row 9 (els w.Bodies),.gh 0 (.c (.ptr 0 0)),.gh 6 (.c (.ref 3))] [.c (.ptr 0 0),ag b,ai o] [.box [.ref 1,jn w.Tick,jn w.Seed,.ref 2,.ref 3],.row 1 (els w.Level.Rows),.row 1 (els w.Scores),.row 9 (els w.Bodies),.gh 0 (.c (.ptr 0 0)),.gh 6 (.c (.ref 3))] (I (metI w.Bodies b o w.Scores.length)) := by
  have hls := els_len w.Scores
  have hlb := els_len w.Bodies
  refine Con.of Try.func132 rfl Try.ntmps132 rfl (fun E => ?_)
  refine Qd (Qc ?_);refine M1 (Qq J J J J) J J ?_;refine M0 (Qb J J J) J J ?_;refine Qe (Q0 (Qd (Qd ?_)))
  refine Qc ?_;refine M0 (Qa J J J) J J ?_;refine M0 (Qz J J J) J J ?_;refine M0 (Qf J J J J (by decide)) J J ?_
  refine M0 (Qg J J J J J) J J ?_;refine M0 (q_lenr J J J J) J J ?_;refine M0 (Qa J J J) J J ?_;refine Qe (Q0 (Qk ?_))
  refine A_loop (fun m st => ∃ k : Nat,k + m = w.Scores.length ∧ (metF w.Bodies b o k = none) ∧ st = (fun k : Nat => (⟨_,[(0,.o (.c (.ptr 0 0))),(2,I o),(4,.o (.c (.ptr 6 0))),(12,I (els w.Scores).length),(13,I k)],[.box [.ref 1,jn w.Tick,jn w.Seed,.ref 2,.ref 3],.row 1 (els w.Level.Rows),.row 1 (els w.Scores),.row 9 (els w.Bodies),.gh 0 (.c (.ptr 0 0)),.gh 6 (.c (.ref 3)),.box ((Enc.e b).map (V1.rd []))]⟩ : St)) k) (w.Scores.length) ⟨(fun k : Nat => (⟨_,[(0,.o (.c (.ptr 0 0))),(2,I o),(4,.o (.c (.ptr 6 0))),(12,I (els w.Scores).length),(13,I k)],[.box [.ref 1,jn w.Tick,jn w.Seed,.ref 2,.ref 3],.row 1 (els w.Level.Rows),.row 1 (els w.Scores),.row 9 (els w.Bodies),.gh 0 (.c (.ptr 0 0)),.gh 6 (.c (.ref 3)),.box ((Enc.e b).map (V1.rd []))]⟩ : St)) 0,W_go [0,1,2,3,4,5,6] (by decide) rfl (rfl) (.cons rfl (.cons rfl (.cons rfl (.cons rfl (.cons rfl (.nil)))))),0,by omega,rfl,rfl⟩ ?_
  rintro m_A _ ⟨k,hk_A,hp_A,rfl⟩
  by_cases hlt : k < w.Scores.length
  · have hb0 : decide ((k : Int) < (els w.Scores).length) = true := decide_eq_true (by omega)
    obtain ⟨p,hp1⟩ := some_sm (xs := w.Bodies) (i := k) (by omega)
    have he := els_sm hp1
    have cm := I_BodiesMeet p b (hp k p hlt hp1) hb
    have hc := metC_at (b := b) (o := o) hp1
    by_cases h1 : (k : Int) = o
    · have f1 : decide ((k : Int) ≠ o) = false := decide_eq_false (fun q => q h1)
      refine Qd (Qc ?_);refine M0 (Qr J J J J (by assumption)) J J ?_;refine Qe (Q0 (Qd ?_));refine Qm rfl ?_;refine Qh ?_
      refine Q0 (Qd (Qk (Qd (Qc ?_))));refine M0 (Qa J J J) J J ?_;refine M0 (Qb J J J) J J ?_;refine Qe ?_
      refine Q0 (Qd ?_)
      refine A_draw [[],[],[0,1],[0,1,2],[0,1,2,3],[0,1,2,3,4],[0,1,2,3,4,5],[0,1,2,3,4,5,6],[0,1,2,3],[0,1,2,3,4,5,6,7,8],[0,1,2,3,4,5,6,7,8,9],[0,1,2,3,4,5,6,7,8,9,10],[0,1,2,3,4,5,6,7,8,9,10,11],[0,1,2,3,4,5,6,7,8,9,10,11,12],[0,1,2,3,4,5,6,7,8,9,10,11,12,13],[0,1,2,3,4,5,6,7,8,9,10,11,12,13,14],[0,1,2,3,4,5,6,7,8,9,10,11,12,13,14,15],[0,1,2,3,4,5,6,7,8,9,10,11,12,13,14,15,16],[0,1,2,3,4,5,6,7,8,9,10,11,12,13,14,15,16,17],[0,1,2,3,4,5,6,7,8,9,10,11,12,13,14],[0,1,2,3,4,5,6,7,8,9,10,11,12,13,14,15,16,17,18,19],[0,1,2,3,4,5,6,7,8,9,10,11,12,13,14,15,16,17,18,19,20],[0,1,2,3,4,5,6,7,8,9,10,11,12,13,14],[0,1,2,3,4,5,6,7,8,9,10,11,12,13,14,15,16,17,18,19,20,21,22],[0,1,2,3,4,5,6,7,8,9,10,11,12,13,14,15,16,17,18,19,20,21,22,23]] [[],[],[16,17],[16,17,18],[16,17,18,19],[16,17,18,19,20],[16,17,18,19,20,21],[16,17,18,19,20,21,22],[16,17,18,19],[16,17,18,19,20,21,22,23,24],[16,17,18,19,20,21,22,23,24,25],[16,17,18,19,20,21,22,23,24,25,26],[16,17,18,19,20,21,22,23,24,25,26,27],[16,17,18,19,20,21,22,23,24,25,26,27,28],[16,17,18,19,20,21,22,23,24,25,26,27,28,29],[16,17,18,19,20,21,22,23,24,25,26,27,28,29,30],[16,17,18,19,20,21,22,23,24,25,26,27,28,29,30,31],[16,17,18,19,20,21,22,23,24,25,26,27,28,29,30,31,32],[16,17,18,19,20,21,22,23,24,25,26,27,28,29,30,31,32,33],[16,17,18,19,20,21,22,23,24,25,26,27,28,29,30],[16,17,18,19,20,21,22,23,24,25,26,27,28,29,30,31,32,33,34,35],[16,17,18,19,20,21,22,23,24,25,26,27,28,29,30,31,32,33,34,35,36],[16,17,18,19,20,21,22,23,24,25,26,27,28,29,30],[16,17,18,19,20,21,22,23,24,25,26,27,28,29,30,31,32,33,34,35,36,37,38],[16,17,18,19,20,21,22,23,24,25,26,27,28,29,30,31,32,33,34,35,36,37,38,39]] [[17],[16],[],[],[24],[24],[24],[24],[20,21,22,23],[],[],[],[],[],[],[35,38],[35,38],[35,38],[35,38],[31,32,33,34,38],[38],[38],[31,32,33,34,35,36,37],[],[]] rfl ?_
      refine DR.step (Qa J J J) J J ?_;refine DR.step (Qa J J J) J J ?_;refine DR.step (Qw J J J J (by assumption)) J J ?_
      refine DR.step (Qa J J J) J J ?_;refine DR.step (Qt.no J J J J) J J ?_;refine DR.step (Qt.no J J J J) J J ?_
      refine DR.step (Qt.no J J J J) J J ?_;refine DR.step (Qt.no J J J J) J J ?_;refine DR.step (Qt.no J J J J) J J ?_
      refine DR.step (Qt.no J J J J) J J ?_;refine DR.step (Qt.no J J J J) J J ?_;refine DR.step (Qt.no J J J J) J J ?_
      refine DR.step (Qt.no J J J J) J J ?_;refine DR.step (Qn J J J J) J J ?_;refine DR.step (Qa J J J) J J ?_
      refine DR.step (Qt.no J J J J) J J ?_;refine DR.step (Qt.no J J J J) J J ?_;refine DR.step (Qt.no J J J J) J J ?_
      refine DR.step (Qt.no J J J J) J J ?_;refine DR.step (Qt.no J J J J) J J ?_;refine DR.step (Qt.no J J J J) J J ?_
      refine DR.step (Qt.no J J J J) J J ?_;refine DR.step (Qt.no J J J J) J J ?_;refine DR.step (Qt.no J J J J) J J ?_
      refine DR.step (Qn J J J J) J J ?_;refine DR.stop (by kernel_rfl) (by kernel_rfl) ?_
      refine Qe (Q0 ?_);refine Ql rfl ?_;refine Qh (Q1 (Q0 (Qc ?_)));refine M0 (Qs J J J J (by omega)) J J ?_
      refine M0 (Qa J J J) J J ?_;refine Qe (Q0 ?_)
      exact ⟨w.Scores.length - (k + 1),by omega,(fun k : Nat => (⟨_,[(0,.o (.c (.ptr 0 0))),(2,I o),(4,.o (.c (.ptr 6 0))),(12,I (els w.Scores).length),(13,I k)],[.box [.ref 1,jn w.Tick,jn w.Seed,.ref 2,.ref 3],.row 1 (els w.Level.Rows),.row 1 (els w.Scores),.row 9 (els w.Bodies),.gh 0 (.c (.ptr 0 0)),.gh 6 (.c (.ref 3)),.box ((Enc.e b).map (V1.rd []))]⟩ : St)) (k + 1),W_go [0,1,2,3,4,5,6] (by decide) rfl (rfl) (.cons rfl (.cons rfl (.cons rfl (.cons rfl (.cons rfl (.nil)))))),k + 1,by omega,metF_no hp_A (by rw [hc,f1]; rfl),rfl⟩
    have f1 : decide ((k : Int) ≠ o) = true := decide_eq_true h1
    by_cases h2 : 0 < p.Life
    · have f2 : decide (0 < p.Life) = true := decide_eq_true h2
      cases h3 : meetM p b with
      | false =>
        rw [h3] at cm
        refine Qd (Qc ?_);refine M0 (Qr J J J J (by assumption)) J J ?_;refine Qe (Q0 (Qd ?_));refine Qm rfl ?_;refine Qh ?_
        refine Q0 (Qd (Qk (Qd (Qc ?_))));refine M0 (Qa J J J) J J ?_;refine M0 (Qb J J J) J J ?_;refine Qe ?_
        refine Q0 (Qd ?_)
        refine A_draw [[],[],[0,1],[0,1,2],[0,1,2,3],[0,1,2,3,4],[0,1,2,3,4,5],[0,1,2,3,4,5,6],[0,1,2,3],[0,1,2,3,4,5,6,7,8],[0,1,2,3,4,5,6,7,8,9],[0,1,2,3,4,5,6,7,8,9,10],[0,1,2,3,4,5,6,7,8,9,10,11],[0,1,2,3,4,5,6,7,8,9,10,11,12],[0,1,2,3,4,5,6,7,8,9,10,11,12,13],[0,1,2,3,4,5,6,7,8,9,10,11,12,13,14],[0,1,2,3,4,5,6,7,8,9,10,11,12,13,14,15],[0,1,2,3,4,5,6,7,8,9,10,11,12,13,14,15,16],[0,1,2,3,4,5,6,7,8,9,10,11,12,13,14,15,16,17],[0,1,2,3,4,5,6,7,8,9,10,11,12,13,14],[0,1,2,3,4,5,6,7,8,9,10,11,12,13,14,15,16,17,18,19],[0,1,2,3,4,5,6,7,8,9,10,11,12,13,14,15,16,17,18,19,20],[0,1,2,3,4,5,6,7,8,9,10,11,12,13,14],[0,1,2,3,4,5,6,7,8,9,10,11,12,13,14,15,16,17,18,19,20,21,22],[0,1,2,3,4,5,6,7,8,9,10,11,12,13,14,15,16,17,18,19,20,21,22,23]] [[],[],[16,17],[16,17,18],[16,17,18,19],[16,17,18,19,20],[16,17,18,19,20,21],[16,17,18,19,20,21,22],[16,17,18,19],[16,17,18,19,20,21,22,23,24],[16,17,18,19,20,21,22,23,24,25],[16,17,18,19,20,21,22,23,24,25,26],[16,17,18,19,20,21,22,23,24,25,26,27],[16,17,18,19,20,21,22,23,24,25,26,27,28],[16,17,18,19,20,21,22,23,24,25,26,27,28,29],[16,17,18,19,20,21,22,23,24,25,26,27,28,29,30],[16,17,18,19,20,21,22,23,24,25,26,27,28,29,30,31],[16,17,18,19,20,21,22,23,24,25,26,27,28,29,30,31,32],[16,17,18,19,20,21,22,23,24,25,26,27,28,29,30,31,32,33],[16,17,18,19,20,21,22,23,24,25,26,27,28,29,30],[16,17,18,19,20,21,22,23,24,25,26,27,28,29,30,31,32,33,34,35],[16,17,18,19,20,21,22,23,24,25,26,27,28,29,30,31,32,33,34,35,36],[16,17,18,19,20,21,22,23,24,25,26,27,28,29,30],[16,17,18,19,20,21,22,23,24,25,26,27,28,29,30,31,32,33,34,35,36,37,38],[16,17,18,19,20,21,22,23,24,25,26,27,28,29,30,31,32,33,34,35,36,37,38,39]] [[17],[16],[],[],[24],[24],[24],[24],[20,21,22,23],[],[],[],[],[],[],[35,38],[35,38],[35,38],[35,38],[31,32,33,34,38],[38],[38],[31,32,33,34,35,36,37],[],[]] rfl ?_
        refine DR.step (Qa J J J) J J ?_;refine DR.step (Qa J J J) J J ?_;refine DR.step (Qw J J J J (by assumption)) J J ?_
        refine DR.step (Qa J J J) J J ?_;refine DR.step (Qt.yes J J J (Qa J J J)) J J ?_
        refine DR.step (Qt.yes J J J (Qz J J J)) J J ?_;refine DR.step (Qt.yes J J J (Qf J J J J (by decide))) J J ?_
        refine DR.step (Qt.yes J J J (Qg J J J J J)) J J ?_;refine DR.step (Qt.yes J J J (Qa J J J)) J J ?_
        refine DR.step (Qt.yes J J J (Q3 J J J J J (by omega) (by omega))) J J ?_;refine DR.step (Qt.yes J J J (q_flde J J J J (by decide))) J J ?_
        refine DR.step (Qt.yes J J J (Q7 J J J J (by assumption) rfl)) J J ?_;refine DR.step (Qt.yes J J J (q_gtrK J J J J (by assumption))) J J ?_
        refine DR.step (Qo J J J J) J J ?_;refine DR.step (Qa J J J) J J ?_;refine DR.step (Qt.yes J J J (Qa J J J)) J J ?_
        refine DR.step (Qt.yes J J J (Qz J J J)) J J ?_;refine DR.step (Qt.yes J J J (Qf J J J J (by decide))) J J ?_
        refine DR.step (Qt.yes J J J (Qg J J J J J)) J J ?_;refine DR.step (Qt.yes J J J (Qa J J J)) J J ?_
        refine DR.step (Qt.yes J J J (Q3 J J J J J (by omega) (by omega))) J J ?_
        refine DR.step (Qt.yes J J J (Q6 J J J J (by assumption) J J)) J J ?_;refine DR.step (Qt.yes J J J (Qu J J J J J J)) J J ?_
        refine DR.step (Qt.yes J J J (Qj J J (cm) rfl)) J J ?_;refine DR.step (Qo J J J J) J J ?_;refine DR.stop (by kernel_rfl) (by kernel_rfl) ?_
        refine Qe (Q0 ?_);refine Ql rfl ?_;refine Qh (Q1 (Q0 (Qc ?_)));refine M0 (Qs J J J J (by omega)) J J ?_
        refine M0 (Qa J J J) J J ?_;refine Qe (Q0 ?_)
        exact ⟨w.Scores.length - (k + 1),by omega,(fun k : Nat => (⟨_,[(0,.o (.c (.ptr 0 0))),(2,I o),(4,.o (.c (.ptr 6 0))),(12,I (els w.Scores).length),(13,I k)],[.box [.ref 1,jn w.Tick,jn w.Seed,.ref 2,.ref 3],.row 1 (els w.Level.Rows),.row 1 (els w.Scores),.row 9 (els w.Bodies),.gh 0 (.c (.ptr 0 0)),.gh 6 (.c (.ref 3)),.box ((Enc.e b).map (V1.rd []))]⟩ : St)) (k + 1),W_go [0,1,2,3,4,5,6] (by decide) rfl (rfl) (.cons rfl (.cons rfl (.cons rfl (.cons rfl (.cons rfl (.nil)))))),k + 1,by omega,metF_no hp_A (by rw [hc,h3,Bool.and_false]),rfl⟩
      | true =>
        rw [h3] at cm
        refine Qd (Qc ?_);refine M0 (Qr J J J J (by assumption)) J J ?_;refine Qe (Q0 (Qd ?_));refine Qm rfl ?_;refine Qh ?_
        refine Q0 (Qd (Qk (Qd (Qc ?_))));refine M0 (Qa J J J) J J ?_;refine M0 (Qb J J J) J J ?_;refine Qe ?_
        refine Q0 (Qd ?_)
        refine A_draw [[],[],[0,1],[0,1,2],[0,1,2,3],[0,1,2,3,4],[0,1,2,3,4,5],[0,1,2,3,4,5,6],[0,1,2,3],[0,1,2,3,4,5,6,7,8],[0,1,2,3,4,5,6,7,8,9],[0,1,2,3,4,5,6,7,8,9,10],[0,1,2,3,4,5,6,7,8,9,10,11],[0,1,2,3,4,5,6,7,8,9,10,11,12],[0,1,2,3,4,5,6,7,8,9,10,11,12,13],[0,1,2,3,4,5,6,7,8,9,10,11,12,13,14],[0,1,2,3,4,5,6,7,8,9,10,11,12,13,14,15],[0,1,2,3,4,5,6,7,8,9,10,11,12,13,14,15,16],[0,1,2,3,4,5,6,7,8,9,10,11,12,13,14,15,16,17],[0,1,2,3,4,5,6,7,8,9,10,11,12,13,14],[0,1,2,3,4,5,6,7,8,9,10,11,12,13,14,15,16,17,18,19],[0,1,2,3,4,5,6,7,8,9,10,11,12,13,14,15,16,17,18,19,20],[0,1,2,3,4,5,6,7,8,9,10,11,12,13,14],[0,1,2,3,4,5,6,7,8,9,10,11,12,13,14,15,16,17,18,19,20,21,22],[0,1,2,3,4,5,6,7,8,9,10,11,12,13,14,15,16,17,18,19,20,21,22,23]] [[],[],[16,17],[16,17,18],[16,17,18,19],[16,17,18,19,20],[16,17,18,19,20,21],[16,17,18,19,20,21,22],[16,17,18,19],[16,17,18,19,20,21,22,23,24],[16,17,18,19,20,21,22,23,24,25],[16,17,18,19,20,21,22,23,24,25,26],[16,17,18,19,20,21,22,23,24,25,26,27],[16,17,18,19,20,21,22,23,24,25,26,27,28],[16,17,18,19,20,21,22,23,24,25,26,27,28,29],[16,17,18,19,20,21,22,23,24,25,26,27,28,29,30],[16,17,18,19,20,21,22,23,24,25,26,27,28,29,30,31],[16,17,18,19,20,21,22,23,24,25,26,27,28,29,30,31,32],[16,17,18,19,20,21,22,23,24,25,26,27,28,29,30,31,32,33],[16,17,18,19,20,21,22,23,24,25,26,27,28,29,30],[16,17,18,19,20,21,22,23,24,25,26,27,28,29,30,31,32,33,34,35],[16,17,18,19,20,21,22,23,24,25,26,27,28,29,30,31,32,33,34,35,36],[16,17,18,19,20,21,22,23,24,25,26,27,28,29,30],[16,17,18,19,20,21,22,23,24,25,26,27,28,29,30,31,32,33,34,35,36,37,38],[16,17,18,19,20,21,22,23,24,25,26,27,28,29,30,31,32,33,34,35,36,37,38,39]] [[17],[16],[],[],[24],[24],[24],[24],[20,21,22,23],[],[],[],[],[],[],[35,38],[35,38],[35,38],[35,38],[31,32,33,34,38],[38],[38],[31,32,33,34,35,36,37],[],[]] rfl ?_
        refine DR.step (Qa J J J) J J ?_;refine DR.step (Qa J J J) J J ?_;refine DR.step (Qw J J J J (by assumption)) J J ?_
        refine DR.step (Qa J J J) J J ?_;refine DR.step (Qt.yes J J J (Qa J J J)) J J ?_
        refine DR.step (Qt.yes J J J (Qz J J J)) J J ?_;refine DR.step (Qt.yes J J J (Qf J J J J (by decide))) J J ?_
        refine DR.step (Qt.yes J J J (Qg J J J J J)) J J ?_;refine DR.step (Qt.yes J J J (Qa J J J)) J J ?_
        refine DR.step (Qt.yes J J J (Q3 J J J J J (by omega) (by omega))) J J ?_;refine DR.step (Qt.yes J J J (q_flde J J J J (by decide))) J J ?_
        refine DR.step (Qt.yes J J J (Q7 J J J J (by assumption) rfl)) J J ?_;refine DR.step (Qt.yes J J J (q_gtrK J J J J (by assumption))) J J ?_
        refine DR.step (Qo J J J J) J J ?_;refine DR.step (Qa J J J) J J ?_;refine DR.step (Qt.yes J J J (Qa J J J)) J J ?_
        refine DR.step (Qt.yes J J J (Qz J J J)) J J ?_;refine DR.step (Qt.yes J J J (Qf J J J J (by decide))) J J ?_
        refine DR.step (Qt.yes J J J (Qg J J J J J)) J J ?_;refine DR.step (Qt.yes J J J (Qa J J J)) J J ?_
        refine DR.step (Qt.yes J J J (Q3 J J J J J (by omega) (by omega))) J J ?_
        refine DR.step (Qt.yes J J J (Q6 J J J J (by assumption) J J)) J J ?_;refine DR.step (Qt.yes J J J (Qu J J J J J J)) J J ?_
        refine DR.step (Qt.yes J J J (Qj J J (cm) rfl)) J J ?_;refine DR.step (Qo J J J J) J J ?_;refine DR.stop (by kernel_rfl) (by kernel_rfl) ?_
        refine Qe (Q0 ?_);refine Qm rfl ?_;refine Qd (Qc ?_);refine M0 (Qa J J J) J J ?_;refine M0 (Qb J J J) J J ?_
        refine Qe (Q0 (Xa (B_r (T_r (T_r (B_r (T_r (F_r ?_))))))))
        exact E_tmp J J (W_end [0,1,2,3,4,5] (by decide) J J (I_eq (by rw [metI,metF_hit hp_A (by rw [hc,f1,f2,h3]; rfl) hlt])))
    · have f2 : decide (0 < p.Life) = false := decide_eq_false h2
      refine Qd (Qc ?_);refine M0 (Qr J J J J (by assumption)) J J ?_;refine Qe (Q0 (Qd ?_));refine Qm rfl ?_;refine Qh ?_
      refine Q0 (Qd (Qk (Qd (Qc ?_))));refine M0 (Qa J J J) J J ?_;refine M0 (Qb J J J) J J ?_;refine Qe ?_
      refine Q0 (Qd ?_)
      refine A_draw [[],[],[0,1],[0,1,2],[0,1,2,3],[0,1,2,3,4],[0,1,2,3,4,5],[0,1,2,3,4,5,6],[0,1,2,3],[0,1,2,3,4,5,6,7,8],[0,1,2,3,4,5,6,7,8,9],[0,1,2,3,4,5,6,7,8,9,10],[0,1,2,3,4,5,6,7,8,9,10,11],[0,1,2,3,4,5,6,7,8,9,10,11,12],[0,1,2,3,4,5,6,7,8,9,10,11,12,13],[0,1,2,3,4,5,6,7,8,9,10,11,12,13,14],[0,1,2,3,4,5,6,7,8,9,10,11,12,13,14,15],[0,1,2,3,4,5,6,7,8,9,10,11,12,13,14,15,16],[0,1,2,3,4,5,6,7,8,9,10,11,12,13,14,15,16,17],[0,1,2,3,4,5,6,7,8,9,10,11,12,13,14],[0,1,2,3,4,5,6,7,8,9,10,11,12,13,14,15,16,17,18,19],[0,1,2,3,4,5,6,7,8,9,10,11,12,13,14,15,16,17,18,19,20],[0,1,2,3,4,5,6,7,8,9,10,11,12,13,14],[0,1,2,3,4,5,6,7,8,9,10,11,12,13,14,15,16,17,18,19,20,21,22],[0,1,2,3,4,5,6,7,8,9,10,11,12,13,14,15,16,17,18,19,20,21,22,23]] [[],[],[16,17],[16,17,18],[16,17,18,19],[16,17,18,19,20],[16,17,18,19,20,21],[16,17,18,19,20,21,22],[16,17,18,19],[16,17,18,19,20,21,22,23,24],[16,17,18,19,20,21,22,23,24,25],[16,17,18,19,20,21,22,23,24,25,26],[16,17,18,19,20,21,22,23,24,25,26,27],[16,17,18,19,20,21,22,23,24,25,26,27,28],[16,17,18,19,20,21,22,23,24,25,26,27,28,29],[16,17,18,19,20,21,22,23,24,25,26,27,28,29,30],[16,17,18,19,20,21,22,23,24,25,26,27,28,29,30,31],[16,17,18,19,20,21,22,23,24,25,26,27,28,29,30,31,32],[16,17,18,19,20,21,22,23,24,25,26,27,28,29,30,31,32,33],[16,17,18,19,20,21,22,23,24,25,26,27,28,29,30],[16,17,18,19,20,21,22,23,24,25,26,27,28,29,30,31,32,33,34,35],[16,17,18,19,20,21,22,23,24,25,26,27,28,29,30,31,32,33,34,35,36],[16,17,18,19,20,21,22,23,24,25,26,27,28,29,30],[16,17,18,19,20,21,22,23,24,25,26,27,28,29,30,31,32,33,34,35,36,37,38],[16,17,18,19,20,21,22,23,24,25,26,27,28,29,30,31,32,33,34,35,36,37,38,39]] [[17],[16],[],[],[24],[24],[24],[24],[20,21,22,23],[],[],[],[],[],[],[35,38],[35,38],[35,38],[35,38],[31,32,33,34,38],[38],[38],[31,32,33,34,35,36,37],[],[]] rfl ?_
      refine DR.step (Qa J J J) J J ?_;refine DR.step (Qa J J J) J J ?_;refine DR.step (Qw J J J J (by assumption)) J J ?_
      refine DR.step (Qa J J J) J J ?_;refine DR.step (Qt.yes J J J (Qa J J J)) J J ?_
      refine DR.step (Qt.yes J J J (Qz J J J)) J J ?_;refine DR.step (Qt.yes J J J (Qf J J J J (by decide))) J J ?_
      refine DR.step (Qt.yes J J J (Qg J J J J J)) J J ?_;refine DR.step (Qt.yes J J J (Qa J J J)) J J ?_
      refine DR.step (Qt.yes J J J (Q3 J J J J J (by omega) (by omega))) J J ?_;refine DR.step (Qt.yes J J J (q_flde J J J J (by decide))) J J ?_
      refine DR.step (Qt.yes J J J (Q7 J J J J (by assumption) rfl)) J J ?_;refine DR.step (Qt.yes J J J (q_gtrK J J J J (by assumption))) J J ?_
      refine DR.step (Qo J J J J) J J ?_;refine DR.step (Qa J J J) J J ?_;refine DR.step (Qt.no J J J J) J J ?_
      refine DR.step (Qt.no J J J J) J J ?_;refine DR.step (Qt.no J J J J) J J ?_;refine DR.step (Qt.no J J J J) J J ?_
      refine DR.step (Qt.no J J J J) J J ?_;refine DR.step (Qt.no J J J J) J J ?_;refine DR.step (Qt.no J J J J) J J ?_
      refine DR.step (Qt.no J J J J) J J ?_;refine DR.step (Qt.no J J J J) J J ?_;refine DR.step (Qn J J J J) J J ?_
      refine DR.stop (by kernel_rfl) (by kernel_rfl) ?_
      refine Qe (Q0 ?_);refine Ql rfl ?_;refine Qh (Q1 (Q0 (Qc ?_)));refine M0 (Qs J J J J (by omega)) J J ?_
      refine M0 (Qa J J J) J J ?_;refine Qe (Q0 ?_)
      exact ⟨w.Scores.length - (k + 1),by omega,(fun k : Nat => (⟨_,[(0,.o (.c (.ptr 0 0))),(2,I o),(4,.o (.c (.ptr 6 0))),(12,I (els w.Scores).length),(13,I k)],[.box [.ref 1,jn w.Tick,jn w.Seed,.ref 2,.ref 3],.row 1 (els w.Level.Rows),.row 1 (els w.Scores),.row 9 (els w.Bodies),.gh 0 (.c (.ptr 0 0)),.gh 6 (.c (.ref 3)),.box ((Enc.e b).map (V1.rd []))]⟩ : St)) (k + 1),W_go [0,1,2,3,4,5,6] (by decide) rfl (rfl) (.cons rfl (.cons rfl (.cons rfl (.cons rfl (.cons rfl (.nil)))))),k + 1,by omega,metF_no hp_A (by rw [hc,f2,Bool.and_false,Bool.false_and]),rfl⟩
  · have hb0 : decide ((k : Int) < (els w.Scores).length) = false := decide_eq_false (by omega)
    have hk : k = w.Scores.length := by omega
    refine Qd (Qc ?_);refine M0 (Qr J J J J (by assumption)) J J ?_;refine Qe (Q0 (Qd ?_));refine Ql rfl ?_;refine Q9 ?_
    refine T_x (T_x (B_xs (Q0 (Qd (Qc ?_)))));refine M0 (Qb J J J) J J ?_;refine Qe (Q0 (Xa ?_))
    refine F_r ?_
    exact E_tmp J J (W_end [0,1,2,3,4,5] (by decide) J J (I_eq (by rw [metI,← hk,hp_A])))
set_option maxHeartbeats 8000000 in
theorem S_l02Meets (w : TWorld) (b : TBody) (o : Int) (hn : w.Scores.length ≤ w.Bodies.length) (h4 : w.Scores.length ≤ 4) (hp : ∀ k p,k < w.Scores.length → w.Bodies[k]? = some p → Placed p) (hb : Placed b) : Con Try.prog 135 [.box [.ref 1,jn w.Tick,jn w.Seed,.ref 2,.ref 3],.row 1 (els w.Level.Rows),.row 1 (els w.Scores),.row 9 (els w.Bodies),.gh 0 (.c (.ptr 0 0)),.gh 6 (.c (.ref 3))] [.c (.ptr 0 0),ag b,ai o] [.box [.ref 1,jn w.Tick,jn w.Seed,.ref 2,.ref 3],.row 1 (els w.Level.Rows),.row 1 (els w.Scores),.row 9 (els w.Bodies),.gh 0 (.c (.ptr 0 0)),.gh 6 (.c (.ref 3))] (I (metI w.Bodies b o w.Scores.length)) := by
  have hls := els_len w.Scores
  have hlb := els_len w.Bodies
  refine Con.of Try.func135 rfl Try.ntmps135 rfl (fun E => ?_)
  refine Qd (Qc ?_);refine M1 (Qq J J J J) J J ?_;refine M0 (Qb J J J) J J ?_;refine Qe (Q0 (Qd (Qd ?_)))
  refine Qc ?_;refine M0 (Qb J J J) J J ?_;refine Qe (Q0 (Qk ?_))
  refine A_loop (fun m st => ∃ k : Nat,k + m = w.Scores.length ∧ (metF w.Bodies b o k = none) ∧ st = (fun k : Nat => (⟨_,[(0,.o (.c (.ptr 0 0))),(2,I o),(4,.o (.c (.ptr 6 0))),(7,I k)],[.box [.ref 1,jn w.Tick,jn w.Seed,.ref 2,.ref 3],.row 1 (els w.Level.Rows),.row 1 (els w.Scores),.row 9 (els w.Bodies),.gh 0 (.c (.ptr 0 0)),.gh 6 (.c (.ref 3)),.box ((Enc.e b).map (V1.rd []))]⟩ : St)) k) (w.Scores.length) ⟨(fun k : Nat => (⟨_,[(0,.o (.c (.ptr 0 0))),(2,I o),(4,.o (.c (.ptr 6 0))),(7,I k)],[.box [.ref 1,jn w.Tick,jn w.Seed,.ref 2,.ref 3],.row 1 (els w.Level.Rows),.row 1 (els w.Scores),.row 9 (els w.Bodies),.gh 0 (.c (.ptr 0 0)),.gh 6 (.c (.ref 3)),.box ((Enc.e b).map (V1.rd []))]⟩ : St)) 0,W_go [0,1,2,3,4,5,6] (by decide) rfl (rfl) (.cons rfl (.cons rfl (.cons rfl (.cons rfl (.nil))))),0,by omega,rfl,rfl⟩ ?_
  rintro m_A _ ⟨k,hk_A,hp_A,rfl⟩
  by_cases hlt : k < w.Scores.length
  · have hb0 : decide ((k : Int) < (els w.Scores).length) = true := decide_eq_true (by omega)
    obtain ⟨p,hp1⟩ := some_sm (xs := w.Bodies) (i := k) (by omega)
    have he := els_sm hp1
    have cm := S_BodiesMeet p b (hp k p hlt hp1) hb
    have hc := metC_at (b := b) (o := o) hp1
    by_cases h1 : (k : Int) = o
    · have f1 : decide ((k : Int) ≠ o) = false := decide_eq_false (fun q => q h1)
      refine Qd (Qd (Qc ?_));refine M0 (Qa J J J) J J ?_;refine M0 (Qa J J J) J J ?_;refine M0 (Qz J J J) J J ?_
      refine M0 (Qf J J J J (by decide)) J J ?_;refine M0 (Qg J J J J J) J J ?_;refine M0 (q_lenr J J J J) J J ?_
      refine M0 (Qr J J J J (by assumption)) J J ?_;refine Qe (Q0 ?_);refine Qm rfl ?_;refine Qh (Q0 (Qd (Qk ?_)))
      refine Qd ?_
      refine A_draw [[],[],[0,1],[0,1,2],[0,1,2,3],[0,1,2,3,4],[0,1,2,3,4,5],[0,1,2,3,4,5,6],[0,1,2,3],[0,1,2,3,4,5,6,7,8],[0,1,2,3,4,5,6,7,8,9],[0,1,2,3,4,5,6,7,8,9,10],[0,1,2,3,4,5,6,7,8,9,10,11],[0,1,2,3,4,5,6,7,8,9,10,11,12],[0,1,2,3,4,5,6,7,8,9,10,11,12,13],[0,1,2,3,4,5,6,7,8,9,10,11,12,13,14],[0,1,2,3,4,5,6,7,8,9,10,11,12,13,14,15],[0,1,2,3,4,5,6,7,8,9,10,11,12,13,14,15,16],[0,1,2,3,4,5,6,7,8,9,10,11,12,13,14,15,16,17],[0,1,2,3,4,5,6,7,8,9,10,11,12,13,14],[0,1,2,3,4,5,6,7,8,9,10,11,12,13,14,15,16,17,18,19],[0,1,2,3,4,5,6,7,8,9,10,11,12,13,14,15,16,17,18,19,20],[0,1,2,3,4,5,6,7,8,9,10,11,12,13,14],[0,1,2,3,4,5,6,7,8,9,10,11,12,13,14,15,16,17,18,19,20,21,22],[0,1,2,3,4,5,6,7,8,9,10,11,12,13,14,15,16,17,18,19,20,21,22,23]] [[],[],[17,18],[17,18,19],[17,18,19,20],[17,18,19,20,21],[17,18,19,20,21,22],[17,18,19,20,21,22,23],[17,18,19,20],[17,18,19,20,21,22,23,24,25],[17,18,19,20,21,22,23,24,25,26],[17,18,19,20,21,22,23,24,25,26,27],[17,18,19,20,21,22,23,24,25,26,27,28],[17,18,19,20,21,22,23,24,25,26,27,28,29],[17,18,19,20,21,22,23,24,25,26,27,28,29,30],[17,18,19,20,21,22,23,24,25,26,27,28,29,30,31],[17,18,19,20,21,22,23,24,25,26,27,28,29,30,31,32],[17,18,19,20,21,22,23,24,25,26,27,28,29,30,31,32,33],[17,18,19,20,21,22,23,24,25,26,27,28,29,30,31,32,33,34],[17,18,19,20,21,22,23,24,25,26,27,28,29,30,31],[17,18,19,20,21,22,23,24,25,26,27,28,29,30,31,32,33,34,35,36],[17,18,19,20,21,22,23,24,25,26,27,28,29,30,31,32,33,34,35,36,37],[17,18,19,20,21,22,23,24,25,26,27,28,29,30,31],[17,18,19,20,21,22,23,24,25,26,27,28,29,30,31,32,33,34,35,36,37,38,39],[17,18,19,20,21,22,23,24,25,26,27,28,29,30,31,32,33,34,35,36,37,38,39,40]] [[18],[17],[],[],[25],[25],[25],[25],[21,22,23,24],[],[],[],[],[],[],[36,39],[36,39],[36,39],[36,39],[32,33,34,35,39],[39],[39],[32,33,34,35,36,37,38],[],[]] rfl ?_
      refine DR.step (Qa J J J) J J ?_;refine DR.step (Qa J J J) J J ?_;refine DR.step (Qw J J J J (by assumption)) J J ?_
      refine DR.step (Qa J J J) J J ?_;refine DR.step (Qt.no J J J J) J J ?_;refine DR.step (Qt.no J J J J) J J ?_
      refine DR.step (Qt.no J J J J) J J ?_;refine DR.step (Qt.no J J J J) J J ?_;refine DR.step (Qt.no J J J J) J J ?_
      refine DR.step (Qt.no J J J J) J J ?_;refine DR.step (Qt.no J J J J) J J ?_;refine DR.step (Qt.no J J J J) J J ?_
      refine DR.step (Qt.no J J J J) J J ?_;refine DR.step (Qn J J J J) J J ?_;refine DR.step (Qa J J J) J J ?_
      refine DR.step (Qt.no J J J J) J J ?_;refine DR.step (Qt.no J J J J) J J ?_;refine DR.step (Qt.no J J J J) J J ?_
      refine DR.step (Qt.no J J J J) J J ?_;refine DR.step (Qt.no J J J J) J J ?_;refine DR.step (Qt.no J J J J) J J ?_
      refine DR.step (Qt.no J J J J) J J ?_;refine DR.step (Qt.no J J J J) J J ?_;refine DR.step (Qt.no J J J J) J J ?_
      refine DR.step (Qn J J J J) J J ?_;refine DR.stop (by kernel_rfl) (by kernel_rfl) ?_
      refine Qe (Q0 ?_);refine Ql rfl ?_;refine Qh (Q1 (Q0 (Qc ?_)));refine M0 (Qa J J J) J J ?_
      refine M0 (Qs J J J J (by omega)) J J ?_;refine M0 (Qb J J J) J J ?_;refine Qe (Q0 ?_)
      exact ⟨w.Scores.length - (k + 1),by omega,(fun k : Nat => (⟨_,[(0,.o (.c (.ptr 0 0))),(2,I o),(4,.o (.c (.ptr 6 0))),(7,I k)],[.box [.ref 1,jn w.Tick,jn w.Seed,.ref 2,.ref 3],.row 1 (els w.Level.Rows),.row 1 (els w.Scores),.row 9 (els w.Bodies),.gh 0 (.c (.ptr 0 0)),.gh 6 (.c (.ref 3)),.box ((Enc.e b).map (V1.rd []))]⟩ : St)) (k + 1),W_go [0,1,2,3,4,5,6] (by decide) rfl (rfl) (.cons rfl (.cons rfl (.cons rfl (.cons rfl (.nil))))),k + 1,by omega,metF_no hp_A (by rw [hc,f1]; rfl),rfl⟩
    have f1 : decide ((k : Int) ≠ o) = true := decide_eq_true h1
    by_cases h2 : 0 < p.Life
    · have f2 : decide (0 < p.Life) = true := decide_eq_true h2
      cases h3 : meetM p b with
      | false =>
        rw [h3] at cm
        refine Qd (Qd (Qc ?_));refine M0 (Qa J J J) J J ?_;refine M0 (Qa J J J) J J ?_;refine M0 (Qz J J J) J J ?_
        refine M0 (Qf J J J J (by decide)) J J ?_;refine M0 (Qg J J J J J) J J ?_;refine M0 (q_lenr J J J J) J J ?_
        refine M0 (Qr J J J J (by assumption)) J J ?_;refine Qe (Q0 ?_);refine Qm rfl ?_;refine Qh (Q0 (Qd (Qk ?_)))
        refine Qd ?_
        refine A_draw [[],[],[0,1],[0,1,2],[0,1,2,3],[0,1,2,3,4],[0,1,2,3,4,5],[0,1,2,3,4,5,6],[0,1,2,3],[0,1,2,3,4,5,6,7,8],[0,1,2,3,4,5,6,7,8,9],[0,1,2,3,4,5,6,7,8,9,10],[0,1,2,3,4,5,6,7,8,9,10,11],[0,1,2,3,4,5,6,7,8,9,10,11,12],[0,1,2,3,4,5,6,7,8,9,10,11,12,13],[0,1,2,3,4,5,6,7,8,9,10,11,12,13,14],[0,1,2,3,4,5,6,7,8,9,10,11,12,13,14,15],[0,1,2,3,4,5,6,7,8,9,10,11,12,13,14,15,16],[0,1,2,3,4,5,6,7,8,9,10,11,12,13,14,15,16,17],[0,1,2,3,4,5,6,7,8,9,10,11,12,13,14],[0,1,2,3,4,5,6,7,8,9,10,11,12,13,14,15,16,17,18,19],[0,1,2,3,4,5,6,7,8,9,10,11,12,13,14,15,16,17,18,19,20],[0,1,2,3,4,5,6,7,8,9,10,11,12,13,14],[0,1,2,3,4,5,6,7,8,9,10,11,12,13,14,15,16,17,18,19,20,21,22],[0,1,2,3,4,5,6,7,8,9,10,11,12,13,14,15,16,17,18,19,20,21,22,23]] [[],[],[17,18],[17,18,19],[17,18,19,20],[17,18,19,20,21],[17,18,19,20,21,22],[17,18,19,20,21,22,23],[17,18,19,20],[17,18,19,20,21,22,23,24,25],[17,18,19,20,21,22,23,24,25,26],[17,18,19,20,21,22,23,24,25,26,27],[17,18,19,20,21,22,23,24,25,26,27,28],[17,18,19,20,21,22,23,24,25,26,27,28,29],[17,18,19,20,21,22,23,24,25,26,27,28,29,30],[17,18,19,20,21,22,23,24,25,26,27,28,29,30,31],[17,18,19,20,21,22,23,24,25,26,27,28,29,30,31,32],[17,18,19,20,21,22,23,24,25,26,27,28,29,30,31,32,33],[17,18,19,20,21,22,23,24,25,26,27,28,29,30,31,32,33,34],[17,18,19,20,21,22,23,24,25,26,27,28,29,30,31],[17,18,19,20,21,22,23,24,25,26,27,28,29,30,31,32,33,34,35,36],[17,18,19,20,21,22,23,24,25,26,27,28,29,30,31,32,33,34,35,36,37],[17,18,19,20,21,22,23,24,25,26,27,28,29,30,31],[17,18,19,20,21,22,23,24,25,26,27,28,29,30,31,32,33,34,35,36,37,38,39],[17,18,19,20,21,22,23,24,25,26,27,28,29,30,31,32,33,34,35,36,37,38,39,40]] [[18],[17],[],[],[25],[25],[25],[25],[21,22,23,24],[],[],[],[],[],[],[36,39],[36,39],[36,39],[36,39],[32,33,34,35,39],[39],[39],[32,33,34,35,36,37,38],[],[]] rfl ?_
        refine DR.step (Qa J J J) J J ?_;refine DR.step (Qa J J J) J J ?_;refine DR.step (Qw J J J J (by assumption)) J J ?_
        refine DR.step (Qa J J J) J J ?_;refine DR.step (Qt.yes J J J (Qa J J J)) J J ?_
        refine DR.step (Qt.yes J J J (Qz J J J)) J J ?_;refine DR.step (Qt.yes J J J (Qf J J J J (by decide))) J J ?_
        refine DR.step (Qt.yes J J J (Qg J J J J J)) J J ?_;refine DR.step (Qt.yes J J J (Qa J J J)) J J ?_
        refine DR.step (Qt.yes J J J (Q3 J J J J J (by omega) (by omega))) J J ?_;refine DR.step (Qt.yes J J J (q_flde J J J J (by decide))) J J ?_
        refine DR.step (Qt.yes J J J (Q7 J J J J (by assumption) rfl)) J J ?_;refine DR.step (Qt.yes J J J (q_gtrK J J J J (by assumption))) J J ?_
        refine DR.step (Qo J J J J) J J ?_;refine DR.step (Qa J J J) J J ?_;refine DR.step (Qt.yes J J J (Qa J J J)) J J ?_
        refine DR.step (Qt.yes J J J (Qz J J J)) J J ?_;refine DR.step (Qt.yes J J J (Qf J J J J (by decide))) J J ?_
        refine DR.step (Qt.yes J J J (Qg J J J J J)) J J ?_;refine DR.step (Qt.yes J J J (Qa J J J)) J J ?_
        refine DR.step (Qt.yes J J J (Q3 J J J J J (by omega) (by omega))) J J ?_
        refine DR.step (Qt.yes J J J (Q6 J J J J (by assumption) J J)) J J ?_;refine DR.step (Qt.yes J J J (Qu J J J J J J)) J J ?_
        refine DR.step (Qt.yes J J J (Qj J J (cm) rfl)) J J ?_;refine DR.step (Qo J J J J) J J ?_;refine DR.stop (by kernel_rfl) (by kernel_rfl) ?_
        refine Qe (Q0 ?_);refine Ql rfl ?_;refine Qh (Q1 (Q0 (Qc ?_)));refine M0 (Qa J J J) J J ?_
        refine M0 (Qs J J J J (by omega)) J J ?_;refine M0 (Qb J J J) J J ?_;refine Qe (Q0 ?_)
        exact ⟨w.Scores.length - (k + 1),by omega,(fun k : Nat => (⟨_,[(0,.o (.c (.ptr 0 0))),(2,I o),(4,.o (.c (.ptr 6 0))),(7,I k)],[.box [.ref 1,jn w.Tick,jn w.Seed,.ref 2,.ref 3],.row 1 (els w.Level.Rows),.row 1 (els w.Scores),.row 9 (els w.Bodies),.gh 0 (.c (.ptr 0 0)),.gh 6 (.c (.ref 3)),.box ((Enc.e b).map (V1.rd []))]⟩ : St)) (k + 1),W_go [0,1,2,3,4,5,6] (by decide) rfl (rfl) (.cons rfl (.cons rfl (.cons rfl (.cons rfl (.nil))))),k + 1,by omega,metF_no hp_A (by rw [hc,h3,Bool.and_false]),rfl⟩
      | true =>
        rw [h3] at cm
        refine Qd (Qd (Qc ?_));refine M0 (Qa J J J) J J ?_;refine M0 (Qa J J J) J J ?_;refine M0 (Qz J J J) J J ?_
        refine M0 (Qf J J J J (by decide)) J J ?_;refine M0 (Qg J J J J J) J J ?_;refine M0 (q_lenr J J J J) J J ?_
        refine M0 (Qr J J J J (by assumption)) J J ?_;refine Qe (Q0 ?_);refine Qm rfl ?_;refine Qh (Q0 (Qd (Qk ?_)))
        refine Qd ?_
        refine A_draw [[],[],[0,1],[0,1,2],[0,1,2,3],[0,1,2,3,4],[0,1,2,3,4,5],[0,1,2,3,4,5,6],[0,1,2,3],[0,1,2,3,4,5,6,7,8],[0,1,2,3,4,5,6,7,8,9],[0,1,2,3,4,5,6,7,8,9,10],[0,1,2,3,4,5,6,7,8,9,10,11],[0,1,2,3,4,5,6,7,8,9,10,11,12],[0,1,2,3,4,5,6,7,8,9,10,11,12,13],[0,1,2,3,4,5,6,7,8,9,10,11,12,13,14],[0,1,2,3,4,5,6,7,8,9,10,11,12,13,14,15],[0,1,2,3,4,5,6,7,8,9,10,11,12,13,14,15,16],[0,1,2,3,4,5,6,7,8,9,10,11,12,13,14,15,16,17],[0,1,2,3,4,5,6,7,8,9,10,11,12,13,14],[0,1,2,3,4,5,6,7,8,9,10,11,12,13,14,15,16,17,18,19],[0,1,2,3,4,5,6,7,8,9,10,11,12,13,14,15,16,17,18,19,20],[0,1,2,3,4,5,6,7,8,9,10,11,12,13,14],[0,1,2,3,4,5,6,7,8,9,10,11,12,13,14,15,16,17,18,19,20,21,22],[0,1,2,3,4,5,6,7,8,9,10,11,12,13,14,15,16,17,18,19,20,21,22,23]] [[],[],[17,18],[17,18,19],[17,18,19,20],[17,18,19,20,21],[17,18,19,20,21,22],[17,18,19,20,21,22,23],[17,18,19,20],[17,18,19,20,21,22,23,24,25],[17,18,19,20,21,22,23,24,25,26],[17,18,19,20,21,22,23,24,25,26,27],[17,18,19,20,21,22,23,24,25,26,27,28],[17,18,19,20,21,22,23,24,25,26,27,28,29],[17,18,19,20,21,22,23,24,25,26,27,28,29,30],[17,18,19,20,21,22,23,24,25,26,27,28,29,30,31],[17,18,19,20,21,22,23,24,25,26,27,28,29,30,31,32],[17,18,19,20,21,22,23,24,25,26,27,28,29,30,31,32,33],[17,18,19,20,21,22,23,24,25,26,27,28,29,30,31,32,33,34],[17,18,19,20,21,22,23,24,25,26,27,28,29,30,31],[17,18,19,20,21,22,23,24,25,26,27,28,29,30,31,32,33,34,35,36],[17,18,19,20,21,22,23,24,25,26,27,28,29,30,31,32,33,34,35,36,37],[17,18,19,20,21,22,23,24,25,26,27,28,29,30,31],[17,18,19,20,21,22,23,24,25,26,27,28,29,30,31,32,33,34,35,36,37,38,39],[17,18,19,20,21,22,23,24,25,26,27,28,29,30,31,32,33,34,35,36,37,38,39,40]] [[18],[17],[],[],[25],[25],[25],[25],[21,22,23,24],[],[],[],[],[],[],[36,39],[36,39],[36,39],[36,39],[32,33,34,35,39],[39],[39],[32,33,34,35,36,37,38],[],[]] rfl ?_
        refine DR.step (Qa J J J) J J ?_;refine DR.step (Qa J J J) J J ?_;refine DR.step (Qw J J J J (by assumption)) J J ?_
        refine DR.step (Qa J J J) J J ?_;refine DR.step (Qt.yes J J J (Qa J J J)) J J ?_
        refine DR.step (Qt.yes J J J (Qz J J J)) J J ?_;refine DR.step (Qt.yes J J J (Qf J J J J (by decide))) J J ?_
        refine DR.step (Qt.yes J J J (Qg J J J J J)) J J ?_;refine DR.step (Qt.yes J J J (Qa J J J)) J J ?_
        refine DR.step (Qt.yes J J J (Q3 J J J J J (by omega) (by omega))) J J ?_;refine DR.step (Qt.yes J J J (q_flde J J J J (by decide))) J J ?_
        refine DR.step (Qt.yes J J J (Q7 J J J J (by assumption) rfl)) J J ?_;refine DR.step (Qt.yes J J J (q_gtrK J J J J (by assumption))) J J ?_
        refine DR.step (Qo J J J J) J J ?_;refine DR.step (Qa J J J) J J ?_;refine DR.step (Qt.yes J J J (Qa J J J)) J J ?_
        refine DR.step (Qt.yes J J J (Qz J J J)) J J ?_;refine DR.step (Qt.yes J J J (Qf J J J J (by decide))) J J ?_
        refine DR.step (Qt.yes J J J (Qg J J J J J)) J J ?_;refine DR.step (Qt.yes J J J (Qa J J J)) J J ?_
        refine DR.step (Qt.yes J J J (Q3 J J J J J (by omega) (by omega))) J J ?_
        refine DR.step (Qt.yes J J J (Q6 J J J J (by assumption) J J)) J J ?_;refine DR.step (Qt.yes J J J (Qu J J J J J J)) J J ?_
        refine DR.step (Qt.yes J J J (Qj J J (cm) rfl)) J J ?_;refine DR.step (Qo J J J J) J J ?_;refine DR.stop (by kernel_rfl) (by kernel_rfl) ?_
        refine Qe (Q0 ?_);refine Qm rfl ?_;refine Qd (Qc ?_);refine M0 (Qa J J J) J J ?_;refine M0 (Qb J J J) J J ?_
        refine Qe (Q0 (Xa (B_r (T_r (T_r (B_r (T_r (F_r ?_))))))))
        exact E_tmp J J (W_end [0,1,2,3,4,5] (by decide) J J (I_eq (by rw [metI,metF_hit hp_A (by rw [hc,f1,f2,h3]; rfl) hlt])))
    · have f2 : decide (0 < p.Life) = false := decide_eq_false h2
      refine Qd (Qd (Qc ?_));refine M0 (Qa J J J) J J ?_;refine M0 (Qa J J J) J J ?_;refine M0 (Qz J J J) J J ?_
      refine M0 (Qf J J J J (by decide)) J J ?_;refine M0 (Qg J J J J J) J J ?_;refine M0 (q_lenr J J J J) J J ?_
      refine M0 (Qr J J J J (by assumption)) J J ?_;refine Qe (Q0 ?_);refine Qm rfl ?_;refine Qh (Q0 (Qd (Qk ?_)))
      refine Qd ?_
      refine A_draw [[],[],[0,1],[0,1,2],[0,1,2,3],[0,1,2,3,4],[0,1,2,3,4,5],[0,1,2,3,4,5,6],[0,1,2,3],[0,1,2,3,4,5,6,7,8],[0,1,2,3,4,5,6,7,8,9],[0,1,2,3,4,5,6,7,8,9,10],[0,1,2,3,4,5,6,7,8,9,10,11],[0,1,2,3,4,5,6,7,8,9,10,11,12],[0,1,2,3,4,5,6,7,8,9,10,11,12,13],[0,1,2,3,4,5,6,7,8,9,10,11,12,13,14],[0,1,2,3,4,5,6,7,8,9,10,11,12,13,14,15],[0,1,2,3,4,5,6,7,8,9,10,11,12,13,14,15,16],[0,1,2,3,4,5,6,7,8,9,10,11,12,13,14,15,16,17],[0,1,2,3,4,5,6,7,8,9,10,11,12,13,14],[0,1,2,3,4,5,6,7,8,9,10,11,12,13,14,15,16,17,18,19],[0,1,2,3,4,5,6,7,8,9,10,11,12,13,14,15,16,17,18,19,20],[0,1,2,3,4,5,6,7,8,9,10,11,12,13,14],[0,1,2,3,4,5,6,7,8,9,10,11,12,13,14,15,16,17,18,19,20,21,22],[0,1,2,3,4,5,6,7,8,9,10,11,12,13,14,15,16,17,18,19,20,21,22,23]] [[],[],[17,18],[17,18,19],[17,18,19,20],[17,18,19,20,21],[17,18,19,20,21,22],[17,18,19,20,21,22,23],[17,18,19,20],[17,18,19,20,21,22,23,24,25],[17,18,19,20,21,22,23,24,25,26],[17,18,19,20,21,22,23,24,25,26,27],[17,18,19,20,21,22,23,24,25,26,27,28],[17,18,19,20,21,22,23,24,25,26,27,28,29],[17,18,19,20,21,22,23,24,25,26,27,28,29,30],[17,18,19,20,21,22,23,24,25,26,27,28,29,30,31],[17,18,19,20,21,22,23,24,25,26,27,28,29,30,31,32],[17,18,19,20,21,22,23,24,25,26,27,28,29,30,31,32,33],[17,18,19,20,21,22,23,24,25,26,27,28,29,30,31,32,33,34],[17,18,19,20,21,22,23,24,25,26,27,28,29,30,31],[17,18,19,20,21,22,23,24,25,26,27,28,29,30,31,32,33,34,35,36],[17,18,19,20,21,22,23,24,25,26,27,28,29,30,31,32,33,34,35,36,37],[17,18,19,20,21,22,23,24,25,26,27,28,29,30,31],[17,18,19,20,21,22,23,24,25,26,27,28,29,30,31,32,33,34,35,36,37,38,39],[17,18,19,20,21,22,23,24,25,26,27,28,29,30,31,32,33,34,35,36,37,38,39,40]] [[18],[17],[],[],[25],[25],[25],[25],[21,22,23,24],[],[],[],[],[],[],[36,39],[36,39],[36,39],[36,39],[32,33,34,35,39],[39],[39],[32,33,34,35,36,37,38],[],[]] rfl ?_
      refine DR.step (Qa J J J) J J ?_;refine DR.step (Qa J J J) J J ?_;refine DR.step (Qw J J J J (by assumption)) J J ?_
      refine DR.step (Qa J J J) J J ?_;refine DR.step (Qt.yes J J J (Qa J J J)) J J ?_
      refine DR.step (Qt.yes J J J (Qz J J J)) J J ?_;refine DR.step (Qt.yes J J J (Qf J J J J (by decide))) J J ?_
      refine DR.step (Qt.yes J J J (Qg J J J J J)) J J ?_;refine DR.step (Qt.yes J J J (Qa J J J)) J J ?_
      refine DR.step (Qt.yes J J J (Q3 J J J J J (by omega) (by omega))) J J ?_;refine DR.step (Qt.yes J J J (q_flde J J J J (by decide))) J J ?_
      refine DR.step (Qt.yes J J J (Q7 J J J J (by assumption) rfl)) J J ?_;refine DR.step (Qt.yes J J J (q_gtrK J J J J (by assumption))) J J ?_
      refine DR.step (Qo J J J J) J J ?_;refine DR.step (Qa J J J) J J ?_;refine DR.step (Qt.no J J J J) J J ?_
      refine DR.step (Qt.no J J J J) J J ?_;refine DR.step (Qt.no J J J J) J J ?_;refine DR.step (Qt.no J J J J) J J ?_
      refine DR.step (Qt.no J J J J) J J ?_;refine DR.step (Qt.no J J J J) J J ?_;refine DR.step (Qt.no J J J J) J J ?_
      refine DR.step (Qt.no J J J J) J J ?_;refine DR.step (Qt.no J J J J) J J ?_;refine DR.step (Qn J J J J) J J ?_
      refine DR.stop (by kernel_rfl) (by kernel_rfl) ?_
      refine Qe (Q0 ?_);refine Ql rfl ?_;refine Qh (Q1 (Q0 (Qc ?_)));refine M0 (Qa J J J) J J ?_
      refine M0 (Qs J J J J (by omega)) J J ?_;refine M0 (Qb J J J) J J ?_;refine Qe (Q0 ?_)
      exact ⟨w.Scores.length - (k + 1),by omega,(fun k : Nat => (⟨_,[(0,.o (.c (.ptr 0 0))),(2,I o),(4,.o (.c (.ptr 6 0))),(7,I k)],[.box [.ref 1,jn w.Tick,jn w.Seed,.ref 2,.ref 3],.row 1 (els w.Level.Rows),.row 1 (els w.Scores),.row 9 (els w.Bodies),.gh 0 (.c (.ptr 0 0)),.gh 6 (.c (.ref 3)),.box ((Enc.e b).map (V1.rd []))]⟩ : St)) (k + 1),W_go [0,1,2,3,4,5,6] (by decide) rfl (rfl) (.cons rfl (.cons rfl (.cons rfl (.cons rfl (.nil))))),k + 1,by omega,metF_no hp_A (by rw [hc,f2,Bool.and_false,Bool.false_and]),rfl⟩
  · have hb0 : decide ((k : Int) < (els w.Scores).length) = false := decide_eq_false (by omega)
    have hk : k = w.Scores.length := by omega
    refine Qd (Qd (Qc ?_));refine M0 (Qa J J J) J J ?_;refine M0 (Qa J J J) J J ?_;refine M0 (Qz J J J) J J ?_
    refine M0 (Qf J J J J (by decide)) J J ?_;refine M0 (Qg J J J J J) J J ?_;refine M0 (q_lenr J J J J) J J ?_
    refine M0 (Qr J J J J (by assumption)) J J ?_;refine Qe (Q0 ?_);refine Ql rfl ?_;refine Q9 (T_x (T_x (B_xs (Q0 ?_))))
    refine Qd (Qc ?_);refine M0 (Qb J J J) J J ?_;refine Qe (Q0 (Xa (F_r ?_)))
    exact E_tmp J J (W_end [0,1,2,3,4,5] (by decide) J J (I_eq (by rw [metI,← hk,hp_A])))
/-- A point for player k. -/
def addM (ss : List Int) (k : Nat) : List Int := match ss[k]? with
  | none => ss
  | some s => ss.set k (min (s + 1) 1000000)
theorem addM_at {ss : List Int} {k : Nat} {s : Int} (h : ss[k]? = some s) : addM ss k = ss.set k (min (s + 1) 1000000) := by rw [addM,h]
theorem addM_els {ss : List Int} {k : Nat} {s : Int} (h : ss[k]? = some s) : els (addM ss k) = (els ss).set (k : Int).toNat (splice (Enc.e s) 0 [.v (.int .i64 (min (s + 1) 1000000))]) := by
  rw [addM_at h,els_set]; rfl
theorem addM_same {ss : List Int} {k : Nat} {s : Int} (h : ss[k]? = some s) (hs : ¬ s < 1000000) (h1 : s ≤ 1000000) : addM ss k = ss := by
  rw [addM_at h,show min (s + 1) 1000000 = s by omega]
  obtain ⟨hk,rfl⟩ := List.getElem?_eq_some_iff.1 h
  exact List.set_getElem_self hk
set_option maxHeartbeats 8000000 in
theorem I_addScore (w : TWorld) (k : Nat) (s : Int) (hs : w.Scores[k]? = some s) (h0 : 0 ≤ s ∧ s ≤ 1000000) : Con Try.prog 133 [.box [.ref 1,jn w.Tick,jn w.Seed,.ref 2,.ref 3],.row 1 (els w.Level.Rows),.row 1 (els w.Scores),.row 9 (els w.Bodies),.gh 0 (.c (.ptr 0 0)),.gh 5 (.c (.ref 3))] [.c (.ptr 0 0),ai k] [.box [.ref 1,jn w.Tick,jn w.Seed,.ref 2,.ref 3],.row 1 (els w.Level.Rows),.row 1 (els (addM w.Scores k)),.row 9 (els w.Bodies),.gh 0 (.c (.ptr 0 0)),.gh 5 (.c (.ref 3))] (.tu []) := by
  have hls := els_len w.Scores
  have hk := getE_lt hs
  have he := els_sm hs
  by_cases h1 : s < 1000000
  · have f1 : decide (s < 1000000) = true := decide_eq_true h1
    rw [addM_els hs,show min (s + 1) 1000000 = s + 1 by omega]
    refine Con.of Try.func133 rfl Try.ntmps133 rfl (fun E => ?_)
    refine Qd (Qc ?_);refine M0 (Qa J J J) J J ?_;refine M0 (Qz J J J) J J ?_;refine M0 (Qf J J J J (by decide)) J J ?_
    refine M0 (Qg J J J J J) J J ?_;refine M0 (Qa J J J) J J ?_;refine M0 (Q3 J J J J J (by omega) (by omega)) J J ?_
    refine M0 (Q7 J J J J (by assumption) rfl) J J ?_;refine M0 (Qr J J J J (by assumption)) J J ?_;refine Qe (Q0 ?_);refine Qm rfl ?_
    refine Qc ?_;refine M0 (Qa J J J) J J ?_;refine M0 (Qz J J J) J J ?_;refine M0 (Qf J J J J (by decide)) J J ?_
    refine M0 (Qg J J J J J) J J ?_;refine M0 (Qa J J J) J J ?_;refine M0 (Q3 J J J J J (by omega) (by omega)) J J ?_
    refine M0 (Q7 J J J J (by assumption) rfl) J J ?_;refine M0 (Qs J J J J (by omega)) J J ?_
    refine M0 (Q3 J J J J J (by omega) (by omega)) J J ?_;refine Xh J J J J J J J J J (by assumption) J J ?_;refine Qe (F_n ?_)
    exact E_none rfl (W_end [0,1,2,3,4,5] (by decide) J J J)
  · have f1 : decide (s < 1000000) = false := decide_eq_false h1
    rw [addM_same hs h1 h0.2]
    refine Con.of Try.func133 rfl Try.ntmps133 rfl (fun E => ?_)
    refine Qd (Qc ?_);refine M0 (Qa J J J) J J ?_;refine M0 (Qz J J J) J J ?_;refine M0 (Qf J J J J (by decide)) J J ?_
    refine M0 (Qg J J J J J) J J ?_;refine M0 (Qa J J J) J J ?_;refine M0 (Q3 J J J J J (by omega) (by omega)) J J ?_
    refine M0 (Q7 J J J J (by assumption) rfl) J J ?_;refine M0 (Qr J J J J (by assumption)) J J ?_;refine Qe (Q0 ?_);refine Ql rfl ?_
    refine Qh (F_n ?_)
    exact E_none rfl (W_end [0,1,2,3,4,5] (by decide) J J J)
set_option maxHeartbeats 8000000 in
theorem S_l02Point (w : TWorld) (k : Nat) (s : Int) (hs : w.Scores[k]? = some s) (h0 : 0 ≤ s ∧ s ≤ 1000000) : Con Try.prog 136 [.box [.ref 1,jn w.Tick,jn w.Seed,.ref 2,.ref 3],.row 1 (els w.Level.Rows),.row 1 (els w.Scores),.row 9 (els w.Bodies),.gh 0 (.c (.ptr 0 0)),.gh 5 (.c (.ref 3))] [.c (.ptr 0 0),ai k] [.box [.ref 1,jn w.Tick,jn w.Seed,.ref 2,.ref 3],.row 1 (els w.Level.Rows),.row 1 (els (addM w.Scores k)),.row 9 (els w.Bodies),.gh 0 (.c (.ptr 0 0)),.gh 5 (.c (.ref 3))] (.tu []) := by
  have hls := els_len w.Scores
  have hk := getE_lt hs
  have he := els_sm hs
  rw [addM_els hs]
  refine Con.of Try.func136 rfl Try.ntmps136 rfl (fun E => ?_)
  skip
  refine A_draw [[],[0],[0,1],[0,1,2],[],[],[5],[5,6],[5,6,7],[],[5,6,7,8,9],[5,6,7,8,9,10],[5,6,7,8,9,10,11],[5,6,7,8,9,10,11,12],[0,1,2,3,4,5,6,7,8,9,10,11,12,13],[0,1,2,3,4,5,6,7,8,9,10,11,12,13,14]] [[],[4],[4,5],[4,5,6],[],[],[9],[9,10],[9,10,11],[],[9,10,11,12,13],[9,10,11,12,13,14],[9,10,11,12,13,14,15],[9,10,11,12,13,14,15,16],[4,5,6,7,8,9,10,11,12,13,14,15,16,17],[4,5,6,7,8,9,10,11,12,13,14,15,16,17,18]] [[8,9,10,11,12,13,14,15,16,17],[8,9,10,11,12,13,14,15,16,17],[8,9,10,11,12,13,14,15,16,17],[8,9,10,11,12,13,14,15,16,17],[4,5,6,7,9,10,11,12,13,14,15,16,17],[4,5,6,7,8,13],[4,5,6,7,8,13],[4,5,6,7,8,13],[4,5,6,7,8,13],[4,5,6,7,8,9,10,11,12],[4,5,6,7,8],[4,5,6,7,8],[4,5,6,7,8],[4,5,6,7,8],[],[],[0,4]] rfl ?_
  refine DR.step (Qa J J J) J J ?_;refine DR.step (Qz J J J) J J ?_;refine DR.step (Qf J J J J (by decide)) J J ?_
  refine DR.step (Qg J J J J J) J J ?_;refine DR.step (Qa J J J) J J ?_;refine DR.step (Qa J J J) J J ?_
  refine DR.step (Qz J J J) J J ?_;refine DR.step (Qf J J J J (by decide)) J J ?_;refine DR.step (Qg J J J J J) J J ?_
  refine DR.step (Qa J J J) J J ?_;refine DR.step (Q3 J J J J J (by omega) (by omega)) J J ?_
  refine DR.step (Q7 J J J J (by assumption) rfl) J J ?_;refine DR.step (Qs J J J J (by omega)) J J ?_;refine DR.step (q_min J J J J) J J ?_
  refine DR.step (Q3 J J J J J (by omega) (by omega)) J J ?_;refine DR.stop (by kernel_rfl) (by kernel_rfl) ?_
  refine Xh J J J J J J J J J (by assumption) J J ?_;refine Qe (F_n ?_)
  exact E_none rfl (W_end [0,1,2,3,4,5] (by decide) J J J)
end Go.Proofs.Ytmljakmaffbnlaa
end

section
set_option linter.unusedSimpArgs false
set_option linter.unusedVariables false
set_option maxRecDepth 8000
namespace Go.Proofs.Ytmljakmaffbnlaa
open Go.RowKit

theorem colSp_len (row : ByteArray) (r : Nat) : ∀ n,(colSp row r n).length ≤ n
  | 0 => Nat.le_refl _
  | n + 1 => by have := colSp_len row r n; rw [colSp]; split <;> simp <;> omega
theorem rowSp_len {rows : List ByteArray} {w : Nat} (hw : ∀ (r : Nat) (hr : r < rows.length),(rows[r]).size = w) : ∀ n,(rowSp rows n).length ≤ n * w
  | 0 => by simp [rowSp]
  | n + 1 => by
    have h := rowSp_len hw n
    rw [rowSp]
    cases hr : rows[n]? with
    | none => simp only; rw [Nat.add_mul]; omega
    | some row =>
      obtain ⟨h1,h2⟩ := List.getElem?_eq_some_iff.1 hr
      have h3 := colSp_len row n row.size
      have h4 : row.size = w := by rw [← h2]; exact hw n h1
      simp only [List.length_append]
      rw [Nat.add_mul]
      omega
def spotsM (l : TLevel) : List (List Int) := rowSp l.Rows l.Rows.length
theorem spots_len {l : TLevel} (hl : levelOk l = true) : (spotsM l).length ≤ 240 := by
  obtain ⟨l3,l12,w,w4,w20,hw⟩ := level_facts hl
  have h := rowSp_len hw l.Rows.length
  have h2 : l.Rows.length * w ≤ 12 * 20 := Nat.mul_le_mul l12 w20
  unfold spotsM
  omega
theorem colSp_at {row : ByteArray} {r : Nat} : ∀ {n : Nat} {s : List Int},s ∈ colSp row r n → ∃ c : Nat,c < n ∧ byteAt row c = 111 ∧ s = [(c : Int) * 16 + 4,(r : Int) * 16 + 4]
  | 0,s,h => by simp [colSp] at h
  | n + 1,s,h => by
    rw [colSp] at h
    split at h
    · rename_i hb
      rcases List.mem_append.1 h with h | h
      · obtain ⟨c,h1,h2⟩ := colSp_at h; exact ⟨c,by omega,h2⟩
      · exact ⟨n,by omega,hb,by simpa using h⟩
    · obtain ⟨c,h1,h2⟩ := colSp_at h; exact ⟨c,by omega,h2⟩
theorem rowSp_at {rows : List ByteArray} : ∀ {n : Nat} {s : List Int},s ∈ rowSp rows n → ∃ (r c : Nat) (row : ByteArray),r < n ∧ rows[r]? = some row ∧ c < row.size ∧ byteAt row c = 111 ∧ s = [(c : Int) * 16 + 4,(r : Int) * 16 + 4]
  | 0,s,h => by simp [rowSp] at h
  | n + 1,s,h => by
    rw [rowSp] at h
    cases hr : rows[n]? with
    | none => rw [hr] at h; obtain ⟨r,c,row,h1,h2⟩ := rowSp_at h; exact ⟨r,c,row,by omega,h2⟩
    | some row =>
      rw [hr] at h
      rcases List.mem_append.1 h with h | h
      · obtain ⟨r,c,row,h1,h2⟩ := rowSp_at h; exact ⟨r,c,row,by omega,h2⟩
      · obtain ⟨c,h1,h2⟩ := colSp_at h; exact ⟨n,c,row,by omega,hr,h1,h2⟩
theorem sp_hit {row : ByteArray} {r c : Nat} {A : List (List Int)} {x y : Int} (h : byteAt row c = 111) (hx : x = (c : Int) * 16 + 4) (hy : y = (r : Int) * 16 + 4) : els (A ++ colSp row r (c + 1)) = els (A ++ colSp row r c) ++ [[.sl 1 (els [x,y])]] := by
  rw [colSp,if_pos h,← List.append_assoc,els_app,hx,hy]; rfl
theorem sp_skip {row : ByteArray} {r c : Nat} (h : ¬ byteAt row c = 111) : colSp row r (c + 1) = colSp row r c := by rw [colSp,if_neg h]
theorem sp_row {rows : List ByteArray} {row : ByteArray} {r : Nat} (h : rows[r]? = some row) : rowSp rows (r + 1) = rowSp rows r ++ colSp row r row.size := by rw [rowSp,h]
theorem row2w {a : Ob} {k : Nat} {x y : List (List T)} (h : x = y) : [a,Ob.row k x] = [a,Ob.row k y] := by rw [h]
set_option maxHeartbeats 8000000 in
theorem I_SpotsOf (l : TLevel) (hg : Enc.gd l) (hl : levelOk l = true) : Con Try.prog 113 [] [ag l] [.row 1 (els (spotsM l))] (.o (.c (.ref 0))) := by
  have hc := I_LevelOk l hg
  rw [hl] at hc
  have hlr := els_len l.Rows
  obtain ⟨l3,l12,w,w4,w20,hw⟩ := level_facts hl
  have hrl := rowSp_len hw
  refine Con.of Try.func113 rfl Try.ntmps113 rfl (fun E => ?_)
  refine Qd (Qc ?_);refine M1 (Qq J J J J) J J ?_;refine M0 (Qb J J J) J J ?_;refine Qe (Q0 (Qd (Qd ?_)))
  refine Qc ?_;refine M0 (Qu J J J J J J) J J ?_;refine M0 (Qj J J (hc) rfl) J J ?_;refine M0 (Q4 J J J) J J ?_;refine Qe ?_
  refine Q0 ?_;refine Ql rfl ?_;refine Qh (Q0 (Qd (Qc ?_)));refine M0 (Qb J J J) J J ?_;refine Qe (Q0 ?_)
  refine Qd (Qd (Qc ?_));refine M0 (Qf J J J J (by decide)) J J ?_;refine M0 (Qg J J J J J) J J ?_
  refine M0 (q_len J J J) J J ?_;refine M0 (Qa J J J) J J ?_;refine Qe (Q0 (Qk ?_))
  refine AWP.pre ?_ (W_nil 3 1 rfl)
  refine A_loop (fun m st => ∃ r : Nat,r + m = l.Rows.length ∧ (True) ∧ st = (fun r : Nat => (⟨_,[(1,.o (.c (.ptr 0 0))),(3,.o (.c (.ref 1))),(11,L l.Rows),(12,I (els l.Rows).length),(13,I r)],[.box ((Enc.e l).map (V1.rd [])),.row 1 (els (rowSp l.Rows r))]⟩ : St)) r) (l.Rows.length) ⟨(fun r : Nat => (⟨_,[(1,.o (.c (.ptr 0 0))),(3,.o (.c (.ref 1))),(11,L l.Rows),(12,I (els l.Rows).length),(13,I r)],[.box ((Enc.e l).map (V1.rd [])),.row 1 (els (rowSp l.Rows r))]⟩ : St)) 0,W_go [0,1] (by decide) rfl (rfl) (.cons rfl (.cons rfl (.cons rfl (.cons rfl (.cons rfl (.nil)))))),0,by omega,trivial,rfl⟩ ?_
  rintro m_A _ ⟨r,hk_A,hp_A,rfl⟩
  by_cases h3 : r < l.Rows.length
  · have hb0 : decide ((r : Int) < (els l.Rows).length) = true := decide_eq_true (by omega)
    have hat := els_at h3
    have hwr := hw r h3
    have hrow := List.getElem?_eq_getElem h3
    generalize l.Rows[r] = row at hat hwr hrow
    have hr1 := hrl r
    have hr2 : r * w ≤ 12 * 20 := Nat.mul_le_mul (by omega) w20
    refine Qd (Qc ?_);refine M0 (Qr J J J J (by assumption)) J J ?_;refine Qe (Q0 (Qd ?_));refine Qm rfl ?_;refine Qh ?_
    refine Q0 (Qd (Qk (Qd (Qc ?_))));refine M0 (Qa J J J) J J ?_
    refine M0 (Q2 J J J J (by omega) (by assumption) rfl) J J ?_;refine M0 (q_lr1 J J J J) J J ?_;refine M0 (Qb J J J) J J ?_
    refine M0 (Qb J J J) J J ?_;refine Qe (Q0 (Qd (Qc ?_)));refine M0 (Qb J J J) J J ?_;refine Qe (Q0 ?_)
    refine Qk ?_
    refine A_loop (fun m st => ∃ c : Nat,c + m = row.size ∧ (True) ∧ st = (fun c : Nat => (⟨_,[(1,.o (.c (.ptr 0 0))),(3,.o (.c (.ref 1))),(4,I r),(5,S row),(6,I c),(11,L l.Rows),(12,I (els l.Rows).length),(13,I r)],[.box ((Enc.e l).map (V1.rd [])),.row 1 (els (rowSp l.Rows r ++ colSp row r c))]⟩ : St)) c) (row.size) ⟨(fun c : Nat => (⟨_,[(1,.o (.c (.ptr 0 0))),(3,.o (.c (.ref 1))),(4,I r),(5,S row),(6,I c),(11,L l.Rows),(12,I (els l.Rows).length),(13,I r)],[.box ((Enc.e l).map (V1.rd [])),.row 1 (els (rowSp l.Rows r ++ colSp row r c))]⟩ : St)) 0,W_go [0,1] (by decide) rfl (row2w (by rw [colSp,List.append_nil])) (.cons rfl (.cons rfl (.cons rfl (.cons rfl (.cons rfl (.cons rfl (.cons rfl (.cons rfl (.nil))))))))),0,by omega,trivial,rfl⟩ ?_
    rintro m_D _ ⟨c,hk_D,hp_D,rfl⟩
    have hcl := colSp_len row r c
    have hel := els_len (rowSp l.Rows r ++ colSp row r c)
    rw [List.length_append] at hel
    by_cases h4 : c < row.size
    · have hb1 : decide ((c : Int) < row.size) = true := decide_eq_true (by omega)
      have hbt := byteAt_lt row c
      have hbt2 := byteAt_lt row (c : Int).toNat
      by_cases ho : byteAt row c = 111
      · have hb2 : decide (byteAt row (c : Int).toNat = 111) = true := decide_eq_true ho
        refine Qd (Qd (Qc ?_));refine M0 (Qa J J J) J J ?_;refine M0 (Qa J J J) J J ?_;refine M0 (q_lens J J J) J J ?_
        refine M0 (Qr J J J J (by assumption)) J J ?_;refine Qe (Q0 ?_);refine Qm rfl ?_;refine Qh (Q0 (Qd (Qk ?_)))
        refine Qd (Qc ?_);refine M0 (Qa J J J) J J ?_;refine M0 (Qa J J J) J J ?_
        refine M0 (q_byteK J J J J (by assumption) (by omega)) J J ?_;refine M0 (Qv (b := true) J J J J (by decide)) J J ?_;refine Qe (Q0 ?_)
        refine Qm rfl ?_;refine Qc ?_;refine M0 (Qa J J J) J J ?_;refine M0 (Qa J J J) J J ?_;refine M0 (q_mul J J J J (by omega)) J J ?_
        refine M0 (Qs J J J J (by omega)) J J ?_;refine M0 (Qa J J J) J J ?_;refine M0 (q_mul J J J J (by omega)) J J ?_
        refine M0 (Qs J J J J (by omega)) J J ?_;refine M1 (q_bslice J J J J J J) J J ?_
        refine AL.weak (Wk.sbrow (q := 2) (es := els [(c : Int) * 16 + 4,(r : Int) * 16 + 4]) J J (Nat.le_of_ble_eq_true rfl)) ?_
        refine M1 (q_bslice J J J J J J) J J ?_;refine M_appo J J J J J J J J J J J J J J (by omega) (by omega) ?_
        refine M0 (Qb J J J) J J ?_;refine Qe (Q1 (Q0 (Qc ?_)));refine M0 (Qa J J J) J J ?_
        refine M0 (Qs J J J J (by omega)) J J ?_;refine M0 (Qb J J J) J J ?_;refine Qe (Q0 ?_)
        exact ⟨row.size - (c + 1),by omega,(fun c : Nat => (⟨_,[(1,.o (.c (.ptr 0 0))),(3,.o (.c (.ref 1))),(4,I r),(5,S row),(6,I c),(11,L l.Rows),(12,I (els l.Rows).length),(13,I r)],[.box ((Enc.e l).map (V1.rd [])),.row 1 (els (rowSp l.Rows r ++ colSp row r c))]⟩ : St)) (c + 1),W_go [0,1] (by decide) rfl (row2w (sp_hit ho (by omega) (by omega))) (.cons rfl (.cons rfl (.cons rfl (.cons rfl (.cons rfl (.cons rfl (.cons rfl (.cons rfl (.nil))))))))),c + 1,by omega,trivial,rfl⟩
      · have hb2 : decide (byteAt row (c : Int).toNat = 111) = false := decide_eq_false ho
        refine Qd (Qd (Qc ?_));refine M0 (Qa J J J) J J ?_;refine M0 (Qa J J J) J J ?_;refine M0 (q_lens J J J) J J ?_
        refine M0 (Qr J J J J (by assumption)) J J ?_;refine Qe (Q0 ?_);refine Qm rfl ?_;refine Qh (Q0 (Qd (Qk ?_)))
        refine Qd (Qc ?_);refine M0 (Qa J J J) J J ?_;refine M0 (Qa J J J) J J ?_;refine M0 (q_byte J J J J (by omega)) J J ?_
        refine M0 (Qv J J J J (by assumption)) J J ?_;refine Qe (Q0 ?_);refine Ql rfl ?_;refine Qh (Q1 (Q0 (Qc ?_)))
        refine M0 (Qa J J J) J J ?_;refine M0 (Qs J J J J (by omega)) J J ?_;refine M0 (Qb J J J) J J ?_;refine Qe (Q0 ?_)
        exact ⟨row.size - (c + 1),by omega,(fun c : Nat => (⟨_,[(1,.o (.c (.ptr 0 0))),(3,.o (.c (.ref 1))),(4,I r),(5,S row),(6,I c),(11,L l.Rows),(12,I (els l.Rows).length),(13,I r)],[.box ((Enc.e l).map (V1.rd [])),.row 1 (els (rowSp l.Rows r ++ colSp row r c))]⟩ : St)) (c + 1),W_go [0,1] (by decide) rfl (row2w (by rw [sp_skip ho])) (.cons rfl (.cons rfl (.cons rfl (.cons rfl (.cons rfl (.cons rfl (.cons rfl (.cons rfl (.nil))))))))),c + 1,by omega,trivial,rfl⟩
    · have hb1 : decide ((c : Int) < row.size) = false := decide_eq_false (by omega)
      have hk : c = row.size := by omega
      refine Qd (Qd (Qc ?_));refine M0 (Qa J J J) J J ?_;refine M0 (Qa J J J) J J ?_;refine M0 (q_lens J J J) J J ?_
      refine M0 (Qr J J J J (by assumption)) J J ?_;refine Qe (Q0 ?_);refine Ql rfl ?_;refine Q9 (T_x (T_x (B_xs (Q1 ?_))))
      refine Q0 (Qc ?_);refine M0 (Qs J J J J (by omega)) J J ?_;refine M0 (Qa J J J) J J ?_;refine Qe (Q0 ?_)
      exact ⟨l.Rows.length - (r + 1),by omega,(fun r : Nat => (⟨_,[(1,.o (.c (.ptr 0 0))),(3,.o (.c (.ref 1))),(11,L l.Rows),(12,I (els l.Rows).length),(13,I r)],[.box ((Enc.e l).map (V1.rd [])),.row 1 (els (rowSp l.Rows r))]⟩ : St)) (r + 1),W_go [0,1] (by decide) rfl (row2w (by rw [sp_row hrow,hk])) (.cons rfl (.cons rfl (.cons rfl (.cons rfl (.cons rfl (.nil)))))),r + 1,by omega,trivial,rfl⟩
  · have hb0 : decide ((r : Int) < (els l.Rows).length) = false := decide_eq_false (by omega)
    have hk : r = l.Rows.length := by omega
    refine Qd (Qc ?_);refine M0 (Qr J J J J (by assumption)) J J ?_;refine Qe (Q0 (Qd ?_));refine Ql rfl ?_;refine Q9 ?_
    refine T_x (T_x (B_xs (Q0 (Qd (Qc ?_)))));refine M0 (Qa J J J) J J ?_;refine M0 (Qb J J J) J J ?_
    refine Qe (Q0 (Xa (F_r ?_)))
    exact E_tmp J J (W_end [1] (by decide) rfl (by rw [spotsM,← hk]; rfl) rfl)
set_option maxHeartbeats 8000000 in
theorem S_SpotsOf (l : TLevel) (hg : Enc.gd l) (hl : levelOk l = true) : Con Try.prog 127 [] [ag l] [.row 1 (els (spotsM l))] (.o (.c (.ref 0))) := by
  have hc := S_LevelOk l hg
  rw [hl] at hc
  have hlr := els_len l.Rows
  obtain ⟨l3,l12,w,w4,w20,hw⟩ := level_facts hl
  have hrl := rowSp_len hw
  refine Con.of Try.func127 rfl Try.ntmps127 rfl (fun E => ?_)
  refine Qd (Qc ?_);refine M1 (Qq J J J J) J J ?_;refine M0 (Qb J J J) J J ?_;refine Qe (Q0 (Qd ?_))
  refine Qc ?_;refine M1 (q_bslice0 J J J) J J ?_;refine M0 (Qb J J J) J J ?_;refine Qe (Q0 (Qd (Qd ?_)))
  refine Qc ?_;refine M0 (Qb J J J) J J ?_;refine Qe (Q0 (Qk ?_))
  refine A_loop (fun m st => ∃ r : Nat,r + m = l.Rows.length ∧ (True) ∧ st = (fun r : Nat => (⟨_,[(1,.o (.c (.ptr 0 0))),(3,.o (.c (.ref 1))),(4,I r)],[.box ((Enc.e l).map (V1.rd [])),.row 1 (els (rowSp l.Rows r))]⟩ : St)) r) (l.Rows.length) ⟨(fun r : Nat => (⟨_,[(1,.o (.c (.ptr 0 0))),(3,.o (.c (.ref 1))),(4,I r)],[.box ((Enc.e l).map (V1.rd [])),.row 1 (els (rowSp l.Rows r))]⟩ : St)) 0,W_go [0,1] (by decide) rfl (rfl) (.cons rfl (.cons rfl (.cons rfl (.nil)))),0,by omega,trivial,rfl⟩ ?_
  rintro m_A _ ⟨r,hk_A,hp_A,rfl⟩
  by_cases h3 : r < l.Rows.length
  · have hb0 : decide ((r : Int) < (els l.Rows).length) = true := decide_eq_true (by omega)
    have hat := els_at h3
    have hwr := hw r h3
    have hrow := List.getElem?_eq_getElem h3
    generalize l.Rows[r] = row at hat hwr hrow
    have hr1 := hrl r
    have hr2 : r * w ≤ 12 * 20 := Nat.mul_le_mul (by omega) w20
    refine Qd (Qd (Qc ?_));refine M0 (Qa J J J) J J ?_;refine M0 (Qf J J J J (by decide)) J J ?_
    refine M0 (Qg J J J J J) J J ?_;refine M0 (q_len J J J) J J ?_;refine M0 (Qr J J J J (by assumption)) J J ?_
    refine M0 (Qa J J J) J J ?_;refine Qi J J J ?_;refine M0 (Qu J J J J J J) J J ?_;refine Qi J J J ?_
    refine M0 (Qj J J (hc) rfl) J J ?_;refine M0 (Qo J J J J) J J ?_;refine Qe (Q0 ?_);refine Qm rfl ?_;refine Qh (Q0 ?_)
    refine Qd (Qk (Qd (Qc ?_)));refine M0 (Qb J J J) J J ?_;refine Qe (Q0 (Qk ?_))
    refine A_loop (fun m st => ∃ c : Nat,c + m = row.size ∧ (True) ∧ st = (fun c : Nat => (⟨_,[(1,.o (.c (.ptr 0 0))),(3,.o (.c (.ref 1))),(4,I r),(5,I c)],[.box ((Enc.e l).map (V1.rd [])),.row 1 (els (rowSp l.Rows r ++ colSp row r c))]⟩ : St)) c) (row.size) ⟨(fun c : Nat => (⟨_,[(1,.o (.c (.ptr 0 0))),(3,.o (.c (.ref 1))),(4,I r),(5,I c)],[.box ((Enc.e l).map (V1.rd [])),.row 1 (els (rowSp l.Rows r ++ colSp row r c))]⟩ : St)) 0,W_go [0,1] (by decide) rfl (row2w (by rw [colSp,List.append_nil])) (.cons rfl (.cons rfl (.cons rfl (.cons rfl (.nil))))),0,by omega,trivial,rfl⟩ ?_
    rintro m_D _ ⟨c,hk_D,hp_D,rfl⟩
    have hcl := colSp_len row r c
    have hel := els_len (rowSp l.Rows r ++ colSp row r c)
    rw [List.length_append] at hel
    by_cases h4 : c < row.size
    · have hb1 : decide ((c : Int) < row.size) = true := decide_eq_true (by omega)
      have hbt := byteAt_lt row c
      have hbt2 := byteAt_lt row (c : Int).toNat
      by_cases ho : byteAt row c = 111
      · have hb2 : decide (byteAt row (c : Int).toNat = 111) = true := decide_eq_true ho
        refine Qd (Qd (Qc ?_));refine M0 (Qa J J J) J J ?_;refine M0 (Qf J J J J (by decide)) J J ?_
        refine M0 (Qg J J J J J) J J ?_;refine M0 (Qa J J J) J J ?_;refine M0 (Q2 J J J J (by omega) (by assumption) rfl) J J ?_
        refine M0 (q_lr1 J J J J) J J ?_;refine M0 (q_lens J J J) J J ?_;refine M0 (Qr J J J J (by assumption)) J J ?_;refine Qe (Q0 ?_)
        refine Qm rfl ?_;refine Qh (Q0 (Qd (Qk (Qd (Qc ?_)))));refine M0 (Qf J J J J (by decide)) J J ?_
        refine M0 (Qg J J J J J) J J ?_;refine M0 (Qa J J J) J J ?_;refine M0 (Q2 J J J J (by omega) (by assumption) rfl) J J ?_
        refine M0 (q_lr1 J J J J) J J ?_;refine M0 (Qa J J J) J J ?_;refine M0 (q_byteK J J J J (by assumption) (by omega)) J J ?_
        refine M0 (Qv (b := true) J J J J (by decide)) J J ?_;refine Qe (Q0 ?_);refine Qm rfl ?_;refine Qc ?_;refine M0 (Qa J J J) J J ?_
        refine M0 (Qa J J J) J J ?_;refine M0 (q_mul J J J J (by omega)) J J ?_;refine M0 (Qs J J J J (by omega)) J J ?_
        refine M0 (Qa J J J) J J ?_;refine M0 (q_mul J J J J (by omega)) J J ?_;refine M0 (Qs J J J J (by omega)) J J ?_
        refine M1 (q_bslice J J J J J J) J J ?_
        refine AL.weak (Wk.sbrow (q := 2) (es := els [16 * (c : Int) + 4,16 * (r : Int) + 4]) J J (Nat.le_of_ble_eq_true rfl)) ?_
        refine M1 (q_bslice J J J J J J) J J ?_;refine M_appo J J J J J J J J J J J J J J (by omega) (by omega) ?_
        refine M0 (Qb J J J) J J ?_;refine Qe (Q1 (Q0 (Qc ?_)));refine M0 (Qa J J J) J J ?_
        refine M0 (Qs J J J J (by omega)) J J ?_;refine M0 (Qb J J J) J J ?_;refine Qe (Q0 ?_)
        exact ⟨row.size - (c + 1),by omega,(fun c : Nat => (⟨_,[(1,.o (.c (.ptr 0 0))),(3,.o (.c (.ref 1))),(4,I r),(5,I c)],[.box ((Enc.e l).map (V1.rd [])),.row 1 (els (rowSp l.Rows r ++ colSp row r c))]⟩ : St)) (c + 1),W_go [0,1] (by decide) rfl (row2w (sp_hit ho (by omega) (by omega))) (.cons rfl (.cons rfl (.cons rfl (.cons rfl (.nil))))),c + 1,by omega,trivial,rfl⟩
      · have hb2 : decide (byteAt row (c : Int).toNat = 111) = false := decide_eq_false ho
        refine Qd (Qd (Qc ?_));refine M0 (Qa J J J) J J ?_;refine M0 (Qf J J J J (by decide)) J J ?_
        refine M0 (Qg J J J J J) J J ?_;refine M0 (Qa J J J) J J ?_;refine M0 (Q2 J J J J (by omega) (by assumption) rfl) J J ?_
        refine M0 (q_lr1 J J J J) J J ?_;refine M0 (q_lens J J J) J J ?_;refine M0 (Qr J J J J (by assumption)) J J ?_;refine Qe (Q0 ?_)
        refine Qm rfl ?_;refine Qh (Q0 (Qd (Qk (Qd (Qc ?_)))));refine M0 (Qf J J J J (by decide)) J J ?_
        refine M0 (Qg J J J J J) J J ?_;refine M0 (Qa J J J) J J ?_;refine M0 (Q2 J J J J (by omega) (by assumption) rfl) J J ?_
        refine M0 (q_lr1 J J J J) J J ?_;refine M0 (Qa J J J) J J ?_;refine M0 (q_byte J J J J (by omega)) J J ?_
        refine M0 (Qv J J J J (by assumption)) J J ?_;refine Qe (Q0 ?_);refine Ql rfl ?_;refine Qh (Q1 (Q0 (Qc ?_)))
        refine M0 (Qa J J J) J J ?_;refine M0 (Qs J J J J (by omega)) J J ?_;refine M0 (Qb J J J) J J ?_;refine Qe (Q0 ?_)
        exact ⟨row.size - (c + 1),by omega,(fun c : Nat => (⟨_,[(1,.o (.c (.ptr 0 0))),(3,.o (.c (.ref 1))),(4,I r),(5,I c)],[.box ((Enc.e l).map (V1.rd [])),.row 1 (els (rowSp l.Rows r ++ colSp row r c))]⟩ : St)) (c + 1),W_go [0,1] (by decide) rfl (row2w (by rw [sp_skip ho])) (.cons rfl (.cons rfl (.cons rfl (.cons rfl (.nil))))),c + 1,by omega,trivial,rfl⟩
    · have hb1 : decide ((c : Int) < row.size) = false := decide_eq_false (by omega)
      have hk : c = row.size := by omega
      refine Qd (Qd (Qc ?_));refine M0 (Qa J J J) J J ?_;refine M0 (Qf J J J J (by decide)) J J ?_
      refine M0 (Qg J J J J J) J J ?_;refine M0 (Qa J J J) J J ?_;refine M0 (Q2 J J J J (by omega) (by assumption) rfl) J J ?_
      refine M0 (q_lr1 J J J J) J J ?_;refine M0 (q_lens J J J) J J ?_;refine M0 (Qr J J J J (by assumption)) J J ?_;refine Qe (Q0 ?_)
      refine Ql rfl ?_;refine Q9 (T_x (T_x (B_xs (Q1 (Q0 (Qc ?_))))));refine M0 (Qa J J J) J J ?_
      refine M0 (Qs J J J J (by omega)) J J ?_;refine M0 (Qb J J J) J J ?_;refine Qe (Q0 ?_)
      exact ⟨l.Rows.length - (r + 1),by omega,(fun r : Nat => (⟨_,[(1,.o (.c (.ptr 0 0))),(3,.o (.c (.ref 1))),(4,I r)],[.box ((Enc.e l).map (V1.rd [])),.row 1 (els (rowSp l.Rows r))]⟩ : St)) (r + 1),W_go [0,1] (by decide) rfl (row2w (by rw [sp_row hrow,hk])) (.cons rfl (.cons rfl (.cons rfl (.nil)))),r + 1,by omega,trivial,rfl⟩
  · have hb0 : decide ((r : Int) < (els l.Rows).length) = false := decide_eq_false (by omega)
    have hk : r = l.Rows.length := by omega
    refine Qd (Qd (Qc ?_));refine M0 (Qa J J J) J J ?_;refine M0 (Qf J J J J (by decide)) J J ?_
    refine M0 (Qg J J J J J) J J ?_;refine M0 (q_len J J J) J J ?_;refine M0 (Qr J J J J (by assumption)) J J ?_
    refine M0 (Qa J J J) J J ?_;refine Qp J J J J J J ?_;refine Qp J J J J J J ?_;refine M0 (Qn J J J J) J J ?_;refine Qe ?_
    refine Q0 ?_;refine Ql rfl ?_;refine Q9 (T_x (T_x (B_xs (Q0 (Qd (Qc ?_))))));refine M0 (Qa J J J) J J ?_
    refine M0 (Qb J J J) J J ?_;refine Qe (Q0 (Xa (F_r ?_)))
    exact E_tmp J J (W_end [1] (by decide) rfl (by rw [spotsM,← hk]; rfl) rfl)
end Go.Proofs.Ytmljakmaffbnlaa
end
