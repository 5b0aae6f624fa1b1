/-
  Texts with runs of zeros packed: what is read back. No statement of the program is proved here.
  Conditions: none.
  append(x, make([]byte, n)...): the compiler's append of n zeros. No statement of the program is proved here.
  Conditions: none.
  PackZeros and UnpackZeros, in the program and in the reference.
  Conditions: texts of at most 2^40 - 1 bytes.
  Runs of inputs as bytes: PackTrack, and the columns of rows, in the program and in the reference.
  Conditions: at most 400 rows of equal length.
  UnpackTrack, in the program and in the reference.
  Conditions: texts of at most 2^40 bytes.
  Calls of functions that write to what they are lent. No statement of the program is proved here.
  Conditions: none.
  Calls of functions that write to one element's slice of an owned slice of slices. No statement of the program is proved here.
  Conditions: none.
  Parts of owned slices that replace them. No statement of the program is proved here.
  Conditions: none.
  One element's slice of an owned slice of slices, taken out to be written to. No statement of the program is proved here.
  Conditions: none.
  What the laws write into what they hold, and what they read back.
  Conditions: at most 2^30 elements.
  What the laws write into replays with rows, and what they read back.
  Conditions: at most 2^30 elements.
  The players' columns read from bytes: unpackColumns of the program, l07Columns of the reference.
  Conditions: texts of at most 2^40 bytes, at most 4 players and 400 rows.
  Streams of rows as bytes: EncodeStream, in the program and in the reference.
  Conditions: none.
  What the two DecodeStream return is the same. No statement of the program is proved here: plain law.
  Conditions: none.
  XorText, in the program and in the reference.
  Conditions: texts of at most 2^40 bytes.
-/
import Derived.Test.YtmljakmaffbnlaaDDKeyRowk6
import Derived.Test.YtmljakmaffbnlaaDDKeyRowk8
section
set_option linter.unusedSimpArgs false
set_option linter.unusedVariables false
set_option maxRecDepth 8000
namespace Go.Proofs.Ytmljakmaffbnlaa
open Go.RowKit

def zeroB (b : UInt8) : Bool := b == 0
def someB (b : UInt8) : Bool := !(b == 0)
def packZ (l : List UInt8) : List UInt8 := match l with
  | [] => []
  | x :: r => encVar (((x :: r).takeWhile zeroB).length : Nat) ++ (encVar ((((x :: r).dropWhile zeroB).takeWhile someB).length : Nat) ++ ((x :: r).dropWhile zeroB).takeWhile someB) ++ packZ (((x :: r).dropWhile zeroB).dropWhile someB)
termination_by l.length
decreasing_by
  by_cases h : zeroB x = true
  · rw [List.dropWhile_cons,if_pos h]
    have h1 := (List.dropWhile_sublist someB (l := r.dropWhile zeroB)).length_le
    have h2 := (List.dropWhile_sublist zeroB (l := r)).length_le
    simp only [List.length_cons]; omega
  · rw [List.dropWhile_cons,if_neg h,List.dropWhile_cons,if_pos (by simpa [zeroB,someB] using h)]
    have h1 := (List.dropWhile_sublist someB (l := r)).length_le
    simp only [List.length_cons]; omega
theorem packZ_ne (x : UInt8) (r : List UInt8) : ¬ (((x :: r).takeWhile zeroB).length = 0 ∧ (((x :: r).dropWhile zeroB).takeWhile someB).length = 0) := by
  intro ⟨h1,h2⟩
  by_cases h : zeroB x = true
  · rw [List.takeWhile_cons,if_pos h] at h1; simp at h1
  · rw [List.dropWhile_cons,if_neg h,List.takeWhile_cons,if_pos (by simpa [zeroB,someB] using h)] at h2; simp at h2
def uzGo (s : ByteArray) (strict : Bool) : Nat → Nat → List UInt8 → Option (List UInt8)
  | 0,pos,out => if pos < s.size then none else some out
  | f + 1,pos,out => if pos < s.size then (match decVar s pos with
    | none => none
    | some (n,j) => match unpackText s ((pos : Int) + (j : Int)) with
      | none => none
      | some (t,k) => if (20000 : Int) - out.length < n + t.size then none else if strict = true ∧ n = 0 ∧ t.size = 0 then none else uzGo s strict f (pos + j + k) (out ++ List.replicate n.toNat 0 ++ t.data.toList)) else some out
def unpackZ (strict : Bool) (s : ByteArray) : Option ByteArray := match uzGo s strict s.size 0 [] with
  | none => none
  | some out => if bs (packZ out) = s then some (bs out) else none
theorem unpackText_enc {s : ByteArray} {p : Nat} {t r : List UInt8} (hL : s.size ≤ 1099511627775) (hs : s.data.toList.drop p = (encVar (t.length : Nat) ++ t) ++ r) : unpackText s p = some (bs t,(encVar (t.length : Nat)).length + t.length) := by
  have e : s.data.toList.length = s.size := by simp
  have hlen : (s.data.toList.drop p).length = ((encVar (t.length : Nat) ++ t) ++ r).length := by rw [hs]
  simp only [List.length_drop,List.length_append] at hlen
  rw [List.append_assoc] at hs
  by_cases ht : (t.length : Int) ≤ 1099511627775
  · have h1 := decVar_enc (by omega) ht hs
    have hne : 1 ≤ (encVar (t.length : Nat)).length := by rw [encVar,if_pos ⟨by omega,ht⟩]; exact (varN_len _).1
    rw [unpackText,h1]
    have hp : p + (encVar (t.length : Nat)).length + t.length ≤ s.size := by omega
    simp only
    rw [if_neg (by omega)]
    congr 2
    have hd : s.data.toList.drop (p + (encVar (t.length : Nat)).length) = t ++ r := by
      have := congrArg (List.drop (encVar (t.length : Nat)).length) hs
      rwa [List.drop_drop,List.drop_left] at this
    rw [show ((p : Int) + ((encVar (t.length : Nat)).length : Nat)).toNat = p + (encVar (t.length : Nat)).length by omega,show ((p : Int) + ((encVar (t.length : Nat)).length : Nat) + ((t.length : Nat) : Int)).toNat = p + (encVar (t.length : Nat)).length + t.length by omega,extract_bytes,bytesL,hd,List.take_left]
  · omega
theorem uz_mono (s : ByteArray) : ∀ (f pos : Nat) (out r : List UInt8),uzGo s true f pos out = some r → uzGo s false f pos out = some r
  | 0,pos,out,r,h => h
  | f + 1,pos,out,r,h => by
    rw [uzGo] at h ⊢
    by_cases hp : pos < s.size
    · rw [if_pos hp] at h ⊢
      cases hd : decVar s pos with
      | none => rw [hd] at h; cases h
      | some x =>
        obtain ⟨n,j⟩ := x
        rw [hd] at h
        simp only at h ⊢
        cases hu : unpackText s ((pos : Int) + (j : Int)) with
        | none => rw [hu] at h; cases h
        | some y =>
          obtain ⟨t,k⟩ := y
          rw [hu] at h
          simp only at h ⊢
          split at h
          · cases h
          · rename_i hb
            rw [if_neg hb,if_neg (by simp)]
            split at h
            · cases h
            · exact uz_mono s f _ _ _ h
    · rw [if_neg hp] at h ⊢; exact h
theorem uz_canon (s : ByteArray) (hL : s.size ≤ 1099511627775) : ∀ (f pos : Nat) (out l : List UInt8),l.length ≤ 1099511627775 → s.data.toList.drop pos = packZ l → uzGo s true f pos out = uzGo s false f pos out
  | 0,pos,out,l,_,h => rfl
  | f + 1,pos,out,l,hl,h => by
    rw [uzGo,uzGo]
    by_cases hp : pos < s.size
    · rw [if_pos hp,if_pos hp]
      have e : s.data.toList.length = s.size := by simp
      cases l with
      | nil =>
        rw [packZ] at h
        have := congrArg List.length h
        simp only [List.length_drop,List.length_nil] at this
        omega
      | cons x r =>
        have hne := packZ_ne x r
        rw [packZ,List.append_assoc] at h
        have hl1 := (List.takeWhile_sublist zeroB (l := x :: r)).length_le
        have hl2 := (List.dropWhile_sublist someB (l := (x :: r).dropWhile zeroB)).length_le
        have hl3 := (List.dropWhile_sublist zeroB (l := x :: r)).length_le
        generalize ((x :: r).takeWhile zeroB).length = z at h hne hl1
        generalize ((x :: r).dropWhile zeroB).takeWhile someB = t at h hne
        generalize ((x :: r).dropWhile zeroB).dropWhile someB = q at h hl2
        have hlen : (s.data.toList.drop pos).length = (encVar (z : Nat) ++ ((encVar (t.length : Nat) ++ t) ++ packZ q)).length := by rw [h]
        by_cases hz : (z : Int) ≤ 1099511627775
        · have h1 := decVar_enc (s := s) (p := pos) (n := (z : Int)) (by omega) hz h
          have hd : s.data.toList.drop (pos + (encVar (z : Nat)).length) = (encVar (t.length : Nat) ++ t) ++ packZ q := by
            have := congrArg (List.drop (encVar (z : Nat)).length) h
            rwa [List.drop_drop,List.drop_left] at this
          have h2 := unpackText_enc hL hd
          have hd2 : s.data.toList.drop (pos + (encVar (z : Nat)).length + ((encVar (t.length : Nat)).length + t.length)) = packZ q := by
            have := congrArg (List.drop (encVar (t.length : Nat) ++ t).length) hd
            rw [List.drop_drop,List.drop_left,List.length_append] at this
            exact this
          rw [h1]
          simp only
          rw [show (pos : Int) + ((encVar (z : Nat)).length : Nat) = ((pos + (encVar (z : Nat)).length : Nat) : Int) by omega,h2]
          simp only
          split
          · rfl
          · rw [if_neg (by rw [bs_size]; intro ⟨_,h3,h4⟩; exact hne ⟨by omega,h4⟩),if_neg (by simp)]
            exact uz_canon s hL f _ _ q (by omega) hd2
        · omega
    · rw [if_neg hp,if_neg hp]
theorem uz_len (s : ByteArray) (b : Bool) : ∀ (f pos : Nat) (out r : List UInt8),out.length ≤ 20000 → uzGo s b f pos out = some r → r.length ≤ 20000
  | 0,pos,out,r,hl,h => by
    rw [uzGo] at h
    split at h
    · cases h
    · cases h; exact hl
  | f + 1,pos,out,r,hl,h => by
    rw [uzGo] at h
    by_cases hp : pos < s.size
    · rw [if_pos hp] at h
      cases hd : decVar s pos with
      | none => rw [hd] at h; cases h
      | some x =>
        obtain ⟨n,j⟩ := x
        rw [hd] at h
        simp only at h
        have hn := decVar_some hd
        cases hu : unpackText s ((pos : Int) + (j : Int)) with
        | none => rw [hu] at h; cases h
        | some y =>
          obtain ⟨t,k⟩ := y
          rw [hu] at h
          simp only at h
          split at h
          · cases h
          · rename_i hb
            split at h
            · cases h
            · have e : t.data.toList.length = t.size := by simp
              exact uz_len s b f _ _ _ (by simp only [List.length_append,List.length_replicate]; omega) h
    · rw [if_neg hp] at h; cases h; exact hl
theorem unpackZ_eq (s : ByteArray) (hL : s.size ≤ 1099511627775) : unpackZ true s = unpackZ false s := by
  unfold unpackZ
  cases h : uzGo s false s.size 0 [] with
  | none =>
    cases h2 : uzGo s true s.size 0 [] with
    | none => rfl
    | some r => rw [uz_mono s _ _ _ _ h2] at h; cases h
  | some r =>
    by_cases hr : bs (packZ r) = s
    · have hc := uz_canon s hL s.size 0 [] r (by have := uz_len s false _ _ _ _ (by simp) h; omega) (by rw [List.drop_zero,← hr,bs_list])
      rw [hc,h]
    · simp only [if_neg hr]
      cases h2 : uzGo s true s.size 0 [] with
      | none => rfl
      | some r' =>
        have := uz_mono s _ _ _ _ h2
        rw [h] at this
        cases this
        simp only [if_neg hr]
theorem tw_gen {q : UInt8 → Bool} : ∀ {xs : List UInt8} {n : Nat},(∀ j,j < n → ∃ y,xs[j]? = some y ∧ q y = true) → (∀ y,xs[n]? = some y → q y = false) → xs.takeWhile q = xs.take n ∧ xs.dropWhile q = xs.drop n
  | [],n,_,_ => by simp
  | x :: xs,0,_,h2 => by
    have := h2 x (by simp)
    rw [List.takeWhile_cons,List.dropWhile_cons,this]
    simp
  | x :: xs,n + 1,h1,h2 => by
    obtain ⟨y,hy,hq⟩ := h1 0 (by omega)
    simp at hy
    subst hy
    obtain ⟨a,b⟩ := tw_gen (q := q) (xs := xs) (n := n) (fun j hj => by have := h1 (j + 1) (by omega); simpa using this) (fun y hy => h2 y (by simpa using hy))
    rw [List.takeWhile_cons,List.dropWhile_cons,hq]
    simp [a,b]
theorem byte_some {s : ByteArray} {a j : Nat} {b : UInt8} (h : (s.data.toList.drop a)[j]? = some b) : a + j < s.size ∧ byteAt s (a + j) = (b.toNat : Int) := by
  rw [List.getElem?_drop] at h
  have hl := (List.getElem?_eq_some_iff.1 h).1
  have e : s.data.toList.length = s.size := by simp
  obtain ⟨b',h1,h2⟩ := byteAt_list (s := s) (i := a + j) (by omega)
  rw [h] at h1
  cases h1
  exact ⟨by omega,h2⟩
theorem zero_iff {b : UInt8} : zeroB b = true ↔ (b.toNat : Int) = 0 := by
  simp only [zeroB,beq_iff_eq]
  constructor
  · intro h; subst h; rfl
  · intro h; exact UInt8.toNat_inj.1 (by simpa using h)
theorem text_list (t : ByteArray) : (packText t).data.toList = encVar (t.size : Nat) ++ t.data.toList := by simp [packText,ByteArray.append,bs]
theorem packZ_step {s : ByteArray} {a m i : Nat} (h1 : a ≤ m) (h2 : m ≤ i) (h3 : i ≤ s.size) (hlt : a < i) (hz : ∀ j,a ≤ j → j < m → byteAt s j = 0) (hm : m < s.size → byteAt s m ≠ 0) (hn : ∀ j,m ≤ j → j < i → byteAt s j ≠ 0) (hi : i < s.size → byteAt s i = 0) :
    packZ (s.data.toList.drop a) = encVar ((m - a : Nat) : Int) ++ (packText (s.extract m i)).data.toList ++ packZ (s.data.toList.drop i) := by
  have e : s.data.toList.length = s.size := by simp
  have ht1 := tw_gen (q := zeroB) (xs := s.data.toList.drop a) (n := m - a) (fun j hj => by
    obtain ⟨y,hy⟩ : ∃ y,(s.data.toList.drop a)[j]? = some y := ⟨_,List.getElem?_eq_getElem (by simp; omega)⟩
    exact ⟨y,hy,zero_iff.2 (by rw [← (byte_some hy).2]; exact hz _ (by omega) (by omega))⟩) (fun y hy => by
    have := byte_some hy
    rw [show a + (m - a) = m by omega] at this
    rw [← Bool.not_eq_true,zero_iff,← this.2]
    exact hm this.1)
  rw [List.drop_drop,show a + (m - a) = m by omega] at ht1
  have ht2 := tw_gen (q := someB) (xs := s.data.toList.drop m) (n := i - m) (fun j hj => by
    obtain ⟨y,hy⟩ : ∃ y,(s.data.toList.drop m)[j]? = some y := ⟨_,List.getElem?_eq_getElem (by simp; omega)⟩
    refine ⟨y,hy,?_⟩
    have h4 : ¬ zeroB y = true := by rw [zero_iff,← (byte_some hy).2]; exact hn _ (by omega) (by omega)
    simpa [zeroB,someB] using h4) (fun y hy => by
    have := byte_some hy
    rw [show m + (i - m) = i by omega] at this
    have h4 : zeroB y = true := by rw [zero_iff,← this.2]; exact hi this.1
    simpa [zeroB,someB] using h4)
  rw [List.drop_drop,show m + (i - m) = i by omega] at ht2
  have hne : s.data.toList.drop a ≠ [] := by
    intro h
    have := congrArg List.length h
    simp only [List.length_drop,List.length_nil] at this
    omega
  have hx : (s.extract m i).data.toList = (s.data.toList.drop m).take (i - m) := extract_list s m i
  have hsz : (s.extract m i).size = i - m := by rw [ByteArray.size_extract]; omega
  rw [text_list,hx,hsz]
  cases hd : s.data.toList.drop a with
  | nil => exact absurd hd hne
  | cons x r =>
    rw [packZ,← hd,ht1.1,ht1.2,ht2.1,ht2.2,List.length_take,List.length_take,List.length_drop,List.length_drop,show min (m - a) (s.data.toList.length - a) = m - a by omega,show min (i - m) (s.data.toList.length - m) = i - m by omega]
theorem packZ_nil : packZ [] = [] := by rw [packZ]
end Go.Proofs.Ytmljakmaffbnlaa
end

section
set_option linter.unusedSimpArgs false
set_option linter.unusedVariables false
set_option maxRecDepth 8000
namespace Go.Proofs.Ytmljakmaffbnlaa
open Go.RowKit

def zeroS (k : Nat) : ByteArray := ⟨Array.replicate k 0⟩
theorem zeroS_list (k : Nat) : (zeroS k).data.toList = List.replicate k 0 := by simp [zeroS]
theorem zeroS_size (k : Nat) : (zeroS k).size = k := by simp [zeroS,ByteArray.size]
theorem zeroS_cells (k : Nat) : (byteCells (zeroS k)).toArray = Builtin.zeroCells #[.int .u8 0] k := by
  apply Array.ext'
  apply List.ext_getElem
  · simp [byteCells,zeroS,Builtin.zeroCells]
  · intro i h1 h2
    simp [byteCells,zeroS,Builtin.zeroCells,Nat.mod_one]
theorem append_zeros_run {P : Program} (w : World) (t tn ts ty e : TypeId) (i : TypeInfo) {kn : IntKind} (ht : P.underlying t = some (.slice e)) (htn : P.underlying tn = some (.int kn)) (hts : P.underlying ts = some .string) (hi : P.info? e = some i) {z : Value} (hz : i.zero = some z) (hzc : z.cells = #[.int .u8 0]) (hsz : i.size = 1) (hb : i.bytes = 1)
    (base : Option Addr) (sLen sCap k : Nat) (hcap : sLen ≤ sCap) (hk : sLen + k ≤ 140737488355328) :
    (Builtin.append_ #[t,tn] ty #[.slice base sLen sCap,.int .i64 k]).run P w = (Builtin.append_ #[t,ts] ty #[.slice base sLen sCap,.string (zeroS k)]).run P w := by
  have hs := Src.ofString (P := P) w hts (zeroS k)
  have hc := zeroS_cells k
  rw [zeroS_size] at hs
  obtain ⟨_,hl,hcells,hcellsD,_,_⟩ := hs
  have hcA : ∀ w' : World,(Builtin.firstCells 1 k (.string (zeroS k))).run P w' = .ok (byteCells (zeroS k)).toArray w' := fun w' => by
    have := firstCells_string (P := P) (zeroS k) w'
    rwa [zeroS_size] at this
  have hw : IntKind.i64.wrap (k : Int) = k := by rw [IntKind.wrap_i64]; omega
  have hw0 : IntKind.i64.wrap (0 : Int) = 0 := by rw [IntKind.wrap_i64]; omega
  have hneg : ¬ ((k : Int) < 0) := by omega
  have h48i : ¬ (281474976710656 < (k : Int)) := by omega
  have h63' : ¬ (9223372036854775807 < ((sLen : Int) + (k : Int))) := by omega
  by_cases hroom : sLen + k ≤ sCap
  · by_cases h0 : k = 0
    · subst h0
      have hc0 : (byteCells (zeroS 0)).toArray = #[] := rfl
      simp [Builtin.append_,run_underlying ht,run_underlying htn,run_underlying hts,sizeOf,typeInfo,zeroValue,hi,hz,hsz,hb,asInt,asIntOf,hw0,hl,hcA,hc0] at hroom ⊢
      simp [hroom]
    · simp [Builtin.append_,run_underlying ht,run_underlying htn,run_underlying hts,sizeOf,typeInfo,zeroValue,hi,hz,hsz,hb,asInt,asIntOf,hw,hneg,h0,h48i,hl,hroom,hcA,hc,hzc]
  · by_cases h0 : k = 0
    · omega
    · have hfit := growslice_fits (need := sLen + k) (old := sCap) (bytes := 1) (by omega) (by omega)
      have h48' : ¬ (281474976710656 < Builtin.nextslicecap (sLen + k) sCap) := by omega
      simp [h48',Builtin.append_,run_underlying ht,run_underlying htn,run_underlying hts,sizeOf,typeInfo,zeroValue,hi,hz,hsz,hb,asInt,asIntOf,hw,hneg,h0,h48i,h63',hl,hroom,hcA,hc,hzc]
theorem append_zs {P : Program} {w : World} {t tn ts ty e : TypeId} {kn : IntKind} [hm : TyMake P t e [.int .u8 0] 1] [hn : TyInt P tn kn] [hts : TyStr P ts] {es : List (List T)} {v : Value} {fp : List Nat} (hw : OW w (.sl 1 es) v fp) (k : Nat) (hk : es.length + k ≤ 140737488355328) :
    (Builtin.append_ #[t,tn] ty #[v,.int .i64 k]).run P w = (Builtin.append_ #[t,ts] ty #[v,.string (zeroS k)]).run P w := by
  obtain ⟨i,hi,hzz⟩ := Option.map_eq_some_iff.1 hm.info
  simp only [Prod.mk.injEq] at hzz
  obtain ⟨hz1,hs,hb1⟩ := hzz
  obtain ⟨z,hz2,hz3⟩ := Option.map_eq_some_iff.1 hz1
  have hzc : z.cells = #[.int .u8 0] := Array.ext' hz3
  rcases hw.open_ with ⟨rfl,rfl,rfl⟩ | ⟨b,o,c,tid,cur,fz,val,fps,rfl,_,_,_,hc,_⟩
  · exact append_zeros_run w t tn ts ty e i hm.slice hn.int hts.str hi hz2 hzc hs hb1 none 0 0 k (Nat.le_refl _) (by simpa using hk)
  · exact append_zeros_run w t tn ts ty e i hm.slice hn.int hts.str hi hz2 hzc hs hb1 _ es.length c k hc hk
section
variable {P : Program} {E : Env} {ops : Array Oper} {rest : List Oper} {o : Oper} {QQ : Exit → St → Prop} {st : St} {t : TypeId} {y z : Operand} {qs : List Nat}
theorem L_appz {p : Nat} {tn : TypeId} (ts : TypeId) {kn : IntKind} {k : Nat} {es : List (List T)} {e : TypeId} [hm : TyMake P t e [.int .u8 0] 1] [hn : TyInt P tn kn] [hts : TyStr P ts] (ho : o.op = .call { callee := .builtin .append,args := #[y,z],argTypes := #[t,tn] }) (hg : o.guard = none) (hy : st.ev y = .o (.c (.ref p))) (hp : st.objs[p]? = some (.row 1 es)) (hz : st.ev z = .o (.c (.rd qs (.v (.int .i64 (k : Int))))))
    (hb : es.length + k ≤ 140737488355328)
    (hd : dstOk st.n o.dst = true) (h : AL P E ops QQ rest ⟨st.n,setT (st.tmps.map fun e => (e.1,e.2.kill [p])) o.dst (.o (.c (.ref p))),(st.objs.map (Ob.kill [p])).set p (.row 1 (es ++ bE (List.replicate k 0)))⟩) : AL P E ops QQ (o :: rest) st := by
  refine ⟨fun a w ⟨H,F,h1,h2⟩ => ?_⟩
  obtain ⟨v,fp,e1,e2⟩ := h1.ow hp
  obtain ⟨x',fp',e3⟩ := h1.v1 hy
  rw [e1] at e3
  simp only [Pc.ow.injEq] at e3
  obtain ⟨_,hv,_⟩ := e3
  have hnd := h1.ok.nodup p
  rw [e1] at hnd
  have hlen : (bE (zeroS k).data.toList).length = k := by rw [bE_len,zeroS_list,List.length_replicate]
  obtain ⟨v',w',fp'',hr,h3,h4,h5,h6⟩ := append_src (P := P) (o := o) (t := t) (kk := 1) e2 hnd rfl (by simp) (bE_src (tx := ts) (zeroS k)) (bE_plain _) (bE_one _) (by rw [hlen]; omega) (by rw [hlen]; omega)
  rw [← append_zs (tn := tn) e2 k hb] at hr
  rw [zeroS_list] at h3
  obtain ⟨hok,htn⟩ := h1.ok.turn (p := p) (fp := fp) (by rw [e1]; rfl) h6 (.ow (.sl 1 (es ++ bE (List.replicate k 0))) v' fp'') h3 h4 trivial h5
  obtain ⟨hplt,_⟩ := List.getElem?_eq_some_iff.1 hp
  have hR := h1.turn htn hok ((st.objs.map (Ob.kill [p])).set p (.row 1 (es ++ bE (List.replicate k 0)))) (fun q hq => ?_) (fun q hq => ?_)
  · have hR2 := hR.put (x := .o (.c (.ref p))) o.dst hd (v := v') ⟨_,_,Hs.put_self _ _ _⟩
    refine wpList_step fun K hK => ?_
    rw [if_pos (by unfold Region.wanted; rw [hg])]
    unfold Oper.wp
    rw [exec_append ho (by rw [← hv,h1.plain hz]; exact hr)]
    exact hK _ _ (h.h _ _ ⟨_,F,hR2,h2.turn htn⟩)
  · have hqp : q ≠ p := by simpa using hq
    rw [List.getD_eq_getElem?_getD,List.getElem?_set_ne (Ne.symm hqp),List.getElem?_map,List.getD_eq_getElem?_getD]
    cases st.objs[q]? <;> rfl
  · have hqp : q = p := by simpa using hq
    subst hqp
    rw [getD_of (x := .row 1 (es ++ bE (List.replicate k 0))) (by simp [hplt])]
    exact ⟨_,_,Hs.put_self _ _ _⟩
theorem M_appz {n d p : Nat} {ts' : List (Nat × V)} {obs : List Ob} {tn : TypeId} (ts : TypeId) {kn : IntKind} {k : Nat} {es : List (List T)} {e : TypeId} [hm : TyMake P t e [.int .u8 0] 1] [hn : TyInt P tn kn] [hts : TyStr P ts] (ho : o.op = .call { callee := .builtin .append,args := #[y,z],argTypes := #[t,tn] }) (hg : o.guard = none) (hy : St.ev ⟨n,ts',obs⟩ y = .o (.c (.ref p))) (hp : obs[p]? = some (.row 1 es)) (hz : St.ev ⟨n,ts',obs⟩ z = .o (.c (.rd qs (.v (.int .i64 (k : Int))))))
    (hd : o.dst = some d) (hl : Nat.blt d n = true) (hb : es.length + k ≤ 140737488355328)
    (h : AL P E ops QQ rest ⟨n,(d,.o (.c (.ref p))) :: (ts'.map fun e => (e.1,e.2.kill [p])),(obs.map (Ob.kill [p])).set p (.row 1 (es ++ bE (List.replicate k 0)))⟩) : AL P E ops QQ (o :: rest) ⟨n,ts',obs⟩ :=
  L_appz (st := ⟨n,ts',obs⟩) ts ho hg hy hp hz hb (by rw [hd]; exact hl) (by rw [hd]; exact h)
end
end Go.Proofs.Ytmljakmaffbnlaa
end

section
set_option linter.unusedSimpArgs false
set_option linter.unusedVariables false
set_option maxRecDepth 8000
namespace Go.Proofs.Ytmljakmaffbnlaa
open Go.RowKit

theorem upZ {s : ByteArray} {i q : Nat} (h : ∀ j,i ≤ j → j < q → byteAt s j = 0) (hq : byteAt s q = 0) : ∀ j,i ≤ j → j < q + 1 → byteAt s j = 0 := fun j h1 h2 => by
  by_cases e : j = q
  · subst e; exact hq
  · exact h j h1 (by omega)
theorem upN {s : ByteArray} {i q : Nat} (h : ∀ j,i ≤ j → j < q → byteAt s j ≠ 0) (hq : byteAt s q ≠ 0) : ∀ j,i ≤ j → j < q + 1 → byteAt s j ≠ 0 := fun j h1 h2 => by
  by_cases e : j = q
  · subst e; exact hq
  · exact h j h1 (by omega)
theorem text_len (t : ByteArray) : (packText t).data.toList.length ≤ t.size + 6 := by
  rw [text_list,List.length_append]
  have := encVar_len (t.size : Nat)
  have e : t.data.toList.length = t.size := by simp
  omega
set_option maxHeartbeats 8000000 in
theorem I_PackZeros (s : ByteArray) (hs : s.size ≤ 1099511627775) : Con Try.prog 105 [] [astr s] [] (S (bs (packZ s.data.toList))) := by
  refine Con.of Try.func105 rfl Try.ntmps105 rfl (fun E => ?_)
  refine A_seq (A_region ?_);refine M0 (q_assignC rfl rfl rfl) rfl rfl ?_;refine L_nil (T_n (A_seq (A_region ?_)))
  refine M0 (q_assignC rfl rfl rfl) rfl rfl ?_;refine L_nil (T_n (A_seq (A_region ?_)));refine M0 (q_assignC rfl rfl rfl) rfl rfl ?_;refine L_nil (T_n ?_)
  refine A_seq (A_block ?_)
  refine AWP.pre ?_ (W_nil 3 1 rfl)
  refine A_loop (fun m__ st => ∃ (i : Nat) (acc : List UInt8),s.size - i = m__ ∧ (acc ++ packZ (s.data.toList.drop i) = packZ s.data.toList ∧ i ≤ s.size ∧ acc.length ≤ 14 * i) ∧ st = (fun (i : Nat) (acc : List UInt8) => (⟨_,[(0,S s),(3,.o (.c (.ref 0))),(4,I i)],[.row 1 (bE acc)]⟩ : St)) (i) (acc)) ((fun (i : Nat) (acc : List UInt8) => s.size - i) (0) ([])) ⟨(fun (i : Nat) (acc : List UInt8) => (⟨_,[(0,S s),(3,.o (.c (.ref 0))),(4,I i)],[.row 1 (bE acc)]⟩ : St)) (0) ([]),W_go [0] (by decide) rfl (rfl) (.cons rfl (.cons rfl (.cons rfl (.nil)))),0,[],rfl,by simp,rfl⟩ ?_
  rintro m_A _ ⟨i,acc,hk_A,hp_A,rfl⟩
  obtain ⟨hp1,hp2,hp3⟩ := hp_A
  refine A_seq (A_seq (A_region ?_));refine M0 (q_moveC rfl rfl rfl) rfl rfl ?_;refine M0 (q_moveC rfl rfl rfl) rfl rfl ?_;refine M0 (q_lens rfl rfl rfl) rfl rfl ?_
  refine M0 (q_lss rfl rfl rfl rfl) rfl rfl ?_;refine L_nil (T_n ?_)
  refine A_cond rfl (fun h5 => ?_) (fun h5 => ?_)
  · have h5 : i < s.size := by have := of_decide_eq_true h5; omega
    have hb := bE_len acc
    have hb1 := bs_size acc
    refine A_skip (T_n (A_block (A_seq (A_region ?_))));refine M0 (q_moveC rfl rfl rfl) rfl rfl ?_;refine M0 (q_assignC rfl rfl rfl) rfl rfl ?_;refine L_nil ?_
    refine T_n (A_seq (A_block ?_))
    refine A_loop (fun m__ st => ∃ (q : Nat),s.size - q = m__ ∧ (i ≤ q ∧ q ≤ s.size ∧ (∀ j,i ≤ j → j < q → byteAt s j = 0)) ∧ st = (fun (q : Nat) => (⟨_,[(0,S s),(3,.o (.c (.ref 0))),(4,I q),(5,I i)],[.row 1 (bE acc)]⟩ : St)) (q)) ((fun (q : Nat) => s.size - q) (i)) ⟨(fun (q : Nat) => (⟨_,[(0,S s),(3,.o (.c (.ref 0))),(4,I q),(5,I i)],[.row 1 (bE acc)]⟩ : St)) (i),W_go [0] (by decide) rfl (rfl) (.cons rfl (.cons rfl (.cons rfl (.cons rfl (.nil))))),i,rfl,⟨Nat.le_refl _,by omega,fun q h1 h2 => by omega⟩,rfl⟩ ?_
    rintro m_D _ ⟨q,hk_D,hp_D,rfl⟩
    obtain ⟨hd1,hd2,hd3⟩ := hp_D
    by_cases hq : q < s.size
    · have f1 : decide ((q : Int) < s.size) = true := decide_eq_true (by omega)
      by_cases hz : byteAt s q = 0
      · have f2 : decide (byteAt s (q : Int).toNat = 0) = true := decide_eq_true hz
        refine A_seq (A_seq (A_region ?_));refine M0 (q_moveC rfl rfl rfl) rfl rfl ?_;refine M0 (q_moveC rfl rfl rfl) rfl rfl ?_;refine M0 (q_lens rfl rfl rfl) rfl rfl ?_
        refine M0 (q_lssK rfl rfl rfl rfl (by assumption)) rfl rfl ?_;refine M0 (q_moveC rfl rfl rfl) rfl rfl ?_;refine M_yes rfl rfl rfl ?_;refine M0 (q_moveC rfl rfl rfl) rfl rfl ?_
        refine M_yes rfl rfl rfl ?_;refine M0 (q_moveC rfl rfl rfl) rfl rfl ?_;refine M_yes rfl rfl rfl ?_;refine M0 (q_byteK rfl rfl rfl rfl (by assumption) (by omega)) rfl rfl ?_
        refine M_yes rfl rfl rfl ?_;refine M0 (q_eqlK (b := true) rfl rfl rfl rfl (by decide)) rfl rfl ?_;refine M0 (q_pickT rfl rfl rfl rfl) rfl rfl ?_;refine L_nil (T_n ?_)
        refine A_ifT rfl ?_;refine A_skip (T_n (A_block (A_region ?_)));refine M0 (q_moveC rfl rfl rfl) rfl rfl ?_;refine M0 (q_add rfl rfl rfl rfl (by omega)) rfl rfl ?_
        refine M0 (q_assignC rfl rfl rfl) rfl rfl ?_;refine L_nil (B_n (T_n ?_))
        refine ⟨s.size - (q + 1),(by omega),(fun (q : Nat) => (⟨_,[(0,S s),(3,.o (.c (.ref 0))),(4,I q),(5,I i)],[.row 1 (bE acc)]⟩ : St)) (q + 1),W_go [0] (by decide) rfl (rfl) (.cons rfl (.cons rfl (.cons rfl (.cons rfl (.nil))))),q + 1,rfl,⟨by omega,by omega,upZ hd3 hz⟩,rfl⟩
      · have f2 : decide (byteAt s (q : Int).toNat = 0) = false := decide_eq_false hz
        refine A_seq (A_seq (A_region ?_));refine M0 (q_moveC rfl rfl rfl) rfl rfl ?_;refine M0 (q_moveC rfl rfl rfl) rfl rfl ?_;refine M0 (q_lens rfl rfl rfl) rfl rfl ?_
        refine M0 (q_lssK rfl rfl rfl rfl (by assumption)) rfl rfl ?_;refine M0 (q_moveC rfl rfl rfl) rfl rfl ?_;refine M_yes rfl rfl rfl ?_;refine M0 (q_moveC rfl rfl rfl) rfl rfl ?_
        refine M_yes rfl rfl rfl ?_;refine M0 (q_moveC rfl rfl rfl) rfl rfl ?_;refine M_yes rfl rfl rfl ?_;refine M0 (q_byte rfl rfl rfl rfl (by omega)) rfl rfl ?_;refine M_yes rfl rfl rfl ?_
        refine M0 (q_eqlK rfl rfl rfl rfl (by assumption)) rfl rfl ?_;refine M0 (q_pickT rfl rfl rfl rfl) rfl rfl ?_;refine L_nil (T_n ?_);refine A_ifF rfl ?_;refine A_exit ?_
        refine T_x (T_x (B_xs (T_n (A_seq (A_region ?_)))));refine M0 (q_moveC rfl rfl rfl) rfl rfl ?_;refine M0 (q_assignC rfl rfl rfl) rfl rfl ?_
        refine L_nil (T_n (A_seq (A_block ?_)))
        refine A_loop (fun m__ st => ∃ (e : Nat),s.size - e = m__ ∧ (q ≤ e ∧ e ≤ s.size ∧ (∀ j,q ≤ j → j < e → byteAt s j ≠ 0)) ∧ st = (fun (e : Nat) => (⟨_,[(0,S s),(3,.o (.c (.ref 0))),(4,I e),(5,I i),(6,I q)],[.row 1 (bE acc)]⟩ : St)) (e)) ((fun (e : Nat) => s.size - e) (q)) ⟨(fun (e : Nat) => (⟨_,[(0,S s),(3,.o (.c (.ref 0))),(4,I e),(5,I i),(6,I q)],[.row 1 (bE acc)]⟩ : St)) (q),W_go [0] (by decide) rfl (rfl) (.cons rfl (.cons rfl (.cons rfl (.cons rfl (.cons rfl (.nil)))))),q,rfl,⟨Nat.le_refl _,hd2,fun j h1 h2 => by omega⟩,rfl⟩ ?_
        rintro m_G _ ⟨e,hk_G,hp_G,rfl⟩
        obtain ⟨hg1,hg2,hg3⟩ := hp_G
        by_cases he : e < s.size
        · have f3 : decide ((e : Int) < s.size) = true := decide_eq_true (by omega)
          by_cases hn : byteAt s e ≠ 0
          · have f4 : decide (byteAt s (e : Int).toNat ≠ 0) = true := decide_eq_true hn
            refine A_seq (A_seq (A_region ?_));refine M0 (q_moveC rfl rfl rfl) rfl rfl ?_;refine M0 (q_moveC rfl rfl rfl) rfl rfl ?_;refine M0 (q_lens rfl rfl rfl) rfl rfl ?_
            refine M0 (q_lssK rfl rfl rfl rfl (by assumption)) rfl rfl ?_;refine M0 (q_moveC rfl rfl rfl) rfl rfl ?_;refine M_yes rfl rfl rfl ?_;refine M0 (q_moveC rfl rfl rfl) rfl rfl ?_
            refine M_yes rfl rfl rfl ?_;refine M0 (q_moveC rfl rfl rfl) rfl rfl ?_;refine M_yes rfl rfl rfl ?_;refine M0 (q_byte rfl rfl rfl rfl (by omega)) rfl rfl ?_;refine M_yes rfl rfl rfl ?_
            refine M0 (q_neqK rfl rfl rfl rfl (by assumption)) rfl rfl ?_;refine M0 (q_pickT rfl rfl rfl rfl) rfl rfl ?_;refine L_nil (T_n ?_);refine A_ifT rfl ?_;refine A_skip ?_
            refine T_n (A_block (A_region ?_));refine M0 (q_moveC rfl rfl rfl) rfl rfl ?_;refine M0 (q_add rfl rfl rfl rfl (by omega)) rfl rfl ?_
            refine M0 (q_assignC rfl rfl rfl) rfl rfl ?_;refine L_nil (B_n (T_n ?_))
            refine ⟨s.size - (e + 1),(by omega),(fun (e : Nat) => (⟨_,[(0,S s),(3,.o (.c (.ref 0))),(4,I e),(5,I i),(6,I q)],[.row 1 (bE acc)]⟩ : St)) (e + 1),W_go [0] (by decide) rfl (rfl) (.cons rfl (.cons rfl (.cons rfl (.cons rfl (.cons rfl (.nil)))))),e + 1,rfl,⟨by omega,by omega,upN hg3 hn⟩,rfl⟩
          · have hn := Classical.not_not.1 hn
            have f4 : decide (byteAt s (e : Int).toNat ≠ 0) = false := decide_eq_false (fun q => q hn)
            have hie : i < e := by
              rcases Nat.lt_or_ge i e with h6 | h6
              · exact h6
              · exact absurd hn (by have : e = q := (by omega); rw [this]; exact (fun _ => hz) (by omega))
            have hst := packZ_step hd1 hg1 hg2 hie hd3 (fun _ => hz) hg3 (fun _ => hn)
            have hl1 := encVar_len ((q - i : Nat) : Int)
            have hl2 := text_len (s.extract q e)
            have hl3 : (s.extract q e).size = e - q := by rw [ByteArray.size_extract]; omega
            have hl4 := bs_size (encVar ((q - i : Nat) : Int))
            have hl5 := packText_size (s.extract q e)
            have hl6 : (packText (s.extract q e)).data.toList.length = (packText (s.extract q e)).size := by simp
            have ee : (q : Int) - i = ((q - i : Nat) : Int) := by omega
            have hce := I_EncodeVarint ((q - i : Nat) : Int)
            have hct := I_PackText (s.extract q e) (by omega)
            have hst2 : (acc ++ encVar ((q - i : Nat) : Int) ++ (packText (s.extract q e)).data.toList) ++ packZ (s.data.toList.drop e) = packZ s.data.toList := by rw [← hp1,hst]; simp only [List.append_assoc]
            have hl1' := hl1
            rw [← ee] at hce hl1 hl4
            have hq1 : (bE (bs (encVar ((q : Int) - i))).data.toList).length = (encVar ((q : Int) - i)).length := by rw [bE_len,bs_list]
            have hq2 : (bE (encVar ((q : Int) - i))).length = (encVar ((q : Int) - i)).length := bE_len _
            refine A_seq (A_seq (A_region ?_));refine M0 (q_moveC rfl rfl rfl) rfl rfl ?_;refine M0 (q_moveC rfl rfl rfl) rfl rfl ?_;refine M0 (q_lens rfl rfl rfl) rfl rfl ?_
            refine M0 (q_lssK rfl rfl rfl rfl (by assumption)) rfl rfl ?_;refine M0 (q_moveC rfl rfl rfl) rfl rfl ?_;refine M_yes rfl rfl rfl ?_;refine M0 (q_moveC rfl rfl rfl) rfl rfl ?_
            refine M_yes rfl rfl rfl ?_;refine M0 (q_moveC rfl rfl rfl) rfl rfl ?_;refine M_yes rfl rfl rfl ?_;refine M0 (q_byteK rfl rfl rfl rfl (by assumption) (by omega)) rfl rfl ?_
            refine M_yes rfl rfl rfl ?_;refine M0 (q_neqK (b := false) rfl rfl rfl rfl (by decide)) rfl rfl ?_;refine M0 (q_pickT rfl rfl rfl rfl) rfl rfl ?_;refine L_nil (T_n ?_)
            refine A_ifF rfl ?_;refine A_exit (T_x (T_x (B_xs (T_n (A_seq (A_region ?_))))));refine M0 (q_moveC rfl rfl rfl) rfl rfl ?_
            refine M0 (q_moveC rfl rfl rfl) rfl rfl ?_;refine M0 (q_moveC rfl rfl rfl) rfl rfl ?_;refine M0 (q_sub rfl rfl rfl rfl (by omega)) rfl rfl ?_
            refine M0 (q_call0 rfl rfl (hce) rfl) rfl rfl ?_;refine M_appstr rfl rfl rfl rfl rfl rfl rfl (by omega) (by omega) ?_;refine M0 (q_assignC rfl rfl rfl) rfl rfl ?_;refine L_nil ?_
            refine T_n (A_region ?_);refine M0 (q_moveC rfl rfl rfl) rfl rfl ?_;refine M0 (q_moveC rfl rfl rfl) rfl rfl ?_;refine M0 (q_moveC rfl rfl rfl) rfl rfl ?_
            refine M0 (q_moveC rfl rfl rfl) rfl rfl ?_;refine M0 (q_sslice rfl rfl rfl rfl rfl (by omega)) rfl rfl ?_;refine M0 (q_call0 rfl rfl (hct) rfl) rfl rfl ?_
            refine M_appstr rfl rfl rfl rfl rfl rfl rfl (by simp only [List.length_append]; omega) (by simp only [List.length_append]; omega) ?_;refine M0 (q_assignC rfl rfl rfl) rfl rfl ?_
            refine L_nil (B_n (T_n ?_))
            refine ⟨s.size - (e),(by omega),(fun (i : Nat) (acc : List UInt8) => (⟨_,[(0,S s),(3,.o (.c (.ref 0))),(4,I i)],[.row 1 (bE acc)]⟩ : St)) (e) (acc ++ encVar ((q - i : Nat) : Int) ++ (packText (s.extract q e)).data.toList),W_go [0] (by decide) rfl (row_eq (by rw [bs_list,bE_app,bE_app,ee])) (.cons rfl (.cons rfl (.cons rfl (.nil)))),e,acc ++ encVar ((q - i : Nat) : Int) ++ (packText (s.extract q e)).data.toList,rfl,⟨hst2,hg2,by simp only [List.length_append]; omega⟩,rfl⟩
        · have f3 : decide ((e : Int) < s.size) = false := decide_eq_false (by omega)
          have hst := packZ_step hd1 hg1 hg2 (by omega) hd3 (fun _ => hz) hg3 (fun h6 => absurd h6 he)
          have hl1 := encVar_len ((q - i : Nat) : Int)
          have hl2 := text_len (s.extract q e)
          have hl3 : (s.extract q e).size = e - q := by rw [ByteArray.size_extract]; omega
          have hl4 := bs_size (encVar ((q - i : Nat) : Int))
          have hl5 := packText_size (s.extract q e)
          have hl6 : (packText (s.extract q e)).data.toList.length = (packText (s.extract q e)).size := by simp
          have ee : (q : Int) - i = ((q - i : Nat) : Int) := by omega
          have hce := I_EncodeVarint ((q - i : Nat) : Int)
          have hct := I_PackText (s.extract q e) (by omega)
          have hst2 : (acc ++ encVar ((q - i : Nat) : Int) ++ (packText (s.extract q e)).data.toList) ++ packZ (s.data.toList.drop e) = packZ s.data.toList := by rw [← hp1,hst]; simp only [List.append_assoc]
          have hl1' := hl1
          rw [← ee] at hce hl1 hl4
          have hq1 : (bE (bs (encVar ((q : Int) - i))).data.toList).length = (encVar ((q : Int) - i)).length := by rw [bE_len,bs_list]
          have hq2 : (bE (encVar ((q : Int) - i))).length = (encVar ((q : Int) - i)).length := bE_len _
          refine A_seq (A_seq (A_region ?_));refine M0 (q_moveC rfl rfl rfl) rfl rfl ?_;refine M0 (q_moveC rfl rfl rfl) rfl rfl ?_;refine M0 (q_lens rfl rfl rfl) rfl rfl ?_
          refine M0 (q_lssK rfl rfl rfl rfl (by assumption)) rfl rfl ?_;refine M0 (q_moveC rfl rfl rfl) rfl rfl ?_;refine M_no rfl rfl rfl rfl rfl rfl ?_;refine M_no rfl rfl rfl rfl rfl rfl ?_
          refine M_no rfl rfl rfl rfl rfl rfl ?_;refine M_no rfl rfl rfl rfl rfl rfl ?_;refine M0 (q_pickF rfl rfl rfl rfl) rfl rfl ?_;refine L_nil (T_n ?_);refine A_ifF rfl ?_
          refine A_exit (T_x (T_x (B_xs (T_n (A_seq (A_region ?_))))));refine M0 (q_moveC rfl rfl rfl) rfl rfl ?_
          refine M0 (q_moveC rfl rfl rfl) rfl rfl ?_;refine M0 (q_moveC rfl rfl rfl) rfl rfl ?_;refine M0 (q_sub rfl rfl rfl rfl (by omega)) rfl rfl ?_
          refine M0 (q_call0 rfl rfl (hce) rfl) rfl rfl ?_;refine M_appstr rfl rfl rfl rfl rfl rfl rfl (by omega) (by omega) ?_;refine M0 (q_assignC rfl rfl rfl) rfl rfl ?_;refine L_nil ?_
          refine T_n (A_region ?_);refine M0 (q_moveC rfl rfl rfl) rfl rfl ?_;refine M0 (q_moveC rfl rfl rfl) rfl rfl ?_;refine M0 (q_moveC rfl rfl rfl) rfl rfl ?_
          refine M0 (q_moveC rfl rfl rfl) rfl rfl ?_;refine M0 (q_sslice rfl rfl rfl rfl rfl (by omega)) rfl rfl ?_;refine M0 (q_call0 rfl rfl (hct) rfl) rfl rfl ?_
          refine M_appstr rfl rfl rfl rfl rfl rfl rfl (by simp only [List.length_append]; omega) (by simp only [List.length_append]; omega) ?_;refine M0 (q_assignC rfl rfl rfl) rfl rfl ?_
          refine L_nil (B_n (T_n ?_))
          refine ⟨s.size - (e),(by omega),(fun (i : Nat) (acc : List UInt8) => (⟨_,[(0,S s),(3,.o (.c (.ref 0))),(4,I i)],[.row 1 (bE acc)]⟩ : St)) (e) (acc ++ encVar ((q - i : Nat) : Int) ++ (packText (s.extract q e)).data.toList),W_go [0] (by decide) rfl (row_eq (by rw [bs_list,bE_app,bE_app,ee])) (.cons rfl (.cons rfl (.cons rfl (.nil)))),e,acc ++ encVar ((q - i : Nat) : Int) ++ (packText (s.extract q e)).data.toList,rfl,⟨hst2,hg2,by simp only [List.length_append]; omega⟩,rfl⟩
    · have f1 : decide ((q : Int) < s.size) = false := decide_eq_false (by omega)
      refine A_seq (A_seq (A_region ?_));refine M0 (q_moveC rfl rfl rfl) rfl rfl ?_;refine M0 (q_moveC rfl rfl rfl) rfl rfl ?_;refine M0 (q_lens rfl rfl rfl) rfl rfl ?_
      refine M0 (q_lssK rfl rfl rfl rfl (by assumption)) rfl rfl ?_;refine M0 (q_moveC rfl rfl rfl) rfl rfl ?_;refine M_no rfl rfl rfl rfl rfl rfl ?_;refine M_no rfl rfl rfl rfl rfl rfl ?_
      refine M_no rfl rfl rfl rfl rfl rfl ?_;refine M_no rfl rfl rfl rfl rfl rfl ?_;refine M0 (q_pickF rfl rfl rfl rfl) rfl rfl ?_;refine L_nil (T_n ?_);refine A_ifF rfl ?_
      refine A_exit (T_x (T_x (B_xs (T_n (A_seq (A_region ?_))))));refine M0 (q_moveC rfl rfl rfl) rfl rfl ?_
      refine M0 (q_assignC rfl rfl rfl) rfl rfl ?_;refine L_nil (T_n (A_seq (A_block ?_)))
      refine A_loop (fun m__ st => ∃ (e : Nat),s.size - e = m__ ∧ (q ≤ e ∧ e ≤ s.size ∧ (∀ j,q ≤ j → j < e → byteAt s j ≠ 0)) ∧ st = (fun (e : Nat) => (⟨_,[(0,S s),(3,.o (.c (.ref 0))),(4,I e),(5,I i),(6,I q)],[.row 1 (bE acc)]⟩ : St)) (e)) ((fun (e : Nat) => s.size - e) (q)) ⟨(fun (e : Nat) => (⟨_,[(0,S s),(3,.o (.c (.ref 0))),(4,I e),(5,I i),(6,I q)],[.row 1 (bE acc)]⟩ : St)) (q),W_go [0] (by decide) rfl (rfl) (.cons rfl (.cons rfl (.cons rfl (.cons rfl (.cons rfl (.nil)))))),q,rfl,⟨Nat.le_refl _,hd2,fun j h1 h2 => by omega⟩,rfl⟩ ?_
      rintro m_G _ ⟨e,hk_G,hp_G,rfl⟩
      obtain ⟨hg1,hg2,hg3⟩ := hp_G
      by_cases he : e < s.size
      · have f3 : decide ((e : Int) < s.size) = true := decide_eq_true (by omega)
        by_cases hn : byteAt s e ≠ 0
        · have f4 : decide (byteAt s (e : Int).toNat ≠ 0) = true := decide_eq_true hn
          refine A_seq (A_seq (A_region ?_));refine M0 (q_moveC rfl rfl rfl) rfl rfl ?_;refine M0 (q_moveC rfl rfl rfl) rfl rfl ?_;refine M0 (q_lens rfl rfl rfl) rfl rfl ?_
          refine M0 (q_lssK rfl rfl rfl rfl (by assumption)) rfl rfl ?_;refine M0 (q_moveC rfl rfl rfl) rfl rfl ?_;refine M_yes rfl rfl rfl ?_;refine M0 (q_moveC rfl rfl rfl) rfl rfl ?_
          refine M_yes rfl rfl rfl ?_;refine M0 (q_moveC rfl rfl rfl) rfl rfl ?_;refine M_yes rfl rfl rfl ?_;refine M0 (q_byte rfl rfl rfl rfl (by omega)) rfl rfl ?_;refine M_yes rfl rfl rfl ?_
          refine M0 (q_neqK rfl rfl rfl rfl (by assumption)) rfl rfl ?_;refine M0 (q_pickT rfl rfl rfl rfl) rfl rfl ?_;refine L_nil (T_n ?_);refine A_ifT rfl ?_;refine A_skip ?_
          refine T_n (A_block (A_region ?_));refine M0 (q_moveC rfl rfl rfl) rfl rfl ?_;refine M0 (q_add rfl rfl rfl rfl (by omega)) rfl rfl ?_
          refine M0 (q_assignC rfl rfl rfl) rfl rfl ?_;refine L_nil (B_n (T_n ?_))
          refine ⟨s.size - (e + 1),(by omega),(fun (e : Nat) => (⟨_,[(0,S s),(3,.o (.c (.ref 0))),(4,I e),(5,I i),(6,I q)],[.row 1 (bE acc)]⟩ : St)) (e + 1),W_go [0] (by decide) rfl (rfl) (.cons rfl (.cons rfl (.cons rfl (.cons rfl (.cons rfl (.nil)))))),e + 1,rfl,⟨by omega,by omega,upN hg3 hn⟩,rfl⟩
        · have hn := Classical.not_not.1 hn
          have f4 : decide (byteAt s (e : Int).toNat ≠ 0) = false := decide_eq_false (fun q => q hn)
          have hie : i < e := by
            rcases Nat.lt_or_ge i e with h6 | h6
            · exact h6
            · exact absurd hn (by have : e = q := (by omega); rw [this]; exact (fun h6 => absurd h6 hq) (by omega))
          have hst := packZ_step hd1 hg1 hg2 hie hd3 (fun h6 => absurd h6 hq) hg3 (fun _ => hn)
          have hl1 := encVar_len ((q - i : Nat) : Int)
          have hl2 := text_len (s.extract q e)
          have hl3 : (s.extract q e).size = e - q := by rw [ByteArray.size_extract]; omega
          have hl4 := bs_size (encVar ((q - i : Nat) : Int))
          have hl5 := packText_size (s.extract q e)
          have hl6 : (packText (s.extract q e)).data.toList.length = (packText (s.extract q e)).size := by simp
          have ee : (q : Int) - i = ((q - i : Nat) : Int) := by omega
          have hce := I_EncodeVarint ((q - i : Nat) : Int)
          have hct := I_PackText (s.extract q e) (by omega)
          have hst2 : (acc ++ encVar ((q - i : Nat) : Int) ++ (packText (s.extract q e)).data.toList) ++ packZ (s.data.toList.drop e) = packZ s.data.toList := by rw [← hp1,hst]; simp only [List.append_assoc]
          have hl1' := hl1
          rw [← ee] at hce hl1 hl4
          have hq1 : (bE (bs (encVar ((q : Int) - i))).data.toList).length = (encVar ((q : Int) - i)).length := by rw [bE_len,bs_list]
          have hq2 : (bE (encVar ((q : Int) - i))).length = (encVar ((q : Int) - i)).length := bE_len _
          refine A_seq (A_seq (A_region ?_));refine M0 (q_moveC rfl rfl rfl) rfl rfl ?_;refine M0 (q_moveC rfl rfl rfl) rfl rfl ?_;refine M0 (q_lens rfl rfl rfl) rfl rfl ?_
          refine M0 (q_lssK rfl rfl rfl rfl (by assumption)) rfl rfl ?_;refine M0 (q_moveC rfl rfl rfl) rfl rfl ?_;refine M_yes rfl rfl rfl ?_;refine M0 (q_moveC rfl rfl rfl) rfl rfl ?_
          refine M_yes rfl rfl rfl ?_;refine M0 (q_moveC rfl rfl rfl) rfl rfl ?_;refine M_yes rfl rfl rfl ?_;refine M0 (q_byteK rfl rfl rfl rfl (by assumption) (by omega)) rfl rfl ?_
          refine M_yes rfl rfl rfl ?_;refine M0 (q_neqK (b := false) rfl rfl rfl rfl (by decide)) rfl rfl ?_;refine M0 (q_pickT rfl rfl rfl rfl) rfl rfl ?_;refine L_nil (T_n ?_)
          refine A_ifF rfl ?_;refine A_exit (T_x (T_x (B_xs (T_n (A_seq (A_region ?_))))));refine M0 (q_moveC rfl rfl rfl) rfl rfl ?_
          refine M0 (q_moveC rfl rfl rfl) rfl rfl ?_;refine M0 (q_moveC rfl rfl rfl) rfl rfl ?_;refine M0 (q_sub rfl rfl rfl rfl (by omega)) rfl rfl ?_
          refine M0 (q_call0 rfl rfl (hce) rfl) rfl rfl ?_;refine M_appstr rfl rfl rfl rfl rfl rfl rfl (by omega) (by omega) ?_;refine M0 (q_assignC rfl rfl rfl) rfl rfl ?_;refine L_nil ?_
          refine T_n (A_region ?_);refine M0 (q_moveC rfl rfl rfl) rfl rfl ?_;refine M0 (q_moveC rfl rfl rfl) rfl rfl ?_;refine M0 (q_moveC rfl rfl rfl) rfl rfl ?_
          refine M0 (q_moveC rfl rfl rfl) rfl rfl ?_;refine M0 (q_sslice rfl rfl rfl rfl rfl (by omega)) rfl rfl ?_;refine M0 (q_call0 rfl rfl (hct) rfl) rfl rfl ?_
          refine M_appstr rfl rfl rfl rfl rfl rfl rfl (by simp only [List.length_append]; omega) (by simp only [List.length_append]; omega) ?_;refine M0 (q_assignC rfl rfl rfl) rfl rfl ?_
          refine L_nil (B_n (T_n ?_))
          refine ⟨s.size - (e),(by omega),(fun (i : Nat) (acc : List UInt8) => (⟨_,[(0,S s),(3,.o (.c (.ref 0))),(4,I i)],[.row 1 (bE acc)]⟩ : St)) (e) (acc ++ encVar ((q - i : Nat) : Int) ++ (packText (s.extract q e)).data.toList),W_go [0] (by decide) rfl (row_eq (by rw [bs_list,bE_app,bE_app,ee])) (.cons rfl (.cons rfl (.cons rfl (.nil)))),e,acc ++ encVar ((q - i : Nat) : Int) ++ (packText (s.extract q e)).data.toList,rfl,⟨hst2,hg2,by simp only [List.length_append]; omega⟩,rfl⟩
      · have f3 : decide ((e : Int) < s.size) = false := decide_eq_false (by omega)
        have hst := packZ_step hd1 hg1 hg2 (by omega) hd3 (fun h6 => absurd h6 hq) hg3 (fun h6 => absurd h6 he)
        have hl1 := encVar_len ((q - i : Nat) : Int)
        have hl2 := text_len (s.extract q e)
        have hl3 : (s.extract q e).size = e - q := by rw [ByteArray.size_extract]; omega
        have hl4 := bs_size (encVar ((q - i : Nat) : Int))
        have hl5 := packText_size (s.extract q e)
        have hl6 : (packText (s.extract q e)).data.toList.length = (packText (s.extract q e)).size := by simp
        have ee : (q : Int) - i = ((q - i : Nat) : Int) := by omega
        have hce := I_EncodeVarint ((q - i : Nat) : Int)
        have hct := I_PackText (s.extract q e) (by omega)
        have hst2 : (acc ++ encVar ((q - i : Nat) : Int) ++ (packText (s.extract q e)).data.toList) ++ packZ (s.data.toList.drop e) = packZ s.data.toList := by rw [← hp1,hst]; simp only [List.append_assoc]
        have hl1' := hl1
        rw [← ee] at hce hl1 hl4
        have hq1 : (bE (bs (encVar ((q : Int) - i))).data.toList).length = (encVar ((q : Int) - i)).length := by rw [bE_len,bs_list]
        have hq2 : (bE (encVar ((q : Int) - i))).length = (encVar ((q : Int) - i)).length := bE_len _
        refine A_seq (A_seq (A_region ?_));refine M0 (q_moveC rfl rfl rfl) rfl rfl ?_;refine M0 (q_moveC rfl rfl rfl) rfl rfl ?_;refine M0 (q_lens rfl rfl rfl) rfl rfl ?_
        refine M0 (q_lssK rfl rfl rfl rfl (by assumption)) rfl rfl ?_;refine M0 (q_moveC rfl rfl rfl) rfl rfl ?_;refine M_no rfl rfl rfl rfl rfl rfl ?_;refine M_no rfl rfl rfl rfl rfl rfl ?_
        refine M_no rfl rfl rfl rfl rfl rfl ?_;refine M_no rfl rfl rfl rfl rfl rfl ?_;refine M0 (q_pickF rfl rfl rfl rfl) rfl rfl ?_;refine L_nil (T_n ?_);refine A_ifF rfl ?_
        refine A_exit (T_x (T_x (B_xs (T_n (A_seq (A_region ?_))))));refine M0 (q_moveC rfl rfl rfl) rfl rfl ?_
        refine M0 (q_moveC rfl rfl rfl) rfl rfl ?_;refine M0 (q_moveC rfl rfl rfl) rfl rfl ?_;refine M0 (q_sub rfl rfl rfl rfl (by omega)) rfl rfl ?_
        refine M0 (q_call0 rfl rfl (hce) rfl) rfl rfl ?_;refine M_appstr rfl rfl rfl rfl rfl rfl rfl (by omega) (by omega) ?_;refine M0 (q_assignC rfl rfl rfl) rfl rfl ?_;refine L_nil ?_
        refine T_n (A_region ?_);refine M0 (q_moveC rfl rfl rfl) rfl rfl ?_;refine M0 (q_moveC rfl rfl rfl) rfl rfl ?_;refine M0 (q_moveC rfl rfl rfl) rfl rfl ?_
        refine M0 (q_moveC rfl rfl rfl) rfl rfl ?_;refine M0 (q_sslice rfl rfl rfl rfl rfl (by omega)) rfl rfl ?_;refine M0 (q_call0 rfl rfl (hct) rfl) rfl rfl ?_
        refine M_appstr rfl rfl rfl rfl rfl rfl rfl (by simp only [List.length_append]; omega) (by simp only [List.length_append]; omega) ?_;refine M0 (q_assignC rfl rfl rfl) rfl rfl ?_
        refine L_nil (B_n (T_n ?_))
        refine ⟨s.size - (e),(by omega),(fun (i : Nat) (acc : List UInt8) => (⟨_,[(0,S s),(3,.o (.c (.ref 0))),(4,I i)],[.row 1 (bE acc)]⟩ : St)) (e) (acc ++ encVar ((q - i : Nat) : Int) ++ (packText (s.extract q e)).data.toList),W_go [0] (by decide) rfl (row_eq (by rw [bs_list,bE_app,bE_app,ee])) (.cons rfl (.cons rfl (.cons rfl (.nil)))),e,acc ++ encVar ((q - i : Nat) : Int) ++ (packText (s.extract q e)).data.toList,rfl,⟨hst2,hg2,by simp only [List.length_append]; omega⟩,rfl⟩
  · have h5 : i = s.size := by have := of_decide_eq_false h5; omega
    have e : s.data.toList.length = s.size := by simp
    refine A_exit (T_x (T_x (B_xs (T_n (A_seq (A_region ?_))))));refine M0 (q_moveC rfl rfl rfl) rfl rfl ?_
    refine M0 (q_bstr rfl rfl rfl rfl) rfl rfl ?_;refine M0 (q_assignC rfl rfl rfl) rfl rfl ?_;refine L_nil (T_n (A_ret (F_r ?_)))
    exact E_tmp rfl rfl (W_end [] (by decide) rfl rfl (S_eq (congrArg bs (by rw [← hp1,h5,List.drop_eq_nil_of_le (by omega),packZ_nil,List.append_nil]))))
set_option maxHeartbeats 8000000 in
theorem S_PackZeros (s : ByteArray) (hs : s.size ≤ 1099511627775) : Con Try.prog 99 [] [astr s] [] (S (bs (packZ s.data.toList))) := by
  refine Con.of Try.func99 rfl Try.ntmps99 rfl (fun E => ?_)
  refine A_seq (A_region ?_);refine M0 (q_assignC rfl rfl rfl) rfl rfl ?_;refine L_nil (T_n (A_seq (A_region ?_)))
  refine M0 (q_assignC rfl rfl rfl) rfl rfl ?_;refine L_nil (T_n (A_seq (A_seq (A_region ?_))));refine M0 (q_assignC rfl rfl rfl) rfl rfl ?_;refine L_nil ?_
  refine T_n (A_block ?_)
  refine A_loop (fun m__ st => ∃ (i : Nat) (acc : List UInt8),s.size - i = m__ ∧ (acc ++ packZ (s.data.toList.drop i) = packZ s.data.toList ∧ i ≤ s.size ∧ acc.length ≤ 14 * i) ∧ st = (fun (i : Nat) (acc : List UInt8) => (⟨_,[(0,S s),(3,S (bs acc)),(4,I i)],[]⟩ : St)) (i) (acc)) ((fun (i : Nat) (acc : List UInt8) => s.size - i) (0) ([])) ⟨(fun (i : Nat) (acc : List UInt8) => (⟨_,[(0,S s),(3,S (bs acc)),(4,I i)],[]⟩ : St)) (0) ([]),W_go [] (by decide) rfl (rfl) (.cons rfl (.cons rfl (.cons rfl (.nil)))),0,[],rfl,by simp,rfl⟩ ?_
  rintro m_A _ ⟨i,acc,hk_A,hp_A,rfl⟩
  obtain ⟨hp1,hp2,hp3⟩ := hp_A
  refine A_seq (A_seq (A_region ?_));refine M0 (q_moveC rfl rfl rfl) rfl rfl ?_;refine M0 (q_moveC rfl rfl rfl) rfl rfl ?_;refine M0 (q_lens rfl rfl rfl) rfl rfl ?_
  refine M0 (q_lss rfl rfl rfl rfl) rfl rfl ?_;refine L_nil (T_n ?_)
  refine A_cond rfl (fun h5 => ?_) (fun h5 => ?_)
  · have h5 : i < s.size := by have := of_decide_eq_true h5; omega
    have hb := bE_len acc
    have hb1 := bs_size acc
    refine A_skip (T_n (A_block (A_seq (A_region ?_))));refine M0 (q_moveC rfl rfl rfl) rfl rfl ?_;refine M0 (q_assignC rfl rfl rfl) rfl rfl ?_;refine L_nil ?_
    refine T_n (A_seq (A_block ?_))
    refine A_loop (fun m__ st => ∃ (q : Nat),s.size - q = m__ ∧ (i ≤ q ∧ q ≤ s.size ∧ (∀ j,i ≤ j → j < q → byteAt s j = 0)) ∧ st = (fun (q : Nat) => (⟨_,[(0,S s),(3,S (bs acc)),(4,I q),(5,I i)],[]⟩ : St)) (q)) ((fun (q : Nat) => s.size - q) (i)) ⟨(fun (q : Nat) => (⟨_,[(0,S s),(3,S (bs acc)),(4,I q),(5,I i)],[]⟩ : St)) (i),W_go [] (by decide) rfl (rfl) (.cons rfl (.cons rfl (.cons rfl (.cons rfl (.nil))))),i,rfl,⟨Nat.le_refl _,by omega,fun q h1 h2 => by omega⟩,rfl⟩ ?_
    rintro m_D _ ⟨q,hk_D,hp_D,rfl⟩
    obtain ⟨hd1,hd2,hd3⟩ := hp_D
    by_cases hq : q < s.size
    · have f1 : decide ((q : Int) < s.size) = true := decide_eq_true (by omega)
      by_cases hz : byteAt s q = 0
      · have f2 : decide (byteAt s (q : Int).toNat = 0) = true := decide_eq_true hz
        refine A_seq (A_seq (A_region ?_));refine M0 (q_moveC rfl rfl rfl) rfl rfl ?_;refine M0 (q_moveC rfl rfl rfl) rfl rfl ?_;refine M0 (q_lens rfl rfl rfl) rfl rfl ?_
        refine M0 (q_lssK rfl rfl rfl rfl (by assumption)) rfl rfl ?_;refine M0 (q_moveC rfl rfl rfl) rfl rfl ?_;refine M_yes rfl rfl rfl ?_;refine M0 (q_moveC rfl rfl rfl) rfl rfl ?_
        refine M_yes rfl rfl rfl ?_;refine M0 (q_moveC rfl rfl rfl) rfl rfl ?_;refine M_yes rfl rfl rfl ?_;refine M0 (q_byteK rfl rfl rfl rfl (by assumption) (by omega)) rfl rfl ?_
        refine M_yes rfl rfl rfl ?_;refine M0 (q_eqlK (b := true) rfl rfl rfl rfl (by decide)) rfl rfl ?_;refine M0 (q_pickT rfl rfl rfl rfl) rfl rfl ?_;refine L_nil (T_n ?_)
        refine A_ifT rfl ?_;refine A_skip (T_n (A_block (A_region ?_)));refine M0 (q_moveC rfl rfl rfl) rfl rfl ?_;refine M0 (q_add rfl rfl rfl rfl (by omega)) rfl rfl ?_
        refine M0 (q_assignC rfl rfl rfl) rfl rfl ?_;refine L_nil (B_n (T_n ?_))
        refine ⟨s.size - (q + 1),(by omega),(fun (q : Nat) => (⟨_,[(0,S s),(3,S (bs acc)),(4,I q),(5,I i)],[]⟩ : St)) (q + 1),W_go [] (by decide) rfl (rfl) (.cons rfl (.cons rfl (.cons rfl (.cons rfl (.nil))))),q + 1,rfl,⟨by omega,by omega,upZ hd3 hz⟩,rfl⟩
      · have f2 : decide (byteAt s (q : Int).toNat = 0) = false := decide_eq_false hz
        refine A_seq (A_seq (A_region ?_));refine M0 (q_moveC rfl rfl rfl) rfl rfl ?_;refine M0 (q_moveC rfl rfl rfl) rfl rfl ?_;refine M0 (q_lens rfl rfl rfl) rfl rfl ?_
        refine M0 (q_lssK rfl rfl rfl rfl (by assumption)) rfl rfl ?_;refine M0 (q_moveC rfl rfl rfl) rfl rfl ?_;refine M_yes rfl rfl rfl ?_;refine M0 (q_moveC rfl rfl rfl) rfl rfl ?_
        refine M_yes rfl rfl rfl ?_;refine M0 (q_moveC rfl rfl rfl) rfl rfl ?_;refine M_yes rfl rfl rfl ?_;refine M0 (q_byte rfl rfl rfl rfl (by omega)) rfl rfl ?_;refine M_yes rfl rfl rfl ?_
        refine M0 (q_eqlK rfl rfl rfl rfl (by assumption)) rfl rfl ?_;refine M0 (q_pickT rfl rfl rfl rfl) rfl rfl ?_;refine L_nil (T_n ?_);refine A_ifF rfl ?_;refine A_exit ?_
        refine T_x (T_x (B_xs (T_n (A_seq (A_region ?_)))));refine M0 (q_moveC rfl rfl rfl) rfl rfl ?_;refine M0 (q_moveC rfl rfl rfl) rfl rfl ?_
        refine M0 (q_sub rfl rfl rfl rfl (by omega)) rfl rfl ?_;refine M0 (q_assignC rfl rfl rfl) rfl rfl ?_;refine L_nil (T_n (A_seq (A_region ?_)))
        refine M0 (q_moveC rfl rfl rfl) rfl rfl ?_;refine M0 (q_assignC rfl rfl rfl) rfl rfl ?_;refine L_nil (T_n (A_seq (A_block ?_)))
        refine A_loop (fun m__ st => ∃ (e : Nat),s.size - e = m__ ∧ (q ≤ e ∧ e ≤ s.size ∧ (∀ j,q ≤ j → j < e → byteAt s j ≠ 0)) ∧ st = (fun (e : Nat) => (⟨_,[(0,S s),(3,S (bs acc)),(4,I e),(5,I q),(6,I ((q : Int) - i))],[]⟩ : St)) (e)) ((fun (e : Nat) => s.size - e) (q)) ⟨(fun (e : Nat) => (⟨_,[(0,S s),(3,S (bs acc)),(4,I e),(5,I q),(6,I ((q : Int) - i))],[]⟩ : St)) (q),W_go [] (by decide) rfl (rfl) (.cons rfl (.cons rfl (.cons rfl (.cons rfl (.cons rfl (.nil)))))),q,rfl,⟨Nat.le_refl _,hd2,fun j h1 h2 => by omega⟩,rfl⟩ ?_
        rintro m_G _ ⟨e,hk_G,hp_G,rfl⟩
        obtain ⟨hg1,hg2,hg3⟩ := hp_G
        by_cases he : e < s.size
        · have f3 : decide ((e : Int) < s.size) = true := decide_eq_true (by omega)
          by_cases hn : byteAt s e ≠ 0
          · have f4 : decide (byteAt s (e : Int).toNat ≠ 0) = true := decide_eq_true hn
            refine A_seq (A_seq (A_region ?_));refine M0 (q_moveC rfl rfl rfl) rfl rfl ?_;refine M0 (q_moveC rfl rfl rfl) rfl rfl ?_;refine M0 (q_lens rfl rfl rfl) rfl rfl ?_
            refine M0 (q_lssK rfl rfl rfl rfl (by assumption)) rfl rfl ?_;refine M0 (q_moveC rfl rfl rfl) rfl rfl ?_;refine M_yes rfl rfl rfl ?_;refine M0 (q_moveC rfl rfl rfl) rfl rfl ?_
            refine M_yes rfl rfl rfl ?_;refine M0 (q_moveC rfl rfl rfl) rfl rfl ?_;refine M_yes rfl rfl rfl ?_;refine M0 (q_byte rfl rfl rfl rfl (by omega)) rfl rfl ?_;refine M_yes rfl rfl rfl ?_
            refine M0 (q_neqK rfl rfl rfl rfl (by assumption)) rfl rfl ?_;refine M0 (q_pickT rfl rfl rfl rfl) rfl rfl ?_;refine L_nil (T_n ?_);refine A_ifT rfl ?_;refine A_skip ?_
            refine T_n (A_block (A_region ?_));refine M0 (q_moveC rfl rfl rfl) rfl rfl ?_;refine M0 (q_add rfl rfl rfl rfl (by omega)) rfl rfl ?_
            refine M0 (q_assignC rfl rfl rfl) rfl rfl ?_;refine L_nil (B_n (T_n ?_))
            refine ⟨s.size - (e + 1),(by omega),(fun (e : Nat) => (⟨_,[(0,S s),(3,S (bs acc)),(4,I e),(5,I q),(6,I ((q : Int) - i))],[]⟩ : St)) (e + 1),W_go [] (by decide) rfl (rfl) (.cons rfl (.cons rfl (.cons rfl (.cons rfl (.cons rfl (.nil)))))),e + 1,rfl,⟨by omega,by omega,upN hg3 hn⟩,rfl⟩
          · have hn := Classical.not_not.1 hn
            have f4 : decide (byteAt s (e : Int).toNat ≠ 0) = false := decide_eq_false (fun q => q hn)
            have hie : i < e := by
              rcases Nat.lt_or_ge i e with h6 | h6
              · exact h6
              · exact absurd hn (by have : e = q := (by omega); rw [this]; exact (fun _ => hz) (by omega))
            have hst := packZ_step hd1 hg1 hg2 hie hd3 (fun _ => hz) hg3 (fun _ => hn)
            have hl1 := encVar_len ((q - i : Nat) : Int)
            have hl2 := text_len (s.extract q e)
            have hl3 : (s.extract q e).size = e - q := by rw [ByteArray.size_extract]; omega
            have hl4 := bs_size (encVar ((q - i : Nat) : Int))
            have hl5 := packText_size (s.extract q e)
            have hl6 : (packText (s.extract q e)).data.toList.length = (packText (s.extract q e)).size := by simp
            have ee : (q : Int) - i = ((q - i : Nat) : Int) := by omega
            have hce := S_EncodeVarint ((q - i : Nat) : Int)
            have hct := S_PackText (s.extract q e) (by omega)
            have hst2 : (acc ++ encVar ((q - i : Nat) : Int) ++ (packText (s.extract q e)).data.toList) ++ packZ (s.data.toList.drop e) = packZ s.data.toList := by rw [← hp1,hst]; simp only [List.append_assoc]
            have hst3 : bs acc ++ bs (encVar ((q : Int) - i)) ++ packText (s.extract q e) = bs (acc ++ encVar ((q - i : Nat) : Int) ++ (packText (s.extract q e)).data.toList) := by rw [ee,← bs_app,← bs_app,bs_of (packText (s.extract q e))]
            have hl1' := hl1
            rw [← ee] at hce hl1 hl4
            have hq1 : (bE (bs (encVar ((q : Int) - i))).data.toList).length = (encVar ((q : Int) - i)).length := by rw [bE_len,bs_list]
            have hq2 : (bE (encVar ((q : Int) - i))).length = (encVar ((q : Int) - i)).length := bE_len _
            refine A_seq (A_seq (A_region ?_));refine M0 (q_moveC rfl rfl rfl) rfl rfl ?_;refine M0 (q_moveC rfl rfl rfl) rfl rfl ?_;refine M0 (q_lens rfl rfl rfl) rfl rfl ?_
            refine M0 (q_lssK rfl rfl rfl rfl (by assumption)) rfl rfl ?_;refine M0 (q_moveC rfl rfl rfl) rfl rfl ?_;refine M_yes rfl rfl rfl ?_;refine M0 (q_moveC rfl rfl rfl) rfl rfl ?_
            refine M_yes rfl rfl rfl ?_;refine M0 (q_moveC rfl rfl rfl) rfl rfl ?_;refine M_yes rfl rfl rfl ?_;refine M0 (q_byteK rfl rfl rfl rfl (by assumption) (by omega)) rfl rfl ?_
            refine M_yes rfl rfl rfl ?_;refine M0 (q_neqK (b := false) rfl rfl rfl rfl (by decide)) rfl rfl ?_;refine M0 (q_pickT rfl rfl rfl rfl) rfl rfl ?_;refine L_nil (T_n ?_)
            refine A_ifF rfl ?_;refine A_exit (T_x (T_x (B_xs (T_n ?_))))
            refine A_draw [[],[],[1],[0,1,2],[],[],[],[4,5,6],[1,2,4,5,6,7],[0,1,2,3,4,5,6,7,8],[0,1,2,3,4,5,6,7,8,9]] [[],[],[41],[40,41,42],[],[],[],[44,45,46],[41,42,44,45,46,47],[40,41,42,43,44,45,46,47,48],[40,41,42,43,44,45,46,47,48,49]] [[41,42,44,45,46,47,48],[40,44,45,46,47],[40,44,45,46,47],[44,45,46,47,48],[40,41,42,43,45,46],[40,41,42,43,44,46],[40,41,42,43,44,45],[40,41,42,43],[40,43],[],[]] rfl ?_
            refine DR.step (q_moveC rfl rfl rfl) rfl rfl ?_;refine DR.step (q_moveC rfl rfl rfl) rfl rfl ?_;refine DR.step (q_call0 rfl rfl (hce) rfl) rfl rfl ?_
            refine DR.step (q_cat rfl rfl rfl rfl (by omega)) rfl rfl ?_;refine DR.step (q_moveC rfl rfl rfl) rfl rfl ?_;refine DR.step (q_moveC rfl rfl rfl) rfl rfl ?_
            refine DR.step (q_moveC rfl rfl rfl) rfl rfl ?_;refine DR.step (q_sslice rfl rfl rfl rfl rfl (by omega)) rfl rfl ?_;refine DR.step (q_call0 rfl rfl (hct) rfl) rfl rfl ?_
            refine DR.step (q_cat rfl rfl rfl rfl (by simp only [bs_size,cat_size,List.length_cons,List.length_nil,List.length_append]; omega)) rfl rfl ?_
            refine DR.step (q_assignC rfl rfl rfl) rfl rfl ?_;refine DR.stop (by kernel_rfl) (by kernel_rfl) ?_
            refine L_nil (B_n (T_n ?_))
            refine ⟨s.size - (e),(by omega),(fun (i : Nat) (acc : List UInt8) => (⟨_,[(0,S s),(3,S (bs acc)),(4,I i)],[]⟩ : St)) (e) (acc ++ encVar ((q - i : Nat) : Int) ++ (packText (s.extract q e)).data.toList),W_go [] (by decide) rfl (rfl) (.cons rfl (.cons (S_eq hst3) (.cons rfl (.nil)))),e,acc ++ encVar ((q - i : Nat) : Int) ++ (packText (s.extract q e)).data.toList,rfl,⟨hst2,hg2,by simp only [List.length_append]; omega⟩,rfl⟩
        · have f3 : decide ((e : Int) < s.size) = false := decide_eq_false (by omega)
          have hst := packZ_step hd1 hg1 hg2 (by omega) hd3 (fun _ => hz) hg3 (fun h6 => absurd h6 he)
          have hl1 := encVar_len ((q - i : Nat) : Int)
          have hl2 := text_len (s.extract q e)
          have hl3 : (s.extract q e).size = e - q := by rw [ByteArray.size_extract]; omega
          have hl4 := bs_size (encVar ((q - i : Nat) : Int))
          have hl5 := packText_size (s.extract q e)
          have hl6 : (packText (s.extract q e)).data.toList.length = (packText (s.extract q e)).size := by simp
          have ee : (q : Int) - i = ((q - i : Nat) : Int) := by omega
          have hce := S_EncodeVarint ((q - i : Nat) : Int)
          have hct := S_PackText (s.extract q e) (by omega)
          have hst2 : (acc ++ encVar ((q - i : Nat) : Int) ++ (packText (s.extract q e)).data.toList) ++ packZ (s.data.toList.drop e) = packZ s.data.toList := by rw [← hp1,hst]; simp only [List.append_assoc]
          have hst3 : bs acc ++ bs (encVar ((q : Int) - i)) ++ packText (s.extract q e) = bs (acc ++ encVar ((q - i : Nat) : Int) ++ (packText (s.extract q e)).data.toList) := by rw [ee,← bs_app,← bs_app,bs_of (packText (s.extract q e))]
          have hl1' := hl1
          rw [← ee] at hce hl1 hl4
          have hq1 : (bE (bs (encVar ((q : Int) - i))).data.toList).length = (encVar ((q : Int) - i)).length := by rw [bE_len,bs_list]
          have hq2 : (bE (encVar ((q : Int) - i))).length = (encVar ((q : Int) - i)).length := bE_len _
          refine A_seq (A_seq (A_region ?_));refine M0 (q_moveC rfl rfl rfl) rfl rfl ?_;refine M0 (q_moveC rfl rfl rfl) rfl rfl ?_;refine M0 (q_lens rfl rfl rfl) rfl rfl ?_
          refine M0 (q_lssK rfl rfl rfl rfl (by assumption)) rfl rfl ?_;refine M0 (q_moveC rfl rfl rfl) rfl rfl ?_;refine M_no rfl rfl rfl rfl rfl rfl ?_;refine M_no rfl rfl rfl rfl rfl rfl ?_
          refine M_no rfl rfl rfl rfl rfl rfl ?_;refine M_no rfl rfl rfl rfl rfl rfl ?_;refine M0 (q_pickF rfl rfl rfl rfl) rfl rfl ?_;refine L_nil (T_n ?_);refine A_ifF rfl ?_
          refine A_exit (T_x (T_x (B_xs (T_n ?_))))
          refine A_draw [[],[],[1],[0,1,2],[],[],[],[4,5,6],[1,2,4,5,6,7],[0,1,2,3,4,5,6,7,8],[0,1,2,3,4,5,6,7,8,9]] [[],[],[41],[40,41,42],[],[],[],[44,45,46],[41,42,44,45,46,47],[40,41,42,43,44,45,46,47,48],[40,41,42,43,44,45,46,47,48,49]] [[41,42,44,45,46,47,48],[40,44,45,46,47],[40,44,45,46,47],[44,45,46,47,48],[40,41,42,43,45,46],[40,41,42,43,44,46],[40,41,42,43,44,45],[40,41,42,43],[40,43],[],[]] rfl ?_
          refine DR.step (q_moveC rfl rfl rfl) rfl rfl ?_;refine DR.step (q_moveC rfl rfl rfl) rfl rfl ?_;refine DR.step (q_call0 rfl rfl (hce) rfl) rfl rfl ?_
          refine DR.step (q_cat rfl rfl rfl rfl (by omega)) rfl rfl ?_;refine DR.step (q_moveC rfl rfl rfl) rfl rfl ?_;refine DR.step (q_moveC rfl rfl rfl) rfl rfl ?_
          refine DR.step (q_moveC rfl rfl rfl) rfl rfl ?_;refine DR.step (q_sslice rfl rfl rfl rfl rfl (by omega)) rfl rfl ?_;refine DR.step (q_call0 rfl rfl (hct) rfl) rfl rfl ?_
          refine DR.step (q_cat rfl rfl rfl rfl (by simp only [bs_size,cat_size,List.length_cons,List.length_nil,List.length_append]; omega)) rfl rfl ?_
          refine DR.step (q_assignC rfl rfl rfl) rfl rfl ?_;refine DR.stop (by kernel_rfl) (by kernel_rfl) ?_
          refine L_nil (B_n (T_n ?_))
          refine ⟨s.size - (e),(by omega),(fun (i : Nat) (acc : List UInt8) => (⟨_,[(0,S s),(3,S (bs acc)),(4,I i)],[]⟩ : St)) (e) (acc ++ encVar ((q - i : Nat) : Int) ++ (packText (s.extract q e)).data.toList),W_go [] (by decide) rfl (rfl) (.cons rfl (.cons (S_eq hst3) (.cons rfl (.nil)))),e,acc ++ encVar ((q - i : Nat) : Int) ++ (packText (s.extract q e)).data.toList,rfl,⟨hst2,hg2,by simp only [List.length_append]; omega⟩,rfl⟩
    · have f1 : decide ((q : Int) < s.size) = false := decide_eq_false (by omega)
      refine A_seq (A_seq (A_region ?_));refine M0 (q_moveC rfl rfl rfl) rfl rfl ?_;refine M0 (q_moveC rfl rfl rfl) rfl rfl ?_;refine M0 (q_lens rfl rfl rfl) rfl rfl ?_
      refine M0 (q_lssK rfl rfl rfl rfl (by assumption)) rfl rfl ?_;refine M0 (q_moveC rfl rfl rfl) rfl rfl ?_;refine M_no rfl rfl rfl rfl rfl rfl ?_;refine M_no rfl rfl rfl rfl rfl rfl ?_
      refine M_no rfl rfl rfl rfl rfl rfl ?_;refine M_no rfl rfl rfl rfl rfl rfl ?_;refine M0 (q_pickF rfl rfl rfl rfl) rfl rfl ?_;refine L_nil (T_n ?_);refine A_ifF rfl ?_
      refine A_exit (T_x (T_x (B_xs (T_n (A_seq (A_region ?_))))));refine M0 (q_moveC rfl rfl rfl) rfl rfl ?_
      refine M0 (q_moveC rfl rfl rfl) rfl rfl ?_;refine M0 (q_sub rfl rfl rfl rfl (by omega)) rfl rfl ?_;refine M0 (q_assignC rfl rfl rfl) rfl rfl ?_;refine L_nil (T_n ?_)
      refine A_seq (A_region ?_);refine M0 (q_moveC rfl rfl rfl) rfl rfl ?_;refine M0 (q_assignC rfl rfl rfl) rfl rfl ?_;refine L_nil (T_n (A_seq (A_block ?_)))
      refine A_loop (fun m__ st => ∃ (e : Nat),s.size - e = m__ ∧ (q ≤ e ∧ e ≤ s.size ∧ (∀ j,q ≤ j → j < e → byteAt s j ≠ 0)) ∧ st = (fun (e : Nat) => (⟨_,[(0,S s),(3,S (bs acc)),(4,I e),(5,I q),(6,I ((q : Int) - i))],[]⟩ : St)) (e)) ((fun (e : Nat) => s.size - e) (q)) ⟨(fun (e : Nat) => (⟨_,[(0,S s),(3,S (bs acc)),(4,I e),(5,I q),(6,I ((q : Int) - i))],[]⟩ : St)) (q),W_go [] (by decide) rfl (rfl) (.cons rfl (.cons rfl (.cons rfl (.cons rfl (.cons rfl (.nil)))))),q,rfl,⟨Nat.le_refl _,hd2,fun j h1 h2 => by omega⟩,rfl⟩ ?_
      rintro m_G _ ⟨e,hk_G,hp_G,rfl⟩
      obtain ⟨hg1,hg2,hg3⟩ := hp_G
      by_cases he : e < s.size
      · have f3 : decide ((e : Int) < s.size) = true := decide_eq_true (by omega)
        by_cases hn : byteAt s e ≠ 0
        · have f4 : decide (byteAt s (e : Int).toNat ≠ 0) = true := decide_eq_true hn
          refine A_seq (A_seq (A_region ?_));refine M0 (q_moveC rfl rfl rfl) rfl rfl ?_;refine M0 (q_moveC rfl rfl rfl) rfl rfl ?_;refine M0 (q_lens rfl rfl rfl) rfl rfl ?_
          refine M0 (q_lssK rfl rfl rfl rfl (by assumption)) rfl rfl ?_;refine M0 (q_moveC rfl rfl rfl) rfl rfl ?_;refine M_yes rfl rfl rfl ?_;refine M0 (q_moveC rfl rfl rfl) rfl rfl ?_
          refine M_yes rfl rfl rfl ?_;refine M0 (q_moveC rfl rfl rfl) rfl rfl ?_;refine M_yes rfl rfl rfl ?_;refine M0 (q_byte rfl rfl rfl rfl (by omega)) rfl rfl ?_;refine M_yes rfl rfl rfl ?_
          refine M0 (q_neqK rfl rfl rfl rfl (by assumption)) rfl rfl ?_;refine M0 (q_pickT rfl rfl rfl rfl) rfl rfl ?_;refine L_nil (T_n ?_);refine A_ifT rfl ?_;refine A_skip ?_
          refine T_n (A_block (A_region ?_));refine M0 (q_moveC rfl rfl rfl) rfl rfl ?_;refine M0 (q_add rfl rfl rfl rfl (by omega)) rfl rfl ?_
          refine M0 (q_assignC rfl rfl rfl) rfl rfl ?_;refine L_nil (B_n (T_n ?_))
          refine ⟨s.size - (e + 1),(by omega),(fun (e : Nat) => (⟨_,[(0,S s),(3,S (bs acc)),(4,I e),(5,I q),(6,I ((q : Int) - i))],[]⟩ : St)) (e + 1),W_go [] (by decide) rfl (rfl) (.cons rfl (.cons rfl (.cons rfl (.cons rfl (.cons rfl (.nil)))))),e + 1,rfl,⟨by omega,by omega,upN hg3 hn⟩,rfl⟩
        · have hn := Classical.not_not.1 hn
          have f4 : decide (byteAt s (e : Int).toNat ≠ 0) = false := decide_eq_false (fun q => q hn)
          have hie : i < e := by
            rcases Nat.lt_or_ge i e with h6 | h6
            · exact h6
            · exact absurd hn (by have : e = q := (by omega); rw [this]; exact (fun h6 => absurd h6 hq) (by omega))
          have hst := packZ_step hd1 hg1 hg2 hie hd3 (fun h6 => absurd h6 hq) hg3 (fun _ => hn)
          have hl1 := encVar_len ((q - i : Nat) : Int)
          have hl2 := text_len (s.extract q e)
          have hl3 : (s.extract q e).size = e - q := by rw [ByteArray.size_extract]; omega
          have hl4 := bs_size (encVar ((q - i : Nat) : Int))
          have hl5 := packText_size (s.extract q e)
          have hl6 : (packText (s.extract q e)).data.toList.length = (packText (s.extract q e)).size := by simp
          have ee : (q : Int) - i = ((q - i : Nat) : Int) := by omega
          have hce := S_EncodeVarint ((q - i : Nat) : Int)
          have hct := S_PackText (s.extract q e) (by omega)
          have hst2 : (acc ++ encVar ((q - i : Nat) : Int) ++ (packText (s.extract q e)).data.toList) ++ packZ (s.data.toList.drop e) = packZ s.data.toList := by rw [← hp1,hst]; simp only [List.append_assoc]
          have hst3 : bs acc ++ bs (encVar ((q : Int) - i)) ++ packText (s.extract q e) = bs (acc ++ encVar ((q - i : Nat) : Int) ++ (packText (s.extract q e)).data.toList) := by rw [ee,← bs_app,← bs_app,bs_of (packText (s.extract q e))]
          have hl1' := hl1
          rw [← ee] at hce hl1 hl4
          have hq1 : (bE (bs (encVar ((q : Int) - i))).data.toList).length = (encVar ((q : Int) - i)).length := by rw [bE_len,bs_list]
          have hq2 : (bE (encVar ((q : Int) - i))).length = (encVar ((q : Int) - i)).length := bE_len _
          refine A_seq (A_seq (A_region ?_));refine M0 (q_moveC rfl rfl rfl) rfl rfl ?_;refine M0 (q_moveC rfl rfl rfl) rfl rfl ?_;refine M0 (q_lens rfl rfl rfl) rfl rfl ?_
          refine M0 (q_lssK rfl rfl rfl rfl (by assumption)) rfl rfl ?_;refine M0 (q_moveC rfl rfl rfl) rfl rfl ?_;refine M_yes rfl rfl rfl ?_;refine M0 (q_moveC rfl rfl rfl) rfl rfl ?_
          refine M_yes rfl rfl rfl ?_;refine M0 (q_moveC rfl rfl rfl) rfl rfl ?_;refine M_yes rfl rfl rfl ?_;refine M0 (q_byteK rfl rfl rfl rfl (by assumption) (by omega)) rfl rfl ?_
          refine M_yes rfl rfl rfl ?_;refine M0 (q_neqK (b := false) rfl rfl rfl rfl (by decide)) rfl rfl ?_;refine M0 (q_pickT rfl rfl rfl rfl) rfl rfl ?_;refine L_nil (T_n ?_)
          refine A_ifF rfl ?_;refine A_exit (T_x (T_x (B_xs (T_n ?_))))
          refine A_draw [[],[],[1],[0,1,2],[],[],[],[4,5,6],[1,2,4,5,6,7],[0,1,2,3,4,5,6,7,8],[0,1,2,3,4,5,6,7,8,9]] [[],[],[41],[40,41,42],[],[],[],[44,45,46],[41,42,44,45,46,47],[40,41,42,43,44,45,46,47,48],[40,41,42,43,44,45,46,47,48,49]] [[41,42,44,45,46,47,48],[40,44,45,46,47],[40,44,45,46,47],[44,45,46,47,48],[40,41,42,43,45,46],[40,41,42,43,44,46],[40,41,42,43,44,45],[40,41,42,43],[40,43],[],[]] rfl ?_
          refine DR.step (q_moveC rfl rfl rfl) rfl rfl ?_;refine DR.step (q_moveC rfl rfl rfl) rfl rfl ?_;refine DR.step (q_call0 rfl rfl (hce) rfl) rfl rfl ?_
          refine DR.step (q_cat rfl rfl rfl rfl (by omega)) rfl rfl ?_;refine DR.step (q_moveC rfl rfl rfl) rfl rfl ?_;refine DR.step (q_moveC rfl rfl rfl) rfl rfl ?_
          refine DR.step (q_moveC rfl rfl rfl) rfl rfl ?_;refine DR.step (q_sslice rfl rfl rfl rfl rfl (by omega)) rfl rfl ?_;refine DR.step (q_call0 rfl rfl (hct) rfl) rfl rfl ?_
          refine DR.step (q_cat rfl rfl rfl rfl (by omega)) rfl rfl ?_;refine DR.step (q_assignC rfl rfl rfl) rfl rfl ?_;refine DR.stop (by kernel_rfl) (by kernel_rfl) ?_
          refine L_nil (B_n (T_n ?_))
          refine ⟨s.size - (e),(by omega),(fun (i : Nat) (acc : List UInt8) => (⟨_,[(0,S s),(3,S (bs acc)),(4,I i)],[]⟩ : St)) (e) (acc ++ encVar ((q - i : Nat) : Int) ++ (packText (s.extract q e)).data.toList),W_go [] (by decide) rfl (rfl) (.cons rfl (.cons (S_eq hst3) (.cons rfl (.nil)))),e,acc ++ encVar ((q - i : Nat) : Int) ++ (packText (s.extract q e)).data.toList,rfl,⟨hst2,hg2,by simp only [List.length_append]; omega⟩,rfl⟩
      · have f3 : decide ((e : Int) < s.size) = false := decide_eq_false (by omega)
        have hst := packZ_step hd1 hg1 hg2 (by omega) hd3 (fun h6 => absurd h6 hq) hg3 (fun h6 => absurd h6 he)
        have hl1 := encVar_len ((q - i : Nat) : Int)
        have hl2 := text_len (s.extract q e)
        have hl3 : (s.extract q e).size = e - q := by rw [ByteArray.size_extract]; omega
        have hl4 := bs_size (encVar ((q - i : Nat) : Int))
        have hl5 := packText_size (s.extract q e)
        have hl6 : (packText (s.extract q e)).data.toList.length = (packText (s.extract q e)).size := by simp
        have ee : (q : Int) - i = ((q - i : Nat) : Int) := by omega
        have hce := S_EncodeVarint ((q - i : Nat) : Int)
        have hct := S_PackText (s.extract q e) (by omega)
        have hst2 : (acc ++ encVar ((q - i : Nat) : Int) ++ (packText (s.extract q e)).data.toList) ++ packZ (s.data.toList.drop e) = packZ s.data.toList := by rw [← hp1,hst]; simp only [List.append_assoc]
        have hst3 : bs acc ++ bs (encVar ((q : Int) - i)) ++ packText (s.extract q e) = bs (acc ++ encVar ((q - i : Nat) : Int) ++ (packText (s.extract q e)).data.toList) := by rw [ee,← bs_app,← bs_app,bs_of (packText (s.extract q e))]
        have hl1' := hl1
        rw [← ee] at hce hl1 hl4
        have hq1 : (bE (bs (encVar ((q : Int) - i))).data.toList).length = (encVar ((q : Int) - i)).length := by rw [bE_len,bs_list]
        have hq2 : (bE (encVar ((q : Int) - i))).length = (encVar ((q : Int) - i)).length := bE_len _
        refine A_seq (A_seq (A_region ?_));refine M0 (q_moveC rfl rfl rfl) rfl rfl ?_;refine M0 (q_moveC rfl rfl rfl) rfl rfl ?_;refine M0 (q_lens rfl rfl rfl) rfl rfl ?_
        refine M0 (q_lssK rfl rfl rfl rfl (by assumption)) rfl rfl ?_;refine M0 (q_moveC rfl rfl rfl) rfl rfl ?_;refine M_no rfl rfl rfl rfl rfl rfl ?_;refine M_no rfl rfl rfl rfl rfl rfl ?_
        refine M_no rfl rfl rfl rfl rfl rfl ?_;refine M_no rfl rfl rfl rfl rfl rfl ?_;refine M0 (q_pickF rfl rfl rfl rfl) rfl rfl ?_;refine L_nil (T_n ?_);refine A_ifF rfl ?_
        refine A_exit (T_x (T_x (B_xs (T_n ?_))))
        refine A_draw [[],[],[1],[0,1,2],[],[],[],[4,5,6],[1,2,4,5,6,7],[0,1,2,3,4,5,6,7,8],[0,1,2,3,4,5,6,7,8,9]] [[],[],[41],[40,41,42],[],[],[],[44,45,46],[41,42,44,45,46,47],[40,41,42,43,44,45,46,47,48],[40,41,42,43,44,45,46,47,48,49]] [[41,42,44,45,46,47,48],[40,44,45,46,47],[40,44,45,46,47],[44,45,46,47,48],[40,41,42,43,45,46],[40,41,42,43,44,46],[40,41,42,43,44,45],[40,41,42,43],[40,43],[],[]] rfl ?_
        refine DR.step (q_moveC rfl rfl rfl) rfl rfl ?_;refine DR.step (q_moveC rfl rfl rfl) rfl rfl ?_;refine DR.step (q_call0 rfl rfl (hce) rfl) rfl rfl ?_
        refine DR.step (q_cat rfl rfl rfl rfl (by omega)) rfl rfl ?_;refine DR.step (q_moveC rfl rfl rfl) rfl rfl ?_;refine DR.step (q_moveC rfl rfl rfl) rfl rfl ?_
        refine DR.step (q_moveC rfl rfl rfl) rfl rfl ?_;refine DR.step (q_sslice rfl rfl rfl rfl rfl (by omega)) rfl rfl ?_;refine DR.step (q_call0 rfl rfl (hct) rfl) rfl rfl ?_
        refine DR.step (q_cat rfl rfl rfl rfl (by simp only [bs_size,cat_size,List.length_cons,List.length_nil,List.length_append]; omega)) rfl rfl ?_
        refine DR.step (q_assignC rfl rfl rfl) rfl rfl ?_;refine DR.stop (by kernel_rfl) (by kernel_rfl) ?_
        refine L_nil (B_n (T_n ?_))
        refine ⟨s.size - (e),(by omega),(fun (i : Nat) (acc : List UInt8) => (⟨_,[(0,S s),(3,S (bs acc)),(4,I i)],[]⟩ : St)) (e) (acc ++ encVar ((q - i : Nat) : Int) ++ (packText (s.extract q e)).data.toList),W_go [] (by decide) rfl (rfl) (.cons rfl (.cons (S_eq hst3) (.cons rfl (.nil)))),e,acc ++ encVar ((q - i : Nat) : Int) ++ (packText (s.extract q e)).data.toList,rfl,⟨hst2,hg2,by simp only [List.length_append]; omega⟩,rfl⟩
  · have h5 : i = s.size := by have := of_decide_eq_false h5; omega
    have e : s.data.toList.length = s.size := by simp
    refine A_exit (T_x (T_x (B_xs (T_n (A_seq (A_region ?_))))));refine M0 (q_moveC rfl rfl rfl) rfl rfl ?_
    refine M0 (q_assignC rfl rfl rfl) rfl rfl ?_;refine L_nil (T_n (A_ret (F_r ?_)))
    exact E_tmp rfl rfl (W_end [] (by decide) rfl rfl (S_eq (congrArg bs (by rw [← hp1,h5,List.drop_eq_nil_of_le (by omega),packZ_nil,List.append_nil]))))
end Go.Proofs.Ytmljakmaffbnlaa
end

section
set_option linter.unusedSimpArgs false
set_option linter.unusedVariables false
namespace Go.Proofs.Ytmljakmaffbnlaa
open Go.RowKit

end Go.Proofs.Ytmljakmaffbnlaa
end

section
set_option linter.unusedSimpArgs false
set_option linter.unusedVariables false
set_option maxRecDepth 8000
namespace Go.Proofs.Ytmljakmaffbnlaa
open Go.RowKit

end Go.Proofs.Ytmljakmaffbnlaa
end

section
set_option linter.unusedSimpArgs false
set_option linter.unusedVariables false
namespace Go.Proofs.Ytmljakmaffbnlaa
open Go.RowKit

def V2.mapk (k : V1 → V1) : V2 → V2
  | .c x => .c (k x)
  | .ag xs => .ag (xs.map k)
def V.mapk (k : V1 → V1) : V → V
  | .o x => .o (x.mapk k)
  | .tu xs => .tu (xs.map (V2.mapk k))
  | .iff cs x => .iff cs (x.mapk k)
def Ob.mapk (k : V1 → V1) : Ob → Ob
  | .box cs => .box (cs.map k)
  | .gh i x => .gh i (x.mapk k)
  | ob => ob

section
variable {P : Program} {E : Env} {ops : Array Oper} {o : Oper} {st : St} {n : Nat} {rest : List Oper} {QQ : Exit → St → Prop} {w w' : World} {H H' : Hs} {F F' : Nat → Prop} {a : Act}

theorem R2.mapk {k : V1 → V1} (hk : ∀ x v,R1 w H F x v → R1 w' H' F' (k x) v) {x : V2} {v : Value} (h : R2 w H F x v) : R2 w' H' F' (x.mapk k) v := by
  cases x with
  | c x => exact hk _ _ h
  | ag xs =>
    obtain ⟨us,e,hl,hr⟩ := h
    refine ⟨us,e,by simpa using hl,fun i x u h1 h2 => ?_⟩
    rw [List.getElem?_map] at h1
    obtain ⟨y,h3,rfl⟩ := Option.map_eq_some_iff.1 h1
    exact hk _ _ (hr i y u h3 h2)
theorem RV.mapk {k : V1 → V1} (hk : ∀ x v,R1 w H F x v → R1 w' H' F' (k x) v) {x : V} {v : Value} (h : RV w H F x v) : RV w' H' F' (x.mapk k) v := by
  cases x with
  | o x => exact R2.mapk hk h
  | tu xs =>
    obtain ⟨us,e,hl,hr⟩ := h
    refine ⟨us,e,by simpa using hl,fun i x u h1 h2 => ?_⟩
    rw [List.getElem?_map] at h1
    obtain ⟨y,h3,rfl⟩ := Option.map_eq_some_iff.1 h1
    exact R2.mapk hk (hr i y u h3 h2)
  | iff cs x => exact ⟨fun hc => R2.mapk hk (h.1 hc),h.2⟩
theorem RB.mapk {k : V1 → V1} (hk : ∀ x v,R1 w H F x v → R1 w' H' F' (k x) v) {p : Nat} (hp : H' p = H p) {ob : Ob} (h : RB w H F p ob) : RB w' H' F' p (ob.mapk k) := by
  cases ob with
  | gone => exact hp.trans h
  | hole => trivial
  | box cs =>
    obtain ⟨g,t,vs,e,hl,hr⟩ := h
    refine ⟨g,t,vs,hp.trans e,by simpa using hl,fun i c u h1 h2 => ?_⟩
    rw [List.getElem?_map] at h1
    obtain ⟨y,h3,rfl⟩ := Option.map_eq_some_iff.1 h1
    exact ⟨hk _ _ (hr i y u h3 h2).1,(hr i y u h3 h2).2⟩
  | row k es => obtain ⟨v,fp,e⟩ := h; exact ⟨v,fp,hp.trans e⟩
  | gh i x => obtain ⟨v,e,hr⟩ := h; exact ⟨v,hp.trans e,R2.mapk hk hr⟩
theorem R0.mapk (h : R0 w H F st a) (k : V1 → V1) (hk : ∀ x v,R1 w H F x v → R1 w' H' F (k x) v) (hok : Ok w' H' F) (objs' : List Ob) (hob : ∀ p,RB w' H' F p (objs'.getD p .gone)) :
    R0 w' H' F ⟨st.n,st.tmps.map fun e => (e.1,e.2.mapk k),objs'⟩ a := by
  refine ⟨hok,hob,fun d => ?_,h.size,h.defers⟩
  have hl : ∀ l : List (Nat × V),RV w H F (look l d) (a.tmps.getD d undef) → RV w' H' F (look (l.map fun e => (e.1,e.2.mapk k)) d) (a.tmps.getD d undef) := by
    intro l
    induction l with
    | nil => intro _; trivial
    | cons e l ih =>
      obtain ⟨e1,e2⟩ := e
      rw [List.map_cons,look_cons,look_cons]
      split
      · exact RV.mapk hk
      · exact ih
  exact hl _ (h.tmp d)

/-- What a callee sees of an argument: pieces ρ are lent. -/
def idxN : List Nat → Nat → Nat → Option Nat
  | [],_,_ => none
  | r :: rs,p,i => match Nat.beq r p with
    | true => some i
    | false => idxN rs p (i + 1)
theorem idxN_ok : ∀ (ρ : List Nat) (p i j : Nat),idxN ρ p i = some j → i ≤ j ∧ ρ[j - i]? = some p
  | [],p,i,j,h => by simp [idxN] at h
  | r :: rs,p,i,j,h => by
    rw [idxN] at h
    split at h
    · rename_i e
      have := Nat.eq_of_beq_eq_true e
      simp only [Option.some.injEq] at h
      subst h this
      exact ⟨Nat.le_refl _,by simp⟩
    · obtain ⟨h1,h2⟩ := idxN_ok rs p (i + 1) j h
      exact ⟨by omega,by rw [show j - i = (j - (i + 1)) + 1 by omega,List.getElem?_cons_succ]; exact h2⟩
theorem idxN_none : ∀ (ρ : List Nat) (p i : Nat),idxN ρ p i = none → p ∉ ρ
  | [],p,i,_ => by simp
  | r :: rs,p,i,h => by
    rw [idxN] at h
    split at h
    · cases h
    · rename_i e
      have h1 := idxN_none rs p (i + 1) h
      intro hp
      rcases List.mem_cons.1 hp with rfl | hp
      · rw [show Nat.beq p p = true from Nat.beq_refl p] at e; cases e
      · exact h1 hp
def offN (ρ qs : List Nat) : Bool := qs.all fun q => !memN ρ q
def lendw1 (objs : List Ob) (ρ : List Nat) : V1 → V1
  | .rd qs x => match offN ρ qs with
    | true => .rd [] x
    | false => match x with
      | .v u => .rd [] (.v u)
      | _ => .un
  | .ref p => match idxN ρ p 0 with
    | some q => .ref q
    | none => match objs.getD p .gone with
      | .row k es => .rd [] (.sl k es)
      | _ => .un
  | .ptr p i => match idxN ρ p 0 with
    | some q => .ptr q i
    | none => .un
  | .el p k i j => match idxN ρ p 0 with
    | some q => .el q k i j
    | none => .un
  | .sb p _ 1 => match idxN ρ p 0 with
    | some _ => .un
    | none => match objs.getD p .gone with
      | .box cs => match sbE cs with
        | some es => .rd [] (.sl 1 es)
        | none => .un
      | _ => .un
  | _ => .un
def lendw (objs : List Ob) (ρ : List Nat) : V → V2
  | .o (.c x) => .c (lendw1 objs ρ x)
  | .o (.ag xs) => .ag (xs.map (lendw1 objs ρ))
  | _ => .c .un
/-- What is forgotten after the call: what was said of the lent pieces ps, but for the places of those in kc. -/
def V1.killw (ps kc : List Nat) : V1 → V1
  | .rd qs x => match offN ps qs with
    | true => .rd qs x
    | false => match x with
      | .v u => .rd [] (.v u)
      | _ => .un
  | .ref p => match memN ps p with
    | false => .ref p
    | true => match memN kc p with
      | true => .ref p
      | false => .un
  | .ptr p i => match memN ps p with
    | false => .ptr p i
    | true => match memN kc p with
      | true => .ptr p i
      | false => .un
  | .el p k i j => match memN ps p with
    | false => .el p k i j
    | true => match memN kc p with
      | true => .el p k i j
      | false => .un
  | .sb p n k => match memN ps p with
    | false => .sb p n k
    | true => .un
  | .rp qs xs => match offN ps qs with
    | true => .rp qs xs
    | false => .un
  | .le p k i j => match memN ps p with
    | false => .le p k i j
    | true => .un
  | .hd p n => match memN ps p with
    | false => .hd p n
    | true => .un
  | .un => .un
/-- The same place: the same block, or the same slice. -/
def Place (x y : Pc) : Prop := (∃ t v fp t' fp',x = .ow t v fp ∧ y = .ow t' v fp') ∨ ∃ g t vs t' vs',x = .box g t vs ∧ y = .box g t' vs'

theorem offN_ok {ρ qs : List Nat} (h : offN ρ qs = true) : ∀ q ∈ qs,q ∉ ρ := fun q hq => by
  have := List.all_eq_true.1 h q hq
  simp only [Bool.not_eq_true'] at this
  exact memN_not this
theorem R1.killw {ps kc : List Nat} (hok : Ok w H F) (ht : Turn w H w' H' ps) (hkc : ∀ p ∈ kc,Place (H p) (H' p)) {x : V1} {v : Value} (h : R1 w H F x v) : R1 w' H' F (x.killw ps kc) v := by
  have hoff : ∀ qs : List Nat,offN ps qs = true → (qs.all fun q => !ps.contains q) = true := fun qs hq => List.all_eq_true.2 fun q hm => by simpa using offN_ok hq q hm
  have hone : ∀ p,memN ps p = false → (!ps.contains p) = true := fun p hp => by simpa using memN_not hp
  cases x with
  | rd qs x =>
    simp only [V1.killw]
    split
    · rename_i hq; exact R1.turn hok ht (x := .rd qs x) (hoff qs hq) h
    · split
      · obtain ⟨rfl,h1⟩ := RO.plain h; exact RO.v _ h1
      · trivial
  | ref p =>
    simp only [V1.killw]
    split
    · rename_i hp; exact R1.turn hok ht (x := .ref p) (hone p hp) h
    · split
      · rename_i hp
        obtain ⟨x,fp,e⟩ := h
        rcases hkc p ((memN_iff _ _).1 hp) with ⟨t,v',fp1,t',fp2,e1,e2⟩ | ⟨g,t,vs,t',vs',e1,e2⟩
        · rw [e] at e1
          simp only [Pc.ow.injEq] at e1
          obtain ⟨_,rfl,_⟩ := e1
          exact ⟨t',fp2,e2⟩
        · rw [e] at e1; cases e1
      · trivial
  | ptr p i =>
    simp only [V1.killw]
    split
    · rename_i hp; exact R1.turn hok ht (x := .ptr p i) (hone p hp) h
    · split
      · rename_i hp
        obtain ⟨g0,t0,vs0,e,hv⟩ := h
        rcases hkc p ((memN_iff _ _).1 hp) with ⟨t,v',fp1,t',fp2,e1,e2⟩ | ⟨g,t,vs,t',vs',e1,e2⟩
        · rw [e] at e1; cases e1
        · rw [e] at e1
          simp only [Pc.box.injEq] at e1
          obtain ⟨rfl,_,_⟩ := e1
          exact ⟨_,_,_,e2,hv⟩
      · trivial
  | el p k i j =>
    simp only [V1.killw]
    split
    · rename_i hp; exact R1.turn hok ht (x := .el p k i j) (hone p hp) h
    · split
      · rename_i hp
        obtain ⟨b,o,n,c,x,fp,e,hv⟩ := h
        rcases hkc p ((memN_iff _ _).1 hp) with ⟨t,v',fp1,t',fp2,e1,e2⟩ | ⟨g,t,vs,t',vs',e1,e2⟩
        · rw [e] at e1
          simp only [Pc.ow.injEq] at e1
          obtain ⟨_,rfl,_⟩ := e1
          exact ⟨b,o,n,c,t',fp2,e2,hv⟩
        · rw [e] at e1; cases e1
      · trivial
  | sb p n k =>
    simp only [V1.killw]
    split
    · rename_i hp; exact R1.turn hok ht (x := .sb p n k) (hone p hp) h
    · trivial
  | rp qs xs =>
    simp only [V1.killw]
    split
    · rename_i hq; exact R1.turn hok ht (x := .rp qs xs) (hoff qs hq) h
    · trivial
  | le p k i j =>
    simp only [V1.killw]
    split
    · rename_i hp; exact R1.turn hok ht (x := .le p k i j) (hone p hp) h
    · trivial
  | hd p n =>
    simp only [V1.killw]
    split
    · rename_i hp; exact R1.turn hok ht (x := .hd p n) (hone p hp) h
    · trivial
  | un => trivial

theorem lendw1_ok {ρ : List Nat} {H1 : Hs} {F1 : Nat → Prop} (h : R0 w H F st a) (hH : ∀ q p,ρ[q]? = some p → H1 q = H p) (hF : ∀ b,b < w.heap.size → (∀ p ∈ ρ,b ∉ (H p).fp) → F1 b) {x : V1} {v : Value} (hx : R1 w H F x v) : R1 w H1 F1 (lendw1 st.objs ρ x) v := by
  have hrow : ∀ (p k : Nat) (es : List (List T)),p ∉ ρ → st.objs.getD p .gone = .row k es → R1 w H F (.ref p) v → R1 w H1 F1 (.rd [] (.sl k es)) v := by
    intro p k es hp ho hx
    have h1 := h.obs p
    rw [ho] at h1
    obtain ⟨u,fp,e⟩ := h1
    obtain ⟨x,fp',e'⟩ := hx
    have h2 := h.ok.says p
    rw [e] at h2 e'
    simp only [Pc.ow.injEq] at e'
    obtain ⟨_,rfl,_⟩ := e'
    refine RO.weak (OW.ro h2) fun b hb hlt => .inl (hF b hlt fun r hr hb' => ?_)
    have := h.ok.disj p r b (by rw [e]; exact hb) hb'
    exact hp (this ▸ hr)
  cases x with
  | rd qs x =>
    simp only [lendw1]
    split
    · rename_i hq
      refine RO.weak hx fun b hb hlt => .inl (hF b hlt fun r hr hb' => ?_)
      rcases hb with hb | ⟨q,h1,x,v,fp,e,hb⟩
      · exact h.ok.free r b hb' hb
      · have := h.ok.disj q r b (by rw [e]; exact hb) hb'
        exact offN_ok hq q h1 (this ▸ hr)
    · split
      · obtain ⟨rfl,h1⟩ := RO.plain hx; exact RO.v _ h1
      · trivial
  | ref p =>
    simp only [lendw1]
    split
    · rename_i q hq
      obtain ⟨_,h2⟩ := idxN_ok ρ p 0 q hq
      obtain ⟨x,fp,e⟩ := hx
      exact ⟨x,fp,(hH q p (by simpa using h2)).trans e⟩
    · rename_i hq
      split
      · rename_i k es ho; exact hrow p k es (idxN_none ρ p 0 hq) ho hx
      · trivial
  | ptr p i =>
    simp only [lendw1]
    split
    · rename_i q hq
      obtain ⟨_,h2⟩ := idxN_ok ρ p 0 q hq
      obtain ⟨g,t,vs,e,hv⟩ := hx
      exact ⟨g,t,vs,(hH q p (by simpa using h2)).trans e,hv⟩
    · trivial
  | el p k i j =>
    simp only [lendw1]
    split
    · rename_i q hq
      obtain ⟨_,h2⟩ := idxN_ok ρ p 0 q hq
      obtain ⟨b,o,n,c,x,fp,e,hv⟩ := hx
      exact ⟨b,o,n,c,x,fp,(hH q p (by simpa using h2)).trans e,hv⟩
    · trivial
  | sb p n' k =>
    unfold lendw1
    split
    · rename_i e; cases e
    · rename_i e; cases e
    · rename_i e; cases e
    · rename_i e; cases e
    · rename_i p' n'' e
      simp only [V1.sb.injEq] at e
      obtain ⟨rfl,rfl,rfl⟩ := e
      split
      · trivial
      · rename_i hq
        have hp := idxN_none ρ p 0 hq
        have h3 := lend_ok (H1 := H1) h hx
        simp only [lend] at h3
        split
        · rename_i cs ho
          rw [ho] at h3
          simp only at h3
          split
          · rename_i es hs
            rw [hs] at h3
            obtain ⟨g,t,vs,e1,e2,e3,rfl⟩ := hx
            -- the cells lie in the box's own block
            have h4 : R1 w (fun _ => .nil) (fun b => b = g) (.rd [] (.sl 1 es)) (.slice (some ⟨g,0,none⟩) n' n') := by
              have h5 : RO w _ (.sl 1 es) (.slice (some ⟨g,0,none⟩) n' n') := h3
              cases h5 with
              | nil => exact .nil _ _ _ (by assumption)
              | sl _ b o _ c val hF' hc hm hp' hk hv ht =>
                refine .sl es g 0 1 _ val (.inl rfl) hc hm hp' hk hv fun i j e t' hi hj => ?_
                have h6 := ht i j e t' hi hj
                obtain ⟨hpl,_⟩ : (∃ u,t' = .v u) ∧ True := by
                  obtain ⟨_,k2⟩ := sbE_ok _ _ hs
                  obtain ⟨_,u,_,k4⟩ := k2 i e hi
                  subst k4
                  cases j with
                  | zero => simp at hj; exact ⟨⟨u,hj.symm⟩,trivial⟩
                  | succ j => simp at hj
                obtain ⟨u,rfl⟩ := hpl
                obtain ⟨h7,h8⟩ := RO.plain h6
                rw [h7]
                exact .v u h8
            refine RO.weak h4 fun b hb hlt => .inl (hF b hlt fun r hr hb' => ?_)
            rcases hb with e9 | ⟨q,h1,_⟩
            · have := h.ok.disj p r b (by rw [e1,e9]; simp [Pc.fp]) hb'
              exact hp (this ▸ hr)
            · simp at h1
          · trivial
        · trivial
    · trivial
  | rp => trivial
  | le => trivial
  | hd => trivial
  | un => trivial

theorem R1.sub {H1 : Hs} {F1 : Nat → Prop} (hs : ∀ q,H q ≠ .nil → H1 q = H q) (hF : ∀ b,F b → F1 b) {x : V1} {v : Value} (h : R1 w H F x v) : R1 w H1 F1 x v := by
  have hin : ∀ {qs : List Nat} {b : Nat},inP H F qs b → inP H1 F1 qs b := fun hb => by
    rcases hb with hb | ⟨q,hq,x,v,fp,e,hb⟩
    · exact .inl (hF _ hb)
    · exact .inr ⟨q,hq,x,v,fp,by rw [hs q (by rw [e]; simp),e],hb⟩
  cases x with
  | rd qs x => exact RO.weak h fun b hb _ => hin hb
  | ref p => obtain ⟨x,fp,e⟩ := h; exact ⟨x,fp,by rw [hs p (by rw [e]; simp),e]⟩
  | ptr p i => obtain ⟨g,t,vs,e,hv⟩ := h; exact ⟨g,t,vs,by rw [hs p (by rw [e]; simp),e],hv⟩
  | sb p n k => obtain ⟨g,t,vs,e,hv⟩ := h; exact ⟨g,t,vs,by rw [hs p (by rw [e]; simp),e],hv⟩
  | el p k i j => obtain ⟨b,o,n,c,x,fp,e,hv⟩ := h; exact ⟨b,o,n,c,x,fp,by rw [hs p (by rw [e]; simp),e],hv⟩
  | le p k i j => obtain ⟨b,o,n,c,x,fp,e,hv⟩ := h; exact ⟨b,o,n,c,x,fp,by rw [hs p (by rw [e]; simp),e],hv⟩
  | hd p n => obtain ⟨A,m,c,x,fp,e,hv⟩ := h; exact ⟨A,m,c,x,fp,by rw [hs p (by rw [e]; simp),e],hv⟩
  | rp qs xs =>
    obtain ⟨b,o,hv,hb,hc⟩ := h
    refine ⟨b,o,hv,hin hb,fun j t hj => ?_⟩
    obtain ⟨u,h1,h2⟩ := hc j t hj
    exact ⟨u,h1,RO.weak h2 fun b hb _ => hin hb⟩
  | un => trivial
theorem R2.sub {H1 : Hs} {F1 : Nat → Prop} (hs : ∀ q,H q ≠ .nil → H1 q = H q) (hF : ∀ b,F b → F1 b) {x : V2} {v : Value} (h : R2 w H F x v) : R2 w H1 F1 x v := by
  cases x with
  | c x => exact R1.sub hs hF h
  | ag xs => obtain ⟨us,e,hl,hr⟩ := h; exact ⟨us,e,hl,fun i x u h1 h2 => R1.sub hs hF (hr i x u h1 h2)⟩
theorem RB.sub {H1 : Hs} {F1 : Nat → Prop} (hs : ∀ q,H q ≠ .nil → H1 q = H q) (hF : ∀ b,F b → F1 b) {p : Nat} {ob : Ob} (hp : H p ≠ .nil) (h : RB w H F p ob) : RB w H1 F1 p ob := by
  cases ob with
  | gone => exact absurd h hp
  | hole => trivial
  | box cs => obtain ⟨g,t,vs,e,hl,hr⟩ := h; exact ⟨g,t,vs,by rw [hs p hp,e],hl,fun i c u h1 h2 => ⟨R1.sub hs hF (hr i c u h1 h2).1,(hr i c u h1 h2).2⟩⟩
  | row k es => obtain ⟨v,fp,e⟩ := h; exact ⟨v,fp,by rw [hs p hp,e]⟩
  | gh i x => obtain ⟨v,e,hr⟩ := h; exact ⟨v,by rw [hs p hp,e],R2.sub hs hF hr⟩

/-- What comes back, in the caller's numbers. -/
def phi (ρ : List Nat) (m N q : Nat) : Nat := match Nat.blt q ρ.length with
  | true => ρ.getD q 0
  | false => N + (q - (ρ.length + m))
section
variable {H2 : Hs} {F2 : Nat → Prop} {φ : Nat → Nat}
theorem plantw1 (hpl : ∀ q,H2 q ≠ .nil → (∀ i v,H2 q ≠ .gh i v) → H' (φ q) = H2 q) {x : V1} {v : Value} (hc : x.closed = true) (hx : R1 w H2 F2 x v) : R1 w H' F (x.ren φ) v := by
  cases x with
  | rd ps x =>
    cases x with
    | v x => obtain ⟨rfl,h⟩ := RO.plain hx; exact RO.v _ h
    | sl k es => simp [V1.closed] at hc
    | un => exact RO.un _ (RO.one hx)
  | ref q => obtain ⟨x,fp,e⟩ := hx; exact ⟨x,fp,by rw [hpl q (by rw [e]; simp) (by rw [e]; simp),e]⟩
  | ptr q i => obtain ⟨g,t,vs,e,hv⟩ := hx; exact ⟨g,t,vs,by rw [hpl q (by rw [e]; simp) (by rw [e]; simp),e],hv⟩
  | sb q i j => obtain ⟨g,t,vs,e,hv⟩ := hx; exact ⟨g,t,vs,by rw [hpl q (by rw [e]; simp) (by rw [e]; simp),e],hv⟩
  | el q k i j => obtain ⟨b,o,n',c,x,fp,e,hv⟩ := hx; exact ⟨b,o,n',c,x,fp,by rw [hpl q (by rw [e]; simp) (by rw [e]; simp),e],hv⟩
  | rp => simp [V1.closed] at hc
  | le q k i j => obtain ⟨b,o,n',c,x,fp,e,hv⟩ := hx; exact ⟨b,o,n',c,x,fp,by rw [hpl q (by rw [e]; simp) (by rw [e]; simp),e],hv⟩
  | hd q i => obtain ⟨A,m',c,x,fp,e,hv⟩ := hx; exact ⟨A,m',c,x,fp,by rw [hpl q (by rw [e]; simp) (by rw [e]; simp),e],hv⟩
  | un => trivial
theorem plantw2 (hpl : ∀ q,H2 q ≠ .nil → (∀ i v,H2 q ≠ .gh i v) → H' (φ q) = H2 q) {x : V2} {v : Value} (hc : x.closed = true) (hx : R2 w H2 F2 x v) : R2 w H' F (x.ren φ) v := by
  cases x with
  | c x => exact plantw1 hpl hc hx
  | ag xs =>
    obtain ⟨us,e,hl,hr⟩ := hx
    refine ⟨us,e,by simpa using hl,fun i x u hi hu => ?_⟩
    rw [List.getElem?_map] at hi
    obtain ⟨c,h1,rfl⟩ := Option.map_eq_some_iff.1 hi
    exact plantw1 hpl (List.all_eq_true.1 hc c (getE_mem h1)) (hr i c u h1 hu)
theorem plantwV (hpl : ∀ q,H2 q ≠ .nil → (∀ i v,H2 q ≠ .gh i v) → H' (φ q) = H2 q) {x : V} {v : Value} (hc : x.closed = true) (hx : RV w H2 F2 x v) : RV w H' F (x.ren φ) v := by
  cases x with
  | o x => exact plantw2 hpl hc hx
  | tu xs =>
    obtain ⟨us,e,hl,hr⟩ := hx
    refine ⟨us,e,by simpa using hl,fun i x u hi hu => ?_⟩
    rw [List.getElem?_map] at hi
    obtain ⟨c,h1,rfl⟩ := Option.map_eq_some_iff.1 hi
    exact plantw2 hpl (List.all_eq_true.1 hc c (getE_mem h1)) (hr i c u h1 hu)
  | iff cs x => exact ⟨fun h => plantw2 hpl hc (hx.1 h),hx.2⟩
/-- A piece that comes back known. -/
def Ob.back : Ob → Bool
  | .box cs => cs.all V1.closed
  | .row _ _ => true
  | _ => false
theorem back_ng {q : Nat} {ob : Ob} (hb : ob.back = true) (h : RB w H2 F2 q ob) : H2 q ≠ .nil ∧ ∀ i v,H2 q ≠ .gh i v := by
  cases ob with
  | box cs => obtain ⟨g,t,vs,e,_⟩ := h; rw [e]; simp
  | row k es => obtain ⟨v,fp,e⟩ := h; rw [e]; simp
  | gone => cases hb
  | hole => cases hb
  | gh => cases hb
theorem plantwB (hpl : ∀ q,H2 q ≠ .nil → (∀ i v,H2 q ≠ .gh i v) → H' (φ q) = H2 q) {q p : Nat} {ob : Ob} (hp : H' p = H2 q) (hb : ob.back = true) (h : RB w H2 F2 q ob) : RB w H' F p (ob.ren φ) := by
  cases ob with
  | box cs =>
    obtain ⟨g,t,vs,e,hl,hr⟩ := h
    refine ⟨g,t,vs,hp.trans e,by simpa using hl,fun i c u hi hu => ?_⟩
    rw [List.getElem?_map] at hi
    obtain ⟨c',h1,rfl⟩ := Option.map_eq_some_iff.1 hi
    exact ⟨plantw1 hpl (List.all_eq_true.1 hb c' (getE_mem h1)) (hr i c' u h1 hu).1,(hr i c' u h1 hu).2⟩
  | row k es => obtain ⟨v,fp,e⟩ := h; exact ⟨v,fp,hp.trans e⟩
  | gone => cases hb
  | hole => cases hb
  | gh => cases hb
end
def setL {α : Type} : List α → List Nat → List α → List α
  | l,r :: rs,o :: os => setL (l.set r o) rs os
  | l,_,_ => l
theorem setL_len {α : Type} : ∀ (rs : List Nat) (os : List α) (l : List α),(setL l rs os).length = l.length
  | [],os,l => by cases os <;> rfl
  | r :: rs,[],l => rfl
  | r :: rs,o :: os,l => by rw [setL,setL_len rs os,List.length_set]
theorem setL_out {α : Type} {d : α} : ∀ (rs : List Nat) (os : List α) (l : List α) (p : Nat),p ∉ rs → (setL l rs os).getD p d = l.getD p d
  | [],os,l,p,_ => by cases os <;> rfl
  | r :: rs,[],l,p,_ => rfl
  | r :: rs,o :: os,l,p,hp => by
    rw [setL,setL_out rs os _ p (fun h => hp (by simp [h])),List.getD_eq_getElem?_getD,List.getElem?_set_ne (fun e => hp (by simp [e])),List.getD_eq_getElem?_getD]
theorem setL_in {α : Type} {d : α} : ∀ (rs : List Nat) (os : List α) (l : List α) (q p : Nat) (x : α),rs.Nodup → (∀ r ∈ rs,r < l.length) → rs[q]? = some p → os[q]? = some x → (setL l rs os).getD p d = x
  | [],os,l,q,p,x,_,_,h,_ => by simp at h
  | r :: rs,[],l,q,p,x,_,_,_,h => by simp at h
  | r :: rs,o :: os,l,q,p,x,hn,hl,h1,h2 => by
    obtain ⟨n1,n2⟩ := List.nodup_cons.1 hn
    cases q with
    | zero =>
      simp only [List.getElem?_cons_zero,Option.some.injEq] at h1 h2
      subst h1 h2
      rw [setL,setL_out rs os _ r n1,List.getD_eq_getElem?_getD,List.getElem?_set_self (hl r (by simp))]
      rfl
    | succ q =>
      rw [setL]
      exact setL_in rs os _ q p x n2 (fun r hr => by rw [List.length_set]; exact hl r (by simp [hr])) (by simpa using h1) (by simpa using h2)
def gh1 (g : Nat × V2) : Ob := .gh g.1 g.2
/-- The place that a pointer or slice speaks of. -/
def plc : V1 → Option Nat
  | .ref q => some q
  | .ptr q _ => some q
  | _ => none

def pickC : V2 → Nat → Option V1
  | .c x,_ => some x
  | .ag xs,j => xs[j]?
def pickU : V2 → Value → Nat → Value
  | .c _,v,_ => v
  | .ag _,v,j => match v with
    | .agg us => us.toList.getD j undef
    | _ => undef
theorem R2.cell {x : V2} {v : Value} {j : Nat} {c : V1} (h : R2 w H F x v) (hp : pickC x j = some c) : R1 w H F c (pickU x v j) := by
  cases x with
  | c x => simp only [pickC,Option.some.injEq] at hp; subst hp; exact h
  | ag xs =>
    obtain ⟨us,rfl,hl,hr⟩ := h
    have hj : j < us.length := by rw [hl]; exact getE_lt hp
    have := hr j c _ hp (List.getElem?_eq_getElem hj)
    simpa [pickU,List.getD_eq_getElem?_getD,hj] using this

theorem L_lent {f : FuncId} [hf : FunOk P f] {ass : Array Operand} {tys : Array TypeId} {args : List V2} {lo lo' new : List Ob} {gs gs' : List (Nat × V2)} {res : V} (ρ : List Nat) (kq : List (Nat × Nat × V1)) (ho : o.op = .call { callee := .value (.func f),args := ass,argTypes := tys }) (hg : o.guard = none)
    (hc : Con P f (lo ++ gs.map gh1) args (lo' ++ (gs'.map gh1 ++ new)) res) (hρ : nodupB ρ = true) (hlt : ρ.all (fun p => Nat.blt p st.objs.length) = true) (hl1 : lo.length = ρ.length) (hl2 : lo'.length = ρ.length) (hl3 : gs'.length = gs.length)
    (hlo : lo.map (Ob.ren (rho ρ st.objs.length)) = ρ.map fun p => st.objs.getD p .gone) (hgn : ρ.all (fun p => (st.objs.getD p .gone).back || (match st.objs.getD p .gone with | .box _ => true | _ => false)) = true) (ha : ass.toList.map (fun y => lendw st.objs ρ (st.ev y)) = args)
    (hgs : gs.map (fun g => args[g.1]?) = gs.map (fun g => some g.2)) (hk1 : kq.map (fun k => gs[k.1]?.bind fun g => pickC g.2 k.2.1) = kq.map (fun k => some k.2.2)) (hk2 : kq.map (fun k => gs'[k.1]?) = kq.map (fun k => gs[k.1]?)) (hk3 : kq.all (fun k => match plc k.2.2 with | some q => Nat.blt q ρ.length | none => false) = true)
    (hcl : res.closed = true) (hb1 : lo'.all Ob.back = true) (hb2 : new.all Ob.back = true) (hd : dstOk st.n o.dst = true)
    (h : AL P E ops QQ rest ⟨st.n,setT (st.tmps.map fun e => (e.1,e.2.mapk (V1.killw (ρ ++ (List.range new.length).map (st.objs.length + ·)) (kq.map fun k => ρ.getD ((plc k.2.2).getD 0) 0)))) o.dst (res.ren (phi ρ gs.length st.objs.length)),
      setL (st.objs.map (Ob.mapk (V1.killw (ρ ++ (List.range new.length).map (st.objs.length + ·)) (kq.map fun k => ρ.getD ((plc k.2.2).getD 0) 0)))) ρ (lo'.map (Ob.ren (phi ρ gs.length st.objs.length))) ++ new.map (Ob.ren (phi ρ gs.length st.objs.length))⟩) : AL P E ops QQ (o :: rest) st := by
  refine ⟨fun a w ⟨H,F,hr,hsince⟩ => ?_⟩
  have hrun : (execOp a.eval o).run P w = .ok (.enter f (ass.toList.map a.eval).toArray) w := by
    unfold execOp
    simp only [ho,resolve,Act.eval,Deferred.ofValue,Sem.run_bind,Sem.run_pure,Result.andThen_ok,invoke]
    rw [show (#[] ++ ass.map a.eval ++ #[]) = (ass.toList.map a.eval).toArray by
      apply Array.ext'
      simp]
    exact run_callFunc _
  refine wpList_step fun K hK => ?_
  rw [if_pos (by unfold Region.wanted; rw [hg])]
  unfold Oper.wp
  rw [hrun]
  have hnd : ρ.Nodup := nodupB_spec hρ
  have hltN : ∀ p ∈ ρ,p < st.objs.length := fun p hp => Nat.le_of_ble_eq_true (List.all_eq_true.1 hlt p hp)
  have hnilN : ∀ p,st.objs.length ≤ p → H p = .nil := fun p hp => by
    have := hr.obs p
    simpa [List.getD_eq_getElem?_getD,hp,RB] using this
  have hinj : ∀ (i j p : Nat),ρ[i]? = some p → ρ[j]? = some p → i = j := fun i j p h1 h2 => by
    obtain ⟨a1,e1⟩ := List.getElem?_eq_some_iff.1 h1
    obtain ⟨a2,e2⟩ := List.getElem?_eq_some_iff.1 h2
    rcases Nat.lt_trichotomy i j with hij | hij | hij
    · exact absurd (e1.trans e2.symm) (List.pairwise_iff_getElem.1 hnd i j a1 a2 hij)
    · exact hij
    · exact absurd (e2.trans e1.symm) (List.pairwise_iff_getElem.1 hnd j i a2 a1 hij)
  obtain ⟨vs,hvs⟩ : ∃ vs,vs = ass.toList.map a.eval := ⟨_,rfl⟩
  obtain ⟨H1,hH1⟩ : ∃ H1 : Hs,H1 = fun q => match ρ[q]? with | some p => H p | none => match gs[q - ρ.length]? with | some g => if ρ.length ≤ q then .gh g.1 (vs.getD g.1 undef) else .nil | none => .nil := ⟨_,rfl⟩
  have a1 : ∀ q p,ρ[q]? = some p → H1 q = H p := fun q p hq => by rw [hH1]; simp only [hq]
  have a2 : ∀ j g,gs[j]? = some g → H1 (ρ.length + j) = .gh g.1 (vs.getD g.1 undef) := fun j g hj => by
    rw [hH1]
    have : ρ[ρ.length + j]? = none := List.getElem?_eq_none (by omega)
    simp only [this,Nat.add_sub_cancel_left,hj]
    rw [if_pos (by omega)]
  have a3 : ∀ q b,b ∈ (H1 q).fp → ∃ p,ρ[q]? = some p ∧ b ∈ (H p).fp := fun q b hb => by
    cases hq : ρ[q]? with
    | some p => rw [a1 q p hq] at hb; exact ⟨p,rfl,hb⟩
    | none =>
      rw [hH1] at hb
      simp only [hq] at hb
      split at hb
      · split at hb <;> simp [Pc.fp] at hb
      · simp [Pc.fp] at hb
  have a4 : ∀ q i v,H1 q = .gh i v → (∃ p,ρ[q]? = some p ∧ H p = .gh i v) ∨ v = vs.getD i undef := fun q i v hq => by
    cases hp : ρ[q]? with
    | some p => rw [a1 q p hp] at hq; exact .inl ⟨p,rfl,hq⟩
    | none =>
      rw [hH1] at hq
      simp only [hp] at hq
      split at hq
      · split at hq
        · simp only [Pc.gh.injEq] at hq
          exact .inr (by rw [← hq.2,hq.1])
        · cases hq
      · cases hq
  obtain ⟨F1,hF1⟩ : ∃ F1 : Nat → Prop,F1 = fun b => b < w.heap.size ∧ ∀ p ∈ ρ,b ∉ (H p).fp := ⟨_,rfl⟩
  have hFF : ∀ b,F b → F1 b := fun b hb => by rw [hF1]; exact ⟨hr.ok.flt b hb,fun p _ h => hr.ok.free p b h hb⟩
  have hsubH : ∀ q,H (rho ρ st.objs.length q) ≠ .nil → H1 q = H (rho ρ st.objs.length q) := fun q hq => by
    cases hp : ρ[q]? with
    | some p => rw [a1 q p hp]; simp [rho,List.getD_eq_getElem?_getD,hp]
    | none => exact absurd (hnilN _ (by simp [rho,List.getD_eq_getElem?_getD,hp])) hq
  have hgok : ∀ p ∈ ρ,H p ≠ .nil ∧ ∀ i v,H p ≠ .gh i v := fun p hp => by
    have h1 := List.all_eq_true.1 hgn p hp
    have h2 := hr.obs p
    cases ho : st.objs.getD p .gone with
    | box cs => rw [ho] at h2; obtain ⟨g,t,us,e,_⟩ := h2; rw [e]; simp
    | row k es => rw [ho] at h2; obtain ⟨v,fp,e⟩ := h2; rw [e]; simp
    | gone => rw [ho] at h1; cases h1
    | hole => rw [ho] at h1; cases h1
    | gh => rw [ho] at h1; cases h1
  have hok1 : Ok w H1 F1 := by
    refine ⟨fun q => ?_,fun q => ?_,fun q r b h1 h2 => ?_,fun q b h1 h2 => ?_,fun b hb => by rw [hF1] at hb; exact hb.1⟩
    · cases hp : ρ[q]? with
      | some p => rw [a1 q p hp]; exact hr.ok.says p
      | none =>
        rw [hH1]
        simp only [hp]
        split
        · split <;> trivial
        · trivial
    · cases hp : ρ[q]? with
      | some p => rw [a1 q p hp]; exact hr.ok.nodup p
      | none =>
        rw [hH1]
        simp only [hp]
        split
        · split <;> simp [Pc.fp]
        · simp [Pc.fp]
    · obtain ⟨p,e1,e2⟩ := a3 q b h1
      obtain ⟨p',e3,e4⟩ := a3 r b h2
      have := hr.ok.disj p p' b e2 e4
      subst this
      exact hinj q r p e1 e3
    · obtain ⟨p,e1,e2⟩ := a3 q b h1
      rw [hF1] at h2
      exact h2.2 p (getE_mem e1) e2
  have hargs1 : ∀ (i : Nat) (x : V2) (v : Value),args[i]? = some x → vs[i]? = some v → R2 w H1 F1 x v := by
    intro i x v hx hv
    rw [← ha,List.getElem?_map] at hx
    obtain ⟨y,h1,rfl⟩ := Option.map_eq_some_iff.1 hx
    rw [hvs,List.getElem?_map,h1] at hv
    simp only [Option.map_some,Option.some.injEq] at hv
    subst hv
    have h2 := hr.ev y
    have hl1 : ∀ {x : V1} {v : Value},R1 w H F x v → R1 w H1 F1 (lendw1 st.objs ρ x) v := fun hx => lendw1_ok hr a1 (fun b h1 h2 => by rw [hF1]; exact ⟨h1,h2⟩) hx
    cases he : st.ev y with
    | o x =>
      rw [he] at h2
      cases x with
      | c x => exact hl1 h2
      | ag xs =>
        obtain ⟨us,e,hl,hcs⟩ := h2
        refine ⟨us,e,by simpa using hl,fun i x u hi hu => ?_⟩
        rw [List.getElem?_map] at hi
        obtain ⟨c,h3,rfl⟩ := Option.map_eq_some_iff.1 hi
        exact hl1 (hcs i c u h3 hu)
    | tu xs => trivial
    | iff cs x => trivial
  have hgsat : ∀ (j : Nat) (g : Nat × V2),gs[j]? = some g → args[g.1]? = some g.2 := fun j g hj => by
    have := congrArg (·[j]?) hgs
    simpa [hj] using this
  have hvl : vs.length = args.length := by rw [hvs,← ha]; simp
  have hvat : ∀ (i : Nat) (x : V2),args[i]? = some x → vs[i]? = some (vs.getD i undef) := fun i x hx => by
    have : i < vs.length := by rw [hvl]; exact getE_lt hx
    simp [List.getD_eq_getElem?_getD,this]
  have hobs1 : ∀ q,RB w H1 F1 q ((lo ++ gs.map gh1).getD q .gone) := by
    intro q
    rcases Nat.lt_or_ge q ρ.length with hq | hq
    · have hp : ρ[q]? = some ρ[q] := List.getElem?_eq_getElem hq
      have hlq : lo[q]? = some (lo[q]'(by omega)) := List.getElem?_eq_getElem (by omega)
      have h1 := congrArg (·[q]?) hlo
      simp only [List.getElem?_map,hlq,hp,Option.map_some,Option.some.injEq] at h1
      rw [show (lo ++ gs.map gh1).getD q .gone = lo[q]'(by omega) by simp [List.getD_eq_getElem?_getD,List.getElem?_append_left (show q < lo.length by omega),hl1,hq]]
      have h2 := hr.obs ρ[q]
      rw [← h1] at h2
      have hf : rho ρ st.objs.length q = ρ[q] := by simp [rho,List.getD_eq_getElem?_getD,hq]
      have h3 : RB w (fun p => H (rho ρ st.objs.length p)) F q (lo[q]'(by omega)) := RB.ren (f := rho ρ st.objs.length) (by rw [hf]; exact h2)
      exact RB.sub (H := fun p => H (rho ρ st.objs.length p)) hsubH hFF (by simp only [hf]; exact (hgok _ (List.getElem_mem hq)).1) h3
    · cases hj : gs[q - ρ.length]? with
      | some g =>
        rw [show (lo ++ gs.map gh1).getD q .gone = gh1 g by simp [List.getD_eq_getElem?_getD,List.getElem?_append_right (show lo.length ≤ q by omega),hl1,hj]]
        have h1 := a2 _ g hj
        rw [show ρ.length + (q - ρ.length) = q by omega] at h1
        have h2 := hgsat _ g hj
        exact ⟨_,h1,hargs1 _ _ _ h2 (hvat _ _ h2)⟩
      | none =>
        rw [show (lo ++ gs.map gh1).getD q .gone = .gone by simp [List.getD_eq_getElem?_getD,List.getElem?_append_right (show lo.length ≤ q by omega),hl1,hj]]
        show H1 q = .nil
        rw [hH1]
        have : ρ[q]? = none := List.getElem?_eq_none (by omega)
        simp only [this,hj]
  rw [← hvs]
  refine (hc w H1 F1 vs hok1 hobs1 hvl hargs1).mono ?_
  rintro e w' ⟨H2,F2,rv,rfl,hsi,hok2,hobs2,hres⟩
  -- the pieces that come back
  have hoL : ∀ q,q < ρ.length → ∃ ob,lo'[q]? = some ob ∧ ob.back = true ∧ RB w' H2 F2 q ob := fun q hq => by
    have hlq : lo'[q]? = some (lo'[q]'(by omega)) := List.getElem?_eq_getElem (by omega)
    have h1 := hobs2 q
    rw [show (lo' ++ (gs'.map gh1 ++ new)).getD q .gone = lo'[q]'(by omega) by simp [List.getD_eq_getElem?_getD,List.getElem?_append_left (show q < lo'.length by omega),hl2,hq]] at h1
    exact ⟨_,hlq,List.all_eq_true.1 hb1 _ (List.getElem_mem _),h1⟩
  have hoG : ∀ (j : Nat) (g : Nat × V2),gs'[j]? = some g → ∃ v,H2 (ρ.length + j) = .gh g.1 v ∧ R2 w' H2 F2 g.2 v := fun j g hj => by
    have h1 := hobs2 (ρ.length + j)
    rw [show (lo' ++ (gs'.map gh1 ++ new)).getD (ρ.length + j) .gone = gh1 g by
      have : j < (gs'.map gh1).length := by simpa using getE_lt hj
      simp [List.getD_eq_getElem?_getD,List.getElem?_append_right (show lo'.length ≤ ρ.length + j by omega),hl2,List.getElem?_append_left this,hj]] at h1
    exact h1
  have hoN : ∀ r ob,new[r]? = some ob → RB w' H2 F2 (ρ.length + gs.length + r) ob := fun r ob hj => by
    have h1 := hobs2 (ρ.length + gs.length + r)
    rw [show (lo' ++ (gs'.map gh1 ++ new)).getD (ρ.length + gs.length + r) .gone = ob by
      simp [List.getD_eq_getElem?_getD,List.getElem?_append_right (show lo'.length ≤ ρ.length + gs.length + r by omega),hl2,List.getElem?_append_right (show (gs'.map gh1).length ≤ gs.length + r by simp [hl3]),show ρ.length + gs.length + r - ρ.length = gs.length + r by omega,hl3,hj]] at h1
    exact h1
  have hoX : ∀ q,ρ.length + gs.length + new.length ≤ q → H2 q = .nil := fun q hq => by
    have h1 := hobs2 q
    rw [show (lo' ++ (gs'.map gh1 ++ new)).getD q .gone = .gone by rw [List.getD_eq_getElem?_getD,List.getElem?_eq_none (by simp; omega)]; rfl] at h1
    exact h1
  obtain ⟨H',hH'⟩ : ∃ H' : Hs,H' = fun p => match idxN ρ p 0 with | some q => H2 q | none => if st.objs.length ≤ p then H2 (ρ.length + gs.length + (p - st.objs.length)) else H p := ⟨_,rfl⟩
  have b1 : ∀ q p,ρ[q]? = some p → H' p = H2 q := fun q p hq => by
    rw [hH']
    cases hi : idxN ρ p 0 with
    | some q' =>
      obtain ⟨_,h2⟩ := idxN_ok ρ p 0 q' hi
      rw [Nat.sub_zero] at h2
      simp only [hi]
      rw [hinj q q' p hq h2]
    | none => exact absurd (getE_mem hq) (idxN_none ρ p 0 hi)
  have bn : ∀ p,p ∉ ρ → idxN ρ p 0 = none := fun p hp => by
    cases hi : idxN ρ p 0 with
    | none => rfl
    | some q' => exact absurd (getE_mem (idxN_ok ρ p 0 q' hi).2) hp
  have b2 : ∀ p,p ∉ ρ → p < st.objs.length → H' p = H p := fun p hp hlt => by
    rw [hH']
    simp only [bn p hp]
    rw [if_neg (by omega)]
  have b3 : ∀ r,H' (st.objs.length + r) = H2 (ρ.length + gs.length + r) := fun r => by
    have hp : st.objs.length + r ∉ ρ := fun hm => by have := hltN _ hm; omega
    rw [hH']
    simp only [bn _ hp]
    rw [if_pos (by omega),Nat.add_sub_cancel_left]
  -- where each piece comes from
  have hcase : ∀ p,(∃ q,H' p = H2 q ∧ (ρ[q]? = some p ∨ (st.objs.length ≤ p ∧ q = ρ.length + gs.length + (p - st.objs.length)))) ∨ (p ∉ ρ ∧ p < st.objs.length ∧ H' p = H p) := fun p => by
    by_cases hp : p ∈ ρ
    · obtain ⟨q,hq⟩ := List.getElem?_of_mem hp
      exact .inl ⟨q,b1 q p hq,.inl hq⟩
    · rcases Nat.lt_or_ge p st.objs.length with h1 | h1
      · exact .inr ⟨hp,h1,b2 p hp h1⟩
      · have h2 := b3 (p - st.objs.length)
        rw [show st.objs.length + (p - st.objs.length) = p by omega] at h2
        exact .inl ⟨_,h2,.inr ⟨h1,rfl⟩⟩
  have hfp2 : ∀ q b,b ∈ (H2 q).fp → (∃ p ∈ ρ,b ∈ (H p).fp) ∨ w.heap.size ≤ b := fun q b hb => by
    rcases hsi.org q b hb with ⟨q',h1⟩ | h1
    · obtain ⟨p,e1,e2⟩ := a3 q' b h1
      exact .inl ⟨p,getE_mem e1,e2⟩
    · exact .inr h1
  have hblk : ∀ b,b < w.heap.size → (∀ p ∈ ρ,b ∉ (H p).fp) → w'.heap[b]? = w.heap[b]? := fun b h1 h2 => hsi.keep b h1 fun q hq => by
    obtain ⟨p,e1,e2⟩ := a3 q b hq
    exact h2 p (getE_mem e1) e2
  have hold : ∀ p b,p ∉ ρ → b ∈ (H p).fp → w'.heap[b]? = w.heap[b]? := fun p b hp hb => hblk b (hr.ok.lt hb) fun r hr' hb' => hp (hr.ok.disj p r b hb hb' ▸ hr')
  have hok' : Ok w' H' F := by
    refine ⟨fun p => ?_,fun p => ?_,fun p r b h1 h2 => ?_,fun p b h1 h2 => ?_,fun b hb => Nat.lt_of_lt_of_le (hr.ok.flt b hb) hsi.size⟩
    · rcases hcase p with ⟨q,e,_⟩ | ⟨h1,_,e⟩
      · rw [e]; exact hok2.says q
      · rw [e]; exact Pc.frame (fun b hb => hold p b h1 hb) (hr.ok.says p)
    · rcases hcase p with ⟨q,e,_⟩ | ⟨_,_,e⟩
      · rw [e]; exact hok2.nodup q
      · rw [e]; exact hr.ok.nodup p
    · rcases hcase p with ⟨q,e,hq⟩ | ⟨n1,l1,e⟩ <;> rcases hcase r with ⟨q',e',hq'⟩ | ⟨n2,l2,e'⟩ <;> rw [e] at h1 <;> rw [e'] at h2
      · have := hok2.disj q q' b h1 h2
        subst this
        rcases hq with hq | ⟨hq,hq2⟩ <;> rcases hq' with hq' | ⟨hq',hq2'⟩
        · rw [hq] at hq'; exact Option.some.inj hq'
        · have := getE_lt hq; omega
        · have := getE_lt hq'; omega
        · omega
      · rcases hfp2 q b h1 with ⟨p',hp',hb'⟩ | hb'
        · have := hr.ok.disj p' r b hb' h2
          exact absurd (this ▸ hp') n2
        · have := hr.ok.lt h2; omega
      · rcases hfp2 q' b h2 with ⟨p',hp',hb'⟩ | hb'
        · have := hr.ok.disj p' p b hb' h1
          exact absurd (this ▸ hp') n1
        · have := hr.ok.lt h1; omega
      · exact hr.ok.disj p r b h1 h2
    · rcases hcase p with ⟨q,e,_⟩ | ⟨_,_,e⟩ <;> rw [e] at h1
      · rcases hfp2 q b h1 with ⟨p',hp',hb'⟩ | hb'
        · exact hr.ok.free p' b hb' h2
        · have := hr.ok.flt b h2; omega
      · exact hr.ok.free p b h1 h2
  have hng : ∀ q,(q < ρ.length ∨ ρ.length + gs.length ≤ q) → ∀ i v,H2 q ≠ .gh i v := fun q hq i v e => by
    rcases hq with hq | hq
    · obtain ⟨ob,_,h2,h3⟩ := hoL q hq
      exact (back_ng h2 h3).2 i v e
    · rcases Nat.lt_or_ge (q - (ρ.length + gs.length)) new.length with h1 | h1
      · have h2 := hoN _ _ (List.getElem?_eq_getElem h1)
        rw [show ρ.length + gs.length + (q - (ρ.length + gs.length)) = q by omega] at h2
        exact (back_ng (List.all_eq_true.1 hb2 _ (List.getElem_mem h1)) h2).2 i v e
      · rw [hoX q (by omega)] at e; cases e
  have htn : Turn w H w' H' (ρ ++ (List.range new.length).map (st.objs.length + ·)) := by
    refine ⟨hsi.os,hsi.tape,hsi.output,hsi.size,fun b h1 h2 => hblk b h1 fun p hp => h2 p (by simp [hp]),fun p hp => ?_,fun p b hb => ?_,fun p i v hp => ?_⟩
    · simp only [List.mem_append,List.mem_map,List.mem_range,not_or] at hp
      rcases hcase p with ⟨q,e,hq⟩ | ⟨_,_,e⟩
      · rcases hq with hq | ⟨hq,hq2⟩
        · exact absurd (getE_mem hq) hp.1
        · have h1 : ¬ p - st.objs.length < new.length := fun h => hp.2 ⟨_,h,by omega⟩
          rw [e,hoX q (by omega),hnilN p hq]
      · exact e
    · rcases hcase p with ⟨q,e,_⟩ | ⟨_,_,e⟩ <;> rw [e] at hb
      · rcases hfp2 q b hb with ⟨p',_,hb'⟩ | hb'
        · exact .inl ⟨p',hb'⟩
        · exact .inr hb'
      · exact .inl ⟨p,hb⟩
    · rcases hcase p with ⟨q,e,hq⟩ | ⟨_,_,e⟩ <;> rw [e] at hp
      · refine absurd hp (hng q ?_ i v)
        rcases hq with hq | ⟨_,hq⟩
        · exact .inl (getE_lt hq)
        · exact .inr (by omega)
      · exact ⟨p,hp⟩
  have hplace : ∀ p ∈ kq.map (fun k => ρ.getD ((plc k.2.2).getD 0) 0),Place (H p) (H' p) := by
    intro p hp
    obtain ⟨k,hk,rfl⟩ := List.mem_map.1 hp
    obtain ⟨jj,hjj⟩ := List.getElem?_of_mem hk
    have e1 := congrArg (·[jj]?) hk1
    have e2 := congrArg (·[jj]?) hk2
    have e3 := List.all_eq_true.1 hk3 k hk
    simp only [List.getElem?_map,hjj,Option.map_some,Option.some.injEq] at e1 e2
    obtain ⟨g,g1,g2⟩ := Option.bind_eq_some_iff.1 e1
    rw [g1] at e2
    obtain ⟨v,v1,v2⟩ := hoG k.1 g e2
    have hv : v = vs.getD g.1 undef := by
      obtain ⟨q',hq'⟩ := hsi.gh _ g.1 v v1
      rcases a4 q' g.1 v hq' with ⟨p',h1,h2⟩ | h1
      · exact absurd h2 ((hgok p' (getE_mem h1)).2 _ _)
      · exact h1
    have hent := hargs1 _ _ _ (hgsat _ g g1) (hvat _ _ (hgsat _ g g1))
    rw [← hv] at hent
    have hent := R2.cell hent g2
    have v2 := R2.cell v2 g2
    cases hpl : plc k.2.2 with
    | none => rw [hpl] at e3; cases e3
    | some q =>
      rw [hpl] at e3
      have hq : q < ρ.length := Nat.le_of_ble_eq_true e3
      have hqp : ρ[q]? = some (ρ.getD q 0) := by simp [List.getD_eq_getElem?_getD,hq]
      simp only [Option.getD_some]
      rw [b1 q _ hqp,← a1 q _ hqp]
      cases hx : k.2.2 with
      | ref q' =>
        rw [hx] at hpl hent v2
        simp only [plc,Option.some.injEq] at hpl
        subst hpl
        obtain ⟨x1,f1,k1⟩ := hent
        obtain ⟨x2,f2,k2⟩ := v2
        exact .inl ⟨_,_,_,_,_,k1,k2⟩
      | ptr q' i =>
        rw [hx] at hpl hent v2
        simp only [plc,Option.some.injEq] at hpl
        subst hpl
        obtain ⟨g3,t3,vs3,k1,k2⟩ := hent
        obtain ⟨g4,t4,vs4,k3,k4⟩ := v2
        rw [k2] at k4
        simp only [Value.pointer.injEq,Option.some.injEq,Addr.mk.injEq] at k4
        obtain ⟨rfl,_⟩ := k4
        exact .inr ⟨_,_,_,_,_,k1,k3⟩
      | _ => rw [hx] at hpl; cases hpl
  have hpl : ∀ q,H2 q ≠ .nil → (∀ i v,H2 q ≠ .gh i v) → H' (phi ρ gs.length st.objs.length q) = H2 q := fun q h1 h2 => by
    unfold phi
    split
    · rename_i hq
      have hq := Nat.le_of_ble_eq_true hq
      exact b1 q _ (by simp [List.getD_eq_getElem?_getD,show q < ρ.length by omega])
    · rename_i hq
      have hq : ρ.length ≤ q := Nat.le_of_not_lt fun hlt => by rw [show Nat.blt q ρ.length = true from Nat.ble_eq_true_of_le hlt] at hq; cases hq
      have hq2 : ρ.length + gs.length ≤ q := by
        refine Nat.le_of_not_lt fun hlt => ?_
        have hj : q - ρ.length < gs'.length := by omega
        obtain ⟨v,v1,_⟩ := hoG (q - ρ.length) _ (List.getElem?_eq_getElem hj)
        rw [show ρ.length + (q - ρ.length) = q by omega] at v1
        exact h2 _ _ v1
      rw [b3,show ρ.length + gs.length + (q - (ρ.length + gs.length)) = q by omega]
  have hR := hr.mapk (V1.killw (ρ ++ (List.range new.length).map (st.objs.length + ·)) (kq.map fun k => ρ.getD ((plc k.2.2).getD 0) 0)) (fun x v hx => R1.killw hr.ok htn hplace hx) hok'
    (setL (st.objs.map (Ob.mapk (V1.killw (ρ ++ (List.range new.length).map (st.objs.length + ·)) (kq.map fun k => ρ.getD ((plc k.2.2).getD 0) 0)))) ρ (lo'.map (Ob.ren (phi ρ gs.length st.objs.length))) ++ new.map (Ob.ren (phi ρ gs.length st.objs.length))) (fun p => ?_)
  · have hR2 := hR.put (x := res.ren (phi ρ gs.length st.objs.length)) o.dst hd (v := rv) (plantwV hpl hcl hres)
    exact hK _ _ (h.h _ _ ⟨_,F,hR2,hsince.turn htn⟩)
  · have hsl : (setL (st.objs.map (Ob.mapk (V1.killw (ρ ++ (List.range new.length).map (st.objs.length + ·)) (kq.map fun k => ρ.getD ((plc k.2.2).getD 0) 0)))) ρ (lo'.map (Ob.ren (phi ρ gs.length st.objs.length)))).length = st.objs.length := by rw [setL_len]; simp
    rcases Nat.lt_or_ge p st.objs.length with h1 | h1
    · rw [List.getD_eq_getElem?_getD,List.getElem?_append_left (by rw [hsl]; exact h1),← List.getD_eq_getElem?_getD]
      by_cases hp : p ∈ ρ
      · obtain ⟨q,hq⟩ := List.getElem?_of_mem hp
        obtain ⟨ob,k1,k2,k3⟩ := hoL q (getE_lt hq)
        rw [setL_in ρ _ _ q p (ob.ren (phi ρ gs.length st.objs.length)) hnd (fun r hr' => by simpa using hltN r hr') hq (by rw [List.getElem?_map,k1]; rfl)]
        exact plantwB hpl (b1 q p hq) k2 k3
      · rw [setL_out ρ _ _ p hp,List.getD_eq_getElem?_getD,List.getElem?_map,List.getElem?_eq_getElem h1]
        have h2 := hr.obs p
        rw [List.getD_eq_getElem?_getD,List.getElem?_eq_getElem h1] at h2
        exact RB.mapk (fun x v hx => R1.killw hr.ok htn hplace hx) (b2 p hp h1) h2
    · rw [List.getD_eq_getElem?_getD,List.getElem?_append_right (by rw [hsl]; exact h1),hsl,List.getElem?_map]
      have h2 := b3 (p - st.objs.length)
      rw [show st.objs.length + (p - st.objs.length) = p by omega] at h2
      cases hn : new[p - st.objs.length]? with
      | none => exact h2.trans (hoX _ (by have := List.getElem?_eq_none_iff.1 hn; omega))
      | some ob => exact plantwB hpl h2 (List.all_eq_true.1 hb2 ob (getE_mem hn)) (hoN _ ob hn)
/-- The same, in the form of a walk. -/
theorem M_lent {ts : List (Nat × V)} {obs : List Ob} {d : Nat} {f : FuncId} [hf : FunOk P f] {ass : Array Operand} {tys : Array TypeId} {args : List V2} {lo lo' new : List Ob} {gs : List (Nat × V2)} {res : V} (ρ : List Nat) (kq : List (Nat × Nat × V1)) (hc : Con P f (lo ++ gs.map gh1) args (lo' ++ (gs.map gh1 ++ new)) res) (ho : o.op = .call { callee := .value (.func f),args := ass,argTypes := tys }) (hg : o.guard = none)
    (hd : o.dst = some d) (hl : Nat.blt d n = true) (hρ : nodupB ρ = true) (hlt : ρ.all (fun p => Nat.blt p obs.length) = true) (hl1 : lo.length = ρ.length) (hl2 : lo'.length = ρ.length)
    (hlo : lo.map (Ob.ren (rho ρ obs.length)) = ρ.map fun p => obs.getD p .gone) (hgn : ρ.all (fun p => (obs.getD p .gone).back || (match obs.getD p .gone with | .box _ => true | _ => false)) = true) (ha : ass.toList.map (fun y => lendw obs ρ (St.ev ⟨n,ts,obs⟩ y)) = args)
    (hgs : gs.map (fun g => args[g.1]?) = gs.map (fun g => some g.2)) (hk1 : kq.map (fun k => gs[k.1]?.bind fun g => pickC g.2 k.2.1) = kq.map (fun k => some k.2.2)) (hk3 : kq.all (fun k => match plc k.2.2 with | some q => Nat.blt q ρ.length | none => false) = true)
    (hcl : res.closed = true) (hb1 : lo'.all Ob.back = true) (hb2 : new.all Ob.back = true)
    (h : AL P E ops QQ rest ⟨n,(d,res.ren (phi ρ gs.length obs.length)) :: (ts.map fun e => (e.1,e.2.mapk (V1.killw (ρ ++ (List.range new.length).map (obs.length + ·)) (kq.map fun k => ρ.getD ((plc k.2.2).getD 0) 0)))),
      setL (obs.map (Ob.mapk (V1.killw (ρ ++ (List.range new.length).map (obs.length + ·)) (kq.map fun k => ρ.getD ((plc k.2.2).getD 0) 0)))) ρ (lo'.map (Ob.ren (phi ρ gs.length obs.length))) ++ new.map (Ob.ren (phi ρ gs.length obs.length))⟩) : AL P E ops QQ (o :: rest) ⟨n,ts,obs⟩ := by
  have hk2 : kq.map (fun k => gs[k.1]?) = kq.map (fun k => gs[k.1]?) := rfl
  exact L_lent (st := ⟨n,ts,obs⟩) ρ kq ho hg hc hρ hlt hl1 hl2 rfl hlo hgn ha hgs hk1 hk2 hk3 hcl hb1 hb2 (by rw [hd]; exact hl) (by rw [hd]; exact h)
end
end Go.Proofs.Ytmljakmaffbnlaa
end

section
set_option linter.unusedSimpArgs false
set_option linter.unusedVariables false
namespace Go.Proofs.Ytmljakmaffbnlaa
open Go.RowKit

theorem flat_one {fps : List (List (List Nat))} {i j : Nat} {G : List (List Nat)} {f : List Nat} (hi : fps[i]? = some G) (hj : G[j]? = some f) : ∃ X Z : List Nat,fps.flatten.flatten = X ++ f ++ Z ∧ ∀ f' : List Nat,(fps.set i (splice G j [f'])).flatten.flatten = X ++ f' ++ Z := by
  obtain ⟨hlt,he⟩ := List.getElem?_eq_some_iff.1 hi
  obtain ⟨hlj,hf⟩ := List.getElem?_eq_some_iff.1 hj
  refine ⟨(fps.take i).flatten.flatten ++ (G.take j).flatten,(G.drop (j + 1)).flatten ++ (fps.drop (i + 1)).flatten.flatten,?_,fun f' => ?_⟩
  · conv => lhs; rw [← List.take_append_drop i fps,List.drop_eq_getElem_cons hlt,he]
    have hG : G.flatten = (G.take j).flatten ++ f ++ (G.drop (j + 1)).flatten := by
      conv => lhs; rw [← List.take_append_drop j G,List.drop_eq_getElem_cons hlj,hf]
      simp [List.append_assoc]
    rw [List.flatten_append,List.flatten_cons,List.flatten_append,List.flatten_append,hG]
    simp [List.append_assoc]
  · rw [List.set_eq_take_append_cons_drop,if_pos hlt]
    rw [List.flatten_append,List.flatten_cons,List.flatten_append,List.flatten_append,splice,List.flatten_append,List.flatten_append]
    simp [List.append_assoc]

/-- cells of one list, parts of different lists: nothing in common -/
theorem sep_list {l : List (List Nat)} (hn : l.flatten.Nodup) {i j : Nat} {f g : List Nat} (hi : l[i]? = some f) (hj : l[j]? = some g) (hij : i ≠ j) {x : Nat} (hx : x ∈ f) (hy : x ∈ g) : False := by
  obtain ⟨hp,hq⟩ := List.pairwise_flatten.1 hn
  obtain ⟨h1,rfl⟩ := List.getElem?_eq_some_iff.1 hi
  obtain ⟨h2,rfl⟩ := List.getElem?_eq_some_iff.1 hj
  rcases Nat.lt_or_gt_of_ne hij with h | h
  · exact (List.pairwise_iff_getElem.1 hq i j h1 h2 h) x hx x hy rfl
  · exact (List.pairwise_iff_getElem.1 hq j i h2 h1 h) x hy x hx rfl
theorem sep_elems {fps : List (List (List Nat))} (hn : fps.flatten.flatten.Nodup) {i i' j j' : Nat} {G G' : List (List Nat)} {f g : List Nat} (hi : fps[i]? = some G) (hi' : fps[i']? = some G') (hii : i ≠ i') (hf : G[j]? = some f) (hg : G'[j']? = some g) {x : Nat} (hx : x ∈ f) (hy : x ∈ g) : False := by
  have h1 : (fps.map List.flatten).flatten = fps.flatten.flatten := by simp [List.flatten_flatten]
  rw [← h1] at hn
  exact sep_list hn (i := i) (j := i') (f := G.flatten) (g := G'.flatten) (by simp [hi]) (by simp [hi']) hii (List.mem_flatten.2 ⟨f,getE_mem hf,hx⟩) (List.mem_flatten.2 ⟨g,getE_mem hg,hy⟩)
theorem sep_cells {fps : List (List (List Nat))} (hn : fps.flatten.flatten.Nodup) {i j j' : Nat} {G : List (List Nat)} {f g : List Nat} (hi : fps[i]? = some G) (hf : G[j]? = some f) (hg : G[j']? = some g) (hjj : j ≠ j') {x : Nat} (hx : x ∈ f) (hy : x ∈ g) : False := by
  have h1 : (fps.map List.flatten).flatten = fps.flatten.flatten := by simp [List.flatten_flatten]
  rw [← h1] at hn
  obtain ⟨hp,_⟩ := List.pairwise_flatten.1 hn
  exact sep_list (hp G.flatten (List.mem_map.2 ⟨G,getE_mem hi,rfl⟩)) hf hg hjj hx hy

theorem OW.inner {w : World} {k : Nat} {es : List (List T)} {v : Value} {fp : List Nat} (h : OW w (.sl k es) v fp) (hnd : fp.Nodup) {i j k' : Nat} {e : List T} {es0 : List (List T)} (hi : es[i]? = some e) (hj : e[j]? = some (.sl k' es0)) :
    ∃ b o c u f,v = .slice (some ⟨b,o,none⟩) es.length c ∧ b ∈ fp ∧ w.cell? ⟨b,o + i * k + j,none⟩ = some u ∧ OW w (.sl k' es0) u f ∧ f.Nodup ∧ (∀ x ∈ f,x ∈ fp) ∧
      ∀ (w' : World) (t1 : T) (f' : List Nat),(∀ x ∈ fp,x ∉ f → w'.heap[x]? = w.heap[x]?) → OW w' t1 u f' → f'.Nodup → (∀ x ∈ f',x ∈ f ∨ w.heap.size ≤ x) → (∀ x ∈ fp,x < w.heap.size) →
        ∃ fp',OW w' (.sl k (es.set i (splice e j [t1]))) v fp' ∧ fp'.Nodup ∧ ∀ x ∈ fp',(x ∈ fp ∧ x ∉ f) ∨ x ∈ f' := by
  rcases h.open_ with ⟨rfl,rfl,rfl⟩ | ⟨b,o,c,tid,cur,fz,val,fps,rfl,rfl,hg,hz,hc,hcm,hcs,hp,hk,hff,hfk,hv,ht⟩
  · simp at hi
  have hil := getE_lt hi
  have hek : e.length = k := hk e (getE_mem hi)
  have hjl := getE_lt hj
  rw [hek] at hjl
  have hfi : fps[i]? = some fps[i] := List.getElem?_eq_getElem (by omega)
  have hfik : (fps[i]'(by omega)).length = k := hfk _ (List.getElem_mem _)
  obtain ⟨G,hG⟩ : ∃ G,G = fps[i]'(by omega) := ⟨_,rfl⟩
  rw [← hG] at hfi hfik
  obtain ⟨f,hf⟩ : ∃ f,G[j]? = some f := ⟨_,List.getElem?_eq_getElem (by omega)⟩
  obtain ⟨X,Z,e1,e2⟩ := flat_one hfi hf
  have hndc := List.nodup_cons.1 hnd
  have hndf := hndc.2
  rw [e1] at hndf
  obtain ⟨n1,n2,n3⟩ := List.nodup_append.1 hndf
  obtain ⟨n4,n5,n6⟩ := List.nodup_append.1 n1
  have hbf : b ∉ f := fun hb => hndc.1 (mem_ff hfi hf hb)
  refine ⟨b,o,c,val i j,f,rfl,by simp,?_,ht i j e _ G f hi hj hfi hf,n5,fun x hx => List.mem_cons_of_mem _ (mem_ff hfi hf hx),fun w' t1 f' hw hO hn' hf' hlt => ?_⟩
  · rw [cell_of_row w b _ cur tid fz hg]
    exact hv i j hil hjl
  have hset : (es.set i (splice e j [t1])).length = es.length := by simp
  have hfr : ∀ (i' j' : Nat) (e' : List T) (t : T) (fs : List (List Nat)) (g : List Nat),es[i']? = some e' → e'[j']? = some t → fps[i']? = some fs → fs[j']? = some g → (∀ x ∈ g,x ∉ f) → OW w' t (val i' j') g := fun i' j' e' t fs g g1 g2 g3 g4 hd =>
    (ht i' j' e' t fs g g1 g2 g3 g4).frame fun x hx => hw x (List.mem_cons_of_mem _ (mem_ff g3 g4 hx)) (hd x hx)
  have hold : ∀ x ∈ X ++ f ++ Z,x < w.heap.size := fun x hx => hlt x (List.mem_cons_of_mem _ (by rw [e1]; exact hx))
  have hdX : ∀ x ∈ X,x ∉ f' := fun x hx hx' => by
    rcases hf' x hx' with h1 | h1
    · exact n6 x hx x h1 rfl
    · have := hold x (by simp [hx]); omega
  have hdZ : ∀ x ∈ Z,x ∉ f' := fun x hx hx' => by
    rcases hf' x hx' with h1 | h1
    · exact n3 x (by simp [h1]) x hx rfl
    · have := hold x (by simp [hx]); omega
  refine ⟨b :: (fps.set i (splice G j [f'])).flatten.flatten,?_,?_,?_⟩
  · rw [← hset]
    refine .sl _ b o k c tid cur fz val _ (by rw [hw b (by simp) hbf]; exact hg) hz (by rw [hset]; exact hc) hcm hcs hp ?_ (by simp [hff]) ?_ (fun i' j' hi' hj' => hv i' j' (by rw [← hset]; exact hi') hj') fun i' j' e' t' fs' g' g1 g2 g3 g4 => ?_
    · intro e' he'
      rcases List.mem_or_eq_of_mem_set he' with he' | rfl
      · exact hk e' he'
      · rw [splice_len (by simp; omega),hek]
    · intro g hg'
      rcases List.mem_or_eq_of_mem_set hg' with hg' | rfl
      · exact hfk g hg'
      · rw [splice_len (by simp; omega),hfik]
    · rw [List.getElem?_set] at g1 g3
      by_cases hii : i = i'
      · subst hii
        simp only [hil,if_true,Option.some.injEq] at g1
        rw [if_pos rfl,if_pos (by omega)] at g3
        simp only [Option.some.injEq] at g3
        subst g1 g3
        rw [splice_at (by simp; omega)] at g2 g4
        by_cases hcond : j ≤ j' ∧ j' < j + 1
        · have hjj : j' = j := by omega
          subst hjj
          rw [if_pos (by simp)] at g2 g4
          simp at g2 g4
          subst g2 g4
          exact hO
        · rw [if_neg (by simpa using hcond)] at g2 g4
          refine hfr i j' e t' G g' hi g2 hfi g4 fun x hx hxf => ?_
          -- two cells of one element own different blocks
          obtain ⟨X2,Z2,e3,e4⟩ := flat_one hfi g4
          exact sep_cells hndc.2 hfi hf g4 (fun e => hcond ⟨by omega,by omega⟩) hxf hx
      · rw [if_neg hii] at g1 g3
        refine hfr i' j' e' t' fs' g' g1 g2 g3 g4 fun x hx hxf => ?_
        exact sep_elems hndc.2 hfi g3 hii hf g4 hxf hx
  · rw [e2]
    refine List.nodup_cons.2 ⟨fun hb => ?_,List.nodup_append.2 ⟨List.nodup_append.2 ⟨n4,hn',fun x hx y hy e => hdX x hx (e ▸ hy)⟩,n2,fun x hx y hy e => ?_⟩⟩
    · rcases List.mem_append.1 hb with hb | hb
      · rcases List.mem_append.1 hb with hb | hb
        · exact hndc.1 (by rw [e1]; simp [hb])
        · rcases hf' b hb with h1 | h1
          · exact hbf h1
          · have := hlt b (by simp); omega
      · exact hndc.1 (by rw [e1]; simp [hb])
    · rcases List.mem_append.1 hx with hx | hx
      · exact n3 x (by simp [hx]) y hy e
      · exact hdZ y hy (e ▸ hx)
  · rw [e2,e1]
    intro x hx
    rcases List.mem_cons.1 hx with rfl | hx
    · exact .inl ⟨by simp,hbf⟩
    · rcases List.mem_append.1 hx with hx | hx
      · rcases List.mem_append.1 hx with hx | hx
        · exact .inl ⟨by simp [hx],fun h => n6 x hx x h rfl⟩
        · exact .inr hx
      · exact .inl ⟨by simp [hx],fun h => n3 x (by simp [h]) x hx rfl⟩

def lendx1 (objs : List Ob) (p : Nat) (x : V1) : V1 := match lendw1 objs [p] x with
  | .rd [] y => .rd [] y
  | _ => .un
def lendx (objs : List Ob) (p : Nat) : V → V2
  | .o (.c x) => .c (lendx1 objs p x)
  | .o (.ag xs) => .ag (xs.map (lendx1 objs p))
  | _ => .c .un
section
variable {P : Program} {E : Env} {ops : Array Oper} {o : Oper} {st : St} {rest : List Oper} {QQ : Exit → St → Prop} {w : World} {H : Hs} {F : Nat → Prop} {a : Act} {t : TypeId} {y : Operand} {n : Nat}
theorem lendx1_ok {p : Nat} {H1 : Hs} {F1 : Nat → Prop} (h : R0 w H F st a) (hF : ∀ b,b < w.heap.size → b ∉ (H p).fp → F1 b) {x : V1} {v : Value} (hx : R1 w H F x v) : R1 w H1 F1 (lendx1 st.objs p x) v := by
  have h1 := lendw1_ok (ρ := [p]) (H1 := fun q => if q = 0 then H p else .nil) (F1 := F1) h (fun q r hq => by
    cases q with
    | zero => simp at hq; subst hq; rfl
    | succ q => simp at hq) (fun b h1 h2 => hF b h1 (h2 p (by simp))) hx
  unfold lendx1
  split
  · rename_i y hy
    rw [hy] at h1
    exact RO.weak h1 fun b hb _ => .inl (by
      rcases hb with hb | ⟨q,hq,_⟩
      · exact hb
      · simp at hq)
  · trivial
/-- what lies in a cell of an element, with its place -/
theorem q_lee {p kk i j : Nat} {es : List (List T)} {e : List T} {x : T} [TyOne P t] (ho : o.op = .load t y) (hg : o.guard = none) (hy : st.ev y = .o (.c (.el p kk i j))) (hp : st.objs[p]? = some (.row kk es)) (he : es[i]? = some e) (hx : e[j]? = some x) : Qt P ops o st (.o (.c (.le p kk i j))) [] n :=
  .pure hg fun a w H F hr => by
    obtain ⟨b,o',e1,hc⟩ := el_cells hr hy hp he
    obtain ⟨u,h1,h2⟩ := hc 0 x (by simpa using hx)
    refine ⟨u,exec_load ho e1 (run_loadAt_cell t b o' u h1),?_⟩
    obtain ⟨b2,o2,n2,c2,x2,fp2,k1,k2⟩ := hr.v1 hy
    obtain ⟨v,fp,k3,k4⟩ := hr.ow hp
    rw [k1] at k3
    simp only [Pc.ow.injEq] at k3
    obtain ⟨_,rfl,rfl⟩ := k3
    rw [e1] at k2
    simp only [Value.pointer.injEq,Option.some.injEq,Addr.mk.injEq] at k2
    obtain ⟨rfl,rfl,_⟩ := k2
    refine ⟨b,o2,n2,c2,x2,fp2,k1,?_,RO.one h2,by simpa using h1⟩
    rcases k4.open_ with ⟨k5,_⟩ | ⟨b',o',c',tid,cur,fz,val,fps,k5,k6,_⟩
    · cases k5
    · simp only [Value.slice.injEq,Option.some.injEq,Addr.mk.injEq] at k5
      rw [k6,k5.1.1]; simp

theorem L_inner {f : FuncId} [hf : FunOk P f] {ass : Array Operand} {tys : Array TypeId} {y0 : Operand} {ys : List Operand} {args' : List V2} {p kk k' i j : Nat} {es es0 es1 : List (List T)} {e : List T} {wv : Value} {ps : List Nat}
    (hc : Con P f [.row k' es0,.gh 0 (.c (.ref 0))] (.c (.ref 0) :: args') [.row k' es1,.gh 0 (.c (.ref 0))] (.o (.c (.rd ps (.v wv))))) (ho : o.op = .call { callee := .value (.func f),args := ass,argTypes := tys }) (hg : o.guard = none) (has : ass.toList = y0 :: ys)
    (hy : st.ev y0 = .o (.c (.le p kk i j))) (hp : st.objs[p]? = some (.row kk es)) (he : es[i]? = some e) (hx : e[j]? = some (.sl k' es0)) (ha : ys.map (fun y => lendx st.objs p (st.ev y)) = args') (hd : dstOk st.n o.dst = true)
    (h : AL P E ops QQ rest ⟨st.n,setT (st.tmps.map fun e => (e.1,e.2.mapk (V1.killw [p] [p]))) o.dst (.o (.c (.rd [] (.v wv)))),(st.objs.map (Ob.mapk (V1.killw [p] [p]))).set p (.row kk (es.set i (splice e j [.sl k' es1])))⟩) : AL P E ops QQ (o :: rest) st := by
  refine ⟨fun a w ⟨H,F,hr,hsince⟩ => ?_⟩
  have hrun : (execOp a.eval o).run P w = .ok (.enter f (ass.toList.map a.eval).toArray) w := by
    unfold execOp
    simp only [ho,resolve,Act.eval,Deferred.ofValue,Sem.run_bind,Sem.run_pure,Result.andThen_ok,invoke]
    rw [show (#[] ++ ass.map a.eval ++ #[]) = (ass.toList.map a.eval).toArray by
      apply Array.ext'
      simp]
    exact run_callFunc _
  refine wpList_step fun K hK => ?_
  rw [if_pos (by unfold Region.wanted; rw [hg])]
  unfold Oper.wp
  rw [hrun]
  obtain ⟨v,fp,e1,e2⟩ := hr.ow hp
  have hnd := hr.ok.nodup p
  rw [e1] at hnd
  obtain ⟨b,o',c,u,f0,hv,hbfp,hcell,hOW0,hn0,hsub,hback⟩ := e2.inner hnd he hx
  obtain ⟨b',o'',n',c',x',fp',e3,_,_,hcell'⟩ := hr.v1 hy
  have hu : a.eval y0 = u := by
    rw [e1] at e3
    simp only [Pc.ow.injEq] at e3
    have h3 := e3.2.1
    rw [hv] at h3
    simp only [Value.slice.injEq,Option.some.injEq,Addr.mk.injEq] at h3
    rw [← h3.1.1,← h3.1.2.1,hcell] at hcell'
    exact (Option.some.inj hcell').symm
  obtain ⟨vs,hvs⟩ : ∃ vs,vs = ass.toList.map a.eval := ⟨_,rfl⟩
  have hvs2 : vs = u :: ys.map a.eval := by rw [hvs,has,List.map_cons,hu]
  obtain ⟨H1,hH0,hH1,hH2⟩ : ∃ H1 : Hs,H1 0 = .ow (.sl k' es0) u f0 ∧ H1 1 = .gh 0 u ∧ ∀ q,2 ≤ q → H1 q = .nil := ⟨fun q => match q with | 0 => .ow (.sl k' es0) u f0 | 1 => .gh 0 u | _ => .nil,rfl,rfl,fun q hq => by
    match q,hq with
    | q + 2,_ => rfl⟩
  obtain ⟨F1,hF1⟩ : ∃ F1 : Nat → Prop,F1 = fun b => b < w.heap.size ∧ b ∉ fp := ⟨_,rfl⟩
  have hfp : (H p).fp = fp := by rw [e1]; rfl
  have a3 : ∀ q x,x ∈ (H1 q).fp → q = 0 ∧ x ∈ f0 := fun q x hq => by
    match q with
    | 0 => rw [hH0] at hq; exact ⟨rfl,hq⟩
    | 1 => rw [hH1] at hq; simp [Pc.fp] at hq
    | q + 2 => rw [hH2 (q + 2) (by omega)] at hq; simp [Pc.fp] at hq
  have hok1 : Ok w H1 F1 := by
    refine ⟨fun q => ?_,fun q => ?_,fun q r x h1 h2 => ?_,fun q x h1 h2 => ?_,fun x hb => by rw [hF1] at hb; exact hb.1⟩
    · match q with
      | 0 => rw [hH0]; exact hOW0
      | 1 => rw [hH1]; trivial
      | q + 2 => rw [hH2 (q + 2) (by omega)]; trivial
    · match q with
      | 0 => rw [hH0]; exact hn0
      | 1 => rw [hH1]; simp [Pc.fp]
      | q + 2 => rw [hH2 (q + 2) (by omega)]; simp [Pc.fp]
    · rw [(a3 q x h1).1,(a3 r x h2).1]
    · rw [hF1] at h2; exact h2.2 (hsub x (a3 q x h1).2)
  have hobs1 : ∀ q,RB w H1 F1 q ([Ob.row k' es0,.gh 0 (.c (.ref 0))].getD q .gone) := fun q => by
    match q with
    | 0 => exact ⟨u,f0,hH0⟩
    | 1 => exact ⟨u,hH1,_,_,hH0⟩
    | q + 2 => exact hH2 (q + 2) (by omega)
  have hargs1 : ∀ (i : Nat) (x : V2) (v : Value),(V2.c (.ref 0) :: args')[i]? = some x → vs[i]? = some v → R2 w H1 F1 x v := by
    intro i x v hi hv
    rw [hvs2] at hv
    cases i with
    | zero => simp at hi hv; subst hi hv; exact ⟨_,_,hH0⟩
    | succ i =>
      rw [List.getElem?_cons_succ] at hi hv
      rw [← ha,List.getElem?_map] at hi
      obtain ⟨y,h1,rfl⟩ := Option.map_eq_some_iff.1 hi
      rw [List.getElem?_map,h1] at hv
      simp only [Option.map_some,Option.some.injEq] at hv
      subst hv
      have h2 := hr.ev y
      have hl1 : ∀ {x : V1} {v : Value},R1 w H F x v → R1 w H1 F1 (lendx1 st.objs p x) v := fun hx => lendx1_ok hr (fun b h1 h2 => by rw [hF1]; exact ⟨h1,by rw [← hfp]; exact h2⟩) hx
      cases he : st.ev y with
      | o x =>
        rw [he] at h2
        cases x with
        | c x => exact hl1 h2
        | ag xs =>
          obtain ⟨us,e,hl,hcs⟩ := h2
          refine ⟨us,e,by simpa using hl,fun i x u hi hu => ?_⟩
          rw [List.getElem?_map] at hi
          obtain ⟨c,h3,rfl⟩ := Option.map_eq_some_iff.1 hi
          exact hl1 (hcs i c u h3 hu)
      | tu xs => trivial
      | iff cs x => trivial
  rw [← hvs]
  refine (hc w H1 F1 vs hok1 hobs1 (by rw [hvs2,← ha]; simp) hargs1).mono ?_
  rintro ex w' ⟨H2,F2,rv,rfl,hsi,hok2,hobs2,hres⟩
  obtain ⟨v2,f2,e5⟩ : ∃ v2 f2,H2 0 = .ow (.sl k' es1) v2 f2 := hobs2 0
  obtain ⟨v3,e6,x3,f3,e7⟩ : ∃ v3,H2 1 = .gh 0 v3 ∧ ∃ x3 f3,H2 0 = .ow x3 v3 f3 := hobs2 1
  have e8 : v3 = u := by
    obtain ⟨q,hq⟩ : ∃ q,H1 q = .gh 0 v3 := hsi.gh 1 0 v3 e6
    match q with
    | 0 => rw [hH0] at hq; cases hq
    | 1 => rw [hH1] at hq; simp only [Pc.gh.injEq] at hq; exact hq.2.symm
    | q + 2 => rw [hH2 (q + 2) (by omega)] at hq; cases hq
  have e9 : v2 = u := by
    rw [e5] at e7
    simp only [Pc.ow.injEq] at e7
    rw [e7.2.1,e8]
  subst e9
  have hO := hok2.says 0
  rw [e5] at hO
  have hn2 := hok2.nodup 0
  rw [e5] at hn2
  have hkeepb : ∀ x,x < w.heap.size → x ∉ f0 → w'.heap[x]? = w.heap[x]? := fun x h1 h2 => hsi.keep x h1 fun q hq => h2 (a3 q x hq).2
  have hlt : ∀ x ∈ fp,x < w.heap.size := fun x hx => hr.ok.lt (p := p) (by rw [hfp]; exact hx)
  obtain ⟨fp2,h7,h8,h9'⟩ := hback w' (.sl k' es1) f2 (fun x h1 h2 => hkeepb x (hlt x h1) h2) hO hn2 (fun x hx => by
    rcases hsi.org 0 x (by rw [e5]; exact hx) with ⟨q,hq⟩ | hq
    · exact .inl (a3 q x hq).2
    · exact .inr hq) hlt
  have h9 : ∀ x ∈ fp2,x ∈ fp ∨ w.heap.size ≤ x := fun x hx => by
    rcases h9' x hx with h | h
    · exact .inl h.1
    · rcases hsi.org 0 x (by rw [e5]; exact h) with ⟨q,hq⟩ | hq
      · exact .inl (hsub x (a3 q x hq).2)
      · exact .inr hq
  have hkeep : Keeps w w' fp := ⟨hsi.os,hsi.tape,hsi.output,hsi.size,fun x h1 h2 => hkeepb x h1 fun h3 => h2 (hsub x h3)⟩
  obtain ⟨hok,htn⟩ := hr.ok.turn (p := p) (fp := fp) hfp hkeep (.ow (.sl kk (es.set i (splice e j [.sl k' es1]))) v fp2) h7 h8 trivial h9
  have hplace : ∀ q ∈ [p],Place (H q) (H.put p (.ow (.sl kk (es.set i (splice e j [.sl k' es1]))) v fp2) q) := fun q hq => by
    have : q = p := by simpa using hq
    subst this
    exact .inl ⟨_,_,_,_,_,e1,Hs.put_self _ _ _⟩
  obtain ⟨hplt,_⟩ := List.getElem?_eq_some_iff.1 hp
  have hR := hr.mapk (V1.killw [p] [p]) (fun x v hx => R1.killw hr.ok htn hplace hx) hok ((st.objs.map (Ob.mapk (V1.killw [p] [p]))).set p (.row kk (es.set i (splice e j [.sl k' es1])))) (fun q => ?_)
  · have hR2 := hR.put (x := .o (.c (.rd [] (.v wv)))) o.dst hd (v := rv) (by
      have h1 : R1 w' H2 F2 (.rd ps (.v wv)) rv := hres
      obtain ⟨rfl,h2⟩ := RO.plain h1
      exact RO.v _ h2)
    exact hK _ _ (h.h _ _ ⟨_,F,hR2,hsince.turn htn⟩)
  · by_cases hqp : q = p
    · subst hqp
      rw [getD_of (x := .row kk (es.set i (splice e j [.sl k' es1]))) (by simp [hplt])]
      exact ⟨_,_,Hs.put_self _ _ _⟩
    · rw [List.getD_eq_getElem?_getD,List.getElem?_set_ne (Ne.symm hqp),List.getElem?_map]
      have h2 := hr.obs q
      rw [List.getD_eq_getElem?_getD] at h2
      have h3 : H.put p (.ow (.sl kk (es.set i (splice e j [.sl k' es1]))) v fp2) q = H q := Hs.put_ne _ _ hqp
      cases ho : st.objs[q]? with
      | none => rw [ho] at h2; exact h3.trans h2
      | some ob => rw [ho] at h2; exact RB.mapk (fun x v hx => R1.killw hr.ok htn hplace hx) h3 h2
theorem M_inner {ts : List (Nat × V)} {obs : List Ob} {d : Nat} {f : FuncId} [hf : FunOk P f] {ass : Array Operand} {tys : Array TypeId} {y0 : Operand} {ys : List Operand} {args' : List V2} {p kk k' i j : Nat} {es es0 es1 : List (List T)} {e : List T} {wv : Value} {ps : List Nat}
    (hc : Con P f [.row k' es0,.gh 0 (.c (.ref 0))] (.c (.ref 0) :: args') [.row k' es1,.gh 0 (.c (.ref 0))] (.o (.c (.rd ps (.v wv))))) (ho : o.op = .call { callee := .value (.func f),args := ass,argTypes := tys }) (hg : o.guard = none) (hd : o.dst = some d) (hl : Nat.blt d n = true) (has : ass.toList = y0 :: ys)
    (hy : St.ev ⟨n,ts,obs⟩ y0 = .o (.c (.le p kk i j))) (hp : obs[p]? = some (.row kk es)) (ha : ys.map (fun y => lendx obs p (St.ev ⟨n,ts,obs⟩ y)) = args') (he : es[i]? = some e) (hx : e[j]? = some (.sl k' es0))
    (h : AL P E ops QQ rest ⟨n,(d,.o (.c (.rd [] (.v wv)))) :: (ts.map fun e => (e.1,e.2.mapk (V1.killw [p] [p]))),(obs.map (Ob.mapk (V1.killw [p] [p]))).set p (.row kk (es.set i (splice e j [.sl k' es1])))⟩) : AL P E ops QQ (o :: rest) ⟨n,ts,obs⟩ :=
  L_inner (st := ⟨n,ts,obs⟩) hc ho hg has hy hp he hx ha (by rw [hd]; exact hl) (by rw [hd]; exact h)
end
end Go.Proofs.Ytmljakmaffbnlaa
end

section
set_option linter.unusedSimpArgs false
set_option linter.unusedVariables false
namespace Go.Proofs.Ytmljakmaffbnlaa
open Go.RowKit

theorem OW.take {w : World} {k : Nat} {es : List (List T)} {v : Value} {fp : List Nat} (h : OW w (.sl k es) v fp) (hnd : fp.Nodup) {n : Nat} (hn : n ≤ es.length) : ∃ A c fp',v = .slice A es.length c ∧ es.length ≤ c ∧ OW w (.sl k (es.take n)) (.slice (if c = 0 then A else A.map (·.add (0 * k))) (n - 0) (c - 0)) fp' ∧ (∀ b ∈ fp',b ∈ fp) ∧ fp'.Nodup := by
  cases h with
  | nil =>
    have : n = 0 := by simpa using hn
    subst this
    exact ⟨none,0,[],rfl,Nat.le_refl _,by simpa using OW.nil (w := w) k,by simp,by simp⟩
  | sl _ b o _ c tid cur fz val fps hg hz hc hm hs hp hk hf hfk hv ht =>
    have hA : (if c = 0 then some (⟨b,o,none⟩ : Addr) else (some (⟨b,o,none⟩ : Addr)).map (·.add (0 * k))) = some ⟨b,o,none⟩ := by
      split
      · rfl
      · simp [Addr.add]
    have hl : (es.take n).length = n := by simp; omega
    have hfl : fps.flatten.flatten = (fps.take n).flatten.flatten ++ (fps.drop n).flatten.flatten := by
      rw [← List.flatten_append,← List.flatten_append,List.take_append_drop]
    refine ⟨some ⟨b,o,none⟩,c,b :: (fps.take n).flatten.flatten,rfl,hc,?_,fun x hx => ?_,?_⟩
    · rw [hA]
      have h1 := OW.sl (w := w) (es.take n) b o k c tid cur fz val (fps.take n) hg hz (by omega) hm hs hp (fun e he => hk e (List.mem_of_mem_take he)) (by simp [hf]) (fun f hf' => hfk f (List.mem_of_mem_take hf'))
        (fun i j hi hj => hv i j (by omega) hj) (fun i j e t fs f g1 g2 g3 g4 => by
          have hi := getE_lt g1
          rw [hl] at hi
          rw [List.getElem?_take,if_pos hi] at g1 g3
          exact ht i j e t fs f g1 g2 g3 g4)
      rw [hl] at h1
      simpa using h1
    · rcases List.mem_cons.1 hx with rfl | hx
      · simp
      · exact List.mem_cons_of_mem _ (by rw [hfl]; exact List.mem_append_left _ hx)
    · rw [hfl,← List.cons_append] at hnd
      exact (List.nodup_append.1 hnd).1

/-- All of a list. -/
def allP {α : Type} (f : α → Prop) : List α → Prop
  | [] => True
  | x :: l => f x ∧ allP f l
theorem allP_map {α β : Type} {f : α → Prop} {g h : α → β} (hgh : ∀ x,f x → g x = h x) : ∀ {l : List α},allP f l → l.map g = l.map h
  | [],_ => rfl
  | x :: l,hl => by rw [List.map_cons,List.map_cons,hgh x hl.1,allP_map hgh hl.2]
section
variable {P : Program} {E : Env} {ops : Array Oper} {o : Oper} {st : St} {rest : List Oper} {QQ : Exit → St → Prop} {t : TypeId} {y u : Operand} {rs : List Nat} {j : Int} {m : Nat}
end
section
variable {P : Program} {E : Env} {ops : Array Oper} {o : Oper} {st : St} {rest : List Oper} {QQ : Exit → St → Prop} {t : TypeId} {y u : Operand} {rs : List Nat} {j : Int}
end
end Go.Proofs.Ytmljakmaffbnlaa
end

section
set_option linter.unusedSimpArgs false
set_option linter.unusedVariables false
namespace Go.Proofs.Ytmljakmaffbnlaa
open Go.RowKit

def V2.allk (f : V1 → Prop) : V2 → Prop
  | .c x => f x
  | .ag xs => allP f xs
def V.allk (f : V1 → Prop) : V → Prop
  | .o x => x.allk f
  | .tu xs => allP (V2.allk f) xs
  | .iff _ x => x.allk f
def Ob.allk (f : V1 → Prop) : Ob → Prop
  | .box cs => allP f cs
  | .gh _ x => x.allk f
  | _ => True
section
variable {f : V1 → Prop} {g h : V1 → V1} (hgh : ∀ x,f x → g x = h x)
include hgh
theorem V2.allk_eq (x : V2) (hx : x.allk f) : x.mapk g = x.mapk h := by
  cases x with
  | c x => exact congrArg V2.c (hgh x hx)
  | ag xs => exact congrArg V2.ag (allP_map hgh hx)
theorem V.allk_eq (x : V) (hx : x.allk f) : x.mapk g = x.mapk h := by
  cases x with
  | o x => exact congrArg V.o (V2.allk_eq hgh x hx)
  | tu xs => exact congrArg V.tu (allP_map (V2.allk_eq hgh) hx)
  | iff cs x => exact congrArg (V.iff cs) (V2.allk_eq hgh x hx)
theorem Ob.allk_eq (x : Ob) (hx : x.allk f) : x.mapk g = x.mapk h := by
  cases x with
  | box cs => exact congrArg Ob.box (allP_map hgh hx)
  | gh i x => exact congrArg (Ob.gh i) (V2.allk_eq hgh x hx)
  | _ => rfl
end
/-- What is said of elements' cells of p is said of this one. -/
def V1.leok (p kk i j : Nat) : V1 → Prop
  | .le q k a b => match Nat.beq q p with
    | true => k = kk ∧ a = i ∧ b = j
    | false => True
  | _ => True
def V1.tole (p m : Nat) : V1 → V1
  | .le q k a b => match Nat.beq q p with
    | true => .ref m
    | false => (V1.le q k a b).killw [p,m] [p]
  | x => x.killw [p,m] [p]
def V1.tole0 (p m kk i j : Nat) : V1 → V1
  | .le q k a b => match Nat.beq q p with
    | true => if k = kk ∧ a = i ∧ b = j then .ref m else .un
    | false => (V1.le q k a b).killw [p,m] [p]
  | x => x.killw [p,m] [p]
theorem V1.tole_eq {p m kk i j : Nat} (x : V1) (hx : x.leok p kk i j) : x.tole0 p m kk i j = x.tole p m := by
  cases x with
  | le q k a b =>
    simp only [V1.tole0,V1.tole]
    simp only [V1.leok] at hx
    split
    · rename_i hq
      rw [hq] at hx
      exact if_pos hx
    · rfl
  | _ => rfl
theorem Wk.split0 {st : St} {p kk i j k' : Nat} {es es0 : List (List T)} {e : List T} (hp : st.objs[p]? = some (.row kk es)) (he : es[i]? = some e) (hx : e[j]? = some (.sl k' es0)) :
    Wk st ⟨st.n,st.tmps.map fun t => (t.1,t.2.mapk (V1.tole0 p st.objs.length kk i j)),((st.objs.map (Ob.mapk (V1.tole0 p st.objs.length kk i j))).set p (.row kk (es.set i (splice e j [.un])))) ++ [.row k' es0]⟩ := by
  intro w H F a h1
  obtain ⟨v,fp,e1,e2⟩ := h1.ow hp
  have hnd := h1.ok.nodup p
  rw [e1] at hnd
  have hnil : H st.objs.length = .nil := by
    have := h1.obs st.objs.length
    simpa [List.getD_eq_getElem?_getD,RB] using this
  have hplt := getE_lt hp
  obtain ⟨b,o,c,u,f,rfl,hbf,hcell,hO,hfn,hsub,hback⟩ := e2.inner hnd he hx
  have hlt : ∀ x ∈ fp,x < w.heap.size := fun x hx => h1.ok.lt (p := p) (by rw [e1]; exact hx)
  have hu1 : u.oneCell' = true := OW.one hO
  obtain ⟨fp',g1,g2,g3⟩ := hback w .un [] (fun _ _ _ => rfl) (.un u hu1) List.nodup_nil (fun x hx => by simp at hx) hlt
  have g4 : ∀ x ∈ fp',x ∈ fp ∧ x ∉ f := fun x hx => (g3 x hx).resolve_right (by simp)
  obtain ⟨N,hN⟩ : ∃ N,N = st.objs.length := ⟨_,rfl⟩
  rw [← hN] at hnil ⊢
  have hNp : N ≠ p := by omega
  obtain ⟨H',hH'⟩ : ∃ H' : Hs,H' = fun q => if q = N then .ow (.sl k' es0) u f else if q = p then .ow (.sl kk (es.set i (splice e j [.un]))) (.slice (some ⟨b,o,none⟩) es.length c) fp' else H q := ⟨_,rfl⟩
  have hHN : H' N = .ow (.sl k' es0) u f := by rw [hH']; exact if_pos rfl
  have hHp : H' p = .ow (.sl kk (es.set i (splice e j [.un]))) (.slice (some ⟨b,o,none⟩) es.length c) fp' := by rw [hH']; simp [Ne.symm hNp]
  have hHo : ∀ q,q ≠ N → q ≠ p → H' q = H q := fun q h1 h2 => by rw [hH']; simp only; rw [if_neg h1,if_neg h2]
  have hin : ∀ q x,x ∈ (H' q).fp → (q = N ∧ x ∈ f) ∨ (q = p ∧ x ∈ fp ∧ x ∉ f) ∨ (q ≠ N ∧ q ≠ p ∧ x ∈ (H q).fp) := fun q x hx => by
    by_cases hq : q = N
    · subst hq; rw [hHN] at hx; exact .inl ⟨rfl,hx⟩
    · by_cases hqp : q = p
      · subst hqp; rw [hHp] at hx; exact .inr (.inl ⟨rfl,g4 x hx⟩)
      · rw [hHo q hq hqp] at hx; exact .inr (.inr ⟨hq,hqp,hx⟩)
  have hpf : ∀ x,x ∈ fp → x ∈ (H p).fp := fun x hx => by rw [e1]; exact hx
  have hok : Ok w H' F := by
    refine ⟨fun q => ?_,fun q => ?_,fun q r x h2 h3 => ?_,fun q x h2 => ?_,h1.ok.flt⟩
    · by_cases hq : q = N
      · subst hq; rw [hHN]; exact hO
      · by_cases hqp : q = p
        · subst hqp; rw [hHp]; exact g1
        · rw [hHo q hq hqp]; exact h1.ok.says q
    · by_cases hq : q = N
      · subst hq; rw [hHN]; exact hfn
      · by_cases hqp : q = p
        · subst hqp; rw [hHp]; exact g2
        · rw [hHo q hq hqp]; exact h1.ok.nodup q
    · rcases hin q x h2 with ⟨rfl,k1⟩ | ⟨rfl,k1,k2⟩ | ⟨k1,k2,k3⟩ <;> rcases hin r x h3 with ⟨e5,m1⟩ | ⟨e5,m1,m2⟩ | ⟨m1,m2,m3⟩
      · exact e5.symm
      · exact absurd k1 m2
      · exact absurd (h1.ok.disj r p x m3 (hpf x (hsub x k1))) m2
      · exact absurd m1 k2
      · exact e5.symm
      · exact absurd (h1.ok.disj r q x m3 (hpf x k1)) m2
      · exact absurd (h1.ok.disj q p x k3 (hpf x (hsub x m1))) k2
      · exact absurd (h1.ok.disj q p x k3 (hpf x m1)) k2
      · exact h1.ok.disj q r x k3 m3
    · rcases hin q x h2 with ⟨rfl,k1⟩ | ⟨rfl,k1,k2⟩ | ⟨k1,k2,k3⟩
      · exact h1.ok.free p x (hpf x (hsub x k1))
      · exact h1.ok.free q x (hpf x k1)
      · exact h1.ok.free q x k3
  have hfpo : ∀ q x,x ∈ (H' q).fp → ∃ r,x ∈ (H r).fp := fun q x hx => by
    rcases hin q x hx with ⟨rfl,k1⟩ | ⟨rfl,k1,k2⟩ | ⟨k1,k2,k3⟩
    · exact ⟨p,hpf x (hsub x k1)⟩
    · exact ⟨q,hpf x k1⟩
    · exact ⟨q,k3⟩
  have hghs : ∀ q i v,H' q = .gh i v → ∃ r,H r = .gh i v := fun q i v hq => by
    by_cases hqN : q = N
    · subst hqN; rw [hHN] at hq; cases hq
    · by_cases hqp : q = p
      · subst hqp; rw [hHp] at hq; cases hq
      · exact ⟨q,by rw [← hHo q hqN hqp]; exact hq⟩
  have htn : Turn w H w H' [p,N] := ⟨rfl,rfl,rfl,Nat.le_refl _,fun _ _ _ => rfl,fun q hq => hHo q (fun e => hq (by simp [e])) (fun e => hq (by simp [e])),fun q x hx => .inl (hfpo q x hx),hghs⟩
  have hplace : ∀ q ∈ [p],Place (H q) (H' q) := fun q hq => by
    have : q = p := by simpa using hq
    subst this
    exact .inl ⟨_,_,_,_,_,e1,hHp⟩
  have hone : ∀ x v,R1 w H F x v → R1 w H' F (V1.tole0 p N kk i j x) v := fun x v hx => by
    cases x with
    | le q k a b' =>
      simp only [V1.tole0]
      split
      · rename_i hq
        have hqp := Nat.eq_of_beq_eq_true hq
        subst hqp
        split
        · rename_i hc
          rw [hc.1,hc.2.1,hc.2.2] at hx
          obtain ⟨b2,o2,n2,c2,x2,fp2,k1,k2,k3,k4⟩ := hx
          rw [e1] at k1
          simp only [Pc.ow.injEq,Value.slice.injEq,Option.some.injEq,Addr.mk.injEq] at k1
          obtain ⟨_,⟨⟨rfl,rfl,_⟩,_,_⟩,_⟩ := k1
          rw [hcell] at k4
          simp only [Option.some.injEq] at k4
          subst k4
          exact ⟨_,_,hHN⟩
        · trivial
      · exact R1.killw h1.ok htn hplace hx
    | _ => exact R1.killw h1.ok htn hplace hx
  refine ⟨H',h1.mapk (V1.tole0 p N kk i j) hone hok _ (fun q => ?_),hfpo,hghs⟩
  by_cases hqN : q = N
  · subst hqN
    rw [getD_of (x := .row k' es0) (by rw [List.getElem?_append_right (by simp; omega)]; simp [hN])]
    exact ⟨_,_,hHN⟩
  by_cases hqp : q = p
  · subst hqp
    rw [getD_of (x := .row kk (es.set i (splice e j [.un]))) (by rw [List.getElem?_append_left (by simpa using hplt)]; simp [hplt])]
    exact ⟨_,_,hHp⟩
  · rcases Nat.lt_or_ge q st.objs.length with hlt2 | hge
    · rw [List.getD_eq_getElem?_getD,List.getElem?_append_left (by simpa using hlt2),List.getElem?_set_ne (Ne.symm hqp),List.getElem?_map]
      have h2 := h1.obs q
      rw [List.getD_eq_getElem?_getD] at h2
      have h3 : H' q = H q := hHo q hqN hqp
      cases ho : st.objs[q]? with
      | none => rw [ho] at h2; exact h3.trans h2
      | some ob => rw [ho] at h2; exact RB.mapk hone h3 h2
    · rw [List.getD_eq_getElem?_getD,List.getElem?_eq_none (by simp; omega)]
      have h2 := h1.obs q
      rw [List.getD_eq_getElem?_getD,List.getElem?_eq_none hge] at h2
      exact (hHo q hqN hqp).trans h2
theorem Wk.split {st : St} {p kk i j k' : Nat} {es es0 : List (List T)} {e : List T} (hp : st.objs[p]? = some (.row kk es)) (he : es[i]? = some e) (hx : e[j]? = some (.sl k' es0)) (ht : allP (fun t : Nat × V => t.2.allk (V1.leok p kk i j)) st.tmps) (ho : allP (Ob.allk (V1.leok p kk i j)) st.objs) :
    Wk st ⟨st.n,st.tmps.map fun t => (t.1,t.2.mapk (V1.tole p st.objs.length)),((st.objs.map (Ob.mapk (V1.tole p st.objs.length))).set p (.row kk (es.set i (splice e j [.un])))) ++ [.row k' es0]⟩ := by
  have h := Wk.split0 hp he hx
  rw [allP_map (g := fun e : Nat × V => (e.1,e.2.mapk (V1.tole0 p st.objs.length kk i j))) (h := fun e : Nat × V => (e.1,e.2.mapk (V1.tole p st.objs.length))) (fun e he => by rw [V.allk_eq V1.tole_eq e.2 he]) ht,allP_map (fun x hx => Ob.allk_eq V1.tole_eq x hx) ho] at h
  exact h
end Go.Proofs.Ytmljakmaffbnlaa
end

section
set_option linter.unusedSimpArgs false
set_option linter.unusedVariables false
set_option maxRecDepth 4096
namespace Go.Proofs.Ytmljakmaffbnlaa
open Go.RowKit

def dig : Nat → Int → List UInt8 → List UInt8
  | 0,_,out => out
  | n + 1,k,out => if 0 < k then dig n (k / 10) ([UInt8.ofNat (48 + k % 10).toNat] ++ out) else out
def mtext (k : Int) : ByteArray := bs (if k ≤ 0 then [109,48] else 109 :: dig 19 k [])
theorem dig_end {n : Nat} {k : Int} {out : List UInt8} (h : ¬ 0 < k) : dig n k out = out := by
  cases n with
  | zero => rfl
  | succ n => rw [dig,if_neg h]
set_option maxHeartbeats 8000000 in
theorem L_markText (k : Int) (hk : k ≤ 1099511627776) : Con Try.prog 86 [] [ai k] [] (S (mtext k)) := by
  refine Con.of Try.func86 rfl Try.ntmps86 rfl (fun E => ?_)
  refine A_seq (A_region ?_);refine M0 (q_assignC rfl rfl rfl) rfl rfl ?_;refine L_nil (T_n (A_seq (A_seq (A_region ?_))))
  refine M0 (q_moveC rfl rfl rfl) rfl rfl ?_;refine M0 (q_leq rfl rfl rfl rfl) rfl rfl ?_;refine L_nil (T_n ?_)
  refine A_cond rfl (fun h => ?_) (fun h => ?_)
  · have h := of_decide_eq_true h
    refine A_seq (A_region ?_);refine M0 (q_assignC rfl rfl rfl) rfl rfl ?_;refine L_nil (T_n (A_ret (T_r (F_r ?_))))
    exact E_tmp rfl rfl (W_end [] (by decide) rfl rfl (S_eq (by rw [mtext,if_pos h])))
  have h := of_decide_eq_false h
  rw [mtext,if_neg h]
  refine A_skip (T_n (A_seq (A_region ?_)));refine M0 (q_assignC rfl rfl rfl) rfl rfl ?_;refine L_nil (T_n (A_seq (A_block ?_)))
  refine A_loop (fun m__ st => ∃ (j : Int) (out : List UInt8),j.toNat = m__ ∧ (∃ n,0 ≤ j ∧ j ≤ 1099511627776 ∧ j < 10 ^ n ∧ out.length + n = 19 ∧ dig n j out = dig 19 k []) ∧ st = (fun (j : Int) (out : List UInt8) => (⟨_,[(0,I j),(3,S (bs out))],[]⟩ : St)) (j) (out)) ((fun (j : Int) (out : List UInt8) => j.toNat) (k) ([])) ⟨(fun (j : Int) (out : List UInt8) => (⟨_,[(0,I j),(3,S (bs out))],[]⟩ : St)) (k) ([]),W_go [] (by decide) rfl (rfl) (.cons rfl (.cons rfl (.nil))),k,[],rfl,⟨19,by omega,hk,by omega,rfl,rfl⟩,rfl⟩ ?_
  rintro m_A _ ⟨j,out,hk_A,hp_A,rfl⟩
  obtain ⟨n,a0,a1,a2,a3,a4⟩ := hp_A
  refine A_seq (A_seq (A_region ?_));refine M0 (q_moveC rfl rfl rfl) rfl rfl ?_;refine M0 (q_gtr rfl rfl rfl rfl) rfl rfl ?_;refine L_nil (T_n ?_)
  refine A_cond rfl (fun h => ?_) (fun h => ?_)
  · have h := of_decide_eq_true h
    have hl := bs_size out
    refine A_skip (T_n (A_block (A_seq (A_region ?_))));refine M0 (q_moveC rfl rfl rfl) rfl rfl ?_;refine M0 (q_rem rfl rfl rfl rfl (by omega)) rfl rfl ?_
    refine M0 (q_add rfl rfl rfl rfl (by omega)) rfl rfl ?_;refine M0 (q_convI rfl rfl rfl rfl (wrap_u8_in (by omega))) rfl rfl ?_;refine M1 (q_bslice rfl rfl rfl rfl rfl rfl) rfl rfl ?_
    refine M0 (q_bstrb rfl rfl rfl rfl rfl) rfl rfl ?_;refine M0 (q_moveC rfl rfl rfl) rfl rfl ?_
    refine M0 (q_cat rfl rfl rfl rfl (by simp only [bs_size,cat_size,List.length_cons,List.length_nil,List.length_append]; omega)) rfl rfl ?_
    refine M0 (q_assignC rfl rfl rfl) rfl rfl ?_;refine L_nil (T_n (A_region ?_));refine M0 (q_moveC rfl rfl rfl) rfl rfl ?_
    refine M0 (q_quo rfl rfl rfl rfl (by omega)) rfl rfl ?_;refine M0 (q_assignC rfl rfl rfl) rfl rfl ?_;refine L_nil (B_n (T_n ?_))
    obtain ⟨n,rfl⟩ : ∃ n',n = n' + 1 := ⟨n - 1,by have : n ≠ 0 := fun e => by { subst e; simp at a2; omega }; omega⟩
    rw [dig,if_pos h] at a4
    rw [Int.pow_succ] at a2
    refine ⟨(j / 10).toNat,(by omega),(fun (j : Int) (out : List UInt8) => (⟨_,[(0,I j),(3,S (bs out))],[]⟩ : St)) (j / 10) ([UInt8.ofNat (48 + j % 10).toNat] ++ out),W_go [] (by decide) rfl (rfl) (.cons rfl (.cons (S_eq (bs_app [_] _)) (.nil))),j / 10,[UInt8.ofNat (48 + j % 10).toNat] ++ out,rfl,⟨n,by omega,by omega,by omega,by simp only [List.length_append,List.length_cons,List.length_nil]; omega,a4⟩,rfl⟩
  · have h := of_decide_eq_false h
    have hl := bs_size out
    rw [dig_end h] at a4
    refine A_exit (T_x (T_x (B_xs (T_n (A_seq (A_region ?_))))));refine M0 (q_moveC rfl rfl rfl) rfl rfl ?_
    refine M0 (q_cat rfl rfl rfl rfl (by simp only [bs_size,cat_size,List.length_cons,List.length_nil,List.length_append]; omega)) rfl rfl ?_
    refine M0 (q_assignC rfl rfl rfl) rfl rfl ?_;refine L_nil (T_n (A_ret (F_r ?_)))
    exact E_tmp rfl rfl (W_end [] (by decide) rfl rfl (S_eq (by rw [← a4]; exact bs_app [_] _)))

/-- What is written into a slice of strings from k on, and whether it stands there. -/
def markS (xs : List ByteArray) (k : Int) : List ByteArray := (List.range xs.length).map fun (i : Nat) => mtext (k + i)
theorem markS_len (xs : List ByteArray) (k : Int) : (markS xs k).length = xs.length := by simp [markS]
theorem row2 {k : Nat} {a b : List (List T)} {g : Ob} (h : a = b) : [Ob.row k a,g] = [Ob.row k b,g] := by rw [h]
theorem els_set {α : Type} [Enc α] (xs : List α) (i : Nat) (x : α) : els (xs.set i x) = (els xs).set i (Enc.e x) := by simp [els,List.map_set]
theorem mark_next {xs : List ByteArray} {k : Int} {i : Nat} {e : List T} (h : i < xs.length) (he : e.length = 1 := by rfl) : els ((markS xs k).take (i + 1) ++ xs.drop (i + 1)) = (els ((markS xs k).take i ++ xs.drop i)).set i (splice e 0 [.v (.string (mtext (k + i)))]) := by
  have h1 : splice e 0 [T.v (.string (mtext (k + i)))] = Enc.e (mtext (k + i)) := by
    match e,he with
    | [t],_ => rfl
  have h2 : i < (markS xs k).length := by rw [markS_len]; exact h
  have h3 : (markS xs k)[i] = mtext (k + i) := by simp [markS]
  rw [h1,← els_set]
  congr 1
  rw [List.take_succ_eq_append_getElem h2,h3,List.set_append_right _ _ (by simp [markS_len]; omega)]
  have : i - ((markS xs k).take i).length = 0 := by simp [markS_len]; omega
  rw [this,List.drop_eq_getElem_cons h,List.set_cons_zero,List.append_assoc]
  rfl
set_option maxHeartbeats 8000000 in
theorem L_markStringS (xs : List ByteArray) (k : Int) (hL : xs.length ≤ 1048576) (h0 : 0 < k) (hk : k ≤ 4294967296) : Con Try.prog 48 [.row 1 (els xs),.gh 0 (.c (.ref 0))] [.c (.ref 0),ai k] [.row 1 (els (markS xs k)),.gh 0 (.c (.ref 0))] (I (k + xs.length)) := by
  have hlx := els_len xs
  refine Con.of Try.func48 rfl Try.ntmps48 rfl (fun E => ?_)
  refine A_seq (A_region ?_);refine M0 (q_assignC rfl rfl rfl) rfl rfl ?_;refine L_nil (T_n (A_seq (A_seq (A_region ?_))))
  refine M0 (q_assignC rfl rfl rfl) rfl rfl ?_;refine L_nil (T_n (A_block ?_))
  refine A_loop (fun m st => ∃ i : Nat,i + m = xs.length ∧ (True) ∧ st = (fun i : Nat => (⟨_,[(0,.o (.c (.ref 0))),(1,I (k + i)),(5,I i)],[.row 1 (els ((markS xs k).take i ++ xs.drop i)),.gh 0 (.c (.ref 0))]⟩ : St)) i) (xs.length) ⟨(fun i : Nat => (⟨_,[(0,.o (.c (.ref 0))),(1,I (k + i)),(5,I i)],[.row 1 (els ((markS xs k).take i ++ xs.drop i)),.gh 0 (.c (.ref 0))]⟩ : St)) 0,W_go [0,1] (by decide) rfl (rfl) (.cons rfl (.cons (I_eq (by omega)) (.cons rfl (.nil)))),0,by omega,trivial,rfl⟩ ?_
  rintro m_A _ ⟨i,hk_A,hp_A,rfl⟩
  have hl2 : (els ((markS xs k).take i ++ xs.drop i)).length = xs.length := by rw [els_len]; simp [markS_len]; omega
  refine A_seq (A_seq (A_region ?_));refine M0 (q_moveC rfl rfl rfl) rfl rfl ?_;refine M0 (q_moveC rfl rfl rfl) rfl rfl ?_;refine M0 (q_lenr rfl rfl rfl rfl) rfl rfl ?_
  refine M0 (q_lss rfl rfl rfl rfl) rfl rfl ?_;refine L_nil (T_n ?_)
  refine A_cond rfl (fun h => ?_) (fun h => ?_)
  · have h3 : i < xs.length := by have := of_decide_eq_true h; omega
    have hi : i < ((markS xs k).take i ++ xs.drop i).length := by simp [markS_len]; omega
    have hat := els_at hi
    refine A_skip (T_n (A_seq (A_block (A_seq (A_region ?_)))));refine M0 (q_moveC rfl rfl rfl) rfl rfl ?_;refine M0 (q_moveC rfl rfl rfl) rfl rfl ?_
    refine M0 (q_moveC rfl rfl rfl) rfl rfl ?_;refine M0 (q_call0 rfl rfl (L_markText (k + i) (by omega)) rfl) rfl rfl ?_
    refine M0 (q_ar rfl rfl rfl rfl rfl (by omega) (by omega)) rfl rfl ?_;refine M_ste1 rfl rfl rfl rfl rfl rfl rfl rfl rfl (by assumption) rfl rfl ?_;refine L_nil (T_n ?_)
    refine A_region ?_;refine M0 (q_moveC rfl rfl rfl) rfl rfl ?_;refine M0 (q_add rfl rfl rfl rfl (by omega)) rfl rfl ?_;refine M0 (q_assignC rfl rfl rfl) rfl rfl ?_;refine L_nil ?_
    refine B_n (T_n (A_region ?_));refine M0 (q_moveC rfl rfl rfl) rfl rfl ?_;refine M0 (q_add rfl rfl rfl rfl (by omega)) rfl rfl ?_
    refine M0 (q_assignC rfl rfl rfl) rfl rfl ?_;refine L_nil (T_n ?_)
    exact ⟨xs.length - (i + 1),by omega,(fun i : Nat => (⟨_,[(0,.o (.c (.ref 0))),(1,I (k + i)),(5,I i)],[.row 1 (els ((markS xs k).take i ++ xs.drop i)),.gh 0 (.c (.ref 0))]⟩ : St)) (i + 1),W_go [0,1] (by decide) rfl (row2 (mark_next h3)) (.cons rfl (.cons (I_eq (by omega)) (.cons rfl (.nil)))),i + 1,by omega,trivial,rfl⟩
  · have h3 : ¬ ((i : Int) < (els ((markS xs k).take i ++ xs.drop i)).length) := of_decide_eq_false h
    have hi : i = xs.length := by omega
    have hm : (markS xs k).take i ++ xs.drop i = markS xs k := by rw [List.take_of_length_le (by rw [markS_len]; omega),List.drop_of_length_le (by omega),List.append_nil]
    refine A_exit (T_x (T_x (B_xs (T_n (A_seq (A_region ?_))))));refine M0 (q_moveC rfl rfl rfl) rfl rfl ?_
    refine M0 (q_assignC rfl rfl rfl) rfl rfl ?_;refine L_nil (T_n (A_ret (F_r ?_)))
    exact E_tmp rfl rfl (W_end [0,1] (by decide) rfl (row2 (by rw [hm])) (I_eq (by omega)))
set_option maxHeartbeats 8000000 in
theorem L_heldStringS (xs : List ByteArray) (k : Int) (hL : xs.length ≤ 1048576) (h0 : 0 < k) (hk : k ≤ 4294967296) : Con Try.prog 87 [] [al (markS xs k),ai k] [] (I (k + xs.length)) := by
  have hlx := els_len (markS xs k)
  rw [markS_len] at hlx
  refine Con.of Try.func87 rfl Try.ntmps87 rfl (fun E => ?_)
  refine A_seq (A_region ?_);refine M0 (q_assignC rfl rfl rfl) rfl rfl ?_;refine L_nil (T_n (A_seq (A_seq (A_region ?_))))
  refine M0 (q_assignC rfl rfl rfl) rfl rfl ?_;refine L_nil (T_n (A_block ?_))
  refine A_loop (fun m st => ∃ i : Nat,i + m = xs.length ∧ (True) ∧ st = (fun i : Nat => (⟨_,[(0,L (markS xs k)),(1,I (k + i)),(5,I i)],[]⟩ : St)) i) (xs.length) ⟨(fun i : Nat => (⟨_,[(0,L (markS xs k)),(1,I (k + i)),(5,I i)],[]⟩ : St)) 0,W_go [] (by decide) rfl (rfl) (.cons rfl (.cons (I_eq (by omega)) (.cons rfl (.nil)))),0,by omega,trivial,rfl⟩ ?_
  rintro m_A _ ⟨i,hk_A,hp_A,rfl⟩
  refine A_seq (A_seq (A_region ?_));refine M0 (q_moveC rfl rfl rfl) rfl rfl ?_;refine M0 (q_moveC rfl rfl rfl) rfl rfl ?_;refine M0 (q_len rfl rfl rfl) rfl rfl ?_
  refine M0 (q_lss rfl rfl rfl rfl) rfl rfl ?_;refine L_nil (T_n ?_)
  refine A_cond rfl (fun h => ?_) (fun h => ?_)
  · have h3 : i < xs.length := by have := of_decide_eq_true h; omega
    have hi : i < (markS xs k).length := by rw [markS_len]; exact h3
    have hat := els_at hi
    have hx : (markS xs k)[i] = mtext (k + i) := by simp [markS]
    rw [hx] at hat
    have hne : decide (mtext (k + i) ≠ mtext (k + i)) = false := by simp
    refine A_skip (T_n (A_seq (A_block (A_seq (A_seq ?_)))))
    refine A_draw [[],[],[0,1],[0,1,2],[],[4],[0,1,2,3,4,5]] [[],[],[12,13],[12,13,14],[],[16],[12,13,14,15,16,17]] [[13,16,17],[12,16,17],[16,17],[16,17],[12,13,14,15],[12,13,14,15],[]] rfl ?_
    refine DR.step (q_moveC rfl rfl rfl) rfl rfl ?_;refine DR.step (q_moveC rfl rfl rfl) rfl rfl ?_;refine DR.step (q_at rfl rfl rfl rfl (by omega) (by assumption) rfl) rfl rfl ?_
    refine DR.step (q_lr1 rfl rfl rfl rfl) rfl rfl ?_;refine DR.step (q_moveC rfl rfl rfl) rfl rfl ?_;refine DR.step (q_call0 rfl rfl (L_markText (k + i) (by omega)) rfl) rfl rfl ?_
    refine DR.step (q_sneqK rfl rfl rfl rfl (by assumption)) rfl rfl ?_;refine DR.stop (by kernel_rfl) (by kernel_rfl) ?_
    refine L_nil (T_n ?_);refine A_ifF rfl ?_;refine A_skip (T_n (A_region ?_));refine M0 (q_moveC rfl rfl rfl) rfl rfl ?_
    refine M0 (q_add rfl rfl rfl rfl (by omega)) rfl rfl ?_;refine M0 (q_assignC rfl rfl rfl) rfl rfl ?_;refine L_nil (B_n (T_n (A_region ?_)))
    refine M0 (q_moveC rfl rfl rfl) rfl rfl ?_;refine M0 (q_add rfl rfl rfl rfl (by omega)) rfl rfl ?_;refine M0 (q_assignC rfl rfl rfl) rfl rfl ?_;refine L_nil (T_n ?_)
    exact ⟨xs.length - (i + 1),by omega,(fun i : Nat => (⟨_,[(0,L (markS xs k)),(1,I (k + i)),(5,I i)],[]⟩ : St)) (i + 1),W_go [] (by decide) rfl (rfl) (.cons rfl (.cons (I_eq (by omega)) (.cons rfl (.nil)))),i + 1,by omega,trivial,rfl⟩
  · have h3 : ¬ ((i : Int) < (els (markS xs k)).length) := of_decide_eq_false h
    refine A_exit (T_x (T_x (B_xs (T_n (A_seq (A_region ?_))))));refine M0 (q_moveC rfl rfl rfl) rfl rfl ?_
    refine M0 (q_assignC rfl rfl rfl) rfl rfl ?_;refine L_nil (T_n (A_ret (F_r ?_)))
    exact E_tmp rfl rfl (W_end [] (by decide) rfl rfl (I_eq (by omega)))
set_option maxHeartbeats 8000000 in
theorem L_markLevel (xs : List ByteArray) (k : Int) (hL : xs.length ≤ 1048576) (h0 : 0 < k) (hk : k ≤ 4294967296) : Con Try.prog 47 [.row 1 (els xs),.gh 0 (.ag [.ref 0])] [.ag [.ref 0],ai k] [.row 1 (els (markS xs k)),.gh 0 (.ag [.ref 0])] (I (k + xs.length)) := by
  refine Con.of Try.func47 rfl Try.ntmps47 rfl (fun E => ?_)
  refine A_seq (A_region ?_);refine M1 (q_boxN rfl rfl rfl rfl) rfl rfl ?_;refine M0 (q_assignC rfl rfl rfl) rfl rfl ?_;refine L_nil (T_n (A_seq ?_))
  refine A_region ?_;refine M0 (q_fldp rfl rfl rfl rfl (by decide)) rfl rfl ?_;refine M0 (q_ld1 rfl rfl rfl rfl rfl) rfl rfl ?_;refine M0 (q_moveC rfl rfl rfl) rfl rfl ?_
  refine M_lent (lo := [_]) (gs := [(0,.c (.ref 0))]) (lo' := [_]) (new := []) [0] [(0,0,.ref 0)] (L_markStringS xs k hL h0 hk) rfl rfl rfl rfl rfl rfl rfl rfl rfl rfl rfl rfl rfl rfl rfl rfl rfl ?_
  refine M0 (q_assignC rfl rfl rfl) rfl rfl ?_;refine L_nil (T_n (A_seq (A_region ?_)));refine M0 (q_moveC rfl rfl rfl) rfl rfl ?_
  refine M0 (q_assignC rfl rfl rfl) rfl rfl ?_;refine L_nil (T_n (A_ret (F_r ?_)))
  exact E_tmp rfl rfl (W_end [0,1] (by decide) rfl rfl rfl)
set_option maxHeartbeats 8000000 in
theorem L_heldLevel (xs : List ByteArray) (k : Int) (hL : xs.length ≤ 1048576) (h0 : 0 < k) (hk : k ≤ 4294967296) : Con Try.prog 51 [] [ag (⟨markS xs k⟩ : TLevel),ai k] [] (I (k + xs.length)) := by
  have hn : decide (k + (xs.length : Int) < 0) = false := decide_eq_false (by omega)
  refine Con.of Try.func51 rfl Try.ntmps51 rfl (fun E => ?_)
  refine A_seq (A_region ?_);refine M1 (q_boxN rfl rfl rfl rfl) rfl rfl ?_;refine M0 (q_assignC rfl rfl rfl) rfl rfl ?_;refine L_nil (T_n (A_seq ?_))
  refine A_region ?_;refine M0 (q_fldp rfl rfl rfl rfl (by decide)) rfl rfl ?_;refine M0 (q_ld1 rfl rfl rfl rfl rfl) rfl rfl ?_;refine M0 (q_moveC rfl rfl rfl) rfl rfl ?_
  refine M0 (q_call0 rfl rfl (L_heldStringS xs k hL h0 hk) rfl) rfl rfl ?_;refine M0 (q_assignC rfl rfl rfl) rfl rfl ?_;refine L_nil (T_n (A_seq (A_seq ?_)))
  refine A_region ?_;refine M0 (q_moveC rfl rfl rfl) rfl rfl ?_;refine M0 (q_lssK rfl rfl rfl rfl (by assumption)) rfl rfl ?_;refine L_nil (T_n ?_);refine A_ifF rfl ?_
  refine A_skip (T_n (A_seq (A_region ?_)));refine M0 (q_moveC rfl rfl rfl) rfl rfl ?_;refine M0 (q_assignC rfl rfl rfl) rfl rfl ?_;refine L_nil (T_n ?_)
  refine A_ret (F_r ?_)
  exact E_tmp rfl rfl (W_end [] (by decide) rfl rfl rfl)
end Go.Proofs.Ytmljakmaffbnlaa
end

section
set_option linter.unusedSimpArgs false
set_option linter.unusedVariables false
namespace Go.Proofs.Ytmljakmaffbnlaa
open Go.RowKit

theorem mk_next {α : Type} [Enc α] {ms xs : List α} (hl : ms.length = xs.length) {i : Nat} (h : i < xs.length) {c : T} {e : List T} (hc : Enc.e (ms[i]'(by omega)) = [c]) (he : e.length = 1 := by rfl) : els (ms.take (i + 1) ++ xs.drop (i + 1)) = (els (ms.take i ++ xs.drop i)).set i (splice e 0 [c]) := by
  have h1 : splice e 0 [c] = Enc.e (ms[i]'(by omega)) := by
    rw [hc]
    match e,he with
    | [t],_ => rfl
  have h2 : i < ms.length := by omega
  rw [h1,← els_set]
  congr 1
  have hi : (ms.take i).length = i := by simp; omega
  rw [List.take_succ_eq_append_getElem h2,List.set_append_right _ _ (by omega)]
  have : i - (ms.take i).length = 0 := by omega
  rw [this,List.drop_eq_getElem_cons h,List.set_cons_zero,List.append_assoc]
  rfl
theorem mk_at {α : Type} {ms xs : List α} (hl : ms.length = xs.length) {i : Nat} (h : i < xs.length) (h' : i < (ms.take i ++ xs.drop i).length := by simp; omega) : (ms.take i ++ xs.drop i)[i] = xs[i] := by
  have hi : (ms.take i).length = i := by simp; omega
  rw [List.getElem_append_right (by omega)]
  simp [hi]
theorem mk_len {α : Type} {ms xs : List α} (hl : ms.length = xs.length) {i : Nat} (h : i ≤ xs.length) : (ms.take i ++ xs.drop i).length = xs.length := by simp; omega
theorem mk_end {α : Type} {ms xs : List α} (hl : ms.length = xs.length) {i : Nat} (h : xs.length ≤ i) : ms.take i ++ xs.drop i = ms := by rw [List.take_of_length_le (by omega),List.drop_of_length_le h,List.append_nil]

def markI (xs : List Int) (k : Int) : List Int := (List.range xs.length).map fun (i : Nat) => k + i
theorem markI_len (xs : List Int) (k : Int) : (markI xs k).length = xs.length := by simp [markI]
theorem markI_at {xs : List Int} {k : Int} {i : Nat} (h : i < (markI xs k).length) : (markI xs k)[i] = k + i := by simp [markI]
set_option maxHeartbeats 8000000 in
theorem L_markIntS (xs : List Int) (k : Int) (hL : xs.length ≤ 1073741824) (h0 : 0 < k) (hk : k ≤ 4294967296) : Con Try.prog 49 [.row 1 (els xs),.gh 0 (.c (.ref 0))] [.c (.ref 0),ai k] [.row 1 (els (markI xs k)),.gh 0 (.c (.ref 0))] (I (k + xs.length)) := by
  have hml := markI_len xs k
  refine Con.of Try.func49 rfl Try.ntmps49 rfl (fun E => ?_)
  refine A_seq (A_region ?_);refine M0 (q_assignC rfl rfl rfl) rfl rfl ?_;refine L_nil (T_n (A_seq (A_seq (A_region ?_))))
  refine M0 (q_assignC rfl rfl rfl) rfl rfl ?_;refine L_nil (T_n (A_block ?_))
  refine A_loop (fun m st => ∃ i : Nat,i + m = xs.length ∧ (True) ∧ st = (fun i : Nat => (⟨_,[(0,.o (.c (.ref 0))),(1,I (k + i)),(5,I i)],[.row 1 (els ((markI xs k).take i ++ xs.drop i)),.gh 0 (.c (.ref 0))]⟩ : St)) i) (xs.length) ⟨(fun i : Nat => (⟨_,[(0,.o (.c (.ref 0))),(1,I (k + i)),(5,I i)],[.row 1 (els ((markI xs k).take i ++ xs.drop i)),.gh 0 (.c (.ref 0))]⟩ : St)) 0,W_go [0,1] (by decide) rfl (rfl) (.cons rfl (.cons (I_eq (by omega)) (.cons rfl (.nil)))),0,by omega,trivial,rfl⟩ ?_
  rintro m_A _ ⟨i,hk_A,hp_A,rfl⟩
  have hl2 : (els ((markI xs k).take i ++ xs.drop i)).length = xs.length := by rw [els_len,mk_len hml (by omega)]
  refine A_seq (A_seq (A_region ?_));refine M0 (q_moveC rfl rfl rfl) rfl rfl ?_;refine M0 (q_moveC rfl rfl rfl) rfl rfl ?_;refine M0 (q_lenr rfl rfl rfl rfl) rfl rfl ?_
  refine M0 (q_lss rfl rfl rfl rfl) rfl rfl ?_;refine L_nil (T_n ?_)
  refine A_cond rfl (fun h => ?_) (fun h => ?_)
  · have h3 : i < xs.length := by have := of_decide_eq_true h; omega
    have hi : i < ((markI xs k).take i ++ xs.drop i).length := by rw [mk_len hml (by omega)]; exact h3
    have hat := els_at hi
    refine A_skip (T_n (A_seq (A_block (A_seq (A_region ?_)))));refine M0 (q_moveC rfl rfl rfl) rfl rfl ?_;refine M0 (q_moveC rfl rfl rfl) rfl rfl ?_
    refine M0 (q_moveC rfl rfl rfl) rfl rfl ?_;refine M0 (q_ar rfl rfl rfl rfl rfl (by omega) (by omega)) rfl rfl ?_
    refine M_ste1 rfl rfl rfl rfl rfl rfl rfl rfl rfl (by assumption) rfl rfl ?_;refine L_nil (T_n (A_region ?_));refine M0 (q_moveC rfl rfl rfl) rfl rfl ?_
    refine M0 (q_add rfl rfl rfl rfl (by omega)) rfl rfl ?_;refine M0 (q_assignC rfl rfl rfl) rfl rfl ?_;refine L_nil (B_n (T_n (A_region ?_)))
    refine M0 (q_moveC rfl rfl rfl) rfl rfl ?_;refine M0 (q_add rfl rfl rfl rfl (by omega)) rfl rfl ?_;refine M0 (q_assignC rfl rfl rfl) rfl rfl ?_;refine L_nil (T_n ?_)
    exact ⟨xs.length - (i + 1),by omega,(fun i : Nat => (⟨_,[(0,.o (.c (.ref 0))),(1,I (k + i)),(5,I i)],[.row 1 (els ((markI xs k).take i ++ xs.drop i)),.gh 0 (.c (.ref 0))]⟩ : St)) (i + 1),W_go [0,1] (by decide) rfl (row2 (mk_next hml h3 (by rw [markI_at]; rfl))) (.cons rfl (.cons (I_eq (by omega)) (.cons rfl (.nil)))),i + 1,by omega,trivial,rfl⟩
  · have h3 : ¬ ((i : Int) < (els ((markI xs k).take i ++ xs.drop i)).length) := of_decide_eq_false h
    have hi : i = xs.length := by omega
    refine A_exit (T_x (T_x (B_xs (T_n (A_seq (A_region ?_))))));refine M0 (q_moveC rfl rfl rfl) rfl rfl ?_
    refine M0 (q_assignC rfl rfl rfl) rfl rfl ?_;refine L_nil (T_n (A_ret (F_r ?_)))
    exact E_tmp rfl rfl (W_end [0,1] (by decide) rfl (row2 (by rw [mk_end hml (by omega)])) (I_eq (by omega)))
set_option maxHeartbeats 8000000 in
theorem L_heldIntS (xs : List Int) (k : Int) (hL : xs.length ≤ 1073741824) (h0 : 0 < k) (hk : k ≤ 4294967296) : Con Try.prog 52 [] [al (markI xs k),ai k] [] (I (k + xs.length)) := by
  have hlx := els_len (markI xs k)
  rw [markI_len] at hlx
  refine Con.of Try.func52 rfl Try.ntmps52 rfl (fun E => ?_)
  refine A_seq (A_region ?_);refine M0 (q_assignC rfl rfl rfl) rfl rfl ?_;refine L_nil (T_n (A_seq (A_seq (A_region ?_))))
  refine M0 (q_assignC rfl rfl rfl) rfl rfl ?_;refine L_nil (T_n (A_block ?_))
  refine A_loop (fun m st => ∃ i : Nat,i + m = xs.length ∧ (True) ∧ st = (fun i : Nat => (⟨_,[(0,L (markI xs k)),(1,I (k + i)),(5,I i)],[]⟩ : St)) i) (xs.length) ⟨(fun i : Nat => (⟨_,[(0,L (markI xs k)),(1,I (k + i)),(5,I i)],[]⟩ : St)) 0,W_go [] (by decide) rfl (rfl) (.cons rfl (.cons (I_eq (by omega)) (.cons rfl (.nil)))),0,by omega,trivial,rfl⟩ ?_
  rintro m_A _ ⟨i,hk_A,hp_A,rfl⟩
  refine A_seq (A_seq (A_region ?_));refine M0 (q_moveC rfl rfl rfl) rfl rfl ?_;refine M0 (q_moveC rfl rfl rfl) rfl rfl ?_;refine M0 (q_len rfl rfl rfl) rfl rfl ?_
  refine M0 (q_lss rfl rfl rfl rfl) rfl rfl ?_;refine L_nil (T_n ?_)
  refine A_cond rfl (fun h => ?_) (fun h => ?_)
  · have h3 : i < xs.length := by have := of_decide_eq_true h; omega
    have hi : i < (markI xs k).length := by rw [markI_len]; exact h3
    have hat := els_at hi
    rw [markI_at] at hat
    refine A_skip (T_n (A_seq (A_block (A_seq (A_seq (A_region ?_))))));refine M0 (q_moveC rfl rfl rfl) rfl rfl ?_
    refine M0 (q_moveC rfl rfl rfl) rfl rfl ?_;refine M0 (q_at rfl rfl rfl rfl (by omega) (by assumption) rfl) rfl rfl ?_;refine M0 (q_lr1 rfl rfl rfl rfl) rfl rfl ?_
    refine M0 (q_moveC rfl rfl rfl) rfl rfl ?_;refine M0 (q_neqR rfl rfl rfl rfl) rfl rfl ?_;refine L_nil (T_n ?_);refine A_ifF rfl ?_;refine A_skip (T_n ?_)
    refine A_region ?_;refine M0 (q_moveC rfl rfl rfl) rfl rfl ?_;refine M0 (q_add rfl rfl rfl rfl (by omega)) rfl rfl ?_;refine M0 (q_assignC rfl rfl rfl) rfl rfl ?_;refine L_nil ?_
    refine B_n (T_n (A_region ?_));refine M0 (q_moveC rfl rfl rfl) rfl rfl ?_;refine M0 (q_add rfl rfl rfl rfl (by omega)) rfl rfl ?_
    refine M0 (q_assignC rfl rfl rfl) rfl rfl ?_;refine L_nil (T_n ?_)
    exact ⟨xs.length - (i + 1),by omega,(fun i : Nat => (⟨_,[(0,L (markI xs k)),(1,I (k + i)),(5,I i)],[]⟩ : St)) (i + 1),W_go [] (by decide) rfl (rfl) (.cons rfl (.cons (I_eq (by omega)) (.cons rfl (.nil)))),i + 1,by omega,trivial,rfl⟩
  · have h3 : ¬ ((i : Int) < (els (markI xs k)).length) := of_decide_eq_false h
    refine A_exit (T_x (T_x (B_xs (T_n (A_seq (A_region ?_))))));refine M0 (q_moveC rfl rfl rfl) rfl rfl ?_
    refine M0 (q_assignC rfl rfl rfl) rfl rfl ?_;refine L_nil (T_n (A_ret (F_r ?_)))
    exact E_tmp rfl rfl (W_end [] (by decide) rfl rfl (I_eq (by omega)))

def tot (xs : List (List Int)) : Nat := (xs.map List.length).sum
theorem tot_next {xs : List (List Int)} {i : Nat} (h : i < xs.length) : tot (xs.take (i + 1)) = tot (xs.take i) + xs[i].length := by
  unfold tot
  rw [List.take_succ_eq_append_getElem h,List.map_append,List.sum_append]
  simp
theorem tot_le (xs : List (List Int)) (i : Nat) : tot (xs.take i) ≤ tot xs := by
  unfold tot
  conv => rhs; rw [← List.take_append_drop i xs,List.map_append,List.sum_append]
  omega
theorem tot_at {xs : List (List Int)} {i : Nat} (h : i < xs.length) : tot (xs.take i) + xs[i].length ≤ tot xs := by rw [← tot_next h]; exact tot_le _ _
theorem tot_end {xs : List (List Int)} {i : Nat} (h : xs.length ≤ i) : tot (xs.take i) = tot xs := by rw [List.take_of_length_le h]
def markII (xs : List (List Int)) (k : Int) : List (List Int) := (List.range xs.length).map fun (i : Nat) => markI (xs.getD i []) (k + tot (xs.take i))
theorem markII_len (xs : List (List Int)) (k : Int) : (markII xs k).length = xs.length := by simp [markII]
theorem markII_at {xs : List (List Int)} {k : Int} {i : Nat} (h : i < xs.length) (h' : i < (markII xs k).length := by rw [markII_len]; assumption) : (markII xs k)[i] = markI xs[i] (k + tot (xs.take i)) := by simp [markII,List.getD_eq_getElem?_getD,h]
set_option maxHeartbeats 8000000 in
theorem L_markIntSS (xs : List (List Int)) (k : Int) (hL : xs.length ≤ 1073741824) (ht : tot xs ≤ 1073741824) (h0 : 0 < k) (hk : k ≤ 2147483648) : Con Try.prog 26 [.row 1 (els xs),.gh 0 (.c (.ref 0))] [.c (.ref 0),ai k] [.row 1 (els (markII xs k)),.gh 0 (.c (.ref 0))] (I (k + tot xs)) := by
  have hml := markII_len xs k
  refine Con.of Try.func26 rfl Try.ntmps26 rfl (fun E => ?_)
  refine A_seq (A_region ?_);refine M0 (q_assignC rfl rfl rfl) rfl rfl ?_;refine L_nil (T_n (A_seq (A_seq (A_region ?_))))
  refine M0 (q_assignC rfl rfl rfl) rfl rfl ?_;refine L_nil (T_n (A_block ?_))
  refine A_loop (fun m st => ∃ i : Nat,i + m = xs.length ∧ (True) ∧ st = (fun i : Nat => (⟨_,[(0,.o (.c (.ref 0))),(1,I (k + tot (xs.take i))),(5,I i)],[.row 1 (els ((markII xs k).take i ++ xs.drop i)),.gh 0 (.c (.ref 0))]⟩ : St)) i) (xs.length) ⟨(fun i : Nat => (⟨_,[(0,.o (.c (.ref 0))),(1,I (k + tot (xs.take i))),(5,I i)],[.row 1 (els ((markII xs k).take i ++ xs.drop i)),.gh 0 (.c (.ref 0))]⟩ : St)) 0,W_go [0,1] (by decide) rfl (rfl) (.cons rfl (.cons (I_eq (by simp [tot])) (.cons rfl (.nil)))),0,by omega,trivial,rfl⟩ ?_
  rintro m_A _ ⟨i,hk_A,hp_A,rfl⟩
  have hl2 : (els ((markII xs k).take i ++ xs.drop i)).length = xs.length := by rw [els_len,mk_len hml (by omega)]
  refine A_seq (A_seq (A_region ?_));refine M0 (q_moveC rfl rfl rfl) rfl rfl ?_;refine M0 (q_moveC rfl rfl rfl) rfl rfl ?_;refine M0 (q_lenr rfl rfl rfl rfl) rfl rfl ?_
  refine M0 (q_lss rfl rfl rfl rfl) rfl rfl ?_;refine L_nil (T_n ?_)
  refine A_cond rfl (fun h => ?_) (fun h => ?_)
  · have h3 : i < xs.length := by have := of_decide_eq_true h; omega
    have hi : i < ((markII xs k).take i ++ xs.drop i).length := by rw [mk_len hml (by omega)]; exact h3
    have hat := els_at hi
    rw [mk_at hml h3] at hat
    have ht1 := tot_at h3
    have hc := L_markIntS xs[i] (k + tot (xs.take i)) (by omega) (by omega) (by omega)
    refine A_skip (T_n (A_seq (A_block (A_region ?_))));refine M0 (q_moveC rfl rfl rfl) rfl rfl ?_;refine M0 (q_moveC rfl rfl rfl) rfl rfl ?_
    refine M0 (q_ar rfl rfl rfl rfl rfl (by omega) (by omega)) rfl rfl ?_;refine M0 (q_lee rfl rfl rfl rfl (by assumption) rfl) rfl rfl ?_;refine M0 (q_moveC rfl rfl rfl) rfl rfl ?_
    refine M_inner hc rfl rfl rfl rfl rfl rfl rfl rfl (by assumption) rfl ?_;refine M0 (q_assignC rfl rfl rfl) rfl rfl ?_;refine L_nil (B_n (T_n (A_region ?_)))
    refine M0 (q_moveC rfl rfl rfl) rfl rfl ?_;refine M0 (q_add rfl rfl rfl rfl (by omega)) rfl rfl ?_;refine M0 (q_assignC rfl rfl rfl) rfl rfl ?_;refine L_nil (T_n ?_)
    exact ⟨xs.length - (i + 1),by omega,(fun i : Nat => (⟨_,[(0,.o (.c (.ref 0))),(1,I (k + tot (xs.take i))),(5,I i)],[.row 1 (els ((markII xs k).take i ++ xs.drop i)),.gh 0 (.c (.ref 0))]⟩ : St)) (i + 1),W_go [0,1] (by decide) rfl (row2 (mk_next hml h3 (by rw [markII_at h3]; rfl))) (.cons rfl (.cons (I_eq (by rw [tot_next h3]; omega)) (.cons rfl (.nil)))),i + 1,by omega,trivial,rfl⟩
  · have h3 : ¬ ((i : Int) < (els ((markII xs k).take i ++ xs.drop i)).length) := of_decide_eq_false h
    have ht1 := tot_end (show xs.length ≤ i by omega)
    refine A_exit (T_x (T_x (B_xs (T_n (A_seq (A_region ?_))))));refine M0 (q_moveC rfl rfl rfl) rfl rfl ?_
    refine M0 (q_assignC rfl rfl rfl) rfl rfl ?_;refine L_nil (T_n (A_ret (F_r ?_)))
    exact E_tmp rfl rfl (W_end [0,1] (by decide) rfl (row2 (by rw [mk_end hml (by omega)])) (I_eq (by rw [ht1])))
set_option maxHeartbeats 8000000 in
theorem L_markReplay (x : TReplay) (k : Int) (h1 : x.Level.Rows.length ≤ 1048576) (h2 : x.Keys.length ≤ 1048576) (h3 : x.Rows.length ≤ 1048576) (h4 : tot x.Rows ≤ 1048576) (h0 : 0 < k) (hk : k ≤ 1073741823) : Con Try.prog 12 [.row 1 (els x.Level.Rows),.row 1 (els x.Rows),.row 1 (els x.Keys),.gh 0 (.ag (ownV 0 (Enc.e x)))] [.ag (ownV 0 (Enc.e x)),ai k]
    [.row 1 (els (markS x.Level.Rows k)),.row 1 (els (markII x.Rows (k + x.Level.Rows.length))),.row 1 (els (markS x.Keys (k + x.Level.Rows.length + tot x.Rows))),.gh 0 (.ag (ownV 0 (Enc.e x)))] (I (k + x.Level.Rows.length + tot x.Rows + x.Keys.length)) := by
  refine Con.of Try.func12 rfl Try.ntmps12 rfl (fun E => ?_)
  refine A_seq (A_region ?_);refine M1 (q_boxN rfl rfl rfl rfl) rfl rfl ?_;refine M0 (q_assignC rfl rfl rfl) rfl rfl ?_;refine L_nil (T_n (A_seq ?_))
  refine A_region ?_;refine M0 (q_fldp rfl rfl rfl rfl (by decide)) rfl rfl ?_;refine M0 (q_ldN rfl rfl rfl rfl rfl rfl) rfl rfl ?_;refine M0 (q_moveC rfl rfl rfl) rfl rfl ?_
  refine M_lent (lo := [_]) (gs := [(0,.ag [.ref 0])]) (lo' := [_]) (new := []) [0] [(0,0,.ref 0)] (L_markLevel x.Level.Rows k h1 h0 (by omega)) rfl rfl rfl rfl rfl rfl rfl rfl rfl rfl rfl rfl rfl rfl rfl rfl rfl ?_
  refine M0 (q_assignC rfl rfl rfl) rfl rfl ?_;refine L_nil (T_n (A_seq (A_region ?_)));refine M0 (q_fldp rfl rfl rfl rfl (by decide)) rfl rfl ?_
  refine M0 (q_ld1 rfl rfl rfl rfl rfl) rfl rfl ?_;refine M0 (q_moveC rfl rfl rfl) rfl rfl ?_
  refine M_lent (lo := [_]) (gs := [(0,.c (.ref 0))]) (lo' := [_]) (new := []) [1] [(0,0,.ref 0)] (L_markIntSS x.Rows (k + x.Level.Rows.length) (by omega) (by omega) (by omega) (by omega)) rfl rfl rfl rfl rfl rfl rfl rfl rfl rfl rfl rfl rfl rfl rfl rfl rfl ?_
  refine M0 (q_assignC rfl rfl rfl) rfl rfl ?_;refine L_nil (T_n (A_seq (A_region ?_)));refine M0 (q_fldp rfl rfl rfl rfl (by decide)) rfl rfl ?_
  refine M0 (q_ld1 rfl rfl rfl rfl rfl) rfl rfl ?_;refine M0 (q_moveC rfl rfl rfl) rfl rfl ?_
  refine M_lent (lo := [_]) (gs := [(0,.c (.ref 0))]) (lo' := [_]) (new := []) [2] [(0,0,.ref 0)] (L_markStringS x.Keys (k + x.Level.Rows.length + tot x.Rows) h2 (by omega) (by omega)) rfl rfl rfl rfl rfl rfl rfl rfl rfl rfl rfl rfl rfl rfl rfl rfl rfl ?_
  refine M0 (q_assignC rfl rfl rfl) rfl rfl ?_;refine L_nil (T_n (A_seq (A_region ?_)));refine M0 (q_moveC rfl rfl rfl) rfl rfl ?_
  refine M0 (q_assignC rfl rfl rfl) rfl rfl ?_;refine L_nil (T_n (A_ret (F_r ?_)))
  exact E_tmp rfl rfl (W_end [0,1,2,3] (by decide) rfl rfl rfl)
end Go.Proofs.Ytmljakmaffbnlaa
end

section
set_option linter.unusedSimpArgs false
set_option linter.unusedVariables false
set_option maxRecDepth 8000
namespace Go.Proofs.Ytmljakmaffbnlaa
open Go.RowKit

end Go.Proofs.Ytmljakmaffbnlaa
end

section
set_option linter.unusedSimpArgs false
set_option linter.unusedVariables false
namespace Go.Proofs.Ytmljakmaffbnlaa
open Go.RowKit

end Go.Proofs.Ytmljakmaffbnlaa
end

section
set_option linter.unusedSimpArgs false
set_option linter.unusedVariables false
namespace Go.Proofs.Ytmljakmaffbnlaa
open Go.RowKit

/-! ### Numbers -/
theorem bytesL_len {s : ByteArray} {q k : Nat} (h : q + k ≤ s.size) : (bytesL s q k).length = k := by
  have : s.data.toList.length = s.size := by simp
  simp [bytesL]; omega
theorem dvGo_canon (s : ByteArray) (q : Nat) : ∀ (f k : Nat) (m : Int) (j : Nat),q + k ≤ s.size → (∀ a ∈ bytesL s q k,128 ≤ a.toNat) → dvGo s q (dval (bytesL s q k) : Nat) k f = some (m,j) → encVar m = bytesL s q j := by
  intro f
  induction f with
  | zero => intro k m j _ _ h; simp [dvGo] at h
  | succ f ih =>
    intro k m j hqk hall h
    have hlen := bytesL_len hqk
    rw [dvGo] at h
    split at h
    · rename_i hlt
      obtain ⟨b,hb,hcb⟩ := bytesL_succ hlt
      have hval : (dval (bytesL s q k) : Int) + byteAt s (q + k) % 128 * 2 ^ (7 * k) = ((dval (bytesL s q (k + 1)) : Nat) : Int) := by
        rw [hb,dval_snoc,hlen,hcb]
        push_cast
        rfl
      rw [hval] at h
      split at h
      · rename_i h128
        refine ih (k + 1) m j (by omega) (fun a ha => ?_) h
        rw [hb] at ha
        rcases List.mem_append.1 ha with ha | ha
        · exact hall a ha
        · simp only [List.mem_singleton] at ha
          rw [ha]; omega
      · rename_i h128
        split at h
        · cases h
        · rename_i hbad
          simp only [Option.some.injEq,Prod.mk.injEq] at h
          obtain ⟨rfl,rfl⟩ := h
          have hcan := canon (b := b) (by omega) (bytesL s q k) hall
          have hnil : bytesL s q k = [] ↔ k = 0 := by rw [← List.length_eq_zero_iff,hlen]
          rw [← hb,hnil] at hcan
          rw [encVar,if_pos (by omega),show ((dval (bytesL s q (k + 1)) : Nat) : Int).toNat = dval (bytesL s q (k + 1)) by omega]
          exact hcan.2 (by omega)
    · cases h
theorem decVar_canon {s : ByteArray} {p m : Int} {j : Nat} (h : decVar s p = some (m,j)) : encVar m = bytesL s p.toNat j := by
  unfold decVar at h
  split at h
  · exact dvGo_canon s p.toNat 6 0 m j (by omega) (by simp [bytesL]) (by simpa [bytesL,dval] using h)
  · cases h
theorem signless_signed {u : Int} (h : 0 ≤ u ∧ u ≤ 1099511627775) : signless (signed u) = u := by
  unfold signed
  rw [if_pos h]
  split
  · rw [signless,if_pos (by omega),if_pos (by omega)]; omega
  · rw [signless,if_pos (by omega),if_neg (by omega)]; omega
/-! ### Lists -/
theorem bytesL_app {s : ByteArray} {q j k : Nat} : bytesL s q j ++ bytesL s (q + j) k = bytesL s q (j + k) := by
  unfold bytesL
  rw [← List.drop_drop,List.take_add]
def packB (l : List Int) : List UInt8 := l.flatMap fun x => encVar (signless x)
theorem uiGo_canon (s : ByteArray) (p : Nat) : ∀ (c pos : Nat) (l : List Int) (j : Nat),uiGo s p c pos = some (l,j) → pos ≤ j ∧ packB l = bytesL s (p + pos) (j - pos) ∧ ∀ x ∈ l,0 ≤ signless x := by
  intro c
  induction c with
  | zero =>
    intro pos l j h
    simp only [uiGo,Option.some.injEq,Prod.mk.injEq] at h
    obtain ⟨rfl,rfl⟩ := h
    exact ⟨Nat.le_refl _,by simp [packB,bytesL],fun x hx => by simp at hx⟩
  | succ c ih =>
    intro pos l j h
    rw [uiGo] at h
    split at h
    · cases h
    · rename_i v m hd
      obtain ⟨r,h1,h2⟩ := Option.map_eq_some_iff.1 h
      simp only [Prod.mk.injEq] at h2
      obtain ⟨rfl,rfl⟩ := h2
      have hm := decVar_some hd
      have hcn := decVar_canon hd
      obtain ⟨a1,a2,a3⟩ := ih (pos + m) r.1 r.2 h1
      have hsg := signless_signed (u := v) (by omega)
      refine ⟨by omega,?_,fun x hx => ?_⟩
      · rw [packB,List.flatMap_cons,hsg,hcn,show ((p : Int) + (pos : Int)).toNat = p + pos by omega]
        show bytesL s (p + pos) m ++ packB r.1 = _
        rw [a2,show p + (pos + m) = p + pos + m by omega,bytesL_app]
        congr 1
        omega
      · rcases List.mem_cons.1 hx with rfl | hx
        · rw [hsg]; omega
        · exact a3 x hx
theorem unpackInts_canon {s : ByteArray} {p : Int} {l : List Int} {j : Nat} (h : unpackInts s p = some (l,j)) : packInts l = bs (bytesL s p.toNat j) := by
  unfold unpackInts at h
  split at h
  · cases h
  · rename_i n k hd
    have hm := decVar_some hd
    have hcn := decVar_canon hd
    obtain ⟨a1,a2,a3⟩ := uiGo_canon s _ _ _ _ _ h
    obtain ⟨b1,b2,b3,b4⟩ := uiGo_some s _ _ _ _ _ h
    have hall : (l.all fun x => decide (0 ≤ signless x)) = true := List.all_eq_true.2 fun x hx => decide_eq_true (a3 x hx)
    rw [packInts,if_pos hall,packK,List.take_length,show (l.length : Int) = n by omega,hcn]
    show bs (bytesL s p.toNat k ++ packB l) = _
    rw [a2,bytesL_app]
    congr 2
    omega
/-! ### Texts -/
/-! ### Columns -/
/-! ### DecodeStream -/
theorem bytesL_all (s : ByteArray) (k : Nat) (h : k ≤ s.size) : bs (bytesL s 0 k) = s ↔ k = s.size := by
  constructor
  · intro e
    have := congrArg ByteArray.size e
    rw [bs_size,bytesL_len (by omega)] at this
    exact this
  · intro e
    subst e
    unfold bytesL
    rw [List.drop_zero,show s.size = s.data.toList.length by simp,List.take_length,bs_of]
end Go.Proofs.Ytmljakmaffbnlaa
end

section
set_option linter.unusedSimpArgs false
set_option linter.unusedVariables false
set_option maxRecDepth 8000
namespace Go.Proofs.Ytmljakmaffbnlaa
open Go.RowKit

def xorB (a : ByteArray) (i : Nat) (x : UInt8) : UInt8 := if i < a.size then UInt8.ofNat (x.toNat ^^^ (byteAt a i).toNat) else x
def xorL (a b : ByteArray) : List UInt8 := (List.range b.size).map fun i => xorB a i (b.data.toList.getD i 0)
def xorText (a b : ByteArray) : ByteArray := bs (xorL a b)
theorem xorL_len (a b : ByteArray) : (xorL a b).length = b.data.toList.length := by simp [xorL]
theorem xorL_at {a b : ByteArray} {i : Nat} (h : i < (xorL a b).length) (h' : i < b.data.toList.length) : (xorL a b)[i] = xorB a i b.data.toList[i] := by
  have h2 : b.data.toList.getD i 0 = b.data.toList[i] := by rw [List.getD_eq_getElem?_getD,List.getElem?_eq_getElem h']; rfl
  simp only [xorL,List.getElem_map,List.getElem_range,h2]
theorem mk_nextL {α : Type} {ms xs : List α} (hl : ms.length = xs.length) {i : Nat} (h : i < xs.length) : ms.take (i + 1) ++ xs.drop (i + 1) = (ms.take i ++ xs.drop i).set i (ms[i]'(by omega)) := by
  have h2 : i < ms.length := by omega
  have hi : (ms.take i).length = i := by simp; omega
  rw [List.take_succ_eq_append_getElem h2,List.set_append_right _ _ (by omega)]
  have : i - (ms.take i).length = 0 := by omega
  rw [this,List.drop_eq_getElem_cons h,List.set_cons_zero,List.append_assoc]
  rfl
theorem bE_set (l : List UInt8) (i : Nat) (x : UInt8) : bE (l.set i x) = (bE l).set i [.v (.int .u8 (x.toNat : Int))] := by simp [bE,List.map_set]
theorem bE_at {l : List UInt8} {i : Nat} (h : i < l.length) : (bE l)[(i : Int).toNat]? = some [.v (.int .u8 ((l[i]).toNat : Int))] := by
  rw [Int.toNat_natCast,bE,List.getElem?_map,List.getElem?_eq_getElem h]
  rfl
theorem xor_end {a b : ByteArray} {i : Nat} (hi : i ≤ b.data.toList.length) (h : b.data.toList.length ≤ i ∨ a.size ≤ i) : (xorL a b).take i ++ b.data.toList.drop i = xorL a b := by
  have hl := xorL_len a b
  have hml := mk_len hl hi
  apply List.ext_getElem?
  intro j
  by_cases hj : j < i
  · by_cases hjl : j < (xorL a b).length
    · rw [List.getElem?_append_left (by simp; omega),List.getElem?_take,if_pos hj]
    · rw [List.getElem?_eq_none (by omega),List.getElem?_eq_none (by omega)]
  · by_cases hjl : j < (xorL a b).length
    · have ha : a.size ≤ i := by omega
      have hti : ((xorL a b).take i).length = i := by simp; omega
      rw [List.getElem?_append_right (by omega),hti,List.getElem?_drop,show i + (j - i) = j by omega,List.getElem?_eq_getElem (by omega),List.getElem?_eq_getElem hjl,xorL_at hjl (by omega),xorB,if_neg (by omega)]
    · rw [List.getElem?_eq_none (by omega),List.getElem?_eq_none (by omega)]
set_option maxHeartbeats 8000000 in
theorem I_XorText (a b : ByteArray) (ha : a.size ≤ 1099511627776) (hb : b.size ≤ 1099511627776) : Con Try.prog 82 [] [astr a,astr b] [] (S (xorText a b)) := by
  have hl := xorL_len a b
  have hbl : b.data.toList.length = b.size := by simp
  refine Con.of Try.func82 rfl Try.ntmps82 rfl (fun E => ?_)
  refine A_seq (A_region ?_);refine M0 (q_assignC rfl rfl rfl) rfl rfl ?_;refine L_nil (T_n (A_seq (A_region ?_)));refine M0 (q_moveC rfl rfl rfl) rfl rfl ?_
  refine M1 (q_strb rfl rfl rfl (by omega)) rfl rfl ?_;refine M0 (q_assignC rfl rfl rfl) rfl rfl ?_;refine L_nil (T_n (A_seq (A_seq (A_region ?_))))
  refine M0 (q_assignC rfl rfl rfl) rfl rfl ?_;refine L_nil (T_n (A_block ?_))
  refine A_loop (fun m__ st => ∃ (i : Nat),b.size - i = m__ ∧ (i ≤ b.size ∧ i ≤ a.size) ∧ st = (fun (i : Nat) => (⟨_,[(0,S a),(5,.o (.c (.ref 0))),(6,I i)],[.row 1 (bE ((xorL a b).take i ++ b.data.toList.drop i))]⟩ : St)) (i)) ((fun (i : Nat) => b.size - i) (0)) ⟨(fun (i : Nat) => (⟨_,[(0,S a),(5,.o (.c (.ref 0))),(6,I i)],[.row 1 (bE ((xorL a b).take i ++ b.data.toList.drop i))]⟩ : St)) (0),W_go [0] (by decide) rfl (rfl) (.cons rfl (.cons rfl (.cons rfl (.nil)))),0,rfl,⟨Nat.zero_le _,Nat.zero_le _⟩,rfl⟩ ?_
  rintro m_A _ ⟨i,hk_A,hp_A,rfl⟩
  have hrow : (bE ((xorL a b).take i ++ b.data.toList.drop i)).length = b.size := by rw [bE_len,mk_len hl (by omega)]; exact hbl
  refine A_seq (A_seq (A_region ?_));refine M0 (q_moveC rfl rfl rfl) rfl rfl ?_;refine M0 (q_moveC rfl rfl rfl) rfl rfl ?_;refine M0 (q_lenr rfl rfl rfl rfl) rfl rfl ?_
  refine M0 (q_lss rfl rfl rfl rfl) rfl rfl ?_;refine M0 (q_moveC rfl rfl rfl) rfl rfl ?_;refine M0 (Qt.grdT rfl rfl rfl .stop (fun hgrd => q_moveC rfl rfl rfl)) rfl rfl ?_
  refine M0 (Qt.grdT rfl rfl rfl (.hit .stop) (fun hgrd => q_moveC rfl rfl rfl)) rfl rfl ?_
  refine M0 (Qt.grdT rfl rfl rfl (.hit (.hit .stop)) (fun hgrd => q_lens rfl rfl rfl)) rfl rfl ?_
  refine M0 (Qt.grdT rfl rfl rfl (.hit (.hit (.hit .stop))) (fun hgrd => q_lss rfl rfl rfl rfl)) rfl rfl ?_;refine M0 (q_and rfl rfl rfl rfl) rfl rfl ?_;refine L_nil (T_n ?_)
  refine A_cond rfl (fun h => ?_) (fun h => ?_)
  · simp only [Bool.and_eq_true,decide_eq_true_eq] at h
    have hib : i < b.data.toList.length := by omega
    have hil : i < ((xorL a b).take i ++ b.data.toList.drop i).length := by rw [mk_len hl (by omega)]; exact hib
    have hat := bE_at hil
    rw [mk_at hl hib] at hat
    obtain ⟨c,hc⟩ : ∃ c : UInt8,c = b.data.toList[i] := ⟨_,rfl⟩
    rw [← hc] at hat
    have hc2 := c.toNat_lt
    have hby := byteAt_lt a i
    have hy : (UInt8.ofNat (c.toNat ^^^ (byteAt a i).toNat)).toNat = c.toNat ^^^ (byteAt a i).toNat := by
      have : c.toNat ^^^ (byteAt a i).toNat < 2 ^ 8 := Nat.xor_lt_two_pow (by omega) (by omega)
      rw [UInt8.toNat_ofNat']
      exact Nat.mod_eq_of_lt this
    have hby2 : byteAt a (i : Int).toNat = byteAt a i := rfl
    have hend : bE ((xorL a b).take (i + 1) ++ b.data.toList.drop (i + 1)) = (bE ((xorL a b).take i ++ b.data.toList.drop i)).set (i : Int).toNat (splice [.v (.int .u8 (c.toNat : Int))] 0 [.v (.int .u8 (((c.toNat : Int).toNat ^^^ (byteAt a i).toNat : Nat) : Int))]) := by
      rw [mk_nextL hl hib,bE_set,xorL_at (by omega) hib,xorB,if_pos (by omega),← hc,hy]
      rfl
    refine A_skip (T_n (A_seq (A_block ?_)))
    refine A_draw [[],[],[0,1],[0,1,2],[],[],[4,5],[0,1,2,3,4,5,6],[0,1,2,3,4,5,6,7],[0,1,2,3,4,5,6,7,8]] [[],[],[21,22],[21,22,23],[],[],[25,26],[21,22,23,24,25,26,27],[21,22,23,24,25,26,27,28],[21,22,23,24,25,26,27,28,29]] [[22,25,26,27],[21,25,26,27],[25,26,27],[25,26,27],[21,22,23,24,26],[21,22,23,24,25],[21,22,23,24],[],[],[]] rfl ?_
    refine DR.step (q_moveC rfl rfl rfl) rfl rfl ?_;refine DR.step (q_moveC rfl rfl rfl) rfl rfl ?_;refine DR.step (q_ar rfl rfl rfl rfl rfl (by omega) (by omega)) rfl rfl ?_
    refine DR.step (q_le1 rfl rfl rfl rfl (by assumption) rfl) rfl rfl ?_;refine DR.step (q_moveC rfl rfl rfl) rfl rfl ?_;refine DR.step (q_moveC rfl rfl rfl) rfl rfl ?_
    refine DR.step (q_byteK rfl rfl rfl rfl (by assumption) (by omega)) rfl rfl ?_;refine DR.step (q_bxor8 rfl rfl rfl rfl (by omega)) rfl rfl ?_
    refine DR.step (q_ar rfl rfl rfl rfl rfl (by omega) (by omega)) rfl rfl ?_;refine DR.stop (by kernel_rfl) (by kernel_rfl) ?_
    refine M_ste1 rfl rfl rfl rfl rfl rfl rfl rfl rfl (by assumption) rfl rfl ?_;refine L_nil (B_n (T_n (A_region ?_)));refine M0 (q_moveC rfl rfl rfl) rfl rfl ?_
    refine M0 (q_add rfl rfl rfl rfl (by omega)) rfl rfl ?_;refine M0 (q_assignC rfl rfl rfl) rfl rfl ?_;refine L_nil (T_n ?_)
    refine ⟨b.size - (i + 1),(by omega),(fun (i : Nat) => (⟨_,[(0,S a),(5,.o (.c (.ref 0))),(6,I i)],[.row 1 (bE ((xorL a b).take i ++ b.data.toList.drop i))]⟩ : St)) (i + 1),W_go [0] (by decide) rfl (row_eq hend) (.cons rfl (.cons rfl (.cons rfl (.nil)))),i + 1,rfl,⟨by omega,by omega⟩,rfl⟩
  · simp only [Bool.and_eq_false_iff,decide_eq_false_iff_not] at h
    have hend := xor_end (a := a) (b := b) (i := i) (by omega) (by omega)
    rw [hend]
    refine A_exit (T_x (T_x (B_xs (T_n (A_seq (A_region ?_))))));refine M0 (q_moveC rfl rfl rfl) rfl rfl ?_
    refine M0 (q_bstr rfl rfl rfl rfl) rfl rfl ?_;refine M0 (q_assignC rfl rfl rfl) rfl rfl ?_;refine L_nil (T_n (A_ret (F_r ?_)))
    exact E_tmp rfl rfl (W_end [] (by decide) rfl rfl rfl)
set_option maxHeartbeats 8000000 in
theorem S_XorText (a b : ByteArray) (ha : a.size ≤ 1099511627776) (hb : b.size ≤ 1099511627776) : Con Try.prog 73 [] [astr a,astr b] [] (S (xorText a b)) := by
  have hl := xorL_len a b
  have hbl : b.data.toList.length = b.size := by simp
  refine Con.of Try.func73 rfl Try.ntmps73 rfl (fun E => ?_)
  refine A_seq (A_region ?_);refine M0 (q_assignC rfl rfl rfl) rfl rfl ?_;refine L_nil (T_n (A_seq (A_region ?_)));refine M0 (q_moveC rfl rfl rfl) rfl rfl ?_
  refine M1 (q_strb rfl rfl rfl (by omega)) rfl rfl ?_;refine M0 (q_assignC rfl rfl rfl) rfl rfl ?_;refine L_nil (T_n (A_seq (A_seq (A_region ?_))))
  refine M0 (q_assignC rfl rfl rfl) rfl rfl ?_;refine L_nil (T_n (A_block ?_))
  refine A_loop (fun m__ st => ∃ (i : Nat),b.size - i = m__ ∧ (i ≤ b.size ∧ i ≤ a.size) ∧ st = (fun (i : Nat) => (⟨_,[(0,S a),(5,.o (.c (.ref 0))),(6,I i)],[.row 1 (bE ((xorL a b).take i ++ b.data.toList.drop i))]⟩ : St)) (i)) ((fun (i : Nat) => b.size - i) (0)) ⟨(fun (i : Nat) => (⟨_,[(0,S a),(5,.o (.c (.ref 0))),(6,I i)],[.row 1 (bE ((xorL a b).take i ++ b.data.toList.drop i))]⟩ : St)) (0),W_go [0] (by decide) rfl (rfl) (.cons rfl (.cons rfl (.cons rfl (.nil)))),0,rfl,⟨Nat.zero_le _,Nat.zero_le _⟩,rfl⟩ ?_
  rintro m_A _ ⟨i,hk_A,hp_A,rfl⟩
  have hrow : (bE ((xorL a b).take i ++ b.data.toList.drop i)).length = b.size := by rw [bE_len,mk_len hl (by omega)]; exact hbl
  refine A_seq (A_seq (A_region ?_));refine M0 (q_moveC rfl rfl rfl) rfl rfl ?_;refine M0 (q_moveC rfl rfl rfl) rfl rfl ?_;refine M0 (q_lenr rfl rfl rfl rfl) rfl rfl ?_
  refine M0 (q_lss rfl rfl rfl rfl) rfl rfl ?_;refine M0 (q_moveC rfl rfl rfl) rfl rfl ?_;refine M0 (Qt.grdT rfl rfl rfl .stop (fun hgrd => q_moveC rfl rfl rfl)) rfl rfl ?_
  refine M0 (Qt.grdT rfl rfl rfl (.hit .stop) (fun hgrd => q_moveC rfl rfl rfl)) rfl rfl ?_
  refine M0 (Qt.grdT rfl rfl rfl (.hit (.hit .stop)) (fun hgrd => q_lens rfl rfl rfl)) rfl rfl ?_
  refine M0 (Qt.grdT rfl rfl rfl (.hit (.hit (.hit .stop))) (fun hgrd => q_lss rfl rfl rfl rfl)) rfl rfl ?_;refine M0 (q_and rfl rfl rfl rfl) rfl rfl ?_;refine L_nil (T_n ?_)
  refine A_cond rfl (fun h => ?_) (fun h => ?_)
  · simp only [Bool.and_eq_true,decide_eq_true_eq] at h
    have hib : i < b.data.toList.length := by omega
    have hil : i < ((xorL a b).take i ++ b.data.toList.drop i).length := by rw [mk_len hl (by omega)]; exact hib
    have hat := bE_at hil
    rw [mk_at hl hib] at hat
    obtain ⟨c,hc⟩ : ∃ c : UInt8,c = b.data.toList[i] := ⟨_,rfl⟩
    rw [← hc] at hat
    have hc2 := c.toNat_lt
    have hby := byteAt_lt a i
    have hy : (UInt8.ofNat (c.toNat ^^^ (byteAt a i).toNat)).toNat = c.toNat ^^^ (byteAt a i).toNat := by
      have : c.toNat ^^^ (byteAt a i).toNat < 2 ^ 8 := Nat.xor_lt_two_pow (by omega) (by omega)
      rw [UInt8.toNat_ofNat']
      exact Nat.mod_eq_of_lt this
    have hby2 : byteAt a (i : Int).toNat = byteAt a i := rfl
    have hend : bE ((xorL a b).take (i + 1) ++ b.data.toList.drop (i + 1)) = (bE ((xorL a b).take i ++ b.data.toList.drop i)).set (i : Int).toNat (splice [.v (.int .u8 (c.toNat : Int))] 0 [.v (.int .u8 (((c.toNat : Int).toNat ^^^ (byteAt a i).toNat : Nat) : Int))]) := by
      rw [mk_nextL hl hib,bE_set,xorL_at (by omega) hib,xorB,if_pos (by omega),← hc,hy]
      rfl
    refine A_skip (T_n (A_seq (A_block ?_)))
    refine A_draw [[],[],[],[],[2,3],[2,3,4],[],[],[6,7],[2,3,4,5,6,7,8],[0,1,2,3,4,5,6,7,8,9],[0,1,2,3,4,5,6,7,8,9,10]] [[],[],[],[],[23,24],[23,24,25],[],[],[27,28],[23,24,25,26,27,28,29],[21,22,23,24,25,26,27,28,29,30],[21,22,23,24,25,26,27,28,29,30,31]] [[22,23,24,25,26,27,28,29,30],[21,23,24,25,26,27,28,29,30],[21,22,24,27,28,29],[21,22,23,27,28,29],[21,22,27,28,29],[21,22,27,28,29],[21,22,23,24,25,26,28],[21,22,23,24,25,26,27],[21,22,23,24,25,26],[21,22],[],[]] rfl ?_
    refine DR.step (q_moveC rfl rfl rfl) rfl rfl ?_;refine DR.step (q_moveC rfl rfl rfl) rfl rfl ?_;refine DR.step (q_moveC rfl rfl rfl) rfl rfl ?_
    refine DR.step (q_moveC rfl rfl rfl) rfl rfl ?_;refine DR.step (q_ar rfl rfl rfl rfl rfl (by omega) (by omega)) rfl rfl ?_
    refine DR.step (q_le1 rfl rfl rfl rfl (by assumption) rfl) rfl rfl ?_;refine DR.step (q_moveC rfl rfl rfl) rfl rfl ?_;refine DR.step (q_moveC rfl rfl rfl) rfl rfl ?_
    refine DR.step (q_byteK rfl rfl rfl rfl (by assumption) (by omega)) rfl rfl ?_;refine DR.step (q_bxor8 rfl rfl rfl rfl (by omega)) rfl rfl ?_
    refine DR.step (q_ar rfl rfl rfl rfl rfl (by omega) (by omega)) rfl rfl ?_;refine DR.stop (by kernel_rfl) (by kernel_rfl) ?_
    refine M_ste1 rfl rfl rfl rfl rfl rfl rfl rfl rfl (by assumption) rfl rfl ?_;refine L_nil (B_n (T_n (A_region ?_)));refine M0 (q_moveC rfl rfl rfl) rfl rfl ?_
    refine M0 (q_add rfl rfl rfl rfl (by omega)) rfl rfl ?_;refine M0 (q_assignC rfl rfl rfl) rfl rfl ?_;refine L_nil (T_n ?_)
    refine ⟨b.size - (i + 1),(by omega),(fun (i : Nat) => (⟨_,[(0,S a),(5,.o (.c (.ref 0))),(6,I i)],[.row 1 (bE ((xorL a b).take i ++ b.data.toList.drop i))]⟩ : St)) (i + 1),W_go [0] (by decide) rfl (row_eq hend) (.cons rfl (.cons rfl (.cons rfl (.nil)))),i + 1,rfl,⟨by omega,by omega⟩,rfl⟩
  · simp only [Bool.and_eq_false_iff,decide_eq_false_iff_not] at h
    have hend := xor_end (a := a) (b := b) (i := i) (by omega) (by omega)
    rw [hend]
    refine A_exit (T_x (T_x (B_xs (T_n (A_seq (A_region ?_))))));refine M0 (q_moveC rfl rfl rfl) rfl rfl ?_
    refine M0 (q_bstr rfl rfl rfl rfl) rfl rfl ?_;refine M0 (q_assignC rfl rfl rfl) rfl rfl ?_;refine L_nil (T_n (A_ret (F_r ?_)))
    exact E_tmp rfl rfl (W_end [] (by decide) rfl rfl rfl)
end Go.Proofs.Ytmljakmaffbnlaa
end
