/-
  Plain Lean data as trees of cells: how the arguments' data read. No statement of the program is proved here.
  Conditions: none.
  What the laws' counting, copying and comparing functions return, over slices.
  Conditions: at most 2^20 of everything.
  The program's structs as Lean data. No statement of the program is proved here.
  Conditions: none.
  What is valid: numbers in a range, rows of inputs, levels, replays; in the program and in the reference.
  Conditions: none.
  Numbers as bytes: EncodeVarint, Signless, PackInts, PackText, Checksum, SealText, in the program and in the reference.
  Conditions: lists of at most 2^30 elements.
  Numbers read from bytes: DecodeVarint, Signed, UnpackInts, UnpackText, OpenText, in the program and in the reference.
  Conditions: texts of at most 2^40 bytes.
  Rules that the laws' walks use: comparing what is equal. No statement of the program is proved here.
  Conditions: none.
  Lists and texts read from bytes: Signed, UnpackInts, UnpackText, OpenText, in the program and in the reference.
  Conditions: texts of at most 2^40 bytes.
  Numbers, lists and texts read back from their bytes. No statement of the program is proved here.
  Conditions: none.
-/
import Derived.ProofKit
import Derived.Deep.Slices
import Derived.Test.YtmljakmaffbnlaaDDKeyRowk6
import Derived.Test.YtmljakmaffbnlaaDDKeyRowk7
section
set_option linter.unusedVariables false
set_option linter.unusedSimpArgs false
namespace Go.Proofs.Ytmljakmaffbnlaa
open Go.RowKit Go.ChangeShapes Go.WideShapes Go.Deep

/-- A number of 64 bits. -/
def I64 (x : Int) : Prop := -9223372036854775808 ≤ x ∧ x ≤ 9223372036854775807

/-- Data of one Go type: its cells; gd: it fits; wt: how much the laws' counting functions count. -/
class Enc (α : Type) where
  k : Nat
  pos : 0 < k
  e : α → List T
  len : ∀ x,(e x).length = k
  gd : α → Prop
  wt : α → Nat
instance : Enc Int := ⟨1,by omega,fun x => [.v (.int .i64 x)],fun _ => rfl,I64,fun _ => 0⟩
instance : Enc Bool := ⟨1,by omega,fun x => [.v (.bool x)],fun _ => rfl,fun _ => True,fun _ => 0⟩
instance : Enc ByteArray := ⟨1,by omega,fun x => [.v (.string x)],fun _ => rfl,fun x => x.size ≤ 9223372036854775807,fun x => x.size⟩
def wts {α : Type} [Enc α] : List α → Nat
  | [] => 0
  | x :: xs => Enc.wt x + wts xs
/-- The elements of a slice. -/
@[reducible] def els {α : Type} [Enc α] (xs : List α) : List (List T) := xs.map Enc.e
instance {α : Type} [Enc α] : Enc (List α) := ⟨1,by omega,fun xs => [.sl (Enc.k α) (els xs)],fun _ => rfl,fun xs => xs.length ≤ 9223372036854775807 ∧ ∀ x ∈ xs,Enc.gd x,fun xs => xs.length + wts xs⟩

/-- A slice ass one cell; ass an argument; its elements' cells. -/
@[reducible] def sl {α : Type} [Enc α] (xs : List α) : T := .sl (Enc.k α) (els xs)
@[reducible] def ai (n : Int) : V2 := .c (.rd [] (.v (.int .i64 n)))
@[reducible] def astr (s : ByteArray) : V2 := .c (.rd [] (.v (.string s)))
@[reducible] def al {α : Type} [Enc α] (xs : List α) : V2 := .c (.rd [] (sl xs))
/-- A struct ass an argument. -/
@[reducible] def ag {α : Type} [Enc α] (x : α) : V2 := .ag ((Enc.e x).map (V1.rd []))
/-- A slice in a slot. -/
@[reducible] def L {α : Type} [Enc α] (xs : List α) : V := .o (al xs)

/-- Data of plain cells. -/
class PlainE (α : Type) [Enc α] : Prop where
  plain : ∀ (x : α) (t : T),t ∈ Enc.e x → ∃ u,t = .v u
instance : PlainE Int := ⟨fun x t h => by simp [Enc.e] at h; exact ⟨_,h⟩⟩
instance : PlainE Bool := ⟨fun x t h => by simp [Enc.e] at h; exact ⟨_,h⟩⟩
instance : PlainE ByteArray := ⟨fun x t h => by simp [Enc.e] at h; exact ⟨_,h⟩⟩
theorem els_plain {α : Type} [Enc α] [PlainE α] (xs : List α) : plainT (els xs) := fun e he t ht => by
  obtain ⟨x,_,rfl⟩ := List.mem_map.1 he
  exact PlainE.plain x t ht
theorem els_k {α : Type} [Enc α] (xs : List α) : ∀ e ∈ els xs,e.length = Enc.k α := fun e he => by
  obtain ⟨x,_,rfl⟩ := List.mem_map.1 he
  exact Enc.len x
/-- Bytes ass a string. -/
@[reducible] def bs (l : List UInt8) : ByteArray := ⟨l.toArray⟩
theorem bs_app (a b : List UInt8) : bs a ++ bs b = bs (a ++ b) := by
  apply ByteArray.ext
  rw [ByteArray.data_append]
  simp [bs]
theorem bs_size (l : List UInt8) : (bs l).size = l.length := by simp [bs,ByteArray.size]
theorem cat_size (a b : ByteArray) : (a ++ b).size = a.size + b.size := by simp [ByteArray.size_append]
theorem bs_list (l : List UInt8) : (bs l).data.toList = l := by simp [bs]
theorem bs_of (s : ByteArray) : bs s.data.toList = s := by simp [bs]
theorem bs_inj {a b : List UInt8} : bs a = bs b ↔ a = b := ⟨fun h => by have := congrArg (·.data.toList) h; simpa [bs_list] using this,fun h => by rw [h]⟩
theorem S_eq {a b : ByteArray} (h : a = b) : S a = S b := by rw [h]
theorem bE_app (a b : List UInt8) : bE a ++ bE b = bE (a ++ b) := by simp [bE]
theorem bE_snoc (a : List UInt8) (n : Int) (h : 0 ≤ n ∧ n ≤ 255) : bE a ++ [[.v (.int .u8 n)]] = bE (a ++ [UInt8.ofNat n.toNat]) := by
  have h1 : ((UInt8.ofNat n.toNat).toNat : Int) = n := by
    rw [UInt8.toNat_ofNat']
    omega
  unfold bE
  rw [List.map_append,List.map_cons,List.map_nil,h1]

theorem els_at {α : Type} [Enc α] {xs : List α} {k : Nat} (h : k < xs.length) : (els xs)[(k : Int).toNat]? = some (Enc.e xs[k]) := by simp [els,h]
theorem els_len {α : Type} [Enc α] (xs : List α) : (els xs).length = xs.length := by simp [els]
theorem wts_take {α : Type} [Enc α] : ∀ (xs : List α) (k : Nat) (h : k < xs.length),wts (xs.take (k + 1)) = wts (xs.take k) + Enc.wt xs[k]
  | x :: xs,0,_ => by simp [wts]
  | x :: xs,k + 1,h => by
    have := wts_take xs k (by simpa using h)
    simp only [List.take_succ_cons,wts,List.getElem_cons_succ,this]
    omega
theorem wts_le {α : Type} [Enc α] : ∀ (xs : List α) (x : α),x ∈ xs → Enc.wt x ≤ wts xs
  | y :: xs,x,h => by
    simp only [wts]
    rcases List.mem_cons.1 h with rfl | h
    · omega
    · have := wts_le xs x h; omega
theorem wts_take_le {α : Type} [Enc α] : ∀ (xs : List α) (k : Nat),wts (xs.take k) ≤ wts xs
  | [],k => by simp [wts]
  | x :: xs,0 => by simp [wts]
  | x :: xs,k + 1 => by
    have := wts_take_le xs k
    simp only [List.take_succ_cons,wts]
    omega

/-! ### Readings -/
theorem list_of_each {α : Type} {p : Nat → α → Prop} : ∀ n : Nat,(∀ i,i < n → ∃ y,p i y) → ∃ ys : List α,ys.length = n ∧ ∀ (i : Nat) (y : α),ys[i]? = some y → p i y
  | 0,_ => ⟨[],rfl,fun _ _ h => by simp at h⟩
  | n + 1,h => by
    obtain ⟨ys,h1,h2⟩ := list_of_each n fun i hi => h i (by omega)
    obtain ⟨y,hy⟩ := h n (by omega)
    refine ⟨ys ++ [y],by simp [h1],fun i z hz => ?_⟩
    rcases Nat.lt_or_ge i ys.length with hi | hi
    · rw [List.getElem?_append_left hi] at hz
      exact h2 i z hz
    · rw [List.getElem?_append_right hi] at hz
      have hi0 : i - ys.length = 0 := by
        rcases Nat.eq_zero_or_pos (i - ys.length) with h0 | h0
        · exact h0
        · rw [List.getElem?_eq_none (by simp; omega)] at hz
          cases hz
      rw [hi0] at hz
      simp only [List.getElem?_cons_zero,Option.some.injEq] at hz
      subst hz
      have : i = n := by omega
      subst this
      exact hy

/-- The cells cs read ass x. -/
def Reads {α : Type} [Enc α] (w : World) (x : α) (cs : List Value) : Prop := cs.length = Enc.k α ∧ ∀ (j : Nat) (t : T) (u : Value),(Enc.e x)[j]? = some t → cs[j]? = some u → RO w (fun _ => True) t u

/-- A Go type's readings are a Lean type's. -/
class RdOf (P : Program) (t : TypeId) (α : outParam Type) [Enc α] : Prop where
  size : P.cellsOf t = Enc.k α
  of : ∀ {H : Type} {enc : TypeId × Value → H} {w : World} {spare : Nat → Bool} {held : Bool} {fuel : Nat} {cs : List Value} {x : DataW H × List MemPlace},
    DataW.trod enc P w 0 spare held fuel t cs = some x → ∃ y : α,Enc.gd y ∧ Reads w y cs

theorem i64_of_wf {n : Int} (h : (Lit.int .i64 n).wf = true) : I64 n := by
  simp [Lit.wf,IntKind.min,IntKind.max,IntKind.signed,IntKind.bits] at h
  exact ⟨by omega,by omega⟩
theorem reads_one {α : Type} [Enc α] {w : World} {x : α} {t : T} {u : Value} (he : Enc.e x = [t]) (h : RO w (fun _ => True) t u) : Reads w x [u] := by
  refine ⟨by rw [← Enc.len x,he]; rfl,fun j t' u' h1 h2 => ?_⟩
  rw [he] at h1
  cases j with
  | zero => simp at h1 h2; subst h1 h2; exact h
  | succ j => simp at h1
theorem rdOf_int {P : Program} {t : TypeId} (ht : P.underlying t = some (.int .i64)) (hs : P.cellsOf t = 1) : RdOf P t Int where
  size := hs
  of h := by
    obtain ⟨n,rfl,_,h3⟩ := DataW.trod_int ht h
    exact ⟨n,i64_of_wf h3,reads_one rfl (.v _ rfl)⟩
theorem rdOf_string {P : Program} {t : TypeId} (ht : P.underlying t = some .string) (hs : P.cellsOf t = 1) : RdOf P t ByteArray where
  size := hs
  of h := by
    obtain ⟨s,rfl,_,h3⟩ := DataW.trod_string ht h
    exact ⟨s,by simpa [maxLen,Enc.gd] using h3,reads_one rfl (.v _ rfl)⟩
theorem rdOf_slice {P : Program} {t e : TypeId} {α : Type} [Enc α] [hα : RdOf P e α] (ht : P.underlying t = some (.slice e)) (hs : P.cellsOf t = 1) : RdOf P t (List α) where
  size := hs
  of {H enc w spare held fuel cs x} h := by
    rcases open_slice ht h with ⟨rfl,_⟩ | ⟨a,len,cap,m,n,D,Pl,rfl,_,hl,hm,hmm,_,hi⟩
    · exact ⟨[],⟨by simp,by simp⟩,reads_one rfl (.nil _ _ _ (by simp [maxLen]))⟩
    · have hlm : len ≤ m := by rw [hmm]; split <;> omega
      obtain ⟨ys,h1,h2⟩ := list_of_each (p := fun i y => ∃ es,w.cells? 0 (a.add (i * P.cellsOf e)) (P.cellsOf e) = some es ∧ Enc.gd (α := α) y ∧ Reads w y es) len fun i hi' => by
        obtain ⟨es,h3,h4⟩ := hi i (by omega)
        obtain ⟨y,hy⟩ := hα.of h4
        exact ⟨y,es,h3,hy⟩
      subst h1
      refine ⟨ys,⟨by simp [maxLen] at hm; omega,fun y hy => ?_⟩,?_⟩
      · obtain ⟨i,hi'⟩ := List.getElem?_of_mem hy
        obtain ⟨es,_,hg,_⟩ := h2 i y hi'
        exact hg
      refine reads_one rfl ?_
      rcases Nat.eq_zero_or_pos ys.length with h0 | h0
      · have := List.eq_nil_of_length_eq_zero h0
        subst this
        exact .nil _ _ _ hm
      · have hsp : a.spot = none := by
          obtain ⟨es,h3,_⟩ := h2 0 _ (List.getElem?_eq_getElem h0)
          obtain ⟨_,hcl,hat⟩ := World.cells?_some h3
          have hp : 0 < P.cellsOf e := by rw [hα.size]; exact Enc.pos
          have := hat 0 hp
          rw [List.getElem?_eq_getElem (by omega)] at this
          have h5 := World.cell?_spot this
          simpa [Addr.add] using h5
        obtain ⟨b,o,sp⟩ := a
        simp only at hsp
        subst hsp
        have hel : ∀ i,i < ys.length → ∃ es,w.cells? 0 ((⟨b,o,none⟩ : Addr).add (i * P.cellsOf e)) (P.cellsOf e) = some es := fun i hi' => by
          obtain ⟨es,h3,_⟩ := h2 i _ (List.getElem?_eq_getElem hi')
          exact ⟨es,h3⟩
        have hlen : ys.length = (els ys).length := (els_len ys).symm
        rw [hlen]
        refine .sl (els ys) b o (Enc.k α) cap (fun i j => ((w.cells? 0 ((⟨b,o,none⟩ : Addr).add (i * P.cellsOf e)) (P.cellsOf e)).getD []).getD j undef) trivial (by rw [els_len]; exact hl) hm Enc.pos (fun e' he => ?_) (fun i j hi' hj => ?_) fun i j e' t' h3 h4 => ?_
        · obtain ⟨y,_,rfl⟩ := List.mem_map.1 he
          exact Enc.len y
        · rw [els_len] at hi'
          obtain ⟨es,h3⟩ := hel i hi'
          obtain ⟨_,hcl,hat⟩ := World.cells?_some h3
          rw [hα.size] at hcl
          have h5 := hat j (by rw [hα.size]; exact hj)
          rw [add_lit,add_lit,hα.size,List.getElem?_eq_getElem (by omega)] at h5
          rw [h3]
          simp only [Option.getD_some]
          rw [h5,List.getD_eq_getElem?_getD,List.getElem?_eq_getElem (by omega)]
          rfl
        · rw [List.getElem?_map] at h3
          obtain ⟨y,hy,rfl⟩ := Option.map_eq_some_iff.1 h3
          obtain ⟨es,h5,_,h6⟩ := h2 i y hy
          have hj : j < es.length := by rw [h6.1,← Enc.len y]; exact getE_lt h4
          show RO w _ t' (((w.cells? 0 ((⟨b,o,none⟩ : Addr).add (i * P.cellsOf e)) (P.cellsOf e)).getD []).getD j undef)
          rw [h5]
          simp only [Option.getD_some]
          rw [getD_of (List.getElem?_eq_getElem hj)]
          exact h6.2 j t' _ h4 (List.getElem?_eq_getElem hj)

theorem reads_of_Trod {P : Program} {t : TypeId} {α : Type} [Enc α] [hα : RdOf P t α] {H : Type} {enc : TypeId × Value → H} {w : World} {spare : Nat → Bool} {held : Bool} {v : Value} {d : DataW H} {p : List MemPlace}
    (h : DataW.Trod enc P w 0 spare held t v d p) : ∃ y : α,Enc.gd y ∧ Reads w y v.cells.toList := by
  obtain ⟨fuel,hf⟩ := h
  exact hα.of hf

theorem r2_agg {α : Type} [Enc α] {w : World} {H : Hs} {x : α} {cs : List Value} (h : Reads w x cs) : R2 w H (fun b => b < w.heap.size) (ag x) (.agg cs.toArray) := by
  refine ⟨cs,rfl,by simp [h.1,Enc.len],fun i c u h1 h2 => ?_⟩
  rw [List.getElem?_map] at h1
  obtain ⟨t,h3,rfl⟩ := Option.map_eq_some_iff.1 h1
  exact RO.weak (h.2 i t u h3 h2) fun b _ hb => .inl hb
theorem r2_int {w : World} {H : Hs} {F : Nat → Prop} (n : Int) : R2 w H F (ai n) (.int .i64 n) := RO.v _ rfl
/-- A law's call. -/
theorem law_calls {P : Program} {f : FuncId} {args : List V2} (hc : Con P f [] args [] (B true)) (w : World) (vs : List Value) (hl : vs.length = args.length) (hr : ∀ (i : Nat) (x : V2) (v : Value),args[i]? = some x → vs[i]? = some v → R2 w (fun _ => .nil) (fun b => b < w.heap.size) x v) :
    Calls P f vs.toArray w fun e w' => e = .returned (.bool true) ∧ Below w.heap.size w w' := by
  refine (hc w (fun _ => .nil) (fun b => b < w.heap.size) vs ⟨fun _ => trivial,fun _ => by simp [Pc.fp],fun p q b h => by simp [Pc.fp] at h,fun p b h => by simp [Pc.fp] at h,fun _ h => h⟩ (fun p => by simp [RB]) hl hr).mono ?_
  rintro e w' ⟨H',F',rv,rfl,hs,_,_,hv⟩
  refine ⟨by rw [(RO.plain (show RO w' _ (.v (.bool true)) rv from hv)).1],hs.os,hs.tape,hs.output,hs.size,fun b hb => hs.keep b hb fun p => by simp [Pc.fp]⟩

end Go.Proofs.Ytmljakmaffbnlaa
end

section
set_option linter.unusedSimpArgs false
set_option linter.unusedVariables false
namespace Go.Proofs.Ytmljakmaffbnlaa
open Go.RowKit

theorem I_eq {a b : Int} (h : a = b) : I a = I b := by rw [h]
theorem B_eq {a b : Bool} (h : a = b) : B a = B b := by rw [h]
def szr (n : Nat) (left : Int) : Int := if left < n then -1 else left - n
theorem szr_neg {n : Nat} {left : Int} (h : left < n) : szr n left = -1 := if_pos h
theorem szr_pos {n : Nat} {left : Int} (h : (n : Int) ≤ left) : szr n left = left - n := if_neg (by omega)
theorem wts_int : ∀ xs : List Int,wts xs = 0
  | [] => rfl
  | x :: xs => by simp [wts,wts_int xs,Enc.wt]
theorem eq_ne {α : Type} [DecidableEq α] {xs ys : List α} {j : Nat} (h1 : j < xs.length) (h2 : j < ys.length) (h : ¬ xs[j] = ys[j]) : decide (xs = ys) = false := by
  rw [decide_eq_false_iff_not]
  intro e
  subst e
  exact h rfl
theorem eq_all {α : Type} [DecidableEq α] {xs ys : List α} {j : Nat} (h1 : xs.length ≤ j) (h2 : xs.length = ys.length) (h : xs.take j = ys.take j) : decide (xs = ys) = true := by
  rw [List.take_of_length_le h1,List.take_of_length_le (by omega)] at h
  simp [h]
theorem eq_len {α : Type} [DecidableEq α] {xs ys : List α} (h : xs.length ≠ ys.length) : decide (xs = ys) = false := by
  rw [decide_eq_false_iff_not]
  intro e
  subst e
  exact h rfl
theorem eq_next {α : Type} {xs ys : List α} {j : Nat} (h1 : j < xs.length) (h2 : j < ys.length) (h : xs.take j = ys.take j) (e : xs[j] = ys[j]) : xs.take (j + 1) = ys.take (j + 1) := by
  rw [List.take_succ_eq_append_getElem h1,List.take_succ_eq_append_getElem h2,h,e]

/-! ### Counting -/
set_option maxHeartbeats 8000000 in
theorem sz_IntS (xs : List Int) (left : Int) (hg : Enc.gd xs) (h0 : 0 ≤ left) (h1 : left ≤ 1048576) : Con Try.prog 57 [] [al xs,ai left] [] (I (szr (Enc.wt xs) left)) := by
  have hlen := els_len xs
  have hx := hg.1
  have hw : Enc.wt xs = xs.length := by simp [Enc.wt,wts_int]
  refine Con.of Try.func57 rfl Try.ntmps57 rfl (fun E => ?_)
  refine A_seq (A_region ?_);refine M0 (q_assignC rfl rfl rfl) rfl rfl ?_;refine L_nil (T_n (A_seq (A_region ?_)));refine M0 (q_moveC rfl rfl rfl) rfl rfl ?_
  refine M0 (q_moveC rfl rfl rfl) rfl rfl ?_;refine M0 (q_len rfl rfl rfl) rfl rfl ?_;refine M0 (q_sub rfl rfl rfl rfl (by omega)) rfl rfl ?_
  refine M0 (q_assignC rfl rfl rfl) rfl rfl ?_;refine L_nil (T_n (A_seq (A_seq (A_region ?_))));refine M0 (q_moveC rfl rfl rfl) rfl rfl ?_
  refine M0 (q_lss rfl rfl rfl rfl) rfl rfl ?_;refine L_nil (T_n ?_)
  refine A_cond rfl (fun h => ?_) (fun h => ?_)
  · refine A_seq (A_region ?_);refine M0 (q_assignC rfl rfl rfl) rfl rfl ?_;refine L_nil (T_n (A_ret (T_r (F_r ?_))))
    have h2 := of_decide_eq_true (p := _) (by simpa using h)
    exact E_tmp rfl rfl (W_end [] (by decide) rfl rfl (I_eq (by rw [szr_neg (by omega)])))
  · refine A_skip (T_n (A_seq (A_region ?_)));refine M0 (q_moveC rfl rfl rfl) rfl rfl ?_;refine M0 (q_assignC rfl rfl rfl) rfl rfl ?_;refine L_nil (T_n ?_)
    refine A_ret (F_r ?_)
    have h2 := of_decide_eq_false h
    exact E_tmp rfl rfl (W_end [] (by decide) rfl rfl (I_eq (by rw [szr_pos (by omega)]; omega)))
set_option maxHeartbeats 1000000 in
theorem sz_StringS (xs : List ByteArray) (left : Int) (hg : Enc.gd xs) (h0 : 0 ≤ left) (h1 : left ≤ 1048576) : Con Try.prog 29 [] [al xs,ai left] [] (I (szr (Enc.wt xs) left)) := by
  have hlen := els_len xs
  have hx := hg.1
  have hw : Enc.wt xs = xs.length + wts xs := rfl
  refine Con.of Try.func29 rfl Try.ntmps29 rfl (fun E => ?_)
  refine A_seq (A_region ?_);refine M0 (q_assignC rfl rfl rfl) rfl rfl ?_;refine L_nil (T_n (A_seq (A_region ?_)));refine M0 (q_moveC rfl rfl rfl) rfl rfl ?_
  refine M0 (q_moveC rfl rfl rfl) rfl rfl ?_;refine M0 (q_len rfl rfl rfl) rfl rfl ?_;refine M0 (q_sub rfl rfl rfl rfl (by omega)) rfl rfl ?_
  refine M0 (q_assignC rfl rfl rfl) rfl rfl ?_;refine L_nil (T_n (A_seq (A_seq (A_region ?_))));refine M0 (q_moveC rfl rfl rfl) rfl rfl ?_
  refine M0 (q_lss rfl rfl rfl rfl) rfl rfl ?_;refine L_nil (T_n ?_)
  refine A_cond rfl (fun h => ?_) (fun h => ?_)
  · refine A_seq (A_region ?_);refine M0 (q_assignC rfl rfl rfl) rfl rfl ?_;refine L_nil (T_n (A_ret (T_r (F_r ?_))))
    have h2 := of_decide_eq_true h
    exact E_tmp rfl rfl (W_end [] (by decide) rfl rfl (I_eq (by rw [szr_neg (by omega)])))
  have h2 : ¬ (left - ((els xs).length : Int) < 0) := of_decide_eq_false h
  refine A_skip (T_n (A_seq (A_seq (A_region ?_))));refine M0 (q_assignC rfl rfl rfl) rfl rfl ?_;refine L_nil (T_n (A_block ?_))
  refine A_loop (fun m st => ∃ k : Nat,k + m = xs.length ∧ (((xs.length : Int) + wts (xs.take k) ≤ left)) ∧ st = (fun k : Nat => (⟨_,[(0,L xs),(1,I (left - (xs.length + wts (xs.take k)))),(5,I k)],[]⟩ : St)) k) (xs.length) ⟨(fun k : Nat => (⟨_,[(0,L xs),(1,I (left - (xs.length + wts (xs.take k)))),(5,I k)],[]⟩ : St)) 0,W_go [] (by decide) rfl (rfl) (.cons rfl (.cons (I_eq (by simp [els,wts])) (.cons rfl (.nil)))),0,by omega,by simp [wts]; omega,rfl⟩ ?_
  rintro m_A _ ⟨k,hk_A,hp_A,rfl⟩
  refine A_seq (A_seq (A_region ?_));refine M0 (q_moveC rfl rfl rfl) rfl rfl ?_;refine M0 (q_moveC rfl rfl rfl) rfl rfl ?_;refine M0 (q_len rfl rfl rfl) rfl rfl ?_
  refine M0 (q_lss rfl rfl rfl rfl) rfl rfl ?_;refine L_nil (T_n ?_)
  refine A_cond rfl (fun h => ?_) (fun h => ?_)
  · have h3 : k < xs.length := by have := of_decide_eq_true h; omega
    have hat := els_at h3
    have hstep := wts_take xs k h3
    have hle := wts_take_le xs (k + 1)
    have hws : Enc.wt xs[k] = xs[k].size := rfl
    have hgd : xs[k].size ≤ 9223372036854775807 := hg.2 _ (List.getElem_mem h3)
    by_cases h4 : left - ((xs.length : Int) + wts (xs.take k)) - xs[k].size < 0
    · have hb : decide (left - ((xs.length : Int) + wts (xs.take k)) - xs[k].size < 0) = true := decide_eq_true h4
      refine A_skip (T_n (A_seq (A_block (A_seq (A_region ?_)))));refine M0 (q_moveC rfl rfl rfl) rfl rfl ?_;refine M0 (q_moveC rfl rfl rfl) rfl rfl ?_
      refine M0 (q_moveC rfl rfl rfl) rfl rfl ?_;refine M0 (q_at rfl rfl rfl rfl (by omega) (by assumption) rfl) rfl rfl ?_;refine M0 (q_lr1 rfl rfl rfl rfl) rfl rfl ?_
      refine M0 (q_lens rfl rfl rfl) rfl rfl ?_;refine M0 (q_sub rfl rfl rfl rfl (by omega)) rfl rfl ?_;refine M0 (q_assignC rfl rfl rfl) rfl rfl ?_;refine L_nil (T_n ?_)
      refine A_seq (A_region ?_);refine M0 (q_moveC rfl rfl rfl) rfl rfl ?_;refine M0 (q_lssK rfl rfl rfl rfl (by assumption)) rfl rfl ?_;refine L_nil (T_n ?_)
      refine A_ifT rfl ?_;refine A_seq (A_region ?_);refine M0 (q_assignC rfl rfl rfl) rfl rfl ?_;refine L_nil (T_n (A_ret (B_r (T_r (T_r ?_)))))
      refine B_r (T_r (F_r ?_))
      exact E_tmp rfl rfl (W_end [] (by decide) rfl rfl (I_eq (by rw [szr_neg (by omega)])))
    · have hb : decide (left - ((xs.length : Int) + wts (xs.take k)) - xs[k].size < 0) = false := decide_eq_false h4
      refine A_skip (T_n (A_seq (A_block (A_seq (A_region ?_)))));refine M0 (q_moveC rfl rfl rfl) rfl rfl ?_;refine M0 (q_moveC rfl rfl rfl) rfl rfl ?_
      refine M0 (q_moveC rfl rfl rfl) rfl rfl ?_;refine M0 (q_at rfl rfl rfl rfl (by omega) (by assumption) rfl) rfl rfl ?_;refine M0 (q_lr1 rfl rfl rfl rfl) rfl rfl ?_
      refine M0 (q_lens rfl rfl rfl) rfl rfl ?_;refine M0 (q_sub rfl rfl rfl rfl (by omega)) rfl rfl ?_;refine M0 (q_assignC rfl rfl rfl) rfl rfl ?_;refine L_nil (T_n ?_)
      refine A_seq (A_region ?_);refine M0 (q_moveC rfl rfl rfl) rfl rfl ?_;refine M0 (q_lssK rfl rfl rfl rfl (by assumption)) rfl rfl ?_;refine L_nil (T_n ?_)
      refine A_ifF rfl ?_;refine A_skip (B_n (T_n (A_region ?_)));refine M0 (q_moveC rfl rfl rfl) rfl rfl ?_;refine M0 (q_add rfl rfl rfl rfl (by omega)) rfl rfl ?_
      refine M0 (q_assignC rfl rfl rfl) rfl rfl ?_;refine L_nil (T_n ?_)
      exact ⟨xs.length - (k + 1),by omega,(fun k : Nat => (⟨_,[(0,L xs),(1,I (left - (xs.length + wts (xs.take k)))),(5,I k)],[]⟩ : St)) (k + 1),W_go [] (by decide) rfl (rfl) (.cons rfl (.cons (I_eq (by rw [hstep]; omega)) (.cons rfl (.nil)))),k + 1,by omega,by omega,rfl⟩
  · have h3 : ¬ ((k : Int) < (els xs).length) := of_decide_eq_false h
    have hk : wts (xs.take k) = wts xs := by rw [List.take_of_length_le (by omega)]
    refine A_exit (T_x (T_x (B_xs (T_n (A_seq (A_region ?_))))));refine M0 (q_moveC rfl rfl rfl) rfl rfl ?_
    refine M0 (q_assignC rfl rfl rfl) rfl rfl ?_;refine L_nil (T_n (A_ret (F_r ?_)))
    exact E_tmp rfl rfl (W_end [] (by decide) rfl rfl (I_eq (by rw [szr_pos (by omega)]; omega)))
set_option maxHeartbeats 1000000 in
theorem sz_IntSS (xs : List (List Int)) (left : Int) (hg : Enc.gd xs) (h0 : 0 ≤ left) (h1 : left ≤ 1048576) : Con Try.prog 18 [] [al xs,ai left] [] (I (szr (Enc.wt xs) left)) := by
  have hlen := els_len xs
  have hx := hg.1
  have hw : Enc.wt xs = xs.length + wts xs := rfl
  refine Con.of Try.func18 rfl Try.ntmps18 rfl (fun E => ?_)
  refine A_seq (A_region ?_);refine M0 (q_assignC rfl rfl rfl) rfl rfl ?_;refine L_nil (T_n (A_seq (A_region ?_)));refine M0 (q_moveC rfl rfl rfl) rfl rfl ?_
  refine M0 (q_moveC rfl rfl rfl) rfl rfl ?_;refine M0 (q_len rfl rfl rfl) rfl rfl ?_;refine M0 (q_sub rfl rfl rfl rfl (by omega)) rfl rfl ?_
  refine M0 (q_assignC rfl rfl rfl) rfl rfl ?_;refine L_nil (T_n (A_seq (A_seq (A_region ?_))));refine M0 (q_moveC rfl rfl rfl) rfl rfl ?_
  refine M0 (q_lss rfl rfl rfl rfl) rfl rfl ?_;refine L_nil (T_n ?_)
  refine A_cond rfl (fun h => ?_) (fun h => ?_)
  · refine A_seq (A_region ?_);refine M0 (q_assignC rfl rfl rfl) rfl rfl ?_;refine L_nil (T_n (A_ret (T_r (F_r ?_))))
    have h2 := of_decide_eq_true h
    exact E_tmp rfl rfl (W_end [] (by decide) rfl rfl (I_eq (by rw [szr_neg (by omega)])))
  have h2 : ¬ (left - ((els xs).length : Int) < 0) := of_decide_eq_false h
  refine A_skip (T_n (A_seq (A_seq (A_region ?_))));refine M0 (q_assignC rfl rfl rfl) rfl rfl ?_;refine L_nil (T_n (A_block ?_))
  refine A_loop (fun m st => ∃ k : Nat,k + m = xs.length ∧ (((xs.length : Int) + wts (xs.take k) ≤ left)) ∧ st = (fun k : Nat => (⟨_,[(0,L xs),(1,I (left - (xs.length + wts (xs.take k)))),(5,I k)],[]⟩ : St)) k) (xs.length) ⟨(fun k : Nat => (⟨_,[(0,L xs),(1,I (left - (xs.length + wts (xs.take k)))),(5,I k)],[]⟩ : St)) 0,W_go [] (by decide) rfl (rfl) (.cons rfl (.cons (I_eq (by simp [els,wts])) (.cons rfl (.nil)))),0,by omega,by simp [wts]; omega,rfl⟩ ?_
  rintro m_A _ ⟨k,hk_A,hp_A,rfl⟩
  refine A_seq (A_seq (A_region ?_));refine M0 (q_moveC rfl rfl rfl) rfl rfl ?_;refine M0 (q_moveC rfl rfl rfl) rfl rfl ?_;refine M0 (q_len rfl rfl rfl) rfl rfl ?_
  refine M0 (q_lss rfl rfl rfl rfl) rfl rfl ?_;refine L_nil (T_n ?_)
  refine A_cond rfl (fun h => ?_) (fun h => ?_)
  · have h3 : k < xs.length := by have := of_decide_eq_true h; omega
    have hat := els_at h3
    have hstep := wts_take xs k h3
    have hle := wts_take_le xs (k + 1)
    have hc := sz_IntS xs[k] (left - ((xs.length : Int) + wts (xs.take k))) (hg.2 _ (List.getElem_mem h3)) (by omega) (by omega)
    by_cases h4 : left - ((xs.length : Int) + wts (xs.take k)) < Enc.wt xs[k]
    · rw [szr_neg h4] at hc
      have hb : decide ((-1 : Int) < 0) = true := rfl
      refine A_skip (T_n (A_seq (A_block (A_seq (A_region ?_)))));refine M0 (q_moveC rfl rfl rfl) rfl rfl ?_;refine M0 (q_moveC rfl rfl rfl) rfl rfl ?_
      refine M0 (q_at rfl rfl rfl rfl (by omega) (by assumption) rfl) rfl rfl ?_;refine M0 (q_lr1 rfl rfl rfl rfl) rfl rfl ?_;refine M0 (q_moveC rfl rfl rfl) rfl rfl ?_
      refine M0 (q_call0 rfl rfl (hc) rfl) rfl rfl ?_;refine M0 (q_assignC rfl rfl rfl) rfl rfl ?_;refine L_nil (T_n (A_seq (A_region ?_)))
      refine M0 (q_moveC rfl rfl rfl) rfl rfl ?_;refine M0 (q_lssK rfl rfl rfl rfl (by assumption)) rfl rfl ?_;refine L_nil (T_n ?_);refine A_ifT rfl ?_;refine A_seq ?_
      refine A_region ?_;refine M0 (q_assignC rfl rfl rfl) rfl rfl ?_;refine L_nil (T_n (A_ret (B_r (T_r (T_r (B_r (T_r ?_)))))))
      refine F_r ?_
      exact E_tmp rfl rfl (W_end [] (by decide) rfl rfl (I_eq (by rw [szr_neg (by omega)])))
    · rw [szr_pos (by omega)] at hc
      have hb : decide (left - ((xs.length : Int) + wts (xs.take k)) - Enc.wt xs[k] < 0) = false := decide_eq_false (by omega)
      refine A_skip (T_n (A_seq (A_block (A_seq (A_region ?_)))));refine M0 (q_moveC rfl rfl rfl) rfl rfl ?_;refine M0 (q_moveC rfl rfl rfl) rfl rfl ?_
      refine M0 (q_at rfl rfl rfl rfl (by omega) (by assumption) rfl) rfl rfl ?_;refine M0 (q_lr1 rfl rfl rfl rfl) rfl rfl ?_;refine M0 (q_moveC rfl rfl rfl) rfl rfl ?_
      refine M0 (q_call0 rfl rfl (hc) rfl) rfl rfl ?_;refine M0 (q_assignC rfl rfl rfl) rfl rfl ?_;refine L_nil (T_n (A_seq (A_region ?_)))
      refine M0 (q_moveC rfl rfl rfl) rfl rfl ?_;refine M0 (q_lssK rfl rfl rfl rfl (by assumption)) rfl rfl ?_;refine L_nil (T_n ?_);refine A_ifF rfl ?_;refine A_skip (B_n ?_)
      refine T_n (A_region ?_);refine M0 (q_moveC rfl rfl rfl) rfl rfl ?_;refine M0 (q_add rfl rfl rfl rfl (by omega)) rfl rfl ?_;refine M0 (q_assignC rfl rfl rfl) rfl rfl ?_
      refine L_nil (T_n ?_)
      exact ⟨xs.length - (k + 1),by omega,(fun k : Nat => (⟨_,[(0,L xs),(1,I (left - (xs.length + wts (xs.take k)))),(5,I k)],[]⟩ : St)) (k + 1),W_go [] (by decide) rfl (rfl) (.cons rfl (.cons (I_eq (by rw [hstep]; omega)) (.cons rfl (.nil)))),k + 1,by omega,by omega,rfl⟩
  · have h3 : ¬ ((k : Int) < (els xs).length) := of_decide_eq_false h
    have hk : wts (xs.take k) = wts xs := by rw [List.take_of_length_le (by omega)]
    refine A_exit (T_x (T_x (B_xs (T_n (A_seq (A_region ?_))))));refine M0 (q_moveC rfl rfl rfl) rfl rfl ?_
    refine M0 (q_assignC rfl rfl rfl) rfl rfl ?_;refine L_nil (T_n (A_ret (F_r ?_)))
    exact E_tmp rfl rfl (W_end [] (by decide) rfl rfl (I_eq (by rw [szr_pos (by omega)]; omega)))

/-! ### Copying -/
/-- The first k copied, the others still zero. -/
def part {α : Type} [Enc α] (xs : List α) (z : List T) (k : Nat) : List (List T) := els (xs.take k) ++ List.replicate (xs.length - k) z
theorem part_len {α : Type} [Enc α] (xs : List α) (z : List T) {k : Nat} (h : k ≤ xs.length) : (part xs z k).length = xs.length := by simp [part,els]; omega
theorem part_zero {α : Type} [Enc α] (xs : List α) (z : List T) : part xs z 0 = List.replicate (((els xs).length : Int)).toNat z := by simp [part,els]
theorem part_all {α : Type} [Enc α] (xs : List α) (z : List T) {k : Nat} (h : xs.length ≤ k) : part xs z k = els xs := by
  unfold part
  rw [List.take_of_length_le h,show xs.length - k = 0 by omega]
  simp
theorem part_at {α : Type} [Enc α] (xs : List α) (z : List T) {k : Nat} (h : k < xs.length) : (part xs z k)[(k : Int).toNat]? = some z := by
  have h1 : (els (xs.take k)).length = k := by simp [els]; omega
  unfold part
  rw [Int.toNat_natCast,List.getElem?_append_right (by omega),h1,Nat.sub_self,List.getElem?_replicate,if_pos (by omega)]
theorem part_set {α : Type} [Enc α] (xs : List α) (z : List T) {k : Nat} (h : k < xs.length) (ts : List T) (ht : ts = Enc.e xs[k]) (hz : z.length = ts.length) : (part xs z k).set (k : Int).toNat (splice z 0 ts) = part xs z (k + 1) := by
  have h1 : (els (xs.take k)).length = k := by simp [els]; omega
  have h2 : splice z 0 ts = ts := by simp [splice,hz]
  subst ht
  unfold part
  rw [h2,Int.toNat_natCast,List.set_append_right _ _ (by omega),h1,Nat.sub_self,show xs.length - k = (xs.length - (k + 1)) + 1 by omega,List.replicate_succ,List.set_cons_zero]
  have h3 : els (xs.take (k + 1)) = els (xs.take k) ++ [Enc.e xs[k]] := by
    rw [List.take_succ_eq_append_getElem h]
    simp only [els,List.map_append,List.map_cons,List.map_nil]
  rw [h3,List.append_assoc]
  rfl
theorem row_eq {k : Nat} {a b : List (List T)} (h : a = b) : [Ob.row k a] = [Ob.row k b] := by rw [h]

set_option maxHeartbeats 1000000 in
theorem to_IntS (xs : List Int) (hg : Enc.wt xs ≤ 1048576) : Con Try.prog 62 [] [al xs] [.row (Enc.k Int) (els xs)] (.o (.c (.ref 0))) := by
  have hlen := els_len xs
  have hw : Enc.wt xs = xs.length + wts xs := rfl
  refine Con.of Try.func62 rfl Try.ntmps62 rfl (fun E => ?_)
  refine A_seq (A_region ?_);refine M0 (q_assignC rfl rfl rfl) rfl rfl ?_;refine L_nil (T_n (A_seq (A_region ?_)));refine M0 (q_moveC rfl rfl rfl) rfl rfl ?_
  refine M0 (q_len rfl rfl rfl) rfl rfl ?_;refine M1 (q_make 0 rfl rfl rfl rfl (by omega) (by omega) (by omega) rfl (by decide)) rfl rfl ?_;refine M0 (q_assignC rfl rfl rfl) rfl rfl ?_
  refine L_nil (T_n (A_seq (A_seq (A_region ?_))));refine M0 (q_assignC rfl rfl rfl) rfl rfl ?_;refine L_nil (T_n (A_block ?_))
  refine A_loop (fun m st => ∃ k : Nat,k + m = xs.length ∧ (True) ∧ st = (fun k : Nat => (⟨_,[(0,L xs),(3,.o (.c (.ref 0))),(4,I k)],[.row 1 (part xs [(.v (.int .i64 0))] k)]⟩ : St)) k) (xs.length) ⟨(fun k : Nat => (⟨_,[(0,L xs),(3,.o (.c (.ref 0))),(4,I k)],[.row 1 (part xs [(.v (.int .i64 0))] k)]⟩ : St)) 0,W_go [0] (by decide) rfl (row_eq (part_zero xs _)) (.cons rfl (.cons rfl (.cons rfl (.nil)))),0,by omega,trivial,rfl⟩ ?_
  rintro m_A _ ⟨k,hk_A,hp_A,rfl⟩
  refine A_seq (A_seq (A_region ?_));refine M0 (q_moveC rfl rfl rfl) rfl rfl ?_;refine M0 (q_moveC rfl rfl rfl) rfl rfl ?_;refine M0 (q_len rfl rfl rfl) rfl rfl ?_
  refine M0 (q_lss rfl rfl rfl rfl) rfl rfl ?_;refine L_nil (T_n ?_)
  refine A_cond rfl (fun h => ?_) (fun h => ?_)
  · have h3 : k < xs.length := by have := of_decide_eq_true h; omega
    have hat := els_at h3
    have hz := part_at xs [(.v (.int .i64 0))] h3
    have hpl : (k : Int) < (part xs [(.v (.int .i64 0))] k).length := by rw [part_len xs _ (by omega)]; omega
    have hwt : Enc.wt xs[k] ≤ wts xs := wts_le xs _ (List.getElem_mem h3)
    refine A_skip (T_n (A_seq (A_block (A_region ?_))));refine M0 (q_moveC rfl rfl rfl) rfl rfl ?_;refine M0 (q_moveC rfl rfl rfl) rfl rfl ?_
    refine M0 (q_moveC rfl rfl rfl) rfl rfl ?_;refine M0 (q_moveC rfl rfl rfl) rfl rfl ?_;refine M0 (q_at rfl rfl rfl rfl (by omega) (by assumption) rfl) rfl rfl ?_
    refine M0 (q_lr1 rfl rfl rfl rfl) rfl rfl ?_;refine M0 (q_ar rfl rfl rfl rfl rfl (by omega) (by assumption)) rfl rfl ?_
    refine M_ste1 rfl rfl rfl rfl rfl rfl rfl rfl rfl (by assumption) rfl rfl ?_;refine L_nil (B_n (T_n (A_region ?_)));refine M0 (q_moveC rfl rfl rfl) rfl rfl ?_
    refine M0 (q_add rfl rfl rfl rfl (by omega)) rfl rfl ?_;refine M0 (q_assignC rfl rfl rfl) rfl rfl ?_;refine L_nil (T_n ?_)
    exact ⟨xs.length - (k + 1),by omega,(fun k : Nat => (⟨_,[(0,L xs),(3,.o (.c (.ref 0))),(4,I k)],[.row 1 (part xs [(.v (.int .i64 0))] k)]⟩ : St)) (k + 1),W_go [0] (by decide) rfl (row_eq (part_set xs [(.v (.int .i64 0))] h3 _ (by rfl) (by rfl)).symm) (.cons rfl (.cons rfl (.cons rfl (.nil)))),k + 1,by omega,trivial,rfl⟩
  · have h3 : ¬ ((k : Int) < (els xs).length) := of_decide_eq_false h
    refine A_exit (T_x (T_x (B_xs (T_n (A_seq (A_region ?_))))));refine M0 (q_moveC rfl rfl rfl) rfl rfl ?_
    refine M0 (q_assignC rfl rfl rfl) rfl rfl ?_;refine L_nil (T_n (A_ret (F_r ?_)))
    exact E_tmp rfl rfl (W_end [0] (by decide) rfl (row_eq (part_all xs _ (by omega)).symm) rfl)
set_option maxHeartbeats 1000000 in
theorem to_StringS (xs : List ByteArray) (hg : Enc.wt xs ≤ 1048576) : Con Try.prog 37 [] [al xs] [.row (Enc.k ByteArray) (els xs)] (.o (.c (.ref 0))) := by
  have hlen := els_len xs
  have hw : Enc.wt xs = xs.length + wts xs := rfl
  refine Con.of Try.func37 rfl Try.ntmps37 rfl (fun E => ?_)
  refine A_seq (A_region ?_);refine M0 (q_assignC rfl rfl rfl) rfl rfl ?_;refine L_nil (T_n (A_seq (A_region ?_)));refine M0 (q_moveC rfl rfl rfl) rfl rfl ?_
  refine M0 (q_len rfl rfl rfl) rfl rfl ?_;refine M1 (q_make 0 rfl rfl rfl rfl (by omega) (by omega) (by omega) rfl (by decide)) rfl rfl ?_;refine M0 (q_assignC rfl rfl rfl) rfl rfl ?_
  refine L_nil (T_n (A_seq (A_seq (A_region ?_))));refine M0 (q_assignC rfl rfl rfl) rfl rfl ?_;refine L_nil (T_n (A_block ?_))
  refine A_loop (fun m st => ∃ k : Nat,k + m = xs.length ∧ (True) ∧ st = (fun k : Nat => (⟨_,[(0,L xs),(3,.o (.c (.ref 0))),(4,I k)],[.row 1 (part xs [(.v (.string ⟨#[]⟩))] k)]⟩ : St)) k) (xs.length) ⟨(fun k : Nat => (⟨_,[(0,L xs),(3,.o (.c (.ref 0))),(4,I k)],[.row 1 (part xs [(.v (.string ⟨#[]⟩))] k)]⟩ : St)) 0,W_go [0] (by decide) rfl (row_eq (part_zero xs _)) (.cons rfl (.cons rfl (.cons rfl (.nil)))),0,by omega,trivial,rfl⟩ ?_
  rintro m_A _ ⟨k,hk_A,hp_A,rfl⟩
  refine A_seq (A_seq (A_region ?_));refine M0 (q_moveC rfl rfl rfl) rfl rfl ?_;refine M0 (q_moveC rfl rfl rfl) rfl rfl ?_;refine M0 (q_len rfl rfl rfl) rfl rfl ?_
  refine M0 (q_lss rfl rfl rfl rfl) rfl rfl ?_;refine L_nil (T_n ?_)
  refine A_cond rfl (fun h => ?_) (fun h => ?_)
  · have h3 : k < xs.length := by have := of_decide_eq_true h; omega
    have hat := els_at h3
    have hz := part_at xs [(.v (.string ⟨#[]⟩))] h3
    have hpl : (k : Int) < (part xs [(.v (.string ⟨#[]⟩))] k).length := by rw [part_len xs _ (by omega)]; omega
    have hwt : Enc.wt xs[k] ≤ wts xs := wts_le xs _ (List.getElem_mem h3)
    refine A_skip (T_n (A_seq (A_block (A_region ?_))));refine M0 (q_moveC rfl rfl rfl) rfl rfl ?_;refine M0 (q_moveC rfl rfl rfl) rfl rfl ?_
    refine M0 (q_moveC rfl rfl rfl) rfl rfl ?_;refine M0 (q_moveC rfl rfl rfl) rfl rfl ?_;refine M0 (q_at rfl rfl rfl rfl (by omega) (by assumption) rfl) rfl rfl ?_
    refine M0 (q_lr1 rfl rfl rfl rfl) rfl rfl ?_;refine M0 (q_ar rfl rfl rfl rfl rfl (by omega) (by assumption)) rfl rfl ?_
    refine M_ste1 rfl rfl rfl rfl rfl rfl rfl rfl rfl (by assumption) rfl rfl ?_;refine L_nil (B_n (T_n (A_region ?_)));refine M0 (q_moveC rfl rfl rfl) rfl rfl ?_
    refine M0 (q_add rfl rfl rfl rfl (by omega)) rfl rfl ?_;refine M0 (q_assignC rfl rfl rfl) rfl rfl ?_;refine L_nil (T_n ?_)
    exact ⟨xs.length - (k + 1),by omega,(fun k : Nat => (⟨_,[(0,L xs),(3,.o (.c (.ref 0))),(4,I k)],[.row 1 (part xs [(.v (.string ⟨#[]⟩))] k)]⟩ : St)) (k + 1),W_go [0] (by decide) rfl (row_eq (part_set xs [(.v (.string ⟨#[]⟩))] h3 _ (by rfl) (by rfl)).symm) (.cons rfl (.cons rfl (.cons rfl (.nil)))),k + 1,by omega,trivial,rfl⟩
  · have h3 : ¬ ((k : Int) < (els xs).length) := of_decide_eq_false h
    refine A_exit (T_x (T_x (B_xs (T_n (A_seq (A_region ?_))))));refine M0 (q_moveC rfl rfl rfl) rfl rfl ?_
    refine M0 (q_assignC rfl rfl rfl) rfl rfl ?_;refine L_nil (T_n (A_ret (F_r ?_)))
    exact E_tmp rfl rfl (W_end [0] (by decide) rfl (row_eq (part_all xs _ (by omega)).symm) rfl)
set_option maxHeartbeats 1000000 in
theorem to_IntSS (xs : List (List Int)) (hg : Enc.wt xs ≤ 1048576) : Con Try.prog 21 [] [al xs] [.row (Enc.k (List Int)) (els xs)] (.o (.c (.ref 0))) := by
  have hlen := els_len xs
  have hw : Enc.wt xs = xs.length + wts xs := rfl
  refine Con.of Try.func21 rfl Try.ntmps21 rfl (fun E => ?_)
  refine A_seq (A_region ?_);refine M0 (q_assignC rfl rfl rfl) rfl rfl ?_;refine L_nil (T_n (A_seq (A_region ?_)));refine M0 (q_moveC rfl rfl rfl) rfl rfl ?_
  refine M0 (q_len rfl rfl rfl) rfl rfl ?_;refine M1 (q_make 1 rfl rfl rfl rfl (by omega) (by omega) (by omega) rfl (by decide)) rfl rfl ?_;refine M0 (q_assignC rfl rfl rfl) rfl rfl ?_
  refine L_nil (T_n (A_seq (A_seq (A_region ?_))));refine M0 (q_assignC rfl rfl rfl) rfl rfl ?_;refine L_nil (T_n (A_block ?_))
  refine A_loop (fun m st => ∃ k : Nat,k + m = xs.length ∧ (True) ∧ st = (fun k : Nat => (⟨_,[(0,L xs),(3,.o (.c (.ref 0))),(4,I k)],[.row 1 (part xs [(.sl 1 [])] k)]⟩ : St)) k) (xs.length) ⟨(fun k : Nat => (⟨_,[(0,L xs),(3,.o (.c (.ref 0))),(4,I k)],[.row 1 (part xs [(.sl 1 [])] k)]⟩ : St)) 0,W_go [0] (by decide) rfl (row_eq (part_zero xs _)) (.cons rfl (.cons rfl (.cons rfl (.nil)))),0,by omega,trivial,rfl⟩ ?_
  rintro m_A _ ⟨k,hk_A,hp_A,rfl⟩
  refine A_seq (A_seq (A_region ?_));refine M0 (q_moveC rfl rfl rfl) rfl rfl ?_;refine M0 (q_moveC rfl rfl rfl) rfl rfl ?_;refine M0 (q_len rfl rfl rfl) rfl rfl ?_
  refine M0 (q_lss rfl rfl rfl rfl) rfl rfl ?_;refine L_nil (T_n ?_)
  refine A_cond rfl (fun h => ?_) (fun h => ?_)
  · have h3 : k < xs.length := by have := of_decide_eq_true h; omega
    have hat := els_at h3
    have hz := part_at xs [(.sl 1 [])] h3
    have hpl : (k : Int) < (part xs [(.sl 1 [])] k).length := by rw [part_len xs _ (by omega)]; omega
    have hwt : Enc.wt xs[k] ≤ wts xs := wts_le xs _ (List.getElem_mem h3)
    refine A_skip (T_n (A_seq (A_block (A_region ?_))));refine M0 (q_moveC rfl rfl rfl) rfl rfl ?_;refine M0 (q_moveC rfl rfl rfl) rfl rfl ?_
    refine M0 (q_moveC rfl rfl rfl) rfl rfl ?_;refine M0 (q_moveC rfl rfl rfl) rfl rfl ?_;refine M0 (q_at rfl rfl rfl rfl (by omega) (by assumption) rfl) rfl rfl ?_
    refine M0 (q_lr1 rfl rfl rfl rfl) rfl rfl ?_;refine M1 (q_call rfl rfl (to_IntS _ (by omega)) rfl rfl rfl) rfl rfl ?_
    refine M0 (q_ar rfl rfl rfl rfl rfl (by omega) (by assumption)) rfl rfl ?_;refine M_ste1 rfl rfl rfl rfl rfl rfl rfl rfl rfl (by assumption) rfl rfl ?_;refine L_nil (B_n ?_)
    refine T_n (A_region ?_);refine M0 (q_moveC rfl rfl rfl) rfl rfl ?_;refine M0 (q_add rfl rfl rfl rfl (by omega)) rfl rfl ?_;refine M0 (q_assignC rfl rfl rfl) rfl rfl ?_
    refine L_nil (T_n ?_)
    exact ⟨xs.length - (k + 1),by omega,(fun k : Nat => (⟨_,[(0,L xs),(3,.o (.c (.ref 0))),(4,I k)],[.row 1 (part xs [(.sl 1 [])] k)]⟩ : St)) (k + 1),W_go [0] (by decide) rfl (row_eq (part_set xs [(.sl 1 [])] h3 _ (by rfl) (by rfl)).symm) (.cons rfl (.cons rfl (.cons rfl (.nil)))),k + 1,by omega,trivial,rfl⟩
  · have h3 : ¬ ((k : Int) < (els xs).length) := of_decide_eq_false h
    refine A_exit (T_x (T_x (B_xs (T_n (A_seq (A_region ?_))))));refine M0 (q_moveC rfl rfl rfl) rfl rfl ?_
    refine M0 (q_assignC rfl rfl rfl) rfl rfl ?_;refine L_nil (T_n (A_ret (F_r ?_)))
    exact E_tmp rfl rfl (W_end [0] (by decide) rfl (row_eq (part_all xs _ (by omega)).symm) rfl)

/-! ### Comparing -/
set_option maxHeartbeats 1000000 in
theorem eq_IntS (xs ys : List Int) (hn : Enc.gd xs) : Con Try.prog 44 [] [al xs,al ys] [] (B (decide (xs = ys))) := by
  have hn1 := hn.1
  have hlx := els_len xs
  have hly := els_len ys
  by_cases hl : xs.length = ys.length
  · have hb : decide (((els xs).length : Int) ≠ ((els ys).length : Int)) = false := by rw [hlx,hly,hl]; simp
    refine Con.of Try.func44 rfl Try.ntmps44 rfl (fun E => ?_)
    refine A_seq (A_region ?_);refine M0 (q_assignC rfl rfl rfl) rfl rfl ?_;refine L_nil (T_n (A_seq (A_seq (A_region ?_))))
    refine M0 (q_moveC rfl rfl rfl) rfl rfl ?_;refine M0 (q_len rfl rfl rfl) rfl rfl ?_;refine M0 (q_moveC rfl rfl rfl) rfl rfl ?_;refine M0 (q_len rfl rfl rfl) rfl rfl ?_
    refine M0 (q_neqK rfl rfl rfl rfl (by assumption)) rfl rfl ?_;refine L_nil (T_n ?_);refine A_ifF rfl ?_;refine A_skip (T_n (A_seq (A_seq ?_)))
    refine A_region ?_;refine M0 (q_assignC rfl rfl rfl) rfl rfl ?_;refine L_nil (T_n (A_block ?_))
    refine A_loop (fun m st => ∃ k : Nat,k + m = xs.length ∧ (xs.take k = ys.take k) ∧ st = (fun k : Nat => (⟨_,[(0,L xs),(1,L ys),(5,I k)],[]⟩ : St)) k) (xs.length) ⟨(fun k : Nat => (⟨_,[(0,L xs),(1,L ys),(5,I k)],[]⟩ : St)) 0,W_go [] (by decide) rfl (rfl) (.cons rfl (.cons rfl (.cons rfl (.nil)))),0,by omega,by simp,rfl⟩ ?_
    rintro m_A _ ⟨k,hk_A,hp_A,rfl⟩
    refine A_seq (A_seq (A_region ?_));refine M0 (q_moveC rfl rfl rfl) rfl rfl ?_;refine M0 (q_moveC rfl rfl rfl) rfl rfl ?_;refine M0 (q_len rfl rfl rfl) rfl rfl ?_
    refine M0 (q_lss rfl rfl rfl rfl) rfl rfl ?_;refine L_nil (T_n ?_)
    refine A_cond rfl (fun h => ?_) (fun h => ?_)
    · have h3 : k < xs.length := by have := of_decide_eq_true h; omega
      have h4 : k < ys.length := by omega
      have hat := els_at h3
      have hat2 := els_at h4
      by_cases he : xs[k] = ys[k]
      · have hk : decide (xs[k] ≠ ys[k]) = false := by simp [he]
        refine A_skip (T_n (A_seq (A_block (A_seq ?_))))
        refine A_draw [[],[],[0,1],[0,1,2],[],[],[4,5],[4,5,6],[0,1,2,3,4,5,6,7]] [[],[],[17,18],[17,18,19],[],[],[21,22],[21,22,23],[17,18,19,20,21,22,23,24]] [[18,21,22,23,24],[17,21,22,23,24],[21,22,23,24],[21,22,23,24],[17,18,19,20,22],[17,18,19,20,21],[17,18,19,20],[17,18,19,20],[]] rfl ?_
        refine DR.step (q_moveC rfl rfl rfl) rfl rfl ?_;refine DR.step (q_moveC rfl rfl rfl) rfl rfl ?_;refine DR.step (q_at rfl rfl rfl rfl (by omega) (by assumption) rfl) rfl rfl ?_
        refine DR.step (q_lr1 rfl rfl rfl rfl) rfl rfl ?_;refine DR.step (q_moveC rfl rfl rfl) rfl rfl ?_;refine DR.step (q_moveC rfl rfl rfl) rfl rfl ?_
        refine DR.step (q_at rfl rfl rfl rfl (by omega) (by assumption) rfl) rfl rfl ?_;refine DR.step (q_lr1 rfl rfl rfl rfl) rfl rfl ?_
        refine DR.step (q_neqK rfl rfl rfl rfl (by assumption)) rfl rfl ?_;refine DR.stop (by kernel_rfl) (by kernel_rfl) ?_
        refine L_nil (T_n ?_);refine A_ifF rfl ?_;refine A_skip (B_n (T_n (A_region ?_)));refine M0 (q_moveC rfl rfl rfl) rfl rfl ?_
        refine M0 (q_add rfl rfl rfl rfl (by omega)) rfl rfl ?_;refine M0 (q_assignC rfl rfl rfl) rfl rfl ?_;refine L_nil (T_n ?_)
        exact ⟨xs.length - (k + 1),by omega,(fun k : Nat => (⟨_,[(0,L xs),(1,L ys),(5,I k)],[]⟩ : St)) (k + 1),W_go [] (by decide) rfl (rfl) (.cons rfl (.cons rfl (.cons rfl (.nil)))),k + 1,by omega,eq_next h3 h4 hp_A he,rfl⟩
      · have hk : decide (xs[k] ≠ ys[k]) = true := by simp [he]
        refine A_skip (T_n (A_seq (A_block (A_seq ?_))))
        refine A_draw [[],[],[0,1],[0,1,2],[],[],[4,5],[4,5,6],[0,1,2,3,4,5,6,7]] [[],[],[17,18],[17,18,19],[],[],[21,22],[21,22,23],[17,18,19,20,21,22,23,24]] [[18,21,22,23,24],[17,21,22,23,24],[21,22,23,24],[21,22,23,24],[17,18,19,20,22],[17,18,19,20,21],[17,18,19,20],[17,18,19,20],[]] rfl ?_
        refine DR.step (q_moveC rfl rfl rfl) rfl rfl ?_;refine DR.step (q_moveC rfl rfl rfl) rfl rfl ?_;refine DR.step (q_at rfl rfl rfl rfl (by omega) (by assumption) rfl) rfl rfl ?_
        refine DR.step (q_lr1 rfl rfl rfl rfl) rfl rfl ?_;refine DR.step (q_moveC rfl rfl rfl) rfl rfl ?_;refine DR.step (q_moveC rfl rfl rfl) rfl rfl ?_
        refine DR.step (q_at rfl rfl rfl rfl (by omega) (by assumption) rfl) rfl rfl ?_;refine DR.step (q_lr1 rfl rfl rfl rfl) rfl rfl ?_
        refine DR.step (q_neqK rfl rfl rfl rfl (by assumption)) rfl rfl ?_;refine DR.stop (by kernel_rfl) (by kernel_rfl) ?_
        refine L_nil (T_n ?_);refine A_ifT rfl ?_;refine A_seq (A_region ?_);refine M0 (q_assignC rfl rfl rfl) rfl rfl ?_;refine L_nil (T_n (A_ret (B_r ?_)))
        refine T_r (T_r (B_r (T_r (F_r ?_))))
        exact E_tmp rfl rfl (W_end [] (by decide) rfl rfl (B_eq (eq_ne h3 h4 he).symm))
    · have h3 : ¬ ((k : Int) < (els xs).length) := of_decide_eq_false h
      refine A_exit (T_x (T_x (B_xs (T_n (A_seq (A_region ?_))))));refine M0 (q_assignC rfl rfl rfl) rfl rfl ?_;refine L_nil (T_n ?_)
      refine A_ret (F_r ?_)
      exact E_tmp rfl rfl (W_end [] (by decide) rfl rfl (B_eq (eq_all (by omega) hl hp_A).symm))
  · have hb : decide (((els xs).length : Int) ≠ ((els ys).length : Int)) = true := by rw [hlx,hly]; simp; omega
    refine Con.of Try.func44 rfl Try.ntmps44 rfl (fun E => ?_)
    refine A_seq (A_region ?_);refine M0 (q_assignC rfl rfl rfl) rfl rfl ?_;refine L_nil (T_n (A_seq (A_seq (A_region ?_))))
    refine M0 (q_moveC rfl rfl rfl) rfl rfl ?_;refine M0 (q_len rfl rfl rfl) rfl rfl ?_;refine M0 (q_moveC rfl rfl rfl) rfl rfl ?_;refine M0 (q_len rfl rfl rfl) rfl rfl ?_
    refine M0 (q_neqK rfl rfl rfl rfl (by assumption)) rfl rfl ?_;refine L_nil (T_n ?_);refine A_ifT rfl ?_;refine A_seq (A_region ?_)
    refine M0 (q_assignC rfl rfl rfl) rfl rfl ?_;refine L_nil (T_n (A_ret (T_r (F_r ?_))))
    exact E_tmp rfl rfl (W_end [] (by decide) rfl rfl (B_eq (eq_len hl).symm))
set_option maxHeartbeats 1000000 in
theorem eq_StringS (xs ys : List ByteArray) (hn : Enc.gd xs) : Con Try.prog 46 [] [al xs,al ys] [] (B (decide (xs = ys))) := by
  have hn1 := hn.1
  have hlx := els_len xs
  have hly := els_len ys
  by_cases hl : xs.length = ys.length
  · have hb : decide (((els xs).length : Int) ≠ ((els ys).length : Int)) = false := by rw [hlx,hly,hl]; simp
    refine Con.of Try.func46 rfl Try.ntmps46 rfl (fun E => ?_)
    refine A_seq (A_region ?_);refine M0 (q_assignC rfl rfl rfl) rfl rfl ?_;refine L_nil (T_n (A_seq (A_seq (A_region ?_))))
    refine M0 (q_moveC rfl rfl rfl) rfl rfl ?_;refine M0 (q_len rfl rfl rfl) rfl rfl ?_;refine M0 (q_moveC rfl rfl rfl) rfl rfl ?_;refine M0 (q_len rfl rfl rfl) rfl rfl ?_
    refine M0 (q_neqK rfl rfl rfl rfl (by assumption)) rfl rfl ?_;refine L_nil (T_n ?_);refine A_ifF rfl ?_;refine A_skip (T_n (A_seq (A_seq ?_)))
    refine A_region ?_;refine M0 (q_assignC rfl rfl rfl) rfl rfl ?_;refine L_nil (T_n (A_block ?_))
    refine A_loop (fun m st => ∃ k : Nat,k + m = xs.length ∧ (xs.take k = ys.take k) ∧ st = (fun k : Nat => (⟨_,[(0,L xs),(1,L ys),(5,I k)],[]⟩ : St)) k) (xs.length) ⟨(fun k : Nat => (⟨_,[(0,L xs),(1,L ys),(5,I k)],[]⟩ : St)) 0,W_go [] (by decide) rfl (rfl) (.cons rfl (.cons rfl (.cons rfl (.nil)))),0,by omega,by simp,rfl⟩ ?_
    rintro m_A _ ⟨k,hk_A,hp_A,rfl⟩
    refine A_seq (A_seq (A_region ?_));refine M0 (q_moveC rfl rfl rfl) rfl rfl ?_;refine M0 (q_moveC rfl rfl rfl) rfl rfl ?_;refine M0 (q_len rfl rfl rfl) rfl rfl ?_
    refine M0 (q_lss rfl rfl rfl rfl) rfl rfl ?_;refine L_nil (T_n ?_)
    refine A_cond rfl (fun h => ?_) (fun h => ?_)
    · have h3 : k < xs.length := by have := of_decide_eq_true h; omega
      have h4 : k < ys.length := by omega
      have hat := els_at h3
      have hat2 := els_at h4
      by_cases he : xs[k] = ys[k]
      · have hk : decide (xs[k] ≠ ys[k]) = false := by simp [he]
        refine A_skip (T_n (A_seq (A_block (A_seq ?_))))
        refine A_draw [[],[],[0,1],[0,1,2],[],[],[4,5],[4,5,6],[0,1,2,3,4,5,6,7]] [[],[],[17,18],[17,18,19],[],[],[21,22],[21,22,23],[17,18,19,20,21,22,23,24]] [[18,21,22,23,24],[17,21,22,23,24],[21,22,23,24],[21,22,23,24],[17,18,19,20,22],[17,18,19,20,21],[17,18,19,20],[17,18,19,20],[]] rfl ?_
        refine DR.step (q_moveC rfl rfl rfl) rfl rfl ?_;refine DR.step (q_moveC rfl rfl rfl) rfl rfl ?_;refine DR.step (q_at rfl rfl rfl rfl (by omega) (by assumption) rfl) rfl rfl ?_
        refine DR.step (q_lr1 rfl rfl rfl rfl) rfl rfl ?_;refine DR.step (q_moveC rfl rfl rfl) rfl rfl ?_;refine DR.step (q_moveC rfl rfl rfl) rfl rfl ?_
        refine DR.step (q_at rfl rfl rfl rfl (by omega) (by assumption) rfl) rfl rfl ?_;refine DR.step (q_lr1 rfl rfl rfl rfl) rfl rfl ?_
        refine DR.step (q_sneqK rfl rfl rfl rfl (by assumption)) rfl rfl ?_;refine DR.stop (by kernel_rfl) (by kernel_rfl) ?_
        refine L_nil (T_n ?_);refine A_ifF rfl ?_;refine A_skip (B_n (T_n (A_region ?_)));refine M0 (q_moveC rfl rfl rfl) rfl rfl ?_
        refine M0 (q_add rfl rfl rfl rfl (by omega)) rfl rfl ?_;refine M0 (q_assignC rfl rfl rfl) rfl rfl ?_;refine L_nil (T_n ?_)
        exact ⟨xs.length - (k + 1),by omega,(fun k : Nat => (⟨_,[(0,L xs),(1,L ys),(5,I k)],[]⟩ : St)) (k + 1),W_go [] (by decide) rfl (rfl) (.cons rfl (.cons rfl (.cons rfl (.nil)))),k + 1,by omega,eq_next h3 h4 hp_A he,rfl⟩
      · have hk : decide (xs[k] ≠ ys[k]) = true := by simp [he]
        refine A_skip (T_n (A_seq (A_block (A_seq ?_))))
        refine A_draw [[],[],[0,1],[0,1,2],[],[],[4,5],[4,5,6],[0,1,2,3,4,5,6,7]] [[],[],[17,18],[17,18,19],[],[],[21,22],[21,22,23],[17,18,19,20,21,22,23,24]] [[18,21,22,23,24],[17,21,22,23,24],[21,22,23,24],[21,22,23,24],[17,18,19,20,22],[17,18,19,20,21],[17,18,19,20],[17,18,19,20],[]] rfl ?_
        refine DR.step (q_moveC rfl rfl rfl) rfl rfl ?_;refine DR.step (q_moveC rfl rfl rfl) rfl rfl ?_;refine DR.step (q_at rfl rfl rfl rfl (by omega) (by assumption) rfl) rfl rfl ?_
        refine DR.step (q_lr1 rfl rfl rfl rfl) rfl rfl ?_;refine DR.step (q_moveC rfl rfl rfl) rfl rfl ?_;refine DR.step (q_moveC rfl rfl rfl) rfl rfl ?_
        refine DR.step (q_at rfl rfl rfl rfl (by omega) (by assumption) rfl) rfl rfl ?_;refine DR.step (q_lr1 rfl rfl rfl rfl) rfl rfl ?_
        refine DR.step (q_sneqK rfl rfl rfl rfl (by assumption)) rfl rfl ?_;refine DR.stop (by kernel_rfl) (by kernel_rfl) ?_
        refine L_nil (T_n ?_);refine A_ifT rfl ?_;refine A_seq (A_region ?_);refine M0 (q_assignC rfl rfl rfl) rfl rfl ?_;refine L_nil (T_n (A_ret (B_r ?_)))
        refine T_r (T_r (B_r (T_r (F_r ?_))))
        exact E_tmp rfl rfl (W_end [] (by decide) rfl rfl (B_eq (eq_ne h3 h4 he).symm))
    · have h3 : ¬ ((k : Int) < (els xs).length) := of_decide_eq_false h
      refine A_exit (T_x (T_x (B_xs (T_n (A_seq (A_region ?_))))));refine M0 (q_assignC rfl rfl rfl) rfl rfl ?_;refine L_nil (T_n ?_)
      refine A_ret (F_r ?_)
      exact E_tmp rfl rfl (W_end [] (by decide) rfl rfl (B_eq (eq_all (by omega) hl hp_A).symm))
  · have hb : decide (((els xs).length : Int) ≠ ((els ys).length : Int)) = true := by rw [hlx,hly]; simp; omega
    refine Con.of Try.func46 rfl Try.ntmps46 rfl (fun E => ?_)
    refine A_seq (A_region ?_);refine M0 (q_assignC rfl rfl rfl) rfl rfl ?_;refine L_nil (T_n (A_seq (A_seq (A_region ?_))))
    refine M0 (q_moveC rfl rfl rfl) rfl rfl ?_;refine M0 (q_len rfl rfl rfl) rfl rfl ?_;refine M0 (q_moveC rfl rfl rfl) rfl rfl ?_;refine M0 (q_len rfl rfl rfl) rfl rfl ?_
    refine M0 (q_neqK rfl rfl rfl rfl (by assumption)) rfl rfl ?_;refine L_nil (T_n ?_);refine A_ifT rfl ?_;refine A_seq (A_region ?_)
    refine M0 (q_assignC rfl rfl rfl) rfl rfl ?_;refine L_nil (T_n (A_ret (T_r (F_r ?_))))
    exact E_tmp rfl rfl (W_end [] (by decide) rfl rfl (B_eq (eq_len hl).symm))
set_option maxHeartbeats 1000000 in
theorem eq_IntSS (xs ys : List (List Int)) (hn : Enc.gd xs) : Con Try.prog 24 [] [al xs,al ys] [] (B (decide (xs = ys))) := by
  have hn1 := hn.1
  have hlx := els_len xs
  have hly := els_len ys
  by_cases hl : xs.length = ys.length
  · have hb : decide (((els xs).length : Int) ≠ ((els ys).length : Int)) = false := by rw [hlx,hly,hl]; simp
    refine Con.of Try.func24 rfl Try.ntmps24 rfl (fun E => ?_)
    refine A_seq (A_region ?_);refine M0 (q_assignC rfl rfl rfl) rfl rfl ?_;refine L_nil (T_n (A_seq (A_seq (A_region ?_))))
    refine M0 (q_moveC rfl rfl rfl) rfl rfl ?_;refine M0 (q_len rfl rfl rfl) rfl rfl ?_;refine M0 (q_moveC rfl rfl rfl) rfl rfl ?_;refine M0 (q_len rfl rfl rfl) rfl rfl ?_
    refine M0 (q_neqK rfl rfl rfl rfl (by assumption)) rfl rfl ?_;refine L_nil (T_n ?_);refine A_ifF rfl ?_;refine A_skip (T_n (A_seq (A_seq ?_)))
    refine A_region ?_;refine M0 (q_assignC rfl rfl rfl) rfl rfl ?_;refine L_nil (T_n (A_block ?_))
    refine A_loop (fun m st => ∃ k : Nat,k + m = xs.length ∧ (xs.take k = ys.take k) ∧ st = (fun k : Nat => (⟨_,[(0,L xs),(1,L ys),(5,I k)],[]⟩ : St)) k) (xs.length) ⟨(fun k : Nat => (⟨_,[(0,L xs),(1,L ys),(5,I k)],[]⟩ : St)) 0,W_go [] (by decide) rfl (rfl) (.cons rfl (.cons rfl (.cons rfl (.nil)))),0,by omega,by simp,rfl⟩ ?_
    rintro m_A _ ⟨k,hk_A,hp_A,rfl⟩
    refine A_seq (A_seq (A_region ?_));refine M0 (q_moveC rfl rfl rfl) rfl rfl ?_;refine M0 (q_moveC rfl rfl rfl) rfl rfl ?_;refine M0 (q_len rfl rfl rfl) rfl rfl ?_
    refine M0 (q_lss rfl rfl rfl rfl) rfl rfl ?_;refine L_nil (T_n ?_)
    refine A_cond rfl (fun h => ?_) (fun h => ?_)
    · have h3 : k < xs.length := by have := of_decide_eq_true h; omega
      have h4 : k < ys.length := by omega
      have hat := els_at h3
      have hat2 := els_at h4
      by_cases he : xs[k] = ys[k]
      · have hc := eq_IntS xs[k] ys[k] (hn.2 _ (List.getElem_mem h3))
        rw [decide_eq_true he] at hc
        refine A_skip (T_n (A_seq (A_block (A_seq ?_))))
        refine A_draw [[],[],[0,1],[0,1,2],[],[],[4,5],[4,5,6],[0,1,2,3,4,5,6,7],[0,1,2,3,4,5,6,7,8]] [[],[],[17,18],[17,18,19],[],[],[21,22],[21,22,23],[17,18,19,20,21,22,23,24],[17,18,19,20,21,22,23,24,25]] [[18,21,22,23,24],[17,21,22,23,24],[21,22,23,24],[21,22,23,24],[17,18,19,20,22],[17,18,19,20,21],[17,18,19,20],[17,18,19,20],[],[]] rfl ?_
        refine DR.step (q_moveC rfl rfl rfl) rfl rfl ?_;refine DR.step (q_moveC rfl rfl rfl) rfl rfl ?_;refine DR.step (q_at rfl rfl rfl rfl (by omega) (by assumption) rfl) rfl rfl ?_
        refine DR.step (q_lr1 rfl rfl rfl rfl) rfl rfl ?_;refine DR.step (q_moveC rfl rfl rfl) rfl rfl ?_;refine DR.step (q_moveC rfl rfl rfl) rfl rfl ?_
        refine DR.step (q_at rfl rfl rfl rfl (by omega) (by assumption) rfl) rfl rfl ?_;refine DR.step (q_lr1 rfl rfl rfl rfl) rfl rfl ?_;refine DR.step (q_call0 rfl rfl (hc) rfl) rfl rfl ?_
        refine DR.step (q_not rfl rfl rfl) rfl rfl ?_;refine DR.stop (by kernel_rfl) (by kernel_rfl) ?_
        refine L_nil (T_n ?_);refine A_ifF rfl ?_;refine A_skip (B_n (T_n (A_region ?_)));refine M0 (q_moveC rfl rfl rfl) rfl rfl ?_
        refine M0 (q_add rfl rfl rfl rfl (by omega)) rfl rfl ?_;refine M0 (q_assignC rfl rfl rfl) rfl rfl ?_;refine L_nil (T_n ?_)
        exact ⟨xs.length - (k + 1),by omega,(fun k : Nat => (⟨_,[(0,L xs),(1,L ys),(5,I k)],[]⟩ : St)) (k + 1),W_go [] (by decide) rfl (rfl) (.cons rfl (.cons rfl (.cons rfl (.nil)))),k + 1,by omega,eq_next h3 h4 hp_A he,rfl⟩
      · have hc := eq_IntS xs[k] ys[k] (hn.2 _ (List.getElem_mem h3))
        rw [decide_eq_false he] at hc
        refine A_skip (T_n (A_seq (A_block (A_seq ?_))))
        refine A_draw [[],[],[0,1],[0,1,2],[],[],[4,5],[4,5,6],[0,1,2,3,4,5,6,7],[0,1,2,3,4,5,6,7,8]] [[],[],[17,18],[17,18,19],[],[],[21,22],[21,22,23],[17,18,19,20,21,22,23,24],[17,18,19,20,21,22,23,24,25]] [[18,21,22,23,24],[17,21,22,23,24],[21,22,23,24],[21,22,23,24],[17,18,19,20,22],[17,18,19,20,21],[17,18,19,20],[17,18,19,20],[],[]] rfl ?_
        refine DR.step (q_moveC rfl rfl rfl) rfl rfl ?_;refine DR.step (q_moveC rfl rfl rfl) rfl rfl ?_;refine DR.step (q_at rfl rfl rfl rfl (by omega) (by assumption) rfl) rfl rfl ?_
        refine DR.step (q_lr1 rfl rfl rfl rfl) rfl rfl ?_;refine DR.step (q_moveC rfl rfl rfl) rfl rfl ?_;refine DR.step (q_moveC rfl rfl rfl) rfl rfl ?_
        refine DR.step (q_at rfl rfl rfl rfl (by omega) (by assumption) rfl) rfl rfl ?_;refine DR.step (q_lr1 rfl rfl rfl rfl) rfl rfl ?_;refine DR.step (q_call0 rfl rfl (hc) rfl) rfl rfl ?_
        refine DR.step (q_not rfl rfl rfl) rfl rfl ?_;refine DR.stop (by kernel_rfl) (by kernel_rfl) ?_
        refine L_nil (T_n ?_);refine A_ifT rfl ?_;refine A_seq (A_region ?_);refine M0 (q_assignC rfl rfl rfl) rfl rfl ?_;refine L_nil (T_n (A_ret (B_r ?_)))
        refine T_r (T_r (B_r (T_r (F_r ?_))))
        exact E_tmp rfl rfl (W_end [] (by decide) rfl rfl (B_eq (eq_ne h3 h4 he).symm))
    · have h3 : ¬ ((k : Int) < (els xs).length) := of_decide_eq_false h
      refine A_exit (T_x (T_x (B_xs (T_n (A_seq (A_region ?_))))));refine M0 (q_assignC rfl rfl rfl) rfl rfl ?_;refine L_nil (T_n ?_)
      refine A_ret (F_r ?_)
      exact E_tmp rfl rfl (W_end [] (by decide) rfl rfl (B_eq (eq_all (by omega) hl hp_A).symm))
  · have hb : decide (((els xs).length : Int) ≠ ((els ys).length : Int)) = true := by rw [hlx,hly]; simp; omega
    refine Con.of Try.func24 rfl Try.ntmps24 rfl (fun E => ?_)
    refine A_seq (A_region ?_);refine M0 (q_assignC rfl rfl rfl) rfl rfl ?_;refine L_nil (T_n (A_seq (A_seq (A_region ?_))))
    refine M0 (q_moveC rfl rfl rfl) rfl rfl ?_;refine M0 (q_len rfl rfl rfl) rfl rfl ?_;refine M0 (q_moveC rfl rfl rfl) rfl rfl ?_;refine M0 (q_len rfl rfl rfl) rfl rfl ?_
    refine M0 (q_neqK rfl rfl rfl rfl (by assumption)) rfl rfl ?_;refine L_nil (T_n ?_);refine A_ifT rfl ?_;refine A_seq (A_region ?_)
    refine M0 (q_assignC rfl rfl rfl) rfl rfl ?_;refine L_nil (T_n (A_ret (T_r (F_r ?_))))
    exact E_tmp rfl rfl (W_end [] (by decide) rfl rfl (B_eq (eq_len hl).symm))

end Go.Proofs.Ytmljakmaffbnlaa
end

section
set_option linter.unusedVariables false
set_option linter.unusedSimpArgs false
namespace Go.Proofs.Ytmljakmaffbnlaa
open Go.RowKit

/-- Data ass pieces of one's own: the slices, and the cells that name them. -/
def ownO : List T → List Ob
  | [] => []
  | .v _ :: ts => ownO ts
  | .sl k es :: ts => .row k es :: ownO ts
  | .un :: ts => ownO ts
def ownV : Nat → List T → List V1
  | _,[] => []
  | n,.v x :: ts => .rd [] (.v x) :: ownV n ts
  | n,.sl _ _ :: ts => .ref n :: ownV (n + 1) ts
  | n,.un :: ts => .un :: ownV n ts

structure TLevel where
  Rows : (List ByteArray)
  deriving DecidableEq
instance : Enc TLevel := ⟨1,by omega,fun x => [sl x.Rows],fun _ => rfl,fun x => Enc.gd x.Rows,fun x => Enc.wt x.Rows⟩
theorem TLevel.same {x y : TLevel} (h0 : x.Rows = y.Rows) : x = y := by cases x; cases y; simp_all
structure TReplay where
  Level : TLevel
  Players : Int
  Seed : Int
  Every : Int
  Rows : (List (List Int))
  Keys : (List ByteArray)
  deriving DecidableEq
instance : Enc TReplay := ⟨6,by omega,fun x => [sl x.Level.Rows,.v (.int .i64 x.Players),.v (.int .i64 x.Seed),.v (.int .i64 x.Every),sl x.Rows,sl x.Keys],fun _ => rfl,fun x => Enc.gd x.Level ∧ Enc.gd x.Players ∧ Enc.gd x.Seed ∧ Enc.gd x.Every ∧ Enc.gd x.Rows ∧ Enc.gd x.Keys,fun x => Enc.wt x.Level + Enc.wt x.Rows + Enc.wt x.Keys⟩
theorem TReplay.same {x y : TReplay} (h0 : x.Level = y.Level) (h1 : x.Players = y.Players) (h2 : x.Seed = y.Seed) (h3 : x.Every = y.Every) (h4 : x.Rows = y.Rows) (h5 : x.Keys = y.Keys) : x = y := by cases x; cases y; simp_all

set_option maxHeartbeats 2000000 in
theorem sz_Level (x : TLevel) (left : Int) (hg : Enc.gd x) (h0 : 0 ≤ left) (h1 : left ≤ 1048576) : Con Try.prog 28 [] [ag x,ai left] [] (I (szr (Enc.wt x) left)) := by
  have g_Rows : Enc.gd x.Rows := hg
  have hw : Enc.wt x = Enc.wt x.Rows := rfl
  have hm1 : decide ((-1 : Int) < 0) = true := rfl
  have hc_Rows := sz_StringS x.Rows (left) g_Rows (by omega) (by omega)
  by_cases n_Rows : left < Enc.wt x.Rows
  · rw [szr_neg n_Rows] at hc_Rows
    refine Con.of Try.func28 rfl Try.ntmps28 rfl (fun E => ?_)
    refine A_seq (A_region ?_);refine M1 (q_boxN rfl rfl rfl rfl) rfl rfl ?_;refine M0 (q_assignC rfl rfl rfl) rfl rfl ?_;refine L_nil (T_n (A_seq ?_))
    refine A_region ?_;refine M0 (q_fldp rfl rfl rfl rfl (by decide)) rfl rfl ?_;refine M0 (q_ld1 rfl rfl rfl rfl rfl) rfl rfl ?_;refine M0 (q_moveC rfl rfl rfl) rfl rfl ?_
    refine M0 (q_call0 rfl rfl (hc_Rows) rfl) rfl rfl ?_;refine M0 (q_assignC rfl rfl rfl) rfl rfl ?_;refine L_nil (T_n (A_seq (A_seq (A_region ?_))))
    refine M0 (q_moveC rfl rfl rfl) rfl rfl ?_;refine M0 (q_lssK rfl rfl rfl rfl (by assumption)) rfl rfl ?_;refine L_nil (T_n ?_);refine A_ifT rfl ?_;refine A_seq ?_
    refine A_region ?_;refine M0 (q_assignC rfl rfl rfl) rfl rfl ?_;refine L_nil (T_n (A_ret (T_r (F_r ?_))))
    exact E_tmp rfl rfl (W_end [] (by decide) rfl rfl (I_eq (by rw [szr_neg (by omega)])))
  rw [szr_pos (by omega)] at hc_Rows
  have hb_Rows : decide (left - Enc.wt x.Rows < 0) = false := decide_eq_false (by omega)
  refine Con.of Try.func28 rfl Try.ntmps28 rfl (fun E => ?_)
  refine A_seq (A_region ?_);refine M1 (q_boxN rfl rfl rfl rfl) rfl rfl ?_;refine M0 (q_assignC rfl rfl rfl) rfl rfl ?_;refine L_nil (T_n (A_seq ?_))
  refine A_region ?_;refine M0 (q_fldp rfl rfl rfl rfl (by decide)) rfl rfl ?_;refine M0 (q_ld1 rfl rfl rfl rfl rfl) rfl rfl ?_;refine M0 (q_moveC rfl rfl rfl) rfl rfl ?_
  refine M0 (q_call0 rfl rfl (hc_Rows) rfl) rfl rfl ?_;refine M0 (q_assignC rfl rfl rfl) rfl rfl ?_;refine L_nil (T_n (A_seq (A_seq (A_region ?_))))
  refine M0 (q_moveC rfl rfl rfl) rfl rfl ?_;refine M0 (q_lssK rfl rfl rfl rfl (by assumption)) rfl rfl ?_;refine L_nil (T_n ?_);refine A_ifF rfl ?_;refine A_skip (T_n ?_)
  refine A_seq (A_region ?_);refine M0 (q_moveC rfl rfl rfl) rfl rfl ?_;refine M0 (q_assignC rfl rfl rfl) rfl rfl ?_;refine L_nil (T_n (A_ret (F_r ?_)))
  exact E_tmp rfl rfl (W_end [] (by decide) rfl rfl (I_eq (by rw [szr_pos (by omega)]; omega)))
set_option maxHeartbeats 2000000 in
theorem to_Level (x : TLevel) (hg : Enc.wt x ≤ 1048576) : Con Try.prog 36 [] [ag x] (ownO (Enc.e x)) (.o (.ag (ownV 0 (Enc.e x)))) := by
  have hw : Enc.wt x = Enc.wt x.Rows := rfl
  refine Con.of Try.func36 rfl Try.ntmps36 rfl (fun E => ?_)
  refine A_seq (A_region ?_);refine M1 (q_boxN rfl rfl rfl rfl) rfl rfl ?_;refine M1 (q_alloc rfl rfl rfl) rfl rfl ?_;refine L_nil (T_n (A_seq ?_))
  refine A_region ?_;refine M1 (q_alloc rfl rfl rfl) rfl rfl ?_;refine L_nil (T_n (A_seq (A_region ?_)));refine M0 (q_fldp rfl rfl rfl rfl (by decide)) rfl rfl ?_
  refine M0 (q_ld1 rfl rfl rfl rfl rfl) rfl rfl ?_;refine M1 (q_call rfl rfl (to_StringS x.Rows (by omega)) rfl rfl rfl) rfl rfl ?_
  refine M0 (q_fldp rfl rfl rfl rfl (by decide)) rfl rfl ?_;refine M_st1 rfl rfl rfl rfl rfl rfl rfl rfl ?_;refine L_nil (T_n (A_seq (A_region ?_)))
  refine M0 (q_ldN rfl rfl rfl rfl rfl rfl) rfl rfl ?_;refine M_stN rfl rfl rfl rfl rfl rfl rfl rfl rfl ?_;refine L_nil (T_n (A_ret (F_r ?_)))
  exact E_cell rfl rfl rfl rfl (W_end [3] (by decide) rfl rfl rfl)
set_option maxHeartbeats 2000000 in
theorem eq_Level (x y : TLevel) (hg : Enc.gd x) : Con Try.prog 43 [] [ag x,ag y] [] (B (decide (x = y))) := by
  have g_Rows : Enc.gd x.Rows := hg
  by_cases e_Rows : ¬ x.Rows = y.Rows
  · have hc := eq_StringS x.Rows y.Rows g_Rows
    rw [decide_eq_false e_Rows] at hc
    refine Con.of Try.func43 rfl Try.ntmps43 rfl (fun E => ?_)
    refine A_seq (A_region ?_);refine M1 (q_boxN rfl rfl rfl rfl) rfl rfl ?_;refine M1 (q_boxN rfl rfl rfl rfl) rfl rfl ?_;refine M0 (q_assignC rfl rfl rfl) rfl rfl ?_
    refine L_nil (T_n (A_seq (A_seq (A_region ?_))));refine M0 (q_fldp rfl rfl rfl rfl (by decide)) rfl rfl ?_
    refine M0 (q_ld1 rfl rfl rfl rfl rfl) rfl rfl ?_;refine M0 (q_fldp rfl rfl rfl rfl (by decide)) rfl rfl ?_;refine M0 (q_ld1 rfl rfl rfl rfl rfl) rfl rfl ?_
    refine M0 (q_call0 rfl rfl (hc) rfl) rfl rfl ?_;refine M0 (q_not rfl rfl rfl) rfl rfl ?_;refine L_nil (T_n ?_);refine A_ifT rfl ?_;refine A_seq (A_region ?_)
    refine M0 (q_assignC rfl rfl rfl) rfl rfl ?_;refine L_nil (T_n (A_ret (T_r (F_r ?_))))
    exact E_tmp rfl rfl (W_end [] (by decide) rfl rfl (B_eq (decide_eq_false fun e => e_Rows (by rw [e])).symm))
  have e_Rows := Classical.not_not.1 e_Rows
  have hc_Rows := eq_StringS x.Rows y.Rows g_Rows
  rw [decide_eq_true e_Rows] at hc_Rows
  refine Con.of Try.func43 rfl Try.ntmps43 rfl (fun E => ?_)
  refine A_seq (A_region ?_);refine M1 (q_boxN rfl rfl rfl rfl) rfl rfl ?_;refine M1 (q_boxN rfl rfl rfl rfl) rfl rfl ?_;refine M0 (q_assignC rfl rfl rfl) rfl rfl ?_
  refine L_nil (T_n (A_seq (A_seq (A_region ?_))));refine M0 (q_fldp rfl rfl rfl rfl (by decide)) rfl rfl ?_
  refine M0 (q_ld1 rfl rfl rfl rfl rfl) rfl rfl ?_;refine M0 (q_fldp rfl rfl rfl rfl (by decide)) rfl rfl ?_;refine M0 (q_ld1 rfl rfl rfl rfl rfl) rfl rfl ?_
  refine M0 (q_call0 rfl rfl (hc_Rows) rfl) rfl rfl ?_;refine M0 (q_not rfl rfl rfl) rfl rfl ?_;refine L_nil (T_n ?_);refine A_ifF rfl ?_;refine A_skip (T_n ?_)
  refine A_seq (A_region ?_);refine M0 (q_assignC rfl rfl rfl) rfl rfl ?_;refine L_nil (T_n (A_ret (F_r ?_)))
  exact E_tmp rfl rfl (W_end [] (by decide) rfl rfl (B_eq (decide_eq_true (TLevel.same e_Rows)).symm))
set_option maxHeartbeats 2000000 in
theorem sz_Replay (x : TReplay) (left : Int) (hg : Enc.gd x) (h0 : 0 ≤ left) (h1 : left ≤ 1048576) : Con Try.prog 6 [] [ag x,ai left] [] (I (szr (Enc.wt x) left)) := by
  obtain ⟨g_Level,g_Players,g_Seed,g_Every,g_Rows,g_Keys⟩ := hg
  have hw : Enc.wt x = Enc.wt x.Level + Enc.wt x.Rows + Enc.wt x.Keys := rfl
  have hm1 : decide ((-1 : Int) < 0) = true := rfl
  have hc_Level := sz_Level x.Level (left) g_Level (by omega) (by omega)
  by_cases n_Level : left < Enc.wt x.Level
  · rw [szr_neg n_Level] at hc_Level
    refine Con.of Try.func6 rfl Try.ntmps6 rfl (fun E => ?_)
    refine A_seq (A_region ?_);refine M1 (q_boxN rfl rfl rfl rfl) rfl rfl ?_;refine M0 (q_assignC rfl rfl rfl) rfl rfl ?_;refine L_nil (T_n (A_seq ?_))
    refine A_region ?_;refine M0 (q_fldp rfl rfl rfl rfl (by decide)) rfl rfl ?_;refine M0 (q_ldN rfl rfl rfl rfl rfl rfl) rfl rfl ?_;refine M0 (q_moveC rfl rfl rfl) rfl rfl ?_
    refine M0 (q_call0 rfl rfl (hc_Level) rfl) rfl rfl ?_;refine M0 (q_assignC rfl rfl rfl) rfl rfl ?_;refine L_nil (T_n (A_seq (A_seq (A_region ?_))))
    refine M0 (q_moveC rfl rfl rfl) rfl rfl ?_;refine M0 (q_lssK rfl rfl rfl rfl (by assumption)) rfl rfl ?_;refine L_nil (T_n ?_);refine A_ifT rfl ?_;refine A_seq ?_
    refine A_region ?_;refine M0 (q_assignC rfl rfl rfl) rfl rfl ?_;refine L_nil (T_n (A_ret (T_r (F_r ?_))))
    exact E_tmp rfl rfl (W_end [] (by decide) rfl rfl (I_eq (by rw [szr_neg (by omega)])))
  rw [szr_pos (by omega)] at hc_Level
  have hb_Level : decide (left - Enc.wt x.Level < 0) = false := decide_eq_false (by omega)
  have hc_Rows := sz_IntSS x.Rows (left - Enc.wt x.Level) g_Rows (by omega) (by omega)
  by_cases n_Rows : left - Enc.wt x.Level < Enc.wt x.Rows
  · rw [szr_neg n_Rows] at hc_Rows
    refine Con.of Try.func6 rfl Try.ntmps6 rfl (fun E => ?_)
    refine A_seq (A_region ?_);refine M1 (q_boxN rfl rfl rfl rfl) rfl rfl ?_;refine M0 (q_assignC rfl rfl rfl) rfl rfl ?_;refine L_nil (T_n (A_seq ?_))
    refine A_region ?_;refine M0 (q_fldp rfl rfl rfl rfl (by decide)) rfl rfl ?_;refine M0 (q_ldN rfl rfl rfl rfl rfl rfl) rfl rfl ?_;refine M0 (q_moveC rfl rfl rfl) rfl rfl ?_
    refine M0 (q_call0 rfl rfl (hc_Level) rfl) rfl rfl ?_;refine M0 (q_assignC rfl rfl rfl) rfl rfl ?_;refine L_nil (T_n (A_seq (A_seq (A_region ?_))))
    refine M0 (q_moveC rfl rfl rfl) rfl rfl ?_;refine M0 (q_lssK rfl rfl rfl rfl (by assumption)) rfl rfl ?_;refine L_nil (T_n ?_);refine A_ifF rfl ?_;refine A_skip (T_n ?_)
    refine A_seq (A_region ?_);refine M0 (q_fldp rfl rfl rfl rfl (by decide)) rfl rfl ?_;refine M0 (q_ld1 rfl rfl rfl rfl rfl) rfl rfl ?_;refine M0 (q_moveC rfl rfl rfl) rfl rfl ?_
    refine M0 (q_call0 rfl rfl (hc_Rows) rfl) rfl rfl ?_;refine M0 (q_assignC rfl rfl rfl) rfl rfl ?_;refine L_nil (T_n (A_seq (A_seq (A_region ?_))))
    refine M0 (q_moveC rfl rfl rfl) rfl rfl ?_;refine M0 (q_lssK rfl rfl rfl rfl (by assumption)) rfl rfl ?_;refine L_nil (T_n ?_);refine A_ifT rfl ?_;refine A_seq ?_
    refine A_region ?_;refine M0 (q_assignC rfl rfl rfl) rfl rfl ?_;refine L_nil (T_n (A_ret (T_r (F_r ?_))))
    exact E_tmp rfl rfl (W_end [] (by decide) rfl rfl (I_eq (by rw [szr_neg (by omega)])))
  rw [szr_pos (by omega)] at hc_Rows
  have hb_Rows : decide (left - Enc.wt x.Level - Enc.wt x.Rows < 0) = false := decide_eq_false (by omega)
  have hc_Keys := sz_StringS x.Keys (left - Enc.wt x.Level - Enc.wt x.Rows) g_Keys (by omega) (by omega)
  by_cases n_Keys : left - Enc.wt x.Level - Enc.wt x.Rows < Enc.wt x.Keys
  · rw [szr_neg n_Keys] at hc_Keys
    refine Con.of Try.func6 rfl Try.ntmps6 rfl (fun E => ?_)
    refine A_seq (A_region ?_);refine M1 (q_boxN rfl rfl rfl rfl) rfl rfl ?_;refine M0 (q_assignC rfl rfl rfl) rfl rfl ?_;refine L_nil (T_n (A_seq ?_))
    refine A_region ?_;refine M0 (q_fldp rfl rfl rfl rfl (by decide)) rfl rfl ?_;refine M0 (q_ldN rfl rfl rfl rfl rfl rfl) rfl rfl ?_;refine M0 (q_moveC rfl rfl rfl) rfl rfl ?_
    refine M0 (q_call0 rfl rfl (hc_Level) rfl) rfl rfl ?_;refine M0 (q_assignC rfl rfl rfl) rfl rfl ?_;refine L_nil (T_n (A_seq (A_seq (A_region ?_))))
    refine M0 (q_moveC rfl rfl rfl) rfl rfl ?_;refine M0 (q_lssK rfl rfl rfl rfl (by assumption)) rfl rfl ?_;refine L_nil (T_n ?_);refine A_ifF rfl ?_;refine A_skip (T_n ?_)
    refine A_seq (A_region ?_);refine M0 (q_fldp rfl rfl rfl rfl (by decide)) rfl rfl ?_;refine M0 (q_ld1 rfl rfl rfl rfl rfl) rfl rfl ?_;refine M0 (q_moveC rfl rfl rfl) rfl rfl ?_
    refine M0 (q_call0 rfl rfl (hc_Rows) rfl) rfl rfl ?_;refine M0 (q_assignC rfl rfl rfl) rfl rfl ?_;refine L_nil (T_n (A_seq (A_seq (A_region ?_))))
    refine M0 (q_moveC rfl rfl rfl) rfl rfl ?_;refine M0 (q_lssK rfl rfl rfl rfl (by assumption)) rfl rfl ?_;refine L_nil (T_n ?_);refine A_ifF rfl ?_;refine A_skip (T_n ?_)
    refine A_seq (A_region ?_);refine M0 (q_fldp rfl rfl rfl rfl (by decide)) rfl rfl ?_;refine M0 (q_ld1 rfl rfl rfl rfl rfl) rfl rfl ?_;refine M0 (q_moveC rfl rfl rfl) rfl rfl ?_
    refine M0 (q_call0 rfl rfl (hc_Keys) rfl) rfl rfl ?_;refine M0 (q_assignC rfl rfl rfl) rfl rfl ?_;refine L_nil (T_n (A_seq (A_seq (A_region ?_))))
    refine M0 (q_moveC rfl rfl rfl) rfl rfl ?_;refine M0 (q_lssK rfl rfl rfl rfl (by assumption)) rfl rfl ?_;refine L_nil (T_n ?_);refine A_ifT rfl ?_;refine A_seq ?_
    refine A_region ?_;refine M0 (q_assignC rfl rfl rfl) rfl rfl ?_;refine L_nil (T_n (A_ret (T_r (F_r ?_))))
    exact E_tmp rfl rfl (W_end [] (by decide) rfl rfl (I_eq (by rw [szr_neg (by omega)])))
  rw [szr_pos (by omega)] at hc_Keys
  have hb_Keys : decide (left - Enc.wt x.Level - Enc.wt x.Rows - Enc.wt x.Keys < 0) = false := decide_eq_false (by omega)
  refine Con.of Try.func6 rfl Try.ntmps6 rfl (fun E => ?_)
  refine A_seq (A_region ?_);refine M1 (q_boxN rfl rfl rfl rfl) rfl rfl ?_;refine M0 (q_assignC rfl rfl rfl) rfl rfl ?_;refine L_nil (T_n (A_seq ?_))
  refine A_region ?_;refine M0 (q_fldp rfl rfl rfl rfl (by decide)) rfl rfl ?_;refine M0 (q_ldN rfl rfl rfl rfl rfl rfl) rfl rfl ?_;refine M0 (q_moveC rfl rfl rfl) rfl rfl ?_
  refine M0 (q_call0 rfl rfl (hc_Level) rfl) rfl rfl ?_;refine M0 (q_assignC rfl rfl rfl) rfl rfl ?_;refine L_nil (T_n (A_seq (A_seq (A_region ?_))))
  refine M0 (q_moveC rfl rfl rfl) rfl rfl ?_;refine M0 (q_lssK rfl rfl rfl rfl (by assumption)) rfl rfl ?_;refine L_nil (T_n ?_);refine A_ifF rfl ?_;refine A_skip (T_n ?_)
  refine A_seq (A_region ?_);refine M0 (q_fldp rfl rfl rfl rfl (by decide)) rfl rfl ?_;refine M0 (q_ld1 rfl rfl rfl rfl rfl) rfl rfl ?_;refine M0 (q_moveC rfl rfl rfl) rfl rfl ?_
  refine M0 (q_call0 rfl rfl (hc_Rows) rfl) rfl rfl ?_;refine M0 (q_assignC rfl rfl rfl) rfl rfl ?_;refine L_nil (T_n (A_seq (A_seq (A_region ?_))))
  refine M0 (q_moveC rfl rfl rfl) rfl rfl ?_;refine M0 (q_lssK rfl rfl rfl rfl (by assumption)) rfl rfl ?_;refine L_nil (T_n ?_);refine A_ifF rfl ?_;refine A_skip (T_n ?_)
  refine A_seq (A_region ?_);refine M0 (q_fldp rfl rfl rfl rfl (by decide)) rfl rfl ?_;refine M0 (q_ld1 rfl rfl rfl rfl rfl) rfl rfl ?_;refine M0 (q_moveC rfl rfl rfl) rfl rfl ?_
  refine M0 (q_call0 rfl rfl (hc_Keys) rfl) rfl rfl ?_;refine M0 (q_assignC rfl rfl rfl) rfl rfl ?_;refine L_nil (T_n (A_seq (A_seq (A_region ?_))))
  refine M0 (q_moveC rfl rfl rfl) rfl rfl ?_;refine M0 (q_lssK rfl rfl rfl rfl (by assumption)) rfl rfl ?_;refine L_nil (T_n ?_);refine A_ifF rfl ?_;refine A_skip (T_n ?_)
  refine A_seq (A_region ?_);refine M0 (q_moveC rfl rfl rfl) rfl rfl ?_;refine M0 (q_assignC rfl rfl rfl) rfl rfl ?_;refine L_nil (T_n (A_ret (F_r ?_)))
  exact E_tmp rfl rfl (W_end [] (by decide) rfl rfl (I_eq (by rw [szr_pos (by omega)]; omega)))
set_option maxHeartbeats 2000000 in
theorem to_Replay (x : TReplay) (hg : Enc.wt x ≤ 1048576) : Con Try.prog 8 [] [ag x] (ownO (Enc.e x)) (.o (.ag (ownV 0 (Enc.e x)))) := by
  have hw : Enc.wt x = Enc.wt x.Level + Enc.wt x.Rows + Enc.wt x.Keys := rfl
  refine Con.of Try.func8 rfl Try.ntmps8 rfl (fun E => ?_)
  refine A_seq (A_region ?_);refine M1 (q_boxN rfl rfl rfl rfl) rfl rfl ?_;refine M1 (q_alloc rfl rfl rfl) rfl rfl ?_;refine L_nil (T_n (A_seq ?_))
  refine A_region ?_;refine M1 (q_alloc rfl rfl rfl) rfl rfl ?_;refine L_nil (T_n (A_seq (A_region ?_)));refine M0 (q_fldp rfl rfl rfl rfl (by decide)) rfl rfl ?_
  refine M0 (q_ldN rfl rfl rfl rfl rfl rfl) rfl rfl ?_;refine M1 (q_call rfl rfl (to_Level x.Level (by omega)) rfl rfl rfl) rfl rfl ?_
  refine M0 (q_fldp rfl rfl rfl rfl (by decide)) rfl rfl ?_;refine M_stN rfl rfl rfl rfl rfl rfl rfl rfl rfl ?_;refine L_nil (T_n (A_seq (A_region ?_)))
  refine M0 (q_fldp rfl rfl rfl rfl (by decide)) rfl rfl ?_;refine M0 (q_ld1 rfl rfl rfl rfl rfl) rfl rfl ?_;refine M0 (q_fldp rfl rfl rfl rfl (by decide)) rfl rfl ?_
  refine M_st1 rfl rfl rfl rfl rfl rfl rfl rfl ?_;refine L_nil (T_n (A_seq (A_region ?_)));refine M0 (q_fldp rfl rfl rfl rfl (by decide)) rfl rfl ?_
  refine M0 (q_ld1 rfl rfl rfl rfl rfl) rfl rfl ?_;refine M0 (q_fldp rfl rfl rfl rfl (by decide)) rfl rfl ?_;refine M_st1 rfl rfl rfl rfl rfl rfl rfl rfl ?_;refine L_nil (T_n ?_)
  refine A_seq (A_region ?_);refine M0 (q_fldp rfl rfl rfl rfl (by decide)) rfl rfl ?_;refine M0 (q_ld1 rfl rfl rfl rfl rfl) rfl rfl ?_
  refine M0 (q_fldp rfl rfl rfl rfl (by decide)) rfl rfl ?_;refine M_st1 rfl rfl rfl rfl rfl rfl rfl rfl ?_;refine L_nil (T_n (A_seq (A_region ?_)))
  refine M0 (q_fldp rfl rfl rfl rfl (by decide)) rfl rfl ?_;refine M0 (q_ld1 rfl rfl rfl rfl rfl) rfl rfl ?_
  refine M1 (q_call rfl rfl (to_IntSS x.Rows (by omega)) rfl rfl rfl) rfl rfl ?_;refine M0 (q_fldp rfl rfl rfl rfl (by decide)) rfl rfl ?_
  refine M_st1 rfl rfl rfl rfl rfl rfl rfl rfl ?_;refine L_nil (T_n (A_seq (A_region ?_)));refine M0 (q_fldp rfl rfl rfl rfl (by decide)) rfl rfl ?_
  refine M0 (q_ld1 rfl rfl rfl rfl rfl) rfl rfl ?_;refine M1 (q_call rfl rfl (to_StringS x.Keys (by omega)) rfl rfl rfl) rfl rfl ?_
  refine M0 (q_fldp rfl rfl rfl rfl (by decide)) rfl rfl ?_;refine M_st1 rfl rfl rfl rfl rfl rfl rfl rfl ?_;refine L_nil (T_n (A_seq (A_region ?_)))
  refine M0 (q_ldN rfl rfl rfl rfl rfl rfl) rfl rfl ?_;refine M_stN rfl rfl rfl rfl rfl rfl rfl rfl rfl ?_;refine L_nil (T_n (A_ret (F_r ?_)))
  exact E_cell rfl rfl rfl rfl (W_end [3,4,5] (by decide) rfl rfl rfl)
set_option maxHeartbeats 2000000 in
theorem eq_Replay (x y : TReplay) (hg : Enc.gd x) : Con Try.prog 11 [] [ag x,ag y] [] (B (decide (x = y))) := by
  obtain ⟨g_Level,g_Players,g_Seed,g_Every,g_Rows,g_Keys⟩ := hg
  by_cases e_Level : ¬ x.Level = y.Level
  · have hc := eq_Level x.Level y.Level g_Level
    rw [decide_eq_false e_Level] at hc
    refine Con.of Try.func11 rfl Try.ntmps11 rfl (fun E => ?_)
    refine A_seq (A_region ?_);refine M1 (q_boxN rfl rfl rfl rfl) rfl rfl ?_;refine M1 (q_boxN rfl rfl rfl rfl) rfl rfl ?_;refine M0 (q_assignC rfl rfl rfl) rfl rfl ?_
    refine L_nil (T_n (A_seq (A_seq (A_region ?_))));refine M0 (q_fldp rfl rfl rfl rfl (by decide)) rfl rfl ?_
    refine M0 (q_ldN rfl rfl rfl rfl rfl rfl) rfl rfl ?_;refine M0 (q_fldp rfl rfl rfl rfl (by decide)) rfl rfl ?_;refine M0 (q_ldN rfl rfl rfl rfl rfl rfl) rfl rfl ?_
    refine M0 (q_call0 rfl rfl (hc) rfl) rfl rfl ?_;refine M0 (q_not rfl rfl rfl) rfl rfl ?_;refine L_nil (T_n ?_);refine A_ifT rfl ?_;refine A_seq (A_region ?_)
    refine M0 (q_assignC rfl rfl rfl) rfl rfl ?_;refine L_nil (T_n (A_ret (T_r (F_r ?_))))
    exact E_tmp rfl rfl (W_end [] (by decide) rfl rfl (B_eq (decide_eq_false fun e => e_Level (by rw [e])).symm))
  have e_Level := Classical.not_not.1 e_Level
  have hc_Level := eq_Level x.Level y.Level g_Level
  rw [decide_eq_true e_Level] at hc_Level
  by_cases e_Players : ¬ x.Players = y.Players
  · have hk : decide (x.Players ≠ y.Players) = true := by simp [e_Players]
    refine Con.of Try.func11 rfl Try.ntmps11 rfl (fun E => ?_)
    refine A_seq (A_region ?_);refine M1 (q_boxN rfl rfl rfl rfl) rfl rfl ?_;refine M1 (q_boxN rfl rfl rfl rfl) rfl rfl ?_;refine M0 (q_assignC rfl rfl rfl) rfl rfl ?_
    refine L_nil (T_n (A_seq (A_seq (A_region ?_))));refine M0 (q_fldp rfl rfl rfl rfl (by decide)) rfl rfl ?_
    refine M0 (q_ldN rfl rfl rfl rfl rfl rfl) rfl rfl ?_;refine M0 (q_fldp rfl rfl rfl rfl (by decide)) rfl rfl ?_;refine M0 (q_ldN rfl rfl rfl rfl rfl rfl) rfl rfl ?_
    refine M0 (q_call0 rfl rfl (hc_Level) rfl) rfl rfl ?_;refine M0 (q_not rfl rfl rfl) rfl rfl ?_;refine L_nil (T_n ?_);refine A_ifF rfl ?_;refine A_skip (T_n ?_)
    refine A_seq (A_seq (A_region ?_));refine M0 (q_fldp rfl rfl rfl rfl (by decide)) rfl rfl ?_;refine M0 (q_ld1 rfl rfl rfl rfl rfl) rfl rfl ?_
    refine M0 (q_fldp rfl rfl rfl rfl (by decide)) rfl rfl ?_;refine M0 (q_ld1 rfl rfl rfl rfl rfl) rfl rfl ?_;refine M0 (q_neqK rfl rfl rfl rfl (by assumption)) rfl rfl ?_
    refine L_nil (T_n ?_);refine A_ifT rfl ?_;refine A_seq (A_region ?_);refine M0 (q_assignC rfl rfl rfl) rfl rfl ?_;refine L_nil (T_n (A_ret (T_r ?_)))
    refine F_r ?_
    exact E_tmp rfl rfl (W_end [] (by decide) rfl rfl (B_eq (decide_eq_false fun e => e_Players (by rw [e])).symm))
  have e_Players := Classical.not_not.1 e_Players
  have k_Players : decide (x.Players ≠ y.Players) = false := by simp [e_Players]
  by_cases e_Seed : ¬ x.Seed = y.Seed
  · have hk : decide (x.Seed ≠ y.Seed) = true := by simp [e_Seed]
    refine Con.of Try.func11 rfl Try.ntmps11 rfl (fun E => ?_)
    refine A_seq (A_region ?_);refine M1 (q_boxN rfl rfl rfl rfl) rfl rfl ?_;refine M1 (q_boxN rfl rfl rfl rfl) rfl rfl ?_;refine M0 (q_assignC rfl rfl rfl) rfl rfl ?_
    refine L_nil (T_n (A_seq (A_seq (A_region ?_))));refine M0 (q_fldp rfl rfl rfl rfl (by decide)) rfl rfl ?_
    refine M0 (q_ldN rfl rfl rfl rfl rfl rfl) rfl rfl ?_;refine M0 (q_fldp rfl rfl rfl rfl (by decide)) rfl rfl ?_;refine M0 (q_ldN rfl rfl rfl rfl rfl rfl) rfl rfl ?_
    refine M0 (q_call0 rfl rfl (hc_Level) rfl) rfl rfl ?_;refine M0 (q_not rfl rfl rfl) rfl rfl ?_;refine L_nil (T_n ?_);refine A_ifF rfl ?_;refine A_skip (T_n ?_)
    refine A_seq (A_seq (A_region ?_));refine M0 (q_fldp rfl rfl rfl rfl (by decide)) rfl rfl ?_;refine M0 (q_ld1 rfl rfl rfl rfl rfl) rfl rfl ?_
    refine M0 (q_fldp rfl rfl rfl rfl (by decide)) rfl rfl ?_;refine M0 (q_ld1 rfl rfl rfl rfl rfl) rfl rfl ?_;refine M0 (q_neqK rfl rfl rfl rfl (by assumption)) rfl rfl ?_
    refine L_nil (T_n ?_);refine A_ifF rfl ?_;refine A_skip (T_n (A_seq (A_seq (A_region ?_))))
    refine M0 (q_fldp rfl rfl rfl rfl (by decide)) rfl rfl ?_;refine M0 (q_ld1 rfl rfl rfl rfl rfl) rfl rfl ?_;refine M0 (q_fldp rfl rfl rfl rfl (by decide)) rfl rfl ?_
    refine M0 (q_ld1 rfl rfl rfl rfl rfl) rfl rfl ?_;refine M0 (q_neqK rfl rfl rfl rfl (by assumption)) rfl rfl ?_;refine L_nil (T_n ?_);refine A_ifT rfl ?_;refine A_seq ?_
    refine A_region ?_;refine M0 (q_assignC rfl rfl rfl) rfl rfl ?_;refine L_nil (T_n (A_ret (T_r (F_r ?_))))
    exact E_tmp rfl rfl (W_end [] (by decide) rfl rfl (B_eq (decide_eq_false fun e => e_Seed (by rw [e])).symm))
  have e_Seed := Classical.not_not.1 e_Seed
  have k_Seed : decide (x.Seed ≠ y.Seed) = false := by simp [e_Seed]
  by_cases e_Every : ¬ x.Every = y.Every
  · have hk : decide (x.Every ≠ y.Every) = true := by simp [e_Every]
    refine Con.of Try.func11 rfl Try.ntmps11 rfl (fun E => ?_)
    refine A_seq (A_region ?_);refine M1 (q_boxN rfl rfl rfl rfl) rfl rfl ?_;refine M1 (q_boxN rfl rfl rfl rfl) rfl rfl ?_;refine M0 (q_assignC rfl rfl rfl) rfl rfl ?_
    refine L_nil (T_n (A_seq (A_seq (A_region ?_))));refine M0 (q_fldp rfl rfl rfl rfl (by decide)) rfl rfl ?_
    refine M0 (q_ldN rfl rfl rfl rfl rfl rfl) rfl rfl ?_;refine M0 (q_fldp rfl rfl rfl rfl (by decide)) rfl rfl ?_;refine M0 (q_ldN rfl rfl rfl rfl rfl rfl) rfl rfl ?_
    refine M0 (q_call0 rfl rfl (hc_Level) rfl) rfl rfl ?_;refine M0 (q_not rfl rfl rfl) rfl rfl ?_;refine L_nil (T_n ?_);refine A_ifF rfl ?_;refine A_skip (T_n ?_)
    refine A_seq (A_seq (A_region ?_));refine M0 (q_fldp rfl rfl rfl rfl (by decide)) rfl rfl ?_;refine M0 (q_ld1 rfl rfl rfl rfl rfl) rfl rfl ?_
    refine M0 (q_fldp rfl rfl rfl rfl (by decide)) rfl rfl ?_;refine M0 (q_ld1 rfl rfl rfl rfl rfl) rfl rfl ?_;refine M0 (q_neqK rfl rfl rfl rfl (by assumption)) rfl rfl ?_
    refine L_nil (T_n ?_);refine A_ifF rfl ?_;refine A_skip (T_n (A_seq (A_seq (A_region ?_))))
    refine M0 (q_fldp rfl rfl rfl rfl (by decide)) rfl rfl ?_;refine M0 (q_ld1 rfl rfl rfl rfl rfl) rfl rfl ?_;refine M0 (q_fldp rfl rfl rfl rfl (by decide)) rfl rfl ?_
    refine M0 (q_ld1 rfl rfl rfl rfl rfl) rfl rfl ?_;refine M0 (q_neqK rfl rfl rfl rfl (by assumption)) rfl rfl ?_;refine L_nil (T_n ?_);refine A_ifF rfl ?_;refine A_skip ?_
    refine T_n (A_seq (A_seq (A_region ?_)));refine M0 (q_fldp rfl rfl rfl rfl (by decide)) rfl rfl ?_;refine M0 (q_ld1 rfl rfl rfl rfl rfl) rfl rfl ?_
    refine M0 (q_fldp rfl rfl rfl rfl (by decide)) rfl rfl ?_;refine M0 (q_ld1 rfl rfl rfl rfl rfl) rfl rfl ?_;refine M0 (q_neqK rfl rfl rfl rfl (by assumption)) rfl rfl ?_
    refine L_nil (T_n ?_);refine A_ifT rfl ?_;refine A_seq (A_region ?_);refine M0 (q_assignC rfl rfl rfl) rfl rfl ?_;refine L_nil (T_n (A_ret (T_r ?_)))
    refine F_r ?_
    exact E_tmp rfl rfl (W_end [] (by decide) rfl rfl (B_eq (decide_eq_false fun e => e_Every (by rw [e])).symm))
  have e_Every := Classical.not_not.1 e_Every
  have k_Every : decide (x.Every ≠ y.Every) = false := by simp [e_Every]
  by_cases e_Rows : ¬ x.Rows = y.Rows
  · have hc := eq_IntSS x.Rows y.Rows g_Rows
    rw [decide_eq_false e_Rows] at hc
    refine Con.of Try.func11 rfl Try.ntmps11 rfl (fun E => ?_)
    refine A_seq (A_region ?_);refine M1 (q_boxN rfl rfl rfl rfl) rfl rfl ?_;refine M1 (q_boxN rfl rfl rfl rfl) rfl rfl ?_;refine M0 (q_assignC rfl rfl rfl) rfl rfl ?_
    refine L_nil (T_n (A_seq (A_seq (A_region ?_))));refine M0 (q_fldp rfl rfl rfl rfl (by decide)) rfl rfl ?_
    refine M0 (q_ldN rfl rfl rfl rfl rfl rfl) rfl rfl ?_;refine M0 (q_fldp rfl rfl rfl rfl (by decide)) rfl rfl ?_;refine M0 (q_ldN rfl rfl rfl rfl rfl rfl) rfl rfl ?_
    refine M0 (q_call0 rfl rfl (hc_Level) rfl) rfl rfl ?_;refine M0 (q_not rfl rfl rfl) rfl rfl ?_;refine L_nil (T_n ?_);refine A_ifF rfl ?_;refine A_skip (T_n ?_)
    refine A_seq (A_seq (A_region ?_));refine M0 (q_fldp rfl rfl rfl rfl (by decide)) rfl rfl ?_;refine M0 (q_ld1 rfl rfl rfl rfl rfl) rfl rfl ?_
    refine M0 (q_fldp rfl rfl rfl rfl (by decide)) rfl rfl ?_;refine M0 (q_ld1 rfl rfl rfl rfl rfl) rfl rfl ?_;refine M0 (q_neqK rfl rfl rfl rfl (by assumption)) rfl rfl ?_
    refine L_nil (T_n ?_);refine A_ifF rfl ?_;refine A_skip (T_n (A_seq (A_seq (A_region ?_))))
    refine M0 (q_fldp rfl rfl rfl rfl (by decide)) rfl rfl ?_;refine M0 (q_ld1 rfl rfl rfl rfl rfl) rfl rfl ?_;refine M0 (q_fldp rfl rfl rfl rfl (by decide)) rfl rfl ?_
    refine M0 (q_ld1 rfl rfl rfl rfl rfl) rfl rfl ?_;refine M0 (q_neqK rfl rfl rfl rfl (by assumption)) rfl rfl ?_;refine L_nil (T_n ?_);refine A_ifF rfl ?_;refine A_skip ?_
    refine T_n (A_seq (A_seq (A_region ?_)));refine M0 (q_fldp rfl rfl rfl rfl (by decide)) rfl rfl ?_;refine M0 (q_ld1 rfl rfl rfl rfl rfl) rfl rfl ?_
    refine M0 (q_fldp rfl rfl rfl rfl (by decide)) rfl rfl ?_;refine M0 (q_ld1 rfl rfl rfl rfl rfl) rfl rfl ?_;refine M0 (q_neqK rfl rfl rfl rfl (by assumption)) rfl rfl ?_
    refine L_nil (T_n ?_);refine A_ifF rfl ?_;refine A_skip (T_n (A_seq (A_seq (A_region ?_))))
    refine M0 (q_fldp rfl rfl rfl rfl (by decide)) rfl rfl ?_;refine M0 (q_ld1 rfl rfl rfl rfl rfl) rfl rfl ?_;refine M0 (q_fldp rfl rfl rfl rfl (by decide)) rfl rfl ?_
    refine M0 (q_ld1 rfl rfl rfl rfl rfl) rfl rfl ?_;refine M0 (q_call0 rfl rfl (hc) rfl) rfl rfl ?_;refine M0 (q_not rfl rfl rfl) rfl rfl ?_;refine L_nil (T_n ?_)
    refine A_ifT rfl ?_;refine A_seq (A_region ?_);refine M0 (q_assignC rfl rfl rfl) rfl rfl ?_;refine L_nil (T_n (A_ret (T_r (F_r ?_))))
    exact E_tmp rfl rfl (W_end [] (by decide) rfl rfl (B_eq (decide_eq_false fun e => e_Rows (by rw [e])).symm))
  have e_Rows := Classical.not_not.1 e_Rows
  have hc_Rows := eq_IntSS x.Rows y.Rows g_Rows
  rw [decide_eq_true e_Rows] at hc_Rows
  by_cases e_Keys : ¬ x.Keys = y.Keys
  · have hc := eq_StringS x.Keys y.Keys g_Keys
    rw [decide_eq_false e_Keys] at hc
    refine Con.of Try.func11 rfl Try.ntmps11 rfl (fun E => ?_)
    refine A_seq (A_region ?_);refine M1 (q_boxN rfl rfl rfl rfl) rfl rfl ?_;refine M1 (q_boxN rfl rfl rfl rfl) rfl rfl ?_;refine M0 (q_assignC rfl rfl rfl) rfl rfl ?_
    refine L_nil (T_n (A_seq (A_seq (A_region ?_))));refine M0 (q_fldp rfl rfl rfl rfl (by decide)) rfl rfl ?_
    refine M0 (q_ldN rfl rfl rfl rfl rfl rfl) rfl rfl ?_;refine M0 (q_fldp rfl rfl rfl rfl (by decide)) rfl rfl ?_;refine M0 (q_ldN rfl rfl rfl rfl rfl rfl) rfl rfl ?_
    refine M0 (q_call0 rfl rfl (hc_Level) rfl) rfl rfl ?_;refine M0 (q_not rfl rfl rfl) rfl rfl ?_;refine L_nil (T_n ?_);refine A_ifF rfl ?_;refine A_skip (T_n ?_)
    refine A_seq (A_seq (A_region ?_));refine M0 (q_fldp rfl rfl rfl rfl (by decide)) rfl rfl ?_;refine M0 (q_ld1 rfl rfl rfl rfl rfl) rfl rfl ?_
    refine M0 (q_fldp rfl rfl rfl rfl (by decide)) rfl rfl ?_;refine M0 (q_ld1 rfl rfl rfl rfl rfl) rfl rfl ?_;refine M0 (q_neqK rfl rfl rfl rfl (by assumption)) rfl rfl ?_
    refine L_nil (T_n ?_);refine A_ifF rfl ?_;refine A_skip (T_n (A_seq (A_seq (A_region ?_))))
    refine M0 (q_fldp rfl rfl rfl rfl (by decide)) rfl rfl ?_;refine M0 (q_ld1 rfl rfl rfl rfl rfl) rfl rfl ?_;refine M0 (q_fldp rfl rfl rfl rfl (by decide)) rfl rfl ?_
    refine M0 (q_ld1 rfl rfl rfl rfl rfl) rfl rfl ?_;refine M0 (q_neqK rfl rfl rfl rfl (by assumption)) rfl rfl ?_;refine L_nil (T_n ?_);refine A_ifF rfl ?_;refine A_skip ?_
    refine T_n (A_seq (A_seq (A_region ?_)));refine M0 (q_fldp rfl rfl rfl rfl (by decide)) rfl rfl ?_;refine M0 (q_ld1 rfl rfl rfl rfl rfl) rfl rfl ?_
    refine M0 (q_fldp rfl rfl rfl rfl (by decide)) rfl rfl ?_;refine M0 (q_ld1 rfl rfl rfl rfl rfl) rfl rfl ?_;refine M0 (q_neqK rfl rfl rfl rfl (by assumption)) rfl rfl ?_
    refine L_nil (T_n ?_);refine A_ifF rfl ?_;refine A_skip (T_n (A_seq (A_seq (A_region ?_))))
    refine M0 (q_fldp rfl rfl rfl rfl (by decide)) rfl rfl ?_;refine M0 (q_ld1 rfl rfl rfl rfl rfl) rfl rfl ?_;refine M0 (q_fldp rfl rfl rfl rfl (by decide)) rfl rfl ?_
    refine M0 (q_ld1 rfl rfl rfl rfl rfl) rfl rfl ?_;refine M0 (q_call0 rfl rfl (hc_Rows) rfl) rfl rfl ?_;refine M0 (q_not rfl rfl rfl) rfl rfl ?_;refine L_nil (T_n ?_)
    refine A_ifF rfl ?_;refine A_skip (T_n (A_seq (A_seq (A_region ?_))));refine M0 (q_fldp rfl rfl rfl rfl (by decide)) rfl rfl ?_
    refine M0 (q_ld1 rfl rfl rfl rfl rfl) rfl rfl ?_;refine M0 (q_fldp rfl rfl rfl rfl (by decide)) rfl rfl ?_;refine M0 (q_ld1 rfl rfl rfl rfl rfl) rfl rfl ?_
    refine M0 (q_call0 rfl rfl (hc) rfl) rfl rfl ?_;refine M0 (q_not rfl rfl rfl) rfl rfl ?_;refine L_nil (T_n ?_);refine A_ifT rfl ?_;refine A_seq (A_region ?_)
    refine M0 (q_assignC rfl rfl rfl) rfl rfl ?_;refine L_nil (T_n (A_ret (T_r (F_r ?_))))
    exact E_tmp rfl rfl (W_end [] (by decide) rfl rfl (B_eq (decide_eq_false fun e => e_Keys (by rw [e])).symm))
  have e_Keys := Classical.not_not.1 e_Keys
  have hc_Keys := eq_StringS x.Keys y.Keys g_Keys
  rw [decide_eq_true e_Keys] at hc_Keys
  refine Con.of Try.func11 rfl Try.ntmps11 rfl (fun E => ?_)
  refine A_seq (A_region ?_);refine M1 (q_boxN rfl rfl rfl rfl) rfl rfl ?_;refine M1 (q_boxN rfl rfl rfl rfl) rfl rfl ?_;refine M0 (q_assignC rfl rfl rfl) rfl rfl ?_
  refine L_nil (T_n (A_seq (A_seq (A_region ?_))));refine M0 (q_fldp rfl rfl rfl rfl (by decide)) rfl rfl ?_
  refine M0 (q_ldN rfl rfl rfl rfl rfl rfl) rfl rfl ?_;refine M0 (q_fldp rfl rfl rfl rfl (by decide)) rfl rfl ?_;refine M0 (q_ldN rfl rfl rfl rfl rfl rfl) rfl rfl ?_
  refine M0 (q_call0 rfl rfl (hc_Level) rfl) rfl rfl ?_;refine M0 (q_not rfl rfl rfl) rfl rfl ?_;refine L_nil (T_n ?_);refine A_ifF rfl ?_;refine A_skip (T_n ?_)
  refine A_seq (A_seq (A_region ?_));refine M0 (q_fldp rfl rfl rfl rfl (by decide)) rfl rfl ?_;refine M0 (q_ld1 rfl rfl rfl rfl rfl) rfl rfl ?_
  refine M0 (q_fldp rfl rfl rfl rfl (by decide)) rfl rfl ?_;refine M0 (q_ld1 rfl rfl rfl rfl rfl) rfl rfl ?_;refine M0 (q_neqK rfl rfl rfl rfl (by assumption)) rfl rfl ?_
  refine L_nil (T_n ?_);refine A_ifF rfl ?_;refine A_skip (T_n (A_seq (A_seq (A_region ?_))))
  refine M0 (q_fldp rfl rfl rfl rfl (by decide)) rfl rfl ?_;refine M0 (q_ld1 rfl rfl rfl rfl rfl) rfl rfl ?_;refine M0 (q_fldp rfl rfl rfl rfl (by decide)) rfl rfl ?_
  refine M0 (q_ld1 rfl rfl rfl rfl rfl) rfl rfl ?_;refine M0 (q_neqK rfl rfl rfl rfl (by assumption)) rfl rfl ?_;refine L_nil (T_n ?_);refine A_ifF rfl ?_;refine A_skip ?_
  refine T_n (A_seq (A_seq (A_region ?_)));refine M0 (q_fldp rfl rfl rfl rfl (by decide)) rfl rfl ?_;refine M0 (q_ld1 rfl rfl rfl rfl rfl) rfl rfl ?_
  refine M0 (q_fldp rfl rfl rfl rfl (by decide)) rfl rfl ?_;refine M0 (q_ld1 rfl rfl rfl rfl rfl) rfl rfl ?_;refine M0 (q_neqK rfl rfl rfl rfl (by assumption)) rfl rfl ?_
  refine L_nil (T_n ?_);refine A_ifF rfl ?_;refine A_skip (T_n (A_seq (A_seq (A_region ?_))))
  refine M0 (q_fldp rfl rfl rfl rfl (by decide)) rfl rfl ?_;refine M0 (q_ld1 rfl rfl rfl rfl rfl) rfl rfl ?_;refine M0 (q_fldp rfl rfl rfl rfl (by decide)) rfl rfl ?_
  refine M0 (q_ld1 rfl rfl rfl rfl rfl) rfl rfl ?_;refine M0 (q_call0 rfl rfl (hc_Rows) rfl) rfl rfl ?_;refine M0 (q_not rfl rfl rfl) rfl rfl ?_;refine L_nil (T_n ?_)
  refine A_ifF rfl ?_;refine A_skip (T_n (A_seq (A_seq (A_region ?_))));refine M0 (q_fldp rfl rfl rfl rfl (by decide)) rfl rfl ?_
  refine M0 (q_ld1 rfl rfl rfl rfl rfl) rfl rfl ?_;refine M0 (q_fldp rfl rfl rfl rfl (by decide)) rfl rfl ?_;refine M0 (q_ld1 rfl rfl rfl rfl rfl) rfl rfl ?_
  refine M0 (q_call0 rfl rfl (hc_Keys) rfl) rfl rfl ?_;refine M0 (q_not rfl rfl rfl) rfl rfl ?_;refine L_nil (T_n ?_);refine A_ifF rfl ?_;refine A_skip (T_n ?_)
  refine A_seq (A_region ?_);refine M0 (q_assignC rfl rfl rfl) rfl rfl ?_;refine L_nil (T_n (A_ret (F_r ?_)))
  exact E_tmp rfl rfl (W_end [] (by decide) rfl rfl (B_eq (decide_eq_true (TReplay.same e_Level e_Players e_Seed e_Every e_Rows e_Keys)).symm))

end Go.Proofs.Ytmljakmaffbnlaa
end

section
set_option linter.unusedSimpArgs false
set_option linter.unusedVariables false
namespace Go.Proofs.Ytmljakmaffbnlaa
open Go.RowKit

def inR (n lo hi : Int) : Bool := decide (lo ≤ n) && decide (n ≤ hi)
theorem inR_iff {n lo hi : Int} : inR n lo hi = true ↔ lo ≤ n ∧ n ≤ hi := by simp [inR]
set_option maxHeartbeats 8000000 in
theorem I_between (n lo hi : Int) : Con Try.prog 65 [] [ai n,ai lo,ai hi] [] (B (inR n lo hi)) := by
  refine Con.of Try.func65 rfl Try.ntmps65 rfl (fun E => ?_)
  refine A_seq (A_region ?_);refine M0 (q_assignC rfl rfl rfl) rfl rfl ?_;refine L_nil (T_n (A_seq (A_region ?_)));refine M0 (q_moveC rfl rfl rfl) rfl rfl ?_
  refine M0 (q_moveC rfl rfl rfl) rfl rfl ?_;refine M0 (q_geq rfl rfl rfl rfl) rfl rfl ?_;refine M0 (q_moveC rfl rfl rfl) rfl rfl ?_
  refine M0 (Qt.grdT rfl rfl rfl .stop (fun hgrd => q_moveC rfl rfl rfl)) rfl rfl ?_;refine M0 (Qt.grdT rfl rfl rfl (.hit .stop) (fun hgrd => q_moveC rfl rfl rfl)) rfl rfl ?_
  refine M0 (Qt.grdT rfl rfl rfl (.hit (.hit .stop)) (fun hgrd => q_leq rfl rfl rfl rfl)) rfl rfl ?_;refine M0 (q_and rfl rfl rfl rfl) rfl rfl ?_
  refine M0 (q_assignC rfl rfl rfl) rfl rfl ?_;refine L_nil (T_n (A_ret (F_r ?_)))
  exact E_tmp rfl rfl (W_end [] (by decide) rfl rfl rfl)
set_option maxHeartbeats 8000000 in
theorem S_in (n lo hi : Int) : Con Try.prog 31 [] [ai n,ai lo,ai hi] [] (B (inR n lo hi)) := by
  refine Con.of Try.func31 rfl Try.ntmps31 rfl (fun E => ?_)
  refine A_seq (A_region ?_);refine M0 (q_assignC rfl rfl rfl) rfl rfl ?_;refine L_nil (T_n (A_seq (A_region ?_)));refine M0 (q_moveC rfl rfl rfl) rfl rfl ?_
  refine M0 (q_moveC rfl rfl rfl) rfl rfl ?_;refine M0 (q_geq rfl rfl rfl rfl) rfl rfl ?_;refine M0 (q_moveC rfl rfl rfl) rfl rfl ?_
  refine M0 (Qt.grdT rfl rfl rfl .stop (fun hgrd => q_moveC rfl rfl rfl)) rfl rfl ?_;refine M0 (Qt.grdT rfl rfl rfl (.hit .stop) (fun hgrd => q_moveC rfl rfl rfl)) rfl rfl ?_
  refine M0 (Qt.grdT rfl rfl rfl (.hit (.hit .stop)) (fun hgrd => q_leq rfl rfl rfl rfl)) rfl rfl ?_;refine M0 (q_and rfl rfl rfl rfl) rfl rfl ?_
  refine M0 (q_assignC rfl rfl rfl) rfl rfl ?_;refine L_nil (T_n (A_ret (F_r ?_)))
  exact E_tmp rfl rfl (W_end [] (by decide) rfl rfl rfl)

section
variable {α : Type} {p : α → Bool} {xs : List α} {k : Nat}
theorem all_next (h : (xs.take k).all p = true) (hk : k < xs.length) (hp : p xs[k] = true) : (xs.take (k + 1)).all p = true := by
  rw [List.take_succ_eq_append_getElem hk,List.all_append,h]
  simp [hp]
theorem all_no (hk : k < xs.length) (hp : p xs[k] = false) : xs.all p = false := by
  rw [List.all_eq_false]
  exact ⟨_,List.getElem_mem hk,by simp [hp]⟩
theorem all_end (h : (xs.take k).all p = true) (hk : xs.length ≤ k) : xs.all p = true := by rwa [List.take_of_length_le hk] at h
end
def inOk (xs : List Int) : Bool := xs.all fun n => inR n 0 15
def rowOk (xs : List Int) (n : Int) : Bool := decide ((xs.length : Int) = n) && inOk xs

set_option maxHeartbeats 8000000 in
theorem I_inputsOk (xs : List Int) (hn : Enc.gd xs) : Con Try.prog 94 [] [al xs] [] (B (inOk xs)) := by
  have hn1 := hn.1
  have hlx := els_len xs
  refine Con.of Try.func94 rfl Try.ntmps94 rfl (fun E => ?_)
  refine A_seq (A_region ?_);refine M0 (q_assignC rfl rfl rfl) rfl rfl ?_;refine L_nil (T_n (A_seq (A_seq (A_region ?_))))
  refine M0 (q_moveC rfl rfl rfl) rfl rfl ?_;refine M0 (q_len rfl rfl rfl) rfl rfl ?_;refine M0 (q_moveC rfl rfl rfl) rfl rfl ?_;refine L_nil (T_n (A_block ?_))
  refine A_loop (fun m st => ∃ k : Nat,k + m = xs.length ∧ ((xs.take k).all (fun n => inR n 0 15) = true) ∧ st = (fun k : Nat => (⟨_,[(5,L xs),(6,I (els xs).length),(7,I k)],[]⟩ : St)) k) (xs.length) ⟨(fun k : Nat => (⟨_,[(5,L xs),(6,I (els xs).length),(7,I k)],[]⟩ : St)) 0,W_go [] (by decide) rfl (rfl) (.cons rfl (.cons rfl (.cons rfl (.nil)))),0,by omega,by simp,rfl⟩ ?_
  rintro m_A _ ⟨k,hk_A,hp_A,rfl⟩
  refine A_seq (A_region ?_);refine M0 (q_lss rfl rfl rfl rfl) rfl rfl ?_;refine L_nil (T_n (A_seq ?_))
  refine A_cond rfl (fun h => ?_) (fun h => ?_)
  · have h3 : k < xs.length := by have := of_decide_eq_true h; omega
    have hat := els_at h3
    refine A_skip (T_n (A_seq (A_block (A_seq (A_region ?_)))));refine M0 (q_at rfl rfl rfl rfl (by omega) (by assumption) rfl) rfl rfl ?_
    refine M0 (q_lr1 rfl rfl rfl rfl) rfl rfl ?_;refine M0 (q_assignC rfl rfl rfl) rfl rfl ?_;refine L_nil (T_n (A_seq (A_region ?_)))
    refine M0 (q_moveC rfl rfl rfl) rfl rfl ?_;refine M0 (q_call0 rfl rfl (I_between xs[k] 0 15) rfl) rfl rfl ?_;refine M0 (q_not rfl rfl rfl) rfl rfl ?_;refine L_nil (T_n ?_)
    refine A_cond rfl (fun h4 => ?_) (fun h4 => ?_)
    · refine A_seq (A_region ?_);refine M0 (q_assignC rfl rfl rfl) rfl rfl ?_;refine L_nil (T_n (A_ret (B_r (T_r (T_r (B_r ?_))))))
      refine T_r (F_r ?_)
      exact E_tmp rfl rfl (W_end [] (by decide) rfl rfl (B_eq (all_no h3 (by simpa using h4)).symm))
    · refine A_skip (B_n (T_n (A_region ?_)));refine M0 (q_add rfl rfl rfl rfl (by omega)) rfl rfl ?_;refine M0 (q_moveC rfl rfl rfl) rfl rfl ?_;refine L_nil ?_
      refine T_n ?_
      exact ⟨xs.length - (k + 1),by omega,(fun k : Nat => (⟨_,[(5,L xs),(6,I (els xs).length),(7,I k)],[]⟩ : St)) (k + 1),W_go [] (by decide) rfl (rfl) (.cons rfl (.cons rfl (.cons rfl (.nil)))),k + 1,by omega,all_next hp_A h3 (by simpa using h4),rfl⟩
  · have h3 : ¬ ((k : Int) < (els xs).length) := of_decide_eq_false h
    refine A_exit (T_x (T_x (B_xs (T_n (A_seq (A_region ?_))))));refine M0 (q_assignC rfl rfl rfl) rfl rfl ?_;refine L_nil (T_n ?_)
    refine A_ret (F_r ?_)
    exact E_tmp rfl rfl (W_end [] (by decide) rfl rfl (B_eq (all_end hp_A (by omega)).symm))
set_option maxHeartbeats 8000000 in
theorem I_rowOk (xs : List Int) (n : Int) (hn : Enc.gd xs) : Con Try.prog 66 [] [al xs,ai n] [] (B (rowOk xs n)) := by
  have hlx := els_len xs
  refine Con.of Try.func66 rfl Try.ntmps66 rfl (fun E => ?_)
  refine A_seq (A_region ?_);refine M0 (q_assignC rfl rfl rfl) rfl rfl ?_;refine L_nil (T_n (A_seq (A_region ?_)));refine M0 (q_moveC rfl rfl rfl) rfl rfl ?_
  refine M0 (q_len rfl rfl rfl) rfl rfl ?_;refine M0 (q_moveC rfl rfl rfl) rfl rfl ?_;refine M0 (q_eql rfl rfl rfl rfl) rfl rfl ?_;refine M0 (q_moveC rfl rfl rfl) rfl rfl ?_
  refine M0 (Qt.grdT rfl rfl rfl .stop (fun hgrd => q_moveC rfl rfl rfl)) rfl rfl ?_
  refine M0 (Qt.grdT rfl rfl rfl (.hit .stop) (fun hgrd => q_call0 rfl rfl (I_inputsOk xs hn) rfl)) rfl rfl ?_;refine M0 (q_and rfl rfl rfl rfl) rfl rfl ?_
  refine M0 (q_assignC rfl rfl rfl) rfl rfl ?_;refine L_nil (T_n (A_ret (F_r ?_)))
  exact E_tmp rfl rfl (W_end [] (by decide) rfl rfl (B_eq (by rw [hlx]; rfl)))
set_option maxHeartbeats 8000000 in
theorem S_rowOk (xs : List Int) (n : Int) (hn : Enc.gd xs) : Con Try.prog 60 [] [al xs,ai n] [] (B (rowOk xs n)) := by
  have hn1 := hn.1
  have hlx := els_len xs
  refine Con.of Try.func60 rfl Try.ntmps60 rfl (fun E => ?_)
  refine A_seq (A_region ?_);refine M0 (q_assignC rfl rfl rfl) rfl rfl ?_;refine L_nil (T_n (A_seq (A_seq (A_region ?_))))
  refine M0 (q_assignC rfl rfl rfl) rfl rfl ?_;refine L_nil (T_n (A_block ?_))
  refine A_loop (fun m st => ∃ k : Nat,k + m = xs.length ∧ ((xs.take k).all (fun n => inR n 0 15) = true) ∧ st = (fun k : Nat => (⟨_,[(0,L xs),(1,I n),(5,I k)],[]⟩ : St)) k) (xs.length) ⟨(fun k : Nat => (⟨_,[(0,L xs),(1,I n),(5,I k)],[]⟩ : St)) 0,W_go [] (by decide) rfl (rfl) (.cons rfl (.cons rfl (.cons rfl (.nil)))),0,by omega,by simp,rfl⟩ ?_
  rintro m_A _ ⟨k,hk_A,hp_A,rfl⟩
  refine A_seq (A_seq (A_region ?_));refine M0 (q_moveC rfl rfl rfl) rfl rfl ?_;refine M0 (q_moveC rfl rfl rfl) rfl rfl ?_;refine M0 (q_len rfl rfl rfl) rfl rfl ?_
  refine M0 (q_lss rfl rfl rfl rfl) rfl rfl ?_;refine L_nil (T_n ?_)
  refine A_cond rfl (fun h => ?_) (fun h => ?_)
  · have h3 : k < xs.length := by have := of_decide_eq_true h; omega
    have hat := els_at h3
    refine A_skip (T_n (A_seq (A_block (A_seq (A_region ?_)))));refine M0 (q_moveC rfl rfl rfl) rfl rfl ?_;refine M0 (q_moveC rfl rfl rfl) rfl rfl ?_
    refine M0 (q_at rfl rfl rfl rfl (by omega) (by assumption) rfl) rfl rfl ?_;refine M0 (q_lr1 rfl rfl rfl rfl) rfl rfl ?_;refine M0 (q_call0 rfl rfl (S_in xs[k] 0 15) rfl) rfl rfl ?_
    refine M0 (q_not rfl rfl rfl) rfl rfl ?_;refine L_nil (T_n ?_)
    refine A_cond rfl (fun h4 => ?_) (fun h4 => ?_)
    · refine A_seq (A_region ?_);refine M0 (q_assignC rfl rfl rfl) rfl rfl ?_;refine L_nil (T_n (A_ret (B_r (T_r (T_r (B_r ?_))))))
      refine T_r (F_r ?_)
      exact E_tmp rfl rfl (W_end [] (by decide) rfl rfl (B_eq (by unfold rowOk inOk; rw [all_no h3 (by simpa using h4)]; simp)))
    · refine A_skip (B_n (T_n (A_region ?_)));refine M0 (q_moveC rfl rfl rfl) rfl rfl ?_;refine M0 (q_add rfl rfl rfl rfl (by omega)) rfl rfl ?_
      refine M0 (q_assignC rfl rfl rfl) rfl rfl ?_;refine L_nil (T_n ?_)
      exact ⟨xs.length - (k + 1),by omega,(fun k : Nat => (⟨_,[(0,L xs),(1,I n),(5,I k)],[]⟩ : St)) (k + 1),W_go [] (by decide) rfl (rfl) (.cons rfl (.cons rfl (.cons rfl (.nil)))),k + 1,by omega,all_next hp_A h3 (by simpa using h4),rfl⟩
  · have h3 : ¬ ((k : Int) < (els xs).length) := of_decide_eq_false h
    refine A_exit (T_x (T_x (B_xs (T_n (A_seq (A_region ?_))))));refine M0 (q_moveC rfl rfl rfl) rfl rfl ?_
    refine M0 (q_len rfl rfl rfl) rfl rfl ?_;refine M0 (q_moveC rfl rfl rfl) rfl rfl ?_;refine M0 (q_eql rfl rfl rfl rfl) rfl rfl ?_;refine M0 (q_assignC rfl rfl rfl) rfl rfl ?_
    refine L_nil (T_n (A_ret (F_r ?_)))
    exact E_tmp rfl rfl (W_end [] (by decide) rfl rfl (B_eq (by unfold rowOk inOk; rw [all_end hp_A (by omega),hlx]; simp)))
end Go.Proofs.Ytmljakmaffbnlaa
end

section
set_option linter.unusedSimpArgs false
set_option linter.unusedVariables false
set_option maxRecDepth 8000
namespace Go.Proofs.Ytmljakmaffbnlaa
open Go.RowKit

def varN (n : Nat) : List UInt8 := if n < 128 then [UInt8.ofNat n] else UInt8.ofNat (n % 128 + 128) :: varN (n / 128)
termination_by n
decreasing_by omega
def encVar (n : Int) : List UInt8 := if 0 ≤ n ∧ n ≤ 1099511627775 then varN n.toNat else []
theorem varN_small {n : Nat} (h : n < 128) : varN n = [UInt8.ofNat n] := by rw [varN,if_pos h]
theorem varN_big {n : Nat} (h : ¬ n < 128) : varN n = UInt8.ofNat (n % 128 + 128) :: varN (n / 128) := by rw [varN,if_neg h]
theorem varN_len (n : Nat) : 1 ≤ (varN n).length ∧ (varN n).length ≤ n + 1 := by
  induction n using Nat.strongRecOn with
  | ind n ih =>
    by_cases h : n < 128
    · rw [varN_small h]; simp
    · rw [varN_big h]
      have := ih (n / 128) (by omega)
      simp only [List.length_cons]
      omega
theorem varN_step {acc : List UInt8} {m : Nat} {l : List UInt8} (h : acc ++ varN m = l) (hm : ¬ m < 128) {x : UInt8} (hx : x = UInt8.ofNat (m % 128 + 128)) : (acc ++ [x]) ++ varN (m / 128) = l := by
  rw [← h,varN_big hm,hx]; simp
theorem varN_end {acc : List UInt8} {m : Nat} {l : List UInt8} (h : acc ++ varN m = l) (hm : m < 128) {x : UInt8} (hx : x = UInt8.ofNat m) : acc ++ [x] = l := by
  rw [← h,varN_small hm,hx]

set_option maxHeartbeats 8000000 in
theorem I_EncodeVarint (n : Int) : Con Try.prog 102 [] [ai n] [] (S (bs (encVar n))) := by
  refine Con.of Try.func102 rfl Try.ntmps102 rfl (fun E => ?_)
  refine A_seq (A_region ?_);refine M0 (q_assignC rfl rfl rfl) rfl rfl ?_;refine L_nil (T_n (A_seq (A_seq (A_region ?_))))
  refine M0 (q_moveC rfl rfl rfl) rfl rfl ?_;refine M0 (q_lss rfl rfl rfl rfl) rfl rfl ?_;refine M0 (q_moveC rfl rfl rfl) rfl rfl ?_
  refine M0 (Qt.grdF rfl rfl rfl .stop (fun hgrd => q_moveC rfl rfl rfl)) rfl rfl ?_;refine M0 (Qt.grdF rfl rfl rfl (.hit .stop) (fun hgrd => q_gtr rfl rfl rfl rfl)) rfl rfl ?_
  refine M0 (q_or rfl rfl rfl rfl) rfl rfl ?_;refine L_nil (T_n ?_)
  refine A_cond rfl (fun h => ?_) (fun h => ?_)
  · simp only [Bool.or_eq_true,decide_eq_true_eq] at h
    refine A_seq (A_region ?_);refine M0 (q_assignC rfl rfl rfl) rfl rfl ?_;refine L_nil (T_n (A_ret (T_r (F_r ?_))))
    exact E_tmp rfl rfl (W_end [] (by decide) rfl rfl (S_eq (by rw [encVar,if_neg (by omega)])))
  simp only [Bool.or_eq_false_iff,decide_eq_false_iff_not] at h
  have he : encVar n = varN n.toNat := by rw [encVar,if_pos (by omega)]
  rw [he]
  refine A_skip (T_n (A_seq (A_region ?_)));refine M0 (q_assignC rfl rfl rfl) rfl rfl ?_;refine L_nil (T_n (A_seq (A_block ?_)))
  refine AWP.pre ?_ (W_nil 3 1 rfl)
  refine A_loop (fun m__ st => ∃ (m : Nat) (acc : List UInt8),m = m__ ∧ (acc ++ varN m = varN n.toNat ∧ acc.length + m ≤ 1099511627775) ∧ st = (fun (m : Nat) (acc : List UInt8) => (⟨_,[(0,I m),(3,.o (.c (.ref 0)))],[.row 1 (bE acc)]⟩ : St)) (m) (acc)) ((fun (m : Nat) (acc : List UInt8) => m) (n.toNat) ([])) ⟨(fun (m : Nat) (acc : List UInt8) => (⟨_,[(0,I m),(3,.o (.c (.ref 0)))],[.row 1 (bE acc)]⟩ : St)) (n.toNat) ([]),W_go [0] (by decide) rfl (rfl) (.cons (I_eq (by omega)) (.cons rfl (.nil))),n.toNat,[],rfl,⟨rfl,by simp <;> omega⟩,rfl⟩ ?_
  rintro m_A _ ⟨m,acc,hk_A,hp_A,rfl⟩
  refine A_seq (A_seq (A_region ?_));refine M0 (q_moveC rfl rfl rfl) rfl rfl ?_;refine M0 (q_geq rfl rfl rfl rfl) rfl rfl ?_;refine L_nil (T_n ?_)
  refine A_cond rfl (fun h5 => ?_) (fun h5 => ?_)
  · have h5 : ¬ m < 128 := by have := of_decide_eq_true h5; omega
    have hl := bE_len acc
    refine A_skip (T_n (A_block (A_seq (A_region ?_))));refine M0 (q_moveC rfl rfl rfl) rfl rfl ?_;refine M0 (q_moveC rfl rfl rfl) rfl rfl ?_
    refine M0 (q_rem rfl rfl rfl rfl (by omega)) rfl rfl ?_;refine M0 (q_add rfl rfl rfl rfl (by omega)) rfl rfl ?_;refine M0 (q_convI rfl rfl rfl rfl (wrap_u8_in (by omega))) rfl rfl ?_
    refine M1 (q_bslice rfl rfl rfl rfl rfl rfl) rfl rfl ?_;refine M_appsb rfl rfl rfl rfl rfl rfl rfl rfl rfl rfl (by omega) (by omega) ?_;refine M0 (q_assignC rfl rfl rfl) rfl rfl ?_
    refine L_nil (T_n (A_region ?_));refine M0 (q_moveC rfl rfl rfl) rfl rfl ?_;refine M0 (q_quo rfl rfl rfl rfl (by omega)) rfl rfl ?_
    refine M0 (q_assignC rfl rfl rfl) rfl rfl ?_;refine L_nil (B_n (T_n ?_))
    refine ⟨(m / 128),(by omega),(fun (m : Nat) (acc : List UInt8) => (⟨_,[(0,I m),(3,.o (.c (.ref 0)))],[.row 1 (bE acc)]⟩ : St)) (m / 128) (acc ++ [UInt8.ofNat ((m : Int) % 128 + 128).toNat]),W_go [0] (by decide) rfl (row_eq (bE_snoc _ _ (by omega)).symm) (.cons (I_eq (by omega)) (.cons rfl (.nil))),m / 128,acc ++ [UInt8.ofNat ((m : Int) % 128 + 128).toNat],rfl,⟨varN_step hp_A.1 h5 (by congr 1 <;> omega),by have := hp_A.2; simp <;> omega⟩,rfl⟩
  · have h5 : m < 128 := by have := of_decide_eq_false h5; omega
    have hl := bE_len acc
    have hb := hp_A.2
    refine A_exit (T_x (T_x (B_xs (T_n (A_seq (A_region ?_))))));refine M0 (q_moveC rfl rfl rfl) rfl rfl ?_
    refine M0 (q_moveC rfl rfl rfl) rfl rfl ?_;refine M0 (q_convI rfl rfl rfl rfl (wrap_u8_in (by omega))) rfl rfl ?_;refine M1 (q_bslice rfl rfl rfl rfl rfl rfl) rfl rfl ?_
    refine M_appsb rfl rfl rfl rfl rfl rfl rfl rfl rfl rfl (by omega) (by omega) ?_;refine M0 (q_assignC rfl rfl rfl) rfl rfl ?_;refine L_nil (T_n (A_seq ?_))
    refine A_region ?_;refine M0 (q_moveC rfl rfl rfl) rfl rfl ?_;refine M0 (q_bstr rfl rfl rfl rfl) rfl rfl ?_;refine M0 (q_assignC rfl rfl rfl) rfl rfl ?_;refine L_nil (T_n ?_)
    refine A_ret (F_r ?_)
    exact E_tmp rfl rfl (W_end [] (by decide) rfl rfl (S_eq (congrArg bs (varN_end hp_A.1 h5 (by congr 1)))))
set_option maxHeartbeats 8000000 in
theorem S_EncodeVarint (n : Int) : Con Try.prog 96 [] [ai n] [] (S (bs (encVar n))) := by
  refine Con.of Try.func96 rfl Try.ntmps96 rfl (fun E => ?_)
  refine A_seq (A_region ?_);refine M0 (q_assignC rfl rfl rfl) rfl rfl ?_;refine L_nil (T_n (A_seq (A_seq (A_region ?_))))
  refine M0 (q_moveC rfl rfl rfl) rfl rfl ?_;refine M0 (q_call0 rfl rfl (S_in n 0 1099511627775) rfl) rfl rfl ?_;refine M0 (q_not rfl rfl rfl) rfl rfl ?_;refine L_nil (T_n ?_)
  refine A_cond rfl (fun h => ?_) (fun h => ?_)
  · have h : ¬ (0 ≤ n ∧ n ≤ 1099511627775) := by rw [← inR_iff]; simpa using h
    refine A_seq (A_region ?_);refine M0 (q_assignC rfl rfl rfl) rfl rfl ?_;refine L_nil (T_n (A_ret (T_r (F_r ?_))))
    exact E_tmp rfl rfl (W_end [] (by decide) rfl rfl (S_eq (by rw [encVar,if_neg h])))
  have h : 0 ≤ n ∧ n ≤ 1099511627775 := by rw [← inR_iff]; simpa using h
  have he : encVar n = varN n.toNat := by rw [encVar,if_pos h]
  rw [he]
  refine A_skip (T_n (A_seq (A_region ?_)));refine M1 (q_bslice0 rfl rfl rfl) rfl rfl ?_;refine M0 (q_assignC rfl rfl rfl) rfl rfl ?_;refine L_nil (T_n ?_)
  refine A_seq (A_block ?_)
  refine A_loop (fun m__ st => ∃ (m : Nat) (acc : List UInt8),m = m__ ∧ (acc ++ varN m = varN n.toNat ∧ acc.length + m ≤ 1099511627775) ∧ st = (fun (m : Nat) (acc : List UInt8) => (⟨_,[(0,I m),(3,.o (.c (.ref 0)))],[.row 1 (bE acc)]⟩ : St)) (m) (acc)) ((fun (m : Nat) (acc : List UInt8) => m) (n.toNat) ([])) ⟨(fun (m : Nat) (acc : List UInt8) => (⟨_,[(0,I m),(3,.o (.c (.ref 0)))],[.row 1 (bE acc)]⟩ : St)) (n.toNat) ([]),W_go [0] (by decide) rfl (rfl) (.cons (I_eq (by omega)) (.cons rfl (.nil))),n.toNat,[],rfl,⟨rfl,by simp <;> omega⟩,rfl⟩ ?_
  rintro m_A _ ⟨m,acc,hk_A,hp_A,rfl⟩
  refine A_seq (A_seq (A_region ?_));refine M0 (q_moveC rfl rfl rfl) rfl rfl ?_;refine M0 (q_gtr rfl rfl rfl rfl) rfl rfl ?_;refine L_nil (T_n ?_)
  refine A_cond rfl (fun h5 => ?_) (fun h5 => ?_)
  · have h5 : ¬ m < 128 := by have := of_decide_eq_true h5; omega
    have hl := bE_len acc
    have hb := hp_A.2
    have hb1 : (m : Int).toNat &&& (127 : Int).toNat = m % 128 := Nat.and_two_pow_sub_one_eq_mod m 7
    have hb2 : ((m % 128 : Nat) : Int).toNat ||| (128 : Int).toNat = m % 128 + 128 := by
      have := Nat.two_pow_add_eq_or_of_lt (i := 7) (b := m % 128) (by omega) 1
      rw [Nat.or_comm]
      show 128 ||| m % 128 = _
      rw [← this]; omega
    have hb3 : (m : Int) / 2 ^ (7 : Int).toNat = (m / 128 : Nat) := by
      show (m : Int) / 128 = _
      omega
    refine A_skip (T_n (A_block (A_seq (A_region ?_))));refine M0 (q_moveC rfl rfl rfl) rfl rfl ?_;refine M0 (q_moveC rfl rfl rfl) rfl rfl ?_
    refine M0 (q_bandK rfl rfl rfl rfl (by assumption) (by omega)) rfl rfl ?_;refine M0 (q_borK rfl rfl rfl rfl (by assumption) (by omega)) rfl rfl ?_
    refine M0 (q_convI rfl rfl rfl rfl (wrap_u8_in (by omega))) rfl rfl ?_;refine M1 (q_bslice rfl rfl rfl rfl rfl rfl) rfl rfl ?_
    refine M_appsb rfl rfl rfl rfl rfl rfl rfl rfl rfl rfl (by omega) (by omega) ?_;refine M0 (q_assignC rfl rfl rfl) rfl rfl ?_;refine L_nil (T_n (A_region ?_))
    refine M0 (q_moveC rfl rfl rfl) rfl rfl ?_;refine M0 (q_shrK rfl rfl rfl rfl (by assumption) ⟨by omega,by omega,by decide⟩) rfl rfl ?_;refine M0 (q_assignC rfl rfl rfl) rfl rfl ?_
    refine L_nil (B_n (T_n ?_))
    refine ⟨(m / 128),(by omega),(fun (m : Nat) (acc : List UInt8) => (⟨_,[(0,I m),(3,.o (.c (.ref 0)))],[.row 1 (bE acc)]⟩ : St)) (m / 128) (acc ++ [UInt8.ofNat ((m % 128 + 128 : Nat) : Int).toNat]),W_go [0] (by decide) rfl (row_eq (bE_snoc _ _ (by omega)).symm) (.cons rfl (.cons rfl (.nil))),m / 128,acc ++ [UInt8.ofNat ((m % 128 + 128 : Nat) : Int).toNat],rfl,⟨varN_step hp_A.1 h5 (by congr 1),by simp <;> omega⟩,rfl⟩
  · have h5 : m < 128 := by have := of_decide_eq_false h5; omega
    have hl := bE_len acc
    have hb := hp_A.2
    refine A_exit (T_x (T_x (B_xs (T_n (A_seq (A_region ?_))))));refine M0 (q_moveC rfl rfl rfl) rfl rfl ?_
    refine M0 (q_moveC rfl rfl rfl) rfl rfl ?_;refine M0 (q_convI rfl rfl rfl rfl (wrap_u8_in (by omega))) rfl rfl ?_;refine M1 (q_bslice rfl rfl rfl rfl rfl rfl) rfl rfl ?_
    refine M_appsb rfl rfl rfl rfl rfl rfl rfl rfl rfl rfl (by omega) (by omega) ?_;refine M0 (q_bstr rfl rfl rfl rfl) rfl rfl ?_;refine M0 (q_assignC rfl rfl rfl) rfl rfl ?_
    refine L_nil (T_n (A_ret (F_r ?_)))
    exact E_tmp rfl rfl (W_end [] (by decide) rfl rfl (S_eq (congrArg bs (varN_end hp_A.1 h5 (by congr 1)))))

theorem varN_pow : ∀ (j n : Nat),n < 128 ^ (j + 1) → (varN n).length ≤ j + 1
  | 0,n,h => by rw [varN_small (by omega)]; simp
  | j + 1,n,h => by
    by_cases hn : n < 128
    · rw [varN_small hn]; simp
    · rw [varN_big hn,List.length_cons]
      have := varN_pow j (n / 128) (by rw [Nat.pow_succ] at h; omega)
      omega
theorem encVar_len (n : Int) : (encVar n).length ≤ 6 := by
  unfold encVar
  split
  · exact varN_pow 5 _ (by omega)
  · simp
def signless (n : Int) : Int := if -549755813888 ≤ n ∧ n ≤ 549755813887 then (if 0 ≤ n then 2 * n else -2 * n - 1) else -1
set_option maxHeartbeats 8000000 in
theorem I_Signless (n : Int) (hn : I64 n) : Con Try.prog 103 [] [ai n] [] (I (signless n)) := by
  obtain ⟨hn1,hn2⟩ := hn
  refine Con.of Try.func103 rfl Try.ntmps103 rfl (fun E => ?_)
  refine A_seq (A_region ?_);refine M0 (q_assignC rfl rfl rfl) rfl rfl ?_;refine L_nil (T_n (A_seq (A_seq (A_region ?_))))
  refine M0 (q_moveC rfl rfl rfl) rfl rfl ?_;refine M0 (q_lss rfl rfl rfl rfl) rfl rfl ?_;refine M0 (q_moveC rfl rfl rfl) rfl rfl ?_
  refine M0 (Qt.grdF rfl rfl rfl .stop (fun hgrd => q_moveC rfl rfl rfl)) rfl rfl ?_;refine M0 (Qt.grdF rfl rfl rfl (.hit .stop) (fun hgrd => q_gtr rfl rfl rfl rfl)) rfl rfl ?_
  refine M0 (q_or rfl rfl rfl rfl) rfl rfl ?_;refine L_nil (T_n ?_)
  refine A_cond rfl (fun h => ?_) (fun h => ?_)
  · simp only [Bool.or_eq_true,decide_eq_true_eq] at h
    refine A_seq (A_region ?_);refine M0 (q_assignC rfl rfl rfl) rfl rfl ?_;refine L_nil (T_n (A_ret (T_r (F_r ?_))))
    exact E_tmp rfl rfl (W_end [] (by decide) rfl rfl (I_eq (by rw [signless,if_neg (by omega)])))
  simp only [Bool.or_eq_false_iff,decide_eq_false_iff_not] at h
  refine A_skip (T_n (A_seq (A_seq (A_region ?_))));refine M0 (q_moveC rfl rfl rfl) rfl rfl ?_;refine M0 (q_geq rfl rfl rfl rfl) rfl rfl ?_;refine L_nil ?_
  refine T_n ?_
  refine A_cond rfl (fun h1 => ?_) (fun h1 => ?_)
  · have h1 := of_decide_eq_true h1
    refine A_seq (A_region ?_);refine M0 (q_moveC rfl rfl rfl) rfl rfl ?_;refine M0 (q_mul rfl rfl rfl rfl (by omega)) rfl rfl ?_;refine M0 (q_assignC rfl rfl rfl) rfl rfl ?_
    refine L_nil (T_n (A_ret (T_r (F_r ?_))))
    exact E_tmp rfl rfl (W_end [] (by decide) rfl rfl (I_eq (by rw [signless,if_pos (by omega),if_pos (by omega)])))
  · have h1 := of_decide_eq_false h1
    refine A_skip (T_n (A_seq (A_region ?_)));refine M0 (q_moveC rfl rfl rfl) rfl rfl ?_;refine M0 (q_mul rfl rfl rfl rfl (by omega)) rfl rfl ?_
    refine M0 (q_sub rfl rfl rfl rfl (by omega)) rfl rfl ?_;refine M0 (q_assignC rfl rfl rfl) rfl rfl ?_;refine L_nil (T_n (A_ret (F_r ?_)))
    exact E_tmp rfl rfl (W_end [] (by decide) rfl rfl (I_eq (by rw [signless,if_pos (by omega),if_neg (by omega)])))
set_option maxHeartbeats 8000000 in
theorem S_Signless (n : Int) (hn : I64 n) : Con Try.prog 97 [] [ai n] [] (I (signless n)) := by
  obtain ⟨hn1,hn2⟩ := hn
  refine Con.of Try.func97 rfl Try.ntmps97 rfl (fun E => ?_)
  refine A_seq (A_region ?_);refine M0 (q_assignC rfl rfl rfl) rfl rfl ?_;refine L_nil (T_n (A_seq (A_seq (A_region ?_))))
  refine M0 (q_moveC rfl rfl rfl) rfl rfl ?_;refine M0 (q_call0 rfl rfl (S_in n (-549755813888) 549755813887) rfl) rfl rfl ?_;refine M0 (q_not rfl rfl rfl) rfl rfl ?_;refine L_nil ?_
  refine T_n ?_
  refine A_cond rfl (fun h => ?_) (fun h => ?_)
  · have h : ¬ (-549755813888 ≤ n ∧ n ≤ 549755813887) := by rw [← inR_iff]; simpa using h
    refine A_seq (A_region ?_);refine M0 (q_assignC rfl rfl rfl) rfl rfl ?_;refine L_nil (T_n (A_ret (T_r (F_r ?_))))
    exact E_tmp rfl rfl (W_end [] (by decide) rfl rfl (I_eq (by rw [signless,if_neg (by omega)])))
  have h : -549755813888 ≤ n ∧ n ≤ 549755813887 := by rw [← inR_iff]; simpa using h
  refine A_skip (T_n (A_seq (A_seq (A_region ?_))));refine M0 (q_moveC rfl rfl rfl) rfl rfl ?_;refine M0 (q_geq rfl rfl rfl rfl) rfl rfl ?_;refine L_nil ?_
  refine T_n ?_
  refine A_cond rfl (fun h1 => ?_) (fun h1 => ?_)
  · have h1 := of_decide_eq_true h1
    refine A_seq (A_region ?_);refine M0 (q_moveC rfl rfl rfl) rfl rfl ?_;refine M0 (q_mul rfl rfl rfl rfl (by omega)) rfl rfl ?_;refine M0 (q_assignC rfl rfl rfl) rfl rfl ?_
    refine L_nil (T_n (A_ret (T_r (F_r ?_))))
    exact E_tmp rfl rfl (W_end [] (by decide) rfl rfl (I_eq (by rw [signless,if_pos (by omega),if_pos (by omega)])))
  · have h1 := of_decide_eq_false h1
    refine A_skip (T_n (A_seq (A_region ?_)));refine M0 (q_moveC rfl rfl rfl) rfl rfl ?_;refine M0 (q_mul rfl rfl rfl rfl (by omega)) rfl rfl ?_
    refine M0 (q_sub rfl rfl rfl rfl (by omega)) rfl rfl ?_;refine M0 (q_assignC rfl rfl rfl) rfl rfl ?_;refine L_nil (T_n (A_ret (F_r ?_)))
    exact E_tmp rfl rfl (W_end [] (by decide) rfl rfl (I_eq (by rw [signless,if_pos (by omega),if_neg (by omega)])))
def packText (s : ByteArray) : ByteArray := bs (encVar s.size) ++ s
theorem packText_size (s : ByteArray) : (packText s).size ≤ s.size + 6 := by
  unfold packText
  rw [cat_size,bs_size]
  have := encVar_len s.size
  omega
set_option maxHeartbeats 8000000 in
theorem I_PackText (s : ByteArray) (hs : s.size ≤ 1099511627776) : Con Try.prog 121 [] [astr s] [] (S (packText s)) := by
  have h1 := bs_size (encVar s.size)
  have h2 := encVar_len s.size
  refine Con.of Try.func121 rfl Try.ntmps121 rfl (fun E => ?_)
  refine A_seq (A_region ?_);refine M0 (q_assignC rfl rfl rfl) rfl rfl ?_;refine L_nil (T_n (A_seq (A_region ?_)));refine M0 (q_moveC rfl rfl rfl) rfl rfl ?_
  refine M0 (q_lens rfl rfl rfl) rfl rfl ?_;refine M0 (q_call0 rfl rfl (I_EncodeVarint s.size) rfl) rfl rfl ?_;refine M0 (q_moveC rfl rfl rfl) rfl rfl ?_
  refine M0 (q_cat rfl rfl rfl rfl (by omega)) rfl rfl ?_;refine M0 (q_assignC rfl rfl rfl) rfl rfl ?_;refine L_nil (T_n (A_ret (F_r ?_)))
  exact E_tmp rfl rfl (W_end [] (by decide) rfl rfl rfl)
set_option maxHeartbeats 8000000 in
theorem S_PackText (s : ByteArray) (hs : s.size ≤ 1099511627776) : Con Try.prog 120 [] [astr s] [] (S (packText s)) := by
  have h1 := bs_size (encVar s.size)
  have h2 := encVar_len s.size
  refine Con.of Try.func120 rfl Try.ntmps120 rfl (fun E => ?_)
  refine A_seq (A_region ?_);refine M0 (q_assignC rfl rfl rfl) rfl rfl ?_;refine L_nil (T_n (A_seq (A_region ?_)));refine M0 (q_moveC rfl rfl rfl) rfl rfl ?_
  refine M0 (q_lens rfl rfl rfl) rfl rfl ?_;refine M0 (q_call0 rfl rfl (S_EncodeVarint s.size) rfl) rfl rfl ?_;refine M0 (q_moveC rfl rfl rfl) rfl rfl ?_
  refine M0 (q_cat rfl rfl rfl rfl (by omega)) rfl rfl ?_;refine M0 (q_assignC rfl rfl rfl) rfl rfl ?_;refine L_nil (T_n (A_ret (F_r ?_)))
  exact E_tmp rfl rfl (W_end [] (by decide) rfl rfl rfl)
/-- The first k numbers of a list. -/
def packK (xs : List Int) (k : Nat) : List UInt8 := encVar xs.length ++ (xs.take k).flatMap fun x => encVar (signless x)
def packInts (xs : List Int) : ByteArray := if xs.all (fun x => decide (0 ≤ signless x)) then bs (packK xs xs.length) else bs []
theorem packK_succ {xs : List Int} {k : Nat} (h : k < xs.length) : packK xs (k + 1) = packK xs k ++ encVar (signless xs[k]) := by
  unfold packK
  rw [List.take_succ_eq_append_getElem h,List.flatMap_append,List.append_assoc]
  simp
theorem packK_len (xs : List Int) : ∀ k,k ≤ xs.length → (packK xs k).length ≤ 6 * k + 6
  | 0,_ => by simp [packK]; exact encVar_len _
  | k + 1,h => by
    rw [packK_succ (by omega),List.length_append]
    have := packK_len xs k (by omega)
    have := encVar_len (signless xs[k])
    omega
theorem packInts_size (xs : List Int) : (packInts xs).size ≤ 6 * xs.length + 6 := by
  unfold packInts
  split
  · rw [bs_size]; exact packK_len xs _ (Nat.le_refl _)
  · rw [bs_size]; simp
set_option maxHeartbeats 8000000 in
theorem I_PackInts (xs : List Int) (hg : Enc.gd xs) (hL : xs.length ≤ 1073741824) : Con Try.prog 79 [] [al xs] [] (S (packInts xs)) := by
  have hlx := els_len xs
  have h1 := bs_size (encVar (els xs).length)
  have h2 := encVar_len (els xs).length
  refine Con.of Try.func79 rfl Try.ntmps79 rfl (fun E => ?_)
  refine A_seq (A_region ?_);refine M0 (q_assignC rfl rfl rfl) rfl rfl ?_;refine L_nil (T_n (A_seq (A_region ?_)));refine M0 (q_moveC rfl rfl rfl) rfl rfl ?_
  refine M0 (q_len rfl rfl rfl) rfl rfl ?_;refine M0 (q_call0 rfl rfl (I_EncodeVarint (els xs).length) rfl) rfl rfl ?_;refine M1 (q_strb rfl rfl rfl (by omega)) rfl rfl ?_
  refine M0 (q_assignC rfl rfl rfl) rfl rfl ?_;refine L_nil (T_n (A_seq (A_seq (A_region ?_))));refine M0 (q_moveC rfl rfl rfl) rfl rfl ?_
  refine M0 (q_len rfl rfl rfl) rfl rfl ?_;refine M0 (q_moveC rfl rfl rfl) rfl rfl ?_;refine L_nil (T_n (A_block ?_))
  refine A_loop (fun m st => ∃ k : Nat,k + m = xs.length ∧ ((xs.take k).all (fun x => decide (0 ≤ signless x)) = true) ∧ st = (fun k : Nat => (⟨_,[(3,.o (.c (.ref 0))),(11,L xs),(12,I (els xs).length),(13,I k)],[.row 1 (bE (packK xs k))]⟩ : St)) k) (xs.length) ⟨(fun k : Nat => (⟨_,[(3,.o (.c (.ref 0))),(11,L xs),(12,I (els xs).length),(13,I k)],[.row 1 (bE (packK xs k))]⟩ : St)) 0,W_go [0] (by decide) rfl (row_eq (by rw [bs_list,hlx]; simp [packK])) (.cons rfl (.cons rfl (.cons rfl (.cons rfl (.nil))))),0,by omega,by simp,rfl⟩ ?_
  rintro m_A _ ⟨k,hk_A,hp_A,rfl⟩
  refine A_seq (A_region ?_);refine M0 (q_lss rfl rfl rfl rfl) rfl rfl ?_;refine L_nil (T_n (A_seq ?_))
  refine A_cond rfl (fun h => ?_) (fun h => ?_)
  · have h3 : k < xs.length := by have := of_decide_eq_true h; omega
    have hat := els_at h3
    have hb1 := bE_len (packK xs k)
    have hb2 := packK_len xs k (by omega)
    have hb3 := bs_size (encVar (signless xs[k]))
    have hb4 := encVar_len (signless xs[k])
    refine A_skip (T_n (A_seq (A_block (A_seq (A_region ?_)))));refine M0 (q_at rfl rfl rfl rfl (by omega) (by assumption) rfl) rfl rfl ?_
    refine M0 (q_lr1 rfl rfl rfl rfl) rfl rfl ?_;refine M0 (q_assignC rfl rfl rfl) rfl rfl ?_;refine L_nil (T_n (A_seq (A_region ?_)))
    refine M0 (q_moveC rfl rfl rfl) rfl rfl ?_;refine M0 (q_call0 rfl rfl (I_Signless xs[k] (hg.2 _ (List.getElem_mem h3))) rfl) rfl rfl ?_;refine M0 (q_assignC rfl rfl rfl) rfl rfl ?_
    refine L_nil (T_n (A_seq (A_seq (A_region ?_))));refine M0 (q_moveC rfl rfl rfl) rfl rfl ?_;refine M0 (q_lss rfl rfl rfl rfl) rfl rfl ?_;refine L_nil ?_
    refine T_n ?_
    refine A_cond rfl (fun h4 => ?_) (fun h4 => ?_)
    · refine A_seq (A_region ?_);refine M0 (q_assignC rfl rfl rfl) rfl rfl ?_;refine L_nil (T_n (A_ret (T_r (B_r (T_r (T_r ?_))))))
      refine B_r (T_r (F_r ?_))
      exact E_tmp rfl rfl (W_end [] (by decide) rfl rfl (S_eq (by rw [packInts,all_no h3 (by simpa using h4)]; rfl)))
    · refine A_skip (T_n (A_region ?_));refine M0 (q_moveC rfl rfl rfl) rfl rfl ?_;refine M0 (q_moveC rfl rfl rfl) rfl rfl ?_
      refine M0 (q_call0 rfl rfl (I_EncodeVarint (signless xs[k])) rfl) rfl rfl ?_;refine M_appstr rfl rfl rfl rfl rfl rfl rfl (by omega) (by omega) ?_
      refine M0 (q_assignC rfl rfl rfl) rfl rfl ?_;refine L_nil (B_n (T_n (A_region ?_)));refine M0 (q_add rfl rfl rfl rfl (by omega)) rfl rfl ?_
      refine M0 (q_moveC rfl rfl rfl) rfl rfl ?_;refine L_nil (T_n ?_)
      exact ⟨xs.length - (k + 1),by omega,(fun k : Nat => (⟨_,[(3,.o (.c (.ref 0))),(11,L xs),(12,I (els xs).length),(13,I k)],[.row 1 (bE (packK xs k))]⟩ : St)) (k + 1),W_go [0] (by decide) rfl (row_eq (by rw [bs_list,bE_app,packK_succ h3])) (.cons rfl (.cons rfl (.cons rfl (.cons rfl (.nil))))),k + 1,by omega,all_next hp_A h3 (by simpa using h4),rfl⟩
  · have h3 : ¬ ((k : Int) < (els xs).length) := of_decide_eq_false h
    have hk : k = xs.length := by omega
    refine A_exit (T_x (T_x (B_xs (T_n (A_seq (A_region ?_))))));refine M0 (q_moveC rfl rfl rfl) rfl rfl ?_
    refine M0 (q_bstr rfl rfl rfl rfl) rfl rfl ?_;refine M0 (q_assignC rfl rfl rfl) rfl rfl ?_;refine L_nil (T_n (A_ret (F_r ?_)))
    exact E_tmp rfl rfl (W_end [] (by decide) rfl rfl (S_eq (by rw [packInts,all_end hp_A (by omega),hk]; rfl)))
set_option maxHeartbeats 8000000 in
theorem S_PackInts (xs : List Int) (hg : Enc.gd xs) (hL : xs.length ≤ 1073741824) : Con Try.prog 70 [] [al xs] [] (S (packInts xs)) := by
  have hlx := els_len xs
  refine Con.of Try.func70 rfl Try.ntmps70 rfl (fun E => ?_)
  refine A_seq (A_region ?_);refine M0 (q_assignC rfl rfl rfl) rfl rfl ?_;refine L_nil (T_n (A_seq (A_region ?_)));refine M0 (q_moveC rfl rfl rfl) rfl rfl ?_
  refine M0 (q_len rfl rfl rfl) rfl rfl ?_;refine M0 (q_call0 rfl rfl (S_EncodeVarint (els xs).length) rfl) rfl rfl ?_;refine M0 (q_assignC rfl rfl rfl) rfl rfl ?_;refine L_nil ?_
  refine T_n (A_seq (A_seq (A_region ?_)));refine M0 (q_assignC rfl rfl rfl) rfl rfl ?_;refine L_nil (T_n (A_block ?_))
  refine A_loop (fun m st => ∃ k : Nat,k + m = xs.length ∧ ((xs.take k).all (fun x => decide (0 ≤ signless x)) = true) ∧ st = (fun k : Nat => (⟨_,[(0,L xs),(3,S (bs (packK xs k))),(4,I k)],[]⟩ : St)) k) (xs.length) ⟨(fun k : Nat => (⟨_,[(0,L xs),(3,S (bs (packK xs k))),(4,I k)],[]⟩ : St)) 0,W_go [] (by decide) rfl (rfl) (.cons rfl (.cons (S_eq (by rw [hlx]; simp [packK])) (.cons rfl (.nil)))),0,by omega,by simp,rfl⟩ ?_
  rintro m_A _ ⟨k,hk_A,hp_A,rfl⟩
  refine A_seq (A_seq (A_region ?_));refine M0 (q_moveC rfl rfl rfl) rfl rfl ?_;refine M0 (q_moveC rfl rfl rfl) rfl rfl ?_;refine M0 (q_len rfl rfl rfl) rfl rfl ?_
  refine M0 (q_lss rfl rfl rfl rfl) rfl rfl ?_;refine L_nil (T_n ?_)
  refine A_cond rfl (fun h => ?_) (fun h => ?_)
  · have h3 : k < xs.length := by have := of_decide_eq_true h; omega
    have hat := els_at h3
    have hb1 := bs_size (packK xs k)
    have hb2 := packK_len xs k (by omega)
    have hb3 := bs_size (encVar (signless xs[k]))
    have hb4 := encVar_len (signless xs[k])
    have hc := S_Signless xs[k] (hg.2 _ (List.getElem_mem h3))
    refine A_skip (T_n (A_seq (A_block (A_seq (A_seq (A_region ?_))))));refine M0 (q_moveC rfl rfl rfl) rfl rfl ?_
    refine M0 (q_moveC rfl rfl rfl) rfl rfl ?_;refine M0 (q_at rfl rfl rfl rfl (by omega) (by assumption) rfl) rfl rfl ?_;refine M0 (q_lr1 rfl rfl rfl rfl) rfl rfl ?_
    refine M0 (q_call0 rfl rfl (hc) rfl) rfl rfl ?_;refine M0 (q_lss rfl rfl rfl rfl) rfl rfl ?_;refine L_nil (T_n ?_)
    refine A_cond rfl (fun h4 => ?_) (fun h4 => ?_)
    · refine A_seq (A_region ?_);refine M0 (q_assignC rfl rfl rfl) rfl rfl ?_;refine L_nil (T_n (A_ret (T_r (B_r (T_r (T_r ?_))))))
      refine B_r (T_r (F_r ?_))
      exact E_tmp rfl rfl (W_end [] (by decide) rfl rfl (S_eq (by rw [packInts,all_no h3 (by simpa using h4)]; rfl)))
    · refine A_skip (T_n (A_region ?_));refine M0 (q_moveC rfl rfl rfl) rfl rfl ?_;refine M0 (q_moveC rfl rfl rfl) rfl rfl ?_;refine M0 (q_moveC rfl rfl rfl) rfl rfl ?_
      refine M0 (q_at rfl rfl rfl rfl (by omega) (by assumption) rfl) rfl rfl ?_;refine M0 (q_lr1 rfl rfl rfl rfl) rfl rfl ?_;refine M0 (q_call0 rfl rfl (hc) rfl) rfl rfl ?_
      refine M0 (q_call0 rfl rfl (S_EncodeVarint (signless xs[k])) rfl) rfl rfl ?_;refine M0 (q_cat rfl rfl rfl rfl (by omega)) rfl rfl ?_;refine M0 (q_assignC rfl rfl rfl) rfl rfl ?_
      refine L_nil (B_n (T_n (A_region ?_)));refine M0 (q_moveC rfl rfl rfl) rfl rfl ?_;refine M0 (q_add rfl rfl rfl rfl (by omega)) rfl rfl ?_
      refine M0 (q_assignC rfl rfl rfl) rfl rfl ?_;refine L_nil (T_n ?_)
      exact ⟨xs.length - (k + 1),by omega,(fun k : Nat => (⟨_,[(0,L xs),(3,S (bs (packK xs k))),(4,I k)],[]⟩ : St)) (k + 1),W_go [] (by decide) rfl (rfl) (.cons rfl (.cons (S_eq (by rw [bs_app,packK_succ h3])) (.cons rfl (.nil)))),k + 1,by omega,all_next hp_A h3 (by simpa using h4),rfl⟩
  · have h3 : ¬ ((k : Int) < (els xs).length) := of_decide_eq_false h
    have hk : k = xs.length := by omega
    refine A_exit (T_x (T_x (B_xs (T_n (A_seq (A_region ?_))))));refine M0 (q_moveC rfl rfl rfl) rfl rfl ?_
    refine M0 (q_assignC rfl rfl rfl) rfl rfl ?_;refine L_nil (T_n (A_ret (F_r ?_)))
    exact E_tmp rfl rfl (W_end [] (by decide) rfl rfl (S_eq (by rw [packInts,all_end hp_A (by omega),hk]; rfl)))

end Go.Proofs.Ytmljakmaffbnlaa
end

section
set_option linter.unusedSimpArgs false
set_option linter.unusedVariables false
set_option maxRecDepth 8000
namespace Go.Proofs.Ytmljakmaffbnlaa
open Go.RowKit

/-- DecodeVarint from byte k of the number on: what has been read so far is n. -/
def dvGo (s : ByteArray) (p : Nat) (n : Int) (k : Nat) : Nat → Option (Int × Nat)
  | 0 => none
  | f + 1 => if p + k < s.size then
      (if 128 ≤ byteAt s (p + k) then dvGo s p (n + byteAt s (p + k) % 128 * 2 ^ (7 * k)) (k + 1) f
       else if (byteAt s (p + k) = 0 ∧ 0 < k) ∨ 1099511627775 < n + byteAt s (p + k) % 128 * 2 ^ (7 * k) then none
       else some (n + byteAt s (p + k) % 128 * 2 ^ (7 * k),k + 1)) else none
def decVar (s : ByteArray) (p : Int) : Option (Int × Nat) := if 0 ≤ p ∧ p < s.size then dvGo s p.toNat 0 0 6 else none
@[reducible] def bv (b : Bool) : V1 := .rd [] (.v (.bool b))
@[reducible] def jn (n : Int) : V1 := .rd [] (.v (.int .i64 n))
@[reducible] def dvR : Option (Int × Nat) → V
  | none => .tu [.c (jn 0),.c (jn 0),.c (bv false)]
  | some (n,k) => .tu [.c (jn n),.c (jn k),.c (bv true)]
theorem pow7 {k : Nat} (h : k ≤ 6) : ∃ M : Nat,2 ^ (7 * k) = M ∧ 1 ≤ M ∧ M ≤ 4398046511104 := by
  refine ⟨_,rfl,Nat.one_le_two_pow,?_⟩
  exact Nat.le_trans (Nat.pow_le_pow_right (by omega) (show 7 * k ≤ 42 by omega)) (by decide)
theorem pow7s (k : Nat) : 2 ^ (7 * (k + 1)) = 128 * 2 ^ (7 * k) := by
  rw [show 7 * (k + 1) = 7 * k + 7 by omega,Nat.pow_add]
  omega
theorem dv_part {c : Int} {M : Nat} (h0 : 0 ≤ c) (h1 : c < 128) : 0 ≤ c * (M : Int) ∧ c * (M : Int) ≤ 127 * M := by
  refine ⟨Int.mul_nonneg h0 (by omega),Int.mul_le_mul_of_nonneg_right (by omega) (by omega)⟩
theorem pow7i (k : Nat) : (2 : Int) ^ (7 * (k : Int)).toNat = ((2 ^ (7 * k) : Nat) : Int) := by
  rw [show (7 * (k : Int)).toNat = 7 * k by omega]
  norm_cast
set_option maxHeartbeats 8000000 in
theorem I_DecodeVarint (s : ByteArray) (p : Int) (hs : s.size ≤ 1099511627776) (hp : I64 p) : Con Try.prog 80 [] [astr s,ai p] [] (dvR (decVar s p)) := by
  obtain ⟨hp1,hp2⟩ := hp
  by_cases hin : ¬ (0 ≤ p ∧ p < s.size)
  · rw [show decVar s p = none by rw [decVar,if_neg hin]]
    refine Con.of Try.func80 rfl Try.ntmps80 rfl (fun E => ?_)
    refine A_seq (A_region ?_);refine M0 (q_assignC rfl rfl rfl) rfl rfl ?_;refine M0 (q_assignC rfl rfl rfl) rfl rfl ?_;refine M0 (q_assignC rfl rfl rfl) rfl rfl ?_;refine L_nil ?_
    refine T_n (A_seq (A_seq (A_region ?_)));refine M0 (q_moveC rfl rfl rfl) rfl rfl ?_;refine M0 (q_lss rfl rfl rfl rfl) rfl rfl ?_
    refine M0 (q_moveC rfl rfl rfl) rfl rfl ?_;refine M0 (Qt.grdF rfl rfl rfl .stop (fun hgrd => q_moveC rfl rfl rfl)) rfl rfl ?_
    refine M0 (Qt.grdF rfl rfl rfl (.hit .stop) (fun hgrd => q_moveC rfl rfl rfl)) rfl rfl ?_
    refine M0 (Qt.grdF rfl rfl rfl (.hit (.hit .stop)) (fun hgrd => q_lens rfl rfl rfl)) rfl rfl ?_
    refine M0 (Qt.grdF rfl rfl rfl (.hit (.hit (.hit .stop))) (fun hgrd => q_geq rfl rfl rfl rfl)) rfl rfl ?_;refine M0 (q_or rfl rfl rfl rfl) rfl rfl ?_;refine L_nil (T_n ?_)
    refine A_cond rfl (fun h => ?_) (fun h => ?_)
    · refine A_seq (A_region ?_);refine M0 (q_assignC rfl rfl rfl) rfl rfl ?_;refine M0 (q_assignC rfl rfl rfl) rfl rfl ?_;refine M0 (q_assignC rfl rfl rfl) rfl rfl ?_;refine L_nil ?_
      refine T_n (A_ret (T_r (F_r ?_)))
      exact E_tmp3 rfl rfl rfl rfl (W_end [] (by decide) rfl rfl rfl)
    · simp only [Bool.or_eq_false_iff,decide_eq_false_iff_not] at h
      omega
  have hin := Classical.not_not.1 hin
  obtain ⟨q,rfl⟩ : ∃ q : Nat,p = q := ⟨p.toNat,by omega⟩
  rw [show decVar s q = dvGo s q 0 0 6 by rw [decVar,if_pos hin]; rfl]
  have hb1 : decide ((q : Int) < 0) = false := decide_eq_false (by omega)
  have hb2 : decide ((s.size : Int) ≤ q) = false := decide_eq_false (by omega)
  refine Con.of Try.func80 rfl Try.ntmps80 rfl (fun E => ?_)
  refine A_seq (A_region ?_);refine M0 (q_assignC rfl rfl rfl) rfl rfl ?_;refine M0 (q_assignC rfl rfl rfl) rfl rfl ?_;refine M0 (q_assignC rfl rfl rfl) rfl rfl ?_;refine L_nil ?_
  refine T_n (A_seq (A_seq (A_region ?_)));refine M0 (q_moveC rfl rfl rfl) rfl rfl ?_;refine M0 (q_lssK rfl rfl rfl rfl (by assumption)) rfl rfl ?_
  refine M0 (q_moveC rfl rfl rfl) rfl rfl ?_;refine M_yes rfl rfl rfl ?_;refine M0 (q_moveC rfl rfl rfl) rfl rfl ?_;refine M_yes rfl rfl rfl ?_;refine M0 (q_moveC rfl rfl rfl) rfl rfl ?_
  refine M_yes rfl rfl rfl ?_;refine M0 (q_lens rfl rfl rfl) rfl rfl ?_;refine M_yes rfl rfl rfl ?_;refine M0 (q_geqK rfl rfl rfl rfl (by assumption)) rfl rfl ?_
  refine M0 (q_pickF rfl rfl rfl rfl) rfl rfl ?_;refine L_nil (T_n ?_);refine A_ifF rfl ?_;refine A_skip (T_n (A_seq (A_region ?_)))
  refine M0 (q_assignC rfl rfl rfl) rfl rfl ?_;refine L_nil (T_n (A_seq (A_seq (A_region ?_))));refine M0 (q_assignC rfl rfl rfl) rfl rfl ?_;refine L_nil ?_
  refine T_n (A_block ?_)
  refine A_loop (fun m__ st => ∃ (k : Nat) (n : Int),6 - k = m__ ∧ (k ≤ 6 ∧ 0 ≤ n ∧ n < ((2 ^ (7 * k) : Nat) : Int) ∧ dvGo s q n k (6 - k) = dvGo s q 0 0 6) ∧ st = (fun (k : Nat) (n : Int) => (⟨_,[(0,S s),(1,I q),(7,I n),(8,I k)],[]⟩ : St)) (k) (n)) ((fun (k : Nat) (n : Int) => 6 - k) (0) (0)) ⟨(fun (k : Nat) (n : Int) => (⟨_,[(0,S s),(1,I q),(7,I n),(8,I k)],[]⟩ : St)) (0) (0),W_go [] (by decide) rfl (rfl) (.cons rfl (.cons rfl (.cons rfl (.cons rfl (.nil))))),0,0,rfl,⟨by omega,by omega,by simp,rfl⟩,rfl⟩ ?_
  rintro m_A _ ⟨k,n,hk_A,hp_A,rfl⟩
  obtain ⟨hk6,hn0,hn1,hgo⟩ := hp_A
  obtain ⟨M,hM,hM1,hM2⟩ := pow7 hk6
  have hMs := pow7s k
  rw [hM] at hn1 hMs
  rw [← hgo]
  refine A_seq (A_seq (A_region ?_));refine M0 (q_moveC rfl rfl rfl) rfl rfl ?_;refine M0 (q_lss rfl rfl rfl rfl) rfl rfl ?_;refine M0 (q_moveC rfl rfl rfl) rfl rfl ?_
  refine M0 (Qt.grdT rfl rfl rfl .stop (fun hgrd => q_moveC rfl rfl rfl)) rfl rfl ?_;refine M0 (Qt.grdT rfl rfl rfl (.hit .stop) (fun hgrd => q_moveC rfl rfl rfl)) rfl rfl ?_
  refine M0 (Qt.grdT rfl rfl rfl (.hit (.hit .stop)) (fun hgrd => q_lens rfl rfl rfl)) rfl rfl ?_
  refine M0 (Qt.grdT rfl rfl rfl (.hit (.hit (.hit .stop))) (fun hgrd => q_moveC rfl rfl rfl)) rfl rfl ?_
  refine M0 (Qt.grdT rfl rfl rfl (.hit (.hit (.hit (.hit .stop)))) (fun hgrd => q_sub rfl rfl rfl rfl (by omega))) rfl rfl ?_
  refine M0 (Qt.grdT rfl rfl rfl (.hit (.hit (.hit (.hit (.hit .stop))))) (fun hgrd => q_lss rfl rfl rfl rfl)) rfl rfl ?_;refine M0 (q_and rfl rfl rfl rfl) rfl rfl ?_;refine L_nil ?_
  refine T_n ?_
  refine A_cond rfl (fun h => ?_) (fun h => ?_)
  · simp only [Bool.and_eq_true,decide_eq_true_eq] at h
    have hlt : q + k < s.size := by omega
    obtain ⟨f,hf⟩ : ∃ f,6 - k = f + 1 := ⟨5 - k,by omega⟩
    obtain ⟨c,hc⟩ : ∃ c,byteAt s (q + k) = c := ⟨_,rfl⟩
    have hcr := byteAt_lt s (q + k)
    rw [hc] at hcr
    have hc1 : byteAt s ((q : Int) + (k : Int)).toNat = c := by rw [← hc]; congr 1
    obtain ⟨d,hd⟩ : ∃ d : Nat,c % 128 = d := ⟨(c % 128).toNat,by omega⟩
    have hd1 : c.toNat &&& (127 : Int).toNat = d := by
      rw [show (127 : Int).toNat = 2 ^ 7 - 1 from rfl,Nat.and_two_pow_sub_one_eq_mod]
      omega
    have hdM := dv_part (c := d) (M := M) (by omega) (by omega)
    obtain ⟨r,hr⟩ : ∃ r,(d : Int) * M = r := ⟨_,rfl⟩
    rw [hr] at hdM
    have hr1 : (d : Int) * 2 ^ (7 * (k : Int)).toNat = r := by rw [pow7i,hM,hr]
    have hgo1 : dvGo s q n k (f + 1) = if 128 ≤ c then dvGo s q (n + r) (k + 1) f else if (c = 0 ∧ 0 < k) ∨ 1099511627775 < n + r then none else some (n + r,k + 1) := by
      have h9 : c % 128 * 2 ^ (7 * k) = r := by
        rw [hd,← hr,← hM]
        norm_cast
      rw [dvGo,if_pos hlt,hc,h9]
    rw [hf,hgo1]
    by_cases h7 : 128 ≤ c
    · have hb7 : decide (128 ≤ c) = true := decide_eq_true h7
      refine A_skip (T_n (A_seq (A_block (A_seq (A_region ?_)))));refine M0 (q_moveC rfl rfl rfl) rfl rfl ?_;refine M0 (q_moveC rfl rfl rfl) rfl rfl ?_
      refine M0 (q_moveC rfl rfl rfl) rfl rfl ?_;refine M0 (q_add rfl rfl rfl rfl (by omega)) rfl rfl ?_;refine M0 (q_byteK rfl rfl rfl rfl (by assumption) (by omega)) rfl rfl ?_
      refine M0 (q_assignC rfl rfl rfl) rfl rfl ?_;refine L_nil (T_n (A_seq (A_region ?_)));refine M0 (q_moveC rfl rfl rfl) rfl rfl ?_
      refine M0 (q_moveC rfl rfl rfl) rfl rfl ?_;refine M0 (q_band8K rfl rfl rfl rfl (by assumption) (by omega)) rfl rfl ?_
      refine M0 (q_convI rfl rfl rfl rfl (wrap_i64 (by omega))) rfl rfl ?_;refine M0 (q_moveC rfl rfl rfl) rfl rfl ?_;refine M0 (q_mul rfl rfl rfl rfl (by omega)) rfl rfl ?_
      refine M0 (q_shlK rfl rfl rfl rfl (by assumption) (by omega) (by omega)) rfl rfl ?_;refine M0 (q_add rfl rfl rfl rfl (by omega)) rfl rfl ?_
      refine M0 (q_assignC rfl rfl rfl) rfl rfl ?_;refine L_nil (T_n (A_seq (A_seq (A_region ?_))));refine M0 (q_moveC rfl rfl rfl) rfl rfl ?_
      refine M0 (q_geqK rfl rfl rfl rfl (by assumption)) rfl rfl ?_;refine L_nil (T_n ?_);refine A_ifT rfl ?_;refine A_exit (T_x (B_xs (T_n ?_)))
      refine A_region ?_;refine M0 (q_moveC rfl rfl rfl) rfl rfl ?_;refine M0 (q_add rfl rfl rfl rfl (by omega)) rfl rfl ?_;refine M0 (q_assignC rfl rfl rfl) rfl rfl ?_;refine L_nil ?_
      refine T_n ?_
      refine ⟨6 - (k + 1),(by omega),(fun (k : Nat) (n : Int) => (⟨_,[(0,S s),(1,I q),(7,I n),(8,I k)],[]⟩ : St)) (k + 1) (n + r),W_go [] (by decide) rfl (rfl) (.cons rfl (.cons rfl (.cons rfl (.cons rfl (.nil))))),k + 1,n + r,rfl,⟨by omega,by omega,by rw [hMs]; omega,by rw [if_pos h7,show 6 - (k + 1) = f by omega]⟩,rfl⟩
    have hb7 : decide (128 ≤ c) = false := decide_eq_false h7
    rw [if_neg h7]
    refine A_skip (T_n (A_seq (A_block (A_seq (A_region ?_)))));refine M0 (q_moveC rfl rfl rfl) rfl rfl ?_;refine M0 (q_moveC rfl rfl rfl) rfl rfl ?_
    refine M0 (q_moveC rfl rfl rfl) rfl rfl ?_;refine M0 (q_add rfl rfl rfl rfl (by omega)) rfl rfl ?_;refine M0 (q_byteK rfl rfl rfl rfl (by assumption) (by omega)) rfl rfl ?_
    refine M0 (q_assignC rfl rfl rfl) rfl rfl ?_;refine L_nil (T_n (A_seq (A_region ?_)));refine M0 (q_moveC rfl rfl rfl) rfl rfl ?_
    refine M0 (q_moveC rfl rfl rfl) rfl rfl ?_;refine M0 (q_band8K rfl rfl rfl rfl (by assumption) (by omega)) rfl rfl ?_
    refine M0 (q_convI rfl rfl rfl rfl (wrap_i64 (by omega))) rfl rfl ?_;refine M0 (q_moveC rfl rfl rfl) rfl rfl ?_;refine M0 (q_mul rfl rfl rfl rfl (by omega)) rfl rfl ?_
    refine M0 (q_shlK rfl rfl rfl rfl (by assumption) (by omega) (by omega)) rfl rfl ?_;refine M0 (q_add rfl rfl rfl rfl (by omega)) rfl rfl ?_
    refine M0 (q_assignC rfl rfl rfl) rfl rfl ?_;refine L_nil (T_n (A_seq (A_seq (A_region ?_))));refine M0 (q_moveC rfl rfl rfl) rfl rfl ?_
    refine M0 (q_geqK rfl rfl rfl rfl (by assumption)) rfl rfl ?_;refine L_nil (T_n ?_);refine A_ifF rfl ?_;refine A_skip (T_n (A_seq (A_seq ?_)))
    refine A_region ?_;refine M0 (q_moveC rfl rfl rfl) rfl rfl ?_;refine M0 (q_eql rfl rfl rfl rfl) rfl rfl ?_;refine M0 (q_moveC rfl rfl rfl) rfl rfl ?_
    refine M0 (Qt.grdT rfl rfl rfl .stop (fun hgrd => q_moveC rfl rfl rfl)) rfl rfl ?_;refine M0 (Qt.grdT rfl rfl rfl (.hit .stop) (fun hgrd => q_gtr rfl rfl rfl rfl)) rfl rfl ?_
    refine M0 (q_and rfl rfl rfl rfl) rfl rfl ?_;refine M0 (q_moveC rfl rfl rfl) rfl rfl ?_;refine M0 (Qt.grdF rfl rfl rfl .stop (fun hgrd => q_moveC rfl rfl rfl)) rfl rfl ?_
    refine M0 (Qt.grdF rfl rfl rfl (.hit .stop) (fun hgrd => q_gtr rfl rfl rfl rfl)) rfl rfl ?_;refine M0 (q_or rfl rfl rfl rfl) rfl rfl ?_;refine L_nil (T_n ?_)
    refine A_cond rfl (fun h8 => ?_) (fun h8 => ?_)
    · simp only [Bool.or_eq_true,Bool.and_eq_true,decide_eq_true_eq] at h8
      rw [if_pos (by omega)]
      refine A_seq (A_region ?_);refine M0 (q_assignC rfl rfl rfl) rfl rfl ?_;refine M0 (q_assignC rfl rfl rfl) rfl rfl ?_;refine M0 (q_assignC rfl rfl rfl) rfl rfl ?_;refine L_nil ?_
      refine T_n (A_ret (T_r (B_r (T_r (T_r (B_r (T_r (F_r ?_))))))))
      exact E_tmp3 rfl rfl rfl rfl (W_end [] (by decide) rfl rfl rfl)
    · simp only [Bool.or_eq_false_iff,Bool.and_eq_false_iff,decide_eq_false_iff_not] at h8
      rw [if_neg (by omega)]
      refine A_skip (T_n (A_seq (A_region ?_)));refine M0 (q_moveC rfl rfl rfl) rfl rfl ?_;refine M0 (q_moveC rfl rfl rfl) rfl rfl ?_
      refine M0 (q_add rfl rfl rfl rfl (by omega)) rfl rfl ?_;refine M0 (q_assignC rfl rfl rfl) rfl rfl ?_;refine M0 (q_assignC rfl rfl rfl) rfl rfl ?_
      refine M0 (q_assignC rfl rfl rfl) rfl rfl ?_;refine L_nil (T_n (A_ret (B_r (T_r (T_r (B_r (T_r (F_r ?_))))))))
      exact E_tmp3 rfl rfl rfl rfl (W_end [] (by decide) rfl rfl rfl)
  · simp only [Bool.and_eq_false_iff,decide_eq_false_iff_not] at h
    rw [show dvGo s q n k (6 - k) = none by
      cases hf : 6 - k with
      | zero => rfl
      | succ f => rw [dvGo,if_neg (by omega)]]
    refine A_exit (T_x (T_x (B_xs (T_n (A_seq (A_region ?_))))));refine M0 (q_assignC rfl rfl rfl) rfl rfl ?_
    refine M0 (q_assignC rfl rfl rfl) rfl rfl ?_;refine M0 (q_assignC rfl rfl rfl) rfl rfl ?_;refine L_nil (T_n (A_ret (F_r ?_)))
    exact E_tmp3 rfl rfl rfl rfl (W_end [] (by decide) rfl rfl rfl)
theorem or_add {n r M : Nat} {k d : Nat} (hM : 2 ^ (7 * k) = M) (hn : n < M) (hr : d * M = r) : n ||| r = n + r := by
  subst hM
  rw [← hr,Nat.mul_comm,Nat.add_comm,Nat.or_comm]
  exact (Nat.two_pow_add_eq_or_of_lt hn d).symm
/-- the bytes of s from p on, k of them -/
def bytesL (s : ByteArray) (p k : Nat) : List UInt8 := (s.data.toList.drop p).take k
theorem byteAt_list {s : ByteArray} {i : Nat} (h : i < s.size) : ∃ b : UInt8,s.data.toList[i]? = some b ∧ byteAt s i = (b.toNat : Int) := by
  have h1 : i < s.data.size := h
  refine ⟨s.data[i],by simp [h1],?_⟩
  unfold byteAt
  have : s[i]? = some s.data[i] := by
    rw [getElem?_pos s i h]
    rfl
  rw [this]
  rfl
theorem bytesL_succ {s : ByteArray} {p k : Nat} (h : p + k < s.size) : ∃ b : UInt8,bytesL s p (k + 1) = bytesL s p k ++ [b] ∧ byteAt s (p + k) = (b.toNat : Int) := by
  obtain ⟨b,h1,h2⟩ := byteAt_list h
  refine ⟨b,?_,h2⟩
  unfold bytesL
  rw [List.take_add_one,List.getElem?_drop,h1]
  rfl
def dval : List UInt8 → Nat
  | [] => 0
  | b :: l => b.toNat % 128 + 128 * dval l
theorem dval_snoc (b : UInt8) : ∀ l : List UInt8,dval (l ++ [b]) = dval l + b.toNat % 128 * 2 ^ (7 * l.length)
  | [] => by simp [dval]
  | a :: l => by
    have h1 := dval_snoc b l
    have h2 := pow7s l.length
    simp only [List.cons_append,dval,List.length_cons,h1,h2]
    rw [Nat.mul_add,Nat.add_assoc,Nat.mul_left_comm]
theorem dval_lt : ∀ l : List UInt8,dval l < 2 ^ (7 * l.length)
  | [] => by simp [dval]
  | a :: l => by
    have h1 := dval_lt l
    have h2 := pow7s l.length
    simp only [dval,List.length_cons,h2]
    omega
theorem dval_zero {b : UInt8} (hb : b.toNat < 128) : ∀ {l : List UInt8},dval (l ++ [b]) = 0 → b.toNat = 0
  | [],h => by simp [dval] at h; omega
  | a :: l,h => by
    simp only [List.cons_append,dval] at h
    exact dval_zero hb (l := l) (by omega)
theorem canon {b : UInt8} (hb : b.toNat < 128) : ∀ (l : List UInt8),(∀ a ∈ l,128 ≤ a.toNat) → (varN (dval (l ++ [b])) = l ++ [b] ↔ (l = [] ∨ b.toNat ≠ 0))
  | [],_ => by
    simp only [List.nil_append,dval,true_or,iff_true]
    rw [Nat.mod_eq_of_lt hb,Nat.mul_zero,Nat.add_zero,varN_small hb,UInt8.ofNat_toNat]
  | a :: l,h => by
    have ih := canon hb l fun x hx => h x (by simp [hx])
    have ha := h a (by simp)
    have ha2 := a.toNat_lt
    simp only [List.cons_append,dval]
    by_cases hD : dval (l ++ [b]) = 0
    · have h0 := dval_zero hb hD
      rw [hD,Nat.mul_zero,Nat.add_zero,varN_small (by omega)]
      constructor
      · intro e
        have := congrArg List.length e
        simp at this
      · intro e
        rcases e with e | e
        · cases e
        · exact absurd h0 e
    · have hm : (a.toNat % 128 + 128 * dval (l ++ [b])) % 128 = a.toNat % 128 := by omega
      have hq : (a.toNat % 128 + 128 * dval (l ++ [b])) / 128 = dval (l ++ [b]) := by omega
      have ha3 : UInt8.ofNat (a.toNat % 128 + 128) = a := by
        rw [show a.toNat % 128 + 128 = a.toNat by omega,UInt8.ofNat_toNat]
      rw [varN_big (by omega),hm,hq,ha3]
      simp only [List.cons.injEq,true_and]
      rw [ih]
      constructor
      · intro e
        rcases e with rfl | e
        · refine .inr fun e => hD ?_
          simp [dval,e]
        · exact .inr e
      · intro e
        rcases e with e | e
        · cases e
        · exact .inr e
theorem extract_list (s : ByteArray) (p q : Nat) : (s.extract p q).data.toList = (s.data.toList.drop p).take (q - p) := by
  rw [ByteArray.data_extract,Array.toList_extract]
theorem extract_bytes (s : ByteArray) (p k : Nat) : s.extract p (p + k) = bs (bytesL s p k) := by
  rw [← bs_of (s.extract p (p + k)),extract_list,show p + k - p = k by omega]
  rfl
set_option maxHeartbeats 8000000 in
theorem S_DecodeVarint (s : ByteArray) (p : Int) (hs : s.size ≤ 1099511627776) (hp : I64 p) : Con Try.prog 71 [] [astr s,ai p] [] (dvR (decVar s p)) := by
  obtain ⟨hp1,hp2⟩ := hp
  by_cases hneg : p < 0
  · have hb1 : decide (p < 0) = true := decide_eq_true hneg
    rw [show decVar s p = none by rw [decVar,if_neg (by omega)]]
    refine Con.of Try.func71 rfl Try.ntmps71 rfl (fun E => ?_)
    refine A_seq (A_region ?_);refine M0 (q_assignC rfl rfl rfl) rfl rfl ?_;refine M0 (q_assignC rfl rfl rfl) rfl rfl ?_;refine M0 (q_assignC rfl rfl rfl) rfl rfl ?_;refine L_nil ?_
    refine T_n (A_seq (A_seq (A_region ?_)));refine M0 (q_moveC rfl rfl rfl) rfl rfl ?_;refine M0 (q_lssK rfl rfl rfl rfl (by assumption)) rfl rfl ?_;refine L_nil ?_
    refine T_n ?_;refine A_ifT rfl ?_;refine A_seq (A_region ?_);refine M0 (q_assignC rfl rfl rfl) rfl rfl ?_;refine M0 (q_assignC rfl rfl rfl) rfl rfl ?_
    refine M0 (q_assignC rfl rfl rfl) rfl rfl ?_;refine L_nil (T_n (A_ret (T_r (F_r ?_))))
    exact E_tmp3 rfl rfl rfl rfl (W_end [] (by decide) rfl rfl rfl)
  have hb1 : decide (p < 0) = false := decide_eq_false hneg
  by_cases hbig : (s.size : Int) ≤ p
  · have hb2 : decide (p < (s.size : Int)) = false := decide_eq_false (by omega)
    rw [show decVar s p = none by rw [decVar,if_neg (by omega)]]
    refine Con.of Try.func71 rfl Try.ntmps71 rfl (fun E => ?_)
    refine A_seq (A_region ?_);refine M0 (q_assignC rfl rfl rfl) rfl rfl ?_;refine M0 (q_assignC rfl rfl rfl) rfl rfl ?_;refine M0 (q_assignC rfl rfl rfl) rfl rfl ?_;refine L_nil ?_
    refine T_n (A_seq (A_seq (A_region ?_)));refine M0 (q_moveC rfl rfl rfl) rfl rfl ?_;refine M0 (q_lssK rfl rfl rfl rfl (by assumption)) rfl rfl ?_;refine L_nil ?_
    refine T_n ?_;refine A_ifF rfl ?_;refine A_skip (T_n (A_seq (A_region ?_)));refine M0 (q_assignC rfl rfl rfl) rfl rfl ?_;refine L_nil (T_n ?_)
    refine A_seq (A_seq (A_region ?_));refine M0 (q_assignC rfl rfl rfl) rfl rfl ?_;refine L_nil (T_n (A_block ?_))
    refine A_loop (fun m st => ∃ k : Nat,k + m = 1 ∧ (True) ∧ st = (fun k : Nat => (⟨_,[(0,S s),(1,I p),(8,I k)],[]⟩ : St)) k) (1) ⟨(fun k : Nat => (⟨_,[(0,S s),(1,I p),(8,I k)],[]⟩ : St)) 0,W_go [] (by decide) rfl (rfl) (.cons rfl (.cons rfl (.cons rfl (.nil)))),0,by omega,trivial,rfl⟩ ?_
    rintro m_A _ ⟨k,hk_A,hp_A,rfl⟩
    have hkz : k = 0 ∨ k = 1 := by omega
    have hb3 : decide ((k : Int) < 6) = true := decide_eq_true (by omega)
    refine A_seq (A_seq (A_region ?_));refine M0 (q_moveC rfl rfl rfl) rfl rfl ?_;refine M0 (q_lssK rfl rfl rfl rfl (by assumption)) rfl rfl ?_
    refine M0 (q_moveC rfl rfl rfl) rfl rfl ?_;refine M_yes rfl rfl rfl ?_;refine M0 (q_moveC rfl rfl rfl) rfl rfl ?_;refine M_yes rfl rfl rfl ?_;refine M0 (q_moveC rfl rfl rfl) rfl rfl ?_
    refine M_yes rfl rfl rfl ?_;refine M0 (q_lens rfl rfl rfl) rfl rfl ?_;refine M_yes rfl rfl rfl ?_;refine M0 (q_lssK rfl rfl rfl rfl (by assumption)) rfl rfl ?_
    refine M0 (q_pickT rfl rfl rfl rfl) rfl rfl ?_;refine M0 (q_moveC rfl rfl rfl) rfl rfl ?_;refine M_no rfl rfl rfl rfl rfl rfl ?_;refine M_no rfl rfl rfl rfl rfl rfl ?_
    refine M_no rfl rfl rfl rfl rfl rfl ?_;refine M_no rfl rfl rfl rfl rfl rfl ?_;refine M_no rfl rfl rfl rfl rfl rfl ?_;refine M_no rfl rfl rfl rfl rfl rfl ?_
    refine M0 (q_pickF rfl rfl rfl rfl) rfl rfl ?_;refine L_nil (T_n ?_);refine A_ifF rfl ?_;refine A_exit (T_x (T_x (B_xs (T_n (A_seq ?_)))))
    refine A_region ?_;refine M0 (q_assignC rfl rfl rfl) rfl rfl ?_;refine M0 (q_assignC rfl rfl rfl) rfl rfl ?_;refine M0 (q_assignC rfl rfl rfl) rfl rfl ?_;refine L_nil (T_n ?_)
    refine A_ret (F_r ?_)
    exact E_tmp3 rfl rfl rfl rfl (W_end [] (by decide) rfl rfl rfl)
  obtain ⟨q,rfl⟩ : ∃ q : Nat,p = q := ⟨p.toNat,by omega⟩
  have hb2 : decide ((q : Int) < (s.size : Int)) = true := decide_eq_true (by omega)
  rw [show decVar s q = dvGo s q 0 0 6 by rw [decVar,if_pos (by omega)]; rfl]
  refine Con.of Try.func71 rfl Try.ntmps71 rfl (fun E => ?_)
  refine A_seq (A_region ?_);refine M0 (q_assignC rfl rfl rfl) rfl rfl ?_;refine M0 (q_assignC rfl rfl rfl) rfl rfl ?_;refine M0 (q_assignC rfl rfl rfl) rfl rfl ?_;refine L_nil ?_
  refine T_n (A_seq (A_seq (A_region ?_)));refine M0 (q_moveC rfl rfl rfl) rfl rfl ?_;refine M0 (q_lssK rfl rfl rfl rfl (by assumption)) rfl rfl ?_;refine L_nil ?_
  refine T_n ?_;refine A_ifF rfl ?_;refine A_skip (T_n (A_seq (A_region ?_)));refine M0 (q_assignC rfl rfl rfl) rfl rfl ?_;refine L_nil (T_n ?_)
  refine A_seq (A_seq (A_region ?_));refine M0 (q_assignC rfl rfl rfl) rfl rfl ?_;refine L_nil (T_n (A_block ?_))
  refine A_loop (fun m__ st => ∃ (k : Nat) (n : Nat),6 - k = m__ ∧ (k ≤ 6 ∧ q + k ≤ s.size ∧ (∀ a ∈ bytesL s q k,128 ≤ a.toNat) ∧ n = dval (bytesL s q k) ∧ dvGo s q n k (6 - k) = dvGo s q 0 0 6) ∧ st = (fun (k : Nat) (n : Nat) => (⟨_,[(0,S s),(1,I q),(7,I n),(8,I k)],[]⟩ : St)) (k) (n)) ((fun (k : Nat) (n : Nat) => 6 - k) (0) (0)) ⟨(fun (k : Nat) (n : Nat) => (⟨_,[(0,S s),(1,I q),(7,I n),(8,I k)],[]⟩ : St)) (0) (0),W_go [] (by decide) rfl (rfl) (.cons rfl (.cons rfl (.cons rfl (.cons rfl (.nil))))),0,0,rfl,⟨by omega,by omega,by simp [bytesL],by simp [bytesL,dval],rfl⟩,rfl⟩ ?_
  rintro m_A _ ⟨k,n,hk_A,hp_A,rfl⟩
  obtain ⟨hk6,hqk,hall,hn,hgo⟩ := hp_A
  have hlen : (bytesL s q k).length = k := by
    have : s.data.toList.length = s.size := by simp
    simp [bytesL]; omega
  have hn1 := dval_lt (bytesL s q k)
  rw [← hn,hlen] at hn1
  obtain ⟨M,hM,hM1,hM2⟩ := pow7 hk6
  have hMs := pow7s k
  rw [hM] at hn1 hMs
  rw [← hgo]
  refine A_seq (A_seq (A_region ?_));refine M0 (q_moveC rfl rfl rfl) rfl rfl ?_;refine M0 (q_lss rfl rfl rfl rfl) rfl rfl ?_;refine M0 (q_moveC rfl rfl rfl) rfl rfl ?_
  refine M0 (Qt.grdT rfl rfl rfl .stop (fun hgrd => q_moveC rfl rfl rfl)) rfl rfl ?_;refine M0 (Qt.grdT rfl rfl rfl (.hit .stop) (fun hgrd => q_moveC rfl rfl rfl)) rfl rfl ?_
  refine M0 (Qt.grdT rfl rfl rfl (.hit (.hit .stop)) (fun hgrd => q_lens rfl rfl rfl)) rfl rfl ?_
  refine M0 (Qt.grdT rfl rfl rfl (.hit (.hit (.hit .stop))) (fun hgrd => q_lssK rfl rfl rfl rfl (by assumption))) rfl rfl ?_;refine M0 (q_and rfl rfl rfl rfl) rfl rfl ?_
  refine M0 (q_moveC rfl rfl rfl) rfl rfl ?_;refine M0 (Qt.grdT rfl rfl rfl .stop (fun hgrd => q_moveC rfl rfl rfl)) rfl rfl ?_
  refine M0 (Qt.grdT rfl rfl rfl (.hit .stop) (fun hgrd => q_moveC rfl rfl rfl)) rfl rfl ?_
  refine M0 (Qt.grdT rfl rfl rfl (.hit (.hit .stop)) (fun hgrd => q_add rfl rfl rfl rfl (by omega))) rfl rfl ?_
  refine M0 (Qt.grdT rfl rfl rfl (.hit (.hit (.hit .stop))) (fun hgrd => q_moveC rfl rfl rfl)) rfl rfl ?_
  refine M0 (Qt.grdT rfl rfl rfl (.hit (.hit (.hit (.hit .stop)))) (fun hgrd => q_lens rfl rfl rfl)) rfl rfl ?_
  refine M0 (Qt.grdT rfl rfl rfl (.hit (.hit (.hit (.hit (.hit .stop))))) (fun hgrd => q_lss rfl rfl rfl rfl)) rfl rfl ?_;refine M0 (q_and rfl rfl rfl rfl) rfl rfl ?_;refine L_nil ?_
  refine T_n ?_
  refine A_cond rfl (fun h => ?_) (fun h => ?_)
  · simp only [Bool.and_eq_true,decide_eq_true_eq] at h
    have hlt : q + k < s.size := by omega
    obtain ⟨f,hf⟩ : ∃ f,6 - k = f + 1 := ⟨5 - k,by omega⟩
    obtain ⟨b,hb,hcb⟩ := bytesL_succ hlt
    obtain ⟨c,hc⟩ : ∃ c : Nat,b.toNat = c := ⟨_,rfl⟩
    rw [hc] at hcb
    have hcr := byteAt_lt s (q + k)
    rw [hcb] at hcr
    have hc1 : byteAt s ((q : Int) + (k : Int)).toNat = (c : Int) := by rw [← hcb]; congr 1
    obtain ⟨d,hd⟩ : ∃ d : Nat,c % 128 = d := ⟨_,rfl⟩
    have hd1 : (c : Int).toNat &&& (127 : Int).toNat = d := by
      rw [show (127 : Int).toNat = 2 ^ 7 - 1 from rfl,Nat.and_two_pow_sub_one_eq_mod]
      exact hd
    obtain ⟨r,hr⟩ : ∃ r : Nat,d * M = r := ⟨_,rfl⟩
    have hr2 : r ≤ 127 * M := by rw [← hr]; exact Nat.mul_le_mul_right _ (by omega)
    have hr1 : (d : Int) * 2 ^ (7 * (k : Int)).toNat = (r : Int) := by rw [pow7i,hM,← hr]; norm_cast
    have hor : (n : Int).toNat ||| (r : Int).toNat = n + r := or_add hM hn1 hr
    have hval : n + r = dval (bytesL s q (k + 1)) := by rw [hb,dval_snoc,hlen,hM,hc,hd,hr,← hn]
    have hgo1 : dvGo s q n k (f + 1) = if 128 ≤ (c : Int) then dvGo s q ((n + r : Nat) : Int) (k + 1) f else if ((c : Int) = 0 ∧ 0 < k) ∨ 1099511627775 < ((n + r : Nat) : Int) then none else some (((n + r : Nat) : Int),k + 1) := by
      have h9 : (n : Int) + (c : Int) % 128 * 2 ^ (7 * k) = ((n + r : Nat) : Int) := by
        rw [show (c : Int) % 128 = d by omega,← hr,← hM]
        norm_cast
      rw [dvGo,if_pos hlt,hcb,h9]
    rw [hf,hgo1]
    by_cases h7 : 128 ≤ (c : Int)
    · have hb7 : decide ((c : Int) < 128) = false := decide_eq_false (by omega)
      refine A_skip (T_n (A_seq (A_block (A_seq (A_region ?_)))));refine M0 (q_moveC rfl rfl rfl) rfl rfl ?_;refine M0 (q_moveC rfl rfl rfl) rfl rfl ?_
      refine M0 (q_moveC rfl rfl rfl) rfl rfl ?_;refine M0 (q_moveC rfl rfl rfl) rfl rfl ?_;refine M0 (q_add rfl rfl rfl rfl (by omega)) rfl rfl ?_
      refine M0 (q_byteK rfl rfl rfl rfl (by assumption) (by omega)) rfl rfl ?_;refine M0 (q_band8K rfl rfl rfl rfl (by assumption) (by omega)) rfl rfl ?_
      refine M0 (q_convI rfl rfl rfl rfl (wrap_i64 (by omega))) rfl rfl ?_;refine M0 (q_moveC rfl rfl rfl) rfl rfl ?_;refine M0 (q_mul rfl rfl rfl rfl (by omega)) rfl rfl ?_
      refine M0 (q_shlK rfl rfl rfl rfl (by assumption) (by omega) (by omega)) rfl rfl ?_;refine M0 (q_borK rfl rfl rfl rfl (by assumption) (by omega)) rfl rfl ?_
      refine M0 (q_assignC rfl rfl rfl) rfl rfl ?_;refine L_nil (T_n (A_seq (A_region ?_)));refine M0 (q_moveC rfl rfl rfl) rfl rfl ?_
      refine M0 (q_moveC rfl rfl rfl) rfl rfl ?_;refine M0 (q_moveC rfl rfl rfl) rfl rfl ?_;refine M0 (q_add rfl rfl rfl rfl (by omega)) rfl rfl ?_
      refine M0 (q_byteK rfl rfl rfl rfl (by assumption) (by omega)) rfl rfl ?_;refine M0 (q_lssK rfl rfl rfl rfl (by assumption)) rfl rfl ?_;refine L_nil (T_n ?_)
      refine A_ifF rfl ?_;refine A_skip (B_n (T_n (A_region ?_)));refine M0 (q_moveC rfl rfl rfl) rfl rfl ?_;refine M0 (q_add rfl rfl rfl rfl (by omega)) rfl rfl ?_
      refine M0 (q_assignC rfl rfl rfl) rfl rfl ?_;refine L_nil (T_n ?_)
      refine ⟨6 - (k + 1),(by omega),(fun (k : Nat) (n : Nat) => (⟨_,[(0,S s),(1,I q),(7,I n),(8,I k)],[]⟩ : St)) (k + 1) (n + r),W_go [] (by decide) rfl (rfl) (.cons rfl (.cons rfl (.cons rfl (.cons rfl (.nil))))),k + 1,n + r,rfl,⟨by omega,by omega,by rw [hb]; intro a ha; rcases List.mem_append.1 ha with ha | ha; exact hall a ha; simp only [List.mem_singleton] at ha; rw [ha]; omega,hval,by rw [if_pos h7,show 6 - (k + 1) = f by omega]⟩,rfl⟩
    have hb7 : decide ((c : Int) < 128) = true := decide_eq_true (by omega)
    rw [if_neg h7]
    have hcan := canon (b := b) (by omega) (bytesL s q k) hall
    rw [← hb,← hval] at hcan
    have hle := encVar_len ((n + r : Nat) : Int)
    have hex := extract_bytes s q (k + 1)
    have hnil : bytesL s q k = [] ↔ k = 0 := by rw [← List.length_eq_zero_iff,hlen]
    have hne : bytesL s q (k + 1) ≠ [] := by rw [hb]; simp
    have hex1 : s.extract ((q : Int)).toNat ((q : Int) + (k : Int) + 1).toNat = bs (bytesL s q (k + 1)) := by rw [← hex]; congr 1
    have hiff : bs (encVar ((n + r : Nat) : Int)) = bs (bytesL s q (k + 1)) ↔ ¬ (((c : Int) = 0 ∧ 0 < k) ∨ 1099511627775 < ((n + r : Nat) : Int)) := by
      rw [bs_inj,encVar]
      split
      · rename_i h5
        rw [show (((n + r : Nat) : Int)).toNat = n + r by omega,hcan,hnil]
        omega
      · exact ⟨fun e => absurd e.symm hne,fun e => by omega⟩
    by_cases h8 : ((c : Int) = 0 ∧ 0 < k) ∨ 1099511627775 < ((n + r : Nat) : Int)
    · rw [if_pos h8]
      have hb8 : decide (bs (encVar ((n + r : Nat) : Int)) ≠ s.extract ((q : Int)).toNat ((q : Int) + (k : Int) + 1).toNat) = true := decide_eq_true (by rw [hex1]; exact fun e => hiff.1 e h8)
      refine A_skip (T_n (A_seq (A_block (A_seq (A_region ?_)))));refine M0 (q_moveC rfl rfl rfl) rfl rfl ?_;refine M0 (q_moveC rfl rfl rfl) rfl rfl ?_
      refine M0 (q_moveC rfl rfl rfl) rfl rfl ?_;refine M0 (q_moveC rfl rfl rfl) rfl rfl ?_;refine M0 (q_add rfl rfl rfl rfl (by omega)) rfl rfl ?_
      refine M0 (q_byteK rfl rfl rfl rfl (by assumption) (by omega)) rfl rfl ?_;refine M0 (q_band8K rfl rfl rfl rfl (by assumption) (by omega)) rfl rfl ?_
      refine M0 (q_convI rfl rfl rfl rfl (wrap_i64 (by omega))) rfl rfl ?_;refine M0 (q_moveC rfl rfl rfl) rfl rfl ?_;refine M0 (q_mul rfl rfl rfl rfl (by omega)) rfl rfl ?_
      refine M0 (q_shlK rfl rfl rfl rfl (by assumption) (by omega) (by omega)) rfl rfl ?_;refine M0 (q_borK rfl rfl rfl rfl (by assumption) (by omega)) rfl rfl ?_
      refine M0 (q_assignC rfl rfl rfl) rfl rfl ?_;refine L_nil (T_n (A_seq (A_region ?_)));refine M0 (q_moveC rfl rfl rfl) rfl rfl ?_
      refine M0 (q_moveC rfl rfl rfl) rfl rfl ?_;refine M0 (q_moveC rfl rfl rfl) rfl rfl ?_;refine M0 (q_add rfl rfl rfl rfl (by omega)) rfl rfl ?_
      refine M0 (q_byteK rfl rfl rfl rfl (by assumption) (by omega)) rfl rfl ?_;refine M0 (q_lssK rfl rfl rfl rfl (by assumption)) rfl rfl ?_;refine L_nil (T_n ?_)
      refine A_ifT rfl ?_;refine A_seq (A_seq ?_)
      refine A_draw [[],[0],[],[],[],[],[4,5],[4,5,6],[2,3,4,5,6,7],[0,1,2,3,4,5,6,7,8]] [[],[47],[],[],[],[],[51,52],[51,52,53],[49,50,51,52,53,54],[47,48,49,50,51,52,53,54,55]] [[49,50,51,52,53,54,55],[49,50,51,52,53,54,55],[47,48,50,51,52,53,54],[47,48,49,51,52,53,54],[47,48,49,50,52],[47,48,49,50,51],[47,48,49,50],[47,48,49,50],[47,48],[]] rfl ?_
      refine DR.step (q_moveC rfl rfl rfl) rfl rfl ?_;refine DR.step (q_call0 rfl rfl (S_EncodeVarint ((n + r : Nat) : Int)) rfl) rfl rfl ?_;refine DR.step (q_moveC rfl rfl rfl) rfl rfl ?_
      refine DR.step (q_moveC rfl rfl rfl) rfl rfl ?_;refine DR.step (q_moveC rfl rfl rfl) rfl rfl ?_;refine DR.step (q_moveC rfl rfl rfl) rfl rfl ?_
      refine DR.step (q_add rfl rfl rfl rfl (by omega)) rfl rfl ?_;refine DR.step (q_add rfl rfl rfl rfl (by omega)) rfl rfl ?_
      refine DR.step (q_sslice rfl rfl rfl rfl rfl (by omega)) rfl rfl ?_;refine DR.step (q_sneqK rfl rfl rfl rfl (by assumption)) rfl rfl ?_
      refine DR.stop (by kernel_rfl) (by kernel_rfl) ?_
      refine L_nil (T_n ?_);refine A_ifT rfl ?_;refine A_seq (A_region ?_);refine M0 (q_assignC rfl rfl rfl) rfl rfl ?_;refine M0 (q_assignC rfl rfl rfl) rfl rfl ?_
      refine M0 (q_assignC rfl rfl rfl) rfl rfl ?_;refine L_nil (T_n (A_ret (T_r (B_r (T_r (T_r (B_r (T_r (F_r ?_)))))))))
      exact E_tmp3 rfl rfl rfl rfl (W_end [] (by decide) rfl rfl rfl)
    · rw [if_neg h8]
      have hb8 : decide (bs (encVar ((n + r : Nat) : Int)) ≠ s.extract ((q : Int)).toNat ((q : Int) + (k : Int) + 1).toNat) = false := decide_eq_false (by rw [hex1]; exact fun e => e (hiff.2 h8))
      refine A_skip (T_n (A_seq (A_block (A_seq (A_region ?_)))));refine M0 (q_moveC rfl rfl rfl) rfl rfl ?_;refine M0 (q_moveC rfl rfl rfl) rfl rfl ?_
      refine M0 (q_moveC rfl rfl rfl) rfl rfl ?_;refine M0 (q_moveC rfl rfl rfl) rfl rfl ?_;refine M0 (q_add rfl rfl rfl rfl (by omega)) rfl rfl ?_
      refine M0 (q_byteK rfl rfl rfl rfl (by assumption) (by omega)) rfl rfl ?_;refine M0 (q_band8K rfl rfl rfl rfl (by assumption) (by omega)) rfl rfl ?_
      refine M0 (q_convI rfl rfl rfl rfl (wrap_i64 (by omega))) rfl rfl ?_;refine M0 (q_moveC rfl rfl rfl) rfl rfl ?_;refine M0 (q_mul rfl rfl rfl rfl (by omega)) rfl rfl ?_
      refine M0 (q_shlK rfl rfl rfl rfl (by assumption) (by omega) (by omega)) rfl rfl ?_;refine M0 (q_borK rfl rfl rfl rfl (by assumption) (by omega)) rfl rfl ?_
      refine M0 (q_assignC rfl rfl rfl) rfl rfl ?_;refine L_nil (T_n (A_seq (A_region ?_)));refine M0 (q_moveC rfl rfl rfl) rfl rfl ?_
      refine M0 (q_moveC rfl rfl rfl) rfl rfl ?_;refine M0 (q_moveC rfl rfl rfl) rfl rfl ?_;refine M0 (q_add rfl rfl rfl rfl (by omega)) rfl rfl ?_
      refine M0 (q_byteK rfl rfl rfl rfl (by assumption) (by omega)) rfl rfl ?_;refine M0 (q_lssK rfl rfl rfl rfl (by assumption)) rfl rfl ?_;refine L_nil (T_n ?_)
      refine A_ifT rfl ?_;refine A_seq (A_seq ?_)
      refine A_draw [[],[0],[],[],[],[],[4,5],[4,5,6],[2,3,4,5,6,7],[0,1,2,3,4,5,6,7,8]] [[],[47],[],[],[],[],[51,52],[51,52,53],[49,50,51,52,53,54],[47,48,49,50,51,52,53,54,55]] [[49,50,51,52,53,54,55],[49,50,51,52,53,54,55],[47,48,50,51,52,53,54],[47,48,49,51,52,53,54],[47,48,49,50,52],[47,48,49,50,51],[47,48,49,50],[47,48,49,50],[47,48],[]] rfl ?_
      refine DR.step (q_moveC rfl rfl rfl) rfl rfl ?_;refine DR.step (q_call0 rfl rfl (S_EncodeVarint ((n + r : Nat) : Int)) rfl) rfl rfl ?_;refine DR.step (q_moveC rfl rfl rfl) rfl rfl ?_
      refine DR.step (q_moveC rfl rfl rfl) rfl rfl ?_;refine DR.step (q_moveC rfl rfl rfl) rfl rfl ?_;refine DR.step (q_moveC rfl rfl rfl) rfl rfl ?_
      refine DR.step (q_add rfl rfl rfl rfl (by omega)) rfl rfl ?_;refine DR.step (q_add rfl rfl rfl rfl (by omega)) rfl rfl ?_
      refine DR.step (q_sslice rfl rfl rfl rfl rfl (by omega)) rfl rfl ?_;refine DR.step (q_sneqK rfl rfl rfl rfl (by assumption)) rfl rfl ?_
      refine DR.stop (by kernel_rfl) (by kernel_rfl) ?_
      refine L_nil (T_n ?_);refine A_ifF rfl ?_;refine A_skip (T_n (A_seq (A_region ?_)));refine M0 (q_moveC rfl rfl rfl) rfl rfl ?_
      refine M0 (q_moveC rfl rfl rfl) rfl rfl ?_;refine M0 (q_add rfl rfl rfl rfl (by omega)) rfl rfl ?_;refine M0 (q_assignC rfl rfl rfl) rfl rfl ?_
      refine M0 (q_assignC rfl rfl rfl) rfl rfl ?_;refine M0 (q_assignC rfl rfl rfl) rfl rfl ?_;refine L_nil (T_n (A_ret (B_r (T_r (T_r ?_)))))
      refine B_r (T_r (F_r ?_))
      exact E_tmp3 rfl rfl rfl rfl (W_end [] (by decide) rfl rfl rfl)
  · simp only [Bool.and_true,Bool.and_eq_false_iff,decide_eq_false_iff_not] at h
    rw [show dvGo s q n k (6 - k) = none by
      cases hf : 6 - k with
      | zero => rfl
      | succ f => rw [dvGo,if_neg (by omega)]]
    refine A_exit (T_x (T_x (B_xs (T_n (A_seq (A_region ?_))))));refine M0 (q_assignC rfl rfl rfl) rfl rfl ?_
    refine M0 (q_assignC rfl rfl rfl) rfl rfl ?_;refine M0 (q_assignC rfl rfl rfl) rfl rfl ?_;refine L_nil (T_n (A_ret (F_r ?_)))
    exact E_tmp3 rfl rfl rfl rfl (W_end [] (by decide) rfl rfl rfl)
end Go.Proofs.Ytmljakmaffbnlaa
end

section
set_option linter.unusedVariables false
namespace Go.Proofs.Ytmljakmaffbnlaa
open Go.RowKit

section
variable {P : Program} {ops : Array Oper} {o : Oper} {st : St} {m : Nat} {t t' : TypeId} {y z : Operand} {ps qs : List Nat}
theorem q_bneqR {u : Bool} [TyBool P t] (ho : o.op = .binOp .neq t y z t') (hg : o.guard = none) (hy : st.ev y = .o (.c (.rd ps (.v (.bool u))))) (hz : st.ev z = .o (.c (.rd qs (.v (.bool u))))) : Qt P ops o st (B false) [] m := by
  have h := q_bneq (m := m) (P := P) (ops := ops) ho hg hy hz
  rwa [beq_self_eq_true] at h
theorem q_neqR {k : IntKind} {u : Int} (ho : o.op = .binOp .neq t y z t') (hg : o.guard = none) (hy : st.ev y = .o (.c (.rd ps (.v (.int k u))))) (hz : st.ev z = .o (.c (.rd qs (.v (.int k u))))) : Qt P ops o st (B false) [] m :=
  q_neqK ho hg hy hz (by simp)
/-- moving what a call with several results hands back -/
theorem q_moveT {xs : List V2} (ho : o.op = .move y) (hg : o.guard = none) (hy : st.ev y = .tu xs) : Qt P ops o st (.tu xs) [] m :=
  .pure hg fun a w H F hr => ⟨a.eval y,by simp [execOp,ho],by rw [← hy]; exact hr.ev y⟩
end
end Go.Proofs.Ytmljakmaffbnlaa
end

section
set_option linter.unusedSimpArgs false
set_option linter.unusedVariables false
set_option maxRecDepth 8000
namespace Go.Proofs.Ytmljakmaffbnlaa
open Go.RowKit

theorem dvGo_some (s : ByteArray) (q : Nat) : ∀ (f k : Nat) (n m : Int) (j : Nat),0 ≤ n → dvGo s q n k f = some (m,j) → 0 ≤ m ∧ m ≤ 1099511627775 ∧ k < j ∧ j ≤ k + f ∧ q + j ≤ s.size := by
  intro f
  induction f with
  | zero => intro k n m j _ h; simp [dvGo] at h
  | succ f ih =>
    intro k n m j h0 h
    have hb := byteAt_lt s (q + k)
    rw [dvGo] at h
    have hp : (0 : Int) ≤ byteAt s (q + k) % 128 * 2 ^ (7 * k) := Int.mul_nonneg (by omega) (Int.le_of_lt (Int.pow_pos (by omega)))
    split at h
    · split at h
      · have := ih (k + 1) _ m j (by omega) h
        omega
      · split at h
        · cases h
        · simp only [Option.some.injEq,Prod.mk.injEq] at h
          obtain ⟨rfl,rfl⟩ := h
          omega
    · cases h
theorem decVar_some {s : ByteArray} {p m : Int} {j : Nat} (h : decVar s p = some (m,j)) : 0 ≤ p ∧ 0 ≤ m ∧ m ≤ 1099511627775 ∧ 1 ≤ j ∧ j ≤ 6 ∧ p + j ≤ s.size := by
  unfold decVar at h
  split at h
  · have := dvGo_some s p.toNat 6 0 0 m j (by omega) h
    omega
  · cases h
theorem q_quoN {P : Program} {ops : Array Oper} {o : Oper} {st : St} {n : Nat} {t t' : TypeId} {y z : Operand} {ps qs : List Nat} {i j r : Int} (ho : o.op = .binOp .quo t y z t') (hg : o.guard = none) (hy : st.ev y = .o (.c (.rd ps (.v (.int .i64 i))))) (hz : st.ev z = .o (.c (.rd qs (.v (.int .i64 j)))))
    (hr : i.tdiv j = r) (hb : -9223372036854775808 ≤ i ∧ i ≤ 9223372036854775807 ∧ 1 ≤ j) : Qt P ops o st (I r) [] n :=
  hr ▸ q_arith ho hg hy hz fun w => by
    have : j ≠ 0 := by omega
    simp [binOp,Op.intDiv,this,IntWalk.i64_quo' _ _ hb]
def signed (n : Int) : Int := if 0 ≤ n ∧ n ≤ 1099511627775 then (if n % 2 = 0 then n / 2 else -((n + 1) / 2)) else 0
theorem signed_gd (n : Int) : I64 (signed n) := by
  unfold signed
  split
  · split <;> exact ⟨by omega,by omega⟩
  · exact ⟨by omega,by omega⟩
theorem neg_tdiv {n : Int} (h : 0 ≤ n) : (-(n + 1)).tdiv 2 = -((n + 1) / 2) := by
  rw [Int.neg_tdiv,Int.tdiv_eq_ediv_of_nonneg (by omega)]
set_option maxHeartbeats 8000000 in
theorem I_Signed (n : Int) (hn : I64 n) : Con Try.prog 106 [] [ai n] [] (I (signed n)) := by
  obtain ⟨hn1,hn2⟩ := hn
  refine Con.of Try.func106 rfl Try.ntmps106 rfl (fun E => ?_)
  refine A_seq (A_region ?_);refine M0 (q_assignC rfl rfl rfl) rfl rfl ?_;refine L_nil (T_n (A_seq (A_seq (A_region ?_))))
  refine M0 (q_moveC rfl rfl rfl) rfl rfl ?_;refine M0 (q_lss rfl rfl rfl rfl) rfl rfl ?_;refine M0 (q_moveC rfl rfl rfl) rfl rfl ?_
  refine M0 (Qt.grdF rfl rfl rfl .stop (fun hgrd => q_moveC rfl rfl rfl)) rfl rfl ?_;refine M0 (Qt.grdF rfl rfl rfl (.hit .stop) (fun hgrd => q_gtr rfl rfl rfl rfl)) rfl rfl ?_
  refine M0 (q_or rfl rfl rfl rfl) rfl rfl ?_;refine L_nil (T_n ?_)
  refine A_cond rfl (fun h => ?_) (fun h => ?_)
  · simp only [Bool.or_eq_true,decide_eq_true_eq] at h
    refine A_seq (A_region ?_);refine M0 (q_assignC rfl rfl rfl) rfl rfl ?_;refine L_nil (T_n (A_ret (T_r (F_r ?_))))
    exact E_tmp rfl rfl (W_end [] (by decide) rfl rfl (I_eq (by rw [signed,if_neg (by omega)])))
  simp only [Bool.or_eq_false_iff,decide_eq_false_iff_not] at h
  have hv := neg_tdiv (n := n) (by omega)
  refine A_skip (T_n (A_seq (A_seq (A_region ?_))));refine M0 (q_moveC rfl rfl rfl) rfl rfl ?_;refine M0 (q_rem rfl rfl rfl rfl (by omega)) rfl rfl ?_
  refine M0 (q_eql rfl rfl rfl rfl) rfl rfl ?_;refine L_nil (T_n ?_)
  refine A_cond rfl (fun h1 => ?_) (fun h1 => ?_)
  · have h1 := of_decide_eq_true h1
    refine A_seq (A_region ?_);refine M0 (q_moveC rfl rfl rfl) rfl rfl ?_;refine M0 (q_quo rfl rfl rfl rfl (by omega)) rfl rfl ?_;refine M0 (q_assignC rfl rfl rfl) rfl rfl ?_
    refine L_nil (T_n (A_ret (T_r (F_r ?_))))
    exact E_tmp rfl rfl (W_end [] (by decide) rfl rfl (I_eq (by rw [signed,if_pos (by omega),if_pos (by omega)])))
  · have h1 := of_decide_eq_false h1
    refine A_skip (T_n (A_seq (A_region ?_)));refine M0 (q_moveC rfl rfl rfl) rfl rfl ?_;refine M0 (q_add rfl rfl rfl rfl (by omega)) rfl rfl ?_
    refine M0 (q_neg rfl rfl rfl (by omega)) rfl rfl ?_;refine M0 (q_quoN rfl rfl rfl rfl (by assumption) (by omega)) rfl rfl ?_;refine M0 (q_assignC rfl rfl rfl) rfl rfl ?_
    refine L_nil (T_n (A_ret (F_r ?_)))
    exact E_tmp rfl rfl (W_end [] (by decide) rfl rfl (I_eq (by rw [signed,if_pos (by omega),if_neg (by omega)])))
set_option maxHeartbeats 8000000 in
theorem S_Signed (n : Int) (hn : I64 n) : Con Try.prog 100 [] [ai n] [] (I (signed n)) := by
  obtain ⟨hn1,hn2⟩ := hn
  refine Con.of Try.func100 rfl Try.ntmps100 rfl (fun E => ?_)
  refine A_seq (A_region ?_);refine M0 (q_assignC rfl rfl rfl) rfl rfl ?_;refine L_nil (T_n (A_seq (A_seq (A_region ?_))))
  refine M0 (q_moveC rfl rfl rfl) rfl rfl ?_;refine M0 (q_call0 rfl rfl (S_in n 0 1099511627775) rfl) rfl rfl ?_;refine M0 (q_not rfl rfl rfl) rfl rfl ?_;refine L_nil (T_n ?_)
  refine A_cond rfl (fun h => ?_) (fun h => ?_)
  · have h : ¬ (0 ≤ n ∧ n ≤ 1099511627775) := by rw [← inR_iff]; simpa using h
    refine A_seq (A_region ?_);refine M0 (q_assignC rfl rfl rfl) rfl rfl ?_;refine L_nil (T_n (A_ret (T_r (F_r ?_))))
    exact E_tmp rfl rfl (W_end [] (by decide) rfl rfl (I_eq (by rw [signed,if_neg h])))
  have h : 0 ≤ n ∧ n ≤ 1099511627775 := by rw [← inR_iff]; simpa using h
  have hv := neg_tdiv (n := n) (by omega)
  have hm : n.toNat &&& (1 : Int).toNat = n.toNat % 2 := Nat.and_two_pow_sub_one_eq_mod n.toNat 1
  refine A_skip (T_n (A_seq (A_seq (A_region ?_))));refine M0 (q_moveC rfl rfl rfl) rfl rfl ?_
  refine M0 (q_bandK rfl rfl rfl rfl (by assumption) (by omega)) rfl rfl ?_;refine M0 (q_eql rfl rfl rfl rfl) rfl rfl ?_;refine L_nil (T_n ?_)
  refine A_cond rfl (fun h1 => ?_) (fun h1 => ?_)
  · have h1 := of_decide_eq_true h1
    refine A_seq (A_region ?_);refine M0 (q_moveC rfl rfl rfl) rfl rfl ?_;refine M0 (q_add rfl rfl rfl rfl (by omega)) rfl rfl ?_
    refine M0 (q_neg rfl rfl rfl (by omega)) rfl rfl ?_;refine M0 (q_quoN rfl rfl rfl rfl (by assumption) (by omega)) rfl rfl ?_;refine M0 (q_assignC rfl rfl rfl) rfl rfl ?_
    refine L_nil (T_n (A_ret (T_r (F_r ?_))))
    exact E_tmp rfl rfl (W_end [] (by decide) rfl rfl (I_eq (by rw [signed,if_pos (by omega),if_neg (by omega)])))
  · have h1 := of_decide_eq_false h1
    refine A_skip (T_n (A_seq (A_region ?_)));refine M0 (q_moveC rfl rfl rfl) rfl rfl ?_;refine M0 (q_quo rfl rfl rfl rfl (by omega)) rfl rfl ?_
    refine M0 (q_assignC rfl rfl rfl) rfl rfl ?_;refine L_nil (T_n (A_ret (F_r ?_)))
    exact E_tmp rfl rfl (W_end [] (by decide) rfl rfl (I_eq (by rw [signed,if_pos (by omega),if_pos (by omega)])))
/-! ### Lists -/
def uiGo (s : ByteArray) (p : Nat) : Nat → Nat → Option (List Int × Nat)
  | 0,pos => some ([],pos)
  | c + 1,pos => match decVar s ((p : Int) + (pos : Int)) with
    | none => none
    | some (v,m) => (uiGo s p c (pos + m)).map fun r => (signed v :: r.1,r.2)
def unpackInts (s : ByteArray) (p : Int) : Option (List Int × Nat) := match decVar s p with
  | none => none
  | some (n,k) => uiGo s p.toNat n.toNat k
@[reducible] def uiO : Option (List Int × Nat) → List Ob
  | none => [.row 1 []]
  | some (l,_) => [.row 1 (els l)]
@[reducible] def uiR : Option (List Int × Nat) → V
  | none => .tu [.c (.ref 0),.c (jn 0),.c (bv false)]
  | some (_,k) => .tu [.c (.ref 0),.c (jn k),.c (bv true)]
theorem uiGo_some (s : ByteArray) (p : Nat) : ∀ (c pos : Nat) (l : List Int) (j : Nat),uiGo s p c pos = some (l,j) → l.length = c ∧ pos + c ≤ j ∧ (0 < c → p + j ≤ s.size) ∧ (∀ x ∈ l,I64 x) := by
  intro c
  induction c with
  | zero =>
    intro pos l j h
    simp only [uiGo,Option.some.injEq,Prod.mk.injEq] at h
    obtain ⟨rfl,rfl⟩ := h
    exact ⟨rfl,by omega,fun h => by omega,fun x hx => by simp at hx⟩
  | succ c ih =>
    intro pos l j h
    rw [uiGo] at h
    split at h
    · cases h
    · rename_i v m hd
      obtain ⟨r,h1,h2⟩ := Option.map_eq_some_iff.1 h
      simp only [Prod.mk.injEq] at h2
      obtain ⟨rfl,rfl⟩ := h2
      have hm := decVar_some hd
      obtain ⟨a1,a2,a3,a4⟩ := ih (pos + m) r.1 r.2 h1
      refine ⟨by simp [a1],by omega,fun _ => ?_,fun x hx => ?_⟩
      · by_cases hc : 0 < c
        · exact a3 hc
        · have : c = 0 := by omega
          subst this
          simp only [uiGo,Option.some.injEq] at h1
          rw [← h1]
          show p + (pos + m) ≤ s.size
          omega
      · rcases List.mem_cons.1 hx with rfl | hx
        · exact signed_gd v
        · exact a4 x hx
theorem unpackInts_some {s : ByteArray} {p : Int} {l : List Int} {j : Nat} (h : unpackInts s p = some (l,j)) : 0 ≤ p ∧ 1 ≤ j ∧ p + j ≤ s.size ∧ (l.length : Int) + 1 ≤ j ∧ (∀ x ∈ l,I64 x) := by
  unfold unpackInts at h
  split at h
  · cases h
  · rename_i n k hd
    have hm := decVar_some hd
    obtain ⟨a1,a2,a3,a4⟩ := uiGo_some s _ _ _ _ _ h
    refine ⟨hm.1,by omega,?_,by omega,a4⟩
    by_cases hn : 0 < n.toNat
    · have := a3 hn; omega
    · have h0 : n.toNat = 0 := by omega
      rw [h0] at h
      simp only [uiGo,Option.some.injEq,Prod.mk.injEq] at h
      omega
theorem els_snocI (acc : List Int) (v : Int) : els (acc ++ [v]) = els acc ++ [[.v (.int .i64 v)]] := by simp [els,Enc.e]
set_option maxHeartbeats 8000000 in
theorem I_UnpackInts (s : ByteArray) (p : Int) (hs : s.size ≤ 1099511627776) (hp : I64 p) : Con Try.prog 83 [] [astr s,ai p] (uiO (unpackInts s p)) (uiR (unpackInts s p)) := by
  have hd := I_DecodeVarint s p hs hp
  cases hv : decVar s p with
  | none =>
    rw [hv] at hd
    rw [show unpackInts s p = none by rw [unpackInts,hv]]
    refine Con.of Try.func83 rfl Try.ntmps83 rfl (fun E => ?_)
    refine A_seq (A_region ?_);refine M0 (q_assignC rfl rfl rfl) rfl rfl ?_;refine M0 (q_assignC rfl rfl rfl) rfl rfl ?_;refine M0 (q_assignC rfl rfl rfl) rfl rfl ?_;refine L_nil ?_
    refine T_n (A_seq (A_region ?_));refine M0 (q_moveC rfl rfl rfl) rfl rfl ?_;refine M0 (q_moveC rfl rfl rfl) rfl rfl ?_
    refine M1 (q_call rfl rfl (hd) rfl rfl rfl) rfl rfl ?_;refine M0 (q_moveT rfl rfl rfl) rfl rfl ?_;refine M0 (q_ext rfl rfl rfl rfl) rfl rfl ?_
    refine M0 (q_ext rfl rfl rfl rfl) rfl rfl ?_;refine M0 (q_ext rfl rfl rfl rfl) rfl rfl ?_;refine M0 (q_assignC rfl rfl rfl) rfl rfl ?_;refine M0 (q_assignC rfl rfl rfl) rfl rfl ?_
    refine M0 (q_assignC rfl rfl rfl) rfl rfl ?_;refine L_nil (T_n (A_seq (A_seq (A_region ?_))));refine M0 (q_moveC rfl rfl rfl) rfl rfl ?_
    refine M0 (q_not rfl rfl rfl) rfl rfl ?_;refine M0 (q_moveC rfl rfl rfl) rfl rfl ?_;refine M_no rfl rfl rfl rfl rfl rfl ?_;refine M_no rfl rfl rfl rfl rfl rfl ?_
    refine M_no rfl rfl rfl rfl rfl rfl ?_;refine M_no rfl rfl rfl rfl rfl rfl ?_;refine M_no rfl rfl rfl rfl rfl rfl ?_;refine M_no rfl rfl rfl rfl rfl rfl ?_
    refine M_no rfl rfl rfl rfl rfl rfl ?_;refine M_no rfl rfl rfl rfl rfl rfl ?_;refine M0 (q_pickT rfl rfl rfl rfl) rfl rfl ?_;refine L_nil (T_n ?_);refine A_ifT rfl ?_
    refine A_seq (A_region ?_);refine M0 (q_assignC rfl rfl rfl) rfl rfl ?_;refine M0 (q_assignC rfl rfl rfl) rfl rfl ?_;refine M0 (q_assignC rfl rfl rfl) rfl rfl ?_;refine L_nil ?_
    refine T_n (A_ret (T_r (F_r ?_)))
    exact E_tmp3 rfl rfl rfl rfl (W_fill [1] [0] rfl rfl (by decide) rfl rfl rfl)
  | some r =>
    obtain ⟨n,k0⟩ := r
    rw [hv] at hd
    have hm := decVar_some hv
    obtain ⟨q,rfl⟩ : ∃ q : Nat,p = q := ⟨p.toNat,by omega⟩
    obtain ⟨c,rfl⟩ : ∃ c : Nat,n = c := ⟨n.toNat,by omega⟩
    rw [show unpackInts s q = uiGo s q c k0 by rw [unpackInts,hv]; rfl]
    by_cases hbig : (s.size : Int) - q - k0 < c
    · have hb : decide ((s.size : Int) - q - k0 < c) = true := decide_eq_true hbig
      have hno : uiGo s q c k0 = none := by
        cases ho : uiGo s q c k0 with
        | none => rfl
        | some r =>
          have := uiGo_some s q c k0 r.1 r.2 ho
          omega
      rw [hno]
      refine Con.of Try.func83 rfl Try.ntmps83 rfl (fun E => ?_)
      refine A_seq (A_region ?_);refine M0 (q_assignC rfl rfl rfl) rfl rfl ?_;refine M0 (q_assignC rfl rfl rfl) rfl rfl ?_;refine M0 (q_assignC rfl rfl rfl) rfl rfl ?_;refine L_nil ?_
      refine T_n (A_seq (A_region ?_));refine M0 (q_moveC rfl rfl rfl) rfl rfl ?_;refine M0 (q_moveC rfl rfl rfl) rfl rfl ?_
      refine M1 (q_call rfl rfl (hd) rfl rfl rfl) rfl rfl ?_;refine M0 (q_moveT rfl rfl rfl) rfl rfl ?_;refine M0 (q_ext rfl rfl rfl rfl) rfl rfl ?_
      refine M0 (q_ext rfl rfl rfl rfl) rfl rfl ?_;refine M0 (q_ext rfl rfl rfl rfl) rfl rfl ?_;refine M0 (q_assignC rfl rfl rfl) rfl rfl ?_;refine M0 (q_assignC rfl rfl rfl) rfl rfl ?_
      refine M0 (q_assignC rfl rfl rfl) rfl rfl ?_;refine L_nil (T_n (A_seq (A_seq (A_region ?_))));refine M0 (q_moveC rfl rfl rfl) rfl rfl ?_
      refine M0 (q_not rfl rfl rfl) rfl rfl ?_;refine M0 (q_moveC rfl rfl rfl) rfl rfl ?_;refine M_yes rfl rfl rfl ?_;refine M0 (q_moveC rfl rfl rfl) rfl rfl ?_;refine M_yes rfl rfl rfl ?_
      refine M0 (q_moveC rfl rfl rfl) rfl rfl ?_;refine M_yes rfl rfl rfl ?_;refine M0 (q_lens rfl rfl rfl) rfl rfl ?_;refine M_yes rfl rfl rfl ?_;refine M0 (q_moveC rfl rfl rfl) rfl rfl ?_
      refine M_yes rfl rfl rfl ?_;refine M0 (q_sub rfl rfl rfl rfl (by omega)) rfl rfl ?_;refine M_yes rfl rfl rfl ?_;refine M0 (q_moveC rfl rfl rfl) rfl rfl ?_;refine M_yes rfl rfl rfl ?_
      refine M0 (q_sub rfl rfl rfl rfl (by omega)) rfl rfl ?_;refine M_yes rfl rfl rfl ?_;refine M0 (q_gtrK rfl rfl rfl rfl (by assumption)) rfl rfl ?_
      refine M0 (q_pickF rfl rfl rfl rfl) rfl rfl ?_;refine L_nil (T_n ?_);refine A_ifT rfl ?_;refine A_seq (A_region ?_);refine M0 (q_assignC rfl rfl rfl) rfl rfl ?_
      refine M0 (q_assignC rfl rfl rfl) rfl rfl ?_;refine M0 (q_assignC rfl rfl rfl) rfl rfl ?_;refine L_nil (T_n (A_ret (T_r (F_r ?_))))
      exact E_tmp3 rfl rfl rfl rfl (W_fill [1] [0] rfl rfl (by decide) rfl rfl rfl)
    have hb : decide ((s.size : Int) - q - k0 < c) = false := decide_eq_false hbig
    refine Con.of Try.func83 rfl Try.ntmps83 rfl (fun E => ?_)
    refine A_seq (A_region ?_);refine M0 (q_assignC rfl rfl rfl) rfl rfl ?_;refine M0 (q_assignC rfl rfl rfl) rfl rfl ?_;refine M0 (q_assignC rfl rfl rfl) rfl rfl ?_;refine L_nil ?_
    refine T_n (A_seq (A_region ?_));refine M0 (q_moveC rfl rfl rfl) rfl rfl ?_;refine M0 (q_moveC rfl rfl rfl) rfl rfl ?_
    refine M1 (q_call rfl rfl (hd) rfl rfl rfl) rfl rfl ?_;refine M0 (q_moveT rfl rfl rfl) rfl rfl ?_;refine M0 (q_ext rfl rfl rfl rfl) rfl rfl ?_
    refine M0 (q_ext rfl rfl rfl rfl) rfl rfl ?_;refine M0 (q_ext rfl rfl rfl rfl) rfl rfl ?_;refine M0 (q_assignC rfl rfl rfl) rfl rfl ?_;refine M0 (q_assignC rfl rfl rfl) rfl rfl ?_
    refine M0 (q_assignC rfl rfl rfl) rfl rfl ?_;refine L_nil (T_n (A_seq (A_seq (A_region ?_))));refine M0 (q_moveC rfl rfl rfl) rfl rfl ?_
    refine M0 (q_not rfl rfl rfl) rfl rfl ?_;refine M0 (q_moveC rfl rfl rfl) rfl rfl ?_;refine M_yes rfl rfl rfl ?_;refine M0 (q_moveC rfl rfl rfl) rfl rfl ?_;refine M_yes rfl rfl rfl ?_
    refine M0 (q_moveC rfl rfl rfl) rfl rfl ?_;refine M_yes rfl rfl rfl ?_;refine M0 (q_lens rfl rfl rfl) rfl rfl ?_;refine M_yes rfl rfl rfl ?_;refine M0 (q_moveC rfl rfl rfl) rfl rfl ?_
    refine M_yes rfl rfl rfl ?_;refine M0 (q_sub rfl rfl rfl rfl (by omega)) rfl rfl ?_;refine M_yes rfl rfl rfl ?_;refine M0 (q_moveC rfl rfl rfl) rfl rfl ?_;refine M_yes rfl rfl rfl ?_
    refine M0 (q_sub rfl rfl rfl rfl (by omega)) rfl rfl ?_;refine M_yes rfl rfl rfl ?_;refine M0 (q_gtrK rfl rfl rfl rfl (by assumption)) rfl rfl ?_
    refine M0 (q_pickF rfl rfl rfl rfl) rfl rfl ?_;refine L_nil (T_n ?_);refine A_ifF rfl ?_;refine A_skip (T_n (A_seq (A_region ?_)))
    refine M0 (q_moveC rfl rfl rfl) rfl rfl ?_;refine M1 (q_makec 1 rfl rfl rfl rfl (by omega) (by omega) (by omega) (by omega) rfl (by simp)) rfl rfl ?_
    refine M0 (q_assignC rfl rfl rfl) rfl rfl ?_;refine L_nil (T_n (A_seq (A_seq (A_region ?_))));refine M0 (q_assignC rfl rfl rfl) rfl rfl ?_;refine L_nil ?_
    refine T_n (A_block ?_)
    refine A_loop (fun m__ st => ∃ (k : Nat) (pos : Nat) (acc : List Int),c - k = m__ ∧ (k ≤ c ∧ acc.length = k ∧ q + pos + (c - k) ≤ s.size + (c - k) ∧ q + pos ≤ s.size ∧ (uiGo s q (c - k) pos).map (fun r => (acc ++ r.1,r.2)) = uiGo s q c k0) ∧ st = (fun (k : Nat) (pos : Nat) (acc : List Int) => (⟨_,[(0,S s),(1,I q),(7,I c),(8,I pos),(10,.o (.c (.ref 0))),(11,I k)],[.row 1 (els acc)]⟩ : St)) (k) (pos) (acc)) ((fun (k : Nat) (pos : Nat) (acc : List Int) => c - k) (0) (k0) ([])) ⟨(fun (k : Nat) (pos : Nat) (acc : List Int) => (⟨_,[(0,S s),(1,I q),(7,I c),(8,I pos),(10,.o (.c (.ref 0))),(11,I k)],[.row 1 (els acc)]⟩ : St)) (0) (k0) ([]),W_go [0] (by decide) rfl (rfl) (.cons rfl (.cons rfl (.cons rfl (.cons rfl (.cons rfl (.cons rfl (.nil))))))),0,k0,[],rfl,⟨by omega,rfl,by omega,by omega,by simp⟩,rfl⟩ ?_
    rintro m_A _ ⟨k,pos,acc,hk_A,hp_A,rfl⟩
    obtain ⟨hkc,hacc,_,hpos,hgo⟩ := hp_A
    have hla := els_len acc
    rw [← hgo]
    refine A_seq (A_seq (A_region ?_));refine M0 (q_moveC rfl rfl rfl) rfl rfl ?_;refine M0 (q_moveC rfl rfl rfl) rfl rfl ?_;refine M0 (q_lss rfl rfl rfl rfl) rfl rfl ?_
    refine L_nil (T_n ?_)
    refine A_cond rfl (fun h => ?_) (fun h => ?_)
    · have hlt : k < c := by have := of_decide_eq_true h; omega
      have hd2 := I_DecodeVarint s ((q : Int) + (pos : Int)) hs ⟨by omega,by omega⟩
      obtain ⟨f,hf⟩ : ∃ f,c - k = f + 1 := ⟨c - k - 1,by omega⟩
      rw [hf]
      cases hv2 : decVar s ((q : Int) + (pos : Int)) with
      | none =>
        rw [hv2] at hd2
        rw [show uiGo s q (f + 1) pos = none by rw [uiGo,hv2]]
        refine A_skip (T_n (A_seq (A_block (A_seq (A_region ?_)))));refine M0 (q_moveC rfl rfl rfl) rfl rfl ?_;refine M0 (q_moveC rfl rfl rfl) rfl rfl ?_
        refine M0 (q_moveC rfl rfl rfl) rfl rfl ?_;refine M0 (q_add rfl rfl rfl rfl (by omega)) rfl rfl ?_;refine M1 (q_call rfl rfl (hd2) rfl rfl rfl) rfl rfl ?_
        refine M0 (q_moveT rfl rfl rfl) rfl rfl ?_;refine M0 (q_ext rfl rfl rfl rfl) rfl rfl ?_;refine M0 (q_ext rfl rfl rfl rfl) rfl rfl ?_;refine M0 (q_ext rfl rfl rfl rfl) rfl rfl ?_
        refine M0 (q_assignC rfl rfl rfl) rfl rfl ?_;refine M0 (q_assignC rfl rfl rfl) rfl rfl ?_;refine M0 (q_assignC rfl rfl rfl) rfl rfl ?_;refine L_nil (T_n (A_seq ?_))
        refine A_seq (A_region ?_);refine M0 (q_moveC rfl rfl rfl) rfl rfl ?_;refine M0 (q_not rfl rfl rfl) rfl rfl ?_;refine L_nil (T_n ?_);refine A_ifT rfl ?_;refine A_seq ?_
        refine A_region ?_;refine M0 (q_assignC rfl rfl rfl) rfl rfl ?_;refine M0 (q_assignC rfl rfl rfl) rfl rfl ?_;refine M0 (q_assignC rfl rfl rfl) rfl rfl ?_;refine L_nil (T_n ?_)
        refine A_ret (T_r (B_r (T_r (T_r (B_r (T_r (F_r ?_)))))))
        exact E_tmp3 rfl rfl rfl rfl (W_fill [1] [1] rfl rfl (by decide) rfl rfl rfl)
      | some r =>
        obtain ⟨v,m⟩ := r
        rw [hv2] at hd2
        have hm2 := decVar_some hv2
        have hsg := I_Signed v ⟨by omega,by omega⟩
        refine A_skip (T_n (A_seq (A_block (A_seq (A_region ?_)))));refine M0 (q_moveC rfl rfl rfl) rfl rfl ?_;refine M0 (q_moveC rfl rfl rfl) rfl rfl ?_
        refine M0 (q_moveC rfl rfl rfl) rfl rfl ?_;refine M0 (q_add rfl rfl rfl rfl (by omega)) rfl rfl ?_;refine M1 (q_call rfl rfl (hd2) rfl rfl rfl) rfl rfl ?_
        refine M0 (q_moveT rfl rfl rfl) rfl rfl ?_;refine M0 (q_ext rfl rfl rfl rfl) rfl rfl ?_;refine M0 (q_ext rfl rfl rfl rfl) rfl rfl ?_;refine M0 (q_ext rfl rfl rfl rfl) rfl rfl ?_
        refine M0 (q_assignC rfl rfl rfl) rfl rfl ?_;refine M0 (q_assignC rfl rfl rfl) rfl rfl ?_;refine M0 (q_assignC rfl rfl rfl) rfl rfl ?_;refine L_nil (T_n (A_seq ?_))
        refine A_seq (A_region ?_);refine M0 (q_moveC rfl rfl rfl) rfl rfl ?_;refine M0 (q_not rfl rfl rfl) rfl rfl ?_;refine L_nil (T_n ?_);refine A_ifF rfl ?_;refine A_skip ?_
        refine T_n (A_seq (A_region ?_));refine M0 (q_moveC rfl rfl rfl) rfl rfl ?_;refine M0 (q_moveC rfl rfl rfl) rfl rfl ?_;refine M0 (q_call0 rfl rfl (hsg) rfl) rfl rfl ?_
        refine M1 (q_bslice rfl rfl rfl rfl rfl rfl) rfl rfl ?_;refine M_appsb rfl rfl rfl rfl rfl rfl rfl rfl rfl rfl (by omega) (by omega) ?_;refine M0 (q_assignC rfl rfl rfl) rfl rfl ?_
        refine L_nil (T_n (A_region ?_));refine M0 (q_moveC rfl rfl rfl) rfl rfl ?_;refine M0 (q_moveC rfl rfl rfl) rfl rfl ?_
        refine M0 (q_add rfl rfl rfl rfl (by omega)) rfl rfl ?_;refine M0 (q_assignC rfl rfl rfl) rfl rfl ?_;refine L_nil (B_n (T_n (A_region ?_)))
        refine M0 (q_moveC rfl rfl rfl) rfl rfl ?_;refine M0 (q_add rfl rfl rfl rfl (by omega)) rfl rfl ?_;refine M0 (q_assignC rfl rfl rfl) rfl rfl ?_;refine L_nil (T_n ?_)
        refine ⟨c - (k + 1),(by omega),(fun (k : Nat) (pos : Nat) (acc : List Int) => (⟨_,[(0,S s),(1,I q),(7,I c),(8,I pos),(10,.o (.c (.ref 0))),(11,I k)],[.row 1 (els acc)]⟩ : St)) (k + 1) (pos + m) (acc ++ [signed v]),W_go [0] (by decide) rfl (row_eq (els_snocI acc _)) (.cons rfl (.cons rfl (.cons rfl (.cons rfl (.cons rfl (.cons rfl (.nil))))))),k + 1,pos + m,acc ++ [signed v],rfl,⟨by omega,by simp [hacc],by omega,by omega,by rw [uiGo,hv2,show c - (k + 1) = f by omega]; simp [Option.map_map]; rfl⟩,rfl⟩
    · have hkk : k = c := by have := of_decide_eq_false h; omega
      subst hkk
      rw [show uiGo s q (k - k) pos = some ([],pos) by rw [Nat.sub_self]; rfl]
      refine A_exit (T_x (T_x (B_xs (T_n (A_seq (A_region ?_))))));refine M0 (q_moveC rfl rfl rfl) rfl rfl ?_
      refine M0 (q_moveC rfl rfl rfl) rfl rfl ?_;refine M0 (q_assignC rfl rfl rfl) rfl rfl ?_;refine M0 (q_assignC rfl rfl rfl) rfl rfl ?_;refine M0 (q_assignC rfl rfl rfl) rfl rfl ?_
      refine L_nil (T_n (A_ret (F_r ?_)))
      exact E_tmp3 rfl rfl rfl rfl (W_end [0] (by decide) rfl (row_eq (by simp)) rfl)
set_option maxHeartbeats 8000000 in
theorem S_UnpackInts (s : ByteArray) (p : Int) (hs : s.size ≤ 1099511627776) (hp : I64 p) : Con Try.prog 74 [] [astr s,ai p] (uiO (unpackInts s p)) (uiR (unpackInts s p)) := by
  have hd := S_DecodeVarint s p hs hp
  have h00 : ([] : List (List T)).length = 0 := rfl
  cases hv : decVar s p with
  | none =>
    rw [hv] at hd
    rw [show unpackInts s p = none by rw [unpackInts,hv]]
    have hb0 : decide ((0 : Int) < 0) = false := rfl
    refine Con.of Try.func74 rfl Try.ntmps74 rfl (fun E => ?_)
    refine A_seq (A_region ?_);refine M0 (q_assignC rfl rfl rfl) rfl rfl ?_;refine M0 (q_assignC rfl rfl rfl) rfl rfl ?_;refine M0 (q_assignC rfl rfl rfl) rfl rfl ?_;refine L_nil ?_
    refine T_n (A_seq (A_region ?_));refine M0 (q_moveC rfl rfl rfl) rfl rfl ?_;refine M0 (q_moveC rfl rfl rfl) rfl rfl ?_
    refine M1 (q_call rfl rfl (hd) rfl rfl rfl) rfl rfl ?_;refine M0 (q_moveT rfl rfl rfl) rfl rfl ?_;refine M0 (q_ext rfl rfl rfl rfl) rfl rfl ?_
    refine M0 (q_ext rfl rfl rfl rfl) rfl rfl ?_;refine M0 (q_ext rfl rfl rfl rfl) rfl rfl ?_;refine M0 (q_assignC rfl rfl rfl) rfl rfl ?_;refine M0 (q_assignC rfl rfl rfl) rfl rfl ?_
    refine M0 (q_assignC rfl rfl rfl) rfl rfl ?_;refine L_nil (T_n (A_seq (A_region ?_)));refine M1 (q_bslice0 rfl rfl rfl) rfl rfl ?_
    refine M0 (q_assignC rfl rfl rfl) rfl rfl ?_;refine L_nil (T_n (A_seq (A_seq (A_region ?_))));refine M0 (q_assignC rfl rfl rfl) rfl rfl ?_;refine L_nil ?_
    refine T_n (A_block ?_)
    refine A_loop (fun m st => ∃ k : Nat,k + m = 1 ∧ (k = 0) ∧ st = (fun k : Nat => (⟨_,[(7,I 0),(9,B false),(11,I k)],[]⟩ : St)) k) (1) ⟨(fun k : Nat => (⟨_,[(7,I 0),(9,B false),(11,I k)],[]⟩ : St)) 0,W_go [] (by decide) rfl (rfl) (.cons rfl (.cons rfl (.cons rfl (.nil)))),0,by omega,rfl,rfl⟩ ?_
    rintro m_A _ ⟨k,hk_A,hp_A,rfl⟩
    subst hp_A
    refine A_seq (A_seq (A_region ?_));refine M0 (q_moveC rfl rfl rfl) rfl rfl ?_;refine M0 (q_moveC rfl rfl rfl) rfl rfl ?_
    refine M0 (q_lssK rfl rfl rfl rfl (by assumption)) rfl rfl ?_;refine M0 (q_moveC rfl rfl rfl) rfl rfl ?_;refine M_no rfl rfl rfl rfl rfl rfl ?_
    refine M0 (q_pickF rfl rfl rfl rfl) rfl rfl ?_;refine L_nil (T_n ?_);refine A_ifF rfl ?_;refine A_exit (T_x (T_x (B_xs (T_n (A_seq ?_)))))
    refine A_seq (A_region ?_);refine M0 (q_moveC rfl rfl rfl) rfl rfl ?_;refine M0 (q_not rfl rfl rfl) rfl rfl ?_;refine L_nil (T_n ?_);refine A_ifT rfl ?_;refine A_seq ?_
    refine A_region ?_;refine M1 (q_bslice0 rfl rfl rfl) rfl rfl ?_;refine M0 (q_assignC rfl rfl rfl) rfl rfl ?_;refine M0 (q_assignC rfl rfl rfl) rfl rfl ?_
    refine M0 (q_assignC rfl rfl rfl) rfl rfl ?_;refine L_nil (T_n (A_ret (T_r (F_r ?_))))
    exact E_tmp3 rfl rfl rfl rfl (W_end [0] (by decide) rfl rfl rfl)
  | some r =>
    obtain ⟨n,k0⟩ := r
    rw [hv] at hd
    have hm := decVar_some hv
    obtain ⟨q,rfl⟩ : ∃ q : Nat,p = q := ⟨p.toNat,by omega⟩
    obtain ⟨c,rfl⟩ : ∃ c : Nat,n = c := ⟨n.toNat,by omega⟩
    rw [show unpackInts s q = uiGo s q c k0 by rw [unpackInts,hv]; rfl]
    refine Con.of Try.func74 rfl Try.ntmps74 rfl (fun E => ?_)
    refine A_seq (A_region ?_);refine M0 (q_assignC rfl rfl rfl) rfl rfl ?_;refine M0 (q_assignC rfl rfl rfl) rfl rfl ?_;refine M0 (q_assignC rfl rfl rfl) rfl rfl ?_;refine L_nil ?_
    refine T_n (A_seq (A_region ?_));refine M0 (q_moveC rfl rfl rfl) rfl rfl ?_;refine M0 (q_moveC rfl rfl rfl) rfl rfl ?_
    refine M1 (q_call rfl rfl (hd) rfl rfl rfl) rfl rfl ?_;refine M0 (q_moveT rfl rfl rfl) rfl rfl ?_;refine M0 (q_ext rfl rfl rfl rfl) rfl rfl ?_
    refine M0 (q_ext rfl rfl rfl rfl) rfl rfl ?_;refine M0 (q_ext rfl rfl rfl rfl) rfl rfl ?_;refine M0 (q_assignC rfl rfl rfl) rfl rfl ?_;refine M0 (q_assignC rfl rfl rfl) rfl rfl ?_
    refine M0 (q_assignC rfl rfl rfl) rfl rfl ?_;refine L_nil (T_n (A_seq (A_region ?_)));refine M1 (q_bslice0 rfl rfl rfl) rfl rfl ?_
    refine M0 (q_assignC rfl rfl rfl) rfl rfl ?_;refine L_nil (T_n (A_seq (A_seq (A_region ?_))));refine M0 (q_assignC rfl rfl rfl) rfl rfl ?_;refine L_nil ?_
    refine T_n (A_block ?_)
    refine A_loop (fun m__ st => ∃ (k : Nat) (pos : Nat) (acc : List Int) (ok : Bool),c + 1 - k = m__ ∧ (k ≤ c + 1 ∧ acc.length = k ∧ k ≤ s.size + 1 ∧ (ok = true → k ≤ c ∧ k + 1 ≤ pos ∧ q + pos ≤ s.size ∧ (uiGo s q (c - k) pos).map (fun r => (acc ++ r.1,r.2)) = uiGo s q c k0) ∧ (ok = false → uiGo s q c k0 = none) ∧ pos ≤ s.size) ∧ st = (fun (k : Nat) (pos : Nat) (acc : List Int) (ok : Bool) => (⟨_,[(0,S s),(1,I q),(7,I c),(8,I pos),(9,B ok),(10,.o (.c (.ref 0))),(11,I k)],[.row 1 (els acc)]⟩ : St)) (k) (pos) (acc) (ok)) ((fun (k : Nat) (pos : Nat) (acc : List Int) (ok : Bool) => c + 1 - k) (0) (k0) ([]) (true)) ⟨(fun (k : Nat) (pos : Nat) (acc : List Int) (ok : Bool) => (⟨_,[(0,S s),(1,I q),(7,I c),(8,I pos),(9,B ok),(10,.o (.c (.ref 0))),(11,I k)],[.row 1 (els acc)]⟩ : St)) (0) (k0) ([]) (true),W_go [0] (by decide) rfl (rfl) (.cons rfl (.cons rfl (.cons rfl (.cons rfl (.cons rfl (.cons rfl (.cons rfl (.nil)))))))),0,k0,[],true,rfl,⟨by omega,rfl,by omega,fun _ => ⟨by omega,by omega,by omega,by simp⟩,fun e => (by cases e),by omega⟩,rfl⟩ ?_
    rintro m_A _ ⟨k,pos,acc,ok,hk_A,hp_A,rfl⟩
    obtain ⟨hkc,hacc,hks,hok,hno,hps⟩ := hp_A
    have hla := els_len acc
    cases ok with
    | false =>
      rw [hno rfl]
      by_cases hlt : (k : Int) < c
      · have hb : decide ((k : Int) < c) = true := decide_eq_true hlt
        refine A_seq (A_seq (A_region ?_));refine M0 (q_moveC rfl rfl rfl) rfl rfl ?_;refine M0 (q_moveC rfl rfl rfl) rfl rfl ?_
        refine M0 (q_lssK rfl rfl rfl rfl (by assumption)) rfl rfl ?_;refine M0 (q_moveC rfl rfl rfl) rfl rfl ?_;refine M_yes rfl rfl rfl ?_;refine M0 (q_moveC rfl rfl rfl) rfl rfl ?_
        refine M0 (q_pickT rfl rfl rfl rfl) rfl rfl ?_;refine L_nil (T_n ?_);refine A_ifF rfl ?_;refine A_exit (T_x (T_x (B_xs (T_n (A_seq ?_)))))
        refine A_seq (A_region ?_);refine M0 (q_moveC rfl rfl rfl) rfl rfl ?_;refine M0 (q_not rfl rfl rfl) rfl rfl ?_;refine L_nil (T_n ?_);refine A_ifT rfl ?_;refine A_seq ?_
        refine A_region ?_;refine M1 (q_bslice0 rfl rfl rfl) rfl rfl ?_;refine M0 (q_assignC rfl rfl rfl) rfl rfl ?_;refine M0 (q_assignC rfl rfl rfl) rfl rfl ?_
        refine M0 (q_assignC rfl rfl rfl) rfl rfl ?_;refine L_nil (T_n (A_ret (T_r (F_r ?_))))
        exact E_tmp3 rfl rfl rfl rfl (W_end [1] (by decide) rfl rfl rfl)
      · have hb : decide ((k : Int) < c) = false := decide_eq_false hlt
        refine A_seq (A_seq (A_region ?_));refine M0 (q_moveC rfl rfl rfl) rfl rfl ?_;refine M0 (q_moveC rfl rfl rfl) rfl rfl ?_
        refine M0 (q_lssK rfl rfl rfl rfl (by assumption)) rfl rfl ?_;refine M0 (q_moveC rfl rfl rfl) rfl rfl ?_;refine M_no rfl rfl rfl rfl rfl rfl ?_
        refine M0 (q_pickF rfl rfl rfl rfl) rfl rfl ?_;refine L_nil (T_n ?_);refine A_ifF rfl ?_;refine A_exit (T_x (T_x (B_xs (T_n (A_seq ?_)))))
        refine A_seq (A_region ?_);refine M0 (q_moveC rfl rfl rfl) rfl rfl ?_;refine M0 (q_not rfl rfl rfl) rfl rfl ?_;refine L_nil (T_n ?_);refine A_ifT rfl ?_;refine A_seq ?_
        refine A_region ?_;refine M1 (q_bslice0 rfl rfl rfl) rfl rfl ?_;refine M0 (q_assignC rfl rfl rfl) rfl rfl ?_;refine M0 (q_assignC rfl rfl rfl) rfl rfl ?_
        refine M0 (q_assignC rfl rfl rfl) rfl rfl ?_;refine L_nil (T_n (A_ret (T_r (F_r ?_))))
        exact E_tmp3 rfl rfl rfl rfl (W_end [1] (by decide) rfl rfl rfl)
    | true =>
      obtain ⟨hkc2,hkp,hpos,hgo⟩ := hok rfl
      rw [← hgo]
      by_cases hlt : (k : Int) < c
      · have hb : decide ((k : Int) < c) = true := decide_eq_true hlt
        have hd2 := S_DecodeVarint s ((q : Int) + (pos : Int)) hs ⟨by omega,by omega⟩
        obtain ⟨f,hf⟩ : ∃ f,c - k = f + 1 := ⟨c - k - 1,by omega⟩
        rw [hf]
        cases hv2 : decVar s ((q : Int) + (pos : Int)) with
        | none =>
          rw [hv2] at hd2
          rw [show uiGo s q (f + 1) pos = none by rw [uiGo,hv2]]
          have hsg := S_Signed 0 ⟨by omega,by omega⟩
          refine A_seq (A_seq (A_region ?_));refine M0 (q_moveC rfl rfl rfl) rfl rfl ?_;refine M0 (q_moveC rfl rfl rfl) rfl rfl ?_
          refine M0 (q_lssK rfl rfl rfl rfl (by assumption)) rfl rfl ?_;refine M0 (q_moveC rfl rfl rfl) rfl rfl ?_;refine M_yes rfl rfl rfl ?_;refine M0 (q_moveC rfl rfl rfl) rfl rfl ?_
          refine M0 (q_pickT rfl rfl rfl rfl) rfl rfl ?_;refine L_nil (T_n ?_);refine A_ifT rfl ?_;refine A_skip (T_n (A_seq (A_block (A_seq ?_))))
          refine A_region ?_;refine M0 (q_moveC rfl rfl rfl) rfl rfl ?_;refine M0 (q_moveC rfl rfl rfl) rfl rfl ?_;refine M0 (q_moveC rfl rfl rfl) rfl rfl ?_
          refine M0 (q_add rfl rfl rfl rfl (by omega)) rfl rfl ?_;refine M1 (q_call rfl rfl (hd2) rfl rfl rfl) rfl rfl ?_;refine M0 (q_moveT rfl rfl rfl) rfl rfl ?_
          refine M0 (q_ext rfl rfl rfl rfl) rfl rfl ?_;refine M0 (q_ext rfl rfl rfl rfl) rfl rfl ?_;refine M0 (q_ext rfl rfl rfl rfl) rfl rfl ?_;refine M0 (q_assignC rfl rfl rfl) rfl rfl ?_
          refine M0 (q_assignC rfl rfl rfl) rfl rfl ?_;refine M0 (q_assignC rfl rfl rfl) rfl rfl ?_;refine L_nil (T_n (A_seq (A_region ?_)))
          refine M0 (q_moveC rfl rfl rfl) rfl rfl ?_;refine M0 (q_assignC rfl rfl rfl) rfl rfl ?_;refine L_nil (T_n (A_seq (A_region ?_)))
          refine M0 (q_moveC rfl rfl rfl) rfl rfl ?_;refine M0 (q_moveC rfl rfl rfl) rfl rfl ?_;refine M0 (q_add rfl rfl rfl rfl (by omega)) rfl rfl ?_
          refine M0 (q_assignC rfl rfl rfl) rfl rfl ?_;refine L_nil (T_n (A_region ?_));refine M0 (q_moveC rfl rfl rfl) rfl rfl ?_;refine M0 (q_moveC rfl rfl rfl) rfl rfl ?_
          refine M0 (q_call0 rfl rfl (hsg) rfl) rfl rfl ?_;refine M1 (q_bslice rfl rfl rfl rfl rfl rfl) rfl rfl ?_
          refine M_appsb rfl rfl rfl rfl rfl rfl rfl rfl rfl rfl (by omega) (by omega) ?_;refine M0 (q_assignC rfl rfl rfl) rfl rfl ?_;refine L_nil (B_n (T_n ?_))
          refine A_region ?_;refine M0 (q_moveC rfl rfl rfl) rfl rfl ?_;refine M0 (q_add rfl rfl rfl rfl (by omega)) rfl rfl ?_;refine M0 (q_assignC rfl rfl rfl) rfl rfl ?_;refine L_nil ?_
          refine T_n ?_
          refine ⟨c + 1 - (k + 1),(by omega),(fun (k : Nat) (pos : Nat) (acc : List Int) (ok : Bool) => (⟨_,[(0,S s),(1,I q),(7,I c),(8,I pos),(9,B ok),(10,.o (.c (.ref 0))),(11,I k)],[.row 1 (els acc)]⟩ : St)) (k + 1) (pos) (acc ++ [signed 0]) (false),W_go [0] (by decide) rfl (row_eq (els_snocI acc _)) (.cons rfl (.cons rfl (.cons rfl (.cons rfl (.cons rfl (.cons rfl (.cons rfl (.nil)))))))),k + 1,pos,acc ++ [signed 0],false,rfl,⟨by omega,by simp [hacc],by omega,fun e => (by cases e),fun _ => rfl,hps⟩,rfl⟩
        | some r =>
          obtain ⟨v,m⟩ := r
          rw [hv2] at hd2
          have hm2 := decVar_some hv2
          have hsg := S_Signed v ⟨by omega,by omega⟩
          refine A_seq (A_seq (A_region ?_));refine M0 (q_moveC rfl rfl rfl) rfl rfl ?_;refine M0 (q_moveC rfl rfl rfl) rfl rfl ?_
          refine M0 (q_lssK rfl rfl rfl rfl (by assumption)) rfl rfl ?_;refine M0 (q_moveC rfl rfl rfl) rfl rfl ?_;refine M_yes rfl rfl rfl ?_;refine M0 (q_moveC rfl rfl rfl) rfl rfl ?_
          refine M0 (q_pickT rfl rfl rfl rfl) rfl rfl ?_;refine L_nil (T_n ?_);refine A_ifT rfl ?_;refine A_skip (T_n (A_seq (A_block (A_seq ?_))))
          refine A_region ?_;refine M0 (q_moveC rfl rfl rfl) rfl rfl ?_;refine M0 (q_moveC rfl rfl rfl) rfl rfl ?_;refine M0 (q_moveC rfl rfl rfl) rfl rfl ?_
          refine M0 (q_add rfl rfl rfl rfl (by omega)) rfl rfl ?_;refine M1 (q_call rfl rfl (hd2) rfl rfl rfl) rfl rfl ?_;refine M0 (q_moveT rfl rfl rfl) rfl rfl ?_
          refine M0 (q_ext rfl rfl rfl rfl) rfl rfl ?_;refine M0 (q_ext rfl rfl rfl rfl) rfl rfl ?_;refine M0 (q_ext rfl rfl rfl rfl) rfl rfl ?_;refine M0 (q_assignC rfl rfl rfl) rfl rfl ?_
          refine M0 (q_assignC rfl rfl rfl) rfl rfl ?_;refine M0 (q_assignC rfl rfl rfl) rfl rfl ?_;refine L_nil (T_n (A_seq (A_region ?_)))
          refine M0 (q_moveC rfl rfl rfl) rfl rfl ?_;refine M0 (q_assignC rfl rfl rfl) rfl rfl ?_;refine L_nil (T_n (A_seq (A_region ?_)))
          refine M0 (q_moveC rfl rfl rfl) rfl rfl ?_;refine M0 (q_moveC rfl rfl rfl) rfl rfl ?_;refine M0 (q_add rfl rfl rfl rfl (by omega)) rfl rfl ?_
          refine M0 (q_assignC rfl rfl rfl) rfl rfl ?_;refine L_nil (T_n (A_region ?_));refine M0 (q_moveC rfl rfl rfl) rfl rfl ?_;refine M0 (q_moveC rfl rfl rfl) rfl rfl ?_
          refine M0 (q_call0 rfl rfl (hsg) rfl) rfl rfl ?_;refine M1 (q_bslice rfl rfl rfl rfl rfl rfl) rfl rfl ?_
          refine M_appsb rfl rfl rfl rfl rfl rfl rfl rfl rfl rfl (by omega) (by omega) ?_;refine M0 (q_assignC rfl rfl rfl) rfl rfl ?_;refine L_nil (B_n (T_n ?_))
          refine A_region ?_;refine M0 (q_moveC rfl rfl rfl) rfl rfl ?_;refine M0 (q_add rfl rfl rfl rfl (by omega)) rfl rfl ?_;refine M0 (q_assignC rfl rfl rfl) rfl rfl ?_;refine L_nil ?_
          refine T_n ?_
          refine ⟨c + 1 - (k + 1),(by omega),(fun (k : Nat) (pos : Nat) (acc : List Int) (ok : Bool) => (⟨_,[(0,S s),(1,I q),(7,I c),(8,I pos),(9,B ok),(10,.o (.c (.ref 0))),(11,I k)],[.row 1 (els acc)]⟩ : St)) (k + 1) (pos + m) (acc ++ [signed v]) (true),W_go [0] (by decide) rfl (row_eq (els_snocI acc _)) (.cons rfl (.cons rfl (.cons rfl (.cons rfl (.cons rfl (.cons rfl (.cons rfl (.nil)))))))),k + 1,pos + m,acc ++ [signed v],true,rfl,⟨by omega,by simp [hacc],by omega,fun _ => ⟨by omega,by omega,by omega,by rw [uiGo,hv2,show c - (k + 1) = f by omega]; simp [Option.map_map]; rfl⟩,fun e => (by cases e),by omega⟩,rfl⟩
      · have hb : decide ((k : Int) < c) = false := decide_eq_false hlt
        have hkk : k = c := by omega
        subst hkk
        rw [show uiGo s q (k - k) pos = some ([],pos) by rw [Nat.sub_self]; rfl]
        refine A_seq (A_seq (A_region ?_));refine M0 (q_moveC rfl rfl rfl) rfl rfl ?_;refine M0 (q_moveC rfl rfl rfl) rfl rfl ?_
        refine M0 (q_lssK rfl rfl rfl rfl (by assumption)) rfl rfl ?_;refine M0 (q_moveC rfl rfl rfl) rfl rfl ?_;refine M_no rfl rfl rfl rfl rfl rfl ?_
        refine M0 (q_pickF rfl rfl rfl rfl) rfl rfl ?_;refine L_nil (T_n ?_);refine A_ifF rfl ?_;refine A_exit (T_x (T_x (B_xs (T_n (A_seq ?_)))))
        refine A_seq (A_region ?_);refine M0 (q_moveC rfl rfl rfl) rfl rfl ?_;refine M0 (q_not rfl rfl rfl) rfl rfl ?_;refine L_nil (T_n ?_);refine A_ifF rfl ?_;refine A_skip ?_
        refine T_n (A_seq (A_region ?_));refine M0 (q_moveC rfl rfl rfl) rfl rfl ?_;refine M0 (q_moveC rfl rfl rfl) rfl rfl ?_;refine M0 (q_assignC rfl rfl rfl) rfl rfl ?_
        refine M0 (q_assignC rfl rfl rfl) rfl rfl ?_;refine M0 (q_assignC rfl rfl rfl) rfl rfl ?_;refine L_nil (T_n (A_ret (F_r ?_)))
        exact E_tmp3 rfl rfl rfl rfl (W_end [0] (by decide) rfl (row_eq (by simp)) rfl)
/-! ### Texts -/
def unpackText (s : ByteArray) (p : Int) : Option (ByteArray × Nat) := match decVar s p with
  | none => none
  | some (n,k) => if (s.size : Int) - p - k < n then none else some (s.extract (p + k).toNat (p + k + n).toNat,k + n.toNat)
@[reducible] def utR : Option (ByteArray × Nat) → V
  | none => .tu [.c (.rd [] (.v (.string ⟨#[]⟩))),.c (jn 0),.c (bv false)]
  | some (t,k) => .tu [.c (.rd [] (.v (.string t))),.c (jn k),.c (bv true)]
theorem unpackText_some {s t : ByteArray} {p : Int} {j : Nat} (h : unpackText s p = some (t,j)) : 0 ≤ p ∧ 1 ≤ j ∧ p + j ≤ s.size ∧ t.size + 1 ≤ j ∧ t = s.extract (p + j - t.size).toNat (p + j).toNat := by
  unfold unpackText at h
  split at h
  · cases h
  · rename_i n k hd
    have hm := decVar_some hd
    split at h
    · cases h
    · simp only [Option.some.injEq,Prod.mk.injEq] at h
      obtain ⟨rfl,rfl⟩ := h
      have hsz : (s.extract (p + k).toNat (p + k + n).toNat).size = n.toNat := by
        rw [ByteArray.size_extract]; omega
      refine ⟨hm.1,by omega,by omega,by omega,?_⟩
      rw [hsz]
      congr 1 <;> omega
theorem tu3 {a b : V2} {x y : Int} (h : x = y) : V.tu [a,.c (.rd [] (.v (.int .i64 x))),b] = V.tu [a,.c (.rd [] (.v (.int .i64 y))),b] := by rw [h]
set_option maxHeartbeats 8000000 in
theorem I_UnpackText (s : ByteArray) (p : Int) (hs : s.size ≤ 1099511627776) (hp : I64 p) : Con Try.prog 104 [] [astr s,ai p] [] (utR (unpackText s p)) := by
  have hd := I_DecodeVarint s p hs hp
  cases hv : decVar s p with
  | none =>
    rw [hv] at hd
    rw [show unpackText s p = none by rw [unpackText,hv]]
    refine Con.of Try.func104 rfl Try.ntmps104 rfl (fun E => ?_)
    refine A_seq (A_region ?_);refine M0 (q_assignC rfl rfl rfl) rfl rfl ?_;refine M0 (q_assignC rfl rfl rfl) rfl rfl ?_;refine M0 (q_assignC rfl rfl rfl) rfl rfl ?_;refine L_nil ?_
    refine T_n (A_seq (A_region ?_));refine M0 (q_moveC rfl rfl rfl) rfl rfl ?_;refine M0 (q_moveC rfl rfl rfl) rfl rfl ?_
    refine M1 (q_call rfl rfl (hd) rfl rfl rfl) rfl rfl ?_;refine M0 (q_moveT rfl rfl rfl) rfl rfl ?_;refine M0 (q_ext rfl rfl rfl rfl) rfl rfl ?_
    refine M0 (q_ext rfl rfl rfl rfl) rfl rfl ?_;refine M0 (q_ext rfl rfl rfl rfl) rfl rfl ?_;refine M0 (q_assignC rfl rfl rfl) rfl rfl ?_;refine M0 (q_assignC rfl rfl rfl) rfl rfl ?_
    refine M0 (q_assignC rfl rfl rfl) rfl rfl ?_;refine L_nil (T_n (A_seq (A_seq (A_region ?_))));refine M0 (q_moveC rfl rfl rfl) rfl rfl ?_
    refine M0 (q_not rfl rfl rfl) rfl rfl ?_;refine M0 (q_moveC rfl rfl rfl) rfl rfl ?_;refine M_no rfl rfl rfl rfl rfl rfl ?_;refine M_no rfl rfl rfl rfl rfl rfl ?_
    refine M_no rfl rfl rfl rfl rfl rfl ?_;refine M_no rfl rfl rfl rfl rfl rfl ?_;refine M_no rfl rfl rfl rfl rfl rfl ?_;refine M_no rfl rfl rfl rfl rfl rfl ?_
    refine M_no rfl rfl rfl rfl rfl rfl ?_;refine M_no rfl rfl rfl rfl rfl rfl ?_;refine M0 (q_pickT rfl rfl rfl rfl) rfl rfl ?_;refine L_nil (T_n ?_);refine A_ifT rfl ?_
    refine A_seq (A_region ?_);refine M0 (q_assignC rfl rfl rfl) rfl rfl ?_;refine M0 (q_assignC rfl rfl rfl) rfl rfl ?_;refine M0 (q_assignC rfl rfl rfl) rfl rfl ?_;refine L_nil ?_
    refine T_n (A_ret (T_r (F_r ?_)))
    exact E_tmp3 rfl rfl rfl rfl (W_end [] (by decide) rfl rfl rfl)
  | some r =>
    obtain ⟨n,k⟩ := r
    rw [hv] at hd
    have hm := decVar_some hv
    by_cases hbig : (s.size : Int) - p - k < n
    · have hb : decide ((s.size : Int) - p - k < n) = true := decide_eq_true hbig
      rw [show unpackText s p = none by rw [unpackText,hv]; exact if_pos hbig]
      refine Con.of Try.func104 rfl Try.ntmps104 rfl (fun E => ?_)
      refine A_seq (A_region ?_);refine M0 (q_assignC rfl rfl rfl) rfl rfl ?_;refine M0 (q_assignC rfl rfl rfl) rfl rfl ?_;refine M0 (q_assignC rfl rfl rfl) rfl rfl ?_;refine L_nil ?_
      refine T_n (A_seq (A_region ?_));refine M0 (q_moveC rfl rfl rfl) rfl rfl ?_;refine M0 (q_moveC rfl rfl rfl) rfl rfl ?_
      refine M1 (q_call rfl rfl (hd) rfl rfl rfl) rfl rfl ?_;refine M0 (q_moveT rfl rfl rfl) rfl rfl ?_;refine M0 (q_ext rfl rfl rfl rfl) rfl rfl ?_
      refine M0 (q_ext rfl rfl rfl rfl) rfl rfl ?_;refine M0 (q_ext rfl rfl rfl rfl) rfl rfl ?_;refine M0 (q_assignC rfl rfl rfl) rfl rfl ?_;refine M0 (q_assignC rfl rfl rfl) rfl rfl ?_
      refine M0 (q_assignC rfl rfl rfl) rfl rfl ?_;refine L_nil (T_n (A_seq (A_seq (A_region ?_))));refine M0 (q_moveC rfl rfl rfl) rfl rfl ?_
      refine M0 (q_not rfl rfl rfl) rfl rfl ?_;refine M0 (q_moveC rfl rfl rfl) rfl rfl ?_;refine M_yes rfl rfl rfl ?_;refine M0 (q_moveC rfl rfl rfl) rfl rfl ?_;refine M_yes rfl rfl rfl ?_
      refine M0 (q_moveC rfl rfl rfl) rfl rfl ?_;refine M_yes rfl rfl rfl ?_;refine M0 (q_lens rfl rfl rfl) rfl rfl ?_;refine M_yes rfl rfl rfl ?_;refine M0 (q_moveC rfl rfl rfl) rfl rfl ?_
      refine M_yes rfl rfl rfl ?_;refine M0 (q_sub rfl rfl rfl rfl (by omega)) rfl rfl ?_;refine M_yes rfl rfl rfl ?_;refine M0 (q_moveC rfl rfl rfl) rfl rfl ?_;refine M_yes rfl rfl rfl ?_
      refine M0 (q_sub rfl rfl rfl rfl (by omega)) rfl rfl ?_;refine M_yes rfl rfl rfl ?_;refine M0 (q_gtrK rfl rfl rfl rfl (by assumption)) rfl rfl ?_
      refine M0 (q_pickF rfl rfl rfl rfl) rfl rfl ?_;refine L_nil (T_n ?_);refine A_ifT rfl ?_;refine A_seq (A_region ?_);refine M0 (q_assignC rfl rfl rfl) rfl rfl ?_
      refine M0 (q_assignC rfl rfl rfl) rfl rfl ?_;refine M0 (q_assignC rfl rfl rfl) rfl rfl ?_;refine L_nil (T_n (A_ret (T_r (F_r ?_))))
      exact E_tmp3 rfl rfl rfl rfl (W_end [] (by decide) rfl rfl rfl)
    have hb : decide ((s.size : Int) - p - k < n) = false := decide_eq_false hbig
    rw [show unpackText s p = some (s.extract (p + k).toNat (p + k + n).toNat,k + n.toNat) by rw [unpackText,hv]; exact if_neg hbig]
    refine Con.of Try.func104 rfl Try.ntmps104 rfl (fun E => ?_)
    refine A_seq (A_region ?_);refine M0 (q_assignC rfl rfl rfl) rfl rfl ?_;refine M0 (q_assignC rfl rfl rfl) rfl rfl ?_;refine M0 (q_assignC rfl rfl rfl) rfl rfl ?_;refine L_nil ?_
    refine T_n (A_seq (A_region ?_));refine M0 (q_moveC rfl rfl rfl) rfl rfl ?_;refine M0 (q_moveC rfl rfl rfl) rfl rfl ?_
    refine M1 (q_call rfl rfl (hd) rfl rfl rfl) rfl rfl ?_;refine M0 (q_moveT rfl rfl rfl) rfl rfl ?_;refine M0 (q_ext rfl rfl rfl rfl) rfl rfl ?_
    refine M0 (q_ext rfl rfl rfl rfl) rfl rfl ?_;refine M0 (q_ext rfl rfl rfl rfl) rfl rfl ?_;refine M0 (q_assignC rfl rfl rfl) rfl rfl ?_;refine M0 (q_assignC rfl rfl rfl) rfl rfl ?_
    refine M0 (q_assignC rfl rfl rfl) rfl rfl ?_;refine L_nil (T_n (A_seq (A_seq (A_region ?_))));refine M0 (q_moveC rfl rfl rfl) rfl rfl ?_
    refine M0 (q_not rfl rfl rfl) rfl rfl ?_;refine M0 (q_moveC rfl rfl rfl) rfl rfl ?_;refine M_yes rfl rfl rfl ?_;refine M0 (q_moveC rfl rfl rfl) rfl rfl ?_;refine M_yes rfl rfl rfl ?_
    refine M0 (q_moveC rfl rfl rfl) rfl rfl ?_;refine M_yes rfl rfl rfl ?_;refine M0 (q_lens rfl rfl rfl) rfl rfl ?_;refine M_yes rfl rfl rfl ?_;refine M0 (q_moveC rfl rfl rfl) rfl rfl ?_
    refine M_yes rfl rfl rfl ?_;refine M0 (q_sub rfl rfl rfl rfl (by omega)) rfl rfl ?_;refine M_yes rfl rfl rfl ?_;refine M0 (q_moveC rfl rfl rfl) rfl rfl ?_;refine M_yes rfl rfl rfl ?_
    refine M0 (q_sub rfl rfl rfl rfl (by omega)) rfl rfl ?_;refine M_yes rfl rfl rfl ?_;refine M0 (q_gtrK rfl rfl rfl rfl (by assumption)) rfl rfl ?_
    refine M0 (q_pickF rfl rfl rfl rfl) rfl rfl ?_;refine L_nil (T_n ?_);refine A_ifF rfl ?_;refine A_skip (T_n (A_seq (A_region ?_)))
    refine M0 (q_moveC rfl rfl rfl) rfl rfl ?_;refine M0 (q_moveC rfl rfl rfl) rfl rfl ?_;refine M0 (q_moveC rfl rfl rfl) rfl rfl ?_
    refine M0 (q_add rfl rfl rfl rfl (by omega)) rfl rfl ?_;refine M0 (q_moveC rfl rfl rfl) rfl rfl ?_;refine M0 (q_moveC rfl rfl rfl) rfl rfl ?_
    refine M0 (q_add rfl rfl rfl rfl (by omega)) rfl rfl ?_;refine M0 (q_moveC rfl rfl rfl) rfl rfl ?_;refine M0 (q_add rfl rfl rfl rfl (by omega)) rfl rfl ?_
    refine M0 (q_sslice rfl rfl rfl rfl rfl (by omega)) rfl rfl ?_;refine M0 (q_moveC rfl rfl rfl) rfl rfl ?_;refine M0 (q_moveC rfl rfl rfl) rfl rfl ?_
    refine M0 (q_add rfl rfl rfl rfl (by omega)) rfl rfl ?_;refine M0 (q_assignC rfl rfl rfl) rfl rfl ?_;refine M0 (q_assignC rfl rfl rfl) rfl rfl ?_
    refine M0 (q_assignC rfl rfl rfl) rfl rfl ?_;refine L_nil (T_n (A_ret (F_r ?_)))
    exact E_tmp3 rfl rfl rfl rfl (W_end [] (by decide) rfl rfl (tu3 (by omega)))
set_option maxHeartbeats 8000000 in
theorem S_UnpackText (s : ByteArray) (p : Int) (hs : s.size ≤ 1099511627776) (hp : I64 p) : Con Try.prog 98 [] [astr s,ai p] [] (utR (unpackText s p)) := by
  have hd := S_DecodeVarint s p hs hp
  cases hv : decVar s p with
  | none =>
    rw [hv] at hd
    rw [show unpackText s p = none by rw [unpackText,hv]]
    refine Con.of Try.func98 rfl Try.ntmps98 rfl (fun E => ?_)
    refine A_seq (A_region ?_);refine M0 (q_assignC rfl rfl rfl) rfl rfl ?_;refine M0 (q_assignC rfl rfl rfl) rfl rfl ?_;refine M0 (q_assignC rfl rfl rfl) rfl rfl ?_;refine L_nil ?_
    refine T_n (A_seq (A_region ?_));refine M0 (q_moveC rfl rfl rfl) rfl rfl ?_;refine M0 (q_moveC rfl rfl rfl) rfl rfl ?_
    refine M1 (q_call rfl rfl (hd) rfl rfl rfl) rfl rfl ?_;refine M0 (q_moveT rfl rfl rfl) rfl rfl ?_;refine M0 (q_ext rfl rfl rfl rfl) rfl rfl ?_
    refine M0 (q_ext rfl rfl rfl rfl) rfl rfl ?_;refine M0 (q_ext rfl rfl rfl rfl) rfl rfl ?_;refine M0 (q_assignC rfl rfl rfl) rfl rfl ?_;refine M0 (q_assignC rfl rfl rfl) rfl rfl ?_
    refine M0 (q_assignC rfl rfl rfl) rfl rfl ?_;refine L_nil (T_n (A_seq (A_seq (A_region ?_))));refine M0 (q_moveC rfl rfl rfl) rfl rfl ?_
    refine M0 (q_not rfl rfl rfl) rfl rfl ?_;refine M0 (q_moveC rfl rfl rfl) rfl rfl ?_;refine M_no rfl rfl rfl rfl rfl rfl ?_;refine M_no rfl rfl rfl rfl rfl rfl ?_
    refine M_no rfl rfl rfl rfl rfl rfl ?_;refine M_no rfl rfl rfl rfl rfl rfl ?_;refine M_no rfl rfl rfl rfl rfl rfl ?_;refine M_no rfl rfl rfl rfl rfl rfl ?_
    refine M_no rfl rfl rfl rfl rfl rfl ?_;refine M_no rfl rfl rfl rfl rfl rfl ?_;refine M0 (q_pickT rfl rfl rfl rfl) rfl rfl ?_;refine L_nil (T_n ?_);refine A_ifT rfl ?_
    refine A_seq (A_region ?_);refine M0 (q_assignC rfl rfl rfl) rfl rfl ?_;refine M0 (q_assignC rfl rfl rfl) rfl rfl ?_;refine M0 (q_assignC rfl rfl rfl) rfl rfl ?_;refine L_nil ?_
    refine T_n (A_ret (T_r (F_r ?_)))
    exact E_tmp3 rfl rfl rfl rfl (W_end [] (by decide) rfl rfl rfl)
  | some r =>
    obtain ⟨n,k⟩ := r
    rw [hv] at hd
    have hm := decVar_some hv
    by_cases hbig : (s.size : Int) - p - k < n
    · have hb : decide ((s.size : Int) - p - k < n) = true := decide_eq_true hbig
      rw [show unpackText s p = none by rw [unpackText,hv]; exact if_pos hbig]
      refine Con.of Try.func98 rfl Try.ntmps98 rfl (fun E => ?_)
      refine A_seq (A_region ?_);refine M0 (q_assignC rfl rfl rfl) rfl rfl ?_;refine M0 (q_assignC rfl rfl rfl) rfl rfl ?_;refine M0 (q_assignC rfl rfl rfl) rfl rfl ?_;refine L_nil ?_
      refine T_n (A_seq (A_region ?_));refine M0 (q_moveC rfl rfl rfl) rfl rfl ?_;refine M0 (q_moveC rfl rfl rfl) rfl rfl ?_
      refine M1 (q_call rfl rfl (hd) rfl rfl rfl) rfl rfl ?_;refine M0 (q_moveT rfl rfl rfl) rfl rfl ?_;refine M0 (q_ext rfl rfl rfl rfl) rfl rfl ?_
      refine M0 (q_ext rfl rfl rfl rfl) rfl rfl ?_;refine M0 (q_ext rfl rfl rfl rfl) rfl rfl ?_;refine M0 (q_assignC rfl rfl rfl) rfl rfl ?_;refine M0 (q_assignC rfl rfl rfl) rfl rfl ?_
      refine M0 (q_assignC rfl rfl rfl) rfl rfl ?_;refine L_nil (T_n (A_seq (A_seq (A_region ?_))));refine M0 (q_moveC rfl rfl rfl) rfl rfl ?_
      refine M0 (q_not rfl rfl rfl) rfl rfl ?_;refine M0 (q_moveC rfl rfl rfl) rfl rfl ?_;refine M_yes rfl rfl rfl ?_;refine M0 (q_moveC rfl rfl rfl) rfl rfl ?_;refine M_yes rfl rfl rfl ?_
      refine M0 (q_moveC rfl rfl rfl) rfl rfl ?_;refine M_yes rfl rfl rfl ?_;refine M0 (q_lens rfl rfl rfl) rfl rfl ?_;refine M_yes rfl rfl rfl ?_;refine M0 (q_moveC rfl rfl rfl) rfl rfl ?_
      refine M_yes rfl rfl rfl ?_;refine M0 (q_sub rfl rfl rfl rfl (by omega)) rfl rfl ?_;refine M_yes rfl rfl rfl ?_;refine M0 (q_moveC rfl rfl rfl) rfl rfl ?_;refine M_yes rfl rfl rfl ?_
      refine M0 (q_sub rfl rfl rfl rfl (by omega)) rfl rfl ?_;refine M_yes rfl rfl rfl ?_;refine M0 (q_gtrK rfl rfl rfl rfl (by assumption)) rfl rfl ?_
      refine M0 (q_pickF rfl rfl rfl rfl) rfl rfl ?_;refine L_nil (T_n ?_);refine A_ifT rfl ?_;refine A_seq (A_region ?_);refine M0 (q_assignC rfl rfl rfl) rfl rfl ?_
      refine M0 (q_assignC rfl rfl rfl) rfl rfl ?_;refine M0 (q_assignC rfl rfl rfl) rfl rfl ?_;refine L_nil (T_n (A_ret (T_r (F_r ?_))))
      exact E_tmp3 rfl rfl rfl rfl (W_end [] (by decide) rfl rfl rfl)
    have hb : decide ((s.size : Int) - p - k < n) = false := decide_eq_false hbig
    rw [show unpackText s p = some (s.extract (p + k).toNat (p + k + n).toNat,k + n.toNat) by rw [unpackText,hv]; exact if_neg hbig]
    refine Con.of Try.func98 rfl Try.ntmps98 rfl (fun E => ?_)
    refine A_seq (A_region ?_);refine M0 (q_assignC rfl rfl rfl) rfl rfl ?_;refine M0 (q_assignC rfl rfl rfl) rfl rfl ?_;refine M0 (q_assignC rfl rfl rfl) rfl rfl ?_;refine L_nil ?_
    refine T_n (A_seq (A_region ?_));refine M0 (q_moveC rfl rfl rfl) rfl rfl ?_;refine M0 (q_moveC rfl rfl rfl) rfl rfl ?_
    refine M1 (q_call rfl rfl (hd) rfl rfl rfl) rfl rfl ?_;refine M0 (q_moveT rfl rfl rfl) rfl rfl ?_;refine M0 (q_ext rfl rfl rfl rfl) rfl rfl ?_
    refine M0 (q_ext rfl rfl rfl rfl) rfl rfl ?_;refine M0 (q_ext rfl rfl rfl rfl) rfl rfl ?_;refine M0 (q_assignC rfl rfl rfl) rfl rfl ?_;refine M0 (q_assignC rfl rfl rfl) rfl rfl ?_
    refine M0 (q_assignC rfl rfl rfl) rfl rfl ?_;refine L_nil (T_n (A_seq (A_seq (A_region ?_))));refine M0 (q_moveC rfl rfl rfl) rfl rfl ?_
    refine M0 (q_not rfl rfl rfl) rfl rfl ?_;refine M0 (q_moveC rfl rfl rfl) rfl rfl ?_;refine M_yes rfl rfl rfl ?_;refine M0 (q_moveC rfl rfl rfl) rfl rfl ?_;refine M_yes rfl rfl rfl ?_
    refine M0 (q_moveC rfl rfl rfl) rfl rfl ?_;refine M_yes rfl rfl rfl ?_;refine M0 (q_lens rfl rfl rfl) rfl rfl ?_;refine M_yes rfl rfl rfl ?_;refine M0 (q_moveC rfl rfl rfl) rfl rfl ?_
    refine M_yes rfl rfl rfl ?_;refine M0 (q_sub rfl rfl rfl rfl (by omega)) rfl rfl ?_;refine M_yes rfl rfl rfl ?_;refine M0 (q_moveC rfl rfl rfl) rfl rfl ?_;refine M_yes rfl rfl rfl ?_
    refine M0 (q_sub rfl rfl rfl rfl (by omega)) rfl rfl ?_;refine M_yes rfl rfl rfl ?_;refine M0 (q_gtrK rfl rfl rfl rfl (by assumption)) rfl rfl ?_
    refine M0 (q_pickF rfl rfl rfl rfl) rfl rfl ?_;refine L_nil (T_n ?_);refine A_ifF rfl ?_;refine A_skip (T_n (A_seq (A_region ?_)))
    refine M0 (q_moveC rfl rfl rfl) rfl rfl ?_;refine M0 (q_moveC rfl rfl rfl) rfl rfl ?_;refine M0 (q_moveC rfl rfl rfl) rfl rfl ?_
    refine M0 (q_add rfl rfl rfl rfl (by omega)) rfl rfl ?_;refine M0 (q_moveC rfl rfl rfl) rfl rfl ?_;refine M0 (q_moveC rfl rfl rfl) rfl rfl ?_
    refine M0 (q_add rfl rfl rfl rfl (by omega)) rfl rfl ?_;refine M0 (q_moveC rfl rfl rfl) rfl rfl ?_;refine M0 (q_add rfl rfl rfl rfl (by omega)) rfl rfl ?_
    refine M0 (q_sslice rfl rfl rfl rfl rfl (by omega)) rfl rfl ?_;refine M0 (q_moveC rfl rfl rfl) rfl rfl ?_;refine M0 (q_moveC rfl rfl rfl) rfl rfl ?_
    refine M0 (q_add rfl rfl rfl rfl (by omega)) rfl rfl ?_;refine M0 (q_assignC rfl rfl rfl) rfl rfl ?_;refine M0 (q_assignC rfl rfl rfl) rfl rfl ?_
    refine M0 (q_assignC rfl rfl rfl) rfl rfl ?_;refine L_nil (T_n (A_ret (F_r ?_)))
    exact E_tmp3 rfl rfl rfl rfl (W_end [] (by decide) rfl rfl (tu3 (by omega)))
@[reducible] def otR : Option ByteArray → V
  | none => .tu [.c (.rd [] (.v (.string ⟨#[]⟩))),.c (bv false)]
  | some t => .tu [.c (.rd [] (.v (.string t))),.c (bv true)]
end Go.Proofs.Ytmljakmaffbnlaa
end

section
set_option linter.unusedSimpArgs false
set_option linter.unusedVariables false
set_option maxRecDepth 8000
namespace Go.Proofs.Ytmljakmaffbnlaa
open Go.RowKit

theorem byte_drop {s : ByteArray} {q : Nat} {b : UInt8} {r : List UInt8} (h : s.data.toList.drop q = b :: r) : q < s.size ∧ byteAt s q = (b.toNat : Int) := by
  have hl : q < s.data.toList.length := by
    rcases Nat.lt_or_ge q s.data.toList.length with h1 | h1
    · exact h1
    · rw [List.drop_eq_nil_of_le h1] at h; cases h
  have hs : s.data.toList.length = s.size := by simp
  obtain ⟨b',h1,h2⟩ := byteAt_list (s := s) (i := q) (by omega)
  rw [List.drop_eq_getElem_cons hl] at h
  rw [List.getElem?_eq_getElem hl] at h1
  simp only [Option.some.injEq] at h1
  simp only [List.cons.injEq] at h
  exact ⟨by omega,by rw [h2,← h1,h.1]⟩
theorem dvGo_enc (s : ByteArray) (p : Nat) (r : List UInt8) : ∀ (f N k : Nat) (acc : Int),0 ≤ acc → s.data.toList.drop (p + k) = varN N ++ r → acc + N * 2 ^ (7 * k) ≤ 1099511627775 → (0 < k → N ≠ 0) → (varN N).length ≤ f → dvGo s p acc k f = some (acc + N * 2 ^ (7 * k),k + (varN N).length) := by
  intro f
  induction f with
  | zero => intro N k acc _ _ _ _ h; have := (varN_len N).1; omega
  | succ f ih =>
    intro N k acc h0 hd hb hk hf
    rw [dvGo]
    by_cases hN : N < 128
    · rw [varN_small hN] at hd ⊢
      obtain ⟨h1,h2⟩ := byte_drop hd
      have e : ((UInt8.ofNat N).toNat : Int) = N := by rw [UInt8.toNat_ofNat']; omega
      rw [e] at h2
      rw [if_pos h1,h2,if_neg (by omega),show (N : Int) % 128 = N by omega,if_neg (by omega)]
      rfl
    · rw [varN_big hN] at hd hf ⊢
      have e : ((UInt8.ofNat (N % 128 + 128)).toNat : Int) = N % 128 + 128 := by rw [UInt8.toNat_ofNat']; omega
      obtain ⟨h1,h2⟩ := byte_drop hd
      rw [e] at h2
      have hd2 : s.data.toList.drop (p + (k + 1)) = varN (N / 128) ++ r := by
        have := congrArg (List.drop 1) hd
        rw [List.drop_drop] at this
        rw [show p + (k + 1) = p + k + 1 by omega,this]
        rfl
      have hv : acc + (N : Int) % 128 * 2 ^ (7 * k) + ((N / 128 : Nat) : Int) * 2 ^ (7 * (k + 1)) = acc + N * 2 ^ (7 * k) := by
        have e2 : (2 : Int) ^ (7 * (k + 1)) = 128 * 2 ^ (7 * k) := by rw [show 7 * (k + 1) = 7 * k + 7 by omega,Int.pow_add]; omega
        have e3 : (N : Int) = 128 * ((N / 128 : Nat) : Int) + (N : Int) % 128 := by omega
        rw [e2]
        generalize (2 : Int) ^ (7 * k) = M
        generalize ((N / 128 : Nat) : Int) = q at e3 ⊢
        generalize (N : Int) % 128 = d at e3 ⊢
        rw [e3]
        grind
      have hM : (0 : Int) ≤ (N : Int) % 128 * 2 ^ (7 * k) := Int.mul_nonneg (by omega) (Int.le_of_lt (Int.pow_pos (by omega)))
      have hi := ih (N / 128) (k + 1) (acc + (N : Int) % 128 * 2 ^ (7 * k)) (by omega) hd2 (by omega) (fun _ => by omega) (by simp at hf; omega)
      rw [hv] at hi
      rw [if_pos h1,h2,if_pos (by omega),show ((N : Int) % 128 + 128) % 128 = (N : Int) % 128 by omega,hi]
      simp only [List.length_cons]
      congr 2
      omega
theorem decVar_enc {s : ByteArray} {p : Nat} {n : Int} {r : List UInt8} (h0 : 0 ≤ n) (h1 : n ≤ 1099511627775) (hs : s.data.toList.drop p = encVar n ++ r) : decVar s p = some (n,(encVar n).length) := by
  have hl := encVar_len n
  rw [encVar,if_pos ⟨h0,h1⟩] at hs hl ⊢
  have hne := (varN_len n.toNat).1
  have hp : p < s.size := by
    have : (s.data.toList.drop p).length = (varN n.toNat ++ r).length := by rw [hs]
    have e : s.data.toList.length = s.size := by simp
    simp only [List.length_drop,List.length_append] at this
    omega
  rw [decVar,if_pos (by omega)]
  have := dvGo_enc s p r 6 n.toNat 0 0 (by omega) (by simpa using hs) (by simp; omega) (by omega) hl
  simp at this
  rw [show ((p : Int)).toNat = p by omega,this]
  simp
  omega
theorem signed_signless {x : Int} (h : 0 ≤ signless x) : signed (signless x) = x := by
  unfold signless at h ⊢
  split at h
  · rename_i hx
    rw [if_pos hx]
    split
    · rw [signed,if_pos (by omega),if_pos (by omega)]; omega
    · rw [signed,if_pos (by omega),if_neg (by omega)]; omega
  · omega
theorem signless_le (x : Int) : signless x ≤ 1099511627775 := by
  unfold signless
  split
  · split <;> omega
  · omega
theorem uiGo_enc (s : ByteArray) (p : Nat) (r : List UInt8) : ∀ (l : List Int) (pos : Nat),(∀ x ∈ l,0 ≤ signless x) → s.data.toList.drop (p + pos) = (l.flatMap fun x => encVar (signless x)) ++ r → uiGo s p l.length pos = some (l,pos + (l.flatMap fun x => encVar (signless x)).length)
  | [],pos,_,_ => rfl
  | x :: l,pos,hx,hs => by
    have h0 := hx x (by simp)
    rw [List.flatMap_cons,List.append_assoc] at hs
    have h1 := decVar_enc h0 (signless_le x) hs
    have hd : s.data.toList.drop (p + (pos + (encVar (signless x)).length)) = (l.flatMap fun x => encVar (signless x)) ++ r := by
      have := congrArg (List.drop (encVar (signless x)).length) hs
      rw [List.drop_drop,List.drop_left] at this
      rw [← this]
      congr 1
      omega
    have h2 := uiGo_enc s p r l (pos + (encVar (signless x)).length) (fun y hy => hx y (by simp [hy])) hd
    rw [List.length_cons,uiGo,show (p : Int) + (pos : Int) = ((p + pos : Nat) : Int) by omega,h1]
    simp only [h2,Option.map_some,signed_signless h0,List.flatMap_cons,List.length_append]
    congr 2
    omega
theorem unpackInts_enc {xs : List Int} (hx : ∀ x ∈ xs,0 ≤ signless x) (hL : xs.length ≤ 1073741824) : unpackInts (packInts xs) 0 = some (xs,(packInts xs).size) := by
  have hall : xs.all (fun x => decide (0 ≤ signless x)) = true := by simpa using hx
  have hp : packInts xs = bs (encVar xs.length ++ xs.flatMap fun x => encVar (signless x)) := by
    rw [packInts,if_pos hall,packK,List.take_length]
  have hl : (packInts xs).data.toList = encVar xs.length ++ ((xs.flatMap fun x => encVar (signless x)) ++ []) := by rw [hp,bs_list,List.append_nil]
  have h1 : decVar (packInts xs) ((0 : Nat) : Int) = _ := decVar_enc (n := (xs.length : Int)) (by omega) (by omega) (by rw [List.drop_zero]; exact hl)
  have h2 := uiGo_enc (packInts xs) 0 [] xs (encVar (xs.length : Int)).length hx (by
    have := congrArg (List.drop (encVar (xs.length : Int)).length) hl
    rw [List.drop_left] at this
    rw [Nat.zero_add]; exact this)
  rw [unpackInts,show (0 : Int) = ((0 : Nat) : Int) from rfl,h1]
  simp only [Int.toNat_natCast,h2]
  congr 2
  rw [hp,bs_size,List.length_append]
end Go.Proofs.Ytmljakmaffbnlaa
end
