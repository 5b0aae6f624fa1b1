/-
  Plain Lean data as trees of cells: how the arguments' data read. No statement of the program is proved here.
  Conditions: none.
  What the laws' counting, copying and comparing functions return, over slices.
  Conditions: at most 2^20 of everything.
  The program's structs as Lean data. No statement of the program is proved here.
  Conditions: none.
  What the laws write into what they hold, and what they read back.
  Conditions: at most 2^30 elements.
  Calls of functions that write to one element's slice of an owned slice of slices. No statement of the program is proved here.
  Conditions: none.
  Rules that the laws' walks use: comparing what is equal. No statement of the program is proved here.
  Conditions: none.
  What the laws write into replays with rows, and what they read back.
  Conditions: at most 2^30 elements.
  Bodies, worlds and spectators as data; how the laws compare and mark them. No statement of the program is proved here.
  Conditions: lists of at most 2^20 elements.
  Tracks, saves, faults, packets and peers as data; how the laws count, copy and compare them. No statement of the program is proved here.
  Conditions: lists of at most 2^20 elements.
-/
import Derived.ProofKit
import Derived.Deep.Slices
import Derived.Test.YtbpebmolbdplmaaGreatDDTicksRowk6
import Derived.Test.YtbpebmolbdplmaaGreatDDTicksRowk7
section
set_option linter.unusedVariables false
set_option linter.unusedSimpArgs false
namespace Go.Proofs.YtbpebmolbdplmaaGreat
open Go.RowKit Go.ChangeShapes Go.WideShapes Go.Deep

/-- A number of 64 bits. -/
def I64 (x : Int) : Prop := -9223372036854775808 ≤ x ∧ x ≤ 9223372036854775807

/-- Data of one Go type: its cells; gd: it fits; wt: how much the laws' counting functions count. -/
class Enc (α : Type) where
  k : Nat
  pos : 0 < k
  e : α → List T
  len : ∀ x,(e x).length = k
  gd : α → Prop
  wt : α → Nat
instance : Enc Int := ⟨1,by omega,fun x => [.v (.int .i64 x)],fun _ => rfl,I64,fun _ => 0⟩
instance : Enc Bool := ⟨1,by omega,fun x => [.v (.bool x)],fun _ => rfl,fun _ => True,fun _ => 0⟩
instance : Enc ByteArray := ⟨1,by omega,fun x => [.v (.string x)],fun _ => rfl,fun x => x.size ≤ 9223372036854775807,fun x => x.size⟩
def wts {α : Type} [Enc α] : List α → Nat
  | [] => 0
  | x :: xs => Enc.wt x + wts xs
/-- The elements of a slice. -/
@[reducible] def els {α : Type} [Enc α] (xs : List α) : List (List T) := xs.map Enc.e
instance {α : Type} [Enc α] : Enc (List α) := ⟨1,by omega,fun xs => [.sl (Enc.k α) (els xs)],fun _ => rfl,fun xs => xs.length ≤ 9223372036854775807 ∧ ∀ x ∈ xs,Enc.gd x,fun xs => xs.length + wts xs⟩

/-- A slice ass one cell; ass an argument; its elements' cells. -/
@[reducible] def sl {α : Type} [Enc α] (xs : List α) : T := .sl (Enc.k α) (els xs)
@[reducible] def ai (n : Int) : V2 := .c (.rd [] (.v (.int .i64 n)))
@[reducible] def al {α : Type} [Enc α] (xs : List α) : V2 := .c (.rd [] (sl xs))
/-- A struct ass an argument. -/
@[reducible] def ag {α : Type} [Enc α] (x : α) : V2 := .ag ((Enc.e x).map (V1.rd []))
/-- A slice in a slot. -/
@[reducible] def L {α : Type} [Enc α] (xs : List α) : V := .o (al xs)

/-- Data of plain cells. -/
class PlainE (α : Type) [Enc α] : Prop where
  plain : ∀ (x : α) (t : T),t ∈ Enc.e x → ∃ u,t = .v u
instance : PlainE Int := ⟨fun x t h => by simp [Enc.e] at h; exact ⟨_,h⟩⟩
instance : PlainE Bool := ⟨fun x t h => by simp [Enc.e] at h; exact ⟨_,h⟩⟩
instance : PlainE ByteArray := ⟨fun x t h => by simp [Enc.e] at h; exact ⟨_,h⟩⟩
/-- Bytes ass a string. -/
@[reducible] def bs (l : List UInt8) : ByteArray := ⟨l.toArray⟩
theorem els_at {α : Type} [Enc α] {xs : List α} {k : Nat} (h : k < xs.length) : (els xs)[(k : Int).toNat]? = some (Enc.e xs[k]) := by simp [els,h]
theorem els_len {α : Type} [Enc α] (xs : List α) : (els xs).length = xs.length := by simp [els]
theorem wts_take {α : Type} [Enc α] : ∀ (xs : List α) (k : Nat) (h : k < xs.length),wts (xs.take (k + 1)) = wts (xs.take k) + Enc.wt xs[k]
  | x :: xs,0,_ => by simp [wts]
  | x :: xs,k + 1,h => by
    have := wts_take xs k (by simpa using h)
    simp only [List.take_succ_cons,wts,List.getElem_cons_succ,this]
    omega
theorem wts_le {α : Type} [Enc α] : ∀ (xs : List α) (x : α),x ∈ xs → Enc.wt x ≤ wts xs
  | y :: xs,x,h => by
    simp only [wts]
    rcases List.mem_cons.1 h with rfl | h
    · omega
    · have := wts_le xs x h; omega
theorem wts_take_le {α : Type} [Enc α] : ∀ (xs : List α) (k : Nat),wts (xs.take k) ≤ wts xs
  | [],k => by simp [wts]
  | x :: xs,0 => by simp [wts]
  | x :: xs,k + 1 => by
    have := wts_take_le xs k
    simp only [List.take_succ_cons,wts]
    omega

/-! ### Readings -/
theorem list_of_each {α : Type} {p : Nat → α → Prop} : ∀ n : Nat,(∀ i,i < n → ∃ y,p i y) → ∃ ys : List α,ys.length = n ∧ ∀ (i : Nat) (y : α),ys[i]? = some y → p i y
  | 0,_ => ⟨[],rfl,fun _ _ h => by simp at h⟩
  | n + 1,h => by
    obtain ⟨ys,h1,h2⟩ := list_of_each n fun i hi => h i (by omega)
    obtain ⟨y,hy⟩ := h n (by omega)
    refine ⟨ys ++ [y],by simp [h1],fun i z hz => ?_⟩
    rcases Nat.lt_or_ge i ys.length with hi | hi
    · rw [List.getElem?_append_left hi] at hz
      exact h2 i z hz
    · rw [List.getElem?_append_right hi] at hz
      have hi0 : i - ys.length = 0 := by
        rcases Nat.eq_zero_or_pos (i - ys.length) with h0 | h0
        · exact h0
        · rw [List.getElem?_eq_none (by simp; omega)] at hz
          cases hz
      rw [hi0] at hz
      simp only [List.getElem?_cons_zero,Option.some.injEq] at hz
      subst hz
      have : i = n := by omega
      subst this
      exact hy

/-- The cells cs read ass x. -/
def Reads {α : Type} [Enc α] (w : World) (x : α) (cs : List Value) : Prop := cs.length = Enc.k α ∧ ∀ (j : Nat) (t : T) (u : Value),(Enc.e x)[j]? = some t → cs[j]? = some u → RO w (fun _ => True) t u

/-- A Go type's readings are a Lean type's. -/
class RdOf (P : Program) (t : TypeId) (α : outParam Type) [Enc α] : Prop where
  size : P.cellsOf t = Enc.k α
  of : ∀ {H : Type} {enc : TypeId × Value → H} {w : World} {spare : Nat → Bool} {held : Bool} {fuel : Nat} {cs : List Value} {x : DataW H × List MemPlace},
    DataW.trod enc P w 0 spare held fuel t cs = some x → ∃ y : α,Enc.gd y ∧ Reads w y cs

theorem i64_of_wf {n : Int} (h : (Lit.int .i64 n).wf = true) : I64 n := by
  simp [Lit.wf,IntKind.min,IntKind.max,IntKind.signed,IntKind.bits] at h
  exact ⟨by omega,by omega⟩
theorem reads_one {α : Type} [Enc α] {w : World} {x : α} {t : T} {u : Value} (he : Enc.e x = [t]) (h : RO w (fun _ => True) t u) : Reads w x [u] := by
  refine ⟨by rw [← Enc.len x,he]; rfl,fun j t' u' h1 h2 => ?_⟩
  rw [he] at h1
  cases j with
  | zero => simp at h1 h2; subst h1 h2; exact h
  | succ j => simp at h1
theorem rdOf_int {P : Program} {t : TypeId} (ht : P.underlying t = some (.int .i64)) (hs : P.cellsOf t = 1) : RdOf P t Int where
  size := hs
  of h := by
    obtain ⟨n,rfl,_,h3⟩ := DataW.trod_int ht h
    exact ⟨n,i64_of_wf h3,reads_one rfl (.v _ rfl)⟩
theorem rdOf_string {P : Program} {t : TypeId} (ht : P.underlying t = some .string) (hs : P.cellsOf t = 1) : RdOf P t ByteArray where
  size := hs
  of h := by
    obtain ⟨s,rfl,_,h3⟩ := DataW.trod_string ht h
    exact ⟨s,by simpa [maxLen,Enc.gd] using h3,reads_one rfl (.v _ rfl)⟩
theorem rdOf_slice {P : Program} {t e : TypeId} {α : Type} [Enc α] [hα : RdOf P e α] (ht : P.underlying t = some (.slice e)) (hs : P.cellsOf t = 1) : RdOf P t (List α) where
  size := hs
  of {H enc w spare held fuel cs x} h := by
    rcases open_slice ht h with ⟨rfl,_⟩ | ⟨a,len,cap,m,n,D,Pl,rfl,_,hl,hm,hmm,_,hi⟩
    · exact ⟨[],⟨by simp,by simp⟩,reads_one rfl (.nil _ _ _ (by simp [maxLen]))⟩
    · have hlm : len ≤ m := by rw [hmm]; split <;> omega
      obtain ⟨ys,h1,h2⟩ := list_of_each (p := fun i y => ∃ es,w.cells? 0 (a.add (i * P.cellsOf e)) (P.cellsOf e) = some es ∧ Enc.gd (α := α) y ∧ Reads w y es) len fun i hi' => by
        obtain ⟨es,h3,h4⟩ := hi i (by omega)
        obtain ⟨y,hy⟩ := hα.of h4
        exact ⟨y,es,h3,hy⟩
      subst h1
      refine ⟨ys,⟨by simp [maxLen] at hm; omega,fun y hy => ?_⟩,?_⟩
      · obtain ⟨i,hi'⟩ := List.getElem?_of_mem hy
        obtain ⟨es,_,hg,_⟩ := h2 i y hi'
        exact hg
      refine reads_one rfl ?_
      rcases Nat.eq_zero_or_pos ys.length with h0 | h0
      · have := List.eq_nil_of_length_eq_zero h0
        subst this
        exact .nil _ _ _ hm
      · have hsp : a.spot = none := by
          obtain ⟨es,h3,_⟩ := h2 0 _ (List.getElem?_eq_getElem h0)
          obtain ⟨_,hcl,hat⟩ := World.cells?_some h3
          have hp : 0 < P.cellsOf e := by rw [hα.size]; exact Enc.pos
          have := hat 0 hp
          rw [List.getElem?_eq_getElem (by omega)] at this
          have h5 := World.cell?_spot this
          simpa [Addr.add] using h5
        obtain ⟨b,o,sp⟩ := a
        simp only at hsp
        subst hsp
        have hel : ∀ i,i < ys.length → ∃ es,w.cells? 0 ((⟨b,o,none⟩ : Addr).add (i * P.cellsOf e)) (P.cellsOf e) = some es := fun i hi' => by
          obtain ⟨es,h3,_⟩ := h2 i _ (List.getElem?_eq_getElem hi')
          exact ⟨es,h3⟩
        have hlen : ys.length = (els ys).length := (els_len ys).symm
        rw [hlen]
        refine .sl (els ys) b o (Enc.k α) cap (fun i j => ((w.cells? 0 ((⟨b,o,none⟩ : Addr).add (i * P.cellsOf e)) (P.cellsOf e)).getD []).getD j undef) trivial (by rw [els_len]; exact hl) hm Enc.pos (fun e' he => ?_) (fun i j hi' hj => ?_) fun i j e' t' h3 h4 => ?_
        · obtain ⟨y,_,rfl⟩ := List.mem_map.1 he
          exact Enc.len y
        · rw [els_len] at hi'
          obtain ⟨es,h3⟩ := hel i hi'
          obtain ⟨_,hcl,hat⟩ := World.cells?_some h3
          rw [hα.size] at hcl
          have h5 := hat j (by rw [hα.size]; exact hj)
          rw [add_lit,add_lit,hα.size,List.getElem?_eq_getElem (by omega)] at h5
          rw [h3]
          simp only [Option.getD_some]
          rw [h5,List.getD_eq_getElem?_getD,List.getElem?_eq_getElem (by omega)]
          rfl
        · rw [List.getElem?_map] at h3
          obtain ⟨y,hy,rfl⟩ := Option.map_eq_some_iff.1 h3
          obtain ⟨es,h5,_,h6⟩ := h2 i y hy
          have hj : j < es.length := by rw [h6.1,← Enc.len y]; exact getE_lt h4
          show RO w _ t' (((w.cells? 0 ((⟨b,o,none⟩ : Addr).add (i * P.cellsOf e)) (P.cellsOf e)).getD []).getD j undef)
          rw [h5]
          simp only [Option.getD_some]
          rw [getD_of (List.getElem?_eq_getElem hj)]
          exact h6.2 j t' _ h4 (List.getElem?_eq_getElem hj)

theorem reads_of_Trod {P : Program} {t : TypeId} {α : Type} [Enc α] [hα : RdOf P t α] {H : Type} {enc : TypeId × Value → H} {w : World} {spare : Nat → Bool} {held : Bool} {v : Value} {d : DataW H} {p : List MemPlace}
    (h : DataW.Trod enc P w 0 spare held t v d p) : ∃ y : α,Enc.gd y ∧ Reads w y v.cells.toList := by
  obtain ⟨fuel,hf⟩ := h
  exact hα.of hf

theorem r2_agg {α : Type} [Enc α] {w : World} {H : Hs} {x : α} {cs : List Value} (h : Reads w x cs) : R2 w H (fun b => b < w.heap.size) (ag x) (.agg cs.toArray) := by
  refine ⟨cs,rfl,by simp [h.1,Enc.len],fun i c u h1 h2 => ?_⟩
  rw [List.getElem?_map] at h1
  obtain ⟨t,h3,rfl⟩ := Option.map_eq_some_iff.1 h1
  exact RO.weak (h.2 i t u h3 h2) fun b _ hb => .inl hb
/-- A law's call. -/
theorem law_calls {P : Program} {f : FuncId} {args : List V2} (hc : Con P f [] args [] (B true)) (w : World) (vs : List Value) (hl : vs.length = args.length) (hr : ∀ (i : Nat) (x : V2) (v : Value),args[i]? = some x → vs[i]? = some v → R2 w (fun _ => .nil) (fun b => b < w.heap.size) x v) :
    Calls P f vs.toArray w fun e w' => e = .returned (.bool true) ∧ Below w.heap.size w w' := by
  refine (hc w (fun _ => .nil) (fun b => b < w.heap.size) vs ⟨fun _ => trivial,fun _ => by simp [Pc.fp],fun p q b h => by simp [Pc.fp] at h,fun p b h => by simp [Pc.fp] at h,fun _ h => h⟩ (fun p => by simp [RB]) hl hr).mono ?_
  rintro e w' ⟨H',F',rv,rfl,hs,_,_,hv⟩
  refine ⟨by rw [(RO.plain (show RO w' _ (.v (.bool true)) rv from hv)).1],hs.os,hs.tape,hs.output,hs.size,fun b hb => hs.keep b hb fun p => by simp [Pc.fp]⟩

end Go.Proofs.YtbpebmolbdplmaaGreat
end

section
set_option linter.unusedSimpArgs false
set_option linter.unusedVariables false
namespace Go.Proofs.YtbpebmolbdplmaaGreat
open Go.RowKit

theorem I_eq {a b : Int} (h : a = b) : I a = I b := by rw [h]
theorem B_eq {a b : Bool} (h : a = b) : B a = B b := by rw [h]
def szr (n : Nat) (left : Int) : Int := if left < n then -1 else left - n
theorem szr_neg {n : Nat} {left : Int} (h : left < n) : szr n left = -1 := if_pos h
theorem szr_pos {n : Nat} {left : Int} (h : (n : Int) ≤ left) : szr n left = left - n := if_neg (by omega)
theorem wts_int : ∀ xs : List Int,wts xs = 0
  | [] => rfl
  | x :: xs => by simp [wts,wts_int xs,Enc.wt]
theorem eq_ne {α : Type} [DecidableEq α] {xs ys : List α} {j : Nat} (h1 : j < xs.length) (h2 : j < ys.length) (h : ¬ xs[j] = ys[j]) : decide (xs = ys) = false := by
  rw [decide_eq_false_iff_not]
  intro e
  subst e
  exact h rfl
theorem eq_all {α : Type} [DecidableEq α] {xs ys : List α} {j : Nat} (h1 : xs.length ≤ j) (h2 : xs.length = ys.length) (h : xs.take j = ys.take j) : decide (xs = ys) = true := by
  rw [List.take_of_length_le h1,List.take_of_length_le (by omega)] at h
  simp [h]
theorem eq_len {α : Type} [DecidableEq α] {xs ys : List α} (h : xs.length ≠ ys.length) : decide (xs = ys) = false := by
  rw [decide_eq_false_iff_not]
  intro e
  subst e
  exact h rfl
theorem eq_next {α : Type} {xs ys : List α} {j : Nat} (h1 : j < xs.length) (h2 : j < ys.length) (h : xs.take j = ys.take j) (e : xs[j] = ys[j]) : xs.take (j + 1) = ys.take (j + 1) := by
  rw [List.take_succ_eq_append_getElem h1,List.take_succ_eq_append_getElem h2,h,e]

/-! ### Counting -/
set_option maxHeartbeats 8000000 in
theorem sz_IntS (xs : List Int) (left : Int) (hg : Enc.gd xs) (h0 : 0 ≤ left) (h1 : left ≤ 1048576) : Con Tryz.prog 51 [] [al xs,ai left] [] (I (szr (Enc.wt xs) left)) := by
  have hlen := els_len xs
  have hx := hg.1
  have hw : Enc.wt xs = xs.length := by simp [Enc.wt,wts_int]
  refine Con.of Tryz.func51 rfl Tryz.ntmps51 rfl (fun E => ?_)
  refine A_seq (A_region ?_);refine M0 (q_assignC rfl rfl rfl) rfl rfl ?_;refine L_nil (T_n (A_seq (A_region ?_)));refine M0 (q_moveC rfl rfl rfl) rfl rfl ?_
  refine M0 (q_moveC rfl rfl rfl) rfl rfl ?_;refine M0 (q_len rfl rfl rfl) rfl rfl ?_;refine M0 (q_sub rfl rfl rfl rfl (by omega)) rfl rfl ?_
  refine M0 (q_assignC rfl rfl rfl) rfl rfl ?_;refine L_nil (T_n (A_seq (A_seq (A_region ?_))));refine M0 (q_moveC rfl rfl rfl) rfl rfl ?_
  refine M0 (q_lss rfl rfl rfl rfl) rfl rfl ?_;refine L_nil (T_n ?_)
  refine A_cond rfl (fun h => ?_) (fun h => ?_)
  · refine A_seq (A_region ?_);refine M0 (q_assignC rfl rfl rfl) rfl rfl ?_;refine L_nil (T_n (A_ret (T_r (F_r ?_))))
    have h2 := of_decide_eq_true (p := _) (by simpa using h)
    exact E_tmp rfl rfl (W_end [] (by decide) rfl rfl (I_eq (by rw [szr_neg (by omega)])))
  · refine A_skip (T_n (A_seq (A_region ?_)));refine M0 (q_moveC rfl rfl rfl) rfl rfl ?_;refine M0 (q_assignC rfl rfl rfl) rfl rfl ?_;refine L_nil (T_n ?_)
    refine A_ret (F_r ?_)
    have h2 := of_decide_eq_false h
    exact E_tmp rfl rfl (W_end [] (by decide) rfl rfl (I_eq (by rw [szr_pos (by omega)]; omega)))
set_option maxHeartbeats 1000000 in
theorem sz_StringS (xs : List ByteArray) (left : Int) (hg : Enc.gd xs) (h0 : 0 ≤ left) (h1 : left ≤ 1048576) : Con Tryz.prog 50 [] [al xs,ai left] [] (I (szr (Enc.wt xs) left)) := by
  have hlen := els_len xs
  have hx := hg.1
  have hw : Enc.wt xs = xs.length + wts xs := rfl
  refine Con.of Tryz.func50 rfl Tryz.ntmps50 rfl (fun E => ?_)
  refine A_seq (A_region ?_);refine M0 (q_assignC rfl rfl rfl) rfl rfl ?_;refine L_nil (T_n (A_seq (A_region ?_)));refine M0 (q_moveC rfl rfl rfl) rfl rfl ?_
  refine M0 (q_moveC rfl rfl rfl) rfl rfl ?_;refine M0 (q_len rfl rfl rfl) rfl rfl ?_;refine M0 (q_sub rfl rfl rfl rfl (by omega)) rfl rfl ?_
  refine M0 (q_assignC rfl rfl rfl) rfl rfl ?_;refine L_nil (T_n (A_seq (A_seq (A_region ?_))));refine M0 (q_moveC rfl rfl rfl) rfl rfl ?_
  refine M0 (q_lss rfl rfl rfl rfl) rfl rfl ?_;refine L_nil (T_n ?_)
  refine A_cond rfl (fun h => ?_) (fun h => ?_)
  · refine A_seq (A_region ?_);refine M0 (q_assignC rfl rfl rfl) rfl rfl ?_;refine L_nil (T_n (A_ret (T_r (F_r ?_))))
    have h2 := of_decide_eq_true h
    exact E_tmp rfl rfl (W_end [] (by decide) rfl rfl (I_eq (by rw [szr_neg (by omega)])))
  have h2 : ¬ (left - ((els xs).length : Int) < 0) := of_decide_eq_false h
  refine A_skip (T_n (A_seq (A_seq (A_region ?_))));refine M0 (q_assignC rfl rfl rfl) rfl rfl ?_;refine L_nil (T_n (A_block ?_))
  refine A_loop (fun m st => ∃ k : Nat,k + m = xs.length ∧ (((xs.length : Int) + wts (xs.take k) ≤ left)) ∧ st = (fun k : Nat => (⟨_,[(0,L xs),(1,I (left - (xs.length + wts (xs.take k)))),(5,I k)],[]⟩ : St)) k) (xs.length) ⟨(fun k : Nat => (⟨_,[(0,L xs),(1,I (left - (xs.length + wts (xs.take k)))),(5,I k)],[]⟩ : St)) 0,W_go [] (by decide) rfl (rfl) (.cons rfl (.cons (I_eq (by simp [els,wts])) (.cons rfl (.nil)))),0,by omega,by simp [wts]; omega,rfl⟩ ?_
  rintro m_A _ ⟨k,hk_A,hp_A,rfl⟩
  refine A_seq (A_seq (A_region ?_));refine M0 (q_moveC rfl rfl rfl) rfl rfl ?_;refine M0 (q_moveC rfl rfl rfl) rfl rfl ?_;refine M0 (q_len rfl rfl rfl) rfl rfl ?_
  refine M0 (q_lss rfl rfl rfl rfl) rfl rfl ?_;refine L_nil (T_n ?_)
  refine A_cond rfl (fun h => ?_) (fun h => ?_)
  · have h3 : k < xs.length := by have := of_decide_eq_true h; omega
    have hat := els_at h3
    have hstep := wts_take xs k h3
    have hle := wts_take_le xs (k + 1)
    have hws : Enc.wt xs[k] = xs[k].size := rfl
    have hgd : xs[k].size ≤ 9223372036854775807 := hg.2 _ (List.getElem_mem h3)
    by_cases h4 : left - ((xs.length : Int) + wts (xs.take k)) - xs[k].size < 0
    · have hb : decide (left - ((xs.length : Int) + wts (xs.take k)) - xs[k].size < 0) = true := decide_eq_true h4
      refine A_skip (T_n (A_seq (A_block (A_seq (A_region ?_)))));refine M0 (q_moveC rfl rfl rfl) rfl rfl ?_;refine M0 (q_moveC rfl rfl rfl) rfl rfl ?_
      refine M0 (q_moveC rfl rfl rfl) rfl rfl ?_;refine M0 (q_at rfl rfl rfl rfl (by omega) (by assumption) rfl) rfl rfl ?_;refine M0 (q_lr1 rfl rfl rfl rfl) rfl rfl ?_
      refine M0 (q_lens rfl rfl rfl) rfl rfl ?_;refine M0 (q_sub rfl rfl rfl rfl (by omega)) rfl rfl ?_;refine M0 (q_assignC rfl rfl rfl) rfl rfl ?_;refine L_nil (T_n ?_)
      refine A_seq (A_region ?_);refine M0 (q_moveC rfl rfl rfl) rfl rfl ?_;refine M0 (q_lssK rfl rfl rfl rfl (by assumption)) rfl rfl ?_;refine L_nil (T_n ?_)
      refine A_ifT rfl ?_;refine A_seq (A_region ?_);refine M0 (q_assignC rfl rfl rfl) rfl rfl ?_;refine L_nil (T_n (A_ret (B_r (T_r (T_r ?_)))))
      refine B_r (T_r (F_r ?_))
      exact E_tmp rfl rfl (W_end [] (by decide) rfl rfl (I_eq (by rw [szr_neg (by omega)])))
    · have hb : decide (left - ((xs.length : Int) + wts (xs.take k)) - xs[k].size < 0) = false := decide_eq_false h4
      refine A_skip (T_n (A_seq (A_block (A_seq (A_region ?_)))));refine M0 (q_moveC rfl rfl rfl) rfl rfl ?_;refine M0 (q_moveC rfl rfl rfl) rfl rfl ?_
      refine M0 (q_moveC rfl rfl rfl) rfl rfl ?_;refine M0 (q_at rfl rfl rfl rfl (by omega) (by assumption) rfl) rfl rfl ?_;refine M0 (q_lr1 rfl rfl rfl rfl) rfl rfl ?_
      refine M0 (q_lens rfl rfl rfl) rfl rfl ?_;refine M0 (q_sub rfl rfl rfl rfl (by omega)) rfl rfl ?_;refine M0 (q_assignC rfl rfl rfl) rfl rfl ?_;refine L_nil (T_n ?_)
      refine A_seq (A_region ?_);refine M0 (q_moveC rfl rfl rfl) rfl rfl ?_;refine M0 (q_lssK rfl rfl rfl rfl (by assumption)) rfl rfl ?_;refine L_nil (T_n ?_)
      refine A_ifF rfl ?_;refine A_skip (B_n (T_n (A_region ?_)));refine M0 (q_moveC rfl rfl rfl) rfl rfl ?_;refine M0 (q_add rfl rfl rfl rfl (by omega)) rfl rfl ?_
      refine M0 (q_assignC rfl rfl rfl) rfl rfl ?_;refine L_nil (T_n ?_)
      exact ⟨xs.length - (k + 1),by omega,(fun k : Nat => (⟨_,[(0,L xs),(1,I (left - (xs.length + wts (xs.take k)))),(5,I k)],[]⟩ : St)) (k + 1),W_go [] (by decide) rfl (rfl) (.cons rfl (.cons (I_eq (by rw [hstep]; omega)) (.cons rfl (.nil)))),k + 1,by omega,by omega,rfl⟩
  · have h3 : ¬ ((k : Int) < (els xs).length) := of_decide_eq_false h
    have hk : wts (xs.take k) = wts xs := by rw [List.take_of_length_le (by omega)]
    refine A_exit (T_x (T_x (B_xs (T_n (A_seq (A_region ?_))))));refine M0 (q_moveC rfl rfl rfl) rfl rfl ?_
    refine M0 (q_assignC rfl rfl rfl) rfl rfl ?_;refine L_nil (T_n (A_ret (F_r ?_)))
    exact E_tmp rfl rfl (W_end [] (by decide) rfl rfl (I_eq (by rw [szr_pos (by omega)]; omega)))
set_option maxHeartbeats 1000000 in
theorem sz_IntSS (xs : List (List Int)) (left : Int) (hg : Enc.gd xs) (h0 : 0 ≤ left) (h1 : left ≤ 1048576) : Con Tryz.prog 13 [] [al xs,ai left] [] (I (szr (Enc.wt xs) left)) := by
  have hlen := els_len xs
  have hx := hg.1
  have hw : Enc.wt xs = xs.length + wts xs := rfl
  refine Con.of Tryz.func13 rfl Tryz.ntmps13 rfl (fun E => ?_)
  refine A_seq (A_region ?_);refine M0 (q_assignC rfl rfl rfl) rfl rfl ?_;refine L_nil (T_n (A_seq (A_region ?_)));refine M0 (q_moveC rfl rfl rfl) rfl rfl ?_
  refine M0 (q_moveC rfl rfl rfl) rfl rfl ?_;refine M0 (q_len rfl rfl rfl) rfl rfl ?_;refine M0 (q_sub rfl rfl rfl rfl (by omega)) rfl rfl ?_
  refine M0 (q_assignC rfl rfl rfl) rfl rfl ?_;refine L_nil (T_n (A_seq (A_seq (A_region ?_))));refine M0 (q_moveC rfl rfl rfl) rfl rfl ?_
  refine M0 (q_lss rfl rfl rfl rfl) rfl rfl ?_;refine L_nil (T_n ?_)
  refine A_cond rfl (fun h => ?_) (fun h => ?_)
  · refine A_seq (A_region ?_);refine M0 (q_assignC rfl rfl rfl) rfl rfl ?_;refine L_nil (T_n (A_ret (T_r (F_r ?_))))
    have h2 := of_decide_eq_true h
    exact E_tmp rfl rfl (W_end [] (by decide) rfl rfl (I_eq (by rw [szr_neg (by omega)])))
  have h2 : ¬ (left - ((els xs).length : Int) < 0) := of_decide_eq_false h
  refine A_skip (T_n (A_seq (A_seq (A_region ?_))));refine M0 (q_assignC rfl rfl rfl) rfl rfl ?_;refine L_nil (T_n (A_block ?_))
  refine A_loop (fun m st => ∃ k : Nat,k + m = xs.length ∧ (((xs.length : Int) + wts (xs.take k) ≤ left)) ∧ st = (fun k : Nat => (⟨_,[(0,L xs),(1,I (left - (xs.length + wts (xs.take k)))),(5,I k)],[]⟩ : St)) k) (xs.length) ⟨(fun k : Nat => (⟨_,[(0,L xs),(1,I (left - (xs.length + wts (xs.take k)))),(5,I k)],[]⟩ : St)) 0,W_go [] (by decide) rfl (rfl) (.cons rfl (.cons (I_eq (by simp [els,wts])) (.cons rfl (.nil)))),0,by omega,by simp [wts]; omega,rfl⟩ ?_
  rintro m_A _ ⟨k,hk_A,hp_A,rfl⟩
  refine A_seq (A_seq (A_region ?_));refine M0 (q_moveC rfl rfl rfl) rfl rfl ?_;refine M0 (q_moveC rfl rfl rfl) rfl rfl ?_;refine M0 (q_len rfl rfl rfl) rfl rfl ?_
  refine M0 (q_lss rfl rfl rfl rfl) rfl rfl ?_;refine L_nil (T_n ?_)
  refine A_cond rfl (fun h => ?_) (fun h => ?_)
  · have h3 : k < xs.length := by have := of_decide_eq_true h; omega
    have hat := els_at h3
    have hstep := wts_take xs k h3
    have hle := wts_take_le xs (k + 1)
    have hc := sz_IntS xs[k] (left - ((xs.length : Int) + wts (xs.take k))) (hg.2 _ (List.getElem_mem h3)) (by omega) (by omega)
    by_cases h4 : left - ((xs.length : Int) + wts (xs.take k)) < Enc.wt xs[k]
    · rw [szr_neg h4] at hc
      have hb : decide ((-1 : Int) < 0) = true := rfl
      refine A_skip (T_n (A_seq (A_block (A_seq (A_region ?_)))));refine M0 (q_moveC rfl rfl rfl) rfl rfl ?_;refine M0 (q_moveC rfl rfl rfl) rfl rfl ?_
      refine M0 (q_at rfl rfl rfl rfl (by omega) (by assumption) rfl) rfl rfl ?_;refine M0 (q_lr1 rfl rfl rfl rfl) rfl rfl ?_;refine M0 (q_moveC rfl rfl rfl) rfl rfl ?_
      refine M0 (q_call0 rfl rfl (hc) rfl) rfl rfl ?_;refine M0 (q_assignC rfl rfl rfl) rfl rfl ?_;refine L_nil (T_n (A_seq (A_region ?_)))
      refine M0 (q_moveC rfl rfl rfl) rfl rfl ?_;refine M0 (q_lssK rfl rfl rfl rfl (by assumption)) rfl rfl ?_;refine L_nil (T_n ?_);refine A_ifT rfl ?_;refine A_seq ?_
      refine A_region ?_;refine M0 (q_assignC rfl rfl rfl) rfl rfl ?_;refine L_nil (T_n (A_ret (B_r (T_r (T_r (B_r (T_r ?_)))))))
      refine F_r ?_
      exact E_tmp rfl rfl (W_end [] (by decide) rfl rfl (I_eq (by rw [szr_neg (by omega)])))
    · rw [szr_pos (by omega)] at hc
      have hb : decide (left - ((xs.length : Int) + wts (xs.take k)) - Enc.wt xs[k] < 0) = false := decide_eq_false (by omega)
      refine A_skip (T_n (A_seq (A_block (A_seq (A_region ?_)))));refine M0 (q_moveC rfl rfl rfl) rfl rfl ?_;refine M0 (q_moveC rfl rfl rfl) rfl rfl ?_
      refine M0 (q_at rfl rfl rfl rfl (by omega) (by assumption) rfl) rfl rfl ?_;refine M0 (q_lr1 rfl rfl rfl rfl) rfl rfl ?_;refine M0 (q_moveC rfl rfl rfl) rfl rfl ?_
      refine M0 (q_call0 rfl rfl (hc) rfl) rfl rfl ?_;refine M0 (q_assignC rfl rfl rfl) rfl rfl ?_;refine L_nil (T_n (A_seq (A_region ?_)))
      refine M0 (q_moveC rfl rfl rfl) rfl rfl ?_;refine M0 (q_lssK rfl rfl rfl rfl (by assumption)) rfl rfl ?_;refine L_nil (T_n ?_);refine A_ifF rfl ?_;refine A_skip (B_n ?_)
      refine T_n (A_region ?_);refine M0 (q_moveC rfl rfl rfl) rfl rfl ?_;refine M0 (q_add rfl rfl rfl rfl (by omega)) rfl rfl ?_;refine M0 (q_assignC rfl rfl rfl) rfl rfl ?_
      refine L_nil (T_n ?_)
      exact ⟨xs.length - (k + 1),by omega,(fun k : Nat => (⟨_,[(0,L xs),(1,I (left - (xs.length + wts (xs.take k)))),(5,I k)],[]⟩ : St)) (k + 1),W_go [] (by decide) rfl (rfl) (.cons rfl (.cons (I_eq (by rw [hstep]; omega)) (.cons rfl (.nil)))),k + 1,by omega,by omega,rfl⟩
  · have h3 : ¬ ((k : Int) < (els xs).length) := of_decide_eq_false h
    have hk : wts (xs.take k) = wts xs := by rw [List.take_of_length_le (by omega)]
    refine A_exit (T_x (T_x (B_xs (T_n (A_seq (A_region ?_))))));refine M0 (q_moveC rfl rfl rfl) rfl rfl ?_
    refine M0 (q_assignC rfl rfl rfl) rfl rfl ?_;refine L_nil (T_n (A_ret (F_r ?_)))
    exact E_tmp rfl rfl (W_end [] (by decide) rfl rfl (I_eq (by rw [szr_pos (by omega)]; omega)))

/-! ### Copying -/
/-- The first k copied, the others still zero. -/
def part {α : Type} [Enc α] (xs : List α) (z : List T) (k : Nat) : List (List T) := els (xs.take k) ++ List.replicate (xs.length - k) z
theorem part_len {α : Type} [Enc α] (xs : List α) (z : List T) {k : Nat} (h : k ≤ xs.length) : (part xs z k).length = xs.length := by simp [part,els]; omega
theorem part_zero {α : Type} [Enc α] (xs : List α) (z : List T) : part xs z 0 = List.replicate (((els xs).length : Int)).toNat z := by simp [part,els]
theorem part_all {α : Type} [Enc α] (xs : List α) (z : List T) {k : Nat} (h : xs.length ≤ k) : part xs z k = els xs := by
  unfold part
  rw [List.take_of_length_le h,show xs.length - k = 0 by omega]
  simp
theorem part_at {α : Type} [Enc α] (xs : List α) (z : List T) {k : Nat} (h : k < xs.length) : (part xs z k)[(k : Int).toNat]? = some z := by
  have h1 : (els (xs.take k)).length = k := by simp [els]; omega
  unfold part
  rw [Int.toNat_natCast,List.getElem?_append_right (by omega),h1,Nat.sub_self,List.getElem?_replicate,if_pos (by omega)]
theorem part_set {α : Type} [Enc α] (xs : List α) (z : List T) {k : Nat} (h : k < xs.length) (ts : List T) (ht : ts = Enc.e xs[k]) (hz : z.length = ts.length) : (part xs z k).set (k : Int).toNat (splice z 0 ts) = part xs z (k + 1) := by
  have h1 : (els (xs.take k)).length = k := by simp [els]; omega
  have h2 : splice z 0 ts = ts := by simp [splice,hz]
  subst ht
  unfold part
  rw [h2,Int.toNat_natCast,List.set_append_right _ _ (by omega),h1,Nat.sub_self,show xs.length - k = (xs.length - (k + 1)) + 1 by omega,List.replicate_succ,List.set_cons_zero]
  have h3 : els (xs.take (k + 1)) = els (xs.take k) ++ [Enc.e xs[k]] := by
    rw [List.take_succ_eq_append_getElem h]
    simp only [els,List.map_append,List.map_cons,List.map_nil]
  rw [h3,List.append_assoc]
  rfl
theorem row_eq {k : Nat} {a b : List (List T)} (h : a = b) : [Ob.row k a] = [Ob.row k b] := by rw [h]

set_option maxHeartbeats 1000000 in
theorem to_IntS (xs : List Int) (hg : Enc.wt xs ≤ 1048576) : Con Tryz.prog 65 [] [al xs] [.row (Enc.k Int) (els xs)] (.o (.c (.ref 0))) := by
  have hlen := els_len xs
  have hw : Enc.wt xs = xs.length + wts xs := rfl
  refine Con.of Tryz.func65 rfl Tryz.ntmps65 rfl (fun E => ?_)
  refine A_seq (A_region ?_);refine M0 (q_assignC rfl rfl rfl) rfl rfl ?_;refine L_nil (T_n (A_seq (A_region ?_)));refine M0 (q_moveC rfl rfl rfl) rfl rfl ?_
  refine M0 (q_len rfl rfl rfl) rfl rfl ?_;refine M1 (q_make 0 rfl rfl rfl rfl (by omega) (by omega) (by omega) rfl (by decide)) rfl rfl ?_;refine M0 (q_assignC rfl rfl rfl) rfl rfl ?_
  refine L_nil (T_n (A_seq (A_seq (A_region ?_))));refine M0 (q_assignC rfl rfl rfl) rfl rfl ?_;refine L_nil (T_n (A_block ?_))
  refine A_loop (fun m st => ∃ k : Nat,k + m = xs.length ∧ (True) ∧ st = (fun k : Nat => (⟨_,[(0,L xs),(3,.o (.c (.ref 0))),(4,I k)],[.row 1 (part xs [(.v (.int .i64 0))] k)]⟩ : St)) k) (xs.length) ⟨(fun k : Nat => (⟨_,[(0,L xs),(3,.o (.c (.ref 0))),(4,I k)],[.row 1 (part xs [(.v (.int .i64 0))] k)]⟩ : St)) 0,W_go [0] (by decide) rfl (row_eq (part_zero xs _)) (.cons rfl (.cons rfl (.cons rfl (.nil)))),0,by omega,trivial,rfl⟩ ?_
  rintro m_A _ ⟨k,hk_A,hp_A,rfl⟩
  refine A_seq (A_seq (A_region ?_));refine M0 (q_moveC rfl rfl rfl) rfl rfl ?_;refine M0 (q_moveC rfl rfl rfl) rfl rfl ?_;refine M0 (q_len rfl rfl rfl) rfl rfl ?_
  refine M0 (q_lss rfl rfl rfl rfl) rfl rfl ?_;refine L_nil (T_n ?_)
  refine A_cond rfl (fun h => ?_) (fun h => ?_)
  · have h3 : k < xs.length := by have := of_decide_eq_true h; omega
    have hat := els_at h3
    have hz := part_at xs [(.v (.int .i64 0))] h3
    have hpl : (k : Int) < (part xs [(.v (.int .i64 0))] k).length := by rw [part_len xs _ (by omega)]; omega
    have hwt : Enc.wt xs[k] ≤ wts xs := wts_le xs _ (List.getElem_mem h3)
    refine A_skip (T_n (A_seq (A_block (A_region ?_))));refine M0 (q_moveC rfl rfl rfl) rfl rfl ?_;refine M0 (q_moveC rfl rfl rfl) rfl rfl ?_
    refine M0 (q_moveC rfl rfl rfl) rfl rfl ?_;refine M0 (q_moveC rfl rfl rfl) rfl rfl ?_;refine M0 (q_at rfl rfl rfl rfl (by omega) (by assumption) rfl) rfl rfl ?_
    refine M0 (q_lr1 rfl rfl rfl rfl) rfl rfl ?_;refine M0 (q_ar rfl rfl rfl rfl rfl (by omega) (by assumption)) rfl rfl ?_
    refine M_ste1 rfl rfl rfl rfl rfl rfl rfl rfl rfl (by assumption) rfl rfl ?_;refine L_nil (B_n (T_n (A_region ?_)));refine M0 (q_moveC rfl rfl rfl) rfl rfl ?_
    refine M0 (q_add rfl rfl rfl rfl (by omega)) rfl rfl ?_;refine M0 (q_assignC rfl rfl rfl) rfl rfl ?_;refine L_nil (T_n ?_)
    exact ⟨xs.length - (k + 1),by omega,(fun k : Nat => (⟨_,[(0,L xs),(3,.o (.c (.ref 0))),(4,I k)],[.row 1 (part xs [(.v (.int .i64 0))] k)]⟩ : St)) (k + 1),W_go [0] (by decide) rfl (row_eq (part_set xs [(.v (.int .i64 0))] h3 _ (by rfl) (by rfl)).symm) (.cons rfl (.cons rfl (.cons rfl (.nil)))),k + 1,by omega,trivial,rfl⟩
  · have h3 : ¬ ((k : Int) < (els xs).length) := of_decide_eq_false h
    refine A_exit (T_x (T_x (B_xs (T_n (A_seq (A_region ?_))))));refine M0 (q_moveC rfl rfl rfl) rfl rfl ?_
    refine M0 (q_assignC rfl rfl rfl) rfl rfl ?_;refine L_nil (T_n (A_ret (F_r ?_)))
    exact E_tmp rfl rfl (W_end [0] (by decide) rfl (row_eq (part_all xs _ (by omega)).symm) rfl)
set_option maxHeartbeats 1000000 in
theorem to_StringS (xs : List ByteArray) (hg : Enc.wt xs ≤ 1048576) : Con Tryz.prog 64 [] [al xs] [.row (Enc.k ByteArray) (els xs)] (.o (.c (.ref 0))) := by
  have hlen := els_len xs
  have hw : Enc.wt xs = xs.length + wts xs := rfl
  refine Con.of Tryz.func64 rfl Tryz.ntmps64 rfl (fun E => ?_)
  refine A_seq (A_region ?_);refine M0 (q_assignC rfl rfl rfl) rfl rfl ?_;refine L_nil (T_n (A_seq (A_region ?_)));refine M0 (q_moveC rfl rfl rfl) rfl rfl ?_
  refine M0 (q_len rfl rfl rfl) rfl rfl ?_;refine M1 (q_make 0 rfl rfl rfl rfl (by omega) (by omega) (by omega) rfl (by decide)) rfl rfl ?_;refine M0 (q_assignC rfl rfl rfl) rfl rfl ?_
  refine L_nil (T_n (A_seq (A_seq (A_region ?_))));refine M0 (q_assignC rfl rfl rfl) rfl rfl ?_;refine L_nil (T_n (A_block ?_))
  refine A_loop (fun m st => ∃ k : Nat,k + m = xs.length ∧ (True) ∧ st = (fun k : Nat => (⟨_,[(0,L xs),(3,.o (.c (.ref 0))),(4,I k)],[.row 1 (part xs [(.v (.string ⟨#[]⟩))] k)]⟩ : St)) k) (xs.length) ⟨(fun k : Nat => (⟨_,[(0,L xs),(3,.o (.c (.ref 0))),(4,I k)],[.row 1 (part xs [(.v (.string ⟨#[]⟩))] k)]⟩ : St)) 0,W_go [0] (by decide) rfl (row_eq (part_zero xs _)) (.cons rfl (.cons rfl (.cons rfl (.nil)))),0,by omega,trivial,rfl⟩ ?_
  rintro m_A _ ⟨k,hk_A,hp_A,rfl⟩
  refine A_seq (A_seq (A_region ?_));refine M0 (q_moveC rfl rfl rfl) rfl rfl ?_;refine M0 (q_moveC rfl rfl rfl) rfl rfl ?_;refine M0 (q_len rfl rfl rfl) rfl rfl ?_
  refine M0 (q_lss rfl rfl rfl rfl) rfl rfl ?_;refine L_nil (T_n ?_)
  refine A_cond rfl (fun h => ?_) (fun h => ?_)
  · have h3 : k < xs.length := by have := of_decide_eq_true h; omega
    have hat := els_at h3
    have hz := part_at xs [(.v (.string ⟨#[]⟩))] h3
    have hpl : (k : Int) < (part xs [(.v (.string ⟨#[]⟩))] k).length := by rw [part_len xs _ (by omega)]; omega
    have hwt : Enc.wt xs[k] ≤ wts xs := wts_le xs _ (List.getElem_mem h3)
    refine A_skip (T_n (A_seq (A_block (A_region ?_))));refine M0 (q_moveC rfl rfl rfl) rfl rfl ?_;refine M0 (q_moveC rfl rfl rfl) rfl rfl ?_
    refine M0 (q_moveC rfl rfl rfl) rfl rfl ?_;refine M0 (q_moveC rfl rfl rfl) rfl rfl ?_;refine M0 (q_at rfl rfl rfl rfl (by omega) (by assumption) rfl) rfl rfl ?_
    refine M0 (q_lr1 rfl rfl rfl rfl) rfl rfl ?_;refine M0 (q_ar rfl rfl rfl rfl rfl (by omega) (by assumption)) rfl rfl ?_
    refine M_ste1 rfl rfl rfl rfl rfl rfl rfl rfl rfl (by assumption) rfl rfl ?_;refine L_nil (B_n (T_n (A_region ?_)));refine M0 (q_moveC rfl rfl rfl) rfl rfl ?_
    refine M0 (q_add rfl rfl rfl rfl (by omega)) rfl rfl ?_;refine M0 (q_assignC rfl rfl rfl) rfl rfl ?_;refine L_nil (T_n ?_)
    exact ⟨xs.length - (k + 1),by omega,(fun k : Nat => (⟨_,[(0,L xs),(3,.o (.c (.ref 0))),(4,I k)],[.row 1 (part xs [(.v (.string ⟨#[]⟩))] k)]⟩ : St)) (k + 1),W_go [0] (by decide) rfl (row_eq (part_set xs [(.v (.string ⟨#[]⟩))] h3 _ (by rfl) (by rfl)).symm) (.cons rfl (.cons rfl (.cons rfl (.nil)))),k + 1,by omega,trivial,rfl⟩
  · have h3 : ¬ ((k : Int) < (els xs).length) := of_decide_eq_false h
    refine A_exit (T_x (T_x (B_xs (T_n (A_seq (A_region ?_))))));refine M0 (q_moveC rfl rfl rfl) rfl rfl ?_
    refine M0 (q_assignC rfl rfl rfl) rfl rfl ?_;refine L_nil (T_n (A_ret (F_r ?_)))
    exact E_tmp rfl rfl (W_end [0] (by decide) rfl (row_eq (part_all xs _ (by omega)).symm) rfl)
set_option maxHeartbeats 1000000 in
theorem to_IntSS (xs : List (List Int)) (hg : Enc.wt xs ≤ 1048576) : Con Tryz.prog 29 [] [al xs] [.row (Enc.k (List Int)) (els xs)] (.o (.c (.ref 0))) := by
  have hlen := els_len xs
  have hw : Enc.wt xs = xs.length + wts xs := rfl
  refine Con.of Tryz.func29 rfl Tryz.ntmps29 rfl (fun E => ?_)
  refine A_seq (A_region ?_);refine M0 (q_assignC rfl rfl rfl) rfl rfl ?_;refine L_nil (T_n (A_seq (A_region ?_)));refine M0 (q_moveC rfl rfl rfl) rfl rfl ?_
  refine M0 (q_len rfl rfl rfl) rfl rfl ?_;refine M1 (q_make 1 rfl rfl rfl rfl (by omega) (by omega) (by omega) rfl (by decide)) rfl rfl ?_;refine M0 (q_assignC rfl rfl rfl) rfl rfl ?_
  refine L_nil (T_n (A_seq (A_seq (A_region ?_))));refine M0 (q_assignC rfl rfl rfl) rfl rfl ?_;refine L_nil (T_n (A_block ?_))
  refine A_loop (fun m st => ∃ k : Nat,k + m = xs.length ∧ (True) ∧ st = (fun k : Nat => (⟨_,[(0,L xs),(3,.o (.c (.ref 0))),(4,I k)],[.row 1 (part xs [(.sl 1 [])] k)]⟩ : St)) k) (xs.length) ⟨(fun k : Nat => (⟨_,[(0,L xs),(3,.o (.c (.ref 0))),(4,I k)],[.row 1 (part xs [(.sl 1 [])] k)]⟩ : St)) 0,W_go [0] (by decide) rfl (row_eq (part_zero xs _)) (.cons rfl (.cons rfl (.cons rfl (.nil)))),0,by omega,trivial,rfl⟩ ?_
  rintro m_A _ ⟨k,hk_A,hp_A,rfl⟩
  refine A_seq (A_seq (A_region ?_));refine M0 (q_moveC rfl rfl rfl) rfl rfl ?_;refine M0 (q_moveC rfl rfl rfl) rfl rfl ?_;refine M0 (q_len rfl rfl rfl) rfl rfl ?_
  refine M0 (q_lss rfl rfl rfl rfl) rfl rfl ?_;refine L_nil (T_n ?_)
  refine A_cond rfl (fun h => ?_) (fun h => ?_)
  · have h3 : k < xs.length := by have := of_decide_eq_true h; omega
    have hat := els_at h3
    have hz := part_at xs [(.sl 1 [])] h3
    have hpl : (k : Int) < (part xs [(.sl 1 [])] k).length := by rw [part_len xs _ (by omega)]; omega
    have hwt : Enc.wt xs[k] ≤ wts xs := wts_le xs _ (List.getElem_mem h3)
    refine A_skip (T_n (A_seq (A_block (A_region ?_))));refine M0 (q_moveC rfl rfl rfl) rfl rfl ?_;refine M0 (q_moveC rfl rfl rfl) rfl rfl ?_
    refine M0 (q_moveC rfl rfl rfl) rfl rfl ?_;refine M0 (q_moveC rfl rfl rfl) rfl rfl ?_;refine M0 (q_at rfl rfl rfl rfl (by omega) (by assumption) rfl) rfl rfl ?_
    refine M0 (q_lr1 rfl rfl rfl rfl) rfl rfl ?_;refine M1 (q_call rfl rfl (to_IntS _ (by omega)) rfl rfl rfl) rfl rfl ?_
    refine M0 (q_ar rfl rfl rfl rfl rfl (by omega) (by assumption)) rfl rfl ?_;refine M_ste1 rfl rfl rfl rfl rfl rfl rfl rfl rfl (by assumption) rfl rfl ?_;refine L_nil (B_n ?_)
    refine T_n (A_region ?_);refine M0 (q_moveC rfl rfl rfl) rfl rfl ?_;refine M0 (q_add rfl rfl rfl rfl (by omega)) rfl rfl ?_;refine M0 (q_assignC rfl rfl rfl) rfl rfl ?_
    refine L_nil (T_n ?_)
    exact ⟨xs.length - (k + 1),by omega,(fun k : Nat => (⟨_,[(0,L xs),(3,.o (.c (.ref 0))),(4,I k)],[.row 1 (part xs [(.sl 1 [])] k)]⟩ : St)) (k + 1),W_go [0] (by decide) rfl (row_eq (part_set xs [(.sl 1 [])] h3 _ (by rfl) (by rfl)).symm) (.cons rfl (.cons rfl (.cons rfl (.nil)))),k + 1,by omega,trivial,rfl⟩
  · have h3 : ¬ ((k : Int) < (els xs).length) := of_decide_eq_false h
    refine A_exit (T_x (T_x (B_xs (T_n (A_seq (A_region ?_))))));refine M0 (q_moveC rfl rfl rfl) rfl rfl ?_
    refine M0 (q_assignC rfl rfl rfl) rfl rfl ?_;refine L_nil (T_n (A_ret (F_r ?_)))
    exact E_tmp rfl rfl (W_end [0] (by decide) rfl (row_eq (part_all xs _ (by omega)).symm) rfl)

/-! ### Comparing -/
set_option maxHeartbeats 1000000 in
theorem eq_IntS (xs ys : List Int) (hn : Enc.gd xs) : Con Tryz.prog 78 [] [al xs,al ys] [] (B (decide (xs = ys))) := by
  have hn1 := hn.1
  have hlx := els_len xs
  have hly := els_len ys
  by_cases hl : xs.length = ys.length
  · have hb : decide (((els xs).length : Int) ≠ ((els ys).length : Int)) = false := by rw [hlx,hly,hl]; simp
    refine Con.of Tryz.func78 rfl Tryz.ntmps78 rfl (fun E => ?_)
    refine A_seq (A_region ?_);refine M0 (q_assignC rfl rfl rfl) rfl rfl ?_;refine L_nil (T_n (A_seq (A_seq (A_region ?_))))
    refine M0 (q_moveC rfl rfl rfl) rfl rfl ?_;refine M0 (q_len rfl rfl rfl) rfl rfl ?_;refine M0 (q_moveC rfl rfl rfl) rfl rfl ?_;refine M0 (q_len rfl rfl rfl) rfl rfl ?_
    refine M0 (q_neqK rfl rfl rfl rfl (by assumption)) rfl rfl ?_;refine L_nil (T_n ?_);refine A_ifF rfl ?_;refine A_skip (T_n (A_seq (A_seq ?_)))
    refine A_region ?_;refine M0 (q_assignC rfl rfl rfl) rfl rfl ?_;refine L_nil (T_n (A_block ?_))
    refine A_loop (fun m st => ∃ k : Nat,k + m = xs.length ∧ (xs.take k = ys.take k) ∧ st = (fun k : Nat => (⟨_,[(0,L xs),(1,L ys),(5,I k)],[]⟩ : St)) k) (xs.length) ⟨(fun k : Nat => (⟨_,[(0,L xs),(1,L ys),(5,I k)],[]⟩ : St)) 0,W_go [] (by decide) rfl (rfl) (.cons rfl (.cons rfl (.cons rfl (.nil)))),0,by omega,by simp,rfl⟩ ?_
    rintro m_A _ ⟨k,hk_A,hp_A,rfl⟩
    refine A_seq (A_seq (A_region ?_));refine M0 (q_moveC rfl rfl rfl) rfl rfl ?_;refine M0 (q_moveC rfl rfl rfl) rfl rfl ?_;refine M0 (q_len rfl rfl rfl) rfl rfl ?_
    refine M0 (q_lss rfl rfl rfl rfl) rfl rfl ?_;refine L_nil (T_n ?_)
    refine A_cond rfl (fun h => ?_) (fun h => ?_)
    · have h3 : k < xs.length := by have := of_decide_eq_true h; omega
      have h4 : k < ys.length := by omega
      have hat := els_at h3
      have hat2 := els_at h4
      by_cases he : xs[k] = ys[k]
      · have hk : decide (xs[k] ≠ ys[k]) = false := by simp [he]
        refine A_skip (T_n (A_seq (A_block (A_seq ?_))))
        refine A_draw [[],[],[0,1],[0,1,2],[],[],[4,5],[4,5,6],[0,1,2,3,4,5,6,7]] [[],[],[17,18],[17,18,19],[],[],[21,22],[21,22,23],[17,18,19,20,21,22,23,24]] [[18,21,22,23,24],[17,21,22,23,24],[21,22,23,24],[21,22,23,24],[17,18,19,20,22],[17,18,19,20,21],[17,18,19,20],[17,18,19,20],[]] rfl ?_
        refine DR.step (q_moveC rfl rfl rfl) rfl rfl ?_;refine DR.step (q_moveC rfl rfl rfl) rfl rfl ?_;refine DR.step (q_at rfl rfl rfl rfl (by omega) (by assumption) rfl) rfl rfl ?_
        refine DR.step (q_lr1 rfl rfl rfl rfl) rfl rfl ?_;refine DR.step (q_moveC rfl rfl rfl) rfl rfl ?_;refine DR.step (q_moveC rfl rfl rfl) rfl rfl ?_
        refine DR.step (q_at rfl rfl rfl rfl (by omega) (by assumption) rfl) rfl rfl ?_;refine DR.step (q_lr1 rfl rfl rfl rfl) rfl rfl ?_
        refine DR.step (q_neqK rfl rfl rfl rfl (by assumption)) rfl rfl ?_;refine DR.stop (by kernel_rfl) (by kernel_rfl) ?_
        refine L_nil (T_n ?_);refine A_ifF rfl ?_;refine A_skip (B_n (T_n (A_region ?_)));refine M0 (q_moveC rfl rfl rfl) rfl rfl ?_
        refine M0 (q_add rfl rfl rfl rfl (by omega)) rfl rfl ?_;refine M0 (q_assignC rfl rfl rfl) rfl rfl ?_;refine L_nil (T_n ?_)
        exact ⟨xs.length - (k + 1),by omega,(fun k : Nat => (⟨_,[(0,L xs),(1,L ys),(5,I k)],[]⟩ : St)) (k + 1),W_go [] (by decide) rfl (rfl) (.cons rfl (.cons rfl (.cons rfl (.nil)))),k + 1,by omega,eq_next h3 h4 hp_A he,rfl⟩
      · have hk : decide (xs[k] ≠ ys[k]) = true := by simp [he]
        refine A_skip (T_n (A_seq (A_block (A_seq ?_))))
        refine A_draw [[],[],[0,1],[0,1,2],[],[],[4,5],[4,5,6],[0,1,2,3,4,5,6,7]] [[],[],[17,18],[17,18,19],[],[],[21,22],[21,22,23],[17,18,19,20,21,22,23,24]] [[18,21,22,23,24],[17,21,22,23,24],[21,22,23,24],[21,22,23,24],[17,18,19,20,22],[17,18,19,20,21],[17,18,19,20],[17,18,19,20],[]] rfl ?_
        refine DR.step (q_moveC rfl rfl rfl) rfl rfl ?_;refine DR.step (q_moveC rfl rfl rfl) rfl rfl ?_;refine DR.step (q_at rfl rfl rfl rfl (by omega) (by assumption) rfl) rfl rfl ?_
        refine DR.step (q_lr1 rfl rfl rfl rfl) rfl rfl ?_;refine DR.step (q_moveC rfl rfl rfl) rfl rfl ?_;refine DR.step (q_moveC rfl rfl rfl) rfl rfl ?_
        refine DR.step (q_at rfl rfl rfl rfl (by omega) (by assumption) rfl) rfl rfl ?_;refine DR.step (q_lr1 rfl rfl rfl rfl) rfl rfl ?_
        refine DR.step (q_neqK rfl rfl rfl rfl (by assumption)) rfl rfl ?_;refine DR.stop (by kernel_rfl) (by kernel_rfl) ?_
        refine L_nil (T_n ?_);refine A_ifT rfl ?_;refine A_seq (A_region ?_);refine M0 (q_assignC rfl rfl rfl) rfl rfl ?_;refine L_nil (T_n (A_ret (B_r ?_)))
        refine T_r (T_r (B_r (T_r (F_r ?_))))
        exact E_tmp rfl rfl (W_end [] (by decide) rfl rfl (B_eq (eq_ne h3 h4 he).symm))
    · have h3 : ¬ ((k : Int) < (els xs).length) := of_decide_eq_false h
      refine A_exit (T_x (T_x (B_xs (T_n (A_seq (A_region ?_))))));refine M0 (q_assignC rfl rfl rfl) rfl rfl ?_;refine L_nil (T_n ?_)
      refine A_ret (F_r ?_)
      exact E_tmp rfl rfl (W_end [] (by decide) rfl rfl (B_eq (eq_all (by omega) hl hp_A).symm))
  · have hb : decide (((els xs).length : Int) ≠ ((els ys).length : Int)) = true := by rw [hlx,hly]; simp; omega
    refine Con.of Tryz.func78 rfl Tryz.ntmps78 rfl (fun E => ?_)
    refine A_seq (A_region ?_);refine M0 (q_assignC rfl rfl rfl) rfl rfl ?_;refine L_nil (T_n (A_seq (A_seq (A_region ?_))))
    refine M0 (q_moveC rfl rfl rfl) rfl rfl ?_;refine M0 (q_len rfl rfl rfl) rfl rfl ?_;refine M0 (q_moveC rfl rfl rfl) rfl rfl ?_;refine M0 (q_len rfl rfl rfl) rfl rfl ?_
    refine M0 (q_neqK rfl rfl rfl rfl (by assumption)) rfl rfl ?_;refine L_nil (T_n ?_);refine A_ifT rfl ?_;refine A_seq (A_region ?_)
    refine M0 (q_assignC rfl rfl rfl) rfl rfl ?_;refine L_nil (T_n (A_ret (T_r (F_r ?_))))
    exact E_tmp rfl rfl (W_end [] (by decide) rfl rfl (B_eq (eq_len hl).symm))
set_option maxHeartbeats 1000000 in
theorem eq_StringS (xs ys : List ByteArray) (hn : Enc.gd xs) : Con Tryz.prog 77 [] [al xs,al ys] [] (B (decide (xs = ys))) := by
  have hn1 := hn.1
  have hlx := els_len xs
  have hly := els_len ys
  by_cases hl : xs.length = ys.length
  · have hb : decide (((els xs).length : Int) ≠ ((els ys).length : Int)) = false := by rw [hlx,hly,hl]; simp
    refine Con.of Tryz.func77 rfl Tryz.ntmps77 rfl (fun E => ?_)
    refine A_seq (A_region ?_);refine M0 (q_assignC rfl rfl rfl) rfl rfl ?_;refine L_nil (T_n (A_seq (A_seq (A_region ?_))))
    refine M0 (q_moveC rfl rfl rfl) rfl rfl ?_;refine M0 (q_len rfl rfl rfl) rfl rfl ?_;refine M0 (q_moveC rfl rfl rfl) rfl rfl ?_;refine M0 (q_len rfl rfl rfl) rfl rfl ?_
    refine M0 (q_neqK rfl rfl rfl rfl (by assumption)) rfl rfl ?_;refine L_nil (T_n ?_);refine A_ifF rfl ?_;refine A_skip (T_n (A_seq (A_seq ?_)))
    refine A_region ?_;refine M0 (q_assignC rfl rfl rfl) rfl rfl ?_;refine L_nil (T_n (A_block ?_))
    refine A_loop (fun m st => ∃ k : Nat,k + m = xs.length ∧ (xs.take k = ys.take k) ∧ st = (fun k : Nat => (⟨_,[(0,L xs),(1,L ys),(5,I k)],[]⟩ : St)) k) (xs.length) ⟨(fun k : Nat => (⟨_,[(0,L xs),(1,L ys),(5,I k)],[]⟩ : St)) 0,W_go [] (by decide) rfl (rfl) (.cons rfl (.cons rfl (.cons rfl (.nil)))),0,by omega,by simp,rfl⟩ ?_
    rintro m_A _ ⟨k,hk_A,hp_A,rfl⟩
    refine A_seq (A_seq (A_region ?_));refine M0 (q_moveC rfl rfl rfl) rfl rfl ?_;refine M0 (q_moveC rfl rfl rfl) rfl rfl ?_;refine M0 (q_len rfl rfl rfl) rfl rfl ?_
    refine M0 (q_lss rfl rfl rfl rfl) rfl rfl ?_;refine L_nil (T_n ?_)
    refine A_cond rfl (fun h => ?_) (fun h => ?_)
    · have h3 : k < xs.length := by have := of_decide_eq_true h; omega
      have h4 : k < ys.length := by omega
      have hat := els_at h3
      have hat2 := els_at h4
      by_cases he : xs[k] = ys[k]
      · have hk : decide (xs[k] ≠ ys[k]) = false := by simp [he]
        refine A_skip (T_n (A_seq (A_block (A_seq ?_))))
        refine A_draw [[],[],[0,1],[0,1,2],[],[],[4,5],[4,5,6],[0,1,2,3,4,5,6,7]] [[],[],[17,18],[17,18,19],[],[],[21,22],[21,22,23],[17,18,19,20,21,22,23,24]] [[18,21,22,23,24],[17,21,22,23,24],[21,22,23,24],[21,22,23,24],[17,18,19,20,22],[17,18,19,20,21],[17,18,19,20],[17,18,19,20],[]] rfl ?_
        refine DR.step (q_moveC rfl rfl rfl) rfl rfl ?_;refine DR.step (q_moveC rfl rfl rfl) rfl rfl ?_;refine DR.step (q_at rfl rfl rfl rfl (by omega) (by assumption) rfl) rfl rfl ?_
        refine DR.step (q_lr1 rfl rfl rfl rfl) rfl rfl ?_;refine DR.step (q_moveC rfl rfl rfl) rfl rfl ?_;refine DR.step (q_moveC rfl rfl rfl) rfl rfl ?_
        refine DR.step (q_at rfl rfl rfl rfl (by omega) (by assumption) rfl) rfl rfl ?_;refine DR.step (q_lr1 rfl rfl rfl rfl) rfl rfl ?_
        refine DR.step (q_sneqK rfl rfl rfl rfl (by assumption)) rfl rfl ?_;refine DR.stop (by kernel_rfl) (by kernel_rfl) ?_
        refine L_nil (T_n ?_);refine A_ifF rfl ?_;refine A_skip (B_n (T_n (A_region ?_)));refine M0 (q_moveC rfl rfl rfl) rfl rfl ?_
        refine M0 (q_add rfl rfl rfl rfl (by omega)) rfl rfl ?_;refine M0 (q_assignC rfl rfl rfl) rfl rfl ?_;refine L_nil (T_n ?_)
        exact ⟨xs.length - (k + 1),by omega,(fun k : Nat => (⟨_,[(0,L xs),(1,L ys),(5,I k)],[]⟩ : St)) (k + 1),W_go [] (by decide) rfl (rfl) (.cons rfl (.cons rfl (.cons rfl (.nil)))),k + 1,by omega,eq_next h3 h4 hp_A he,rfl⟩
      · have hk : decide (xs[k] ≠ ys[k]) = true := by simp [he]
        refine A_skip (T_n (A_seq (A_block (A_seq ?_))))
        refine A_draw [[],[],[0,1],[0,1,2],[],[],[4,5],[4,5,6],[0,1,2,3,4,5,6,7]] [[],[],[17,18],[17,18,19],[],[],[21,22],[21,22,23],[17,18,19,20,21,22,23,24]] [[18,21,22,23,24],[17,21,22,23,24],[21,22,23,24],[21,22,23,24],[17,18,19,20,22],[17,18,19,20,21],[17,18,19,20],[17,18,19,20],[]] rfl ?_
        refine DR.step (q_moveC rfl rfl rfl) rfl rfl ?_;refine DR.step (q_moveC rfl rfl rfl) rfl rfl ?_;refine DR.step (q_at rfl rfl rfl rfl (by omega) (by assumption) rfl) rfl rfl ?_
        refine DR.step (q_lr1 rfl rfl rfl rfl) rfl rfl ?_;refine DR.step (q_moveC rfl rfl rfl) rfl rfl ?_;refine DR.step (q_moveC rfl rfl rfl) rfl rfl ?_
        refine DR.step (q_at rfl rfl rfl rfl (by omega) (by assumption) rfl) rfl rfl ?_;refine DR.step (q_lr1 rfl rfl rfl rfl) rfl rfl ?_
        refine DR.step (q_sneqK rfl rfl rfl rfl (by assumption)) rfl rfl ?_;refine DR.stop (by kernel_rfl) (by kernel_rfl) ?_
        refine L_nil (T_n ?_);refine A_ifT rfl ?_;refine A_seq (A_region ?_);refine M0 (q_assignC rfl rfl rfl) rfl rfl ?_;refine L_nil (T_n (A_ret (B_r ?_)))
        refine T_r (T_r (B_r (T_r (F_r ?_))))
        exact E_tmp rfl rfl (W_end [] (by decide) rfl rfl (B_eq (eq_ne h3 h4 he).symm))
    · have h3 : ¬ ((k : Int) < (els xs).length) := of_decide_eq_false h
      refine A_exit (T_x (T_x (B_xs (T_n (A_seq (A_region ?_))))));refine M0 (q_assignC rfl rfl rfl) rfl rfl ?_;refine L_nil (T_n ?_)
      refine A_ret (F_r ?_)
      exact E_tmp rfl rfl (W_end [] (by decide) rfl rfl (B_eq (eq_all (by omega) hl hp_A).symm))
  · have hb : decide (((els xs).length : Int) ≠ ((els ys).length : Int)) = true := by rw [hlx,hly]; simp; omega
    refine Con.of Tryz.func77 rfl Tryz.ntmps77 rfl (fun E => ?_)
    refine A_seq (A_region ?_);refine M0 (q_assignC rfl rfl rfl) rfl rfl ?_;refine L_nil (T_n (A_seq (A_seq (A_region ?_))))
    refine M0 (q_moveC rfl rfl rfl) rfl rfl ?_;refine M0 (q_len rfl rfl rfl) rfl rfl ?_;refine M0 (q_moveC rfl rfl rfl) rfl rfl ?_;refine M0 (q_len rfl rfl rfl) rfl rfl ?_
    refine M0 (q_neqK rfl rfl rfl rfl (by assumption)) rfl rfl ?_;refine L_nil (T_n ?_);refine A_ifT rfl ?_;refine A_seq (A_region ?_)
    refine M0 (q_assignC rfl rfl rfl) rfl rfl ?_;refine L_nil (T_n (A_ret (T_r (F_r ?_))))
    exact E_tmp rfl rfl (W_end [] (by decide) rfl rfl (B_eq (eq_len hl).symm))
set_option maxHeartbeats 1000000 in
theorem eq_IntSS (xs ys : List (List Int)) (hn : Enc.gd xs) : Con Tryz.prog 43 [] [al xs,al ys] [] (B (decide (xs = ys))) := by
  have hn1 := hn.1
  have hlx := els_len xs
  have hly := els_len ys
  by_cases hl : xs.length = ys.length
  · have hb : decide (((els xs).length : Int) ≠ ((els ys).length : Int)) = false := by rw [hlx,hly,hl]; simp
    refine Con.of Tryz.func43 rfl Tryz.ntmps43 rfl (fun E => ?_)
    refine A_seq (A_region ?_);refine M0 (q_assignC rfl rfl rfl) rfl rfl ?_;refine L_nil (T_n (A_seq (A_seq (A_region ?_))))
    refine M0 (q_moveC rfl rfl rfl) rfl rfl ?_;refine M0 (q_len rfl rfl rfl) rfl rfl ?_;refine M0 (q_moveC rfl rfl rfl) rfl rfl ?_;refine M0 (q_len rfl rfl rfl) rfl rfl ?_
    refine M0 (q_neqK rfl rfl rfl rfl (by assumption)) rfl rfl ?_;refine L_nil (T_n ?_);refine A_ifF rfl ?_;refine A_skip (T_n (A_seq (A_seq ?_)))
    refine A_region ?_;refine M0 (q_assignC rfl rfl rfl) rfl rfl ?_;refine L_nil (T_n (A_block ?_))
    refine A_loop (fun m st => ∃ k : Nat,k + m = xs.length ∧ (xs.take k = ys.take k) ∧ st = (fun k : Nat => (⟨_,[(0,L xs),(1,L ys),(5,I k)],[]⟩ : St)) k) (xs.length) ⟨(fun k : Nat => (⟨_,[(0,L xs),(1,L ys),(5,I k)],[]⟩ : St)) 0,W_go [] (by decide) rfl (rfl) (.cons rfl (.cons rfl (.cons rfl (.nil)))),0,by omega,by simp,rfl⟩ ?_
    rintro m_A _ ⟨k,hk_A,hp_A,rfl⟩
    refine A_seq (A_seq (A_region ?_));refine M0 (q_moveC rfl rfl rfl) rfl rfl ?_;refine M0 (q_moveC rfl rfl rfl) rfl rfl ?_;refine M0 (q_len rfl rfl rfl) rfl rfl ?_
    refine M0 (q_lss rfl rfl rfl rfl) rfl rfl ?_;refine L_nil (T_n ?_)
    refine A_cond rfl (fun h => ?_) (fun h => ?_)
    · have h3 : k < xs.length := by have := of_decide_eq_true h; omega
      have h4 : k < ys.length := by omega
      have hat := els_at h3
      have hat2 := els_at h4
      by_cases he : xs[k] = ys[k]
      · have hc := eq_IntS xs[k] ys[k] (hn.2 _ (List.getElem_mem h3))
        rw [decide_eq_true he] at hc
        refine A_skip (T_n (A_seq (A_block (A_seq ?_))))
        refine A_draw [[],[],[0,1],[0,1,2],[],[],[4,5],[4,5,6],[0,1,2,3,4,5,6,7],[0,1,2,3,4,5,6,7,8]] [[],[],[17,18],[17,18,19],[],[],[21,22],[21,22,23],[17,18,19,20,21,22,23,24],[17,18,19,20,21,22,23,24,25]] [[18,21,22,23,24],[17,21,22,23,24],[21,22,23,24],[21,22,23,24],[17,18,19,20,22],[17,18,19,20,21],[17,18,19,20],[17,18,19,20],[],[]] rfl ?_
        refine DR.step (q_moveC rfl rfl rfl) rfl rfl ?_;refine DR.step (q_moveC rfl rfl rfl) rfl rfl ?_;refine DR.step (q_at rfl rfl rfl rfl (by omega) (by assumption) rfl) rfl rfl ?_
        refine DR.step (q_lr1 rfl rfl rfl rfl) rfl rfl ?_;refine DR.step (q_moveC rfl rfl rfl) rfl rfl ?_;refine DR.step (q_moveC rfl rfl rfl) rfl rfl ?_
        refine DR.step (q_at rfl rfl rfl rfl (by omega) (by assumption) rfl) rfl rfl ?_;refine DR.step (q_lr1 rfl rfl rfl rfl) rfl rfl ?_;refine DR.step (q_call0 rfl rfl (hc) rfl) rfl rfl ?_
        refine DR.step (q_not rfl rfl rfl) rfl rfl ?_;refine DR.stop (by kernel_rfl) (by kernel_rfl) ?_
        refine L_nil (T_n ?_);refine A_ifF rfl ?_;refine A_skip (B_n (T_n (A_region ?_)));refine M0 (q_moveC rfl rfl rfl) rfl rfl ?_
        refine M0 (q_add rfl rfl rfl rfl (by omega)) rfl rfl ?_;refine M0 (q_assignC rfl rfl rfl) rfl rfl ?_;refine L_nil (T_n ?_)
        exact ⟨xs.length - (k + 1),by omega,(fun k : Nat => (⟨_,[(0,L xs),(1,L ys),(5,I k)],[]⟩ : St)) (k + 1),W_go [] (by decide) rfl (rfl) (.cons rfl (.cons rfl (.cons rfl (.nil)))),k + 1,by omega,eq_next h3 h4 hp_A he,rfl⟩
      · have hc := eq_IntS xs[k] ys[k] (hn.2 _ (List.getElem_mem h3))
        rw [decide_eq_false he] at hc
        refine A_skip (T_n (A_seq (A_block (A_seq ?_))))
        refine A_draw [[],[],[0,1],[0,1,2],[],[],[4,5],[4,5,6],[0,1,2,3,4,5,6,7],[0,1,2,3,4,5,6,7,8]] [[],[],[17,18],[17,18,19],[],[],[21,22],[21,22,23],[17,18,19,20,21,22,23,24],[17,18,19,20,21,22,23,24,25]] [[18,21,22,23,24],[17,21,22,23,24],[21,22,23,24],[21,22,23,24],[17,18,19,20,22],[17,18,19,20,21],[17,18,19,20],[17,18,19,20],[],[]] rfl ?_
        refine DR.step (q_moveC rfl rfl rfl) rfl rfl ?_;refine DR.step (q_moveC rfl rfl rfl) rfl rfl ?_;refine DR.step (q_at rfl rfl rfl rfl (by omega) (by assumption) rfl) rfl rfl ?_
        refine DR.step (q_lr1 rfl rfl rfl rfl) rfl rfl ?_;refine DR.step (q_moveC rfl rfl rfl) rfl rfl ?_;refine DR.step (q_moveC rfl rfl rfl) rfl rfl ?_
        refine DR.step (q_at rfl rfl rfl rfl (by omega) (by assumption) rfl) rfl rfl ?_;refine DR.step (q_lr1 rfl rfl rfl rfl) rfl rfl ?_;refine DR.step (q_call0 rfl rfl (hc) rfl) rfl rfl ?_
        refine DR.step (q_not rfl rfl rfl) rfl rfl ?_;refine DR.stop (by kernel_rfl) (by kernel_rfl) ?_
        refine L_nil (T_n ?_);refine A_ifT rfl ?_;refine A_seq (A_region ?_);refine M0 (q_assignC rfl rfl rfl) rfl rfl ?_;refine L_nil (T_n (A_ret (B_r ?_)))
        refine T_r (T_r (B_r (T_r (F_r ?_))))
        exact E_tmp rfl rfl (W_end [] (by decide) rfl rfl (B_eq (eq_ne h3 h4 he).symm))
    · have h3 : ¬ ((k : Int) < (els xs).length) := of_decide_eq_false h
      refine A_exit (T_x (T_x (B_xs (T_n (A_seq (A_region ?_))))));refine M0 (q_assignC rfl rfl rfl) rfl rfl ?_;refine L_nil (T_n ?_)
      refine A_ret (F_r ?_)
      exact E_tmp rfl rfl (W_end [] (by decide) rfl rfl (B_eq (eq_all (by omega) hl hp_A).symm))
  · have hb : decide (((els xs).length : Int) ≠ ((els ys).length : Int)) = true := by rw [hlx,hly]; simp; omega
    refine Con.of Tryz.func43 rfl Tryz.ntmps43 rfl (fun E => ?_)
    refine A_seq (A_region ?_);refine M0 (q_assignC rfl rfl rfl) rfl rfl ?_;refine L_nil (T_n (A_seq (A_seq (A_region ?_))))
    refine M0 (q_moveC rfl rfl rfl) rfl rfl ?_;refine M0 (q_len rfl rfl rfl) rfl rfl ?_;refine M0 (q_moveC rfl rfl rfl) rfl rfl ?_;refine M0 (q_len rfl rfl rfl) rfl rfl ?_
    refine M0 (q_neqK rfl rfl rfl rfl (by assumption)) rfl rfl ?_;refine L_nil (T_n ?_);refine A_ifT rfl ?_;refine A_seq (A_region ?_)
    refine M0 (q_assignC rfl rfl rfl) rfl rfl ?_;refine L_nil (T_n (A_ret (T_r (F_r ?_))))
    exact E_tmp rfl rfl (W_end [] (by decide) rfl rfl (B_eq (eq_len hl).symm))

end Go.Proofs.YtbpebmolbdplmaaGreat
end

section
set_option linter.unusedVariables false
set_option linter.unusedSimpArgs false
namespace Go.Proofs.YtbpebmolbdplmaaGreat
open Go.RowKit

/-- Data ass pieces of one's own: the slices, and the cells that name them. -/
def ownO : List T → List Ob
  | [] => []
  | .v _ :: ts => ownO ts
  | .sl k es :: ts => .row k es :: ownO ts
  | .un :: ts => ownO ts
def ownV : Nat → List T → List V1
  | _,[] => []
  | n,.v x :: ts => .rd [] (.v x) :: ownV n ts
  | n,.sl _ _ :: ts => .ref n :: ownV (n + 1) ts
  | n,.un :: ts => .un :: ownV n ts

structure TLevel where
  Rows : (List ByteArray)
  deriving DecidableEq
instance : Enc TLevel := ⟨1,by omega,fun x => [sl x.Rows],fun _ => rfl,fun x => Enc.gd x.Rows,fun x => Enc.wt x.Rows⟩
theorem TLevel.same {x y : TLevel} (h0 : x.Rows = y.Rows) : x = y := by cases x; cases y; simp_all
structure TReplay where
  Level : TLevel
  Players : Int
  Seed : Int
  Every : Int
  Rows : (List (List Int))
  Keys : (List ByteArray)
  deriving DecidableEq
instance : Enc TReplay := ⟨6,by omega,fun x => [sl x.Level.Rows,.v (.int .i64 x.Players),.v (.int .i64 x.Seed),.v (.int .i64 x.Every),sl x.Rows,sl x.Keys],fun _ => rfl,fun x => Enc.gd x.Level ∧ Enc.gd x.Players ∧ Enc.gd x.Seed ∧ Enc.gd x.Every ∧ Enc.gd x.Rows ∧ Enc.gd x.Keys,fun x => Enc.wt x.Level + Enc.wt x.Rows + Enc.wt x.Keys⟩
theorem TReplay.same {x y : TReplay} (h0 : x.Level = y.Level) (h1 : x.Players = y.Players) (h2 : x.Seed = y.Seed) (h3 : x.Every = y.Every) (h4 : x.Rows = y.Rows) (h5 : x.Keys = y.Keys) : x = y := by cases x; cases y; simp_all

set_option maxHeartbeats 2000000 in
theorem sz_Level (x : TLevel) (left : Int) (hg : Enc.gd x) (h0 : 0 ≤ left) (h1 : left ≤ 1048576) : Con Tryz.prog 12 [] [ag x,ai left] [] (I (szr (Enc.wt x) left)) := by
  have g_Rows : Enc.gd x.Rows := hg
  have hw : Enc.wt x = Enc.wt x.Rows := rfl
  have hm1 : decide ((-1 : Int) < 0) = true := rfl
  have hc_Rows := sz_StringS x.Rows (left) g_Rows (by omega) (by omega)
  by_cases n_Rows : left < Enc.wt x.Rows
  · rw [szr_neg n_Rows] at hc_Rows
    refine Con.of Tryz.func12 rfl Tryz.ntmps12 rfl (fun E => ?_)
    refine A_seq (A_region ?_);refine M1 (q_boxN rfl rfl rfl rfl) rfl rfl ?_;refine M0 (q_assignC rfl rfl rfl) rfl rfl ?_;refine L_nil (T_n (A_seq ?_))
    refine A_region ?_;refine M0 (q_fldp rfl rfl rfl rfl (by decide)) rfl rfl ?_;refine M0 (q_ld1 rfl rfl rfl rfl rfl) rfl rfl ?_;refine M0 (q_moveC rfl rfl rfl) rfl rfl ?_
    refine M0 (q_call0 rfl rfl (hc_Rows) rfl) rfl rfl ?_;refine M0 (q_assignC rfl rfl rfl) rfl rfl ?_;refine L_nil (T_n (A_seq (A_seq (A_region ?_))))
    refine M0 (q_moveC rfl rfl rfl) rfl rfl ?_;refine M0 (q_lssK rfl rfl rfl rfl (by assumption)) rfl rfl ?_;refine L_nil (T_n ?_);refine A_ifT rfl ?_;refine A_seq ?_
    refine A_region ?_;refine M0 (q_assignC rfl rfl rfl) rfl rfl ?_;refine L_nil (T_n (A_ret (T_r (F_r ?_))))
    exact E_tmp rfl rfl (W_end [] (by decide) rfl rfl (I_eq (by rw [szr_neg (by omega)])))
  rw [szr_pos (by omega)] at hc_Rows
  have hb_Rows : decide (left - Enc.wt x.Rows < 0) = false := decide_eq_false (by omega)
  refine Con.of Tryz.func12 rfl Tryz.ntmps12 rfl (fun E => ?_)
  refine A_seq (A_region ?_);refine M1 (q_boxN rfl rfl rfl rfl) rfl rfl ?_;refine M0 (q_assignC rfl rfl rfl) rfl rfl ?_;refine L_nil (T_n (A_seq ?_))
  refine A_region ?_;refine M0 (q_fldp rfl rfl rfl rfl (by decide)) rfl rfl ?_;refine M0 (q_ld1 rfl rfl rfl rfl rfl) rfl rfl ?_;refine M0 (q_moveC rfl rfl rfl) rfl rfl ?_
  refine M0 (q_call0 rfl rfl (hc_Rows) rfl) rfl rfl ?_;refine M0 (q_assignC rfl rfl rfl) rfl rfl ?_;refine L_nil (T_n (A_seq (A_seq (A_region ?_))))
  refine M0 (q_moveC rfl rfl rfl) rfl rfl ?_;refine M0 (q_lssK rfl rfl rfl rfl (by assumption)) rfl rfl ?_;refine L_nil (T_n ?_);refine A_ifF rfl ?_;refine A_skip (T_n ?_)
  refine A_seq (A_region ?_);refine M0 (q_moveC rfl rfl rfl) rfl rfl ?_;refine M0 (q_assignC rfl rfl rfl) rfl rfl ?_;refine L_nil (T_n (A_ret (F_r ?_)))
  exact E_tmp rfl rfl (W_end [] (by decide) rfl rfl (I_eq (by rw [szr_pos (by omega)]; omega)))
set_option maxHeartbeats 2000000 in
theorem to_Level (x : TLevel) (hg : Enc.wt x ≤ 1048576) : Con Tryz.prog 28 [] [ag x] (ownO (Enc.e x)) (.o (.ag (ownV 0 (Enc.e x)))) := by
  have hw : Enc.wt x = Enc.wt x.Rows := rfl
  refine Con.of Tryz.func28 rfl Tryz.ntmps28 rfl (fun E => ?_)
  refine A_seq (A_region ?_);refine M1 (q_boxN rfl rfl rfl rfl) rfl rfl ?_;refine M1 (q_alloc rfl rfl rfl) rfl rfl ?_;refine L_nil (T_n (A_seq ?_))
  refine A_region ?_;refine M1 (q_alloc rfl rfl rfl) rfl rfl ?_;refine L_nil (T_n (A_seq (A_region ?_)));refine M0 (q_fldp rfl rfl rfl rfl (by decide)) rfl rfl ?_
  refine M0 (q_ld1 rfl rfl rfl rfl rfl) rfl rfl ?_;refine M1 (q_call rfl rfl (to_StringS x.Rows (by omega)) rfl rfl rfl) rfl rfl ?_
  refine M0 (q_fldp rfl rfl rfl rfl (by decide)) rfl rfl ?_;refine M_st1 rfl rfl rfl rfl rfl rfl rfl rfl ?_;refine L_nil (T_n (A_seq (A_region ?_)))
  refine M0 (q_ldN rfl rfl rfl rfl rfl rfl) rfl rfl ?_;refine M_stN rfl rfl rfl rfl rfl rfl rfl rfl rfl ?_;refine L_nil (T_n (A_ret (F_r ?_)))
  exact E_cell rfl rfl rfl rfl (W_end [3] (by decide) rfl rfl rfl)
set_option maxHeartbeats 2000000 in
theorem eq_Level (x y : TLevel) (hg : Enc.gd x) : Con Tryz.prog 42 [] [ag x,ag y] [] (B (decide (x = y))) := by
  have g_Rows : Enc.gd x.Rows := hg
  by_cases e_Rows : ¬ x.Rows = y.Rows
  · have hc := eq_StringS x.Rows y.Rows g_Rows
    rw [decide_eq_false e_Rows] at hc
    refine Con.of Tryz.func42 rfl Tryz.ntmps42 rfl (fun E => ?_)
    refine A_seq (A_region ?_);refine M1 (q_boxN rfl rfl rfl rfl) rfl rfl ?_;refine M1 (q_boxN rfl rfl rfl rfl) rfl rfl ?_;refine M0 (q_assignC rfl rfl rfl) rfl rfl ?_
    refine L_nil (T_n (A_seq (A_seq (A_region ?_))));refine M0 (q_fldp rfl rfl rfl rfl (by decide)) rfl rfl ?_
    refine M0 (q_ld1 rfl rfl rfl rfl rfl) rfl rfl ?_;refine M0 (q_fldp rfl rfl rfl rfl (by decide)) rfl rfl ?_;refine M0 (q_ld1 rfl rfl rfl rfl rfl) rfl rfl ?_
    refine M0 (q_call0 rfl rfl (hc) rfl) rfl rfl ?_;refine M0 (q_not rfl rfl rfl) rfl rfl ?_;refine L_nil (T_n ?_);refine A_ifT rfl ?_;refine A_seq (A_region ?_)
    refine M0 (q_assignC rfl rfl rfl) rfl rfl ?_;refine L_nil (T_n (A_ret (T_r (F_r ?_))))
    exact E_tmp rfl rfl (W_end [] (by decide) rfl rfl (B_eq (decide_eq_false fun e => e_Rows (by rw [e])).symm))
  have e_Rows := Classical.not_not.1 e_Rows
  have hc_Rows := eq_StringS x.Rows y.Rows g_Rows
  rw [decide_eq_true e_Rows] at hc_Rows
  refine Con.of Tryz.func42 rfl Tryz.ntmps42 rfl (fun E => ?_)
  refine A_seq (A_region ?_);refine M1 (q_boxN rfl rfl rfl rfl) rfl rfl ?_;refine M1 (q_boxN rfl rfl rfl rfl) rfl rfl ?_;refine M0 (q_assignC rfl rfl rfl) rfl rfl ?_
  refine L_nil (T_n (A_seq (A_seq (A_region ?_))));refine M0 (q_fldp rfl rfl rfl rfl (by decide)) rfl rfl ?_
  refine M0 (q_ld1 rfl rfl rfl rfl rfl) rfl rfl ?_;refine M0 (q_fldp rfl rfl rfl rfl (by decide)) rfl rfl ?_;refine M0 (q_ld1 rfl rfl rfl rfl rfl) rfl rfl ?_
  refine M0 (q_call0 rfl rfl (hc_Rows) rfl) rfl rfl ?_;refine M0 (q_not rfl rfl rfl) rfl rfl ?_;refine L_nil (T_n ?_);refine A_ifF rfl ?_;refine A_skip (T_n ?_)
  refine A_seq (A_region ?_);refine M0 (q_assignC rfl rfl rfl) rfl rfl ?_;refine L_nil (T_n (A_ret (F_r ?_)))
  exact E_tmp rfl rfl (W_end [] (by decide) rfl rfl (B_eq (decide_eq_true (TLevel.same e_Rows)).symm))

end Go.Proofs.YtbpebmolbdplmaaGreat
end

section
set_option linter.unusedSimpArgs false
set_option linter.unusedVariables false
set_option maxRecDepth 4096
namespace Go.Proofs.YtbpebmolbdplmaaGreat
open Go.RowKit

end Go.Proofs.YtbpebmolbdplmaaGreat
end

section
set_option linter.unusedSimpArgs false
set_option linter.unusedVariables false
namespace Go.Proofs.YtbpebmolbdplmaaGreat
open Go.RowKit

section
variable {P : Program} {E : Env} {ops : Array Oper} {o : Oper} {st : St} {rest : List Oper} {QQ : Exit → St → Prop} {w : World} {H : Hs} {F : Nat → Prop} {a : Act} {t : TypeId} {y : Operand} {n : Nat}
end
end Go.Proofs.YtbpebmolbdplmaaGreat
end

section
set_option linter.unusedVariables false
namespace Go.Proofs.YtbpebmolbdplmaaGreat
open Go.RowKit

section
variable {P : Program} {ops : Array Oper} {o : Oper} {st : St} {m : Nat} {t t' : TypeId} {y z : Operand} {ps qs : List Nat}
end
end Go.Proofs.YtbpebmolbdplmaaGreat
end

section
set_option linter.unusedSimpArgs false
set_option linter.unusedVariables false
namespace Go.Proofs.YtbpebmolbdplmaaGreat
open Go.RowKit

end Go.Proofs.YtbpebmolbdplmaaGreat
end

section
set_option linter.unusedVariables false
set_option linter.unusedSimpArgs false
set_option maxRecDepth 8000
namespace Go.Proofs.YtbpebmolbdplmaaGreat
open Go.RowKit

structure TBody where
  Kind : Int
  Owner : Int
  X : Int
  Y : Int
  VX : Int
  VY : Int
  Aim : Int
  Life : Int
  Timer : Int
  deriving DecidableEq
instance : Enc TBody := ⟨9,by omega,fun x => [.v (.int .i64 x.Kind),.v (.int .i64 x.Owner),.v (.int .i64 x.X),.v (.int .i64 x.Y),.v (.int .i64 x.VX),.v (.int .i64 x.VY),.v (.int .i64 x.Aim),.v (.int .i64 x.Life),.v (.int .i64 x.Timer)],fun _ => rfl,fun x => Enc.gd x.Kind ∧ Enc.gd x.Owner ∧ Enc.gd x.X ∧ Enc.gd x.Y ∧ Enc.gd x.VX ∧ Enc.gd x.VY ∧ Enc.gd x.Aim ∧ Enc.gd x.Life ∧ Enc.gd x.Timer,fun x => 0⟩
theorem TBody.same {x y : TBody} (h0 : x.Kind = y.Kind) (h1 : x.Owner = y.Owner) (h2 : x.X = y.X) (h3 : x.Y = y.Y) (h4 : x.VX = y.VX) (h5 : x.VY = y.VY) (h6 : x.Aim = y.Aim) (h7 : x.Life = y.Life) (h8 : x.Timer = y.Timer) : x = y := by cases x; cases y; simp_all
structure TWorld where
  Level : TLevel
  Tick : Int
  Seed : Int
  Scores : (List Int)
  Bodies : (List TBody)
  deriving DecidableEq
instance : Enc TWorld := ⟨5,by omega,fun x => [sl x.Level.Rows,.v (.int .i64 x.Tick),.v (.int .i64 x.Seed),sl x.Scores,sl x.Bodies],fun _ => rfl,fun x => Enc.gd x.Level ∧ Enc.gd x.Tick ∧ Enc.gd x.Seed ∧ Enc.gd x.Scores ∧ Enc.gd x.Bodies,fun x => Enc.wt x.Level + Enc.wt x.Scores + Enc.wt x.Bodies⟩
theorem TWorld.same {x y : TWorld} (h0 : x.Level = y.Level) (h1 : x.Tick = y.Tick) (h2 : x.Seed = y.Seed) (h3 : x.Scores = y.Scores) (h4 : x.Bodies = y.Bodies) : x = y := by cases x; cases y; simp_all
structure TSpectator where
  World : TWorld
  Gaps : Int
  deriving DecidableEq
instance : Enc TSpectator := ⟨6,by omega,fun x => [sl x.World.Level.Rows,.v (.int .i64 x.World.Tick),.v (.int .i64 x.World.Seed),sl x.World.Scores,sl x.World.Bodies,.v (.int .i64 x.Gaps)],fun _ => rfl,fun x => Enc.gd x.World ∧ Enc.gd x.Gaps,fun x => Enc.wt x.World⟩
theorem TSpectator.same {x y : TSpectator} (h0 : x.World = y.World) (h1 : x.Gaps = y.Gaps) : x = y := by cases x; cases y; simp_all

set_option maxHeartbeats 2000000 in
theorem to_Body (x : TBody) (hg : Enc.wt x ≤ 1048576) : Con Tryz.prog 124 [] [ag x] (ownO (Enc.e x)) (.o (.ag (ownV 0 (Enc.e x)))) := by
  refine Con.of Tryz.func124 rfl Tryz.ntmps124 rfl (fun E => ?_)
  refine A_seq (A_region ?_);refine M1 (q_boxN rfl rfl rfl rfl) rfl rfl ?_;refine M1 (q_alloc rfl rfl rfl) rfl rfl ?_;refine L_nil (T_n (A_seq ?_))
  refine A_region ?_;refine M1 (q_alloc rfl rfl rfl) rfl rfl ?_;refine L_nil (T_n (A_seq (A_region ?_)));refine M0 (q_fldp rfl rfl rfl rfl (by decide)) rfl rfl ?_
  refine M0 (q_ld1 rfl rfl rfl rfl rfl) rfl rfl ?_;refine M0 (q_fldp rfl rfl rfl rfl (by decide)) rfl rfl ?_;refine M_st1 rfl rfl rfl rfl rfl rfl rfl rfl ?_;refine L_nil (T_n ?_)
  refine A_seq (A_region ?_);refine M0 (q_fldp rfl rfl rfl rfl (by decide)) rfl rfl ?_;refine M0 (q_ld1 rfl rfl rfl rfl rfl) rfl rfl ?_
  refine M0 (q_fldp rfl rfl rfl rfl (by decide)) rfl rfl ?_;refine M_st1 rfl rfl rfl rfl rfl rfl rfl rfl ?_;refine L_nil (T_n (A_seq (A_region ?_)))
  refine M0 (q_fldp rfl rfl rfl rfl (by decide)) rfl rfl ?_;refine M0 (q_ld1 rfl rfl rfl rfl rfl) rfl rfl ?_;refine M0 (q_fldp rfl rfl rfl rfl (by decide)) rfl rfl ?_
  refine M_st1 rfl rfl rfl rfl rfl rfl rfl rfl ?_;refine L_nil (T_n (A_seq (A_region ?_)));refine M0 (q_fldp rfl rfl rfl rfl (by decide)) rfl rfl ?_
  refine M0 (q_ld1 rfl rfl rfl rfl rfl) rfl rfl ?_;refine M0 (q_fldp rfl rfl rfl rfl (by decide)) rfl rfl ?_;refine M_st1 rfl rfl rfl rfl rfl rfl rfl rfl ?_;refine L_nil (T_n ?_)
  refine A_seq (A_region ?_);refine M0 (q_fldp rfl rfl rfl rfl (by decide)) rfl rfl ?_;refine M0 (q_ld1 rfl rfl rfl rfl rfl) rfl rfl ?_
  refine M0 (q_fldp rfl rfl rfl rfl (by decide)) rfl rfl ?_;refine M_st1 rfl rfl rfl rfl rfl rfl rfl rfl ?_;refine L_nil (T_n (A_seq (A_region ?_)))
  refine M0 (q_fldp rfl rfl rfl rfl (by decide)) rfl rfl ?_;refine M0 (q_ld1 rfl rfl rfl rfl rfl) rfl rfl ?_;refine M0 (q_fldp rfl rfl rfl rfl (by decide)) rfl rfl ?_
  refine M_st1 rfl rfl rfl rfl rfl rfl rfl rfl ?_;refine L_nil (T_n (A_seq (A_region ?_)));refine M0 (q_fldp rfl rfl rfl rfl (by decide)) rfl rfl ?_
  refine M0 (q_ld1 rfl rfl rfl rfl rfl) rfl rfl ?_;refine M0 (q_fldp rfl rfl rfl rfl (by decide)) rfl rfl ?_;refine M_st1 rfl rfl rfl rfl rfl rfl rfl rfl ?_;refine L_nil (T_n ?_)
  refine A_seq (A_region ?_);refine M0 (q_fldp rfl rfl rfl rfl (by decide)) rfl rfl ?_;refine M0 (q_ld1 rfl rfl rfl rfl rfl) rfl rfl ?_
  refine M0 (q_fldp rfl rfl rfl rfl (by decide)) rfl rfl ?_;refine M_st1 rfl rfl rfl rfl rfl rfl rfl rfl ?_;refine L_nil (T_n (A_seq (A_region ?_)))
  refine M0 (q_fldp rfl rfl rfl rfl (by decide)) rfl rfl ?_;refine M0 (q_ld1 rfl rfl rfl rfl rfl) rfl rfl ?_;refine M0 (q_fldp rfl rfl rfl rfl (by decide)) rfl rfl ?_
  refine M_st1 rfl rfl rfl rfl rfl rfl rfl rfl ?_;refine L_nil (T_n (A_seq (A_region ?_)));refine M0 (q_ldN rfl rfl rfl rfl rfl rfl) rfl rfl ?_
  refine M_stN rfl rfl rfl rfl rfl rfl rfl rfl rfl ?_;refine L_nil (T_n (A_ret (F_r ?_)))
  exact E_cell rfl rfl rfl rfl (W_end [] (by decide) rfl rfl rfl)
set_option maxHeartbeats 2000000 in
theorem eq_Body (x y : TBody) (hg : Enc.gd x) : Con Tryz.prog 126 [] [ag x,ag y] [] (B (decide (x = y))) := by
  obtain ⟨g_Kind,g_Owner,g_X,g_Y,g_VX,g_VY,g_Aim,g_Life,g_Timer⟩ := hg
  by_cases e_Kind : ¬ x.Kind = y.Kind
  · have hk : decide (x.Kind ≠ y.Kind) = true := by simp [e_Kind]
    refine Con.of Tryz.func126 rfl Tryz.ntmps126 rfl (fun E => ?_)
    refine A_seq (A_region ?_);refine M1 (q_boxN rfl rfl rfl rfl) rfl rfl ?_;refine M1 (q_boxN rfl rfl rfl rfl) rfl rfl ?_;refine M0 (q_assignC rfl rfl rfl) rfl rfl ?_
    refine L_nil (T_n (A_seq (A_seq (A_region ?_))));refine M0 (q_fldp rfl rfl rfl rfl (by decide)) rfl rfl ?_
    refine M0 (q_ld1 rfl rfl rfl rfl rfl) rfl rfl ?_;refine M0 (q_fldp rfl rfl rfl rfl (by decide)) rfl rfl ?_;refine M0 (q_ld1 rfl rfl rfl rfl rfl) rfl rfl ?_
    refine M0 (q_neqK rfl rfl rfl rfl (by assumption)) rfl rfl ?_;refine L_nil (T_n ?_);refine A_ifT rfl ?_;refine A_seq (A_region ?_)
    refine M0 (q_assignC rfl rfl rfl) rfl rfl ?_;refine L_nil (T_n (A_ret (T_r (F_r ?_))))
    exact E_tmp rfl rfl (W_end [] (by decide) rfl rfl (B_eq (decide_eq_false fun e => e_Kind (by rw [e])).symm))
  have e_Kind := Classical.not_not.1 e_Kind
  have k_Kind : decide (x.Kind ≠ y.Kind) = false := by simp [e_Kind]
  by_cases e_Owner : ¬ x.Owner = y.Owner
  · have hk : decide (x.Owner ≠ y.Owner) = true := by simp [e_Owner]
    refine Con.of Tryz.func126 rfl Tryz.ntmps126 rfl (fun E => ?_)
    refine A_seq (A_region ?_);refine M1 (q_boxN rfl rfl rfl rfl) rfl rfl ?_;refine M1 (q_boxN rfl rfl rfl rfl) rfl rfl ?_;refine M0 (q_assignC rfl rfl rfl) rfl rfl ?_
    refine L_nil (T_n (A_seq (A_seq (A_region ?_))));refine M0 (q_fldp rfl rfl rfl rfl (by decide)) rfl rfl ?_
    refine M0 (q_ld1 rfl rfl rfl rfl rfl) rfl rfl ?_;refine M0 (q_fldp rfl rfl rfl rfl (by decide)) rfl rfl ?_;refine M0 (q_ld1 rfl rfl rfl rfl rfl) rfl rfl ?_
    refine M0 (q_neqK rfl rfl rfl rfl (by assumption)) rfl rfl ?_;refine L_nil (T_n ?_);refine A_ifF rfl ?_;refine A_skip (T_n (A_seq (A_seq ?_)))
    refine A_region ?_;refine M0 (q_fldp rfl rfl rfl rfl (by decide)) rfl rfl ?_;refine M0 (q_ld1 rfl rfl rfl rfl rfl) rfl rfl ?_;refine M0 (q_fldp rfl rfl rfl rfl (by decide)) rfl rfl ?_
    refine M0 (q_ld1 rfl rfl rfl rfl rfl) rfl rfl ?_;refine M0 (q_neqK rfl rfl rfl rfl (by assumption)) rfl rfl ?_;refine L_nil (T_n ?_);refine A_ifT rfl ?_;refine A_seq ?_
    refine A_region ?_;refine M0 (q_assignC rfl rfl rfl) rfl rfl ?_;refine L_nil (T_n (A_ret (T_r (F_r ?_))))
    exact E_tmp rfl rfl (W_end [] (by decide) rfl rfl (B_eq (decide_eq_false fun e => e_Owner (by rw [e])).symm))
  have e_Owner := Classical.not_not.1 e_Owner
  have k_Owner : decide (x.Owner ≠ y.Owner) = false := by simp [e_Owner]
  by_cases e_X : ¬ x.X = y.X
  · have hk : decide (x.X ≠ y.X) = true := by simp [e_X]
    refine Con.of Tryz.func126 rfl Tryz.ntmps126 rfl (fun E => ?_)
    refine A_seq (A_region ?_);refine M1 (q_boxN rfl rfl rfl rfl) rfl rfl ?_;refine M1 (q_boxN rfl rfl rfl rfl) rfl rfl ?_;refine M0 (q_assignC rfl rfl rfl) rfl rfl ?_
    refine L_nil (T_n (A_seq (A_seq (A_region ?_))));refine M0 (q_fldp rfl rfl rfl rfl (by decide)) rfl rfl ?_
    refine M0 (q_ld1 rfl rfl rfl rfl rfl) rfl rfl ?_;refine M0 (q_fldp rfl rfl rfl rfl (by decide)) rfl rfl ?_;refine M0 (q_ld1 rfl rfl rfl rfl rfl) rfl rfl ?_
    refine M0 (q_neqK rfl rfl rfl rfl (by assumption)) rfl rfl ?_;refine L_nil (T_n ?_);refine A_ifF rfl ?_;refine A_skip (T_n (A_seq (A_seq ?_)))
    refine A_region ?_;refine M0 (q_fldp rfl rfl rfl rfl (by decide)) rfl rfl ?_;refine M0 (q_ld1 rfl rfl rfl rfl rfl) rfl rfl ?_;refine M0 (q_fldp rfl rfl rfl rfl (by decide)) rfl rfl ?_
    refine M0 (q_ld1 rfl rfl rfl rfl rfl) rfl rfl ?_;refine M0 (q_neqK rfl rfl rfl rfl (by assumption)) rfl rfl ?_;refine L_nil (T_n ?_);refine A_ifF rfl ?_;refine A_skip ?_
    refine T_n (A_seq (A_seq (A_region ?_)));refine M0 (q_fldp rfl rfl rfl rfl (by decide)) rfl rfl ?_;refine M0 (q_ld1 rfl rfl rfl rfl rfl) rfl rfl ?_
    refine M0 (q_fldp rfl rfl rfl rfl (by decide)) rfl rfl ?_;refine M0 (q_ld1 rfl rfl rfl rfl rfl) rfl rfl ?_;refine M0 (q_neqK rfl rfl rfl rfl (by assumption)) rfl rfl ?_
    refine L_nil (T_n ?_);refine A_ifT rfl ?_;refine A_seq (A_region ?_);refine M0 (q_assignC rfl rfl rfl) rfl rfl ?_;refine L_nil (T_n (A_ret (T_r ?_)))
    refine F_r ?_
    exact E_tmp rfl rfl (W_end [] (by decide) rfl rfl (B_eq (decide_eq_false fun e => e_X (by rw [e])).symm))
  have e_X := Classical.not_not.1 e_X
  have k_X : decide (x.X ≠ y.X) = false := by simp [e_X]
  by_cases e_Y : ¬ x.Y = y.Y
  · have hk : decide (x.Y ≠ y.Y) = true := by simp [e_Y]
    refine Con.of Tryz.func126 rfl Tryz.ntmps126 rfl (fun E => ?_)
    refine A_seq (A_region ?_);refine M1 (q_boxN rfl rfl rfl rfl) rfl rfl ?_;refine M1 (q_boxN rfl rfl rfl rfl) rfl rfl ?_;refine M0 (q_assignC rfl rfl rfl) rfl rfl ?_
    refine L_nil (T_n (A_seq (A_seq (A_region ?_))));refine M0 (q_fldp rfl rfl rfl rfl (by decide)) rfl rfl ?_
    refine M0 (q_ld1 rfl rfl rfl rfl rfl) rfl rfl ?_;refine M0 (q_fldp rfl rfl rfl rfl (by decide)) rfl rfl ?_;refine M0 (q_ld1 rfl rfl rfl rfl rfl) rfl rfl ?_
    refine M0 (q_neqK rfl rfl rfl rfl (by assumption)) rfl rfl ?_;refine L_nil (T_n ?_);refine A_ifF rfl ?_;refine A_skip (T_n (A_seq (A_seq ?_)))
    refine A_region ?_;refine M0 (q_fldp rfl rfl rfl rfl (by decide)) rfl rfl ?_;refine M0 (q_ld1 rfl rfl rfl rfl rfl) rfl rfl ?_;refine M0 (q_fldp rfl rfl rfl rfl (by decide)) rfl rfl ?_
    refine M0 (q_ld1 rfl rfl rfl rfl rfl) rfl rfl ?_;refine M0 (q_neqK rfl rfl rfl rfl (by assumption)) rfl rfl ?_;refine L_nil (T_n ?_);refine A_ifF rfl ?_;refine A_skip ?_
    refine T_n (A_seq (A_seq (A_region ?_)));refine M0 (q_fldp rfl rfl rfl rfl (by decide)) rfl rfl ?_;refine M0 (q_ld1 rfl rfl rfl rfl rfl) rfl rfl ?_
    refine M0 (q_fldp rfl rfl rfl rfl (by decide)) rfl rfl ?_;refine M0 (q_ld1 rfl rfl rfl rfl rfl) rfl rfl ?_;refine M0 (q_neqK rfl rfl rfl rfl (by assumption)) rfl rfl ?_
    refine L_nil (T_n ?_);refine A_ifF rfl ?_;refine A_skip (T_n (A_seq (A_seq (A_region ?_))))
    refine M0 (q_fldp rfl rfl rfl rfl (by decide)) rfl rfl ?_;refine M0 (q_ld1 rfl rfl rfl rfl rfl) rfl rfl ?_;refine M0 (q_fldp rfl rfl rfl rfl (by decide)) rfl rfl ?_
    refine M0 (q_ld1 rfl rfl rfl rfl rfl) rfl rfl ?_;refine M0 (q_neqK rfl rfl rfl rfl (by assumption)) rfl rfl ?_;refine L_nil (T_n ?_);refine A_ifT rfl ?_;refine A_seq ?_
    refine A_region ?_;refine M0 (q_assignC rfl rfl rfl) rfl rfl ?_;refine L_nil (T_n (A_ret (T_r (F_r ?_))))
    exact E_tmp rfl rfl (W_end [] (by decide) rfl rfl (B_eq (decide_eq_false fun e => e_Y (by rw [e])).symm))
  have e_Y := Classical.not_not.1 e_Y
  have k_Y : decide (x.Y ≠ y.Y) = false := by simp [e_Y]
  by_cases e_VX : ¬ x.VX = y.VX
  · have hk : decide (x.VX ≠ y.VX) = true := by simp [e_VX]
    refine Con.of Tryz.func126 rfl Tryz.ntmps126 rfl (fun E => ?_)
    refine A_seq (A_region ?_);refine M1 (q_boxN rfl rfl rfl rfl) rfl rfl ?_;refine M1 (q_boxN rfl rfl rfl rfl) rfl rfl ?_;refine M0 (q_assignC rfl rfl rfl) rfl rfl ?_
    refine L_nil (T_n (A_seq (A_seq (A_region ?_))));refine M0 (q_fldp rfl rfl rfl rfl (by decide)) rfl rfl ?_
    refine M0 (q_ld1 rfl rfl rfl rfl rfl) rfl rfl ?_;refine M0 (q_fldp rfl rfl rfl rfl (by decide)) rfl rfl ?_;refine M0 (q_ld1 rfl rfl rfl rfl rfl) rfl rfl ?_
    refine M0 (q_neqK rfl rfl rfl rfl (by assumption)) rfl rfl ?_;refine L_nil (T_n ?_);refine A_ifF rfl ?_;refine A_skip (T_n (A_seq (A_seq ?_)))
    refine A_region ?_;refine M0 (q_fldp rfl rfl rfl rfl (by decide)) rfl rfl ?_;refine M0 (q_ld1 rfl rfl rfl rfl rfl) rfl rfl ?_;refine M0 (q_fldp rfl rfl rfl rfl (by decide)) rfl rfl ?_
    refine M0 (q_ld1 rfl rfl rfl rfl rfl) rfl rfl ?_;refine M0 (q_neqK rfl rfl rfl rfl (by assumption)) rfl rfl ?_;refine L_nil (T_n ?_);refine A_ifF rfl ?_;refine A_skip ?_
    refine T_n (A_seq (A_seq (A_region ?_)));refine M0 (q_fldp rfl rfl rfl rfl (by decide)) rfl rfl ?_;refine M0 (q_ld1 rfl rfl rfl rfl rfl) rfl rfl ?_
    refine M0 (q_fldp rfl rfl rfl rfl (by decide)) rfl rfl ?_;refine M0 (q_ld1 rfl rfl rfl rfl rfl) rfl rfl ?_;refine M0 (q_neqK rfl rfl rfl rfl (by assumption)) rfl rfl ?_
    refine L_nil (T_n ?_);refine A_ifF rfl ?_;refine A_skip (T_n (A_seq (A_seq (A_region ?_))))
    refine M0 (q_fldp rfl rfl rfl rfl (by decide)) rfl rfl ?_;refine M0 (q_ld1 rfl rfl rfl rfl rfl) rfl rfl ?_;refine M0 (q_fldp rfl rfl rfl rfl (by decide)) rfl rfl ?_
    refine M0 (q_ld1 rfl rfl rfl rfl rfl) rfl rfl ?_;refine M0 (q_neqK rfl rfl rfl rfl (by assumption)) rfl rfl ?_;refine L_nil (T_n ?_);refine A_ifF rfl ?_;refine A_skip ?_
    refine T_n (A_seq (A_seq (A_region ?_)));refine M0 (q_fldp rfl rfl rfl rfl (by decide)) rfl rfl ?_;refine M0 (q_ld1 rfl rfl rfl rfl rfl) rfl rfl ?_
    refine M0 (q_fldp rfl rfl rfl rfl (by decide)) rfl rfl ?_;refine M0 (q_ld1 rfl rfl rfl rfl rfl) rfl rfl ?_;refine M0 (q_neqK rfl rfl rfl rfl (by assumption)) rfl rfl ?_
    refine L_nil (T_n ?_);refine A_ifT rfl ?_;refine A_seq (A_region ?_);refine M0 (q_assignC rfl rfl rfl) rfl rfl ?_;refine L_nil (T_n (A_ret (T_r ?_)))
    refine F_r ?_
    exact E_tmp rfl rfl (W_end [] (by decide) rfl rfl (B_eq (decide_eq_false fun e => e_VX (by rw [e])).symm))
  have e_VX := Classical.not_not.1 e_VX
  have k_VX : decide (x.VX ≠ y.VX) = false := by simp [e_VX]
  by_cases e_VY : ¬ x.VY = y.VY
  · have hk : decide (x.VY ≠ y.VY) = true := by simp [e_VY]
    refine Con.of Tryz.func126 rfl Tryz.ntmps126 rfl (fun E => ?_)
    refine A_seq (A_region ?_);refine M1 (q_boxN rfl rfl rfl rfl) rfl rfl ?_;refine M1 (q_boxN rfl rfl rfl rfl) rfl rfl ?_;refine M0 (q_assignC rfl rfl rfl) rfl rfl ?_
    refine L_nil (T_n (A_seq (A_seq (A_region ?_))));refine M0 (q_fldp rfl rfl rfl rfl (by decide)) rfl rfl ?_
    refine M0 (q_ld1 rfl rfl rfl rfl rfl) rfl rfl ?_;refine M0 (q_fldp rfl rfl rfl rfl (by decide)) rfl rfl ?_;refine M0 (q_ld1 rfl rfl rfl rfl rfl) rfl rfl ?_
    refine M0 (q_neqK rfl rfl rfl rfl (by assumption)) rfl rfl ?_;refine L_nil (T_n ?_);refine A_ifF rfl ?_;refine A_skip (T_n (A_seq (A_seq ?_)))
    refine A_region ?_;refine M0 (q_fldp rfl rfl rfl rfl (by decide)) rfl rfl ?_;refine M0 (q_ld1 rfl rfl rfl rfl rfl) rfl rfl ?_;refine M0 (q_fldp rfl rfl rfl rfl (by decide)) rfl rfl ?_
    refine M0 (q_ld1 rfl rfl rfl rfl rfl) rfl rfl ?_;refine M0 (q_neqK rfl rfl rfl rfl (by assumption)) rfl rfl ?_;refine L_nil (T_n ?_);refine A_ifF rfl ?_;refine A_skip ?_
    refine T_n (A_seq (A_seq (A_region ?_)));refine M0 (q_fldp rfl rfl rfl rfl (by decide)) rfl rfl ?_;refine M0 (q_ld1 rfl rfl rfl rfl rfl) rfl rfl ?_
    refine M0 (q_fldp rfl rfl rfl rfl (by decide)) rfl rfl ?_;refine M0 (q_ld1 rfl rfl rfl rfl rfl) rfl rfl ?_;refine M0 (q_neqK rfl rfl rfl rfl (by assumption)) rfl rfl ?_
    refine L_nil (T_n ?_);refine A_ifF rfl ?_;refine A_skip (T_n (A_seq (A_seq (A_region ?_))))
    refine M0 (q_fldp rfl rfl rfl rfl (by decide)) rfl rfl ?_;refine M0 (q_ld1 rfl rfl rfl rfl rfl) rfl rfl ?_;refine M0 (q_fldp rfl rfl rfl rfl (by decide)) rfl rfl ?_
    refine M0 (q_ld1 rfl rfl rfl rfl rfl) rfl rfl ?_;refine M0 (q_neqK rfl rfl rfl rfl (by assumption)) rfl rfl ?_;refine L_nil (T_n ?_);refine A_ifF rfl ?_;refine A_skip ?_
    refine T_n (A_seq (A_seq (A_region ?_)));refine M0 (q_fldp rfl rfl rfl rfl (by decide)) rfl rfl ?_;refine M0 (q_ld1 rfl rfl rfl rfl rfl) rfl rfl ?_
    refine M0 (q_fldp rfl rfl rfl rfl (by decide)) rfl rfl ?_;refine M0 (q_ld1 rfl rfl rfl rfl rfl) rfl rfl ?_;refine M0 (q_neqK rfl rfl rfl rfl (by assumption)) rfl rfl ?_
    refine L_nil (T_n ?_);refine A_ifF rfl ?_;refine A_skip (T_n (A_seq (A_seq (A_region ?_))))
    refine M0 (q_fldp rfl rfl rfl rfl (by decide)) rfl rfl ?_;refine M0 (q_ld1 rfl rfl rfl rfl rfl) rfl rfl ?_;refine M0 (q_fldp rfl rfl rfl rfl (by decide)) rfl rfl ?_
    refine M0 (q_ld1 rfl rfl rfl rfl rfl) rfl rfl ?_;refine M0 (q_neqK rfl rfl rfl rfl (by assumption)) rfl rfl ?_;refine L_nil (T_n ?_);refine A_ifT rfl ?_;refine A_seq ?_
    refine A_region ?_;refine M0 (q_assignC rfl rfl rfl) rfl rfl ?_;refine L_nil (T_n (A_ret (T_r (F_r ?_))))
    exact E_tmp rfl rfl (W_end [] (by decide) rfl rfl (B_eq (decide_eq_false fun e => e_VY (by rw [e])).symm))
  have e_VY := Classical.not_not.1 e_VY
  have k_VY : decide (x.VY ≠ y.VY) = false := by simp [e_VY]
  by_cases e_Aim : ¬ x.Aim = y.Aim
  · have hk : decide (x.Aim ≠ y.Aim) = true := by simp [e_Aim]
    refine Con.of Tryz.func126 rfl Tryz.ntmps126 rfl (fun E => ?_)
    refine A_seq (A_region ?_);refine M1 (q_boxN rfl rfl rfl rfl) rfl rfl ?_;refine M1 (q_boxN rfl rfl rfl rfl) rfl rfl ?_;refine M0 (q_assignC rfl rfl rfl) rfl rfl ?_
    refine L_nil (T_n (A_seq (A_seq (A_region ?_))));refine M0 (q_fldp rfl rfl rfl rfl (by decide)) rfl rfl ?_
    refine M0 (q_ld1 rfl rfl rfl rfl rfl) rfl rfl ?_;refine M0 (q_fldp rfl rfl rfl rfl (by decide)) rfl rfl ?_;refine M0 (q_ld1 rfl rfl rfl rfl rfl) rfl rfl ?_
    refine M0 (q_neqK rfl rfl rfl rfl (by assumption)) rfl rfl ?_;refine L_nil (T_n ?_);refine A_ifF rfl ?_;refine A_skip (T_n (A_seq (A_seq ?_)))
    refine A_region ?_;refine M0 (q_fldp rfl rfl rfl rfl (by decide)) rfl rfl ?_;refine M0 (q_ld1 rfl rfl rfl rfl rfl) rfl rfl ?_;refine M0 (q_fldp rfl rfl rfl rfl (by decide)) rfl rfl ?_
    refine M0 (q_ld1 rfl rfl rfl rfl rfl) rfl rfl ?_;refine M0 (q_neqK rfl rfl rfl rfl (by assumption)) rfl rfl ?_;refine L_nil (T_n ?_);refine A_ifF rfl ?_;refine A_skip ?_
    refine T_n (A_seq (A_seq (A_region ?_)));refine M0 (q_fldp rfl rfl rfl rfl (by decide)) rfl rfl ?_;refine M0 (q_ld1 rfl rfl rfl rfl rfl) rfl rfl ?_
    refine M0 (q_fldp rfl rfl rfl rfl (by decide)) rfl rfl ?_;refine M0 (q_ld1 rfl rfl rfl rfl rfl) rfl rfl ?_;refine M0 (q_neqK rfl rfl rfl rfl (by assumption)) rfl rfl ?_
    refine L_nil (T_n ?_);refine A_ifF rfl ?_;refine A_skip (T_n (A_seq (A_seq (A_region ?_))))
    refine M0 (q_fldp rfl rfl rfl rfl (by decide)) rfl rfl ?_;refine M0 (q_ld1 rfl rfl rfl rfl rfl) rfl rfl ?_;refine M0 (q_fldp rfl rfl rfl rfl (by decide)) rfl rfl ?_
    refine M0 (q_ld1 rfl rfl rfl rfl rfl) rfl rfl ?_;refine M0 (q_neqK rfl rfl rfl rfl (by assumption)) rfl rfl ?_;refine L_nil (T_n ?_);refine A_ifF rfl ?_;refine A_skip ?_
    refine T_n (A_seq (A_seq (A_region ?_)));refine M0 (q_fldp rfl rfl rfl rfl (by decide)) rfl rfl ?_;refine M0 (q_ld1 rfl rfl rfl rfl rfl) rfl rfl ?_
    refine M0 (q_fldp rfl rfl rfl rfl (by decide)) rfl rfl ?_;refine M0 (q_ld1 rfl rfl rfl rfl rfl) rfl rfl ?_;refine M0 (q_neqK rfl rfl rfl rfl (by assumption)) rfl rfl ?_
    refine L_nil (T_n ?_);refine A_ifF rfl ?_;refine A_skip (T_n (A_seq (A_seq (A_region ?_))))
    refine M0 (q_fldp rfl rfl rfl rfl (by decide)) rfl rfl ?_;refine M0 (q_ld1 rfl rfl rfl rfl rfl) rfl rfl ?_;refine M0 (q_fldp rfl rfl rfl rfl (by decide)) rfl rfl ?_
    refine M0 (q_ld1 rfl rfl rfl rfl rfl) rfl rfl ?_;refine M0 (q_neqK rfl rfl rfl rfl (by assumption)) rfl rfl ?_;refine L_nil (T_n ?_);refine A_ifF rfl ?_;refine A_skip ?_
    refine T_n (A_seq (A_seq (A_region ?_)));refine M0 (q_fldp rfl rfl rfl rfl (by decide)) rfl rfl ?_;refine M0 (q_ld1 rfl rfl rfl rfl rfl) rfl rfl ?_
    refine M0 (q_fldp rfl rfl rfl rfl (by decide)) rfl rfl ?_;refine M0 (q_ld1 rfl rfl rfl rfl rfl) rfl rfl ?_;refine M0 (q_neqK rfl rfl rfl rfl (by assumption)) rfl rfl ?_
    refine L_nil (T_n ?_);refine A_ifT rfl ?_;refine A_seq (A_region ?_);refine M0 (q_assignC rfl rfl rfl) rfl rfl ?_;refine L_nil (T_n (A_ret (T_r ?_)))
    refine F_r ?_
    exact E_tmp rfl rfl (W_end [] (by decide) rfl rfl (B_eq (decide_eq_false fun e => e_Aim (by rw [e])).symm))
  have e_Aim := Classical.not_not.1 e_Aim
  have k_Aim : decide (x.Aim ≠ y.Aim) = false := by simp [e_Aim]
  by_cases e_Life : ¬ x.Life = y.Life
  · have hk : decide (x.Life ≠ y.Life) = true := by simp [e_Life]
    refine Con.of Tryz.func126 rfl Tryz.ntmps126 rfl (fun E => ?_)
    refine A_seq (A_region ?_);refine M1 (q_boxN rfl rfl rfl rfl) rfl rfl ?_;refine M1 (q_boxN rfl rfl rfl rfl) rfl rfl ?_;refine M0 (q_assignC rfl rfl rfl) rfl rfl ?_
    refine L_nil (T_n (A_seq (A_seq (A_region ?_))));refine M0 (q_fldp rfl rfl rfl rfl (by decide)) rfl rfl ?_
    refine M0 (q_ld1 rfl rfl rfl rfl rfl) rfl rfl ?_;refine M0 (q_fldp rfl rfl rfl rfl (by decide)) rfl rfl ?_;refine M0 (q_ld1 rfl rfl rfl rfl rfl) rfl rfl ?_
    refine M0 (q_neqK rfl rfl rfl rfl (by assumption)) rfl rfl ?_;refine L_nil (T_n ?_);refine A_ifF rfl ?_;refine A_skip (T_n (A_seq (A_seq ?_)))
    refine A_region ?_;refine M0 (q_fldp rfl rfl rfl rfl (by decide)) rfl rfl ?_;refine M0 (q_ld1 rfl rfl rfl rfl rfl) rfl rfl ?_;refine M0 (q_fldp rfl rfl rfl rfl (by decide)) rfl rfl ?_
    refine M0 (q_ld1 rfl rfl rfl rfl rfl) rfl rfl ?_;refine M0 (q_neqK rfl rfl rfl rfl (by assumption)) rfl rfl ?_;refine L_nil (T_n ?_);refine A_ifF rfl ?_;refine A_skip ?_
    refine T_n (A_seq (A_seq (A_region ?_)));refine M0 (q_fldp rfl rfl rfl rfl (by decide)) rfl rfl ?_;refine M0 (q_ld1 rfl rfl rfl rfl rfl) rfl rfl ?_
    refine M0 (q_fldp rfl rfl rfl rfl (by decide)) rfl rfl ?_;refine M0 (q_ld1 rfl rfl rfl rfl rfl) rfl rfl ?_;refine M0 (q_neqK rfl rfl rfl rfl (by assumption)) rfl rfl ?_
    refine L_nil (T_n ?_);refine A_ifF rfl ?_;refine A_skip (T_n (A_seq (A_seq (A_region ?_))))
    refine M0 (q_fldp rfl rfl rfl rfl (by decide)) rfl rfl ?_;refine M0 (q_ld1 rfl rfl rfl rfl rfl) rfl rfl ?_;refine M0 (q_fldp rfl rfl rfl rfl (by decide)) rfl rfl ?_
    refine M0 (q_ld1 rfl rfl rfl rfl rfl) rfl rfl ?_;refine M0 (q_neqK rfl rfl rfl rfl (by assumption)) rfl rfl ?_;refine L_nil (T_n ?_);refine A_ifF rfl ?_;refine A_skip ?_
    refine T_n (A_seq (A_seq (A_region ?_)));refine M0 (q_fldp rfl rfl rfl rfl (by decide)) rfl rfl ?_;refine M0 (q_ld1 rfl rfl rfl rfl rfl) rfl rfl ?_
    refine M0 (q_fldp rfl rfl rfl rfl (by decide)) rfl rfl ?_;refine M0 (q_ld1 rfl rfl rfl rfl rfl) rfl rfl ?_;refine M0 (q_neqK rfl rfl rfl rfl (by assumption)) rfl rfl ?_
    refine L_nil (T_n ?_);refine A_ifF rfl ?_;refine A_skip (T_n (A_seq (A_seq (A_region ?_))))
    refine M0 (q_fldp rfl rfl rfl rfl (by decide)) rfl rfl ?_;refine M0 (q_ld1 rfl rfl rfl rfl rfl) rfl rfl ?_;refine M0 (q_fldp rfl rfl rfl rfl (by decide)) rfl rfl ?_
    refine M0 (q_ld1 rfl rfl rfl rfl rfl) rfl rfl ?_;refine M0 (q_neqK rfl rfl rfl rfl (by assumption)) rfl rfl ?_;refine L_nil (T_n ?_);refine A_ifF rfl ?_;refine A_skip ?_
    refine T_n (A_seq (A_seq (A_region ?_)));refine M0 (q_fldp rfl rfl rfl rfl (by decide)) rfl rfl ?_;refine M0 (q_ld1 rfl rfl rfl rfl rfl) rfl rfl ?_
    refine M0 (q_fldp rfl rfl rfl rfl (by decide)) rfl rfl ?_;refine M0 (q_ld1 rfl rfl rfl rfl rfl) rfl rfl ?_;refine M0 (q_neqK rfl rfl rfl rfl (by assumption)) rfl rfl ?_
    refine L_nil (T_n ?_);refine A_ifF rfl ?_;refine A_skip (T_n (A_seq (A_seq (A_region ?_))))
    refine M0 (q_fldp rfl rfl rfl rfl (by decide)) rfl rfl ?_;refine M0 (q_ld1 rfl rfl rfl rfl rfl) rfl rfl ?_;refine M0 (q_fldp rfl rfl rfl rfl (by decide)) rfl rfl ?_
    refine M0 (q_ld1 rfl rfl rfl rfl rfl) rfl rfl ?_;refine M0 (q_neqK rfl rfl rfl rfl (by assumption)) rfl rfl ?_;refine L_nil (T_n ?_);refine A_ifT rfl ?_;refine A_seq ?_
    refine A_region ?_;refine M0 (q_assignC rfl rfl rfl) rfl rfl ?_;refine L_nil (T_n (A_ret (T_r (F_r ?_))))
    exact E_tmp rfl rfl (W_end [] (by decide) rfl rfl (B_eq (decide_eq_false fun e => e_Life (by rw [e])).symm))
  have e_Life := Classical.not_not.1 e_Life
  have k_Life : decide (x.Life ≠ y.Life) = false := by simp [e_Life]
  by_cases e_Timer : ¬ x.Timer = y.Timer
  · have hk : decide (x.Timer ≠ y.Timer) = true := by simp [e_Timer]
    refine Con.of Tryz.func126 rfl Tryz.ntmps126 rfl (fun E => ?_)
    refine A_seq (A_region ?_);refine M1 (q_boxN rfl rfl rfl rfl) rfl rfl ?_;refine M1 (q_boxN rfl rfl rfl rfl) rfl rfl ?_;refine M0 (q_assignC rfl rfl rfl) rfl rfl ?_
    refine L_nil (T_n (A_seq (A_seq (A_region ?_))));refine M0 (q_fldp rfl rfl rfl rfl (by decide)) rfl rfl ?_
    refine M0 (q_ld1 rfl rfl rfl rfl rfl) rfl rfl ?_;refine M0 (q_fldp rfl rfl rfl rfl (by decide)) rfl rfl ?_;refine M0 (q_ld1 rfl rfl rfl rfl rfl) rfl rfl ?_
    refine M0 (q_neqK rfl rfl rfl rfl (by assumption)) rfl rfl ?_;refine L_nil (T_n ?_);refine A_ifF rfl ?_;refine A_skip (T_n (A_seq (A_seq ?_)))
    refine A_region ?_;refine M0 (q_fldp rfl rfl rfl rfl (by decide)) rfl rfl ?_;refine M0 (q_ld1 rfl rfl rfl rfl rfl) rfl rfl ?_;refine M0 (q_fldp rfl rfl rfl rfl (by decide)) rfl rfl ?_
    refine M0 (q_ld1 rfl rfl rfl rfl rfl) rfl rfl ?_;refine M0 (q_neqK rfl rfl rfl rfl (by assumption)) rfl rfl ?_;refine L_nil (T_n ?_);refine A_ifF rfl ?_;refine A_skip ?_
    refine T_n (A_seq (A_seq (A_region ?_)));refine M0 (q_fldp rfl rfl rfl rfl (by decide)) rfl rfl ?_;refine M0 (q_ld1 rfl rfl rfl rfl rfl) rfl rfl ?_
    refine M0 (q_fldp rfl rfl rfl rfl (by decide)) rfl rfl ?_;refine M0 (q_ld1 rfl rfl rfl rfl rfl) rfl rfl ?_;refine M0 (q_neqK rfl rfl rfl rfl (by assumption)) rfl rfl ?_
    refine L_nil (T_n ?_);refine A_ifF rfl ?_;refine A_skip (T_n (A_seq (A_seq (A_region ?_))))
    refine M0 (q_fldp rfl rfl rfl rfl (by decide)) rfl rfl ?_;refine M0 (q_ld1 rfl rfl rfl rfl rfl) rfl rfl ?_;refine M0 (q_fldp rfl rfl rfl rfl (by decide)) rfl rfl ?_
    refine M0 (q_ld1 rfl rfl rfl rfl rfl) rfl rfl ?_;refine M0 (q_neqK rfl rfl rfl rfl (by assumption)) rfl rfl ?_;refine L_nil (T_n ?_);refine A_ifF rfl ?_;refine A_skip ?_
    refine T_n (A_seq (A_seq (A_region ?_)));refine M0 (q_fldp rfl rfl rfl rfl (by decide)) rfl rfl ?_;refine M0 (q_ld1 rfl rfl rfl rfl rfl) rfl rfl ?_
    refine M0 (q_fldp rfl rfl rfl rfl (by decide)) rfl rfl ?_;refine M0 (q_ld1 rfl rfl rfl rfl rfl) rfl rfl ?_;refine M0 (q_neqK rfl rfl rfl rfl (by assumption)) rfl rfl ?_
    refine L_nil (T_n ?_);refine A_ifF rfl ?_;refine A_skip (T_n (A_seq (A_seq (A_region ?_))))
    refine M0 (q_fldp rfl rfl rfl rfl (by decide)) rfl rfl ?_;refine M0 (q_ld1 rfl rfl rfl rfl rfl) rfl rfl ?_;refine M0 (q_fldp rfl rfl rfl rfl (by decide)) rfl rfl ?_
    refine M0 (q_ld1 rfl rfl rfl rfl rfl) rfl rfl ?_;refine M0 (q_neqK rfl rfl rfl rfl (by assumption)) rfl rfl ?_;refine L_nil (T_n ?_);refine A_ifF rfl ?_;refine A_skip ?_
    refine T_n (A_seq (A_seq (A_region ?_)));refine M0 (q_fldp rfl rfl rfl rfl (by decide)) rfl rfl ?_;refine M0 (q_ld1 rfl rfl rfl rfl rfl) rfl rfl ?_
    refine M0 (q_fldp rfl rfl rfl rfl (by decide)) rfl rfl ?_;refine M0 (q_ld1 rfl rfl rfl rfl rfl) rfl rfl ?_;refine M0 (q_neqK rfl rfl rfl rfl (by assumption)) rfl rfl ?_
    refine L_nil (T_n ?_);refine A_ifF rfl ?_;refine A_skip (T_n (A_seq (A_seq (A_region ?_))))
    refine M0 (q_fldp rfl rfl rfl rfl (by decide)) rfl rfl ?_;refine M0 (q_ld1 rfl rfl rfl rfl rfl) rfl rfl ?_;refine M0 (q_fldp rfl rfl rfl rfl (by decide)) rfl rfl ?_
    refine M0 (q_ld1 rfl rfl rfl rfl rfl) rfl rfl ?_;refine M0 (q_neqK rfl rfl rfl rfl (by assumption)) rfl rfl ?_;refine L_nil (T_n ?_);refine A_ifF rfl ?_;refine A_skip ?_
    refine T_n (A_seq (A_seq (A_region ?_)));refine M0 (q_fldp rfl rfl rfl rfl (by decide)) rfl rfl ?_;refine M0 (q_ld1 rfl rfl rfl rfl rfl) rfl rfl ?_
    refine M0 (q_fldp rfl rfl rfl rfl (by decide)) rfl rfl ?_;refine M0 (q_ld1 rfl rfl rfl rfl rfl) rfl rfl ?_;refine M0 (q_neqK rfl rfl rfl rfl (by assumption)) rfl rfl ?_
    refine L_nil (T_n ?_);refine A_ifT rfl ?_;refine A_seq (A_region ?_);refine M0 (q_assignC rfl rfl rfl) rfl rfl ?_;refine L_nil (T_n (A_ret (T_r ?_)))
    refine F_r ?_
    exact E_tmp rfl rfl (W_end [] (by decide) rfl rfl (B_eq (decide_eq_false fun e => e_Timer (by rw [e])).symm))
  have e_Timer := Classical.not_not.1 e_Timer
  have k_Timer : decide (x.Timer ≠ y.Timer) = false := by simp [e_Timer]
  refine Con.of Tryz.func126 rfl Tryz.ntmps126 rfl (fun E => ?_)
  refine A_seq (A_region ?_);refine M1 (q_boxN rfl rfl rfl rfl) rfl rfl ?_;refine M1 (q_boxN rfl rfl rfl rfl) rfl rfl ?_;refine M0 (q_assignC rfl rfl rfl) rfl rfl ?_
  refine L_nil (T_n (A_seq (A_seq (A_region ?_))));refine M0 (q_fldp rfl rfl rfl rfl (by decide)) rfl rfl ?_
  refine M0 (q_ld1 rfl rfl rfl rfl rfl) rfl rfl ?_;refine M0 (q_fldp rfl rfl rfl rfl (by decide)) rfl rfl ?_;refine M0 (q_ld1 rfl rfl rfl rfl rfl) rfl rfl ?_
  refine M0 (q_neqK rfl rfl rfl rfl (by assumption)) rfl rfl ?_;refine L_nil (T_n ?_);refine A_ifF rfl ?_;refine A_skip (T_n (A_seq (A_seq ?_)))
  refine A_region ?_;refine M0 (q_fldp rfl rfl rfl rfl (by decide)) rfl rfl ?_;refine M0 (q_ld1 rfl rfl rfl rfl rfl) rfl rfl ?_;refine M0 (q_fldp rfl rfl rfl rfl (by decide)) rfl rfl ?_
  refine M0 (q_ld1 rfl rfl rfl rfl rfl) rfl rfl ?_;refine M0 (q_neqK rfl rfl rfl rfl (by assumption)) rfl rfl ?_;refine L_nil (T_n ?_);refine A_ifF rfl ?_;refine A_skip ?_
  refine T_n (A_seq (A_seq (A_region ?_)));refine M0 (q_fldp rfl rfl rfl rfl (by decide)) rfl rfl ?_;refine M0 (q_ld1 rfl rfl rfl rfl rfl) rfl rfl ?_
  refine M0 (q_fldp rfl rfl rfl rfl (by decide)) rfl rfl ?_;refine M0 (q_ld1 rfl rfl rfl rfl rfl) rfl rfl ?_;refine M0 (q_neqK rfl rfl rfl rfl (by assumption)) rfl rfl ?_
  refine L_nil (T_n ?_);refine A_ifF rfl ?_;refine A_skip (T_n (A_seq (A_seq (A_region ?_))))
  refine M0 (q_fldp rfl rfl rfl rfl (by decide)) rfl rfl ?_;refine M0 (q_ld1 rfl rfl rfl rfl rfl) rfl rfl ?_;refine M0 (q_fldp rfl rfl rfl rfl (by decide)) rfl rfl ?_
  refine M0 (q_ld1 rfl rfl rfl rfl rfl) rfl rfl ?_;refine M0 (q_neqK rfl rfl rfl rfl (by assumption)) rfl rfl ?_;refine L_nil (T_n ?_);refine A_ifF rfl ?_;refine A_skip ?_
  refine T_n (A_seq (A_seq (A_region ?_)));refine M0 (q_fldp rfl rfl rfl rfl (by decide)) rfl rfl ?_;refine M0 (q_ld1 rfl rfl rfl rfl rfl) rfl rfl ?_
  refine M0 (q_fldp rfl rfl rfl rfl (by decide)) rfl rfl ?_;refine M0 (q_ld1 rfl rfl rfl rfl rfl) rfl rfl ?_;refine M0 (q_neqK rfl rfl rfl rfl (by assumption)) rfl rfl ?_
  refine L_nil (T_n ?_);refine A_ifF rfl ?_;refine A_skip (T_n (A_seq (A_seq (A_region ?_))))
  refine M0 (q_fldp rfl rfl rfl rfl (by decide)) rfl rfl ?_;refine M0 (q_ld1 rfl rfl rfl rfl rfl) rfl rfl ?_;refine M0 (q_fldp rfl rfl rfl rfl (by decide)) rfl rfl ?_
  refine M0 (q_ld1 rfl rfl rfl rfl rfl) rfl rfl ?_;refine M0 (q_neqK rfl rfl rfl rfl (by assumption)) rfl rfl ?_;refine L_nil (T_n ?_);refine A_ifF rfl ?_;refine A_skip ?_
  refine T_n (A_seq (A_seq (A_region ?_)));refine M0 (q_fldp rfl rfl rfl rfl (by decide)) rfl rfl ?_;refine M0 (q_ld1 rfl rfl rfl rfl rfl) rfl rfl ?_
  refine M0 (q_fldp rfl rfl rfl rfl (by decide)) rfl rfl ?_;refine M0 (q_ld1 rfl rfl rfl rfl rfl) rfl rfl ?_;refine M0 (q_neqK rfl rfl rfl rfl (by assumption)) rfl rfl ?_
  refine L_nil (T_n ?_);refine A_ifF rfl ?_;refine A_skip (T_n (A_seq (A_seq (A_region ?_))))
  refine M0 (q_fldp rfl rfl rfl rfl (by decide)) rfl rfl ?_;refine M0 (q_ld1 rfl rfl rfl rfl rfl) rfl rfl ?_;refine M0 (q_fldp rfl rfl rfl rfl (by decide)) rfl rfl ?_
  refine M0 (q_ld1 rfl rfl rfl rfl rfl) rfl rfl ?_;refine M0 (q_neqK rfl rfl rfl rfl (by assumption)) rfl rfl ?_;refine L_nil (T_n ?_);refine A_ifF rfl ?_;refine A_skip ?_
  refine T_n (A_seq (A_seq (A_region ?_)));refine M0 (q_fldp rfl rfl rfl rfl (by decide)) rfl rfl ?_;refine M0 (q_ld1 rfl rfl rfl rfl rfl) rfl rfl ?_
  refine M0 (q_fldp rfl rfl rfl rfl (by decide)) rfl rfl ?_;refine M0 (q_ld1 rfl rfl rfl rfl rfl) rfl rfl ?_;refine M0 (q_neqK rfl rfl rfl rfl (by assumption)) rfl rfl ?_
  refine L_nil (T_n ?_);refine A_ifF rfl ?_;refine A_skip (T_n (A_seq (A_region ?_)));refine M0 (q_assignC rfl rfl rfl) rfl rfl ?_;refine L_nil ?_
  refine T_n (A_ret (F_r ?_))
  exact E_tmp rfl rfl (W_end [] (by decide) rfl rfl (B_eq (decide_eq_true (TBody.same e_Kind e_Owner e_X e_Y e_VX e_VY e_Aim e_Life e_Timer)).symm))
set_option maxHeartbeats 1000000 in
theorem eq_BodyS (xs ys : List TBody) (hn : Enc.gd xs) : Con Tryz.prog 121 [] [al xs,al ys] [] (B (decide (xs = ys))) := by
  have hn1 := hn.1
  have hlx := els_len xs
  have hly := els_len ys
  by_cases hl : xs.length = ys.length
  · have hb : decide (((els xs).length : Int) ≠ ((els ys).length : Int)) = false := by rw [hlx,hly,hl]; simp
    refine Con.of Tryz.func121 rfl Tryz.ntmps121 rfl (fun E => ?_)
    refine A_seq (A_region ?_);refine M0 (q_assignC rfl rfl rfl) rfl rfl ?_;refine L_nil (T_n (A_seq (A_seq (A_region ?_))))
    refine M0 (q_moveC rfl rfl rfl) rfl rfl ?_;refine M0 (q_len rfl rfl rfl) rfl rfl ?_;refine M0 (q_moveC rfl rfl rfl) rfl rfl ?_;refine M0 (q_len rfl rfl rfl) rfl rfl ?_
    refine M0 (q_neqK rfl rfl rfl rfl (by assumption)) rfl rfl ?_;refine L_nil (T_n ?_);refine A_ifF rfl ?_;refine A_skip (T_n (A_seq (A_seq ?_)))
    refine A_region ?_;refine M0 (q_assignC rfl rfl rfl) rfl rfl ?_;refine L_nil (T_n (A_block ?_))
    refine A_loop (fun m st => ∃ k : Nat,k + m = xs.length ∧ (xs.take k = ys.take k) ∧ st = (fun k : Nat => (⟨_,[(0,L xs),(1,L ys),(5,I k)],[]⟩ : St)) k) (xs.length) ⟨(fun k : Nat => (⟨_,[(0,L xs),(1,L ys),(5,I k)],[]⟩ : St)) 0,W_go [] (by decide) rfl (rfl) (.cons rfl (.cons rfl (.cons rfl (.nil)))),0,by omega,by simp,rfl⟩ ?_
    rintro m_A _ ⟨k,hk_A,hp_A,rfl⟩
    refine A_seq (A_seq (A_region ?_));refine M0 (q_moveC rfl rfl rfl) rfl rfl ?_;refine M0 (q_moveC rfl rfl rfl) rfl rfl ?_;refine M0 (q_len rfl rfl rfl) rfl rfl ?_
    refine M0 (q_lss rfl rfl rfl rfl) rfl rfl ?_;refine L_nil (T_n ?_)
    refine A_cond rfl (fun h => ?_) (fun h => ?_)
    · have h3 : k < xs.length := by have := of_decide_eq_true h; omega
      have h4 : k < ys.length := by omega
      have hat := els_at h3
      have hat2 := els_at h4
      have hc := eq_Body xs[k] ys[k] (hn.2 _ (List.getElem_mem h3))
      by_cases he : xs[k] = ys[k]
      · rw [decide_eq_true he] at hc
        refine A_skip (T_n (A_seq (A_block (A_seq ?_))))
        refine A_draw [[],[],[0,1],[0,1,2],[],[],[4,5],[4,5,6],[0,1,2,3,4,5,6,7],[0,1,2,3,4,5,6,7,8]] [[],[],[17,18],[17,18,19],[],[],[21,22],[21,22,23],[17,18,19,20,21,22,23,24],[17,18,19,20,21,22,23,24,25]] [[18,21,22,23,24],[17,21,22,23,24],[21,22,23,24],[21,22,23,24],[17,18,19,20,22],[17,18,19,20,21],[17,18,19,20],[17,18,19,20],[],[]] rfl ?_
        refine DR.step (q_moveC rfl rfl rfl) rfl rfl ?_;refine DR.step (q_moveC rfl rfl rfl) rfl rfl ?_;refine DR.step (q_at rfl rfl rfl rfl (by omega) (by assumption) rfl) rfl rfl ?_
        refine DR.step (q_lrN rfl rfl rfl rfl rfl) rfl rfl ?_;refine DR.step (q_moveC rfl rfl rfl) rfl rfl ?_;refine DR.step (q_moveC rfl rfl rfl) rfl rfl ?_
        refine DR.step (q_at rfl rfl rfl rfl (by omega) (by assumption) rfl) rfl rfl ?_;refine DR.step (q_lrN rfl rfl rfl rfl rfl) rfl rfl ?_
        refine DR.step (q_call0 rfl rfl (hc) rfl) rfl rfl ?_;refine DR.step (q_not rfl rfl rfl) rfl rfl ?_;refine DR.stop (by kernel_rfl) (by kernel_rfl) ?_
        refine L_nil (T_n ?_);refine A_ifF rfl ?_;refine A_skip (B_n (T_n (A_region ?_)));refine M0 (q_moveC rfl rfl rfl) rfl rfl ?_
        refine M0 (q_add rfl rfl rfl rfl (by omega)) rfl rfl ?_;refine M0 (q_assignC rfl rfl rfl) rfl rfl ?_;refine L_nil (T_n ?_)
        exact ⟨xs.length - (k + 1),by omega,(fun k : Nat => (⟨_,[(0,L xs),(1,L ys),(5,I k)],[]⟩ : St)) (k + 1),W_go [] (by decide) rfl (rfl) (.cons rfl (.cons rfl (.cons rfl (.nil)))),k + 1,by omega,eq_next h3 h4 hp_A he,rfl⟩
      · rw [decide_eq_false he] at hc
        refine A_skip (T_n (A_seq (A_block (A_seq ?_))))
        refine A_draw [[],[],[0,1],[0,1,2],[],[],[4,5],[4,5,6],[0,1,2,3,4,5,6,7],[0,1,2,3,4,5,6,7,8]] [[],[],[17,18],[17,18,19],[],[],[21,22],[21,22,23],[17,18,19,20,21,22,23,24],[17,18,19,20,21,22,23,24,25]] [[18,21,22,23,24],[17,21,22,23,24],[21,22,23,24],[21,22,23,24],[17,18,19,20,22],[17,18,19,20,21],[17,18,19,20],[17,18,19,20],[],[]] rfl ?_
        refine DR.step (q_moveC rfl rfl rfl) rfl rfl ?_;refine DR.step (q_moveC rfl rfl rfl) rfl rfl ?_;refine DR.step (q_at rfl rfl rfl rfl (by omega) (by assumption) rfl) rfl rfl ?_
        refine DR.step (q_lrN rfl rfl rfl rfl rfl) rfl rfl ?_;refine DR.step (q_moveC rfl rfl rfl) rfl rfl ?_;refine DR.step (q_moveC rfl rfl rfl) rfl rfl ?_
        refine DR.step (q_at rfl rfl rfl rfl (by omega) (by assumption) rfl) rfl rfl ?_;refine DR.step (q_lrN rfl rfl rfl rfl rfl) rfl rfl ?_
        refine DR.step (q_call0 rfl rfl (hc) rfl) rfl rfl ?_;refine DR.step (q_not rfl rfl rfl) rfl rfl ?_;refine DR.stop (by kernel_rfl) (by kernel_rfl) ?_
        refine L_nil (T_n ?_);refine A_ifT rfl ?_;refine A_seq (A_region ?_);refine M0 (q_assignC rfl rfl rfl) rfl rfl ?_;refine L_nil (T_n (A_ret (B_r ?_)))
        refine T_r (T_r (B_r (T_r (F_r ?_))))
        exact E_tmp rfl rfl (W_end [] (by decide) rfl rfl (B_eq (eq_ne h3 h4 he).symm))
    · have h3 : ¬ ((k : Int) < (els xs).length) := of_decide_eq_false h
      refine A_exit (T_x (T_x (B_xs (T_n (A_seq (A_region ?_))))));refine M0 (q_assignC rfl rfl rfl) rfl rfl ?_;refine L_nil (T_n ?_)
      refine A_ret (F_r ?_)
      exact E_tmp rfl rfl (W_end [] (by decide) rfl rfl (B_eq (eq_all (by omega) hl hp_A).symm))
  · have hb : decide (((els xs).length : Int) ≠ ((els ys).length : Int)) = true := by rw [hlx,hly]; simp; omega
    refine Con.of Tryz.func121 rfl Tryz.ntmps121 rfl (fun E => ?_)
    refine A_seq (A_region ?_);refine M0 (q_assignC rfl rfl rfl) rfl rfl ?_;refine L_nil (T_n (A_seq (A_seq (A_region ?_))))
    refine M0 (q_moveC rfl rfl rfl) rfl rfl ?_;refine M0 (q_len rfl rfl rfl) rfl rfl ?_;refine M0 (q_moveC rfl rfl rfl) rfl rfl ?_;refine M0 (q_len rfl rfl rfl) rfl rfl ?_
    refine M0 (q_neqK rfl rfl rfl rfl (by assumption)) rfl rfl ?_;refine L_nil (T_n ?_);refine A_ifT rfl ?_;refine A_seq (A_region ?_)
    refine M0 (q_assignC rfl rfl rfl) rfl rfl ?_;refine L_nil (T_n (A_ret (T_r (F_r ?_))))
    exact E_tmp rfl rfl (W_end [] (by decide) rfl rfl (B_eq (eq_len hl).symm))
theorem wts_body : ∀ xs : List TBody,wts xs = 0
  | [] => rfl
  | x :: xs => by simp [wts,wts_body xs,Enc.wt]
set_option maxHeartbeats 8000000 in
theorem sz_BodyS (xs : List TBody) (left : Int) (hg : Enc.gd xs) (h0 : 0 ≤ left) (h1 : left ≤ 1048576) : Con Tryz.prog 110 [] [al xs,ai left] [] (I (szr (Enc.wt xs) left)) := by
  have hlen := els_len xs
  have hx := hg.1
  have hw : Enc.wt xs = xs.length := by simp [Enc.wt,wts_body]
  refine Con.of Tryz.func110 rfl Tryz.ntmps110 rfl (fun E => ?_)
  refine A_seq (A_region ?_);refine M0 (q_assignC rfl rfl rfl) rfl rfl ?_;refine L_nil (T_n (A_seq (A_region ?_)));refine M0 (q_moveC rfl rfl rfl) rfl rfl ?_
  refine M0 (q_moveC rfl rfl rfl) rfl rfl ?_;refine M0 (q_len rfl rfl rfl) rfl rfl ?_;refine M0 (q_sub rfl rfl rfl rfl (by omega)) rfl rfl ?_
  refine M0 (q_assignC rfl rfl rfl) rfl rfl ?_;refine L_nil (T_n (A_seq (A_seq (A_region ?_))));refine M0 (q_moveC rfl rfl rfl) rfl rfl ?_
  refine M0 (q_lss rfl rfl rfl rfl) rfl rfl ?_;refine L_nil (T_n ?_)
  refine A_cond rfl (fun h => ?_) (fun h => ?_)
  · refine A_seq (A_region ?_);refine M0 (q_assignC rfl rfl rfl) rfl rfl ?_;refine L_nil (T_n (A_ret (T_r (F_r ?_))))
    have h2 := of_decide_eq_true (p := _) (by simpa using h)
    exact E_tmp rfl rfl (W_end [] (by decide) rfl rfl (I_eq (by rw [szr_neg (by omega)])))
  · refine A_skip (T_n (A_seq (A_region ?_)));refine M0 (q_moveC rfl rfl rfl) rfl rfl ?_;refine M0 (q_assignC rfl rfl rfl) rfl rfl ?_;refine L_nil (T_n ?_)
    refine A_ret (F_r ?_)
    have h2 := of_decide_eq_false h
    exact E_tmp rfl rfl (W_end [] (by decide) rfl rfl (I_eq (by rw [szr_pos (by omega)]; omega)))
def zBody : List T := [.v (.int .i64 0),.v (.int .i64 0),.v (.int .i64 0),.v (.int .i64 0),.v (.int .i64 0),.v (.int .i64 0),.v (.int .i64 0),.v (.int .i64 0),.v (.int .i64 0)]
set_option maxHeartbeats 1000000 in
theorem to_BodyS (xs : List TBody) (hg : Enc.wt xs ≤ 1048576) : Con Tryz.prog 114 [] [al xs] [.row 9 (els xs)] (.o (.c (.ref 0))) := by
  have hlen := els_len xs
  have hw : Enc.wt xs = xs.length + wts xs := rfl
  have hw2 := wts_body xs
  refine Con.of Tryz.func114 rfl Tryz.ntmps114 rfl (fun E => ?_)
  refine A_seq (A_region ?_);refine M0 (q_assignC rfl rfl rfl) rfl rfl ?_;refine L_nil (T_n (A_seq (A_region ?_)));refine M0 (q_moveC rfl rfl rfl) rfl rfl ?_
  refine M0 (q_len rfl rfl rfl) rfl rfl ?_;refine M1 (q_make 0 rfl rfl rfl rfl (by omega) (by omega) (by omega) rfl (by decide)) rfl rfl ?_;refine M0 (q_assignC rfl rfl rfl) rfl rfl ?_
  refine L_nil (T_n (A_seq (A_seq (A_region ?_))));refine M0 (q_assignC rfl rfl rfl) rfl rfl ?_;refine L_nil (T_n (A_block ?_))
  refine A_loop (fun m st => ∃ k : Nat,k + m = xs.length ∧ (True) ∧ st = (fun k : Nat => (⟨_,[(0,L xs),(3,.o (.c (.ref 0))),(4,I k)],[.row 9 (part xs zBody k)]⟩ : St)) k) (xs.length) ⟨(fun k : Nat => (⟨_,[(0,L xs),(3,.o (.c (.ref 0))),(4,I k)],[.row 9 (part xs zBody k)]⟩ : St)) 0,W_go [0] (by decide) rfl (row_eq (part_zero xs _)) (.cons rfl (.cons rfl (.cons rfl (.nil)))),0,by omega,trivial,rfl⟩ ?_
  rintro m_A _ ⟨k,hk_A,hp_A,rfl⟩
  refine A_seq (A_seq (A_region ?_));refine M0 (q_moveC rfl rfl rfl) rfl rfl ?_;refine M0 (q_moveC rfl rfl rfl) rfl rfl ?_;refine M0 (q_len rfl rfl rfl) rfl rfl ?_
  refine M0 (q_lss rfl rfl rfl rfl) rfl rfl ?_;refine L_nil (T_n ?_)
  refine A_cond rfl (fun h => ?_) (fun h => ?_)
  · have h3 : k < xs.length := by have := of_decide_eq_true h; omega
    have hat := els_at h3
    have hz := part_at xs zBody h3
    have hpl : (k : Int) < (part xs zBody k).length := by rw [part_len xs _ (by omega)]; omega
    have hc := to_Body xs[k] (by show (0 : Nat) ≤ _; omega)
    refine A_skip (T_n (A_seq (A_block (A_region ?_))));refine M0 (q_moveC rfl rfl rfl) rfl rfl ?_;refine M0 (q_moveC rfl rfl rfl) rfl rfl ?_
    refine M0 (q_moveC rfl rfl rfl) rfl rfl ?_;refine M0 (q_moveC rfl rfl rfl) rfl rfl ?_;refine M0 (q_at rfl rfl rfl rfl (by omega) (by assumption) rfl) rfl rfl ?_
    refine M0 (q_lrN rfl rfl rfl rfl rfl) rfl rfl ?_;refine M1 (q_call rfl rfl (hc) rfl rfl rfl) rfl rfl ?_;refine M0 (q_ar rfl rfl rfl rfl rfl (by omega) (by assumption)) rfl rfl ?_
    refine M_steN rfl rfl rfl rfl rfl rfl rfl rfl rfl rfl (by assumption) rfl rfl ?_;refine L_nil (B_n (T_n (A_region ?_)))
    refine M0 (q_moveC rfl rfl rfl) rfl rfl ?_;refine M0 (q_add rfl rfl rfl rfl (by omega)) rfl rfl ?_;refine M0 (q_assignC rfl rfl rfl) rfl rfl ?_;refine L_nil (T_n ?_)
    exact ⟨xs.length - (k + 1),by omega,(fun k : Nat => (⟨_,[(0,L xs),(3,.o (.c (.ref 0))),(4,I k)],[.row 9 (part xs zBody k)]⟩ : St)) (k + 1),W_go [0] (by decide) rfl (row_eq (part_set xs zBody h3 _ (by rfl) (by rfl)).symm) (.cons rfl (.cons rfl (.cons rfl (.nil)))),k + 1,by omega,trivial,rfl⟩
  · have h3 : ¬ ((k : Int) < (els xs).length) := of_decide_eq_false h
    refine A_exit (T_x (T_x (B_xs (T_n (A_seq (A_region ?_))))));refine M0 (q_moveC rfl rfl rfl) rfl rfl ?_
    refine M0 (q_assignC rfl rfl rfl) rfl rfl ?_;refine L_nil (T_n (A_ret (F_r ?_)))
    exact E_tmp rfl rfl (W_end [0] (by decide) rfl (row_eq (part_all xs _ (by omega)).symm) rfl)
set_option maxHeartbeats 2000000 in
theorem sz_World (x : TWorld) (left : Int) (hg : Enc.gd x) (h0 : 0 ≤ left) (h1 : left ≤ 1048576) : Con Tryz.prog 85 [] [ag x,ai left] [] (I (szr (Enc.wt x) left)) := by
  obtain ⟨g_Level,g_Tick,g_Seed,g_Scores,g_Bodies⟩ := hg
  have hw : Enc.wt x = Enc.wt x.Level + Enc.wt x.Scores + Enc.wt x.Bodies := rfl
  have hm1 : decide ((-1 : Int) < 0) = true := rfl
  have hc_Level := sz_Level x.Level (left) g_Level (by omega) (by omega)
  by_cases n_Level : left < Enc.wt x.Level
  · rw [szr_neg n_Level] at hc_Level
    refine Con.of Tryz.func85 rfl Tryz.ntmps85 rfl (fun E => ?_)
    refine A_seq (A_region ?_);refine M1 (q_boxN rfl rfl rfl rfl) rfl rfl ?_;refine M0 (q_assignC rfl rfl rfl) rfl rfl ?_;refine L_nil (T_n (A_seq ?_))
    refine A_region ?_;refine M0 (q_fldp rfl rfl rfl rfl (by decide)) rfl rfl ?_;refine M0 (q_ldN rfl rfl rfl rfl rfl rfl) rfl rfl ?_;refine M0 (q_moveC rfl rfl rfl) rfl rfl ?_
    refine M0 (q_call0 rfl rfl (hc_Level) rfl) rfl rfl ?_;refine M0 (q_assignC rfl rfl rfl) rfl rfl ?_;refine L_nil (T_n (A_seq (A_seq (A_region ?_))))
    refine M0 (q_moveC rfl rfl rfl) rfl rfl ?_;refine M0 (q_lssK rfl rfl rfl rfl (by assumption)) rfl rfl ?_;refine L_nil (T_n ?_);refine A_ifT rfl ?_;refine A_seq ?_
    refine A_region ?_;refine M0 (q_assignC rfl rfl rfl) rfl rfl ?_;refine L_nil (T_n (A_ret (T_r (F_r ?_))))
    exact E_tmp rfl rfl (W_end [] (by decide) rfl rfl (I_eq (by rw [szr_neg (by omega)])))
  rw [szr_pos (by omega)] at hc_Level
  have hb_Level : decide (left - Enc.wt x.Level < 0) = false := decide_eq_false (by omega)
  have hc_Scores := sz_IntS x.Scores (left - Enc.wt x.Level) g_Scores (by omega) (by omega)
  by_cases n_Scores : left - Enc.wt x.Level < Enc.wt x.Scores
  · rw [szr_neg n_Scores] at hc_Scores
    refine Con.of Tryz.func85 rfl Tryz.ntmps85 rfl (fun E => ?_)
    refine A_seq (A_region ?_);refine M1 (q_boxN rfl rfl rfl rfl) rfl rfl ?_;refine M0 (q_assignC rfl rfl rfl) rfl rfl ?_;refine L_nil (T_n (A_seq ?_))
    refine A_region ?_;refine M0 (q_fldp rfl rfl rfl rfl (by decide)) rfl rfl ?_;refine M0 (q_ldN rfl rfl rfl rfl rfl rfl) rfl rfl ?_;refine M0 (q_moveC rfl rfl rfl) rfl rfl ?_
    refine M0 (q_call0 rfl rfl (hc_Level) rfl) rfl rfl ?_;refine M0 (q_assignC rfl rfl rfl) rfl rfl ?_;refine L_nil (T_n (A_seq (A_seq (A_region ?_))))
    refine M0 (q_moveC rfl rfl rfl) rfl rfl ?_;refine M0 (q_lssK rfl rfl rfl rfl (by assumption)) rfl rfl ?_;refine L_nil (T_n ?_);refine A_ifF rfl ?_;refine A_skip (T_n ?_)
    refine A_seq (A_region ?_);refine M0 (q_fldp rfl rfl rfl rfl (by decide)) rfl rfl ?_;refine M0 (q_ld1 rfl rfl rfl rfl rfl) rfl rfl ?_;refine M0 (q_moveC rfl rfl rfl) rfl rfl ?_
    refine M0 (q_call0 rfl rfl (hc_Scores) rfl) rfl rfl ?_;refine M0 (q_assignC rfl rfl rfl) rfl rfl ?_;refine L_nil (T_n (A_seq (A_seq (A_region ?_))))
    refine M0 (q_moveC rfl rfl rfl) rfl rfl ?_;refine M0 (q_lssK rfl rfl rfl rfl (by assumption)) rfl rfl ?_;refine L_nil (T_n ?_);refine A_ifT rfl ?_;refine A_seq ?_
    refine A_region ?_;refine M0 (q_assignC rfl rfl rfl) rfl rfl ?_;refine L_nil (T_n (A_ret (T_r (F_r ?_))))
    exact E_tmp rfl rfl (W_end [] (by decide) rfl rfl (I_eq (by rw [szr_neg (by omega)])))
  rw [szr_pos (by omega)] at hc_Scores
  have hb_Scores : decide (left - Enc.wt x.Level - Enc.wt x.Scores < 0) = false := decide_eq_false (by omega)
  have hc_Bodies := sz_BodyS x.Bodies (left - Enc.wt x.Level - Enc.wt x.Scores) g_Bodies (by omega) (by omega)
  by_cases n_Bodies : left - Enc.wt x.Level - Enc.wt x.Scores < Enc.wt x.Bodies
  · rw [szr_neg n_Bodies] at hc_Bodies
    refine Con.of Tryz.func85 rfl Tryz.ntmps85 rfl (fun E => ?_)
    refine A_seq (A_region ?_);refine M1 (q_boxN rfl rfl rfl rfl) rfl rfl ?_;refine M0 (q_assignC rfl rfl rfl) rfl rfl ?_;refine L_nil (T_n (A_seq ?_))
    refine A_region ?_;refine M0 (q_fldp rfl rfl rfl rfl (by decide)) rfl rfl ?_;refine M0 (q_ldN rfl rfl rfl rfl rfl rfl) rfl rfl ?_;refine M0 (q_moveC rfl rfl rfl) rfl rfl ?_
    refine M0 (q_call0 rfl rfl (hc_Level) rfl) rfl rfl ?_;refine M0 (q_assignC rfl rfl rfl) rfl rfl ?_;refine L_nil (T_n (A_seq (A_seq (A_region ?_))))
    refine M0 (q_moveC rfl rfl rfl) rfl rfl ?_;refine M0 (q_lssK rfl rfl rfl rfl (by assumption)) rfl rfl ?_;refine L_nil (T_n ?_);refine A_ifF rfl ?_;refine A_skip (T_n ?_)
    refine A_seq (A_region ?_);refine M0 (q_fldp rfl rfl rfl rfl (by decide)) rfl rfl ?_;refine M0 (q_ld1 rfl rfl rfl rfl rfl) rfl rfl ?_;refine M0 (q_moveC rfl rfl rfl) rfl rfl ?_
    refine M0 (q_call0 rfl rfl (hc_Scores) rfl) rfl rfl ?_;refine M0 (q_assignC rfl rfl rfl) rfl rfl ?_;refine L_nil (T_n (A_seq (A_seq (A_region ?_))))
    refine M0 (q_moveC rfl rfl rfl) rfl rfl ?_;refine M0 (q_lssK rfl rfl rfl rfl (by assumption)) rfl rfl ?_;refine L_nil (T_n ?_);refine A_ifF rfl ?_;refine A_skip (T_n ?_)
    refine A_seq (A_region ?_);refine M0 (q_fldp rfl rfl rfl rfl (by decide)) rfl rfl ?_;refine M0 (q_ld1 rfl rfl rfl rfl rfl) rfl rfl ?_;refine M0 (q_moveC rfl rfl rfl) rfl rfl ?_
    refine M0 (q_call0 rfl rfl (hc_Bodies) rfl) rfl rfl ?_;refine M0 (q_assignC rfl rfl rfl) rfl rfl ?_;refine L_nil (T_n (A_seq (A_seq (A_region ?_))))
    refine M0 (q_moveC rfl rfl rfl) rfl rfl ?_;refine M0 (q_lssK rfl rfl rfl rfl (by assumption)) rfl rfl ?_;refine L_nil (T_n ?_);refine A_ifT rfl ?_;refine A_seq ?_
    refine A_region ?_;refine M0 (q_assignC rfl rfl rfl) rfl rfl ?_;refine L_nil (T_n (A_ret (T_r (F_r ?_))))
    exact E_tmp rfl rfl (W_end [] (by decide) rfl rfl (I_eq (by rw [szr_neg (by omega)])))
  rw [szr_pos (by omega)] at hc_Bodies
  have hb_Bodies : decide (left - Enc.wt x.Level - Enc.wt x.Scores - Enc.wt x.Bodies < 0) = false := decide_eq_false (by omega)
  refine Con.of Tryz.func85 rfl Tryz.ntmps85 rfl (fun E => ?_)
  refine A_seq (A_region ?_);refine M1 (q_boxN rfl rfl rfl rfl) rfl rfl ?_;refine M0 (q_assignC rfl rfl rfl) rfl rfl ?_;refine L_nil (T_n (A_seq ?_))
  refine A_region ?_;refine M0 (q_fldp rfl rfl rfl rfl (by decide)) rfl rfl ?_;refine M0 (q_ldN rfl rfl rfl rfl rfl rfl) rfl rfl ?_;refine M0 (q_moveC rfl rfl rfl) rfl rfl ?_
  refine M0 (q_call0 rfl rfl (hc_Level) rfl) rfl rfl ?_;refine M0 (q_assignC rfl rfl rfl) rfl rfl ?_;refine L_nil (T_n (A_seq (A_seq (A_region ?_))))
  refine M0 (q_moveC rfl rfl rfl) rfl rfl ?_;refine M0 (q_lssK rfl rfl rfl rfl (by assumption)) rfl rfl ?_;refine L_nil (T_n ?_);refine A_ifF rfl ?_;refine A_skip (T_n ?_)
  refine A_seq (A_region ?_);refine M0 (q_fldp rfl rfl rfl rfl (by decide)) rfl rfl ?_;refine M0 (q_ld1 rfl rfl rfl rfl rfl) rfl rfl ?_;refine M0 (q_moveC rfl rfl rfl) rfl rfl ?_
  refine M0 (q_call0 rfl rfl (hc_Scores) rfl) rfl rfl ?_;refine M0 (q_assignC rfl rfl rfl) rfl rfl ?_;refine L_nil (T_n (A_seq (A_seq (A_region ?_))))
  refine M0 (q_moveC rfl rfl rfl) rfl rfl ?_;refine M0 (q_lssK rfl rfl rfl rfl (by assumption)) rfl rfl ?_;refine L_nil (T_n ?_);refine A_ifF rfl ?_;refine A_skip (T_n ?_)
  refine A_seq (A_region ?_);refine M0 (q_fldp rfl rfl rfl rfl (by decide)) rfl rfl ?_;refine M0 (q_ld1 rfl rfl rfl rfl rfl) rfl rfl ?_;refine M0 (q_moveC rfl rfl rfl) rfl rfl ?_
  refine M0 (q_call0 rfl rfl (hc_Bodies) rfl) rfl rfl ?_;refine M0 (q_assignC rfl rfl rfl) rfl rfl ?_;refine L_nil (T_n (A_seq (A_seq (A_region ?_))))
  refine M0 (q_moveC rfl rfl rfl) rfl rfl ?_;refine M0 (q_lssK rfl rfl rfl rfl (by assumption)) rfl rfl ?_;refine L_nil (T_n ?_);refine A_ifF rfl ?_;refine A_skip (T_n ?_)
  refine A_seq (A_region ?_);refine M0 (q_moveC rfl rfl rfl) rfl rfl ?_;refine M0 (q_assignC rfl rfl rfl) rfl rfl ?_;refine L_nil (T_n (A_ret (F_r ?_)))
  exact E_tmp rfl rfl (W_end [] (by decide) rfl rfl (I_eq (by rw [szr_pos (by omega)]; omega)))
set_option maxHeartbeats 2000000 in
theorem to_World (x : TWorld) (hg : Enc.wt x ≤ 1048576) : Con Tryz.prog 92 [] [ag x] (ownO (Enc.e x)) (.o (.ag (ownV 0 (Enc.e x)))) := by
  have hw : Enc.wt x = Enc.wt x.Level + Enc.wt x.Scores + Enc.wt x.Bodies := rfl
  refine Con.of Tryz.func92 rfl Tryz.ntmps92 rfl (fun E => ?_)
  refine A_seq (A_region ?_);refine M1 (q_boxN rfl rfl rfl rfl) rfl rfl ?_;refine M1 (q_alloc rfl rfl rfl) rfl rfl ?_;refine L_nil (T_n (A_seq ?_))
  refine A_region ?_;refine M1 (q_alloc rfl rfl rfl) rfl rfl ?_;refine L_nil (T_n (A_seq (A_region ?_)));refine M0 (q_fldp rfl rfl rfl rfl (by decide)) rfl rfl ?_
  refine M0 (q_ldN rfl rfl rfl rfl rfl rfl) rfl rfl ?_;refine M1 (q_call rfl rfl (to_Level x.Level (by omega)) rfl rfl rfl) rfl rfl ?_
  refine M0 (q_fldp rfl rfl rfl rfl (by decide)) rfl rfl ?_;refine M_stN rfl rfl rfl rfl rfl rfl rfl rfl rfl ?_;refine L_nil (T_n (A_seq (A_region ?_)))
  refine M0 (q_fldp rfl rfl rfl rfl (by decide)) rfl rfl ?_;refine M0 (q_ld1 rfl rfl rfl rfl rfl) rfl rfl ?_;refine M0 (q_fldp rfl rfl rfl rfl (by decide)) rfl rfl ?_
  refine M_st1 rfl rfl rfl rfl rfl rfl rfl rfl ?_;refine L_nil (T_n (A_seq (A_region ?_)));refine M0 (q_fldp rfl rfl rfl rfl (by decide)) rfl rfl ?_
  refine M0 (q_ld1 rfl rfl rfl rfl rfl) rfl rfl ?_;refine M0 (q_fldp rfl rfl rfl rfl (by decide)) rfl rfl ?_;refine M_st1 rfl rfl rfl rfl rfl rfl rfl rfl ?_;refine L_nil (T_n ?_)
  refine A_seq (A_region ?_);refine M0 (q_fldp rfl rfl rfl rfl (by decide)) rfl rfl ?_;refine M0 (q_ld1 rfl rfl rfl rfl rfl) rfl rfl ?_
  refine M1 (q_call rfl rfl (to_IntS x.Scores (by omega)) rfl rfl rfl) rfl rfl ?_;refine M0 (q_fldp rfl rfl rfl rfl (by decide)) rfl rfl ?_
  refine M_st1 rfl rfl rfl rfl rfl rfl rfl rfl ?_;refine L_nil (T_n (A_seq (A_region ?_)));refine M0 (q_fldp rfl rfl rfl rfl (by decide)) rfl rfl ?_
  refine M0 (q_ld1 rfl rfl rfl rfl rfl) rfl rfl ?_;refine M1 (q_call rfl rfl (to_BodyS x.Bodies (by omega)) rfl rfl rfl) rfl rfl ?_
  refine M0 (q_fldp rfl rfl rfl rfl (by decide)) rfl rfl ?_;refine M_st1 rfl rfl rfl rfl rfl rfl rfl rfl ?_;refine L_nil (T_n (A_seq (A_region ?_)))
  refine M0 (q_ldN rfl rfl rfl rfl rfl rfl) rfl rfl ?_;refine M_stN rfl rfl rfl rfl rfl rfl rfl rfl rfl ?_;refine L_nil (T_n (A_ret (F_r ?_)))
  exact E_cell rfl rfl rfl rfl (W_end [3,4,5] (by decide) rfl rfl rfl)
set_option maxHeartbeats 2000000 in
theorem eq_World (x y : TWorld) (hg : Enc.gd x) : Con Tryz.prog 104 [] [ag x,ag y] [] (B (decide (x = y))) := by
  obtain ⟨g_Level,g_Tick,g_Seed,g_Scores,g_Bodies⟩ := hg
  by_cases e_Level : ¬ x.Level = y.Level
  · have hc := eq_Level x.Level y.Level g_Level
    rw [decide_eq_false e_Level] at hc
    refine Con.of Tryz.func104 rfl Tryz.ntmps104 rfl (fun E => ?_)
    refine A_seq (A_region ?_);refine M1 (q_boxN rfl rfl rfl rfl) rfl rfl ?_;refine M1 (q_boxN rfl rfl rfl rfl) rfl rfl ?_;refine M0 (q_assignC rfl rfl rfl) rfl rfl ?_
    refine L_nil (T_n (A_seq (A_seq (A_region ?_))));refine M0 (q_fldp rfl rfl rfl rfl (by decide)) rfl rfl ?_
    refine M0 (q_ldN rfl rfl rfl rfl rfl rfl) rfl rfl ?_;refine M0 (q_fldp rfl rfl rfl rfl (by decide)) rfl rfl ?_;refine M0 (q_ldN rfl rfl rfl rfl rfl rfl) rfl rfl ?_
    refine M0 (q_call0 rfl rfl (hc) rfl) rfl rfl ?_;refine M0 (q_not rfl rfl rfl) rfl rfl ?_;refine L_nil (T_n ?_);refine A_ifT rfl ?_;refine A_seq (A_region ?_)
    refine M0 (q_assignC rfl rfl rfl) rfl rfl ?_;refine L_nil (T_n (A_ret (T_r (F_r ?_))))
    exact E_tmp rfl rfl (W_end [] (by decide) rfl rfl (B_eq (decide_eq_false fun e => e_Level (by rw [e])).symm))
  have e_Level := Classical.not_not.1 e_Level
  have hc_Level := eq_Level x.Level y.Level g_Level
  rw [decide_eq_true e_Level] at hc_Level
  by_cases e_Tick : ¬ x.Tick = y.Tick
  · have hk : decide (x.Tick ≠ y.Tick) = true := by simp [e_Tick]
    refine Con.of Tryz.func104 rfl Tryz.ntmps104 rfl (fun E => ?_)
    refine A_seq (A_region ?_);refine M1 (q_boxN rfl rfl rfl rfl) rfl rfl ?_;refine M1 (q_boxN rfl rfl rfl rfl) rfl rfl ?_;refine M0 (q_assignC rfl rfl rfl) rfl rfl ?_
    refine L_nil (T_n (A_seq (A_seq (A_region ?_))));refine M0 (q_fldp rfl rfl rfl rfl (by decide)) rfl rfl ?_
    refine M0 (q_ldN rfl rfl rfl rfl rfl rfl) rfl rfl ?_;refine M0 (q_fldp rfl rfl rfl rfl (by decide)) rfl rfl ?_;refine M0 (q_ldN rfl rfl rfl rfl rfl rfl) rfl rfl ?_
    refine M0 (q_call0 rfl rfl (hc_Level) rfl) rfl rfl ?_;refine M0 (q_not rfl rfl rfl) rfl rfl ?_;refine L_nil (T_n ?_);refine A_ifF rfl ?_;refine A_skip (T_n ?_)
    refine A_seq (A_seq (A_region ?_));refine M0 (q_fldp rfl rfl rfl rfl (by decide)) rfl rfl ?_;refine M0 (q_ld1 rfl rfl rfl rfl rfl) rfl rfl ?_
    refine M0 (q_fldp rfl rfl rfl rfl (by decide)) rfl rfl ?_;refine M0 (q_ld1 rfl rfl rfl rfl rfl) rfl rfl ?_;refine M0 (q_neqK rfl rfl rfl rfl (by assumption)) rfl rfl ?_
    refine L_nil (T_n ?_);refine A_ifT rfl ?_;refine A_seq (A_region ?_);refine M0 (q_assignC rfl rfl rfl) rfl rfl ?_;refine L_nil (T_n (A_ret (T_r ?_)))
    refine F_r ?_
    exact E_tmp rfl rfl (W_end [] (by decide) rfl rfl (B_eq (decide_eq_false fun e => e_Tick (by rw [e])).symm))
  have e_Tick := Classical.not_not.1 e_Tick
  have k_Tick : decide (x.Tick ≠ y.Tick) = false := by simp [e_Tick]
  by_cases e_Seed : ¬ x.Seed = y.Seed
  · have hk : decide (x.Seed ≠ y.Seed) = true := by simp [e_Seed]
    refine Con.of Tryz.func104 rfl Tryz.ntmps104 rfl (fun E => ?_)
    refine A_seq (A_region ?_);refine M1 (q_boxN rfl rfl rfl rfl) rfl rfl ?_;refine M1 (q_boxN rfl rfl rfl rfl) rfl rfl ?_;refine M0 (q_assignC rfl rfl rfl) rfl rfl ?_
    refine L_nil (T_n (A_seq (A_seq (A_region ?_))));refine M0 (q_fldp rfl rfl rfl rfl (by decide)) rfl rfl ?_
    refine M0 (q_ldN rfl rfl rfl rfl rfl rfl) rfl rfl ?_;refine M0 (q_fldp rfl rfl rfl rfl (by decide)) rfl rfl ?_;refine M0 (q_ldN rfl rfl rfl rfl rfl rfl) rfl rfl ?_
    refine M0 (q_call0 rfl rfl (hc_Level) rfl) rfl rfl ?_;refine M0 (q_not rfl rfl rfl) rfl rfl ?_;refine L_nil (T_n ?_);refine A_ifF rfl ?_;refine A_skip (T_n ?_)
    refine A_seq (A_seq (A_region ?_));refine M0 (q_fldp rfl rfl rfl rfl (by decide)) rfl rfl ?_;refine M0 (q_ld1 rfl rfl rfl rfl rfl) rfl rfl ?_
    refine M0 (q_fldp rfl rfl rfl rfl (by decide)) rfl rfl ?_;refine M0 (q_ld1 rfl rfl rfl rfl rfl) rfl rfl ?_;refine M0 (q_neqK rfl rfl rfl rfl (by assumption)) rfl rfl ?_
    refine L_nil (T_n ?_);refine A_ifF rfl ?_;refine A_skip (T_n (A_seq (A_seq (A_region ?_))))
    refine M0 (q_fldp rfl rfl rfl rfl (by decide)) rfl rfl ?_;refine M0 (q_ld1 rfl rfl rfl rfl rfl) rfl rfl ?_;refine M0 (q_fldp rfl rfl rfl rfl (by decide)) rfl rfl ?_
    refine M0 (q_ld1 rfl rfl rfl rfl rfl) rfl rfl ?_;refine M0 (q_neqK rfl rfl rfl rfl (by assumption)) rfl rfl ?_;refine L_nil (T_n ?_);refine A_ifT rfl ?_;refine A_seq ?_
    refine A_region ?_;refine M0 (q_assignC rfl rfl rfl) rfl rfl ?_;refine L_nil (T_n (A_ret (T_r (F_r ?_))))
    exact E_tmp rfl rfl (W_end [] (by decide) rfl rfl (B_eq (decide_eq_false fun e => e_Seed (by rw [e])).symm))
  have e_Seed := Classical.not_not.1 e_Seed
  have k_Seed : decide (x.Seed ≠ y.Seed) = false := by simp [e_Seed]
  by_cases e_Scores : ¬ x.Scores = y.Scores
  · have hc := eq_IntS x.Scores y.Scores g_Scores
    rw [decide_eq_false e_Scores] at hc
    refine Con.of Tryz.func104 rfl Tryz.ntmps104 rfl (fun E => ?_)
    refine A_seq (A_region ?_);refine M1 (q_boxN rfl rfl rfl rfl) rfl rfl ?_;refine M1 (q_boxN rfl rfl rfl rfl) rfl rfl ?_;refine M0 (q_assignC rfl rfl rfl) rfl rfl ?_
    refine L_nil (T_n (A_seq (A_seq (A_region ?_))));refine M0 (q_fldp rfl rfl rfl rfl (by decide)) rfl rfl ?_
    refine M0 (q_ldN rfl rfl rfl rfl rfl rfl) rfl rfl ?_;refine M0 (q_fldp rfl rfl rfl rfl (by decide)) rfl rfl ?_;refine M0 (q_ldN rfl rfl rfl rfl rfl rfl) rfl rfl ?_
    refine M0 (q_call0 rfl rfl (hc_Level) rfl) rfl rfl ?_;refine M0 (q_not rfl rfl rfl) rfl rfl ?_;refine L_nil (T_n ?_);refine A_ifF rfl ?_;refine A_skip (T_n ?_)
    refine A_seq (A_seq (A_region ?_));refine M0 (q_fldp rfl rfl rfl rfl (by decide)) rfl rfl ?_;refine M0 (q_ld1 rfl rfl rfl rfl rfl) rfl rfl ?_
    refine M0 (q_fldp rfl rfl rfl rfl (by decide)) rfl rfl ?_;refine M0 (q_ld1 rfl rfl rfl rfl rfl) rfl rfl ?_;refine M0 (q_neqK rfl rfl rfl rfl (by assumption)) rfl rfl ?_
    refine L_nil (T_n ?_);refine A_ifF rfl ?_;refine A_skip (T_n (A_seq (A_seq (A_region ?_))))
    refine M0 (q_fldp rfl rfl rfl rfl (by decide)) rfl rfl ?_;refine M0 (q_ld1 rfl rfl rfl rfl rfl) rfl rfl ?_;refine M0 (q_fldp rfl rfl rfl rfl (by decide)) rfl rfl ?_
    refine M0 (q_ld1 rfl rfl rfl rfl rfl) rfl rfl ?_;refine M0 (q_neqK rfl rfl rfl rfl (by assumption)) rfl rfl ?_;refine L_nil (T_n ?_);refine A_ifF rfl ?_;refine A_skip ?_
    refine T_n (A_seq (A_seq (A_region ?_)));refine M0 (q_fldp rfl rfl rfl rfl (by decide)) rfl rfl ?_;refine M0 (q_ld1 rfl rfl rfl rfl rfl) rfl rfl ?_
    refine M0 (q_fldp rfl rfl rfl rfl (by decide)) rfl rfl ?_;refine M0 (q_ld1 rfl rfl rfl rfl rfl) rfl rfl ?_;refine M0 (q_call0 rfl rfl (hc) rfl) rfl rfl ?_
    refine M0 (q_not rfl rfl rfl) rfl rfl ?_;refine L_nil (T_n ?_);refine A_ifT rfl ?_;refine A_seq (A_region ?_);refine M0 (q_assignC rfl rfl rfl) rfl rfl ?_;refine L_nil ?_
    refine T_n (A_ret (T_r (F_r ?_)))
    exact E_tmp rfl rfl (W_end [] (by decide) rfl rfl (B_eq (decide_eq_false fun e => e_Scores (by rw [e])).symm))
  have e_Scores := Classical.not_not.1 e_Scores
  have hc_Scores := eq_IntS x.Scores y.Scores g_Scores
  rw [decide_eq_true e_Scores] at hc_Scores
  by_cases e_Bodies : ¬ x.Bodies = y.Bodies
  · have hc := eq_BodyS x.Bodies y.Bodies g_Bodies
    rw [decide_eq_false e_Bodies] at hc
    refine Con.of Tryz.func104 rfl Tryz.ntmps104 rfl (fun E => ?_)
    refine A_seq (A_region ?_);refine M1 (q_boxN rfl rfl rfl rfl) rfl rfl ?_;refine M1 (q_boxN rfl rfl rfl rfl) rfl rfl ?_;refine M0 (q_assignC rfl rfl rfl) rfl rfl ?_
    refine L_nil (T_n (A_seq (A_seq (A_region ?_))));refine M0 (q_fldp rfl rfl rfl rfl (by decide)) rfl rfl ?_
    refine M0 (q_ldN rfl rfl rfl rfl rfl rfl) rfl rfl ?_;refine M0 (q_fldp rfl rfl rfl rfl (by decide)) rfl rfl ?_;refine M0 (q_ldN rfl rfl rfl rfl rfl rfl) rfl rfl ?_
    refine M0 (q_call0 rfl rfl (hc_Level) rfl) rfl rfl ?_;refine M0 (q_not rfl rfl rfl) rfl rfl ?_;refine L_nil (T_n ?_);refine A_ifF rfl ?_;refine A_skip (T_n ?_)
    refine A_seq (A_seq (A_region ?_));refine M0 (q_fldp rfl rfl rfl rfl (by decide)) rfl rfl ?_;refine M0 (q_ld1 rfl rfl rfl rfl rfl) rfl rfl ?_
    refine M0 (q_fldp rfl rfl rfl rfl (by decide)) rfl rfl ?_;refine M0 (q_ld1 rfl rfl rfl rfl rfl) rfl rfl ?_;refine M0 (q_neqK rfl rfl rfl rfl (by assumption)) rfl rfl ?_
    refine L_nil (T_n ?_);refine A_ifF rfl ?_;refine A_skip (T_n (A_seq (A_seq (A_region ?_))))
    refine M0 (q_fldp rfl rfl rfl rfl (by decide)) rfl rfl ?_;refine M0 (q_ld1 rfl rfl rfl rfl rfl) rfl rfl ?_;refine M0 (q_fldp rfl rfl rfl rfl (by decide)) rfl rfl ?_
    refine M0 (q_ld1 rfl rfl rfl rfl rfl) rfl rfl ?_;refine M0 (q_neqK rfl rfl rfl rfl (by assumption)) rfl rfl ?_;refine L_nil (T_n ?_);refine A_ifF rfl ?_;refine A_skip ?_
    refine T_n (A_seq (A_seq (A_region ?_)));refine M0 (q_fldp rfl rfl rfl rfl (by decide)) rfl rfl ?_;refine M0 (q_ld1 rfl rfl rfl rfl rfl) rfl rfl ?_
    refine M0 (q_fldp rfl rfl rfl rfl (by decide)) rfl rfl ?_;refine M0 (q_ld1 rfl rfl rfl rfl rfl) rfl rfl ?_;refine M0 (q_call0 rfl rfl (hc_Scores) rfl) rfl rfl ?_
    refine M0 (q_not rfl rfl rfl) rfl rfl ?_;refine L_nil (T_n ?_);refine A_ifF rfl ?_;refine A_skip (T_n (A_seq (A_seq (A_region ?_))))
    refine M0 (q_fldp rfl rfl rfl rfl (by decide)) rfl rfl ?_;refine M0 (q_ld1 rfl rfl rfl rfl rfl) rfl rfl ?_;refine M0 (q_fldp rfl rfl rfl rfl (by decide)) rfl rfl ?_
    refine M0 (q_ld1 rfl rfl rfl rfl rfl) rfl rfl ?_;refine M0 (q_call0 rfl rfl (hc) rfl) rfl rfl ?_;refine M0 (q_not rfl rfl rfl) rfl rfl ?_;refine L_nil (T_n ?_)
    refine A_ifT rfl ?_;refine A_seq (A_region ?_);refine M0 (q_assignC rfl rfl rfl) rfl rfl ?_;refine L_nil (T_n (A_ret (T_r (F_r ?_))))
    exact E_tmp rfl rfl (W_end [] (by decide) rfl rfl (B_eq (decide_eq_false fun e => e_Bodies (by rw [e])).symm))
  have e_Bodies := Classical.not_not.1 e_Bodies
  have hc_Bodies := eq_BodyS x.Bodies y.Bodies g_Bodies
  rw [decide_eq_true e_Bodies] at hc_Bodies
  refine Con.of Tryz.func104 rfl Tryz.ntmps104 rfl (fun E => ?_)
  refine A_seq (A_region ?_);refine M1 (q_boxN rfl rfl rfl rfl) rfl rfl ?_;refine M1 (q_boxN rfl rfl rfl rfl) rfl rfl ?_;refine M0 (q_assignC rfl rfl rfl) rfl rfl ?_
  refine L_nil (T_n (A_seq (A_seq (A_region ?_))));refine M0 (q_fldp rfl rfl rfl rfl (by decide)) rfl rfl ?_
  refine M0 (q_ldN rfl rfl rfl rfl rfl rfl) rfl rfl ?_;refine M0 (q_fldp rfl rfl rfl rfl (by decide)) rfl rfl ?_;refine M0 (q_ldN rfl rfl rfl rfl rfl rfl) rfl rfl ?_
  refine M0 (q_call0 rfl rfl (hc_Level) rfl) rfl rfl ?_;refine M0 (q_not rfl rfl rfl) rfl rfl ?_;refine L_nil (T_n ?_);refine A_ifF rfl ?_;refine A_skip (T_n ?_)
  refine A_seq (A_seq (A_region ?_));refine M0 (q_fldp rfl rfl rfl rfl (by decide)) rfl rfl ?_;refine M0 (q_ld1 rfl rfl rfl rfl rfl) rfl rfl ?_
  refine M0 (q_fldp rfl rfl rfl rfl (by decide)) rfl rfl ?_;refine M0 (q_ld1 rfl rfl rfl rfl rfl) rfl rfl ?_;refine M0 (q_neqK rfl rfl rfl rfl (by assumption)) rfl rfl ?_
  refine L_nil (T_n ?_);refine A_ifF rfl ?_;refine A_skip (T_n (A_seq (A_seq (A_region ?_))))
  refine M0 (q_fldp rfl rfl rfl rfl (by decide)) rfl rfl ?_;refine M0 (q_ld1 rfl rfl rfl rfl rfl) rfl rfl ?_;refine M0 (q_fldp rfl rfl rfl rfl (by decide)) rfl rfl ?_
  refine M0 (q_ld1 rfl rfl rfl rfl rfl) rfl rfl ?_;refine M0 (q_neqK rfl rfl rfl rfl (by assumption)) rfl rfl ?_;refine L_nil (T_n ?_);refine A_ifF rfl ?_;refine A_skip ?_
  refine T_n (A_seq (A_seq (A_region ?_)));refine M0 (q_fldp rfl rfl rfl rfl (by decide)) rfl rfl ?_;refine M0 (q_ld1 rfl rfl rfl rfl rfl) rfl rfl ?_
  refine M0 (q_fldp rfl rfl rfl rfl (by decide)) rfl rfl ?_;refine M0 (q_ld1 rfl rfl rfl rfl rfl) rfl rfl ?_;refine M0 (q_call0 rfl rfl (hc_Scores) rfl) rfl rfl ?_
  refine M0 (q_not rfl rfl rfl) rfl rfl ?_;refine L_nil (T_n ?_);refine A_ifF rfl ?_;refine A_skip (T_n (A_seq (A_seq (A_region ?_))))
  refine M0 (q_fldp rfl rfl rfl rfl (by decide)) rfl rfl ?_;refine M0 (q_ld1 rfl rfl rfl rfl rfl) rfl rfl ?_;refine M0 (q_fldp rfl rfl rfl rfl (by decide)) rfl rfl ?_
  refine M0 (q_ld1 rfl rfl rfl rfl rfl) rfl rfl ?_;refine M0 (q_call0 rfl rfl (hc_Bodies) rfl) rfl rfl ?_;refine M0 (q_not rfl rfl rfl) rfl rfl ?_;refine L_nil (T_n ?_)
  refine A_ifF rfl ?_;refine A_skip (T_n (A_seq (A_region ?_)));refine M0 (q_assignC rfl rfl rfl) rfl rfl ?_;refine L_nil (T_n (A_ret ?_))
  refine F_r ?_
  exact E_tmp rfl rfl (W_end [] (by decide) rfl rfl (B_eq (decide_eq_true (TWorld.same e_Level e_Tick e_Seed e_Scores e_Bodies)).symm))
set_option maxHeartbeats 2000000 in
theorem sz_Spectator (x : TSpectator) (left : Int) (hg : Enc.gd x) (h0 : 0 ≤ left) (h1 : left ≤ 1048576) : Con Tryz.prog 54 [] [ag x,ai left] [] (I (szr (Enc.wt x) left)) := by
  obtain ⟨g_World,g_Gaps⟩ := hg
  have hw : Enc.wt x = Enc.wt x.World := rfl
  have hm1 : decide ((-1 : Int) < 0) = true := rfl
  have hc_World := sz_World x.World (left) g_World (by omega) (by omega)
  by_cases n_World : left < Enc.wt x.World
  · rw [szr_neg n_World] at hc_World
    refine Con.of Tryz.func54 rfl Tryz.ntmps54 rfl (fun E => ?_)
    refine A_seq (A_region ?_);refine M1 (q_boxN rfl rfl rfl rfl) rfl rfl ?_;refine M0 (q_assignC rfl rfl rfl) rfl rfl ?_;refine L_nil (T_n (A_seq ?_))
    refine A_region ?_;refine M0 (q_fldp rfl rfl rfl rfl (by decide)) rfl rfl ?_;refine M0 (q_ldN rfl rfl rfl rfl rfl rfl) rfl rfl ?_;refine M0 (q_moveC rfl rfl rfl) rfl rfl ?_
    refine M0 (q_call0 rfl rfl (hc_World) rfl) rfl rfl ?_;refine M0 (q_assignC rfl rfl rfl) rfl rfl ?_;refine L_nil (T_n (A_seq (A_seq (A_region ?_))))
    refine M0 (q_moveC rfl rfl rfl) rfl rfl ?_;refine M0 (q_lssK rfl rfl rfl rfl (by assumption)) rfl rfl ?_;refine L_nil (T_n ?_);refine A_ifT rfl ?_;refine A_seq ?_
    refine A_region ?_;refine M0 (q_assignC rfl rfl rfl) rfl rfl ?_;refine L_nil (T_n (A_ret (T_r (F_r ?_))))
    exact E_tmp rfl rfl (W_end [] (by decide) rfl rfl (I_eq (by rw [szr_neg (by omega)])))
  rw [szr_pos (by omega)] at hc_World
  have hb_World : decide (left - Enc.wt x.World < 0) = false := decide_eq_false (by omega)
  refine Con.of Tryz.func54 rfl Tryz.ntmps54 rfl (fun E => ?_)
  refine A_seq (A_region ?_);refine M1 (q_boxN rfl rfl rfl rfl) rfl rfl ?_;refine M0 (q_assignC rfl rfl rfl) rfl rfl ?_;refine L_nil (T_n (A_seq ?_))
  refine A_region ?_;refine M0 (q_fldp rfl rfl rfl rfl (by decide)) rfl rfl ?_;refine M0 (q_ldN rfl rfl rfl rfl rfl rfl) rfl rfl ?_;refine M0 (q_moveC rfl rfl rfl) rfl rfl ?_
  refine M0 (q_call0 rfl rfl (hc_World) rfl) rfl rfl ?_;refine M0 (q_assignC rfl rfl rfl) rfl rfl ?_;refine L_nil (T_n (A_seq (A_seq (A_region ?_))))
  refine M0 (q_moveC rfl rfl rfl) rfl rfl ?_;refine M0 (q_lssK rfl rfl rfl rfl (by assumption)) rfl rfl ?_;refine L_nil (T_n ?_);refine A_ifF rfl ?_;refine A_skip (T_n ?_)
  refine A_seq (A_region ?_);refine M0 (q_moveC rfl rfl rfl) rfl rfl ?_;refine M0 (q_assignC rfl rfl rfl) rfl rfl ?_;refine L_nil (T_n (A_ret (F_r ?_)))
  exact E_tmp rfl rfl (W_end [] (by decide) rfl rfl (I_eq (by rw [szr_pos (by omega)]; omega)))
set_option maxHeartbeats 2000000 in
theorem to_Spectator (x : TSpectator) (hg : Enc.wt x ≤ 1048576) : Con Tryz.prog 68 [] [ag x] (ownO (Enc.e x)) (.o (.ag (ownV 0 (Enc.e x)))) := by
  have hw : Enc.wt x = Enc.wt x.World := rfl
  refine Con.of Tryz.func68 rfl Tryz.ntmps68 rfl (fun E => ?_)
  refine A_seq (A_region ?_);refine M1 (q_boxN rfl rfl rfl rfl) rfl rfl ?_;refine M1 (q_alloc rfl rfl rfl) rfl rfl ?_;refine L_nil (T_n (A_seq ?_))
  refine A_region ?_;refine M1 (q_alloc rfl rfl rfl) rfl rfl ?_;refine L_nil (T_n (A_seq (A_region ?_)));refine M0 (q_fldp rfl rfl rfl rfl (by decide)) rfl rfl ?_
  refine M0 (q_ldN rfl rfl rfl rfl rfl rfl) rfl rfl ?_;refine M1 (q_call rfl rfl (to_World x.World (by omega)) rfl rfl rfl) rfl rfl ?_
  refine M0 (q_fldp rfl rfl rfl rfl (by decide)) rfl rfl ?_;refine M_stN rfl rfl rfl rfl rfl rfl rfl rfl rfl ?_;refine L_nil (T_n (A_seq (A_region ?_)))
  refine M0 (q_fldp rfl rfl rfl rfl (by decide)) rfl rfl ?_;refine M0 (q_ld1 rfl rfl rfl rfl rfl) rfl rfl ?_;refine M0 (q_fldp rfl rfl rfl rfl (by decide)) rfl rfl ?_
  refine M_st1 rfl rfl rfl rfl rfl rfl rfl rfl ?_;refine L_nil (T_n (A_seq (A_region ?_)));refine M0 (q_ldN rfl rfl rfl rfl rfl rfl) rfl rfl ?_
  refine M_stN rfl rfl rfl rfl rfl rfl rfl rfl rfl ?_;refine L_nil (T_n (A_ret (F_r ?_)))
  exact E_cell rfl rfl rfl rfl (W_end [3,4,5] (by decide) rfl rfl rfl)
set_option maxHeartbeats 2000000 in
theorem eq_Spectator (x y : TSpectator) (hg : Enc.gd x) : Con Tryz.prog 81 [] [ag x,ag y] [] (B (decide (x = y))) := by
  obtain ⟨g_World,g_Gaps⟩ := hg
  by_cases e_World : ¬ x.World = y.World
  · have hc := eq_World x.World y.World g_World
    rw [decide_eq_false e_World] at hc
    refine Con.of Tryz.func81 rfl Tryz.ntmps81 rfl (fun E => ?_)
    refine A_seq (A_region ?_);refine M1 (q_boxN rfl rfl rfl rfl) rfl rfl ?_;refine M1 (q_boxN rfl rfl rfl rfl) rfl rfl ?_;refine M0 (q_assignC rfl rfl rfl) rfl rfl ?_
    refine L_nil (T_n (A_seq (A_seq (A_region ?_))));refine M0 (q_fldp rfl rfl rfl rfl (by decide)) rfl rfl ?_
    refine M0 (q_ldN rfl rfl rfl rfl rfl rfl) rfl rfl ?_;refine M0 (q_fldp rfl rfl rfl rfl (by decide)) rfl rfl ?_;refine M0 (q_ldN rfl rfl rfl rfl rfl rfl) rfl rfl ?_
    refine M0 (q_call0 rfl rfl (hc) rfl) rfl rfl ?_;refine M0 (q_not rfl rfl rfl) rfl rfl ?_;refine L_nil (T_n ?_);refine A_ifT rfl ?_;refine A_seq (A_region ?_)
    refine M0 (q_assignC rfl rfl rfl) rfl rfl ?_;refine L_nil (T_n (A_ret (T_r (F_r ?_))))
    exact E_tmp rfl rfl (W_end [] (by decide) rfl rfl (B_eq (decide_eq_false fun e => e_World (by rw [e])).symm))
  have e_World := Classical.not_not.1 e_World
  have hc_World := eq_World x.World y.World g_World
  rw [decide_eq_true e_World] at hc_World
  by_cases e_Gaps : ¬ x.Gaps = y.Gaps
  · have hk : decide (x.Gaps ≠ y.Gaps) = true := by simp [e_Gaps]
    refine Con.of Tryz.func81 rfl Tryz.ntmps81 rfl (fun E => ?_)
    refine A_seq (A_region ?_);refine M1 (q_boxN rfl rfl rfl rfl) rfl rfl ?_;refine M1 (q_boxN rfl rfl rfl rfl) rfl rfl ?_;refine M0 (q_assignC rfl rfl rfl) rfl rfl ?_
    refine L_nil (T_n (A_seq (A_seq (A_region ?_))));refine M0 (q_fldp rfl rfl rfl rfl (by decide)) rfl rfl ?_
    refine M0 (q_ldN rfl rfl rfl rfl rfl rfl) rfl rfl ?_;refine M0 (q_fldp rfl rfl rfl rfl (by decide)) rfl rfl ?_;refine M0 (q_ldN rfl rfl rfl rfl rfl rfl) rfl rfl ?_
    refine M0 (q_call0 rfl rfl (hc_World) rfl) rfl rfl ?_;refine M0 (q_not rfl rfl rfl) rfl rfl ?_;refine L_nil (T_n ?_);refine A_ifF rfl ?_;refine A_skip (T_n ?_)
    refine A_seq (A_seq (A_region ?_));refine M0 (q_fldp rfl rfl rfl rfl (by decide)) rfl rfl ?_;refine M0 (q_ld1 rfl rfl rfl rfl rfl) rfl rfl ?_
    refine M0 (q_fldp rfl rfl rfl rfl (by decide)) rfl rfl ?_;refine M0 (q_ld1 rfl rfl rfl rfl rfl) rfl rfl ?_;refine M0 (q_neqK rfl rfl rfl rfl (by assumption)) rfl rfl ?_
    refine L_nil (T_n ?_);refine A_ifT rfl ?_;refine A_seq (A_region ?_);refine M0 (q_assignC rfl rfl rfl) rfl rfl ?_;refine L_nil (T_n (A_ret (T_r ?_)))
    refine F_r ?_
    exact E_tmp rfl rfl (W_end [] (by decide) rfl rfl (B_eq (decide_eq_false fun e => e_Gaps (by rw [e])).symm))
  have e_Gaps := Classical.not_not.1 e_Gaps
  have k_Gaps : decide (x.Gaps ≠ y.Gaps) = false := by simp [e_Gaps]
  refine Con.of Tryz.func81 rfl Tryz.ntmps81 rfl (fun E => ?_)
  refine A_seq (A_region ?_);refine M1 (q_boxN rfl rfl rfl rfl) rfl rfl ?_;refine M1 (q_boxN rfl rfl rfl rfl) rfl rfl ?_;refine M0 (q_assignC rfl rfl rfl) rfl rfl ?_
  refine L_nil (T_n (A_seq (A_seq (A_region ?_))));refine M0 (q_fldp rfl rfl rfl rfl (by decide)) rfl rfl ?_
  refine M0 (q_ldN rfl rfl rfl rfl rfl rfl) rfl rfl ?_;refine M0 (q_fldp rfl rfl rfl rfl (by decide)) rfl rfl ?_;refine M0 (q_ldN rfl rfl rfl rfl rfl rfl) rfl rfl ?_
  refine M0 (q_call0 rfl rfl (hc_World) rfl) rfl rfl ?_;refine M0 (q_not rfl rfl rfl) rfl rfl ?_;refine L_nil (T_n ?_);refine A_ifF rfl ?_;refine A_skip (T_n ?_)
  refine A_seq (A_seq (A_region ?_));refine M0 (q_fldp rfl rfl rfl rfl (by decide)) rfl rfl ?_;refine M0 (q_ld1 rfl rfl rfl rfl rfl) rfl rfl ?_
  refine M0 (q_fldp rfl rfl rfl rfl (by decide)) rfl rfl ?_;refine M0 (q_ld1 rfl rfl rfl rfl rfl) rfl rfl ?_;refine M0 (q_neqK rfl rfl rfl rfl (by assumption)) rfl rfl ?_
  refine L_nil (T_n ?_);refine A_ifF rfl ?_;refine A_skip (T_n (A_seq (A_region ?_)));refine M0 (q_assignC rfl rfl rfl) rfl rfl ?_;refine L_nil ?_
  refine T_n (A_ret (F_r ?_))
  exact E_tmp rfl rfl (W_end [] (by decide) rfl rfl (B_eq (decide_eq_true (TSpectator.same e_World e_Gaps)).symm))

/-! ### Marks -/
end Go.Proofs.YtbpebmolbdplmaaGreat
end

section
set_option linter.unusedVariables false
set_option linter.unusedSimpArgs false
set_option maxRecDepth 8000
namespace Go.Proofs.YtbpebmolbdplmaaGreat
open Go.RowKit

structure TTrack where
  Inputs : (List Int)
  deriving DecidableEq
instance : Enc TTrack := ⟨1,by omega,fun x => [sl x.Inputs],fun _ => rfl,fun x => Enc.gd x.Inputs,fun x => Enc.wt x.Inputs⟩
theorem TTrack.same {x y : TTrack} (h0 : x.Inputs = y.Inputs) : x = y := by cases x; cases y; simp_all
structure TSave where
  Tick : Int
  Delta : ByteArray
  deriving DecidableEq
instance : Enc TSave := ⟨2,by omega,fun x => [.v (.int .i64 x.Tick),.v (.string x.Delta)],fun _ => rfl,fun x => Enc.gd x.Tick ∧ Enc.gd x.Delta,fun x => Enc.wt x.Delta⟩
theorem TSave.same {x y : TSave} (h0 : x.Tick = y.Tick) (h1 : x.Delta = y.Delta) : x = y := by cases x; cases y; simp_all
structure TFault where
  Tick : Int
  Player : Int
  Add : Int
  deriving DecidableEq
instance : Enc TFault := ⟨3,by omega,fun x => [.v (.int .i64 x.Tick),.v (.int .i64 x.Player),.v (.int .i64 x.Add)],fun _ => rfl,fun x => Enc.gd x.Tick ∧ Enc.gd x.Player ∧ Enc.gd x.Add,fun x => 0⟩
theorem TFault.same {x y : TFault} (h0 : x.Tick = y.Tick) (h1 : x.Player = y.Player) (h2 : x.Add = y.Add) : x = y := by cases x; cases y; simp_all
structure TPacket where
  From : Int
  Tick : Int
  First : Int
  Inputs : (List Int)
  Acks : (List Int)
  SumTick : Int
  Sum : Int
  Time : Int
  Echo : Int
  deriving DecidableEq
instance : Enc TPacket := ⟨9,by omega,fun x => [.v (.int .i64 x.From),.v (.int .i64 x.Tick),.v (.int .i64 x.First),sl x.Inputs,sl x.Acks,.v (.int .i64 x.SumTick),.v (.int .i64 x.Sum),.v (.int .i64 x.Time),.v (.int .i64 x.Echo)],fun _ => rfl,fun x => Enc.gd x.From ∧ Enc.gd x.Tick ∧ Enc.gd x.First ∧ Enc.gd x.Inputs ∧ Enc.gd x.Acks ∧ Enc.gd x.SumTick ∧ Enc.gd x.Sum ∧ Enc.gd x.Time ∧ Enc.gd x.Echo,fun x => Enc.wt x.Inputs + Enc.wt x.Acks⟩
theorem TPacket.same {x y : TPacket} (h0 : x.From = y.From) (h1 : x.Tick = y.Tick) (h2 : x.First = y.First) (h3 : x.Inputs = y.Inputs) (h4 : x.Acks = y.Acks) (h5 : x.SumTick = y.SumTick) (h6 : x.Sum = y.Sum) (h7 : x.Time = y.Time) (h8 : x.Echo = y.Echo) : x = y := by cases x; cases y; simp_all
structure TPeer where
  Me : Int
  Delay : Int
  Ahead : Int
  Seed : Int
  Tracks : (List TTrack)
  Base : TWorld
  Now : TWorld
  Used : (List (List Int))
  Saves : (List TSave)
  Sums : (List Int)
  Fault : TFault
  Rolls : Int
  Again : Int
  deriving DecidableEq
instance : Enc TPeer := ⟨23,by omega,fun x => [.v (.int .i64 x.Me),.v (.int .i64 x.Delay),.v (.int .i64 x.Ahead),.v (.int .i64 x.Seed),sl x.Tracks,sl x.Base.Level.Rows,.v (.int .i64 x.Base.Tick),.v (.int .i64 x.Base.Seed),sl x.Base.Scores,sl x.Base.Bodies,sl x.Now.Level.Rows,.v (.int .i64 x.Now.Tick),.v (.int .i64 x.Now.Seed),sl x.Now.Scores,sl x.Now.Bodies,sl x.Used,sl x.Saves,sl x.Sums,.v (.int .i64 x.Fault.Tick),.v (.int .i64 x.Fault.Player),.v (.int .i64 x.Fault.Add),.v (.int .i64 x.Rolls),.v (.int .i64 x.Again)],fun _ => rfl,fun x => Enc.gd x.Me ∧ Enc.gd x.Delay ∧ Enc.gd x.Ahead ∧ Enc.gd x.Seed ∧ Enc.gd x.Tracks ∧ Enc.gd x.Base ∧ Enc.gd x.Now ∧ Enc.gd x.Used ∧ Enc.gd x.Saves ∧ Enc.gd x.Sums ∧ Enc.gd x.Fault ∧ Enc.gd x.Rolls ∧ Enc.gd x.Again,fun x => Enc.wt x.Tracks + Enc.wt x.Base + Enc.wt x.Now + Enc.wt x.Used + Enc.wt x.Saves + Enc.wt x.Sums + Enc.wt x.Fault⟩
theorem TPeer.same {x y : TPeer} (h0 : x.Me = y.Me) (h1 : x.Delay = y.Delay) (h2 : x.Ahead = y.Ahead) (h3 : x.Seed = y.Seed) (h4 : x.Tracks = y.Tracks) (h5 : x.Base = y.Base) (h6 : x.Now = y.Now) (h7 : x.Used = y.Used) (h8 : x.Saves = y.Saves) (h9 : x.Sums = y.Sums) (h10 : x.Fault = y.Fault) (h11 : x.Rolls = y.Rolls) (h12 : x.Again = y.Again) : x = y := by cases x; cases y; simp_all

set_option maxHeartbeats 2000000 in
theorem sz_Track (x : TTrack) (left : Int) (hg : Enc.gd x) (h0 : 0 ≤ left) (h1 : left ≤ 1048576) : Con Tryz.prog 109 [] [ag x,ai left] [] (I (szr (Enc.wt x) left)) := by
  have g_Inputs : Enc.gd x.Inputs := hg
  have hw : Enc.wt x = Enc.wt x.Inputs := rfl
  have hm1 : decide ((-1 : Int) < 0) = true := rfl
  have hc_Inputs := sz_IntS x.Inputs (left) g_Inputs (by omega) (by omega)
  by_cases n_Inputs : left < Enc.wt x.Inputs
  · rw [szr_neg n_Inputs] at hc_Inputs
    refine Con.of Tryz.func109 rfl Tryz.ntmps109 rfl (fun E => ?_)
    refine A_seq (A_region ?_);refine M1 (q_boxN rfl rfl rfl rfl) rfl rfl ?_;refine M0 (q_assignC rfl rfl rfl) rfl rfl ?_;refine L_nil (T_n (A_seq ?_))
    refine A_region ?_;refine M0 (q_fldp rfl rfl rfl rfl (by decide)) rfl rfl ?_;refine M0 (q_ld1 rfl rfl rfl rfl rfl) rfl rfl ?_;refine M0 (q_moveC rfl rfl rfl) rfl rfl ?_
    refine M0 (q_call0 rfl rfl (hc_Inputs) rfl) rfl rfl ?_;refine M0 (q_assignC rfl rfl rfl) rfl rfl ?_;refine L_nil (T_n (A_seq (A_seq (A_region ?_))))
    refine M0 (q_moveC rfl rfl rfl) rfl rfl ?_;refine M0 (q_lssK rfl rfl rfl rfl (by assumption)) rfl rfl ?_;refine L_nil (T_n ?_);refine A_ifT rfl ?_;refine A_seq ?_
    refine A_region ?_;refine M0 (q_assignC rfl rfl rfl) rfl rfl ?_;refine L_nil (T_n (A_ret (T_r (F_r ?_))))
    exact E_tmp rfl rfl (W_end [] (by decide) rfl rfl (I_eq (by rw [szr_neg (by omega)])))
  rw [szr_pos (by omega)] at hc_Inputs
  have hb_Inputs : decide (left - Enc.wt x.Inputs < 0) = false := decide_eq_false (by omega)
  refine Con.of Tryz.func109 rfl Tryz.ntmps109 rfl (fun E => ?_)
  refine A_seq (A_region ?_);refine M1 (q_boxN rfl rfl rfl rfl) rfl rfl ?_;refine M0 (q_assignC rfl rfl rfl) rfl rfl ?_;refine L_nil (T_n (A_seq ?_))
  refine A_region ?_;refine M0 (q_fldp rfl rfl rfl rfl (by decide)) rfl rfl ?_;refine M0 (q_ld1 rfl rfl rfl rfl rfl) rfl rfl ?_;refine M0 (q_moveC rfl rfl rfl) rfl rfl ?_
  refine M0 (q_call0 rfl rfl (hc_Inputs) rfl) rfl rfl ?_;refine M0 (q_assignC rfl rfl rfl) rfl rfl ?_;refine L_nil (T_n (A_seq (A_seq (A_region ?_))))
  refine M0 (q_moveC rfl rfl rfl) rfl rfl ?_;refine M0 (q_lssK rfl rfl rfl rfl (by assumption)) rfl rfl ?_;refine L_nil (T_n ?_);refine A_ifF rfl ?_;refine A_skip (T_n ?_)
  refine A_seq (A_region ?_);refine M0 (q_moveC rfl rfl rfl) rfl rfl ?_;refine M0 (q_assignC rfl rfl rfl) rfl rfl ?_;refine L_nil (T_n (A_ret (F_r ?_)))
  exact E_tmp rfl rfl (W_end [] (by decide) rfl rfl (I_eq (by rw [szr_pos (by omega)]; omega)))
set_option maxHeartbeats 2000000 in
theorem to_Track (x : TTrack) (hg : Enc.wt x ≤ 1048576) : Con Tryz.prog 113 [] [ag x] (ownO (Enc.e x)) (.o (.ag (ownV 0 (Enc.e x)))) := by
  have hw : Enc.wt x = Enc.wt x.Inputs := rfl
  refine Con.of Tryz.func113 rfl Tryz.ntmps113 rfl (fun E => ?_)
  refine A_seq (A_region ?_);refine M1 (q_boxN rfl rfl rfl rfl) rfl rfl ?_;refine M1 (q_alloc rfl rfl rfl) rfl rfl ?_;refine L_nil (T_n (A_seq ?_))
  refine A_region ?_;refine M1 (q_alloc rfl rfl rfl) rfl rfl ?_;refine L_nil (T_n (A_seq (A_region ?_)));refine M0 (q_fldp rfl rfl rfl rfl (by decide)) rfl rfl ?_
  refine M0 (q_ld1 rfl rfl rfl rfl rfl) rfl rfl ?_;refine M1 (q_call rfl rfl (to_IntS x.Inputs (by omega)) rfl rfl rfl) rfl rfl ?_
  refine M0 (q_fldp rfl rfl rfl rfl (by decide)) rfl rfl ?_;refine M_st1 rfl rfl rfl rfl rfl rfl rfl rfl ?_;refine L_nil (T_n (A_seq (A_region ?_)))
  refine M0 (q_ldN rfl rfl rfl rfl rfl rfl) rfl rfl ?_;refine M_stN rfl rfl rfl rfl rfl rfl rfl rfl rfl ?_;refine L_nil (T_n (A_ret (F_r ?_)))
  exact E_cell rfl rfl rfl rfl (W_end [3] (by decide) rfl rfl rfl)
set_option maxHeartbeats 2000000 in
theorem eq_Track (x y : TTrack) (hg : Enc.gd x) : Con Tryz.prog 120 [] [ag x,ag y] [] (B (decide (x = y))) := by
  have g_Inputs : Enc.gd x.Inputs := hg
  by_cases e_Inputs : ¬ x.Inputs = y.Inputs
  · have hc := eq_IntS x.Inputs y.Inputs g_Inputs
    rw [decide_eq_false e_Inputs] at hc
    refine Con.of Tryz.func120 rfl Tryz.ntmps120 rfl (fun E => ?_)
    refine A_seq (A_region ?_);refine M1 (q_boxN rfl rfl rfl rfl) rfl rfl ?_;refine M1 (q_boxN rfl rfl rfl rfl) rfl rfl ?_;refine M0 (q_assignC rfl rfl rfl) rfl rfl ?_
    refine L_nil (T_n (A_seq (A_seq (A_region ?_))));refine M0 (q_fldp rfl rfl rfl rfl (by decide)) rfl rfl ?_
    refine M0 (q_ld1 rfl rfl rfl rfl rfl) rfl rfl ?_;refine M0 (q_fldp rfl rfl rfl rfl (by decide)) rfl rfl ?_;refine M0 (q_ld1 rfl rfl rfl rfl rfl) rfl rfl ?_
    refine M0 (q_call0 rfl rfl (hc) rfl) rfl rfl ?_;refine M0 (q_not rfl rfl rfl) rfl rfl ?_;refine L_nil (T_n ?_);refine A_ifT rfl ?_;refine A_seq (A_region ?_)
    refine M0 (q_assignC rfl rfl rfl) rfl rfl ?_;refine L_nil (T_n (A_ret (T_r (F_r ?_))))
    exact E_tmp rfl rfl (W_end [] (by decide) rfl rfl (B_eq (decide_eq_false fun e => e_Inputs (by rw [e])).symm))
  have e_Inputs := Classical.not_not.1 e_Inputs
  have hc_Inputs := eq_IntS x.Inputs y.Inputs g_Inputs
  rw [decide_eq_true e_Inputs] at hc_Inputs
  refine Con.of Tryz.func120 rfl Tryz.ntmps120 rfl (fun E => ?_)
  refine A_seq (A_region ?_);refine M1 (q_boxN rfl rfl rfl rfl) rfl rfl ?_;refine M1 (q_boxN rfl rfl rfl rfl) rfl rfl ?_;refine M0 (q_assignC rfl rfl rfl) rfl rfl ?_
  refine L_nil (T_n (A_seq (A_seq (A_region ?_))));refine M0 (q_fldp rfl rfl rfl rfl (by decide)) rfl rfl ?_
  refine M0 (q_ld1 rfl rfl rfl rfl rfl) rfl rfl ?_;refine M0 (q_fldp rfl rfl rfl rfl (by decide)) rfl rfl ?_;refine M0 (q_ld1 rfl rfl rfl rfl rfl) rfl rfl ?_
  refine M0 (q_call0 rfl rfl (hc_Inputs) rfl) rfl rfl ?_;refine M0 (q_not rfl rfl rfl) rfl rfl ?_;refine L_nil (T_n ?_);refine A_ifF rfl ?_;refine A_skip (T_n ?_)
  refine A_seq (A_region ?_);refine M0 (q_assignC rfl rfl rfl) rfl rfl ?_;refine L_nil (T_n (A_ret (F_r ?_)))
  exact E_tmp rfl rfl (W_end [] (by decide) rfl rfl (B_eq (decide_eq_true (TTrack.same e_Inputs)).symm))
set_option maxHeartbeats 2000000 in
theorem sz_Save (x : TSave) (left : Int) (hg : Enc.gd x) (h0 : 0 ≤ left) (h1 : left ≤ 1048576) : Con Tryz.prog 111 [] [ag x,ai left] [] (I (szr (Enc.wt x) left)) := by
  obtain ⟨g_Tick,g_Delta⟩ := hg
  have hw : Enc.wt x = Enc.wt x.Delta := rfl
  have hm1 : decide ((-1 : Int) < 0) = true := rfl
  have hgd_Delta : x.Delta.size ≤ 9223372036854775807 := g_Delta
  have hs_Delta : Enc.wt x.Delta = x.Delta.size := rfl
  by_cases n_Delta : left - (x.Delta.size : Int) < 0
  · have hb : decide (left - (x.Delta.size : Int) < 0) = true := decide_eq_true n_Delta
    refine Con.of Tryz.func111 rfl Tryz.ntmps111 rfl (fun E => ?_)
    refine A_seq (A_region ?_);refine M1 (q_boxN rfl rfl rfl rfl) rfl rfl ?_;refine M0 (q_assignC rfl rfl rfl) rfl rfl ?_;refine L_nil (T_n (A_seq ?_))
    refine A_region ?_;refine M0 (q_moveC rfl rfl rfl) rfl rfl ?_;refine M0 (q_fldp rfl rfl rfl rfl (by decide)) rfl rfl ?_;refine M0 (q_ld1 rfl rfl rfl rfl rfl) rfl rfl ?_
    refine M0 (q_lens rfl rfl rfl) rfl rfl ?_;refine M0 (q_sub rfl rfl rfl rfl (by omega)) rfl rfl ?_;refine M0 (q_assignC rfl rfl rfl) rfl rfl ?_;refine L_nil (T_n ?_)
    refine A_seq (A_seq (A_region ?_));refine M0 (q_moveC rfl rfl rfl) rfl rfl ?_;refine M0 (q_lssK rfl rfl rfl rfl (by assumption)) rfl rfl ?_;refine L_nil (T_n ?_)
    refine A_ifT rfl ?_;refine A_seq (A_region ?_);refine M0 (q_assignC rfl rfl rfl) rfl rfl ?_;refine L_nil (T_n (A_ret (T_r (F_r ?_))))
    exact E_tmp rfl rfl (W_end [] (by decide) rfl rfl (I_eq (by rw [szr_neg (by omega)])))
  have hb_Delta : decide (left - (x.Delta.size : Int) < 0) = false := decide_eq_false n_Delta
  refine Con.of Tryz.func111 rfl Tryz.ntmps111 rfl (fun E => ?_)
  refine A_seq (A_region ?_);refine M1 (q_boxN rfl rfl rfl rfl) rfl rfl ?_;refine M0 (q_assignC rfl rfl rfl) rfl rfl ?_;refine L_nil (T_n (A_seq ?_))
  refine A_region ?_;refine M0 (q_moveC rfl rfl rfl) rfl rfl ?_;refine M0 (q_fldp rfl rfl rfl rfl (by decide)) rfl rfl ?_;refine M0 (q_ld1 rfl rfl rfl rfl rfl) rfl rfl ?_
  refine M0 (q_lens rfl rfl rfl) rfl rfl ?_;refine M0 (q_sub rfl rfl rfl rfl (by omega)) rfl rfl ?_;refine M0 (q_assignC rfl rfl rfl) rfl rfl ?_;refine L_nil (T_n ?_)
  refine A_seq (A_seq (A_region ?_));refine M0 (q_moveC rfl rfl rfl) rfl rfl ?_;refine M0 (q_lssK rfl rfl rfl rfl (by assumption)) rfl rfl ?_;refine L_nil (T_n ?_)
  refine A_ifF rfl ?_;refine A_skip (T_n (A_seq (A_region ?_)));refine M0 (q_moveC rfl rfl rfl) rfl rfl ?_;refine M0 (q_assignC rfl rfl rfl) rfl rfl ?_
  refine L_nil (T_n (A_ret (F_r ?_)))
  exact E_tmp rfl rfl (W_end [] (by decide) rfl rfl (I_eq (by rw [szr_pos (by omega)]; omega)))
set_option maxHeartbeats 2000000 in
theorem to_Save (x : TSave) (hg : Enc.wt x ≤ 1048576) : Con Tryz.prog 115 [] [ag x] (ownO (Enc.e x)) (.o (.ag (ownV 0 (Enc.e x)))) := by
  have hw : Enc.wt x = Enc.wt x.Delta := rfl
  refine Con.of Tryz.func115 rfl Tryz.ntmps115 rfl (fun E => ?_)
  refine A_seq (A_region ?_);refine M1 (q_boxN rfl rfl rfl rfl) rfl rfl ?_;refine M1 (q_alloc rfl rfl rfl) rfl rfl ?_;refine L_nil (T_n (A_seq ?_))
  refine A_region ?_;refine M1 (q_alloc rfl rfl rfl) rfl rfl ?_;refine L_nil (T_n (A_seq (A_region ?_)));refine M0 (q_fldp rfl rfl rfl rfl (by decide)) rfl rfl ?_
  refine M0 (q_ld1 rfl rfl rfl rfl rfl) rfl rfl ?_;refine M0 (q_fldp rfl rfl rfl rfl (by decide)) rfl rfl ?_;refine M_st1 rfl rfl rfl rfl rfl rfl rfl rfl ?_;refine L_nil (T_n ?_)
  refine A_seq (A_region ?_);refine M0 (q_fldp rfl rfl rfl rfl (by decide)) rfl rfl ?_;refine M0 (q_ld1 rfl rfl rfl rfl rfl) rfl rfl ?_
  refine M0 (q_fldp rfl rfl rfl rfl (by decide)) rfl rfl ?_;refine M_st1 rfl rfl rfl rfl rfl rfl rfl rfl ?_;refine L_nil (T_n (A_seq (A_region ?_)))
  refine M0 (q_ldN rfl rfl rfl rfl rfl rfl) rfl rfl ?_;refine M_stN rfl rfl rfl rfl rfl rfl rfl rfl rfl ?_;refine L_nil (T_n (A_ret (F_r ?_)))
  exact E_cell rfl rfl rfl rfl (W_end [] (by decide) rfl rfl rfl)
set_option maxHeartbeats 2000000 in
theorem eq_Save (x y : TSave) (hg : Enc.gd x) : Con Tryz.prog 122 [] [ag x,ag y] [] (B (decide (x = y))) := by
  obtain ⟨g_Tick,g_Delta⟩ := hg
  by_cases e_Tick : ¬ x.Tick = y.Tick
  · have hk : decide (x.Tick ≠ y.Tick) = true := by simp [e_Tick]
    refine Con.of Tryz.func122 rfl Tryz.ntmps122 rfl (fun E => ?_)
    refine A_seq (A_region ?_);refine M1 (q_boxN rfl rfl rfl rfl) rfl rfl ?_;refine M1 (q_boxN rfl rfl rfl rfl) rfl rfl ?_;refine M0 (q_assignC rfl rfl rfl) rfl rfl ?_
    refine L_nil (T_n (A_seq (A_seq (A_region ?_))));refine M0 (q_fldp rfl rfl rfl rfl (by decide)) rfl rfl ?_
    refine M0 (q_ld1 rfl rfl rfl rfl rfl) rfl rfl ?_;refine M0 (q_fldp rfl rfl rfl rfl (by decide)) rfl rfl ?_;refine M0 (q_ld1 rfl rfl rfl rfl rfl) rfl rfl ?_
    refine M0 (q_neqK rfl rfl rfl rfl (by assumption)) rfl rfl ?_;refine L_nil (T_n ?_);refine A_ifT rfl ?_;refine A_seq (A_region ?_)
    refine M0 (q_assignC rfl rfl rfl) rfl rfl ?_;refine L_nil (T_n (A_ret (T_r (F_r ?_))))
    exact E_tmp rfl rfl (W_end [] (by decide) rfl rfl (B_eq (decide_eq_false fun e => e_Tick (by rw [e])).symm))
  have e_Tick := Classical.not_not.1 e_Tick
  have k_Tick : decide (x.Tick ≠ y.Tick) = false := by simp [e_Tick]
  by_cases e_Delta : ¬ x.Delta = y.Delta
  · have hk : decide (x.Delta ≠ y.Delta) = true := by simp [e_Delta]
    refine Con.of Tryz.func122 rfl Tryz.ntmps122 rfl (fun E => ?_)
    refine A_seq (A_region ?_);refine M1 (q_boxN rfl rfl rfl rfl) rfl rfl ?_;refine M1 (q_boxN rfl rfl rfl rfl) rfl rfl ?_;refine M0 (q_assignC rfl rfl rfl) rfl rfl ?_
    refine L_nil (T_n (A_seq (A_seq (A_region ?_))));refine M0 (q_fldp rfl rfl rfl rfl (by decide)) rfl rfl ?_
    refine M0 (q_ld1 rfl rfl rfl rfl rfl) rfl rfl ?_;refine M0 (q_fldp rfl rfl rfl rfl (by decide)) rfl rfl ?_;refine M0 (q_ld1 rfl rfl rfl rfl rfl) rfl rfl ?_
    refine M0 (q_neqK rfl rfl rfl rfl (by assumption)) rfl rfl ?_;refine L_nil (T_n ?_);refine A_ifF rfl ?_;refine A_skip (T_n (A_seq (A_seq ?_)))
    refine A_region ?_;refine M0 (q_fldp rfl rfl rfl rfl (by decide)) rfl rfl ?_;refine M0 (q_ld1 rfl rfl rfl rfl rfl) rfl rfl ?_;refine M0 (q_fldp rfl rfl rfl rfl (by decide)) rfl rfl ?_
    refine M0 (q_ld1 rfl rfl rfl rfl rfl) rfl rfl ?_;refine M0 (q_sneqK rfl rfl rfl rfl (by assumption)) rfl rfl ?_;refine L_nil (T_n ?_);refine A_ifT rfl ?_;refine A_seq ?_
    refine A_region ?_;refine M0 (q_assignC rfl rfl rfl) rfl rfl ?_;refine L_nil (T_n (A_ret (T_r (F_r ?_))))
    exact E_tmp rfl rfl (W_end [] (by decide) rfl rfl (B_eq (decide_eq_false fun e => e_Delta (by rw [e])).symm))
  have e_Delta := Classical.not_not.1 e_Delta
  have k_Delta : decide (x.Delta ≠ y.Delta) = false := by simp [e_Delta]
  refine Con.of Tryz.func122 rfl Tryz.ntmps122 rfl (fun E => ?_)
  refine A_seq (A_region ?_);refine M1 (q_boxN rfl rfl rfl rfl) rfl rfl ?_;refine M1 (q_boxN rfl rfl rfl rfl) rfl rfl ?_;refine M0 (q_assignC rfl rfl rfl) rfl rfl ?_
  refine L_nil (T_n (A_seq (A_seq (A_region ?_))));refine M0 (q_fldp rfl rfl rfl rfl (by decide)) rfl rfl ?_
  refine M0 (q_ld1 rfl rfl rfl rfl rfl) rfl rfl ?_;refine M0 (q_fldp rfl rfl rfl rfl (by decide)) rfl rfl ?_;refine M0 (q_ld1 rfl rfl rfl rfl rfl) rfl rfl ?_
  refine M0 (q_neqK rfl rfl rfl rfl (by assumption)) rfl rfl ?_;refine L_nil (T_n ?_);refine A_ifF rfl ?_;refine A_skip (T_n (A_seq (A_seq ?_)))
  refine A_region ?_;refine M0 (q_fldp rfl rfl rfl rfl (by decide)) rfl rfl ?_;refine M0 (q_ld1 rfl rfl rfl rfl rfl) rfl rfl ?_;refine M0 (q_fldp rfl rfl rfl rfl (by decide)) rfl rfl ?_
  refine M0 (q_ld1 rfl rfl rfl rfl rfl) rfl rfl ?_;refine M0 (q_sneqK rfl rfl rfl rfl (by assumption)) rfl rfl ?_;refine L_nil (T_n ?_);refine A_ifF rfl ?_;refine A_skip ?_
  refine T_n (A_seq (A_region ?_));refine M0 (q_assignC rfl rfl rfl) rfl rfl ?_;refine L_nil (T_n (A_ret (F_r ?_)))
  exact E_tmp rfl rfl (W_end [] (by decide) rfl rfl (B_eq (decide_eq_true (TSave.same e_Tick e_Delta)).symm))
set_option maxHeartbeats 2000000 in
theorem to_Fault (x : TFault) (hg : Enc.wt x ≤ 1048576) : Con Tryz.prog 94 [] [ag x] (ownO (Enc.e x)) (.o (.ag (ownV 0 (Enc.e x)))) := by
  refine Con.of Tryz.func94 rfl Tryz.ntmps94 rfl (fun E => ?_)
  refine A_seq (A_region ?_);refine M1 (q_boxN rfl rfl rfl rfl) rfl rfl ?_;refine M1 (q_alloc rfl rfl rfl) rfl rfl ?_;refine L_nil (T_n (A_seq ?_))
  refine A_region ?_;refine M1 (q_alloc rfl rfl rfl) rfl rfl ?_;refine L_nil (T_n (A_seq (A_region ?_)));refine M0 (q_fldp rfl rfl rfl rfl (by decide)) rfl rfl ?_
  refine M0 (q_ld1 rfl rfl rfl rfl rfl) rfl rfl ?_;refine M0 (q_fldp rfl rfl rfl rfl (by decide)) rfl rfl ?_;refine M_st1 rfl rfl rfl rfl rfl rfl rfl rfl ?_;refine L_nil (T_n ?_)
  refine A_seq (A_region ?_);refine M0 (q_fldp rfl rfl rfl rfl (by decide)) rfl rfl ?_;refine M0 (q_ld1 rfl rfl rfl rfl rfl) rfl rfl ?_
  refine M0 (q_fldp rfl rfl rfl rfl (by decide)) rfl rfl ?_;refine M_st1 rfl rfl rfl rfl rfl rfl rfl rfl ?_;refine L_nil (T_n (A_seq (A_region ?_)))
  refine M0 (q_fldp rfl rfl rfl rfl (by decide)) rfl rfl ?_;refine M0 (q_ld1 rfl rfl rfl rfl rfl) rfl rfl ?_;refine M0 (q_fldp rfl rfl rfl rfl (by decide)) rfl rfl ?_
  refine M_st1 rfl rfl rfl rfl rfl rfl rfl rfl ?_;refine L_nil (T_n (A_seq (A_region ?_)));refine M0 (q_ldN rfl rfl rfl rfl rfl rfl) rfl rfl ?_
  refine M_stN rfl rfl rfl rfl rfl rfl rfl rfl rfl ?_;refine L_nil (T_n (A_ret (F_r ?_)))
  exact E_cell rfl rfl rfl rfl (W_end [] (by decide) rfl rfl rfl)
set_option maxHeartbeats 2000000 in
theorem eq_Fault (x y : TFault) (hg : Enc.gd x) : Con Tryz.prog 106 [] [ag x,ag y] [] (B (decide (x = y))) := by
  obtain ⟨g_Tick,g_Player,g_Add⟩ := hg
  by_cases e_Tick : ¬ x.Tick = y.Tick
  · have hk : decide (x.Tick ≠ y.Tick) = true := by simp [e_Tick]
    refine Con.of Tryz.func106 rfl Tryz.ntmps106 rfl (fun E => ?_)
    refine A_seq (A_region ?_);refine M1 (q_boxN rfl rfl rfl rfl) rfl rfl ?_;refine M1 (q_boxN rfl rfl rfl rfl) rfl rfl ?_;refine M0 (q_assignC rfl rfl rfl) rfl rfl ?_
    refine L_nil (T_n (A_seq (A_seq (A_region ?_))));refine M0 (q_fldp rfl rfl rfl rfl (by decide)) rfl rfl ?_
    refine M0 (q_ld1 rfl rfl rfl rfl rfl) rfl rfl ?_;refine M0 (q_fldp rfl rfl rfl rfl (by decide)) rfl rfl ?_;refine M0 (q_ld1 rfl rfl rfl rfl rfl) rfl rfl ?_
    refine M0 (q_neqK rfl rfl rfl rfl (by assumption)) rfl rfl ?_;refine L_nil (T_n ?_);refine A_ifT rfl ?_;refine A_seq (A_region ?_)
    refine M0 (q_assignC rfl rfl rfl) rfl rfl ?_;refine L_nil (T_n (A_ret (T_r (F_r ?_))))
    exact E_tmp rfl rfl (W_end [] (by decide) rfl rfl (B_eq (decide_eq_false fun e => e_Tick (by rw [e])).symm))
  have e_Tick := Classical.not_not.1 e_Tick
  have k_Tick : decide (x.Tick ≠ y.Tick) = false := by simp [e_Tick]
  by_cases e_Player : ¬ x.Player = y.Player
  · have hk : decide (x.Player ≠ y.Player) = true := by simp [e_Player]
    refine Con.of Tryz.func106 rfl Tryz.ntmps106 rfl (fun E => ?_)
    refine A_seq (A_region ?_);refine M1 (q_boxN rfl rfl rfl rfl) rfl rfl ?_;refine M1 (q_boxN rfl rfl rfl rfl) rfl rfl ?_;refine M0 (q_assignC rfl rfl rfl) rfl rfl ?_
    refine L_nil (T_n (A_seq (A_seq (A_region ?_))));refine M0 (q_fldp rfl rfl rfl rfl (by decide)) rfl rfl ?_
    refine M0 (q_ld1 rfl rfl rfl rfl rfl) rfl rfl ?_;refine M0 (q_fldp rfl rfl rfl rfl (by decide)) rfl rfl ?_;refine M0 (q_ld1 rfl rfl rfl rfl rfl) rfl rfl ?_
    refine M0 (q_neqK rfl rfl rfl rfl (by assumption)) rfl rfl ?_;refine L_nil (T_n ?_);refine A_ifF rfl ?_;refine A_skip (T_n (A_seq (A_seq ?_)))
    refine A_region ?_;refine M0 (q_fldp rfl rfl rfl rfl (by decide)) rfl rfl ?_;refine M0 (q_ld1 rfl rfl rfl rfl rfl) rfl rfl ?_;refine M0 (q_fldp rfl rfl rfl rfl (by decide)) rfl rfl ?_
    refine M0 (q_ld1 rfl rfl rfl rfl rfl) rfl rfl ?_;refine M0 (q_neqK rfl rfl rfl rfl (by assumption)) rfl rfl ?_;refine L_nil (T_n ?_);refine A_ifT rfl ?_;refine A_seq ?_
    refine A_region ?_;refine M0 (q_assignC rfl rfl rfl) rfl rfl ?_;refine L_nil (T_n (A_ret (T_r (F_r ?_))))
    exact E_tmp rfl rfl (W_end [] (by decide) rfl rfl (B_eq (decide_eq_false fun e => e_Player (by rw [e])).symm))
  have e_Player := Classical.not_not.1 e_Player
  have k_Player : decide (x.Player ≠ y.Player) = false := by simp [e_Player]
  by_cases e_Add : ¬ x.Add = y.Add
  · have hk : decide (x.Add ≠ y.Add) = true := by simp [e_Add]
    refine Con.of Tryz.func106 rfl Tryz.ntmps106 rfl (fun E => ?_)
    refine A_seq (A_region ?_);refine M1 (q_boxN rfl rfl rfl rfl) rfl rfl ?_;refine M1 (q_boxN rfl rfl rfl rfl) rfl rfl ?_;refine M0 (q_assignC rfl rfl rfl) rfl rfl ?_
    refine L_nil (T_n (A_seq (A_seq (A_region ?_))));refine M0 (q_fldp rfl rfl rfl rfl (by decide)) rfl rfl ?_
    refine M0 (q_ld1 rfl rfl rfl rfl rfl) rfl rfl ?_;refine M0 (q_fldp rfl rfl rfl rfl (by decide)) rfl rfl ?_;refine M0 (q_ld1 rfl rfl rfl rfl rfl) rfl rfl ?_
    refine M0 (q_neqK rfl rfl rfl rfl (by assumption)) rfl rfl ?_;refine L_nil (T_n ?_);refine A_ifF rfl ?_;refine A_skip (T_n (A_seq (A_seq ?_)))
    refine A_region ?_;refine M0 (q_fldp rfl rfl rfl rfl (by decide)) rfl rfl ?_;refine M0 (q_ld1 rfl rfl rfl rfl rfl) rfl rfl ?_;refine M0 (q_fldp rfl rfl rfl rfl (by decide)) rfl rfl ?_
    refine M0 (q_ld1 rfl rfl rfl rfl rfl) rfl rfl ?_;refine M0 (q_neqK rfl rfl rfl rfl (by assumption)) rfl rfl ?_;refine L_nil (T_n ?_);refine A_ifF rfl ?_;refine A_skip ?_
    refine T_n (A_seq (A_seq (A_region ?_)));refine M0 (q_fldp rfl rfl rfl rfl (by decide)) rfl rfl ?_;refine M0 (q_ld1 rfl rfl rfl rfl rfl) rfl rfl ?_
    refine M0 (q_fldp rfl rfl rfl rfl (by decide)) rfl rfl ?_;refine M0 (q_ld1 rfl rfl rfl rfl rfl) rfl rfl ?_;refine M0 (q_neqK rfl rfl rfl rfl (by assumption)) rfl rfl ?_
    refine L_nil (T_n ?_);refine A_ifT rfl ?_;refine A_seq (A_region ?_);refine M0 (q_assignC rfl rfl rfl) rfl rfl ?_;refine L_nil (T_n (A_ret (T_r ?_)))
    refine F_r ?_
    exact E_tmp rfl rfl (W_end [] (by decide) rfl rfl (B_eq (decide_eq_false fun e => e_Add (by rw [e])).symm))
  have e_Add := Classical.not_not.1 e_Add
  have k_Add : decide (x.Add ≠ y.Add) = false := by simp [e_Add]
  refine Con.of Tryz.func106 rfl Tryz.ntmps106 rfl (fun E => ?_)
  refine A_seq (A_region ?_);refine M1 (q_boxN rfl rfl rfl rfl) rfl rfl ?_;refine M1 (q_boxN rfl rfl rfl rfl) rfl rfl ?_;refine M0 (q_assignC rfl rfl rfl) rfl rfl ?_
  refine L_nil (T_n (A_seq (A_seq (A_region ?_))));refine M0 (q_fldp rfl rfl rfl rfl (by decide)) rfl rfl ?_
  refine M0 (q_ld1 rfl rfl rfl rfl rfl) rfl rfl ?_;refine M0 (q_fldp rfl rfl rfl rfl (by decide)) rfl rfl ?_;refine M0 (q_ld1 rfl rfl rfl rfl rfl) rfl rfl ?_
  refine M0 (q_neqK rfl rfl rfl rfl (by assumption)) rfl rfl ?_;refine L_nil (T_n ?_);refine A_ifF rfl ?_;refine A_skip (T_n (A_seq (A_seq ?_)))
  refine A_region ?_;refine M0 (q_fldp rfl rfl rfl rfl (by decide)) rfl rfl ?_;refine M0 (q_ld1 rfl rfl rfl rfl rfl) rfl rfl ?_;refine M0 (q_fldp rfl rfl rfl rfl (by decide)) rfl rfl ?_
  refine M0 (q_ld1 rfl rfl rfl rfl rfl) rfl rfl ?_;refine M0 (q_neqK rfl rfl rfl rfl (by assumption)) rfl rfl ?_;refine L_nil (T_n ?_);refine A_ifF rfl ?_;refine A_skip ?_
  refine T_n (A_seq (A_seq (A_region ?_)));refine M0 (q_fldp rfl rfl rfl rfl (by decide)) rfl rfl ?_;refine M0 (q_ld1 rfl rfl rfl rfl rfl) rfl rfl ?_
  refine M0 (q_fldp rfl rfl rfl rfl (by decide)) rfl rfl ?_;refine M0 (q_ld1 rfl rfl rfl rfl rfl) rfl rfl ?_;refine M0 (q_neqK rfl rfl rfl rfl (by assumption)) rfl rfl ?_
  refine L_nil (T_n ?_);refine A_ifF rfl ?_;refine A_skip (T_n (A_seq (A_region ?_)));refine M0 (q_assignC rfl rfl rfl) rfl rfl ?_;refine L_nil ?_
  refine T_n (A_ret (F_r ?_))
  exact E_tmp rfl rfl (W_end [] (by decide) rfl rfl (B_eq (decide_eq_true (TFault.same e_Tick e_Player e_Add)).symm))
set_option maxHeartbeats 1000000 in
theorem sz_TrackS (xs : List TTrack) (left : Int) (hg : Enc.gd xs) (h0 : 0 ≤ left) (h1 : left ≤ 1048576) : Con Tryz.prog 84 [] [al xs,ai left] [] (I (szr (Enc.wt xs) left)) := by
  have hlen := els_len xs
  have hx := hg.1
  have hw : Enc.wt xs = xs.length + wts xs := rfl
  refine Con.of Tryz.func84 rfl Tryz.ntmps84 rfl (fun E => ?_)
  refine A_seq (A_region ?_);refine M0 (q_assignC rfl rfl rfl) rfl rfl ?_;refine L_nil (T_n (A_seq (A_region ?_)));refine M0 (q_moveC rfl rfl rfl) rfl rfl ?_
  refine M0 (q_moveC rfl rfl rfl) rfl rfl ?_;refine M0 (q_len rfl rfl rfl) rfl rfl ?_;refine M0 (q_sub rfl rfl rfl rfl (by omega)) rfl rfl ?_
  refine M0 (q_assignC rfl rfl rfl) rfl rfl ?_;refine L_nil (T_n (A_seq (A_seq (A_region ?_))));refine M0 (q_moveC rfl rfl rfl) rfl rfl ?_
  refine M0 (q_lss rfl rfl rfl rfl) rfl rfl ?_;refine L_nil (T_n ?_)
  refine A_cond rfl (fun h => ?_) (fun h => ?_)
  · refine A_seq (A_region ?_);refine M0 (q_assignC rfl rfl rfl) rfl rfl ?_;refine L_nil (T_n (A_ret (T_r (F_r ?_))))
    have h2 := of_decide_eq_true h
    exact E_tmp rfl rfl (W_end [] (by decide) rfl rfl (I_eq (by rw [szr_neg (by omega)])))
  have h2 : ¬ (left - ((els xs).length : Int) < 0) := of_decide_eq_false h
  refine A_skip (T_n (A_seq (A_seq (A_region ?_))));refine M0 (q_assignC rfl rfl rfl) rfl rfl ?_;refine L_nil (T_n (A_block ?_))
  refine A_loop (fun m st => ∃ k : Nat,k + m = xs.length ∧ (((xs.length : Int) + wts (xs.take k) ≤ left)) ∧ st = (fun k : Nat => (⟨_,[(0,L xs),(1,I (left - (xs.length + wts (xs.take k)))),(5,I k)],[]⟩ : St)) k) (xs.length) ⟨(fun k : Nat => (⟨_,[(0,L xs),(1,I (left - (xs.length + wts (xs.take k)))),(5,I k)],[]⟩ : St)) 0,W_go [] (by decide) rfl (rfl) (.cons rfl (.cons (I_eq (by simp [els,wts])) (.cons rfl (.nil)))),0,by omega,by simp [wts]; omega,rfl⟩ ?_
  rintro m_A _ ⟨k,hk_A,hp_A,rfl⟩
  refine A_seq (A_seq (A_region ?_));refine M0 (q_moveC rfl rfl rfl) rfl rfl ?_;refine M0 (q_moveC rfl rfl rfl) rfl rfl ?_;refine M0 (q_len rfl rfl rfl) rfl rfl ?_
  refine M0 (q_lss rfl rfl rfl rfl) rfl rfl ?_;refine L_nil (T_n ?_)
  refine A_cond rfl (fun h => ?_) (fun h => ?_)
  · have h3 : k < xs.length := by have := of_decide_eq_true h; omega
    have hat := els_at h3
    have hstep := wts_take xs k h3
    have hle := wts_take_le xs (k + 1)
    have hc := sz_Track xs[k] (left - ((xs.length : Int) + wts (xs.take k))) (hg.2 _ (List.getElem_mem h3)) (by omega) (by omega)
    by_cases h4 : left - ((xs.length : Int) + wts (xs.take k)) < Enc.wt xs[k]
    · rw [szr_neg h4] at hc
      have hb : decide ((-1 : Int) < 0) = true := rfl
      refine A_skip (T_n (A_seq (A_block (A_seq (A_region ?_)))));refine M0 (q_moveC rfl rfl rfl) rfl rfl ?_;refine M0 (q_moveC rfl rfl rfl) rfl rfl ?_
      refine M0 (q_at rfl rfl rfl rfl (by omega) (by assumption) rfl) rfl rfl ?_;refine M0 (q_lrN rfl rfl rfl rfl rfl) rfl rfl ?_;refine M0 (q_moveC rfl rfl rfl) rfl rfl ?_
      refine M0 (q_call0 rfl rfl (hc) rfl) rfl rfl ?_;refine M0 (q_assignC rfl rfl rfl) rfl rfl ?_;refine L_nil (T_n (A_seq (A_region ?_)))
      refine M0 (q_moveC rfl rfl rfl) rfl rfl ?_;refine M0 (q_lssK rfl rfl rfl rfl (by assumption)) rfl rfl ?_;refine L_nil (T_n ?_);refine A_ifT rfl ?_;refine A_seq ?_
      refine A_region ?_;refine M0 (q_assignC rfl rfl rfl) rfl rfl ?_;refine L_nil (T_n (A_ret (B_r (T_r (T_r (B_r (T_r ?_)))))))
      refine F_r ?_
      exact E_tmp rfl rfl (W_end [] (by decide) rfl rfl (I_eq (by rw [szr_neg (by omega)])))
    · rw [szr_pos (by omega)] at hc
      have hb : decide (left - ((xs.length : Int) + wts (xs.take k)) - Enc.wt xs[k] < 0) = false := decide_eq_false (by omega)
      refine A_skip (T_n (A_seq (A_block (A_seq (A_region ?_)))));refine M0 (q_moveC rfl rfl rfl) rfl rfl ?_;refine M0 (q_moveC rfl rfl rfl) rfl rfl ?_
      refine M0 (q_at rfl rfl rfl rfl (by omega) (by assumption) rfl) rfl rfl ?_;refine M0 (q_lrN rfl rfl rfl rfl rfl) rfl rfl ?_;refine M0 (q_moveC rfl rfl rfl) rfl rfl ?_
      refine M0 (q_call0 rfl rfl (hc) rfl) rfl rfl ?_;refine M0 (q_assignC rfl rfl rfl) rfl rfl ?_;refine L_nil (T_n (A_seq (A_region ?_)))
      refine M0 (q_moveC rfl rfl rfl) rfl rfl ?_;refine M0 (q_lssK rfl rfl rfl rfl (by assumption)) rfl rfl ?_;refine L_nil (T_n ?_);refine A_ifF rfl ?_;refine A_skip (B_n ?_)
      refine T_n (A_region ?_);refine M0 (q_moveC rfl rfl rfl) rfl rfl ?_;refine M0 (q_add rfl rfl rfl rfl (by omega)) rfl rfl ?_;refine M0 (q_assignC rfl rfl rfl) rfl rfl ?_
      refine L_nil (T_n ?_)
      exact ⟨xs.length - (k + 1),by omega,(fun k : Nat => (⟨_,[(0,L xs),(1,I (left - (xs.length + wts (xs.take k)))),(5,I k)],[]⟩ : St)) (k + 1),W_go [] (by decide) rfl (rfl) (.cons rfl (.cons (I_eq (by rw [hstep]; omega)) (.cons rfl (.nil)))),k + 1,by omega,by omega,rfl⟩
  · have h3 : ¬ ((k : Int) < (els xs).length) := of_decide_eq_false h
    have hk : wts (xs.take k) = wts xs := by rw [List.take_of_length_le (by omega)]
    refine A_exit (T_x (T_x (B_xs (T_n (A_seq (A_region ?_))))));refine M0 (q_moveC rfl rfl rfl) rfl rfl ?_
    refine M0 (q_assignC rfl rfl rfl) rfl rfl ?_;refine L_nil (T_n (A_ret (F_r ?_)))
    exact E_tmp rfl rfl (W_end [] (by decide) rfl rfl (I_eq (by rw [szr_pos (by omega)]; omega)))
set_option maxHeartbeats 1000000 in
theorem sz_SaveS (xs : List TSave) (left : Int) (hg : Enc.gd xs) (h0 : 0 ≤ left) (h1 : left ≤ 1048576) : Con Tryz.prog 86 [] [al xs,ai left] [] (I (szr (Enc.wt xs) left)) := by
  have hlen := els_len xs
  have hx := hg.1
  have hw : Enc.wt xs = xs.length + wts xs := rfl
  refine Con.of Tryz.func86 rfl Tryz.ntmps86 rfl (fun E => ?_)
  refine A_seq (A_region ?_);refine M0 (q_assignC rfl rfl rfl) rfl rfl ?_;refine L_nil (T_n (A_seq (A_region ?_)));refine M0 (q_moveC rfl rfl rfl) rfl rfl ?_
  refine M0 (q_moveC rfl rfl rfl) rfl rfl ?_;refine M0 (q_len rfl rfl rfl) rfl rfl ?_;refine M0 (q_sub rfl rfl rfl rfl (by omega)) rfl rfl ?_
  refine M0 (q_assignC rfl rfl rfl) rfl rfl ?_;refine L_nil (T_n (A_seq (A_seq (A_region ?_))));refine M0 (q_moveC rfl rfl rfl) rfl rfl ?_
  refine M0 (q_lss rfl rfl rfl rfl) rfl rfl ?_;refine L_nil (T_n ?_)
  refine A_cond rfl (fun h => ?_) (fun h => ?_)
  · refine A_seq (A_region ?_);refine M0 (q_assignC rfl rfl rfl) rfl rfl ?_;refine L_nil (T_n (A_ret (T_r (F_r ?_))))
    have h2 := of_decide_eq_true h
    exact E_tmp rfl rfl (W_end [] (by decide) rfl rfl (I_eq (by rw [szr_neg (by omega)])))
  have h2 : ¬ (left - ((els xs).length : Int) < 0) := of_decide_eq_false h
  refine A_skip (T_n (A_seq (A_seq (A_region ?_))));refine M0 (q_assignC rfl rfl rfl) rfl rfl ?_;refine L_nil (T_n (A_block ?_))
  refine A_loop (fun m st => ∃ k : Nat,k + m = xs.length ∧ (((xs.length : Int) + wts (xs.take k) ≤ left)) ∧ st = (fun k : Nat => (⟨_,[(0,L xs),(1,I (left - (xs.length + wts (xs.take k)))),(5,I k)],[]⟩ : St)) k) (xs.length) ⟨(fun k : Nat => (⟨_,[(0,L xs),(1,I (left - (xs.length + wts (xs.take k)))),(5,I k)],[]⟩ : St)) 0,W_go [] (by decide) rfl (rfl) (.cons rfl (.cons (I_eq (by simp [els,wts])) (.cons rfl (.nil)))),0,by omega,by simp [wts]; omega,rfl⟩ ?_
  rintro m_A _ ⟨k,hk_A,hp_A,rfl⟩
  refine A_seq (A_seq (A_region ?_));refine M0 (q_moveC rfl rfl rfl) rfl rfl ?_;refine M0 (q_moveC rfl rfl rfl) rfl rfl ?_;refine M0 (q_len rfl rfl rfl) rfl rfl ?_
  refine M0 (q_lss rfl rfl rfl rfl) rfl rfl ?_;refine L_nil (T_n ?_)
  refine A_cond rfl (fun h => ?_) (fun h => ?_)
  · have h3 : k < xs.length := by have := of_decide_eq_true h; omega
    have hat := els_at h3
    have hstep := wts_take xs k h3
    have hle := wts_take_le xs (k + 1)
    have hc := sz_Save xs[k] (left - ((xs.length : Int) + wts (xs.take k))) (hg.2 _ (List.getElem_mem h3)) (by omega) (by omega)
    by_cases h4 : left - ((xs.length : Int) + wts (xs.take k)) < Enc.wt xs[k]
    · rw [szr_neg h4] at hc
      have hb : decide ((-1 : Int) < 0) = true := rfl
      refine A_skip (T_n (A_seq (A_block (A_seq (A_region ?_)))));refine M0 (q_moveC rfl rfl rfl) rfl rfl ?_;refine M0 (q_moveC rfl rfl rfl) rfl rfl ?_
      refine M0 (q_at rfl rfl rfl rfl (by omega) (by assumption) rfl) rfl rfl ?_;refine M0 (q_lrN rfl rfl rfl rfl rfl) rfl rfl ?_;refine M0 (q_moveC rfl rfl rfl) rfl rfl ?_
      refine M0 (q_call0 rfl rfl (hc) rfl) rfl rfl ?_;refine M0 (q_assignC rfl rfl rfl) rfl rfl ?_;refine L_nil (T_n (A_seq (A_region ?_)))
      refine M0 (q_moveC rfl rfl rfl) rfl rfl ?_;refine M0 (q_lssK rfl rfl rfl rfl (by assumption)) rfl rfl ?_;refine L_nil (T_n ?_);refine A_ifT rfl ?_;refine A_seq ?_
      refine A_region ?_;refine M0 (q_assignC rfl rfl rfl) rfl rfl ?_;refine L_nil (T_n (A_ret (B_r (T_r (T_r (B_r (T_r ?_)))))))
      refine F_r ?_
      exact E_tmp rfl rfl (W_end [] (by decide) rfl rfl (I_eq (by rw [szr_neg (by omega)])))
    · rw [szr_pos (by omega)] at hc
      have hb : decide (left - ((xs.length : Int) + wts (xs.take k)) - Enc.wt xs[k] < 0) = false := decide_eq_false (by omega)
      refine A_skip (T_n (A_seq (A_block (A_seq (A_region ?_)))));refine M0 (q_moveC rfl rfl rfl) rfl rfl ?_;refine M0 (q_moveC rfl rfl rfl) rfl rfl ?_
      refine M0 (q_at rfl rfl rfl rfl (by omega) (by assumption) rfl) rfl rfl ?_;refine M0 (q_lrN rfl rfl rfl rfl rfl) rfl rfl ?_;refine M0 (q_moveC rfl rfl rfl) rfl rfl ?_
      refine M0 (q_call0 rfl rfl (hc) rfl) rfl rfl ?_;refine M0 (q_assignC rfl rfl rfl) rfl rfl ?_;refine L_nil (T_n (A_seq (A_region ?_)))
      refine M0 (q_moveC rfl rfl rfl) rfl rfl ?_;refine M0 (q_lssK rfl rfl rfl rfl (by assumption)) rfl rfl ?_;refine L_nil (T_n ?_);refine A_ifF rfl ?_;refine A_skip (B_n ?_)
      refine T_n (A_region ?_);refine M0 (q_moveC rfl rfl rfl) rfl rfl ?_;refine M0 (q_add rfl rfl rfl rfl (by omega)) rfl rfl ?_;refine M0 (q_assignC rfl rfl rfl) rfl rfl ?_
      refine L_nil (T_n ?_)
      exact ⟨xs.length - (k + 1),by omega,(fun k : Nat => (⟨_,[(0,L xs),(1,I (left - (xs.length + wts (xs.take k)))),(5,I k)],[]⟩ : St)) (k + 1),W_go [] (by decide) rfl (rfl) (.cons rfl (.cons (I_eq (by rw [hstep]; omega)) (.cons rfl (.nil)))),k + 1,by omega,by omega,rfl⟩
  · have h3 : ¬ ((k : Int) < (els xs).length) := of_decide_eq_false h
    have hk : wts (xs.take k) = wts xs := by rw [List.take_of_length_le (by omega)]
    refine A_exit (T_x (T_x (B_xs (T_n (A_seq (A_region ?_))))));refine M0 (q_moveC rfl rfl rfl) rfl rfl ?_
    refine M0 (q_assignC rfl rfl rfl) rfl rfl ?_;refine L_nil (T_n (A_ret (F_r ?_)))
    exact E_tmp rfl rfl (W_end [] (by decide) rfl rfl (I_eq (by rw [szr_pos (by omega)]; omega)))
def zSave : List T := [.v (.int .i64 0),.v (.string ⟨#[]⟩)]
def zTrack : List T := [.sl 1 []]
set_option maxHeartbeats 1000000 in
theorem to_TrackS (xs : List TTrack) (hg : Enc.wt xs ≤ 1048576) : Con Tryz.prog 91 [] [al xs] [.row 1 (els xs)] (.o (.c (.ref 0))) := by
  have hlen := els_len xs
  have hw : Enc.wt xs = xs.length + wts xs := rfl
  refine Con.of Tryz.func91 rfl Tryz.ntmps91 rfl (fun E => ?_)
  refine A_seq (A_region ?_);refine M0 (q_assignC rfl rfl rfl) rfl rfl ?_;refine L_nil (T_n (A_seq (A_region ?_)));refine M0 (q_moveC rfl rfl rfl) rfl rfl ?_
  refine M0 (q_len rfl rfl rfl) rfl rfl ?_;refine M1 (q_make 1 rfl rfl rfl rfl (by omega) (by omega) (by omega) rfl (by decide)) rfl rfl ?_;refine M0 (q_assignC rfl rfl rfl) rfl rfl ?_
  refine L_nil (T_n (A_seq (A_seq (A_region ?_))));refine M0 (q_assignC rfl rfl rfl) rfl rfl ?_;refine L_nil (T_n (A_block ?_))
  refine A_loop (fun m st => ∃ k : Nat,k + m = xs.length ∧ (True) ∧ st = (fun k : Nat => (⟨_,[(0,L xs),(3,.o (.c (.ref 0))),(4,I k)],[.row 1 (part xs zTrack k)]⟩ : St)) k) (xs.length) ⟨(fun k : Nat => (⟨_,[(0,L xs),(3,.o (.c (.ref 0))),(4,I k)],[.row 1 (part xs zTrack k)]⟩ : St)) 0,W_go [0] (by decide) rfl (row_eq (part_zero xs _)) (.cons rfl (.cons rfl (.cons rfl (.nil)))),0,by omega,trivial,rfl⟩ ?_
  rintro m_A _ ⟨k,hk_A,hp_A,rfl⟩
  refine A_seq (A_seq (A_region ?_));refine M0 (q_moveC rfl rfl rfl) rfl rfl ?_;refine M0 (q_moveC rfl rfl rfl) rfl rfl ?_;refine M0 (q_len rfl rfl rfl) rfl rfl ?_
  refine M0 (q_lss rfl rfl rfl rfl) rfl rfl ?_;refine L_nil (T_n ?_)
  refine A_cond rfl (fun h => ?_) (fun h => ?_)
  · have h3 : k < xs.length := by have := of_decide_eq_true h; omega
    have hat := els_at h3
    have hz := part_at xs zTrack h3
    have hpl : (k : Int) < (part xs zTrack k).length := by rw [part_len xs _ (by omega)]; omega
    have hwt : Enc.wt xs[k] ≤ wts xs := wts_le xs _ (List.getElem_mem h3)
    have hc := to_Track xs[k] (by omega)
    refine A_skip (T_n (A_seq (A_block (A_region ?_))));refine M0 (q_moveC rfl rfl rfl) rfl rfl ?_;refine M0 (q_moveC rfl rfl rfl) rfl rfl ?_
    refine M0 (q_moveC rfl rfl rfl) rfl rfl ?_;refine M0 (q_moveC rfl rfl rfl) rfl rfl ?_;refine M0 (q_at rfl rfl rfl rfl (by omega) (by assumption) rfl) rfl rfl ?_
    refine M0 (q_lrN rfl rfl rfl rfl rfl) rfl rfl ?_;refine M1 (q_call rfl rfl (hc) rfl rfl rfl) rfl rfl ?_;refine M0 (q_ar rfl rfl rfl rfl rfl (by omega) (by assumption)) rfl rfl ?_
    refine M_steN rfl rfl rfl rfl rfl rfl rfl rfl rfl rfl (by assumption) rfl rfl ?_;refine L_nil (B_n (T_n (A_region ?_)))
    refine M0 (q_moveC rfl rfl rfl) rfl rfl ?_;refine M0 (q_add rfl rfl rfl rfl (by omega)) rfl rfl ?_;refine M0 (q_assignC rfl rfl rfl) rfl rfl ?_;refine L_nil (T_n ?_)
    exact ⟨xs.length - (k + 1),by omega,(fun k : Nat => (⟨_,[(0,L xs),(3,.o (.c (.ref 0))),(4,I k)],[.row 1 (part xs zTrack k)]⟩ : St)) (k + 1),W_go [0] (by decide) rfl (row_eq (part_set xs zTrack h3 _ (by rfl) (by rfl)).symm) (.cons rfl (.cons rfl (.cons rfl (.nil)))),k + 1,by omega,trivial,rfl⟩
  · have h3 : ¬ ((k : Int) < (els xs).length) := of_decide_eq_false h
    refine A_exit (T_x (T_x (B_xs (T_n (A_seq (A_region ?_))))));refine M0 (q_moveC rfl rfl rfl) rfl rfl ?_
    refine M0 (q_assignC rfl rfl rfl) rfl rfl ?_;refine L_nil (T_n (A_ret (F_r ?_)))
    exact E_tmp rfl rfl (W_end [0] (by decide) rfl (row_eq (part_all xs _ (by omega)).symm) rfl)
set_option maxHeartbeats 1000000 in
theorem to_SaveS (xs : List TSave) (hg : Enc.wt xs ≤ 1048576) : Con Tryz.prog 93 [] [al xs] [.row 2 (els xs)] (.o (.c (.ref 0))) := by
  have hlen := els_len xs
  have hw : Enc.wt xs = xs.length + wts xs := rfl
  refine Con.of Tryz.func93 rfl Tryz.ntmps93 rfl (fun E => ?_)
  refine A_seq (A_region ?_);refine M0 (q_assignC rfl rfl rfl) rfl rfl ?_;refine L_nil (T_n (A_seq (A_region ?_)));refine M0 (q_moveC rfl rfl rfl) rfl rfl ?_
  refine M0 (q_len rfl rfl rfl) rfl rfl ?_;refine M1 (q_make 0 rfl rfl rfl rfl (by omega) (by omega) (by omega) rfl (by decide)) rfl rfl ?_;refine M0 (q_assignC rfl rfl rfl) rfl rfl ?_
  refine L_nil (T_n (A_seq (A_seq (A_region ?_))));refine M0 (q_assignC rfl rfl rfl) rfl rfl ?_;refine L_nil (T_n (A_block ?_))
  refine A_loop (fun m st => ∃ k : Nat,k + m = xs.length ∧ (True) ∧ st = (fun k : Nat => (⟨_,[(0,L xs),(3,.o (.c (.ref 0))),(4,I k)],[.row 2 (part xs zSave k)]⟩ : St)) k) (xs.length) ⟨(fun k : Nat => (⟨_,[(0,L xs),(3,.o (.c (.ref 0))),(4,I k)],[.row 2 (part xs zSave k)]⟩ : St)) 0,W_go [0] (by decide) rfl (row_eq (part_zero xs _)) (.cons rfl (.cons rfl (.cons rfl (.nil)))),0,by omega,trivial,rfl⟩ ?_
  rintro m_A _ ⟨k,hk_A,hp_A,rfl⟩
  refine A_seq (A_seq (A_region ?_));refine M0 (q_moveC rfl rfl rfl) rfl rfl ?_;refine M0 (q_moveC rfl rfl rfl) rfl rfl ?_;refine M0 (q_len rfl rfl rfl) rfl rfl ?_
  refine M0 (q_lss rfl rfl rfl rfl) rfl rfl ?_;refine L_nil (T_n ?_)
  refine A_cond rfl (fun h => ?_) (fun h => ?_)
  · have h3 : k < xs.length := by have := of_decide_eq_true h; omega
    have hat := els_at h3
    have hz := part_at xs zSave h3
    have hpl : (k : Int) < (part xs zSave k).length := by rw [part_len xs _ (by omega)]; omega
    have hwt : Enc.wt xs[k] ≤ wts xs := wts_le xs _ (List.getElem_mem h3)
    have hc := to_Save xs[k] (by omega)
    refine A_skip (T_n (A_seq (A_block (A_region ?_))));refine M0 (q_moveC rfl rfl rfl) rfl rfl ?_;refine M0 (q_moveC rfl rfl rfl) rfl rfl ?_
    refine M0 (q_moveC rfl rfl rfl) rfl rfl ?_;refine M0 (q_moveC rfl rfl rfl) rfl rfl ?_;refine M0 (q_at rfl rfl rfl rfl (by omega) (by assumption) rfl) rfl rfl ?_
    refine M0 (q_lrN rfl rfl rfl rfl rfl) rfl rfl ?_;refine M1 (q_call rfl rfl (hc) rfl rfl rfl) rfl rfl ?_;refine M0 (q_ar rfl rfl rfl rfl rfl (by omega) (by assumption)) rfl rfl ?_
    refine M_steN rfl rfl rfl rfl rfl rfl rfl rfl rfl rfl (by assumption) rfl rfl ?_;refine L_nil (B_n (T_n (A_region ?_)))
    refine M0 (q_moveC rfl rfl rfl) rfl rfl ?_;refine M0 (q_add rfl rfl rfl rfl (by omega)) rfl rfl ?_;refine M0 (q_assignC rfl rfl rfl) rfl rfl ?_;refine L_nil (T_n ?_)
    exact ⟨xs.length - (k + 1),by omega,(fun k : Nat => (⟨_,[(0,L xs),(3,.o (.c (.ref 0))),(4,I k)],[.row 2 (part xs zSave k)]⟩ : St)) (k + 1),W_go [0] (by decide) rfl (row_eq (part_set xs zSave h3 _ (by rfl) (by rfl)).symm) (.cons rfl (.cons rfl (.cons rfl (.nil)))),k + 1,by omega,trivial,rfl⟩
  · have h3 : ¬ ((k : Int) < (els xs).length) := of_decide_eq_false h
    refine A_exit (T_x (T_x (B_xs (T_n (A_seq (A_region ?_))))));refine M0 (q_moveC rfl rfl rfl) rfl rfl ?_
    refine M0 (q_assignC rfl rfl rfl) rfl rfl ?_;refine L_nil (T_n (A_ret (F_r ?_)))
    exact E_tmp rfl rfl (W_end [0] (by decide) rfl (row_eq (part_all xs _ (by omega)).symm) rfl)
set_option maxHeartbeats 1000000 in
theorem eq_TrackS (xs ys : List TTrack) (hn : Enc.gd xs) : Con Tryz.prog 103 [] [al xs,al ys] [] (B (decide (xs = ys))) := by
  have hn1 := hn.1
  have hlx := els_len xs
  have hly := els_len ys
  by_cases hl : xs.length = ys.length
  · have hb : decide (((els xs).length : Int) ≠ ((els ys).length : Int)) = false := by rw [hlx,hly,hl]; simp
    refine Con.of Tryz.func103 rfl Tryz.ntmps103 rfl (fun E => ?_)
    refine A_seq (A_region ?_);refine M0 (q_assignC rfl rfl rfl) rfl rfl ?_;refine L_nil (T_n (A_seq (A_seq (A_region ?_))))
    refine M0 (q_moveC rfl rfl rfl) rfl rfl ?_;refine M0 (q_len rfl rfl rfl) rfl rfl ?_;refine M0 (q_moveC rfl rfl rfl) rfl rfl ?_;refine M0 (q_len rfl rfl rfl) rfl rfl ?_
    refine M0 (q_neqK rfl rfl rfl rfl (by assumption)) rfl rfl ?_;refine L_nil (T_n ?_);refine A_ifF rfl ?_;refine A_skip (T_n (A_seq (A_seq ?_)))
    refine A_region ?_;refine M0 (q_assignC rfl rfl rfl) rfl rfl ?_;refine L_nil (T_n (A_block ?_))
    refine A_loop (fun m st => ∃ k : Nat,k + m = xs.length ∧ (xs.take k = ys.take k) ∧ st = (fun k : Nat => (⟨_,[(0,L xs),(1,L ys),(5,I k)],[]⟩ : St)) k) (xs.length) ⟨(fun k : Nat => (⟨_,[(0,L xs),(1,L ys),(5,I k)],[]⟩ : St)) 0,W_go [] (by decide) rfl (rfl) (.cons rfl (.cons rfl (.cons rfl (.nil)))),0,by omega,by simp,rfl⟩ ?_
    rintro m_A _ ⟨k,hk_A,hp_A,rfl⟩
    refine A_seq (A_seq (A_region ?_));refine M0 (q_moveC rfl rfl rfl) rfl rfl ?_;refine M0 (q_moveC rfl rfl rfl) rfl rfl ?_;refine M0 (q_len rfl rfl rfl) rfl rfl ?_
    refine M0 (q_lss rfl rfl rfl rfl) rfl rfl ?_;refine L_nil (T_n ?_)
    refine A_cond rfl (fun h => ?_) (fun h => ?_)
    · have h3 : k < xs.length := by have := of_decide_eq_true h; omega
      have h4 : k < ys.length := by omega
      have hat := els_at h3
      have hat2 := els_at h4
      have hc := eq_Track xs[k] ys[k] (hn.2 _ (List.getElem_mem h3))
      by_cases he : xs[k] = ys[k]
      · rw [decide_eq_true he] at hc
        refine A_skip (T_n (A_seq (A_block (A_seq ?_))))
        refine A_draw [[],[],[0,1],[0,1,2],[],[],[4,5],[4,5,6],[0,1,2,3,4,5,6,7],[0,1,2,3,4,5,6,7,8]] [[],[],[17,18],[17,18,19],[],[],[21,22],[21,22,23],[17,18,19,20,21,22,23,24],[17,18,19,20,21,22,23,24,25]] [[18,21,22,23,24],[17,21,22,23,24],[21,22,23,24],[21,22,23,24],[17,18,19,20,22],[17,18,19,20,21],[17,18,19,20],[17,18,19,20],[],[]] rfl ?_
        refine DR.step (q_moveC rfl rfl rfl) rfl rfl ?_;refine DR.step (q_moveC rfl rfl rfl) rfl rfl ?_;refine DR.step (q_at rfl rfl rfl rfl (by omega) (by assumption) rfl) rfl rfl ?_
        refine DR.step (q_lrN rfl rfl rfl rfl rfl) rfl rfl ?_;refine DR.step (q_moveC rfl rfl rfl) rfl rfl ?_;refine DR.step (q_moveC rfl rfl rfl) rfl rfl ?_
        refine DR.step (q_at rfl rfl rfl rfl (by omega) (by assumption) rfl) rfl rfl ?_;refine DR.step (q_lrN rfl rfl rfl rfl rfl) rfl rfl ?_
        refine DR.step (q_call0 rfl rfl (hc) rfl) rfl rfl ?_;refine DR.step (q_not rfl rfl rfl) rfl rfl ?_;refine DR.stop (by kernel_rfl) (by kernel_rfl) ?_
        refine L_nil (T_n ?_);refine A_ifF rfl ?_;refine A_skip (B_n (T_n (A_region ?_)));refine M0 (q_moveC rfl rfl rfl) rfl rfl ?_
        refine M0 (q_add rfl rfl rfl rfl (by omega)) rfl rfl ?_;refine M0 (q_assignC rfl rfl rfl) rfl rfl ?_;refine L_nil (T_n ?_)
        exact ⟨xs.length - (k + 1),by omega,(fun k : Nat => (⟨_,[(0,L xs),(1,L ys),(5,I k)],[]⟩ : St)) (k + 1),W_go [] (by decide) rfl (rfl) (.cons rfl (.cons rfl (.cons rfl (.nil)))),k + 1,by omega,eq_next h3 h4 hp_A he,rfl⟩
      · rw [decide_eq_false he] at hc
        refine A_skip (T_n (A_seq (A_block (A_seq ?_))))
        refine A_draw [[],[],[0,1],[0,1,2],[],[],[4,5],[4,5,6],[0,1,2,3,4,5,6,7],[0,1,2,3,4,5,6,7,8]] [[],[],[17,18],[17,18,19],[],[],[21,22],[21,22,23],[17,18,19,20,21,22,23,24],[17,18,19,20,21,22,23,24,25]] [[18,21,22,23,24],[17,21,22,23,24],[21,22,23,24],[21,22,23,24],[17,18,19,20,22],[17,18,19,20,21],[17,18,19,20],[17,18,19,20],[],[]] rfl ?_
        refine DR.step (q_moveC rfl rfl rfl) rfl rfl ?_;refine DR.step (q_moveC rfl rfl rfl) rfl rfl ?_;refine DR.step (q_at rfl rfl rfl rfl (by omega) (by assumption) rfl) rfl rfl ?_
        refine DR.step (q_lrN rfl rfl rfl rfl rfl) rfl rfl ?_;refine DR.step (q_moveC rfl rfl rfl) rfl rfl ?_;refine DR.step (q_moveC rfl rfl rfl) rfl rfl ?_
        refine DR.step (q_at rfl rfl rfl rfl (by omega) (by assumption) rfl) rfl rfl ?_;refine DR.step (q_lrN rfl rfl rfl rfl rfl) rfl rfl ?_
        refine DR.step (q_call0 rfl rfl (hc) rfl) rfl rfl ?_;refine DR.step (q_not rfl rfl rfl) rfl rfl ?_;refine DR.stop (by kernel_rfl) (by kernel_rfl) ?_
        refine L_nil (T_n ?_);refine A_ifT rfl ?_;refine A_seq (A_region ?_);refine M0 (q_assignC rfl rfl rfl) rfl rfl ?_;refine L_nil (T_n (A_ret (B_r ?_)))
        refine T_r (T_r (B_r (T_r (F_r ?_))))
        exact E_tmp rfl rfl (W_end [] (by decide) rfl rfl (B_eq (eq_ne h3 h4 he).symm))
    · have h3 : ¬ ((k : Int) < (els xs).length) := of_decide_eq_false h
      refine A_exit (T_x (T_x (B_xs (T_n (A_seq (A_region ?_))))));refine M0 (q_assignC rfl rfl rfl) rfl rfl ?_;refine L_nil (T_n ?_)
      refine A_ret (F_r ?_)
      exact E_tmp rfl rfl (W_end [] (by decide) rfl rfl (B_eq (eq_all (by omega) hl hp_A).symm))
  · have hb : decide (((els xs).length : Int) ≠ ((els ys).length : Int)) = true := by rw [hlx,hly]; simp; omega
    refine Con.of Tryz.func103 rfl Tryz.ntmps103 rfl (fun E => ?_)
    refine A_seq (A_region ?_);refine M0 (q_assignC rfl rfl rfl) rfl rfl ?_;refine L_nil (T_n (A_seq (A_seq (A_region ?_))))
    refine M0 (q_moveC rfl rfl rfl) rfl rfl ?_;refine M0 (q_len rfl rfl rfl) rfl rfl ?_;refine M0 (q_moveC rfl rfl rfl) rfl rfl ?_;refine M0 (q_len rfl rfl rfl) rfl rfl ?_
    refine M0 (q_neqK rfl rfl rfl rfl (by assumption)) rfl rfl ?_;refine L_nil (T_n ?_);refine A_ifT rfl ?_;refine A_seq (A_region ?_)
    refine M0 (q_assignC rfl rfl rfl) rfl rfl ?_;refine L_nil (T_n (A_ret (T_r (F_r ?_))))
    exact E_tmp rfl rfl (W_end [] (by decide) rfl rfl (B_eq (eq_len hl).symm))
set_option maxHeartbeats 1000000 in
theorem eq_SaveS (xs ys : List TSave) (hn : Enc.gd xs) : Con Tryz.prog 105 [] [al xs,al ys] [] (B (decide (xs = ys))) := by
  have hn1 := hn.1
  have hlx := els_len xs
  have hly := els_len ys
  by_cases hl : xs.length = ys.length
  · have hb : decide (((els xs).length : Int) ≠ ((els ys).length : Int)) = false := by rw [hlx,hly,hl]; simp
    refine Con.of Tryz.func105 rfl Tryz.ntmps105 rfl (fun E => ?_)
    refine A_seq (A_region ?_);refine M0 (q_assignC rfl rfl rfl) rfl rfl ?_;refine L_nil (T_n (A_seq (A_seq (A_region ?_))))
    refine M0 (q_moveC rfl rfl rfl) rfl rfl ?_;refine M0 (q_len rfl rfl rfl) rfl rfl ?_;refine M0 (q_moveC rfl rfl rfl) rfl rfl ?_;refine M0 (q_len rfl rfl rfl) rfl rfl ?_
    refine M0 (q_neqK rfl rfl rfl rfl (by assumption)) rfl rfl ?_;refine L_nil (T_n ?_);refine A_ifF rfl ?_;refine A_skip (T_n (A_seq (A_seq ?_)))
    refine A_region ?_;refine M0 (q_assignC rfl rfl rfl) rfl rfl ?_;refine L_nil (T_n (A_block ?_))
    refine A_loop (fun m st => ∃ k : Nat,k + m = xs.length ∧ (xs.take k = ys.take k) ∧ st = (fun k : Nat => (⟨_,[(0,L xs),(1,L ys),(5,I k)],[]⟩ : St)) k) (xs.length) ⟨(fun k : Nat => (⟨_,[(0,L xs),(1,L ys),(5,I k)],[]⟩ : St)) 0,W_go [] (by decide) rfl (rfl) (.cons rfl (.cons rfl (.cons rfl (.nil)))),0,by omega,by simp,rfl⟩ ?_
    rintro m_A _ ⟨k,hk_A,hp_A,rfl⟩
    refine A_seq (A_seq (A_region ?_));refine M0 (q_moveC rfl rfl rfl) rfl rfl ?_;refine M0 (q_moveC rfl rfl rfl) rfl rfl ?_;refine M0 (q_len rfl rfl rfl) rfl rfl ?_
    refine M0 (q_lss rfl rfl rfl rfl) rfl rfl ?_;refine L_nil (T_n ?_)
    refine A_cond rfl (fun h => ?_) (fun h => ?_)
    · have h3 : k < xs.length := by have := of_decide_eq_true h; omega
      have h4 : k < ys.length := by omega
      have hat := els_at h3
      have hat2 := els_at h4
      have hc := eq_Save xs[k] ys[k] (hn.2 _ (List.getElem_mem h3))
      by_cases he : xs[k] = ys[k]
      · rw [decide_eq_true he] at hc
        refine A_skip (T_n (A_seq (A_block (A_seq ?_))))
        refine A_draw [[],[],[0,1],[0,1,2],[],[],[4,5],[4,5,6],[0,1,2,3,4,5,6,7],[0,1,2,3,4,5,6,7,8]] [[],[],[17,18],[17,18,19],[],[],[21,22],[21,22,23],[17,18,19,20,21,22,23,24],[17,18,19,20,21,22,23,24,25]] [[18,21,22,23,24],[17,21,22,23,24],[21,22,23,24],[21,22,23,24],[17,18,19,20,22],[17,18,19,20,21],[17,18,19,20],[17,18,19,20],[],[]] rfl ?_
        refine DR.step (q_moveC rfl rfl rfl) rfl rfl ?_;refine DR.step (q_moveC rfl rfl rfl) rfl rfl ?_;refine DR.step (q_at rfl rfl rfl rfl (by omega) (by assumption) rfl) rfl rfl ?_
        refine DR.step (q_lrN rfl rfl rfl rfl rfl) rfl rfl ?_;refine DR.step (q_moveC rfl rfl rfl) rfl rfl ?_;refine DR.step (q_moveC rfl rfl rfl) rfl rfl ?_
        refine DR.step (q_at rfl rfl rfl rfl (by omega) (by assumption) rfl) rfl rfl ?_;refine DR.step (q_lrN rfl rfl rfl rfl rfl) rfl rfl ?_
        refine DR.step (q_call0 rfl rfl (hc) rfl) rfl rfl ?_;refine DR.step (q_not rfl rfl rfl) rfl rfl ?_;refine DR.stop (by kernel_rfl) (by kernel_rfl) ?_
        refine L_nil (T_n ?_);refine A_ifF rfl ?_;refine A_skip (B_n (T_n (A_region ?_)));refine M0 (q_moveC rfl rfl rfl) rfl rfl ?_
        refine M0 (q_add rfl rfl rfl rfl (by omega)) rfl rfl ?_;refine M0 (q_assignC rfl rfl rfl) rfl rfl ?_;refine L_nil (T_n ?_)
        exact ⟨xs.length - (k + 1),by omega,(fun k : Nat => (⟨_,[(0,L xs),(1,L ys),(5,I k)],[]⟩ : St)) (k + 1),W_go [] (by decide) rfl (rfl) (.cons rfl (.cons rfl (.cons rfl (.nil)))),k + 1,by omega,eq_next h3 h4 hp_A he,rfl⟩
      · rw [decide_eq_false he] at hc
        refine A_skip (T_n (A_seq (A_block (A_seq ?_))))
        refine A_draw [[],[],[0,1],[0,1,2],[],[],[4,5],[4,5,6],[0,1,2,3,4,5,6,7],[0,1,2,3,4,5,6,7,8]] [[],[],[17,18],[17,18,19],[],[],[21,22],[21,22,23],[17,18,19,20,21,22,23,24],[17,18,19,20,21,22,23,24,25]] [[18,21,22,23,24],[17,21,22,23,24],[21,22,23,24],[21,22,23,24],[17,18,19,20,22],[17,18,19,20,21],[17,18,19,20],[17,18,19,20],[],[]] rfl ?_
        refine DR.step (q_moveC rfl rfl rfl) rfl rfl ?_;refine DR.step (q_moveC rfl rfl rfl) rfl rfl ?_;refine DR.step (q_at rfl rfl rfl rfl (by omega) (by assumption) rfl) rfl rfl ?_
        refine DR.step (q_lrN rfl rfl rfl rfl rfl) rfl rfl ?_;refine DR.step (q_moveC rfl rfl rfl) rfl rfl ?_;refine DR.step (q_moveC rfl rfl rfl) rfl rfl ?_
        refine DR.step (q_at rfl rfl rfl rfl (by omega) (by assumption) rfl) rfl rfl ?_;refine DR.step (q_lrN rfl rfl rfl rfl rfl) rfl rfl ?_
        refine DR.step (q_call0 rfl rfl (hc) rfl) rfl rfl ?_;refine DR.step (q_not rfl rfl rfl) rfl rfl ?_;refine DR.stop (by kernel_rfl) (by kernel_rfl) ?_
        refine L_nil (T_n ?_);refine A_ifT rfl ?_;refine A_seq (A_region ?_);refine M0 (q_assignC rfl rfl rfl) rfl rfl ?_;refine L_nil (T_n (A_ret (B_r ?_)))
        refine T_r (T_r (B_r (T_r (F_r ?_))))
        exact E_tmp rfl rfl (W_end [] (by decide) rfl rfl (B_eq (eq_ne h3 h4 he).symm))
    · have h3 : ¬ ((k : Int) < (els xs).length) := of_decide_eq_false h
      refine A_exit (T_x (T_x (B_xs (T_n (A_seq (A_region ?_))))));refine M0 (q_assignC rfl rfl rfl) rfl rfl ?_;refine L_nil (T_n ?_)
      refine A_ret (F_r ?_)
      exact E_tmp rfl rfl (W_end [] (by decide) rfl rfl (B_eq (eq_all (by omega) hl hp_A).symm))
  · have hb : decide (((els xs).length : Int) ≠ ((els ys).length : Int)) = true := by rw [hlx,hly]; simp; omega
    refine Con.of Tryz.func105 rfl Tryz.ntmps105 rfl (fun E => ?_)
    refine A_seq (A_region ?_);refine M0 (q_assignC rfl rfl rfl) rfl rfl ?_;refine L_nil (T_n (A_seq (A_seq (A_region ?_))))
    refine M0 (q_moveC rfl rfl rfl) rfl rfl ?_;refine M0 (q_len rfl rfl rfl) rfl rfl ?_;refine M0 (q_moveC rfl rfl rfl) rfl rfl ?_;refine M0 (q_len rfl rfl rfl) rfl rfl ?_
    refine M0 (q_neqK rfl rfl rfl rfl (by assumption)) rfl rfl ?_;refine L_nil (T_n ?_);refine A_ifT rfl ?_;refine A_seq (A_region ?_)
    refine M0 (q_assignC rfl rfl rfl) rfl rfl ?_;refine L_nil (T_n (A_ret (T_r (F_r ?_))))
    exact E_tmp rfl rfl (W_end [] (by decide) rfl rfl (B_eq (eq_len hl).symm))
end Go.Proofs.YtbpebmolbdplmaaGreat
end
