/-
  Plain Lean data as trees of cells: how the arguments' data read. No statement of the program is proved here.
  Conditions: none.
  What the laws' counting, copying and comparing functions return, over slices.
  Conditions: at most 2^20 of everything.
-/
import Derived.ProofKit
import Derived.Deep.Slices
import Derived.Test.YtmaiojglkojecaaDDEncRowk11
import Derived.Test.YtmaiojglkojecaaDDEncRowk12
set_option linter.unusedVariables false
set_option linter.unusedSimpArgs false
set_option maxHeartbeats 8000000
namespace Go.Proofs.Ytmaiojglkojecaa
section
open Go.RowKit Go.ChangeShapes Go.WideShapes Go.Deep

def I64 (x : Int) : Prop := -9223372036854775808 ≤ x ∧ x ≤ 9223372036854775807

class Enc (α : Type) where
 k : Nat
 pos : 0 < k
 e : α → List T
 len : ∀ x,(e x).length = k
 gd : α → Prop
 wt : α → Nat
instance : Enc Int := ⟨1,by omega,fun x => [.v (.int .i64 x)],fun _ => rfl,I64,fun _ => 0⟩
instance : Enc Bool := ⟨1,by omega,fun x => [.v (.bool x)],fun _ => rfl,fun _ => True,fun _ => 0⟩
instance : Enc ByteArray := ⟨1,by omega,fun x => [.v (.string x)],fun _ => rfl,fun x => x.size ≤ 9223372036854775807,fun x => x.size⟩
def wts {α : Type} [Enc α] : List α → Nat
 | [] => 0
 | x :: xs => Enc.wt x + wts xs
@[reducible] def els {α : Type} [Enc α] (xs : List α) : List (List T) := xs.map Enc.e
instance {α : Type} [Enc α] : Enc (List α) := ⟨1,by omega,fun xs => [.sl (Enc.k α) (els xs)],fun _ => rfl,fun xs => xs.length ≤ 9223372036854775807 ∧ ∀ x ∈ xs,Enc.gd x,fun xs => xs.length + wts xs⟩

@[reducible] def sl {α : Type} [Enc α] (xs : List α) : T := .sl (Enc.k α) (els xs)
@[reducible] def ai (n : Int) : V2 := .c (.rd [] (.v (.int .i64 n)))
@[reducible] def astr (s : ByteArray) : V2 := .c (.rd [] (.v (.string s)))
@[reducible] def al {α : Type} [Enc α] (xs : List α) : V2 := .c (.rd [] (sl xs))
@[reducible] def ag {α : Type} [Enc α] (x : α) : V2 := .ag ((Enc.e x).map (V1.rd []))
@[reducible] def L {α : Type} [Enc α] (xs : List α) : V := .o (al xs)

class PlainE (α : Type) [Enc α] : Prop where
 plain : ∀ (x : α) (t : T),t ∈ Enc.e x → ∃ u,t = .v u
instance : PlainE Int := ⟨fun x t h => by simp [Enc.e] at h; exact ⟨_,h⟩⟩
instance : PlainE Bool := ⟨fun x t h => by simp [Enc.e] at h; exact ⟨_,h⟩⟩
instance : PlainE ByteArray := ⟨fun x t h => by simp [Enc.e] at h; exact ⟨_,h⟩⟩
@[reducible] def bs (l : List UInt8) : ByteArray := ⟨l.toArray⟩
theorem bs_app (a b : List UInt8) : bs a ++ bs b = bs (a ++ b) := by
 apply ByteArray.ext
 rw [ByteArray.data_append]
 simp [bs]
theorem Xm (l : List UInt8) : (bs l).size = l.length := by simp [bs,ByteArray.size]
theorem Xn (a b : ByteArray) : (a ++ b).size = a.size + b.size := by simp [ByteArray.size_append]
theorem bs_list (l : List UInt8) : (bs l).data.toList = l := by simp [bs]
theorem S_eq {a b : ByteArray} (h : a = b) : S a = S b := by rw [h]
theorem bE_app (a b : List UInt8) : bE a ++ bE b = bE (a ++ b) := by simp [bE]
theorem bE_snoc (a : List UInt8) (n : Int) (h : 0 ≤ n ∧ n ≤ 255) : bE a ++ [[.v (.int .u8 n)]] = bE (a ++ [UInt8.ofNat n.toNat]) := by
 have h1 : ((UInt8.ofNat n.toNat).toNat : Int) = n := by
  rw [UInt8.toNat_ofNat']
  omega
 unfold bE
 rw [List.map_append,List.map_cons,List.map_nil,h1]

theorem Xo {α : Type} [Enc α] {xs : List α} {k : Nat} (h : k < xs.length) : (els xs)[(k : Int).toNat]? = some (Enc.e xs[k]) := by simp [els,h]
theorem Xp {α : Type} [Enc α] (xs : List α) : (els xs).length = xs.length := by simp [els]
theorem wts_take {α : Type} [Enc α] : ∀ (xs : List α) (k : Nat) (h : k < xs.length),wts (xs.take (k + 1)) = wts (xs.take k) + Enc.wt xs[k]
 | x :: xs,0,_ => by simp [wts]
 | x :: xs,k + 1,h => by
  have := wts_take xs k (by simpa using h)
  simp only [List.take_succ_cons,wts,List.getElem_cons_succ,this]
  omega
theorem wts_le {α : Type} [Enc α] : ∀ (xs : List α) (x : α),x ∈ xs → Enc.wt x ≤ wts xs
 | y :: xs,x,h => by
  simp only [wts]
  rcases List.mem_cons.1 h with rfl | h
  ·omega
  ·have := wts_le xs x h; omega
theorem wts_take_le {α : Type} [Enc α] : ∀ (xs : List α) (k : Nat),wts (xs.take k) ≤ wts xs
 | [],k => by simp [wts]
 | x :: xs,0 => by simp [wts]
 | x :: xs,k + 1 => by
  have := wts_take_le xs k
  simp only [List.take_succ_cons,wts]
  omega

/-! ### Readings -/
theorem list_of_each {α : Type} {p : Nat → α → Prop} : ∀ n : Nat,(∀ i,i < n → ∃ y,p i y) → ∃ ys : List α,ys.length = n ∧ ∀ (i : Nat) (y : α),ys[i]? = some y → p i y
 | 0,_ => ⟨[],rfl,fun _ _ h => by simp at h⟩
 | n + 1,h => by
  obtain ⟨ys,h1,h2⟩ := list_of_each n fun i hi => h i (by omega)
  obtain ⟨y,hy⟩ := h n (by omega)
  refine ⟨ys ++ [y],by simp [h1],fun i z hz => ?_⟩
  rcases Nat.lt_or_ge i ys.length with hi | hi
  ·rw [List.getElem?_append_left hi] at hz
   exact h2 i z hz
  ·rw [List.getElem?_append_right hi] at hz
   have hi0 : i - ys.length = 0 := by
    rcases Nat.eq_zero_or_pos (i - ys.length) with h0 | h0
    ·exact h0
    ·rw [List.getElem?_eq_none (by simp; omega)] at hz
     cases hz
   rw [hi0] at hz
   simp only [List.getElem?_cons_zero,Option.some.injEq] at hz
   subst hz
   have : i = n := by omega
   subst this
   exact hy

def Reads {α : Type} [Enc α] (w : World) (x : α) (cs : List Value) : Prop := cs.length = Enc.k α ∧ ∀ (j : Nat) (t : T) (u : Value),(Enc.e x)[j]? = some t → cs[j]? = some u → RO w (fun _ => True) t u

class RdOf (P : Program) (t : TypeId) (α : outParam Type) [Enc α] : Prop where
 size : P.cellsOf t = Enc.k α
 of : ∀ {H : Type} {enc : TypeId × Value → H} {w : World} {spare : Nat → Bool} {held : Bool} {fuel : Nat} {cs : List Value} {x : DataW H × List MemPlace},
  DataW.trod enc P w 0 spare held fuel t cs = some x → ∃ y : α,Enc.gd y ∧ Reads w y cs

theorem i64_of_wf {n : Int} (h : (Lit.int .i64 n).wf = true) : I64 n := by
 simp [Lit.wf,IntKind.min,IntKind.max,IntKind.signed,IntKind.bits] at h
 exact ⟨by omega,by omega⟩
theorem reads_one {α : Type} [Enc α] {w : World} {x : α} {t : T} {u : Value} (he : Enc.e x = [t]) (h : RO w (fun _ => True) t u) : Reads w x [u] := by
 refine ⟨by rw [← Enc.len x,he]; rfl,fun j t' u' h1 h2 => ?_⟩
 rw [he] at h1
 cases j with
 | zero => simp at h1 h2; subst h1 h2; exact h
 | succ j => simp at h1
theorem rdOf_int {P : Program} {t : TypeId} (ht : P.underlying t = some (.int .i64)) (hs : P.cellsOf t = 1) : RdOf P t Int where
 size := hs
 of h := by
  obtain ⟨n,rfl,_,h3⟩ := DataW.trod_int ht h
  exact ⟨n,i64_of_wf h3,reads_one J (.v _ J)⟩
theorem rdOf_string {P : Program} {t : TypeId} (ht : P.underlying t = some .string) (hs : P.cellsOf t = 1) : RdOf P t ByteArray where
 size := hs
 of h := by
  obtain ⟨s,rfl,_,h3⟩ := DataW.trod_string ht h
  exact ⟨s,by simpa [maxLen,Enc.gd] using h3,reads_one J (.v _ J)⟩
theorem rdOf_slice {P : Program} {t e : TypeId} {α : Type} [Enc α] [hα : RdOf P e α] (ht : P.underlying t = some (.slice e)) (hs : P.cellsOf t = 1) : RdOf P t (List α) where
 size := hs
 of {H enc w spare held fuel cs x} h := by
  rcases open_slice ht h with ⟨rfl,_⟩ | ⟨a,len,cap,m,n,D,Pl,rfl,_,hl,hm,hmm,_,hi⟩
  ·exact ⟨[],⟨by simp,by simp⟩,reads_one rfl (.nil _ _ _ (by simp [maxLen]))⟩
  ·have hlm : len ≤ m := by rw [hmm]; split <;> omega
   obtain ⟨ys,h1,h2⟩ := list_of_each (p := fun i y => ∃ es,w.cells? 0 (a.add (i * P.cellsOf e)) (P.cellsOf e) = some es ∧ Enc.gd (α := α) y ∧ Reads w y es) len fun i hi' => by
    obtain ⟨es,h3,h4⟩ := hi i (by omega)
    obtain ⟨y,hy⟩ := hα.of h4
    exact ⟨y,es,h3,hy⟩
   subst h1
   refine ⟨ys,⟨by simp [maxLen] at hm; omega,fun y hy => ?_⟩,?_⟩
   ·obtain ⟨i,hi'⟩ := List.getElem?_of_mem hy
    obtain ⟨es,_,hg,_⟩ := h2 i y hi'
    exact hg
   refine reads_one J ?_
   rcases Nat.eq_zero_or_pos ys.length with h0 | h0
   ·have := List.eq_nil_of_length_eq_zero h0
    subst this
    exact .nil _ _ _ hm
   ·have hsp : a.spot = none := by
     obtain ⟨es,h3,_⟩ := h2 0 _ (List.getElem?_eq_getElem h0)
     obtain ⟨_,hcl,hat⟩ := World.cells?_some h3
     have hp : 0 < P.cellsOf e := by rw [hα.size]; exact Enc.pos
     have := hat 0 hp
     rw [List.getElem?_eq_getElem (by omega)] at this
     have h5 := World.cell?_spot this
     simpa [Addr.add] using h5
    obtain ⟨b,o,sp⟩ := a
    simp only at hsp
    subst hsp
    have hel : ∀ i,i < ys.length → ∃ es,w.cells? 0 ((⟨b,o,none⟩ : Addr).add (i * P.cellsOf e)) (P.cellsOf e) = some es := fun i hi' => by
     obtain ⟨es,h3,_⟩ := h2 i _ (List.getElem?_eq_getElem hi')
     exact ⟨es,h3⟩
    have hlen : ys.length = (els ys).length := (Xp ys).symm
    rw [hlen]
    refine .sl (els ys) b o (Enc.k α) cap (fun i j => ((w.cells? 0 ((⟨b,o,none⟩ : Addr).add (i * P.cellsOf e)) (P.cellsOf e)).getD []).getD j undef) trivial (by rw [Xp]; exact hl) hm Enc.pos (fun e' he => ?_) (fun i j hi' hj => ?_) fun i j e' t' h3 h4 => ?_
    ·obtain ⟨y,_,rfl⟩ := List.mem_map.1 he
     exact Enc.len y
    ·rw [Xp] at hi'
     obtain ⟨es,h3⟩ := hel i hi'
     obtain ⟨_,hcl,hat⟩ := World.cells?_some h3
     rw [hα.size] at hcl
     have h5 := hat j (by rw [hα.size]; exact hj)
     rw [add_lit,add_lit,hα.size,List.getElem?_eq_getElem (by omega)] at h5
     rw [h3]
     simp only [Option.getD_some]
     rw [h5,List.getD_eq_getElem?_getD,List.getElem?_eq_getElem (by omega)]
     rfl
    ·rw [List.getElem?_map] at h3
     obtain ⟨y,hy,rfl⟩ := Option.map_eq_some_iff.1 h3
     obtain ⟨es,h5,_,h6⟩ := h2 i y hy
     have hj : j < es.length := by rw [h6.1,← Enc.len y]; exact Xt h4
     show RO w _ t' (((w.cells? 0 ((⟨b,o,none⟩ : Addr).add (i * P.cellsOf e)) (P.cellsOf e)).getD []).getD j undef)
     rw [h5]
     simp only [Option.getD_some]
     rw [Xs (List.getElem?_eq_getElem hj)]
     exact h6.2 j t' _ h4 (List.getElem?_eq_getElem hj)

theorem reads_of_Trod {P : Program} {t : TypeId} {α : Type} [Enc α] [hα : RdOf P t α] {H : Type} {enc : TypeId × Value → H} {w : World} {spare : Nat → Bool} {held : Bool} {v : Value} {d : DataW H} {p : List MemPlace}
  (h : DataW.Trod enc P w 0 spare held t v d p) : ∃ y : α,Enc.gd y ∧ Reads w y v.cells.toList := by
 obtain ⟨fuel,hf⟩ := h
 exact hα.of hf

theorem r2_agg {α : Type} [Enc α] {w : World} {H : Hs} {x : α} {cs : List Value} (h : Reads w x cs) : R2 w H (fun b => b < w.heap.size) (ag x) (.agg cs.toArray) := by
 refine ⟨cs,J,by simp [h.1,Enc.len],fun i c u h1 h2 => ?_⟩
 rw [List.getElem?_map] at h1
 obtain ⟨t,h3,rfl⟩ := Option.map_eq_some_iff.1 h1
 exact RO.weak (h.2 i t u h3 h2) fun b _ hb => .inl hb
theorem law_calls {P : Program} {f : FuncId} {args : List V2} (hc : Con P f [] args [] (B true)) (w : World) (vs : List Value) (hl : vs.length = args.length) (hr : ∀ (i : Nat) (x : V2) (v : Value),args[i]? = some x → vs[i]? = some v → R2 w (fun _ => .nil) (fun b => b < w.heap.size) x v) :
  Calls P f vs.toArray w fun e w' => e = .returned (.bool true) ∧ Below w.heap.size w w' := by
 refine (hc w (fun _ => .nil) (fun b => b < w.heap.size) vs ⟨fun _ => trivial,fun _ => by simp [Pc.fp],fun p q b h => by simp [Pc.fp] at h,fun p b h => by simp [Pc.fp] at h,fun _ h => h⟩ (fun p => by simp [RB]) hl hr).mono ?_
 rintro e w' ⟨H',F',rv,rfl,hs,_,_,hv⟩
 refine ⟨by rw [(RO.plain (show RO w' _ (.v (.bool true)) rv from hv)).1],hs.os,hs.tape,hs.output,hs.size,fun b hb => hs.keep b hb fun p => by simp [Pc.fp]⟩
end
section
open Go.RowKit

theorem I_eq {a b : Int} (h : a = b) : I a = I b := by rw [h]
theorem Xc {a b : Bool} (h : a = b) : B a = B b := by rw [h]
def szr (n : Nat) (left : Int) : Int := if left < n then -1 else left - n
theorem Yb {n : Nat} {left : Int} (h : left < n) : szr n left = -1 := if_pos h
theorem Y7 {n : Nat} {left : Int} (h : left < n := by omega) : szr n left = -1 := Yb h
theorem Yc {n : Nat} {left : Int} (h : (n : Int) ≤ left) : szr n left = left - n := if_neg (by omega)
theorem Y8 {n : Nat} {left : Int} (h : (n : Int) ≤ left := by omega) : szr n left = left - n := Yc h
theorem wts_int : ∀ xs : List Int,wts xs = 0
 | [] => rfl
 | x :: xs => by simp [wts,wts_int xs,Enc.wt]
theorem eq_ne {α : Type} [DecidableEq α] {xs ys : List α} {j : Nat} (h1 : j < xs.length) (h2 : j < ys.length) (h : ¬ xs[j] = ys[j]) : decide (xs = ys) = false := by
 rw [decide_eq_false_iff_not]
 intro e
 subst e
 exact h J
theorem eq_all {α : Type} [DecidableEq α] {xs ys : List α} {j : Nat} (h1 : xs.length ≤ j) (h2 : xs.length = ys.length) (h : xs.take j = ys.take j) : decide (xs = ys) = true := by
 rw [List.take_of_length_le h1,List.take_of_length_le (by omega)] at h
 simp [h]
theorem eq_len {α : Type} [DecidableEq α] {xs ys : List α} (h : xs.length ≠ ys.length) : decide (xs = ys) = false := by
 rw [decide_eq_false_iff_not]
 intro e
 subst e
 exact h J
theorem eq_next {α : Type} {xs ys : List α} {j : Nat} (h1 : j < xs.length) (h2 : j < ys.length) (h : xs.take j = ys.take j) (e : xs[j] = ys[j]) : xs.take (j + 1) = ys.take (j + 1) := by
 rw [List.take_succ_eq_append_getElem h1,List.take_succ_eq_append_getElem h2,h,e]

/-! ### Counting -/
theorem sz_IntS (xs : List Int) (left : Int) (hg : Enc.gd xs) (h0 : 0 ≤ left) (h1 : left ≤ 1048576) : Con Try.prog 33 [] [al xs,ai left] [] (I (szr (Enc.wt xs) left)) := by
 have hlen := Xp xs
 have hx := hg.1
 have hw : Enc.wt xs = xs.length := by simp [Enc.wt,wts_int]
 refine Con.of Try.func33 J Try.ntmps33 J (fun E => ?_)
 refine zy (z1 J (zz (zy (z0 J (z0 J (zx (X4 J J J) J (z8 J (by omega) (z1 J ?_))))))));refine zz (Qd (zy (z0 J (zx (Yi J) J (zz ?_)))))
 refine Q7 J (fun h => ?_) (fun h => ?_)
 ·refine zy (z1 rfl (zz (Q6 (T_r (F_r ?_)))))
  have h2 := of_decide_eq_true (p := _) (by simpa using h)
  exact Y5 J (Y6 [] J J (I_eq (by rw [Y7])))
 ·refine Qh (Qz (zy (z0 rfl (z1 rfl (zz ?_)))))
  refine Q6 (F_r ?_)
  have h2 := of_decide_eq_false h
  exact Y5 J (Y6 [] J J (I_eq (by rw [Y8]; omega)))
theorem sz_StringS (xs : List ByteArray) (left : Int) (hg : Enc.gd xs) (h0 : 0 ≤ left) (h1 : left ≤ 1048576) : Con Try.prog 11 [] [al xs,ai left] [] (I (szr (Enc.wt xs) left)) := by
 have hlen := Xp xs
 have hx := hg.1
 have hw : Enc.wt xs = xs.length + wts xs := rfl
 refine Con.of Try.func11 J Try.ntmps11 J (fun E => ?_)
 refine zy (z1 J (zz (zy (z0 J (z0 J (zx (X4 J J J) J (z8 J (by omega) (z1 J ?_))))))));refine zz (Qd (zy (z0 J (zx (Yi J) J (zz ?_)))))
 refine Q7 J (fun h => ?_) (fun h => ?_)
 ·refine zy (z1 rfl (zz (Q6 (T_r (F_r ?_)))))
  have h2 := of_decide_eq_true h
  exact Y5 J (Y6 [] J J (I_eq (by rw [Y7])))
 have h2 : ¬ (left - ((els xs).length : Int) < 0) := of_decide_eq_false h
 refine Qh (Qz (Qd (zy (z1 J (zz (Qk ?_))))))
 refine A_lq (fun m st => ∃ k : Nat,k + m = xs.length ∧ (((xs.length : Int) + wts (xs.take k) ≤ left)) ∧ st = (⟨_,[(0,L xs),(1,I (left - (xs.length + wts (xs.take k)))),(5,I k)],[]⟩ : St)) (xs.length) ⟨(fun k : Nat => (⟨_,[(0,L xs),(1,I (left - (xs.length + wts (xs.take k)))),(5,I k)],[]⟩ : St)) 0,⟨0,by omega,by simp [wts]; omega,J⟩,Y2 [] J (.c J (.cons (I_eq (by simp [els,wts])) (.c J (.nil))))⟩ ?_
 rintro m_A _ ⟨k,hk_A,hp_A,rfl⟩
 refine Qd (zy (z0 J (z0 J (zx (X4 J J J) J (zx (Yi J) J (zz ?_))))))
 refine Q7 J (fun h => ?_) (fun h => ?_)
 ·have h3 : k < xs.length := by have := of_decide_eq_true h; omega
  have hat := Xo h3
  have hstep := wts_take xs k h3
  have hle := wts_take_le xs (k + 1)
  have hws : Enc.wt xs[k] = xs[k].size := rfl
  have hgd : xs[k].size ≤ 9223372036854775807 := hg.2 _ (List.getElem_mem h3)
  by_cases h4 : left - ((xs.length : Int) + wts (xs.take k)) - xs[k].size < 0
  ·have hb : decide (left - ((xs.length : Int) + wts (xs.take k)) - xs[k].size < 0) = true := decide_eq_true h4
   refine Qh (Qz (Qd (Qk (zy (z0 J (z0 J (z0 J (zx (Q1 J J J J (by omega) (by assumption) J) J (zx (Y9 J) J (zx (q_lens J J J) J ?_))))))))));refine z8 J (by omega) (z1 J (zz (zy (z0 J (Za J (zz (Qm J (Qd ?_))))))));refine Qc (z1 J (zz (Q6 (B_r (T_r (T_r (B_r (T_r (F_r ?_)))))))))
   exact Y5 J (Y6 [] J J (I_eq (by rw [Y7])))
  ·have hb : decide (left - ((xs.length : Int) + wts (xs.take k)) - xs[k].size < 0) = false := decide_eq_false h4
   refine Qh (Qz (Qd (Qk (zy (z0 J (z0 J (z0 J (zx (Q1 J J J J (by omega) (by assumption) J) J (zx (Y9 J) J (zx (q_lens J J J) J ?_))))))))));refine z8 J (by omega) (z1 J (zz (zy (z0 J (Za J (zz (Ql J (Qh ?_))))))));refine Q0 (Qz (Qc (z0 J (Zb J (z1 J (zz ?_))))))
   exact ⟨xs.length - (k + 1),by omega,(fun k : Nat => (⟨_,[(0,L xs),(1,I (left - (xs.length + wts (xs.take k)))),(5,I k)],[]⟩ : St)) (k + 1),⟨k + 1,by omega,by omega,J⟩,Y2 [] J (.c J (.cons (I_eq (by rw [hstep]; omega)) (.c J (.nil))))⟩
 ·have h3 : ¬ ((k : Int) < (els xs).length) := of_decide_eq_false h
  have hk : wts (xs.take k) = wts xs := by rw [List.take_of_length_le (by omega)]
  refine Q5 (T_x (T_x (B_xs (Qz (zy (z0 J (z1 J (zz (Q6 ?_)))))))));refine F_r ?_
  exact Y5 J (Y6 [] J J (I_eq (by rw [Y8]; omega)))
theorem sz_IntSS (xs : List (List Int)) (left : Int) (hg : Enc.gd xs) (h0 : 0 ≤ left) (h1 : left ≤ 1048576) : Con Try.prog 10 [] [al xs,ai left] [] (I (szr (Enc.wt xs) left)) := by
 have hlen := Xp xs
 have hx := hg.1
 have hw : Enc.wt xs = xs.length + wts xs := rfl
 refine Con.of Try.func10 J Try.ntmps10 J (fun E => ?_)
 refine zy (z1 J (zz (zy (z0 J (z0 J (zx (X4 J J J) J (z8 J (by omega) (z1 J ?_))))))));refine zz (Qd (zy (z0 J (zx (Yi J) J (zz ?_)))))
 refine Q7 J (fun h => ?_) (fun h => ?_)
 ·refine zy (z1 rfl (zz (Q6 (T_r (F_r ?_)))))
  have h2 := of_decide_eq_true h
  exact Y5 J (Y6 [] J J (I_eq (by rw [Y7])))
 have h2 : ¬ (left - ((els xs).length : Int) < 0) := of_decide_eq_false h
 refine Qh (Qz (Qd (zy (z1 J (zz (Qk ?_))))))
 refine A_lq (fun m st => ∃ k : Nat,k + m = xs.length ∧ (((xs.length : Int) + wts (xs.take k) ≤ left)) ∧ st = (⟨_,[(0,L xs),(1,I (left - (xs.length + wts (xs.take k)))),(5,I k)],[]⟩ : St)) (xs.length) ⟨(fun k : Nat => (⟨_,[(0,L xs),(1,I (left - (xs.length + wts (xs.take k)))),(5,I k)],[]⟩ : St)) 0,⟨0,by omega,by simp [wts]; omega,J⟩,Y2 [] J (.c J (.cons (I_eq (by simp [els,wts])) (.c J (.nil))))⟩ ?_
 rintro m_A _ ⟨k,hk_A,hp_A,rfl⟩
 refine Qd (zy (z0 J (z0 J (zx (X4 J J J) J (zx (Yi J) J (zz ?_))))))
 refine Q7 J (fun h => ?_) (fun h => ?_)
 ·have h3 : k < xs.length := by have := of_decide_eq_true h; omega
  have hat := Xo h3
  have hstep := wts_take xs k h3
  have hle := wts_take_le xs (k + 1)
  have hc := sz_IntS xs[k] (left - ((xs.length : Int) + wts (xs.take k))) (hg.2 _ (List.getElem_mem h3)) (by omega) (by omega)
  by_cases h4 : left - ((xs.length : Int) + wts (xs.take k)) < Enc.wt xs[k]
  ·rw [Yb h4] at hc
   have hb : decide ((-1 : Int) < 0) = true := rfl
   refine Qh (Qz (Qd (Qk (zy (z0 J (z0 J (zx (Q1 J J J J (by omega) (by assumption) J) J (zx (Y9 J) J (z0 J ?_)))))))));refine zx (Qj J J (hc) J) J ?_;refine z1 J (zz (zy (z0 J (Za J (zz (Qm J (zy ?_)))))));refine z1 J (zz (Q6 (B_r (T_r (T_r (B_r (T_r (F_r ?_))))))))
   exact Y5 J (Y6 [] J J (I_eq (by rw [Y7])))
  ·rw [Y8] at hc
   have hb : decide (left - ((xs.length : Int) + wts (xs.take k)) - Enc.wt xs[k] < 0) = false := decide_eq_false (by omega)
   refine Qh (Qz (Qd (Qk (zy (z0 J (z0 J (zx (Q1 J J J J (by omega) (by assumption) J) J (zx (Y9 J) J (z0 J ?_)))))))));refine zx (Qj J J (hc) J) J ?_;refine z1 J (zz (zy (z0 J (Za J (zz (Ql J (Qh (Q0 ?_))))))));refine Qz (Qc (z0 J (Zb J (z1 J (zz ?_)))))
   exact ⟨xs.length - (k + 1),by omega,(fun k : Nat => (⟨_,[(0,L xs),(1,I (left - (xs.length + wts (xs.take k)))),(5,I k)],[]⟩ : St)) (k + 1),⟨k + 1,by omega,by omega,J⟩,Y2 [] J (.c J (.cons (I_eq (by rw [hstep]; omega)) (.c J (.nil))))⟩
 ·have h3 : ¬ ((k : Int) < (els xs).length) := of_decide_eq_false h
  have hk : wts (xs.take k) = wts xs := by rw [List.take_of_length_le (by omega)]
  refine Q5 (T_x (T_x (B_xs (Qz (zy (z0 J (z1 J (zz (Q6 ?_)))))))));refine F_r ?_
  exact Y5 J (Y6 [] J J (I_eq (by rw [Y8]; omega)))

/-! ### Copying -/
def part {α : Type} [Enc α] (xs : List α) (z : List T) (k : Nat) : List (List T) := els (xs.take k) ++ List.replicate (xs.length - k) z
theorem part_len {α : Type} [Enc α] (xs : List α) (z : List T) {k : Nat} (h : k ≤ xs.length) : (part xs z k).length = xs.length := by simp [part,els]; omega
theorem part_zero {α : Type} [Enc α] (xs : List α) (z : List T) : part xs z 0 = List.replicate (((els xs).length : Int)).toNat z := by simp [part,els]
theorem part_all {α : Type} [Enc α] (xs : List α) (z : List T) {k : Nat} (h : xs.length ≤ k) : part xs z k = els xs := by
 unfold part
 rw [List.take_of_length_le h,show xs.length - k = 0 by omega]
 simp
theorem part_at {α : Type} [Enc α] (xs : List α) (z : List T) {k : Nat} (h : k < xs.length) : (part xs z k)[(k : Int).toNat]? = some z := by
 have h1 : (els (xs.take k)).length = k := by simp [els]; omega
 unfold part
 rw [Int.toNat_natCast,List.getElem?_append_right (by omega),h1,Nat.sub_self,List.getElem?_replicate,if_pos (by omega)]
theorem part_set {α : Type} [Enc α] (xs : List α) (z : List T) {k : Nat} (h : k < xs.length) (ts : List T) (ht : ts = Enc.e xs[k]) (hz : z.length = ts.length) : (part xs z k).set (k : Int).toNat (splice z 0 ts) = part xs z (k + 1) := by
 have h1 : (els (xs.take k)).length = k := by simp [els]; omega
 have h2 : splice z 0 ts = ts := by simp [splice,hz]
 subst ht
 unfold part
 rw [h2,Int.toNat_natCast,List.set_append_right _ _ (by omega),h1,Nat.sub_self,show xs.length - k = (xs.length - (k + 1)) + 1 by omega,List.replicate_succ,List.set_cons_zero]
 have h3 : els (xs.take (k + 1)) = els (xs.take k) ++ [Enc.e xs[k]] := by
  rw [List.take_succ_eq_append_getElem h]
  simp only [els,List.map_append,List.map_cons,List.map_nil]
 rw [h3,List.append_assoc]
 rfl
theorem X9 {k : Nat} {a b : List (List T)} (h : a = b) : [Ob.row k a] = [Ob.row k b] := by rw [h]

theorem to_IntS (xs : List Int) (hg : Enc.wt xs ≤ 1048576) : Con Try.prog 41 [] [al xs] [.row (Enc.k Int) (els xs)] (.o (.c (.ref 0))) := by
 have hlen := Xp xs
 have hw : Enc.wt xs = xs.length + wts xs := rfl
 refine Con.of Try.func41 J Try.ntmps41 J (fun E => ?_)
 refine zy (z1 J (zz (zy (z0 J (zx (X4 J J J) J ?_)))));refine M1 (q_make 0 J J J J (by omega) (by omega) (by omega) J (by decide)) J J ?_;refine z1 J (zz (Qd (zy (z1 J (zz (Qk ?_))))));refine A_lq (fun m st => ∃ k : Nat,k + m = xs.length ∧ (True) ∧ st = (⟨_,[(0,L xs),(3,.o (.c (.ref 0))),(4,I k)],[.row 1 (part xs [(.v (.int .i64 0))] k)]⟩ : St)) (xs.length) ⟨(fun k : Nat => (⟨_,[(0,L xs),(3,.o (.c (.ref 0))),(4,I k)],[.row 1 (part xs [(.v (.int .i64 0))] k)]⟩ : St)) 0,⟨0,by omega,trivial,J⟩,Xi [0] (by decide) J (X9 (part_zero xs _)) (.c J (.c J (.c J (.nil))))⟩ ?_
 rintro m_A _ ⟨k,hk_A,hp_A,rfl⟩
 refine Qd (zy (z0 J (z0 J (zx (X4 J J J) J (zx (Yi J) J (zz ?_))))))
 refine Q7 J (fun h => ?_) (fun h => ?_)
 ·have h3 : k < xs.length := by have := of_decide_eq_true h; omega
  have hat := Xo h3
  have hz := part_at xs [(.v (.int .i64 0))] h3
  have hpl : (k : Int) < (part xs [(.v (.int .i64 0))] k).length := by rw [part_len xs _ (by omega)]; omega
  have hwt : Enc.wt xs[k] ≤ wts xs := wts_le xs _ (List.getElem_mem h3)
  refine Qh (Qz (Qd (Qk (Qc (z0 J (z0 J (z0 J (z0 J (zx (Q1 J J J J (by omega) (by assumption) J) J (zx (Y9 J) J (zx (Q2 J J J J J (by omega) (by assumption)) J ?_)))))))))));refine Xa J J J J J J J J J (by assumption) J J (Qe (Q0 (Qz (Qc (z0 J (Zb J (z1 J (zz ?_))))))))
  exact ⟨xs.length - (k + 1),by omega,(fun k : Nat => (⟨_,[(0,L xs),(3,.o (.c (.ref 0))),(4,I k)],[.row 1 (part xs [(.v (.int .i64 0))] k)]⟩ : St)) (k + 1),⟨k + 1,by omega,trivial,J⟩,Xi [0] (by decide) J (X9 (part_set xs [(.v (.int .i64 0))] h3 _ (by rfl) (by rfl)).symm) (.c J (.c J (.c J (.nil))))⟩
 ·have h3 : ¬ ((k : Int) < (els xs).length) := of_decide_eq_false h
  refine Q5 (T_x (T_x (B_xs (Qz (zy (z0 J (z1 J (zz (Q6 ?_)))))))));refine F_r ?_
  exact Y5 J (Y6 [0] J (X9 (part_all xs _ (by omega)).symm) J)
theorem to_StringS (xs : List ByteArray) (hg : Enc.wt xs ≤ 1048576) : Con Try.prog 21 [] [al xs] [.row (Enc.k ByteArray) (els xs)] (.o (.c (.ref 0))) := by
 have hlen := Xp xs
 have hw : Enc.wt xs = xs.length + wts xs := rfl
 refine Con.of Try.func21 J Try.ntmps21 J (fun E => ?_)
 refine zy (z1 J (zz (zy (z0 J (zx (X4 J J J) J ?_)))));refine M1 (q_make 0 J J J J (by omega) (by omega) (by omega) J (by decide)) J J ?_;refine z1 J (zz (Qd (zy (z1 J (zz (Qk ?_))))));refine A_lq (fun m st => ∃ k : Nat,k + m = xs.length ∧ (True) ∧ st = (⟨_,[(0,L xs),(3,.o (.c (.ref 0))),(4,I k)],[.row 1 (part xs [(.v (.string ⟨#[]⟩))] k)]⟩ : St)) (xs.length) ⟨(fun k : Nat => (⟨_,[(0,L xs),(3,.o (.c (.ref 0))),(4,I k)],[.row 1 (part xs [(.v (.string ⟨#[]⟩))] k)]⟩ : St)) 0,⟨0,by omega,trivial,J⟩,Xi [0] (by decide) J (X9 (part_zero xs _)) (.c J (.c J (.c J (.nil))))⟩ ?_
 rintro m_A _ ⟨k,hk_A,hp_A,rfl⟩
 refine Qd (zy (z0 J (z0 J (zx (X4 J J J) J (zx (Yi J) J (zz ?_))))))
 refine Q7 J (fun h => ?_) (fun h => ?_)
 ·have h3 : k < xs.length := by have := of_decide_eq_true h; omega
  have hat := Xo h3
  have hz := part_at xs [(.v (.string ⟨#[]⟩))] h3
  have hpl : (k : Int) < (part xs [(.v (.string ⟨#[]⟩))] k).length := by rw [part_len xs _ (by omega)]; omega
  have hwt : Enc.wt xs[k] ≤ wts xs := wts_le xs _ (List.getElem_mem h3)
  refine Qh (Qz (Qd (Qk (Qc (z0 J (z0 J (z0 J (z0 J (zx (Q1 J J J J (by omega) (by assumption) J) J (zx (Y9 J) J (zx (Q2 J J J J J (by omega) (by assumption)) J ?_)))))))))));refine Xa J J J J J J J J J (by assumption) J J (Qe (Q0 (Qz (Qc (z0 J (Zb J (z1 J (zz ?_))))))))
  exact ⟨xs.length - (k + 1),by omega,(fun k : Nat => (⟨_,[(0,L xs),(3,.o (.c (.ref 0))),(4,I k)],[.row 1 (part xs [(.v (.string ⟨#[]⟩))] k)]⟩ : St)) (k + 1),⟨k + 1,by omega,trivial,J⟩,Xi [0] (by decide) J (X9 (part_set xs [(.v (.string ⟨#[]⟩))] h3 _ (by rfl) (by rfl)).symm) (.c J (.c J (.c J (.nil))))⟩
 ·have h3 : ¬ ((k : Int) < (els xs).length) := of_decide_eq_false h
  refine Q5 (T_x (T_x (B_xs (Qz (zy (z0 J (z1 J (zz (Q6 ?_)))))))));refine F_r ?_
  exact Y5 J (Y6 [0] J (X9 (part_all xs _ (by omega)).symm) J)
theorem to_IntSS (xs : List (List Int)) (hg : Enc.wt xs ≤ 1048576) : Con Try.prog 20 [] [al xs] [.row (Enc.k (List Int)) (els xs)] (.o (.c (.ref 0))) := by
 have hlen := Xp xs
 have hw : Enc.wt xs = xs.length + wts xs := rfl
 refine Con.of Try.func20 J Try.ntmps20 J (fun E => ?_)
 refine zy (z1 J (zz (zy (z0 J (zx (X4 J J J) J ?_)))));refine M1 (q_make 1 J J J J (by omega) (by omega) (by omega) J (by decide)) J J ?_;refine z1 J (zz (Qd (zy (z1 J (zz (Qk ?_))))));refine A_lq (fun m st => ∃ k : Nat,k + m = xs.length ∧ (True) ∧ st = (⟨_,[(0,L xs),(3,.o (.c (.ref 0))),(4,I k)],[.row 1 (part xs [(.sl 1 [])] k)]⟩ : St)) (xs.length) ⟨(fun k : Nat => (⟨_,[(0,L xs),(3,.o (.c (.ref 0))),(4,I k)],[.row 1 (part xs [(.sl 1 [])] k)]⟩ : St)) 0,⟨0,by omega,trivial,J⟩,Xi [0] (by decide) J (X9 (part_zero xs _)) (.c J (.c J (.c J (.nil))))⟩ ?_
 rintro m_A _ ⟨k,hk_A,hp_A,rfl⟩
 refine Qd (zy (z0 J (z0 J (zx (X4 J J J) J (zx (Yi J) J (zz ?_))))))
 refine Q7 J (fun h => ?_) (fun h => ?_)
 ·have h3 : k < xs.length := by have := of_decide_eq_true h; omega
  have hat := Xo h3
  have hz := part_at xs [(.sl 1 [])] h3
  have hpl : (k : Int) < (part xs [(.sl 1 [])] k).length := by rw [part_len xs _ (by omega)]; omega
  have hwt : Enc.wt xs[k] ≤ wts xs := wts_le xs _ (List.getElem_mem h3)
  refine Qh (Qz (Qd (Qk (Qc (z0 J (z0 J (z0 J (z0 J (zx (Q1 J J J J (by omega) (by assumption) J) J (zx (Y9 J) J ?_))))))))));refine M1 (q_call J J (to_IntS _ (by omega)) J J J) J J ?_;refine zx (Q2 J J J J J (by omega) (by assumption)) J ?_;refine Xa J J J J J J J J J (by assumption) J J (Qe (Q0 (Qz (Qc (z0 J (Zb J (z1 J (zz ?_))))))))
  exact ⟨xs.length - (k + 1),by omega,(fun k : Nat => (⟨_,[(0,L xs),(3,.o (.c (.ref 0))),(4,I k)],[.row 1 (part xs [(.sl 1 [])] k)]⟩ : St)) (k + 1),⟨k + 1,by omega,trivial,J⟩,Xi [0] (by decide) J (X9 (part_set xs [(.sl 1 [])] h3 _ (by rfl) (by rfl)).symm) (.c J (.c J (.c J (.nil))))⟩
 ·have h3 : ¬ ((k : Int) < (els xs).length) := of_decide_eq_false h
  refine Q5 (T_x (T_x (B_xs (Qz (zy (z0 J (z1 J (zz (Q6 ?_)))))))));refine F_r ?_
  exact Y5 J (Y6 [0] J (X9 (part_all xs _ (by omega)).symm) J)

/-! ### Comparing -/
theorem eq_IntS (xs ys : List Int) (hn : Enc.gd xs) : Con Try.prog 51 [] [al xs,al ys] [] (B (decide (xs = ys))) := by
 have hn1 := hn.1
 have hlx := Xp xs
 have hly := Xp ys
 by_cases hl : xs.length = ys.length
 ·have hb : decide (((els xs).length : Int) ≠ ((els ys).length : Int)) = false := by rw [hlx,hly,hl]; simp
  refine Con.of Try.func51 J Try.ntmps51 J (fun E => ?_)
  refine zy (z1 J (zz (Qd (zy (z0 J (zx (X4 J J J) J (z0 J (zx (X4 J J J) J ?_))))))));refine z9f J (by assumption) (zz (Ql J (Qh (Qz (Qd (zy (z1 J (zz ?_))))))));refine Qk ?_;refine A_lq (fun m st => ∃ k : Nat,k + m = xs.length ∧ (xs.take k = ys.take k) ∧ st = (⟨_,[(0,L xs),(1,L ys),(5,I k)],[]⟩ : St)) (xs.length) ⟨_,⟨0,by omega,by simp,J⟩,Zj []⟩ ?_
  rintro m_A _ ⟨k,hk_A,hp_A,rfl⟩
  refine Qd (zy (z0 J (z0 J (zx (X4 J J J) J (zx (Yi J) J (zz ?_))))))
  refine Q7 J (fun h => ?_) (fun h => ?_)
  ·have h3 : k < xs.length := by have := of_decide_eq_true h; omega
   have h4 : k < ys.length := by omega
   have hat := Xo h3
   have hat2 := Xo h4
   by_cases he : xs[k] = ys[k]
   ·have hk : decide (xs[k] ≠ ys[k]) = false := by simp [he]
    refine Qh (Qz (Qd (Qk (Qd (Xb u8_0 u8_1 u8_2 J (Yf (Yo J) J (Yf (Yo J) J (Yf (Q1 J J J J (by omega) (by assumption) J) J (Yf (Y9 J) J (Yf (Yo J) J (Yf (Yo J) J ?_)))))))))));refine Yf (Q1 J J J J (by omega) (by assumption) J) J (Yf (Y9 J) J (Yf (Qw J J J J (by assumption)) J (Ye (zz (Ql J (Qh (Q0 (Qz (Qc (z0 J ?_))))))))));refine Zb J (z1 J (zz ?_))
    exact ⟨xs.length - (k + 1),by omega,_,⟨k + 1,by omega,eq_next h3 h4 hp_A he,J⟩,Zj []⟩
   ·have hk : decide (xs[k] ≠ ys[k]) = true := by simp [he]
    refine Qh (Qz (Qd (Qk (Qd (Xb u8_0 u8_1 u8_2 J (Yf (Yo J) J (Yf (Yo J) J (Yf (Q1 J J J J (by omega) (by assumption) J) J (Yf (Y9 J) J (Yf (Yo J) J (Yf (Yo J) J ?_)))))))))));refine Yf (Q1 J J J J (by omega) (by assumption) J) J (Yf (Y9 J) J (Yf (Qw J J J J (by assumption)) J (Ye (zz (Qm J (zy (z1 J (zz ?_))))))));refine Q6 (B_r (T_r (T_r (B_r (T_r (F_r ?_))))))
    exact Y5 J (Y6 [] J J (Xc (eq_ne h3 h4 he).symm))
  ·have h3 : ¬ ((k : Int) < (els xs).length) := of_decide_eq_false h
   refine Q5 (T_x (T_x (B_xs (Qz (zy (z1 J (zz (Q6 (F_r ?_)))))))))
   exact Y5 J (Y6 [] J J (Xc (eq_all (by omega) hl hp_A).symm))
 ·have hb : decide (((els xs).length : Int) ≠ ((els ys).length : Int)) = true := by rw [hlx,hly]; simp; omega
  refine Con.of Try.func51 J Try.ntmps51 J (fun E => ?_)
  refine zy (z1 J (zz (Qd (zy (z0 J (zx (X4 J J J) J (z0 J (zx (X4 J J J) J ?_))))))));refine z9f J (by assumption) (zz (Qm J (zy (z1 J (zz (Q6 (T_r (F_r ?_))))))))
  exact Y5 J (Y6 [] J J (Xc (eq_len hl).symm))
theorem eq_StringS (xs ys : List ByteArray) (hn : Enc.gd xs) : Con Try.prog 32 [] [al xs,al ys] [] (B (decide (xs = ys))) := by
 have hn1 := hn.1
 have hlx := Xp xs
 have hly := Xp ys
 by_cases hl : xs.length = ys.length
 ·have hb : decide (((els xs).length : Int) ≠ ((els ys).length : Int)) = false := by rw [hlx,hly,hl]; simp
  refine Con.of Try.func32 J Try.ntmps32 J (fun E => ?_)
  refine zy (z1 J (zz (Qd (zy (z0 J (zx (X4 J J J) J (z0 J (zx (X4 J J J) J ?_))))))));refine z9f J (by assumption) (zz (Ql J (Qh (Qz (Qd (zy (z1 J (zz ?_))))))));refine Qk ?_;refine A_lq (fun m st => ∃ k : Nat,k + m = xs.length ∧ (xs.take k = ys.take k) ∧ st = (⟨_,[(0,L xs),(1,L ys),(5,I k)],[]⟩ : St)) (xs.length) ⟨_,⟨0,by omega,by simp,J⟩,Zj []⟩ ?_
  rintro m_A _ ⟨k,hk_A,hp_A,rfl⟩
  refine Qd (zy (z0 J (z0 J (zx (X4 J J J) J (zx (Yi J) J (zz ?_))))))
  refine Q7 J (fun h => ?_) (fun h => ?_)
  ·have h3 : k < xs.length := by have := of_decide_eq_true h; omega
   have h4 : k < ys.length := by omega
   have hat := Xo h3
   have hat2 := Xo h4
   by_cases he : xs[k] = ys[k]
   ·have hk : decide (xs[k] ≠ ys[k]) = false := by simp [he]
    refine Qh (Qz (Qd (Qk (Qd (Xb u8_0 u8_1 u8_2 J (Yf (Yo J) J (Yf (Yo J) J (Yf (Q1 J J J J (by omega) (by assumption) J) J (Yf (Y9 J) J (Yf (Yo J) J (Yf (Yo J) J ?_)))))))))));refine Yf (Q1 J J J J (by omega) (by assumption) J) J (Yf (Y9 J) J (Yf (q_sneqK J J J J (by assumption)) J (Ye (zz (Ql J (Qh (Q0 (Qz (Qc (z0 J ?_))))))))));refine Zb J (z1 J (zz ?_))
    exact ⟨xs.length - (k + 1),by omega,_,⟨k + 1,by omega,eq_next h3 h4 hp_A he,J⟩,Zj []⟩
   ·have hk : decide (xs[k] ≠ ys[k]) = true := by simp [he]
    refine Qh (Qz (Qd (Qk (Qd (Xb u8_0 u8_1 u8_2 J (Yf (Yo J) J (Yf (Yo J) J (Yf (Q1 J J J J (by omega) (by assumption) J) J (Yf (Y9 J) J (Yf (Yo J) J (Yf (Yo J) J ?_)))))))))));refine Yf (Q1 J J J J (by omega) (by assumption) J) J (Yf (Y9 J) J (Yf (q_sneqK J J J J (by assumption)) J (Ye (zz (Qm J (zy (z1 J (zz ?_))))))));refine Q6 (B_r (T_r (T_r (B_r (T_r (F_r ?_))))))
    exact Y5 J (Y6 [] J J (Xc (eq_ne h3 h4 he).symm))
  ·have h3 : ¬ ((k : Int) < (els xs).length) := of_decide_eq_false h
   refine Q5 (T_x (T_x (B_xs (Qz (zy (z1 J (zz (Q6 (F_r ?_)))))))))
   exact Y5 J (Y6 [] J J (Xc (eq_all (by omega) hl hp_A).symm))
 ·have hb : decide (((els xs).length : Int) ≠ ((els ys).length : Int)) = true := by rw [hlx,hly]; simp; omega
  refine Con.of Try.func32 J Try.ntmps32 J (fun E => ?_)
  refine zy (z1 J (zz (Qd (zy (z0 J (zx (X4 J J J) J (z0 J (zx (X4 J J J) J ?_))))))));refine z9f J (by assumption) (zz (Qm J (zy (z1 J (zz (Q6 (T_r (F_r ?_))))))))
  exact Y5 J (Y6 [] J J (Xc (eq_len hl).symm))
theorem eq_IntSS (xs ys : List (List Int)) (hn : Enc.gd xs) : Con Try.prog 31 [] [al xs,al ys] [] (B (decide (xs = ys))) := by
 have hn1 := hn.1
 have hlx := Xp xs
 have hly := Xp ys
 by_cases hl : xs.length = ys.length
 ·have hb : decide (((els xs).length : Int) ≠ ((els ys).length : Int)) = false := by rw [hlx,hly,hl]; simp
  refine Con.of Try.func31 J Try.ntmps31 J (fun E => ?_)
  refine zy (z1 J (zz (Qd (zy (z0 J (zx (X4 J J J) J (z0 J (zx (X4 J J J) J ?_))))))));refine z9f J (by assumption) (zz (Ql J (Qh (Qz (Qd (zy (z1 J (zz ?_))))))));refine Qk ?_;refine A_lq (fun m st => ∃ k : Nat,k + m = xs.length ∧ (xs.take k = ys.take k) ∧ st = (⟨_,[(0,L xs),(1,L ys),(5,I k)],[]⟩ : St)) (xs.length) ⟨_,⟨0,by omega,by simp,J⟩,Zj []⟩ ?_
  rintro m_A _ ⟨k,hk_A,hp_A,rfl⟩
  refine Qd (zy (z0 J (z0 J (zx (X4 J J J) J (zx (Yi J) J (zz ?_))))))
  refine Q7 J (fun h => ?_) (fun h => ?_)
  ·have h3 : k < xs.length := by have := of_decide_eq_true h; omega
   have h4 : k < ys.length := by omega
   have hat := Xo h3
   have hat2 := Xo h4
   by_cases he : xs[k] = ys[k]
   ·have hc := eq_IntS xs[k] ys[k] (hn.2 _ (List.getElem_mem h3))
    rw [decide_eq_true he] at hc
    refine Qh (Qz (Qd (Qk (Qd (Xb u8_3 u8_4 u8_5 J (Yf (Yo J) J (Yf (Yo J) J (Yf (Q1 J J J J (by omega) (by assumption) J) J (Yf (Y9 J) J (Yf (Yo J) J (Yf (Yo J) J ?_)))))))))));refine Yf (Q1 J J J J (by omega) (by assumption) J) J (Yf (Y9 J) J ?_);refine Yf (Qj J J (hc) J) J ?_;refine Yf (Q3 J J J) J (Ye (zz (Ql J (Qh (Q0 (Qz (Qc (z0 J (Zb J (z1 J ?_))))))))));refine zz ?_
    exact ⟨xs.length - (k + 1),by omega,_,⟨k + 1,by omega,eq_next h3 h4 hp_A he,J⟩,Zj []⟩
   ·have hc := eq_IntS xs[k] ys[k] (hn.2 _ (List.getElem_mem h3))
    rw [decide_eq_false he] at hc
    refine Qh (Qz (Qd (Qk (Qd (Xb u8_3 u8_4 u8_5 J (Yf (Yo J) J (Yf (Yo J) J (Yf (Q1 J J J J (by omega) (by assumption) J) J (Yf (Y9 J) J (Yf (Yo J) J (Yf (Yo J) J ?_)))))))))));refine Yf (Q1 J J J J (by omega) (by assumption) J) J (Yf (Y9 J) J ?_);refine Yf (Qj J J (hc) J) J ?_;refine Yf (Q3 J J J) J (Ye (zz (Qm J (zy (z1 J (zz (Q6 (B_r ?_))))))));refine T_r (T_r (B_r (T_r (F_r ?_))))
    exact Y5 J (Y6 [] J J (Xc (eq_ne h3 h4 he).symm))
  ·have h3 : ¬ ((k : Int) < (els xs).length) := of_decide_eq_false h
   refine Q5 (T_x (T_x (B_xs (Qz (zy (z1 J (zz (Q6 (F_r ?_)))))))))
   exact Y5 J (Y6 [] J J (Xc (eq_all (by omega) hl hp_A).symm))
 ·have hb : decide (((els xs).length : Int) ≠ ((els ys).length : Int)) = true := by rw [hlx,hly]; simp; omega
  refine Con.of Try.func31 J Try.ntmps31 J (fun E => ?_)
  refine zy (z1 J (zz (Qd (zy (z0 J (zx (X4 J J J) J (z0 J (zx (X4 J J J) J ?_))))))));refine z9f J (by assumption) (zz (Qm J (zy (z1 J (zz (Q6 (T_r (F_r ?_))))))))
  exact Y5 J (Y6 [] J J (Xc (eq_len hl).symm))
end
end Go.Proofs.Ytmaiojglkojecaa
