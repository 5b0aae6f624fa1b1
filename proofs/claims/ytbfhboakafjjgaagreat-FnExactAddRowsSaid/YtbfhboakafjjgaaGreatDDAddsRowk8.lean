/-
  Parts of the proof (rules, data, and what functions of the program and of the reference return), among them: Walls: SizeOf, solid, SolidAt of the program; SizeOf, l02Solid of the reference; Valid bodies and worlds: BodyOk, WorldOk of the program; l02Body, WorldOk of the reference.
  Conditions: those that each theorem names.
-/
import Derived.ProofKit
import Derived.Deep.Slices
import Derived.Test.YtbfhboakafjjgaaGreatDDAddsRowk6
import Derived.Test.YtbfhboakafjjgaaGreatDDAddsRowk7
set_option linter.unusedVariables false
set_option linter.unusedSimpArgs false
set_option maxRecDepth 4096
set_option maxRecDepth 8000
set_option maxHeartbeats 8000000
namespace Go.Proofs.YtbfhboakafjjgaaGreat
section
open Go.RowKit Go.ChangeShapes Go.WideShapes Go.Deep

def I64 (x : Int) : Prop := -9223372036854775808 ≤ x ∧ x ≤ 9223372036854775807

class Enc (α : Type) where
 k : Nat
 pos : 0 < k
 e : α → List T
 len : ∀ x,(e x).length = k
 gd : α → Prop
 wt : α → Nat
instance : Enc Int := ⟨1,by omega,fun x => [.v (.int .i64 x)],fun _ => rfl,I64,fun _ => 0⟩
instance : Enc Bool := ⟨1,by omega,fun x => [.v (.bool x)],fun _ => rfl,fun _ => True,fun _ => 0⟩
instance : Enc ByteArray := ⟨1,by omega,fun x => [.v (.string x)],fun _ => rfl,fun x => x.size ≤ 9223372036854775807,fun x => x.size⟩
def wts {α : Type} [Enc α] : List α → Nat
 | [] => 0
 | x :: xs => Enc.wt x + wts xs
@[reducible] def els {α : Type} [Enc α] (xs : List α) : List (List T) := xs.map Enc.e
instance {α : Type} [Enc α] : Enc (List α) := ⟨1,by omega,fun xs => [.sl (Enc.k α) (els xs)],fun _ => rfl,fun xs => xs.length ≤ 9223372036854775807 ∧ ∀ x ∈ xs,Enc.gd x,fun xs => xs.length + wts xs⟩

@[reducible] def sl {α : Type} [Enc α] (xs : List α) : T := .sl (Enc.k α) (els xs)
@[reducible] def ai (n : Int) : V2 := .c (.rd [] (.v (.int .i64 n)))
@[reducible] def astr (s : ByteArray) : V2 := .c (.rd [] (.v (.string s)))
@[reducible] def al {α : Type} [Enc α] (xs : List α) : V2 := .c (.rd [] (sl xs))
@[reducible] def ag {α : Type} [Enc α] (x : α) : V2 := .ag ((Enc.e x).map (V1.rd []))
@[reducible] def L {α : Type} [Enc α] (xs : List α) : V := .o (al xs)

class PlainE (α : Type) [Enc α] : Prop where
 plain : ∀ (x : α) (t : T),t ∈ Enc.e x → ∃ u,t = .v u
instance : PlainE Int := ⟨fun x t h => by simp [Enc.e] at h; exact ⟨_,h⟩⟩
instance : PlainE Bool := ⟨fun x t h => by simp [Enc.e] at h; exact ⟨_,h⟩⟩
instance : PlainE ByteArray := ⟨fun x t h => by simp [Enc.e] at h; exact ⟨_,h⟩⟩
theorem Yr {α : Type} [Enc α] [PlainE α] (xs : List α) : plainT (els xs) := fun e he t ht => by
 obtain ⟨x,_,rfl⟩ := List.mem_map.1 he
 exact PlainE.plain x t ht
theorem els_k {α : Type} [Enc α] (xs : List α) : ∀ e ∈ els xs,e.length = Enc.k α := fun e he => by
 obtain ⟨x,_,rfl⟩ := List.mem_map.1 he
 exact Enc.len x
@[reducible] def bs (l : List UInt8) : ByteArray := ⟨l.toArray⟩
theorem Yg (a b : List UInt8) : bs a ++ bs b = bs (a ++ b) := by
 apply ByteArray.ext
 rw [ByteArray.data_append]
 simp [bs]
theorem Yi (l : List UInt8) : (bs l).size = l.length := by simp [bs,ByteArray.size]
theorem cat_size (a b : ByteArray) : (a ++ b).size = a.size + b.size := by simp [ByteArray.size_append]
theorem Yh (l : List UInt8) : (bs l).data.toList = l := by simp [bs]
theorem bs_of (s : ByteArray) : bs s.data.toList = s := by simp [bs]
theorem bs_inj {a b : List UInt8} : bs a = bs b ↔ a = b := ⟨fun h => by have := congrArg (·.data.toList) h; simpa [Yh] using this,fun h => by rw [h]⟩
theorem S_eq {a b : ByteArray} (h : a = b) : S a = S b := by rw [h]
theorem Yd (a b : List UInt8) : bE a ++ bE b = bE (a ++ b) := by simp [bE]
theorem bE_snoc (a : List UInt8) (n : Int) (h : 0 ≤ n ∧ n ≤ 255) : bE a ++ [[.v (.int .u8 n)]] = bE (a ++ [UInt8.ofNat n.toNat]) := by
 have h1 : ((UInt8.ofNat n.toNat).toNat : Int) = n := by
  rw [UInt8.toNat_ofNat']
  omega
 unfold bE
 rw [List.map_append,List.map_cons,List.map_nil,h1]

theorem Yo {α : Type} [Enc α] {xs : List α} {k : Nat} (h : k < xs.length) : (els xs)[(k : Int).toNat]? = some (Enc.e xs[k]) := by simp [els,h]
theorem Yq {α : Type} [Enc α] (xs : List α) : (els xs).length = xs.length := by simp [els]
theorem wts_take {α : Type} [Enc α] : ∀ (xs : List α) (k : Nat) (h : k < xs.length),wts (xs.take (k + 1)) = wts (xs.take k) + Enc.wt xs[k]
 | x :: xs,0,_ => by simp [wts]
 | x :: xs,k + 1,h => by
  have := wts_take xs k (by simpa using h)
  simp only [List.take_succ_cons,wts,List.getElem_cons_succ,this]
  omega
theorem wts_le {α : Type} [Enc α] : ∀ (xs : List α) (x : α),x ∈ xs → Enc.wt x ≤ wts xs
 | y :: xs,x,h => by
  simp only [wts]
  rcases List.mem_cons.1 h with rfl | h
  ·omega
  ·have := wts_le xs x h; omega
theorem wts_take_le {α : Type} [Enc α] : ∀ (xs : List α) (k : Nat),wts (xs.take k) ≤ wts xs
 | [],k => by simp [wts]
 | x :: xs,0 => by simp [wts]
 | x :: xs,k + 1 => by
  have := wts_take_le xs k
  simp only [List.take_succ_cons,wts]
  omega

/-! ### Readings -/
theorem list_of_each {α : Type} {p : Nat → α → Prop} : ∀ n : Nat,(∀ i,i < n → ∃ y,p i y) → ∃ ys : List α,ys.length = n ∧ ∀ (i : Nat) (y : α),ys[i]? = some y → p i y
 | 0,_ => ⟨[],rfl,fun _ _ h => by simp at h⟩
 | n + 1,h => by
  obtain ⟨ys,h1,h2⟩ := list_of_each n fun i hi => h i (by omega)
  obtain ⟨y,hy⟩ := h n (by omega)
  refine ⟨ys ++ [y],by simp [h1],fun i z hz => ?_⟩
  rcases Nat.lt_or_ge i ys.length with hi | hi
  ·rw [List.getElem?_append_left hi] at hz
   exact h2 i z hz
  ·rw [List.getElem?_append_right hi] at hz
   have hi0 : i - ys.length = 0 := by
    rcases Nat.eq_zero_or_pos (i - ys.length) with h0 | h0
    ·exact h0
    ·rw [List.getElem?_eq_none (by simp; omega)] at hz
     cases hz
   rw [hi0] at hz
   simp only [List.getElem?_cons_zero,Option.some.injEq] at hz
   subst hz
   have : i = n := by omega
   subst this
   exact hy

def Reads {α : Type} [Enc α] (w : World) (x : α) (cs : List Value) : Prop := cs.length = Enc.k α ∧ ∀ (j : Nat) (t : T) (u : Value),(Enc.e x)[j]? = some t → cs[j]? = some u → RO w (fun _ => True) t u

class RdOf (P : Program) (t : TypeId) (α : outParam Type) [Enc α] : Prop where
 size : P.cellsOf t = Enc.k α
 of : ∀ {H : Type} {enc : TypeId × Value → H} {w : World} {spare : Nat → Bool} {held : Bool} {fuel : Nat} {cs : List Value} {x : DataW H × List MemPlace},
  DataW.trod enc P w 0 spare held fuel t cs = some x → ∃ y : α,Enc.gd y ∧ Reads w y cs

theorem i64_of_wf {n : Int} (h : (Lit.int .i64 n).wf = true) : I64 n := by
 simp [Lit.wf,IntKind.min,IntKind.max,IntKind.signed,IntKind.bits] at h
 exact ⟨by omega,by omega⟩
theorem reads_one {α : Type} [Enc α] {w : World} {x : α} {t : T} {u : Value} (he : Enc.e x = [t]) (h : RO w (fun _ => True) t u) : Reads w x [u] := by
 refine ⟨by rw [← Enc.len x,he]; rfl,fun j t' u' h1 h2 => ?_⟩
 rw [he] at h1
 cases j with
 | zero => simp at h1 h2; subst h1 h2; exact h
 | succ j => simp at h1
theorem rdOf_int {P : Program} {t : TypeId} (ht : P.underlying t = some (.int .i64)) (hs : P.cellsOf t = 1) : RdOf P t Int where
 size := hs
 of h := by
  obtain ⟨n,rfl,_,h3⟩ := DataW.trod_int ht h
  exact ⟨n,i64_of_wf h3,reads_one J (.v _ J)⟩
theorem rdOf_string {P : Program} {t : TypeId} (ht : P.underlying t = some .string) (hs : P.cellsOf t = 1) : RdOf P t ByteArray where
 size := hs
 of h := by
  obtain ⟨s,rfl,_,h3⟩ := DataW.trod_string ht h
  exact ⟨s,by simpa [maxLen,Enc.gd] using h3,reads_one J (.v _ J)⟩
theorem rdOf_slice {P : Program} {t e : TypeId} {α : Type} [Enc α] [hα : RdOf P e α] (ht : P.underlying t = some (.slice e)) (hs : P.cellsOf t = 1) : RdOf P t (List α) where
 size := hs
 of {H enc w spare held fuel cs x} h := by
  rcases open_slice ht h with ⟨rfl,_⟩ | ⟨a,len,cap,m,n,D,Pl,rfl,_,hl,hm,hmm,_,hi⟩
  ·exact ⟨[],⟨by simp,by simp⟩,reads_one rfl (.nil _ _ _ (by simp [maxLen]))⟩
  ·have hlm : len ≤ m := by rw [hmm]; split <;> omega
   obtain ⟨ys,h1,h2⟩ := list_of_each (p := fun i y => ∃ es,w.cells? 0 (a.add (i * P.cellsOf e)) (P.cellsOf e) = some es ∧ Enc.gd (α := α) y ∧ Reads w y es) len fun i hi' => by
    obtain ⟨es,h3,h4⟩ := hi i (by omega)
    obtain ⟨y,hy⟩ := hα.of h4
    exact ⟨y,es,h3,hy⟩
   subst h1
   refine ⟨ys,⟨by simp [maxLen] at hm; omega,fun y hy => ?_⟩,?_⟩
   ·obtain ⟨i,hi'⟩ := List.getElem?_of_mem hy
    obtain ⟨es,_,hg,_⟩ := h2 i y hi'
    exact hg
   refine reads_one J ?_
   rcases Nat.eq_zero_or_pos ys.length with h0 | h0
   ·have := List.eq_nil_of_length_eq_zero h0
    subst this
    exact .nil _ _ _ hm
   ·have hsp : a.spot = none := by
     obtain ⟨es,h3,_⟩ := h2 0 _ (List.getElem?_eq_getElem h0)
     obtain ⟨_,hcl,hat⟩ := World.cells?_some h3
     have hp : 0 < P.cellsOf e := by rw [hα.size]; exact Enc.pos
     have := hat 0 hp
     rw [List.getElem?_eq_getElem (by omega)] at this
     have h5 := World.cell?_spot this
     simpa [Addr.add] using h5
    obtain ⟨b,o,sp⟩ := a
    simp only at hsp
    subst hsp
    have hel : ∀ i,i < ys.length → ∃ es,w.cells? 0 ((⟨b,o,none⟩ : Addr).add (i * P.cellsOf e)) (P.cellsOf e) = some es := fun i hi' => by
     obtain ⟨es,h3,_⟩ := h2 i _ (List.getElem?_eq_getElem hi')
     exact ⟨es,h3⟩
    have hlen : ys.length = (els ys).length := (Yq ys).symm
    rw [hlen]
    refine .sl (els ys) b o (Enc.k α) cap (fun i j => ((w.cells? 0 ((⟨b,o,none⟩ : Addr).add (i * P.cellsOf e)) (P.cellsOf e)).getD []).getD j undef) trivial (by rw [Yq]; exact hl) hm Enc.pos (fun e' he => ?_) (fun i j hi' hj => ?_) fun i j e' t' h3 h4 => ?_
    ·obtain ⟨y,_,rfl⟩ := List.mem_map.1 he
     exact Enc.len y
    ·rw [Yq] at hi'
     obtain ⟨es,h3⟩ := hel i hi'
     obtain ⟨_,hcl,hat⟩ := World.cells?_some h3
     rw [hα.size] at hcl
     have h5 := hat j (by rw [hα.size]; exact hj)
     rw [add_lit,add_lit,hα.size,List.getElem?_eq_getElem (by omega)] at h5
     rw [h3]
     simp only [Option.getD_some]
     rw [h5,List.getD_eq_getElem?_getD,List.getElem?_eq_getElem (by omega)]
     rfl
    ·rw [List.getElem?_map] at h3
     obtain ⟨y,hy,rfl⟩ := Option.map_eq_some_iff.1 h3
     obtain ⟨es,h5,_,h6⟩ := h2 i y hy
     have hj : j < es.length := by rw [h6.1,← Enc.len y]; exact Yz h4
     show RO w _ t' (((w.cells? 0 ((⟨b,o,none⟩ : Addr).add (i * P.cellsOf e)) (P.cellsOf e)).getD []).getD j undef)
     rw [h5]
     simp only [Option.getD_some]
     rw [Yy (List.getElem?_eq_getElem hj)]
     exact h6.2 j t' _ h4 (List.getElem?_eq_getElem hj)

theorem reads_of_Trod {P : Program} {t : TypeId} {α : Type} [Enc α] [hα : RdOf P t α] {H : Type} {enc : TypeId × Value → H} {w : World} {spare : Nat → Bool} {held : Bool} {v : Value} {d : DataW H} {p : List MemPlace}
  (h : DataW.Trod enc P w 0 spare held t v d p) : ∃ y : α,Enc.gd y ∧ Reads w y v.cells.toList := by
 obtain ⟨fuel,hf⟩ := h
 exact hα.of hf

theorem r2_slice {α : Type} [Enc α] {w : World} {H : Hs} {xs : List α} {v : Value} (h : Reads w xs [v]) : R2 w H (fun b => b < w.heap.size) (al xs) v :=
 RO.weak (h.2 0 _ v J J) fun b _ hb => .inl hb
theorem r2_agg {α : Type} [Enc α] {w : World} {H : Hs} {x : α} {cs : List Value} (h : Reads w x cs) : R2 w H (fun b => b < w.heap.size) (ag x) (.agg cs.toArray) := by
 refine ⟨cs,J,by simp [h.1,Enc.len],fun i c u h1 h2 => ?_⟩
 rw [List.getElem?_map] at h1
 obtain ⟨t,h3,rfl⟩ := Option.map_eq_some_iff.1 h1
 exact RO.weak (h.2 i t u h3 h2) fun b _ hb => .inl hb
theorem law_calls {P : Program} {f : FuncId} {args : List V2} (hc : Con P f [] args [] (B true)) (w : World) (vs : List Value) (hl : vs.length = args.length) (hr : ∀ (i : Nat) (x : V2) (v : Value),args[i]? = some x → vs[i]? = some v → R2 w (fun _ => .nil) (fun b => b < w.heap.size) x v) :
  Calls P f vs.toArray w fun e w' => e = .returned (.bool true) ∧ Below w.heap.size w w' := by
 refine (hc w (fun _ => .nil) (fun b => b < w.heap.size) vs ⟨fun _ => trivial,fun _ => by simp [Pc.fp],fun p q b h => by simp [Pc.fp] at h,fun p b h => by simp [Pc.fp] at h,fun _ h => h⟩ (fun p => by simp [RB]) hl hr).mono ?_
 rintro e w' ⟨H',F',rv,rfl,hs,_,_,hv⟩
 refine ⟨by rw [(RO.plain (show RO w' _ (.v (.bool true)) rv from hv)).1],hs.os,hs.tape,hs.output,hs.size,fun b hb => hs.keep b hb fun p => by simp [Pc.fp]⟩
end
section
open Go.RowKit

theorem Xx {a b : Int} (h : a = b) : I a = I b := by rw [h]
theorem Xk {a b : Bool} (h : a = b) : B a = B b := by rw [h]
def szr (n : Nat) (left : Int) : Int := if left < n then -1 else left - n
theorem Kr {n : Nat} {left : Int} (h : left < n) : szr n left = -1 := if_pos h
theorem Ks {n : Nat} {left : Int} (h : (n : Int) ≤ left) : szr n left = left - n := if_neg (by omega)
theorem wts_int : ∀ xs : List Int,wts xs = 0
 | [] => rfl
 | x :: xs => by simp [wts,wts_int xs,Enc.wt]
theorem eq_ne {α : Type} [DecidableEq α] {xs ys : List α} {j : Nat} (h1 : j < xs.length) (h2 : j < ys.length) (h : ¬ xs[j] = ys[j]) : decide (xs = ys) = false := by
 rw [decide_eq_false_iff_not]
 intro e
 subst e
 exact h J
theorem eq_all {α : Type} [DecidableEq α] {xs ys : List α} {j : Nat} (h1 : xs.length ≤ j) (h2 : xs.length = ys.length) (h : xs.take j = ys.take j) : decide (xs = ys) = true := by
 rw [List.take_of_length_le h1,List.take_of_length_le (by omega)] at h
 simp [h]
theorem eq_len {α : Type} [DecidableEq α] {xs ys : List α} (h : xs.length ≠ ys.length) : decide (xs = ys) = false := by
 rw [decide_eq_false_iff_not]
 intro e
 subst e
 exact h J
theorem eq_next {α : Type} {xs ys : List α} {j : Nat} (h1 : j < xs.length) (h2 : j < ys.length) (h : xs.take j = ys.take j) (e : xs[j] = ys[j]) : xs.take (j + 1) = ys.take (j + 1) := by
 rw [List.take_succ_eq_append_getElem h1,List.take_succ_eq_append_getElem h2,h,e]

/-! ### Counting -/
theorem sz_IntS (xs : List Int) (left : Int) (hg : Enc.gd xs) (h0 : 0 ≤ left) (h1 : left ≤ 1048576) : Con Tryz.prog 84 [] [al xs,ai left] [] (I (szr (Enc.wt xs) left)) := by
 have hlen := Yq xs
 have hx := hg.1
 have hw : Enc.wt xs = xs.length := by simp [Enc.wt,wts_int]
 refine Con.of Tryz.func84 J Tryz.ntmps84 J (fun E => ?_)
 refine zy (z1 J (zz (zy (z0 J (z0 J (zx (Z0 J J J) J (z8 J (by omega) (z1 J ?_))))))));refine zz (Qd (zy (z0 J (zx (Z5 J J J J) J (zz ?_)))))
 refine Xb J (fun h => ?_) (fun h => ?_)
 ·refine zy (z1 rfl (zz (Xa (T_r (F_r ?_)))))
  have h2 := of_decide_eq_true (p := _) (by simpa using h)
  exact Xp J J (X6 [] (by decide) J J (Xx (by rw [Kr (by omega)])))
 ·refine Qh (Q0 (zy (z0 rfl (z1 rfl (zz ?_)))))
  refine Xa (F_r ?_)
  have h2 := of_decide_eq_false h
  exact Xp J J (X6 [] (by decide) J J (Xx (by rw [Ks (by omega)]; omega)))
theorem sz_StringS (xs : List ByteArray) (left : Int) (hg : Enc.gd xs) (h0 : 0 ≤ left) (h1 : left ≤ 1048576) : Con Tryz.prog 66 [] [al xs,ai left] [] (I (szr (Enc.wt xs) left)) := by
 have hlen := Yq xs
 have hx := hg.1
 have hw : Enc.wt xs = xs.length + wts xs := rfl
 refine Con.of Tryz.func66 J Tryz.ntmps66 J (fun E => ?_)
 refine zy (z1 J (zz (zy (z0 J (z0 J (zx (Z0 J J J) J (z8 J (by omega) (z1 J ?_))))))));refine zz (Qd (zy (z0 J (zx (Z5 J J J J) J (zz ?_)))))
 refine Xb J (fun h => ?_) (fun h => ?_)
 ·refine zy (z1 rfl (zz (Xa (T_r (F_r ?_)))))
  have h2 := of_decide_eq_true h
  exact Xp J J (X6 [] (by decide) J J (Xx (by rw [Kr (by omega)])))
 have h2 : ¬ (left - ((els xs).length : Int) < 0) := of_decide_eq_false h
 refine Qh (Q0 (Qd (zy (z1 J (zz (Qk ?_))))))
 refine A_lq (fun m st => ∃ k : Nat,k + m = xs.length ∧ (((xs.length : Int) + wts (xs.take k) ≤ left)) ∧ st = (⟨_,[(0,L xs),(1,I (left - (xs.length + wts (xs.take k)))),(5,I k)],[]⟩ : St)) (xs.length) ⟨(fun k : Nat => (⟨_,[(0,L xs),(1,I (left - (xs.length + wts (xs.take k)))),(5,I k)],[]⟩ : St)) 0,⟨0,by omega,by simp [wts]; omega,J⟩,X8 [] (by decide) J (J) (.c J (.cons (Xx (by simp [els,wts])) (.c J (.nil))))⟩ ?_
 rintro m_A _ ⟨k,hk_A,hp_A,rfl⟩
 refine Qd (zy (z0 J (z0 J (zx (Z0 J J J) J (zx (Z5 J J J J) J (zz ?_))))))
 refine Xb J (fun h => ?_) (fun h => ?_)
 ·have h3 : k < xs.length := by have := of_decide_eq_true h; omega
  have hat := Yo h3
  have hstep := wts_take xs k h3
  have hle := wts_take_le xs (k + 1)
  have hws : Enc.wt xs[k] = xs[k].size := rfl
  have hgd : xs[k].size ≤ 9223372036854775807 := hg.2 _ (List.getElem_mem h3)
  by_cases h4 : left - ((xs.length : Int) + wts (xs.take k)) - xs[k].size < 0
  ·have hb : decide (left - ((xs.length : Int) + wts (xs.take k)) - xs[k].size < 0) = true := decide_eq_true h4
   refine Qh (Q0 (Qd (Qk (zy (z0 J (z0 J (z0 J (zx (Q2 J J J J (by omega) (by assumption) J) J (zx (Z4 J J J J) J (zx (Z3 J J J) J ?_))))))))));refine z8 J (by omega) (z1 J (zz (zy (z0 J (z9a J (by assumption) (zz (Qm J (Qd ?_))))))));refine Qc (z1 J (zz (Xa (B_r (T_r (T_r (B_r (T_r (F_r ?_)))))))))
   exact Xp J J (X6 [] (by decide) J J (Xx (by rw [Kr (by omega)])))
  ·have hb : decide (left - ((xs.length : Int) + wts (xs.take k)) - xs[k].size < 0) = false := decide_eq_false h4
   refine Qh (Q0 (Qd (Qk (zy (z0 J (z0 J (z0 J (zx (Q2 J J J J (by omega) (by assumption) J) J (zx (Z4 J J J J) J (zx (Z3 J J J) J ?_))))))))));refine z8 J (by omega) (z1 J (zz (zy (z0 J (z9a J (by assumption) (zz (Ql J (Qh ?_))))))));refine Q1 (Q0 (Qc (z0 J (z7 J (by omega) (z1 J (zz ?_))))))
   exact ⟨xs.length - (k + 1),by omega,(fun k : Nat => (⟨_,[(0,L xs),(1,I (left - (xs.length + wts (xs.take k)))),(5,I k)],[]⟩ : St)) (k + 1),⟨k + 1,by omega,by omega,J⟩,X8 [] (by decide) J (J) (.c J (.cons (Xx (by rw [hstep]; omega)) (.c J (.nil))))⟩
 ·have h3 : ¬ ((k : Int) < (els xs).length) := of_decide_eq_false h
  have hk : wts (xs.take k) = wts xs := by rw [List.take_of_length_le (by omega)]
  refine Q9 (T_x (T_x (Xl (Q0 (zy (z0 J (z1 J (zz (Xa ?_)))))))));refine F_r ?_
  exact Xp J J (X6 [] (by decide) J J (Xx (by rw [Ks (by omega)]; omega)))
theorem sz_IntSS (xs : List (List Int)) (left : Int) (hg : Enc.gd xs) (h0 : 0 ≤ left) (h1 : left ≤ 1048576) : Con Tryz.prog 32 [] [al xs,ai left] [] (I (szr (Enc.wt xs) left)) := by
 have hlen := Yq xs
 have hx := hg.1
 have hw : Enc.wt xs = xs.length + wts xs := rfl
 refine Con.of Tryz.func32 J Tryz.ntmps32 J (fun E => ?_)
 refine zy (z1 J (zz (zy (z0 J (z0 J (zx (Z0 J J J) J (z8 J (by omega) (z1 J ?_))))))));refine zz (Qd (zy (z0 J (zx (Z5 J J J J) J (zz ?_)))))
 refine Xb J (fun h => ?_) (fun h => ?_)
 ·refine zy (z1 rfl (zz (Xa (T_r (F_r ?_)))))
  have h2 := of_decide_eq_true h
  exact Xp J J (X6 [] (by decide) J J (Xx (by rw [Kr (by omega)])))
 have h2 : ¬ (left - ((els xs).length : Int) < 0) := of_decide_eq_false h
 refine Qh (Q0 (Qd (zy (z1 J (zz (Qk ?_))))))
 refine A_lq (fun m st => ∃ k : Nat,k + m = xs.length ∧ (((xs.length : Int) + wts (xs.take k) ≤ left)) ∧ st = (⟨_,[(0,L xs),(1,I (left - (xs.length + wts (xs.take k)))),(5,I k)],[]⟩ : St)) (xs.length) ⟨(fun k : Nat => (⟨_,[(0,L xs),(1,I (left - (xs.length + wts (xs.take k)))),(5,I k)],[]⟩ : St)) 0,⟨0,by omega,by simp [wts]; omega,J⟩,X8 [] (by decide) J (J) (.c J (.cons (Xx (by simp [els,wts])) (.c J (.nil))))⟩ ?_
 rintro m_A _ ⟨k,hk_A,hp_A,rfl⟩
 refine Qd (zy (z0 J (z0 J (zx (Z0 J J J) J (zx (Z5 J J J J) J (zz ?_))))))
 refine Xb J (fun h => ?_) (fun h => ?_)
 ·have h3 : k < xs.length := by have := of_decide_eq_true h; omega
  have hat := Yo h3
  have hstep := wts_take xs k h3
  have hle := wts_take_le xs (k + 1)
  have hc := sz_IntS xs[k] (left - ((xs.length : Int) + wts (xs.take k))) (hg.2 _ (List.getElem_mem h3)) (by omega) (by omega)
  by_cases h4 : left - ((xs.length : Int) + wts (xs.take k)) < Enc.wt xs[k]
  ·rw [Kr h4] at hc
   have hb : decide ((-1 : Int) < 0) = true := rfl
   refine Qh (Q0 (Qd (Qk (zy (z0 J (z0 J (zx (Q2 J J J J (by omega) (by assumption) J) J (zx (Z4 J J J J) J (z0 J ?_)))))))));refine zx (Qj J J (hc) J) J ?_;refine z1 J (zz (zy (z0 J (z9a J (by assumption) (zz (Qm J (zy ?_)))))));refine z1 J (zz (Xa (B_r (T_r (T_r (B_r (T_r (F_r ?_))))))))
   exact Xp J J (X6 [] (by decide) J J (Xx (by rw [Kr (by omega)])))
  ·rw [Ks (by omega)] at hc
   have hb : decide (left - ((xs.length : Int) + wts (xs.take k)) - Enc.wt xs[k] < 0) = false := decide_eq_false (by omega)
   refine Qh (Q0 (Qd (Qk (zy (z0 J (z0 J (zx (Q2 J J J J (by omega) (by assumption) J) J (zx (Z4 J J J J) J (z0 J ?_)))))))));refine zx (Qj J J (hc) J) J ?_;refine z1 J (zz (zy (z0 J (z9a J (by assumption) (zz (Ql J (Qh (Q1 ?_))))))));refine Q0 (Qc (z0 J (z7 J (by omega) (z1 J (zz ?_)))))
   exact ⟨xs.length - (k + 1),by omega,(fun k : Nat => (⟨_,[(0,L xs),(1,I (left - (xs.length + wts (xs.take k)))),(5,I k)],[]⟩ : St)) (k + 1),⟨k + 1,by omega,by omega,J⟩,X8 [] (by decide) J (J) (.c J (.cons (Xx (by rw [hstep]; omega)) (.c J (.nil))))⟩
 ·have h3 : ¬ ((k : Int) < (els xs).length) := of_decide_eq_false h
  have hk : wts (xs.take k) = wts xs := by rw [List.take_of_length_le (by omega)]
  refine Q9 (T_x (T_x (Xl (Q0 (zy (z0 J (z1 J (zz (Xa ?_)))))))));refine F_r ?_
  exact Xp J J (X6 [] (by decide) J J (Xx (by rw [Ks (by omega)]; omega)))

/-! ### Copying -/
def part {α : Type} [Enc α] (xs : List α) (z : List T) (k : Nat) : List (List T) := els (xs.take k) ++ List.replicate (xs.length - k) z
theorem part_len {α : Type} [Enc α] (xs : List α) (z : List T) {k : Nat} (h : k ≤ xs.length) : (part xs z k).length = xs.length := by simp [part,els]; omega
theorem part_zero {α : Type} [Enc α] (xs : List α) (z : List T) : part xs z 0 = List.replicate (((els xs).length : Int)).toNat z := by simp [part,els]
theorem part_all {α : Type} [Enc α] (xs : List α) (z : List T) {k : Nat} (h : xs.length ≤ k) : part xs z k = els xs := by
 unfold part
 rw [List.take_of_length_le h,show xs.length - k = 0 by omega]
 simp
theorem part_at {α : Type} [Enc α] (xs : List α) (z : List T) {k : Nat} (h : k < xs.length) : (part xs z k)[(k : Int).toNat]? = some z := by
 have h1 : (els (xs.take k)).length = k := by simp [els]; omega
 unfold part
 rw [Int.toNat_natCast,List.getElem?_append_right (by omega),h1,Nat.sub_self,List.getElem?_replicate,if_pos (by omega)]
theorem part_set {α : Type} [Enc α] (xs : List α) (z : List T) {k : Nat} (h : k < xs.length) (ts : List T) (ht : ts = Enc.e xs[k]) (hz : z.length = ts.length) : (part xs z k).set (k : Int).toNat (splice z 0 ts) = part xs z (k + 1) := by
 have h1 : (els (xs.take k)).length = k := by simp [els]; omega
 have h2 : splice z 0 ts = ts := by simp [splice,hz]
 subst ht
 unfold part
 rw [h2,Int.toNat_natCast,List.set_append_right _ _ (by omega),h1,Nat.sub_self,show xs.length - k = (xs.length - (k + 1)) + 1 by omega,List.replicate_succ,List.set_cons_zero]
 have h3 : els (xs.take (k + 1)) = els (xs.take k) ++ [Enc.e xs[k]] := by
  rw [List.take_succ_eq_append_getElem h]
  simp only [els,List.map_append,List.map_cons,List.map_nil]
 rw [h3,List.append_assoc]
 rfl
theorem Ki {k : Nat} {a b : List (List T)} (h : a = b) : [Ob.row k a] = [Ob.row k b] := by rw [h]

theorem to_IntS (xs : List Int) (hg : Enc.wt xs ≤ 1048576) : Con Tryz.prog 25 [] [al xs] [.row (Enc.k Int) (els xs)] (.o (.c (.ref 0))) := by
 have hlen := Yq xs
 have hw : Enc.wt xs = xs.length + wts xs := rfl
 refine Con.of Tryz.func25 J Tryz.ntmps25 J (fun E => ?_)
 refine zy (z1 J (zz (zy (z0 J (zx (Z0 J J J) J ?_)))));refine M1 (q_make 0 J J J J (by omega) (by omega) (by omega) J (by decide)) J J ?_;refine z1 J (zz (Qd (zy (z1 J (zz (Qk ?_))))));refine A_lq (fun m st => ∃ k : Nat,k + m = xs.length ∧ (True) ∧ st = (⟨_,[(0,L xs),(3,.o (.c (.ref 0))),(4,I k)],[.row 1 (part xs [(.v (.int .i64 0))] k)]⟩ : St)) (xs.length) ⟨(fun k : Nat => (⟨_,[(0,L xs),(3,.o (.c (.ref 0))),(4,I k)],[.row 1 (part xs [(.v (.int .i64 0))] k)]⟩ : St)) 0,⟨0,by omega,trivial,J⟩,X8 [0] (by decide) J (Ki (part_zero xs _)) (.c J (.c J (.c J (.nil))))⟩ ?_
 rintro m_A _ ⟨k,hk_A,hp_A,rfl⟩
 refine Qd (zy (z0 J (z0 J (zx (Z0 J J J) J (zx (Z5 J J J J) J (zz ?_))))))
 refine Xb J (fun h => ?_) (fun h => ?_)
 ·have h3 : k < xs.length := by have := of_decide_eq_true h; omega
  have hat := Yo h3
  have hz := part_at xs [(.v (.int .i64 0))] h3
  have hpl : (k : Int) < (part xs [(.v (.int .i64 0))] k).length := by rw [part_len xs _ (by omega)]; omega
  have hwt : Enc.wt xs[k] ≤ wts xs := wts_le xs _ (List.getElem_mem h3)
  refine Qh (Q0 (Qd (Qk (Qc (z0 J (z0 J (z0 J (z0 J (zx (Q2 J J J J (by omega) (by assumption) J) J (zx (Z4 J J J J) J (zx (Q3 J J J J J (by omega) (by assumption)) J ?_)))))))))));refine Xh J J J J J J J J J (by assumption) J J (Qe (Q1 (Q0 (Qc (z0 J (z7 J (by omega) (z1 J (zz ?_))))))))
  exact ⟨xs.length - (k + 1),by omega,(fun k : Nat => (⟨_,[(0,L xs),(3,.o (.c (.ref 0))),(4,I k)],[.row 1 (part xs [(.v (.int .i64 0))] k)]⟩ : St)) (k + 1),⟨k + 1,by omega,trivial,J⟩,X8 [0] (by decide) J (Ki (part_set xs [(.v (.int .i64 0))] h3 _ (by rfl) (by rfl)).symm) (.c J (.c J (.c J (.nil))))⟩
 ·have h3 : ¬ ((k : Int) < (els xs).length) := of_decide_eq_false h
  refine Q9 (T_x (T_x (Xl (Q0 (zy (z0 J (z1 J (zz (Xa ?_)))))))));refine F_r ?_
  exact Xp J J (X6 [0] (by decide) J (Ki (part_all xs _ (by omega)).symm) J)
theorem to_StringS (xs : List ByteArray) (hg : Enc.wt xs ≤ 1048576) : Con Tryz.prog 74 [] [al xs] [.row (Enc.k ByteArray) (els xs)] (.o (.c (.ref 0))) := by
 have hlen := Yq xs
 have hw : Enc.wt xs = xs.length + wts xs := rfl
 refine Con.of Tryz.func74 J Tryz.ntmps74 J (fun E => ?_)
 refine zy (z1 J (zz (zy (z0 J (zx (Z0 J J J) J ?_)))));refine M1 (q_make 0 J J J J (by omega) (by omega) (by omega) J (by decide)) J J ?_;refine z1 J (zz (Qd (zy (z1 J (zz (Qk ?_))))));refine A_lq (fun m st => ∃ k : Nat,k + m = xs.length ∧ (True) ∧ st = (⟨_,[(0,L xs),(3,.o (.c (.ref 0))),(4,I k)],[.row 1 (part xs [(.v (.string ⟨#[]⟩))] k)]⟩ : St)) (xs.length) ⟨(fun k : Nat => (⟨_,[(0,L xs),(3,.o (.c (.ref 0))),(4,I k)],[.row 1 (part xs [(.v (.string ⟨#[]⟩))] k)]⟩ : St)) 0,⟨0,by omega,trivial,J⟩,X8 [0] (by decide) J (Ki (part_zero xs _)) (.c J (.c J (.c J (.nil))))⟩ ?_
 rintro m_A _ ⟨k,hk_A,hp_A,rfl⟩
 refine Qd (zy (z0 J (z0 J (zx (Z0 J J J) J (zx (Z5 J J J J) J (zz ?_))))))
 refine Xb J (fun h => ?_) (fun h => ?_)
 ·have h3 : k < xs.length := by have := of_decide_eq_true h; omega
  have hat := Yo h3
  have hz := part_at xs [(.v (.string ⟨#[]⟩))] h3
  have hpl : (k : Int) < (part xs [(.v (.string ⟨#[]⟩))] k).length := by rw [part_len xs _ (by omega)]; omega
  have hwt : Enc.wt xs[k] ≤ wts xs := wts_le xs _ (List.getElem_mem h3)
  refine Qh (Q0 (Qd (Qk (Qc (z0 J (z0 J (z0 J (z0 J (zx (Q2 J J J J (by omega) (by assumption) J) J (zx (Z4 J J J J) J (zx (Q3 J J J J J (by omega) (by assumption)) J ?_)))))))))));refine Xh J J J J J J J J J (by assumption) J J (Qe (Q1 (Q0 (Qc (z0 J (z7 J (by omega) (z1 J (zz ?_))))))))
  exact ⟨xs.length - (k + 1),by omega,(fun k : Nat => (⟨_,[(0,L xs),(3,.o (.c (.ref 0))),(4,I k)],[.row 1 (part xs [(.v (.string ⟨#[]⟩))] k)]⟩ : St)) (k + 1),⟨k + 1,by omega,trivial,J⟩,X8 [0] (by decide) J (Ki (part_set xs [(.v (.string ⟨#[]⟩))] h3 _ (by rfl) (by rfl)).symm) (.c J (.c J (.c J (.nil))))⟩
 ·have h3 : ¬ ((k : Int) < (els xs).length) := of_decide_eq_false h
  refine Q9 (T_x (T_x (Xl (Q0 (zy (z0 J (z1 J (zz (Xa ?_)))))))));refine F_r ?_
  exact Xp J J (X6 [0] (by decide) J (Ki (part_all xs _ (by omega)).symm) J)
theorem to_IntSS (xs : List (List Int)) (hg : Enc.wt xs ≤ 1048576) : Con Tryz.prog 34 [] [al xs] [.row (Enc.k (List Int)) (els xs)] (.o (.c (.ref 0))) := by
 have hlen := Yq xs
 have hw : Enc.wt xs = xs.length + wts xs := rfl
 refine Con.of Tryz.func34 J Tryz.ntmps34 J (fun E => ?_)
 refine zy (z1 J (zz (zy (z0 J (zx (Z0 J J J) J ?_)))));refine M1 (q_make 1 J J J J (by omega) (by omega) (by omega) J (by decide)) J J ?_;refine z1 J (zz (Qd (zy (z1 J (zz (Qk ?_))))));refine A_lq (fun m st => ∃ k : Nat,k + m = xs.length ∧ (True) ∧ st = (⟨_,[(0,L xs),(3,.o (.c (.ref 0))),(4,I k)],[.row 1 (part xs [(.sl 1 [])] k)]⟩ : St)) (xs.length) ⟨(fun k : Nat => (⟨_,[(0,L xs),(3,.o (.c (.ref 0))),(4,I k)],[.row 1 (part xs [(.sl 1 [])] k)]⟩ : St)) 0,⟨0,by omega,trivial,J⟩,X8 [0] (by decide) J (Ki (part_zero xs _)) (.c J (.c J (.c J (.nil))))⟩ ?_
 rintro m_A _ ⟨k,hk_A,hp_A,rfl⟩
 refine Qd (zy (z0 J (z0 J (zx (Z0 J J J) J (zx (Z5 J J J J) J (zz ?_))))))
 refine Xb J (fun h => ?_) (fun h => ?_)
 ·have h3 : k < xs.length := by have := of_decide_eq_true h; omega
  have hat := Yo h3
  have hz := part_at xs [(.sl 1 [])] h3
  have hpl : (k : Int) < (part xs [(.sl 1 [])] k).length := by rw [part_len xs _ (by omega)]; omega
  have hwt : Enc.wt xs[k] ≤ wts xs := wts_le xs _ (List.getElem_mem h3)
  refine Qh (Q0 (Qd (Qk (Qc (z0 J (z0 J (z0 J (z0 J (zx (Q2 J J J J (by omega) (by assumption) J) J (zx (Z4 J J J J) J ?_))))))))));refine M1 (Zs J J (to_IntS _ (by omega)) J J J) J J ?_;refine zx (Q3 J J J J J (by omega) (by assumption)) J ?_;refine Xh J J J J J J J J J (by assumption) J J (Qe (Q1 (Q0 (Qc (z0 J (z7 J (by omega) (z1 J (zz ?_))))))))
  exact ⟨xs.length - (k + 1),by omega,(fun k : Nat => (⟨_,[(0,L xs),(3,.o (.c (.ref 0))),(4,I k)],[.row 1 (part xs [(.sl 1 [])] k)]⟩ : St)) (k + 1),⟨k + 1,by omega,trivial,J⟩,X8 [0] (by decide) J (Ki (part_set xs [(.sl 1 [])] h3 _ (by rfl) (by rfl)).symm) (.c J (.c J (.c J (.nil))))⟩
 ·have h3 : ¬ ((k : Int) < (els xs).length) := of_decide_eq_false h
  refine Q9 (T_x (T_x (Xl (Q0 (zy (z0 J (z1 J (zz (Xa ?_)))))))));refine F_r ?_
  exact Xp J J (X6 [0] (by decide) J (Ki (part_all xs _ (by omega)).symm) J)

/-! ### Comparing -/
theorem eq_IntS (xs ys : List Int) (hn : Enc.gd xs) : Con Tryz.prog 28 [] [al xs,al ys] [] (B (decide (xs = ys))) := by
 have hn1 := hn.1
 have hlx := Yq xs
 have hly := Yq ys
 by_cases hl : xs.length = ys.length
 ·have hb : decide (((els xs).length : Int) ≠ ((els ys).length : Int)) = false := by rw [hlx,hly,hl]; simp
  refine Con.of Tryz.func28 J Tryz.ntmps28 J (fun E => ?_)
  refine zy (z1 J (zz (Qd (zy (z0 J (zx (Z0 J J J) J (z0 J (zx (Z0 J J J) J ?_))))))));refine z9f J (by assumption) (zz (Ql J (Qh (Q0 (Qd (zy (z1 J (zz ?_))))))));refine Qk ?_;refine A_lq (fun m st => ∃ k : Nat,k + m = xs.length ∧ (xs.take k = ys.take k) ∧ st = (⟨_,[(0,L xs),(1,L ys),(5,I k)],[]⟩ : St)) (xs.length) ⟨_,⟨0,by omega,by simp,J⟩,W_gj [] J⟩ ?_
  rintro m_A _ ⟨k,hk_A,hp_A,rfl⟩
  refine Qd (zy (z0 J (z0 J (zx (Z0 J J J) J (zx (Z5 J J J J) J (zz ?_))))))
  refine Xb J (fun h => ?_) (fun h => ?_)
  ·have h3 : k < xs.length := by have := of_decide_eq_true h; omega
   have h4 : k < ys.length := by omega
   have hat := Yo h3
   have hat2 := Yo h4
   by_cases he : xs[k] = ys[k]
   ·have hk : decide (xs[k] ≠ ys[k]) = false := by simp [he]
    refine Qh (Q0 (Qd (Qk (Qd (Xi u8_0 u8_1 u8_2 J (DR.s (Qa J J J) J J (DR.s (Qa J J J) J J (DR.s (Q2 J J J J (by omega) (by assumption) J) J J (DR.s (Z4 J J J J) J J (DR.s (Qa J J J) J J (DR.s (Qa J J J) J J ?_)))))))))));refine DR.s (Q2 J J J J (by omega) (by assumption) J) J J (DR.s (Z4 J J J J) J J (DR.s (Qw J J J J (by assumption)) J J (DR.stop (by kernel_rfl) (by kernel_rfl) (zz (Ql J (Qh (Q1 (Q0 (Qc (z0 J ?_))))))))));refine z7 J (by omega) (z1 J (zz ?_))
    exact ⟨xs.length - (k + 1),by omega,_,⟨k + 1,by omega,eq_next h3 h4 hp_A he,J⟩,W_gj [] J⟩
   ·have hk : decide (xs[k] ≠ ys[k]) = true := by simp [he]
    refine Qh (Q0 (Qd (Qk (Qd (Xi u8_0 u8_1 u8_2 J (DR.s (Qa J J J) J J (DR.s (Qa J J J) J J (DR.s (Q2 J J J J (by omega) (by assumption) J) J J (DR.s (Z4 J J J J) J J (DR.s (Qa J J J) J J (DR.s (Qa J J J) J J ?_)))))))))));refine DR.s (Q2 J J J J (by omega) (by assumption) J) J J (DR.s (Z4 J J J J) J J (DR.s (Qw J J J J (by assumption)) J J (DR.stop (by kernel_rfl) (by kernel_rfl) (zz (Qm J (zy (z1 J (zz ?_))))))));refine Xa (B_r (T_r (T_r (B_r (T_r (F_r ?_))))))
    exact Xp J J (X6 [] (by decide) J J (Xk (eq_ne h3 h4 he).symm))
  ·have h3 : ¬ ((k : Int) < (els xs).length) := of_decide_eq_false h
   refine Q9 (T_x (T_x (Xl (Q0 (zy (z1 J (zz (Xa (F_r ?_)))))))))
   exact Xp J J (X6 [] (by decide) J J (Xk (eq_all (by omega) hl hp_A).symm))
 ·have hb : decide (((els xs).length : Int) ≠ ((els ys).length : Int)) = true := by rw [hlx,hly]; simp; omega
  refine Con.of Tryz.func28 J Tryz.ntmps28 J (fun E => ?_)
  refine zy (z1 J (zz (Qd (zy (z0 J (zx (Z0 J J J) J (z0 J (zx (Z0 J J J) J ?_))))))));refine z9f J (by assumption) (zz (Qm J (zy (z1 J (zz (Xa (T_r (F_r ?_))))))))
  exact Xp J J (X6 [] (by decide) J J (Xk (eq_len hl).symm))
theorem eq_StringS (xs ys : List ByteArray) (hn : Enc.gd xs) : Con Tryz.prog 78 [] [al xs,al ys] [] (B (decide (xs = ys))) := by
 have hn1 := hn.1
 have hlx := Yq xs
 have hly := Yq ys
 by_cases hl : xs.length = ys.length
 ·have hb : decide (((els xs).length : Int) ≠ ((els ys).length : Int)) = false := by rw [hlx,hly,hl]; simp
  refine Con.of Tryz.func78 J Tryz.ntmps78 J (fun E => ?_)
  refine zy (z1 J (zz (Qd (zy (z0 J (zx (Z0 J J J) J (z0 J (zx (Z0 J J J) J ?_))))))));refine z9f J (by assumption) (zz (Ql J (Qh (Q0 (Qd (zy (z1 J (zz ?_))))))));refine Qk ?_;refine A_lq (fun m st => ∃ k : Nat,k + m = xs.length ∧ (xs.take k = ys.take k) ∧ st = (⟨_,[(0,L xs),(1,L ys),(5,I k)],[]⟩ : St)) (xs.length) ⟨_,⟨0,by omega,by simp,J⟩,W_gj [] J⟩ ?_
  rintro m_A _ ⟨k,hk_A,hp_A,rfl⟩
  refine Qd (zy (z0 J (z0 J (zx (Z0 J J J) J (zx (Z5 J J J J) J (zz ?_))))))
  refine Xb J (fun h => ?_) (fun h => ?_)
  ·have h3 : k < xs.length := by have := of_decide_eq_true h; omega
   have h4 : k < ys.length := by omega
   have hat := Yo h3
   have hat2 := Yo h4
   by_cases he : xs[k] = ys[k]
   ·have hk : decide (xs[k] ≠ ys[k]) = false := by simp [he]
    refine Qh (Q0 (Qd (Qk (Qd (Xi u8_0 u8_1 u8_2 J (DR.s (Qa J J J) J J (DR.s (Qa J J J) J J (DR.s (Q2 J J J J (by omega) (by assumption) J) J J (DR.s (Z4 J J J J) J J (DR.s (Qa J J J) J J (DR.s (Qa J J J) J J ?_)))))))))));refine DR.s (Q2 J J J J (by omega) (by assumption) J) J J (DR.s (Z4 J J J J) J J (DR.s (Ka J J J J (by assumption)) J J (DR.stop (by kernel_rfl) (by kernel_rfl) (zz (Ql J (Qh (Q1 (Q0 (Qc (z0 J ?_))))))))));refine z7 J (by omega) (z1 J (zz ?_))
    exact ⟨xs.length - (k + 1),by omega,_,⟨k + 1,by omega,eq_next h3 h4 hp_A he,J⟩,W_gj [] J⟩
   ·have hk : decide (xs[k] ≠ ys[k]) = true := by simp [he]
    refine Qh (Q0 (Qd (Qk (Qd (Xi u8_0 u8_1 u8_2 J (DR.s (Qa J J J) J J (DR.s (Qa J J J) J J (DR.s (Q2 J J J J (by omega) (by assumption) J) J J (DR.s (Z4 J J J J) J J (DR.s (Qa J J J) J J (DR.s (Qa J J J) J J ?_)))))))))));refine DR.s (Q2 J J J J (by omega) (by assumption) J) J J (DR.s (Z4 J J J J) J J (DR.s (Ka J J J J (by assumption)) J J (DR.stop (by kernel_rfl) (by kernel_rfl) (zz (Qm J (zy (z1 J (zz ?_))))))));refine Xa (B_r (T_r (T_r (B_r (T_r (F_r ?_))))))
    exact Xp J J (X6 [] (by decide) J J (Xk (eq_ne h3 h4 he).symm))
  ·have h3 : ¬ ((k : Int) < (els xs).length) := of_decide_eq_false h
   refine Q9 (T_x (T_x (Xl (Q0 (zy (z1 J (zz (Xa (F_r ?_)))))))))
   exact Xp J J (X6 [] (by decide) J J (Xk (eq_all (by omega) hl hp_A).symm))
 ·have hb : decide (((els xs).length : Int) ≠ ((els ys).length : Int)) = true := by rw [hlx,hly]; simp; omega
  refine Con.of Tryz.func78 J Tryz.ntmps78 J (fun E => ?_)
  refine zy (z1 J (zz (Qd (zy (z0 J (zx (Z0 J J J) J (z0 J (zx (Z0 J J J) J ?_))))))));refine z9f J (by assumption) (zz (Qm J (zy (z1 J (zz (Xa (T_r (F_r ?_))))))))
  exact Xp J J (X6 [] (by decide) J J (Xk (eq_len hl).symm))
theorem eq_IntSS (xs ys : List (List Int)) (hn : Enc.gd xs) : Con Tryz.prog 35 [] [al xs,al ys] [] (B (decide (xs = ys))) := by
 have hn1 := hn.1
 have hlx := Yq xs
 have hly := Yq ys
 by_cases hl : xs.length = ys.length
 ·have hb : decide (((els xs).length : Int) ≠ ((els ys).length : Int)) = false := by rw [hlx,hly,hl]; simp
  refine Con.of Tryz.func35 J Tryz.ntmps35 J (fun E => ?_)
  refine zy (z1 J (zz (Qd (zy (z0 J (zx (Z0 J J J) J (z0 J (zx (Z0 J J J) J ?_))))))));refine z9f J (by assumption) (zz (Ql J (Qh (Q0 (Qd (zy (z1 J (zz ?_))))))));refine Qk ?_;refine A_lq (fun m st => ∃ k : Nat,k + m = xs.length ∧ (xs.take k = ys.take k) ∧ st = (⟨_,[(0,L xs),(1,L ys),(5,I k)],[]⟩ : St)) (xs.length) ⟨_,⟨0,by omega,by simp,J⟩,W_gj [] J⟩ ?_
  rintro m_A _ ⟨k,hk_A,hp_A,rfl⟩
  refine Qd (zy (z0 J (z0 J (zx (Z0 J J J) J (zx (Z5 J J J J) J (zz ?_))))))
  refine Xb J (fun h => ?_) (fun h => ?_)
  ·have h3 : k < xs.length := by have := of_decide_eq_true h; omega
   have h4 : k < ys.length := by omega
   have hat := Yo h3
   have hat2 := Yo h4
   by_cases he : xs[k] = ys[k]
   ·have hc := eq_IntS xs[k] ys[k] (hn.2 _ (List.getElem_mem h3))
    rw [decide_eq_true he] at hc
    refine Qh (Q0 (Qd (Qk (Qd (Xi u8_3 u8_4 u8_5 J (DR.s (Qa J J J) J J (DR.s (Qa J J J) J J (DR.s (Q2 J J J J (by omega) (by assumption) J) J J (DR.s (Z4 J J J J) J J (DR.s (Qa J J J) J J (DR.s (Qa J J J) J J ?_)))))))))));refine DR.s (Q2 J J J J (by omega) (by assumption) J) J J (DR.s (Z4 J J J J) J J ?_);refine DR.s (Qj J J (hc) J) J J ?_;refine DR.s (Q4 J J J) J J (DR.stop (by kernel_rfl) (by kernel_rfl) (zz (Ql J (Qh (Q1 (Q0 (Qc (z0 J (z7 J (by omega) (z1 J ?_))))))))));refine zz ?_
    exact ⟨xs.length - (k + 1),by omega,_,⟨k + 1,by omega,eq_next h3 h4 hp_A he,J⟩,W_gj [] J⟩
   ·have hc := eq_IntS xs[k] ys[k] (hn.2 _ (List.getElem_mem h3))
    rw [decide_eq_false he] at hc
    refine Qh (Q0 (Qd (Qk (Qd (Xi u8_3 u8_4 u8_5 J (DR.s (Qa J J J) J J (DR.s (Qa J J J) J J (DR.s (Q2 J J J J (by omega) (by assumption) J) J J (DR.s (Z4 J J J J) J J (DR.s (Qa J J J) J J (DR.s (Qa J J J) J J ?_)))))))))));refine DR.s (Q2 J J J J (by omega) (by assumption) J) J J (DR.s (Z4 J J J J) J J ?_);refine DR.s (Qj J J (hc) J) J J ?_;refine DR.s (Q4 J J J) J J (DR.stop (by kernel_rfl) (by kernel_rfl) (zz (Qm J (zy (z1 J (zz (Xa (B_r ?_))))))));refine T_r (T_r (B_r (T_r (F_r ?_))))
    exact Xp J J (X6 [] (by decide) J J (Xk (eq_ne h3 h4 he).symm))
  ·have h3 : ¬ ((k : Int) < (els xs).length) := of_decide_eq_false h
   refine Q9 (T_x (T_x (Xl (Q0 (zy (z1 J (zz (Xa (F_r ?_)))))))))
   exact Xp J J (X6 [] (by decide) J J (Xk (eq_all (by omega) hl hp_A).symm))
 ·have hb : decide (((els xs).length : Int) ≠ ((els ys).length : Int)) = true := by rw [hlx,hly]; simp; omega
  refine Con.of Tryz.func35 J Tryz.ntmps35 J (fun E => ?_)
  refine zy (z1 J (zz (Qd (zy (z0 J (zx (Z0 J J J) J (z0 J (zx (Z0 J J J) J ?_))))))));refine z9f J (by assumption) (zz (Qm J (zy (z1 J (zz (Xa (T_r (F_r ?_))))))))
  exact Xp J J (X6 [] (by decide) J J (Xk (eq_len hl).symm))
end
section
open Go.RowKit

def ownO : List T → List Ob
 | [] => []
 | .v _ :: ts => ownO ts
 | .sl k es :: ts => .row k es :: ownO ts
 | .un :: ts => ownO ts
def ownV : Nat → List T → List V1
 | _,[] => []
 | n,.v x :: ts => .rd [] (.v x) :: ownV n ts
 | n,.sl _ _ :: ts => .ref n :: ownV (n + 1) ts
 | n,.un :: ts => .un :: ownV n ts

structure TLevel where
 Rows : (List ByteArray)
 deriving DecidableEq
instance : Enc TLevel := ⟨1,by omega,fun x => [sl x.Rows],fun _ => rfl,fun x => Enc.gd x.Rows,fun x => Enc.wt x.Rows⟩
theorem TLevel.same {x y : TLevel} (h0 : x.Rows = y.Rows) : x = y := by cases x; cases y; simp_all
structure TReplay where
 Level : TLevel
 Players : Int
 Seed : Int
 Every : Int
 Rows : (List (List Int))
 Keys : (List ByteArray)
 deriving DecidableEq
instance : Enc TReplay := ⟨6,by omega,fun x => [sl x.Level.Rows,.v (.int .i64 x.Players),.v (.int .i64 x.Seed),.v (.int .i64 x.Every),sl x.Rows,sl x.Keys],fun _ => rfl,fun x => Enc.gd x.Level ∧ Enc.gd x.Players ∧ Enc.gd x.Seed ∧ Enc.gd x.Every ∧ Enc.gd x.Rows ∧ Enc.gd x.Keys,fun x => Enc.wt x.Level + Enc.wt x.Rows + Enc.wt x.Keys⟩
theorem TReplay.same {x y : TReplay} (h0 : x.Level = y.Level) (h1 : x.Players = y.Players) (h2 : x.Seed = y.Seed) (h3 : x.Every = y.Every) (h4 : x.Rows = y.Rows) (h5 : x.Keys = y.Keys) : x = y := by cases x; cases y; simp_all

theorem sz_Level (x : TLevel) (left : Int) (hg : Enc.gd x) (h0 : 0 ≤ left) (h1 : left ≤ 1048576) : Con Tryz.prog 65 [] [ag x,ai left] [] (I (szr (Enc.wt x) left)) := by
 have g_Rows : Enc.gd x.Rows := hg
 have hw : Enc.wt x = Enc.wt x.Rows := rfl
 have hm1 : decide ((-1 : Int) < 0) = true := rfl
 have hc_Rows := sz_StringS x.Rows (left) g_Rows (by omega) (by omega)
 by_cases n_Rows : left < Enc.wt x.Rows
 ·rw [Kr n_Rows] at hc_Rows
  refine Con.of Tryz.func65 J Tryz.ntmps65 J (fun E => ?_)
  refine zy (M1 (Qq J J J J) J J (z1 J (zz (zy (z2 J J J (z3 J (z0 J ?_)))))));refine zx (Qj J J (hc_Rows) J) J ?_;refine z1 J (zz (Qd (zy (z0 J (z9a J (by assumption) (zz (Qm J (Qd ?_))))))));refine Qc (z1 J (zz (Xa (T_r (F_r ?_)))))
  exact Xp J J (X6 [] (by decide) J J (Xx (by rw [Kr (by omega)])))
 rw [Ks (by omega)] at hc_Rows
 have hb_Rows : decide (left - Enc.wt x.Rows < 0) = false := decide_eq_false (by omega)
 refine Con.of Tryz.func65 J Tryz.ntmps65 J (fun E => ?_)
 refine zy (M1 (Qq J J J J) J J (z1 J (zz (zy (z2 J J J (z3 J (z0 J ?_)))))));refine zx (Qj J J (hc_Rows) J) J ?_;refine z1 J (zz (Qd (zy (z0 J (z9a J (by assumption) (zz (Ql J (Qh ?_))))))));refine Q0 (zy (z0 J (z1 J (zz (Xa (F_r ?_))))))
 exact Xp J J (X6 [] (by decide) J J (Xx (by rw [Ks (by omega)]; omega)))
theorem to_Level (x : TLevel) (hg : Enc.wt x ≤ 1048576) : Con Tryz.prog 73 [] [ag x] (ownO (Enc.e x)) (.o (.ag (ownV 0 (Enc.e x)))) := by
 have hw : Enc.wt x = Enc.wt x.Rows := rfl
 refine Con.of Tryz.func73 J Tryz.ntmps73 J (fun E => ?_)
 refine zy (M1 (Qq J J J J) J J (M1 (Qx J J J) J J (zz (zy (M1 (Qx J J J) J J (zz (Qd ?_)))))));refine Qc (z2 J J J (z3 J ?_));refine M1 (Zs J J (to_StringS x.Rows (by omega)) J J J) J J ?_;refine z2 J J J ?_;refine Q5 J J J J J J J J (zz (zy (z4 J J J ?_)));refine Qy J J J J J J J J J (zz (Xa (F_r ?_)))
 exact Xm J J J J (X6 [3] (by decide) J J J)
theorem eq_Level (x y : TLevel) (hg : Enc.gd x) : Con Tryz.prog 77 [] [ag x,ag y] [] (B (decide (x = y))) := by
 have g_Rows : Enc.gd x.Rows := hg
 by_cases e_Rows : ¬ x.Rows = y.Rows
 ·have hc := eq_StringS x.Rows y.Rows g_Rows
  rw [decide_eq_false e_Rows] at hc
  refine Con.of Tryz.func77 J Tryz.ntmps77 J (fun E => ?_)
  refine zy (M1 (Qq J J J J) J J (M1 (Qq J J J J) J J (z1 J (zz (Qd (zy (z2 J J J (z3 J ?_))))))));refine z2 J J J (z3 J ?_);refine zx (Qj J J (hc) J) J ?_;refine zn J (zz (Qm J (zy (z1 J (zz (Xa (T_r (F_r ?_))))))))
  exact Xp J J (X6 [] (by decide) J J (Xk (decide_eq_false fun e => e_Rows (by rw [e])).symm))
 have e_Rows := Classical.not_not.1 e_Rows
 have hc_Rows := eq_StringS x.Rows y.Rows g_Rows
 rw [decide_eq_true e_Rows] at hc_Rows
 refine Con.of Tryz.func77 J Tryz.ntmps77 J (fun E => ?_)
 refine zy (M1 (Qq J J J J) J J (M1 (Qq J J J J) J J (z1 J (zz (Qd (zy (z2 J J J (z3 J ?_))))))));refine z2 J J J (z3 J ?_);refine zx (Qj J J (hc_Rows) J) J ?_;refine zn J (zz (Ql J (Qh (Q0 (zy (z1 J (zz (Xa ?_))))))));refine F_r ?_
 exact Xp J J (X6 [] (by decide) J J (Xk (decide_eq_true (TLevel.same e_Rows)).symm))
theorem sz_Replay (x : TReplay) (left : Int) (hg : Enc.gd x) (h0 : 0 ≤ left) (h1 : left ≤ 1048576) : Con Tryz.prog 22 [] [ag x,ai left] [] (I (szr (Enc.wt x) left)) := by
 obtain ⟨g_Level,g_Players,g_Seed,g_Every,g_Rows,g_Keys⟩ := hg
 have hw : Enc.wt x = Enc.wt x.Level + Enc.wt x.Rows + Enc.wt x.Keys := rfl
 have hm1 : decide ((-1 : Int) < 0) = true := rfl
 have hc_Level := sz_Level x.Level (left) g_Level (by omega) (by omega)
 by_cases n_Level : left < Enc.wt x.Level
 ·rw [Kr n_Level] at hc_Level
  refine Con.of Tryz.func22 J Tryz.ntmps22 J (fun E => ?_)
  refine zy (M1 (Qq J J J J) J J (z1 J (zz (zy (z2 J J J (z4 J J J (z0 J ?_)))))));refine zx (Qj J J (hc_Level) J) J ?_;refine z1 J (zz (Qd (zy (z0 J (z9a J (by assumption) (zz (Qm J (Qd ?_))))))));refine Qc (z1 J (zz (Xa (T_r (F_r ?_)))))
  exact Xp J J (X6 [] (by decide) J J (Xx (by rw [Kr (by omega)])))
 rw [Ks (by omega)] at hc_Level
 have hb_Level : decide (left - Enc.wt x.Level < 0) = false := decide_eq_false (by omega)
 have hc_Rows := sz_IntSS x.Rows (left - Enc.wt x.Level) g_Rows (by omega) (by omega)
 by_cases n_Rows : left - Enc.wt x.Level < Enc.wt x.Rows
 ·rw [Kr n_Rows] at hc_Rows
  refine Con.of Tryz.func22 J Tryz.ntmps22 J (fun E => ?_)
  refine zy (M1 (Qq J J J J) J J (z1 J (zz (zy (z2 J J J (z4 J J J (z0 J ?_)))))));refine zx (Qj J J (hc_Level) J) J ?_;refine z1 J (zz (Qd (zy (z0 J (z9a J (by assumption) (zz (Ql J (Qh ?_))))))));refine Q0 (zy (z2 J J J (z3 J (z0 J ?_))));refine zx (Qj J J (hc_Rows) J) J ?_;refine z1 J (zz (Qd (zy (z0 J (z9a J (by assumption) (zz (Qm J (Qd ?_))))))));refine Qc (z1 J (zz (Xa (T_r (F_r ?_)))))
  exact Xp J J (X6 [] (by decide) J J (Xx (by rw [Kr (by omega)])))
 rw [Ks (by omega)] at hc_Rows
 have hb_Rows : decide (left - Enc.wt x.Level - Enc.wt x.Rows < 0) = false := decide_eq_false (by omega)
 have hc_Keys := sz_StringS x.Keys (left - Enc.wt x.Level - Enc.wt x.Rows) g_Keys (by omega) (by omega)
 by_cases n_Keys : left - Enc.wt x.Level - Enc.wt x.Rows < Enc.wt x.Keys
 ·rw [Kr n_Keys] at hc_Keys
  refine Con.of Tryz.func22 J Tryz.ntmps22 J (fun E => ?_)
  refine zy (M1 (Qq J J J J) J J (z1 J (zz (zy (z2 J J J (z4 J J J (z0 J ?_)))))));refine zx (Qj J J (hc_Level) J) J ?_;refine z1 J (zz (Qd (zy (z0 J (z9a J (by assumption) (zz (Ql J (Qh ?_))))))));refine Q0 (zy (z2 J J J (z3 J (z0 J ?_))));refine zx (Qj J J (hc_Rows) J) J ?_;refine z1 J (zz (Qd (zy (z0 J (z9a J (by assumption) (zz (Ql J (Qh ?_))))))));refine Q0 (zy (z2 J J J (z3 J (z0 J ?_))));refine zx (Qj J J (hc_Keys) J) J ?_;refine z1 J (zz (Qd (zy (z0 J (z9a J (by assumption) (zz (Qm J (Qd ?_))))))));refine Qc (z1 J (zz (Xa (T_r (F_r ?_)))))
  exact Xp J J (X6 [] (by decide) J J (Xx (by rw [Kr (by omega)])))
 rw [Ks (by omega)] at hc_Keys
 have hb_Keys : decide (left - Enc.wt x.Level - Enc.wt x.Rows - Enc.wt x.Keys < 0) = false := decide_eq_false (by omega)
 refine Con.of Tryz.func22 J Tryz.ntmps22 J (fun E => ?_)
 refine zy (M1 (Qq J J J J) J J (z1 J (zz (zy (z2 J J J (z4 J J J (z0 J ?_)))))));refine zx (Qj J J (hc_Level) J) J ?_;refine z1 J (zz (Qd (zy (z0 J (z9a J (by assumption) (zz (Ql J (Qh ?_))))))));refine Q0 (zy (z2 J J J (z3 J (z0 J ?_))));refine zx (Qj J J (hc_Rows) J) J ?_;refine z1 J (zz (Qd (zy (z0 J (z9a J (by assumption) (zz (Ql J (Qh ?_))))))));refine Q0 (zy (z2 J J J (z3 J (z0 J ?_))));refine zx (Qj J J (hc_Keys) J) J ?_;refine z1 J (zz (Qd (zy (z0 J (z9a J (by assumption) (zz (Ql J (Qh ?_))))))));refine Q0 (zy (z0 J (z1 J (zz (Xa (F_r ?_))))))
 exact Xp J J (X6 [] (by decide) J J (Xx (by rw [Ks (by omega)]; omega)))
theorem to_Replay (x : TReplay) (hg : Enc.wt x ≤ 1048576) : Con Tryz.prog 24 [] [ag x] (ownO (Enc.e x)) (.o (.ag (ownV 0 (Enc.e x)))) := by
 have hw : Enc.wt x = Enc.wt x.Level + Enc.wt x.Rows + Enc.wt x.Keys := rfl
 refine Con.of Tryz.func24 J Tryz.ntmps24 J (fun E => ?_)
 refine zy (M1 (Qq J J J J) J J (M1 (Qx J J J) J J (zz (zy (M1 (Qx J J J) J J (zz (Qd ?_)))))));refine Qc (z2 J J J (z4 J J J ?_));refine M1 (Zs J J (to_Level x.Level (by omega)) J J J) J J ?_;refine z2 J J J ?_;refine Qy J J J J J J J J J (zz (zy (z2 J J J (z3 J (z2 J J J ?_)))));refine Q5 J J J J J J J J (zz (zy (z2 J J J (z3 J (z2 J J J ?_)))));refine Q5 J J J J J J J J (zz (zy (z2 J J J (z3 J (z2 J J J ?_)))));refine Q5 J J J J J J J J (zz (zy (z2 J J J (z3 J ?_))));refine M1 (Zs J J (to_IntSS x.Rows (by omega)) J J J) J J ?_;refine z2 J J J ?_;refine Q5 J J J J J J J J (zz (zy (z2 J J J (z3 J ?_))));refine M1 (Zs J J (to_StringS x.Keys (by omega)) J J J) J J ?_;refine z2 J J J ?_;refine Q5 J J J J J J J J (zz (zy (z4 J J J ?_)));refine Qy J J J J J J J J J (zz (Xa (F_r ?_)))
 exact Xm J J J J (X6 [3,4,5] (by decide) J J J)
theorem eq_Replay (x y : TReplay) (hg : Enc.gd x) : Con Tryz.prog 27 [] [ag x,ag y] [] (B (decide (x = y))) := by
 obtain ⟨g_Level,g_Players,g_Seed,g_Every,g_Rows,g_Keys⟩ := hg
 by_cases e_Level : ¬ x.Level = y.Level
 ·have hc := eq_Level x.Level y.Level g_Level
  rw [decide_eq_false e_Level] at hc
  refine Con.of Tryz.func27 J Tryz.ntmps27 J (fun E => ?_)
  refine zy (M1 (Qq J J J J) J J (M1 (Qq J J J J) J J (z1 J (zz (Qd (zy (z2 J J J (z4 J J J ?_))))))));refine z2 J J J (z4 J J J ?_);refine zx (Qj J J (hc) J) J ?_;refine zn J (zz (Qm J (zy (z1 J (zz (Xa (T_r (F_r ?_))))))))
  exact Xp J J (X6 [] (by decide) J J (Xk (decide_eq_false fun e => e_Level (by rw [e])).symm))
 have e_Level := Classical.not_not.1 e_Level
 have hc_Level := eq_Level x.Level y.Level g_Level
 rw [decide_eq_true e_Level] at hc_Level
 by_cases e_Players : ¬ x.Players = y.Players
 ·have hk : decide (x.Players ≠ y.Players) = true := by simp [e_Players]
  refine Con.of Tryz.func27 J Tryz.ntmps27 J (fun E => ?_)
  refine zy (M1 (Qq J J J J) J J (M1 (Qq J J J J) J J (z1 J (zz (Qd (zy (z2 J J J (z4 J J J ?_))))))));refine z2 J J J (z4 J J J ?_);refine zx (Qj J J (hc_Level) J) J ?_;refine zn J (zz (Ql J (Qh (Q0 (Qd (zy (z2 J J J (z3 J (z2 J J J ?_)))))))));refine z3 J (z9f J (by assumption) (zz (Qm J (zy (z1 J (zz (Xa (T_r ?_))))))));refine F_r ?_
  exact Xp J J (X6 [] (by decide) J J (Xk (decide_eq_false fun e => e_Players (by rw [e])).symm))
 have e_Players := Classical.not_not.1 e_Players
 have k_Players : decide (x.Players ≠ y.Players) = false := by simp [e_Players]
 by_cases e_Seed : ¬ x.Seed = y.Seed
 ·have hk : decide (x.Seed ≠ y.Seed) = true := by simp [e_Seed]
  refine Con.of Tryz.func27 J Tryz.ntmps27 J (fun E => ?_)
  refine zy (M1 (Qq J J J J) J J (M1 (Qq J J J J) J J (z1 J (zz (Qd (zy (z2 J J J (z4 J J J ?_))))))));refine z2 J J J (z4 J J J ?_);refine zx (Qj J J (hc_Level) J) J ?_;refine zn J (zz (Ql J (Qh (Q0 (Qd (zy (z2 J J J (z3 J (z2 J J J ?_)))))))));refine z3 J (z9f J (by assumption) (zz (Ql J (Qh (Q0 (Qd (zy (z2 J J J (z3 J ?_)))))))));refine z2 J J J (z3 J (z9f J (by assumption) (zz (Qm J (zy (z1 J (zz (Xa ?_))))))));refine T_r (F_r ?_)
  exact Xp J J (X6 [] (by decide) J J (Xk (decide_eq_false fun e => e_Seed (by rw [e])).symm))
 have e_Seed := Classical.not_not.1 e_Seed
 have k_Seed : decide (x.Seed ≠ y.Seed) = false := by simp [e_Seed]
 by_cases e_Every : ¬ x.Every = y.Every
 ·have hk : decide (x.Every ≠ y.Every) = true := by simp [e_Every]
  refine Con.of Tryz.func27 J Tryz.ntmps27 J (fun E => ?_)
  refine zy (M1 (Qq J J J J) J J (M1 (Qq J J J J) J J (z1 J (zz (Qd (zy (z2 J J J (z4 J J J ?_))))))));refine z2 J J J (z4 J J J ?_);refine zx (Qj J J (hc_Level) J) J ?_;refine zn J (zz (Ql J (Qh (Q0 (Qd (zy (z2 J J J (z3 J (z2 J J J ?_)))))))));refine z3 J (z9f J (by assumption) (zz (Ql J (Qh (Q0 (Qd (zy (z2 J J J (z3 J ?_)))))))));refine z2 J J J (z3 J (z9f J (by assumption) (zz (Ql J (Qh (Q0 (Qd (zy (z2 J J J ?_)))))))));refine z3 J (z2 J J J (z3 J (z9f J (by assumption) (zz (Qm J (zy (z1 J (zz ?_))))))));refine Xa (T_r (F_r ?_))
  exact Xp J J (X6 [] (by decide) J J (Xk (decide_eq_false fun e => e_Every (by rw [e])).symm))
 have e_Every := Classical.not_not.1 e_Every
 have k_Every : decide (x.Every ≠ y.Every) = false := by simp [e_Every]
 by_cases e_Rows : ¬ x.Rows = y.Rows
 ·have hc := eq_IntSS x.Rows y.Rows g_Rows
  rw [decide_eq_false e_Rows] at hc
  refine Con.of Tryz.func27 J Tryz.ntmps27 J (fun E => ?_)
  refine zy (M1 (Qq J J J J) J J (M1 (Qq J J J J) J J (z1 J (zz (Qd (zy (z2 J J J (z4 J J J ?_))))))));refine z2 J J J (z4 J J J ?_);refine zx (Qj J J (hc_Level) J) J ?_;refine zn J (zz (Ql J (Qh (Q0 (Qd (zy (z2 J J J (z3 J (z2 J J J ?_)))))))));refine z3 J (z9f J (by assumption) (zz (Ql J (Qh (Q0 (Qd (zy (z2 J J J (z3 J ?_)))))))));refine z2 J J J (z3 J (z9f J (by assumption) (zz (Ql J (Qh (Q0 (Qd (zy (z2 J J J ?_)))))))));refine z3 J (z2 J J J (z3 J (z9f J (by assumption) (zz (Ql J (Qh (Q0 (Qd (zy ?_)))))))));refine z2 J J J (z3 J (z2 J J J (z3 J ?_)));refine zx (Qj J J (hc) J) J ?_;refine zn J (zz (Qm J (zy (z1 J (zz (Xa (T_r (F_r ?_))))))))
  exact Xp J J (X6 [] (by decide) J J (Xk (decide_eq_false fun e => e_Rows (by rw [e])).symm))
 have e_Rows := Classical.not_not.1 e_Rows
 have hc_Rows := eq_IntSS x.Rows y.Rows g_Rows
 rw [decide_eq_true e_Rows] at hc_Rows
 by_cases e_Keys : ¬ x.Keys = y.Keys
 ·have hc := eq_StringS x.Keys y.Keys g_Keys
  rw [decide_eq_false e_Keys] at hc
  refine Con.of Tryz.func27 J Tryz.ntmps27 J (fun E => ?_)
  refine zy (M1 (Qq J J J J) J J (M1 (Qq J J J J) J J (z1 J (zz (Qd (zy (z2 J J J (z4 J J J ?_))))))));refine z2 J J J (z4 J J J ?_);refine zx (Qj J J (hc_Level) J) J ?_;refine zn J (zz (Ql J (Qh (Q0 (Qd (zy (z2 J J J (z3 J (z2 J J J ?_)))))))));refine z3 J (z9f J (by assumption) (zz (Ql J (Qh (Q0 (Qd (zy (z2 J J J (z3 J ?_)))))))));refine z2 J J J (z3 J (z9f J (by assumption) (zz (Ql J (Qh (Q0 (Qd (zy (z2 J J J ?_)))))))));refine z3 J (z2 J J J (z3 J (z9f J (by assumption) (zz (Ql J (Qh (Q0 (Qd (zy ?_)))))))));refine z2 J J J (z3 J (z2 J J J (z3 J ?_)));refine zx (Qj J J (hc_Rows) J) J ?_;refine zn J (zz (Ql J (Qh (Q0 (Qd (zy (z2 J J J (z3 J (z2 J J J ?_)))))))));refine z3 J ?_;refine zx (Qj J J (hc) J) J ?_;refine zn J (zz (Qm J (zy (z1 J (zz (Xa (T_r (F_r ?_))))))))
  exact Xp J J (X6 [] (by decide) J J (Xk (decide_eq_false fun e => e_Keys (by rw [e])).symm))
 have e_Keys := Classical.not_not.1 e_Keys
 have hc_Keys := eq_StringS x.Keys y.Keys g_Keys
 rw [decide_eq_true e_Keys] at hc_Keys
 refine Con.of Tryz.func27 J Tryz.ntmps27 J (fun E => ?_)
 refine zy (M1 (Qq J J J J) J J (M1 (Qq J J J J) J J (z1 J (zz (Qd (zy (z2 J J J (z4 J J J ?_))))))));refine z2 J J J (z4 J J J ?_);refine zx (Qj J J (hc_Level) J) J ?_;refine zn J (zz (Ql J (Qh (Q0 (Qd (zy (z2 J J J (z3 J (z2 J J J ?_)))))))));refine z3 J (z9f J (by assumption) (zz (Ql J (Qh (Q0 (Qd (zy (z2 J J J (z3 J ?_)))))))));refine z2 J J J (z3 J (z9f J (by assumption) (zz (Ql J (Qh (Q0 (Qd (zy (z2 J J J ?_)))))))));refine z3 J (z2 J J J (z3 J (z9f J (by assumption) (zz (Ql J (Qh (Q0 (Qd (zy ?_)))))))));refine z2 J J J (z3 J (z2 J J J (z3 J ?_)));refine zx (Qj J J (hc_Rows) J) J ?_;refine zn J (zz (Ql J (Qh (Q0 (Qd (zy (z2 J J J (z3 J (z2 J J J ?_)))))))));refine z3 J ?_;refine zx (Qj J J (hc_Keys) J) J ?_;refine zn J (zz (Ql J (Qh (Q0 (zy (z1 J (zz (Xa ?_))))))));refine F_r ?_
 exact Xp J J (X6 [] (by decide) J J (Xk (decide_eq_true (TReplay.same e_Level e_Players e_Seed e_Every e_Rows e_Keys)).symm))
end
section
open Go.RowKit

def dig : Nat → Int → List UInt8 → List UInt8
 | 0,_,out => out
 | n + 1,k,out => if 0 < k then dig n (k / 10) ([UInt8.ofNat (48 + k % 10).toNat] ++ out) else out
def mtext (k : Int) : ByteArray := bs (if k ≤ 0 then [109,48] else 109 :: dig 19 k [])
theorem dig_end {n : Nat} {k : Int} {out : List UInt8} (h : ¬ 0 < k) : dig n k out = out := by
 cases n with
 | zero => rfl
 | succ n => rw [dig,if_neg h]
theorem L_markText (k : Int) (hk : k ≤ 1099511627776) : Con Tryz.prog 131 [] [ai k] [] (S (mtext k)) := by
 refine Con.of Tryz.func131 J Tryz.ntmps131 J (fun E => ?_)
 refine zy (z1 J (zz (Qd (zy (z0 J (zx (q_leq J J J J) J (zz ?_)))))))
 refine Xb J (fun h => ?_) (fun h => ?_)
 ·have h := of_decide_eq_true h
  refine zy (z1 J (zz (Xa (T_r (F_r ?_)))))
  exact Xp J J (X6 [] (by decide) J J (S_eq (by rw [mtext,if_pos h])))
 have h := of_decide_eq_false h
 rw [mtext,if_neg h]
 refine Qh (Q0 (zy (z1 J (zz (Qd (Qk ?_))))));refine A_lq (fun m__ st => ∃ (j : Int) (out : List UInt8),j.toNat = m__ ∧ (∃ n,0 ≤ j ∧ j ≤ 1099511627776 ∧ j < 10 ^ n ∧ out.length + n = 19 ∧ dig n j out = dig 19 k []) ∧ st = (⟨_,[(0,I j),(3,S (bs out))],[]⟩ : St)) _ ⟨_,⟨k,[],J,⟨19,by omega,hk,by omega,J,J⟩,J⟩,W_gj [] J⟩ ?_
 rintro m_A _ ⟨j,out,hk_A,hp_A,rfl⟩
 obtain ⟨n,a0,a1,a2,a3,a4⟩ := hp_A
 refine Qd (zy (z0 J (zx (Zy J J J J) J (zz ?_))))
 refine Xb J (fun h => ?_) (fun h => ?_)
 ·have h := of_decide_eq_true h
  have hl := Yi out
  refine Qh (Q0 (Qk (zy (z0 J (zx (Z9 J J J J (by omega)) J (z7 J (by omega) (zx (Zt J J J J (K0 (by omega))) J (M1 (Zm J J J J J J) J J (zx (q_bstrb J J J J J) J (z0 J ?_))))))))))
  refine M0 (q_cat J J J J (by simp only [Yi,cat_size,List.length_cons,List.length_nil,List.length_append]; omega)) J J ?_
  refine z1 J (zz (Qc (z0 J (zx (q_quo J J J J (by omega)) J (z1 J (Qe (Q1 (Q0 ?_))))))))
  obtain ⟨n,rfl⟩ : ∃ n',n = n' + 1 := ⟨n - 1,by have : n ≠ 0 := fun e => by { subst e; simp at a2; omega }; omega⟩
  rw [dig,if_pos h] at a4
  rw [Int.pow_succ] at a2
  refine ⟨_,(by omega),(fun (j : Int) (out : List UInt8) => (⟨_,[(0,I j),(3,S (bs out))],[]⟩ : St)) (j / 10) ([UInt8.ofNat (48 + j % 10).toNat] ++ out),⟨j / 10,[UInt8.ofNat (48 + j % 10).toNat] ++ out,J,⟨n,by omega,by omega,by omega,by simp only [List.length_append,List.length_cons,List.length_nil]; omega,a4⟩,J⟩,X8 [] (by decide) J (J) (.c J (.cons (S_eq (Yg [_] _)) (.nil)))⟩
 ·have h := of_decide_eq_false h
  have hl := Yi out
  rw [dig_end h] at a4
  refine Q9 (T_x (T_x (Xl (Q0 (zy (z0 J ?_))))))
  refine M0 (q_cat J J J J (by simp only [Yi,cat_size,List.length_cons,List.length_nil,List.length_append]; omega)) J J ?_
  refine z1 J (zz (Xa (F_r ?_)))
  exact Xp J J (X6 [] (by decide) J J (S_eq (by rw [← a4]; exact Yg [_] _)))

def markS (xs : List ByteArray) (k : Int) : List ByteArray := (List.range xs.length).map fun (i : Nat) => mtext (k + i)
theorem Za (xs : List ByteArray) (k : Int) : (markS xs k).length = xs.length := by simp [markS]
theorem row2 {k : Nat} {a b : List (List T)} {g : Ob} (h : a = b) : [Ob.row k a,g] = [Ob.row k b,g] := by rw [h]
theorem els_set {α : Type} [Enc α] (xs : List α) (i : Nat) (x : α) : els (xs.set i x) = (els xs).set i (Enc.e x) := by simp [els,List.map_set]
theorem mark_next {xs : List ByteArray} {k : Int} {i : Nat} {e : List T} (h : i < xs.length) (he : e.length = 1 := by rfl) : els ((markS xs k).take (i + 1) ++ xs.drop (i + 1)) = (els ((markS xs k).take i ++ xs.drop i)).set i (splice e 0 [.v (.string (mtext (k + i)))]) := by
 have h1 : splice e 0 [T.v (.string (mtext (k + i)))] = Enc.e (mtext (k + i)) := by
  match e,he with
  | [t],_ => rfl
 have h2 : i < (markS xs k).length := by rw [Za]; exact h
 have h3 : (markS xs k)[i] = mtext (k + i) := by simp [markS]
 rw [h1,← els_set]
 congr 1
 rw [List.take_succ_eq_append_getElem h2,h3,List.set_append_right _ _ (by simp [Za]; omega)]
 have : i - ((markS xs k).take i).length = 0 := by simp [Za]; omega
 rw [this,List.drop_eq_getElem_cons h,List.set_cons_zero,List.append_assoc]
 rfl
theorem L_markStringS (xs : List ByteArray) (k : Int) (hL : xs.length ≤ 1048576) (h0 : 0 < k) (hk : k ≤ 4294967296) : Con Tryz.prog 80 [.row 1 (els xs),.gh 0 (.c (.ref 0))] [.c (.ref 0),ai k] [.row 1 (els (markS xs k)),.gh 0 (.c (.ref 0))] (I (k + xs.length)) := by
 have hlx := Yq xs
 refine Con.of Tryz.func80 J Tryz.ntmps80 J (fun E => ?_)
 refine zy (z1 J (zz (Qd (zy (z1 J (zz (Qk ?_)))))));refine A_lq (fun m st => ∃ i : Nat,i + m = xs.length ∧ (True) ∧ st = (⟨_,[(0,.o (.c (.ref 0))),(1,I (k + i)),(5,I i)],[.row 1 (els ((markS xs k).take i ++ xs.drop i)),.gh 0 (.c (.ref 0))]⟩ : St)) (xs.length) ⟨(fun i : Nat => (⟨_,[(0,.o (.c (.ref 0))),(1,I (k + i)),(5,I i)],[.row 1 (els ((markS xs k).take i ++ xs.drop i)),.gh 0 (.c (.ref 0))]⟩ : St)) 0,⟨0,by omega,trivial,J⟩,X8 [0,1] (by decide) J (J) (.c J (.cons (Xx (by omega)) (.c J (.nil))))⟩ ?_
 rintro m_A _ ⟨i,hk_A,hp_A,rfl⟩
 have hl2 : (els ((markS xs k).take i ++ xs.drop i)).length = xs.length := by rw [Yq]; simp [Za]; omega
 refine Qd (zy (z0 J (z0 J (zx (Z1 J J J J) J (zx (Z5 J J J J) J (zz ?_))))))
 refine Xb J (fun h => ?_) (fun h => ?_)
 ·have h3 : i < xs.length := by have := of_decide_eq_true h; omega
  have hi : i < ((markS xs k).take i ++ xs.drop i).length := by simp [Za]; omega
  have hat := Yo hi
  refine Qh (Q0 (Qd (Qk (zy (z0 J (z0 J (z0 J ?_)))))));refine zx (Qj J J (L_markText (k + i) (by omega)) J) J ?_;refine zx (Q3 J J J J J (by omega) (by omega)) J ?_;refine Xh J J J J J J J J J (by assumption) J J (zz (Qc (z0 J (z7 J (by omega) (z1 J (Qe (Q1 (Q0 (Qc (z0 J ?_))))))))));refine z7 J (by omega) (z1 J (zz ?_))
  exact ⟨xs.length - (i + 1),by omega,(fun i : Nat => (⟨_,[(0,.o (.c (.ref 0))),(1,I (k + i)),(5,I i)],[.row 1 (els ((markS xs k).take i ++ xs.drop i)),.gh 0 (.c (.ref 0))]⟩ : St)) (i + 1),⟨i + 1,by omega,trivial,J⟩,X8 [0,1] (by decide) J (row2 (mark_next h3)) (.c J (.cons (Xx (by omega)) (.c J (.nil))))⟩
 ·have h3 : ¬ ((i : Int) < (els ((markS xs k).take i ++ xs.drop i)).length) := of_decide_eq_false h
  have hi : i = xs.length := by omega
  have hm : (markS xs k).take i ++ xs.drop i = markS xs k := by rw [List.take_of_length_le (by rw [Za]; omega),List.drop_of_length_le (by omega),List.append_nil]
  refine Q9 (T_x (T_x (Xl (Q0 (zy (z0 J (z1 J (zz (Xa ?_)))))))));refine F_r ?_
  exact Xp J J (X6 [0,1] (by decide) J (row2 (by rw [hm])) (Xx (by omega)))
theorem L_heldStringS (xs : List ByteArray) (k : Int) (hL : xs.length ≤ 1048576) (h0 : 0 < k) (hk : k ≤ 4294967296) : Con Tryz.prog 83 [] [al (markS xs k),ai k] [] (I (k + xs.length)) := by
 have hlx := Yq (markS xs k)
 rw [Za] at hlx
 refine Con.of Tryz.func83 J Tryz.ntmps83 J (fun E => ?_)
 refine zy (z1 J (zz (Qd (zy (z1 J (zz (Qk ?_)))))));refine A_lq (fun m st => ∃ i : Nat,i + m = xs.length ∧ (True) ∧ st = (⟨_,[(0,L (markS xs k)),(1,I (k + i)),(5,I i)],[]⟩ : St)) (xs.length) ⟨(fun i : Nat => (⟨_,[(0,L (markS xs k)),(1,I (k + i)),(5,I i)],[]⟩ : St)) 0,⟨0,by omega,trivial,J⟩,X8 [] (by decide) J (J) (.c J (.cons (Xx (by omega)) (.c J (.nil))))⟩ ?_
 rintro m_A _ ⟨i,hk_A,hp_A,rfl⟩
 refine Qd (zy (z0 J (z0 J (zx (Z0 J J J) J (zx (Z5 J J J J) J (zz ?_))))))
 refine Xb J (fun h => ?_) (fun h => ?_)
 ·have h3 : i < xs.length := by have := of_decide_eq_true h; omega
  have hi : i < (markS xs k).length := by rw [Za]; exact h3
  have hat := Yo hi
  have hx : (markS xs k)[i] = mtext (k + i) := by simp [markS]
  rw [hx] at hat
  have hne : decide (mtext (k + i) ≠ mtext (k + i)) = false := by simp
  refine Qh (Q0 (Qd (Qk (Qd (Qd (Xi [[],[],[0,1],[0,1,2],[],[4],(u9 6)] [[],[],[12,13],[12,13,14],[],[16],[12,13,14,15,16,17]] [[13,16,17],[12,16,17],[16,17],[16,17],[12,13,14,15],[12,13,14,15],[]] J (DR.s (Qa J J J) J J (DR.s (Qa J J J) J J (DR.s (Q2 J J J J (by omega) (by assumption) J) J J (DR.s (Z4 J J J J) J J (DR.s (Qa J J J) J J ?_)))))))))));refine DR.s (Qj J J (L_markText (k + i) (by omega)) J) J J ?_;refine DR.s (Ka J J J J (by assumption)) J J (DR.stop (by kernel_rfl) (by kernel_rfl) (zz (Ql J (Qh (Q0 (Qc (z0 J (z7 J (by omega) (z1 J (Qe ?_))))))))));refine Q1 (Q0 (Qc (z0 J (z7 J (by omega) (z1 J (zz ?_))))))
  exact ⟨xs.length - (i + 1),by omega,(fun i : Nat => (⟨_,[(0,L (markS xs k)),(1,I (k + i)),(5,I i)],[]⟩ : St)) (i + 1),⟨i + 1,by omega,trivial,J⟩,X8 [] (by decide) J (J) (.c J (.cons (Xx (by omega)) (.c J (.nil))))⟩
 ·have h3 : ¬ ((i : Int) < (els (markS xs k)).length) := of_decide_eq_false h
  refine Q9 (T_x (T_x (Xl (Q0 (zy (z0 J (z1 J (zz (Xa ?_)))))))));refine F_r ?_
  exact Xp J J (X6 [] (by decide) J J (Xx (by omega)))
theorem L_markLevel (xs : List ByteArray) (k : Int) (hL : xs.length ≤ 1048576) (h0 : 0 < k) (hk : k ≤ 4294967296) : Con Tryz.prog 79 [.row 1 (els xs),.gh 0 (.ag [.ref 0])] [.ag [.ref 0],ai k] [.row 1 (els (markS xs k)),.gh 0 (.ag [.ref 0])] (I (k + xs.length)) := by
 refine Con.of Tryz.func79 J Tryz.ntmps79 J (fun E => ?_)
 refine zy (M1 (Qq J J J J) J J (z1 J (zz (zy (z2 J J J (z3 J (z0 J ?_)))))));refine Xd (lo := [_]) (gs := [(0,.c (.ref 0))]) (lo' := [_]) (new := []) [0] [(0,0,.ref 0)] (L_markStringS xs k hL h0 hk) J J J J J J J J J J J J J J J J J ?_;refine z1 J (zz (zy (z0 J (z1 J (zz (Xa (F_r ?_)))))))
 exact Xp J J (X6 [0,1] (by decide) J J J)
theorem L_heldLevel (xs : List ByteArray) (k : Int) (hL : xs.length ≤ 1048576) (h0 : 0 < k) (hk : k ≤ 4294967296) : Con Tryz.prog 81 [] [ag (⟨markS xs k⟩ : TLevel),ai k] [] (I (k + xs.length)) := by
 have hn : decide (k + (xs.length : Int) < 0) = false := decide_eq_false (by omega)
 refine Con.of Tryz.func81 J Tryz.ntmps81 J (fun E => ?_)
 refine zy (M1 (Qq J J J J) J J (z1 J (zz (zy (z2 J J J (z3 J (z0 J ?_)))))));refine zx (Qj J J (L_heldStringS xs k hL h0 hk) J) J ?_;refine z1 J (zz (Qd (zy (z0 J (z9a J (by assumption) (zz (Ql J (Qh ?_))))))));refine Q0 (zy (z0 J (z1 J (zz (Xa (F_r ?_))))))
 exact Xp J J (X6 [] (by decide) J J J)
end
section
open Go.RowKit

theorem flat_one {fps : List (List (List Nat))} {i j : Nat} {G : List (List Nat)} {f : List Nat} (hi : fps[i]? = some G) (hj : G[j]? = some f) : ∃ X Z : List Nat,fps.flatten.flatten = X ++ f ++ Z ∧ ∀ f' : List Nat,(fps.set i (splice G j [f'])).flatten.flatten = X ++ f' ++ Z := by
 obtain ⟨hlt,he⟩ := List.getElem?_eq_some_iff.1 hi
 obtain ⟨hlj,hf⟩ := List.getElem?_eq_some_iff.1 hj
 refine ⟨(fps.take i).flatten.flatten ++ (G.take j).flatten,(G.drop (j + 1)).flatten ++ (fps.drop (i + 1)).flatten.flatten,?_,fun f' => ?_⟩
 ·conv => lhs; rw [← List.take_append_drop i fps,List.drop_eq_getElem_cons hlt,he]
  have hG : G.flatten = (G.take j).flatten ++ f ++ (G.drop (j + 1)).flatten := by
   conv => lhs; rw [← List.take_append_drop j G,List.drop_eq_getElem_cons hlj,hf]
   simp [List.append_assoc]
  rw [List.flatten_append,List.flatten_cons,List.flatten_append,List.flatten_append,hG]
  simp [List.append_assoc]
 ·rw [List.set_eq_take_append_cons_drop,if_pos hlt]
  rw [List.flatten_append,List.flatten_cons,List.flatten_append,List.flatten_append,splice,List.flatten_append,List.flatten_append]
  simp [List.append_assoc]

theorem sep_list {l : List (List Nat)} (hn : l.flatten.Nodup) {i j : Nat} {f g : List Nat} (hi : l[i]? = some f) (hj : l[j]? = some g) (hij : i ≠ j) {x : Nat} (hx : x ∈ f) (hy : x ∈ g) : False := by
 obtain ⟨hp,hq⟩ := List.pairwise_flatten.1 hn
 obtain ⟨h1,rfl⟩ := List.getElem?_eq_some_iff.1 hi
 obtain ⟨h2,rfl⟩ := List.getElem?_eq_some_iff.1 hj
 rcases Nat.lt_or_gt_of_ne hij with h | h
 ·exact (List.pairwise_iff_getElem.1 hq i j h1 h2 h) x hx x hy rfl
 ·exact (List.pairwise_iff_getElem.1 hq j i h2 h1 h) x hy x hx rfl
theorem sep_elems {fps : List (List (List Nat))} (hn : fps.flatten.flatten.Nodup) {i i' j j' : Nat} {G G' : List (List Nat)} {f g : List Nat} (hi : fps[i]? = some G) (hi' : fps[i']? = some G') (hii : i ≠ i') (hf : G[j]? = some f) (hg : G'[j']? = some g) {x : Nat} (hx : x ∈ f) (hy : x ∈ g) : False := by
 have h1 : (fps.map List.flatten).flatten = fps.flatten.flatten := by simp [List.flatten_flatten]
 rw [← h1] at hn
 exact sep_list hn (i := i) (j := i') (f := G.flatten) (g := G'.flatten) (by simp [hi]) (by simp [hi']) hii (List.mem_flatten.2 ⟨f,Y0 hf,hx⟩) (List.mem_flatten.2 ⟨g,Y0 hg,hy⟩)
theorem sep_cells {fps : List (List (List Nat))} (hn : fps.flatten.flatten.Nodup) {i j j' : Nat} {G : List (List Nat)} {f g : List Nat} (hi : fps[i]? = some G) (hf : G[j]? = some f) (hg : G[j']? = some g) (hjj : j ≠ j') {x : Nat} (hx : x ∈ f) (hy : x ∈ g) : False := by
 have h1 : (fps.map List.flatten).flatten = fps.flatten.flatten := by simp [List.flatten_flatten]
 rw [← h1] at hn
 obtain ⟨hp,_⟩ := List.pairwise_flatten.1 hn
 exact sep_list (hp G.flatten (List.mem_map.2 ⟨G,Y0 hi,J⟩)) hf hg hjj hx hy

theorem OW.inner {w : World} {k : Nat} {es : List (List T)} {v : Value} {fp : List Nat} (h : OW w (.sl k es) v fp) (hnd : fp.Nodup) {i j k' : Nat} {e : List T} {es0 : List (List T)} (hi : es[i]? = some e) (hj : e[j]? = some (.sl k' es0)) :
  ∃ b o c u f,v = .slice (some ⟨b,o,none⟩) es.length c ∧ b ∈ fp ∧ w.cell? ⟨b,o + i * k + j,none⟩ = some u ∧ OW w (.sl k' es0) u f ∧ f.Nodup ∧ (∀ x ∈ f,x ∈ fp) ∧
   ∀ (w' : World) (t1 : T) (f' : List Nat),(∀ x ∈ fp,x ∉ f → w'.heap[x]? = w.heap[x]?) → OW w' t1 u f' → f'.Nodup → (∀ x ∈ f',x ∈ f ∨ w.heap.size ≤ x) → (∀ x ∈ fp,x < w.heap.size) →
    ∃ fp',OW w' (.sl k (es.set i (splice e j [t1]))) v fp' ∧ fp'.Nodup ∧ ∀ x ∈ fp',(x ∈ fp ∧ x ∉ f) ∨ x ∈ f' := by
 rcases h.open_ with ⟨rfl,rfl,rfl⟩ | ⟨b,o,c,tid,cur,fz,val,fps,rfl,rfl,hg,hz,hc,hcm,hcs,hp,hk,hff,hfk,hv,ht⟩
 ·simp at hi
 have hil := Yz hi
 have hek : e.length = k := hk e (Y0 hi)
 have hjl := Yz hj
 rw [hek] at hjl
 have hfi : fps[i]? = some fps[i] := List.getElem?_eq_getElem (by omega)
 have hfik : (fps[i]'(by omega)).length = k := hfk _ (List.getElem_mem _)
 obtain ⟨G,hG⟩ : ∃ G,G = fps[i]'(by omega) := ⟨_,rfl⟩
 rw [← hG] at hfi hfik
 obtain ⟨f,hf⟩ : ∃ f,G[j]? = some f := ⟨_,List.getElem?_eq_getElem (by omega)⟩
 obtain ⟨X,Z,e1,e2⟩ := flat_one hfi hf
 have hndc := List.nodup_cons.1 hnd
 have hndf := hndc.2
 rw [e1] at hndf
 obtain ⟨n1,n2,n3⟩ := List.nodup_append.1 hndf
 obtain ⟨n4,n5,n6⟩ := List.nodup_append.1 n1
 have hbf : b ∉ f := fun hb => hndc.1 (mem_ff hfi hf hb)
 refine ⟨b,o,c,val i j,f,J,by simp,?_,ht i j e _ G f hi hj hfi hf,n5,fun x hx => List.mem_cons_of_mem _ (mem_ff hfi hf hx),fun w' t1 f' hw hO hn' hf' hlt => ?_⟩
 ·rw [cell_of_row w b _ cur tid fz hg]
  exact hv i j hil hjl
 have hset : (es.set i (splice e j [t1])).length = es.length := by simp
 have hfr : ∀ (i' j' : Nat) (e' : List T) (t : T) (fs : List (List Nat)) (g : List Nat),es[i']? = some e' → e'[j']? = some t → fps[i']? = some fs → fs[j']? = some g → (∀ x ∈ g,x ∉ f) → OW w' t (val i' j') g := fun i' j' e' t fs g g1 g2 g3 g4 hd =>
  (ht i' j' e' t fs g g1 g2 g3 g4).frame fun x hx => hw x (List.mem_cons_of_mem _ (mem_ff g3 g4 hx)) (hd x hx)
 have hold : ∀ x ∈ X ++ f ++ Z,x < w.heap.size := fun x hx => hlt x (List.mem_cons_of_mem _ (by rw [e1]; exact hx))
 have hdX : ∀ x ∈ X,x ∉ f' := fun x hx hx' => by
  rcases hf' x hx' with h1 | h1
  ·exact n6 x hx x h1 rfl
  ·have := hold x (by simp [hx]); omega
 have hdZ : ∀ x ∈ Z,x ∉ f' := fun x hx hx' => by
  rcases hf' x hx' with h1 | h1
  ·exact n3 x (by simp [h1]) x hx rfl
  ·have := hold x (by simp [hx]); omega
 refine ⟨b :: (fps.set i (splice G j [f'])).flatten.flatten,?_,?_,?_⟩
 ·rw [← hset]
  refine .sl _ b o k c tid cur fz val _ (by rw [hw b (by simp) hbf]; exact hg) hz (by rw [hset]; exact hc) hcm hcs hp ?_ (by simp [hff]) ?_ (fun i' j' hi' hj' => hv i' j' (by rw [← hset]; exact hi') hj') fun i' j' e' t' fs' g' g1 g2 g3 g4 => ?_
  ·intro e' he'
   rcases List.mem_or_eq_of_mem_set he' with he' | rfl
   ·exact hk e' he'
   ·rw [splice_len (by simp; omega),hek]
  ·intro g hg'
   rcases List.mem_or_eq_of_mem_set hg' with hg' | rfl
   ·exact hfk g hg'
   ·rw [splice_len (by simp; omega),hfik]
  ·rw [List.getElem?_set] at g1 g3
   by_cases hii : i = i'
   ·subst hii
    simp only [hil,if_true,Option.some.injEq] at g1
    rw [if_pos rfl,if_pos (by omega)] at g3
    simp only [Option.some.injEq] at g3
    subst g1 g3
    rw [splice_at (by simp; omega)] at g2 g4
    by_cases hcond : j ≤ j' ∧ j' < j + 1
    ·have hjj : j' = j := by omega
     subst hjj
     rw [if_pos (by simp)] at g2 g4
     simp at g2 g4
     subst g2 g4
     exact hO
    ·rw [if_neg (by simpa using hcond)] at g2 g4
     refine hfr i j' e t' G g' hi g2 hfi g4 fun x hx hxf => ?_
     -- two cells of one element own different blocks
     obtain ⟨X2,Z2,e3,e4⟩ := flat_one hfi g4
     exact sep_cells hndc.2 hfi hf g4 (fun e => hcond ⟨by omega,by omega⟩) hxf hx
   ·rw [if_neg hii] at g1 g3
    refine hfr i' j' e' t' fs' g' g1 g2 g3 g4 fun x hx hxf => ?_
    exact sep_elems hndc.2 hfi g3 hii hf g4 hxf hx
 ·rw [e2]
  refine List.nodup_cons.2 ⟨fun hb => ?_,List.nodup_append.2 ⟨List.nodup_append.2 ⟨n4,hn',fun x hx y hy e => hdX x hx (e ▸ hy)⟩,n2,fun x hx y hy e => ?_⟩⟩
  ·rcases List.mem_append.1 hb with hb | hb
   ·rcases List.mem_append.1 hb with hb | hb
    ·exact hndc.1 (by rw [e1]; simp [hb])
    ·rcases hf' b hb with h1 | h1
     ·exact hbf h1
     ·have := hlt b (by simp); omega
   ·exact hndc.1 (by rw [e1]; simp [hb])
  ·rcases List.mem_append.1 hx with hx | hx
   ·exact n3 x (by simp [hx]) y hy e
   ·exact hdZ y hy (e ▸ hx)
 ·rw [e2,e1]
  intro x hx
  rcases List.mem_cons.1 hx with rfl | hx
  ·exact .inl ⟨by simp,hbf⟩
  ·rcases List.mem_append.1 hx with hx | hx
   ·rcases List.mem_append.1 hx with hx | hx
    ·exact .inl ⟨by simp [hx],fun h => n6 x hx x h rfl⟩
    ·exact .inr hx
   ·exact .inl ⟨by simp [hx],fun h => n3 x (by simp [h]) x hx rfl⟩

def lendx1 (objs : List Ob) (p : Nat) (x : V1) : V1 := match lendw1 objs [p] x with
 | .rd [] y => .rd [] y
 | _ => .un
def lendx (objs : List Ob) (p : Nat) : V → V2
 | .o (.c x) => .c (lendx1 objs p x)
 | .o (.ag xs) => .ag (xs.map (lendx1 objs p))
 | _ => .c .un
section
variable {P : Program} {E : Env} {ops : Array Oper} {o : Oper} {st : St} {rest : List Oper} {QQ : Exit → St → Prop} {w : World} {H : Hs} {F : Nat → Prop} {a : Act} {t : TypeId} {y : Operand} {n : Nat}
theorem lendx1_ok {p : Nat} {H1 : Hs} {F1 : Nat → Prop} (h : R0 w H F st a) (hF : ∀ b,b < w.heap.size → b ∉ (H p).fp → F1 b) {x : V1} {v : Value} (hx : R1 w H F x v) : R1 w H1 F1 (lendx1 st.objs p x) v := by
 have h1 := lendw1_ok (ρ := [p]) (H1 := fun q => if q = 0 then H p else .nil) (F1 := F1) h (fun q r hq => by
  cases q with
  | zero => simp at hq; subst hq; rfl
  | succ q => simp at hq) (fun b h1 h2 => hF b h1 (h2 p (by simp))) hx
 unfold lendx1
 split
 ·rename_i y hy
  rw [hy] at h1
  exact RO.weak h1 fun b hb _ => .inl (by
   rcases hb with hb | ⟨q,hq,_⟩
   ·exact hb
   ·simp at hq)
 ·trivial
theorem q_lee {p kk i j : Nat} {es : List (List T)} {e : List T} {x : T} [TyOne P t] (ho : o.op = .load t y) (hg : o.guard = none) (hy : st.ev y = .o (.c (.el p kk i j))) (hp : st.objs[p]? = some (.row kk es)) (he : es[i]? = some e) (hx : e[j]? = some x) : Qt P ops o st (.o (.c (.le p kk i j))) [] n :=
 .pure hg fun a w H F hr => by
  obtain ⟨b,o',e1,hc⟩ := el_cells hr hy hp he
  obtain ⟨u,h1,h2⟩ := hc 0 x (by simpa using hx)
  refine ⟨u,Yw ho e1 (Kk t b o' u h1),?_⟩
  obtain ⟨b2,o2,n2,c2,x2,fp2,k1,k2⟩ := hr.v1 hy
  obtain ⟨v,fp,k3,k4⟩ := hr.ow hp
  rw [k1] at k3
  simp only [Pc.ow.injEq] at k3
  obtain ⟨_,rfl,rfl⟩ := k3
  rw [e1] at k2
  simp only [Value.pointer.injEq,Option.some.injEq,Addr.mk.injEq] at k2
  obtain ⟨rfl,rfl,_⟩ := k2
  refine ⟨b,o2,n2,c2,x2,fp2,k1,?_,RO.one h2,by simpa using h1⟩
  rcases k4.open_ with ⟨k5,_⟩ | ⟨b',o',c',tid,cur,fz,val,fps,k5,k6,_⟩
  ·cases k5
  ·simp only [Value.slice.injEq,Option.some.injEq,Addr.mk.injEq] at k5
   rw [k6,k5.1.1]; simp

theorem L_inner {f : FuncId} [hf : FunOk P f] {ass : Array Operand} {tys : Array TypeId} {y0 : Operand} {ys : List Operand} {args' : List V2} {p kk k' i j : Nat} {es es0 es1 : List (List T)} {e : List T} {wv : Value} {ps : List Nat}
  (hc : Con P f [.row k' es0,.gh 0 (.c (.ref 0))] (.c (.ref 0) :: args') [.row k' es1,.gh 0 (.c (.ref 0))] (.o (.c (.rd ps (.v wv))))) (ho : o.op = .call { callee := .value (.func f),args := ass,argTypes := tys }) (hg : o.guard = none) (has : ass.toList = y0 :: ys)
  (hy : st.ev y0 = .o (.c (.le p kk i j))) (hp : st.objs[p]? = some (.row kk es)) (he : es[i]? = some e) (hx : e[j]? = some (.sl k' es0)) (ha : ys.map (fun y => lendx st.objs p (st.ev y)) = args') (hd : dstOk st.n o.dst = true)
  (h : AL P E ops QQ rest ⟨st.n,setT (st.tmps.map fun e => (e.1,e.2.mapk (V1.killw [p] [p]))) o.dst (.o (.c (.rd [] (.v wv)))),(st.objs.map (Ob.mapk (V1.killw [p] [p]))).set p (.row kk (es.set i (splice e j [.sl k' es1])))⟩) : AL P E ops QQ (o :: rest) st := by
 refine ⟨fun a w ⟨H,F,hr,hsince⟩ => ?_⟩
 have hrun : (execOp a.eval o).run P w = .ok (.enter f (ass.toList.map a.eval).toArray) w := by
  unfold execOp
  simp only [ho,resolve,Act.eval,Deferred.ofValue,Sem.run_bind,Sem.run_pure,Result.andThen_ok,invoke]
  rw [show (#[] ++ ass.map a.eval ++ #[]) = (ass.toList.map a.eval).toArray by
   apply Array.ext'
   simp]
  exact run_callFunc _
 refine wpList_step fun K hK => ?_
 rw [if_pos (by unfold Region.wanted; rw [hg])]
 unfold Oper.wp
 rw [hrun]
 obtain ⟨v,fp,e1,e2⟩ := hr.ow hp
 have hnd := hr.ok.nodup p
 rw [e1] at hnd
 obtain ⟨b,o',c,u,f0,hv,hbfp,hcell,hOW0,hn0,hsub,hback⟩ := e2.inner hnd he hx
 obtain ⟨b',o'',n',c',x',fp',e3,_,_,hcell'⟩ := hr.v1 hy
 have hu : a.eval y0 = u := by
  rw [e1] at e3
  simp only [Pc.ow.injEq] at e3
  have h3 := e3.2.1
  rw [hv] at h3
  simp only [Value.slice.injEq,Option.some.injEq,Addr.mk.injEq] at h3
  rw [← h3.1.1,← h3.1.2.1,hcell] at hcell'
  exact (Option.some.inj hcell').symm
 obtain ⟨vs,hvs⟩ : ∃ vs,vs = ass.toList.map a.eval := ⟨_,rfl⟩
 have hvs2 : vs = u :: ys.map a.eval := by rw [hvs,has,List.map_cons,hu]
 obtain ⟨H1,hH0,hH1,hH2⟩ : ∃ H1 : Hs,H1 0 = .ow (.sl k' es0) u f0 ∧ H1 1 = .gh 0 u ∧ ∀ q,2 ≤ q → H1 q = .nil := ⟨fun q => match q with | 0 => .ow (.sl k' es0) u f0 | 1 => .gh 0 u | _ => .nil,rfl,rfl,fun q hq => by
  match q,hq with
  | q + 2,_ => rfl⟩
 obtain ⟨F1,hF1⟩ : ∃ F1 : Nat → Prop,F1 = fun b => b < w.heap.size ∧ b ∉ fp := ⟨_,rfl⟩
 have hfp : (H p).fp = fp := by rw [e1]; rfl
 have a3 : ∀ q x,x ∈ (H1 q).fp → q = 0 ∧ x ∈ f0 := fun q x hq => by
  match q with
  | 0 => rw [hH0] at hq; exact ⟨rfl,hq⟩
  | 1 => rw [hH1] at hq; simp [Pc.fp] at hq
  | q + 2 => rw [hH2 (q + 2) (by omega)] at hq; simp [Pc.fp] at hq
 have hok1 : Ok w H1 F1 := by
  refine ⟨fun q => ?_,fun q => ?_,fun q r x h1 h2 => ?_,fun q x h1 h2 => ?_,fun x hb => by rw [hF1] at hb; exact hb.1⟩
  ·match q with
   | 0 => rw [hH0]; exact hOW0
   | 1 => rw [hH1]; trivial
   | q + 2 => rw [hH2 (q + 2) (by omega)]; trivial
  ·match q with
   | 0 => rw [hH0]; exact hn0
   | 1 => rw [hH1]; simp [Pc.fp]
   | q + 2 => rw [hH2 (q + 2) (by omega)]; simp [Pc.fp]
  ·rw [(a3 q x h1).1,(a3 r x h2).1]
  ·rw [hF1] at h2; exact h2.2 (hsub x (a3 q x h1).2)
 have hobs1 : ∀ q,RB w H1 F1 q ([Ob.row k' es0,.gh 0 (.c (.ref 0))].getD q .gone) := fun q => by
  match q with
  | 0 => exact ⟨u,f0,hH0⟩
  | 1 => exact ⟨u,hH1,_,_,hH0⟩
  | q + 2 => exact hH2 (q + 2) (by omega)
 have hargs1 : ∀ (i : Nat) (x : V2) (v : Value),(V2.c (.ref 0) :: args')[i]? = some x → vs[i]? = some v → R2 w H1 F1 x v := by
  intro i x v hi hv
  rw [hvs2] at hv
  cases i with
  | zero => simp at hi hv; subst hi hv; exact ⟨_,_,hH0⟩
  | succ i =>
   rw [List.getElem?_cons_succ] at hi hv
   rw [← ha,List.getElem?_map] at hi
   obtain ⟨y,h1,rfl⟩ := Option.map_eq_some_iff.1 hi
   rw [List.getElem?_map,h1] at hv
   simp only [Option.map_some,Option.some.injEq] at hv
   subst hv
   have h2 := hr.ev y
   have hl1 : ∀ {x : V1} {v : Value},R1 w H F x v → R1 w H1 F1 (lendx1 st.objs p x) v := fun hx => lendx1_ok hr (fun b h1 h2 => by rw [hF1]; exact ⟨h1,by rw [← hfp]; exact h2⟩) hx
   cases he : st.ev y with
   | o x =>
    rw [he] at h2
    cases x with
    | c x => exact hl1 h2
    | ag xs =>
     obtain ⟨us,e,hl,hcs⟩ := h2
     refine ⟨us,e,by simpa using hl,fun i x u hi hu => ?_⟩
     rw [List.getElem?_map] at hi
     obtain ⟨c,h3,rfl⟩ := Option.map_eq_some_iff.1 hi
     exact hl1 (hcs i c u h3 hu)
   | tu xs => trivial
   | iff cs x => trivial
 rw [← hvs]
 refine (hc w H1 F1 vs hok1 hobs1 (by rw [hvs2,← ha]; simp) hargs1).mono ?_
 rintro ex w' ⟨H2,F2,rv,rfl,hsi,hok2,hobs2,hres⟩
 obtain ⟨v2,f2,e5⟩ : ∃ v2 f2,H2 0 = .ow (.sl k' es1) v2 f2 := hobs2 0
 obtain ⟨v3,e6,x3,f3,e7⟩ : ∃ v3,H2 1 = .gh 0 v3 ∧ ∃ x3 f3,H2 0 = .ow x3 v3 f3 := hobs2 1
 have e8 : v3 = u := by
  obtain ⟨q,hq⟩ : ∃ q,H1 q = .gh 0 v3 := hsi.gh 1 0 v3 e6
  match q with
  | 0 => rw [hH0] at hq; cases hq
  | 1 => rw [hH1] at hq; simp only [Pc.gh.injEq] at hq; exact hq.2.symm
  | q + 2 => rw [hH2 (q + 2) (by omega)] at hq; cases hq
 have e9 : v2 = u := by
  rw [e5] at e7
  simp only [Pc.ow.injEq] at e7
  rw [e7.2.1,e8]
 subst e9
 have hO := hok2.says 0
 rw [e5] at hO
 have hn2 := hok2.nodup 0
 rw [e5] at hn2
 have hkeepb : ∀ x,x < w.heap.size → x ∉ f0 → w'.heap[x]? = w.heap[x]? := fun x h1 h2 => hsi.keep x h1 fun q hq => h2 (a3 q x hq).2
 have hlt : ∀ x ∈ fp,x < w.heap.size := fun x hx => hr.ok.lt (p := p) (by rw [hfp]; exact hx)
 obtain ⟨fp2,h7,h8,h9'⟩ := hback w' (.sl k' es1) f2 (fun x h1 h2 => hkeepb x (hlt x h1) h2) hO hn2 (fun x hx => by
  rcases hsi.org 0 x (by rw [e5]; exact hx) with ⟨q,hq⟩ | hq
  ·exact .inl (a3 q x hq).2
  ·exact .inr hq) hlt
 have h9 : ∀ x ∈ fp2,x ∈ fp ∨ w.heap.size ≤ x := fun x hx => by
  rcases h9' x hx with h | h
  ·exact .inl h.1
  ·rcases hsi.org 0 x (by rw [e5]; exact h) with ⟨q,hq⟩ | hq
   ·exact .inl (hsub x (a3 q x hq).2)
   ·exact .inr hq
 have hkeep : Keeps w w' fp := ⟨hsi.os,hsi.tape,hsi.output,hsi.size,fun x h1 h2 => hkeepb x h1 fun h3 => h2 (hsub x h3)⟩
 obtain ⟨hok,htn⟩ := hr.ok.turn (p := p) (fp := fp) hfp hkeep (.ow (.sl kk (es.set i (splice e j [.sl k' es1]))) v fp2) h7 h8 trivial h9
 have hplace : ∀ q ∈ [p],Place (H q) (H.put p (.ow (.sl kk (es.set i (splice e j [.sl k' es1]))) v fp2) q) := fun q hq => by
  have : q = p := by simpa using hq
  subst this
  exact .inl ⟨_,_,_,_,_,e1,Hs.put_self _ _ _⟩
 obtain ⟨hplt,_⟩ := List.getElem?_eq_some_iff.1 hp
 have hR := hr.mapk (V1.killw [p] [p]) (fun x v hx => R1.killw hr.ok htn hplace hx) hok ((st.objs.map (Ob.mapk (V1.killw [p] [p]))).set p (.row kk (es.set i (splice e j [.sl k' es1])))) (fun q => ?_)
 ·have hR2 := hR.put (x := .o (.c (.rd [] (.v wv)))) o.dst hd (v := rv) (by
   have h1 : R1 w' H2 F2 (.rd ps (.v wv)) rv := hres
   obtain ⟨rfl,h2⟩ := RO.plain h1
   exact RO.v _ h2)
  exact hK _ _ (h.h _ _ ⟨_,F,hR2,hsince.turn htn⟩)
 ·by_cases hqp : q = p
  ·subst hqp
   rw [Yy (x := .row kk (es.set i (splice e j [.sl k' es1]))) (by simp [hplt])]
   exact ⟨_,_,Hs.put_self _ _ _⟩
  ·rw [List.getD_eq_getElem?_getD,List.getElem?_set_ne (Ne.symm hqp),List.getElem?_map]
   have h2 := hr.obs q
   rw [List.getD_eq_getElem?_getD] at h2
   have h3 : H.put p (.ow (.sl kk (es.set i (splice e j [.sl k' es1]))) v fp2) q = H q := Hs.put_ne _ _ hqp
   cases ho : st.objs[q]? with
   | none => rw [ho] at h2; exact h3.trans h2
   | some ob => rw [ho] at h2; exact RB.mapk (fun x v hx => R1.killw hr.ok htn hplace hx) h3 h2
theorem M_inner {ts : List (Nat × V)} {obs : List Ob} {d : Nat} {f : FuncId} [hf : FunOk P f] {ass : Array Operand} {tys : Array TypeId} {y0 : Operand} {ys : List Operand} {args' : List V2} {p kk k' i j : Nat} {es es0 es1 : List (List T)} {e : List T} {wv : Value} {ps : List Nat}
  (hc : Con P f [.row k' es0,.gh 0 (.c (.ref 0))] (.c (.ref 0) :: args') [.row k' es1,.gh 0 (.c (.ref 0))] (.o (.c (.rd ps (.v wv))))) (ho : o.op = .call { callee := .value (.func f),args := ass,argTypes := tys }) (hg : o.guard = none) (hd : o.dst = some d) (hl : Nat.blt d n = true) (has : ass.toList = y0 :: ys)
  (hy : St.ev ⟨n,ts,obs⟩ y0 = .o (.c (.le p kk i j))) (hp : obs[p]? = some (.row kk es)) (ha : ys.map (fun y => lendx obs p (St.ev ⟨n,ts,obs⟩ y)) = args') (he : es[i]? = some e) (hx : e[j]? = some (.sl k' es0))
  (h : AL P E ops QQ rest ⟨n,(d,.o (.c (.rd [] (.v wv)))) :: (ts.map fun e => (e.1,e.2.mapk (V1.killw [p] [p]))),(obs.map (Ob.mapk (V1.killw [p] [p]))).set p (.row kk (es.set i (splice e j [.sl k' es1])))⟩) : AL P E ops QQ (o :: rest) ⟨n,ts,obs⟩ :=
 L_inner (st := ⟨n,ts,obs⟩) hc ho hg has hy hp he hx ha (by rw [hd]; exact hl) (by rw [hd]; exact h)
end
end
section
open Go.RowKit

section
variable {P : Program} {ops : Array Oper} {o : Oper} {st : St} {m : Nat} {t t' : TypeId} {y z : Operand} {ps qs : List Nat}
theorem q_bneqR {u : Bool} [TyBool P t] (ho : o.op = .binOp .neq t y z t') (hg : o.guard = none) (hy : st.ev y = .o (.c (.rd ps (.v (.bool u))))) (hz : st.ev z = .o (.c (.rd qs (.v (.bool u))))) : Qt P ops o st (B false) [] m := by
 have h := q_bneq (m := m) (P := P) (ops := ops) ho hg hy hz
 rwa [beq_self_eq_true] at h
theorem q_neqR {k : IntKind} {u : Int} (ho : o.op = .binOp .neq t y z t') (hg : o.guard = none) (hy : st.ev y = .o (.c (.rd ps (.v (.int k u))))) (hz : st.ev z = .o (.c (.rd qs (.v (.int k u))))) : Qt P ops o st (B false) [] m :=
 Qw ho hg hy hz (by simp)
theorem Q8 {xs : List V2} (ho : o.op = .move y) (hg : o.guard = none) (hy : st.ev y = .tu xs) : Qt P ops o st (.tu xs) [] m :=
 .pure hg fun a w H F hr => ⟨a.eval y,by simp [execOp,ho],by rw [← hy]; exact hr.ev y⟩
end
end
section
open Go.RowKit

theorem mk_next {α : Type} [Enc α] {ms xs : List α} (hl : ms.length = xs.length) {i : Nat} (h : i < xs.length) {c : T} {e : List T} (hc : Enc.e (ms[i]'(by omega)) = [c]) (he : e.length = 1 := by rfl) : els (ms.take (i + 1) ++ xs.drop (i + 1)) = (els (ms.take i ++ xs.drop i)).set i (splice e 0 [c]) := by
 have h1 : splice e 0 [c] = Enc.e (ms[i]'(by omega)) := by
  rw [hc]
  match e,he with
  | [t],_ => rfl
 have h2 : i < ms.length := by omega
 rw [h1,← els_set]
 congr 1
 have hi : (ms.take i).length = i := by simp; omega
 rw [List.take_succ_eq_append_getElem h2,List.set_append_right _ _ (by omega)]
 have : i - (ms.take i).length = 0 := by omega
 rw [this,List.drop_eq_getElem_cons h,List.set_cons_zero,List.append_assoc]
 rfl
theorem mk_at {α : Type} {ms xs : List α} (hl : ms.length = xs.length) {i : Nat} (h : i < xs.length) (h' : i < (ms.take i ++ xs.drop i).length := by simp; omega) : (ms.take i ++ xs.drop i)[i] = xs[i] := by
 have hi : (ms.take i).length = i := by simp; omega
 rw [List.getElem_append_right (by omega)]
 simp [hi]
theorem mk_len {α : Type} {ms xs : List α} (hl : ms.length = xs.length) {i : Nat} (h : i ≤ xs.length) : (ms.take i ++ xs.drop i).length = xs.length := by simp; omega
theorem mk_end {α : Type} {ms xs : List α} (hl : ms.length = xs.length) {i : Nat} (h : xs.length ≤ i) : ms.take i ++ xs.drop i = ms := by rw [List.take_of_length_le (by omega),List.drop_of_length_le h,List.append_nil]

def markI (xs : List Int) (k : Int) : List Int := (List.range xs.length).map fun (i : Nat) => k + i
theorem markI_len (xs : List Int) (k : Int) : (markI xs k).length = xs.length := by simp [markI]
theorem markI_at {xs : List Int} {k : Int} {i : Nat} (h : i < (markI xs k).length) : (markI xs k)[i] = k + i := by simp [markI]
theorem L_markIntS (xs : List Int) (k : Int) (hL : xs.length ≤ 1073741824) (h0 : 0 < k) (hk : k ≤ 4294967296) : Con Tryz.prog 30 [.row 1 (els xs),.gh 0 (.c (.ref 0))] [.c (.ref 0),ai k] [.row 1 (els (markI xs k)),.gh 0 (.c (.ref 0))] (I (k + xs.length)) := by
 have hml := markI_len xs k
 refine Con.of Tryz.func30 J Tryz.ntmps30 J (fun E => ?_)
 refine zy (z1 J (zz (Qd (zy (z1 J (zz (Qk ?_)))))));refine A_lq (fun m st => ∃ i : Nat,i + m = xs.length ∧ (True) ∧ st = (⟨_,[(0,.o (.c (.ref 0))),(1,I (k + i)),(5,I i)],[.row 1 (els ((markI xs k).take i ++ xs.drop i)),.gh 0 (.c (.ref 0))]⟩ : St)) (xs.length) ⟨(fun i : Nat => (⟨_,[(0,.o (.c (.ref 0))),(1,I (k + i)),(5,I i)],[.row 1 (els ((markI xs k).take i ++ xs.drop i)),.gh 0 (.c (.ref 0))]⟩ : St)) 0,⟨0,by omega,trivial,J⟩,X8 [0,1] (by decide) J (J) (.c J (.cons (Xx (by omega)) (.c J (.nil))))⟩ ?_
 rintro m_A _ ⟨i,hk_A,hp_A,rfl⟩
 have hl2 : (els ((markI xs k).take i ++ xs.drop i)).length = xs.length := by rw [Yq,mk_len hml (by omega)]
 refine Qd (zy (z0 J (z0 J (zx (Z1 J J J J) J (zx (Z5 J J J J) J (zz ?_))))))
 refine Xb J (fun h => ?_) (fun h => ?_)
 ·have h3 : i < xs.length := by have := of_decide_eq_true h; omega
  have hi : i < ((markI xs k).take i ++ xs.drop i).length := by rw [mk_len hml (by omega)]; exact h3
  have hat := Yo hi
  refine Qh (Q0 (Qd (Qk (zy (z0 J (z0 J (z0 J (zx (Q3 J J J J J (by omega) (by omega)) J ?_))))))));refine Xh J J J J J J J J J (by assumption) J J (zz (Qc (z0 J (z7 J (by omega) (z1 J (Qe (Q1 (Q0 (Qc (z0 J ?_))))))))));refine z7 J (by omega) (z1 J (zz ?_))
  exact ⟨xs.length - (i + 1),by omega,(fun i : Nat => (⟨_,[(0,.o (.c (.ref 0))),(1,I (k + i)),(5,I i)],[.row 1 (els ((markI xs k).take i ++ xs.drop i)),.gh 0 (.c (.ref 0))]⟩ : St)) (i + 1),⟨i + 1,by omega,trivial,J⟩,X8 [0,1] (by decide) J (row2 (mk_next hml h3 (by rw [markI_at]; rfl))) (.c J (.cons (Xx (by omega)) (.c J (.nil))))⟩
 ·have h3 : ¬ ((i : Int) < (els ((markI xs k).take i ++ xs.drop i)).length) := of_decide_eq_false h
  have hi : i = xs.length := by omega
  refine Q9 (T_x (T_x (Xl (Q0 (zy (z0 J (z1 J (zz (Xa ?_)))))))));refine F_r ?_
  exact Xp J J (X6 [0,1] (by decide) J (row2 (by rw [mk_end hml (by omega)])) (Xx (by omega)))
theorem L_heldIntS (xs : List Int) (k : Int) (hL : xs.length ≤ 1073741824) (h0 : 0 < k) (hk : k ≤ 4294967296) : Con Tryz.prog 132 [] [al (markI xs k),ai k] [] (I (k + xs.length)) := by
 have hlx := Yq (markI xs k)
 rw [markI_len] at hlx
 refine Con.of Tryz.func132 J Tryz.ntmps132 J (fun E => ?_)
 refine zy (z1 J (zz (Qd (zy (z1 J (zz (Qk ?_)))))));refine A_lq (fun m st => ∃ i : Nat,i + m = xs.length ∧ (True) ∧ st = (⟨_,[(0,L (markI xs k)),(1,I (k + i)),(5,I i)],[]⟩ : St)) (xs.length) ⟨(fun i : Nat => (⟨_,[(0,L (markI xs k)),(1,I (k + i)),(5,I i)],[]⟩ : St)) 0,⟨0,by omega,trivial,J⟩,X8 [] (by decide) J (J) (.c J (.cons (Xx (by omega)) (.c J (.nil))))⟩ ?_
 rintro m_A _ ⟨i,hk_A,hp_A,rfl⟩
 refine Qd (zy (z0 J (z0 J (zx (Z0 J J J) J (zx (Z5 J J J J) J (zz ?_))))))
 refine Xb J (fun h => ?_) (fun h => ?_)
 ·have h3 : i < xs.length := by have := of_decide_eq_true h; omega
  have hi : i < (markI xs k).length := by rw [markI_len]; exact h3
  have hat := Yo hi
  rw [markI_at] at hat
  refine Qh (Q0 (Qd (Qk (Qd (zy (z0 J (z0 J (zx (Q2 J J J J (by omega) (by assumption) J) J (zx (Z4 J J J J) J (z0 J ?_))))))))));refine zx (q_neqR J J J J) J (zz (Ql J (Qh (Q0 (Qc (z0 J (z7 J (by omega) (z1 J (Qe (Q1 ?_))))))))));refine Q0 (Qc (z0 J (z7 J (by omega) (z1 J (zz ?_)))))
  exact ⟨xs.length - (i + 1),by omega,(fun i : Nat => (⟨_,[(0,L (markI xs k)),(1,I (k + i)),(5,I i)],[]⟩ : St)) (i + 1),⟨i + 1,by omega,trivial,J⟩,X8 [] (by decide) J (J) (.c J (.cons (Xx (by omega)) (.c J (.nil))))⟩
 ·have h3 : ¬ ((i : Int) < (els (markI xs k)).length) := of_decide_eq_false h
  refine Q9 (T_x (T_x (Xl (Q0 (zy (z0 J (z1 J (zz (Xa ?_)))))))));refine F_r ?_
  exact Xp J J (X6 [] (by decide) J J (Xx (by omega)))

def tot (xs : List (List Int)) : Nat := (xs.map List.length).sum
theorem tot_next {xs : List (List Int)} {i : Nat} (h : i < xs.length) : tot (xs.take (i + 1)) = tot (xs.take i) + xs[i].length := by
 unfold tot
 rw [List.take_succ_eq_append_getElem h,List.map_append,List.sum_append]
 simp
theorem tot_le (xs : List (List Int)) (i : Nat) : tot (xs.take i) ≤ tot xs := by
 unfold tot
 conv => rhs; rw [← List.take_append_drop i xs,List.map_append,List.sum_append]
 omega
theorem tot_at {xs : List (List Int)} {i : Nat} (h : i < xs.length) : tot (xs.take i) + xs[i].length ≤ tot xs := by rw [← tot_next h]; exact tot_le _ _
theorem tot_end {xs : List (List Int)} {i : Nat} (h : xs.length ≤ i) : tot (xs.take i) = tot xs := by rw [List.take_of_length_le h]
def markII (xs : List (List Int)) (k : Int) : List (List Int) := (List.range xs.length).map fun (i : Nat) => markI (xs.getD i []) (k + tot (xs.take i))
theorem markII_len (xs : List (List Int)) (k : Int) : (markII xs k).length = xs.length := by simp [markII]
theorem markII_at {xs : List (List Int)} {k : Int} {i : Nat} (h : i < xs.length) (h' : i < (markII xs k).length := by rw [markII_len]; assumption) : (markII xs k)[i] = markI xs[i] (k + tot (xs.take i)) := by simp [markII,List.getD_eq_getElem?_getD,h]
theorem L_markIntSS (xs : List (List Int)) (k : Int) (hL : xs.length ≤ 1073741824) (ht : tot xs ≤ 1073741824) (h0 : 0 < k) (hk : k ≤ 2147483648) : Con Tryz.prog 36 [.row 1 (els xs),.gh 0 (.c (.ref 0))] [.c (.ref 0),ai k] [.row 1 (els (markII xs k)),.gh 0 (.c (.ref 0))] (I (k + tot xs)) := by
 have hml := markII_len xs k
 refine Con.of Tryz.func36 J Tryz.ntmps36 J (fun E => ?_)
 refine zy (z1 J (zz (Qd (zy (z1 J (zz (Qk ?_)))))));refine A_lq (fun m st => ∃ i : Nat,i + m = xs.length ∧ (True) ∧ st = (⟨_,[(0,.o (.c (.ref 0))),(1,I (k + tot (xs.take i))),(5,I i)],[.row 1 (els ((markII xs k).take i ++ xs.drop i)),.gh 0 (.c (.ref 0))]⟩ : St)) (xs.length) ⟨(fun i : Nat => (⟨_,[(0,.o (.c (.ref 0))),(1,I (k + tot (xs.take i))),(5,I i)],[.row 1 (els ((markII xs k).take i ++ xs.drop i)),.gh 0 (.c (.ref 0))]⟩ : St)) 0,⟨0,by omega,trivial,J⟩,X8 [0,1] (by decide) J (J) (.c J (.cons (Xx (by simp [tot])) (.c J (.nil))))⟩ ?_
 rintro m_A _ ⟨i,hk_A,hp_A,rfl⟩
 have hl2 : (els ((markII xs k).take i ++ xs.drop i)).length = xs.length := by rw [Yq,mk_len hml (by omega)]
 refine Qd (zy (z0 J (z0 J (zx (Z1 J J J J) J (zx (Z5 J J J J) J (zz ?_))))))
 refine Xb J (fun h => ?_) (fun h => ?_)
 ·have h3 : i < xs.length := by have := of_decide_eq_true h; omega
  have hi : i < ((markII xs k).take i ++ xs.drop i).length := by rw [mk_len hml (by omega)]; exact h3
  have hat := Yo hi
  rw [mk_at hml h3] at hat
  have ht1 := tot_at h3
  have hc := L_markIntS xs[i] (k + tot (xs.take i)) (by omega) (by omega) (by omega)
  refine Qh (Q0 (Qd (Qk (Qc (z0 J (z0 J (zx (Q3 J J J J J (by omega) (by omega)) J (zx (q_lee J J J J (by assumption) J) J (z0 J ?_)))))))));refine M_inner hc J J J J J J J J (by assumption) J ?_;refine z1 J (Qe (Q1 (Q0 (Qc (z0 J (z7 J (by omega) (z1 J (zz ?_))))))))
  exact ⟨xs.length - (i + 1),by omega,(fun i : Nat => (⟨_,[(0,.o (.c (.ref 0))),(1,I (k + tot (xs.take i))),(5,I i)],[.row 1 (els ((markII xs k).take i ++ xs.drop i)),.gh 0 (.c (.ref 0))]⟩ : St)) (i + 1),⟨i + 1,by omega,trivial,J⟩,X8 [0,1] (by decide) J (row2 (mk_next hml h3 (by rw [markII_at h3]; rfl))) (.c J (.cons (Xx (by rw [tot_next h3]; omega)) (.c J (.nil))))⟩
 ·have h3 : ¬ ((i : Int) < (els ((markII xs k).take i ++ xs.drop i)).length) := of_decide_eq_false h
  have ht1 := tot_end (show xs.length ≤ i by omega)
  refine Q9 (T_x (T_x (Xl (Q0 (zy (z0 J (z1 J (zz (Xa ?_)))))))));refine F_r ?_
  exact Xp J J (X6 [0,1] (by decide) J (row2 (by rw [mk_end hml (by omega)])) (Xx (by rw [ht1])))
theorem L_heldIntSS (xs : List (List Int)) (k : Int) (hL : xs.length ≤ 1073741824) (ht : tot xs ≤ 1073741824) (h0 : 0 < k) (hk : k ≤ 2147483648) : Con Tryz.prog 82 [] [al (markII xs k),ai k] [] (I (k + tot xs)) := by
 have hlx := Yq (markII xs k)
 rw [markII_len] at hlx
 refine Con.of Tryz.func82 J Tryz.ntmps82 J (fun E => ?_)
 refine zy (z1 J (zz (Qd (zy (z1 J (zz (Qk ?_)))))));refine A_lq (fun m st => ∃ i : Nat,i + m = xs.length ∧ (True) ∧ st = (⟨_,[(0,L (markII xs k)),(1,I (k + tot (xs.take i))),(5,I i)],[]⟩ : St)) (xs.length) ⟨(fun i : Nat => (⟨_,[(0,L (markII xs k)),(1,I (k + tot (xs.take i))),(5,I i)],[]⟩ : St)) 0,⟨0,by omega,trivial,J⟩,X8 [] (by decide) J (J) (.c J (.cons (Xx (by simp [tot])) (.c J (.nil))))⟩ ?_
 rintro m_A _ ⟨i,hk_A,hp_A,rfl⟩
 refine Qd (zy (z0 J (z0 J (zx (Z0 J J J) J (zx (Z5 J J J J) J (zz ?_))))))
 refine Xb J (fun h => ?_) (fun h => ?_)
 ·have h3 : i < xs.length := by have := of_decide_eq_true h; omega
  have hi : i < (markII xs k).length := by rw [markII_len]; exact h3
  have hat := Yo hi
  rw [markII_at h3] at hat
  have ht1 := tot_at h3
  have hc := L_heldIntS xs[i] (k + tot (xs.take i)) (by omega) (by omega) (by omega)
  have hn : decide (k + (tot (xs.take i) : Int) + xs[i].length < 0) = false := decide_eq_false (by omega)
  refine Qh (Q0 (Qd (Qk (zy (z0 J (z0 J (zx (Q2 J J J J (by omega) (by assumption) J) J (zx (Z4 J J J J) J (z0 J ?_)))))))));refine zx (Qj J J (hc) J) J ?_;refine z1 J (zz (zy (z0 J (z9a J (by assumption) (zz (Ql J (Qh (Q1 ?_))))))));refine Q0 (Qc (z0 J (z7 J (by omega) (z1 J (zz ?_)))))
  exact ⟨xs.length - (i + 1),by omega,(fun i : Nat => (⟨_,[(0,L (markII xs k)),(1,I (k + tot (xs.take i))),(5,I i)],[]⟩ : St)) (i + 1),⟨i + 1,by omega,trivial,J⟩,X8 [] (by decide) J (J) (.c J (.cons (Xx (by rw [tot_next h3]; omega)) (.c J (.nil))))⟩
 ·have h3 : ¬ ((i : Int) < (els (markII xs k)).length) := of_decide_eq_false h
  have ht1 := tot_end (show xs.length ≤ i by omega)
  refine Q9 (T_x (T_x (Xl (Q0 (zy (z0 J (z1 J (zz (Xa ?_)))))))));refine F_r ?_
  exact Xp J J (X6 [] (by decide) J J (Xx (by rw [ht1])))
theorem L_markReplay (x : TReplay) (k : Int) (h1 : x.Level.Rows.length ≤ 1048576) (h2 : x.Keys.length ≤ 1048576) (h3 : x.Rows.length ≤ 1048576) (h4 : tot x.Rows ≤ 1048576) (h0 : 0 < k) (hk : k ≤ 1073741823) : Con Tryz.prog 29 [.row 1 (els x.Level.Rows),.row 1 (els x.Rows),.row 1 (els x.Keys),.gh 0 (.ag (ownV 0 (Enc.e x)))] [.ag (ownV 0 (Enc.e x)),ai k]
  [.row 1 (els (markS x.Level.Rows k)),.row 1 (els (markII x.Rows (k + x.Level.Rows.length))),.row 1 (els (markS x.Keys (k + x.Level.Rows.length + tot x.Rows))),.gh 0 (.ag (ownV 0 (Enc.e x)))] (I (k + x.Level.Rows.length + tot x.Rows + x.Keys.length)) := by
 refine Con.of Tryz.func29 J Tryz.ntmps29 J (fun E => ?_)
 refine zy (M1 (Qq J J J J) J J (z1 J (zz (zy (z2 J J J (z4 J J J (z0 J ?_)))))));refine Xd (lo := [_]) (gs := [(0,.ag [.ref 0])]) (lo' := [_]) (new := []) [0] [(0,0,.ref 0)] (L_markLevel x.Level.Rows k h1 h0 (by omega)) J J J J J J J J J J J J J J J J J ?_;refine z1 J (zz (zy (z2 J J J (z3 J (z0 J ?_)))));refine Xd (lo := [_]) (gs := [(0,.c (.ref 0))]) (lo' := [_]) (new := []) [1] [(0,0,.ref 0)] (L_markIntSS x.Rows (k + x.Level.Rows.length) (by omega) (by omega) (by omega) (by omega)) J J J J J J J J J J J J J J J J J ?_;refine z1 J (zz (zy (z2 J J J (z3 J (z0 J ?_)))));refine Xd (lo := [_]) (gs := [(0,.c (.ref 0))]) (lo' := [_]) (new := []) [2] [(0,0,.ref 0)] (L_markStringS x.Keys (k + x.Level.Rows.length + tot x.Rows) h2 (by omega) (by omega)) J J J J J J J J J J J J J J J J J ?_;refine z1 J (zz (zy (z0 J (z1 J (zz (Xa (F_r ?_)))))))
 exact Xp J J (X6 [0,1,2,3] (by decide) J J J)
def markR (x : TReplay) (k : Int) : TReplay := ⟨⟨markS x.Level.Rows k⟩,x.Players,x.Seed,x.Every,markII x.Rows (k + x.Level.Rows.length),markS x.Keys (k + x.Level.Rows.length + tot x.Rows)⟩
theorem L_heldReplay (x : TReplay) (k : Int) (h1 : x.Level.Rows.length ≤ 1048576) (h2 : x.Keys.length ≤ 1048576) (h3 : x.Rows.length ≤ 1048576) (h4 : tot x.Rows ≤ 1048576) (h0 : 0 < k) (hk : k ≤ 1073741823) : Con Tryz.prog 31 [] [ag (markR x k),ai k] [] (I (k + x.Level.Rows.length + tot x.Rows + x.Keys.length)) := by
 have hn : decide (k + (x.Level.Rows.length : Int) < 0) = false := decide_eq_false (by omega)
 have hm : decide (k + (x.Level.Rows.length : Int) + tot x.Rows < 0) = false := decide_eq_false (by omega)
 have hm2 : decide (k + (x.Level.Rows.length : Int) + tot x.Rows + x.Keys.length < 0) = false := decide_eq_false (by omega)
 refine Con.of Tryz.func31 J Tryz.ntmps31 J (fun E => ?_)
 refine zy (M1 (Qq J J J J) J J (z1 J (zz (zy (z2 J J J (z4 J J J (z0 J ?_)))))));refine zx (Qj J J (L_heldLevel x.Level.Rows k h1 h0 (by omega)) J) J ?_;refine z1 J (zz (Qd (zy (z0 J (z9a J (by assumption) (zz (Ql J (Qh ?_))))))));refine Q0 (zy (z2 J J J (z3 J (z0 J ?_))));refine zx (Qj J J (L_heldIntSS x.Rows (k + x.Level.Rows.length) (by omega) (by omega) (by omega) (by omega)) J) J ?_;refine z1 J (zz (Qd (zy (z0 J (z9a J (by assumption) (zz (Ql J (Qh ?_))))))));refine Q0 (zy (z2 J J J (z3 J (z0 J ?_))));refine zx (Qj J J (L_heldStringS x.Keys (k + x.Level.Rows.length + tot x.Rows) h2 (by omega) (by omega)) J) J ?_;refine z1 J (zz (Qd (zy (z0 J (z9a J (by assumption) (zz (Ql J (Qh ?_))))))));refine Q0 (zy (z0 J (z1 J (zz (Xa (F_r ?_))))))
 exact Xp J J (X6 [] (by decide) J J J)
end
section
open Go.RowKit

structure TBody where
 Kind : Int
 Owner : Int
 X : Int
 Y : Int
 VX : Int
 VY : Int
 Aim : Int
 Life : Int
 Timer : Int
 deriving DecidableEq
instance : Enc TBody := ⟨9,by omega,fun x => [.v (.int .i64 x.Kind),.v (.int .i64 x.Owner),.v (.int .i64 x.X),.v (.int .i64 x.Y),.v (.int .i64 x.VX),.v (.int .i64 x.VY),.v (.int .i64 x.Aim),.v (.int .i64 x.Life),.v (.int .i64 x.Timer)],fun _ => rfl,fun x => Enc.gd x.Kind ∧ Enc.gd x.Owner ∧ Enc.gd x.X ∧ Enc.gd x.Y ∧ Enc.gd x.VX ∧ Enc.gd x.VY ∧ Enc.gd x.Aim ∧ Enc.gd x.Life ∧ Enc.gd x.Timer,fun x => 0⟩
theorem TBody.same {x y : TBody} (h0 : x.Kind = y.Kind) (h1 : x.Owner = y.Owner) (h2 : x.X = y.X) (h3 : x.Y = y.Y) (h4 : x.VX = y.VX) (h5 : x.VY = y.VY) (h6 : x.Aim = y.Aim) (h7 : x.Life = y.Life) (h8 : x.Timer = y.Timer) : x = y := by cases x; cases y; simp_all
structure TWorld where
 Level : TLevel
 Tick : Int
 Seed : Int
 Scores : (List Int)
 Bodies : (List TBody)
 deriving DecidableEq
instance : Enc TWorld := ⟨5,by omega,fun x => [sl x.Level.Rows,.v (.int .i64 x.Tick),.v (.int .i64 x.Seed),sl x.Scores,sl x.Bodies],fun _ => rfl,fun x => Enc.gd x.Level ∧ Enc.gd x.Tick ∧ Enc.gd x.Seed ∧ Enc.gd x.Scores ∧ Enc.gd x.Bodies,fun x => Enc.wt x.Level + Enc.wt x.Scores + Enc.wt x.Bodies⟩
theorem TWorld.same {x y : TWorld} (h0 : x.Level = y.Level) (h1 : x.Tick = y.Tick) (h2 : x.Seed = y.Seed) (h3 : x.Scores = y.Scores) (h4 : x.Bodies = y.Bodies) : x = y := by cases x; cases y; simp_all
structure TSpectator where
 World : TWorld
 Gaps : Int
 deriving DecidableEq
instance : Enc TSpectator := ⟨6,by omega,fun x => [sl x.World.Level.Rows,.v (.int .i64 x.World.Tick),.v (.int .i64 x.World.Seed),sl x.World.Scores,sl x.World.Bodies,.v (.int .i64 x.Gaps)],fun _ => rfl,fun x => Enc.gd x.World ∧ Enc.gd x.Gaps,fun x => Enc.wt x.World⟩
theorem TSpectator.same {x y : TSpectator} (h0 : x.World = y.World) (h1 : x.Gaps = y.Gaps) : x = y := by cases x; cases y; simp_all

/-! ### Marks -/
end
section
open Go.RowKit

def inR (n lo hi : Int) : Bool := decide (lo ≤ n) && decide (n ≤ hi)
theorem Y3 {n lo hi : Int} : inR n lo hi = true ↔ lo ≤ n ∧ n ≤ hi := by simp [inR]
theorem Xw (n lo hi : Int) : Con Tryz.prog 54 [] [ai n,ai lo,ai hi] [] (B (inR n lo hi)) := by
 refine Con.of Tryz.func54 J Tryz.ntmps54 J (fun E => ?_)
 refine zy (z1 J (zz (zy (z0 J (z0 J (zx (q_geq J J J J) J (z0 J ?_)))))));refine zx (Qt.grdT J J J .stop (fun hgrd => Qa J J J)) J ?_;refine zx (Qt.grdT J J J (.hit .stop) (fun hgrd => Qa J J J)) J ?_;refine zx (Qt.grdT J J J (.hit (.hit .stop)) (fun hgrd => q_leq J J J J)) J ?_;refine zx (Zj J J J J) J (z1 J (zz (Xa (F_r ?_))))
 exact Xp J J (X6 [] (by decide) J J J)
theorem S_in (n lo hi : Int) : Con Tryz.prog 95 [] [ai n,ai lo,ai hi] [] (B (inR n lo hi)) := by
 refine Con.of Tryz.func95 J Tryz.ntmps95 J (fun E => ?_)
 refine zy (z1 J (zz (zy (z0 J (z0 J (zx (q_geq J J J J) J (z0 J ?_)))))));refine zx (Qt.grdT J J J .stop (fun hgrd => Qa J J J)) J ?_;refine zx (Qt.grdT J J J (.hit .stop) (fun hgrd => Qa J J J)) J ?_;refine zx (Qt.grdT J J J (.hit (.hit .stop)) (fun hgrd => q_leq J J J J)) J ?_;refine zx (Zj J J J J) J (z1 J (zz (Xa (F_r ?_))))
 exact Xp J J (X6 [] (by decide) J J J)

section
variable {α : Type} {p : α → Bool} {xs : List α} {k : Nat}
theorem Yb (h : (xs.take k).all p = true) (hk : k < xs.length) (hp : p xs[k] = true) : (xs.take (k + 1)).all p = true := by
 rw [List.take_succ_eq_append_getElem hk,List.all_append,h]
 simp [hp]
theorem all_no (hk : k < xs.length) (hp : p xs[k] = false) : xs.all p = false := by
 rw [List.all_eq_false]
 exact ⟨_,List.getElem_mem hk,by simp [hp]⟩
theorem all_end (h : (xs.take k).all p = true) (hk : xs.length ≤ k) : xs.all p = true := by rwa [List.take_of_length_le hk] at h
end
def inOk (xs : List Int) : Bool := xs.all fun n => inR n 0 15
def rowOk (xs : List Int) (n : Int) : Bool := decide ((xs.length : Int) = n) && inOk xs

theorem I_inputsOk (xs : List Int) (hn : Enc.gd xs) : Con Tryz.prog 107 [] [al xs] [] (B (inOk xs)) := by
 have hn1 := hn.1
 have hlx := Yq xs
 refine Con.of Tryz.func107 J Tryz.ntmps107 J (fun E => ?_)
 refine zy (z1 J (zz (Qd (zy (z0 J (zx (Z0 J J J) J (z0 J (Qe ?_))))))));refine Q0 (Qk ?_);refine A_lq (fun m st => ∃ k : Nat,k + m = xs.length ∧ ((xs.take k).all (fun n => inR n 0 15) = true) ∧ st = (⟨_,[(5,L xs),(6,I (els xs).length),(7,I k)],[]⟩ : St)) (xs.length) ⟨_,⟨0,by omega,by simp,J⟩,W_gj [] J⟩ ?_
 rintro m_A _ ⟨k,hk_A,hp_A,rfl⟩
 refine zy (zx (Z5 J J J J) J (zz (Qd ?_)))
 refine Xb J (fun h => ?_) (fun h => ?_)
 ·have h3 : k < xs.length := by have := of_decide_eq_true h; omega
  have hat := Yo h3
  refine Qh (Q0 (Qd (Qk (zy (zx (Q2 J J J J (by omega) (by assumption) J) J (zx (Z4 J J J J) J (z1 J (zz (Qd ?_)))))))));refine Qc (z0 J ?_);refine zx (Qj J J (Xw xs[k] 0 15) J) J ?_;refine zn J (zz ?_)
  refine Xb J (fun h4 => ?_) (fun h4 => ?_)
  ·refine zy (z1 rfl (zz (Xa (B_r (T_r (T_r (B_r ?_)))))))
   refine T_r (F_r ?_)
   exact Xp J J (X6 [] (by decide) J J (Xk (all_no h3 (by simpa using h4)).symm))
  ·refine Qh (Q1 (Q0 (Qc (z7 rfl (by omega) (z0 rfl (Qe ?_))))))
   refine Q0 ?_
   exact ⟨xs.length - (k + 1),by omega,_,⟨k + 1,by omega,Yb hp_A h3 (by simpa using h4),J⟩,W_gj [] J⟩
 ·have h3 : ¬ ((k : Int) < (els xs).length) := of_decide_eq_false h
  refine Q9 (T_x (T_x (Xl (Q0 (zy (z1 J (zz (Xa (F_r ?_)))))))))
  exact Xp J J (X6 [] (by decide) J J (Xk (all_end hp_A (by omega)).symm))
theorem I_rowOk (xs : List Int) (n : Int) (hn : Enc.gd xs) : Con Tryz.prog 55 [] [al xs,ai n] [] (B (rowOk xs n)) := by
 have hlx := Yq xs
 refine Con.of Tryz.func55 J Tryz.ntmps55 J (fun E => ?_)
 refine zy (z1 J (zz (zy (z0 J (zx (Z0 J J J) J (z0 J (zx (Zu J J J J) J (z0 J ?_))))))));refine zx (Qt.grdT J J J .stop (fun hgrd => Qa J J J)) J ?_;refine zx (Qt.grdT J J J (.hit .stop) (fun hgrd => Qj J J (I_inputsOk xs hn) J)) J ?_;refine zx (Zj J J J J) J (z1 J (zz (Xa (F_r ?_))))
 exact Xp J J (X6 [] (by decide) J J (Xk (by rw [hlx]; rfl)))
theorem S_rowOk (xs : List Int) (n : Int) (hn : Enc.gd xs) : Con Tryz.prog 50 [] [al xs,ai n] [] (B (rowOk xs n)) := by
 have hn1 := hn.1
 have hlx := Yq xs
 refine Con.of Tryz.func50 J Tryz.ntmps50 J (fun E => ?_)
 refine zy (z1 J (zz (Qd (zy (z1 J (zz (Qk ?_)))))));refine A_lq (fun m st => ∃ k : Nat,k + m = xs.length ∧ ((xs.take k).all (fun n => inR n 0 15) = true) ∧ st = (⟨_,[(0,L xs),(1,I n),(5,I k)],[]⟩ : St)) (xs.length) ⟨_,⟨0,by omega,by simp,J⟩,W_gj [] J⟩ ?_
 rintro m_A _ ⟨k,hk_A,hp_A,rfl⟩
 refine Qd (zy (z0 J (z0 J (zx (Z0 J J J) J (zx (Z5 J J J J) J (zz ?_))))))
 refine Xb J (fun h => ?_) (fun h => ?_)
 ·have h3 : k < xs.length := by have := of_decide_eq_true h; omega
  have hat := Yo h3
  refine Qh (Q0 (Qd (Qk (zy (z0 J (z0 J (zx (Q2 J J J J (by omega) (by assumption) J) J (zx (Z4 J J J J) J ?_))))))));refine zx (Qj J J (S_in xs[k] 0 15) J) J ?_;refine zn J (zz ?_)
  refine Xb J (fun h4 => ?_) (fun h4 => ?_)
  ·refine zy (z1 rfl (zz (Xa (B_r (T_r (T_r (B_r ?_)))))))
   refine T_r (F_r ?_)
   exact Xp J J (X6 [] (by decide) J J (Xk (by unfold rowOk inOk; rw [all_no h3 (by simpa using h4)]; simp)))
  ·refine Qh (Q1 (Q0 (Qc (z0 rfl (z7 rfl (by omega) ?_)))))
   refine z1 J (zz ?_)
   exact ⟨xs.length - (k + 1),by omega,_,⟨k + 1,by omega,Yb hp_A h3 (by simpa using h4),J⟩,W_gj [] J⟩
 ·have h3 : ¬ ((k : Int) < (els xs).length) := of_decide_eq_false h
  refine Q9 (T_x (T_x (Xl (Q0 (zy (z0 J (zx (Z0 J J J) J (z0 J (zx (Zu J J J J) J (z1 J ?_))))))))));refine zz (Xa (F_r ?_))
  exact Xp J J (X6 [] (by decide) J J (Xk (by unfold rowOk inOk; rw [all_end hp_A (by omega),hlx]; simp)))
end
section
open Go.RowKit

abbrev Seen := Bool × Bool × Bool × Bool
def tileM (e : Bool) (t : Int) (s : Seen × Bool) : Option (Seen × Bool) :=
 if t = 35 then some s else if e then none else
 if t = 49 then (if s.1.1 then none else some ((true,s.1.2),true)) else
 if t = 50 then (if s.1.2.1 then none else some ((s.1.1,true,s.1.2.2),true)) else
 if t = 51 then (if s.1.2.2.1 then none else some ((s.1.1,s.1.2.1,true,s.1.2.2.2),true)) else
 if t = 52 then (if s.1.2.2.2 then none else some ((s.1.1,s.1.2.1,s.1.2.2.1,true),true)) else
 if t = 111 ∨ t = 46 then some (s.1,true) else none
def colsM (row : ByteArray) (er : Bool) (w : Nat) (s : Seen × Bool) : Nat → Option (Seen × Bool)
 | 0 => some s
 | c + 1 => match colsM row er w s c with
  | none => none
  | some s' => tileM (er || decide (c = 0) || decide (c + 1 = w)) (byteAt row c) s'
def rowsM (rows : List ByteArray) (w : Nat) : Nat → Option (Seen × Bool)
 | 0 => some ((false,false,false,false),false)
 | r + 1 => match rowsM rows w r with
  | none => none
  | some s => match rows[r]? with
   | none => none
   | some row => if row.size = w then colsM row (decide (r = 0) || decide (r + 1 = rows.length)) w s w else none
def widthM (rows : List ByteArray) : Nat := match rows[0]? with
 | some row => row.size
 | none => 0
def levelOk (l : TLevel) : Bool := decide (3 ≤ l.Rows.length) && decide (l.Rows.length ≤ 12) && decide (4 ≤ widthM l.Rows) && decide (widthM l.Rows ≤ 20) && match rowsM l.Rows (widthM l.Rows) l.Rows.length with
 | some s => s.2
 | none => false

@[reducible] def vb (b : Bool) : V1 := .rd [] (.v (.bool b))
section
variable {rows : List ByteArray} {row : ByteArray} {w k c : Nat} {s s' : Seen × Bool} {er : Bool}
theorem rows_none {n : Nat} (h : rowsM rows w k = none) (hk : k ≤ n) : rowsM rows w n = none := by
 induction n with
 | zero => have : k = 0 := by omega
           subst this; exact h
 | succ n ih =>
  rcases Nat.lt_or_ge n k with h1 | h1
  ·have : k = n + 1 := by omega
   subst this; exact h
  ·simp [rowsM,ih h1]
theorem cols_none {n : Nat} (h : colsM row er w s c = none) (hc : c ≤ n) : colsM row er w s n = none := by
 induction n with
 | zero => have : c = 0 := by omega
           subst this; exact h
 | succ n ih =>
  rcases Nat.lt_or_ge n c with h1 | h1
  ·have : c = n + 1 := by omega
   subst this; exact h
  ·simp [colsM,ih h1]
theorem rows_next (h : rowsM rows w k = some s) (hk : k < rows.length) (hw : rows[k].size = w) : rowsM rows w (k + 1) = colsM rows[k] (decide (k = 0) || decide (k + 1 = rows.length)) w s w := by
 rw [rowsM,h]
 simp [List.getElem?_eq_getElem hk,hw]
theorem rows_bad (hk : k < rows.length) (hw : rows[k].size ≠ w) : rowsM rows w (k + 1) = none := by
 rw [rowsM]
 cases rowsM rows w k with
 | none => rfl
 | some s => simp [List.getElem?_eq_getElem hk,hw]
theorem cols_next (h : colsM row er w s c = some s') : colsM row er w s (c + 1) = tileM (er || decide (c = 0) || decide (c + 1 = w)) (byteAt row c) s' := by
 rw [colsM,h]
theorem level_no {l : TLevel} (hk : k < l.Rows.length) (hw : widthM l.Rows = w) (h : rowsM l.Rows w (k + 1) = none) : levelOk l = false := by
 unfold levelOk
 rw [hw,rows_none h (by omega)]
 simp
theorem width_at (h : 0 < rows.length) : widthM rows = rows[0].size := by simp [widthM,List.getElem?_eq_getElem h]
end
end
section
open Go.RowKit

theorem Xu (x : TLevel) (hg : Enc.gd x) : Con Tryz.prog 53 [] [ag x] [] (B (levelOk x)) := by
 obtain ⟨rows⟩ := x
 have hn : Enc.gd rows := hg
 have hn1 := hn.1
 have hlx := Yq rows
 refine Con.of Tryz.func53 J Tryz.ntmps53 J (fun E => ?_)
 refine zy (M1 (Qq J J J J) J J (z1 J (zz (Qd (zy (z2 J J J (z3 J (zx (Z0 J J J) J ?_))))))));refine zx (Z5 J J J J) J (z0 J ?_);refine zx (Qt.grdF J J J .stop (fun hgrd => Qf J J J J (by decide))) J ?_;refine zx (Qt.grdF J J J (.hit .stop) (fun hgrd => Qg J J J J J)) J ?_;refine zx (Qt.grdF J J J (.hit (.hit .stop)) (fun hgrd => Z0 J J J)) J ?_;refine zx (Qt.grdF J J J (.hit (.hit (.hit .stop))) (fun hgrd => Zy J J J J)) J ?_;refine zx (Z8 J J J J) J (zz ?_)
 refine Xb J (fun h => ?_) (fun h => ?_)
 ·simp only [Bool.or_eq_true,decide_eq_true_eq] at h
  refine zy (z1 J (zz (Xa (T_r (F_r ?_)))))
  exact Xp J J (X6 [] (by decide) J J (Xk (by simp [levelOk]; omega)))
 simp only [Bool.or_eq_false_iff,decide_eq_false_iff_not] at h
 have h0 : 0 < rows.length := by omega
 have hat0 : (els rows)[(0 : Int).toNat]? = some (Enc.e rows[0]) := Yo h0
 have hw := width_at h0
 refine Qh (Q0 (zy (z2 J J J (z3 J (zx (Q2 J J J J (by omega) (by assumption) J) J (zx (Z4 J J J J) J (zx (Z3 J J J) J (z1 J (zz ?_)))))))));refine Qd (zy (z0 J (zx (Z5 J J J J) J (z0 J ?_))));refine zx (Qt.grdF J J J .stop (fun hgrd => Qa J J J)) J ?_;refine zx (Qt.grdF J J J (.hit .stop) (fun hgrd => Zy J J J J)) J ?_;refine zx (Z8 J J J J) J (zz ?_)
 refine Xb J (fun h1 => ?_) (fun h1 => ?_)
 ·simp only [Bool.or_eq_true,decide_eq_true_eq] at h1
  refine zy (z1 J (zz (Xa (T_r (F_r ?_)))))
  exact Xp J J (X6 [] (by decide) J J (Xk (by simp [levelOk]; omega)))
 simp only [Bool.or_eq_false_iff,decide_eq_false_iff_not] at h1
 obtain ⟨w,hw'⟩ : ∃ w,w = rows[0].size := ⟨_,rfl⟩
 rw [← hw'] at hw h1
 refine Qh (Q0 (zy (M1 (Qx J J J) J J (zz (zy (z1 J (zz ?_)))))));refine Qd (zy (z2 J J J (z3 J (zx (Z0 J J J) J (z0 J (zz (Qk ?_)))))));refine A_lq (fun m st => ∃ (k : Nat) (s : Seen × Bool),k + m = rows.length ∧ (rowsM rows w k = some s) ∧ st = (⟨_,[(1,.o (.c (.ptr 0 0))),(3,I w),(4,.o (.c (.ptr 1 0))),(5,B s.2),(33,L rows),(34,I (els rows).length),(35,I k)],[.box [.rd [] (sl rows)],.box [vb false,vb s.1.1,vb s.1.2.1,vb s.1.2.2.1,vb s.1.2.2.2]]⟩ : St)) (rows.length) ⟨(fun (k : Nat) (s : Seen × Bool) => (⟨_,[(1,.o (.c (.ptr 0 0))),(3,I w),(4,.o (.c (.ptr 1 0))),(5,B s.2),(33,L rows),(34,I (els rows).length),(35,I k)],[.box [.rd [] (sl rows)],.box [vb false,vb s.1.1,vb s.1.2.1,vb s.1.2.2.1,vb s.1.2.2.2]]⟩ : St)) 0 (((false,false,false,false),false)),⟨0,((false,false,false,false),false),by omega,J,J⟩,X8 [0,1] (by decide) J (J) (.c J (.cons (Xx (by omega)) (.c J (.c J (.c J (.c J (.c J (.nil))))))))⟩ ?_
 rintro m_A _ ⟨k,s,hk_A,hp_A,rfl⟩
 refine zy (zx (Z5 J J J J) J (zz (Qd ?_)))
 refine Xb J (fun h => ?_) (fun h => ?_)
 ·have h3 : k < rows.length := by have := of_decide_eq_true h; omega
  have hat := Yo h3
  have hgk : rows[k].size ≤ 9223372036854775807 := hn.2 _ (List.getElem_mem h3)
  refine Qh (Q0 (Qd (Qk (zy (z0 J (zx (Q2 J J J J (by omega) (by assumption) J) J (zx (Z4 J J J J) J (z1 J (z1 J (Qe ?_))))))))));refine Q0 (Qd (zy (z0 J (zx (Z3 J J J) J (z0 J (zx (Z7 J J J J) J (zz ?_)))))))
  refine Xb J (fun h4 => ?_) (fun h4 => ?_)
  ·have h4 : ¬ rows[k].size = w := by have := of_decide_eq_true h4; omega
   refine zy (z1 J (zz (Xa (T_r (B_r (T_r (T_r (B_r (T_r ?_)))))))));refine F_r ?_
   exact Xp J J (X6 [] (by decide) J J (Xk (level_no (l := ⟨rows⟩) h3 hw (rows_bad h3 h4)).symm))
  have h4 : rows[k].size = w := by have := of_decide_eq_false h4; omega
  have hrn := rows_next hp_A h3 h4
  obtain ⟨er,her⟩ : ∃ er,er = (decide (k = 0) || decide (k + 1 = rows.length)) := ⟨_,rfl⟩
  rw [← her] at hrn
  refine Qh (Q0 (zy (z1 J (zz (Qk ?_)))));refine A_lq (fun m st => ∃ (c : Nat) (u : Seen × Bool),c + m = w ∧ (colsM rows[k] er w s c = some u) ∧ st = (⟨_,[(1,.o (.c (.ptr 0 0))),(3,I w),(4,.o (.c (.ptr 1 0))),(5,B u.2),(6,I k),(7,S rows[k]),(8,I c),(33,L rows),(34,I (els rows).length),(35,I k)],[.box [.rd [] (sl rows)],.box [vb false,vb u.1.1,vb u.1.2.1,vb u.1.2.2.1,vb u.1.2.2.2]]⟩ : St)) (w) ⟨_,⟨0,s,by omega,J,J⟩,W_gj [0,1] J⟩ ?_
  rintro m_D _ ⟨c,u,hk_D,hp_D,rfl⟩
  refine Qd (zy (z0 J (z0 J (zx (Z5 J J J J) J (zz ?_)))))
  refine Xb J (fun h5 => ?_) (fun h5 => ?_)
  ·have h5 : c < w := by have := of_decide_eq_true h5; omega
   have hcn := cols_next hp_D
   obtain ⟨t,ht⟩ : ∃ t,byteAt rows[k] (c : Int).toNat = t := ⟨_,rfl⟩
   rw [show byteAt rows[k] c = t from ht] at hcn
   have htb : 0 ≤ t ∧ t ≤ 255 := ht ▸ Yj _ _
   obtain ⟨⟨sa,sb,sc,sd⟩,so⟩ := u
   obtain ⟨e,he⟩ : ∃ e,e = (er || decide (c = 0) || decide (c + 1 = w)) := ⟨_,rfl⟩
   rw [← he] at hcn
   refine Qh (Q0 (Qd (Qk (zy (z0 J (z0 J (zx (Zr J J J J (by assumption) (by omega)) J (z1 J (zz ?_)))))))));refine zy (z0 J (zx (Zu J J J J) J (z0 J ?_)));refine zx (Qt.grdF J J J .stop (fun hgrd => Qa J J J)) J ?_;refine zx (Qt.grdF J J J (.hit .stop) (fun hgrd => Qf J J J J (by decide))) J ?_;refine zx (Qt.grdF J J J (.hit (.hit .stop)) (fun hgrd => Qg J J J J J)) J ?_;refine zx (Qt.grdF J J J (.hit (.hit (.hit .stop))) (fun hgrd => Z0 J J J)) J ?_;refine zx (Qt.grdF J J J (.hit (.hit (.hit (.hit .stop)))) (fun hgrd => Xc J J J J (by omega))) J ?_;refine zx (Qt.grdF J J J (.hit (.hit (.hit (.hit (.hit .stop))))) (fun hgrd => Zu J J J J)) J ?_;refine zx (Z8 J J J J) J (z0 J ?_);refine zx (Qt.grdF J J J .stop (fun hgrd => Qa J J J)) J ?_;refine zx (Qt.grdF J J J (.hit .stop) (fun hgrd => Zu J J J J)) J ?_;refine zx (Z8 J J J J) J (z0 J ?_);refine zx (Qt.grdF J J J .stop (fun hgrd => Qa J J J)) J ?_;refine zx (Qt.grdF J J J (.hit .stop) (fun hgrd => Qa J J J)) J ?_;refine zx (Qt.grdF J J J (.hit (.hit .stop)) (fun hgrd => Xc J J J J (by omega))) J ?_;refine zx (Qt.grdF J J J (.hit (.hit (.hit .stop))) (fun hgrd => Zu J J J J)) J ?_;refine zx (Z8 J J J J) J (z1 J (zz (Qd (zy (z0 J (z0 J ?_))))));refine zx (Qt.grdT J J J .stop (fun hgrd => Qa J J J)) J ?_;refine zx (Qt.grdT J J J (.hit .stop) (fun hgrd => Z7 J J J J)) J ?_;refine zx (Zj J J J J) J (zz ?_)
   have hee : (decide ((k : Int) = 0) || decide ((k : Int) = ((els rows).length : Int) - 1) || decide ((c : Int) = 0) || decide ((c : Int) = (w : Int) - 1)) = e := by
    rw [he,her,hlx]
    have g1 : decide ((k : Int) = 0) = decide (k = 0) := by simp
    have g2 : decide ((k : Int) = (rows.length : Int) - 1) = decide (k + 1 = rows.length) := decide_eq_decide.2 (by omega)
    have g3 : decide ((c : Int) = 0) = decide (c = 0) := by simp
    have g4 : decide ((c : Int) = (w : Int) - 1) = decide (c + 1 = w) := decide_eq_decide.2 (by omega)
    rw [g1,g2,g3,g4]
   clear he her
   have hbad : colsM rows[k] er w s (c + 1) = none → levelOk ⟨rows⟩ = false := fun hc => level_no (l := ⟨rows⟩) h3 hw (hrn.trans (cols_none hc (by omega)))
   refine Xb J (fun h6 => ?_) (fun h6 => ?_)
   ·rw [hee] at h6
    simp only [Bool.and_eq_true,decide_eq_true_eq] at h6
    refine zy (z1 J (zz (Xa (T_r (B_r (T_r (T_r (B_r (B_r ?_)))))))));refine T_r (T_r (B_r (T_r (F_r ?_))))
    exact Xp J J (X6 [] (by decide) J J (Xk (hbad (hcn.trans (by simp [tileM,h6]))).symm))
   rw [hee] at h6
   have h7 : t = 35 ∨ e = false := by
    simp only [Bool.and_eq_false_iff,decide_eq_false_iff_not,Classical.not_not] at h6
    exact h6.symm
   clear h6 hee
   refine AWP.pre (st' := (⟨_,[(1,.o (.c (.ptr 0 0))),(3,I w),(4,.o (.c (.ptr 1 0))),(5,B so),(6,I k),(7,S rows[k]),(8,I c),(9,VI .u8 t),(33,L rows),(34,I (els rows).length),(35,I k)],[.box [.rd [] (sl rows)],.box [vb false,vb sa,vb sb,vb sc,vb sd]]⟩ : St)) ?_ (W_gj [0,1] J)
   rcases h7 with rfl | h7
   ·refine Qh (Q0 (Qd (Qk (zy (z0 rfl ?_)))))
    refine zx (Zx (b := false) J J J J (by decide)) J ?_;refine z0 J (z6 J (z6 J (zpF J (z1 J (zz (Ql J (zy (z0 J ?_))))))));refine zx (Qw (b := false) J J J J (by decide)) J ?_;refine z0 J (z6 J (z6 J (zpF J (z0 J (z6 J (z6 J (zpF J (z1 J (zz (Ql J ?_))))))))));refine Qh (Q1 (Q0 (zy (z0 J ?_))));refine zx (Qw (b := false) J J J J (by decide)) J ?_;refine zz (Ql J (Qh (Q1 (Q0 (Qc (z0 J (z7 J (by omega) (z1 J (zz ?_)))))))))
    exact ⟨w - (c + 1),by omega,_,⟨c + 1,((sa,sb,sc,sd),so),by omega,hcn.trans (by simp [tileM]),J⟩,W_gj [0,1] J⟩
   subst h7
   rcases (by omega : t = 35 ∨ t = 49 ∨ t = 50 ∨ t = 51 ∨ t = 52 ∨ t = 111 ∨ t = 46 ∨ (t ≠ 35 ∧ t ≠ 49 ∧ t ≠ 50 ∧ t ≠ 51 ∧ t ≠ 52 ∧ t ≠ 111 ∧ t ≠ 46)) with rfl | rfl | rfl | rfl | rfl | rfl | rfl | ht7
   ·refine Qh (Q0 (Qd (Qk (zy (z0 rfl ?_)))))
    refine zx (Zx (b := false) J J J J (by decide)) J ?_;refine z0 J (z6 J (z6 J (zpF J (z1 J (zz (Ql J (zy (z0 J ?_))))))));refine zx (Qw (b := false) J J J J (by decide)) J ?_;refine z0 J (z6 J (z6 J (zpF J (z0 J (z6 J (z6 J (zpF J (z1 J (zz (Ql J ?_))))))))));refine Qh (Q1 (Q0 (zy (z0 J ?_))));refine zx (Qw (b := false) J J J J (by decide)) J ?_;refine zz (Ql J (Qh (Q1 (Q0 (Qc (z0 J (z7 J (by omega) (z1 J (zz ?_)))))))))
    exact ⟨w - (c + 1),by omega,_,⟨c + 1,((sa,sb,sc,sd),so),by omega,hcn.trans (by simp [tileM]),J⟩,W_gj [0,1] J⟩
   ·refine Qh (Q0 (Qd (Qk (zy (z0 rfl ?_)))))
    refine zx (Zx (b := true) J J J J (by decide)) J ?_;refine z0 J (z5 J (z0 J (z5 J ?_)));refine zx (q_leqK (b := true) J J J J (by decide)) J ?_;refine zpT J (z1 J (zz (Qm J (Qd (zy (z0 J (zx (Kd J J J J (by omega)) J (zx (q_aidx J J J J (by omega)) J (z3 J ?_)))))))));refine zz ?_
    refine Xb J (fun h8 => ?_) (fun h8 => ?_)
    ·have h8 : sa = true := h8
     subst h8
     refine zy (z1 J (zz (Xa (T_r (B_r (T_r (B_r (T_r (T_r ?_)))))))));refine B_r (B_r (T_r (T_r (B_r (T_r (F_r ?_))))))
     exact Xp J J (X6 [] (by decide) J J (Xk (hbad (hcn.trans (by simp [tileM]))).symm))
    ·have h8 : sa = false := h8
     subst h8
     refine Qh (Q0 (Qc (z0 J (zx (Kd J J J J (by omega)) J (zx (q_aidx J J J J (by omega)) J ?_)))));refine Q5 J J J J J J J J (Qe (Q1 (Q0 (zy (z0 J ?_)))));refine zx (Qw (b := true) J J J J (by decide)) J ?_;refine zz (Qm J (Qc (z1 J (Qe (Q1 (Q0 (Qc (z0 J (z7 J (by omega) (z1 J ?_))))))))));refine zz ?_
     exact ⟨w - (c + 1),by omega,_,⟨c + 1,((true,sb,sc,sd),true),by omega,hcn.trans (by simp [tileM]),J⟩,W_gj [0,1] J⟩
   ·refine Qh (Q0 (Qd (Qk (zy (z0 rfl ?_)))))
    refine zx (Zx (b := true) J J J J (by decide)) J ?_;refine z0 J (z5 J (z0 J (z5 J ?_)));refine zx (q_leqK (b := true) J J J J (by decide)) J ?_;refine zpT J (z1 J (zz (Qm J (Qd (zy (z0 J (zx (Kd J J J J (by omega)) J (zx (q_aidx J J J J (by omega)) J (z3 J ?_)))))))));refine zz ?_
    refine Xb J (fun h8 => ?_) (fun h8 => ?_)
    ·have h8 : sb = true := h8
     subst h8
     refine zy (z1 J (zz (Xa (T_r (B_r (T_r (B_r (T_r (T_r ?_)))))))));refine B_r (B_r (T_r (T_r (B_r (T_r (F_r ?_))))))
     exact Xp J J (X6 [] (by decide) J J (Xk (hbad (hcn.trans (by simp [tileM]))).symm))
    ·have h8 : sb = false := h8
     subst h8
     refine Qh (Q0 (Qc (z0 J (zx (Kd J J J J (by omega)) J (zx (q_aidx J J J J (by omega)) J ?_)))));refine Q5 J J J J J J J J (Qe (Q1 (Q0 (zy (z0 J ?_)))));refine zx (Qw (b := true) J J J J (by decide)) J ?_;refine zz (Qm J (Qc (z1 J (Qe (Q1 (Q0 (Qc (z0 J (z7 J (by omega) (z1 J ?_))))))))));refine zz ?_
     exact ⟨w - (c + 1),by omega,_,⟨c + 1,((sa,true,sc,sd),true),by omega,hcn.trans (by simp [tileM]),J⟩,W_gj [0,1] J⟩
   ·refine Qh (Q0 (Qd (Qk (zy (z0 rfl ?_)))))
    refine zx (Zx (b := true) J J J J (by decide)) J ?_;refine z0 J (z5 J (z0 J (z5 J ?_)));refine zx (q_leqK (b := true) J J J J (by decide)) J ?_;refine zpT J (z1 J (zz (Qm J (Qd (zy (z0 J (zx (Kd J J J J (by omega)) J (zx (q_aidx J J J J (by omega)) J (z3 J ?_)))))))));refine zz ?_
    refine Xb J (fun h8 => ?_) (fun h8 => ?_)
    ·have h8 : sc = true := h8
     subst h8
     refine zy (z1 J (zz (Xa (T_r (B_r (T_r (B_r (T_r (T_r ?_)))))))));refine B_r (B_r (T_r (T_r (B_r (T_r (F_r ?_))))))
     exact Xp J J (X6 [] (by decide) J J (Xk (hbad (hcn.trans (by simp [tileM]))).symm))
    ·have h8 : sc = false := h8
     subst h8
     refine Qh (Q0 (Qc (z0 J (zx (Kd J J J J (by omega)) J (zx (q_aidx J J J J (by omega)) J ?_)))));refine Q5 J J J J J J J J (Qe (Q1 (Q0 (zy (z0 J ?_)))));refine zx (Qw (b := true) J J J J (by decide)) J ?_;refine zz (Qm J (Qc (z1 J (Qe (Q1 (Q0 (Qc (z0 J (z7 J (by omega) (z1 J ?_))))))))));refine zz ?_
     exact ⟨w - (c + 1),by omega,_,⟨c + 1,((sa,sb,true,sd),true),by omega,hcn.trans (by simp [tileM]),J⟩,W_gj [0,1] J⟩
   ·refine Qh (Q0 (Qd (Qk (zy (z0 rfl ?_)))))
    refine zx (Zx (b := true) J J J J (by decide)) J ?_;refine z0 J (z5 J (z0 J (z5 J ?_)));refine zx (q_leqK (b := true) J J J J (by decide)) J ?_;refine zpT J (z1 J (zz (Qm J (Qd (zy (z0 J (zx (Kd J J J J (by omega)) J (zx (q_aidx J J J J (by omega)) J (z3 J ?_)))))))));refine zz ?_
    refine Xb J (fun h8 => ?_) (fun h8 => ?_)
    ·have h8 : sd = true := h8
     subst h8
     refine zy (z1 J (zz (Xa (T_r (B_r (T_r (B_r (T_r (T_r ?_)))))))));refine B_r (B_r (T_r (T_r (B_r (T_r (F_r ?_))))))
     exact Xp J J (X6 [] (by decide) J J (Xk (hbad (hcn.trans (by simp [tileM]))).symm))
    ·have h8 : sd = false := h8
     subst h8
     refine Qh (Q0 (Qc (z0 J (zx (Kd J J J J (by omega)) J (zx (q_aidx J J J J (by omega)) J ?_)))));refine Q5 J J J J J J J J (Qe (Q1 (Q0 (zy (z0 J ?_)))));refine zx (Qw (b := true) J J J J (by decide)) J ?_;refine zz (Qm J (Qc (z1 J (Qe (Q1 (Q0 (Qc (z0 J (z7 J (by omega) (z1 J ?_))))))))));refine zz ?_
     exact ⟨w - (c + 1),by omega,_,⟨c + 1,((sa,sb,sc,true),true),by omega,hcn.trans (by simp [tileM]),J⟩,W_gj [0,1] J⟩
   ·refine Qh (Q0 (Qd (Qk (zy (z0 rfl ?_)))))
    refine zx (Zx (b := true) J J J J (by decide)) J ?_;refine z0 J (z5 J (z0 J (z5 J ?_)));refine zx (q_leqK (b := false) J J J J (by decide)) J ?_;refine zpT J (z1 J (zz (Ql J (zy (z0 J ?_)))));refine zx (Qw (b := true) J J J J (by decide)) J ?_;refine z0 J (z5 J (z0 J (z5 J ?_)));refine zx (Qw (b := false) J J J J (by decide)) J ?_;refine zpT J (z0 J (z6 J (z6 J (zpF J (z1 J (zz (Ql J (Qh (Q1 (Q0 ?_))))))))));refine zy (z0 J ?_);refine zx (Qw (b := true) J J J J (by decide)) J ?_;refine zz (Qm J (Qc (z1 J (Qe (Q1 (Q0 (Qc (z0 J (z7 J (by omega) (z1 J ?_))))))))));refine zz ?_
    exact ⟨w - (c + 1),by omega,_,⟨c + 1,((sa,sb,sc,sd),true),by omega,hcn.trans (by simp [tileM]),J⟩,W_gj [0,1] J⟩
   ·refine Qh (Q0 (Qd (Qk (zy (z0 rfl ?_)))))
    refine zx (Zx (b := false) J J J J (by decide)) J ?_;refine z0 J (z6 J (z6 J (zpF J (z1 J (zz (Ql J (zy (z0 J ?_))))))));refine zx (Qw (b := true) J J J J (by decide)) J ?_;refine z0 J (z5 J (z0 J (z5 J ?_)));refine zx (Qw (b := true) J J J J (by decide)) J ?_;refine zpT J (z0 J (z5 J (z0 J (z5 J ?_))));refine zx (Qw (b := false) J J J J (by decide)) J ?_;refine zpT J (z1 J (zz (Ql J (Qh (Q1 (Q0 (zy (z0 J ?_))))))));refine zx (Qw (b := true) J J J J (by decide)) J ?_;refine zz (Qm J (Qc (z1 J (Qe (Q1 (Q0 (Qc (z0 J (z7 J (by omega) (z1 J ?_))))))))));refine zz ?_
    exact ⟨w - (c + 1),by omega,_,⟨c + 1,((sa,sb,sc,sd),true),by omega,hcn.trans (by simp [tileM]),J⟩,W_gj [0,1] J⟩
   ·refine Qh (Q0 (Qd (Qk (zy (z0 rfl (zx (q_geq J J J J) rfl ?_))))))
    refine z0 J ?_;refine zx (Qt.grdT J J J .stop (fun hgrd => Qa J J J)) J ?_;refine zx (Qt.grdT J J J (.hit .stop) (fun hgrd => q_leq J J J J)) J ?_;refine zx (Zj J J J J) J (z1 J (zz ?_))
    refine Xb J (fun h8 => ?_) (fun h8 => ?_)
    ·simp only [Bool.and_eq_true,decide_eq_true_eq] at h8
     omega
    refine zy (z0 J (zx (Z7 J J J J) J (z0 J ?_)));refine zx (Qt.grdT J J J .stop (fun hgrd => Qa J J J)) J ?_;refine zx (Qt.grdT J J J (.hit .stop) (fun hgrd => Z7 J J J J)) J ?_;refine zx (Zj J J J J) J (z0 J ?_);refine zx (Qt.grdT J J J .stop (fun hgrd => Qa J J J)) J ?_;refine zx (Qt.grdT J J J (.hit .stop) (fun hgrd => Z7 J J J J)) J ?_;refine zx (Zj J J J J) J (z1 J (zz ?_))
    refine Xb J (fun h9 => ?_) (fun h9 => ?_)
    ·refine zy (z1 rfl (zz (Xa (B_r (T_r (B_r (T_r ?_)))))))
     refine T_r (B_r (B_r (T_r (T_r (B_r (T_r (F_r ?_)))))))
     exact Xp J J (X6 [] (by decide) J J (Xk (hbad (hcn.trans (by simp [tileM,ht7]))).symm))
    ·simp only [Bool.and_eq_false_iff,decide_eq_false_iff_not,Classical.not_not] at h9
     omega
  ·have h5 : c = w := by have := of_decide_eq_false h5; omega
   rw [h5] at hp_D
   rw [hp_D] at hrn
   refine Q9 (T_x (T_x (Xl (Q1 (Q0 (Qc (z7 J (by omega) (z0 J (zz ?_)))))))))
   exact ⟨rows.length - (k + 1),by omega,_,⟨k + 1,u,by omega,hrn,J⟩,W_gj [0,1] J⟩
 ·have h3 : ¬ ((k : Int) < (els rows).length) := of_decide_eq_false h
  have hk : k = rows.length := by omega
  subst hk
  refine Q9 (T_x (T_x (Xl (Q0 (zy (z0 J (z1 J (zz (Xa ?_)))))))));refine F_r ?_
  exact Xp J J (X6 [] (by decide) J J (Xk (by
   unfold levelOk
   rw [hw,hp_A]
   have : 3 ≤ rows.length ∧ rows.length ≤ 12 ∧ 4 ≤ w ∧ w ≤ 20 := by omega
   simp [this])))
end
section
open Go.RowKit

theorem S_LevelOk (x : TLevel) (hg : Enc.gd x) : Con Tryz.prog 94 [] [ag x] [] (B (levelOk x)) := by
 obtain ⟨rows⟩ := x
 have hn : Enc.gd rows := hg
 have hn1 := hn.1
 have hlx := Yq rows
 refine Con.of Tryz.func94 J Tryz.ntmps94 J (fun E => ?_)
 refine zy (M1 (Qq J J J J) J J (z1 J (zz (Qd (zy (z2 J J J (z3 J (zx (Z0 J J J) J ?_))))))));refine zx (Qj J J (S_in (els rows).length 3 12) J) J ?_;refine zn J (zz ?_)
 refine Xb J (fun h => ?_) (fun h => ?_)
 ·refine zy (z1 rfl (zz (Xa (T_r (F_r ?_)))))
  exact Xp J J (X6 [] (by decide) J J (Xk (by simp [inR] at h; simp [levelOk]; omega)))
 have h : 3 ≤ rows.length ∧ rows.length ≤ 12 := by simp [inR] at h; omega
 have h0 : 0 < rows.length := by omega
 have hat0 : (els rows)[(0 : Int).toNat]? = some (Enc.e rows[0]) := Yo h0
 have hw := width_at h0
 obtain ⟨w,hw'⟩ : ∃ w,w = rows[0].size := ⟨_,rfl⟩
 rw [← hw'] at hw
 have hg0 : rows[0].size ≤ 9223372036854775807 := hn.2 _ (List.getElem_mem h0)
 refine Qh (Q0 (zy (z2 J J J (z3 J (zx (Q2 J J J J (by omega) (by assumption) J) J (zx (Z4 J J J J) J (zx (Z3 J J J) J (z1 J (zz ?_)))))))));refine zy (z1 J (zz (zy (M1 (Zm J J J J J J) J J (z1 J (zz (Qd ?_)))))));refine zy (z1 J (zz (Qk ?_)));refine A_lq (fun m st => ∃ (k : Nat) (s : Seen × Bool),k + m = rows.length ∧ (rowsM rows w k = some s ∧ (0 < k → 4 ≤ w ∧ w ≤ 20)) ∧ st = (⟨_,[(1,.o (.c (.ptr 0 0))),(3,I w),(4,B s.2),(5,.o (.c (.sb 1 4 1))),(6,I k)],[.box [.rd [] (sl rows)],.box [vb s.1.1,vb s.1.2.1,vb s.1.2.2.1,vb s.1.2.2.2]]⟩ : St)) (rows.length) ⟨(fun (k : Nat) (s : Seen × Bool) => (⟨_,[(1,.o (.c (.ptr 0 0))),(3,I w),(4,B s.2),(5,.o (.c (.sb 1 4 1))),(6,I k)],[.box [.rd [] (sl rows)],.box [vb s.1.1,vb s.1.2.1,vb s.1.2.2.1,vb s.1.2.2.2]]⟩ : St)) 0 (((false,false,false,false),false)),⟨0,((false,false,false,false),false),by omega,⟨J,by omega⟩,J⟩,X8 [0,1] (by decide) J (J) (.c J (.cons (Xx (by omega)) (.c J (.c J (.c J (.nil))))))⟩ ?_
 rintro m_A _ ⟨k,s,hk_A,hp_A,rfl⟩
 refine Qd (zy (z0 J (z2 J J J (z3 J (zx (Z0 J J J) J (zx (Z5 J J J J) J (zz ?_)))))))
 refine Xb J (fun h => ?_) (fun h => ?_)
 ·have h3 : k < rows.length := by have := of_decide_eq_true h; omega
  have hat := Yo h3
  have hwc : ((rows[0].size : Nat) : Int) = w := by omega
  have hgk : rows[k].size ≤ 9223372036854775807 := hn.2 _ (List.getElem_mem h3)
  refine Qh (Q0 (Qd (Qk (Qd (zy (z2 J J J (z3 J (z0 J (zx (Q2 J J J J (by omega) (by assumption) J) J (zx (Z4 J J J J) J ?_))))))))));refine zx (Z3 J J J) J (z0 J (zx (Z7 J J J J) J (z0 J ?_)));refine zx (Qt.grdF J J J .stop (fun hgrd => Qa J J J)) J ?_;refine zx (Qt.grdF J J J (.hit .stop) (fun hgrd => Qj J J (S_in w 4 20) J)) J ?_;refine zx (Qt.grdF J J J (.hit (.hit .stop)) (fun hgrd => Q4 J J J)) J ?_;refine zx (Z8 J J J J) J (zz ?_)
  refine Xb J (fun h4 => ?_) (fun h4 => ?_)
  ·simp only [Bool.or_eq_true,decide_eq_true_eq,Bool.not_eq_true',inR,Bool.and_eq_false_iff,decide_eq_false_iff_not] at h4
   refine zy (z1 J (zz (Xa (T_r (B_r (T_r (T_r (B_r (T_r ?_)))))))));refine F_r ?_
   refine Xp J J (X6 [] (by decide) J J (Xk ?_))
   by_cases h4' : rows[k].size = w
   ·have : ¬ (4 ≤ w ∧ w ≤ 20) := by omega
    simp only [levelOk,hw]
    rcases Nat.lt_or_ge w 4 with h9 | h9
    ·simp [show ¬ 4 ≤ w by omega]
    ·simp [show ¬ w ≤ 20 by omega]
   ·exact (level_no (l := ⟨rows⟩) h3 hw (rows_bad h3 h4')).symm
  simp only [Bool.or_eq_false_iff,decide_eq_false_iff_not,Bool.not_eq_false',inR,Bool.and_eq_true,decide_eq_true_eq] at h4
  have h1 : 4 ≤ w ∧ w ≤ 20 := by omega
  have h4 : rows[k].size = w := by omega
  have hrn := rows_next hp_A.1 h3 h4
  obtain ⟨er,her⟩ : ∃ er,er = (decide (k = 0) || decide (k + 1 = rows.length)) := ⟨_,rfl⟩
  rw [← her] at hrn
  refine Qh (Q0 (zy (z1 J (zz (Qk ?_)))));refine A_lq (fun m st => ∃ (c : Nat) (u : Seen × Bool),c + m = w ∧ (colsM rows[k] er w s c = some u) ∧ st = (⟨_,[(1,.o (.c (.ptr 0 0))),(3,I w),(4,B u.2),(5,.o (.c (.sb 1 4 1))),(6,I k),(7,I c)],[.box [.rd [] (sl rows)],.box [vb u.1.1,vb u.1.2.1,vb u.1.2.2.1,vb u.1.2.2.2]]⟩ : St)) (w) ⟨_,⟨0,s,by omega,J,J⟩,W_gj [0,1] J⟩ ?_
  rintro m_D _ ⟨c,u,hk_D,hp_D,rfl⟩
  refine Qd (zy (z0 J (z0 J (zx (Z5 J J J J) J (zz ?_)))))
  refine Xb J (fun h5 => ?_) (fun h5 => ?_)
  ·have h5 : c < w := by have := of_decide_eq_true h5; omega
   have hcn := cols_next hp_D
   obtain ⟨t,ht⟩ : ∃ t,byteAt rows[k] (c : Int).toNat = t := ⟨_,rfl⟩
   rw [show byteAt rows[k] c = t from ht] at hcn
   have htb : 0 ≤ t ∧ t ≤ 255 := ht ▸ Yj _ _
   obtain ⟨⟨sa,sb,sc,sd⟩,so⟩ := u
   obtain ⟨e,he⟩ : ∃ e,e = (er || decide (c = 0) || decide (c + 1 = w)) := ⟨_,rfl⟩
   rw [← he] at hcn
   refine Qh (Q0 (Qd (Qk (zy (z2 J J J (z3 J (z0 J (zx (Q2 J J J J (by omega) (by assumption) J) J (zx (Z4 J J J J) J (z0 J ?_))))))))));refine zx (Zr J J J J (by assumption) (by omega)) J (z1 J (zz (zy (z0 J (zx (Zu J J J J) J (z0 J ?_))))));refine zx (Qt.grdF J J J .stop (fun hgrd => Qa J J J)) J ?_;refine zx (Qt.grdF J J J (.hit .stop) (fun hgrd => Zu J J J J)) J ?_;refine zx (Z8 J J J J) J (z0 J ?_);refine zx (Qt.grdF J J J .stop (fun hgrd => Qa J J J)) J ?_;refine zx (Qt.grdF J J J (.hit .stop) (fun hgrd => Qf J J J J (by decide))) J ?_;refine zx (Qt.grdF J J J (.hit (.hit .stop)) (fun hgrd => Qg J J J J J)) J ?_;refine zx (Qt.grdF J J J (.hit (.hit (.hit .stop))) (fun hgrd => Z0 J J J)) J ?_;refine zx (Qt.grdF J J J (.hit (.hit (.hit (.hit .stop)))) (fun hgrd => Xc J J J J (by omega))) J ?_;refine zx (Qt.grdF J J J (.hit (.hit (.hit (.hit (.hit .stop))))) (fun hgrd => Zu J J J J)) J ?_;refine zx (Z8 J J J J) J (z0 J ?_);refine zx (Qt.grdF J J J .stop (fun hgrd => Qa J J J)) J ?_;refine zx (Qt.grdF J J J (.hit .stop) (fun hgrd => Qa J J J)) J ?_;refine zx (Qt.grdF J J J (.hit (.hit .stop)) (fun hgrd => Xc J J J J (by omega))) J ?_;refine zx (Qt.grdF J J J (.hit (.hit (.hit .stop))) (fun hgrd => Zu J J J J)) J ?_;refine zx (Z8 J J J J) J (z1 J (zz (Qd (Qk (zy (z0 J (zx (Zu J J J J) J (z1 J (Qe ?_)))))))));refine Q0 ?_
   have hee : (decide ((k : Int) = 0) || decide ((c : Int) = 0) || decide ((k : Int) = ((els rows).length : Int) - 1) || decide ((c : Int) = (w : Int) - 1)) = e := by
    rw [he,her,hlx]
    have g1 : decide ((k : Int) = 0) = decide (k = 0) := by simp
    have g2 : decide ((k : Int) = (rows.length : Int) - 1) = decide (k + 1 = rows.length) := decide_eq_decide.2 (by omega)
    have g3 : decide ((c : Int) = 0) = decide (c = 0) := by simp
    have g4 : decide ((c : Int) = (w : Int) - 1) = decide (c + 1 = w) := decide_eq_decide.2 (by omega)
    rw [g1,g2,g3,g4]
    cases decide (k = 0) <;> cases decide (c = 0) <;> cases decide (k + 1 = rows.length) <;> rfl
   clear he her
   have hbad : colsM rows[k] er w s (c + 1) = none → levelOk ⟨rows⟩ = false := fun hc => level_no (l := ⟨rows⟩) h3 hw (hrn.trans (cols_none hc (by omega)))
   refine AWP.pre (st' := (⟨_,[(1,.o (.c (.ptr 0 0))),(3,I w),(4,B so),(5,.o (.c (.sb 1 4 1))),(6,I k),(7,I c),(8,VI .u8 t),(9,B e),(73,B (decide (t = 35)))],[.box [.rd [] (sl rows)],.box [vb sa,vb sb,vb sc,vb sd]]⟩ : St)) ?_ (X8 [0,1] (by decide) J (J) (.c J (.c J (.c J (.c J (.c J (.c J (.c J (.cons (Xk hee) (.c J (.nil)))))))))))
   by_cases h7 : t = 35
   ·subst h7
    refine Qm J (Qh (Q1 (Q0 (Qc (z0 J (z0 J ?_))))));refine zx (Qt.grdF J J J .stop (fun hgrd => Qa J J J)) J ?_;refine zx (Qt.grdF J J J (.hit .stop) (fun hgrd => Qw (b := false) J J J J (by decide))) J ?_;refine zx (Z8 J J J J) J (z1 J (Qe (Q1 (Q0 (Qc (z0 J (z7 J (by omega) (z1 J (zz ?_)))))))))
    exact ⟨w - (c + 1),by omega,(fun (c : Nat) (u : Seen × Bool) => (⟨_,[(1,.o (.c (.ptr 0 0))),(3,I w),(4,B u.2),(5,.o (.c (.sb 1 4 1))),(6,I k),(7,I c)],[.box [.rd [] (sl rows)],.box [vb u.1.1,vb u.1.2.1,vb u.1.2.2.1,vb u.1.2.2.2]]⟩ : St)) (c + 1) (((sa,sb,sc,sd),so)),⟨c + 1,((sa,sb,sc,sd),so),by omega,hcn.trans (by simp [tileM]),J⟩,X8 [0,1] (by decide) J (J) (.c J (.c J (.cons (Xk (by simp)) (.c J (.c J (.c J (.nil)))))))⟩
   cases e
   case true =>
    have f1 : decide (t = 35) = false := decide_eq_false h7
    refine Xb J (fun h => absurd (of_decide_eq_true h) h7) (fun _ => ?_)
    refine zy (z0 J (z0 J (z6 J (z6 J (z6 J (zx (Qt.no2 J J J) J (zx (Qt.no2 J J J) J (z6 J (z6 J (zx (Qt.no2 J J J) J ?_))))))))));refine zx (Qt.no2 J J J) J (zx (Qt.no2 J J J) J (zx (Qt.no2 J J J) J (zx (Qt.no2 J J J) J (zx (Qt.no2 J J J) J (z6 J (zpT J (z1 J (zz (Qm J (Qd ?_))))))))));refine Qc (z1 J (zz (Xa (B_r (T_r (B_r (T_r (T_r (B_r (B_r ?_))))))))));refine T_r (T_r (B_r (T_r (F_r ?_))))
    exact Xp J J (X6 [] (by decide) J J (Xk (hbad (hcn.trans (by simp [tileM,h7]))).symm))
   refine Xb J (fun h => absurd (of_decide_eq_true h) h7) (fun _ => ?_)
   rcases (by omega : t = 49 ∨ t = 50 ∨ t = 51 ∨ t = 52 ∨ t = 111 ∨ t = 46 ∨ (t ≠ 35 ∧ t ≠ 49 ∧ t ≠ 50 ∧ t ≠ 51 ∧ t ≠ 52 ∧ t ≠ 111 ∧ t ≠ 46)) with rfl | rfl | rfl | rfl | rfl | rfl | ht7
   ·refine zy (z0 rfl (z0 rfl (z5 rfl ?_)))
    refine z0 J (z5 J ?_);refine zx (Qw (b := true) J J J J (by decide)) J ?_;refine z5 J (z0 J (z5 J (z0 J (z5 J ?_))));refine zx (Qw (b := true) J J J J (by decide)) J ?_;refine z5 J (zpT J (z5 J (z0 J (z5 J (z0 J (z5 J (z9a J (by assumption) (z5 J (z0 J (z5 J (z0 J ?_)))))))))));refine z5 J (z9c J (by assumption) (z5 J (zpF J (z5 J (zpT J (zpF J (z1 J (zz (Ql J (Qd ?_))))))))));refine Qc (z0 J ?_);refine zx (Zx (b := true) J J J J (by decide)) J ?_;refine z0 J (z5 J (z0 J (z5 J ?_)));refine zx (q_leqK (b := true) J J J J (by decide)) J ?_;refine zpT J (z1 J (zz (Qm J (Qd (zy (z0 J (z0 J (zx (Kd J J J J (by omega)) J (zx (q_sbat J J J J (by omega)) J ?_)))))))));refine z3 J (zz ?_)
    refine Xb J (fun h8 => ?_) (fun h8 => ?_)
    ·have h8 : sa = true := h8
     subst h8
     refine zy (z1 J (zz (Xa (T_r (B_r (T_r (B_r (T_r (T_r ?_)))))))));refine B_r (B_r (T_r (T_r (B_r (T_r (F_r ?_))))))
     exact Xp J J (X6 [] (by decide) J J (Xk (hbad (hcn.trans (by simp [tileM]))).symm))
    ·have h8 : sa = false := h8
     subst h8
     refine Qh (Q0 (Qc (z0 J (z0 J (zx (Kd J J J J (by omega)) J (zx (q_sbat J J J J (by omega)) J ?_))))));refine Q5 J J J J J J J J (Qe (Q1 (Q0 (Qc (z0 J (z0 J ?_))))));refine zx (Qt.grdF J J J .stop (fun hgrd => Qa J J J)) J ?_;refine zx (Qt.grdF J J J (.hit .stop) (fun hgrd => Qw (b := true) J J J J (by decide))) J ?_;refine zx (Z8 J J J J) J (z1 J (Qe (Q1 (Q0 (Qc (z0 J (z7 J (by omega) (z1 J (zz ?_)))))))))
     exact ⟨w - (c + 1),by omega,(fun (c : Nat) (u : Seen × Bool) => (⟨_,[(1,.o (.c (.ptr 0 0))),(3,I w),(4,B u.2),(5,.o (.c (.sb 1 4 1))),(6,I k),(7,I c)],[.box [.rd [] (sl rows)],.box [vb u.1.1,vb u.1.2.1,vb u.1.2.2.1,vb u.1.2.2.2]]⟩ : St)) (c + 1) (((true,sb,sc,sd),true)),⟨c + 1,((true,sb,sc,sd),true),by omega,hcn.trans (by simp [tileM]),J⟩,X8 [0,1] (by decide) J (J) (.c J (.c J (.cons (Xk (by simp)) (.c J (.c J (.c J (.nil)))))))⟩
   ·refine zy (z0 rfl (z0 rfl (z5 rfl ?_)))
    refine z0 J (z5 J ?_);refine zx (Qw (b := true) J J J J (by decide)) J ?_;refine z5 J (z0 J (z5 J (z0 J (z5 J ?_))));refine zx (Qw (b := true) J J J J (by decide)) J ?_;refine z5 J (zpT J (z5 J (z0 J (z5 J (z0 J (z5 J (z9a J (by assumption) (z5 J (z0 J (z5 J (z0 J ?_)))))))))));refine z5 J (z9c J (by assumption) (z5 J (zpF J (z5 J (zpT J (zpF J (z1 J (zz (Ql J (Qd ?_))))))))));refine Qc (z0 J ?_);refine zx (Zx (b := true) J J J J (by decide)) J ?_;refine z0 J (z5 J (z0 J (z5 J ?_)));refine zx (q_leqK (b := true) J J J J (by decide)) J ?_;refine zpT J (z1 J (zz (Qm J (Qd (zy (z0 J (z0 J (zx (Kd J J J J (by omega)) J (zx (q_sbat J J J J (by omega)) J ?_)))))))));refine z3 J (zz ?_)
    refine Xb J (fun h8 => ?_) (fun h8 => ?_)
    ·have h8 : sb = true := h8
     subst h8
     refine zy (z1 J (zz (Xa (T_r (B_r (T_r (B_r (T_r (T_r ?_)))))))));refine B_r (B_r (T_r (T_r (B_r (T_r (F_r ?_))))))
     exact Xp J J (X6 [] (by decide) J J (Xk (hbad (hcn.trans (by simp [tileM]))).symm))
    ·have h8 : sb = false := h8
     subst h8
     refine Qh (Q0 (Qc (z0 J (z0 J (zx (Kd J J J J (by omega)) J (zx (q_sbat J J J J (by omega)) J ?_))))));refine Q5 J J J J J J J J (Qe (Q1 (Q0 (Qc (z0 J (z0 J ?_))))));refine zx (Qt.grdF J J J .stop (fun hgrd => Qa J J J)) J ?_;refine zx (Qt.grdF J J J (.hit .stop) (fun hgrd => Qw (b := true) J J J J (by decide))) J ?_;refine zx (Z8 J J J J) J (z1 J (Qe (Q1 (Q0 (Qc (z0 J (z7 J (by omega) (z1 J (zz ?_)))))))))
     exact ⟨w - (c + 1),by omega,(fun (c : Nat) (u : Seen × Bool) => (⟨_,[(1,.o (.c (.ptr 0 0))),(3,I w),(4,B u.2),(5,.o (.c (.sb 1 4 1))),(6,I k),(7,I c)],[.box [.rd [] (sl rows)],.box [vb u.1.1,vb u.1.2.1,vb u.1.2.2.1,vb u.1.2.2.2]]⟩ : St)) (c + 1) (((sa,true,sc,sd),true)),⟨c + 1,((sa,true,sc,sd),true),by omega,hcn.trans (by simp [tileM]),J⟩,X8 [0,1] (by decide) J (J) (.c J (.c J (.cons (Xk (by simp)) (.c J (.c J (.c J (.nil)))))))⟩
   ·refine zy (z0 rfl (z0 rfl (z5 rfl ?_)))
    refine z0 J (z5 J ?_);refine zx (Qw (b := true) J J J J (by decide)) J ?_;refine z5 J (z0 J (z5 J (z0 J (z5 J ?_))));refine zx (Qw (b := true) J J J J (by decide)) J ?_;refine z5 J (zpT J (z5 J (z0 J (z5 J (z0 J (z5 J (z9a J (by assumption) (z5 J (z0 J (z5 J (z0 J ?_)))))))))));refine z5 J (z9c J (by assumption) (z5 J (zpF J (z5 J (zpT J (zpF J (z1 J (zz (Ql J (Qd ?_))))))))));refine Qc (z0 J ?_);refine zx (Zx (b := true) J J J J (by decide)) J ?_;refine z0 J (z5 J (z0 J (z5 J ?_)));refine zx (q_leqK (b := true) J J J J (by decide)) J ?_;refine zpT J (z1 J (zz (Qm J (Qd (zy (z0 J (z0 J (zx (Kd J J J J (by omega)) J (zx (q_sbat J J J J (by omega)) J ?_)))))))));refine z3 J (zz ?_)
    refine Xb J (fun h8 => ?_) (fun h8 => ?_)
    ·have h8 : sc = true := h8
     subst h8
     refine zy (z1 J (zz (Xa (T_r (B_r (T_r (B_r (T_r (T_r ?_)))))))));refine B_r (B_r (T_r (T_r (B_r (T_r (F_r ?_))))))
     exact Xp J J (X6 [] (by decide) J J (Xk (hbad (hcn.trans (by simp [tileM]))).symm))
    ·have h8 : sc = false := h8
     subst h8
     refine Qh (Q0 (Qc (z0 J (z0 J (zx (Kd J J J J (by omega)) J (zx (q_sbat J J J J (by omega)) J ?_))))));refine Q5 J J J J J J J J (Qe (Q1 (Q0 (Qc (z0 J (z0 J ?_))))));refine zx (Qt.grdF J J J .stop (fun hgrd => Qa J J J)) J ?_;refine zx (Qt.grdF J J J (.hit .stop) (fun hgrd => Qw (b := true) J J J J (by decide))) J ?_;refine zx (Z8 J J J J) J (z1 J (Qe (Q1 (Q0 (Qc (z0 J (z7 J (by omega) (z1 J (zz ?_)))))))))
     exact ⟨w - (c + 1),by omega,(fun (c : Nat) (u : Seen × Bool) => (⟨_,[(1,.o (.c (.ptr 0 0))),(3,I w),(4,B u.2),(5,.o (.c (.sb 1 4 1))),(6,I k),(7,I c)],[.box [.rd [] (sl rows)],.box [vb u.1.1,vb u.1.2.1,vb u.1.2.2.1,vb u.1.2.2.2]]⟩ : St)) (c + 1) (((sa,sb,true,sd),true)),⟨c + 1,((sa,sb,true,sd),true),by omega,hcn.trans (by simp [tileM]),J⟩,X8 [0,1] (by decide) J (J) (.c J (.c J (.cons (Xk (by simp)) (.c J (.c J (.c J (.nil)))))))⟩
   ·refine zy (z0 rfl (z0 rfl (z5 rfl ?_)))
    refine z0 J (z5 J ?_);refine zx (Qw (b := true) J J J J (by decide)) J ?_;refine z5 J (z0 J (z5 J (z0 J (z5 J ?_))));refine zx (Qw (b := true) J J J J (by decide)) J ?_;refine z5 J (zpT J (z5 J (z0 J (z5 J (z0 J (z5 J (z9a J (by assumption) (z5 J (z0 J (z5 J (z0 J ?_)))))))))));refine z5 J (z9c J (by assumption) (z5 J (zpF J (z5 J (zpT J (zpF J (z1 J (zz (Ql J (Qd ?_))))))))));refine Qc (z0 J ?_);refine zx (Zx (b := true) J J J J (by decide)) J ?_;refine z0 J (z5 J (z0 J (z5 J ?_)));refine zx (q_leqK (b := true) J J J J (by decide)) J ?_;refine zpT J (z1 J (zz (Qm J (Qd (zy (z0 J (z0 J (zx (Kd J J J J (by omega)) J (zx (q_sbat J J J J (by omega)) J ?_)))))))));refine z3 J (zz ?_)
    refine Xb J (fun h8 => ?_) (fun h8 => ?_)
    ·have h8 : sd = true := h8
     subst h8
     refine zy (z1 J (zz (Xa (T_r (B_r (T_r (B_r (T_r (T_r ?_)))))))));refine B_r (B_r (T_r (T_r (B_r (T_r (F_r ?_))))))
     exact Xp J J (X6 [] (by decide) J J (Xk (hbad (hcn.trans (by simp [tileM]))).symm))
    ·have h8 : sd = false := h8
     subst h8
     refine Qh (Q0 (Qc (z0 J (z0 J (zx (Kd J J J J (by omega)) J (zx (q_sbat J J J J (by omega)) J ?_))))));refine Q5 J J J J J J J J (Qe (Q1 (Q0 (Qc (z0 J (z0 J ?_))))));refine zx (Qt.grdF J J J .stop (fun hgrd => Qa J J J)) J ?_;refine zx (Qt.grdF J J J (.hit .stop) (fun hgrd => Qw (b := true) J J J J (by decide))) J ?_;refine zx (Z8 J J J J) J (z1 J (Qe (Q1 (Q0 (Qc (z0 J (z7 J (by omega) (z1 J (zz ?_)))))))))
     exact ⟨w - (c + 1),by omega,(fun (c : Nat) (u : Seen × Bool) => (⟨_,[(1,.o (.c (.ptr 0 0))),(3,I w),(4,B u.2),(5,.o (.c (.sb 1 4 1))),(6,I k),(7,I c)],[.box [.rd [] (sl rows)],.box [vb u.1.1,vb u.1.2.1,vb u.1.2.2.1,vb u.1.2.2.2]]⟩ : St)) (c + 1) (((sa,sb,sc,true),true)),⟨c + 1,((sa,sb,sc,true),true),by omega,hcn.trans (by simp [tileM]),J⟩,X8 [0,1] (by decide) J (J) (.c J (.c J (.cons (Xk (by simp)) (.c J (.c J (.c J (.nil)))))))⟩
   ·refine zy (z0 rfl (z0 rfl (z5 rfl ?_)))
    refine z0 J (z5 J (z9f J (by assumption) (z5 J (z0 J (z6 J (z6 J (z5 J (zpF J (z5 J (z0 J (z6 J ?_)))))))))));refine z6 J (z6 J (zx (Qt.no2 J J J) J (zx (Qt.no2 J J J) J (z6 J (z5 J (zpF J (zpF J (z1 J (zz (Ql J ?_))))))))));refine zy (z0 J ?_);refine zx (Zx (b := true) J J J J (by decide)) J ?_;refine z0 J (z5 J (z0 J (z5 J (z9b J (by assumption) (zpT J (z1 J (zz (Ql J (Qh (Q1 ?_))))))))));refine Q0 (Qc (z0 J (z0 J ?_)));refine zx (Qt.grdF J J J .stop (fun hgrd => Qa J J J)) J ?_;refine zx (Qt.grdF J J J (.hit .stop) (fun hgrd => Qw (b := true) J J J J (by decide))) J ?_;refine zx (Z8 J J J J) J (z1 J (Qe (Q1 (Q0 (Qc (z0 J (z7 J (by omega) (z1 J (zz ?_)))))))))
    exact ⟨w - (c + 1),by omega,(fun (c : Nat) (u : Seen × Bool) => (⟨_,[(1,.o (.c (.ptr 0 0))),(3,I w),(4,B u.2),(5,.o (.c (.sb 1 4 1))),(6,I k),(7,I c)],[.box [.rd [] (sl rows)],.box [vb u.1.1,vb u.1.2.1,vb u.1.2.2.1,vb u.1.2.2.2]]⟩ : St)) (c + 1) (((sa,sb,sc,sd),true)),⟨c + 1,((sa,sb,sc,sd),true),by omega,hcn.trans (by simp [tileM]),J⟩,X8 [0,1] (by decide) J (J) (.c J (.c J (.cons (Xk (by simp)) (.c J (.c J (.c J (.nil)))))))⟩
   ·refine zy (z0 rfl (z0 rfl (z5 rfl ?_)))
    refine z0 J (z5 J ?_);refine zx (Qw (b := true) J J J J (by decide)) J ?_;refine z5 J (z0 J (z5 J (z0 J (z5 J (z9f J (by assumption) (z5 J (zpT J (z5 J (z0 J (z6 J (z6 J ?_)))))))))));refine z6 J (zx (Qt.no2 J J J) J (zx (Qt.no2 J J J) J (z6 J (z5 J (zpF J (zpF J (z1 J (zz (Ql J (Qd ?_))))))))));refine Qc (z0 J (z9d J (by assumption) (z0 J (z6 J (z6 J (zpF J (z1 J (zz (Ql J (Qh ?_))))))))));refine Q1 (Q0 (Qc (z0 J (z0 J ?_))));refine zx (Qt.grdF J J J .stop (fun hgrd => Qa J J J)) J ?_;refine zx (Qt.grdF J J J (.hit .stop) (fun hgrd => Qw (b := true) J J J J (by decide))) J ?_;refine zx (Z8 J J J J) J (z1 J (Qe (Q1 (Q0 (Qc (z0 J (z7 J (by omega) (z1 J (zz ?_)))))))))
    exact ⟨w - (c + 1),by omega,(fun (c : Nat) (u : Seen × Bool) => (⟨_,[(1,.o (.c (.ptr 0 0))),(3,I w),(4,B u.2),(5,.o (.c (.sb 1 4 1))),(6,I k),(7,I c)],[.box [.rd [] (sl rows)],.box [vb u.1.1,vb u.1.2.1,vb u.1.2.2.1,vb u.1.2.2.2]]⟩ : St)) (c + 1) (((sa,sb,sc,sd),true)),⟨c + 1,((sa,sb,sc,sd),true),by omega,hcn.trans (by simp [tileM]),J⟩,X8 [0,1] (by decide) J (J) (.c J (.c J (.cons (Xk (by simp)) (.c J (.c J (.c J (.nil)))))))⟩
   ·refine zy (z0 rfl (z0 rfl (z5 rfl ?_)))
    refine z0 J (z5 J (zx (Z7 J J J J) J (z5 J (z0 J ?_))));refine zx (Qt.grdT J J J .stop (fun hgrd => Qa J J J)) J ?_;refine zx (Qt.grdT J J J (.hit .stop) (fun hgrd => Z7 J J J J)) J ?_;refine z5 J (zx (Zj J J J J) J (z5 J (z0 J ?_)));refine zx (Qt.grdT J J J .stop (fun hgrd => Qa J J J)) J ?_;refine zx (Qt.grdT J J J (.hit .stop) (fun hgrd => Z5 J J J J)) J ?_;refine zx (Qt.grdT J J J (.hit (.hit .stop)) (fun hgrd => Qa J J J)) J ?_;refine zx (Qt.grd2F J J J (.hit1 (.hit1 (.hit1 .stop))) (fun hgrd hgrd2 => Qa J J J)) J ?_;refine zx (Qt.grd2F J J J (.hit (.hit1 (.hit1 (.hit1 .stop)))) (fun hgrd hgrd2 => Zy J J J J)) J ?_;refine zx (Qt.grdT J J J (.part (.part (.hit (.hit (.hit .stop))))) (fun hgrd => Z8 J J J J)) J ?_;refine z5 J (zx (Zj J J J J) J (zpF J (z1 J (zz ?_))))
    refine Xb J (fun h8 => ?_) (fun h8 => ?_)
    ·refine zy (z1 rfl (zz (Xa (B_r (T_r (B_r (T_r ?_)))))))
     refine T_r (B_r (B_r (T_r (T_r (B_r (T_r (F_r ?_)))))))
     exact Xp J J (X6 [] (by decide) J J (Xk (hbad (hcn.trans (by simp [tileM,ht7]))).symm))
    ·simp only [Bool.and_eq_false_iff,Bool.or_eq_false_iff,Bool.false_or,decide_eq_false_iff_not,Classical.not_not] at h8
     omega
  ·have h5 : c = w := by have := of_decide_eq_false h5; omega
   rw [h5] at hp_D
   rw [hp_D] at hrn
   refine Q9 (T_x (T_x (Xl (Q1 (Q0 (Qc (z0 J (z7 J (by omega) (z1 J (zz ?_))))))))))
   exact ⟨rows.length - (k + 1),by omega,_,⟨k + 1,u,by omega,⟨hrn,fun _ => h1⟩,J⟩,W_gj [0,1] J⟩
 ·have h3 : ¬ ((k : Int) < (els rows).length) := of_decide_eq_false h
  have hk : k = rows.length := by omega
  subst hk
  refine Q9 (T_x (T_x (Xl (Q0 (zy (z0 J (z1 J (zz (Xa ?_)))))))));refine F_r ?_
  exact Xp J J (X6 [] (by decide) J J (Xk (by
   unfold levelOk
   rw [hw,hp_A.1]
   have h1 := hp_A.2 (by omega)
   have : 3 ≤ rows.length ∧ rows.length ≤ 12 ∧ 4 ≤ w ∧ w ≤ 20 := by omega
   simp [this])))
end
section
open Go.RowKit

theorem rowsM_size {rows : List ByteArray} {w : Nat} : ∀ n s,rowsM rows w n = some s → ∀ r,r < n → ∃ row,rows[r]? = some row ∧ row.size = w
 | 0,s,_ => fun r hr => by omega
 | n + 1,s,h => fun r hr => by
  rw [rowsM] at h
  split at h
  ·cases h
  ·rename_i s1 h1
   split at h
   ·cases h
   ·rename_i row hrow
    split at h
    ·rename_i hw
     by_cases e : r = n
     ·subst e; exact ⟨row,hrow,hw⟩
     ·exact rowsM_size n s1 h1 r (by omega)
    ·cases h
theorem Y7 {l : TLevel} (h : levelOk l = true) : 3 ≤ l.Rows.length ∧ l.Rows.length ≤ 12 ∧ ∃ w,4 ≤ w ∧ w ≤ 20 ∧ ∀ (r : Nat) (hr : r < l.Rows.length),(l.Rows[r]).size = w := by
 unfold levelOk at h
 simp only [Bool.and_eq_true,decide_eq_true_eq] at h
 obtain ⟨⟨⟨⟨h1,h2⟩,h3⟩,h4⟩,h5⟩ := h
 refine ⟨h1,h2,widthM l.Rows,h3,h4,fun r hr => ?_⟩
 split at h5
 ·rename_i s hs
  obtain ⟨row,h6,h7⟩ := rowsM_size _ s hs r hr
  rw [List.getElem?_eq_getElem hr] at h6
  simp only [Option.some.injEq] at h6
  rw [h6]; exact h7
 ·cases h5
def sizeOf (k : Int) : Int := if k = 0 then 12 else if k = 1 then 4 else if k = 2 then 8 else 0
theorem I_SizeOf (k : Int) : Con Tryz.prog 144 [] [ai k] [] (I (sizeOf k)) := by
 by_cases h0 : k = 0
 ·have hb : decide (k = 0) = true := decide_eq_true h0
  rw [show sizeOf k = 12 by rw [sizeOf,if_pos h0]]
  refine Con.of Tryz.func144 J Tryz.ntmps144 J (fun E => ?_)
  refine zy (z1 J (zz (Qd (zy (z0 J (zz (Qk ?_)))))));refine zy (z9e J (by assumption) (z1 J (zz (Qm J (zy (z1 J (zz ?_)))))));refine Xa (B_r (T_r (F_r ?_)))
  exact Xp J J (X6 [] (by decide) J J J)
 have hb0 : decide (k = 0) = false := decide_eq_false h0
 by_cases h1 : k = 1
 ·have hb : decide (k = 1) = true := decide_eq_true h1
  rw [show sizeOf k = 4 by rw [sizeOf,if_neg h0,if_pos h1]]
  refine Con.of Tryz.func144 J Tryz.ntmps144 J (fun E => ?_)
  refine zy (z1 J (zz (Qd (zy (z0 J (zz (Qk ?_)))))));refine zy (z9e J (by assumption) (z1 J (zz (Ql J (zy (z9e J (by assumption) (z1 J (Qe ?_))))))));refine Q0 (Qm J (zy (z1 J (zz (Xa (B_r (T_r (F_r ?_))))))))
  exact Xp J J (X6 [] (by decide) J J J)
 have hb1 : decide (k = 1) = false := decide_eq_false h1
 by_cases h2 : k = 2
 ·have hb : decide (k = 2) = true := decide_eq_true h2
  rw [show sizeOf k = 8 by rw [sizeOf,if_neg h0,if_neg h1,if_pos h2]]
  refine Con.of Tryz.func144 J Tryz.ntmps144 J (fun E => ?_)
  refine zy (z1 J (zz (Qd (zy (z0 J (zz (Qk ?_)))))));refine zy (z9e J (by assumption) (z1 J (zz (Ql J (zy (z9e J (by assumption) (z1 J (Qe ?_))))))));refine Q0 (Ql J (zy (z9e J (by assumption) (z1 J (zz (Qm J (zy (z1 J ?_))))))));refine zz (Xa (B_r (T_r (F_r ?_))))
  exact Xp J J (X6 [] (by decide) J J J)
 have hb2 : decide (k = 2) = false := decide_eq_false h2
 rw [show sizeOf k = 0 by rw [sizeOf,if_neg h0,if_neg h1,if_neg h2]]
 refine Con.of Tryz.func144 J Tryz.ntmps144 J (fun E => ?_)
 refine zy (z1 J (zz (Qd (zy (z0 J (zz (Qk ?_)))))));refine zy (z9e J (by assumption) (z1 J (zz (Ql J (zy (z9e J (by assumption) (z1 J (Qe ?_))))))));refine Q0 (Ql J (zy (z9e J (by assumption) (z1 J (zz (Ql J (Qh (Q1 (Q0 ?_)))))))));refine zy (z1 J (zz (Xa (F_r ?_))))
 exact Xp J J (X6 [] (by decide) J J J)
theorem S_SizeOf (k : Int) : Con Tryz.prog 137 [] [ai k] [] (I (sizeOf k)) := by
 by_cases h0 : k = 0
 ·have hb : decide (k = 0) = true := decide_eq_true h0
  rw [show sizeOf k = 12 by rw [sizeOf,if_pos h0]]
  refine Con.of Tryz.func137 J Tryz.ntmps137 J (fun E => ?_)
  refine zy (z1 J (zz (Qd (zy (z0 J (zz (Qk ?_)))))));refine zy (z9e J (by assumption) (z1 J (zz (Qm J (zy (z1 J (zz ?_)))))));refine Xa (B_r (T_r (F_r ?_)))
  exact Xp J J (X6 [] (by decide) J J J)
 have hb0 : decide (k = 0) = false := decide_eq_false h0
 by_cases h1 : k = 1
 ·have hb : decide (k = 1) = true := decide_eq_true h1
  rw [show sizeOf k = 4 by rw [sizeOf,if_neg h0,if_pos h1]]
  refine Con.of Tryz.func137 J Tryz.ntmps137 J (fun E => ?_)
  refine zy (z1 J (zz (Qd (zy (z0 J (zz (Qk ?_)))))));refine zy (z9e J (by assumption) (z1 J (zz (Ql J (zy (z9e J (by assumption) (z1 J (Qe ?_))))))));refine Q0 (Qm J (zy (z1 J (zz (Xa (B_r (T_r (F_r ?_))))))))
  exact Xp J J (X6 [] (by decide) J J J)
 have hb1 : decide (k = 1) = false := decide_eq_false h1
 by_cases h2 : k = 2
 ·have hb : decide (k = 2) = true := decide_eq_true h2
  rw [show sizeOf k = 8 by rw [sizeOf,if_neg h0,if_neg h1,if_pos h2]]
  refine Con.of Tryz.func137 J Tryz.ntmps137 J (fun E => ?_)
  refine zy (z1 J (zz (Qd (zy (z0 J (zz (Qk ?_)))))));refine zy (z9e J (by assumption) (z1 J (zz (Ql J (zy (z9e J (by assumption) (z1 J (Qe ?_))))))));refine Q0 (Ql J (zy (z9e J (by assumption) (z1 J (zz (Qm J (zy (z1 J ?_))))))));refine zz (Xa (B_r (T_r (F_r ?_))))
  exact Xp J J (X6 [] (by decide) J J J)
 have hb2 : decide (k = 2) = false := decide_eq_false h2
 rw [show sizeOf k = 0 by rw [sizeOf,if_neg h0,if_neg h1,if_neg h2]]
 refine Con.of Tryz.func137 J Tryz.ntmps137 J (fun E => ?_)
 refine zy (z1 J (zz (Qd (zy (z0 J (zz (Qk ?_)))))));refine zy (z9e J (by assumption) (z1 J (zz (Ql J (zy (z9e J (by assumption) (z1 J (Qe ?_))))))));refine Q0 (Ql J (zy (z9e J (by assumption) (z1 J (zz (Ql J (Qh (Q1 (Q0 ?_)))))))));refine zy (z1 J (zz (Xa (F_r ?_))))
 exact Xp J J (X6 [] (by decide) J J J)
def wallAt (l : TLevel) (r c : Int) : Prop := ∀ (q : Nat) (hq : q < l.Rows.length),r = q → 0 ≤ c → c < (l.Rows[q]).size → byteAt (l.Rows[q]) c.toNat = 35
def hits (l : TLevel) (x y s : Int) : Prop := ∃ r c : Int,y / 16 ≤ r ∧ r ≤ (y + s - 1) / 16 ∧ x / 16 ≤ c ∧ c ≤ (x + s - 1) / 16 ∧ wallAt l r c
noncomputable def solidM (l : TLevel) (x y s : Int) : Bool := @decide (hits l x y s) (Classical.propDecidable _)
theorem Ko {l : TLevel} {x y s : Int} (h : hits l x y s) : solidM l x y s = true := @decide_eq_true _ (Classical.propDecidable _) h
theorem solidM_F {l : TLevel} {x y s : Int} (h : ¬ hits l x y s) : solidM l x y s = false := @decide_eq_false _ (Classical.propDecidable _) h
theorem wall_tile {l : TLevel} {r c : Nat} (hr : r < l.Rows.length) (h : byteAt (l.Rows[r]) c = 35) : wallAt l r c := fun q hq e h0 h1 => by
 have : q = r := by omega
 subst this
 exact h
theorem no_wall {l : TLevel} {r c : Nat} (hr : r < l.Rows.length) (hc : c < (l.Rows[r]).size) (h : byteAt (l.Rows[r]) c ≠ 35) : ¬ wallAt l r c := fun hw => h (hw r hr rfl (by omega) (by omega))
theorem out_hits {l : TLevel} {x y s : Int} {w : Nat} (hw : ∀ (r : Nat) (hr : r < l.Rows.length),(l.Rows[r]).size = w) (h1 : 1 ≤ s) (h : x < 0 ∨ y < 0 ∨ (w : Int) * 16 - s < x ∨ (l.Rows.length : Int) * 16 - s < y) : hits l x y s := by
 by_cases hx : x < 0
 ·exact ⟨y / 16,x / 16,by omega,by omega,by omega,by omega,fun q hq e h0 h1 => by omega⟩
 by_cases hy : y < 0
 ·exact ⟨y / 16,x / 16,by omega,by omega,by omega,by omega,fun q hq e h0 h1 => by omega⟩
 by_cases hx2 : (w : Int) * 16 - s < x
 ·exact ⟨y / 16,(x + s - 1) / 16,by omega,by omega,by omega,by omega,fun q hq e h0 h1 => by have := hw q hq; omega⟩
 ·exact ⟨(y + s - 1) / 16,x / 16,by omega,by omega,by omega,by omega,fun q hq e h0 h1 => by omega⟩
def freeR (l : TLevel) (x s : Int) (a b : Int) : Prop := ∀ r c : Int,a ≤ r → r < b → x / 16 ≤ c → c ≤ (x + s - 1) / 16 → ¬ wallAt l r c
def freeC (l : TLevel) (r : Int) (a b : Int) : Prop := ∀ c : Int,a ≤ c → c < b → ¬ wallAt l r c
theorem free_all {l : TLevel} {x y s b : Int} (h : freeR l x s (y / 16) b) (hb : (y + s - 1) / 16 < b) : ¬ hits l x y s := fun ⟨r,c,h1,h2,h3,h4,h5⟩ => h r c h1 (by omega) h3 h4 h5
theorem free_row {l : TLevel} {x s a b e : Int} (h : freeR l x s a b) (hc : freeC l b (x / 16) e) (he : (x + s - 1) / 16 < e) : freeR l x s a (b + 1) := fun r c h1 h2 h3 h4 => by
 by_cases hr : r < b
 ·exact h r c h1 hr h3 h4
 ·have : r = b := by omega
  subst this
  exact hc c h3 (by omega)
theorem free_col {l : TLevel} {r a b : Int} (h : freeC l r a b) (hn : ¬ wallAt l r b) : freeC l r a (b + 1) := fun c h1 h2 => by
 by_cases hc : c < b
 ·exact h c h1 hc
 ·have : c = b := by omega
  subst this
  exact hn
theorem I_solid (l : TLevel) (x y s : Int) (hl : levelOk l = true) (hx : I64 x) (hy : I64 y) (h1 : 1 ≤ s) (h16 : s ≤ 16) : Con Tryz.prog 156 [] [ag l,ai x,ai y,ai s] [] (B (solidM l x y s)) := by
 obtain ⟨hx1,hx2⟩ := hx
 obtain ⟨hy1,hy2⟩ := hy
 obtain ⟨f3,f12,w,w4,w20,hw⟩ := Y7 hl
 have hlx := Yq l.Rows
 have h0 : 0 < l.Rows.length := by omega
 have hat0 : (els l.Rows)[(0 : Int).toNat]? = some (Enc.e l.Rows[0]) := Yo h0
 have hw0 := hw 0 h0
 refine Con.of Tryz.func156 J Tryz.ntmps156 J (fun E => ?_)
 refine zy (M1 (Qq J J J J) J J (z1 J (zz (zy (z2 J J J (z3 J (zx (Q2 J J J J (by omega) (by assumption) J) J (zx (Z4 J J J J) J ?_))))))));refine zx (Z3 J J J) J (zx (Z6 J J J J (by omega)) J (z1 J (zz (zy (z2 J J J (z3 J (zx (Z0 J J J) J (zx (Z6 J J J J (by omega)) J (z1 J ?_)))))))));refine zz (Qd (zy (z0 J (zx (Z5 J J J J) J (z0 J ?_)))));refine zx (Qt.grdF J J J .stop (fun hgrd => Qa J J J)) J ?_;refine zx (Qt.grdF J J J (.hit .stop) (fun hgrd => Z5 J J J J)) J ?_;refine zx (Z8 J J J J) J (z0 J ?_);refine zx (Qt.grdF J J J .stop (fun hgrd => Qa J J J)) J ?_;refine zx (Qt.grdF J J J (.hit .stop) (fun hgrd => Qa J J J)) J ?_;refine zx (Qt.grdF J J J (.hit (.hit .stop)) (fun hgrd => Qa J J J)) J ?_;refine zx (Qt.grdF J J J (.hit (.hit (.hit .stop))) (fun hgrd => Xc J J J J (by omega))) J ?_;refine zx (Qt.grdF J J J (.hit (.hit (.hit (.hit .stop)))) (fun hgrd => Zy J J J J)) J ?_;refine zx (Z8 J J J J) J (z0 J ?_);refine zx (Qt.grdF J J J .stop (fun hgrd => Qa J J J)) J ?_;refine zx (Qt.grdF J J J (.hit .stop) (fun hgrd => Qa J J J)) J ?_;refine zx (Qt.grdF J J J (.hit (.hit .stop)) (fun hgrd => Qa J J J)) J ?_;refine zx (Qt.grdF J J J (.hit (.hit (.hit .stop))) (fun hgrd => Xc J J J J (by omega))) J ?_;refine zx (Qt.grdF J J J (.hit (.hit (.hit (.hit .stop)))) (fun hgrd => Zy J J J J)) J ?_;refine zx (Z8 J J J J) J (zz ?_)
 refine Xb J (fun h => ?_) (fun h => ?_)
 ·simp only [Bool.or_eq_true,decide_eq_true_eq] at h
  rw [Ko (out_hits hw h1 (by omega))]
  refine zy (z1 J (zz (Xa (T_r (F_r ?_)))))
  exact Xp J J (X6 [] (by decide) J J J)
 simp only [Bool.or_eq_false_iff,decide_eq_false_iff_not] at h
 refine Qh (Q0 (Qd (zy (z0 J (zx (q_quo J J J J (by omega)) J (z1 J (zz (Qk ?_))))))));refine A_lq (fun m__ st => ∃ (r : Nat),((y + s - 1) / 16 + 1).toNat - r = m__ ∧ (y / 16 ≤ r ∧ (r : Int) ≤ (y + s - 1) / 16 + 1 ∧ freeR l x s (y / 16) r) ∧ st = (⟨_,[(1,I x),(2,I y),(3,I s),(4,.o (.c (.ptr 0 0))),(11,I r)],[.box ((Enc.e l).map (V1.rd []))]⟩ : St)) _ ⟨(fun (r : Nat) => (⟨_,[(1,I x),(2,I y),(3,I s),(4,.o (.c (.ptr 0 0))),(11,I r)],[.box ((Enc.e l).map (V1.rd []))]⟩ : St)) ((y / 16).toNat),⟨(y / 16).toNat,J,⟨by omega,by omega,fun r c h1 h2 => by omega⟩,J⟩,X8 [0] (by decide) J (J) (.c J (.c J (.c J (.c J (.cons (Xx (by omega)) (.nil))))))⟩ ?_
 rintro m_A _ ⟨r,hk_A,hp_A,rfl⟩
 obtain ⟨hr1,hr2,hfr⟩ := hp_A
 refine Qd (zy (z0 J (z0 J (z0 J (z7 J (by omega) (z8 J (by omega) (zx (q_quo J J J J (by omega)) J (zx (q_leq J J J J) J (zz ?_)))))))))
 refine Xb J (fun h5 => ?_) (fun h5 => ?_)
 ·have h5 := of_decide_eq_true h5
  have hrl : r < l.Rows.length := by omega
  have hat := Yo hrl
  have hwr := hw r hrl
  refine Qh (Q0 (Qd (Qk (zy (z0 J (zx (q_quo J J J J (by omega)) J (z1 J (zz (Qk ?_)))))))));refine A_lq (fun m__ st => ∃ (c : Nat),((x + s - 1) / 16 + 1).toNat - c = m__ ∧ (x / 16 ≤ c ∧ (c : Int) ≤ (x + s - 1) / 16 + 1 ∧ freeC l r (x / 16) c) ∧ st = (⟨_,[(1,I x),(2,I y),(3,I s),(4,.o (.c (.ptr 0 0))),(11,I r),(12,I c)],[.box ((Enc.e l).map (V1.rd []))]⟩ : St)) _ ⟨(fun (c : Nat) => (⟨_,[(1,I x),(2,I y),(3,I s),(4,.o (.c (.ptr 0 0))),(11,I r),(12,I c)],[.box ((Enc.e l).map (V1.rd []))]⟩ : St)) ((x / 16).toNat),⟨(x / 16).toNat,J,⟨by omega,by omega,fun c h1 h2 => by omega⟩,J⟩,X8 [0] (by decide) J (J) (.c J (.c J (.c J (.c J (.c J (.cons (Xx (by omega)) (.nil)))))))⟩ ?_
  rintro m_B _ ⟨c,hk_B,hp_B,rfl⟩
  obtain ⟨hc1,hc2,hfc⟩ := hp_B
  refine Qd (zy (z0 J (z0 J (z0 J (z7 J (by omega) (z8 J (by omega) (zx (q_quo J J J J (by omega)) J (zx (q_leq J J J J) J (zz ?_)))))))))
  refine Xb J (fun h6 => ?_) (fun h6 => ?_)
  ·have h6 := of_decide_eq_true h6
   refine Qh (Q0 (Qd (Qk (zy (z2 J J J (z3 J (z0 J (zx (Q2 J J J J (by omega) (by assumption) J) J (zx (Z4 J J J J) J (z0 J ?_))))))))));refine zx (Zq J J J J (by omega)) J (zx (Zu J J J J) J (zz ?_))
   refine Xb J (fun h7 => ?_) (fun h7 => ?_)
   ·have h7 := of_decide_eq_true h7
    rw [Ko ⟨(r : Int),(c : Int),hr1,by omega,hc1,by omega,wall_tile hrl h7⟩]
    refine zy (z1 J (zz (Xa (B_r (T_r (T_r (B_r (B_r (T_r ?_)))))))));refine T_r (B_r (T_r (F_r ?_)))
    exact Xp J J (X6 [] (by decide) J J J)
   ·have h7 := of_decide_eq_false h7
    refine Qh (Q1 (Q0 (Qc (z0 J (z7 J (by omega) (z1 J (zz ?_)))))))
    refine ⟨_,(by omega),_,⟨c + 1,J,⟨by omega,by omega,free_col hfc (no_wall hrl (by omega) h7)⟩,J⟩,W_gj [0] J⟩
  ·have h6 := of_decide_eq_false h6
   refine Q9 (T_x (T_x (Xl (Q1 (Q0 (Qc (z0 J (z7 J (by omega) (z1 J (zz ?_))))))))))
   refine ⟨_,(by omega),_,⟨r + 1,J,⟨by omega,by omega,free_row hfr hfc (by omega)⟩,J⟩,W_gj [0] J⟩
 ·have h5 := of_decide_eq_false h5
  rw [solidM_F (free_all hfr (by omega))]
  refine Q9 (T_x (T_x (Xl (Q0 (zy (z1 J (zz (Xa (F_r ?_)))))))))
  exact Xp J J (X6 [] (by decide) J J J)
theorem S_l02Solid (l : TLevel) (x y s : Int) (hl : levelOk l = true) (hx : I64 x) (hy : I64 y) (h1 : 1 ≤ s) (h16 : s ≤ 16) : Con Tryz.prog 136 [] [ag l,ai x,ai y,ai s] [] (B (solidM l x y s)) := by
 obtain ⟨hx1,hx2⟩ := hx
 obtain ⟨hy1,hy2⟩ := hy
 obtain ⟨f3,f12,w,w4,w20,hw⟩ := Y7 hl
 have hlx := Yq l.Rows
 refine Con.of Tryz.func136 J Tryz.ntmps136 J (fun E => ?_)
 refine zy (M1 (Qq J J J J) J J (z1 J (zz (Qd (zy (z0 J ?_))))));refine zx (Qj J J (S_in x 0 1000) J) J ?_;refine zn J (z0 J ?_);refine zx (Qt.grdF J J J .stop (fun hgrd => Qa J J J)) J ?_;refine zx (Qt.grdF J J J (.hit .stop) (fun hgrd => Qj J J (S_in y 0 1000) J)) J ?_;refine zx (Qt.grdF J J J (.hit (.hit .stop)) (fun hgrd => Q4 J J J)) J ?_;refine zx (Z8 J J J J) J (zz ?_)
 refine Xb J (fun h => ?_) (fun h => ?_)
 ·have h : ¬ (0 ≤ x ∧ x ≤ 1000) ∨ ¬ (0 ≤ y ∧ y ≤ 1000) := by
   rw [← Y3,← Y3]
   simpa using h
  rw [Ko (out_hits hw h1 (by omega))]
  refine zy (z1 J (zz (Xa (T_r (F_r ?_)))))
  exact Xp J J (X6 [] (by decide) J J J)
 have h : (0 ≤ x ∧ x ≤ 1000) ∧ (0 ≤ y ∧ y ≤ 1000) := by
  rw [← Y3,← Y3]
  simpa using h
 refine Qh (Q0 (Qd (zy (z0 J (zx (q_quo J J J J (by omega)) J (z1 J (zz (Qk ?_))))))));refine A_lq (fun m__ st => ∃ (r : Nat),((y + s - 1) / 16 + 1).toNat - r = m__ ∧ (y / 16 ≤ r ∧ (r : Int) ≤ (y + s - 1) / 16 + 1 ∧ freeR l x s (y / 16) r) ∧ st = (⟨_,[(1,I x),(2,I y),(3,I s),(4,.o (.c (.ptr 0 0))),(9,I r)],[.box ((Enc.e l).map (V1.rd []))]⟩ : St)) _ ⟨(fun (r : Nat) => (⟨_,[(1,I x),(2,I y),(3,I s),(4,.o (.c (.ptr 0 0))),(9,I r)],[.box ((Enc.e l).map (V1.rd []))]⟩ : St)) ((y / 16).toNat),⟨(y / 16).toNat,J,⟨by omega,by omega,fun r c h1 h2 => by omega⟩,J⟩,X8 [0] (by decide) J (J) (.c J (.c J (.c J (.c J (.cons (Xx (by omega)) (.nil))))))⟩ ?_
 rintro m_A _ ⟨r,hk_A,hp_A,rfl⟩
 obtain ⟨hr1,hr2,hfr⟩ := hp_A
 refine Qd (zy (z0 J (z0 J (z0 J (z7 J (by omega) (z8 J (by omega) (zx (q_quo J J J J (by omega)) J (zx (q_leq J J J J) J (zz ?_)))))))))
 refine Xb J (fun h5 => ?_) (fun h5 => ?_)
 ·have h5 := of_decide_eq_true h5
  refine Qh (Q0 (Qd (Qk (zy (z0 J (zx (q_quo J J J J (by omega)) J (z1 J (zz (Qk ?_)))))))));refine A_lq (fun m__ st => ∃ (c : Nat),((x + s - 1) / 16 + 1).toNat - c = m__ ∧ (x / 16 ≤ c ∧ (c : Int) ≤ (x + s - 1) / 16 + 1 ∧ freeC l r (x / 16) c) ∧ st = (⟨_,[(1,I x),(2,I y),(3,I s),(4,.o (.c (.ptr 0 0))),(9,I r),(10,I c)],[.box ((Enc.e l).map (V1.rd []))]⟩ : St)) _ ⟨(fun (c : Nat) => (⟨_,[(1,I x),(2,I y),(3,I s),(4,.o (.c (.ptr 0 0))),(9,I r),(10,I c)],[.box ((Enc.e l).map (V1.rd []))]⟩ : St)) ((x / 16).toNat),⟨(x / 16).toNat,J,⟨by omega,by omega,fun c h1 h2 => by omega⟩,J⟩,X8 [0] (by decide) J (J) (.c J (.c J (.c J (.c J (.c J (.cons (Xx (by omega)) (.nil)))))))⟩ ?_
  rintro m_B _ ⟨c,hk_B,hp_B,rfl⟩
  obtain ⟨hc1,hc2,hfc⟩ := hp_B
  refine Qd (zy (z0 J (z0 J (z0 J (z7 J (by omega) (z8 J (by omega) (zx (q_quo J J J J (by omega)) J (zx (q_leq J J J J) J (zz ?_)))))))))
  refine Xb J (fun h6 => ?_) (fun h6 => ?_)
  ·have h6 := of_decide_eq_true h6
   by_cases hrl : r < l.Rows.length
   ·have hat := Yo hrl
    have hb : decide (((els l.Rows).length : Int) ≤ r) = false := decide_eq_false (by omega)
    by_cases hcl : c < (l.Rows[r]).size
    ·have hb2 : decide (((l.Rows[r]).size : Int) ≤ c) = false := decide_eq_false (by omega)
     by_cases h7 : byteAt (l.Rows[r]) c = 35
     ·have hb3 : decide (byteAt (l.Rows[r]) (c : Int).toNat = 35) = true := decide_eq_true h7
      rw [Ko ⟨(r : Int),(c : Int),hr1,by omega,hc1,by omega,wall_tile hrl h7⟩]
      refine Qh (Q0 (Qd (Qk (zy (z0 J (z2 J J J (z3 J (zx (Z0 J J J) J (z9d J (by assumption) (z0 J ?_))))))))));refine z5 J (z0 J (z5 J (z2 J J J (z5 J (z3 J (z5 J (z0 J (z5 J (zx (Q2 J J J J (by omega) (by assumption) J) J (z5 J (zx (Z4 J J J J) J ?_)))))))))));refine z5 J (zx (Z3 J J J) J (z5 J (z9d J (by assumption) (zpF J (z0 J (z5 J (z2 J J J (z5 J (z3 J (z5 J (z0 J ?_)))))))))));refine z5 J (zx (Q2 J J J J (by omega) (by assumption) J) J (z5 J (zx (Z4 J J J J) J (z5 J (z0 J (z5 J (zx (Zr J J J J (by assumption) (by omega)) J (z5 J ?_))))))));refine zx (Qv (b := true) J J J J (by decide)) J ?_;refine zpF J (zz (Qm J (zy (z1 J (zz (Xa (B_r (T_r ?_))))))));refine T_r (B_r (B_r (T_r (T_r (B_r (T_r (F_r ?_)))))))
      exact Xp J J (X6 [] (by decide) J J J)
     ·have hb3 : decide (byteAt (l.Rows[r]) (c : Int).toNat = 35) = false := decide_eq_false h7
      refine Qh (Q0 (Qd (Qk (zy (z0 J (z2 J J J (z3 J (zx (Z0 J J J) J (z9d J (by assumption) (z0 J ?_))))))))));refine z5 J (z0 J (z5 J (z2 J J J (z5 J (z3 J (z5 J (z0 J (z5 J (zx (Q2 J J J J (by omega) (by assumption) J) J (z5 J (zx (Z4 J J J J) J ?_)))))))))));refine z5 J (zx (Z3 J J J) J (z5 J (z9d J (by assumption) (zpF J (z0 J (z5 J (z2 J J J (z5 J (z3 J (z5 J (z0 J ?_)))))))))));refine z5 J (zx (Q2 J J J J (by omega) (by assumption) J) J (z5 J (zx (Z4 J J J J) J (z5 J (z0 J (z5 J (zx (Zq J J J J (by omega)) J (z5 J (z9e J (by assumption) (zpF J (Qe ?_)))))))))));refine Q0 (Ql J (Qh (Q1 (Q0 (Qc (z0 J (z7 J (by omega) (z1 J (zz ?_)))))))))
      refine ⟨_,(by omega),_,⟨c + 1,J,⟨by omega,by omega,free_col hfc (no_wall hrl hcl h7)⟩,J⟩,W_gj [0] J⟩
    ·have hb2 : decide (((l.Rows[r]).size : Int) ≤ c) = true := decide_eq_true (by omega)
     rw [Ko ⟨(r : Int),(c : Int),hr1,by omega,hc1,by omega,fun q hq e g0 g1 => by have : q = r := (by omega); subst this; omega⟩]
     refine Qh (Q0 (Qd (Qk (zy (z0 J (z2 J J J (z3 J (zx (Z0 J J J) J (z9d J (by assumption) (z0 J ?_))))))))));refine z5 J (z0 J (z5 J (z2 J J J (z5 J (z3 J (z5 J (z0 J (z5 J (zx (Q2 J J J J (by omega) (by assumption) J) J (z5 J (zx (Z4 J J J J) J ?_)))))))))));refine z5 J (zx (Z3 J J J) J (z5 J (z9d J (by assumption) (zpF J (z0 J (z6 J (z6 J (z6 J (z6 J (z6 J (z6 J ?_)))))))))));refine z6 J (z6 J (zpT J (zz (Qm J (zy (z1 J (zz (Xa ?_))))))));refine B_r (T_r (T_r (B_r (B_r (T_r (T_r (B_r (T_r (F_r ?_)))))))))
     exact Xp J J (X6 [] (by decide) J J J)
   ·have hb : decide (((els l.Rows).length : Int) ≤ r) = true := decide_eq_true (by omega)
    rw [Ko ⟨(r : Int),(c : Int),hr1,by omega,hc1,by omega,fun q hq e g0 g1 => by omega⟩]
    refine Qh (Q0 (Qd (Qk (zy (z0 J (z2 J J J (z3 J (zx (Z0 J J J) J (z9d J (by assumption) (z0 J ?_))))))))));refine z6 J (z6 J (z6 J (z6 J (z6 J (z6 J (z6 J (z6 J (zpT J (z0 J (z6 J (z6 J ?_)))))))))));refine z6 J (z6 J (z6 J (z6 J (z6 J (z6 J (zpT J (zz (Qm J (zy ?_)))))))));refine z1 J (zz (Xa (B_r (T_r (T_r (B_r (B_r (T_r (T_r (B_r ?_))))))))));refine T_r (F_r ?_)
    exact Xp J J (X6 [] (by decide) J J J)
  ·have h6 := of_decide_eq_false h6
   refine Q9 (T_x (T_x (Xl (Q1 (Q0 (Qc (z0 J (z7 J (by omega) (z1 J (zz ?_))))))))))
   refine ⟨_,(by omega),_,⟨r + 1,J,⟨by omega,by omega,free_row hfr hfc (by omega)⟩,J⟩,W_gj [0] J⟩
 ·have h5 := of_decide_eq_false h5
  rw [solidM_F (free_all hfr (by omega))]
  refine Q9 (T_x (T_x (Xl (Q0 (zy (z1 J (zz (Xa (F_r ?_)))))))))
  exact Xp J J (X6 [] (by decide) J J J)
noncomputable def solidAt (l : TLevel) (x y s : Int) : Bool := (!inR s 1 16 || !levelOk l) || solidM l x y s
theorem I_SolidAt (l : TLevel) (x y s : Int) (hg : Enc.gd l) (hx : I64 x) (hy : I64 y) : Con Tryz.prog 143 [] [ag l,ai x,ai y,ai s] [] (B (solidAt l x y s)) := by
 have hc := Xu l hg
 by_cases hs : ¬ (1 ≤ s ∧ s ≤ 16)
 ·have hf : inR s 1 16 = false := by rw [← Bool.not_eq_true,Y3]; exact hs
  rw [show solidAt l x y s = true by rw [solidAt,hf]; rfl]
  refine Con.of Tryz.func143 J Tryz.ntmps143 J (fun E => ?_)
  refine zy (M1 (Qq J J J J) J J (z1 J (zz (Qd (zy (z0 J (zx (Z5 J J J J) J (z0 J ?_))))))));refine zx (Qt.grdF J J J .stop (fun hgrd => Qa J J J)) J ?_;refine zx (Qt.grdF J J J (.hit .stop) (fun hgrd => Zy J J J J)) J ?_;refine zx (Z8 J J J J) J (z0 J ?_);refine zx (Qt.grdF J J J .stop (fun hgrd => Qu J J J J J J)) J ?_;refine zx (Qt.grdF J J J (.hit .stop) (fun hgrd => Qj J J (hc) J)) J ?_;refine zx (Qt.grdF J J J (.hit (.hit .stop)) (fun hgrd => Q4 J J J)) J ?_;refine zx (Z8 J J J J) J (zz ?_)
  refine Xb J (fun h => ?_) (fun h => ?_)
  ·refine zy (z1 rfl (zz (Xa (T_r (F_r ?_)))))
   exact Xp J J (X6 [] (by decide) J J J)
  ·simp only [Bool.or_eq_false_iff,decide_eq_false_iff_not] at h
   omega
 have hs := Classical.not_not.1 hs
 have hb1 : decide (s < 1) = false := decide_eq_false (by omega)
 have hb2 : decide (16 < s) = false := decide_eq_false (by omega)
 cases ho : levelOk l with
 | false =>
  rw [ho] at hc
  rw [show solidAt l x y s = true by rw [solidAt,ho]; simp]
  refine Con.of Tryz.func143 J Tryz.ntmps143 J (fun E => ?_)
  refine zy (M1 (Qq J J J J) J J (z1 J (zz (Qd (zy (z0 J (z9a J (by assumption) (z0 J ?_))))))));refine z5 J (z0 J (z5 J (z9c J (by assumption) (zpF J (z0 J (z5 J (z4 J J J (z5 J ?_))))))));refine zx (Qj J J (hc) J) J ?_;refine z5 J (zn J (zpF J (zz (Qm J (zy (z1 J (zz (Xa ?_))))))));refine T_r (F_r ?_)
  exact Xp J J (X6 [] (by decide) J J J)
 | true =>
  rw [ho] at hc
  rw [show solidAt l x y s = solidM l x y s by rw [solidAt,ho,Y3.2 hs]; rfl]
  have hd := I_solid l x y s ho hx hy hs.1 hs.2
  refine Con.of Tryz.func143 J Tryz.ntmps143 J (fun E => ?_)
  refine zy (M1 (Qq J J J J) J J (z1 J (zz (Qd (zy (z0 J (z9a J (by assumption) (z0 J ?_))))))));refine z5 J (z0 J (z5 J (z9c J (by assumption) (zpF J (z0 J (z5 J (z4 J J J (z5 J ?_))))))));refine zx (Qj J J (hc) J) J ?_;refine z5 J (zn J (zpF J (zz (Ql J (Qh (Q0 (zy (z4 J J J (z0 J ?_)))))))));refine z0 J (z0 J ?_);refine zx (Qj J J (hd) J) J ?_;refine z1 J (zz (Xa (F_r ?_)))
  exact Xp J J (X6 [] (by decide) J J J)
end
section
open Go.RowKit

def tailM (b : TBody) : Bool :=
 if b.Kind = 0 then (decide (b.Aim = 1 ∨ b.Aim = -1) && inR b.Life 0 3) && (if b.Life = 0 then inR b.Timer 1 20 else inR b.Timer 0 12)
 else if b.Kind = 1 then decide (b.Aim = 0 ∧ b.Life = 0) && inR b.Timer 1 25
 else decide (b.Owner = 0 ∧ b.Aim = 0 ∧ b.Life = 0 ∧ b.Timer = 0)
noncomputable def bodyM (l : TLevel) (n : Int) (b : TBody) : Bool :=
 inR b.Kind 0 2 && (inR b.Owner 0 (n - 1) && (!solidM l b.X b.Y (sizeOf b.Kind) && (inR b.VX (-15) 15 && (inR b.VY (-15) 15 && tailM b))))
theorem size_in {k : Int} (h : inR k 0 2 = true) : 1 ≤ sizeOf k ∧ sizeOf k ≤ 16 := by
 have := Y3.1 h
 unfold sizeOf
 split
 ·omega
 ·split
  ·omega
  ·split <;> omega
theorem S_l02Body (l : TLevel) (n : Int) (b : TBody) (hg : Enc.gd l) (hl : levelOk l = true) (hb : Enc.gd b) (hn : 0 ≤ n ∧ n ≤ 1099511627776) : Con Tryz.prog 96 [] [ag l,ai n,ag b] [] (B (bodyM l n b)) := by
 obtain ⟨b1,b2,b3,b4,b5,b6,b7,b8,b9⟩ := hb
 have h1 := S_in b.Kind 0 2
 have hsz := S_SizeOf b.Kind
 have h2 := S_in b.Owner 0 (n - 1)
 have h4 := S_in b.VX (-15) 15
 have h5 := S_in b.VY (-15) 15
 cases e1 : inR b.Kind 0 2 with
 | false =>
  rw [e1] at h1
  rw [show bodyM l n b = false by rw [bodyM,e1]; rfl]
  refine Con.of Tryz.func96 J Tryz.ntmps96 J (fun E => ?_)
  refine zy (M1 (Qq J J J J) J J (M1 (Qq J J J J) J J (z1 J (zz (Qd (Qd (Xi u8_6 u8_7 u8_8 J (DR.s (Qf J J J J (by decide)) J J (DR.s (Qg J J J J J) J J ?_)))))))));refine DR.s (Qj J J (h1) J) J J ?_;refine DR.s (Q4 J J J) J J (DR.s (Qa J J J) J J (DR.s (Qt.no J J J J) J J (DR.s (Qt.no J J J J) J J (DR.s (Qt.no J J J J) J J (DR.s (Qt.no J J J J) J J (DR.s (Qt.no J J J J) J J (DR.s (Qt.no J J J J) J J (DR.s (Qo J J J J) J J (DR.s (Qa J J J) J J (DR.s (Qt.no J J J J) J J (DR.s (Qt.no J J J J) J J ?_)))))))))));refine DR.s (Qt.no J J J J) J J (DR.s (Qt.no J J J J) J J (DR.s (Qt.no J J J J) J J (DR.s (Qt.no J J J J) J J (DR.s (Qt.no J J J J) J J (DR.s (Qt.no J J J J) J J (DR.s (Qt.no J J J J) J J (DR.s (Qo J J J J) J J (DR.s (Qa J J J) J J (DR.s (Qt.no J J J J) J J (DR.s (Qt.no J J J J) J J (DR.s (Qt.no J J J J) J J ?_)))))))))));refine DR.s (Qt.no J J J J) J J (DR.s (Qo J J J J) J J (DR.s (Qa J J J) J J (DR.s (Qt.no J J J J) J J (DR.s (Qt.no J J J J) J J (DR.s (Qt.no J J J J) J J (DR.s (Qt.no J J J J) J J (DR.s (Qo J J J J) J J (DR.stop (by kernel_rfl) (by kernel_rfl) (zz (Qm J ?_))))))))));refine zy (z1 J (zz (Xa (T_r (F_r ?_)))))
  exact Xp J J (X6 [] (by decide) J J J)
 | true =>
  rw [e1] at h1
  cases e2 : inR b.Owner 0 (n - 1) with
  | false =>
   rw [e2] at h2
   rw [show bodyM l n b = false by rw [bodyM,e1,e2]; rfl]
   refine Con.of Tryz.func96 J Tryz.ntmps96 J (fun E => ?_)
   refine zy (M1 (Qq J J J J) J J (M1 (Qq J J J J) J J (z1 J (zz (Qd (Qd (Xi u8_6 u8_7 u8_8 J (DR.s (Qf J J J J (by decide)) J J (DR.s (Qg J J J J J) J J ?_)))))))));refine DR.s (Qj J J (h1) J) J J ?_;refine DR.s (Q4 J J J) J J (DR.s (Qa J J J) J J (DR.s (Qt.yes J J J (Qf J J J J (by decide))) J J (DR.s (Qt.yes J J J (Qg J J J J J)) J J (DR.s (Qt.yes J J J (Qa J J J)) J J (DR.s (Qt.yes J J J (Xc J J J J (by omega))) J J ?_)))));refine DR.s (Qt.yes J J J (Qj J J (h2) J)) J J ?_;refine DR.s (Qt.yes J J J (Q4 J J J)) J J (DR.s (Qn J J J J) J J (DR.s (Qa J J J) J J (DR.s (Qt.no J J J J) J J (DR.s (Qt.no J J J J) J J (DR.s (Qt.no J J J J) J J (DR.s (Qt.no J J J J) J J (DR.s (Qt.no J J J J) J J (DR.s (Qt.no J J J J) J J (DR.s (Qt.no J J J J) J J (DR.s (Qt.no J J J J) J J (DR.s (Qt.no J J J J) J J ?_)))))))))));refine DR.s (Qo J J J J) J J (DR.s (Qa J J J) J J (DR.s (Qt.no J J J J) J J (DR.s (Qt.no J J J J) J J (DR.s (Qt.no J J J J) J J (DR.s (Qt.no J J J J) J J (DR.s (Qo J J J J) J J (DR.s (Qa J J J) J J (DR.s (Qt.no J J J J) J J (DR.s (Qt.no J J J J) J J (DR.s (Qt.no J J J J) J J (DR.s (Qt.no J J J J) J J ?_)))))))))));refine DR.s (Qo J J J J) J J (DR.stop (by kernel_rfl) (by kernel_rfl) (zz (Qm J (zy (z1 J (zz (Xa (T_r ?_))))))));refine F_r ?_
   exact Xp J J (X6 [] (by decide) J J J)
  | true =>
   rw [e2] at h2
   have hs16 := size_in e1
   have h3 := S_l02Solid l b.X b.Y (sizeOf b.Kind) hl b3 b4 hs16.1 hs16.2
   cases e3 : solidM l b.X b.Y (sizeOf b.Kind) with
   | true =>
    rw [e3] at h3
    rw [show bodyM l n b = false by rw [bodyM,e1,e2,e3]; rfl]
    refine Con.of Tryz.func96 J Tryz.ntmps96 J (fun E => ?_)
    refine zy (M1 (Qq J J J J) J J (M1 (Qq J J J J) J J (z1 J (zz (Qd (Qd (Xi u8_6 u8_7 u8_8 J (DR.s (Qf J J J J (by decide)) J J (DR.s (Qg J J J J J) J J ?_)))))))));refine DR.s (Qj J J (h1) J) J J ?_;refine DR.s (Q4 J J J) J J (DR.s (Qa J J J) J J (DR.s (Qt.yes J J J (Qf J J J J (by decide))) J J (DR.s (Qt.yes J J J (Qg J J J J J)) J J (DR.s (Qt.yes J J J (Qa J J J)) J J (DR.s (Qt.yes J J J (Xc J J J J (by omega))) J J ?_)))));refine DR.s (Qt.yes J J J (Qj J J (h2) J)) J J ?_;refine DR.s (Qt.yes J J J (Q4 J J J)) J J (DR.s (Qn J J J J) J J (DR.s (Qa J J J) J J (DR.s (Qt.yes J J J (Qu J J J J J J)) J J (DR.s (Qt.yes J J J (Qf J J J J (by decide))) J J (DR.s (Qt.yes J J J (Qg J J J J J)) J J (DR.s (Qt.yes J J J (Qf J J J J (by decide))) J J (DR.s (Qt.yes J J J (Qg J J J J J)) J J (DR.s (Qt.yes J J J (Qf J J J J (by decide))) J J (DR.s (Qt.yes J J J (Qg J J J J J)) J J ?_)))))))));refine DR.s (Qt.yes J J J (Qj J J (hsz) J)) J J ?_;refine DR.s (Qt.yes J J J (Qj J J (h3) J)) J J ?_;refine DR.s (Qn J J J J) J J (DR.s (Qa J J J) J J (DR.s (Qt.no J J J J) J J (DR.s (Qt.no J J J J) J J (DR.s (Qt.no J J J J) J J (DR.s (Qt.no J J J J) J J (DR.s (Qo J J J J) J J (DR.s (Qa J J J) J J (DR.s (Qt.no J J J J) J J (DR.s (Qt.no J J J J) J J (DR.s (Qt.no J J J J) J J (DR.s (Qt.no J J J J) J J ?_)))))))))));refine DR.s (Qo J J J J) J J (DR.stop (by kernel_rfl) (by kernel_rfl) (zz (Qm J (zy (z1 J (zz (Xa (T_r ?_))))))));refine F_r ?_
    exact Xp J J (X6 [] (by decide) J J J)
   | false =>
    rw [e3] at h3
    cases e4 : inR b.VX (-15) 15 with
    | false =>
     rw [e4] at h4
     rw [show bodyM l n b = false by rw [bodyM,e1,e2,e3,e4]; rfl]
     refine Con.of Tryz.func96 J Tryz.ntmps96 J (fun E => ?_)
     refine zy (M1 (Qq J J J J) J J (M1 (Qq J J J J) J J (z1 J (zz (Qd (Qd (Xi u8_6 u8_7 u8_8 J (DR.s (Qf J J J J (by decide)) J J (DR.s (Qg J J J J J) J J ?_)))))))));refine DR.s (Qj J J (h1) J) J J ?_;refine DR.s (Q4 J J J) J J (DR.s (Qa J J J) J J (DR.s (Qt.yes J J J (Qf J J J J (by decide))) J J (DR.s (Qt.yes J J J (Qg J J J J J)) J J (DR.s (Qt.yes J J J (Qa J J J)) J J (DR.s (Qt.yes J J J (Xc J J J J (by omega))) J J ?_)))));refine DR.s (Qt.yes J J J (Qj J J (h2) J)) J J ?_;refine DR.s (Qt.yes J J J (Q4 J J J)) J J (DR.s (Qn J J J J) J J (DR.s (Qa J J J) J J (DR.s (Qt.yes J J J (Qu J J J J J J)) J J (DR.s (Qt.yes J J J (Qf J J J J (by decide))) J J (DR.s (Qt.yes J J J (Qg J J J J J)) J J (DR.s (Qt.yes J J J (Qf J J J J (by decide))) J J (DR.s (Qt.yes J J J (Qg J J J J J)) J J (DR.s (Qt.yes J J J (Qf J J J J (by decide))) J J (DR.s (Qt.yes J J J (Qg J J J J J)) J J ?_)))))))));refine DR.s (Qt.yes J J J (Qj J J (hsz) J)) J J ?_;refine DR.s (Qt.yes J J J (Qj J J (h3) J)) J J ?_;refine DR.s (Qn J J J J) J J (DR.s (Qa J J J) J J (DR.s (Qt.yes J J J (Qf J J J J (by decide))) J J (DR.s (Qt.yes J J J (Qg J J J J J)) J J ?_)));refine DR.s (Qt.yes J J J (Qj J J (h4) J)) J J ?_;refine DR.s (Qt.yes J J J (Q4 J J J)) J J (DR.s (Qn J J J J) J J (DR.s (Qa J J J) J J (DR.s (Qt.no J J J J) J J (DR.s (Qt.no J J J J) J J (DR.s (Qt.no J J J J) J J (DR.s (Qt.no J J J J) J J (DR.s (Qo J J J J) J J (DR.stop (by kernel_rfl) (by kernel_rfl) (zz (Qm J ?_))))))))));refine zy (z1 J (zz (Xa (T_r (F_r ?_)))))
     exact Xp J J (X6 [] (by decide) J J J)
    | true =>
     rw [e4] at h4
     cases e5 : inR b.VY (-15) 15 with
     | false =>
      rw [e5] at h5
      rw [show bodyM l n b = false by rw [bodyM,e1,e2,e3,e4,e5]; rfl]
      refine Con.of Tryz.func96 J Tryz.ntmps96 J (fun E => ?_)
      refine zy (M1 (Qq J J J J) J J (M1 (Qq J J J J) J J (z1 J (zz (Qd (Qd (Xi u8_6 u8_7 u8_8 J (DR.s (Qf J J J J (by decide)) J J (DR.s (Qg J J J J J) J J ?_)))))))));refine DR.s (Qj J J (h1) J) J J ?_;refine DR.s (Q4 J J J) J J (DR.s (Qa J J J) J J (DR.s (Qt.yes J J J (Qf J J J J (by decide))) J J (DR.s (Qt.yes J J J (Qg J J J J J)) J J (DR.s (Qt.yes J J J (Qa J J J)) J J (DR.s (Qt.yes J J J (Xc J J J J (by omega))) J J ?_)))));refine DR.s (Qt.yes J J J (Qj J J (h2) J)) J J ?_;refine DR.s (Qt.yes J J J (Q4 J J J)) J J (DR.s (Qn J J J J) J J (DR.s (Qa J J J) J J (DR.s (Qt.yes J J J (Qu J J J J J J)) J J (DR.s (Qt.yes J J J (Qf J J J J (by decide))) J J (DR.s (Qt.yes J J J (Qg J J J J J)) J J (DR.s (Qt.yes J J J (Qf J J J J (by decide))) J J (DR.s (Qt.yes J J J (Qg J J J J J)) J J (DR.s (Qt.yes J J J (Qf J J J J (by decide))) J J (DR.s (Qt.yes J J J (Qg J J J J J)) J J ?_)))))))));refine DR.s (Qt.yes J J J (Qj J J (hsz) J)) J J ?_;refine DR.s (Qt.yes J J J (Qj J J (h3) J)) J J ?_;refine DR.s (Qn J J J J) J J (DR.s (Qa J J J) J J (DR.s (Qt.yes J J J (Qf J J J J (by decide))) J J (DR.s (Qt.yes J J J (Qg J J J J J)) J J ?_)));refine DR.s (Qt.yes J J J (Qj J J (h4) J)) J J ?_;refine DR.s (Qt.yes J J J (Q4 J J J)) J J (DR.s (Qn J J J J) J J (DR.s (Qa J J J) J J (DR.s (Qt.yes J J J (Qf J J J J (by decide))) J J (DR.s (Qt.yes J J J (Qg J J J J J)) J J ?_))));refine DR.s (Qt.yes J J J (Qj J J (h5) J)) J J ?_;refine DR.s (Qt.yes J J J (Q4 J J J)) J J (DR.s (Qn J J J J) J J (DR.stop (by kernel_rfl) (by kernel_rfl) (zz (Qm J (zy (z1 J (zz (Xa ?_))))))));refine T_r (F_r ?_)
      exact Xp J J (X6 [] (by decide) J J J)
     | true =>
      rw [e5] at h5
      rw [show bodyM l n b = tailM b by rw [bodyM,e1,e2,e3,e4,e5]; rfl]
      by_cases k0 : b.Kind = 0
      ·have hk : decide (b.Kind = 0) = true := decide_eq_true k0
       refine Con.of Tryz.func96 J Tryz.ntmps96 J (fun E => ?_)
       refine zy (M1 (Qq J J J J) J J (M1 (Qq J J J J) J J (z1 J (zz (Qd (Qd (Xi u8_6 u8_7 u8_8 J (DR.s (Qf J J J J (by decide)) J J (DR.s (Qg J J J J J) J J ?_)))))))));refine DR.s (Qj J J (h1) J) J J ?_;refine DR.s (Q4 J J J) J J (DR.s (Qa J J J) J J (DR.s (Qt.yes J J J (Qf J J J J (by decide))) J J (DR.s (Qt.yes J J J (Qg J J J J J)) J J (DR.s (Qt.yes J J J (Qa J J J)) J J (DR.s (Qt.yes J J J (Xc J J J J (by omega))) J J ?_)))));refine DR.s (Qt.yes J J J (Qj J J (h2) J)) J J ?_;refine DR.s (Qt.yes J J J (Q4 J J J)) J J (DR.s (Qn J J J J) J J (DR.s (Qa J J J) J J (DR.s (Qt.yes J J J (Qu J J J J J J)) J J (DR.s (Qt.yes J J J (Qf J J J J (by decide))) J J (DR.s (Qt.yes J J J (Qg J J J J J)) J J (DR.s (Qt.yes J J J (Qf J J J J (by decide))) J J (DR.s (Qt.yes J J J (Qg J J J J J)) J J (DR.s (Qt.yes J J J (Qf J J J J (by decide))) J J (DR.s (Qt.yes J J J (Qg J J J J J)) J J ?_)))))))));refine DR.s (Qt.yes J J J (Qj J J (hsz) J)) J J ?_;refine DR.s (Qt.yes J J J (Qj J J (h3) J)) J J ?_;refine DR.s (Qn J J J J) J J (DR.s (Qa J J J) J J (DR.s (Qt.yes J J J (Qf J J J J (by decide))) J J (DR.s (Qt.yes J J J (Qg J J J J J)) J J ?_)));refine DR.s (Qt.yes J J J (Qj J J (h4) J)) J J ?_;refine DR.s (Qt.yes J J J (Q4 J J J)) J J (DR.s (Qn J J J J) J J (DR.s (Qa J J J) J J (DR.s (Qt.yes J J J (Qf J J J J (by decide))) J J (DR.s (Qt.yes J J J (Qg J J J J J)) J J ?_))));refine DR.s (Qt.yes J J J (Qj J J (h5) J)) J J ?_;refine DR.s (Qt.yes J J J (Q4 J J J)) J J (DR.s (Qn J J J J) J J (DR.stop (by kernel_rfl) (by kernel_rfl) (zz (Ql J (Qh (Q0 (Qd (zy (z2 J J J ?_)))))))));refine z3 J (zz (Qk (zy (z9e J (by assumption) (z1 J (zz (Qm J (Qd ?_))))))));refine zy (z2 J J J (z3 J (zx (Z7 J J J J) J (z0 J ?_))));refine zx (Qt.grdT J J J .stop (fun hgrd => Qf J J J J (by decide))) J ?_;refine zx (Qt.grdT J J J (.hit .stop) (fun hgrd => Qg J J J J J)) J ?_;refine zx (Qt.grdT J J J (.hit (.hit .stop)) (fun hgrd => Z7 J J J J)) J ?_;refine zx (Zj J J J J) J (z0 J ?_);refine zx (Qt.grdF J J J .stop (fun hgrd => Qf J J J J (by decide))) J ?_;refine zx (Qt.grdF J J J (.hit .stop) (fun hgrd => Qg J J J J J)) J ?_;refine zx (Qt.grdF J J J (.hit (.hit .stop)) (fun hgrd => Qj J J (S_in b.Life 0 3) J)) J ?_;refine zx (Qt.grdF J J J (.hit (.hit (.hit .stop))) (fun hgrd => Q4 J J J)) J ?_;refine zx (Z8 J J J J) J (zz ?_)
       refine Xb J (fun h => ?_) (fun h => ?_)
       ·rw [show tailM b = false by
         rw [tailM,if_pos k0]
         simp only [Bool.or_eq_true,Bool.and_eq_true,decide_eq_true_eq,Bool.not_eq_true'] at h
         rcases h with h | h
         ·rw [decide_eq_false (by omega)]; rfl
         ·rw [h]; simp]
        refine zy (z1 J (zz (Xa (T_r (B_r (T_r (F_r ?_)))))))
        exact Xp J J (X6 [] (by decide) J J J)
       simp only [Bool.or_eq_false_iff,Bool.and_eq_false_iff,decide_eq_false_iff_not,Bool.not_eq_false'] at h
       have ht : tailM b = if b.Life = 0 then inR b.Timer 1 20 else inR b.Timer 0 12 := by
        rw [tailM,if_pos k0,decide_eq_true (by omega),h.2]; rfl
       by_cases l0 : b.Life = 0
       ·have hk2 : decide (b.Life = 0) = true := decide_eq_true l0
        rw [ht,if_pos l0]
        refine Qh (Q0 (Qd (zy (z2 J J J (z3 J (z9e J (by assumption) (zz (Qm J (Qd ?_)))))))));refine Qc (z2 J J J (z3 J ?_));refine zx (Qj J J (S_in b.Timer 1 20) J) J ?_;refine z1 J (zz (Xa (T_r (B_r (T_r (F_r ?_))))))
        exact Xp J J (X6 [] (by decide) J J J)
       ·have hk2 : decide (b.Life = 0) = false := decide_eq_false l0
        rw [ht,if_neg l0]
        refine Qh (Q0 (Qd (zy (z2 J J J (z3 J (z9e J (by assumption) (zz (Ql J (Qh ?_)))))))));refine Q0 (zy (z2 J J J (z3 J ?_)));refine zx (Qj J J (S_in b.Timer 0 12) J) J ?_;refine z1 J (zz (Xa (B_r (T_r (F_r ?_)))))
        exact Xp J J (X6 [] (by decide) J J J)
      have hk : decide (b.Kind = 0) = false := decide_eq_false k0
      by_cases k1 : b.Kind = 1
      ·have hk1 : decide (b.Kind = 1) = true := decide_eq_true k1
       refine Con.of Tryz.func96 J Tryz.ntmps96 J (fun E => ?_)
       refine zy (M1 (Qq J J J J) J J (M1 (Qq J J J J) J J (z1 J (zz (Qd (Qd (Xi u8_6 u8_7 u8_8 J (DR.s (Qf J J J J (by decide)) J J (DR.s (Qg J J J J J) J J ?_)))))))));refine DR.s (Qj J J (h1) J) J J ?_;refine DR.s (Q4 J J J) J J (DR.s (Qa J J J) J J (DR.s (Qt.yes J J J (Qf J J J J (by decide))) J J (DR.s (Qt.yes J J J (Qg J J J J J)) J J (DR.s (Qt.yes J J J (Qa J J J)) J J (DR.s (Qt.yes J J J (Xc J J J J (by omega))) J J ?_)))));refine DR.s (Qt.yes J J J (Qj J J (h2) J)) J J ?_;refine DR.s (Qt.yes J J J (Q4 J J J)) J J (DR.s (Qn J J J J) J J (DR.s (Qa J J J) J J (DR.s (Qt.yes J J J (Qu J J J J J J)) J J (DR.s (Qt.yes J J J (Qf J J J J (by decide))) J J (DR.s (Qt.yes J J J (Qg J J J J J)) J J (DR.s (Qt.yes J J J (Qf J J J J (by decide))) J J (DR.s (Qt.yes J J J (Qg J J J J J)) J J (DR.s (Qt.yes J J J (Qf J J J J (by decide))) J J (DR.s (Qt.yes J J J (Qg J J J J J)) J J ?_)))))))));refine DR.s (Qt.yes J J J (Qj J J (hsz) J)) J J ?_;refine DR.s (Qt.yes J J J (Qj J J (h3) J)) J J ?_;refine DR.s (Qn J J J J) J J (DR.s (Qa J J J) J J (DR.s (Qt.yes J J J (Qf J J J J (by decide))) J J (DR.s (Qt.yes J J J (Qg J J J J J)) J J ?_)));refine DR.s (Qt.yes J J J (Qj J J (h4) J)) J J ?_;refine DR.s (Qt.yes J J J (Q4 J J J)) J J (DR.s (Qn J J J J) J J (DR.s (Qa J J J) J J (DR.s (Qt.yes J J J (Qf J J J J (by decide))) J J (DR.s (Qt.yes J J J (Qg J J J J J)) J J ?_))));refine DR.s (Qt.yes J J J (Qj J J (h5) J)) J J ?_;refine DR.s (Qt.yes J J J (Q4 J J J)) J J (DR.s (Qn J J J J) J J (DR.stop (by kernel_rfl) (by kernel_rfl) (zz (Ql J (Qh (Q0 (Qd (zy (z2 J J J ?_)))))))));refine z3 J (zz (Qk (zy (z9e J (by assumption) (z1 J (zz (Ql J (Qd ?_))))))));refine Qc (z9e J (by assumption) (z1 J (zz (Qm J (zy (z2 J J J (z3 J (zx (Zu J J J J) J (z0 J ?_)))))))));refine zx (Qt.grdT J J J .stop (fun hgrd => Qf J J J J (by decide))) J ?_;refine zx (Qt.grdT J J J (.hit .stop) (fun hgrd => Qg J J J J J)) J ?_;refine zx (Qt.grdT J J J (.hit (.hit .stop)) (fun hgrd => Zu J J J J)) J ?_;refine zx (Zj J J J J) J (z0 J ?_);refine zx (Qt.grdT J J J .stop (fun hgrd => Qf J J J J (by decide))) J ?_;refine zx (Qt.grdT J J J (.hit .stop) (fun hgrd => Qg J J J J J)) J ?_;refine zx (Qt.grdT J J J (.hit (.hit .stop)) (fun hgrd => Qj J J (S_in b.Timer 1 25) J)) J ?_;refine zx (Zj J J J J) J (z1 J (zz (Xa (B_r (T_r (F_r ?_))))))
       exact Xp J J (X6 [] (by decide) J J (Xk (by rw [tailM,if_neg k0,if_pos k1,← Bool.decide_and])))
      ·have hk1 : decide (b.Kind = 1) = false := decide_eq_false k1
       refine Con.of Tryz.func96 J Tryz.ntmps96 J (fun E => ?_)
       refine zy (M1 (Qq J J J J) J J (M1 (Qq J J J J) J J (z1 J (zz (Qd (Qd (Xi u8_6 u8_7 u8_8 J (DR.s (Qf J J J J (by decide)) J J (DR.s (Qg J J J J J) J J ?_)))))))));refine DR.s (Qj J J (h1) J) J J ?_;refine DR.s (Q4 J J J) J J (DR.s (Qa J J J) J J (DR.s (Qt.yes J J J (Qf J J J J (by decide))) J J (DR.s (Qt.yes J J J (Qg J J J J J)) J J (DR.s (Qt.yes J J J (Qa J J J)) J J (DR.s (Qt.yes J J J (Xc J J J J (by omega))) J J ?_)))));refine DR.s (Qt.yes J J J (Qj J J (h2) J)) J J ?_;refine DR.s (Qt.yes J J J (Q4 J J J)) J J (DR.s (Qn J J J J) J J (DR.s (Qa J J J) J J (DR.s (Qt.yes J J J (Qu J J J J J J)) J J (DR.s (Qt.yes J J J (Qf J J J J (by decide))) J J (DR.s (Qt.yes J J J (Qg J J J J J)) J J (DR.s (Qt.yes J J J (Qf J J J J (by decide))) J J (DR.s (Qt.yes J J J (Qg J J J J J)) J J (DR.s (Qt.yes J J J (Qf J J J J (by decide))) J J (DR.s (Qt.yes J J J (Qg J J J J J)) J J ?_)))))))));refine DR.s (Qt.yes J J J (Qj J J (hsz) J)) J J ?_;refine DR.s (Qt.yes J J J (Qj J J (h3) J)) J J ?_;refine DR.s (Qn J J J J) J J (DR.s (Qa J J J) J J (DR.s (Qt.yes J J J (Qf J J J J (by decide))) J J (DR.s (Qt.yes J J J (Qg J J J J J)) J J ?_)));refine DR.s (Qt.yes J J J (Qj J J (h4) J)) J J ?_;refine DR.s (Qt.yes J J J (Q4 J J J)) J J (DR.s (Qn J J J J) J J (DR.s (Qa J J J) J J (DR.s (Qt.yes J J J (Qf J J J J (by decide))) J J (DR.s (Qt.yes J J J (Qg J J J J J)) J J ?_))));refine DR.s (Qt.yes J J J (Qj J J (h5) J)) J J ?_;refine DR.s (Qt.yes J J J (Q4 J J J)) J J (DR.s (Qn J J J J) J J (DR.stop (by kernel_rfl) (by kernel_rfl) (zz (Ql J (Qh (Q0 (Qd (zy (z2 J J J ?_)))))))));refine z3 J (zz (Qk (zy (z9e J (by assumption) (z1 J (zz (Ql J (Qd ?_))))))));refine Qc (z9e J (by assumption) (z1 J (zz (Ql J (Qh (Q1 (Q0 (zy (z2 J J J ?_)))))))));refine z3 J (zx (Zu J J J J) J (z0 J ?_));refine zx (Qt.grdT J J J .stop (fun hgrd => Qf J J J J (by decide))) J ?_;refine zx (Qt.grdT J J J (.hit .stop) (fun hgrd => Qg J J J J J)) J ?_;refine zx (Qt.grdT J J J (.hit (.hit .stop)) (fun hgrd => Zu J J J J)) J ?_;refine zx (Zj J J J J) J (z0 J ?_);refine zx (Qt.grdT J J J .stop (fun hgrd => Qf J J J J (by decide))) J ?_;refine zx (Qt.grdT J J J (.hit .stop) (fun hgrd => Qg J J J J J)) J ?_;refine zx (Qt.grdT J J J (.hit (.hit .stop)) (fun hgrd => Zu J J J J)) J ?_;refine zx (Zj J J J J) J (z0 J ?_);refine zx (Qt.grdT J J J .stop (fun hgrd => Qf J J J J (by decide))) J ?_;refine zx (Qt.grdT J J J (.hit .stop) (fun hgrd => Qg J J J J J)) J ?_;refine zx (Qt.grdT J J J (.hit (.hit .stop)) (fun hgrd => Zu J J J J)) J ?_;refine zx (Zj J J J J) J (z1 J (zz (Xa (F_r ?_))))
       exact Xp J J (X6 [] (by decide) J J (Xk (by rw [tailM,if_neg k0,if_neg k1]; simp only [Bool.decide_and,Bool.and_assoc])))
theorem I_BodyOk (l : TLevel) (n : Int) (b : TBody) (hg : Enc.gd l) (hb : Enc.gd b) (hn : 0 ≤ n ∧ n ≤ 1099511627776) : Con Tryz.prog 115 [] [ag l,ai n,ag b] [] (B (levelOk l && bodyM l n b)) := by
 obtain ⟨b1,b2,b3,b4,b5,b6,b7,b8,b9⟩ := hb
 have hc := Xu l hg
 cases hl : levelOk l with
 | false =>
  rw [hl] at hc
  rw [Bool.false_and]
  refine Con.of Tryz.func115 J Tryz.ntmps115 J (fun E => ?_)
  refine zy (M1 (Qq J J J J) J J (M1 (Qq J J J J) J J (z1 J (zz (Qd (zy (z4 J J J ?_)))))));refine zx (Qj J J (hc) J) J ?_;refine zn J (z0 J (z6 J (z6 J (z6 J (zpT J (z0 J (z6 J (z6 J (z6 J (zpT J (Qe ?_)))))))))));refine Q0 (Qm J (zy (z1 J (zz (Xa (T_r (F_r ?_)))))))
  exact Xp J J (X6 [] (by decide) J J J)
 | true =>
  rw [hl] at hc
  rw [Bool.true_and]
  refine Con.of Tryz.func115 J Tryz.ntmps115 J (fun E => ?_)
  refine zy (M1 (Qq J J J J) J J (M1 (Qq J J J J) J J (z1 J (zz (Qd (zy (z4 J J J ?_)))))));refine zx (Qj J J (hc) J) J ?_;refine zn J (z0 J (z5 J (z2 J J J (z5 J (z3 J (z5 J (zx (Z5 J J J J) J (zpF J (z0 J ?_)))))))));refine zx (Qt.grdF J J J .stop (fun hgrd => Qf J J J J (by decide))) J ?_;refine zx (Qt.grdF J J J (.hit .stop) (fun hgrd => Qg J J J J J)) J ?_;refine zx (Qt.grdF J J J (.hit (.hit .stop)) (fun hgrd => Zy J J J J)) J ?_;refine zx (Z8 J J J J) J (zz ?_)
  refine Xb J (fun h => ?_) (fun h => ?_)
  ·simp only [Bool.or_eq_true,decide_eq_true_eq] at h
   have e1 : inR b.Kind 0 2 = false := by rw [← Bool.not_eq_true,Y3]; omega
   rw [show bodyM l n b = false by rw [bodyM,e1]; rfl]
   refine zy (z1 J (zz (Xa (T_r (F_r ?_)))))
   exact Xp J J (X6 [] (by decide) J J J)
  simp only [Bool.or_eq_false_iff,decide_eq_false_iff_not] at h
  have e1 : inR b.Kind 0 2 = true := Y3.2 (by omega)
  have hs16 := size_in e1
  refine Qh (Q0 (Qd (zy (z2 J J J (z3 J (zx (Z5 J J J J) J (z0 J ?_)))))));refine zx (Qt.grdF J J J .stop (fun hgrd => Qf J J J J (by decide))) J ?_;refine zx (Qt.grdF J J J (.hit .stop) (fun hgrd => Qg J J J J J)) J ?_;refine zx (Qt.grdF J J J (.hit (.hit .stop)) (fun hgrd => Qa J J J)) J ?_;refine zx (Qt.grdF J J J (.hit (.hit (.hit .stop))) (fun hgrd => q_geq J J J J)) J ?_;refine zx (Z8 J J J J) J (z0 J ?_);refine zx (Qt.grdF J J J .stop (fun hgrd => Qf J J J J (by decide))) J ?_;refine zx (Qt.grdF J J J (.hit .stop) (fun hgrd => Qg J J J J J)) J ?_;refine zx (Qt.grdF J J J (.hit (.hit .stop)) (fun hgrd => Zu J J J J)) J ?_;refine zx (Qt.grdF J J J (.hit (.hit (.hit .stop))) (fun hgrd => Qa J J J)) J ?_;refine zx (Qt.grd2T J J J (.hit1 (.hit1 (.hit1 (.hit1 .stop)))) (fun hgrd hgrd2 => Qf J J J J (by decide))) J ?_;refine zx (Qt.grd2T J J J (.hit (.hit1 (.hit1 (.hit1 (.hit1 .stop))))) (fun hgrd hgrd2 => Qg J J J J J)) J ?_;refine zx (Qt.grd2T J J J (.hit (.hit (.hit1 (.hit1 (.hit1 (.hit1 .stop)))))) (fun hgrd hgrd2 => Z7 J J J J)) J ?_;refine zx (Qt.grdF J J J (.part (.part (.part (.hit (.hit (.hit (.hit .stop))))))) (fun hgrd => Zj J J J J)) J ?_;refine zx (Z8 J J J J) J (zz ?_)
  refine Xb J (fun h2 => ?_) (fun h2 => ?_)
  ·simp only [Bool.or_eq_true,Bool.and_eq_true,decide_eq_true_eq] at h2
   rw [show bodyM l n b = false by
    by_cases ho : 0 ≤ b.Owner ∧ b.Owner ≤ n - 1
    ·have hk : b.Kind = 2 ∧ b.Owner ≠ 0 := by omega
     have ht : tailM b = false := by rw [tailM,if_neg (by omega),if_neg (by omega),decide_eq_false (fun hh => hk.2 hh.1)]
     rw [bodyM,ht]; simp
    ·have e2 : inR b.Owner 0 (n - 1) = false := by rw [← Bool.not_eq_true,Y3]; exact ho
     rw [bodyM,e2]; simp]
   refine zy (z1 J (zz (Xa (T_r (F_r ?_)))))
   exact Xp J J (X6 [] (by decide) J J J)
  simp only [Bool.or_eq_false_iff,Bool.and_eq_false_iff,decide_eq_false_iff_not] at h2
  have e2 : inR b.Owner 0 (n - 1) = true := Y3.2 (by omega)
  have hsz := I_SizeOf b.Kind
  have h3 := I_SolidAt l b.X b.Y (sizeOf b.Kind) hg b3 b4
  rw [show solidAt l b.X b.Y (sizeOf b.Kind) = solidM l b.X b.Y (sizeOf b.Kind) by rw [solidAt,hl,Y3.2 hs16]; rfl] at h3
  cases e3 : solidM l b.X b.Y (sizeOf b.Kind) with
  | true =>
   rw [e3] at h3
   rw [show bodyM l n b = false by rw [bodyM,e1,e2,e3]; rfl]
   refine Qh (Q0 (Qd (Qd (Xi u8_9 u8_10 u8_11 J (DR.s (Qu J J J J J J) J J (DR.s (Qf J J J J (by decide)) J J (DR.s (Qg J J J J J) J J (DR.s (Qf J J J J (by decide)) J J (DR.s (Qg J J J J J) J J (DR.s (Qf J J J J (by decide)) J J (DR.s (Qg J J J J J) J J ?_)))))))))));refine DR.s (Qj J J (hsz) J) J J ?_;refine DR.s (Qj J J (h3) J) J J ?_;refine DR.stop (by kernel_rfl) (by kernel_rfl) (zz (Qm J (zy (z1 J (zz (Xa (T_r (F_r ?_))))))))
   exact Xp J J (X6 [] (by decide) J J J)
  | false =>
   rw [e3] at h3
   refine Qh (Q0 (Qd (Qd (Xi u8_9 u8_10 u8_11 J (DR.s (Qu J J J J J J) J J (DR.s (Qf J J J J (by decide)) J J (DR.s (Qg J J J J J) J J (DR.s (Qf J J J J (by decide)) J J (DR.s (Qg J J J J J) J J (DR.s (Qf J J J J (by decide)) J J (DR.s (Qg J J J J J) J J ?_)))))))))));refine DR.s (Qj J J (hsz) J) J J ?_;refine DR.s (Qj J J (h3) J) J J ?_;refine DR.stop (by kernel_rfl) (by kernel_rfl) (zz (Ql J (Qh (Q0 (Qd (zy (z2 J J J (z3 J ?_))))))));refine zx (Qj J J (Xw b.VX (-15) 15) J) J ?_;refine zn J (z0 J ?_);refine zx (Qt.grdF J J J .stop (fun hgrd => Qf J J J J (by decide))) J ?_;refine zx (Qt.grdF J J J (.hit .stop) (fun hgrd => Qg J J J J J)) J ?_;refine zx (Qt.grdF J J J (.hit (.hit .stop)) (fun hgrd => Qj J J (Xw b.VY (-15) 15) J)) J ?_;refine zx (Qt.grdF J J J (.hit (.hit (.hit .stop))) (fun hgrd => Q4 J J J)) J ?_;refine zx (Z8 J J J J) J (zz ?_)
   refine Xb J (fun h4 => ?_) (fun h4 => ?_)
   ·simp only [Bool.or_eq_true,Bool.not_eq_true'] at h4
    rw [show bodyM l n b = false by rw [bodyM]; rcases h4 with h4 | h4 <;> rw [h4] <;> simp]
    refine zy (z1 J (zz (Xa (T_r (F_r ?_)))))
    exact Xp J J (X6 [] (by decide) J J J)
   simp only [Bool.or_eq_false_iff,Bool.not_eq_false'] at h4
   rw [show bodyM l n b = tailM b by rw [bodyM,e1,e2,e3,h4.1,h4.2]; rfl]
   by_cases k0 : b.Kind = 0
   ·have hk : decide (b.Kind = 0) = true := decide_eq_true k0
    refine Qh (Q0 (Qd (zy (z2 J J J (z3 J (z9e J (by assumption) (zz (Qm J (Qd ?_)))))))));refine zy (z2 J J J (z3 J (zx (Z7 J J J J) J (z0 J ?_))));refine zx (Qt.grdT J J J .stop (fun hgrd => Qf J J J J (by decide))) J ?_;refine zx (Qt.grdT J J J (.hit .stop) (fun hgrd => Qg J J J J J)) J ?_;refine zx (Qt.grdT J J J (.hit (.hit .stop)) (fun hgrd => Z7 J J J J)) J ?_;refine zx (Zj J J J J) J (z0 J ?_);refine zx (Qt.grdF J J J .stop (fun hgrd => Qf J J J J (by decide))) J ?_;refine zx (Qt.grdF J J J (.hit .stop) (fun hgrd => Qg J J J J J)) J ?_;refine zx (Qt.grdF J J J (.hit (.hit .stop)) (fun hgrd => Qj J J (Xw b.Life 0 3) J)) J ?_;refine zx (Qt.grdF J J J (.hit (.hit (.hit .stop))) (fun hgrd => Q4 J J J)) J ?_;refine zx (Z8 J J J J) J (zz ?_)
    refine Xb J (fun h => ?_) (fun h => ?_)
    ·rw [show tailM b = false by
      rw [tailM,if_pos k0]
      simp only [Bool.or_eq_true,Bool.and_eq_true,decide_eq_true_eq,Bool.not_eq_true'] at h
      rcases h with h | h
      ·rw [decide_eq_false (by omega)]; rfl
      ·rw [h]; simp]
     refine zy (z1 J (zz (Xa (T_r (T_r (F_r ?_))))))
     exact Xp J J (X6 [] (by decide) J J J)
    simp only [Bool.or_eq_false_iff,Bool.and_eq_false_iff,decide_eq_false_iff_not,Bool.not_eq_false'] at h
    have hlf := Y3.1 h.2
    have ht : tailM b = if b.Life = 0 then inR b.Timer 1 20 else inR b.Timer 0 12 := by
     rw [tailM,if_pos k0,decide_eq_true (by omega),h.2]; rfl
    by_cases l0 : b.Life = 0
    ·have hk2 : decide (0 < b.Life) = false := decide_eq_false (by omega)
     rw [ht,if_pos l0]
     refine Qh (Q0 (Qd (zy (z2 J J J (z3 J (z9c J (by assumption) (zz (Ql J (Qh ?_)))))))));refine Q0 (zy (z2 J J J (z3 J ?_)));refine zx (Qj J J (Xw b.Timer 1 20) J) J ?_;refine z1 J (zz (Xa (T_r (F_r ?_))))
     exact Xp J J (X6 [] (by decide) J J J)
    ·have hk2 : decide (0 < b.Life) = true := decide_eq_true (by omega)
     rw [ht,if_neg l0]
     refine Qh (Q0 (Qd (zy (z2 J J J (z3 J (z9c J (by assumption) (zz (Qm J (Qd ?_)))))))));refine Qc (z2 J J J (z3 J ?_));refine zx (Qj J J (Xw b.Timer 0 12) J) J ?_;refine z1 J (zz (Xa (T_r (T_r (F_r ?_)))))
     exact Xp J J (X6 [] (by decide) J J J)
   have hk : decide (b.Kind = 0) = false := decide_eq_false k0
   refine Qh (Q0 (Qd (zy (z2 J J J (z3 J (z9e J (by assumption) (zz (Ql J (Qh ?_)))))))));refine Q0 (Qd (zy (z2 J J J (z3 J (zx (Z7 J J J J) J (z0 J ?_))))));refine zx (Qt.grdF J J J .stop (fun hgrd => Qf J J J J (by decide))) J ?_;refine zx (Qt.grdF J J J (.hit .stop) (fun hgrd => Qg J J J J J)) J ?_;refine zx (Qt.grdF J J J (.hit (.hit .stop)) (fun hgrd => Z7 J J J J)) J ?_;refine zx (Z8 J J J J) J (zz ?_)
   refine Xb J (fun h5 => ?_) (fun h5 => ?_)
   ·simp only [Bool.or_eq_true,decide_eq_true_eq] at h5
    rw [show tailM b = false by
     rw [tailM,if_neg k0]
     split
     ·rw [decide_eq_false (by omega)]; rfl
     ·exact decide_eq_false (by omega)]
    refine zy (z1 J (zz (Xa (T_r (F_r ?_)))))
    exact Xp J J (X6 [] (by decide) J J J)
   simp only [Bool.or_eq_false_iff,decide_eq_false_iff_not] at h5
   by_cases k1 : b.Kind = 1
   ·have hk1 : decide (b.Kind = 1) = true := decide_eq_true k1
    rw [show tailM b = inR b.Timer 1 25 by rw [tailM,if_neg k0,if_pos k1,decide_eq_true (by omega)]; rfl]
    refine Qh (Q0 (Qd (zy (z2 J J J (z3 J (z9e J (by assumption) (zz (Qm J (Qd ?_)))))))));refine Qc (z2 J J J (z3 J ?_));refine zx (Qj J J (Xw b.Timer 1 25) J) J ?_;refine z1 J (zz (Xa (T_r (F_r ?_))))
    exact Xp J J (X6 [] (by decide) J J J)
   ·have hk1 : decide (b.Kind = 1) = false := decide_eq_false k1
    rw [show tailM b = decide (b.Timer = 0) by rw [tailM,if_neg k0,if_neg k1]; exact decide_eq_decide.2 (by omega)]
    refine Qh (Q0 (Qd (zy (z2 J J J (z3 J (z9e J (by assumption) (zz (Ql J (Qh ?_)))))))));refine Q0 (zy (z2 J J J (z3 J (zx (Zu J J J J) J (z1 J (zz (Xa (F_r ?_))))))))
    exact Xp J J (X6 [] (by decide) J J J)
end
end Go.Proofs.YtbfhboakafjjgaaGreat
