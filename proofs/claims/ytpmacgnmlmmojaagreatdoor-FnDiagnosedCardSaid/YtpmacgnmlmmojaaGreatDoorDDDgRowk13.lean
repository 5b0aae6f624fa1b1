/-
  Parts of the proof (rules, data, and what functions of the program and of the reference return), among them: What is valid: numbers in a range, rows of inputs, levels, replays; in the program and in the reference; What a valid level is, in the program and in the reference.
  Conditions: those that each theorem names.
-/
import Derived.ProofKit
import Derived.Deep.Slices
import Derived.Test.YtpmacgnmlmmojaaGreatDoorDDDgRowk10
import Derived.Test.YtpmacgnmlmmojaaGreatDoorDDDgRowk11
import Derived.Test.YtpmacgnmlmmojaaGreatDoorDDDgRowk12
set_option linter.unusedVariables false
set_option linter.unusedSimpArgs false
set_option maxRecDepth 8000
set_option maxHeartbeats 8000000
namespace Go.Proofs.YtpmacgnmlmmojaaGreatDoor
section
open Go.RowKit Go.ChangeShapes Go.WideShapes Go.Deep

def I64 (x : Int) : Prop := -9223372036854775808 ≤ x ∧ x ≤ 9223372036854775807

class Enc (α : Type) where
 k : Nat
 pos : 0 < k
 e : α → List T
 len : ∀ x,(e x).length = k
 gd : α → Prop
 wt : α → Nat
instance : Enc Int := ⟨1,by omega,fun x => [.v (.int .i64 x)],fun _ => rfl,I64,fun _ => 0⟩
instance : Enc Bool := ⟨1,by omega,fun x => [.v (.bool x)],fun _ => rfl,fun _ => True,fun _ => 0⟩
instance : Enc ByteArray := ⟨1,by omega,fun x => [.v (.string x)],fun _ => rfl,fun x => x.size ≤ 9223372036854775807,fun x => x.size⟩
def wts {α : Type} [Enc α] : List α → Nat
 | [] => 0
 | x :: xs => Enc.wt x + wts xs
@[reducible] def els {α : Type} [Enc α] (xs : List α) : List (List T) := xs.map Enc.e
instance {α : Type} [Enc α] : Enc (List α) := ⟨1,by omega,fun xs => [.sl (Enc.k α) (els xs)],fun _ => rfl,fun xs => xs.length ≤ 9223372036854775807 ∧ ∀ x ∈ xs,Enc.gd x,fun xs => xs.length + wts xs⟩

@[reducible] def sl {α : Type} [Enc α] (xs : List α) : T := .sl (Enc.k α) (els xs)
@[reducible] def ai (n : Int) : V2 := .c (.rd [] (.v (.int .i64 n)))
@[reducible] def astr (s : ByteArray) : V2 := .c (.rd [] (.v (.string s)))
@[reducible] def al {α : Type} [Enc α] (xs : List α) : V2 := .c (.rd [] (sl xs))
@[reducible] def ag {α : Type} [Enc α] (x : α) : V2 := .ag ((Enc.e x).map (V1.rd []))
@[reducible] def L {α : Type} [Enc α] (xs : List α) : V := .o (al xs)

class PlainE (α : Type) [Enc α] : Prop where
 plain : ∀ (x : α) (t : T),t ∈ Enc.e x → ∃ u,t = .v u
instance : PlainE Int := ⟨fun x t h => by simp [Enc.e] at h; exact ⟨_,h⟩⟩
instance : PlainE Bool := ⟨fun x t h => by simp [Enc.e] at h; exact ⟨_,h⟩⟩
instance : PlainE ByteArray := ⟨fun x t h => by simp [Enc.e] at h; exact ⟨_,h⟩⟩
theorem Yn {α : Type} [Enc α] [PlainE α] (xs : List α) : plainT (els xs) := fun e he t ht => by
 obtain ⟨x,_,rfl⟩ := List.mem_map.1 he
 exact PlainE.plain x t ht
theorem els_k {α : Type} [Enc α] (xs : List α) : ∀ e ∈ els xs,e.length = Enc.k α := fun e he => by
 obtain ⟨x,_,rfl⟩ := List.mem_map.1 he
 exact Enc.len x
@[reducible] def bs (l : List UInt8) : ByteArray := ⟨l.toArray⟩
theorem bs_app (a b : List UInt8) : bs a ++ bs b = bs (a ++ b) := by
 apply ByteArray.ext
 rw [ByteArray.data_append]
 simp [bs]
theorem Yg (l : List UInt8) : (bs l).size = l.length := by simp [bs,ByteArray.size]
theorem Yj (a b : ByteArray) : (a ++ b).size = a.size + b.size := by simp [ByteArray.size_append]
theorem Yf (l : List UInt8) : (bs l).data.toList = l := by simp [bs]
theorem S_eq {a b : ByteArray} (h : a = b) : S a = S b := by rw [h]
theorem bE_app (a b : List UInt8) : bE a ++ bE b = bE (a ++ b) := by simp [bE]
theorem bE_snoc (a : List UInt8) (n : Int) (h : 0 ≤ n ∧ n ≤ 255) : bE a ++ [[.v (.int .u8 n)]] = bE (a ++ [UInt8.ofNat n.toNat]) := by
 have h1 : ((UInt8.ofNat n.toNat).toNat : Int) = n := by
  rw [UInt8.toNat_ofNat']
  omega
 unfold bE
 rw [List.map_append,List.map_cons,List.map_nil,h1]

theorem Yl {α : Type} [Enc α] {xs : List α} {k : Nat} (h : k < xs.length) : (els xs)[(k : Int).toNat]? = some (Enc.e xs[k]) := by simp [els,h]
theorem Ym {α : Type} [Enc α] (xs : List α) : (els xs).length = xs.length := by simp [els]
/-! ### Readings -/
theorem list_of_each {α : Type} {p : Nat → α → Prop} : ∀ n : Nat,(∀ i,i < n → ∃ y,p i y) → ∃ ys : List α,ys.length = n ∧ ∀ (i : Nat) (y : α),ys[i]? = some y → p i y
 | 0,_ => ⟨[],rfl,fun _ _ h => by simp at h⟩
 | n + 1,h => by
  obtain ⟨ys,h1,h2⟩ := list_of_each n fun i hi => h i (by omega)
  obtain ⟨y,hy⟩ := h n (by omega)
  refine ⟨ys ++ [y],by simp [h1],fun i z hz => ?_⟩
  rcases Nat.lt_or_ge i ys.length with hi | hi
  ·rw [List.getElem?_append_left hi] at hz
   exact h2 i z hz
  ·rw [List.getElem?_append_right hi] at hz
   have hi0 : i - ys.length = 0 := by
    rcases Nat.eq_zero_or_pos (i - ys.length) with h0 | h0
    ·exact h0
    ·rw [List.getElem?_eq_none (by simp; omega)] at hz
     cases hz
   rw [hi0] at hz
   simp only [List.getElem?_cons_zero,Option.some.injEq] at hz
   subst hz
   have : i = n := by omega
   subst this
   exact hy

def Reads {α : Type} [Enc α] (w : World) (x : α) (cs : List Value) : Prop := cs.length = Enc.k α ∧ ∀ (j : Nat) (t : T) (u : Value),(Enc.e x)[j]? = some t → cs[j]? = some u → RO w (fun _ => True) t u

class RdOf (P : Program) (t : TypeId) (α : outParam Type) [Enc α] : Prop where
 size : P.cellsOf t = Enc.k α
 of : ∀ {H : Type} {enc : TypeId × Value → H} {w : World} {spare : Nat → Bool} {held : Bool} {fuel : Nat} {cs : List Value} {x : DataW H × List MemPlace},
  DataW.trod enc P w 0 spare held fuel t cs = some x → ∃ y : α,Enc.gd y ∧ Reads w y cs

theorem i64_of_wf {n : Int} (h : (Lit.int .i64 n).wf = true) : I64 n := by
 simp [Lit.wf,IntKind.min,IntKind.max,IntKind.signed,IntKind.bits] at h
 exact ⟨by omega,by omega⟩
theorem reads_one {α : Type} [Enc α] {w : World} {x : α} {t : T} {u : Value} (he : Enc.e x = [t]) (h : RO w (fun _ => True) t u) : Reads w x [u] := by
 refine ⟨by rw [← Enc.len x,he]; rfl,fun j t' u' h1 h2 => ?_⟩
 rw [he] at h1
 cases j with
 | zero => simp at h1 h2; subst h1 h2; exact h
 | succ j => simp at h1
theorem rdOf_int {P : Program} {t : TypeId} (ht : P.underlying t = some (.int .i64)) (hs : P.cellsOf t = 1) : RdOf P t Int where
 size := hs
 of h := by
  obtain ⟨n,rfl,_,h3⟩ := DataW.trod_int ht h
  exact ⟨n,i64_of_wf h3,reads_one J (.v _ J)⟩
theorem rdOf_string {P : Program} {t : TypeId} (ht : P.underlying t = some .string) (hs : P.cellsOf t = 1) : RdOf P t ByteArray where
 size := hs
 of h := by
  obtain ⟨s,rfl,_,h3⟩ := DataW.trod_string ht h
  exact ⟨s,by simpa [maxLen,Enc.gd] using h3,reads_one J (.v _ J)⟩
theorem rdOf_slice {P : Program} {t e : TypeId} {α : Type} [Enc α] [hα : RdOf P e α] (ht : P.underlying t = some (.slice e)) (hs : P.cellsOf t = 1) : RdOf P t (List α) where
 size := hs
 of {H enc w spare held fuel cs x} h := by
  rcases open_slice ht h with ⟨rfl,_⟩ | ⟨a,len,cap,m,n,D,Pl,rfl,_,hl,hm,hmm,_,hi⟩
  ·exact ⟨[],⟨by simp,by simp⟩,reads_one rfl (.nil _ _ _ (by simp [maxLen]))⟩
  ·have hlm : len ≤ m := by rw [hmm]; split <;> omega
   obtain ⟨ys,h1,h2⟩ := list_of_each (p := fun i y => ∃ es,w.cells? 0 (a.add (i * P.cellsOf e)) (P.cellsOf e) = some es ∧ Enc.gd (α := α) y ∧ Reads w y es) len fun i hi' => by
    obtain ⟨es,h3,h4⟩ := hi i (by omega)
    obtain ⟨y,hy⟩ := hα.of h4
    exact ⟨y,es,h3,hy⟩
   subst h1
   refine ⟨ys,⟨by simp [maxLen] at hm; omega,fun y hy => ?_⟩,?_⟩
   ·obtain ⟨i,hi'⟩ := List.getElem?_of_mem hy
    obtain ⟨es,_,hg,_⟩ := h2 i y hi'
    exact hg
   refine reads_one J ?_
   rcases Nat.eq_zero_or_pos ys.length with h0 | h0
   ·have := List.eq_nil_of_length_eq_zero h0
    subst this
    exact .nil _ _ _ hm
   ·have hsp : a.spot = none := by
     obtain ⟨es,h3,_⟩ := h2 0 _ (List.getElem?_eq_getElem h0)
     obtain ⟨_,hcl,hat⟩ := World.cells?_some h3
     have hp : 0 < P.cellsOf e := by rw [hα.size]; exact Enc.pos
     have := hat 0 hp
     rw [List.getElem?_eq_getElem (by omega)] at this
     have h5 := World.cell?_spot this
     simpa [Addr.add] using h5
    obtain ⟨b,o,sp⟩ := a
    simp only at hsp
    subst hsp
    have hel : ∀ i,i < ys.length → ∃ es,w.cells? 0 ((⟨b,o,none⟩ : Addr).add (i * P.cellsOf e)) (P.cellsOf e) = some es := fun i hi' => by
     obtain ⟨es,h3,_⟩ := h2 i _ (List.getElem?_eq_getElem hi')
     exact ⟨es,h3⟩
    have hlen : ys.length = (els ys).length := (Ym ys).symm
    rw [hlen]
    refine .sl (els ys) b o (Enc.k α) cap (fun i j => ((w.cells? 0 ((⟨b,o,none⟩ : Addr).add (i * P.cellsOf e)) (P.cellsOf e)).getD []).getD j undef) trivial (by rw [Ym]; exact hl) hm Enc.pos (fun e' he => ?_) (fun i j hi' hj => ?_) fun i j e' t' h3 h4 => ?_
    ·obtain ⟨y,_,rfl⟩ := List.mem_map.1 he
     exact Enc.len y
    ·rw [Ym] at hi'
     obtain ⟨es,h3⟩ := hel i hi'
     obtain ⟨_,hcl,hat⟩ := World.cells?_some h3
     rw [hα.size] at hcl
     have h5 := hat j (by rw [hα.size]; exact hj)
     rw [add_lit,add_lit,hα.size,List.getElem?_eq_getElem (by omega)] at h5
     rw [h3]
     simp only [Option.getD_some]
     rw [h5,List.getD_eq_getElem?_getD,List.getElem?_eq_getElem (by omega)]
     rfl
    ·rw [List.getElem?_map] at h3
     obtain ⟨y,hy,rfl⟩ := Option.map_eq_some_iff.1 h3
     obtain ⟨es,h5,_,h6⟩ := h2 i y hy
     have hj : j < es.length := by rw [h6.1,← Enc.len y]; exact Yx h4
     show RO w _ t' (((w.cells? 0 ((⟨b,o,none⟩ : Addr).add (i * P.cellsOf e)) (P.cellsOf e)).getD []).getD j undef)
     rw [h5]
     simp only [Option.getD_some]
     rw [Yw (List.getElem?_eq_getElem hj)]
     exact h6.2 j t' _ h4 (List.getElem?_eq_getElem hj)

theorem reads_of_Trod {P : Program} {t : TypeId} {α : Type} [Enc α] [hα : RdOf P t α] {H : Type} {enc : TypeId × Value → H} {w : World} {spare : Nat → Bool} {held : Bool} {v : Value} {d : DataW H} {p : List MemPlace}
  (h : DataW.Trod enc P w 0 spare held t v d p) : ∃ y : α,Enc.gd y ∧ Reads w y v.cells.toList := by
 obtain ⟨fuel,hf⟩ := h
 exact hα.of hf

theorem r2_slice {α : Type} [Enc α] {w : World} {H : Hs} {xs : List α} {v : Value} (h : Reads w xs [v]) : R2 w H (fun b => b < w.heap.size) (al xs) v :=
 RO.weak (h.2 0 _ v J J) fun b _ hb => .inl hb
theorem law_calls {P : Program} {f : FuncId} {args : List V2} (hc : Con P f [] args [] (B true)) (w : World) (vs : List Value) (hl : vs.length = args.length) (hr : ∀ (i : Nat) (x : V2) (v : Value),args[i]? = some x → vs[i]? = some v → R2 w (fun _ => .nil) (fun b => b < w.heap.size) x v) :
  Calls P f vs.toArray w fun e w' => e = .returned (.bool true) ∧ Below w.heap.size w w' := by
 refine (hc w (fun _ => .nil) (fun b => b < w.heap.size) vs ⟨fun _ => trivial,fun _ => by simp [Pc.fp],fun p q b h => by simp [Pc.fp] at h,fun p b h => by simp [Pc.fp] at h,fun _ h => h⟩ (fun p => by simp [RB]) hl hr).mono ?_
 rintro e w' ⟨H',F',rv,rfl,hs,_,_,hv⟩
 refine ⟨by rw [(RO.plain (show RO w' _ (.v (.bool true)) rv from hv)).1],hs.os,hs.tape,hs.output,hs.size,fun b hb => hs.keep b hb fun p => by simp [Pc.fp]⟩
end
section
open Go.RowKit

theorem Xy {a b : Int} (h : a = b) : I a = I b := by rw [h]
theorem Xj {a b : Bool} (h : a = b) : B a = B b := by rw [h]
theorem eq_ne {α : Type} [DecidableEq α] {xs ys : List α} {j : Nat} (h1 : j < xs.length) (h2 : j < ys.length) (h : ¬ xs[j] = ys[j]) : decide (xs = ys) = false := by
 rw [decide_eq_false_iff_not]
 intro e
 subst e
 exact h J
theorem eq_all {α : Type} [DecidableEq α] {xs ys : List α} {j : Nat} (h1 : xs.length ≤ j) (h2 : xs.length = ys.length) (h : xs.take j = ys.take j) : decide (xs = ys) = true := by
 rw [List.take_of_length_le h1,List.take_of_length_le (by omega)] at h
 simp [h]
theorem eq_len {α : Type} [DecidableEq α] {xs ys : List α} (h : xs.length ≠ ys.length) : decide (xs = ys) = false := by
 rw [decide_eq_false_iff_not]
 intro e
 subst e
 exact h J
theorem eq_next {α : Type} {xs ys : List α} {j : Nat} (h1 : j < xs.length) (h2 : j < ys.length) (h : xs.take j = ys.take j) (e : xs[j] = ys[j]) : xs.take (j + 1) = ys.take (j + 1) := by
 rw [List.take_succ_eq_append_getElem h1,List.take_succ_eq_append_getElem h2,h,e]

/-! ### Counting -/
/-! ### Copying -/
def part {α : Type} [Enc α] (xs : List α) (z : List T) (k : Nat) : List (List T) := els (xs.take k) ++ List.replicate (xs.length - k) z
theorem row_eq {k : Nat} {a b : List (List T)} (h : a = b) : [Ob.row k a] = [Ob.row k b] := by rw [h]

/-! ### Comparing -/
end
section
open Go.RowKit

def ownO : List T → List Ob
 | [] => []
 | .v _ :: ts => ownO ts
 | .sl k es :: ts => .row k es :: ownO ts
 | .un :: ts => ownO ts
 | .bl _ _ _ :: ts => ownO ts
def ownV : Nat → List T → List V1
 | _,[] => []
 | n,.v x :: ts => .rd [] (.v x) :: ownV n ts
 | n,.sl _ _ :: ts => .ref n :: ownV (n + 1) ts
 | n,.un :: ts => .un :: ownV n ts
 | n,.bl _ _ _ :: ts => .un :: ownV n ts

structure TLevel where
 Rows : (List ByteArray)
 deriving DecidableEq
instance : Enc TLevel := ⟨1,by omega,fun x => [sl x.Rows],fun _ => rfl,fun x => Enc.gd x.Rows,fun x => Enc.wt x.Rows⟩
theorem TLevel.same {x y : TLevel} (h0 : x.Rows = y.Rows) : x = y := by cases x; cases y; simp_all
structure TReplay where
 Level : TLevel
 Players : Int
 Seed : Int
 Every : Int
 Rows : (List (List Int))
 Keys : (List ByteArray)
 deriving DecidableEq
instance : Enc TReplay := ⟨6,by omega,fun x => [sl x.Level.Rows,.v (.int .i64 x.Players),.v (.int .i64 x.Seed),.v (.int .i64 x.Every),sl x.Rows,sl x.Keys],fun _ => rfl,fun x => Enc.gd x.Level ∧ Enc.gd x.Players ∧ Enc.gd x.Seed ∧ Enc.gd x.Every ∧ Enc.gd x.Rows ∧ Enc.gd x.Keys,fun x => Enc.wt x.Level + Enc.wt x.Rows + Enc.wt x.Keys⟩
theorem TReplay.same {x y : TReplay} (h0 : x.Level = y.Level) (h1 : x.Players = y.Players) (h2 : x.Seed = y.Seed) (h3 : x.Every = y.Every) (h4 : x.Rows = y.Rows) (h5 : x.Keys = y.Keys) : x = y := by cases x; cases y; simp_all
end
section
open Go.RowKit

theorem els_set {α : Type} [Enc α] (xs : List α) (i : Nat) (x : α) : els (xs.set i x) = (els xs).set i (Enc.e x) := by simp [els,List.map_set]
end
section
open Go.RowKit

theorem flat_one {fps : List (List (List Nat))} {i j : Nat} {G : List (List Nat)} {f : List Nat} (hi : fps[i]? = some G) (hj : G[j]? = some f) : ∃ X Z : List Nat,fps.flatten.flatten = X ++ f ++ Z ∧ ∀ f' : List Nat,(fps.set i (splice G j [f'])).flatten.flatten = X ++ f' ++ Z := by
 obtain ⟨hlt,he⟩ := List.getElem?_eq_some_iff.1 hi
 obtain ⟨hlj,hf⟩ := List.getElem?_eq_some_iff.1 hj
 refine ⟨(fps.take i).flatten.flatten ++ (G.take j).flatten,(G.drop (j + 1)).flatten ++ (fps.drop (i + 1)).flatten.flatten,?_,fun f' => ?_⟩
 ·conv => lhs; rw [← List.take_append_drop i fps,List.drop_eq_getElem_cons hlt,he]
  have hG : G.flatten = (G.take j).flatten ++ f ++ (G.drop (j + 1)).flatten := by
   conv => lhs; rw [← List.take_append_drop j G,List.drop_eq_getElem_cons hlj,hf]
   simp [List.append_assoc]
  rw [List.flatten_append,List.flatten_cons,List.flatten_append,List.flatten_append,hG]
  simp [List.append_assoc]
 ·rw [List.set_eq_take_append_cons_drop,if_pos hlt]
  rw [List.flatten_append,List.flatten_cons,List.flatten_append,List.flatten_append,splice,List.flatten_append,List.flatten_append]
  simp [List.append_assoc]

theorem sep_list {l : List (List Nat)} (hn : l.flatten.Nodup) {i j : Nat} {f g : List Nat} (hi : l[i]? = some f) (hj : l[j]? = some g) (hij : i ≠ j) {x : Nat} (hx : x ∈ f) (hy : x ∈ g) : False := by
 obtain ⟨hp,hq⟩ := List.pairwise_flatten.1 hn
 obtain ⟨h1,rfl⟩ := List.getElem?_eq_some_iff.1 hi
 obtain ⟨h2,rfl⟩ := List.getElem?_eq_some_iff.1 hj
 rcases Nat.lt_or_gt_of_ne hij with h | h
 ·exact (List.pairwise_iff_getElem.1 hq i j h1 h2 h) x hx x hy rfl
 ·exact (List.pairwise_iff_getElem.1 hq j i h2 h1 h) x hy x hx rfl
theorem sep_elems {fps : List (List (List Nat))} (hn : fps.flatten.flatten.Nodup) {i i' j j' : Nat} {G G' : List (List Nat)} {f g : List Nat} (hi : fps[i]? = some G) (hi' : fps[i']? = some G') (hii : i ≠ i') (hf : G[j]? = some f) (hg : G'[j']? = some g) {x : Nat} (hx : x ∈ f) (hy : x ∈ g) : False := by
 have h1 : (fps.map List.flatten).flatten = fps.flatten.flatten := by simp [List.flatten_flatten]
 rw [← h1] at hn
 exact sep_list hn (i := i) (j := i') (f := G.flatten) (g := G'.flatten) (by simp [hi]) (by simp [hi']) hii (List.mem_flatten.2 ⟨f,Yy hf,hx⟩) (List.mem_flatten.2 ⟨g,Yy hg,hy⟩)
theorem sep_cells {fps : List (List (List Nat))} (hn : fps.flatten.flatten.Nodup) {i j j' : Nat} {G : List (List Nat)} {f g : List Nat} (hi : fps[i]? = some G) (hf : G[j]? = some f) (hg : G[j']? = some g) (hjj : j ≠ j') {x : Nat} (hx : x ∈ f) (hy : x ∈ g) : False := by
 have h1 : (fps.map List.flatten).flatten = fps.flatten.flatten := by simp [List.flatten_flatten]
 rw [← h1] at hn
 obtain ⟨hp,_⟩ := List.pairwise_flatten.1 hn
 exact sep_list (hp G.flatten (List.mem_map.2 ⟨G,Yy hi,J⟩)) hf hg hjj hx hy

theorem OW.inner {w : World} {k : Nat} {es : List (List T)} {v : Value} {fp : List Nat} (h : OW w (.sl k es) v fp) (hnd : fp.Nodup) {i j k' : Nat} {e : List T} {es0 : List (List T)} (hi : es[i]? = some e) (hj : e[j]? = some (.sl k' es0)) :
  ∃ b o c u f,v = .slice (some ⟨b,o,none⟩) es.length c ∧ b ∈ fp ∧ w.cell? ⟨b,o + i * k + j,none⟩ = some u ∧ OW w (.sl k' es0) u f ∧ f.Nodup ∧ (∀ x ∈ f,x ∈ fp) ∧
   ∀ (w' : World) (t1 : T) (f' : List Nat),(∀ x ∈ fp,x ∉ f → w'.heap[x]? = w.heap[x]?) → OW w' t1 u f' → f'.Nodup → (∀ x ∈ f',x ∈ f ∨ w.heap.size ≤ x) → (∀ x ∈ fp,x < w.heap.size) →
    ∃ fp',OW w' (.sl k (es.set i (splice e j [t1]))) v fp' ∧ fp'.Nodup ∧ ∀ x ∈ fp',(x ∈ fp ∧ x ∉ f) ∨ x ∈ f' := by
 rcases h.open_ with ⟨rfl,rfl,rfl⟩ | ⟨b,o,c,tid,cur,fz,val,fps,rfl,rfl,hg,hz,hc,hcm,hcs,hp,hk,hff,hfk,hv,ht⟩
 ·simp at hi
 have hil := Yx hi
 have hek : e.length = k := hk e (Yy hi)
 have hjl := Yx hj
 rw [hek] at hjl
 have hfi : fps[i]? = some fps[i] := List.getElem?_eq_getElem (by omega)
 have hfik : (fps[i]'(by omega)).length = k := hfk _ (List.getElem_mem _)
 obtain ⟨G,hG⟩ : ∃ G,G = fps[i]'(by omega) := ⟨_,rfl⟩
 rw [← hG] at hfi hfik
 obtain ⟨f,hf⟩ : ∃ f,G[j]? = some f := ⟨_,List.getElem?_eq_getElem (by omega)⟩
 obtain ⟨X,Z,e1,e2⟩ := flat_one hfi hf
 have hndc := List.nodup_cons.1 hnd
 have hndf := hndc.2
 rw [e1] at hndf
 obtain ⟨n1,n2,n3⟩ := List.nodup_append.1 hndf
 obtain ⟨n4,n5,n6⟩ := List.nodup_append.1 n1
 have hbf : b ∉ f := fun hb => hndc.1 (mem_ff hfi hf hb)
 refine ⟨b,o,c,val i j,f,J,by simp,?_,ht i j e _ G f hi hj hfi hf,n5,fun x hx => List.mem_cons_of_mem _ (mem_ff hfi hf hx),fun w' t1 f' hw hO hn' hf' hlt => ?_⟩
 ·rw [cell_of_row w b _ cur tid fz hg]
  exact hv i j hil hjl
 have hset : (es.set i (splice e j [t1])).length = es.length := by simp
 have hfr : ∀ (i' j' : Nat) (e' : List T) (t : T) (fs : List (List Nat)) (g : List Nat),es[i']? = some e' → e'[j']? = some t → fps[i']? = some fs → fs[j']? = some g → (∀ x ∈ g,x ∉ f) → OW w' t (val i' j') g := fun i' j' e' t fs g g1 g2 g3 g4 hd =>
  (ht i' j' e' t fs g g1 g2 g3 g4).frame fun x hx => hw x (List.mem_cons_of_mem _ (mem_ff g3 g4 hx)) (hd x hx)
 have hold : ∀ x ∈ X ++ f ++ Z,x < w.heap.size := fun x hx => hlt x (List.mem_cons_of_mem _ (by rw [e1]; exact hx))
 have hdX : ∀ x ∈ X,x ∉ f' := fun x hx hx' => by
  rcases hf' x hx' with h1 | h1
  ·exact n6 x hx x h1 rfl
  ·have := hold x (by simp [hx]); omega
 have hdZ : ∀ x ∈ Z,x ∉ f' := fun x hx hx' => by
  rcases hf' x hx' with h1 | h1
  ·exact n3 x (by simp [h1]) x hx rfl
  ·have := hold x (by simp [hx]); omega
 refine ⟨b :: (fps.set i (splice G j [f'])).flatten.flatten,?_,?_,?_⟩
 ·rw [← hset]
  refine .sl _ b o k c tid cur fz val _ (by rw [hw b (by simp) hbf]; exact hg) hz (by rw [hset]; exact hc) hcm hcs hp ?_ (by simp [hff]) ?_ (fun i' j' hi' hj' => hv i' j' (by rw [← hset]; exact hi') hj') fun i' j' e' t' fs' g' g1 g2 g3 g4 => ?_
  ·intro e' he'
   rcases List.mem_or_eq_of_mem_set he' with he' | rfl
   ·exact hk e' he'
   ·rw [splice_len (by simp; omega),hek]
  ·intro g hg'
   rcases List.mem_or_eq_of_mem_set hg' with hg' | rfl
   ·exact hfk g hg'
   ·rw [splice_len (by simp; omega),hfik]
  ·rw [List.getElem?_set] at g1 g3
   by_cases hii : i = i'
   ·subst hii
    simp only [hil,if_true,Option.some.injEq] at g1
    rw [if_pos rfl,if_pos (by omega)] at g3
    simp only [Option.some.injEq] at g3
    subst g1 g3
    rw [splice_at (by simp; omega)] at g2 g4
    by_cases hcond : j ≤ j' ∧ j' < j + 1
    ·have hjj : j' = j := by omega
     subst hjj
     rw [if_pos (by simp)] at g2 g4
     simp at g2 g4
     subst g2 g4
     exact hO
    ·rw [if_neg (by simpa using hcond)] at g2 g4
     refine hfr i j' e t' G g' hi g2 hfi g4 fun x hx hxf => ?_
     -- two cells of one element own different blocks
     obtain ⟨X2,Z2,e3,e4⟩ := flat_one hfi g4
     exact sep_cells hndc.2 hfi hf g4 (fun e => hcond ⟨by omega,by omega⟩) hxf hx
   ·rw [if_neg hii] at g1 g3
    refine hfr i' j' e' t' fs' g' g1 g2 g3 g4 fun x hx hxf => ?_
    exact sep_elems hndc.2 hfi g3 hii hf g4 hxf hx
 ·rw [e2]
  refine List.nodup_cons.2 ⟨fun hb => ?_,List.nodup_append.2 ⟨List.nodup_append.2 ⟨n4,hn',fun x hx y hy e => hdX x hx (e ▸ hy)⟩,n2,fun x hx y hy e => ?_⟩⟩
  ·rcases List.mem_append.1 hb with hb | hb
   ·rcases List.mem_append.1 hb with hb | hb
    ·exact hndc.1 (by rw [e1]; simp [hb])
    ·rcases hf' b hb with h1 | h1
     ·exact hbf h1
     ·have := hlt b (by simp); omega
   ·exact hndc.1 (by rw [e1]; simp [hb])
  ·rcases List.mem_append.1 hx with hx | hx
   ·exact n3 x (by simp [hx]) y hy e
   ·exact hdZ y hy (e ▸ hx)
 ·rw [e2,e1]
  intro x hx
  rcases List.mem_cons.1 hx with rfl | hx
  ·exact .inl ⟨by simp,hbf⟩
  ·rcases List.mem_append.1 hx with hx | hx
   ·rcases List.mem_append.1 hx with hx | hx
    ·exact .inl ⟨by simp [hx],fun h => n6 x hx x h rfl⟩
    ·exact .inr hx
   ·exact .inl ⟨by simp [hx],fun h => n3 x (by simp [h]) x hx rfl⟩

section
variable {P : Program} {E : Env} {ops : Array Oper} {o : Oper} {st : St} {rest : List Oper} {QQ : Exit → St → Prop} {w : World} {H : Hs} {F : Nat → Prop} {a : Act} {t : TypeId} {y : Operand} {n : Nat}
theorem q_lee {p kk i j : Nat} {es : List (List T)} {e : List T} {x : T} [TyOne P t] (ho : o.op = .load t y) (hg : o.guard = none) (hy : st.ev y = .o (.c (.el p kk i j))) (hp : st.objs[p]? = some (.row kk es)) (he : es[i]? = some e) (hx : e[j]? = some x) : Qt P ops o st (.o (.c (.le p kk i j))) [] n :=
 .pure hg fun a w H F hr => by
  obtain ⟨b,o',e1,hc⟩ := el_cells hr hy hp he
  obtain ⟨u,h1,h2⟩ := hc 0 x (by simpa using hx)
  refine ⟨u,Ys ho e1 (Z6 t b o' u h1),?_⟩
  obtain ⟨b2,o2,n2,c2,x2,fp2,k1,k2⟩ := hr.v1 hy
  obtain ⟨v,fp,k3,k4⟩ := hr.ow hp
  rw [k1] at k3
  simp only [Pc.ow.injEq] at k3
  obtain ⟨_,rfl,rfl⟩ := k3
  rw [e1] at k2
  simp only [Value.pointer.injEq,Option.some.injEq,Addr.mk.injEq] at k2
  obtain ⟨rfl,rfl,_⟩ := k2
  refine ⟨b,o2,n2,c2,x2,fp2,k1,?_,RO.one h2,by simpa using h1⟩
  rcases k4.open_ with ⟨k5,_⟩ | ⟨b',o',c',tid,cur,fz,val,fps,k5,k6,_⟩
  ·cases k5
  ·simp only [Value.slice.injEq,Option.some.injEq,Addr.mk.injEq] at k5
   rw [k6,k5.1.1]; simp

end
end
section
open Go.RowKit

section
variable {P : Program} {ops : Array Oper} {o : Oper} {st : St} {m : Nat} {t t' : TypeId} {y z : Operand} {ps qs : List Nat}
theorem Q8 {xs : List V2} (ho : o.op = .move y) (hg : o.guard = none) (hy : st.ev y = .tu xs) : Qt P ops o st (.tu xs) [] m :=
 .pure hg fun a w H F hr => ⟨a.eval y,by simp [execOp,ho],by rw [← hy]; exact hr.ev y⟩
end
end
section
open Go.RowKit

theorem mk_at {α : Type} {ms xs : List α} (hl : ms.length = xs.length) {i : Nat} (h : i < xs.length) (h' : i < (ms.take i ++ xs.drop i).length := by simp; omega) : (ms.take i ++ xs.drop i)[i] = xs[i] := by
 have hi : (ms.take i).length = i := by simp; omega
 rw [List.getElem_append_right (by omega)]
 simp [hi]
theorem mk_len {α : Type} {ms xs : List α} (hl : ms.length = xs.length) {i : Nat} (h : i ≤ xs.length) : (ms.take i ++ xs.drop i).length = xs.length := by simp; omega
def tot (xs : List (List Int)) : Nat := (xs.map List.length).sum
end
section
open Go.RowKit

structure TBody where
 Kind : Int
 Owner : Int
 X : Int
 Y : Int
 VX : Int
 VY : Int
 Aim : Int
 Life : Int
 Timer : Int
 deriving DecidableEq
instance : Enc TBody := ⟨9,by omega,fun x => [.v (.int .i64 x.Kind),.v (.int .i64 x.Owner),.v (.int .i64 x.X),.v (.int .i64 x.Y),.v (.int .i64 x.VX),.v (.int .i64 x.VY),.v (.int .i64 x.Aim),.v (.int .i64 x.Life),.v (.int .i64 x.Timer)],fun _ => rfl,fun x => Enc.gd x.Kind ∧ Enc.gd x.Owner ∧ Enc.gd x.X ∧ Enc.gd x.Y ∧ Enc.gd x.VX ∧ Enc.gd x.VY ∧ Enc.gd x.Aim ∧ Enc.gd x.Life ∧ Enc.gd x.Timer,fun x => 0⟩
theorem TBody.same {x y : TBody} (h0 : x.Kind = y.Kind) (h1 : x.Owner = y.Owner) (h2 : x.X = y.X) (h3 : x.Y = y.Y) (h4 : x.VX = y.VX) (h5 : x.VY = y.VY) (h6 : x.Aim = y.Aim) (h7 : x.Life = y.Life) (h8 : x.Timer = y.Timer) : x = y := by cases x; cases y; simp_all
structure TWorld where
 Level : TLevel
 Tick : Int
 Seed : Int
 Scores : (List Int)
 Bodies : (List TBody)
 deriving DecidableEq
instance : Enc TWorld := ⟨5,by omega,fun x => [sl x.Level.Rows,.v (.int .i64 x.Tick),.v (.int .i64 x.Seed),sl x.Scores,sl x.Bodies],fun _ => rfl,fun x => Enc.gd x.Level ∧ Enc.gd x.Tick ∧ Enc.gd x.Seed ∧ Enc.gd x.Scores ∧ Enc.gd x.Bodies,fun x => Enc.wt x.Level + Enc.wt x.Scores + Enc.wt x.Bodies⟩
theorem TWorld.same {x y : TWorld} (h0 : x.Level = y.Level) (h1 : x.Tick = y.Tick) (h2 : x.Seed = y.Seed) (h3 : x.Scores = y.Scores) (h4 : x.Bodies = y.Bodies) : x = y := by cases x; cases y; simp_all
structure TSpectator where
 World : TWorld
 Gaps : Int
 deriving DecidableEq
instance : Enc TSpectator := ⟨6,by omega,fun x => [sl x.World.Level.Rows,.v (.int .i64 x.World.Tick),.v (.int .i64 x.World.Seed),sl x.World.Scores,sl x.World.Bodies,.v (.int .i64 x.Gaps)],fun _ => rfl,fun x => Enc.gd x.World ∧ Enc.gd x.Gaps,fun x => Enc.wt x.World⟩
theorem TSpectator.same {x y : TSpectator} (h0 : x.World = y.World) (h1 : x.Gaps = y.Gaps) : x = y := by cases x; cases y; simp_all

/-! ### Marks -/
end
section
open Go.RowKit

structure TTrack where
 Inputs : (List Int)
 deriving DecidableEq
instance : Enc TTrack := ⟨1,by omega,fun x => [sl x.Inputs],fun _ => rfl,fun x => Enc.gd x.Inputs,fun x => Enc.wt x.Inputs⟩
theorem TTrack.same {x y : TTrack} (h0 : x.Inputs = y.Inputs) : x = y := by cases x; cases y; simp_all
structure TSave where
 Tick : Int
 Delta : ByteArray
 deriving DecidableEq
instance : Enc TSave := ⟨2,by omega,fun x => [.v (.int .i64 x.Tick),.v (.string x.Delta)],fun _ => rfl,fun x => Enc.gd x.Tick ∧ Enc.gd x.Delta,fun x => Enc.wt x.Delta⟩
theorem TSave.same {x y : TSave} (h0 : x.Tick = y.Tick) (h1 : x.Delta = y.Delta) : x = y := by cases x; cases y; simp_all
structure TFault where
 Tick : Int
 Player : Int
 Add : Int
 deriving DecidableEq
instance : Enc TFault := ⟨3,by omega,fun x => [.v (.int .i64 x.Tick),.v (.int .i64 x.Player),.v (.int .i64 x.Add)],fun _ => rfl,fun x => Enc.gd x.Tick ∧ Enc.gd x.Player ∧ Enc.gd x.Add,fun x => 0⟩
theorem TFault.same {x y : TFault} (h0 : x.Tick = y.Tick) (h1 : x.Player = y.Player) (h2 : x.Add = y.Add) : x = y := by cases x; cases y; simp_all
structure TPacket where
 From : Int
 Tick : Int
 First : Int
 Inputs : (List Int)
 Acks : (List Int)
 SumTick : Int
 Sum : Int
 Time : Int
 Echo : Int
 deriving DecidableEq
instance : Enc TPacket := ⟨9,by omega,fun x => [.v (.int .i64 x.From),.v (.int .i64 x.Tick),.v (.int .i64 x.First),sl x.Inputs,sl x.Acks,.v (.int .i64 x.SumTick),.v (.int .i64 x.Sum),.v (.int .i64 x.Time),.v (.int .i64 x.Echo)],fun _ => rfl,fun x => Enc.gd x.From ∧ Enc.gd x.Tick ∧ Enc.gd x.First ∧ Enc.gd x.Inputs ∧ Enc.gd x.Acks ∧ Enc.gd x.SumTick ∧ Enc.gd x.Sum ∧ Enc.gd x.Time ∧ Enc.gd x.Echo,fun x => Enc.wt x.Inputs + Enc.wt x.Acks⟩
theorem TPacket.same {x y : TPacket} (h0 : x.From = y.From) (h1 : x.Tick = y.Tick) (h2 : x.First = y.First) (h3 : x.Inputs = y.Inputs) (h4 : x.Acks = y.Acks) (h5 : x.SumTick = y.SumTick) (h6 : x.Sum = y.Sum) (h7 : x.Time = y.Time) (h8 : x.Echo = y.Echo) : x = y := by cases x; cases y; simp_all
structure TPeer where
 Me : Int
 Delay : Int
 Ahead : Int
 Seed : Int
 Tracks : (List TTrack)
 Base : TWorld
 Now : TWorld
 Used : (List (List Int))
 Saves : (List TSave)
 Sums : (List Int)
 Fault : TFault
 Rolls : Int
 Again : Int
 deriving DecidableEq
instance : Enc TPeer := ⟨23,by omega,fun x => [.v (.int .i64 x.Me),.v (.int .i64 x.Delay),.v (.int .i64 x.Ahead),.v (.int .i64 x.Seed),sl x.Tracks,sl x.Base.Level.Rows,.v (.int .i64 x.Base.Tick),.v (.int .i64 x.Base.Seed),sl x.Base.Scores,sl x.Base.Bodies,sl x.Now.Level.Rows,.v (.int .i64 x.Now.Tick),.v (.int .i64 x.Now.Seed),sl x.Now.Scores,sl x.Now.Bodies,sl x.Used,sl x.Saves,sl x.Sums,.v (.int .i64 x.Fault.Tick),.v (.int .i64 x.Fault.Player),.v (.int .i64 x.Fault.Add),.v (.int .i64 x.Rolls),.v (.int .i64 x.Again)],fun _ => rfl,fun x => Enc.gd x.Me ∧ Enc.gd x.Delay ∧ Enc.gd x.Ahead ∧ Enc.gd x.Seed ∧ Enc.gd x.Tracks ∧ Enc.gd x.Base ∧ Enc.gd x.Now ∧ Enc.gd x.Used ∧ Enc.gd x.Saves ∧ Enc.gd x.Sums ∧ Enc.gd x.Fault ∧ Enc.gd x.Rolls ∧ Enc.gd x.Again,fun x => Enc.wt x.Tracks + Enc.wt x.Base + Enc.wt x.Now + Enc.wt x.Used + Enc.wt x.Saves + Enc.wt x.Sums + Enc.wt x.Fault⟩
theorem TPeer.same {x y : TPeer} (h0 : x.Me = y.Me) (h1 : x.Delay = y.Delay) (h2 : x.Ahead = y.Ahead) (h3 : x.Seed = y.Seed) (h4 : x.Tracks = y.Tracks) (h5 : x.Base = y.Base) (h6 : x.Now = y.Now) (h7 : x.Used = y.Used) (h8 : x.Saves = y.Saves) (h9 : x.Sums = y.Sums) (h10 : x.Fault = y.Fault) (h11 : x.Rolls = y.Rolls) (h12 : x.Again = y.Again) : x = y := by cases x; cases y; simp_all
end
section
open Go.RowKit

theorem OW.take {w : World} {k : Nat} {es : List (List T)} {v : Value} {fp : List Nat} (h : OW w (.sl k es) v fp) (hnd : fp.Nodup) {n : Nat} (hn : n ≤ es.length) : ∃ A c fp',v = .slice A es.length c ∧ es.length ≤ c ∧ OW w (.sl k (es.take n)) (.slice (if c = 0 then A else A.map (·.add (0 * k))) (n - 0) (c - 0)) fp' ∧ (∀ b ∈ fp',b ∈ fp) ∧ fp'.Nodup := by
 cases h with
 | nil =>
  have : n = 0 := by simpa using hn
  subst this
  exact ⟨none,0,[],J,Nat.le_refl _,by simpa using OW.nil (w := w) k,by simp,by simp⟩
 | sl _ b o _ c tid cur fz val fps hg hz hc hm hs hp hk hf hfk hv ht =>
  have hA : (if c = 0 then some (⟨b,o,none⟩ : Addr) else (some (⟨b,o,none⟩ : Addr)).map (·.add (0 * k))) = some ⟨b,o,none⟩ := by
   split
   ·rfl
   ·simp [Addr.add]
  have hl : (es.take n).length = n := by simp; omega
  have hfl : fps.flatten.flatten = (fps.take n).flatten.flatten ++ (fps.drop n).flatten.flatten := by
   rw [← List.flatten_append,← List.flatten_append,List.take_append_drop]
  refine ⟨some ⟨b,o,none⟩,c,b :: (fps.take n).flatten.flatten,J,hc,?_,fun x hx => ?_,?_⟩
  ·rw [hA]
   have h1 := OW.sl (w := w) (es.take n) b o k c tid cur fz val (fps.take n) hg hz (by omega) hm hs hp (fun e he => hk e (List.mem_of_mem_take he)) (by simp [hf]) (fun f hf' => hfk f (List.mem_of_mem_take hf'))
    (fun i j hi hj => hv i j (by omega) hj) (fun i j e t fs f g1 g2 g3 g4 => by
     have hi := Yx g1
     rw [hl] at hi
     rw [List.getElem?_take,if_pos hi] at g1 g3
     exact ht i j e t fs f g1 g2 g3 g4)
   rw [hl] at h1
   simpa using h1
  ·rcases List.mem_cons.1 hx with rfl | hx
   ·simp
   ·exact List.mem_cons_of_mem _ (by rw [hfl]; exact List.mem_append_left _ hx)
  ·rw [hfl,← List.cons_append] at hnd
   exact (List.nodup_append.1 hnd).1

def V1.tohd (p n : Nat) : V1 → V1
 | .hd q m => match Nat.beq q p with
  | true => match Nat.beq m n with
   | true => .ref p
   | false => .un
  | false => .hd q m
 | x => x.kill [p]
theorem Wk.head0 {st : St} {p k : Nat} {es : List (List T)} (n : Nat) (hp : st.objs[p]? = some (.row k es)) (hn : n ≤ es.length) : Wk st ⟨st.n,st.tmps.map fun e => (e.1,e.2.mapk (V1.tohd p n)),(st.objs.map (Ob.mapk (V1.tohd p n))).set p (.row k (es.take n))⟩ := by
 intro w H F a h1
 obtain ⟨v,fp,e1,e2⟩ := h1.ow hp
 have hnd := h1.ok.nodup p
 rw [e1] at hnd
 obtain ⟨A,c,fp'',hvA,hc,h3,h5,h4⟩ := e2.take hnd hn
 have hA : (if c = 0 then A else A.map (·.add (0 * k))) = A := by
  split
  ·rfl
  ·cases A <;> simp [Addr.add]
 rw [hA,Nat.sub_zero,Nat.sub_zero] at h3
 have hkeep : Keeps w w fp := ⟨rfl,rfl,rfl,Nat.le_refl _,fun _ _ _ => rfl⟩
 obtain ⟨hok,htn⟩ := h1.ok.turn (p := p) (fp := fp) (by rw [e1]; rfl) hkeep (.ow (.sl k (es.take n)) _ fp'') h3 h4 trivial (fun b hb => .inl (h5 b hb))
 have hone : ∀ x v,R1 w H F x v → R1 w (H.put p (.ow (.sl k (es.take n)) (.slice A n c) fp'')) F (V1.tohd p n x) v := fun x u hx => by
  cases x with
  | hd q m =>
   simp only [V1.tohd]
   obtain ⟨A',m',c',x,fp',e3,rfl⟩ := hx
   split
   ·rename_i hq
    have hqp := Nat.eq_of_beq_eq_true hq
    subst hqp
    split
    ·rename_i hm
     have := Nat.eq_of_beq_eq_true hm
     subst this
     rw [e1] at e3
     simp only [Pc.ow.injEq] at e3
     obtain ⟨_,e4,_⟩ := e3
     rw [hvA] at e4
     simp only [Value.slice.injEq] at e4
     obtain ⟨rfl,_,rfl⟩ := e4
     exact ⟨_,_,Hs.put_self _ _ _⟩
    ·trivial
   ·rename_i hq
    have hqp : q ≠ p := fun e => by rw [e,show Nat.beq p p = true from Nat.beq_refl p] at hq; cases hq
    exact ⟨A',m',c',x,fp',by rw [Hs.put_ne _ _ hqp,e3],J⟩
  | _ => exact R1.killed h1.ok htn hx
 obtain ⟨hplt,_⟩ := List.getElem?_eq_some_iff.1 hp
 refine ⟨_,h1.mapk (V1.tohd p n) hone hok ((st.objs.map (Ob.mapk (V1.tohd p n))).set p (.row k (es.take n))) (fun q => ?_),fun q b hb => ?_,htn.gh⟩
 ·by_cases hqp : q = p
  ·subst hqp
   rw [Yw (x := .row k (es.take n)) (by simp [hplt])]
   exact ⟨_,_,Hs.put_self _ _ _⟩
  ·rw [List.getD_eq_getElem?_getD,List.getElem?_set_ne (Ne.symm hqp),List.getElem?_map]
   have h2 := h1.obs q
   rw [List.getD_eq_getElem?_getD] at h2
   have h3 : H.put p (.ow (.sl k (es.take n)) (.slice A n c) fp'') q = H q := Hs.put_ne _ _ hqp
   cases ho : st.objs[q]? with
   | none => rw [ho] at h2; exact h3.trans h2
   | some ob => rw [ho] at h2; exact RB.mapk hone h3 h2
 ·by_cases hqp : q = p
  ·subst hqp
   rw [Hs.put_self] at hb
   exact ⟨q,by rw [e1]; exact h5 b hb⟩
  ·exact ⟨q,by rw [← Hs.put_ne H _ hqp]; exact hb⟩
def allP {α : Type} (f : α → Prop) : List α → Prop
 | [] => True
 | x :: l => f x ∧ allP f l
theorem Ya {α β : Type} {f : α → Prop} {g h : α → β} (hgh : ∀ x,f x → g x = h x) : ∀ {l : List α},allP f l → l.map g = l.map h
 | [],_ => rfl
 | x :: l,hl => by rw [List.map_cons,List.map_cons,hgh x hl.1,Ya hgh hl.2]
def V1.hdok (p n : Nat) : V1 → Prop
 | .hd q m => match Nat.beq q p with
  | true => m = n
  | false => True
 | _ => True
def V2.hdok (p n : Nat) : V2 → Prop
 | .c x => x.hdok p n
 | .ag xs => allP (V1.hdok p n) xs
def V.hdok (p n : Nat) : V → Prop
 | .o x => x.hdok p n
 | .tu xs => allP (V2.hdok p n) xs
 | .iff _ x => x.hdok p n
def Ob.hdok (p n : Nat) : Ob → Prop
 | .box cs => allP (V1.hdok p n) cs
 | .gh _ x => x.hdok p n
 | _ => True
def V1.tohe (p : Nat) : V1 → V1
 | .hd q m => match Nat.beq q p with
  | true => .ref p
  | false => .hd q m
 | x => x.kill [p]
theorem V1.tohe_eq {p n : Nat} (x : V1) (h : x.hdok p n) : x.tohd p n = x.tohe p := by
 cases x with
 | hd q m =>
  simp only [V1.tohd,V1.tohe]
  cases hq : Nat.beq q p with
  | true =>
   simp only [V1.hdok,hq] at h
   subst h
   simp only [show Nat.beq m m = true from Nat.beq_refl m]
  | false => rfl
 | _ => rfl
theorem V2.tohe_eq {p n : Nat} (x : V2) (h : x.hdok p n) : x.mapk (V1.tohd p n) = x.mapk (V1.tohe p) := by
 cases x with
 | c x => exact congrArg V2.c (V1.tohe_eq x h)
 | ag xs => exact congrArg V2.ag (Ya (fun x hx => V1.tohe_eq x hx) h)
theorem V.tohe_eq {p n : Nat} (x : V) (h : x.hdok p n) : x.mapk (V1.tohd p n) = x.mapk (V1.tohe p) := by
 cases x with
 | o x => exact congrArg V.o (V2.tohe_eq x h)
 | tu xs => exact congrArg V.tu (Ya (fun x hx => V2.tohe_eq x hx) h)
 | iff cs x => exact congrArg (V.iff cs) (V2.tohe_eq x h)
theorem Ob.tohe_eq {p n : Nat} (x : Ob) (h : x.hdok p n) : x.mapk (V1.tohd p n) = x.mapk (V1.tohe p) := by
 cases x with
 | box cs => exact congrArg Ob.box (Ya (fun x hx => V1.tohe_eq x hx) h)
 | gh i x => exact congrArg (Ob.gh i) (V2.tohe_eq x h)
 | _ => rfl
theorem Wk.head {st : St} {p k : Nat} {es : List (List T)} (n : Nat) (hp : st.objs[p]? = some (.row k es)) (hn : n ≤ es.length) (ht : allP (fun e : Nat × V => e.2.hdok p n) st.tmps) (ho : allP (Ob.hdok p n) st.objs) : Wk st ⟨st.n,st.tmps.map fun e => (e.1,e.2.mapk (V1.tohe p)),(st.objs.map (Ob.mapk (V1.tohe p))).set p (.row k (es.take n))⟩ := by
 have h := Wk.head0 n hp hn
 rw [Ya (g := fun e : Nat × V => (e.1,e.2.mapk (V1.tohd p n))) (h := fun e : Nat × V => (e.1,e.2.mapk (V1.tohe p))) (fun e he => by rw [V.tohe_eq e.2 he]) ht,Ya (fun x hx => Ob.tohe_eq x hx) ho] at h
 exact h
section
variable {P : Program} {E : Env} {ops : Array Oper} {o : Oper} {st : St} {rest : List Oper} {QQ : Exit → St → Prop} {t : TypeId} {y u : Operand} {rs : List Nat} {j : Int} {m : Nat}
theorem q_hd {p kk : Nat} {es : List (List T)} {e : TypeId} {zs : List Value} {by_ : Nat} [hm : TyMake P t e zs by_] (ho : o.op = .slice t y none (some u) none) (hg : o.guard = none) (hy : st.ev y = .o (.c (.ref p))) (hp : st.objs[p]? = some (.row kk es)) (hu : st.ev u = .o (.c (.rd rs (.v (.int .i64 j))))) (hkz : kk = zs.length) (h0 : 0 ≤ j ∧ j ≤ es.length) : Qt P ops o st (.o (.c (.hd p j.toNat))) [] m :=
 .pure hg fun a w H F h1 => by
  obtain ⟨v,fp,e1,e2⟩ := h1.ow hp
  obtain ⟨x',fp',e3⟩ := h1.v1 hy
  rw [e1] at e3
  simp only [Pc.ow.injEq] at e3
  obtain ⟨_,hv,_⟩ := e3
  have hnd := h1.ok.nodup p
  rw [e1] at hnd
  obtain ⟨A,c,fp'',hvA,hc,h3,h5,h4⟩ := e2.take hnd (n := j.toNat) (by omega)
  have hA : (if c = 0 then A else A.map (·.add (0 * kk))) = A := by
   split
   ·rfl
   ·cases A <;> simp [Addr.add]
  have hrun := run_slice (P := P) (w := w) (t := t) (e := e) (zs := zs) (by_ := by_) (A := A) (m := es.length) (c := c) none (some j) 0 j.toNat rfl ⟨h0.1,rfl⟩ (Nat.zero_le _) (by omega)
  rw [← hkz,hA,Nat.sub_zero,Nat.sub_zero] at hrun
  refine ⟨.slice A j.toNat c,?_,?_⟩
  ·have hu1 := h1.plain hu
   have hvy : a.eval y = .slice A es.length c := by rw [← hv,hvA]
   unfold execOp
   simp only [ho,Option.map_none,Option.map_some,hu1,hvy,Sem.run_bind]
   simp only [Option.map_none,Option.map_some] at hrun
   rw [hrun]
   rfl
  ·exact ⟨A,es.length,c,_,_,by rw [e1,hvA],rfl⟩
end
section
variable {P : Program} {E : Env} {ops : Array Oper} {o : Oper} {st : St} {rest : List Oper} {QQ : Exit → St → Prop} {t : TypeId} {y u : Operand} {rs : List Nat} {j : Int}
end
end
section
open Go.RowKit

theorem Wk.nilbox {st : St} {p i : Nat} (k : Nat) {cs : List V1} {qs : List Nat} (hp : st.objs[p]? = some (.box cs)) (hc : cs[i]? = some (.rd qs (.v (.slice none 0 0)))) : Wk st ⟨st.n,st.tmps,(st.objs.set p (.box (cs.set i (.ref st.objs.length)))) ++ [.row k []]⟩ := by
 intro w H F a h
 have hnil : H st.objs.length = .nil := by
  have := h.obs st.objs.length
  simpa [List.getD_eq_getElem?_getD,RB] using this
 have hlt := Yx hp
 obtain ⟨H',hH'⟩ : ∃ H' : Hs,H' = H.put st.objs.length (.ow (.sl k []) (.slice none 0 0) []) := ⟨_,rfl⟩
 have hin : H' st.objs.length = .ow (.sl k []) (.slice none 0 0) [] := by rw [hH']; exact Hs.put_self _ _ _
 have hout : ∀ q,q ≠ st.objs.length → H' q = H q := fun q hq => by rw [hH']; exact Hs.put_ne _ _ hq
 have hfp : ∀ q,(H' q).fp = (H q).fp := fun q => by
  by_cases e : q = st.objs.length
  ·rw [e,hin,hnil]; rfl
  ·rw [hout q e]
 have hgh : ∀ q i v,H' q = .gh i v → ∃ r,H r = .gh i v := fun q i v hq => by
  by_cases e : q = st.objs.length
  ·rw [e,hin] at hq; cases hq
  ·exact ⟨q,by rw [← hout q e]; exact hq⟩
 have hgr : Grow w H F w H' F := ⟨Below.refl _ _,fun q hq => hout q fun e => hq (by rw [e]; exact hnil),fun _ h => h,fun _ h => .inl h,fun q hq b hb => by rw [hfp,hq] at hb; simp [Pc.fp] at hb,hgh⟩
 refine ⟨H',⟨⟨fun q => ?_,fun q => by rw [hfp]; exact h.ok.nodup q,fun q r b h1 h2 => by rw [hfp] at h1 h2; exact h.ok.disj q r b h1 h2,fun q b h1 => by rw [hfp] at h1; exact h.ok.free q b h1,h.ok.flt⟩,fun q => ?_,fun e => hgr.rv (h.tmp e),h.size,h.defers⟩,fun q b hb => ⟨q,by rw [← hfp]; exact hb⟩,hgh⟩
 ·by_cases e : q = st.objs.length
  ·rw [e,hin]; exact OW.nil _
  ·rw [hout q e]; exact h.ok.says q
 ·show RB w H' F q ((st.objs.set p (.box (cs.set i (.ref st.objs.length))) ++ [Ob.row k []]).getD q .gone)
  by_cases e : q = st.objs.length
  ·rw [show (st.objs.set p (.box (cs.set i (.ref st.objs.length))) ++ [Ob.row k []]).getD q .gone = .row k [] by simp [List.getD_eq_getElem?_getD,e]]
   exact ⟨_,_,by rw [e]; exact hin⟩
  ·rcases Nat.lt_or_ge q st.objs.length with h1 | h1
   ·by_cases hqp : q = p
    ·subst hqp
     rw [show (st.objs.set q (.box (cs.set i (.ref st.objs.length))) ++ [Ob.row k []]).getD q .gone = .box (cs.set i (.ref st.objs.length)) by simp [List.getD_eq_getElem?_getD,List.getElem?_append_left,h1]]
     obtain ⟨g,t,vs,e1,e2,e3,e4⟩ := h.bx hp
     have hb := h.obs q
     rw [Yw hp] at hb
     obtain ⟨g,t,vs,k1,k2,k3⟩ := hb
     refine ⟨g,t,vs,(hout q e).trans k1,by simpa using k2,fun j c u h4 h5 => ?_⟩
     rw [List.getElem?_set] at h4
     split at h4
     ·rename_i hij
      subst hij
      split at h4
      ·simp only [Option.some.injEq] at h4
       subst h4
       have h6 := k3 i _ u hc h5
       obtain ⟨h7,_⟩ := RO.plain h6.1
       exact ⟨⟨_,_,by rw [hin,← h7]⟩,h6.2⟩
      ·cases h4
     ·have h6 := k3 j c u h4 h5
      exact ⟨hgr.r1 h6.1,h6.2⟩
    ·rw [show (st.objs.set p (.box (cs.set i (.ref st.objs.length))) ++ [Ob.row k []]).getD q .gone = st.objs.getD q .gone by
      rw [List.getD_eq_getElem?_getD,List.getElem?_append_left (by simpa using h1),List.getElem?_set_ne (Ne.symm hqp),List.getD_eq_getElem?_getD]]
     by_cases hn : H q = .nil
     ·have h2 := h.obs q
      have h3 : H' q = .nil := (hout q e).trans hn
      cases ho : st.objs.getD q .gone with
      | gone => exact h3
      | hole => trivial
      | box cs => rw [ho] at h2; obtain ⟨a,t,vs,e,_⟩ := h2; rw [hn] at e; cases e
      | row k es => rw [ho] at h2; obtain ⟨v,fp,e⟩ := h2; rw [hn] at e; cases e
      | gh i x => rw [ho] at h2; obtain ⟨v,e,_⟩ := h2; rw [hn] at e; cases e
      | shr es => rw [ho] at h2; obtain ⟨us,v,fp,e,_⟩ := h2; rw [hn] at e; cases e
      | bl => rw [ho] at h2; obtain ⟨v,fp,e⟩ := h2; rw [hn] at e; cases e
     ·exact hgr.rb hn (h.obs q)
   ·rw [show (st.objs.set p (.box (cs.set i (.ref st.objs.length))) ++ [Ob.row k []]).getD q .gone = Ob.gone by
     rw [List.getD_eq_getElem?_getD,List.getElem?_eq_none (by simp; omega)]; rfl]
    refine (hout q e).trans ?_
    have := h.obs q
    simpa [List.getD_eq_getElem?_getD,RB,h1] using this
section
variable {P : Program} {ops : Array Oper} {o : Oper} {st : St} {m : Nat} {t e : TypeId} {y z : Operand} {zs : List Value} {by_ : Nat}
end
end
section
open Go.RowKit

def inR (n lo hi : Int) : Bool := decide (lo ≤ n) && decide (n ≤ hi)
theorem Y0 {n lo hi : Int} : inR n lo hi = true ↔ lo ≤ n ∧ n ≤ hi := by simp [inR]
theorem Xw (n lo hi : Int) : Con Tryz.prog 40 [] [ai n,ai lo,ai hi] [] (B (inR n lo hi)) := by
 refine Con.of Tryz.func40 J Tryz.ntmps40 J (fun E => ?_)
 refine Wz [11,39,165,0,129] ?_;refine zx (Qt.grdT J J J (.hit .stop) (fun hgrd => Qa J J J)) J ?_;refine zx (Qt.grdT J J J (.hit (.hit .stop)) (fun hgrd => q_leq J J J J)) J ?_;refine Wz [76,34] ?_
 exact Xn J J (X6 [] (by decide) J J J)
theorem S_in (n lo hi : Int) : Con Tryz.prog 164 [] [ai n,ai lo,ai hi] [] (B (inR n lo hi)) := by
 refine Con.of Tryz.func164 J Tryz.ntmps164 J (fun E => ?_)
 refine Wz [11,39,165,0,129] ?_;refine zx (Qt.grdT J J J (.hit .stop) (fun hgrd => Qa J J J)) J ?_;refine zx (Qt.grdT J J J (.hit (.hit .stop)) (fun hgrd => q_leq J J J J)) J ?_;refine Wz [76,34] ?_
 exact Xn J J (X6 [] (by decide) J J J)

section
variable {α : Type} {p : α → Bool} {xs : List α} {k : Nat}
theorem all_next (h : (xs.take k).all p = true) (hk : k < xs.length) (hp : p xs[k] = true) : (xs.take (k + 1)).all p = true := by
 rw [List.take_succ_eq_append_getElem hk,List.all_append,h]
 simp [hp]
theorem all_no (hk : k < xs.length) (hp : p xs[k] = false) : xs.all p = false := by
 rw [List.all_eq_false]
 exact ⟨_,List.getElem_mem hk,by simp [hp]⟩
theorem all_end (h : (xs.take k).all p = true) (hk : xs.length ≤ k) : xs.all p = true := by rwa [List.take_of_length_le hk] at h
end
def inOk (xs : List Int) : Bool := xs.all fun n => inR n 0 15
def rowOk (xs : List Int) (n : Int) : Bool := decide ((xs.length : Int) = n) && inOk xs

theorem I_inputsOk (xs : List Int) (hn : Enc.gd xs) : Con Tryz.prog 142 [] [al xs] [] (B (inOk xs)) := by
 have hn1 := hn.1
 have hlx := Ym xs
 refine Con.of Tryz.func142 J Tryz.ntmps142 J (fun E => ?_)
 refine Wz [11,28,12,78,13] ?_;refine Xi (fun m st => ∃ k : Nat,k + m = xs.length ∧ ((xs.take k).all (fun n => inR n 0 15) = true) ∧ st = (⟨_,[(5,L xs),(6,I (els xs).length),(7,I k)],[]⟩ : St)) (xs.length) ⟨_,⟨0,by omega,by simp,J⟩,X7 [] (by kernel_rfl)⟩ ?_
 rintro m_A _ ⟨k,hk_A,hp_A,rfl⟩
 refine Wz [4,48,21] ?_
 refine Xb J (fun h => ?_) (fun h => ?_)
 ·have h3 : k < xs.length := by have := of_decide_eq_true h; omega
  have hat := Yl h3
  refine Wz [29,4,61,2,7] ?_;refine zx (Qj J J (Xw xs[k] 0 15) J) J ?_;refine Wz [14,1] ?_
  refine Xb J (fun h4 => ?_) (fun h4 => ?_)
  ·refine Wz [62,63] ?_
   refine Wz [25] ?_
   exact Xn J J (X6 [] (by decide) J J (Xj (all_no h3 (by simpa using h4)).symm))
  ·refine Wz [96,124,71,0,74] ?_
   refine Q0 ?_
   exact ⟨xs.length - (k + 1),by omega,_,⟨k + 1,by omega,all_next hp_A h3 (by simpa using h4),J⟩,X7 [] (by kernel_rfl)⟩
 ·have h3 : ¬ ((k : Int) < (els xs).length) := of_decide_eq_false h
  refine Wz [32,11,67] ?_
  exact Xn J J (X6 [] (by decide) J J (Xj (all_end hp_A (by omega)).symm))
theorem I_rowOk (xs : List Int) (n : Int) (hn : Enc.gd xs) : Con Tryz.prog 123 [] [al xs,ai n] [] (B (rowOk xs n)) := by
 have hlx := Ym xs
 refine Con.of Tryz.func123 J Tryz.ntmps123 J (fun E => ?_)
 refine Wz [11,7,12,0,148,0,129] ?_;refine zx (Qt.grdT J J J (.hit .stop) (fun hgrd => Qj J J (I_inputsOk xs hn) J)) J ?_;refine Wz [76,34] ?_
 exact Xn J J (X6 [] (by decide) J J (Xj (by rw [hlx]; rfl)))
end
section
open Go.RowKit

abbrev Seen := Bool × Bool × Bool × Bool
def tileM (e : Bool) (t : Int) (s : Seen × Bool) : Option (Seen × Bool) :=
 if t = 35 then some s else if e then none else
 if t = 49 then (if s.1.1 then none else some ((true,s.1.2),true)) else
 if t = 50 then (if s.1.2.1 then none else some ((s.1.1,true,s.1.2.2),true)) else
 if t = 51 then (if s.1.2.2.1 then none else some ((s.1.1,s.1.2.1,true,s.1.2.2.2),true)) else
 if t = 52 then (if s.1.2.2.2 then none else some ((s.1.1,s.1.2.1,s.1.2.2.1,true),true)) else
 if t = 111 ∨ t = 46 then some (s.1,true) else none
def colsM (row : ByteArray) (er : Bool) (w : Nat) (s : Seen × Bool) : Nat → Option (Seen × Bool)
 | 0 => some s
 | c + 1 => match colsM row er w s c with
  | none => none
  | some s' => tileM (er || decide (c = 0) || decide (c + 1 = w)) (byteAt row c) s'
def rowsM (rows : List ByteArray) (w : Nat) : Nat → Option (Seen × Bool)
 | 0 => some ((false,false,false,false),false)
 | r + 1 => match rowsM rows w r with
  | none => none
  | some s => match rows[r]? with
   | none => none
   | some row => if row.size = w then colsM row (decide (r = 0) || decide (r + 1 = rows.length)) w s w else none
def widthM (rows : List ByteArray) : Nat := match rows[0]? with
 | some row => row.size
 | none => 0
def levelOk (l : TLevel) : Bool := decide (3 ≤ l.Rows.length) && decide (l.Rows.length ≤ 12) && decide (4 ≤ widthM l.Rows) && decide (widthM l.Rows ≤ 20) && match rowsM l.Rows (widthM l.Rows) l.Rows.length with
 | some s => s.2
 | none => false

@[reducible] def vb (b : Bool) : V1 := .rd [] (.v (.bool b))
section
variable {rows : List ByteArray} {row : ByteArray} {w k c : Nat} {s s' : Seen × Bool} {er : Bool}
theorem rows_none {n : Nat} (h : rowsM rows w k = none) (hk : k ≤ n) : rowsM rows w n = none := by
 induction n with
 | zero => have : k = 0 := by omega
           subst this; exact h
 | succ n ih =>
  rcases Nat.lt_or_ge n k with h1 | h1
  ·have : k = n + 1 := by omega
   subst this; exact h
  ·simp [rowsM,ih h1]
theorem cols_none {n : Nat} (h : colsM row er w s c = none) (hc : c ≤ n) : colsM row er w s n = none := by
 induction n with
 | zero => have : c = 0 := by omega
           subst this; exact h
 | succ n ih =>
  rcases Nat.lt_or_ge n c with h1 | h1
  ·have : c = n + 1 := by omega
   subst this; exact h
  ·simp [colsM,ih h1]
theorem rows_next (h : rowsM rows w k = some s) (hk : k < rows.length) (hw : rows[k].size = w) : rowsM rows w (k + 1) = colsM rows[k] (decide (k = 0) || decide (k + 1 = rows.length)) w s w := by
 rw [rowsM,h]
 simp [List.getElem?_eq_getElem hk,hw]
theorem rows_bad (hk : k < rows.length) (hw : rows[k].size ≠ w) : rowsM rows w (k + 1) = none := by
 rw [rowsM]
 cases rowsM rows w k with
 | none => rfl
 | some s => simp [List.getElem?_eq_getElem hk,hw]
theorem cols_next (h : colsM row er w s c = some s') : colsM row er w s (c + 1) = tileM (er || decide (c = 0) || decide (c + 1 = w)) (byteAt row c) s' := by
 rw [colsM,h]
theorem level_no {l : TLevel} (hk : k < l.Rows.length) (hw : widthM l.Rows = w) (h : rowsM l.Rows w (k + 1) = none) : levelOk l = false := by
 unfold levelOk
 rw [hw,rows_none h (by omega)]
 simp
theorem width_at (h : 0 < rows.length) : widthM rows = rows[0].size := by simp [widthM,List.getElem?_eq_getElem h]
end
end
end Go.Proofs.YtpmacgnmlmmojaaGreatDoor
