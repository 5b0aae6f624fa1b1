/-
  Parts of the proof (rules, data, and what functions of the program and of the reference return), among them: Runs of inputs as bytes: PackTrack, and the columns of rows, in the program and in the reference; UnpackTrack, in the program and in the reference.
  Conditions: those that each theorem names.
-/
import Derived.ProofKit
import Derived.Deep.Slices
import Derived.Test.YtcjclaoogdblbaaGreatDDTampRowk8
import Derived.Test.YtcjclaoogdblbaaGreatDDTampRowk9
set_option linter.unusedVariables false
set_option linter.unusedSimpArgs false
set_option maxRecDepth 8000
set_option maxHeartbeats 8000000
namespace Go.Proofs.YtcjclaoogdblbaaGreat
section
open Go.RowKit Go.ChangeShapes Go.WideShapes Go.Deep

def I64 (x : Int) : Prop := -9223372036854775808 ≤ x ∧ x ≤ 9223372036854775807

class Enc (α : Type) where
 k : Nat
 pos : 0 < k
 e : α → List T
 len : ∀ x,(e x).length = k
 gd : α → Prop
 wt : α → Nat
instance : Enc Int := ⟨1,by omega,fun x => [.v (.int .i64 x)],fun _ => rfl,I64,fun _ => 0⟩
instance : Enc Bool := ⟨1,by omega,fun x => [.v (.bool x)],fun _ => rfl,fun _ => True,fun _ => 0⟩
instance : Enc ByteArray := ⟨1,by omega,fun x => [.v (.string x)],fun _ => rfl,fun x => x.size ≤ 9223372036854775807,fun x => x.size⟩
def wts {α : Type} [Enc α] : List α → Nat
 | [] => 0
 | x :: xs => Enc.wt x + wts xs
@[reducible] def els {α : Type} [Enc α] (xs : List α) : List (List T) := xs.map Enc.e
instance {α : Type} [Enc α] : Enc (List α) := ⟨1,by omega,fun xs => [.sl (Enc.k α) (els xs)],fun _ => rfl,fun xs => xs.length ≤ 9223372036854775807 ∧ ∀ x ∈ xs,Enc.gd x,fun xs => xs.length + wts xs⟩

@[reducible] def sl {α : Type} [Enc α] (xs : List α) : T := .sl (Enc.k α) (els xs)
@[reducible] def ai (n : Int) : V2 := .c (.rd [] (.v (.int .i64 n)))
@[reducible] def astr (s : ByteArray) : V2 := .c (.rd [] (.v (.string s)))
@[reducible] def al {α : Type} [Enc α] (xs : List α) : V2 := .c (.rd [] (sl xs))
@[reducible] def ag {α : Type} [Enc α] (x : α) : V2 := .ag ((Enc.e x).map (V1.rd []))
@[reducible] def L {α : Type} [Enc α] (xs : List α) : V := .o (al xs)

class PlainE (α : Type) [Enc α] : Prop where
 plain : ∀ (x : α) (t : T),t ∈ Enc.e x → ∃ u,t = .v u
instance : PlainE Int := ⟨fun x t h => by simp [Enc.e] at h; exact ⟨_,h⟩⟩
instance : PlainE Bool := ⟨fun x t h => by simp [Enc.e] at h; exact ⟨_,h⟩⟩
instance : PlainE ByteArray := ⟨fun x t h => by simp [Enc.e] at h; exact ⟨_,h⟩⟩
theorem Yy {α : Type} [Enc α] [PlainE α] (xs : List α) : plainT (els xs) := fun e he t ht => by
 obtain ⟨x,_,rfl⟩ := List.mem_map.1 he
 exact PlainE.plain x t ht
theorem els_k {α : Type} [Enc α] (xs : List α) : ∀ e ∈ els xs,e.length = Enc.k α := fun e he => by
 obtain ⟨x,_,rfl⟩ := List.mem_map.1 he
 exact Enc.len x
@[reducible] def bs (l : List UInt8) : ByteArray := ⟨l.toArray⟩
theorem bs_app (a b : List UInt8) : bs a ++ bs b = bs (a ++ b) := by
 apply ByteArray.ext
 rw [ByteArray.data_append]
 simp [bs]
theorem Ym (l : List UInt8) : (bs l).size = l.length := by simp [bs,ByteArray.size]
theorem cat_size (a b : ByteArray) : (a ++ b).size = a.size + b.size := by simp [ByteArray.size_append]
theorem Yl (l : List UInt8) : (bs l).data.toList = l := by simp [bs]
theorem bs_of (s : ByteArray) : bs s.data.toList = s := by simp [bs]
theorem bs_inj {a b : List UInt8} : bs a = bs b ↔ a = b := ⟨fun h => by have := congrArg (·.data.toList) h; simpa [Yl] using this,fun h => by rw [h]⟩
theorem S_eq {a b : ByteArray} (h : a = b) : S a = S b := by rw [h]
theorem Yg (a b : List UInt8) : bE a ++ bE b = bE (a ++ b) := by simp [bE]
theorem bE_snoc (a : List UInt8) (n : Int) (h : 0 ≤ n ∧ n ≤ 255) : bE a ++ [[.v (.int .u8 n)]] = bE (a ++ [UInt8.ofNat n.toNat]) := by
 have h1 : ((UInt8.ofNat n.toNat).toNat : Int) = n := by
  rw [UInt8.toNat_ofNat']
  omega
 unfold bE
 rw [List.map_append,List.map_cons,List.map_nil,h1]

theorem Yv {α : Type} [Enc α] {xs : List α} {k : Nat} (h : k < xs.length) : (els xs)[(k : Int).toNat]? = some (Enc.e xs[k]) := by simp [els,h]
theorem Yx {α : Type} [Enc α] (xs : List α) : (els xs).length = xs.length := by simp [els]
/-! ### Readings -/
theorem list_of_each {α : Type} {p : Nat → α → Prop} : ∀ n : Nat,(∀ i,i < n → ∃ y,p i y) → ∃ ys : List α,ys.length = n ∧ ∀ (i : Nat) (y : α),ys[i]? = some y → p i y
 | 0,_ => ⟨[],rfl,fun _ _ h => by simp at h⟩
 | n + 1,h => by
  obtain ⟨ys,h1,h2⟩ := list_of_each n fun i hi => h i (by omega)
  obtain ⟨y,hy⟩ := h n (by omega)
  refine ⟨ys ++ [y],by simp [h1],fun i z hz => ?_⟩
  rcases Nat.lt_or_ge i ys.length with hi | hi
  ·rw [List.getElem?_append_left hi] at hz
   exact h2 i z hz
  ·rw [List.getElem?_append_right hi] at hz
   have hi0 : i - ys.length = 0 := by
    rcases Nat.eq_zero_or_pos (i - ys.length) with h0 | h0
    ·exact h0
    ·rw [List.getElem?_eq_none (by simp; omega)] at hz
     cases hz
   rw [hi0] at hz
   simp only [List.getElem?_cons_zero,Option.some.injEq] at hz
   subst hz
   have : i = n := by omega
   subst this
   exact hy

def Reads {α : Type} [Enc α] (w : World) (x : α) (cs : List Value) : Prop := cs.length = Enc.k α ∧ ∀ (j : Nat) (t : T) (u : Value),(Enc.e x)[j]? = some t → cs[j]? = some u → RO w (fun _ => True) t u

class RdOf (P : Program) (t : TypeId) (α : outParam Type) [Enc α] : Prop where
 size : P.cellsOf t = Enc.k α
 of : ∀ {H : Type} {enc : TypeId × Value → H} {w : World} {spare : Nat → Bool} {held : Bool} {fuel : Nat} {cs : List Value} {x : DataW H × List MemPlace},
  DataW.trod enc P w 0 spare held fuel t cs = some x → ∃ y : α,Enc.gd y ∧ Reads w y cs

theorem i64_of_wf {n : Int} (h : (Lit.int .i64 n).wf = true) : I64 n := by
 simp [Lit.wf,IntKind.min,IntKind.max,IntKind.signed,IntKind.bits] at h
 exact ⟨by omega,by omega⟩
theorem reads_one {α : Type} [Enc α] {w : World} {x : α} {t : T} {u : Value} (he : Enc.e x = [t]) (h : RO w (fun _ => True) t u) : Reads w x [u] := by
 refine ⟨by rw [← Enc.len x,he]; rfl,fun j t' u' h1 h2 => ?_⟩
 rw [he] at h1
 cases j with
 | zero => simp at h1 h2; subst h1 h2; exact h
 | succ j => simp at h1
theorem rdOf_int {P : Program} {t : TypeId} (ht : P.underlying t = some (.int .i64)) (hs : P.cellsOf t = 1) : RdOf P t Int where
 size := hs
 of h := by
  obtain ⟨n,rfl,_,h3⟩ := DataW.trod_int ht h
  exact ⟨n,i64_of_wf h3,reads_one J (.v _ J)⟩
theorem rdOf_string {P : Program} {t : TypeId} (ht : P.underlying t = some .string) (hs : P.cellsOf t = 1) : RdOf P t ByteArray where
 size := hs
 of h := by
  obtain ⟨s,rfl,_,h3⟩ := DataW.trod_string ht h
  exact ⟨s,by simpa [maxLen,Enc.gd] using h3,reads_one J (.v _ J)⟩
theorem rdOf_slice {P : Program} {t e : TypeId} {α : Type} [Enc α] [hα : RdOf P e α] (ht : P.underlying t = some (.slice e)) (hs : P.cellsOf t = 1) : RdOf P t (List α) where
 size := hs
 of {H enc w spare held fuel cs x} h := by
  rcases open_slice ht h with ⟨rfl,_⟩ | ⟨a,len,cap,m,n,D,Pl,rfl,_,hl,hm,hmm,_,hi⟩
  ·exact ⟨[],⟨by simp,by simp⟩,reads_one rfl (.nil _ _ _ (by simp [maxLen]))⟩
  ·have hlm : len ≤ m := by rw [hmm]; split <;> omega
   obtain ⟨ys,h1,h2⟩ := list_of_each (p := fun i y => ∃ es,w.cells? 0 (a.add (i * P.cellsOf e)) (P.cellsOf e) = some es ∧ Enc.gd (α := α) y ∧ Reads w y es) len fun i hi' => by
    obtain ⟨es,h3,h4⟩ := hi i (by omega)
    obtain ⟨y,hy⟩ := hα.of h4
    exact ⟨y,es,h3,hy⟩
   subst h1
   refine ⟨ys,⟨by simp [maxLen] at hm; omega,fun y hy => ?_⟩,?_⟩
   ·obtain ⟨i,hi'⟩ := List.getElem?_of_mem hy
    obtain ⟨es,_,hg,_⟩ := h2 i y hi'
    exact hg
   refine reads_one J ?_
   rcases Nat.eq_zero_or_pos ys.length with h0 | h0
   ·have := List.eq_nil_of_length_eq_zero h0
    subst this
    exact .nil _ _ _ hm
   ·have hsp : a.spot = none := by
     obtain ⟨es,h3,_⟩ := h2 0 _ (List.getElem?_eq_getElem h0)
     obtain ⟨_,hcl,hat⟩ := World.cells?_some h3
     have hp : 0 < P.cellsOf e := by rw [hα.size]; exact Enc.pos
     have := hat 0 hp
     rw [List.getElem?_eq_getElem (by omega)] at this
     have h5 := World.cell?_spot this
     simpa [Addr.add] using h5
    obtain ⟨b,o,sp⟩ := a
    simp only at hsp
    subst hsp
    have hel : ∀ i,i < ys.length → ∃ es,w.cells? 0 ((⟨b,o,none⟩ : Addr).add (i * P.cellsOf e)) (P.cellsOf e) = some es := fun i hi' => by
     obtain ⟨es,h3,_⟩ := h2 i _ (List.getElem?_eq_getElem hi')
     exact ⟨es,h3⟩
    have hlen : ys.length = (els ys).length := (Yx ys).symm
    rw [hlen]
    refine .sl (els ys) b o (Enc.k α) cap (fun i j => ((w.cells? 0 ((⟨b,o,none⟩ : Addr).add (i * P.cellsOf e)) (P.cellsOf e)).getD []).getD j undef) trivial (by rw [Yx]; exact hl) hm Enc.pos (fun e' he => ?_) (fun i j hi' hj => ?_) fun i j e' t' h3 h4 => ?_
    ·obtain ⟨y,_,rfl⟩ := List.mem_map.1 he
     exact Enc.len y
    ·rw [Yx] at hi'
     obtain ⟨es,h3⟩ := hel i hi'
     obtain ⟨_,hcl,hat⟩ := World.cells?_some h3
     rw [hα.size] at hcl
     have h5 := hat j (by rw [hα.size]; exact hj)
     rw [add_lit,add_lit,hα.size,List.getElem?_eq_getElem (by omega)] at h5
     rw [h3]
     simp only [Option.getD_some]
     rw [h5,List.getD_eq_getElem?_getD,List.getElem?_eq_getElem (by omega)]
     rfl
    ·rw [List.getElem?_map] at h3
     obtain ⟨y,hy,rfl⟩ := Option.map_eq_some_iff.1 h3
     obtain ⟨es,h5,_,h6⟩ := h2 i y hy
     have hj : j < es.length := by rw [h6.1,← Enc.len y]; exact Y7 h4
     show RO w _ t' (((w.cells? 0 ((⟨b,o,none⟩ : Addr).add (i * P.cellsOf e)) (P.cellsOf e)).getD []).getD j undef)
     rw [h5]
     simp only [Option.getD_some]
     rw [Y6 (List.getElem?_eq_getElem hj)]
     exact h6.2 j t' _ h4 (List.getElem?_eq_getElem hj)

theorem reads_of_Trod {P : Program} {t : TypeId} {α : Type} [Enc α] [hα : RdOf P t α] {H : Type} {enc : TypeId × Value → H} {w : World} {spare : Nat → Bool} {held : Bool} {v : Value} {d : DataW H} {p : List MemPlace}
  (h : DataW.Trod enc P w 0 spare held t v d p) : ∃ y : α,Enc.gd y ∧ Reads w y v.cells.toList := by
 obtain ⟨fuel,hf⟩ := h
 exact hα.of hf

theorem r2_slice {α : Type} [Enc α] {w : World} {H : Hs} {xs : List α} {v : Value} (h : Reads w xs [v]) : R2 w H (fun b => b < w.heap.size) (al xs) v :=
 RO.weak (h.2 0 _ v J J) fun b _ hb => .inl hb
theorem law_calls {P : Program} {f : FuncId} {args : List V2} (hc : Con P f [] args [] (B true)) (w : World) (vs : List Value) (hl : vs.length = args.length) (hr : ∀ (i : Nat) (x : V2) (v : Value),args[i]? = some x → vs[i]? = some v → R2 w (fun _ => .nil) (fun b => b < w.heap.size) x v) :
  Calls P f vs.toArray w fun e w' => e = .returned (.bool true) ∧ Below w.heap.size w w' := by
 refine (hc w (fun _ => .nil) (fun b => b < w.heap.size) vs ⟨fun _ => trivial,fun _ => by simp [Pc.fp],fun p q b h => by simp [Pc.fp] at h,fun p b h => by simp [Pc.fp] at h,fun _ h => h⟩ (fun p => by simp [RB]) hl hr).mono ?_
 rintro e w' ⟨H',F',rv,rfl,hs,_,_,hv⟩
 refine ⟨by rw [(RO.plain (show RO w' _ (.v (.bool true)) rv from hv)).1],hs.os,hs.tape,hs.output,hs.size,fun b hb => hs.keep b hb fun p => by simp [Pc.fp]⟩
end
section
open Go.RowKit

theorem Xv {a b : Int} (h : a = b) : I a = I b := by rw [h]
theorem Xj {a b : Bool} (h : a = b) : B a = B b := by rw [h]
theorem eq_ne {α : Type} [DecidableEq α] {xs ys : List α} {j : Nat} (h1 : j < xs.length) (h2 : j < ys.length) (h : ¬ xs[j] = ys[j]) : decide (xs = ys) = false := by
 rw [decide_eq_false_iff_not]
 intro e
 subst e
 exact h J
theorem eq_all {α : Type} [DecidableEq α] {xs ys : List α} {j : Nat} (h1 : xs.length ≤ j) (h2 : xs.length = ys.length) (h : xs.take j = ys.take j) : decide (xs = ys) = true := by
 rw [List.take_of_length_le h1,List.take_of_length_le (by omega)] at h
 simp [h]
theorem eq_len {α : Type} [DecidableEq α] {xs ys : List α} (h : xs.length ≠ ys.length) : decide (xs = ys) = false := by
 rw [decide_eq_false_iff_not]
 intro e
 subst e
 exact h J
theorem eq_next {α : Type} {xs ys : List α} {j : Nat} (h1 : j < xs.length) (h2 : j < ys.length) (h : xs.take j = ys.take j) (e : xs[j] = ys[j]) : xs.take (j + 1) = ys.take (j + 1) := by
 rw [List.take_succ_eq_append_getElem h1,List.take_succ_eq_append_getElem h2,h,e]

/-! ### Counting -/

/-! ### Copying -/
def part {α : Type} [Enc α] (xs : List α) (z : List T) (k : Nat) : List (List T) := els (xs.take k) ++ List.replicate (xs.length - k) z
theorem row_eq {k : Nat} {a b : List (List T)} (h : a = b) : [Ob.row k a] = [Ob.row k b] := by rw [h]


/-! ### Comparing -/
end
section
open Go.RowKit

def ownO : List T → List Ob
 | [] => []
 | .v _ :: ts => ownO ts
 | .sl k es :: ts => .row k es :: ownO ts
 | .un :: ts => ownO ts
def ownV : Nat → List T → List V1
 | _,[] => []
 | n,.v x :: ts => .rd [] (.v x) :: ownV n ts
 | n,.sl _ _ :: ts => .ref n :: ownV (n + 1) ts
 | n,.un :: ts => .un :: ownV n ts

structure TLevel where
 Rows : (List ByteArray)
 deriving DecidableEq
instance : Enc TLevel := ⟨1,by omega,fun x => [sl x.Rows],fun _ => rfl,fun x => Enc.gd x.Rows,fun x => Enc.wt x.Rows⟩
theorem TLevel.same {x y : TLevel} (h0 : x.Rows = y.Rows) : x = y := by cases x; cases y; simp_all
structure TReplay where
 Level : TLevel
 Players : Int
 Seed : Int
 Every : Int
 Rows : (List (List Int))
 Keys : (List ByteArray)
 deriving DecidableEq
instance : Enc TReplay := ⟨6,by omega,fun x => [sl x.Level.Rows,.v (.int .i64 x.Players),.v (.int .i64 x.Seed),.v (.int .i64 x.Every),sl x.Rows,sl x.Keys],fun _ => rfl,fun x => Enc.gd x.Level ∧ Enc.gd x.Players ∧ Enc.gd x.Seed ∧ Enc.gd x.Every ∧ Enc.gd x.Rows ∧ Enc.gd x.Keys,fun x => Enc.wt x.Level + Enc.wt x.Rows + Enc.wt x.Keys⟩
theorem TReplay.same {x y : TReplay} (h0 : x.Level = y.Level) (h1 : x.Players = y.Players) (h2 : x.Seed = y.Seed) (h3 : x.Every = y.Every) (h4 : x.Rows = y.Rows) (h5 : x.Keys = y.Keys) : x = y := by cases x; cases y; simp_all
end
section
open Go.RowKit

def inR (n lo hi : Int) : Bool := decide (lo ≤ n) && decide (n ≤ hi)
theorem Za {n lo hi : Int} : inR n lo hi = true ↔ lo ≤ n ∧ n ≤ hi := by simp [inR]
theorem Xu (n lo hi : Int) : Con Tryz.prog 35 [] [ai n,ai lo,ai hi] [] (B (inR n lo hi)) := by
 refine Con.of Tryz.func35 J Tryz.ntmps35 J (fun E => ?_)
 refine zy (z1 J (zz (zy (z0 J (z0 J (zx (q_geq J J J J) J (z0 J ?_)))))));refine zx (Qt.grdT J J J .stop (fun hgrd => Vo J)) J ?_;refine zx (Ub J (.hit .stop) (fun hgrd => Vo J)) J ?_;refine zx (Ub J (.hit (.hit .stop)) (fun hgrd => q_leq J J J J)) J ?_;refine zx (Zt J J J J) J (z1 J (zz (Xa (F_r ?_))))
 exact Ud J (Ue [] J J J)
theorem S_in (n lo hi : Int) : Con Tryz.prog 68 [] [ai n,ai lo,ai hi] [] (B (inR n lo hi)) := by
 refine Con.of Tryz.func68 J Tryz.ntmps68 J (fun E => ?_)
 refine zy (z1 J (zz (zy (z0 J (z0 J (zx (q_geq J J J J) J (z0 J ?_)))))));refine zx (Qt.grdT J J J .stop (fun hgrd => Vo J)) J ?_;refine zx (Ub J (.hit .stop) (fun hgrd => Vo J)) J ?_;refine zx (Ub J (.hit (.hit .stop)) (fun hgrd => q_leq J J J J)) J ?_;refine zx (Zt J J J J) J (z1 J (zz (Xa (F_r ?_))))
 exact Ud J (Ue [] J J J)

section
variable {α : Type} {p : α → Bool} {xs : List α} {k : Nat}
theorem Ye (h : (xs.take k).all p = true) (hk : k < xs.length) (hp : p xs[k] = true) : (xs.take (k + 1)).all p = true := by
 rw [List.take_succ_eq_append_getElem hk,List.all_append,h]
 simp [hp]
theorem all_no (hk : k < xs.length) (hp : p xs[k] = false) : xs.all p = false := by
 rw [List.all_eq_false]
 exact ⟨_,List.getElem_mem hk,by simp [hp]⟩
theorem all_end (h : (xs.take k).all p = true) (hk : xs.length ≤ k) : xs.all p = true := by rwa [List.take_of_length_le hk] at h
end
def inOk (xs : List Int) : Bool := xs.all fun n => inR n 0 15
def rowOk (xs : List Int) (n : Int) : Bool := decide ((xs.length : Int) = n) && inOk xs

theorem I_inputsOk (xs : List Int) (hn : Enc.gd xs) : Con Tryz.prog 58 [] [al xs] [] (B (inOk xs)) := by
 have hn1 := hn.1
 have hlx := Yx xs
 refine Con.of Tryz.func58 J Tryz.ntmps58 J (fun E => ?_)
 refine zy (z1 J (zz (Qd (zy (z0 J (zx (Kb J J J) J (z0 J (Qe ?_))))))));refine Q0 (Qk ?_);refine Xi (fun m st => ∃ k : Nat,k + m = xs.length ∧ ((xs.take k).all (fun n => inR n 0 15) = true) ∧ st = (⟨_,[(5,L xs),(6,I (els xs).length),(7,I k)],[]⟩ : St)) (xs.length) ⟨_,⟨0,by omega,by simp,J⟩,Uf []⟩ ?_
 rintro m_A _ ⟨k,hk_A,hp_A,rfl⟩
 refine zy (zx (Vi J) J (zz (Qd ?_)))
 refine Xb J (fun h => ?_) (fun h => ?_)
 ·have h3 : k < xs.length := by have := of_decide_eq_true h; omega
  have hat := Yv h3
  refine Qh (Q0 (Qd (Qk (zy (zx (Q2 J J J J (by omega) (by assumption) J) J (zx (Ug J) J (z1 J (zz (Qd ?_)))))))));refine Qc (z0 J ?_);refine zx (Qj J J (Xu xs[k] 0 15) J) J ?_;refine zn J (zz ?_)
  refine Xb J (fun h4 => ?_) (fun h4 => ?_)
  ·refine zy (z1 rfl (zz (Xa (B_r (T_r (T_r (B_r ?_)))))))
   refine T_r (F_r ?_)
   exact Ud J (Ue [] J J (Xj (all_no h3 (by simpa using h4)).symm))
  ·refine Qh (Q1 (Q0 (Qc (Uh rfl (z0 rfl (Qe ?_))))))
   refine Q0 ?_
   exact ⟨xs.length - (k + 1),by omega,_,⟨k + 1,by omega,Ye hp_A h3 (by simpa using h4),J⟩,Uf []⟩
 ·have h3 : ¬ ((k : Int) < (els xs).length) := of_decide_eq_false h
  refine Q9 (T_x (T_x (Xk (Q0 (zy (z1 J (zz (Xa (F_r ?_)))))))))
  exact Ud J (Ue [] J J (Xj (all_end hp_A (by omega)).symm))
theorem I_rowOk (xs : List Int) (n : Int) (hn : Enc.gd xs) : Con Tryz.prog 36 [] [al xs,ai n] [] (B (rowOk xs n)) := by
 have hlx := Yx xs
 refine Con.of Tryz.func36 J Tryz.ntmps36 J (fun E => ?_)
 refine zy (z1 J (zz (zy (z0 J (zx (Kb J J J) J (z0 J (zx (Z5 J J J J) J (z0 J ?_))))))));refine zx (Qt.grdT J J J .stop (fun hgrd => Vo J)) J ?_;refine zx (Ub J (.hit .stop) (fun hgrd => Qj J J (I_inputsOk xs hn) J)) J ?_;refine zx (Zt J J J J) J (z1 J (zz (Xa (F_r ?_))))
 exact Ud J (Ue [] J J (Xj (by rw [hlx]; rfl)))
theorem S_rowOk (xs : List Int) (n : Int) (hn : Enc.gd xs) : Con Tryz.prog 69 [] [al xs,ai n] [] (B (rowOk xs n)) := by
 have hn1 := hn.1
 have hlx := Yx xs
 refine Con.of Tryz.func69 J Tryz.ntmps69 J (fun E => ?_)
 refine zy (z1 J (zz (Qd (zy (z1 J (zz (Qk ?_)))))));refine Xi (fun m st => ∃ k : Nat,k + m = xs.length ∧ ((xs.take k).all (fun n => inR n 0 15) = true) ∧ st = (⟨_,[(0,L xs),(1,I n),(5,I k)],[]⟩ : St)) (xs.length) ⟨_,⟨0,by omega,by simp,J⟩,Uf []⟩ ?_
 rintro m_A _ ⟨k,hk_A,hp_A,rfl⟩
 refine Qd (zy (z0 J (z0 J (zx (Kb J J J) J (zx (Vi J) J (zz ?_))))))
 refine Xb J (fun h => ?_) (fun h => ?_)
 ·have h3 : k < xs.length := by have := of_decide_eq_true h; omega
  have hat := Yv h3
  refine Qh (Q0 (Qd (Qk (zy (z0 J (z0 J (zx (Q2 J J J J (by omega) (by assumption) J) J (zx (Ug J) J ?_))))))));refine zx (Qj J J (S_in xs[k] 0 15) J) J ?_;refine zn J (zz ?_)
  refine Xb J (fun h4 => ?_) (fun h4 => ?_)
  ·refine zy (z1 rfl (zz (Xa (B_r (T_r (T_r (B_r ?_)))))))
   refine T_r (F_r ?_)
   exact Ud J (Ue [] J J (Xj (by unfold rowOk inOk; rw [all_no h3 (by simpa using h4)]; simp)))
  ·refine Qh (Q1 (Q0 (Qc (z0 rfl (Uh rfl ?_)))))
   refine z1 J (zz ?_)
   exact ⟨xs.length - (k + 1),by omega,_,⟨k + 1,by omega,Ye hp_A h3 (by simpa using h4),J⟩,Uf []⟩
 ·have h3 : ¬ ((k : Int) < (els xs).length) := of_decide_eq_false h
  refine Q9 (T_x (T_x (Xk (Q0 (zy (z0 J (zx (Kb J J J) J (z0 J (zx (Z5 J J J J) J (z1 J ?_))))))))));refine zz (Xa (F_r ?_))
  exact Ud J (Ue [] J J (Xj (by unfold rowOk inOk; rw [all_end hp_A (by omega),hlx]; simp)))
end
section
open Go.RowKit

def varN (n : Nat) : List UInt8 := if n < 128 then [UInt8.ofNat n] else UInt8.ofNat (n % 128 + 128) :: varN (n / 128)
termination_by n
decreasing_by omega
def encVar (n : Int) : List UInt8 := if 0 ≤ n ∧ n ≤ 1099511627775 then varN n.toNat else []
theorem K5 {n : Nat} (h : n < 128) : varN n = [UInt8.ofNat n] := by rw [varN,if_pos h]
theorem varN_big {n : Nat} (h : ¬ n < 128) : varN n = UInt8.ofNat (n % 128 + 128) :: varN (n / 128) := by rw [varN,if_neg h]
theorem varN_len (n : Nat) : 1 ≤ (varN n).length ∧ (varN n).length ≤ n + 1 := by
 induction n using Nat.strongRecOn with
 | ind n ih =>
  by_cases h : n < 128
  ·rw [K5 h]; simp
  ·rw [varN_big h]
   have := ih (n / 128) (by omega)
   simp only [List.length_cons]
   omega
theorem varN_step {acc : List UInt8} {m : Nat} {l : List UInt8} (h : acc ++ varN m = l) (hm : ¬ m < 128) {x : UInt8} (hx : x = UInt8.ofNat (m % 128 + 128)) : (acc ++ [x]) ++ varN (m / 128) = l := by
 rw [← h,varN_big hm,hx]; simp
theorem varN_end {acc : List UInt8} {m : Nat} {l : List UInt8} (h : acc ++ varN m = l) (hm : m < 128) {x : UInt8} (hx : x = UInt8.ofNat m) : acc ++ [x] = l := by
 rw [← h,K5 hm,hx]

theorem Xs (n : Int) : Con Tryz.prog 20 [] [ai n] [] (S (bs (encVar n))) := by
 refine Con.of Tryz.func20 J Tryz.ntmps20 J (fun E => ?_)
 refine zy (z1 J (zz (Qd (zy (z0 J (zx (Vi J) J (z0 J ?_)))))));refine zx (Qt.grdF J J J .stop (fun hgrd => Vo J)) J ?_;refine zx (Uj J (.hit .stop) (fun hgrd => Z9 J J J J)) J ?_;refine zx (Uk J) J (zz ?_)
 refine Xb J (fun h => ?_) (fun h => ?_)
 ·simp only [Bool.or_eq_true,decide_eq_true_eq] at h
  refine zy (z1 J (zz (Xa (T_r (F_r ?_)))))
  exact Ud J (Ue [] J J (S_eq (by rw [encVar,if_neg (by omega)])))
 simp only [Bool.or_eq_false_iff,decide_eq_false_iff_not] at h
 have he : encVar n = varN n.toNat := by rw [encVar,if_pos (by omega)]
 rw [he]
 refine Qh (Q0 (zy (z1 J (zz (Qd (Qk ?_))))))
 refine AWP.pre ?_ (W_nil 3 1 J)
 refine Xi (fun m__ st => ∃ (m : Nat) (acc : List UInt8),m = m__ ∧ (acc ++ varN m = varN n.toNat ∧ acc.length + m ≤ 1099511627775) ∧ st = (⟨_,[(0,I m),(3,.o (.c (.ref 0)))],[.row 1 (bE acc)]⟩ : St)) _ ⟨(fun (m : Nat) (acc : List UInt8) => (⟨_,[(0,I m),(3,.o (.c (.ref 0)))],[.row 1 (bE acc)]⟩ : St)) (n.toNat) ([]),⟨n.toNat,[],J,⟨J,by simp <;> omega⟩,J⟩,V6 [0] J (.cons (Xv (by omega)) (.c J (.nil)))⟩ ?_
 rintro m_A _ ⟨m,acc,hk_A,hp_A,rfl⟩
 refine Qd (zy (z0 J (zx (q_geq J J J J) J (zz ?_))))
 refine Xb J (fun h5 => ?_) (fun h5 => ?_)
 ·have h5 : ¬ m < 128 := by have := of_decide_eq_true h5; omega
  have hl := Yh acc
  refine Qh (Q0 (Qk (zy (z0 J (z0 J (zx (Ul J) J (Uh J (zx (Z4 J J J J (V9)) J (Un (Uo J J) J ?_)))))))));refine Xx J J J J J J J J J J (by omega) (by omega) ?_;refine z1 J (zz (Qc (z0 J (zx (q_quo J J J J (by omega)) J (z1 J (Qe (Q1 (Q0 ?_))))))))
  refine ⟨_,(by omega),(fun (m : Nat) (acc : List UInt8) => (⟨_,[(0,I m),(3,.o (.c (.ref 0)))],[.row 1 (bE acc)]⟩ : St)) (m / 128) (acc ++ [UInt8.ofNat ((m : Int) % 128 + 128).toNat]),⟨m / 128,acc ++ [UInt8.ofNat ((m : Int) % 128 + 128).toNat],J,⟨varN_step hp_A.1 h5 (by congr 1 <;> omega),by have := hp_A.2; simp <;> omega⟩,J⟩,Yb [0] (by decide) J (row_eq (bE_snoc _ _ (by omega)).symm) (.cons (Xv (by omega)) (.c J (.nil)))⟩
 ·have h5 : m < 128 := by have := of_decide_eq_false h5; omega
  have hl := Yh acc
  have hb := hp_A.2
  refine Q9 (T_x (T_x (Xk (Q0 (zy (z0 J (z0 J (zx (Z4 J J J J (V9)) J (Un (Uo J J) J ?_)))))))));refine Xx J J J J J J J J J J (by omega) (by omega) ?_;refine z1 J (zz (zy (z0 J (zx (q_bstr J J J J) J (z1 J (zz (Xa (F_r ?_))))))))
  exact Ud J (Ue [] J J (S_eq (congrArg bs (varN_end hp_A.1 h5 (by congr 1)))))
theorem X3 (n : Int) : Con Tryz.prog 88 [] [ai n] [] (S (bs (encVar n))) := by
 refine Con.of Tryz.func88 J Tryz.ntmps88 J (fun E => ?_)
 refine zy (z1 J (zz (Qd (zy (z0 J ?_)))));refine zx (Qj J J (S_in n 0 1099511627775) J) J ?_;refine zn J (zz ?_)
 refine Xb J (fun h => ?_) (fun h => ?_)
 ·have h : ¬ (0 ≤ n ∧ n ≤ 1099511627775) := by rw [← Za]; simpa using h
  refine zy (z1 J (zz (Xa (T_r (F_r ?_)))))
  exact Ud J (Ue [] J J (S_eq (by rw [encVar,if_neg h])))
 have h : 0 ≤ n ∧ n ≤ 1099511627775 := by rw [← Za]; simpa using h
 have he : encVar n = varN n.toNat := by rw [encVar,if_pos h]
 rw [he]
 refine Qh (Q0 (zy (Un (Zx J J J) J (z1 J (zz (Qd (Qk ?_)))))))
 refine Xi (fun m__ st => ∃ (m : Nat) (acc : List UInt8),m = m__ ∧ (acc ++ varN m = varN n.toNat ∧ acc.length + m ≤ 1099511627775) ∧ st = (⟨_,[(0,I m),(3,.o (.c (.ref 0)))],[.row 1 (bE acc)]⟩ : St)) _ ⟨(fun (m : Nat) (acc : List UInt8) => (⟨_,[(0,I m),(3,.o (.c (.ref 0)))],[.row 1 (bE acc)]⟩ : St)) (n.toNat) ([]),⟨n.toNat,[],J,⟨J,by simp <;> omega⟩,J⟩,V6 [0] J (.cons (Xv (by omega)) (.c J (.nil)))⟩ ?_
 rintro m_A _ ⟨m,acc,hk_A,hp_A,rfl⟩
 refine Qd (zy (z0 J (zx (Z9 J J J J) J (zz ?_))))
 refine Xb J (fun h5 => ?_) (fun h5 => ?_)
 ·have h5 : ¬ m < 128 := by have := of_decide_eq_true h5; omega
  have hl := Yh acc
  have hb := hp_A.2
  have hb1 : (m : Int).toNat &&& (127 : Int).toNat = m % 128 := Nat.and_two_pow_sub_one_eq_mod m 7
  have hb2 : ((m % 128 : Nat) : Int).toNat ||| (128 : Int).toNat = m % 128 + 128 := by
   have := Nat.two_pow_add_eq_or_of_lt (i := 7) (b := m % 128) (by omega) 1
   rw [Nat.or_comm]
   show 128 ||| m % 128 = _
   rw [← this]; omega
  have hb3 : (m : Int) / 2 ^ (7 : Int).toNat = (m / 128 : Nat) := by
   show (m : Int) / 128 = _
   omega
  refine Qh (Q0 (Qk (zy (z0 J (z0 J (zx (q_bandK J J J J (by assumption) (by omega)) J (zx (q_borK J J J J (by assumption) (by omega)) J (zx (Z4 J J J J (V9)) J (Un (Uo J J) J ?_)))))))));refine Xx J J J J J J J J J J (by omega) (by omega) ?_;refine z1 J (zz (Qc (z0 J (zx (q_shrK J J J J (by assumption) ⟨by omega,by omega,by decide⟩) J (z1 J (Qe (Q1 (Q0 ?_))))))))
  refine ⟨_,(by omega),(fun (m : Nat) (acc : List UInt8) => (⟨_,[(0,I m),(3,.o (.c (.ref 0)))],[.row 1 (bE acc)]⟩ : St)) (m / 128) (acc ++ [UInt8.ofNat ((m % 128 + 128 : Nat) : Int).toNat]),⟨m / 128,acc ++ [UInt8.ofNat ((m % 128 + 128 : Nat) : Int).toNat],J,⟨varN_step hp_A.1 h5 (by congr 1),by simp <;> omega⟩,J⟩,Yb [0] (by decide) J (row_eq (bE_snoc _ _ (by omega)).symm) (.c J (.c J (.nil)))⟩
 ·have h5 : m < 128 := by have := of_decide_eq_false h5; omega
  have hl := Yh acc
  have hb := hp_A.2
  refine Q9 (T_x (T_x (Xk (Q0 (zy (z0 J (z0 J (zx (Z4 J J J J (V9)) J (Un (Uo J J) J ?_)))))))));refine Xx J J J J J J J J J J (by omega) (by omega) ?_;refine zx (q_bstr J J J J) J (z1 J (zz (Xa (F_r ?_))))
  exact Ud J (Ue [] J J (S_eq (congrArg bs (varN_end hp_A.1 h5 (by congr 1)))))

theorem varN_pow : ∀ (j n : Nat),n < 128 ^ (j + 1) → (varN n).length ≤ j + 1
 | 0,n,h => by rw [K5 (by omega)]; simp
 | j + 1,n,h => by
  by_cases hn : n < 128
  ·rw [K5 hn]; simp
  ·rw [varN_big hn,List.length_cons]
   have := varN_pow j (n / 128) (by rw [Nat.pow_succ] at h; omega)
   omega
theorem Y2 (n : Int) : (encVar n).length ≤ 6 := by
 unfold encVar
 split
 ·exact varN_pow 5 _ (by omega)
 ·simp
def signless (n : Int) : Int := if -549755813888 ≤ n ∧ n ≤ 549755813887 then (if 0 ≤ n then 2 * n else -2 * n - 1) else -1
theorem I_Signless (n : Int) (hn : I64 n) : Con Tryz.prog 49 [] [ai n] [] (I (signless n)) := by
 obtain ⟨hn1,hn2⟩ := hn
 refine Con.of Tryz.func49 J Tryz.ntmps49 J (fun E => ?_)
 refine zy (z1 J (zz (Qd (zy (z0 J (zx (Vi J) J (z0 J ?_)))))));refine zx (Qt.grdF J J J .stop (fun hgrd => Vo J)) J ?_;refine zx (Uj J (.hit .stop) (fun hgrd => Z9 J J J J)) J ?_;refine zx (Uk J) J (zz ?_)
 refine Xb J (fun h => ?_) (fun h => ?_)
 ·simp only [Bool.or_eq_true,decide_eq_true_eq] at h
  refine zy (z1 J (zz (Xa (T_r (F_r ?_)))))
  exact Ud J (Ue [] J J (Xv (by rw [signless,if_neg (by omega)])))
 simp only [Bool.or_eq_false_iff,decide_eq_false_iff_not] at h
 refine Qh (Q0 (Qd (zy (z0 J (zx (q_geq J J J J) J (zz ?_))))))
 refine Xb J (fun h1 => ?_) (fun h1 => ?_)
 ·have h1 := of_decide_eq_true h1
  refine zy (z0 J (zx (Uw J) J (z1 J (zz (Xa (T_r (F_r ?_)))))))
  exact Ud J (Ue [] J J (Xv (by rw [signless,if_pos (by omega),if_pos (by omega)])))
 ·have h1 := of_decide_eq_false h1
  refine Qh (Q0 (zy (z0 J (zx (Uw J) J (Ux J (z1 J (zz (Xa (F_r ?_)))))))))
  exact Ud J (Ue [] J J (Xv (by rw [signless,if_pos (by omega),if_neg (by omega)])))
theorem S_Signless (n : Int) (hn : I64 n) : Con Tryz.prog 106 [] [ai n] [] (I (signless n)) := by
 obtain ⟨hn1,hn2⟩ := hn
 refine Con.of Tryz.func106 J Tryz.ntmps106 J (fun E => ?_)
 refine zy (z1 J (zz (Qd (zy (z0 J ?_)))));refine zx (Qj J J (S_in n (-549755813888) 549755813887) J) J ?_;refine zn J (zz ?_)
 refine Xb J (fun h => ?_) (fun h => ?_)
 ·have h : ¬ (-549755813888 ≤ n ∧ n ≤ 549755813887) := by rw [← Za]; simpa using h
  refine zy (z1 J (zz (Xa (T_r (F_r ?_)))))
  exact Ud J (Ue [] J J (Xv (by rw [signless,if_neg (by omega)])))
 have h : -549755813888 ≤ n ∧ n ≤ 549755813887 := by rw [← Za]; simpa using h
 refine Qh (Q0 (Qd (zy (z0 J (zx (q_geq J J J J) J (zz ?_))))))
 refine Xb J (fun h1 => ?_) (fun h1 => ?_)
 ·have h1 := of_decide_eq_true h1
  refine zy (z0 J (zx (Uw J) J (z1 J (zz (Xa (T_r (F_r ?_)))))))
  exact Ud J (Ue [] J J (Xv (by rw [signless,if_pos (by omega),if_pos (by omega)])))
 ·have h1 := of_decide_eq_false h1
  refine Qh (Q0 (zy (z0 J (zx (Uw J) J (Ux J (z1 J (zz (Xa (F_r ?_)))))))))
  exact Ud J (Ue [] J J (Xv (by rw [signless,if_pos (by omega),if_neg (by omega)])))
def packText (s : ByteArray) : ByteArray := bs (encVar s.size) ++ s
theorem Zq (s : ByteArray) : (packText s).size ≤ s.size + 6 := by
 unfold packText
 rw [cat_size,Ym]
 have := Y2 s.size
 omega
theorem I_PackText (s : ByteArray) (hs : s.size ≤ 1099511627776) : Con Tryz.prog 47 [] [astr s] [] (S (packText s)) := by
 have h1 := Ym (encVar s.size)
 have h2 := Y2 s.size
 refine Con.of Tryz.func47 J Tryz.ntmps47 J (fun E => ?_)
 refine zy (z1 J (zz (zy (z0 J (zx (Kd J J J) J ?_)))));refine zx (Qj J J (Xs s.size) J) J ?_;refine z0 J (zx (q_cat J J J J (by omega)) J (z1 J (zz (Xa (F_r ?_)))))
 exact Ud J (Ue [] J J J)
theorem S_PackText (s : ByteArray) (hs : s.size ≤ 1099511627776) : Con Tryz.prog 104 [] [astr s] [] (S (packText s)) := by
 have h1 := Ym (encVar s.size)
 have h2 := Y2 s.size
 refine Con.of Tryz.func104 J Tryz.ntmps104 J (fun E => ?_)
 refine zy (z1 J (zz (zy (z0 J (zx (Kd J J J) J ?_)))));refine zx (Qj J J (X3 s.size) J) J ?_;refine z0 J (zx (q_cat J J J J (by omega)) J (z1 J (zz (Xa (F_r ?_)))))
 exact Ud J (Ue [] J J J)
def packK (xs : List Int) (k : Nat) : List UInt8 := encVar xs.length ++ (xs.take k).flatMap fun x => encVar (signless x)
def packInts (xs : List Int) : ByteArray := if xs.all (fun x => decide (0 ≤ signless x)) then bs (packK xs xs.length) else bs []
theorem packK_succ {xs : List Int} {k : Nat} (h : k < xs.length) : packK xs (k + 1) = packK xs k ++ encVar (signless xs[k]) := by
 unfold packK
 rw [List.take_succ_eq_append_getElem h,List.flatMap_append,List.append_assoc]
 simp
theorem packK_len (xs : List Int) : ∀ k,k ≤ xs.length → (packK xs k).length ≤ 6 * k + 6
 | 0,_ => by simp [packK]; exact Y2 _
 | k + 1,h => by
  rw [packK_succ (by omega),List.length_append]
  have := packK_len xs k (by omega)
  have := Y2 (signless xs[k])
  omega
theorem packInts_size (xs : List Int) : (packInts xs).size ≤ 6 * xs.length + 6 := by
 unfold packInts
 split
 ·rw [Ym]; exact packK_len xs _ (Nat.le_refl _)
 ·rw [Ym]; simp
theorem I_PackInts (xs : List Int) (hg : Enc.gd xs) (hL : xs.length ≤ 1073741824) : Con Tryz.prog 25 [] [al xs] [] (S (packInts xs)) := by
 have hlx := Yx xs
 have h1 := Ym (encVar (els xs).length)
 have h2 := Y2 (els xs).length
 refine Con.of Tryz.func25 J Tryz.ntmps25 J (fun E => ?_)
 refine zy (z1 J (zz (zy (z0 J (zx (Kb J J J) J ?_)))));refine zx (Qj J J (Xs (els xs).length) J) J ?_;refine Un (q_strb J J J (by omega)) J (z1 J (zz (Qd (zy (z0 J (zx (Kb J J J) J (z0 J (zz ?_))))))));refine Qk ?_
 refine Xi (fun m st => ∃ k : Nat,k + m = xs.length ∧ ((xs.take k).all (fun x => decide (0 ≤ signless x)) = true) ∧ st = (⟨_,[(3,.o (.c (.ref 0))),(11,L xs),(12,I (els xs).length),(13,I k)],[.row 1 (bE (packK xs k))]⟩ : St)) (xs.length) ⟨(fun k : Nat => (⟨_,[(3,.o (.c (.ref 0))),(11,L xs),(12,I (els xs).length),(13,I k)],[.row 1 (bE (packK xs k))]⟩ : St)) 0,⟨0,by omega,by simp,J⟩,Yb [0] (by decide) J (row_eq (by rw [Yl,hlx]; simp [packK])) (.c J (.c J (.c J (.c J (.nil)))))⟩ ?_
 rintro m_A _ ⟨k,hk_A,hp_A,rfl⟩
 refine zy (zx (Vi J) J (zz (Qd ?_)))
 refine Xb J (fun h => ?_) (fun h => ?_)
 ·have h3 : k < xs.length := by have := of_decide_eq_true h; omega
  have hat := Yv h3
  have hb1 := Yh (packK xs k)
  have hb2 := packK_len xs k (by omega)
  have hb3 := Ym (encVar (signless xs[k]))
  have hb4 := Y2 (signless xs[k])
  refine Qh (Q0 (Qd (Qk (zy (zx (Q2 J J J J (by omega) (by assumption) J) J (zx (Ug J) J (z1 J (zz (Qd ?_)))))))));refine Qc (z0 J ?_);refine zx (Qj J J (I_Signless xs[k] (hg.2 _ (List.getElem_mem h3))) J) J ?_;refine z1 J (zz (Qd (zy (z0 J (zx (Vi J) J (zz ?_))))))
  refine Xb J (fun h4 => ?_) (fun h4 => ?_)
  ·refine zy (z1 rfl (zz (Xa (T_r (B_r (T_r (T_r ?_)))))))
   refine B_r (T_r (F_r ?_))
   exact Ud J (Ue [] J J (S_eq (by rw [packInts,all_no h3 (by simpa using h4)]; rfl)))
  ·refine Qh (Q0 (Qc (z0 rfl (z0 rfl ?_))))
   refine zx (Qj J J (Xs (signless xs[k])) J) J ?_;refine Xy J J J J J J J (by omega) (by omega) ?_;refine z1 J (Qe (Q1 (Q0 (Qc (Uh J (z0 J (zz ?_)))))))
   exact ⟨xs.length - (k + 1),by omega,_,⟨k + 1,by omega,Ye hp_A h3 (by simpa using h4),J⟩,(by rw [Yl,Yg,packK_succ h3]; exact Uf [0])⟩
 ·have h3 : ¬ ((k : Int) < (els xs).length) := of_decide_eq_false h
  have hk : k = xs.length := by omega
  refine Q9 (T_x (T_x (Xk (Q0 (zy (z0 J (zx (q_bstr J J J J) J (z1 J (zz ?_)))))))));refine Xa (F_r ?_)
  exact Ud J (Ue [] J J (S_eq (by rw [packInts,all_end hp_A (by omega),hk]; rfl)))
theorem S_PackInts (xs : List Int) (hg : Enc.gd xs) (hL : xs.length ≤ 1073741824) : Con Tryz.prog 92 [] [al xs] [] (S (packInts xs)) := by
 have hlx := Yx xs
 refine Con.of Tryz.func92 J Tryz.ntmps92 J (fun E => ?_)
 refine zy (z1 J (zz (zy (z0 J (zx (Kb J J J) J ?_)))));refine zx (Qj J J (X3 (els xs).length) J) J ?_;refine z1 J (zz (Qd (zy (z1 J (zz (Qk ?_))))))
 refine Xi (fun m st => ∃ k : Nat,k + m = xs.length ∧ ((xs.take k).all (fun x => decide (0 ≤ signless x)) = true) ∧ st = (⟨_,[(0,L xs),(3,S (bs (packK xs k))),(4,I k)],[]⟩ : St)) (xs.length) ⟨(fun k : Nat => (⟨_,[(0,L xs),(3,S (bs (packK xs k))),(4,I k)],[]⟩ : St)) 0,⟨0,by omega,by simp,J⟩,V6 [] J (.c J (.cons (S_eq (by rw [hlx]; simp [packK])) (.c J (.nil))))⟩ ?_
 rintro m_A _ ⟨k,hk_A,hp_A,rfl⟩
 refine Qd (zy (z0 J (z0 J (zx (Kb J J J) J (zx (Vi J) J (zz ?_))))))
 refine Xb J (fun h => ?_) (fun h => ?_)
 ·have h3 : k < xs.length := by have := of_decide_eq_true h; omega
  have hat := Yv h3
  have hb1 := Ym (packK xs k)
  have hb2 := packK_len xs k (by omega)
  have hb3 := Ym (encVar (signless xs[k]))
  have hb4 := Y2 (signless xs[k])
  have hc := S_Signless xs[k] (hg.2 _ (List.getElem_mem h3))
  refine Qh (Q0 (Qd (Qk (Qd (zy (z0 J (z0 J (zx (Q2 J J J J (by omega) (by assumption) J) J (zx (Ug J) J ?_)))))))));refine zx (Qj J J (hc) J) J ?_;refine zx (Vi J) J (zz ?_)
  refine Xb J (fun h4 => ?_) (fun h4 => ?_)
  ·refine zy (z1 rfl (zz (Xa (T_r (B_r (T_r (T_r ?_)))))))
   refine B_r (T_r (F_r ?_))
   exact Ud J (Ue [] J J (S_eq (by rw [packInts,all_no h3 (by simpa using h4)]; rfl)))
  ·refine Qh (Q0 (Qc (z0 rfl (z0 rfl (z0 rfl ?_)))))
   refine zx (Q2 J J J J (by omega) (by assumption) J) J (zx (Ug J) J ?_);refine zx (Qj J J (hc) J) J ?_;refine zx (Qj J J (X3 (signless xs[k])) J) J ?_;refine zx (q_cat J J J J (by omega)) J (z1 J (Qe (Q1 (Q0 (Qc (z0 J (Uh J (z1 J (zz ?_)))))))))
   exact ⟨xs.length - (k + 1),by omega,(fun k : Nat => (⟨_,[(0,L xs),(3,S (bs (packK xs k))),(4,I k)],[]⟩ : St)) (k + 1),⟨k + 1,by omega,Ye hp_A h3 (by simpa using h4),J⟩,V6 [] J (.c J (.cons (S_eq (by rw [bs_app,packK_succ h3])) (.c J (.nil))))⟩
 ·have h3 : ¬ ((k : Int) < (els xs).length) := of_decide_eq_false h
  have hk : k = xs.length := by omega
  refine Q9 (T_x (T_x (Xk (Q0 (zy (z0 J (z1 J (zz (Xa ?_)))))))));refine F_r ?_
  exact Ud J (Ue [] J J (S_eq (by rw [packInts,all_end hp_A (by omega),hk]; rfl)))
end
section
open Go.RowKit

def dvGo (s : ByteArray) (p : Nat) (n : Int) (k : Nat) : Nat → Option (Int × Nat)
 | 0 => none
 | f + 1 => if p + k < s.size then
   (if 128 ≤ byteAt s (p + k) then dvGo s p (n + byteAt s (p + k) % 128 * 2 ^ (7 * k)) (k + 1) f
    else if (byteAt s (p + k) = 0 ∧ 0 < k) ∨ 1099511627775 < n + byteAt s (p + k) % 128 * 2 ^ (7 * k) then none
    else some (n + byteAt s (p + k) % 128 * 2 ^ (7 * k),k + 1)) else none
def decVar (s : ByteArray) (p : Int) : Option (Int × Nat) := if 0 ≤ p ∧ p < s.size then dvGo s p.toNat 0 0 6 else none
@[reducible] def bv (b : Bool) : V1 := .rd [] (.v (.bool b))
@[reducible] def jn (n : Int) : V1 := .rd [] (.v (.int .i64 n))
@[reducible] def dvR : Option (Int × Nat) → V
 | none => .tu [.c (jn 0),.c (jn 0),.c (bv false)]
 | some (n,k) => .tu [.c (jn n),.c (jn k),.c (bv true)]
theorem pow7 {k : Nat} (h : k ≤ 6) : ∃ M : Nat,2 ^ (7 * k) = M ∧ 1 ≤ M ∧ M ≤ 4398046511104 := by
 refine ⟨_,J,Nat.one_le_two_pow,?_⟩
 exact Nat.le_trans (Nat.pow_le_pow_right (by omega) (show 7 * k ≤ 42 by omega)) (by decide)
theorem pow7s (k : Nat) : 2 ^ (7 * (k + 1)) = 128 * 2 ^ (7 * k) := by
 rw [show 7 * (k + 1) = 7 * k + 7 by omega,Nat.pow_add]
 omega
theorem dv_part {c : Int} {M : Nat} (h0 : 0 ≤ c) (h1 : c < 128) : 0 ≤ c * (M : Int) ∧ c * (M : Int) ≤ 127 * M := by
 refine ⟨Int.mul_nonneg h0 (by omega),Int.mul_le_mul_of_nonneg_right (by omega) (by omega)⟩
theorem pow7i (k : Nat) : (2 : Int) ^ (7 * (k : Int)).toNat = ((2 ^ (7 * k) : Nat) : Int) := by
 rw [show (7 * (k : Int)).toNat = 7 * k by omega]
 norm_cast
theorem Xr (s : ByteArray) (p : Int) (hs : s.size ≤ 1099511627776) (hp : I64 p) : Con Tryz.prog 43 [] [astr s,ai p] [] (dvR (decVar s p)) := by
 obtain ⟨hp1,hp2⟩ := hp
 by_cases hin : ¬ (0 ≤ p ∧ p < s.size)
 ·rw [show decVar s p = none by rw [decVar,if_neg hin]]
  refine Con.of Tryz.func43 J Tryz.ntmps43 J (fun E => ?_)
  refine zy (z1 J (z1 J (z1 J (zz (Qd (zy (z0 J (zx (Vi J) J ?_))))))));refine z0 J ?_;refine zx (Qt.grdF J J J .stop (fun hgrd => Vo J)) J ?_;refine zx (Uj J (.hit .stop) (fun hgrd => Vo J)) J ?_;refine zx (Uj J (.hit (.hit .stop)) (fun hgrd => Kd J J J)) J ?_;refine zx (Uj J (.hit (.hit (.hit .stop))) (fun hgrd => q_geq J J J J)) J ?_;refine zx (Uk J) J (zz ?_)
  refine Xb J (fun h => ?_) (fun h => ?_)
  ·refine zy (z1 rfl (z1 rfl (z1 rfl (Qe ?_))))
   refine Q0 (Xa (T_r (F_r ?_)))
   exact Xq J J J J (Ue [] J J J)
  ·simp only [Bool.or_eq_false_iff,decide_eq_false_iff_not] at h
   omega
 have hin := Classical.not_not.1 hin
 obtain ⟨q,rfl⟩ : ∃ q : Nat,p = q := ⟨p.toNat,by omega⟩
 rw [show decVar s q = dvGo s q 0 0 6 by rw [decVar,if_pos hin]; rfl]
 have hb1 : decide ((q : Int) < 0) = false := decide_eq_false (by omega)
 have hb2 : decide ((s.size : Int) ≤ q) = false := decide_eq_false (by omega)
 refine Con.of Tryz.func43 J Tryz.ntmps43 J (fun E => ?_)
 refine zy (z1 J (z1 J (z1 J (zz (Qd (zy (z0 J (U1 J ?_))))))));refine z0 J (z5 J (z0 J (z5 J (z0 J (z5 J (zx (Kd J J J) J (z5 J (z9d J (by assumption) (zpF J (zz ?_))))))))));refine Ql J (Qh (Q0 (zy (z1 J (zz (Qd (zy (z1 J ?_))))))));refine zz (Qk ?_);refine Xi (fun m__ st => ∃ (k : Nat) (n : Int),6 - k = m__ ∧ (k ≤ 6 ∧ 0 ≤ n ∧ n < ((2 ^ (7 * k) : Nat) : Int) ∧ dvGo s q n k (6 - k) = dvGo s q 0 0 6) ∧ st = (⟨_,[(0,S s),(1,I q),(7,I n),(8,I k)],[]⟩ : St)) _ ⟨_,⟨0,0,J,⟨by omega,by omega,by simp,J⟩,J⟩,Uf []⟩ ?_
 rintro m_A _ ⟨k,n,hk_A,hp_A,rfl⟩
 obtain ⟨hk6,hn0,hn1,hgo⟩ := hp_A
 obtain ⟨M,hM,hM1,hM2⟩ := pow7 hk6
 have hMs := pow7s k
 rw [hM] at hn1 hMs
 rw [← hgo]
 refine Qd (zy (z0 J (zx (Vi J) J (z0 J ?_))));refine zx (Qt.grdT J J J .stop (fun hgrd => Vo J)) J ?_;refine zx (Ub J (.hit .stop) (fun hgrd => Vo J)) J ?_;refine zx (Ub J (.hit (.hit .stop)) (fun hgrd => Kd J J J)) J ?_;refine zx (Ub J (.hit (.hit (.hit .stop))) (fun hgrd => Vo J)) J ?_;refine zx (Ub J (.hit (.hit (.hit (.hit .stop)))) (fun hgrd => Xc J J J J (by omega))) J ?_;refine zx (Ub J (.hit (.hit (.hit (.hit (.hit .stop))))) (fun hgrd => Vi J)) J ?_;refine zx (Zt J J J J) J (zz ?_)
 refine Xb J (fun h => ?_) (fun h => ?_)
 ·simp only [Bool.and_eq_true,decide_eq_true_eq] at h
  have hlt : q + k < s.size := by omega
  obtain ⟨f,hf⟩ : ∃ f,6 - k = f + 1 := ⟨5 - k,by omega⟩
  obtain ⟨c,hc⟩ : ∃ c,byteAt s (q + k) = c := ⟨_,rfl⟩
  have hcr := Yn s (q + k)
  rw [hc] at hcr
  have hc1 : byteAt s ((q : Int) + (k : Int)).toNat = c := by rw [← hc]; congr 1
  obtain ⟨d,hd⟩ : ∃ d : Nat,c % 128 = d := ⟨(c % 128).toNat,by omega⟩
  have hd1 : c.toNat &&& (127 : Int).toNat = d := by
   rw [show (127 : Int).toNat = 2 ^ 7 - 1 from rfl,Nat.and_two_pow_sub_one_eq_mod]
   omega
  have hdM := dv_part (c := d) (M := M) (by omega) (by omega)
  obtain ⟨r,hr⟩ : ∃ r,(d : Int) * M = r := ⟨_,rfl⟩
  rw [hr] at hdM
  have hr1 : (d : Int) * 2 ^ (7 * (k : Int)).toNat = r := by rw [pow7i,hM,hr]
  have hgo1 : dvGo s q n k (f + 1) = if 128 ≤ c then dvGo s q (n + r) (k + 1) f else if (c = 0 ∧ 0 < k) ∨ 1099511627775 < n + r then none else some (n + r,k + 1) := by
   have h9 : c % 128 * 2 ^ (7 * k) = r := by
    rw [hd,← hr,← hM]
    norm_cast
   rw [dvGo,if_pos hlt,hc,h9]
  rw [hf,hgo1]
  by_cases h7 : 128 ≤ c
  ·have hb7 : decide (128 ≤ c) = true := decide_eq_true h7
   refine Qh (Q0 (Qd (Qk (zy (z0 J (z0 J (z0 J (Uh J (zx (U3 J) J (z1 J ?_))))))))));refine zz (zy (z0 J (z0 J (zx (q_band8K J J J J (by assumption) (by omega)) J (zx (Z4 J J J J (V8)) J (z0 J (zx (Uw J) J (zx (q_shlK J J J J (by assumption) (by omega) (by omega)) J (Uh J ?_)))))))));refine z1 J (zz (Qd (zy (z0 J (z9d J (by assumption) (zz (Qm J (Q9 ?_))))))));refine T_x (Xk (Q0 (Qc (z0 J (Uh J (z1 J (zz ?_)))))))
   refine ⟨_,(by omega),_,⟨k + 1,n + r,J,⟨by omega,by omega,by rw [hMs]; omega,by rw [if_pos h7,show 6 - (k + 1) = f by omega]⟩,J⟩,Uf []⟩
  have hb7 : decide (128 ≤ c) = false := decide_eq_false h7
  rw [if_neg h7]
  refine Qh (Q0 (Qd (Qk (zy (z0 J (z0 J (z0 J (Uh J (zx (U3 J) J (z1 J ?_))))))))));refine zz (zy (z0 J (z0 J (zx (q_band8K J J J J (by assumption) (by omega)) J (zx (Z4 J J J J (V8)) J (z0 J (zx (Uw J) J (zx (q_shlK J J J J (by assumption) (by omega) (by omega)) J (Uh J ?_)))))))));refine z1 J (zz (Qd (zy (z0 J (z9d J (by assumption) (zz (Ql J (Qh ?_))))))));refine Q0 (Qd (zy (z0 J (zx (Z5 J J J J) J (z0 J ?_)))));refine zx (Qt.grdT J J J .stop (fun hgrd => Vo J)) J ?_;refine zx (Ub J (.hit .stop) (fun hgrd => Z9 J J J J)) J ?_;refine zx (Zt J J J J) J (z0 J ?_);refine zx (Qt.grdF J J J .stop (fun hgrd => Vo J)) J ?_;refine zx (Uj J (.hit .stop) (fun hgrd => Z9 J J J J)) J ?_;refine zx (Uk J) J (zz ?_)
  refine Xb J (fun h8 => ?_) (fun h8 => ?_)
  ·simp only [Bool.or_eq_true,Bool.and_eq_true,decide_eq_true_eq] at h8
   rw [if_pos (by omega)]
   refine zy (z1 J (z1 J (z1 J (zz (Xa (T_r (B_r (T_r (T_r ?_)))))))));refine B_r (T_r (F_r ?_))
   exact Xq J J J J (Ue [] J J J)
  ·simp only [Bool.or_eq_false_iff,Bool.and_eq_false_iff,decide_eq_false_iff_not] at h8
   rw [if_neg (by omega)]
   refine Qh (Q0 (zy (z0 J (z0 J (Uh J (z1 J (z1 J (z1 J (zz ?_)))))))));refine Xa (B_r (T_r (T_r (B_r (T_r (F_r ?_))))))
   exact Xq J J J J (Ue [] J J J)
 ·simp only [Bool.and_eq_false_iff,decide_eq_false_iff_not] at h
  rw [show dvGo s q n k (6 - k) = none by
   cases hf : 6 - k with
   | zero => rfl
   | succ f => rw [dvGo,if_neg (by omega)]]
  refine Q9 (T_x (T_x (Xk (Q0 (zy (z1 J (z1 J (z1 J (zz ?_)))))))));refine Xa (F_r ?_)
  exact Xq J J J J (Ue [] J J J)
theorem or_add {n r M : Nat} {k d : Nat} (hM : 2 ^ (7 * k) = M) (hn : n < M) (hr : d * M = r) : n ||| r = n + r := by
 subst hM
 rw [← hr,Nat.mul_comm,Nat.add_comm,Nat.or_comm]
 exact (Nat.two_pow_add_eq_or_of_lt hn d).symm
def bytesL (s : ByteArray) (p k : Nat) : List UInt8 := (s.data.toList.drop p).take k
theorem byteAt_list {s : ByteArray} {i : Nat} (h : i < s.size) : ∃ b : UInt8,s.data.toList[i]? = some b ∧ byteAt s i = (b.toNat : Int) := by
 have h1 : i < s.data.size := h
 refine ⟨s.data[i],by simp [h1],?_⟩
 unfold byteAt
 have : s[i]? = some s.data[i] := by
  rw [getElem?_pos s i h]
  rfl
 rw [this]
 rfl
theorem bytesL_succ {s : ByteArray} {p k : Nat} (h : p + k < s.size) : ∃ b : UInt8,bytesL s p (k + 1) = bytesL s p k ++ [b] ∧ byteAt s (p + k) = (b.toNat : Int) := by
 obtain ⟨b,h1,h2⟩ := byteAt_list h
 refine ⟨b,?_,h2⟩
 unfold bytesL
 rw [List.take_add_one,List.getElem?_drop,h1]
 rfl
def dval : List UInt8 → Nat
 | [] => 0
 | b :: l => b.toNat % 128 + 128 * dval l
theorem dval_snoc (b : UInt8) : ∀ l : List UInt8,dval (l ++ [b]) = dval l + b.toNat % 128 * 2 ^ (7 * l.length)
 | [] => by simp [dval]
 | a :: l => by
  have h1 := dval_snoc b l
  have h2 := pow7s l.length
  simp only [List.cons_append,dval,List.length_cons,h1,h2]
  rw [Nat.mul_add,Nat.add_assoc,Nat.mul_left_comm]
theorem dval_lt : ∀ l : List UInt8,dval l < 2 ^ (7 * l.length)
 | [] => by simp [dval]
 | a :: l => by
  have h1 := dval_lt l
  have h2 := pow7s l.length
  simp only [dval,List.length_cons,h2]
  omega
theorem dval_zero {b : UInt8} (hb : b.toNat < 128) : ∀ {l : List UInt8},dval (l ++ [b]) = 0 → b.toNat = 0
 | [],h => by simp [dval] at h; omega
 | a :: l,h => by
  simp only [List.cons_append,dval] at h
  exact dval_zero hb (l := l) (by omega)
theorem canon {b : UInt8} (hb : b.toNat < 128) : ∀ (l : List UInt8),(∀ a ∈ l,128 ≤ a.toNat) → (varN (dval (l ++ [b])) = l ++ [b] ↔ (l = [] ∨ b.toNat ≠ 0))
 | [],_ => by
  simp only [List.nil_append,dval,true_or,iff_true]
  rw [Nat.mod_eq_of_lt hb,Nat.mul_zero,Nat.add_zero,K5 hb,UInt8.ofNat_toNat]
 | a :: l,h => by
  have ih := canon hb l fun x hx => h x (by simp [hx])
  have ha := h a (by simp)
  have ha2 := a.toNat_lt
  simp only [List.cons_append,dval]
  by_cases hD : dval (l ++ [b]) = 0
  ·have h0 := dval_zero hb hD
   rw [hD,Nat.mul_zero,Nat.add_zero,K5 (by omega)]
   constructor
   ·intro e
    have := congrArg List.length e
    simp at this
   ·intro e
    rcases e with e | e
    ·cases e
    ·exact absurd h0 e
  ·have hm : (a.toNat % 128 + 128 * dval (l ++ [b])) % 128 = a.toNat % 128 := by omega
   have hq : (a.toNat % 128 + 128 * dval (l ++ [b])) / 128 = dval (l ++ [b]) := by omega
   have ha3 : UInt8.ofNat (a.toNat % 128 + 128) = a := by
    rw [show a.toNat % 128 + 128 = a.toNat by omega,UInt8.ofNat_toNat]
   rw [varN_big (by omega),hm,hq,ha3]
   simp only [List.cons.injEq,true_and]
   rw [ih]
   constructor
   ·intro e
    rcases e with rfl | e
    ·refine .inr fun e => hD ?_
     simp [dval,e]
    ·exact .inr e
   ·intro e
    rcases e with e | e
    ·cases e
    ·exact .inr e
theorem extract_list (s : ByteArray) (p q : Nat) : (s.extract p q).data.toList = (s.data.toList.drop p).take (q - p) := by
 rw [ByteArray.data_extract,Array.toList_extract]
theorem extract_bytes (s : ByteArray) (p k : Nat) : s.extract p (p + k) = bs (bytesL s p k) := by
 rw [← bs_of (s.extract p (p + k)),extract_list,show p + k - p = k by omega]
 rfl
theorem X0 (s : ByteArray) (p : Int) (hs : s.size ≤ 1099511627776) (hp : I64 p) : Con Tryz.prog 101 [] [astr s,ai p] [] (dvR (decVar s p)) := by
 obtain ⟨hp1,hp2⟩ := hp
 by_cases hneg : p < 0
 ·have hb1 : decide (p < 0) = true := decide_eq_true hneg
  rw [show decVar s p = none by rw [decVar,if_neg (by omega)]]
  refine Con.of Tryz.func101 J Tryz.ntmps101 J (fun E => ?_)
  refine zy (z1 J (z1 J (z1 J (zz (Qd (zy (z0 J (U1 J ?_))))))));refine zz (Qm J (zy (z1 J (z1 J (z1 J (zz (Xa (T_r ?_))))))));refine F_r ?_
  exact Xq J J J J (Ue [] J J J)
 have hb1 : decide (p < 0) = false := decide_eq_false hneg
 by_cases hbig : (s.size : Int) ≤ p
 ·have hb2 : decide (p < (s.size : Int)) = false := decide_eq_false (by omega)
  rw [show decVar s p = none by rw [decVar,if_neg (by omega)]]
  refine Con.of Tryz.func101 J Tryz.ntmps101 J (fun E => ?_)
  refine zy (z1 J (z1 J (z1 J (zz (Qd (zy (z0 J (U1 J ?_))))))));refine zz (Ql J (Qh (Q0 (zy (z1 J (zz (Qd (Qd ?_))))))));refine Qc (z1 J (zz (Qk ?_)));refine Xi (fun m st => ∃ k : Nat,k + m = 1 ∧ (True) ∧ st = (⟨_,[(0,S s),(1,I p),(8,I k)],[]⟩ : St)) (1) ⟨_,⟨0,by omega,trivial,J⟩,Uf []⟩ ?_
  rintro m_A _ ⟨k,hk_A,hp_A,rfl⟩
  have hkz : k = 0 ∨ k = 1 := by omega
  have hb3 : decide ((k : Int) < 6) = true := decide_eq_true (by omega)
  refine Qd (zy (z0 J (U1 J (z0 J (z5 J (z0 J (z5 J (z0 J (z5 J (zx (Kd J J J) J ?_))))))))));refine z5 J (U1 J (zpT J (z0 J (z6 J (z6 J (z6 J (z6 J (z6 J (z6 J (zpF J (Qe ?_)))))))))));refine Q0 (Ql J (Q9 (T_x (T_x (Xk (Q0 (zy (z1 J (z1 J (z1 J ?_))))))))));refine zz (Xa (F_r ?_))
  exact Xq J J J J (Ue [] J J J)
 obtain ⟨q,rfl⟩ : ∃ q : Nat,p = q := ⟨p.toNat,by omega⟩
 have hb2 : decide ((q : Int) < (s.size : Int)) = true := decide_eq_true (by omega)
 rw [show decVar s q = dvGo s q 0 0 6 by rw [decVar,if_pos (by omega)]; rfl]
 refine Con.of Tryz.func101 J Tryz.ntmps101 J (fun E => ?_)
 refine zy (z1 J (z1 J (z1 J (zz (Qd (zy (z0 J (U1 J ?_))))))));refine zz (Ql J (Qh (Q0 (zy (z1 J (zz (Qd (Qd ?_))))))));refine Qc (z1 J (zz (Qk ?_)));refine Xi (fun m__ st => ∃ (k : Nat) (n : Nat),6 - k = m__ ∧ (k ≤ 6 ∧ q + k ≤ s.size ∧ (∀ a ∈ bytesL s q k,128 ≤ a.toNat) ∧ n = dval (bytesL s q k) ∧ dvGo s q n k (6 - k) = dvGo s q 0 0 6) ∧ st = (⟨_,[(0,S s),(1,I q),(7,I n),(8,I k)],[]⟩ : St)) _ ⟨_,⟨0,0,J,⟨by omega,by omega,by simp [bytesL],by simp [bytesL,dval],J⟩,J⟩,Uf []⟩ ?_
 rintro m_A _ ⟨k,n,hk_A,hp_A,rfl⟩
 obtain ⟨hk6,hqk,hall,hn,hgo⟩ := hp_A
 have hlen : (bytesL s q k).length = k := by
  have : s.data.toList.length = s.size := by simp
  simp [bytesL]; omega
 have hn1 := dval_lt (bytesL s q k)
 rw [← hn,hlen] at hn1
 obtain ⟨M,hM,hM1,hM2⟩ := pow7 hk6
 have hMs := pow7s k
 rw [hM] at hn1 hMs
 rw [← hgo]
 refine Qd (zy (z0 J (zx (Vi J) J (z0 J ?_))));refine zx (Qt.grdT J J J .stop (fun hgrd => Vo J)) J ?_;refine zx (Ub J (.hit .stop) (fun hgrd => Vo J)) J ?_;refine zx (Ub J (.hit (.hit .stop)) (fun hgrd => Kd J J J)) J ?_;refine zx (Ub J (.hit (.hit (.hit .stop))) (fun hgrd => Qr J J J J (by assumption))) J ?_;refine zx (Zt J J J J) J (z0 J ?_);refine zx (Qt.grdT J J J .stop (fun hgrd => Vo J)) J ?_;refine zx (Ub J (.hit .stop) (fun hgrd => Vo J)) J ?_;refine zx (Ub J (.hit (.hit .stop)) (fun hgrd => Vt J)) J ?_;refine zx (Ub J (.hit (.hit (.hit .stop))) (fun hgrd => Vo J)) J ?_;refine zx (Ub J (.hit (.hit (.hit (.hit .stop)))) (fun hgrd => Kd J J J)) J ?_;refine zx (Ub J (.hit (.hit (.hit (.hit (.hit .stop))))) (fun hgrd => Vi J)) J ?_;refine zx (Zt J J J J) J (zz ?_)
 refine Xb J (fun h => ?_) (fun h => ?_)
 ·simp only [Bool.and_eq_true,decide_eq_true_eq] at h
  have hlt : q + k < s.size := by omega
  obtain ⟨f,hf⟩ : ∃ f,6 - k = f + 1 := ⟨5 - k,by omega⟩
  obtain ⟨b,hb,hcb⟩ := bytesL_succ hlt
  obtain ⟨c,hc⟩ : ∃ c : Nat,b.toNat = c := ⟨_,rfl⟩
  rw [hc] at hcb
  have hcr := Yn s (q + k)
  rw [hcb] at hcr
  have hc1 : byteAt s ((q : Int) + (k : Int)).toNat = (c : Int) := by rw [← hcb]; congr 1
  obtain ⟨d,hd⟩ : ∃ d : Nat,c % 128 = d := ⟨_,rfl⟩
  have hd1 : (c : Int).toNat &&& (127 : Int).toNat = d := by
   rw [show (127 : Int).toNat = 2 ^ 7 - 1 from rfl,Nat.and_two_pow_sub_one_eq_mod]
   exact hd
  obtain ⟨r,hr⟩ : ∃ r : Nat,d * M = r := ⟨_,rfl⟩
  have hr2 : r ≤ 127 * M := by rw [← hr]; exact Nat.mul_le_mul_right _ (by omega)
  have hr1 : (d : Int) * 2 ^ (7 * (k : Int)).toNat = (r : Int) := by rw [pow7i,hM,← hr]; norm_cast
  have hor : (n : Int).toNat ||| (r : Int).toNat = n + r := or_add hM hn1 hr
  have hval : n + r = dval (bytesL s q (k + 1)) := by rw [hb,dval_snoc,hlen,hM,hc,hd,hr,← hn]
  have hgo1 : dvGo s q n k (f + 1) = if 128 ≤ (c : Int) then dvGo s q ((n + r : Nat) : Int) (k + 1) f else if ((c : Int) = 0 ∧ 0 < k) ∨ 1099511627775 < ((n + r : Nat) : Int) then none else some (((n + r : Nat) : Int),k + 1) := by
   have h9 : (n : Int) + (c : Int) % 128 * 2 ^ (7 * k) = ((n + r : Nat) : Int) := by
    rw [show (c : Int) % 128 = d by omega,← hr,← hM]
    norm_cast
   rw [dvGo,if_pos hlt,hcb,h9]
  rw [hf,hgo1]
  by_cases h7 : 128 ≤ (c : Int)
  ·have hb7 : decide ((c : Int) < 128) = false := decide_eq_false (by omega)
   refine Qh (Q0 (Qd (Qk (zy (z0 J (z0 J (z0 J (z0 J (Uh J (zx (U3 J) J ?_))))))))));refine zx (q_band8K J J J J (by assumption) (by omega)) J (zx (Z4 J J J J (V8)) J (z0 J (zx (Uw J) J (zx (q_shlK J J J J (by assumption) (by omega) (by omega)) J (zx (q_borK J J J J (by assumption) (by omega)) J (z1 J (zz (zy (z0 J ?_)))))))));refine z0 J (z0 J (Uh J (zx (U3 J) J (U1 J (zz (Ql J (Qh (Q1 (Q0 (Qc ?_))))))))));refine z0 J (Uh J (z1 J (zz ?_)))
   refine ⟨_,(by omega),_,⟨k + 1,n + r,rfl,⟨by omega,by omega,by rw [hb]; intro a ha; rcases List.mem_append.1 ha with ha | ha; exact hall a ha; simp only [List.mem_singleton] at ha; rw [ha]; omega,hval,by rw [if_pos h7,show 6 - (k + 1) = f by omega]⟩,rfl⟩,Uf []⟩
  have hb7 : decide ((c : Int) < 128) = true := decide_eq_true (by omega)
  rw [if_neg h7]
  have hcan := canon (b := b) (by omega) (bytesL s q k) hall
  rw [← hb,← hval] at hcan
  have hle := Y2 ((n + r : Nat) : Int)
  have hex := extract_bytes s q (k + 1)
  have hnil : bytesL s q k = [] ↔ k = 0 := by rw [← List.length_eq_zero_iff,hlen]
  have hne : bytesL s q (k + 1) ≠ [] := by rw [hb]; simp
  have hex1 : s.extract ((q : Int)).toNat ((q : Int) + (k : Int) + 1).toNat = bs (bytesL s q (k + 1)) := by rw [← hex]; congr 1
  have hiff : bs (encVar ((n + r : Nat) : Int)) = bs (bytesL s q (k + 1)) ↔ ¬ (((c : Int) = 0 ∧ 0 < k) ∨ 1099511627775 < ((n + r : Nat) : Int)) := by
   rw [bs_inj,encVar]
   split
   ·rename_i h5
    rw [show (((n + r : Nat) : Int)).toNat = n + r by omega,hcan,hnil]
    omega
   ·exact ⟨fun e => absurd e.symm hne,fun e => by omega⟩
  by_cases h8 : ((c : Int) = 0 ∧ 0 < k) ∨ 1099511627775 < ((n + r : Nat) : Int)
  ·rw [if_pos h8]
   have hb8 : decide (bs (encVar ((n + r : Nat) : Int)) ≠ s.extract ((q : Int)).toNat ((q : Int) + (k : Int) + 1).toNat) = true := decide_eq_true (by rw [hex1]; exact fun e => hiff.1 e h8)
   refine Qh (Q0 (Qd (Qk (zy (z0 J (z0 J (z0 J (z0 J (Uh J (zx (U3 J) J ?_))))))))));refine zx (q_band8K J J J J (by assumption) (by omega)) J (zx (Z4 J J J J (V8)) J (z0 J (zx (Uw J) J (zx (q_shlK J J J J (by assumption) (by omega) (by omega)) J (zx (q_borK J J J J (by assumption) (by omega)) J (z1 J (zz (zy (z0 J ?_)))))))));refine z0 J (z0 J (Uh J (zx (U3 J) J (U1 J (zz (Qm J (Qd (Qd (Xh u8_0 u8_1 u8_2 J (Ve (Vo J) J ?_))))))))));refine Ve (Qj J J (X3 ((n + r : Nat) : Int)) J) J ?_;refine Ve (Vo J) J (Ve (Vo J) J (Ve (Vo J) J (Ve (Vo J) J (Ve (Vt J) J (Ve (Vt J) J (Ve (Kn J J J J J (by omega)) J (Ve (Km J J J J (by assumption)) J (Vd (zz (Qm J ?_))))))))));refine zy (z1 J (z1 J (z1 J (zz (Xa (T_r (B_r (T_r (T_r ?_)))))))));refine B_r (T_r (F_r ?_))
   exact Xq J J J J (Ue [] J J J)
  ·rw [if_neg h8]
   have hb8 : decide (bs (encVar ((n + r : Nat) : Int)) ≠ s.extract ((q : Int)).toNat ((q : Int) + (k : Int) + 1).toNat) = false := decide_eq_false (by rw [hex1]; exact fun e => e (hiff.2 h8))
   refine Qh (Q0 (Qd (Qk (zy (z0 J (z0 J (z0 J (z0 J (Uh J (zx (U3 J) J ?_))))))))));refine zx (q_band8K J J J J (by assumption) (by omega)) J (zx (Z4 J J J J (V8)) J (z0 J (zx (Uw J) J (zx (q_shlK J J J J (by assumption) (by omega) (by omega)) J (zx (q_borK J J J J (by assumption) (by omega)) J (z1 J (zz (zy (z0 J ?_)))))))));refine z0 J (z0 J (Uh J (zx (U3 J) J (U1 J (zz (Qm J (Qd (Qd (Xh u8_0 u8_1 u8_2 J (Ve (Vo J) J ?_))))))))));refine Ve (Qj J J (X3 ((n + r : Nat) : Int)) J) J ?_;refine Ve (Vo J) J (Ve (Vo J) J (Ve (Vo J) J (Ve (Vo J) J (Ve (Vt J) J (Ve (Vt J) J (Ve (Kn J J J J J (by omega)) J (Ve (Km J J J J (by assumption)) J (Vd (zz (Ql J ?_))))))))));refine Qh (Q0 (zy (z0 J (z0 J (Uh J (z1 J (z1 J (z1 J (zz ?_)))))))));refine Xa (B_r (T_r (T_r (B_r (T_r (F_r ?_))))))
   exact Xq J J J J (Ue [] J J J)
 ·simp only [Bool.and_true,Bool.and_eq_false_iff,decide_eq_false_iff_not] at h
  rw [show dvGo s q n k (6 - k) = none by
   cases hf : 6 - k with
   | zero => rfl
   | succ f => rw [dvGo,if_neg (by omega)]]
  refine Q9 (T_x (T_x (Xk (Q0 (zy (z1 J (z1 J (z1 J (zz ?_)))))))));refine Xa (F_r ?_)
  exact Xq J J J J (Ue [] J J J)
end
section
open Go.RowKit

section
variable {P : Program} {ops : Array Oper} {o : Oper} {st : St} {m : Nat} {t t' : TypeId} {y z : Operand} {ps qs : List Nat}
theorem Q8 {xs : List V2} (ho : o.op = .move y) (hg : o.guard = none) (hy : st.ev y = .tu xs) : Qt P ops o st (.tu xs) [] m :=
 .pure hg fun a w H F hr => ⟨a.eval y,by simp [execOp,ho],by rw [← hy]; exact hr.ev y⟩
theorem Ga {xs : List V2} (h0_ : (o.op, o.guard, st.ev y) = (.move y, none, .tu xs)) : Qt P ops o st (.tu xs) [] m := by
 simp only [Prod.mk.injEq] at h0_
 exact Q8 h0_.1 h0_.2.1 h0_.2.2
end
end
section
open Go.RowKit

theorem dvGo_some (s : ByteArray) (q : Nat) : ∀ (f k : Nat) (n m : Int) (j : Nat),0 ≤ n → dvGo s q n k f = some (m,j) → 0 ≤ m ∧ m ≤ 1099511627775 ∧ k < j ∧ j ≤ k + f ∧ q + j ≤ s.size := by
 intro f
 induction f with
 | zero => intro k n m j _ h; simp [dvGo] at h
 | succ f ih =>
  intro k n m j h0 h
  have hb := Yn s (q + k)
  rw [dvGo] at h
  have hp : (0 : Int) ≤ byteAt s (q + k) % 128 * 2 ^ (7 * k) := Int.mul_nonneg (by omega) (Int.le_of_lt (Int.pow_pos (by omega)))
  split at h
  ·split at h
   ·have := ih (k + 1) _ m j (by omega) h
    omega
   ·split at h
    ·cases h
    ·simp only [Option.some.injEq,Prod.mk.injEq] at h
     obtain ⟨rfl,rfl⟩ := h
     omega
  ·cases h
theorem Ys {s : ByteArray} {p m : Int} {j : Nat} (h : decVar s p = some (m,j)) : 0 ≤ p ∧ 0 ≤ m ∧ m ≤ 1099511627775 ∧ 1 ≤ j ∧ j ≤ 6 ∧ p + j ≤ s.size := by
 unfold decVar at h
 split at h
 ·have := dvGo_some s p.toNat 6 0 0 m j (by omega) h
  omega
 ·cases h
theorem q_quoN {P : Program} {ops : Array Oper} {o : Oper} {st : St} {n : Nat} {t t' : TypeId} {y z : Operand} {ps qs : List Nat} {i j r : Int} (ho : o.op = .binOp .quo t y z t') (hg : o.guard = none) (hy : st.ev y = .o (.c (.rd ps (.v (.int .i64 i))))) (hz : st.ev z = .o (.c (.rd qs (.v (.int .i64 j)))))
  (hr : i.tdiv j = r) (hb : -9223372036854775808 ≤ i ∧ i ≤ 9223372036854775807 ∧ 1 ≤ j) : Qt P ops o st (I r) [] n :=
 hr ▸ Zu ho hg hy hz fun w => by
  have : j ≠ 0 := by omega
  simp [binOp,Op.intDiv,this,IntWalk.i64_quo' _ _ hb]
def signed (n : Int) : Int := if 0 ≤ n ∧ n ≤ 1099511627775 then (if n % 2 = 0 then n / 2 else -((n + 1) / 2)) else 0
theorem signed_gd (n : Int) : I64 (signed n) := by
 unfold signed
 split
 ·split <;> exact ⟨by omega,by omega⟩
 ·exact ⟨by omega,by omega⟩
theorem neg_tdiv {n : Int} (h : 0 ≤ n) : (-(n + 1)).tdiv 2 = -((n + 1) / 2) := by
 rw [Int.neg_tdiv,Int.tdiv_eq_ediv_of_nonneg (by omega)]
theorem I_Signed (n : Int) (hn : I64 n) : Con Tryz.prog 64 [] [ai n] [] (I (signed n)) := by
 obtain ⟨hn1,hn2⟩ := hn
 refine Con.of Tryz.func64 J Tryz.ntmps64 J (fun E => ?_)
 refine zy (z1 J (zz (Qd (zy (z0 J (zx (Vi J) J (z0 J ?_)))))));refine zx (Qt.grdF J J J .stop (fun hgrd => Vo J)) J ?_;refine zx (Uj J (.hit .stop) (fun hgrd => Z9 J J J J)) J ?_;refine zx (Uk J) J (zz ?_)
 refine Xb J (fun h => ?_) (fun h => ?_)
 ·simp only [Bool.or_eq_true,decide_eq_true_eq] at h
  refine zy (z1 J (zz (Xa (T_r (F_r ?_)))))
  exact Ud J (Ue [] J J (Xv (by rw [signed,if_neg (by omega)])))
 simp only [Bool.or_eq_false_iff,decide_eq_false_iff_not] at h
 have hv := neg_tdiv (n := n) (by omega)
 refine Qh (Q0 (Qd (zy (z0 J (zx (Ul J) J (zx (Z5 J J J J) J (zz ?_)))))))
 refine Xb J (fun h1 => ?_) (fun h1 => ?_)
 ·have h1 := of_decide_eq_true h1
  refine zy (z0 J (zx (q_quo J J J J (by omega)) J (z1 J (zz (Xa (T_r (F_r ?_)))))))
  exact Ud J (Ue [] J J (Xv (by rw [signed,if_pos (by omega),if_pos (by omega)])))
 ·have h1 := of_decide_eq_false h1
  refine Qh (Q0 (zy (z0 J (Uh J (zx (q_neg J J J (by omega)) J (zx (q_quoN J J J J (by assumption) (by omega)) J (z1 J (zz (Xa ?_)))))))));refine F_r ?_
  exact Ud J (Ue [] J J (Xv (by rw [signed,if_pos (by omega),if_neg (by omega)])))
theorem S_Signed (n : Int) (hn : I64 n) : Con Tryz.prog 118 [] [ai n] [] (I (signed n)) := by
 obtain ⟨hn1,hn2⟩ := hn
 refine Con.of Tryz.func118 J Tryz.ntmps118 J (fun E => ?_)
 refine zy (z1 J (zz (Qd (zy (z0 J ?_)))));refine zx (Qj J J (S_in n 0 1099511627775) J) J ?_;refine zn J (zz ?_)
 refine Xb J (fun h => ?_) (fun h => ?_)
 ·have h : ¬ (0 ≤ n ∧ n ≤ 1099511627775) := by rw [← Za]; simpa using h
  refine zy (z1 J (zz (Xa (T_r (F_r ?_)))))
  exact Ud J (Ue [] J J (Xv (by rw [signed,if_neg h])))
 have h : 0 ≤ n ∧ n ≤ 1099511627775 := by rw [← Za]; simpa using h
 have hv := neg_tdiv (n := n) (by omega)
 have hm : n.toNat &&& (1 : Int).toNat = n.toNat % 2 := Nat.and_two_pow_sub_one_eq_mod n.toNat 1
 refine Qh (Q0 (Qd (zy (z0 J (zx (q_bandK J J J J (by assumption) (by omega)) J (zx (Z5 J J J J) J (zz ?_)))))))
 refine Xb J (fun h1 => ?_) (fun h1 => ?_)
 ·have h1 := of_decide_eq_true h1
  refine zy (z0 J (Uh J (zx (q_neg J J J (by omega)) J (zx (q_quoN J J J J (by assumption) (by omega)) J (z1 J (zz (Xa (T_r (F_r ?_)))))))))
  exact Ud J (Ue [] J J (Xv (by rw [signed,if_pos (by omega),if_neg (by omega)])))
 ·have h1 := of_decide_eq_false h1
  refine Qh (Q0 (zy (z0 J (zx (q_quo J J J J (by omega)) J (z1 J (zz (Xa (F_r ?_))))))))
  exact Ud J (Ue [] J J (Xv (by rw [signed,if_pos (by omega),if_pos (by omega)])))
/-! ### Lists -/
def uiGo (s : ByteArray) (p : Nat) : Nat → Nat → Option (List Int × Nat)
 | 0,pos => some ([],pos)
 | c + 1,pos => match decVar s ((p : Int) + (pos : Int)) with
  | none => none
  | some (v,m) => (uiGo s p c (pos + m)).map fun r => (signed v :: r.1,r.2)
def unpackInts (s : ByteArray) (p : Int) : Option (List Int × Nat) := match decVar s p with
 | none => none
 | some (n,k) => uiGo s p.toNat n.toNat k
@[reducible] def uiO : Option (List Int × Nat) → List Ob
 | none => [.row 1 []]
 | some (l,_) => [.row 1 (els l)]
@[reducible] def uiR : Option (List Int × Nat) → V
 | none => .tu [.c (.ref 0),.c (jn 0),.c (bv false)]
 | some (_,k) => .tu [.c (.ref 0),.c (jn k),.c (bv true)]
theorem uiGo_some (s : ByteArray) (p : Nat) : ∀ (c pos : Nat) (l : List Int) (j : Nat),uiGo s p c pos = some (l,j) → l.length = c ∧ pos + c ≤ j ∧ (0 < c → p + j ≤ s.size) ∧ (∀ x ∈ l,I64 x) := by
 intro c
 induction c with
 | zero =>
  intro pos l j h
  simp only [uiGo,Option.some.injEq,Prod.mk.injEq] at h
  obtain ⟨rfl,rfl⟩ := h
  exact ⟨J,by omega,fun h => by omega,fun x hx => by simp at hx⟩
 | succ c ih =>
  intro pos l j h
  rw [uiGo] at h
  split at h
  ·cases h
  ·rename_i v m hd
   obtain ⟨r,h1,h2⟩ := Option.map_eq_some_iff.1 h
   simp only [Prod.mk.injEq] at h2
   obtain ⟨rfl,rfl⟩ := h2
   have hm := Ys hd
   obtain ⟨a1,a2,a3,a4⟩ := ih (pos + m) r.1 r.2 h1
   refine ⟨by simp [a1],by omega,fun _ => ?_,fun x hx => ?_⟩
   ·by_cases hc : 0 < c
    ·exact a3 hc
    ·have : c = 0 := by omega
     subst this
     simp only [uiGo,Option.some.injEq] at h1
     rw [← h1]
     show p + (pos + m) ≤ s.size
     omega
   ·rcases List.mem_cons.1 hx with rfl | hx
    ·exact signed_gd v
    ·exact a4 x hx
theorem K4 {s : ByteArray} {p : Int} {l : List Int} {j : Nat} (h : unpackInts s p = some (l,j)) : 0 ≤ p ∧ 1 ≤ j ∧ p + j ≤ s.size ∧ (l.length : Int) + 1 ≤ j ∧ (∀ x ∈ l,I64 x) := by
 unfold unpackInts at h
 split at h
 ·cases h
 ·rename_i n k hd
  have hm := Ys hd
  obtain ⟨a1,a2,a3,a4⟩ := uiGo_some s _ _ _ _ _ h
  refine ⟨hm.1,by omega,?_,by omega,a4⟩
  by_cases hn : 0 < n.toNat
  ·have := a3 hn; omega
  ·have h0 : n.toNat = 0 := by omega
   rw [h0] at h
   simp only [uiGo,Option.some.injEq,Prod.mk.injEq] at h
   omega
theorem els_snocI (acc : List Int) (v : Int) : els (acc ++ [v]) = els acc ++ [[.v (.int .i64 v)]] := by simp [els,Enc.e]
theorem I_UnpackInts (s : ByteArray) (p : Int) (hs : s.size ≤ 1099511627776) (hp : I64 p) : Con Tryz.prog 45 [] [astr s,ai p] (uiO (unpackInts s p)) (uiR (unpackInts s p)) := by
 have hd := Xr s p hs hp
 cases hv : decVar s p with
 | none =>
  rw [hv] at hd
  rw [show unpackInts s p = none by rw [unpackInts,hv]]
  refine Con.of Tryz.func45 J Tryz.ntmps45 J (fun E => ?_)
  refine zy (z1 J (z1 J (z1 J (zz (zy (z0 J (z0 J ?_)))))));refine Un (Z3 J J (hd) J J J) J ?_;refine zx (Ga J) J (ze J (ze J (ze J (z1 J (z1 J (z1 J (zz (Qd (zy ?_)))))))));refine z0 J (zn J (z0 J (z6 J (z6 J (z6 J (z6 J (z6 J (z6 J (z6 J (z6 J (zpT J ?_)))))))))));refine zz (Qm J (zy (z1 J (z1 J (z1 J (zz (Xa (T_r ?_))))))));refine F_r ?_
  exact Xq J J J J (X9 [1] [0] J J (by decide) J J J)
 | some r =>
  obtain ⟨n,k0⟩ := r
  rw [hv] at hd
  have hm := Ys hv
  obtain ⟨q,rfl⟩ : ∃ q : Nat,p = q := ⟨p.toNat,by omega⟩
  obtain ⟨c,rfl⟩ : ∃ c : Nat,n = c := ⟨n.toNat,by omega⟩
  rw [show unpackInts s q = uiGo s q c k0 by rw [unpackInts,hv]; rfl]
  by_cases hbig : (s.size : Int) - q - k0 < c
  ·have hb : decide ((s.size : Int) - q - k0 < c) = true := decide_eq_true hbig
   have hno : uiGo s q c k0 = none := by
    cases ho : uiGo s q c k0 with
    | none => rfl
    | some r =>
     have := uiGo_some s q c k0 r.1 r.2 ho
     omega
   rw [hno]
   refine Con.of Tryz.func45 J Tryz.ntmps45 J (fun E => ?_)
   refine zy (z1 J (z1 J (z1 J (zz (zy (z0 J (z0 J ?_)))))));refine Un (Z3 J J (hd) J J J) J ?_;refine zx (Ga J) J (ze J (ze J (ze J (z1 J (z1 J (z1 J (zz (Qd (zy ?_)))))))));refine z0 J (zn J (z0 J (z5 J (z0 J (z5 J (z0 J (z5 J (zx (Kd J J J) J (z5 J (z0 J (z5 J ?_)))))))))));refine Ux J (z5 J (z0 J (z5 J (Ux J (z5 J (Gb J (zpF J (zz (Qm J (Qd ?_))))))))));refine Qc (z1 J (z1 J (z1 J (zz (Xa (T_r (F_r ?_)))))))
   exact Xq J J J J (X9 [1] [0] J J (by decide) J J J)
  have hb : decide ((s.size : Int) - q - k0 < c) = false := decide_eq_false hbig
  refine Con.of Tryz.func45 J Tryz.ntmps45 J (fun E => ?_)
  refine zy (z1 J (z1 J (z1 J (zz (zy (z0 J (z0 J ?_)))))));refine Un (Z3 J J (hd) J J J) J ?_;refine zx (Ga J) J (ze J (ze J (ze J (z1 J (z1 J (z1 J (zz (Qd (zy ?_)))))))));refine z0 J (zn J (z0 J (z5 J (z0 J (z5 J (z0 J (z5 J (zx (Kd J J J) J (z5 J (z0 J (z5 J ?_)))))))))));refine Ux J (z5 J (z0 J (z5 J (Ux J (z5 J (Gb J (zpF J (zz (Ql J (Qh ?_))))))))));refine Q0 (zy (z0 J ?_));refine Un (q_makec 1 J J J J (by omega) (by omega) (by omega) (by omega) J (by simp)) J ?_;refine z1 J (zz (Qd (zy (z1 J (zz (Qk ?_))))));refine Xi (fun m__ st => ∃ (k : Nat) (pos : Nat) (acc : List Int),c - k = m__ ∧ (k ≤ c ∧ acc.length = k ∧ q + pos + (c - k) ≤ s.size + (c - k) ∧ q + pos ≤ s.size ∧ (uiGo s q (c - k) pos).map (fun r => (acc ++ r.1,r.2)) = uiGo s q c k0) ∧ st = (⟨_,[(0,S s),(1,I q),(7,I c),(8,I pos),(10,.o (.c (.ref 0))),(11,I k)],[.row 1 (els acc)]⟩ : St)) _ ⟨_,⟨0,k0,[],J,⟨by omega,J,by omega,by omega,by simp⟩,J⟩,Uf [0]⟩ ?_
  rintro m_A _ ⟨k,pos,acc,hk_A,hp_A,rfl⟩
  obtain ⟨hkc,hacc,_,hpos,hgo⟩ := hp_A
  have hla := Yx acc
  rw [← hgo]
  refine Qd (zy (z0 J (z0 J (zx (Vi J) J (zz ?_)))))
  refine Xb J (fun h => ?_) (fun h => ?_)
  ·have hlt : k < c := by have := of_decide_eq_true h; omega
   have hd2 := Xr s ((q : Int) + (pos : Int)) hs ⟨by omega,by omega⟩
   obtain ⟨f,hf⟩ : ∃ f,c - k = f + 1 := ⟨c - k - 1,by omega⟩
   rw [hf]
   cases hv2 : decVar s ((q : Int) + (pos : Int)) with
   | none =>
    rw [hv2] at hd2
    rw [show uiGo s q (f + 1) pos = none by rw [uiGo,hv2]]
    refine Qh (Q0 (Qd (Qk (zy (z0 J (z0 J (z0 J (Uh J ?_))))))));refine Un (Z3 J J (hd2) J J J) J ?_;refine zx (Ga J) J (ze J (ze J (ze J (z1 J (z1 J (z1 J (zz (Qd (zy ?_)))))))));refine z0 J (zn J (zz (Qm J (zy (z1 J (z1 J (z1 J (zz ?_))))))));refine Xa (T_r (B_r (T_r (T_r (B_r (T_r (F_r ?_)))))))
    exact Xq J J J J (X9 [1] [1] J J (by decide) J J J)
   | some r =>
    obtain ⟨v,m⟩ := r
    rw [hv2] at hd2
    have hm2 := Ys hv2
    have hsg := I_Signed v ⟨by omega,by omega⟩
    refine Qh (Q0 (Qd (Qk (zy (z0 J (z0 J (z0 J (Uh J ?_))))))));refine Un (Z3 J J (hd2) J J J) J ?_;refine zx (Ga J) J (ze J (ze J (ze J (z1 J (z1 J (z1 J (zz (Qd (zy ?_)))))))));refine z0 J (zn J (zz (Ql J (Qh (Q0 (zy (z0 J (z0 J ?_))))))));refine zx (Qj J J (hsg) J) J ?_;refine Un (Uo J J) J ?_;refine Xx J J J J J J J J J J (by omega) (by omega) ?_;refine z1 J (zz (Qc (z0 J (z0 J (Uh J (z1 J (Qe (Q1 (Q0 (Qc ?_))))))))));refine z0 J (Uh J (z1 J (zz ?_)))
    refine ⟨_,(by omega),(fun (k : Nat) (pos : Nat) (acc : List Int) => (⟨_,[(0,S s),(1,I q),(7,I c),(8,I pos),(10,.o (.c (.ref 0))),(11,I k)],[.row 1 (els acc)]⟩ : St)) (k + 1) (pos + m) (acc ++ [signed v]),⟨k + 1,pos + m,acc ++ [signed v],J,⟨by omega,by simp [hacc],by omega,by omega,by rw [uiGo,hv2,show c - (k + 1) = f by omega]; simp [Option.map_map]; rfl⟩,J⟩,Yb [0] (by decide) J (row_eq (els_snocI acc _)) (.c J (.c J (.c J (.c J (.c J (.c J (.nil)))))))⟩
  ·have hkk : k = c := by have := of_decide_eq_false h; omega
   subst hkk
   rw [show uiGo s q (k - k) pos = some ([],pos) by rw [Nat.sub_self]; rfl]
   refine Q9 (T_x (T_x (Xk (Q0 (zy (z0 J (z0 J (z1 J (z1 J (z1 J ?_))))))))));refine zz (Xa (F_r ?_))
   exact Xq J J J J (Ue [0] J (row_eq (by simp)) J)
theorem S_UnpackInts (s : ByteArray) (p : Int) (hs : s.size ≤ 1099511627776) (hp : I64 p) : Con Tryz.prog 103 [] [astr s,ai p] (uiO (unpackInts s p)) (uiR (unpackInts s p)) := by
 have hd := X0 s p hs hp
 have h00 : ([] : List (List T)).length = 0 := rfl
 cases hv : decVar s p with
 | none =>
  rw [hv] at hd
  rw [show unpackInts s p = none by rw [unpackInts,hv]]
  have hb0 : decide ((0 : Int) < 0) = false := rfl
  refine Con.of Tryz.func103 J Tryz.ntmps103 J (fun E => ?_)
  refine zy (z1 J (z1 J (z1 J (zz (zy (z0 J (z0 J ?_)))))));refine Un (Z3 J J (hd) J J J) J ?_;refine zx (Ga J) J (ze J (ze J (ze J (z1 J (z1 J (z1 J (zz (zy (Un (Zx J J J) J ?_)))))))));refine z1 J (zz (Qd (zy (z1 J (zz (Qk ?_))))));refine Xi (fun m st => ∃ k : Nat,k + m = 1 ∧ (k = 0) ∧ st = (⟨_,[(7,I 0),(9,B false),(11,I k)],[]⟩ : St)) (1) ⟨_,⟨0,by omega,J,J⟩,Uf []⟩ ?_
  rintro m_A _ ⟨k,hk_A,hp_A,rfl⟩
  subst hp_A
  refine Qd (zy (z0 J (z0 J (U1 J (z0 J (z6 J (zpF J (zz (Ql J ?_)))))))));refine Q9 (T_x (T_x (Xk (Q0 (Qd (zy (z0 J (zn J (zz ?_)))))))));refine Qm J (zy (Un (Zx J J J) J (z1 J (z1 J (z1 J (zz (Xa (T_r (F_r ?_)))))))))
  exact Xq J J J J (Ue [0] J J J)
 | some r =>
  obtain ⟨n,k0⟩ := r
  rw [hv] at hd
  have hm := Ys hv
  obtain ⟨q,rfl⟩ : ∃ q : Nat,p = q := ⟨p.toNat,by omega⟩
  obtain ⟨c,rfl⟩ : ∃ c : Nat,n = c := ⟨n.toNat,by omega⟩
  rw [show unpackInts s q = uiGo s q c k0 by rw [unpackInts,hv]; rfl]
  refine Con.of Tryz.func103 J Tryz.ntmps103 J (fun E => ?_)
  refine zy (z1 J (z1 J (z1 J (zz (zy (z0 J (z0 J ?_)))))));refine Un (Z3 J J (hd) J J J) J ?_;refine zx (Ga J) J (ze J (ze J (ze J (z1 J (z1 J (z1 J (zz (zy (Un (Zx J J J) J ?_)))))))));refine z1 J (zz (Qd (zy (z1 J (zz (Qk ?_))))));refine Xi (fun m__ st => ∃ (k : Nat) (pos : Nat) (acc : List Int) (ok : Bool),c + 1 - k = m__ ∧ (k ≤ c + 1 ∧ acc.length = k ∧ k ≤ s.size + 1 ∧ (ok = true → k ≤ c ∧ k + 1 ≤ pos ∧ q + pos ≤ s.size ∧ (uiGo s q (c - k) pos).map (fun r => (acc ++ r.1,r.2)) = uiGo s q c k0) ∧ (ok = false → uiGo s q c k0 = none) ∧ pos ≤ s.size) ∧ st = (⟨_,[(0,S s),(1,I q),(7,I c),(8,I pos),(9,B ok),(10,.o (.c (.ref 0))),(11,I k)],[.row 1 (els acc)]⟩ : St)) _ ⟨_,⟨0,k0,[],true,J,⟨by omega,J,by omega,fun _ => ⟨by omega,by omega,by omega,by simp⟩,fun e => (by cases e),by omega⟩,J⟩,Uf [0]⟩ ?_
  rintro m_A _ ⟨k,pos,acc,ok,hk_A,hp_A,rfl⟩
  obtain ⟨hkc,hacc,hks,hok,hno,hps⟩ := hp_A
  have hla := Yx acc
  cases ok with
  | false =>
   rw [hno rfl]
   by_cases hlt : (k : Int) < c
   ·have hb : decide ((k : Int) < c) = true := decide_eq_true hlt
    refine Qd (zy (z0 J (z0 J (U1 J (z0 J (z5 J (z0 J (zpT J (zz ?_)))))))));refine Ql J (Q9 (T_x (T_x (Xk (Q0 (Qd (zy (z0 J (zn J (Qe ?_))))))))));refine Q0 (Qm J (zy (Un (Zx J J J) J (z1 J (z1 J (z1 J (zz (Xa (T_r ?_)))))))));refine F_r ?_
    exact Xq J J J J (Ue [1] J J J)
   ·have hb : decide ((k : Int) < c) = false := decide_eq_false hlt
    refine Qd (zy (z0 J (z0 J (U1 J (z0 J (z6 J (zpF J (zz (Ql J ?_)))))))));refine Q9 (T_x (T_x (Xk (Q0 (Qd (zy (z0 J (zn J (zz ?_)))))))));refine Qm J (zy (Un (Zx J J J) J (z1 J (z1 J (z1 J (zz (Xa (T_r (F_r ?_)))))))))
    exact Xq J J J J (Ue [1] J J J)
  | true =>
   obtain ⟨hkc2,hkp,hpos,hgo⟩ := hok rfl
   rw [← hgo]
   by_cases hlt : (k : Int) < c
   ·have hb : decide ((k : Int) < c) = true := decide_eq_true hlt
    have hd2 := X0 s ((q : Int) + (pos : Int)) hs ⟨by omega,by omega⟩
    obtain ⟨f,hf⟩ : ∃ f,c - k = f + 1 := ⟨c - k - 1,by omega⟩
    rw [hf]
    cases hv2 : decVar s ((q : Int) + (pos : Int)) with
    | none =>
     rw [hv2] at hd2
     rw [show uiGo s q (f + 1) pos = none by rw [uiGo,hv2]]
     have hsg := S_Signed 0 ⟨by omega,by omega⟩
     refine Qd (zy (z0 J (z0 J (U1 J (z0 J (z5 J (z0 J (zpT J (zz ?_)))))))));refine Qm J (Qh (Q0 (Qd (Qk (zy (z0 J (z0 J (z0 J (Uh J ?_)))))))));refine Un (Z3 J J (hd2) J J J) J ?_;refine zx (Ga J) J (ze J (ze J (ze J (z1 J (z1 J (z1 J (zz (zy (z0 J ?_)))))))));refine z1 J (zz (zy (z0 J (z0 J (Uh J (z1 J (zz (Qc ?_))))))));refine z0 J (z0 J ?_);refine zx (Qj J J (hsg) J) J ?_;refine Un (Uo J J) J ?_;refine Xx J J J J J J J J J J (by omega) (by omega) ?_;refine z1 J (Qe (Q1 (Q0 (Qc (z0 J (Uh J (z1 J (zz ?_))))))))
     refine ⟨_,(by omega),(fun (k : Nat) (pos : Nat) (acc : List Int) (ok : Bool) => (⟨_,[(0,S s),(1,I q),(7,I c),(8,I pos),(9,B ok),(10,.o (.c (.ref 0))),(11,I k)],[.row 1 (els acc)]⟩ : St)) (k + 1) (pos) (acc ++ [signed 0]) (false),⟨k + 1,pos,acc ++ [signed 0],false,J,⟨by omega,by simp [hacc],by omega,fun e => (by cases e),fun _ => rfl,hps⟩,J⟩,Yb [0] (by decide) J (row_eq (els_snocI acc _)) (.c J (.c J (.c J (.c J (.c J (.c J (.c J (.nil))))))))⟩
    | some r =>
     obtain ⟨v,m⟩ := r
     rw [hv2] at hd2
     have hm2 := Ys hv2
     have hsg := S_Signed v ⟨by omega,by omega⟩
     refine Qd (zy (z0 J (z0 J (U1 J (z0 J (z5 J (z0 J (zpT J (zz ?_)))))))));refine Qm J (Qh (Q0 (Qd (Qk (zy (z0 J (z0 J (z0 J (Uh J ?_)))))))));refine Un (Z3 J J (hd2) J J J) J ?_;refine zx (Ga J) J (ze J (ze J (ze J (z1 J (z1 J (z1 J (zz (zy (z0 J ?_)))))))));refine z1 J (zz (zy (z0 J (z0 J (Uh J (z1 J (zz (Qc ?_))))))));refine z0 J (z0 J ?_);refine zx (Qj J J (hsg) J) J ?_;refine Un (Uo J J) J ?_;refine Xx J J J J J J J J J J (by omega) (by omega) ?_;refine z1 J (Qe (Q1 (Q0 (Qc (z0 J (Uh J (z1 J (zz ?_))))))))
     refine ⟨_,(by omega),(fun (k : Nat) (pos : Nat) (acc : List Int) (ok : Bool) => (⟨_,[(0,S s),(1,I q),(7,I c),(8,I pos),(9,B ok),(10,.o (.c (.ref 0))),(11,I k)],[.row 1 (els acc)]⟩ : St)) (k + 1) (pos + m) (acc ++ [signed v]) (true),⟨k + 1,pos + m,acc ++ [signed v],true,J,⟨by omega,by simp [hacc],by omega,fun _ => ⟨by omega,by omega,by omega,by rw [uiGo,hv2,show c - (k + 1) = f by omega]; simp [Option.map_map]; rfl⟩,fun e => (by cases e),by omega⟩,J⟩,Yb [0] (by decide) J (row_eq (els_snocI acc _)) (.c J (.c J (.c J (.c J (.c J (.c J (.c J (.nil))))))))⟩
   ·have hb : decide ((k : Int) < c) = false := decide_eq_false hlt
    have hkk : k = c := by omega
    subst hkk
    rw [show uiGo s q (k - k) pos = some ([],pos) by rw [Nat.sub_self]; rfl]
    refine Qd (zy (z0 J (z0 J (U1 J (z0 J (z6 J (zpF J (zz (Ql J ?_)))))))));refine Q9 (T_x (T_x (Xk (Q0 (Qd (zy (z0 J (zn J (zz ?_)))))))));refine Ql J (Qh (Q0 (zy (z0 J (z0 J (z1 J (z1 J (z1 J (zz ?_)))))))));refine Xa (F_r ?_)
    exact Xq J J J J (Ue [0] J (row_eq (by simp)) J)
/-! ### Texts -/
def unpackText (s : ByteArray) (p : Int) : Option (ByteArray × Nat) := match decVar s p with
 | none => none
 | some (n,k) => if (s.size : Int) - p - k < n then none else some (s.extract (p + k).toNat (p + k + n).toNat,k + n.toNat)
@[reducible] def utR : Option (ByteArray × Nat) → V
 | none => .tu [.c (.rd [] (.v (.string ⟨#[]⟩))),.c (jn 0),.c (bv false)]
 | some (t,k) => .tu [.c (.rd [] (.v (.string t))),.c (jn k),.c (bv true)]
theorem unpackText_some {s t : ByteArray} {p : Int} {j : Nat} (h : unpackText s p = some (t,j)) : 0 ≤ p ∧ 1 ≤ j ∧ p + j ≤ s.size ∧ t.size + 1 ≤ j ∧ t = s.extract (p + j - t.size).toNat (p + j).toNat := by
 unfold unpackText at h
 split at h
 ·cases h
 ·rename_i n k hd
  have hm := Ys hd
  split at h
  ·cases h
  ·simp only [Option.some.injEq,Prod.mk.injEq] at h
   obtain ⟨rfl,rfl⟩ := h
   have hsz : (s.extract (p + k).toNat (p + k + n).toNat).size = n.toNat := by
    rw [ByteArray.size_extract]; omega
   refine ⟨hm.1,by omega,by omega,by omega,?_⟩
   rw [hsz]
   congr 1 <;> omega
theorem tu3 {a b : V2} {x y : Int} (h : x = y) : V.tu [a,.c (.rd [] (.v (.int .i64 x))),b] = V.tu [a,.c (.rd [] (.v (.int .i64 y))),b] := by rw [h]
theorem I_UnpackText (s : ByteArray) (p : Int) (hs : s.size ≤ 1099511627776) (hp : I64 p) : Con Tryz.prog 63 [] [astr s,ai p] [] (utR (unpackText s p)) := by
 have hd := Xr s p hs hp
 cases hv : decVar s p with
 | none =>
  rw [hv] at hd
  rw [show unpackText s p = none by rw [unpackText,hv]]
  refine Con.of Tryz.func63 J Tryz.ntmps63 J (fun E => ?_)
  refine zy (z1 J (z1 J (z1 J (zz (zy (z0 J (z0 J ?_)))))));refine Un (Z3 J J (hd) J J J) J ?_;refine zx (Ga J) J (ze J (ze J (ze J (z1 J (z1 J (z1 J (zz (Qd (zy ?_)))))))));refine z0 J (zn J (z0 J (z6 J (z6 J (z6 J (z6 J (z6 J (z6 J (z6 J (z6 J (zpT J ?_)))))))))));refine zz (Qm J (zy (z1 J (z1 J (z1 J (zz (Xa (T_r ?_))))))));refine F_r ?_
  exact Xq J J J J (Ue [] J J J)
 | some r =>
  obtain ⟨n,k⟩ := r
  rw [hv] at hd
  have hm := Ys hv
  by_cases hbig : (s.size : Int) - p - k < n
  ·have hb : decide ((s.size : Int) - p - k < n) = true := decide_eq_true hbig
   rw [show unpackText s p = none by rw [unpackText,hv]; exact if_pos hbig]
   refine Con.of Tryz.func63 J Tryz.ntmps63 J (fun E => ?_)
   refine zy (z1 J (z1 J (z1 J (zz (zy (z0 J (z0 J ?_)))))));refine Un (Z3 J J (hd) J J J) J ?_;refine zx (Ga J) J (ze J (ze J (ze J (z1 J (z1 J (z1 J (zz (Qd (zy ?_)))))))));refine z0 J (zn J (z0 J (z5 J (z0 J (z5 J (z0 J (z5 J (zx (Kd J J J) J (z5 J (z0 J (z5 J ?_)))))))))));refine Ux J (z5 J (z0 J (z5 J (Ux J (z5 J (Gb J (zpF J (zz (Qm J (Qd ?_))))))))));refine Qc (z1 J (z1 J (z1 J (zz (Xa (T_r (F_r ?_)))))))
   exact Xq J J J J (Ue [] J J J)
  have hb : decide ((s.size : Int) - p - k < n) = false := decide_eq_false hbig
  rw [show unpackText s p = some (s.extract (p + k).toNat (p + k + n).toNat,k + n.toNat) by rw [unpackText,hv]; exact if_neg hbig]
  refine Con.of Tryz.func63 J Tryz.ntmps63 J (fun E => ?_)
  refine zy (z1 J (z1 J (z1 J (zz (zy (z0 J (z0 J ?_)))))));refine Un (Z3 J J (hd) J J J) J ?_;refine zx (Ga J) J (ze J (ze J (ze J (z1 J (z1 J (z1 J (zz (Qd (zy ?_)))))))));refine z0 J (zn J (z0 J (z5 J (z0 J (z5 J (z0 J (z5 J (zx (Kd J J J) J (z5 J (z0 J (z5 J ?_)))))))))));refine Ux J (z5 J (z0 J (z5 J (Ux J (z5 J (Gb J (zpF J (zz (Ql J (Qh ?_))))))))));refine Q0 (zy (z0 J (z0 J (z0 J (Uh J (z0 J (z0 J (Uh J (z0 J (Uh J ?_))))))))));refine zx (Kn J J J J J (by omega)) J (z0 J (z0 J (Uh J (z1 J (z1 J (z1 J (zz (Xa (F_r ?_)))))))))
  exact Xq J J J J (Ue [] J J (tu3 (by omega)))
theorem S_UnpackText (s : ByteArray) (p : Int) (hs : s.size ≤ 1099511627776) (hp : I64 p) : Con Tryz.prog 117 [] [astr s,ai p] [] (utR (unpackText s p)) := by
 have hd := X0 s p hs hp
 cases hv : decVar s p with
 | none =>
  rw [hv] at hd
  rw [show unpackText s p = none by rw [unpackText,hv]]
  refine Con.of Tryz.func117 J Tryz.ntmps117 J (fun E => ?_)
  refine zy (z1 J (z1 J (z1 J (zz (zy (z0 J (z0 J ?_)))))));refine Un (Z3 J J (hd) J J J) J ?_;refine zx (Ga J) J (ze J (ze J (ze J (z1 J (z1 J (z1 J (zz (Qd (zy ?_)))))))));refine z0 J (zn J (z0 J (z6 J (z6 J (z6 J (z6 J (z6 J (z6 J (z6 J (z6 J (zpT J ?_)))))))))));refine zz (Qm J (zy (z1 J (z1 J (z1 J (zz (Xa (T_r ?_))))))));refine F_r ?_
  exact Xq J J J J (Ue [] J J J)
 | some r =>
  obtain ⟨n,k⟩ := r
  rw [hv] at hd
  have hm := Ys hv
  by_cases hbig : (s.size : Int) - p - k < n
  ·have hb : decide ((s.size : Int) - p - k < n) = true := decide_eq_true hbig
   rw [show unpackText s p = none by rw [unpackText,hv]; exact if_pos hbig]
   refine Con.of Tryz.func117 J Tryz.ntmps117 J (fun E => ?_)
   refine zy (z1 J (z1 J (z1 J (zz (zy (z0 J (z0 J ?_)))))));refine Un (Z3 J J (hd) J J J) J ?_;refine zx (Ga J) J (ze J (ze J (ze J (z1 J (z1 J (z1 J (zz (Qd (zy ?_)))))))));refine z0 J (zn J (z0 J (z5 J (z0 J (z5 J (z0 J (z5 J (zx (Kd J J J) J (z5 J (z0 J (z5 J ?_)))))))))));refine Ux J (z5 J (z0 J (z5 J (Ux J (z5 J (Gb J (zpF J (zz (Qm J (Qd ?_))))))))));refine Qc (z1 J (z1 J (z1 J (zz (Xa (T_r (F_r ?_)))))))
   exact Xq J J J J (Ue [] J J J)
  have hb : decide ((s.size : Int) - p - k < n) = false := decide_eq_false hbig
  rw [show unpackText s p = some (s.extract (p + k).toNat (p + k + n).toNat,k + n.toNat) by rw [unpackText,hv]; exact if_neg hbig]
  refine Con.of Tryz.func117 J Tryz.ntmps117 J (fun E => ?_)
  refine zy (z1 J (z1 J (z1 J (zz (zy (z0 J (z0 J ?_)))))));refine Un (Z3 J J (hd) J J J) J ?_;refine zx (Ga J) J (ze J (ze J (ze J (z1 J (z1 J (z1 J (zz (Qd (zy ?_)))))))));refine z0 J (zn J (z0 J (z5 J (z0 J (z5 J (z0 J (z5 J (zx (Kd J J J) J (z5 J (z0 J (z5 J ?_)))))))))));refine Ux J (z5 J (z0 J (z5 J (Ux J (z5 J (Gb J (zpF J (zz (Ql J (Qh ?_))))))))));refine Q0 (zy (z0 J (z0 J (z0 J (Uh J (z0 J (z0 J (Uh J (z0 J (Uh J ?_))))))))));refine zx (Kn J J J J J (by omega)) J (z0 J (z0 J (Uh J (z1 J (z1 J (z1 J (zz (Xa (F_r ?_)))))))))
  exact Xq J J J J (Ue [] J J (tu3 (by omega)))
@[reducible] def otR : Option ByteArray → V
 | none => .tu [.c (.rd [] (.v (.string ⟨#[]⟩))),.c (bv false)]
 | some t => .tu [.c (.rd [] (.v (.string t))),.c (bv true)]
end
section
open Go.RowKit
end
section
open Go.RowKit
end
end Go.Proofs.YtcjclaoogdblbaaGreat
