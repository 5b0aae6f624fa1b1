/-
  Parts of the proof (rules, data, and what functions of the program and of the reference return), among them: Rules that the laws' walks use: comparing what is equal; ParseAlarm, in the program and in the reference.
  Conditions: those that each theorem names.
-/
import Derived.Lib.SplitLaws
import Derived.Test.YtcjclaoogdblbaaDoorDDAlTRowk10
import Derived.Test.YtcjclaoogdblbaaDoorDDAlTRowk12
import Derived.Test.YtcjclaoogdblbaaDoorDDAlTRowk14
import Derived.Test.YtcjclaoogdblbaaDoorDDAlTRowk15
import Derived.Test.YtcjclaoogdblbaaDoorDDAlTRowk16
set_option linter.unusedSimpArgs false
set_option linter.unusedVariables false
set_option maxRecDepth 8000
set_option maxHeartbeats 8000000
namespace Go.Proofs.YtcjclaoogdblbaaDoor
section
open Go.RowKit

def preL (p : List UInt8) : List (List UInt8) → List (List UInt8)
 | [] => [p]
 | h :: t => (p ++ h) :: t
def splitL : List UInt8 → List (List UInt8)
 | [] => [[]]
 | b :: l => if b = 44 then [] :: splitL l else preL [b] (splitL l)
theorem splitL_ne : ∀ l,∃ h t,splitL l = h :: t
 | [] => ⟨_,_,rfl⟩
 | b :: l => by
  obtain ⟨h,t,e⟩ := splitL_ne l
  rw [splitL,e]
  split
  ·exact ⟨_,_,rfl⟩
  ·exact ⟨_,_,rfl⟩
theorem splitL_len : ∀ l : List UInt8,(splitL l).length ≤ l.length + 1
 | [] => by simp [splitL]
 | b :: l => by
  have ih := splitL_len l
  obtain ⟨h,t,e⟩ := splitL_ne l
  rw [splitL]
  split
  ·simp; omega
  ·rw [e] at ih ⊢; simp [preL] at ih ⊢; omega
theorem Xj (b c : UInt8) (l : List UInt8) : Lib.index (b :: l) [c] = if b = c then 0 else if Lib.index l [c] = -1 then -1 else Lib.index l [c] + 1 := by
 rw [Lib.index]
 by_cases h : b = c
 ·subst h; simp [List.isPrefixOf]
 ·rw [if_neg h,if_neg (by simp [List.isPrefixOf,Ne.symm h])]
  by_cases h2 : Lib.index l [c] = -1 <;> simp [h2]
theorem split_one : ∀ l : List UInt8,Lib.splitK [44] 0 (Lib.count l [44]) l = splitL l
 | [] => rfl
 | b :: l => by
  have ih := split_one l
  by_cases h : b = 44
  ·subst h
   rw [Lib.count_cons_eq,Nat.add_comm,Lib.splitK,if_neg (by rw [Xj,if_pos rfl]; decide),Xj,if_pos rfl,splitL,if_pos rfl,← ih]
   rfl
  ·rw [Lib.count_cons_ne _ _ _ h,splitL,if_neg h,← ih]
   cases hn : Lib.count l [44] with
   | zero => rfl
   | succ m =>
    have hi : Lib.index l [44] ≠ -1 := fun e => by rw [Lib.count_miss e] at hn; cases hn
    have hg := Lib.index_ge l [44]
    obtain ⟨i,hi2⟩ : ∃ i : Nat,Lib.index l [44] = i := ⟨(Lib.index l [44]).toNat,by omega⟩
    have hne : ¬ ((i : Int) == -1) = true := by simp <;> omega
    have hne2 : ¬ ((i : Int) + 1 == -1) = true := by simp <;> omega
    rw [Lib.splitK,Lib.splitK,Xj,if_neg h,if_neg hi,hi2,if_neg hne2,if_neg hne,show ((i : Int) + 1).toNat = i + 1 by omega,Int.toNat_natCast]
    rfl
theorem bs_lst (s : ByteArray) : bs s.data.toList = s := by
 obtain ⟨⟨l⟩⟩ := s
 rfl
theorem splitB_one (s : ByteArray) : Lib.splitB ⟨#[44]⟩ 0 (Lib.countB s ⟨#[44]⟩) s = (splitL s.data.toList).map bs := by
 have h := Lib.splitB_data ⟨#[44]⟩ 0 (Lib.countB s ⟨#[44]⟩) s
 have h2 : Lib.countB s ⟨#[44]⟩ = Lib.count s.data.toList [44] := rfl
 rw [h2] at h ⊢
 rw [show ((⟨#[44]⟩ : ByteArray).data.toList) = [44] from rfl,split_one] at h
 rw [← h,List.map_map]
 have : (bs ∘ fun x : ByteArray => x.data.toList) = id := funext fun x => bs_lst x
 rw [this,List.map_id]
/-! ### Where the first colon is -/
def colAt (s : ByteArray) : Int := Lib.index s.data.toList [58]
theorem ix_hit {c : UInt8} : ∀ {l : List UInt8} {k : Nat},l[k]? = some c → (∀ j,j < k → l[j]? ≠ some c) → Lib.index l [c] = k
 | [],k,h,_ => by simp at h
 | b :: l,0,h,_ => by
  simp at h; subst h
  rw [Xj,if_pos rfl]; rfl
 | b :: l,k + 1,h,h2 => by
  have hb : b ≠ c := fun e => h2 0 (by omega) (by simp [e])
  have ih := ix_hit (l := l) (k := k) (by simpa using h) (fun j hj => by have := h2 (j + 1) (by omega); simpa using this)
  rw [Xj,if_neg hb,ih,if_neg (by omega)]; omega
def headB (s : ByteArray) : ByteArray := bs (s.data.toList.take (colAt s).toNat)
def restB (s : ByteArray) : ByteArray := bs (s.data.toList.drop ((colAt s).toNat + 1))
def partsL (r : ByteArray) : List ByteArray := if r.size = 0 then [] else (splitL r.data.toList).map bs
noncomputable def parseAl (s : ByteArray) : Option TAlarm := if 0 ≤ colAt s ∧ uintB (headB s) = true then some ⟨uintN (headB s),partsL (restB s)⟩ else none
def zAl : TAlarm := ⟨0,[]⟩
noncomputable def parsed (s : ByteArray) : TAlarm := (parseAl s).getD zAl
noncomputable def parsedB (s : ByteArray) : Bool := (parseAl s).isSome
theorem headB_size (s : ByteArray) : (headB s).size ≤ s.size := by rw [headB,Xc,List.length_take,Lib.size_eq]; omega
theorem restB_size (s : ByteArray) : (restB s).size ≤ s.size := by rw [restB,Xc,List.length_drop,Lib.size_eq]; omega
@[reducible] def MaxW (w : World) : Prop := ∃ m : Int,w.cell? ⟨0,0,none⟩ = some (.int .i64 m)
theorem max_kept : Kept MaxW := ⟨fun w w' ⟨m,h⟩ hk => ⟨m,(World.cell?_of_block (w := w) (a := ⟨_,0,none⟩) (hk _ (World.block_lt_of_cell? w _ h))).trans h⟩⟩
theorem I_Cut (s : ByteArray) (hs : s.size ≤ 1073741824) : ConP MaxW Tryd.prog 37 [astr s,astr (bs [58])] [] (.tu [.c (.rd [] (.v (.string (if 0 ≤ colAt s then headB s else s)))),.c (.rd [] (.v (.string (if 0 ≤ colAt s then restB s else ⟨#[]⟩)))),.c (.rd [] (.v (.bool (decide (0 ≤ colAt s)))))]) := by
 rintro w ⟨m,hm⟩ H F vs hok hob hlen hargs
 have hnil : ∀ p,H p = .nil := fun p => hob p
 match vs,hlen with
 | [v,u],_ =>
  obtain ⟨rfl,_⟩ : v = .string s ∧ _ := RO.plain (hargs 0 _ v rfl rfl)
  obtain ⟨rfl,_⟩ : u = .string (bs [58]) ∧ _ := RO.plain (hargs 1 _ u rfl rfl)
  refine (Tryd.strings_Cut s (bs [58]) m w (by omega) hm).mono ?_
  rintro e w' ⟨rfl,n,rfl⟩
  have hb : Below w.heap.size w (w.drewN n) := ⟨rfl,rfl,rfl,Nat.le_refl _,fun _ _ => rfl⟩
  have hd := hok
  refine ⟨H,F,_,J,⟨hb.os,hb.tape,hb.output,hb.size,fun b h1 _ => hb.block b h1,fun _ h => h,fun _ h => .inl h,fun p b hb => .inl ⟨p,hb⟩,fun p i v h => ⟨p,h⟩⟩,⟨fun p => ?_,hok.nodup,hok.disj,hok.free,fun b h => Nat.lt_of_lt_of_le (hok.flt b h) hb.size⟩,fun p => ?_,?_⟩
  ·rw [hnil p]; trivial
  ·show H p = .nil
   exact hnil p
  ·have hc : Lib.cut s.data.toList (bs [58]).data.toList = if 0 ≤ colAt s then (s.data.toList.take (colAt s).toNat,s.data.toList.drop ((colAt s).toNat + 1),true) else (s.data.toList,[],false) := rfl
   rw [hc]
   by_cases h : 0 ≤ colAt s
   ·rw [if_pos h,if_pos h,if_pos h,decide_eq_true h]
    exact ⟨_,J,J,fun i x u h1 h2 => by
     match i,h1,h2 with
     | 0,h1,h2 => simp at h1 h2; subst h1 h2; exact RO.v _ rfl
     | 1,h1,h2 => simp at h1 h2; subst h1 h2; exact RO.v _ rfl
     | 2,h1,h2 => simp at h1 h2; subst h1 h2; exact RO.v _ rfl
     | n + 3,h1,h2 => simp at h1⟩
   ·rw [if_neg h,if_neg h,if_neg h,decide_eq_false h]
    refine ⟨_,J,J,fun i x u h1 h2 => ?_⟩
    match i,h1,h2 with
    | 0,h1,h2 => simp at h1 h2; subst h1 h2; exact RO.v _ rfl
    | 1,h1,h2 => simp at h1 h2; subst h1 h2; exact RO.v _ rfl
    | 2,h1,h2 => simp at h1 h2; subst h1 h2; exact RO.v _ rfl
    | n + 3,h1,h2 => simp at h1
theorem I_Split (s : ByteArray) (hs : s.size ≤ 1073741824) : ConP MaxW Tryd.prog 39 [astr s,astr (bs [44])] [.row 1 (els ((splitL s.data.toList).map bs))] (.o (.c (.ref 0))) := by
 rintro w ⟨m,hm⟩ H F vs hok hob hlen hargs
 have hnil : ∀ p,H p = .nil := fun p => hob p
 match vs,hlen with
 | [v,u],_ =>
  obtain ⟨rfl,_⟩ : v = .string s ∧ _ := RO.plain (hargs 0 _ v rfl rfl)
  obtain ⟨rfl,_⟩ : u = .string (bs [44]) ∧ _ := RO.plain (hargs 1 _ u rfl rfl)
  refine (Tryd.strings_Split s (bs [44]) m w (by omega) hm (by decide)).mono ?_
  rintro e w' ⟨rfl,rfl⟩
  have hsp := splitB_one s
  have hcl := Lib.splitB_all (bs [44]) (by decide) 0 (Lib.countB s (bs [44])) s rfl
  rw [hsp,List.length_map] at hcl
  have hsl := splitL_len s.data.toList
  rw [← Lib.size_eq] at hsl
  rw [hsp,← hcl]
  obtain ⟨ps,hps⟩ : ∃ ps,ps = (splitL s.data.toList).map bs := ⟨_,rfl⟩
  have hpl : ps.length = (splitL s.data.toList).length := by rw [hps,List.length_map]
  rw [← hps,← hpl]
  rw [← hpl] at hcl hsl
  clear hps hsp hpl
  have hel := Xe ps
  have hb : ∀ o,Below w.heap.size w (w.alloc o) := fun o => ⟨rfl,rfl,rfl,by show w.heap.size ≤ (w.heap.push o).size; rw [Array.size_push]; omega,fun b h => by show (w.heap.push o)[b]? = _; rw [Array.getElem?_push,if_neg (by omega)]⟩
  have hb := hb (.cells (ps.map Value.string).toArray 9)
  have hg : (w.alloc (.cells (ps.map Value.string).toArray 9)).heap[w.heap.size]? = some (.cells (ps.map Value.string).toArray 9 (0,0)) := by show (w.heap.push _)[w.heap.size]? = _; rw [Array.getElem?_push,if_pos rfl]
  have how : OW (w.alloc (.cells (ps.map Value.string).toArray 9)) (.sl 1 (els ps)) (.slice (some ⟨w.heap.size,0,none⟩) ps.length ps.length) (w.heap.size :: (ps.map fun _ => [([] : List Nat)]).flatten.flatten) := by
   have h := OW.sl (w := w.alloc (.cells (ps.map Value.string).toArray 9)) (els ps) w.heap.size 0 1 ps.length 9 (ps.map Value.string).toArray (0,0) (fun i _ => .string (ps.getD i ⟨#[]⟩)) (ps.map fun _ => [([] : List Nat)]) hg (.inl rfl) (by omega) (by unfold maxLen; omega) (by simp) (by decide) (fun e he => els_k ps e he) (by simp [hel]) (fun f hf => by obtain ⟨_,_,rfl⟩ := List.mem_map.1 hf; rfl)
    (fun i j hi hj => by
     have hi' : i < ps.length := by omega
     rw [show 0 + i * 1 + j = i by omega]
     simp [List.getD_eq_getElem?_getD,hi'])
    (fun i j e t fs f h1 h2 h3 h4 => by
     have hi : i < ps.length := by have := Xh h1; omega
     rw [els,List.getElem?_map,List.getElem?_eq_getElem hi] at h1
     simp only [Option.map_some,Option.some.injEq] at h1
     subst h1
     have hj : j = 0 := by have := Xh h2; exact Nat.lt_one_iff.1 this
     subst hj
     have ht : t = .v (.string ps[i]) := (Option.some.inj h2).symm
     subst ht
     rw [List.getElem?_map,List.getElem?_eq_getElem hi] at h3
     simp only [Option.map_some,Option.some.injEq] at h3
     subst h3
     have hf : f = [] := (Option.some.inj h4).symm
     subst hf
     rw [List.getD_eq_getElem?_getD,List.getElem?_eq_getElem hi]
     exact OW.v _ J)
   rwa [hel] at h
  have hfp : w.heap.size :: (ps.map fun _ => [([] : List Nat)]).flatten.flatten = [w.heap.size] := by
   congr 1
   simp
  rw [hfp] at how
  refine ⟨fun p => if p = 0 then .ow (.sl 1 (els ps)) (.slice (some ⟨w.heap.size,0,none⟩) ps.length ps.length) [w.heap.size] else .nil,F,_,J,⟨hb.os,hb.tape,hb.output,hb.size,fun b h1 _ => hb.block b h1,fun _ h => h,fun _ h => .inl h,fun p b h => ?_,fun p i v h => ?_⟩,⟨fun p => ?_,fun p => ?_,fun p q b h1 h2 => ?_,fun p b h1 h2 => ?_,fun b h => Nat.lt_of_lt_of_le (hok.flt b h) hb.size⟩,fun p => ?_,?_⟩
  ·by_cases hp : p = 0
   ·simp [hp,Pc.fp] at h; exact .inr (by show w.heap.size ≤ b; omega)
   ·simp [hp,Pc.fp] at h
  ·by_cases hp : p = 0 <;> simp [hp] at h
  ·by_cases hp : p = 0
   ·simp only [hp]; exact how
   ·simp only [hp,if_false]; trivial
  ·by_cases hp : p = 0 <;> simp [hp,Pc.fp]
  ·by_cases hp : p = 0
   ·by_cases hq : q = 0
    ·rw [hp,hq]
    ·simp [hq,Pc.fp] at h2
   ·simp [hp,Pc.fp] at h1
  ·by_cases hp : p = 0
   ·simp [hp,Pc.fp] at h1
    have := hok.flt b h2
    omega
   ·simp [hp,Pc.fp] at h1
  ·cases p with
   | zero => exact ⟨_,_,rfl⟩
   | succ p => simp [RB]
  ·exact ⟨_,_,rfl⟩
end
section
open Go.RowKit

section
variable {P : Program} {E : Env} {ops : Array Oper} {o : Oper} {st : St} {n : Nat} {rest : List Oper} {QQ : Exit → St → Prop} {w w' : World} {H H' : Hs} {F F' : Nat → Prop} {a : Act}

theorem R1.sub {H1 : Hs} {F1 : Nat → Prop} (hs : ∀ q,H q ≠ .nil → H1 q = H q) (hF : ∀ b,F b → F1 b) {x : V1} {v : Value} (h : R1 w H F x v) : R1 w H1 F1 x v := by
 have hin : ∀ {qs : List Nat} {b : Nat},inP H F qs b → inP H1 F1 qs b := fun hb => by
  rcases hb with hb | ⟨q,hq,x,v,fp,e,hb⟩
  ·exact .inl (hF _ hb)
  ·exact .inr ⟨q,hq,x,v,fp,by rw [hs q (by rw [e]; simp),e],hb⟩
 cases x with
 | rd qs x => exact RO.weak h fun b hb _ => hin hb
 | ref p => obtain ⟨x,fp,e⟩ := h; exact ⟨x,fp,by rw [hs p (by rw [e]; simp),e]⟩
 | ptr p i => obtain ⟨g,t,vs,e,hv⟩ := h; exact ⟨g,t,vs,by rw [hs p (by rw [e]; simp),e],hv⟩
 | sb p n k => obtain ⟨g,t,vs,e,hv⟩ := h; exact ⟨g,t,vs,by rw [hs p (by rw [e]; simp),e],hv⟩
 | el p k i j => obtain ⟨b,o,n,c,x,fp,e,hv⟩ := h; exact ⟨b,o,n,c,x,fp,by rw [hs p (by rw [e]; simp),e],hv⟩
 | le p k i j => obtain ⟨b,o,n,c,x,fp,e,hv⟩ := h; exact ⟨b,o,n,c,x,fp,by rw [hs p (by rw [e]; simp),e],hv⟩
 | hd p n => obtain ⟨A,m,c,x,fp,e,hv⟩ := h; exact ⟨A,m,c,x,fp,by rw [hs p (by rw [e]; simp),e],hv⟩
 | tl p k n => obtain ⟨A,A',m,c,x,fp,e,hv⟩ := h; exact ⟨A,A',m,c,x,fp,by rw [hs p (by rw [e]; simp),e],hv⟩
 | rp qs xs =>
  obtain ⟨b,o,hv,hb,hc⟩ := h
  refine ⟨b,o,hv,hin hb,fun j t hj => ?_⟩
  obtain ⟨u,h1,h2⟩ := hc j t hj
  exact ⟨u,h1,RO.weak h2 fun b hb _ => hin hb⟩
 | un => trivial
theorem R2.sub {H1 : Hs} {F1 : Nat → Prop} (hs : ∀ q,H q ≠ .nil → H1 q = H q) (hF : ∀ b,F b → F1 b) {x : V2} {v : Value} (h : R2 w H F x v) : R2 w H1 F1 x v := by
 cases x with
 | c x => exact R1.sub hs hF h
 | ag xs => obtain ⟨us,e,hl,hr⟩ := h; exact ⟨us,e,hl,fun i x u h1 h2 => R1.sub hs hF (hr i x u h1 h2)⟩
theorem RB.sub {H1 : Hs} {F1 : Nat → Prop} (hs : ∀ q,H q ≠ .nil → H1 q = H q) (hF : ∀ b,F b → F1 b) {p : Nat} {ob : Ob} (hp : H p ≠ .nil) (h : RB w H F p ob) : RB w H1 F1 p ob := by
 cases ob with
 | gone => exact absurd h hp
 | hole => trivial
 | box cs => obtain ⟨g,t,vs,e,hl,hr⟩ := h; exact ⟨g,t,vs,by rw [hs p hp,e],hl,fun i c u h1 h2 => ⟨R1.sub hs hF (hr i c u h1 h2).1,(hr i c u h1 h2).2⟩⟩
 | row k es => obtain ⟨v,fp,e⟩ := h; exact ⟨v,fp,by rw [hs p hp,e]⟩
 | gh i x => obtain ⟨v,e,hr⟩ := h; exact ⟨v,by rw [hs p hp,e],R2.sub hs hF hr⟩
 | shr es => obtain ⟨us,v,fp,e,hl,hr⟩ := h; exact ⟨us,v,fp,by rw [hs p hp,e],hl,fun i t u h1 h2 => R1.sub hs hF (hr i t u h1 h2)⟩

section
variable {H2 : Hs} {F2 : Nat → Prop} {φ : Nat → Nat}
end
def pickC : V2 → Nat → Option V1
 | .c x,_ => some x
 | .ag xs,j => xs[j]?
def pickU : V2 → Value → Nat → Value
 | .c _,v,_ => v
 | .ag _,v,j => match v with
  | .agg us => us.toList.getD j undef
  | _ => undef
theorem R2.cell {x : V2} {v : Value} {j : Nat} {c : V1} (h : R2 w H F x v) (hp : pickC x j = some c) : R1 w H F c (pickU x v j) := by
 cases x with
 | c x => simp only [pickC,Option.some.injEq] at hp; subst hp; exact h
 | ag xs =>
  obtain ⟨us,rfl,hl,hr⟩ := h
  have hj : j < us.length := by rw [hl]; exact Xh hp
  have := hr j c _ hp (List.getElem?_eq_getElem hj)
  simpa [pickU,List.getD_eq_getElem?_getD,hj] using this

end
end
section
open Go.RowKit

theorem OW.take {w : World} {k : Nat} {es : List (List T)} {v : Value} {fp : List Nat} (h : OW w (.sl k es) v fp) (hnd : fp.Nodup) {n : Nat} (hn : n ≤ es.length) : ∃ A c fp',v = .slice A es.length c ∧ es.length ≤ c ∧ OW w (.sl k (es.take n)) (.slice (if c = 0 then A else A.map (·.add (0 * k))) (n - 0) (c - 0)) fp' ∧ (∀ b ∈ fp',b ∈ fp) ∧ fp'.Nodup := by
 cases h with
 | nil =>
  have : n = 0 := by simpa using hn
  subst this
  exact ⟨none,0,[],J,Nat.le_refl _,by simpa using OW.nil (w := w) k,by simp,by simp⟩
 | sl _ b o _ c tid cur fz val fps hg hz hc hm hs hp hk hf hfk hv ht =>
  have hA : (if c = 0 then some (⟨b,o,none⟩ : Addr) else (some (⟨b,o,none⟩ : Addr)).map (·.add (0 * k))) = some ⟨b,o,none⟩ := by
   split
   ·rfl
   ·simp [Addr.add]
  have hl : (es.take n).length = n := by simp; omega
  have hfl : fps.flatten.flatten = (fps.take n).flatten.flatten ++ (fps.drop n).flatten.flatten := by
   rw [← List.flatten_append,← List.flatten_append,List.take_append_drop]
  refine ⟨some ⟨b,o,none⟩,c,b :: (fps.take n).flatten.flatten,J,hc,?_,fun x hx => ?_,?_⟩
  ·rw [hA]
   have h1 := OW.sl (w := w) (es.take n) b o k c tid cur fz val (fps.take n) hg hz (by omega) hm hs hp (fun e he => hk e (List.mem_of_mem_take he)) (by simp [hf]) (fun f hf' => hfk f (List.mem_of_mem_take hf'))
    (fun i j hi hj => hv i j (by omega) hj) (fun i j e t fs f g1 g2 g3 g4 => by
     have hi := Xh g1
     rw [hl] at hi
     rw [List.getElem?_take,if_pos hi] at g1 g3
     exact ht i j e t fs f g1 g2 g3 g4)
   rw [hl] at h1
   simpa using h1
  ·rcases List.mem_cons.1 hx with rfl | hx
   ·simp
   ·exact List.mem_cons_of_mem _ (by rw [hfl]; exact List.mem_append_left _ hx)
  ·rw [hfl,← List.cons_append] at hnd
   exact (List.nodup_append.1 hnd).1

section
variable {P : Program} {E : Env} {ops : Array Oper} {o : Oper} {st : St} {rest : List Oper} {QQ : Exit → St → Prop} {t : TypeId} {y u : Operand} {rs : List Nat} {j : Int} {m : Nat}
end
section
variable {P : Program} {E : Env} {ops : Array Oper} {o : Oper} {st : St} {rest : List Oper} {QQ : Exit → St → Prop} {t : TypeId} {y u : Operand} {rs : List Nat} {j : Int}
end
end
section
open Go.RowKit

theorem Wk.nilbox {st : St} {p i : Nat} (k : Nat) {cs : List V1} {qs : List Nat} (hp : st.objs[p]? = some (.box cs)) (hc : cs[i]? = some (.rd qs (.v (.slice none 0 0)))) : Wk st ⟨st.n,st.tmps,(st.objs.set p (.box (cs.set i (.ref st.objs.length)))) ++ [.row k []]⟩ := by
 intro w H F a h
 have hnil : H st.objs.length = .nil := by
  have := h.obs st.objs.length
  simpa [List.getD_eq_getElem?_getD,RB] using this
 have hlt := Xh hp
 obtain ⟨H',hH'⟩ : ∃ H' : Hs,H' = H.put st.objs.length (.ow (.sl k []) (.slice none 0 0) []) := ⟨_,rfl⟩
 have hin : H' st.objs.length = .ow (.sl k []) (.slice none 0 0) [] := by rw [hH']; exact Hs.put_self _ _ _
 have hout : ∀ q,q ≠ st.objs.length → H' q = H q := fun q hq => by rw [hH']; exact Hs.put_ne _ _ hq
 have hfp : ∀ q,(H' q).fp = (H q).fp := fun q => by
  by_cases e : q = st.objs.length
  ·rw [e,hin,hnil]; rfl
  ·rw [hout q e]
 have hgh : ∀ q i v,H' q = .gh i v → ∃ r,H r = .gh i v := fun q i v hq => by
  by_cases e : q = st.objs.length
  ·rw [e,hin] at hq; cases hq
  ·exact ⟨q,by rw [← hout q e]; exact hq⟩
 have hgr : Grow w H F w H' F := ⟨Below.refl _ _,fun q hq => hout q fun e => hq (by rw [e]; exact hnil),fun _ h => h,fun _ h => .inl h,fun q hq b hb => by rw [hfp,hq] at hb; simp [Pc.fp] at hb,hgh⟩
 refine ⟨H',⟨⟨fun q => ?_,fun q => by rw [hfp]; exact h.ok.nodup q,fun q r b h1 h2 => by rw [hfp] at h1 h2; exact h.ok.disj q r b h1 h2,fun q b h1 => by rw [hfp] at h1; exact h.ok.free q b h1,h.ok.flt⟩,fun q => ?_,fun e => hgr.rv (h.tmp e),h.size,h.defers⟩,fun q b hb => ⟨q,by rw [← hfp]; exact hb⟩,hgh⟩
 ·by_cases e : q = st.objs.length
  ·rw [e,hin]; exact OW.nil _
  ·rw [hout q e]; exact h.ok.says q
 ·show RB w H' F q ((st.objs.set p (.box (cs.set i (.ref st.objs.length))) ++ [Ob.row k []]).getD q .gone)
  by_cases e : q = st.objs.length
  ·rw [show (st.objs.set p (.box (cs.set i (.ref st.objs.length))) ++ [Ob.row k []]).getD q .gone = .row k [] by simp [List.getD_eq_getElem?_getD,e]]
   exact ⟨_,_,by rw [e]; exact hin⟩
  ·rcases Nat.lt_or_ge q st.objs.length with h1 | h1
   ·by_cases hqp : q = p
    ·subst hqp
     rw [show (st.objs.set q (.box (cs.set i (.ref st.objs.length))) ++ [Ob.row k []]).getD q .gone = .box (cs.set i (.ref st.objs.length)) by simp [List.getD_eq_getElem?_getD,List.getElem?_append_left,h1]]
     obtain ⟨g,t,vs,e1,e2,e3,e4⟩ := h.bx hp
     have hb := h.obs q
     rw [Xg hp] at hb
     obtain ⟨g,t,vs,k1,k2,k3⟩ := hb
     refine ⟨g,t,vs,(hout q e).trans k1,by simpa using k2,fun j c u h4 h5 => ?_⟩
     rw [List.getElem?_set] at h4
     split at h4
     ·rename_i hij
      subst hij
      split at h4
      ·simp only [Option.some.injEq] at h4
       subst h4
       have h6 := k3 i _ u hc h5
       obtain ⟨h7,_⟩ := RO.plain h6.1
       exact ⟨⟨_,_,by rw [hin,← h7]⟩,h6.2⟩
      ·cases h4
     ·have h6 := k3 j c u h4 h5
      exact ⟨hgr.r1 h6.1,h6.2⟩
    ·rw [show (st.objs.set p (.box (cs.set i (.ref st.objs.length))) ++ [Ob.row k []]).getD q .gone = st.objs.getD q .gone by
      rw [List.getD_eq_getElem?_getD,List.getElem?_append_left (by simpa using h1),List.getElem?_set_ne (Ne.symm hqp),List.getD_eq_getElem?_getD]]
     by_cases hn : H q = .nil
     ·have h2 := h.obs q
      have h3 : H' q = .nil := (hout q e).trans hn
      cases ho : st.objs.getD q .gone with
      | gone => exact h3
      | hole => trivial
      | box cs => rw [ho] at h2; obtain ⟨a,t,vs,e,_⟩ := h2; rw [hn] at e; cases e
      | row k es => rw [ho] at h2; obtain ⟨v,fp,e⟩ := h2; rw [hn] at e; cases e
      | gh i x => rw [ho] at h2; obtain ⟨v,e,_⟩ := h2; rw [hn] at e; cases e
      | shr es => rw [ho] at h2; obtain ⟨us,v,fp,e,_⟩ := h2; rw [hn] at e; cases e
     ·exact hgr.rb hn (h.obs q)
   ·rw [show (st.objs.set p (.box (cs.set i (.ref st.objs.length))) ++ [Ob.row k []]).getD q .gone = Ob.gone by
     rw [List.getD_eq_getElem?_getD,List.getElem?_eq_none (by simp; omega)]; rfl]
    refine (hout q e).trans ?_
    have := h.obs q
    simpa [List.getD_eq_getElem?_getD,RB,h1] using this
section
variable {P : Program} {ops : Array Oper} {o : Oper} {st : St} {m : Nat} {t e : TypeId} {y z : Operand} {zs : List Value} {by_ : Nat}
end
end
section
open Go.RowKit

section
variable {P : Program} {ops : Array Oper} {o : Oper} {st : St} {m : Nat} {t t' : TypeId} {y z : Operand} {ps qs : List Nat}
theorem Q4 {xs : List V2} (ho : o.op = .move y) (hg : o.guard = none) (hy : st.ev y = .tu xs) : Qt P ops o st (.tu xs) [] m :=
 .pure hg fun a w H F hr => ⟨a.eval y,by simp [execOp,ho],by rw [← hy]; exact hr.ev y⟩
end
end
section
open Go.RowKit

@[reducible] def jA (n : Int) : V1 := .rd [] (.v (.int .i64 n))
theorem parsed_no {s : ByteArray} (h : ¬ (0 ≤ colAt s ∧ uintB (headB s) = true)) : parsed s = zAl ∧ parsedB s = false := by
 have : parseAl s = none := if_neg h
 rw [parsed,parsedB,this]; exact ⟨rfl,rfl⟩
theorem parsed_yes {s : ByteArray} (h : 0 ≤ colAt s) (h2 : uintB (headB s) = true) : parsed s = ⟨uintN (headB s),partsL (restB s)⟩ ∧ parsedB s = true := by
 have : parseAl s = some _ := if_pos ⟨h,h2⟩
 rw [parsed,parsedB,this]; exact ⟨rfl,rfl⟩
theorem partsL_0 {r : ByteArray} (h : r.size = 0) : partsL r = [] := if_pos h
theorem partsL_1 {r : ByteArray} (h : ¬ r.size = 0) : partsL r = (splitL r.data.toList).map bs := if_neg h
theorem size0 {r : ByteArray} : r.size = 0 ↔ r = ⟨#[]⟩ := ⟨fun h => by obtain ⟨⟨l⟩⟩ := r; simp [ByteArray.size] at h; rw [h],fun h => by rw [h]; rfl⟩
theorem I_ParseAlarm (s : ByteArray) (hs : s.size ≤ 1048576) : ConP MaxW Tryd.prog 14 [astr s] (ownO (Enc.e (parsed s))) (.tu [.ag (ownV 0 (Enc.e (parsed s))),.c (.rd [] (.v (.bool (parsedB s))))]) := by
 have hc := I_Cut s (by omega)
 have hh := headB_size s
 have hr := restB_size s
 by_cases h0 : 0 ≤ colAt s
 case neg =>
  rw [if_neg h0,if_neg h0,decide_eq_false h0] at hc
  have hu := I_ParseUint s (by omega)
  obtain ⟨e1,e2⟩ := parsed_no (s := s) (fun h => h0 h.1)
  rw [e1,e2]
  refine ConP.of Tryd.func14 J Tryd.ntmps14 J (fun E hE hT => ?_)
  refine zy (M1 (Qx J J J) J J (z1 J (zz (zy (z0 J ?_)))));refine Q8 max_kept hE hT (hc) J J J J J J J ?_;refine zx (Q4 J J J) J (ze J (ze J (ze J (z1 J (z1 J (z1 J (zz (zy (z0 J ?_)))))))));refine M1 (q_call J J (hu) J J J) J J ?_;refine zx (Q4 J J J) J (ze J (ze J (z1 J (z1 J (zz (Qd (zy (z0 J (zn J ?_)))))))));refine z0 J (z6 J (z6 J (zpT J (zz (Qm J (zy (zx (q_build J J J J J) J ?_)))))));refine Qy J J J J J J J J J (z1 J (zz (Q6 (T_r (F_r ?_)))))
  exact E_cellt J J J J J (W_fill [1] [1] J J (by decide) J J J)
 rw [if_pos h0,if_pos h0,decide_eq_true h0] at hc
 have hu := I_ParseUint (headB s) (by omega)
 cases h1 : uintB (headB s) with
 | false =>
  rw [h1] at hu
  obtain ⟨e1,e2⟩ := parsed_no (s := s) (fun h => by rw [h1] at h; cases h.2)
  rw [e1,e2]
  refine ConP.of Tryd.func14 J Tryd.ntmps14 J (fun E hE hT => ?_)
  refine zy (M1 (Qx J J J) J J (z1 J (zz (zy (z0 J ?_)))));refine Q8 max_kept hE hT (hc) J J J J J J J ?_;refine zx (Q4 J J J) J (ze J (ze J (ze J (z1 J (z1 J (z1 J (zz (zy (z0 J ?_)))))))));refine M1 (q_call J J (hu) J J J) J J ?_;refine zx (Q4 J J J) J (ze J (ze J (z1 J (z1 J (zz (Qd (zy (z0 J (zn J ?_)))))))));refine z0 J (z5 J (z0 J (z5 J (zn J (zpF J (zz (Qm J (zy (zx (q_build J J J J J) J ?_)))))))));refine Qy J J J J J J J J J (z1 J (zz (Q6 (T_r (F_r ?_)))))
  exact E_cellt J J J J J (W_fill [1] [1] J J (by decide) J J J)
 | true =>
  rw [h1] at hu
  obtain ⟨e1,e2⟩ := parsed_yes h0 h1
  rw [e1,e2]
  by_cases h2 : (restB s).size = 0
  ·rw [partsL_0 h2]
   have hb : decide (restB s ≠ ⟨#[]⟩) = false := decide_eq_false (fun h => h (size0.1 h2))
   refine ConP.of Tryd.func14 J Tryd.ntmps14 J (fun E hE hT => ?_)
   refine zy (M1 (Qx J J J) J J (z1 J (zz (zy (z0 J ?_)))));refine Q8 max_kept hE hT (hc) J J J J J J J ?_;refine zx (Q4 J J J) J (ze J (ze J (ze J (z1 J (z1 J (z1 J (zz (zy (z0 J ?_)))))))));refine M1 (q_call J J (hu) J J J) J J ?_;refine zx (Q4 J J J) J (ze J (ze J (z1 J (z1 J (zz (Qd (zy (z0 J (zn J ?_)))))))));refine z0 J (z5 J (z0 J (z5 J (zn J (zpF J (zz (Ql J (Qh (Qz (Qd ?_))))))))));refine Qc (z0 J (zx (q_build J J J J J) J (M1 (Qx J J J) J J ?_)));refine Qy J J J J J J J J J (zz (Qd (zy (z0 J (zx (q_sneqK J J J J (by assumption)) J (zz (Ql J (Qh ?_))))))));refine Qz (zy (z4 J J J ?_));refine Qy J J J J J J J J J (z1 J (zz (Q6 (F_r ?_))))
   exact E_cellt J J J J J (W_fill [1] [2] J J (by decide) J J J)
  ·rw [partsL_1 h2]
   have hb : decide (restB s ≠ ⟨#[]⟩) = true := decide_eq_true (fun h => h2 (size0.2 h))
   have hp := I_Split (restB s) (by omega)
   refine ConP.of Tryd.func14 J Tryd.ntmps14 J (fun E hE hT => ?_)
   refine zy (M1 (Qx J J J) J J (z1 J (zz (zy (z0 J ?_)))));refine Q8 max_kept hE hT (hc) J J J J J J J ?_;refine zx (Q4 J J J) J (ze J (ze J (ze J (z1 J (z1 J (z1 J (zz (zy (z0 J ?_)))))))));refine M1 (q_call J J (hu) J J J) J J ?_;refine zx (Q4 J J J) J (ze J (ze J (z1 J (z1 J (zz (Qd (zy (z0 J (zn J ?_)))))))));refine z0 J (z5 J (z0 J (z5 J (zn J (zpF J (zz (Ql J (Qh (Qz (Qd ?_))))))))));refine Qc (z0 J (zx (q_build J J J J J) J (M1 (Qx J J J) J J ?_)));refine Qy J J J J J J J J J (zz (Qd (zy (z0 J (zx (q_sneqK J J J J (by assumption)) J (zz (Qm J (Qc ?_))))))));refine z0 J (Q8 max_kept hE hT (hp) J J J J J J J (z2 J J J ?_));refine Q3 J J J J J J J J (zz (zy (z4 J J J ?_)));refine Qy J J J J J J J J J (z1 J (zz (Q6 (F_r ?_))))
   exact E_cellt J J J J J (Q9 [2] (by decide) J J J)
theorem els_snocB {l : List ByteArray} {x : ByteArray} : els (l ++ [x]) = els l ++ [Enc.e x] := by simp [els]
end
end Go.Proofs.YtcjclaoogdblbaaDoor
