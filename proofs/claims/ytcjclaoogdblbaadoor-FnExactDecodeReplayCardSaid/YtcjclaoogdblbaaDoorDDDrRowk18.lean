/-
  strings.Cut and strings.Split at one byte, as the kit's own contracts say them, over data; texts of alarms.
  Conditions: texts of at most 2^30 bytes; the variable of the library's that the search reads.
  Texts divided at one byte (strings.Split), over data.
  Conditions: texts of at most 2^30 bytes; the variable of the library's that the search in texts reads.
-/
import Derived.Lib.SplitLaws
import Derived.Test.YtcjclaoogdblbaaDoorDDDrRowk15
import Derived.Test.YtcjclaoogdblbaaDoorDDDrRowk16
import Derived.Test.YtcjclaoogdblbaaDoorDDDrRowk17
set_option linter.unusedSimpArgs false
set_option linter.unusedVariables false
set_option maxRecDepth 8000
namespace Go.Proofs.YtcjclaoogdblbaaDoor
section
open Go.RowKit

def preL (p : List UInt8) : List (List UInt8) → List (List UInt8)
 | [] => [p]
 | h :: t => (p ++ h) :: t
theorem preL_pre (p q : List UInt8) : ∀ L,preL p (preL q L) = preL (p ++ q) L
 | [] => rfl
 | h :: t => by simp [preL]
theorem index_cons (b c : UInt8) (l : List UInt8) : Lib.index (b :: l) [c] = if b = c then 0 else if Lib.index l [c] = -1 then -1 else Lib.index l [c] + 1 := by
 rw [Lib.index]
 by_cases h : b = c
 ·subst h; simp [List.isPrefixOf]
 ·rw [if_neg h,if_neg (by simp [List.isPrefixOf,Ne.symm h])]
  by_cases h2 : Lib.index l [c] = -1 <;> simp [h2]
theorem bs_lst (s : ByteArray) : bs s.data.toList = s := by
 obtain ⟨⟨l⟩⟩ := s
 rfl
/-! ### Where the first colon is -/
@[reducible] def MaxW (w : World) : Prop := ∃ m : Int,w.cell? ⟨0,0,none⟩ = some (.int .i64 m)
theorem Yi : Kept MaxW := ⟨fun w w' ⟨m,h⟩ hk => ⟨m,(World.cell?_of_block (w := w) (a := ⟨_,0,none⟩) (hk _ (World.block_lt_of_cell? w _ h))).trans h⟩⟩
end
section
open Go.RowKit

def splitC (c : UInt8) : List UInt8 → List (List UInt8)
 | [] => [[]]
 | b :: l => if b = c then [] :: splitC c l else preL [b] (splitC c l)
theorem Y8 (c : UInt8) : ∀ l,∃ h t,splitC c l = h :: t
 | [] => ⟨_,_,rfl⟩
 | b :: l => by
  obtain ⟨h,t,e⟩ := Y8 c l
  rw [splitC,e]
  split
  ·exact ⟨_,_,rfl⟩
  ·exact ⟨_,_,rfl⟩
theorem preC_nil (c : UInt8) (l : List UInt8) : preL [] (splitC c l) = splitC c l := by
 obtain ⟨h,t,e⟩ := Y8 c l
 rw [e]; rfl
theorem Y7 (c : UInt8) : ∀ l : List UInt8,(splitC c l).length ≤ l.length + 1
 | [] => by simp [splitC]
 | b :: l => by
  have ih := Y7 c l
  obtain ⟨h,t,e⟩ := Y8 c l
  rw [splitC]
  split
  ·simp; omega
  ·rw [e] at ih ⊢; simp [preL] at ih ⊢; omega
theorem splitC_mem (c : UInt8) : ∀ l : List UInt8,∀ x ∈ splitC c l,x.length ≤ l.length
 | [] => fun x hx => by simp [splitC] at hx; simp [hx]
 | b :: l => fun x hx => by
  have ih := splitC_mem c l
  obtain ⟨h,t,e⟩ := Y8 c l
  rw [splitC,e] at hx
  rw [e] at ih
  split at hx
  ·rcases List.mem_cons.1 hx with rfl | hx
   ·simp
   ·have := ih x hx; simp; omega
  ·simp only [preL,List.mem_cons] at hx
   rcases hx with rfl | hx
   ·have := ih h (by simp); simp; omega
   ·have := ih x (by simp [hx]); simp; omega
theorem splitC_one (c : UInt8) : ∀ l : List UInt8,Lib.splitK [c] 0 (Lib.count l [c]) l = splitC c l
 | [] => rfl
 | b :: l => by
  have ih := splitC_one c l
  by_cases h : b = c
  ·subst h
   rw [Lib.count_cons_eq,Nat.add_comm,Lib.splitK,if_neg (by rw [index_cons,if_pos rfl]; decide),index_cons,if_pos rfl,splitC,if_pos rfl,← ih]
   rfl
  ·rw [Lib.count_cons_ne _ _ _ h,splitC,if_neg h,← ih]
   cases hn : Lib.count l [c] with
   | zero => rfl
   | succ m =>
    have hi : Lib.index l [c] ≠ -1 := fun e => by rw [Lib.count_miss e] at hn; cases hn
    have hg := Lib.index_ge l [c]
    obtain ⟨i,hi2⟩ : ∃ i : Nat,Lib.index l [c] = i := ⟨(Lib.index l [c]).toNat,by omega⟩
    have hne : ¬ ((i : Int) == -1) = true := by simp <;> omega
    have hne2 : ¬ ((i : Int) + 1 == -1) = true := by simp <;> omega
    rw [Lib.splitK,Lib.splitK,index_cons,if_neg h,if_neg hi,hi2,if_neg hne2,if_neg hne,show ((i : Int) + 1).toNat = i + 1 by omega,Int.toNat_natCast]
    rfl
theorem splitBC_one (c : UInt8) (s : ByteArray) : Lib.splitB ⟨#[c]⟩ 0 (Lib.countB s ⟨#[c]⟩) s = (splitC c s.data.toList).map bs := by
 have h := Lib.splitB_data ⟨#[c]⟩ 0 (Lib.countB s ⟨#[c]⟩) s
 have h2 : Lib.countB s ⟨#[c]⟩ = Lib.count s.data.toList [c] := rfl
 rw [h2] at h ⊢
 rw [show ((⟨#[c]⟩ : ByteArray).data.toList) = [c] from rfl,splitC_one] at h
 rw [← h,List.map_map]
 have : (bs ∘ fun x : ByteArray => x.data.toList) = id := funext fun x => bs_lst x
 rw [this,List.map_id]
theorem I_SplitC (c : UInt8) (s : ByteArray) (hs : s.size ≤ 1073741824) : ConP MaxW Tryd.prog 39 [astr s,astr (bs [c])] [.row 1 (els ((splitC c s.data.toList).map bs))] (.o (.c (.ref 0))) := by
 rintro w ⟨m,hm⟩ H F vs hok hob hlen hargs
 have hnil : ∀ p,H p = .nil := fun p => hob p
 match vs,hlen with
 | [v,u],_ =>
  obtain ⟨rfl,_⟩ : v = .string s ∧ _ := RO.plain (hargs 0 _ v rfl rfl)
  obtain ⟨rfl,_⟩ : u = .string (bs [c]) ∧ _ := RO.plain (hargs 1 _ u rfl rfl)
  refine (Tryd.strings_Split s (bs [c]) m w (by omega) hm (by rw [X0]; exact Nat.le_refl 1)).mono ?_
  rintro e w' ⟨rfl,rfl⟩
  have hsp := splitBC_one c s
  have hcl := Lib.splitB_all (bs [c]) (by rw [X0]; exact Nat.le_refl 1) 0 (Lib.countB s (bs [c])) s rfl
  rw [hsp,List.length_map] at hcl
  have hsl := Y7 c s.data.toList
  rw [← Lib.size_eq] at hsl
  rw [hsp,← hcl]
  obtain ⟨ps,hps⟩ : ∃ ps,ps = (splitC c s.data.toList).map bs := ⟨_,rfl⟩
  have hpl : ps.length = (splitC c s.data.toList).length := by rw [hps,List.length_map]
  rw [← hps,← hpl]
  rw [← hpl] at hcl hsl
  clear hps hsp hpl
  have hel := X8 ps
  have hb : ∀ o,Below w.heap.size w (w.alloc o) := fun o => ⟨rfl,rfl,rfl,by show w.heap.size ≤ (w.heap.push o).size; rw [Array.size_push]; omega,fun b h => by show (w.heap.push o)[b]? = _; rw [Array.getElem?_push,if_neg (by omega)]⟩
  have hb := hb (.cells (ps.map Value.string).toArray 9)
  have hg : (w.alloc (.cells (ps.map Value.string).toArray 9)).heap[w.heap.size]? = some (.cells (ps.map Value.string).toArray 9 (0,0)) := by show (w.heap.push _)[w.heap.size]? = _; rw [Array.getElem?_push,if_pos rfl]
  have how : OW (w.alloc (.cells (ps.map Value.string).toArray 9)) (.sl 1 (els ps)) (.slice (some ⟨w.heap.size,0,none⟩) ps.length ps.length) (w.heap.size :: (ps.map fun _ => [([] : List Nat)]).flatten.flatten) := by
   have h := OW.sl (w := w.alloc (.cells (ps.map Value.string).toArray 9)) (els ps) w.heap.size 0 1 ps.length 9 (ps.map Value.string).toArray (0,0) (fun i _ => .string (ps.getD i ⟨#[]⟩)) (ps.map fun _ => [([] : List Nat)]) hg (.inl rfl) (by omega) (by unfold maxLen; omega) (by simp) (by decide) (fun e he => els_k ps e he) (by simp [hel]) (fun f hf => by obtain ⟨_,_,rfl⟩ := List.mem_map.1 hf; rfl)
    (fun i j hi hj => by
     have hi' : i < ps.length := by omega
     rw [show 0 + i * 1 + j = i by omega]
     simp [List.getD_eq_getElem?_getD,hi'])
    (fun i j e t fs f h1 h2 h3 h4 => by
     have hi : i < ps.length := by have := Yc h1; omega
     rw [els,List.getElem?_map,List.getElem?_eq_getElem hi] at h1
     simp only [Option.map_some,Option.some.injEq] at h1
     subst h1
     have hj : j = 0 := by have := Yc h2; exact Nat.lt_one_iff.1 this
     subst hj
     have ht : t = .v (.string ps[i]) := (Option.some.inj h2).symm
     subst ht
     rw [List.getElem?_map,List.getElem?_eq_getElem hi] at h3
     simp only [Option.map_some,Option.some.injEq] at h3
     subst h3
     have hf : f = [] := (Option.some.inj h4).symm
     subst hf
     rw [List.getD_eq_getElem?_getD,List.getElem?_eq_getElem hi]
     exact OW.v _ J)
   rwa [hel] at h
  have hfp : w.heap.size :: (ps.map fun _ => [([] : List Nat)]).flatten.flatten = [w.heap.size] := by
   congr 1
   simp
  rw [hfp] at how
  refine ⟨fun p => if p = 0 then .ow (.sl 1 (els ps)) (.slice (some ⟨w.heap.size,0,none⟩) ps.length ps.length) [w.heap.size] else .nil,F,_,J,⟨hb.os,hb.tape,hb.output,hb.size,fun b h1 _ => hb.block b h1,fun _ h => h,fun _ h => .inl h,fun p b h => ?_,fun p i v h => ?_⟩,⟨fun p => ?_,fun p => ?_,fun p q b h1 h2 => ?_,fun p b h1 h2 => ?_,fun b h => Nat.lt_of_lt_of_le (hok.flt b h) hb.size⟩,fun p => ?_,?_⟩
  ·by_cases hp : p = 0
   ·simp [hp,Pc.fp] at h; exact .inr (by show w.heap.size ≤ b; omega)
   ·simp [hp,Pc.fp] at h
  ·by_cases hp : p = 0 <;> simp [hp] at h
  ·by_cases hp : p = 0
   ·simp only [hp]; exact how
   ·simp only [hp,if_false]; trivial
  ·by_cases hp : p = 0 <;> simp [hp,Pc.fp]
  ·by_cases hp : p = 0
   ·by_cases hq : q = 0
    ·rw [hp,hq]
    ·simp [hq,Pc.fp] at h2
   ·simp [hp,Pc.fp] at h1
  ·by_cases hp : p = 0
   ·simp [hp,Pc.fp] at h1
    have := hok.flt b h2
    omega
   ·simp [hp,Pc.fp] at h1
  ·cases p with
   | zero => exact ⟨_,_,rfl⟩
   | succ p => simp [RB]
  ·exact ⟨_,_,rfl⟩
def pAtC (c : UInt8) (r : List UInt8) (P : List ByteArray) (st i : Nat) : Prop := st ≤ i ∧ (splitC c r).map bs = P ++ (preL ((r.take i).drop st) (splitC c (r.drop i))).map bs
theorem pAtC_0 (c : UInt8) (r : List UInt8) : pAtC c r [] 0 0 := ⟨Nat.le_refl _,by rw [List.drop_zero,List.take_zero,preC_nil]; rfl⟩
theorem pAtC_hit {c : UInt8} {r : List UInt8} {P : List ByteArray} {st i : Nat} (h : pAtC c r P st i) (hb : r[i]? = some c) : pAtC c r (P ++ [bs ((r.take i).drop st)]) (i + 1) (i + 1) := by
 obtain ⟨h1,h2⟩ := h
 refine ⟨Nat.le_refl _,?_⟩
 have hd : r.drop i = c :: r.drop (i + 1) := by
  obtain ⟨hl,he⟩ := List.getElem?_eq_some_iff.1 hb
  rw [List.drop_eq_getElem_cons hl,he]
 rw [h2,hd,splitC,if_pos rfl,show (r.take (i + 1)).drop (i + 1) = [] from List.drop_eq_nil_of_le (by rw [List.length_take]; omega),preC_nil]
 simp [preL,List.append_assoc]
theorem pAtC_go {c : UInt8} {r : List UInt8} {P : List ByteArray} {st i : Nat} {b : UInt8} (h : pAtC c r P st i) (hb : r[i]? = some b) (hne : b ≠ c) : pAtC c r P st (i + 1) := by
 obtain ⟨h1,h2⟩ := h
 refine ⟨by omega,?_⟩
 obtain ⟨hl,he⟩ := List.getElem?_eq_some_iff.1 hb
 have hd : r.drop i = b :: r.drop (i + 1) := by rw [List.drop_eq_getElem_cons hl,he]
 have ht : (r.take (i + 1)).drop st = (r.take i).drop st ++ [b] := by
  rw [List.take_add_one,hb,List.drop_append_of_le_length (by rw [List.length_take]; omega)]; rfl
 rw [h2,hd,splitC,if_neg hne,preL_pre,ht]
theorem pAtC_end {c : UInt8} {r : List UInt8} {P : List ByteArray} {st : Nat} (h : pAtC c r P st r.length) : P ++ [bs (r.drop st)] = (splitC c r).map bs := by
 obtain ⟨h1,h2⟩ := h
 rw [h2,List.drop_length,List.take_length]
 simp [splitC,preL]
theorem pC_len {c : UInt8} {r : List UInt8} {P : List ByteArray} {st i : Nat} (h : pAtC c r P st i) : P.length ≤ r.length + 1 := by
 have h2 := congrArg List.length h.2
 have h3 := Y7 c r
 rw [List.length_map,List.length_append] at h2
 omega
theorem sliceC_is {s : ByteArray} {c st i : Nat} (h : st ≤ i) : s.extract (c + st) (c + i) = bs (((s.data.toList.drop c).take i).drop st) := by
 rw [← bs_lst (s.extract (c + st) (c + i)),Lib.extract_data,List.drop_take,List.drop_drop,show c + i - (c + st) = i - st by omega]
theorem els_snocC {l : List ByteArray} {x : ByteArray} : els (l ++ [x]) = els l ++ [Enc.e x] := by simp [els]
end
end Go.Proofs.YtcjclaoogdblbaaDoor
