/-
  strings.Builder: what WriteString and String do, with all that they leave alone (over any program that bears the shelf's layings).
  Conditions: at most 2^47 bytes.
  strings.Builder as a piece: contracts of WriteString and String.
  Conditions: at most 2^47 bytes; String: at least one.
-/
import Derived.Shelf.Strings.Builder1
import Derived.Lib.FrozenHead
import Derived.Test.YtmaiojglkojecaaDDEncRowk5
import Derived.Test.YtmaiojglkojecaaDDEncRowk6
set_option linter.unusedSimpArgs false
set_option linter.unusedVariables false
set_option maxHeartbeats 2000000
namespace Go.Proofs.Ytmaiojglkojecaa
section
open Go.Shelf Go.RowKit

structure AtB (t e : TypeId) (b : Nat) (p v : Value) (bs : List Value) (w : World) : Prop where
 hb : w.heap[b]? = some (.cells #[p,v] t (0,0))
 hv : w.ownsRowF 0 e 1 v bs.length bs
 hn : v.ownBlock ≠ some b
theorem Keeps.refl (w : World) (fp : List Nat) : Keeps w w fp := ⟨rfl,rfl,rfl,Nat.le_refl _,fun _ _ _ => rfl⟩
theorem Keeps.trans {w w1 w2 : World} {a b c : List Nat} (h1 : Keeps w w1 a) (h2 : Keeps w1 w2 b) (ha : ∀ x ∈ a,x ∈ c) (hb : ∀ x ∈ b,x ∈ c ∨ w.heap.size ≤ x) : Keeps w w2 c :=
 ⟨h2.os.trans h1.os,h2.tape.trans h1.tape,h2.output.trans h1.output,Nat.le_trans h1.size h2.size,fun x hx hc => (h2.block x (Nat.lt_of_lt_of_le hx h1.size) fun hm => (hb x hm).elim hc fun h => absurd h (by omega)).trans (h1.block x hx fun hm => hc (ha x hm))⟩
theorem keeps_set (w : World) (b j : Nat) (u : Value) : Keeps w (w.setCell ⟨b,j,none⟩ u) [b] :=
 ⟨rfl,rfl,rfl,by simp [World.setCell],fun k _ hk => Below.heap_setCell _ _ _ _ (by simpa using hk)⟩
theorem own_set {w : World} {e : TypeId} {v u : Value} {n : Nat} {xs : List Value} {b j : Nat} (h : w.ownsRowF 0 e 1 v n xs) (hn : v.ownBlock ≠ some b) : (w.setCell ⟨b,j,none⟩ u).ownsRowF 0 e 1 v n xs :=
 h.kept (row := some b) ⟨rfl,rfl,rfl,by simp [World.setCell],fun k _ hk => Below.heap_setCell _ _ _ _ (fun e => hk (by simp [e]))⟩ (.inr hn)
theorem freeze_at (w : World) (g n k : Nat) (hne : k ≠ g) : (w.freeze ⟨g,0,none⟩ n).heap[k]? = w.heap[k]? := by
 unfold World.freeze
 split
 ·rfl
 ·simp only [Array.getElem?_modify]
  rw [if_neg (Ne.symm hne)]
section
variable {P : Program} {ρ : Ren}
theorem bl_check (L : Lays.n240 P ρ) (X : Builder.X72 P ρ) {e : TypeId} {b : Nat} {p v : Value} {bs : List Value} {w : World} (h : AtB (ρ.t 72) e b p v bs w) (hp : p = .pointer none ∨ p = .pointer (some ⟨b,0,none⟩)) :
  Calls P (ρ.f 240) #[.pointer (some ⟨b,0,none⟩)] w fun x w' => x = .returned (.tuple #[]) ∧ AtB (ρ.t 72) e b (.pointer (some ⟨b,0,none⟩)) v bs w' ∧ Keeps w w' [b] := by
 rcases hp with rfl | rfl
 ·refine (Any.Builder_copyCheck_fresh L X b w (by simp [World.cell?,h.hb]) (by simp [World.shape?,h.hb]) (by simp [World.frozen?,h.hb])).mono ?_
  rintro x w' ⟨rfl,rfl⟩
  exact ⟨J,⟨by simp [World.setCell,Array.getElem?_modify,h.hb],own_set h.hv h.hn,h.hn⟩,keeps_set w b 0 _⟩
 ·refine (Any.Builder_copyCheck_used L X b w (by simp [World.cell?,h.hb])).mono ?_
  rintro x w' ⟨rfl,rfl⟩
  exact ⟨J,h,Keeps.refl _ _⟩
theorem app_exact {t u ty e : TypeId} {i : TypeInfo} (ht : P.underlying t = some (.slice e)) (hu : P.underlying u = some .string) (hi : P.info? e = some i) (hz : i.zero = some (.int .u8 0)) (hsize : i.size = 1) (hby : i.bytes = 1)
  {w : World} {v : Value} {n : Nat} {xs : List Value} (hown : w.ownsRowF 0 e 1 v n xs) (s : ByteArray) (hb : n + s.size ≤ 140737488355328) :
  ∃ v' w',(Builtin.append_ #[t,u] ty #[v,.string s]).run P w = .ok v' w' ∧ w'.ownsRowF 0 e 1 v' (n + s.size) (xs ++ Lib.strCells s) ∧ w.grownBy w' v.ownBlock ∧ ∀ g ∈ v'.ownBlock.toList,g ∈ v.ownBlock.toList ∨ w.heap.size ≤ g := by
 have h63 : n + s.size ≤ maxLen := by unfold maxLen; omega
 obtain ⟨v',w',h1,h2,h3,h4⟩ := Lib.run_append_own_stringF (P := P) w 0 t u ty e i ht hu hi hz hsize hby v n xs hown s h63 hb (Nat.zero_le _)
 refine ⟨v',w',h1,h2,h3,?_⟩
 rcases hown.2 with ⟨rfl,rfl⟩ | ⟨g,cap,cur,fz,rfl,hbg,hg,hfz,hnc,hcm,hcs,htake⟩
 ·obtain ⟨v2,w2,k1,k2,_,_⟩ := Lib.run_append_own_stringF (P := P) w w.heap.size t u ty e i ht hu hi hz hsize hby (.slice none 0 0) 0 xs ⟨hown.1,.inl ⟨rfl,rfl⟩⟩ s h63 hb (Nat.le_refl _)
  rw [h1] at k1
  simp only [Result.ok.injEq] at k1
  obtain ⟨rfl,rfl⟩ := k1
  intro x hx
  rcases k2.2 with ⟨rfl,_⟩ | ⟨g,cap,cur,fz,rfl,hbg,r⟩
  ·simp [Value.ownBlock] at hx
  ·simp [Value.ownBlock] at hx; subst hx; exact .inr hbg
 ·have hxl : xs.length = n := by simpa using hown.1
  by_cases hroom : n + s.size ≤ cap
  ·have hr := Lib.run_append_room_stringF (P := P) (w := w) t u ty e i ht hu hi hsize g n cap cur fz hg (by simpa using hfz) s hroom (by omega)
   rw [h1] at hr
   simp only [Result.ok.injEq] at hr
   obtain ⟨rfl,rfl⟩ := hr
   intro x hx
   exact .inl hx
  ·have holds : ∀ j u,xs[j]? = some u → w.cell? ((⟨g,0,none⟩ : Addr).add j) = some u := hown.cells (g := g) rfl
   have hr := Lib.run_append_grow_string (P := P) (w := w) t u ty e i (.int .u8 0) ht hu hi hz ⟨g,0,none⟩ n cap xs (by rw [hsize]; simpa using hxl) holds s (by omega) (by omega) (by rw [hby]; exact growslice_fits (by omega) (by omega))
   rw [h1] at hr
   simp only [Result.ok.injEq] at hr
   obtain ⟨rfl,rfl⟩ := hr
   intro x hx
   simp [Value.ownBlock] at hx
   subst hx
   exact .inr (Nat.le_refl _)
theorem wpl_app {ops : Array Oper} {rest : List Oper} {o : Oper} {a : Act} {w : World} {Q : Exit → Act → World → Prop} (hgd : o.guard = none) (sl x : Operand) (t u : TypeId)
  (ho : o.op = .call { callee := .builtin .append,args := #[sl,x],argTypes := #[t,u] })
  (e : TypeId) (i : TypeInfo) (ht : P.underlying t = some (.slice e)) (hu : P.underlying u = some .string) (hi : P.info? e = some i) (hz : i.zero = some (.int .u8 0)) (hsize : i.size = 1) (hby : i.bytes = 1)
  (v : Value) (n : Nat) (xs : List Value) (hs : a.eval sl = v) (hown : w.ownsRowF 0 e 1 v n xs) (s : ByteArray) (hx : a.eval x = .string s) (hb : n + s.size ≤ 140737488355328)
  (h : ∀ v' w',w'.ownsRowF 0 e 1 v' (n + s.size) (xs ++ Lib.strCells s) → w.grownBy w' v.ownBlock → (∀ g ∈ v'.ownBlock.toList,g ∈ v.ownBlock.toList ∨ w.heap.size ≤ g) → wpList P ops Q rest (a.put o.dst v') w') : wpList P ops Q (o :: rest) a w := by
 refine wpList_plain hgd fun K hK => ?_
 obtain ⟨v',w',hr,h2,h3,h4⟩ := app_exact (ty := o.type) ht hu hi hz hsize hby hown s hb
 unfold Oper.wp execOp
 simp only [ho,resolve,invoke,builtin,Sem.run_bind,Sem.run_pure,Result.andThen_ok,List.map_toArray,List.map_cons,List.map_nil,hs,hx,hr]
 exact hK _ _ (h v' w' h2 h3 h4)
set_option maxRecDepth 100000 in
theorem bl_write (L : Lays.n166 P ρ) (X : Builder.Extra P ρ) {b : Nat} {p v : Value} {bs : List Value} {w : World} (s : ByteArray) (h : AtB (ρ.t 72) (ρ.t 5) b p v bs w) (hp : p = .pointer none ∨ p = .pointer (some ⟨b,0,none⟩)) (hlen : bs.length + s.size ≤ 140737488355328) :
  Calls P (ρ.f 166) #[.pointer (some ⟨b,0,none⟩),.string s] w fun x w' => x = .returned (.tuple #[.int .i64 s.size,.nilIface]) ∧
   ∃ v',AtB (ρ.t 72) (ρ.t 5) b (.pointer (some ⟨b,0,none⟩)) v' (bs ++ Lib.strCells s) w' ∧ Keeps w w' (b :: v.ownBlock.toList) ∧ ∀ g ∈ v'.ownBlock.toList,g ∈ v.ownBlock.toList ∨ w.heap.size ≤ g := by
 obtain ⟨i0,hi,hz0,hz1,hz2⟩ := info_parts X.infoByte
 have hbw : b < w.heap.size := (Array.getElem?_eq_some_iff.1 h.hb).1
 have mixed := L.mixed
 have t72 := L.t72; have a72 := L.a72; have z72 := L.z72; have v72 := L.v72; have u72 := run_underlying L.t72
 have t70 := L.t70; have a70 := L.a70; have z70 := L.z70; have v70 := L.v70; have u70 := run_underlying L.t70
 have t37 := L.t37; have a37 := L.a37; have z37 := L.z37; have v37 := L.v37; have u37 := run_underlying L.t37
 have t3 := L.t3; have a3 := L.a3; have z3 := L.z3; have v3 := L.v3; have u3 := run_underlying L.t3
 have t9 := L.t9; have a9 := L.a9; have z9 := L.z9; have v9 := L.v9; have u9 := run_underlying L.t9
 have t4 := L.t4; have a4 := L.a4; have z4 := L.z4; have v4 := L.v4; have u4 := run_underlying L.t4
 have t164 := L.t164; have a164 := L.a164; have z164 := L.z164; have v164 := L.v164; have u164 := run_underlying L.t164
 have t5 := X.t5; have a5 := X.a5; have z5 := X.z5; have v5 := X.v5; have u5 := run_underlying X.t5
 have e240 : ∀ args w,(callFunc (ρ.f 240) args).run P w = .ok (.enter (ρ.f 240) args) w := enters_of L.f240 (by kernel_rfl) rfl
 go_enter L.f166,Body.n166_ntmps ρ
 go_wp2_with (go_at_fn (ρ.f 240);refine (bl_check { L with } X.toX72 h hp).mono ?_)
 rintro x w1 ⟨rfl,h1,k1⟩
 have c1 : w1.cell? ⟨b,1,none⟩ = some v := by rw [Lib.cell_of_heap h1.hb]; rfl
 go_wp2_with (at_builtin;refine wpl_app rfl _ _ (ρ.t 37) (ρ.t 9) rfl (ρ.t 5) i0 L.t37 L.t9 hi hz0 hz1 hz2 _ _ _ rfl h1.hv s rfl ?c4 ?_)
 case c4 => omega
 intro v' w2 hown' hgrow hnew
 have hlt : b < w1.heap.size := (Array.getElem?_eq_some_iff.1 h1.hb).1
 have hb2 : w2.heap[b]? = some (.cells #[.pointer (some ⟨b,0,none⟩),v] (ρ.t 72) (0,0)) := (hgrow.block b hlt (fun e => h.hn e.symm)).trans h1.hb
 have d1 : w2.cell? ⟨b,1,none⟩ = some v := by rw [Lib.cell_of_heap hb2]; rfl
 have f1 : w2.frozen? ⟨b,1,none⟩ = false := Lib.frozen_of_heap hb2 1
 obtain ⟨ao,n',cap,rfl⟩ : ∃ ao n' cap,v' = .slice ao n' cap := by
  rcases hown'.2 with ⟨hv,_⟩ | ⟨g,cap,cur,fz,hv,_⟩
  ·exact ⟨_,_,_,hv⟩
  ·exact ⟨_,_,_,hv⟩
 have hne' : (Value.slice ao n' cap).ownBlock ≠ some b := fun e => by
  rcases hnew b (by rw [e]) with h5 | h5
  ·exact h.hn (by simpa using h5)
  ·omega
 go_wp2
 go_ret2
 have hl2 : (bs ++ Lib.strCells s).length = bs.length + s.size := by rw [List.length_append,Lib.strCells_length]
 have k2 : Keeps w1 w2 v.ownBlock.toList := ⟨hgrow.os,hgrow.tape,hgrow.output,hgrow.size,fun k hk hm => hgrow.block k hk fun e => hm (by rw [← e]; simp)⟩
 have k12 : Keeps w w2 (b :: v.ownBlock.toList) := k1.trans k2 (by simp) (fun x hx => .inl (List.mem_cons_of_mem _ hx))
 refine ⟨J,_,⟨by simp [World.setCell,Array.getElem?_modify,hb2],by rw [hl2]; exact own_set hown' hne',hne'⟩,k12.trans (keeps_set w2 b 1 _) (fun x hx => hx) (fun x hx => .inl (by simp at hx; simp [hx])),fun g hg => ?_⟩
 rcases hnew g (by simpa using hg) with h6 | h6
 ·exact .inl (by simpa using h6)
 ·exact .inr (Nat.le_trans k1.size h6)
set_option maxRecDepth 100000 in
theorem bl_string (L : Lays.n169 P ρ) (X : Builder.Extra P ρ) {b : Nat} {p v : Value} {l : List UInt8} {w : World} (h : AtB (ρ.t 72) (ρ.t 5) b p v (Lib.byteCells l) w) (h0 : l ≠ []) :
  Calls P (ρ.f 169) #[.pointer (some ⟨b,0,none⟩)] w fun x w' => x = .returned (.string ⟨l.toArray⟩) ∧ AtB (ρ.t 72) (ρ.t 5) b p v (Lib.byteCells l) w' ∧ Keeps w w' v.ownBlock.toList := by
 have hl0 : l.length ≠ 0 := by simpa using h0
 have hown := h.hv
 rw [Lib.byteCells_length] at hown
 have hbk := h.hb
 rcases hown.2 with ⟨_,hz⟩ | ⟨g,cap,cur,fz,rfl,hbg,hg,hfz,hnc,hcm,hcs,htake⟩
 ·exact absurd hz hl0
 have c1 : w.drew.cell? ⟨b,1,none⟩ = some (.slice (some ⟨g,0,none⟩) l.length cap) := by
  have : w.drew.heap[b]? = some (.cells #[p,.slice (some ⟨g,0,none⟩) l.length cap] (ρ.t 72) (0,0)) := hbk
  rw [Lib.cell_of_heap this]; rfl
 have hSD : (Builtin.unsafeSliceData_ #[(ρ.t 37)] (ρ.t 127) #[.slice (some ⟨g,0,none⟩) l.length cap]).run P w.drew = .ok (.pointer (some ⟨g,0,none⟩)) w.drew :=
  Lib.run_unsafeSliceData_row _ _ _ _ _ _ (by omega)
 have hUS : (Builtin.unsafeString_ #[(ρ.t 127),(ρ.t 3)] (ρ.t 9) #[.pointer (some ⟨g,0,none⟩),.int .i64 l.length]).run P w.drew = .ok (.string ⟨l.toArray⟩) (w.drew.freeze ⟨g,0,none⟩ l.length) := by
  refine Lib.run_unsafeString_row w.drew (ρ.t 127) (ρ.t 3) (ρ.t 9) (ρ.t 5) L.t127 X.cellsByte g cur.size (by have hg' : w.drew.heap[g]? = some (.cells cur (ρ.t 5) fz) := hg; simp [World.shape?,hg']) l h0 (by omega) (by unfold maxLen at hcm; omega) ?_
  intro j x hx
  have := hown.cells (g := g) rfl j (.int .u8 x.toNat) (by simp [Lib.byteCells,hx])
  exact this
 have hB := Lib.below_freeze (Below.drew (Below.refl 0 w)) (p := ⟨g,0,none⟩) (Nat.zero_le _) l.length
 have hk : Keeps w (w.drew.freeze ⟨g,0,none⟩ l.length) (Value.slice (some ⟨g,0,none⟩) l.length cap).ownBlock.toList :=
  ⟨hB.os,hB.tape,hB.output,hB.size,fun k _ hn => by
   have hne : k ≠ g := by simpa [Value.ownBlock] using hn
   exact freeze_at w.drew g l.length k hne⟩
 have hgb : b ≠ g := fun e => h.hn (by simp [Value.ownBlock,e])
 have hA : AtB (ρ.t 72) (ρ.t 5) b p (.slice (some ⟨g,0,none⟩) l.length cap) (Lib.byteCells l) (w.drew.freeze ⟨g,0,none⟩ l.length) := by
  have h1 : Lib.BuilderAtF (ρ.t 72) (ρ.t 5) 0 b p (Lib.byteCells l) w.drew := ⟨Nat.zero_le _,_,hbk,h.hv,h.hn⟩
  have hF := h1.froze (g := g) (cap := cap) (by rw [Lib.byteCells_length]; exact c1)
  rw [Lib.byteCells_length] at hF
  obtain ⟨_,v2,hb2,hv2,hn2⟩ := hF
  have hb3 : (w.drew.freeze ⟨g,0,none⟩ l.length).heap[b]? = some (.cells #[p,.slice (some ⟨g,0,none⟩) l.length cap] (ρ.t 72) (0,0)) := (freeze_at w.drew g l.length b hgb).trans hbk
  have : v2 = .slice (some ⟨g,0,none⟩) l.length cap := by
   have h4 := hb2.symm.trans hb3
   simp at h4
   exact h4
  subst this
  exact ⟨hb3,hv2,hn2⟩
 have mixed := L.mixed
 have t72 := L.t72; have a72 := L.a72; have z72 := L.z72; have v72 := L.v72; have u72 := run_underlying L.t72
 have t70 := L.t70; have a70 := L.a70; have z70 := L.z70; have v70 := L.v70; have u70 := run_underlying L.t70
 have t37 := L.t37; have a37 := L.a37; have z37 := L.z37; have v37 := L.v37; have u37 := run_underlying L.t37
 have t127 := L.t127; have a127 := L.a127; have z127 := L.z127; have v127 := L.v127; have u127 := run_underlying L.t127
 have t3 := L.t3; have a3 := L.a3; have z3 := L.z3; have v3 := L.v3; have u3 := run_underlying L.t3
 have t9 := L.t9; have a9 := L.a9; have z9 := L.z9; have v9 := L.v9; have u9 := run_underlying L.t9
 have t5 := X.t5; have a5 := X.a5; have z5 := X.z5; have v5 := X.v5; have u5 := run_underlying X.t5
 go_enter L.f169,Body.n169_ntmps ρ
 go_wp2
 go_region_o
 all_goals (go_wp2; go_ret; exact ⟨rfl,hA,hk⟩)
end
end
section
open Go.Shelf Go.RowKit

section
variable {P : Program} {ρ : Ren} {w : World} {H : Hs} {F : Nat → Prop}
theorem own_nodup {b : Nat} {v : Value} (h : v.ownBlock ≠ some b) : (b :: v.ownBlock.toList).Nodup := by
 cases e : v.ownBlock with
 | none => simp
 | some g => rw [e] at h; simp; intro h2; exact h (by rw [h2])
theorem C_write (L : Lays.n166 P ρ) (X : Builder.Extra P ρ) (l : List UInt8) (s : ByteArray) (hlen : l.length + s.size ≤ 140737488355328) :
  Con P (ρ.f 166) [.bl (ρ.t 72) (ρ.t 5) l,.gh 0 (.c (.ref 0))] [.c (.ref 0),.c (.rd [] (.v (.string s)))] [.bl (ρ.t 72) (ρ.t 5) (l ++ s.data.toList),.gh 0 (.c (.ref 0))] (.tu [.c (.rd [] (.v (.int .i64 s.size))),.c (.rd [] (.v .nilIface))]) := by
 intro w H F vs hok hob hvl hr
 obtain ⟨v,fp,e0⟩ := hob 0
 have hs := hok.says 0
 rw [e0] at hs
 have hs : OW w (.bl (ρ.t 72) (ρ.t 5) l) v fp := hs
 cases hs with
 | bl _ _ _ b p v hb hp hv hn =>
  obtain ⟨u0,u1,rfl⟩ : ∃ a b,vs = [a,b] := by
   match vs,hvl with
   | [a,b],_ => exact ⟨a,b,rfl⟩
  have h0 : R2 w H F (.c (.ref 0)) u0 := hr 0 _ _ J J
  obtain ⟨x,fp',e1⟩ := h0
  rw [e0] at e1
  simp only [Pc.ow.injEq] at e1
  obtain ⟨_,rfl,_⟩ := e1
  have h1 : R2 w H F (.c (.rd [] (.v (.string s)))) u1 := hr 1 _ _ J J
  obtain ⟨rfl,_⟩ := RO.plain h1
  refine (bl_write L X s (bs := l.map fun c => Value.int .u8 c.toNat) ⟨hb,by rw [List.length_map]; exact hv,hn⟩ hp (by rw [List.length_map]; exact hlen)).mono ?_
  rintro x w' ⟨rfl,v',hA,hk,hnew⟩
  have hcs : (l.map fun c => Value.int .u8 (c.toNat : Int)) ++ Lib.strCells s = (l ++ s.data.toList).map fun c => Value.int .u8 (c.toNat : Int) := by rw [List.map_append]; rfl
  have hA2 := hA.hv
  rw [hcs,List.length_map] at hA2
  obtain ⟨hok',ht⟩ := hok.turn (p := 0) (fp := b :: v.ownBlock.toList) (by rw [e0]; rfl) hk (.ow (.bl (ρ.t 72) (ρ.t 5) (l ++ s.data.toList)) (.pointer (some ⟨b,0,none⟩)) (b :: v'.ownBlock.toList)) (.bl _ _ _ b _ v' hA.hb (.inr rfl) hA2 hA.hn) (own_nodup hA.hn) trivial (fun g hg => by
   rcases List.mem_cons.1 hg with rfl | hg
   ·exact .inl (List.mem_cons_self ..)
   ·exact (hnew g hg).imp (List.mem_cons_of_mem _) id)
  refine ⟨_,F,_,J,(Since.refl w H F).turn ht,hok',fun p => ?_,⟨[.int .i64 s.size,.nilIface],J,J,fun i x u h2 h3 => ?_⟩⟩
  ·cases p with
   | zero => exact ⟨_,_,Hs.put_self _ _ _⟩
   | succ p => cases p with
    | zero =>
     obtain ⟨v1,e2,x2,fp2,e3⟩ := hob 1
     rw [e0] at e3
     simp only [Pc.ow.injEq] at e3
     obtain ⟨_,hv1,_⟩ := e3
     exact ⟨v1,(Hs.put_ne _ _ (by omega)).trans e2,_,_,by rw [← hv1]; exact Hs.put_self _ _ _⟩
    | succ p =>
     show H.put 0 _ (p + 1 + 1) = .nil
     rw [Hs.put_ne _ _ (by omega)]
     exact hob (p + 1 + 1)
  ·match i with
   | 0 => simp at h2 h3; subst h2 h3; exact RO.v _ rfl
   | 1 => simp at h2 h3; subst h2 h3; exact RO.v _ rfl
   | i + 2 => simp at h2
theorem C_string (L : Lays.n169 P ρ) (X : Builder.Extra P ρ) (l : List UInt8) (h0 : l ≠ []) :
  Con P (ρ.f 169) [.bl (ρ.t 72) (ρ.t 5) l] [.c (.ref 0)] [.bl (ρ.t 72) (ρ.t 5) l] (.o (.c (.rd [] (.v (.string ⟨l.toArray⟩))))) := by
 intro w H F vs hok hob hvl hr
 obtain ⟨v,fp,e0⟩ := hob 0
 have hs := hok.says 0
 rw [e0] at hs
 have hs : OW w (.bl (ρ.t 72) (ρ.t 5) l) v fp := hs
 cases hs with
 | bl _ _ _ b p v hb hp hv hn =>
  obtain ⟨u0,rfl⟩ : ∃ a,vs = [a] := by
   match vs,hvl with
   | [a],_ => exact ⟨a,rfl⟩
  have h0' : R2 w H F (.c (.ref 0)) u0 := hr 0 _ _ J J
  obtain ⟨x,fp',e1⟩ := h0'
  rw [e0] at e1
  simp only [Pc.ow.injEq] at e1
  obtain ⟨_,rfl,_⟩ := e1
  refine (bl_string L X (l := l) ⟨hb,by rw [Lib.byteCells_length]; exact hv,hn⟩ h0).mono ?_
  rintro x w' ⟨rfl,hA,hk⟩
  have hA2 := hA.hv
  rw [Lib.byteCells_length] at hA2
  obtain ⟨hok',ht⟩ := hok.turn (p := 0) (fp := b :: v.ownBlock.toList) (by rw [e0]; rfl) ⟨hk.os,hk.tape,hk.output,hk.size,fun k h1 h2 => hk.block k h1 fun h3 => h2 (List.mem_cons_of_mem _ h3)⟩ (.ow (.bl (ρ.t 72) (ρ.t 5) l) (.pointer (some ⟨b,0,none⟩)) (b :: v.ownBlock.toList)) (.bl _ _ _ b p v hA.hb hp hA2 hA.hn) (own_nodup hA.hn) trivial (fun g hg => .inl hg)
  refine ⟨_,F,_,J,(Since.refl w H F).turn ht,hok',fun p => ?_,RO.v _ J⟩
  cases p with
  | zero => exact ⟨_,_,Hs.put_self _ _ _⟩
  | succ p =>
   show H.put 0 _ (p + 1) = .nil
   rw [Hs.put_ne _ _ (by omega)]
   exact hob (p + 1)
end
section
variable {P : Program} {E : Env} {ops : Array Oper} {o : Oper} {st : St} {n : Nat} {t : TypeId} {y : Operand}
theorem q_allocB (e : TypeId) [hz : TyZero P t [.pointer none,.slice none 0 0]] (ho : o.op = .alloc t) (hg : o.guard = none) : Qt P ops o st (.o (.c (.ref n))) [.bl t e []] n :=
 .new hg fun a w H F hr hn => by
  obtain ⟨zv,hzv,hzc⟩ := run_zeroValue (P := P) (w := w) t (zs := [.pointer none,.slice none 0 0])
  refine ⟨.pointer (some ⟨w.heap.size,0,none⟩),w.alloc (.cells [.pointer none,.slice none 0 0].toArray t),.ow (.bl t e []) (.pointer (some ⟨w.heap.size,0,none⟩)) [w.heap.size],?_,(Below.refl _ _).alloc (Nat.le_refl _) _,.bl t e [] w.heap.size (.pointer none) (.slice none 0 0) (heap_alloc_new w _) (.inl J) ⟨J,.inl ⟨J,J⟩⟩ (by simp [Value.ownBlock]),by simp [Pc.fp,Pc.ng],fun b hb => by simp [Pc.fp] at hb; omega,fun H' hgr hq => ⟨⟨_,_,hq⟩,_,_,hq⟩⟩
  unfold execOp
  simp only [ho,Instr.alloc,Sem.run_bind,hzv,Result.andThen_ok,newVar,newRow,hzc]
  rfl
end
end
end Go.Proofs.Ytmaiojglkojecaa
