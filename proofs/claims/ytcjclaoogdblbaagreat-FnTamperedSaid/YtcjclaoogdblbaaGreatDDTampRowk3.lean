/-
  Parts of the proof (rules, data, and what functions of the program and of the reference return), among them: Rules for operations that make new memory, and for those that write to a call's own; Rules for operations that write to a call's own memory: stores into boxes, append.
  Conditions: those that each theorem names.
-/
import Derived.Laws.MakeOwn
import Derived.Deep.AppendSrc
import Derived.Test.YtcjclaoogdblbaaGreatDDTampRowk2
set_option linter.unusedSimpArgs false
set_option linter.unusedVariables false
namespace Go.Proofs.YtcjclaoogdblbaaGreat
section
open Go.RowKit

def flatV (val : Nat → Nat → Value) (n k : Nat) : List Value := (List.range (n * k)).map fun q => val (q / k) (q % k)
theorem Y5 (val : Nat → Nat → Value) (n k : Nat) : (flatV val n k).length = n * k := by simp [flatV]
theorem ij_lt {n k i j : Nat} (hi : i < n) (hj : j < k) : i * k + j < n * k := by
 have h1 : (i + 1) * k ≤ n * k := Nat.mul_le_mul_right k hi
 rw [Nat.succ_mul] at h1
 omega
theorem ij_div {k i j : Nat} (hj : j < k) : (i * k + j) / k = i ∧ (i * k + j) % k = j := by
 constructor
 ·rw [Nat.mul_comm,Nat.mul_add_div (by omega),Nat.div_eq_of_lt hj,Nat.add_zero]
 ·rw [Nat.mul_comm,Nat.mul_add_mod,Nat.mod_eq_of_lt hj]
theorem flatV_at {val : Nat → Nat → Value} {n k i j : Nat} (hi : i < n) (hj : j < k) : (flatV val n k)[i * k + j]? = some (val i j) := by
 simp [flatV,ij_lt hi hj,ij_div hj]
theorem flatV_get {val : Nat → Nat → Value} {n k q : Nat} {u : Value} (h : (flatV val n k)[q]? = some u) : q / k < n ∧ q % k < k ∧ u = val (q / k) (q % k) ∧ q / k * k + q % k = q := by
 have h1 := Y7 h
 rw [Y5] at h1
 have hk : 0 < k := by
  rcases Nat.eq_zero_or_pos k with rfl | h
  ·simp at h1
  ·exact h
 refine ⟨Nat.div_lt_of_lt_mul (by rwa [Nat.mul_comm] at h1),Nat.mod_lt _ hk,?_,by rw [Nat.mul_comm]; exact Nat.div_add_mod q k⟩
 simp [flatV,h1] at h
 exact h.symm

theorem OW.open_ {w : World} {k : Nat} {es : List (List T)} {v : Value} {fp : List Nat} (h : OW w (.sl k es) v fp) : (v = .slice none 0 0 ∧ es = [] ∧ fp = []) ∨
  ∃ (b o c : Nat) (tid : TypeId) (cur : Array Value) (fz : Nat × Nat) (val : Nat → Nat → Value) (fps : List (List (List Nat))),v = .slice (some ⟨b,o,none⟩) es.length c ∧ fp = b :: fps.flatten.flatten ∧ w.heap[b]? = some (.cells cur tid fz) ∧ (fz = (0,0) ∨ cur.size ≤ fz.1) ∧
   es.length ≤ c ∧ c ≤ maxLen ∧ o + c * k ≤ cur.size ∧ 0 < k ∧ (∀ e ∈ es,e.length = k) ∧ fps.length = es.length ∧ (∀ f ∈ fps,f.length = k) ∧
   (∀ i j,i < es.length → j < k → cur[o + i * k + j]? = some (val i j)) ∧
   (∀ (i j : Nat) (e : List T) (t : T) (fs : List (List Nat)) (f : List Nat),es[i]? = some e → e[j]? = some t → fps[i]? = some fs → fs[j]? = some f → OW w t (val i j) f) := by
 cases h with
 | nil => exact .inl ⟨rfl,rfl,rfl⟩
 | sl _ b o _ c tid cur fz val fps hg hz hc hm hs hp hk hf hfk hv ht => exact .inr ⟨b,o,c,tid,cur,fz,val,fps,rfl,rfl,hg,hz,hc,hm,hs,hp,hk,hf,hfk,hv,ht⟩

theorem OW.join {w : World} {k : Nat} {es es' : List (List T)} {b o c : Nat} {tid : TypeId} {cur : Array Value} {fz : Nat × Nat} {val val' : Nat → Nat → Value} {fps fps' : List (List (List Nat))}
  (hg : w.heap[b]? = some (.cells cur tid fz)) (hz : fz = (0,0) ∨ cur.size ≤ fz.1) (hc : es.length + es'.length ≤ c) (hm : c ≤ maxLen) (hs : o + c * k ≤ cur.size) (hp : 0 < k) (hk : ∀ e ∈ es,e.length = k) (hk' : ∀ e ∈ es',e.length = k)
  (hf : fps.length = es.length) (hf' : fps'.length = es'.length) (hfk : ∀ f ∈ fps,f.length = k) (hfk' : ∀ f ∈ fps',f.length = k)
  (hv : ∀ i j,i < es.length → j < k → cur[o + i * k + j]? = some (val i j)) (hv' : ∀ i j,i < es'.length → j < k → cur[o + (es.length + i) * k + j]? = some (val' i j))
  (ht : ∀ (i j : Nat) (e : List T) (t : T) (fs : List (List Nat)) (f : List Nat),es[i]? = some e → e[j]? = some t → fps[i]? = some fs → fs[j]? = some f → OW w t (val i j) f)
  (ht' : ∀ (i j : Nat) (e : List T) (t : T) (fs : List (List Nat)) (f : List Nat),es'[i]? = some e → e[j]? = some t → fps'[i]? = some fs → fs[j]? = some f → OW w t (val' i j) f) :
  OW w (.sl k (es ++ es')) (.slice (some ⟨b,o,none⟩) (es.length + es'.length) c) (b :: (fps ++ fps').flatten.flatten) := by
 have hn : es.length + es'.length = (es ++ es').length := by simp
 rw [hn] at hc ⊢
 refine .sl (es ++ es') b o k c tid cur fz (fun i j => if i < es.length then val i j else val' (i - es.length) j) (fps ++ fps') hg hz hc hm hs hp ?_ (by simp [hf,hf']) ?_ (fun i j hi hj => ?_) fun i j e t fs f h1 h2 h3 h4 => ?_
 ·intro e he
  rcases List.mem_append.1 he with he | he
  ·exact hk e he
  ·exact hk' e he
 ·intro e he
  rcases List.mem_append.1 he with he | he
  ·exact hfk e he
  ·exact hfk' e he
 ·show _ = some (if i < es.length then _ else _)
  by_cases h : i < es.length
  ·rw [if_pos h]; exact hv i j h hj
  ·rw [if_neg h]
   have := hv' (i - es.length) j (by rw [← hn] at hi; omega) hj
   rwa [show es.length + (i - es.length) = i by omega] at this
 ·show OW w t (if i < es.length then _ else _) f
  by_cases h : i < es.length
  ·rw [if_pos h]
   exact ht i j e t fs f (by rwa [List.getElem?_append_left h] at h1) h2 (by rwa [List.getElem?_append_left (by omega)] at h3) h4
  ·rw [if_neg h]
   exact ht' (i - es.length) j e t fs f (by rwa [List.getElem?_append_right (by omega)] at h1) h2 (by rw [List.getElem?_append_right (by omega),hf] at h3; exact h3) h4

section
variable {P : Program} {w : World}

theorem Y9 (b : Nat) (tid : TypeId) (fz : Nat × Nat) : ∀ (us : List Value) (off : Nat) (w : World) (cur : Array Value),w.heap[b]? = some (.cells cur tid fz) → off + us.length ≤ cur.size →
  ∃ cur' : Array Value,(w.setCells b off us).heap[b]? = some (.cells cur' tid fz) ∧ cur'.size = cur.size ∧ (∀ q,q < us.length → cur'[off + q]? = us[q]?) ∧ ∀ q,(q < off ∨ off + us.length ≤ q) → cur'[q]? = cur[q]?
 | [],off,w,cur,h,_ => ⟨cur,h,rfl,fun q hq => by simp at hq,fun q _ => rfl⟩
 | u :: us,off,w,cur,h,hl => by
  have h1 : (w.setCell ⟨b,off,none⟩ u).heap[b]? = some (.cells (cur.setIfInBounds off u) tid fz) := by
   simp [World.setCell,Array.getElem?_modify,h]
  obtain ⟨cur',h2,h3,h4,h5⟩ := Y9 b tid fz us (off + 1) _ _ h1 (by simp at hl ⊢; omega)
  refine ⟨cur',h2,by simpa using h3,fun q hq => ?_,fun q hq => ?_⟩
  ·cases q with
   | zero =>
    rw [Nat.add_zero,h5 off (.inl (by omega))]
    simp at hl
    simp [show off < cur.size by omega]
   | succ q =>
    rw [show off + (q + 1) = off + 1 + q by omega,h4 q (by simpa using hq)]
    simp
  ·rw [h5 q (by simp at hq; omega),Array.getElem?_setIfInBounds_ne (by simp at hq; omega)]
theorem Kx (w : World) (b : Nat) : ∀ (us : List Value) (off : Nat),(w.setCells b off us).os = w.os ∧ (w.setCells b off us).tape = w.tape ∧ (w.setCells b off us).output = w.output ∧ (w.setCells b off us).heap.size = w.heap.size ∧ ∀ k,k ≠ b → (w.setCells b off us).heap[k]? = w.heap[k]? := by
 intro us
 induction us generalizing w with
 | nil => intro off; exact ⟨rfl,rfl,rfl,rfl,fun _ _ => rfl⟩
 | cons u us ih =>
  intro off
  obtain ⟨h1,h2,h3,h4,h5⟩ := ih (w.setCell ⟨b,off,none⟩ u) (off + 1)
  exact ⟨h1,h2,h3,h4.trans (by simp [World.setCell]),fun k hk => (h5 k hk).trans (Below.heap_setCell _ _ _ _ hk)⟩
theorem frozen_fz {w : World} {b o : Nat} {cur : Array Value} {tid : TypeId} {fz : Nat × Nat} (hg : w.heap[b]? = some (.cells cur tid fz)) (hz : fz = (0,0) ∨ cur.size ≤ fz.1) (ho : o < cur.size) : w.frozen? ⟨b,o,none⟩ = false := by
 obtain ⟨lo,hi⟩ := fz
 rcases hz with e | hz
 ·cases e; simp [World.frozen?,hg]
 ·simp only at hz
  simp only [World.frozen?,hg,Bool.and_eq_false_iff,decide_eq_false_iff_not]
  exact .inl (by omega)

theorem run_append_nil0 (t tx ty e : TypeId) (i : TypeInfo) (ht : P.underlying t = some (.slice e)) (hi : P.info? e = some i) (x : Value) (news : List Value) (hs : Src P i.size tx x 0 news w) :
  (Builtin.append_ #[t,tx] ty #[.slice none 0 0,x]).run P w = .ok (.slice none 0 0) w := by
 rcases hs.kind with ⟨e',hk⟩ | hk <;> simp [Builtin.append_,run_underlying ht,run_underlying hk,sizeOf,typeInfo,hi,hs.len,hs.cells]

structure Keeps (w w' : World) (fp : List Nat) : Prop where
 os : w'.os = w.os
 tape : w'.tape = w.tape
 output : w'.output = w.output
 size : w.heap.size ≤ w'.heap.size
 block : ∀ b,b < w.heap.size → b ∉ fp → w'.heap[b]? = w.heap[b]?

theorem run_append_ow {t tx ty e : TypeId} {zs : List Value} {by_ : Nat} [hm : TyMake P t e zs by_] {k : Nat} {es : List (List T)} {v : Value} {fp : List Nat} (h : OW w (.sl k es) v fp) (hkz : k = zs.length) (hz : 0 < zs.length) (hnd : fp.Nodup)
  (es' : List (List T)) (val' : Nat → Nat → Value) (fps' : List (List (List Nat))) (x : Value) (hk' : ∀ e ∈ es',e.length = k)
  (hsrc : Src P k tx x es'.length (flatV val' es'.length k) w)
  (hf' : fps'.length = es'.length) (hfk' : ∀ f ∈ fps',f.length = k)
  (hOW : ∀ (i j : Nat) (e : List T) (t : T) (fs : List (List Nat)) (f : List Nat),es'[i]? = some e → e[j]? = some t → fps'[i]? = some fs → fs[j]? = some f → OW w t (val' i j) f)
  (hnd' : fps'.flatten.flatten.Nodup) (hdis : ∀ b ∈ fp,b ∉ fps'.flatten.flatten)
  (hb : (es.length + es'.length) * by_ ≤ 140737488355328) (h63 : es.length + es'.length ≤ maxLen) :
  ∃ v' w' fp',(Builtin.append_ #[t,tx] ty #[v,x]).run P w = .ok v' w' ∧ OW w' (.sl k (es ++ es')) v' fp' ∧ fp'.Nodup ∧
   (∀ b ∈ fp',b ∈ fp ∨ b ∈ fps'.flatten.flatten ∨ w.heap.size ≤ b) ∧ Keeps w w' fp := by
 obtain ⟨i,hi,hzz⟩ := Option.map_eq_some_iff.1 hm.info
 simp only [Prod.mk.injEq] at hzz
 obtain ⟨hz1,hs,hb1⟩ := hzz
 obtain ⟨z,hz2,hz3⟩ := Option.map_eq_some_iff.1 hz1
 have hzc : z.cells.size = zs.length := by rw [← hz3]; simp
 have hsk : i.size = k := by rw [hs,hkz]
 have hsrc : Src P i.size tx x es'.length (flatV val' es'.length k) w := by rw [hsk]; exact hsrc
 have hkp : 0 < k := by rw [hkz]; exact hz
 have hltn : ∀ b ∈ fps'.flatten.flatten,b < w.heap.size := by
  intro b hb
  obtain ⟨f,hf1,hf2⟩ := List.mem_flatten.1 hb
  obtain ⟨fs,hs1,hs2⟩ := List.mem_flatten.1 hf1
  obtain ⟨q,hq⟩ := List.getElem?_of_mem hs1
  obtain ⟨j,hj⟩ := List.getElem?_of_mem hs2
  have h1 : q < es'.length := by rw [← hf']; exact Y7 hq
  have h2 : j < (es'[q]).length := by rw [hk' _ (List.getElem_mem h1),← hfk' _ hs1]; exact Y7 hj
  exact OW.lt (hOW q j _ _ _ _ (List.getElem?_eq_getElem h1) (List.getElem?_eq_getElem h2) hq hj) b hf2
 -- a new block
 have grown : ∀ (val : Nat → Nat → Value) (fps : List (List (List Nat))) (old : Nat),(∀ e ∈ es,e.length = k) → fps.length = es.length → (∀ f ∈ fps,f.length = k) →
   (∀ (i j : Nat) (e : List T) (t : T) (fs : List (List Nat)) (f : List Nat),es[i]? = some e → e[j]? = some t → fps[i]? = some fs → fs[j]? = some f → OW w t (val i j) f) → (∀ b ∈ fps.flatten.flatten,b < w.heap.size) →
   OW (w.drew.alloc (.cells ((flatV val es.length k ++ flatV val' es'.length k).toArray ++ Builtin.zeroCells z.cells (grownCap w (es.length + es'.length) old e - (es.length + es'.length))) e)) (.sl k (es ++ es'))
    (.slice (some ⟨w.heap.size,0,none⟩) (es.length + es'.length) (grownCap w (es.length + es'.length) old e)) (w.heap.size :: (fps ++ fps').flatten.flatten) := by
  intro val fps old g1 g2 g3 g4 g5
  have hge := grownCap_ge w (es.length + es'.length) old e
  have hfr : ∀ {t : T} {u : Value} {f : List Nat},OW w t u f → (∀ b ∈ f,b < w.heap.size) → OW (w.drew.alloc (.cells ((flatV val es.length k ++ flatV val' es'.length k).toArray ++ Builtin.zeroCells z.cells (grownCap w (es.length + es'.length) old e - (es.length + es'.length))) e)) t u f :=
   fun h hl => h.frame fun b hb => Below.heap_alloc w.drew _ b (hl b hb)
  refine OW.join (heap_alloc_new w.drew _) (.inl J) hge (grownCap_le_maxLen w _ old e h63) ?_ hkp g1 hk' g2 hf' g3 hfk' (fun i j hi hj => ?_) (fun i j hi hj => ?_) (fun i j e t fs f h1 h2 h3 h4 => hfr (g4 i j e t fs f h1 h2 h3 h4) fun b hb => g5 b (mem_ff h3 h4 hb))
   fun i j e t fs f h1 h2 h3 h4 => hfr (hOW i j e t fs f h1 h2 h3 h4) fun b hb => hltn b (mem_ff h3 h4 hb)
  ·simp only [Array.size_append,List.size_toArray,List.length_append,size_zeroCells,Y5,hzc,← hkz,← Nat.add_mul]
   rw [Nat.zero_add]
   exact Nat.le_of_eq (by congr 1; omega)
  ·have h1 := flatV_at (val := val) hi hj
   have h2 := Y7 h1
   rw [Nat.zero_add,Array.getElem?_append_left (by simp only [List.size_toArray,List.length_append]; omega)]
   simp only [List.getElem?_toArray]
   rw [List.getElem?_append_left h2]
   exact h1
  ·have h1 := flatV_at (val := val') hi hj
   have h2 := Y7 h1
   have h3 : (es.length + i) * k + j = es.length * k + (i * k + j) := by rw [Nat.add_mul]; omega
   rw [Nat.zero_add,h3,Array.getElem?_append_left (by simp only [List.size_toArray,List.length_append,Y5] at h2 ⊢; omega)]
   simp only [List.getElem?_toArray]
   rw [List.getElem?_append_right (by rw [Y5]; omega),Y5,Nat.add_sub_cancel_left]
   exact h1
 rcases h.open_ with ⟨rfl,rfl,rfl⟩ | ⟨b,o,c,tid,cur,fz,val,fps,rfl,rfl,hg,hzf,hc,hcm,hcs,hp,hk,hf,hfk,hv,ht⟩
 ·by_cases he' : es'.length = 0
  ·have he0 := List.eq_nil_of_length_eq_zero he'
   subst he0
   have hfe : fps' = [] := List.eq_nil_of_length_eq_zero (by simpa using hf')
   subst hfe
   exact ⟨_,w,[],run_append_nil0 t tx ty e i hm.slice hi x _ hsrc,by simpa using h,hnd,fun b hb => .inl hb,J,J,J,Nat.le_refl _,fun _ _ _ => rfl⟩
  ·have hr := run_append_grow_src (P := P) w t tx ty e i z hm.slice hi hz2 none 0 0 [] (by simp [Builtin.firstCells]) x es'.length _ hsrc (by omega) (by simp [maxLen] at h63; omega) (growslice_fits (by omega) (by rw [hb1]; simpa using hb))
   have hg := grown (fun _ _ => undef) [] 0 (by simp) rfl (by simp) (by simp) (by simp)
   have h0 : flatV (fun _ _ => undef) 0 k = [] := by simp [flatV]
   simp only [List.length_nil,Nat.zero_add,List.nil_append,h0] at hg hr
   refine ⟨_,_,w.heap.size :: fps'.flatten.flatten,hr,by simpa using hg,?_,?_,J,J,J,by simp,fun b hb _ => Below.heap_alloc w.drew _ b hb⟩
   ·refine List.nodup_cons.2 ⟨fun hh => ?_,hnd'⟩
    have := hltn _ hh
    omega
   ·intro b hb
    rcases List.mem_cons.1 hb with rfl | hb
    ·exact .inr (.inr (Nat.le_refl _))
    ·exact .inr (.inl hb)
 ·have hblt : b < w.heap.size := (Array.getElem?_eq_some_iff.1 hg).1
  have hndf := (List.nodup_cons.1 hnd)
  by_cases hroom : es.length + es'.length ≤ c
  ·have hmul : (es.length + es'.length) * k ≤ c * k := Nat.mul_le_mul_right _ hroom
   rw [Nat.add_mul] at hmul
   have hr := run_append_room_src (P := P) w t tx ty e i hm.slice hi b o es.length c x es'.length _ hsrc hroom (fun j hj => by
    rw [cell_of_row w b _ cur tid fz hg]
    rw [Y5] at hj
    rw [hsk]
    simp
    omega) (fun j hj => by
    rw [Y5] at hj
    rw [hsk]
    exact frozen_fz hg hzf (by omega))
   rw [hsk] at hr
   obtain ⟨cur',k1,k2,k3,k4⟩ := Y9 b tid fz (flatV val' es'.length k) (o + es.length * k) w cur hg (by rw [Y5]; omega)
   obtain ⟨s1,s2,s3,s4,s5⟩ := Kx w b (flatV val' es'.length k) (o + es.length * k)
   have hfr : ∀ {t : T} {u : Value} {f : List Nat},OW w t u f → b ∉ f → OW (w.setCells b (o + es.length * k) (flatV val' es'.length k)) t u f :=
    fun h hl => h.frame fun b' hb' => s5 b' fun e => hl (e ▸ hb')
   refine ⟨_,_,_,hr,OW.join k1 (by rw [k2]; exact hzf) hroom hcm (by rw [k2]; exact hcs) hp hk hk' hf hf' hfk hfk' (fun i j hi hj => ?_) (fun i j hi hj => ?_) (fun i j e t fs f h1 h2 h3 h4 => hfr (ht i j e t fs f h1 h2 h3 h4) fun hh => hndf.1 (mem_ff h3 h4 hh))
    (fun i j e t fs f h1 h2 h3 h4 => hfr (hOW i j e t fs f h1 h2 h3 h4) fun hh => hdis b (by simp) (mem_ff h3 h4 hh)),?_,?_,s1,s2,s3,by omega,fun b'' _ hb'' => s5 b'' fun e => hb'' (by simp [e])⟩
   ·have h1 := ij_lt hi hj
    rw [k4 _ (.inl (by omega))]
    exact hv i j hi hj
   ·have h1 := ij_lt hi hj
    have h3 : o + (es.length + i) * k + j = o + es.length * k + (i * k + j) := by rw [Nat.add_mul]; omega
    rw [h3,k3 _ (by rw [Y5]; exact h1)]
    exact flatV_at hi hj
   ·refine List.nodup_cons.2 ⟨fun hh => ?_,?_⟩
    ·rw [List.flatten_append,List.flatten_append] at hh
     rcases List.mem_append.1 hh with hh | hh
     ·exact hndf.1 hh
     ·exact hdis b (by simp) hh
    ·rw [List.flatten_append,List.flatten_append]
     exact List.nodup_append.2 ⟨hndf.2,hnd',fun x hx y hy e => hdis x (List.mem_cons_of_mem _ hx) (e ▸ hy)⟩
   ·intro x hx
    rcases List.mem_cons.1 hx with rfl | hx
    ·exact .inl (by simp)
    ·rw [List.flatten_append,List.flatten_append] at hx
     rcases List.mem_append.1 hx with hx | hx
     ·exact .inl (List.mem_cons_of_mem _ hx)
     ·exact .inr (.inl hx)
  ·have holds : ∀ j u,(flatV val es.length k)[j]? = some u → w.drew.cell? ((⟨b,o,none⟩ : Addr).add j) = some u := by
    intro j u hj
    obtain ⟨h1,h2,rfl,h3⟩ := flatV_get hj
    show w.cell? _ = _
    rw [add_lit,cell_of_row w b (o + j) cur tid fz hg,← hv _ _ h1 h2,Nat.add_assoc,h3]
   have hr := run_append_grow_src (P := P) w t tx ty e i z hm.slice hi hz2 (some ⟨b,o,none⟩) es.length c (flatV val es.length k) (run_firstCells_some w.drew i.size es.length ⟨b,o,none⟩ es.length c _ (by rw [Y5,hsk]) holds) x es'.length _ hsrc (by omega) (by simp [maxLen] at h63; omega) (growslice_fits (by omega) (by rw [hb1]; exact hb))
   have h5 : ∀ x ∈ fps.flatten.flatten,x < w.heap.size := by
    intro x hx
    exact h.lt x (List.mem_cons_of_mem _ hx)
   refine ⟨_,_,_,hr,grown val fps c hk hf hfk ht h5,?_,?_,J,J,J,by simp,fun b hb _ => Below.heap_alloc w.drew _ b hb⟩
   ·refine List.nodup_cons.2 ⟨fun hh => ?_,?_⟩
    ·rw [List.flatten_append,List.flatten_append] at hh
     rcases List.mem_append.1 hh with hh | hh
     ·have := h5 _ hh; omega
     ·have := hltn _ hh; omega
    ·rw [List.flatten_append,List.flatten_append]
     exact List.nodup_append.2 ⟨hndf.2,hnd',fun x hx y hy e => hdis x (List.mem_cons_of_mem _ hx) (e ▸ hy)⟩
   ·intro x hx
    rcases List.mem_cons.1 hx with rfl | hx
    ·exact .inr (.inr (Nat.le_refl _))
    ·rw [List.flatten_append,List.flatten_append] at hx
     rcases List.mem_append.1 hx with hx | hx
     ·exact .inl (List.mem_cons_of_mem _ hx)
     ·exact .inr (.inl hx)

theorem src_slice {t e : TypeId} {zs : List Value} {by_ : Nat} [hm : TyMake P t e zs by_] {k : Nat} (es' : List (List T)) (val' : Nat → Nat → Value) (A : Option Addr) (c' : Nat)
  (hA : es' ≠ [] → ∃ b' o',A = some ⟨b',o',none⟩ ∧ ∀ i j,i < es'.length → j < k → w.cell? ⟨b',o' + i * k + j,none⟩ = some (val' i j))
  (hOne : ∀ i j,i < es'.length → j < k → (val' i j).oneCell' = true) : Src P k t (.slice A es'.length c') es'.length (flatV val' es'.length k) w := by
 have hone : ∀ u ∈ flatV val' es'.length k,u.oneCell' = true := by
  intro u hu
  obtain ⟨q,hq⟩ := List.getElem?_of_mem hu
  obtain ⟨h1,h2,rfl,_⟩ := flatV_get hq
  exact hOne _ _ h1 h2
 by_cases he : es' = []
 ·subst he
  have h0 : flatV val' 0 k = [] := by simp [flatV]
  simp only [List.length_nil,h0]
  cases A with
  | none => exact .ofNil w hm.slice c'
  | some a => exact .ofSlice w hm.slice a 0 c' [] (by simp) (fun j u h => by simp at h) (fun u h => by simp at h)
 ·obtain ⟨b',o',rfl,hc⟩ := hA he
  refine .ofSlice w hm.slice _ _ c' _ (Y5 _ _ _) (fun j u hj => ?_) hone
  obtain ⟨h1,h2,rfl,h3⟩ := flatV_get hj
  rw [add_lit,← hc _ _ h1 h2,Nat.add_assoc,h3]
end
end
section
open Go.RowKit

def V1.known : V1 → Bool
 | .un => false
 | _ => true
theorem V1.known_ne {x : V1} (h : x.known = true) : x ≠ .un := by cases x <;> simp [V1.known] at h ⊢
def zV (v : Value) : V1 := .rd [] (.v v)

section
variable {P : Program} {E : Env} {ops : Array Oper} {o : Oper} {st : St} {n : Nat} {rest : List Oper} {QQ : Exit → St → Prop} {w w' : World} {H H' : Hs} {F : Nat → Prop} {a : Act}

theorem Ok.add (h : Ok w H F) (hb : Below w.heap.size w w') {p : Nat} (hp : H p = .nil) (q : Pc) (hs : q.says w') (hn : q.fp.Nodup) (hng : q.ng) (hf : ∀ b ∈ q.fp,w.heap.size ≤ b) : Ok w' (H.put p q) F ∧ Grow w H F w' (H.put p q) F := by
 have hne : ∀ r,r ≠ p → H.put p q r = H r := fun r hr => Hs.put_ne H q hr
 refine ⟨⟨fun r => ?_,fun r => ?_,fun r s b h1 h2 => ?_,fun r b h1 h2 => ?_,fun b hb' => Nat.lt_of_lt_of_le (h.flt b hb') hb.size⟩,hb,fun r hr => hne r fun e => hr (e ▸ hp),fun _ h => h,fun _ h => .inl h,fun r hr b hb' => ?_,fun r i v hr => ?_⟩
 ·by_cases e : r = p
  ·subst e; rw [Hs.put_self]; exact hs
  ·rw [hne r e]; exact Pc.frame (fun b hb' => hb.block b (h.lt hb')) (h.says r)
 ·by_cases e : r = p
  ·subst e; rw [Hs.put_self]; exact hn
  ·rw [hne r e]; exact h.nodup r
 ·by_cases e : r = p
  ·by_cases e' : s = p
   ·rw [e,e']
   ·rw [e,Hs.put_self] at h1
    rw [hne s e'] at h2
    have := hf b h1
    have := h.lt h2
    omega
  ·rw [hne r e] at h1
   by_cases e' : s = p
   ·rw [e',Hs.put_self] at h2
    have := hf b h2
    have := h.lt h1
    omega
   ·rw [hne s e'] at h2
    exact h.disj r s b h1 h2
 ·by_cases e : r = p
  ·rw [e,Hs.put_self] at h1
   have := hf b h1
   have := h.flt b h2
   omega
  ·rw [hne r e] at h1
   exact h.free r b h1 h2
 ·by_cases e : r = p
  ·rw [e,Hs.put_self] at hb'; exact hf b hb'
  ·rw [hne r e,hr] at hb'
   simp [Pc.fp] at hb'
 ·by_cases e : r = p
  ·rw [e,Hs.put_self] at hr
   rw [hr] at hng
   exact hng.elim
  ·exact ⟨r,by rw [← hne r e]; exact hr⟩

theorem Qt.new {x : V} {ob : Ob} (hg : o.guard = none) (h : ∀ a w H F,R0 w H F st a → H n = .nil → ∃ v w' q,(execOp a.eval o).run P w = .ok (.value v) w' ∧ Below w.heap.size w w' ∧ q.says w' ∧ (q.fp.Nodup ∧ q.ng) ∧ (∀ b ∈ q.fp,w.heap.size ≤ b) ∧
  (∀ H',Grow w H F w' H' F → H' n = q → RB w' H' F n ob ∧ RV w' H' F x v)) : Qt P ops o st x [ob] n := by
 refine ⟨fun a w H F Q K hr hfree hK => ?_⟩
 have hn : H n = .nil := by simpa using hfree 0 (by simp)
 obtain ⟨v,w',q,h1,h2,h3,h4,h5,h6⟩ := h a w H F hr hn
 obtain ⟨hok,hgr⟩ := hr.ok.add h2 hn q h3 h4.1 h4.2 h5
 obtain ⟨h7,h8⟩ := h6 _ hgr (Hs.put_self H n q)
 rw [if_pos (by unfold Region.wanted; rw [hg])]
 unfold Oper.wp
 rw [h1]
 refine hK v w' _ F hgr hok (fun i ob' hi => ?_) (fun p hp hh => ?_) h8
 ·cases i with
  | zero => simp at hi; subst hi; exact h7
  | succ i => simp at hi
 ·rw [Hs.put_ne H q (by simp only [List.length_cons,List.length_nil] at hh; omega),hp]

section
variable {y z : Operand} {t t' : TypeId} {k : IntKind} {i j : Int} {ps qs : List Nat}

theorem Qq {xs : List V1} (ho : o.op = .box t y) (hg : o.guard = none) (hy : st.ev y = .o (.ag xs)) (hk : xs.all V1.known = true) : Qt P ops o st (.o (.c (.ptr n 0))) [.box xs] n :=
 .new hg fun a w H F hr hn => by
  have h1 := hr.ev y
  rw [hy] at h1
  obtain ⟨us,e,hl,hc⟩ := h1
  refine ⟨.pointer (some ⟨w.heap.size,0,none⟩),w.alloc (.cells us.toArray t),.box w.heap.size t us,?_,(Below.refl _ _).alloc (Nat.le_refl _) _,heap_alloc_new w _,by simp [Pc.fp,Pc.ng],fun b hb => by simp [Pc.fp] at hb; omega,fun H' hgr hq => ⟨⟨_,_,_,hq,hl,fun i c u hi hu => ⟨hgr.r1 (hc i c u hi hu),?_⟩⟩,_,_,_,hq,J⟩⟩
  ·unfold execOp
   simp only [ho,e]
   rfl
  ·exact R1.one (V1.known_ne (List.all_eq_true.1 hk c (Y8 hi))) hr.ok (hc i c u hi hu)
theorem Gf {xs : List V1} (h0_ : (o.op, o.guard, st.ev y, xs.all V1.known) = (.box t y, none, .o (.ag xs), true)) : Qt P ops o st (.o (.c (.ptr n 0))) [.box xs] n := by
 simp only [Prod.mk.injEq] at h0_
 exact Qq h0_.1 h0_.2.1 h0_.2.2.1 h0_.2.2.2
theorem Qx {zs : List Value} [hz : TyZero P t zs] (ho : o.op = .alloc t) (hg : o.guard = none) (h1 : zs.all (·.oneCell') = true) : Qt P ops o st (.o (.c (.ptr n 0))) [.box (zs.map zV)] n :=
 .new hg fun a w H F hr hn => by
  obtain ⟨zv,hzv,hzc⟩ := run_zeroValue (P := P) (w := w) t (zs := zs)
  refine ⟨.pointer (some ⟨w.heap.size,0,none⟩),w.alloc (.cells zs.toArray t),.box w.heap.size t zs,?_,(Below.refl _ _).alloc (Nat.le_refl _) _,heap_alloc_new w _,by simp [Pc.fp,Pc.ng],fun b hb => by simp [Pc.fp] at hb; omega,fun H' hgr hq => ⟨⟨_,_,_,hq,by simp,fun i c u hi hu => ?_⟩,_,_,_,hq,J⟩⟩
  ·unfold execOp
   simp only [ho,Instr.alloc,Sem.run_bind,hzv,Result.andThen_ok,newVar,newRow,hzc]
   rfl
  ·rw [List.getElem?_map] at hi
   obtain ⟨z,h2,rfl⟩ := Option.map_eq_some_iff.1 hi
   rw [h2] at hu
   simp only [Option.some.injEq] at hu
   subst hu
   have h3 := List.all_eq_true.1 h1 z (Y8 h2)
   exact ⟨RO.v _ h3,h3⟩

theorem Gh {zs : List Value} [hz : TyZero P t zs] (h0_ : (o.op, o.guard) = (.alloc t, none)) (h1 : zs.all (·.oneCell') = true) : Qt P ops o st (.o (.c (.ptr n 0))) [.box (zs.map zV)] n := by
 simp only [Prod.mk.injEq] at h0_
 exact Qx h0_.1 h0_.2 h1
def zT (k : Nat) : Value → T
 | .slice none 0 0 => .sl k []
 | v => .v v
theorem ow_zT {w : World} {k : Nat} {v : Value} (h : v.oneCell' = true) : OW w (zT k v) v [] := by
 unfold zT
 split
 ·exact .nil k
 ·exact .v _ h
theorem q_makec {e : TypeId} {zs : List Value} {by_ : Nat} [hm : TyMake P t e zs by_] {k' : IntKind} (kk : Nat) (ho : o.op = .makeSlice t y z) (hg : o.guard = none) (hy : st.ev y = .o (.c (.rd ps (.v (.int k i))))) (hz : st.ev z = .o (.c (.rd qs (.v (.int k' j)))))
  (h0 : 0 ≤ i) (hij : i ≤ j) (hb : (by_ : Int) * j ≤ 281474976710656) (h63 : j ≤ 9223372036854775807) (h1 : zs.all (·.oneCell') = true) (hz0 : zs ≠ []) : Qt P ops o st (.o (.c (.ref n))) [.row zs.length (List.replicate i.toNat (zs.map (zT kk)))] n :=
 .new hg fun a w H F hr hn => by
  obtain ⟨inf,hi,hzz⟩ := Option.map_eq_some_iff.1 hm.info
  simp only [Prod.mk.injEq] at hzz
  obtain ⟨hz1,hs,hb1⟩ := hzz
  obtain ⟨zv,hz2,hz3⟩ := Option.map_eq_some_iff.1 hz1
  have hr' := run_make (P := P) w t e inf zv hm.slice hi hz2 k k' i j h0 hij (by rw [hb1]; exact hb) h63
  have hzp : 0 < zs.length := List.length_pos_iff.2 hz0
  have hzc : zv.cells.size = zs.length := by rw [← hz3]; simp
  have hlen : (List.replicate i.toNat (zs.map (zT kk))).length = i.toNat := by simp
  have hnt : i.toNat ≤ j.toNat := by omega
  have hnm : i.toNat * zs.length ≤ j.toNat * zs.length := Nat.mul_le_mul_right _ hnt
  refine ⟨.slice (some ⟨w.heap.size,0,none⟩) i.toNat j.toNat,w.alloc (.cells (madeCells zv.cells (j.toNat * inf.size)) e),.ow (.sl zs.length (List.replicate i.toNat (zs.map (zT kk)))) (.slice (some ⟨w.heap.size,0,none⟩) i.toNat j.toNat) (w.heap.size :: (List.replicate i.toNat (List.replicate zs.length [])).flatten.flatten),?_,(Below.refl _ _).alloc (Nat.le_refl _) _,?_,?_,?_,fun H' hgr hq => ⟨⟨_,_,hq⟩,_,_,hq⟩⟩
  ·unfold execOp
   simp only [ho,hr.plain hy,hr.plain hz,Sem.run_bind,hr',Result.andThen_ok]
   rfl
  ·have := OW.sl (w := w.alloc (.cells (madeCells zv.cells (j.toNat * inf.size)) e)) (List.replicate i.toNat (zs.map (zT kk))) w.heap.size 0 zs.length j.toNat e (madeCells zv.cells (j.toNat * inf.size)) (0,0) (fun _ j => zs.getD j undef) (List.replicate i.toNat (List.replicate zs.length [])) (heap_alloc_new w _) (.inl rfl)
    (by simp; omega) (by simp [maxLen]; omega) (by rw [size_madeCells,hs]; omega) hzp (fun e he => by rw [(List.mem_replicate.1 he).2]; simp) (by simp) (fun f hf => by rw [(List.mem_replicate.1 hf).2]; simp) (fun p q hp hq => ?_) (fun p q e' t fs f h3 h4 h5 h6 => ?_)
   ·rw [hlen] at this; exact this
   ·rw [hlen] at hp
    have h3 : p * zs.length + q < j.toNat * zs.length := Nat.lt_of_lt_of_le (ij_lt hp hq) hnm
    have h4 := ij_div (i := p) hq
    have h5 : zv.cells[q]? = zs[q]? := by rw [← hz3]; simp
    simp only [madeCells,Nat.zero_add,hs,hzc]
    rw [Array.getElem?_map,Array.getElem?_range,if_pos h3]
    simp only [Option.map_some,h4.2,List.getD_eq_getElem?_getD,List.getElem?_eq_getElem hq,Option.getD_some]
    rw [List.getElem?_eq_getElem hq] at h5
    exact congrArg some (by rw [getElem!_def,h5])
   ·rw [(List.mem_replicate.1 (Y8 h3)).2] at h4
    rw [(List.mem_replicate.1 (Y8 h5)).2] at h6
    rw [List.getElem?_map] at h4
    obtain ⟨u,h7,rfl⟩ := Option.map_eq_some_iff.1 h4
    have h8 := (List.mem_replicate.1 (Y8 h6)).2
    subst h8
    rw [Y6 h7]
    exact ow_zT (List.all_eq_true.1 h1 u (Y8 h7))
  ·have : (List.replicate i.toNat (List.replicate zs.length ([] : List Nat))).flatten.flatten = [] := by simp
   refine ⟨?_,trivial⟩
   show (w.heap.size :: _).Nodup
   rw [this]
   simp
  ·intro b hb
   have : (List.replicate i.toNat (List.replicate zs.length ([] : List Nat))).flatten.flatten = [] := by simp
   simp only [Pc.fp,this,List.mem_singleton] at hb
   omega
theorem q_make {e : TypeId} {zs : List Value} {by_ : Nat} [hm : TyMake P t e zs by_] {k' : IntKind} (kk : Nat) (ho : o.op = .makeSlice t y z) (hg : o.guard = none) (hy : st.ev y = .o (.c (.rd ps (.v (.int k i))))) (hz : st.ev z = .o (.c (.rd qs (.v (.int k' i)))))
  (h0 : 0 ≤ i) (hb : (by_ : Int) * i ≤ 281474976710656) (h63 : i ≤ 9223372036854775807) (h1 : zs.all (·.oneCell') = true) (hz0 : zs ≠ []) : Qt P ops o st (.o (.c (.ref n))) [.row zs.length (List.replicate i.toNat (zs.map (zT kk)))] n :=
 q_makec kk ho hg hy hz h0 (Int.le_refl _) hb h63 h1 hz0
end

/-! ### Calls -/
class FunOk (P : Program) (f : FuncId) : Prop where
 ok : (P.funcs[f]?).map (fun fn => !(fn.name == "runtime.NumGoroutine") && fn.body.isSome) = some true
theorem run_callFunc {f : FuncId} [hf : FunOk P f] (args : Array Value) : (callFunc f args).run P w = .ok (.enter f args) w := by
 obtain ⟨fn,h1,h2⟩ := Option.map_eq_some_iff.1 hf.ok
 simp only [Bool.and_eq_true,Bool.not_eq_true'] at h2
 obtain ⟨h3,h4⟩ := h2
 obtain ⟨c,h5⟩ := Option.isSome_iff_exists.1 h4
 have h6 : ¬ fn.name = "runtime.NumGoroutine" := by simpa using h3
 simp [callFunc,h1,h6,h5]

def sbE : List V1 → Option (List (List T))
 | [] => some []
 | .rd _ (.v u) :: r => match sbE r with
  | some es => some ([.v u] :: es)
  | none => none
 | _ => none
theorem sbE_ok : ∀ (cs : List V1) (es : List (List T)),sbE cs = some es → es.length = cs.length ∧ ∀ (i : Nat) (e : List T),es[i]? = some e → ∃ ps u,cs[i]? = some (.rd ps (.v u)) ∧ e = [.v u]
 | [],es,h => by simp [sbE] at h; subst h; exact ⟨rfl,fun i e hi => by simp at hi⟩
 | c :: cs,es,h => by
  unfold sbE at h
  split at h
  ·rename_i e; cases e
  ·rename_i ps u r e
   simp only [List.cons.injEq] at e
   obtain ⟨rfl,rfl⟩ := e
   split at h
   ·rename_i es' h1
    simp only [Option.some.injEq] at h
    subst h
    obtain ⟨h2,h3⟩ := sbE_ok cs es' h1
    refine ⟨by simp [h2],fun i e hi => ?_⟩
    cases i with
    | zero => simp at hi; exact ⟨ps,u,rfl,hi.symm⟩
    | succ i => exact h3 i e (by simpa using hi)
   ·cases h
  ·cases h
def lend (objs : List Ob) : V1 → V1
 | .rd _ x => .rd [] x
 | .ref p => match objs.getD p .gone with
  | .row k es => .rd [] (.sl k es)
  | _ => .un
 | .sb p _ 1 => match objs.getD p .gone with
  | .box cs => match sbE cs with
   | some es => .rd [] (.sl 1 es)
   | none => .un
  | _ => .un
 | _ => .un
def lend2 (objs : List Ob) : V → V2
 | .o (.c x) => .c (lend objs x)
 | .o (.ag xs) => .ag (xs.map (lend objs))
 | .tu _ => .c .un
 | .iff _ _ => .c .un
def V1.closed : V1 → Bool
 | .rd _ (.sl _ _) => false
 | .rp _ _ => false
 | .un => true
 | _ => true
def V2.closed : V2 → Bool
 | .c x => x.closed
 | .ag xs => xs.all V1.closed
def V.closed : V → Bool
 | .o x => x.closed
 | .tu xs => xs.all V2.closed
 | .iff _ x => x.closed
def Ob.closed : Ob → Bool
 | .box cs => cs.all V1.closed
 | .gh _ _ => false
 | .shr _ => false
 | _ => true

def sub (H H1 : Hs) (n m : Nat) : Hs := fun p => if n ≤ p ∧ p < n + m then H1 (p - n) else H p

theorem lend_ok {H1 : Hs} (h : R0 w H F st a) {x : V1} {v : Value} (hx : R1 w H F x v) : R1 w H1 (fun b => b < w.heap.size) (lend st.objs x) v := by
 cases x with
 | rd ps x => exact RO.weak hx fun b _ hb => .inl hb
 | ref p =>
  have h1 := h.obs p
  simp only [lend]
  cases ho : st.objs.getD p .gone with
  | row k es =>
   rw [ho] at h1
   obtain ⟨u,fp,e⟩ := h1
   obtain ⟨x,fp',e'⟩ := hx
   have h2 := h.ok.says p
   rw [e] at h2 e'
   simp only [Pc.ow.injEq] at e'
   obtain ⟨_,rfl,_⟩ := e'
   exact RO.weak (OW.ro h2) fun b _ hb => .inl hb
  | gone => trivial
  | hole => trivial
  | box cs => trivial
  | gh i x => trivial
  | shr es => trivial
 | ptr => trivial
 | sb p n' k =>
  unfold lend
  split
  ·rename_i e; cases e
  ·rename_i e; cases e
  ·rename_i p' n'' e
   simp only [V1.sb.injEq] at e
   obtain ⟨rfl,rfl,rfl⟩ := e
   split
   ·rename_i cs ho
    split
    ·rename_i es hs
     obtain ⟨g,t,vs,e1,e2,e3,rfl⟩ := hx
     have h1 := h.obs p
     rw [ho] at h1
     obtain ⟨g',t',vs',e4,hl,hr⟩ := h1
     rw [e1] at e4
     simp only [Pc.box.injEq] at e4
     obtain ⟨rfl,rfl,rfl⟩ := e4
     have hsay := h.ok.says p
     rw [e1] at hsay
     obtain ⟨k1,k2⟩ := sbE_ok _ _ hs
     have hlen : es.length = n' := by rw [k1,← hl,e2,Nat.mul_one]
     rw [← hlen]
     refine .sl es g 0 1 es.length (fun i _ => vs.getD i undef) (.inl ?_) (Nat.le_refl _) (by rw [hlen]; exact e3) (by omega) (fun e he => ?_) (fun i j hi hj => ?_) fun i j e t' hi hj => ?_
     ·exact (Array.getElem?_eq_some_iff.1 hsay).1
     ·obtain ⟨i,hi⟩ := List.getElem?_of_mem he
      obtain ⟨_,_,_,k4⟩ := k2 i e hi
      rw [k4]; rfl
     ·have hj0 : j = 0 := by omega
      subst hj0
      have hlt : i < vs.length := by rw [hl,← k1]; exact hi
      rw [cell_of_row w g _ vs.toArray t (0,0) hsay]
      simp [List.getD_eq_getElem?_getD,hlt]
     ·obtain ⟨ps,u,k3,k4⟩ := k2 i e hi
      subst k4
      cases j with
      | succ j => simp at hj
      | zero =>
       simp only [List.getElem?_cons_zero,Option.some.injEq] at hj
       subst hj
       have hlt : i < vs.length := by rw [hl]; exact Y7 k3
       obtain ⟨k5,k6⟩ := hr i _ _ k3 (List.getElem?_eq_getElem hlt)
       obtain ⟨k7,_⟩ := RO.plain k5
       rw [Y6 (List.getElem?_eq_getElem hlt)]
       rw [k7] at k6 ⊢
       exact .v u k6
    ·trivial
   ·trivial
  ·trivial
 | el => trivial
 | rp => trivial
 | le => trivial
 | hd => trivial
 | tl => trivial
 | un => trivial
theorem lend2_ok {H1 : Hs} (h : R0 w H F st a) {x : V} {v : Value} (hx : RV w H F x v) : R2 w H1 (fun b => b < w.heap.size) (lend2 st.objs x) v := by
 cases x with
 | o x => cases x with
  | c x => exact lend_ok h hx
  | ag xs =>
   obtain ⟨us,e,hl,hc⟩ := hx
   refine ⟨us,e,by simpa using hl,fun i x u hi hu => ?_⟩
   rw [List.getElem?_map] at hi
   obtain ⟨c,h1,rfl⟩ := Option.map_eq_some_iff.1 hi
   exact lend_ok h (hc i c u h1 hu)
 | tu => trivial
 | iff => trivial

section
variable {H1 : Hs} {F1 : Nat → Prop} {m : Nat}
theorem sub_in {q : Nat} (hq : q < m) : sub H H1 n m (n + q) = H1 q := by
 unfold sub
 rw [if_pos (by omega)]
 congr 1
 omega
theorem plant1 (hm : ∀ q,m ≤ q → H1 q = .nil) {x : V1} {v : Value} (hc : x.closed = true) (hx : R1 w H1 F1 x v) : R1 w (sub H H1 n m) F (x.ren (n + ·)) v := by
 have hlt : ∀ q,H1 q ≠ .nil → q < m := fun q hq => (Nat.lt_or_ge q m).resolve_right fun h => hq (hm q h)
 cases x with
 | rd ps x =>
  cases x with
  | v x => obtain ⟨rfl,h⟩ := RO.plain hx; exact RO.v _ h
  | sl k es => simp [V1.closed] at hc
  | un => exact RO.un _ (RO.one hx)
 | ref q => obtain ⟨x,fp,e⟩ := hx; exact ⟨x,fp,by rw [sub_in (hlt q (by rw [e]; simp)),e]⟩
 | ptr q i => obtain ⟨g,t,vs,e,hv⟩ := hx; exact ⟨g,t,vs,by rw [sub_in (hlt q (by rw [e]; simp)),e],hv⟩
 | sb q i j => obtain ⟨g,t,vs,e,hv⟩ := hx; exact ⟨g,t,vs,by rw [sub_in (hlt q (by rw [e]; simp)),e],hv⟩
 | el q k i j => obtain ⟨b,o,n',c,x,fp,e,hv⟩ := hx; exact ⟨b,o,n',c,x,fp,by rw [sub_in (hlt q (by rw [e]; simp)),e],hv⟩
 | rp => simp [V1.closed] at hc
 | le q k i j => obtain ⟨b,o,n',c,x,fp,e,hv⟩ := hx; exact ⟨b,o,n',c,x,fp,by rw [sub_in (hlt q (by rw [e]; simp)),e],hv⟩
 | hd q i => obtain ⟨A,m',c,x,fp,e,hv⟩ := hx; exact ⟨A,m',c,x,fp,by rw [sub_in (hlt q (by rw [e]; simp)),e],hv⟩
 | tl q k i => obtain ⟨A,A',m',c,x,fp,e,hv⟩ := hx; exact ⟨A,A',m',c,x,fp,by rw [sub_in (hlt q (by rw [e]; simp)),e],hv⟩
 | un => trivial
theorem plant2 (hm : ∀ q,m ≤ q → H1 q = .nil) {x : V2} {v : Value} (hc : x.closed = true) (hx : R2 w H1 F1 x v) : R2 w (sub H H1 n m) F (x.ren (n + ·)) v := by
 cases x with
 | c x => exact plant1 hm hc hx
 | ag xs =>
  obtain ⟨us,e,hl,hr⟩ := hx
  refine ⟨us,e,by simpa using hl,fun i x u hi hu => ?_⟩
  rw [List.getElem?_map] at hi
  obtain ⟨c,h1,rfl⟩ := Option.map_eq_some_iff.1 hi
  exact plant1 hm (List.all_eq_true.1 hc c (Y8 h1)) (hr i c u h1 hu)
theorem plantV (hm : ∀ q,m ≤ q → H1 q = .nil) {x : V} {v : Value} (hc : x.closed = true) (hx : RV w H1 F1 x v) : RV w (sub H H1 n m) F (x.ren (n + ·)) v := by
 cases x with
 | o x => exact plant2 hm hc hx
 | tu xs =>
  obtain ⟨us,e,hl,hr⟩ := hx
  refine ⟨us,e,by simpa using hl,fun i x u hi hu => ?_⟩
  rw [List.getElem?_map] at hi
  obtain ⟨c,h1,rfl⟩ := Option.map_eq_some_iff.1 hi
  exact plant2 hm (List.all_eq_true.1 hc c (Y8 h1)) (hr i c u h1 hu)
 | iff cs x => exact ⟨fun h => plant2 hm hc (hx.1 h),hx.2⟩
theorem plantB (hm : ∀ q,m ≤ q → H1 q = .nil) {ob : Ob} {q : Nat} (hq : q < m) (hc : ob.closed = true) (hx : RB w H1 F1 q ob) : RB w (sub H H1 n m) F (n + q) (ob.ren (n + ·)) := by
 cases ob with
 | gone => exact (sub_in hq).trans hx
 | hole => trivial
 | box cs =>
  obtain ⟨g,t,vs,e,hl,hr⟩ := hx
  refine ⟨g,t,vs,(sub_in hq).trans e,by simpa using hl,fun i c u hi hu => ?_⟩
  rw [List.getElem?_map] at hi
  obtain ⟨c',h1,rfl⟩ := Option.map_eq_some_iff.1 hi
  exact ⟨plant1 hm (List.all_eq_true.1 hc c' (Y8 h1)) (hr i c' u h1 hu).1,(hr i c' u h1 hu).2⟩
 | row k es => obtain ⟨v,fp,e⟩ := hx; exact ⟨v,fp,(sub_in hq).trans e⟩
 | gh i x => simp [Ob.closed] at hc
 | shr es => simp [Ob.closed] at hc
end

theorem call_at {f : FuncId} [hf : FunOk P f] {ass : Array Operand} {ts : Array TypeId} {args : List V2} {objs' : List Ob} {res : V} {a : Act} {w : World} {H : Hs} {F : Nat → Prop} {Q : Exit → Act → World → Prop} {K : Act → World → Prop} (ho : o.op = .call { callee := .value (.func f),args := ass,argTypes := ts }) (hg : o.guard = none)
  (hc : ConAt P f [] args objs' res w) (ha : ass.toList.map (fun y => lend2 st.objs (st.ev y)) = args) (hcl : res.closed = true) (hob : objs'.all Ob.closed = true) (hr : R0 w H F st a) (hfree : ∀ i,i < (objs'.map (Ob.ren (n + ·))).length → H (n + i) = .nil)
  (hK : ∀ v w' H' F',Grow w H F w' H' F' → Ok w' H' F' → (∀ i ob,(objs'.map (Ob.ren (n + ·)))[i]? = some ob → RB w' H' F' (n + i) ob) → (∀ p,H p = .nil → (p < n ∨ n + (objs'.map (Ob.ren (n + ·))).length ≤ p) → H' p = .nil) → RV w' H' F' (res.ren (n + ·)) v → K (a.put o.dst v) w') :
  if Region.wanted o (yielded ops a.tmps) = true then o.wp P a w K Q else K (a.put o.dst undef) w := by
 rw [if_pos (by unfold Region.wanted; rw [hg])]
 have hrun : (execOp a.eval o).run P w = .ok (.enter f (ass.toList.map a.eval).toArray) w := by
  unfold execOp
  simp only [ho,resolve,Act.eval,Deferred.ofValue,Sem.run_bind,Sem.run_pure,Result.andThen_ok,invoke]
  rw [show (#[] ++ ass.map a.eval ++ #[]) = (ass.toList.map a.eval).toArray by
   apply Array.ext'
   simp]
  exact run_callFunc _
 unfold Oper.wp
 rw [hrun]
 have hok1 : Ok w (fun _ => Pc.nil) (fun b => b < w.heap.size) := ⟨fun _ => trivial,fun _ => by simp [Pc.fp],fun p q b h => by simp [Pc.fp] at h,fun p b h => by simp [Pc.fp] at h,fun _ h => h⟩
 refine (hc (fun _ => .nil) (fun b => b < w.heap.size) (ass.toList.map a.eval) hok1 (fun p => by simp [RB]) (by rw [← ha]; simp) fun i x v hx hv => ?_).mono ?_
 ·rw [← ha,List.getElem?_map] at hx
  obtain ⟨y,h1,rfl⟩ := Option.map_eq_some_iff.1 hx
  rw [List.getElem?_map,h1] at hv
  simp only [Option.map_some,Option.some.injEq] at hv
  subst hv
  exact lend2_ok hr (hr.ev y)
 ·rintro e w' ⟨H1,F1,rv,rfl,hsi,hok,hobs,hres⟩
  have hbel : Below w.heap.size w w' := ⟨hsi.os,hsi.tape,hsi.output,hsi.size,fun b hb => hsi.keep b hb fun p => by simp [Pc.fp]⟩
  have hnew : ∀ q b,b ∈ (H1 q).fp → w.heap.size ≤ b := fun q b hb => by
   rcases hsi.org q b hb with ⟨q',h⟩ | h
   ·simp [Pc.fp] at h
   ·exact h
  have hm : ∀ q,objs'.length ≤ q → H1 q = .nil := fun q hq => by
   have := hobs q
   simpa [List.getD_eq_getElem?_getD,hq,RB] using this
  have hst : ∀ p,(n ≤ p ∧ p < n + objs'.length) → H p = .nil := fun p hp => by
   have := hfree (p - n) (by simp; omega)
   rwa [show n + (p - n) = p by omega] at this
  have hcase : ∀ p,(n ≤ p ∧ p < n + objs'.length) ∧ sub H H1 n objs'.length p = H1 (p - n) ∨ ¬ (n ≤ p ∧ p < n + objs'.length) ∧ sub H H1 n objs'.length p = H p := fun p => by
   unfold sub
   by_cases h : n ≤ p ∧ p < n + objs'.length
   ·rw [if_pos h]; exact .inl ⟨h,rfl⟩
   ·rw [if_neg h]; exact .inr ⟨h,rfl⟩
  refine hK rv w' (sub H H1 n objs'.length) F ⟨hbel,fun p hp => ?_,fun _ h => h,fun _ h => .inl h,fun p hp b hb => ?_,fun p i v hp => ?_⟩ ⟨fun p => ?_,fun p => ?_,fun p q b h1 h2 => ?_,fun p b h1 h2 => ?_,fun b hb => Nat.lt_of_lt_of_le (hr.ok.flt b hb) hsi.size⟩ (fun i ob hi => ?_) (fun p hp hh => ?_) (plantV hm hcl hres)
  ·rcases hcase p with ⟨h,e⟩ | ⟨h,e⟩
   ·exact absurd (hst p h) hp
   ·exact e
  ·rcases hcase p with ⟨h,e⟩ | ⟨h,e⟩
   ·rw [e] at hb; exact hnew _ b hb
   ·rw [e,hp] at hb; simp [Pc.fp] at hb
  ·rcases hcase p with ⟨h,e⟩ | ⟨h,e⟩
   ·obtain ⟨q,hq⟩ := hsi.gh _ i v (e ▸ hp); cases hq
   ·exact ⟨p,e ▸ hp⟩
  ·rcases hcase p with ⟨h,e⟩ | ⟨h,e⟩
   ·rw [e]; exact hok.says _
   ·rw [e]; exact Pc.frame (fun b hb => hbel.block b (hr.ok.lt hb)) (hr.ok.says p)
  ·rcases hcase p with ⟨h,e⟩ | ⟨h,e⟩
   ·rw [e]; exact hok.nodup _
   ·rw [e]; exact hr.ok.nodup p
  ·rcases hcase p with ⟨h,e⟩ | ⟨h,e⟩ <;> rcases hcase q with ⟨h',e'⟩ | ⟨h',e'⟩ <;> rw [e] at h1 <;> rw [e'] at h2
   ·have := hok.disj _ _ b h1 h2; omega
   ·have := hnew _ b h1; have := hr.ok.lt h2; omega
   ·have := hnew _ b h2; have := hr.ok.lt h1; omega
   ·exact hr.ok.disj p q b h1 h2
  ·rcases hcase p with ⟨h,e⟩ | ⟨h,e⟩ <;> rw [e] at h1
   ·have := hnew _ b h1; have := hr.ok.flt b h2; omega
   ·exact hr.ok.free p b h1 h2
  ·rw [List.getElem?_map] at hi
   obtain ⟨ob',h1,rfl⟩ := Option.map_eq_some_iff.1 hi
   have h2 := hobs i
   rw [Y6 h1] at h2
   exact plantB hm (Y7 h1) (List.all_eq_true.1 hob ob' (Y8 h1)) h2
  ·rcases hcase p with ⟨h,e⟩ | ⟨h,e⟩
   ·simp only [List.length_map] at hh; omega
   ·rw [e,hp]
theorem Z3 {f : FuncId} [hf : FunOk P f] {ass : Array Operand} {ts : Array TypeId} {args : List V2} {objs' : List Ob} {res : V} (ho : o.op = .call { callee := .value (.func f),args := ass,argTypes := ts }) (hg : o.guard = none)
  (hc : Con P f [] args objs' res) (ha : ass.toList.map (fun y => lend2 st.objs (st.ev y)) = args) (hcl : res.closed = true) (hob : objs'.all Ob.closed = true) : Qt P ops o st (res.ren (n + ·)) (objs'.map (Ob.ren (n + ·))) n :=
 ⟨fun a w H F Q K hr hfree hK => call_at ho hg (hc w) ha hcl hob hr hfree hK⟩
end
end
section
open Go.RowKit

def V1.off (ps : List Nat) : V1 → Bool
 | .rd qs _ => qs.all fun q => !ps.contains q
 | .ref p => !ps.contains p
 | .ptr p _ => !ps.contains p
 | .sb p _ _ => !ps.contains p
 | .el p _ _ _ => !ps.contains p
 | .rp qs _ => qs.all fun q => !ps.contains q
 | .le p _ _ _ => !ps.contains p
 | .hd p _ => !ps.contains p
 | .tl p _ _ => !ps.contains p
 | .un => true
def V1.kill (ps : List Nat) (x : V1) : V1 := if x.off ps then x else .un
def V2.kill (ps : List Nat) : V2 → V2
 | .c x => .c (x.kill ps)
 | .ag xs => .ag (xs.map (V1.kill ps))
def V.kill (ps : List Nat) : V → V
 | .o x => .o (x.kill ps)
 | .tu xs => .tu (xs.map (V2.kill ps))
 | .iff cs x => .iff cs (x.kill ps)
def Ob.kill (ps : List Nat) : Ob → Ob
 | .box cs => .box (cs.map (V1.kill ps))
 | .gh i x => .gh i (x.kill ps)
 | ob => ob

structure Turn (w : World) (H : Hs) (w' : World) (H' : Hs) (ps : List Nat) : Prop where
 os : w'.os = w.os
 tape : w'.tape = w.tape
 output : w'.output = w.output
 size : w.heap.size ≤ w'.heap.size
 block : ∀ b,b < w.heap.size → (∀ p ∈ ps,b ∉ (H p).fp) → w'.heap[b]? = w.heap[b]?
 keep : ∀ p,p ∉ ps → H' p = H p
 fp : ∀ p b,b ∈ (H' p).fp → (∃ q,b ∈ (H q).fp) ∨ w.heap.size ≤ b
 gh : ∀ p i v,H' p = .gh i v → ∃ q,H q = .gh i v

section
variable {P : Program} {E : Env} {ops : Array Oper} {o : Oper} {st : St} {n : Nat} {rest : List Oper} {QQ : Exit → St → Prop} {w w' : World} {H H' : Hs} {F : Nat → Prop} {a : Act} {ps : List Nat}

theorem off_all {qs : List Nat} (h : (qs.all fun q => !ps.contains q) = true) : ∀ q ∈ qs,q ∉ ps := by
 intro q hq hp
 have := List.all_eq_true.1 h q hq
 simp at this
 exact this hp
theorem off_one {q : Nat} (h : (!ps.contains q) = true) : q ∉ ps := by simpa using h

theorem Turn.inP (ht : Turn w H w' H' ps) (hok : Ok w H F) {qs : List Nat} (hq : ∀ q ∈ qs,q ∉ ps) {b : Nat} (hb : inP H F qs b) (hlt : b < w.heap.size) : Go.Proofs.YtcjclaoogdblbaaGreat.inP H' F qs b ∧ w'.heap[b]? = w.heap[b]? := by
 rcases hb with hb | ⟨q,h1,x,v,fp,e,hb⟩
 ·exact ⟨.inl hb,ht.block b hlt fun p _ h => hok.free p b h hb⟩
 ·refine ⟨.inr ⟨q,h1,x,v,fp,by rw [ht.keep q (hq q h1),e],hb⟩,ht.block b hlt fun p hp h => ?_⟩
  have := hok.disj p q b h (by rw [e]; exact hb)
  exact hq q h1 (this ▸ hp)
theorem R1.turn (hok : Ok w H F) (ht : Turn w H w' H' ps) {x : V1} {v : Value} (hx : x.off ps = true) (h : R1 w H F x v) : R1 w' H' F x v := by
 cases x with
 | rd qs x => exact RO.move h fun b hb hlt => ht.inP hok (off_all hx) hb hlt
 | ref p => obtain ⟨x,fp,e⟩ := h; exact ⟨x,fp,by rw [ht.keep p (off_one hx),e]⟩
 | ptr p i => obtain ⟨a,t,vs,e,hv⟩ := h; exact ⟨a,t,vs,by rw [ht.keep p (off_one hx),e],hv⟩
 | sb p n k => obtain ⟨a,t,vs,e,hv⟩ := h; exact ⟨a,t,vs,by rw [ht.keep p (off_one hx),e],hv⟩
 | el p k i j => obtain ⟨b,o,n,c,x,fp,e,hv⟩ := h; exact ⟨b,o,n,c,x,fp,by rw [ht.keep p (off_one hx),e],hv⟩
 | rp qs xs =>
  obtain ⟨b,o,hv,hb,hc⟩ := h
  by_cases hb' : b < w.heap.size
  ·obtain ⟨h1,h2⟩ := ht.inP hok (off_all hx) hb hb'
   refine ⟨b,o,hv,h1,fun j t hj => ?_⟩
   obtain ⟨u,h3,h4⟩ := hc j t hj
   exact ⟨u,(World.cell?_of_block (w := w) (a := ⟨b,o + j,none⟩) h2).trans h3,RO.move h4 fun b hb hlt => ht.inP hok (off_all hx) hb hlt⟩
  ·have hnil : ∀ (j : Nat) (t : T),xs[j]? ≠ some t := fun j t hj => by
    obtain ⟨u,h3,_⟩ := hc j t hj
    exact hb' (World.block_lt_of_cell? w _ h3)
   have hin : inP H' F qs b := by
    rcases hb with hb | ⟨q,h1,x,v,fp,e,hb⟩
    ·exact .inl hb
    ·exact .inr ⟨q,h1,x,v,fp,by rw [ht.keep q (off_all hx q h1),e],hb⟩
   exact ⟨b,o,hv,hin,fun j t hj => absurd hj (hnil j t)⟩
 | le p k i j =>
  obtain ⟨b,o,n,c,x,fp,e,hb,h1,h2⟩ := h
  have hlt := World.block_lt_of_cell? w _ h2
  refine ⟨b,o,n,c,x,fp,by rw [ht.keep p (off_one hx),e],hb,h1,(World.cell?_of_block (w := w) (a := ⟨b,o + i * k + j,none⟩) (ht.block b hlt fun q hq hbq => ?_)).trans h2⟩
  exact off_one hx (hok.disj p q b (by rw [e]; exact hb) hbq ▸ hq)
 | hd p n => obtain ⟨A,m,c,x,fp,e,hv⟩ := h; exact ⟨A,m,c,x,fp,by rw [ht.keep p (off_one hx),e],hv⟩
 | tl p k n => obtain ⟨A,A',m,c,x,fp,e,hv⟩ := h; exact ⟨A,A',m,c,x,fp,by rw [ht.keep p (off_one hx),e],hv⟩
 | un => trivial
theorem R1.killed (hok : Ok w H F) (ht : Turn w H w' H' ps) {x : V1} {v : Value} (h : R1 w H F x v) : R1 w' H' F (x.kill ps) v := by
 unfold V1.kill
 split
 ·exact R1.turn hok ht (by assumption) h
 ·trivial
theorem R2.killed (hok : Ok w H F) (ht : Turn w H w' H' ps) {x : V2} {v : Value} (h : R2 w H F x v) : R2 w' H' F (x.kill ps) v := by
 cases x with
 | c x => exact R1.killed hok ht h
 | ag xs =>
  obtain ⟨us,e,hl,hr⟩ := h
  refine ⟨us,e,by simpa using hl,fun i x u hi hu => ?_⟩
  rw [List.getElem?_map] at hi
  obtain ⟨c,h1,rfl⟩ := Option.map_eq_some_iff.1 hi
  exact R1.killed hok ht (hr i c u h1 hu)
theorem RV.killed (hok : Ok w H F) (ht : Turn w H w' H' ps) {x : V} {v : Value} (h : RV w H F x v) : RV w' H' F (x.kill ps) v := by
 cases x with
 | o x => exact R2.killed hok ht h
 | tu xs =>
  obtain ⟨us,e,hl,hr⟩ := h
  refine ⟨us,e,by simpa using hl,fun i x u hi hu => ?_⟩
  rw [List.getElem?_map] at hi
  obtain ⟨c,h1,rfl⟩ := Option.map_eq_some_iff.1 hi
  exact R2.killed hok ht (hr i c u h1 hu)
 | iff cs x => exact ⟨fun hc => R2.killed hok ht (h.1 hc),h.2⟩
theorem RB.killed (hok : Ok w H F) (ht : Turn w H w' H' ps) {p : Nat} (hp : p ∉ ps) {ob : Ob} (h : RB w H F p ob) : RB w' H' F p (ob.kill ps) := by
 cases ob with
 | gone => exact (ht.keep p hp).trans h
 | hole => trivial
 | box cs =>
  obtain ⟨g,t,vs,e,hl,hr⟩ := h
  refine ⟨g,t,vs,(ht.keep p hp).trans e,by simpa using hl,fun i c u hi hu => ?_⟩
  rw [List.getElem?_map] at hi
  obtain ⟨c',h1,rfl⟩ := Option.map_eq_some_iff.1 hi
  exact ⟨R1.killed hok ht (hr i c' u h1 hu).1,(hr i c' u h1 hu).2⟩
 | row k es => obtain ⟨v,fp,e⟩ := h; exact ⟨v,fp,(ht.keep p hp).trans e⟩
 | gh i x => obtain ⟨v,e,hr⟩ := h; exact ⟨v,(ht.keep p hp).trans e,R2.killed hok ht hr⟩
 | shr es => obtain ⟨us,v,fp,e,hl,hr⟩ := h; exact ⟨us,v,fp,(ht.keep p hp).trans e,hl,fun i t u h1 h2 => R1.turn hok ht (x := .rd [] t) rfl (hr i t u h1 h2)⟩

theorem R0.turn (h : R0 w H F st a) (ht : Turn w H w' H' ps) (hok : Ok w' H' F) (objs' : List Ob) (h1 : ∀ p,p ∉ ps → objs'.getD p .gone = (st.objs.getD p .gone).kill ps) (h2 : ∀ p ∈ ps,RB w' H' F p (objs'.getD p .gone)) :
  R0 w' H' F ⟨st.n,st.tmps.map fun e => (e.1,e.2.kill ps),objs'⟩ a := by
 refine ⟨hok,fun p => ?_,fun d => ?_,h.size,h.defers⟩
 ·by_cases hp : p ∈ ps
  ·exact h2 p hp
  ·show RB w' H' F p (objs'.getD p .gone)
   rw [h1 p hp]
   exact (h.obs p).killed h.ok ht hp
 ·have hl : ∀ l : List (Nat × V),look (l.map fun e => (e.1,e.2.kill ps)) d = (look l d).kill ps := by
   intro l
   induction l with
   | nil => rfl
   | cons e l ih =>
    obtain ⟨e1,e2⟩ := e
    rw [List.map_cons,Zi,Zi]
    split
    ·rfl
    ·exact ih
  show RV w' H' F (look (st.tmps.map fun e => (e.1,e.2.kill ps)) d) _
  rw [hl]
  exact (h.tmp d).killed h.ok ht
theorem R0.put {x : V} {v : Value} (h : R0 w H F st a) (dst : Option Tmp) (hd : dstOk st.n dst = true) (hv : RV w H F x v) : R0 w H F ⟨st.n,setT st.tmps dst x,st.objs⟩ (a.put dst v) := by
 have := h.grow (obs := []) (dst := dst) hd (Grow.refl w H F) h.ok (fun i ob hi => by simp at hi) (fun p hp _ => hp) hv
 rwa [List.append_nil] at this
theorem Since.turn (h : Since E w H F) (ht : Turn w H w' H' ps) : Since E w' H' F := by
 refine ⟨ht.os.trans h.os,ht.tape.trans h.tape,ht.output.trans h.output,Nat.le_trans h.size ht.size,fun b h1 h2 => (ht.block b (Nat.lt_of_lt_of_le h1 h.size) fun p _ hb => ?_).trans (h.keep b h1 h2),h.fF,h.fF',fun p b hb => ?_,fun p i v hp => by obtain ⟨q,hq⟩ := ht.gh p i v hp; exact h.gh q i v hq⟩
 ·rcases h.org p b hb with ⟨q,hq⟩ | hq
  ·exact h2 q hq
  ·omega
 ·rcases ht.fp p b hb with ⟨q,hq⟩ | hq
  ·exact h.org q b hq
  ·exact .inr (Nat.le_trans h.size hq)

/-! ### Boxes -/
def setFrom {α : Type} (vs : List α) (i : Nat) : List α → List α
 | [] => vs
 | c :: cs => setFrom (vs.set i c) (i + 1) cs

theorem box_turn (h : R0 w H F st a) {p i g : Nat} {t : TypeId} {vs : List Value} {cs : List V1} {c : V1} {u : Value} (hp : st.objs[p]? = some (.box cs)) (hH : H p = .box g t vs) (hc : R1 w H F c u) (h1 : u.oneCell' = true) (hi : i < cs.length) :
  R0 (w.setCell ⟨g,i,none⟩ u) (H.put p (.box g t (vs.set i u))) F ⟨st.n,st.tmps,st.objs.set p (.box (cs.set i c))⟩ a ∧
  ∀ {E : Env},Since E w H F → Since E (w.setCell ⟨g,i,none⟩ u) (H.put p (.box g t (vs.set i u))) F := by
 have hsay := h.ok.says p
 rw [hH] at hsay
 have hblk : ∀ b,b ≠ g → (w.setCell ⟨g,i,none⟩ u).heap[b]? = w.heap[b]? := fun b hb => Below.heap_setCell _ _ _ _ hb
 have hsz : (w.setCell ⟨g,i,none⟩ u).heap.size = w.heap.size := by simp [World.setCell]
 have hg : (w.setCell ⟨g,i,none⟩ u).heap[g]? = some (.cells (vs.set i u).toArray t (0,0)) := by
  have h2 : w.heap[g]? = some (.cells vs.toArray t (0,0)) := hsay
  simp [World.setCell,Array.getElem?_modify,h2]
 have hne : ∀ q,q ≠ p → H.put p (.box g t (vs.set i u)) q = H q := fun q hq => Hs.put_ne H _ hq
 have hfp : ∀ q,(H.put p (.box g t (vs.set i u)) q).fp = (H q).fp := fun q => by
  by_cases e : q = p
  ·subst e; rw [Hs.put_self,hH]; rfl
  ·rw [hne q e]
 have hin : ∀ {qs : List Nat} {b : Nat},inP H F qs b → b < w.heap.size → inP (H.put p (.box g t (vs.set i u))) F qs b ∧ (w.setCell ⟨g,i,none⟩ u).heap[b]? = w.heap[b]? := by
  intro qs b hb hlt
  rcases hb with hb | ⟨q,h1,x,v,fp,e,hb⟩
  ·exact ⟨.inl hb,hblk b fun e => h.ok.free p b (by rw [hH,e]; simp [Pc.fp]) hb⟩
  ·have hqp : q ≠ p := fun e' => by rw [e',hH] at e; cases e
   refine ⟨.inr ⟨q,h1,x,v,fp,by rw [hne q hqp,e],hb⟩,hblk b fun e' => ?_⟩
   exact hqp (h.ok.disj q p b (by rw [e]; exact hb) (by rw [hH,e']; simp [Pc.fp]))
 have hr1 : ∀ {x : V1} {v : Value},R1 w H F x v → R1 (w.setCell ⟨g,i,none⟩ u) (H.put p (.box g t (vs.set i u))) F x v := by
  intro x v hx
  cases x with
  | rd qs x => exact RO.move hx fun b hb hlt => hin hb hlt
  | ref q =>
   obtain ⟨x,fp,e⟩ := hx
   exact ⟨x,fp,by rw [hne q fun e' => by rw [e',hH] at e; cases e]; exact e⟩
  | ptr q j =>
   obtain ⟨g',t',vs',e,hv⟩ := hx
   by_cases e' : q = p
   ·subst e'
    rw [hH] at e
    simp only [Pc.box.injEq] at e
    obtain ⟨rfl,rfl,rfl⟩ := e
    exact ⟨_,_,_,Hs.put_self _ _ _,hv⟩
   ·exact ⟨g',t',vs',(hne q e').trans e,hv⟩
  | sb q m k =>
   obtain ⟨g',t',vs',e,hl,hm,hv⟩ := hx
   by_cases e' : q = p
   ·subst e'
    rw [hH] at e
    simp only [Pc.box.injEq] at e
    obtain ⟨rfl,rfl,rfl⟩ := e
    exact ⟨_,_,_,Hs.put_self _ _ _,by simpa using hl,hm,hv⟩
   ·exact ⟨g',t',vs',(hne q e').trans e,hl,hm,hv⟩
  | el q k i' j =>
   obtain ⟨b,o',m,c',x,fp,e,hv⟩ := hx
   exact ⟨b,o',m,c',x,fp,by rw [hne q fun e' => by rw [e',hH] at e; cases e]; exact e,hv⟩
  | rp qs xs =>
   obtain ⟨b,o',hv,hb,hcs⟩ := hx
   by_cases hb' : b < w.heap.size
   ·obtain ⟨h3,h4⟩ := hin hb hb'
    refine ⟨b,o',hv,h3,fun j t hj => ?_⟩
    obtain ⟨u',h5,h6⟩ := hcs j t hj
    exact ⟨u',(World.cell?_of_block (w := w) (a := ⟨b,o' + j,none⟩) h4).trans h5,RO.move h6 fun b hb hlt => hin hb hlt⟩
   ·refine ⟨b,o',hv,?_,fun j t hj => ?_⟩
    ·rcases hb with hb | ⟨q,h1,x,v,fp,e,hb⟩
     ·exact .inl hb
     ·exact .inr ⟨q,h1,x,v,fp,by rw [hne q fun e' => by rw [e',hH] at e; cases e]; exact e,hb⟩
    ·obtain ⟨u',h5,_⟩ := hcs j t hj
     exact absurd (World.block_lt_of_cell? w _ h5) hb'
  | hd q m =>
   obtain ⟨A,m',c,x,fp,e,hv⟩ := hx
   exact ⟨A,m',c,x,fp,by rw [hne q fun e' => by rw [e',hH] at e; cases e]; exact e,hv⟩
  | tl q k m =>
   obtain ⟨A,A',m',c,x,fp,e,hv⟩ := hx
   exact ⟨A,A',m',c,x,fp,by rw [hne q fun e' => by rw [e',hH] at e; cases e]; exact e,hv⟩
  | le q k i' j =>
   obtain ⟨b,o',m,c',x,fp,e,hb,h2,h3⟩ := hx
   have hqp : q ≠ p := fun e' => by rw [e',hH] at e; cases e
   exact ⟨b,o',m,c',x,fp,by rw [hne q hqp]; exact e,hb,h2,(World.cell?_of_block (w := w) (a := ⟨b,o' + i' * k + j,none⟩) (hblk b fun e' => hqp (h.ok.disj q p b (by rw [e]; exact hb) (by rw [hH,e']; simp [Pc.fp])))).trans h3⟩
  | un => trivial
 have hr2 : ∀ {x : V2} {v : Value},R2 w H F x v → R2 (w.setCell ⟨g,i,none⟩ u) (H.put p (.box g t (vs.set i u))) F x v := by
  intro x v hx
  cases x with
  | c x => exact hr1 hx
  | ag xs => obtain ⟨us,e,hl,hr⟩ := hx; exact ⟨us,e,hl,fun i x u h1 h2 => hr1 (hr i x u h1 h2)⟩
 have hrv : ∀ {x : V} {v : Value},RV w H F x v → RV (w.setCell ⟨g,i,none⟩ u) (H.put p (.box g t (vs.set i u))) F x v := by
  intro x v hx
  cases x with
  | o x => exact hr2 hx
  | tu xs => obtain ⟨us,e,hl,hr⟩ := hx; exact ⟨us,e,hl,fun i x u h1 h2 => hr2 (hr i x u h1 h2)⟩
  | iff cs x => exact ⟨fun hc => hr2 (hx.1 hc),hx.2⟩
 obtain ⟨hplt,_⟩ := List.getElem?_eq_some_iff.1 hp
 refine ⟨⟨⟨fun q => ?_,fun q => by rw [hfp]; exact h.ok.nodup q,fun q r b h1 h2 => by rw [hfp] at h1 h2; exact h.ok.disj q r b h1 h2,fun q b h1 => by rw [hfp] at h1; exact h.ok.free q b h1,fun b hb => by rw [hsz]; exact h.ok.flt b hb⟩,fun q => ?_,fun d => hrv (h.tmp d),h.size,h.defers⟩,fun hs => ?_⟩
 ·by_cases e : q = p
  ·subst e; rw [Hs.put_self]; exact hg
  ·rw [hne q e]
   refine Pc.frame (fun b hb => hblk b fun e' => e (h.ok.disj q p b hb (by rw [hH,e']; simp [Pc.fp]))) (h.ok.says q)
 ·by_cases e : q = p
  ·subst e
   have h3 : (st.objs.set q (.box (cs.set i c))).getD q .gone = .box (cs.set i c) := by simp [List.getD_eq_getElem?_getD,hplt]
   show RB _ _ _ q ((st.objs.set q (.box (cs.set i c))).getD q .gone)
   rw [h3]
   have h4 := h.obs q
   rw [Y6 hp] at h4
   obtain ⟨g',t',vs',e4,hl,hr⟩ := h4
   rw [hH] at e4
   simp only [Pc.box.injEq] at e4
   obtain ⟨rfl,rfl,rfl⟩ := e4
   refine ⟨_,_,_,Hs.put_self _ _ _,by simpa using hl,fun j d v h5 h6 => ?_⟩
   rw [List.getElem?_set] at h5 h6
   split at h5
   ·rename_i e5
    subst e5
    rw [if_pos rfl,if_pos (by omega)] at h6
    simp only [hi,if_true,Option.some.injEq] at h5 h6
    subst h5 h6
    exact ⟨hr1 hc,h1⟩
   ·rename_i e5
    rw [if_neg e5] at h6
    exact ⟨hr1 (hr j d v h5 h6).1,(hr j d v h5 h6).2⟩
  ·have h3 : (st.objs.set p (.box (cs.set i c))).getD q .gone = st.objs.getD q .gone := by simp [List.getD_eq_getElem?_getD,List.getElem?_set_ne (Ne.symm e)]
   show RB _ _ _ q ((st.objs.set p (.box (cs.set i c))).getD q .gone)
   rw [h3]
   have h4 := h.obs q
   cases ho : st.objs.getD q .gone with
   | gone => rw [ho] at h4; exact (hne q e).trans h4
   | hole => trivial
   | box ds => rw [ho] at h4; obtain ⟨g',t',vs',e4,hl,hr⟩ := h4; exact ⟨g',t',vs',(hne q e).trans e4,hl,fun j d v h5 h6 => ⟨hr1 (hr j d v h5 h6).1,(hr j d v h5 h6).2⟩⟩
   | row k es => rw [ho] at h4; obtain ⟨v,fp,e4⟩ := h4; exact ⟨v,fp,(hne q e).trans e4⟩
   | gh i x => rw [ho] at h4; obtain ⟨v,e4,hr⟩ := h4; exact ⟨v,(hne q e).trans e4,hr2 hr⟩
   | shr es => rw [ho] at h4; obtain ⟨us,v,fp,e4,hl,hr⟩ := h4; exact ⟨us,v,fp,(hne q e).trans e4,hl,fun i t u h5 h6 => hr1 (hr i t u h5 h6)⟩
 ·refine ⟨hs.os,hs.tape,hs.output,by rw [hsz]; exact hs.size,fun b h1 h2 => (hblk b fun e => ?_).trans (hs.keep b h1 h2),hs.fF,hs.fF',fun q b hb => by rw [hfp] at hb; exact hs.org q b hb,fun q i v hq => by
   by_cases e : q = p
   ·subst e; rw [Hs.put_self] at hq; cases hq
   ·rw [hne q e] at hq; exact hs.gh q i v hq⟩
  subst e
  rcases hs.org p b (by rw [hH]; simp [Pc.fp]) with ⟨q,hq⟩ | hq
  ·exact h2 q hq
  ·omega

theorem box_turns {p g : Nat} {t : TypeId} : ∀ (us : List Value) (ds : List V1) (i : Nat) {w : World} {H : Hs} {st : St} {vs : List Value} {cs : List V1} (h : R0 w H F st a) (hp : st.objs[p]? = some (.box cs)) (hH : H p = .box g t vs) (hl : us.length = ds.length)
  (hc : ∀ (j : Nat) (d : V1) (u : Value),ds[j]? = some d → us[j]? = some u → R1 w H F d u ∧ u.oneCell' = true) (hi : i + ds.length ≤ cs.length),
  ∃ H',R0 (w.setCells g i us) H' F ⟨st.n,st.tmps,st.objs.set p (.box (setFrom cs i ds))⟩ a ∧ ∀ {E : Env},Since E w H F → Since E (w.setCells g i us) H' F
 | [],[],i,w,H,st,vs,cs,h,hp,hH,_,_,_ => by
  refine ⟨H,?_,fun hs => hs⟩
  have : st.objs.set p (.box cs) = st.objs := by
   obtain ⟨h1,h2⟩ := List.getElem?_eq_some_iff.1 hp
   rw [← h2,List.set_getElem_self]
  show R0 w H F ⟨st.n,st.tmps,st.objs.set p (.box cs)⟩ a
  rw [this]
  exact h
 | u :: us,d :: ds,i,w,H,st,vs,cs,h,hp,hH,hl,hc,hi => by
  obtain ⟨h1,h2⟩ := hc 0 d u rfl rfl
  obtain ⟨hplt,_⟩ := List.getElem?_eq_some_iff.1 hp
  have hlt : i < cs.length := by simp at hi; omega
  obtain ⟨h3,h4⟩ := box_turn h hp hH h1 h2 hlt
  have hside : ∀ (j : Nat) (d' : V1) (u' : Value),ds[j]? = some d' → us[j]? = some u' → R1 (w.setCell ⟨g,i,none⟩ u) (H.put p (.box g t (vs.set i u))) F d' u' ∧ u'.oneCell' = true := by
   intro j d' u' h7 h8
   obtain ⟨h9,h10⟩ := hc (j + 1) d' u' (by simpa using h7) (by simpa using h8)
   refine ⟨?_,h10⟩
   -- ass in box_turn: by way of a state that holds the cell
   have h11 : R0 w H F ⟨1,[(0,.o (.c d'))],st.objs⟩ ⟨#[u'],[]⟩ := by
    refine ⟨h.ok,h.obs,fun e => ?_,J,J⟩
    show RV w H F (look [(0,.o (.c d'))] e) _
    rw [Zi]
    split
    ·rename_i e0; subst e0; exact h9
    ·trivial
   exact (box_turn h11 hp hH h1 h2 hlt).1.tmp 0
  obtain ⟨H',h5,h6⟩ := box_turns us ds (i + 1) (cs := cs.set i d) h3 (by simp [hplt]) (Hs.put_self _ _ _) (by simpa using hl) hside (by simp at hi ⊢; omega)
  refine ⟨H',?_,fun hs => h6 (h4 hs)⟩
  rw [List.set_set] at h5
  exact h5
 | [],_ :: _,_,_,_,_,_,_,_,_,_,hl,_,_ => by simp at hl
 | _ :: _,[],_,_,_,_,_,_,_,_,_,hl,_,_ => by simp at hl

section
variable {y z : Operand} {t t' : TypeId} {k : IntKind} {i j : Int} {qs : List Nat}
theorem exec_store {a : Act} {w w' : World} (ho : o.op = .store t y z) (h : (Instr.storeAt t (a.eval y) (a.eval z)).run P w = .ok () w') : (execOp a.eval o).run P w = .ok .skip w' := by
 unfold execOp
 simp only [ho,Sem.run_bind,h,Result.andThen_ok]
 rfl
theorem L_st1 {p m : Nat} {cs : List V1} {c : V1} [TyOne P t] (ho : o.op = .store t y z) (hg : o.guard = none) (hd : o.dst = none) (hy : st.ev y = .o (.c (.ptr p m))) (hz : st.ev z = .o (.c c)) (hp : st.objs[p]? = some (.box cs)) (hm : m < cs.length) (hk : c.known = true)
  (h : AL P E ops QQ rest ⟨st.n,st.tmps,st.objs.set p (.box (cs.set m c))⟩) : AL P E ops QQ (o :: rest) st := by
 refine ⟨fun a w ⟨H,F,h1,h2⟩ => ?_⟩
 obtain ⟨g,tt,vs,e1,e2⟩ := h1.v1 hy
 obtain ⟨g',t'',vs',e3,e4,hl,hcs⟩ := h1.bx hp
 rw [e1] at e3
 simp only [Pc.box.injEq] at e3
 obtain ⟨rfl,rfl,rfl⟩ := e3
 have hc := h1.v1 hz
 have hone := R1.one (V1.known_ne hk) h1.ok hc
 have hmv : m < vs.length := by omega
 obtain ⟨h3,h4⟩ := box_turn h1 hp e1 hc hone hm
 refine wpList_step fun K hK => ?_
 rw [if_pos (by unfold Region.wanted; rw [hg])]
 unfold Oper.wp
 rw [exec_store ho (w' := w.setCell ⟨g,m,none⟩ (a.eval z)) (by
  rw [e2]
  exact run_storeAt_one t g m (a.eval z) vs[m] hone (by rw [cell_of_row w g m vs.toArray tt (0,0) e4]; simp [hmv]) (by simp [World.frozen?,e4]))]
 show K (a.put o.dst undef) _
 rw [hd]
 exact hK _ _ (h.h _ _ ⟨_,F,h3,h4 h2⟩)
theorem L_stN {p m n' : Nat} {cs ds : List V1} [hr : TyRow P t n'] (ho : o.op = .store t y z) (hg : o.guard = none) (hd : o.dst = none) (hy : st.ev y = .o (.c (.ptr p m))) (hz : st.ev z = .o (.ag ds)) (hp : st.objs[p]? = some (.box cs)) (hl : ds.length = n') (hm : m + ds.length ≤ cs.length) (hk : ds.all V1.known = true)
  (h : AL P E ops QQ rest ⟨st.n,st.tmps,st.objs.set p (.box (setFrom cs m ds))⟩) : AL P E ops QQ (o :: rest) st := by
 refine ⟨fun a w ⟨H,F,h1,h2⟩ => ?_⟩
 obtain ⟨g,tt,vs,e1,e2⟩ := h1.v1 hy
 obtain ⟨g',t'',vs',e3,e4,hl',hcs⟩ := h1.bx hp
 rw [e1] at e3
 simp only [Pc.box.injEq] at e3
 obtain ⟨rfl,rfl,rfl⟩ := e3
 have hv := h1.ev z
 rw [hz] at hv
 obtain ⟨us,e5,hl5,hc5⟩ := hv
 have hone : ∀ (j : Nat) (d : V1) (u : Value),ds[j]? = some d → us[j]? = some u → R1 w H F d u ∧ u.oneCell' = true := fun j d u h6 h7 => ⟨hc5 j d u h6 h7,R1.one (V1.known_ne (List.all_eq_true.1 hk d (Y8 h6))) h1.ok (hc5 j d u h6 h7)⟩
 obtain ⟨H',h3,h4⟩ := box_turns us ds m h1 hp e1 hl5 hone hm
 refine wpList_step fun K hK => ?_
 rw [if_pos (by unfold Region.wanted; rw [hg])]
 unfold Oper.wp
 rw [exec_store ho (w' := w.setCells g m us) (by
  rw [e2,e5]
  have := run_storeAt_mid (P := P) w g m t us.toArray (fun j hj => ⟨by rw [cell_of_row w g (m + j) vs.toArray tt (0,0) e4]; simp at hj; simp; omega,by simp [World.frozen?,e4]⟩) (by rw [hr.size]; simp [hl5,hl]) (by
   rw [Array.all_eq_true_iff_forall_mem]
   intro u hu
   obtain ⟨j,hj⟩ := List.getElem?_of_mem (show u ∈ us by simpa using hu)
   exact (hone j _ u (List.getElem?_eq_getElem (by rw [← hl5]; exact Y7 hj)) hj).2)
  simpa using this)]
 show K (a.put o.dst undef) _
 rw [hd]
 exact hK _ _ (h.h _ _ ⟨_,F,h3,h4 h2⟩)

/-! ### Append -/
def srcOf (objs : List Ob) : V1 → Option (List (List T))
 | .rd _ (.v (.slice none 0 0)) => some []
 | .rd _ (.sl _ es) => some es
 | .ref p => match objs.getD p .gone with
  | .row _ es => some es
  | _ => none
 | .sb p _ 1 => match objs.getD p .gone with
  | .box cs => sbE cs
  | _ => none
 | _ => none
def plainT (es : List (List T)) : Prop := ∀ e ∈ es,∀ t ∈ e,∃ u,t = .v u

theorem src_form (h : R0 w H F st a) {x : V1} {v : Value} {es : List (List T)} (hx : R1 w H F x v) (hs : srcOf st.objs x = some es) : ∃ A c,v = .slice A es.length c ∧
  ∀ (i : Nat) (e : List T),es[i]? = some e → ∃ b o k,A = some ⟨b,o,none⟩ ∧ 0 < k ∧ e.length = k ∧ ∀ (j : Nat) (t : T),e[j]? = some t → ∃ u,w.cell? ⟨b,o + i * k + j,none⟩ = some u ∧ RO w (fun _ => True) t u := by
 have key : ∀ {k : Nat} {es' : List (List T)} {G : Nat → Prop},RO w G (.sl k es') v → ∃ A c,v = .slice A es'.length c ∧ ∀ (i : Nat) (e : List T),es'[i]? = some e → ∃ b o k,A = some ⟨b,o,none⟩ ∧ 0 < k ∧ e.length = k ∧ ∀ (j : Nat) (t : T),e[j]? = some t → ∃ u,w.cell? ⟨b,o + i * k + j,none⟩ = some u ∧ RO w (fun _ => True) t u := by
  intro k es' G hr
  obtain ⟨A,c,hv,_⟩ := hr.form
  refine ⟨A,c,hv,fun i e hi => ?_⟩
  obtain ⟨b,o,c',hv',_,hp,hl,hc⟩ := hr.at_ hi
  rw [hv] at hv'
  simp only [Value.slice.injEq] at hv'
  refine ⟨b,o,k,hv'.1,hp,hl,fun j t hj => ?_⟩
  obtain ⟨u,h1,h2⟩ := hc j t hj
  exact ⟨u,h1,h2.weak fun _ _ _ => trivial⟩
 cases x with
 | rd qs x =>
  cases x with
  | v u =>
   obtain ⟨rfl,_⟩ := RO.plain hx
   simp only [srcOf] at hs
   split at hs
   ·rename_i e
    simp only [V1.rd.injEq,T.v.injEq] at e
    obtain ⟨_,rfl⟩ := e
    simp only [Option.some.injEq] at hs
    subst hs
    exact ⟨none,0,J,fun i e hi => by simp at hi⟩
   ·rename_i e
    cases e
   ·rename_i e
    cases e
   ·rename_i e
    cases e
   ·cases hs
  | sl k es' =>
   simp only [srcOf,Option.some.injEq] at hs
   subst hs
   exact key hx
  | un => simp [srcOf] at hs
 | ref p =>
  have h1 := h.obs p
  simp only [srcOf] at hs
  cases ho : st.objs.getD p .gone with
  | row k es' =>
   rw [ho] at h1 hs
   simp only [Option.some.injEq] at hs
   subst hs
   obtain ⟨u,fp,e⟩ := h1
   obtain ⟨x,fp',e'⟩ := hx
   have h2 := h.ok.says p
   rw [e] at h2 e'
   simp only [Pc.ow.injEq] at e'
   obtain ⟨_,rfl,_⟩ := e'
   exact key (OW.ro h2)
  | gone => rw [ho] at hs; cases hs
  | hole => rw [ho] at hs; cases hs
  | box cs => rw [ho] at hs; cases hs
  | gh i x => rw [ho] at hs; cases hs
  | shr es => rw [ho] at hs; cases hs
 | ptr => simp [srcOf] at hs
 | sb p n' k =>
  obtain ⟨g,t,vs,e1,e2,e3,rfl⟩ := hx
  unfold srcOf at hs
  split at hs
  ·rename_i e; cases e
  ·rename_i e; cases e
  ·rename_i e; cases e
  ·rename_i p' n'' e
   simp only [V1.sb.injEq] at e
   obtain ⟨rfl,rfl,rfl⟩ := e
   have h1 := h.obs p
   split at hs
   ·rename_i cs ho
    rw [ho] at h1
    obtain ⟨g',t',vs',e4,hl,hr⟩ := h1
    rw [e1] at e4
    simp only [Pc.box.injEq] at e4
    obtain ⟨rfl,rfl,rfl⟩ := e4
    have hsay := h.ok.says p
    rw [e1] at hsay
    obtain ⟨k1,k2⟩ := sbE_ok _ _ hs
    refine ⟨some ⟨g,0,none⟩,n',by rw [k1,← hl,e2,Nat.mul_one],fun i e hi => ?_⟩
    obtain ⟨ps,u,k3,k4⟩ := k2 i e hi
    subst k4
    refine ⟨g,0,1,J,by omega,J,fun j t hj => ?_⟩
    cases j with
    | succ j => simp at hj
    | zero =>
     simp only [List.getElem?_cons_zero,Option.some.injEq] at hj
     subst hj
     have hlt : i < vs.length := by rw [hl]; exact Y7 k3
     obtain ⟨k5,k6⟩ := hr i _ _ k3 (List.getElem?_eq_getElem hlt)
     obtain ⟨k7,_⟩ := RO.plain k5
     refine ⟨vs[i],?_,?_⟩
     ·rw [cell_of_row w g _ vs.toArray t (0,0) hsay]
      simp [hlt]
     ·rw [k7] at k6 ⊢
      exact .v u k6
   ·cases hs
  ·cases hs
 | el => simp [srcOf] at hs
 | rp => simp [srcOf] at hs
 | le => simp [srcOf] at hs
 | hd => simp [srcOf] at hs
 | tl => simp [srcOf] at hs
 | un => simp [srcOf] at hs

def plainV' (es : List (List T)) (i j : Nat) : Value := match (es.getD i []).getD j (.v undef) with | .v u => u | _ => undef
theorem plainV'_at {es : List (List T)} {i j : Nat} {e : List T} {u : Value} (h1 : es[i]? = some e) (h2 : e[j]? = some (.v u)) : plainV' es i j = u := by
 unfold plainV'
 rw [Y6 h1,Y6 h2]
theorem append_src {tx e : TypeId} {zs : List Value} {by_ : Nat} [hm : TyMake P t e zs by_] {kk : Nat} {es es' : List (List T)} {v : Value} {fp : List Nat} (hw : OW w (.sl kk es) v fp) (hnd : fp.Nodup) (hkz : kk = zs.length) (hz0 : zs ≠ []) {u : Value}
  (hsrc : Src P kk tx u es'.length (flatV (plainV' es') es'.length kk) w) (hpl : plainT es') (hkk : ∀ e ∈ es',e.length = kk) (hb : (es.length + es'.length) * by_ ≤ 140737488355328) (h63 : es.length + es'.length ≤ 9223372036854775807) :
  ∃ v' w' fp',(Builtin.append_ #[t,tx] o.type #[v,u]).run P w = .ok v' w' ∧ OW w' (.sl kk (es ++ es')) v' fp' ∧ fp'.Nodup ∧ (∀ b ∈ fp',b ∈ fp ∨ w.heap.size ≤ b) ∧ Keeps w w' fp := by
 have hzp : 0 < zs.length := List.length_pos_iff.2 hz0
 have hnil : (es'.map fun e => e.map fun _ => ([] : List Nat)).flatten.flatten = [] := by
  rw [List.flatten_eq_nil_iff]
  intro l hl
  rw [List.mem_flatten] at hl
  obtain ⟨f,hf,hl⟩ := hl
  obtain ⟨e,_,rfl⟩ := List.mem_map.1 hf
  obtain ⟨_,_,rfl⟩ := List.mem_map.1 hl
  rfl
 obtain ⟨v',w',fp',h1,h2,h3,h4,h5⟩ := run_append_ow (P := P) (t := t) (ty := o.type) hw hkz hzp hnd es' (plainV' es') (es'.map fun e => e.map fun _ => []) u hkk hsrc
  (by simp) (fun f hf => by
   obtain ⟨e,h6,rfl⟩ := List.mem_map.1 hf
   simpa using hkk e h6)
  (fun i j e t fs f h6 h7 h8 h9 => by
   rw [List.getElem?_map,h6] at h8
   simp only [Option.map_some,Option.some.injEq] at h8
   subst h8
   rw [List.getElem?_map,h7] at h9
   simp only [Option.map_some,Option.some.injEq] at h9
   subst h9
   obtain ⟨u,rfl⟩ := hpl e (Y8 h6) t (Y8 h7)
   rw [plainV'_at h6 h7]
   refine .v u ?_
   have hi := Y7 h6
   have hj : j < kk := by rw [← hkk e (Y8 h6)]; exact Y7 h7
   have := hsrc.one _ (Y8 (flatV_at (val := plainV' es') hi hj))
   rwa [plainV'_at h6 h7] at this)
  (by rw [hnil]; exact List.nodup_nil)
  (fun b _ hb => by rw [hnil] at hb; simp at hb) hb (by simpa [maxLen] using h63)
 refine ⟨v',w',fp',h1,h2,h3,fun b hb => ?_,h5⟩
 rcases h4 b hb with h6 | h6 | h6
 ·exact .inl h6
 ·rw [hnil] at h6; simp at h6
 ·exact .inr h6
theorem append_plain {e : TypeId} {zs : List Value} {by_ : Nat} [hm : TyMake P t e zs by_] (h : R0 w H F st a) {kk : Nat} {es es' : List (List T)} {v : Value} {fp : List Nat} (hw : OW w (.sl kk es) v fp) (hnd : fp.Nodup) (hkz : kk = zs.length) (hz0 : zs ≠ []) {x : V1} {u : Value} (hx : R1 w H F x u) (hs : srcOf st.objs x = some es')
  (hpl : plainT es') (hkk : ∀ e ∈ es',e.length = kk) (hb : (es.length + es'.length) * by_ ≤ 140737488355328) (h63 : es.length + es'.length ≤ 9223372036854775807) :
  ∃ v' w' fp',(Builtin.append_ #[t,t] o.type #[v,u]).run P w = .ok v' w' ∧ OW w' (.sl kk (es ++ es')) v' fp' ∧ fp'.Nodup ∧ (∀ b ∈ fp',b ∈ fp ∨ w.heap.size ≤ b) ∧ Keeps w w' fp := by
 obtain ⟨A,c,rfl,hsrc⟩ := src_form h hx hs
 have hcell : ∀ i j (hi : i < es'.length) (hj : j < kk),∃ b o',A = some ⟨b,o',none⟩ ∧ w.cell? ⟨b,o' + i * kk + j,none⟩ = some (plainV' es' i j) ∧ (plainV' es' i j).oneCell' = true := by
  intro i j hi hj
  have h6 := List.getElem?_eq_getElem hi
  obtain ⟨b,o',k,hA,hp,hk,hc⟩ := hsrc i _ h6
  have h7 : k = kk := by rw [← hk,hkk _ (List.getElem_mem hi)]
  subst h7
  have h8 : j < (es'[i]).length := by omega
  obtain ⟨u',h9,h10⟩ := hc j _ (List.getElem?_eq_getElem h8)
  obtain ⟨u'',h11⟩ := hpl _ (List.getElem_mem hi) _ (List.getElem_mem h8)
  rw [h11] at h10
  obtain ⟨rfl,h12⟩ := RO.plain h10
  rw [plainV'_at h6 (by rw [List.getElem?_eq_getElem h8,h11])]
  exact ⟨b,o',hA,h9,h12⟩
 refine append_src (o := o) hw hnd hkz hz0 (src_slice (zs := zs) es' (plainV' es') A c (fun hne => ?_) fun i j hi hj => by obtain ⟨_,_,_,_,h⟩ := hcell i j hi hj; exact h) hpl hkk hb h63
 have hl : 0 < es'.length := List.length_pos_iff.2 hne
 have hk0 : 0 < kk := by rw [hkz]; exact List.length_pos_iff.2 hz0
 obtain ⟨b,o',hA,_⟩ := hcell 0 0 hl hk0
 refine ⟨b,o',hA,fun i j hi hj => ?_⟩
 obtain ⟨b',o'',hA',h1,_⟩ := hcell i j hi hj
 rw [hA] at hA'
 simp only [Option.some.injEq,Addr.mk.injEq] at hA'
 obtain ⟨rfl,rfl,_⟩ := hA'
 exact h1

theorem Ok.turn (h : Ok w H F) {p : Nat} {fp : List Nat} (hfp : (H p).fp = fp) {w' : World} (hk : Keeps w w' fp) (q : Pc) (hs : q.says w') (hn : q.fp.Nodup) (hng : q.ng) (hf : ∀ b ∈ q.fp,b ∈ fp ∨ w.heap.size ≤ b) : Ok w' (H.put p q) F ∧ Turn w H w' (H.put p q) [p] := by
 have hne : ∀ r,r ≠ p → H.put p q r = H r := fun r hr => Hs.put_ne H q hr
 have hb0 : ∀ r b,r ≠ p → b ∈ (H r).fp → b ∉ q.fp := fun r b hr h1 h2 => by
  rcases hf b h2 with h3 | h3
  ·exact hr (h.disj r p b h1 (by rw [hfp]; exact h3))
  ·have := h.lt h1; omega
 refine ⟨⟨fun r => ?_,fun r => ?_,fun r s b h1 h2 => ?_,fun r b h1 h2 => ?_,fun b hb' => Nat.lt_of_lt_of_le (h.flt b hb') hk.size⟩,hk.os,hk.tape,hk.output,hk.size,fun b h1 h2 => hk.block b h1 (by rw [← hfp]; exact h2 p (by simp)),fun r hr => hne r (by simpa using hr),fun r b hb => ?_,fun r i v hr => ?_⟩
 ·by_cases e : r = p
  ·subst e; rw [Hs.put_self]; exact hs
  ·rw [hne r e]
   exact Pc.frame (fun b hb' => hk.block b (h.lt hb') fun hh => e (h.disj r p b hb' (by rw [hfp]; exact hh))) (h.says r)
 ·by_cases e : r = p
  ·subst e; rw [Hs.put_self]; exact hn
  ·rw [hne r e]; exact h.nodup r
 ·by_cases e : r = p
  ·by_cases e' : s = p
   ·rw [e,e']
   ·rw [e,Hs.put_self] at h1
    rw [hne s e'] at h2
    exact absurd h1 (hb0 s b e' h2)
  ·rw [hne r e] at h1
   by_cases e' : s = p
   ·rw [e',Hs.put_self] at h2
    exact absurd h2 (hb0 r b e h1)
   ·rw [hne s e'] at h2
    exact h.disj r s b h1 h2
 ·by_cases e : r = p
  ·rw [e,Hs.put_self] at h1
   rcases hf b h1 with h3 | h3
   ·exact h.free p b (by rw [hfp]; exact h3) h2
   ·have := h.flt b h2; omega
  ·rw [hne r e] at h1
   exact h.free r b h1 h2
 ·by_cases e : r = p
  ·rw [e,Hs.put_self] at hb
   rcases hf b hb with h3 | h3
   ·exact .inl ⟨p,by rw [hfp]; exact h3⟩
   ·exact .inr h3
  ·rw [hne r e] at hb
   exact .inl ⟨r,hb⟩
 ·by_cases e : r = p
  ·rw [e,Hs.put_self] at hr
   rw [hr] at hng
   exact hng.elim
  ·exact ⟨r,by rw [← hne r e]; exact hr⟩

theorem Y3 {tx : TypeId} {a : Act} {w w' : World} {v : Value} (ho : o.op = .call { callee := .builtin .append,args := #[y,z],argTypes := #[t,tx] }) (h : (Builtin.append_ #[t,tx] o.type #[a.eval y,a.eval z]).run P w = .ok v w') : (execOp a.eval o).run P w = .ok (.value v) w' := by
 unfold execOp
 simp only [ho,resolve,invoke,builtin,Sem.run_bind,Sem.run_pure,Result.andThen_ok,List.map_toArray,List.map_cons,List.map_nil,h]

theorem L_appx {p kk : Nat} {tx : TypeId} {es es' : List (List T)} {e : TypeId} {zs : List Value} {by_ : Nat} [hm : TyMake P t e zs by_] (ho : o.op = .call { callee := .builtin .append,args := #[y,z],argTypes := #[t,tx] }) (hg : o.guard = none) (hy : st.ev y = .o (.c (.ref p))) (hp : st.objs[p]? = some (.row kk es))
  (hsrc : ∀ (a : Act) (w : World) (H : Hs) (F : Nat → Prop),R0 w H F st a → Src P kk tx (a.eval z) es'.length (flatV (plainV' es') es'.length kk) w)
  (hkz : kk = zs.length) (hz0 : zs ≠ []) (hpl : plainT es') (hkk : ∀ e ∈ es',e.length = kk) (hb : (es.length + es'.length) * by_ ≤ 140737488355328) (h63 : es.length + es'.length ≤ 9223372036854775807)
  (hd : dstOk st.n o.dst = true) (h : AL P E ops QQ rest ⟨st.n,setT (st.tmps.map fun e => (e.1,e.2.kill [p])) o.dst (.o (.c (.ref p))),(st.objs.map (Ob.kill [p])).set p (.row kk (es ++ es'))⟩) : AL P E ops QQ (o :: rest) st := by
 refine ⟨fun a w ⟨H,F,h1,h2⟩ => ?_⟩
 obtain ⟨v,fp,e1,e2⟩ := h1.ow hp
 obtain ⟨x',fp',e3⟩ := h1.v1 hy
 rw [e1] at e3
 simp only [Pc.ow.injEq] at e3
 obtain ⟨_,hv,_⟩ := e3
 have hnd := h1.ok.nodup p
 rw [e1] at hnd
 obtain ⟨v',w',fp'',hr,h3,h4,h5,h6⟩ := append_src (P := P) (o := o) (t := t) e2 hnd hkz hz0 (hsrc a w H F h1) hpl hkk hb h63
 obtain ⟨hok,htn⟩ := h1.ok.turn (p := p) (fp := fp) (by rw [e1]; rfl) h6 (.ow (.sl kk (es ++ es')) v' fp'') h3 h4 trivial h5
 obtain ⟨hplt,_⟩ := List.getElem?_eq_some_iff.1 hp
 have hR := h1.turn htn hok ((st.objs.map (Ob.kill [p])).set p (.row kk (es ++ es'))) (fun q hq => ?_) (fun q hq => ?_)
 ·have hR2 := hR.put (x := .o (.c (.ref p))) o.dst hd (v := v') ⟨_,_,Hs.put_self _ _ _⟩
  refine wpList_step fun K hK => ?_
  rw [if_pos (by unfold Region.wanted; rw [hg])]
  unfold Oper.wp
  rw [Y3 ho (by rw [← hv]; exact hr)]
  exact hK _ _ (h.h _ _ ⟨_,F,hR2,h2.turn htn⟩)
 ·have hqp : q ≠ p := by simpa using hq
  rw [List.getD_eq_getElem?_getD,List.getElem?_set_ne (Ne.symm hqp),List.getElem?_map,List.getD_eq_getElem?_getD]
  cases st.objs[q]? <;> rfl
 ·have hqp : q = p := by simpa using hq
  subst hqp
  rw [Y6 (x := .row kk (es ++ es')) (by simp [hplt])]
  exact ⟨_,_,Hs.put_self _ _ _⟩
def bE (l : List UInt8) : List (List T) := l.map fun b => [.v (.int .u8 (b.toNat : Int))]
theorem bE_plain (l : List UInt8) : plainT (bE l) := fun e he t ht => by
 obtain ⟨b,_,rfl⟩ := List.mem_map.1 he
 simp at ht
 exact ⟨_,ht⟩
theorem Yh (l : List UInt8) : (bE l).length = l.length := by simp [bE]
theorem bE_one (l : List UInt8) : ∀ e ∈ bE l,e.length = 1 := fun e he => by
 obtain ⟨b,_,rfl⟩ := List.mem_map.1 he
 rfl
theorem bE_src {tx : TypeId} [ht : TyStr P tx] (s : ByteArray) : Src P 1 tx (.string s) (bE s.data.toList).length (flatV (plainV' (bE s.data.toList)) (bE s.data.toList).length 1) w := by
 have h := Src.ofString (P := P) w ht.str s
 have h1 : (bE s.data.toList).length = s.size := by rw [Yh]; exact Array.length_toList
 have h2 : flatV (plainV' (bE s.data.toList)) (bE s.data.toList).length 1 = byteCells s := by
  apply List.ext_getElem?
  intro q
  by_cases hq : q < s.data.toList.length
  ·have h3 := flatV_at (val := plainV' (bE s.data.toList)) (n := (bE s.data.toList).length) (k := 1) (i := q) (j := 0) (by rw [Yh]; exact hq) (by omega)
   rw [Nat.mul_one,Nat.add_zero] at h3
   rw [h3,plainV'_at (e := [.v (.int .u8 ((s.data.toList[q]).toNat : Int))]) (u := .int .u8 ((s.data.toList[q]).toNat : Int)) (by unfold bE; rw [List.getElem?_map,List.getElem?_eq_getElem hq]; rfl) rfl]
   unfold byteCells
   rw [List.getElem?_map,List.getElem?_eq_getElem hq]
   rfl
  ·rw [List.getElem?_eq_none (by rw [Y5,Yh]; omega),List.getElem?_eq_none (by rw [byteCells_length,← h1,Yh]; omega)]
 rw [h2,h1]
 exact h
theorem L_appstr {p : Nat} {tx : TypeId} {es : List (List T)} {s : ByteArray} {e : TypeId} {by_ : Nat} {z0 : Value} [hm : TyMake P t e [z0] by_] [TyStr P tx] (ho : o.op = .call { callee := .builtin .append,args := #[y,z],argTypes := #[t,tx] }) (hg : o.guard = none) (hy : st.ev y = .o (.c (.ref p))) (hp : st.objs[p]? = some (.row 1 es)) (hz : st.ev z = .o (.c (.rd qs (.v (.string s)))))
  (hd : dstOk st.n o.dst = true) (hb : (es.length + s.size) * by_ ≤ 140737488355328) (h63 : es.length + s.size ≤ 9223372036854775807)
  (h : AL P E ops QQ rest ⟨st.n,setT (st.tmps.map fun e => (e.1,e.2.kill [p])) o.dst (.o (.c (.ref p))),(st.objs.map (Ob.kill [p])).set p (.row 1 (es ++ bE s.data.toList))⟩) : AL P E ops QQ (o :: rest) st :=
 have hl : (bE s.data.toList).length = s.size := by rw [Yh]; exact Array.length_toList
 L_appx (zs := [z0]) ho hg hy hp (fun a w H F hr => by rw [hr.plain hz]; exact bE_src s) rfl (by simp) (bE_plain _) (bE_one _) (by rw [hl]; exact hb) (by rw [hl]; exact h63) hd h
theorem L_app {p kk : Nat} {es es' : List (List T)} {x : V1} {e : TypeId} {zs : List Value} {by_ : Nat} [hm : TyMake P t e zs by_] (ho : o.op = .call { callee := .builtin .append,args := #[y,z],argTypes := #[t,t] }) (hg : o.guard = none) (hy : st.ev y = .o (.c (.ref p))) (hp : st.objs[p]? = some (.row kk es)) (hz : st.ev z = .o (.c x)) (hs : srcOf st.objs x = some es')
  (hkz : kk = zs.length) (hz0 : zs ≠ []) (hpl : plainT es') (hkk : ∀ e ∈ es',e.length = kk) (hb : (es.length + es'.length) * by_ ≤ 140737488355328) (h63 : es.length + es'.length ≤ 9223372036854775807)
  (hd : dstOk st.n o.dst = true) (h : AL P E ops QQ rest ⟨st.n,setT (st.tmps.map fun e => (e.1,e.2.kill [p])) o.dst (.o (.c (.ref p))),(st.objs.map (Ob.kill [p])).set p (.row kk (es ++ es'))⟩) : AL P E ops QQ (o :: rest) st := by
 refine ⟨fun a w ⟨H,F,h1,h2⟩ => ?_⟩
 obtain ⟨v,fp,e1,e2⟩ := h1.ow hp
 obtain ⟨x',fp',e3⟩ := h1.v1 hy
 rw [e1] at e3
 simp only [Pc.ow.injEq] at e3
 obtain ⟨_,hv,_⟩ := e3
 have hnd := h1.ok.nodup p
 rw [e1] at hnd
 obtain ⟨v',w',fp'',hr,h3,h4,h5,h6⟩ := append_plain (P := P) (o := o) (t := t) h1 e2 hnd hkz hz0 (h1.v1 hz) hs hpl hkk hb h63
 obtain ⟨hok,htn⟩ := h1.ok.turn (p := p) (fp := fp) (by rw [e1]; rfl) h6 (.ow (.sl kk (es ++ es')) v' fp'') h3 h4 trivial h5
 obtain ⟨hplt,_⟩ := List.getElem?_eq_some_iff.1 hp
 have hR := h1.turn htn hok ((st.objs.map (Ob.kill [p])).set p (.row kk (es ++ es'))) (fun q hq => ?_) (fun q hq => ?_)
 ·have hR2 := hR.put (x := .o (.c (.ref p))) o.dst hd (v := v') ⟨_,_,Hs.put_self _ _ _⟩
  refine wpList_step fun K hK => ?_
  rw [if_pos (by unfold Region.wanted; rw [hg])]
  unfold Oper.wp
  rw [Y3 ho (by rw [← hv]; exact hr)]
  exact hK _ _ (h.h _ _ ⟨_,F,hR2,h2.turn htn⟩)
 ·have hqp : q ≠ p := by simpa using hq
  rw [List.getD_eq_getElem?_getD,List.getElem?_set_ne (Ne.symm hqp),List.getElem?_map,List.getD_eq_getElem?_getD]
  cases st.objs[q]? <;> rfl
 ·have hqp : q = p := by simpa using hq
  subst hqp
  rw [Y6 (x := .row kk (es ++ es')) (by simp [hplt])]
  exact ⟨_,_,Hs.put_self _ _ _⟩
theorem L_appnil {es' : List (List T)} {x : V1} {e : TypeId} {zs : List Value} {by_ : Nat} [hm : TyMake P t e zs by_] (ho : o.op = .call { callee := .builtin .append,args := #[y,z],argTypes := #[t,t] }) (hg : o.guard = none) (hy : st.ev y = .o (.c (.rd qs (.v (.slice none 0 0))))) (hz : st.ev z = .o (.c x)) (hs : srcOf st.objs x = some es')
  (hz0 : zs ≠ []) (hpl : plainT es') (hkk : ∀ e ∈ es',e.length = zs.length) (hb : es'.length * by_ ≤ 140737488355328) (h63 : es'.length ≤ 9223372036854775807)
  (hd : dstOk st.n o.dst = true) (h : AL P E ops QQ rest ⟨st.n,setT st.tmps o.dst (.o (.c (.ref st.objs.length))),st.objs ++ [.row zs.length es']⟩) : AL P E ops QQ (o :: rest) st := by
 refine ⟨fun a w ⟨H,F,h1,h2⟩ => ?_⟩
 have hv := h1.plain hy
 obtain ⟨v',w',fp'',hr,h3,h4,h5,h6⟩ := append_plain (P := P) (o := o) (t := t) (kk := zs.length) (es := []) h1 (OW.nil _) List.nodup_nil rfl hz0 (h1.v1 hz) hs hpl hkk (by simpa using hb) (by simpa using h63)
 have hn : H st.objs.length = .nil := by
  have := h1.obs st.objs.length
  simpa [List.getD_eq_getElem?_getD,RB] using this
 have hbel : Below w.heap.size w w' := ⟨h6.os,h6.tape,h6.output,h6.size,fun b hb => h6.block b hb (by simp)⟩
 obtain ⟨hok,hgr⟩ := h1.ok.add hbel hn (.ow (.sl zs.length es') v' fp'') h3 h4 trivial (fun b hb => (h5 b hb).resolve_left (by simp))
 have hR := h1.grow (x := .o (.c (.ref st.objs.length))) (v := v') (obs := [.row zs.length es']) (dst := o.dst) hd hgr hok (fun i ob hi => ?_) (fun p hp hh => ?_) ⟨_,_,Hs.put_self _ _ _⟩
 ·refine wpList_step fun K hK => ?_
  rw [if_pos (by unfold Region.wanted; rw [hg])]
  unfold Oper.wp
  rw [Y3 ho (by rw [hv]; exact hr)]
  exact hK _ _ (h.h _ _ ⟨_,F,hR,h2.grow hgr⟩)
 ·cases i with
  | zero => simp at hi; subst hi; exact ⟨_,_,Hs.put_self _ _ _⟩
  | succ i => simp at hi
 ·rw [Hs.put_ne _ _ (by simp only [List.length_cons,List.length_nil] at hh; omega),hp]
end
end
end
end Go.Proofs.YtcjclaoogdblbaaGreat
