/-
  Parts of the proof (rules, data, and what functions of the program and of the reference return), among them: A statement whose order Go leaves open: operations that change nothing that was there may come in any order that their edges allow; the others follow in the order of the text; Rules for stores into elements of owned slices, for literals of structs and slices, and for moving one owned slice into another.
  Conditions: those that each theorem names.
-/
import Derived.Laws.MakeOwn
import Derived.Deep.AppendSrc
import Derived.Test.YtbfhboakafjjgaaDDSpcRowk2
set_option linter.unusedSimpArgs false
set_option linter.unusedVariables false
namespace Go.Proofs.Ytbfhboakafjjgaa
section
open Go.RowKit

def flatV (val : Nat → Nat → Value) (n k : Nat) : List Value := (List.range (n * k)).map fun q => val (q / k) (q % k)
theorem Ys (val : Nat → Nat → Value) (n k : Nat) : (flatV val n k).length = n * k := by simp [flatV]
theorem ij_lt {n k i j : Nat} (hi : i < n) (hj : j < k) : i * k + j < n * k := by
 have h1 : (i + 1) * k ≤ n * k := Nat.mul_le_mul_right k hi
 rw [Nat.succ_mul] at h1
 omega
theorem ij_div {k i j : Nat} (hj : j < k) : (i * k + j) / k = i ∧ (i * k + j) % k = j := by
 constructor
 ·rw [Nat.mul_comm,Nat.mul_add_div (by omega),Nat.div_eq_of_lt hj,Nat.add_zero]
 ·rw [Nat.mul_comm,Nat.mul_add_mod,Nat.mod_eq_of_lt hj]
theorem flatV_at {val : Nat → Nat → Value} {n k i j : Nat} (hi : i < n) (hj : j < k) : (flatV val n k)[i * k + j]? = some (val i j) := by
 simp [flatV,ij_lt hi hj,ij_div hj]
theorem flatV_get {val : Nat → Nat → Value} {n k q : Nat} {u : Value} (h : (flatV val n k)[q]? = some u) : q / k < n ∧ q % k < k ∧ u = val (q / k) (q % k) ∧ q / k * k + q % k = q := by
 have h1 := Yu h
 rw [Ys] at h1
 have hk : 0 < k := by
  rcases Nat.eq_zero_or_pos k with rfl | h
  ·simp at h1
  ·exact h
 refine ⟨Nat.div_lt_of_lt_mul (by rwa [Nat.mul_comm] at h1),Nat.mod_lt _ hk,?_,by rw [Nat.mul_comm]; exact Nat.div_add_mod q k⟩
 simp [flatV,h1] at h
 exact h.symm

theorem OW.open_ {w : World} {k : Nat} {es : List (List T)} {v : Value} {fp : List Nat} (h : OW w (.sl k es) v fp) : (v = .slice none 0 0 ∧ es = [] ∧ fp = []) ∨
  ∃ (b o c : Nat) (tid : TypeId) (cur : Array Value) (fz : Nat × Nat) (val : Nat → Nat → Value) (fps : List (List (List Nat))),v = .slice (some ⟨b,o,none⟩) es.length c ∧ fp = b :: fps.flatten.flatten ∧ w.heap[b]? = some (.cells cur tid fz) ∧ (fz = (0,0) ∨ cur.size ≤ fz.1) ∧
   es.length ≤ c ∧ c ≤ maxLen ∧ o + c * k ≤ cur.size ∧ 0 < k ∧ (∀ e ∈ es,e.length = k) ∧ fps.length = es.length ∧ (∀ f ∈ fps,f.length = k) ∧
   (∀ i j,i < es.length → j < k → cur[o + i * k + j]? = some (val i j)) ∧
   (∀ (i j : Nat) (e : List T) (t : T) (fs : List (List Nat)) (f : List Nat),es[i]? = some e → e[j]? = some t → fps[i]? = some fs → fs[j]? = some f → OW w t (val i j) f) := by
 cases h with
 | nil => exact .inl ⟨rfl,rfl,rfl⟩
 | sl _ b o _ c tid cur fz val fps hg hz hc hm hs hp hk hf hfk hv ht => exact .inr ⟨b,o,c,tid,cur,fz,val,fps,rfl,rfl,hg,hz,hc,hm,hs,hp,hk,hf,hfk,hv,ht⟩

theorem OW.join {w : World} {k : Nat} {es es' : List (List T)} {b o c : Nat} {tid : TypeId} {cur : Array Value} {fz : Nat × Nat} {val val' : Nat → Nat → Value} {fps fps' : List (List (List Nat))}
  (hg : w.heap[b]? = some (.cells cur tid fz)) (hz : fz = (0,0) ∨ cur.size ≤ fz.1) (hc : es.length + es'.length ≤ c) (hm : c ≤ maxLen) (hs : o + c * k ≤ cur.size) (hp : 0 < k) (hk : ∀ e ∈ es,e.length = k) (hk' : ∀ e ∈ es',e.length = k)
  (hf : fps.length = es.length) (hf' : fps'.length = es'.length) (hfk : ∀ f ∈ fps,f.length = k) (hfk' : ∀ f ∈ fps',f.length = k)
  (hv : ∀ i j,i < es.length → j < k → cur[o + i * k + j]? = some (val i j)) (hv' : ∀ i j,i < es'.length → j < k → cur[o + (es.length + i) * k + j]? = some (val' i j))
  (ht : ∀ (i j : Nat) (e : List T) (t : T) (fs : List (List Nat)) (f : List Nat),es[i]? = some e → e[j]? = some t → fps[i]? = some fs → fs[j]? = some f → OW w t (val i j) f)
  (ht' : ∀ (i j : Nat) (e : List T) (t : T) (fs : List (List Nat)) (f : List Nat),es'[i]? = some e → e[j]? = some t → fps'[i]? = some fs → fs[j]? = some f → OW w t (val' i j) f) :
  OW w (.sl k (es ++ es')) (.slice (some ⟨b,o,none⟩) (es.length + es'.length) c) (b :: (fps ++ fps').flatten.flatten) := by
 have hn : es.length + es'.length = (es ++ es').length := by simp
 rw [hn] at hc ⊢
 refine .sl (es ++ es') b o k c tid cur fz (fun i j => if i < es.length then val i j else val' (i - es.length) j) (fps ++ fps') hg hz hc hm hs hp ?_ (by simp [hf,hf']) ?_ (fun i j hi hj => ?_) fun i j e t fs f h1 h2 h3 h4 => ?_
 ·intro e he
  rcases List.mem_append.1 he with he | he
  ·exact hk e he
  ·exact hk' e he
 ·intro e he
  rcases List.mem_append.1 he with he | he
  ·exact hfk e he
  ·exact hfk' e he
 ·show _ = some (if i < es.length then _ else _)
  by_cases h : i < es.length
  ·rw [if_pos h]; exact hv i j h hj
  ·rw [if_neg h]
   have := hv' (i - es.length) j (by rw [← hn] at hi; omega) hj
   rwa [show es.length + (i - es.length) = i by omega] at this
 ·show OW w t (if i < es.length then _ else _) f
  by_cases h : i < es.length
  ·rw [if_pos h]
   exact ht i j e t fs f (by rwa [List.getElem?_append_left h] at h1) h2 (by rwa [List.getElem?_append_left (by omega)] at h3) h4
  ·rw [if_neg h]
   exact ht' (i - es.length) j e t fs f (by rwa [List.getElem?_append_right (by omega)] at h1) h2 (by rw [List.getElem?_append_right (by omega),hf] at h3; exact h3) h4

section
variable {P : Program} {w : World}

theorem Yw (b : Nat) (tid : TypeId) (fz : Nat × Nat) : ∀ (us : List Value) (off : Nat) (w : World) (cur : Array Value),w.heap[b]? = some (.cells cur tid fz) → off + us.length ≤ cur.size →
  ∃ cur' : Array Value,(w.setCells b off us).heap[b]? = some (.cells cur' tid fz) ∧ cur'.size = cur.size ∧ (∀ q,q < us.length → cur'[off + q]? = us[q]?) ∧ ∀ q,(q < off ∨ off + us.length ≤ q) → cur'[q]? = cur[q]?
 | [],off,w,cur,h,_ => ⟨cur,h,rfl,fun q hq => by simp at hq,fun q _ => rfl⟩
 | u :: us,off,w,cur,h,hl => by
  have h1 : (w.setCell ⟨b,off,none⟩ u).heap[b]? = some (.cells (cur.setIfInBounds off u) tid fz) := by
   simp [World.setCell,Array.getElem?_modify,h]
  obtain ⟨cur',h2,h3,h4,h5⟩ := Yw b tid fz us (off + 1) _ _ h1 (by simp at hl ⊢; omega)
  refine ⟨cur',h2,by simpa using h3,fun q hq => ?_,fun q hq => ?_⟩
  ·cases q with
   | zero =>
    rw [Nat.add_zero,h5 off (.inl (by omega))]
    simp at hl
    simp [show off < cur.size by omega]
   | succ q =>
    rw [show off + (q + 1) = off + 1 + q by omega,h4 q (by simpa using hq)]
    simp
  ·rw [h5 q (by simp at hq; omega),Array.getElem?_setIfInBounds_ne (by simp at hq; omega)]
theorem Z7 (w : World) (b : Nat) : ∀ (us : List Value) (off : Nat),(w.setCells b off us).os = w.os ∧ (w.setCells b off us).tape = w.tape ∧ (w.setCells b off us).output = w.output ∧ (w.setCells b off us).heap.size = w.heap.size ∧ ∀ k,k ≠ b → (w.setCells b off us).heap[k]? = w.heap[k]? := by
 intro us
 induction us generalizing w with
 | nil => intro off; exact ⟨rfl,rfl,rfl,rfl,fun _ _ => rfl⟩
 | cons u us ih =>
  intro off
  obtain ⟨h1,h2,h3,h4,h5⟩ := ih (w.setCell ⟨b,off,none⟩ u) (off + 1)
  exact ⟨h1,h2,h3,h4.trans (by simp [World.setCell]),fun k hk => (h5 k hk).trans (Below.heap_setCell _ _ _ _ hk)⟩
theorem frozen_fz {w : World} {b o : Nat} {cur : Array Value} {tid : TypeId} {fz : Nat × Nat} (hg : w.heap[b]? = some (.cells cur tid fz)) (hz : fz = (0,0) ∨ cur.size ≤ fz.1) (ho : o < cur.size) : w.frozen? ⟨b,o,none⟩ = false := by
 obtain ⟨lo,hi⟩ := fz
 rcases hz with e | hz
 ·cases e; simp [World.frozen?,hg]
 ·simp only at hz
  simp only [World.frozen?,hg,Bool.and_eq_false_iff,decide_eq_false_iff_not]
  exact .inl (by omega)

theorem run_append_nil0 (t tx ty e : TypeId) (i : TypeInfo) (ht : P.underlying t = some (.slice e)) (hi : P.info? e = some i) (x : Value) (news : List Value) (hs : Src P i.size tx x 0 news w) :
  (Builtin.append_ #[t,tx] ty #[.slice none 0 0,x]).run P w = .ok (.slice none 0 0) w := by
 rcases hs.kind with ⟨e',hk⟩ | hk <;> simp [Builtin.append_,run_underlying ht,run_underlying hk,sizeOf,typeInfo,hi,hs.len,hs.cells]

structure Keeps (w w' : World) (fp : List Nat) : Prop where
 os : w'.os = w.os
 tape : w'.tape = w.tape
 output : w'.output = w.output
 size : w.heap.size ≤ w'.heap.size
 block : ∀ b,b < w.heap.size → b ∉ fp → w'.heap[b]? = w.heap[b]?

theorem run_append_ow {t tx ty e : TypeId} {zs : List Value} {by_ : Nat} [hm : TyMake P t e zs by_] {k : Nat} {es : List (List T)} {v : Value} {fp : List Nat} (h : OW w (.sl k es) v fp) (hkz : k = zs.length) (hz : 0 < zs.length) (hnd : fp.Nodup)
  (es' : List (List T)) (val' : Nat → Nat → Value) (fps' : List (List (List Nat))) (x : Value) (hk' : ∀ e ∈ es',e.length = k)
  (hsrc : Src P k tx x es'.length (flatV val' es'.length k) w)
  (hf' : fps'.length = es'.length) (hfk' : ∀ f ∈ fps',f.length = k)
  (hOW : ∀ (i j : Nat) (e : List T) (t : T) (fs : List (List Nat)) (f : List Nat),es'[i]? = some e → e[j]? = some t → fps'[i]? = some fs → fs[j]? = some f → OW w t (val' i j) f)
  (hnd' : fps'.flatten.flatten.Nodup) (hdis : ∀ b ∈ fp,b ∉ fps'.flatten.flatten)
  (hb : (es.length + es'.length) * by_ ≤ 140737488355328) (h63 : es.length + es'.length ≤ maxLen) :
  ∃ v' w' fp',(Builtin.append_ #[t,tx] ty #[v,x]).run P w = .ok v' w' ∧ OW w' (.sl k (es ++ es')) v' fp' ∧ fp'.Nodup ∧
   (∀ b ∈ fp',b ∈ fp ∨ b ∈ fps'.flatten.flatten ∨ w.heap.size ≤ b) ∧ Keeps w w' fp := by
 obtain ⟨i,hi,hzz⟩ := Option.map_eq_some_iff.1 hm.info
 simp only [Prod.mk.injEq] at hzz
 obtain ⟨hz1,hs,hb1⟩ := hzz
 obtain ⟨z,hz2,hz3⟩ := Option.map_eq_some_iff.1 hz1
 have hzc : z.cells.size = zs.length := by rw [← hz3]; simp
 have hsk : i.size = k := by rw [hs,hkz]
 have hsrc : Src P i.size tx x es'.length (flatV val' es'.length k) w := by rw [hsk]; exact hsrc
 have hkp : 0 < k := by rw [hkz]; exact hz
 have hltn : ∀ b ∈ fps'.flatten.flatten,b < w.heap.size := by
  intro b hb
  obtain ⟨f,hf1,hf2⟩ := List.mem_flatten.1 hb
  obtain ⟨fs,hs1,hs2⟩ := List.mem_flatten.1 hf1
  obtain ⟨q,hq⟩ := List.getElem?_of_mem hs1
  obtain ⟨j,hj⟩ := List.getElem?_of_mem hs2
  have h1 : q < es'.length := by rw [← hf']; exact Yu hq
  have h2 : j < (es'[q]).length := by rw [hk' _ (List.getElem_mem h1),← hfk' _ hs1]; exact Yu hj
  exact OW.lt (hOW q j _ _ _ _ (List.getElem?_eq_getElem h1) (List.getElem?_eq_getElem h2) hq hj) b hf2
 -- a new block
 have grown : ∀ (val : Nat → Nat → Value) (fps : List (List (List Nat))) (old : Nat),(∀ e ∈ es,e.length = k) → fps.length = es.length → (∀ f ∈ fps,f.length = k) →
   (∀ (i j : Nat) (e : List T) (t : T) (fs : List (List Nat)) (f : List Nat),es[i]? = some e → e[j]? = some t → fps[i]? = some fs → fs[j]? = some f → OW w t (val i j) f) → (∀ b ∈ fps.flatten.flatten,b < w.heap.size) →
   OW (w.drew.alloc (.cells ((flatV val es.length k ++ flatV val' es'.length k).toArray ++ Builtin.zeroCells z.cells (grownCap w (es.length + es'.length) old e - (es.length + es'.length))) e)) (.sl k (es ++ es'))
    (.slice (some ⟨w.heap.size,0,none⟩) (es.length + es'.length) (grownCap w (es.length + es'.length) old e)) (w.heap.size :: (fps ++ fps').flatten.flatten) := by
  intro val fps old g1 g2 g3 g4 g5
  have hge := grownCap_ge w (es.length + es'.length) old e
  have hfr : ∀ {t : T} {u : Value} {f : List Nat},OW w t u f → (∀ b ∈ f,b < w.heap.size) → OW (w.drew.alloc (.cells ((flatV val es.length k ++ flatV val' es'.length k).toArray ++ Builtin.zeroCells z.cells (grownCap w (es.length + es'.length) old e - (es.length + es'.length))) e)) t u f :=
   fun h hl => h.frame fun b hb => Below.heap_alloc w.drew _ b (hl b hb)
  refine OW.join (heap_alloc_new w.drew _) (.inl J) hge (grownCap_le_maxLen w _ old e h63) ?_ hkp g1 hk' g2 hf' g3 hfk' (fun i j hi hj => ?_) (fun i j hi hj => ?_) (fun i j e t fs f h1 h2 h3 h4 => hfr (g4 i j e t fs f h1 h2 h3 h4) fun b hb => g5 b (mem_ff h3 h4 hb))
   fun i j e t fs f h1 h2 h3 h4 => hfr (hOW i j e t fs f h1 h2 h3 h4) fun b hb => hltn b (mem_ff h3 h4 hb)
  ·simp only [Array.size_append,List.size_toArray,List.length_append,size_zeroCells,Ys,hzc,← hkz,← Nat.add_mul]
   rw [Nat.zero_add]
   exact Nat.le_of_eq (by congr 1; omega)
  ·have h1 := flatV_at (val := val) hi hj
   have h2 := Yu h1
   rw [Nat.zero_add,Array.getElem?_append_left (by simp only [List.size_toArray,List.length_append]; omega)]
   simp only [List.getElem?_toArray]
   rw [List.getElem?_append_left h2]
   exact h1
  ·have h1 := flatV_at (val := val') hi hj
   have h2 := Yu h1
   have h3 : (es.length + i) * k + j = es.length * k + (i * k + j) := by rw [Nat.add_mul]; omega
   rw [Nat.zero_add,h3,Array.getElem?_append_left (by simp only [List.size_toArray,List.length_append,Ys] at h2 ⊢; omega)]
   simp only [List.getElem?_toArray]
   rw [List.getElem?_append_right (by rw [Ys]; omega),Ys,Nat.add_sub_cancel_left]
   exact h1
 rcases h.open_ with ⟨rfl,rfl,rfl⟩ | ⟨b,o,c,tid,cur,fz,val,fps,rfl,rfl,hg,hzf,hc,hcm,hcs,hp,hk,hf,hfk,hv,ht⟩
 ·by_cases he' : es'.length = 0
  ·have he0 := List.eq_nil_of_length_eq_zero he'
   subst he0
   have hfe : fps' = [] := List.eq_nil_of_length_eq_zero (by simpa using hf')
   subst hfe
   exact ⟨_,w,[],run_append_nil0 t tx ty e i hm.slice hi x _ hsrc,by simpa using h,hnd,fun b hb => .inl hb,J,J,J,Nat.le_refl _,fun _ _ _ => rfl⟩
  ·have hr := run_append_grow_src (P := P) w t tx ty e i z hm.slice hi hz2 none 0 0 [] (by simp [Builtin.firstCells]) x es'.length _ hsrc (by omega) (by simp [maxLen] at h63; omega) (growslice_fits (by omega) (by rw [hb1]; simpa using hb))
   have hg := grown (fun _ _ => undef) [] 0 (by simp) rfl (by simp) (by simp) (by simp)
   have h0 : flatV (fun _ _ => undef) 0 k = [] := by simp [flatV]
   simp only [List.length_nil,Nat.zero_add,List.nil_append,h0] at hg hr
   refine ⟨_,_,w.heap.size :: fps'.flatten.flatten,hr,by simpa using hg,?_,?_,J,J,J,by simp,fun b hb _ => Below.heap_alloc w.drew _ b hb⟩
   ·refine List.nodup_cons.2 ⟨fun hh => ?_,hnd'⟩
    have := hltn _ hh
    omega
   ·intro b hb
    rcases List.mem_cons.1 hb with rfl | hb
    ·exact .inr (.inr (Nat.le_refl _))
    ·exact .inr (.inl hb)
 ·have hblt : b < w.heap.size := (Array.getElem?_eq_some_iff.1 hg).1
  have hndf := (List.nodup_cons.1 hnd)
  by_cases hroom : es.length + es'.length ≤ c
  ·have hmul : (es.length + es'.length) * k ≤ c * k := Nat.mul_le_mul_right _ hroom
   rw [Nat.add_mul] at hmul
   have hr := run_append_room_src (P := P) w t tx ty e i hm.slice hi b o es.length c x es'.length _ hsrc hroom (fun j hj => by
    rw [cell_of_row w b _ cur tid fz hg]
    rw [Ys] at hj
    rw [hsk]
    simp
    omega) (fun j hj => by
    rw [Ys] at hj
    rw [hsk]
    exact frozen_fz hg hzf (by omega))
   rw [hsk] at hr
   obtain ⟨cur',k1,k2,k3,k4⟩ := Yw b tid fz (flatV val' es'.length k) (o + es.length * k) w cur hg (by rw [Ys]; omega)
   obtain ⟨s1,s2,s3,s4,s5⟩ := Z7 w b (flatV val' es'.length k) (o + es.length * k)
   have hfr : ∀ {t : T} {u : Value} {f : List Nat},OW w t u f → b ∉ f → OW (w.setCells b (o + es.length * k) (flatV val' es'.length k)) t u f :=
    fun h hl => h.frame fun b' hb' => s5 b' fun e => hl (e ▸ hb')
   refine ⟨_,_,_,hr,OW.join k1 (by rw [k2]; exact hzf) hroom hcm (by rw [k2]; exact hcs) hp hk hk' hf hf' hfk hfk' (fun i j hi hj => ?_) (fun i j hi hj => ?_) (fun i j e t fs f h1 h2 h3 h4 => hfr (ht i j e t fs f h1 h2 h3 h4) fun hh => hndf.1 (mem_ff h3 h4 hh))
    (fun i j e t fs f h1 h2 h3 h4 => hfr (hOW i j e t fs f h1 h2 h3 h4) fun hh => hdis b (by simp) (mem_ff h3 h4 hh)),?_,?_,s1,s2,s3,by omega,fun b'' _ hb'' => s5 b'' fun e => hb'' (by simp [e])⟩
   ·have h1 := ij_lt hi hj
    rw [k4 _ (.inl (by omega))]
    exact hv i j hi hj
   ·have h1 := ij_lt hi hj
    have h3 : o + (es.length + i) * k + j = o + es.length * k + (i * k + j) := by rw [Nat.add_mul]; omega
    rw [h3,k3 _ (by rw [Ys]; exact h1)]
    exact flatV_at hi hj
   ·refine List.nodup_cons.2 ⟨fun hh => ?_,?_⟩
    ·rw [List.flatten_append,List.flatten_append] at hh
     rcases List.mem_append.1 hh with hh | hh
     ·exact hndf.1 hh
     ·exact hdis b (by simp) hh
    ·rw [List.flatten_append,List.flatten_append]
     exact List.nodup_append.2 ⟨hndf.2,hnd',fun x hx y hy e => hdis x (List.mem_cons_of_mem _ hx) (e ▸ hy)⟩
   ·intro x hx
    rcases List.mem_cons.1 hx with rfl | hx
    ·exact .inl (by simp)
    ·rw [List.flatten_append,List.flatten_append] at hx
     rcases List.mem_append.1 hx with hx | hx
     ·exact .inl (List.mem_cons_of_mem _ hx)
     ·exact .inr (.inl hx)
  ·have holds : ∀ j u,(flatV val es.length k)[j]? = some u → w.drew.cell? ((⟨b,o,none⟩ : Addr).add j) = some u := by
    intro j u hj
    obtain ⟨h1,h2,rfl,h3⟩ := flatV_get hj
    show w.cell? _ = _
    rw [add_lit,cell_of_row w b (o + j) cur tid fz hg,← hv _ _ h1 h2,Nat.add_assoc,h3]
   have hr := run_append_grow_src (P := P) w t tx ty e i z hm.slice hi hz2 (some ⟨b,o,none⟩) es.length c (flatV val es.length k) (run_firstCells_some w.drew i.size es.length ⟨b,o,none⟩ es.length c _ (by rw [Ys,hsk]) holds) x es'.length _ hsrc (by omega) (by simp [maxLen] at h63; omega) (growslice_fits (by omega) (by rw [hb1]; exact hb))
   have h5 : ∀ x ∈ fps.flatten.flatten,x < w.heap.size := by
    intro x hx
    exact h.lt x (List.mem_cons_of_mem _ hx)
   refine ⟨_,_,_,hr,grown val fps c hk hf hfk ht h5,?_,?_,J,J,J,by simp,fun b hb _ => Below.heap_alloc w.drew _ b hb⟩
   ·refine List.nodup_cons.2 ⟨fun hh => ?_,?_⟩
    ·rw [List.flatten_append,List.flatten_append] at hh
     rcases List.mem_append.1 hh with hh | hh
     ·have := h5 _ hh; omega
     ·have := hltn _ hh; omega
    ·rw [List.flatten_append,List.flatten_append]
     exact List.nodup_append.2 ⟨hndf.2,hnd',fun x hx y hy e => hdis x (List.mem_cons_of_mem _ hx) (e ▸ hy)⟩
   ·intro x hx
    rcases List.mem_cons.1 hx with rfl | hx
    ·exact .inr (.inr (Nat.le_refl _))
    ·rw [List.flatten_append,List.flatten_append] at hx
     rcases List.mem_append.1 hx with hx | hx
     ·exact .inl (List.mem_cons_of_mem _ hx)
     ·exact .inr (.inl hx)

theorem src_slice {t e : TypeId} {zs : List Value} {by_ : Nat} [hm : TyMake P t e zs by_] {k : Nat} (es' : List (List T)) (val' : Nat → Nat → Value) (A : Option Addr) (c' : Nat)
  (hA : es' ≠ [] → ∃ b' o',A = some ⟨b',o',none⟩ ∧ ∀ i j,i < es'.length → j < k → w.cell? ⟨b',o' + i * k + j,none⟩ = some (val' i j))
  (hOne : ∀ i j,i < es'.length → j < k → (val' i j).oneCell' = true) : Src P k t (.slice A es'.length c') es'.length (flatV val' es'.length k) w := by
 have hone : ∀ u ∈ flatV val' es'.length k,u.oneCell' = true := by
  intro u hu
  obtain ⟨q,hq⟩ := List.getElem?_of_mem hu
  obtain ⟨h1,h2,rfl,_⟩ := flatV_get hq
  exact hOne _ _ h1 h2
 by_cases he : es' = []
 ·subst he
  have h0 : flatV val' 0 k = [] := by simp [flatV]
  simp only [List.length_nil,h0]
  cases A with
  | none => exact .ofNil w hm.slice c'
  | some a => exact .ofSlice w hm.slice a 0 c' [] (by simp) (fun j u h => by simp at h) (fun u h => by simp at h)
 ·obtain ⟨b',o',rfl,hc⟩ := hA he
  refine .ofSlice w hm.slice _ _ c' _ (Ys _ _ _) (fun j u hj => ?_) hone
  obtain ⟨h1,h2,rfl,h3⟩ := flatV_get hj
  rw [add_lit,← hc _ _ h1 h2,Nat.add_assoc,h3]
end
end
section
open Go.RowKit

def V1.known : V1 → Bool
 | .un => false
 | _ => true
theorem V1.known_ne {x : V1} (h : x.known = true) : x ≠ .un := by cases x <;> simp [V1.known] at h ⊢
def zV (v : Value) : V1 := .rd [] (.v v)

section
variable {P : Program} {E : Env} {ops : Array Oper} {o : Oper} {st : St} {n : Nat} {rest : List Oper} {QQ : Exit → St → Prop} {w w' : World} {H H' : Hs} {F : Nat → Prop} {a : Act}

theorem Ok.add (h : Ok w H F) (hb : Below w.heap.size w w') {p : Nat} (hp : H p = .nil) (q : Pc) (hs : q.says w') (hn : q.fp.Nodup) (hng : q.ng) (hf : ∀ b ∈ q.fp,w.heap.size ≤ b) : Ok w' (H.put p q) F ∧ Grow w H F w' (H.put p q) F := by
 have hne : ∀ r,r ≠ p → H.put p q r = H r := fun r hr => Hs.put_ne H q hr
 refine ⟨⟨fun r => ?_,fun r => ?_,fun r s b h1 h2 => ?_,fun r b h1 h2 => ?_,fun b hb' => Nat.lt_of_lt_of_le (h.flt b hb') hb.size⟩,hb,fun r hr => hne r fun e => hr (e ▸ hp),fun _ h => h,fun _ h => .inl h,fun r hr b hb' => ?_,fun r i v hr => ?_⟩
 ·by_cases e : r = p
  ·subst e; rw [Hs.put_self]; exact hs
  ·rw [hne r e]; exact Pc.frame (fun b hb' => hb.block b (h.lt hb')) (h.says r)
 ·by_cases e : r = p
  ·subst e; rw [Hs.put_self]; exact hn
  ·rw [hne r e]; exact h.nodup r
 ·by_cases e : r = p
  ·by_cases e' : s = p
   ·rw [e,e']
   ·rw [e,Hs.put_self] at h1
    rw [hne s e'] at h2
    have := hf b h1
    have := h.lt h2
    omega
  ·rw [hne r e] at h1
   by_cases e' : s = p
   ·rw [e',Hs.put_self] at h2
    have := hf b h2
    have := h.lt h1
    omega
   ·rw [hne s e'] at h2
    exact h.disj r s b h1 h2
 ·by_cases e : r = p
  ·rw [e,Hs.put_self] at h1
   have := hf b h1
   have := h.flt b h2
   omega
  ·rw [hne r e] at h1
   exact h.free r b h1 h2
 ·by_cases e : r = p
  ·rw [e,Hs.put_self] at hb'; exact hf b hb'
  ·rw [hne r e,hr] at hb'
   simp [Pc.fp] at hb'
 ·by_cases e : r = p
  ·rw [e,Hs.put_self] at hr
   rw [hr] at hng
   exact hng.elim
  ·exact ⟨r,by rw [← hne r e]; exact hr⟩

theorem Qt.new {x : V} {ob : Ob} (hg : o.guard = none) (h : ∀ a w H F,R0 w H F st a → H n = .nil → ∃ v w' q,(execOp a.eval o).run P w = .ok (.value v) w' ∧ Below w.heap.size w w' ∧ q.says w' ∧ (q.fp.Nodup ∧ q.ng) ∧ (∀ b ∈ q.fp,w.heap.size ≤ b) ∧
  (∀ H',Grow w H F w' H' F → H' n = q → RB w' H' F n ob ∧ RV w' H' F x v)) : Qt P ops o st x [ob] n := by
 refine ⟨fun a w H F Q K hr hfree hK => ?_⟩
 have hn : H n = .nil := by simpa using hfree 0 (by simp)
 obtain ⟨v,w',q,h1,h2,h3,h4,h5,h6⟩ := h a w H F hr hn
 obtain ⟨hok,hgr⟩ := hr.ok.add h2 hn q h3 h4.1 h4.2 h5
 obtain ⟨h7,h8⟩ := h6 _ hgr (Hs.put_self H n q)
 rw [if_pos (by unfold Region.wanted; rw [hg])]
 unfold Oper.wp
 rw [h1]
 refine hK v w' _ F hgr hok (fun i ob' hi => ?_) (fun p hp hh => ?_) h8
 ·cases i with
  | zero => simp at hi; subst hi; exact h7
  | succ i => simp at hi
 ·rw [Hs.put_ne H q (by simp only [List.length_cons,List.length_nil] at hh; omega),hp]

section
variable {y z : Operand} {t t' : TypeId} {k : IntKind} {i j : Int} {ps qs : List Nat}

theorem Qq {xs : List V1} (ho : o.op = .box t y) (hg : o.guard = none) (hy : st.ev y = .o (.ag xs)) (hk : xs.all V1.known = true) : Qt P ops o st (.o (.c (.ptr n 0))) [.box xs] n :=
 .new hg fun a w H F hr hn => by
  have h1 := hr.ev y
  rw [hy] at h1
  obtain ⟨us,e,hl,hc⟩ := h1
  refine ⟨.pointer (some ⟨w.heap.size,0,none⟩),w.alloc (.cells us.toArray t),.box w.heap.size t us,?_,(Below.refl _ _).alloc (Nat.le_refl _) _,heap_alloc_new w _,by simp [Pc.fp,Pc.ng],fun b hb => by simp [Pc.fp] at hb; omega,fun H' hgr hq => ⟨⟨_,_,_,hq,hl,fun i c u hi hu => ⟨hgr.r1 (hc i c u hi hu),?_⟩⟩,_,_,_,hq,J⟩⟩
  ·unfold execOp
   simp only [ho,e]
   rfl
  ·exact R1.one (V1.known_ne (List.all_eq_true.1 hk c (Yv hi))) hr.ok (hc i c u hi hu)
theorem Qx {zs : List Value} [hz : TyZero P t zs] (ho : o.op = .alloc t) (hg : o.guard = none) (h1 : zs.all (·.oneCell') = true) : Qt P ops o st (.o (.c (.ptr n 0))) [.box (zs.map zV)] n :=
 .new hg fun a w H F hr hn => by
  obtain ⟨zv,hzv,hzc⟩ := run_zeroValue (P := P) (w := w) t (zs := zs)
  refine ⟨.pointer (some ⟨w.heap.size,0,none⟩),w.alloc (.cells zs.toArray t),.box w.heap.size t zs,?_,(Below.refl _ _).alloc (Nat.le_refl _) _,heap_alloc_new w _,by simp [Pc.fp,Pc.ng],fun b hb => by simp [Pc.fp] at hb; omega,fun H' hgr hq => ⟨⟨_,_,_,hq,by simp,fun i c u hi hu => ?_⟩,_,_,_,hq,J⟩⟩
  ·unfold execOp
   simp only [ho,Instr.alloc,Sem.run_bind,hzv,Result.andThen_ok,newVar,newRow,hzc]
   rfl
  ·rw [List.getElem?_map] at hi
   obtain ⟨z,h2,rfl⟩ := Option.map_eq_some_iff.1 hi
   rw [h2] at hu
   simp only [Option.some.injEq] at hu
   subst hu
   have h3 := List.all_eq_true.1 h1 z (Yv h2)
   exact ⟨RO.v _ h3,h3⟩

def zT (k : Nat) : Value → T
 | .slice none 0 0 => .sl k []
 | v => .v v
theorem ow_zT {w : World} {k : Nat} {v : Value} (h : v.oneCell' = true) : OW w (zT k v) v [] := by
 unfold zT
 split
 ·exact .nil k
 ·exact .v _ h
theorem q_makec {e : TypeId} {zs : List Value} {by_ : Nat} [hm : TyMake P t e zs by_] {k' : IntKind} (kk : Nat) (ho : o.op = .makeSlice t y z) (hg : o.guard = none) (hy : st.ev y = .o (.c (.rd ps (.v (.int k i))))) (hz : st.ev z = .o (.c (.rd qs (.v (.int k' j)))))
  (h0 : 0 ≤ i) (hij : i ≤ j) (hb : (by_ : Int) * j ≤ 281474976710656) (h63 : j ≤ 9223372036854775807) (h1 : zs.all (·.oneCell') = true) (hz0 : zs ≠ []) : Qt P ops o st (.o (.c (.ref n))) [.row zs.length (List.replicate i.toNat (zs.map (zT kk)))] n :=
 .new hg fun a w H F hr hn => by
  obtain ⟨inf,hi,hzz⟩ := Option.map_eq_some_iff.1 hm.info
  simp only [Prod.mk.injEq] at hzz
  obtain ⟨hz1,hs,hb1⟩ := hzz
  obtain ⟨zv,hz2,hz3⟩ := Option.map_eq_some_iff.1 hz1
  have hr' := run_make (P := P) w t e inf zv hm.slice hi hz2 k k' i j h0 hij (by rw [hb1]; exact hb) h63
  have hzp : 0 < zs.length := List.length_pos_iff.2 hz0
  have hzc : zv.cells.size = zs.length := by rw [← hz3]; simp
  have hlen : (List.replicate i.toNat (zs.map (zT kk))).length = i.toNat := by simp
  have hnt : i.toNat ≤ j.toNat := by omega
  have hnm : i.toNat * zs.length ≤ j.toNat * zs.length := Nat.mul_le_mul_right _ hnt
  refine ⟨.slice (some ⟨w.heap.size,0,none⟩) i.toNat j.toNat,w.alloc (.cells (madeCells zv.cells (j.toNat * inf.size)) e),.ow (.sl zs.length (List.replicate i.toNat (zs.map (zT kk)))) (.slice (some ⟨w.heap.size,0,none⟩) i.toNat j.toNat) (w.heap.size :: (List.replicate i.toNat (List.replicate zs.length [])).flatten.flatten),?_,(Below.refl _ _).alloc (Nat.le_refl _) _,?_,?_,?_,fun H' hgr hq => ⟨⟨_,_,hq⟩,_,_,hq⟩⟩
  ·unfold execOp
   simp only [ho,hr.plain hy,hr.plain hz,Sem.run_bind,hr',Result.andThen_ok]
   rfl
  ·have := OW.sl (w := w.alloc (.cells (madeCells zv.cells (j.toNat * inf.size)) e)) (List.replicate i.toNat (zs.map (zT kk))) w.heap.size 0 zs.length j.toNat e (madeCells zv.cells (j.toNat * inf.size)) (0,0) (fun _ j => zs.getD j undef) (List.replicate i.toNat (List.replicate zs.length [])) (heap_alloc_new w _) (.inl rfl)
    (by simp; omega) (by simp [maxLen]; omega) (by rw [size_madeCells,hs]; omega) hzp (fun e he => by rw [(List.mem_replicate.1 he).2]; simp) (by simp) (fun f hf => by rw [(List.mem_replicate.1 hf).2]; simp) (fun p q hp hq => ?_) (fun p q e' t fs f h3 h4 h5 h6 => ?_)
   ·rw [hlen] at this; exact this
   ·rw [hlen] at hp
    have h3 : p * zs.length + q < j.toNat * zs.length := Nat.lt_of_lt_of_le (ij_lt hp hq) hnm
    have h4 := ij_div (i := p) hq
    have h5 : zv.cells[q]? = zs[q]? := by rw [← hz3]; simp
    simp only [madeCells,Nat.zero_add,hs,hzc]
    rw [Array.getElem?_map,Array.getElem?_range,if_pos h3]
    simp only [Option.map_some,h4.2,List.getD_eq_getElem?_getD,List.getElem?_eq_getElem hq,Option.getD_some]
    rw [List.getElem?_eq_getElem hq] at h5
    exact congrArg some (by rw [getElem!_def,h5])
   ·rw [(List.mem_replicate.1 (Yv h3)).2] at h4
    rw [(List.mem_replicate.1 (Yv h5)).2] at h6
    rw [List.getElem?_map] at h4
    obtain ⟨u,h7,rfl⟩ := Option.map_eq_some_iff.1 h4
    have h8 := (List.mem_replicate.1 (Yv h6)).2
    subst h8
    rw [Yt h7]
    exact ow_zT (List.all_eq_true.1 h1 u (Yv h7))
  ·have : (List.replicate i.toNat (List.replicate zs.length ([] : List Nat))).flatten.flatten = [] := by simp
   refine ⟨?_,trivial⟩
   show (w.heap.size :: _).Nodup
   rw [this]
   simp
  ·intro b hb
   have : (List.replicate i.toNat (List.replicate zs.length ([] : List Nat))).flatten.flatten = [] := by simp
   simp only [Pc.fp,this,List.mem_singleton] at hb
   omega
theorem q_make {e : TypeId} {zs : List Value} {by_ : Nat} [hm : TyMake P t e zs by_] {k' : IntKind} (kk : Nat) (ho : o.op = .makeSlice t y z) (hg : o.guard = none) (hy : st.ev y = .o (.c (.rd ps (.v (.int k i))))) (hz : st.ev z = .o (.c (.rd qs (.v (.int k' i)))))
  (h0 : 0 ≤ i) (hb : (by_ : Int) * i ≤ 281474976710656) (h63 : i ≤ 9223372036854775807) (h1 : zs.all (·.oneCell') = true) (hz0 : zs ≠ []) : Qt P ops o st (.o (.c (.ref n))) [.row zs.length (List.replicate i.toNat (zs.map (zT kk)))] n :=
 q_makec kk ho hg hy hz h0 (Int.le_refl _) hb h63 h1 hz0
end

/-! ### Calls -/
class FunOk (P : Program) (f : FuncId) : Prop where
 ok : (P.funcs[f]?).map (fun fn => !(fn.name == "runtime.NumGoroutine") && fn.body.isSome) = some true
theorem run_callFunc {f : FuncId} [hf : FunOk P f] (args : Array Value) : (callFunc f args).run P w = .ok (.enter f args) w := by
 obtain ⟨fn,h1,h2⟩ := Option.map_eq_some_iff.1 hf.ok
 simp only [Bool.and_eq_true,Bool.not_eq_true'] at h2
 obtain ⟨h3,h4⟩ := h2
 obtain ⟨c,h5⟩ := Option.isSome_iff_exists.1 h4
 have h6 : ¬ fn.name = "runtime.NumGoroutine" := by simpa using h3
 simp [callFunc,h1,h6,h5]

def sbE : List V1 → Option (List (List T))
 | [] => some []
 | .rd _ (.v u) :: r => match sbE r with
  | some es => some ([.v u] :: es)
  | none => none
 | _ => none
theorem sbE_ok : ∀ (cs : List V1) (es : List (List T)),sbE cs = some es → es.length = cs.length ∧ ∀ (i : Nat) (e : List T),es[i]? = some e → ∃ ps u,cs[i]? = some (.rd ps (.v u)) ∧ e = [.v u]
 | [],es,h => by simp [sbE] at h; subst h; exact ⟨rfl,fun i e hi => by simp at hi⟩
 | c :: cs,es,h => by
  unfold sbE at h
  split at h
  ·rename_i e; cases e
  ·rename_i ps u r e
   simp only [List.cons.injEq] at e
   obtain ⟨rfl,rfl⟩ := e
   split at h
   ·rename_i es' h1
    simp only [Option.some.injEq] at h
    subst h
    obtain ⟨h2,h3⟩ := sbE_ok cs es' h1
    refine ⟨by simp [h2],fun i e hi => ?_⟩
    cases i with
    | zero => simp at hi; exact ⟨ps,u,rfl,hi.symm⟩
    | succ i => exact h3 i e (by simpa using hi)
   ·cases h
  ·cases h
def lend (objs : List Ob) : V1 → V1
 | .rd _ x => .rd [] x
 | .ref p => match objs.getD p .gone with
  | .row k es => .rd [] (.sl k es)
  | _ => .un
 | .sb p _ 1 => match objs.getD p .gone with
  | .box cs => match sbE cs with
   | some es => .rd [] (.sl 1 es)
   | none => .un
  | _ => .un
 | _ => .un
def lend2 (objs : List Ob) : V → V2
 | .o (.c x) => .c (lend objs x)
 | .o (.ag xs) => .ag (xs.map (lend objs))
 | .tu _ => .c .un
 | .iff _ _ => .c .un
def V1.closed : V1 → Bool
 | .rd _ (.sl _ _) => false
 | .rp _ _ => false
 | .un => true
 | _ => true
def V2.closed : V2 → Bool
 | .c x => x.closed
 | .ag xs => xs.all V1.closed
def V.closed : V → Bool
 | .o x => x.closed
 | .tu xs => xs.all V2.closed
 | .iff _ x => x.closed
def Ob.closed : Ob → Bool
 | .box cs => cs.all V1.closed
 | .gh _ _ => false
 | .shr _ => false
 | _ => true

def sub (H H1 : Hs) (n m : Nat) : Hs := fun p => if n ≤ p ∧ p < n + m then H1 (p - n) else H p

theorem lend_ok {H1 : Hs} (h : R0 w H F st a) {x : V1} {v : Value} (hx : R1 w H F x v) : R1 w H1 (fun b => b < w.heap.size) (lend st.objs x) v := by
 cases x with
 | rd ps x => exact RO.weak hx fun b _ hb => .inl hb
 | ref p =>
  have h1 := h.obs p
  simp only [lend]
  cases ho : st.objs.getD p .gone with
  | row k es =>
   rw [ho] at h1
   obtain ⟨u,fp,e⟩ := h1
   obtain ⟨x,fp',e'⟩ := hx
   have h2 := h.ok.says p
   rw [e] at h2 e'
   simp only [Pc.ow.injEq] at e'
   obtain ⟨_,rfl,_⟩ := e'
   exact RO.weak (OW.ro h2) fun b _ hb => .inl hb
  | gone => trivial
  | hole => trivial
  | box cs => trivial
  | gh i x => trivial
  | shr es => trivial
 | ptr => trivial
 | sb p n' k =>
  unfold lend
  split
  ·rename_i e; cases e
  ·rename_i e; cases e
  ·rename_i p' n'' e
   simp only [V1.sb.injEq] at e
   obtain ⟨rfl,rfl,rfl⟩ := e
   split
   ·rename_i cs ho
    split
    ·rename_i es hs
     obtain ⟨g,t,vs,e1,e2,e3,rfl⟩ := hx
     have h1 := h.obs p
     rw [ho] at h1
     obtain ⟨g',t',vs',e4,hl,hr⟩ := h1
     rw [e1] at e4
     simp only [Pc.box.injEq] at e4
     obtain ⟨rfl,rfl,rfl⟩ := e4
     have hsay := h.ok.says p
     rw [e1] at hsay
     obtain ⟨k1,k2⟩ := sbE_ok _ _ hs
     have hlen : es.length = n' := by rw [k1,← hl,e2,Nat.mul_one]
     rw [← hlen]
     refine .sl es g 0 1 es.length (fun i _ => vs.getD i undef) (.inl ?_) (Nat.le_refl _) (by rw [hlen]; exact e3) (by omega) (fun e he => ?_) (fun i j hi hj => ?_) fun i j e t' hi hj => ?_
     ·exact (Array.getElem?_eq_some_iff.1 hsay).1
     ·obtain ⟨i,hi⟩ := List.getElem?_of_mem he
      obtain ⟨_,_,_,k4⟩ := k2 i e hi
      rw [k4]; rfl
     ·have hj0 : j = 0 := by omega
      subst hj0
      have hlt : i < vs.length := by rw [hl,← k1]; exact hi
      rw [cell_of_row w g _ vs.toArray t (0,0) hsay]
      simp [List.getD_eq_getElem?_getD,hlt]
     ·obtain ⟨ps,u,k3,k4⟩ := k2 i e hi
      subst k4
      cases j with
      | succ j => simp at hj
      | zero =>
       simp only [List.getElem?_cons_zero,Option.some.injEq] at hj
       subst hj
       have hlt : i < vs.length := by rw [hl]; exact Yu k3
       obtain ⟨k5,k6⟩ := hr i _ _ k3 (List.getElem?_eq_getElem hlt)
       obtain ⟨k7,_⟩ := RO.plain k5
       rw [Yt (List.getElem?_eq_getElem hlt)]
       rw [k7] at k6 ⊢
       exact .v u k6
    ·trivial
   ·trivial
  ·trivial
 | el => trivial
 | rp => trivial
 | le => trivial
 | hd => trivial
 | tl => trivial
 | un => trivial
theorem lend2_ok {H1 : Hs} (h : R0 w H F st a) {x : V} {v : Value} (hx : RV w H F x v) : R2 w H1 (fun b => b < w.heap.size) (lend2 st.objs x) v := by
 cases x with
 | o x => cases x with
  | c x => exact lend_ok h hx
  | ag xs =>
   obtain ⟨us,e,hl,hc⟩ := hx
   refine ⟨us,e,by simpa using hl,fun i x u hi hu => ?_⟩
   rw [List.getElem?_map] at hi
   obtain ⟨c,h1,rfl⟩ := Option.map_eq_some_iff.1 hi
   exact lend_ok h (hc i c u h1 hu)
 | tu => trivial
 | iff => trivial

section
variable {H1 : Hs} {F1 : Nat → Prop} {m : Nat}
theorem sub_in {q : Nat} (hq : q < m) : sub H H1 n m (n + q) = H1 q := by
 unfold sub
 rw [if_pos (by omega)]
 congr 1
 omega
theorem plant1 (hm : ∀ q,m ≤ q → H1 q = .nil) {x : V1} {v : Value} (hc : x.closed = true) (hx : R1 w H1 F1 x v) : R1 w (sub H H1 n m) F (x.ren (n + ·)) v := by
 have hlt : ∀ q,H1 q ≠ .nil → q < m := fun q hq => (Nat.lt_or_ge q m).resolve_right fun h => hq (hm q h)
 cases x with
 | rd ps x =>
  cases x with
  | v x => obtain ⟨rfl,h⟩ := RO.plain hx; exact RO.v _ h
  | sl k es => simp [V1.closed] at hc
  | un => exact RO.un _ (RO.one hx)
 | ref q => obtain ⟨x,fp,e⟩ := hx; exact ⟨x,fp,by rw [sub_in (hlt q (by rw [e]; simp)),e]⟩
 | ptr q i => obtain ⟨g,t,vs,e,hv⟩ := hx; exact ⟨g,t,vs,by rw [sub_in (hlt q (by rw [e]; simp)),e],hv⟩
 | sb q i j => obtain ⟨g,t,vs,e,hv⟩ := hx; exact ⟨g,t,vs,by rw [sub_in (hlt q (by rw [e]; simp)),e],hv⟩
 | el q k i j => obtain ⟨b,o,n',c,x,fp,e,hv⟩ := hx; exact ⟨b,o,n',c,x,fp,by rw [sub_in (hlt q (by rw [e]; simp)),e],hv⟩
 | rp => simp [V1.closed] at hc
 | le q k i j => obtain ⟨b,o,n',c,x,fp,e,hv⟩ := hx; exact ⟨b,o,n',c,x,fp,by rw [sub_in (hlt q (by rw [e]; simp)),e],hv⟩
 | hd q i => obtain ⟨A,m',c,x,fp,e,hv⟩ := hx; exact ⟨A,m',c,x,fp,by rw [sub_in (hlt q (by rw [e]; simp)),e],hv⟩
 | tl q k i => obtain ⟨A,A',m',c,x,fp,e,hv⟩ := hx; exact ⟨A,A',m',c,x,fp,by rw [sub_in (hlt q (by rw [e]; simp)),e],hv⟩
 | un => trivial
theorem plant2 (hm : ∀ q,m ≤ q → H1 q = .nil) {x : V2} {v : Value} (hc : x.closed = true) (hx : R2 w H1 F1 x v) : R2 w (sub H H1 n m) F (x.ren (n + ·)) v := by
 cases x with
 | c x => exact plant1 hm hc hx
 | ag xs =>
  obtain ⟨us,e,hl,hr⟩ := hx
  refine ⟨us,e,by simpa using hl,fun i x u hi hu => ?_⟩
  rw [List.getElem?_map] at hi
  obtain ⟨c,h1,rfl⟩ := Option.map_eq_some_iff.1 hi
  exact plant1 hm (List.all_eq_true.1 hc c (Yv h1)) (hr i c u h1 hu)
theorem plantV (hm : ∀ q,m ≤ q → H1 q = .nil) {x : V} {v : Value} (hc : x.closed = true) (hx : RV w H1 F1 x v) : RV w (sub H H1 n m) F (x.ren (n + ·)) v := by
 cases x with
 | o x => exact plant2 hm hc hx
 | tu xs =>
  obtain ⟨us,e,hl,hr⟩ := hx
  refine ⟨us,e,by simpa using hl,fun i x u hi hu => ?_⟩
  rw [List.getElem?_map] at hi
  obtain ⟨c,h1,rfl⟩ := Option.map_eq_some_iff.1 hi
  exact plant2 hm (List.all_eq_true.1 hc c (Yv h1)) (hr i c u h1 hu)
 | iff cs x => exact ⟨fun h => plant2 hm hc (hx.1 h),hx.2⟩
theorem plantB (hm : ∀ q,m ≤ q → H1 q = .nil) {ob : Ob} {q : Nat} (hq : q < m) (hc : ob.closed = true) (hx : RB w H1 F1 q ob) : RB w (sub H H1 n m) F (n + q) (ob.ren (n + ·)) := by
 cases ob with
 | gone => exact (sub_in hq).trans hx
 | hole => trivial
 | box cs =>
  obtain ⟨g,t,vs,e,hl,hr⟩ := hx
  refine ⟨g,t,vs,(sub_in hq).trans e,by simpa using hl,fun i c u hi hu => ?_⟩
  rw [List.getElem?_map] at hi
  obtain ⟨c',h1,rfl⟩ := Option.map_eq_some_iff.1 hi
  exact ⟨plant1 hm (List.all_eq_true.1 hc c' (Yv h1)) (hr i c' u h1 hu).1,(hr i c' u h1 hu).2⟩
 | row k es => obtain ⟨v,fp,e⟩ := hx; exact ⟨v,fp,(sub_in hq).trans e⟩
 | gh i x => simp [Ob.closed] at hc
 | shr es => simp [Ob.closed] at hc
end

theorem Zi {f : FuncId} [hf : FunOk P f] {ass : Array Operand} {ts : Array TypeId} {args : List V2} {objs' : List Ob} {res : V} (ho : o.op = .call { callee := .value (.func f),args := ass,argTypes := ts }) (hg : o.guard = none)
  (hc : Con P f [] args objs' res) (ha : ass.toList.map (fun y => lend2 st.objs (st.ev y)) = args) (hcl : res.closed = true) (hob : objs'.all Ob.closed = true) : Qt P ops o st (res.ren (n + ·)) (objs'.map (Ob.ren (n + ·))) n := by
 refine ⟨fun a w H F Q K hr hfree hK => ?_⟩
 rw [if_pos (by unfold Region.wanted; rw [hg])]
 have hrun : (execOp a.eval o).run P w = .ok (.enter f (ass.toList.map a.eval).toArray) w := by
  unfold execOp
  simp only [ho,resolve,Act.eval,Deferred.ofValue,Sem.run_bind,Sem.run_pure,Result.andThen_ok,invoke]
  rw [show (#[] ++ ass.map a.eval ++ #[]) = (ass.toList.map a.eval).toArray by
   apply Array.ext'
   simp]
  exact run_callFunc _
 unfold Oper.wp
 rw [hrun]
 have hok1 : Ok w (fun _ => Pc.nil) (fun b => b < w.heap.size) := ⟨fun _ => trivial,fun _ => by simp [Pc.fp],fun p q b h => by simp [Pc.fp] at h,fun p b h => by simp [Pc.fp] at h,fun _ h => h⟩
 refine (hc w (fun _ => .nil) (fun b => b < w.heap.size) (ass.toList.map a.eval) hok1 (fun p => by simp [RB]) (by rw [← ha]; simp) fun i x v hx hv => ?_).mono ?_
 ·rw [← ha,List.getElem?_map] at hx
  obtain ⟨y,h1,rfl⟩ := Option.map_eq_some_iff.1 hx
  rw [List.getElem?_map,h1] at hv
  simp only [Option.map_some,Option.some.injEq] at hv
  subst hv
  exact lend2_ok hr (hr.ev y)
 ·rintro e w' ⟨H1,F1,rv,rfl,hsi,hok,hobs,hres⟩
  have hbel : Below w.heap.size w w' := ⟨hsi.os,hsi.tape,hsi.output,hsi.size,fun b hb => hsi.keep b hb fun p => by simp [Pc.fp]⟩
  have hnew : ∀ q b,b ∈ (H1 q).fp → w.heap.size ≤ b := fun q b hb => by
   rcases hsi.org q b hb with ⟨q',h⟩ | h
   ·simp [Pc.fp] at h
   ·exact h
  have hm : ∀ q,objs'.length ≤ q → H1 q = .nil := fun q hq => by
   have := hobs q
   simpa [List.getD_eq_getElem?_getD,hq,RB] using this
  have hst : ∀ p,(n ≤ p ∧ p < n + objs'.length) → H p = .nil := fun p hp => by
   have := hfree (p - n) (by simp; omega)
   rwa [show n + (p - n) = p by omega] at this
  have hcase : ∀ p,(n ≤ p ∧ p < n + objs'.length) ∧ sub H H1 n objs'.length p = H1 (p - n) ∨ ¬ (n ≤ p ∧ p < n + objs'.length) ∧ sub H H1 n objs'.length p = H p := fun p => by
   unfold sub
   by_cases h : n ≤ p ∧ p < n + objs'.length
   ·rw [if_pos h]; exact .inl ⟨h,rfl⟩
   ·rw [if_neg h]; exact .inr ⟨h,rfl⟩
  refine hK rv w' (sub H H1 n objs'.length) F ⟨hbel,fun p hp => ?_,fun _ h => h,fun _ h => .inl h,fun p hp b hb => ?_,fun p i v hp => ?_⟩ ⟨fun p => ?_,fun p => ?_,fun p q b h1 h2 => ?_,fun p b h1 h2 => ?_,fun b hb => Nat.lt_of_lt_of_le (hr.ok.flt b hb) hsi.size⟩ (fun i ob hi => ?_) (fun p hp hh => ?_) (plantV hm hcl hres)
  ·rcases hcase p with ⟨h,e⟩ | ⟨h,e⟩
   ·exact absurd (hst p h) hp
   ·exact e
  ·rcases hcase p with ⟨h,e⟩ | ⟨h,e⟩
   ·rw [e] at hb; exact hnew _ b hb
   ·rw [e,hp] at hb; simp [Pc.fp] at hb
  ·rcases hcase p with ⟨h,e⟩ | ⟨h,e⟩
   ·obtain ⟨q,hq⟩ := hsi.gh _ i v (e ▸ hp); cases hq
   ·exact ⟨p,e ▸ hp⟩
  ·rcases hcase p with ⟨h,e⟩ | ⟨h,e⟩
   ·rw [e]; exact hok.says _
   ·rw [e]; exact Pc.frame (fun b hb => hbel.block b (hr.ok.lt hb)) (hr.ok.says p)
  ·rcases hcase p with ⟨h,e⟩ | ⟨h,e⟩
   ·rw [e]; exact hok.nodup _
   ·rw [e]; exact hr.ok.nodup p
  ·rcases hcase p with ⟨h,e⟩ | ⟨h,e⟩ <;> rcases hcase q with ⟨h',e'⟩ | ⟨h',e'⟩ <;> rw [e] at h1 <;> rw [e'] at h2
   ·have := hok.disj _ _ b h1 h2; omega
   ·have := hnew _ b h1; have := hr.ok.lt h2; omega
   ·have := hnew _ b h2; have := hr.ok.lt h1; omega
   ·exact hr.ok.disj p q b h1 h2
  ·rcases hcase p with ⟨h,e⟩ | ⟨h,e⟩ <;> rw [e] at h1
   ·have := hnew _ b h1; have := hr.ok.flt b h2; omega
   ·exact hr.ok.free p b h1 h2
  ·rw [List.getElem?_map] at hi
   obtain ⟨ob',h1,rfl⟩ := Option.map_eq_some_iff.1 hi
   have h2 := hobs i
   rw [Yt h1] at h2
   exact plantB hm (Yu h1) (List.all_eq_true.1 hob ob' (Yv h1)) h2
  ·rcases hcase p with ⟨h,e⟩ | ⟨h,e⟩
   ·simp only [List.length_map] at hh; omega
   ·rw [e,hp]
end
end
section
open Go.RowKit

def V1.off (ps : List Nat) : V1 → Bool
 | .rd qs _ => qs.all fun q => !ps.contains q
 | .ref p => !ps.contains p
 | .ptr p _ => !ps.contains p
 | .sb p _ _ => !ps.contains p
 | .el p _ _ _ => !ps.contains p
 | .rp qs _ => qs.all fun q => !ps.contains q
 | .le p _ _ _ => !ps.contains p
 | .hd p _ => !ps.contains p
 | .tl p _ _ => !ps.contains p
 | .un => true
def V1.kill (ps : List Nat) (x : V1) : V1 := if x.off ps then x else .un
def V2.kill (ps : List Nat) : V2 → V2
 | .c x => .c (x.kill ps)
 | .ag xs => .ag (xs.map (V1.kill ps))
def V.kill (ps : List Nat) : V → V
 | .o x => .o (x.kill ps)
 | .tu xs => .tu (xs.map (V2.kill ps))
 | .iff cs x => .iff cs (x.kill ps)
def Ob.kill (ps : List Nat) : Ob → Ob
 | .box cs => .box (cs.map (V1.kill ps))
 | .gh i x => .gh i (x.kill ps)
 | ob => ob

structure Turn (w : World) (H : Hs) (w' : World) (H' : Hs) (ps : List Nat) : Prop where
 os : w'.os = w.os
 tape : w'.tape = w.tape
 output : w'.output = w.output
 size : w.heap.size ≤ w'.heap.size
 block : ∀ b,b < w.heap.size → (∀ p ∈ ps,b ∉ (H p).fp) → w'.heap[b]? = w.heap[b]?
 keep : ∀ p,p ∉ ps → H' p = H p
 fp : ∀ p b,b ∈ (H' p).fp → (∃ q,b ∈ (H q).fp) ∨ w.heap.size ≤ b
 gh : ∀ p i v,H' p = .gh i v → ∃ q,H q = .gh i v

section
variable {P : Program} {E : Env} {ops : Array Oper} {o : Oper} {st : St} {n : Nat} {rest : List Oper} {QQ : Exit → St → Prop} {w w' : World} {H H' : Hs} {F : Nat → Prop} {a : Act} {ps : List Nat}

theorem off_all {qs : List Nat} (h : (qs.all fun q => !ps.contains q) = true) : ∀ q ∈ qs,q ∉ ps := by
 intro q hq hp
 have := List.all_eq_true.1 h q hq
 simp at this
 exact this hp
theorem off_one {q : Nat} (h : (!ps.contains q) = true) : q ∉ ps := by simpa using h

theorem Turn.inP (ht : Turn w H w' H' ps) (hok : Ok w H F) {qs : List Nat} (hq : ∀ q ∈ qs,q ∉ ps) {b : Nat} (hb : inP H F qs b) (hlt : b < w.heap.size) : Go.Proofs.Ytbfhboakafjjgaa.inP H' F qs b ∧ w'.heap[b]? = w.heap[b]? := by
 rcases hb with hb | ⟨q,h1,x,v,fp,e,hb⟩
 ·exact ⟨.inl hb,ht.block b hlt fun p _ h => hok.free p b h hb⟩
 ·refine ⟨.inr ⟨q,h1,x,v,fp,by rw [ht.keep q (hq q h1),e],hb⟩,ht.block b hlt fun p hp h => ?_⟩
  have := hok.disj p q b h (by rw [e]; exact hb)
  exact hq q h1 (this ▸ hp)
theorem R1.turn (hok : Ok w H F) (ht : Turn w H w' H' ps) {x : V1} {v : Value} (hx : x.off ps = true) (h : R1 w H F x v) : R1 w' H' F x v := by
 cases x with
 | rd qs x => exact RO.move h fun b hb hlt => ht.inP hok (off_all hx) hb hlt
 | ref p => obtain ⟨x,fp,e⟩ := h; exact ⟨x,fp,by rw [ht.keep p (off_one hx),e]⟩
 | ptr p i => obtain ⟨a,t,vs,e,hv⟩ := h; exact ⟨a,t,vs,by rw [ht.keep p (off_one hx),e],hv⟩
 | sb p n k => obtain ⟨a,t,vs,e,hv⟩ := h; exact ⟨a,t,vs,by rw [ht.keep p (off_one hx),e],hv⟩
 | el p k i j => obtain ⟨b,o,n,c,x,fp,e,hv⟩ := h; exact ⟨b,o,n,c,x,fp,by rw [ht.keep p (off_one hx),e],hv⟩
 | rp qs xs =>
  obtain ⟨b,o,hv,hb,hc⟩ := h
  by_cases hb' : b < w.heap.size
  ·obtain ⟨h1,h2⟩ := ht.inP hok (off_all hx) hb hb'
   refine ⟨b,o,hv,h1,fun j t hj => ?_⟩
   obtain ⟨u,h3,h4⟩ := hc j t hj
   exact ⟨u,(World.cell?_of_block (w := w) (a := ⟨b,o + j,none⟩) h2).trans h3,RO.move h4 fun b hb hlt => ht.inP hok (off_all hx) hb hlt⟩
  ·have hnil : ∀ (j : Nat) (t : T),xs[j]? ≠ some t := fun j t hj => by
    obtain ⟨u,h3,_⟩ := hc j t hj
    exact hb' (World.block_lt_of_cell? w _ h3)
   have hin : inP H' F qs b := by
    rcases hb with hb | ⟨q,h1,x,v,fp,e,hb⟩
    ·exact .inl hb
    ·exact .inr ⟨q,h1,x,v,fp,by rw [ht.keep q (off_all hx q h1),e],hb⟩
   exact ⟨b,o,hv,hin,fun j t hj => absurd hj (hnil j t)⟩
 | le p k i j =>
  obtain ⟨b,o,n,c,x,fp,e,hb,h1,h2⟩ := h
  have hlt := World.block_lt_of_cell? w _ h2
  refine ⟨b,o,n,c,x,fp,by rw [ht.keep p (off_one hx),e],hb,h1,(World.cell?_of_block (w := w) (a := ⟨b,o + i * k + j,none⟩) (ht.block b hlt fun q hq hbq => ?_)).trans h2⟩
  exact off_one hx (hok.disj p q b (by rw [e]; exact hb) hbq ▸ hq)
 | hd p n => obtain ⟨A,m,c,x,fp,e,hv⟩ := h; exact ⟨A,m,c,x,fp,by rw [ht.keep p (off_one hx),e],hv⟩
 | tl p k n => obtain ⟨A,A',m,c,x,fp,e,hv⟩ := h; exact ⟨A,A',m,c,x,fp,by rw [ht.keep p (off_one hx),e],hv⟩
 | un => trivial
theorem R1.killed (hok : Ok w H F) (ht : Turn w H w' H' ps) {x : V1} {v : Value} (h : R1 w H F x v) : R1 w' H' F (x.kill ps) v := by
 unfold V1.kill
 split
 ·exact R1.turn hok ht (by assumption) h
 ·trivial
theorem R2.killed (hok : Ok w H F) (ht : Turn w H w' H' ps) {x : V2} {v : Value} (h : R2 w H F x v) : R2 w' H' F (x.kill ps) v := by
 cases x with
 | c x => exact R1.killed hok ht h
 | ag xs =>
  obtain ⟨us,e,hl,hr⟩ := h
  refine ⟨us,e,by simpa using hl,fun i x u hi hu => ?_⟩
  rw [List.getElem?_map] at hi
  obtain ⟨c,h1,rfl⟩ := Option.map_eq_some_iff.1 hi
  exact R1.killed hok ht (hr i c u h1 hu)
theorem RV.killed (hok : Ok w H F) (ht : Turn w H w' H' ps) {x : V} {v : Value} (h : RV w H F x v) : RV w' H' F (x.kill ps) v := by
 cases x with
 | o x => exact R2.killed hok ht h
 | tu xs =>
  obtain ⟨us,e,hl,hr⟩ := h
  refine ⟨us,e,by simpa using hl,fun i x u hi hu => ?_⟩
  rw [List.getElem?_map] at hi
  obtain ⟨c,h1,rfl⟩ := Option.map_eq_some_iff.1 hi
  exact R2.killed hok ht (hr i c u h1 hu)
 | iff cs x => exact ⟨fun hc => R2.killed hok ht (h.1 hc),h.2⟩
theorem RB.killed (hok : Ok w H F) (ht : Turn w H w' H' ps) {p : Nat} (hp : p ∉ ps) {ob : Ob} (h : RB w H F p ob) : RB w' H' F p (ob.kill ps) := by
 cases ob with
 | gone => exact (ht.keep p hp).trans h
 | hole => trivial
 | box cs =>
  obtain ⟨g,t,vs,e,hl,hr⟩ := h
  refine ⟨g,t,vs,(ht.keep p hp).trans e,by simpa using hl,fun i c u hi hu => ?_⟩
  rw [List.getElem?_map] at hi
  obtain ⟨c',h1,rfl⟩ := Option.map_eq_some_iff.1 hi
  exact ⟨R1.killed hok ht (hr i c' u h1 hu).1,(hr i c' u h1 hu).2⟩
 | row k es => obtain ⟨v,fp,e⟩ := h; exact ⟨v,fp,(ht.keep p hp).trans e⟩
 | gh i x => obtain ⟨v,e,hr⟩ := h; exact ⟨v,(ht.keep p hp).trans e,R2.killed hok ht hr⟩
 | shr es => obtain ⟨us,v,fp,e,hl,hr⟩ := h; exact ⟨us,v,fp,(ht.keep p hp).trans e,hl,fun i t u h1 h2 => R1.turn hok ht (x := .rd [] t) rfl (hr i t u h1 h2)⟩

theorem R0.turn (h : R0 w H F st a) (ht : Turn w H w' H' ps) (hok : Ok w' H' F) (objs' : List Ob) (h1 : ∀ p,p ∉ ps → objs'.getD p .gone = (st.objs.getD p .gone).kill ps) (h2 : ∀ p ∈ ps,RB w' H' F p (objs'.getD p .gone)) :
  R0 w' H' F ⟨st.n,st.tmps.map fun e => (e.1,e.2.kill ps),objs'⟩ a := by
 refine ⟨hok,fun p => ?_,fun d => ?_,h.size,h.defers⟩
 ·by_cases hp : p ∈ ps
  ·exact h2 p hp
  ·show RB w' H' F p (objs'.getD p .gone)
   rw [h1 p hp]
   exact (h.obs p).killed h.ok ht hp
 ·have hl : ∀ l : List (Nat × V),look (l.map fun e => (e.1,e.2.kill ps)) d = (look l d).kill ps := by
   intro l
   induction l with
   | nil => rfl
   | cons e l ih =>
    obtain ⟨e1,e2⟩ := e
    rw [List.map_cons,Y0,Y0]
    split
    ·rfl
    ·exact ih
  show RV w' H' F (look (st.tmps.map fun e => (e.1,e.2.kill ps)) d) _
  rw [hl]
  exact (h.tmp d).killed h.ok ht
theorem R0.put {x : V} {v : Value} (h : R0 w H F st a) (dst : Option Tmp) (hd : dstOk st.n dst = true) (hv : RV w H F x v) : R0 w H F ⟨st.n,setT st.tmps dst x,st.objs⟩ (a.put dst v) := by
 have := h.grow (obs := []) (dst := dst) hd (Grow.refl w H F) h.ok (fun i ob hi => by simp at hi) (fun p hp _ => hp) hv
 rwa [List.append_nil] at this
theorem Since.turn (h : Since E w H F) (ht : Turn w H w' H' ps) : Since E w' H' F := by
 refine ⟨ht.os.trans h.os,ht.tape.trans h.tape,ht.output.trans h.output,Nat.le_trans h.size ht.size,fun b h1 h2 => (ht.block b (Nat.lt_of_lt_of_le h1 h.size) fun p _ hb => ?_).trans (h.keep b h1 h2),h.fF,h.fF',fun p b hb => ?_,fun p i v hp => by obtain ⟨q,hq⟩ := ht.gh p i v hp; exact h.gh q i v hq⟩
 ·rcases h.org p b hb with ⟨q,hq⟩ | hq
  ·exact h2 q hq
  ·omega
 ·rcases ht.fp p b hb with ⟨q,hq⟩ | hq
  ·exact h.org q b hq
  ·exact .inr (Nat.le_trans h.size hq)

/-! ### Boxes -/
def setFrom {α : Type} (vs : List α) (i : Nat) : List α → List α
 | [] => vs
 | c :: cs => setFrom (vs.set i c) (i + 1) cs

theorem box_turn (h : R0 w H F st a) {p i g : Nat} {t : TypeId} {vs : List Value} {cs : List V1} {c : V1} {u : Value} (hp : st.objs[p]? = some (.box cs)) (hH : H p = .box g t vs) (hc : R1 w H F c u) (h1 : u.oneCell' = true) (hi : i < cs.length) :
  R0 (w.setCell ⟨g,i,none⟩ u) (H.put p (.box g t (vs.set i u))) F ⟨st.n,st.tmps,st.objs.set p (.box (cs.set i c))⟩ a ∧
  ∀ {E : Env},Since E w H F → Since E (w.setCell ⟨g,i,none⟩ u) (H.put p (.box g t (vs.set i u))) F := by
 have hsay := h.ok.says p
 rw [hH] at hsay
 have hblk : ∀ b,b ≠ g → (w.setCell ⟨g,i,none⟩ u).heap[b]? = w.heap[b]? := fun b hb => Below.heap_setCell _ _ _ _ hb
 have hsz : (w.setCell ⟨g,i,none⟩ u).heap.size = w.heap.size := by simp [World.setCell]
 have hg : (w.setCell ⟨g,i,none⟩ u).heap[g]? = some (.cells (vs.set i u).toArray t (0,0)) := by
  have h2 : w.heap[g]? = some (.cells vs.toArray t (0,0)) := hsay
  simp [World.setCell,Array.getElem?_modify,h2]
 have hne : ∀ q,q ≠ p → H.put p (.box g t (vs.set i u)) q = H q := fun q hq => Hs.put_ne H _ hq
 have hfp : ∀ q,(H.put p (.box g t (vs.set i u)) q).fp = (H q).fp := fun q => by
  by_cases e : q = p
  ·subst e; rw [Hs.put_self,hH]; rfl
  ·rw [hne q e]
 have hin : ∀ {qs : List Nat} {b : Nat},inP H F qs b → b < w.heap.size → inP (H.put p (.box g t (vs.set i u))) F qs b ∧ (w.setCell ⟨g,i,none⟩ u).heap[b]? = w.heap[b]? := by
  intro qs b hb hlt
  rcases hb with hb | ⟨q,h1,x,v,fp,e,hb⟩
  ·exact ⟨.inl hb,hblk b fun e => h.ok.free p b (by rw [hH,e]; simp [Pc.fp]) hb⟩
  ·have hqp : q ≠ p := fun e' => by rw [e',hH] at e; cases e
   refine ⟨.inr ⟨q,h1,x,v,fp,by rw [hne q hqp,e],hb⟩,hblk b fun e' => ?_⟩
   exact hqp (h.ok.disj q p b (by rw [e]; exact hb) (by rw [hH,e']; simp [Pc.fp]))
 have hr1 : ∀ {x : V1} {v : Value},R1 w H F x v → R1 (w.setCell ⟨g,i,none⟩ u) (H.put p (.box g t (vs.set i u))) F x v := by
  intro x v hx
  cases x with
  | rd qs x => exact RO.move hx fun b hb hlt => hin hb hlt
  | ref q =>
   obtain ⟨x,fp,e⟩ := hx
   exact ⟨x,fp,by rw [hne q fun e' => by rw [e',hH] at e; cases e]; exact e⟩
  | ptr q j =>
   obtain ⟨g',t',vs',e,hv⟩ := hx
   by_cases e' : q = p
   ·subst e'
    rw [hH] at e
    simp only [Pc.box.injEq] at e
    obtain ⟨rfl,rfl,rfl⟩ := e
    exact ⟨_,_,_,Hs.put_self _ _ _,hv⟩
   ·exact ⟨g',t',vs',(hne q e').trans e,hv⟩
  | sb q m k =>
   obtain ⟨g',t',vs',e,hl,hm,hv⟩ := hx
   by_cases e' : q = p
   ·subst e'
    rw [hH] at e
    simp only [Pc.box.injEq] at e
    obtain ⟨rfl,rfl,rfl⟩ := e
    exact ⟨_,_,_,Hs.put_self _ _ _,by simpa using hl,hm,hv⟩
   ·exact ⟨g',t',vs',(hne q e').trans e,hl,hm,hv⟩
  | el q k i' j =>
   obtain ⟨b,o',m,c',x,fp,e,hv⟩ := hx
   exact ⟨b,o',m,c',x,fp,by rw [hne q fun e' => by rw [e',hH] at e; cases e]; exact e,hv⟩
  | rp qs xs =>
   obtain ⟨b,o',hv,hb,hcs⟩ := hx
   by_cases hb' : b < w.heap.size
   ·obtain ⟨h3,h4⟩ := hin hb hb'
    refine ⟨b,o',hv,h3,fun j t hj => ?_⟩
    obtain ⟨u',h5,h6⟩ := hcs j t hj
    exact ⟨u',(World.cell?_of_block (w := w) (a := ⟨b,o' + j,none⟩) h4).trans h5,RO.move h6 fun b hb hlt => hin hb hlt⟩
   ·refine ⟨b,o',hv,?_,fun j t hj => ?_⟩
    ·rcases hb with hb | ⟨q,h1,x,v,fp,e,hb⟩
     ·exact .inl hb
     ·exact .inr ⟨q,h1,x,v,fp,by rw [hne q fun e' => by rw [e',hH] at e; cases e]; exact e,hb⟩
    ·obtain ⟨u',h5,_⟩ := hcs j t hj
     exact absurd (World.block_lt_of_cell? w _ h5) hb'
  | hd q m =>
   obtain ⟨A,m',c,x,fp,e,hv⟩ := hx
   exact ⟨A,m',c,x,fp,by rw [hne q fun e' => by rw [e',hH] at e; cases e]; exact e,hv⟩
  | tl q k m =>
   obtain ⟨A,A',m',c,x,fp,e,hv⟩ := hx
   exact ⟨A,A',m',c,x,fp,by rw [hne q fun e' => by rw [e',hH] at e; cases e]; exact e,hv⟩
  | le q k i' j =>
   obtain ⟨b,o',m,c',x,fp,e,hb,h2,h3⟩ := hx
   have hqp : q ≠ p := fun e' => by rw [e',hH] at e; cases e
   exact ⟨b,o',m,c',x,fp,by rw [hne q hqp]; exact e,hb,h2,(World.cell?_of_block (w := w) (a := ⟨b,o' + i' * k + j,none⟩) (hblk b fun e' => hqp (h.ok.disj q p b (by rw [e]; exact hb) (by rw [hH,e']; simp [Pc.fp])))).trans h3⟩
  | un => trivial
 have hr2 : ∀ {x : V2} {v : Value},R2 w H F x v → R2 (w.setCell ⟨g,i,none⟩ u) (H.put p (.box g t (vs.set i u))) F x v := by
  intro x v hx
  cases x with
  | c x => exact hr1 hx
  | ag xs => obtain ⟨us,e,hl,hr⟩ := hx; exact ⟨us,e,hl,fun i x u h1 h2 => hr1 (hr i x u h1 h2)⟩
 have hrv : ∀ {x : V} {v : Value},RV w H F x v → RV (w.setCell ⟨g,i,none⟩ u) (H.put p (.box g t (vs.set i u))) F x v := by
  intro x v hx
  cases x with
  | o x => exact hr2 hx
  | tu xs => obtain ⟨us,e,hl,hr⟩ := hx; exact ⟨us,e,hl,fun i x u h1 h2 => hr2 (hr i x u h1 h2)⟩
  | iff cs x => exact ⟨fun hc => hr2 (hx.1 hc),hx.2⟩
 obtain ⟨hplt,_⟩ := List.getElem?_eq_some_iff.1 hp
 refine ⟨⟨⟨fun q => ?_,fun q => by rw [hfp]; exact h.ok.nodup q,fun q r b h1 h2 => by rw [hfp] at h1 h2; exact h.ok.disj q r b h1 h2,fun q b h1 => by rw [hfp] at h1; exact h.ok.free q b h1,fun b hb => by rw [hsz]; exact h.ok.flt b hb⟩,fun q => ?_,fun d => hrv (h.tmp d),h.size,h.defers⟩,fun hs => ?_⟩
 ·by_cases e : q = p
  ·subst e; rw [Hs.put_self]; exact hg
  ·rw [hne q e]
   refine Pc.frame (fun b hb => hblk b fun e' => e (h.ok.disj q p b hb (by rw [hH,e']; simp [Pc.fp]))) (h.ok.says q)
 ·by_cases e : q = p
  ·subst e
   have h3 : (st.objs.set q (.box (cs.set i c))).getD q .gone = .box (cs.set i c) := by simp [List.getD_eq_getElem?_getD,hplt]
   show RB _ _ _ q ((st.objs.set q (.box (cs.set i c))).getD q .gone)
   rw [h3]
   have h4 := h.obs q
   rw [Yt hp] at h4
   obtain ⟨g',t',vs',e4,hl,hr⟩ := h4
   rw [hH] at e4
   simp only [Pc.box.injEq] at e4
   obtain ⟨rfl,rfl,rfl⟩ := e4
   refine ⟨_,_,_,Hs.put_self _ _ _,by simpa using hl,fun j d v h5 h6 => ?_⟩
   rw [List.getElem?_set] at h5 h6
   split at h5
   ·rename_i e5
    subst e5
    rw [if_pos rfl,if_pos (by omega)] at h6
    simp only [hi,if_true,Option.some.injEq] at h5 h6
    subst h5 h6
    exact ⟨hr1 hc,h1⟩
   ·rename_i e5
    rw [if_neg e5] at h6
    exact ⟨hr1 (hr j d v h5 h6).1,(hr j d v h5 h6).2⟩
  ·have h3 : (st.objs.set p (.box (cs.set i c))).getD q .gone = st.objs.getD q .gone := by simp [List.getD_eq_getElem?_getD,List.getElem?_set_ne (Ne.symm e)]
   show RB _ _ _ q ((st.objs.set p (.box (cs.set i c))).getD q .gone)
   rw [h3]
   have h4 := h.obs q
   cases ho : st.objs.getD q .gone with
   | gone => rw [ho] at h4; exact (hne q e).trans h4
   | hole => trivial
   | box ds => rw [ho] at h4; obtain ⟨g',t',vs',e4,hl,hr⟩ := h4; exact ⟨g',t',vs',(hne q e).trans e4,hl,fun j d v h5 h6 => ⟨hr1 (hr j d v h5 h6).1,(hr j d v h5 h6).2⟩⟩
   | row k es => rw [ho] at h4; obtain ⟨v,fp,e4⟩ := h4; exact ⟨v,fp,(hne q e).trans e4⟩
   | gh i x => rw [ho] at h4; obtain ⟨v,e4,hr⟩ := h4; exact ⟨v,(hne q e).trans e4,hr2 hr⟩
   | shr es => rw [ho] at h4; obtain ⟨us,v,fp,e4,hl,hr⟩ := h4; exact ⟨us,v,fp,(hne q e).trans e4,hl,fun i t u h5 h6 => hr1 (hr i t u h5 h6)⟩
 ·refine ⟨hs.os,hs.tape,hs.output,by rw [hsz]; exact hs.size,fun b h1 h2 => (hblk b fun e => ?_).trans (hs.keep b h1 h2),hs.fF,hs.fF',fun q b hb => by rw [hfp] at hb; exact hs.org q b hb,fun q i v hq => by
   by_cases e : q = p
   ·subst e; rw [Hs.put_self] at hq; cases hq
   ·rw [hne q e] at hq; exact hs.gh q i v hq⟩
  subst e
  rcases hs.org p b (by rw [hH]; simp [Pc.fp]) with ⟨q,hq⟩ | hq
  ·exact h2 q hq
  ·omega

theorem box_turns {p g : Nat} {t : TypeId} : ∀ (us : List Value) (ds : List V1) (i : Nat) {w : World} {H : Hs} {st : St} {vs : List Value} {cs : List V1} (h : R0 w H F st a) (hp : st.objs[p]? = some (.box cs)) (hH : H p = .box g t vs) (hl : us.length = ds.length)
  (hc : ∀ (j : Nat) (d : V1) (u : Value),ds[j]? = some d → us[j]? = some u → R1 w H F d u ∧ u.oneCell' = true) (hi : i + ds.length ≤ cs.length),
  ∃ H',R0 (w.setCells g i us) H' F ⟨st.n,st.tmps,st.objs.set p (.box (setFrom cs i ds))⟩ a ∧ ∀ {E : Env},Since E w H F → Since E (w.setCells g i us) H' F
 | [],[],i,w,H,st,vs,cs,h,hp,hH,_,_,_ => by
  refine ⟨H,?_,fun hs => hs⟩
  have : st.objs.set p (.box cs) = st.objs := by
   obtain ⟨h1,h2⟩ := List.getElem?_eq_some_iff.1 hp
   rw [← h2,List.set_getElem_self]
  show R0 w H F ⟨st.n,st.tmps,st.objs.set p (.box cs)⟩ a
  rw [this]
  exact h
 | u :: us,d :: ds,i,w,H,st,vs,cs,h,hp,hH,hl,hc,hi => by
  obtain ⟨h1,h2⟩ := hc 0 d u rfl rfl
  obtain ⟨hplt,_⟩ := List.getElem?_eq_some_iff.1 hp
  have hlt : i < cs.length := by simp at hi; omega
  obtain ⟨h3,h4⟩ := box_turn h hp hH h1 h2 hlt
  have hside : ∀ (j : Nat) (d' : V1) (u' : Value),ds[j]? = some d' → us[j]? = some u' → R1 (w.setCell ⟨g,i,none⟩ u) (H.put p (.box g t (vs.set i u))) F d' u' ∧ u'.oneCell' = true := by
   intro j d' u' h7 h8
   obtain ⟨h9,h10⟩ := hc (j + 1) d' u' (by simpa using h7) (by simpa using h8)
   refine ⟨?_,h10⟩
   -- ass in box_turn: by way of a state that holds the cell
   have h11 : R0 w H F ⟨1,[(0,.o (.c d'))],st.objs⟩ ⟨#[u'],[]⟩ := by
    refine ⟨h.ok,h.obs,fun e => ?_,J,J⟩
    show RV w H F (look [(0,.o (.c d'))] e) _
    rw [Y0]
    split
    ·rename_i e0; subst e0; exact h9
    ·trivial
   exact (box_turn h11 hp hH h1 h2 hlt).1.tmp 0
  obtain ⟨H',h5,h6⟩ := box_turns us ds (i + 1) (cs := cs.set i d) h3 (by simp [hplt]) (Hs.put_self _ _ _) (by simpa using hl) hside (by simp at hi ⊢; omega)
  refine ⟨H',?_,fun hs => h6 (h4 hs)⟩
  rw [List.set_set] at h5
  exact h5
 | [],_ :: _,_,_,_,_,_,_,_,_,_,hl,_,_ => by simp at hl
 | _ :: _,[],_,_,_,_,_,_,_,_,_,hl,_,_ => by simp at hl

section
variable {y z : Operand} {t t' : TypeId} {k : IntKind} {i j : Int} {qs : List Nat}
theorem exec_store {a : Act} {w w' : World} (ho : o.op = .store t y z) (h : (Instr.storeAt t (a.eval y) (a.eval z)).run P w = .ok () w') : (execOp a.eval o).run P w = .ok .skip w' := by
 unfold execOp
 simp only [ho,Sem.run_bind,h,Result.andThen_ok]
 rfl
theorem L_st1 {p m : Nat} {cs : List V1} {c : V1} [TyOne P t] (ho : o.op = .store t y z) (hg : o.guard = none) (hd : o.dst = none) (hy : st.ev y = .o (.c (.ptr p m))) (hz : st.ev z = .o (.c c)) (hp : st.objs[p]? = some (.box cs)) (hm : m < cs.length) (hk : c.known = true)
  (h : AL P E ops QQ rest ⟨st.n,st.tmps,st.objs.set p (.box (cs.set m c))⟩) : AL P E ops QQ (o :: rest) st := by
 refine ⟨fun a w ⟨H,F,h1,h2⟩ => ?_⟩
 obtain ⟨g,tt,vs,e1,e2⟩ := h1.v1 hy
 obtain ⟨g',t'',vs',e3,e4,hl,hcs⟩ := h1.bx hp
 rw [e1] at e3
 simp only [Pc.box.injEq] at e3
 obtain ⟨rfl,rfl,rfl⟩ := e3
 have hc := h1.v1 hz
 have hone := R1.one (V1.known_ne hk) h1.ok hc
 have hmv : m < vs.length := by omega
 obtain ⟨h3,h4⟩ := box_turn h1 hp e1 hc hone hm
 refine wpList_step fun K hK => ?_
 rw [if_pos (by unfold Region.wanted; rw [hg])]
 unfold Oper.wp
 rw [exec_store ho (w' := w.setCell ⟨g,m,none⟩ (a.eval z)) (by
  rw [e2]
  exact run_storeAt_one t g m (a.eval z) vs[m] hone (by rw [cell_of_row w g m vs.toArray tt (0,0) e4]; simp [hmv]) (by simp [World.frozen?,e4]))]
 show K (a.put o.dst undef) _
 rw [hd]
 exact hK _ _ (h.h _ _ ⟨_,F,h3,h4 h2⟩)
theorem L_stN {p m n' : Nat} {cs ds : List V1} [hr : TyRow P t n'] (ho : o.op = .store t y z) (hg : o.guard = none) (hd : o.dst = none) (hy : st.ev y = .o (.c (.ptr p m))) (hz : st.ev z = .o (.ag ds)) (hp : st.objs[p]? = some (.box cs)) (hl : ds.length = n') (hm : m + ds.length ≤ cs.length) (hk : ds.all V1.known = true)
  (h : AL P E ops QQ rest ⟨st.n,st.tmps,st.objs.set p (.box (setFrom cs m ds))⟩) : AL P E ops QQ (o :: rest) st := by
 refine ⟨fun a w ⟨H,F,h1,h2⟩ => ?_⟩
 obtain ⟨g,tt,vs,e1,e2⟩ := h1.v1 hy
 obtain ⟨g',t'',vs',e3,e4,hl',hcs⟩ := h1.bx hp
 rw [e1] at e3
 simp only [Pc.box.injEq] at e3
 obtain ⟨rfl,rfl,rfl⟩ := e3
 have hv := h1.ev z
 rw [hz] at hv
 obtain ⟨us,e5,hl5,hc5⟩ := hv
 have hone : ∀ (j : Nat) (d : V1) (u : Value),ds[j]? = some d → us[j]? = some u → R1 w H F d u ∧ u.oneCell' = true := fun j d u h6 h7 => ⟨hc5 j d u h6 h7,R1.one (V1.known_ne (List.all_eq_true.1 hk d (Yv h6))) h1.ok (hc5 j d u h6 h7)⟩
 obtain ⟨H',h3,h4⟩ := box_turns us ds m h1 hp e1 hl5 hone hm
 refine wpList_step fun K hK => ?_
 rw [if_pos (by unfold Region.wanted; rw [hg])]
 unfold Oper.wp
 rw [exec_store ho (w' := w.setCells g m us) (by
  rw [e2,e5]
  have := run_storeAt_mid (P := P) w g m t us.toArray (fun j hj => ⟨by rw [cell_of_row w g (m + j) vs.toArray tt (0,0) e4]; simp at hj; simp; omega,by simp [World.frozen?,e4]⟩) (by rw [hr.size]; simp [hl5,hl]) (by
   rw [Array.all_eq_true_iff_forall_mem]
   intro u hu
   obtain ⟨j,hj⟩ := List.getElem?_of_mem (show u ∈ us by simpa using hu)
   exact (hone j _ u (List.getElem?_eq_getElem (by rw [← hl5]; exact Yu hj)) hj).2)
  simpa using this)]
 show K (a.put o.dst undef) _
 rw [hd]
 exact hK _ _ (h.h _ _ ⟨_,F,h3,h4 h2⟩)

/-! ### Append -/
def srcOf (objs : List Ob) : V1 → Option (List (List T))
 | .rd _ (.v (.slice none 0 0)) => some []
 | .rd _ (.sl _ es) => some es
 | .ref p => match objs.getD p .gone with
  | .row _ es => some es
  | _ => none
 | .sb p _ 1 => match objs.getD p .gone with
  | .box cs => sbE cs
  | _ => none
 | _ => none
def plainT (es : List (List T)) : Prop := ∀ e ∈ es,∀ t ∈ e,∃ u,t = .v u

theorem src_form (h : R0 w H F st a) {x : V1} {v : Value} {es : List (List T)} (hx : R1 w H F x v) (hs : srcOf st.objs x = some es) : ∃ A c,v = .slice A es.length c ∧
  ∀ (i : Nat) (e : List T),es[i]? = some e → ∃ b o k,A = some ⟨b,o,none⟩ ∧ 0 < k ∧ e.length = k ∧ ∀ (j : Nat) (t : T),e[j]? = some t → ∃ u,w.cell? ⟨b,o + i * k + j,none⟩ = some u ∧ RO w (fun _ => True) t u := by
 have key : ∀ {k : Nat} {es' : List (List T)} {G : Nat → Prop},RO w G (.sl k es') v → ∃ A c,v = .slice A es'.length c ∧ ∀ (i : Nat) (e : List T),es'[i]? = some e → ∃ b o k,A = some ⟨b,o,none⟩ ∧ 0 < k ∧ e.length = k ∧ ∀ (j : Nat) (t : T),e[j]? = some t → ∃ u,w.cell? ⟨b,o + i * k + j,none⟩ = some u ∧ RO w (fun _ => True) t u := by
  intro k es' G hr
  obtain ⟨A,c,hv,_⟩ := hr.form
  refine ⟨A,c,hv,fun i e hi => ?_⟩
  obtain ⟨b,o,c',hv',_,hp,hl,hc⟩ := hr.at_ hi
  rw [hv] at hv'
  simp only [Value.slice.injEq] at hv'
  refine ⟨b,o,k,hv'.1,hp,hl,fun j t hj => ?_⟩
  obtain ⟨u,h1,h2⟩ := hc j t hj
  exact ⟨u,h1,h2.weak fun _ _ _ => trivial⟩
 cases x with
 | rd qs x =>
  cases x with
  | v u =>
   obtain ⟨rfl,_⟩ := RO.plain hx
   simp only [srcOf] at hs
   split at hs
   ·rename_i e
    simp only [V1.rd.injEq,T.v.injEq] at e
    obtain ⟨_,rfl⟩ := e
    simp only [Option.some.injEq] at hs
    subst hs
    exact ⟨none,0,J,fun i e hi => by simp at hi⟩
   ·rename_i e
    cases e
   ·rename_i e
    cases e
   ·rename_i e
    cases e
   ·cases hs
  | sl k es' =>
   simp only [srcOf,Option.some.injEq] at hs
   subst hs
   exact key hx
  | un => simp [srcOf] at hs
 | ref p =>
  have h1 := h.obs p
  simp only [srcOf] at hs
  cases ho : st.objs.getD p .gone with
  | row k es' =>
   rw [ho] at h1 hs
   simp only [Option.some.injEq] at hs
   subst hs
   obtain ⟨u,fp,e⟩ := h1
   obtain ⟨x,fp',e'⟩ := hx
   have h2 := h.ok.says p
   rw [e] at h2 e'
   simp only [Pc.ow.injEq] at e'
   obtain ⟨_,rfl,_⟩ := e'
   exact key (OW.ro h2)
  | gone => rw [ho] at hs; cases hs
  | hole => rw [ho] at hs; cases hs
  | box cs => rw [ho] at hs; cases hs
  | gh i x => rw [ho] at hs; cases hs
  | shr es => rw [ho] at hs; cases hs
 | ptr => simp [srcOf] at hs
 | sb p n' k =>
  obtain ⟨g,t,vs,e1,e2,e3,rfl⟩ := hx
  unfold srcOf at hs
  split at hs
  ·rename_i e; cases e
  ·rename_i e; cases e
  ·rename_i e; cases e
  ·rename_i p' n'' e
   simp only [V1.sb.injEq] at e
   obtain ⟨rfl,rfl,rfl⟩ := e
   have h1 := h.obs p
   split at hs
   ·rename_i cs ho
    rw [ho] at h1
    obtain ⟨g',t',vs',e4,hl,hr⟩ := h1
    rw [e1] at e4
    simp only [Pc.box.injEq] at e4
    obtain ⟨rfl,rfl,rfl⟩ := e4
    have hsay := h.ok.says p
    rw [e1] at hsay
    obtain ⟨k1,k2⟩ := sbE_ok _ _ hs
    refine ⟨some ⟨g,0,none⟩,n',by rw [k1,← hl,e2,Nat.mul_one],fun i e hi => ?_⟩
    obtain ⟨ps,u,k3,k4⟩ := k2 i e hi
    subst k4
    refine ⟨g,0,1,J,by omega,J,fun j t hj => ?_⟩
    cases j with
    | succ j => simp at hj
    | zero =>
     simp only [List.getElem?_cons_zero,Option.some.injEq] at hj
     subst hj
     have hlt : i < vs.length := by rw [hl]; exact Yu k3
     obtain ⟨k5,k6⟩ := hr i _ _ k3 (List.getElem?_eq_getElem hlt)
     obtain ⟨k7,_⟩ := RO.plain k5
     refine ⟨vs[i],?_,?_⟩
     ·rw [cell_of_row w g _ vs.toArray t (0,0) hsay]
      simp [hlt]
     ·rw [k7] at k6 ⊢
      exact .v u k6
   ·cases hs
  ·cases hs
 | el => simp [srcOf] at hs
 | rp => simp [srcOf] at hs
 | le => simp [srcOf] at hs
 | hd => simp [srcOf] at hs
 | tl => simp [srcOf] at hs
 | un => simp [srcOf] at hs

def plainV' (es : List (List T)) (i j : Nat) : Value := match (es.getD i []).getD j (.v undef) with | .v u => u | _ => undef
theorem plainV'_at {es : List (List T)} {i j : Nat} {e : List T} {u : Value} (h1 : es[i]? = some e) (h2 : e[j]? = some (.v u)) : plainV' es i j = u := by
 unfold plainV'
 rw [Yt h1,Yt h2]
theorem append_src {tx e : TypeId} {zs : List Value} {by_ : Nat} [hm : TyMake P t e zs by_] {kk : Nat} {es es' : List (List T)} {v : Value} {fp : List Nat} (hw : OW w (.sl kk es) v fp) (hnd : fp.Nodup) (hkz : kk = zs.length) (hz0 : zs ≠ []) {u : Value}
  (hsrc : Src P kk tx u es'.length (flatV (plainV' es') es'.length kk) w) (hpl : plainT es') (hkk : ∀ e ∈ es',e.length = kk) (hb : (es.length + es'.length) * by_ ≤ 140737488355328) (h63 : es.length + es'.length ≤ 9223372036854775807) :
  ∃ v' w' fp',(Builtin.append_ #[t,tx] o.type #[v,u]).run P w = .ok v' w' ∧ OW w' (.sl kk (es ++ es')) v' fp' ∧ fp'.Nodup ∧ (∀ b ∈ fp',b ∈ fp ∨ w.heap.size ≤ b) ∧ Keeps w w' fp := by
 have hzp : 0 < zs.length := List.length_pos_iff.2 hz0
 have hnil : (es'.map fun e => e.map fun _ => ([] : List Nat)).flatten.flatten = [] := by
  rw [List.flatten_eq_nil_iff]
  intro l hl
  rw [List.mem_flatten] at hl
  obtain ⟨f,hf,hl⟩ := hl
  obtain ⟨e,_,rfl⟩ := List.mem_map.1 hf
  obtain ⟨_,_,rfl⟩ := List.mem_map.1 hl
  rfl
 obtain ⟨v',w',fp',h1,h2,h3,h4,h5⟩ := run_append_ow (P := P) (t := t) (ty := o.type) hw hkz hzp hnd es' (plainV' es') (es'.map fun e => e.map fun _ => []) u hkk hsrc
  (by simp) (fun f hf => by
   obtain ⟨e,h6,rfl⟩ := List.mem_map.1 hf
   simpa using hkk e h6)
  (fun i j e t fs f h6 h7 h8 h9 => by
   rw [List.getElem?_map,h6] at h8
   simp only [Option.map_some,Option.some.injEq] at h8
   subst h8
   rw [List.getElem?_map,h7] at h9
   simp only [Option.map_some,Option.some.injEq] at h9
   subst h9
   obtain ⟨u,rfl⟩ := hpl e (Yv h6) t (Yv h7)
   rw [plainV'_at h6 h7]
   refine .v u ?_
   have hi := Yu h6
   have hj : j < kk := by rw [← hkk e (Yv h6)]; exact Yu h7
   have := hsrc.one _ (Yv (flatV_at (val := plainV' es') hi hj))
   rwa [plainV'_at h6 h7] at this)
  (by rw [hnil]; exact List.nodup_nil)
  (fun b _ hb => by rw [hnil] at hb; simp at hb) hb (by simpa [maxLen] using h63)
 refine ⟨v',w',fp',h1,h2,h3,fun b hb => ?_,h5⟩
 rcases h4 b hb with h6 | h6 | h6
 ·exact .inl h6
 ·rw [hnil] at h6; simp at h6
 ·exact .inr h6
theorem append_plain {e : TypeId} {zs : List Value} {by_ : Nat} [hm : TyMake P t e zs by_] (h : R0 w H F st a) {kk : Nat} {es es' : List (List T)} {v : Value} {fp : List Nat} (hw : OW w (.sl kk es) v fp) (hnd : fp.Nodup) (hkz : kk = zs.length) (hz0 : zs ≠ []) {x : V1} {u : Value} (hx : R1 w H F x u) (hs : srcOf st.objs x = some es')
  (hpl : plainT es') (hkk : ∀ e ∈ es',e.length = kk) (hb : (es.length + es'.length) * by_ ≤ 140737488355328) (h63 : es.length + es'.length ≤ 9223372036854775807) :
  ∃ v' w' fp',(Builtin.append_ #[t,t] o.type #[v,u]).run P w = .ok v' w' ∧ OW w' (.sl kk (es ++ es')) v' fp' ∧ fp'.Nodup ∧ (∀ b ∈ fp',b ∈ fp ∨ w.heap.size ≤ b) ∧ Keeps w w' fp := by
 obtain ⟨A,c,rfl,hsrc⟩ := src_form h hx hs
 have hcell : ∀ i j (hi : i < es'.length) (hj : j < kk),∃ b o',A = some ⟨b,o',none⟩ ∧ w.cell? ⟨b,o' + i * kk + j,none⟩ = some (plainV' es' i j) ∧ (plainV' es' i j).oneCell' = true := by
  intro i j hi hj
  have h6 := List.getElem?_eq_getElem hi
  obtain ⟨b,o',k,hA,hp,hk,hc⟩ := hsrc i _ h6
  have h7 : k = kk := by rw [← hk,hkk _ (List.getElem_mem hi)]
  subst h7
  have h8 : j < (es'[i]).length := by omega
  obtain ⟨u',h9,h10⟩ := hc j _ (List.getElem?_eq_getElem h8)
  obtain ⟨u'',h11⟩ := hpl _ (List.getElem_mem hi) _ (List.getElem_mem h8)
  rw [h11] at h10
  obtain ⟨rfl,h12⟩ := RO.plain h10
  rw [plainV'_at h6 (by rw [List.getElem?_eq_getElem h8,h11])]
  exact ⟨b,o',hA,h9,h12⟩
 refine append_src (o := o) hw hnd hkz hz0 (src_slice (zs := zs) es' (plainV' es') A c (fun hne => ?_) fun i j hi hj => by obtain ⟨_,_,_,_,h⟩ := hcell i j hi hj; exact h) hpl hkk hb h63
 have hl : 0 < es'.length := List.length_pos_iff.2 hne
 have hk0 : 0 < kk := by rw [hkz]; exact List.length_pos_iff.2 hz0
 obtain ⟨b,o',hA,_⟩ := hcell 0 0 hl hk0
 refine ⟨b,o',hA,fun i j hi hj => ?_⟩
 obtain ⟨b',o'',hA',h1,_⟩ := hcell i j hi hj
 rw [hA] at hA'
 simp only [Option.some.injEq,Addr.mk.injEq] at hA'
 obtain ⟨rfl,rfl,_⟩ := hA'
 exact h1

theorem Ok.turn (h : Ok w H F) {p : Nat} {fp : List Nat} (hfp : (H p).fp = fp) {w' : World} (hk : Keeps w w' fp) (q : Pc) (hs : q.says w') (hn : q.fp.Nodup) (hng : q.ng) (hf : ∀ b ∈ q.fp,b ∈ fp ∨ w.heap.size ≤ b) : Ok w' (H.put p q) F ∧ Turn w H w' (H.put p q) [p] := by
 have hne : ∀ r,r ≠ p → H.put p q r = H r := fun r hr => Hs.put_ne H q hr
 have hb0 : ∀ r b,r ≠ p → b ∈ (H r).fp → b ∉ q.fp := fun r b hr h1 h2 => by
  rcases hf b h2 with h3 | h3
  ·exact hr (h.disj r p b h1 (by rw [hfp]; exact h3))
  ·have := h.lt h1; omega
 refine ⟨⟨fun r => ?_,fun r => ?_,fun r s b h1 h2 => ?_,fun r b h1 h2 => ?_,fun b hb' => Nat.lt_of_lt_of_le (h.flt b hb') hk.size⟩,hk.os,hk.tape,hk.output,hk.size,fun b h1 h2 => hk.block b h1 (by rw [← hfp]; exact h2 p (by simp)),fun r hr => hne r (by simpa using hr),fun r b hb => ?_,fun r i v hr => ?_⟩
 ·by_cases e : r = p
  ·subst e; rw [Hs.put_self]; exact hs
  ·rw [hne r e]
   exact Pc.frame (fun b hb' => hk.block b (h.lt hb') fun hh => e (h.disj r p b hb' (by rw [hfp]; exact hh))) (h.says r)
 ·by_cases e : r = p
  ·subst e; rw [Hs.put_self]; exact hn
  ·rw [hne r e]; exact h.nodup r
 ·by_cases e : r = p
  ·by_cases e' : s = p
   ·rw [e,e']
   ·rw [e,Hs.put_self] at h1
    rw [hne s e'] at h2
    exact absurd h1 (hb0 s b e' h2)
  ·rw [hne r e] at h1
   by_cases e' : s = p
   ·rw [e',Hs.put_self] at h2
    exact absurd h2 (hb0 r b e h1)
   ·rw [hne s e'] at h2
    exact h.disj r s b h1 h2
 ·by_cases e : r = p
  ·rw [e,Hs.put_self] at h1
   rcases hf b h1 with h3 | h3
   ·exact h.free p b (by rw [hfp]; exact h3) h2
   ·have := h.flt b h2; omega
  ·rw [hne r e] at h1
   exact h.free r b h1 h2
 ·by_cases e : r = p
  ·rw [e,Hs.put_self] at hb
   rcases hf b hb with h3 | h3
   ·exact .inl ⟨p,by rw [hfp]; exact h3⟩
   ·exact .inr h3
  ·rw [hne r e] at hb
   exact .inl ⟨r,hb⟩
 ·by_cases e : r = p
  ·rw [e,Hs.put_self] at hr
   rw [hr] at hng
   exact hng.elim
  ·exact ⟨r,by rw [← hne r e]; exact hr⟩

theorem Yq {tx : TypeId} {a : Act} {w w' : World} {v : Value} (ho : o.op = .call { callee := .builtin .append,args := #[y,z],argTypes := #[t,tx] }) (h : (Builtin.append_ #[t,tx] o.type #[a.eval y,a.eval z]).run P w = .ok v w') : (execOp a.eval o).run P w = .ok (.value v) w' := by
 unfold execOp
 simp only [ho,resolve,invoke,builtin,Sem.run_bind,Sem.run_pure,Result.andThen_ok,List.map_toArray,List.map_cons,List.map_nil,h]

theorem L_appx {p kk : Nat} {tx : TypeId} {es es' : List (List T)} {e : TypeId} {zs : List Value} {by_ : Nat} [hm : TyMake P t e zs by_] (ho : o.op = .call { callee := .builtin .append,args := #[y,z],argTypes := #[t,tx] }) (hg : o.guard = none) (hy : st.ev y = .o (.c (.ref p))) (hp : st.objs[p]? = some (.row kk es))
  (hsrc : ∀ (a : Act) (w : World) (H : Hs) (F : Nat → Prop),R0 w H F st a → Src P kk tx (a.eval z) es'.length (flatV (plainV' es') es'.length kk) w)
  (hkz : kk = zs.length) (hz0 : zs ≠ []) (hpl : plainT es') (hkk : ∀ e ∈ es',e.length = kk) (hb : (es.length + es'.length) * by_ ≤ 140737488355328) (h63 : es.length + es'.length ≤ 9223372036854775807)
  (hd : dstOk st.n o.dst = true) (h : AL P E ops QQ rest ⟨st.n,setT (st.tmps.map fun e => (e.1,e.2.kill [p])) o.dst (.o (.c (.ref p))),(st.objs.map (Ob.kill [p])).set p (.row kk (es ++ es'))⟩) : AL P E ops QQ (o :: rest) st := by
 refine ⟨fun a w ⟨H,F,h1,h2⟩ => ?_⟩
 obtain ⟨v,fp,e1,e2⟩ := h1.ow hp
 obtain ⟨x',fp',e3⟩ := h1.v1 hy
 rw [e1] at e3
 simp only [Pc.ow.injEq] at e3
 obtain ⟨_,hv,_⟩ := e3
 have hnd := h1.ok.nodup p
 rw [e1] at hnd
 obtain ⟨v',w',fp'',hr,h3,h4,h5,h6⟩ := append_src (P := P) (o := o) (t := t) e2 hnd hkz hz0 (hsrc a w H F h1) hpl hkk hb h63
 obtain ⟨hok,htn⟩ := h1.ok.turn (p := p) (fp := fp) (by rw [e1]; rfl) h6 (.ow (.sl kk (es ++ es')) v' fp'') h3 h4 trivial h5
 obtain ⟨hplt,_⟩ := List.getElem?_eq_some_iff.1 hp
 have hR := h1.turn htn hok ((st.objs.map (Ob.kill [p])).set p (.row kk (es ++ es'))) (fun q hq => ?_) (fun q hq => ?_)
 ·have hR2 := hR.put (x := .o (.c (.ref p))) o.dst hd (v := v') ⟨_,_,Hs.put_self _ _ _⟩
  refine wpList_step fun K hK => ?_
  rw [if_pos (by unfold Region.wanted; rw [hg])]
  unfold Oper.wp
  rw [Yq ho (by rw [← hv]; exact hr)]
  exact hK _ _ (h.h _ _ ⟨_,F,hR2,h2.turn htn⟩)
 ·have hqp : q ≠ p := by simpa using hq
  rw [List.getD_eq_getElem?_getD,List.getElem?_set_ne (Ne.symm hqp),List.getElem?_map,List.getD_eq_getElem?_getD]
  cases st.objs[q]? <;> rfl
 ·have hqp : q = p := by simpa using hq
  subst hqp
  rw [Yt (x := .row kk (es ++ es')) (by simp [hplt])]
  exact ⟨_,_,Hs.put_self _ _ _⟩
def bE (l : List UInt8) : List (List T) := l.map fun b => [.v (.int .u8 (b.toNat : Int))]
theorem bE_plain (l : List UInt8) : plainT (bE l) := fun e he t ht => by
 obtain ⟨b,_,rfl⟩ := List.mem_map.1 he
 simp at ht
 exact ⟨_,ht⟩
theorem bE_len (l : List UInt8) : (bE l).length = l.length := by simp [bE]
theorem bE_one (l : List UInt8) : ∀ e ∈ bE l,e.length = 1 := fun e he => by
 obtain ⟨b,_,rfl⟩ := List.mem_map.1 he
 rfl
theorem bE_src {tx : TypeId} [ht : TyStr P tx] (s : ByteArray) : Src P 1 tx (.string s) (bE s.data.toList).length (flatV (plainV' (bE s.data.toList)) (bE s.data.toList).length 1) w := by
 have h := Src.ofString (P := P) w ht.str s
 have h1 : (bE s.data.toList).length = s.size := by rw [bE_len]; exact Array.length_toList
 have h2 : flatV (plainV' (bE s.data.toList)) (bE s.data.toList).length 1 = byteCells s := by
  apply List.ext_getElem?
  intro q
  by_cases hq : q < s.data.toList.length
  ·have h3 := flatV_at (val := plainV' (bE s.data.toList)) (n := (bE s.data.toList).length) (k := 1) (i := q) (j := 0) (by rw [bE_len]; exact hq) (by omega)
   rw [Nat.mul_one,Nat.add_zero] at h3
   rw [h3,plainV'_at (e := [.v (.int .u8 ((s.data.toList[q]).toNat : Int))]) (u := .int .u8 ((s.data.toList[q]).toNat : Int)) (by unfold bE; rw [List.getElem?_map,List.getElem?_eq_getElem hq]; rfl) rfl]
   unfold byteCells
   rw [List.getElem?_map,List.getElem?_eq_getElem hq]
   rfl
  ·rw [List.getElem?_eq_none (by rw [Ys,bE_len]; omega),List.getElem?_eq_none (by rw [byteCells_length,← h1,bE_len]; omega)]
 rw [h2,h1]
 exact h
theorem L_appstr {p : Nat} {tx : TypeId} {es : List (List T)} {s : ByteArray} {e : TypeId} {by_ : Nat} {z0 : Value} [hm : TyMake P t e [z0] by_] [TyStr P tx] (ho : o.op = .call { callee := .builtin .append,args := #[y,z],argTypes := #[t,tx] }) (hg : o.guard = none) (hy : st.ev y = .o (.c (.ref p))) (hp : st.objs[p]? = some (.row 1 es)) (hz : st.ev z = .o (.c (.rd qs (.v (.string s)))))
  (hd : dstOk st.n o.dst = true) (hb : (es.length + s.size) * by_ ≤ 140737488355328) (h63 : es.length + s.size ≤ 9223372036854775807)
  (h : AL P E ops QQ rest ⟨st.n,setT (st.tmps.map fun e => (e.1,e.2.kill [p])) o.dst (.o (.c (.ref p))),(st.objs.map (Ob.kill [p])).set p (.row 1 (es ++ bE s.data.toList))⟩) : AL P E ops QQ (o :: rest) st :=
 have hl : (bE s.data.toList).length = s.size := by rw [bE_len]; exact Array.length_toList
 L_appx (zs := [z0]) ho hg hy hp (fun a w H F hr => by rw [hr.plain hz]; exact bE_src s) rfl (by simp) (bE_plain _) (bE_one _) (by rw [hl]; exact hb) (by rw [hl]; exact h63) hd h
theorem L_app {p kk : Nat} {es es' : List (List T)} {x : V1} {e : TypeId} {zs : List Value} {by_ : Nat} [hm : TyMake P t e zs by_] (ho : o.op = .call { callee := .builtin .append,args := #[y,z],argTypes := #[t,t] }) (hg : o.guard = none) (hy : st.ev y = .o (.c (.ref p))) (hp : st.objs[p]? = some (.row kk es)) (hz : st.ev z = .o (.c x)) (hs : srcOf st.objs x = some es')
  (hkz : kk = zs.length) (hz0 : zs ≠ []) (hpl : plainT es') (hkk : ∀ e ∈ es',e.length = kk) (hb : (es.length + es'.length) * by_ ≤ 140737488355328) (h63 : es.length + es'.length ≤ 9223372036854775807)
  (hd : dstOk st.n o.dst = true) (h : AL P E ops QQ rest ⟨st.n,setT (st.tmps.map fun e => (e.1,e.2.kill [p])) o.dst (.o (.c (.ref p))),(st.objs.map (Ob.kill [p])).set p (.row kk (es ++ es'))⟩) : AL P E ops QQ (o :: rest) st := by
 refine ⟨fun a w ⟨H,F,h1,h2⟩ => ?_⟩
 obtain ⟨v,fp,e1,e2⟩ := h1.ow hp
 obtain ⟨x',fp',e3⟩ := h1.v1 hy
 rw [e1] at e3
 simp only [Pc.ow.injEq] at e3
 obtain ⟨_,hv,_⟩ := e3
 have hnd := h1.ok.nodup p
 rw [e1] at hnd
 obtain ⟨v',w',fp'',hr,h3,h4,h5,h6⟩ := append_plain (P := P) (o := o) (t := t) h1 e2 hnd hkz hz0 (h1.v1 hz) hs hpl hkk hb h63
 obtain ⟨hok,htn⟩ := h1.ok.turn (p := p) (fp := fp) (by rw [e1]; rfl) h6 (.ow (.sl kk (es ++ es')) v' fp'') h3 h4 trivial h5
 obtain ⟨hplt,_⟩ := List.getElem?_eq_some_iff.1 hp
 have hR := h1.turn htn hok ((st.objs.map (Ob.kill [p])).set p (.row kk (es ++ es'))) (fun q hq => ?_) (fun q hq => ?_)
 ·have hR2 := hR.put (x := .o (.c (.ref p))) o.dst hd (v := v') ⟨_,_,Hs.put_self _ _ _⟩
  refine wpList_step fun K hK => ?_
  rw [if_pos (by unfold Region.wanted; rw [hg])]
  unfold Oper.wp
  rw [Yq ho (by rw [← hv]; exact hr)]
  exact hK _ _ (h.h _ _ ⟨_,F,hR2,h2.turn htn⟩)
 ·have hqp : q ≠ p := by simpa using hq
  rw [List.getD_eq_getElem?_getD,List.getElem?_set_ne (Ne.symm hqp),List.getElem?_map,List.getD_eq_getElem?_getD]
  cases st.objs[q]? <;> rfl
 ·have hqp : q = p := by simpa using hq
  subst hqp
  rw [Yt (x := .row kk (es ++ es')) (by simp [hplt])]
  exact ⟨_,_,Hs.put_self _ _ _⟩
theorem L_appnil {es' : List (List T)} {x : V1} {e : TypeId} {zs : List Value} {by_ : Nat} [hm : TyMake P t e zs by_] (ho : o.op = .call { callee := .builtin .append,args := #[y,z],argTypes := #[t,t] }) (hg : o.guard = none) (hy : st.ev y = .o (.c (.rd qs (.v (.slice none 0 0))))) (hz : st.ev z = .o (.c x)) (hs : srcOf st.objs x = some es')
  (hz0 : zs ≠ []) (hpl : plainT es') (hkk : ∀ e ∈ es',e.length = zs.length) (hb : es'.length * by_ ≤ 140737488355328) (h63 : es'.length ≤ 9223372036854775807)
  (hd : dstOk st.n o.dst = true) (h : AL P E ops QQ rest ⟨st.n,setT st.tmps o.dst (.o (.c (.ref st.objs.length))),st.objs ++ [.row zs.length es']⟩) : AL P E ops QQ (o :: rest) st := by
 refine ⟨fun a w ⟨H,F,h1,h2⟩ => ?_⟩
 have hv := h1.plain hy
 obtain ⟨v',w',fp'',hr,h3,h4,h5,h6⟩ := append_plain (P := P) (o := o) (t := t) (kk := zs.length) (es := []) h1 (OW.nil _) List.nodup_nil rfl hz0 (h1.v1 hz) hs hpl hkk (by simpa using hb) (by simpa using h63)
 have hn : H st.objs.length = .nil := by
  have := h1.obs st.objs.length
  simpa [List.getD_eq_getElem?_getD,RB] using this
 have hbel : Below w.heap.size w w' := ⟨h6.os,h6.tape,h6.output,h6.size,fun b hb => h6.block b hb (by simp)⟩
 obtain ⟨hok,hgr⟩ := h1.ok.add hbel hn (.ow (.sl zs.length es') v' fp'') h3 h4 trivial (fun b hb => (h5 b hb).resolve_left (by simp))
 have hR := h1.grow (x := .o (.c (.ref st.objs.length))) (v := v') (obs := [.row zs.length es']) (dst := o.dst) hd hgr hok (fun i ob hi => ?_) (fun p hp hh => ?_) ⟨_,_,Hs.put_self _ _ _⟩
 ·refine wpList_step fun K hK => ?_
  rw [if_pos (by unfold Region.wanted; rw [hg])]
  unfold Oper.wp
  rw [Yq ho (by rw [hv]; exact hr)]
  exact hK _ _ (h.h _ _ ⟨_,F,hR,h2.grow hgr⟩)
 ·cases i with
  | zero => simp at hi; subst hi; exact ⟨_,_,Hs.put_self _ _ _⟩
  | succ i => simp at hi
 ·rw [Hs.put_ne _ _ (by simp only [List.length_cons,List.length_nil] at hh; omega),hp]
end
end
end
section
open Go.RowKit

/-! ### nil ass a slice of one's own -/
def V1.isNil : V1 → Bool
 | .rd _ (.v (.slice none 0 0)) => true
 | _ => false
def fill1 : Nat → List V1 → List V1
 | _,[] => []
 | n,x :: xs => if x.isNil then .ref n :: fill1 (n + 1) xs else x :: fill1 n xs
def cnt1 : List V1 → Nat
 | [] => 0
 | x :: xs => if x.isNil then cnt1 xs + 1 else cnt1 xs
def V2.fill (n : Nat) : V2 → V2
 | .c x => if x.isNil then .c (.ref n) else .c x
 | .ag xs => .ag (fill1 n xs)
def V2.cnt : V2 → Nat
 | .c x => if x.isNil then 1 else 0
 | .ag xs => cnt1 xs
def fillL : Nat → List V2 → List V2
 | _,[] => []
 | n,x :: xs => x.fill n :: fillL (n + x.cnt) xs
def cntL : List V2 → Nat
 | [] => 0
 | x :: xs => x.cnt + cntL xs
def V.fill (n : Nat) : V → V
 | .o x => .o (x.fill n)
 | .tu xs => .tu (fillL n xs)
 | .iff cs x => .iff cs x
def V.cnt : V → Nat
 | .o x => x.cnt
 | .tu xs => cntL xs
 | .iff _ _ => 0

section
variable {w : World} {H H' : Hs} {F : Nat → Prop} {N m : Nat}
theorem nil_val {x : V1} {v : Value} (hx : x.isNil = true) (h : R1 w H F x v) : v = .slice none 0 0 := by
 unfold V1.isNil at hx
 split at hx
 ·exact (RO.plain h).1
 ·cases hx
theorem fill1_ok (hg : ∀ {x : V1} {v : Value},R1 w H F x v → R1 w H' F x v) (hn : ∀ p,N ≤ p → p < N + m → ∃ k,H' p = .ow (.sl k []) (.slice none 0 0) []) :
  ∀ (xs : List V1) (us : List Value) (n : Nat),N ≤ n → n + cnt1 xs ≤ N + m → us.length = xs.length → (∀ (i : Nat) (x : V1) (u : Value),xs[i]? = some x → us[i]? = some u → R1 w H F x u) →
   (fill1 n xs).length = xs.length ∧ ∀ (i : Nat) (x : V1) (u : Value),(fill1 n xs)[i]? = some x → us[i]? = some u → R1 w H' F x u
 | [],us,n,_,_,_,_ => ⟨rfl,fun i x u h => by simp [fill1] at h⟩
 | x :: xs,[],n,_,_,hl,_ => by simp at hl
 | x :: xs,u :: us,n,h1,h2,hl,hr => by
  have h0 := hr 0 x u J J
  have hr' : ∀ (i : Nat) (x : V1) (u : Value),xs[i]? = some x → us[i]? = some u → R1 w H F x u := fun i x u h3 h4 => hr (i + 1) x u (by simpa using h3) (by simpa using h4)
  simp only [fill1,cnt1] at h2 ⊢
  split
  ·rename_i hx
   rw [if_pos hx] at h2
   obtain ⟨h3,h4⟩ := fill1_ok hg hn xs us (n + 1) (by omega) (by omega) (by simpa using hl) hr'
   refine ⟨by simp [h3],fun i y v hi hv => ?_⟩
   cases i with
   | zero =>
    simp only [List.getElem?_cons_zero,Option.some.injEq] at hi hv
    subst hi hv
    obtain ⟨k,e⟩ := hn n h1 (by omega)
    exact ⟨_,_,by rw [e,nil_val hx h0]⟩
   | succ i => exact h4 i y v (by simpa using hi) (by simpa using hv)
  ·rename_i hx
   rw [if_neg hx] at h2
   obtain ⟨h3,h4⟩ := fill1_ok hg hn xs us n h1 h2 (by simpa using hl) hr'
   refine ⟨by simp [h3],fun i y v hi hv => ?_⟩
   cases i with
   | zero =>
    simp only [List.getElem?_cons_zero,Option.some.injEq] at hi hv
    subst hi hv
    exact hg h0
   | succ i => exact h4 i y v (by simpa using hi) (by simpa using hv)
theorem fill2_ok (hg : ∀ {x : V1} {v : Value},R1 w H F x v → R1 w H' F x v) (hn : ∀ p,N ≤ p → p < N + m → ∃ k,H' p = .ow (.sl k []) (.slice none 0 0) []) {x : V2} {v : Value} {n : Nat} (h1 : N ≤ n) (h2 : n + x.cnt ≤ N + m) (h : R2 w H F x v) : R2 w H' F (x.fill n) v := by
 cases x with
 | c x =>
  simp only [V2.fill,V2.cnt] at h2 ⊢
  split
  ·rename_i hx
   rw [if_pos hx] at h2
   obtain ⟨k,e⟩ := hn n h1 (by omega)
   exact ⟨_,_,by rw [e,nil_val hx h]⟩
  ·exact hg h
 | ag xs =>
  obtain ⟨us,e,hl,hr⟩ := h
  obtain ⟨h3,h4⟩ := fill1_ok hg hn xs us n h1 h2 hl hr
  exact ⟨us,e,by rw [hl]; exact h3.symm,h4⟩
theorem fillL_ok (hg : ∀ {x : V1} {v : Value},R1 w H F x v → R1 w H' F x v) (hn : ∀ p,N ≤ p → p < N + m → ∃ k,H' p = .ow (.sl k []) (.slice none 0 0) []) :
  ∀ (xs : List V2) (us : List Value) (n : Nat),N ≤ n → n + cntL xs ≤ N + m → us.length = xs.length → (∀ (i : Nat) (x : V2) (u : Value),xs[i]? = some x → us[i]? = some u → R2 w H F x u) →
   (fillL n xs).length = xs.length ∧ ∀ (i : Nat) (x : V2) (u : Value),(fillL n xs)[i]? = some x → us[i]? = some u → R2 w H' F x u
 | [],us,n,_,_,_,_ => ⟨rfl,fun i x u h => by simp [fillL] at h⟩
 | x :: xs,[],n,_,_,hl,_ => by simp at hl
 | x :: xs,u :: us,n,h1,h2,hl,hr => by
  have h0 := hr 0 x u J J
  simp only [fillL,cntL] at h2 ⊢
  obtain ⟨h3,h4⟩ := fillL_ok hg hn xs us (n + x.cnt) (by omega) (by omega) (by simpa using hl) fun i x u h3 h4 => hr (i + 1) x u (by simpa using h3) (by simpa using h4)
  refine ⟨by simp [h3],fun i y v hi hv => ?_⟩
  cases i with
  | zero =>
   simp only [List.getElem?_cons_zero,Option.some.injEq] at hi hv
   subst hi hv
   exact fill2_ok hg hn h1 (by omega) h0
  | succ i => exact h4 i y v (by simpa using hi) (by simpa using hv)
theorem fillV_ok (hg : ∀ {x : V1} {v : Value},R1 w H F x v → R1 w H' F x v) (hn : ∀ p,N ≤ p → p < N + m → ∃ k,H' p = .ow (.sl k []) (.slice none 0 0) []) {x : V} {v : Value} (h2 : x.cnt ≤ m) (h : RV w H F x v) : RV w H' F (x.fill N) v := by
 cases x with
 | o x => exact fill2_ok hg hn (Nat.le_refl _) (by simp only [V.cnt] at h2; omega) h
 | tu xs =>
  obtain ⟨us,e,hl,hr⟩ := h
  obtain ⟨h3,h4⟩ := fillL_ok hg hn xs us N (Nat.le_refl _) (by simp only [V.cnt] at h2; omega) hl hr
  exact ⟨us,e,by rw [hl]; exact h3.symm,h4⟩
 | iff cs x =>
  refine ⟨fun hc => ?_,h.2⟩
  cases x with
  | c x => exact hg (h.1 hc)
  | ag xs => obtain ⟨us,e,hl,hr⟩ := h.1 hc; exact ⟨us,e,hl,fun i x u h1 h2 => hg (hr i x u h1 h2)⟩
end

theorem Wk.nils {st : St} (d : Nat) (ks : List Nat) {x : V} (hx : look st.tmps d = x) (hk : x.cnt = ks.length) : Wk st ⟨st.n,(d,x.fill st.objs.length) :: st.tmps,st.objs ++ ks.map fun k => .row k []⟩ := by
 intro w H F a h
 have hnil : ∀ p,st.objs.length ≤ p → H p = .nil := fun p hp => by
  have := h.obs p
  simpa [List.getD_eq_getElem?_getD,RB,hp] using this
 obtain ⟨H',hH'⟩ : ∃ H' : Hs,H' = fun p => if st.objs.length ≤ p ∧ p < st.objs.length + ks.length then .ow (.sl (ks.getD (p - st.objs.length) 0) []) (.slice none 0 0) [] else H p := ⟨_,rfl⟩
 have hin : ∀ p,st.objs.length ≤ p → p < st.objs.length + ks.length → H' p = .ow (.sl (ks.getD (p - st.objs.length) 0) []) (.slice none 0 0) [] := fun p h1 h2 => by rw [hH']; exact if_pos ⟨h1,h2⟩
 have hout : ∀ p,¬ (st.objs.length ≤ p ∧ p < st.objs.length + ks.length) → H' p = H p := fun p h1 => by rw [hH']; exact if_neg h1
 have hfp : ∀ p,(H' p).fp = (H p).fp := fun p => by
  by_cases e : st.objs.length ≤ p ∧ p < st.objs.length + ks.length
  ·rw [hin p e.1 e.2,hnil p e.1]; rfl
  ·rw [hout p e]
 have hgh : ∀ p i v,H' p = .gh i v → ∃ q,H q = .gh i v := fun p i v hp => by
  by_cases e : st.objs.length ≤ p ∧ p < st.objs.length + ks.length
  ·rw [hin p e.1 e.2] at hp; cases hp
  ·exact ⟨p,by rw [← hout p e]; exact hp⟩
 have hgr : Grow w H F w H' F := ⟨Below.refl _ _,fun p hp => hout p fun e => hp (hnil p e.1),fun _ h => h,fun _ h => .inl h,fun p hp b hb => by rw [hfp,hp] at hb; simp [Pc.fp] at hb,hgh⟩
 refine ⟨H',⟨⟨fun p => ?_,fun p => by rw [hfp]; exact h.ok.nodup p,fun p q b h1 h2 => by rw [hfp] at h1 h2; exact h.ok.disj p q b h1 h2,fun p b h1 => by rw [hfp] at h1; exact h.ok.free p b h1,h.ok.flt⟩,fun p => ?_,fun e => ?_,h.size,h.defers⟩,fun p b hb => ⟨p,by rw [← hfp]; exact hb⟩,hgh⟩
 ·by_cases e : st.objs.length ≤ p ∧ p < st.objs.length + ks.length
  ·rw [hin p e.1 e.2]; exact OW.nil _
  ·rw [hout p e]; exact h.ok.says p
 ·show RB w H' F p ((st.objs ++ ks.map fun k => Ob.row k []).getD p .gone)
  rcases Nat.lt_or_ge p st.objs.length with h1 | h1
  ·rw [show (st.objs ++ ks.map fun k => Ob.row k []).getD p .gone = st.objs.getD p .gone by simp [List.getD_eq_getElem?_getD,List.getElem?_append_left h1]]
   by_cases hn : H p = .nil
   ·have h2 := h.obs p
    have h3 : H' p = .nil := (hout p (by omega)).trans hn
    cases ho : st.objs.getD p .gone with
    | gone => exact h3
    | hole => trivial
    | box cs => rw [ho] at h2; obtain ⟨a,t,vs,e,_⟩ := h2; rw [hn] at e; cases e
    | row k es => rw [ho] at h2; obtain ⟨v,fp,e⟩ := h2; rw [hn] at e; cases e
    | gh i x => rw [ho] at h2; obtain ⟨v,e,_⟩ := h2; rw [hn] at e; cases e
    | shr es => rw [ho] at h2; obtain ⟨us,v,fp,e,_⟩ := h2; rw [hn] at e; cases e
   ·exact hgr.rb hn (h.obs p)
  ·rcases Nat.lt_or_ge p (st.objs.length + ks.length) with h2 | h2
   ·have h3 : p - st.objs.length < ks.length := by omega
    rw [show (st.objs ++ ks.map fun k => Ob.row k []).getD p .gone = .row (ks.getD (p - st.objs.length) 0) [] by simp [List.getD_eq_getElem?_getD,List.getElem?_append_right h1,h3]]
    exact ⟨_,_,hin p h1 h2⟩
   ·rw [show (st.objs ++ ks.map fun k => Ob.row k []).getD p .gone = Ob.gone by
     rw [List.getD_eq_getElem?_getD,List.getElem?_eq_none (by simp; omega)]; rfl]
    exact (hout p (by omega)).trans (hnil p h1)
 ·show RV w H' F (look ((d,x.fill st.objs.length) :: st.tmps) e) _
  rw [Y0]
  split
  ·rename_i e0
   subst e0
   subst hx
   exact fillV_ok (fun h => hgr.r1 h) (fun p h1 h2 => ⟨_,hin p h1 h2⟩) (Nat.le_of_eq hk) (h.tmp d)
  ·exact hgr.rv (h.tmp e)

/-! ### Results -/
def argT : Nat → List V2 → List (Nat × V)
 | _,[] => []
 | k,x :: xs => (k,.o x) :: argT (k + 1) xs
structure Ends (P : Program) (fn : Func) (objs' : List Ob) (res : V) (st : St) : Prop where
 mk' ::
 h : ∀ (w : World) (H : Hs) (F : Nat → Prop) (a : Act),R0 w H F st a → ∃ H' rv,(results fn a.tmps).run P w = .ok rv w ∧ Ok w H' F ∧ (∀ p,RB w H' F p (objs'.getD p .gone)) ∧ RV w H' F res rv ∧ (∀ p b,b ∈ (H' p).fp → ∃ q,b ∈ (H q).fp) ∧ ∀ p i v,H' p = .gh i v → ∃ q,H q = .gh i v
def Fin0 (P : Program) (fn : Func) (objs' : List Ob) (res : V) : Exit → St → Prop
 | .ret,st => Ends P fn objs' res st
 | .normal,st => Ends P fn objs' res st
 | _,_ => False

structure Fin (P : Program) (fn : Func) (objs' : List Ob) (res : V) (e : Exit) (st : St) : Prop where
 h : Fin0 P fn objs' res e st

section
variable {P : Program} {fn : Func} {objs objs' : List Ob} {res x : V} {st : St} {args : List V2} {f : FuncId} {c : Code}

theorem argT_look : ∀ (args : List V2) (k d : Nat),look (argT k args) d = if k ≤ d then ((args[d - k]?).map V.o).getD U else U
 | [],k,d => by simp [argT,look]
 | x :: xs,k,d => by
  rw [argT,Y0,argT_look xs (k + 1) d]
  by_cases h1 : k = d
  ·subst h1; simp
  ·rw [if_neg h1]
   by_cases h2 : k + 1 ≤ d
   ·rw [if_pos h2,if_pos (by omega),show d - k = (d - (k + 1)) + 1 by omega,List.getElem?_cons_succ]
   ·rw [if_neg h2,if_neg (by omega)]
theorem Con.of {nt : Nat} (hf : P.funcs[f]? = some fn) (hb : fn.body = some c) (hn : fn.ntmps = nt) (hle : Nat.ble args.length nt = true) (h : ∀ E,AWP P E c (Fin P fn objs' res) ⟨nt,argT 0 args,objs⟩) : Con P f objs args objs' res := by
 intro w H F vs hok hob hlen hargs
 refine calls_of_wp hf hb (wp_mono ((h ⟨w,H,F⟩).h _ w ⟨H,F,⟨hok,hob,fun d => ?_,?_,J⟩,Since.refl w H F⟩) ?_)
 ·show RV w H F (look (argT 0 args) d) _
  rw [argT_look,if_pos (Nat.zero_le _),Nat.sub_zero]
  cases h1 : args[d]? with
  | none => trivial
  | some z =>
   have hd : d < vs.length := by rw [hlen]; exact Yu h1
   have h2 := hargs d z vs[d] h1 (List.getElem?_eq_getElem hd)
   have h3 : (vs.toArray ++ Array.replicate (fn.ntmps - vs.toArray.size) undef).getD d undef = vs[d] := by
    simp [Array.getD_eq_getD_getElem?,Array.getElem?_append,hd]
   rw [h3]
   exact h2
 ·have hle' := Nat.le_of_ble_eq_true hle
  simp only [Array.size_append,Array.size_replicate,List.size_toArray,hlen,hn]
  omega
 ·rintro e a' w' ⟨st',hq,H',F',h1,h2⟩
  have hend : ∀ (hE : Ends P fn objs' res st'),a'.defers = [] ∧ ∃ v,(results fn a'.tmps).run P w' = .ok v w' ∧ ∃ H'' F'' rv,Ending.returned v = .returned rv ∧ Since ⟨w,H,F⟩ w' H'' F'' ∧ Ok w' H'' F'' ∧ (∀ p,RB w' H'' F'' p (objs'.getD p .gone)) ∧ RV w' H'' F'' res rv := fun hE => by
   obtain ⟨H'',rv,h3,h4,h5,h6,h7,g7⟩ := hE.h w' H' F' a' h1
   exact ⟨h1.defers,rv,h3,H'',F',rv,rfl,⟨h2.os,h2.tape,h2.output,h2.size,h2.keep,h2.fF,h2.fF',fun p b hb => by obtain ⟨q,hq⟩ := h7 p b hb; exact h2.org q b hq,fun p i v hp => by obtain ⟨q,hq⟩ := g7 p i v hp; exact h2.gh q i v hq⟩,h4,h5,h6⟩
  have hq := hq.h
  cases e with
  | normal => exact hend hq
  | ret => exact hend hq
  | _ => exact hq.elim

theorem Ends.of {rs : V} (hr : ∀ (w : World) (H : Hs) (F : Nat → Prop) (a : Act),R0 w H F st a → ∃ rv,(results fn a.tmps).run P w = .ok rv w ∧ RV w H F rs rv) (hw : ∃ l,Wk ⟨1,[(0,rs)],st.objs⟩ ⟨1,(0,res) :: l,objs'⟩) : Ends P fn objs' res st := by
 refine ⟨fun w H F a h => ?_⟩
 obtain ⟨rv,h1,h2⟩ := hr w H F a h
 obtain ⟨l,hw⟩ := hw
 obtain ⟨H',h3,h4⟩ := hw w H F ⟨#[rv],[]⟩ ⟨h.ok,h.obs,fun d => by
  show RV w H F (look [(0,rs)] d) _
  rw [Y0]
  split
  ·rename_i e0; subst e0; exact h2
  ·trivial,rfl,rfl⟩
 exact ⟨H',rv,h1,h3.ok,h3.obs,h3.tmp 0,h4⟩

theorem cell_res {w : World} {H : Hs} {F : Nat → Prop} {a : Act} (h : R0 w H F st a) {c p n : Nat} {t : TypeId} {cs : List V1} [TyRow P t n] (hc : look st.tmps c = .o (.c (.ptr p 0))) (hp : st.objs[p]? = some (.box cs)) (hl : cs.length = n) :
  ∃ (us : List Value) (g : Nat),a.tmps.getD c undef = .pointer (some ⟨g,0,none⟩) ∧ (loadVar t ⟨g,0,none⟩).run P w = .ok (.agg us.toArray) w ∧ R2 w H F (.ag cs) (.agg us.toArray) := by
 have h1 := h.at_ c
 rw [hc] at h1
 obtain ⟨g,tt,vs,e1,e2⟩ := h1
 obtain ⟨g',t',vs',e3,e4,hl',hcs⟩ := h.bx hp
 rw [e1] at e3
 simp only [Pc.box.injEq] at e3
 obtain ⟨rfl,rfl,rfl⟩ := e3
 have hcells := box_cells e4 0 n
 rw [List.drop_zero,List.take_of_length_le (by omega)] at hcells
 have hld := Z5 (P := P) (w := w) t g 0 n vs hcells (by omega)
 simp only [Instr.loadAt,Instr.sureAddr,Sem.run_bind,Sem.run_pure,Result.andThen_ok] at hld
 exact ⟨vs,g,e2,hld,vs,J,hl',fun i x u h5 h6 => (hcs i x u h5 h6).1⟩

theorem Xp {t : Tmp} {x : V2} (hf : fn.results = #[.tmp t]) (hx : look st.tmps t = .o x) (hw : ∃ l,Wk ⟨1,[(0,.o x)],st.objs⟩ ⟨1,(0,res) :: l,objs'⟩) : Ends P fn objs' res st :=
 .of (fun w H F a h => ⟨a.tmps.getD t undef,results_tmp hf _ _ _,by have := h.at_ t; rwa [hx] at this⟩) hw
theorem Xo (hf : fn.results = #[]) (hw : ∃ l,Wk ⟨1,[(0,.tu [])],st.objs⟩ ⟨1,(0,res) :: l,objs'⟩) : Ends P fn objs' res st :=
 .of (rs := .tu []) (fun w H F a h => ⟨.tuple #[],results_none hf _ _ _,[],rfl,rfl,fun i x u h => by simp at h⟩) hw
theorem Xq {t u : Tmp} {x y : V2} (hf : fn.results = #[.tmp t,.tmp u]) (hx : look st.tmps t = .o x) (hy : look st.tmps u = .o y) (hw : ∃ l,Wk ⟨1,[(0,.tu [x,y])],st.objs⟩ ⟨1,(0,res) :: l,objs'⟩) : Ends P fn objs' res st :=
 .of (rs := .tu [x,y]) (fun w H F a h => ⟨_,results_tmp2 hf _ _ _,[a.tmps.getD t undef,a.tmps.getD u undef],rfl,rfl,fun i z v h1 h2 => by
  have h3 := h.at_ t
  have h4 := h.at_ u
  rw [hx] at h3
  rw [hy] at h4
  match i with
  | 0 => simp only [List.getElem?_cons_zero,Option.some.injEq] at h1 h2; subst h1 h2; exact h3
  | 1 => simp only [List.getElem?_cons_succ,List.getElem?_cons_zero,Option.some.injEq] at h1 h2; subst h1 h2; exact h4
  | i + 2 => simp at h1⟩) hw
theorem Xr {t u r : Tmp} {x y z : V2} (hf : fn.results = #[.tmp t,.tmp u,.tmp r]) (hx : look st.tmps t = .o x) (hy : look st.tmps u = .o y) (hz : look st.tmps r = .o z) (hw : ∃ l,Wk ⟨1,[(0,.tu [x,y,z])],st.objs⟩ ⟨1,(0,res) :: l,objs'⟩) : Ends P fn objs' res st :=
 .of (rs := .tu [x,y,z]) (fun w H F a h => ⟨.tuple #[a.tmps.getD t undef,a.tmps.getD u undef,a.tmps.getD r undef],by simp [results,hf],[a.tmps.getD t undef,a.tmps.getD u undef,a.tmps.getD r undef],rfl,rfl,fun i q v h1 h2 => by
  have h3 := h.at_ t
  have h4 := h.at_ u
  have h5 := h.at_ r
  rw [hx] at h3
  rw [hy] at h4
  rw [hz] at h5
  match i with
  | 0 => simp only [List.getElem?_cons_zero,Option.some.injEq] at h1 h2; subst h1 h2; exact h3
  | 1 => simp only [List.getElem?_cons_succ,List.getElem?_cons_zero,Option.some.injEq] at h1 h2; subst h1 h2; exact h4
  | 2 => simp only [List.getElem?_cons_succ,List.getElem?_cons_zero,Option.some.injEq] at h1 h2; subst h1 h2; exact h5
  | i + 3 => simp at h1⟩) hw
theorem Xm {c p n : Nat} {t : TypeId} {cs : List V1} [TyRow P t n] (hf : fn.results = #[.cell c t]) (hc : look st.tmps c = .o (.c (.ptr p 0))) (hp : st.objs[p]? = some (.box cs)) (hl : cs.length = n) (hw : ∃ l,Wk ⟨1,[(0,.o (.ag cs))],st.objs⟩ ⟨1,(0,res) :: l,objs'⟩) : Ends P fn objs' res st :=
 .of (fun w H F a h => by
  obtain ⟨us,g,h2,h3,h4⟩ := cell_res (P := P) (t := t) h hc hp hl
  rw [Array.getD_eq_getD_getElem?] at h2
  exact ⟨.agg us.toArray,by simp [results,hf,h2,asAddr,h3],h4⟩) hw
theorem Xn {c p n : Nat} {t : TypeId} {u : Tmp} {y : V2} {cs : List V1} [TyRow P t n] (hf : fn.results = #[.cell c t,.tmp u]) (hc : look st.tmps c = .o (.c (.ptr p 0))) (hp : st.objs[p]? = some (.box cs)) (hl : cs.length = n) (hy : look st.tmps u = .o y)
  (hw : ∃ l,Wk ⟨1,[(0,.tu [.ag cs,y])],st.objs⟩ ⟨1,(0,res) :: l,objs'⟩) : Ends P fn objs' res st :=
 .of (rs := .tu [.ag cs,y]) (fun w H F a h => by
  obtain ⟨us,g,h2,h3,h4⟩ := cell_res (P := P) (t := t) h hc hp hl
  have h5 := h.at_ u
  rw [hy] at h5
  rw [Array.getD_eq_getD_getElem?] at h2
  refine ⟨.tuple #[.agg us.toArray,a.tmps.getD u undef],by simp [results,hf,h2,asAddr,h3],[.agg us.toArray,a.tmps.getD u undef],J,J,fun i z v h6 h7 => ?_⟩
  match i with
  | 0 => simp only [List.getElem?_cons_zero,Option.some.injEq] at h6 h7; subst h6 h7; exact h4
  | 1 => simp only [List.getElem?_cons_succ,List.getElem?_cons_zero,Option.some.injEq] at h6 h7; subst h6 h7; exact h5
  | i + 2 => simp at h6) hw
end
end
section
open Go.RowKit

section
variable {P : Program} {E : Env} {ops : Array Oper} {o : Oper} {n : Nat} {ts : List (Nat × V)} {obs : List Ob} {rest : List Oper} {Q : Exit → St → Prop} {d : Nat} {fn : Func} {objs' : List Ob} {res x : V} {st : St}

theorem F_r (h : Ends P fn objs' res st) : Fin P fn objs' res .ret st := ⟨h⟩
theorem F_n (h : Ends P fn objs' res st) : Fin P fn objs' res .normal st := ⟨h⟩

theorem M0 (hq : Qt P ops o ⟨n,ts,obs⟩ x [] obs.length) (hd : o.dst = some d) (hl : Nat.blt d n = true) (h : AL P E ops Q rest ⟨n,(d,x) :: ts,obs⟩) : AL P E ops Q (o :: rest) ⟨n,ts,obs⟩ :=
 L_q0 hq (by rw [hd]; exact hl) (by rw [hd]; exact h)
theorem M1 {obs1 : List Ob} (hq : Qt P ops o ⟨n,ts,obs⟩ x obs1 obs.length) (hd : o.dst = some d) (hl : Nat.blt d n = true) (h : AL P E ops Q rest ⟨n,(d,x) :: ts,obs ++ obs1⟩) : AL P E ops Q (o :: rest) ⟨n,ts,obs⟩ :=
 L_q hq (by rw [hd]; exact hl) (by rw [hd]; exact h)
theorem Qi {j e : Nat} {b : Bool} {ps : List Nat} (hg : o.guard = some (j,b)) (hj : (ops[j]?).bind (·.dst) = some e) (hy : look ts e = .o (.c (.rd ps (.v (.bool b)))))
  (h : AL P E ops Q (⟨o.dst,o.op,o.type,o.pos,o.after,none⟩ :: rest) ⟨n,ts,obs⟩) : AL P E ops Q (o :: rest) ⟨n,ts,obs⟩ := L_yes hg hj hy h
theorem Qp {j e : Nat} {b y : Bool} {ps : List Nat} (hg : o.guard = some (j,b)) (hj : (ops[j]?).bind (·.dst) = some e) (hy : look ts e = .o (.c (.rd ps (.v (.bool y))))) (hne : (y != b) = true) (hd : o.dst = some d) (hl : Nat.blt d n = true)
  (h : AL P E ops Q rest ⟨n,(d,NO) :: ts,obs⟩) : AL P E ops Q (o :: rest) ⟨n,ts,obs⟩ := L_no hg hj hy hne (by rw [hd]; exact hl) (by rw [hd]; exact h)
section
variable {y z : Operand} {t t' : TypeId} {k : IntKind} {i j : Int} {qs : List Nat}
theorem Q5 {p m : Nat} {cs : List V1} {c : V1} [TyOne P t] (ho : o.op = .store t y z) (hg : o.guard = none) (hd : o.dst = none) (hy : St.ev ⟨n,ts,obs⟩ y = .o (.c (.ptr p m))) (hz : St.ev ⟨n,ts,obs⟩ z = .o (.c c)) (hp : obs[p]? = some (.box cs)) (hm : Nat.blt m cs.length = true) (hk : c.known = true)
  (h : AL P E ops Q rest ⟨n,ts,obs.set p (.box (cs.set m c))⟩) : AL P E ops Q (o :: rest) ⟨n,ts,obs⟩ := L_st1 ho hg hd hy hz hp (Nat.le_of_ble_eq_true hm) hk h
theorem Qy {p m n' : Nat} {cs ds : List V1} [hr : TyRow P t n'] (ho : o.op = .store t y z) (hg : o.guard = none) (hd : o.dst = none) (hy : St.ev ⟨n,ts,obs⟩ y = .o (.c (.ptr p m))) (hz : St.ev ⟨n,ts,obs⟩ z = .o (.ag ds)) (hp : obs[p]? = some (.box cs)) (hl : ds.length = n') (hm : Nat.ble (m + ds.length) cs.length = true) (hk : ds.all V1.known = true)
  (h : AL P E ops Q rest ⟨n,ts,obs.set p (.box (setFrom cs m ds))⟩) : AL P E ops Q (o :: rest) ⟨n,ts,obs⟩ := L_stN ho hg hd hy hz hp hl (Nat.le_of_ble_eq_true hm) hk h
theorem M_app {p kk : Nat} {es es' : List (List T)} {x : V1} {e : TypeId} {zs : List Value} {by_ : Nat} [hm : TyMake P t e zs by_] (ho : o.op = .call { callee := .builtin .append,args := #[y,z],argTypes := #[t,t] }) (hg : o.guard = none) (hy : St.ev ⟨n,ts,obs⟩ y = .o (.c (.ref p))) (hp : obs[p]? = some (.row kk es)) (hz : St.ev ⟨n,ts,obs⟩ z = .o (.c x)) (hs : srcOf obs x = some es')
  (hkz : kk = zs.length) (hz0 : zs.isEmpty = false) (hd : o.dst = some d) (hl : Nat.blt d n = true) (hpl : plainT es') (hkk : ∀ e ∈ es',e.length = kk) (hb : (es.length + es'.length) * by_ ≤ 140737488355328) (h63 : es.length + es'.length ≤ 9223372036854775807)
  (h : AL P E ops Q rest ⟨n,(d,.o (.c (.ref p))) :: (ts.map fun e => (e.1,e.2.kill [p])),(obs.map (Ob.kill [p])).set p (.row kk (es ++ es'))⟩) : AL P E ops Q (o :: rest) ⟨n,ts,obs⟩ :=
 L_app ho hg hy hp hz hs hkz (by intro e; rw [e] at hz0; cases hz0) hpl hkk hb h63 (by rw [hd]; exact hl) (by rw [hd]; exact h)
theorem M_appnil {es' : List (List T)} {x : V1} {e : TypeId} {zs : List Value} {by_ : Nat} [hm : TyMake P t e zs by_] (ho : o.op = .call { callee := .builtin .append,args := #[y,z],argTypes := #[t,t] }) (hg : o.guard = none) (hy : St.ev ⟨n,ts,obs⟩ y = .o (.c (.rd qs (.v (.slice none 0 0))))) (hz : St.ev ⟨n,ts,obs⟩ z = .o (.c x)) (hs : srcOf obs x = some es')
  (hz0 : zs.isEmpty = false) (hd : o.dst = some d) (hl : Nat.blt d n = true) (hpl : plainT es') (hkk : ∀ e ∈ es',e.length = zs.length) (hb : es'.length * by_ ≤ 140737488355328) (h63 : es'.length ≤ 9223372036854775807)
  (h : AL P E ops Q rest ⟨n,(d,.o (.c (.ref obs.length))) :: ts,obs ++ [.row zs.length es']⟩) : AL P E ops Q (o :: rest) ⟨n,ts,obs⟩ :=
 L_appnil ho hg hy hz hs (by intro e; rw [e] at hz0; cases hz0) hpl hkk hb h63 (by rw [hd]; exact hl) (by rw [hd]; exact h)
end

/-! ### Tests whose outcome is known -/
section
variable {y z : Operand} {t t' : TypeId} {k : IntKind} {i j : Int} {ps qs : List Nat} {b : Bool} {st : St} {m : Nat}
theorem Qr (ho : o.op = .binOp .lss t y z t') (hg : o.guard = none) (hy : st.ev y = .o (.c (.rd ps (.v (.int k i))))) (hz : st.ev z = .o (.c (.rd qs (.v (.int k j))))) (hb : decide (i < j) = b) : Qt P ops o st (B b) [] m := hb ▸ Zv ho hg hy hz
theorem Zt (ho : o.op = .binOp .leq t y z t') (hg : o.guard = none) (hy : st.ev y = .o (.c (.rd ps (.v (.int k i))))) (hz : st.ev z = .o (.c (.rd qs (.v (.int k j))))) (hb : decide (i ≤ j) = b) : Qt P ops o st (B b) [] m := hb ▸ q_leq ho hg hy hz
theorem Zp (ho : o.op = .binOp .gtr t y z t') (hg : o.guard = none) (hy : st.ev y = .o (.c (.rd ps (.v (.int k i))))) (hz : st.ev z = .o (.c (.rd qs (.v (.int k j))))) (hb : decide (j < i) = b) : Qt P ops o st (B b) [] m := hb ▸ Zo ho hg hy hz
theorem Zn (ho : o.op = .binOp .geq t y z t') (hg : o.guard = none) (hy : st.ev y = .o (.c (.rd ps (.v (.int k i))))) (hz : st.ev z = .o (.c (.rd qs (.v (.int k j))))) (hb : decide (j ≤ i) = b) : Qt P ops o st (B b) [] m := hb ▸ q_geq ho hg hy hz
theorem Qv (ho : o.op = .binOp .eql t y z t') (hg : o.guard = none) (hy : st.ev y = .o (.c (.rd ps (.v (.int k i))))) (hz : st.ev z = .o (.c (.rd qs (.v (.int k j))))) (hb : decide (i = j) = b) : Qt P ops o st (B b) [] m := hb ▸ Zk ho hg hy hz
theorem q_sneqK {s u : ByteArray} (ho : o.op = .binOp .neq t y z t') (hg : o.guard = none) (hy : st.ev y = .o (.c (.rd ps (.v (.string s))))) (hz : st.ev z = .o (.c (.rd qs (.v (.string u))))) (hb : decide (s ≠ u) = b) : Qt P ops o st (B b) [] m := hb ▸ q_sneq ho hg hy hz
theorem Qw (ho : o.op = .binOp .neq t y z t') (hg : o.guard = none) (hy : st.ev y = .o (.c (.rd ps (.v (.int k i))))) (hz : st.ev z = .o (.c (.rd qs (.v (.int k j))))) (hb : decide (i ≠ j) = b) : Qt P ops o st (B b) [] m := hb ▸ Zx ho hg hy hz
end

/-! ### Ends -/
theorem X3 {v : V} (ρ : List Nat) (hnd : ρ.Nodup) (hl : objs'.length = ρ.length) (ho : objs'.map (Ob.ren (rho ρ obs.length)) = ρ.map fun p => obs.getD p .gone) (hv : v = res.ren (rho ρ obs.length)) : ∃ l,Wk ⟨1,[(0,v)],obs⟩ ⟨1,(0,res) :: l,objs'⟩ :=
 ⟨[],Wk.ren (st := ⟨1,[(0,v)],obs⟩) ρ objs' [(0,res)] hnd hl ho (.cons hv .nil)⟩
theorem X4 {v v' : V} (ks ρ : List Nat) (hk : v.cnt = ks.length) (hf : v.fill obs.length = v') (hnd : ρ.Nodup) (hl : objs'.length = ρ.length) (ho : objs'.map (Ob.ren (rho ρ (obs ++ ks.map fun k => Ob.row k []).length)) = ρ.map fun p => (obs ++ ks.map fun k => Ob.row k []).getD p .gone)
  (hv : v' = res.ren (rho ρ (obs ++ ks.map fun k => Ob.row k []).length)) : ∃ l,Wk ⟨1,[(0,v)],obs⟩ ⟨1,(0,res) :: l,objs'⟩ :=
 ⟨[],(Wk.nils (st := ⟨1,[(0,v)],obs⟩) 0 ks rfl hk).trans (Wk.ren (st := ⟨1,(0,v.fill obs.length) :: [(0,v)],obs ++ ks.map fun k => Ob.row k []⟩) ρ objs' [(0,res)] hnd hl ho (.cons (hf.trans hv) .nil))⟩
end
theorem zz {P : Program} {E : Env} {ops : Array Oper} {Q : Exit → St → Prop} {K : St → Prop} {st : St} (h : K st) : AL P E ops (thn K Q) [] st := Qe (Q0 h)
theorem zy {P : Program} {E : Env} {Q : Exit → St → Prop} {st : St} {id : Nat} {l : List Oper} {y : Code} (h : AL P E l.toArray (thn (AWP P E y Q) Q) l st) : AWP P E (.seq (.region id l.toArray false) y) Q st := Qd (Qc h)
theorem zx {P : Program} {E : Env} {ops : Array Oper} {o : Oper} {n d : Nat} {ts : List (Nat × V)} {obs : List Ob} {rest : List Oper} {Q : Exit → St → Prop} {x : V} (hq : Qt P ops o ⟨n,ts,obs⟩ x [] obs.length) (h : (o.dst,Nat.blt d n) = (some d,true)) (r : AL P E ops Q rest ⟨n,(d,x) :: ts,obs⟩) : AL P E ops Q (o :: rest) ⟨n,ts,obs⟩ := by
 simp only [Prod.mk.injEq] at h
 exact M0 hq h.1 h.2 r
section
variable {P : Program} {E : Env} {ops : Array Oper} {o : Oper} {n d p i' f off sz m j e : Nat} {ts : List (Nat × V)} {obs : List Ob} {rest : List Oper} {Q : Exit → St → Prop} {v : V1} {cs ds : List V1} {a c y z : Operand} {t t' : TypeId} {k : IntKind} {i l : Int} {ps qs : List Nat} {b b' : Bool} {xs : List V2} {w : V2}
theorem z0 (h : (o.op,o.guard,St.ev ⟨n,ts,obs⟩ y,o.dst,Nat.blt d n) = (.move y,none,V.o (.c (v)),some d,true)) (r : AL P E ops Q rest ⟨n,(d,V.o (.c (v))) :: ts,obs⟩) : AL P E ops Q (o :: rest) ⟨n,ts,obs⟩ := by
 simp only [Prod.mk.injEq] at h
 exact M0 (Qa h.1 h.2.1 h.2.2.1) h.2.2.2.1 h.2.2.2.2 r
theorem z1 (h : (o.op,o.guard,St.ev ⟨n,ts,obs⟩ y,o.dst,Nat.blt d n) = (.assign y,none,V.o (.c (v)),some d,true)) (r : AL P E ops Q rest ⟨n,(d,V.o (.c (v))) :: ts,obs⟩) : AL P E ops Q (o :: rest) ⟨n,ts,obs⟩ := by
 simp only [Prod.mk.injEq] at h
 exact M0 (Qb h.1 h.2.1 h.2.2.1) h.2.2.2.1 h.2.2.2.2 r
theorem z2 {pl : List (Nat × Nat)} [hpl : TyPl P t pl] (h : (o.op,o.guard,St.ev ⟨n,ts,obs⟩ y,o.dst,Nat.blt d n) = (.fieldAddr t y f,none,V.o (.c (.ptr p m)),some d,true)) (hf : pl[f]? = some (off,sz)) (hs : Nat.beq sz 0 = false) (r : AL P E ops Q rest ⟨n,(d,V.o (.c (.ptr p (m + off)))) :: ts,obs⟩) : AL P E ops Q (o :: rest) ⟨n,ts,obs⟩ := by
 simp only [Prod.mk.injEq] at h
 exact M0 (Qf h.1 h.2.1 h.2.2.1 hf (by intro e; rw [e] at hs; cases hs)) h.2.2.2.1 h.2.2.2.2 r
theorem z3 [TyOne P t] (h : (o.op,o.guard,St.ev ⟨n,ts,obs⟩ y,obs[p]?,cs[i']?,o.dst,Nat.blt d n) = (.load t y,none,V.o (.c (.ptr p i')),some (.box cs),some v,some d,true)) (r : AL P E ops Q rest ⟨n,(d,V.o (.c (v))) :: ts,obs⟩) : AL P E ops Q (o :: rest) ⟨n,ts,obs⟩ := by
 simp only [Prod.mk.injEq] at h
 exact M0 (Qg h.1 h.2.1 h.2.2.1 h.2.2.2.1 h.2.2.2.2.1) h.2.2.2.2.2.1 h.2.2.2.2.2.2 r
theorem z4 [TyRow P t m] (h : (o.op,o.guard,St.ev ⟨n,ts,obs⟩ y,obs[p]?,o.dst,Nat.blt d n) = (.load t y,none,V.o (.c (.ptr p i')),some (.box cs),some d,true)) (hd : (cs.drop i').take m = ds) (hl : ds.length = m) (r : AL P E ops Q rest ⟨n,(d,V.o (.ag ds)) :: ts,obs⟩) : AL P E ops Q (o :: rest) ⟨n,ts,obs⟩ := by
 simp only [Prod.mk.injEq] at h
 exact M0 (Qu h.1 h.2.1 h.2.2.1 h.2.2.2.1 hd hl) h.2.2.2.2.1 h.2.2.2.2.2 r
theorem z5 (h : (o.guard,(ops[j]?).bind (·.dst),look ts e) = (some (j,b),some e,V.o (.c (.rd ps (.v (.bool b)))))) (r : AL P E ops Q (⟨o.dst,o.op,o.type,o.pos,o.after,none⟩ :: rest) ⟨n,ts,obs⟩) : AL P E ops Q (o :: rest) ⟨n,ts,obs⟩ := by
 simp only [Prod.mk.injEq] at h
 exact Qi h.1 h.2.1 h.2.2 r
theorem z6 (h : (o.guard,(ops[j]?).bind (·.dst),look ts e,(b' != b),o.dst,Nat.blt d n) = (some (j,b),some e,V.o (.c (.rd ps (.v (.bool b')))),true,some d,true)) (r : AL P E ops Q rest ⟨n,(d,NO) :: ts,obs⟩) : AL P E ops Q (o :: rest) ⟨n,ts,obs⟩ := by
 simp only [Prod.mk.injEq] at h
 exact Qp h.1 h.2.1 h.2.2.1 h.2.2.2.1 h.2.2.2.2.1 h.2.2.2.2.2 r
theorem z7 (h : (o.op,o.guard,St.ev ⟨n,ts,obs⟩ y,St.ev ⟨n,ts,obs⟩ z,o.dst,Nat.blt d n) = (.binOp .add t y z t',none,V.o (.c (.rd ps (.v (.int .i64 i)))),V.o (.c (.rd qs (.v (.int .i64 l)))),some d,true)) (hb : -9223372036854775808 ≤ i + l ∧ i + l ≤ 9223372036854775807) (r : AL P E ops Q rest ⟨n,(d,I (i + l)) :: ts,obs⟩) : AL P E ops Q (o :: rest) ⟨n,ts,obs⟩ := by
 simp only [Prod.mk.injEq] at h
 exact M0 (Qs h.1 h.2.1 h.2.2.1 h.2.2.2.1 hb) h.2.2.2.2.1 h.2.2.2.2.2 r
theorem z8 (h : (o.op,o.guard,St.ev ⟨n,ts,obs⟩ y,St.ev ⟨n,ts,obs⟩ z,o.dst,Nat.blt d n) = (.binOp .sub t y z t',none,V.o (.c (.rd ps (.v (.int .i64 i)))),V.o (.c (.rd qs (.v (.int .i64 l)))),some d,true)) (hb : -9223372036854775808 ≤ i - l ∧ i - l ≤ 9223372036854775807) (r : AL P E ops Q rest ⟨n,(d,I (i - l)) :: ts,obs⟩) : AL P E ops Q (o :: rest) ⟨n,ts,obs⟩ := by
 simp only [Prod.mk.injEq] at h
 exact M0 (Xc h.1 h.2.1 h.2.2.1 h.2.2.2.1 hb) h.2.2.2.2.1 h.2.2.2.2.2 r
theorem z9a (h : (o.op,o.guard,St.ev ⟨n,ts,obs⟩ y,St.ev ⟨n,ts,obs⟩ z,o.dst,Nat.blt d n) = (.binOp .lss t y z t',none,V.o (.c (.rd ps (.v (.int k i)))),V.o (.c (.rd qs (.v (.int k l)))),some d,true)) (hb : decide (i < l) = b) (r : AL P E ops Q rest ⟨n,(d,B b) :: ts,obs⟩) : AL P E ops Q (o :: rest) ⟨n,ts,obs⟩ := by
 simp only [Prod.mk.injEq] at h
 exact M0 (Qr h.1 h.2.1 h.2.2.1 h.2.2.2.1 hb) h.2.2.2.2.1 h.2.2.2.2.2 r
theorem z9b (h : (o.op,o.guard,St.ev ⟨n,ts,obs⟩ y,St.ev ⟨n,ts,obs⟩ z,o.dst,Nat.blt d n) = (.binOp .leq t y z t',none,V.o (.c (.rd ps (.v (.int k i)))),V.o (.c (.rd qs (.v (.int k l)))),some d,true)) (hb : decide (i ≤ l) = b) (r : AL P E ops Q rest ⟨n,(d,B b) :: ts,obs⟩) : AL P E ops Q (o :: rest) ⟨n,ts,obs⟩ := by
 simp only [Prod.mk.injEq] at h
 exact M0 (Zt h.1 h.2.1 h.2.2.1 h.2.2.2.1 hb) h.2.2.2.2.1 h.2.2.2.2.2 r
theorem z9c (h : (o.op,o.guard,St.ev ⟨n,ts,obs⟩ y,St.ev ⟨n,ts,obs⟩ z,o.dst,Nat.blt d n) = (.binOp .gtr t y z t',none,V.o (.c (.rd ps (.v (.int k i)))),V.o (.c (.rd qs (.v (.int k l)))),some d,true)) (hb : decide (l < i) = b) (r : AL P E ops Q rest ⟨n,(d,B b) :: ts,obs⟩) : AL P E ops Q (o :: rest) ⟨n,ts,obs⟩ := by
 simp only [Prod.mk.injEq] at h
 exact M0 (Zp h.1 h.2.1 h.2.2.1 h.2.2.2.1 hb) h.2.2.2.2.1 h.2.2.2.2.2 r
theorem z9d (h : (o.op,o.guard,St.ev ⟨n,ts,obs⟩ y,St.ev ⟨n,ts,obs⟩ z,o.dst,Nat.blt d n) = (.binOp .geq t y z t',none,V.o (.c (.rd ps (.v (.int k i)))),V.o (.c (.rd qs (.v (.int k l)))),some d,true)) (hb : decide (l ≤ i) = b) (r : AL P E ops Q rest ⟨n,(d,B b) :: ts,obs⟩) : AL P E ops Q (o :: rest) ⟨n,ts,obs⟩ := by
 simp only [Prod.mk.injEq] at h
 exact M0 (Zn h.1 h.2.1 h.2.2.1 h.2.2.2.1 hb) h.2.2.2.2.1 h.2.2.2.2.2 r
theorem z9e (h : (o.op,o.guard,St.ev ⟨n,ts,obs⟩ y,St.ev ⟨n,ts,obs⟩ z,o.dst,Nat.blt d n) = (.binOp .eql t y z t',none,V.o (.c (.rd ps (.v (.int k i)))),V.o (.c (.rd qs (.v (.int k l)))),some d,true)) (hb : decide (i = l) = b) (r : AL P E ops Q rest ⟨n,(d,B b) :: ts,obs⟩) : AL P E ops Q (o :: rest) ⟨n,ts,obs⟩ := by
 simp only [Prod.mk.injEq] at h
 exact M0 (Qv h.1 h.2.1 h.2.2.1 h.2.2.2.1 hb) h.2.2.2.2.1 h.2.2.2.2.2 r
theorem z9f (h : (o.op,o.guard,St.ev ⟨n,ts,obs⟩ y,St.ev ⟨n,ts,obs⟩ z,o.dst,Nat.blt d n) = (.binOp .neq t y z t',none,V.o (.c (.rd ps (.v (.int k i)))),V.o (.c (.rd qs (.v (.int k l)))),some d,true)) (hb : decide (i ≠ l) = b) (r : AL P E ops Q rest ⟨n,(d,B b) :: ts,obs⟩) : AL P E ops Q (o :: rest) ⟨n,ts,obs⟩ := by
 simp only [Prod.mk.injEq] at h
 exact M0 (Qw h.1 h.2.1 h.2.2.1 h.2.2.2.1 hb) h.2.2.2.2.1 h.2.2.2.2.2 r
theorem zpT (h : (o.op,o.guard,St.ev ⟨n,ts,obs⟩ c,St.ev ⟨n,ts,obs⟩ y,o.dst,Nat.blt d n) = (.pick c y z,none,V.o (.c (.rd ps (.v (.bool true)))),V.o (.c (v)),some d,true)) (r : AL P E ops Q rest ⟨n,(d,V.o (.c (v))) :: ts,obs⟩) : AL P E ops Q (o :: rest) ⟨n,ts,obs⟩ := by
 simp only [Prod.mk.injEq] at h
 exact M0 (Qo h.1 h.2.1 h.2.2.1 h.2.2.2.1) h.2.2.2.2.1 h.2.2.2.2.2 r
theorem zpF (h : (o.op,o.guard,St.ev ⟨n,ts,obs⟩ c,St.ev ⟨n,ts,obs⟩ z,o.dst,Nat.blt d n) = (.pick c y z,none,V.o (.c (.rd ps (.v (.bool false)))),V.o (.c (v)),some d,true)) (r : AL P E ops Q rest ⟨n,(d,V.o (.c (v))) :: ts,obs⟩) : AL P E ops Q (o :: rest) ⟨n,ts,obs⟩ := by
 simp only [Prod.mk.injEq] at h
 exact M0 (Qn h.1 h.2.1 h.2.2.1 h.2.2.2.1) h.2.2.2.2.1 h.2.2.2.2.2 r
theorem zn (h : (o.op,o.guard,St.ev ⟨n,ts,obs⟩ y,o.dst,Nat.blt d n) = (.unOp .not t y,none,V.o (.c (.rd ps (.v (.bool b)))),some d,true)) (r : AL P E ops Q rest ⟨n,(d,B (!b)) :: ts,obs⟩) : AL P E ops Q (o :: rest) ⟨n,ts,obs⟩ := by
 simp only [Prod.mk.injEq] at h
 exact M0 (Q4 h.1 h.2.1 h.2.2.1) h.2.2.2.1 h.2.2.2.2 r
theorem ze (h : (o.op,o.guard,St.ev ⟨n,ts,obs⟩ y,xs[i']?,o.dst,Nat.blt d n) = (Op.extract y i',none,.tu xs,some w,some d,true)) (r : AL P E ops Q rest ⟨n,(d,V.o w) :: ts,obs⟩) : AL P E ops Q (o :: rest) ⟨n,ts,obs⟩ := by
 simp only [Prod.mk.injEq] at h
 exact M0 (Zl h.1 h.2.1 h.2.2.1 h.2.2.2.1) h.2.2.2.2.1 h.2.2.2.2.2 r
end
end
section
open Go.RowKit

class NP (Q : Exit → St → Prop) : Prop where
 no : ∀ c st,¬ Q (.panic c) st
instance {K : St → Prop} {Q : Exit → St → Prop} [h : NP Q] : NP (thn K Q) := ⟨fun c st hq => h.no c st hq.h⟩
instance {id : Nat} {Q : Exit → St → Prop} [h : NP Q] : NP (blk id Q) := ⟨fun c st hq => h.no c st hq.h⟩
instance {P : Program} {fn : Func} {objs' : List Ob} {res : V} : NP (Fin P fn objs' res) := ⟨fun c st hq => hq.h⟩

def offd (d : Nat) : Operand → Bool
 | .tmp t => !Nat.beq t d
 | _ => true
def blindC (d : Nat) : Callee → Bool
 | .builtin _ => true
 | .value f => offd d f
 | _ => false
def blindO (d : Nat) : Op → Bool
 | .move x => offd d x
 | .assign x => offd d x
 | .pick c x y => offd d c && offd d x && offd d y
 | .alloc _ => true
 | .box _ x => offd d x
 | .buildSlice _ _ ps => ps.toList.all fun p => offd d p.2
 | .load _ x => offd d x
 | .store _ x y => offd d x && offd d y
 | .binOp _ _ x y _ => offd d x && offd d y
 | .unOp _ _ x => offd d x
 | .convert _ _ x => offd d x
 | .fieldAddr _ x _ => offd d x
 | .indexAddr _ x y => offd d x && offd d y
 | .index _ x y => offd d x && offd d y
 | .extract x _ => offd d x
 | .nilCheck x => offd d x
 | .build _ ps => ps.toList.all fun p => offd d p.2
 | .slice _ x lo hi mx => offd d x && lo.all (offd d) && hi.all (offd d) && mx.all (offd d)
 | .call c => blindC d c.callee && c.args.toList.all (offd d)
 | _ => false
theorem arr_map_congr {α β : Type} {f g : α → β} {xs : Array α} (h : ∀ x ∈ xs.toList,f x = g x) : xs.map f = xs.map g := by
 apply Array.ext'
 rw [Array.toList_map,Array.toList_map]
 exact List.map_congr_left h
theorem exec_blind {d : Nat} {o : Oper} {r1 r2 : Operand → Value} (hb : blindO d o.op = true) (h : ∀ x,offd d x = true → r1 x = r2 x) : execOp r1 o = execOp r2 o := by
 unfold execOp
 revert hb
 cases ho : o.op with
 | buildSlice t n ps =>
  intro hb
  have : (ps.map fun p => (p.1,r1 p.2)) = ps.map fun p => (p.1,r2 p.2) := arr_map_congr fun p hp => by rw [h p.2 (List.all_eq_true.1 hb p hp)]
  simp only [this]
 | call c =>
  intro hb
  simp only [blindO,Bool.and_eq_true] at hb
  have : c.args.map r1 = c.args.map r2 := arr_map_congr fun x hx => h x (List.all_eq_true.1 hb.2 x hx)
  simp only [resolve,this]
  cases hc : c.callee with
  | builtin b => rfl
  | value f =>
   have h1 := hb.1
   rw [hc] at h1
   simp only [h f h1]
  | invoke x n => rw [hc] at hb; simp [blindC] at hb
 | move x => intro hb; simp only [h _ (show offd d x = true from hb)]
 | assign x => intro hb; simp only [h _ (show offd d x = true from hb)]
 | box t x => intro hb; simp only [h _ (show offd d x = true from hb)]
 | load t x => intro hb; simp only [h _ (show offd d x = true from hb)]
 | unOp u t x => intro hb; simp only [h _ (show offd d x = true from hb)]
 | convert t u x => intro hb; simp only [h _ (show offd d x = true from hb)]
 | fieldAddr t x f => intro hb; simp only [h _ (show offd d x = true from hb)]
 | extract x i => intro hb; simp only [h _ (show offd d x = true from hb)]
 | nilCheck x => intro hb; simp only [h _ (show offd d x = true from hb)]
 | build t ps =>
  intro hb
  have : (ps.map fun p => (p.1,r1 p.2)) = ps.map fun p => (p.1,r2 p.2) := arr_map_congr fun p hp => by rw [h p.2 (List.all_eq_true.1 hb p hp)]
  simp only [this]
 | slice t x lo hi mx =>
  intro hb
  simp only [blindO,Bool.and_eq_true] at hb
  have hm : ∀ y : Option Operand,y.all (offd d) = true → y.map r1 = y.map r2 := fun y hy => by
   cases y with
   | none => rfl
   | some y => simp only [Option.map_some,h y hy]
  simp only [h x hb.1.1.1,hm lo hb.1.1.2,hm hi hb.1.2,hm mx hb.2]
 | store t x y => intro hb; simp only [blindO,Bool.and_eq_true] at hb; simp only [h x hb.1,h y hb.2]
 | binOp b t x y u => intro hb; simp only [blindO,Bool.and_eq_true] at hb; simp only [h x hb.1,h y hb.2]
 | indexAddr t x y => intro hb; simp only [blindO,Bool.and_eq_true] at hb; simp only [h x hb.1,h y hb.2]
 | index t x y => intro hb; simp only [blindO,Bool.and_eq_true] at hb; simp only [h x hb.1,h y hb.2]
 | alloc t => intro hb; rfl
 | pick c x y => intro hb; simp only [blindO,Bool.and_eq_true] at hb; simp only [h c hb.1.1,h x hb.1.2,h y hb.2]
 | _ => intro hb; exact absurd hb Bool.false_ne_true
theorem put_comm {a : Act} {d e : Nat} {u v : Value} (h : e ≠ d) : (a.put (some d) u).put (some e) v = (a.put (some e) v).put (some d) u := by
 simp only [Act.put]
 congr 1
 apply Array.ext_getElem?
 intro i
 simp only [Array.getElem?_setIfInBounds,Array.size_setIfInBounds]
 by_cases h1 : e = i
 ·subst h1
  simp [h,Ne.symm h]
 ·simp [h1]
theorem put_comm' {a : Act} {d : Nat} {e : Option Nat} {u v : Value} (h : e ≠ some d) : (a.put (some d) u).put e v = (a.put e v).put (some d) u := by
 cases e with
 | none => rfl
 | some e => exact put_comm fun hh => h (by rw [hh])
theorem eval_put {a : Act} {d : Nat} {u : Value} {x : Operand} (h : offd d x = true) : (a.put (some d) u).eval x = a.eval x := by
 cases x with
 | tmp t =>
  have hne : t ≠ d := fun e => by
   subst e
   rw [offd,show Nat.beq t t = true from Nat.beq_refl t] at h
   cases h
  show (a.tmps.setIfInBounds d u).getD t undef = a.tmps.getD t undef
  rw [Array.getD_eq_getD_getElem?,Array.getD_eq_getD_getElem?,Array.getElem?_setIfInBounds_ne (Ne.symm hne)]
 | _ => rfl
theorem eval_put_tmp {a : Act} {t : Nat} {e : Option Nat} {v : Value} (h : e ≠ some t) : (a.put e v).eval (.tmp t) = a.eval (.tmp t) := by
 cases e with
 | none => rfl
 | some e =>
  refine eval_put ?_
  rw [offd,Bool.not_eq_true']
  cases hb : Nat.beq t e with
  | false => rfl
  | true => exact absurd (by rw [Nat.eq_of_beq_eq_true hb]) h

section
variable {P : Program} {l : List Oper} {Q : Exit → Act → World → Prop}
theorem wp_blind {o : Oper} {d : Nat} {u : Value} (hQ : ∀ c a w,¬ Q (.panic c) a w) (hb : blindO d o.op = true) (hd : o.dst ≠ some d) {a : Act} {w : World} {K K' : Act → World → Prop} (hK : ∀ v D w,K ({ (a.put (some d) u) with defers := D }.put o.dst v) w → K' ({ a with defers := D }.put o.dst v) w)
  (h : o.wp P (a.put (some d) u) w K Q) : o.wp P a w K' Q := by
 have he : execOp (a.put (some d) u).eval o = execOp a.eval o := exec_blind hb fun x hx => eval_put hx
 unfold Oper.wp at h ⊢
 rw [he] at h
 generalize (execOp a.eval o).run P w = r at h ⊢
 have hv : ∀ v w,K ((a.put (some d) u).put o.dst v) w → K' (a.put o.dst v) w := fun v w hk => hK v a.defers w hk
 cases r with
 | ok n w' =>
  cases n <;> simp only [Oper.upon] at h ⊢ <;>
   first
    | exact hv _ _ h
    | exact hK _ _ _ h
    | exact Calls.mono h (fun e w'' he => by cases e <;> first | exact hv _ _ he | exact absurd he (hQ _ _ _) | exact he)
    | exact Rows.mono h (fun _ _ he => hv _ _ he)
 | halt x w' => cases x <;> simp only [Oper.upon] at h ⊢ <;> exact absurd h (hQ _ _ _)
end
end
section
open Go.RowKit

def pre (o : Oper) : List Nat := (o.after.toList.filter (Region.binds .any)).map (·.on)
def under (A : List (List Nat)) (ks : List Nat) (j : Nat) : Bool := ks.any fun k => Nat.beq k j || (A.getD k []).any fun q => Nat.beq q j
def allB (n : Nat) (f : Nat → Bool) : Bool := (List.range n).all f
theorem X6 {n : Nat} {f : Nat → Bool} (h : allB n f = true) {i : Nat} (hi : i < n) : f i = true := List.all_eq_true.1 h i (by simpa using hi)
def preAt (ops : List Oper) (i : Nat) : List Nat := match ops[i]? with | some o => pre o | none => []
def memN : List Nat → Nat → Bool
 | [],_ => false
 | x :: xs,j => match Nat.beq x j with
  | true => true
  | false => memN xs j
theorem Y3 : ∀ (xs : List Nat) (j : Nat),memN xs j = true ↔ j ∈ xs
 | [],j => by simp [memN]
 | x :: xs,j => by
  rw [memN,List.mem_cons]
  split
  ·rename_i h
   have := Nat.eq_of_beq_eq_true h
   simp [this]
  ·rename_i h
   rw [Y3 xs j]
   constructor
   ·intro h; exact .inr h
   ·rintro (e | h1)
    ·subst e; rw [show Nat.beq j j = true from Nat.beq_refl j] at h; cases h
    ·exact h1
theorem memN_not {xs : List Nat} {j : Nat} (h : memN xs j = false) : j ∉ xs := fun hh => by rw [(Y3 xs j).2 hh] at h; cases h
def srcO : Op → Option Nat
 | .move (.tmp t) => some t
 | .extract (.tmp t) _ => some t
 | _ => none
def lateB (ops : List Oper) (A : List (List Nat)) (m : Nat) : Bool := match ops[m]? with
 | some o => match srcO o.op,o.dst with
  | some t,some d => o.guard.isNone && !Nat.beq t d && allB ops.length fun j => Nat.beq j m || match ops[j]? with
   | some oj => oj.guard.isNone && (oj.dst != some t || memN (A.getD m []) j) && oj.dst != some d && (memN (A.getD j []) m || blindO d oj.op)
   | none => true
  | _,_ => false
 | none => false
def drawB (ops : List Oper) (A S M : List (List Nat)) (n : Nat) : Bool :=
 allB ops.length (fun i => (A.getD i []).all (fun j => under A (preAt ops i) j) && (preAt ops i).all (fun k => Nat.blt k i)) &&
 allB ops.length (fun t => Nat.blt t n || allB t (fun j => memN (A.getD t []) j || memN (M.getD ops.length []) j)) &&
 allB n (fun i => allB n fun j => Nat.beq i j || ((ops[i]?).bind (·.dst) != (ops[j]?).bind (·.dst))) &&
 allB n (fun i => allB ops.length fun j => memN (A.getD j []) i || Nat.beq i j || match (ops[j]?).bind (·.dst) with
  | some d => match memN (S.getD i []) d with
   | true => memN (A.getD i []) j && Nat.blt j n
   | false => memN (M.getD i []) d
  | none => true) &&
 (M.getD ops.length []).all (fun m => Nat.blt m n && lateB ops A m)

structure Hd where
 d : Nat
 x : V
 obs : List Ob
def hdE (ks : List Nat) (r : List (Nat × V)) : List Hd → List (Nat × V)
 | [] => r
 | h :: hs => match memN ks h.d with
  | true => (h.d,h.x) :: hdE ks r hs
  | false => hdE ks r hs
def mskT (ts : List (Nat × V)) : List Nat → List (Nat × V)
 | [] => ts
 | d :: ds => (d,U) :: mskT ts ds
def hdO (ks : List Nat) : List Hd → List Ob → List Ob
 | [],acc => acc
 | h :: r,acc => hdO ks r ((match memN ks h.d with | true => h.obs | false => h.obs.map fun _ => .hole) ++ acc)
def holes : List Ob := List.replicate 64 .hole
def finR (ts : List (Nat × V)) : List Hd → List (Nat × V)
 | [] => ts
 | h :: r => (h.d,h.x) :: finR ts r
def allR : List Hd → List Ob → List Ob
 | [],acc => acc
 | h :: r,acc => allR r (h.obs ++ acc)
def allO : List Hd → List Ob
 | [] => []
 | h :: r => h.obs ++ allO r

inductive DR (P : Program) (E : Env) (l : List Oper) (A S M : List (List Nat)) (Q : Exit → St → Prop) (N : Nat) (ts : List (Nat × V)) (obs : List Ob) : List (List Nat) → List (List Nat) → List Hd → Nat → Nat → List Oper → Prop
 | stop {aS mS : List (List Nat)} {done : List Hd} {k c : Nat} {tail : List Oper} (hn : drawB l A S M k = true) (hm : Nat.ble c 64 = true) (h : AL P E l.toArray Q tail ⟨N,finR ts done,obs ++ allR done []⟩) : DR P E l A S M Q N ts obs aS mS done k c tail
 | s {a m : List Nat} {aS mS : List (List Nat)} {done : List Hd} {k c : Nat} {o : Oper} {rest : List Oper} {d : Nat} {x : V} {obs1 : List Ob} (hq : Qt P l.toArray o ⟨N,hdE a (mskT ts m) done,obs ++ hdO a done holes⟩ x obs1 (obs.length + c)) (hd : o.dst = some d) (hl : Nat.blt d N = true)
   (h : DR P E l A S M Q N ts obs aS mS (⟨d,x,obs1⟩ :: done) (k + 1) (c + obs1.length) rest) : DR P E l A S M Q N ts obs (a :: aS) (m :: mS) done k c (o :: rest)

section
variable {P : Program} {E : Env} {l : List Oper} {A S M : List (List Nat)} {Q : Exit → St → Prop} {N : Nat} {ts : List (Nat × V)} {obs : List Ob}

theorem allO_append : ∀ (a b : List Hd),allO (a ++ b) = allO a ++ allO b
 | [],b => rfl
 | h :: a,b => by simp [allO,allO_append a b]
theorem allR_eq : ∀ (done : List Hd) (acc : List Ob),allR done acc = allO done.reverse ++ acc
 | [],acc => rfl
 | h :: done,acc => by
  rw [allR,allR_eq done,List.reverse_cons,allO_append]
  simp [allO]
theorem finR_eq (ts : List (Nat × V)) : ∀ (done : List Hd),finR ts done = (done.map fun h => (h.d,h.x)) ++ ts
 | [] => rfl
 | h :: done => by rw [finR,finR_eq ts done]; rfl

theorem DR.out {aS mS : List (List Nat)} {done : List Hd} {k c : Nat} {rest : List Oper} (h : DR P E l A S M Q N ts obs aS mS done k c rest) (hk : k = done.length) (hc : c = (allO done.reverse).length) : ∃ hs : List Hd,∃ tail,done.reverse ++ hs.drop done.length = hs ∧ done.length ≤ hs.length ∧ rest = rest.take (hs.length - done.length) ++ tail ∧ (rest.take (hs.length - done.length)).length = hs.length - done.length ∧
  drawB l A S M hs.length = true ∧ (allO hs).length ≤ 64 ∧ AL P E l.toArray Q tail ⟨N,finR ts hs.reverse,obs ++ allO hs⟩ ∧
  ∀ (i : Nat) (o : Oper) (hd : Hd),done.length ≤ i → rest[i - done.length]? = some o → hs[i]? = some hd → ∃ a m,aS[i - done.length]? = some a ∧ mS[i - done.length]? = some m ∧ o.dst = some hd.d ∧ hd.d < N ∧ Qt P l.toArray o ⟨N,hdE a (mskT ts m) (hs.take i).reverse,obs ++ hdO a (hs.take i).reverse holes⟩ hd.x hd.obs (obs.length + (allO (hs.take i)).length) := by
 induction h with
 | stop hn hm h =>
  rename_i aS mS done k c tail
  subst hk hc
  refine ⟨done.reverse,tail,by simp,by simp,by simp,by simp,by simpa using hn,Nat.le_of_ble_eq_true hm,?_,fun i o hd h1 _ h3 => ?_⟩
  ·rw [List.reverse_reverse]
   rw [allR_eq,List.append_nil] at h
   exact h
  ·have := Yu h3
   simp at this
   omega
 | s hq hd hl h ih =>
  rename_i a m aS mS done k c o rest d x obs1
  subst hk hc
  obtain ⟨hs,tail,h1,h2,h3,h3',h4,h5,h6,h7⟩ := ih rfl (by simp [allO_append,allO])
  have hlen : ((⟨d,x,obs1⟩ : Hd) :: done).length = done.length + 1 := by simp
  rw [hlen] at h1 h2 h3 h3' h7
  rw [List.reverse_cons] at h1
  have hat : hs[done.length]? = some ⟨d,x,obs1⟩ := by
   rw [← h1,List.append_assoc,List.getElem?_append_right (by simp)]
   simp
  have htk : hs.take done.length = done.reverse := by
   rw [← h1,List.append_assoc,show done.length = done.reverse.length by simp,List.take_left]
  refine ⟨hs,tail,?_,by omega,?_,?_,h4,h5,h6,fun i o' hd' h8 h9 h10 => ?_⟩
  ·conv => rhs; rw [← List.take_append_drop done.length hs,htk]
  ·rw [show hs.length - done.length = (hs.length - (done.length + 1)) + 1 by omega,List.take_succ_cons,List.cons_append,← h3]
  ·rw [show hs.length - done.length = (hs.length - (done.length + 1)) + 1 by omega,List.take_succ_cons,List.length_cons,h3']
  ·rcases Nat.eq_or_lt_of_le h8 with e | e
   ·subst e
    rw [Nat.sub_self] at h9 ⊢
    simp only [List.getElem?_cons_zero,Option.some.injEq] at h9
    subst h9
    rw [hat] at h10
    simp only [Option.some.injEq] at h10
    subst h10
    rw [htk,List.reverse_reverse]
    exact ⟨a,m,J,J,hd,Nat.le_of_ble_eq_true hl,hq⟩
   ·have h11 : i - done.length = (i - (done.length + 1)) + 1 := by omega
    rw [h11,List.getElem?_cons_succ] at h9 ⊢
    rw [List.getElem?_cons_succ]
    exact h7 i o' hd' (by omega) h9 h10

def Lst (listed : Array Bool) (j : Nat) : Prop := listed.getD j false = true
structure RS (w : World) (H : Hs) (F : Nat → Prop) (N : Nat) (ts : List (Nat × V)) (obs : List Ob) (hs : List Hd) (S : Nat → Prop) (a : Act) : Prop where
 ok : Ok w H F
 old : ∀ p ob,obs[p]? = some ob → RB w H F p ob
 new : ∀ (j : Nat) (h : Hd) (q : Nat) (ob : Ob),S j → hs[j]? = some h → h.obs[q]? = some ob → RB w H F (obs.length + (allO (hs.take j)).length + q) ob
 nil : ∀ (j : Nat) (h : Hd) (q : Nat),¬ S j → hs[j]? = some h → q < h.obs.length → H (obs.length + (allO (hs.take j)).length + q) = .nil
 out : ∀ p,obs.length + (allO hs).length ≤ p → H p = .nil
 told : ∀ d,(∀ (j : Nat) (h : Hd),S j → hs[j]? = some h → h.d ≠ d) → RV w H F (look ts d) (a.tmps.getD d undef)
 tnew : ∀ (j : Nat) (h : Hd),S j → hs[j]? = some h → RV w H F h.x (a.tmps.getD h.d undef)
 size : N = a.tmps.size
 defers : a.defers = []

theorem look_append (l1 l2 : List (Nat × V)) (d : Nat) : (look (l1 ++ l2) d = look l1 d ∧ ∃ x,(d,x) ∈ l1 ∧ look l1 d = x) ∨ (look (l1 ++ l2) d = look l2 d ∧ ∀ x,(d,x) ∉ l1) := by
 induction l1 with
 | nil => exact .inr ⟨rfl,by simp⟩
 | cons e l1 ih =>
  obtain ⟨e1,e2⟩ := e
  rw [List.cons_append,Y0,Y0]
  by_cases h : e1 = d
  ·subst h
   rw [if_pos rfl,if_pos rfl]
   exact .inl ⟨J,e2,by simp,J⟩
  ·rw [if_neg h,if_neg h]
   rcases ih with ⟨h1,x,h2,h3⟩ | ⟨h1,h2⟩
   ·exact .inl ⟨h1,x,by simp [h2],h3⟩
   ·exact .inr ⟨h1,fun x hx => by
     rcases List.mem_cons.1 hx with e | e
     ·cases e; exact h rfl
     ·exact h2 x e⟩

theorem seg_le {hs : List Hd} {j j' : Nat} {h : Hd} (hj : hs[j]? = some h) (hlt : j < j') : (allO (hs.take j)).length + h.obs.length ≤ (allO (hs.take j')).length := by
 have h1 : hs.take j' = hs.take j ++ (hs.take j').drop j := by
  conv => lhs; rw [← List.take_append_drop j (hs.take j')]
  rw [List.take_take,Nat.min_eq_left (Nat.le_of_lt hlt)]
 have h2 : (hs.take j').drop j = h :: (hs.take j').drop (j + 1) := by
  have hjl := Yu hj
  rw [List.drop_eq_getElem_cons (by simp; omega)]
  congr 1
  have := (List.getElem?_eq_some_iff.1 hj).2
  simpa using this
 rw [h1,h2,allO_append,allO,List.length_append,List.length_append]
 omega
theorem seg_tot {hs : List Hd} {j : Nat} {h : Hd} (hj : hs[j]? = some h) : (allO (hs.take j)).length + h.obs.length ≤ (allO hs).length := by
 have := seg_le hj (Yu hj)
 rwa [List.take_length] at this
theorem allO_at : ∀ (hs : List Hd) (q : Nat) (ob : Ob),(allO hs)[q]? = some ob → ∃ j h r,hs[j]? = some h ∧ h.obs[r]? = some ob ∧ q = (allO (hs.take j)).length + r
 | [],q,ob,h => by simp [allO] at h
 | h :: hs,q,ob,he => by
  rw [allO,List.getElem?_append] at he
  split at he
  ·exact ⟨0,h,q,rfl,he,by simp [allO]⟩
  ·obtain ⟨j,h',r,h1,h2,h3⟩ := allO_at hs _ ob he
   exact ⟨j + 1,h',r,by simpa using h1,h2,by rw [List.take_succ_cons,allO,List.length_append]; omega⟩
def hdF (ks : List Nat) : List Hd → List Ob
 | [] => []
 | h :: r => (match memN ks h.d with | true => h.obs | false => h.obs.map fun _ => .hole) ++ hdF ks r
theorem hdF_append (ks : List Nat) : ∀ (a b : List Hd),hdF ks (a ++ b) = hdF ks a ++ hdF ks b
 | [],b => rfl
 | h :: a,b => by simp [hdF,hdF_append ks a b]
theorem hdO_eq (ks : List Nat) : ∀ (done : List Hd) (acc : List Ob),hdO ks done acc = hdF ks done.reverse ++ acc
 | [],acc => rfl
 | h :: done,acc => by
  rw [hdO,hdO_eq ks done,List.reverse_cons,hdF_append]
  simp [hdF]
theorem hdF_at (ks : List Nat) : ∀ (hs : List Hd) (q : Nat) (ob : Ob),(hdF ks hs)[q]? = some ob → ob = .hole ∨ ∃ j h r,hs[j]? = some h ∧ memN ks h.d = true ∧ h.obs[r]? = some ob ∧ q = (allO (hs.take j)).length + r
 | [],q,ob,h => by simp [hdF] at h
 | h :: hs,q,ob,he => by
  have hlen : (match memN ks h.d with | true => h.obs | false => h.obs.map fun _ => Ob.hole).length = h.obs.length := by split <;> simp
  rw [hdF,List.getElem?_append,hlen] at he
  split at he
  ·split at he
   ·rename_i hcA
    exact .inr ⟨0,h,q,J,hcA,he,by simp [allO]⟩
   ·rw [List.getElem?_map] at he
    obtain ⟨_,_,rfl⟩ := Option.map_eq_some_iff.1 he
    exact .inl J
  ·rcases hdF_at ks hs _ ob he with h1 | ⟨j,h',r,h1,h2,h3,h4⟩
   ·exact .inl h1
   ·exact .inr ⟨j + 1,h',r,by simpa using h1,h2,h3,by rw [List.take_succ_cons,allO,List.length_append]; omega⟩
theorem hdF_len (ks : List Nat) : ∀ (hs : List Hd),(hdF ks hs).length = (allO hs).length
 | [] => rfl
 | h :: hs => by
  have hlen : (match memN ks h.d with | true => h.obs | false => h.obs.map fun _ => Ob.hole).length = h.obs.length := by split <;> simp
  rw [hdF,List.length_append,hlen,hdF_len ks hs,allO,List.length_append]
section ready
variable {ops : Array Oper} {listed : Array Bool}
theorem rdy {i : Nat} (hs : listed.size = ops.size) : i ∈ Region.ready .any ops listed ↔ i < ops.size ∧ ¬ Lst listed i ∧ ∀ k ∈ preAt ops.toList i,Lst listed k := by
 unfold Region.ready
 rw [List.mem_filter,List.mem_range]
 constructor
 ·rintro ⟨h1,h2⟩
  rw [Bool.and_eq_true] at h2
  obtain ⟨h2,h3⟩ := h2
  refine ⟨h1,fun hl => ?_,fun k hk => ?_⟩
  ·unfold Lst at hl
   rw [Array.getD_eq_getD_getElem?,Array.getElem?_eq_getElem (by omega)] at hl h2
   simp at hl h2
   rw [hl] at h2
   cases h2
  ·have h4 : ops[i]? = some ops[i] := Array.getElem?_eq_getElem h1
   rw [h4] at h3
   simp only [Option.map_some,Option.getD_some] at h3
   unfold preAt at hk
   have h5 : ops.toList[i]? = some ops[i] := by simp [h1]
   rw [h5] at hk
   obtain ⟨e,he,rfl⟩ := List.mem_map.1 hk
   obtain ⟨he1,he2⟩ := List.mem_filter.1 he
   have h6 := Array.all_eq_true_iff_forall_mem.1 h3 e (by simpa using he1)
   rw [he2] at h6
   simpa [Lst] using h6
 ·rintro ⟨h1,h2,h3⟩
  refine ⟨h1,?_⟩
  rw [Bool.and_eq_true]
  constructor
  ·unfold Lst at h2
   rw [Array.getD_eq_getD_getElem?,Array.getElem?_eq_getElem (by omega)] at h2 ⊢
   simpa using h2
  ·have h4 : ops[i]? = some ops[i] := Array.getElem?_eq_getElem h1
   rw [h4]
   simp only [Option.map_some,Option.getD_some]
   rw [Array.all_eq_true_iff_forall_mem]
   intro e he
   cases hb : Region.binds .any e with
   | false => rfl
   | true =>
    have h5 : ops.toList[i]? = some ops[i] := by simp [h1]
    have h6 := h3 e.on (by
     unfold preAt
     rw [h5]
     exact List.mem_map.2 ⟨e,List.mem_filter.2 ⟨by simpa using he,hb⟩,J⟩)
    simpa [Lst] using h6
theorem Y2 {i j : Nat} (hi : i < listed.size) : Lst (listed.setIfInBounds i true) j ↔ Lst listed j ∨ j = i := by
 unfold Lst
 by_cases e : i = j
 ·subst e
  simp [Array.getD_eq_getD_getElem?,hi]
 ·simp only [Array.getD_eq_getD_getElem?,Array.getElem?_setIfInBounds_ne e]
  constructor
  ·intro h; exact .inl h
  ·rintro (h | h)
   ·exact h
   ·exact absurd h.symm e
end ready

def Clo (l : List Oper) (listed : Array Bool) : Prop := ∀ i,Lst listed i → ∀ k ∈ preAt l i,Lst listed k

structure Chk (l : List Oper) (A S M : List (List Nat)) (n : Nat) : Prop where
 anc : ∀ i,i < l.length → ∀ j ∈ A.getD i [],∃ k ∈ preAt l i,k = j ∨ j ∈ A.getD k []
 down : ∀ i,i < l.length → ∀ k ∈ preAt l i,k < i
 tail : ∀ t,t < l.length → n ≤ t → ∀ j,j < t → j ∈ A.getD t [] ∨ j ∈ M.getD l.length []
 late : ∀ m ∈ M.getD l.length [],m < n ∧ lateB l A m = true
 uniq : ∀ i j,i < n → j < n → i ≠ j → (l[i]?).bind (·.dst) ≠ (l[j]?).bind (·.dst)
 msk : ∀ i j d,i < n → j < l.length → i ∉ A.getD j [] → i ≠ j → (l[j]?).bind (·.dst) = some d → (d ∈ S.getD i [] ∧ j ∈ A.getD i [] ∧ j < n) ∨ (memN (S.getD i []) d = false ∧ d ∈ M.getD i [])
theorem drawB_spec {n : Nat} (h : drawB l A S M n = true) : Chk l A S M n := by
 unfold drawB at h
 simp only [Bool.and_eq_true] at h
 obtain ⟨⟨⟨⟨h1,h2⟩,h3⟩,h3'⟩,hlt⟩ := h
 refine ⟨fun i hi j hj => ?_,fun i hi k hk => ?_,fun t ht hn j hj => ?_,fun m hm => ?_,fun i j hi hj hne => ?_,fun i j d hi hj hB hne hd => ?_⟩
 ·have h4 := X6 h1 hi
  rw [Bool.and_eq_true] at h4
  have h5 := List.all_eq_true.1 h4.1 j hj
  unfold under at h5
  obtain ⟨k,hk,h6⟩ := List.any_eq_true.1 h5
  refine ⟨k,hk,?_⟩
  rw [Bool.or_eq_true] at h6
  rcases h6 with h6 | h6
  ·exact .inl (Nat.eq_of_beq_eq_true h6)
  ·obtain ⟨q,hq,h7⟩ := List.any_eq_true.1 h6
   have := Nat.eq_of_beq_eq_true h7
   subst this
   exact .inr hq
 ·have h4 := X6 h1 hi
  rw [Bool.and_eq_true] at h4
  exact Nat.le_of_ble_eq_true (List.all_eq_true.1 h4.2 k hk)
 ·have h4 := X6 h2 ht
  rw [Bool.or_eq_true] at h4
  rcases h4 with h4 | h4
  ·have := Nat.le_of_ble_eq_true h4; omega
  ·have h5 := X6 h4 hj
   rw [Bool.or_eq_true] at h5
   exact h5.imp (Y3 _ _).1 (Y3 _ _).1
 ·have h4 := List.all_eq_true.1 hlt m hm
  rw [Bool.and_eq_true] at h4
  exact ⟨Nat.le_of_ble_eq_true h4.1,h4.2⟩
 ·have h4 := X6 (X6 h3 hi) hj
  rw [Bool.or_eq_true] at h4
  rcases h4 with h4 | h4
  ·exact absurd (Nat.eq_of_beq_eq_true h4) hne
  ·simpa using h4
 ·have h4 := X6 (X6 h3' hi) hj
  rw [hd] at h4
  simp only [Bool.or_eq_true] at h4
  rcases h4 with (h4 | h4) | h4
  ·exact absurd ((Y3 _ _).1 h4) hB
  ·exact absurd (Nat.eq_of_beq_eq_true h4) hne
  ·split at h4
   ·rename_i hS
    rw [Bool.and_eq_true] at h4
    exact .inl ⟨(Y3 _ _).1 hS,(Y3 _ _).1 h4.1,Nat.le_of_ble_eq_true h4.2⟩
   ·rename_i hS
    exact .inr ⟨hS,(Y3 _ _).1 h4⟩

theorem X8 {n : Nat} (hc : Chk l A S M n) {listed : Array Bool} (hcl : Clo l listed) : ∀ (i : Nat),i < l.length → (∀ k ∈ preAt l i,Lst listed k) → ∀ j ∈ A.getD i [],Lst listed j ∧ j < i := by
 intro i
 induction i using Nat.strongRecOn with
 | _ i ih =>
  intro hi hp j hj
  obtain ⟨k,hk,h1⟩ := hc.anc i hi j hj
  have hki := hc.down i hi k hk
  rcases h1 with rfl | h1
  ·exact ⟨hp _ hk,hki⟩
  ·have h2 := ih k hki (by omega) (hcl k (hp k hk)) j h1
   exact ⟨h2.1,by omega⟩
theorem min_ready {listed : Array Bool} {n : Nat} (hc : Chk l A S M n) (hs : listed.size = l.length) : (∃ i,i < l.length ∧ ¬ Lst listed i) → ∃ i,i < l.length ∧ ¬ Lst listed i ∧ ∀ k ∈ preAt l i,Lst listed k := by
 rintro ⟨i,hi,hn⟩
 induction i using Nat.strongRecOn with
 | _ i ih =>
  by_cases h : ∀ k ∈ preAt l i,Lst listed k
  ·exact ⟨i,hi,hn,h⟩
  ·simp only [Classical.not_forall] at h
   obtain ⟨k,hk,h1⟩ := h
   have hki := hc.down i hi k hk
   exact ih k hki (by omega) h1

theorem tail_any {n : Nat} (hc : Chk l A S M n) {Q' : Exit → Act → World → Prop} : ∀ (tl : List Oper) (t : Nat) (listed : Array Bool) (a : Act) (w : World),n ≤ t → t + tl.length = l.length → tl = l.drop t → listed.size = l.length → (∀ j,j < l.length → (Lst listed j ↔ j < t)) → Clo l listed →
  wpList P l.toArray Q' tl a w → wpAny P .any l.toArray Q' tl.length listed a w
 | [],t,listed,a,w,hnt,hlen,htl,hsz,hls,hcl,h => by
  refine ⟨?_,h⟩
  apply List.eq_nil_iff_forall_not_mem.2
  intro i hi
  obtain ⟨h1,h2,_⟩ := (rdy (ops := l.toArray) (by simpa using hsz)).1 hi
  simp at h1 hlen
  exact h2 ((hls i h1).2 (by omega))
 | o :: tl,t,listed,a,w,hnt,hlen,htl,hsz,hls,hcl,h => by
  have htlt : t < l.length := by simp at hlen; omega
  have hcons := htl
  rw [List.drop_eq_getElem_cons htlt] at hcons
  simp only [List.cons.injEq] at hcons
  obtain ⟨ho,htl'⟩ := hcons
  have hdown := hc.down t htlt
  have htr : t ∈ Region.ready .any l.toArray listed := (rdy (ops := l.toArray) (by simpa using hsz)).2 ⟨by simpa using htlt,fun hh => by have := (hls t htlt).1 hh; omega,fun k hk => (hls k (by have := hdown k hk; omega)).2 (hdown k hk)⟩
  refine ⟨fun e => by rw [e] at htr; simp at htr,fun i hi => ?_⟩
  obtain ⟨h1,h2,h3⟩ := (rdy (ops := l.toArray) (by simpa using hsz)).1 hi
  have h1' : i < l.length := by simpa using h1
  have hge : t ≤ i := Nat.le_of_not_lt fun hh => h2 ((hls i h1').2 hh)
  have hit : i = t := by
   rcases Nat.eq_or_lt_of_le hge with e | e
   ·exact e.symm
   ·rcases hc.tail i h1' (by omega) t e with h5 | h5
    ·have h4 := (X8 hc hcl i h1' (by simpa using h3) t h5).1
     have := (hls t htlt).1 h4
     omega
    ·have := (hc.late t h5).1; omega
  subst hit
  have hoi : l.toArray[i]? = some o := by
   rw [ho]
   simp [htlt]
  unfold wpOp
  simp only [hoi]
  have hrec : ∀ a' w',wpList P l.toArray Q' tl a' w' → wpAny P .any l.toArray Q' tl.length (listed.setIfInBounds i true) a' w' := fun a' w' h' => by
   refine tail_any hc tl (i + 1) _ a' w' (by omega) (by simp at hlen ⊢; omega) htl' (by simpa using hsz) (fun j hj => ?_) (fun j hj k hk => ?_) h'
   ·rw [Y2 (by omega),hls j hj]
    omega
   ·rw [Y2 (by omega)] at hj ⊢
    rcases hj with hj | rfl
    ·exact .inl (hcl j hj k hk)
    ·exact .inl ((hls k (by have := hdown k hk; omega)).2 (hdown k hk))
  unfold wpList at h
  split
  ·rename_i hw
   rw [if_pos hw] at h
   exact h.imp (Oper.wp_mono fun a' w' h' => hrec a' w' h') id
  ·rename_i hw
   rw [if_neg hw] at h
   exact hrec _ _ h

structure Heads (P : Program) (l : List Oper) (A S M : List (List Nat)) (N : Nat) (ts : List (Nat × V)) (obs : List Ob) (hs : List Hd) : Prop where
 chk : Chk l A S M hs.length
 max : (allO hs).length ≤ 64
 le : hs.length ≤ l.length
 qt : ∀ (i : Nat) (o : Oper) (h : Hd),l[i]? = some o → hs[i]? = some h → o.dst = some h.d ∧ h.d < N ∧ Qt P l.toArray o ⟨N,hdE (S.getD i []) (mskT ts (M.getD i [])) (hs.take i).reverse,obs ++ hdO (S.getD i []) (hs.take i).reverse holes⟩ h.x h.obs (obs.length + (allO (hs.take i)).length)

section
variable {hs : List Hd} {w w' : World} {H H' : Hs} {F F' : Nat → Prop} {a : Act}

theorem Heads.uniq (hh : Heads P l A S M N ts obs hs) {i j : Nat} {g h : Hd} (hi : hs[i]? = some g) (hj : hs[j]? = some h) (hne : i ≠ j) : g.d ≠ h.d := by
 have h1 := Yu hi
 have h2 := Yu hj
 have hle := hh.le
 have h3 := hh.qt i _ g (List.getElem?_eq_getElem (show i < l.length by omega)) hi
 have h4 := hh.qt j _ h (List.getElem?_eq_getElem (show j < l.length by omega)) hj
 have h5 := hh.chk.uniq i j h1 h2 hne
 rw [List.getElem?_eq_getElem (show i < l.length by omega),List.getElem?_eq_getElem (show j < l.length by omega)] at h5
 simp only [Option.bind_some,h3.1,h4.1] at h5
 intro e
 exact h5 (by rw [e])

theorem RS.r0 (hh : Heads P l A S M N ts obs hs) {listed : Array Bool} (hsz : listed.size = l.length) (hcl : Clo l listed) (hr : RS w H F N ts obs hs (Lst listed) a) {i : Nat} {g : Hd} (hg : hs[i]? = some g) (hi : ¬ Lst listed i) (hp : ∀ k ∈ preAt l i,Lst listed k) :
  R0 w H F ⟨N,hdE (S.getD i []) (mskT ts (M.getD i [])) (hs.take i).reverse,obs ++ hdO (S.getD i []) (hs.take i).reverse holes⟩ a := by
 have hil := Yu hg
 have hle := hh.le
 have hanc := X8 hh.chk hcl i (by omega) hp
 -- what is leant on has come
 have hmem : ∀ (j : Nat) (h : Hd),j < i → hs[j]? = some h → memN (S.getD i []) h.d = true → Lst listed j := by
  intro j h hj hjh hm
  have h8 := hh.qt j _ h (List.getElem?_eq_getElem (show j < l.length by omega)) hjh
  have hnd : i ∉ A.getD j [] := fun hb => by
   by_cases hlj : ∀ k ∈ preAt l j,Lst listed k
   ·exact hi (X8 hh.chk hcl j (by omega) hlj i hb).1
   ·have : ∀ q,q < l.length → ∀ z ∈ A.getD q [],z < q := by
     intro q
     induction q using Nat.strongRecOn with
     | _ q ih =>
      intro hq z hz
      obtain ⟨k,hk,h1⟩ := hh.chk.anc q hq z hz
      have hkq := hh.chk.down q hq k hk
      rcases h1 with rfl | h1
      ·exact hkq
      ·have := ih k hkq (by omega) z h1; omega
    have := this j (by omega) i hb
    omega
  rcases hh.chk.msk i j h.d hil (by omega) hnd (by omega) (by rw [List.getElem?_eq_getElem (show j < l.length by omega)]; simp [h8.1]) with h1 | h1
  ·exact (hanc j h1.2.1).1
  ·rw [h1.1] at hm; cases hm
 refine ⟨hr.ok,fun p => ?_,fun d => ?_,hr.size,hr.defers⟩
 ·rw [hdO_eq,List.reverse_reverse]
  show RB w H F p ((obs ++ (hdF (S.getD i []) (hs.take i) ++ holes)).getD p .gone)
  rcases Nat.lt_or_ge p obs.length with h1 | h1
  ·rw [show (obs ++ (hdF (S.getD i []) (hs.take i) ++ holes)).getD p .gone = obs[p] by simp [List.getD_eq_getElem?_getD,List.getElem?_append_left h1,h1]]
   exact hr.old p _ (List.getElem?_eq_getElem h1)
  ·rw [show (obs ++ (hdF (S.getD i []) (hs.take i) ++ holes)).getD p .gone = (hdF (S.getD i []) (hs.take i) ++ holes).getD (p - obs.length) .gone by simp [List.getD_eq_getElem?_getD,List.getElem?_append_right h1]]
   cases ho : (hdF (S.getD i []) (hs.take i) ++ holes)[p - obs.length]? with
   | none =>
    rw [List.getD_eq_getElem?_getD,ho]
    refine hr.out p ?_
    have h2 := List.getElem?_eq_none_iff.1 ho
    have h3 : holes.length = 64 := by simp [holes]
    rw [List.length_append,hdF_len,h3] at h2
    have := hh.max
    omega
   | some ob =>
    rw [Yt ho]
    rw [List.getElem?_append] at ho
    split at ho
    ·rcases hdF_at _ _ _ ob ho with rfl | ⟨j,h,r,h2,h3,h4,h5⟩
     ·trivial
     ·have hj : j < i := by have := Yu h2; simp at this; omega
      have h2' : hs[j]? = some h := by rwa [List.getElem?_take,if_pos hj] at h2
      rw [List.take_take,Nat.min_eq_left (Nat.le_of_lt hj)] at h5
      have h6 := hr.new j h r ob (hmem j h hj h2' h3) h2' h4
      rwa [show obs.length + (allO (hs.take j)).length + r = p by omega] at h6
    ·unfold holes at ho
     rw [List.getElem?_replicate] at ho
     split at ho
     ·simp only [Option.some.injEq] at ho
      subst ho
      trivial
     ·cases ho
 ·have key : ∀ (done : List Hd) (r : List (Nat × V)),(∃ h ∈ done,memN (S.getD i []) h.d = true ∧ h.d = d ∧ look (hdE (S.getD i []) r done) d = h.x) ∨ (look (hdE (S.getD i []) r done) d = look r d ∧ ∀ h ∈ done,memN (S.getD i []) h.d = true → h.d ≠ d) := by
   intro done
   induction done with
   | nil => intro r; exact .inr ⟨rfl,fun h hj => by simp at hj⟩
   | cons g' done ih =>
    intro r
    simp only [hdE]
    cases hm : memN (S.getD i []) g'.d with
    | true =>
     simp only
     rw [Y0]
     by_cases hd : g'.d = d
     ·rw [if_pos hd]
      exact .inl ⟨g',by simp,hm,hd,J⟩
     ·rw [if_neg hd]
      rcases ih r with ⟨h,h1,h2,h3,h4⟩ | ⟨h1,h2⟩
      ·exact .inl ⟨h,by simp [h1],h2,h3,h4⟩
      ·refine .inr ⟨h1,fun h hj hmm => ?_⟩
       rcases List.mem_cons.1 hj with rfl | hj
       ·exact hd
       ·exact h2 h hj hmm
    | false =>
     simp only
     rcases ih r with ⟨h,h1,h2,h3,h4⟩ | ⟨h1,h2⟩
     ·exact .inl ⟨h,by simp [h1],h2,h3,h4⟩
     ·refine .inr ⟨h1,fun h hj hmm => ?_⟩
      rcases List.mem_cons.1 hj with rfl | hj
      ·rw [hm] at hmm; cases hmm
      ·exact h2 h hj hmm
  have key2 : ∀ (ds : List Nat),look (mskT ts ds) d = U ∨ (look (mskT ts ds) d = look ts d ∧ d ∉ ds) := by
   intro ds
   induction ds with
   | nil => exact .inr ⟨rfl,by simp⟩
   | cons e ds ih =>
    simp only [mskT]
    rw [Y0]
    by_cases hd : e = d
    ·rw [if_pos hd]; exact .inl rfl
    ·rw [if_neg hd]
     rcases ih with h | ⟨h1,h2⟩
     ·exact .inl h
     ·exact .inr ⟨h1,fun hh => by
       rcases List.mem_cons.1 hh with h3 | h3
       ·exact hd h3.symm
       ·exact h2 h3⟩
  show RV w H F (look (hdE (S.getD i []) (mskT ts (M.getD i [])) (hs.take i).reverse) d) _
  rcases key (hs.take i).reverse (mskT ts (M.getD i [])) with ⟨h,h1,h2,h3,h4⟩ | ⟨h1,h2⟩
  ·rw [h4]
   obtain ⟨j,hj⟩ := List.getElem?_of_mem (List.mem_reverse.1 h1)
   have hj' : j < i := by have := Yu hj; simp at this; omega
   rw [List.getElem?_take,if_pos hj'] at hj
   have := hr.tnew j h (hmem j h hj' hj h2) hj
   rwa [h3] at this
  ·rw [h1]
   rcases key2 (M.getD i []) with h3 | ⟨h3,h4⟩
   ·rw [h3]; trivial
   ·rw [h3]
    refine hr.told d fun j h hS hj e => ?_
    have hjl := Yu hj
    have hji : j ≠ i := fun e => hi (e ▸ hS)
    by_cases hB : i ∈ A.getD j []
    ·exact hi (X8 hh.chk hcl j (by omega) (hcl j hS) i hB).1
    ·have h8 := hh.qt j _ h (List.getElem?_eq_getElem (show j < l.length by omega)) hj
     rcases hh.chk.msk i j d hil (by omega) hB (Ne.symm hji) (by rw [List.getElem?_eq_getElem (show j < l.length by omega)]; simp [h8.1,e]) with h9 | h9
     ·have hlt := (hanc j h9.2.1).2
      exact h2 h (List.mem_reverse.2 (Yv (i := j) (by rw [List.getElem?_take,if_pos hlt,hj]))) (by rw [e]; exact (Y3 _ _).2 h9.1) e
     ·exact h4 h9.2

theorem rb_grow {p : Nat} {ob : Ob} (g : Grow w H F w' H' F') (hno : H p = .nil → H' p = .nil) (h : RB w H F p ob) : RB w' H' F' p ob := by
 by_cases hn : H p = .nil
 ·cases ob with
  | gone => exact hno hn
  | hole => trivial
  | box cs => obtain ⟨_,_,_,e,_⟩ := h; rw [hn] at e; cases e
  | row k es => obtain ⟨_,_,e⟩ := h; rw [hn] at e; cases e
  | gh i x => obtain ⟨_,e,_⟩ := h; rw [hn] at e; cases e
  | shr es => obtain ⟨_,_,_,e,_⟩ := h; rw [hn] at e; cases e
 ·exact g.rb hn h

theorem RS.step (hh : Heads P l A S M N ts obs hs) {S' : Nat → Prop} (hr : RS w H F N ts obs hs S' a) {i : Nat} {g : Hd} (hg : hs[i]? = some g) (hdN : g.d < N) {v : Value} (gr : Grow w H F w' H' F') (hok : Ok w' H' F')
  (hob : ∀ q ob,g.obs[q]? = some ob → RB w' H' F' (obs.length + (allO (hs.take i)).length + q) ob) (hno : ∀ p,H p = .nil → (p < obs.length + (allO (hs.take i)).length ∨ obs.length + (allO (hs.take i)).length + g.obs.length ≤ p) → H' p = .nil) (hv : RV w' H' F' g.x v) :
  RS w' H' F' N ts obs hs (fun j => S' j ∨ j = i) (a.put (some g.d) v) := by
 have hap : ∀ (j : Nat) (h : Hd),hs[j]? = some h → j ≠ i → ∀ q,q < h.obs.length → H (obs.length + (allO (hs.take j)).length + q) = .nil → H' (obs.length + (allO (hs.take j)).length + q) = .nil := by
  intro j h hj hne q hq hn
  refine hno _ hn ?_
  rcases Nat.lt_or_gt_of_ne hne with hlt | hlt
  ·have := seg_le hj hlt; omega
  ·have := seg_le hg hlt; omega
 have hsame : ∀ d,d ≠ g.d → (a.put (some g.d) v).tmps.getD d undef = a.tmps.getD d undef := fun d hd => by
  simp [Act.put,Array.getElem?_setIfInBounds_ne (Ne.symm hd)]
 have hself : (a.put (some g.d) v).tmps.getD g.d undef = v := by
  have := hr.size
  simp [Act.put,show g.d < a.tmps.size by omega]
 refine ⟨hok,fun p ob hp => ?_,fun j h q ob hS hj hq => ?_,fun j h q hS hj hq => ?_,fun p hp => ?_,fun d hd => ?_,fun j h hS hj => ?_,by simpa [Act.put] using hr.size,hr.defers⟩
 ·exact rb_grow gr (fun hn => hno p hn (.inl (by have := Yu hp; omega))) (hr.old p ob hp)
 ·by_cases e : j = i
  ·subst e
   rw [hj] at hg
   simp only [Option.some.injEq] at hg
   subst hg
   exact hob q ob hq
  ·rcases hS with hS | hS
   ·exact rb_grow gr (hap j h hj e q (Yu hq)) (hr.new j h q ob hS hj hq)
   ·exact absurd hS e
 ·have hne : j ≠ i := fun e => hS (.inr e)
  exact hap j h hj hne q hq (hr.nil j h q (fun h => hS (.inl h)) hj hq)
 ·have := seg_tot hg
  exact hno p (hr.out p hp) (.inr (by omega))
 ·have hdg : g.d ≠ d := hd i g (.inr rfl) hg
  rw [hsame d (Ne.symm hdg)]
  exact gr.rv (hr.told d fun j h hS hj => hd j h (.inl hS) hj)
 ·by_cases e : j = i
  ·subst e
   rw [hj] at hg
   simp only [Option.some.injEq] at hg
   subst hg
   rw [hself]
   exact hv
  ·rcases hS with hS | hS
   ·rw [hsame _ (hh.uniq hj hg e)]
    exact gr.rv (hr.tnew j h hS hj)
   ·exact absurd hS e

theorem RS.fin (hh : Heads P l A S M N ts obs hs) {S' : Nat → Prop} (hr : RS w H F N ts obs hs S' a) (hS : ∀ j,j < hs.length → S' j) : R0 w H F ⟨N,finR ts hs.reverse,obs ++ allO hs⟩ a := by
 refine ⟨hr.ok,fun p => ?_,fun d => ?_,hr.size,hr.defers⟩
 ·show RB w H F p ((obs ++ allO hs).getD p .gone)
  rcases Nat.lt_or_ge p obs.length with h1 | h1
  ·rw [show (obs ++ allO hs).getD p .gone = obs[p] by simp [List.getD_eq_getElem?_getD,List.getElem?_append_left h1,h1]]
   exact hr.old p _ (List.getElem?_eq_getElem h1)
  ·rw [show (obs ++ allO hs).getD p .gone = (allO hs).getD (p - obs.length) .gone by simp [List.getD_eq_getElem?_getD,List.getElem?_append_right h1]]
   cases ho : (allO hs)[p - obs.length]? with
   | none =>
    rw [List.getD_eq_getElem?_getD,ho]
    have h2 := List.getElem?_eq_none_iff.1 ho
    exact hr.out p (by omega)
   | some ob =>
    rw [Yt ho]
    obtain ⟨j,h,r,h2,h3,h4⟩ := allO_at hs _ ob ho
    have h6 := hr.new j h r ob (hS j (Yu h2)) h2 h3
    rwa [show obs.length + (allO (hs.take j)).length + r = p by omega] at h6
 ·show RV w H F (look (finR ts hs.reverse) d) _
  rw [finR_eq]
  rcases look_append (hs.reverse.map fun h => (h.d,h.x)) ts d with ⟨h1,x,h2,h3⟩ | ⟨h1,h2⟩
  ·rw [h1,h3]
   obtain ⟨h,h4,h5⟩ := List.mem_map.1 h2
   simp only [Prod.mk.injEq] at h5
   obtain ⟨rfl,rfl⟩ := h5
   obtain ⟨j,hj⟩ := List.getElem?_of_mem (List.mem_reverse.1 h4)
   exact hr.tnew j h (hS j (Yu hj)) hj
  ·rw [h1]
   exact hr.told d fun j h _ hj e => h2 h.x (List.mem_map.2 ⟨h,List.mem_reverse.2 (Yv hj),by rw [e]⟩)

theorem cnt_set {n i : Nat} {listed : Array Bool} (hin : i < n) (hsz : i < listed.size) (h2 : ¬ Lst listed i) : ((List.range n).filter fun j => !(listed.setIfInBounds i true).getD j false).length + 1 = ((List.range n).filter fun j => !listed.getD j false).length := by
 have h8 : ∀ (L : List Nat),L.Nodup → (L.filter fun j => !(listed.setIfInBounds i true).getD j false).length + (if i ∈ L then 1 else 0) = (L.filter fun j => !listed.getD j false).length := by
  intro L hL
  induction L with
  | nil => simp
  | cons b L ihL =>
   obtain ⟨hb1,hb2⟩ := List.nodup_cons.1 hL
   have h9 := ihL hb2
   by_cases e : b = i
   ·subst e
    have hx1 : (listed.setIfInBounds b true).getD b false = true := (Y2 (listed := listed) (i := b) (j := b) (by omega)).2 (.inr rfl)
    have hx2 : listed.getD b false = false := by
     cases hb : listed.getD b false
     ·rfl
     ·exact absurd hb h2
    rw [List.filter_cons,List.filter_cons,hx1,hx2]
    rw [if_neg hb1] at h9
    simp at h9 ⊢
    omega
   ·have hx : (listed.setIfInBounds i true).getD b false = listed.getD b false := by
     simp [Array.getD_eq_getD_getElem?,Array.getElem?_setIfInBounds_ne (Ne.symm e)]
    rw [List.filter_cons,List.filter_cons,hx]
    have hmem : (i ∈ b :: L) ↔ i ∈ L := by simp [Ne.symm e]
    rw [show (if i ∈ b :: L then 1 else 0) = (if i ∈ L then 1 else 0) by simp [hmem]]
    split
    ·simp only [List.length_cons]; omega
    ·exact h9
 have h9 := h8 (List.range n) List.nodup_range
 rwa [if_pos (by simpa using hin)] at h9
theorem lateB_spec {m : Nat} (h : lateB l A m = true) : ∃ o t d,l[m]? = some o ∧ srcO o.op = some t ∧ o.dst = some d ∧ o.guard = none ∧ t ≠ d ∧
  ∀ j oj,j ≠ m → l[j]? = some oj → oj.guard = none ∧ (oj.dst ≠ some t ∨ j ∈ A.getD m []) ∧ oj.dst ≠ some d ∧ (m ∈ A.getD j [] ∨ blindO d oj.op = true) := by
 unfold lateB at h
 split at h
 ·rename_i o hl
  split at h
  ·rename_i t d ho hd
   simp only [Bool.and_eq_true] at h
   obtain ⟨⟨h1,h3⟩,h4⟩ := h
   refine ⟨o,t,d,hl,ho,hd,by simpa using h1,fun e => ?_,fun j oj hj hoj => ?_⟩
   ·subst e
    rw [show Nat.beq t t = true from Nat.beq_refl t] at h3
    cases h3
   ·have h5 := X6 h4 (Yu hoj)
    rw [hoj,Bool.or_eq_true] at h5
    rcases h5 with h5 | h5
    ·exact absurd (Nat.eq_of_beq_eq_true h5) hj
    ·simp only [Bool.and_eq_true] at h5
     obtain ⟨⟨⟨h6,h7⟩,h8⟩,h9⟩ := h5
     refine ⟨by simpa using h6,?_,by simpa using h8,?_⟩
     ·rw [Bool.or_eq_true] at h7
      exact h7.imp (fun h => by simpa using h) (Y3 _ _).1
     ·rw [Bool.or_eq_true] at h9
      exact h9.imp (Y3 _ _).1 id
  ·cases h
 ·cases h
theorem srcO_exec {o : Oper} {t : Nat} (h : srcO o.op = some t) : ∀ r r' : Operand → Value,r (.tmp t) = r' (.tmp t) → execOp r o = execOp r' o := fun r r' e => by
 unfold srcO at h
 split at h
 ·rename_i ho; cases h; simp only [execOp,ho,e]
 ·rename_i ho; cases h; simp only [execOp,ho,e]
 ·cases h
theorem srcO_run {o : Oper} {t : Nat} (h : srcO o.op = some t) (r : Operand → Value) : (∃ v,∀ w,(execOp r o).run P w = .ok (.value v) w) ∨ ∀ w,∃ x,(execOp r o).run P w = .halt (.stuck x) w := by
 unfold srcO at h
 split at h
 ·rename_i ho; exact .inl ⟨r (.tmp t),fun w => by cases h; simp [execOp,ho]⟩
 ·rename_i t' i ho
  cases h
  simp only [execOp,ho,Instr.extract]
  cases r (.tmp t) with
  | tuple vs =>
   cases hi : vs[i]? with
   | some v => exact .inl ⟨v,fun w => by simp [hi]⟩
   | none => exact .inr fun w => ⟨_,by simp [hi]; rfl⟩
  | _ => exact .inr fun w => ⟨_,rfl⟩
 ·cases h
theorem set_comm {x : Array Bool} {i j : Nat} : (x.setIfInBounds i true).setIfInBounds j true = (x.setIfInBounds j true).setIfInBounds i true := by
 by_cases h : i = j
 ·rw [h]
 ·exact Array.setIfInBounds_comm _ _ h
theorem hoist {n : Nat} (hc : Chk l A S M n) {m t d : Nat} {o : Oper} (hlm : l[m]? = some o) (ho : ∀ r r' : Operand → Value,r (.tmp t) = r' (.tmp t) → execOp r o = execOp r' o) (hd : o.dst = some d) (hg : o.guard = none)
  (hot : ∀ j oj,j ≠ m → l[j]? = some oj → oj.guard = none ∧ (oj.dst ≠ some t ∨ j ∈ A.getD m []) ∧ oj.dst ≠ some d ∧ (m ∈ A.getD j [] ∨ blindO d oj.op = true)) {Q' : Exit → Act → World → Prop} (hQ : ∀ c a w,¬ Q' (.panic c) a w) :
  ∀ (f : Nat) (listed : Array Bool) (a : Act) (w : World) (u : Value),(∀ w,(execOp a.eval o).run P w = .ok (.value u) w) → listed.size = l.length → Clo l listed → ¬ Lst listed m → (∀ k ∈ preAt l m,Lst listed k) → wpAny P .any l.toArray Q' f (listed.setIfInBounds m true) (a.put (some d) u) w → wpAny P .any l.toArray Q' (f + 1) listed a w := by
 have hml := Yu hlm
 have hmr : ∀ (listed : Array Bool),listed.size = l.length → ¬ Lst listed m → (∀ k ∈ preAt l m,Lst listed k) → m ∈ Region.ready .any l.toArray listed := fun listed hsz hm hp =>
  (rdy (ops := l.toArray) (by simpa using hsz)).2 ⟨by simpa using hml,hm,by simpa using hp⟩
 have hmm : ∀ (f : Nat) (listed : Array Bool) (a : Act) (w : World) (u : Value),(∀ w,(execOp a.eval o).run P w = .ok (.value u) w) → wpAny P .any l.toArray Q' f (listed.setIfInBounds m true) (a.put (some d) u) w → wpOp P l.toArray Q' m (wpAny P .any l.toArray Q' f (listed.setIfInBounds m true)) a w := fun f listed a w u hu h => by
  unfold wpOp
  have : l.toArray[m]? = some o := by simp [hlm]
  rw [this]
  simp only []
  rw [if_pos (by unfold Region.wanted; rw [hg])]
  refine .inl ?_
  unfold Oper.wp
  rw [hu w,Oper.upon_value,hd]
  exact h
 have hre : ∀ (listed : Array Bool) (i : Nat),listed.size = l.length → i ≠ m → i ∈ Region.ready .any l.toArray listed → i ∈ Region.ready .any l.toArray (listed.setIfInBounds m true) := fun listed i hsz him hi => by
  obtain ⟨h1,h2,h3⟩ := (rdy (ops := l.toArray) (by simpa using hsz)).1 hi
  refine (rdy (ops := l.toArray) (by simpa using hsz)).2 ⟨h1,fun h => ?_,fun k hk => (Y2 (by omega)).2 (.inl (h3 k hk))⟩
  rcases (Y2 (by omega)).1 h with h | h
  ·exact h2 h
  ·exact him h
 intro f
 induction f with
 | zero =>
  intro listed a w u hu hsz hcl hm hp h
  refine ⟨fun e => ?_,fun i hi => ?_⟩
  ·have := hmr listed hsz hm hp
   rw [e] at this
   simp at this
  ·by_cases him : i = m
   ·subst him
    exact hmm 0 listed a w u hu h
   ·have := hre listed i hsz him hi
    rw [h.1] at this
    simp at this
 | succ f ih =>
  intro listed a w u hu hsz hcl hm hp h
  refine ⟨fun e => ?_,fun i hi => ?_⟩
  ·have := hmr listed hsz hm hp
   rw [e] at this
   simp at this
  ·by_cases him : i = m
   ·subst him
    exact hmm _ listed a w u hu h
   ·have h1 := h.2 i (hre listed i hsz him hi)
    obtain ⟨k1,k2,k3⟩ := (rdy (ops := l.toArray) (by simpa using hsz)).1 hi
    have k1' : i < l.length := by simpa using k1
    have hoi : l[i]? = some l[i] := List.getElem?_eq_getElem k1'
    obtain ⟨g1,g2,g3,g4⟩ := hot i _ him hoi
    have hbl : blindO d (l[i]).op = true := by
     rcases g4 with g4 | g4
     ·exact absurd (X8 hc hcl i k1' (by simpa using k3) m g4).1 hm
     ·exact g4
    have hoi' : l.toArray[i]? = some l[i] := by simp [k1']
    unfold wpOp at h1 ⊢
    rw [hoi'] at h1 ⊢
    simp only [] at h1 ⊢
    rw [if_pos (by unfold Region.wanted; rw [g1])] at h1 ⊢
    have g2 : (l[i]).dst ≠ some t := g2.resolve_right fun hh => k2 (X8 hc hcl m hml hp i hh).1
    have he : execOp (a.put (some d) u).eval l[i] = execOp a.eval l[i] := exec_blind hbl fun x hx => eval_put hx
    refine h1.imp (wp_blind hQ hbl g3 fun v D w' hK2 => ?_) fun hh => ⟨?_,hh.2⟩
    ·refine ih _ _ w' u (fun w2 => ?_) (by simpa using hsz) (fun j hj k hk => ?_) (fun hh => ?_) (fun k hk => (Y2 (by omega)).2 (.inl (hp k hk))) ?_
     ·rw [ho _ a.eval (eval_put_tmp (a := { a with defers := D }) g2)]
      exact hu w2
     ·rw [Y2 (by omega)] at hj ⊢
      rcases hj with hj | rfl
      ·exact .inl (hcl j hj k hk)
      ·exact .inl (by simpa using k3 k hk)
     ·rcases (Y2 (by omega)).1 hh with hh | hh
      ·exact hm hh
      ·exact him hh.symm
     ·rw [set_comm]
      have e2 := put_comm' (a := { a with defers := D }) (u := u) (v := v) g3
      rw [← e2]
      exact hK2
    ·have h2 := hh.1
     unfold Oper.asks at h2 ⊢
     rw [he] at h2
     exact h2
theorem head_any [hnp : NP Q] (hh : Heads P l A S M N ts obs hs) {tail : List Oper} (htl : tail = l.drop hs.length) (hal : AL P E l.toArray Q tail ⟨N,finR ts hs.reverse,obs ++ allO hs⟩) :
  ∀ (m : Nat) (listed : Array Bool) (a : Act) (w : World) (H : Hs) (F : Nat → Prop),listed.size = l.length → Clo l listed → (∀ t,hs.length ≤ t → t < l.length → ¬ Lst listed t) → RS w H F N ts obs hs (Lst listed) a → Since E w H F →
   m = ((List.range hs.length).filter fun j => !listed.getD j false).length → wpAny P .any l.toArray (fun e a' w' => ∃ st',Q e st' ∧ Rel E st' a' w') (m + tail.length) listed a w := by
 have hle := hh.le
 have hdone : ∀ (listed : Array Bool) (a : Act) (w : World) (H : Hs) (F : Nat → Prop),listed.size = l.length → Clo l listed → (∀ t,hs.length ≤ t → t < l.length → ¬ Lst listed t) → RS w H F N ts obs hs (Lst listed) a → Since E w H F → (∀ j,j < hs.length → Lst listed j) →
   wpAny P .any l.toArray (fun e a' w' => ∃ st',Q e st' ∧ Rel E st' a' w') tail.length listed a w := by
  intro listed a w H F hsz hcl hfree hr hsi hall
  refine tail_any hh.chk tail hs.length listed a w (Nat.le_refl _) (by rw [htl]; simp; omega) htl hsz (fun j hj => ⟨fun hl => Nat.lt_of_not_le fun hge => hfree j hge hj hl,fun hlt => hall j hlt⟩) hcl ?_
  exact hal.h a w ⟨H,F,hr.fin hh hall,hsi⟩
 intro m
 induction m with
 | zero =>
  intro listed a w H F hsz hcl hfree hr hsi hm
  rw [Nat.zero_add]
  refine hdone listed a w H F hsz hcl hfree hr hsi fun j hj => ?_
  have h1 := List.eq_nil_of_length_eq_zero hm.symm
  unfold Lst
  cases hb : listed.getD j false
  ·have : j ∈ (List.range hs.length).filter fun j => !listed.getD j false := List.mem_filter.2 ⟨by simpa using hj,by rw [hb]; rfl⟩
   rw [h1] at this
   simp at this
  ·rfl
 | succ m ih =>
  intro listed a w H F hsz hcl hfree hr hsi hm
  have hex : ∃ j,j < hs.length ∧ ¬ Lst listed j := by
   have h1 : (List.range hs.length).filter (fun j => !listed.getD j false) ≠ [] := fun e => by rw [e] at hm; simp at hm
   obtain ⟨j,hj⟩ := List.exists_mem_of_ne_nil _ h1
   obtain ⟨h2,h3⟩ := List.mem_filter.1 hj
   exact ⟨j,by simpa using h2,fun h => by unfold Lst at h; rw [h] at h3; cases h3⟩
  rw [show m + 1 + tail.length = (m + tail.length) + 1 by omega]
  by_cases hnow : ∃ x,x ∈ M.getD l.length [] ∧ ¬ Lst listed x ∧ ∀ k ∈ preAt l x,Lst listed k
  ·obtain ⟨x,hx1,hlm,hx3⟩ := hnow
   obtain ⟨hmn,hmb⟩ := hh.chk.late x hx1
   obtain ⟨o,t,d,h1,h2,h3,h4,h5',h6⟩ := lateB_spec hmb
   have hgi : hs[x]? = some hs[x] := List.getElem?_eq_getElem hmn
   obtain ⟨hd1,hd2,hq⟩ := hh.qt x _ _ h1 hgi
   have hml : x < l.length := by omega
   have hcnt := cnt_set (n := hs.length) (listed := listed) hmn (by omega) hlm
   have hq2 := hq.h a w H F (fun e a' w' => ∃ st',Q e st' ∧ Rel E st' a' w') (fun a' w' => ∃ H' F',RS w' H' F' N ts obs hs (Lst (listed.setIfInBounds x true)) a' ∧ Since E w' H' F') (hr.r0 hh hsz hcl hgi hlm hx3) (fun q hq => hr.nil x _ q hlm hgi hq) fun v w' H' F' g hok hob hno hv => by
    refine ⟨H',F',?_,hsi.grow g⟩
    rw [hd1]
    have h6 := hr.step hh hgi hd2 g hok hob hno hv
    have h7 : (fun j => Lst listed j ∨ j = x) = Lst (listed.setIfInBounds x true) := by
     funext j
     exact propext (Y2 (by omega)).symm
    rwa [h7] at h6
   rw [if_pos (by unfold Region.wanted; rw [h4])] at hq2
   unfold Oper.wp at hq2
   rcases srcO_run (P := P) h2 a.eval with ⟨u,hu⟩ | hst
   ·rw [hu w,Oper.upon_value,h3] at hq2
    obtain ⟨H',F',hr',hsi'⟩ : ∃ H' F',RS w H' F' N ts obs hs (Lst (listed.setIfInBounds x true)) (a.put (some d) u) ∧ Since E w H' F' := hq2
    refine hoist hh.chk h1 (srcO_exec h2) h3 h4 h6 (fun c a w ⟨st',hq,_⟩ => hnp.no c st' hq) _ listed a w u hu hsz hcl hlm hx3 ?_
    refine ih _ _ w H' F' (by simpa using hsz) (fun j hj k hk => ?_) (fun t ht1 ht2 ht3 => ?_) hr' hsi' (by omega)
    ·rw [Y2 (by omega)] at hj ⊢
     rcases hj with hj | rfl
     ·exact .inl (hcl j hj k hk)
     ·exact .inl (hx3 k hk)
    ·rw [Y2 (by omega)] at ht3
     rcases ht3 with h | h
     ·exact hfree t ht1 ht2 h
     ·omega
   ·obtain ⟨y,hy⟩ := hst w
    rw [hy] at hq2
    exact absurd hq2 (by simp [Oper.upon])
  refine ⟨fun e => ?_,fun i hi => ?_⟩
  ·obtain ⟨j,h1,h2⟩ := hex
   obtain ⟨i,h3,h4,h5⟩ := min_ready hh.chk hsz ⟨j,by omega,h2⟩
   have : i ∈ Region.ready .any l.toArray listed := (rdy (ops := l.toArray) (by simpa using hsz)).2 ⟨by simpa using h3,h4,by simpa using h5⟩
   rw [e] at this
   simp at this
  ·obtain ⟨h1,h2,h3⟩ := (rdy (ops := l.toArray) (by simpa using hsz)).1 hi
   have h1' : i < l.length := by simpa using h1
   have h3' : ∀ k ∈ preAt l i,Lst listed k := by simpa using h3
   have hin : i < hs.length := by
    rcases Nat.lt_or_ge i hs.length with h | h
    ·exact h
    ·obtain ⟨j,h4,h5⟩ := hex
     refine absurd ?_ h5
     have hdesc : ∀ j,j < hs.length → Lst listed j := by
      intro j
      induction j using Nat.strongRecOn with
      | _ j ihj =>
       intro hj
       refine Classical.byContradiction fun hn => ?_
       rcases hh.chk.tail i h1' h j (by omega) with h6 | h6
       ·exact hn (X8 hh.chk hcl i h1' h3' j h6).1
       ·exact hnow ⟨j,h6,hn,fun k hk => ihj k (hh.chk.down j (by omega) k hk) (by have := hh.chk.down j (by omega) k hk; omega)⟩
     exact hdesc j h4
   have hoi : l[i]? = some l[i] := List.getElem?_eq_getElem h1'
   have hgi : hs[i]? = some hs[i] := List.getElem?_eq_getElem hin
   obtain ⟨hd1,hd2,hq⟩ := hh.qt i _ _ hoi hgi
   have hoi' : l.toArray[i]? = some l[i] := by simp [h1']
   unfold wpOp
   simp only [hoi']
   have hq2 := hq.h a w H F (fun e a' w' => ∃ st',Q e st' ∧ Rel E st' a' w') (wpAny P .any l.toArray (fun e a' w' => ∃ st',Q e st' ∧ Rel E st' a' w') (m + tail.length) (listed.setIfInBounds i true)) (hr.r0 hh hsz hcl hgi h2 h3') (fun q hq => hr.nil i _ q h2 hgi hq) fun v w' H' F' g hok hob hno hv => by
    rw [hd1]
    refine ih _ _ w' H' F' (by simpa using hsz) (fun j hj k hk => ?_) (fun t ht1 ht2 ht3 => ?_) ?_ (hsi.grow g) ?_
    ·rw [Y2 (by omega)] at hj ⊢
     rcases hj with hj | rfl
     ·exact .inl (hcl j hj k hk)
     ·exact .inl (h3' k hk)
    ·rw [Y2 (by omega)] at ht3
     rcases ht3 with h | h
     ·exact hfree t ht1 ht2 h
     ·omega
    ·have h6 := hr.step hh hgi hd2 g hok hob hno hv
     have h7 : (fun j => Lst listed j ∨ j = i) = Lst (listed.setIfInBounds i true) := by
      funext j
      exact propext (Y2 (by omega)).symm
     rwa [h7] at h6
    ·have h9 := cnt_set (n := hs.length) (listed := listed) hin (by omega) h2
     omega
   split
   ·rename_i hw
    rw [if_pos hw] at hq2
    exact .inl hq2
   ·rename_i hw
    rw [if_neg hw] at hq2
    exact hq2
end

theorem Xi {id : Nat} [NP Q] (A S M : List (List Nat)) (hm : P.follows .mixedOrders = true) (h : DR P E l A S M Q N ts obs S M [] 0 0 l) : AWP P E (.region id l.toArray true) Q ⟨N,ts,obs⟩ := by
 obtain ⟨hs,tail,h1,h2,h3,h3',h4,h5,h6,h7⟩ := h.out rfl rfl
 simp only [List.length_nil,Nat.sub_zero] at h3 h3' h7
 have hle : hs.length ≤ l.length := by
  rw [List.length_take] at h3'
  omega
 have htl : tail = l.drop hs.length := by
  have h8 : l.take hs.length ++ tail = l.take hs.length ++ l.drop hs.length := by rw [← h3,List.take_append_drop]
  exact List.append_cancel_left h8
 have hh : Heads P l A S M N ts obs hs := ⟨drawB_spec h4,h5,hle,fun i o hd h8 h9 => by
  obtain ⟨a,m,g1,g2,g3,g4,g5⟩ := h7 i o hd (Nat.zero_le _) h8 h9
  refine ⟨g3,g4,?_⟩
  rw [Yt g1,Yt g2]
  exact g5⟩
 refine ⟨fun a w ⟨H,F,hr,hsi⟩ => wp_region_any hm ?_⟩
 have hgr : Grow w H F { w with drawn := w.drawn + 1 } H F := ⟨(Below.refl _ _).drew,fun _ _ => rfl,fun _ h => h,fun _ h => .inl h,fun p hp b hb => by rw [hp] at hb; simp [Pc.fp] at hb,fun p i v h => ⟨p,h⟩⟩
 have hout : ∀ p,obs.length ≤ p → H p = .nil := fun p hp => by
  have := hr.obs p
  simpa [List.getD_eq_getElem?_getD,hp,RB] using this
 have hno : ∀ j,¬ Lst (Array.replicate l.length false) j := fun j hj => by
  unfold Lst at hj
  rw [Array.getD_eq_getD_getElem?,Array.getElem?_replicate] at hj
  split at hj <;> simp at hj
 have hok : Ok { w with drawn := w.drawn + 1 } H F := ⟨fun p => Pc.frame (w := w) (fun _ _ => rfl) (hr.ok.says p),hr.ok.nodup,hr.ok.disj,hr.ok.free,hr.ok.flt⟩
 have hrs : RS { w with drawn := w.drawn + 1 } H F N ts obs hs (Lst (Array.replicate l.length false)) a :=
  ⟨hok,fun p ob hp => rb_grow hgr (fun h => h) (by have := hr.obs p; rwa [Yt hp] at this),fun j h q ob hj => absurd hj (hno j),fun j h q _ hj hq => hout _ (by omega),fun p hp => hout p (by omega),fun d _ => hgr.rv (hr.tmp d),fun j h hj => absurd hj (hno j),hr.size,hr.defers⟩
 have hfin := head_any hh htl h6 hs.length (Array.replicate l.length false) a { w with drawn := w.drawn + 1 } H F (by simp) (fun i hi => absurd hi (hno i)) (fun t _ _ => hno t) hrs (hsi.grow hgr) (by
  rw [List.filter_eq_self.2 (fun j _ => by
   cases hb : (Array.replicate l.length false).getD j false
   ·rfl
   ·exact absurd hb (hno j))]
  simp)
 have hsum : hs.length + tail.length = l.toArray.size := by rw [htl]; simp; omega
 rw [hsum] at hfin
 simpa using hfin
end
def u9 : Nat → List Nat
 | 0 => []
 | n + 1 => u9 n ++ [n]
def u8_0 : List (List Nat) := [[],[0],[0,1],[0,1,2],(u9 4),(u9 5),(u9 6),(u9 5),[0,1,2,3,4,7],(u9 9),(u9 10),(u9 11),(u9 12),(u9 13),(u9 13),[0,1,2,3,4,5,6,7,8,9,10,11,12,14],(u9 13),[0,1,2,3,4,5,6,7,8,9,10,11,12,16],(u9 13),[0,1,2,3,4,5,6,7,8,9,10,11,12,18],[0,1,2,3,4,5,6,7,8,9,10,11,12,18,19],(u9 21),(u9 22),(u9 23),(u9 24),(u9 25),(u9 26),(u9 27),(u9 28),(u9 29),(u9 30),(u9 31),(u9 32),(u9 33),(u9 34)]
def u8_1 : List (List Nat) := [[],[7],[7,8],[7,8,9],[7,8,9,10],[7,8,9,10,11],[7,8,9,10,11,12],[7,8,9,10,11],[7,8,9,10,11,14],[7,8,9,10,11,12,13,14,15],[7,8,9,10,11,12,13,14,15,16],[7,8,9,10,11,12,13,14,15,16,17],[7,8,9,10,11,12,13,14,15,16,17,18],[7,8,9,10,11,12,13,14,15,16,17,18,19],[7,8,9,10,11,12,13,14,15,16,17,18,19],[7,8,9,10,11,12,13,14,15,16,17,18,19,21],[7,8,9,10,11,12,13,14,15,16,17,18,19],[7,8,9,10,11,12,13,14,15,16,17,18,19,23],[7,8,9,10,11,12,13,14,15,16,17,18,19],[7,8,9,10,11,12,13,14,15,16,17,18,19,25],[7,8,9,10,11,12,13,14,15,16,17,18,19,25,26],[7,8,9,10,11,12,13,14,15,16,17,18,19,20,21,22,23,24,25,26,27],[7,8,9,10,11,12,13,14,15,16,17,18,19,20,21,22,23,24,25,26,27,28],[7,8,9,10,11,12,13,14,15,16,17,18,19,20,21,22,23,24,25,26,27,28,29],[7,8,9,10,11,12,13,14,15,16,17,18,19,20,21,22,23,24,25,26,27,28,29,30],[7,8,9,10,11,12,13,14,15,16,17,18,19,20,21,22,23,24,25,26,27,28,29,30,31],[7,8,9,10,11,12,13,14,15,16,17,18,19,20,21,22,23,24,25,26,27,28,29,30,31,32],[7,8,9,10,11,12,13,14,15,16,17,18,19,20,21,22,23,24,25,26,27,28,29,30,31,32,33],[7,8,9,10,11,12,13,14,15,16,17,18,19,20,21,22,23,24,25,26,27,28,29,30,31,32,33,34],[7,8,9,10,11,12,13,14,15,16,17,18,19,20,21,22,23,24,25,26,27,28,29,30,31,32,33,34,35],[7,8,9,10,11,12,13,14,15,16,17,18,19,20,21,22,23,24,25,26,27,28,29,30,31,32,33,34,35,36],[7,8,9,10,11,12,13,14,15,16,17,18,19,20,21,22,23,24,25,26,27,28,29,30,31,32,33,34,35,36,37],[7,8,9,10,11,12,13,14,15,16,17,18,19,20,21,22,23,24,25,26,27,28,29,30,31,32,33,34,35,36,37,38],[7,8,9,10,11,12,13,14,15,16,17,18,19,20,21,22,23,24,25,26,27,28,29,30,31,32,33,34,35,36,37,38,39],[7,8,9,10,11,12,13,14,15,16,17,18,19,20,21,22,23,24,25,26,27,28,29,30,31,32,33,34,35,36,37,38,39,40]]
def u8_2 : List (List Nat) := [[],[],[],[],[],[14,15],[14,15],[12,13],[12,13],[],[],[],[],[21,22,23,24,25,26,27],[20,23,24,25,26,27],[20,23,24,25,26,27],[20,21,22,25,26,27],[20,21,22,25,26,27],[20,21,22,23,24],[20,21,22,23,24],[20,21,22,23,24],[],[],[],[],[],[],[],[],[],[],[],[],[],[]]
def u8_3 : List (List Nat) := [[],[],[1],[],[3],[],[5],[5,6],(u9 8)]
def u8_4 : List (List Nat) := [[],[],[40],[],[42],[],[44],[44,45],[39,40,41,42,43,44,45,46]]
def u8_5 : List (List Nat) := [[40,41,42,43,44,45,46],[39,42,43,44,45,46],[39,42,43,44,45,46],[39,40,41,44,45,46],[39,40,41,44,45,46],[39,40,41,42,43],[39,40,41,42,43],[39,40,41,42,43],[]]
def u8_6 : List (List Nat) := [[],[],[1],[0,1,2],(u9 4),(u9 5),(u9 5),(u9 7),(u9 8),(u9 5),(u9 5),[0,1,2,3,4,9,10],[0,1,2,3,4,9,10,11],(u9 13),(u9 14)]
def u8_7 : List (List Nat) := [[],[],[20],[19,20,21],[19,20,21,22],[19,20,21,22,23],[19,20,21,22,23],[19,20,21,22,23,24,25],[19,20,21,22,23,24,25,26],[19,20,21,22,23],[19,20,21,22,23],[19,20,21,22,23,28,29],[19,20,21,22,23,28,29,30],[19,20,21,22,23,24,25,26,27,28,29,30,31],[19,20,21,22,23,24,25,26,27,28,29,30,31,32]]
def u8_8 : List (List Nat) := [[20,21],[19],[19],[],[],[25,28,29,30,31],[24,28,29,30,31],[28,29,30,31],[28,29,30,31],[24,25,26,27,29],[24,25,26,27,28],[24,25,26,27],[24,25,26,27],[],[]]
def u8_9 : List (List Nat) := [[],[0],[0,1],[0,1,2],(u9 4),[],[5],[5,6],[5,6,7],[5,6,7,8],(u9 10),(u9 11),(u9 12)]
def u8_10 : List (List Nat) := [[],[13],[13,14],[13,14,15],[13,14,15,16],[],[18],[18,19],[18,19,20],[18,19,20,21],[13,14,15,16,17,18,19,20,21,22],[13,14,15,16,17,18,19,20,21,22,23],[13,14,15,16,17,18,19,20,21,22,23,24]]
def u8_11 : List (List Nat) := [[18,19,20,21,22],[18,19,20,21,22],[18,19,20,21,22],[18,19,20,21,22],[18,19,20,21,22],[13,14,15,16,17],[13,14,15,16,17],[13,14,15,16,17],[13,14,15,16,17],[13,14,15,16,17],[],[],[]]
def u8_12 : List (List Nat) := [[],[0],[0,1],[0,1,2],[],[4],[4,5],[4,5,6],[4,5,6,7],(u9 9)]
def u8_13 : List (List Nat) := [[],[25],[25,26],[25,26,27],[],[29],[29,30],[29,30,31],[29,30,31,32],[25,26,27,28,29,30,31,32,33]]
def u8_14 : List (List Nat) := [[29,30,31,32,33],[29,30,31,32,33],[29,30,31,32,33],[29,30,31,32,33],[25,26,27,28],[25,26,27,28],[25,26,27,28],[25,26,27,28],[25,26,27,28],[],[0]]
def u8_15 : List (List Nat) := [[],[],[1],[],[1,2,3],[0],(u9 6)]
def u8_16 : List (List Nat) := [[],[0],[0,1],[0,1,2],(u9 4),(u9 4),[0,1,2,3,5],(u9 4),[0,1,2,3,7],[0,1,2,3,7,8],(u9 4),(u9 11),(u9 12)]
def u8_17 : List (List Nat) := [[],[71],[71,72],[71,72,73],[71,72,73,74],[71,72,73,74],[71,72,73,74,76],[71,72,73,74],[71,72,73,74,78],[71,72,73,74,78,79],[71,72,73,74],[71,72,73,74,75,76,77,78,79,80,81],[71,72,73,74,75,76,77,78,79,80,81,82]]
def u8_18 : List (List Nat) := [[],[],[],[],[76,77,78,79,80,81],[75,78,79,80,81],[75,78,79,80,81],[75,76,77,81],[75,76,77,81],[75,76,77,81],[75,76,77,78,79,80],[],[]]
def u8_19 : List (List Nat) := [[],[0],[0,1],[0,1,2],(u9 4),(u9 4),[0,1,2,3,5],(u9 4),[0,1,2,3,7],[0,1,2,3,7,8],(u9 4),[0,1,2,3,10],[0,1,2,3,10,11],(u9 13),(u9 14)]
def u8_20 : List (List Nat) := [[],[36],[36,37],[36,37,38],[36,37,38,39],[36,37,38,39],[36,37,38,39,41],[36,37,38,39],[36,37,38,39,43],[36,37,38,39,43,44],[36,37,38,39],[36,37,38,39,46],[36,37,38,39,46,47],[36,37,38,39,40,41,42,43,44,45,46,47,48],[36,37,38,39,40,41,42,43,44,45,46,47,48,49]]
def u8_21 : List (List Nat) := [[],[],[],[],[41,42,43,44,45,46,47,48],[40,43,44,45,46,47,48],[40,43,44,45,46,47,48],[40,41,42,46,47,48],[40,41,42,46,47,48],[40,41,42,46,47,48],[40,41,42,43,44,45],[40,41,42,43,44,45],[40,41,42,43,44,45],[],[]]
def u8_22 : List (List Nat) := [[],[],[0,1],[0,1,2],(u9 4),(u9 5),(u9 6),(u9 7),(u9 4),(u9 9),(u9 10),(u9 11),(u9 12),(u9 13),(u9 14),(u9 15),(u9 16),(u9 17),(u9 18),(u9 15),(u9 20),(u9 21),(u9 15),(u9 23),(u9 24)]
def u8_23 : List (List Nat) := [[],[],[16,17],[16,17,18],[16,17,18,19],[16,17,18,19,20],[16,17,18,19,20,21],[16,17,18,19,20,21,22],[16,17,18,19],[16,17,18,19,20,21,22,23,24],[16,17,18,19,20,21,22,23,24,25],[16,17,18,19,20,21,22,23,24,25,26],[16,17,18,19,20,21,22,23,24,25,26,27],[16,17,18,19,20,21,22,23,24,25,26,27,28],[16,17,18,19,20,21,22,23,24,25,26,27,28,29],[16,17,18,19,20,21,22,23,24,25,26,27,28,29,30],[16,17,18,19,20,21,22,23,24,25,26,27,28,29,30,31],[16,17,18,19,20,21,22,23,24,25,26,27,28,29,30,31,32],[16,17,18,19,20,21,22,23,24,25,26,27,28,29,30,31,32,33],[16,17,18,19,20,21,22,23,24,25,26,27,28,29,30],[16,17,18,19,20,21,22,23,24,25,26,27,28,29,30,31,32,33,34,35],[16,17,18,19,20,21,22,23,24,25,26,27,28,29,30,31,32,33,34,35,36],[16,17,18,19,20,21,22,23,24,25,26,27,28,29,30],[16,17,18,19,20,21,22,23,24,25,26,27,28,29,30,31,32,33,34,35,36,37,38],[16,17,18,19,20,21,22,23,24,25,26,27,28,29,30,31,32,33,34,35,36,37,38,39]]
def u8_24 : List (List Nat) := [[17],[16],[],[],[24],[24],[24],[24],[20,21,22,23],[],[],[],[],[],[],[35,38],[35,38],[35,38],[35,38],[31,32,33,34,38],[38],[38],[31,32,33,34,35,36,37],[],[]]
def u8_25 : List (List Nat) := [[],[],[17,18],[17,18,19],[17,18,19,20],[17,18,19,20,21],[17,18,19,20,21,22],[17,18,19,20,21,22,23],[17,18,19,20],[17,18,19,20,21,22,23,24,25],[17,18,19,20,21,22,23,24,25,26],[17,18,19,20,21,22,23,24,25,26,27],[17,18,19,20,21,22,23,24,25,26,27,28],[17,18,19,20,21,22,23,24,25,26,27,28,29],[17,18,19,20,21,22,23,24,25,26,27,28,29,30],[17,18,19,20,21,22,23,24,25,26,27,28,29,30,31],[17,18,19,20,21,22,23,24,25,26,27,28,29,30,31,32],[17,18,19,20,21,22,23,24,25,26,27,28,29,30,31,32,33],[17,18,19,20,21,22,23,24,25,26,27,28,29,30,31,32,33,34],[17,18,19,20,21,22,23,24,25,26,27,28,29,30,31],[17,18,19,20,21,22,23,24,25,26,27,28,29,30,31,32,33,34,35,36],[17,18,19,20,21,22,23,24,25,26,27,28,29,30,31,32,33,34,35,36,37],[17,18,19,20,21,22,23,24,25,26,27,28,29,30,31],[17,18,19,20,21,22,23,24,25,26,27,28,29,30,31,32,33,34,35,36,37,38,39],[17,18,19,20,21,22,23,24,25,26,27,28,29,30,31,32,33,34,35,36,37,38,39,40]]
def u8_26 : List (List Nat) := [[18],[17],[],[],[25],[25],[25],[25],[21,22,23,24],[],[],[],[],[],[],[36,39],[36,39],[36,39],[36,39],[32,33,34,35,39],[39],[39],[32,33,34,35,36,37,38],[],[]]
def u8_27 : List (List Nat) := [[],[0],[0,1],[0,1,2],[],[],(u9 6),(u9 7)]
def u8_28 : List (List Nat) := [[],[39],[39,40],[39,40,41],[],[],[39,40,41,42,43,44],[39,40,41,42,43,44,45]]
def u8_29 : List (List Nat) := [[43,44],[43,44],[43,44],[43,44],[39,40,41,42,44],[39,40,41,42,43],[],[]]
def u8_30 : List (List Nat) := [[],[],[1],[1,2],[1,2,3],[],[5],[5,6],[1,2,3,4,5,6,7],(u9 9),(u9 10),(u9 11)]
def u8_31 : List (List Nat) := [[],[0],[0,1],[0,1,2],[],(u9 5),(u9 6),(u9 7),(u9 7),[],[0,1,2,3,4,5,6,7,9],(u9 11)]
def u8_32 : List (List Nat) := [[],[0],[0,1],[0,1,2],[],[4],[4,5],[4,5,6],[4,5,6,7],(u9 9),(u9 10),[]]
def u8_33 : List (List Nat) := [[],[],[1],[1,2],[1,2,3],[],[5],[5,6],[5,6,7],[5,6,7,8],[1,2,3,4,5,6,7,8,9],[],[1,2,3,4,5,6,7,8,9,10,11],(u9 13),(u9 14),(u9 15)]
def u8_34 : List (List Nat) := [[],[149],[149,150],[149,150,151],[],[149,150,151,152,153],[149,150,151,152,153,154],[148,149,150,151,152,153,154],[148,149,150,151,152,153,154],[],[11,148,149,150,151,152,153,154,155],[11,148,149,150,151,152,153,154,155,156]]
def u8_35 : List (List Nat) := [[11,153],[11,153],[11,153],[11,153],[11,149,150,151,152],[11],[11],[11,156],[11,155],[148,149,150,151,152,153,154,155,156],[156],[],[8]]
def u8_36 : List (List Nat) := [[],[0],[0,1],[0,1,2],[],(u9 5),(u9 6),(u9 7),(u9 8),(u9 9),(u9 10),(u9 11),(u9 12),(u9 13),(u9 10),(u9 15),(u9 16),(u9 17),(u9 10),(u9 10),[0,1,2,3,4,5,6,7,8,9,18,19],[0,1,2,3,4,5,6,7,8,9,18,19,20],[0,1,2,3,4,5,6,7,8,9,18,19,20,21],[0,1,2,3,4,5,6,7,8,9,18,19,20,21,22],(u9 24),(u9 25),(u9 26),(u9 27),(u9 28),(u9 29),(u9 30),(u9 27),(u9 32),(u9 33),(u9 34),(u9 27),(u9 27),[0,1,2,3,4,5,6,7,8,9,10,11,12,13,14,15,16,17,18,19,20,21,22,23,24,25,26,35,36],[0,1,2,3,4,5,6,7,8,9,10,11,12,13,14,15,16,17,18,19,20,21,22,23,24,25,26,35,36,37],[0,1,2,3,4,5,6,7,8,9,10,11,12,13,14,15,16,17,18,19,20,21,22,23,24,25,26,35,36,37,38],[0,1,2,3,4,5,6,7,8,9,10,11,12,13,14,15,16,17,18,19,20,21,22,23,24,25,26,35,36,37,38,39],(u9 41),(u9 42)]
def u8_37 : List (List Nat) := [[],[243],[243,244],[243,244,245],[],[243,244,245,246,247],[243,244,245,246,247,248],[243,244,245,246,247,248,249],[243,244,245,246,247,248,249,250],[243,244,245,246,247,248,249,250,251],[243,244,245,246,247,248,249,250,251,252],[243,244,245,246,247,248,249,250,251,252,253],[243,244,245,246,247,248,249,250,251,252,253,254],[243,244,245,246,247,248,249,250,251,252,253,254,255],[243,244,245,246,247,248,249,250,251,252],[243,244,245,246,247,248,249,250,251,252,253,254,255,256,257],[243,244,245,246,247,248,249,250,251,252,253,254,255,256,257,258],[243,244,245,246,247,248,249,250,251,252,253,254,255,256,257,258,259],[243,244,245,246,247,248,249,250,251,252],[243,244,245,246,247,248,249,250,251,252],[243,244,245,246,247,248,249,250,251,252,261,262],[243,244,245,246,247,248,249,250,251,252,261,262,263],[243,244,245,246,247,248,249,250,251,252,261,262,263,264],[243,244,245,246,247,248,249,250,251,252,261,262,263,264,265],[243,244,245,246,247,248,249,250,251,252,253,254,255,256,257,258,259,260,261,262,263,264,265,266],[243,244,245,246,247,248,249,250,251,252,253,254,255,256,257,258,259,260,261,262,263,264,265,266,267],[243,244,245,246,247,248,249,250,251,252,253,254,255,256,257,258,259,260,261,262,263,264,265,266,267,268],[243,244,245,246,247,248,249,250,251,252,253,254,255,256,257,258,259,260,261,262,263,264,265,266,267,268,269],[243,244,245,246,247,248,249,250,251,252,253,254,255,256,257,258,259,260,261,262,263,264,265,266,267,268,269,270],[243,244,245,246,247,248,249,250,251,252,253,254,255,256,257,258,259,260,261,262,263,264,265,266,267,268,269,270,271],[243,244,245,246,247,248,249,250,251,252,253,254,255,256,257,258,259,260,261,262,263,264,265,266,267,268,269,270,271,272],[243,244,245,246,247,248,249,250,251,252,253,254,255,256,257,258,259,260,261,262,263,264,265,266,267,268,269],[243,244,245,246,247,248,249,250,251,252,253,254,255,256,257,258,259,260,261,262,263,264,265,266,267,268,269,270,271,272,273,274],[243,244,245,246,247,248,249,250,251,252,253,254,255,256,257,258,259,260,261,262,263,264,265,266,267,268,269,270,271,272,273,274,275],[243,244,245,246,247,248,249,250,251,252,253,254,255,256,257,258,259,260,261,262,263,264,265,266,267,268,269,270,271,272,273,274,275,276],[243,244,245,246,247,248,249,250,251,252,253,254,255,256,257,258,259,260,261,262,263,264,265,266,267,268,269],[243,244,245,246,247,248,249,250,251,252,253,254,255,256,257,258,259,260,261,262,263,264,265,266,267,268,269],[243,244,245,246,247,248,249,250,251,252,253,254,255,256,257,258,259,260,261,262,263,264,265,266,267,268,269,278,279],[243,244,245,246,247,248,249,250,251,252,253,254,255,256,257,258,259,260,261,262,263,264,265,266,267,268,269,278,279,280],[243,244,245,246,247,248,249,250,251,252,253,254,255,256,257,258,259,260,261,262,263,264,265,266,267,268,269,278,279,280,281],[243,244,245,246,247,248,249,250,251,252,253,254,255,256,257,258,259,260,261,262,263,264,265,266,267,268,269,278,279,280,281,282],[243,244,245,246,247,248,249,250,251,252,253,254,255,256,257,258,259,260,261,262,263,264,265,266,267,268,269,270,271,272,273,274,275,276,277,278,279,280,281,282,283],[243,244,245,246,247,248,249,250,251,252,253,254,255,256,257,258,259,260,261,262,263,264,265,266,267,268,269,270,271,272,273,274,275,276,277,278,279,280,281,282,283,284]]
def u8_38 : List (List Nat) := [[247],[247],[247],[247],[243,244,245,246],[],[],[],[],[],[257,261,262,263,264,265,266],[257,261,262,263,264,265,266],[257,261,262,263,264,265,266],[257,261,262,263,264,265,266],[253,254,255,256,261,262,263,264,265,266],[261,262,263,264,265,266],[261,262,263,264,265,266],[261,262,263,264,265,266],[253,254,255,256,257,258,259,260,262],[253,254,255,256,257,258,259,260,261],[253,254,255,256,257,258,259,260],[253,254,255,256,257,258,259,260],[253,254,255,256,257,258,259,260],[253,254,255,256,257,258,259,260],[],[],[],[274,278,279,280,281,282,283],[274,278,279,280,281,282,283],[274,278,279,280,281,282,283],[274,278,279,280,281,282,283],[270,271,272,273,278,279,280,281,282,283],[278,279,280,281,282,283],[278,279,280,281,282,283],[278,279,280,281,282,283],[270,271,272,273,274,275,276,277,279],[270,271,272,273,274,275,276,277,278],[270,271,272,273,274,275,276,277],[270,271,272,273,274,275,276,277],[270,271,272,273,274,275,276,277],[270,271,272,273,274,275,276,277],[],[]]
def u8_39 : List (List Nat) := [[],[],[],[2],[2,3],[],[5],[5,6],(u9 8),(u9 9),(u9 10),(u9 10),(u9 10),(u9 11),[0,1,2,3,4,5,6,7,8,9,10,11,13],(u9 15)]
def u8_40 : List (List Nat) := [[],[],[],[55],[55,56],[],[58],[58,59],[53,54,55,56,57,58,59,60],[53,54,55,56,57,58,59,60,61],[52,53,54,55,56,57,58,59,60,61],[52,53,54,55,56,57,58,59,60,61],[52,53,54,55,56,57,58,59,60,61],[52,53,54,55,56,57,58,59,60,61,62],[9,52,53,54,55,56,57,58,59,60,61,62,63],[9,10,52,53,54,55,56,57,58,59,60,61,62,63,64]]
def u8_41 : List (List Nat) := [[54,55,56,57,58,59,60],[53,55,56,57,58,59,60],[53,54,58,59,60],[53,54,58,59,60],[53,54,58,59,60],[53,54,55,56,57],[53,54,55,56,57],[53,54,55,56,57],[],[],[63,64],[9,62,64],[9,10,62,63],[63,64],[64],[]]
def u8_42 : List (List Nat) := [[],[],[0,1],[0,1,2],[],[],[4,5],[4,5,6],(u9 8)]
def u8_43 : List (List Nat) := [[],[],[17,18],[17,18,19],[],[],[21,22],[21,22,23],[17,18,19,20,21,22,23,24]]
def u8_44 : List (List Nat) := [[18,21,22,23,24],[17,21,22,23,24],[21,22,23,24],[21,22,23,24],[17,18,19,20,22],[17,18,19,20,21],[17,18,19,20],[17,18,19,20],[]]
def u8_45 : List (List Nat) := [[],[0],[],[0,1,2],(u9 4),[],[5],[],[5,6,7],[5,6,7,8],(u9 10)]
def u8_46 : List (List Nat) := [[],[20],[],[20,21,22],[20,21,22,23],[],[25],[],[25,26,27],[25,26,27,28],[20,21,22,23,24,25,26,27,28,29]]
def u8_47 : List (List Nat) := [[22,25,26,27,28,29],[22,25,26,27,28,29],[20,21,25,26,27,28,29],[25,26,27,28,29],[25,26,27,28,29],[20,21,22,23,24,27],[20,21,22,23,24,27],[20,21,22,23,24,25,26],[20,21,22,23,24],[20,21,22,23,24],[]]
def u8_48 : List (List Nat) := [[],[50],[],[50,51,52],[50,51,52,53],[],[55],[],[55,56,57],[55,56,57,58],[50,51,52,53,54,55,56,57,58,59]]
def u8_49 : List (List Nat) := [[52,55,56,57,58,59],[52,55,56,57,58,59],[50,51,55,56,57,58,59],[55,56,57,58,59],[55,56,57,58,59],[50,51,52,53,54,57],[50,51,52,53,54,57],[50,51,52,53,54,55,56],[50,51,52,53,54],[50,51,52,53,54],[]]
def u8_50 : List (List Nat) := [[],[],[0,1],[0,1,2],[],[],[4,5],[4,5,6],(u9 8),(u9 9)]
def u8_51 : List (List Nat) := [[],[],[17,18],[17,18,19],[],[],[21,22],[21,22,23],[17,18,19,20,21,22,23,24],[17,18,19,20,21,22,23,24,25]]
def u8_52 : List (List Nat) := [[18,21,22,23,24],[17,21,22,23,24],[21,22,23,24],[21,22,23,24],[17,18,19,20,22],[17,18,19,20,21],[17,18,19,20],[17,18,19,20],[],[]]
end
section
open Go.RowKit

def splice {α : Type} (e : List α) (j : Nat) (ts : List α) : List α := e.take j ++ ts ++ e.drop (j + ts.length)
theorem splice_len {α : Type} {e ts : List α} {j : Nat} (h : j + ts.length ≤ e.length) : (splice e j ts).length = e.length := by
 simp [splice]; omega
theorem splice_at {α : Type} {e ts : List α} {j : Nat} (h : j + ts.length ≤ e.length) (q : Nat) : (splice e j ts)[q]? = if j ≤ q ∧ q < j + ts.length then ts[q - j]? else e[q]? := by
 unfold splice
 have htk : (e.take j).length = j := by simp; omega
 rw [List.append_assoc,List.getElem?_append,htk]
 split
 ·rw [if_neg (by omega),List.getElem?_take,if_pos (by omega)]
 ·rw [List.getElem?_append]
  split
  ·rw [if_pos (by omega)]
  ·rw [if_neg (by omega),List.getElem?_drop]
   congr 1
   omega
theorem nodup_mid {X Y Z Y' : List Nat} (h : (X ++ Y ++ Z).Nodup) (h' : Y'.Nodup) (hd : ∀ b ∈ X ++ Y ++ Z,b ∉ Y') : (X ++ Y' ++ Z).Nodup := by
 rw [List.nodup_append] at h ⊢
 obtain ⟨h1,h2,h3⟩ := h
 rw [List.nodup_append] at h1 ⊢
 obtain ⟨h4,h5,h6⟩ := h1
 refine ⟨⟨h4,h',fun a ha b hb e => hd a (by simp [ha]) (e ▸ hb)⟩,h2,fun a ha b hb e => ?_⟩
 rcases List.mem_append.1 ha with ha | ha
 ·exact h3 a (by simp [ha]) b hb e
 ·exact hd b (by simp [hb]) (e ▸ ha)
theorem flat_set {fps : List (List (List Nat))} {i j : Nat} {f fs : List (List Nat)} (hi : fps[i]? = some f) : ∃ X Y Z : List Nat,fps.flatten.flatten = X ++ Y ++ Z ∧ (fps.set i (splice f j fs)).flatten.flatten = X ++ fs.flatten ++ Z := by
 obtain ⟨hlt,he⟩ := List.getElem?_eq_some_iff.1 hi
 refine ⟨(fps.take i).flatten.flatten ++ (f.take j).flatten,((f.drop j).take fs.length).flatten,(f.drop (j + fs.length)).flatten ++ (fps.drop (i + 1)).flatten.flatten,?_,?_⟩
 ·conv => lhs; rw [← List.take_append_drop i fps,List.drop_eq_getElem_cons hlt,he]
  have hf : f.flatten = (f.take j).flatten ++ ((f.drop j).take fs.length).flatten ++ (f.drop (j + fs.length)).flatten := by
   rw [← List.flatten_append,← List.flatten_append]
   congr 1
   conv => lhs; rw [← List.take_append_drop j f,← List.take_append_drop fs.length (f.drop j),List.drop_drop]
   rw [List.append_assoc]
  rw [List.flatten_append,List.flatten_cons,List.flatten_append,List.flatten_append,hf]
  simp [List.append_assoc]
 ·rw [List.set_eq_take_append_cons_drop,if_pos hlt]
  rw [List.flatten_append,List.flatten_cons,List.flatten_append,List.flatten_append,splice,List.flatten_append,List.flatten_append]
  simp [List.append_assoc]

theorem OW.setE {w : World} {k : Nat} {es : List (List T)} {v : Value} {fp : List Nat} (h : OW w (.sl k es) v fp) (hnd : fp.Nodup) {i j : Nat} {e : List T} (hi : es[i]? = some e) (ts : List T) (us : List Value) (fs : List (List Nat)) (hl : us.length = ts.length) (hf : fs.length = ts.length) (hj : j + ts.length ≤ e.length)
  (hOW : ∀ (q : Nat) (t : T) (u : Value) (f : List Nat),ts[q]? = some t → us[q]? = some u → fs[q]? = some f → OW w t u f) (hnd' : fs.flatten.Nodup) (hdis : ∀ b ∈ fp,b ∉ fs.flatten) :
  ∃ b o c fp',v = .slice (some ⟨b,o,none⟩) es.length c ∧ b ∈ fp ∧ OW (w.setCells b (o + i * k + j) us) (.sl k (es.set i (splice e j ts))) v fp' ∧ fp'.Nodup ∧ (∀ x ∈ fp',x ∈ fp ∨ x ∈ fs.flatten) ∧
   ∀ q,q < ts.length → (w.cell? ⟨b,o + i * k + j + q,none⟩).isSome = true ∧ w.frozen? ⟨b,o + i * k + j + q,none⟩ = false := by
 rcases h.open_ with ⟨rfl,rfl,rfl⟩ | ⟨b,o,c,tid,cur,fz,val,fps,rfl,rfl,hg,hz,hc,hcm,hcs,hp,hk,hff,hfk,hv,ht⟩
 ·simp at hi
 have hil := Yu hi
 have hek : e.length = k := hk e (Yv hi)
 rw [hek] at hj
 have hfi : fps[i]? = some fps[i] := List.getElem?_eq_getElem (by omega)
 have hfik : (fps[i]'(by omega)).length = k := hfk _ (List.getElem_mem _)
 have hck : es.length * k ≤ c * k := Nat.mul_le_mul_right _ hc
 have hin : ∀ i' j',i' < es.length → j' < k → i' * k + j' < es.length * k := fun i' j' h1 h2 => ij_lt h1 h2
 have hend : i * k + j + ts.length ≤ es.length * k := by
  have : (i + 1) * k ≤ es.length * k := Nat.mul_le_mul_right _ hil
  rw [Nat.succ_mul] at this
  omega
 obtain ⟨cur',h1,h2,h3,h4⟩ := Yw b tid fz us (o + i * k + j) w cur hg (by omega)
 obtain ⟨X,Y,Z,e1,e2⟩ := flat_set (j := j) (fs := fs) hfi
 have hndf := List.nodup_cons.1 hnd
 have hnb : b ∉ fs.flatten := hdis b (by simp)
 have hfr : ∀ {t : T} {u : Value} {f : List Nat},OW w t u f → b ∉ f → OW (w.setCells b (o + i * k + j) us) t u f := fun h hn => h.frame fun b' hb' => (Z7 w b us _).2.2.2.2 b' fun e => hn (e ▸ hb')
 have hset : (es.set i (splice e j ts)).length = es.length := by simp
 refine ⟨b,o,c,b :: (fps.set i (splice fps[i] j fs)).flatten.flatten,J,by simp,?_,?_,?_,?_⟩
 ·rw [← hset]
  refine .sl _ b o k c tid cur' fz (fun i' j' => if i' = i ∧ j ≤ j' ∧ j' < j + ts.length then us.getD (j' - j) undef else val i' j') _ h1 (by rw [h2]; exact hz) (by rw [hset]; exact hc) hcm (by rw [h2]; exact hcs) hp ?_ (by simp [hff]) ?_ (fun i' j' hi' hj' => ?_) fun i' j' e' t' fs' f' g1 g2 g3 g4 => ?_
  ·intro e' he'
   rcases List.mem_or_eq_of_mem_set he' with he' | rfl
   ·exact hk e' he'
   ·rw [splice_len (by omega),hek]
  ·intro f' hf'
   rcases List.mem_or_eq_of_mem_set hf' with hf' | rfl
   ·exact hfk f' hf'
   ·rw [splice_len (by rw [hf,hfik]; omega),hfik]
  ·rw [hset] at hi'
   show cur'[o + i' * k + j']? = some (if _ then _ else _)
   by_cases hcond : i' = i ∧ j ≤ j' ∧ j' < j + ts.length
   ·obtain ⟨rfl,g1,g2⟩ := hcond
    rw [if_pos ⟨rfl,g1,g2⟩,show o + i' * k + j' = o + i' * k + j + (j' - j) by omega,h3 (j' - j) (by omega)]
    rw [List.getD_eq_getElem?_getD,List.getElem?_eq_getElem (by omega)]
    rfl
   ·rw [if_neg hcond,h4,hv i' j' hi' hj']
    rcases Nat.lt_trichotomy i' i with hlt | rfl | hlt
    ·have : (i' + 1) * k ≤ i * k := Nat.mul_le_mul_right _ hlt
     rw [Nat.succ_mul] at this
     left; omega
    ·rcases Nat.lt_or_ge j' j with g | g
     ·left; omega
     ·right
      have : ¬ j' < j + ts.length := fun g2 => hcond ⟨rfl,g,g2⟩
      omega
    ·have : (i + 1) * k ≤ i' * k := Nat.mul_le_mul_right _ hlt
     rw [Nat.succ_mul] at this
     right; omega
  ·show OW _ t' (if _ then _ else _) f'
   rw [List.getElem?_set] at g1 g3
   by_cases hii : i = i'
   ·subst hii
    simp only [hil,if_true,Option.some.injEq] at g1
    rw [if_pos rfl,if_pos (by omega)] at g3
    simp only [Option.some.injEq] at g3
    subst g1 g3
    rw [splice_at (by omega)] at g2
    rw [splice_at (by rw [hf,hfik]; omega),hf] at g4
    by_cases hcond : j ≤ j' ∧ j' < j + ts.length
    ·rw [if_pos hcond] at g2 g4
     rw [if_pos ⟨rfl,hcond⟩]
     have hq : j' - j < us.length := by rw [hl]; exact Yu g2
     rw [Yt (List.getElem?_eq_getElem hq)]
     exact hfr (hOW (j' - j) t' _ f' g2 (List.getElem?_eq_getElem hq) g4) fun hb => hnb (List.mem_flatten.2 ⟨f',Yv g4,hb⟩)
    ·rw [if_neg hcond] at g2 g4
     rw [if_neg fun h => hcond h.2]
     exact hfr (ht i j' e t' _ f' hi g2 hfi g4) fun hb => hndf.1 (mem_ff hfi g4 hb)
   ·rw [if_neg hii] at g1 g3
    rw [if_neg fun h => hii h.1.symm]
    exact hfr (ht i' j' e' t' fs' f' g1 g2 g3 g4) fun hb => hndf.1 (mem_ff g3 g4 hb)
 ·rw [e2]
  rw [e1] at hndf
  refine List.nodup_cons.2 ⟨fun hb => ?_,nodup_mid hndf.2 hnd' fun b' hb' => hdis b' (by rw [e1]; exact List.mem_cons_of_mem _ hb')⟩
  rcases List.mem_append.1 hb with hb | hb
  ·rcases List.mem_append.1 hb with hb | hb
   ·exact hndf.1 (by simp [hb])
   ·exact hnb hb
  ·exact hndf.1 (by simp [hb])
 ·rw [e2,e1]
  intro x hx
  rcases List.mem_cons.1 hx with rfl | hx
  ·exact .inl (by simp)
  ·rcases List.mem_append.1 hx with hx | hx
   ·rcases List.mem_append.1 hx with hx | hx
    ·exact .inl (by simp [hx])
    ·exact .inr hx
   ·exact .inl (by simp [hx])
 ·intro q hq
  constructor
  ·rw [cell_of_row w b _ cur tid fz hg]
   simp
   omega
  ·exact frozen_fz hg hz (by omega)

/-! ### What is moved into a slice -/
def tkT (objs : List Ob) : V1 → T
 | .rd _ x => x
 | .ref r => match objs.getD r .gone with
  | .row k es => .sl k es
  | _ => .sl 0 []
 | _ => .sl 0 []
def tkR : V1 → List Nat
 | .ref r => [r]
 | _ => []
def tkOk (objs : List Ob) : V1 → Bool
 | .rd _ (.v _) => true
 | .ref r => match objs.getD r .gone with
  | .row _ _ => true
  | _ => false
 | _ => false
def V1.offe (p : Nat) (rs : List Nat) : V1 → Bool
 | .ref q => !rs.contains q
 | .el q _ _ _ => !rs.contains q
 | .tl q _ _ => !rs.contains q
 | x => x.off (p :: rs)
def V1.kille (p : Nat) (rs : List Nat) (x : V1) : V1 := if x.offe p rs then x else .un
def V2.kille (p : Nat) (rs : List Nat) : V2 → V2
 | .c x => .c (x.kille p rs)
 | .ag xs => .ag (xs.map (V1.kille p rs))
def V.kille (p : Nat) (rs : List Nat) : V → V
 | .o x => .o (x.kille p rs)
 | .tu xs => .tu (xs.map (V2.kille p rs))
 | .iff cs x => .iff cs (x.kille p rs)
def Ob.kille (p : Nat) (rs : List Nat) : Ob → Ob
 | .box cs => .box (cs.map (V1.kille p rs))
 | .gh i x => .gh i (x.kille p rs)
 | ob => ob
def gone (objs : List Ob) (rs : List Nat) : List Ob := rs.foldl (fun l r => l.set r .gone) objs

theorem gone_at : ∀ (rs : List Nat) (objs : List Ob) (q : Nat),(gone objs rs).getD q .gone = if q ∈ rs then .gone else objs.getD q .gone
 | [],objs,q => by simp [gone]
 | r :: rs,objs,q => by
  show (gone (objs.set r .gone) rs).getD q .gone = _
  rw [gone_at rs]
  by_cases h : q ∈ rs
  ·simp [h]
  ·rw [if_neg h]
   by_cases e : q = r
   ·subst e
    rw [if_pos (by simp),List.getD_eq_getElem?_getD,List.getElem?_set]
    simp only [if_true]
    split <;> rfl
   ·rw [if_neg (by simp [e,h]),List.getD_eq_getElem?_getD,List.getElem?_set_ne (Ne.symm e),List.getD_eq_getElem?_getD]

section
variable {P : Program} {E : Env} {ops : Array Oper} {o : Oper} {st : St} {n : Nat} {rest : List Oper} {QQ : Exit → St → Prop} {w w' : World} {H H' : Hs} {F : Nat → Prop} {a : Act} {p : Nat} {rs : List Nat}

theorem R1.killede (hok : Ok w H F) (ht : Turn w H w' H' (p :: rs)) {x0 x1 : T} {v0 : Value} {fp0 fp1 : List Nat} (h0 : H p = .ow x0 v0 fp0) (h1 : H' p = .ow x1 v0 fp1) {x : V1} {v : Value} (h : R1 w H F x v) : R1 w' H' F (x.kille p rs) v := by
 unfold V1.kille
 split
 ·rename_i hx
  cases x with
  | ref q =>
   by_cases e : q = p
   ·subst e
    obtain ⟨x,fp,e⟩ := h
    rw [h0] at e
    simp only [Pc.ow.injEq] at e
    exact ⟨x1,fp1,by rw [h1,e.2.1]⟩
   ·exact R1.turn hok ht (x := .ref q) (by simp [V1.off,e]; simpa [V1.offe] using hx) h
  | el q k i j =>
   by_cases e : q = p
   ·subst e
    obtain ⟨b,o,n,c,x,fp,e,hv⟩ := h
    rw [h0] at e
    simp only [Pc.ow.injEq] at e
    exact ⟨b,o,n,c,x1,fp1,by rw [h1,e.2.1],hv⟩
   ·exact R1.turn hok ht (x := .el q k i j) (by simp [V1.off,e]; simpa [V1.offe] using hx) h
  | rd => exact R1.turn hok ht hx h
  | ptr => exact R1.turn hok ht hx h
  | sb => exact R1.turn hok ht hx h
  | rp => exact R1.turn hok ht hx h
  | le => exact R1.turn hok ht hx h
  | hd => exact R1.turn hok ht hx h
  | tl q k n =>
   by_cases e : q = p
   ·subst e
    obtain ⟨A,A',m,c,x,fp,e,hv⟩ := h
    rw [h0] at e
    simp only [Pc.ow.injEq] at e
    exact ⟨A,A',m,c,x1,fp1,by rw [h1,e.2.1],hv⟩
   ·exact R1.turn hok ht (x := .tl q k n) (by simp [V1.off,e]; simpa [V1.offe] using hx) h
  | un => trivial
 ·trivial
theorem R0.turne (h : R0 w H F st a) (ht : Turn w H w' H' (p :: rs)) (hok : Ok w' H' F) {x0 x1 : T} {v0 : Value} {fp0 fp1 : List Nat} (h0 : H p = .ow x0 v0 fp0) (h1 : H' p = .ow x1 v0 fp1) (hn : ∀ r ∈ rs,H' r = .nil) (hpr : p ∉ rs) {ob : Ob} (hob : RB w' H' F p ob) (hp : p < st.objs.length) :
  R0 w' H' F ⟨st.n,st.tmps.map fun e => (e.1,e.2.kille p rs),gone ((st.objs.map (Ob.kille p rs)).set p ob) rs⟩ a := by
 have k1 : ∀ {x : V1} {v : Value},R1 w H F x v → R1 w' H' F (x.kille p rs) v := fun h2 => R1.killede h.ok ht h0 h1 h2
 have kl : ∀ {xs : List V1} {us : List Value},(∀ (i : Nat) (x : V1) (u : Value),xs[i]? = some x → us[i]? = some u → R1 w H F x u) → ∀ (i : Nat) (x : V1) (u : Value),(xs.map (V1.kille p rs))[i]? = some x → us[i]? = some u → R1 w' H' F x u := by
  intro xs us hr i x u h2 h3
  rw [List.getElem?_map] at h2
  obtain ⟨y,h4,rfl⟩ := Option.map_eq_some_iff.1 h2
  exact k1 (hr i y u h4 h3)
 have k2 : ∀ {x : V2} {v : Value},R2 w H F x v → R2 w' H' F (x.kille p rs) v := by
  intro x v h2
  cases x with
  | c x => exact k1 h2
  | ag xs => obtain ⟨us,e,hl,hr⟩ := h2; exact ⟨us,e,by simpa using hl,kl hr⟩
 have kv : ∀ {x : V} {v : Value},RV w H F x v → RV w' H' F (x.kille p rs) v := by
  intro x v h2
  cases x with
  | o x => exact k2 h2
  | tu xs =>
   obtain ⟨us,e,hl,hr⟩ := h2
   refine ⟨us,e,by simpa using hl,fun i x u h3 h4 => ?_⟩
   rw [List.getElem?_map] at h3
   obtain ⟨y,h5,rfl⟩ := Option.map_eq_some_iff.1 h3
   exact k2 (hr i y u h5 h4)
  | iff cs x => exact ⟨fun hc => k2 (h2.1 hc),h2.2⟩
 refine ⟨hok,fun q => ?_,fun d => ?_,h.size,h.defers⟩
 ·show RB w' H' F q ((gone ((st.objs.map (Ob.kille p rs)).set p ob) rs).getD q .gone)
  rw [gone_at]
  split
  ·exact hn q (by assumption)
  ·rename_i hq
   by_cases e : q = p
   ·subst e
    rw [List.getD_eq_getElem?_getD,List.getElem?_set_self (by simpa using hp)]
    exact hob
   ·rw [List.getD_eq_getElem?_getD,List.getElem?_set_ne (Ne.symm e),List.getElem?_map]
    have h2 := h.obs q
    rw [List.getD_eq_getElem?_getD] at h2
    have hk := ht.keep q (by simp [e,hq])
    cases ho : st.objs[q]? with
    | none => rw [ho] at h2; exact hk.trans h2
    | some ob' =>
     rw [ho] at h2
     cases ob' with
     | gone => exact hk.trans h2
     | hole => trivial
     | box cs =>
      obtain ⟨g,t,vs,e1,hl,hr⟩ := h2
      refine ⟨g,t,vs,hk.trans e1,by simpa using hl,fun i c u h3 h4 => ?_⟩
      rw [List.getElem?_map] at h3
      obtain ⟨y,h5,rfl⟩ := Option.map_eq_some_iff.1 h3
      exact ⟨k1 (hr i y u h5 h4).1,(hr i y u h5 h4).2⟩
     | row k es => obtain ⟨v,fp,e1⟩ := h2; exact ⟨v,fp,hk.trans e1⟩
     | gh i x => obtain ⟨v,e1,hr⟩ := h2; exact ⟨v,hk.trans e1,k2 hr⟩
     | shr es => obtain ⟨us,v,fp,e1,hl,hr⟩ := h2; exact ⟨us,v,fp,hk.trans e1,hl,fun i t u h3 h4 => k1 (x := .rd [] t) (hr i t u h3 h4)⟩
 ·have hl : ∀ l : List (Nat × V),look (l.map fun e => (e.1,e.2.kille p rs)) d = (look l d).kille p rs := by
   intro l
   induction l with
   | nil => rfl
   | cons e l ih =>
    obtain ⟨e1,e2⟩ := e
    rw [List.map_cons,Y0,Y0]
    split
    ·rfl
    ·exact ih
  show RV w' H' F (look (st.tmps.map fun e => (e.1,e.2.kille p rs)) d) _
  rw [hl]
  exact kv (h.tmp d)

theorem take_ok (h : R0 w H F st a) : ∀ (ds : List V1) (us : List Value),us.length = ds.length → (∀ (i : Nat) (x : V1) (u : Value),ds[i]? = some x → us[i]? = some u → R1 w H F x u) → ds.all (tkOk st.objs) = true → (ds.flatMap tkR).Nodup →
  ∃ fs : List (List Nat),fs.length = ds.length ∧ (∀ (q : Nat) (t : T) (u : Value) (f : List Nat),(ds.map (tkT st.objs))[q]? = some t → us[q]? = some u → fs[q]? = some f → OW w t u f) ∧ fs.flatten.Nodup ∧ (∀ b ∈ fs.flatten,∃ r ∈ ds.flatMap tkR,b ∈ (H r).fp)
 | [],us,_,_,_,_ => ⟨[],rfl,fun q t u f h1 => by simp at h1,by simp,fun b hb => by simp at hb⟩
 | d :: ds,[],hl,_,_,_ => by simp at hl
 | d :: ds,u :: us,hl,hr,hok,hnd => by
  simp only [List.all_cons,Bool.and_eq_true] at hok
  simp only [List.flatMap_cons] at hnd
  obtain ⟨n1,n2,n3⟩ := List.nodup_append.1 hnd
  obtain ⟨fs,h1,h2,h3,h4⟩ := take_ok h ds us (by simpa using hl) (fun i x u h5 h6 => hr (i + 1) x u (by simpa using h5) (by simpa using h6)) hok.2 n2
  have h0 := hr 0 d u J J
  obtain ⟨f0,g1,g2,g3⟩ : ∃ f0,OW w (tkT st.objs d) u f0 ∧ f0.Nodup ∧ ∀ b ∈ f0,∃ r ∈ tkR d,b ∈ (H r).fp := by
   have hok1 := hok.1
   cases d with
   | rd ps x =>
    cases x with
    | v x => obtain ⟨rfl,g⟩ := RO.plain h0; exact ⟨[],.v _ g,by simp,fun b hb => by simp at hb⟩
    | sl => simp [tkOk] at hok1
    | un => simp [tkOk] at hok1
   | ref r =>
    simp only [tkOk] at hok1
    cases ho : st.objs.getD r .gone with
    | row k es =>
     have h5 := h.obs r
     rw [ho] at h5
     obtain ⟨v,fp,e⟩ := h5
     obtain ⟨x,fp',e'⟩ := h0
     have h6 := h.ok.says r
     have h7 := h.ok.nodup r
     rw [e] at h6 h7 e'
     simp only [Pc.ow.injEq] at e'
     obtain ⟨_,rfl,_⟩ := e'
     refine ⟨fp,by simp only [tkT,ho]; exact h6,h7,fun b hb => ⟨r,by simp [tkR],by rw [e]; exact hb⟩⟩
    | gone => rw [ho] at hok1; cases hok1
    | hole => rw [ho] at hok1; cases hok1
    | box => rw [ho] at hok1; cases hok1
    | gh => rw [ho] at hok1; cases hok1
    | shr => rw [ho] at hok1; cases hok1
   | ptr => simp [tkOk] at hok1
   | sb => simp [tkOk] at hok1
   | el => simp [tkOk] at hok1
   | rp => simp [tkOk] at hok1
   | le => simp [tkOk] at hok1
   | hd => simp [tkOk] at hok1
   | tl => simp [tkOk] at hok1
   | un => simp [tkOk] at hok1
  refine ⟨f0 :: fs,by simp [h1],fun q t v f h5 h6 h7 => ?_,?_,fun b hb => ?_⟩
  ·cases q with
   | zero => simp at h5 h6 h7; subst h5 h6 h7; exact g1
   | succ q => exact h2 q t v f (by simpa using h5) (by simpa using h6) (by simpa using h7)
  ·rw [List.flatten_cons]
   refine List.nodup_append.2 ⟨g2,h3,fun x hx y hy e => ?_⟩
   obtain ⟨r,r1,r2⟩ := g3 x hx
   obtain ⟨s,s1,s2⟩ := h4 y hy
   subst e
   have := h.ok.disj r s x r2 s2
   exact n3 r r1 s s1 this
  ·rw [List.flatten_cons] at hb
   rw [List.flatMap_cons]
   rcases List.mem_append.1 hb with hb | hb
   ·obtain ⟨r,r1,r2⟩ := g3 b hb; exact ⟨r,by simp [r1],r2⟩
   ·obtain ⟨r,r1,r2⟩ := h4 b hb; exact ⟨r,List.mem_append_right _ r1,r2⟩

theorem Ok.takein (h : Ok w H F) {fp : List Nat} (hfp : (H p).fp = fp) (hpr : p ∉ rs) {w' : World} (hk : Keeps w w' fp) (q : Pc) (hs : q.says w') (hn : q.fp.Nodup) (hng : q.ng) (hf : ∀ b ∈ q.fp,b ∈ fp ∨ (∃ r ∈ rs,b ∈ (H r).fp) ∨ w.heap.size ≤ b) :
  Ok w' (fun r => if r = p then q else if r ∈ rs then .nil else H r) F ∧ Turn w H w' (fun r => if r = p then q else if r ∈ rs then .nil else H r) (p :: rs) := by
 obtain ⟨H',hH'⟩ : ∃ H' : Hs,H' = fun r => if r = p then q else if r ∈ rs then .nil else H r := ⟨_,rfl⟩
 rw [← hH']
 have e1 : H' p = q := by rw [hH']; simp
 have e2 : ∀ r,r ≠ p → r ∈ rs → H' r = .nil := fun r h1 h2 => by rw [hH']; simp [h1,h2]
 have e3 : ∀ r,r ≠ p → r ∉ rs → H' r = H r := fun r h1 h2 => by rw [hH']; simp [h1,h2]
 have hb0 : ∀ r b,r ≠ p → b ∈ (H' r).fp → b ∈ (H r).fp ∧ r ∉ rs := fun r b h1 h2 => by
  by_cases h3 : r ∈ rs
  ·rw [e2 r h1 h3] at h2; simp [Pc.fp] at h2
  ·rw [e3 r h1 h3] at h2; exact ⟨h2,h3⟩
 have hb1 : ∀ r b,r ≠ p → b ∈ (H' r).fp → b ∉ q.fp := fun r b h1 h2 h3 => by
  obtain ⟨h4,h5⟩ := hb0 r b h1 h2
  rcases hf b h3 with h6 | ⟨s,h6,h7⟩ | h6
  ·exact h1 (h.disj r p b h4 (by rw [hfp]; exact h6))
  ·exact h5 (h.disj r s b h4 h7 ▸ h6)
  ·have := h.lt h4; omega
 refine ⟨⟨fun r => ?_,fun r => ?_,fun r s b h1 h2 => ?_,fun r b h1 h2 => ?_,fun b hb' => Nat.lt_of_lt_of_le (h.flt b hb') hk.size⟩,hk.os,hk.tape,hk.output,hk.size,fun b h1 h2 => hk.block b h1 (by rw [← hfp]; exact h2 p (by simp)),fun r hr => e3 r (fun e => hr (by simp [e])) (fun e => hr (by simp [e])),fun r b hb => ?_,fun r i v hr => ?_⟩
 ·by_cases e : r = p
  ·subst e; rw [e1]; exact hs
  ·by_cases h3 : r ∈ rs
   ·rw [e2 r e h3]; trivial
   ·rw [e3 r e h3]
    exact Pc.frame (fun b hb' => hk.block b (h.lt hb') fun hh => e (h.disj r p b hb' (by rw [hfp]; exact hh))) (h.says r)
 ·by_cases e : r = p
  ·subst e; rw [e1]; exact hn
  ·by_cases h3 : r ∈ rs
   ·rw [e2 r e h3]; simp [Pc.fp]
   ·rw [e3 r e h3]; exact h.nodup r
 ·by_cases e : r = p
  ·by_cases e' : s = p
   ·rw [e,e']
   ·rw [e,e1] at h1
    exact absurd h1 (hb1 s b e' h2)
  ·by_cases e' : s = p
   ·rw [e',e1] at h2
    exact absurd h2 (hb1 r b e h1)
   ·exact h.disj r s b (hb0 r b e h1).1 (hb0 s b e' h2).1
 ·by_cases e : r = p
  ·rw [e,e1] at h1
   rcases hf b h1 with h3 | ⟨s,_,h3⟩ | h3
   ·exact h.free p b (by rw [hfp]; exact h3) h2
   ·exact h.free s b h3 h2
   ·have := h.flt b h2; omega
  ·exact h.free r b (hb0 r b e h1).1 h2
 ·by_cases e : r = p
  ·rw [e,e1] at hb
   rcases hf b hb with h3 | ⟨s,_,h3⟩ | h3
   ·exact .inl ⟨p,by rw [hfp]; exact h3⟩
   ·exact .inl ⟨s,h3⟩
   ·exact .inr h3
  ·exact .inl ⟨r,(hb0 r b e hb).1⟩
 ·by_cases e : r = p
  ·rw [e,e1] at hr; rw [hr] at hng; exact hng.elim
  ·by_cases h3 : r ∈ rs
   ·rw [e2 r e h3] at hr; cases hr
   ·exact ⟨r,by rw [← e3 r e h3]; exact hr⟩

section
variable {y z : Operand} {t t' : TypeId} {k : IntKind} {i j : Int} {qs : List Nat}
theorem ste_core {p kk i j : Nat} {es : List (List T)} {e : List T} {ds : List V1} {us : List Value} (h1 : R0 w H F st a) (h2 : Since E w H F) (hy : st.ev y = .o (.c (.el p kk i j))) (hp : st.objs[p]? = some (.row kk es)) (he : es[i]? = some e) (hj : j + ds.length ≤ e.length)
  (hl : us.length = ds.length) (hr : ∀ (i : Nat) (x : V1) (u : Value),ds[i]? = some x → us[i]? = some u → R1 w H F x u) (hok : ds.all (tkOk st.objs) = true) (hnd : (p :: ds.flatMap tkR).Nodup) :
  ∃ b o',a.eval y = .pointer (some ⟨b,o',none⟩) ∧ (∀ q,q < ds.length → (w.cell? ⟨b,o' + q,none⟩).isSome = true ∧ w.frozen? ⟨b,o' + q,none⟩ = false) ∧
   ∃ H',R0 (w.setCells b o' us) H' F ⟨st.n,st.tmps.map fun e => (e.1,e.2.kille p (ds.flatMap tkR)),gone ((st.objs.map (Ob.kille p (ds.flatMap tkR))).set p (.row kk (es.set i (splice e j (ds.map (tkT st.objs)))))) (ds.flatMap tkR)⟩ a ∧ Since E (w.setCells b o' us) H' F := by
 obtain ⟨b,o',m',c,x,fp,e1,e2⟩ := h1.v1 hy
 obtain ⟨v,fp',e3,e4⟩ := h1.ow hp
 rw [e1] at e3
 simp only [Pc.ow.injEq] at e3
 obtain ⟨rfl,rfl,rfl⟩ := e3
 obtain ⟨hpn,hndr⟩ := List.nodup_cons.1 hnd
 obtain ⟨fs,f1,f2,f3,f4⟩ := take_ok h1 ds us hl hr hok hndr
 have hndp := h1.ok.nodup p
 rw [e1] at hndp
 obtain ⟨b',o'',c',fp2,g1,g2,g3,g4,g5,g6⟩ := OW.setE e4 hndp he (ds.map (tkT st.objs)) us fs (by simpa using hl) (by simpa using f1) (j := j) (by simpa using hj) f2 f3 (fun b hb hb' => by
  obtain ⟨r,r1,r2⟩ := f4 b hb'
  have := h1.ok.disj p r b (by rw [e1]; exact hb) r2
  exact hpn (this ▸ r1))
 simp only [Value.slice.injEq,Option.some.injEq,Addr.mk.injEq] at g1
 obtain ⟨⟨rfl,rfl,_⟩,rfl,rfl⟩ := g1
 obtain ⟨s1,s2,s3,s4,s5⟩ := Z7 w b us (o' + i * kk + j)
 obtain ⟨k1,k2⟩ := h1.ok.takein (p := p) (rs := ds.flatMap tkR) (fp := fp) (by rw [e1]; rfl) hpn (w' := w.setCells b (o' + i * kk + j) us) ⟨s1,s2,s3,by omega,fun b' _ hb' => s5 b' fun e => hb' (e ▸ g2)⟩ (.ow (.sl kk (es.set i (splice e j (ds.map (tkT st.objs))))) (.slice (some ⟨b,o',none⟩) es.length c) fp2) g3 g4 trivial fun b' hb' => by
   rcases g5 b' hb' with h | h
   ·exact .inl h
   ·exact .inr (.inl (f4 b' h))
 obtain ⟨hplt,_⟩ := List.getElem?_eq_some_iff.1 hp
 refine ⟨b,o' + i * kk + j,e2,fun q hq => g6 q (by simpa using hq),_,h1.turne (p := p) (rs := ds.flatMap tkR) k2 k1 e1 (if_pos J) (fun r hr' => ?_) hpn ⟨_,_,if_pos J⟩ hplt,h2.turn k2⟩
 have hne : r ≠ p := fun e => hpn (e ▸ hr')
 simp only [hne,if_false,hr',if_true]

theorem L_ste1 {p kk i j : Nat} {es : List (List T)} {e : List T} {c : V1} [TyOne P t] (ho : o.op = .store t y z) (hg : o.guard = none) (hd : o.dst = none) (hy : st.ev y = .o (.c (.el p kk i j))) (hz : st.ev z = .o (.c c)) (hp : st.objs[p]? = some (.row kk es)) (he : es[i]? = some e) (hj : j + 1 ≤ e.length)
  (hok : tkOk st.objs c = true) (hnd : (p :: tkR c).Nodup)
  (h : AL P E ops QQ rest ⟨st.n,st.tmps.map fun e => (e.1,e.2.kille p (tkR c)),gone ((st.objs.map (Ob.kille p (tkR c))).set p (.row kk (es.set i (splice e j [tkT st.objs c])))) (tkR c)⟩) : AL P E ops QQ (o :: rest) st := by
 refine ⟨fun a w ⟨H,F,h1,h2⟩ => ?_⟩
 have hc := h1.v1 hz
 have hfm : [c].flatMap tkR = tkR c := by simp
 have hr : ∀ (i : Nat) (x : V1) (u : Value),[c][i]? = some x → [a.eval z][i]? = some u → R1 w H F x u := fun i x u h3 h4 => by
  cases i with
  | zero => simp at h3 h4; subst h3 h4; exact hc
  | succ i => simp at h3
 obtain ⟨b,o',h3,h4,H',h5,h6⟩ := ste_core (E := E) (us := [a.eval z]) h1 h2 hy hp he (ds := [c]) (by simpa using hj) rfl hr (by simpa using hok) (by rw [hfm]; exact hnd)
 rw [hfm] at h5
 have hone : (a.eval z).oneCell' = true := R1.one (by intro e; rw [e] at hok; cases hok) h1.ok hc
 refine wpList_step fun K hK => ?_
 rw [if_pos (by unfold Region.wanted; rw [hg])]
 unfold Oper.wp
 have h7 := h4 0 (by simp)
 obtain ⟨old,hold⟩ := Option.isSome_iff_exists.1 h7.1
 rw [exec_store ho (w' := w.setCell ⟨b,o',none⟩ (a.eval z)) (by
  rw [h3]
  exact run_storeAt_one t b o' (a.eval z) old hone hold h7.2)]
 show K (a.put o.dst undef) _
 rw [hd]
 exact hK _ _ (h.h _ _ ⟨_,F,h5,h6⟩)
theorem L_steN {p kk i j n' : Nat} {es : List (List T)} {e : List T} {ds : List V1} [hr' : TyRow P t n'] (ho : o.op = .store t y z) (hg : o.guard = none) (hd : o.dst = none) (hy : st.ev y = .o (.c (.el p kk i j))) (hz : st.ev z = .o (.ag ds)) (hp : st.objs[p]? = some (.row kk es)) (he : es[i]? = some e) (hl : ds.length = n') (hj : j + ds.length ≤ e.length)
  (hok : ds.all (tkOk st.objs) = true) (hnd : (p :: ds.flatMap tkR).Nodup)
  (h : AL P E ops QQ rest ⟨st.n,st.tmps.map fun e => (e.1,e.2.kille p (ds.flatMap tkR)),gone ((st.objs.map (Ob.kille p (ds.flatMap tkR))).set p (.row kk (es.set i (splice e j (ds.map (tkT st.objs)))))) (ds.flatMap tkR)⟩) : AL P E ops QQ (o :: rest) st := by
 refine ⟨fun a w ⟨H,F,h1,h2⟩ => ?_⟩
 have hv := h1.ev z
 rw [hz] at hv
 obtain ⟨us,e5,hl5,hc5⟩ := hv
 obtain ⟨b,o',h3,h4,H',h5,h6⟩ := ste_core (E := E) (us := us) h1 h2 hy hp he hj hl5 hc5 hok hnd
 have hone : ∀ u ∈ us,u.oneCell' = true := by
  intro u hu
  obtain ⟨q,hq⟩ := List.getElem?_of_mem hu
  have hqd : q < ds.length := by rw [← hl5]; exact Yu hq
  have hx := List.all_eq_true.1 hok _ (List.getElem_mem hqd)
  exact R1.one (by intro e; rw [e] at hx; cases hx) h1.ok (hc5 q _ u (List.getElem?_eq_getElem hqd) hq)
 refine wpList_step fun K hK => ?_
 rw [if_pos (by unfold Region.wanted; rw [hg])]
 unfold Oper.wp
 rw [exec_store ho (w' := w.setCells b o' us) (by
  rw [h3,e5]
  have := run_storeAt_mid (P := P) w b o' t us.toArray (fun q hq => h4 q (by simp at hq; omega)) (by rw [hr'.size]; simp [hl5,hl]) (by
   rw [Array.all_eq_true_iff_forall_mem]
   intro u hu
   exact hone u (by simpa using hu))
  simpa using this)]
 show K (a.put o.dst undef) _
 rw [hd]
 exact hK _ _ (h.h _ _ ⟨_,F,h5,h6⟩)
end
end
end
end Go.Proofs.Ytbfhboakafjjgaa
