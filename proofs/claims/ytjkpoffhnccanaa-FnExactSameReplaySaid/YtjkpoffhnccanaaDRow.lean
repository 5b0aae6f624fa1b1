/-
  Owned slices that grow: what append does to them. No statement of the program is proved here.
  Conditions: none.
-/
import Derived.Test.YtjkpoffhnccanaaDOps
import Derived.Laws.MakeOwn
set_option linter.unusedSimpArgs false
namespace Go.Proofs.Ytjkpoffhnccanaa
open Go.RowKit

def flatV (val : Nat → Nat → Value) (n k : Nat) : List Value := (List.range (n * k)).map fun q => val (q / k) (q % k)
theorem flatV_len (val : Nat → Nat → Value) (n k : Nat) : (flatV val n k).length = n * k := by simp [flatV]
theorem ij_lt {n k i j : Nat} (hi : i < n) (hj : j < k) : i * k + j < n * k := by
  have h1 : (i + 1) * k ≤ n * k := Nat.mul_le_mul_right k hi
  rw [Nat.succ_mul] at h1
  omega
theorem ij_div {k i j : Nat} (hj : j < k) : (i * k + j) / k = i ∧ (i * k + j) % k = j := by
  constructor
  · rw [Nat.mul_comm, Nat.mul_add_div (by omega), Nat.div_eq_of_lt hj, Nat.add_zero]
  · rw [Nat.mul_comm, Nat.mul_add_mod, Nat.mod_eq_of_lt hj]
theorem flatV_at {val : Nat → Nat → Value} {n k i j : Nat} (hi : i < n) (hj : j < k) : (flatV val n k)[i * k + j]? = some (val i j) := by
  simp [flatV, ij_lt hi hj, ij_div hj]
theorem flatV_get {val : Nat → Nat → Value} {n k q : Nat} {u : Value} (h : (flatV val n k)[q]? = some u) : q / k < n ∧ q % k < k ∧ u = val (q / k) (q % k) ∧ q / k * k + q % k = q := by
  have h1 := getE_lt h
  rw [flatV_len] at h1
  have hk : 0 < k := by
    rcases Nat.eq_zero_or_pos k with rfl | h
    · simp at h1
    · exact h
  refine ⟨Nat.div_lt_of_lt_mul (by rwa [Nat.mul_comm] at h1), Nat.mod_lt _ hk, ?_, by rw [Nat.mul_comm]; exact Nat.div_add_mod q k⟩
  simp [flatV, h1] at h
  exact h.symm

theorem OW.open_ {w : World} {k : Nat} {es : List (List T)} {v : Value} {fp : List Nat} (h : OW w (.sl k es) v fp) : (v = .slice none 0 0 ∧ es = [] ∧ fp = []) ∨
    ∃ (b o c : Nat) (tid : TypeId) (cur : Array Value) (val : Nat → Nat → Value) (fps : List (List (List Nat))), v = .slice (some ⟨b, o, none⟩) es.length c ∧ fp = b :: fps.flatten.flatten ∧ w.heap[b]? = some (.cells cur tid (0, 0)) ∧
      es.length ≤ c ∧ c ≤ maxLen ∧ o + c * k ≤ cur.size ∧ 0 < k ∧ (∀ e ∈ es, e.length = k) ∧ fps.length = es.length ∧ (∀ f ∈ fps, f.length = k) ∧
      (∀ i j, i < es.length → j < k → cur[o + i * k + j]? = some (val i j)) ∧
      (∀ (i j : Nat) (e : List T) (t : T) (fs : List (List Nat)) (f : List Nat), es[i]? = some e → e[j]? = some t → fps[i]? = some fs → fs[j]? = some f → OW w t (val i j) f) := by
  cases h with
  | nil => exact .inl ⟨rfl, rfl, rfl⟩
  | sl _ b o _ c tid cur val fps hg hc hm hs hp hk hf hfk hv ht => exact .inr ⟨b, o, c, tid, cur, val, fps, rfl, rfl, hg, hc, hm, hs, hp, hk, hf, hfk, hv, ht⟩

theorem OW.join {w : World} {k : Nat} {es es' : List (List T)} {b o c : Nat} {tid : TypeId} {cur : Array Value} {val val' : Nat → Nat → Value} {fps fps' : List (List (List Nat))}
    (hg : w.heap[b]? = some (.cells cur tid (0, 0))) (hc : es.length + es'.length ≤ c) (hm : c ≤ maxLen) (hs : o + c * k ≤ cur.size) (hp : 0 < k) (hk : ∀ e ∈ es, e.length = k) (hk' : ∀ e ∈ es', e.length = k)
    (hf : fps.length = es.length) (hf' : fps'.length = es'.length) (hfk : ∀ f ∈ fps, f.length = k) (hfk' : ∀ f ∈ fps', f.length = k)
    (hv : ∀ i j, i < es.length → j < k → cur[o + i * k + j]? = some (val i j)) (hv' : ∀ i j, i < es'.length → j < k → cur[o + (es.length + i) * k + j]? = some (val' i j))
    (ht : ∀ (i j : Nat) (e : List T) (t : T) (fs : List (List Nat)) (f : List Nat), es[i]? = some e → e[j]? = some t → fps[i]? = some fs → fs[j]? = some f → OW w t (val i j) f)
    (ht' : ∀ (i j : Nat) (e : List T) (t : T) (fs : List (List Nat)) (f : List Nat), es'[i]? = some e → e[j]? = some t → fps'[i]? = some fs → fs[j]? = some f → OW w t (val' i j) f) :
    OW w (.sl k (es ++ es')) (.slice (some ⟨b, o, none⟩) (es.length + es'.length) c) (b :: (fps ++ fps').flatten.flatten) := by
  have hn : es.length + es'.length = (es ++ es').length := by simp
  rw [hn] at hc ⊢
  refine .sl (es ++ es') b o k c tid cur (fun i j => if i < es.length then val i j else val' (i - es.length) j) (fps ++ fps') hg hc hm hs hp ?_ (by simp [hf, hf']) ?_ (fun i j hi hj => ?_) fun i j e t fs f h1 h2 h3 h4 => ?_
  · intro e he
    rcases List.mem_append.1 he with he | he
    · exact hk e he
    · exact hk' e he
  · intro e he
    rcases List.mem_append.1 he with he | he
    · exact hfk e he
    · exact hfk' e he
  · show _ = some (if i < es.length then _ else _)
    by_cases h : i < es.length
    · rw [if_pos h]; exact hv i j h hj
    · rw [if_neg h]
      have := hv' (i - es.length) j (by rw [← hn] at hi; omega) hj
      rwa [show es.length + (i - es.length) = i by omega] at this
  · show OW w t (if i < es.length then _ else _) f
    by_cases h : i < es.length
    · rw [if_pos h]
      exact ht i j e t fs f (by rwa [List.getElem?_append_left h] at h1) h2 (by rwa [List.getElem?_append_left (by omega)] at h3) h4
    · rw [if_neg h]
      exact ht' (i - es.length) j e t fs f (by rwa [List.getElem?_append_right (by omega)] at h1) h2 (by rw [List.getElem?_append_right (by omega), hf] at h3; exact h3) h4

section
variable {P : Program} {w : World}

theorem run_append_room' (t ty e : TypeId) (i : TypeInfo) (ht : P.underlying t = some (.slice e)) (hi : P.info? e = some i)
    (g o sLen sCap : Nat) (tid : TypeId) (cur : Array Value) (hg : w.heap[g]? = some (.cells cur tid (0, 0)))
    (a : Addr) (m c : Nat) (news : List Value) (hl : news.length = m * i.size) (hnews : ∀ j u, news[j]? = some u → w.cell? (a.add j) = some u) (h1 : ∀ u ∈ news, u.oneCell' = true)
    (hroom : sLen + m ≤ sCap) (hfit : o + sLen * i.size + news.length ≤ cur.size) :
    (Builtin.append_ #[t, t] ty #[.slice (some ⟨g, o, none⟩) sLen sCap, .slice (some a) m c]).run P w =
      .ok (.slice (some ⟨g, o, none⟩) (sLen + m) sCap) (w.setRow g (cur.toList.take (o + sLen * i.size) ++ news ++ cur.toList.drop (o + sLen * i.size + news.length)).toArray) := by
  have hf := run_firstCells_some (P := P) w i.size m a m c news hl hnews
  have hst := run_storeCells_at P g (o + sLen * i.size) tid news 0 cur w hg (by simpa using hfit) h1
  simp only [Nat.add_zero] at hst
  simp [Builtin.append_, run_underlying ht, sizeOf, typeInfo, hi, Builtin.lenOf, hroom, hf, add_lit, hst]

theorem run_append_none (t ty e : TypeId) (i : TypeInfo) (ht : P.underlying t = some (.slice e)) (hi : P.info? e = some i) (B A : Option Addr) (n c c' : Nat) (hc : n ≤ c) :
    (Builtin.append_ #[t, t] ty #[.slice B n c, .slice A 0 c']).run P w = .ok (.slice B n c) w := by
  have h1 : (Builtin.firstCells i.size 0 (.slice A 0 c')).run P w = .ok #[] w := by
    cases A with
    | none => simp [Builtin.firstCells]
    | some a => simp [Builtin.firstCells, loadCells, loadCellsFrom]
  cases B with
  | none => simp [Builtin.append_, run_underlying ht, sizeOf, typeInfo, hi, Builtin.lenOf, hc, h1]
  | some b => simp [Builtin.append_, run_underlying ht, sizeOf, typeInfo, hi, Builtin.lenOf, hc, h1, storeCells]

/-- What a world keeps but for the blocks fp. -/
structure Keeps (w w' : World) (fp : List Nat) : Prop where
  os : w'.os = w.os
  tape : w'.tape = w.tape
  output : w'.output = w.output
  size : w.heap.size ≤ w'.heap.size
  block : ∀ b, b < w.heap.size → b ∉ fp → w'.heap[b]? = w.heap[b]?

theorem run_append_ow {t ty e : TypeId} {zs : List Value} {by_ : Nat} [hm : TyMake P t e zs by_] {k : Nat} {es : List (List T)} {v : Value} {fp : List Nat} (h : OW w (.sl k es) v fp) (hkz : k = zs.length) (hz : 0 < zs.length) (hnd : fp.Nodup)
    (es' : List (List T)) (val' : Nat → Nat → Value) (fps' : List (List (List Nat))) (A : Option Addr) (c' : Nat) (hk' : ∀ e ∈ es', e.length = k)
    (hA : es' ≠ [] → ∃ b' o', A = some ⟨b', o', none⟩ ∧ ∀ i j, i < es'.length → j < k → w.cell? ⟨b', o' + i * k + j, none⟩ = some (val' i j))
    (hf' : fps'.length = es'.length) (hfk' : ∀ f ∈ fps', f.length = k)
    (hOW : ∀ (i j : Nat) (e : List T) (t : T) (fs : List (List Nat)) (f : List Nat), es'[i]? = some e → e[j]? = some t → fps'[i]? = some fs → fs[j]? = some f → OW w t (val' i j) f)
    (hnd' : fps'.flatten.flatten.Nodup) (hdis : ∀ b ∈ fp, b ∉ fps'.flatten.flatten)
    (hb : (es.length + es'.length) * by_ ≤ 140737488355328) (h63 : es.length + es'.length ≤ maxLen) :
    ∃ v' w' fp', (Builtin.append_ #[t, t] ty #[v, .slice A es'.length c']).run P w = .ok v' w' ∧ OW w' (.sl k (es ++ es')) v' fp' ∧ fp'.Nodup ∧
      (∀ b ∈ fp', b ∈ fp ∨ b ∈ fps'.flatten.flatten ∨ w.heap.size ≤ b) ∧ Keeps w w' fp := by
  obtain ⟨i, hi, hzz⟩ := Option.map_eq_some_iff.1 hm.info
  simp only [Prod.mk.injEq] at hzz
  obtain ⟨hz1, hs, hb1⟩ := hzz
  obtain ⟨z, hz2, hz3⟩ := Option.map_eq_some_iff.1 hz1
  have hzc : z.cells.size = zs.length := by rw [← hz3]; simp
  have hsk : i.size = k := by rw [hs, hkz]
  by_cases he' : es' = []
  · subst he'
    have hfe : fps' = [] := List.eq_nil_of_length_eq_zero (by simpa using hf')
    subst hfe
    obtain ⟨B, c, hv, hc, _⟩ := RO.form h.ro
    subst hv
    exact ⟨_, w, fp, run_append_none t ty e i hm.slice hi B A es.length c c' hc, by simpa using h, hnd, fun b hb => .inl hb, rfl, rfl, rfl, Nat.le_refl _, fun _ _ _ => rfl⟩
  obtain ⟨b', o', hA', hcell⟩ := hA he'
  subst hA'
  have hkp : 0 < k := by rw [hkz]; exact hz
  have hlen' : 0 < es'.length := List.length_pos_iff.2 he'
  have hOne : ∀ i j, i < es'.length → j < k → (val' i j).oneCell' = true := by
    intro i j hi' hj
    have h1 : j < (es'[i]).length := by rw [hk' _ (List.getElem_mem hi')]; exact hj
    have h2 : i < fps'.length := by rw [hf']; exact hi'
    have h3 : j < (fps'[i]).length := by rw [hfk' _ (List.getElem_mem h2)]; exact hj
    exact (hOW i j _ _ _ _ (List.getElem?_eq_getElem hi') (List.getElem?_eq_getElem h1) (List.getElem?_eq_getElem h2) (List.getElem?_eq_getElem h3)).one
  have hnl : (flatV val' es'.length k).length = es'.length * i.size := by rw [flatV_len, hsk]
  have hnews : ∀ j u, (flatV val' es'.length k)[j]? = some u → w.cell? ((⟨b', o', none⟩ : Addr).add j) = some u := by
    intro j u hj
    obtain ⟨h1, h2, rfl, h3⟩ := flatV_get hj
    rw [add_lit, ← hcell _ _ h1 h2, Nat.add_assoc, h3]
  have hnone : ∀ u ∈ flatV val' es'.length k, u.oneCell' = true := by
    intro u hu
    obtain ⟨q, hq⟩ := List.getElem?_of_mem hu
    obtain ⟨h1, h2, rfl, _⟩ := flatV_get hq
    exact hOne _ _ h1 h2
  have hltn : ∀ b ∈ fps'.flatten.flatten, b < w.heap.size := by
    intro b hb
    obtain ⟨f, hf1, hf2⟩ := List.mem_flatten.1 hb
    obtain ⟨fs, hs1, hs2⟩ := List.mem_flatten.1 hf1
    obtain ⟨q, hq⟩ := List.getElem?_of_mem hs1
    obtain ⟨j, hj⟩ := List.getElem?_of_mem hs2
    have h1 : q < es'.length := by rw [← hf']; exact getE_lt hq
    have h2 : j < (es'[q]).length := by rw [hk' _ (List.getElem_mem h1), ← hfk' _ hs1]; exact getE_lt hj
    exact OW.lt (hOW q j _ _ _ _ (List.getElem?_eq_getElem h1) (List.getElem?_eq_getElem h2) hq hj) b hf2
  -- a new block
  have grown : ∀ (val : Nat → Nat → Value) (fps : List (List (List Nat))) (old : Nat), (∀ e ∈ es, e.length = k) → fps.length = es.length → (∀ f ∈ fps, f.length = k) →
      (∀ (i j : Nat) (e : List T) (t : T) (fs : List (List Nat)) (f : List Nat), es[i]? = some e → e[j]? = some t → fps[i]? = some fs → fs[j]? = some f → OW w t (val i j) f) → (∀ b ∈ fps.flatten.flatten, b < w.heap.size) →
      OW (w.drew.alloc (.cells ((flatV val es.length k).toArray ++ (flatV val' es'.length k).toArray ++ Builtin.zeroCells z.cells (grownCap w (es.length + es'.length) old e - (es.length + es'.length))) e)) (.sl k (es ++ es'))
        (.slice (some ⟨w.heap.size, 0, none⟩) (es.length + es'.length) (grownCap w (es.length + es'.length) old e)) (w.heap.size :: (fps ++ fps').flatten.flatten) := by
    intro val fps old g1 g2 g3 g4 g5
    have hge := grownCap_ge w (es.length + es'.length) old e
    have hfr : ∀ {t : T} {u : Value} {f : List Nat}, OW w t u f → (∀ b ∈ f, b < w.heap.size) → OW (w.drew.alloc (.cells ((flatV val es.length k).toArray ++ (flatV val' es'.length k).toArray ++ Builtin.zeroCells z.cells (grownCap w (es.length + es'.length) old e - (es.length + es'.length))) e)) t u f :=
      fun h hl => h.frame fun b hb => Below.heap_alloc w.drew _ b (hl b hb)
    refine OW.join (heap_alloc_new w.drew _) hge (grownCap_le_maxLen w _ old e h63) ?_ hkp g1 hk' g2 hf' g3 hfk' (fun i j hi hj => ?_) (fun i j hi hj => ?_) (fun i j e t fs f h1 h2 h3 h4 => hfr (g4 i j e t fs f h1 h2 h3 h4) fun b hb => g5 b (mem_ff h3 h4 hb))
      fun i j e t fs f h1 h2 h3 h4 => hfr (hOW i j e t fs f h1 h2 h3 h4) fun b hb => hltn b (mem_ff h3 h4 hb)
    · simp only [Array.size_append, List.size_toArray, size_zeroCells, flatV_len, hzc, ← hkz, ← Nat.add_mul]
      rw [Nat.zero_add]
      exact Nat.le_of_eq (by congr 1; omega)
    · have h1 := flatV_at (val := val) hi hj
      have h2 := getE_lt h1
      rw [Nat.zero_add, Array.append_assoc, Array.getElem?_append_left (by simpa using h2)]
      simpa using h1
    · have h1 := flatV_at (val := val') hi hj
      have h2 := getE_lt h1
      rw [Nat.zero_add, Array.append_assoc, Array.getElem?_append_right (by simp only [List.size_toArray, flatV_len]; rw [Nat.add_mul]; omega)]
      simp only [List.size_toArray, flatV_len]
      rw [show (es.length + i) * k + j - es.length * k = i * k + j by rw [Nat.add_mul]; omega, Array.getElem?_append_left (by simpa using h2)]
      simpa using h1
  rcases h.open_ with ⟨rfl, rfl, rfl⟩ | ⟨b, o, c, tid, cur, val, fps, rfl, rfl, hg, hc, hcm, hcs, hp, hk, hf, hfk, hv, ht⟩
  · have hr := run_append_nil (P := P) (w := w) t ty e i z hm.slice hi hz2 ⟨b', o', none⟩ es'.length c' _ hnl hnews hlen' (by simp [maxLen] at h63; omega) (by simp at hb; rw [hb1]; omega)
    have hg := grown (fun _ _ => undef) [] 0 (by simp) rfl (by simp) (by simp) (by simp)
    simp only [List.length_nil, Nat.zero_add, List.nil_append] at hg
    refine ⟨_, _, w.heap.size :: fps'.flatten.flatten, hr, ?_, ?_, ?_, rfl, rfl, rfl, by simp, fun b hb _ => Below.heap_alloc w.drew _ b hb⟩
    · have : flatV (fun _ _ => undef) 0 k = [] := by simp [flatV]
      rw [this] at hg
      simpa using hg
    · refine List.nodup_cons.2 ⟨fun hh => ?_, hnd'⟩
      have := hltn _ hh
      omega
    · intro b hb
      rcases List.mem_cons.1 hb with rfl | hb
      · exact .inr (.inr (Nat.le_refl _))
      · exact .inr (.inl hb)
  · have hblt : b < w.heap.size := (Array.getElem?_eq_some_iff.1 hg).1
    have hndf := (List.nodup_cons.1 hnd)
    by_cases hroom : es.length + es'.length ≤ c
    · have hmul : (es.length + es'.length) * k ≤ c * k := Nat.mul_le_mul_right _ hroom
      rw [Nat.add_mul] at hmul
      have hfit : o + es.length * i.size + (flatV val' es'.length k).length ≤ cur.size := by rw [flatV_len, hsk]; omega
      have hr := run_append_room' (P := P) t ty e i hm.slice hi b o es.length c tid cur hg ⟨b', o', none⟩ es'.length c' _ hnl hnews hnone hroom hfit
      rw [hsk, flatV_len] at hr
      have hfr : ∀ {t : T} {u : Value} {f : List Nat}, OW w t u f → b ∉ f → OW (w.setRow b (cur.toList.take (o + es.length * k) ++ flatV val' es'.length k ++ cur.toList.drop (o + es.length * k + es'.length * k)).toArray) t u f :=
        fun h hl => h.frame fun b' hb' => setRow_other w b b' _ fun e => hl (e ▸ hb')
      have htk : (cur.toList.take (o + es.length * k)).length = o + es.length * k := by
        have h7 : cur.toList.length = cur.size := Array.length_toList
        rw [List.length_take, h7]
        rw [hsk, flatV_len] at hfit
        omega
      refine ⟨_, _, _, hr, OW.join (setRow_heap w b cur _ tid _ hg) hroom hcm ?_ hp hk hk' hf hf' hfk hfk' (fun i j hi hj => ?_) (fun i j hi hj => ?_) (fun i j e t fs f h1 h2 h3 h4 => hfr (ht i j e t fs f h1 h2 h3 h4) fun hh => hndf.1 (mem_ff h3 h4 hh))
        (fun i j e t fs f h1 h2 h3 h4 => hfr (hOW i j e t fs f h1 h2 h3 h4) fun hh => hdis b (by simp) (mem_ff h3 h4 hh)), ?_, ?_, rfl, rfl, rfl, by simp [World.setRow], fun b'' _ hb'' => setRow_other w b b'' _ fun e => hb'' (by simp [e])⟩
      · simp only [List.size_toArray, List.length_append, htk, flatV_len, List.length_drop, Array.length_toList]
        omega
      · have h1 := ij_lt hi hj
        have h2 := hv i j hi hj
        simp only [List.getElem?_toArray]
        rw [List.append_assoc, List.getElem?_append_left (by rw [htk]; omega), List.getElem?_take, if_pos (by omega)]
        simpa using h2
      · have h1 := ij_lt hi hj
        simp only [List.getElem?_toArray]
        rw [List.append_assoc, List.getElem?_append_right (by rw [htk, Nat.add_mul]; omega), htk, show o + (es.length + i) * k + j - (o + es.length * k) = i * k + j by rw [Nat.add_mul]; omega,
          List.getElem?_append_left (by rw [flatV_len]; exact h1)]
        exact flatV_at hi hj
      · refine List.nodup_cons.2 ⟨fun hh => ?_, ?_⟩
        · rw [List.flatten_append, List.flatten_append] at hh
          rcases List.mem_append.1 hh with hh | hh
          · exact hndf.1 hh
          · exact hdis b (by simp) hh
        · rw [List.flatten_append, List.flatten_append]
          exact List.nodup_append.2 ⟨hndf.2, hnd', fun x hx y hy e => hdis x (List.mem_cons_of_mem _ hx) (e ▸ hy)⟩
      · intro x hx
        rcases List.mem_cons.1 hx with rfl | hx
        · exact .inl (by simp)
        · rw [List.flatten_append, List.flatten_append] at hx
          rcases List.mem_append.1 hx with hx | hx
          · exact .inl (List.mem_cons_of_mem _ hx)
          · exact .inr (.inl hx)
    · have holds : ∀ j u, (flatV val es.length k)[j]? = some u → w.cell? ((⟨b, o, none⟩ : Addr).add j) = some u := by
        intro j u hj
        obtain ⟨h1, h2, rfl, h3⟩ := flatV_get hj
        rw [add_lit, cell_of_row w b (o + j) cur tid (0, 0) hg, ← hv _ _ h1 h2, Nat.add_assoc, h3]
      have hr := run_append_grow (P := P) (w := w) t ty e i z hm.slice hi hz2 ⟨b, o, none⟩ es.length c (flatV val es.length k) (by rw [flatV_len, hsk]) holds ⟨b', o', none⟩ es'.length c' _ hnl hnews (by omega) (by simp [maxLen] at h63; omega) (growslice_fits (by omega) (by rw [hb1]; exact hb))
      have h5 : ∀ x ∈ fps.flatten.flatten, x < w.heap.size := by
        intro x hx
        exact h.lt x (List.mem_cons_of_mem _ hx)
      refine ⟨_, _, _, hr, grown val fps c hk hf hfk ht h5, ?_, ?_, rfl, rfl, rfl, by simp, fun b hb _ => Below.heap_alloc w.drew _ b hb⟩
      · refine List.nodup_cons.2 ⟨fun hh => ?_, ?_⟩
        · rw [List.flatten_append, List.flatten_append] at hh
          rcases List.mem_append.1 hh with hh | hh
          · have := h5 _ hh; omega
          · have := hltn _ hh; omega
        · rw [List.flatten_append, List.flatten_append]
          exact List.nodup_append.2 ⟨hndf.2, hnd', fun x hx y hy e => hdis x (List.mem_cons_of_mem _ hx) (e ▸ hy)⟩
      · intro x hx
        rcases List.mem_cons.1 hx with rfl | hx
        · exact .inr (.inr (Nat.le_refl _))
        · rw [List.flatten_append, List.flatten_append] at hx
          rcases List.mem_append.1 hx with hx | hx
          · exact .inl (List.mem_cons_of_mem _ hx)
          · exact .inr (.inl hx)
end
end Go.Proofs.Ytjkpoffhnccanaa
