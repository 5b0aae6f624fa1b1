/-
  What the two DecodeStream return is the same. No statement of the program is proved here: plain law.
  Conditions: none.
-/
import Derived.Test.YtkfnaniegldfaaaDDecC
import Derived.Test.YtkfnaniegldfaaaDStream
set_option linter.unusedSimpArgs false
set_option linter.unusedVariables false
namespace Go.Proofs.Ytkfnaniegldfaaa
open Go.RowKit

/-! ### Numbers -/
theorem bytesL_len {s : ByteArray} {q k : Nat} (h : q + k ≤ s.size) : (bytesL s q k).length = k := by
  have : s.data.toList.length = s.size := by simp
  simp [bytesL]; omega
theorem dvGo_canon (s : ByteArray) (q : Nat) : ∀ (f k : Nat) (m : Int) (j : Nat), q + k ≤ s.size → (∀ a ∈ bytesL s q k, 128 ≤ a.toNat) → dvGo s q (dval (bytesL s q k) : Nat) k f = some (m, j) → encVar m = bytesL s q j := by
  intro f
  induction f with
  | zero => intro k m j _ _ h; simp [dvGo] at h
  | succ f ih =>
    intro k m j hqk hall h
    have hlen := bytesL_len hqk
    rw [dvGo] at h
    split at h
    · rename_i hlt
      obtain ⟨b, hb, hcb⟩ := bytesL_succ hlt
      have hval : (dval (bytesL s q k) : Int) + byteAt s (q + k) % 128 * 2 ^ (7 * k) = ((dval (bytesL s q (k + 1)) : Nat) : Int) := by
        rw [hb, dval_snoc, hlen, hcb]
        push_cast
        rfl
      rw [hval] at h
      split at h
      · rename_i h128
        refine ih (k + 1) m j (by omega) (fun a ha => ?_) h
        rw [hb] at ha
        rcases List.mem_append.1 ha with ha | ha
        · exact hall a ha
        · simp only [List.mem_singleton] at ha
          rw [ha]; omega
      · rename_i h128
        split at h
        · cases h
        · rename_i hbad
          simp only [Option.some.injEq, Prod.mk.injEq] at h
          obtain ⟨rfl, rfl⟩ := h
          have hcan := canon (b := b) (by omega) (bytesL s q k) hall
          have hnil : bytesL s q k = [] ↔ k = 0 := by rw [← List.length_eq_zero_iff, hlen]
          rw [← hb, hnil] at hcan
          rw [encVar, if_pos (by omega), show ((dval (bytesL s q (k + 1)) : Nat) : Int).toNat = dval (bytesL s q (k + 1)) by omega]
          exact hcan.2 (by omega)
    · cases h
theorem decVar_canon {s : ByteArray} {p m : Int} {j : Nat} (h : decVar s p = some (m, j)) : encVar m = bytesL s p.toNat j := by
  unfold decVar at h
  split at h
  · exact dvGo_canon s p.toNat 6 0 m j (by omega) (by simp [bytesL]) (by simpa [bytesL, dval] using h)
  · cases h
theorem signless_signed {u : Int} (h : 0 ≤ u ∧ u ≤ 1099511627775) : signless (signed u) = u := by
  unfold signed
  rw [if_pos h]
  split
  · rw [signless, if_pos (by omega), if_pos (by omega)]; omega
  · rw [signless, if_pos (by omega), if_neg (by omega)]; omega
/-! ### Lists -/
theorem bytesL_app {s : ByteArray} {q j k : Nat} : bytesL s q j ++ bytesL s (q + j) k = bytesL s q (j + k) := by
  unfold bytesL
  rw [← List.drop_drop, List.take_add]
def packB (l : List Int) : List UInt8 := l.flatMap fun x => encVar (signless x)
theorem uiGo_canon (s : ByteArray) (p : Nat) : ∀ (c pos : Nat) (l : List Int) (j : Nat), uiGo s p c pos = some (l, j) → pos ≤ j ∧ packB l = bytesL s (p + pos) (j - pos) ∧ ∀ x ∈ l, 0 ≤ signless x := by
  intro c
  induction c with
  | zero =>
    intro pos l j h
    simp only [uiGo, Option.some.injEq, Prod.mk.injEq] at h
    obtain ⟨rfl, rfl⟩ := h
    exact ⟨Nat.le_refl _, by simp [packB, bytesL], fun x hx => by simp at hx⟩
  | succ c ih =>
    intro pos l j h
    rw [uiGo] at h
    split at h
    · cases h
    · rename_i v m hd
      obtain ⟨r, h1, h2⟩ := Option.map_eq_some_iff.1 h
      simp only [Prod.mk.injEq] at h2
      obtain ⟨rfl, rfl⟩ := h2
      have hm := decVar_some hd
      have hcn := decVar_canon hd
      obtain ⟨a1, a2, a3⟩ := ih (pos + m) r.1 r.2 h1
      have hsg := signless_signed (u := v) (by omega)
      refine ⟨by omega, ?_, fun x hx => ?_⟩
      · rw [packB, List.flatMap_cons, hsg, hcn, show ((p : Int) + (pos : Int)).toNat = p + pos by omega]
        show bytesL s (p + pos) m ++ packB r.1 = _
        rw [a2, show p + (pos + m) = p + pos + m by omega, bytesL_app]
        congr 1
        omega
      · rcases List.mem_cons.1 hx with rfl | hx
        · rw [hsg]; omega
        · exact a3 x hx
theorem unpackInts_canon {s : ByteArray} {p : Int} {l : List Int} {j : Nat} (h : unpackInts s p = some (l, j)) : packInts l = bs (bytesL s p.toNat j) := by
  unfold unpackInts at h
  split at h
  · cases h
  · rename_i n k hd
    have hm := decVar_some hd
    have hcn := decVar_canon hd
    obtain ⟨a1, a2, a3⟩ := uiGo_canon s _ _ _ _ _ h
    obtain ⟨b1, b2, b3, b4⟩ := uiGo_some s _ _ _ _ _ h
    have hall : (l.all fun x => decide (0 ≤ signless x)) = true := List.all_eq_true.2 fun x hx => decide_eq_true (a3 x hx)
    rw [packInts, if_pos hall, packK, List.take_length, show (l.length : Int) = n by omega, hcn]
    show bs (bytesL s p.toNat k ++ packB l) = _
    rw [a2, bytesL_app]
    congr 2
    omega
/-! ### Texts -/
theorem unpackText_canon {s t : ByteArray} {p : Int} {j : Nat} (h : unpackText s p = some (t, j)) : packText t = bs (bytesL s p.toNat j) := by
  unfold unpackText at h
  split at h
  · cases h
  · rename_i n k hd
    have hm := decVar_some hd
    have hcn := decVar_canon hd
    split at h
    · cases h
    · simp only [Option.some.injEq, Prod.mk.injEq] at h
      obtain ⟨rfl, rfl⟩ := h
      have hsz : (s.extract (p + k).toNat (p + k + n).toNat).size = n.toNat := by
        rw [ByteArray.size_extract]; omega
      rw [packText, hsz, show ((n.toNat : Nat) : Int) = n by omega, hcn, show (p + k + n).toNat = (p + k).toNat + n.toNat by omega, extract_bytes, bs_app, show (p + k).toNat = p.toNat + k by omega, bytesL_app]
theorem utGo_nil (s : ByteArray) (h : s.size = 0) (f : Nat) : utGo s f 0 [] = some [] := utGo_end (by omega) f []
/-- An unpacked track of some length has good inputs. -/
theorem unpackTrack_ok {t : ByteArray} {l : List Int} (h : unpackTrack t = some l) (hl : 0 < l.length) : inOk l = true := by
  obtain ⟨h1, h2, _⟩ := unpackTrack_some h
  cases ho : inOk l with
  | true => rfl
  | false =>
    rw [packTrack, if_neg (by rw [ho]; simp)] at h1
    subst h1
    rw [show unpackTrack (bs []) = some [] from unpackTrack_nil] at h
    simp only [Option.some.injEq] at h
    rw [← h] at hl
    simp at hl
/-! ### Columns -/
theorem colM_snocs {rows : List (List Int)} {l : List Int} {k : Nat} (hl : l.length = rows.length) (hk : ∀ r ∈ rows, r.length = k) : colM (snocs rows l) k = l ∧ ∀ i, i < k → colM (snocs rows l) i = colM rows i := by
  have hlen := snocs_len hl
  refine ⟨List.ext_getElem (by rw [colM_len, hlen, hl]) fun q h1 h2 => ?_, fun i hi => List.ext_getElem (by rw [colM_len, colM_len, hlen]) fun q h1 h2 => ?_⟩
  · have h3 : q < rows.length := by omega
    simp only [colM, List.getElem_map]
    rw [snocs_at h3 h2]
    have := hk _ (List.getElem_mem h3)
    simp [List.getD_eq_getElem?_getD, this]
  · rw [colM_len] at h2
    simp only [colM, List.getElem_map]
    rw [snocs_at h2 (by omega)]
    have := hk _ (List.getElem_mem h2)
    simp [List.getD_eq_getElem?_getD, List.getElem?_append_left, this, hi]
theorem snocs_lens {rows : List (List Int)} {l : List Int} {k : Nat} (hl : l.length = rows.length) (hk : ∀ r ∈ rows, r.length = k) : ∀ r ∈ snocs rows l, r.length = k + 1 := fun r hr => by
  obtain ⟨q, hq, rfl⟩ := List.getElem_of_mem hr
  have h3 : q < rows.length := by rw [snocs_len hl] at hq; exact hq
  rw [snocs_at h3 (by omega)]
  have := hk _ (List.getElem_mem h3)
  simp [this]
theorem colsB_eq {a b : List (List Int)} : ∀ k, (∀ i, i < k → colM a i = colM b i) → colsB a k = colsB b k
  | 0, _ => rfl
  | k + 1, h => by rw [colsB, colsB, h k (by omega), colsB_eq k fun i hi => h i (by omega)]
theorem colsGo_canon (s : ByteArray) (n : Nat) (hn : 0 < n) : ∀ (c pos : Nat) (rows : List (List Int)) (k : Nat) (R : List (List Int)) (e : Nat), pos ≤ s.size → rows.length = n → (∀ r ∈ rows, r.length = k) → (∀ i, i < k → inOk (colM rows i) = true) → colsGo s n c pos rows = some (R, e) →
    R.length = n ∧ pos ≤ e ∧ e ≤ s.size ∧ (∀ r ∈ R, r.length = k + c) ∧ (∀ i, i < k + c → inOk (colM R i) = true) ∧ colsB R (k + c) = colsB rows k ++ bs (bytesL s pos (e - pos)) := by
  intro c
  induction c with
  | zero =>
    intro pos rows k R e hp h1 h2 h3 h
    simp only [colsGo, Option.some.injEq, Prod.mk.injEq] at h
    obtain ⟨rfl, rfl⟩ := h
    exact ⟨h1, Nat.le_refl _, hp, h2, h3, by rw [Nat.sub_self, show bytesL s pos 0 = [] by simp [bytesL], app_nil]; rfl⟩
  | succ c ih =>
    intro pos rows k R e hp h1 h2 h3 h
    rw [colsGo] at h
    split at h
    · cases h
    · rename_i t m hv
      have hm := unpackText_some hv
      have hcn := unpackText_canon hv
      split at h
      · cases h
      · rename_i l hw
        split at h
        · rename_i hl
          have hl' : l.length = rows.length := by omega
          obtain ⟨c1, c2⟩ := colM_snocs hl' h2
          have hin := unpackTrack_ok hw (by omega)
          obtain ⟨g1, g2, g3, g4, g5, g6⟩ := ih (pos + m) (snocs rows l) (k + 1) R e (by omega) (by rw [snocs_len hl']; exact h1) (snocs_lens hl' h2) (fun i hi => by
            by_cases hik : i = k
            · rw [hik, c1]; exact hin
            · rw [c2 i (by omega)]; exact h3 i (by omega)) h
          refine ⟨g1, by omega, g3, by rw [show k + (c + 1) = k + 1 + c by omega]; exact g4, by rw [show k + (c + 1) = k + 1 + c by omega]; exact g5, ?_⟩
          rw [show k + (c + 1) = k + 1 + c by omega, g6, colsB, c1, colsB_eq k c2, (unpackTrack_some hw).1, hcn, ByteArray.append_assoc, show (pos : Int).toNat = pos by omega, bs_app (bytesL s pos m), bytesL_app, show m + (e - (pos + m)) = e - pos by omega]
        · cases h
/-! ### DecodeStream -/
def dsI (t : ByteArray) : Option (Int × List (List Int)) := match openText t with
  | none => none
  | some b => match unpackInts b 0 with
    | some ([h0, h1, h2], pos) => if (0 ≤ h0 ∧ h0 ≤ 400) ∧ (1 ≤ h1 ∧ h1 ≤ 20) ∧ (1 ≤ h2 ∧ h2 ≤ 4) then (match colsGo b h1.toNat h2.toNat pos (List.replicate h1.toNat []) with
      | none => none
      | some (rows, e) => if e = b.size then some (h0, rows) else none) else none
    | _ => none
def dsS (t : ByteArray) : Option (Int × List (List Int)) := match openText t with
  | none => none
  | some b => match unpackInts b 0 with
    | some ([h0, h1, h2], pos) => if (1 ≤ h1 ∧ h1 ≤ 20) ∧ (1 ≤ h2 ∧ h2 ≤ 4) then (match colsGo b h1.toNat h2.toNat pos (List.replicate h1.toNat []) with
      | none => none
      | some (rows, e) => if encodeStream h0 rows = t then some (h0, rows) else none) else none
    | _ => none
theorem sealText_inj {a b : ByteArray} : sealText a = sealText b ↔ a = b := ⟨fun h => by
  have := openText_seal a
  rw [h, openText_seal b] at this
  simpa using this.symm, fun h => by rw [h]⟩
theorem bytesL_all (s : ByteArray) (k : Nat) (h : k ≤ s.size) : bs (bytesL s 0 k) = s ↔ k = s.size := by
  constructor
  · intro e
    have := congrArg ByteArray.size e
    rw [bs_size, bytesL_len (by omega)] at this
    exact this
  · intro e
    subst e
    unfold bytesL
    rw [List.drop_zero, show s.size = s.data.toList.length by simp, List.take_length, bs_of]
theorem ds_eq (t : ByteArray) : dsI t = dsS t := by
  unfold dsI dsS
  cases ho : openText t with
  | none => rfl
  | some b =>
    obtain ⟨hseal, hsz⟩ := openText_some ho
    simp only []
    cases hu : unpackInts b 0 with
    | none => rfl
    | some r =>
      obtain ⟨l, pos⟩ := r
      split
      · rename_i h0 h1 h2 pos' he
        simp only [Option.some.injEq, Prod.mk.injEq] at he
        obtain ⟨rfl, rfl⟩ := he
        have hcn := unpackInts_canon hu
        have hus := unpackInts_some hu
        by_cases hin : (1 ≤ h1 ∧ h1 ≤ 20) ∧ (1 ≤ h2 ∧ h2 ≤ 4)
        · rw [if_pos hin]
          cases hc : colsGo b h1.toNat h2.toNat pos (List.replicate h1.toNat []) with
          | none => split <;> rfl
          | some r =>
            obtain ⟨rows, e⟩ := r
            obtain ⟨g1, g2, g3, g4, g5, g6⟩ := colsGo_canon b h1.toNat (by omega) h2.toNat pos (List.replicate h1.toNat []) 0 rows e (by omega) (by simp) (fun r hr => by rw [List.eq_of_mem_replicate hr]; rfl) (fun i hi => by omega) hc
            rw [Nat.zero_add] at g4 g5 g6
            have hhd : ((rows.headD []).length : Int) = h2 := by
              rw [head_at (by omega), g4 _ (List.getElem_mem _)]; omega
            have hall : (rows.all fun r => rowOk r (rows.headD []).length) = true := by
              rw [hhd]
              refine List.all_eq_true.2 fun r hr => ?_
              have hrl := g4 r hr
              simp only [rowOk, Bool.and_eq_true, decide_eq_true_eq]
              refine ⟨by omega, List.all_eq_true.2 fun x hx => ?_⟩
              obtain ⟨i, hi, rfl⟩ := List.getElem_of_mem hx
              obtain ⟨q, hq, rfl⟩ := List.getElem_of_mem hr
              have h7 := g5 i (by omega)
              have h8 := List.all_eq_true.1 h7 ((rows[q]).getD i 0) (List.mem_map.2 ⟨rows[q], List.getElem_mem hq, rfl⟩)
              simpa [List.getD_eq_getElem?_getD, hi] using h8
            have hiff : encodeStream h0 rows = t ↔ (0 ≤ h0 ∧ h0 ≤ 400) ∧ e = b.size := by
              unfold encodeStream
              by_cases hh : 0 ≤ h0 ∧ h0 ≤ 400
              · rw [if_pos ⟨inR_iff.2 hh, inR_iff.2 (by omega), inR_iff.2 (by omega), hall⟩, ← hseal, sealText_inj, hhd, show ((rows.length : Nat) : Int) = h1 by omega, hcn, show (rows.headD []).length = h2.toNat by omega, g6, colsB]
                have h9 : bs (bytesL b (0 : Int).toNat pos) ++ (bs [] ++ bs (bytesL b pos (e - pos))) = bs (bytesL b 0 e) := by
                  rw [bs_app [], List.nil_append, bs_app, show (0 : Int).toNat = 0 from rfl]
                  have h10 := bytesL_app (s := b) (q := 0) (j := pos) (k := e - pos)
                  rw [Nat.zero_add] at h10
                  rw [h10, show pos + (e - pos) = e by omega]
                rw [h9, bytesL_all b e g3]
                exact ⟨fun h => ⟨hh, h⟩, fun h => h.2⟩
              · rw [if_neg (fun h => hh (inR_iff.1 h.1))]
                refine ⟨fun h => ?_, fun h => absurd h.1 hh⟩
                have := congrArg ByteArray.size h
                rw [bs_size] at this
                simp at this
                omega
            by_cases hh : 0 ≤ h0 ∧ h0 ≤ 400
            · rw [if_pos ⟨hh, hin⟩]
              simp only []
              by_cases he : e = b.size
              · rw [if_pos he, if_pos (hiff.2 ⟨hh, he⟩)]
              · rw [if_neg he, if_neg (fun h => he (hiff.1 h).2)]
            · rw [if_neg (fun h => hh h.1)]
              simp only []
              rw [if_neg (fun h => hh (hiff.1 h).1)]
        · rw [if_neg hin, if_neg (fun h => hin h.2)]
      · rename_i hx
        rfl
end Go.Proofs.Ytkfnaniegldfaaa
