/-
  The hunt for the first difference of two lists of sums: what SumsAgree, StartHunt, ProbeOf, Narrow and RunHunt return, in the program and in the reference: one plain function for both.
  Conditions: at most 2^20 elements.
-/
import Derived.Test.YtjkpoffhnccanaaIntS
import Derived.Test.YtjkpoffhnccanaaFacts
import Derived.Test.YtjkpoffhnccanaaQuiet
import Derived.Handy
set_option linter.unusedSimpArgs false
namespace Go.Proofs.Ytjkpoffhnccanaa
open Go.RowKit

theorem ret_int {k : IntKind} {a b : Int} (h : a = b) : Ending.returned (.int k a) = .returned (.int k b) := by rw [h]

theorem bcell {W w1 : World} (hb : Below W.heap.size W w1) : (∀ b o, b < W.heap.size → w1.cell? ⟨b, o, none⟩ = W.cell? ⟨b, o, none⟩) ∧ (∀ b o, b < W.heap.size → w1.frozen? ⟨b, o, none⟩ = W.frozen? ⟨b, o, none⟩) :=
  ⟨fun b o h => hb.cell (p := ⟨b, o, none⟩) h, fun b o h => hb.frozen (p := ⟨b, o, none⟩) h⟩

/-! ### The plain functions -/
def agree (a b : List Int) (k : Int) : Bool := decide (0 ≤ k) && decide (k.toNat < a.length) && decide (k.toNat < b.length) && (a.getD k.toNat 0 == b.getD k.toNat 0)
def probe (l h : Int) : Int := if 0 ≤ l ∧ h ≤ 1000000 ∧ 2 ≤ h ∧ l ≤ h - 2 then (l + h) / 2 else -1
def hvals (l h s : Int) : Array Value := #[.int .i64 l, .int .i64 h, .int .i64 s]

def last (a b : List Int) : Int := min (a.length : Int) b.length - 1
def starts (a b : List Int) : Bool := !decide (last a b < 0) && agree a b 0 && !agree a b (last a b)
def nextL (ag : Bool) (l h : Int) : Int := if ag then (l + h) / 2 else l
def nextH (ag : Bool) (l h : Int) : Int := if ag then h else (l + h) / 2
def nextS (s : Int) : Int := if s < 1000000 then s + 1 else s
theorem probe_in {l h : Int} (h1 : 0 ≤ l) (h2 : h ≤ 1000000) (h3: 2 ≤ h) (h4 : l ≤ h - 2) : (l + h)/2 = probe l h := by
  unfold probe; rw [if_pos ⟨h1, h2, h3, h4⟩]
theorem probe_out {l h : Int} (hh : l < 0 ∨ 1000000 < h ∨ h < 2 ∨ h - 2 < l) : -1 = probe l h := by
  unfold probe; rw [if_neg (by omega)]
theorem agree_in {a b : List Int} {k : Nat} (h1 : k < a.length) (h2 : k < b.length) : (a[k] == b[k]) = agree a b k := by
  simp [agree, h1, h2]
theorem agree_a {a b : List Int} {k : Int} (h : k < 0 ∨ a.length ≤ k.toNat ∨ b.length ≤ k.toNat) : false = agree a b k := by
  simp only [agree]
  symm
  rcases h with h | h | h
  · simp; omega
  · simp; omega
  · simp; omega

set_option maxHeartbeats 400000 in
theorem S_probe (l h s : Int) (w : World) (_hl : -9223372036854775808 ≤ l) (_hl2 : l ≤ 9223372036854775807) (_hh : -9223372036854775808 ≤ h) (_hh2 : h ≤ 9223372036854775807) :
    Calls Try.prog 36 #[.agg #[.int .i64 l, .int .i64 h, .int .i64 s]] w fun e w' => e = .returned (.int .i64 (probe l h)) ∧ Below w.heap.size w w' := by
  go_enter Try.func36, Try.ntmps36
  go_wp2
  all_goals (go_ret; refine ⟨ret_int ?_, (Below.refl _ _).alloc (Nat.le_refl _) _⟩; first | exact probe_in (by omega) (by omega) (by omega) (by omega) | exact probe_out (by omega))

set_option maxHeartbeats 800000 in
theorem S_narrow (l h s : Int) (ag : Bool) (w : World) (h0 : 0 ≤ l) (h1 : h ≤ 1000000) (h2 : 2 ≤ h) (h3 : l ≤ h - 2) (h4 : 0 ≤ s) (h5 : s ≤ 1000000) :
    Calls Try.prog 37 #[.agg #[.int .i64 l, .int .i64 h, .int .i64 s], .bool ag] w fun e w' =>
      e = .returned (.agg #[.int .i64 (nextL ag l h), .int .i64 (nextH ag l h), .int .i64 (nextS s)]) ∧ Below w.heap.size w w' := by
  have hp := Lib.hid (probe_in h0 h1 h2 h3)
  have hk0 : 0 ≤ (l + h) / 2 := by omega
  have hS := Sat.refl w
  by_cases hs : s < 1000000 <;> cases ag
  all_goals
    go_enter Try.func37, Try.ntmps37
    go_wp2_with (first | (refine at_load rfl ?_; first | (refine wpl_load1 rfl _ _ rfl hS 0 _ _ rfl _ _ rfl _ rfl ?_) | (refine wpl_load1 rfl _ _ rfl hS 1 _ _ rfl _ _ rfl _ rfl ?_) | (refine wpl_loadN rfl _ _ rfl hS 0 _ _ rfl _ _ rfl _ (by simp only [List.set_cons_zero, List.set_cons_succ, List.drop_succ_cons, List.drop_zero, List.take_succ_cons, List.take_zero, setFrom]; exact rfl) (by rfl) ?_) | (refine wpl_loadN rfl _ _ rfl hS 1 _ _ rfl _ _ rfl _ (by simp only [List.set_cons_zero, List.set_cons_succ, List.drop_succ_cons, List.drop_zero, List.take_succ_cons, List.take_zero, setFrom]; exact rfl) (by rfl) ?_)) | (refine at_store rfl ?_; first | (refine wpl_store1 rfl _ _ _ rfl hS 0 _ _ rfl (.int _ _) rfl _ _ rfl rfl rfl (by simp only [List.set_cons_zero, List.set_cons_succ, List.drop_succ_cons, List.drop_zero, List.take_succ_cons, List.take_zero, setFrom]; exact rfl) ?_; clear hS; intro w hS) | (refine wpl_store1 rfl _ _ _ rfl hS 1 _ _ rfl (.int _ _) rfl _ _ rfl rfl rfl (by simp only [List.set_cons_zero, List.set_cons_succ, List.drop_succ_cons, List.drop_zero, List.take_succ_cons, List.take_zero, setFrom]; exact rfl) ?_; clear hS; intro w hS) | (refine wpl_store1 rfl _ _ _ rfl hS 0 _ _ rfl (.slice _ _ _) rfl _ _ rfl rfl rfl (by simp only [List.set_cons_zero, List.set_cons_succ, List.drop_succ_cons, List.drop_zero, List.take_succ_cons, List.take_zero, setFrom]; exact rfl) ?_; clear hS; intro w hS) | (refine wpl_store1 rfl _ _ _ rfl hS 1 _ _ rfl (.slice _ _ _) rfl _ _ rfl rfl rfl (by simp only [List.set_cons_zero, List.set_cons_succ, List.drop_succ_cons, List.drop_zero, List.take_succ_cons, List.take_zero, setFrom]; exact rfl) ?_; clear hS; intro w hS) | (refine wpl_store1 rfl _ _ _ rfl hS 0 _ _ rfl (.string _) rfl _ _ rfl rfl rfl (by simp only [List.set_cons_zero, List.set_cons_succ, List.drop_succ_cons, List.drop_zero, List.take_succ_cons, List.take_zero, setFrom]; exact rfl) ?_; clear hS; intro w hS) | (refine wpl_store1 rfl _ _ _ rfl hS 1 _ _ rfl (.string _) rfl _ _ rfl rfl rfl (by simp only [List.set_cons_zero, List.set_cons_succ, List.drop_succ_cons, List.drop_zero, List.take_succ_cons, List.take_zero, setFrom]; exact rfl) ?_; clear hS; intro w hS) | (refine wpl_store1 rfl _ _ _ rfl hS 0 _ _ rfl (.bool _) rfl _ _ rfl rfl rfl (by simp only [List.set_cons_zero, List.set_cons_succ, List.drop_succ_cons, List.drop_zero, List.take_succ_cons, List.take_zero, setFrom]; exact rfl) ?_; clear hS; intro w hS) | (refine wpl_store1 rfl _ _ _ rfl hS 1 _ _ rfl (.bool _) rfl _ _ rfl rfl rfl (by simp only [List.set_cons_zero, List.set_cons_succ, List.drop_succ_cons, List.drop_zero, List.take_succ_cons, List.take_zero, setFrom]; exact rfl) ?_; clear hS; intro w hS) | (refine wpl_store1 rfl _ _ _ rfl hS 0 _ _ rfl (.pointer _) rfl _ _ rfl rfl rfl (by simp only [List.set_cons_zero, List.set_cons_succ, List.drop_succ_cons, List.drop_zero, List.take_succ_cons, List.take_zero, setFrom]; exact rfl) ?_; clear hS; intro w hS) | (refine wpl_store1 rfl _ _ _ rfl hS 1 _ _ rfl (.pointer _) rfl _ _ rfl rfl rfl (by simp only [List.set_cons_zero, List.set_cons_succ, List.drop_succ_cons, List.drop_zero, List.take_succ_cons, List.take_zero, setFrom]; exact rfl) ?_; clear hS; intro w hS) | (refine wpl_storeN rfl _ _ _ rfl hS 0 _ _ rfl _ rfl _ _ rfl (by rfl) rfl rfl (by simp only [List.set_cons_zero, List.set_cons_succ, List.drop_succ_cons, List.drop_zero, List.take_succ_cons, List.take_zero, setFrom]; exact rfl) ?_; clear hS; intro w hS) | (refine wpl_storeN rfl _ _ _ rfl hS 1 _ _ rfl _ rfl _ _ rfl (by rfl) rfl rfl (by simp only [List.set_cons_zero, List.set_cons_succ, List.drop_succ_cons, List.drop_zero, List.take_succ_cons, List.take_zero, setFrom]; exact rfl) ?_; clear hS; intro w hS)) | (refine wpl_box rfl _ _ rfl hS _ rfl ?_; clear hS; intro g w hS) | (refine wpl_alloc rfl _ rfl hS ?_; clear hS; intro g w hS))
    refine (S_probe l h s _ (by omega) (by omega) (by omega) (by omega)).mono ?_
    rintro e w1 ⟨rfl, hb⟩
    have hS := hS.step hb
    rw [← hp.out]
    clear hb
    go_wp2_with (first | (refine at_load rfl ?_; first | (refine wpl_load1 rfl _ _ rfl hS 0 _ _ rfl _ _ rfl _ rfl ?_) | (refine wpl_load1 rfl _ _ rfl hS 1 _ _ rfl _ _ rfl _ rfl ?_) | (refine wpl_loadN rfl _ _ rfl hS 0 _ _ rfl _ _ rfl _ (by simp only [List.set_cons_zero, List.set_cons_succ, List.drop_succ_cons, List.drop_zero, List.take_succ_cons, List.take_zero, setFrom]; exact rfl) (by rfl) ?_) | (refine wpl_loadN rfl _ _ rfl hS 1 _ _ rfl _ _ rfl _ (by simp only [List.set_cons_zero, List.set_cons_succ, List.drop_succ_cons, List.drop_zero, List.take_succ_cons, List.take_zero, setFrom]; exact rfl) (by rfl) ?_)) | (refine at_store rfl ?_; first | (refine wpl_store1 rfl _ _ _ rfl hS 0 _ _ rfl (.int _ _) rfl _ _ rfl rfl rfl (by simp only [List.set_cons_zero, List.set_cons_succ, List.drop_succ_cons, List.drop_zero, List.take_succ_cons, List.take_zero, setFrom]; exact rfl) ?_; clear hS; intro w hS) | (refine wpl_store1 rfl _ _ _ rfl hS 1 _ _ rfl (.int _ _) rfl _ _ rfl rfl rfl (by simp only [List.set_cons_zero, List.set_cons_succ, List.drop_succ_cons, List.drop_zero, List.take_succ_cons, List.take_zero, setFrom]; exact rfl) ?_; clear hS; intro w hS) | (refine wpl_store1 rfl _ _ _ rfl hS 0 _ _ rfl (.slice _ _ _) rfl _ _ rfl rfl rfl (by simp only [List.set_cons_zero, List.set_cons_succ, List.drop_succ_cons, List.drop_zero, List.take_succ_cons, List.take_zero, setFrom]; exact rfl) ?_; clear hS; intro w hS) | (refine wpl_store1 rfl _ _ _ rfl hS 1 _ _ rfl (.slice _ _ _) rfl _ _ rfl rfl rfl (by simp only [List.set_cons_zero, List.set_cons_succ, List.drop_succ_cons, List.drop_zero, List.take_succ_cons, List.take_zero, setFrom]; exact rfl) ?_; clear hS; intro w hS) | (refine wpl_store1 rfl _ _ _ rfl hS 0 _ _ rfl (.string _) rfl _ _ rfl rfl rfl (by simp only [List.set_cons_zero, List.set_cons_succ, List.drop_succ_cons, List.drop_zero, List.take_succ_cons, List.take_zero, setFrom]; exact rfl) ?_; clear hS; intro w hS) | (refine wpl_store1 rfl _ _ _ rfl hS 1 _ _ rfl (.string _) rfl _ _ rfl rfl rfl (by simp only [List.set_cons_zero, List.set_cons_succ, List.drop_succ_cons, List.drop_zero, List.take_succ_cons, List.take_zero, setFrom]; exact rfl) ?_; clear hS; intro w hS) | (refine wpl_store1 rfl _ _ _ rfl hS 0 _ _ rfl (.bool _) rfl _ _ rfl rfl rfl (by simp only [List.set_cons_zero, List.set_cons_succ, List.drop_succ_cons, List.drop_zero, List.take_succ_cons, List.take_zero, setFrom]; exact rfl) ?_; clear hS; intro w hS) | (refine wpl_store1 rfl _ _ _ rfl hS 1 _ _ rfl (.bool _) rfl _ _ rfl rfl rfl (by simp only [List.set_cons_zero, List.set_cons_succ, List.drop_succ_cons, List.drop_zero, List.take_succ_cons, List.take_zero, setFrom]; exact rfl) ?_; clear hS; intro w hS) | (refine wpl_store1 rfl _ _ _ rfl hS 0 _ _ rfl (.pointer _) rfl _ _ rfl rfl rfl (by simp only [List.set_cons_zero, List.set_cons_succ, List.drop_succ_cons, List.drop_zero, List.take_succ_cons, List.take_zero, setFrom]; exact rfl) ?_; clear hS; intro w hS) | (refine wpl_store1 rfl _ _ _ rfl hS 1 _ _ rfl (.pointer _) rfl _ _ rfl rfl rfl (by simp only [List.set_cons_zero, List.set_cons_succ, List.drop_succ_cons, List.drop_zero, List.take_succ_cons, List.take_zero, setFrom]; exact rfl) ?_; clear hS; intro w hS) | (refine wpl_storeN rfl _ _ _ rfl hS 0 _ _ rfl _ rfl _ _ rfl (by rfl) rfl rfl (by simp only [List.set_cons_zero, List.set_cons_succ, List.drop_succ_cons, List.drop_zero, List.take_succ_cons, List.take_zero, setFrom]; exact rfl) ?_; clear hS; intro w hS) | (refine wpl_storeN rfl _ _ _ rfl hS 1 _ _ rfl _ rfl _ _ rfl (by rfl) rfl rfl (by simp only [List.set_cons_zero, List.set_cons_succ, List.drop_succ_cons, List.drop_zero, List.take_succ_cons, List.take_zero, setFrom]; exact rfl) ?_; clear hS; intro w hS)) | (refine wpl_box rfl _ _ rfl hS _ rfl ?_; clear hS; intro g w hS) | (refine wpl_alloc rfl _ rfl hS ?_; clear hS; intro g w hS))
    refine bodyPost_ret (run_result_cell _ _ rfl hS 0 _ rfl _ _ rfl rfl) rfl ⟨?_, hS.below⟩
    first | (simp [nextL, nextH, nextS, hs]; done) | (simp [nextL, nextH, nextS]; omega)

theorem S_agree_in (A B : Option Addr) (c d : Nat) (k : Int) (xs ys : List Int) (w : World) (hx : RdList w (Old w) xs A) (hy : RdList w (Old w) ys B) (h0 : 0 ≤ k) (h1 : k.toNat < xs.length) (h2 : k.toNat < ys.length) :
    Calls Try.prog 38 #[.slice A xs.length c, .slice B ys.length d, .int .i64 k] w fun e w' => e = .returned (.bool (agree xs ys k)) ∧ Below w.heap.size w w' := by
  obtain ⟨k, rfl⟩ := Int.eq_ofNat_of_zero_le h0
  rw [Int.toNat_natCast] at h1 h2
  obtain ⟨b, o, es, rfl, hb, hcs, hr⟩ := hx.at_ h1
  obtain ⟨b', o', es', rfl, hb', hcs', hr'⟩ := hy.at_ h2
  obtain ⟨rfl, _⟩ := hr
  obtain ⟨rfl, _⟩ := hr'
  have hcell : w.cell? ⟨b, o + k, none⟩ = _ := (by simpa [Rep.size] using hcs.at_ 0 (by simp))
  have hcell' : w.cell? ⟨b', o' + k, none⟩ = _ := (by simpa [Rep.size] using hcs'.at_ 0 (by simp))
  have g0 : decide ((0 : Int) ≤ (k : Int)) = true := by simp
  clear hcs hcs' hx hy
  have hag := Lib.hid (agree_in h1 h2)
  go_enter Try.func38, Try.ntmps38
  go_wp2
  go_quiet (fail)
  go_wp2
  go_ret
  exact ⟨ret_bool hag.out, below_drewN (Below.refl _ _) _⟩
set_option maxHeartbeats 400000 in
theorem I_probe (l h s : Int) (w : World) (_hl : -9223372036854775808 ≤ l) (_hl2 : l ≤ 9223372036854775807) (_hh : -9223372036854775808 ≤ h) (_hh2 : h ≤ 9223372036854775807) :
    Calls Try.prog 40 #[.agg #[.int .i64 l, .int .i64 h, .int .i64 s]] w fun e w' => e = .returned (.int .i64 (probe l h)) ∧ Below w.heap.size w w' := by
  go_enter Try.func40, Try.ntmps40
  go_wp2
  all_goals (go_ret; refine ⟨ret_int ?_, (Below.refl _ _).alloc (Nat.le_refl _) _⟩; first | exact probe_in (by omega) (by omega) (by omega) (by omega) | exact probe_out (by omega))

set_option maxHeartbeats 800000 in
theorem I_narrow (l h s : Int) (ag : Bool) (w : World) (h0 : 0 ≤ l) (h1 : h ≤ 1000000) (h2 : 2 ≤ h) (h3 : l ≤ h - 2) (h4 : 0 ≤ s) (h5 : s ≤ 1000000) :
    Calls Try.prog 41 #[.agg #[.int .i64 l, .int .i64 h, .int .i64 s], .bool ag] w fun e w' =>
      e = .returned (.agg #[.int .i64 (nextL ag l h), .int .i64 (nextH ag l h), .int .i64 (nextS s)]) ∧ Below w.heap.size w w' := by
  have hp := Lib.hid (probe_in h0 h1 h2 h3)
  have hk0 : 0 ≤ (l + h) / 2 := by omega
  have hS := Sat.refl w
  by_cases hs : s < 1000000 <;> cases ag
  all_goals
    go_enter Try.func41, Try.ntmps41
    go_wp2_with (first | (refine at_load rfl ?_; first | (refine wpl_load1 rfl _ _ rfl hS 0 _ _ rfl _ _ rfl _ rfl ?_) | (refine wpl_load1 rfl _ _ rfl hS 1 _ _ rfl _ _ rfl _ rfl ?_) | (refine wpl_loadN rfl _ _ rfl hS 0 _ _ rfl _ _ rfl _ (by simp only [List.set_cons_zero, List.set_cons_succ, List.drop_succ_cons, List.drop_zero, List.take_succ_cons, List.take_zero, setFrom]; exact rfl) (by rfl) ?_) | (refine wpl_loadN rfl _ _ rfl hS 1 _ _ rfl _ _ rfl _ (by simp only [List.set_cons_zero, List.set_cons_succ, List.drop_succ_cons, List.drop_zero, List.take_succ_cons, List.take_zero, setFrom]; exact rfl) (by rfl) ?_)) | (refine at_store rfl ?_; first | (refine wpl_store1 rfl _ _ _ rfl hS 0 _ _ rfl (.int _ _) rfl _ _ rfl rfl rfl (by simp only [List.set_cons_zero, List.set_cons_succ, List.drop_succ_cons, List.drop_zero, List.take_succ_cons, List.take_zero, setFrom]; exact rfl) ?_; clear hS; intro w hS) | (refine wpl_store1 rfl _ _ _ rfl hS 1 _ _ rfl (.int _ _) rfl _ _ rfl rfl rfl (by simp only [List.set_cons_zero, List.set_cons_succ, List.drop_succ_cons, List.drop_zero, List.take_succ_cons, List.take_zero, setFrom]; exact rfl) ?_; clear hS; intro w hS) | (refine wpl_store1 rfl _ _ _ rfl hS 0 _ _ rfl (.slice _ _ _) rfl _ _ rfl rfl rfl (by simp only [List.set_cons_zero, List.set_cons_succ, List.drop_succ_cons, List.drop_zero, List.take_succ_cons, List.take_zero, setFrom]; exact rfl) ?_; clear hS; intro w hS) | (refine wpl_store1 rfl _ _ _ rfl hS 1 _ _ rfl (.slice _ _ _) rfl _ _ rfl rfl rfl (by simp only [List.set_cons_zero, List.set_cons_succ, List.drop_succ_cons, List.drop_zero, List.take_succ_cons, List.take_zero, setFrom]; exact rfl) ?_; clear hS; intro w hS) | (refine wpl_store1 rfl _ _ _ rfl hS 0 _ _ rfl (.string _) rfl _ _ rfl rfl rfl (by simp only [List.set_cons_zero, List.set_cons_succ, List.drop_succ_cons, List.drop_zero, List.take_succ_cons, List.take_zero, setFrom]; exact rfl) ?_; clear hS; intro w hS) | (refine wpl_store1 rfl _ _ _ rfl hS 1 _ _ rfl (.string _) rfl _ _ rfl rfl rfl (by simp only [List.set_cons_zero, List.set_cons_succ, List.drop_succ_cons, List.drop_zero, List.take_succ_cons, List.take_zero, setFrom]; exact rfl) ?_; clear hS; intro w hS) | (refine wpl_store1 rfl _ _ _ rfl hS 0 _ _ rfl (.bool _) rfl _ _ rfl rfl rfl (by simp only [List.set_cons_zero, List.set_cons_succ, List.drop_succ_cons, List.drop_zero, List.take_succ_cons, List.take_zero, setFrom]; exact rfl) ?_; clear hS; intro w hS) | (refine wpl_store1 rfl _ _ _ rfl hS 1 _ _ rfl (.bool _) rfl _ _ rfl rfl rfl (by simp only [List.set_cons_zero, List.set_cons_succ, List.drop_succ_cons, List.drop_zero, List.take_succ_cons, List.take_zero, setFrom]; exact rfl) ?_; clear hS; intro w hS) | (refine wpl_store1 rfl _ _ _ rfl hS 0 _ _ rfl (.pointer _) rfl _ _ rfl rfl rfl (by simp only [List.set_cons_zero, List.set_cons_succ, List.drop_succ_cons, List.drop_zero, List.take_succ_cons, List.take_zero, setFrom]; exact rfl) ?_; clear hS; intro w hS) | (refine wpl_store1 rfl _ _ _ rfl hS 1 _ _ rfl (.pointer _) rfl _ _ rfl rfl rfl (by simp only [List.set_cons_zero, List.set_cons_succ, List.drop_succ_cons, List.drop_zero, List.take_succ_cons, List.take_zero, setFrom]; exact rfl) ?_; clear hS; intro w hS) | (refine wpl_storeN rfl _ _ _ rfl hS 0 _ _ rfl _ rfl _ _ rfl (by rfl) rfl rfl (by simp only [List.set_cons_zero, List.set_cons_succ, List.drop_succ_cons, List.drop_zero, List.take_succ_cons, List.take_zero, setFrom]; exact rfl) ?_; clear hS; intro w hS) | (refine wpl_storeN rfl _ _ _ rfl hS 1 _ _ rfl _ rfl _ _ rfl (by rfl) rfl rfl (by simp only [List.set_cons_zero, List.set_cons_succ, List.drop_succ_cons, List.drop_zero, List.take_succ_cons, List.take_zero, setFrom]; exact rfl) ?_; clear hS; intro w hS)) | (refine wpl_box rfl _ _ rfl hS _ rfl ?_; clear hS; intro g w hS) | (refine wpl_alloc rfl _ rfl hS ?_; clear hS; intro g w hS))
    refine (I_probe l h s _ (by omega) (by omega) (by omega) (by omega)).mono ?_
    rintro e w1 ⟨rfl, hb⟩
    have hS := hS.step hb
    rw [← hp.out]
    clear hb
    go_wp2_with (first | (refine at_load rfl ?_; first | (refine wpl_load1 rfl _ _ rfl hS 0 _ _ rfl _ _ rfl _ rfl ?_) | (refine wpl_load1 rfl _ _ rfl hS 1 _ _ rfl _ _ rfl _ rfl ?_) | (refine wpl_loadN rfl _ _ rfl hS 0 _ _ rfl _ _ rfl _ (by simp only [List.set_cons_zero, List.set_cons_succ, List.drop_succ_cons, List.drop_zero, List.take_succ_cons, List.take_zero, setFrom]; exact rfl) (by rfl) ?_) | (refine wpl_loadN rfl _ _ rfl hS 1 _ _ rfl _ _ rfl _ (by simp only [List.set_cons_zero, List.set_cons_succ, List.drop_succ_cons, List.drop_zero, List.take_succ_cons, List.take_zero, setFrom]; exact rfl) (by rfl) ?_)) | (refine at_store rfl ?_; first | (refine wpl_store1 rfl _ _ _ rfl hS 0 _ _ rfl (.int _ _) rfl _ _ rfl rfl rfl (by simp only [List.set_cons_zero, List.set_cons_succ, List.drop_succ_cons, List.drop_zero, List.take_succ_cons, List.take_zero, setFrom]; exact rfl) ?_; clear hS; intro w hS) | (refine wpl_store1 rfl _ _ _ rfl hS 1 _ _ rfl (.int _ _) rfl _ _ rfl rfl rfl (by simp only [List.set_cons_zero, List.set_cons_succ, List.drop_succ_cons, List.drop_zero, List.take_succ_cons, List.take_zero, setFrom]; exact rfl) ?_; clear hS; intro w hS) | (refine wpl_store1 rfl _ _ _ rfl hS 0 _ _ rfl (.slice _ _ _) rfl _ _ rfl rfl rfl (by simp only [List.set_cons_zero, List.set_cons_succ, List.drop_succ_cons, List.drop_zero, List.take_succ_cons, List.take_zero, setFrom]; exact rfl) ?_; clear hS; intro w hS) | (refine wpl_store1 rfl _ _ _ rfl hS 1 _ _ rfl (.slice _ _ _) rfl _ _ rfl rfl rfl (by simp only [List.set_cons_zero, List.set_cons_succ, List.drop_succ_cons, List.drop_zero, List.take_succ_cons, List.take_zero, setFrom]; exact rfl) ?_; clear hS; intro w hS) | (refine wpl_store1 rfl _ _ _ rfl hS 0 _ _ rfl (.string _) rfl _ _ rfl rfl rfl (by simp only [List.set_cons_zero, List.set_cons_succ, List.drop_succ_cons, List.drop_zero, List.take_succ_cons, List.take_zero, setFrom]; exact rfl) ?_; clear hS; intro w hS) | (refine wpl_store1 rfl _ _ _ rfl hS 1 _ _ rfl (.string _) rfl _ _ rfl rfl rfl (by simp only [List.set_cons_zero, List.set_cons_succ, List.drop_succ_cons, List.drop_zero, List.take_succ_cons, List.take_zero, setFrom]; exact rfl) ?_; clear hS; intro w hS) | (refine wpl_store1 rfl _ _ _ rfl hS 0 _ _ rfl (.bool _) rfl _ _ rfl rfl rfl (by simp only [List.set_cons_zero, List.set_cons_succ, List.drop_succ_cons, List.drop_zero, List.take_succ_cons, List.take_zero, setFrom]; exact rfl) ?_; clear hS; intro w hS) | (refine wpl_store1 rfl _ _ _ rfl hS 1 _ _ rfl (.bool _) rfl _ _ rfl rfl rfl (by simp only [List.set_cons_zero, List.set_cons_succ, List.drop_succ_cons, List.drop_zero, List.take_succ_cons, List.take_zero, setFrom]; exact rfl) ?_; clear hS; intro w hS) | (refine wpl_store1 rfl _ _ _ rfl hS 0 _ _ rfl (.pointer _) rfl _ _ rfl rfl rfl (by simp only [List.set_cons_zero, List.set_cons_succ, List.drop_succ_cons, List.drop_zero, List.take_succ_cons, List.take_zero, setFrom]; exact rfl) ?_; clear hS; intro w hS) | (refine wpl_store1 rfl _ _ _ rfl hS 1 _ _ rfl (.pointer _) rfl _ _ rfl rfl rfl (by simp only [List.set_cons_zero, List.set_cons_succ, List.drop_succ_cons, List.drop_zero, List.take_succ_cons, List.take_zero, setFrom]; exact rfl) ?_; clear hS; intro w hS) | (refine wpl_storeN rfl _ _ _ rfl hS 0 _ _ rfl _ rfl _ _ rfl (by rfl) rfl rfl (by simp only [List.set_cons_zero, List.set_cons_succ, List.drop_succ_cons, List.drop_zero, List.take_succ_cons, List.take_zero, setFrom]; exact rfl) ?_; clear hS; intro w hS) | (refine wpl_storeN rfl _ _ _ rfl hS 1 _ _ rfl _ rfl _ _ rfl (by rfl) rfl rfl (by simp only [List.set_cons_zero, List.set_cons_succ, List.drop_succ_cons, List.drop_zero, List.take_succ_cons, List.take_zero, setFrom]; exact rfl) ?_; clear hS; intro w hS)) | (refine wpl_box rfl _ _ rfl hS _ rfl ?_; clear hS; intro g w hS) | (refine wpl_alloc rfl _ rfl hS ?_; clear hS; intro g w hS))
    refine bodyPost_ret (run_result_cell _ _ rfl hS 0 _ rfl _ _ rfl rfl) rfl ⟨?_, hS.below⟩
    first | (simp [nextL, nextH, nextS, hs]; done) | (simp [nextL, nextH, nextS]; omega)

theorem I_agree_in (A B : Option Addr) (c d : Nat) (k : Int) (xs ys : List Int) (w : World) (hx : RdList w (Old w) xs A) (hy : RdList w (Old w) ys B) (h0 : 0 ≤ k) (h1 : k.toNat < xs.length) (h2 : k.toNat < ys.length) :
    Calls Try.prog 42 #[.slice A xs.length c, .slice B ys.length d, .int .i64 k] w fun e w' => e = .returned (.bool (agree xs ys k)) ∧ Below w.heap.size w w' := by
  obtain ⟨k, rfl⟩ := Int.eq_ofNat_of_zero_le h0
  rw [Int.toNat_natCast] at h1 h2
  obtain ⟨b, o, es, rfl, hb, hcs, hr⟩ := hx.at_ h1
  obtain ⟨b', o', es', rfl, hb', hcs', hr'⟩ := hy.at_ h2
  obtain ⟨rfl, _⟩ := hr
  obtain ⟨rfl, _⟩ := hr'
  have hcell : w.cell? ⟨b, o + k, none⟩ = _ := (by simpa [Rep.size] using hcs.at_ 0 (by simp))
  have hcell' : w.cell? ⟨b', o' + k, none⟩ = _ := (by simpa [Rep.size] using hcs'.at_ 0 (by simp))
  have g0 : decide ((0 : Int) ≤ (k : Int)) = true := by simp
  clear hcs hcs' hx hy
  have hag := Lib.hid (agree_in h1 h2)
  go_enter Try.func42, Try.ntmps42
  go_wp2
  go_quiet (fail)
  go_wp2
  go_ret
  exact ⟨ret_bool hag.out, below_drewN (Below.refl _ _) _⟩

end Go.Proofs.Ytjkpoffhnccanaa
