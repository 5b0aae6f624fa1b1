/-
  The hunt for the first difference of two lists of sums: RunHunt returns the same plain function's value in the program and in the reference.
  Conditions: at most 2^20 elements.
-/
import Derived.Test.YtjkpoffhnccanaaHuntB
import Derived.Test.YtjkpoffhnccanaaQuiet
import Derived.Deep.LoopGhost
set_option linter.unusedSimpArgs false
namespace Go.Proofs.Ytjkpoffhnccanaa
open Go.RowKit

/-- The hunt, n rounds at most. -/
def huntGo (a b : List Int) : Nat → Int → Int → Int → Int × Int
  | 0, _, h, s => (h, s)
  | n + 1, l, h, s => if probe l h < 0 then (h, s) else
      huntGo a b n (nextL (agree a b ((l + h) / 2)) l h) (nextH (agree a b ((l + h) / 2)) l h) (nextS s)
def hunt (a b : List Int) : Int × Int := if starts a b then huntGo a b (last a b).toNat 0 (last a b) 2 else (-1, 0)

theorem probe_neg {l h : Int} (hh : ¬ (h ≤ 1000000 ∧ 2 ≤ h ∧ l ≤ h - 2)) : probe l h = -1 := by
  unfold probe; rw [if_neg (by omega)]
theorem huntGo_stop {a b : List Int} {n : Nat} {l h s : Int} (hh : ¬ (h ≤ 1000000 ∧ 2 ≤ h ∧ l ≤ h - 2)) : huntGo a b n l h s = (h, s) := by
  cases n with
  | zero => rfl
  | succ n => rw [huntGo, if_pos (by rw [probe_neg hh]; omega)]

theorem hunt_step {xs ys : List Int} {l h s : Int} {n : Nat} (h1 : 0 ≤ l) (hc1 : h ≤ 1000000) (hc2 : 2 ≤ h) (hc3 : l ≤ h - 2) (h5 : 2 ≤ s) (h6 : s ≤ 1000000) (h7 : (h - l).toNat ≤ n + 1) (h8 : huntGo xs ys (n + 1) l h s = hunt xs ys) :
    0 ≤ nextL (agree xs ys ((l + h) / 2)) l h ∧ nextL (agree xs ys ((l + h) / 2)) l h ≤ nextH (agree xs ys ((l + h) / 2)) l h ∧ nextH (agree xs ys ((l + h) / 2)) l h ≤ h ∧ 2 ≤ nextS s ∧ nextS s ≤ 1000000 ∧
      (nextH (agree xs ys ((l + h) / 2)) l h - nextL (agree xs ys ((l + h) / 2)) l h).toNat ≤ n ∧ huntGo xs ys n (nextL (agree xs ys ((l + h) / 2)) l h) (nextH (agree xs ys ((l + h) / 2)) l h) (nextS s) = hunt xs ys := by
  have hp : 0 ≤ probe l h := by rw [← probe_in h1 hc1 hc2 hc3]; omega
  rw [huntGo, if_neg (by omega)] at h8
  refine ⟨?_, ?_, ?_, ?_, ?_, ?_, h8⟩
  · unfold nextL; split <;> omega
  · unfold nextL nextH; split <;> omega
  · unfold nextH; split <;> omega
  · unfold nextS; split <;> omega
  · unfold nextS; split <;> omega
  · unfold nextL nextH; split <;> omega

/-- What holds at the head of a round: k rounds at most are to come. -/
def HuntAt (w0 : World) (xs ys : List Int) (g k : Nat) (wr : World) : Prop :=
  ∃ l h s : Int, 0 ≤ l ∧ l ≤ h ∧ h < xs.length ∧ h < ys.length ∧ 2 ≤ s ∧ s ≤ 1000000 ∧ (h - l).toNat ≤ k ∧ huntGo xs ys k l h s = hunt xs ys ∧ Sat w0 [Hp.box g 57 [.int .i64 l, .int .i64 h, .int .i64 s]] wr

theorem ret_two {a b c d : Int} (h : (a, b) = (c, d)) : Ending.returned (.tuple #[.int .i64 a, .int .i64 b]) = .returned (.tuple #[.int .i64 c, .int .i64 d]) := by
  cases h; rfl

set_option maxHeartbeats 1600000 in
theorem S_run (A B : Option Addr) (c d : Nat) (xs ys : List Int) (w0 : World) (hx : RdList w0 (Old w0) xs A) (hy : RdList w0 (Old w0) ys B) (hn : xs.length ≤ 1048576) (hm : ys.length ≤ 1048576) :
    Calls Try.prog 9 #[.slice A xs.length c, .slice B ys.length d] w0 fun e w' =>
      e = .returned (.tuple #[.int .i64 (hunt xs ys).1, .int .i64 (hunt xs ys).2]) ∧ Below w0.heap.size w0 w' := by
  have hS := Sat.refl w0
  cases hst : starts xs ys
  · have hh : hunt xs ys = (-1, 0) := by simp [hunt, hst]
    rw [hh]
    have Hst := Lib.hid hst
    clear hst hh
    go_enter Try.func9, Try.ntmps9
    go_wp2_with fail
    refine (S_start A B c d xs ys _ hx hy hn hm).mono ?_
    rintro e w1 ⟨rfl, hb⟩
    rw [Hst.out]
    have hS := hS.step hb
    clear hb
    go_wp2_with (first | (refine at_load rfl ?_; first | (refine wpl_load1 rfl _ _ rfl hS 0 _ _ rfl _ _ rfl _ rfl ?_) | (refine wpl_load1 rfl _ _ rfl hS 1 _ _ rfl _ _ rfl _ rfl ?_) | (refine wpl_loadN rfl _ _ rfl hS 0 _ _ rfl _ _ rfl _ (by simp only [List.set_cons_zero, List.set_cons_succ, List.drop_succ_cons, List.drop_zero, List.take_succ_cons, List.take_zero, setFrom]; exact rfl) (by rfl) ?_) | (refine wpl_loadN rfl _ _ rfl hS 1 _ _ rfl _ _ rfl _ (by simp only [List.set_cons_zero, List.set_cons_succ, List.drop_succ_cons, List.drop_zero, List.take_succ_cons, List.take_zero, setFrom]; exact rfl) (by rfl) ?_)) | (refine at_store rfl ?_; first | (refine wpl_store1 rfl _ _ _ rfl hS 0 _ _ rfl (.int _ _) rfl _ _ rfl rfl rfl (by simp only [List.set_cons_zero, List.set_cons_succ, List.drop_succ_cons, List.drop_zero, List.take_succ_cons, List.take_zero, setFrom]; exact rfl) ?_; clear hS; intro w hS) | (refine wpl_store1 rfl _ _ _ rfl hS 1 _ _ rfl (.int _ _) rfl _ _ rfl rfl rfl (by simp only [List.set_cons_zero, List.set_cons_succ, List.drop_succ_cons, List.drop_zero, List.take_succ_cons, List.take_zero, setFrom]; exact rfl) ?_; clear hS; intro w hS) | (refine wpl_store1 rfl _ _ _ rfl hS 0 _ _ rfl (.slice _ _ _) rfl _ _ rfl rfl rfl (by simp only [List.set_cons_zero, List.set_cons_succ, List.drop_succ_cons, List.drop_zero, List.take_succ_cons, List.take_zero, setFrom]; exact rfl) ?_; clear hS; intro w hS) | (refine wpl_store1 rfl _ _ _ rfl hS 1 _ _ rfl (.slice _ _ _) rfl _ _ rfl rfl rfl (by simp only [List.set_cons_zero, List.set_cons_succ, List.drop_succ_cons, List.drop_zero, List.take_succ_cons, List.take_zero, setFrom]; exact rfl) ?_; clear hS; intro w hS) | (refine wpl_store1 rfl _ _ _ rfl hS 0 _ _ rfl (.string _) rfl _ _ rfl rfl rfl (by simp only [List.set_cons_zero, List.set_cons_succ, List.drop_succ_cons, List.drop_zero, List.take_succ_cons, List.take_zero, setFrom]; exact rfl) ?_; clear hS; intro w hS) | (refine wpl_store1 rfl _ _ _ rfl hS 1 _ _ rfl (.string _) rfl _ _ rfl rfl rfl (by simp only [List.set_cons_zero, List.set_cons_succ, List.drop_succ_cons, List.drop_zero, List.take_succ_cons, List.take_zero, setFrom]; exact rfl) ?_; clear hS; intro w hS) | (refine wpl_store1 rfl _ _ _ rfl hS 0 _ _ rfl (.bool _) rfl _ _ rfl rfl rfl (by simp only [List.set_cons_zero, List.set_cons_succ, List.drop_succ_cons, List.drop_zero, List.take_succ_cons, List.take_zero, setFrom]; exact rfl) ?_; clear hS; intro w hS) | (refine wpl_store1 rfl _ _ _ rfl hS 1 _ _ rfl (.bool _) rfl _ _ rfl rfl rfl (by simp only [List.set_cons_zero, List.set_cons_succ, List.drop_succ_cons, List.drop_zero, List.take_succ_cons, List.take_zero, setFrom]; exact rfl) ?_; clear hS; intro w hS) | (refine wpl_store1 rfl _ _ _ rfl hS 0 _ _ rfl (.pointer _) rfl _ _ rfl rfl rfl (by simp only [List.set_cons_zero, List.set_cons_succ, List.drop_succ_cons, List.drop_zero, List.take_succ_cons, List.take_zero, setFrom]; exact rfl) ?_; clear hS; intro w hS) | (refine wpl_store1 rfl _ _ _ rfl hS 1 _ _ rfl (.pointer _) rfl _ _ rfl rfl rfl (by simp only [List.set_cons_zero, List.set_cons_succ, List.drop_succ_cons, List.drop_zero, List.take_succ_cons, List.take_zero, setFrom]; exact rfl) ?_; clear hS; intro w hS) | (refine wpl_storeN rfl _ _ _ rfl hS 0 _ _ rfl _ rfl _ _ rfl (by rfl) rfl rfl (by simp only [List.set_cons_zero, List.set_cons_succ, List.drop_succ_cons, List.drop_zero, List.take_succ_cons, List.take_zero, setFrom]; exact rfl) ?_; clear hS; intro w hS) | (refine wpl_storeN rfl _ _ _ rfl hS 1 _ _ rfl _ rfl _ _ rfl (by rfl) rfl rfl (by simp only [List.set_cons_zero, List.set_cons_succ, List.drop_succ_cons, List.drop_zero, List.take_succ_cons, List.take_zero, setFrom]; exact rfl) ?_; clear hS; intro w hS)) | (refine wpl_box rfl _ _ rfl hS _ rfl ?_; clear hS; intro g w hS) | (refine wpl_alloc rfl _ rfl hS ?_; clear hS; intro g w hS))
    go_ret2
    exact ⟨rfl, hS.below⟩
  · have hl1 : 0 ≤ last xs ys := by
      rcases Int.lt_or_le (last xs ys) 0 with h | h
      · simp [starts, h] at hst
      · exact h
    have hl2 : last xs ys < xs.length ∧ last xs ys < ys.length := by unfold last; omega
    have hh : huntGo xs ys (last xs ys).toNat 0 (last xs ys) 2 = hunt xs ys := by simp [hunt, hst]
    have Hst := Lib.hid hst
    have Hh := Lib.hid hh
    clear hst hh
    go_enter Try.func9, Try.ntmps9
    go_wp2_with fail
    refine (S_start A B c d xs ys _ hx hy hn hm).mono ?_
    rintro e w1 ⟨rfl, hb⟩
    rw [Hst.out]
    have hS := hS.step hb
    clear hb
    go_wp2_with (first | (refine at_load rfl ?_; first | (refine wpl_load1 rfl _ _ rfl hS 0 _ _ rfl _ _ rfl _ rfl ?_) | (refine wpl_load1 rfl _ _ rfl hS 1 _ _ rfl _ _ rfl _ rfl ?_) | (refine wpl_loadN rfl _ _ rfl hS 0 _ _ rfl _ _ rfl _ (by simp only [List.set_cons_zero, List.set_cons_succ, List.drop_succ_cons, List.drop_zero, List.take_succ_cons, List.take_zero, setFrom]; exact rfl) (by rfl) ?_) | (refine wpl_loadN rfl _ _ rfl hS 1 _ _ rfl _ _ rfl _ (by simp only [List.set_cons_zero, List.set_cons_succ, List.drop_succ_cons, List.drop_zero, List.take_succ_cons, List.take_zero, setFrom]; exact rfl) (by rfl) ?_)) | (refine at_store rfl ?_; first | (refine wpl_store1 rfl _ _ _ rfl hS 0 _ _ rfl (.int _ _) rfl _ _ rfl rfl rfl (by simp only [List.set_cons_zero, List.set_cons_succ, List.drop_succ_cons, List.drop_zero, List.take_succ_cons, List.take_zero, setFrom]; exact rfl) ?_; clear hS; intro w hS) | (refine wpl_store1 rfl _ _ _ rfl hS 1 _ _ rfl (.int _ _) rfl _ _ rfl rfl rfl (by simp only [List.set_cons_zero, List.set_cons_succ, List.drop_succ_cons, List.drop_zero, List.take_succ_cons, List.take_zero, setFrom]; exact rfl) ?_; clear hS; intro w hS) | (refine wpl_store1 rfl _ _ _ rfl hS 0 _ _ rfl (.slice _ _ _) rfl _ _ rfl rfl rfl (by simp only [List.set_cons_zero, List.set_cons_succ, List.drop_succ_cons, List.drop_zero, List.take_succ_cons, List.take_zero, setFrom]; exact rfl) ?_; clear hS; intro w hS) | (refine wpl_store1 rfl _ _ _ rfl hS 1 _ _ rfl (.slice _ _ _) rfl _ _ rfl rfl rfl (by simp only [List.set_cons_zero, List.set_cons_succ, List.drop_succ_cons, List.drop_zero, List.take_succ_cons, List.take_zero, setFrom]; exact rfl) ?_; clear hS; intro w hS) | (refine wpl_store1 rfl _ _ _ rfl hS 0 _ _ rfl (.string _) rfl _ _ rfl rfl rfl (by simp only [List.set_cons_zero, List.set_cons_succ, List.drop_succ_cons, List.drop_zero, List.take_succ_cons, List.take_zero, setFrom]; exact rfl) ?_; clear hS; intro w hS) | (refine wpl_store1 rfl _ _ _ rfl hS 1 _ _ rfl (.string _) rfl _ _ rfl rfl rfl (by simp only [List.set_cons_zero, List.set_cons_succ, List.drop_succ_cons, List.drop_zero, List.take_succ_cons, List.take_zero, setFrom]; exact rfl) ?_; clear hS; intro w hS) | (refine wpl_store1 rfl _ _ _ rfl hS 0 _ _ rfl (.bool _) rfl _ _ rfl rfl rfl (by simp only [List.set_cons_zero, List.set_cons_succ, List.drop_succ_cons, List.drop_zero, List.take_succ_cons, List.take_zero, setFrom]; exact rfl) ?_; clear hS; intro w hS) | (refine wpl_store1 rfl _ _ _ rfl hS 1 _ _ rfl (.bool _) rfl _ _ rfl rfl rfl (by simp only [List.set_cons_zero, List.set_cons_succ, List.drop_succ_cons, List.drop_zero, List.take_succ_cons, List.take_zero, setFrom]; exact rfl) ?_; clear hS; intro w hS) | (refine wpl_store1 rfl _ _ _ rfl hS 0 _ _ rfl (.pointer _) rfl _ _ rfl rfl rfl (by simp only [List.set_cons_zero, List.set_cons_succ, List.drop_succ_cons, List.drop_zero, List.take_succ_cons, List.take_zero, setFrom]; exact rfl) ?_; clear hS; intro w hS) | (refine wpl_store1 rfl _ _ _ rfl hS 1 _ _ rfl (.pointer _) rfl _ _ rfl rfl rfl (by simp only [List.set_cons_zero, List.set_cons_succ, List.drop_succ_cons, List.drop_zero, List.take_succ_cons, List.take_zero, setFrom]; exact rfl) ?_; clear hS; intro w hS) | (refine wpl_storeN rfl _ _ _ rfl hS 0 _ _ rfl _ rfl _ _ rfl (by rfl) rfl rfl (by simp only [List.set_cons_zero, List.set_cons_succ, List.drop_succ_cons, List.drop_zero, List.take_succ_cons, List.take_zero, setFrom]; exact rfl) ?_; clear hS; intro w hS) | (refine wpl_storeN rfl _ _ _ rfl hS 1 _ _ rfl _ rfl _ _ rfl (by rfl) rfl rfl (by simp only [List.set_cons_zero, List.set_cons_succ, List.drop_succ_cons, List.drop_zero, List.take_succ_cons, List.take_zero, setFrom]; exact rfl) ?_; clear hS; intro w hS)) | (refine wpl_box rfl _ _ rfl hS _ rfl ?_; clear hS; intro g w hS) | (refine wpl_alloc rfl _ rfl hS ?_; clear hS; intro g w hS))
    go_loopg [] (last xs ys).toNat (fun k wr => HuntAt w0 xs ys g k wr)
    case atStart => exact ⟨0, last xs ys, 2, by omega, hl1, hl2.1, hl2.2, by omega, by omega, by omega, Hh.out, hS⟩
    case round =>
      obtain ⟨l, h, s, h1, h2, h3, h4, h5, h6, h7, h8, hS⟩ := hrel
      have H8 := Lib.hid h8
      clear h8
      by_cases hc : h ≤ 1000000 ∧ 2 ≤ h ∧ l ≤ h - 2
      · obtain ⟨hc1, hc2, hc3⟩ := hc
        have hp := Lib.hid (probe_in h1 hc1 hc2 hc3)
        have hp0 : 0 ≤ (l + h) / 2 ∧ l < (l + h) / 2 ∧ (l + h) / 2 < h := by omega
        obtain ⟨hp1, hp2, hp3⟩ := hp0
        go_wp2_with (first | (go_at_call 36; refine (S_probe l h s _ (by omega) (by omega) (by omega) (by omega)).mono ?_; rintro e w1 ⟨rfl, hb⟩; rw [← hp.out]; have hS := hS.step hb; clear hb) | (refine at_load rfl ?_; first | (refine wpl_load1 rfl _ _ rfl hS 0 _ _ rfl _ _ rfl _ rfl ?_) | (refine wpl_loadN rfl _ _ rfl hS 0 _ _ rfl _ _ rfl _ (by simp only [List.set_cons_zero, List.set_cons_succ, List.drop_succ_cons, List.drop_zero, List.take_succ_cons, List.take_zero, setFrom]; exact rfl) (by rfl) ?_)) | (refine at_store rfl ?_; first | (refine wpl_store1 rfl _ _ _ rfl hS 0 _ _ rfl (.int _ _) rfl _ _ rfl rfl rfl (by simp only [List.set_cons_zero, List.set_cons_succ, List.drop_succ_cons, List.drop_zero, List.take_succ_cons, List.take_zero, setFrom]; exact rfl) ?_; clear hS; intro w hS) | (refine wpl_store1 rfl _ _ _ rfl hS 0 _ _ rfl (.slice _ _ _) rfl _ _ rfl rfl rfl (by simp only [List.set_cons_zero, List.set_cons_succ, List.drop_succ_cons, List.drop_zero, List.take_succ_cons, List.take_zero, setFrom]; exact rfl) ?_; clear hS; intro w hS) | (refine wpl_store1 rfl _ _ _ rfl hS 0 _ _ rfl (.string _) rfl _ _ rfl rfl rfl (by simp only [List.set_cons_zero, List.set_cons_succ, List.drop_succ_cons, List.drop_zero, List.take_succ_cons, List.take_zero, setFrom]; exact rfl) ?_; clear hS; intro w hS) | (refine wpl_store1 rfl _ _ _ rfl hS 0 _ _ rfl (.bool _) rfl _ _ rfl rfl rfl (by simp only [List.set_cons_zero, List.set_cons_succ, List.drop_succ_cons, List.drop_zero, List.take_succ_cons, List.take_zero, setFrom]; exact rfl) ?_; clear hS; intro w hS) | (refine wpl_store1 rfl _ _ _ rfl hS 0 _ _ rfl (.pointer _) rfl _ _ rfl rfl rfl (by simp only [List.set_cons_zero, List.set_cons_succ, List.drop_succ_cons, List.drop_zero, List.take_succ_cons, List.take_zero, setFrom]; exact rfl) ?_; clear hS; intro w hS) | (refine wpl_storeN rfl _ _ _ rfl hS 0 _ _ rfl _ rfl _ _ rfl (by rfl) rfl rfl (by simp only [List.set_cons_zero, List.set_cons_succ, List.drop_succ_cons, List.drop_zero, List.take_succ_cons, List.take_zero, setFrom]; exact rfl) ?_; clear hS; intro w hS)) | (refine wpl_box rfl _ _ rfl hS _ rfl ?_; clear hS; intro g w hS) | (refine wpl_alloc rfl _ rfl hS ?_; clear hS; intro g w hS))
        have P0 : ∀ W : World, Calls Try.prog 36 #[.agg #[.int .i64 l, .int .i64 h, .int .i64 s]] W fun e w' => e = .returned (.int .i64 ((l + h) / 2)) ∧ Below W.heap.size W w' := fun W => by
          rw [hp.out]; exact S_probe l h s _ (by omega) (by omega) (by omega) (by omega)
        have P1 := Lib.hid P0
        clear P0
        refine wp_region_satW_tail 7 hS (by kernel_rfl) (by kernel_rfl) (by simp only [List.take_succ_cons, List.take_zero]; exact rfl) (by simp only [List.drop_succ_cons, List.drop_zero]; exact rfl) ?_; intro _hne
        have c0 : ∀ s' : SatW w0 [Hp.box g 57 [.int .i64 l, .int .i64 h, .int .i64 s]], s'.w.cell? ⟨g, 0, none⟩ = some (.int .i64 l) := fun s' => s'.cell (k := 0) rfl 0 rfl
        have c1 : ∀ s' : SatW w0 [Hp.box g 57 [.int .i64 l, .int .i64 h, .int .i64 s]], s'.w.cell? ⟨g, 1, none⟩ = some (.int .i64 h) := fun s' => s'.cell (k := 0) rfl 1 rfl
        have c2 : ∀ s' : SatW w0 [Hp.box g 57 [.int .i64 l, .int .i64 h, .int .i64 s]], s'.w.cell? ⟨g, 2, none⟩ = some (.int .i64 s) := fun s' => s'.cell (k := 0) rfl 2 rfl
        clear hS
        repeat (go_big_quiet_step (first
          | (go_at_call 36; exact SatW.calls (fun s' => P1.out s'.w) _)
          | (go_at_call 38; exact SatW.calls (fun s' => S_agree_in A B c d _ xs ys _ (s'.sat.old' hx) (s'.sat.old' hy) (by omega) (by omega) (by omega)) _)
          | (go_at_call 37; exact SatW.calls (fun s' => S_narrow l h s _ _ (by omega) (by omega) (by omega) (by omega) (by omega) (by omega)) _)))
        refine wpQuiet_nil ?_; rintro _ ⟨sq, rfl⟩; have hS := sq.sat; generalize sq.w = w at hS ⊢; clear sq
        clear c0 c1 c2 _hne
        go_wp2_with (first | (refine at_load rfl ?_; first | (refine wpl_load1 rfl _ _ rfl hS 0 _ _ rfl _ _ rfl _ rfl ?_) | (refine wpl_loadN rfl _ _ rfl hS 0 _ _ rfl _ _ rfl _ (by simp only [List.set_cons_zero, List.set_cons_succ, List.drop_succ_cons, List.drop_zero, List.take_succ_cons, List.take_zero, setFrom]; exact rfl) (by rfl) ?_)) | (refine at_store rfl ?_; first | (refine wpl_store1 rfl _ _ _ rfl hS 0 _ _ rfl (.int _ _) rfl _ _ rfl rfl rfl (by simp only [List.set_cons_zero, List.set_cons_succ, List.drop_succ_cons, List.drop_zero, List.take_succ_cons, List.take_zero, setFrom]; exact rfl) ?_; clear hS; intro w hS) | (refine wpl_store1 rfl _ _ _ rfl hS 0 _ _ rfl (.slice _ _ _) rfl _ _ rfl rfl rfl (by simp only [List.set_cons_zero, List.set_cons_succ, List.drop_succ_cons, List.drop_zero, List.take_succ_cons, List.take_zero, setFrom]; exact rfl) ?_; clear hS; intro w hS) | (refine wpl_store1 rfl _ _ _ rfl hS 0 _ _ rfl (.string _) rfl _ _ rfl rfl rfl (by simp only [List.set_cons_zero, List.set_cons_succ, List.drop_succ_cons, List.drop_zero, List.take_succ_cons, List.take_zero, setFrom]; exact rfl) ?_; clear hS; intro w hS) | (refine wpl_store1 rfl _ _ _ rfl hS 0 _ _ rfl (.bool _) rfl _ _ rfl rfl rfl (by simp only [List.set_cons_zero, List.set_cons_succ, List.drop_succ_cons, List.drop_zero, List.take_succ_cons, List.take_zero, setFrom]; exact rfl) ?_; clear hS; intro w hS) | (refine wpl_store1 rfl _ _ _ rfl hS 0 _ _ rfl (.pointer _) rfl _ _ rfl rfl rfl (by simp only [List.set_cons_zero, List.set_cons_succ, List.drop_succ_cons, List.drop_zero, List.take_succ_cons, List.take_zero, setFrom]; exact rfl) ?_; clear hS; intro w hS) | (refine wpl_storeN rfl _ _ _ rfl hS 0 _ _ rfl _ rfl _ _ rfl (by rfl) rfl rfl (by simp only [List.set_cons_zero, List.set_cons_succ, List.drop_succ_cons, List.drop_zero, List.take_succ_cons, List.take_zero, setFrom]; exact rfl) ?_; clear hS; intro w hS)) | (refine wpl_box rfl _ _ rfl hS _ rfl ?_; clear hS; intro g w hS) | (refine wpl_alloc rfl _ rfl hS ?_; clear hS; intro g w hS))
        have hng : gk ≠ 0 := by omega
        obtain ⟨n, rfl⟩ := Nat.exists_eq_succ_of_ne_zero hng
        have hstep := hunt_step h1 hc1 hc2 hc3 h5 h6 h7 H8.out
        go_roundg n
        case measure => omega
        case rel => exact ⟨_, _, _, hstep.1, hstep.2.1, by omega, by omega, hstep.2.2.2.1, hstep.2.2.2.2.1, hstep.2.2.2.2.2.1, hstep.2.2.2.2.2.2, hS⟩
      · have hstop := Lib.hid (huntGo_stop (a := xs) (b := ys) (n := gk) (s := s) hc)
        have hpn := Lib.hid (probe_neg hc)
        clear hc
        go_wp2_with (first | (go_at_call 36; refine (S_probe l h s _ (by omega) (by omega) (by omega) (by omega)).mono ?_; rintro e w1 ⟨rfl, hb⟩; rw [hpn.out]; have hS := hS.step hb; clear hb) | (refine at_load rfl ?_; first | (refine wpl_load1 rfl _ _ rfl hS 0 _ _ rfl _ _ rfl _ rfl ?_) | (refine wpl_loadN rfl _ _ rfl hS 0 _ _ rfl _ _ rfl _ (by simp only [List.set_cons_zero, List.set_cons_succ, List.drop_succ_cons, List.drop_zero, List.take_succ_cons, List.take_zero, setFrom]; exact rfl) (by rfl) ?_)) | (refine at_store rfl ?_; first | (refine wpl_store1 rfl _ _ _ rfl hS 0 _ _ rfl (.int _ _) rfl _ _ rfl rfl rfl (by simp only [List.set_cons_zero, List.set_cons_succ, List.drop_succ_cons, List.drop_zero, List.take_succ_cons, List.take_zero, setFrom]; exact rfl) ?_; clear hS; intro w hS) | (refine wpl_store1 rfl _ _ _ rfl hS 0 _ _ rfl (.slice _ _ _) rfl _ _ rfl rfl rfl (by simp only [List.set_cons_zero, List.set_cons_succ, List.drop_succ_cons, List.drop_zero, List.take_succ_cons, List.take_zero, setFrom]; exact rfl) ?_; clear hS; intro w hS) | (refine wpl_store1 rfl _ _ _ rfl hS 0 _ _ rfl (.string _) rfl _ _ rfl rfl rfl (by simp only [List.set_cons_zero, List.set_cons_succ, List.drop_succ_cons, List.drop_zero, List.take_succ_cons, List.take_zero, setFrom]; exact rfl) ?_; clear hS; intro w hS) | (refine wpl_store1 rfl _ _ _ rfl hS 0 _ _ rfl (.bool _) rfl _ _ rfl rfl rfl (by simp only [List.set_cons_zero, List.set_cons_succ, List.drop_succ_cons, List.drop_zero, List.take_succ_cons, List.take_zero, setFrom]; exact rfl) ?_; clear hS; intro w hS) | (refine wpl_store1 rfl _ _ _ rfl hS 0 _ _ rfl (.pointer _) rfl _ _ rfl rfl rfl (by simp only [List.set_cons_zero, List.set_cons_succ, List.drop_succ_cons, List.drop_zero, List.take_succ_cons, List.take_zero, setFrom]; exact rfl) ?_; clear hS; intro w hS) | (refine wpl_storeN rfl _ _ _ rfl hS 0 _ _ rfl _ rfl _ _ rfl (by rfl) rfl rfl (by simp only [List.set_cons_zero, List.set_cons_succ, List.drop_succ_cons, List.drop_zero, List.take_succ_cons, List.take_zero, setFrom]; exact rfl) ?_; clear hS; intro w hS)) | (refine wpl_box rfl _ _ rfl hS _ rfl ?_; clear hS; intro g w hS) | (refine wpl_alloc rfl _ rfl hS ?_; clear hS; intro g w hS))
        have c1 := (hS.cell (k := 0) rfl 1)
        have c2 := (hS.cell (k := 0) rfl 2)
        simp only [List.getElem?_cons_succ, List.getElem?_cons_zero] at c1 c2
        go_quiet (fail)
        go_wp2
        go_ret2
        exact ⟨ret_two (by rw [← H8.out, hstop.out]), (hS.drewN _).below⟩
theorem S_run' (xs ys : List Int) (v u : Value) (w : World) {F G : Nat → Prop} (hv : Rep.rd w F xs [v]) (hu : Rep.rd w G ys [u]) (hn : xs.length ≤ 1048576) (hm : ys.length ≤ 1048576) :
    Calls Try.prog 9 #[v, u] w fun e w' => e = .returned (.tuple #[.int .i64 (hunt xs ys).1, .int .i64 (hunt xs ys).2]) ∧ Below w.heap.size w w' := by
  obtain ⟨A, c, hv', _, _, hl⟩ := Rep.oldB hv
  obtain ⟨A', c', hu', _, _, hl'⟩ := Rep.oldB hu
  simp only [List.cons.injEq, and_true] at hv' hu'
  subst hv' hu'
  exact S_run A A' c c' xs ys w hl hl' hn hm
set_option maxHeartbeats 1600000 in
theorem I_run (A B : Option Addr) (c d : Nat) (xs ys : List Int) (w0 : World) (hx : RdList w0 (Old w0) xs A) (hy : RdList w0 (Old w0) ys B) (hn : xs.length ≤ 1048576) (hm : ys.length ≤ 1048576) :
    Calls Try.prog 11 #[.slice A xs.length c, .slice B ys.length d] w0 fun e w' =>
      e = .returned (.tuple #[.int .i64 (hunt xs ys).1, .int .i64 (hunt xs ys).2]) ∧ Below w0.heap.size w0 w' := by
  have hS := Sat.refl w0
  cases hst : starts xs ys
  · have hh : hunt xs ys = (-1, 0) := by simp [hunt, hst]
    rw [hh]
    have Hst := Lib.hid hst
    clear hst hh
    go_enter Try.func11, Try.ntmps11
    go_wp2_with fail
    refine (I_start A B c d xs ys _ hx hy hn hm).mono ?_
    rintro e w1 ⟨rfl, hb⟩
    rw [Hst.out]
    have hS := hS.step hb
    clear hb
    go_wp2_with (first | (refine at_load rfl ?_; first | (refine wpl_load1 rfl _ _ rfl hS 0 _ _ rfl _ _ rfl _ rfl ?_) | (refine wpl_load1 rfl _ _ rfl hS 1 _ _ rfl _ _ rfl _ rfl ?_) | (refine wpl_loadN rfl _ _ rfl hS 0 _ _ rfl _ _ rfl _ (by simp only [List.set_cons_zero, List.set_cons_succ, List.drop_succ_cons, List.drop_zero, List.take_succ_cons, List.take_zero, setFrom]; exact rfl) (by rfl) ?_) | (refine wpl_loadN rfl _ _ rfl hS 1 _ _ rfl _ _ rfl _ (by simp only [List.set_cons_zero, List.set_cons_succ, List.drop_succ_cons, List.drop_zero, List.take_succ_cons, List.take_zero, setFrom]; exact rfl) (by rfl) ?_)) | (refine at_store rfl ?_; first | (refine wpl_store1 rfl _ _ _ rfl hS 0 _ _ rfl (.int _ _) rfl _ _ rfl rfl rfl (by simp only [List.set_cons_zero, List.set_cons_succ, List.drop_succ_cons, List.drop_zero, List.take_succ_cons, List.take_zero, setFrom]; exact rfl) ?_; clear hS; intro w hS) | (refine wpl_store1 rfl _ _ _ rfl hS 1 _ _ rfl (.int _ _) rfl _ _ rfl rfl rfl (by simp only [List.set_cons_zero, List.set_cons_succ, List.drop_succ_cons, List.drop_zero, List.take_succ_cons, List.take_zero, setFrom]; exact rfl) ?_; clear hS; intro w hS) | (refine wpl_store1 rfl _ _ _ rfl hS 0 _ _ rfl (.slice _ _ _) rfl _ _ rfl rfl rfl (by simp only [List.set_cons_zero, List.set_cons_succ, List.drop_succ_cons, List.drop_zero, List.take_succ_cons, List.take_zero, setFrom]; exact rfl) ?_; clear hS; intro w hS) | (refine wpl_store1 rfl _ _ _ rfl hS 1 _ _ rfl (.slice _ _ _) rfl _ _ rfl rfl rfl (by simp only [List.set_cons_zero, List.set_cons_succ, List.drop_succ_cons, List.drop_zero, List.take_succ_cons, List.take_zero, setFrom]; exact rfl) ?_; clear hS; intro w hS) | (refine wpl_store1 rfl _ _ _ rfl hS 0 _ _ rfl (.string _) rfl _ _ rfl rfl rfl (by simp only [List.set_cons_zero, List.set_cons_succ, List.drop_succ_cons, List.drop_zero, List.take_succ_cons, List.take_zero, setFrom]; exact rfl) ?_; clear hS; intro w hS) | (refine wpl_store1 rfl _ _ _ rfl hS 1 _ _ rfl (.string _) rfl _ _ rfl rfl rfl (by simp only [List.set_cons_zero, List.set_cons_succ, List.drop_succ_cons, List.drop_zero, List.take_succ_cons, List.take_zero, setFrom]; exact rfl) ?_; clear hS; intro w hS) | (refine wpl_store1 rfl _ _ _ rfl hS 0 _ _ rfl (.bool _) rfl _ _ rfl rfl rfl (by simp only [List.set_cons_zero, List.set_cons_succ, List.drop_succ_cons, List.drop_zero, List.take_succ_cons, List.take_zero, setFrom]; exact rfl) ?_; clear hS; intro w hS) | (refine wpl_store1 rfl _ _ _ rfl hS 1 _ _ rfl (.bool _) rfl _ _ rfl rfl rfl (by simp only [List.set_cons_zero, List.set_cons_succ, List.drop_succ_cons, List.drop_zero, List.take_succ_cons, List.take_zero, setFrom]; exact rfl) ?_; clear hS; intro w hS) | (refine wpl_store1 rfl _ _ _ rfl hS 0 _ _ rfl (.pointer _) rfl _ _ rfl rfl rfl (by simp only [List.set_cons_zero, List.set_cons_succ, List.drop_succ_cons, List.drop_zero, List.take_succ_cons, List.take_zero, setFrom]; exact rfl) ?_; clear hS; intro w hS) | (refine wpl_store1 rfl _ _ _ rfl hS 1 _ _ rfl (.pointer _) rfl _ _ rfl rfl rfl (by simp only [List.set_cons_zero, List.set_cons_succ, List.drop_succ_cons, List.drop_zero, List.take_succ_cons, List.take_zero, setFrom]; exact rfl) ?_; clear hS; intro w hS) | (refine wpl_storeN rfl _ _ _ rfl hS 0 _ _ rfl _ rfl _ _ rfl (by rfl) rfl rfl (by simp only [List.set_cons_zero, List.set_cons_succ, List.drop_succ_cons, List.drop_zero, List.take_succ_cons, List.take_zero, setFrom]; exact rfl) ?_; clear hS; intro w hS) | (refine wpl_storeN rfl _ _ _ rfl hS 1 _ _ rfl _ rfl _ _ rfl (by rfl) rfl rfl (by simp only [List.set_cons_zero, List.set_cons_succ, List.drop_succ_cons, List.drop_zero, List.take_succ_cons, List.take_zero, setFrom]; exact rfl) ?_; clear hS; intro w hS)) | (refine wpl_box rfl _ _ rfl hS _ rfl ?_; clear hS; intro g w hS) | (refine wpl_alloc rfl _ rfl hS ?_; clear hS; intro g w hS))
    go_ret2
    exact ⟨rfl, hS.below⟩
  · have hl1 : 0 ≤ last xs ys := by
      rcases Int.lt_or_le (last xs ys) 0 with h | h
      · simp [starts, h] at hst
      · exact h
    have hl2 : last xs ys < xs.length ∧ last xs ys < ys.length := by unfold last; omega
    have hh : huntGo xs ys (last xs ys).toNat 0 (last xs ys) 2 = hunt xs ys := by simp [hunt, hst]
    have Hst := Lib.hid hst
    have Hh := Lib.hid hh
    clear hst hh
    go_enter Try.func11, Try.ntmps11
    go_wp2_with fail
    refine (I_start A B c d xs ys _ hx hy hn hm).mono ?_
    rintro e w1 ⟨rfl, hb⟩
    rw [Hst.out]
    have hS := hS.step hb
    clear hb
    go_wp2_with (first | (refine at_load rfl ?_; first | (refine wpl_load1 rfl _ _ rfl hS 0 _ _ rfl _ _ rfl _ rfl ?_) | (refine wpl_load1 rfl _ _ rfl hS 1 _ _ rfl _ _ rfl _ rfl ?_) | (refine wpl_loadN rfl _ _ rfl hS 0 _ _ rfl _ _ rfl _ (by simp only [List.set_cons_zero, List.set_cons_succ, List.drop_succ_cons, List.drop_zero, List.take_succ_cons, List.take_zero, setFrom]; exact rfl) (by rfl) ?_) | (refine wpl_loadN rfl _ _ rfl hS 1 _ _ rfl _ _ rfl _ (by simp only [List.set_cons_zero, List.set_cons_succ, List.drop_succ_cons, List.drop_zero, List.take_succ_cons, List.take_zero, setFrom]; exact rfl) (by rfl) ?_)) | (refine at_store rfl ?_; first | (refine wpl_store1 rfl _ _ _ rfl hS 0 _ _ rfl (.int _ _) rfl _ _ rfl rfl rfl (by simp only [List.set_cons_zero, List.set_cons_succ, List.drop_succ_cons, List.drop_zero, List.take_succ_cons, List.take_zero, setFrom]; exact rfl) ?_; clear hS; intro w hS) | (refine wpl_store1 rfl _ _ _ rfl hS 1 _ _ rfl (.int _ _) rfl _ _ rfl rfl rfl (by simp only [List.set_cons_zero, List.set_cons_succ, List.drop_succ_cons, List.drop_zero, List.take_succ_cons, List.take_zero, setFrom]; exact rfl) ?_; clear hS; intro w hS) | (refine wpl_store1 rfl _ _ _ rfl hS 0 _ _ rfl (.slice _ _ _) rfl _ _ rfl rfl rfl (by simp only [List.set_cons_zero, List.set_cons_succ, List.drop_succ_cons, List.drop_zero, List.take_succ_cons, List.take_zero, setFrom]; exact rfl) ?_; clear hS; intro w hS) | (refine wpl_store1 rfl _ _ _ rfl hS 1 _ _ rfl (.slice _ _ _) rfl _ _ rfl rfl rfl (by simp only [List.set_cons_zero, List.set_cons_succ, List.drop_succ_cons, List.drop_zero, List.take_succ_cons, List.take_zero, setFrom]; exact rfl) ?_; clear hS; intro w hS) | (refine wpl_store1 rfl _ _ _ rfl hS 0 _ _ rfl (.string _) rfl _ _ rfl rfl rfl (by simp only [List.set_cons_zero, List.set_cons_succ, List.drop_succ_cons, List.drop_zero, List.take_succ_cons, List.take_zero, setFrom]; exact rfl) ?_; clear hS; intro w hS) | (refine wpl_store1 rfl _ _ _ rfl hS 1 _ _ rfl (.string _) rfl _ _ rfl rfl rfl (by simp only [List.set_cons_zero, List.set_cons_succ, List.drop_succ_cons, List.drop_zero, List.take_succ_cons, List.take_zero, setFrom]; exact rfl) ?_; clear hS; intro w hS) | (refine wpl_store1 rfl _ _ _ rfl hS 0 _ _ rfl (.bool _) rfl _ _ rfl rfl rfl (by simp only [List.set_cons_zero, List.set_cons_succ, List.drop_succ_cons, List.drop_zero, List.take_succ_cons, List.take_zero, setFrom]; exact rfl) ?_; clear hS; intro w hS) | (refine wpl_store1 rfl _ _ _ rfl hS 1 _ _ rfl (.bool _) rfl _ _ rfl rfl rfl (by simp only [List.set_cons_zero, List.set_cons_succ, List.drop_succ_cons, List.drop_zero, List.take_succ_cons, List.take_zero, setFrom]; exact rfl) ?_; clear hS; intro w hS) | (refine wpl_store1 rfl _ _ _ rfl hS 0 _ _ rfl (.pointer _) rfl _ _ rfl rfl rfl (by simp only [List.set_cons_zero, List.set_cons_succ, List.drop_succ_cons, List.drop_zero, List.take_succ_cons, List.take_zero, setFrom]; exact rfl) ?_; clear hS; intro w hS) | (refine wpl_store1 rfl _ _ _ rfl hS 1 _ _ rfl (.pointer _) rfl _ _ rfl rfl rfl (by simp only [List.set_cons_zero, List.set_cons_succ, List.drop_succ_cons, List.drop_zero, List.take_succ_cons, List.take_zero, setFrom]; exact rfl) ?_; clear hS; intro w hS) | (refine wpl_storeN rfl _ _ _ rfl hS 0 _ _ rfl _ rfl _ _ rfl (by rfl) rfl rfl (by simp only [List.set_cons_zero, List.set_cons_succ, List.drop_succ_cons, List.drop_zero, List.take_succ_cons, List.take_zero, setFrom]; exact rfl) ?_; clear hS; intro w hS) | (refine wpl_storeN rfl _ _ _ rfl hS 1 _ _ rfl _ rfl _ _ rfl (by rfl) rfl rfl (by simp only [List.set_cons_zero, List.set_cons_succ, List.drop_succ_cons, List.drop_zero, List.take_succ_cons, List.take_zero, setFrom]; exact rfl) ?_; clear hS; intro w hS)) | (refine wpl_box rfl _ _ rfl hS _ rfl ?_; clear hS; intro g w hS) | (refine wpl_alloc rfl _ rfl hS ?_; clear hS; intro g w hS))
    go_loopg [] (last xs ys).toNat (fun k wr => HuntAt w0 xs ys g k wr)
    case atStart => exact ⟨0, last xs ys, 2, by omega, hl1, hl2.1, hl2.2, by omega, by omega, by omega, Hh.out, hS⟩
    case round =>
      obtain ⟨l, h, s, h1, h2, h3, h4, h5, h6, h7, h8, hS⟩ := hrel
      have H8 := Lib.hid h8
      clear h8
      by_cases hc : h ≤ 1000000 ∧ 2 ≤ h ∧ l ≤ h - 2
      · obtain ⟨hc1, hc2, hc3⟩ := hc
        have hp := Lib.hid (probe_in h1 hc1 hc2 hc3)
        have hp0 : 0 ≤ (l + h) / 2 ∧ l < (l + h) / 2 ∧ (l + h) / 2 < h := by omega
        obtain ⟨hp1, hp2, hp3⟩ := hp0
        go_wp2_with (first | (go_at_call 40; refine (I_probe l h s _ (by omega) (by omega) (by omega) (by omega)).mono ?_; rintro e w1 ⟨rfl, hb⟩; rw [← hp.out]; have hS := hS.step hb; clear hb) | (refine at_load rfl ?_; first | (refine wpl_load1 rfl _ _ rfl hS 0 _ _ rfl _ _ rfl _ rfl ?_) | (refine wpl_loadN rfl _ _ rfl hS 0 _ _ rfl _ _ rfl _ (by simp only [List.set_cons_zero, List.set_cons_succ, List.drop_succ_cons, List.drop_zero, List.take_succ_cons, List.take_zero, setFrom]; exact rfl) (by rfl) ?_)) | (refine at_store rfl ?_; first | (refine wpl_store1 rfl _ _ _ rfl hS 0 _ _ rfl (.int _ _) rfl _ _ rfl rfl rfl (by simp only [List.set_cons_zero, List.set_cons_succ, List.drop_succ_cons, List.drop_zero, List.take_succ_cons, List.take_zero, setFrom]; exact rfl) ?_; clear hS; intro w hS) | (refine wpl_store1 rfl _ _ _ rfl hS 0 _ _ rfl (.slice _ _ _) rfl _ _ rfl rfl rfl (by simp only [List.set_cons_zero, List.set_cons_succ, List.drop_succ_cons, List.drop_zero, List.take_succ_cons, List.take_zero, setFrom]; exact rfl) ?_; clear hS; intro w hS) | (refine wpl_store1 rfl _ _ _ rfl hS 0 _ _ rfl (.string _) rfl _ _ rfl rfl rfl (by simp only [List.set_cons_zero, List.set_cons_succ, List.drop_succ_cons, List.drop_zero, List.take_succ_cons, List.take_zero, setFrom]; exact rfl) ?_; clear hS; intro w hS) | (refine wpl_store1 rfl _ _ _ rfl hS 0 _ _ rfl (.bool _) rfl _ _ rfl rfl rfl (by simp only [List.set_cons_zero, List.set_cons_succ, List.drop_succ_cons, List.drop_zero, List.take_succ_cons, List.take_zero, setFrom]; exact rfl) ?_; clear hS; intro w hS) | (refine wpl_store1 rfl _ _ _ rfl hS 0 _ _ rfl (.pointer _) rfl _ _ rfl rfl rfl (by simp only [List.set_cons_zero, List.set_cons_succ, List.drop_succ_cons, List.drop_zero, List.take_succ_cons, List.take_zero, setFrom]; exact rfl) ?_; clear hS; intro w hS) | (refine wpl_storeN rfl _ _ _ rfl hS 0 _ _ rfl _ rfl _ _ rfl (by rfl) rfl rfl (by simp only [List.set_cons_zero, List.set_cons_succ, List.drop_succ_cons, List.drop_zero, List.take_succ_cons, List.take_zero, setFrom]; exact rfl) ?_; clear hS; intro w hS)) | (refine wpl_box rfl _ _ rfl hS _ rfl ?_; clear hS; intro g w hS) | (refine wpl_alloc rfl _ rfl hS ?_; clear hS; intro g w hS))
        have P0 : ∀ W : World, Calls Try.prog 40 #[.agg #[.int .i64 l, .int .i64 h, .int .i64 s]] W fun e w' => e = .returned (.int .i64 ((l + h) / 2)) ∧ Below W.heap.size W w' := fun W => by
          rw [hp.out]; exact I_probe l h s _ (by omega) (by omega) (by omega) (by omega)
        have P1 := Lib.hid P0
        clear P0
        refine wp_region_satW_tail 7 hS (by kernel_rfl) (by kernel_rfl) (by simp only [List.take_succ_cons, List.take_zero]; exact rfl) (by simp only [List.drop_succ_cons, List.drop_zero]; exact rfl) ?_; intro _hne
        have c0 : ∀ s' : SatW w0 [Hp.box g 57 [.int .i64 l, .int .i64 h, .int .i64 s]], s'.w.cell? ⟨g, 0, none⟩ = some (.int .i64 l) := fun s' => s'.cell (k := 0) rfl 0 rfl
        have c1 : ∀ s' : SatW w0 [Hp.box g 57 [.int .i64 l, .int .i64 h, .int .i64 s]], s'.w.cell? ⟨g, 1, none⟩ = some (.int .i64 h) := fun s' => s'.cell (k := 0) rfl 1 rfl
        have c2 : ∀ s' : SatW w0 [Hp.box g 57 [.int .i64 l, .int .i64 h, .int .i64 s]], s'.w.cell? ⟨g, 2, none⟩ = some (.int .i64 s) := fun s' => s'.cell (k := 0) rfl 2 rfl
        clear hS
        repeat (go_big_quiet_step (first
          | (go_at_call 40; exact SatW.calls (fun s' => P1.out s'.w) _)
          | (go_at_call 42; exact SatW.calls (fun s' => I_agree_in A B c d _ xs ys _ (s'.sat.old' hx) (s'.sat.old' hy) (by omega) (by omega) (by omega)) _)
          | (go_at_call 41; exact SatW.calls (fun s' => I_narrow l h s _ _ (by omega) (by omega) (by omega) (by omega) (by omega) (by omega)) _)))
        refine wpQuiet_nil ?_; rintro _ ⟨sq, rfl⟩; have hS := sq.sat; generalize sq.w = w at hS ⊢; clear sq
        clear c0 c1 c2 _hne
        go_wp2_with (first | (refine at_load rfl ?_; first | (refine wpl_load1 rfl _ _ rfl hS 0 _ _ rfl _ _ rfl _ rfl ?_) | (refine wpl_loadN rfl _ _ rfl hS 0 _ _ rfl _ _ rfl _ (by simp only [List.set_cons_zero, List.set_cons_succ, List.drop_succ_cons, List.drop_zero, List.take_succ_cons, List.take_zero, setFrom]; exact rfl) (by rfl) ?_)) | (refine at_store rfl ?_; first | (refine wpl_store1 rfl _ _ _ rfl hS 0 _ _ rfl (.int _ _) rfl _ _ rfl rfl rfl (by simp only [List.set_cons_zero, List.set_cons_succ, List.drop_succ_cons, List.drop_zero, List.take_succ_cons, List.take_zero, setFrom]; exact rfl) ?_; clear hS; intro w hS) | (refine wpl_store1 rfl _ _ _ rfl hS 0 _ _ rfl (.slice _ _ _) rfl _ _ rfl rfl rfl (by simp only [List.set_cons_zero, List.set_cons_succ, List.drop_succ_cons, List.drop_zero, List.take_succ_cons, List.take_zero, setFrom]; exact rfl) ?_; clear hS; intro w hS) | (refine wpl_store1 rfl _ _ _ rfl hS 0 _ _ rfl (.string _) rfl _ _ rfl rfl rfl (by simp only [List.set_cons_zero, List.set_cons_succ, List.drop_succ_cons, List.drop_zero, List.take_succ_cons, List.take_zero, setFrom]; exact rfl) ?_; clear hS; intro w hS) | (refine wpl_store1 rfl _ _ _ rfl hS 0 _ _ rfl (.bool _) rfl _ _ rfl rfl rfl (by simp only [List.set_cons_zero, List.set_cons_succ, List.drop_succ_cons, List.drop_zero, List.take_succ_cons, List.take_zero, setFrom]; exact rfl) ?_; clear hS; intro w hS) | (refine wpl_store1 rfl _ _ _ rfl hS 0 _ _ rfl (.pointer _) rfl _ _ rfl rfl rfl (by simp only [List.set_cons_zero, List.set_cons_succ, List.drop_succ_cons, List.drop_zero, List.take_succ_cons, List.take_zero, setFrom]; exact rfl) ?_; clear hS; intro w hS) | (refine wpl_storeN rfl _ _ _ rfl hS 0 _ _ rfl _ rfl _ _ rfl (by rfl) rfl rfl (by simp only [List.set_cons_zero, List.set_cons_succ, List.drop_succ_cons, List.drop_zero, List.take_succ_cons, List.take_zero, setFrom]; exact rfl) ?_; clear hS; intro w hS)) | (refine wpl_box rfl _ _ rfl hS _ rfl ?_; clear hS; intro g w hS) | (refine wpl_alloc rfl _ rfl hS ?_; clear hS; intro g w hS))
        have hng : gk ≠ 0 := by omega
        obtain ⟨n, rfl⟩ := Nat.exists_eq_succ_of_ne_zero hng
        have hstep := hunt_step h1 hc1 hc2 hc3 h5 h6 h7 H8.out
        go_roundg n
        case measure => omega
        case rel => exact ⟨_, _, _, hstep.1, hstep.2.1, by omega, by omega, hstep.2.2.2.1, hstep.2.2.2.2.1, hstep.2.2.2.2.2.1, hstep.2.2.2.2.2.2, hS⟩
      · have hstop := Lib.hid (huntGo_stop (a := xs) (b := ys) (n := gk) (s := s) hc)
        have hpn := Lib.hid (probe_neg hc)
        clear hc
        go_wp2_with (first | (go_at_call 40; refine (I_probe l h s _ (by omega) (by omega) (by omega) (by omega)).mono ?_; rintro e w1 ⟨rfl, hb⟩; rw [hpn.out]; have hS := hS.step hb; clear hb) | (refine at_load rfl ?_; first | (refine wpl_load1 rfl _ _ rfl hS 0 _ _ rfl _ _ rfl _ rfl ?_) | (refine wpl_loadN rfl _ _ rfl hS 0 _ _ rfl _ _ rfl _ (by simp only [List.set_cons_zero, List.set_cons_succ, List.drop_succ_cons, List.drop_zero, List.take_succ_cons, List.take_zero, setFrom]; exact rfl) (by rfl) ?_)) | (refine at_store rfl ?_; first | (refine wpl_store1 rfl _ _ _ rfl hS 0 _ _ rfl (.int _ _) rfl _ _ rfl rfl rfl (by simp only [List.set_cons_zero, List.set_cons_succ, List.drop_succ_cons, List.drop_zero, List.take_succ_cons, List.take_zero, setFrom]; exact rfl) ?_; clear hS; intro w hS) | (refine wpl_store1 rfl _ _ _ rfl hS 0 _ _ rfl (.slice _ _ _) rfl _ _ rfl rfl rfl (by simp only [List.set_cons_zero, List.set_cons_succ, List.drop_succ_cons, List.drop_zero, List.take_succ_cons, List.take_zero, setFrom]; exact rfl) ?_; clear hS; intro w hS) | (refine wpl_store1 rfl _ _ _ rfl hS 0 _ _ rfl (.string _) rfl _ _ rfl rfl rfl (by simp only [List.set_cons_zero, List.set_cons_succ, List.drop_succ_cons, List.drop_zero, List.take_succ_cons, List.take_zero, setFrom]; exact rfl) ?_; clear hS; intro w hS) | (refine wpl_store1 rfl _ _ _ rfl hS 0 _ _ rfl (.bool _) rfl _ _ rfl rfl rfl (by simp only [List.set_cons_zero, List.set_cons_succ, List.drop_succ_cons, List.drop_zero, List.take_succ_cons, List.take_zero, setFrom]; exact rfl) ?_; clear hS; intro w hS) | (refine wpl_store1 rfl _ _ _ rfl hS 0 _ _ rfl (.pointer _) rfl _ _ rfl rfl rfl (by simp only [List.set_cons_zero, List.set_cons_succ, List.drop_succ_cons, List.drop_zero, List.take_succ_cons, List.take_zero, setFrom]; exact rfl) ?_; clear hS; intro w hS) | (refine wpl_storeN rfl _ _ _ rfl hS 0 _ _ rfl _ rfl _ _ rfl (by rfl) rfl rfl (by simp only [List.set_cons_zero, List.set_cons_succ, List.drop_succ_cons, List.drop_zero, List.take_succ_cons, List.take_zero, setFrom]; exact rfl) ?_; clear hS; intro w hS)) | (refine wpl_box rfl _ _ rfl hS _ rfl ?_; clear hS; intro g w hS) | (refine wpl_alloc rfl _ rfl hS ?_; clear hS; intro g w hS))
        have c1 := (hS.cell (k := 0) rfl 1)
        have c2 := (hS.cell (k := 0) rfl 2)
        simp only [List.getElem?_cons_succ, List.getElem?_cons_zero] at c1 c2
        go_quiet (fail)
        go_wp2
        go_ret2
        exact ⟨ret_two (by rw [← H8.out, hstop.out]), (hS.drewN _).below⟩
theorem I_run' (xs ys : List Int) (v u : Value) (w : World) {F G : Nat → Prop} (hv : Rep.rd w F xs [v]) (hu : Rep.rd w G ys [u]) (hn : xs.length ≤ 1048576) (hm : ys.length ≤ 1048576) :
    Calls Try.prog 11 #[v, u] w fun e w' => e = .returned (.tuple #[.int .i64 (hunt xs ys).1, .int .i64 (hunt xs ys).2]) ∧ Below w.heap.size w w' := by
  obtain ⟨A, c, hv', _, _, hl⟩ := Rep.oldB hv
  obtain ⟨A', c', hu', _, _, hl'⟩ := Rep.oldB hu
  simp only [List.cons.injEq, and_true] at hv' hu'
  subst hv' hu'
  exact I_run A A' c c' xs ys w hl hl' hn hm

end Go.Proofs.Ytjkpoffhnccanaa
