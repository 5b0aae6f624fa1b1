/-
  The law FnExactPlayReplay returns true.
  Conditions: none.
  The kit's readings of the laws' structs as Lean data. No statement of the program is proved here.
  Conditions: none.
-/
import Derived.Test.YtmljakmaffbnlaaDDPlayRowk8
import Derived.Test.YtmljakmaffbnlaaDDPlayRowk13
section
set_option linter.unusedSimpArgs false
set_option linter.unusedVariables false
namespace Go.Proofs.Ytmljakmaffbnlaa
open Go.RowKit

@[reducible] def iv (n : Int) : V1 := .rd [] (.v (.int .i64 n))
set_option maxHeartbeats 8000000 in
theorem law_PlayReplay (r : TReplay) (k : Int) (hr : Enc.gd r) (hk : I64 k) : Con Try.prog 4 [] [ag r,ai k] [] (B true) := by
  have hz1 := sz_Replay r 1048576 hr (by omega) (by omega)
  by_cases n1 : (1048576 : Int) < Enc.wt r
  · rw [szr_neg n1] at hz1
    refine Con.of Try.func4 rfl Try.ntmps4 rfl (fun E => ?_)
    refine Qd (Qc ?_);refine M1 (Qq J J J J) J J ?_;refine M0 (Qb J J J) J J ?_;refine Qe (Q0 (Qd ?_))
    refine Qc ?_;refine M0 (Qb J J J) J J ?_;refine Qe (Q0 (Qd (Qc ?_)));refine M0 (Qu J J J J J J) J J ?_
    refine M0 (Qa J J J) J J ?_;refine M0 (Qj J J (hz1) rfl) J J ?_;refine M0 (Qb J J J) J J ?_;refine Qe (Q0 (Qd ?_))
    refine Qd (Qc ?_);refine M0 (Qa J J J) J J ?_;refine M0 (Qr (b := true) J J J J (by decide)) J J ?_;refine Qe (Q0 ?_)
    refine Qm rfl ?_;refine Qd (Qc ?_);refine M0 (Qb J J J) J J ?_;refine Qe (Q0 (Xa (T_r (F_r ?_))))
    exact E_tmp J J (W_end [] (by decide) J J J)
  rw [szr_pos (by omega)] at hz1
  have hb1 : decide ((1048576 : Int) - Enc.wt r < 0) = false := decide_eq_false (by omega)
  have ix := rep_in hr (by omega)
  have ht1 := to_Replay r (by omega)
  have hsp := S_PlayReplay r k hr hk ix
  have hip := I_PlayReplay r k hr hk ix
  have iy := play_in (k := k) ix
  generalize rwW (playM r k) = w at hsp hip iy
  generalize rwB (playM r k) = b at hsp hip
  have hq1 := eq_World w w iy.gd
  have hq2 := eq_Replay r r hr
  rw [decide_eq_true rfl] at hq1 hq2
  obtain ⟨ix1,ix2,ix3,ix4,ix5⟩ := ix
  obtain ⟨iy1,iy2,iy3,iy4⟩ := iy
  have hm_r := L_markReplay r 1 (by omega) (by omega) (by omega) (by omega) (by omega) (by omega)
  have hm_w := L_markWorld w 1 iy2 iy3 iy4 (by omega) (by omega)
  have hh := L_heldWorld w 1 iy2 iy3 iy4 (by omega) (by omega)
  have hk1 : decide ((1 : Int) + r.Level.Rows.length + tot r.Rows + r.Keys.length < 0) = false := decide_eq_false (by omega)
  have hk2 : decide (cntW w 1 < 0) = false := decide_eq_false (by unfold cntW; omega)
  refine Con.of Try.func4 rfl Try.ntmps4 rfl (fun E => ?_)
  refine Qd (Qc ?_);refine M1 (Qq J J J J) J J ?_;refine M0 (Qb J J J) J J ?_;refine Qe (Q0 (Qd ?_))
  refine Qc ?_;refine M0 (Qb J J J) J J ?_;refine Qe (Q0 (Qd (Qc ?_)));refine M0 (Qu J J J J J J) J J ?_
  refine M0 (Qa J J J) J J ?_;refine M0 (Qj J J (hz1) rfl) J J ?_;refine M0 (Qb J J J) J J ?_;refine Qe (Q0 (Qd ?_))
  refine Qd (Qc ?_);refine M0 (Qa J J J) J J ?_;refine M0 (Qr J J J J (by assumption)) J J ?_;refine Qe (Q0 ?_)
  refine Ql rfl ?_;refine Qh (Q0 (Qd (Qc ?_)));refine M0 (Qu J J J J J J) J J ?_
  refine M1 (q_call J J (ht1) J J J) J J ?_;refine M0 (Qa J J J) J J ?_;refine M1 (q_call J J (hsp) J J J) J J ?_
  refine M0 (Q8 J J J) J J ?_;refine M0 (q_ext J J J J) J J ?_;refine M0 (q_ext J J J J) J J ?_;refine M1 (Qx J J J) J J ?_
  refine Qy J J J J J J J J J ?_;refine M0 (Qb J J J) J J ?_;refine Qe (Q0 (Qd (Qc ?_)))
  refine M0 (Qu J J J J J J) J J ?_;refine M1 (q_call J J (ht1) J J J) J J ?_;refine M1 (Qx J J J) J J ?_
  refine Qy J J J J J J J J J ?_;refine Qe (Q0 (Qd (Qc ?_)));refine M0 (Qu J J J J J J) J J ?_
  refine M0 (Qa J J J) J J ?_;refine M1 (q_call J J (hip) J J J) J J ?_;refine M0 (Q8 J J J) J J ?_
  refine M0 (q_ext J J J J) J J ?_;refine M0 (q_ext J J J J) J J ?_;refine M1 (Qx J J J) J J ?_
  refine Qy J J J J J J J J J ?_;refine M0 (Qb J J J) J J ?_;refine Qe (Q0 (Qd (Qd (Qc ?_))))
  refine M0 (Qu J J J J J J) J J ?_;refine M0 (Qu J J J J J J) J J ?_;refine M0 (Qj J J (hq1) rfl) J J ?_
  refine M0 (Q4 J J J) J J ?_;refine M0 (Qa J J J) J J ?_;refine Qi J J J ?_;refine M0 (Qa J J J) J J ?_;refine Qi J J J ?_
  refine M0 (Qa J J J) J J ?_;refine Qi J J J ?_;refine M0 (q_bneqR J J J J) J J ?_;refine M0 (Qn J J J J) J J ?_;refine Qe ?_
  refine Q0 ?_;refine Ql rfl ?_;refine Qh (Q0 (Qd (Qd ?_)))
  refine AWP.pre (st' := (⟨_,[(1,I k),(2,.o (.c (.ptr 0 0))),(6,.o (.c (.ptr 4 0))),(7,B b),(8,.o (.c (.ptr 8 0))),(9,.o (.c (.ptr 12 0))),(10,B b)],[.box ((Enc.e r).map (V1.rd [])),.row 1 (els w.Level.Rows),.row 1 (els w.Scores),.row 9 (els w.Bodies),.box [.ref 1,iv w.Tick,iv w.Seed,.ref 2,.ref 3],.row 1 (els r.Level.Rows),.row 1 (els r.Rows),.row 1 (els r.Keys),.box [.ref 5,iv r.Players,iv r.Seed,iv r.Every,.ref 6,.ref 7],.row 1 (els w.Level.Rows),.row 1 (els w.Scores),.row 9 (els w.Bodies),.box [.ref 9,iv w.Tick,iv w.Seed,.ref 10,.ref 11]]⟩ : St)) ?_ (W_go [0,4,5,6,7,8,9,10,11,12,13,14,15] (by decide) rfl (rfl) (.cons rfl (.cons rfl (.cons rfl (.cons rfl (.cons rfl (.cons rfl (.cons rfl (.nil)))))))))
  refine A_draw [[],[],[1],[0,1,2],[0,1,2,3]] [[],[],[46],[45,46,47],[45,46,47,48]] [[46,47],[45],[45],[],[]] rfl ?_
  refine DR.step (Qu J J J J J J) J J ?_;refine DR.step (Qu J J J J J J) J J ?_;refine DR.step (q_call J J (ht1) J J J) J J ?_
  refine DR.step (Qj J J (hq2) rfl) J J ?_;refine DR.step (Q4 J J J) J J ?_;refine DR.stop (by kernel_rfl) (by kernel_rfl) ?_
  refine Qe (Q0 ?_)
  refine AWP.pre (st' := (⟨_,[(1,I k),(2,.o (.c (.ptr 0 0))),(6,.o (.c (.ptr 4 0))),(7,B b),(8,.o (.c (.ptr 8 0))),(9,.o (.c (.ptr 12 0))),(10,B b),(49,B false)],[.box ((Enc.e r).map (V1.rd [])),.row 1 (els w.Level.Rows),.row 1 (els w.Scores),.row 9 (els w.Bodies),.box [.ref 1,iv w.Tick,iv w.Seed,.ref 2,.ref 3],.row 1 (els r.Level.Rows),.row 1 (els r.Rows),.row 1 (els r.Keys),.box [.ref 5,iv r.Players,iv r.Seed,iv r.Every,.ref 6,.ref 7],.row 1 (els w.Level.Rows),.row 1 (els w.Scores),.row 9 (els w.Bodies),.box [.ref 9,iv w.Tick,iv w.Seed,.ref 10,.ref 11]]⟩ : St)) ?_ (W_go [0,1,2,3,4,5,6,7,8,9,10,11,12] (by decide) rfl (rfl) (.cons rfl (.cons rfl (.cons rfl (.cons rfl (.cons rfl (.cons rfl (.cons rfl (.cons rfl (.nil))))))))))
  refine Ql rfl ?_;refine Qh (Q0 (Qd (Qc ?_)));refine M0 (Qb J J J) J J ?_;refine Qe (Q0 (Qd ?_))
  refine Qc ?_;refine M0 (Qu J J J J J J) J J ?_;refine M0 (Qa J J J) J J ?_
  refine Xd (lo := [_,_,_]) (gs := [(0,.ag [.ref 0,iv r.Players,iv r.Seed,iv r.Every,.ref 1,.ref 2])]) (lo' := [_,_,_]) (new := []) [5,6,7] [(0,0,.ref 0),(0,4,.ref 1),(0,5,.ref 2)] (hm_r) J J J J J J J J J J J J J J J J J ?_
  refine M0 (Qb J J J) J J ?_;refine Qe (Q0 (Qd (Qd (Qc ?_))));refine M0 (Qa J J J) J J ?_
  refine M0 (Qr J J J J (by assumption)) J J ?_;refine M0 (Qa J J J) J J ?_;refine Qi J J J ?_
  refine M0 (Qu J J J J J J) J J ?_;refine Qi J J J ?_;refine M0 (Qu J J J J J J) J J ?_;refine Qi J J J ?_
  refine AL.weak (st' := (⟨_,[(1,I k),(2,.o (.c (.ptr 0 0))),(6,.o (.c (.ptr 4 0))),(7,B b),(9,.o (.c (.ptr 8 0))),(10,B b),(55,B false),(56,.o (.ag [.ref 5,iv w.Tick,iv w.Seed,.ref 6,.ref 7])),(57,.o (.ag [.ref 1,iv w.Tick,iv w.Seed,.ref 2,.ref 3]))],[.box ((Enc.e r).map (V1.rd [])),.row 1 (els w.Level.Rows),.row 1 (els w.Scores),.row 9 (els w.Bodies),.box [.ref 1,iv w.Tick,iv w.Seed,.ref 2,.ref 3],.row 1 (els w.Level.Rows),.row 1 (els w.Scores),.row 9 (els w.Bodies),.box [.ref 5,iv w.Tick,iv w.Seed,.ref 6,.ref 7]]⟩ : St)) (W_go [0,1,2,3,4,9,10,11,12] (by decide) rfl (rfl) (.cons rfl (.cons rfl (.cons rfl (.cons rfl (.cons rfl (.cons rfl (.cons rfl (.cons rfl (.cons rfl (.nil))))))))))) ?_
  refine M0 (Qj J J (hq1) rfl) J J ?_;refine Qi J J J ?_;refine M0 (Q4 J J J) J J ?_;refine M0 (Qn J J J J) J J ?_
  refine M0 (Qa J J J) J J ?_;refine Qi J J J ?_;refine M0 (Qa J J J) J J ?_;refine Qi J J J ?_;refine M0 (Qa J J J) J J ?_
  refine Qi J J J ?_;refine M0 (q_bneqR J J J J) J J ?_;refine M0 (Qn J J J J) J J ?_;refine Qe (Q0 ?_);refine Ql rfl ?_
  refine Qh (Q0 (Qd (Qc ?_)));refine M0 (Qb J J J) J J ?_;refine Qe (Q0 (Qd (Qc ?_)))
  refine M0 (Qu J J J J J J) J J ?_;refine M0 (Qa J J J) J J ?_
  refine AL.weak (st' := (⟨_,[(1,I k),(2,.o (.c (.ptr 0 0))),(6,.o (.c (.ptr 4 0))),(7,B b),(9,.o (.c (.ptr 8 0))),(66,.o (.ag [.ref 5,iv w.Tick,iv w.Seed,.ref 6,.ref 7])),(67,I 1)],[.box ((Enc.e r).map (V1.rd [])),.row 1 (els w.Level.Rows),.row 1 (els w.Scores),.row 9 (els w.Bodies),.box [.ref 1,iv w.Tick,iv w.Seed,.ref 2,.ref 3],.row 1 (els w.Level.Rows),.row 1 (els w.Scores),.row 9 (els w.Bodies),.box [.ref 5,iv w.Tick,iv w.Seed,.ref 6,.ref 7]]⟩ : St)) (W_go [0,1,2,3,4,5,6,7,8] (by decide) rfl (rfl) (.cons rfl (.cons rfl (.cons rfl (.cons rfl (.cons rfl (.cons rfl (.cons rfl (.nil))))))))) ?_
  refine Xd (lo := [_,_,_]) (gs := [(0,.ag [.ref 0,iv w.Tick,iv w.Seed,.ref 1,.ref 2])]) (lo' := [_,_,_]) (new := []) [5,6,7] [(0,0,.ref 0),(0,3,.ref 1),(0,4,.ref 2)] (hm_w) J J J J J J J J J J J J J J J J J ?_
  refine M0 (Qb J J J) J J ?_;refine Qe (Q0 (Qd (Qc ?_)));refine M0 (Qb J J J) J J ?_;refine Qe (Q0 ?_)
  refine Qd (Qc ?_);refine M0 (Qu J J J J J J) J J ?_;refine M0 (Qa J J J) J J ?_
  refine AL.weak (st' := (⟨_,[(1,I k),(2,.o (.c (.ptr 0 0))),(6,.o (.c (.ptr 4 0))),(7,B b),(9,.o (.c (.ptr 8 0))),(12,I (cntW w 1)),(69,.o (.ag [.ref 5,iv w.Tick,iv w.Seed,.ref 6,.ref 7])),(70,I 1)],[.box ((Enc.e r).map (V1.rd [])),.row 1 (els w.Level.Rows),.row 1 (els w.Scores),.row 9 (els w.Bodies),.box [.ref 1,iv w.Tick,iv w.Seed,.ref 2,.ref 3],.row 1 (els (markW w 1).Level.Rows),.row 1 (els (markW w 1).Scores),.row 9 (els (markW w 1).Bodies),.box [.ref 5,iv w.Tick,iv w.Seed,.ref 6,.ref 7]]⟩ : St)) (W_go [0,1,2,3,4,5,6,7,8] (by decide) rfl (rfl) (.cons rfl (.cons rfl (.cons rfl (.cons rfl (.cons rfl (.cons rfl (.cons rfl (.cons rfl (.nil)))))))))) ?_
  refine M0 (Qj J J (hh) rfl) J J ?_;refine M0 (Qb J J J) J J ?_;refine Qe (Q0 (Qd (Qd (Qc ?_))))
  refine M0 (Qa J J J) J J ?_;refine M0 (Qr J J J J (by assumption)) J J ?_;refine Qe (Q0 ?_);refine Ql rfl ?_;refine Qh (Q0 ?_)
  refine Qd (Qd (Qc ?_));refine M0 (Qa J J J) J J ?_;refine M0 (Qa J J J) J J ?_;refine M0 (q_neqR J J J J) J J ?_
  refine Qe (Q0 ?_);refine Ql rfl ?_;refine Qh (Q0 (Qd (Qc ?_)));refine M0 (Qu J J J J J J) J J ?_
  refine AL.weak (st' := (⟨_,[(1,I k),(6,.o (.c (.ptr 3 0))),(7,B b),(9,.o (.c (.ptr 7 0))),(12,I (cntW w 1)),(78,.o (.ag ((Enc.e r).map (V1.rd []))))],[.row 1 (els w.Level.Rows),.row 1 (els w.Scores),.row 9 (els w.Bodies),.box [.ref 0,iv w.Tick,iv w.Seed,.ref 1,.ref 2],.row 1 (els (markW w 1).Level.Rows),.row 1 (els (markW w 1).Scores),.row 9 (els (markW w 1).Bodies),.box [.ref 4,iv w.Tick,iv w.Seed,.ref 5,.ref 6]]⟩ : St)) (W_go [1,2,3,4,5,6,7,8] (by decide) rfl (rfl) (.cons rfl (.cons rfl (.cons rfl (.cons rfl (.cons rfl (.cons rfl (.nil)))))))) ?_
  refine M1 (q_call J J (ht1) J J J) J J ?_;refine M0 (Qa J J J) J J ?_;refine M1 (q_call J J (hip) J J J) J J ?_
  refine M0 (Q8 J J J) J J ?_;refine M0 (q_ext J J J J) J J ?_;refine M0 (q_ext J J J J) J J ?_;refine M1 (Qx J J J) J J ?_
  refine Qy J J J J J J J J J ?_;refine M0 (Qb J J J) J J ?_;refine Qe (Q0 (Qd (Qd (Qc ?_))))
  refine M0 (Qu J J J J J J) J J ?_;refine M0 (Qu J J J J J J) J J ?_;refine M0 (Qj J J (hq1) rfl) J J ?_
  refine M0 (Q4 J J J) J J ?_;refine M0 (Qa J J J) J J ?_;refine Qi J J J ?_;refine M0 (Qa J J J) J J ?_;refine Qi J J J ?_
  refine M0 (Qa J J J) J J ?_;refine Qi J J J ?_;refine M0 (q_bneqR J J J J) J J ?_;refine M0 (Qn J J J J) J J ?_;refine Qe ?_
  refine Q0 ?_;refine Ql rfl ?_;refine Qh (Q0 (Qd (Qc ?_)));refine M0 (Qb J J J) J J ?_;refine Qe (Q0 ?_)
  refine Qd (Qc ?_);refine M0 (Qu J J J J J J) J J ?_;refine M0 (Qa J J J) J J ?_
  refine AL.weak (st' := (⟨_,[(12,I (cntW w 1)),(93,.o (.ag [.ref 0,iv w.Tick,iv w.Seed,.ref 1,.ref 2])),(94,I 1)],[.row 1 (els (markW w 1).Level.Rows),.row 1 (els (markW w 1).Scores),.row 9 (els (markW w 1).Bodies)]⟩ : St)) (W_go [4,5,6] (by decide) rfl (rfl) (.cons rfl (.cons rfl (.cons rfl (.nil))))) ?_
  refine M0 (Qj J J (hh) rfl) J J ?_;refine M0 (Qb J J J) J J ?_;refine Qe (Q0 (Qd (Qd (Qc ?_))))
  refine M0 (Qa J J J) J J ?_;refine M0 (Qr J J J J (by assumption)) J J ?_;refine Qe (Q0 ?_);refine Ql rfl ?_;refine Qh (Q0 ?_)
  refine Qd (Qd (Qc ?_));refine M0 (Qa J J J) J J ?_;refine M0 (Qa J J J) J J ?_;refine M0 (q_neqR J J J J) J J ?_
  refine Qe (Q0 ?_);refine Ql rfl ?_;refine Qh (Q0 (Qd (Qc ?_)));refine M0 (Qb J J J) J J ?_;refine Qe ?_
  refine Q0 (Xa (F_r ?_))
  exact E_tmp J J (W_end [] (by decide) J J J)
end Go.Proofs.Ytmljakmaffbnlaa
end

section
set_option linter.unusedVariables false
namespace Go.Proofs.Ytmljakmaffbnlaa
open Go.ChangeShapes Go.WideShapes Go.ChangeAt Go.RowKit

def RL (w : World) (ts : List T) (cs : List Value) : Prop := ∀ (j : Nat) (t : T) (u : Value),ts[j]? = some t → cs[j]? = some u → RO w (fun _ => True) t u
theorem RL.nil {w : World} {cs : List Value} : RL w [] cs := fun _ _ _ h => by simp at h
theorem RL.app {w : World} {ts us : List T} {cs : List Value} {o n : Nat} (h1 : RL w ts ((cs.drop o).take n)) (hn : ts.length = n) (h2 : RL w us (cs.drop (o + n))) : RL w (ts ++ us) (cs.drop o) := fun j t u h3 h4 => by
  rcases Nat.lt_or_ge j ts.length with hj | hj
  · rw [List.getElem?_append_left hj] at h3
    exact h1 j t u h3 (by rw [List.getElem?_take,if_pos (by omega)]; exact h4)
  · rw [List.getElem?_append_right hj] at h3
    refine h2 (j - ts.length) t u h3 ?_
    rw [List.getElem?_drop] at h4 ⊢
    rw [← h4]
    congr 1
    omega
theorem reads_fld {P : Program} {t tt : TypeId} {fs : Array Field} {f : Field} {α : Type} [Enc α] {H : Type} {enc : TypeId × Value → H} {w : World} {spare : Nat → Bool} {held : Bool} {fuel : Nat} {cs : List Value} {x : DataW H × List MemPlace}
    (ht : P.underlying t = some (.struct fs)) (h : DataW.trod enc P w 0 spare held fuel t cs = some x) (i : Nat) (hf : fs[i]? = some f) (hty : f.type = tt) [hα : RdOf P tt α] {o : Nat} (ho : f.offset = o) :
    ∃ y : α,Enc.gd y ∧ RL w (Enc.e y) ((cs.drop o).take (Enc.k α)) := by
  obtain ⟨xs,n,_,_,hl,hlen,hfs⟩ := DataW.trod_struct ht h
  have h1 := hfs i f hf
  have hi : i < fs.size := by
    rcases Nat.lt_or_ge i fs.size with h2 | h2
    · exact h2
    · rw [Array.getElem?_eq_none h2] at hf; cases hf
  rw [List.getElem?_eq_getElem (by omega),hty,ho,hα.size] at h1
  obtain ⟨y,hg,hr⟩ := hα.of h1
  exact ⟨y,hg,hr.2⟩
theorem reads_len {P : Program} {t : TypeId} {fs : Array Field} {H : Type} {enc : TypeId × Value → H} {w : World} {spare : Nat → Bool} {held : Bool} {fuel : Nat} {cs : List Value} {x : DataW H × List MemPlace}
    (ht : P.underlying t = some (.struct fs)) (h : DataW.trod enc P w 0 spare held fuel t cs = some x) : cs.length = P.cellsOf t := by
  obtain ⟨xs,n,_,_,hl,_⟩ := DataW.trod_struct ht h
  exact hl

instance : RdOf Try.prog 3 Int := rdOf_int Try.underlying3 (by kernel_rfl)
instance : RdOf Try.prog 9 ByteArray := rdOf_string Try.underlying9 (by kernel_rfl)
instance : RdOf Try.prog 30 (List Int) := rdOf_slice Try.underlying30 (by kernel_rfl)
instance : RdOf Try.prog 22 (List ByteArray) := rdOf_slice Try.underlying22 (by kernel_rfl)
instance : RdOf Try.prog 25 (List (List Int)) := rdOf_slice Try.underlying25 (by kernel_rfl)
instance : RdOf Try.prog 24 TLevel where
  size := by kernel_rfl
  of {H enc w spare held fuel cs x} h := by
    obtain ⟨y0,g0,r0⟩ := reads_fld (α := (List ByteArray)) (tt := 22) Try.underlying24 h 0 rfl rfl rfl
    refine ⟨⟨y0⟩,g0,?_,?_⟩
    · rw [reads_len Try.underlying24 h]; kernel_rfl
    · exact (RL.app (o := 0) (n := 1) r0 rfl (RL.nil) : RL w _ (cs.drop 0))
instance : RdOf Try.prog 27 TReplay where
  size := by kernel_rfl
  of {H enc w spare held fuel cs x} h := by
    obtain ⟨y0,g0,r0⟩ := reads_fld (α := TLevel) (tt := 24) Try.underlying27 h 0 rfl rfl rfl
    obtain ⟨y1,g1,r1⟩ := reads_fld (α := Int) (tt := 3) Try.underlying27 h 1 rfl rfl rfl
    obtain ⟨y2,g2,r2⟩ := reads_fld (α := Int) (tt := 3) Try.underlying27 h 2 rfl rfl rfl
    obtain ⟨y3,g3,r3⟩ := reads_fld (α := Int) (tt := 3) Try.underlying27 h 3 rfl rfl rfl
    obtain ⟨y4,g4,r4⟩ := reads_fld (α := (List (List Int))) (tt := 25) Try.underlying27 h 4 rfl rfl rfl
    obtain ⟨y5,g5,r5⟩ := reads_fld (α := (List ByteArray)) (tt := 22) Try.underlying27 h 5 rfl rfl rfl
    refine ⟨⟨y0,y1,y2,y3,y4,y5⟩,⟨g0,g1,g2,g3,g4,g5⟩,?_,?_⟩
    · rw [reads_len Try.underlying27 h]; kernel_rfl
    · exact (RL.app (o := 0) (n := 1) r0 rfl (RL.app (o := 1) (n := 1) r1 rfl (RL.app (o := 2) (n := 1) r2 rfl (RL.app (o := 3) (n := 1) r3 rfl (RL.app (o := 4) (n := 1) r4 rfl (RL.app (o := 5) (n := 1) r5 rfl (RL.nil)))))) : RL w _ (cs.drop 0))
end Go.Proofs.Ytmljakmaffbnlaa
end
