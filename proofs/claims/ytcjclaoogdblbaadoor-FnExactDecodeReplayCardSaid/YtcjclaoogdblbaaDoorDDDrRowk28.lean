/-
  Parts of the proof (rules, data, and what functions of the program and of the reference return), among them: What a valid replay is, in the program and in the reference; Replays as bytes: what they hold, and that decoding undoes encoding alone.
  Conditions: those that each theorem names.
-/
import Derived.Test.YtcjclaoogdblbaaDoorDDDrRowk20
import Derived.Test.YtcjclaoogdblbaaDoorDDDrRowk22
import Derived.Test.YtcjclaoogdblbaaDoorDDDrRowk27
set_option linter.unusedSimpArgs false
set_option linter.unusedVariables false
set_option maxRecDepth 8000
set_option maxHeartbeats 4000000
namespace Go.Proofs.YtcjclaoogdblbaaDoor
section
open Go.RowKit

/-! ### Numbers -/
theorem bytesL_len {s : ByteArray} {q k : Nat} (h : q + k ≤ s.size) : (bytesL s q k).length = k := by
 have : s.data.toList.length = s.size := by simp
 simp [bytesL]; omega
theorem dvGo_canon (s : ByteArray) (q : Nat) : ∀ (f k : Nat) (m : Int) (j : Nat),q + k ≤ s.size → (∀ a ∈ bytesL s q k,128 ≤ a.toNat) → dvGo s q (dval (bytesL s q k) : Nat) k f = some (m,j) → encVar m = bytesL s q j := by
 intro f
 induction f with
 | zero => intro k m j _ _ h; simp [dvGo] at h
 | succ f ih =>
  intro k m j hqk hall h
  have hlen := bytesL_len hqk
  rw [dvGo] at h
  split at h
  ·rename_i hlt
   obtain ⟨b,hb,hcb⟩ := bytesL_succ hlt
   have hval : (dval (bytesL s q k) : Int) + byteAt s (q + k) % 128 * 2 ^ (7 * k) = ((dval (bytesL s q (k + 1)) : Nat) : Int) := by
    rw [hb,dval_snoc,hlen,hcb]
    push_cast
    rfl
   rw [hval] at h
   split at h
   ·rename_i h128
    refine ih (k + 1) m j (by omega) (fun a ha => ?_) h
    rw [hb] at ha
    rcases List.mem_append.1 ha with ha | ha
    ·exact hall a ha
    ·simp only [List.mem_singleton] at ha
     rw [ha]; omega
   ·rename_i h128
    split at h
    ·cases h
    ·rename_i hbad
     simp only [Option.some.injEq,Prod.mk.injEq] at h
     obtain ⟨rfl,rfl⟩ := h
     have hcan := canon (b := b) (by omega) (bytesL s q k) hall
     have hnil : bytesL s q k = [] ↔ k = 0 := by rw [← List.length_eq_zero_iff,hlen]
     rw [← hb,hnil] at hcan
     rw [encVar,if_pos (by omega),show ((dval (bytesL s q (k + 1)) : Nat) : Int).toNat = dval (bytesL s q (k + 1)) by omega]
     exact hcan.2 (by omega)
  ·cases h
theorem decVar_canon {s : ByteArray} {p m : Int} {j : Nat} (h : decVar s p = some (m,j)) : encVar m = bytesL s p.toNat j := by
 unfold decVar at h
 split at h
 ·exact dvGo_canon s p.toNat 6 0 m j (by omega) (by simp [bytesL]) (by simpa [bytesL,dval] using h)
 ·cases h
theorem signless_signed {u : Int} (h : 0 ≤ u ∧ u ≤ 1099511627775) : signless (signed u) = u := by
 unfold signed
 rw [if_pos h]
 split
 ·rw [signless,if_pos (by omega),if_pos (by omega)]; omega
 ·rw [signless,if_pos (by omega),if_neg (by omega)]; omega
/-! ### Lists -/
theorem X3 {s : ByteArray} {q j k : Nat} : bytesL s q j ++ bytesL s (q + j) k = bytesL s q (j + k) := by
 unfold bytesL
 rw [← List.drop_drop,List.take_add]
def packB (l : List Int) : List UInt8 := l.flatMap fun x => encVar (signless x)
theorem uiGo_canon (s : ByteArray) (p : Nat) : ∀ (c pos : Nat) (l : List Int) (j : Nat),uiGo s p c pos = some (l,j) → pos ≤ j ∧ packB l = bytesL s (p + pos) (j - pos) ∧ ∀ x ∈ l,0 ≤ signless x := by
 intro c
 induction c with
 | zero =>
  intro pos l j h
  simp only [uiGo,Option.some.injEq,Prod.mk.injEq] at h
  obtain ⟨rfl,rfl⟩ := h
  exact ⟨Nat.le_refl _,by simp [packB,bytesL],fun x hx => by simp at hx⟩
 | succ c ih =>
  intro pos l j h
  rw [uiGo] at h
  split at h
  ·cases h
  ·rename_i v m hd
   obtain ⟨r,h1,h2⟩ := Option.map_eq_some_iff.1 h
   simp only [Prod.mk.injEq] at h2
   obtain ⟨rfl,rfl⟩ := h2
   have hm := X5 hd
   have hcn := decVar_canon hd
   obtain ⟨a1,a2,a3⟩ := ih (pos + m) r.1 r.2 h1
   have hsg := signless_signed (u := v) (by omega)
   refine ⟨by omega,?_,fun x hx => ?_⟩
   ·rw [packB,List.flatMap_cons,hsg,hcn,show ((p : Int) + (pos : Int)).toNat = p + pos by omega]
    show bytesL s (p + pos) m ++ packB r.1 = _
    rw [a2,show p + (pos + m) = p + pos + m by omega,X3]
    congr 1
    omega
   ·rcases List.mem_cons.1 hx with rfl | hx
    ·rw [hsg]; omega
    ·exact a3 x hx
theorem unpackInts_canon {s : ByteArray} {p : Int} {l : List Int} {j : Nat} (h : unpackInts s p = some (l,j)) : packInts l = bs (bytesL s p.toNat j) := by
 unfold unpackInts at h
 split at h
 ·cases h
 ·rename_i n k hd
  have hm := X5 hd
  have hcn := decVar_canon hd
  obtain ⟨a1,a2,a3⟩ := uiGo_canon s _ _ _ _ _ h
  obtain ⟨b1,b2,b3,b4⟩ := uiGo_some s _ _ _ _ _ h
  have hall : (l.all fun x => decide (0 ≤ signless x)) = true := List.all_eq_true.2 fun x hx => decide_eq_true (a3 x hx)
  rw [packInts,if_pos hall,packK,List.take_length,show (l.length : Int) = n by omega,hcn]
  show bs (bytesL s p.toNat k ++ packB l) = _
  rw [a2,X3]
  congr 2
  omega
/-! ### Texts -/
theorem Za {s t : ByteArray} {p : Int} {j : Nat} (h : unpackText s p = some (t,j)) : packText t = bs (bytesL s p.toNat j) := by
 unfold unpackText at h
 split at h
 ·cases h
 ·rename_i n k hd
  have hm := X5 hd
  have hcn := decVar_canon hd
  split at h
  ·cases h
  ·simp only [Option.some.injEq,Prod.mk.injEq] at h
   obtain ⟨rfl,rfl⟩ := h
   have hsz : (s.extract (p + k).toNat (p + k + n).toNat).size = n.toNat := by
    rw [ByteArray.size_extract]; omega
   rw [packText,hsz,show ((n.toNat : Nat) : Int) = n by omega,hcn,show (p + k + n).toNat = (p + k).toNat + n.toNat by omega,extract_bytes,Xz,show (p + k).toNat = p.toNat + k by omega,X3]
theorem unpackTrack_ok {t : ByteArray} {l : List Int} (h : unpackTrack t = some l) (hl : 0 < l.length) : inOk l = true := by
 obtain ⟨h1,h2,_⟩ := Zc h
 cases ho : inOk l with
 | true => rfl
 | false =>
  rw [packTrack,if_neg (by rw [ho]; simp)] at h1
  subst h1
  rw [show unpackTrack (bs []) = some [] from unpackTrack_nil] at h
  simp only [Option.some.injEq] at h
  rw [← h] at hl
  simp at hl
/-! ### Columns -/
theorem colM_snocs {rows : List (List Int)} {l : List Int} {k : Nat} (hl : l.length = rows.length) (hk : ∀ r ∈ rows,r.length = k) : colM (snocs rows l) k = l ∧ ∀ i,i < k → colM (snocs rows l) i = colM rows i := by
 have hlen := snocs_len hl
 refine ⟨List.ext_getElem (by rw [colM_len,hlen,hl]) fun q h1 h2 => ?_,fun i hi => List.ext_getElem (by rw [colM_len,colM_len,hlen]) fun q h1 h2 => ?_⟩
 ·have h3 : q < rows.length := by omega
  simp only [colM,List.getElem_map]
  rw [snocs_at h3 h2]
  have := hk _ (List.getElem_mem h3)
  simp [List.getD_eq_getElem?_getD,this]
 ·rw [colM_len] at h2
  simp only [colM,List.getElem_map]
  rw [snocs_at h2 (by omega)]
  have := hk _ (List.getElem_mem h2)
  simp [List.getD_eq_getElem?_getD,List.getElem?_append_left,this,hi]
theorem snocs_lens {rows : List (List Int)} {l : List Int} {k : Nat} (hl : l.length = rows.length) (hk : ∀ r ∈ rows,r.length = k) : ∀ r ∈ snocs rows l,r.length = k + 1 := fun r hr => by
 obtain ⟨q,hq,rfl⟩ := List.getElem_of_mem hr
 have h3 : q < rows.length := by rw [snocs_len hl] at hq; exact hq
 rw [snocs_at h3 (by omega)]
 have := hk _ (List.getElem_mem h3)
 simp [this]
theorem colsB_eq {a b : List (List Int)} : ∀ k,(∀ i,i < k → colM a i = colM b i) → colsB a k = colsB b k
 | 0,_ => rfl
 | k + 1,h => by rw [colsB,colsB,h k (by omega),colsB_eq k fun i hi => h i (by omega)]
theorem colsGo_canon (s : ByteArray) (n : Nat) (hn : 0 < n) : ∀ (c pos : Nat) (rows : List (List Int)) (k : Nat) (R : List (List Int)) (e : Nat),pos ≤ s.size → rows.length = n → (∀ r ∈ rows,r.length = k) → (∀ i,i < k → inOk (colM rows i) = true) → colsGo s n c pos rows = some (R,e) →
  R.length = n ∧ pos ≤ e ∧ e ≤ s.size ∧ (∀ r ∈ R,r.length = k + c) ∧ (∀ i,i < k + c → inOk (colM R i) = true) ∧ colsB R (k + c) = colsB rows k ++ bs (bytesL s pos (e - pos)) := by
 intro c
 induction c with
 | zero =>
  intro pos rows k R e hp h1 h2 h3 h
  simp only [colsGo,Option.some.injEq,Prod.mk.injEq] at h
  obtain ⟨rfl,rfl⟩ := h
  exact ⟨h1,Nat.le_refl _,hp,h2,h3,by rw [Nat.sub_self,show bytesL s pos 0 = [] by simp [bytesL],app_nil]; rfl⟩
 | succ c ih =>
  intro pos rows k R e hp h1 h2 h3 h
  rw [colsGo] at h
  split at h
  ·cases h
  ·rename_i t m hv
   have hm := Zb hv
   have hcn := Za hv
   split at h
   ·cases h
   ·rename_i l hw
    split at h
    ·rename_i hl
     have hl' : l.length = rows.length := by omega
     obtain ⟨c1,c2⟩ := colM_snocs hl' h2
     have hin := unpackTrack_ok hw (by omega)
     obtain ⟨g1,g2,g3,g4,g5,g6⟩ := ih (pos + m) (snocs rows l) (k + 1) R e (by omega) (by rw [snocs_len hl']; exact h1) (snocs_lens hl' h2) (fun i hi => by
      by_cases hik : i = k
      ·rw [hik,c1]; exact hin
      ·rw [c2 i (by omega)]; exact h3 i (by omega)) h
     refine ⟨g1,by omega,g3,by rw [show k + (c + 1) = k + 1 + c by omega]; exact g4,by rw [show k + (c + 1) = k + 1 + c by omega]; exact g5,?_⟩
     rw [show k + (c + 1) = k + 1 + c by omega,g6,colsB,c1,colsB_eq k c2,(Zc hw).1,hcn,ByteArray.append_assoc,show (pos : Int).toNat = pos by omega,Xz (bytesL s pos m),X3,show m + (e - (pos + m)) = e - pos by omega]
    ·cases h
/-! ### DecodeStream -/
theorem sealText_inj {a b : ByteArray} : sealText a = sealText b ↔ a = b := ⟨fun h => by
 have := openText_seal a
 rw [h,openText_seal b] at this
 simpa using this.symm,fun h => by rw [h]⟩
theorem bytesL_all (s : ByteArray) (k : Nat) (h : k ≤ s.size) : bs (bytesL s 0 k) = s ↔ k = s.size := by
 constructor
 ·intro e
  have := congrArg ByteArray.size e
  rw [X0,bytesL_len (by omega)] at this
  exact this
 ·intro e
  subst e
  unfold bytesL
  rw [List.drop_zero,show s.size = s.data.toList.length by simp,List.take_length,bs_of]
end
section
open Go.RowKit

def replayOk (r : TReplay) : Bool := levelOk r.Level && inR r.Players 1 4 && inR r.Seed 0 65535 && inR r.Every 1 100 && decide (r.Rows.length ≤ 400) && (r.Rows.all fun row => rowOk row r.Players) && decide ((r.Keys.length : Int) = (r.Rows.length : Int) / r.Every)
theorem replay_no {r : TReplay} (h : ((!levelOk r.Level || !inR r.Players 1 4) || !inR r.Seed 0 65535) = true ∨ ((!inR r.Every 1 100) || decide (400 < (r.Rows.length : Int))) = true ∨ (r.Rows.all fun row => rowOk row r.Players) = false) : replayOk r = false := by
 unfold replayOk
 rcases h with h | h | h
 ·simp only [Bool.or_eq_true,Bool.not_eq_true'] at h
  rcases h with (h | h) | h <;> simp [h]
 ·simp only [Bool.or_eq_true,Bool.not_eq_true',decide_eq_true_eq] at h
  rcases h with h | h
  ·simp [h]
  ·simp [show ¬ r.Rows.length ≤ 400 by omega]
 ·simp [h]
theorem replay_yes {r : TReplay} (h1 : ((!levelOk r.Level || !inR r.Players 1 4) || !inR r.Seed 0 65535) = false) (h2 : ((!inR r.Every 1 100) || decide (400 < (r.Rows.length : Int))) = false) (h3 : (r.Rows.all fun row => rowOk row r.Players) = true) : replayOk r = decide ((r.Keys.length : Int) = (r.Rows.length : Int) / r.Every) := by
 simp only [Bool.or_eq_false_iff,Bool.not_eq_false',decide_eq_false_iff_not] at h1 h2
 unfold replayOk
 rw [h3]
 simp [h1,h2,show r.Rows.length ≤ 400 by omega]

theorem I_ReplayOk (x : TReplay) (hg : Enc.gd x) : Con Tryd.prog 55 [] [ag x] [] (B (replayOk x)) := by
 obtain ⟨g_Level,g_Players,g_Seed,g_Every,g_Rows,g_Keys⟩ := hg
 have g1 := g_Rows.1
 have g2 := g_Keys.1
 have hlr := X8 x.Rows
 have hlk := X8 x.Keys
 have cl := I_LevelOk x.Level g_Level
 refine Con.of Tryd.func55 J Tryd.ntmps55 J (fun E => ?_)
 refine zy (Ki (Qq J J J J) J (z1 J (zz (Qd (zy (z2 J J J (z4 J J J ?_)))))));refine zx (Qj J J (cl) J) J ?_;refine zn J (z0 J ?_);refine zx (Qt.grdF J J J .stop (fun hgrd => Zt J J)) J ?_;refine zx (Kq J (.hit .stop) (fun hgrd => Qg J J J J J)) J ?_;refine zx (Kq J (.hit (.hit .stop)) (fun hgrd => Qj J J (Xm x.Players 1 4) J)) J ?_;refine zx (Kq J (.hit (.hit (.hit .stop))) (fun hgrd => Q3 J J J)) J ?_;refine zx (q_or J J J J) J (z0 J ?_);refine zx (Qt.grdF J J J .stop (fun hgrd => Zt J J)) J ?_;refine zx (Kq J (.hit .stop) (fun hgrd => Qg J J J J J)) J ?_;refine zx (Kq J (.hit (.hit .stop)) (fun hgrd => Qj J J (Xm x.Seed 0 65535) J)) J ?_;refine zx (Kq J (.hit (.hit (.hit .stop))) (fun hgrd => Q3 J J J)) J ?_;refine zx (q_or J J J J) J (zz ?_)
 refine Q9 J (fun h1 => ?_) (fun h1 => ?_)
 ·refine zy (z1 rfl (zz (Q8 (T_r (F_r ?_)))))
  exact Ke J (Kf [] J J (Xf (replay_no (.inl h1)).symm))
 refine AWP.pre (st' := (⟨_,[(1,.o (.c (.ptr 0 0)))],[.box ((Enc.e x).map (V1.rd []))]⟩ : St)) ?_ (Kb [0])
 refine Qh (Qz (Qd (zy (z2 J J J (z3 J ?_)))));refine zx (Qj J J (Xm x.Every 1 100) J) J ?_;refine zn J (z0 J ?_);refine zx (Qt.grdF J J J .stop (fun hgrd => Zt J J)) J ?_;refine zx (Kq J (.hit .stop) (fun hgrd => Qg J J J J J)) J ?_;refine zx (Kq J (.hit (.hit .stop)) (fun hgrd => Yw J J J)) J ?_;refine zx (Kq J (.hit (.hit (.hit .stop))) (fun hgrd => q_gtr J J J J)) J ?_;refine zx (q_or J J J J) J (zz ?_)
 refine Q9 J (fun h2 => ?_) (fun h2 => ?_)
 ·refine zy (z1 rfl (zz (Q8 (T_r (F_r ?_)))))
  exact Ke J (Kf [] J J (Xf (replay_no (.inr (.inl (by rwa [hlr] at h2)))).symm))
 rw [hlr] at h2
 have hE : 1 ≤ x.Every := by
  simp only [Bool.or_eq_false_iff,Bool.not_eq_false',Ye] at h2
  exact h2.1.1
 refine Qh (Qz (Qd (zy (z2 J J J (z3 J (zx (Yw J J J) J (z0 J (zz (Qk ?_)))))))));refine Xe (fun m st => ∃ k : Nat,k + m = x.Rows.length ∧ ((x.Rows.take k).all (fun row => rowOk row x.Players) = true) ∧ st = (⟨_,[(1,.o (.c (.ptr 0 0))),(32,L x.Rows),(33,I (els x.Rows).length),(34,I k)],[.box ((Enc.e x).map (V1.rd []))]⟩ : St)) (x.Rows.length) ⟨_,⟨0,by omega,by simp,J⟩,Kb [0]⟩ ?_
 rintro m_A _ ⟨k,hk_A,hp_A,rfl⟩
 refine zy (zx (Zl J) J (zz (Qd ?_)))
 refine Q9 J (fun h => ?_) (fun h => ?_)
 ·have h3 : k < x.Rows.length := by have := of_decide_eq_true h; omega
  have hat := X7 h3
  have hc := I_rowOk x.Rows[k] x.Players (g_Rows.2 _ (List.getElem_mem h3))
  refine Qh (Qz (Qd (Qk (zy (zx (Q1 J J J J (by omega) (by assumption) J) J (zx (Kc J) J (z1 J (zz (Qd ?_)))))))));refine Qc (z0 J (z2 J J J (z3 J ?_)));refine zx (Qj J J (hc) J) J ?_;refine zn J (zz ?_)
  refine Q9 J (fun h4 => ?_) (fun h4 => ?_)
  ·refine zy (z1 rfl (zz (Q8 (B_r (T_r (T_r (B_r ?_)))))))
   refine T_r (F_r ?_)
   exact Ke J (Kf [] J J (Xf (replay_no (.inr (.inr (all_no h3 (by simpa using h4))))).symm))
  ·refine Qh (Q0 (Qz (Qc (Kd rfl (z0 rfl (Qe ?_))))))
   refine Qz ?_
   exact ⟨x.Rows.length - (k + 1),by omega,_,⟨k + 1,by omega,all_next hp_A h3 (by simpa using h4),J⟩,Kb [0]⟩
 ·have h3 : ¬ ((k : Int) < (els x.Rows).length) := of_decide_eq_false h
  refine Q7 (T_x (T_x (Xg (Qz (Qd (Xd u8_18 [[],[44],[44,45],[],[47],[47,48],[],[50],[47,48,49,50,51],[44,45,46,47,48,49,50,51,52],[44,45,46,47,48,49,50,51,52,53]] [[47,48,49,50,51,52],[47,48,49,50,51,52],[47,48,49,50,51,52],[44,45,46,50,51],[44,45,46,50,51],[44,45,46,50,51],[44,45,46,47,48,49],[44,45,46,47,48,49],[44,45,46],[],[]] J (Zh (Zt J J) J (Zh (Qg J J J J J) J (Zh (Yw J J J) J (Zh (Zt J J) J (Zh (Qg J J J J J) J ?_)))))))))));refine Zh (Yw J J J) J (Zh (Zt J J) J (Zh (Qg J J J J J) J (Zh (q_quo J J J J (by omega)) J (Zh (q_eql J J J J) J (Zh (Qb J J J) J (Zg (zz (Q8 (F_r ?_)))))))))
  exact Ke J (Kf [] J J (Xf (by rw [replay_yes h1 h2 (all_end hp_A (by omega)),hlr,hlk])))
theorem S_ReplayOk (x : TReplay) (hg : Enc.gd x) : Con Tryd.prog 86 [] [ag x] [] (B (replayOk x)) := by
 obtain ⟨g_Level,g_Players,g_Seed,g_Every,g_Rows,g_Keys⟩ := hg
 have g1 := g_Rows.1
 have g2 := g_Keys.1
 have hlr := X8 x.Rows
 have hlk := X8 x.Keys
 have cl := S_LevelOk x.Level g_Level
 refine Con.of Tryd.func86 J Tryd.ntmps86 J (fun E => ?_)
 refine zy (Ki (Qq J J J J) J (z1 J (zz (Qd (zy (z2 J J J (z4 J J J ?_)))))));refine zx (Qj J J (cl) J) J ?_;refine zn J (z0 J ?_);refine zx (Qt.grdF J J J .stop (fun hgrd => Zt J J)) J ?_;refine zx (Kq J (.hit .stop) (fun hgrd => Qg J J J J J)) J ?_;refine zx (Kq J (.hit (.hit .stop)) (fun hgrd => Qj J J (S_in x.Players 1 4) J)) J ?_;refine zx (Kq J (.hit (.hit (.hit .stop))) (fun hgrd => Q3 J J J)) J ?_;refine zx (q_or J J J J) J (z0 J ?_);refine zx (Qt.grdF J J J .stop (fun hgrd => Zt J J)) J ?_;refine zx (Kq J (.hit .stop) (fun hgrd => Qg J J J J J)) J ?_;refine zx (Kq J (.hit (.hit .stop)) (fun hgrd => Qj J J (S_in x.Seed 0 65535) J)) J ?_;refine zx (Kq J (.hit (.hit (.hit .stop))) (fun hgrd => Q3 J J J)) J ?_;refine zx (q_or J J J J) J (z0 J ?_);refine zx (Qt.grdF J J J .stop (fun hgrd => Zt J J)) J ?_;refine zx (Kq J (.hit .stop) (fun hgrd => Qg J J J J J)) J ?_;refine zx (Kq J (.hit (.hit .stop)) (fun hgrd => Qj J J (S_in x.Every 1 100) J)) J ?_;refine zx (Kq J (.hit (.hit (.hit .stop))) (fun hgrd => Q3 J J J)) J ?_;refine zx (q_or J J J J) J (z0 J ?_);refine zx (Qt.grdF J J J .stop (fun hgrd => Zt J J)) J ?_;refine zx (Kq J (.hit .stop) (fun hgrd => Qg J J J J J)) J ?_;refine zx (Kq J (.hit (.hit .stop)) (fun hgrd => Yw J J J)) J ?_;refine zx (Kq J (.hit (.hit (.hit .stop))) (fun hgrd => q_gtr J J J J)) J ?_;refine zx (q_or J J J J) J (zz ?_)
 refine Q9 J (fun h1 => ?_) (fun h1 => ?_)
 ·rw [hlr,Bool.or_assoc,Bool.or_eq_true] at h1
  refine zy (z1 J (zz (Q8 (T_r (F_r ?_)))))
  exact Ke J (Kf [] J J (Xf (replay_no (h1.imp_right .inl)).symm))
 rw [hlr,Bool.or_assoc,Bool.or_eq_false_iff] at h1
 have hE : 1 ≤ x.Every := by
  have h2 := h1.2
  simp only [Bool.or_eq_false_iff,Bool.not_eq_false',Ye] at h2
  exact h2.1.1
 refine AWP.pre (st' := (⟨_,[(1,.o (.c (.ptr 0 0)))],[.box ((Enc.e x).map (V1.rd []))]⟩ : St)) ?_ (Kb [0])
 refine Qh (Qz (Qd (zy (z1 J (zz (Qk ?_))))));refine Xe (fun m st => ∃ k : Nat,k + m = x.Rows.length ∧ ((x.Rows.take k).all (fun row => rowOk row x.Players) = true) ∧ st = (⟨_,[(1,.o (.c (.ptr 0 0))),(3,I k)],[.box ((Enc.e x).map (V1.rd []))]⟩ : St)) (x.Rows.length) ⟨_,⟨0,by omega,by simp,J⟩,Kb [0]⟩ ?_
 rintro m_A _ ⟨k,hk_A,hp_A,rfl⟩
 refine Qd (zy (z0 J (z2 J J J (z3 J (zx (Yw J J J) J (zx (Zl J) J (zz ?_)))))))
 refine Q9 J (fun h => ?_) (fun h => ?_)
 ·have h3 : k < x.Rows.length := by have := of_decide_eq_true h; omega
  have hat := X7 h3
  have hc := S_rowOk x.Rows[k] x.Players (g_Rows.2 _ (List.getElem_mem h3))
  refine Qh (Qz (Qd (Qk (Qd (Xd [[],[0],[],[0,1,2],(u9 4),[],[5],(u9 7),(u9 8)] [[],[39],[],[39,40,41],[39,40,41,42],[],[44],[39,40,41,42,43,44,45],[39,40,41,42,43,44,45,46]] [[41,44,45],[41,44,45],[39,40,44,45],[44,45],[44,45],[39,40,41,42,43],[39,40,41,42,43],[],[]] J (Zh (Zt J J) J (Zh (Qg J J J J J) J (Zh (Zr J) J (Zh (Q1 J J J J (by omega) (by assumption) J) J (Zh (Kc J) J (Zh (Zt J J) J ?_)))))))))));refine Zh (Qg J J J J J) J ?_;refine Zh (Qj J J (hc) J) J ?_;refine Zh (Q3 J J J) J (Zg (zz ?_))
  refine Q9 J (fun h4 => ?_) (fun h4 => ?_)
  ·refine zy (z1 rfl (zz (Q8 (B_r (T_r (T_r (B_r ?_)))))))
   refine T_r (F_r ?_)
   exact Ke J (Kf [] J J (Xf (replay_no (.inr (.inr (all_no h3 (by simpa using h4))))).symm))
  ·refine Qh (Q0 (Qz (Qc (z0 rfl (Kd rfl ?_)))))
   refine z1 J (zz ?_)
   exact ⟨x.Rows.length - (k + 1),by omega,_,⟨k + 1,by omega,all_next hp_A h3 (by simpa using h4),J⟩,Kb [0]⟩
 ·have h3 : ¬ ((k : Int) < (els x.Rows).length) := of_decide_eq_false h
  refine Q7 (T_x (T_x (Xg (Qz (Qd (Xd u8_18 [[],[48],[48,49],[],[51],[51,52],[],[54],[51,52,53,54,55],[48,49,50,51,52,53,54,55,56],[48,49,50,51,52,53,54,55,56,57]] [[51,52,53,54,55,56],[51,52,53,54,55,56],[51,52,53,54,55,56],[48,49,50,54,55],[48,49,50,54,55],[48,49,50,54,55],[48,49,50,51,52,53],[48,49,50,51,52,53],[48,49,50],[],[]] J (Zh (Zt J J) J (Zh (Qg J J J J J) J (Zh (Yw J J J) J (Zh (Zt J J) J (Zh (Qg J J J J J) J ?_)))))))))));refine Zh (Yw J J J) J (Zh (Zt J J) J (Zh (Qg J J J J J) J (Zh (q_quo J J J J (by omega)) J (Zh (q_eql J J J J) J (Zh (Qb J J J) J (Zg (zz (Q8 (F_r ?_)))))))))
  exact Ke J (Kf [] J J (Xf (by rw [replay_yes h1.1 h1.2 (all_end hp_A (by omega)),hlr,hlk])))
end
section
open Go.RowKit

def keysB (ks : List ByteArray) : Nat → ByteArray
 | 0 => bs []
 | k + 1 => keysB ks k ++ packText (ks.getD k ⟨#[]⟩)
def encB (r : TReplay) : ByteArray := packText (joinB r.Level.Rows slashB) ++ packInts [r.Players,r.Seed,r.Every,(r.Rows.length : Int)] ++ colsB r.Rows r.Players.toNat ++ keysB r.Keys r.Keys.length
def encodeReplay (r : TReplay) : ByteArray := if replayOk r = true then sealText (encB r) else ⟨#[]⟩
def keysGo (s : ByteArray) : Nat → Nat → List ByteArray → Option (List ByteArray × Nat)
 | 0,pos,acc => some (acc,pos)
 | c + 1,pos,acc => match unpackText s pos with
  | none => none
  | some (t,m) => keysGo s c (pos + m) (acc ++ [t])
def headOk (h0 h2 h3 : Int) : Prop := (1 ≤ h0 ∧ h0 ≤ 4) ∧ (1 ≤ h2 ∧ h2 ≤ 100) ∧ (0 ≤ h3 ∧ h3 ≤ 400)
instance (h0 h2 h3 : Int) : Decidable (headOk h0 h2 h3) := by unfold headOk; infer_instance
def drBody (s : ByteArray) : Option (TReplay × Nat) := match unpackText s 0 with
 | none => none
 | some (tx,a) => if levelOk (parseLv tx) = true then match unpackInts s a with
  | some ([h0,h1,h2,h3],b) => if headOk h0 h2 h3 then (match colsGo s h3.toNat h0.toNat (a + b) (List.replicate h3.toNat []) with
   | none => none
   | some (rows,e) => match keysGo s (h3 / h2).toNat e [] with
    | none => none
    | some (keys,e') => some (⟨parseLv tx,h0,h1,h2,rows,keys⟩,e')) else none
  | _ => none
  else none
noncomputable def drI (t : ByteArray) : Option TReplay := match openText t with
 | none => none
 | some s => match drBody s with
  | none => none
  | some (r,e) => if e = s.size ∧ replayOk r = true then some r else none
noncomputable def drS (t : ByteArray) : Option TReplay := match openText t with
 | none => none
 | some s => match drBody s with
  | none => none
  | some (r,e) => if encodeReplay r = t then some r else none
theorem app_nilB (s : ByteArray) : s ++ bs [] = s := ByteArray.append_empty
theorem keysB_pre {a b : List ByteArray} : ∀ k,k ≤ a.length → keysB (a ++ b) k = keysB a k
 | 0,_ => rfl
 | k + 1,h => by
  have h1 : (a ++ b).getD k ⟨#[]⟩ = a.getD k ⟨#[]⟩ := by simp [List.getD_eq_getElem?_getD,List.getElem?_append_left,show k < a.length by omega]
  rw [keysB,keysB,keysB_pre k (by omega),h1]
theorem keysB_snoc (a : List ByteArray) (t : ByteArray) : keysB (a ++ [t]) (a ++ [t]).length = keysB a a.length ++ packText t := by
 rw [List.length_append,show [t].length = 1 from rfl,keysB,keysB_pre _ (Nat.le_refl _)]
 simp [List.getD_eq_getElem?_getD]
theorem keysGo_canon (s : ByteArray) : ∀ (c pos : Nat) (acc ks : List ByteArray) (e : Nat),pos ≤ s.size → (∀ x ∈ acc,x.size ≤ s.size) → keysGo s c pos acc = some (ks,e) →
  pos ≤ e ∧ e ≤ s.size ∧ ks.length = acc.length + c ∧ (∀ x ∈ ks,x.size ≤ s.size) ∧ keysB ks ks.length = keysB acc acc.length ++ bs (bytesL s pos (e - pos)) := by
 intro c
 induction c with
 | zero =>
  intro pos acc ks e hp hx h
  simp only [keysGo,Option.some.injEq,Prod.mk.injEq] at h
  obtain ⟨rfl,rfl⟩ := h
  exact ⟨Nat.le_refl _,hp,J,hx,by rw [Nat.sub_self,show bytesL s pos 0 = [] by simp [bytesL],app_nilB]⟩
 | succ c ih =>
  intro pos acc ks e hp hx h
  rw [keysGo] at h
  split at h
  ·cases h
  ·rename_i t m hv
   have hm := Zb hv
   have hcn := Za hv
   obtain ⟨g1,g2,g3,g4,g5⟩ := ih (pos + m) (acc ++ [t]) ks e (by omega) (fun x hx' => by
    rcases List.mem_append.1 hx' with h1 | h1
    ·exact hx x h1
    ·simp at h1; rw [h1]; omega) h
   refine ⟨by omega,g2,by rw [g3,List.length_append]; simp; omega,g4,?_⟩
   rw [g5,keysB_snoc,hcn,ByteArray.append_assoc,show (pos : Int).toNat = pos by omega,Xz (bytesL s pos m),X3,show m + (e - (pos + m)) = e - pos by omega]
theorem snocs_nil (l : List Int) : snocs [] l = [] := rfl
theorem colsGo_canon0 (s : ByteArray) : ∀ (c pos k : Nat) (R : List (List Int)) (e : Nat),pos ≤ s.size → colsGo s 0 c pos [] = some (R,e) →
  R = [] ∧ pos ≤ e ∧ e ≤ s.size ∧ colsB [] (k + c) = colsB [] k ++ bs (bytesL s pos (e - pos)) := by
 intro c
 induction c with
 | zero =>
  intro pos k R e hp h
  simp only [colsGo,Option.some.injEq,Prod.mk.injEq] at h
  obtain ⟨rfl,rfl⟩ := h
  exact ⟨J,Nat.le_refl _,hp,by rw [Nat.sub_self,show bytesL s pos 0 = [] by simp [bytesL],app_nilB]; rfl⟩
 | succ c ih =>
  intro pos k R e hp h
  rw [colsGo] at h
  split at h
  ·cases h
  ·rename_i t m hv
   have hm := Zb hv
   have hcn := Za hv
   split at h
   ·cases h
   ·rename_i l hw
    split at h
    ·rename_i hl
     have hl0 : l = [] := List.length_eq_zero_iff.1 (by omega)
     subst hl0
     rw [snocs_nil] at h
     obtain ⟨g1,g2,g3,g4⟩ := ih (pos + m) (k + 1) R e (by omega) h
     refine ⟨g1,by omega,g3,?_⟩
     rw [show k + (c + 1) = k + 1 + c by omega,g4,colsB,show colM [] k = [] from rfl,(Zc hw).1,hcn,ByteArray.append_assoc,show (pos : Int).toNat = pos by omega,Xz (bytesL s pos m),X3,show m + (e - (pos + m)) = e - pos by omega]
    ·cases h
structure DR_ (s : ByteArray) (r : TReplay) (e : Nat) : Prop where
 le : e ≤ s.size
 enc : encB r = bs (bytesL s 0 e)
 lv : levelOk r.Level = true
 lr : r.Level.Rows.length ≤ s.size + 1
 lg : s.size ≤ 1048576 → Enc.gd r.Level
 pl : 1 ≤ r.Players ∧ r.Players ≤ 4
 sd : I64 r.Seed
 ev : 1 ≤ r.Every ∧ r.Every ≤ 100
 rl : r.Rows.length ≤ 400
 rw_ : ∀ x ∈ r.Rows,(x.length : Int) = r.Players ∧ ∀ y ∈ x,0 ≤ y ∧ y ≤ 15
 kl : r.Keys.length ≤ 400
 ks : ∀ x ∈ r.Keys,x.size ≤ s.size
theorem cols_el {R : List (List Int)} {c : Nat} (h4 : ∀ r ∈ R,r.length = c) (h5 : ∀ i,i < c → inOk (colM R i) = true) : ∀ r ∈ R,∀ x ∈ r,0 ≤ x ∧ x ≤ 15 := fun r hr x hx => by
 obtain ⟨j,hj,rfl⟩ := List.getElem_of_mem hx
 have hjc : j < c := by rw [← h4 r hr]; exact hj
 have h6 := h5 j hjc
 have h7 : r.getD j 0 ∈ colM R j := List.mem_map.2 ⟨r,hr,rfl⟩
 have h8 := Ye.1 (List.all_eq_true.1 h6 _ h7)
 rw [List.getD_eq_getElem?_getD,List.getElem?_eq_getElem hj] at h8
 exact h8
theorem drBody_ok {s : ByteArray} {r : TReplay} {e : Nat} (h : drBody s = some (r,e)) : DR_ s r e := by
 unfold drBody at h
 split at h
 ·cases h
 rename_i tx a hu
 have hus := Zb hu
 have huc := Za hu
 split at h
 case isFalse => cases h
 rename_i hlv
 split at h
 case h_2 => cases h
 rename_i h0 h1 h2 h3 b hi
 have his := Y9 hi
 have hic := unpackInts_canon hi
 split at h
 case isFalse => cases h
 rename_i hh
 obtain ⟨⟨p1,p2⟩,⟨e1,e2⟩,⟨n1,n2⟩⟩ := hh
 split at h
 ·cases h
 rename_i rows e0 hc
 split at h
 ·cases h
 rename_i keys e' hk
 simp only [Option.some.injEq,Prod.mk.injEq] at h
 obtain ⟨rfl,rfl⟩ := h
 have hR : rows.length = h3.toNat ∧ a + b ≤ e0 ∧ e0 ≤ s.size ∧ (∀ x ∈ rows,x.length = h0.toNat ∧ ∀ y ∈ x,0 ≤ y ∧ y ≤ 15) ∧ colsB rows h0.toNat = bs (bytesL s (a + b) (e0 - (a + b))) := by
  by_cases hz : h3.toNat = 0
  ·rw [hz] at hc
   obtain ⟨g1,g2,g3,g4⟩ := colsGo_canon0 s h0.toNat (a + b) 0 rows e0 (by omega) hc
   subst g1
   rw [Nat.zero_add] at g4
   exact ⟨hz.symm,g2,g3,(fun x hx => nomatch hx),by rw [g4]; exact ByteArray.empty_append⟩
  ·obtain ⟨g1,g2,g3,g4,g5,g6⟩ := colsGo_canon s h3.toNat (by omega) h0.toNat (a + b) (List.replicate h3.toNat []) 0 rows e0 (by omega) (by simp) (fun x hx => by rw [List.eq_of_mem_replicate hx]; rfl) (fun i hi => absurd hi (Nat.not_lt_zero _)) hc
   rw [Nat.zero_add] at g4 g5 g6
   have hel := cols_el g4 g5
   exact ⟨g1,g2,g3,fun x hx => ⟨g4 x hx,hel x hx⟩,by rw [g6]; exact ByteArray.empty_append⟩
 obtain ⟨r1,r2,r3,r4,r5⟩ := hR
 obtain ⟨k1,k2,k3,k4,k5⟩ := keysGo_canon s (h3 / h2).toNat e0 [] keys e' r3 (fun x hx => by cases hx) hk
 have htx : tx.size ≤ s.size := by omega
 have hd : h3 / h2 ≤ h3 := Int.ediv_le_self _ n1
 refine ⟨k2,?_,hlv,?_,fun hs => (pvL_gd (s := tx) (by omega)).1,⟨p1,p2⟩,his.2.2.2.2 h1 (by simp),⟨e1,e2⟩,by show rows.length ≤ 400; omega,fun x hx => ⟨?_,(r4 x hx).2⟩,?_,k4⟩
 ·show packText (joinB (parseLv tx).Rows slashB) ++ packInts [h0,h1,h2,(rows.length : Int)] ++ colsB rows h0.toNat ++ keysB keys keys.length = _
  have hr3 : (rows.length : Int) = h3 := by omega
  rw [joinB_parse,hr3,huc,hic,r5,k5,show keysB [] [].length = bs [] from rfl]
  have e0' : (0 : Int).toNat = 0 := rfl
  have ea : (a : Int).toNat = a := by omega
  rw [e0',ea]
  have c1 : bs (bytesL s 0 a) ++ bs (bytesL s a b) = bs (bytesL s 0 (a + b)) := by
   have := X3 (s := s) (q := 0) (j := a) (k := b)
   rw [Nat.zero_add] at this
   rw [Xz,this]
  have c2 : bs (bytesL s 0 (a + b)) ++ bs (bytesL s (a + b) (e0 - (a + b))) = bs (bytesL s 0 e0) := by
   have := X3 (s := s) (q := 0) (j := a + b) (k := e0 - (a + b))
   rw [Nat.zero_add,show a + b + (e0 - (a + b)) = e0 by omega] at this
   rw [Xz,this]
  have c3 : bs (bytesL s 0 e0) ++ (bs [] ++ bs (bytesL s e0 (e' - e0))) = bs (bytesL s 0 e') := by
   have := X3 (s := s) (q := 0) (j := e0) (k := e' - e0)
   rw [Nat.zero_add,show e0 + (e' - e0) = e' by omega] at this
   rw [Xz,Xz,List.nil_append,this]
  rw [c1,c2,c3]
 ·have h1 := Y7 47 tx.data.toList
  rw [← Lib.size_eq] at h1
  show ((splitC 47 tx.data.toList).map bs).length ≤ _
  rw [List.length_map]; omega
 ·show (x.length : Int) = h0
  have := (r4 x hx).1
  omega
 ·show keys.length ≤ 400
  rw [k3]
  show 0 + _ ≤ _
  omega
theorem enc_eq {t s : ByteArray} {r : TReplay} {e : Nat} (ho : openText t = some s) (h : drBody s = some (r,e)) : encodeReplay r = t ↔ e = s.size ∧ replayOk r = true := by
 have hb := drBody_ok h
 obtain ⟨hs,hsz⟩ := Yk ho
 unfold encodeReplay
 by_cases hr : replayOk r = true
 ·rw [if_pos hr,hb.enc,← hs,sealText_inj,bytesL_all s e hb.le]
  exact ⟨fun h => ⟨h,hr⟩,fun h => h.1⟩
 ·rw [if_neg hr]
  refine ⟨fun e => ?_,fun h => absurd h.2 hr⟩
  exfalso
  have h1 := congrArg ByteArray.size e
  have h2 : (⟨#[]⟩ : ByteArray).size = 0 := rfl
  omega
theorem dr_eq (t : ByteArray) : drI t = drS t := by
 unfold drI drS
 cases ho : openText t with
 | none => rfl
 | some s =>
  simp only []
  cases hd : drBody s with
  | none => rfl
  | some p =>
   obtain ⟨r,e⟩ := p
   simp only []
   have h := enc_eq ho hd
   by_cases h1 : e = s.size ∧ replayOk r = true
   ·rw [if_pos h1,if_pos (h.2 h1)]
   ·rw [if_neg h1,if_neg (fun h2 => h1 (h.1 h2))]
end
end Go.Proofs.YtcjclaoogdblbaaDoor
