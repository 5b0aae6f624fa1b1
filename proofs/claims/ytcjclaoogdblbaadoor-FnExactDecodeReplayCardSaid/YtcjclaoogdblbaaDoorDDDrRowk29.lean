/-
  DecodeReplay of the program.
  Conditions: texts of at most 2^20 bytes; the variable of the library's that the search in texts reads.
  FormatLevel and EncodeReplay of the reference.
  Conditions: valid levels with at most 2^30 letters; keys of at most 2^21 bytes.
-/
import Derived.Test.YtcjclaoogdblbaaDoorDDDrRowk27
import Derived.Test.YtcjclaoogdblbaaDoorDDDrRowk28
set_option linter.unusedSimpArgs false
set_option linter.unusedVariables false
set_option maxRecDepth 8000
set_option maxHeartbeats 8000000
namespace Go.Proofs.YtcjclaoogdblbaaDoor
section
open Go.RowKit

@[reducible] def nilR : V1 := .rd [] (.v (.slice none 0 0))
def zeroR : TReplay := ⟨⟨[]⟩,0,0,0,[],[]⟩
def drV : Option TReplay → TReplay
 | none => zeroR
 | some r => r
def drB : Option TReplay → Bool
 | none => false
 | some _ => true
section
variable {t s tx : ByteArray} {a b e e' : Nat} {l : List Int} {h0 h1 h2 h3 : Int} {rows : List (List Int)} {keys : List ByteArray}
theorem dr_open (h : openText t = none) : drI t = none ∧ drS t = none := by rw [drI,drS,h]; exact ⟨rfl,rfl⟩
theorem X6 (h : openText t = some s) (hb : drBody s = none) : drI t = none ∧ drS t = none := by rw [drI,drS,h]; simp only []; rw [hb]; exact ⟨rfl,rfl⟩
theorem drI_end {r : TReplay} (h : openText t = some s) (hb : drBody s = some (r,e)) : drI t = if e = s.size ∧ replayOk r = true then some r else none := by rw [drI,h]; simp only []; rw [hb]
theorem drS_end {r : TReplay} (h : openText t = some s) (hb : drBody s = some (r,e)) : drS t = if encodeReplay r = t then some r else none := by rw [drS,h]; simp only []; rw [hb]
theorem db1 (hu : unpackText s 0 = none) : drBody s = none := by rw [drBody,hu]
theorem db2 (hu : unpackText s 0 = some (tx,a)) (hl : levelOk (parseLv tx) = false) : drBody s = none := by rw [drBody,hu]; simp only []; rw [if_neg (by rw [hl]; exact Bool.false_ne_true)]
theorem db3 (hu : unpackText s 0 = some (tx,a)) (hi : unpackInts s a = none) : drBody s = none := by
 rw [drBody,hu]; simp only []; rw [hi]; split <;> rfl
theorem db4 (hu : unpackText s 0 = some (tx,a)) (hi : unpackInts s a = some (l,b)) (h : ¬ l.length = 4) : drBody s = none := by
 rw [drBody,hu]; simp only []; rw [hi]
 split
 ·split
  ·rename_i he
   simp only [Option.some.injEq,Prod.mk.injEq] at he
   obtain ⟨rfl,_⟩ := he
   simp at h
  ·rfl
 ·rfl
theorem db5 (hu : unpackText s 0 = some (tx,a)) (hi : unpackInts s a = some ([h0,h1,h2,h3],b)) (h : ¬ headOk h0 h2 h3) : drBody s = none := by
 rw [drBody,hu]; simp only []; rw [hi]; simp only []; rw [if_neg h]; split <;> rfl
theorem db6 (hu : unpackText s 0 = some (tx,a)) (hi : unpackInts s a = some ([h0,h1,h2,h3],b)) (hc : colsGo s h3.toNat h0.toNat (a + b) (List.replicate h3.toNat []) = none) : drBody s = none := by
 rw [drBody,hu]; simp only []; rw [hi]; simp only []; rw [hc]; simp only []
 split
 ·split <;> rfl
 ·rfl
theorem db7 (hu : unpackText s 0 = some (tx,a)) (hi : unpackInts s a = some ([h0,h1,h2,h3],b)) (hc : colsGo s h3.toNat h0.toNat (a + b) (List.replicate h3.toNat []) = some (rows,e)) (hk : keysGo s (h3 / h2).toNat e [] = none) : drBody s = none := by
 rw [drBody,hu]; simp only []; rw [hi]; simp only []; rw [hc]; simp only []; rw [hk]; simp only []
 split
 ·split <;> rfl
 ·rfl
theorem db8 (hu : unpackText s 0 = some (tx,a)) (hl : levelOk (parseLv tx) = true) (hi : unpackInts s a = some ([h0,h1,h2,h3],b)) (hh : headOk h0 h2 h3) (hc : colsGo s h3.toNat h0.toNat (a + b) (List.replicate h3.toNat []) = some (rows,e)) (hk : keysGo s (h3 / h2).toNat e [] = some (keys,e')) : drBody s = some (⟨parseLv tx,h0,h1,h2,rows,keys⟩,e') := by
 rw [drBody,hu]; simp only []; rw [hi]; simp only []; rw [hc]; simp only []; rw [hk]; simp only []; rw [if_pos hl,if_pos hh]
end
theorem list4 {l : List Int} (h : l.length = 4) : ∃ a b c d,l = [a,b,c,d] := by
 match l,h with
 | [a,b,c,d],_ => exact ⟨a,b,c,d,rfl⟩
theorem DR_.gd {s : ByteArray} {r : TReplay} {e : Nat} (h : DR_ s r e) (hs : s.size ≤ 1048576) : Enc.gd r :=
 ⟨h.lg hs,⟨by have := h.pl; omega,by have := h.pl; omega⟩,h.sd,⟨by have := h.ev; omega,by have := h.ev; omega⟩,
  ⟨by have := h.rl; omega,fun x hx => ⟨by have := (h.rw_ x hx).1; have := h.pl; omega,fun y hy => by have := (h.rw_ x hx).2 y hy; exact ⟨by omega,by omega⟩⟩⟩,
  ⟨by have := h.kl; omega,fun x hx => by have := h.ks x hx; show x.size ≤ _; omega⟩⟩
theorem cols_nn {s : ByteArray} {c n pos : Nat} {R : List (List Int)} {e : Nat} (hp : pos ≤ s.size) (hc : colsGo s n c pos (List.replicate n []) = some (R,e)) : pos ≤ e ∧ e ≤ s.size := by
 by_cases hz : n = 0
 ·subst hz
  obtain ⟨_,g2,g3,_⟩ := colsGo_canon0 s c pos 0 R e hp hc
  exact ⟨g2,g3⟩
 ·obtain ⟨_,g2,g3,_⟩ := colsGo_canon s n (by omega) c pos (List.replicate n []) 0 R e hp (by simp) (fun x hx => by rw [List.eq_of_mem_replicate hx]; rfl) (fun i hi => absurd hi (Nat.not_lt_zero _)) hc
  exact ⟨g2,g3⟩
theorem I_DecodeReplay (t : ByteArray) (hs : t.size ≤ 1048576) : ConP MaxW Tryd.prog 21 [astr t] (ownO (Enc.e (drV (drI t)))) (.tu [.ag (ownV 0 (Enc.e (drV (drI t)))),.c (.rd [] (.v (.bool (drB (drI t)))))]) := by
 have hot := I_OpenText t (by omega)
 cases ho : openText t with
 | none =>
  rw [ho] at hot
  rw [(dr_open ho).1]
  refine ConP.of Tryd.func21 J Tryd.ntmps21 J (fun E hE hT => ?_)
  refine zy (Ki (Ks J J) J (z1 J (zz (zy (z0 J ?_)))));refine Ki (Yr J J (hot) J J J) J ?_;refine zx (Vw J) J (ze J (ze J (z1 J (z1 J (zz (Qd (zy (z0 J (zn J ?_)))))))));refine zz (Qm J (zy (zx (Yp J J J J J) J ?_)));refine K8 J J (z1 J (zz (Q8 (T_r (F_r ?_)))))
  exact Xh J J J J J (Xu [1,1,1] [1,2,3] J J (by decide) J J J)
 | some s =>
 rw [ho] at hot
 obtain ⟨_,hsz⟩ := Yk ho
 have hut := I_UnpackText s 0 (by omega) ⟨by omega,by omega⟩
 cases hu : unpackText s 0 with
 | none =>
  rw [hu] at hut
  rw [(X6 ho (db1 hu)).1]
  refine ConP.of Tryd.func21 J Tryd.ntmps21 J (fun E hE hT => ?_)
  refine zy (Ki (Ks J J) J (z1 J (zz (zy (z0 J ?_)))));refine Ki (Yr J J (hot) J J J) J ?_;refine zx (Vw J) J (ze J (ze J (z1 J (z1 J (zz (Qd (zy (z0 J (zn J ?_)))))))));refine zz (Ql J (Qh (Qz (zy (z0 J ?_)))));refine Ki (Yr J J (hut) J J J) J ?_;refine zx (Vw J) J (ze J (ze J (ze J (z1 J (z1 J (z1 J (zz (Qd (zy ?_)))))))));refine z0 J (zn J (zz (Qm J (zy (zx (Yp J J J J J) J ?_)))));refine K8 J J (z1 J (zz (Q8 (T_r (F_r ?_)))))
  exact Xh J J J J J (Xu [1,1,1] [1,2,3] J J (by decide) J J J)
 | some p =>
 obtain ⟨tx,a⟩ := p
 rw [hu] at hut
 have hus := Zb hu
 have hpl := I_ParseLevel tx (by omega)
 unfold pvL at hpl
 cases hlv : levelOk (parseLv tx) with
 | false =>
  rw [hlv,if_neg (by decide)] at hpl
  rw [(X6 ho (db2 hu hlv)).1]
  refine ConP.of Tryd.func21 J Tryd.ntmps21 J (fun E hE hT => ?_)
  refine zy (Ki (Ks J J) J (z1 J (zz (zy (z0 J ?_)))));refine Ki (Yr J J (hot) J J J) J ?_;refine zx (Vw J) J (ze J (ze J (z1 J (z1 J (zz (Qd (zy (z0 J (zn J ?_)))))))));refine zz (Ql J (Qh (Qz (zy (z0 J ?_)))));refine Ki (Yr J J (hut) J J J) J ?_;refine zx (Vw J) J (ze J (ze J (ze J (z1 J (z1 J (z1 J (zz (Qd (zy ?_)))))))));refine z0 J (zn J (zz (Ql J (Qh (Qz (zy (z0 J (Xp Yi hE hT (hpl) J J J J J J J (zx (Vw J) J ?_)))))))));refine ze J (ze J (Ki (Ks J J) J ?_));refine K8 J J (z1 J (zz (Qd (zy (z0 J (zn J (zz (Qm J ?_))))))));refine zy (zx (Yp J J J J J) J ?_);refine K8 J J (z1 J (zz (Q8 (T_r (F_r ?_)))))
  exact Xh J J J J J (Xu [1,1,1] [3,4,5] J J (by decide) J J J)
 | true =>
 rw [hlv,if_pos rfl] at hpl
 have hui := I_UnpackInts s a (by omega) ⟨by omega,by omega⟩
 cases hi : unpackInts s a with
 | none =>
  rw [hi] at hui
  rw [(X6 ho (db3 hu hi)).1]
  refine ConP.of Tryd.func21 J Tryd.ntmps21 J (fun E hE hT => ?_)
  refine zy (Ki (Ks J J) J (z1 J (zz (zy (z0 J ?_)))));refine Ki (Yr J J (hot) J J J) J ?_;refine zx (Vw J) J (ze J (ze J (z1 J (z1 J (zz (Qd (zy (z0 J (zn J ?_)))))))));refine zz (Ql J (Qh (Qz (zy (z0 J ?_)))));refine Ki (Yr J J (hut) J J J) J ?_;refine zx (Vw J) J (ze J (ze J (ze J (z1 J (z1 J (z1 J (zz (Qd (zy ?_)))))))));refine z0 J (zn J (zz (Ql J (Qh (Qz (zy (z0 J (Xp Yi hE hT (hpl) J J J J J J J (zx (Vw J) J ?_)))))))));refine ze J (ze J (Ki (Ks J J) J ?_));refine K8 J J (z1 J (zz (Qd (zy (z0 J (zn J (zz (Ql J ?_))))))));refine Qh (Qz (zy (z0 J (z0 J ?_))));refine Ki (Yr J J (hui) J J J) J ?_;refine zx (Vw J) J (ze J (ze J (ze J (z1 J (z1 J (z1 J (zz (Qd (zy ?_)))))))));refine z0 J (zn J (z0 J (z6 J (z6 J (z6 J (zpT J (z0 J (z6 J (z6 J (z6 J (z6 J ?_)))))))))));refine z6 J (zpT J (z0 J (z6 J (z6 J (z6 J (z6 J (z6 J (zpT J (z0 J (z6 J (z6 J ?_)))))))))));refine z6 J (z6 J (z6 J (zpT J (zz (Qm J (zy (zx (Yp J J J J J) J ?_)))))));refine K8 J J (z1 J (zz (Q8 (T_r (F_r ?_)))))
  exact Xh J J J J J (Xu [1,1,1] [4,5,6] J J (by decide) J J J)
 | some p =>
 obtain ⟨l,b⟩ := p
 rw [hi] at hui
 have his := Y9 hi
 have hll := X8 l
 by_cases hl4 : ¬ l.length = 4
 ·have hb : decide (((els l).length : Int) ≠ 4) = true := decide_eq_true (by omega)
  rw [(X6 ho (db4 hu hi hl4)).1]
  refine ConP.of Tryd.func21 J Tryd.ntmps21 J (fun E hE hT => ?_)
  refine zy (Ki (Ks J J) J (z1 J (zz (zy (z0 J ?_)))));refine Ki (Yr J J (hot) J J J) J ?_;refine zx (Vw J) J (ze J (ze J (z1 J (z1 J (zz (Qd (zy (z0 J (zn J ?_)))))))));refine zz (Ql J (Qh (Qz (zy (z0 J ?_)))));refine Ki (Yr J J (hut) J J J) J ?_;refine zx (Vw J) J (ze J (ze J (ze J (z1 J (z1 J (z1 J (zz (Qd (zy ?_)))))))));refine z0 J (zn J (zz (Ql J (Qh (Qz (zy (z0 J (Xp Yi hE hT (hpl) J J J J J J J (zx (Vw J) J ?_)))))))));refine ze J (ze J (Ki (Ks J J) J ?_));refine K8 J J (z1 J (zz (Qd (zy (z0 J (zn J (zz (Ql J ?_))))))));refine Qh (Qz (zy (z0 J (z0 J ?_))));refine Ki (Yr J J (hui) J J J) J ?_;refine zx (Vw J) J (ze J (ze J (ze J (z1 J (z1 J (z1 J (zz (Qd (zy ?_)))))))));refine z0 J (zn J (z0 J (z5 J (z0 J (z5 J (zx (Yx J J J J) J (z5 J (Ka J (zpF J (z0 J (z6 J ?_)))))))))));refine z6 J (z6 J (z6 J (z6 J (zpT J (z0 J (z6 J (z6 J (z6 J (z6 J (z6 J (zpT J ?_)))))))))));refine z0 J (z6 J (z6 J (z6 J (z6 J (z6 J (zpT J (zz (Qm J (zy ?_)))))))));refine zx (Yp J J J J J) J ?_;refine K8 J J (z1 J (zz (Q8 (T_r (F_r ?_)))))
  exact Xh J J J J J (Xu [1,1,1] [4,5,6] J J (by decide) J J J)
 obtain ⟨h0,h1,h2,h3,rfl⟩ := list4 (Classical.not_not.1 hl4)
 have hb : decide (((els [h0,h1,h2,h3]).length : Int) ≠ 4) = false := decide_eq_false (by rw [hll]; simp)
 have hl4 : (els [h0,h1,h2,h3]).length = 4 := rfl
 have ha0 : (els [h0,h1,h2,h3])[(0 : Int).toNat]? = some [.v (.int .i64 h0)] := rfl
 have ha1 : (els [h0,h1,h2,h3])[(1 : Int).toNat]? = some [.v (.int .i64 h1)] := rfl
 have ha2 : (els [h0,h1,h2,h3])[(2 : Int).toNat]? = some [.v (.int .i64 h2)] := rfl
 have ha3 : (els [h0,h1,h2,h3])[(3 : Int).toNat]? = some [.v (.int .i64 h3)] := rfl
 have c0 := Xm h0 1 4
 have c2 := Xm h2 1 100
 have c3 := Xm h3 0 400
 by_cases hf0 : inR h0 1 4 = true
 case neg =>
  rw [(X6 ho (db5 hu hi (fun h => hf0 (Ye.2 h.1)))).1]
  have hf0 : inR h0 1 4 = false := by simpa using hf0
  rw [hf0] at c0
  refine ConP.of Tryd.func21 J Tryd.ntmps21 J (fun E hE hT => ?_)
  refine zy (Ki (Ks J J) J (z1 J (zz (zy (z0 J ?_)))));refine Ki (Yr J J (hot) J J J) J ?_;refine zx (Vw J) J (ze J (ze J (z1 J (z1 J (zz (Qd (zy (z0 J (zn J ?_)))))))));refine zz (Ql J (Qh (Qz (zy (z0 J ?_)))));refine Ki (Yr J J (hut) J J J) J ?_;refine zx (Vw J) J (ze J (ze J (ze J (z1 J (z1 J (z1 J (zz (Qd (zy ?_)))))))));refine z0 J (zn J (zz (Ql J (Qh (Qz (zy (z0 J (Xp Yi hE hT (hpl) J J J J J J J (zx (Vw J) J ?_)))))))));refine ze J (ze J (Ki (Ks J J) J ?_));refine K8 J J (z1 J (zz (Qd (zy (z0 J (zn J (zz (Ql J ?_))))))));refine Qh (Qz (zy (z0 J (z0 J ?_))));refine Ki (Yr J J (hui) J J J) J ?_;refine zx (Vw J) J (ze J (ze J (ze J (z1 J (z1 J (z1 J (zz (Qd (zy ?_)))))))));refine z0 J (zn J (z0 J (z5 J (z0 J (z5 J (zx (Yx J J J J) J (z5 J (Ka J (zpF J (z0 J (z5 J ?_)))))))))));refine z0 J (z5 J (zx (Q2 J J J J J (by omega) (by omega)) J (z5 J (zx (Q5 J J J J (by assumption) J) J (z5 J ?_)))));refine zx (Qj J J (c0) J) J ?_;refine z5 J (zn J (zpF J (z0 J (z6 J (z6 J (z6 J (z6 J (z6 J (zpT J (z0 J (z6 J ?_)))))))))));refine z6 J (z6 J (z6 J (z6 J (zpT J (zz (Qm J (zy (zx (Yp J J J J J) J ?_))))))));refine K8 J J (z1 J (zz (Q8 (T_r (F_r ?_)))))
  exact Xh J J J J J (Xu [1,1,1] [4,5,6] J J (by decide) J J J)
 rw [hf0] at c0
 by_cases hf2 : inR h2 1 100 = true
 case neg =>
  rw [(X6 ho (db5 hu hi (fun h => hf2 (Ye.2 h.2.1)))).1]
  have hf2 : inR h2 1 100 = false := by simpa using hf2
  rw [hf2] at c2
  refine ConP.of Tryd.func21 J Tryd.ntmps21 J (fun E hE hT => ?_)
  refine zy (Ki (Ks J J) J (z1 J (zz (zy (z0 J ?_)))));refine Ki (Yr J J (hot) J J J) J ?_;refine zx (Vw J) J (ze J (ze J (z1 J (z1 J (zz (Qd (zy (z0 J (zn J ?_)))))))));refine zz (Ql J (Qh (Qz (zy (z0 J ?_)))));refine Ki (Yr J J (hut) J J J) J ?_;refine zx (Vw J) J (ze J (ze J (ze J (z1 J (z1 J (z1 J (zz (Qd (zy ?_)))))))));refine z0 J (zn J (zz (Ql J (Qh (Qz (zy (z0 J (Xp Yi hE hT (hpl) J J J J J J J (zx (Vw J) J ?_)))))))));refine ze J (ze J (Ki (Ks J J) J ?_));refine K8 J J (z1 J (zz (Qd (zy (z0 J (zn J (zz (Ql J ?_))))))));refine Qh (Qz (zy (z0 J (z0 J ?_))));refine Ki (Yr J J (hui) J J J) J ?_;refine zx (Vw J) J (ze J (ze J (ze J (z1 J (z1 J (z1 J (zz (Qd (zy ?_)))))))));refine z0 J (zn J (z0 J (z5 J (z0 J (z5 J (zx (Yx J J J J) J (z5 J (Ka J (zpF J (z0 J (z5 J ?_)))))))))));refine z0 J (z5 J (zx (Q2 J J J J J (by omega) (by omega)) J (z5 J (zx (Q5 J J J J (by assumption) J) J (z5 J ?_)))));refine zx (Qj J J (c0) J) J ?_;refine z5 J (zn J (zpF J (z0 J (z5 J (z0 J (z5 J (zx (Q2 J J J J J (by omega) (by omega)) J (z5 J (zx (Q5 J J J J (by assumption) J) J (z5 J ?_))))))))));refine zx (Qj J J (c2) J) J ?_;refine z5 J (zn J (zpF J (z0 J (z6 J (z6 J (z6 J (z6 J (z6 J (zpT J (zz ?_))))))))));refine Qm J (zy (zx (Yp J J J J J) J ?_));refine K8 J J (z1 J (zz (Q8 (T_r (F_r ?_)))))
  exact Xh J J J J J (Xu [1,1,1] [4,5,6] J J (by decide) J J J)
 rw [hf2] at c2
 by_cases hf3 : inR h3 0 400 = true
 case neg =>
  rw [(X6 ho (db5 hu hi (fun h => hf3 (Ye.2 h.2.2)))).1]
  have hf3 : inR h3 0 400 = false := by simpa using hf3
  rw [hf3] at c3
  refine ConP.of Tryd.func21 J Tryd.ntmps21 J (fun E hE hT => ?_)
  refine zy (Ki (Ks J J) J (z1 J (zz (zy (z0 J ?_)))));refine Ki (Yr J J (hot) J J J) J ?_;refine zx (Vw J) J (ze J (ze J (z1 J (z1 J (zz (Qd (zy (z0 J (zn J ?_)))))))));refine zz (Ql J (Qh (Qz (zy (z0 J ?_)))));refine Ki (Yr J J (hut) J J J) J ?_;refine zx (Vw J) J (ze J (ze J (ze J (z1 J (z1 J (z1 J (zz (Qd (zy ?_)))))))));refine z0 J (zn J (zz (Ql J (Qh (Qz (zy (z0 J (Xp Yi hE hT (hpl) J J J J J J J (zx (Vw J) J ?_)))))))));refine ze J (ze J (Ki (Ks J J) J ?_));refine K8 J J (z1 J (zz (Qd (zy (z0 J (zn J (zz (Ql J ?_))))))));refine Qh (Qz (zy (z0 J (z0 J ?_))));refine Ki (Yr J J (hui) J J J) J ?_;refine zx (Vw J) J (ze J (ze J (ze J (z1 J (z1 J (z1 J (zz (Qd (zy ?_)))))))));refine z0 J (zn J (z0 J (z5 J (z0 J (z5 J (zx (Yx J J J J) J (z5 J (Ka J (zpF J (z0 J (z5 J ?_)))))))))));refine z0 J (z5 J (zx (Q2 J J J J J (by omega) (by omega)) J (z5 J (zx (Q5 J J J J (by assumption) J) J (z5 J ?_)))));refine zx (Qj J J (c0) J) J ?_;refine z5 J (zn J (zpF J (z0 J (z5 J (z0 J (z5 J (zx (Q2 J J J J J (by omega) (by omega)) J (z5 J (zx (Q5 J J J J (by assumption) J) J (z5 J ?_))))))))));refine zx (Qj J J (c2) J) J ?_;refine z5 J (zn J (zpF J (z0 J (z5 J (z0 J (z5 J (zx (Q2 J J J J J (by omega) (by omega)) J (z5 J (zx (Q5 J J J J (by assumption) J) J (z5 J ?_))))))))));refine zx (Qj J J (c3) J) J ?_;refine z5 J (zn J (zpF J (zz (Qm J (zy (zx (Yp J J J J J) J ?_))))));refine K8 J J (z1 J (zz (Q8 (T_r (F_r ?_)))))
  exact Xh J J J J J (Xu [1,1,1] [4,5,6] J J (by decide) J J J)
 rw [hf3] at c3
 have hr0 := Ye.1 hf0
 have hr2 := Ye.1 hf2
 have hr3 := Ye.1 hf3
 have hho : headOk h0 h2 h3 := ⟨hr0,hr2,hr3⟩
 obtain ⟨n0,rfl⟩ : ∃ n : Nat,h0 = n := ⟨h0.toNat,by omega⟩
 obtain ⟨n2,rfl⟩ : ∃ n : Nat,h2 = n := ⟨h2.toNat,by omega⟩
 obtain ⟨n3,rfl⟩ : ∃ n : Nat,h3 = n := ⟨h3.toNat,by omega⟩
 have huc := I_unpackColumns s (a + b) n0 n3 (by omega) (by omega) (by omega) (by omega)
 rw [Int.natCast_add] at huc
 refine ConP.of Tryd.func21 J Tryd.ntmps21 J (fun E hE hT => ?_)
 refine zy (Ki (Ks J J) J (z1 J (zz (zy (z0 J ?_)))));refine Ki (Yr J J (hot) J J J) J ?_;refine zx (Vw J) J (ze J (ze J (z1 J (z1 J (zz (Qd (zy (z0 J (zn J ?_)))))))));refine zz (Ql J (Qh (Qz (zy (z0 J ?_)))));refine Ki (Yr J J (hut) J J J) J ?_;refine zx (Vw J) J (ze J (ze J (ze J (z1 J (z1 J (z1 J (zz (Qd (zy ?_)))))))));refine z0 J (zn J (zz (Ql J (Qh (Qz (zy (z0 J (Xp Yi hE hT (hpl) J J J J J J J (zx (Vw J) J ?_)))))))));refine ze J (ze J (Ki (Ks J J) J ?_));refine K8 J J (z1 J (zz (Qd (zy (z0 J (zn J (zz (Ql J ?_))))))));refine Qh (Qz (zy (z0 J (z0 J ?_))));refine Ki (Yr J J (hui) J J J) J ?_;refine zx (Vw J) J (ze J (ze J (ze J (z1 J (z1 J (z1 J (zz (Qd (zy ?_)))))))));refine z0 J (zn J (z0 J (z5 J (z0 J (z5 J (zx (Yx J J J J) J (z5 J (Ka J (zpF J (z0 J (z5 J ?_)))))))))));refine z0 J (z5 J (zx (Q2 J J J J J (by omega) (by omega)) J (z5 J (zx (Q5 J J J J (by assumption) J) J (z5 J ?_)))));refine zx (Qj J J (c0) J) J ?_;refine z5 J (zn J (zpF J (z0 J (z5 J (z0 J (z5 J (zx (Q2 J J J J J (by omega) (by omega)) J (z5 J (zx (Q5 J J J J (by assumption) J) J (z5 J ?_))))))))));refine zx (Qj J J (c2) J) J ?_;refine z5 J (zn J (zpF J (z0 J (z5 J (z0 J (z5 J (zx (Q2 J J J J J (by omega) (by omega)) J (z5 J (zx (Q5 J J J J (by assumption) J) J (z5 J ?_))))))))));refine zx (Qj J J (c3) J) J ?_;refine z5 J (zn J (zpF J (zz (Ql J (Qh (Qz (zy (z0 J (z0 J ?_)))))))));refine Kd J (z1 J (zz (Qd ?_)))
 cases hc : colsGo s n3 n0 (a + b) (List.replicate n3 []) with
 | none =>
  rw [hc] at huc
  rw [(X6 ho (db6 hu hi hc)).1]
  refine Xd u8_19 u8_20 u8_21 J (Zh (Zr J) J (Zh (Zr J) J (Zh (Zr J) J (Zh (Q2 J J J J J (by omega) (by omega)) J (Zh (Q5 J J J J (by assumption) J) J (Zh (Zr J) J (Zh (Q2 J J J J J (by omega) (by omega)) J (Zh (Q5 J J J J (by assumption) J) J ?_))))))));refine Zh (Yr J J (huc) J J J) J ?_;refine Zh (Vw J) J (Zh (Yt J J J J) J (Zh (Yt J J J J) J (Zh (Yt J J J J) J (Zh (Qb J J J) J (Zh (Qb J J J) J (Zh (Qb J J J) J (Zg (zz (Qd (Qd ?_))))))))));refine Qc (z0 J (zn J (zz (Qm J (zy (zx (Yp J J J J J) J ?_))))));refine K8 J J (z1 J (zz (Q8 (T_r (F_r ?_)))))
  exact Xh J J J J J (Xu [1,1,1] [5,6,7] J J (by decide) J J J)
 | some p =>
 obtain ⟨rows,e⟩ := p
 rw [hc] at huc
 have hcn := cols_nn (by omega) hc
 have hn2 : (n3 / n2 : Nat) ≤ n3 := Nat.div_le_self _ _
 have hdiv : ((n3 : Int) / (n2 : Int)) = ((n3 / n2 : Nat) : Int) := rfl
 refine Xd u8_19 u8_20 u8_21 J (Zh (Zr J) J (Zh (Zr J) J (Zh (Zr J) J (Zh (Q2 J J J J J (by omega) (by omega)) J (Zh (Q5 J J J J (by assumption) J) J (Zh (Zr J) J (Zh (Q2 J J J J J (by omega) (by omega)) J (Zh (Q5 J J J J (by assumption) J) J ?_))))))));refine Zh (Yr J J (huc) J J J) J ?_;refine Zh (Vw J) J (Zh (Yt J J J J) J (Zh (Yt J J J J) J (Zh (Yt J J J J) J (Zh (Qb J J J) J (Zh (Qb J J J) J (Zh (Qb J J J) J (Zg (zz (Qd (Qd ?_))))))))));refine Qc (z0 J (zn J (zz (Ql J (Qh (Qz (zy (z0 J (z0 J ?_)))))))));refine Kd J (z1 J (zz (Qd (Xd u8_22 [[],[],[101],[101,102],[],[104],[104,105],[],[107],[107,108],[],[100,101,102,103,104,105,106,107,108,109,110],[],[12,100,101,102,103,104,105,106,107,108,109,110,111]] [[12,101,102,103,104,105,106,107,108,109,110],[12,100,104,105,106,107,108,109,110],[12,100,104,105,106,107,108,109,110],[12,100,104,105,106,107,108,109,110],[12,100,101,102,103,107,108,109,110],[12,100,101,102,103,107,108,109,110],[12,100,101,102,103,107,108,109,110],[12,100,101,102,103,104,105,106,110],[12,100,101,102,103,104,105,106,110],[12,100,101,102,103,104,105,106,110],[12,100,101,102,103,104,105,106,107,108,109],[12],[100,101,102,103,104,105,106,107,108,109,110,111],[]] J (Zh (Qu J J J J J J) J (Zh (Zr J) J (Zh (Q2 J J J J J (by omega) (by omega)) J (Zh (Q5 J J J J (by assumption) J) J (Zh (Zr J) J (Zh (Q2 J J J J J (by omega) (by omega)) J ?_))))))))));refine Zh (Q5 J J J J (by assumption) J) J (Zh (Zr J) J (Zh (Q2 J J J J J (by omega) (by omega)) J (Zh (Q5 J J J J (by assumption) J) J (Zh (Zr J) J (Zh (Yp J J J J J) J (Zh (Ks J J) J (Zg ?_)))))));refine K8 J J (zz (Qd (zy (z1 J (zz (Qk ?_))))))
 refine AWP.pre ?_ (Wk.nilbox (p := 5) (i := 5) 1 J J)
 refine Xe (fun m__ st => ∃ (k : Nat) (pos : Nat) (ks : List ByteArray),n3 / n2 - k = m__ ∧ ((k ≤ n3 / n2 ∧ e ≤ pos ∧ pos ≤ s.size ∧ ks.length = k ∧ keysGo s (n3 / n2 - k) pos ks = keysGo s (n3 / n2) e [])) ∧ st = (⟨_,[(2,.o (.c (.ptr 0 0))),(4,S s),(7,I pos),(9,.o (.c (.ref 3))),(12,.o (.c (.ptr 5 0))),(13,I k)],[.box [nilR,jn 0,jn 0,jn 0,nilR,nilR],.row 1 (els (parseLv tx).Rows),.box [.ref 1],.row 1 (els [(n0 : Int),h1,n2,n3]),.row 1 (els rows),.box [.ref 1,jn n0,jn h1,jn n2,.ref 4,.ref 6],.row 1 (els ks)]⟩ : St)) _ ⟨(fun (k : Nat) (pos : Nat) (ks : List ByteArray) => (⟨_,[(2,.o (.c (.ptr 0 0))),(4,S s),(7,I pos),(9,.o (.c (.ref 3))),(12,.o (.c (.ptr 5 0))),(13,I k)],[.box [nilR,jn 0,jn 0,jn 0,nilR,nilR],.row 1 (els (parseLv tx).Rows),.box [.ref 1],.row 1 (els [(n0 : Int),h1,n2,n3]),.row 1 (els rows),.box [.ref 1,jn n0,jn h1,jn n2,.ref 4,.ref 6],.row 1 (els ks)]⟩ : St)) (0) (e) ([]),⟨0,e,[],J,⟨Nat.zero_le _,Nat.le_refl _,hcn.2,J,J⟩,J⟩,Z7 [0,1,2,3,4,5,6] J (.c J (.c J (.cons (Kt) (.c J (.c J (.c J (.nil)))))))⟩ ?_
 rintro m_B _ ⟨k,pos,ks,hk_B,hp_B,rfl⟩
 obtain ⟨p1,p2,p3,p4,p5⟩ := hp_B
 have hel := X8 ks
 refine Qd (Qd ?_)
 by_cases hk : k < n3 / n2
 ·have f0 : decide ((k : Int) < (n3 : Int) / (n2 : Int)) = true := decide_eq_true (by rw [hdiv]; omega)
  refine Xd u8_23 u8_24 u8_25 J (Zh (Zr J) J (Zh (Zr J) J (Zh (Q2 J J J J J (by omega) (by omega)) J (Zh (Q5 J J J J (by assumption) J) J (Zh (Zr J) J (Zh (Q2 J J J J J (by omega) (by omega)) J (Zh (Q5 J J J J (by assumption) J) J (Zh (q_quo J J J J (by omega)) J (Zh (Qr J J J J (by assumption)) J (Zg ?_))))))))))
  have hut2 := I_UnpackText s pos (by omega) ⟨by omega,by omega⟩
  cases hu2 : unpackText s pos with
  | none =>
   rw [hu2] at hut2
   have hkn : keysGo s (n3 / n2) e [] = none := by rw [← p5,show n3 / n2 - k = (n3 / n2 - (k + 1)) + 1 by omega,keysGo,hu2]
   rw [(X6 ho (db7 hu hi hc hkn)).1]
   refine zz (Qm J (Qh (Qz (Qd (Qk (zy (z0 J (z0 J ?_))))))));refine Ki (Yr J J (hut2) J J J) J ?_;refine zx (Vw J) J (ze J (ze J (ze J (z1 J (z1 J (z1 J (zz (Qd (zy ?_)))))))));refine z0 J (zn J (zz (Qm J (zy (zx (Yp J J J J J) J ?_)))));refine K8 J J (z1 J (zz (Q8 (T_r (B_r (T_r (T_r (B_r (T_r (F_r ?_))))))))))
   exact Xh J J J J J (Xu [1,1,1] [7,8,9] J J (by decide) J J J)
  | some p =>
   obtain ⟨tx2,m⟩ := p
   rw [hu2] at hut2
   have hus2 := Zb hu2
   have hkn : keysGo s (n3 / n2 - (k + 1)) (pos + m) (ks ++ [tx2]) = keysGo s (n3 / n2) e [] := by rw [← p5,show n3 / n2 - k = (n3 / n2 - (k + 1)) + 1 by omega,keysGo,hu2]
   refine zz (Qm J (Qh (Qz (Qd (Qk (zy (z0 J (z0 J ?_))))))));refine Ki (Yr J J (hut2) J J J) J ?_;refine zx (Vw J) J (ze J (ze J (ze J (z1 J (z1 J (z1 J (zz (Qd (zy ?_)))))))));refine z0 J (zn J (zz (Ql J (Qh (Qz (zy (z0 J (z0 J (Kd J ?_)))))))));refine z1 J (zz (Qc (z2 J J J (z3 J (z0 J (Ki (Yn J J J J J J) J ?_))))));refine Xo J J J J J J J J J J (by omega) (by omega) ?_;refine z2 J J J ?_;refine Q4 J J J J J J J J (Qe (Q0 (Qz (Qc (z0 J (Kd J (z1 J (zz ?_))))))))
   refine ⟨_,(by omega),(fun (k : Nat) (pos : Nat) (ks : List ByteArray) => (⟨_,[(2,.o (.c (.ptr 0 0))),(4,S s),(7,I pos),(9,.o (.c (.ref 3))),(12,.o (.c (.ptr 5 0))),(13,I k)],[.box [nilR,jn 0,jn 0,jn 0,nilR,nilR],.row 1 (els (parseLv tx).Rows),.box [.ref 1],.row 1 (els [(n0 : Int),h1,n2,n3]),.row 1 (els rows),.box [.ref 1,jn n0,jn h1,jn n2,.ref 4,.ref 6],.row 1 (els ks)]⟩ : St)) (k + 1) (pos + m) (ks ++ [tx2]),⟨k + 1,pos + m,ks ++ [tx2],J,⟨by omega,by omega,by omega,by rw [List.length_append,p4]; rfl,hkn⟩,J⟩,Xw [0,1,2,3,4,5,6] (by decide) J ((by rw [els_snocC]; rfl)) (.c J (.c J (.cons (Kt) (.c J (.c J (.cons (Kt) (.nil)))))))⟩
 have f0 : decide ((k : Int) < (n3 : Int) / (n2 : Int)) = false := decide_eq_false (by rw [hdiv]; omega)
 refine Xd u8_23 u8_24 u8_25 J (Zh (Zr J) J (Zh (Zr J) J (Zh (Q2 J J J J J (by omega) (by omega)) J (Zh (Q5 J J J J (by assumption) J) J (Zh (Zr J) J (Zh (Q2 J J J J J (by omega) (by omega)) J (Zh (Q5 J J J J (by assumption) J) J (Zh (q_quo J J J J (by omega)) J (Zh (Qr J J J J (by assumption)) J (Zg ?_))))))))))
 have hkk : keysGo s (n3 / n2) e [] = some (ks,pos) := by rw [← p5,show n3 / n2 - k = 0 by omega,keysGo]
 have hdb := db8 hu hlv hi hho hc hkk
 have hDR := drBody_ok hdb
 have cro := I_ReplayOk _ (hDR.gd (by omega))
 rw [drI_end ho hdb]
 by_cases he : pos = s.size
 case neg =>
  have hb3 : decide ((pos : Int) ≠ s.size) = true := decide_eq_true (by omega)
  rw [if_neg (fun h => he h.1)]
  refine zz (Ql J (Q7 (T_x (T_x (Xg (Qz (Qd (zy (z0 J ?_)))))))));refine z0 J (zx (Yy J J J) J (Ka J (z0 J (z6 J (z6 J (z6 J (zpT J (zz (Qm J (Qd ?_))))))))));refine Qc (zx (Yp J J J J J) J ?_);refine K8 J J (z1 J (zz (Q8 (T_r (F_r ?_)))))
  exact Xh J J J J J (Xu [1,1,1] [7,8,9] J J (by decide) J J J)
 have hb3 : decide ((pos : Int) ≠ s.size) = false := decide_eq_false (by omega)
 cases hro : replayOk (⟨parseLv tx,n0,h1,n2,rows,ks⟩ : TReplay) with
 | false =>
  rw [hro] at cro
  rw [if_neg (fun h => by cases h.2)]
  refine zz (Ql J (Q7 (T_x (T_x (Xg (Qz (Qd (zy (z0 J ?_)))))))));refine z0 J (zx (Yy J J J) J (Ka J (z0 J (z5 J (z4 J J J (z5 J ?_))))));refine zx (Qj J J (cro) J) J ?_;refine z5 J (zn J (zpF J (zz (Qm J (zy (zx (Yp J J J J J) J ?_))))));refine K8 J J (z1 J (zz (Q8 (T_r (F_r ?_)))))
  exact Xh J J J J J (Xu [1,1,1] [7,8,9] J J (by decide) J J J)
 | true =>
  rw [hro] at cro
  rw [if_pos ⟨he,rfl⟩]
  refine zz (Ql J (Q7 (T_x (T_x (Xg (Qz (Qd (zy (z0 J ?_)))))))));refine z0 J (zx (Yy J J J) J (Ka J (z0 J (z5 J (z4 J J J (z5 J ?_))))));refine zx (Qj J J (cro) J) J ?_;refine z5 J (zn J (zpF J (zz (Ql J (Qh (Qz (zy (z4 J J J ?_))))))));refine K8 J J (z1 J (zz (Q8 (F_r ?_))))
  exact Xh J J J J J (Kf [1,4,6] J J J)
end
section
open Go.RowKit

theorem S_FormatLv (x : TLevel) (hg : Enc.gd x) (hw : Enc.wt x ≤ 1073741824) (ho : levelOk x = true) : Con Tryd.prog 88 [] [ag x] [] (S (joinB x.Rows slashB)) := by
 have hl := S_LevelOk x hg
 have h0 : Enc.wt x = x.Rows.length + wts x.Rows := rfl
 have hlx := X8 x.Rows
 have h2 : slashB.size = 1 := rfl
 rw [ho] at hl
 rw [show joinB x.Rows slashB = joinG x.Rows slashB x.Rows.length by rw [joinG_all]]
 refine Con.of Tryd.func88 J Tryd.ntmps88 J (fun E => ?_)
 refine zy (Ki (Qq J J J J) J (z1 J (zz (zy (z1 J (zz (Qd ?_)))))));refine zy (z1 J (zz (Qk ?_)));refine Xe (fun m st => ∃ k : Nat,k + m = x.Rows.length ∧ (True) ∧ st = (⟨_,[(1,.o (.c (.ptr 0 0))),(3,S (joinG x.Rows slashB k)),(4,I k)],[.box ((Enc.e x).map (V1.rd []))]⟩ : St)) (x.Rows.length) ⟨_,⟨0,by omega,trivial,J⟩,Kb [0]⟩ ?_
 rintro m_A _ ⟨k,hk_A,hp_A,rfl⟩
 by_cases h3 : k < x.Rows.length
 ·have hb : decide ((k : Int) < (els x.Rows).length) = true := decide_eq_true (by omega)
  have hat := X7 h3
  have hsz := joinG_size x.Rows slashB k (by omega)
  have hwk := wts_take x.Rows k h3
  have hwl := wts_take_le x.Rows (k + 1)
  have hws : Enc.wt x.Rows[k] = x.Rows[k].size := rfl
  rw [h2] at hsz
  have hd : x.Rows.getD k ⟨#[]⟩ = x.Rows[k] := by simp [List.getD_eq_getElem?_getD,h3]
  by_cases hk : 0 < k
  ·have hb2 : decide ((0 : Int) < k) = true := decide_eq_true (by omega)
   have hstep : joinG x.Rows slashB k ++ slashB ++ x.Rows[k] = joinG x.Rows slashB (k + 1) := by rw [joinG,if_pos hk,hd]
   refine Qd (zy (z0 J (z2 J J J (z3 J (zx (Yw J J J) J (K0 J (z0 J (z5 J (z4 J J J (z5 J ?_))))))))));refine zx (Qj J J (hl) J) J ?_;refine zpT J (zz (Qm J (Qh (Qz (Qd (Qk (Qd (zy (z0 J ?_)))))))));refine z9c J (by assumption) (zz (Qm J (Qc (z0 J ?_))))
   refine M0 (q_cat J J J J (by simp only [X0,X4,List.length_cons,List.length_nil,List.length_append]; omega)) J J ?_
   refine z1 J (zz (Qc (z0 J (z2 J J J (z3 J (z0 J (zx (Q1 J J J J (by omega) (by assumption) J) J (zx (Kc J) J ?_))))))))
   refine M0 (q_cat J J J J (by simp only [X0,X4,List.length_cons,List.length_nil,List.length_append]; omega)) J J ?_
   refine z1 J (Qe (Q0 (Qz (Qc (z0 J (Kd J (z1 J (zz ?_))))))))
   exact ⟨x.Rows.length - (k + 1),by omega,(fun k : Nat => (⟨_,[(1,.o (.c (.ptr 0 0))),(3,S (joinG x.Rows slashB k)),(4,I k)],[.box ((Enc.e x).map (V1.rd []))]⟩ : St)) (k + 1),⟨k + 1,by omega,trivial,J⟩,Z7 [0] J (.c J (.cons (S_eq hstep) (.c J (.nil))))⟩
  ·have hb2 : decide ((0 : Int) < k) = false := decide_eq_false (by omega)
   have hstep : joinG x.Rows slashB k ++ x.Rows[k] = joinG x.Rows slashB (k + 1) := by rw [joinG,if_neg hk,hd]
   refine Qd (zy (z0 J (z2 J J J (z3 J (zx (Yw J J J) J (K0 J (z0 J (z5 J (z4 J J J (z5 J ?_))))))))));refine zx (Qj J J (hl) J) J ?_;refine zpT J (zz (Qm J (Qh (Qz (Qd (Qk (Qd (zy (z0 J ?_)))))))));refine z9c J (by assumption) (zz (Ql J (Qh (Qz (Qc (z0 J (z2 J J J (z3 J (z0 J (zx (Q1 J J J J (by omega) (by assumption) J) J ?_))))))))));refine zx (Kc J) J (zx (q_cat J J J J (by omega)) J (z1 J (Qe (Q0 (Qz (Qc (z0 J (Kd J (z1 J (zz ?_))))))))))
   exact ⟨x.Rows.length - (k + 1),by omega,(fun k : Nat => (⟨_,[(1,.o (.c (.ptr 0 0))),(3,S (joinG x.Rows slashB k)),(4,I k)],[.box ((Enc.e x).map (V1.rd []))]⟩ : St)) (k + 1),⟨k + 1,by omega,trivial,J⟩,Z7 [0] J (.c J (.cons (S_eq hstep) (.c J (.nil))))⟩
 ·have hb : decide ((k : Int) < (els x.Rows).length) = false := decide_eq_false (by omega)
  have hk : k = x.Rows.length := by omega
  subst hk
  refine Qd (zy (z0 J (z2 J J J (z3 J (zx (Yw J J J) J (K0 J (z0 J (z6 J (z6 J (zpF J ?_))))))))));refine zz (Ql J (Q7 (T_x (T_x (Xg (Qz (zy (z0 J (z1 J ?_)))))))));refine zz (Q8 (F_r ?_))
  exact Ke J (Kf [] J J J)
theorem keysB_size (ks : List ByteArray) {m : Nat} (h : ∀ x ∈ ks,x.size ≤ m) : ∀ k,k ≤ ks.length → (keysB ks k).size ≤ (m + 6) * k
 | 0,_ => by show (bs []).size ≤ _; rw [X0]; simp
 | k + 1,hk => by
  have ih := keysB_size ks h k (by omega)
  have h1 := Yl (ks.getD k ⟨#[]⟩)
  have h2 : ks.getD k ⟨#[]⟩ = ks[k] := by simp [List.getD_eq_getElem?_getD,show k < ks.length by omega]
  have h3 := h _ (List.getElem_mem (show k < ks.length by omega))
  rw [h2] at h1
  rw [keysB,X4,h2,Nat.mul_succ]
  omega
structure RepE (r : TReplay) : Prop where
 gd : Enc.gd r
 lv : levelOk r.Level = true
 wt : Enc.wt r.Level ≤ 1073741824
 tx : (joinB r.Level.Rows slashB).size ≤ 1048576
 pl : 1 ≤ r.Players ∧ r.Players ≤ 4
 rl : r.Rows.length ≤ 400
 rw_ : ∀ x ∈ r.Rows,(x.length : Int) = r.Players
 kl : r.Keys.length ≤ 400
 ks : ∀ x ∈ r.Keys,x.size ≤ 1048576
theorem S_EncodeReplay (r : TReplay) (h : RepE r) : Con Tryd.prog 48 [] [ag r] [] (S (encodeReplay r)) := by
 obtain ⟨hg,hlv,hwt,htx,hpl,hrl,hrw,hkl,hks⟩ := h
 have cok := S_ReplayOk r hg
 obtain ⟨gL,gP,gS,gE,gR,gK⟩ := hg
 unfold encodeReplay
 by_cases ho : replayOk r = true
 case neg =>
  rw [if_neg ho]
  have ho : replayOk r = false := by simpa using ho
  rw [ho] at cok
  refine Con.of Tryd.func48 J Tryd.ntmps48 J (fun E => ?_)
  refine zy (Ki (Qq J J J J) J (z1 J (zz (Qd (zy (z4 J J J ?_))))));refine zx (Qj J J (cok) J) J ?_;refine zn J (zz (Qm J (zy (z1 J (zz (Q8 (T_r (F_r ?_))))))))
  exact Ke J (Kf [] J J J)
 rw [if_pos ho]
 rw [ho] at cok
 have hlr := X8 r.Rows
 have hlk := X8 r.Keys
 obtain ⟨p,hp⟩ : ∃ p : Nat,(p : Int) = r.Players := ⟨r.Players.toNat,by omega⟩
 have cfl := S_FormatLv r.Level gL hwt hlv
 have cpt := S_PackText (joinB r.Level.Rows slashB) (by omega)
 have hgi : Enc.gd [r.Players,r.Seed,r.Every,((els r.Rows).length : Int)] := ⟨by simp,fun x hx => by
  simp only [List.mem_cons,List.not_mem_nil,or_false] at hx
  rcases hx with rfl | rfl | rfl | rfl
  ·exact gP
  ·exact gS
  ·exact gE
  ·exact ⟨by omega,by omega⟩⟩
 have cpi := S_PackInts [r.Players,r.Seed,r.Every,((els r.Rows).length : Int)] hgi (by simp)
 have hs1 := packInts_size [r.Players,r.Seed,r.Every,((els r.Rows).length : Int)]
 simp only [List.length_cons,List.length_nil] at hs1
 have hs0 := Yl (joinB r.Level.Rows slashB)
 have hsA := X4 (packText (joinB r.Level.Rows slashB)) (packInts [r.Players,r.Seed,r.Every,((els r.Rows).length : Int)])
 have henc : encB r = (packText (joinB r.Level.Rows slashB) ++ packInts [r.Players,r.Seed,r.Every,((els r.Rows).length : Int)]) ++ colsB r.Rows p ++ keysB r.Keys r.Keys.length := by rw [encB,hlr,show r.Players.toNat = p by omega]
 rw [henc]
 obtain ⟨A,hA⟩ : ∃ A,A = packText (joinB r.Level.Rows slashB) ++ packInts [r.Players,r.Seed,r.Every,((els r.Rows).length : Int)] := ⟨_,rfl⟩
 rw [← hA] at hsA ⊢
 refine Con.of Tryd.func48 J Tryd.ntmps48 J (fun E => ?_)
 refine zy (Ki (Qq J J J J) J (z1 J (zz (Qd (zy (z4 J J J ?_))))));refine zx (Qj J J (cok) J) J ?_;refine zn J (zz (Ql J (Qh (Qz (Qd (Xd [[],[0],[0,1],[0,1,2],[],[4],[],[6],[],[8],[],[10],[10,11],[4,5,6,7,8,9,10,11,12],(u9 14),(u9 15),(u9 16)] [[],[9],[9,10],[9,10,11],[],[13],[],[15],[],[17],[],[19],[19,20],[13,14,15,16,17,18,19,20,21],[9,10,11,12,13,14,15,16,17,18,19,20,21,22],[9,10,11,12,13,14,15,16,17,18,19,20,21,22,23],[9,10,11,12,13,14,15,16,17,18,19,20,21,22,23,24]] [[13,14,15,16,17,18,19,20,21,22],[13,14,15,16,17,18,19,20,21,22],[13,14,15,16,17,18,19,20,21,22],[13,14,15,16,17,18,19,20,21,22],[9,10,11,12,15,16,17,18,19,20,21],[9,10,11,12,15,16,17,18,19,20,21],[9,10,11,12,13,14,17,18,19,20,21],[9,10,11,12,13,14,17,18,19,20,21],[9,10,11,12,13,14,15,16,19,20,21],[9,10,11,12,13,14,15,16,19,20,21],[9,10,11,12,13,14,15,16,17,18],[9,10,11,12,13,14,15,16,17,18],[9,10,11,12,13,14,15,16,17,18],[9,10,11,12],[],[],[]] J (Zh (Zt J J) J (Zh (Qu J J J J J J) J ?_))))))));refine Zh (Qj J J (cfl) J) J ?_;refine Zh (Qj J J (cpt) J) J ?_;refine Zh (Zt J J) J (Zh (Qg J J J J J) J (Zh (Zt J J) J (Zh (Qg J J J J J) J (Zh (Zt J J) J (Zh (Qg J J J J J) J (Zh (Zt J J) J (Zh (Qg J J J J J) J (Zh (Yw J J J) J (Zh (Yn J J J J J J) J ?_)))))))));refine Zh (Qj J J (cpi) J) J ?_;refine Zh (q_cat J J J J (by omega)) J (Zh (Qb J J J) J (Zg (zz ?_)))
 refine AWP.pre (st' := (⟨_,[(1,.o (.c (.ptr 0 0))),(3,S (A ++ colsB r.Rows 0))],[.box ((Enc.e r).map (V1.rd []))]⟩ : St)) ?_ (Z7 [0] J (.c J (.cons (S_eq (by rw [show colsB r.Rows 0 = bs [] from J,app_nilB,hA])) (.nil))))
 refine Qd (zy (z1 J (zz (Qk ?_))));refine Xe (fun m st => ∃ k : Nat,k + m = p ∧ (True) ∧ st = (⟨_,[(1,.o (.c (.ptr 0 0))),(3,S (A ++ colsB r.Rows k)),(4,I k)],[.box ((Enc.e r).map (V1.rd []))]⟩ : St)) (p) ⟨_,⟨0,by omega,trivial,J⟩,Kb [0]⟩ ?_
 rintro m_B _ ⟨k,hk_B,hp_B,rfl⟩
 have hs2 := colsB_size r.Rows k
 have hs5 := X4 A (colsB r.Rows k)
 by_cases hk : k < p
 ·have f0 : decide ((k : Int) < r.Players) = true := decide_eq_true (by omega)
  have hs6 := packTrack_size (colM r.Rows k)
  have hs7 := Yl (packTrack (colM r.Rows k))
  have c1 := S_column r.Rows k gR (by omega) (fun x hx => by have := hrw x hx; omega)
  have c2 := S_PackTrack (colM r.Rows k) (colM_gd gR k)
  have c3 := S_PackText (packTrack (colM r.Rows k)) (by omega)
  refine Qd (zy (z0 J (z2 J J J (z3 J (K0 J (zz (Qm J (Qh (Qz ?_)))))))));refine Qd (Qk (Qc (z0 J (z2 J J J (z3 J (z0 J ?_))))));refine Ki (Yr J J (c1) J J J) J ?_;refine zx (Qj J J (c2) J) J ?_;refine zx (Qj J J (c3) J) J ?_;refine zx (q_cat J J J J (by omega)) J (z1 J (Qe (Q0 (Qz (Qc (z0 J (Kd J (z1 J (zz ?_)))))))))
  exact ⟨p - (k + 1),by omega,(fun k : Nat => (⟨_,[(1,.o (.c (.ptr 0 0))),(3,S (A ++ colsB r.Rows k)),(4,I k)],[.box ((Enc.e r).map (V1.rd []))]⟩ : St)) (k + 1),⟨k + 1,by omega,trivial,J⟩,Z7 [0] J (.c J (.cons (S_eq (by rw [colsB,ByteArray.append_assoc])) (.c J (.nil))))⟩
 have f0 : decide ((k : Int) < r.Players) = false := decide_eq_false (by omega)
 have hkp : k = p := by omega
 subst hkp
 refine Qd (zy (z0 J (z2 J J J (z3 J (K0 J (zz (Ql J (Q7 (T_x ?_)))))))));refine T_x (Xg (Qz (Qd (zy (z1 J (zz (Qk ?_)))))))
 obtain ⟨C,hC⟩ : ∃ C,C = A ++ colsB r.Rows k := ⟨_,rfl⟩
 rw [← hC] at hs5 ⊢
 refine Xe (fun m st => ∃ q : Nat,q + m = r.Keys.length ∧ (True) ∧ st = (⟨_,[(1,.o (.c (.ptr 0 0))),(3,S (C ++ keysB r.Keys q)),(5,I q)],[.box ((Enc.e r).map (V1.rd []))]⟩ : St)) (r.Keys.length) ⟨(fun q : Nat => (⟨_,[(1,.o (.c (.ptr 0 0))),(3,S (C ++ keysB r.Keys q)),(5,I q)],[.box ((Enc.e r).map (V1.rd []))]⟩ : St)) 0,⟨0,by omega,trivial,J⟩,Z7 [0] J (.c J (.cons (S_eq (by rw [show keysB r.Keys 0 = bs [] from J,app_nilB])) (.c J (.nil))))⟩ ?_
 rintro m_D _ ⟨q,hk_D,hp_D,rfl⟩
 have hs8 := X4 C (keysB r.Keys q)
 by_cases hq : q < r.Keys.length
 ·have f1 : decide ((q : Int) < (els r.Keys).length) = true := decide_eq_true (by omega)
  have hs9 := keysB_size r.Keys hks q (by omega)
  have hat := X7 hq
  have hkd : r.Keys.getD q ⟨#[]⟩ = r.Keys[q] := by simp [List.getD_eq_getElem?_getD,hq]
  have hk1 := hks _ (List.getElem_mem hq)
  have c4 := S_PackText r.Keys[q] (by omega)
  have hs10 := Yl r.Keys[q]
  have hq400 : (1048576 + 6) * q ≤ 1048582 * 400 := Nat.mul_le_mul_left _ (by omega)
  refine Qd (zy (z0 J (z2 J J J (z3 J (zx (Yw J J J) J (K0 J (zz (Qm J (Qh ?_)))))))));refine Qz (Qd (Qk (Qc (z0 J (z2 J J J (z3 J (z0 J (zx (Q1 J J J J (by omega) (by assumption) J) J (zx (Kc J) J ?_)))))))));refine zx (Qj J J (c4) J) J ?_;refine zx (q_cat J J J J (by omega)) J (z1 J (Qe (Q0 (Qz (Qc (z0 J (Kd J (z1 J (zz ?_)))))))))
  exact ⟨r.Keys.length - (q + 1),by omega,(fun q : Nat => (⟨_,[(1,.o (.c (.ptr 0 0))),(3,S (C ++ keysB r.Keys q)),(5,I q)],[.box ((Enc.e r).map (V1.rd []))]⟩ : St)) (q + 1),⟨q + 1,by omega,trivial,J⟩,Z7 [0] J (.c J (.cons (S_eq (by rw [keysB,hkd,ByteArray.append_assoc])) (.c J (.nil))))⟩
 have f1 : decide ((q : Int) < (els r.Keys).length) = false := decide_eq_false (by omega)
 have hqk : q = r.Keys.length := by omega
 subst hqk
 have hs9 := keysB_size r.Keys hks r.Keys.length (Nat.le_refl _)
 have hq400 : (1048576 + 6) * r.Keys.length ≤ 1048582 * 400 := Nat.mul_le_mul_left _ (by omega)
 have cse := S_SealText (C ++ keysB r.Keys r.Keys.length) (by omega)
 refine Qd (zy (z0 J (z2 J J J (z3 J (zx (Yw J J J) J (K0 J (zz (Ql J (Q7 ?_)))))))));refine T_x (T_x (Xg (Qz (zy (z0 J ?_)))));refine zx (Qj J J (cse) J) J ?_;refine z1 J (zz (Q8 (F_r ?_)))
 exact Ke J (Kf [] J J J)
end
end Go.Proofs.YtcjclaoogdblbaaDoor
