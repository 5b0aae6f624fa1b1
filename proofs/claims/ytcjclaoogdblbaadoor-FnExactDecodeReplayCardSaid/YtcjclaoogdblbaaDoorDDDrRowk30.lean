/-
  DecodeReplay of the reference.
  Conditions: texts of at most 2^20 bytes.
  The law FnExactDecodeReplay returns true.
  Conditions: the variable of the library's that the search in texts reads.
-/
import Derived.Test.YtcjclaoogdblbaaDoorDDDrRowk27
import Derived.Test.YtcjclaoogdblbaaDoorDDDrRowk29
set_option linter.unusedSimpArgs false
set_option linter.unusedVariables false
set_option maxRecDepth 8000
set_option maxHeartbeats 8000000
namespace Go.Proofs.YtcjclaoogdblbaaDoor
section
open Go.RowKit

theorem ui_any (o : Option (List Int × Nat)) : ∃ (X : List (List T)) (k : Int) (b : Bool),uiO o = [.row 1 X] ∧ uiR o = .tu [.c (.ref 0),.c (jn k),.c (bv b)] := by
 cases o with
 | none => exact ⟨_,_,_,rfl,rfl⟩
 | some p => obtain ⟨l,k⟩ := p; exact ⟨_,_,_,rfl,rfl⟩
theorem split_wt (c : UInt8) : ∀ l : List UInt8,wts ((splitC c l).map bs) + (splitC c l).length = l.length + 1
 | [] => rfl
 | b :: l => by
  have ih := split_wt c l
  obtain ⟨h,t,e⟩ := Y8 c l
  rw [e] at ih
  have i2 : (bs h).size + wts (t.map bs) + (t.length + 1) = l.length + 1 := ih
  rw [X0] at i2
  rw [splitC,e]
  by_cases hb : b = c
  ·rw [if_pos hb]
   show (bs []).size + ((bs h).size + wts (t.map bs)) + (t.length + 1 + 1) = l.length + 1 + 1
   rw [X0,X0,List.length_nil]; omega
  ·rw [if_neg hb]
   show (bs (b :: h)).size + wts (t.map bs) + (t.length + 1) = l.length + 1 + 1
   rw [X0,List.length_cons]; omega
theorem parse_wt (s : ByteArray) : Enc.wt (parseLv s) = s.size + 1 := by
 have h := split_wt 47 s.data.toList
 rw [← Lib.size_eq] at h
 show ((splitC 47 s.data.toList).map bs).length + wts ((splitC 47 s.data.toList).map bs) = _
 rw [List.length_map]; omega
theorem DR_.rep {s : ByteArray} {r : TReplay} {e : Nat} (h : DR_ s r e) (hs : s.size ≤ 1048576) (hw : Enc.wt r.Level ≤ 1073741824) (ht : (joinB r.Level.Rows slashB).size ≤ 1048576) : RepE r :=
 ⟨h.gd hs,h.lv,hw,ht,h.pl,h.rl,fun x hx => (h.rw_ x hx).1,h.kl,fun x hx => by have := h.ks x hx; omega⟩
theorem S_DecodeReplay (t : ByteArray) (hs : t.size ≤ 1048576) : Con Tryd.prog 20 [] [astr t] (ownO (Enc.e (drV (drS t)))) (.tu [.ag (ownV 0 (Enc.e (drV (drS t)))),.c (.rd [] (.v (.bool (drB (drS t)))))]) := by
 have hot := S_OpenText t (by omega)
 have hpe := S_ParseLv ⟨#[]⟩ (by show (0 : Nat) ≤ _; omega)
 cases ho : openText t with
 | none =>
  rw [ho] at hot
  rw [(dr_open ho).2]
  have hut := Xs ⟨#[]⟩ 0 (by show (0 : Nat) ≤ _; omega) ⟨by omega,by omega⟩
  rw [show unpackText ⟨#[]⟩ 0 = none from rfl] at hut
  have hui := S_UnpackInts ⟨#[]⟩ 0 (by show (0 : Nat) ≤ _; omega) ⟨by omega,by omega⟩
  rw [show unpackInts ⟨#[]⟩ 0 = none from rfl] at hui
  refine Con.of Tryd.func20 J Tryd.ntmps20 J (fun E => ?_)
  refine zy (Ki (Ks J J) J (z1 J (zz (zy (zx (Yp J J J J J) J (Ki (Ks J J) J ?_))))));refine K8 J J (zz (zy (z0 J ?_)));refine Ki (Yr J J (hot) J J J) J ?_;refine zx (Vw J) J (ze J (ze J (z1 J (z1 J (zz (zy (z0 J ?_)))))));refine Ki (Yr J J (hut) J J J) J ?_;refine zx (Vw J) J (ze J (ze J (ze J (z1 J (z1 J (z1 J (zz (zy (z0 J ?_)))))))));refine Ki (Yr J J (hpe) J J J) J ?_;refine zx (Vw J) J (ze J (ze J (Ki (Ks J J) J ?_)));refine K8 J J (z1 J (zz (zy (z0 J (z0 J ?_)))));refine Ki (Yr J J (hui) J J J) J ?_;refine zx (Vw J) J (ze J (ze J (ze J (z1 J (z1 J (z1 J (zz (Qd (zy ?_)))))))));refine z0 J (zn J (z0 J (z6 J (z6 J (zpT J (z0 J (z6 J (z6 J (zpT J (z0 J (z6 J ?_)))))))))));refine z6 J (zpT J (z0 J (z6 J (z6 J (z6 J (zpT J (z0 J (z6 J (z6 J (z6 J (z6 J ?_)))))))))));refine z6 J (zpT J (z0 J (z6 J (z6 J (z6 J (z6 J (z6 J (zpT J (z0 J (z6 J (z6 J ?_)))))))))));refine z6 J (z6 J (z6 J (zpT J (zz (Qm J (zy (z4 J J J ?_)))))));refine K8 J J (z1 J (zz (Q8 (T_r (F_r ?_)))))
  exact Xh J J J J J (Xu [1,1,1] [5,6,7] J J (by decide) J J J)
 | some s =>
 rw [ho] at hot
 obtain ⟨_,hsz⟩ := Yk ho
 have hut := Xs s 0 (by omega) ⟨by omega,by omega⟩
 cases hu : unpackText s 0 with
 | none =>
  rw [hu] at hut
  rw [(X6 ho (db1 hu)).2]
  have hui := S_UnpackInts s 0 (by omega) ⟨by omega,by omega⟩
  obtain ⟨X,k,b,e1,e2⟩ := ui_any (unpackInts s 0)
  rw [e1,e2] at hui
  refine Con.of Tryd.func20 J Tryd.ntmps20 J (fun E => ?_)
  refine zy (Ki (Ks J J) J (z1 J (zz (zy (zx (Yp J J J J J) J (Ki (Ks J J) J ?_))))));refine K8 J J (zz (zy (z0 J ?_)));refine Ki (Yr J J (hot) J J J) J ?_;refine zx (Vw J) J (ze J (ze J (z1 J (z1 J (zz (zy (z0 J ?_)))))));refine Ki (Yr J J (hut) J J J) J ?_;refine zx (Vw J) J (ze J (ze J (ze J (z1 J (z1 J (z1 J (zz (zy (z0 J ?_)))))))));refine Ki (Yr J J (hpe) J J J) J ?_;refine zx (Vw J) J (ze J (ze J (Ki (Ks J J) J ?_)));refine K8 J J (z1 J (zz (zy (z0 J (z0 J ?_)))));refine Ki (Yr J J (hui) J J J) J ?_;refine zx (Vw J) J (ze J (ze J (ze J (z1 J (z1 J (z1 J (zz (Qd (zy ?_)))))))));refine z0 J (zn J (z0 J (z5 J (z0 J (z5 J (zn J (zpF J (z0 J (z6 J (z6 J (zpT J ?_)))))))))));refine z0 J (z6 J (z6 J (zpT J (z0 J (z6 J (z6 J (z6 J (zpT J (z0 J (z6 J (z6 J ?_)))))))))));refine z6 J (z6 J (z6 J (zpT J (z0 J (z6 J (z6 J (z6 J (z6 J (z6 J (zpT J (z0 J ?_)))))))))));refine z6 J (z6 J (z6 J (z6 J (z6 J (zpT J (zz (Qm J (zy (z4 J J J ?_)))))))));refine K8 J J (z1 J (zz (Q8 (T_r (F_r ?_)))))
  exact Xh J J J J J (Xu [1,1,1] [5,6,7] J J (by decide) J J J)
 | some p =>
 obtain ⟨tx,a⟩ := p
 rw [hu] at hut
 have hus := Zb hu
 have hpl := S_ParseLv tx (by omega)
 unfold pvL at hpl
 have hui := S_UnpackInts s a (by omega) ⟨by omega,by omega⟩
 cases hlv : levelOk (parseLv tx) with
 | false =>
  rw [hlv,if_neg (by decide)] at hpl
  rw [(X6 ho (db2 hu hlv)).2]
  obtain ⟨X,k,b,e1,e2⟩ := ui_any (unpackInts s a)
  rw [e1,e2] at hui
  refine Con.of Tryd.func20 J Tryd.ntmps20 J (fun E => ?_)
  refine zy (Ki (Ks J J) J (z1 J (zz (zy (zx (Yp J J J J J) J (Ki (Ks J J) J ?_))))));refine K8 J J (zz (zy (z0 J ?_)));refine Ki (Yr J J (hot) J J J) J ?_;refine zx (Vw J) J (ze J (ze J (z1 J (z1 J (zz (zy (z0 J ?_)))))));refine Ki (Yr J J (hut) J J J) J ?_;refine zx (Vw J) J (ze J (ze J (ze J (z1 J (z1 J (z1 J (zz (zy (z0 J ?_)))))))));refine Ki (Yr J J (hpl) J J J) J ?_;refine zx (Vw J) J (ze J (ze J (Ki (Ks J J) J ?_)));refine K8 J J (z1 J (zz (zy (z0 J (z0 J ?_)))));refine Ki (Yr J J (hui) J J J) J ?_;refine zx (Vw J) J (ze J (ze J (ze J (z1 J (z1 J (z1 J (zz (Qd (zy ?_)))))))));refine z0 J (zn J (z0 J (z5 J (z0 J (z5 J (zn J (zpF J (z0 J (z5 J (z0 J (z5 J ?_)))))))))));refine zn J (zpF J (z0 J (z6 J (z6 J (zpT J (z0 J (z6 J (z6 J (z6 J (zpT J (z0 J ?_)))))))))));refine z6 J (z6 J (z6 J (z6 J (z6 J (zpT J (z0 J (z6 J (z6 J (z6 J (z6 J (z6 J ?_)))))))))));refine zpT J (z0 J (z6 J (z6 J (z6 J (z6 J (z6 J (zpT J (zz (Qm J (Qd ?_))))))))));refine Qc (z4 J J J ?_);refine K8 J J (z1 J (zz (Q8 (T_r (F_r ?_)))))
  exact Xh J J J J J (Xu [1,1,1] [5,6,7] J J (by decide) J J J)
 | true =>
 rw [hlv,if_pos rfl] at hpl
 cases hi : unpackInts s a with
 | none =>
  rw [hi] at hui
  rw [(X6 ho (db3 hu hi)).2]
  refine Con.of Tryd.func20 J Tryd.ntmps20 J (fun E => ?_)
  refine zy (Ki (Ks J J) J (z1 J (zz (zy (zx (Yp J J J J J) J (Ki (Ks J J) J ?_))))));refine K8 J J (zz (zy (z0 J ?_)));refine Ki (Yr J J (hot) J J J) J ?_;refine zx (Vw J) J (ze J (ze J (z1 J (z1 J (zz (zy (z0 J ?_)))))));refine Ki (Yr J J (hut) J J J) J ?_;refine zx (Vw J) J (ze J (ze J (ze J (z1 J (z1 J (z1 J (zz (zy (z0 J ?_)))))))));refine Ki (Yr J J (hpl) J J J) J ?_;refine zx (Vw J) J (ze J (ze J (Ki (Ks J J) J ?_)));refine K8 J J (z1 J (zz (zy (z0 J (z0 J ?_)))));refine Ki (Yr J J (hui) J J J) J ?_;refine zx (Vw J) J (ze J (ze J (ze J (z1 J (z1 J (z1 J (zz (Qd (zy ?_)))))))));refine z0 J (zn J (z0 J (z5 J (z0 J (z5 J (zn J (zpF J (z0 J (z5 J (z0 J (z5 J ?_)))))))))));refine zn J (zpF J (z0 J (z5 J (z0 J (z5 J (zn J (zpF J (z0 J (z6 J (z6 J (z6 J ?_)))))))))));refine zpT J (z0 J (z6 J (z6 J (z6 J (z6 J (z6 J (zpT J (z0 J (z6 J (z6 J (z6 J ?_)))))))))));refine z6 J (z6 J (zpT J (z0 J (z6 J (z6 J (z6 J (z6 J (z6 J (zpT J (zz ?_))))))))));refine Qm J (zy (z4 J J J ?_));refine K8 J J (z1 J (zz (Q8 (T_r (F_r ?_)))))
  exact Xh J J J J J (Xu [1,1,1] [5,6,7] J J (by decide) J J J)
 | some p =>
 obtain ⟨l,b⟩ := p
 rw [hi] at hui
 have his := Y9 hi
 have hll := X8 l
 by_cases hl4 : ¬ l.length = 4
 ·have hb : decide (((els l).length : Int) ≠ 4) = true := decide_eq_true (by omega)
  rw [(X6 ho (db4 hu hi hl4)).2]
  refine Con.of Tryd.func20 J Tryd.ntmps20 J (fun E => ?_)
  refine zy (Ki (Ks J J) J (z1 J (zz (zy (zx (Yp J J J J J) J (Ki (Ks J J) J ?_))))));refine K8 J J (zz (zy (z0 J ?_)));refine Ki (Yr J J (hot) J J J) J ?_;refine zx (Vw J) J (ze J (ze J (z1 J (z1 J (zz (zy (z0 J ?_)))))));refine Ki (Yr J J (hut) J J J) J ?_;refine zx (Vw J) J (ze J (ze J (ze J (z1 J (z1 J (z1 J (zz (zy (z0 J ?_)))))))));refine Ki (Yr J J (hpl) J J J) J ?_;refine zx (Vw J) J (ze J (ze J (Ki (Ks J J) J ?_)));refine K8 J J (z1 J (zz (zy (z0 J (z0 J ?_)))));refine Ki (Yr J J (hui) J J J) J ?_;refine zx (Vw J) J (ze J (ze J (ze J (z1 J (z1 J (z1 J (zz (Qd (zy ?_)))))))));refine z0 J (zn J (z0 J (z5 J (z0 J (z5 J (zn J (zpF J (z0 J (z5 J (z0 J (z5 J ?_)))))))))));refine zn J (zpF J (z0 J (z5 J (z0 J (z5 J (zn J (zpF J (z0 J (z5 J (z0 J (z5 J ?_)))))))))));refine zx (Yx J J J J) J (z5 J (Ka J (zpF J (z0 J (z6 J (z6 J (z6 J (z6 J (z6 J (zpT J (z0 J ?_)))))))))));refine z6 J (z6 J (z6 J (z6 J (z6 J (zpT J (z0 J (z6 J (z6 J (z6 J (z6 J (z6 J ?_)))))))))));refine zpT J (zz (Qm J (zy (z4 J J J ?_))));refine K8 J J (z1 J (zz (Q8 (T_r (F_r ?_)))))
  exact Xh J J J J J (Xu [1,1,1] [5,6,7] J J (by decide) J J J)
 obtain ⟨h0,h1,h2,h3,rfl⟩ := list4 (Classical.not_not.1 hl4)
 have hb : decide (((els [h0,h1,h2,h3]).length : Int) ≠ 4) = false := decide_eq_false (by rw [hll]; simp)
 have hl4 : (els [h0,h1,h2,h3]).length = 4 := rfl
 have ha0 : (els [h0,h1,h2,h3])[(0 : Int).toNat]? = some [.v (.int .i64 h0)] := rfl
 have ha1 : (els [h0,h1,h2,h3])[(1 : Int).toNat]? = some [.v (.int .i64 h1)] := rfl
 have ha2 : (els [h0,h1,h2,h3])[(2 : Int).toNat]? = some [.v (.int .i64 h2)] := rfl
 have ha3 : (els [h0,h1,h2,h3])[(3 : Int).toNat]? = some [.v (.int .i64 h3)] := rfl
 have c0 := S_in h0 1 4
 have c2 := S_in h2 1 100
 have c3 := S_in h3 0 400
 by_cases hf0 : inR h0 1 4 = true
 case neg =>
  rw [(X6 ho (db5 hu hi (fun h => hf0 (Ye.2 h.1)))).2]
  have hf0 : inR h0 1 4 = false := by simpa using hf0
  rw [hf0] at c0
  refine Con.of Tryd.func20 J Tryd.ntmps20 J (fun E => ?_)
  refine zy (Ki (Ks J J) J (z1 J (zz (zy (zx (Yp J J J J J) J (Ki (Ks J J) J ?_))))));refine K8 J J (zz (zy (z0 J ?_)));refine Ki (Yr J J (hot) J J J) J ?_;refine zx (Vw J) J (ze J (ze J (z1 J (z1 J (zz (zy (z0 J ?_)))))));refine Ki (Yr J J (hut) J J J) J ?_;refine zx (Vw J) J (ze J (ze J (ze J (z1 J (z1 J (z1 J (zz (zy (z0 J ?_)))))))));refine Ki (Yr J J (hpl) J J J) J ?_;refine zx (Vw J) J (ze J (ze J (Ki (Ks J J) J ?_)));refine K8 J J (z1 J (zz (zy (z0 J (z0 J ?_)))));refine Ki (Yr J J (hui) J J J) J ?_;refine zx (Vw J) J (ze J (ze J (ze J (z1 J (z1 J (z1 J (zz (Qd (zy ?_)))))))));refine z0 J (zn J (z0 J (z5 J (z0 J (z5 J (zn J (zpF J (z0 J (z5 J (z0 J (z5 J ?_)))))))))));refine zn J (zpF J (z0 J (z5 J (z0 J (z5 J (zn J (zpF J (z0 J (z5 J (z0 J (z5 J ?_)))))))))));refine zx (Yx J J J J) J (z5 J (Ka J (zpF J (z0 J (z5 J (z0 J (z5 J (zx (Q2 J J J J J (by omega) (by omega)) J (z5 J (zx (Q5 J J J J (by assumption) J) J (z5 J ?_)))))))))));refine zx (Qj J J (c0) J) J ?_;refine z5 J (zn J (zpF J (z0 J (z6 J (z6 J (z6 J (z6 J (z6 J (zpT J (z0 J (z6 J ?_)))))))))));refine z6 J (z6 J (z6 J (z6 J (zpT J (zz (Qm J (zy (z4 J J J ?_))))))));refine K8 J J (z1 J (zz (Q8 (T_r (F_r ?_)))))
  exact Xh J J J J J (Xu [1,1,1] [5,6,7] J J (by decide) J J J)
 rw [hf0] at c0
 by_cases hf2 : inR h2 1 100 = true
 case neg =>
  rw [(X6 ho (db5 hu hi (fun h => hf2 (Ye.2 h.2.1)))).2]
  have hf2 : inR h2 1 100 = false := by simpa using hf2
  rw [hf2] at c2
  refine Con.of Tryd.func20 J Tryd.ntmps20 J (fun E => ?_)
  refine zy (Ki (Ks J J) J (z1 J (zz (zy (zx (Yp J J J J J) J (Ki (Ks J J) J ?_))))));refine K8 J J (zz (zy (z0 J ?_)));refine Ki (Yr J J (hot) J J J) J ?_;refine zx (Vw J) J (ze J (ze J (z1 J (z1 J (zz (zy (z0 J ?_)))))));refine Ki (Yr J J (hut) J J J) J ?_;refine zx (Vw J) J (ze J (ze J (ze J (z1 J (z1 J (z1 J (zz (zy (z0 J ?_)))))))));refine Ki (Yr J J (hpl) J J J) J ?_;refine zx (Vw J) J (ze J (ze J (Ki (Ks J J) J ?_)));refine K8 J J (z1 J (zz (zy (z0 J (z0 J ?_)))));refine Ki (Yr J J (hui) J J J) J ?_;refine zx (Vw J) J (ze J (ze J (ze J (z1 J (z1 J (z1 J (zz (Qd (zy ?_)))))))));refine z0 J (zn J (z0 J (z5 J (z0 J (z5 J (zn J (zpF J (z0 J (z5 J (z0 J (z5 J ?_)))))))))));refine zn J (zpF J (z0 J (z5 J (z0 J (z5 J (zn J (zpF J (z0 J (z5 J (z0 J (z5 J ?_)))))))))));refine zx (Yx J J J J) J (z5 J (Ka J (zpF J (z0 J (z5 J (z0 J (z5 J (zx (Q2 J J J J J (by omega) (by omega)) J (z5 J (zx (Q5 J J J J (by assumption) J) J (z5 J ?_)))))))))));refine zx (Qj J J (c0) J) J ?_;refine z5 J (zn J (zpF J (z0 J (z5 J (z0 J (z5 J (zx (Q2 J J J J J (by omega) (by omega)) J (z5 J (zx (Q5 J J J J (by assumption) J) J (z5 J ?_))))))))));refine zx (Qj J J (c2) J) J ?_;refine z5 J (zn J (zpF J (z0 J (z6 J (z6 J (z6 J (z6 J (z6 J (zpT J (zz ?_))))))))));refine Qm J (zy (z4 J J J ?_));refine K8 J J (z1 J (zz (Q8 (T_r (F_r ?_)))))
  exact Xh J J J J J (Xu [1,1,1] [5,6,7] J J (by decide) J J J)
 rw [hf2] at c2
 by_cases hf3 : inR h3 0 400 = true
 case neg =>
  rw [(X6 ho (db5 hu hi (fun h => hf3 (Ye.2 h.2.2)))).2]
  have hf3 : inR h3 0 400 = false := by simpa using hf3
  rw [hf3] at c3
  refine Con.of Tryd.func20 J Tryd.ntmps20 J (fun E => ?_)
  refine zy (Ki (Ks J J) J (z1 J (zz (zy (zx (Yp J J J J J) J (Ki (Ks J J) J ?_))))));refine K8 J J (zz (zy (z0 J ?_)));refine Ki (Yr J J (hot) J J J) J ?_;refine zx (Vw J) J (ze J (ze J (z1 J (z1 J (zz (zy (z0 J ?_)))))));refine Ki (Yr J J (hut) J J J) J ?_;refine zx (Vw J) J (ze J (ze J (ze J (z1 J (z1 J (z1 J (zz (zy (z0 J ?_)))))))));refine Ki (Yr J J (hpl) J J J) J ?_;refine zx (Vw J) J (ze J (ze J (Ki (Ks J J) J ?_)));refine K8 J J (z1 J (zz (zy (z0 J (z0 J ?_)))));refine Ki (Yr J J (hui) J J J) J ?_;refine zx (Vw J) J (ze J (ze J (ze J (z1 J (z1 J (z1 J (zz (Qd (zy ?_)))))))));refine z0 J (zn J (z0 J (z5 J (z0 J (z5 J (zn J (zpF J (z0 J (z5 J (z0 J (z5 J ?_)))))))))));refine zn J (zpF J (z0 J (z5 J (z0 J (z5 J (zn J (zpF J (z0 J (z5 J (z0 J (z5 J ?_)))))))))));refine zx (Yx J J J J) J (z5 J (Ka J (zpF J (z0 J (z5 J (z0 J (z5 J (zx (Q2 J J J J J (by omega) (by omega)) J (z5 J (zx (Q5 J J J J (by assumption) J) J (z5 J ?_)))))))))));refine zx (Qj J J (c0) J) J ?_;refine z5 J (zn J (zpF J (z0 J (z5 J (z0 J (z5 J (zx (Q2 J J J J J (by omega) (by omega)) J (z5 J (zx (Q5 J J J J (by assumption) J) J (z5 J ?_))))))))));refine zx (Qj J J (c2) J) J ?_;refine z5 J (zn J (zpF J (z0 J (z5 J (z0 J (z5 J (zx (Q2 J J J J J (by omega) (by omega)) J (z5 J (zx (Q5 J J J J (by assumption) J) J (z5 J ?_))))))))));refine zx (Qj J J (c3) J) J ?_;refine z5 J (zn J (zpF J (zz (Qm J (zy (z4 J J J ?_))))));refine K8 J J (z1 J (zz (Q8 (T_r (F_r ?_)))))
  exact Xh J J J J J (Xu [1,1,1] [5,6,7] J J (by decide) J J J)
 rw [hf3] at c3
 have hr0 := Ye.1 hf0
 have hr2 := Ye.1 hf2
 have hr3 := Ye.1 hf3
 have hho : headOk h0 h2 h3 := ⟨hr0,hr2,hr3⟩
 obtain ⟨n0,rfl⟩ : ∃ n : Nat,h0 = n := ⟨h0.toNat,by omega⟩
 obtain ⟨n2,rfl⟩ : ∃ n : Nat,h2 = n := ⟨h2.toNat,by omega⟩
 obtain ⟨n3,rfl⟩ : ∃ n : Nat,h3 = n := ⟨h3.toNat,by omega⟩
 have huc := S_l07Columns s (a + b) n0 n3 (by omega) (by omega) (by omega) (by omega)
 rw [Int.natCast_add] at huc
 refine Con.of Tryd.func20 J Tryd.ntmps20 J (fun E => ?_)
 refine zy (Ki (Ks J J) J (z1 J (zz (zy (zx (Yp J J J J J) J (Ki (Ks J J) J ?_))))));refine K8 J J (zz (zy (z0 J ?_)));refine Ki (Yr J J (hot) J J J) J ?_;refine zx (Vw J) J (ze J (ze J (z1 J (z1 J (zz (zy (z0 J ?_)))))));refine Ki (Yr J J (hut) J J J) J ?_;refine zx (Vw J) J (ze J (ze J (ze J (z1 J (z1 J (z1 J (zz (zy (z0 J ?_)))))))));refine Ki (Yr J J (hpl) J J J) J ?_;refine zx (Vw J) J (ze J (ze J (Ki (Ks J J) J ?_)));refine K8 J J (z1 J (zz (zy (z0 J (z0 J ?_)))));refine Ki (Yr J J (hui) J J J) J ?_;refine zx (Vw J) J (ze J (ze J (ze J (z1 J (z1 J (z1 J (zz (Qd (zy ?_)))))))));refine z0 J (zn J (z0 J (z5 J (z0 J (z5 J (zn J (zpF J (z0 J (z5 J (z0 J (z5 J ?_)))))))))));refine zn J (zpF J (z0 J (z5 J (z0 J (z5 J (zn J (zpF J (z0 J (z5 J (z0 J (z5 J ?_)))))))))));refine zx (Yx J J J J) J (z5 J (Ka J (zpF J (z0 J (z5 J (z0 J (z5 J (zx (Q2 J J J J J (by omega) (by omega)) J (z5 J (zx (Q5 J J J J (by assumption) J) J (z5 J ?_)))))))))));refine zx (Qj J J (c0) J) J ?_;refine z5 J (zn J (zpF J (z0 J (z5 J (z0 J (z5 J (zx (Q2 J J J J J (by omega) (by omega)) J (z5 J (zx (Q5 J J J J (by assumption) J) J (z5 J ?_))))))))));refine zx (Qj J J (c2) J) J ?_;refine z5 J (zn J (zpF J (z0 J (z5 J (z0 J (z5 J (zx (Q2 J J J J J (by omega) (by omega)) J (z5 J (zx (Q5 J J J J (by assumption) J) J (z5 J ?_))))))))));refine zx (Qj J J (c3) J) J ?_;refine z5 J (zn J (zpF J (zz (Ql J (Qh (Qz (Qd ?_)))))))
 cases hc : colsGo s n3 n0 (a + b) (List.replicate n3 []) with
 | none =>
  rw [hc] at huc
  rw [(X6 ho (db6 hu hi hc)).2]
  refine Xd u8_26 u8_27 u8_28 J (Zh (Zr J) J (Zh (Zr J) J (Zh (Zr J) J (Zh (Qs J J J J (by omega)) J (Zh (Zr J) J (Zh (Q2 J J J J J (by omega) (by omega)) J (Zh (Q5 J J J J (by assumption) J) J (Zh (Zr J) J (Zh (Q2 J J J J J (by omega) (by omega)) J (Zh (Q5 J J J J (by assumption) J) J ?_))))))))));refine Zh (Yr J J (huc) J J J) J ?_;refine Zh (Vw J) J (Zh (Yt J J J J) J (Zh (Yt J J J J) J (Zh (Yt J J J J) J (Zh (Qb J J J) J (Zh (Qb J J J) J (Zh (Qb J J J) J (Zg (zz (Qd (Qd ?_))))))))));refine Qc (z0 J (zn J (zz (Qm J (zy (z4 J J J ?_))))));refine K8 J J (z1 J (zz (Q8 (T_r (F_r ?_)))))
  exact Xh J J J J J (Xu [1,1,1] [6,7,8] J J (by decide) J J J)
 | some p =>
 obtain ⟨rows,e⟩ := p
 rw [hc] at huc
 have hcn := cols_nn (by omega) hc
 have hn2 : (n3 / n2 : Nat) ≤ n3 := Nat.div_le_self _ _
 have hdiv : ((n3 : Int) / (n2 : Int)) = ((n3 / n2 : Nat) : Int) := rfl
 refine Xd u8_26 u8_27 u8_28 J (Zh (Zr J) J (Zh (Zr J) J (Zh (Zr J) J (Zh (Qs J J J J (by omega)) J (Zh (Zr J) J (Zh (Q2 J J J J J (by omega) (by omega)) J (Zh (Q5 J J J J (by assumption) J) J (Zh (Zr J) J (Zh (Q2 J J J J J (by omega) (by omega)) J (Zh (Q5 J J J J (by assumption) J) J ?_))))))))));refine Zh (Yr J J (huc) J J J) J ?_;refine Zh (Vw J) J (Zh (Yt J J J J) J (Zh (Yt J J J J) J (Zh (Yt J J J J) J (Zh (Qb J J J) J (Zh (Qb J J J) J (Zh (Qb J J J) J (Zg (zz (Qd (Qd ?_))))))))));refine Qc (z0 J (zn J (zz (Ql J (Qh (Qz (Qd (Xd u8_22 [[],[],[107],[107,108],[],[110],[110,111],[],[113],[113,114],[],[106,107,108,109,110,111,112,113,114,115,116],[],[18,106,107,108,109,110,111,112,113,114,115,116,117]] [[18,107,108,109,110,111,112,113,114,115,116],[18,106,110,111,112,113,114,115,116],[18,106,110,111,112,113,114,115,116],[18,106,110,111,112,113,114,115,116],[18,106,107,108,109,113,114,115,116],[18,106,107,108,109,113,114,115,116],[18,106,107,108,109,113,114,115,116],[18,106,107,108,109,110,111,112,116],[18,106,107,108,109,110,111,112,116],[18,106,107,108,109,110,111,112,116],[18,106,107,108,109,110,111,112,113,114,115],[18],[106,107,108,109,110,111,112,113,114,115,116,117],[]] J (Zh (Qu J J J J J J) J (Zh (Zr J) J ?_))))))))));refine Zh (Q2 J J J J J (by omega) (by omega)) J (Zh (Q5 J J J J (by assumption) J) J (Zh (Zr J) J (Zh (Q2 J J J J J (by omega) (by omega)) J (Zh (Q5 J J J J (by assumption) J) J (Zh (Zr J) J (Zh (Q2 J J J J J (by omega) (by omega)) J (Zh (Q5 J J J J (by assumption) J) J (Zh (Zr J) J (Zh (Yp J J J J J) J (Zh (Ks J J) J (Zg ?_)))))))))));refine K8 J J (zz (Qd (zy (z1 J (zz (Qk ?_))))))
 refine AWP.pre ?_ (Wk.nilbox (p := 6) (i := 5) 1 J J)
 refine Xe (fun m__ st => ∃ (k : Nat) (pos : Nat) (ks : List ByteArray),n3 / n2 - k = m__ ∧ ((k ≤ n3 / n2 ∧ e ≤ pos ∧ pos ≤ s.size ∧ ks.length = k ∧ keysGo s (n3 / n2 - k) pos ks = keysGo s (n3 / n2) e [])) ∧ st = (⟨_,[(0,S t),(2,.o (.c (.ptr 0 0))),(4,.o (.c (.ptr 1 0))),(5,S s),(16,I pos),(12,.o (.c (.ref 4))),(18,.o (.c (.ptr 6 0))),(19,I k)],[.box [nilR,jn 0,jn 0,jn 0,nilR,nilR],.box [nilR,jn 0,jn 0,jn 0,nilR,nilR],.row 1 (els (parseLv tx).Rows),.box [.ref 2],.row 1 (els [(n0 : Int),h1,n2,n3]),.row 1 (els rows),.box [.ref 2,jn n0,jn h1,jn n2,.ref 5,.ref 7],.row 1 (els ks)]⟩ : St)) _ ⟨_,⟨0,e,[],J,⟨Nat.zero_le _,Nat.le_refl _,hcn.2,J,J⟩,J⟩,Kb [0,1,2,3,4,5,6,7]⟩ ?_
 rintro m_B _ ⟨k,pos,ks,hk_B,hp_B,rfl⟩
 obtain ⟨p1,p2,p3,p4,p5⟩ := hp_B
 have hel := X8 ks
 refine Qd (Qd ?_)
 by_cases hk : k < n3 / n2
 ·have f0 : decide ((k : Int) < (n3 : Int) / (n2 : Int)) = true := decide_eq_true (by rw [hdiv]; omega)
  refine Xd u8_23 u8_29 u8_30 J (Zh (Zr J) J (Zh (Zr J) J (Zh (Q2 J J J J J (by omega) (by omega)) J (Zh (Q5 J J J J (by assumption) J) J (Zh (Zr J) J (Zh (Q2 J J J J J (by omega) (by omega)) J (Zh (Q5 J J J J (by assumption) J) J (Zh (q_quo J J J J (by omega)) J (Zh (Qr J J J J (by assumption)) J (Zg ?_))))))))))
  have hut2 := Xs s pos (by omega) ⟨by omega,by omega⟩
  cases hu2 : unpackText s pos with
  | none =>
   rw [hu2] at hut2
   have hkn : keysGo s (n3 / n2) e [] = none := by rw [← p5,show n3 / n2 - k = (n3 / n2 - (k + 1)) + 1 by omega,keysGo,hu2]
   rw [(X6 ho (db7 hu hi hc hkn)).2]
   refine zz (Qm J (Qh (Qz (Qd (Qk (zy (z0 J (z0 J ?_))))))));refine Ki (Yr J J (hut2) J J J) J ?_;refine zx (Vw J) J (ze J (ze J (ze J (z1 J (z1 J (z1 J (zz (Qd (zy ?_)))))))));refine z0 J (zn J (zz (Qm J (zy (z4 J J J ?_)))));refine K8 J J (z1 J (zz (Q8 (T_r (B_r (T_r (T_r (B_r (T_r (F_r ?_))))))))))
   exact Xh J J J J J (Xu [1,1,1] [8,9,10] J J (by decide) J J J)
  | some p =>
   obtain ⟨tx2,m⟩ := p
   rw [hu2] at hut2
   have hus2 := Zb hu2
   have hkn : keysGo s (n3 / n2 - (k + 1)) (pos + m) (ks ++ [tx2]) = keysGo s (n3 / n2) e [] := by rw [← p5,show n3 / n2 - k = (n3 / n2 - (k + 1)) + 1 by omega,keysGo,hu2]
   refine zz (Qm J (Qh (Qz (Qd (Qk (zy (z0 J (z0 J ?_))))))));refine Ki (Yr J J (hut2) J J J) J ?_;refine zx (Vw J) J (ze J (ze J (ze J (z1 J (z1 J (z1 J (zz (Qd (zy ?_)))))))));refine z0 J (zn J (zz (Ql J (Qh (Qz (zy (z2 J J J (z3 J (z0 J ?_)))))))));refine Ki (Yn J J J J J J) J ?_;refine Xo J J J J J J J J J J (by omega) (by omega) ?_;refine z2 J J J ?_;refine Q4 J J J J J J J J (zz (Qc (z0 J (z0 J (Kd J (z1 J (Qe (Q0 (Qz (Qc ?_))))))))));refine z0 J (Kd J (z1 J (zz ?_)))
   refine ⟨_,(by omega),(fun (k : Nat) (pos : Nat) (ks : List ByteArray) => (⟨_,[(0,S t),(2,.o (.c (.ptr 0 0))),(4,.o (.c (.ptr 1 0))),(5,S s),(16,I pos),(12,.o (.c (.ref 4))),(18,.o (.c (.ptr 6 0))),(19,I k)],[.box [nilR,jn 0,jn 0,jn 0,nilR,nilR],.box [nilR,jn 0,jn 0,jn 0,nilR,nilR],.row 1 (els (parseLv tx).Rows),.box [.ref 2],.row 1 (els [(n0 : Int),h1,n2,n3]),.row 1 (els rows),.box [.ref 2,jn n0,jn h1,jn n2,.ref 5,.ref 7],.row 1 (els ks)]⟩ : St)) (k + 1) (pos + m) (ks ++ [tx2]),⟨k + 1,pos + m,ks ++ [tx2],J,⟨by omega,by omega,by omega,by rw [List.length_append,p4]; rfl,hkn⟩,J⟩,Xw [0,1,2,3,4,5,6,7] (by decide) J ((by rw [els_snocC]; rfl)) (.c J (.c J (.c J (.c J (.cons (Kt) (.c J (.c J (.cons (Kt) (.nil)))))))))⟩
 have f0 : decide ((k : Int) < (n3 : Int) / (n2 : Int)) = false := decide_eq_false (by rw [hdiv]; omega)
 refine Xd u8_23 u8_29 u8_30 J (Zh (Zr J) J (Zh (Zr J) J (Zh (Q2 J J J J J (by omega) (by omega)) J (Zh (Q5 J J J J (by assumption) J) J (Zh (Zr J) J (Zh (Q2 J J J J J (by omega) (by omega)) J (Zh (Q5 J J J J (by assumption) J) J (Zh (q_quo J J J J (by omega)) J (Zh (Qr J J J J (by assumption)) J (Zg ?_))))))))))
 have hkk : keysGo s (n3 / n2) e [] = some (ks,pos) := by rw [← p5,show n3 / n2 - k = 0 by omega,keysGo]
 have hdb := db8 hu hlv hi hho hc hkk
 have hDR := drBody_ok hdb
 have hwt := parse_wt tx
 have cen := S_EncodeReplay _ (hDR.rep (by omega) (by show Enc.wt (parseLv tx) ≤ _; omega) (by show (joinB (parseLv tx).Rows slashB).size ≤ _; rw [joinB_parse]; omega))
 rw [drS_end ho hdb]
 by_cases he : encodeReplay (⟨parseLv tx,n0,h1,n2,rows,ks⟩ : TReplay) = t
 case neg =>
  have hb3 : decide (encodeReplay (⟨parseLv tx,n0,h1,n2,rows,ks⟩ : TReplay) ≠ t) = true := decide_eq_true he
  rw [if_neg he]
  refine zz (Ql J (Q7 (T_x (T_x (Xg (Qz (Qd (zy (z4 J J J ?_)))))))));refine zx (Qj J J (cen) J) J ?_;refine z0 J (zx (Kh J) J (zz (Qm J (zy (z4 J J J ?_)))));refine K8 J J (z1 J (zz (Q8 (T_r (F_r ?_)))))
  exact Xh J J J J J (Xu [1,1,1] [8,9,10] J J (by decide) J J J)
 have hb3 : decide (encodeReplay (⟨parseLv tx,n0,h1,n2,rows,ks⟩ : TReplay) ≠ t) = false := decide_eq_false (fun h => h he)
 rw [if_pos he]
 refine zz (Ql J (Q7 (T_x (T_x (Xg (Qz (Qd (zy (z4 J J J ?_)))))))));refine zx (Qj J J (cen) J) J ?_;refine z0 J (zx (Kh J) J (zz (Ql J (Qh (Qz (zy (z4 J J J ?_)))))));refine K8 J J (z1 J (zz (Q8 (F_r ?_))))
 exact Xh J J J J J (Kf [2,5,7] J J J)
end
section
open Go.RowKit

@[reducible] def iv (n : Int) : V1 := .rd [] (.v (.int .i64 n))
theorem tot_le4 : ∀ (xs : List (List Int)),(∀ x ∈ xs,x.length ≤ 4) → tot xs ≤ 4 * xs.length
 | [],_ => by simp [tot]
 | y :: ys,h => by
  have h1 := tot_le4 ys fun x hx => h x (by simp [hx])
  have h2 : tot (y :: ys) = y.length + tot ys := by simp [tot]
  have h3 := h y (by simp)
  simp only [List.length_cons]
  omega
structure DrOk (y : TReplay) : Prop where
 gd : Enc.gd y
 h1 : y.Level.Rows.length ≤ 1048576
 h2 : y.Keys.length ≤ 1048576
 h3 : y.Rows.length ≤ 1048576
 h4 : tot y.Rows ≤ 1048576
theorem dr_in {t : ByteArray} (hs : t.size ≤ 1048576) : DrOk (drV (drS t)) := by
 have hz : DrOk zeroR := ⟨⟨⟨by simp [zeroR],fun x hx => by simp [zeroR] at hx⟩,⟨by decide,by decide⟩,⟨by decide,by decide⟩,⟨by decide,by decide⟩,⟨by simp [zeroR],fun x hx => by simp [zeroR] at hx⟩,⟨by simp [zeroR],fun x hx => by simp [zeroR] at hx⟩⟩,Nat.zero_le _,Nat.zero_le _,Nat.zero_le _,by show tot [] ≤ _; simp [tot]⟩
 cases ho : openText t with
 | none => rw [(dr_open ho).2]; exact hz
 | some s =>
  obtain ⟨_,hsz⟩ := Yk ho
  cases hb : drBody s with
  | none => rw [(X6 ho hb).2]; exact hz
  | some p =>
   obtain ⟨r,e⟩ := p
   have h := drBody_ok hb
   rw [drS_end ho hb]
   split
   ·have h4 := tot_le4 r.Rows fun x hx => by have := (h.rw_ x hx).1; have := h.pl; omega
    have h5 := h.lr
    have h6 := h.rl
    have h7 := h.kl
    exact ⟨h.gd (by omega),by show r.Level.Rows.length ≤ _; omega,by show r.Keys.length ≤ _; omega,by show r.Rows.length ≤ _; omega,by show tot r.Rows ≤ _; omega⟩
   ·exact hz
theorem law_DecodeReplay (s : ByteArray) (hg : Enc.gd s) : ConP MaxW Tryd.prog 6 [astr s] [] (B true) := by
 by_cases n1 : (1048576 : Int) < s.size
 ·have hb1 : decide ((1048576 : Int) < s.size) = true := decide_eq_true n1
  refine ConP.of Tryd.func6 J Tryd.ntmps6 J (fun E hE hT => ?_)
  refine zy (z1 J (zz (Qd (zy (z0 J (zx (Yy J J J) J (z9c J (by assumption) (Qe ?_))))))));refine Qz (Qm J (zy (z1 J (zz (Q8 (T_r (F_r ?_)))))))
  exact Ke J (Kf [] J J J)
 have hb1 : decide ((1048576 : Int) < s.size) = false := decide_eq_false n1
 have hip := I_DecodeReplay s (by omega)
 have hsp := S_DecodeReplay s (by omega)
 have iy := dr_in (t := s) (by omega)
 rw [dr_eq] at hip
 generalize drV (drS s) = y at hip hsp iy
 generalize drB (drS s) = b at hip hsp
 have hq1 := eq_Replay y y iy.gd
 rw [decide_eq_true rfl] at hq1
 obtain ⟨iy1,iy2,iy3,iy4,iy5⟩ := iy
 have hm_y := L_markReplay y 1 (by omega) (by omega) (by omega) (by omega) (by omega) (by omega)
 have hh := L_heldReplay y 1 (by omega) (by omega) (by omega) (by omega) (by omega) (by omega)
 have hk2 : decide ((1 : Int) + y.Level.Rows.length + tot y.Rows + y.Keys.length < 0) = false := decide_eq_false (by omega)
 refine ConP.of Tryd.func6 J Tryd.ntmps6 J (fun E hE hT => ?_)
 refine zy (z1 J (zz (Qd (zy (z0 J (zx (Yy J J J) J (z9c J (by assumption) (Qe ?_))))))));refine Qz (Ql J (Qh (Qz (zy (z0 J ?_)))));refine Ki (Yr J J (hsp) J J J) J ?_;refine zx (Vw J) J (ze J (ze J (Ki (Ks J J) J ?_)));refine K8 J J (z1 J (zz (zy (z0 J ?_))));refine AL.weak (st' := (⟨_,[(0,S s),(3,.o (.c (.ptr 3 0))),(4,B b),(20,S s)],[.row 1 (els y.Level.Rows),.row 1 (els y.Rows),.row 1 (els y.Keys),.box [.ref 0,iv y.Players,iv y.Seed,iv y.Every,.ref 1,.ref 2]]⟩ : St)) (Kb [0,1,2,3]) ?_;refine Xp Yi hE hT (hip) J J J J J J J (zx (Vw J) J (ze J (ze J (Ki (Ks J J) J ?_))));refine K8 J J (z1 J (zz (Qd (zy (z4 J J J (z4 J J J ?_))))));refine AL.weak (st' := (⟨_,[(0,S s),(3,.o (.c (.ptr 3 0))),(4,B b),(5,.o (.c (.ptr 7 0))),(6,B b),(24,.o (.ag [.ref 4,iv y.Players,iv y.Seed,iv y.Every,.ref 5,.ref 6])),(25,.o (.ag [.ref 0,iv y.Players,iv y.Seed,iv y.Every,.ref 1,.ref 2]))],[.row 1 (els y.Level.Rows),.row 1 (els y.Rows),.row 1 (els y.Keys),.box [.ref 0,iv y.Players,iv y.Seed,iv y.Every,.ref 1,.ref 2],.row 1 (els y.Level.Rows),.row 1 (els y.Rows),.row 1 (els y.Keys),.box [.ref 4,iv y.Players,iv y.Seed,iv y.Every,.ref 5,.ref 6]]⟩ : St)) (Kb [0,1,2,3,4,5,6,7]) ?_;refine zx (Qj J J (hq1) J) J ?_;refine zn J (z0 J (z5 J (z0 J (z5 J (z0 J (z5 J (zx (q_bneqR J J J J) J (zpF J (zz (Ql J ?_))))))))));refine Qh (Qz (zy (z1 J (zz (zy (z4 J J J (z0 J ?_)))))));refine AL.weak (st' := (⟨_,[(0,S s),(3,.o (.c (.ptr 3 0))),(4,B b),(5,.o (.c (.ptr 7 0))),(33,.o (.ag [.ref 4,iv y.Players,iv y.Seed,iv y.Every,.ref 5,.ref 6])),(34,I 1)],[.row 1 (els y.Level.Rows),.row 1 (els y.Rows),.row 1 (els y.Keys),.box [.ref 0,iv y.Players,iv y.Seed,iv y.Every,.ref 1,.ref 2],.row 1 (els y.Level.Rows),.row 1 (els y.Rows),.row 1 (els y.Keys),.box [.ref 4,iv y.Players,iv y.Seed,iv y.Every,.ref 5,.ref 6]]⟩ : St)) (Kb [0,1,2,3,4,5,6,7]) ?_;refine Xb (lo := [_,_,_]) (gs := [(0,.ag [.ref 0,iv y.Players,iv y.Seed,iv y.Every,.ref 1,.ref 2])]) (lo' := [_,_,_]) (new := []) [4,5,6] [(0,0,.ref 0),(0,4,.ref 1),(0,5,.ref 2)] (hm_y) J J J J J J J J J J J J J J J J J ?_;refine z1 J (zz (zy (z1 J (zz (zy (z4 J J J (z0 J ?_)))))));refine AL.weak (st' := (⟨_,[(0,S s),(3,.o (.c (.ptr 3 0))),(4,B b),(5,.o (.c (.ptr 7 0))),(7,I (1 + y.Level.Rows.length + tot y.Rows + y.Keys.length)),(36,.o (.ag [.ref 4,iv y.Players,iv y.Seed,iv y.Every,.ref 5,.ref 6])),(37,I 1)],[.row 1 (els y.Level.Rows),.row 1 (els y.Rows),.row 1 (els y.Keys),.box [.ref 0,iv y.Players,iv y.Seed,iv y.Every,.ref 1,.ref 2],.row 1 (els (markS y.Level.Rows 1)),.row 1 (els (markII y.Rows (1 + y.Level.Rows.length))),.row 1 (els (markS y.Keys (1 + y.Level.Rows.length + tot y.Rows))),.box [.ref 4,iv y.Players,iv y.Seed,iv y.Every,.ref 5,.ref 6]]⟩ : St)) (Kb [0,1,2,3,4,5,6,7]) ?_;refine zx (Qj J J (hh) J) J ?_;refine z1 J (zz (Qd (zy (z0 J (K0 J (zz (Ql J (Qh ?_))))))));refine Qz (Qd (zy (z0 J (z0 J (zx (q_neqR J J J J) J (zz (Ql J (Qh (Qz ?_)))))))));refine zy (z0 J ?_);refine AL.weak (st' := (⟨_,[(3,.o (.c (.ptr 3 0))),(4,B b),(5,.o (.c (.ptr 7 0))),(7,I (1 + y.Level.Rows.length + tot y.Rows + y.Keys.length)),(45,S s)],[.row 1 (els y.Level.Rows),.row 1 (els y.Rows),.row 1 (els y.Keys),.box [.ref 0,iv y.Players,iv y.Seed,iv y.Every,.ref 1,.ref 2],.row 1 (els (markS y.Level.Rows 1)),.row 1 (els (markII y.Rows (1 + y.Level.Rows.length))),.row 1 (els (markS y.Keys (1 + y.Level.Rows.length + tot y.Rows))),.box [.ref 4,iv y.Players,iv y.Seed,iv y.Every,.ref 5,.ref 6]]⟩ : St)) (Kb [0,1,2,3,4,5,6,7]) ?_;refine Xp Yi hE hT (hip) J J J J J J J (zx (Vw J) J (ze J (ze J (Ki (Ks J J) J ?_))));refine K8 J J (z1 J (zz (Qd (zy (z4 J J J (z4 J J J ?_))))));refine AL.weak (st' := (⟨_,[(4,B b),(5,.o (.c (.ptr 6 0))),(7,I (1 + y.Level.Rows.length + tot y.Rows + y.Keys.length)),(10,B b),(49,.o (.ag [.ref 7,iv y.Players,iv y.Seed,iv y.Every,.ref 8,.ref 9])),(50,.o (.ag [.ref 0,iv y.Players,iv y.Seed,iv y.Every,.ref 1,.ref 2]))],[.row 1 (els y.Level.Rows),.row 1 (els y.Rows),.row 1 (els y.Keys),.row 1 (els (markS y.Level.Rows 1)),.row 1 (els (markII y.Rows (1 + y.Level.Rows.length))),.row 1 (els (markS y.Keys (1 + y.Level.Rows.length + tot y.Rows))),.box [.ref 3,iv y.Players,iv y.Seed,iv y.Every,.ref 4,.ref 5],.row 1 (els y.Level.Rows),.row 1 (els y.Rows),.row 1 (els y.Keys)]⟩ : St)) (Kb [0,1,2,4,5,6,7,8,9,10]) ?_;refine zx (Qj J J (hq1) J) J ?_;refine zn J (z0 J (z5 J (z0 J (z5 J (z0 J (z5 J (zx (q_bneqR J J J J) J (zpF J (zz (Ql J ?_))))))))));refine Qh (Qz (zy (z1 J (zz (zy (z4 J J J (z0 J ?_)))))));refine AL.weak (st' := (⟨_,[(7,I (1 + y.Level.Rows.length + tot y.Rows + y.Keys.length)),(58,.o (.ag [.ref 0,iv y.Players,iv y.Seed,iv y.Every,.ref 1,.ref 2])),(59,I 1)],[.row 1 (els (markS y.Level.Rows 1)),.row 1 (els (markII y.Rows (1 + y.Level.Rows.length))),.row 1 (els (markS y.Keys (1 + y.Level.Rows.length + tot y.Rows)))]⟩ : St)) (Kb [3,4,5]) ?_;refine zx (Qj J J (hh) J) J ?_;refine z1 J (zz (Qd (zy (z0 J (K0 J (zz (Ql J (Qh ?_))))))));refine Qz (Qd (zy (z0 J (z0 J (zx (q_neqR J J J J) J (zz (Ql J (Qh (Qz ?_)))))))));refine zy (z1 J (zz (Q8 (F_r ?_))))
 exact Ke J (Kf [] J J J)
end
end Go.Proofs.YtcjclaoogdblbaaDoor
