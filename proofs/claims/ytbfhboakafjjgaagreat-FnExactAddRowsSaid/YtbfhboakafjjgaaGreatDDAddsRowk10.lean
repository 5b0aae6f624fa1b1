/-
  Parts of the proof (rules, data, and what functions of the program and of the reference return), among them: Random numbers, meeting bodies, shots and directions, in the program and in the reference; Steering and moving a body, in the program and in the reference.
  Conditions: those that each theorem names.
-/
import Derived.Lib.LazyBuf
import Derived.Test.YtbfhboakafjjgaaGreatDDAddsRowk6
import Derived.Test.YtbfhboakafjjgaaGreatDDAddsRowk8
import Derived.Test.YtbfhboakafjjgaaGreatDDAddsRowk9
set_option linter.unusedSimpArgs false
set_option linter.unusedVariables false
set_option maxRecDepth 8000
set_option maxHeartbeats 8000000
namespace Go.Proofs.YtbfhboakafjjgaaGreat
section
open Go.RowKit

def V1.tosr (q : Nat) : V1 → V1
 | .sb p n k => match Nat.beq p q with
  | true => match k with
   | 1 => .ref q
   | _ => .un
  | false => (V1.sb p n k).kill [q]
 | x => x.kill [q]
theorem Wk.sbrow {st : St} {q : Nat} {cs : List V1} {es : List (List T)} (hq : st.objs[q]? = some (.box cs)) (hs : sbE cs = some es) (hm : cs.length ≤ maxLen) : Wk st ⟨st.n,st.tmps.map fun t => (t.1,t.2.mapk (V1.tosr q)),(st.objs.map (Ob.mapk (V1.tosr q))).set q (.row 1 es)⟩ := by
 intro w H F a h1
 obtain ⟨hel,hes⟩ := sbE_ok cs es hs
 have hb := h1.obs q
 rw [Yy hq] at hb
 obtain ⟨g,t,vs,e1,e2,e3⟩ := hb
 have hsay := h1.ok.says q
 rw [e1] at hsay
 have hg : w.heap[g]? = some (.cells vs.toArray t (0,0)) := hsay
 have hqlt := Yz hq
 have hplain : ∀ (i : Nat) (e : List T),es[i]? = some e → ∃ u,vs[i]? = some u ∧ e = [.v u] ∧ u.oneCell' = true := fun i e hi => by
  obtain ⟨ps,u,h2,h3⟩ := hes i e hi
  have hil := Yz h2
  have hiv : vs[i]? = some (vs[i]'(by omega)) := List.getElem?_eq_getElem (by omega)
  obtain ⟨h4,h5⟩ := e3 i _ _ h2 hiv
  obtain ⟨h6,h7⟩ := RO.plain h4
  exact ⟨u,by rw [hiv,h6],h3,h7⟩
 obtain ⟨f,hf⟩ : ∃ f : Nat → Value,f = fun i => vs.getD i undef := ⟨_,rfl⟩
 have hOW : ∃ fp,OW w (.sl 1 es) (.slice (some ⟨g,0,none⟩) es.length vs.length) fp ∧ (∀ b ∈ fp,b = g) ∧ fp.Nodup := by
  refine ⟨g :: (List.replicate es.length [([] : List Nat)]).flatten.flatten,OW.sl es g 0 1 vs.length t vs.toArray (0,0) (fun i _ => vs.getD i undef) (List.replicate es.length [[]]) hg (.inl J) (by omega) (by omega) (by simp) (by omega) (fun e he => ?_) (by simp) (fun fs hfs => by rw [List.eq_of_mem_replicate hfs]; rfl) (fun i j hi hj => ?_) (fun i j e tt fs ff k1 k2 k3 k4 => ?_),?_,?_⟩
  ·obtain ⟨i,hi⟩ := List.getElem?_of_mem he
   obtain ⟨u,_,h3,_⟩ := hplain i e hi
   rw [h3]; rfl
  ·have h2 : i < vs.length := by omega
   have h3 : j = 0 := by omega
   subst h3
   simp [List.getD_eq_getElem?_getD,h2]
  ·obtain ⟨u,h3,h4,h5⟩ := hplain i e k1
   subst h4
   have hj : j = 0 := by have := Yz k2; simp at this; exact this
   subst hj
   simp at k2
   subst k2
   have hfs : fs = [[]] := List.eq_of_mem_replicate (Y0 k3)
   subst hfs
   simp at k4
   subst k4
   have h6 : vs.getD i undef = u := Yy h3
   rw [h6]
   exact .v u h5
  ·intro b hb
   simpa using hb
  ·simp
 obtain ⟨fp,hO,hfp,hnd⟩ := hOW
 have hkeep : Keeps w w [g] := ⟨rfl,rfl,rfl,Nat.le_refl _,fun _ _ _ => rfl⟩
 obtain ⟨hok,htn⟩ := h1.ok.turn (p := q) (fp := [g]) (by rw [e1]; rfl) hkeep (.ow (.sl 1 es) (.slice (some ⟨g,0,none⟩) es.length vs.length) fp) hO hnd trivial (fun b hb => .inl (by simp [hfp b hb]))
 have hone : ∀ x v,R1 w H F x v → R1 w (H.put q (.ow (.sl 1 es) (.slice (some ⟨g,0,none⟩) es.length vs.length) fp)) F (V1.tosr q x) v := fun x v hx => by
  cases x with
  | sb p n k =>
   simp only [V1.tosr]
   split
   ·rename_i hp
    have hpq := Nat.eq_of_beq_eq_true hp
    subst hpq
    split
    ·obtain ⟨g',t',vs',k1,k2,k3,k4⟩ := hx
     rw [e1] at k1
     simp only [Pc.box.injEq] at k1
     obtain ⟨rfl,rfl,rfl⟩ := k1
     have hn : n = es.length := by omega
     have hvn : vs.length = es.length := by omega
     rw [k4,hn]
     exact ⟨.sl 1 es,fp,by rw [Hs.put_self,hvn]⟩
    ·trivial
   ·exact R1.killed h1.ok htn hx
  | _ => exact R1.killed h1.ok htn hx
 refine ⟨_,h1.mapk (V1.tosr q) hone hok ((st.objs.map (Ob.mapk (V1.tosr q))).set q (.row 1 es)) (fun p => ?_),fun p b hb => ?_,htn.gh⟩
 ·by_cases hpq : p = q
  ·subst hpq
   rw [Yy (x := .row 1 es) (by simp [hqlt])]
   exact ⟨_,_,Hs.put_self _ _ _⟩
  ·rw [List.getD_eq_getElem?_getD,List.getElem?_set_ne (Ne.symm hpq),List.getElem?_map]
   have h2 := h1.obs p
   rw [List.getD_eq_getElem?_getD] at h2
   have h3 := Hs.put_ne H (.ow (.sl 1 es) (.slice (some ⟨g,0,none⟩) es.length vs.length) fp) hpq
   cases ho : st.objs[p]? with
   | none => rw [ho] at h2; exact h3.trans h2
   | some ob => rw [ho] at h2; exact RB.mapk hone h3 h2
 ·by_cases hpq : p = q
  ·subst hpq
   rw [Hs.put_self] at hb
   exact ⟨p,by rw [e1,hfp b hb]; simp [Pc.fp]⟩
  ·exact ⟨p,by rw [← Hs.put_ne H _ hpq]; exact hb⟩
section
variable {P : Program} {ops : Array Oper} {o : Oper} {st : St} {n : Nat} {t t' : TypeId} {y z : Operand} {ps qs : List Nat}
theorem q_slnil {kk : Nat} {es : List (List T)} {e : TypeId} {zs : List Value} {by_ : Nat} [hm : TyMake P t e zs by_] (ho : o.op = .binOp .eql t y z t') (hg : o.guard = none) (hy : st.ev y = .o (.c (.rd ps (.sl kk es)))) (hz : st.ev z = .o (.c (.rd qs (.v (.slice none 0 0))))) (hne : 0 < es.length) : Qt P ops o st (B false) [] n :=
 .pure hg fun a w H F hr => ⟨.bool false,by
  have h2 := hr.plain hz
  have h1 : RO w (inP H F ps) (.sl kk es) (a.eval y) := hr.v1 hy
  obtain ⟨b,o',c,hv,_⟩ := RO.at_ h1 (i := 0) (List.getElem?_eq_getElem hne)
  simp [execOp,ho,h2,hv,eqGuard,Lib.run_eql_slice_nil (P := P) (h := hm.slice)],plainV _ rfl⟩
end
end
section
open Go.RowKit

def varN (n : Nat) : List UInt8 := if n < 128 then [UInt8.ofNat n] else UInt8.ofNat (n % 128 + 128) :: varN (n / 128)
termination_by n
decreasing_by omega
def encVar (n : Int) : List UInt8 := if 0 ≤ n ∧ n ≤ 1099511627775 then varN n.toNat else []
theorem Kv {n : Nat} (h : n < 128) : varN n = [UInt8.ofNat n] := by rw [varN,if_pos h]
theorem varN_big {n : Nat} (h : ¬ n < 128) : varN n = UInt8.ofNat (n % 128 + 128) :: varN (n / 128) := by rw [varN,if_neg h]
theorem varN_len (n : Nat) : 1 ≤ (varN n).length ∧ (varN n).length ≤ n + 1 := by
 induction n using Nat.strongRecOn with
 | ind n ih =>
  by_cases h : n < 128
  ·rw [Kv h]; simp
  ·rw [varN_big h]
   have := ih (n / 128) (by omega)
   simp only [List.length_cons]
   omega
theorem varN_step {acc : List UInt8} {m : Nat} {l : List UInt8} (h : acc ++ varN m = l) (hm : ¬ m < 128) {x : UInt8} (hx : x = UInt8.ofNat (m % 128 + 128)) : (acc ++ [x]) ++ varN (m / 128) = l := by
 rw [← h,varN_big hm,hx]; simp
theorem varN_end {acc : List UInt8} {m : Nat} {l : List UInt8} (h : acc ++ varN m = l) (hm : m < 128) {x : UInt8} (hx : x = UInt8.ofNat m) : acc ++ [x] = l := by
 rw [← h,Kv hm,hx]

theorem Xt (n : Int) : Con Tryz.prog 59 [] [ai n] [] (S (bs (encVar n))) := by
 refine Con.of Tryz.func59 J Tryz.ntmps59 J (fun E => ?_)
 refine zy (z1 J (zz (Qd (zy (z0 J (zx (Z5 J J J J) J (z0 J ?_)))))));refine zx (Qt.grdF J J J .stop (fun hgrd => Qa J J J)) J ?_;refine zx (Qt.grdF J J J (.hit .stop) (fun hgrd => Zy J J J J)) J ?_;refine zx (Z8 J J J J) J (zz ?_)
 refine Xb J (fun h => ?_) (fun h => ?_)
 ·simp only [Bool.or_eq_true,decide_eq_true_eq] at h
  refine zy (z1 J (zz (Xa (T_r (F_r ?_)))))
  exact Xp J J (X6 [] (by decide) J J (S_eq (by rw [encVar,if_neg (by omega)])))
 simp only [Bool.or_eq_false_iff,decide_eq_false_iff_not] at h
 have he : encVar n = varN n.toNat := by rw [encVar,if_pos (by omega)]
 rw [he]
 refine Qh (Q0 (zy (z1 J (zz (Qd (Qk ?_))))))
 refine AWP.pre ?_ (W_nil 3 1 J)
 refine A_lq (fun m__ st => ∃ (m : Nat) (acc : List UInt8),m = m__ ∧ (acc ++ varN m = varN n.toNat ∧ acc.length + m ≤ 1099511627775) ∧ st = (⟨_,[(0,I m),(3,.o (.c (.ref 0)))],[.row 1 (bE acc)]⟩ : St)) _ ⟨(fun (m : Nat) (acc : List UInt8) => (⟨_,[(0,I m),(3,.o (.c (.ref 0)))],[.row 1 (bE acc)]⟩ : St)) (n.toNat) ([]),⟨n.toNat,[],J,⟨J,by simp <;> omega⟩,J⟩,X8 [0] (by decide) J (J) (.cons (Xx (by omega)) (.c J (.nil)))⟩ ?_
 rintro m_A _ ⟨m,acc,hk_A,hp_A,rfl⟩
 refine Qd (zy (z0 J (zx (q_geq J J J J) J (zz ?_))))
 refine Xb J (fun h5 => ?_) (fun h5 => ?_)
 ·have h5 : ¬ m < 128 := by have := of_decide_eq_true h5; omega
  have hl := Ye acc
  refine Qh (Q0 (Qk (zy (z0 J (z0 J (zx (Z9 J J J J (by omega)) J (z7 J (by omega) (zx (Zt J J J J (K0 (by omega))) J (M1 (Zm J J J J J J) J J ?_)))))))));refine M_appsb J J J J J J J J J J (by omega) (by omega) ?_;refine z1 J (zz (Qc (z0 J (zx (q_quo J J J J (by omega)) J (z1 J (Qe (Q1 (Q0 ?_))))))))
  refine ⟨_,(by omega),(fun (m : Nat) (acc : List UInt8) => (⟨_,[(0,I m),(3,.o (.c (.ref 0)))],[.row 1 (bE acc)]⟩ : St)) (m / 128) (acc ++ [UInt8.ofNat ((m : Int) % 128 + 128).toNat]),⟨m / 128,acc ++ [UInt8.ofNat ((m : Int) % 128 + 128).toNat],J,⟨varN_step hp_A.1 h5 (by congr 1 <;> omega),by have := hp_A.2; simp <;> omega⟩,J⟩,X8 [0] (by decide) J (Ki (bE_snoc _ _ (by omega)).symm) (.cons (Xx (by omega)) (.c J (.nil)))⟩
 ·have h5 : m < 128 := by have := of_decide_eq_false h5; omega
  have hl := Ye acc
  have hb := hp_A.2
  refine Q9 (T_x (T_x (Xl (Q0 (zy (z0 J (z0 J (zx (Zt J J J J (K0 (by omega))) J (M1 (Zm J J J J J J) J J ?_)))))))));refine M_appsb J J J J J J J J J J (by omega) (by omega) ?_;refine z1 J (zz (zy (z0 J (zx (q_bstr J J J J) J (z1 J (zz (Xa (F_r ?_))))))))
  exact Xp J J (X6 [] (by decide) J J (S_eq (congrArg bs (varN_end hp_A.1 h5 (by congr 1)))))
theorem X3 (n : Int) : Con Tryz.prog 120 [] [ai n] [] (S (bs (encVar n))) := by
 refine Con.of Tryz.func120 J Tryz.ntmps120 J (fun E => ?_)
 refine zy (z1 J (zz (Qd (zy (z0 J ?_)))));refine zx (Qj J J (S_in n 0 1099511627775) J) J ?_;refine zn J (zz ?_)
 refine Xb J (fun h => ?_) (fun h => ?_)
 ·have h : ¬ (0 ≤ n ∧ n ≤ 1099511627775) := by rw [← Y3]; simpa using h
  refine zy (z1 J (zz (Xa (T_r (F_r ?_)))))
  exact Xp J J (X6 [] (by decide) J J (S_eq (by rw [encVar,if_neg h])))
 have h : 0 ≤ n ∧ n ≤ 1099511627775 := by rw [← Y3]; simpa using h
 have he : encVar n = varN n.toNat := by rw [encVar,if_pos h]
 rw [he]
 refine Qh (Q0 (zy (M1 (Zn J J J) J J (z1 J (zz (Qd (Qk ?_)))))))
 refine A_lq (fun m__ st => ∃ (m : Nat) (acc : List UInt8),m = m__ ∧ (acc ++ varN m = varN n.toNat ∧ acc.length + m ≤ 1099511627775) ∧ st = (⟨_,[(0,I m),(3,.o (.c (.ref 0)))],[.row 1 (bE acc)]⟩ : St)) _ ⟨(fun (m : Nat) (acc : List UInt8) => (⟨_,[(0,I m),(3,.o (.c (.ref 0)))],[.row 1 (bE acc)]⟩ : St)) (n.toNat) ([]),⟨n.toNat,[],J,⟨J,by simp <;> omega⟩,J⟩,X8 [0] (by decide) J (J) (.cons (Xx (by omega)) (.c J (.nil)))⟩ ?_
 rintro m_A _ ⟨m,acc,hk_A,hp_A,rfl⟩
 refine Qd (zy (z0 J (zx (Zy J J J J) J (zz ?_))))
 refine Xb J (fun h5 => ?_) (fun h5 => ?_)
 ·have h5 : ¬ m < 128 := by have := of_decide_eq_true h5; omega
  have hl := Ye acc
  have hb := hp_A.2
  have hb1 : (m : Int).toNat &&& (127 : Int).toNat = m % 128 := Nat.and_two_pow_sub_one_eq_mod m 7
  have hb2 : ((m % 128 : Nat) : Int).toNat ||| (128 : Int).toNat = m % 128 + 128 := by
   have := Nat.two_pow_add_eq_or_of_lt (i := 7) (b := m % 128) (by omega) 1
   rw [Nat.or_comm]
   show 128 ||| m % 128 = _
   rw [← this]; omega
  have hb3 : (m : Int) / 2 ^ (7 : Int).toNat = (m / 128 : Nat) := by
   show (m : Int) / 128 = _
   omega
  refine Qh (Q0 (Qk (zy (z0 J (z0 J (zx (q_bandK J J J J (by assumption) (by omega)) J (zx (q_borK J J J J (by assumption) (by omega)) J (zx (Zt J J J J (K0 (by omega))) J (M1 (Zm J J J J J J) J J ?_)))))))));refine M_appsb J J J J J J J J J J (by omega) (by omega) ?_;refine z1 J (zz (Qc (z0 J (zx (q_shrK J J J J (by assumption) ⟨by omega,by omega,by decide⟩) J (z1 J (Qe (Q1 (Q0 ?_))))))))
  refine ⟨_,(by omega),(fun (m : Nat) (acc : List UInt8) => (⟨_,[(0,I m),(3,.o (.c (.ref 0)))],[.row 1 (bE acc)]⟩ : St)) (m / 128) (acc ++ [UInt8.ofNat ((m % 128 + 128 : Nat) : Int).toNat]),⟨m / 128,acc ++ [UInt8.ofNat ((m % 128 + 128 : Nat) : Int).toNat],J,⟨varN_step hp_A.1 h5 (by congr 1),by simp <;> omega⟩,J⟩,X8 [0] (by decide) J (Ki (bE_snoc _ _ (by omega)).symm) (.c J (.c J (.nil)))⟩
 ·have h5 : m < 128 := by have := of_decide_eq_false h5; omega
  have hl := Ye acc
  have hb := hp_A.2
  refine Q9 (T_x (T_x (Xl (Q0 (zy (z0 J (z0 J (zx (Zt J J J J (K0 (by omega))) J (M1 (Zm J J J J J J) J J ?_)))))))));refine M_appsb J J J J J J J J J J (by omega) (by omega) ?_;refine zx (q_bstr J J J J) J (z1 J (zz (Xa (F_r ?_))))
  exact Xp J J (X6 [] (by decide) J J (S_eq (congrArg bs (varN_end hp_A.1 h5 (by congr 1)))))

theorem varN_pow : ∀ (j n : Nat),n < 128 ^ (j + 1) → (varN n).length ≤ j + 1
 | 0,n,h => by rw [Kv (by omega)]; simp
 | j + 1,n,h => by
  by_cases hn : n < 128
  ·rw [Kv hn]; simp
  ·rw [varN_big hn,List.length_cons]
   have := varN_pow j (n / 128) (by rw [Nat.pow_succ] at h; omega)
   omega
theorem Yu (n : Int) : (encVar n).length ≤ 6 := by
 unfold encVar
 split
 ·exact varN_pow 5 _ (by omega)
 ·simp
def signless (n : Int) : Int := if -549755813888 ≤ n ∧ n ≤ 549755813887 then (if 0 ≤ n then 2 * n else -2 * n - 1) else -1
theorem I_Signless (n : Int) (hn : I64 n) : Con Tryz.prog 116 [] [ai n] [] (I (signless n)) := by
 obtain ⟨hn1,hn2⟩ := hn
 refine Con.of Tryz.func116 J Tryz.ntmps116 J (fun E => ?_)
 refine zy (z1 J (zz (Qd (zy (z0 J (zx (Z5 J J J J) J (z0 J ?_)))))));refine zx (Qt.grdF J J J .stop (fun hgrd => Qa J J J)) J ?_;refine zx (Qt.grdF J J J (.hit .stop) (fun hgrd => Zy J J J J)) J ?_;refine zx (Z8 J J J J) J (zz ?_)
 refine Xb J (fun h => ?_) (fun h => ?_)
 ·simp only [Bool.or_eq_true,decide_eq_true_eq] at h
  refine zy (z1 J (zz (Xa (T_r (F_r ?_)))))
  exact Xp J J (X6 [] (by decide) J J (Xx (by rw [signless,if_neg (by omega)])))
 simp only [Bool.or_eq_false_iff,decide_eq_false_iff_not] at h
 refine Qh (Q0 (Qd (zy (z0 J (zx (q_geq J J J J) J (zz ?_))))))
 refine Xb J (fun h1 => ?_) (fun h1 => ?_)
 ·have h1 := of_decide_eq_true h1
  refine zy (z0 J (zx (Z6 J J J J (by omega)) J (z1 J (zz (Xa (T_r (F_r ?_)))))))
  exact Xp J J (X6 [] (by decide) J J (Xx (by rw [signless,if_pos (by omega),if_pos (by omega)])))
 ·have h1 := of_decide_eq_false h1
  refine Qh (Q0 (zy (z0 J (zx (Z6 J J J J (by omega)) J (z8 J (by omega) (z1 J (zz (Xa (F_r ?_)))))))))
  exact Xp J J (X6 [] (by decide) J J (Xx (by rw [signless,if_pos (by omega),if_neg (by omega)])))
theorem S_Signless (n : Int) (hn : I64 n) : Con Tryz.prog 149 [] [ai n] [] (I (signless n)) := by
 obtain ⟨hn1,hn2⟩ := hn
 refine Con.of Tryz.func149 J Tryz.ntmps149 J (fun E => ?_)
 refine zy (z1 J (zz (Qd (zy (z0 J ?_)))));refine zx (Qj J J (S_in n (-549755813888) 549755813887) J) J ?_;refine zn J (zz ?_)
 refine Xb J (fun h => ?_) (fun h => ?_)
 ·have h : ¬ (-549755813888 ≤ n ∧ n ≤ 549755813887) := by rw [← Y3]; simpa using h
  refine zy (z1 J (zz (Xa (T_r (F_r ?_)))))
  exact Xp J J (X6 [] (by decide) J J (Xx (by rw [signless,if_neg (by omega)])))
 have h : -549755813888 ≤ n ∧ n ≤ 549755813887 := by rw [← Y3]; simpa using h
 refine Qh (Q0 (Qd (zy (z0 J (zx (q_geq J J J J) J (zz ?_))))))
 refine Xb J (fun h1 => ?_) (fun h1 => ?_)
 ·have h1 := of_decide_eq_true h1
  refine zy (z0 J (zx (Z6 J J J J (by omega)) J (z1 J (zz (Xa (T_r (F_r ?_)))))))
  exact Xp J J (X6 [] (by decide) J J (Xx (by rw [signless,if_pos (by omega),if_pos (by omega)])))
 ·have h1 := of_decide_eq_false h1
  refine Qh (Q0 (zy (z0 J (zx (Z6 J J J J (by omega)) J (z8 J (by omega) (z1 J (zz (Xa (F_r ?_)))))))))
  exact Xp J J (X6 [] (by decide) J J (Xx (by rw [signless,if_pos (by omega),if_neg (by omega)])))
def packText (s : ByteArray) : ByteArray := bs (encVar s.size) ++ s
theorem Zg (s : ByteArray) : (packText s).size ≤ s.size + 6 := by
 unfold packText
 rw [cat_size,Yi]
 have := Yu s.size
 omega
theorem I_PackText (s : ByteArray) (hs : s.size ≤ 1099511627776) : Con Tryz.prog 114 [] [astr s] [] (S (packText s)) := by
 have h1 := Yi (encVar s.size)
 have h2 := Yu s.size
 refine Con.of Tryz.func114 J Tryz.ntmps114 J (fun E => ?_)
 refine zy (z1 J (zz (zy (z0 J (zx (Z3 J J J) J ?_)))));refine zx (Qj J J (Xt s.size) J) J ?_;refine z0 J (zx (q_cat J J J J (by omega)) J (z1 J (zz (Xa (F_r ?_)))))
 exact Xp J J (X6 [] (by decide) J J J)
theorem S_PackText (s : ByteArray) (hs : s.size ≤ 1099511627776) : Con Tryz.prog 148 [] [astr s] [] (S (packText s)) := by
 have h1 := Yi (encVar s.size)
 have h2 := Yu s.size
 refine Con.of Tryz.func148 J Tryz.ntmps148 J (fun E => ?_)
 refine zy (z1 J (zz (zy (z0 J (zx (Z3 J J J) J ?_)))));refine zx (Qj J J (X3 s.size) J) J ?_;refine z0 J (zx (q_cat J J J J (by omega)) J (z1 J (zz (Xa (F_r ?_)))))
 exact Xp J J (X6 [] (by decide) J J J)
def packK (xs : List Int) (k : Nat) : List UInt8 := encVar xs.length ++ (xs.take k).flatMap fun x => encVar (signless x)
def packInts (xs : List Int) : ByteArray := if xs.all (fun x => decide (0 ≤ signless x)) then bs (packK xs xs.length) else bs []
theorem packK_succ {xs : List Int} {k : Nat} (h : k < xs.length) : packK xs (k + 1) = packK xs k ++ encVar (signless xs[k]) := by
 unfold packK
 rw [List.take_succ_eq_append_getElem h,List.flatMap_append,List.append_assoc]
 simp
theorem packK_len (xs : List Int) : ∀ k,k ≤ xs.length → (packK xs k).length ≤ 6 * k + 6
 | 0,_ => by simp [packK]; exact Yu _
 | k + 1,h => by
  rw [packK_succ (by omega),List.length_append]
  have := packK_len xs k (by omega)
  have := Yu (signless xs[k])
  omega
theorem packInts_size (xs : List Int) : (packInts xs).size ≤ 6 * xs.length + 6 := by
 unfold packInts
 split
 ·rw [Yi]; exact packK_len xs _ (Nat.le_refl _)
 ·rw [Yi]; simp
theorem I_PackInts (xs : List Int) (hg : Enc.gd xs) (hL : xs.length ≤ 1073741824) : Con Tryz.prog 64 [] [al xs] [] (S (packInts xs)) := by
 have hlx := Yq xs
 have h1 := Yi (encVar (els xs).length)
 have h2 := Yu (els xs).length
 refine Con.of Tryz.func64 J Tryz.ntmps64 J (fun E => ?_)
 refine zy (z1 J (zz (zy (z0 J (zx (Z0 J J J) J ?_)))));refine zx (Qj J J (Xt (els xs).length) J) J ?_;refine M1 (q_strb J J J (by omega)) J J (z1 J (zz (Qd (zy (z0 J (zx (Z0 J J J) J (z0 J (zz ?_))))))));refine Qk ?_
 refine A_lq (fun m st => ∃ k : Nat,k + m = xs.length ∧ ((xs.take k).all (fun x => decide (0 ≤ signless x)) = true) ∧ st = (⟨_,[(3,.o (.c (.ref 0))),(11,L xs),(12,I (els xs).length),(13,I k)],[.row 1 (bE (packK xs k))]⟩ : St)) (xs.length) ⟨(fun k : Nat => (⟨_,[(3,.o (.c (.ref 0))),(11,L xs),(12,I (els xs).length),(13,I k)],[.row 1 (bE (packK xs k))]⟩ : St)) 0,⟨0,by omega,by simp,J⟩,X8 [0] (by decide) J (Ki (by rw [Yh,hlx]; simp [packK])) (.c J (.c J (.c J (.c J (.nil)))))⟩ ?_
 rintro m_A _ ⟨k,hk_A,hp_A,rfl⟩
 refine zy (zx (Z5 J J J J) J (zz (Qd ?_)))
 refine Xb J (fun h => ?_) (fun h => ?_)
 ·have h3 : k < xs.length := by have := of_decide_eq_true h; omega
  have hat := Yo h3
  have hb1 := Ye (packK xs k)
  have hb2 := packK_len xs k (by omega)
  have hb3 := Yi (encVar (signless xs[k]))
  have hb4 := Yu (signless xs[k])
  refine Qh (Q0 (Qd (Qk (zy (zx (Q2 J J J J (by omega) (by assumption) J) J (zx (Z4 J J J J) J (z1 J (zz (Qd ?_)))))))));refine Qc (z0 J ?_);refine zx (Qj J J (I_Signless xs[k] (hg.2 _ (List.getElem_mem h3))) J) J ?_;refine z1 J (zz (Qd (zy (z0 J (zx (Z5 J J J J) J (zz ?_))))))
  refine Xb J (fun h4 => ?_) (fun h4 => ?_)
  ·refine zy (z1 rfl (zz (Xa (T_r (B_r (T_r (T_r ?_)))))))
   refine B_r (T_r (F_r ?_))
   exact Xp J J (X6 [] (by decide) J J (S_eq (by rw [packInts,all_no h3 (by simpa using h4)]; rfl)))
  ·refine Qh (Q0 (Qc (z0 rfl (z0 rfl ?_))))
   refine zx (Qj J J (Xt (signless xs[k])) J) J ?_;refine Xz J J J J J J J (by omega) (by omega) ?_;refine z1 J (Qe (Q1 (Q0 (Qc (z7 J (by omega) (z0 J (zz ?_)))))))
   exact ⟨xs.length - (k + 1),by omega,(fun k : Nat => (⟨_,[(3,.o (.c (.ref 0))),(11,L xs),(12,I (els xs).length),(13,I k)],[.row 1 (bE (packK xs k))]⟩ : St)) (k + 1),⟨k + 1,by omega,Yb hp_A h3 (by simpa using h4),J⟩,X8 [0] (by decide) J (Ki (by rw [Yh,Yd,packK_succ h3])) (.c J (.c J (.c J (.c J (.nil)))))⟩
 ·have h3 : ¬ ((k : Int) < (els xs).length) := of_decide_eq_false h
  have hk : k = xs.length := by omega
  refine Q9 (T_x (T_x (Xl (Q0 (zy (z0 J (zx (q_bstr J J J J) J (z1 J (zz ?_)))))))));refine Xa (F_r ?_)
  exact Xp J J (X6 [] (by decide) J J (S_eq (by rw [packInts,all_end hp_A (by omega),hk]; rfl)))
theorem S_PackInts (xs : List Int) (hg : Enc.gd xs) (hL : xs.length ≤ 1073741824) : Con Tryz.prog 123 [] [al xs] [] (S (packInts xs)) := by
 have hlx := Yq xs
 refine Con.of Tryz.func123 J Tryz.ntmps123 J (fun E => ?_)
 refine zy (z1 J (zz (zy (z0 J (zx (Z0 J J J) J ?_)))));refine zx (Qj J J (X3 (els xs).length) J) J ?_;refine z1 J (zz (Qd (zy (z1 J (zz (Qk ?_))))))
 refine A_lq (fun m st => ∃ k : Nat,k + m = xs.length ∧ ((xs.take k).all (fun x => decide (0 ≤ signless x)) = true) ∧ st = (⟨_,[(0,L xs),(3,S (bs (packK xs k))),(4,I k)],[]⟩ : St)) (xs.length) ⟨(fun k : Nat => (⟨_,[(0,L xs),(3,S (bs (packK xs k))),(4,I k)],[]⟩ : St)) 0,⟨0,by omega,by simp,J⟩,X8 [] (by decide) J (J) (.c J (.cons (S_eq (by rw [hlx]; simp [packK])) (.c J (.nil))))⟩ ?_
 rintro m_A _ ⟨k,hk_A,hp_A,rfl⟩
 refine Qd (zy (z0 J (z0 J (zx (Z0 J J J) J (zx (Z5 J J J J) J (zz ?_))))))
 refine Xb J (fun h => ?_) (fun h => ?_)
 ·have h3 : k < xs.length := by have := of_decide_eq_true h; omega
  have hat := Yo h3
  have hb1 := Yi (packK xs k)
  have hb2 := packK_len xs k (by omega)
  have hb3 := Yi (encVar (signless xs[k]))
  have hb4 := Yu (signless xs[k])
  have hc := S_Signless xs[k] (hg.2 _ (List.getElem_mem h3))
  refine Qh (Q0 (Qd (Qk (Qd (zy (z0 J (z0 J (zx (Q2 J J J J (by omega) (by assumption) J) J (zx (Z4 J J J J) J ?_)))))))));refine zx (Qj J J (hc) J) J ?_;refine zx (Z5 J J J J) J (zz ?_)
  refine Xb J (fun h4 => ?_) (fun h4 => ?_)
  ·refine zy (z1 rfl (zz (Xa (T_r (B_r (T_r (T_r ?_)))))))
   refine B_r (T_r (F_r ?_))
   exact Xp J J (X6 [] (by decide) J J (S_eq (by rw [packInts,all_no h3 (by simpa using h4)]; rfl)))
  ·refine Qh (Q0 (Qc (z0 rfl (z0 rfl (z0 rfl ?_)))))
   refine zx (Q2 J J J J (by omega) (by assumption) J) J (zx (Z4 J J J J) J ?_);refine zx (Qj J J (hc) J) J ?_;refine zx (Qj J J (X3 (signless xs[k])) J) J ?_;refine zx (q_cat J J J J (by omega)) J (z1 J (Qe (Q1 (Q0 (Qc (z0 J (z7 J (by omega) (z1 J (zz ?_)))))))))
   exact ⟨xs.length - (k + 1),by omega,(fun k : Nat => (⟨_,[(0,L xs),(3,S (bs (packK xs k))),(4,I k)],[]⟩ : St)) (k + 1),⟨k + 1,by omega,Yb hp_A h3 (by simpa using h4),J⟩,X8 [] (by decide) J (J) (.c J (.cons (S_eq (by rw [Yg,packK_succ h3])) (.c J (.nil))))⟩
 ·have h3 : ¬ ((k : Int) < (els xs).length) := of_decide_eq_false h
  have hk : k = xs.length := by omega
  refine Q9 (T_x (T_x (Xl (Q0 (zy (z0 J (z1 J (zz (Xa ?_)))))))));refine F_r ?_
  exact Xp J J (X6 [] (by decide) J J (S_eq (by rw [packInts,all_end hp_A (by omega),hk]; rfl)))
end
section
open Go.RowKit

theorem W_pre {st st' : St} {f : List (Nat × V) → St} (h : Wk st st') (k : ∃ l,Wk st' (f l)) : ∃ l,Wk st (f l) := k.imp fun _ hl => h.trans hl
theorem row2b {k : Nat} {o : Ob} {a b : List (List T)} (h : a = b) : [o,Ob.row k a] = [o,Ob.row k b] := by rw [h]
def bodyInts (b : TBody) : List Int := [b.Kind,b.Owner,b.X,b.Y,b.VX,b.VY,b.Aim,b.Life,b.Timer]
def worldInts (w : TWorld) : List Int := ([w.Tick,w.Seed,(w.Scores.length : Int)] ++ w.Scores) ++ w.Bodies.flatMap bodyInts
noncomputable def worldBytes (w : TWorld) : ByteArray := if worldOk w = true then packInts (worldInts w) else ⟨#[]⟩
theorem Yn {α : Type} [Enc α] (xs ys : List α) : els (xs ++ ys) = els xs ++ els ys := List.map_append
theorem flat_snoc {bs : List TBody} {k : Nat} (h : k < bs.length) : (bs.take (k + 1)).flatMap bodyInts = (bs.take k).flatMap bodyInts ++ bodyInts bs[k] := by
 rw [List.take_succ_eq_append_getElem h,List.flatMap_append]
 simp
theorem flat_len (bs : List TBody) : ∀ k,k ≤ bs.length → ((bs.take k).flatMap bodyInts).length = 9 * k
 | 0,_ => by simp
 | k + 1,h => by
  rw [flat_snoc (by omega),List.length_append,flat_len bs k (by omega)]
  simp [bodyInts]
  omega
theorem flat_gd {bs : List TBody} (hg : ∀ b ∈ bs,Enc.gd b) : ∀ x ∈ bs.flatMap bodyInts,I64 x := fun x hx => by
 obtain ⟨b,hb,hx⟩ := List.mem_flatMap.1 hx
 obtain ⟨b1,b2,b3,b4,b5,b6,b7,b8,b9⟩ := hg b hb
 simp only [bodyInts,List.mem_cons,List.not_mem_nil,or_false] at hx
 rcases hx with rfl | rfl | rfl | rfl | rfl | rfl | rfl | rfl | rfl <;> assumption
theorem I_bodyInts (b : TBody) : Con Tryz.prog 63 [] [ag b] [.row 1 (els (bodyInts b))] (.o (.c (.ref 0))) := by
 refine Con.of Tryz.func63 J Tryz.ntmps63 J (fun E => ?_)
 refine zy (M1 (Qq J J J J) J J (z1 J (zz (zy (z2 J J J (z3 J (z2 J J J (z3 J ?_))))))));refine z2 J J J (z3 J (z2 J J J (z3 J (z2 J J J (z3 J (z2 J J J (z3 J (z2 J J J (z3 J (z2 J J J (z3 J ?_)))))))))));refine z2 J J J (z3 J (M1 (Zm J J J J J J) J J (z1 J (zz (Xa (F_r ?_))))))
 exact Xp J J (W_pre (Wk.sbrow (q := 1) J J (Nat.le_of_ble_eq_true J)) (X6 [1] (by decide) J J J))
theorem I_WorldBytes (x : TWorld) (hg : Enc.gd x) : Con Tryz.prog 21 [] [ag x] [] (S (worldBytes x)) := by
 have hc := I_WorldOk x hg
 obtain ⟨gL,gT,gS,gSc,gB⟩ := hg
 cases ho : worldOk x with
 | false =>
  rw [ho] at hc
  rw [show worldBytes x = ⟨#[]⟩ by rw [worldBytes,ho]; exact if_neg (by decide)]
  refine Con.of Tryz.func21 J Tryz.ntmps21 J (fun E => ?_)
  refine zy (M1 (Qq J J J J) J J (z1 J (zz (Qd (zy (z4 J J J ?_))))));refine zx (Qj J J (hc) J) J ?_;refine zn J (zz (Qm J (zy (z1 J (zz (Xa (T_r (F_r ?_))))))))
  exact Xp J J (X6 [] (by decide) J J J)
 | true =>
  rw [ho] at hc
  rw [show worldBytes x = packInts (worldInts x) by rw [worldBytes,ho]; exact if_pos rfl]
  obtain ⟨_,_,_,hn,_,hb,_⟩ := Ky ho
  have hls := Yq x.Scores
  have hlb := Yq x.Bodies
  refine Con.of Tryz.func21 J Tryz.ntmps21 J (fun E => ?_)
  refine zy (M1 (Qq J J J J) J J (z1 J (zz (Qd (zy (z4 J J J ?_))))));refine zx (Qj J J (hc) J) J ?_;refine zn J (zz (Ql J (Qh (Q0 (zy (z2 J J J (z3 J (z2 J J J (z3 J ?_)))))))));refine z2 J J J (z3 J (zx (Z0 J J J) J (M1 (Zm J J J J J J) J J (z1 J (zz (zy (z0 J (z2 J J J (z3 J ?_)))))))))
  have hl3 : (els [x.Tick,x.Seed,((els x.Scores).length : Int)]).length = 3 := rfl
  refine AL.weak (Wk.sbrow (q := 1) (es := els [x.Tick,x.Seed,((els x.Scores).length : Int)]) J J (Nat.le_of_ble_eq_true J)) ?_;refine AL.weak (st' := (⟨_,[(1,.o (.c (.ptr 0 0))),(17,.o (.c (.ref 1))),(19,L x.Scores)],[.box ((Enc.e x).map (V1.rd [])),.row 1 (els [x.Tick,x.Seed,((els x.Scores).length : Int)])]⟩ : St)) (W_gj [0,1] J) ?_;refine M_app J J J J J J J J J J (Yr _) (els_k _) (by omega) (by omega) ?_;refine z1 J (zz (Qd (zy (z2 J J J (z3 J (zx (Z0 J J J) J (z0 J (zz ?_))))))));refine Qk ?_
  have hini : els (([x.Tick,x.Seed,(x.Scores.length : Int)] ++ x.Scores) ++ (x.Bodies.take 0).flatMap bodyInts) = els [x.Tick,x.Seed,((els x.Scores).length : Int)] ++ els x.Scores := by rw [List.take_zero,List.flatMap_nil,List.append_nil,Yn,hls]
  refine A_lq (fun m st => ∃ k : Nat,k + m = x.Bodies.length ∧ (True) ∧ st = (⟨_,[(1,.o (.c (.ptr 0 0))),(3,.o (.c (.ref 1))),(22,L x.Bodies),(23,I (els x.Bodies).length),(24,I k)],[.box ((Enc.e x).map (V1.rd [])),.row 1 (els (([x.Tick,x.Seed,(x.Scores.length : Int)] ++ x.Scores) ++ (x.Bodies.take k).flatMap bodyInts))]⟩ : St)) (x.Bodies.length) ⟨(fun k : Nat => (⟨_,[(1,.o (.c (.ptr 0 0))),(3,.o (.c (.ref 1))),(22,L x.Bodies),(23,I (els x.Bodies).length),(24,I k)],[.box ((Enc.e x).map (V1.rd [])),.row 1 (els (([x.Tick,x.Seed,(x.Scores.length : Int)] ++ x.Scores) ++ (x.Bodies.take k).flatMap bodyInts))]⟩ : St)) 0,⟨0,by omega,trivial,J⟩,X8 [0,1] (by decide) J (row2b hini) (.c J (.c J (.c J (.c J (.c J (.nil))))))⟩ ?_
  rintro m_A _ ⟨k,hk_A,hp_A,rfl⟩
  have hla := Yq (([x.Tick,x.Seed,(x.Scores.length : Int)] ++ x.Scores) ++ (x.Bodies.take k).flatMap bodyInts)
  have hfl := flat_len x.Bodies k (by omega)
  have hlc : (([x.Tick,x.Seed,(x.Scores.length : Int)] ++ x.Scores) ++ (x.Bodies.take k).flatMap bodyInts).length = 3 + x.Scores.length + 9 * k := by
   rw [List.length_append,List.length_append,hfl]; rfl
  refine zy (zx (Z5 J J J J) J (zz (Qd ?_)))
  refine Xb J (fun h => ?_) (fun h => ?_)
  ·have h3 : k < x.Bodies.length := by have := of_decide_eq_true h; omega
   have hat := Yo h3
   have hlb9 : (els (bodyInts x.Bodies[k])).length = 9 := rfl
   refine Qh (Q0 (Qd (Qk (zy (zx (Q2 J J J J (by omega) (by assumption) J) J (zx (q_lrN J J J J J) J (M1 (Qx J J J) J J ?_)))))));refine Qy J J J J J J J J J (zz (Qc (z0 J (z4 J J J ?_))));refine M1 (Zs J J (I_bodyInts x.Bodies[k]) J J J) J J ?_;refine M_app J J J J J J J J J J (Yr _) (els_k _) (by omega) (by omega) ?_;refine z1 J (Qe (Q1 (Q0 (Qc (z7 J (by omega) (z0 J (zz ?_)))))))
   exact ⟨x.Bodies.length - (k + 1),by omega,(fun k : Nat => (⟨_,[(1,.o (.c (.ptr 0 0))),(3,.o (.c (.ref 1))),(22,L x.Bodies),(23,I (els x.Bodies).length),(24,I k)],[.box ((Enc.e x).map (V1.rd [])),.row 1 (els (([x.Tick,x.Seed,(x.Scores.length : Int)] ++ x.Scores) ++ (x.Bodies.take k).flatMap bodyInts))]⟩ : St)) (k + 1),⟨k + 1,by omega,trivial,J⟩,X8 [0,1] (by decide) J (row2b (by rw [flat_snoc h3,← List.append_assoc,Yn _ (bodyInts x.Bodies[k])])) (.c J (.c J (.c J (.c J (.c J (.nil))))))⟩
  ·have h3 : ¬ k < x.Bodies.length := by have := of_decide_eq_false h; omega
   have hk : x.Bodies.take k = x.Bodies := List.take_of_length_le (by omega)
   rw [hk] at hlc hla ⊢
   have hgi : Enc.gd (([x.Tick,x.Seed,(x.Scores.length : Int)] ++ x.Scores) ++ x.Bodies.flatMap bodyInts) := ⟨by omega,fun y hy => by
    rcases List.mem_append.1 hy with hy | hy
    ·rcases List.mem_append.1 hy with hy | hy
     ·simp only [List.mem_cons,List.not_mem_nil,or_false] at hy
      rcases hy with rfl | rfl | rfl
      ·exact gT
      ·exact gS
      ·exact ⟨by omega,by omega⟩
     ·exact gSc.2 y hy
    ·exact flat_gd gB.2 y hy⟩
   have hp := I_PackInts (([x.Tick,x.Seed,(x.Scores.length : Int)] ++ x.Scores) ++ x.Bodies.flatMap bodyInts) hgi (by omega)
   refine Q9 (T_x (T_x (Xl (Q0 (zy (z0 J ?_))))));refine zx (Qj J J (hp) J) J ?_;refine z1 J (zz (Xa (F_r ?_)))
   exact Xp J J (X6 [] (by decide) J J J)
theorem X5 (x : TWorld) (hg : Enc.gd x) : Con Tryz.prog 71 [] [ag x] [] (S (worldBytes x)) := by
 have hc := S_WorldOk x hg
 obtain ⟨gL,gT,gS,gSc,gB⟩ := hg
 cases ho : worldOk x with
 | false =>
  rw [ho] at hc
  rw [show worldBytes x = ⟨#[]⟩ by rw [worldBytes,ho]; exact if_neg (by decide)]
  refine Con.of Tryz.func71 J Tryz.ntmps71 J (fun E => ?_)
  refine zy (M1 (Qq J J J J) J J (z1 J (zz (Qd (zy (z4 J J J ?_))))));refine zx (Qj J J (hc) J) J ?_;refine zn J (zz (Qm J (zy (z1 J (zz (Xa (T_r (F_r ?_))))))))
  exact Xp J J (X6 [] (by decide) J J J)
 | true =>
  rw [ho] at hc
  rw [show worldBytes x = packInts (worldInts x) by rw [worldBytes,ho]; exact if_pos rfl]
  obtain ⟨_,_,_,hn,_,hb,_⟩ := Ky ho
  have hls := Yq x.Scores
  have hlb := Yq x.Bodies
  refine Con.of Tryz.func71 J Tryz.ntmps71 J (fun E => ?_)
  refine zy (M1 (Qq J J J J) J J (z1 J (zz (Qd (zy (z4 J J J ?_))))));refine zx (Qj J J (hc) J) J ?_;refine zn J (zz (Ql J (Qh (Q0 (zy (z2 J J J (z3 J (z2 J J J (z3 J ?_)))))))));refine z2 J J J (z3 J (zx (Z0 J J J) J (M1 (Zm J J J J J J) J J (z2 J J J (z3 J ?_)))))
  have hl3 : (els [x.Tick,x.Seed,((els x.Scores).length : Int)]).length = 3 := rfl
  refine AL.weak (Wk.sbrow (q := 1) (es := els [x.Tick,x.Seed,((els x.Scores).length : Int)]) J J (Nat.le_of_ble_eq_true J)) ?_;refine AL.weak (st' := (⟨_,[(1,.o (.c (.ptr 0 0))),(16,.o (.c (.ref 1))),(18,L x.Scores)],[.box ((Enc.e x).map (V1.rd [])),.row 1 (els [x.Tick,x.Seed,((els x.Scores).length : Int)])]⟩ : St)) (W_gj [0,1] J) ?_;refine M_app J J J J J J J J J J (Yr _) (els_k _) (by omega) (by omega) ?_;refine z1 J (zz (Qd (zy (z1 J (zz (Qk ?_))))))
  have hini : els (([x.Tick,x.Seed,(x.Scores.length : Int)] ++ x.Scores) ++ (x.Bodies.take 0).flatMap bodyInts) = els [x.Tick,x.Seed,((els x.Scores).length : Int)] ++ els x.Scores := by rw [List.take_zero,List.flatMap_nil,List.append_nil,Yn,hls]
  refine A_lq (fun m st => ∃ k : Nat,k + m = x.Bodies.length ∧ (True) ∧ st = (⟨_,[(1,.o (.c (.ptr 0 0))),(3,.o (.c (.ref 1))),(4,I k)],[.box ((Enc.e x).map (V1.rd [])),.row 1 (els (([x.Tick,x.Seed,(x.Scores.length : Int)] ++ x.Scores) ++ (x.Bodies.take k).flatMap bodyInts))]⟩ : St)) (x.Bodies.length) ⟨(fun k : Nat => (⟨_,[(1,.o (.c (.ptr 0 0))),(3,.o (.c (.ref 1))),(4,I k)],[.box ((Enc.e x).map (V1.rd [])),.row 1 (els (([x.Tick,x.Seed,(x.Scores.length : Int)] ++ x.Scores) ++ (x.Bodies.take k).flatMap bodyInts))]⟩ : St)) 0,⟨0,by omega,trivial,J⟩,X8 [0,1] (by decide) J (row2b hini) (.c J (.c J (.c J (.nil))))⟩ ?_
  rintro m_A _ ⟨k,hk_A,hp_A,rfl⟩
  have hla := Yq (([x.Tick,x.Seed,(x.Scores.length : Int)] ++ x.Scores) ++ (x.Bodies.take k).flatMap bodyInts)
  have hfl := flat_len x.Bodies k (by omega)
  have hlc : (([x.Tick,x.Seed,(x.Scores.length : Int)] ++ x.Scores) ++ (x.Bodies.take k).flatMap bodyInts).length = 3 + x.Scores.length + 9 * k := by
   rw [List.length_append,List.length_append,hfl]; rfl
  refine Qd (zy (z0 J (z2 J J J (z3 J (zx (Z0 J J J) J (zx (Z5 J J J J) J (zz ?_)))))))
  refine Xb J (fun h => ?_) (fun h => ?_)
  ·have h3 : k < x.Bodies.length := by have := of_decide_eq_true h; omega
   have hat := Yo h3
   have hlb9 : (els (bodyInts x.Bodies[k])).length = 9 := rfl
   refine Qh (Q0 (Qd (Qk (zy (z2 J J J (z3 J (z0 J (zx (Q2 J J J J (by omega) (by assumption) J) J (zx (q_lrN J J J J J) J (M1 (Qx J J J) J J ?_))))))))));refine Qy J J J J J J J J J (zz (Qc (z0 J (z2 J J J (z3 J (z2 J J J (z3 J (z2 J J J (z3 J (z2 J J J ?_))))))))));refine z3 J (z2 J J J (z3 J (z2 J J J (z3 J (z2 J J J (z3 J (z2 J J J (z3 J (z2 J J J (z3 J (M1 (Zm J J J J J J) J J ?_)))))))))));refine M_appsb J J J J J J J J J J (by omega) (by omega) ?_;refine z1 J (Qe (Q1 (Q0 (Qc (z0 J (z7 J (by omega) (z1 J (zz ?_))))))))
   exact ⟨x.Bodies.length - (k + 1),by omega,(fun k : Nat => (⟨_,[(1,.o (.c (.ptr 0 0))),(3,.o (.c (.ref 1))),(4,I k)],[.box ((Enc.e x).map (V1.rd [])),.row 1 (els (([x.Tick,x.Seed,(x.Scores.length : Int)] ++ x.Scores) ++ (x.Bodies.take k).flatMap bodyInts))]⟩ : St)) (k + 1),⟨k + 1,by omega,trivial,J⟩,X8 [0,1] (by decide) J (row2b (by rw [flat_snoc h3,← List.append_assoc,Yn _ (bodyInts x.Bodies[k])]; rfl)) (.c J (.c J (.c J (.nil))))⟩
  ·have h3 : ¬ k < x.Bodies.length := by have := of_decide_eq_false h; omega
   have hk : x.Bodies.take k = x.Bodies := List.take_of_length_le (by omega)
   rw [hk] at hlc hla ⊢
   have hgi : Enc.gd (([x.Tick,x.Seed,(x.Scores.length : Int)] ++ x.Scores) ++ x.Bodies.flatMap bodyInts) := ⟨by omega,fun y hy => by
    rcases List.mem_append.1 hy with hy | hy
    ·rcases List.mem_append.1 hy with hy | hy
     ·simp only [List.mem_cons,List.not_mem_nil,or_false] at hy
      rcases hy with rfl | rfl | rfl
      ·exact gT
      ·exact gS
      ·exact ⟨by omega,by omega⟩
     ·exact gSc.2 y hy
    ·exact flat_gd gB.2 y hy⟩
   have hp := S_PackInts (([x.Tick,x.Seed,(x.Scores.length : Int)] ++ x.Scores) ++ x.Bodies.flatMap bodyInts) hgi (by omega)
   refine Q9 (T_x (T_x (Xl (Q0 (zy (z0 J ?_))))));refine zx (Qj J J (hp) J) J ?_;refine z1 J (zz (Xa (F_r ?_)))
   exact Xp J J (X6 [] (by decide) J J J)
end
section
open Go.RowKit

def dvGo (s : ByteArray) (p : Nat) (n : Int) (k : Nat) : Nat → Option (Int × Nat)
 | 0 => none
 | f + 1 => if p + k < s.size then
   (if 128 ≤ byteAt s (p + k) then dvGo s p (n + byteAt s (p + k) % 128 * 2 ^ (7 * k)) (k + 1) f
    else if (byteAt s (p + k) = 0 ∧ 0 < k) ∨ 1099511627775 < n + byteAt s (p + k) % 128 * 2 ^ (7 * k) then none
    else some (n + byteAt s (p + k) % 128 * 2 ^ (7 * k),k + 1)) else none
def decVar (s : ByteArray) (p : Int) : Option (Int × Nat) := if 0 ≤ p ∧ p < s.size then dvGo s p.toNat 0 0 6 else none
@[reducible] def bv (b : Bool) : V1 := .rd [] (.v (.bool b))
@[reducible] def jn (n : Int) : V1 := .rd [] (.v (.int .i64 n))
@[reducible] def dvR : Option (Int × Nat) → V
 | none => .tu [.c (jn 0),.c (jn 0),.c (bv false)]
 | some (n,k) => .tu [.c (jn n),.c (jn k),.c (bv true)]
theorem pow7 {k : Nat} (h : k ≤ 6) : ∃ M : Nat,2 ^ (7 * k) = M ∧ 1 ≤ M ∧ M ≤ 4398046511104 := by
 refine ⟨_,J,Nat.one_le_two_pow,?_⟩
 exact Nat.le_trans (Nat.pow_le_pow_right (by omega) (show 7 * k ≤ 42 by omega)) (by decide)
theorem pow7s (k : Nat) : 2 ^ (7 * (k + 1)) = 128 * 2 ^ (7 * k) := by
 rw [show 7 * (k + 1) = 7 * k + 7 by omega,Nat.pow_add]
 omega
theorem dv_part {c : Int} {M : Nat} (h0 : 0 ≤ c) (h1 : c < 128) : 0 ≤ c * (M : Int) ∧ c * (M : Int) ≤ 127 * M := by
 refine ⟨Int.mul_nonneg h0 (by omega),Int.mul_le_mul_of_nonneg_right (by omega) (by omega)⟩
theorem pow7i (k : Nat) : (2 : Int) ^ (7 * (k : Int)).toNat = ((2 ^ (7 * k) : Nat) : Int) := by
 rw [show (7 * (k : Int)).toNat = 7 * k by omega]
 norm_cast
theorem Xs (s : ByteArray) (p : Int) (hs : s.size ≤ 1099511627776) (hp : I64 p) : Con Tryz.prog 110 [] [astr s,ai p] [] (dvR (decVar s p)) := by
 obtain ⟨hp1,hp2⟩ := hp
 by_cases hin : ¬ (0 ≤ p ∧ p < s.size)
 ·rw [show decVar s p = none by rw [decVar,if_neg hin]]
  refine Con.of Tryz.func110 J Tryz.ntmps110 J (fun E => ?_)
  refine zy (z1 J (z1 J (z1 J (zz (Qd (zy (z0 J (zx (Z5 J J J J) J ?_))))))));refine z0 J ?_;refine zx (Qt.grdF J J J .stop (fun hgrd => Qa J J J)) J ?_;refine zx (Qt.grdF J J J (.hit .stop) (fun hgrd => Qa J J J)) J ?_;refine zx (Qt.grdF J J J (.hit (.hit .stop)) (fun hgrd => Z3 J J J)) J ?_;refine zx (Qt.grdF J J J (.hit (.hit (.hit .stop))) (fun hgrd => q_geq J J J J)) J ?_;refine zx (Z8 J J J J) J (zz ?_)
  refine Xb J (fun h => ?_) (fun h => ?_)
  ·refine zy (z1 rfl (z1 rfl (z1 rfl (Qe ?_))))
   refine Q0 (Xa (T_r (F_r ?_)))
   exact Xr J J J J (X6 [] (by decide) J J J)
  ·simp only [Bool.or_eq_false_iff,decide_eq_false_iff_not] at h
   omega
 have hin := Classical.not_not.1 hin
 obtain ⟨q,rfl⟩ : ∃ q : Nat,p = q := ⟨p.toNat,by omega⟩
 rw [show decVar s q = dvGo s q 0 0 6 by rw [decVar,if_pos hin]; rfl]
 have hb1 : decide ((q : Int) < 0) = false := decide_eq_false (by omega)
 have hb2 : decide ((s.size : Int) ≤ q) = false := decide_eq_false (by omega)
 refine Con.of Tryz.func110 J Tryz.ntmps110 J (fun E => ?_)
 refine zy (z1 J (z1 J (z1 J (zz (Qd (zy (z0 J (z9a J (by assumption) ?_))))))));refine z0 J (z5 J (z0 J (z5 J (z0 J (z5 J (zx (Z3 J J J) J (z5 J (z9d J (by assumption) (zpF J (zz ?_))))))))));refine Ql J (Qh (Q0 (zy (z1 J (zz (Qd (zy (z1 J ?_))))))));refine zz (Qk ?_);refine A_lq (fun m__ st => ∃ (k : Nat) (n : Int),6 - k = m__ ∧ (k ≤ 6 ∧ 0 ≤ n ∧ n < ((2 ^ (7 * k) : Nat) : Int) ∧ dvGo s q n k (6 - k) = dvGo s q 0 0 6) ∧ st = (⟨_,[(0,S s),(1,I q),(7,I n),(8,I k)],[]⟩ : St)) _ ⟨_,⟨0,0,J,⟨by omega,by omega,by simp,J⟩,J⟩,W_gj [] J⟩ ?_
 rintro m_A _ ⟨k,n,hk_A,hp_A,rfl⟩
 obtain ⟨hk6,hn0,hn1,hgo⟩ := hp_A
 obtain ⟨M,hM,hM1,hM2⟩ := pow7 hk6
 have hMs := pow7s k
 rw [hM] at hn1 hMs
 rw [← hgo]
 refine Qd (zy (z0 J (zx (Z5 J J J J) J (z0 J ?_))));refine zx (Qt.grdT J J J .stop (fun hgrd => Qa J J J)) J ?_;refine zx (Qt.grdT J J J (.hit .stop) (fun hgrd => Qa J J J)) J ?_;refine zx (Qt.grdT J J J (.hit (.hit .stop)) (fun hgrd => Z3 J J J)) J ?_;refine zx (Qt.grdT J J J (.hit (.hit (.hit .stop))) (fun hgrd => Qa J J J)) J ?_;refine zx (Qt.grdT J J J (.hit (.hit (.hit (.hit .stop)))) (fun hgrd => Xc J J J J (by omega))) J ?_;refine zx (Qt.grdT J J J (.hit (.hit (.hit (.hit (.hit .stop))))) (fun hgrd => Z5 J J J J)) J ?_;refine zx (Zj J J J J) J (zz ?_)
 refine Xb J (fun h => ?_) (fun h => ?_)
 ·simp only [Bool.and_eq_true,decide_eq_true_eq] at h
  have hlt : q + k < s.size := by omega
  obtain ⟨f,hf⟩ : ∃ f,6 - k = f + 1 := ⟨5 - k,by omega⟩
  obtain ⟨c,hc⟩ : ∃ c,byteAt s (q + k) = c := ⟨_,rfl⟩
  have hcr := Yj s (q + k)
  rw [hc] at hcr
  have hc1 : byteAt s ((q : Int) + (k : Int)).toNat = c := by rw [← hc]; congr 1
  obtain ⟨d,hd⟩ : ∃ d : Nat,c % 128 = d := ⟨(c % 128).toNat,by omega⟩
  have hd1 : c.toNat &&& (127 : Int).toNat = d := by
   rw [show (127 : Int).toNat = 2 ^ 7 - 1 from rfl,Nat.and_two_pow_sub_one_eq_mod]
   omega
  have hdM := dv_part (c := d) (M := M) (by omega) (by omega)
  obtain ⟨r,hr⟩ : ∃ r,(d : Int) * M = r := ⟨_,rfl⟩
  rw [hr] at hdM
  have hr1 : (d : Int) * 2 ^ (7 * (k : Int)).toNat = r := by rw [pow7i,hM,hr]
  have hgo1 : dvGo s q n k (f + 1) = if 128 ≤ c then dvGo s q (n + r) (k + 1) f else if (c = 0 ∧ 0 < k) ∨ 1099511627775 < n + r then none else some (n + r,k + 1) := by
   have h9 : c % 128 * 2 ^ (7 * k) = r := by
    rw [hd,← hr,← hM]
    norm_cast
   rw [dvGo,if_pos hlt,hc,h9]
  rw [hf,hgo1]
  by_cases h7 : 128 ≤ c
  ·have hb7 : decide (128 ≤ c) = true := decide_eq_true h7
   refine Qh (Q0 (Qd (Qk (zy (z0 J (z0 J (z0 J (z7 J (by omega) (zx (Zr J J J J (by assumption) (by omega)) J (z1 J ?_))))))))));refine zz (zy (z0 J (z0 J (zx (q_band8K J J J J (by assumption) (by omega)) J (zx (Zt J J J J (Kz (by omega))) J (z0 J (zx (Z6 J J J J (by omega)) J (zx (q_shlK J J J J (by assumption) (by omega) (by omega)) J (z7 J (by omega) ?_)))))))));refine z1 J (zz (Qd (zy (z0 J (z9d J (by assumption) (zz (Qm J (Q9 ?_))))))));refine T_x (Xl (Q0 (Qc (z0 J (z7 J (by omega) (z1 J (zz ?_)))))))
   refine ⟨_,(by omega),_,⟨k + 1,n + r,J,⟨by omega,by omega,by rw [hMs]; omega,by rw [if_pos h7,show 6 - (k + 1) = f by omega]⟩,J⟩,W_gj [] J⟩
  have hb7 : decide (128 ≤ c) = false := decide_eq_false h7
  rw [if_neg h7]
  refine Qh (Q0 (Qd (Qk (zy (z0 J (z0 J (z0 J (z7 J (by omega) (zx (Zr J J J J (by assumption) (by omega)) J (z1 J ?_))))))))));refine zz (zy (z0 J (z0 J (zx (q_band8K J J J J (by assumption) (by omega)) J (zx (Zt J J J J (Kz (by omega))) J (z0 J (zx (Z6 J J J J (by omega)) J (zx (q_shlK J J J J (by assumption) (by omega) (by omega)) J (z7 J (by omega) ?_)))))))));refine z1 J (zz (Qd (zy (z0 J (z9d J (by assumption) (zz (Ql J (Qh ?_))))))));refine Q0 (Qd (zy (z0 J (zx (Zu J J J J) J (z0 J ?_)))));refine zx (Qt.grdT J J J .stop (fun hgrd => Qa J J J)) J ?_;refine zx (Qt.grdT J J J (.hit .stop) (fun hgrd => Zy J J J J)) J ?_;refine zx (Zj J J J J) J (z0 J ?_);refine zx (Qt.grdF J J J .stop (fun hgrd => Qa J J J)) J ?_;refine zx (Qt.grdF J J J (.hit .stop) (fun hgrd => Zy J J J J)) J ?_;refine zx (Z8 J J J J) J (zz ?_)
  refine Xb J (fun h8 => ?_) (fun h8 => ?_)
  ·simp only [Bool.or_eq_true,Bool.and_eq_true,decide_eq_true_eq] at h8
   rw [if_pos (by omega)]
   refine zy (z1 J (z1 J (z1 J (zz (Xa (T_r (B_r (T_r (T_r ?_)))))))));refine B_r (T_r (F_r ?_))
   exact Xr J J J J (X6 [] (by decide) J J J)
  ·simp only [Bool.or_eq_false_iff,Bool.and_eq_false_iff,decide_eq_false_iff_not] at h8
   rw [if_neg (by omega)]
   refine Qh (Q0 (zy (z0 J (z0 J (z7 J (by omega) (z1 J (z1 J (z1 J (zz ?_)))))))));refine Xa (B_r (T_r (T_r (B_r (T_r (F_r ?_))))))
   exact Xr J J J J (X6 [] (by decide) J J J)
 ·simp only [Bool.and_eq_false_iff,decide_eq_false_iff_not] at h
  rw [show dvGo s q n k (6 - k) = none by
   cases hf : 6 - k with
   | zero => rfl
   | succ f => rw [dvGo,if_neg (by omega)]]
  refine Q9 (T_x (T_x (Xl (Q0 (zy (z1 J (z1 J (z1 J (zz ?_)))))))));refine Xa (F_r ?_)
  exact Xr J J J J (X6 [] (by decide) J J J)
theorem or_add {n r M : Nat} {k d : Nat} (hM : 2 ^ (7 * k) = M) (hn : n < M) (hr : d * M = r) : n ||| r = n + r := by
 subst hM
 rw [← hr,Nat.mul_comm,Nat.add_comm,Nat.or_comm]
 exact (Nat.two_pow_add_eq_or_of_lt hn d).symm
def bytesL (s : ByteArray) (p k : Nat) : List UInt8 := (s.data.toList.drop p).take k
theorem byteAt_list {s : ByteArray} {i : Nat} (h : i < s.size) : ∃ b : UInt8,s.data.toList[i]? = some b ∧ byteAt s i = (b.toNat : Int) := by
 have h1 : i < s.data.size := h
 refine ⟨s.data[i],by simp [h1],?_⟩
 unfold byteAt
 have : s[i]? = some s.data[i] := by
  rw [getElem?_pos s i h]
  rfl
 rw [this]
 rfl
theorem bytesL_succ {s : ByteArray} {p k : Nat} (h : p + k < s.size) : ∃ b : UInt8,bytesL s p (k + 1) = bytesL s p k ++ [b] ∧ byteAt s (p + k) = (b.toNat : Int) := by
 obtain ⟨b,h1,h2⟩ := byteAt_list h
 refine ⟨b,?_,h2⟩
 unfold bytesL
 rw [List.take_add_one,List.getElem?_drop,h1]
 rfl
def dval : List UInt8 → Nat
 | [] => 0
 | b :: l => b.toNat % 128 + 128 * dval l
theorem dval_snoc (b : UInt8) : ∀ l : List UInt8,dval (l ++ [b]) = dval l + b.toNat % 128 * 2 ^ (7 * l.length)
 | [] => by simp [dval]
 | a :: l => by
  have h1 := dval_snoc b l
  have h2 := pow7s l.length
  simp only [List.cons_append,dval,List.length_cons,h1,h2]
  rw [Nat.mul_add,Nat.add_assoc,Nat.mul_left_comm]
theorem dval_lt : ∀ l : List UInt8,dval l < 2 ^ (7 * l.length)
 | [] => by simp [dval]
 | a :: l => by
  have h1 := dval_lt l
  have h2 := pow7s l.length
  simp only [dval,List.length_cons,h2]
  omega
theorem dval_zero {b : UInt8} (hb : b.toNat < 128) : ∀ {l : List UInt8},dval (l ++ [b]) = 0 → b.toNat = 0
 | [],h => by simp [dval] at h; omega
 | a :: l,h => by
  simp only [List.cons_append,dval] at h
  exact dval_zero hb (l := l) (by omega)
theorem canon {b : UInt8} (hb : b.toNat < 128) : ∀ (l : List UInt8),(∀ a ∈ l,128 ≤ a.toNat) → (varN (dval (l ++ [b])) = l ++ [b] ↔ (l = [] ∨ b.toNat ≠ 0))
 | [],_ => by
  simp only [List.nil_append,dval,true_or,iff_true]
  rw [Nat.mod_eq_of_lt hb,Nat.mul_zero,Nat.add_zero,Kv hb,UInt8.ofNat_toNat]
 | a :: l,h => by
  have ih := canon hb l fun x hx => h x (by simp [hx])
  have ha := h a (by simp)
  have ha2 := a.toNat_lt
  simp only [List.cons_append,dval]
  by_cases hD : dval (l ++ [b]) = 0
  ·have h0 := dval_zero hb hD
   rw [hD,Nat.mul_zero,Nat.add_zero,Kv (by omega)]
   constructor
   ·intro e
    have := congrArg List.length e
    simp at this
   ·intro e
    rcases e with e | e
    ·cases e
    ·exact absurd h0 e
  ·have hm : (a.toNat % 128 + 128 * dval (l ++ [b])) % 128 = a.toNat % 128 := by omega
   have hq : (a.toNat % 128 + 128 * dval (l ++ [b])) / 128 = dval (l ++ [b]) := by omega
   have ha3 : UInt8.ofNat (a.toNat % 128 + 128) = a := by
    rw [show a.toNat % 128 + 128 = a.toNat by omega,UInt8.ofNat_toNat]
   rw [varN_big (by omega),hm,hq,ha3]
   simp only [List.cons.injEq,true_and]
   rw [ih]
   constructor
   ·intro e
    rcases e with rfl | e
    ·refine .inr fun e => hD ?_
     simp [dval,e]
    ·exact .inr e
   ·intro e
    rcases e with e | e
    ·cases e
    ·exact .inr e
theorem extract_list (s : ByteArray) (p q : Nat) : (s.extract p q).data.toList = (s.data.toList.drop p).take (q - p) := by
 rw [ByteArray.data_extract,Array.toList_extract]
theorem extract_bytes (s : ByteArray) (p k : Nat) : s.extract p (p + k) = bs (bytesL s p k) := by
 rw [← bs_of (s.extract p (p + k)),extract_list,show p + k - p = k by omega]
 rfl
theorem X0 (s : ByteArray) (p : Int) (hs : s.size ≤ 1099511627776) (hp : I64 p) : Con Tryz.prog 145 [] [astr s,ai p] [] (dvR (decVar s p)) := by
 obtain ⟨hp1,hp2⟩ := hp
 by_cases hneg : p < 0
 ·have hb1 : decide (p < 0) = true := decide_eq_true hneg
  rw [show decVar s p = none by rw [decVar,if_neg (by omega)]]
  refine Con.of Tryz.func145 J Tryz.ntmps145 J (fun E => ?_)
  refine zy (z1 J (z1 J (z1 J (zz (Qd (zy (z0 J (z9a J (by assumption) ?_))))))));refine zz (Qm J (zy (z1 J (z1 J (z1 J (zz (Xa (T_r ?_))))))));refine F_r ?_
  exact Xr J J J J (X6 [] (by decide) J J J)
 have hb1 : decide (p < 0) = false := decide_eq_false hneg
 by_cases hbig : (s.size : Int) ≤ p
 ·have hb2 : decide (p < (s.size : Int)) = false := decide_eq_false (by omega)
  rw [show decVar s p = none by rw [decVar,if_neg (by omega)]]
  refine Con.of Tryz.func145 J Tryz.ntmps145 J (fun E => ?_)
  refine zy (z1 J (z1 J (z1 J (zz (Qd (zy (z0 J (z9a J (by assumption) ?_))))))));refine zz (Ql J (Qh (Q0 (zy (z1 J (zz (Qd (Qd ?_))))))));refine Qc (z1 J (zz (Qk ?_)));refine A_lq (fun m st => ∃ k : Nat,k + m = 1 ∧ (True) ∧ st = (⟨_,[(0,S s),(1,I p),(8,I k)],[]⟩ : St)) (1) ⟨_,⟨0,by omega,trivial,J⟩,W_gj [] J⟩ ?_
  rintro m_A _ ⟨k,hk_A,hp_A,rfl⟩
  have hkz : k = 0 ∨ k = 1 := by omega
  have hb3 : decide ((k : Int) < 6) = true := decide_eq_true (by omega)
  refine Qd (zy (z0 J (z9a J (by assumption) (z0 J (z5 J (z0 J (z5 J (z0 J (z5 J (zx (Z3 J J J) J ?_))))))))));refine z5 J (z9a J (by assumption) (zpT J (z0 J (z6 J (z6 J (z6 J (z6 J (z6 J (z6 J (zpF J (Qe ?_)))))))))));refine Q0 (Ql J (Q9 (T_x (T_x (Xl (Q0 (zy (z1 J (z1 J (z1 J ?_))))))))));refine zz (Xa (F_r ?_))
  exact Xr J J J J (X6 [] (by decide) J J J)
 obtain ⟨q,rfl⟩ : ∃ q : Nat,p = q := ⟨p.toNat,by omega⟩
 have hb2 : decide ((q : Int) < (s.size : Int)) = true := decide_eq_true (by omega)
 rw [show decVar s q = dvGo s q 0 0 6 by rw [decVar,if_pos (by omega)]; rfl]
 refine Con.of Tryz.func145 J Tryz.ntmps145 J (fun E => ?_)
 refine zy (z1 J (z1 J (z1 J (zz (Qd (zy (z0 J (z9a J (by assumption) ?_))))))));refine zz (Ql J (Qh (Q0 (zy (z1 J (zz (Qd (Qd ?_))))))));refine Qc (z1 J (zz (Qk ?_)));refine A_lq (fun m__ st => ∃ (k : Nat) (n : Nat),6 - k = m__ ∧ (k ≤ 6 ∧ q + k ≤ s.size ∧ (∀ a ∈ bytesL s q k,128 ≤ a.toNat) ∧ n = dval (bytesL s q k) ∧ dvGo s q n k (6 - k) = dvGo s q 0 0 6) ∧ st = (⟨_,[(0,S s),(1,I q),(7,I n),(8,I k)],[]⟩ : St)) _ ⟨_,⟨0,0,J,⟨by omega,by omega,by simp [bytesL],by simp [bytesL,dval],J⟩,J⟩,W_gj [] J⟩ ?_
 rintro m_A _ ⟨k,n,hk_A,hp_A,rfl⟩
 obtain ⟨hk6,hqk,hall,hn,hgo⟩ := hp_A
 have hlen : (bytesL s q k).length = k := by
  have : s.data.toList.length = s.size := by simp
  simp [bytesL]; omega
 have hn1 := dval_lt (bytesL s q k)
 rw [← hn,hlen] at hn1
 obtain ⟨M,hM,hM1,hM2⟩ := pow7 hk6
 have hMs := pow7s k
 rw [hM] at hn1 hMs
 rw [← hgo]
 refine Qd (zy (z0 J (zx (Z5 J J J J) J (z0 J ?_))));refine zx (Qt.grdT J J J .stop (fun hgrd => Qa J J J)) J ?_;refine zx (Qt.grdT J J J (.hit .stop) (fun hgrd => Qa J J J)) J ?_;refine zx (Qt.grdT J J J (.hit (.hit .stop)) (fun hgrd => Z3 J J J)) J ?_;refine zx (Qt.grdT J J J (.hit (.hit (.hit .stop))) (fun hgrd => Qr J J J J (by assumption))) J ?_;refine zx (Zj J J J J) J (z0 J ?_);refine zx (Qt.grdT J J J .stop (fun hgrd => Qa J J J)) J ?_;refine zx (Qt.grdT J J J (.hit .stop) (fun hgrd => Qa J J J)) J ?_;refine zx (Qt.grdT J J J (.hit (.hit .stop)) (fun hgrd => Qs J J J J (by omega))) J ?_;refine zx (Qt.grdT J J J (.hit (.hit (.hit .stop))) (fun hgrd => Qa J J J)) J ?_;refine zx (Qt.grdT J J J (.hit (.hit (.hit (.hit .stop)))) (fun hgrd => Z3 J J J)) J ?_;refine zx (Qt.grdT J J J (.hit (.hit (.hit (.hit (.hit .stop))))) (fun hgrd => Z5 J J J J)) J ?_;refine zx (Zj J J J J) J (zz ?_)
 refine Xb J (fun h => ?_) (fun h => ?_)
 ·simp only [Bool.and_eq_true,decide_eq_true_eq] at h
  have hlt : q + k < s.size := by omega
  obtain ⟨f,hf⟩ : ∃ f,6 - k = f + 1 := ⟨5 - k,by omega⟩
  obtain ⟨b,hb,hcb⟩ := bytesL_succ hlt
  obtain ⟨c,hc⟩ : ∃ c : Nat,b.toNat = c := ⟨_,rfl⟩
  rw [hc] at hcb
  have hcr := Yj s (q + k)
  rw [hcb] at hcr
  have hc1 : byteAt s ((q : Int) + (k : Int)).toNat = (c : Int) := by rw [← hcb]; congr 1
  obtain ⟨d,hd⟩ : ∃ d : Nat,c % 128 = d := ⟨_,rfl⟩
  have hd1 : (c : Int).toNat &&& (127 : Int).toNat = d := by
   rw [show (127 : Int).toNat = 2 ^ 7 - 1 from rfl,Nat.and_two_pow_sub_one_eq_mod]
   exact hd
  obtain ⟨r,hr⟩ : ∃ r : Nat,d * M = r := ⟨_,rfl⟩
  have hr2 : r ≤ 127 * M := by rw [← hr]; exact Nat.mul_le_mul_right _ (by omega)
  have hr1 : (d : Int) * 2 ^ (7 * (k : Int)).toNat = (r : Int) := by rw [pow7i,hM,← hr]; norm_cast
  have hor : (n : Int).toNat ||| (r : Int).toNat = n + r := or_add hM hn1 hr
  have hval : n + r = dval (bytesL s q (k + 1)) := by rw [hb,dval_snoc,hlen,hM,hc,hd,hr,← hn]
  have hgo1 : dvGo s q n k (f + 1) = if 128 ≤ (c : Int) then dvGo s q ((n + r : Nat) : Int) (k + 1) f else if ((c : Int) = 0 ∧ 0 < k) ∨ 1099511627775 < ((n + r : Nat) : Int) then none else some (((n + r : Nat) : Int),k + 1) := by
   have h9 : (n : Int) + (c : Int) % 128 * 2 ^ (7 * k) = ((n + r : Nat) : Int) := by
    rw [show (c : Int) % 128 = d by omega,← hr,← hM]
    norm_cast
   rw [dvGo,if_pos hlt,hcb,h9]
  rw [hf,hgo1]
  by_cases h7 : 128 ≤ (c : Int)
  ·have hb7 : decide ((c : Int) < 128) = false := decide_eq_false (by omega)
   refine Qh (Q0 (Qd (Qk (zy (z0 J (z0 J (z0 J (z0 J (z7 J (by omega) (zx (Zr J J J J (by assumption) (by omega)) J ?_))))))))));refine zx (q_band8K J J J J (by assumption) (by omega)) J (zx (Zt J J J J (Kz (by omega))) J (z0 J (zx (Z6 J J J J (by omega)) J (zx (q_shlK J J J J (by assumption) (by omega) (by omega)) J (zx (q_borK J J J J (by assumption) (by omega)) J (z1 J (zz (zy (z0 J ?_)))))))));refine z0 J (z0 J (z7 J (by omega) (zx (Zr J J J J (by assumption) (by omega)) J (z9a J (by assumption) (zz (Ql J (Qh (Q1 (Q0 (Qc ?_))))))))));refine z0 J (z7 J (by omega) (z1 J (zz ?_)))
   refine ⟨_,(by omega),_,⟨k + 1,n + r,rfl,⟨by omega,by omega,by rw [hb]; intro a ha; rcases List.mem_append.1 ha with ha | ha; exact hall a ha; simp only [List.mem_singleton] at ha; rw [ha]; omega,hval,by rw [if_pos h7,show 6 - (k + 1) = f by omega]⟩,rfl⟩,W_gj [] rfl⟩
  have hb7 : decide ((c : Int) < 128) = true := decide_eq_true (by omega)
  rw [if_neg h7]
  have hcan := canon (b := b) (by omega) (bytesL s q k) hall
  rw [← hb,← hval] at hcan
  have hle := Yu ((n + r : Nat) : Int)
  have hex := extract_bytes s q (k + 1)
  have hnil : bytesL s q k = [] ↔ k = 0 := by rw [← List.length_eq_zero_iff,hlen]
  have hne : bytesL s q (k + 1) ≠ [] := by rw [hb]; simp
  have hex1 : s.extract ((q : Int)).toNat ((q : Int) + (k : Int) + 1).toNat = bs (bytesL s q (k + 1)) := by rw [← hex]; congr 1
  have hiff : bs (encVar ((n + r : Nat) : Int)) = bs (bytesL s q (k + 1)) ↔ ¬ (((c : Int) = 0 ∧ 0 < k) ∨ 1099511627775 < ((n + r : Nat) : Int)) := by
   rw [bs_inj,encVar]
   split
   ·rename_i h5
    rw [show (((n + r : Nat) : Int)).toNat = n + r by omega,hcan,hnil]
    omega
   ·exact ⟨fun e => absurd e.symm hne,fun e => by omega⟩
  by_cases h8 : ((c : Int) = 0 ∧ 0 < k) ∨ 1099511627775 < ((n + r : Nat) : Int)
  ·rw [if_pos h8]
   have hb8 : decide (bs (encVar ((n + r : Nat) : Int)) ≠ s.extract ((q : Int)).toNat ((q : Int) + (k : Int) + 1).toNat) = true := decide_eq_true (by rw [hex1]; exact fun e => hiff.1 e h8)
   refine Qh (Q0 (Qd (Qk (zy (z0 J (z0 J (z0 J (z0 J (z7 J (by omega) (zx (Zr J J J J (by assumption) (by omega)) J ?_))))))))));refine zx (q_band8K J J J J (by assumption) (by omega)) J (zx (Zt J J J J (Kz (by omega))) J (z0 J (zx (Z6 J J J J (by omega)) J (zx (q_shlK J J J J (by assumption) (by omega) (by omega)) J (zx (q_borK J J J J (by assumption) (by omega)) J (z1 J (zz (zy (z0 J ?_)))))))));refine z0 J (z0 J (z7 J (by omega) (zx (Zr J J J J (by assumption) (by omega)) J (z9a J (by assumption) (zz (Qm J (Qd (Qd (Xi u8_12 u8_13 u8_14 J (DR.s (Qa J J J) J J ?_))))))))));refine DR.s (Qj J J (X3 ((n + r : Nat) : Int)) J) J J ?_;refine DR.s (Qa J J J) J J (DR.s (Qa J J J) J J (DR.s (Qa J J J) J J (DR.s (Qa J J J) J J (DR.s (Qs J J J J (by omega)) J J (DR.s (Qs J J J J (by omega)) J J (DR.s (Kb J J J J J (by omega)) J J (DR.s (Ka J J J J (by assumption)) J J (DR.stop (by kernel_rfl) (by kernel_rfl) (zz (Qm J ?_))))))))));refine zy (z1 J (z1 J (z1 J (zz (Xa (T_r (B_r (T_r (T_r ?_)))))))));refine B_r (T_r (F_r ?_))
   exact Xr J J J J (X6 [] (by decide) J J J)
  ·rw [if_neg h8]
   have hb8 : decide (bs (encVar ((n + r : Nat) : Int)) ≠ s.extract ((q : Int)).toNat ((q : Int) + (k : Int) + 1).toNat) = false := decide_eq_false (by rw [hex1]; exact fun e => e (hiff.2 h8))
   refine Qh (Q0 (Qd (Qk (zy (z0 J (z0 J (z0 J (z0 J (z7 J (by omega) (zx (Zr J J J J (by assumption) (by omega)) J ?_))))))))));refine zx (q_band8K J J J J (by assumption) (by omega)) J (zx (Zt J J J J (Kz (by omega))) J (z0 J (zx (Z6 J J J J (by omega)) J (zx (q_shlK J J J J (by assumption) (by omega) (by omega)) J (zx (q_borK J J J J (by assumption) (by omega)) J (z1 J (zz (zy (z0 J ?_)))))))));refine z0 J (z0 J (z7 J (by omega) (zx (Zr J J J J (by assumption) (by omega)) J (z9a J (by assumption) (zz (Qm J (Qd (Qd (Xi u8_12 u8_13 u8_14 J (DR.s (Qa J J J) J J ?_))))))))));refine DR.s (Qj J J (X3 ((n + r : Nat) : Int)) J) J J ?_;refine DR.s (Qa J J J) J J (DR.s (Qa J J J) J J (DR.s (Qa J J J) J J (DR.s (Qa J J J) J J (DR.s (Qs J J J J (by omega)) J J (DR.s (Qs J J J J (by omega)) J J (DR.s (Kb J J J J J (by omega)) J J (DR.s (Ka J J J J (by assumption)) J J (DR.stop (by kernel_rfl) (by kernel_rfl) (zz (Ql J ?_))))))))));refine Qh (Q0 (zy (z0 J (z0 J (z7 J (by omega) (z1 J (z1 J (z1 J (zz ?_)))))))));refine Xa (B_r (T_r (T_r (B_r (T_r (F_r ?_))))))
   exact Xr J J J J (X6 [] (by decide) J J J)
 ·simp only [Bool.and_true,Bool.and_eq_false_iff,decide_eq_false_iff_not] at h
  rw [show dvGo s q n k (6 - k) = none by
   cases hf : 6 - k with
   | zero => rfl
   | succ f => rw [dvGo,if_neg (by omega)]]
  refine Q9 (T_x (T_x (Xl (Q0 (zy (z1 J (z1 J (z1 J (zz ?_)))))))));refine Xa (F_r ?_)
  exact Xr J J J J (X6 [] (by decide) J J J)
end
section
open Go.RowKit

theorem dvGo_some (s : ByteArray) (q : Nat) : ∀ (f k : Nat) (n m : Int) (j : Nat),0 ≤ n → dvGo s q n k f = some (m,j) → 0 ≤ m ∧ m ≤ 1099511627775 ∧ k < j ∧ j ≤ k + f ∧ q + j ≤ s.size := by
 intro f
 induction f with
 | zero => intro k n m j _ h; simp [dvGo] at h
 | succ f ih =>
  intro k n m j h0 h
  have hb := Yj s (q + k)
  rw [dvGo] at h
  have hp : (0 : Int) ≤ byteAt s (q + k) % 128 * 2 ^ (7 * k) := Int.mul_nonneg (by omega) (Int.le_of_lt (Int.pow_pos (by omega)))
  split at h
  ·split at h
   ·have := ih (k + 1) _ m j (by omega) h
    omega
   ·split at h
    ·cases h
    ·simp only [Option.some.injEq,Prod.mk.injEq] at h
     obtain ⟨rfl,rfl⟩ := h
     omega
  ·cases h
theorem Ym {s : ByteArray} {p m : Int} {j : Nat} (h : decVar s p = some (m,j)) : 0 ≤ p ∧ 0 ≤ m ∧ m ≤ 1099511627775 ∧ 1 ≤ j ∧ j ≤ 6 ∧ p + j ≤ s.size := by
 unfold decVar at h
 split at h
 ·have := dvGo_some s p.toNat 6 0 0 m j (by omega) h
  omega
 ·cases h
theorem q_quoN {P : Program} {ops : Array Oper} {o : Oper} {st : St} {n : Nat} {t t' : TypeId} {y z : Operand} {ps qs : List Nat} {i j r : Int} (ho : o.op = .binOp .quo t y z t') (hg : o.guard = none) (hy : st.ev y = .o (.c (.rd ps (.v (.int .i64 i))))) (hz : st.ev z = .o (.c (.rd qs (.v (.int .i64 j)))))
  (hr : i.tdiv j = r) (hb : -9223372036854775808 ≤ i ∧ i ≤ 9223372036854775807 ∧ 1 ≤ j) : Qt P ops o st (I r) [] n :=
 hr ▸ Zk ho hg hy hz fun w => by
  have : j ≠ 0 := by omega
  simp [binOp,Op.intDiv,this,IntWalk.i64_quo' _ _ hb]
def signed (n : Int) : Int := if 0 ≤ n ∧ n ≤ 1099511627775 then (if n % 2 = 0 then n / 2 else -((n + 1) / 2)) else 0
theorem signed_gd (n : Int) : I64 (signed n) := by
 unfold signed
 split
 ·split <;> exact ⟨by omega,by omega⟩
 ·exact ⟨by omega,by omega⟩
theorem neg_tdiv {n : Int} (h : 0 ≤ n) : (-(n + 1)).tdiv 2 = -((n + 1) / 2) := by
 rw [Int.neg_tdiv,Int.tdiv_eq_ediv_of_nonneg (by omega)]
theorem I_Signed (n : Int) (hn : I64 n) : Con Tryz.prog 142 [] [ai n] [] (I (signed n)) := by
 obtain ⟨hn1,hn2⟩ := hn
 refine Con.of Tryz.func142 J Tryz.ntmps142 J (fun E => ?_)
 refine zy (z1 J (zz (Qd (zy (z0 J (zx (Z5 J J J J) J (z0 J ?_)))))));refine zx (Qt.grdF J J J .stop (fun hgrd => Qa J J J)) J ?_;refine zx (Qt.grdF J J J (.hit .stop) (fun hgrd => Zy J J J J)) J ?_;refine zx (Z8 J J J J) J (zz ?_)
 refine Xb J (fun h => ?_) (fun h => ?_)
 ·simp only [Bool.or_eq_true,decide_eq_true_eq] at h
  refine zy (z1 J (zz (Xa (T_r (F_r ?_)))))
  exact Xp J J (X6 [] (by decide) J J (Xx (by rw [signed,if_neg (by omega)])))
 simp only [Bool.or_eq_false_iff,decide_eq_false_iff_not] at h
 have hv := neg_tdiv (n := n) (by omega)
 refine Qh (Q0 (Qd (zy (z0 J (zx (Z9 J J J J (by omega)) J (zx (Zu J J J J) J (zz ?_)))))))
 refine Xb J (fun h1 => ?_) (fun h1 => ?_)
 ·have h1 := of_decide_eq_true h1
  refine zy (z0 J (zx (q_quo J J J J (by omega)) J (z1 J (zz (Xa (T_r (F_r ?_)))))))
  exact Xp J J (X6 [] (by decide) J J (Xx (by rw [signed,if_pos (by omega),if_pos (by omega)])))
 ·have h1 := of_decide_eq_false h1
  refine Qh (Q0 (zy (z0 J (z7 J (by omega) (zx (q_neg J J J (by omega)) J (zx (q_quoN J J J J (by assumption) (by omega)) J (z1 J (zz (Xa ?_)))))))));refine F_r ?_
  exact Xp J J (X6 [] (by decide) J J (Xx (by rw [signed,if_pos (by omega),if_neg (by omega)])))
theorem S_Signed (n : Int) (hn : I64 n) : Con Tryz.prog 158 [] [ai n] [] (I (signed n)) := by
 obtain ⟨hn1,hn2⟩ := hn
 refine Con.of Tryz.func158 J Tryz.ntmps158 J (fun E => ?_)
 refine zy (z1 J (zz (Qd (zy (z0 J ?_)))));refine zx (Qj J J (S_in n 0 1099511627775) J) J ?_;refine zn J (zz ?_)
 refine Xb J (fun h => ?_) (fun h => ?_)
 ·have h : ¬ (0 ≤ n ∧ n ≤ 1099511627775) := by rw [← Y3]; simpa using h
  refine zy (z1 J (zz (Xa (T_r (F_r ?_)))))
  exact Xp J J (X6 [] (by decide) J J (Xx (by rw [signed,if_neg h])))
 have h : 0 ≤ n ∧ n ≤ 1099511627775 := by rw [← Y3]; simpa using h
 have hv := neg_tdiv (n := n) (by omega)
 have hm : n.toNat &&& (1 : Int).toNat = n.toNat % 2 := Nat.and_two_pow_sub_one_eq_mod n.toNat 1
 refine Qh (Q0 (Qd (zy (z0 J (zx (q_bandK J J J J (by assumption) (by omega)) J (zx (Zu J J J J) J (zz ?_)))))))
 refine Xb J (fun h1 => ?_) (fun h1 => ?_)
 ·have h1 := of_decide_eq_true h1
  refine zy (z0 J (z7 J (by omega) (zx (q_neg J J J (by omega)) J (zx (q_quoN J J J J (by assumption) (by omega)) J (z1 J (zz (Xa (T_r (F_r ?_)))))))))
  exact Xp J J (X6 [] (by decide) J J (Xx (by rw [signed,if_pos (by omega),if_neg (by omega)])))
 ·have h1 := of_decide_eq_false h1
  refine Qh (Q0 (zy (z0 J (zx (q_quo J J J J (by omega)) J (z1 J (zz (Xa (F_r ?_))))))))
  exact Xp J J (X6 [] (by decide) J J (Xx (by rw [signed,if_pos (by omega),if_pos (by omega)])))
/-! ### Lists -/
def uiGo (s : ByteArray) (p : Nat) : Nat → Nat → Option (List Int × Nat)
 | 0,pos => some ([],pos)
 | c + 1,pos => match decVar s ((p : Int) + (pos : Int)) with
  | none => none
  | some (v,m) => (uiGo s p c (pos + m)).map fun r => (signed v :: r.1,r.2)
def unpackInts (s : ByteArray) (p : Int) : Option (List Int × Nat) := match decVar s p with
 | none => none
 | some (n,k) => uiGo s p.toNat n.toNat k
@[reducible] def uiO : Option (List Int × Nat) → List Ob
 | none => [.row 1 []]
 | some (l,_) => [.row 1 (els l)]
@[reducible] def uiR : Option (List Int × Nat) → V
 | none => .tu [.c (.ref 0),.c (jn 0),.c (bv false)]
 | some (_,k) => .tu [.c (.ref 0),.c (jn k),.c (bv true)]
theorem uiGo_some (s : ByteArray) (p : Nat) : ∀ (c pos : Nat) (l : List Int) (j : Nat),uiGo s p c pos = some (l,j) → l.length = c ∧ pos + c ≤ j ∧ (0 < c → p + j ≤ s.size) ∧ (∀ x ∈ l,I64 x) := by
 intro c
 induction c with
 | zero =>
  intro pos l j h
  simp only [uiGo,Option.some.injEq,Prod.mk.injEq] at h
  obtain ⟨rfl,rfl⟩ := h
  exact ⟨J,by omega,fun h => by omega,fun x hx => by simp at hx⟩
 | succ c ih =>
  intro pos l j h
  rw [uiGo] at h
  split at h
  ·cases h
  ·rename_i v m hd
   obtain ⟨r,h1,h2⟩ := Option.map_eq_some_iff.1 h
   simp only [Prod.mk.injEq] at h2
   obtain ⟨rfl,rfl⟩ := h2
   have hm := Ym hd
   obtain ⟨a1,a2,a3,a4⟩ := ih (pos + m) r.1 r.2 h1
   refine ⟨by simp [a1],by omega,fun _ => ?_,fun x hx => ?_⟩
   ·by_cases hc : 0 < c
    ·exact a3 hc
    ·have : c = 0 := by omega
     subst this
     simp only [uiGo,Option.some.injEq] at h1
     rw [← h1]
     show p + (pos + m) ≤ s.size
     omega
   ·rcases List.mem_cons.1 hx with rfl | hx
    ·exact signed_gd v
    ·exact a4 x hx
theorem Ku {s : ByteArray} {p : Int} {l : List Int} {j : Nat} (h : unpackInts s p = some (l,j)) : 0 ≤ p ∧ 1 ≤ j ∧ p + j ≤ s.size ∧ (l.length : Int) + 1 ≤ j ∧ (∀ x ∈ l,I64 x) := by
 unfold unpackInts at h
 split at h
 ·cases h
 ·rename_i n k hd
  have hm := Ym hd
  obtain ⟨a1,a2,a3,a4⟩ := uiGo_some s _ _ _ _ _ h
  refine ⟨hm.1,by omega,?_,by omega,a4⟩
  by_cases hn : 0 < n.toNat
  ·have := a3 hn; omega
  ·have h0 : n.toNat = 0 := by omega
   rw [h0] at h
   simp only [uiGo,Option.some.injEq,Prod.mk.injEq] at h
   omega
theorem els_snocI (acc : List Int) (v : Int) : els (acc ++ [v]) = els acc ++ [[.v (.int .i64 v)]] := by simp [els,Enc.e]
theorem I_UnpackInts (s : ByteArray) (p : Int) (hs : s.size ≤ 1099511627776) (hp : I64 p) : Con Tryz.prog 112 [] [astr s,ai p] (uiO (unpackInts s p)) (uiR (unpackInts s p)) := by
 have hd := Xs s p hs hp
 cases hv : decVar s p with
 | none =>
  rw [hv] at hd
  rw [show unpackInts s p = none by rw [unpackInts,hv]]
  refine Con.of Tryz.func112 J Tryz.ntmps112 J (fun E => ?_)
  refine zy (z1 J (z1 J (z1 J (zz (zy (z0 J (z0 J ?_)))))));refine M1 (Zs J J (hd) J J J) J J ?_;refine zx (Q8 J J J) J (ze J (ze J (ze J (z1 J (z1 J (z1 J (zz (Qd (zy ?_)))))))));refine z0 J (zn J (z0 J (z6 J (z6 J (z6 J (z6 J (z6 J (z6 J (z6 J (z6 J (zpT J ?_)))))))))));refine zz (Qm J (zy (z1 J (z1 J (z1 J (zz (Xa (T_r ?_))))))));refine F_r ?_
  exact Xr J J J J (X7 [1] [0] J J (by decide) J J J)
 | some r =>
  obtain ⟨n,k0⟩ := r
  rw [hv] at hd
  have hm := Ym hv
  obtain ⟨q,rfl⟩ : ∃ q : Nat,p = q := ⟨p.toNat,by omega⟩
  obtain ⟨c,rfl⟩ : ∃ c : Nat,n = c := ⟨n.toNat,by omega⟩
  rw [show unpackInts s q = uiGo s q c k0 by rw [unpackInts,hv]; rfl]
  by_cases hbig : (s.size : Int) - q - k0 < c
  ·have hb : decide ((s.size : Int) - q - k0 < c) = true := decide_eq_true hbig
   have hno : uiGo s q c k0 = none := by
    cases ho : uiGo s q c k0 with
    | none => rfl
    | some r =>
     have := uiGo_some s q c k0 r.1 r.2 ho
     omega
   rw [hno]
   refine Con.of Tryz.func112 J Tryz.ntmps112 J (fun E => ?_)
   refine zy (z1 J (z1 J (z1 J (zz (zy (z0 J (z0 J ?_)))))));refine M1 (Zs J J (hd) J J J) J J ?_;refine zx (Q8 J J J) J (ze J (ze J (ze J (z1 J (z1 J (z1 J (zz (Qd (zy ?_)))))))));refine z0 J (zn J (z0 J (z5 J (z0 J (z5 J (z0 J (z5 J (zx (Z3 J J J) J (z5 J (z0 J (z5 J ?_)))))))))));refine z8 J (by omega) (z5 J (z0 J (z5 J (z8 J (by omega) (z5 J (z9c J (by assumption) (zpF J (zz (Qm J (Qd ?_))))))))));refine Qc (z1 J (z1 J (z1 J (zz (Xa (T_r (F_r ?_)))))))
   exact Xr J J J J (X7 [1] [0] J J (by decide) J J J)
  have hb : decide ((s.size : Int) - q - k0 < c) = false := decide_eq_false hbig
  refine Con.of Tryz.func112 J Tryz.ntmps112 J (fun E => ?_)
  refine zy (z1 J (z1 J (z1 J (zz (zy (z0 J (z0 J ?_)))))));refine M1 (Zs J J (hd) J J J) J J ?_;refine zx (Q8 J J J) J (ze J (ze J (ze J (z1 J (z1 J (z1 J (zz (Qd (zy ?_)))))))));refine z0 J (zn J (z0 J (z5 J (z0 J (z5 J (z0 J (z5 J (zx (Z3 J J J) J (z5 J (z0 J (z5 J ?_)))))))))));refine z8 J (by omega) (z5 J (z0 J (z5 J (z8 J (by omega) (z5 J (z9c J (by assumption) (zpF J (zz (Ql J (Qh ?_))))))))));refine Q0 (zy (z0 J ?_));refine M1 (q_makec 1 J J J J (by omega) (by omega) (by omega) (by omega) J (by simp)) J J ?_;refine z1 J (zz (Qd (zy (z1 J (zz (Qk ?_))))));refine A_lq (fun m__ st => ∃ (k : Nat) (pos : Nat) (acc : List Int),c - k = m__ ∧ (k ≤ c ∧ acc.length = k ∧ q + pos + (c - k) ≤ s.size + (c - k) ∧ q + pos ≤ s.size ∧ (uiGo s q (c - k) pos).map (fun r => (acc ++ r.1,r.2)) = uiGo s q c k0) ∧ st = (⟨_,[(0,S s),(1,I q),(7,I c),(8,I pos),(10,.o (.c (.ref 0))),(11,I k)],[.row 1 (els acc)]⟩ : St)) _ ⟨_,⟨0,k0,[],J,⟨by omega,J,by omega,by omega,by simp⟩,J⟩,W_gj [0] J⟩ ?_
  rintro m_A _ ⟨k,pos,acc,hk_A,hp_A,rfl⟩
  obtain ⟨hkc,hacc,_,hpos,hgo⟩ := hp_A
  have hla := Yq acc
  rw [← hgo]
  refine Qd (zy (z0 J (z0 J (zx (Z5 J J J J) J (zz ?_)))))
  refine Xb J (fun h => ?_) (fun h => ?_)
  ·have hlt : k < c := by have := of_decide_eq_true h; omega
   have hd2 := Xs s ((q : Int) + (pos : Int)) hs ⟨by omega,by omega⟩
   obtain ⟨f,hf⟩ : ∃ f,c - k = f + 1 := ⟨c - k - 1,by omega⟩
   rw [hf]
   cases hv2 : decVar s ((q : Int) + (pos : Int)) with
   | none =>
    rw [hv2] at hd2
    rw [show uiGo s q (f + 1) pos = none by rw [uiGo,hv2]]
    refine Qh (Q0 (Qd (Qk (zy (z0 J (z0 J (z0 J (z7 J (by omega) ?_))))))));refine M1 (Zs J J (hd2) J J J) J J ?_;refine zx (Q8 J J J) J (ze J (ze J (ze J (z1 J (z1 J (z1 J (zz (Qd (zy ?_)))))))));refine z0 J (zn J (zz (Qm J (zy (z1 J (z1 J (z1 J (zz ?_))))))));refine Xa (T_r (B_r (T_r (T_r (B_r (T_r (F_r ?_)))))))
    exact Xr J J J J (X7 [1] [1] J J (by decide) J J J)
   | some r =>
    obtain ⟨v,m⟩ := r
    rw [hv2] at hd2
    have hm2 := Ym hv2
    have hsg := I_Signed v ⟨by omega,by omega⟩
    refine Qh (Q0 (Qd (Qk (zy (z0 J (z0 J (z0 J (z7 J (by omega) ?_))))))));refine M1 (Zs J J (hd2) J J J) J J ?_;refine zx (Q8 J J J) J (ze J (ze J (ze J (z1 J (z1 J (z1 J (zz (Qd (zy ?_)))))))));refine z0 J (zn J (zz (Ql J (Qh (Q0 (zy (z0 J (z0 J ?_))))))));refine zx (Qj J J (hsg) J) J ?_;refine M1 (Zm J J J J J J) J J ?_;refine M_appsb J J J J J J J J J J (by omega) (by omega) ?_;refine z1 J (zz (Qc (z0 J (z0 J (z7 J (by omega) (z1 J (Qe (Q1 (Q0 (Qc ?_))))))))));refine z0 J (z7 J (by omega) (z1 J (zz ?_)))
    refine ⟨_,(by omega),(fun (k : Nat) (pos : Nat) (acc : List Int) => (⟨_,[(0,S s),(1,I q),(7,I c),(8,I pos),(10,.o (.c (.ref 0))),(11,I k)],[.row 1 (els acc)]⟩ : St)) (k + 1) (pos + m) (acc ++ [signed v]),⟨k + 1,pos + m,acc ++ [signed v],J,⟨by omega,by simp [hacc],by omega,by omega,by rw [uiGo,hv2,show c - (k + 1) = f by omega]; simp [Option.map_map]; rfl⟩,J⟩,X8 [0] (by decide) J (Ki (els_snocI acc _)) (.c J (.c J (.c J (.c J (.c J (.c J (.nil)))))))⟩
  ·have hkk : k = c := by have := of_decide_eq_false h; omega
   subst hkk
   rw [show uiGo s q (k - k) pos = some ([],pos) by rw [Nat.sub_self]; rfl]
   refine Q9 (T_x (T_x (Xl (Q0 (zy (z0 J (z0 J (z1 J (z1 J (z1 J ?_))))))))));refine zz (Xa (F_r ?_))
   exact Xr J J J J (X6 [0] (by decide) J (Ki (by simp)) J)
theorem S_UnpackInts (s : ByteArray) (p : Int) (hs : s.size ≤ 1099511627776) (hp : I64 p) : Con Tryz.prog 147 [] [astr s,ai p] (uiO (unpackInts s p)) (uiR (unpackInts s p)) := by
 have hd := X0 s p hs hp
 have h00 : ([] : List (List T)).length = 0 := rfl
 cases hv : decVar s p with
 | none =>
  rw [hv] at hd
  rw [show unpackInts s p = none by rw [unpackInts,hv]]
  have hb0 : decide ((0 : Int) < 0) = false := rfl
  refine Con.of Tryz.func147 J Tryz.ntmps147 J (fun E => ?_)
  refine zy (z1 J (z1 J (z1 J (zz (zy (z0 J (z0 J ?_)))))));refine M1 (Zs J J (hd) J J J) J J ?_;refine zx (Q8 J J J) J (ze J (ze J (ze J (z1 J (z1 J (z1 J (zz (zy (M1 (Zn J J J) J J ?_)))))))));refine z1 J (zz (Qd (zy (z1 J (zz (Qk ?_))))));refine A_lq (fun m st => ∃ k : Nat,k + m = 1 ∧ (k = 0) ∧ st = (⟨_,[(7,I 0),(9,B false),(11,I k)],[]⟩ : St)) (1) ⟨_,⟨0,by omega,J,J⟩,W_gj [] J⟩ ?_
  rintro m_A _ ⟨k,hk_A,hp_A,rfl⟩
  subst hp_A
  refine Qd (zy (z0 J (z0 J (z9a J (by assumption) (z0 J (z6 J (zpF J (zz (Ql J ?_)))))))));refine Q9 (T_x (T_x (Xl (Q0 (Qd (zy (z0 J (zn J (zz ?_)))))))));refine Qm J (zy (M1 (Zn J J J) J J (z1 J (z1 J (z1 J (zz (Xa (T_r (F_r ?_)))))))))
  exact Xr J J J J (X6 [0] (by decide) J J J)
 | some r =>
  obtain ⟨n,k0⟩ := r
  rw [hv] at hd
  have hm := Ym hv
  obtain ⟨q,rfl⟩ : ∃ q : Nat,p = q := ⟨p.toNat,by omega⟩
  obtain ⟨c,rfl⟩ : ∃ c : Nat,n = c := ⟨n.toNat,by omega⟩
  rw [show unpackInts s q = uiGo s q c k0 by rw [unpackInts,hv]; rfl]
  refine Con.of Tryz.func147 J Tryz.ntmps147 J (fun E => ?_)
  refine zy (z1 J (z1 J (z1 J (zz (zy (z0 J (z0 J ?_)))))));refine M1 (Zs J J (hd) J J J) J J ?_;refine zx (Q8 J J J) J (ze J (ze J (ze J (z1 J (z1 J (z1 J (zz (zy (M1 (Zn J J J) J J ?_)))))))));refine z1 J (zz (Qd (zy (z1 J (zz (Qk ?_))))));refine A_lq (fun m__ st => ∃ (k : Nat) (pos : Nat) (acc : List Int) (ok : Bool),c + 1 - k = m__ ∧ (k ≤ c + 1 ∧ acc.length = k ∧ k ≤ s.size + 1 ∧ (ok = true → k ≤ c ∧ k + 1 ≤ pos ∧ q + pos ≤ s.size ∧ (uiGo s q (c - k) pos).map (fun r => (acc ++ r.1,r.2)) = uiGo s q c k0) ∧ (ok = false → uiGo s q c k0 = none) ∧ pos ≤ s.size) ∧ st = (⟨_,[(0,S s),(1,I q),(7,I c),(8,I pos),(9,B ok),(10,.o (.c (.ref 0))),(11,I k)],[.row 1 (els acc)]⟩ : St)) _ ⟨_,⟨0,k0,[],true,J,⟨by omega,J,by omega,fun _ => ⟨by omega,by omega,by omega,by simp⟩,fun e => (by cases e),by omega⟩,J⟩,W_gj [0] J⟩ ?_
  rintro m_A _ ⟨k,pos,acc,ok,hk_A,hp_A,rfl⟩
  obtain ⟨hkc,hacc,hks,hok,hno,hps⟩ := hp_A
  have hla := Yq acc
  cases ok with
  | false =>
   rw [hno rfl]
   by_cases hlt : (k : Int) < c
   ·have hb : decide ((k : Int) < c) = true := decide_eq_true hlt
    refine Qd (zy (z0 J (z0 J (z9a J (by assumption) (z0 J (z5 J (z0 J (zpT J (zz ?_)))))))));refine Ql J (Q9 (T_x (T_x (Xl (Q0 (Qd (zy (z0 J (zn J (Qe ?_))))))))));refine Q0 (Qm J (zy (M1 (Zn J J J) J J (z1 J (z1 J (z1 J (zz (Xa (T_r ?_)))))))));refine F_r ?_
    exact Xr J J J J (X6 [1] (by decide) J J J)
   ·have hb : decide ((k : Int) < c) = false := decide_eq_false hlt
    refine Qd (zy (z0 J (z0 J (z9a J (by assumption) (z0 J (z6 J (zpF J (zz (Ql J ?_)))))))));refine Q9 (T_x (T_x (Xl (Q0 (Qd (zy (z0 J (zn J (zz ?_)))))))));refine Qm J (zy (M1 (Zn J J J) J J (z1 J (z1 J (z1 J (zz (Xa (T_r (F_r ?_)))))))))
    exact Xr J J J J (X6 [1] (by decide) J J J)
  | true =>
   obtain ⟨hkc2,hkp,hpos,hgo⟩ := hok rfl
   rw [← hgo]
   by_cases hlt : (k : Int) < c
   ·have hb : decide ((k : Int) < c) = true := decide_eq_true hlt
    have hd2 := X0 s ((q : Int) + (pos : Int)) hs ⟨by omega,by omega⟩
    obtain ⟨f,hf⟩ : ∃ f,c - k = f + 1 := ⟨c - k - 1,by omega⟩
    rw [hf]
    cases hv2 : decVar s ((q : Int) + (pos : Int)) with
    | none =>
     rw [hv2] at hd2
     rw [show uiGo s q (f + 1) pos = none by rw [uiGo,hv2]]
     have hsg := S_Signed 0 ⟨by omega,by omega⟩
     refine Qd (zy (z0 J (z0 J (z9a J (by assumption) (z0 J (z5 J (z0 J (zpT J (zz ?_)))))))));refine Qm J (Qh (Q0 (Qd (Qk (zy (z0 J (z0 J (z0 J (z7 J (by omega) ?_)))))))));refine M1 (Zs J J (hd2) J J J) J J ?_;refine zx (Q8 J J J) J (ze J (ze J (ze J (z1 J (z1 J (z1 J (zz (zy (z0 J ?_)))))))));refine z1 J (zz (zy (z0 J (z0 J (z7 J (by omega) (z1 J (zz (Qc ?_))))))));refine z0 J (z0 J ?_);refine zx (Qj J J (hsg) J) J ?_;refine M1 (Zm J J J J J J) J J ?_;refine M_appsb J J J J J J J J J J (by omega) (by omega) ?_;refine z1 J (Qe (Q1 (Q0 (Qc (z0 J (z7 J (by omega) (z1 J (zz ?_))))))))
     refine ⟨_,(by omega),(fun (k : Nat) (pos : Nat) (acc : List Int) (ok : Bool) => (⟨_,[(0,S s),(1,I q),(7,I c),(8,I pos),(9,B ok),(10,.o (.c (.ref 0))),(11,I k)],[.row 1 (els acc)]⟩ : St)) (k + 1) (pos) (acc ++ [signed 0]) (false),⟨k + 1,pos,acc ++ [signed 0],false,J,⟨by omega,by simp [hacc],by omega,fun e => (by cases e),fun _ => rfl,hps⟩,J⟩,X8 [0] (by decide) J (Ki (els_snocI acc _)) (.c J (.c J (.c J (.c J (.c J (.c J (.c J (.nil))))))))⟩
    | some r =>
     obtain ⟨v,m⟩ := r
     rw [hv2] at hd2
     have hm2 := Ym hv2
     have hsg := S_Signed v ⟨by omega,by omega⟩
     refine Qd (zy (z0 J (z0 J (z9a J (by assumption) (z0 J (z5 J (z0 J (zpT J (zz ?_)))))))));refine Qm J (Qh (Q0 (Qd (Qk (zy (z0 J (z0 J (z0 J (z7 J (by omega) ?_)))))))));refine M1 (Zs J J (hd2) J J J) J J ?_;refine zx (Q8 J J J) J (ze J (ze J (ze J (z1 J (z1 J (z1 J (zz (zy (z0 J ?_)))))))));refine z1 J (zz (zy (z0 J (z0 J (z7 J (by omega) (z1 J (zz (Qc ?_))))))));refine z0 J (z0 J ?_);refine zx (Qj J J (hsg) J) J ?_;refine M1 (Zm J J J J J J) J J ?_;refine M_appsb J J J J J J J J J J (by omega) (by omega) ?_;refine z1 J (Qe (Q1 (Q0 (Qc (z0 J (z7 J (by omega) (z1 J (zz ?_))))))))
     refine ⟨_,(by omega),(fun (k : Nat) (pos : Nat) (acc : List Int) (ok : Bool) => (⟨_,[(0,S s),(1,I q),(7,I c),(8,I pos),(9,B ok),(10,.o (.c (.ref 0))),(11,I k)],[.row 1 (els acc)]⟩ : St)) (k + 1) (pos + m) (acc ++ [signed v]) (true),⟨k + 1,pos + m,acc ++ [signed v],true,J,⟨by omega,by simp [hacc],by omega,fun _ => ⟨by omega,by omega,by omega,by rw [uiGo,hv2,show c - (k + 1) = f by omega]; simp [Option.map_map]; rfl⟩,fun e => (by cases e),by omega⟩,J⟩,X8 [0] (by decide) J (Ki (els_snocI acc _)) (.c J (.c J (.c J (.c J (.c J (.c J (.c J (.nil))))))))⟩
   ·have hb : decide ((k : Int) < c) = false := decide_eq_false hlt
    have hkk : k = c := by omega
    subst hkk
    rw [show uiGo s q (k - k) pos = some ([],pos) by rw [Nat.sub_self]; rfl]
    refine Qd (zy (z0 J (z0 J (z9a J (by assumption) (z0 J (z6 J (zpF J (zz (Ql J ?_)))))))));refine Q9 (T_x (T_x (Xl (Q0 (Qd (zy (z0 J (zn J (zz ?_)))))))));refine Ql J (Qh (Q0 (zy (z0 J (z0 J (z1 J (z1 J (z1 J (zz ?_)))))))));refine Xa (F_r ?_)
    exact Xr J J J J (X6 [0] (by decide) J (Ki (by simp)) J)
/-! ### Texts -/
def unpackText (s : ByteArray) (p : Int) : Option (ByteArray × Nat) := match decVar s p with
 | none => none
 | some (n,k) => if (s.size : Int) - p - k < n then none else some (s.extract (p + k).toNat (p + k + n).toNat,k + n.toNat)
@[reducible] def utR : Option (ByteArray × Nat) → V
 | none => .tu [.c (.rd [] (.v (.string ⟨#[]⟩))),.c (jn 0),.c (bv false)]
 | some (t,k) => .tu [.c (.rd [] (.v (.string t))),.c (jn k),.c (bv true)]
theorem unpackText_some {s t : ByteArray} {p : Int} {j : Nat} (h : unpackText s p = some (t,j)) : 0 ≤ p ∧ 1 ≤ j ∧ p + j ≤ s.size ∧ t.size + 1 ≤ j ∧ t = s.extract (p + j - t.size).toNat (p + j).toNat := by
 unfold unpackText at h
 split at h
 ·cases h
 ·rename_i n k hd
  have hm := Ym hd
  split at h
  ·cases h
  ·simp only [Option.some.injEq,Prod.mk.injEq] at h
   obtain ⟨rfl,rfl⟩ := h
   have hsz : (s.extract (p + k).toNat (p + k + n).toNat).size = n.toNat := by
    rw [ByteArray.size_extract]; omega
   refine ⟨hm.1,by omega,by omega,by omega,?_⟩
   rw [hsz]
   congr 1 <;> omega
theorem tu3 {a b : V2} {x y : Int} (h : x = y) : V.tu [a,.c (.rd [] (.v (.int .i64 x))),b] = V.tu [a,.c (.rd [] (.v (.int .i64 y))),b] := by rw [h]
theorem I_UnpackText (s : ByteArray) (p : Int) (hs : s.size ≤ 1099511627776) (hp : I64 p) : Con Tryz.prog 141 [] [astr s,ai p] [] (utR (unpackText s p)) := by
 have hd := Xs s p hs hp
 cases hv : decVar s p with
 | none =>
  rw [hv] at hd
  rw [show unpackText s p = none by rw [unpackText,hv]]
  refine Con.of Tryz.func141 J Tryz.ntmps141 J (fun E => ?_)
  refine zy (z1 J (z1 J (z1 J (zz (zy (z0 J (z0 J ?_)))))));refine M1 (Zs J J (hd) J J J) J J ?_;refine zx (Q8 J J J) J (ze J (ze J (ze J (z1 J (z1 J (z1 J (zz (Qd (zy ?_)))))))));refine z0 J (zn J (z0 J (z6 J (z6 J (z6 J (z6 J (z6 J (z6 J (z6 J (z6 J (zpT J ?_)))))))))));refine zz (Qm J (zy (z1 J (z1 J (z1 J (zz (Xa (T_r ?_))))))));refine F_r ?_
  exact Xr J J J J (X6 [] (by decide) J J J)
 | some r =>
  obtain ⟨n,k⟩ := r
  rw [hv] at hd
  have hm := Ym hv
  by_cases hbig : (s.size : Int) - p - k < n
  ·have hb : decide ((s.size : Int) - p - k < n) = true := decide_eq_true hbig
   rw [show unpackText s p = none by rw [unpackText,hv]; exact if_pos hbig]
   refine Con.of Tryz.func141 J Tryz.ntmps141 J (fun E => ?_)
   refine zy (z1 J (z1 J (z1 J (zz (zy (z0 J (z0 J ?_)))))));refine M1 (Zs J J (hd) J J J) J J ?_;refine zx (Q8 J J J) J (ze J (ze J (ze J (z1 J (z1 J (z1 J (zz (Qd (zy ?_)))))))));refine z0 J (zn J (z0 J (z5 J (z0 J (z5 J (z0 J (z5 J (zx (Z3 J J J) J (z5 J (z0 J (z5 J ?_)))))))))));refine z8 J (by omega) (z5 J (z0 J (z5 J (z8 J (by omega) (z5 J (z9c J (by assumption) (zpF J (zz (Qm J (Qd ?_))))))))));refine Qc (z1 J (z1 J (z1 J (zz (Xa (T_r (F_r ?_)))))))
   exact Xr J J J J (X6 [] (by decide) J J J)
  have hb : decide ((s.size : Int) - p - k < n) = false := decide_eq_false hbig
  rw [show unpackText s p = some (s.extract (p + k).toNat (p + k + n).toNat,k + n.toNat) by rw [unpackText,hv]; exact if_neg hbig]
  refine Con.of Tryz.func141 J Tryz.ntmps141 J (fun E => ?_)
  refine zy (z1 J (z1 J (z1 J (zz (zy (z0 J (z0 J ?_)))))));refine M1 (Zs J J (hd) J J J) J J ?_;refine zx (Q8 J J J) J (ze J (ze J (ze J (z1 J (z1 J (z1 J (zz (Qd (zy ?_)))))))));refine z0 J (zn J (z0 J (z5 J (z0 J (z5 J (z0 J (z5 J (zx (Z3 J J J) J (z5 J (z0 J (z5 J ?_)))))))))));refine z8 J (by omega) (z5 J (z0 J (z5 J (z8 J (by omega) (z5 J (z9c J (by assumption) (zpF J (zz (Ql J (Qh ?_))))))))));refine Q0 (zy (z0 J (z0 J (z0 J (z7 J (by omega) (z0 J (z0 J (z7 J (by omega) (z0 J (z7 J (by omega) ?_))))))))));refine zx (Kb J J J J J (by omega)) J (z0 J (z0 J (z7 J (by omega) (z1 J (z1 J (z1 J (zz (Xa (F_r ?_)))))))))
  exact Xr J J J J (X6 [] (by decide) J J (tu3 (by omega)))
theorem S_UnpackText (s : ByteArray) (p : Int) (hs : s.size ≤ 1099511627776) (hp : I64 p) : Con Tryz.prog 157 [] [astr s,ai p] [] (utR (unpackText s p)) := by
 have hd := X0 s p hs hp
 cases hv : decVar s p with
 | none =>
  rw [hv] at hd
  rw [show unpackText s p = none by rw [unpackText,hv]]
  refine Con.of Tryz.func157 J Tryz.ntmps157 J (fun E => ?_)
  refine zy (z1 J (z1 J (z1 J (zz (zy (z0 J (z0 J ?_)))))));refine M1 (Zs J J (hd) J J J) J J ?_;refine zx (Q8 J J J) J (ze J (ze J (ze J (z1 J (z1 J (z1 J (zz (Qd (zy ?_)))))))));refine z0 J (zn J (z0 J (z6 J (z6 J (z6 J (z6 J (z6 J (z6 J (z6 J (z6 J (zpT J ?_)))))))))));refine zz (Qm J (zy (z1 J (z1 J (z1 J (zz (Xa (T_r ?_))))))));refine F_r ?_
  exact Xr J J J J (X6 [] (by decide) J J J)
 | some r =>
  obtain ⟨n,k⟩ := r
  rw [hv] at hd
  have hm := Ym hv
  by_cases hbig : (s.size : Int) - p - k < n
  ·have hb : decide ((s.size : Int) - p - k < n) = true := decide_eq_true hbig
   rw [show unpackText s p = none by rw [unpackText,hv]; exact if_pos hbig]
   refine Con.of Tryz.func157 J Tryz.ntmps157 J (fun E => ?_)
   refine zy (z1 J (z1 J (z1 J (zz (zy (z0 J (z0 J ?_)))))));refine M1 (Zs J J (hd) J J J) J J ?_;refine zx (Q8 J J J) J (ze J (ze J (ze J (z1 J (z1 J (z1 J (zz (Qd (zy ?_)))))))));refine z0 J (zn J (z0 J (z5 J (z0 J (z5 J (z0 J (z5 J (zx (Z3 J J J) J (z5 J (z0 J (z5 J ?_)))))))))));refine z8 J (by omega) (z5 J (z0 J (z5 J (z8 J (by omega) (z5 J (z9c J (by assumption) (zpF J (zz (Qm J (Qd ?_))))))))));refine Qc (z1 J (z1 J (z1 J (zz (Xa (T_r (F_r ?_)))))))
   exact Xr J J J J (X6 [] (by decide) J J J)
  have hb : decide ((s.size : Int) - p - k < n) = false := decide_eq_false hbig
  rw [show unpackText s p = some (s.extract (p + k).toNat (p + k + n).toNat,k + n.toNat) by rw [unpackText,hv]; exact if_neg hbig]
  refine Con.of Tryz.func157 J Tryz.ntmps157 J (fun E => ?_)
  refine zy (z1 J (z1 J (z1 J (zz (zy (z0 J (z0 J ?_)))))));refine M1 (Zs J J (hd) J J J) J J ?_;refine zx (Q8 J J J) J (ze J (ze J (ze J (z1 J (z1 J (z1 J (zz (Qd (zy ?_)))))))));refine z0 J (zn J (z0 J (z5 J (z0 J (z5 J (z0 J (z5 J (zx (Z3 J J J) J (z5 J (z0 J (z5 J ?_)))))))))));refine z8 J (by omega) (z5 J (z0 J (z5 J (z8 J (by omega) (z5 J (z9c J (by assumption) (zpF J (zz (Ql J (Qh ?_))))))))));refine Q0 (zy (z0 J (z0 J (z0 J (z7 J (by omega) (z0 J (z0 J (z7 J (by omega) (z0 J (z7 J (by omega) ?_))))))))));refine zx (Kb J J J J J (by omega)) J (z0 J (z0 J (z7 J (by omega) (z1 J (z1 J (z1 J (zz (Xa (F_r ?_)))))))))
  exact Xr J J J J (X6 [] (by decide) J J (tu3 (by omega)))
@[reducible] def otR : Option ByteArray → V
 | none => .tu [.c (.rd [] (.v (.string ⟨#[]⟩))),.c (bv false)]
 | some t => .tu [.c (.rd [] (.v (.string t))),.c (bv true)]
end
section
open Go.RowKit
end
section
open Go.RowKit
end
section
open Go.RowKit
end
section
open Go.RowKit
end
section
open Go.RowKit

/-! ### Numbers -/
theorem bytesL_len {s : ByteArray} {q k : Nat} (h : q + k ≤ s.size) : (bytesL s q k).length = k := by
 have : s.data.toList.length = s.size := by simp
 simp [bytesL]; omega
theorem dvGo_canon (s : ByteArray) (q : Nat) : ∀ (f k : Nat) (m : Int) (j : Nat),q + k ≤ s.size → (∀ a ∈ bytesL s q k,128 ≤ a.toNat) → dvGo s q (dval (bytesL s q k) : Nat) k f = some (m,j) → encVar m = bytesL s q j := by
 intro f
 induction f with
 | zero => intro k m j _ _ h; simp [dvGo] at h
 | succ f ih =>
  intro k m j hqk hall h
  have hlen := bytesL_len hqk
  rw [dvGo] at h
  split at h
  ·rename_i hlt
   obtain ⟨b,hb,hcb⟩ := bytesL_succ hlt
   have hval : (dval (bytesL s q k) : Int) + byteAt s (q + k) % 128 * 2 ^ (7 * k) = ((dval (bytesL s q (k + 1)) : Nat) : Int) := by
    rw [hb,dval_snoc,hlen,hcb]
    push_cast
    rfl
   rw [hval] at h
   split at h
   ·rename_i h128
    refine ih (k + 1) m j (by omega) (fun a ha => ?_) h
    rw [hb] at ha
    rcases List.mem_append.1 ha with ha | ha
    ·exact hall a ha
    ·simp only [List.mem_singleton] at ha
     rw [ha]; omega
   ·rename_i h128
    split at h
    ·cases h
    ·rename_i hbad
     simp only [Option.some.injEq,Prod.mk.injEq] at h
     obtain ⟨rfl,rfl⟩ := h
     have hcan := canon (b := b) (by omega) (bytesL s q k) hall
     have hnil : bytesL s q k = [] ↔ k = 0 := by rw [← List.length_eq_zero_iff,hlen]
     rw [← hb,hnil] at hcan
     rw [encVar,if_pos (by omega),show ((dval (bytesL s q (k + 1)) : Nat) : Int).toNat = dval (bytesL s q (k + 1)) by omega]
     exact hcan.2 (by omega)
  ·cases h
theorem decVar_canon {s : ByteArray} {p m : Int} {j : Nat} (h : decVar s p = some (m,j)) : encVar m = bytesL s p.toNat j := by
 unfold decVar at h
 split at h
 ·exact dvGo_canon s p.toNat 6 0 m j (by omega) (by simp [bytesL]) (by simpa [bytesL,dval] using h)
 ·cases h
theorem signless_signed {u : Int} (h : 0 ≤ u ∧ u ≤ 1099511627775) : signless (signed u) = u := by
 unfold signed
 rw [if_pos h]
 split
 ·rw [signless,if_pos (by omega),if_pos (by omega)]; omega
 ·rw [signless,if_pos (by omega),if_neg (by omega)]; omega
/-! ### Lists -/
theorem bytesL_app {s : ByteArray} {q j k : Nat} : bytesL s q j ++ bytesL s (q + j) k = bytesL s q (j + k) := by
 unfold bytesL
 rw [← List.drop_drop,List.take_add]
def packB (l : List Int) : List UInt8 := l.flatMap fun x => encVar (signless x)
theorem uiGo_canon (s : ByteArray) (p : Nat) : ∀ (c pos : Nat) (l : List Int) (j : Nat),uiGo s p c pos = some (l,j) → pos ≤ j ∧ packB l = bytesL s (p + pos) (j - pos) ∧ ∀ x ∈ l,0 ≤ signless x := by
 intro c
 induction c with
 | zero =>
  intro pos l j h
  simp only [uiGo,Option.some.injEq,Prod.mk.injEq] at h
  obtain ⟨rfl,rfl⟩ := h
  exact ⟨Nat.le_refl _,by simp [packB,bytesL],fun x hx => by simp at hx⟩
 | succ c ih =>
  intro pos l j h
  rw [uiGo] at h
  split at h
  ·cases h
  ·rename_i v m hd
   obtain ⟨r,h1,h2⟩ := Option.map_eq_some_iff.1 h
   simp only [Prod.mk.injEq] at h2
   obtain ⟨rfl,rfl⟩ := h2
   have hm := Ym hd
   have hcn := decVar_canon hd
   obtain ⟨a1,a2,a3⟩ := ih (pos + m) r.1 r.2 h1
   have hsg := signless_signed (u := v) (by omega)
   refine ⟨by omega,?_,fun x hx => ?_⟩
   ·rw [packB,List.flatMap_cons,hsg,hcn,show ((p : Int) + (pos : Int)).toNat = p + pos by omega]
    show bytesL s (p + pos) m ++ packB r.1 = _
    rw [a2,show p + (pos + m) = p + pos + m by omega,bytesL_app]
    congr 1
    omega
   ·rcases List.mem_cons.1 hx with rfl | hx
    ·rw [hsg]; omega
    ·exact a3 x hx
theorem unpackInts_canon {s : ByteArray} {p : Int} {l : List Int} {j : Nat} (h : unpackInts s p = some (l,j)) : packInts l = bs (bytesL s p.toNat j) := by
 unfold unpackInts at h
 split at h
 ·cases h
 ·rename_i n k hd
  have hm := Ym hd
  have hcn := decVar_canon hd
  obtain ⟨a1,a2,a3⟩ := uiGo_canon s _ _ _ _ _ h
  obtain ⟨b1,b2,b3,b4⟩ := uiGo_some s _ _ _ _ _ h
  have hall : (l.all fun x => decide (0 ≤ signless x)) = true := List.all_eq_true.2 fun x hx => decide_eq_true (a3 x hx)
  rw [packInts,if_pos hall,packK,List.take_length,show (l.length : Int) = n by omega,hcn]
  show bs (bytesL s p.toNat k ++ packB l) = _
  rw [a2,bytesL_app]
  congr 2
  omega
/-! ### Texts -/
/-! ### Columns -/
/-! ### DecodeStream -/
theorem bytesL_all (s : ByteArray) (k : Nat) (h : k ≤ s.size) : bs (bytesL s 0 k) = s ↔ k = s.size := by
 constructor
 ·intro e
  have := congrArg ByteArray.size e
  rw [Yi,bytesL_len (by omega)] at this
  exact this
 ·intro e
  subst e
  unfold bytesL
  rw [List.drop_zero,show s.size = s.data.toList.length by simp,List.take_length,bs_of]
end
section
open Go.RowKit

def replayOk (r : TReplay) : Bool := levelOk r.Level && inR r.Players 1 4 && inR r.Seed 0 65535 && inR r.Every 1 100 && decide (r.Rows.length ≤ 400) && (r.Rows.all fun row => rowOk row r.Players) && decide ((r.Keys.length : Int) = (r.Rows.length : Int) / r.Every)
theorem replay_no {r : TReplay} (h : ((!levelOk r.Level || !inR r.Players 1 4) || !inR r.Seed 0 65535) = true ∨ ((!inR r.Every 1 100) || decide (400 < (r.Rows.length : Int))) = true ∨ (r.Rows.all fun row => rowOk row r.Players) = false) : replayOk r = false := by
 unfold replayOk
 rcases h with h | h | h
 ·simp only [Bool.or_eq_true,Bool.not_eq_true'] at h
  rcases h with (h | h) | h <;> simp [h]
 ·simp only [Bool.or_eq_true,Bool.not_eq_true',decide_eq_true_eq] at h
  rcases h with h | h
  ·simp [h]
  ·simp [show ¬ r.Rows.length ≤ 400 by omega]
 ·simp [h]
theorem replay_yes {r : TReplay} (h1 : ((!levelOk r.Level || !inR r.Players 1 4) || !inR r.Seed 0 65535) = false) (h2 : ((!inR r.Every 1 100) || decide (400 < (r.Rows.length : Int))) = false) (h3 : (r.Rows.all fun row => rowOk row r.Players) = true) : replayOk r = decide ((r.Keys.length : Int) = (r.Rows.length : Int) / r.Every) := by
 simp only [Bool.or_eq_false_iff,Bool.not_eq_false',decide_eq_false_iff_not] at h1 h2
 unfold replayOk
 rw [h3]
 simp [h1,h2,show r.Rows.length ≤ 400 by omega]

theorem Xv (x : TReplay) (hg : Enc.gd x) : Con Tryz.prog 17 [] [ag x] [] (B (replayOk x)) := by
 obtain ⟨g_Level,g_Players,g_Seed,g_Every,g_Rows,g_Keys⟩ := hg
 have g1 := g_Rows.1
 have g2 := g_Keys.1
 have hlr := Yq x.Rows
 have hlk := Yq x.Keys
 have cl := Xu x.Level g_Level
 refine Con.of Tryz.func17 J Tryz.ntmps17 J (fun E => ?_)
 refine zy (M1 (Qq J J J J) J J (z1 J (zz (Qd (zy (z2 J J J (z4 J J J ?_)))))));refine zx (Qj J J (cl) J) J ?_;refine zn J (z0 J ?_);refine zx (Qt.grdF J J J .stop (fun hgrd => Qf J J J J (by decide))) J ?_;refine zx (Qt.grdF J J J (.hit .stop) (fun hgrd => Qg J J J J J)) J ?_;refine zx (Qt.grdF J J J (.hit (.hit .stop)) (fun hgrd => Qj J J (Xw x.Players 1 4) J)) J ?_;refine zx (Qt.grdF J J J (.hit (.hit (.hit .stop))) (fun hgrd => Q4 J J J)) J ?_;refine zx (Z8 J J J J) J (z0 J ?_);refine zx (Qt.grdF J J J .stop (fun hgrd => Qf J J J J (by decide))) J ?_;refine zx (Qt.grdF J J J (.hit .stop) (fun hgrd => Qg J J J J J)) J ?_;refine zx (Qt.grdF J J J (.hit (.hit .stop)) (fun hgrd => Qj J J (Xw x.Seed 0 65535) J)) J ?_;refine zx (Qt.grdF J J J (.hit (.hit (.hit .stop))) (fun hgrd => Q4 J J J)) J ?_;refine zx (Z8 J J J J) J (zz ?_)
 refine Xb J (fun h1 => ?_) (fun h1 => ?_)
 ·refine zy (z1 rfl (zz (Xa (T_r (F_r ?_)))))
  exact Xp J J (X6 [] (by decide) J J (Xk (replay_no (.inl h1)).symm))
 refine AWP.pre (st' := (⟨_,[(1,.o (.c (.ptr 0 0)))],[.box ((Enc.e x).map (V1.rd []))]⟩ : St)) ?_ (W_gj [0] J)
 refine Qh (Q0 (Qd (zy (z2 J J J (z3 J ?_)))));refine zx (Qj J J (Xw x.Every 1 100) J) J ?_;refine zn J (z0 J ?_);refine zx (Qt.grdF J J J .stop (fun hgrd => Qf J J J J (by decide))) J ?_;refine zx (Qt.grdF J J J (.hit .stop) (fun hgrd => Qg J J J J J)) J ?_;refine zx (Qt.grdF J J J (.hit (.hit .stop)) (fun hgrd => Z0 J J J)) J ?_;refine zx (Qt.grdF J J J (.hit (.hit (.hit .stop))) (fun hgrd => Zy J J J J)) J ?_;refine zx (Z8 J J J J) J (zz ?_)
 refine Xb J (fun h2 => ?_) (fun h2 => ?_)
 ·refine zy (z1 rfl (zz (Xa (T_r (F_r ?_)))))
  exact Xp J J (X6 [] (by decide) J J (Xk (replay_no (.inr (.inl (by rwa [hlr] at h2)))).symm))
 rw [hlr] at h2
 have hE : 1 ≤ x.Every := by
  simp only [Bool.or_eq_false_iff,Bool.not_eq_false',Y3] at h2
  exact h2.1.1
 refine Qh (Q0 (Qd (zy (z2 J J J (z3 J (zx (Z0 J J J) J (z0 J (zz (Qk ?_)))))))));refine A_lq (fun m st => ∃ k : Nat,k + m = x.Rows.length ∧ ((x.Rows.take k).all (fun row => rowOk row x.Players) = true) ∧ st = (⟨_,[(1,.o (.c (.ptr 0 0))),(32,L x.Rows),(33,I (els x.Rows).length),(34,I k)],[.box ((Enc.e x).map (V1.rd []))]⟩ : St)) (x.Rows.length) ⟨_,⟨0,by omega,by simp,J⟩,W_gj [0] J⟩ ?_
 rintro m_A _ ⟨k,hk_A,hp_A,rfl⟩
 refine zy (zx (Z5 J J J J) J (zz (Qd ?_)))
 refine Xb J (fun h => ?_) (fun h => ?_)
 ·have h3 : k < x.Rows.length := by have := of_decide_eq_true h; omega
  have hat := Yo h3
  have hc := I_rowOk x.Rows[k] x.Players (g_Rows.2 _ (List.getElem_mem h3))
  refine Qh (Q0 (Qd (Qk (zy (zx (Q2 J J J J (by omega) (by assumption) J) J (zx (Z4 J J J J) J (z1 J (zz (Qd ?_)))))))));refine Qc (z0 J (z2 J J J (z3 J ?_)));refine zx (Qj J J (hc) J) J ?_;refine zn J (zz ?_)
  refine Xb J (fun h4 => ?_) (fun h4 => ?_)
  ·refine zy (z1 rfl (zz (Xa (B_r (T_r (T_r (B_r ?_)))))))
   refine T_r (F_r ?_)
   exact Xp J J (X6 [] (by decide) J J (Xk (replay_no (.inr (.inr (all_no h3 (by simpa using h4))))).symm))
  ·refine Qh (Q1 (Q0 (Qc (z7 rfl (by omega) (z0 rfl (Qe ?_))))))
   refine Q0 ?_
   exact ⟨x.Rows.length - (k + 1),by omega,_,⟨k + 1,by omega,Yb hp_A h3 (by simpa using h4),J⟩,W_gj [0] J⟩
 ·have h3 : ¬ ((k : Int) < (els x.Rows).length) := of_decide_eq_false h
  refine Q9 (T_x (T_x (Xl (Q0 (Qd (Xi u8_15 [[],[44],[44,45],[],[47],[47,48],[],[50],[47,48,49,50,51],[44,45,46,47,48,49,50,51,52],[44,45,46,47,48,49,50,51,52,53]] [[47,48,49,50,51,52],[47,48,49,50,51,52],[47,48,49,50,51,52],[44,45,46,50,51],[44,45,46,50,51],[44,45,46,50,51],[44,45,46,47,48,49],[44,45,46,47,48,49],[44,45,46],[],[]] J (DR.s (Qf J J J J (by decide)) J J (DR.s (Qg J J J J J) J J (DR.s (Z0 J J J) J J (DR.s (Qf J J J J (by decide)) J J (DR.s (Qg J J J J J) J J ?_)))))))))));refine DR.s (Z0 J J J) J J (DR.s (Qf J J J J (by decide)) J J (DR.s (Qg J J J J J) J J (DR.s (q_quo J J J J (by omega)) J J (DR.s (Zu J J J J) J J (DR.s (Qb J J J) J J (DR.stop (by kernel_rfl) (by kernel_rfl) (zz (Xa (F_r ?_)))))))))
  exact Xp J J (X6 [] (by decide) J J (Xk (by rw [replay_yes h1 h2 (all_end hp_A (by omega)),hlr,hlk])))
theorem X4 (x : TReplay) (hg : Enc.gd x) : Con Tryz.prog 72 [] [ag x] [] (B (replayOk x)) := by
 obtain ⟨g_Level,g_Players,g_Seed,g_Every,g_Rows,g_Keys⟩ := hg
 have g1 := g_Rows.1
 have g2 := g_Keys.1
 have hlr := Yq x.Rows
 have hlk := Yq x.Keys
 have cl := S_LevelOk x.Level g_Level
 refine Con.of Tryz.func72 J Tryz.ntmps72 J (fun E => ?_)
 refine zy (M1 (Qq J J J J) J J (z1 J (zz (Qd (zy (z2 J J J (z4 J J J ?_)))))));refine zx (Qj J J (cl) J) J ?_;refine zn J (z0 J ?_);refine zx (Qt.grdF J J J .stop (fun hgrd => Qf J J J J (by decide))) J ?_;refine zx (Qt.grdF J J J (.hit .stop) (fun hgrd => Qg J J J J J)) J ?_;refine zx (Qt.grdF J J J (.hit (.hit .stop)) (fun hgrd => Qj J J (S_in x.Players 1 4) J)) J ?_;refine zx (Qt.grdF J J J (.hit (.hit (.hit .stop))) (fun hgrd => Q4 J J J)) J ?_;refine zx (Z8 J J J J) J (z0 J ?_);refine zx (Qt.grdF J J J .stop (fun hgrd => Qf J J J J (by decide))) J ?_;refine zx (Qt.grdF J J J (.hit .stop) (fun hgrd => Qg J J J J J)) J ?_;refine zx (Qt.grdF J J J (.hit (.hit .stop)) (fun hgrd => Qj J J (S_in x.Seed 0 65535) J)) J ?_;refine zx (Qt.grdF J J J (.hit (.hit (.hit .stop))) (fun hgrd => Q4 J J J)) J ?_;refine zx (Z8 J J J J) J (z0 J ?_);refine zx (Qt.grdF J J J .stop (fun hgrd => Qf J J J J (by decide))) J ?_;refine zx (Qt.grdF J J J (.hit .stop) (fun hgrd => Qg J J J J J)) J ?_;refine zx (Qt.grdF J J J (.hit (.hit .stop)) (fun hgrd => Qj J J (S_in x.Every 1 100) J)) J ?_;refine zx (Qt.grdF J J J (.hit (.hit (.hit .stop))) (fun hgrd => Q4 J J J)) J ?_;refine zx (Z8 J J J J) J (z0 J ?_);refine zx (Qt.grdF J J J .stop (fun hgrd => Qf J J J J (by decide))) J ?_;refine zx (Qt.grdF J J J (.hit .stop) (fun hgrd => Qg J J J J J)) J ?_;refine zx (Qt.grdF J J J (.hit (.hit .stop)) (fun hgrd => Z0 J J J)) J ?_;refine zx (Qt.grdF J J J (.hit (.hit (.hit .stop))) (fun hgrd => Zy J J J J)) J ?_;refine zx (Z8 J J J J) J (zz ?_)
 refine Xb J (fun h1 => ?_) (fun h1 => ?_)
 ·rw [hlr,Bool.or_assoc,Bool.or_eq_true] at h1
  refine zy (z1 J (zz (Xa (T_r (F_r ?_)))))
  exact Xp J J (X6 [] (by decide) J J (Xk (replay_no (h1.imp_right .inl)).symm))
 rw [hlr,Bool.or_assoc,Bool.or_eq_false_iff] at h1
 have hE : 1 ≤ x.Every := by
  have h2 := h1.2
  simp only [Bool.or_eq_false_iff,Bool.not_eq_false',Y3] at h2
  exact h2.1.1
 refine AWP.pre (st' := (⟨_,[(1,.o (.c (.ptr 0 0)))],[.box ((Enc.e x).map (V1.rd []))]⟩ : St)) ?_ (W_gj [0] J)
 refine Qh (Q0 (Qd (zy (z1 J (zz (Qk ?_))))));refine A_lq (fun m st => ∃ k : Nat,k + m = x.Rows.length ∧ ((x.Rows.take k).all (fun row => rowOk row x.Players) = true) ∧ st = (⟨_,[(1,.o (.c (.ptr 0 0))),(3,I k)],[.box ((Enc.e x).map (V1.rd []))]⟩ : St)) (x.Rows.length) ⟨_,⟨0,by omega,by simp,J⟩,W_gj [0] J⟩ ?_
 rintro m_A _ ⟨k,hk_A,hp_A,rfl⟩
 refine Qd (zy (z0 J (z2 J J J (z3 J (zx (Z0 J J J) J (zx (Z5 J J J J) J (zz ?_)))))))
 refine Xb J (fun h => ?_) (fun h => ?_)
 ·have h3 : k < x.Rows.length := by have := of_decide_eq_true h; omega
  have hat := Yo h3
  have hc := S_rowOk x.Rows[k] x.Players (g_Rows.2 _ (List.getElem_mem h3))
  refine Qh (Q0 (Qd (Qk (Qd (Xi [[],[0],[],[0,1,2],(u9 4),[],[5],(u9 7),(u9 8)] [[],[39],[],[39,40,41],[39,40,41,42],[],[44],[39,40,41,42,43,44,45],[39,40,41,42,43,44,45,46]] [[41,44,45],[41,44,45],[39,40,44,45],[44,45],[44,45],[39,40,41,42,43],[39,40,41,42,43],[],[]] J (DR.s (Qf J J J J (by decide)) J J (DR.s (Qg J J J J J) J J (DR.s (Qa J J J) J J (DR.s (Q2 J J J J (by omega) (by assumption) J) J J (DR.s (Z4 J J J J) J J (DR.s (Qf J J J J (by decide)) J J ?_)))))))))));refine DR.s (Qg J J J J J) J J ?_;refine DR.s (Qj J J (hc) J) J J ?_;refine DR.s (Q4 J J J) J J (DR.stop (by kernel_rfl) (by kernel_rfl) (zz ?_))
  refine Xb J (fun h4 => ?_) (fun h4 => ?_)
  ·refine zy (z1 rfl (zz (Xa (B_r (T_r (T_r (B_r ?_)))))))
   refine T_r (F_r ?_)
   exact Xp J J (X6 [] (by decide) J J (Xk (replay_no (.inr (.inr (all_no h3 (by simpa using h4))))).symm))
  ·refine Qh (Q1 (Q0 (Qc (z0 rfl (z7 rfl (by omega) ?_)))))
   refine z1 J (zz ?_)
   exact ⟨x.Rows.length - (k + 1),by omega,_,⟨k + 1,by omega,Yb hp_A h3 (by simpa using h4),J⟩,W_gj [0] J⟩
 ·have h3 : ¬ ((k : Int) < (els x.Rows).length) := of_decide_eq_false h
  refine Q9 (T_x (T_x (Xl (Q0 (Qd (Xi u8_15 [[],[48],[48,49],[],[51],[51,52],[],[54],[51,52,53,54,55],[48,49,50,51,52,53,54,55,56],[48,49,50,51,52,53,54,55,56,57]] [[51,52,53,54,55,56],[51,52,53,54,55,56],[51,52,53,54,55,56],[48,49,50,54,55],[48,49,50,54,55],[48,49,50,54,55],[48,49,50,51,52,53],[48,49,50,51,52,53],[48,49,50],[],[]] J (DR.s (Qf J J J J (by decide)) J J (DR.s (Qg J J J J J) J J (DR.s (Z0 J J J) J J (DR.s (Qf J J J J (by decide)) J J (DR.s (Qg J J J J J) J J ?_)))))))))));refine DR.s (Z0 J J J) J J (DR.s (Qf J J J J (by decide)) J J (DR.s (Qg J J J J J) J J (DR.s (q_quo J J J J (by omega)) J J (DR.s (Zu J J J J) J J (DR.s (Qb J J J) J J (DR.stop (by kernel_rfl) (by kernel_rfl) (zz (Xa (F_r ?_)))))))))
  exact Xp J J (X6 [] (by decide) J J (Xk (by rw [replay_yes h1.1 h1.2 (all_end hp_A (by omega)),hlr,hlk])))
end
section
open Go.RowKit

inductive Den1 : V1 → V1 → Prop
 | same (x : V1) : Den1 x x
 | nil (qs : List Nat) (k : Nat) : Den1 (.rd qs (.v (.slice none 0 0))) (.rd qs (.sl k []))
inductive DenL : List V1 → List V1 → Prop
 | nil : DenL [] []
 | cons {x y : V1} {xs ys : List V1} (h : Den1 x y) (t : DenL xs ys) : DenL (x :: xs) (y :: ys)
inductive Den2 : V2 → V2 → Prop
 | same (x : V2) : Den2 x x
 | ag {xs ys : List V1} (h : DenL xs ys) : Den2 (.ag xs) (.ag ys)
inductive DenA : List V2 → List V2 → Prop
 | nil : DenA [] []
 | cons {x y : V2} {xs ys : List V2} (h : Den2 x y) (t : DenA xs ys) : DenA (x :: xs) (y :: ys)
section
variable {w : World} {H : Hs} {F : Nat → Prop}
theorem Den1.r {x y : V1} (h : Den1 x y) {v : Value} (hx : R1 w H F x v) : R1 w H F y v := by
 cases h with
 | same => exact hx
 | nil qs k => obtain ⟨rfl,_⟩ := RO.plain hx; exact .nil _ _ _ (by simp)
theorem DenL.r : ∀ {xs ys : List V1},DenL xs ys → xs.length = ys.length ∧ ∀ (i : Nat) (y : V1),ys[i]? = some y → ∃ x,xs[i]? = some x ∧ Den1 x y
 | _,_,.nil => ⟨rfl,fun i y h => by simp at h⟩
 | _,_,.cons (x := x) h t => by
  obtain ⟨h1,h2⟩ := DenL.r t
  refine ⟨by simp [h1],fun i y hy => ?_⟩
  cases i with
  | zero => simp at hy; subst hy; exact ⟨x,rfl,h⟩
  | succ i => simpa using h2 i y (by simpa using hy)
theorem Den2.r {x y : V2} (h : Den2 x y) {v : Value} (hx : R2 w H F x v) : R2 w H F y v := by
 cases h with
 | same => exact hx
 | ag h =>
  obtain ⟨h1,h2⟩ := h.r
  obtain ⟨us,e,hl,hr⟩ := hx
  refine ⟨us,e,by omega,fun i y u h3 h4 => ?_⟩
  obtain ⟨x,h5,h6⟩ := h2 i y h3
  exact h6.r (hr i x u h5 h4)
theorem DenA.r : ∀ {xs ys : List V2},DenA xs ys → xs.length = ys.length ∧ ∀ (i : Nat) (y : V2),ys[i]? = some y → ∃ x,xs[i]? = some x ∧ Den2 x y
 | _,_,.nil => ⟨rfl,fun i y h => by simp at h⟩
 | _,_,.cons (x := x) h t => by
  obtain ⟨h1,h2⟩ := DenA.r t
  refine ⟨by simp [h1],fun i y hy => ?_⟩
  cases i with
  | zero => simp at hy; subst hy; exact ⟨x,rfl,h⟩
  | succ i => simpa using h2 i y (by simpa using hy)
end
def nilV : V1 := .rd [] (.v (.slice none 0 0))
theorem I_copyLevel (x : TLevel) (hg : Enc.gd x) (hL : x.Rows.length ≤ 1048576) : Con Tryz.prog 42 [] [ag x] [.row 1 (els x.Rows)] (.o (.ag [.ref 0])) := by
 have hlx := Yq x.Rows
 have hg1 := hg.1
 refine Con.of Tryz.func42 J Tryz.ntmps42 J (fun E => ?_)
 refine zy (M1 (Qq J J J J) J J (M1 (Qx J J J) J J (zz (zy (z2 J J J (z3 J ?_))))));refine M_appnil J J J J J J J J (Yr _) (els_k _) (by omega) (by omega) ?_;refine zx (Zp J J J J J) J ?_;refine Qy J J J J J J J J J (zz (Xa (F_r ?_)))
 exact Xm J J J J (X6 [2] (by decide) J J J)
theorem S_copyLevel (x : TLevel) (hg : Enc.gd x) (hL : x.Rows.length ≤ 1048576) : Con Tryz.prog 88 [] [ag x] [.row 1 (els x.Rows)] (.o (.ag [.ref 0])) := by
 have hlx := Yq x.Rows
 have hg1 := hg.1
 have h00 : ([] : List (List T)).length = 0 := rfl
 refine Con.of Tryz.func88 J Tryz.ntmps88 J (fun E => ?_)
 refine zy (M1 (Qq J J J J) J J (M1 (Qx J J J) J J (zz (zy (M1 (Zn J J J) J J (z2 J J J (z3 J ?_)))))));refine M_app J J J J J J J J J J (Yr _) (els_k _) (by omega) (by omega) ?_;refine zx (Zp J J J J J) J ?_;refine Qy J J J J J J J J J (zz (Xa (F_r ?_)))
 exact Xm J J J J (X6 [2] (by decide) J J J)
end
section
open Go.RowKit

theorem Clone_ints (xs : List Int) (hne : 0 < xs.length) (hL : xs.length ≤ 1099511627776) : Con Tryz.prog 113 [] [al xs] [.row 1 (els xs)] (.o (.c (.ref 0))) := by
 have hlx := Yq xs
 have hlp : 0 < (els xs).length := by omega
 refine Con.of Tryz.func113 J Tryz.ntmps113 J (fun E => ?_)
 have h00 : ([] : List (List T)).length = 0 := rfl
 refine zy (z1 J (zz (Qd (zy (z0 J (zx (q_slnil J J J J hlp) J (zz ?_)))))));refine Ql J (Qh (Q0 (zy (M1 (Zn J J J) J J (z0 J ?_)))));refine M_app J J J J J J J J J J (Yr _) (els_k _) (by omega) (by omega) ?_;refine z1 J (zz (Xa (F_r ?_)))
 exact Xp J J (X6 [0] (by decide) J J J)
@[reducible] def jv (n : Int) : V1 := .rd [] (.v (.int .i64 n))
def bodyOf (l : List Int) : TBody := ⟨l.getD 0 0,l.getD 1 0,l.getD 2 0,l.getD 3 0,l.getD 4 0,l.getD 5 0,l.getD 6 0,l.getD 7 0,l.getD 8 0⟩
def bodiesOf (l : List Int) (n : Nat) : List TBody := (List.range n).map fun k => bodyOf (l.drop (9 * k))
def zeroWorld : TWorld := ⟨⟨[]⟩,0,0,[],[]⟩
def worldOf (lv : TLevel) (l : List Int) : TWorld := ⟨lv,l.getD 0 0,l.getD 1 0,(l.drop 3).take (l.getD 2 0).toNat,bodiesOf (l.drop (3 + (l.getD 2 0).toNat)) ((l.length - 3 - (l.getD 2 0).toNat) / 9)⟩
def formOk (l : List Int) : Prop := 3 ≤ l.length ∧ (1 ≤ l.getD 2 0 ∧ l.getD 2 0 ≤ 4) ∧ 3 + l.getD 2 0 ≤ l.length ∧ ((l.length : Int) - 3 - l.getD 2 0) % 9 = 0
noncomputable def readWorld (lv : TLevel) (s : ByteArray) : Option TWorld := match unpackInts s 0 with
 | none => none
 | some (l,pos) => @ite _ (pos = s.size ∧ formOk l ∧ worldOk (worldOf lv l) = true) (Classical.propDecidable _) (some (worldOf lv l)) none
theorem Kf {lv : TLevel} {s : ByteArray} (h : unpackInts s 0 = none) : readWorld lv s = none := by rw [readWorld,h]
theorem Kg {lv : TLevel} {s : ByteArray} {l : List Int} {pos : Nat} (h : unpackInts s 0 = some (l,pos)) (hp : pos = s.size ∧ formOk l ∧ worldOk (worldOf lv l) = true) : readWorld lv s = some (worldOf lv l) := by
 rw [readWorld,h]
 exact @if_pos _ (Classical.propDecidable _) hp _ _ _
theorem Ke {lv : TLevel} {s : ByteArray} {l : List Int} {pos : Nat} (h : unpackInts s 0 = some (l,pos)) (hp : ¬ (pos = s.size ∧ formOk l ∧ worldOk (worldOf lv l) = true)) : readWorld lv s = none := by
 rw [readWorld,h]
 exact @if_neg _ (Classical.propDecidable _) hp _ _ _
@[reducible] def rwW (r : Option TWorld) : TWorld := r.getD zeroWorld
@[reducible] def rwB (r : Option TWorld) : Bool := r.isSome
theorem Yf (l : List Int) (n : Nat) : (bodiesOf l n).length = n := by simp [bodiesOf]
theorem bodiesOf_snoc (l : List Int) (n : Nat) : bodiesOf l (n + 1) = bodiesOf l n ++ [bodyOf (l.drop (9 * n))] := by
 rw [bodiesOf,List.range_succ,List.map_append]
 rfl
theorem bodyOf_ints {l : List Int} (h : 9 ≤ l.length) : bodyInts (bodyOf l) = l.take 9 := by
 match l,h with
 | a :: b :: c :: d :: e :: f :: g :: i :: j :: r,_ => rfl
theorem bodiesOf_ints : ∀ (n : Nat) (l : List Int),9 * n ≤ l.length → (bodiesOf l n).flatMap bodyInts = l.take (9 * n)
 | 0,l,_ => by simp [bodiesOf]
 | n + 1,l,h => by
  rw [bodiesOf_snoc,List.flatMap_append,bodiesOf_ints n l (by omega),List.flatMap_singleton,bodyOf_ints (by simp; omega),Nat.mul_succ,List.take_add]
theorem bodyOf_gd {l : List Int} (h : ∀ x ∈ l,I64 x) : Enc.gd (bodyOf l) := by
 have hd : ∀ i,I64 (l.getD i 0) := fun i => by
  rw [List.getD_eq_getElem?_getD]
  cases hi : l[i]? with
  | none => exact ⟨by decide,by decide⟩
  | some x => exact h x (List.mem_of_getElem? hi)
 exact ⟨hd 0,hd 1,hd 2,hd 3,hd 4,hd 5,hd 6,hd 7,hd 8⟩
theorem worldOf_gd {lv : TLevel} {l : List Int} (hlv : Enc.gd lv) (h : ∀ x ∈ l,I64 x) (hL : l.length ≤ 1099511627776) : Enc.gd (worldOf lv l) := by
 have hd : ∀ i,I64 (l.getD i 0) := fun i => by
  rw [List.getD_eq_getElem?_getD]
  cases hi : l[i]? with
  | none => exact ⟨by decide,by decide⟩
  | some x => exact h x (List.mem_of_getElem? hi)
 refine ⟨hlv,hd 0,hd 1,⟨?_,fun x hx => h x (List.mem_of_mem_drop (List.mem_of_mem_take hx))⟩,⟨?_,fun b hb => ?_⟩⟩
 ·show ((l.drop 3).take (l.getD 2 0).toNat).length ≤ _
  simp; omega
 ·show (bodiesOf _ _).length ≤ _
  rw [Yf]
  have : (l.length - 3 - (l.getD 2 0).toNat) / 9 ≤ l.length := by omega
  omega
 ·obtain ⟨k,hk,rfl⟩ := List.mem_map.1 (show b ∈ (List.range _).map _ from hb)
  exact bodyOf_gd fun x hx => h x (List.mem_of_mem_drop (List.mem_of_mem_drop hx))
theorem worldOf_ints {lv : TLevel} {l : List Int} (h : formOk l) : worldInts (worldOf lv l) = l := by
 obtain ⟨h3,h4,h5,h6⟩ := h
 obtain ⟨p,hp⟩ : ∃ p : Nat,l.getD 2 0 = p := ⟨(l.getD 2 0).toNat,by omega⟩
 match l,h3 with
 | a :: b :: c :: r,_ =>
  have hc : c = p := by simpa using hp
  subst hc
  simp only [List.length_cons] at h5 h6
  simp only [List.getD_cons_succ,List.getD_cons_zero] at h4 h5 h6
  have hl : ((r.take p).length : Int) = p := by simp; omega
  show ([a,b,((((a :: b :: (p : Int) :: r).drop 3).take ((p : Int)).toNat).length : Int)] ++ ((a :: b :: (p : Int) :: r).drop 3).take ((p : Int)).toNat) ++ (bodiesOf ((a :: b :: (p : Int) :: r).drop (3 + ((p : Int)).toNat)) (((a :: b :: (p : Int) :: r).length - 3 - ((p : Int)).toNat) / 9)).flatMap bodyInts = _
  rw [Int.toNat_natCast]
  have hdr : (a :: b :: (p : Int) :: r).drop (3 + p) = r.drop p := by
   rw [← List.drop_drop]; rfl
  have hd3 : (a :: b :: (p : Int) :: r).drop 3 = r := rfl
  have hlen : (a :: b :: (p : Int) :: r).length - 3 - p = (r.drop p).length := by simp
  have h9 : 9 * ((r.drop p).length / 9) = (r.drop p).length := by
   have : (r.drop p).length = r.length - p := by simp
   omega
  rw [hdr,hd3,hlen,bodiesOf_ints _ _ (by omega),h9,List.take_length,hl]
  simp
theorem row7 {a b c d e f : Ob} {k : Nat} {x y : List (List T)} (h : x = y) : [a,b,c,d,e,f,Ob.row k x] = [a,b,c,d,e,f,Ob.row k y] := by rw [h]
theorem rdE {ps : List Nat} {k : Nat} {a b : List (List T)} (h : a = b) : V.o (.c (.rd ps (.sl k a))) = V.o (.c (.rd ps (.sl k b))) := by rw [h]
theorem Yt {α : Type} [Enc α] (xs : List α) (n : Nat) : els (xs.take n) = (els xs).take n := List.map_take
theorem els_dropE {α : Type} [Enc α] (xs : List α) (n : Nat) : els (xs.drop n) = (els xs).drop n := List.map_drop
theorem Yl {rest : List Int} {m : Nat} (h : 9 * m + 9 ≤ rest.length) {j : Nat} (hj : j < 9) (a b : Int) (ha : a = 9 * m + 9) (hb : b = 9 * m) (i : Int) (hi : i = j) : (((els rest).take a.toNat).drop b.toNat)[i.toNat]? = some [.v (.int .i64 ((rest.drop (9 * m)).getD j 0))] := by
 subst ha hb hi
 rw [show ((9 : Int) * (m : Int) + 9).toNat = 9 * m + 9 by omega,show ((9 : Int) * (m : Int)).toNat = 9 * m by omega,Int.toNat_natCast,List.getElem?_drop,List.getElem?_take,if_pos (by omega),List.getD_eq_getElem?_getD,List.getElem?_drop,els,List.getElem?_map,List.getElem?_eq_getElem (by omega)]
 rfl
theorem Yp {l : List Int} {j : Nat} (h : j < l.length) (i : Int) (hi : i = j) : (els l)[i.toNat]? = some [.v (.int .i64 (l.getD j 0))] := by
 subst hi
 rw [Int.toNat_natCast,List.getD_eq_getElem?_getD,els,List.getElem?_map,List.getElem?_eq_getElem h]
 rfl
end
section
open Go.RowKit

theorem byte_drop {s : ByteArray} {q : Nat} {b : UInt8} {r : List UInt8} (h : s.data.toList.drop q = b :: r) : q < s.size ∧ byteAt s q = (b.toNat : Int) := by
 have hl : q < s.data.toList.length := by
  rcases Nat.lt_or_ge q s.data.toList.length with h1 | h1
  ·exact h1
  ·rw [List.drop_eq_nil_of_le h1] at h; cases h
 have hs : s.data.toList.length = s.size := by simp
 obtain ⟨b',h1,h2⟩ := byteAt_list (s := s) (i := q) (by omega)
 rw [List.drop_eq_getElem_cons hl] at h
 rw [List.getElem?_eq_getElem hl] at h1
 simp only [Option.some.injEq] at h1
 simp only [List.cons.injEq] at h
 exact ⟨by omega,by rw [h2,← h1,h.1]⟩
theorem dvGo_enc (s : ByteArray) (p : Nat) (r : List UInt8) : ∀ (f N k : Nat) (acc : Int),0 ≤ acc → s.data.toList.drop (p + k) = varN N ++ r → acc + N * 2 ^ (7 * k) ≤ 1099511627775 → (0 < k → N ≠ 0) → (varN N).length ≤ f → dvGo s p acc k f = some (acc + N * 2 ^ (7 * k),k + (varN N).length) := by
 intro f
 induction f with
 | zero => intro N k acc _ _ _ _ h; have := (varN_len N).1; omega
 | succ f ih =>
  intro N k acc h0 hd hb hk hf
  rw [dvGo]
  by_cases hN : N < 128
  ·rw [Kv hN] at hd ⊢
   obtain ⟨h1,h2⟩ := byte_drop hd
   have e : ((UInt8.ofNat N).toNat : Int) = N := by rw [UInt8.toNat_ofNat']; omega
   rw [e] at h2
   rw [if_pos h1,h2,if_neg (by omega),show (N : Int) % 128 = N by omega,if_neg (by omega)]
   rfl
  ·rw [varN_big hN] at hd hf ⊢
   have e : ((UInt8.ofNat (N % 128 + 128)).toNat : Int) = N % 128 + 128 := by rw [UInt8.toNat_ofNat']; omega
   obtain ⟨h1,h2⟩ := byte_drop hd
   rw [e] at h2
   have hd2 : s.data.toList.drop (p + (k + 1)) = varN (N / 128) ++ r := by
    have := congrArg (List.drop 1) hd
    rw [List.drop_drop] at this
    rw [show p + (k + 1) = p + k + 1 by omega,this]
    rfl
   have hv : acc + (N : Int) % 128 * 2 ^ (7 * k) + ((N / 128 : Nat) : Int) * 2 ^ (7 * (k + 1)) = acc + N * 2 ^ (7 * k) := by
    have e2 : (2 : Int) ^ (7 * (k + 1)) = 128 * 2 ^ (7 * k) := by rw [show 7 * (k + 1) = 7 * k + 7 by omega,Int.pow_add]; omega
    have e3 : (N : Int) = 128 * ((N / 128 : Nat) : Int) + (N : Int) % 128 := by omega
    rw [e2]
    generalize (2 : Int) ^ (7 * k) = M
    generalize ((N / 128 : Nat) : Int) = q at e3 ⊢
    generalize (N : Int) % 128 = d at e3 ⊢
    rw [e3]
    grind
   have hM : (0 : Int) ≤ (N : Int) % 128 * 2 ^ (7 * k) := Int.mul_nonneg (by omega) (Int.le_of_lt (Int.pow_pos (by omega)))
   have hi := ih (N / 128) (k + 1) (acc + (N : Int) % 128 * 2 ^ (7 * k)) (by omega) hd2 (by omega) (fun _ => by omega) (by simp at hf; omega)
   rw [hv] at hi
   rw [if_pos h1,h2,if_pos (by omega),show ((N : Int) % 128 + 128) % 128 = (N : Int) % 128 by omega,hi]
   simp only [List.length_cons]
   congr 2
   omega
theorem decVar_enc {s : ByteArray} {p : Nat} {n : Int} {r : List UInt8} (h0 : 0 ≤ n) (h1 : n ≤ 1099511627775) (hs : s.data.toList.drop p = encVar n ++ r) : decVar s p = some (n,(encVar n).length) := by
 have hl := Yu n
 rw [encVar,if_pos ⟨h0,h1⟩] at hs hl ⊢
 have hne := (varN_len n.toNat).1
 have hp : p < s.size := by
  have : (s.data.toList.drop p).length = (varN n.toNat ++ r).length := by rw [hs]
  have e : s.data.toList.length = s.size := by simp
  simp only [List.length_drop,List.length_append] at this
  omega
 rw [decVar,if_pos (by omega)]
 have := dvGo_enc s p r 6 n.toNat 0 0 (by omega) (by simpa using hs) (by simp; omega) (by omega) hl
 simp at this
 rw [show ((p : Int)).toNat = p by omega,this]
 simp
 omega
theorem signed_signless {x : Int} (h : 0 ≤ signless x) : signed (signless x) = x := by
 unfold signless at h ⊢
 split at h
 ·rename_i hx
  rw [if_pos hx]
  split
  ·rw [signed,if_pos (by omega),if_pos (by omega)]; omega
  ·rw [signed,if_pos (by omega),if_neg (by omega)]; omega
 ·omega
theorem signless_le (x : Int) : signless x ≤ 1099511627775 := by
 unfold signless
 split
 ·split <;> omega
 ·omega
theorem uiGo_enc (s : ByteArray) (p : Nat) (r : List UInt8) : ∀ (l : List Int) (pos : Nat),(∀ x ∈ l,0 ≤ signless x) → s.data.toList.drop (p + pos) = (l.flatMap fun x => encVar (signless x)) ++ r → uiGo s p l.length pos = some (l,pos + (l.flatMap fun x => encVar (signless x)).length)
 | [],pos,_,_ => rfl
 | x :: l,pos,hx,hs => by
  have h0 := hx x (by simp)
  rw [List.flatMap_cons,List.append_assoc] at hs
  have h1 := decVar_enc h0 (signless_le x) hs
  have hd : s.data.toList.drop (p + (pos + (encVar (signless x)).length)) = (l.flatMap fun x => encVar (signless x)) ++ r := by
   have := congrArg (List.drop (encVar (signless x)).length) hs
   rw [List.drop_drop,List.drop_left] at this
   rw [← this]
   congr 1
   omega
  have h2 := uiGo_enc s p r l (pos + (encVar (signless x)).length) (fun y hy => hx y (by simp [hy])) hd
  rw [List.length_cons,uiGo,show (p : Int) + (pos : Int) = ((p + pos : Nat) : Int) by omega,h1]
  simp only [h2,Option.map_some,signed_signless h0,List.flatMap_cons,List.length_append]
  congr 2
  omega
theorem unpackInts_enc {xs : List Int} (hx : ∀ x ∈ xs,0 ≤ signless x) (hL : xs.length ≤ 1073741824) : unpackInts (packInts xs) 0 = some (xs,(packInts xs).size) := by
 have hall : xs.all (fun x => decide (0 ≤ signless x)) = true := by simpa using hx
 have hp : packInts xs = bs (encVar xs.length ++ xs.flatMap fun x => encVar (signless x)) := by
  rw [packInts,if_pos hall,packK,List.take_length]
 have hl : (packInts xs).data.toList = encVar xs.length ++ ((xs.flatMap fun x => encVar (signless x)) ++ []) := by rw [hp,Yh,List.append_nil]
 have h1 : decVar (packInts xs) ((0 : Nat) : Int) = _ := decVar_enc (n := (xs.length : Int)) (by omega) (by omega) (by rw [List.drop_zero]; exact hl)
 have h2 := uiGo_enc (packInts xs) 0 [] xs (encVar (xs.length : Int)).length hx (by
  have := congrArg (List.drop (encVar (xs.length : Int)).length) hl
  rw [List.drop_left] at this
  rw [Nat.zero_add]; exact this)
 rw [unpackInts,show (0 : Int) = ((0 : Nat) : Int) from rfl,h1]
 simp only [Int.toNat_natCast,h2]
 congr 2
 rw [hp,Yi,List.length_append]
end
section
open Go.RowKit

def colF (q : Int → Bool) (row : ByteArray) : Nat → Option Nat
 | 0 => none
 | c + 1 => match colF q row c with
  | some x => some x
  | none => if q (byteAt row c) = true then some c else none
def tileF (q : Int → Bool) (rows : List ByteArray) : Nat → Option (Nat × Nat)
 | 0 => none
 | r + 1 => match tileF q rows r with
  | some x => some x
  | none => match rows[r]? with
   | none => none
   | some row => (colF q row row.size).map fun c => (r,c)
def isOpen (t : Int) : Bool := decide (t ≠ 35)
def isDig (p : Int) (t : Int) : Bool := decide (t = 49 + p)
def spX : Option (Nat × Nat) → Int
 | none => -1
 | some (_,c) => 16 * c + 2
def spY : Option (Nat × Nat) → Int
 | none => -1
 | some (r,_) => 16 * r + 2
def startT (l : TLevel) (p : Int) : Option (Nat × Nat) := match tileF (isDig p) l.Rows l.Rows.length with
 | some x => some x
 | none => tileF isOpen l.Rows l.Rows.length
theorem colF_some {q : Int → Bool} {row : ByteArray} : ∀ {n c : Nat},colF q row n = some c → c < n ∧ q (byteAt row c) = true
 | 0,c,h => by cases h
 | n + 1,c,h => by
  rw [colF] at h
  cases h1 : colF q row n with
  | some x => rw [h1] at h; cases h; have := colF_some h1; exact ⟨by omega,this.2⟩
  | none =>
   rw [h1] at h
   by_cases h2 : q (byteAt row n) = true
   ·rw [if_pos h2] at h; cases h; exact ⟨by omega,h2⟩
   ·rw [if_neg h2] at h; cases h
theorem colF_none {q : Int → Bool} {row : ByteArray} : ∀ {n : Nat},colF q row n = none → ∀ c,c < n → q (byteAt row c) = false
 | 0,h,c,hc => by omega
 | n + 1,h,c,hc => by
  rw [colF] at h
  cases h1 : colF q row n with
  | some x => rw [h1] at h; cases h
  | none =>
   rw [h1] at h
   by_cases h2 : q (byteAt row n) = true
   ·rw [if_pos h2] at h; cases h
   ·by_cases e : c = n
    ·subst e; simpa using h2
    ·exact colF_none h1 c (by omega)
theorem tileF_some {q : Int → Bool} {rows : List ByteArray} : ∀ {n r c : Nat},tileF q rows n = some (r,c) → ∃ h : r < rows.length,r < n ∧ c < rows[r].size ∧ q (byteAt rows[r] c) = true
 | 0,r,c,h => by cases h
 | n + 1,r,c,h => by
  rw [tileF] at h
  cases h1 : tileF q rows n with
  | some x => rw [h1] at h; cases h; obtain ⟨a,b,d⟩ := tileF_some h1; exact ⟨a,by omega,d⟩
  | none =>
   rw [h1] at h
   cases h2 : rows[n]? with
   | none => rw [h2] at h; cases h
   | some row =>
    rw [h2] at h
    simp only [Option.map_eq_some_iff,Prod.mk.injEq] at h
    obtain ⟨c',h3,rfl,rfl⟩ := h
    have hn := (List.getElem?_eq_some_iff.1 h2).1
    have he := (List.getElem?_eq_some_iff.1 h2).2
    have := colF_some h3
    exact ⟨hn,by omega,by rw [he]; exact this.1,by rw [he]; exact this.2⟩
theorem tileF_none {q : Int → Bool} {rows : List ByteArray} : ∀ {n : Nat},tileF q rows n = none → ∀ r (h : r < rows.length),r < n → ∀ c,c < rows[r].size → q (byteAt rows[r] c) = false
 | 0,h,r,hr,hn,c,hc => by omega
 | n + 1,h,r,hr,hn,c,hc => by
  rw [tileF] at h
  cases h1 : tileF q rows n with
  | some x => rw [h1] at h; cases h
  | none =>
   rw [h1] at h
   by_cases e : r = n
   ·subst e
    rw [List.getElem?_eq_getElem hr] at h
    simp only [Option.map_eq_none_iff] at h
    exact colF_none h c hc
   ·exact tileF_none h1 r hr (by omega) c hc
theorem tileM_open {e : Bool} {t : Int} {s s' : Seen × Bool} (h : tileM e t s = some s') (ho : s'.2 = true) : s.2 = true ∨ t ≠ 35 := by
 by_cases ht : t = 35
 ·rw [tileM,if_pos ht] at h; cases h; exact .inl ho
 ·exact .inr ht
theorem cols_open {row : ByteArray} {er : Bool} {w : Nat} {s : Seen × Bool} : ∀ {n : Nat} {s' : Seen × Bool},colsM row er w s n = some s' → s'.2 = true → s.2 = true ∨ ∃ c,c < n ∧ byteAt row c ≠ 35
 | 0,s',h,ho => by cases h; exact .inl ho
 | n + 1,s',h,ho => by
  rw [colsM] at h
  cases h1 : colsM row er w s n with
  | none => rw [h1] at h; cases h
  | some s1 =>
   rw [h1] at h
   rcases tileM_open h ho with h2 | h2
   ·rcases cols_open h1 h2 with h3 | ⟨c,hc,h3⟩
    ·exact .inl h3
    ·exact .inr ⟨c,by omega,h3⟩
   ·exact .inr ⟨n,by omega,h2⟩
theorem rows_open {rows : List ByteArray} {w : Nat} : ∀ {n : Nat} {s : Seen × Bool},rowsM rows w n = some s → s.2 = true → ∃ r c,∃ h : r < rows.length,r < n ∧ c < rows[r].size ∧ byteAt rows[r] c ≠ 35
 | 0,s,h,ho => by cases h; cases ho
 | n + 1,s,h,ho => by
  rw [rowsM] at h
  cases h1 : rowsM rows w n with
  | none => rw [h1] at h; cases h
  | some s1 =>
   rw [h1] at h
   cases h2 : rows[n]? with
   | none => rw [h2] at h; cases h
   | some row =>
    rw [h2] at h
    simp only at h
    split at h
    ·rename_i hw
     have hn := (List.getElem?_eq_some_iff.1 h2).1
     have he := (List.getElem?_eq_some_iff.1 h2).2
     rcases cols_open h ho with h3 | ⟨c,hc,h3⟩
     ·obtain ⟨r,c,a,b,d⟩ := rows_open h1 h3
      exact ⟨r,c,a,by omega,d⟩
     ·exact ⟨n,c,hn,by omega,by rw [he]; omega,by rw [he]; exact h3⟩
    ·cases h
theorem level_open {l : TLevel} (h : levelOk l = true) : ∃ r c,∃ h : r < l.Rows.length,c < (l.Rows[r]).size ∧ byteAt (l.Rows[r]) c ≠ 35 := by
 unfold levelOk at h
 simp only [Bool.and_eq_true] at h
 obtain ⟨_,h5⟩ := h
 split at h5
 ·rename_i s hs
  obtain ⟨r,c,a,b,d⟩ := rows_open hs h5
  exact ⟨r,c,a,d⟩
 ·cases h5
theorem start_some {l : TLevel} (hl : levelOk l = true) {p : Int} (hp : 0 ≤ p ∧ p ≤ 3) : ∃ r c,startT l p = some (r,c) ∧ ∃ h : r < l.Rows.length,c < (l.Rows[r]).size ∧ byteAt (l.Rows[r]) c ≠ 35 := by
 unfold startT
 cases h1 : tileF (isDig p) l.Rows l.Rows.length with
 | some x =>
  obtain ⟨r,c⟩ := x
  obtain ⟨a,b,d,e⟩ := tileF_some h1
  refine ⟨r,c,J,a,d,?_⟩
  have := of_decide_eq_true e
  omega
 | none =>
  cases h2 : tileF isOpen l.Rows l.Rows.length with
  | some x =>
   obtain ⟨r,c⟩ := x
   obtain ⟨a,b,d,e⟩ := tileF_some h2
   exact ⟨r,c,J,a,d,of_decide_eq_true e⟩
  | none =>
   obtain ⟨r,c,a,d,e⟩ := level_open hl
   have := tileF_none h2 r a a c d
   exact absurd e (of_decide_eq_false this)
def openF (rows : List ByteArray) (row : ByteArray) (r c : Nat) : Option (Nat × Nat) := match tileF isOpen rows r with
 | some x => some x
 | none => (colF isOpen row c).map fun c => (r,c)
theorem openF_zero {rows : List ByteArray} {row : ByteArray} {r : Nat} : openF rows row r 0 = tileF isOpen rows r := by
 unfold openF
 cases tileF isOpen rows r <;> rfl
theorem openF_end {rows : List ByteArray} {row : ByteArray} {r : Nat} (h : rows[r]? = some row) : openF rows row r row.size = tileF isOpen rows (r + 1) := by
 rw [openF,tileF,h]
theorem Ze {rows : List ByteArray} {row : ByteArray} {r c : Nat} {x : Nat × Nat} (h : openF rows row r c = some x) : openF rows row r (c + 1) = some x := by
 unfold openF at h ⊢
 cases h1 : tileF isOpen rows r with
 | some y => rw [h1] at h; exact h
 | none =>
  rw [h1] at h
  simp only [Option.map_eq_some_iff] at h ⊢
  obtain ⟨a,h2,h3⟩ := h
  exact ⟨a,by rw [colF,h2],h3⟩
theorem Zf {rows : List ByteArray} {row : ByteArray} {r c : Nat} (h : openF rows row r c = none) : openF rows row r (c + 1) = if byteAt row c = 35 then none else some (r,c) := by
 unfold openF at h ⊢
 cases h1 : tileF isOpen rows r with
 | some y => rw [h1] at h; cases h
 | none =>
  rw [h1] at h
  simp only [Option.map_eq_none_iff] at h
  simp only [colF,h]
  by_cases h2 : byteAt row c = 35
  ·rw [if_pos h2,if_neg (show ¬ isOpen (byteAt row c) = true from fun q => of_decide_eq_true q h2)]; rfl
  ·rw [if_neg h2,if_pos (show isOpen (byteAt row c) = true from decide_eq_true h2)]; rfl
theorem colF_step {q : Int → Bool} {row : ByteArray} {c : Nat} (h : colF q row c = none) (hq : q (byteAt row c) = false) : colF q row (c + 1) = none := by rw [colF,h]; simp [hq]
theorem colF_hit {q : Int → Bool} {row : ByteArray} {c : Nat} (h : colF q row c = none) (hq : q (byteAt row c) = true) : ∀ {n : Nat},c < n → colF q row n = some c
 | 0,hn => by omega
 | n + 1,hn => by
  rw [colF]
  by_cases e : c = n
  ·subst e; rw [h]; simp [hq]
  ·rw [colF_hit h hq (by omega)]
theorem tileF_step {q : Int → Bool} {rows : List ByteArray} {row : ByteArray} {r : Nat} (h : tileF q rows r = none) (hr : rows[r]? = some row) (hc : colF q row row.size = none) : tileF q rows (r + 1) = none := by rw [tileF,h,hr]; simp [hc]
theorem tileF_hit {q : Int → Bool} {rows : List ByteArray} {row : ByteArray} {r c : Nat} (h : tileF q rows r = none) (hr : rows[r]? = some row) (hc : colF q row row.size = some c) : ∀ {n : Nat},r < n → tileF q rows n = some (r,c)
 | 0,hn => by omega
 | n + 1,hn => by
  rw [tileF]
  by_cases e : r = n
  ·subst e; rw [h,hr]; simp [hc]
  ·rw [tileF_hit h hr hc (by omega)]
theorem start_dig {l : TLevel} {p : Int} {row : ByteArray} {r c : Nat} (h : tileF (isDig p) l.Rows r = none) (hr : l.Rows[r]? = some row) (hc : colF (isDig p) row c = none) (hcs : c < row.size) (hb : byteAt row c = 49 + p) : startT l p = some (r,c) := by
 have h1 := colF_hit hc (show isDig p (byteAt row c) = true from decide_eq_true hb) hcs
 rw [startT,tileF_hit h hr h1 (List.getElem?_eq_some_iff.1 hr).1]
theorem start_open {l : TLevel} {p : Int} {n : Nat} (h : tileF (isDig p) l.Rows n = none) (hn : n = l.Rows.length) : startT l p = tileF isOpen l.Rows n := by
 subst hn
 rw [startT,h]
theorem spX_neg {o : Option (Nat × Nat)} : spX o < 0 ↔ o = none := by
 cases o with
 | none => simp [spX]
 | some x => obtain ⟨r,c⟩ := x; simp [spX]; omega
def fresh (l : TLevel) (p : Int) : TBody := ⟨0,p,spX (startT l p),spY (startT l p),0,0,1,3,0⟩
theorem fresh_free {l : TLevel} (hl : levelOk l = true) {p : Int} (hp : 0 ≤ p ∧ p ≤ 3) : solidM l (fresh l p).X (fresh l p).Y 12 = false ∧ (0 ≤ (fresh l p).X ∧ (fresh l p).X ≤ 400) ∧ (0 ≤ (fresh l p).Y ∧ (fresh l p).Y ≤ 400) := by
 obtain ⟨r,c,h1,hr,hc,hb⟩ := start_some hl hp
 obtain ⟨l3,l12,w,w4,w20,hw⟩ := Y7 hl
 have hwr := hw r hr
 rw [fresh,h1]
 refine ⟨solidM_F ?_,by simp only [spX]; omega,by simp only [spY]; omega⟩
 rintro ⟨r',c',a1,a2,a3,a4,hwall⟩
 simp only [spX,spY] at a1 a2 a3 a4
 have e1 : r' = r := by omega
 have e2 : c' = c := by omega
 subst e1 e2
 exact no_wall hr hc hb hwall
def newWorld (l : TLevel) (n : Nat) (seed : Int) : TWorld := ⟨l,0,seed,List.replicate n 0,(List.range n).map fun (k : Nat) => fresh l (k : Int)⟩
theorem newWorld_ok {l : TLevel} {n : Nat} {seed : Int} (hl : levelOk l = true) (hn : 1 ≤ n ∧ n ≤ 4) (hs : inR seed 0 65535 = true) : worldOk (newWorld l n seed) = true := by
 refine worldOk_T ⟨hl,J,hs,by simpa [newWorld] using hn,?_,by simp [newWorld]; omega,?_⟩
 ·simp only [newWorld,scoresOk,List.all_replicate]
  simp [inR]
 ·intro k hk
  have hk4 : k < n := by simpa [newWorld] using hk
  have hlen : (newWorld l n seed).Scores.length = n := by simp [newWorld]
  have hb : (newWorld l n seed).Bodies[k] = fresh l k := by simp [newWorld]
  rw [hlen,hb]
  obtain ⟨h1,h2,h3⟩ := fresh_free hl (p := (k : Int)) (by omega)
  show bodyAt l n k (fresh l k) = true
  rw [bodyAt,if_pos hk4,Bool.and_eq_true]
  refine ⟨?_,decide_eq_true ⟨J,J⟩⟩
  rw [bodyM,show sizeOf (fresh l k).Kind = 12 from rfl,h1]
  have e1 : inR (fresh l (k : Int)).Kind 0 2 = true := rfl
  have e2 : inR (fresh l (k : Int)).Owner 0 ((n : Int) - 1) = true := Y3.2 ⟨by show (0 : Int) ≤ k; omega,by show (k : Int) ≤ n - 1; omega⟩
  have e3 : inR (fresh l (k : Int)).VX (-15) 15 = true := rfl
  have e4 : inR (fresh l (k : Int)).VY (-15) 15 = true := rfl
  have e5 : tailM (fresh l (k : Int)) = true := rfl
  rw [e1,e2,e3,e4,e5]
  rfl
theorem bodyOf_app (b : TBody) (r : List Int) : bodyOf (bodyInts b ++ r) = b := by cases b; rfl
theorem flat_drop : ∀ (bs : List TBody) (k : Nat) (h : k < bs.length),∃ r,(bs.flatMap bodyInts).drop (9 * k) = bodyInts bs[k] ++ r
 | [],k,h => by simp at h
 | b :: bs,0,h => ⟨bs.flatMap bodyInts,by simp⟩
 | b :: bs,k + 1,h => by
  obtain ⟨r,hr⟩ := flat_drop bs k (by simpa using h)
  refine ⟨r,?_⟩
  rw [List.flatMap_cons,show 9 * (k + 1) = (bodyInts b).length + 9 * k by simp [bodyInts]; omega,← List.drop_drop,List.drop_left,hr]
  rfl
theorem bodiesOf_flat (bs : List TBody) : bodiesOf (bs.flatMap bodyInts) bs.length = bs := by
 apply List.ext_getElem
 ·simp [bodiesOf]
 ·intro k h1 h2
  obtain ⟨r,hr⟩ := flat_drop bs k h2
  simp only [bodiesOf,List.getElem_map,List.getElem_range,hr,bodyOf_app]
theorem flat_length (bs : List TBody) : (bs.flatMap bodyInts).length = 9 * bs.length := by
 have := flat_len bs bs.length (Nat.le_refl _)
 rwa [List.take_length] at this
theorem worldOf_ints2 (w : TWorld) (h1 : 1 ≤ w.Scores.length) (h2 : w.Scores.length ≤ 4) : worldOf w.Level (worldInts w) = w ∧ formOk (worldInts w) := by
 have hn : (worldInts w).getD 2 0 = (w.Scores.length : Int) := rfl
 have hd : (worldInts w).drop 3 = w.Scores ++ w.Bodies.flatMap bodyInts := by simp [worldInts]
 have hd2 : (worldInts w).drop (3 + w.Scores.length) = w.Bodies.flatMap bodyInts := by rw [← List.drop_drop,hd,List.drop_left]
 have hl : (worldInts w).length = 3 + w.Scores.length + 9 * w.Bodies.length := by
  have := flat_length w.Bodies
  simp only [worldInts,List.length_append,List.length_cons,List.length_nil]
  omega
 constructor
 ·rw [worldOf,hn,hd,show ((w.Scores.length : Nat) : Int).toNat = w.Scores.length by omega,List.take_left,hd2,hl,show (3 + w.Scores.length + 9 * w.Bodies.length - 3 - w.Scores.length) / 9 = w.Bodies.length by omega,bodiesOf_flat]
  rfl
 ·rw [formOk,hn,hl]
  omega
theorem newWorld_back {l : TLevel} {n : Nat} {seed : Int} (hl : levelOk l = true) (hn : 1 ≤ n ∧ n ≤ 4) (hs : inR seed 0 65535 = true) : readWorld l (worldBytes (newWorld l n seed)) = some (newWorld l n seed) := by
 have hok := newWorld_ok hl hn hs
 have hlen : (newWorld l n seed).Scores.length = n := by simp [newWorld]
 obtain ⟨h1,h2⟩ := worldOf_ints2 (newWorld l n seed) (by omega) (by omega)
 have hs := Y3.1 hs
 have hx : ∀ x ∈ worldInts (newWorld l n seed),0 ≤ signless x := by
  intro x hx
  have hb : 0 ≤ x ∧ x ≤ 65535 := by
   simp only [worldInts,List.mem_append,List.mem_cons,List.not_mem_nil,or_false,List.mem_flatMap] at hx
   rcases hx with (h | h) | ⟨b,hb,h⟩
   ·rcases h with h | h | h <;> subst h
    ·show (0 : Int) ≤ 0 ∧ (0 : Int) ≤ 65535; omega
    ·exact hs
    ·omega
   ·have : x = 0 := by simpa [newWorld] using (List.eq_of_mem_replicate h)
    omega
   ·simp only [newWorld,List.mem_map,List.mem_range] at hb
    obtain ⟨k,hk,rfl⟩ := hb
    obtain ⟨_,h3,h4⟩ := fresh_free hl (p := (k : Int)) (by omega)
    simp only [bodyInts,List.mem_cons,List.not_mem_nil,or_false] at h
    rcases h with h | h | h | h | h | h | h | h | h <;> subst h
    ·show (0 : Int) ≤ 0 ∧ (0 : Int) ≤ 65535; omega
    ·show (0 : Int) ≤ k ∧ (k : Int) ≤ 65535; omega
    ·omega
    ·omega
    all_goals (simp only [fresh]; omega)
  unfold signless
  rw [if_pos (by omega),if_pos hb.1]
  omega
 have hL : (worldInts (newWorld l n seed)).length ≤ 1073741824 := by
  have := flat_length (newWorld l n seed).Bodies
  have h5 : (newWorld l n seed).Bodies.length = n := by simp [newWorld]
  simp only [worldInts,List.length_append,List.length_cons,List.length_nil]
  omega
 have hu := unpackInts_enc hx hL
 rw [worldBytes,if_pos hok]
 have := Kg (lv := l) hu ⟨rfl,h2,by rw [show worldOf l (worldInts (newWorld l n seed)) = newWorld l n seed from h1]; exact hok⟩
 rw [this,show worldOf l (worldInts (newWorld l n seed)) = newWorld l n seed from h1]
end
section
open Go.RowKit

def nextR (s : Int) : Int := if 0 ≤ s ∧ s ≤ 65535 then (s * 25173 + 13849) % 65536 else 0
def belowR (s n : Int) : Int := nextR s / 16 % n
theorem Zc (s : Int) : 0 ≤ nextR s ∧ nextR s ≤ 65535 := by
 unfold nextR
 split <;> omega
def pressed (i k : Int) : Bool := decide (((i.toNat &&& k.toNat : Nat) : Int) ≠ 0)
noncomputable def steer (l : TLevel) (b : TBody) (i : Int) : TBody × Bool :=
 (⟨b.Kind,b.Owner,b.X,b.Y,
  if (pressed i 1 && !pressed i 2) = true then -3 else if (pressed i 2 && !pressed i 1) = true then 3 else 0,
  if (pressed i 4 && solidM l b.X (b.Y + 1) 12) = true then -9 else min (b.VY + 1) 8,
  if (pressed i 1 && !pressed i 2) = true then -1 else if (pressed i 2 && !pressed i 1) = true then 1 else b.Aim,
  b.Life,
  if (pressed i 8 && decide ((if 0 < b.Timer then b.Timer - 1 else b.Timer) = 0)) = true then 12 else (if 0 < b.Timer then b.Timer - 1 else b.Timer)⟩,
  pressed i 8 && decide ((if 0 < b.Timer then b.Timer - 1 else b.Timer) = 0))
def slide (hit : Int → Bool) (step : Int) : Nat → Int → Int × Bool
 | 0,x => (x,false)
 | n + 1,x => if hit (x + step) = true then (x,true) else slide hit step n (x + step)
theorem slide_hit {hit : Int → Bool} {step x : Int} {n : Nat} (h : hit (x + step) = true) : slide hit step (n + 1) x = (x,true) := by rw [slide,if_pos h]
theorem slide_go {hit : Int → Bool} {step x : Int} {n : Nat} (h : hit (x + step) = false) : slide hit step (n + 1) x = slide hit step n (x + step) := by rw [slide,if_neg (by rw [h]; simp)]
def dirOf (v : Int) : Int := if v < 0 then -1 else 1
noncomputable def moveX (l : TLevel) (b : TBody) : Int × Bool := slide (fun x => solidM l x b.Y (sizeOf b.Kind)) (dirOf b.VX) b.VX.natAbs b.X
noncomputable def moveY (l : TLevel) (b : TBody) : Int × Bool := slide (fun y => solidM l (moveX l b).1 y (sizeOf b.Kind)) (dirOf b.VY) b.VY.natAbs b.Y
noncomputable def moveM (l : TLevel) (b : TBody) : TBody × Bool :=
 (⟨b.Kind,b.Owner,(moveX l b).1,(moveY l b).1,if (moveX l b).2 = true then 0 else b.VX,if (moveY l b).2 = true then 0 else b.VY,b.Aim,b.Life,b.Timer⟩,(moveX l b).2 || (moveY l b).2)
def shotOf (b : TBody) : TBody := ⟨1,b.Owner,b.X + 4,b.Y + 4,6 * b.Aim,0,0,0,25⟩
def meetM (a b : TBody) : Bool :=
 ((decide (a.X < b.X + sizeOf b.Kind) && decide (b.X < a.X + sizeOf a.Kind)) && decide (a.Y < b.Y + sizeOf b.Kind)) && decide (b.Y < a.Y + sizeOf a.Kind)
structure Placed (b : TBody) : Prop where
 k : 0 ≤ b.Kind ∧ b.Kind ≤ 2
 x : 0 ≤ b.X ∧ b.X ≤ 1000
 y : 0 ≤ b.Y ∧ b.Y ≤ 1000
theorem size_pos {k : Int} (h : 0 ≤ k ∧ k ≤ 2) : 4 ≤ sizeOf k ∧ sizeOf k ≤ 12 := by
 unfold sizeOf
 split
 ·omega
 ·split
  ·omega
  ·split <;> omega
def colSp (row : ByteArray) (r : Nat) : Nat → List (List Int)
 | 0 => []
 | c + 1 => if byteAt row c = 111 then colSp row r c ++ [[(c : Int) * 16 + 4,(r : Int) * 16 + 4]] else colSp row r c
def rowSp (rows : List ByteArray) : Nat → List (List Int)
 | 0 => []
 | r + 1 => match rows[r]? with
  | none => rowSp rows r
  | some row => rowSp rows r ++ colSp row r row.size
end
section
open Go.RowKit

section
variable {P : Program} {E : Env} {ops : Array Oper} {o : Oper} {st : St} {n : Nat} {y : Operand}
theorem Qz {p i : Nat} (ho : o.op = .nilCheck y) (hg : o.guard = none) (hy : st.ev y = .o (.c (.ptr p i))) : Qt P ops o st (.o (.c (.ptr p i))) [] n :=
 .pure hg fun a w H F hr => by
  obtain ⟨g,tt,vs,e1,e2⟩ := hr.v1 hy
  exact ⟨.pointer (some ⟨g,i,none⟩),by simp [execOp,ho,e2],g,tt,vs,e1,J⟩
theorem q_nile {p k i j : Nat} (ho : o.op = .nilCheck y) (hg : o.guard = none) (hy : st.ev y = .o (.c (.el p k i j))) : Qt P ops o st (.o (.c (.el p k i j))) [] n :=
 .pure hg fun a w H F hr => by
  obtain ⟨b,o',m',c,x,fp,e1,e2⟩ := hr.v1 hy
  exact ⟨.pointer (some ⟨b,o' + i * k + j,none⟩),by simp [execOp,ho,e2],b,o',m',c,x,fp,e1,J⟩
end
structure Mid (st' : St) (e : Exit) (st : St) : Prop where
 h : e = .normal ∧ Wk st st'
section
variable {P : Program} {E : Env} {st st' : St}
theorem Mid.n (h : Wk st st') : Mid st' .normal st := ⟨rfl,h⟩
theorem A_join {c d : Code} {Q Q' : Exit → St → Prop} (st' : St) (h1 : AWP P E c (Mid st') st) (h2 : AWP P E d Q' st') : AWP P E c (thn (AWP P E d Q') Q) st :=
 AWP.mono (fun e s h => by obtain ⟨rfl,hw⟩ := h.h; exact ⟨AWP.weak hw h2⟩) h1
end
end
section
open Go.RowKit

theorem openF_35 {rows : List ByteArray} {row : ByteArray} {r c : Nat} (h : byteAt row c = 35) : openF rows row r c = openF rows row r (c + 1) := by
 cases ho : openF rows row r c with
 | some x => rw [Ze ho]
 | none => rw [Zf ho,if_pos h]
theorem tu2 {x y x' y' : Int} (h1 : x = x') (h2 : y = y') : V.tu [.c (jn x),.c (jn y)] = V.tu [.c (jn x'),.c (jn y')] := by rw [h1,h2]
theorem I_StartOf (l : TLevel) (p : Int) (hg : Enc.gd l) (hl : levelOk l = true) (hp : 0 ≤ p ∧ p ≤ 3) : Con Tryz.prog 135 [] [ag l,ai p] [] (.tu [.c (jn (spX (startT l p))),.c (jn (spY (startT l p)))]) := by
 have hc := Xu l hg
 rw [hl] at hc
 have hlr := Yq l.Rows
 have hx : l.Rows.length ≤ 9223372036854775807 := hg.1
 obtain ⟨l3,l12,w,w4,w20,hw⟩ := Y7 hl
 have b1 : decide (p < 0) = false := decide_eq_false (by omega)
 have b2 : decide (p ≥ 4) = false := decide_eq_false (by omega)
 refine Con.of Tryz.func135 J Tryz.ntmps135 J (fun E => ?_)
 refine zy (M1 (Qq J J J J) J J (z1 J (z1 J (zz (Qd (zy (z0 J (z9a J (by assumption) ?_))))))));refine z0 J (z5 J (z0 J (z5 J (z9d J (by assumption) (zpF J (z0 J (z5 J (z4 J J J (z5 J ?_)))))))));refine zx (Qj J J (hc) J) J ?_;refine z5 J (zn J (zpF J (zz (Ql J (Qh (Q0 (zy (z1 J (Qe ?_)))))))));refine Q0 (zy (z1 J (zz (Qd (zy (z2 J J J (z3 J (zx (Z0 J J J) J ?_))))))));refine z0 J (zz (Qk ?_));refine A_lq (fun m st => ∃ r : Nat,r + m = l.Rows.length ∧ (tileF (isDig p) l.Rows r = none) ∧ st = (⟨_,[(1,I p),(2,.o (.c (.ptr 0 0))),(6,I (spX (tileF isOpen l.Rows r))),(7,I (spY (tileF isOpen l.Rows r))),(23,L l.Rows),(24,I (els l.Rows).length),(25,I r)],[.box ((Enc.e l).map (V1.rd []))]⟩ : St)) (l.Rows.length) ⟨_,⟨0,by omega,J,J⟩,W_gj [0] J⟩ ?_
 rintro m_A _ ⟨r,hk_A,hp_A,rfl⟩
 refine zy (zx (Z5 J J J J) J (zz (Qd ?_)))
 refine Xb J (fun h => ?_) (fun h => ?_)
 ·have h3 : r < l.Rows.length := by have := of_decide_eq_true h; omega
  have hat := Yo h3
  have hwr := hw r h3
  have hrow := List.getElem?_eq_getElem h3
  generalize l.Rows[r] = row at hat hwr hrow
  refine Qh (Q0 (Qd (Qk (zy (z0 J (zx (Q2 J J J J (by omega) (by assumption) J) J (zx (Z4 J J J J) J (z1 J (z1 J (Qe ?_))))))))));refine Q0 (zy (z1 J (zz (Qk ?_))));refine A_lq (fun m st => ∃ c : Nat,c + m = row.size ∧ (colF (isDig p) row c = none) ∧ st = (⟨_,[(1,I p),(2,.o (.c (.ptr 0 0))),(6,I (spX (openF l.Rows row r c))),(7,I (spY (openF l.Rows row r c))),(8,I r),(9,S row),(10,I c),(23,L l.Rows),(24,I (els l.Rows).length),(25,I r)],[.box ((Enc.e l).map (V1.rd []))]⟩ : St)) (row.size) ⟨(fun c : Nat => (⟨_,[(1,I p),(2,.o (.c (.ptr 0 0))),(6,I (spX (openF l.Rows row r c))),(7,I (spY (openF l.Rows row r c))),(8,I r),(9,S row),(10,I c),(23,L l.Rows),(24,I (els l.Rows).length),(25,I r)],[.box ((Enc.e l).map (V1.rd []))]⟩ : St)) 0,⟨0,by omega,J,J⟩,X8 [0] (by decide) J (J) (.c J (.c J (.cons (Xx (by rw [openF_zero])) (.cons (Xx (by rw [openF_zero])) (.c J (.c J (.c J (.c J (.c J (.c J (.nil)))))))))))⟩ ?_
  rintro m_D _ ⟨c,hk_D,hp_D,rfl⟩
  refine Qd (zy (z0 J (z0 J (zx (Z3 J J J) J (zx (Z5 J J J J) J (zz ?_))))))
  refine Xb J (fun h4 => ?_) (fun h4 => ?_)
  ·have h4 : c < row.size := by have := of_decide_eq_true h4; omega
   have hbt := Yj row c
   have hbt2 := Yj row (c : Int).toNat
   by_cases hd : byteAt row c = 49 + p
   ·have hb : decide (byteAt row (c : Int).toNat = 49 + p) = true := decide_eq_true hd
    rw [start_dig hp_A hrow hp_D h4 hd]
    clear hd
    refine Qh (Q0 (Qd (Qk (Qd (zy (z0 J (z0 J (zx (Zq J J J J (by omega)) J (z0 J (z7 J (by omega) ?_))))))))));refine zx (Zt J J J J (K0 (by omega))) J (z9e J (by assumption) (zz (Qm J (zy (z0 J (zx (Z6 J J J J (by omega)) J (z7 J (by omega) (z0 J (zx (Z6 J J J J (by omega)) J ?_)))))))));refine z7 J (by omega) (z1 J (z1 J (zz (Xa (T_r (B_r (T_r (T_r (B_r (B_r ?_))))))))));refine T_r (T_r (B_r (T_r (F_r ?_))))
    exact Xq J J J (X6 [] (by decide) J J (tu2 (show (c : Int) * 16 + 2 = 16 * (c : Int) + 2 by omega) (show (r : Int) * 16 + 2 = 16 * (r : Int) + 2 by omega)))
   have hb : decide (byteAt row (c : Int).toNat = 49 + p) = false := decide_eq_false hd
   have hnd := colF_step hp_D (show isDig p (byteAt row c) = false from decide_eq_false hd)
   by_cases h35 : byteAt row c = 35
   ·have hb3 : decide (byteAt row (c : Int).toNat ≠ 35) = false := decide_eq_false (fun q => q h35)
    have hnx : spX (openF l.Rows row r c) = spX (openF l.Rows row r (c + 1)) := by rw [openF_35 h35]
    have hny : spY (openF l.Rows row r c) = spY (openF l.Rows row r (c + 1)) := by rw [openF_35 h35]
    clear h35
    refine Qh (Q0 (Qd (Qk (Qd (zy (z0 J (z0 J (zx (Zq J J J J (by omega)) J (z0 J (z7 J (by omega) ?_))))))))));refine zx (Zt J J J J (K0 (by omega))) J (z9e J (by assumption) (zz (Ql J (Qh (Q0 (zy (z0 J (z0 J (zx (Zq J J J J (by omega)) J ?_)))))))));refine z9f J (by assumption) (z0 J (z6 J (z6 J (zpF J (zz (Ql J (Qh (Q1 (Q0 (Qc ?_))))))))));refine z0 J (z7 J (by omega) (z1 J (zz ?_)))
    exact ⟨row.size - (c + 1),by omega,(fun c : Nat => (⟨_,[(1,I p),(2,.o (.c (.ptr 0 0))),(6,I (spX (openF l.Rows row r c))),(7,I (spY (openF l.Rows row r c))),(8,I r),(9,S row),(10,I c),(23,L l.Rows),(24,I (els l.Rows).length),(25,I r)],[.box ((Enc.e l).map (V1.rd []))]⟩ : St)) (c + 1),⟨c + 1,by omega,hnd,J⟩,X8 [0] (by decide) J (J) (.c J (.c J (.cons (Xx hnx) (.cons (Xx hny) (.c J (.c J (.c J (.c J (.c J (.c J (.nil)))))))))))⟩
   have hb3 : decide (byteAt row (c : Int).toNat ≠ 35) = true := decide_eq_true h35
   have h35' := h35
   cases ho : openF l.Rows row r c with
   | some x =>
    have hlt : decide (spX (openF l.Rows row r c) < 0) = false := decide_eq_false (by rw [spX_neg,ho]; simp)
    have hnx : spX (some x) = spX (openF l.Rows row r (c + 1)) := by rw [Ze ho]
    have hny : spY (some x) = spY (openF l.Rows row r (c + 1)) := by rw [Ze ho]
    rw [ho] at hlt
    refine Qh (Q0 (Qd (Qk (Qd (zy (z0 J (z0 J (zx (Zq J J J J (by omega)) J (z0 J (z7 J (by omega) ?_))))))))));refine zx (Zt J J J J (K0 (by omega))) J (z9e J (by assumption) (zz (Ql J (Qh (Q0 (zy (z0 J (z0 J (zx (Zq J J J J (by omega)) J ?_)))))))));refine z9f J (by assumption) (z0 J (z5 J (z0 J (z5 J (z9a J (by assumption) (zpT J (zz (Ql J (Qh (Q1 ?_))))))))));refine Q0 (Qc (z0 J (z7 J (by omega) (z1 J (zz ?_)))))
    exact ⟨row.size - (c + 1),by omega,(fun c : Nat => (⟨_,[(1,I p),(2,.o (.c (.ptr 0 0))),(6,I (spX (openF l.Rows row r c))),(7,I (spY (openF l.Rows row r c))),(8,I r),(9,S row),(10,I c),(23,L l.Rows),(24,I (els l.Rows).length),(25,I r)],[.box ((Enc.e l).map (V1.rd []))]⟩ : St)) (c + 1),⟨c + 1,by omega,hnd,J⟩,X8 [0] (by decide) J (J) (.c J (.c J (.cons (Xx hnx) (.cons (Xx hny) (.c J (.c J (.c J (.c J (.c J (.c J (.nil)))))))))))⟩
   | none =>
    have hlt : decide (spX none < 0) = true := rfl
    have hnx : (c : Int) * 16 + 2 = spX (openF l.Rows row r (c + 1)) := by rw [Zf ho,if_neg h35']; show (c : Int) * 16 + 2 = 16 * (c : Int) + 2; omega
    have hny : (r : Int) * 16 + 2 = spY (openF l.Rows row r (c + 1)) := by rw [Zf ho,if_neg h35']; show (r : Int) * 16 + 2 = 16 * (r : Int) + 2; omega
    refine Qh (Q0 (Qd (Qk (Qd (zy (z0 J (z0 J (zx (Zq J J J J (by omega)) J (z0 J (z7 J (by omega) ?_))))))))));refine zx (Zt J J J J (K0 (by omega))) J (z9e J (by assumption) (zz (Ql J (Qh (Q0 (zy (z0 J (z0 J (zx (Zq J J J J (by omega)) J ?_)))))))));refine z9f J (by assumption) (z0 J (z5 J (z0 J (z5 J (z9a J (by assumption) (zpT J (zz (Qm J (zy ?_)))))))));refine z0 J (zx (Z6 J J J J (by omega)) J (z7 J (by omega) (z1 J (zz (Qc (z0 J (zx (Z6 J J J J (by omega)) J (z7 J (by omega) (z1 J (Qe ?_))))))))));refine Q1 (Q0 (Qc (z0 J (z7 J (by omega) (z1 J (zz ?_))))))
    exact ⟨row.size - (c + 1),by omega,(fun c : Nat => (⟨_,[(1,I p),(2,.o (.c (.ptr 0 0))),(6,I (spX (openF l.Rows row r c))),(7,I (spY (openF l.Rows row r c))),(8,I r),(9,S row),(10,I c),(23,L l.Rows),(24,I (els l.Rows).length),(25,I r)],[.box ((Enc.e l).map (V1.rd []))]⟩ : St)) (c + 1),⟨c + 1,by omega,hnd,J⟩,X8 [0] (by decide) J (J) (.c J (.c J (.cons (Xx hnx) (.cons (Xx hny) (.c J (.c J (.c J (.c J (.c J (.c J (.nil)))))))))))⟩
  ·have h4 : c = row.size := by have := of_decide_eq_false h4; omega
   subst h4
   refine Q9 (T_x (T_x (Xl (Q1 (Q0 (Qc (z7 J (by omega) (z0 J (zz ?_)))))))))
   exact ⟨l.Rows.length - (r + 1),by omega,(fun r : Nat => (⟨_,[(1,I p),(2,.o (.c (.ptr 0 0))),(6,I (spX (tileF isOpen l.Rows r))),(7,I (spY (tileF isOpen l.Rows r))),(23,L l.Rows),(24,I (els l.Rows).length),(25,I r)],[.box ((Enc.e l).map (V1.rd []))]⟩ : St)) (r + 1),⟨r + 1,by omega,tileF_step hp_A hrow hp_D,J⟩,X8 [0] (by decide) J (J) (.c J (.c J (.cons (Xx (by rw [← openF_end hrow])) (.cons (Xx (by rw [← openF_end hrow])) (.c J (.c J (.c J (.nil))))))))⟩
 ·have h3 : r = l.Rows.length := by have := of_decide_eq_false h; omega
  rw [start_open hp_A h3]
  refine Q9 (T_x (T_x (Xl (Q0 (zy (z0 J (z0 J (z1 J (z1 J (Qe ?_))))))))));refine Q0 (Xa (F_r ?_))
  exact Xq J J J (X6 [] (by decide) J J J)
theorem S_StartOf (l : TLevel) (p : Int) (hg : Enc.gd l) (hl : levelOk l = true) (hp : 0 ≤ p ∧ p ≤ 3) : Con Tryz.prog 133 [] [ag l,ai p] [] (.tu [.c (jn (spX (startT l p))),.c (jn (spY (startT l p)))]) := by
 have hc := S_LevelOk l hg
 rw [hl] at hc
 have hlr := Yq l.Rows
 have hx : l.Rows.length ≤ 9223372036854775807 := hg.1
 obtain ⟨l3,l12,w,w4,w20,hw⟩ := Y7 hl
 have hci := S_in p 0 3
 rw [Y3.2 hp] at hci
 refine Con.of Tryz.func133 J Tryz.ntmps133 J (fun E => ?_)
 refine zy (M1 (Qq J J J J) J J (z1 J (z1 J (zz (zy (z1 J (zz ?_)))))));refine zy (z1 J (zz (Qd (zy (z4 J J J ?_)))));refine zx (Qj J J (hc) J) J ?_;refine zn J (z0 J (z5 J (z0 J (z5 J ?_))));refine zx (Qj J J (hci) J) J ?_;refine z5 J (zn J (zpF J (zz (Ql J (Qh (Q0 (Qd (zy (z1 J ?_)))))))));refine zz (Qk ?_);refine A_lq (fun m st => ∃ r : Nat,r + m = l.Rows.length ∧ (tileF (isDig p) l.Rows r = none) ∧ st = (⟨_,[(1,I p),(2,.o (.c (.ptr 0 0))),(6,I (spX (tileF isOpen l.Rows r))),(7,I (spY (tileF isOpen l.Rows r))),(8,I r)],[.box ((Enc.e l).map (V1.rd []))]⟩ : St)) (l.Rows.length) ⟨_,⟨0,by omega,J,J⟩,W_gj [0] J⟩ ?_
 rintro m_A _ ⟨r,hk_A,hp_A,rfl⟩
 refine Qd (zy (z0 J (z2 J J J (z3 J (zx (Z0 J J J) J (zx (Z5 J J J J) J (zz ?_)))))))
 refine Xb J (fun h => ?_) (fun h => ?_)
 ·have h3 : r < l.Rows.length := by have := of_decide_eq_true h; omega
  have hat := Yo h3
  have hwr := hw r h3
  have hrow := List.getElem?_eq_getElem h3
  generalize l.Rows[r] = row at hat hwr hrow
  refine Qh (Q0 (Qd (Qk (zy (z1 J (zz (Qk ?_)))))));refine A_lq (fun m st => ∃ c : Nat,c + m = row.size ∧ (colF (isDig p) row c = none) ∧ st = (⟨_,[(1,I p),(2,.o (.c (.ptr 0 0))),(6,I (spX (openF l.Rows row r c))),(7,I (spY (openF l.Rows row r c))),(8,I r),(9,I c)],[.box ((Enc.e l).map (V1.rd []))]⟩ : St)) (row.size) ⟨(fun c : Nat => (⟨_,[(1,I p),(2,.o (.c (.ptr 0 0))),(6,I (spX (openF l.Rows row r c))),(7,I (spY (openF l.Rows row r c))),(8,I r),(9,I c)],[.box ((Enc.e l).map (V1.rd []))]⟩ : St)) 0,⟨0,by omega,J,J⟩,X8 [0] (by decide) J (J) (.c J (.c J (.cons (Xx (by rw [openF_zero])) (.cons (Xx (by rw [openF_zero])) (.c J (.c J (.nil)))))))⟩ ?_
  rintro m_D _ ⟨c,hk_D,hp_D,rfl⟩
  refine Qd (zy (z0 J (z2 J J J (z3 J (z0 J (zx (Q2 J J J J (by omega) (by assumption) J) J (zx (Z4 J J J J) J (zx (Z3 J J J) J (zx (Z5 J J J J) J (Qe ?_))))))))));refine Q0 ?_
  refine Xb J (fun h4 => ?_) (fun h4 => ?_)
  ·have h4 : c < row.size := by have := of_decide_eq_true h4; omega
   have hbt := Yj row c
   have hbt2 := Yj row (c : Int).toNat
   by_cases hd : byteAt row c = 49 + p
   ·have hb : decide (byteAt row (c : Int).toNat - 49 = p) = true := decide_eq_true (by show byteAt row c - 49 = p; omega)
    have hb3 : decide (byteAt row (c : Int).toNat ≠ 35) = true := decide_eq_true (by show byteAt row c ≠ 35; omega)
    rw [start_dig hp_A hrow hp_D h4 hd]
    clear hd
    cases ho : openF l.Rows row r c with
    | some x =>
     have hlt : decide (spX (openF l.Rows row r c) < 0) = false := decide_eq_false (by rw [spX_neg,ho]; simp)
     rw [ho] at hlt
     refine Qh (Q0 (Qd (Qk (zy (z2 J J J (z3 J (z0 J (zx (Q2 J J J J (by omega) (by assumption) J) J (zx (Z4 J J J J) J (z0 J ?_))))))))));refine zx (Zq J J J J (by omega)) J (z1 J (zz (Qd (zy (z0 J (z9f J (by assumption) (z0 J (z5 J (z0 J ?_)))))))));refine z5 J (z9a J (by assumption) (zpT J (z0 J (z5 J (z0 J (z5 J (zx (Zt J J J J (Kz (by omega))) J (z5 J (z8 J (by omega) (z5 J (z0 J ?_)))))))))));refine z5 J (z9e J (by assumption) (zpF J (zz (Qm J (zy (z0 J (zx (Z6 J J J J (by omega)) J (z7 J (by omega) (z1 J ?_)))))))));refine zz (Qc (z0 J (zx (Z6 J J J J (by omega)) J (z7 J (by omega) (z1 J (zz (zy (z0 J ?_))))))));refine zx (Zt J J J J (Kz (by omega))) J (z8 J (by omega) (z0 J (z9e J (by assumption) (zz (Qm J (zy (z0 J (z0 J (z1 J ?_)))))))));refine z1 J (zz (Xa (B_r (T_r (T_r (B_r (B_r (T_r (T_r (B_r ?_))))))))));refine T_r (F_r ?_)
     exact Xq J J J (X6 [] (by decide) J J J)
    | none =>
     have hlt : decide (spX none < 0) = true := rfl
     refine Qh (Q0 (Qd (Qk (zy (z2 J J J (z3 J (z0 J (zx (Q2 J J J J (by omega) (by assumption) J) J (zx (Z4 J J J J) J (z0 J ?_))))))))));refine zx (Zq J J J J (by omega)) J (z1 J (zz (Qd (zy (z0 J (z9f J (by assumption) (z0 J (z5 J (z0 J ?_)))))))));refine z5 J (z9a J (by assumption) (zpT J (z0 J (z6 J (z6 J (z6 J (z6 J (z6 J (zpT J (zz ?_))))))))));refine Qm J (zy (z0 J (zx (Z6 J J J J (by omega)) J (z7 J (by omega) (z1 J (zz (Qc (z0 J (zx (Z6 J J J J (by omega)) J ?_)))))))));refine z7 J (by omega) (z1 J (zz (zy (z0 J (zx (Zt J J J J (Kz (by omega))) J (z8 J (by omega) (z0 J (z9e J (by assumption) (Qe ?_)))))))));refine Q0 (Qm J (zy (z0 J (z0 J (z1 J (z1 J (zz (Xa (B_r ?_)))))))));refine T_r (T_r (B_r (B_r (T_r (T_r (B_r (T_r (F_r ?_))))))))
     exact Xq J J J (X6 [] (by decide) J J J)
   have hb : decide (byteAt row (c : Int).toNat - 49 = p) = false := decide_eq_false (by show ¬ byteAt row c - 49 = p; omega)
   have hnd := colF_step hp_D (show isDig p (byteAt row c) = false from decide_eq_false hd)
   by_cases h35 : byteAt row c = 35
   ·have hb3 : decide (byteAt row (c : Int).toNat ≠ 35) = false := decide_eq_false (fun q => q h35)
    have hnx : spX (openF l.Rows row r c) = spX (openF l.Rows row r (c + 1)) := by rw [openF_35 h35]
    have hny : spY (openF l.Rows row r c) = spY (openF l.Rows row r (c + 1)) := by rw [openF_35 h35]
    clear h35
    refine Qh (Q0 (Qd (Qk (zy (z2 J J J (z3 J (z0 J (zx (Q2 J J J J (by omega) (by assumption) J) J (zx (Z4 J J J J) J (z0 J ?_))))))))));refine zx (Zq J J J J (by omega)) J (z1 J (zz (Qd (zy (z0 J (z9f J (by assumption) (z0 J (z6 J (z6 J ?_)))))))));refine zpF J (z0 J (z5 J (z0 J (z5 J (zx (Zt J J J J (Kz (by omega))) J (z5 J (z8 J (by omega) (z5 J (z0 J (z5 J (z9e J (by assumption) ?_)))))))))));refine zpF J (zz (Ql J (Qh (Q0 (zy (z0 J (zx (Zt J J J J (Kz (by omega))) J (z8 J (by omega) (z0 J ?_)))))))));refine z9e J (by assumption) (zz (Ql J (Qh (Q1 (Q0 (Qc (z0 J (z7 J (by omega) (z1 J (Qe ?_))))))))));refine Q0 ?_
    exact ⟨row.size - (c + 1),by omega,(fun c : Nat => (⟨_,[(1,I p),(2,.o (.c (.ptr 0 0))),(6,I (spX (openF l.Rows row r c))),(7,I (spY (openF l.Rows row r c))),(8,I r),(9,I c)],[.box ((Enc.e l).map (V1.rd []))]⟩ : St)) (c + 1),⟨c + 1,by omega,hnd,J⟩,X8 [0] (by decide) J (J) (.c J (.c J (.cons (Xx hnx) (.cons (Xx hny) (.c J (.c J (.nil)))))))⟩
   have hb3 : decide (byteAt row (c : Int).toNat ≠ 35) = true := decide_eq_true h35
   have h35' := h35
   cases ho : openF l.Rows row r c with
   | some x =>
    have hlt : decide (spX (openF l.Rows row r c) < 0) = false := decide_eq_false (by rw [spX_neg,ho]; simp)
    have hnx : spX (some x) = spX (openF l.Rows row r (c + 1)) := by rw [Ze ho]
    have hny : spY (some x) = spY (openF l.Rows row r (c + 1)) := by rw [Ze ho]
    rw [ho] at hlt
    refine Qh (Q0 (Qd (Qk (zy (z2 J J J (z3 J (z0 J (zx (Q2 J J J J (by omega) (by assumption) J) J (zx (Z4 J J J J) J (z0 J ?_))))))))));refine zx (Zq J J J J (by omega)) J (z1 J (zz (Qd (zy (z0 J (z9f J (by assumption) (z0 J (z5 J (z0 J ?_)))))))));refine z5 J (z9a J (by assumption) (zpT J (z0 J (z5 J (z0 J (z5 J (zx (Zt J J J J (Kz (by omega))) J (z5 J (z8 J (by omega) (z5 J (z0 J ?_)))))))))));refine z5 J (z9e J (by assumption) (zpF J (zz (Ql J (Qh (Q0 (zy (z0 J (zx (Zt J J J J (Kz (by omega))) J ?_)))))))));refine z8 J (by omega) (z0 J (z9e J (by assumption) (zz (Ql J (Qh (Q1 (Q0 (Qc (z0 J (z7 J (by omega) ?_))))))))));refine z1 J (zz ?_)
    exact ⟨row.size - (c + 1),by omega,(fun c : Nat => (⟨_,[(1,I p),(2,.o (.c (.ptr 0 0))),(6,I (spX (openF l.Rows row r c))),(7,I (spY (openF l.Rows row r c))),(8,I r),(9,I c)],[.box ((Enc.e l).map (V1.rd []))]⟩ : St)) (c + 1),⟨c + 1,by omega,hnd,J⟩,X8 [0] (by decide) J (J) (.c J (.c J (.cons (Xx hnx) (.cons (Xx hny) (.c J (.c J (.nil)))))))⟩
   | none =>
    have hlt : decide (spX none < 0) = true := rfl
    have hnx : 16 * (c : Int) + 2 = spX (openF l.Rows row r (c + 1)) := by rw [Zf ho,if_neg h35']; rfl
    have hny : 16 * (r : Int) + 2 = spY (openF l.Rows row r (c + 1)) := by rw [Zf ho,if_neg h35']; rfl
    refine Qh (Q0 (Qd (Qk (zy (z2 J J J (z3 J (z0 J (zx (Q2 J J J J (by omega) (by assumption) J) J (zx (Z4 J J J J) J (z0 J ?_))))))))));refine zx (Zq J J J J (by omega)) J (z1 J (zz (Qd (zy (z0 J (z9f J (by assumption) (z0 J (z5 J (z0 J ?_)))))))));refine z5 J (z9a J (by assumption) (zpT J (z0 J (z6 J (z6 J (z6 J (z6 J (z6 J (zpT J (zz ?_))))))))));refine Qm J (zy (z0 J (zx (Z6 J J J J (by omega)) J (z7 J (by omega) (z1 J (zz (Qc (z0 J (zx (Z6 J J J J (by omega)) J ?_)))))))));refine z7 J (by omega) (z1 J (zz (zy (z0 J (zx (Zt J J J J (Kz (by omega))) J (z8 J (by omega) (z0 J (z9e J (by assumption) (Qe ?_)))))))));refine Q0 (Ql J (Qh (Q1 (Q0 (Qc (z0 J (z7 J (by omega) (z1 J (zz ?_)))))))))
    exact ⟨row.size - (c + 1),by omega,(fun c : Nat => (⟨_,[(1,I p),(2,.o (.c (.ptr 0 0))),(6,I (spX (openF l.Rows row r c))),(7,I (spY (openF l.Rows row r c))),(8,I r),(9,I c)],[.box ((Enc.e l).map (V1.rd []))]⟩ : St)) (c + 1),⟨c + 1,by omega,hnd,J⟩,X8 [0] (by decide) J (J) (.c J (.c J (.cons (Xx hnx) (.cons (Xx hny) (.c J (.c J (.nil)))))))⟩
  ·have h4 : c = row.size := by have := of_decide_eq_false h4; omega
   subst h4
   refine Q9 (T_x (T_x (Xl (Q1 (Q0 (Qc (z0 J (z7 J (by omega) (z1 J (zz ?_))))))))))
   exact ⟨l.Rows.length - (r + 1),by omega,(fun r : Nat => (⟨_,[(1,I p),(2,.o (.c (.ptr 0 0))),(6,I (spX (tileF isOpen l.Rows r))),(7,I (spY (tileF isOpen l.Rows r))),(8,I r)],[.box ((Enc.e l).map (V1.rd []))]⟩ : St)) (r + 1),⟨r + 1,by omega,tileF_step hp_A hrow hp_D,J⟩,X8 [0] (by decide) J (J) (.c J (.c J (.cons (Xx (by rw [← openF_end hrow])) (.cons (Xx (by rw [← openF_end hrow])) (.c J (.nil))))))⟩
 ·have h3 : r = l.Rows.length := by have := of_decide_eq_false h; omega
  rw [start_open hp_A h3]
  refine Q9 (T_x (T_x (Xl (Q0 (zy (z0 J (z0 J (z1 J (z1 J (Qe ?_))))))))));refine Q0 (Xa (F_r ?_))
  exact Xq J J J (X6 [] (by decide) J J J)
end
section
open Go.RowKit

theorem I_fresh (l : TLevel) (p : Int) (hg : Enc.gd l) (hl : levelOk l = true) (hp : 0 ≤ p ∧ p ≤ 3) : Con Tryz.prog 93 [] [ag l,ai p] [] (.o (.ag ((Enc.e (fresh l p)).map (V1.rd [])))) := by
 have hc := I_StartOf l p hg hl hp
 refine Con.of Tryz.func93 J Tryz.ntmps93 J (fun E => ?_)
 refine zy (M1 (Qq J J J J) J J (M1 (Qx J J J) J J (zz (zy (z4 J J J (z0 J ?_))))));refine M1 (Zs J J (hc) J J J) J J ?_;refine zx (Q8 J J J) J (ze J (ze J (z1 J (z1 J (zz (zy (z0 J (z0 J (z0 J ?_)))))))));refine zx (Zp J J J J J) J ?_;refine Qy J J J J J J J J J (zz (Xa (F_r ?_)))
 exact Xm J J J J (X6 [] (by decide) J J J)
theorem S_fresh (l : TLevel) (p : Int) (hg : Enc.gd l) (hl : levelOk l = true) (hp : 0 ≤ p ∧ p ≤ 3) : Con Tryz.prog 89 [] [ag l,ai p] [] (.o (.ag ((Enc.e (fresh l p)).map (V1.rd [])))) := by
 have hc := S_StartOf l p hg hl hp
 refine Con.of Tryz.func89 J Tryz.ntmps89 J (fun E => ?_)
 refine zy (M1 (Qq J J J J) J J (M1 (Qx J J J) J J (zz (zy (z4 J J J (z0 J ?_))))));refine M1 (Zs J J (hc) J J J) J J ?_;refine zx (Q8 J J J) J (ze J (ze J (z1 J (z1 J (zz (zy (z0 J (z0 J (z0 J ?_)))))))));refine zx (Zp J J J J J) J ?_;refine Qy J J J J J J J J J (zz (Xa (F_r ?_)))
 exact Xm J J J J (X6 [] (by decide) J J J)
theorem row6w {a b c d e : Ob} {k : Nat} {x y : List (List T)} (h : x = y) : [a,b,c,d,e,Ob.row k x] = [a,b,c,d,e,Ob.row k y] := by rw [h]
def freshs (l : TLevel) (k : Nat) : List TBody := (List.range k).map fun (k : Nat) => fresh l (k : Int)
theorem freshs_succ (l : TLevel) (k : Nat) : freshs l (k + 1) = freshs l k ++ [fresh l k] := by simp [freshs,List.range_succ]
theorem freshs_len (l : TLevel) (k : Nat) : (freshs l k).length = k := by simp [freshs]
theorem zeros_els (n : Nat) : els (List.replicate n (0 : Int)) = List.replicate n [.v (.int .i64 0)] := by simp [els,Enc.e]
theorem newWorld_gd {l : TLevel} {n : Nat} {seed : Int} (hg : Enc.gd l) (hl : levelOk l = true) (hn : 1 ≤ n ∧ n ≤ 4) (hs : inR seed 0 65535 = true) : Enc.gd (newWorld l n seed) := by
 have h0 : I64 0 := ⟨by decide,by decide⟩
 have hsd := Y3.1 hs
 refine ⟨hg,h0,⟨by show (-9223372036854775808 : Int) ≤ seed; omega,by show seed ≤ 9223372036854775807; omega⟩,⟨by simp [newWorld]; omega,fun x hx => ?_⟩,⟨by simp [newWorld]; omega,fun b hb => ?_⟩⟩
 ·have : x = 0 := by simpa [newWorld] using List.eq_of_mem_replicate hx
  rw [this]; exact h0
 ·simp only [newWorld,List.mem_map,List.mem_range] at hb
  obtain ⟨k,hk,rfl⟩ := hb
  obtain ⟨_,h3,h4⟩ := fresh_free hl (p := (k : Int)) (by omega)
  exact ⟨h0,⟨by show (-9223372036854775808 : Int) ≤ (k : Int); omega,by show (k : Int) ≤ 9223372036854775807; omega⟩,⟨by omega,by omega⟩,⟨by omega,by omega⟩,h0,h0,⟨by simp only [fresh]; omega,by simp only [fresh]; omega⟩,⟨by simp only [fresh]; omega,by simp only [fresh]; omega⟩,h0⟩
theorem I_NewWorld (l : TLevel) (n : Nat) (seed : Int) (hg : Enc.gd l) (hL : l.Rows.length ≤ 1048576) (hl : levelOk l = true) (hn : 1 ≤ n ∧ n ≤ 4) (hs : inR seed 0 65535 = true) : Con Tryz.prog 45 [] [ag l,ai n,ai seed] (ownO (Enc.e (newWorld l n seed))) (.tu [.ag (ownV 0 (Enc.e (newWorld l n seed))),.c (bv true)]) := by
 have c1 := Xu l hg
 have c2 := Xw n 1 4
 have c3 := Xw seed 0 65535
 rw [hl] at c1
 rw [Y3.2 (by omega)] at c2
 rw [hs] at c3
 have hwk := I_WorldOk (newWorld l n seed) (newWorld_gd hg hl hn hs)
 rw [newWorld_ok hl hn hs] at hwk
 have hcl := I_copyLevel l hg hL
 refine Con.of Tryz.func45 J Tryz.ntmps45 J (fun E => ?_)
 refine zy (M1 (Qq J J J J) J J (M1 (Qx J J J) J J (z1 J (zz (Qd (zy (z4 J J J ?_)))))));refine zx (Qj J J (c1) J) J ?_;refine zn J (z0 J (z5 J (z0 J (z5 J ?_))));refine zx (Qj J J (c2) J) J ?_;refine z5 J (zn J (zpF J (z0 J (z5 J (z0 J (z5 J ?_))))));refine zx (Qj J J (c3) J) J ?_;refine z5 J (zn J (zpF J (zz (Ql J (Qh (Q0 (Qd ?_)))))))
 refine AWP.pre (st' := (⟨_,[(1,I n),(2,I seed),(3,.o (.c (.ptr 0 0))),(6,.o (.c (.ptr 1 0)))],[.box ((Enc.e l).map (V1.rd [])),.box [nilV,jn 0,jn 0,nilV,nilV]]⟩ : St)) ?_ (W_gj [0,1] J)
 skip
 refine Xi [[],[0],[],[],[3],(u9 5),[],(u9 7)] [[],[24],[],[],[27],[24,25,26,27,28],[],[8,24,25,26,27,28,29]] [[8,26,27,28],[8,26,27,28],[8,24,25,27,28],[8,24,25,26],[8,24,25,26],[8],[24,25,26,27,28,29],[]] J (DR.s (Qu J J J J J J) J J ?_);refine DR.s (Zs J J (hcl) J J J) J J ?_;refine DR.s (Qa J J J) J J (DR.s (Qa J J J) J J ?_);refine DR.s (q_make 0 J J J J (by omega) (by omega) (by omega) J (by decide)) J J ?_;refine DR.s (Zp J J J J J) J J (DR.s (Qx J J J) J J (DR.stop (by kernel_rfl) (by kernel_rfl) ?_))
 refine AL.weak (st' := (⟨_,[(1,I n),(3,.o (.c (.ptr 0 0))),(6,.o (.c (.ptr 1 0))),(8,.o (.c (.ptr 4 0))),(29,.o (.ag [.ref 2,jn 0,jn seed,.ref 3,nilV]))],[.box ((Enc.e l).map (V1.rd [])),.box [nilV,jn 0,jn 0,nilV,nilV],.row 1 (els l.Rows),.row 1 (els (List.replicate n (0 : Int))),.box [nilV,jn 0,jn 0,nilV,nilV]]⟩ : St)) (X8 [0,1,2,3,4] (by decide) J ((by rw [zeros_els]; rfl)) (.c J (.c J (.c J (.c J (.c J (.nil))))))) ?_
 refine Qy J J J J J J J J J (zz (Qd (zy (z1 J (zz (Qk ?_))))))
 refine AWP.pre (st' := (⟨_,[(1,I n),(3,.o (.c (.ptr 0 0))),(6,.o (.c (.ptr 1 0))),(8,.o (.c (.ptr 4 0))),(9,I 0)],[.box ((Enc.e l).map (V1.rd [])),.box [nilV,jn 0,jn 0,nilV,nilV],.row 1 (els l.Rows),.row 1 (els (List.replicate n (0 : Int))),.box [.ref 2,jn 0,jn seed,.ref 3,nilV]]⟩ : St)) ?_ (W_gj [0,1,2,3,4] J)
 refine AWP.pre ?_ (Wk.nilbox (p := 4) (i := 4) 9 J J)
 refine A_lq (fun m st => ∃ k : Nat,k + m = n ∧ (True) ∧ st = (⟨_,[(1,I n),(3,.o (.c (.ptr 0 0))),(6,.o (.c (.ptr 1 0))),(8,.o (.c (.ptr 4 0))),(9,I k)],[.box ((Enc.e l).map (V1.rd [])),.box [nilV,jn 0,jn 0,nilV,nilV],.row 1 (els l.Rows),.row 1 (els (List.replicate n (0 : Int))),.box [.ref 2,jn 0,jn seed,.ref 3,.ref 5],.row 9 (els (freshs l k))]⟩ : St)) (n) ⟨_,⟨0,by omega,trivial,J⟩,W_gj [0,1,2,3,4,5] J⟩ ?_
 rintro m_A _ ⟨k,hk_A,hp_A,rfl⟩
 have hlk := Yq (freshs l k)
 have hlk2 := freshs_len l k
 refine Qd (zy (z0 J (z0 J (zx (Z5 J J J J) J (zz ?_)))))
 refine Xb J (fun h => ?_) (fun h => ?_)
 ·have h3 : k < n := by have := of_decide_eq_true h; omega
  have hf := I_fresh l k hg hl (by omega)
  refine Qh (Q0 (Qd (Qk (Xi u8_16 [[],[35],[],[],[37,38],[37,38,39],[35,36,37,38,39,40],[35,36,37,38,39,40,41],[35,36,37,38,39,40,41,42]] [[37,38,39,40],[37,38,39,40],[35,36,38],[35,36,37],[35,36],[35,36],[],[],[]] J (DR.s (Qf J J J J (by decide)) J J (DR.s (Qg J J J J J) J J (DR.s (Qu J J J J J J) J J (DR.s (Qa J J J) J J ?_))))))));refine DR.s (Zs J J (hf) J J J) J J ?_;refine DR.s (Zm J J J J J J) J J (DR.stop (by kernel_rfl) (by kernel_rfl) ?_);refine AL.weak (st' := (⟨_,[(1,I n),(3,.o (.c (.ptr 0 0))),(6,.o (.c (.ptr 1 0))),(8,.o (.c (.ptr 4 0))),(9,I k),(36,.o (.c (.ref 5))),(40,.o (.c (.sb 6 1 9)))],[.box ((Enc.e l).map (V1.rd [])),.box [nilV,jn 0,jn 0,nilV,nilV],.row 1 (els l.Rows),.row 1 (els (List.replicate n (0 : Int))),.box [.ref 2,jn 0,jn seed,.ref 3,.ref 5],.row 9 (els (freshs l k)),.box [jn 0,jn (k : Int),jn (spX (startT l k)),jn (spY (startT l k)),jn 0,jn 0,jn 1,jn 3,jn 0]]⟩ : St)) (W_gj [0,1,2,3,4,5,6] J) ?_;refine Xy J J J J J J J J J J J J J J (by omega) (by omega) ?_;refine z2 J J J ?_;refine Q5 J J J J J J J J (Qe (Q1 (Q0 (Qc (z0 J (z7 J (by omega) (z1 J (zz ?_))))))))
  exact ⟨n - (k + 1),by omega,(fun k : Nat => (⟨_,[(1,I n),(3,.o (.c (.ptr 0 0))),(6,.o (.c (.ptr 1 0))),(8,.o (.c (.ptr 4 0))),(9,I k)],[.box ((Enc.e l).map (V1.rd [])),.box [nilV,jn 0,jn 0,nilV,nilV],.row 1 (els l.Rows),.row 1 (els (List.replicate n (0 : Int))),.box [.ref 2,jn 0,jn seed,.ref 3,.ref 5],.row 9 (els (freshs l k))]⟩ : St)) (k + 1),⟨k + 1,by omega,trivial,J⟩,X8 [0,1,2,3,4,5] (by decide) J (row6w (by rw [freshs_succ]; simp [els]; rfl)) (.c J (.c J (.c J (.c J (.c J (.nil))))))⟩
 have h3 : k = n := by have := of_decide_eq_false h; omega
 subst h3
 refine Q9 (T_x (T_x (Xl (Q0 (Qd (zy (z4 J J J ?_)))))));refine zx (Qj J J (hwk) J) J ?_;refine zn J (zz (Ql J (Qh (Q0 (zy (z4 J J J ?_))))));refine Qy J J J J J J J J J (z1 J (zz (Xa (F_r ?_))))
 exact Xn J J J J J (X6 [2,3,5] (by decide) J J J)
theorem reps_succ (k : Nat) : els (List.replicate k (0 : Int)) ++ [[.v (.int .i64 0)]] = els (List.replicate (k + 1) (0 : Int)) := by rw [List.replicate_succ']; simp [els,Enc.e]
theorem row65 {a b c d e : Ob} {k : Nat} {x y : List (List T)} (h : x = y) : [a,b,c,d,Ob.row k x,e] = [a,b,c,d,Ob.row k y,e] := by rw [h]
theorem S_NewWorld (l : TLevel) (n : Nat) (seed : Int) (hg : Enc.gd l) (hL : l.Rows.length ≤ 1048576) (hl : levelOk l = true) (hn : 1 ≤ n ∧ n ≤ 4) (hs : inR seed 0 65535 = true) : Con Tryz.prog 40 [] [ag l,ai n,ai seed] (ownO (Enc.e (newWorld l n seed))) (.tu [.ag (ownV 0 (Enc.e (newWorld l n seed))),.c (bv true)]) := by
 have hwk := S_WorldOk (newWorld l n seed) (newWorld_gd hg hl hn hs)
 rw [newWorld_ok hl hn hs] at hwk
 have hcl := S_copyLevel l hg hL
 refine Con.of Tryz.func40 J Tryz.ntmps40 J (fun E => ?_)
 refine zy (M1 (Qq J J J J) J J (M1 (Qx J J J) J J (z1 J (zz (zy (z4 J J J ?_))))));refine M1 (Zs J J (hcl) J J J) J J ?_;refine z0 J (zx (Zp J J J J J) J (M1 (Qx J J J) J J ?_));refine Qy J J J J J J J J J (zz (Qd (zy (z1 J (zz (Qk ?_))))))
 refine AWP.pre (st' := (⟨_,[(1,I n),(3,.o (.c (.ptr 0 0))),(6,.o (.c (.ptr 1 0))),(8,.o (.c (.ptr 3 0))),(9,I 0)],[.box ((Enc.e l).map (V1.rd [])),.box [nilV,jn 0,jn 0,nilV,nilV],.row 1 (els l.Rows),.box [.ref 2,jn 0,jn seed,nilV,nilV]]⟩ : St)) ?_ (W_gj [0,1,2,3] J)
 refine AWP.pre ?_ (Wk.nilbox (p := 3) (i := 3) 1 J J)
 refine AWP.pre ?_ (Wk.nilbox (p := 3) (i := 4) 9 J J)
 refine A_lq (fun m st => ∃ k : Nat,k + m = n ∧ (True) ∧ st = (⟨_,[(1,I n),(3,.o (.c (.ptr 0 0))),(6,.o (.c (.ptr 1 0))),(8,.o (.c (.ptr 3 0))),(9,I k)],[.box ((Enc.e l).map (V1.rd [])),.box [nilV,jn 0,jn 0,nilV,nilV],.row 1 (els l.Rows),.box [.ref 2,jn 0,jn seed,.ref 4,.ref 5],.row 1 (els (List.replicate k (0 : Int))),.row 9 (els (freshs l k))]⟩ : St)) (n) ⟨_,⟨0,by omega,trivial,J⟩,W_gj [0,1,2,3,4,5] J⟩ ?_
 rintro m_A _ ⟨k,hk_A,hp_A,rfl⟩
 have hlk := Yq (freshs l k)
 have hlk2 := freshs_len l k
 have hl0 : (els (List.replicate k (0 : Int))).length = k := by rw [Yq,List.length_replicate]
 have f2 : decide ((k : Int) ≤ 4) = true := decide_eq_true (by omega)
 by_cases h3 : k < n
 ·have f1 : decide ((k : Int) < n) = true := decide_eq_true (by omega)
  have hf := S_fresh l k hg hl (by omega)
  refine Qd (zy (z0 J (z0 J (z9a J (by assumption) (z0 J (z5 J (z0 J (z5 J (z9b J (by assumption) (zpT J ?_))))))))));refine zz (Qm J (Qh (Q0 (Qd (Qk (zy (z2 J J J (z3 J (M1 (Zm J J J J J J) J J ?_)))))))));refine M_appsb J J J J J J J J J J (by omega) (by omega) ?_;refine z2 J J J ?_;refine Q5 J J J J J J J J (zz ?_)
  refine AWP.pre (st' := (⟨_,[(1,I n),(3,.o (.c (.ptr 0 0))),(6,.o (.c (.ptr 1 0))),(8,.o (.c (.ptr 3 0))),(9,I k)],[.box ((Enc.e l).map (V1.rd [])),.box [nilV,jn 0,jn 0,nilV,nilV],.row 1 (els l.Rows),.box [.ref 2,jn 0,jn seed,.ref 4,.ref 5],.row 1 (els (List.replicate (k + 1) (0 : Int))),.row 9 (els (freshs l k))]⟩ : St)) ?_ (X8 [0,1,2,3,4,5] (by decide) J ((row65 (reps_succ k).symm)) (.c J (.c J (.c J (.c J (.c J (.nil)))))))
  refine Xi u8_16 [[],[28],[],[],[30,31],[30,31,32],[28,29,30,31,32,33],[28,29,30,31,32,33,34],[28,29,30,31,32,33,34,35]] [[30,31,32,33],[30,31,32,33],[28,29,31],[28,29,30],[28,29],[28,29],[],[],[]] J (DR.s (Qf J J J J (by decide)) J J (DR.s (Qg J J J J J) J J (DR.s (Qu J J J J J J) J J (DR.s (Qa J J J) J J ?_))));refine DR.s (Zs J J (hf) J J J) J J ?_;refine DR.s (Zm J J J J J J) J J (DR.stop (by kernel_rfl) (by kernel_rfl) ?_);refine AL.weak (st' := (⟨_,[(1,I n),(3,.o (.c (.ptr 0 0))),(6,.o (.c (.ptr 1 0))),(8,.o (.c (.ptr 3 0))),(9,I k),(29,.o (.c (.ref 5))),(33,.o (.c (.sb 6 1 9)))],[.box ((Enc.e l).map (V1.rd [])),.box [nilV,jn 0,jn 0,nilV,nilV],.row 1 (els l.Rows),.box [.ref 2,jn 0,jn seed,.ref 4,.ref 5],.row 1 (els (List.replicate (k + 1) (0 : Int))),.row 9 (els (freshs l k)),.box [jn 0,jn (k : Int),jn (spX (startT l k)),jn (spY (startT l k)),jn 0,jn 0,jn 1,jn 3,jn 0]]⟩ : St)) (W_gj [0,1,2,3,4,5,6] J) ?_;refine Xy J J J J J J J J J J J J J J (by omega) (by omega) ?_;refine z2 J J J ?_;refine Q5 J J J J J J J J (Qe (Q1 (Q0 (Qc (z0 J (z7 J (by omega) (z1 J (zz ?_))))))))
  exact ⟨n - (k + 1),by omega,(fun k : Nat => (⟨_,[(1,I n),(3,.o (.c (.ptr 0 0))),(6,.o (.c (.ptr 1 0))),(8,.o (.c (.ptr 3 0))),(9,I k)],[.box ((Enc.e l).map (V1.rd [])),.box [nilV,jn 0,jn 0,nilV,nilV],.row 1 (els l.Rows),.box [.ref 2,jn 0,jn seed,.ref 4,.ref 5],.row 1 (els (List.replicate k (0 : Int))),.row 9 (els (freshs l k))]⟩ : St)) (k + 1),⟨k + 1,by omega,trivial,J⟩,X8 [0,1,2,3,4,5] (by decide) J (row6w (by rw [freshs_succ]; simp [els]; rfl)) (.c J (.c J (.c J (.c J (.c J (.nil))))))⟩
 have f1 : decide ((k : Int) < n) = false := decide_eq_false (by omega)
 have h3 : k = n := by omega
 subst h3
 refine Qd (zy (z0 J (z0 J (z9a J (by assumption) (z0 J (z6 J (z6 J (zpF J (zz ?_)))))))));refine Ql J (Q9 (T_x (T_x (Xl (Q0 (Qd (zy (z4 J J J ?_))))))));refine zx (Qj J J (hwk) J) J ?_;refine zn J (zz (Ql J (Qh (Q0 (zy (z4 J J J ?_))))));refine Qy J J J J J J J J J (z1 J (zz (Xa (F_r ?_))))
 exact Xn J J J J J (X6 [2,4,5] (by decide) J J J)
end
section
open Go.RowKit

theorem I_NextRandom (s : Int) (h : 0 ≤ s ∧ s ≤ 65535) : Con Tryz.prog 128 [] [ai s] [] (I (nextR s)) := by
 have f1 : decide (s < 0) = false := decide_eq_false (by omega)
 have f2 : decide (65535 < s) = false := decide_eq_false (by omega)
 refine Con.of Tryz.func128 J Tryz.ntmps128 J (fun E => ?_)
 refine zy (z1 J (zz (Qd (zy (z0 J (z9a J (by assumption) (z0 J (z5 J ?_))))))));refine z0 J (z5 J (z9c J (by assumption) (zpF J (zz (Ql J (Qh (Q0 (zy (z0 J ?_)))))))));refine zx (Z6 J J J J (by omega)) J (z7 J (by omega) (zx (Z9 J J J J (by omega)) J (z1 J (zz (Xa (F_r ?_))))))
 exact Xp J J (X6 [] (by decide) J J (Xx (by rw [nextR,if_pos h])))
theorem and_64k (n : Int) (h : 0 ≤ n) : ((n.toNat &&& (65535 : Int).toNat : Nat) : Int) = n % 65536 := by
 have := Nat.and_two_pow_sub_one_eq_mod n.toNat 16
 rw [show (65535 : Int).toNat = 2 ^ 16 - 1 from rfl,this]
 omega
theorem S_NextRandom (s : Int) (h : 0 ≤ s ∧ s ≤ 65535) : Con Tryz.prog 101 [] [ai s] [] (I (nextR s)) := by
 have hc := S_in s 0 65535
 rw [Y3.2 h] at hc
 refine Con.of Tryz.func101 J Tryz.ntmps101 J (fun E => ?_)
 refine zy (z1 J (zz (Qd (zy (z0 J ?_)))));refine zx (Qj J J (hc) J) J ?_;refine zn J (zz (Ql J (Qh (Q0 (zy (z0 J (zx (Z6 J J J J (by omega)) J (z7 J (by omega) (zx (Zl J J J J (by omega)) J ?_)))))))));refine z1 J (zz (Xa (F_r ?_)))
 exact Xp J J (X6 [] (by decide) J J (Xx (by rw [nextR,if_pos h,and_64k _ (by omega)])))
theorem I_RandomBelow (s n : Int) (h : 0 ≤ s ∧ s ≤ 65535) (hn : 1 ≤ n ∧ n ≤ 4096) : Con Tryz.prog 130 [] [ai s,ai n] [] (.tu [.c (jn (nextR s)),.c (jn (belowR s n))]) := by
 have f1 : decide (s < 0) = false := decide_eq_false (by omega)
 have f2 : decide (65535 < s) = false := decide_eq_false (by omega)
 have f3 : decide (n < 1) = false := decide_eq_false (by omega)
 have f4 : decide (4096 < n) = false := decide_eq_false (by omega)
 have hc := I_NextRandom s h
 have hr := Zc s
 refine Con.of Tryz.func130 J Tryz.ntmps130 J (fun E => ?_)
 refine zy (z1 J (z1 J (zz (Qd (zy (z0 J (z9a J (by assumption) (z0 J ?_))))))));refine z5 J (z0 J (z5 J (z9c J (by assumption) (zpF J (z0 J (z5 J (z0 J (z5 J (z9a J (by assumption) (zpF J (z0 J ?_)))))))))));refine z5 J (z0 J (z5 J (z9c J (by assumption) (zpF J (zz (Ql J (Qh (Q0 (zy ?_)))))))));refine z0 J ?_;refine zx (Qj J J (hc) J) J ?_;refine z1 J (zz (Qd (Xi u8_17 [[],[],[24],[],[24,25,26],[23],[4,23,24,25,26,27]] [[24,25,26,27],[4,23,26],[4,23,26],[4,23,24,25],[4,23],[24,25,26,27],[]] J (DR.s (Qa J J J) J J (DR.s (Qa J J J) J J (DR.s (q_quo J J J J (by omega)) J J (DR.s (Qa J J J) J J (DR.s (Z9 J J J J (by omega)) J J (DR.s (Qb J J J) J J (DR.s (Qb J J J) J J ?_))))))))));refine DR.stop (by kernel_rfl) (by kernel_rfl) (zz (Xa (F_r ?_)))
 exact Xq J J J (X6 [] (by decide) J J J)
theorem S_RandomBelow (s n : Int) (h : 0 ≤ s ∧ s ≤ 65535) (hn : 1 ≤ n ∧ n ≤ 4096) : Con Tryz.prog 103 [] [ai s,ai n] [] (.tu [.c (jn (nextR s)),.c (jn (belowR s n))]) := by
 have c1 := S_in s 0 65535
 have c2 := S_in n 1 4096
 rw [Y3.2 h] at c1
 rw [Y3.2 hn] at c2
 have hc := S_NextRandom s h
 have hr := Zc s
 refine Con.of Tryz.func103 J Tryz.ntmps103 J (fun E => ?_)
 refine zy (z1 J (z1 J (zz (Qd (zy (z0 J ?_))))));refine zx (Qj J J (c1) J) J ?_;refine zn J (z0 J (z5 J (z0 J (z5 J ?_))));refine zx (Qj J J (c2) J) J ?_;refine z5 J (zn J (zpF J (zz (Ql J (Qh (Q0 (zy (z0 J ?_))))))));refine zx (Qj J J (hc) J) J ?_;refine z1 J (zz (Qd (Xi u8_17 [[],[],[18],[],[18,19,20],[17],[4,17,18,19,20,21]] [[18,19,20,21],[4,17,20],[4,17,20],[4,17,18,19],[4,17],[18,19,20,21],[]] J (DR.s (Qa J J J) J J (DR.s (Qa J J J) J J (DR.s (q_quo J J J J (by omega)) J J (DR.s (Qa J J J) J J (DR.s (Z9 J J J J (by omega)) J J (DR.s (Qb J J J) J J (DR.s (Qb J J J) J J ?_))))))))));refine DR.stop (by kernel_rfl) (by kernel_rfl) (zz (Xa (F_r ?_)))
 exact Xq J J J (X6 [] (by decide) J J J)
theorem I_ShotOf (b : TBody) (hx : 0 ≤ b.X ∧ b.X ≤ 1000) (hy : 0 ≤ b.Y ∧ b.Y ≤ 1000) (ha : -1 ≤ b.Aim ∧ b.Aim ≤ 1) : Con Tryz.prog 151 [] [ag b] [] (.o (.ag ((Enc.e (shotOf b)).map (V1.rd [])))) := by
 have c1 := Xw b.X 0 1000
 have c2 := Xw b.Y 0 1000
 have c3 := Xw b.Aim (-1) 1
 rw [Y3.2 hx] at c1
 rw [Y3.2 hy] at c2
 rw [Y3.2 ha] at c3
 refine Con.of Tryz.func151 J Tryz.ntmps151 J (fun E => ?_)
 refine zy (M1 (Qq J J J J) J J (M1 (Qx J J J) J J (zz (Qd (zy (z2 J J J (z3 J ?_)))))));refine zx (Qj J J (c1) J) J ?_;refine zn J (z0 J (z5 J (z2 J J J (z5 J (z3 J (z5 J ?_))))));refine zx (Qj J J (c2) J) J ?_;refine z5 J (zn J (zpF J (z0 J (z5 J (z2 J J J (z5 J (z3 J (z5 J ?_))))))));refine zx (Qj J J (c3) J) J ?_;refine z5 J (zn J (zpF J (zz (Ql J (Qh (Q0 (zy (z2 J J J (z3 J ?_)))))))));refine z2 J J J (z3 J (z7 J (by omega) (z2 J J J (z3 J (z7 J (by omega) (z2 J J J (z3 J (zx (Z6 J J J J (by omega)) J (zx (Zp J J J J J) J ?_)))))))));refine Qy J J J J J J J J J (zz (Xa (F_r ?_)))
 exact Xm J J J J (X6 [] (by decide) J J J)
theorem S_ShotOf (b : TBody) (hx : 0 ≤ b.X ∧ b.X ≤ 1000) (hy : 0 ≤ b.Y ∧ b.Y ≤ 1000) (ha : -1 ≤ b.Aim ∧ b.Aim ≤ 1) : Con Tryz.prog 98 [] [ag b] [] (.o (.ag ((Enc.e (shotOf b)).map (V1.rd [])))) := by
 have c1 := S_in b.X 0 1000
 have c2 := S_in b.Y 0 1000
 have c3 := S_in b.Aim (-1) 1
 rw [Y3.2 hx] at c1
 rw [Y3.2 hy] at c2
 rw [Y3.2 ha] at c3
 refine Con.of Tryz.func98 J Tryz.ntmps98 J (fun E => ?_)
 refine zy (M1 (Qq J J J J) J J (M1 (Qx J J J) J J (zz (Qd (zy (z2 J J J (z3 J ?_)))))));refine zx (Qj J J (c1) J) J ?_;refine zn J (z0 J (z5 J (z2 J J J (z5 J (z3 J (z5 J ?_))))));refine zx (Qj J J (c2) J) J ?_;refine z5 J (zn J (zpF J (z0 J (z5 J (z2 J J J (z5 J (z3 J (z5 J ?_))))))));refine zx (Qj J J (c3) J) J ?_;refine z5 J (zn J (zpF J (zz (Ql J (Qh (Q0 (zy (z2 J J J (z3 J ?_)))))))));refine z2 J J J (z3 J (z7 J (by omega) (z2 J J J (z3 J (z7 J (by omega) (z2 J J J (z3 J (zx (Z6 J J J J (by omega)) J (zx (Zp J J J J J) J ?_)))))))));refine Qy J J J J J J J J J (zz (Xa (F_r ?_)))
 exact Xm J J J J (X6 [] (by decide) J J J)
theorem I_direction (v : Int) (h : -15 ≤ v ∧ v ≤ 15) : Con Tryz.prog 159 [] [ai v] [] (.tu [.c (jn (dirOf v)),.c (jn v.natAbs)]) := by
 by_cases hv : v < 0
 ·have f1 : decide (v < 0) = true := decide_eq_true hv
  refine Con.of Tryz.func159 J Tryz.ntmps159 J (fun E => ?_)
  refine zy (z1 J (z1 J (zz (Qd (zy (z0 J (z9a J (by assumption) (Qe ?_))))))));refine Q0 (Qm J (zy (z0 J (zx (q_neg J J J (by omega)) J (z1 J (z1 J (zz (Xa (T_r ?_)))))))));refine F_r ?_
  exact Xq J J J (X6 [] (by decide) J J (tu2 (by rw [dirOf,if_pos hv]) (by omega)))
 ·have f1 : decide (v < 0) = false := decide_eq_false hv
  refine Con.of Tryz.func159 J Tryz.ntmps159 J (fun E => ?_)
  refine zy (z1 J (z1 J (zz (Qd (zy (z0 J (z9a J (by assumption) (Qe ?_))))))));refine Q0 (Ql J (Qh (Q0 (zy (z0 J (z1 J (z1 J (zz (Xa ?_)))))))));refine F_r ?_
  exact Xq J J J (X6 [] (by decide) J J (tu2 (by rw [dirOf,if_neg hv]) (by omega)))
theorem I_BodiesMeet (a b : TBody) (ha : Placed a) (hb : Placed b) : Con Tryz.prog 160 [] [ag a,ag b] [] (B (meetM a b)) := by
 have sa := size_pos ha.k
 have sb := size_pos hb.k
 obtain ⟨ax1,ax2⟩ := ha.x
 obtain ⟨ay1,ay2⟩ := ha.y
 obtain ⟨bx1,bx2⟩ := hb.x
 obtain ⟨by1,by2⟩ := hb.y
 have c1 := I_SizeOf a.Kind
 have c2 := I_SizeOf b.Kind
 have f1 : decide (sizeOf a.Kind = 0) = false := decide_eq_false (by omega)
 have f2 : decide (sizeOf b.Kind = 0) = false := decide_eq_false (by omega)
 have x1 : decide (a.X < 0) = false := decide_eq_false (by omega)
 have x2 : decide (1000 < a.X) = false := decide_eq_false (by omega)
 have x3 : decide (a.Y < 0) = false := decide_eq_false (by omega)
 have x4 : decide (1000 < a.Y) = false := decide_eq_false (by omega)
 have x5 : decide (b.X < 0) = false := decide_eq_false (by omega)
 have x6 : decide (1000 < b.X) = false := decide_eq_false (by omega)
 have x7 : decide (b.Y < 0) = false := decide_eq_false (by omega)
 have x8 : decide (1000 < b.Y) = false := decide_eq_false (by omega)
 refine Con.of Tryz.func160 J Tryz.ntmps160 J (fun E => ?_)
 refine zy (M1 (Qq J J J J) J J (M1 (Qq J J J J) J J (z1 J (zz (zy (z2 J J J (z3 J ?_)))))));refine zx (Qj J J (c1) J) J ?_;refine z1 J (zz (zy (z2 J J J (z3 J ?_))));refine zx (Qj J J (c2) J) J ?_;refine z1 J (zz (Qd (zy (z0 J (z9e J (by assumption) (z0 J (z5 J (z0 J (z5 J ?_)))))))));refine z9e J (by assumption) (zpF J (zz (Ql J (Qh (Q0 (Qd (zy (z2 J J J (z3 J ?_)))))))));refine z2 J J J (z3 J (z2 J J J (z3 J (z2 J J J (z3 J (M1 (Zm J J J J J J) J J (zx (q_lensb J J J) J (z0 J (zz (Qk ?_))))))))));refine A_lq (fun m st => ∃ k : Nat,k + m = 4 ∧ (True) ∧ st = (⟨_,[(2,.o (.c (.ptr 0 0))),(3,.o (.c (.ptr 1 0))),(5,I (sizeOf a.Kind)),(6,I (sizeOf b.Kind)),(29,.o (.c (.sb 2 4 1))),(30,I 4),(31,I k)],[.box ((Enc.e a).map (V1.rd [])),.box ((Enc.e b).map (V1.rd [])),.box [jn a.X,jn a.Y,jn b.X,jn b.Y]]⟩ : St)) (4) ⟨_,⟨0,by omega,trivial,J⟩,W_gj [0,1,2] J⟩ ?_
 rintro m_A _ ⟨k,hk_A,hp_A,rfl⟩
 have hk : k = 0 ∨ k = 1 ∨ k = 2 ∨ k = 3 ∨ k = 4 := by omega
 rcases hk with hk | hk | hk | hk | hk
 ·subst hk
  refine zy ?_;refine zx (Qr (b := true) J J J J (by decide)) J ?_;refine zz (Qd (Qm J (Qh (Q0 (Qd (Qk (zy (zx (q_sbat J J J J (by omega)) J (z3 J ?_)))))))));refine z1 J (zz (zy (z0 J (z9a J (by assumption) (z0 J (z5 J (z0 J (z5 J (z9c J (by assumption) ?_)))))))));refine zpF J (zz (Ql J (Qh (Q1 (Q0 (Qc (z7 J (by omega) (z0 J (zz ?_)))))))))
  exact ⟨4 - (0 + 1),by omega,_,⟨0 + 1,by omega,trivial,J⟩,W_gj [0,1,2] J⟩
 ·subst hk
  refine zy ?_;refine zx (Qr (b := true) J J J J (by decide)) J ?_;refine zz (Qd (Qm J (Qh (Q0 (Qd (Qk (zy (zx (q_sbat J J J J (by omega)) J (z3 J ?_)))))))));refine z1 J (zz (zy (z0 J (z9a J (by assumption) (z0 J (z5 J (z0 J (z5 J (z9c J (by assumption) ?_)))))))));refine zpF J (zz (Ql J (Qh (Q1 (Q0 (Qc (z7 J (by omega) (z0 J (zz ?_)))))))))
  exact ⟨4 - (1 + 1),by omega,_,⟨1 + 1,by omega,trivial,J⟩,W_gj [0,1,2] J⟩
 ·subst hk
  refine zy ?_;refine zx (Qr (b := true) J J J J (by decide)) J ?_;refine zz (Qd (Qm J (Qh (Q0 (Qd (Qk (zy (zx (q_sbat J J J J (by omega)) J (z3 J ?_)))))))));refine z1 J (zz (zy (z0 J (z9a J (by assumption) (z0 J (z5 J (z0 J (z5 J (z9c J (by assumption) ?_)))))))));refine zpF J (zz (Ql J (Qh (Q1 (Q0 (Qc (z7 J (by omega) (z0 J (zz ?_)))))))))
  exact ⟨4 - (2 + 1),by omega,_,⟨2 + 1,by omega,trivial,J⟩,W_gj [0,1,2] J⟩
 ·subst hk
  refine zy ?_;refine zx (Qr (b := true) J J J J (by decide)) J ?_;refine zz (Qd (Qm J (Qh (Q0 (Qd (Qk (zy (zx (q_sbat J J J J (by omega)) J (z3 J ?_)))))))));refine z1 J (zz (zy (z0 J (z9a J (by assumption) (z0 J (z5 J (z0 J (z5 J (z9c J (by assumption) ?_)))))))));refine zpF J (zz (Ql J (Qh (Q1 (Q0 (Qc (z7 J (by omega) (z0 J (zz ?_)))))))))
  exact ⟨4 - (3 + 1),by omega,_,⟨3 + 1,by omega,trivial,J⟩,W_gj [0,1,2] J⟩
 ·subst hk
  refine zy ?_;refine zx (Qr (b := false) J J J J (by decide)) J ?_;refine zz (Qd (Ql J (Q9 (T_x (T_x (Xl (Q0 (zy (z2 J J J ?_)))))))));refine z3 J (z2 J J J (z3 J (z0 J (z7 J (by omega) (zx (Z5 J J J J) J (z0 J ?_))))));refine zx (Qt.grdT J J J .stop (fun hgrd => Qf J J J J (by decide))) J ?_;refine zx (Qt.grdT J J J (.hit .stop) (fun hgrd => Qg J J J J J)) J ?_;refine zx (Qt.grdT J J J (.hit (.hit .stop)) (fun hgrd => Qf J J J J (by decide))) J ?_;refine zx (Qt.grdT J J J (.hit (.hit (.hit .stop))) (fun hgrd => Qg J J J J J)) J ?_;refine zx (Qt.grdT J J J (.hit (.hit (.hit (.hit .stop)))) (fun hgrd => Qa J J J)) J ?_;refine zx (Qt.grdT J J J (.hit (.hit (.hit (.hit (.hit .stop))))) (fun hgrd => Qs J J J J (by omega))) J ?_;refine zx (Qt.grdT J J J (.hit (.hit (.hit (.hit (.hit (.hit .stop)))))) (fun hgrd => Z5 J J J J)) J ?_;refine zx (Zj J J J J) J (z0 J ?_);refine zx (Qt.grdT J J J .stop (fun hgrd => Qf J J J J (by decide))) J ?_;refine zx (Qt.grdT J J J (.hit .stop) (fun hgrd => Qg J J J J J)) J ?_;refine zx (Qt.grdT J J J (.hit (.hit .stop)) (fun hgrd => Qf J J J J (by decide))) J ?_;refine zx (Qt.grdT J J J (.hit (.hit (.hit .stop))) (fun hgrd => Qg J J J J J)) J ?_;refine zx (Qt.grdT J J J (.hit (.hit (.hit (.hit .stop)))) (fun hgrd => Qa J J J)) J ?_;refine zx (Qt.grdT J J J (.hit (.hit (.hit (.hit (.hit .stop))))) (fun hgrd => Qs J J J J (by omega))) J ?_;refine zx (Qt.grdT J J J (.hit (.hit (.hit (.hit (.hit (.hit .stop)))))) (fun hgrd => Z5 J J J J)) J ?_;refine zx (Zj J J J J) J (z0 J ?_);refine zx (Qt.grdT J J J .stop (fun hgrd => Qf J J J J (by decide))) J ?_;refine zx (Qt.grdT J J J (.hit .stop) (fun hgrd => Qg J J J J J)) J ?_;refine zx (Qt.grdT J J J (.hit (.hit .stop)) (fun hgrd => Qf J J J J (by decide))) J ?_;refine zx (Qt.grdT J J J (.hit (.hit (.hit .stop))) (fun hgrd => Qg J J J J J)) J ?_;refine zx (Qt.grdT J J J (.hit (.hit (.hit (.hit .stop)))) (fun hgrd => Qa J J J)) J ?_;refine zx (Qt.grdT J J J (.hit (.hit (.hit (.hit (.hit .stop))))) (fun hgrd => Qs J J J J (by omega))) J ?_;refine zx (Qt.grdT J J J (.hit (.hit (.hit (.hit (.hit (.hit .stop)))))) (fun hgrd => Z5 J J J J)) J ?_;refine zx (Zj J J J J) J (z1 J (zz (Xa (F_r ?_))))
  exact Xp J J (X6 [] (by decide) J J J)
theorem S_BodiesMeet (a b : TBody) (ha : Placed a) (hb : Placed b) : Con Tryz.prog 155 [] [ag a,ag b] [] (B (meetM a b)) := by
 have sa := size_pos ha.k
 have sb := size_pos hb.k
 obtain ⟨ax1,ax2⟩ := ha.x
 obtain ⟨ay1,ay2⟩ := ha.y
 obtain ⟨bx1,bx2⟩ := hb.x
 obtain ⟨by1,by2⟩ := hb.y
 have c1 := S_SizeOf a.Kind
 have c2 := S_SizeOf b.Kind
 have c3 := S_in a.X 0 1000
 have c4 := S_in a.Y 0 1000
 have c5 := S_in b.X 0 1000
 have c6 := S_in b.Y 0 1000
 rw [Y3.2 ha.x] at c3
 rw [Y3.2 ha.y] at c4
 rw [Y3.2 hb.x] at c5
 rw [Y3.2 hb.y] at c6
 have f1 : decide (sizeOf a.Kind = 0) = false := decide_eq_false (by omega)
 have f2 : decide (sizeOf b.Kind = 0) = false := decide_eq_false (by omega)
 refine Con.of Tryz.func155 J Tryz.ntmps155 J (fun E => ?_)
 refine zy (M1 (Qq J J J J) J J (M1 (Qq J J J J) J J (z1 J (zz (zy (z2 J J J (z3 J ?_)))))));refine zx (Qj J J (c1) J) J ?_;refine z1 J (zz (zy (z2 J J J (z3 J ?_))));refine zx (Qj J J (c2) J) J ?_;refine z1 J (zz (Qd (zy (z0 J (z9e J (by assumption) (z0 J (z5 J (z0 J (z5 J ?_)))))))));refine z9e J (by assumption) (zpF J (z0 J (z5 J (z2 J J J (z5 J (z3 J (z5 J ?_)))))));refine zx (Qj J J (c3) J) J ?_;refine z5 J (zn J (zpF J (z0 J (z5 J (z2 J J J (z5 J (z3 J (z5 J ?_))))))));refine zx (Qj J J (c4) J) J ?_;refine z5 J (zn J (zpF J (z0 J (z5 J (z2 J J J (z5 J (z3 J (z5 J ?_))))))));refine zx (Qj J J (c5) J) J ?_;refine z5 J (zn J (zpF J (z0 J (z5 J (z2 J J J (z5 J (z3 J (z5 J ?_))))))));refine zx (Qj J J (c6) J) J ?_;refine z5 J (zn J (zpF J (zz (Ql J (Qh (Q0 (zy (z2 J J J (z3 J ?_)))))))));refine z2 J J J (z3 J (z0 J (z7 J (by omega) (zx (Z5 J J J J) J (z0 J ?_)))));refine zx (Qt.grdT J J J .stop (fun hgrd => Qf J J J J (by decide))) J ?_;refine zx (Qt.grdT J J J (.hit .stop) (fun hgrd => Qg J J J J J)) J ?_;refine zx (Qt.grdT J J J (.hit (.hit .stop)) (fun hgrd => Qf J J J J (by decide))) J ?_;refine zx (Qt.grdT J J J (.hit (.hit (.hit .stop))) (fun hgrd => Qg J J J J J)) J ?_;refine zx (Qt.grdT J J J (.hit (.hit (.hit (.hit .stop)))) (fun hgrd => Qa J J J)) J ?_;refine zx (Qt.grdT J J J (.hit (.hit (.hit (.hit (.hit .stop))))) (fun hgrd => Qs J J J J (by omega))) J ?_;refine zx (Qt.grdT J J J (.hit (.hit (.hit (.hit (.hit (.hit .stop)))))) (fun hgrd => Z5 J J J J)) J ?_;refine zx (Zj J J J J) J (z0 J ?_);refine zx (Qt.grdT J J J .stop (fun hgrd => Qf J J J J (by decide))) J ?_;refine zx (Qt.grdT J J J (.hit .stop) (fun hgrd => Qg J J J J J)) J ?_;refine zx (Qt.grdT J J J (.hit (.hit .stop)) (fun hgrd => Qf J J J J (by decide))) J ?_;refine zx (Qt.grdT J J J (.hit (.hit (.hit .stop))) (fun hgrd => Qg J J J J J)) J ?_;refine zx (Qt.grdT J J J (.hit (.hit (.hit (.hit .stop)))) (fun hgrd => Qa J J J)) J ?_;refine zx (Qt.grdT J J J (.hit (.hit (.hit (.hit (.hit .stop))))) (fun hgrd => Qs J J J J (by omega))) J ?_;refine zx (Qt.grdT J J J (.hit (.hit (.hit (.hit (.hit (.hit .stop)))))) (fun hgrd => Z5 J J J J)) J ?_;refine zx (Zj J J J J) J (z0 J ?_);refine zx (Qt.grdT J J J .stop (fun hgrd => Qf J J J J (by decide))) J ?_;refine zx (Qt.grdT J J J (.hit .stop) (fun hgrd => Qg J J J J J)) J ?_;refine zx (Qt.grdT J J J (.hit (.hit .stop)) (fun hgrd => Qf J J J J (by decide))) J ?_;refine zx (Qt.grdT J J J (.hit (.hit (.hit .stop))) (fun hgrd => Qg J J J J J)) J ?_;refine zx (Qt.grdT J J J (.hit (.hit (.hit (.hit .stop)))) (fun hgrd => Qa J J J)) J ?_;refine zx (Qt.grdT J J J (.hit (.hit (.hit (.hit (.hit .stop))))) (fun hgrd => Qs J J J J (by omega))) J ?_;refine zx (Qt.grdT J J J (.hit (.hit (.hit (.hit (.hit (.hit .stop)))))) (fun hgrd => Z5 J J J J)) J ?_;refine zx (Zj J J J J) J (z1 J (zz (Xa (F_r ?_))))
 exact Xp J J (X6 [] (by decide) J J J)
end
section
open Go.RowKit

theorem Zi {l : TLevel} {x y s : Int} (hl : levelOk l = true) (h1 : 1 ≤ s ∧ s ≤ 16) (h : solidM l x y s = false) : (0 ≤ x ∧ x ≤ 400) ∧ (0 ≤ y ∧ y ≤ 400) := by
 obtain ⟨l3,l12,w,w4,w20,hw⟩ := Y7 hl
 have hn : ¬ hits l x y s := fun hh => by rw [Ko hh] at h; cases h
 have : ¬ (x < 0 ∨ y < 0 ∨ (w : Int) * 16 - s < x ∨ (l.Rows.length : Int) * 16 - s < y) := fun q => hn (out_hits hw h1.1 q)
 omega
theorem solidAt_eq {l : TLevel} {x y s : Int} (hl : levelOk l = true) (h1 : 1 ≤ s ∧ s ≤ 16) : solidAt l x y s = solidM l x y s := by
 rw [solidAt,Y3.2 h1,hl]; rfl
theorem steer_and {i : Int} {k m : Int} (h : (pressed i k && decide (((i.toNat &&& m.toNat : Nat) : Int) = 0)) = true) : (pressed i k && !pressed i m) = true := by
 simp only [Bool.and_eq_true,decide_eq_true_eq,Bool.not_eq_true'] at h ⊢
 exact ⟨h.1,decide_eq_false (fun q => q h.2)⟩
theorem steer_no {i : Int} {k m : Int} (h : (pressed i k && decide (((i.toNat &&& m.toNat : Nat) : Int) = 0)) = false) : (pressed i k && !pressed i m) = false := by
 rw [← Bool.not_eq_true] at h ⊢
 intro q
 simp only [Bool.and_eq_true,decide_eq_true_eq,Bool.not_eq_true',pressed,decide_eq_false_iff_not,Classical.not_not] at h q
 exact h q
@[reducible] def stB (K O X Y VX VY A L T : Int) : List V1 := [jn K,jn O,jn X,jn Y,jn VX,jn VY,jn A,jn L,jn T]
theorem I_SteerPlayer (l : TLevel) (b : TBody) (i : Int) (hg : Enc.gd l) (hl : levelOk l = true) (gb : Enc.gd b) (hk : b.Kind = 0) (ho : 0 ≤ b.Owner ∧ b.Owner ≤ 3) (hf : 1 ≤ b.Life) (hi : 0 ≤ i ∧ i ≤ 15) (hb : bodyM l (b.Owner + 1) b = true) (ht : 0 ≤ b.Timer ∧ b.Timer ≤ 20) (hv : -15 ≤ b.VY ∧ b.VY ≤ 15) (hp : solidM l b.X b.Y 12 = false) : Con Tryz.prog 150 [] [ag l,ag b,ai i] [] (.tu [.ag ((Enc.e (steer l b i).1).map (V1.rd [])),.c (bv (steer l b i).2)]) := by
 obtain ⟨⟨px1,px2⟩,⟨py1,py2⟩⟩ := Zi hl (by decide) hp
 have c1 := Xu l hg
 have c2 := Xw b.Owner 0 3
 have c3 := Xw i 0 15
 have c4 := I_BodyOk l (b.Owner + 1) b hg gb (by omega)
 rw [hl] at c1
 rw [Y3.2 ho] at c2
 rw [Y3.2 hi] at c3
 rw [hl,hb] at c4
 have f1 : decide (b.Kind ≠ 0) = false := decide_eq_false (fun q => q hk)
 have f2 : decide (b.Life < 1) = false := decide_eq_false (by omega)
 have cs := I_SolidAt l b.X (b.Y + 1) 12 hg ⟨by omega,by omega⟩ ⟨by omega,by omega⟩
 rw [solidAt_eq hl (by decide)] at cs
 have cz : Con Tryz.prog 144 [] [ai 0] [] (I 12) := I_SizeOf 0
 obtain ⟨T,hT⟩ : ∃ T,T = (if 0 < b.Timer then b.Timer - 1 else b.Timer) := ⟨_,rfl⟩
 have hT1 : 0 ≤ T ∧ T ≤ 20 := by rw [hT]; split <;> omega
 obtain ⟨R,hR⟩ : ∃ R,R = (pressed i 2 && !pressed i 1) := ⟨_,rfl⟩
 obtain ⟨Lf,hLf⟩ : ∃ Lf,Lf = (pressed i 1 && !pressed i 2) := ⟨_,rfl⟩
 rw [steer,← hT,← hR,← hLf]
 refine Con.of Tryz.func150 J Tryz.ntmps150 J (fun E => ?_)
 refine zy (M1 (Qq J J J J) J J (M1 (Qq J J J J) J J (M1 (Qx J J J) J J (z1 J (zz (Qd (zy (z4 J J J ?_))))))));refine zx (Qj J J (c1) J) J ?_;refine zn J (z0 J (z5 J (z2 J J J (z5 J (z3 J (z5 J (z9f J (by assumption) (zpF J (z0 J (z5 J (z2 J J J ?_)))))))))));refine z5 J (z3 J (z5 J (z9a J (by assumption) (zpF J (z0 J (z5 J (z2 J J J (z5 J (z3 J (z5 J ?_))))))))));refine zx (Qj J J (c2) J) J ?_;refine z5 J (zn J (zpF J (zz (Ql J (Qh (Q0 (Qd (zy (z0 J ?_)))))))));refine zx (Qj J J (c3) J) J ?_;refine zn J (z0 J (z5 J (z4 J J J (z5 J (z2 J J J (z5 J (z3 J (z5 J (z7 J (by omega) (z5 J (z4 J J J ?_)))))))))));refine z5 J ?_;refine zx (Qj J J (c4) J) J ?_;refine z5 J (zn J (zpF J (zz (Ql J (Qh (Q0 (Qd (zy (z2 J J J ?_)))))))));refine z3 J (zx (Zy J J J J) J (zz ?_))
 refine A_join (⟨101,[(2,I i),(3,.o (.c (.ptr 0 0))),(4,.o (.c (.ptr 1 0))),(6,.o (.c (.ptr 2 0)))],[.box ((Enc.e l).map (V1.rd [])),.box (stB b.Kind b.Owner b.X b.Y b.VX b.VY b.Aim b.Life T),.box (stB 0 0 0 0 0 0 0 0 0)]⟩ : St) ?_ ?_
 ·refine Xb rfl (fun h => ?_) (fun h => ?_)
  ·have h := of_decide_eq_true h
   have hT2 : b.Timer - 1 = T := by rw [hT,if_pos h]
   refine Qc (z2 J J J (z3 J (z8 J (by omega) (z2 J J J ?_))));refine Q5 J J J J J J J J (Qe ?_)
   exact Mid.n (X8 [0,1,2] (by decide) J ((by rw [← hT2]; rfl)) (.c J (.c J (.c J (.c J (.nil))))))
  ·have h := of_decide_eq_false h
   have hT2 : b.Timer = T := by rw [hT,if_neg h]
   refine Qh ?_
   exact Mid.n (X8 [0,1,2] (by decide) J ((by rw [← hT2]; rfl)) (.c J (.c J (.c J (.c J (.nil))))))
 refine zy (z0 J (zx (Zl J J J J (by omega)) J (zx (Z7 J J J J) J (z1 J (zz (zy (z0 J (zx (Zl J J J J (by omega)) J ?_))))))));refine zx (Z7 J J J J) J (z1 J (zz (zy (z2 J J J ?_))));refine Q5 J J J J J J J J (zz (Qd (zy (z0 J (z0 J ?_)))));refine zx (Qt.grdT J J J .stop (fun hgrd => Qa J J J)) J ?_;refine zx (Qt.grdT J J J (.hit .stop) (fun hgrd => Q4 J J J)) J ?_;refine zx (Zj J J J J) J (zz ?_)
 refine A_join (⟨101,[(2,I i),(3,.o (.c (.ptr 0 0))),(4,.o (.c (.ptr 1 0))),(6,.o (.c (.ptr 2 0))),(8,B (pressed i 1)),(9,B (pressed i 2))],[.box ((Enc.e l).map (V1.rd [])),.box (stB b.Kind b.Owner b.X b.Y (if R = true then 3 else 0) b.VY (if R = true then 1 else b.Aim) b.Life T),.box (stB 0 0 0 0 0 0 0 0 0)]⟩ : St) ?_ ?_
 ·refine Xb rfl (fun h => ?_) (fun h => ?_)
  ·have h2 : R = true := by rw [hR]; exact h
   refine zy (z2 J J J ?_);refine Q5 J J J J J J J J (zz (Qc (z2 J J J ?_)));refine Q5 J J J J J J J J (Qe ?_)
   exact Mid.n (X8 [0,1,2] (by decide) J ((by rw [if_pos h2,if_pos h2]; rfl)) (.c J (.c J (.c J (.c J (.c J (.c J (.nil))))))))
  ·have h2 : ¬ R = true := by rw [hR]; intro q; exact Bool.false_ne_true (Eq.trans (h).symm q)
   refine Qh ?_
   exact Mid.n (X8 [0,1,2] (by decide) J ((by rw [if_neg h2,if_neg h2]; rfl)) (.c J (.c J (.c J (.c J (.c J (.c J (.nil))))))))
 refine Qd (zy (z0 J (z0 J ?_)));refine zx (Qt.grdT J J J .stop (fun hgrd => Qa J J J)) J ?_;refine zx (Qt.grdT J J J (.hit .stop) (fun hgrd => Q4 J J J)) J ?_;refine zx (Zj J J J J) J (zz ?_)
 refine A_join (⟨101,[(2,I i),(3,.o (.c (.ptr 0 0))),(4,.o (.c (.ptr 1 0))),(6,.o (.c (.ptr 2 0))),(8,B (pressed i 1)),(9,B (pressed i 2))],[.box ((Enc.e l).map (V1.rd [])),.box (stB b.Kind b.Owner b.X b.Y (if Lf = true then -3 else if R = true then 3 else 0) b.VY (if Lf = true then -1 else if R = true then 1 else b.Aim) b.Life T),.box (stB 0 0 0 0 0 0 0 0 0)]⟩ : St) ?_ ?_
 ·refine Xb rfl (fun h => ?_) (fun h => ?_)
  ·have h2 : Lf = true := by rw [hLf]; exact h
   refine zy (z2 J J J ?_);refine Q5 J J J J J J J J (zz (Qc (z2 J J J ?_)));refine Q5 J J J J J J J J (Qe ?_)
   exact Mid.n (X8 [0,1,2] (by decide) J ((by rw [if_pos h2,if_pos h2]; rfl)) (.c J (.c J (.c J (.c J (.c J (.c J (.nil))))))))
  ·have h2 : ¬ Lf = true := by rw [hLf]; intro q; exact Bool.false_ne_true (Eq.trans (h).symm q)
   refine Qh ?_
   exact Mid.n (X8 [0,1,2] (by decide) J ((by rw [if_neg h2,if_neg h2]; rfl)) (.c J (.c J (.c J (.c J (.c J (.c J (.nil))))))))
 obtain ⟨vx,hvx⟩ : ∃ vx,vx = (if Lf = true then -3 else if R = true then 3 else 0) := ⟨_,rfl⟩
 obtain ⟨am,ham⟩ : ∃ am,am = (if Lf = true then -1 else if R = true then 1 else b.Aim) := ⟨_,rfl⟩
 rw [← hvx,← ham]
 obtain ⟨Fi,hFi⟩ : ∃ Fi,Fi = (pressed i 8 && decide (T = 0)) := ⟨_,rfl⟩
 rw [← hFi]
 by_cases hJ : pressed i 4 = true
 ·have fJ : decide (((i.toNat &&& (4 : Int).toNat : Nat) : Int) ≠ 0) = true := hJ
  cases hs : solidM l b.X (b.Y + 1) 12 with
  | true =>
   rw [hs] at cs
   rw [hJ]
   refine Qd (Qd (Xi u8_18 u8_19 u8_20 J (DR.s (Qa J J J) J J (DR.s (Zl J J J J (by omega)) J J (DR.s (Qw J J J J (by assumption)) J J (DR.s (Qa J J J) J J (DR.s (Qt.yes J J J (Qu J J J J J J)) J J (DR.s (Qt.yes J J J (Qf J J J J (by decide))) J J (DR.s (Qt.yes J J J (Qg J J J J J)) J J (DR.s (Qt.yes J J J (Qf J J J J (by decide))) J J (DR.s (Qt.yes J J J (Qg J J J J J)) J J ?_)))))))))));refine DR.s (Qt.yes J J J (Qs J J J J (by omega))) J J ?_;refine DR.s (Qt.yes J J J (Qj J J (cz) J)) J J ?_;refine DR.s (Qt.yes J J J (Qj J J (cs) J)) J J ?_;refine DR.s (Qo J J J J) J J (DR.stop (by kernel_rfl) (by kernel_rfl) (zz (Qm J (Qc (z2 J J J ?_)))));refine Q5 J J J J J J J J (zz (Qd (zy (z0 J (zx (Zl J J J J (by omega)) J (zx (Z7 J J J J) J (z0 J ?_)))))));refine zx (Qt.grdT J J J .stop (fun hgrd => Qf J J J J (by decide))) J ?_;refine zx (Qt.grdT J J J (.hit .stop) (fun hgrd => Qg J J J J J)) J ?_;refine zx (Qt.grdT J J J (.hit (.hit .stop)) (fun hgrd => Zu J J J J)) J ?_;refine zx (Zj J J J J) J (zz ?_)
   refine Xb J (fun h => ?_) (fun h => ?_)
   ·have h2 : Fi = true := by rw [hFi]; exact h
    rw [h2]
    refine zy (z2 J J J ?_);refine Q5 J J J J J J J J (zz (zy (z4 J J J ?_)));refine Qy J J J J J J J J J (z1 J (zz (Xa (T_r (F_r ?_)))))
    exact Xn J J J J J (X6 [] (by decide) J J J)
   ·have h2 : Fi = false := by rw [hFi]; exact h
    rw [h2]
    refine Qh (Q0 (zy (z4 J J J ?_)));refine Qy J J J J J J J J J (z1 J (zz (Xa (F_r ?_))))
    exact Xn J J J J J (X6 [] (by decide) J J J)
  | false =>
   rw [hs] at cs
   rw [hJ]
   refine Qd (Qd (Xi u8_18 u8_19 u8_20 J (DR.s (Qa J J J) J J (DR.s (Zl J J J J (by omega)) J J (DR.s (Qw J J J J (by assumption)) J J (DR.s (Qa J J J) J J (DR.s (Qt.yes J J J (Qu J J J J J J)) J J (DR.s (Qt.yes J J J (Qf J J J J (by decide))) J J (DR.s (Qt.yes J J J (Qg J J J J J)) J J (DR.s (Qt.yes J J J (Qf J J J J (by decide))) J J (DR.s (Qt.yes J J J (Qg J J J J J)) J J ?_)))))))))));refine DR.s (Qt.yes J J J (Qs J J J J (by omega))) J J ?_;refine DR.s (Qt.yes J J J (Qj J J (cz) J)) J J ?_;refine DR.s (Qt.yes J J J (Qj J J (cs) J)) J J ?_;refine DR.s (Qo J J J J) J J (DR.stop (by kernel_rfl) (by kernel_rfl) (zz (Ql J (Qc (z2 J J J (z3 J (z7 J (by omega) (zx (q_min J J J J) J (z2 J J J ?_)))))))));refine Q5 J J J J J J J J (zz (Qd (zy (z0 J (zx (Zl J J J J (by omega)) J (zx (Z7 J J J J) J (z0 J ?_)))))));refine zx (Qt.grdT J J J .stop (fun hgrd => Qf J J J J (by decide))) J ?_;refine zx (Qt.grdT J J J (.hit .stop) (fun hgrd => Qg J J J J J)) J ?_;refine zx (Qt.grdT J J J (.hit (.hit .stop)) (fun hgrd => Zu J J J J)) J ?_;refine zx (Zj J J J J) J (zz ?_)
   refine Xb J (fun h => ?_) (fun h => ?_)
   ·have h2 : Fi = true := by rw [hFi]; exact h
    rw [h2]
    refine zy (z2 J J J ?_);refine Q5 J J J J J J J J (zz (zy (z4 J J J ?_)));refine Qy J J J J J J J J J (z1 J (zz (Xa (T_r (F_r ?_)))))
    exact Xn J J J J J (X6 [] (by decide) J J J)
   ·have h2 : Fi = false := by rw [hFi]; exact h
    rw [h2]
    refine Qh (Q0 (zy (z4 J J J ?_)));refine Qy J J J J J J J J J (z1 J (zz (Xa (F_r ?_))))
    exact Xn J J J J J (X6 [] (by decide) J J J)
 ·have fJ : decide (((i.toNat &&& (4 : Int).toNat : Nat) : Int) ≠ 0) = false := by simpa [pressed] using hJ
  rw [show pressed i 4 = false by simpa using hJ]
  refine Qd (Qd (Xi u8_18 u8_19 u8_20 J (DR.s (Qa J J J) J J (DR.s (Zl J J J J (by omega)) J J (DR.s (Qw J J J J (by assumption)) J J (DR.s (Qa J J J) J J (DR.s (Qt.no J J J J) J J (DR.s (Qt.no J J J J) J J (DR.s (Qt.no J J J J) J J (DR.s (Qt.no J J J J) J J (DR.s (Qt.no J J J J) J J ?_)))))))))));refine DR.s (Qt.no J J J J) J J (DR.s (Qt.no J J J J) J J (DR.s (Qt.no J J J J) J J (DR.s (Qn J J J J) J J (DR.stop (by kernel_rfl) (by kernel_rfl) (zz (Ql J (Qc (z2 J J J (z3 J (z7 J (by omega) ?_))))))))));refine zx (q_min J J J J) J (z2 J J J ?_);refine Q5 J J J J J J J J (zz (Qd (zy (z0 J (zx (Zl J J J J (by omega)) J (zx (Z7 J J J J) J (z0 J ?_)))))));refine zx (Qt.grdT J J J .stop (fun hgrd => Qf J J J J (by decide))) J ?_;refine zx (Qt.grdT J J J (.hit .stop) (fun hgrd => Qg J J J J J)) J ?_;refine zx (Qt.grdT J J J (.hit (.hit .stop)) (fun hgrd => Zu J J J J)) J ?_;refine zx (Zj J J J J) J (zz ?_)
  refine Xb J (fun h => ?_) (fun h => ?_)
  ·have h2 : Fi = true := by rw [hFi]; exact h
   rw [h2]
   refine zy (z2 J J J ?_);refine Q5 J J J J J J J J (zz (zy (z4 J J J ?_)));refine Qy J J J J J J J J J (z1 J (zz (Xa (T_r (F_r ?_)))))
   exact Xn J J J J J (X6 [] (by decide) J J J)
  ·have h2 : Fi = false := by rw [hFi]; exact h
   rw [h2]
   refine Qh (Q0 (zy (z4 J J J ?_)));refine Qy J J J J J J J J J (z1 J (zz (Xa (F_r ?_))))
   exact Xn J J J J J (X6 [] (by decide) J J J)
theorem S_l02Steer (l : TLevel) (b : TBody) (i : Int) (hg : Enc.gd l) (hl : levelOk l = true) (hk : b.Kind = 0) (hi : 0 ≤ i ∧ i ≤ 15) (ht : 0 ≤ b.Timer ∧ b.Timer ≤ 20) (hv : -15 ≤ b.VY ∧ b.VY ≤ 15) (hp : solidM l b.X b.Y 12 = false) : Con Tryz.prog 97 [] [ag l,ag b,ai i] [] (.tu [.ag ((Enc.e (steer l b i).1).map (V1.rd [])),.c (bv (steer l b i).2)]) := by
 obtain ⟨⟨px1,px2⟩,⟨py1,py2⟩⟩ := Zi hl (by decide) hp
 have cs := S_l02Solid l b.X (b.Y + 1) 12 hl ⟨by omega,by omega⟩ ⟨by omega,by omega⟩ (by decide) (by decide)
 have cz : Con Tryz.prog 137 [] [ai b.Kind] [] (I 12) := by rw [hk]; exact S_SizeOf 0
 obtain ⟨T,hT⟩ : ∃ T,T = (if 0 < b.Timer then b.Timer - 1 else b.Timer) := ⟨_,rfl⟩
 have hT1 : 0 ≤ T ∧ T ≤ 20 := by rw [hT]; split <;> omega
 obtain ⟨R,hR⟩ : ∃ R,R = (pressed i 2 && !pressed i 1) := ⟨_,rfl⟩
 obtain ⟨Lf,hLf⟩ : ∃ Lf,Lf = (pressed i 1 && !pressed i 2) := ⟨_,rfl⟩
 rw [steer,← hT,← hR,← hLf]
 refine Con.of Tryz.func97 J Tryz.ntmps97 J (fun E => ?_)
 refine zy (M1 (Qq J J J J) J J (M1 (Qq J J J J) J J (M1 (Qx J J J) J J (z1 J (zz (Qd (zy (z2 J J J ?_))))))));refine z3 J (zx (Zy J J J J) J (zz ?_))
 refine A_join (⟨68,[(2,I i),(3,.o (.c (.ptr 0 0))),(4,.o (.c (.ptr 1 0))),(6,.o (.c (.ptr 2 0)))],[.box ((Enc.e l).map (V1.rd [])),.box (stB b.Kind b.Owner b.X b.Y b.VX b.VY b.Aim b.Life T),.box (stB 0 0 0 0 0 0 0 0 0)]⟩ : St) ?_ ?_
 ·refine Xb rfl (fun h => ?_) (fun h => ?_)
  ·have h := of_decide_eq_true h
   have hT2 : b.Timer - 1 = T := by rw [hT,if_pos h]
   refine Qc (z2 J J J (z3 J (z8 J (by omega) (z2 J J J ?_))));refine Q5 J J J J J J J J (Qe ?_)
   exact Mid.n (X8 [0,1,2] (by decide) J ((by rw [← hT2]; rfl)) (.c J (.c J (.c J (.c J (.nil))))))
  ·have h := of_decide_eq_false h
   have hT2 : b.Timer = T := by rw [hT,if_neg h]
   refine Qh ?_
   exact Mid.n (X8 [0,1,2] (by decide) J ((by rw [← hT2]; rfl)) (.c J (.c J (.c J (.c J (.nil))))))
 refine zy (z2 J J J ?_);refine Q5 J J J J J J J J (zz (Qd (zy (z0 J (zx (Zl J J J J (by omega)) J (zx (Z7 J J J J) J (z0 J ?_)))))));refine zx (Qt.grdT J J J .stop (fun hgrd => Qa J J J)) J ?_;refine zx (Qt.grdT J J J (.hit .stop) (fun hgrd => Zl J J J J (by omega))) J ?_;refine zx (Qt.grdT J J J (.hit (.hit .stop)) (fun hgrd => Zu J J J J)) J ?_;refine zx (Zj J J J J) J (zz ?_)
 refine A_join (⟨68,[(2,I i),(3,.o (.c (.ptr 0 0))),(4,.o (.c (.ptr 1 0))),(6,.o (.c (.ptr 2 0)))],[.box ((Enc.e l).map (V1.rd [])),.box (stB b.Kind b.Owner b.X b.Y (if R = true then 3 else 0) b.VY (if R = true then 1 else b.Aim) b.Life T),.box (stB 0 0 0 0 0 0 0 0 0)]⟩ : St) ?_ ?_
 ·refine Xb rfl (fun h => ?_) (fun h => ?_)
  ·have h2 : R = true := by rw [hR]; exact steer_and h
   refine zy (z2 J J J ?_);refine Q5 J J J J J J J J (zz (Qc (z2 J J J ?_)));refine Q5 J J J J J J J J (Qe ?_)
   exact Mid.n (X8 [0,1,2] (by decide) J ((by rw [if_pos h2,if_pos h2]; rfl)) (.c J (.c J (.c J (.c J (.nil))))))
  ·have h2 : ¬ R = true := by rw [hR]; intro q; exact Bool.false_ne_true (Eq.trans (steer_no h).symm q)
   refine Qh ?_
   exact Mid.n (X8 [0,1,2] (by decide) J ((by rw [if_neg h2,if_neg h2]; rfl)) (.c J (.c J (.c J (.c J (.nil))))))
 refine Qd (zy (z0 J (zx (Zl J J J J (by omega)) J (zx (Z7 J J J J) J (z0 J ?_)))));refine zx (Qt.grdT J J J .stop (fun hgrd => Qa J J J)) J ?_;refine zx (Qt.grdT J J J (.hit .stop) (fun hgrd => Zl J J J J (by omega))) J ?_;refine zx (Qt.grdT J J J (.hit (.hit .stop)) (fun hgrd => Zu J J J J)) J ?_;refine zx (Zj J J J J) J (zz ?_)
 refine A_join (⟨68,[(2,I i),(3,.o (.c (.ptr 0 0))),(4,.o (.c (.ptr 1 0))),(6,.o (.c (.ptr 2 0)))],[.box ((Enc.e l).map (V1.rd [])),.box (stB b.Kind b.Owner b.X b.Y (if Lf = true then -3 else if R = true then 3 else 0) b.VY (if Lf = true then -1 else if R = true then 1 else b.Aim) b.Life T),.box (stB 0 0 0 0 0 0 0 0 0)]⟩ : St) ?_ ?_
 ·refine Xb rfl (fun h => ?_) (fun h => ?_)
  ·have h2 : Lf = true := by rw [hLf]; exact steer_and h
   refine zy (z2 J J J ?_);refine Q5 J J J J J J J J (zz (Qc (z2 J J J ?_)));refine Q5 J J J J J J J J (Qe ?_)
   exact Mid.n (X8 [0,1,2] (by decide) J ((by rw [if_pos h2,if_pos h2]; rfl)) (.c J (.c J (.c J (.c J (.nil))))))
  ·have h2 : ¬ Lf = true := by rw [hLf]; intro q; exact Bool.false_ne_true (Eq.trans (steer_no h).symm q)
   refine Qh ?_
   exact Mid.n (X8 [0,1,2] (by decide) J ((by rw [if_neg h2,if_neg h2]; rfl)) (.c J (.c J (.c J (.c J (.nil))))))
 obtain ⟨vx,hvx⟩ : ∃ vx,vx = (if Lf = true then -3 else if R = true then 3 else 0) := ⟨_,rfl⟩
 obtain ⟨am,ham⟩ : ∃ am,am = (if Lf = true then -1 else if R = true then 1 else b.Aim) := ⟨_,rfl⟩
 rw [← hvx,← ham]
 obtain ⟨Fi,hFi⟩ : ∃ Fi,Fi = (pressed i 8 && decide (T = 0)) := ⟨_,rfl⟩
 rw [← hFi]
 by_cases hJ : pressed i 4 = true
 ·have fJ : decide (((i.toNat &&& (4 : Int).toNat : Nat) : Int) ≠ 0) = true := hJ
  cases hs : solidM l b.X (b.Y + 1) 12 with
  | true =>
   rw [hs] at cs
   rw [hJ]
   refine Qd (Qd (Xi u8_21 u8_22 u8_23 J (DR.s (Qa J J J) J J (DR.s (Zl J J J J (by omega)) J J (DR.s (Qw J J J J (by assumption)) J J (DR.s (Qa J J J) J J (DR.s (Qt.yes J J J (Qu J J J J J J)) J J (DR.s (Qt.yes J J J (Qf J J J J (by decide))) J J (DR.s (Qt.yes J J J (Qg J J J J J)) J J (DR.s (Qt.yes J J J (Qf J J J J (by decide))) J J (DR.s (Qt.yes J J J (Qg J J J J J)) J J ?_)))))))))));refine DR.s (Qt.yes J J J (Qs J J J J (by omega))) J J (DR.s (Qt.yes J J J (Qf J J J J (by decide))) J J (DR.s (Qt.yes J J J (Qg J J J J J)) J J ?_));refine DR.s (Qt.yes J J J (Qj J J (cz) J)) J J ?_;refine DR.s (Qt.yes J J J (Qj J J (cs) J)) J J ?_;refine DR.s (Qo J J J J) J J (DR.stop (by kernel_rfl) (by kernel_rfl) (zz (Qm J (Qc (z2 J J J ?_)))));refine Q5 J J J J J J J J (zz (Qd (zy (z0 J (zx (Zl J J J J (by omega)) J (zx (Z7 J J J J) J (z0 J ?_)))))));refine zx (Qt.grdT J J J .stop (fun hgrd => Qf J J J J (by decide))) J ?_;refine zx (Qt.grdT J J J (.hit .stop) (fun hgrd => Qg J J J J J)) J ?_;refine zx (Qt.grdT J J J (.hit (.hit .stop)) (fun hgrd => Zu J J J J)) J ?_;refine zx (Zj J J J J) J (zz ?_)
   refine Xb J (fun h => ?_) (fun h => ?_)
   ·have h2 : Fi = true := by rw [hFi]; exact h
    rw [h2]
    refine zy (z2 J J J ?_);refine Q5 J J J J J J J J (zz (zy (z4 J J J ?_)));refine Qy J J J J J J J J J (z1 J (zz (Xa (T_r (F_r ?_)))))
    exact Xn J J J J J (X6 [] (by decide) J J J)
   ·have h2 : Fi = false := by rw [hFi]; exact h
    rw [h2]
    refine Qh (Q0 (zy (z4 J J J ?_)));refine Qy J J J J J J J J J (z1 J (zz (Xa (F_r ?_))))
    exact Xn J J J J J (X6 [] (by decide) J J J)
  | false =>
   rw [hs] at cs
   rw [hJ]
   refine Qd (Qd (Xi u8_21 u8_22 u8_23 J (DR.s (Qa J J J) J J (DR.s (Zl J J J J (by omega)) J J (DR.s (Qw J J J J (by assumption)) J J (DR.s (Qa J J J) J J (DR.s (Qt.yes J J J (Qu J J J J J J)) J J (DR.s (Qt.yes J J J (Qf J J J J (by decide))) J J (DR.s (Qt.yes J J J (Qg J J J J J)) J J (DR.s (Qt.yes J J J (Qf J J J J (by decide))) J J (DR.s (Qt.yes J J J (Qg J J J J J)) J J ?_)))))))))));refine DR.s (Qt.yes J J J (Qs J J J J (by omega))) J J (DR.s (Qt.yes J J J (Qf J J J J (by decide))) J J (DR.s (Qt.yes J J J (Qg J J J J J)) J J ?_));refine DR.s (Qt.yes J J J (Qj J J (cz) J)) J J ?_;refine DR.s (Qt.yes J J J (Qj J J (cs) J)) J J ?_;refine DR.s (Qo J J J J) J J (DR.stop (by kernel_rfl) (by kernel_rfl) (zz (Ql J (Qc (z2 J J J (z3 J (z7 J (by omega) (zx (q_min J J J J) J (z2 J J J ?_)))))))));refine Q5 J J J J J J J J (zz (Qd (zy (z0 J (zx (Zl J J J J (by omega)) J (zx (Z7 J J J J) J (z0 J ?_)))))));refine zx (Qt.grdT J J J .stop (fun hgrd => Qf J J J J (by decide))) J ?_;refine zx (Qt.grdT J J J (.hit .stop) (fun hgrd => Qg J J J J J)) J ?_;refine zx (Qt.grdT J J J (.hit (.hit .stop)) (fun hgrd => Zu J J J J)) J ?_;refine zx (Zj J J J J) J (zz ?_)
   refine Xb J (fun h => ?_) (fun h => ?_)
   ·have h2 : Fi = true := by rw [hFi]; exact h
    rw [h2]
    refine zy (z2 J J J ?_);refine Q5 J J J J J J J J (zz (zy (z4 J J J ?_)));refine Qy J J J J J J J J J (z1 J (zz (Xa (T_r (F_r ?_)))))
    exact Xn J J J J J (X6 [] (by decide) J J J)
   ·have h2 : Fi = false := by rw [hFi]; exact h
    rw [h2]
    refine Qh (Q0 (zy (z4 J J J ?_)));refine Qy J J J J J J J J J (z1 J (zz (Xa (F_r ?_))))
    exact Xn J J J J J (X6 [] (by decide) J J J)
 ·have fJ : decide (((i.toNat &&& (4 : Int).toNat : Nat) : Int) ≠ 0) = false := by simpa [pressed] using hJ
  rw [show pressed i 4 = false by simpa using hJ]
  refine Qd (Qd (Xi u8_21 u8_22 u8_23 J (DR.s (Qa J J J) J J (DR.s (Zl J J J J (by omega)) J J (DR.s (Qw J J J J (by assumption)) J J (DR.s (Qa J J J) J J (DR.s (Qt.no J J J J) J J (DR.s (Qt.no J J J J) J J (DR.s (Qt.no J J J J) J J (DR.s (Qt.no J J J J) J J (DR.s (Qt.no J J J J) J J ?_)))))))))));refine DR.s (Qt.no J J J J) J J (DR.s (Qt.no J J J J) J J (DR.s (Qt.no J J J J) J J (DR.s (Qt.no J J J J) J J (DR.s (Qt.no J J J J) J J (DR.s (Qn J J J J) J J (DR.stop (by kernel_rfl) (by kernel_rfl) (zz (Ql J (Qc (z2 J J J ?_))))))))));refine z3 J (z7 J (by omega) (zx (q_min J J J J) J (z2 J J J ?_)));refine Q5 J J J J J J J J (zz (Qd (zy (z0 J (zx (Zl J J J J (by omega)) J (zx (Z7 J J J J) J (z0 J ?_)))))));refine zx (Qt.grdT J J J .stop (fun hgrd => Qf J J J J (by decide))) J ?_;refine zx (Qt.grdT J J J (.hit .stop) (fun hgrd => Qg J J J J J)) J ?_;refine zx (Qt.grdT J J J (.hit (.hit .stop)) (fun hgrd => Zu J J J J)) J ?_;refine zx (Zj J J J J) J (zz ?_)
  refine Xb J (fun h => ?_) (fun h => ?_)
  ·have h2 : Fi = true := by rw [hFi]; exact h
   rw [h2]
   refine zy (z2 J J J ?_);refine Q5 J J J J J J J J (zz (zy (z4 J J J ?_)));refine Qy J J J J J J J J J (z1 J (zz (Xa (T_r (F_r ?_)))))
   exact Xn J J J J J (X6 [] (by decide) J J J)
  ·have h2 : Fi = false := by rw [hFi]; exact h
   rw [h2]
   refine Qh (Q0 (zy (z4 J J J ?_)));refine Qy J J J J J J J J J (z1 J (zz (Xa (F_r ?_))))
   exact Xn J J J J J (X6 [] (by decide) J J J)
end
end Go.Proofs.YtbfhboakafjjgaaGreat
