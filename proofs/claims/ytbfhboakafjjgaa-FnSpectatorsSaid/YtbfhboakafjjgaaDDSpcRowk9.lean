/-
  Parts of the proof (rules, data, and what functions of the program and of the reference return), among them: Drawn inputs and rows of inputs (l02Input, l02Row, l02Rows of the reference); The start of a draw, and levels from texts (l01New, ParseLevel of the reference).
  Conditions: those that each theorem names.
-/
import Derived.Lib.LazyBuf
import Derived.Test.YtbfhboakafjjgaaDDSpcRowk6
import Derived.Test.YtbfhboakafjjgaaDDSpcRowk8
set_option linter.unusedSimpArgs false
set_option linter.unusedVariables false
set_option maxRecDepth 8000
set_option maxRecDepth 20000
set_option maxHeartbeats 8000000
namespace Go.Proofs.Ytbfhboakafjjgaa
section
open Go.RowKit

def V1.tosr (q : Nat) : V1 → V1
 | .sb p n k => match Nat.beq p q with
  | true => match k with
   | 1 => .ref q
   | _ => .un
  | false => (V1.sb p n k).kill [q]
 | x => x.kill [q]
theorem Wk.sbrow {st : St} {q : Nat} {cs : List V1} {es : List (List T)} (hq : st.objs[q]? = some (.box cs)) (hs : sbE cs = some es) (hm : cs.length ≤ maxLen) : Wk st ⟨st.n,st.tmps.map fun t => (t.1,t.2.mapk (V1.tosr q)),(st.objs.map (Ob.mapk (V1.tosr q))).set q (.row 1 es)⟩ := by
 intro w H F a h1
 obtain ⟨hel,hes⟩ := sbE_ok cs es hs
 have hb := h1.obs q
 rw [Yt hq] at hb
 obtain ⟨g,t,vs,e1,e2,e3⟩ := hb
 have hsay := h1.ok.says q
 rw [e1] at hsay
 have hg : w.heap[g]? = some (.cells vs.toArray t (0,0)) := hsay
 have hqlt := Yu hq
 have hplain : ∀ (i : Nat) (e : List T),es[i]? = some e → ∃ u,vs[i]? = some u ∧ e = [.v u] ∧ u.oneCell' = true := fun i e hi => by
  obtain ⟨ps,u,h2,h3⟩ := hes i e hi
  have hil := Yu h2
  have hiv : vs[i]? = some (vs[i]'(by omega)) := List.getElem?_eq_getElem (by omega)
  obtain ⟨h4,h5⟩ := e3 i _ _ h2 hiv
  obtain ⟨h6,h7⟩ := RO.plain h4
  exact ⟨u,by rw [hiv,h6],h3,h7⟩
 obtain ⟨f,hf⟩ : ∃ f : Nat → Value,f = fun i => vs.getD i undef := ⟨_,rfl⟩
 have hOW : ∃ fp,OW w (.sl 1 es) (.slice (some ⟨g,0,none⟩) es.length vs.length) fp ∧ (∀ b ∈ fp,b = g) ∧ fp.Nodup := by
  refine ⟨g :: (List.replicate es.length [([] : List Nat)]).flatten.flatten,OW.sl es g 0 1 vs.length t vs.toArray (0,0) (fun i _ => vs.getD i undef) (List.replicate es.length [[]]) hg (.inl J) (by omega) (by omega) (by simp) (by omega) (fun e he => ?_) (by simp) (fun fs hfs => by rw [List.eq_of_mem_replicate hfs]; rfl) (fun i j hi hj => ?_) (fun i j e tt fs ff k1 k2 k3 k4 => ?_),?_,?_⟩
  ·obtain ⟨i,hi⟩ := List.getElem?_of_mem he
   obtain ⟨u,_,h3,_⟩ := hplain i e hi
   rw [h3]; rfl
  ·have h2 : i < vs.length := by omega
   have h3 : j = 0 := by omega
   subst h3
   simp [List.getD_eq_getElem?_getD,h2]
  ·obtain ⟨u,h3,h4,h5⟩ := hplain i e k1
   subst h4
   have hj : j = 0 := by have := Yu k2; simp at this; exact this
   subst hj
   simp at k2
   subst k2
   have hfs : fs = [[]] := List.eq_of_mem_replicate (Yv k3)
   subst hfs
   simp at k4
   subst k4
   have h6 : vs.getD i undef = u := Yt h3
   rw [h6]
   exact .v u h5
  ·intro b hb
   simpa using hb
  ·simp
 obtain ⟨fp,hO,hfp,hnd⟩ := hOW
 have hkeep : Keeps w w [g] := ⟨rfl,rfl,rfl,Nat.le_refl _,fun _ _ _ => rfl⟩
 obtain ⟨hok,htn⟩ := h1.ok.turn (p := q) (fp := [g]) (by rw [e1]; rfl) hkeep (.ow (.sl 1 es) (.slice (some ⟨g,0,none⟩) es.length vs.length) fp) hO hnd trivial (fun b hb => .inl (by simp [hfp b hb]))
 have hone : ∀ x v,R1 w H F x v → R1 w (H.put q (.ow (.sl 1 es) (.slice (some ⟨g,0,none⟩) es.length vs.length) fp)) F (V1.tosr q x) v := fun x v hx => by
  cases x with
  | sb p n k =>
   simp only [V1.tosr]
   split
   ·rename_i hp
    have hpq := Nat.eq_of_beq_eq_true hp
    subst hpq
    split
    ·obtain ⟨g',t',vs',k1,k2,k3,k4⟩ := hx
     rw [e1] at k1
     simp only [Pc.box.injEq] at k1
     obtain ⟨rfl,rfl,rfl⟩ := k1
     have hn : n = es.length := by omega
     have hvn : vs.length = es.length := by omega
     rw [k4,hn]
     exact ⟨.sl 1 es,fp,by rw [Hs.put_self,hvn]⟩
    ·trivial
   ·exact R1.killed h1.ok htn hx
  | _ => exact R1.killed h1.ok htn hx
 refine ⟨_,h1.mapk (V1.tosr q) hone hok ((st.objs.map (Ob.mapk (V1.tosr q))).set q (.row 1 es)) (fun p => ?_),fun p b hb => ?_,htn.gh⟩
 ·by_cases hpq : p = q
  ·subst hpq
   rw [Yt (x := .row 1 es) (by simp [hqlt])]
   exact ⟨_,_,Hs.put_self _ _ _⟩
  ·rw [List.getD_eq_getElem?_getD,List.getElem?_set_ne (Ne.symm hpq),List.getElem?_map]
   have h2 := h1.obs p
   rw [List.getD_eq_getElem?_getD] at h2
   have h3 := Hs.put_ne H (.ow (.sl 1 es) (.slice (some ⟨g,0,none⟩) es.length vs.length) fp) hpq
   cases ho : st.objs[p]? with
   | none => rw [ho] at h2; exact h3.trans h2
   | some ob => rw [ho] at h2; exact RB.mapk hone h3 h2
 ·by_cases hpq : p = q
  ·subst hpq
   rw [Hs.put_self] at hb
   exact ⟨p,by rw [e1,hfp b hb]; simp [Pc.fp]⟩
  ·exact ⟨p,by rw [← Hs.put_ne H _ hpq]; exact hb⟩
section
variable {P : Program} {ops : Array Oper} {o : Oper} {st : St} {n : Nat} {t t' : TypeId} {y z : Operand} {ps qs : List Nat}
theorem q_slnil {kk : Nat} {es : List (List T)} {e : TypeId} {zs : List Value} {by_ : Nat} [hm : TyMake P t e zs by_] (ho : o.op = .binOp .eql t y z t') (hg : o.guard = none) (hy : st.ev y = .o (.c (.rd ps (.sl kk es)))) (hz : st.ev z = .o (.c (.rd qs (.v (.slice none 0 0))))) (hne : 0 < es.length) : Qt P ops o st (B false) [] n :=
 .pure hg fun a w H F hr => ⟨.bool false,by
  have h2 := hr.plain hz
  have h1 : RO w (inP H F ps) (.sl kk es) (a.eval y) := hr.v1 hy
  obtain ⟨b,o',c,hv,_⟩ := RO.at_ h1 (i := 0) (List.getElem?_eq_getElem hne)
  simp [execOp,ho,h2,hv,eqGuard,Lib.run_eql_slice_nil (P := P) (h := hm.slice)],plainV _ rfl⟩
end
end
section
open Go.RowKit

def varN (n : Nat) : List UInt8 := if n < 128 then [UInt8.ofNat n] else UInt8.ofNat (n % 128 + 128) :: varN (n / 128)
termination_by n
decreasing_by omega
def encVar (n : Int) : List UInt8 := if 0 ≤ n ∧ n ≤ 1099511627775 then varN n.toNat else []
theorem Kc {n : Nat} (h : n < 128) : varN n = [UInt8.ofNat n] := by rw [varN,if_pos h]
theorem varN_big {n : Nat} (h : ¬ n < 128) : varN n = UInt8.ofNat (n % 128 + 128) :: varN (n / 128) := by rw [varN,if_neg h]
theorem varN_len (n : Nat) : 1 ≤ (varN n).length ∧ (varN n).length ≤ n + 1 := by
 induction n using Nat.strongRecOn with
 | ind n ih =>
  by_cases h : n < 128
  ·rw [Kc h]; simp
  ·rw [varN_big h]
   have := ih (n / 128) (by omega)
   simp only [List.length_cons]
   omega
theorem varN_step {acc : List UInt8} {m : Nat} {l : List UInt8} (h : acc ++ varN m = l) (hm : ¬ m < 128) {x : UInt8} (hx : x = UInt8.ofNat (m % 128 + 128)) : (acc ++ [x]) ++ varN (m / 128) = l := by
 rw [← h,varN_big hm,hx]; simp
theorem varN_end {acc : List UInt8} {m : Nat} {l : List UInt8} (h : acc ++ varN m = l) (hm : m < 128) {x : UInt8} (hx : x = UInt8.ofNat m) : acc ++ [x] = l := by
 rw [← h,Kc hm,hx]

theorem Xt (n : Int) : Con Try.prog 49 [] [ai n] [] (S (bs (encVar n))) := by
 refine Con.of Try.func49 J Try.ntmps49 J (fun E => ?_)
 refine zy (z1 J (zz (Qd (zy (z0 J (zx (Zv J J J J) J (z0 J ?_)))))));refine zx (Qt.grdF J J J .stop (fun hgrd => Qa J J J)) J ?_;refine zx (Qt.grdF J J J (.hit .stop) (fun hgrd => Zo J J J J)) J ?_;refine zx (Zy J J J J) J (zz ?_)
 refine Xb J (fun h => ?_) (fun h => ?_)
 ·simp only [Bool.or_eq_true,decide_eq_true_eq] at h
  refine zy (z1 J (zz (Xa (T_r (F_r ?_)))))
  exact Xp J J (X3 [] (by decide) J J (S_eq (by rw [encVar,if_neg (by omega)])))
 simp only [Bool.or_eq_false_iff,decide_eq_false_iff_not] at h
 have he : encVar n = varN n.toNat := by rw [encVar,if_pos (by omega)]
 rw [he]
 refine Qh (Q0 (zy (z1 J (zz (Qd (Qk ?_))))))
 refine AWP.pre ?_ (W_nil 3 1 J)
 refine A_lq (fun m__ st => ∃ (m : Nat) (acc : List UInt8),m = m__ ∧ (acc ++ varN m = varN n.toNat ∧ acc.length + m ≤ 1099511627775) ∧ st = (⟨_,[(0,I m),(3,.o (.c (.ref 0)))],[.row 1 (bE acc)]⟩ : St)) _ ⟨(fun (m : Nat) (acc : List UInt8) => (⟨_,[(0,I m),(3,.o (.c (.ref 0)))],[.row 1 (bE acc)]⟩ : St)) (n.toNat) ([]),⟨n.toNat,[],J,⟨J,by simp <;> omega⟩,J⟩,X5 [0] (by decide) J (J) (.cons (Xw (by omega)) (.c J (.nil)))⟩ ?_
 rintro m_A _ ⟨m,acc,hk_A,hp_A,rfl⟩
 refine Qd (zy (z0 J (zx (q_geq J J J J) J (zz ?_))))
 refine Xb J (fun h5 => ?_) (fun h5 => ?_)
 ·have h5 : ¬ m < 128 := by have := of_decide_eq_true h5; omega
  have hl := bE_len acc
  refine Qh (Q0 (Qk (zy (z0 J (z0 J (zx (Zz J J J J (by omega)) J (z7 J (by omega) (zx (Zj J J J J (Kg (by omega))) J (M1 (Zd J J J J J J) J J ?_)))))))));refine Xy J J J J J J J J J J (by omega) (by omega) ?_;refine z1 J (zz (Qc (z0 J (zx (q_quo J J J J (by omega)) J (z1 J (Qe (Q1 (Q0 ?_))))))))
  refine ⟨_,(by omega),(fun (m : Nat) (acc : List UInt8) => (⟨_,[(0,I m),(3,.o (.c (.ref 0)))],[.row 1 (bE acc)]⟩ : St)) (m / 128) (acc ++ [UInt8.ofNat ((m : Int) % 128 + 128).toNat]),⟨m / 128,acc ++ [UInt8.ofNat ((m : Int) % 128 + 128).toNat],J,⟨varN_step hp_A.1 h5 (by congr 1 <;> omega),by have := hp_A.2; simp <;> omega⟩,J⟩,X5 [0] (by decide) J (row_eq (bE_snoc _ _ (by omega)).symm) (.cons (Xw (by omega)) (.c J (.nil)))⟩
 ·have h5 : m < 128 := by have := of_decide_eq_false h5; omega
  have hl := bE_len acc
  have hb := hp_A.2
  refine Q9 (T_x (T_x (Xl (Q0 (zy (z0 J (z0 J (zx (Zj J J J J (Kg (by omega))) J (M1 (Zd J J J J J J) J J ?_)))))))));refine Xy J J J J J J J J J J (by omega) (by omega) ?_;refine z1 J (zz (zy (z0 J (zx (q_bstr J J J J) J (z1 J (zz (Xa (F_r ?_))))))))
  exact Xp J J (X3 [] (by decide) J J (S_eq (congrArg bs (varN_end hp_A.1 h5 (by congr 1)))))

theorem varN_pow : ∀ (j n : Nat),n < 128 ^ (j + 1) → (varN n).length ≤ j + 1
 | 0,n,h => by rw [Kc (by omega)]; simp
 | j + 1,n,h => by
  by_cases hn : n < 128
  ·rw [Kc hn]; simp
  ·rw [varN_big hn,List.length_cons]
   have := varN_pow j (n / 128) (by rw [Nat.pow_succ] at h; omega)
   omega
theorem Yp (n : Int) : (encVar n).length ≤ 6 := by
 unfold encVar
 split
 ·exact varN_pow 5 _ (by omega)
 ·simp
def signless (n : Int) : Int := if -549755813888 ≤ n ∧ n ≤ 549755813887 then (if 0 ≤ n then 2 * n else -2 * n - 1) else -1
theorem I_Signless (n : Int) (hn : I64 n) : Con Try.prog 50 [] [ai n] [] (I (signless n)) := by
 obtain ⟨hn1,hn2⟩ := hn
 refine Con.of Try.func50 J Try.ntmps50 J (fun E => ?_)
 refine zy (z1 J (zz (Qd (zy (z0 J (zx (Zv J J J J) J (z0 J ?_)))))));refine zx (Qt.grdF J J J .stop (fun hgrd => Qa J J J)) J ?_;refine zx (Qt.grdF J J J (.hit .stop) (fun hgrd => Zo J J J J)) J ?_;refine zx (Zy J J J J) J (zz ?_)
 refine Xb J (fun h => ?_) (fun h => ?_)
 ·simp only [Bool.or_eq_true,decide_eq_true_eq] at h
  refine zy (z1 J (zz (Xa (T_r (F_r ?_)))))
  exact Xp J J (X3 [] (by decide) J J (Xw (by rw [signless,if_neg (by omega)])))
 simp only [Bool.or_eq_false_iff,decide_eq_false_iff_not] at h
 refine Qh (Q0 (Qd (zy (z0 J (zx (q_geq J J J J) J (zz ?_))))))
 refine Xb J (fun h1 => ?_) (fun h1 => ?_)
 ·have h1 := of_decide_eq_true h1
  refine zy (z0 J (zx (Zw J J J J (by omega)) J (z1 J (zz (Xa (T_r (F_r ?_)))))))
  exact Xp J J (X3 [] (by decide) J J (Xw (by rw [signless,if_pos (by omega),if_pos (by omega)])))
 ·have h1 := of_decide_eq_false h1
  refine Qh (Q0 (zy (z0 J (zx (Zw J J J J (by omega)) J (z8 J (by omega) (z1 J (zz (Xa (F_r ?_)))))))))
  exact Xp J J (X3 [] (by decide) J J (Xw (by rw [signless,if_pos (by omega),if_neg (by omega)])))
def packText (s : ByteArray) : ByteArray := bs (encVar s.size) ++ s
theorem packText_size (s : ByteArray) : (packText s).size ≤ s.size + 6 := by
 unfold packText
 rw [Ye,Yb]
 have := Yp s.size
 omega
theorem I_PackText (s : ByteArray) (hs : s.size ≤ 1099511627776) : Con Try.prog 59 [] [astr s] [] (S (packText s)) := by
 have h1 := Yb (encVar s.size)
 have h2 := Yp s.size
 refine Con.of Try.func59 J Try.ntmps59 J (fun E => ?_)
 refine zy (z1 J (zz (zy (z0 J (zx (Zs J J J) J ?_)))));refine zx (Qj J J (Xt s.size) J) J ?_;refine z0 J (zx (q_cat J J J J (by omega)) J (z1 J (zz (Xa (F_r ?_)))))
 exact Xp J J (X3 [] (by decide) J J J)
def packK (xs : List Int) (k : Nat) : List UInt8 := encVar xs.length ++ (xs.take k).flatMap fun x => encVar (signless x)
def packInts (xs : List Int) : ByteArray := if xs.all (fun x => decide (0 ≤ signless x)) then bs (packK xs xs.length) else bs []
theorem packK_succ {xs : List Int} {k : Nat} (h : k < xs.length) : packK xs (k + 1) = packK xs k ++ encVar (signless xs[k]) := by
 unfold packK
 rw [List.take_succ_eq_append_getElem h,List.flatMap_append,List.append_assoc]
 simp
theorem packK_len (xs : List Int) : ∀ k,k ≤ xs.length → (packK xs k).length ≤ 6 * k + 6
 | 0,_ => by simp [packK]; exact Yp _
 | k + 1,h => by
  rw [packK_succ (by omega),List.length_append]
  have := packK_len xs k (by omega)
  have := Yp (signless xs[k])
  omega
theorem packInts_size (xs : List Int) : (packInts xs).size ≤ 6 * xs.length + 6 := by
 unfold packInts
 split
 ·rw [Yb]; exact packK_len xs _ (Nat.le_refl _)
 ·rw [Yb]; simp
theorem I_PackInts (xs : List Int) (hg : Enc.gd xs) (hL : xs.length ≤ 1073741824) : Con Try.prog 23 [] [al xs] [] (S (packInts xs)) := by
 have hlx := Yl xs
 have h1 := Yb (encVar (els xs).length)
 have h2 := Yp (els xs).length
 refine Con.of Try.func23 J Try.ntmps23 J (fun E => ?_)
 refine zy (z1 J (zz (zy (z0 J (zx (Zq J J J) J ?_)))));refine zx (Qj J J (Xt (els xs).length) J) J ?_;refine M1 (q_strb J J J (by omega)) J J (z1 J (zz (Qd (zy (z0 J (zx (Zq J J J) J (z0 J (zz ?_))))))));refine Qk ?_
 refine A_lq (fun m st => ∃ k : Nat,k + m = xs.length ∧ ((xs.take k).all (fun x => decide (0 ≤ signless x)) = true) ∧ st = (⟨_,[(3,.o (.c (.ref 0))),(11,L xs),(12,I (els xs).length),(13,I k)],[.row 1 (bE (packK xs k))]⟩ : St)) (xs.length) ⟨(fun k : Nat => (⟨_,[(3,.o (.c (.ref 0))),(11,L xs),(12,I (els xs).length),(13,I k)],[.row 1 (bE (packK xs k))]⟩ : St)) 0,⟨0,by omega,by simp,J⟩,X5 [0] (by decide) J (row_eq (by rw [bs_list,hlx]; simp [packK])) (.c J (.c J (.c J (.c J (.nil)))))⟩ ?_
 rintro m_A _ ⟨k,hk_A,hp_A,rfl⟩
 refine zy (zx (Zv J J J J) J (zz (Qd ?_)))
 refine Xb J (fun h => ?_) (fun h => ?_)
 ·have h3 : k < xs.length := by have := of_decide_eq_true h; omega
  have hat := Yk h3
  have hb1 := bE_len (packK xs k)
  have hb2 := packK_len xs k (by omega)
  have hb3 := Yb (encVar (signless xs[k]))
  have hb4 := Yp (signless xs[k])
  refine Qh (Q0 (Qd (Qk (zy (zx (Q2 J J J J (by omega) (by assumption) J) J (zx (Zu J J J J) J (z1 J (zz (Qd ?_)))))))));refine Qc (z0 J ?_);refine zx (Qj J J (I_Signless xs[k] (hg.2 _ (List.getElem_mem h3))) J) J ?_;refine z1 J (zz (Qd (zy (z0 J (zx (Zv J J J J) J (zz ?_))))))
  refine Xb J (fun h4 => ?_) (fun h4 => ?_)
  ·refine zy (z1 rfl (zz (Xa (T_r (B_r (T_r (T_r ?_)))))))
   refine B_r (T_r (F_r ?_))
   exact Xp J J (X3 [] (by decide) J J (S_eq (by rw [packInts,all_no h3 (by simpa using h4)]; rfl)))
  ·refine Qh (Q0 (Qc (z0 rfl (z0 rfl ?_))))
   refine zx (Qj J J (Xt (signless xs[k])) J) J ?_;refine M_appstr J J J J J J J (by omega) (by omega) ?_;refine z1 J (Qe (Q1 (Q0 (Qc (z7 J (by omega) (z0 J (zz ?_)))))))
   exact ⟨xs.length - (k + 1),by omega,(fun k : Nat => (⟨_,[(3,.o (.c (.ref 0))),(11,L xs),(12,I (els xs).length),(13,I k)],[.row 1 (bE (packK xs k))]⟩ : St)) (k + 1),⟨k + 1,by omega,all_next hp_A h3 (by simpa using h4),J⟩,X5 [0] (by decide) J (row_eq (by rw [bs_list,bE_app,packK_succ h3])) (.c J (.c J (.c J (.c J (.nil)))))⟩
 ·have h3 : ¬ ((k : Int) < (els xs).length) := of_decide_eq_false h
  have hk : k = xs.length := by omega
  refine Q9 (T_x (T_x (Xl (Q0 (zy (z0 J (zx (q_bstr J J J J) J (z1 J (zz ?_)))))))));refine Xa (F_r ?_)
  exact Xp J J (X3 [] (by decide) J J (S_eq (by rw [packInts,all_end hp_A (by omega),hk]; rfl)))

def sumA (s : ByteArray) : Nat → Int
 | 0 => 0
 | k + 1 => (sumA s k + byteAt s k) % 65521
def sumB (s : ByteArray) : Nat → Int
 | 0 => 0
 | k + 1 => (sumB s k + byteAt s k * (((k : Int) + 1) % 65521)) % 65521
def checksum (s : ByteArray) : Int := sumA s s.size + 65536 * sumB s s.size
theorem sumA_lt (s : ByteArray) : ∀ k,0 ≤ sumA s k ∧ sumA s k < 65521
 | 0 => by simp [sumA]
 | k + 1 => by simp only [sumA]; omega
theorem sumB_lt (s : ByteArray) : ∀ k,0 ≤ sumB s k ∧ sumB s k < 65521
 | 0 => by simp [sumB]
 | k + 1 => by simp only [sumB]; omega
theorem checksum_lt (s : ByteArray) : 0 ≤ checksum s ∧ checksum s < 4294967296 := by
 have := sumA_lt s s.size
 have := sumB_lt s s.size
 unfold checksum
 omega
theorem I_Checksum (s : ByteArray) (hs : s.size ≤ 1099511627776) : Con Try.prog 58 [] [astr s] [] (I (checksum s)) := by
 refine Con.of Try.func58 J Try.ntmps58 J (fun E => ?_)
 refine zy (z1 J (zz (zy (z1 J (zz (zy ?_))))));refine z1 J (zz (Qd (zy (z1 J (zz (Qk ?_))))));refine A_lq (fun m st => ∃ k : Nat,k + m = s.size ∧ (True) ∧ st = (⟨_,[(0,S s),(3,I (sumA s k)),(4,I (sumB s k)),(5,I k)],[]⟩ : St)) (s.size) ⟨_,⟨0,by omega,trivial,J⟩,W_gj [] J⟩ ?_
 rintro m_A _ ⟨k,hk_A,hp_A,rfl⟩
 refine Qd (zy (z0 J (z0 J (zx (Zs J J J) J (zx (Zv J J J J) J (zz ?_))))))
 refine Xb J (fun h => ?_) (fun h => ?_)
 ·have h3 : k < s.size := by have := of_decide_eq_true h; omega
  have hb1 := sumA_lt s k
  have hb2 := sumB_lt s k
  obtain ⟨t,ht⟩ : ∃ t,byteAt s (k : Int).toNat = t := ⟨_,rfl⟩
  have htb : 0 ≤ t ∧ t ≤ 255 := ht ▸ Yc _ _
  have hmul : 0 ≤ t * (((k : Int) + 1) % 65521) ∧ t * (((k : Int) + 1) % 65521) ≤ 255 * 65520 := by
   have h5 : 0 ≤ ((k : Int) + 1) % 65521 ∧ ((k : Int) + 1) % 65521 ≤ 65520 := by omega
   exact ⟨Int.mul_nonneg htb.1 h5.1,Int.mul_le_mul htb.2 h5.2 h5.1 (by omega)⟩
  have e1 : sumA s (k + 1) = (sumA s k + t) % 65521 := by rw [sumA,← ht]; rfl
  have e2 : sumB s (k + 1) = (sumB s k + t * (((k : Int) + 1) % 65521)) % 65521 := by rw [sumB,← ht]; rfl
  refine Qh (Q0 (Qd (Qk (zy (z0 J (z0 J (z0 J (zx (Zh J J J J (by assumption) (by omega)) J (zx (Zj J J J J (Kf (by omega))) J (z7 J (by omega) ?_))))))))));refine zx (Zz J J J J (by omega)) J (z1 J (zz (Qc (z0 J (z0 J (z0 J (zx (Zh J J J J (by assumption) (by omega)) J (zx (Zj J J J J (Kf (by omega))) J (z0 J (z7 J (by omega) ?_))))))))));refine zx (Zz J J J J (by omega)) J (zx (Zw J J J J (by omega)) J (z7 J (by omega) (zx (Zz J J J J (by omega)) J (z1 J (Qe (Q1 (Q0 (Qc (z0 J (z7 J (by omega) (z1 J ?_)))))))))));refine zz ?_
  exact ⟨s.size - (k + 1),by omega,(fun k : Nat => (⟨_,[(0,S s),(3,I (sumA s k)),(4,I (sumB s k)),(5,I k)],[]⟩ : St)) (k + 1),⟨k + 1,by omega,trivial,J⟩,X5 [] (by decide) J (J) (.c J (.cons (Xw e1.symm) (.cons (Xw e2.symm) (.c J (.nil)))))⟩
 ·have h3 : ¬ ((k : Int) < s.size) := of_decide_eq_false h
  have hk : k = s.size := by omega
  have hb1 := sumA_lt s k
  have hb2 := sumB_lt s k
  refine Q9 (T_x (T_x (Xl (Q0 (zy (z0 J (z0 J (zx (Zw J J J J (by omega)) J (z7 J (by omega) (z1 J ?_))))))))));refine zz (Xa (F_r ?_))
  exact Xp J J (X3 [] (by decide) J J (Xw (by rw [checksum,hk])))

def seal4 (x : Int) : List UInt8 := [UInt8.ofNat (x % 256).toNat,UInt8.ofNat (x / 256 % 256).toNat,UInt8.ofNat (x / 65536 % 256).toNat,UInt8.ofNat (x / 16777216 % 256).toNat]
def sealText (s : ByteArray) : ByteArray := bs (seal4 (checksum s)) ++ s
theorem sealText_size (s : ByteArray) : (sealText s).size = s.size + 4 := by
 unfold sealText
 rw [Ye,Yb]
 simp [seal4]
 omega
theorem I_SealText (s : ByteArray) (hs : s.size ≤ 1099511627776) : Con Try.prog 31 [] [astr s] [] (S (sealText s)) := by
 obtain ⟨x,hx⟩ : ∃ x,checksum s = x := ⟨_,rfl⟩
 have h1 := checksum_lt s
 have hc := I_Checksum s hs
 rw [hx] at h1 hc
 refine Con.of Try.func31 J Try.ntmps31 J (fun E => ?_)
 refine zy (z1 J (zz (zy (z0 J ?_))));refine zx (Qj J J (hc) J) J ?_;refine z1 J (zz (zy (z0 J (zx (Zz J J J J (by omega)) J (z1 J (zz (zy ?_)))))));refine z0 J (zx (q_quo J J J J (by omega)) J (z1 J (zz (zy (z0 J (zx (Zz J J J J (by omega)) J (zx (Zj J J J J (Kg (by omega))) J (z0 J (zx (q_quo J J J J (by omega)) J ?_)))))))));refine zx (Zj J J J J (Kg (by omega))) J (z0 J (zx (Zz J J J J (by omega)) J (zx (Zj J J J J (Kg (by omega))) J (z0 J (zx (q_quo J J J J (by omega)) J (zx (Zj J J J J (Kg (by omega))) J (M1 (Zd J J J J J J) J J (z1 J (zz (Qd ?_))))))))));refine Qc (z0 J (zx (q_bstrb J J J J J) J (z0 J ?_)))
 refine M0 (q_cat J J J J (by simp only [Yb,Ye,List.length_cons,List.length_nil,List.length_append]; omega)) J J ?_
 refine z1 J (zz (Xa (F_r ?_)))
 exact Xp J J (X3 [] (by decide) J J (S_eq (by
  rw [sealText,hx,seal4]
  have e1 : x % 65536 % 256 = x % 256 := by omega
  have e2 : x % 65536 / 256 = x / 256 % 256 := by omega
  have e3 : x / 65536 / 256 = x / 16777216 % 256 := by omega
  rw [e1,e2,e3])))
end
section
open Go.RowKit

theorem W_pre {st st' : St} {f : List (Nat × V) → St} (h : Wk st st') (k : ∃ l,Wk st' (f l)) : ∃ l,Wk st (f l) := k.imp fun _ hl => h.trans hl
theorem row2b {k : Nat} {o : Ob} {a b : List (List T)} (h : a = b) : [o,Ob.row k a] = [o,Ob.row k b] := by rw [h]
def bodyInts (b : TBody) : List Int := [b.Kind,b.Owner,b.X,b.Y,b.VX,b.VY,b.Aim,b.Life,b.Timer]
def worldInts (w : TWorld) : List Int := ([w.Tick,w.Seed,(w.Scores.length : Int)] ++ w.Scores) ++ w.Bodies.flatMap bodyInts
noncomputable def worldBytes (w : TWorld) : ByteArray := if worldOk w = true then packInts (worldInts w) else ⟨#[]⟩
theorem Yj {α : Type} [Enc α] (xs ys : List α) : els (xs ++ ys) = els xs ++ els ys := List.map_append
theorem flat_snoc {bs : List TBody} {k : Nat} (h : k < bs.length) : (bs.take (k + 1)).flatMap bodyInts = (bs.take k).flatMap bodyInts ++ bodyInts bs[k] := by
 rw [List.take_succ_eq_append_getElem h,List.flatMap_append]
 simp
theorem flat_len (bs : List TBody) : ∀ k,k ≤ bs.length → ((bs.take k).flatMap bodyInts).length = 9 * k
 | 0,_ => by simp
 | k + 1,h => by
  rw [flat_snoc (by omega),List.length_append,flat_len bs k (by omega)]
  simp [bodyInts]
  omega
theorem flat_gd {bs : List TBody} (hg : ∀ b ∈ bs,Enc.gd b) : ∀ x ∈ bs.flatMap bodyInts,I64 x := fun x hx => by
 obtain ⟨b,hb,hx⟩ := List.mem_flatMap.1 hx
 obtain ⟨b1,b2,b3,b4,b5,b6,b7,b8,b9⟩ := hg b hb
 simp only [bodyInts,List.mem_cons,List.not_mem_nil,or_false] at hx
 rcases hx with rfl | rfl | rfl | rfl | rfl | rfl | rfl | rfl | rfl <;> assumption
theorem I_bodyInts (b : TBody) : Con Try.prog 22 [] [ag b] [.row 1 (els (bodyInts b))] (.o (.c (.ref 0))) := by
 refine Con.of Try.func22 J Try.ntmps22 J (fun E => ?_)
 refine zy (M1 (Qq J J J J) J J (z1 J (zz (zy (z2 J J J (z3 J (z2 J J J (z3 J ?_))))))));refine z2 J J J (z3 J (z2 J J J (z3 J (z2 J J J (z3 J (z2 J J J (z3 J (z2 J J J (z3 J (z2 J J J (z3 J ?_)))))))))));refine z2 J J J (z3 J (M1 (Zd J J J J J J) J J (z1 J (zz (Xa (F_r ?_))))))
 exact Xp J J (W_pre (Wk.sbrow (q := 1) J J (Nat.le_of_ble_eq_true J)) (X3 [1] (by decide) J J J))
theorem I_WorldBytes (x : TWorld) (hg : Enc.gd x) : Con Try.prog 8 [] [ag x] [] (S (worldBytes x)) := by
 have hc := I_WorldOk x hg
 obtain ⟨gL,gT,gS,gSc,gB⟩ := hg
 cases ho : worldOk x with
 | false =>
  rw [ho] at hc
  rw [show worldBytes x = ⟨#[]⟩ by rw [worldBytes,ho]; exact if_neg (by decide)]
  refine Con.of Try.func8 J Try.ntmps8 J (fun E => ?_)
  refine zy (M1 (Qq J J J J) J J (z1 J (zz (Qd (zy (z4 J J J ?_))))));refine zx (Qj J J (hc) J) J ?_;refine zn J (zz (Qm J (zy (z1 J (zz (Xa (T_r (F_r ?_))))))))
  exact Xp J J (X3 [] (by decide) J J J)
 | true =>
  rw [ho] at hc
  rw [show worldBytes x = packInts (worldInts x) by rw [worldBytes,ho]; exact if_pos rfl]
  obtain ⟨_,_,_,hn,_,hb,_⟩ := Ke ho
  have hls := Yl x.Scores
  have hlb := Yl x.Bodies
  refine Con.of Try.func8 J Try.ntmps8 J (fun E => ?_)
  refine zy (M1 (Qq J J J J) J J (z1 J (zz (Qd (zy (z4 J J J ?_))))));refine zx (Qj J J (hc) J) J ?_;refine zn J (zz (Ql J (Qh (Q0 (zy (z2 J J J (z3 J (z2 J J J (z3 J ?_)))))))));refine z2 J J J (z3 J (zx (Zq J J J) J (M1 (Zd J J J J J J) J J (z1 J (zz (zy (z0 J (z2 J J J (z3 J ?_)))))))))
  have hl3 : (els [x.Tick,x.Seed,((els x.Scores).length : Int)]).length = 3 := rfl
  refine AL.weak (Wk.sbrow (q := 1) (es := els [x.Tick,x.Seed,((els x.Scores).length : Int)]) J J (Nat.le_of_ble_eq_true J)) ?_;refine AL.weak (st' := (⟨_,[(1,.o (.c (.ptr 0 0))),(17,.o (.c (.ref 1))),(19,L x.Scores)],[.box ((Enc.e x).map (V1.rd [])),.row 1 (els [x.Tick,x.Seed,((els x.Scores).length : Int)])]⟩ : St)) (W_gj [0,1] J) ?_;refine M_app J J J J J J J J J J (Ym _) (els_k _) (by omega) (by omega) ?_;refine z1 J (zz (Qd (zy (z2 J J J (z3 J (zx (Zq J J J) J (z0 J (zz ?_))))))));refine Qk ?_
  have hini : els (([x.Tick,x.Seed,(x.Scores.length : Int)] ++ x.Scores) ++ (x.Bodies.take 0).flatMap bodyInts) = els [x.Tick,x.Seed,((els x.Scores).length : Int)] ++ els x.Scores := by rw [List.take_zero,List.flatMap_nil,List.append_nil,Yj,hls]
  refine A_lq (fun m st => ∃ k : Nat,k + m = x.Bodies.length ∧ (True) ∧ st = (⟨_,[(1,.o (.c (.ptr 0 0))),(3,.o (.c (.ref 1))),(22,L x.Bodies),(23,I (els x.Bodies).length),(24,I k)],[.box ((Enc.e x).map (V1.rd [])),.row 1 (els (([x.Tick,x.Seed,(x.Scores.length : Int)] ++ x.Scores) ++ (x.Bodies.take k).flatMap bodyInts))]⟩ : St)) (x.Bodies.length) ⟨(fun k : Nat => (⟨_,[(1,.o (.c (.ptr 0 0))),(3,.o (.c (.ref 1))),(22,L x.Bodies),(23,I (els x.Bodies).length),(24,I k)],[.box ((Enc.e x).map (V1.rd [])),.row 1 (els (([x.Tick,x.Seed,(x.Scores.length : Int)] ++ x.Scores) ++ (x.Bodies.take k).flatMap bodyInts))]⟩ : St)) 0,⟨0,by omega,trivial,J⟩,X5 [0,1] (by decide) J (row2b hini) (.c J (.c J (.c J (.c J (.c J (.nil))))))⟩ ?_
  rintro m_A _ ⟨k,hk_A,hp_A,rfl⟩
  have hla := Yl (([x.Tick,x.Seed,(x.Scores.length : Int)] ++ x.Scores) ++ (x.Bodies.take k).flatMap bodyInts)
  have hfl := flat_len x.Bodies k (by omega)
  have hlc : (([x.Tick,x.Seed,(x.Scores.length : Int)] ++ x.Scores) ++ (x.Bodies.take k).flatMap bodyInts).length = 3 + x.Scores.length + 9 * k := by
   rw [List.length_append,List.length_append,hfl]; rfl
  refine zy (zx (Zv J J J J) J (zz (Qd ?_)))
  refine Xb J (fun h => ?_) (fun h => ?_)
  ·have h3 : k < x.Bodies.length := by have := of_decide_eq_true h; omega
   have hat := Yk h3
   have hlb9 : (els (bodyInts x.Bodies[k])).length = 9 := rfl
   refine Qh (Q0 (Qd (Qk (zy (zx (Q2 J J J J (by omega) (by assumption) J) J (zx (q_lrN J J J J J) J (M1 (Qx J J J) J J ?_)))))));refine Qy J J J J J J J J J (zz (Qc (z0 J (z4 J J J ?_))));refine M1 (Zi J J (I_bodyInts x.Bodies[k]) J J J) J J ?_;refine M_app J J J J J J J J J J (Ym _) (els_k _) (by omega) (by omega) ?_;refine z1 J (Qe (Q1 (Q0 (Qc (z7 J (by omega) (z0 J (zz ?_)))))))
   exact ⟨x.Bodies.length - (k + 1),by omega,(fun k : Nat => (⟨_,[(1,.o (.c (.ptr 0 0))),(3,.o (.c (.ref 1))),(22,L x.Bodies),(23,I (els x.Bodies).length),(24,I k)],[.box ((Enc.e x).map (V1.rd [])),.row 1 (els (([x.Tick,x.Seed,(x.Scores.length : Int)] ++ x.Scores) ++ (x.Bodies.take k).flatMap bodyInts))]⟩ : St)) (k + 1),⟨k + 1,by omega,trivial,J⟩,X5 [0,1] (by decide) J (row2b (by rw [flat_snoc h3,← List.append_assoc,Yj _ (bodyInts x.Bodies[k])])) (.c J (.c J (.c J (.c J (.c J (.nil))))))⟩
  ·have h3 : ¬ k < x.Bodies.length := by have := of_decide_eq_false h; omega
   have hk : x.Bodies.take k = x.Bodies := List.take_of_length_le (by omega)
   rw [hk] at hlc hla ⊢
   have hgi : Enc.gd (([x.Tick,x.Seed,(x.Scores.length : Int)] ++ x.Scores) ++ x.Bodies.flatMap bodyInts) := ⟨by omega,fun y hy => by
    rcases List.mem_append.1 hy with hy | hy
    ·rcases List.mem_append.1 hy with hy | hy
     ·simp only [List.mem_cons,List.not_mem_nil,or_false] at hy
      rcases hy with rfl | rfl | rfl
      ·exact gT
      ·exact gS
      ·exact ⟨by omega,by omega⟩
     ·exact gSc.2 y hy
    ·exact flat_gd gB.2 y hy⟩
   have hp := I_PackInts (([x.Tick,x.Seed,(x.Scores.length : Int)] ++ x.Scores) ++ x.Bodies.flatMap bodyInts) hgi (by omega)
   refine Q9 (T_x (T_x (Xl (Q0 (zy (z0 J ?_))))));refine zx (Qj J J (hp) J) J ?_;refine z1 J (zz (Xa (F_r ?_)))
   exact Xp J J (X3 [] (by decide) J J J)
end
section
open Go.RowKit

def dvGo (s : ByteArray) (p : Nat) (n : Int) (k : Nat) : Nat → Option (Int × Nat)
 | 0 => none
 | f + 1 => if p + k < s.size then
   (if 128 ≤ byteAt s (p + k) then dvGo s p (n + byteAt s (p + k) % 128 * 2 ^ (7 * k)) (k + 1) f
    else if (byteAt s (p + k) = 0 ∧ 0 < k) ∨ 1099511627775 < n + byteAt s (p + k) % 128 * 2 ^ (7 * k) then none
    else some (n + byteAt s (p + k) % 128 * 2 ^ (7 * k),k + 1)) else none
def decVar (s : ByteArray) (p : Int) : Option (Int × Nat) := if 0 ≤ p ∧ p < s.size then dvGo s p.toNat 0 0 6 else none
@[reducible] def bv (b : Bool) : V1 := .rd [] (.v (.bool b))
@[reducible] def jn (n : Int) : V1 := .rd [] (.v (.int .i64 n))
@[reducible] def dvR : Option (Int × Nat) → V
 | none => .tu [.c (jn 0),.c (jn 0),.c (bv false)]
 | some (n,k) => .tu [.c (jn n),.c (jn k),.c (bv true)]
theorem pow7 {k : Nat} (h : k ≤ 6) : ∃ M : Nat,2 ^ (7 * k) = M ∧ 1 ≤ M ∧ M ≤ 4398046511104 := by
 refine ⟨_,J,Nat.one_le_two_pow,?_⟩
 exact Nat.le_trans (Nat.pow_le_pow_right (by omega) (show 7 * k ≤ 42 by omega)) (by decide)
theorem pow7s (k : Nat) : 2 ^ (7 * (k + 1)) = 128 * 2 ^ (7 * k) := by
 rw [show 7 * (k + 1) = 7 * k + 7 by omega,Nat.pow_add]
 omega
theorem dv_part {c : Int} {M : Nat} (h0 : 0 ≤ c) (h1 : c < 128) : 0 ≤ c * (M : Int) ∧ c * (M : Int) ≤ 127 * M := by
 refine ⟨Int.mul_nonneg h0 (by omega),Int.mul_le_mul_of_nonneg_right (by omega) (by omega)⟩
theorem pow7i (k : Nat) : (2 : Int) ^ (7 * (k : Int)).toNat = ((2 ^ (7 * k) : Nat) : Int) := by
 rw [show (7 * (k : Int)).toNat = 7 * k by omega]
 norm_cast
theorem Xs (s : ByteArray) (p : Int) (hs : s.size ≤ 1099511627776) (hp : I64 p) : Con Try.prog 53 [] [astr s,ai p] [] (dvR (decVar s p)) := by
 obtain ⟨hp1,hp2⟩ := hp
 by_cases hin : ¬ (0 ≤ p ∧ p < s.size)
 ·rw [show decVar s p = none by rw [decVar,if_neg hin]]
  refine Con.of Try.func53 J Try.ntmps53 J (fun E => ?_)
  refine zy (z1 J (z1 J (z1 J (zz (Qd (zy (z0 J (zx (Zv J J J J) J ?_))))))));refine z0 J ?_;refine zx (Qt.grdF J J J .stop (fun hgrd => Qa J J J)) J ?_;refine zx (Qt.grdF J J J (.hit .stop) (fun hgrd => Qa J J J)) J ?_;refine zx (Qt.grdF J J J (.hit (.hit .stop)) (fun hgrd => Zs J J J)) J ?_;refine zx (Qt.grdF J J J (.hit (.hit (.hit .stop))) (fun hgrd => q_geq J J J J)) J ?_;refine zx (Zy J J J J) J (zz ?_)
  refine Xb J (fun h => ?_) (fun h => ?_)
  ·refine zy (z1 rfl (z1 rfl (z1 rfl (Qe ?_))))
   refine Q0 (Xa (T_r (F_r ?_)))
   exact Xr J J J J (X3 [] (by decide) J J J)
  ·simp only [Bool.or_eq_false_iff,decide_eq_false_iff_not] at h
   omega
 have hin := Classical.not_not.1 hin
 obtain ⟨q,rfl⟩ : ∃ q : Nat,p = q := ⟨p.toNat,by omega⟩
 rw [show decVar s q = dvGo s q 0 0 6 by rw [decVar,if_pos hin]; rfl]
 have hb1 : decide ((q : Int) < 0) = false := decide_eq_false (by omega)
 have hb2 : decide ((s.size : Int) ≤ q) = false := decide_eq_false (by omega)
 refine Con.of Try.func53 J Try.ntmps53 J (fun E => ?_)
 refine zy (z1 J (z1 J (z1 J (zz (Qd (zy (z0 J (z9a J (by assumption) ?_))))))));refine z0 J (z5 J (z0 J (z5 J (z0 J (z5 J (zx (Zs J J J) J (z5 J (z9d J (by assumption) (zpF J (zz ?_))))))))));refine Ql J (Qh (Q0 (zy (z1 J (zz (Qd (zy (z1 J ?_))))))));refine zz (Qk ?_);refine A_lq (fun m__ st => ∃ (k : Nat) (n : Int),6 - k = m__ ∧ (k ≤ 6 ∧ 0 ≤ n ∧ n < ((2 ^ (7 * k) : Nat) : Int) ∧ dvGo s q n k (6 - k) = dvGo s q 0 0 6) ∧ st = (⟨_,[(0,S s),(1,I q),(7,I n),(8,I k)],[]⟩ : St)) _ ⟨_,⟨0,0,J,⟨by omega,by omega,by simp,J⟩,J⟩,W_gj [] J⟩ ?_
 rintro m_A _ ⟨k,n,hk_A,hp_A,rfl⟩
 obtain ⟨hk6,hn0,hn1,hgo⟩ := hp_A
 obtain ⟨M,hM,hM1,hM2⟩ := pow7 hk6
 have hMs := pow7s k
 rw [hM] at hn1 hMs
 rw [← hgo]
 refine Qd (zy (z0 J (zx (Zv J J J J) J (z0 J ?_))));refine zx (Qt.grdT J J J .stop (fun hgrd => Qa J J J)) J ?_;refine zx (Qt.grdT J J J (.hit .stop) (fun hgrd => Qa J J J)) J ?_;refine zx (Qt.grdT J J J (.hit (.hit .stop)) (fun hgrd => Zs J J J)) J ?_;refine zx (Qt.grdT J J J (.hit (.hit (.hit .stop))) (fun hgrd => Qa J J J)) J ?_;refine zx (Qt.grdT J J J (.hit (.hit (.hit (.hit .stop)))) (fun hgrd => Xc J J J J (by omega))) J ?_;refine zx (Qt.grdT J J J (.hit (.hit (.hit (.hit (.hit .stop))))) (fun hgrd => Zv J J J J)) J ?_;refine zx (Za J J J J) J (zz ?_)
 refine Xb J (fun h => ?_) (fun h => ?_)
 ·simp only [Bool.and_eq_true,decide_eq_true_eq] at h
  have hlt : q + k < s.size := by omega
  obtain ⟨f,hf⟩ : ∃ f,6 - k = f + 1 := ⟨5 - k,by omega⟩
  obtain ⟨c,hc⟩ : ∃ c,byteAt s (q + k) = c := ⟨_,rfl⟩
  have hcr := Yc s (q + k)
  rw [hc] at hcr
  have hc1 : byteAt s ((q : Int) + (k : Int)).toNat = c := by rw [← hc]; congr 1
  obtain ⟨d,hd⟩ : ∃ d : Nat,c % 128 = d := ⟨(c % 128).toNat,by omega⟩
  have hd1 : c.toNat &&& (127 : Int).toNat = d := by
   rw [show (127 : Int).toNat = 2 ^ 7 - 1 from rfl,Nat.and_two_pow_sub_one_eq_mod]
   omega
  have hdM := dv_part (c := d) (M := M) (by omega) (by omega)
  obtain ⟨r,hr⟩ : ∃ r,(d : Int) * M = r := ⟨_,rfl⟩
  rw [hr] at hdM
  have hr1 : (d : Int) * 2 ^ (7 * (k : Int)).toNat = r := by rw [pow7i,hM,hr]
  have hgo1 : dvGo s q n k (f + 1) = if 128 ≤ c then dvGo s q (n + r) (k + 1) f else if (c = 0 ∧ 0 < k) ∨ 1099511627775 < n + r then none else some (n + r,k + 1) := by
   have h9 : c % 128 * 2 ^ (7 * k) = r := by
    rw [hd,← hr,← hM]
    norm_cast
   rw [dvGo,if_pos hlt,hc,h9]
  rw [hf,hgo1]
  by_cases h7 : 128 ≤ c
  ·have hb7 : decide (128 ≤ c) = true := decide_eq_true h7
   refine Qh (Q0 (Qd (Qk (zy (z0 J (z0 J (z0 J (z7 J (by omega) (zx (Zh J J J J (by assumption) (by omega)) J (z1 J ?_))))))))));refine zz (zy (z0 J (z0 J (zx (q_band8K J J J J (by assumption) (by omega)) J (zx (Zj J J J J (Kf (by omega))) J (z0 J (zx (Zw J J J J (by omega)) J (zx (q_shlK J J J J (by assumption) (by omega) (by omega)) J (z7 J (by omega) ?_)))))))));refine z1 J (zz (Qd (zy (z0 J (z9d J (by assumption) (zz (Qm J (Q9 ?_))))))));refine T_x (Xl (Q0 (Qc (z0 J (z7 J (by omega) (z1 J (zz ?_)))))))
   refine ⟨_,(by omega),_,⟨k + 1,n + r,J,⟨by omega,by omega,by rw [hMs]; omega,by rw [if_pos h7,show 6 - (k + 1) = f by omega]⟩,J⟩,W_gj [] J⟩
  have hb7 : decide (128 ≤ c) = false := decide_eq_false h7
  rw [if_neg h7]
  refine Qh (Q0 (Qd (Qk (zy (z0 J (z0 J (z0 J (z7 J (by omega) (zx (Zh J J J J (by assumption) (by omega)) J (z1 J ?_))))))))));refine zz (zy (z0 J (z0 J (zx (q_band8K J J J J (by assumption) (by omega)) J (zx (Zj J J J J (Kf (by omega))) J (z0 J (zx (Zw J J J J (by omega)) J (zx (q_shlK J J J J (by assumption) (by omega) (by omega)) J (z7 J (by omega) ?_)))))))));refine z1 J (zz (Qd (zy (z0 J (z9d J (by assumption) (zz (Ql J (Qh ?_))))))));refine Q0 (Qd (zy (z0 J (zx (Zk J J J J) J (z0 J ?_)))));refine zx (Qt.grdT J J J .stop (fun hgrd => Qa J J J)) J ?_;refine zx (Qt.grdT J J J (.hit .stop) (fun hgrd => Zo J J J J)) J ?_;refine zx (Za J J J J) J (z0 J ?_);refine zx (Qt.grdF J J J .stop (fun hgrd => Qa J J J)) J ?_;refine zx (Qt.grdF J J J (.hit .stop) (fun hgrd => Zo J J J J)) J ?_;refine zx (Zy J J J J) J (zz ?_)
  refine Xb J (fun h8 => ?_) (fun h8 => ?_)
  ·simp only [Bool.or_eq_true,Bool.and_eq_true,decide_eq_true_eq] at h8
   rw [if_pos (by omega)]
   refine zy (z1 J (z1 J (z1 J (zz (Xa (T_r (B_r (T_r (T_r ?_)))))))));refine B_r (T_r (F_r ?_))
   exact Xr J J J J (X3 [] (by decide) J J J)
  ·simp only [Bool.or_eq_false_iff,Bool.and_eq_false_iff,decide_eq_false_iff_not] at h8
   rw [if_neg (by omega)]
   refine Qh (Q0 (zy (z0 J (z0 J (z7 J (by omega) (z1 J (z1 J (z1 J (zz ?_)))))))));refine Xa (B_r (T_r (T_r (B_r (T_r (F_r ?_))))))
   exact Xr J J J J (X3 [] (by decide) J J J)
 ·simp only [Bool.and_eq_false_iff,decide_eq_false_iff_not] at h
  rw [show dvGo s q n k (6 - k) = none by
   cases hf : 6 - k with
   | zero => rfl
   | succ f => rw [dvGo,if_neg (by omega)]]
  refine Q9 (T_x (T_x (Xl (Q0 (zy (z1 J (z1 J (z1 J (zz ?_)))))))));refine Xa (F_r ?_)
  exact Xr J J J J (X3 [] (by decide) J J J)
def bytesL (s : ByteArray) (p k : Nat) : List UInt8 := (s.data.toList.drop p).take k
theorem byteAt_list {s : ByteArray} {i : Nat} (h : i < s.size) : ∃ b : UInt8,s.data.toList[i]? = some b ∧ byteAt s i = (b.toNat : Int) := by
 have h1 : i < s.data.size := h
 refine ⟨s.data[i],by simp [h1],?_⟩
 unfold byteAt
 have : s[i]? = some s.data[i] := by
  rw [getElem?_pos s i h]
  rfl
 rw [this]
 rfl
theorem bytesL_succ {s : ByteArray} {p k : Nat} (h : p + k < s.size) : ∃ b : UInt8,bytesL s p (k + 1) = bytesL s p k ++ [b] ∧ byteAt s (p + k) = (b.toNat : Int) := by
 obtain ⟨b,h1,h2⟩ := byteAt_list h
 refine ⟨b,?_,h2⟩
 unfold bytesL
 rw [List.take_add_one,List.getElem?_drop,h1]
 rfl
def dval : List UInt8 → Nat
 | [] => 0
 | b :: l => b.toNat % 128 + 128 * dval l
theorem dval_snoc (b : UInt8) : ∀ l : List UInt8,dval (l ++ [b]) = dval l + b.toNat % 128 * 2 ^ (7 * l.length)
 | [] => by simp [dval]
 | a :: l => by
  have h1 := dval_snoc b l
  have h2 := pow7s l.length
  simp only [List.cons_append,dval,List.length_cons,h1,h2]
  rw [Nat.mul_add,Nat.add_assoc,Nat.mul_left_comm]
theorem dval_zero {b : UInt8} (hb : b.toNat < 128) : ∀ {l : List UInt8},dval (l ++ [b]) = 0 → b.toNat = 0
 | [],h => by simp [dval] at h; omega
 | a :: l,h => by
  simp only [List.cons_append,dval] at h
  exact dval_zero hb (l := l) (by omega)
theorem canon {b : UInt8} (hb : b.toNat < 128) : ∀ (l : List UInt8),(∀ a ∈ l,128 ≤ a.toNat) → (varN (dval (l ++ [b])) = l ++ [b] ↔ (l = [] ∨ b.toNat ≠ 0))
 | [],_ => by
  simp only [List.nil_append,dval,true_or,iff_true]
  rw [Nat.mod_eq_of_lt hb,Nat.mul_zero,Nat.add_zero,Kc hb,UInt8.ofNat_toNat]
 | a :: l,h => by
  have ih := canon hb l fun x hx => h x (by simp [hx])
  have ha := h a (by simp)
  have ha2 := a.toNat_lt
  simp only [List.cons_append,dval]
  by_cases hD : dval (l ++ [b]) = 0
  ·have h0 := dval_zero hb hD
   rw [hD,Nat.mul_zero,Nat.add_zero,Kc (by omega)]
   constructor
   ·intro e
    have := congrArg List.length e
    simp at this
   ·intro e
    rcases e with e | e
    ·cases e
    ·exact absurd h0 e
  ·have hm : (a.toNat % 128 + 128 * dval (l ++ [b])) % 128 = a.toNat % 128 := by omega
   have hq : (a.toNat % 128 + 128 * dval (l ++ [b])) / 128 = dval (l ++ [b]) := by omega
   have ha3 : UInt8.ofNat (a.toNat % 128 + 128) = a := by
    rw [show a.toNat % 128 + 128 = a.toNat by omega,UInt8.ofNat_toNat]
   rw [varN_big (by omega),hm,hq,ha3]
   simp only [List.cons.injEq,true_and]
   rw [ih]
   constructor
   ·intro e
    rcases e with rfl | e
    ·refine .inr fun e => hD ?_
     simp [dval,e]
    ·exact .inr e
   ·intro e
    rcases e with e | e
    ·cases e
    ·exact .inr e
theorem extract_list (s : ByteArray) (p q : Nat) : (s.extract p q).data.toList = (s.data.toList.drop p).take (q - p) := by
 rw [ByteArray.data_extract,Array.toList_extract]
theorem extract_bytes (s : ByteArray) (p k : Nat) : s.extract p (p + k) = bs (bytesL s p k) := by
 rw [← bs_of (s.extract p (p + k)),extract_list,show p + k - p = k by omega]
 rfl
end
section
open Go.RowKit

theorem dvGo_some (s : ByteArray) (q : Nat) : ∀ (f k : Nat) (n m : Int) (j : Nat),0 ≤ n → dvGo s q n k f = some (m,j) → 0 ≤ m ∧ m ≤ 1099511627775 ∧ k < j ∧ j ≤ k + f ∧ q + j ≤ s.size := by
 intro f
 induction f with
 | zero => intro k n m j _ h; simp [dvGo] at h
 | succ f ih =>
  intro k n m j h0 h
  have hb := Yc s (q + k)
  rw [dvGo] at h
  have hp : (0 : Int) ≤ byteAt s (q + k) % 128 * 2 ^ (7 * k) := Int.mul_nonneg (by omega) (Int.le_of_lt (Int.pow_pos (by omega)))
  split at h
  ·split at h
   ·have := ih (k + 1) _ m j (by omega) h
    omega
   ·split at h
    ·cases h
    ·simp only [Option.some.injEq,Prod.mk.injEq] at h
     obtain ⟨rfl,rfl⟩ := h
     omega
  ·cases h
theorem Yi {s : ByteArray} {p m : Int} {j : Nat} (h : decVar s p = some (m,j)) : 0 ≤ p ∧ 0 ≤ m ∧ m ≤ 1099511627775 ∧ 1 ≤ j ∧ j ≤ 6 ∧ p + j ≤ s.size := by
 unfold decVar at h
 split at h
 ·have := dvGo_some s p.toNat 6 0 0 m j (by omega) h
  omega
 ·cases h
theorem q_quoN {P : Program} {ops : Array Oper} {o : Oper} {st : St} {n : Nat} {t t' : TypeId} {y z : Operand} {ps qs : List Nat} {i j r : Int} (ho : o.op = .binOp .quo t y z t') (hg : o.guard = none) (hy : st.ev y = .o (.c (.rd ps (.v (.int .i64 i))))) (hz : st.ev z = .o (.c (.rd qs (.v (.int .i64 j)))))
  (hr : i.tdiv j = r) (hb : -9223372036854775808 ≤ i ∧ i ≤ 9223372036854775807 ∧ 1 ≤ j) : Qt P ops o st (I r) [] n :=
 hr ▸ Zb ho hg hy hz fun w => by
  have : j ≠ 0 := by omega
  simp [binOp,Op.intDiv,this,IntWalk.i64_quo' _ _ hb]
def signed (n : Int) : Int := if 0 ≤ n ∧ n ≤ 1099511627775 then (if n % 2 = 0 then n / 2 else -((n + 1) / 2)) else 0
theorem signed_gd (n : Int) : I64 (signed n) := by
 unfold signed
 split
 ·split <;> exact ⟨by omega,by omega⟩
 ·exact ⟨by omega,by omega⟩
theorem neg_tdiv {n : Int} (h : 0 ≤ n) : (-(n + 1)).tdiv 2 = -((n + 1) / 2) := by
 rw [Int.neg_tdiv,Int.tdiv_eq_ediv_of_nonneg (by omega)]
theorem I_Signed (n : Int) (hn : I64 n) : Con Try.prog 54 [] [ai n] [] (I (signed n)) := by
 obtain ⟨hn1,hn2⟩ := hn
 refine Con.of Try.func54 J Try.ntmps54 J (fun E => ?_)
 refine zy (z1 J (zz (Qd (zy (z0 J (zx (Zv J J J J) J (z0 J ?_)))))));refine zx (Qt.grdF J J J .stop (fun hgrd => Qa J J J)) J ?_;refine zx (Qt.grdF J J J (.hit .stop) (fun hgrd => Zo J J J J)) J ?_;refine zx (Zy J J J J) J (zz ?_)
 refine Xb J (fun h => ?_) (fun h => ?_)
 ·simp only [Bool.or_eq_true,decide_eq_true_eq] at h
  refine zy (z1 J (zz (Xa (T_r (F_r ?_)))))
  exact Xp J J (X3 [] (by decide) J J (Xw (by rw [signed,if_neg (by omega)])))
 simp only [Bool.or_eq_false_iff,decide_eq_false_iff_not] at h
 have hv := neg_tdiv (n := n) (by omega)
 refine Qh (Q0 (Qd (zy (z0 J (zx (Zz J J J J (by omega)) J (zx (Zk J J J J) J (zz ?_)))))))
 refine Xb J (fun h1 => ?_) (fun h1 => ?_)
 ·have h1 := of_decide_eq_true h1
  refine zy (z0 J (zx (q_quo J J J J (by omega)) J (z1 J (zz (Xa (T_r (F_r ?_)))))))
  exact Xp J J (X3 [] (by decide) J J (Xw (by rw [signed,if_pos (by omega),if_pos (by omega)])))
 ·have h1 := of_decide_eq_false h1
  refine Qh (Q0 (zy (z0 J (z7 J (by omega) (zx (q_neg J J J (by omega)) J (zx (q_quoN J J J J (by assumption) (by omega)) J (z1 J (zz (Xa ?_)))))))));refine F_r ?_
  exact Xp J J (X3 [] (by decide) J J (Xw (by rw [signed,if_pos (by omega),if_neg (by omega)])))
/-! ### Lists -/
def uiGo (s : ByteArray) (p : Nat) : Nat → Nat → Option (List Int × Nat)
 | 0,pos => some ([],pos)
 | c + 1,pos => match decVar s ((p : Int) + (pos : Int)) with
  | none => none
  | some (v,m) => (uiGo s p c (pos + m)).map fun r => (signed v :: r.1,r.2)
def unpackInts (s : ByteArray) (p : Int) : Option (List Int × Nat) := match decVar s p with
 | none => none
 | some (n,k) => uiGo s p.toNat n.toNat k
@[reducible] def uiO : Option (List Int × Nat) → List Ob
 | none => [.row 1 []]
 | some (l,_) => [.row 1 (els l)]
@[reducible] def uiR : Option (List Int × Nat) → V
 | none => .tu [.c (.ref 0),.c (jn 0),.c (bv false)]
 | some (_,k) => .tu [.c (.ref 0),.c (jn k),.c (bv true)]
theorem uiGo_some (s : ByteArray) (p : Nat) : ∀ (c pos : Nat) (l : List Int) (j : Nat),uiGo s p c pos = some (l,j) → l.length = c ∧ pos + c ≤ j ∧ (0 < c → p + j ≤ s.size) ∧ (∀ x ∈ l,I64 x) := by
 intro c
 induction c with
 | zero =>
  intro pos l j h
  simp only [uiGo,Option.some.injEq,Prod.mk.injEq] at h
  obtain ⟨rfl,rfl⟩ := h
  exact ⟨J,by omega,fun h => by omega,fun x hx => by simp at hx⟩
 | succ c ih =>
  intro pos l j h
  rw [uiGo] at h
  split at h
  ·cases h
  ·rename_i v m hd
   obtain ⟨r,h1,h2⟩ := Option.map_eq_some_iff.1 h
   simp only [Prod.mk.injEq] at h2
   obtain ⟨rfl,rfl⟩ := h2
   have hm := Yi hd
   obtain ⟨a1,a2,a3,a4⟩ := ih (pos + m) r.1 r.2 h1
   refine ⟨by simp [a1],by omega,fun _ => ?_,fun x hx => ?_⟩
   ·by_cases hc : 0 < c
    ·exact a3 hc
    ·have : c = 0 := by omega
     subst this
     simp only [uiGo,Option.some.injEq] at h1
     rw [← h1]
     show p + (pos + m) ≤ s.size
     omega
   ·rcases List.mem_cons.1 hx with rfl | hx
    ·exact signed_gd v
    ·exact a4 x hx
theorem unpackInts_some {s : ByteArray} {p : Int} {l : List Int} {j : Nat} (h : unpackInts s p = some (l,j)) : 0 ≤ p ∧ 1 ≤ j ∧ p + j ≤ s.size ∧ (l.length : Int) + 1 ≤ j ∧ (∀ x ∈ l,I64 x) := by
 unfold unpackInts at h
 split at h
 ·cases h
 ·rename_i n k hd
  have hm := Yi hd
  obtain ⟨a1,a2,a3,a4⟩ := uiGo_some s _ _ _ _ _ h
  refine ⟨hm.1,by omega,?_,by omega,a4⟩
  by_cases hn : 0 < n.toNat
  ·have := a3 hn; omega
  ·have h0 : n.toNat = 0 := by omega
   rw [h0] at h
   simp only [uiGo,Option.some.injEq,Prod.mk.injEq] at h
   omega
theorem els_snocI (acc : List Int) (v : Int) : els (acc ++ [v]) = els acc ++ [[.v (.int .i64 v)]] := by simp [els,Enc.e]
theorem I_UnpackInts (s : ByteArray) (p : Int) (hs : s.size ≤ 1099511627776) (hp : I64 p) : Con Try.prog 27 [] [astr s,ai p] (uiO (unpackInts s p)) (uiR (unpackInts s p)) := by
 have hd := Xs s p hs hp
 cases hv : decVar s p with
 | none =>
  rw [hv] at hd
  rw [show unpackInts s p = none by rw [unpackInts,hv]]
  refine Con.of Try.func27 J Try.ntmps27 J (fun E => ?_)
  refine zy (z1 J (z1 J (z1 J (zz (zy (z0 J (z0 J ?_)))))));refine M1 (Zi J J (hd) J J J) J J ?_;refine zx (Q8 J J J) J (ze J (ze J (ze J (z1 J (z1 J (z1 J (zz (Qd (zy ?_)))))))));refine z0 J (zn J (z0 J (z6 J (z6 J (z6 J (z6 J (z6 J (z6 J (z6 J (z6 J (zpT J ?_)))))))))));refine zz (Qm J (zy (z1 J (z1 J (z1 J (zz (Xa (T_r ?_))))))));refine F_r ?_
  exact Xr J J J J (X4 [1] [0] J J (by decide) J J J)
 | some r =>
  obtain ⟨n,k0⟩ := r
  rw [hv] at hd
  have hm := Yi hv
  obtain ⟨q,rfl⟩ : ∃ q : Nat,p = q := ⟨p.toNat,by omega⟩
  obtain ⟨c,rfl⟩ : ∃ c : Nat,n = c := ⟨n.toNat,by omega⟩
  rw [show unpackInts s q = uiGo s q c k0 by rw [unpackInts,hv]; rfl]
  by_cases hbig : (s.size : Int) - q - k0 < c
  ·have hb : decide ((s.size : Int) - q - k0 < c) = true := decide_eq_true hbig
   have hno : uiGo s q c k0 = none := by
    cases ho : uiGo s q c k0 with
    | none => rfl
    | some r =>
     have := uiGo_some s q c k0 r.1 r.2 ho
     omega
   rw [hno]
   refine Con.of Try.func27 J Try.ntmps27 J (fun E => ?_)
   refine zy (z1 J (z1 J (z1 J (zz (zy (z0 J (z0 J ?_)))))));refine M1 (Zi J J (hd) J J J) J J ?_;refine zx (Q8 J J J) J (ze J (ze J (ze J (z1 J (z1 J (z1 J (zz (Qd (zy ?_)))))))));refine z0 J (zn J (z0 J (z5 J (z0 J (z5 J (z0 J (z5 J (zx (Zs J J J) J (z5 J (z0 J (z5 J ?_)))))))))));refine z8 J (by omega) (z5 J (z0 J (z5 J (z8 J (by omega) (z5 J (z9c J (by assumption) (zpF J (zz (Qm J (Qd ?_))))))))));refine Qc (z1 J (z1 J (z1 J (zz (Xa (T_r (F_r ?_)))))))
   exact Xr J J J J (X4 [1] [0] J J (by decide) J J J)
  have hb : decide ((s.size : Int) - q - k0 < c) = false := decide_eq_false hbig
  refine Con.of Try.func27 J Try.ntmps27 J (fun E => ?_)
  refine zy (z1 J (z1 J (z1 J (zz (zy (z0 J (z0 J ?_)))))));refine M1 (Zi J J (hd) J J J) J J ?_;refine zx (Q8 J J J) J (ze J (ze J (ze J (z1 J (z1 J (z1 J (zz (Qd (zy ?_)))))))));refine z0 J (zn J (z0 J (z5 J (z0 J (z5 J (z0 J (z5 J (zx (Zs J J J) J (z5 J (z0 J (z5 J ?_)))))))))));refine z8 J (by omega) (z5 J (z0 J (z5 J (z8 J (by omega) (z5 J (z9c J (by assumption) (zpF J (zz (Ql J (Qh ?_))))))))));refine Q0 (zy (z0 J ?_));refine M1 (q_makec 1 J J J J (by omega) (by omega) (by omega) (by omega) J (by simp)) J J ?_;refine z1 J (zz (Qd (zy (z1 J (zz (Qk ?_))))));refine A_lq (fun m__ st => ∃ (k : Nat) (pos : Nat) (acc : List Int),c - k = m__ ∧ (k ≤ c ∧ acc.length = k ∧ q + pos + (c - k) ≤ s.size + (c - k) ∧ q + pos ≤ s.size ∧ (uiGo s q (c - k) pos).map (fun r => (acc ++ r.1,r.2)) = uiGo s q c k0) ∧ st = (⟨_,[(0,S s),(1,I q),(7,I c),(8,I pos),(10,.o (.c (.ref 0))),(11,I k)],[.row 1 (els acc)]⟩ : St)) _ ⟨_,⟨0,k0,[],J,⟨by omega,J,by omega,by omega,by simp⟩,J⟩,W_gj [0] J⟩ ?_
  rintro m_A _ ⟨k,pos,acc,hk_A,hp_A,rfl⟩
  obtain ⟨hkc,hacc,_,hpos,hgo⟩ := hp_A
  have hla := Yl acc
  rw [← hgo]
  refine Qd (zy (z0 J (z0 J (zx (Zv J J J J) J (zz ?_)))))
  refine Xb J (fun h => ?_) (fun h => ?_)
  ·have hlt : k < c := by have := of_decide_eq_true h; omega
   have hd2 := Xs s ((q : Int) + (pos : Int)) hs ⟨by omega,by omega⟩
   obtain ⟨f,hf⟩ : ∃ f,c - k = f + 1 := ⟨c - k - 1,by omega⟩
   rw [hf]
   cases hv2 : decVar s ((q : Int) + (pos : Int)) with
   | none =>
    rw [hv2] at hd2
    rw [show uiGo s q (f + 1) pos = none by rw [uiGo,hv2]]
    refine Qh (Q0 (Qd (Qk (zy (z0 J (z0 J (z0 J (z7 J (by omega) ?_))))))));refine M1 (Zi J J (hd2) J J J) J J ?_;refine zx (Q8 J J J) J (ze J (ze J (ze J (z1 J (z1 J (z1 J (zz (Qd (zy ?_)))))))));refine z0 J (zn J (zz (Qm J (zy (z1 J (z1 J (z1 J (zz ?_))))))));refine Xa (T_r (B_r (T_r (T_r (B_r (T_r (F_r ?_)))))))
    exact Xr J J J J (X4 [1] [1] J J (by decide) J J J)
   | some r =>
    obtain ⟨v,m⟩ := r
    rw [hv2] at hd2
    have hm2 := Yi hv2
    have hsg := I_Signed v ⟨by omega,by omega⟩
    refine Qh (Q0 (Qd (Qk (zy (z0 J (z0 J (z0 J (z7 J (by omega) ?_))))))));refine M1 (Zi J J (hd2) J J J) J J ?_;refine zx (Q8 J J J) J (ze J (ze J (ze J (z1 J (z1 J (z1 J (zz (Qd (zy ?_)))))))));refine z0 J (zn J (zz (Ql J (Qh (Q0 (zy (z0 J (z0 J ?_))))))));refine zx (Qj J J (hsg) J) J ?_;refine M1 (Zd J J J J J J) J J ?_;refine Xy J J J J J J J J J J (by omega) (by omega) ?_;refine z1 J (zz (Qc (z0 J (z0 J (z7 J (by omega) (z1 J (Qe (Q1 (Q0 (Qc ?_))))))))));refine z0 J (z7 J (by omega) (z1 J (zz ?_)))
    refine ⟨_,(by omega),(fun (k : Nat) (pos : Nat) (acc : List Int) => (⟨_,[(0,S s),(1,I q),(7,I c),(8,I pos),(10,.o (.c (.ref 0))),(11,I k)],[.row 1 (els acc)]⟩ : St)) (k + 1) (pos + m) (acc ++ [signed v]),⟨k + 1,pos + m,acc ++ [signed v],J,⟨by omega,by simp [hacc],by omega,by omega,by rw [uiGo,hv2,show c - (k + 1) = f by omega]; simp [Option.map_map]; rfl⟩,J⟩,X5 [0] (by decide) J (row_eq (els_snocI acc _)) (.c J (.c J (.c J (.c J (.c J (.c J (.nil)))))))⟩
  ·have hkk : k = c := by have := of_decide_eq_false h; omega
   subst hkk
   rw [show uiGo s q (k - k) pos = some ([],pos) by rw [Nat.sub_self]; rfl]
   refine Q9 (T_x (T_x (Xl (Q0 (zy (z0 J (z0 J (z1 J (z1 J (z1 J ?_))))))))));refine zz (Xa (F_r ?_))
   exact Xr J J J J (X3 [0] (by decide) J (row_eq (by simp)) J)
/-! ### Texts -/
def unpackText (s : ByteArray) (p : Int) : Option (ByteArray × Nat) := match decVar s p with
 | none => none
 | some (n,k) => if (s.size : Int) - p - k < n then none else some (s.extract (p + k).toNat (p + k + n).toNat,k + n.toNat)
@[reducible] def utR : Option (ByteArray × Nat) → V
 | none => .tu [.c (.rd [] (.v (.string ⟨#[]⟩))),.c (jn 0),.c (bv false)]
 | some (t,k) => .tu [.c (.rd [] (.v (.string t))),.c (jn k),.c (bv true)]
theorem unpackText_some {s t : ByteArray} {p : Int} {j : Nat} (h : unpackText s p = some (t,j)) : 0 ≤ p ∧ 1 ≤ j ∧ p + j ≤ s.size ∧ t.size + 1 ≤ j ∧ t = s.extract (p + j - t.size).toNat (p + j).toNat := by
 unfold unpackText at h
 split at h
 ·cases h
 ·rename_i n k hd
  have hm := Yi hd
  split at h
  ·cases h
  ·simp only [Option.some.injEq,Prod.mk.injEq] at h
   obtain ⟨rfl,rfl⟩ := h
   have hsz : (s.extract (p + k).toNat (p + k + n).toNat).size = n.toNat := by
    rw [ByteArray.size_extract]; omega
   refine ⟨hm.1,by omega,by omega,by omega,?_⟩
   rw [hsz]
   congr 1 <;> omega
theorem tu3 {a b : V2} {x y : Int} (h : x = y) : V.tu [a,.c (.rd [] (.v (.int .i64 x))),b] = V.tu [a,.c (.rd [] (.v (.int .i64 y))),b] := by rw [h]
theorem I_UnpackText (s : ByteArray) (p : Int) (hs : s.size ≤ 1099511627776) (hp : I64 p) : Con Try.prog 55 [] [astr s,ai p] [] (utR (unpackText s p)) := by
 have hd := Xs s p hs hp
 cases hv : decVar s p with
 | none =>
  rw [hv] at hd
  rw [show unpackText s p = none by rw [unpackText,hv]]
  refine Con.of Try.func55 J Try.ntmps55 J (fun E => ?_)
  refine zy (z1 J (z1 J (z1 J (zz (zy (z0 J (z0 J ?_)))))));refine M1 (Zi J J (hd) J J J) J J ?_;refine zx (Q8 J J J) J (ze J (ze J (ze J (z1 J (z1 J (z1 J (zz (Qd (zy ?_)))))))));refine z0 J (zn J (z0 J (z6 J (z6 J (z6 J (z6 J (z6 J (z6 J (z6 J (z6 J (zpT J ?_)))))))))));refine zz (Qm J (zy (z1 J (z1 J (z1 J (zz (Xa (T_r ?_))))))));refine F_r ?_
  exact Xr J J J J (X3 [] (by decide) J J J)
 | some r =>
  obtain ⟨n,k⟩ := r
  rw [hv] at hd
  have hm := Yi hv
  by_cases hbig : (s.size : Int) - p - k < n
  ·have hb : decide ((s.size : Int) - p - k < n) = true := decide_eq_true hbig
   rw [show unpackText s p = none by rw [unpackText,hv]; exact if_pos hbig]
   refine Con.of Try.func55 J Try.ntmps55 J (fun E => ?_)
   refine zy (z1 J (z1 J (z1 J (zz (zy (z0 J (z0 J ?_)))))));refine M1 (Zi J J (hd) J J J) J J ?_;refine zx (Q8 J J J) J (ze J (ze J (ze J (z1 J (z1 J (z1 J (zz (Qd (zy ?_)))))))));refine z0 J (zn J (z0 J (z5 J (z0 J (z5 J (z0 J (z5 J (zx (Zs J J J) J (z5 J (z0 J (z5 J ?_)))))))))));refine z8 J (by omega) (z5 J (z0 J (z5 J (z8 J (by omega) (z5 J (z9c J (by assumption) (zpF J (zz (Qm J (Qd ?_))))))))));refine Qc (z1 J (z1 J (z1 J (zz (Xa (T_r (F_r ?_)))))))
   exact Xr J J J J (X3 [] (by decide) J J J)
  have hb : decide ((s.size : Int) - p - k < n) = false := decide_eq_false hbig
  rw [show unpackText s p = some (s.extract (p + k).toNat (p + k + n).toNat,k + n.toNat) by rw [unpackText,hv]; exact if_neg hbig]
  refine Con.of Try.func55 J Try.ntmps55 J (fun E => ?_)
  refine zy (z1 J (z1 J (z1 J (zz (zy (z0 J (z0 J ?_)))))));refine M1 (Zi J J (hd) J J J) J J ?_;refine zx (Q8 J J J) J (ze J (ze J (ze J (z1 J (z1 J (z1 J (zz (Qd (zy ?_)))))))));refine z0 J (zn J (z0 J (z5 J (z0 J (z5 J (z0 J (z5 J (zx (Zs J J J) J (z5 J (z0 J (z5 J ?_)))))))))));refine z8 J (by omega) (z5 J (z0 J (z5 J (z8 J (by omega) (z5 J (z9c J (by assumption) (zpF J (zz (Ql J (Qh ?_))))))))));refine Q0 (zy (z0 J (z0 J (z0 J (z7 J (by omega) (z0 J (z0 J (z7 J (by omega) (z0 J (z7 J (by omega) ?_))))))))));refine zx (q_sslice J J J J J (by omega)) J (z0 J (z0 J (z7 J (by omega) (z1 J (z1 J (z1 J (zz (Xa (F_r ?_)))))))))
  exact Xr J J J J (X3 [] (by decide) J J (tu3 (by omega)))
def openText (s : ByteArray) : Option ByteArray := if s.size < 4 then none else if sealText (s.extract 4 s.size) = s then some (s.extract 4 s.size) else none
@[reducible] def otR : Option ByteArray → V
 | none => .tu [.c (.rd [] (.v (.string ⟨#[]⟩))),.c (bv false)]
 | some t => .tu [.c (.rd [] (.v (.string t))),.c (bv true)]
theorem openText_some {s t : ByteArray} (h : openText s = some t) : sealText t = s ∧ t.size + 4 = s.size := by
 unfold openText at h
 split at h
 ·cases h
 ·split at h
  ·rename_i h1 h2
   simp only [Option.some.injEq] at h
   subst h
   refine ⟨h2,?_⟩
   have := congrArg ByteArray.size h2
   rw [sealText_size] at this
   exact this
  ·cases h
theorem openText_seal (t : ByteArray) : openText (sealText t) = some t := by
 have h1 := sealText_size t
 have h2 : (sealText t).extract 4 (sealText t).size = t := by
  rw [← bs_of ((sealText t).extract 4 (sealText t).size),extract_list,h1]
  have h3 : (sealText t).data.toList = seal4 (checksum t) ++ t.data.toList := by
   show (bs (seal4 (checksum t)) ++ t).data.toList = _
   rw [ByteArray.data_append]
   simp
  rw [h3,List.drop_append_of_le_length (by simp [seal4]),show List.drop 4 (seal4 (checksum t)) = [] from rfl,List.nil_append,show t.size + 4 - 4 = t.data.toList.length by simp,List.take_length,bs_of]
 rw [openText,if_neg (by omega),h2,if_pos rfl]
theorem I_OpenText (s : ByteArray) (hs : s.size ≤ 1099511627776) : Con Try.prog 26 [] [astr s] [] (otR (openText s)) := by
 by_cases h4 : s.size < 4
 ·have hb : decide ((s.size : Int) < 4) = true := decide_eq_true (by omega)
  rw [show openText s = none by rw [openText,if_pos h4]]
  refine Con.of Try.func26 J Try.ntmps26 J (fun E => ?_)
  refine zy (z1 J (z1 J (zz (Qd (zy (z0 J (zx (Zs J J J) J (z9a J (by assumption) ?_))))))));refine zz (Qm J (zy (z1 J (z1 J (zz (Xa (T_r (F_r ?_))))))))
  exact Xq J J J (X3 [] (by decide) J J J)
 have hb : decide ((s.size : Int) < 4) = false := decide_eq_false (by omega)
 have hsz : (s.extract (4 : Int).toNat s.size).size ≤ 1099511627776 := by rw [ByteArray.size_extract]; omega
 have hsl := I_SealText (s.extract (4 : Int).toNat s.size) hsz
 by_cases he : sealText (s.extract (4 : Int).toNat s.size) = s
 ·have hb2 : decide (sealText (s.extract (4 : Int).toNat s.size) ≠ s) = false := decide_eq_false fun h => h he
  rw [show openText s = some (s.extract (4 : Int).toNat s.size) by rw [openText,if_neg h4]; exact if_pos he]
  refine Con.of Try.func26 J Try.ntmps26 J (fun E => ?_)
  refine zy (z1 J (z1 J (zz (Qd (zy (z0 J (zx (Zs J J J) J (z9a J (by assumption) ?_))))))));refine zz (Ql J (Qh (Q0 (zy (z0 J (zx (q_sslice1 J J J J (by omega)) J (z1 J (zz ?_))))))));refine Qd (zy (z0 J ?_));refine zx (Qj J J (hsl) J) J ?_;refine z0 J (zx (q_sneqK J J J J (by assumption)) J (zz (Ql J (Qh (Q0 (zy (z0 J (z1 J (z1 J ?_)))))))));refine zz (Xa (F_r ?_))
  exact Xq J J J (X3 [] (by decide) J J J)
 ·have hb2 : decide (sealText (s.extract (4 : Int).toNat s.size) ≠ s) = true := decide_eq_true he
  rw [show openText s = none by rw [openText,if_neg h4]; exact if_neg he]
  refine Con.of Try.func26 J Try.ntmps26 J (fun E => ?_)
  refine zy (z1 J (z1 J (zz (Qd (zy (z0 J (zx (Zs J J J) J (z9a J (by assumption) ?_))))))));refine zz (Ql J (Qh (Q0 (zy (z0 J (zx (q_sslice1 J J J J (by omega)) J (z1 J (zz ?_))))))));refine Qd (zy (z0 J ?_));refine zx (Qj J J (hsl) J) J ?_;refine z0 J (zx (q_sneqK J J J J (by assumption)) J (zz (Qm J (zy (z1 J (z1 J (zz (Xa ?_))))))));refine T_r (F_r ?_)
  exact Xq J J J (X3 [] (by decide) J J J)
end
section
open Go.RowKit

def packRuns (xs : List Int) : List UInt8 := match xs with
 | [] => []
 | x :: r => encVar (x + 16 * ((r.takeWhile (· == x)).length + 1 : Nat)) ++ packRuns (r.drop (r.takeWhile (· == x)).length)
termination_by xs.length
decreasing_by simp; omega
theorem tw_len {xs : List Int} {x : Int} : ∀ {n : Nat},(∀ j,j < n → xs[j]? = some x) → (∀ y,xs[n]? = some y → y ≠ x) → (xs.takeWhile (· == x)).length = n := by
 induction xs with
 | nil =>
  intro n h1 h2
  cases n with
  | zero => rfl
  | succ n => have := h1 0 (by omega); simp at this
 | cons a xs ih =>
  intro n h1 h2
  cases n with
  | zero =>
   have := h2 a (by simp)
   rw [List.takeWhile_cons]
   simp [this]
  | succ n =>
   have h0 := h1 0 (by omega)
   simp at h0
   subst h0
   rw [List.takeWhile_cons]
   simp
   exact ih (fun j hj => by have := h1 (j + 1) (by omega); simpa using this) fun y hy => h2 y (by simpa using hy)
theorem runs_step {xs : List Int} {s i : Nat} (hs : s < i) (hl : s < xs.length) (hi : i ≤ xs.length) (hall : ∀ j,s ≤ j → j < i → xs[j]? = some xs[s]) (hstop : ∀ y,xs[i]? = some y → y ≠ xs[s]) : packRuns (xs.drop s) = encVar (xs[s] + 16 * ((i : Int) - (s : Int))) ++ packRuns (xs.drop i) := by
 rw [List.drop_eq_getElem_cons hl,packRuns]
 have h1 : ((xs.drop (s + 1)).takeWhile (· == xs[s])).length = i - (s + 1) := tw_len (fun j hj => by rw [List.getElem?_drop]; exact hall _ (by omega) (by omega)) fun y hy => by rw [List.getElem?_drop,show s + 1 + (i - (s + 1)) = i by omega] at hy; exact hstop y hy
 rw [h1,List.drop_drop,show s + 1 + (i - (s + 1)) = i by omega,show ((i - (s + 1) + 1 : Nat) : Int) = (i : Int) - s by omega]
theorem run_next {xs : List Int} {i j : Nat} {x : Int} (h : ∀ q,i ≤ q → q < j → xs[q]? = some x) (hj : j < xs.length) (he : xs[j] = x) : ∀ q,i ≤ q → q < j + 1 → xs[q]? = some x := fun q h1 h2 => by
 rcases Nat.lt_or_ge q j with h3 | h3
 ·exact h q h1 h3
 ·have : q = j := by omega
  subst this
  rw [List.getElem?_eq_getElem hj,he]
def packTrack (xs : List Int) : ByteArray := if xs.length ≤ 400 ∧ inOk xs = true then bs (packRuns xs) else bs []
theorem packRuns_len (n : Nat) : ∀ xs : List Int,xs.length ≤ n → (packRuns xs).length ≤ 6 * n := by
 induction n with
 | zero => intro xs h; have := List.eq_nil_of_length_eq_zero (by omega : xs.length = 0); subst this; simp [packRuns]
 | succ n ih =>
  intro xs h
  cases xs with
  | nil => simp [packRuns]
  | cons x r =>
   rw [packRuns,List.length_append]
   have h1 := Yp (x + 16 * ((r.takeWhile (· == x)).length + 1 : Nat))
   have h2 := ih (r.drop (r.takeWhile (· == x)).length) (by simp at h ⊢; omega)
   omega
theorem Y8 (xs : List Int) : (packTrack xs).size ≤ 2400 := by
 unfold packTrack
 split
 ·rename_i h
  rw [Yb]
  have := packRuns_len 400 xs h.1
  omega
 ·rw [Yb]; simp
theorem inOk_at {xs : List Int} (h : inOk xs = true) {k : Nat} (hk : k < xs.length) : 0 ≤ xs[k] ∧ xs[k] ≤ 15 := Yy.1 (List.all_eq_true.1 h _ (List.getElem_mem hk))

theorem I_PackTrack (xs : List Int) (hn : Enc.gd xs) : Con Try.prog 60 [] [al xs] [] (S (packTrack xs)) := by
 have hlx := Yl xs
 refine Con.of Try.func60 J Try.ntmps60 J (fun E => ?_)
 refine zy (z1 J (zz (Qd (zy (z0 J (zx (Zq J J J) J (zx (Zo J J J J) J (z0 J ?_))))))));refine zx (Qt.grdF J J J .stop (fun hgrd => Qa J J J)) J ?_;refine zx (Qt.grdF J J J (.hit .stop) (fun hgrd => Qj J J (I_inputsOk xs hn) J)) J ?_;refine zx (Qt.grdF J J J (.hit (.hit .stop)) (fun hgrd => Q4 J J J)) J ?_;refine zx (Zy J J J J) J (zz ?_)
 refine Xb J (fun h => ?_) (fun h => ?_)
 ·rw [hlx] at h
  refine zy (z1 J (zz (Xa (T_r (F_r ?_)))))
  exact Xp rfl rfl (X3 [] (by decide) rfl rfl (S_eq (by rw [packTrack,if_neg (by simp only [Bool.or_eq_true,decide_eq_true_eq,Bool.not_eq_true'] at h; rintro ⟨h1,h2⟩; rcases h with h | h <;> first | omega | simp [h2] at h)])))
 rw [hlx] at h
 have h : xs.length ≤ 400 ∧ inOk xs = true := by
  simp only [Bool.or_eq_false_iff,decide_eq_false_iff_not,Bool.not_eq_false'] at h
  exact ⟨by omega,h.2⟩
 rw [packTrack,if_pos h]
 refine Qh (Q0 (zy (z1 J (zz (Qd (zy (z1 J (Qe ?_))))))));refine Q0 (Qk ?_)
 refine AWP.pre ?_ (W_nil 3 1 J)
 refine A_lq (fun m__ st => ∃ (i : Nat) (acc : List UInt8),xs.length - i = m__ ∧ (acc ++ packRuns (xs.drop i) = packRuns xs ∧ i ≤ xs.length ∧ acc.length ≤ 6 * i) ∧ st = (⟨_,[(0,L xs),(3,.o (.c (.ref 0))),(4,I i)],[.row 1 (bE acc)]⟩ : St)) _ ⟨_,⟨0,[],J,by simp,J⟩,W_gj [0] J⟩ ?_
 rintro m_A _ ⟨i,acc,hk_A,hp_A,rfl⟩
 refine Qd (zy (z0 J (z0 J (zx (Zq J J J) J (zx (Zv J J J J) J (zz ?_))))))
 refine Xb J (fun h5 => ?_) (fun h5 => ?_)
 ·have h5 : i < xs.length := by have := of_decide_eq_true h5; omega
  obtain ⟨hp1,hp2,hp3⟩ := hp_A
  have hb := bE_len acc
  have hat := Yk h5
  have hx := inOk_at h.2 h5
  refine Qh (Q0 (Qk (zy (z0 J (z1 J (zz (Qd (Qk ?_))))))));refine A_lq (fun m__ st => ∃ (j : Nat),xs.length - j = m__ ∧ (i ≤ j ∧ j ≤ xs.length ∧ (∀ q,i ≤ q → q < j → xs[q]? = some xs[i])) ∧ st = (⟨_,[(0,L xs),(3,.o (.c (.ref 0))),(4,I j),(5,I i)],[.row 1 (bE acc)]⟩ : St)) _ ⟨_,⟨i,J,⟨Nat.le_refl _,by omega,fun q h1 h2 => by omega⟩,J⟩,W_gj [0] J⟩ ?_
  rintro m_D _ ⟨j,hk_D,hp_D,rfl⟩
  obtain ⟨hd1,hd2,hd3⟩ := hp_D
  have hij : i < j → xs.length - j < xs.length - i := fun h => by omega
  by_cases hj : j < xs.length
  ·have hat2 := Yk hj
   have f1 : decide ((j : Int) < ((els xs).length : Int)) = true := decide_eq_true (by omega)
   by_cases he : xs[j] = xs[i]
   ·have f2 : decide (xs[j] = xs[i]) = true := decide_eq_true he
    refine Qd (Qd (Xi u8_6 u8_7 u8_8 J (DR.s (Qa J J J) J J (DR.s (Qa J J J) J J (DR.s (Zq J J J) J J (DR.s (Qr J J J J (by assumption)) J J (DR.s (Qa J J J) J J (DR.s (Qt.yes J J J (Qa J J J)) J J (DR.s (Qt.yes J J J (Qa J J J)) J J (DR.s (Qt.yes J J J (Q2 J J J J (by omega) (by assumption) J)) J J (DR.s (Qt.yes J J J (Zu J J J J)) J J ?_)))))))))));refine DR.s (Qt.yes J J J (Qa J J J)) J J (DR.s (Qt.yes J J J (Qa J J J)) J J (DR.s (Qt.yes J J J (Q2 J J J J (by omega) (by assumption) J)) J J (DR.s (Qt.yes J J J (Zu J J J J)) J J (DR.s (Qt.yes J J J (Qv J J J J (by assumption))) J J (DR.s (Qo J J J J) J J (DR.stop (by kernel_rfl) (by kernel_rfl) (zz (Qm J (Qh (Q0 ?_))))))))));refine Qk (Qc (z0 J (z7 J (by omega) (z1 J (Qe (Q1 (Q0 ?_)))))))
    refine ⟨_,(by omega),_,⟨j + 1,J,⟨by omega,by omega,fun q h1 h2 => run_next hd3 hj he q h1 h2⟩,J⟩,W_gj [0] J⟩
   ·have f2 : decide (xs[j] = xs[i]) = false := decide_eq_false he
    have hlt : i < j := by
     rcases Nat.lt_or_ge i j with h1 | h1
     ·exact h1
     ·exact absurd (by congr 1 <;> omega) he
    have hst := runs_step hlt h5 hd2 hd3 (fun y hy => by rw [List.getElem?_eq_getElem hj] at hy; cases hy; exact he)
    have hb2 := Yb (encVar (xs[i] + 16 * ((j : Int) - (i : Int))))
    have hb3 := Yp (xs[i] + 16 * ((j : Int) - (i : Int)))
    refine Qd (Qd (Xi u8_6 u8_7 u8_8 J (DR.s (Qa J J J) J J (DR.s (Qa J J J) J J (DR.s (Zq J J J) J J (DR.s (Qr J J J J (by assumption)) J J (DR.s (Qa J J J) J J (DR.s (Qt.yes J J J (Qa J J J)) J J (DR.s (Qt.yes J J J (Qa J J J)) J J (DR.s (Qt.yes J J J (Q2 J J J J (by omega) (by assumption) J)) J J (DR.s (Qt.yes J J J (Zu J J J J)) J J ?_)))))))))));refine DR.s (Qt.yes J J J (Qa J J J)) J J (DR.s (Qt.yes J J J (Qa J J J)) J J (DR.s (Qt.yes J J J (Q2 J J J J (by omega) (by assumption) J)) J J (DR.s (Qt.yes J J J (Zu J J J J)) J J (DR.s (Qt.yes J J J (Qv J J J J (by assumption))) J J (DR.s (Qo J J J J) J J (DR.stop (by kernel_rfl) (by kernel_rfl) (zz (Ql J (Q9 (T_x ?_))))))))));refine T_x (Xl (Q0 (Qc (z0 J (z0 J (z0 J (zx (Q2 J J J J (by omega) (by assumption) J) J (zx (Zu J J J J) J (z0 J (z0 J (z8 J (by omega) ?_)))))))))));refine zx (Zw J J J J (by omega)) J (z7 J (by omega) ?_);refine zx (Qj J J (Xt (xs[i] + 16 * ((j : Int) - (i : Int)))) J) J ?_;refine M_appstr J J J J J J J (by omega) (by omega) ?_;refine z1 J (Qe (Q1 (Q0 ?_)))
    refine ⟨_,(by omega),(fun (i : Nat) (acc : List UInt8) => (⟨_,[(0,L xs),(3,.o (.c (.ref 0))),(4,I i)],[.row 1 (bE acc)]⟩ : St)) (j) (acc ++ encVar (xs[i] + 16 * ((j : Int) - (i : Int)))),⟨j,acc ++ encVar (xs[i] + 16 * ((j : Int) - (i : Int))),J,⟨by rw [← hp1,hst,List.append_assoc],hd2,by rw [List.length_append]; omega⟩,J⟩,X5 [0] (by decide) J (row_eq (by rw [bs_list,bE_app])) (.c J (.c J (.c J (.nil))))⟩
  ·have f1 : decide ((j : Int) < ((els xs).length : Int)) = false := decide_eq_false (by omega)
   have hst := runs_step (show i < j by omega) h5 hd2 hd3 (fun y hy => by rw [List.getElem?_eq_none (by omega)] at hy; cases hy)
   have hb2 := Yb (encVar (xs[i] + 16 * ((j : Int) - (i : Int))))
   have hb3 := Yp (xs[i] + 16 * ((j : Int) - (i : Int)))
   refine Qd (Qd (Xi u8_6 u8_7 u8_8 J (DR.s (Qa J J J) J J (DR.s (Qa J J J) J J (DR.s (Zq J J J) J J (DR.s (Qr J J J J (by assumption)) J J (DR.s (Qa J J J) J J (DR.s (Qt.no J J J J) J J (DR.s (Qt.no J J J J) J J (DR.s (Qt.no J J J J) J J (DR.s (Qt.no J J J J) J J ?_)))))))))));refine DR.s (Qt.no J J J J) J J (DR.s (Qt.no J J J J) J J (DR.s (Qt.no J J J J) J J (DR.s (Qt.no J J J J) J J (DR.s (Qt.no J J J J) J J (DR.s (Qn J J J J) J J (DR.stop (by kernel_rfl) (by kernel_rfl) (zz (Ql J (Q9 (T_x ?_))))))))));refine T_x (Xl (Q0 (Qc (z0 J (z0 J (z0 J (zx (Q2 J J J J (by omega) (by assumption) J) J (zx (Zu J J J J) J (z0 J (z0 J (z8 J (by omega) ?_)))))))))));refine zx (Zw J J J J (by omega)) J (z7 J (by omega) ?_);refine zx (Qj J J (Xt (xs[i] + 16 * ((j : Int) - (i : Int)))) J) J ?_;refine M_appstr J J J J J J J (by omega) (by omega) ?_;refine z1 J (Qe (Q1 (Q0 ?_)))
   refine ⟨_,(by omega),(fun (i : Nat) (acc : List UInt8) => (⟨_,[(0,L xs),(3,.o (.c (.ref 0))),(4,I i)],[.row 1 (bE acc)]⟩ : St)) (j) (acc ++ encVar (xs[i] + 16 * ((j : Int) - (i : Int)))),⟨j,acc ++ encVar (xs[i] + 16 * ((j : Int) - (i : Int))),J,⟨by rw [← hp1,hst,List.append_assoc],hd2,by rw [List.length_append]; omega⟩,J⟩,X5 [0] (by decide) J (row_eq (by rw [bs_list,bE_app])) (.c J (.c J (.c J (.nil))))⟩
 ·have h5 : i = xs.length := by have := of_decide_eq_false h5; omega
  refine Q9 (T_x (T_x (Xl (Q0 (zy (z0 J (zx (q_bstr J J J J) J (z1 J (zz ?_)))))))));refine Xa (F_r ?_)
  exact Xp J J (X3 [] (by decide) J J (S_eq (congrArg bs (by rw [← hp_A.1,h5]; simp [packRuns]))))
end
section
open Go.RowKit

def utGo (s : ByteArray) : Nat → Nat → List Int → Option (List Int)
 | 0,pos,acc => some acc
 | f + 1,pos,acc => if pos < s.size then (match decVar s (pos : Int) with
   | none => none
   | some (n,k) => if 400 - (acc.length : Int) < n / 16 then none else utGo s f (pos + k) (acc ++ List.replicate (n / 16).toNat (n % 16))) else some acc
def unpackTrack (s : ByteArray) : Option (List Int) := match utGo s s.size 0 [] with
 | none => none
 | some l => if packTrack l = s then some l else none
@[reducible] def utrO : Option (List Int) → List Ob
 | none => [.row 1 []]
 | some l => [.row 1 (els l)]
@[reducible] def utrR : Option (List Int) → V
 | none => .tu [.c (.ref 0),.c (bv false)]
 | some _ => .tu [.c (.ref 0),.c (bv true)]
theorem gd_small {l : List Int} (h1 : l.length ≤ 400) (h2 : ∀ x ∈ l,I64 x) : Enc.gd l := ⟨by omega,h2⟩
theorem els_rep (acc : List Int) (k : Nat) (v : Int) : els (acc ++ List.replicate (k + 1) v) = els (acc ++ List.replicate k v) ++ [[.v (.int .i64 v)]] := by
 rw [List.replicate_succ',← List.append_assoc,els_snocI]
theorem utGo_end {s : ByteArray} {pos : Nat} (h : ¬ pos < s.size) (f : Nat) (acc : List Int) : utGo s f pos acc = some acc := by
 cases f with
 | zero => rfl
 | succ f => rw [utGo,if_neg h]
theorem I_UnpackTrack (s : ByteArray) (hs : s.size ≤ 1099511627776) : Con Try.prog 56 [] [astr s] (utrO (unpackTrack s)) (utrR (unpackTrack s)) := by
 have h00 : ([] : List (List T)).length = 0 := rfl
 refine Con.of Try.func56 J Try.ntmps56 J (fun E => ?_)
 refine zy (z1 J (z1 J (zz (zy (z1 J (zz (Qd ?_)))))));refine zy (z1 J (zz (Qk ?_)))
 refine AWP.pre ?_ (W_nil 4 1 J)
 refine A_lq (fun m__ st => ∃ (pos : Nat) (acc : List Int) (f : Nat),s.size - pos = m__ ∧ (s.size ≤ pos + f ∧ pos ≤ s.size ∧ acc.length ≤ 400 ∧ (∀ x ∈ acc,I64 x) ∧ utGo s f pos acc = utGo s s.size 0 []) ∧ st = (⟨_,[(0,S s),(4,.o (.c (.ref 0))),(5,I pos)],[.row 1 (els acc)]⟩ : St)) _ ⟨_,⟨0,[],s.size,J,⟨by omega,by omega,by simp,by simp,J⟩,J⟩,W_gj [0] J⟩ ?_
 rintro m_A _ ⟨pos,acc,f,hk_A,hp_A,rfl⟩
 obtain ⟨hfu,hps,hal,hag,hgo⟩ := hp_A
 have hla := Yl acc
 by_cases hlt : (pos : Int) < s.size
 ·have hb : decide ((pos : Int) < s.size) = true := decide_eq_true hlt
  have hd := Xs s (pos : Int) hs ⟨by omega,by omega⟩
  obtain ⟨g,rfl⟩ : ∃ g,f = g + 1 := ⟨f - 1,by omega⟩
  cases hv : decVar s (pos : Int) with
  | none =>
   rw [hv] at hd
   rw [show unpackTrack s = none by rw [unpackTrack,← hgo,utGo,if_pos (by omega),hv]]
   refine Qd (zy (z0 J (z0 J (zx (Zs J J J) J (z9a J (by assumption) (zz (Qm J (Qh (Q0 ?_)))))))));refine Qk (zy (z0 J (z0 J ?_)));refine M1 (Zi J J (hd) J J J) J J ?_;refine zx (Q8 J J J) J (ze J (ze J (ze J (z1 J (z1 J (z1 J (zz (Qd (zy ?_)))))))));refine z0 J (zn J (z0 J (z6 J (z6 J (z6 J (z6 J (z6 J (z6 J (zpT J (zz ?_))))))))));refine Qm J (zy (z1 J (z1 J (zz (Xa (T_r (B_r (T_r (B_r ?_)))))))));refine T_r (F_r ?_)
   exact Xq J J J (X4 [1] [1] J J (by decide) J J J)
  | some r =>
   obtain ⟨n,k⟩ := r
   rw [hv] at hd
   have hm := Yi hv
   by_cases hbig : 400 - ((els acc).length : Int) < n / 16
   ·have hb2 : decide (400 - ((els acc).length : Int) < n / 16) = true := decide_eq_true hbig
    rw [show unpackTrack s = none by rw [unpackTrack,← hgo,utGo,if_pos (by omega),hv]; simp only []; rw [if_pos (by omega)]]
    refine Qd (zy (z0 J (z0 J (zx (Zs J J J) J (z9a J (by assumption) (zz (Qm J (Qh (Q0 ?_)))))))));refine Qk (zy (z0 J (z0 J ?_)));refine M1 (Zi J J (hd) J J J) J J ?_;refine zx (Q8 J J J) J (ze J (ze J (ze J (z1 J (z1 J (z1 J (zz (Qd (zy ?_)))))))));refine z0 J (zn J (z0 J (z5 J (z0 J (z5 J (zx (q_quo J J J J (by omega)) J (z5 J (z0 J (z5 J (zx (Zr J J J J) J (z5 J ?_)))))))))));refine z8 J (by omega) (z5 J (z9c J (by assumption) (zpF J (zz (Qm J (zy (z1 J (z1 J (Qe ?_)))))))));refine Q0 (Xa (T_r (B_r (T_r (B_r (T_r (F_r ?_)))))))
    exact Xq J J J (X4 [1] [1] J J (by decide) J J J)
   have hb2 : decide (400 - ((els acc).length : Int) < n / 16) = false := decide_eq_false hbig
   obtain ⟨m,hm16⟩ : ∃ m : Nat,n / 16 = m := ⟨(n / 16).toNat,by omega⟩
   refine Qd (zy (z0 J (z0 J (zx (Zs J J J) J (z9a J (by assumption) (zz (Qm J (Qh (Q0 ?_)))))))));refine Qk (zy (z0 J (z0 J ?_)));refine M1 (Zi J J (hd) J J J) J J ?_;refine zx (Q8 J J J) J (ze J (ze J (ze J (z1 J (z1 J (z1 J (zz (Qd (zy ?_)))))))));refine z0 J (zn J (z0 J (z5 J (z0 J (z5 J (zx (q_quo J J J J (by omega)) J (z5 J (z0 J (z5 J (zx (Zr J J J J) J (z5 J ?_)))))))))));refine z8 J (by omega) (z5 J (z9c J (by assumption) (zpF J (zz (Ql J (Qh (Q0 (Qd (zy ?_)))))))));refine z1 J (zz (Qk ?_));refine A_lq (fun m__ st => ∃ (k2 : Nat),m - k2 = m__ ∧ (k2 ≤ m) ∧ st = (⟨_,[(0,S s),(4,.o (.c (.ref 0))),(5,I pos),(6,I n),(7,I k),(9,I k2)],[.row 1 (els (acc ++ List.replicate k2 (n % 16)))]⟩ : St)) _ ⟨(fun (k2 : Nat) => (⟨_,[(0,S s),(4,.o (.c (.ref 0))),(5,I pos),(6,I n),(7,I k),(9,I k2)],[.row 1 (els (acc ++ List.replicate k2 (n % 16)))]⟩ : St)) (0),⟨0,J,Nat.zero_le _,J⟩,X5 [0] (by decide) J (row_eq (by simp)) (.c J (.c J (.c J (.c J (.c J (.c J (.nil)))))))⟩ ?_
   rintro m_B _ ⟨k2,hk_B,hp_B,rfl⟩
   have hlb := Yl (acc ++ List.replicate k2 (n % 16))
   have hlc : (acc ++ List.replicate k2 (n % 16)).length = acc.length + k2 := by simp
   refine Qd (zy (z0 J (z0 J (zx (q_quo J J J J (by omega)) J (zx (Zv J J J J) J (zz ?_))))))
   refine Xb J (fun h => ?_) (fun h => ?_)
   ·have h := of_decide_eq_true h
    refine Qh (Q0 (Qd (Qk (Qc (z0 J (z0 J (zx (Zz J J J J (by omega)) J (M1 (Zd J J J J J J) J J ?_))))))));refine Xy J J J J J J J J J J (by omega) (by omega) ?_;refine z1 J (Qe (Q1 (Q0 (Qc (z0 J (z7 J (by omega) (z1 J (zz ?_))))))))
    refine ⟨_,(by omega),(fun (k2 : Nat) => (⟨_,[(0,S s),(4,.o (.c (.ref 0))),(5,I pos),(6,I n),(7,I k),(9,I k2)],[.row 1 (els (acc ++ List.replicate k2 (n % 16)))]⟩ : St)) (k2 + 1),⟨k2 + 1,J,by omega,J⟩,X5 [0] (by decide) J (row_eq (els_rep acc k2 (n % 16))) (.c J (.c J (.c J (.c J (.c J (.c J (.nil)))))))⟩
   ·have h := of_decide_eq_false h
    have hk2 : k2 = m := by omega
    subst hk2
    refine Q9 (T_x (T_x (Xl (Q0 (Qc (z0 J (z0 J (z7 J (by omega) (z1 J (Qe (Q1 ?_)))))))))));refine Q0 ?_
    refine ⟨_,(by omega),_,⟨pos + k,acc ++ List.replicate k2 (n % 16),g,rfl,⟨by omega,by omega,by omega,fun x hx => by rcases List.mem_append.1 hx with hx | hx; exact hag x hx; have := List.eq_of_mem_replicate hx; exact ⟨by omega,by omega⟩,by rw [← hgo,utGo,if_pos (by omega),hv]; simp only []; rw [if_neg (by omega),hm16]; rfl⟩,rfl⟩,W_gj [0] rfl⟩
 ·have hb : decide ((pos : Int) < s.size) = false := decide_eq_false hlt
  have hut := utGo_end (s := s) (pos := pos) (by omega) f acc
  have hpk := I_PackTrack acc (gd_small hal hag)
  by_cases he : packTrack acc = s
  ·have hb2 : decide (packTrack acc ≠ s) = false := decide_eq_false fun h => h he
   rw [show unpackTrack s = some acc by rw [unpackTrack,← hgo,hut]; exact if_pos he]
   refine Qd (zy (z0 J (z0 J (zx (Zs J J J) J (z9a J (by assumption) (zz (Ql J (Q9 (T_x ?_)))))))));refine T_x (Xl (Q0 (Qd (zy (z0 J ?_)))));refine zx (Qj J J (hpk) J) J ?_;refine z0 J (zx (q_sneqK J J J J (by assumption)) J (zz (Ql J (Qh (Q0 (zy (z0 J (z1 J (z1 J ?_)))))))));refine zz (Xa (F_r ?_))
   exact Xq J J J (X3 [0] (by decide) J J J)
  ·have hb2 : decide (packTrack acc ≠ s) = true := decide_eq_true he
   rw [show unpackTrack s = none by rw [unpackTrack,← hgo,hut]; exact if_neg he]
   refine Qd (zy (z0 J (z0 J (zx (Zs J J J) J (z9a J (by assumption) (zz (Ql J (Q9 (T_x ?_)))))))));refine T_x (Xl (Q0 (Qd (zy (z0 J ?_)))));refine zx (Qj J J (hpk) J) J ?_;refine z0 J (zx (q_sneqK J J J J (by assumption)) J (zz (Qm J (zy (z1 J (z1 J (zz (Xa ?_))))))));refine T_r (F_r ?_)
   exact Xq J J J (X4 [1] [1] J J (by decide) J J J)
end
section
open Go.RowKit

def snocs (rows : List (List Int)) (l : List Int) : List (List Int) := List.zipWith (fun r x => r ++ [x]) rows l
def colsGo (s : ByteArray) (n : Nat) : Nat → Nat → List (List Int) → Option (List (List Int) × Nat)
 | 0,pos,rows => some (rows,pos)
 | c + 1,pos,rows => match unpackText s (pos : Int) with
  | none => none
  | some (t,k) => match unpackTrack t with
   | none => none
   | some l => if l.length = n then colsGo s n c (pos + k) (snocs rows l) else none
@[reducible] def ucO : Option (List (List Int) × Nat) → List Ob
 | none => [.row 1 []]
 | some (l,_) => [.row 1 (els l)]
@[reducible] def ucR (p : Nat) : Option (List (List Int) × Nat) → V
 | none => .tu [.c (.ref 0),.c (jn 0),.c (bv false)]
 | some (_,e) => .tu [.c (.ref 0),.c (jn ((e : Int) - p)),.c (bv true)]
theorem utGo_some (s : ByteArray) : ∀ (f pos : Nat) (acc l : List Int),acc.length ≤ 400 → (∀ x ∈ acc,I64 x) → utGo s f pos acc = some l → l.length ≤ 400 ∧ ∀ x ∈ l,I64 x := by
 intro f
 induction f with
 | zero => intro pos acc l h1 h2 h; simp only [utGo,Option.some.injEq] at h; subst h; exact ⟨h1,h2⟩
 | succ f ih =>
  intro pos acc l h1 h2 h
  rw [utGo] at h
  split at h
  ·split at h
   ·cases h
   ·rename_i n k hd
    have hm := Yi hd
    split at h
    ·cases h
    ·refine ih _ _ l (by simp; omega) (fun x hx => ?_) h
     rcases List.mem_append.1 hx with hx | hx
     ·exact h2 x hx
     ·have := List.eq_of_mem_replicate hx
      exact ⟨by omega,by omega⟩
  ·simp only [Option.some.injEq] at h; subst h; exact ⟨h1,h2⟩
theorem Kb {s : ByteArray} {l : List Int} (h : unpackTrack s = some l) : packTrack l = s ∧ l.length ≤ 400 ∧ ∀ x ∈ l,I64 x := by
 unfold unpackTrack at h
 split at h
 ·cases h
 ·rename_i l' hl
  split at h
  ·simp only [Option.some.injEq] at h
   subst h
   rename_i hp
   exact ⟨hp,utGo_some s _ _ _ _ (by simp) (fun x hx => by simp at hx) hl⟩
  ·cases h
theorem unpackTrack_nil : unpackTrack ⟨#[]⟩ = some [] := by
 have h1 : packTrack [] = ⟨#[]⟩ := by rw [packTrack,if_pos ⟨by simp,by simp [inOk]⟩,packRuns]
 rw [unpackTrack,show utGo ⟨#[]⟩ (ByteArray.mk #[]).size 0 [] = some [] from rfl]
 exact if_pos h1
theorem snocs_len {rows : List (List Int)} {l : List Int} (h : l.length = rows.length) : (snocs rows l).length = rows.length := by simp [snocs,h]
theorem snocs_at {rows : List (List Int)} {l : List Int} {i : Nat} (h1 : i < rows.length) (h2 : i < l.length) (h : i < (snocs rows l).length) : (snocs rows l)[i] = rows[i] ++ [l[i]] := by simp [snocs]
theorem make_rows (n : Nat) : List.replicate (n : Int).toNat ([Value.slice none 0 0].map (zT 1)) = els (List.replicate n ([] : List Int)) := by
 rw [els,List.map_replicate]
 rfl
theorem app_next {ms rows : List (List Int)} (hl : ms.length = rows.length) {i : Nat} (h : i < rows.length) {x : Int} (hm : ms[i]'(by omega) = rows[i] ++ [x]) :
  els (ms.take (i + 1) ++ rows.drop (i + 1)) = ((els (ms.take i ++ rows.drop i)).set i (splice [T.sl 1 (els rows[i])] 0 [.un])).set i (splice (splice [T.sl 1 (els rows[i])] 0 [.un]) 0 [.sl 1 (els rows[i] ++ [[.v (.int .i64 x)]])]) := by
 rw [List.set_set]
 exact mk_next (e := [T.sl 1 (els rows[i])]) hl h (c := .sl 1 (els rows[i] ++ [[.v (.int .i64 x)]])) (by rw [hm,← els_snocI]; rfl)
theorem I_unpackColumns (s : ByteArray) (p c n : Nat) (hs : s.size ≤ 1099511627776) (hp : p ≤ s.size) (hc : c ≤ 4) (hn : n ≤ 400) :
  Con Try.prog 29 [] [astr s,ai p,ai c,ai n] (ucO (colsGo s n c p (List.replicate n []))) (ucR p (colsGo s n c p (List.replicate n []))) := by
 refine Con.of Try.func29 J Try.ntmps29 J (fun E => ?_)
 refine zy (z1 J (z1 J (z1 J (zz (zy (z0 J ?_))))));refine M1 (q_make 1 J J J J (by omega) (by omega) (by omega) J (by simp)) J J ?_;refine z1 J (zz (zy (z0 J (z1 J (zz (Qd (zy ?_)))))));refine z1 J (zz (Qk ?_))
 refine A_lq (fun m__ st => ∃ (k : Nat) (pos : Nat) (rows : List (List Int)),c - k = m__ ∧ (k ≤ c ∧ rows.length = n ∧ (∀ r ∈ rows,r.length ≤ k) ∧ p ≤ pos ∧ pos ≤ s.size ∧ colsGo s n (c - k) pos rows = colsGo s n c p (List.replicate n [])) ∧ st = (⟨_,[(0,S s),(1,I p),(2,I c),(3,I n),(11,.o (.c (.ref 0))),(12,I pos),(13,I k)],[.row 1 (els rows)]⟩ : St)) _ ⟨(fun (k : Nat) (pos : Nat) (rows : List (List Int)) => (⟨_,[(0,S s),(1,I p),(2,I c),(3,I n),(11,.o (.c (.ref 0))),(12,I pos),(13,I k)],[.row 1 (els rows)]⟩ : St)) (0) (p) (List.replicate n []),⟨0,p,List.replicate n [],J,⟨by omega,by simp,fun r hr => by rw [List.eq_of_mem_replicate hr]; simp,by omega,by omega,J⟩,J⟩,X5 [0] (by decide) J (row_eq (make_rows n).symm) (.c J (.c J (.c J (.c J (.c J (.c J (.c J (.nil))))))))⟩ ?_
 rintro m_A _ ⟨k,pos,rows,hk_A,hp_A,rfl⟩
 obtain ⟨hkc,hrl,hrk,hpp,hps,hgo⟩ := hp_A
 rw [← hgo]
 by_cases hlt : (k : Int) < c
 ·have hb : decide ((k : Int) < c) = true := decide_eq_true hlt
  obtain ⟨f,hf⟩ : ∃ f,c - k = f + 1 := ⟨c - k - 1,by omega⟩
  rw [hf]
  have hut := I_UnpackText s (pos : Int) hs ⟨by omega,by omega⟩
  cases hv : unpackText s (pos : Int) with
  | none =>
   rw [hv] at hut
   rw [show colsGo s n (f + 1) pos rows = none by rw [colsGo,hv]]
   refine Qd (zy (z0 J (z0 J (z9a J (by assumption) (zz (Qm J (Qh (Q0 (Qd ?_)))))))));refine Qk (zy (z0 J (z0 J ?_)));refine M1 (Zi J J (hut) J J J) J J ?_;refine zx (Q8 J J J) J (ze J (ze J (ze J (z1 J (z1 J (z1 J (zz (Qd (zy ?_)))))))));refine z0 J (zn J (zz (Qm J (zy (z1 J (z1 J (z1 J (zz ?_))))))));refine Xa (T_r (B_r (T_r (T_r (B_r (T_r (F_r ?_)))))))
   exact Xr J J J J (X4 [1] [1] J J (by decide) J J J)
  | some r =>
   obtain ⟨t,m⟩ := r
   rw [hv] at hut
   have hm := unpackText_some hv
   have htr := I_UnpackTrack t (by omega)
   cases hw : unpackTrack t with
   | none =>
    rw [hw] at htr
    rw [show colsGo s n (f + 1) pos rows = none by rw [colsGo,hv]; simp only []; rw [hw]]
    refine Qd (zy (z0 J (z0 J (z9a J (by assumption) (zz (Qm J (Qh (Q0 (Qd ?_)))))))));refine Qk (zy (z0 J (z0 J ?_)));refine M1 (Zi J J (hut) J J J) J J ?_;refine zx (Q8 J J J) J (ze J (ze J (ze J (z1 J (z1 J (z1 J (zz (Qd (zy ?_)))))))));refine z0 J (zn J (zz (Ql J (Qh (Q0 (zy (z0 J ?_)))))));refine M1 (Zi J J (htr) J J J) J J ?_;refine zx (Q8 J J J) J (ze J (ze J (z1 J (z1 J (zz (Qd (zy (z0 J (zn J ?_)))))))));refine z0 J (z6 J (z6 J (z6 J (z6 J (zpT J (zz (Qm J (zy (z1 J ?_)))))))));refine z1 J (z1 J (zz (Xa (T_r (B_r (T_r (T_r (B_r (T_r (F_r ?_))))))))))
    exact Xr J J J J (X4 [1] [2] J J (by decide) J J J)
   | some l =>
    rw [hw] at htr
    have hlw := Kb hw
    have hll := Yl l
    by_cases hne : ((els l).length : Int) ≠ n
    ·have hb2 : decide (((els l).length : Int) ≠ n) = true := decide_eq_true hne
     rw [show colsGo s n (f + 1) pos rows = none by rw [colsGo,hv]; simp only []; rw [hw]; simp only []; rw [if_neg (by omega)]]
     refine Qd (zy (z0 J (z0 J (z9a J (by assumption) (zz (Qm J (Qh (Q0 (Qd ?_)))))))));refine Qk (zy (z0 J (z0 J ?_)));refine M1 (Zi J J (hut) J J J) J J ?_;refine zx (Q8 J J J) J (ze J (ze J (ze J (z1 J (z1 J (z1 J (zz (Qd (zy ?_)))))))));refine z0 J (zn J (zz (Ql J (Qh (Q0 (zy (z0 J ?_)))))));refine M1 (Zi J J (htr) J J J) J J ?_;refine zx (Q8 J J J) J (ze J (ze J (z1 J (z1 J (zz (Qd (zy (z0 J (zn J ?_)))))))));refine z0 J (z5 J (z0 J (z5 J (zx (Zr J J J J) J (z5 J (z0 J (z5 J (z9f J (by assumption) (zpF J (zz ?_))))))))));refine Qm J (zy (z1 J (z1 J (z1 J (zz (Xa (T_r (B_r (T_r ?_)))))))));refine T_r (B_r (T_r (F_r ?_)))
     exact Xr J J J J (X4 [1] [2] J J (by decide) J J J)
    have hb2 : decide (((els l).length : Int) ≠ n) = false := decide_eq_false hne
    have hne := Classical.not_not.1 hne
    have hsl := snocs_len (rows := rows) (l := l) (by omega)
    have hgo2 : colsGo s n (f + 1) pos rows = colsGo s n f (pos + m) (snocs rows l) := by rw [colsGo,hv]; simp only []; rw [hw]; simp only []; rw [if_pos (by omega)]
    refine Qd (zy (z0 J (z0 J (z9a J (by assumption) (zz (Qm J (Qh (Q0 (Qd ?_)))))))));refine Qk (zy (z0 J (z0 J ?_)));refine M1 (Zi J J (hut) J J J) J J ?_;refine zx (Q8 J J J) J (ze J (ze J (ze J (z1 J (z1 J (z1 J (zz (Qd (zy ?_)))))))));refine z0 J (zn J (zz (Ql J (Qh (Q0 (zy (z0 J ?_)))))));refine M1 (Zi J J (htr) J J J) J J ?_;refine zx (Q8 J J J) J (ze J (ze J (z1 J (z1 J (zz (Qd (zy (z0 J (zn J ?_)))))))));refine z0 J (z5 J (z0 J (z5 J (zx (Zr J J J J) J (z5 J (z0 J (z5 J (z9f J (by assumption) (zpF J (zz ?_))))))))));refine Ql J (Qh (Q0 (Qd (zy (z0 J (zx (Zr J J J J) J (z0 J (zz (Qk ?_)))))))));refine A_lq (fun m__ st => ∃ (i : Nat),n - i = m__ ∧ (i ≤ n) ∧ st = (⟨_,[(0,S s),(1,I p),(2,I c),(3,I n),(11,.o (.c (.ref 0))),(12,I pos),(13,I k),(15,I m),(50,.o (.c (.ref 1))),(51,I (els l).length),(52,I i)],[.row 1 (els ((snocs rows l).take i ++ rows.drop i)),.row 1 (els l)]⟩ : St)) _ ⟨_,⟨0,J,Nat.zero_le _,J⟩,W_gj [0,1] J⟩ ?_
    rintro m_B _ ⟨i,hk_B,hp_B,rfl⟩
    refine zy (zx (Zv J J J J) J (zz (Qd ?_)))
    refine Xb J (fun h => ?_) (fun h => ?_)
    ·have h := of_decide_eq_true h
     have hin : i < l.length := by omega
     have hir : i < rows.length := by omega
     have hatl := Yk hin
     have hil : i < ((snocs rows l).take i ++ rows.drop i).length := by rw [mk_len hsl (by omega)]; exact hir
     have hat := Yk hil
     rw [mk_at hsl hir] at hat
     have hrr := hrk _ (List.getElem_mem hir)
     have hlr := Yl rows[i]
     have hln : (els ((snocs rows l).take i ++ rows.drop i)).length = n := by rw [Yl,mk_len hsl (by omega)]; omega
     have hat2 : ((els ((snocs rows l).take i ++ rows.drop i)).set (i : Int).toNat (splice (Enc.e rows[i]) 0 [.un]))[(i : Int).toNat]? = some (splice (Enc.e rows[i]) 0 [.un]) := by
      rw [List.getElem?_set_self]
      rw [hln]; omega
     have hln2 : ((els ((snocs rows l).take i ++ rows.drop i)).set (i : Int).toNat (splice (Enc.e rows[i]) 0 [.un])).length = n := by rw [List.length_set]; exact hln
     refine Qh (Q0 (Qd (Qk (zy (z0 J (zx (Q3 J J J J J (by omega) (by assumption)) J (zx (Q7 J J J J (by assumption) J) J (z1 J (z1 J (Qe ?_))))))))));refine Q0 (Qc (z0 J (z0 J (z0 J (z0 J (zx (Q3 J J J J J (by omega) (by omega)) J ?_))))));refine zx (q_lee (p := 0) J J J J (by assumption) J) J ?_;refine z0 J (M1 (Zd J J J J J J) J J ?_)
     refine AL.weak (Wk.split (p := 0) J hat J (by repeat' (first | exact trivial | exact ⟨J,J,J⟩ | refine And.intro ?_ ?_)) (by repeat' (first | exact trivial | exact ⟨J,J,J⟩ | refine And.intro ?_ ?_))) ?_
     refine Xy J J J J J J J J J J (by omega) (by omega) ?_;refine zx (Q3 J J J J J (by omega) (by omega)) J ?_;refine Xh J J J J J J J J J (by assumption) J J (Qe (Q1 (Q0 (Qc (z7 J (by omega) (z0 J (zz ?_)))))))
     refine ⟨_,(by omega),(fun (i : Nat) => (⟨_,[(0,S s),(1,I p),(2,I c),(3,I n),(11,.o (.c (.ref 0))),(12,I pos),(13,I k),(15,I m),(50,.o (.c (.ref 1))),(51,I (els l).length),(52,I i)],[.row 1 (els ((snocs rows l).take i ++ rows.drop i)),.row 1 (els l)]⟩ : St)) (i + 1),⟨i + 1,J,by omega,J⟩,X5 [0,1] (by decide) J (row2 (app_next hsl hir (snocs_at hir hin _))) (.c J (.c J (.c J (.c J (.c J (.c J (.c J (.c J (.c J (.c J (.c J (.nil))))))))))))⟩
    ·have h := of_decide_eq_false h
     refine Q9 (T_x (T_x (Xl (Q0 (Qc (z0 J (z0 J (z7 J (by omega) (z1 J (Qe (Q1 ?_)))))))))));refine Q0 (Qc (z0 J (z7 J (by omega) (z1 J (zz ?_)))))
     have hsn : ∀ r ∈ snocs rows l,r.length ≤ k + 1 := fun r hr => by
      obtain ⟨q,hq,rfl⟩ := List.getElem_of_mem hr
      rw [snocs_at (by omega) (by omega)]
      have := hrk _ (List.getElem_mem (show q < rows.length by omega))
      simp; omega
     have hend := mk_end (i := i) hsl (by omega)
     refine ⟨_,(by omega),(fun (k : Nat) (pos : Nat) (rows : List (List Int)) => (⟨_,[(0,S s),(1,I p),(2,I c),(3,I n),(11,.o (.c (.ref 0))),(12,I pos),(13,I k)],[.row 1 (els rows)]⟩ : St)) (k + 1) (pos + m) (snocs rows l),⟨k + 1,pos + m,snocs rows l,J,⟨by omega,by omega,hsn,by omega,by omega,by rw [hgo2,show c - (k + 1) = f by omega]⟩,J⟩,X5 [0] (by decide) J (row_eq (by rw [hend])) (.c J (.c J (.c J (.c J (.c J (.c J (.c J (.nil))))))))⟩
 ·have hb : decide ((k : Int) < c) = false := decide_eq_false hlt
  have hkk : k = c := by omega
  subst hkk
  rw [show colsGo s n (k - k) pos rows = some (rows,pos) by rw [Nat.sub_self]; rfl]
  refine Qd (zy (z0 J (z0 J (z9a J (by assumption) (zz (Ql J (Q9 (T_x (T_x ?_)))))))));refine Xl (Q0 (zy (z0 J (z0 J (z0 J (z8 J (by omega) (z1 J (z1 J (z1 J (Qe ?_))))))))));refine Q0 (Xa (F_r ?_))
  exact Xr J J J J (X3 [0] (by decide) J J J)
end
section
open Go.RowKit

def colM (rows : List (List Int)) (p : Nat) : List Int := rows.map fun r => r.getD p 0
def colsB (rows : List (List Int)) : Nat → ByteArray
 | 0 => bs []
 | p + 1 => colsB rows p ++ packText (packTrack (colM rows p))
theorem colsB_size (rows : List (List Int)) : ∀ p,(colsB rows p).size ≤ 2406 * p
 | 0 => by simp [colsB,Yb]
 | p + 1 => by
  rw [colsB,Ye]
  have h1 := colsB_size rows p
  have h2 := packText_size (packTrack (colM rows p))
  have h3 := Y8 (colM rows p)
  omega
theorem Yg (rows : List (List Int)) (p : Nat) : (colM rows p).length = rows.length := by simp [colM]
theorem colM_gd {rows : List (List Int)} (hg : Enc.gd rows) (p : Nat) : Enc.gd (colM rows p) := by
 refine ⟨by rw [Yg]; exact hg.1,fun x hx => ?_⟩
 obtain ⟨r,h1,rfl⟩ := List.mem_map.1 hx
 rw [List.getD_eq_getElem?_getD]
 cases h : r[p]? with
 | none => exact ⟨by decide,by decide⟩
 | some y => exact (hg.2 r h1).2 y (List.mem_of_getElem? h)
theorem colM_next {rows : List (List Int)} {p k : Nat} (hk : k < rows.length) (hp : p < rows[k].length) : els (colM (rows.take k) p) ++ [[.v (.int .i64 rows[k][p])]] = els (colM (rows.take (k + 1)) p) := by
 have h1 : rows[k].getD p 0 = rows[k][p] := by simp [List.getD_eq_getElem?_getD,hp]
 rw [List.take_succ_eq_append_getElem hk]
 unfold colM els
 rw [List.map_append,List.map_append,List.map_cons,List.map_nil,List.map_cons,List.map_nil,h1]
 rfl
theorem I_packColumns (rows : List (List Int)) (p : Nat) (hg : Enc.gd rows) (hL : rows.length ≤ 400) (hp4 : p ≤ 4) (hall : ∀ r ∈ rows,r.length = p) : Con Try.prog 32 [] [al rows,ai p] [] (S (colsB rows p)) := by
 have hlx := Yl rows
 refine Con.of Try.func32 J Try.ntmps32 J (fun E => ?_)
 refine zy (z1 J (zz (zy (z1 J (zz (Qd (Qd ?_)))))));refine Qc (z1 J (zz (Qk ?_)));refine A_lq (fun m st => ∃ q : Nat,q + m = p ∧ (True) ∧ st = (⟨_,[(0,L rows),(1,I p),(5,S (colsB rows q)),(6,I q)],[]⟩ : St)) (p) ⟨_,⟨0,by omega,trivial,J⟩,W_gj [] J⟩ ?_
 rintro m_A _ ⟨q,hk_A,hp_A,rfl⟩
 refine Qd (zy (z0 J (z0 J (zx (Zv J J J J) J (zz ?_)))))
 refine Xb J (fun h => ?_) (fun h => ?_)
 ·have hq : q < p := by have := of_decide_eq_true h; omega
  refine Qh (Q0 (Qd (Qk (zy (z1 J (zz (Qd (zy ?_))))))));refine z0 J (zx (Zq J J J) J (z0 J (zz (Qk ?_))))
  refine AWP.pre ?_ (W_nil 7 1 J)
  skip
  refine A_lq (fun m st => ∃ k : Nat,k + m = rows.length ∧ (True) ∧ st = (⟨_,[(0,L rows),(1,I p),(5,S (colsB rows q)),(6,I q),(7,.o (.c (.ref 0))),(15,L rows),(16,I (els rows).length),(17,I k)],[.row 1 (els (colM (rows.take k) q))]⟩ : St)) (rows.length) ⟨_,⟨0,by omega,trivial,J⟩,W_gj [0] J⟩ ?_
  rintro m_D _ ⟨k,hk_D,hp_D,rfl⟩
  refine zy (zx (Zv J J J J) J (zz (Qd ?_)))
  refine Xb J (fun h => ?_) (fun h => ?_)
  ·have h3 : k < rows.length := by have := of_decide_eq_true h; omega
   have hat := Yk h3
   have hp := hall _ (List.getElem_mem h3)
   have hat2 := Yk (show q < rows[k].length by omega)
   have hlc : (els (colM (rows.take k) q)).length = k := by rw [Yl,Yg]; simp; omega
   refine Qh (Q0 (Qd (Qk (zy (zx (Q2 J J J J (by omega) (by assumption) J) J (zx (Zu J J J J) J (z1 J (zz (Qc ?_)))))))));refine z0 J (z0 J (z0 J (zx (Q2 J J J J (by omega) (by assumption) J) J (zx (Zu J J J J) J (M1 (Zd J J J J J J) J J ?_)))));refine Xy J J J J J J J J J J (by omega) (by omega) ?_;refine z1 J (Qe (Q1 (Q0 (Qc (z7 J (by omega) (z0 J (zz ?_)))))))
   exact ⟨rows.length - (k + 1),by omega,(fun k : Nat => (⟨_,[(0,L rows),(1,I p),(5,S (colsB rows q)),(6,I q),(7,.o (.c (.ref 0))),(15,L rows),(16,I (els rows).length),(17,I k)],[.row 1 (els (colM (rows.take k) q))]⟩ : St)) (k + 1),⟨k + 1,by omega,trivial,J⟩,X5 [0] (by decide) J (row_eq (colM_next h3 (by omega)).symm) (.c J (.c J (.c J (.c J (.c J (.c J (.c J (.c J (.nil)))))))))⟩
  ·have h3 : ¬ ((k : Int) < (els rows).length) := of_decide_eq_false h
   have hk : rows.take k = rows := List.take_of_length_le (by omega)
   have hs1 := colsB_size rows q
   have hs2 := Y8 (colM rows q)
   have hs3 := packText_size (packTrack (colM rows q))
   rw [hk]
   refine Q9 (T_x (T_x (Xl (Q0 (Qc (z0 J (z0 J ?_)))))));refine zx (Qj J J (I_PackTrack (colM rows q) (colM_gd hg q)) J) J ?_;refine zx (Qj J J (I_PackText (packTrack (colM rows q)) (by omega)) J) J ?_;refine zx (q_cat J J J J (by omega)) J (z1 J (Qe (Q1 (Q0 (Qc (z0 J (z7 J (by omega) (z1 J (zz ?_)))))))))
   exact ⟨p - (q + 1),by omega,_,⟨q + 1,by omega,trivial,J⟩,W_gj [] J⟩
 ·have hq : q = p := by have := of_decide_eq_false h; omega
  refine Q9 (T_x (T_x (Xl (Q0 (zy (z0 J (z1 J (zz (Xa ?_)))))))));refine F_r ?_
  exact Xp J J (X3 [] (by decide) J J (S_eq (by rw [hq])))

theorem app_nil (s : ByteArray) : s ++ bs [] = s := by
 apply ByteArray.ext
 rw [ByteArray.data_append]
 simp [bs]
def encodeStream (first : Int) (rows : List (List Int)) : ByteArray :=
 if inR first 0 400 = true ∧ inR rows.length 1 20 = true ∧ inR (rows.headD []).length 1 4 = true ∧ (rows.all fun r => rowOk r (rows.headD []).length) = true then
  sealText (packInts [first,(rows.length : Int),((rows.headD []).length : Int)] ++ colsB rows (rows.headD []).length) else bs []
theorem head_at {rows : List (List Int)} (h : 0 < rows.length) : rows.headD [] = rows[0] := by
 cases rows with
 | nil => simp at h
 | cons r rs => rfl
theorem rows_len {rows : List (List Int)} {n : Nat} (h : (rows.all fun r => rowOk r n) = true) : ∀ r ∈ rows,r.length = n := fun r hr => by
 have := List.all_eq_true.1 h r hr
 simp [rowOk] at this
 omega

theorem I_EncodeStream (first : Int) (rows : List (List Int)) (hf : I64 first) (hg : Enc.gd rows) : Con Try.prog 11 [] [ai first,al rows] [] (S (encodeStream first rows)) := by
 have hlx := Yl rows
 have hg1 := hg.1
 have c1 := Xv first 0 400
 have c2 := Xv (els rows).length 1 20
 by_cases hf1 : inR first 0 400 = true
 case neg =>
  have hf1 : inR first 0 400 = false := by simpa using hf1
  rw [hf1] at c1
  refine Con.of Try.func11 J Try.ntmps11 J (fun E => ?_)
  refine zy (z1 J (zz (Qd (zy (z0 J ?_)))));refine zx (Qj J J (c1) J) J ?_;refine zn J (z0 J (z6 J (z6 J (z6 J (z6 J (zpT J (z0 J (z6 J (z6 J (z6 J (z6 J ?_)))))))))));refine z6 J (z6 J (zpT J (zz (Qm J (zy (z1 J (zz (Xa ?_))))))));refine T_r (F_r ?_)
  exact Xp J J (X3 [] (by decide) J J (S_eq (by rw [encodeStream,if_neg (by simp [hf1])])))
 rw [hf1] at c1
 by_cases hf2 : inR (els rows).length 1 20 = true
 case neg =>
  have hf2 : inR (els rows).length 1 20 = false := by simpa using hf2
  rw [hf2] at c2
  rw [hlx] at hf2
  refine Con.of Try.func11 J Try.ntmps11 J (fun E => ?_)
  refine zy (z1 J (zz (Qd (zy (z0 J ?_)))));refine zx (Qj J J (c1) J) J ?_;refine zn J (z0 J (z5 J (z0 J (z5 J (zx (Zq J J J) J (z5 J ?_))))));refine zx (Qj J J (c2) J) J ?_;refine z5 J (zn J (zpF J (z0 J (z6 J (z6 J (z6 J (z6 J (z6 J (z6 J (zpT J (Qe ?_)))))))))));refine Q0 (Qm J (zy (z1 J (zz (Xa (T_r (F_r ?_)))))))
  exact Xp J J (X3 [] (by decide) J J (S_eq (by rw [encodeStream,if_neg (by simp [hf2])])))
 rw [hf2] at c2
 rw [hlx] at hf2
 have h20 := Yy.1 hf2
 have h0 : 0 < rows.length := by omega
 have hat0 : (els rows)[(0 : Int).toNat]? = some (Enc.e rows[0]) := Yk h0
 have hh := head_at h0
 have hg0 := hg.2 _ (List.getElem_mem h0)
 have hg01 := hg0.1
 have hl0 := Yl rows[0]
 have c3 := Xv (els rows[0]).length 1 4
 by_cases hf3 : inR (els rows[0]).length 1 4 = true
 case neg =>
  have hf3 : inR (els rows[0]).length 1 4 = false := by simpa using hf3
  rw [hf3] at c3
  rw [hl0] at hf3
  refine Con.of Try.func11 J Try.ntmps11 J (fun E => ?_)
  refine zy (z1 J (zz (Qd (zy (z0 J ?_)))));refine zx (Qj J J (c1) J) J ?_;refine zn J (z0 J (z5 J (z0 J (z5 J (zx (Zq J J J) J (z5 J ?_))))));refine zx (Qj J J (c2) J) J ?_;refine z5 J (zn J (zpF J (z0 J (z5 J (z0 J (z5 J (zx (Q2 J J J J (by omega) (by assumption) J) J (z5 J (zx (Zu J J J J) J (z5 J (zx (Zq J J J) J ?_)))))))))));refine z5 J ?_;refine zx (Qj J J (c3) J) J ?_;refine z5 J (zn J (zpF J (zz (Qm J (zy (z1 J (zz (Xa ?_))))))));refine T_r (F_r ?_)
  exact Xp J J (X3 [] (by decide) J J (S_eq (by rw [encodeStream,hh,if_neg (by simp [hf3])])))
 rw [hf3] at c3
 rw [hl0] at hf3
 have h4 := Yy.1 hf3
 refine Con.of Try.func11 J Try.ntmps11 J (fun E => ?_)
 refine zy (z1 J (zz (Qd (zy (z0 J ?_)))));refine zx (Qj J J (c1) J) J ?_;refine zn J (z0 J (z5 J (z0 J (z5 J (zx (Zq J J J) J (z5 J ?_))))));refine zx (Qj J J (c2) J) J ?_;refine z5 J (zn J (zpF J (z0 J (z5 J (z0 J (z5 J (zx (Q2 J J J J (by omega) (by assumption) J) J (z5 J (zx (Zu J J J J) J (z5 J (zx (Zq J J J) J ?_)))))))))));refine z5 J ?_;refine zx (Qj J J (c3) J) J ?_;refine z5 J (zn J (zpF J (zz (Ql J (Qh (Q0 (Qd (zy (z0 J ?_)))))))));refine zx (Zq J J J) J (z0 J (zz (Qk ?_)));refine A_lq (fun m st => ∃ k : Nat,k + m = rows.length ∧ ((rows.take k).all (fun r => rowOk r rows[0].length) = true) ∧ st = (⟨_,[(0,I first),(1,L rows),(25,L rows),(26,I (els rows).length),(27,I k)],[]⟩ : St)) (rows.length) ⟨_,⟨0,by omega,by simp,J⟩,W_gj [] J⟩ ?_
 rintro m_A _ ⟨k,hk_A,hp_A,rfl⟩
 refine zy (zx (Zv J J J J) J (zz (Qd ?_)))
 refine Xb J (fun h => ?_) (fun h => ?_)
 ·have h3 : k < rows.length := by have := of_decide_eq_true h; omega
  have hat := Yk h3
  have hc := I_rowOk rows[k] (els rows[0]).length (hg.2 _ (List.getElem_mem h3))
  rw [show rowOk rows[k] ((els rows[0]).length : Int) = rowOk rows[k] (rows[0].length : Int) by rw [hl0]] at hc
  refine Qh (Q0 (Qd (Qk (zy (zx (Q2 J J J J (by omega) (by assumption) J) J (zx (Zu J J J J) J (z1 J (zz (Qd ?_)))))))));refine Qc (z0 J (z0 J (zx (Q2 J J J J (by omega) (by assumption) J) J (zx (Zu J J J J) J (zx (Zq J J J) J ?_)))));refine zx (Qj J J (hc) J) J ?_;refine zn J (zz ?_)
  refine Xb J (fun h5 => ?_) (fun h5 => ?_)
  ·have h5 : rowOk rows[k] rows[0].length = false := by simpa using h5
   refine zy (z1 J (zz (Xa (B_r (T_r (T_r (B_r (T_r (F_r ?_)))))))))
   exact Xp J J (X3 [] (by decide) J J (S_eq (by rw [encodeStream,hh,if_neg (by rw [all_no h3 h5]; simp)])))
  ·have h5 : rowOk rows[k] rows[0].length = true := by simpa using h5
   refine Qh (Q1 (Q0 (Qc (z7 J (by omega) (z0 J (zz ?_))))))
   exact ⟨rows.length - (k + 1),by omega,_,⟨k + 1,by omega,all_next hp_A h3 h5,J⟩,W_gj [] J⟩
 ·have h3 : ¬ ((k : Int) < (els rows).length) := of_decide_eq_false h
  have hall := all_end hp_A (by omega)
  have hrl := rows_len hall
  have hs1 := packInts_size [first,((els rows).length : Int),((els rows[0]).length : Int)]
  have hs2 := colsB_size rows (els rows[0]).length
  simp only [List.length_cons,List.length_nil] at hs1
  have hgi : Enc.gd [first,((els rows).length : Int),((els rows[0]).length : Int)] := ⟨by simp,fun x hx => by
   simp only [List.mem_cons,List.not_mem_nil,or_false] at hx
   rcases hx with rfl | rfl | rfl
   ·exact hf
   ·exact ⟨by omega,by omega⟩
   ·exact ⟨by omega,by omega⟩⟩
  have hcc := I_packColumns rows (els rows[0]).length hg (by omega) (by omega) (by rw [hl0]; exact hrl)
  have hss : (packInts [first,((els rows).length : Int),((els rows[0]).length : Int)] ++ colsB rows (els rows[0]).length).size ≤ 1099511627776 := by rw [Ye]; omega
  refine Q9 (T_x (T_x (Xl (Q0 (zy (z0 J (z0 J (zx (Zq J J J) J (z0 J (zx (Q2 J J J J (by omega) (by assumption) J) J ?_))))))))));refine zx (Zu J J J J) J (zx (Zq J J J) J (M1 (Zd J J J J J J) J J ?_));refine zx (Qj J J (I_PackInts [first,((els rows).length : Int),((els rows[0]).length : Int)] hgi (by simp)) J) J ?_;refine z1 J (zz (zy (z0 J (z0 J (z0 J (zx (Q2 J J J J (by omega) (by assumption) J) J (zx (Zu J J J J) J (zx (Zq J J J) J ?_))))))));refine zx (Qj J J (hcc) J) J ?_;refine zx (q_cat J J J J (by omega)) J ?_;refine zx (Qj J J (I_SealText _ hss) J) J ?_;refine z1 J (zz (Xa (F_r ?_)))
  exact Xp J J (X3 [] (by decide) J J (S_eq (by rw [encodeStream,hh,if_pos ⟨hf1,hf2,hf3,hall⟩,hlx,hl0])))
end
section
open Go.RowKit

/-! ### Numbers -/
theorem bytesL_len {s : ByteArray} {q k : Nat} (h : q + k ≤ s.size) : (bytesL s q k).length = k := by
 have : s.data.toList.length = s.size := by simp
 simp [bytesL]; omega
theorem dvGo_canon (s : ByteArray) (q : Nat) : ∀ (f k : Nat) (m : Int) (j : Nat),q + k ≤ s.size → (∀ a ∈ bytesL s q k,128 ≤ a.toNat) → dvGo s q (dval (bytesL s q k) : Nat) k f = some (m,j) → encVar m = bytesL s q j := by
 intro f
 induction f with
 | zero => intro k m j _ _ h; simp [dvGo] at h
 | succ f ih =>
  intro k m j hqk hall h
  have hlen := bytesL_len hqk
  rw [dvGo] at h
  split at h
  ·rename_i hlt
   obtain ⟨b,hb,hcb⟩ := bytesL_succ hlt
   have hval : (dval (bytesL s q k) : Int) + byteAt s (q + k) % 128 * 2 ^ (7 * k) = ((dval (bytesL s q (k + 1)) : Nat) : Int) := by
    rw [hb,dval_snoc,hlen,hcb]
    push_cast
    rfl
   rw [hval] at h
   split at h
   ·rename_i h128
    refine ih (k + 1) m j (by omega) (fun a ha => ?_) h
    rw [hb] at ha
    rcases List.mem_append.1 ha with ha | ha
    ·exact hall a ha
    ·simp only [List.mem_singleton] at ha
     rw [ha]; omega
   ·rename_i h128
    split at h
    ·cases h
    ·rename_i hbad
     simp only [Option.some.injEq,Prod.mk.injEq] at h
     obtain ⟨rfl,rfl⟩ := h
     have hcan := canon (b := b) (by omega) (bytesL s q k) hall
     have hnil : bytesL s q k = [] ↔ k = 0 := by rw [← List.length_eq_zero_iff,hlen]
     rw [← hb,hnil] at hcan
     rw [encVar,if_pos (by omega),show ((dval (bytesL s q (k + 1)) : Nat) : Int).toNat = dval (bytesL s q (k + 1)) by omega]
     exact hcan.2 (by omega)
  ·cases h
theorem decVar_canon {s : ByteArray} {p m : Int} {j : Nat} (h : decVar s p = some (m,j)) : encVar m = bytesL s p.toNat j := by
 unfold decVar at h
 split at h
 ·exact dvGo_canon s p.toNat 6 0 m j (by omega) (by simp [bytesL]) (by simpa [bytesL,dval] using h)
 ·cases h
/-! ### Lists -/
theorem bytesL_app {s : ByteArray} {q j k : Nat} : bytesL s q j ++ bytesL s (q + j) k = bytesL s q (j + k) := by
 unfold bytesL
 rw [← List.drop_drop,List.take_add]
/-! ### Texts -/
theorem unpackText_canon {s t : ByteArray} {p : Int} {j : Nat} (h : unpackText s p = some (t,j)) : packText t = bs (bytesL s p.toNat j) := by
 unfold unpackText at h
 split at h
 ·cases h
 ·rename_i n k hd
  have hm := Yi hd
  have hcn := decVar_canon hd
  split at h
  ·cases h
  ·simp only [Option.some.injEq,Prod.mk.injEq] at h
   obtain ⟨rfl,rfl⟩ := h
   have hsz : (s.extract (p + k).toNat (p + k + n).toNat).size = n.toNat := by
    rw [ByteArray.size_extract]; omega
   rw [packText,hsz,show ((n.toNat : Nat) : Int) = n by omega,hcn,show (p + k + n).toNat = (p + k).toNat + n.toNat by omega,extract_bytes,bs_app,show (p + k).toNat = p.toNat + k by omega,bytesL_app]
theorem unpackTrack_ok {t : ByteArray} {l : List Int} (h : unpackTrack t = some l) (hl : 0 < l.length) : inOk l = true := by
 obtain ⟨h1,h2,_⟩ := Kb h
 cases ho : inOk l with
 | true => rfl
 | false =>
  rw [packTrack,if_neg (by rw [ho]; simp)] at h1
  subst h1
  rw [show unpackTrack (bs []) = some [] from unpackTrack_nil] at h
  simp only [Option.some.injEq] at h
  rw [← h] at hl
  simp at hl
/-! ### Columns -/
theorem colM_snocs {rows : List (List Int)} {l : List Int} {k : Nat} (hl : l.length = rows.length) (hk : ∀ r ∈ rows,r.length = k) : colM (snocs rows l) k = l ∧ ∀ i,i < k → colM (snocs rows l) i = colM rows i := by
 have hlen := snocs_len hl
 refine ⟨List.ext_getElem (by rw [Yg,hlen,hl]) fun q h1 h2 => ?_,fun i hi => List.ext_getElem (by rw [Yg,Yg,hlen]) fun q h1 h2 => ?_⟩
 ·have h3 : q < rows.length := by omega
  simp only [colM,List.getElem_map]
  rw [snocs_at h3 h2]
  have := hk _ (List.getElem_mem h3)
  simp [List.getD_eq_getElem?_getD,this]
 ·rw [Yg] at h2
  simp only [colM,List.getElem_map]
  rw [snocs_at h2 (by omega)]
  have := hk _ (List.getElem_mem h2)
  simp [List.getD_eq_getElem?_getD,List.getElem?_append_left,this,hi]
theorem snocs_lens {rows : List (List Int)} {l : List Int} {k : Nat} (hl : l.length = rows.length) (hk : ∀ r ∈ rows,r.length = k) : ∀ r ∈ snocs rows l,r.length = k + 1 := fun r hr => by
 obtain ⟨q,hq,rfl⟩ := List.getElem_of_mem hr
 have h3 : q < rows.length := by rw [snocs_len hl] at hq; exact hq
 rw [snocs_at h3 (by omega)]
 have := hk _ (List.getElem_mem h3)
 simp [this]
theorem colsB_eq {a b : List (List Int)} : ∀ k,(∀ i,i < k → colM a i = colM b i) → colsB a k = colsB b k
 | 0,_ => rfl
 | k + 1,h => by rw [colsB,colsB,h k (by omega),colsB_eq k fun i hi => h i (by omega)]
theorem colsGo_canon (s : ByteArray) (n : Nat) (hn : 0 < n) : ∀ (c pos : Nat) (rows : List (List Int)) (k : Nat) (R : List (List Int)) (e : Nat),pos ≤ s.size → rows.length = n → (∀ r ∈ rows,r.length = k) → (∀ i,i < k → inOk (colM rows i) = true) → colsGo s n c pos rows = some (R,e) →
  R.length = n ∧ pos ≤ e ∧ e ≤ s.size ∧ (∀ r ∈ R,r.length = k + c) ∧ (∀ i,i < k + c → inOk (colM R i) = true) ∧ colsB R (k + c) = colsB rows k ++ bs (bytesL s pos (e - pos)) := by
 intro c
 induction c with
 | zero =>
  intro pos rows k R e hp h1 h2 h3 h
  simp only [colsGo,Option.some.injEq,Prod.mk.injEq] at h
  obtain ⟨rfl,rfl⟩ := h
  exact ⟨h1,Nat.le_refl _,hp,h2,h3,by rw [Nat.sub_self,show bytesL s pos 0 = [] by simp [bytesL],app_nil]; rfl⟩
 | succ c ih =>
  intro pos rows k R e hp h1 h2 h3 h
  rw [colsGo] at h
  split at h
  ·cases h
  ·rename_i t m hv
   have hm := unpackText_some hv
   have hcn := unpackText_canon hv
   split at h
   ·cases h
   ·rename_i l hw
    split at h
    ·rename_i hl
     have hl' : l.length = rows.length := by omega
     obtain ⟨c1,c2⟩ := colM_snocs hl' h2
     have hin := unpackTrack_ok hw (by omega)
     obtain ⟨g1,g2,g3,g4,g5,g6⟩ := ih (pos + m) (snocs rows l) (k + 1) R e (by omega) (by rw [snocs_len hl']; exact h1) (snocs_lens hl' h2) (fun i hi => by
      by_cases hik : i = k
      ·rw [hik,c1]; exact hin
      ·rw [c2 i (by omega)]; exact h3 i (by omega)) h
     refine ⟨g1,by omega,g3,by rw [show k + (c + 1) = k + 1 + c by omega]; exact g4,by rw [show k + (c + 1) = k + 1 + c by omega]; exact g5,?_⟩
     rw [show k + (c + 1) = k + 1 + c by omega,g6,colsB,c1,colsB_eq k c2,(Kb hw).1,hcn,ByteArray.append_assoc,show (pos : Int).toNat = pos by omega,bs_app (bytesL s pos m),bytesL_app,show m + (e - (pos + m)) = e - pos by omega]
    ·cases h
/-! ### DecodeStream -/
def dsI (t : ByteArray) : Option (Int × List (List Int)) := match openText t with
 | none => none
 | some b => match unpackInts b 0 with
  | some ([h0,h1,h2],pos) => if (0 ≤ h0 ∧ h0 ≤ 400) ∧ (1 ≤ h1 ∧ h1 ≤ 20) ∧ (1 ≤ h2 ∧ h2 ≤ 4) then (match colsGo b h1.toNat h2.toNat pos (List.replicate h1.toNat []) with
   | none => none
   | some (rows,e) => if e = b.size then some (h0,rows) else none) else none
  | _ => none
end
section
open Go.RowKit
end
section
open Go.RowKit

inductive Den1 : V1 → V1 → Prop
 | same (x : V1) : Den1 x x
 | nil (qs : List Nat) (k : Nat) : Den1 (.rd qs (.v (.slice none 0 0))) (.rd qs (.sl k []))
inductive DenL : List V1 → List V1 → Prop
 | nil : DenL [] []
 | cons {x y : V1} {xs ys : List V1} (h : Den1 x y) (t : DenL xs ys) : DenL (x :: xs) (y :: ys)
inductive Den2 : V2 → V2 → Prop
 | same (x : V2) : Den2 x x
 | ag {xs ys : List V1} (h : DenL xs ys) : Den2 (.ag xs) (.ag ys)
inductive DenA : List V2 → List V2 → Prop
 | nil : DenA [] []
 | cons {x y : V2} {xs ys : List V2} (h : Den2 x y) (t : DenA xs ys) : DenA (x :: xs) (y :: ys)
section
variable {w : World} {H : Hs} {F : Nat → Prop}
theorem Den1.r {x y : V1} (h : Den1 x y) {v : Value} (hx : R1 w H F x v) : R1 w H F y v := by
 cases h with
 | same => exact hx
 | nil qs k => obtain ⟨rfl,_⟩ := RO.plain hx; exact .nil _ _ _ (by simp)
theorem DenL.r : ∀ {xs ys : List V1},DenL xs ys → xs.length = ys.length ∧ ∀ (i : Nat) (y : V1),ys[i]? = some y → ∃ x,xs[i]? = some x ∧ Den1 x y
 | _,_,.nil => ⟨rfl,fun i y h => by simp at h⟩
 | _,_,.cons (x := x) h t => by
  obtain ⟨h1,h2⟩ := DenL.r t
  refine ⟨by simp [h1],fun i y hy => ?_⟩
  cases i with
  | zero => simp at hy; subst hy; exact ⟨x,rfl,h⟩
  | succ i => simpa using h2 i y (by simpa using hy)
theorem Den2.r {x y : V2} (h : Den2 x y) {v : Value} (hx : R2 w H F x v) : R2 w H F y v := by
 cases h with
 | same => exact hx
 | ag h =>
  obtain ⟨h1,h2⟩ := h.r
  obtain ⟨us,e,hl,hr⟩ := hx
  refine ⟨us,e,by omega,fun i y u h3 h4 => ?_⟩
  obtain ⟨x,h5,h6⟩ := h2 i y h3
  exact h6.r (hr i x u h5 h4)
theorem DenA.r : ∀ {xs ys : List V2},DenA xs ys → xs.length = ys.length ∧ ∀ (i : Nat) (y : V2),ys[i]? = some y → ∃ x,xs[i]? = some x ∧ Den2 x y
 | _,_,.nil => ⟨rfl,fun i y h => by simp at h⟩
 | _,_,.cons (x := x) h t => by
  obtain ⟨h1,h2⟩ := DenA.r t
  refine ⟨by simp [h1],fun i y hy => ?_⟩
  cases i with
  | zero => simp at hy; subst hy; exact ⟨x,rfl,h⟩
  | succ i => simpa using h2 i y (by simpa using hy)
end
def nilV : V1 := .rd [] (.v (.slice none 0 0))
theorem I_copyLevel (x : TLevel) (hg : Enc.gd x) (hL : x.Rows.length ≤ 1048576) : Con Try.prog 45 [] [ag x] [.row 1 (els x.Rows)] (.o (.ag [.ref 0])) := by
 have hlx := Yl x.Rows
 have hg1 := hg.1
 refine Con.of Try.func45 J Try.ntmps45 J (fun E => ?_)
 refine zy (M1 (Qq J J J J) J J (M1 (Qx J J J) J J (zz (zy (z2 J J J (z3 J ?_))))));refine M_appnil J J J J J J J J (Ym _) (els_k _) (by omega) (by omega) ?_;refine zx (Zf J J J J J) J ?_;refine Qy J J J J J J J J J (zz (Xa (F_r ?_)))
 exact Xm J J J J (X3 [2] (by decide) J J J)
theorem S_copyLevel (x : TLevel) (hg : Enc.gd x) (hL : x.Rows.length ≤ 1048576) : Con Try.prog 41 [] [ag x] [.row 1 (els x.Rows)] (.o (.ag [.ref 0])) := by
 have hlx := Yl x.Rows
 have hg1 := hg.1
 have h00 : ([] : List (List T)).length = 0 := rfl
 refine Con.of Try.func41 J Try.ntmps41 J (fun E => ?_)
 refine zy (M1 (Qq J J J J) J J (M1 (Qx J J J) J J (zz (zy (M1 (Ze J J J) J J (z2 J J J (z3 J ?_)))))));refine M_app J J J J J J J J J J (Ym _) (els_k _) (by omega) (by omega) ?_;refine zx (Zf J J J J J) J ?_;refine Qy J J J J J J J J J (zz (Xa (F_r ?_)))
 exact Xm J J J J (X3 [2] (by decide) J J J)
end
section
open Go.RowKit

theorem Clone_ints (xs : List Int) (hne : 0 < xs.length) (hL : xs.length ≤ 1099511627776) : Con Try.prog 46 [] [al xs] [.row 1 (els xs)] (.o (.c (.ref 0))) := by
 have hlx := Yl xs
 have hlp : 0 < (els xs).length := by omega
 refine Con.of Try.func46 J Try.ntmps46 J (fun E => ?_)
 have h00 : ([] : List (List T)).length = 0 := rfl
 refine zy (z1 J (zz (Qd (zy (z0 J (zx (q_slnil J J J J hlp) J (zz ?_)))))));refine Ql J (Qh (Q0 (zy (M1 (Ze J J J) J J (z0 J ?_)))));refine M_app J J J J J J J J J J (Ym _) (els_k _) (by omega) (by omega) ?_;refine z1 J (zz (Xa (F_r ?_)))
 exact Xp J J (X3 [0] (by decide) J J J)
@[reducible] def jv (n : Int) : V1 := .rd [] (.v (.int .i64 n))
def bodyOf (l : List Int) : TBody := ⟨l.getD 0 0,l.getD 1 0,l.getD 2 0,l.getD 3 0,l.getD 4 0,l.getD 5 0,l.getD 6 0,l.getD 7 0,l.getD 8 0⟩
def bodiesOf (l : List Int) (n : Nat) : List TBody := (List.range n).map fun k => bodyOf (l.drop (9 * k))
def zeroWorld : TWorld := ⟨⟨[]⟩,0,0,[],[]⟩
def worldOf (lv : TLevel) (l : List Int) : TWorld := ⟨lv,l.getD 0 0,l.getD 1 0,(l.drop 3).take (l.getD 2 0).toNat,bodiesOf (l.drop (3 + (l.getD 2 0).toNat)) ((l.length - 3 - (l.getD 2 0).toNat) / 9)⟩
def formOk (l : List Int) : Prop := 3 ≤ l.length ∧ (1 ≤ l.getD 2 0 ∧ l.getD 2 0 ≤ 4) ∧ 3 + l.getD 2 0 ≤ l.length ∧ ((l.length : Int) - 3 - l.getD 2 0) % 9 = 0
noncomputable def readWorld (lv : TLevel) (s : ByteArray) : Option TWorld := match unpackInts s 0 with
 | none => none
 | some (l,pos) => @ite _ (pos = s.size ∧ formOk l ∧ worldOk (worldOf lv l) = true) (Classical.propDecidable _) (some (worldOf lv l)) none
theorem readWorld_none {lv : TLevel} {s : ByteArray} (h : unpackInts s 0 = none) : readWorld lv s = none := by rw [readWorld,h]
theorem readWorld_yes {lv : TLevel} {s : ByteArray} {l : List Int} {pos : Nat} (h : unpackInts s 0 = some (l,pos)) (hp : pos = s.size ∧ formOk l ∧ worldOk (worldOf lv l) = true) : readWorld lv s = some (worldOf lv l) := by
 rw [readWorld,h]
 exact @if_pos _ (Classical.propDecidable _) hp _ _ _
theorem Z1 {lv : TLevel} {s : ByteArray} {l : List Int} {pos : Nat} (h : unpackInts s 0 = some (l,pos)) (hp : ¬ (pos = s.size ∧ formOk l ∧ worldOk (worldOf lv l) = true)) : readWorld lv s = none := by
 rw [readWorld,h]
 exact @if_neg _ (Classical.propDecidable _) hp _ _ _
@[reducible] def rwW (r : Option TWorld) : TWorld := r.getD zeroWorld
@[reducible] def rwB (r : Option TWorld) : Bool := r.isSome
theorem bodiesOf_len (l : List Int) (n : Nat) : (bodiesOf l n).length = n := by simp [bodiesOf]
theorem bodiesOf_snoc (l : List Int) (n : Nat) : bodiesOf l (n + 1) = bodiesOf l n ++ [bodyOf (l.drop (9 * n))] := by
 rw [bodiesOf,List.range_succ,List.map_append]
 rfl
theorem bodyOf_gd {l : List Int} (h : ∀ x ∈ l,I64 x) : Enc.gd (bodyOf l) := by
 have hd : ∀ i,I64 (l.getD i 0) := fun i => by
  rw [List.getD_eq_getElem?_getD]
  cases hi : l[i]? with
  | none => exact ⟨by decide,by decide⟩
  | some x => exact h x (List.mem_of_getElem? hi)
 exact ⟨hd 0,hd 1,hd 2,hd 3,hd 4,hd 5,hd 6,hd 7,hd 8⟩
theorem worldOf_gd {lv : TLevel} {l : List Int} (hlv : Enc.gd lv) (h : ∀ x ∈ l,I64 x) (hL : l.length ≤ 1099511627776) : Enc.gd (worldOf lv l) := by
 have hd : ∀ i,I64 (l.getD i 0) := fun i => by
  rw [List.getD_eq_getElem?_getD]
  cases hi : l[i]? with
  | none => exact ⟨by decide,by decide⟩
  | some x => exact h x (List.mem_of_getElem? hi)
 refine ⟨hlv,hd 0,hd 1,⟨?_,fun x hx => h x (List.mem_of_mem_drop (List.mem_of_mem_take hx))⟩,⟨?_,fun b hb => ?_⟩⟩
 ·show ((l.drop 3).take (l.getD 2 0).toNat).length ≤ _
  simp; omega
 ·show (bodiesOf _ _).length ≤ _
  rw [bodiesOf_len]
  have : (l.length - 3 - (l.getD 2 0).toNat) / 9 ≤ l.length := by omega
  omega
 ·obtain ⟨k,hk,rfl⟩ := List.mem_map.1 (show b ∈ (List.range _).map _ from hb)
  exact bodyOf_gd fun x hx => h x (List.mem_of_mem_drop (List.mem_of_mem_drop hx))
theorem row7 {a b c d e f : Ob} {k : Nat} {x y : List (List T)} (h : x = y) : [a,b,c,d,e,f,Ob.row k x] = [a,b,c,d,e,f,Ob.row k y] := by rw [h]
theorem rdE {ps : List Nat} {k : Nat} {a b : List (List T)} (h : a = b) : V.o (.c (.rd ps (.sl k a))) = V.o (.c (.rd ps (.sl k b))) := by rw [h]
theorem Yo {α : Type} [Enc α] (xs : List α) (n : Nat) : els (xs.take n) = (els xs).take n := List.map_take
theorem els_dropE {α : Type} [Enc α] (xs : List α) (n : Nat) : els (xs.drop n) = (els xs).drop n := List.map_drop
theorem Yf {rest : List Int} {m : Nat} (h : 9 * m + 9 ≤ rest.length) {j : Nat} (hj : j < 9) (a b : Int) (ha : a = 9 * m + 9) (hb : b = 9 * m) (i : Int) (hi : i = j) : (((els rest).take a.toNat).drop b.toNat)[i.toNat]? = some [.v (.int .i64 ((rest.drop (9 * m)).getD j 0))] := by
 subst ha hb hi
 rw [show ((9 : Int) * (m : Int) + 9).toNat = 9 * m + 9 by omega,show ((9 : Int) * (m : Int)).toNat = 9 * m by omega,Int.toNat_natCast,List.getElem?_drop,List.getElem?_take,if_pos (by omega),List.getD_eq_getElem?_getD,List.getElem?_drop,els,List.getElem?_map,List.getElem?_eq_getElem (by omega)]
 rfl
theorem els_getD {l : List Int} {j : Nat} (h : j < l.length) (i : Int) (hi : i = j) : (els l)[i.toNat]? = some [.v (.int .i64 (l.getD j 0))] := by
 subst hi
 rw [Int.toNat_natCast,List.getD_eq_getElem?_getD,els,List.getElem?_map,List.getElem?_eq_getElem h]
 rfl
end
section
open Go.RowKit

theorem byte_drop {s : ByteArray} {q : Nat} {b : UInt8} {r : List UInt8} (h : s.data.toList.drop q = b :: r) : q < s.size ∧ byteAt s q = (b.toNat : Int) := by
 have hl : q < s.data.toList.length := by
  rcases Nat.lt_or_ge q s.data.toList.length with h1 | h1
  ·exact h1
  ·rw [List.drop_eq_nil_of_le h1] at h; cases h
 have hs : s.data.toList.length = s.size := by simp
 obtain ⟨b',h1,h2⟩ := byteAt_list (s := s) (i := q) (by omega)
 rw [List.drop_eq_getElem_cons hl] at h
 rw [List.getElem?_eq_getElem hl] at h1
 simp only [Option.some.injEq] at h1
 simp only [List.cons.injEq] at h
 exact ⟨by omega,by rw [h2,← h1,h.1]⟩
theorem dvGo_enc (s : ByteArray) (p : Nat) (r : List UInt8) : ∀ (f N k : Nat) (acc : Int),0 ≤ acc → s.data.toList.drop (p + k) = varN N ++ r → acc + N * 2 ^ (7 * k) ≤ 1099511627775 → (0 < k → N ≠ 0) → (varN N).length ≤ f → dvGo s p acc k f = some (acc + N * 2 ^ (7 * k),k + (varN N).length) := by
 intro f
 induction f with
 | zero => intro N k acc _ _ _ _ h; have := (varN_len N).1; omega
 | succ f ih =>
  intro N k acc h0 hd hb hk hf
  rw [dvGo]
  by_cases hN : N < 128
  ·rw [Kc hN] at hd ⊢
   obtain ⟨h1,h2⟩ := byte_drop hd
   have e : ((UInt8.ofNat N).toNat : Int) = N := by rw [UInt8.toNat_ofNat']; omega
   rw [e] at h2
   rw [if_pos h1,h2,if_neg (by omega),show (N : Int) % 128 = N by omega,if_neg (by omega)]
   rfl
  ·rw [varN_big hN] at hd hf ⊢
   have e : ((UInt8.ofNat (N % 128 + 128)).toNat : Int) = N % 128 + 128 := by rw [UInt8.toNat_ofNat']; omega
   obtain ⟨h1,h2⟩ := byte_drop hd
   rw [e] at h2
   have hd2 : s.data.toList.drop (p + (k + 1)) = varN (N / 128) ++ r := by
    have := congrArg (List.drop 1) hd
    rw [List.drop_drop] at this
    rw [show p + (k + 1) = p + k + 1 by omega,this]
    rfl
   have hv : acc + (N : Int) % 128 * 2 ^ (7 * k) + ((N / 128 : Nat) : Int) * 2 ^ (7 * (k + 1)) = acc + N * 2 ^ (7 * k) := by
    have e2 : (2 : Int) ^ (7 * (k + 1)) = 128 * 2 ^ (7 * k) := by rw [show 7 * (k + 1) = 7 * k + 7 by omega,Int.pow_add]; omega
    have e3 : (N : Int) = 128 * ((N / 128 : Nat) : Int) + (N : Int) % 128 := by omega
    rw [e2]
    generalize (2 : Int) ^ (7 * k) = M
    generalize ((N / 128 : Nat) : Int) = q at e3 ⊢
    generalize (N : Int) % 128 = d at e3 ⊢
    rw [e3]
    grind
   have hM : (0 : Int) ≤ (N : Int) % 128 * 2 ^ (7 * k) := Int.mul_nonneg (by omega) (Int.le_of_lt (Int.pow_pos (by omega)))
   have hi := ih (N / 128) (k + 1) (acc + (N : Int) % 128 * 2 ^ (7 * k)) (by omega) hd2 (by omega) (fun _ => by omega) (by simp at hf; omega)
   rw [hv] at hi
   rw [if_pos h1,h2,if_pos (by omega),show ((N : Int) % 128 + 128) % 128 = (N : Int) % 128 by omega,hi]
   simp only [List.length_cons]
   congr 2
   omega
theorem Yh {s : ByteArray} {p : Nat} {n : Int} {r : List UInt8} (h0 : 0 ≤ n) (h1 : n ≤ 1099511627775) (hs : s.data.toList.drop p = encVar n ++ r) : decVar s p = some (n,(encVar n).length) := by
 have hl := Yp n
 rw [encVar,if_pos ⟨h0,h1⟩] at hs hl ⊢
 have hne := (varN_len n.toNat).1
 have hp : p < s.size := by
  have : (s.data.toList.drop p).length = (varN n.toNat ++ r).length := by rw [hs]
  have e : s.data.toList.length = s.size := by simp
  simp only [List.length_drop,List.length_append] at this
  omega
 rw [decVar,if_pos (by omega)]
 have := dvGo_enc s p r 6 n.toNat 0 0 (by omega) (by simpa using hs) (by simp; omega) (by omega) hl
 simp at this
 rw [show ((p : Int)).toNat = p by omega,this]
 simp
 omega
theorem signed_signless {x : Int} (h : 0 ≤ signless x) : signed (signless x) = x := by
 unfold signless at h ⊢
 split at h
 ·rename_i hx
  rw [if_pos hx]
  split
  ·rw [signed,if_pos (by omega),if_pos (by omega)]; omega
  ·rw [signed,if_pos (by omega),if_neg (by omega)]; omega
 ·omega
theorem signless_le (x : Int) : signless x ≤ 1099511627775 := by
 unfold signless
 split
 ·split <;> omega
 ·omega
theorem uiGo_enc (s : ByteArray) (p : Nat) (r : List UInt8) : ∀ (l : List Int) (pos : Nat),(∀ x ∈ l,0 ≤ signless x) → s.data.toList.drop (p + pos) = (l.flatMap fun x => encVar (signless x)) ++ r → uiGo s p l.length pos = some (l,pos + (l.flatMap fun x => encVar (signless x)).length)
 | [],pos,_,_ => rfl
 | x :: l,pos,hx,hs => by
  have h0 := hx x (by simp)
  rw [List.flatMap_cons,List.append_assoc] at hs
  have h1 := Yh h0 (signless_le x) hs
  have hd : s.data.toList.drop (p + (pos + (encVar (signless x)).length)) = (l.flatMap fun x => encVar (signless x)) ++ r := by
   have := congrArg (List.drop (encVar (signless x)).length) hs
   rw [List.drop_drop,List.drop_left] at this
   rw [← this]
   congr 1
   omega
  have h2 := uiGo_enc s p r l (pos + (encVar (signless x)).length) (fun y hy => hx y (by simp [hy])) hd
  rw [List.length_cons,uiGo,show (p : Int) + (pos : Int) = ((p + pos : Nat) : Int) by omega,h1]
  simp only [h2,Option.map_some,signed_signless h0,List.flatMap_cons,List.length_append]
  congr 2
  omega
theorem unpackInts_enc {xs : List Int} (hx : ∀ x ∈ xs,0 ≤ signless x) (hL : xs.length ≤ 1073741824) : unpackInts (packInts xs) 0 = some (xs,(packInts xs).size) := by
 have hall : xs.all (fun x => decide (0 ≤ signless x)) = true := by simpa using hx
 have hp : packInts xs = bs (encVar xs.length ++ xs.flatMap fun x => encVar (signless x)) := by
  rw [packInts,if_pos hall,packK,List.take_length]
 have hl : (packInts xs).data.toList = encVar xs.length ++ ((xs.flatMap fun x => encVar (signless x)) ++ []) := by rw [hp,bs_list,List.append_nil]
 have h1 : decVar (packInts xs) ((0 : Nat) : Int) = _ := Yh (n := (xs.length : Int)) (by omega) (by omega) (by rw [List.drop_zero]; exact hl)
 have h2 := uiGo_enc (packInts xs) 0 [] xs (encVar (xs.length : Int)).length hx (by
  have := congrArg (List.drop (encVar (xs.length : Int)).length) hl
  rw [List.drop_left] at this
  rw [Nat.zero_add]; exact this)
 rw [unpackInts,show (0 : Int) = ((0 : Nat) : Int) from rfl,h1]
 simp only [Int.toNat_natCast,h2]
 congr 2
 rw [hp,Yb,List.length_append]
end
section
open Go.RowKit

def colF (q : Int → Bool) (row : ByteArray) : Nat → Option Nat
 | 0 => none
 | c + 1 => match colF q row c with
  | some x => some x
  | none => if q (byteAt row c) = true then some c else none
def tileF (q : Int → Bool) (rows : List ByteArray) : Nat → Option (Nat × Nat)
 | 0 => none
 | r + 1 => match tileF q rows r with
  | some x => some x
  | none => match rows[r]? with
   | none => none
   | some row => (colF q row row.size).map fun c => (r,c)
def isOpen (t : Int) : Bool := decide (t ≠ 35)
def isDig (p : Int) (t : Int) : Bool := decide (t = 49 + p)
def spX : Option (Nat × Nat) → Int
 | none => -1
 | some (_,c) => 16 * c + 2
def spY : Option (Nat × Nat) → Int
 | none => -1
 | some (r,_) => 16 * r + 2
def startT (l : TLevel) (p : Int) : Option (Nat × Nat) := match tileF (isDig p) l.Rows l.Rows.length with
 | some x => some x
 | none => tileF isOpen l.Rows l.Rows.length
theorem colF_some {q : Int → Bool} {row : ByteArray} : ∀ {n c : Nat},colF q row n = some c → c < n ∧ q (byteAt row c) = true
 | 0,c,h => by cases h
 | n + 1,c,h => by
  rw [colF] at h
  cases h1 : colF q row n with
  | some x => rw [h1] at h; cases h; have := colF_some h1; exact ⟨by omega,this.2⟩
  | none =>
   rw [h1] at h
   by_cases h2 : q (byteAt row n) = true
   ·rw [if_pos h2] at h; cases h; exact ⟨by omega,h2⟩
   ·rw [if_neg h2] at h; cases h
theorem colF_none {q : Int → Bool} {row : ByteArray} : ∀ {n : Nat},colF q row n = none → ∀ c,c < n → q (byteAt row c) = false
 | 0,h,c,hc => by omega
 | n + 1,h,c,hc => by
  rw [colF] at h
  cases h1 : colF q row n with
  | some x => rw [h1] at h; cases h
  | none =>
   rw [h1] at h
   by_cases h2 : q (byteAt row n) = true
   ·rw [if_pos h2] at h; cases h
   ·by_cases e : c = n
    ·subst e; simpa using h2
    ·exact colF_none h1 c (by omega)
theorem tileF_some {q : Int → Bool} {rows : List ByteArray} : ∀ {n r c : Nat},tileF q rows n = some (r,c) → ∃ h : r < rows.length,r < n ∧ c < rows[r].size ∧ q (byteAt rows[r] c) = true
 | 0,r,c,h => by cases h
 | n + 1,r,c,h => by
  rw [tileF] at h
  cases h1 : tileF q rows n with
  | some x => rw [h1] at h; cases h; obtain ⟨a,b,d⟩ := tileF_some h1; exact ⟨a,by omega,d⟩
  | none =>
   rw [h1] at h
   cases h2 : rows[n]? with
   | none => rw [h2] at h; cases h
   | some row =>
    rw [h2] at h
    simp only [Option.map_eq_some_iff,Prod.mk.injEq] at h
    obtain ⟨c',h3,rfl,rfl⟩ := h
    have hn := (List.getElem?_eq_some_iff.1 h2).1
    have he := (List.getElem?_eq_some_iff.1 h2).2
    have := colF_some h3
    exact ⟨hn,by omega,by rw [he]; exact this.1,by rw [he]; exact this.2⟩
theorem tileF_none {q : Int → Bool} {rows : List ByteArray} : ∀ {n : Nat},tileF q rows n = none → ∀ r (h : r < rows.length),r < n → ∀ c,c < rows[r].size → q (byteAt rows[r] c) = false
 | 0,h,r,hr,hn,c,hc => by omega
 | n + 1,h,r,hr,hn,c,hc => by
  rw [tileF] at h
  cases h1 : tileF q rows n with
  | some x => rw [h1] at h; cases h
  | none =>
   rw [h1] at h
   by_cases e : r = n
   ·subst e
    rw [List.getElem?_eq_getElem hr] at h
    simp only [Option.map_eq_none_iff] at h
    exact colF_none h c hc
   ·exact tileF_none h1 r hr (by omega) c hc
theorem tileM_open {e : Bool} {t : Int} {s s' : Seen × Bool} (h : tileM e t s = some s') (ho : s'.2 = true) : s.2 = true ∨ t ≠ 35 := by
 by_cases ht : t = 35
 ·rw [tileM,if_pos ht] at h; cases h; exact .inl ho
 ·exact .inr ht
theorem cols_open {row : ByteArray} {er : Bool} {w : Nat} {s : Seen × Bool} : ∀ {n : Nat} {s' : Seen × Bool},colsM row er w s n = some s' → s'.2 = true → s.2 = true ∨ ∃ c,c < n ∧ byteAt row c ≠ 35
 | 0,s',h,ho => by cases h; exact .inl ho
 | n + 1,s',h,ho => by
  rw [colsM] at h
  cases h1 : colsM row er w s n with
  | none => rw [h1] at h; cases h
  | some s1 =>
   rw [h1] at h
   rcases tileM_open h ho with h2 | h2
   ·rcases cols_open h1 h2 with h3 | ⟨c,hc,h3⟩
    ·exact .inl h3
    ·exact .inr ⟨c,by omega,h3⟩
   ·exact .inr ⟨n,by omega,h2⟩
theorem rows_open {rows : List ByteArray} {w : Nat} : ∀ {n : Nat} {s : Seen × Bool},rowsM rows w n = some s → s.2 = true → ∃ r c,∃ h : r < rows.length,r < n ∧ c < rows[r].size ∧ byteAt rows[r] c ≠ 35
 | 0,s,h,ho => by cases h; cases ho
 | n + 1,s,h,ho => by
  rw [rowsM] at h
  cases h1 : rowsM rows w n with
  | none => rw [h1] at h; cases h
  | some s1 =>
   rw [h1] at h
   cases h2 : rows[n]? with
   | none => rw [h2] at h; cases h
   | some row =>
    rw [h2] at h
    simp only at h
    split at h
    ·rename_i hw
     have hn := (List.getElem?_eq_some_iff.1 h2).1
     have he := (List.getElem?_eq_some_iff.1 h2).2
     rcases cols_open h ho with h3 | ⟨c,hc,h3⟩
     ·obtain ⟨r,c,a,b,d⟩ := rows_open h1 h3
      exact ⟨r,c,a,by omega,d⟩
     ·exact ⟨n,c,hn,by omega,by rw [he]; omega,by rw [he]; exact h3⟩
    ·cases h
theorem level_open {l : TLevel} (h : levelOk l = true) : ∃ r c,∃ h : r < l.Rows.length,c < (l.Rows[r]).size ∧ byteAt (l.Rows[r]) c ≠ 35 := by
 unfold levelOk at h
 simp only [Bool.and_eq_true] at h
 obtain ⟨_,h5⟩ := h
 split at h5
 ·rename_i s hs
  obtain ⟨r,c,a,b,d⟩ := rows_open hs h5
  exact ⟨r,c,a,d⟩
 ·cases h5
theorem start_some {l : TLevel} (hl : levelOk l = true) {p : Int} (hp : 0 ≤ p ∧ p ≤ 3) : ∃ r c,startT l p = some (r,c) ∧ ∃ h : r < l.Rows.length,c < (l.Rows[r]).size ∧ byteAt (l.Rows[r]) c ≠ 35 := by
 unfold startT
 cases h1 : tileF (isDig p) l.Rows l.Rows.length with
 | some x =>
  obtain ⟨r,c⟩ := x
  obtain ⟨a,b,d,e⟩ := tileF_some h1
  refine ⟨r,c,J,a,d,?_⟩
  have := of_decide_eq_true e
  omega
 | none =>
  cases h2 : tileF isOpen l.Rows l.Rows.length with
  | some x =>
   obtain ⟨r,c⟩ := x
   obtain ⟨a,b,d,e⟩ := tileF_some h2
   exact ⟨r,c,J,a,d,of_decide_eq_true e⟩
  | none =>
   obtain ⟨r,c,a,d,e⟩ := level_open hl
   have := tileF_none h2 r a a c d
   exact absurd e (of_decide_eq_false this)
def openF (rows : List ByteArray) (row : ByteArray) (r c : Nat) : Option (Nat × Nat) := match tileF isOpen rows r with
 | some x => some x
 | none => (colF isOpen row c).map fun c => (r,c)
theorem openF_zero {rows : List ByteArray} {row : ByteArray} {r : Nat} : openF rows row r 0 = tileF isOpen rows r := by
 unfold openF
 cases tileF isOpen rows r <;> rfl
theorem openF_end {rows : List ByteArray} {row : ByteArray} {r : Nat} (h : rows[r]? = some row) : openF rows row r row.size = tileF isOpen rows (r + 1) := by
 rw [openF,tileF,h]
theorem Y6 {rows : List ByteArray} {row : ByteArray} {r c : Nat} {x : Nat × Nat} (h : openF rows row r c = some x) : openF rows row r (c + 1) = some x := by
 unfold openF at h ⊢
 cases h1 : tileF isOpen rows r with
 | some y => rw [h1] at h; exact h
 | none =>
  rw [h1] at h
  simp only [Option.map_eq_some_iff] at h ⊢
  obtain ⟨a,h2,h3⟩ := h
  exact ⟨a,by rw [colF,h2],h3⟩
theorem Y7 {rows : List ByteArray} {row : ByteArray} {r c : Nat} (h : openF rows row r c = none) : openF rows row r (c + 1) = if byteAt row c = 35 then none else some (r,c) := by
 unfold openF at h ⊢
 cases h1 : tileF isOpen rows r with
 | some y => rw [h1] at h; cases h
 | none =>
  rw [h1] at h
  simp only [Option.map_eq_none_iff] at h
  simp only [colF,h]
  by_cases h2 : byteAt row c = 35
  ·rw [if_pos h2,if_neg (show ¬ isOpen (byteAt row c) = true from fun q => of_decide_eq_true q h2)]; rfl
  ·rw [if_neg h2,if_pos (show isOpen (byteAt row c) = true from decide_eq_true h2)]; rfl
theorem colF_step {q : Int → Bool} {row : ByteArray} {c : Nat} (h : colF q row c = none) (hq : q (byteAt row c) = false) : colF q row (c + 1) = none := by rw [colF,h]; simp [hq]
theorem colF_hit {q : Int → Bool} {row : ByteArray} {c : Nat} (h : colF q row c = none) (hq : q (byteAt row c) = true) : ∀ {n : Nat},c < n → colF q row n = some c
 | 0,hn => by omega
 | n + 1,hn => by
  rw [colF]
  by_cases e : c = n
  ·subst e; rw [h]; simp [hq]
  ·rw [colF_hit h hq (by omega)]
theorem tileF_step {q : Int → Bool} {rows : List ByteArray} {row : ByteArray} {r : Nat} (h : tileF q rows r = none) (hr : rows[r]? = some row) (hc : colF q row row.size = none) : tileF q rows (r + 1) = none := by rw [tileF,h,hr]; simp [hc]
theorem tileF_hit {q : Int → Bool} {rows : List ByteArray} {row : ByteArray} {r c : Nat} (h : tileF q rows r = none) (hr : rows[r]? = some row) (hc : colF q row row.size = some c) : ∀ {n : Nat},r < n → tileF q rows n = some (r,c)
 | 0,hn => by omega
 | n + 1,hn => by
  rw [tileF]
  by_cases e : r = n
  ·subst e; rw [h,hr]; simp [hc]
  ·rw [tileF_hit h hr hc (by omega)]
theorem start_dig {l : TLevel} {p : Int} {row : ByteArray} {r c : Nat} (h : tileF (isDig p) l.Rows r = none) (hr : l.Rows[r]? = some row) (hc : colF (isDig p) row c = none) (hcs : c < row.size) (hb : byteAt row c = 49 + p) : startT l p = some (r,c) := by
 have h1 := colF_hit hc (show isDig p (byteAt row c) = true from decide_eq_true hb) hcs
 rw [startT,tileF_hit h hr h1 (List.getElem?_eq_some_iff.1 hr).1]
theorem start_open {l : TLevel} {p : Int} {n : Nat} (h : tileF (isDig p) l.Rows n = none) (hn : n = l.Rows.length) : startT l p = tileF isOpen l.Rows n := by
 subst hn
 rw [startT,h]
theorem spX_neg {o : Option (Nat × Nat)} : spX o < 0 ↔ o = none := by
 cases o with
 | none => simp [spX]
 | some x => obtain ⟨r,c⟩ := x; simp [spX]; omega
def fresh (l : TLevel) (p : Int) : TBody := ⟨0,p,spX (startT l p),spY (startT l p),0,0,1,3,0⟩
theorem fresh_free {l : TLevel} (hl : levelOk l = true) {p : Int} (hp : 0 ≤ p ∧ p ≤ 3) : solidM l (fresh l p).X (fresh l p).Y 12 = false ∧ (0 ≤ (fresh l p).X ∧ (fresh l p).X ≤ 400) ∧ (0 ≤ (fresh l p).Y ∧ (fresh l p).Y ≤ 400) := by
 obtain ⟨r,c,h1,hr,hc,hb⟩ := start_some hl hp
 obtain ⟨l3,l12,w,w4,w20,hw⟩ := Yz hl
 have hwr := hw r hr
 rw [fresh,h1]
 refine ⟨solidM_F ?_,by simp only [spX]; omega,by simp only [spY]; omega⟩
 rintro ⟨r',c',a1,a2,a3,a4,hwall⟩
 simp only [spX,spY] at a1 a2 a3 a4
 have e1 : r' = r := by omega
 have e2 : c' = c := by omega
 subst e1 e2
 exact no_wall hr hc hb hwall
def newWorld (l : TLevel) (n : Nat) (seed : Int) : TWorld := ⟨l,0,seed,List.replicate n 0,(List.range n).map fun (k : Nat) => fresh l (k : Int)⟩
theorem newWorld_ok {l : TLevel} {n : Nat} {seed : Int} (hl : levelOk l = true) (hn : 1 ≤ n ∧ n ≤ 4) (hs : inR seed 0 65535 = true) : worldOk (newWorld l n seed) = true := by
 refine worldOk_T ⟨hl,J,hs,by simpa [newWorld] using hn,?_,by simp [newWorld]; omega,?_⟩
 ·simp only [newWorld,scoresOk,List.all_replicate]
  simp [inR]
 ·intro k hk
  have hk4 : k < n := by simpa [newWorld] using hk
  have hlen : (newWorld l n seed).Scores.length = n := by simp [newWorld]
  have hb : (newWorld l n seed).Bodies[k] = fresh l k := by simp [newWorld]
  rw [hlen,hb]
  obtain ⟨h1,h2,h3⟩ := fresh_free hl (p := (k : Int)) (by omega)
  show bodyAt l n k (fresh l k) = true
  rw [bodyAt,if_pos hk4,Bool.and_eq_true]
  refine ⟨?_,decide_eq_true ⟨J,J⟩⟩
  rw [bodyM,show sizeOf (fresh l k).Kind = 12 from rfl,h1]
  have e1 : inR (fresh l (k : Int)).Kind 0 2 = true := rfl
  have e2 : inR (fresh l (k : Int)).Owner 0 ((n : Int) - 1) = true := Yy.2 ⟨by show (0 : Int) ≤ k; omega,by show (k : Int) ≤ n - 1; omega⟩
  have e3 : inR (fresh l (k : Int)).VX (-15) 15 = true := rfl
  have e4 : inR (fresh l (k : Int)).VY (-15) 15 = true := rfl
  have e5 : tailM (fresh l (k : Int)) = true := rfl
  rw [e1,e2,e3,e4,e5]
  rfl
theorem bodyOf_app (b : TBody) (r : List Int) : bodyOf (bodyInts b ++ r) = b := by cases b; rfl
theorem flat_drop : ∀ (bs : List TBody) (k : Nat) (h : k < bs.length),∃ r,(bs.flatMap bodyInts).drop (9 * k) = bodyInts bs[k] ++ r
 | [],k,h => by simp at h
 | b :: bs,0,h => ⟨bs.flatMap bodyInts,by simp⟩
 | b :: bs,k + 1,h => by
  obtain ⟨r,hr⟩ := flat_drop bs k (by simpa using h)
  refine ⟨r,?_⟩
  rw [List.flatMap_cons,show 9 * (k + 1) = (bodyInts b).length + 9 * k by simp [bodyInts]; omega,← List.drop_drop,List.drop_left,hr]
  rfl
theorem bodiesOf_flat (bs : List TBody) : bodiesOf (bs.flatMap bodyInts) bs.length = bs := by
 apply List.ext_getElem
 ·simp [bodiesOf]
 ·intro k h1 h2
  obtain ⟨r,hr⟩ := flat_drop bs k h2
  simp only [bodiesOf,List.getElem_map,List.getElem_range,hr,bodyOf_app]
theorem flat_length (bs : List TBody) : (bs.flatMap bodyInts).length = 9 * bs.length := by
 have := flat_len bs bs.length (Nat.le_refl _)
 rwa [List.take_length] at this
theorem worldOf_ints2 (w : TWorld) (h1 : 1 ≤ w.Scores.length) (h2 : w.Scores.length ≤ 4) : worldOf w.Level (worldInts w) = w ∧ formOk (worldInts w) := by
 have hn : (worldInts w).getD 2 0 = (w.Scores.length : Int) := rfl
 have hd : (worldInts w).drop 3 = w.Scores ++ w.Bodies.flatMap bodyInts := by simp [worldInts]
 have hd2 : (worldInts w).drop (3 + w.Scores.length) = w.Bodies.flatMap bodyInts := by rw [← List.drop_drop,hd,List.drop_left]
 have hl : (worldInts w).length = 3 + w.Scores.length + 9 * w.Bodies.length := by
  have := flat_length w.Bodies
  simp only [worldInts,List.length_append,List.length_cons,List.length_nil]
  omega
 constructor
 ·rw [worldOf,hn,hd,show ((w.Scores.length : Nat) : Int).toNat = w.Scores.length by omega,List.take_left,hd2,hl,show (3 + w.Scores.length + 9 * w.Bodies.length - 3 - w.Scores.length) / 9 = w.Bodies.length by omega,bodiesOf_flat]
  rfl
 ·rw [formOk,hn,hl]
  omega
end
section
open Go.RowKit

def nextR (s : Int) : Int := if 0 ≤ s ∧ s ≤ 65535 then (s * 25173 + 13849) % 65536 else 0
def belowR (s n : Int) : Int := nextR s / 16 % n
theorem Y4 (s : Int) : 0 ≤ nextR s ∧ nextR s ≤ 65535 := by
 unfold nextR
 split <;> omega
def pressed (i k : Int) : Bool := decide (((i.toNat &&& k.toNat : Nat) : Int) ≠ 0)
noncomputable def steer (l : TLevel) (b : TBody) (i : Int) : TBody × Bool :=
 (⟨b.Kind,b.Owner,b.X,b.Y,
  if (pressed i 1 && !pressed i 2) = true then -3 else if (pressed i 2 && !pressed i 1) = true then 3 else 0,
  if (pressed i 4 && solidM l b.X (b.Y + 1) 12) = true then -9 else min (b.VY + 1) 8,
  if (pressed i 1 && !pressed i 2) = true then -1 else if (pressed i 2 && !pressed i 1) = true then 1 else b.Aim,
  b.Life,
  if (pressed i 8 && decide ((if 0 < b.Timer then b.Timer - 1 else b.Timer) = 0)) = true then 12 else (if 0 < b.Timer then b.Timer - 1 else b.Timer)⟩,
  pressed i 8 && decide ((if 0 < b.Timer then b.Timer - 1 else b.Timer) = 0))
def slide (hit : Int → Bool) (step : Int) : Nat → Int → Int × Bool
 | 0,x => (x,false)
 | n + 1,x => if hit (x + step) = true then (x,true) else slide hit step n (x + step)
theorem slide_hit {hit : Int → Bool} {step x : Int} {n : Nat} (h : hit (x + step) = true) : slide hit step (n + 1) x = (x,true) := by rw [slide,if_pos h]
theorem slide_go {hit : Int → Bool} {step x : Int} {n : Nat} (h : hit (x + step) = false) : slide hit step (n + 1) x = slide hit step n (x + step) := by rw [slide,if_neg (by rw [h]; simp)]
def dirOf (v : Int) : Int := if v < 0 then -1 else 1
noncomputable def moveX (l : TLevel) (b : TBody) : Int × Bool := slide (fun x => solidM l x b.Y (sizeOf b.Kind)) (dirOf b.VX) b.VX.natAbs b.X
noncomputable def moveY (l : TLevel) (b : TBody) : Int × Bool := slide (fun y => solidM l (moveX l b).1 y (sizeOf b.Kind)) (dirOf b.VY) b.VY.natAbs b.Y
noncomputable def moveM (l : TLevel) (b : TBody) : TBody × Bool :=
 (⟨b.Kind,b.Owner,(moveX l b).1,(moveY l b).1,if (moveX l b).2 = true then 0 else b.VX,if (moveY l b).2 = true then 0 else b.VY,b.Aim,b.Life,b.Timer⟩,(moveX l b).2 || (moveY l b).2)
def shotOf (b : TBody) : TBody := ⟨1,b.Owner,b.X + 4,b.Y + 4,6 * b.Aim,0,0,0,25⟩
def meetM (a b : TBody) : Bool :=
 ((decide (a.X < b.X + sizeOf b.Kind) && decide (b.X < a.X + sizeOf a.Kind)) && decide (a.Y < b.Y + sizeOf b.Kind)) && decide (b.Y < a.Y + sizeOf a.Kind)
structure Placed (b : TBody) : Prop where
 k : 0 ≤ b.Kind ∧ b.Kind ≤ 2
 x : 0 ≤ b.X ∧ b.X ≤ 1000
 y : 0 ≤ b.Y ∧ b.Y ≤ 1000
theorem size_pos {k : Int} (h : 0 ≤ k ∧ k ≤ 2) : 4 ≤ sizeOf k ∧ sizeOf k ≤ 12 := by
 unfold sizeOf
 split
 ·omega
 ·split
  ·omega
  ·split <;> omega
def colSp (row : ByteArray) (r : Nat) : Nat → List (List Int)
 | 0 => []
 | c + 1 => if byteAt row c = 111 then colSp row r c ++ [[(c : Int) * 16 + 4,(r : Int) * 16 + 4]] else colSp row r c
def rowSp (rows : List ByteArray) : Nat → List (List Int)
 | 0 => []
 | r + 1 => match rows[r]? with
  | none => rowSp rows r
  | some row => rowSp rows r ++ colSp row r row.size
end
section
open Go.RowKit

theorem openF_35 {rows : List ByteArray} {row : ByteArray} {r c : Nat} (h : byteAt row c = 35) : openF rows row r c = openF rows row r (c + 1) := by
 cases ho : openF rows row r c with
 | some x => rw [Y6 ho]
 | none => rw [Y7 ho,if_pos h]
theorem tu2 {x y x' y' : Int} (h1 : x = x') (h2 : y = y') : V.tu [.c (jn x),.c (jn y)] = V.tu [.c (jn x'),.c (jn y')] := by rw [h1,h2]
theorem I_StartOf (l : TLevel) (p : Int) (hg : Enc.gd l) (hl : levelOk l = true) (hp : 0 ≤ p ∧ p ≤ 3) : Con Try.prog 96 [] [ag l,ai p] [] (.tu [.c (jn (spX (startT l p))),.c (jn (spY (startT l p)))]) := by
 have hc := Xu l hg
 rw [hl] at hc
 have hlr := Yl l.Rows
 have hx : l.Rows.length ≤ 9223372036854775807 := hg.1
 obtain ⟨l3,l12,w,w4,w20,hw⟩ := Yz hl
 have b1 : decide (p < 0) = false := decide_eq_false (by omega)
 have b2 : decide (p ≥ 4) = false := decide_eq_false (by omega)
 refine Con.of Try.func96 J Try.ntmps96 J (fun E => ?_)
 refine zy (M1 (Qq J J J J) J J (z1 J (z1 J (zz (Qd (zy (z0 J (z9a J (by assumption) ?_))))))));refine z0 J (z5 J (z0 J (z5 J (z9d J (by assumption) (zpF J (z0 J (z5 J (z4 J J J (z5 J ?_)))))))));refine zx (Qj J J (hc) J) J ?_;refine z5 J (zn J (zpF J (zz (Ql J (Qh (Q0 (zy (z1 J (Qe ?_)))))))));refine Q0 (zy (z1 J (zz (Qd (zy (z2 J J J (z3 J (zx (Zq J J J) J ?_))))))));refine z0 J (zz (Qk ?_));refine A_lq (fun m st => ∃ r : Nat,r + m = l.Rows.length ∧ (tileF (isDig p) l.Rows r = none) ∧ st = (⟨_,[(1,I p),(2,.o (.c (.ptr 0 0))),(6,I (spX (tileF isOpen l.Rows r))),(7,I (spY (tileF isOpen l.Rows r))),(23,L l.Rows),(24,I (els l.Rows).length),(25,I r)],[.box ((Enc.e l).map (V1.rd []))]⟩ : St)) (l.Rows.length) ⟨_,⟨0,by omega,J,J⟩,W_gj [0] J⟩ ?_
 rintro m_A _ ⟨r,hk_A,hp_A,rfl⟩
 refine zy (zx (Zv J J J J) J (zz (Qd ?_)))
 refine Xb J (fun h => ?_) (fun h => ?_)
 ·have h3 : r < l.Rows.length := by have := of_decide_eq_true h; omega
  have hat := Yk h3
  have hwr := hw r h3
  have hrow := List.getElem?_eq_getElem h3
  generalize l.Rows[r] = row at hat hwr hrow
  refine Qh (Q0 (Qd (Qk (zy (z0 J (zx (Q2 J J J J (by omega) (by assumption) J) J (zx (Zu J J J J) J (z1 J (z1 J (Qe ?_))))))))));refine Q0 (zy (z1 J (zz (Qk ?_))));refine A_lq (fun m st => ∃ c : Nat,c + m = row.size ∧ (colF (isDig p) row c = none) ∧ st = (⟨_,[(1,I p),(2,.o (.c (.ptr 0 0))),(6,I (spX (openF l.Rows row r c))),(7,I (spY (openF l.Rows row r c))),(8,I r),(9,S row),(10,I c),(23,L l.Rows),(24,I (els l.Rows).length),(25,I r)],[.box ((Enc.e l).map (V1.rd []))]⟩ : St)) (row.size) ⟨(fun c : Nat => (⟨_,[(1,I p),(2,.o (.c (.ptr 0 0))),(6,I (spX (openF l.Rows row r c))),(7,I (spY (openF l.Rows row r c))),(8,I r),(9,S row),(10,I c),(23,L l.Rows),(24,I (els l.Rows).length),(25,I r)],[.box ((Enc.e l).map (V1.rd []))]⟩ : St)) 0,⟨0,by omega,J,J⟩,X5 [0] (by decide) J (J) (.c J (.c J (.cons (Xw (by rw [openF_zero])) (.cons (Xw (by rw [openF_zero])) (.c J (.c J (.c J (.c J (.c J (.c J (.nil)))))))))))⟩ ?_
  rintro m_D _ ⟨c,hk_D,hp_D,rfl⟩
  refine Qd (zy (z0 J (z0 J (zx (Zs J J J) J (zx (Zv J J J J) J (zz ?_))))))
  refine Xb J (fun h4 => ?_) (fun h4 => ?_)
  ·have h4 : c < row.size := by have := of_decide_eq_true h4; omega
   have hbt := Yc row c
   have hbt2 := Yc row (c : Int).toNat
   by_cases hd : byteAt row c = 49 + p
   ·have hb : decide (byteAt row (c : Int).toNat = 49 + p) = true := decide_eq_true hd
    rw [start_dig hp_A hrow hp_D h4 hd]
    clear hd
    refine Qh (Q0 (Qd (Qk (Qd (zy (z0 J (z0 J (zx (Zg J J J J (by omega)) J (z0 J (z7 J (by omega) ?_))))))))));refine zx (Zj J J J J (Kg (by omega))) J (z9e J (by assumption) (zz (Qm J (zy (z0 J (zx (Zw J J J J (by omega)) J (z7 J (by omega) (z0 J (zx (Zw J J J J (by omega)) J ?_)))))))));refine z7 J (by omega) (z1 J (z1 J (zz (Xa (T_r (B_r (T_r (T_r (B_r (B_r ?_))))))))));refine T_r (T_r (B_r (T_r (F_r ?_))))
    exact Xq J J J (X3 [] (by decide) J J (tu2 (show (c : Int) * 16 + 2 = 16 * (c : Int) + 2 by omega) (show (r : Int) * 16 + 2 = 16 * (r : Int) + 2 by omega)))
   have hb : decide (byteAt row (c : Int).toNat = 49 + p) = false := decide_eq_false hd
   have hnd := colF_step hp_D (show isDig p (byteAt row c) = false from decide_eq_false hd)
   by_cases h35 : byteAt row c = 35
   ·have hb3 : decide (byteAt row (c : Int).toNat ≠ 35) = false := decide_eq_false (fun q => q h35)
    have hnx : spX (openF l.Rows row r c) = spX (openF l.Rows row r (c + 1)) := by rw [openF_35 h35]
    have hny : spY (openF l.Rows row r c) = spY (openF l.Rows row r (c + 1)) := by rw [openF_35 h35]
    clear h35
    refine Qh (Q0 (Qd (Qk (Qd (zy (z0 J (z0 J (zx (Zg J J J J (by omega)) J (z0 J (z7 J (by omega) ?_))))))))));refine zx (Zj J J J J (Kg (by omega))) J (z9e J (by assumption) (zz (Ql J (Qh (Q0 (zy (z0 J (z0 J (zx (Zg J J J J (by omega)) J ?_)))))))));refine z9f J (by assumption) (z0 J (z6 J (z6 J (zpF J (zz (Ql J (Qh (Q1 (Q0 (Qc ?_))))))))));refine z0 J (z7 J (by omega) (z1 J (zz ?_)))
    exact ⟨row.size - (c + 1),by omega,(fun c : Nat => (⟨_,[(1,I p),(2,.o (.c (.ptr 0 0))),(6,I (spX (openF l.Rows row r c))),(7,I (spY (openF l.Rows row r c))),(8,I r),(9,S row),(10,I c),(23,L l.Rows),(24,I (els l.Rows).length),(25,I r)],[.box ((Enc.e l).map (V1.rd []))]⟩ : St)) (c + 1),⟨c + 1,by omega,hnd,J⟩,X5 [0] (by decide) J (J) (.c J (.c J (.cons (Xw hnx) (.cons (Xw hny) (.c J (.c J (.c J (.c J (.c J (.c J (.nil)))))))))))⟩
   have hb3 : decide (byteAt row (c : Int).toNat ≠ 35) = true := decide_eq_true h35
   have h35' := h35
   cases ho : openF l.Rows row r c with
   | some x =>
    have hlt : decide (spX (openF l.Rows row r c) < 0) = false := decide_eq_false (by rw [spX_neg,ho]; simp)
    have hnx : spX (some x) = spX (openF l.Rows row r (c + 1)) := by rw [Y6 ho]
    have hny : spY (some x) = spY (openF l.Rows row r (c + 1)) := by rw [Y6 ho]
    rw [ho] at hlt
    refine Qh (Q0 (Qd (Qk (Qd (zy (z0 J (z0 J (zx (Zg J J J J (by omega)) J (z0 J (z7 J (by omega) ?_))))))))));refine zx (Zj J J J J (Kg (by omega))) J (z9e J (by assumption) (zz (Ql J (Qh (Q0 (zy (z0 J (z0 J (zx (Zg J J J J (by omega)) J ?_)))))))));refine z9f J (by assumption) (z0 J (z5 J (z0 J (z5 J (z9a J (by assumption) (zpT J (zz (Ql J (Qh (Q1 ?_))))))))));refine Q0 (Qc (z0 J (z7 J (by omega) (z1 J (zz ?_)))))
    exact ⟨row.size - (c + 1),by omega,(fun c : Nat => (⟨_,[(1,I p),(2,.o (.c (.ptr 0 0))),(6,I (spX (openF l.Rows row r c))),(7,I (spY (openF l.Rows row r c))),(8,I r),(9,S row),(10,I c),(23,L l.Rows),(24,I (els l.Rows).length),(25,I r)],[.box ((Enc.e l).map (V1.rd []))]⟩ : St)) (c + 1),⟨c + 1,by omega,hnd,J⟩,X5 [0] (by decide) J (J) (.c J (.c J (.cons (Xw hnx) (.cons (Xw hny) (.c J (.c J (.c J (.c J (.c J (.c J (.nil)))))))))))⟩
   | none =>
    have hlt : decide (spX none < 0) = true := rfl
    have hnx : (c : Int) * 16 + 2 = spX (openF l.Rows row r (c + 1)) := by rw [Y7 ho,if_neg h35']; show (c : Int) * 16 + 2 = 16 * (c : Int) + 2; omega
    have hny : (r : Int) * 16 + 2 = spY (openF l.Rows row r (c + 1)) := by rw [Y7 ho,if_neg h35']; show (r : Int) * 16 + 2 = 16 * (r : Int) + 2; omega
    refine Qh (Q0 (Qd (Qk (Qd (zy (z0 J (z0 J (zx (Zg J J J J (by omega)) J (z0 J (z7 J (by omega) ?_))))))))));refine zx (Zj J J J J (Kg (by omega))) J (z9e J (by assumption) (zz (Ql J (Qh (Q0 (zy (z0 J (z0 J (zx (Zg J J J J (by omega)) J ?_)))))))));refine z9f J (by assumption) (z0 J (z5 J (z0 J (z5 J (z9a J (by assumption) (zpT J (zz (Qm J (zy ?_)))))))));refine z0 J (zx (Zw J J J J (by omega)) J (z7 J (by omega) (z1 J (zz (Qc (z0 J (zx (Zw J J J J (by omega)) J (z7 J (by omega) (z1 J (Qe ?_))))))))));refine Q1 (Q0 (Qc (z0 J (z7 J (by omega) (z1 J (zz ?_))))))
    exact ⟨row.size - (c + 1),by omega,(fun c : Nat => (⟨_,[(1,I p),(2,.o (.c (.ptr 0 0))),(6,I (spX (openF l.Rows row r c))),(7,I (spY (openF l.Rows row r c))),(8,I r),(9,S row),(10,I c),(23,L l.Rows),(24,I (els l.Rows).length),(25,I r)],[.box ((Enc.e l).map (V1.rd []))]⟩ : St)) (c + 1),⟨c + 1,by omega,hnd,J⟩,X5 [0] (by decide) J (J) (.c J (.c J (.cons (Xw hnx) (.cons (Xw hny) (.c J (.c J (.c J (.c J (.c J (.c J (.nil)))))))))))⟩
  ·have h4 : c = row.size := by have := of_decide_eq_false h4; omega
   subst h4
   refine Q9 (T_x (T_x (Xl (Q1 (Q0 (Qc (z7 J (by omega) (z0 J (zz ?_)))))))))
   exact ⟨l.Rows.length - (r + 1),by omega,(fun r : Nat => (⟨_,[(1,I p),(2,.o (.c (.ptr 0 0))),(6,I (spX (tileF isOpen l.Rows r))),(7,I (spY (tileF isOpen l.Rows r))),(23,L l.Rows),(24,I (els l.Rows).length),(25,I r)],[.box ((Enc.e l).map (V1.rd []))]⟩ : St)) (r + 1),⟨r + 1,by omega,tileF_step hp_A hrow hp_D,J⟩,X5 [0] (by decide) J (J) (.c J (.c J (.cons (Xw (by rw [← openF_end hrow])) (.cons (Xw (by rw [← openF_end hrow])) (.c J (.c J (.c J (.nil))))))))⟩
 ·have h3 : r = l.Rows.length := by have := of_decide_eq_false h; omega
  rw [start_open hp_A h3]
  refine Q9 (T_x (T_x (Xl (Q0 (zy (z0 J (z0 J (z1 J (z1 J (Qe ?_))))))))));refine Q0 (Xa (F_r ?_))
  exact Xq J J J (X3 [] (by decide) J J J)
theorem S_StartOf (l : TLevel) (p : Int) (hg : Enc.gd l) (hl : levelOk l = true) (hp : 0 ≤ p ∧ p ≤ 3) : Con Try.prog 63 [] [ag l,ai p] [] (.tu [.c (jn (spX (startT l p))),.c (jn (spY (startT l p)))]) := by
 have hc := S_LevelOk l hg
 rw [hl] at hc
 have hlr := Yl l.Rows
 have hx : l.Rows.length ≤ 9223372036854775807 := hg.1
 obtain ⟨l3,l12,w,w4,w20,hw⟩ := Yz hl
 have hci := S_in p 0 3
 rw [Yy.2 hp] at hci
 refine Con.of Try.func63 J Try.ntmps63 J (fun E => ?_)
 refine zy (M1 (Qq J J J J) J J (z1 J (z1 J (zz (zy (z1 J (zz ?_)))))));refine zy (z1 J (zz (Qd (zy (z4 J J J ?_)))));refine zx (Qj J J (hc) J) J ?_;refine zn J (z0 J (z5 J (z0 J (z5 J ?_))));refine zx (Qj J J (hci) J) J ?_;refine z5 J (zn J (zpF J (zz (Ql J (Qh (Q0 (Qd (zy (z1 J ?_)))))))));refine zz (Qk ?_);refine A_lq (fun m st => ∃ r : Nat,r + m = l.Rows.length ∧ (tileF (isDig p) l.Rows r = none) ∧ st = (⟨_,[(1,I p),(2,.o (.c (.ptr 0 0))),(6,I (spX (tileF isOpen l.Rows r))),(7,I (spY (tileF isOpen l.Rows r))),(8,I r)],[.box ((Enc.e l).map (V1.rd []))]⟩ : St)) (l.Rows.length) ⟨_,⟨0,by omega,J,J⟩,W_gj [0] J⟩ ?_
 rintro m_A _ ⟨r,hk_A,hp_A,rfl⟩
 refine Qd (zy (z0 J (z2 J J J (z3 J (zx (Zq J J J) J (zx (Zv J J J J) J (zz ?_)))))))
 refine Xb J (fun h => ?_) (fun h => ?_)
 ·have h3 : r < l.Rows.length := by have := of_decide_eq_true h; omega
  have hat := Yk h3
  have hwr := hw r h3
  have hrow := List.getElem?_eq_getElem h3
  generalize l.Rows[r] = row at hat hwr hrow
  refine Qh (Q0 (Qd (Qk (zy (z1 J (zz (Qk ?_)))))));refine A_lq (fun m st => ∃ c : Nat,c + m = row.size ∧ (colF (isDig p) row c = none) ∧ st = (⟨_,[(1,I p),(2,.o (.c (.ptr 0 0))),(6,I (spX (openF l.Rows row r c))),(7,I (spY (openF l.Rows row r c))),(8,I r),(9,I c)],[.box ((Enc.e l).map (V1.rd []))]⟩ : St)) (row.size) ⟨(fun c : Nat => (⟨_,[(1,I p),(2,.o (.c (.ptr 0 0))),(6,I (spX (openF l.Rows row r c))),(7,I (spY (openF l.Rows row r c))),(8,I r),(9,I c)],[.box ((Enc.e l).map (V1.rd []))]⟩ : St)) 0,⟨0,by omega,J,J⟩,X5 [0] (by decide) J (J) (.c J (.c J (.cons (Xw (by rw [openF_zero])) (.cons (Xw (by rw [openF_zero])) (.c J (.c J (.nil)))))))⟩ ?_
  rintro m_D _ ⟨c,hk_D,hp_D,rfl⟩
  refine Qd (zy (z0 J (z2 J J J (z3 J (z0 J (zx (Q2 J J J J (by omega) (by assumption) J) J (zx (Zu J J J J) J (zx (Zs J J J) J (zx (Zv J J J J) J (Qe ?_))))))))));refine Q0 ?_
  refine Xb J (fun h4 => ?_) (fun h4 => ?_)
  ·have h4 : c < row.size := by have := of_decide_eq_true h4; omega
   have hbt := Yc row c
   have hbt2 := Yc row (c : Int).toNat
   by_cases hd : byteAt row c = 49 + p
   ·have hb : decide (byteAt row (c : Int).toNat - 49 = p) = true := decide_eq_true (by show byteAt row c - 49 = p; omega)
    have hb3 : decide (byteAt row (c : Int).toNat ≠ 35) = true := decide_eq_true (by show byteAt row c ≠ 35; omega)
    rw [start_dig hp_A hrow hp_D h4 hd]
    clear hd
    cases ho : openF l.Rows row r c with
    | some x =>
     have hlt : decide (spX (openF l.Rows row r c) < 0) = false := decide_eq_false (by rw [spX_neg,ho]; simp)
     rw [ho] at hlt
     refine Qh (Q0 (Qd (Qk (zy (z2 J J J (z3 J (z0 J (zx (Q2 J J J J (by omega) (by assumption) J) J (zx (Zu J J J J) J (z0 J ?_))))))))));refine zx (Zg J J J J (by omega)) J (z1 J (zz (Qd (zy (z0 J (z9f J (by assumption) (z0 J (z5 J (z0 J ?_)))))))));refine z5 J (z9a J (by assumption) (zpT J (z0 J (z5 J (z0 J (z5 J (zx (Zj J J J J (Kf (by omega))) J (z5 J (z8 J (by omega) (z5 J (z0 J ?_)))))))))));refine z5 J (z9e J (by assumption) (zpF J (zz (Qm J (zy (z0 J (zx (Zw J J J J (by omega)) J (z7 J (by omega) (z1 J ?_)))))))));refine zz (Qc (z0 J (zx (Zw J J J J (by omega)) J (z7 J (by omega) (z1 J (zz (zy (z0 J ?_))))))));refine zx (Zj J J J J (Kf (by omega))) J (z8 J (by omega) (z0 J (z9e J (by assumption) (zz (Qm J (zy (z0 J (z0 J (z1 J ?_)))))))));refine z1 J (zz (Xa (B_r (T_r (T_r (B_r (B_r (T_r (T_r (B_r ?_))))))))));refine T_r (F_r ?_)
     exact Xq J J J (X3 [] (by decide) J J J)
    | none =>
     have hlt : decide (spX none < 0) = true := rfl
     refine Qh (Q0 (Qd (Qk (zy (z2 J J J (z3 J (z0 J (zx (Q2 J J J J (by omega) (by assumption) J) J (zx (Zu J J J J) J (z0 J ?_))))))))));refine zx (Zg J J J J (by omega)) J (z1 J (zz (Qd (zy (z0 J (z9f J (by assumption) (z0 J (z5 J (z0 J ?_)))))))));refine z5 J (z9a J (by assumption) (zpT J (z0 J (z6 J (z6 J (z6 J (z6 J (z6 J (zpT J (zz ?_))))))))));refine Qm J (zy (z0 J (zx (Zw J J J J (by omega)) J (z7 J (by omega) (z1 J (zz (Qc (z0 J (zx (Zw J J J J (by omega)) J ?_)))))))));refine z7 J (by omega) (z1 J (zz (zy (z0 J (zx (Zj J J J J (Kf (by omega))) J (z8 J (by omega) (z0 J (z9e J (by assumption) (Qe ?_)))))))));refine Q0 (Qm J (zy (z0 J (z0 J (z1 J (z1 J (zz (Xa (B_r ?_)))))))));refine T_r (T_r (B_r (B_r (T_r (T_r (B_r (T_r (F_r ?_))))))))
     exact Xq J J J (X3 [] (by decide) J J J)
   have hb : decide (byteAt row (c : Int).toNat - 49 = p) = false := decide_eq_false (by show ¬ byteAt row c - 49 = p; omega)
   have hnd := colF_step hp_D (show isDig p (byteAt row c) = false from decide_eq_false hd)
   by_cases h35 : byteAt row c = 35
   ·have hb3 : decide (byteAt row (c : Int).toNat ≠ 35) = false := decide_eq_false (fun q => q h35)
    have hnx : spX (openF l.Rows row r c) = spX (openF l.Rows row r (c + 1)) := by rw [openF_35 h35]
    have hny : spY (openF l.Rows row r c) = spY (openF l.Rows row r (c + 1)) := by rw [openF_35 h35]
    clear h35
    refine Qh (Q0 (Qd (Qk (zy (z2 J J J (z3 J (z0 J (zx (Q2 J J J J (by omega) (by assumption) J) J (zx (Zu J J J J) J (z0 J ?_))))))))));refine zx (Zg J J J J (by omega)) J (z1 J (zz (Qd (zy (z0 J (z9f J (by assumption) (z0 J (z6 J (z6 J ?_)))))))));refine zpF J (z0 J (z5 J (z0 J (z5 J (zx (Zj J J J J (Kf (by omega))) J (z5 J (z8 J (by omega) (z5 J (z0 J (z5 J (z9e J (by assumption) ?_)))))))))));refine zpF J (zz (Ql J (Qh (Q0 (zy (z0 J (zx (Zj J J J J (Kf (by omega))) J (z8 J (by omega) (z0 J ?_)))))))));refine z9e J (by assumption) (zz (Ql J (Qh (Q1 (Q0 (Qc (z0 J (z7 J (by omega) (z1 J (Qe ?_))))))))));refine Q0 ?_
    exact ⟨row.size - (c + 1),by omega,(fun c : Nat => (⟨_,[(1,I p),(2,.o (.c (.ptr 0 0))),(6,I (spX (openF l.Rows row r c))),(7,I (spY (openF l.Rows row r c))),(8,I r),(9,I c)],[.box ((Enc.e l).map (V1.rd []))]⟩ : St)) (c + 1),⟨c + 1,by omega,hnd,J⟩,X5 [0] (by decide) J (J) (.c J (.c J (.cons (Xw hnx) (.cons (Xw hny) (.c J (.c J (.nil)))))))⟩
   have hb3 : decide (byteAt row (c : Int).toNat ≠ 35) = true := decide_eq_true h35
   have h35' := h35
   cases ho : openF l.Rows row r c with
   | some x =>
    have hlt : decide (spX (openF l.Rows row r c) < 0) = false := decide_eq_false (by rw [spX_neg,ho]; simp)
    have hnx : spX (some x) = spX (openF l.Rows row r (c + 1)) := by rw [Y6 ho]
    have hny : spY (some x) = spY (openF l.Rows row r (c + 1)) := by rw [Y6 ho]
    rw [ho] at hlt
    refine Qh (Q0 (Qd (Qk (zy (z2 J J J (z3 J (z0 J (zx (Q2 J J J J (by omega) (by assumption) J) J (zx (Zu J J J J) J (z0 J ?_))))))))));refine zx (Zg J J J J (by omega)) J (z1 J (zz (Qd (zy (z0 J (z9f J (by assumption) (z0 J (z5 J (z0 J ?_)))))))));refine z5 J (z9a J (by assumption) (zpT J (z0 J (z5 J (z0 J (z5 J (zx (Zj J J J J (Kf (by omega))) J (z5 J (z8 J (by omega) (z5 J (z0 J ?_)))))))))));refine z5 J (z9e J (by assumption) (zpF J (zz (Ql J (Qh (Q0 (zy (z0 J (zx (Zj J J J J (Kf (by omega))) J ?_)))))))));refine z8 J (by omega) (z0 J (z9e J (by assumption) (zz (Ql J (Qh (Q1 (Q0 (Qc (z0 J (z7 J (by omega) ?_))))))))));refine z1 J (zz ?_)
    exact ⟨row.size - (c + 1),by omega,(fun c : Nat => (⟨_,[(1,I p),(2,.o (.c (.ptr 0 0))),(6,I (spX (openF l.Rows row r c))),(7,I (spY (openF l.Rows row r c))),(8,I r),(9,I c)],[.box ((Enc.e l).map (V1.rd []))]⟩ : St)) (c + 1),⟨c + 1,by omega,hnd,J⟩,X5 [0] (by decide) J (J) (.c J (.c J (.cons (Xw hnx) (.cons (Xw hny) (.c J (.c J (.nil)))))))⟩
   | none =>
    have hlt : decide (spX none < 0) = true := rfl
    have hnx : 16 * (c : Int) + 2 = spX (openF l.Rows row r (c + 1)) := by rw [Y7 ho,if_neg h35']; rfl
    have hny : 16 * (r : Int) + 2 = spY (openF l.Rows row r (c + 1)) := by rw [Y7 ho,if_neg h35']; rfl
    refine Qh (Q0 (Qd (Qk (zy (z2 J J J (z3 J (z0 J (zx (Q2 J J J J (by omega) (by assumption) J) J (zx (Zu J J J J) J (z0 J ?_))))))))));refine zx (Zg J J J J (by omega)) J (z1 J (zz (Qd (zy (z0 J (z9f J (by assumption) (z0 J (z5 J (z0 J ?_)))))))));refine z5 J (z9a J (by assumption) (zpT J (z0 J (z6 J (z6 J (z6 J (z6 J (z6 J (zpT J (zz ?_))))))))));refine Qm J (zy (z0 J (zx (Zw J J J J (by omega)) J (z7 J (by omega) (z1 J (zz (Qc (z0 J (zx (Zw J J J J (by omega)) J ?_)))))))));refine z7 J (by omega) (z1 J (zz (zy (z0 J (zx (Zj J J J J (Kf (by omega))) J (z8 J (by omega) (z0 J (z9e J (by assumption) (Qe ?_)))))))));refine Q0 (Ql J (Qh (Q1 (Q0 (Qc (z0 J (z7 J (by omega) (z1 J (zz ?_)))))))))
    exact ⟨row.size - (c + 1),by omega,(fun c : Nat => (⟨_,[(1,I p),(2,.o (.c (.ptr 0 0))),(6,I (spX (openF l.Rows row r c))),(7,I (spY (openF l.Rows row r c))),(8,I r),(9,I c)],[.box ((Enc.e l).map (V1.rd []))]⟩ : St)) (c + 1),⟨c + 1,by omega,hnd,J⟩,X5 [0] (by decide) J (J) (.c J (.c J (.cons (Xw hnx) (.cons (Xw hny) (.c J (.c J (.nil)))))))⟩
  ·have h4 : c = row.size := by have := of_decide_eq_false h4; omega
   subst h4
   refine Q9 (T_x (T_x (Xl (Q1 (Q0 (Qc (z0 J (z7 J (by omega) (z1 J (zz ?_))))))))))
   exact ⟨l.Rows.length - (r + 1),by omega,(fun r : Nat => (⟨_,[(1,I p),(2,.o (.c (.ptr 0 0))),(6,I (spX (tileF isOpen l.Rows r))),(7,I (spY (tileF isOpen l.Rows r))),(8,I r)],[.box ((Enc.e l).map (V1.rd []))]⟩ : St)) (r + 1),⟨r + 1,by omega,tileF_step hp_A hrow hp_D,J⟩,X5 [0] (by decide) J (J) (.c J (.c J (.cons (Xw (by rw [← openF_end hrow])) (.cons (Xw (by rw [← openF_end hrow])) (.c J (.nil))))))⟩
 ·have h3 : r = l.Rows.length := by have := of_decide_eq_false h; omega
  rw [start_open hp_A h3]
  refine Q9 (T_x (T_x (Xl (Q0 (zy (z0 J (z0 J (z1 J (z1 J (Qe ?_))))))))));refine Q0 (Xa (F_r ?_))
  exact Xq J J J (X3 [] (by decide) J J J)
end
section
open Go.RowKit

theorem I_fresh (l : TLevel) (p : Int) (hg : Enc.gd l) (hl : levelOk l = true) (hp : 0 ≤ p ∧ p ≤ 3) : Con Try.prog 89 [] [ag l,ai p] [] (.o (.ag ((Enc.e (fresh l p)).map (V1.rd [])))) := by
 have hc := I_StartOf l p hg hl hp
 refine Con.of Try.func89 J Try.ntmps89 J (fun E => ?_)
 refine zy (M1 (Qq J J J J) J J (M1 (Qx J J J) J J (zz (zy (z4 J J J (z0 J ?_))))));refine M1 (Zi J J (hc) J J J) J J ?_;refine zx (Q8 J J J) J (ze J (ze J (z1 J (z1 J (zz (zy (z0 J (z0 J (z0 J ?_)))))))));refine zx (Zf J J J J J) J ?_;refine Qy J J J J J J J J J (zz (Xa (F_r ?_)))
 exact Xm J J J J (X3 [] (by decide) J J J)
theorem S_fresh (l : TLevel) (p : Int) (hg : Enc.gd l) (hl : levelOk l = true) (hp : 0 ≤ p ∧ p ≤ 3) : Con Try.prog 42 [] [ag l,ai p] [] (.o (.ag ((Enc.e (fresh l p)).map (V1.rd [])))) := by
 have hc := S_StartOf l p hg hl hp
 refine Con.of Try.func42 J Try.ntmps42 J (fun E => ?_)
 refine zy (M1 (Qq J J J J) J J (M1 (Qx J J J) J J (zz (zy (z4 J J J (z0 J ?_))))));refine M1 (Zi J J (hc) J J J) J J ?_;refine zx (Q8 J J J) J (ze J (ze J (z1 J (z1 J (zz (zy (z0 J (z0 J (z0 J ?_)))))))));refine zx (Zf J J J J J) J ?_;refine Qy J J J J J J J J J (zz (Xa (F_r ?_)))
 exact Xm J J J J (X3 [] (by decide) J J J)
theorem row6w {a b c d e : Ob} {k : Nat} {x y : List (List T)} (h : x = y) : [a,b,c,d,e,Ob.row k x] = [a,b,c,d,e,Ob.row k y] := by rw [h]
def freshs (l : TLevel) (k : Nat) : List TBody := (List.range k).map fun (k : Nat) => fresh l (k : Int)
theorem freshs_succ (l : TLevel) (k : Nat) : freshs l (k + 1) = freshs l k ++ [fresh l k] := by simp [freshs,List.range_succ]
theorem freshs_len (l : TLevel) (k : Nat) : (freshs l k).length = k := by simp [freshs]
theorem newWorld_gd {l : TLevel} {n : Nat} {seed : Int} (hg : Enc.gd l) (hl : levelOk l = true) (hn : 1 ≤ n ∧ n ≤ 4) (hs : inR seed 0 65535 = true) : Enc.gd (newWorld l n seed) := by
 have h0 : I64 0 := ⟨by decide,by decide⟩
 have hsd := Yy.1 hs
 refine ⟨hg,h0,⟨by show (-9223372036854775808 : Int) ≤ seed; omega,by show seed ≤ 9223372036854775807; omega⟩,⟨by simp [newWorld]; omega,fun x hx => ?_⟩,⟨by simp [newWorld]; omega,fun b hb => ?_⟩⟩
 ·have : x = 0 := by simpa [newWorld] using List.eq_of_mem_replicate hx
  rw [this]; exact h0
 ·simp only [newWorld,List.mem_map,List.mem_range] at hb
  obtain ⟨k,hk,rfl⟩ := hb
  obtain ⟨_,h3,h4⟩ := fresh_free hl (p := (k : Int)) (by omega)
  exact ⟨h0,⟨by show (-9223372036854775808 : Int) ≤ (k : Int); omega,by show (k : Int) ≤ 9223372036854775807; omega⟩,⟨by omega,by omega⟩,⟨by omega,by omega⟩,h0,h0,⟨by simp only [fresh]; omega,by simp only [fresh]; omega⟩,⟨by simp only [fresh]; omega,by simp only [fresh]; omega⟩,h0⟩
theorem reps_succ (k : Nat) : els (List.replicate k (0 : Int)) ++ [[.v (.int .i64 0)]] = els (List.replicate (k + 1) (0 : Int)) := by rw [List.replicate_succ']; simp [els,Enc.e]
theorem row65 {a b c d e : Ob} {k : Nat} {x y : List (List T)} (h : x = y) : [a,b,c,d,Ob.row k x,e] = [a,b,c,d,Ob.row k y,e] := by rw [h]
theorem S_NewWorld (l : TLevel) (n : Nat) (seed : Int) (hg : Enc.gd l) (hL : l.Rows.length ≤ 1048576) (hl : levelOk l = true) (hn : 1 ≤ n ∧ n ≤ 4) (hs : inR seed 0 65535 = true) : Con Try.prog 18 [] [ag l,ai n,ai seed] (ownO (Enc.e (newWorld l n seed))) (.tu [.ag (ownV 0 (Enc.e (newWorld l n seed))),.c (bv true)]) := by
 have hwk := S_WorldOk (newWorld l n seed) (newWorld_gd hg hl hn hs)
 rw [newWorld_ok hl hn hs] at hwk
 have hcl := S_copyLevel l hg hL
 refine Con.of Try.func18 J Try.ntmps18 J (fun E => ?_)
 refine zy (M1 (Qq J J J J) J J (M1 (Qx J J J) J J (z1 J (zz (zy (z4 J J J ?_))))));refine M1 (Zi J J (hcl) J J J) J J ?_;refine z0 J (zx (Zf J J J J J) J (M1 (Qx J J J) J J ?_));refine Qy J J J J J J J J J (zz (Qd (zy (z1 J (zz (Qk ?_))))))
 refine AWP.pre (st' := (⟨_,[(1,I n),(3,.o (.c (.ptr 0 0))),(6,.o (.c (.ptr 1 0))),(8,.o (.c (.ptr 3 0))),(9,I 0)],[.box ((Enc.e l).map (V1.rd [])),.box [nilV,jn 0,jn 0,nilV,nilV],.row 1 (els l.Rows),.box [.ref 2,jn 0,jn seed,nilV,nilV]]⟩ : St)) ?_ (W_gj [0,1,2,3] J)
 refine AWP.pre ?_ (Wk.nilbox (p := 3) (i := 3) 1 J J)
 refine AWP.pre ?_ (Wk.nilbox (p := 3) (i := 4) 9 J J)
 refine A_lq (fun m st => ∃ k : Nat,k + m = n ∧ (True) ∧ st = (⟨_,[(1,I n),(3,.o (.c (.ptr 0 0))),(6,.o (.c (.ptr 1 0))),(8,.o (.c (.ptr 3 0))),(9,I k)],[.box ((Enc.e l).map (V1.rd [])),.box [nilV,jn 0,jn 0,nilV,nilV],.row 1 (els l.Rows),.box [.ref 2,jn 0,jn seed,.ref 4,.ref 5],.row 1 (els (List.replicate k (0 : Int))),.row 9 (els (freshs l k))]⟩ : St)) (n) ⟨_,⟨0,by omega,trivial,J⟩,W_gj [0,1,2,3,4,5] J⟩ ?_
 rintro m_A _ ⟨k,hk_A,hp_A,rfl⟩
 have hlk := Yl (freshs l k)
 have hlk2 := freshs_len l k
 have hl0 : (els (List.replicate k (0 : Int))).length = k := by rw [Yl,List.length_replicate]
 have f2 : decide ((k : Int) ≤ 4) = true := decide_eq_true (by omega)
 by_cases h3 : k < n
 ·have f1 : decide ((k : Int) < n) = true := decide_eq_true (by omega)
  have hf := S_fresh l k hg hl (by omega)
  refine Qd (zy (z0 J (z0 J (z9a J (by assumption) (z0 J (z5 J (z0 J (z5 J (z9b J (by assumption) (zpT J ?_))))))))));refine zz (Qm J (Qh (Q0 (Qd (Qk (zy (z2 J J J (z3 J (M1 (Zd J J J J J J) J J ?_)))))))));refine Xy J J J J J J J J J J (by omega) (by omega) ?_;refine z2 J J J ?_;refine Q5 J J J J J J J J (zz ?_)
  refine AWP.pre (st' := (⟨_,[(1,I n),(3,.o (.c (.ptr 0 0))),(6,.o (.c (.ptr 1 0))),(8,.o (.c (.ptr 3 0))),(9,I k)],[.box ((Enc.e l).map (V1.rd [])),.box [nilV,jn 0,jn 0,nilV,nilV],.row 1 (els l.Rows),.box [.ref 2,jn 0,jn seed,.ref 4,.ref 5],.row 1 (els (List.replicate (k + 1) (0 : Int))),.row 9 (els (freshs l k))]⟩ : St)) ?_ (X5 [0,1,2,3,4,5] (by decide) J ((row65 (reps_succ k).symm)) (.c J (.c J (.c J (.c J (.c J (.nil)))))))
  refine Xi [[],[0],[],[],[2,3],[2,3,4],(u9 6),(u9 7),(u9 8)] [[],[28],[],[],[30,31],[30,31,32],[28,29,30,31,32,33],[28,29,30,31,32,33,34],[28,29,30,31,32,33,34,35]] [[30,31,32,33],[30,31,32,33],[28,29,31],[28,29,30],[28,29],[28,29],[],[],[]] J (DR.s (Qf J J J J (by decide)) J J (DR.s (Qg J J J J J) J J (DR.s (Qu J J J J J J) J J (DR.s (Qa J J J) J J ?_))));refine DR.s (Zi J J (hf) J J J) J J ?_;refine DR.s (Zd J J J J J J) J J (DR.stop (by kernel_rfl) (by kernel_rfl) ?_);refine AL.weak (st' := (⟨_,[(1,I n),(3,.o (.c (.ptr 0 0))),(6,.o (.c (.ptr 1 0))),(8,.o (.c (.ptr 3 0))),(9,I k),(29,.o (.c (.ref 5))),(33,.o (.c (.sb 6 1 9)))],[.box ((Enc.e l).map (V1.rd [])),.box [nilV,jn 0,jn 0,nilV,nilV],.row 1 (els l.Rows),.box [.ref 2,jn 0,jn seed,.ref 4,.ref 5],.row 1 (els (List.replicate (k + 1) (0 : Int))),.row 9 (els (freshs l k)),.box [jn 0,jn (k : Int),jn (spX (startT l k)),jn (spY (startT l k)),jn 0,jn 0,jn 1,jn 3,jn 0]]⟩ : St)) (W_gj [0,1,2,3,4,5,6] J) ?_;refine Xx J J J J J J J J J J J J J J (by omega) (by omega) ?_;refine z2 J J J ?_;refine Q5 J J J J J J J J (Qe (Q1 (Q0 (Qc (z0 J (z7 J (by omega) (z1 J (zz ?_))))))))
  exact ⟨n - (k + 1),by omega,(fun k : Nat => (⟨_,[(1,I n),(3,.o (.c (.ptr 0 0))),(6,.o (.c (.ptr 1 0))),(8,.o (.c (.ptr 3 0))),(9,I k)],[.box ((Enc.e l).map (V1.rd [])),.box [nilV,jn 0,jn 0,nilV,nilV],.row 1 (els l.Rows),.box [.ref 2,jn 0,jn seed,.ref 4,.ref 5],.row 1 (els (List.replicate k (0 : Int))),.row 9 (els (freshs l k))]⟩ : St)) (k + 1),⟨k + 1,by omega,trivial,J⟩,X5 [0,1,2,3,4,5] (by decide) J (row6w (by rw [freshs_succ]; simp [els]; rfl)) (.c J (.c J (.c J (.c J (.c J (.nil))))))⟩
 have f1 : decide ((k : Int) < n) = false := decide_eq_false (by omega)
 have h3 : k = n := by omega
 subst h3
 refine Qd (zy (z0 J (z0 J (z9a J (by assumption) (z0 J (z6 J (z6 J (zpF J (zz ?_)))))))));refine Ql J (Q9 (T_x (T_x (Xl (Q0 (Qd (zy (z4 J J J ?_))))))));refine zx (Qj J J (hwk) J) J ?_;refine zn J (zz (Ql J (Qh (Q0 (zy (z4 J J J ?_))))));refine Qy J J J J J J J J J (z1 J (zz (Xa (F_r ?_))))
 exact Xn J J J J J (X3 [2,4,5] (by decide) J J J)
end
section
open Go.RowKit

instance : Enc UInt8 := ⟨1,by omega,fun b => [.v (.int .u8 (b.toNat : Int))],fun _ => rfl,fun _ => True,fun _ => 0⟩
structure Cu where
 i : Nat
 h : Int
@[reducible] def cub (b : List UInt8) (c : Cu) : Ob := .box [.rd [] (sl b),jn c.i,jn c.h]
def nextH (h : Int) : Int := IntKind.i64.wrap (IntKind.i64.wrap (h * 6364136223846793005) + 1442695040888963407)
def rawX (h : Int) : Int := andI (xorI (h.fdiv (2 ^ (33 : Int).toNat)) (h.fdiv (2 ^ (45 : Int).toNat))) 255
def addX (x : Int) (y : UInt8) : Int := (((x + (y.toNat : Int)).toNat &&& (255 : Int).toNat : Nat) : Int)
def byteC (b : List UInt8) (c : Cu) : Int × Cu := match b[c.i]? with
 | some y => (addX (rawX (nextH c.h)) y,⟨c.i + 1,nextH c.h⟩)
 | none => (rawX (nextH c.h),⟨c.i,nextH c.h⟩)
theorem rawX_rng (h : Int) : 0 ≤ rawX h ∧ rawX h ≤ 255 := andI_rng (by omega)
theorem addX_rng (x : Int) (y : UInt8) : 0 ≤ addX x y ∧ addX x y ≤ 255 := by
 unfold addX
 have : (x + (y.toNat : Int)).toNat &&& (255 : Int).toNat ≤ (255 : Int).toNat := Nat.and_le_right
 omega
theorem byteC_rng (b : List UInt8) (c : Cu) : 0 ≤ (byteC b c).1 ∧ (byteC b c).1 ≤ 255 := by
 unfold byteC
 split
 ·exact addX_rng _ _
 ·exact rawX_rng _
theorem Yd {b : List UInt8} {c : Cu} (h : c.i ≤ b.length) : (byteC b c).2.i ≤ b.length := by
 unfold byteC
 split
 ·rename_i y hy; have := Yu hy; simp only; omega
 ·exact h
theorem byte_at {b : List UInt8} {i : Nat} {y : UInt8} (h : b[i]? = some y) : (els b)[(i : Int).toNat]? = some (Enc.e y) := by
 rw [Int.toNat_natCast,List.getElem?_map,h]
 rfl
theorem S_l01Byte (b : List UInt8) (c : Cu) (hb : b.length ≤ 1048576) (hc : c.i ≤ b.length) : Con Try.prog 40 [cub b c,.gh 0 (.c (.ptr 0 0))] [.c (.ptr 0 0)] [cub b (byteC b c).2,.gh 0 (.c (.ptr 0 0))] (I (byteC b c).1) := by
 have hl := Yl b
 have hx := rawX_rng (nextH c.h)
 cases h : b[c.i]? with
 | none =>
  have e : byteC b c = (rawX (nextH c.h),⟨c.i,nextH c.h⟩) := by rw [byteC,h]
  rw [e]
  have hge := List.getElem?_eq_none_iff.1 h
  have f1 : decide ((c.i : Int) < (els b).length) = false := decide_eq_false (by omega)
  refine Con.of Try.func40 J Try.ntmps40 J (fun E => ?_)
  refine zy (z1 J (zz (zy (z0 J (z0 J (zx (Qz J J J) J (z2 J J J (z3 J ?_))))))));refine zx (q_mulW J J J J) J (zx (q_addW J J J J) J (zx (Qz J J J) J (z2 J J J ?_)));refine Q5 J J J J J J J J (zz (Qd ?_))
  refine AWP.pre (st' := (⟨_,[(0,.o (.c (.ptr 0 0)))],[.box [.rd [] (sl b),jn c.i,jn (nextH c.h)],.gh 0 (.c (.ptr 0 0))]⟩ : St)) ?_ (W_gj [0,1] J)
  skip
  refine Xi u8_9 u8_10 u8_11 J (DR.s (Qa J J J) J J (DR.s (Qz J J J) J J (DR.s (Qf J J J J (by decide)) J J (DR.s (Qg J J J J J) J J (DR.s (q_shrW J J J J ⟨by omega,by decide⟩) J J (DR.s (Qa J J J) J J (DR.s (Qz J J J) J J (DR.s (Qf J J J J (by decide)) J J (DR.s (Qg J J J J J) J J (DR.s (q_shrW J J J J ⟨by omega,by decide⟩) J J (DR.s (q_xorW J J J J) J J ?_)))))))))));refine DR.s (q_andW J J J J) J J (DR.s (Qb J J J) J J (DR.stop (by kernel_rfl) (by kernel_rfl) (zz ?_)))
  refine AWP.pre (st' := (⟨_,[(0,.o (.c (.ptr 0 0))),(3,I (rawX (nextH c.h)))],[.box [.rd [] (sl b),jn c.i,jn (nextH c.h)],.gh 0 (.c (.ptr 0 0))]⟩ : St)) ?_ (W_gj [0,1] J)
  refine Qd (Qd (Xi u8_12 u8_13 u8_14 J (DR.s (Qa J J J) J J (DR.s (Qz J J J) J J (DR.s (Qf J J J J (by decide)) J J (DR.s (Qg J J J J J) J J (DR.s (Qa J J J) J J (DR.s (Qz J J J) J J (DR.s (Qf J J J J (by decide)) J J (DR.s (Qg J J J J J) J J (DR.s (Zq J J J) J J ?_)))))))))));refine DR.s (Qr J J J J (by assumption)) J J (DR.stop (by kernel_rfl) (by kernel_rfl) (zz ?_))
  refine AWP.pre (st' := (⟨_,[(0,.o (.c (.ptr 0 0))),(3,I (rawX (nextH c.h))),(34,B false)],[.box [.rd [] (sl b),jn c.i,jn (nextH c.h)],.gh 0 (.c (.ptr 0 0))]⟩ : St)) ?_ (W_gj [0,1] J)
  refine Ql J (Qh (Q0 (zy (z0 J (z1 J (zz (Xa (F_r ?_))))))))
  exact Xp J J (X3 [0,1] (by decide) J J J)
 | some y =>
  have e : byteC b c = (addX (rawX (nextH c.h)) y,⟨c.i + 1,nextH c.h⟩) := by rw [byteC,h]
  rw [e]
  have hlt := Yu h
  have hy : (y.toNat : Int) ≤ 255 := by have := y.toNat_lt; omega
  have hy0 : 0 ≤ (y.toNat : Int) := by omega
  have f1 : decide ((c.i : Int) < (els b).length) = true := decide_eq_true (by omega)
  refine Con.of Try.func40 J Try.ntmps40 J (fun E => ?_)
  refine zy (z1 J (zz (zy (z0 J (z0 J (zx (Qz J J J) J (z2 J J J (z3 J ?_))))))));refine zx (q_mulW J J J J) J (zx (q_addW J J J J) J (zx (Qz J J J) J (z2 J J J ?_)));refine Q5 J J J J J J J J (zz (Qd ?_))
  refine AWP.pre (st' := (⟨_,[(0,.o (.c (.ptr 0 0)))],[.box [.rd [] (sl b),jn c.i,jn (nextH c.h)],.gh 0 (.c (.ptr 0 0))]⟩ : St)) ?_ (W_gj [0,1] J)
  skip
  refine Xi u8_9 u8_10 u8_11 J (DR.s (Qa J J J) J J (DR.s (Qz J J J) J J (DR.s (Qf J J J J (by decide)) J J (DR.s (Qg J J J J J) J J (DR.s (q_shrW J J J J ⟨by omega,by decide⟩) J J (DR.s (Qa J J J) J J (DR.s (Qz J J J) J J (DR.s (Qf J J J J (by decide)) J J (DR.s (Qg J J J J J) J J (DR.s (q_shrW J J J J ⟨by omega,by decide⟩) J J (DR.s (q_xorW J J J J) J J ?_)))))))))));refine DR.s (q_andW J J J J) J J (DR.s (Qb J J J) J J (DR.stop (by kernel_rfl) (by kernel_rfl) (zz ?_)))
  refine AWP.pre (st' := (⟨_,[(0,.o (.c (.ptr 0 0))),(3,I (rawX (nextH c.h)))],[.box [.rd [] (sl b),jn c.i,jn (nextH c.h)],.gh 0 (.c (.ptr 0 0))]⟩ : St)) ?_ (W_gj [0,1] J)
  refine Qd (Qd (Xi u8_12 u8_13 u8_14 J (DR.s (Qa J J J) J J (DR.s (Qz J J J) J J (DR.s (Qf J J J J (by decide)) J J (DR.s (Qg J J J J J) J J (DR.s (Qa J J J) J J (DR.s (Qz J J J) J J (DR.s (Qf J J J J (by decide)) J J (DR.s (Qg J J J J J) J J (DR.s (Zq J J J) J J ?_)))))))))));refine DR.s (Qr J J J J (by assumption)) J J (DR.stop (by kernel_rfl) (by kernel_rfl) (zz ?_))
  refine AWP.pre (st' := (⟨_,[(0,.o (.c (.ptr 0 0))),(3,I (rawX (nextH c.h))),(34,B true)],[.box [.rd [] (sl b),jn c.i,jn (nextH c.h)],.gh 0 (.c (.ptr 0 0))]⟩ : St)) ?_ (W_gj [0,1] J)
  refine Qm J (Qd ?_)
  have he := byte_at h
  skip
  refine Xi [[],[],[1],[1,2],[1,2,3],[],[5],[5,6],[5,6,7],[1,2,3,4,5,6,7,8],[1,2,3,4,5,6,7,8,9],[1,2,3,4,5,6,7,8,9,10],(u9 12),(u9 13),(u9 14)] [[],[],[36],[36,37],[36,37,38],[],[40],[40,41],[40,41,42],[36,37,38,39,40,41,42,43],[36,37,38,39,40,41,42,43,44],[36,37,38,39,40,41,42,43,44,45],[35,36,37,38,39,40,41,42,43,44,45,46],[35,36,37,38,39,40,41,42,43,44,45,46,47],[35,36,37,38,39,40,41,42,43,44,45,46,47,48]] [[36,37,38,39,40,41,42,43,44,45,46],[35,40,41,42,43],[35,40,41,42,43],[35,40,41,42,43],[35,40,41,42,43],[35,36,37,38,39],[35,36,37,38,39],[35,36,37,38,39],[35,36,37,38,39],[35],[35],[35],[],[],[]] J (DR.s (Qa J J J) J J (DR.s (Qa J J J) J J (DR.s (Qz J J J) J J (DR.s (Qf J J J J (by decide)) J J (DR.s (Qg J J J J J) J J (DR.s (Qa J J J) J J (DR.s (Qz J J J) J J (DR.s (Qf J J J J (by decide)) J J (DR.s (Qg J J J J J) J J (DR.s (Q2 J J J J (by omega) (by assumption) J) J J (DR.s (Zu J J J J) J J ?_)))))))))));refine DR.s (Zj J J J J (Kf (by omega))) J J (DR.s (Qs J J J J (by omega)) J J (DR.s (Zc J J J J (by omega)) J J (DR.s (Qb J J J) J J (DR.stop (by kernel_rfl) (by kernel_rfl) (zz ?_)))))
  refine AWP.pre (st' := (⟨_,[(0,.o (.c (.ptr 0 0))),(3,I (addX (rawX (nextH c.h)) y))],[.box [.rd [] (sl b),jn c.i,jn (nextH c.h)],.gh 0 (.c (.ptr 0 0))]⟩ : St)) ?_ (W_gj [0,1] J)
  refine Qc (z0 J (z0 J (zx (Qz J J J) J (z2 J J J (z3 J (z7 J (by omega) (zx (Qz J J J) J (z2 J J J ?_))))))));refine Q5 J J J J J J J J (zz (zy (z0 J (z1 J (zz (Xa (F_r ?_)))))))
  exact Xp J J (X3 [0,1] (by decide) J J J)
def belowC (b : List UInt8) (n : Int) (c : Cu) : Int × Cu :=
 if n ≤ 0 then (0,c) else if n ≤ 256 then ((byteC b c).1 % n,(byteC b c).2)
 else ((((byteC b c).1 * 16777216 + (byteC b (byteC b c).2).1 * 65536) + (byteC b (byteC b (byteC b c).2).2).1 * 256 + (byteC b (byteC b (byteC b (byteC b c).2).2).2).1) % n,(byteC b (byteC b (byteC b (byteC b c).2).2).2).2)
theorem Ya {b : List UInt8} {n : Int} {c : Cu} (h : 0 < n) : 0 ≤ (belowC b n c).1 ∧ (belowC b n c).1 < n := by
 unfold belowC
 rw [if_neg (by omega)]
 split
 ·exact ⟨Int.emod_nonneg _ (by omega),Int.emod_lt_of_pos _ h⟩
 ·exact ⟨Int.emod_nonneg _ (by omega),Int.emod_lt_of_pos _ h⟩
theorem X9 {b : List UInt8} {n : Int} {c : Cu} (h : c.i ≤ b.length) : (belowC b n c).2.i ≤ b.length := by
 unfold belowC
 split
 ·exact h
 ·split
  ·exact Yd h
  ·exact Yd (Yd (Yd (Yd h)))
theorem X0 (b : List UInt8) (n : Int) (c : Cu) (hb : b.length ≤ 1048576) (hc : c.i ≤ b.length) (hn : n ≤ 1099511627776) : Con Try.prog 17 [cub b c,.gh 0 (.c (.ptr 0 0))] [.c (.ptr 0 0),ai n] [cub b (belowC b n c).2,.gh 0 (.c (.ptr 0 0))] (I (belowC b n c).1) := by
 by_cases h0 : n ≤ 0
 ·have e : belowC b n c = (0,c) := by rw [belowC,if_pos h0]
  rw [e]
  have f0 : decide (n ≤ 0) = true := decide_eq_true h0
  refine Con.of Try.func17 J Try.ntmps17 J (fun E => ?_)
  refine zy (z1 J (zz (Qd (zy (z0 J (z9b J (by assumption) (zz ?_)))))));refine Qm J (zy (z1 J (zz (Xa (T_r (F_r ?_))))))
  exact Xp J J (X3 [0,1] (by decide) J J J)
 have f0 : decide (n ≤ 0) = false := decide_eq_false h0
 by_cases h1 : n ≤ 256
 ·have e : belowC b n c = ((byteC b c).1 % n,(byteC b c).2) := by rw [belowC,if_neg h0,if_pos h1]
  rw [e]
  have f1 : decide (n ≤ 256) = true := decide_eq_true h1
  have k1 := S_l01Byte b c hb hc
  have r1 := byteC_rng b c
  generalize byteC b c = p1 at k1 r1
  obtain ⟨x1,c1⟩ := p1
  simp only at k1 r1
  refine Con.of Try.func17 J Try.ntmps17 J (fun E => ?_)
  refine zy (z1 J (zz (Qd (zy (z0 J (z9b J (by assumption) (zz ?_)))))));refine Ql J (Qh (Q0 (Qd (zy (z0 J (z9b J (by assumption) (zz (Qm J (Qd ?_)))))))));refine Qc (z0 J ?_);refine Xz (lo := [_]) (gs := [(0,.c (.ptr 0 0))]) (lo' := [_]) (new := []) [0] [(0,0,.ptr 0 0)] (k1) J J J J J J J J J J J J J J J J J ?_;refine z0 J (zx (Zz J J J J (by omega)) J (z1 J (zz (Xa (T_r (F_r ?_))))))
  exact Xp J J (X3 [0,1] (by decide) J J J)
 ·have f1 : decide (n ≤ 256) = false := decide_eq_false h1
  have e : belowC b n c = ((((byteC b c).1 * 16777216 + (byteC b (byteC b c).2).1 * 65536) + (byteC b (byteC b (byteC b c).2).2).1 * 256 + (byteC b (byteC b (byteC b (byteC b c).2).2).2).1) % n,(byteC b (byteC b (byteC b (byteC b c).2).2).2).2) := by rw [belowC,if_neg h0,if_neg h1]
  rw [e]
  have k1 := S_l01Byte b c hb hc
  have k2 := S_l01Byte b (byteC b c).2 hb (Yd hc)
  have k3 := S_l01Byte b (byteC b (byteC b c).2).2 hb (Yd (Yd hc))
  have k4 := S_l01Byte b (byteC b (byteC b (byteC b c).2).2).2 hb (Yd (Yd (Yd hc)))
  have r1 := byteC_rng b c
  have r2 := byteC_rng b (byteC b c).2
  have r3 := byteC_rng b (byteC b (byteC b c).2).2
  have r4 := byteC_rng b (byteC b (byteC b (byteC b c).2).2).2
  generalize byteC b (byteC b (byteC b (byteC b c).2).2).2 = p4 at k4 r4
  generalize byteC b (byteC b (byteC b c).2).2 = p3 at k3 r3 k4
  generalize byteC b (byteC b c).2 = p2 at k2 r2 k3
  generalize byteC b c = p1 at k1 r1 k2
  obtain ⟨x1,c1⟩ := p1
  obtain ⟨x2,c2⟩ := p2
  obtain ⟨x3,c3⟩ := p3
  obtain ⟨x4,c4⟩ := p4
  simp only at k1 k2 k3 k4 r1 r2 r3 r4
  refine Con.of Try.func17 J Try.ntmps17 J (fun E => ?_)
  refine zy (z1 J (zz (Qd (zy (z0 J (z9b J (by assumption) (zz ?_)))))));refine Ql J (Qh (Q0 (Qd (zy (z0 J (z9b J (by assumption) (zz (Ql J (Qh ?_)))))))));refine Q0 (zy (z0 J ?_));refine Xz (lo := [_]) (gs := [(0,.c (.ptr 0 0))]) (lo' := [_]) (new := []) [0] [(0,0,.ptr 0 0)] (k1) J J J J J J J J J J J J J J J J J ?_;refine z1 J (zz (zy (z0 J ?_)));refine Xz (lo := [_]) (gs := [(0,.c (.ptr 0 0))]) (lo' := [_]) (new := []) [0] [(0,0,.ptr 0 0)] (k2) J J J J J J J J J J J J J J J J J ?_;refine z1 J (zz (zy (z0 J ?_)));refine Xz (lo := [_]) (gs := [(0,.c (.ptr 0 0))]) (lo' := [_]) (new := []) [0] [(0,0,.ptr 0 0)] (k3) J J J J J J J J J J J J J J J J J ?_;refine z1 J (zz (zy (z0 J ?_)));refine Xz (lo := [_]) (gs := [(0,.c (.ptr 0 0))]) (lo' := [_]) (new := []) [0] [(0,0,.ptr 0 0)] (k4) J J J J J J J J J J J J J J J J J ?_;refine z1 J (zz (zy (z0 J (zx (Zw J J J J (by omega)) J (z0 J (zx (Zw J J J J (by omega)) J (z7 J (by omega) (z0 J (zx (Zw J J J J (by omega)) J ?_)))))))));refine z7 J (by omega) (z0 J (z7 J (by omega) (z0 J (zx (Zz J J J J (by omega)) J (z1 J (zz (Xa (F_r ?_))))))))
  exact Xp J J (X3 [0,1] (by decide) J J J)
def pickC_ (b : List UInt8) (xs : List Int) (c : Cu) : Int × Cu := (xs.getD (belowC b xs.length c).1.toNat 0,(belowC b xs.length c).2)
theorem S_l01PickInt (b : List UInt8) (xs : List Int) (c : Cu) (hb : b.length ≤ 1048576) (hc : c.i ≤ b.length) (hx : 0 < xs.length) (hx2 : xs.length ≤ 1000) : Con Try.prog 85 [cub b c,.gh 0 (.c (.ptr 0 0))] [.c (.ptr 0 0),al xs] [cub b (pickC_ b xs c).2,.gh 0 (.c (.ptr 0 0))] (I (pickC_ b xs c).1) := by
 have hl := Yl xs
 have k1 := X0 b xs.length c hb hc (by omega)
 have r1 := Ya (b := b) (n := xs.length) (c := c) (by omega)
 rw [pickC_]
 generalize belowC b xs.length c = p1 at k1 r1
 obtain ⟨x1,c1⟩ := p1
 simp only at k1 r1
 rw [← hl] at k1
 obtain ⟨i,rfl⟩ : ∃ i : Nat,x1 = i := ⟨x1.toNat,by omega⟩
 have hi : i < xs.length := by omega
 have he : (els xs)[(i : Int).toNat]? = some (Enc.e xs[i]) := by rw [Int.toNat_natCast,List.getElem?_map,List.getElem?_eq_getElem hi]; rfl
 rw [show xs.getD ((i : Int),c1).1.toNat 0 = xs[i] by simp [List.getD_eq_getElem?_getD,hi]]
 refine Con.of Try.func85 J Try.ntmps85 J (fun E => ?_)
 refine zy (z1 J (zz (zy (z0 J (z0 J (z0 J (zx (Zq J J J) J ?_)))))));refine Xz (lo := [_]) (gs := [(0,.c (.ptr 0 0))]) (lo' := [_]) (new := []) [0] [(0,0,.ptr 0 0)] (k1) J J J J J J J J J J J J J J J J J ?_;refine zx (Q2 J J J J (by omega) (by assumption) J) J (zx (Zu J J J J) J (z1 J (zz (Xa (F_r ?_)))))
 exact Xp J J (X3 [0,1] (by decide) J J J)
end
section
open Go.RowKit

def inputC (b : List UInt8) (c : Cu) : Int × Cu := pickC_ b [0,1,2,2,6,8,10,12,9,(belowC b 16 c).1] (belowC b 16 c).2
theorem pickC_ok {b : List UInt8} {xs : List Int} {c : Cu} (h : c.i ≤ b.length) : (pickC_ b xs c).2.i ≤ b.length := X9 h
theorem inputC_ok {b : List UInt8} {c : Cu} (h : c.i ≤ b.length) : (inputC b c).2.i ≤ b.length := pickC_ok (X9 h)
theorem pickC_all {b : List UInt8} {xs : List Int} {c : Cu} {q : Int → Prop} (h0 : 0 < xs.length) (h : ∀ x ∈ xs,q x) : q (pickC_ b xs c).1 := by
 have r := Ya (b := b) (n := xs.length) (c := c) (by omega)
 have hi : (belowC b xs.length c).1.toNat < xs.length := by omega
 simp only [pickC_,List.getD_eq_getElem?_getD,List.getElem?_eq_getElem hi,Option.getD_some]
 exact h _ (List.getElem_mem hi)
theorem inputC_rng (b : List UInt8) (c : Cu) : 0 ≤ (inputC b c).1 ∧ (inputC b c).1 ≤ 15 := by
 have r := Ya (b := b) (n := 16) (c := c) (by omega)
 refine pickC_all (q := fun x => 0 ≤ x ∧ x ≤ 15) (by simp) fun x hx => ?_
 simp only [List.mem_cons,List.not_mem_nil,or_false] at hx
 omega
def rowC (b : List UInt8) : Nat → Cu → List Int × Cu
 | 0,c => ([],c)
 | n + 1,c => ((rowC b n c).1 ++ [(inputC b (rowC b n c).2).1],(inputC b (rowC b n c).2).2)
theorem rowC_ok {b : List UInt8} {c : Cu} (h : c.i ≤ b.length) : ∀ n,(rowC b n c).2.i ≤ b.length
 | 0 => h
 | n + 1 => inputC_ok (rowC_ok h n)
theorem rowC_len {b : List UInt8} {c : Cu} : ∀ n,(rowC b n c).1.length = n
 | 0 => rfl
 | n + 1 => by rw [rowC,List.length_append,rowC_len n]; rfl
theorem rowC_rng {b : List UInt8} {c : Cu} : ∀ n,∀ x ∈ (rowC b n c).1,0 ≤ x ∧ x ≤ 15
 | 0,x,hx => by cases hx
 | n + 1,x,hx => by
  rw [rowC] at hx
  rcases List.mem_append.1 hx with h | h
  ·exact rowC_rng n x h
  ·rw [List.mem_singleton] at h; subst h; exact inputC_rng _ _
def rowsC (b : List UInt8) (n : Nat) : Nat → Cu → List (List Int) × Cu
 | 0,c => ([],c)
 | k + 1,c => ((rowsC b n k c).1 ++ List.replicate ((belowC b 4 (rowC b n (rowsC b n k c).2).2).1.toNat + 1) (rowC b n (rowsC b n k c).2).1,(belowC b 4 (rowC b n (rowsC b n k c).2).2).2)
theorem rowsC_ok {b : List UInt8} {n : Nat} {c : Cu} (h : c.i ≤ b.length) : ∀ k,(rowsC b n k c).2.i ≤ b.length
 | 0 => h
 | k + 1 => X9 (rowC_ok (rowsC_ok h k) n)
theorem rowsC_all {b : List UInt8} {n : Nat} {c : Cu} : ∀ k,∀ r ∈ (rowsC b n k c).1,r.length = n ∧ ∀ x ∈ r,0 ≤ x ∧ x ≤ 15
 | 0,r,hr => by cases hr
 | k + 1,r,hr => by
  rw [rowsC] at hr
  rcases List.mem_append.1 hr with h | h
  ·exact rowsC_all k r h
  ·rw [List.eq_of_mem_replicate h]
   exact ⟨rowC_len n,rowC_rng n⟩
theorem rowsC_len {b : List UInt8} {n : Nat} {c : Cu} : ∀ k,(rowsC b n k c).1.length ≤ 4 * k
 | 0 => by simp [rowsC]
 | k + 1 => by
  have h := rowsC_len (b := b) (n := n) (c := c) k
  have r := Ya (b := b) (n := 4) (c := (rowC b n (rowsC b n k c).2).2) (by omega)
  rw [rowsC,List.length_append,List.length_replicate]
  omega
def drawRows (b : List UInt8) (n : Nat) (most : Int) (c : Cu) : List (List Int) × Cu := rowsC b n (belowC b most c).1.toNat (belowC b most c).2
theorem S_l02Input (b : List UInt8) (c : Cu) (hb : b.length ≤ 1048576) (hc : c.i ≤ b.length) : Con Try.prog 66 [cub b c,.gh 0 (.c (.ptr 0 0))] [.c (.ptr 0 0)] [cub b (inputC b c).2,.gh 0 (.c (.ptr 0 0))] (I (inputC b c).1) := by
 have k1 := X0 b 16 c hb hc (by omega)
 have k2 := S_l01PickInt b [0,1,2,2,6,8,10,12,9,(belowC b 16 c).1] (belowC b 16 c).2 hb (X9 hc) (by simp) (by simp)
 rw [inputC]
 generalize belowC b 16 c = p1 at k1 k2
 obtain ⟨x1,c1⟩ := p1
 simp only at k1 k2
 generalize pickC_ b [0,1,2,2,6,8,10,12,9,x1] c1 = p2 at k2
 obtain ⟨x2,c2⟩ := p2
 simp only at k2
 refine Con.of Try.func66 J Try.ntmps66 J (fun E => ?_)
 refine zy (z1 J (zz (zy (z0 J (z0 J ?_)))));refine Xz (lo := [_]) (gs := [(0,.c (.ptr 0 0))]) (lo' := [_]) (new := []) [0] [(0,0,.ptr 0 0)] (k1) J J J J J J J J J J J J J J J J J ?_;refine M1 (Zd J J J J J J) J J ?_;refine AL.weak (Wk.sbrow (q := 2) J J (Nat.le_of_ble_eq_true J)) ?_;refine AL.freeze (p := 2) J ?_;refine AL.weak (st' := (⟨_,[(3,.o (.c (.ptr 0 0))),(6,.o (.c (.rd [] (sl [0,1,2,2,6,8,10,12,9,x1]))))],[cub b c1,.gh 0 (.c (.ptr 0 0))]⟩ : St)) (W_gj [0,1] J) ?_;refine Xz (lo := [_]) (gs := [(0,.c (.ptr 0 0))]) (lo' := [_]) (new := []) [0] [(0,0,.ptr 0 0)] (k2) J J J J J J J J J J J J J J J J J ?_;refine z1 J (zz (Xa (F_r ?_)))
 exact Xp J J (X3 [0,1] (by decide) J J J)
theorem rw3c {a b : Ob} {k : Nat} {x y : List (List T)} (h : x = y) : [a,b,Ob.row k x] = [a,b,Ob.row k y] := by rw [h]
theorem S_l02Row (b : List UInt8) (n : Nat) (c : Cu) (hb : b.length ≤ 1048576) (hc : c.i ≤ b.length) (hn : n ≤ 1000) : Con Try.prog 44 [cub b c,.gh 0 (.c (.ptr 0 0))] [.c (.ptr 0 0),ai n] [cub b (rowC b n c).2,.gh 0 (.c (.ptr 0 0)),.row 1 (els (rowC b n c).1)] (.o (.c (.ref 2))) := by
 refine Con.of Try.func44 J Try.ntmps44 J (fun E => ?_)
 refine zy (z1 J (zz (zy (M1 (Ze J J J) J J (z1 J (zz (Qd ?_)))))));refine Qk ?_;refine A_lq (fun m st => ∃ k : Nat,k + m = n ∧ (True) ∧ st = (⟨_,[(0,.o (.c (.ptr 0 0))),(1,I n),(5,.o (.c (.ref 2)))],[cub b (rowC b k c).2,.gh 0 (.c (.ptr 0 0)),.row 1 (els (rowC b k c).1)]⟩ : St)) (n) ⟨_,⟨0,by omega,trivial,J⟩,W_gj [0,1,2] J⟩ ?_
 rintro m_A _ ⟨k,hk_A,hp_A,rfl⟩
 have hl := Yl (rowC b k c).1
 have hl2 := rowC_len (b := b) (c := c) k
 by_cases hlt : k < n
 ·have f0 : decide (((els (rowC b k c).1).length : Int) < n) = true := decide_eq_true (by omega)
  have k1 := S_l02Input b (rowC b k c).2 hb (rowC_ok hc k)
  refine Qd (zy (z0 J (zx (Zr J J J J) J (z0 J (z9a J (by assumption) (zz (Qm J (Qh (Q0 ?_)))))))));refine Qk (Qc (z0 J (z0 J ?_)));refine Xz (lo := [_]) (gs := [(0,.c (.ptr 0 0))]) (lo' := [_]) (new := []) [0] [(0,0,.ptr 0 0)] (k1) J J J J J J J J J J J J J J J J J ?_;refine M1 (Zd J J J J J J) J J ?_;refine Xy J J J J J J J J J J (by omega) (by omega) ?_;refine z1 J (Qe (Q1 (Q0 ?_)))
  exact ⟨n - (k + 1),by omega,(fun k : Nat => (⟨_,[(0,.o (.c (.ptr 0 0))),(1,I n),(5,.o (.c (.ref 2)))],[cub b (rowC b k c).2,.gh 0 (.c (.ptr 0 0)),.row 1 (els (rowC b k c).1)]⟩ : St)) (k + 1),⟨k + 1,by omega,trivial,J⟩,X5 [0,1,2] (by decide) J (rw3c (by rw [rowC,Yj]; rfl)) (.c J (.c J (.c J (.nil))))⟩
 ·have f0 : decide (((els (rowC b k c).1).length : Int) < n) = false := decide_eq_false (by omega)
  have hk : k = n := by omega
  subst hk
  refine Qd (zy (z0 J (zx (Zr J J J J) J (z0 J (z9a J (by assumption) (zz (Ql J (Q9 (T_x ?_)))))))));refine T_x (Xl (Q0 (zy (z0 J (z1 J (zz (Xa (F_r ?_))))))))
  exact Xp J J (X3 [0,1,2] (by decide) J J J)
theorem rw3s {a b : Ob} {x y : List T} (h : x = y) : [a,b,Ob.shr x] = [a,b,Ob.shr y] := by rw [h]
theorem rd_eq {x y : T} (h : x = y) : V.o (.c (.rd [] x)) = V.o (.c (.rd [] y)) := by rw [h]
theorem S_l02Rows (b : List UInt8) (n : Nat) (most : Int) (c : Cu) (hb : b.length ≤ 1048576) (hc : c.i ≤ b.length) (hn : n ≤ 1000) (hm : 1 ≤ most ∧ most ≤ 256) : Con Try.prog 19 [cub b c,.gh 0 (.c (.ptr 0 0))] [.c (.ptr 0 0),ai n,ai most] [cub b (drawRows b n most c).2,.gh 0 (.c (.ptr 0 0))] (.o (.c (.rd [] (sl (drawRows b n most c).1)))) := by
 have k1 := X0 b most c hb hc (by omega)
 have r1 := Ya (b := b) (n := most) (c := c) (by omega)
 have o1 := X9 (n := most) hc
 rw [drawRows]
 generalize belowC b most c = p1 at k1 r1 o1
 obtain ⟨x1,c1⟩ := p1
 simp only at k1 r1 o1
 obtain ⟨N0,rfl⟩ : ∃ N0 : Nat,x1 = N0 := ⟨x1.toNat,by omega⟩
 simp only [Int.toNat_natCast]
 refine Con.of Try.func19 J Try.ntmps19 J (fun E => ?_)
 refine zy (z1 J (zz (zy (M1 (Ze J J J) J J (z1 J (zz (Qd ?_)))))));refine zy (z0 J (z0 J ?_));refine AL.weak (Wk.toshr (p := 2) J) ?_;refine AL.weak (st' := (⟨_,[(0,.o (.c (.ptr 0 0))),(1,I n),(2,I most),(7,.o (.c (.ref 2))),(12,.o (.c (.ptr 0 0))),(13,I most)],[cub b c,.gh 0 (.c (.ptr 0 0)),.shr []]⟩ : St)) (W_gj [0,1,2] J) ?_;refine Xz (lo := [_]) (gs := [(0,.c (.ptr 0 0))]) (lo' := [_]) (new := []) [0] [(0,0,.ptr 0 0)] (k1) J J J J J J J J J J J J J J J J J ?_;refine z1 J (zz (Qk ?_));refine A_lq (fun m st => ∃ k : Nat,k + m = N0 ∧ (True) ∧ st = (⟨_,[(0,.o (.c (.ptr 0 0))),(1,I n),(7,.o (.c (.ref 2))),(8,I ((N0 : Int) - k))],[cub b (rowsC b n k c1).2,.gh 0 (.c (.ptr 0 0)),.shr ((rowsC b n k c1).1.map sl)]⟩ : St)) (N0) ⟨(fun k : Nat => (⟨_,[(0,.o (.c (.ptr 0 0))),(1,I n),(7,.o (.c (.ref 2))),(8,I ((N0 : Int) - k))],[cub b (rowsC b n k c1).2,.gh 0 (.c (.ptr 0 0)),.shr ((rowsC b n k c1).1.map sl)]⟩ : St)) 0,⟨0,by omega,trivial,J⟩,X5 [0,1,2] (by decide) J (J) (.c J (.c J (.c J (.cons (Xw (by omega)) (.nil)))))⟩ ?_
 rintro m_A _ ⟨k,hk_A,hp_A,rfl⟩
 by_cases hlt : k < N0
 ·have f0 : decide ((N0 : Int) - k > 0) = true := decide_eq_true (by omega)
  have f1 : decide (0 < (N0 : Int) - k) = true := decide_eq_true (by omega)
  have k2 := S_l02Row b n (rowsC b n k c1).2 hb (rowsC_ok o1 k) hn
  have k3 := X0 b 4 (rowC b n (rowsC b n k c1).2).2 hb (rowC_ok (rowsC_ok o1 k) n) (by omega)
  have r3 := Ya (b := b) (n := 4) (c := (rowC b n (rowsC b n k c1).2).2) (by omega)
  have hnext : rowsC b n (k + 1) c1 = ((rowsC b n k c1).1 ++ List.replicate ((belowC b 4 (rowC b n (rowsC b n k c1).2).2).1.toNat + 1) (rowC b n (rowsC b n k c1).2).1,(belowC b 4 (rowC b n (rowsC b n k c1).2).2).2) := rfl
  have hlk := rowsC_len (b := b) (n := n) (c := c1) k
  generalize belowC b 4 (rowC b n (rowsC b n k c1).2).2 = p3 at k3 r3 hnext
  obtain ⟨x3,c3⟩ := p3
  generalize rowC b n (rowsC b n k c1).2 = p2 at k2 k3 hnext
  obtain ⟨row,c2⟩ := p2
  simp only at k2 k3 r3 hnext
  obtain ⟨q,rfl⟩ : ∃ q : Nat,x3 = q := ⟨x3.toNat,by omega⟩
  simp only [Int.toNat_natCast] at hnext
  refine Qd (zy (z0 J (z9c J (by assumption) (zz (Qm J (Qh (Q0 (Qd (Qk ?_)))))))));refine zy (z0 J (z0 J ?_));refine Xz (lo := [_]) (gs := [(0,.c (.ptr 0 0))]) (lo' := [_]) (new := [_]) [0] [(0,0,.ptr 0 0)] (k2) J J J J J J J J J J J J J J J J J ?_;refine z1 J (zz (zy (z0 J ?_)));refine AL.freeze (p := 3) J ?_;refine AL.weak (st' := (⟨_,[(0,.o (.c (.ptr 0 0))),(22,.o (.c (.ptr 0 0))),(1,I n),(7,.o (.c (.ref 2))),(8,I ((N0 : Int) - k)),(9,.o (.c (.rd [] (sl row))))],[cub b c2,.gh 0 (.c (.ptr 0 0)),.shr ((rowsC b n k c1).1.map sl)]⟩ : St)) (W_gj [0,1,2] J) ?_;refine Xz (lo := [_]) (gs := [(0,.c (.ptr 0 0))]) (lo' := [_]) (new := []) [0] [(0,0,.ptr 0 0)] (k3) J J J J J J J J J J J J J J J J J ?_;refine z1 J (zz (Qk ?_));refine A_lq (fun m st => ∃ i : Nat,i + m = (q + 1) ∧ (True) ∧ st = (⟨_,[(0,.o (.c (.ptr 0 0))),(1,I n),(7,.o (.c (.ref 2))),(8,I ((N0 : Int) - k)),(9,.o (.c (.rd [] (sl row)))),(10,I ((q : Int) - i))],[cub b c3,.gh 0 (.c (.ptr 0 0)),.shr ((rowsC b n k c1).1.map sl ++ List.replicate i (sl row))]⟩ : St)) ((q + 1)) ⟨(fun i : Nat => (⟨_,[(0,.o (.c (.ptr 0 0))),(1,I n),(7,.o (.c (.ref 2))),(8,I ((N0 : Int) - k)),(9,.o (.c (.rd [] (sl row)))),(10,I ((q : Int) - i))],[cub b c3,.gh 0 (.c (.ptr 0 0)),.shr ((rowsC b n k c1).1.map sl ++ List.replicate i (sl row))]⟩ : St)) 0,⟨0,by omega,trivial,J⟩,X5 [0,1,2] (by decide) J (rw3s (by simp)) (.c J (.c J (.c J (.c J (.c J (.cons (Xw (by omega)) (.nil)))))))⟩ ?_
  rintro m_B _ ⟨i,hk_B,hp_B,rfl⟩
  by_cases hli : i < q + 1
  ·have g0 : decide ((q : Int) - i ≥ 0) = true := decide_eq_true (by omega)
   have g1 : decide (0 ≤ (q : Int) - i) = true := decide_eq_true (by omega)
   have hll : ((rowsC b n k c1).1.map sl ++ List.replicate i (sl row)).length = (rowsC b n k c1).1.length + i := by simp
   refine Qd (zy (z0 J (z9d J (by assumption) (zz (Qm J (Qh (Q0 (Qd (Qk ?_)))))))));refine Qc (z0 J (z0 J (M1 (Zd J J J J J J) J J ?_)));refine L_appshr J J J J J J (by omega) (by omega) J ?_;refine z1 J (Qe (Q1 (Q0 (Qc (z0 J (z8 J (by omega) (z1 J (zz ?_))))))))
   exact ⟨(q + 1) - (i + 1),by omega,(fun i : Nat => (⟨_,[(0,.o (.c (.ptr 0 0))),(1,I n),(7,.o (.c (.ref 2))),(8,I ((N0 : Int) - k)),(9,.o (.c (.rd [] (sl row)))),(10,I ((q : Int) - i))],[cub b c3,.gh 0 (.c (.ptr 0 0)),.shr ((rowsC b n k c1).1.map sl ++ List.replicate i (sl row))]⟩ : St)) (i + 1),⟨i + 1,by omega,trivial,J⟩,X5 [0,1,2] (by decide) J (rw3s (by rw [List.append_assoc,← List.replicate_succ'])) (.c J (.c J (.c J (.c J (.c J (.cons (Xw (by omega)) (.nil)))))))⟩
  ·have g0 : decide ((q : Int) - i ≥ 0) = false := decide_eq_false (by omega)
   have g1 : decide (0 ≤ (q : Int) - i) = false := decide_eq_false (by omega)
   have hi : i = q + 1 := by omega
   subst hi
   refine Qd (zy (z0 J (z9d J (by assumption) (zz (Ql J (Q9 (T_x (T_x (Xl ?_)))))))));refine Q1 (Q0 (Qc (z0 J (z8 J (by omega) (z1 J (zz ?_))))))
   exact ⟨N0 - (k + 1),by omega,(fun k : Nat => (⟨_,[(0,.o (.c (.ptr 0 0))),(1,I n),(7,.o (.c (.ref 2))),(8,I ((N0 : Int) - k))],[cub b (rowsC b n k c1).2,.gh 0 (.c (.ptr 0 0)),.shr ((rowsC b n k c1).1.map sl)]⟩ : St)) (k + 1),⟨k + 1,by omega,trivial,J⟩,X5 [0,1,2] (by decide) J ((by rw [hnext,List.map_append,List.map_replicate]; rfl)) (.c J (.c J (.c J (.cons (Xw (by omega)) (.nil)))))⟩
 ·have f0 : decide ((N0 : Int) - k > 0) = false := decide_eq_false (by omega)
  have f1 : decide (0 < (N0 : Int) - k) = false := decide_eq_false (by omega)
  have hk : k = N0 := by omega
  subst hk
  have hsl : T.sl 1 (((rowsC b n k c1).1.map sl).map fun t => [t]) = sl (rowsC b n k c1).1 := by rw [List.map_map]; rfl
  refine AWP.freezeS (p := 2) J ?_
  rw [hsl]
  refine AWP.pre (st' := (⟨_,[(0,.o (.c (.ptr 0 0))),(7,.o (.c (.rd [] (sl (rowsC b n k c1).1)))),(8,I ((k : Int) - k))],[cub b (rowsC b n k c1).2,.gh 0 (.c (.ptr 0 0))]⟩ : St)) ?_ (W_gj [0,1] J)
  refine Qd (zy (z0 J (z9c J (by assumption) (zz (Ql J (Q9 (T_x (T_x (Xl ?_)))))))));refine Q0 (zy (z0 J (z1 J (zz (Xa (F_r ?_))))))
  exact Xp J J (X3 [0,1] (by decide) J J J)
end
section
open Go.RowKit

/-! ### The cursor's start -/
def hashK (b : List UInt8) : Nat → Int
 | 0 => 33153 + (b.length : Int)
 | k + 1 => (((hashK b k * 131 + ((b.getD k 0).toNat : Int) + 7).toNat &&& (1073741823 : Int).toNat : Nat) : Int)
theorem hashK_rng {b : List UInt8} (hb : b.length ≤ 1048576) : ∀ k,0 ≤ hashK b k ∧ hashK b k ≤ 1073741823
 | 0 => by simp only [hashK]; omega
 | k + 1 => by
  have : (hashK b k * 131 + ((b.getD k 0).toNat : Int) + 7).toNat &&& (1073741823 : Int).toNat ≤ (1073741823 : Int).toNat := Nat.and_le_right
  simp only [hashK]
  omega
def newCu (b : List UInt8) : Cu := ⟨0,hashK b (min b.length 4000)⟩
theorem S_l01New (b : List UInt8) (hb : b.length ≤ 1048576) : Con Try.prog 15 [] [al b] [cub b (newCu b)] (.o (.c (.ptr 0 0))) := by
 have hl := Yl b
 refine Con.of Try.func15 J Try.ntmps15 J (fun E => ?_)
 refine zy (z1 J (zz (zy (z0 J (zx (Zq J J J) J (z7 J (by omega) (z1 J (Qe ?_))))))));refine Q0 (Qd (zy (z1 J (zz (Qk ?_)))))
 refine A_lq (fun m st => ∃ k : Nat,k + m = (min b.length 4000) ∧ (True) ∧ st = (⟨_,[(0,L b),(3,I (hashK b k)),(4,I k)],[]⟩ : St)) ((min b.length 4000)) ⟨(fun k : Nat => (⟨_,[(0,L b),(3,I (hashK b k)),(4,I k)],[]⟩ : St)) 0,⟨0,by omega,trivial,J⟩,X5 [] (by decide) J (J) (.c J (.cons (Xw (by rw [hl]; rfl)) (.c J (.nil))))⟩ ?_
 rintro m_A _ ⟨k,hk_A,hp_A,rfl⟩
 have hr := hashK_rng hb k
 by_cases h1 : k < b.length
 ·have f1 : decide ((k : Int) < (els b).length) = true := decide_eq_true (by omega)
  by_cases h2 : k < 4000
  ·have f2 : decide ((k : Int) < 4000) = true := decide_eq_true (by omega)
   have hy : b[k]? = some (b.getD k 0) := by rw [List.getD_eq_getElem?_getD,List.getElem?_eq_getElem h1]; rfl
   have he := byte_at hy
   have hy1 : ((b.getD k 0).toNat : Int) ≤ 255 := by have := (b.getD k 0).toNat_lt; omega
   have hy0 : 0 ≤ ((b.getD k 0).toNat : Int) := by omega
   refine Qd (zy (z0 J (z0 J (zx (Zq J J J) J (z9a J (by assumption) (z0 J (z5 J (z0 J (z5 J (z9a J (by assumption) ?_))))))))));refine zpT J (zz (Qm J (Qh (Q0 (Qd (Qk (Qc (z0 J (zx (Zw J J J J (by omega)) J (z0 J ?_))))))))));refine z0 J (zx (Q2 J J J J (by omega) (by assumption) J) J (zx (Zu J J J J) J (zx (Zj J J J J (Kf (by omega))) J (z7 J (by omega) (z7 J (by omega) (zx (Zc J J J J (by omega)) J (z1 J (Qe (Q1 (Q0 (Qc ?_)))))))))));refine z0 J (z7 J (by omega) (z1 J (zz ?_)))
   exact ⟨(min b.length 4000) - (k + 1),by omega,(fun k : Nat => (⟨_,[(0,L b),(3,I (hashK b k)),(4,I k)],[]⟩ : St)) (k + 1),⟨k + 1,by omega,trivial,J⟩,X5 [] (by decide) J (J) (.c J (.cons (Xw (by rw [hashK])) (.c J (.nil))))⟩
  ·have f2 : decide ((k : Int) < 4000) = false := decide_eq_false (by omega)
   have hk : k = min b.length 4000 := by omega
   refine Qd (zy (z0 J (z0 J (zx (Zq J J J) J (z9a J (by assumption) (z0 J (z5 J (z0 J (z5 J (z9a J (by assumption) ?_))))))))));refine zpT J (zz (Ql J (Q9 (T_x (T_x (Xl (Q0 (zy (z0 J ?_)))))))));refine z0 J (zx (Zf J J J J J) J (M1 (Qq J J J J) J J (z1 J (zz (Xa (F_r ?_))))))
   exact Xp J J (X3 [0] (by decide) J (by rw [newCu,← hk]; rfl) J)
 ·have f1 : decide ((k : Int) < (els b).length) = false := decide_eq_false (by omega)
  have hk : k = min b.length 4000 := by omega
  refine Qd (zy (z0 J (z0 J (zx (Zq J J J) J (z9a J (by assumption) (z0 J (z6 J (z6 J (zpF J (Qe ?_))))))))));refine Q0 (Ql J (Q9 (T_x (T_x (Xl (Q0 (zy (z0 J (z0 J (zx (Zf J J J J J) J ?_))))))))));refine M1 (Qq J J J J) J J (z1 J (zz (Xa (F_r ?_))))
  exact Xp J J (X3 [0] (by decide) J (by rw [newCu,← hk]; rfl) J)
/-! ### Levels from texts -/
def splitG (s : ByteArray) : Nat → List ByteArray × Nat
 | 0 => ([],0)
 | k + 1 => if k = s.size ∨ byteAt s k = 47 then ((splitG s k).1 ++ [s.extract (splitG s k).2 k],k + 1) else splitG s k
def parseL (s : ByteArray) : TLevel := ⟨(splitG s (s.size + 1)).1⟩
theorem splitG_le {s : ByteArray} : ∀ k,(splitG s k).2 ≤ k
 | 0 => Nat.le_refl _
 | k + 1 => by
  have := splitG_le (s := s) k
  rw [splitG]
  split
  ·exact Nat.le_refl _
  ·omega
theorem splitG_len {s : ByteArray} : ∀ k,(splitG s k).1.length ≤ k
 | 0 => Nat.le_refl _
 | k + 1 => by
  have := splitG_len (s := s) k
  rw [splitG]
  split
  ·rw [List.length_append]; simp; omega
  ·omega
theorem splitG_size {s : ByteArray} : ∀ k,∀ r ∈ (splitG s k).1,r.size ≤ s.size
 | 0,r,hr => by cases hr
 | k + 1,r,hr => by
  rw [splitG] at hr
  split at hr
  ·rcases List.mem_append.1 hr with h | h
   ·exact splitG_size k r h
   ·rw [List.mem_singleton] at h; subst h; rw [ByteArray.size_extract]; omega
  ·exact splitG_size k r hr
theorem splitG_hit {s : ByteArray} {k : Nat} (h : k = s.size ∨ byteAt s k = 47) : splitG s (k + 1) = ((splitG s k).1 ++ [s.extract (splitG s k).2 k],k + 1) := by rw [splitG,if_pos h]
theorem splitG_no {s : ByteArray} {k : Nat} (h : ¬ (k = s.size ∨ byteAt s k = 47)) : splitG s (k + 1) = splitG s k := by rw [splitG,if_neg h]
def pl7A : List (List Nat) := [[],[0],[],[],[],[2,3,4],[2,3,4,5],[0,1,2,3,4,5,6],[0,1,2,3,4,5,6,7],[0,1,2,3,4,5,6,7,8]]
def pl7M : List (List Nat) := [[24,25,26,27,28,29,30,31,32],[24,25,26,27,28,29,30,31,32],[24,25,26,27,28,29,30,31,32],[24,25,26,27,28,29,30,31,32],[24,25,26,27,28,29,30,31,32],[24,25,26,27,28,29,30,31,32],[24,25,26,27,28,29,30,31,32],[24,25,26,27,28,29,30,31,32],[24,25,26,27,28,29,30,31,32],[24,25,26,27,28,29,30,31,32]]
theorem S_ParseLevel (s : ByteArray) (hs : s.size ≤ 1000) (hok : levelOk (parseL s) = true) : Con Try.prog 38 [] [astr s] [.row 1 (els (parseL s).Rows)] (.tu [.ag [.ref 0],.c (bv true)]) := by
 have hgl : Enc.gd (parseL s) := ⟨by have := splitG_len (s := s) (s.size + 1); show (splitG s (s.size + 1)).1.length ≤ _; omega,fun r hr => by have := splitG_size (s := s) (s.size + 1) r hr; show r.size ≤ _; omega⟩
 have co := S_LevelOk (parseL s) hgl
 rw [hok] at co
 refine Con.of Try.func38 J Try.ntmps38 J (fun E => ?_)
 refine zy (M1 (Qx J J J) J J (z1 J (zz (zy (zx (Zf J J J J J) J (M1 (Qx J J J) J J ?_))))));refine Qy J J J J J J J J J (zz (zy (z1 J (zz (Qd (zy (z1 J ?_)))))));refine zz (Qk ?_);refine AWP.weak (Wk.nilbox (p := 1) (i := 0) 1 J J) ?_;refine A_lq (fun m st => ∃ k : Nat,k + m = (s.size + 1) ∧ (True) ∧ st = (⟨_,[(0,S s),(2,.o (.c (.ptr 0 0))),(4,.o (.c (.ptr 1 0))),(5,I (splitG s k).2),(6,I k)],[.box [nilV],.box [.ref 2],.row 1 (els (splitG s k).1)]⟩ : St)) ((s.size + 1)) ⟨_,⟨0,by omega,trivial,J⟩,W_gj [0,1,2] J⟩ ?_
 rintro m_A _ ⟨k,hk_A,hp_A,rfl⟩
 have hle := splitG_le (s := s) k
 have hln := splitG_len (s := s) k
 have hll := Yl (splitG s k).1
 by_cases hlt : k < s.size + 1
 ·have f0 : decide ((k : Int) ≤ s.size) = true := decide_eq_true (by omega)
  by_cases h1 : k = s.size
  ·have f1 : decide ((k : Int) = s.size) = true := decide_eq_true (by omega)
   have hn := splitG_hit (s := s) (k := k) (.inl h1)
   have hm := congrArg (fun p => ((p.2 : Nat) : Int)) hn
   refine Qd (zy (z0 J (z0 J (zx (Zs J J J) J (z9b J (by assumption) (zz (Qm J (Qh (Q0 ?_)))))))));refine Qd (Qk (zy (z0 J (z0 J (zx (Zs J J J) J (z9e J (by assumption) (z0 J (z6 J (z6 J (z6 J ?_))))))))));refine z6 J (zpT J (zz (Qm J (Qd ?_))))
   refine A_seqW ⟨40,[(0,S s),(2,.o (.c (.ptr 0 0))),(4,.o (.c (.ptr 1 0))),(5,I (splitG s k).2),(6,I k)],[.box [nilV],.box [.ref 2],.row 1 (els (splitG s k).1 ++ els [s.extract (splitG s k).2 k])]⟩ ?_ ?_
   ·
    refine A_drawn (f := 10) J J ?_;refine DAL.fld pl7A [] pl7M 0 _ 24 (by kernel_rfl) J J J J J J (by decide) ?_;refine DAL.mv pl7A [] pl7M 2 _ 26 (by kernel_rfl) J J J J ?_;refine DAL.mv pl7A [] pl7M 3 _ 27 (by kernel_rfl) J J J J ?_;refine DAL.mv pl7A [] pl7M 4 _ 28 (by kernel_rfl) J J J J ?_
    refine DAL.two 1 5 (by kernel_rfl) J J ?_ ?_
    ·
     refine z3 J (zz (DAL.one 5 (by kernel_rfl) J (zx (q_sslice J J J J J (by omega)) J (zz (DAL.one 6 (by kernel_rfl) J (M1 (Zd J J J J J J) J J (zz (DAL.one 7 (by kernel_rfl) J ?_))))))));refine Xy J J J J J J J J J J (by omega) (by omega) ?_;refine zz ?_;refine DAL.fld pl7A [] pl7M 8 _ 32 (by kernel_rfl) J J J J J J (by decide) ?_;refine DAL.one 9 (by kernel_rfl) J ?_;refine Q5 J J J J J J J J (zz ?_)
     refine DAL.nil (by kernel_rfl) (Q0 ?_)
     exact W_gj [0,1,2] J
    ·
     refine zx (q_sslice J J J J J (by omega)) J (zz ?_)
     refine DAL.two 1 6 (by kernel_rfl) J J ?_ ?_
     ·
      refine z3 J (zz (DAL.one 6 (by kernel_rfl) J (M1 (Zd J J J J J J) J J (zz (DAL.one 7 (by kernel_rfl) J ?_)))));refine Xy J J J J J J J J J J (by omega) (by omega) ?_;refine zz ?_;refine DAL.fld pl7A [] pl7M 8 _ 32 (by kernel_rfl) J J J J J J (by decide) ?_;refine DAL.one 9 (by kernel_rfl) J ?_;refine Q5 J J J J J J J J (zz ?_)
      refine DAL.nil (by kernel_rfl) (Q0 ?_)
      exact W_gj [0,1,2] J
     ·
      refine M1 (Zd J J J J J J) J J (zz (DAL.one 1 (by kernel_rfl) J (z3 J (zz (DAL.one 7 (by kernel_rfl) J ?_)))));refine Xy J J J J J J J J J J (by omega) (by omega) ?_;refine zz ?_;refine DAL.fld pl7A [] pl7M 8 _ 32 (by kernel_rfl) J J J J J J (by decide) ?_;refine DAL.one 9 (by kernel_rfl) J ?_;refine Q5 J J J J J J J J (zz ?_)
      refine DAL.nil (by kernel_rfl) (Q0 ?_)
      exact W_gj [0,1,2] J
   refine Qc (z0 J (z7 J (by omega) (z1 J (Qe (Q1 (Q0 (Qc (z0 J (z7 J (by omega) (z1 J (Qe ?_)))))))))));refine Q0 ?_
   exact ⟨(s.size + 1) - (k + 1),by omega,(fun k : Nat => (⟨_,[(0,S s),(2,.o (.c (.ptr 0 0))),(4,.o (.c (.ptr 1 0))),(5,I (splitG s k).2),(6,I k)],[.box [nilV],.box [.ref 2],.row 1 (els (splitG s k).1)]⟩ : St)) (k + 1),⟨k + 1,by omega,trivial,J⟩,X5 [0,1,2] (by decide) J ((by rw [hn,Yj]; rfl)) (.c J (.c J (.c J (.cons (Xw hm.symm) (.c J (.nil))))))⟩
  ·have f1 : decide ((k : Int) = s.size) = false := decide_eq_false (by omega)
   by_cases h2 : byteAt s k = 47
   ·have f2 : decide (byteAt s k = 47) = true := decide_eq_true h2
    have hn := splitG_hit (s := s) (k := k) (.inr h2)
    have hm := congrArg (fun p => ((p.2 : Nat) : Int)) hn
    refine Qd (zy (z0 J (z0 J (zx (Zs J J J) J (z9b J (by assumption) (zz (Qm J (Qh (Q0 ?_)))))))));refine Qd (Qk (zy (z0 J (z0 J (zx (Zs J J J) J (z9e J (by assumption) (z0 J (z5 J (z0 J (z5 J ?_))))))))));refine z0 J (z5 J (zx (Zh J J J J (by assumption) (by omega)) J (z5 J ?_)));refine zx (Qv (b := true) J J J J (by decide)) J ?_;refine zpF J (zz (Qm J (Qd ?_)))
    refine A_seqW ⟨40,[(0,S s),(2,.o (.c (.ptr 0 0))),(4,.o (.c (.ptr 1 0))),(5,I (splitG s k).2),(6,I k)],[.box [nilV],.box [.ref 2],.row 1 (els (splitG s k).1 ++ els [s.extract (splitG s k).2 k])]⟩ ?_ ?_
    ·
     refine A_drawn (f := 10) J J ?_;refine DAL.fld pl7A [] pl7M 0 _ 24 (by kernel_rfl) J J J J J J (by decide) ?_;refine DAL.mv pl7A [] pl7M 2 _ 26 (by kernel_rfl) J J J J ?_;refine DAL.mv pl7A [] pl7M 3 _ 27 (by kernel_rfl) J J J J ?_;refine DAL.mv pl7A [] pl7M 4 _ 28 (by kernel_rfl) J J J J ?_
     refine DAL.two 1 5 (by kernel_rfl) J J ?_ ?_
     ·
      refine z3 J (zz (DAL.one 5 (by kernel_rfl) J (zx (q_sslice J J J J J (by omega)) J (zz (DAL.one 6 (by kernel_rfl) J (M1 (Zd J J J J J J) J J (zz (DAL.one 7 (by kernel_rfl) J ?_))))))));refine Xy J J J J J J J J J J (by omega) (by omega) ?_;refine zz ?_;refine DAL.fld pl7A [] pl7M 8 _ 32 (by kernel_rfl) J J J J J J (by decide) ?_;refine DAL.one 9 (by kernel_rfl) J ?_;refine Q5 J J J J J J J J (zz ?_)
      refine DAL.nil (by kernel_rfl) (Q0 ?_)
      exact W_gj [0,1,2] J
     ·
      refine zx (q_sslice J J J J J (by omega)) J (zz ?_)
      refine DAL.two 1 6 (by kernel_rfl) J J ?_ ?_
      ·
       refine z3 J (zz (DAL.one 6 (by kernel_rfl) J (M1 (Zd J J J J J J) J J (zz (DAL.one 7 (by kernel_rfl) J ?_)))));refine Xy J J J J J J J J J J (by omega) (by omega) ?_;refine zz ?_;refine DAL.fld pl7A [] pl7M 8 _ 32 (by kernel_rfl) J J J J J J (by decide) ?_;refine DAL.one 9 (by kernel_rfl) J ?_;refine Q5 J J J J J J J J (zz ?_)
       refine DAL.nil (by kernel_rfl) (Q0 ?_)
       exact W_gj [0,1,2] J
      ·
       refine M1 (Zd J J J J J J) J J (zz (DAL.one 1 (by kernel_rfl) J (z3 J (zz (DAL.one 7 (by kernel_rfl) J ?_)))));refine Xy J J J J J J J J J J (by omega) (by omega) ?_;refine zz ?_;refine DAL.fld pl7A [] pl7M 8 _ 32 (by kernel_rfl) J J J J J J (by decide) ?_;refine DAL.one 9 (by kernel_rfl) J ?_;refine Q5 J J J J J J J J (zz ?_)
       refine DAL.nil (by kernel_rfl) (Q0 ?_)
       exact W_gj [0,1,2] J
    refine Qc (z0 J (z7 J (by omega) (z1 J (Qe (Q1 (Q0 (Qc (z0 J (z7 J (by omega) (z1 J (Qe ?_)))))))))));refine Q0 ?_
    exact ⟨(s.size + 1) - (k + 1),by omega,(fun k : Nat => (⟨_,[(0,S s),(2,.o (.c (.ptr 0 0))),(4,.o (.c (.ptr 1 0))),(5,I (splitG s k).2),(6,I k)],[.box [nilV],.box [.ref 2],.row 1 (els (splitG s k).1)]⟩ : St)) (k + 1),⟨k + 1,by omega,trivial,J⟩,X5 [0,1,2] (by decide) J ((by rw [hn,Yj]; rfl)) (.c J (.c J (.c J (.cons (Xw hm.symm) (.c J (.nil))))))⟩
   ·have f2 : decide (byteAt s k = 47) = false := decide_eq_false h2
    have hn := splitG_no (s := s) (k := k) (by rintro (h | h); exact h1 h; exact h2 h)
    have hm := congrArg (fun p => ((p.2 : Nat) : Int)) hn
    refine Qd (zy (z0 J (z0 J (zx (Zs J J J) J (z9b J (by assumption) (zz (Qm J (Qh (Q0 ?_)))))))));refine Qd (Qk (zy (z0 J (z0 J (zx (Zs J J J) J (z9e J (by assumption) (z0 J (z5 J (z0 J (z5 J ?_))))))))));refine z0 J (z5 J (zx (Zg J J J J (by omega)) J (z5 J (z9e J (by assumption) (zpF J (zz (Ql J (Qh (Q1 (Q0 ?_))))))))));refine Qc (z0 J (z7 J (by omega) (z1 J (zz ?_))))
    exact ⟨(s.size + 1) - (k + 1),by omega,(fun k : Nat => (⟨_,[(0,S s),(2,.o (.c (.ptr 0 0))),(4,.o (.c (.ptr 1 0))),(5,I (splitG s k).2),(6,I k)],[.box [nilV],.box [.ref 2],.row 1 (els (splitG s k).1)]⟩ : St)) (k + 1),⟨k + 1,by omega,trivial,J⟩,X5 [0,1,2] (by decide) J ((by rw [hn]; rfl)) (.c J (.c J (.c J (.cons (Xw hm.symm) (.c J (.nil))))))⟩
 ·have f0 : decide ((k : Int) ≤ s.size) = false := decide_eq_false (by omega)
  have hk : k = s.size + 1 := by omega
  subst hk
  refine Qd (zy (z0 J (z0 J (zx (Zs J J J) J (z9b J (by assumption) (zz (Ql J (Q9 (T_x ?_)))))))));refine T_x (Xl (Q0 (Qd (zy (z4 J J J ?_)))));refine zx (Qj J J (co) J) J ?_;refine zn J (zz (Ql J (Qh (Q0 (zy (z4 J J J ?_))))));refine Qy J J J J J J J J J (z1 J (zz (Xa (F_r ?_))))
  exact Xn J J J J J (X3 [2] (by decide) J J J)
end
end Go.Proofs.Ytbfhboakafjjgaa
