/-
  Parts of the proof (rules, data, and what functions of the program and of the reference return), among them: WorldBytes, in the program and in the reference; Numbers read from bytes: DecodeVarint, Signed, UnpackInts, UnpackText, OpenText, in the program and in the reference.
  Conditions: those that each theorem names.
-/
import Derived.Lib.LazyBuf
import Derived.Test.YtbfhboakafjjgaaGreatDDReplRowk15
import Derived.Test.YtbfhboakafjjgaaGreatDDReplRowk16
import Derived.Test.YtbfhboakafjjgaaGreatDDReplRowk20
set_option linter.unusedSimpArgs false
set_option linter.unusedVariables false
set_option maxRecDepth 8000
set_option maxHeartbeats 8000000
namespace Go.Proofs.YtbfhboakafjjgaaGreat
section
open Go.RowKit

def V1.tosr (q : Nat) : V1 → V1
 | .sb p n k => match Nat.beq p q with
  | true => match k with
   | 1 => .ref q
   | _ => .un
  | false => (V1.sb p n k).kill [q]
 | x => x.kill [q]
theorem Wk.sbrow {st : St} {q : Nat} {cs : List V1} {es : List (List T)} (hq : st.objs[q]? = some (.box cs)) (hs : sbE cs = some es) (hm : cs.length ≤ maxLen) : Wk st ⟨st.n,st.tmps.map fun t => (t.1,t.2.mapk (V1.tosr q)),(st.objs.map (Ob.mapk (V1.tosr q))).set q (.row 1 es)⟩ := by
 intro w H F a h1
 obtain ⟨hel,hes⟩ := sbE_ok cs es hs
 have hb := h1.obs q
 rw [Yx hq] at hb
 obtain ⟨g,t,vs,e1,e2,e3⟩ := hb
 have hsay := h1.ok.says q
 rw [e1] at hsay
 have hg : w.heap[g]? = some (.cells vs.toArray t (0,0)) := hsay
 have hqlt := Yy hq
 have hplain : ∀ (i : Nat) (e : List T),es[i]? = some e → ∃ u,vs[i]? = some u ∧ e = [.v u] ∧ u.oneCell' = true := fun i e hi => by
  obtain ⟨ps,u,h2,h3⟩ := hes i e hi
  have hil := Yy h2
  have hiv : vs[i]? = some (vs[i]'(by omega)) := List.getElem?_eq_getElem (by omega)
  obtain ⟨h4,h5⟩ := e3 i _ _ h2 hiv
  obtain ⟨h6,h7⟩ := RO.plain h4
  exact ⟨u,by rw [hiv,h6],h3,h7⟩
 obtain ⟨f,hf⟩ : ∃ f : Nat → Value,f = fun i => vs.getD i undef := ⟨_,rfl⟩
 have hOW : ∃ fp,OW w (.sl 1 es) (.slice (some ⟨g,0,none⟩) es.length vs.length) fp ∧ (∀ b ∈ fp,b = g) ∧ fp.Nodup := by
  refine ⟨g :: (List.replicate es.length [([] : List Nat)]).flatten.flatten,OW.sl es g 0 1 vs.length t vs.toArray (0,0) (fun i _ => vs.getD i undef) (List.replicate es.length [[]]) hg (.inl J) (by omega) (by omega) (by simp) (by omega) (fun e he => ?_) (by simp) (fun fs hfs => by rw [List.eq_of_mem_replicate hfs]; rfl) (fun i j hi hj => ?_) (fun i j e tt fs ff k1 k2 k3 k4 => ?_),?_,?_⟩
  ·obtain ⟨i,hi⟩ := List.getElem?_of_mem he
   obtain ⟨u,_,h3,_⟩ := hplain i e hi
   rw [h3]; rfl
  ·have h2 : i < vs.length := by omega
   have h3 : j = 0 := by omega
   subst h3
   simp [List.getD_eq_getElem?_getD,h2]
  ·obtain ⟨u,h3,h4,h5⟩ := hplain i e k1
   subst h4
   have hj : j = 0 := by have := Yy k2; simp at this; exact this
   subst hj
   simp at k2
   subst k2
   have hfs : fs = [[]] := List.eq_of_mem_replicate (Yz k3)
   subst hfs
   simp at k4
   subst k4
   have h6 : vs.getD i undef = u := Yx h3
   rw [h6]
   exact .v u h5
  ·intro b hb
   simpa using hb
  ·simp
 obtain ⟨fp,hO,hfp,hnd⟩ := hOW
 have hkeep : Keeps w w [g] := ⟨rfl,rfl,rfl,Nat.le_refl _,fun _ _ _ => rfl⟩
 obtain ⟨hok,htn⟩ := h1.ok.turn (p := q) (fp := [g]) (by rw [e1]; rfl) hkeep (.ow (.sl 1 es) (.slice (some ⟨g,0,none⟩) es.length vs.length) fp) hO hnd trivial (fun b hb => .inl (by simp [hfp b hb]))
 have hone : ∀ x v,R1 w H F x v → R1 w (H.put q (.ow (.sl 1 es) (.slice (some ⟨g,0,none⟩) es.length vs.length) fp)) F (V1.tosr q x) v := fun x v hx => by
  cases x with
  | sb p n k =>
   simp only [V1.tosr]
   split
   ·rename_i hp
    have hpq := Nat.eq_of_beq_eq_true hp
    subst hpq
    split
    ·obtain ⟨g',t',vs',k1,k2,k3,k4⟩ := hx
     rw [e1] at k1
     simp only [Pc.box.injEq] at k1
     obtain ⟨rfl,rfl,rfl⟩ := k1
     have hn : n = es.length := by omega
     have hvn : vs.length = es.length := by omega
     rw [k4,hn]
     exact ⟨.sl 1 es,fp,by rw [Hs.put_self,hvn]⟩
    ·trivial
   ·exact R1.killed h1.ok htn hx
  | _ => exact R1.killed h1.ok htn hx
 refine ⟨_,h1.mapk (V1.tosr q) hone hok ((st.objs.map (Ob.mapk (V1.tosr q))).set q (.row 1 es)) (fun p => ?_),fun p b hb => ?_,htn.gh⟩
 ·by_cases hpq : p = q
  ·subst hpq
   rw [Yx (x := .row 1 es) (by simp [hqlt])]
   exact ⟨_,_,Hs.put_self _ _ _⟩
  ·rw [List.getD_eq_getElem?_getD,List.getElem?_set_ne (Ne.symm hpq),List.getElem?_map]
   have h2 := h1.obs p
   rw [List.getD_eq_getElem?_getD] at h2
   have h3 := Hs.put_ne H (.ow (.sl 1 es) (.slice (some ⟨g,0,none⟩) es.length vs.length) fp) hpq
   cases ho : st.objs[p]? with
   | none => rw [ho] at h2; exact h3.trans h2
   | some ob => rw [ho] at h2; exact RB.mapk hone h3 h2
 ·by_cases hpq : p = q
  ·subst hpq
   rw [Hs.put_self] at hb
   exact ⟨p,by rw [e1,hfp b hb]; simp [Pc.fp]⟩
  ·exact ⟨p,by rw [← Hs.put_ne H _ hpq]; exact hb⟩
section
variable {P : Program} {ops : Array Oper} {o : Oper} {st : St} {n : Nat} {t t' : TypeId} {y z : Operand} {ps qs : List Nat}
theorem q_slnil {kk : Nat} {es : List (List T)} {e : TypeId} {zs : List Value} {by_ : Nat} [hm : TyMake P t e zs by_] (ho : o.op = .binOp .eql t y z t') (hg : o.guard = none) (hy : st.ev y = .o (.c (.rd ps (.sl kk es)))) (hz : st.ev z = .o (.c (.rd qs (.v (.slice none 0 0))))) (hne : 0 < es.length) : Qt P ops o st (B false) [] n :=
 .pure hg fun a w H F hr => ⟨.bool false,by
  have h2 := hr.plain hz
  have h1 : RO w (inP H F ps) (.sl kk es) (a.eval y) := hr.v1 hy
  obtain ⟨b,o',c,hv,_⟩ := RO.at_ h1 (i := 0) (List.getElem?_eq_getElem hne)
  simp [execOp,ho,h2,hv,eqGuard,Lib.run_eql_slice_nil (P := P) (h := hm.slice)],plainV _ rfl⟩
end
end
section
open Go.RowKit

def varN (n : Nat) : List UInt8 := if n < 128 then [UInt8.ofNat n] else UInt8.ofNat (n % 128 + 128) :: varN (n / 128)
termination_by n
decreasing_by omega
def encVar (n : Int) : List UInt8 := if 0 ≤ n ∧ n ≤ 1099511627775 then varN n.toNat else []
theorem Kl {n : Nat} (h : n < 128) : varN n = [UInt8.ofNat n] := by rw [varN,if_pos h]
theorem varN_big {n : Nat} (h : ¬ n < 128) : varN n = UInt8.ofNat (n % 128 + 128) :: varN (n / 128) := by rw [varN,if_neg h]
theorem varN_len (n : Nat) : 1 ≤ (varN n).length ∧ (varN n).length ≤ n + 1 := by
 induction n using Nat.strongRecOn with
 | ind n ih =>
  by_cases h : n < 128
  ·rw [Kl h]; simp
  ·rw [varN_big h]
   have := ih (n / 128) (by omega)
   simp only [List.length_cons]
   omega
theorem varN_step {acc : List UInt8} {m : Nat} {l : List UInt8} (h : acc ++ varN m = l) (hm : ¬ m < 128) {x : UInt8} (hx : x = UInt8.ofNat (m % 128 + 128)) : (acc ++ [x]) ++ varN (m / 128) = l := by
 rw [← h,varN_big hm,hx]; simp
theorem varN_end {acc : List UInt8} {m : Nat} {l : List UInt8} (h : acc ++ varN m = l) (hm : m < 128) {x : UInt8} (hx : x = UInt8.ofNat m) : acc ++ [x] = l := by
 rw [← h,Kl hm,hx]

theorem Xs (n : Int) : Con Tryz.prog 59 [] [ai n] [] (S (bs (encVar n))) := by
 refine Con.of Tryz.func59 J Tryz.ntmps59 J (fun E => ?_)
 refine zy (z1 J (zz (Qd (zy (z0 J (zx (Z1 J J J J) J (z0 J ?_)))))));refine zx (Qt.grdF J J J .stop (fun hgrd => Qa J J J)) J ?_;refine zx (Qt.grdF J J J (.hit .stop) (fun hgrd => Zu J J J J)) J ?_;refine zx (Z5 J J J J) J (zz ?_)
 refine Xb J (fun h => ?_) (fun h => ?_)
 ·simp only [Bool.or_eq_true,decide_eq_true_eq] at h
  refine zy (z1 J (zz (Xa (T_r (F_r ?_)))))
  exact Xp J J (X5 [] (by decide) J J (S_eq (by rw [encVar,if_neg (by omega)])))
 simp only [Bool.or_eq_false_iff,decide_eq_false_iff_not] at h
 have he : encVar n = varN n.toNat := by rw [encVar,if_pos (by omega)]
 rw [he]
 refine Qh (Q0 (zy (z1 J (zz (Qd (Qk ?_))))))
 refine AWP.pre ?_ (W_nil 3 1 J)
 refine A_lq (fun m__ st => ∃ (m : Nat) (acc : List UInt8),m = m__ ∧ (acc ++ varN m = varN n.toNat ∧ acc.length + m ≤ 1099511627775) ∧ st = (⟨_,[(0,I m),(3,.o (.c (.ref 0)))],[.row 1 (bE acc)]⟩ : St)) _ ⟨(fun (m : Nat) (acc : List UInt8) => (⟨_,[(0,I m),(3,.o (.c (.ref 0)))],[.row 1 (bE acc)]⟩ : St)) (n.toNat) ([]),⟨n.toNat,[],J,⟨J,by simp <;> omega⟩,J⟩,X7 [0] (by decide) J (by kernel_rfl) (.cons (Xx (by omega)) (.c J (.nil)))⟩ ?_
 rintro m_A _ ⟨m,acc,hk_A,hp_A,rfl⟩
 refine Qd (zy (z0 J (zx (q_geq J J J J) J (zz ?_))))
 refine Xb J (fun h5 => ?_) (fun h5 => ?_)
 ·have h5 : ¬ m < 128 := by have := of_decide_eq_true h5; omega
  have hl := Yc acc
  refine Qh (Q0 (Qk (zy (z0 J (z0 J (zx (Z6 J J J J (by omega)) J (z7 J (by omega) (zx (Zp J J J J (Kq (by omega))) J (M1 (Zj J J J J J J) J J ?_)))))))));refine Xz J J J J J J J J J J (by omega) (by omega) ?_;refine z1 J (zz (Qc (z0 J (zx (q_quo J J J J (by omega)) J (z1 J (Qe (Q1 (Q0 ?_))))))))
  refine ⟨_,(by omega),(fun (m : Nat) (acc : List UInt8) => (⟨_,[(0,I m),(3,.o (.c (.ref 0)))],[.row 1 (bE acc)]⟩ : St)) (m / 128) (acc ++ [UInt8.ofNat ((m : Int) % 128 + 128).toNat]),⟨m / 128,acc ++ [UInt8.ofNat ((m : Int) % 128 + 128).toNat],J,⟨varN_step hp_A.1 h5 (by congr 1 <;> omega),by have := hp_A.2; simp <;> omega⟩,J⟩,X7 [0] (by decide) J (Kc (bE_snoc _ _ (by omega)).symm) (.cons (Xx (by omega)) (.c J (.nil)))⟩
 ·have h5 : m < 128 := by have := of_decide_eq_false h5; omega
  have hl := Yc acc
  have hb := hp_A.2
  refine Q9 (T_x (T_x (Xl (Q0 (zy (z0 J (z0 J (zx (Zp J J J J (Kq (by omega))) J (M1 (Zj J J J J J J) J J ?_)))))))));refine Xz J J J J J J J J J J (by omega) (by omega) ?_;refine z1 J (zz (zy (z0 J (zx (q_bstr J J J J) J (z1 J (zz (Xa (F_r ?_))))))))
  exact Xp J J (X5 [] (by decide) J J (S_eq (congrArg bs (varN_end hp_A.1 h5 (by congr 1)))))
theorem varN_pow : ∀ (j n : Nat),n < 128 ^ (j + 1) → (varN n).length ≤ j + 1
 | 0,n,h => by rw [Kl (by omega)]; simp
 | j + 1,n,h => by
  by_cases hn : n < 128
  ·rw [Kl hn]; simp
  ·rw [varN_big hn,List.length_cons]
   have := varN_pow j (n / 128) (by rw [Nat.pow_succ] at h; omega)
   omega
theorem Yt (n : Int) : (encVar n).length ≤ 6 := by
 unfold encVar
 split
 ·exact varN_pow 5 _ (by omega)
 ·simp
def signless (n : Int) : Int := if -549755813888 ≤ n ∧ n ≤ 549755813887 then (if 0 ≤ n then 2 * n else -2 * n - 1) else -1
theorem I_Signless (n : Int) (hn : I64 n) : Con Tryz.prog 116 [] [ai n] [] (I (signless n)) := by
 obtain ⟨hn1,hn2⟩ := hn
 refine Con.of Tryz.func116 J Tryz.ntmps116 J (fun E => ?_)
 refine zy (z1 J (zz (Qd (zy (z0 J (zx (Z1 J J J J) J (z0 J ?_)))))));refine zx (Qt.grdF J J J .stop (fun hgrd => Qa J J J)) J ?_;refine zx (Qt.grdF J J J (.hit .stop) (fun hgrd => Zu J J J J)) J ?_;refine zx (Z5 J J J J) J (zz ?_)
 refine Xb J (fun h => ?_) (fun h => ?_)
 ·simp only [Bool.or_eq_true,decide_eq_true_eq] at h
  refine zy (z1 J (zz (Xa (T_r (F_r ?_)))))
  exact Xp J J (X5 [] (by decide) J J (Xx (by rw [signless,if_neg (by omega)])))
 simp only [Bool.or_eq_false_iff,decide_eq_false_iff_not] at h
 refine Qh (Q0 (Qd (zy (z0 J (zx (q_geq J J J J) J (zz ?_))))))
 refine Xb J (fun h1 => ?_) (fun h1 => ?_)
 ·have h1 := of_decide_eq_true h1
  refine zy (z0 J (zx (Z3 J J J J (by omega)) J (z1 J (zz (Xa (T_r (F_r ?_)))))))
  exact Xp J J (X5 [] (by decide) J J (Xx (by rw [signless,if_pos (by omega),if_pos (by omega)])))
 ·have h1 := of_decide_eq_false h1
  refine Qh (Q0 (zy (z0 J (zx (Z3 J J J J (by omega)) J (z8 J (by omega) (z1 J (zz (Xa (F_r ?_)))))))))
  exact Xp J J (X5 [] (by decide) J J (Xx (by rw [signless,if_pos (by omega),if_neg (by omega)])))
def packText (s : ByteArray) : ByteArray := bs (encVar s.size) ++ s
theorem Ze (s : ByteArray) : (packText s).size ≤ s.size + 6 := by
 unfold packText
 rw [cat_size,Yg]
 have := Yt s.size
 omega
theorem I_PackText (s : ByteArray) (hs : s.size ≤ 1099511627776) : Con Tryz.prog 114 [] [astr s] [] (S (packText s)) := by
 have h1 := Yg (encVar s.size)
 have h2 := Yt s.size
 refine Con.of Tryz.func114 J Tryz.ntmps114 J (fun E => ?_)
 refine zy (z1 J (zz (zy (z0 J (zx (Zy J J J) J ?_)))));refine zx (Qj J J (Xs s.size) J) J ?_;refine z0 J (zx (q_cat J J J J (by omega)) J (z1 J (zz (Xa (F_r ?_)))))
 exact Xp J J (X5 [] (by decide) J J J)
def packK (xs : List Int) (k : Nat) : List UInt8 := encVar xs.length ++ (xs.take k).flatMap fun x => encVar (signless x)
def packInts (xs : List Int) : ByteArray := if xs.all (fun x => decide (0 ≤ signless x)) then bs (packK xs xs.length) else bs []
theorem packK_succ {xs : List Int} {k : Nat} (h : k < xs.length) : packK xs (k + 1) = packK xs k ++ encVar (signless xs[k]) := by
 unfold packK
 rw [List.take_succ_eq_append_getElem h,List.flatMap_append,List.append_assoc]
 simp
theorem packK_len (xs : List Int) : ∀ k,k ≤ xs.length → (packK xs k).length ≤ 6 * k + 6
 | 0,_ => by simp [packK]; exact Yt _
 | k + 1,h => by
  rw [packK_succ (by omega),List.length_append]
  have := packK_len xs k (by omega)
  have := Yt (signless xs[k])
  omega
theorem packInts_size (xs : List Int) : (packInts xs).size ≤ 6 * xs.length + 6 := by
 unfold packInts
 split
 ·rw [Yg]; exact packK_len xs _ (Nat.le_refl _)
 ·rw [Yg]; simp
theorem I_PackInts (xs : List Int) (hg : Enc.gd xs) (hL : xs.length ≤ 1073741824) : Con Tryz.prog 64 [] [al xs] [] (S (packInts xs)) := by
 have hlx := Yp xs
 have h1 := Yg (encVar (els xs).length)
 have h2 := Yt (els xs).length
 refine Con.of Tryz.func64 J Tryz.ntmps64 J (fun E => ?_)
 refine zy (z1 J (zz (zy (z0 J (zx (Zw J J J) J ?_)))));refine zx (Qj J J (Xs (els xs).length) J) J ?_;refine M1 (q_strb J J J (by omega)) J J (z1 J (zz (Qd (zy (z0 J (zx (Zw J J J) J (z0 J (zz ?_))))))));refine Qk ?_
 refine A_lq (fun m st => ∃ k : Nat,k + m = xs.length ∧ ((xs.take k).all (fun x => decide (0 ≤ signless x)) = true) ∧ st = (⟨_,[(3,.o (.c (.ref 0))),(11,L xs),(12,I (els xs).length),(13,I k)],[.row 1 (bE (packK xs k))]⟩ : St)) (xs.length) ⟨(fun k : Nat => (⟨_,[(3,.o (.c (.ref 0))),(11,L xs),(12,I (els xs).length),(13,I k)],[.row 1 (bE (packK xs k))]⟩ : St)) 0,⟨0,by omega,by simp,J⟩,X7 [0] (by decide) J (Kc (by rw [Yf,hlx]; simp [packK])) (.c J (.c J (.c J (.c J (.nil)))))⟩ ?_
 rintro m_A _ ⟨k,hk_A,hp_A,rfl⟩
 refine zy (zx (Z1 J J J J) J (zz (Qd ?_)))
 refine Xb J (fun h => ?_) (fun h => ?_)
 ·have h3 : k < xs.length := by have := of_decide_eq_true h; omega
  have hat := Yo h3
  have hb1 := Yc (packK xs k)
  have hb2 := packK_len xs k (by omega)
  have hb3 := Yg (encVar (signless xs[k]))
  have hb4 := Yt (signless xs[k])
  refine Qh (Q0 (Qd (Qk (zy (zx (Q2 J J J J (by omega) (by assumption) J) J (zx (Z0 J J J J) J (z1 J (zz (Qd ?_)))))))));refine Qc (z0 J ?_);refine zx (Qj J J (I_Signless xs[k] (hg.2 _ (List.getElem_mem h3))) J) J ?_;refine z1 J (zz (Qd (zy (z0 J (zx (Z1 J J J J) J (zz ?_))))))
  refine Xb J (fun h4 => ?_) (fun h4 => ?_)
  ·refine zy (z1 rfl (zz (Xa (T_r (B_r (T_r (T_r ?_)))))))
   refine B_r (T_r (F_r ?_))
   exact Xp J J (X5 [] (by decide) J J (S_eq (by rw [packInts,all_no h3 (by simpa using h4)]; rfl)))
  ·refine Qh (Q0 (Qc (z0 rfl (z0 rfl ?_))))
   refine zx (Qj J J (Xs (signless xs[k])) J) J ?_;refine X0 J J J J J J J (by omega) (by omega) ?_;refine z1 J (Qe (Q1 (Q0 (Qc (z7 J (by omega) (z0 J (zz ?_)))))))
   exact ⟨xs.length - (k + 1),by omega,_,⟨k + 1,by omega,all_next hp_A h3 (by simpa using h4),J⟩,(by rw [Yf,Yb,packK_succ h3]; exact W_gj [0] (by kernel_rfl))⟩
 ·have h3 : ¬ ((k : Int) < (els xs).length) := of_decide_eq_false h
  have hk : k = xs.length := by omega
  refine Q9 (T_x (T_x (Xl (Q0 (zy (z0 J (zx (q_bstr J J J J) J (z1 J (zz ?_)))))))));refine Xa (F_r ?_)
  exact Xp J J (X5 [] (by decide) J J (S_eq (by rw [packInts,all_end hp_A (by omega),hk]; rfl)))
end
section
open Go.RowKit

theorem W_pre {st st' : St} {f : List (Nat × V) → St} (h : Wk st st') (k : ∃ l,Wk st' (f l)) : ∃ l,Wk st (f l) := k.imp fun _ hl => h.trans hl
theorem row2b {k : Nat} {o : Ob} {a b : List (List T)} (h : a = b) : [o,Ob.row k a] = [o,Ob.row k b] := by rw [h]
def bodyInts (b : TBody) : List Int := [b.Kind,b.Owner,b.X,b.Y,b.VX,b.VY,b.Aim,b.Life,b.Timer]
def worldInts (w : TWorld) : List Int := ([w.Tick,w.Seed,(w.Scores.length : Int)] ++ w.Scores) ++ w.Bodies.flatMap bodyInts
noncomputable def worldBytes (w : TWorld) : ByteArray := if worldOk w = true then packInts (worldInts w) else ⟨#[]⟩
theorem Yn {α : Type} [Enc α] (xs ys : List α) : els (xs ++ ys) = els xs ++ els ys := List.map_append
theorem flat_snoc {bs : List TBody} {k : Nat} (h : k < bs.length) : (bs.take (k + 1)).flatMap bodyInts = (bs.take k).flatMap bodyInts ++ bodyInts bs[k] := by
 rw [List.take_succ_eq_append_getElem h,List.flatMap_append]
 simp
theorem flat_len (bs : List TBody) : ∀ k,k ≤ bs.length → ((bs.take k).flatMap bodyInts).length = 9 * k
 | 0,_ => by simp
 | k + 1,h => by
  rw [flat_snoc (by omega),List.length_append,flat_len bs k (by omega)]
  simp [bodyInts]
  omega
theorem flat_gd {bs : List TBody} (hg : ∀ b ∈ bs,Enc.gd b) : ∀ x ∈ bs.flatMap bodyInts,I64 x := fun x hx => by
 obtain ⟨b,hb,hx⟩ := List.mem_flatMap.1 hx
 obtain ⟨b1,b2,b3,b4,b5,b6,b7,b8,b9⟩ := hg b hb
 simp only [bodyInts,List.mem_cons,List.not_mem_nil,or_false] at hx
 rcases hx with rfl | rfl | rfl | rfl | rfl | rfl | rfl | rfl | rfl <;> assumption
theorem I_bodyInts (b : TBody) : Con Tryz.prog 63 [] [ag b] [.row 1 (els (bodyInts b))] (.o (.c (.ref 0))) := by
 refine Con.of Tryz.func63 J Tryz.ntmps63 J (fun E => ?_)
 refine zy (M1 (Qq J J J J) J J (z1 J (zz (zy (z2 J J J (z3 J (z2 J J J (z3 J ?_))))))));refine z2 J J J (z3 J (z2 J J J (z3 J (z2 J J J (z3 J (z2 J J J (z3 J (z2 J J J (z3 J (z2 J J J (z3 J ?_)))))))))));refine z2 J J J (z3 J (M1 (Zj J J J J J J) J J (z1 J (zz (Xa (F_r ?_))))))
 exact Xp J J (W_pre (Wk.sbrow (q := 1) J J (Nat.le_of_ble_eq_true J)) (X5 [1] (by decide) J J J))
theorem I_WorldBytes (x : TWorld) (hg : Enc.gd x) : Con Tryz.prog 21 [] [ag x] [] (S (worldBytes x)) := by
 have hc := I_WorldOk x hg
 obtain ⟨gL,gT,gS,gSc,gB⟩ := hg
 cases ho : worldOk x with
 | false =>
  rw [ho] at hc
  rw [show worldBytes x = ⟨#[]⟩ by rw [worldBytes,ho]; exact if_neg (by decide)]
  refine Con.of Tryz.func21 J Tryz.ntmps21 J (fun E => ?_)
  refine zy (M1 (Qq J J J J) J J (z1 J (zz (Qd (zy (z4 J J J ?_))))));refine zx (Qj J J (hc) J) J ?_;refine zn J (zz (Qm J (zy (z1 J (zz (Xa (T_r (F_r ?_))))))))
  exact Xp J J (X5 [] (by decide) J J J)
 | true =>
  rw [ho] at hc
  rw [show worldBytes x = packInts (worldInts x) by rw [worldBytes,ho]; exact if_pos rfl]
  obtain ⟨_,_,_,hn,_,hb,_⟩ := Ko ho
  have hls := Yp x.Scores
  have hlb := Yp x.Bodies
  refine Con.of Tryz.func21 J Tryz.ntmps21 J (fun E => ?_)
  refine zy (M1 (Qq J J J J) J J (z1 J (zz (Qd (zy (z4 J J J ?_))))));refine zx (Qj J J (hc) J) J ?_;refine zn J (zz (Ql J (Qh (Q0 (zy (z2 J J J (z3 J (z2 J J J (z3 J ?_)))))))));refine z2 J J J (z3 J (zx (Zw J J J) J (M1 (Zj J J J J J J) J J (z1 J (zz (zy (z0 J (z2 J J J (z3 J ?_)))))))))
  have hl3 : (els [x.Tick,x.Seed,((els x.Scores).length : Int)]).length = 3 := rfl
  refine AL.weak (Wk.sbrow (q := 1) (es := els [x.Tick,x.Seed,((els x.Scores).length : Int)]) J J (Nat.le_of_ble_eq_true J)) ?_;refine AL.weak (st' := (⟨_,[(1,.o (.c (.ptr 0 0))),(17,.o (.c (.ref 1))),(19,L x.Scores)],[.box ((Enc.e x).map (V1.rd [])),.row 1 (els [x.Tick,x.Seed,((els x.Scores).length : Int)])]⟩ : St)) (W_gj [0,1] (by kernel_rfl)) ?_;refine M_app J J J J J J J J J J (Yq _) (els_k _) (by omega) (by omega) ?_;refine z1 J (zz (Qd (zy (z2 J J J (z3 J (zx (Zw J J J) J (z0 J (zz ?_))))))));refine Qk ?_
  have hini : els (([x.Tick,x.Seed,(x.Scores.length : Int)] ++ x.Scores) ++ (x.Bodies.take 0).flatMap bodyInts) = els [x.Tick,x.Seed,((els x.Scores).length : Int)] ++ els x.Scores := by rw [List.take_zero,List.flatMap_nil,List.append_nil,Yn,hls]
  refine A_lq (fun m st => ∃ k : Nat,k + m = x.Bodies.length ∧ (True) ∧ st = (⟨_,[(1,.o (.c (.ptr 0 0))),(3,.o (.c (.ref 1))),(22,L x.Bodies),(23,I (els x.Bodies).length),(24,I k)],[.box ((Enc.e x).map (V1.rd [])),.row 1 (els (([x.Tick,x.Seed,(x.Scores.length : Int)] ++ x.Scores) ++ (x.Bodies.take k).flatMap bodyInts))]⟩ : St)) (x.Bodies.length) ⟨(fun k : Nat => (⟨_,[(1,.o (.c (.ptr 0 0))),(3,.o (.c (.ref 1))),(22,L x.Bodies),(23,I (els x.Bodies).length),(24,I k)],[.box ((Enc.e x).map (V1.rd [])),.row 1 (els (([x.Tick,x.Seed,(x.Scores.length : Int)] ++ x.Scores) ++ (x.Bodies.take k).flatMap bodyInts))]⟩ : St)) 0,⟨0,by omega,trivial,J⟩,X7 [0,1] (by decide) J (row2b hini) (.c J (.c J (.c J (.c J (.c J (.nil))))))⟩ ?_
  rintro m_A _ ⟨k,hk_A,hp_A,rfl⟩
  have hla := Yp (([x.Tick,x.Seed,(x.Scores.length : Int)] ++ x.Scores) ++ (x.Bodies.take k).flatMap bodyInts)
  have hfl := flat_len x.Bodies k (by omega)
  have hlc : (([x.Tick,x.Seed,(x.Scores.length : Int)] ++ x.Scores) ++ (x.Bodies.take k).flatMap bodyInts).length = 3 + x.Scores.length + 9 * k := by
   rw [List.length_append,List.length_append,hfl]; rfl
  refine zy (zx (Z1 J J J J) J (zz (Qd ?_)))
  refine Xb J (fun h => ?_) (fun h => ?_)
  ·have h3 : k < x.Bodies.length := by have := of_decide_eq_true h; omega
   have hat := Yo h3
   have hlb9 : (els (bodyInts x.Bodies[k])).length = 9 := rfl
   refine Qh (Q0 (Qd (Qk (zy (zx (Q2 J J J J (by omega) (by assumption) J) J (zx (q_lrN J J J J J) J (M1 (Qx J J J) J J ?_)))))));refine Qy J J J J J J J J J (zz (Qc (z0 J (z4 J J J ?_))));refine M1 (Zo J J (I_bodyInts x.Bodies[k]) J J J) J J ?_;refine M_app J J J J J J J J J J (Yq _) (els_k _) (by omega) (by omega) ?_;refine z1 J (Qe (Q1 (Q0 (Qc (z7 J (by omega) (z0 J (zz ?_)))))))
   exact ⟨x.Bodies.length - (k + 1),by omega,(fun k : Nat => (⟨_,[(1,.o (.c (.ptr 0 0))),(3,.o (.c (.ref 1))),(22,L x.Bodies),(23,I (els x.Bodies).length),(24,I k)],[.box ((Enc.e x).map (V1.rd [])),.row 1 (els (([x.Tick,x.Seed,(x.Scores.length : Int)] ++ x.Scores) ++ (x.Bodies.take k).flatMap bodyInts))]⟩ : St)) (k + 1),⟨k + 1,by omega,trivial,J⟩,X7 [0,1] (by decide) J (row2b (by rw [flat_snoc h3,← List.append_assoc,Yn _ (bodyInts x.Bodies[k])])) (.c J (.c J (.c J (.c J (.c J (.nil))))))⟩
  ·have h3 : ¬ k < x.Bodies.length := by have := of_decide_eq_false h; omega
   have hk : x.Bodies.take k = x.Bodies := List.take_of_length_le (by omega)
   rw [hk] at hlc hla ⊢
   have hgi : Enc.gd (([x.Tick,x.Seed,(x.Scores.length : Int)] ++ x.Scores) ++ x.Bodies.flatMap bodyInts) := ⟨by omega,fun y hy => by
    rcases List.mem_append.1 hy with hy | hy
    ·rcases List.mem_append.1 hy with hy | hy
     ·simp only [List.mem_cons,List.not_mem_nil,or_false] at hy
      rcases hy with rfl | rfl | rfl
      ·exact gT
      ·exact gS
      ·exact ⟨by omega,by omega⟩
     ·exact gSc.2 y hy
    ·exact flat_gd gB.2 y hy⟩
   have hp := I_PackInts (([x.Tick,x.Seed,(x.Scores.length : Int)] ++ x.Scores) ++ x.Bodies.flatMap bodyInts) hgi (by omega)
   refine Q9 (T_x (T_x (Xl (Q0 (zy (z0 J ?_))))));refine zx (Qj J J (hp) J) J ?_;refine z1 J (zz (Xa (F_r ?_)))
   exact Xp J J (X5 [] (by decide) J J J)
end
section
open Go.RowKit

def dvGo (s : ByteArray) (p : Nat) (n : Int) (k : Nat) : Nat → Option (Int × Nat)
 | 0 => none
 | f + 1 => if p + k < s.size then
   (if 128 ≤ byteAt s (p + k) then dvGo s p (n + byteAt s (p + k) % 128 * 2 ^ (7 * k)) (k + 1) f
    else if (byteAt s (p + k) = 0 ∧ 0 < k) ∨ 1099511627775 < n + byteAt s (p + k) % 128 * 2 ^ (7 * k) then none
    else some (n + byteAt s (p + k) % 128 * 2 ^ (7 * k),k + 1)) else none
def decVar (s : ByteArray) (p : Int) : Option (Int × Nat) := if 0 ≤ p ∧ p < s.size then dvGo s p.toNat 0 0 6 else none
@[reducible] def bv (b : Bool) : V1 := .rd [] (.v (.bool b))
@[reducible] def jn (n : Int) : V1 := .rd [] (.v (.int .i64 n))
@[reducible] def dvR : Option (Int × Nat) → V
 | none => .tu [.c (jn 0),.c (jn 0),.c (bv false)]
 | some (n,k) => .tu [.c (jn n),.c (jn k),.c (bv true)]
theorem pow7 {k : Nat} (h : k ≤ 6) : ∃ M : Nat,2 ^ (7 * k) = M ∧ 1 ≤ M ∧ M ≤ 4398046511104 := by
 refine ⟨_,J,Nat.one_le_two_pow,?_⟩
 exact Nat.le_trans (Nat.pow_le_pow_right (by omega) (show 7 * k ≤ 42 by omega)) (by decide)
theorem pow7s (k : Nat) : 2 ^ (7 * (k + 1)) = 128 * 2 ^ (7 * k) := by
 rw [show 7 * (k + 1) = 7 * k + 7 by omega,Nat.pow_add]
 omega
theorem dv_part {c : Int} {M : Nat} (h0 : 0 ≤ c) (h1 : c < 128) : 0 ≤ c * (M : Int) ∧ c * (M : Int) ≤ 127 * M := by
 refine ⟨Int.mul_nonneg h0 (by omega),Int.mul_le_mul_of_nonneg_right (by omega) (by omega)⟩
theorem pow7i (k : Nat) : (2 : Int) ^ (7 * (k : Int)).toNat = ((2 ^ (7 * k) : Nat) : Int) := by
 rw [show (7 * (k : Int)).toNat = 7 * k by omega]
 norm_cast
theorem Xr (s : ByteArray) (p : Int) (hs : s.size ≤ 1099511627776) (hp : I64 p) : Con Tryz.prog 110 [] [astr s,ai p] [] (dvR (decVar s p)) := by
 obtain ⟨hp1,hp2⟩ := hp
 by_cases hin : ¬ (0 ≤ p ∧ p < s.size)
 ·rw [show decVar s p = none by rw [decVar,if_neg hin]]
  refine Con.of Tryz.func110 J Tryz.ntmps110 J (fun E => ?_)
  refine zy (z1 J (z1 J (z1 J (zz (Qd (zy (z0 J (zx (Z1 J J J J) J ?_))))))));refine z0 J ?_;refine zx (Qt.grdF J J J .stop (fun hgrd => Qa J J J)) J ?_;refine zx (Qt.grdF J J J (.hit .stop) (fun hgrd => Qa J J J)) J ?_;refine zx (Qt.grdF J J J (.hit (.hit .stop)) (fun hgrd => Zy J J J)) J ?_;refine zx (Qt.grdF J J J (.hit (.hit (.hit .stop))) (fun hgrd => q_geq J J J J)) J ?_;refine zx (Z5 J J J J) J (zz ?_)
  refine Xb J (fun h => ?_) (fun h => ?_)
  ·refine zy (z1 rfl (z1 rfl (z1 rfl (Qe ?_))))
   refine Q0 (Xa (T_r (F_r ?_)))
   exact E_tmp3 J J J J (X5 [] (by decide) J J J)
  ·simp only [Bool.or_eq_false_iff,decide_eq_false_iff_not] at h
   omega
 have hin := Classical.not_not.1 hin
 obtain ⟨q,rfl⟩ : ∃ q : Nat,p = q := ⟨p.toNat,by omega⟩
 rw [show decVar s q = dvGo s q 0 0 6 by rw [decVar,if_pos hin]; rfl]
 have hb1 : decide ((q : Int) < 0) = false := decide_eq_false (by omega)
 have hb2 : decide ((s.size : Int) ≤ q) = false := decide_eq_false (by omega)
 refine Con.of Tryz.func110 J Tryz.ntmps110 J (fun E => ?_)
 refine zy (z1 J (z1 J (z1 J (zz (Qd (zy (z0 J (z9a J (by assumption) ?_))))))));refine z0 J (z5 J (z0 J (z5 J (z0 J (z5 J (zx (Zy J J J) J (z5 J (z9d J (by assumption) (zpF J (zz ?_))))))))));refine Ql J (Qh (Q0 (zy (z1 J (zz (Qd (zy (z1 J ?_))))))));refine zz (Qk ?_);refine A_lq (fun m__ st => ∃ (k : Nat) (n : Int),6 - k = m__ ∧ (k ≤ 6 ∧ 0 ≤ n ∧ n < ((2 ^ (7 * k) : Nat) : Int) ∧ dvGo s q n k (6 - k) = dvGo s q 0 0 6) ∧ st = (⟨_,[(0,S s),(1,I q),(7,I n),(8,I k)],[]⟩ : St)) _ ⟨_,⟨0,0,J,⟨by omega,by omega,by simp,J⟩,J⟩,W_gj [] (by kernel_rfl)⟩ ?_
 rintro m_A _ ⟨k,n,hk_A,hp_A,rfl⟩
 obtain ⟨hk6,hn0,hn1,hgo⟩ := hp_A
 obtain ⟨M,hM,hM1,hM2⟩ := pow7 hk6
 have hMs := pow7s k
 rw [hM] at hn1 hMs
 rw [← hgo]
 refine Qd (zy (z0 J (zx (Z1 J J J J) J (z0 J ?_))));refine zx (Qt.grdT J J J .stop (fun hgrd => Qa J J J)) J ?_;refine zx (Qt.grdT J J J (.hit .stop) (fun hgrd => Qa J J J)) J ?_;refine zx (Qt.grdT J J J (.hit (.hit .stop)) (fun hgrd => Zy J J J)) J ?_;refine zx (Qt.grdT J J J (.hit (.hit (.hit .stop))) (fun hgrd => Qa J J J)) J ?_;refine zx (Qt.grdT J J J (.hit (.hit (.hit (.hit .stop)))) (fun hgrd => Xc J J J J (by omega))) J ?_;refine zx (Qt.grdT J J J (.hit (.hit (.hit (.hit (.hit .stop))))) (fun hgrd => Z1 J J J J)) J ?_;refine zx (Zg J J J J) J (zz ?_)
 refine Xb J (fun h => ?_) (fun h => ?_)
 ·simp only [Bool.and_eq_true,decide_eq_true_eq] at h
  have hlt : q + k < s.size := by omega
  obtain ⟨f,hf⟩ : ∃ f,6 - k = f + 1 := ⟨5 - k,by omega⟩
  obtain ⟨c,hc⟩ : ∃ c,byteAt s (q + k) = c := ⟨_,rfl⟩
  have hcr := Yh s (q + k)
  rw [hc] at hcr
  have hc1 : byteAt s ((q : Int) + (k : Int)).toNat = c := by rw [← hc]; congr 1
  obtain ⟨d,hd⟩ : ∃ d : Nat,c % 128 = d := ⟨(c % 128).toNat,by omega⟩
  have hd1 : c.toNat &&& (127 : Int).toNat = d := by
   rw [show (127 : Int).toNat = 2 ^ 7 - 1 from rfl,Nat.and_two_pow_sub_one_eq_mod]
   omega
  have hdM := dv_part (c := d) (M := M) (by omega) (by omega)
  obtain ⟨r,hr⟩ : ∃ r,(d : Int) * M = r := ⟨_,rfl⟩
  rw [hr] at hdM
  have hr1 : (d : Int) * 2 ^ (7 * (k : Int)).toNat = r := by rw [pow7i,hM,hr]
  have hgo1 : dvGo s q n k (f + 1) = if 128 ≤ c then dvGo s q (n + r) (k + 1) f else if (c = 0 ∧ 0 < k) ∨ 1099511627775 < n + r then none else some (n + r,k + 1) := by
   have h9 : c % 128 * 2 ^ (7 * k) = r := by
    rw [hd,← hr,← hM]
    norm_cast
   rw [dvGo,if_pos hlt,hc,h9]
  rw [hf,hgo1]
  by_cases h7 : 128 ≤ c
  ·have hb7 : decide (128 ≤ c) = true := decide_eq_true h7
   refine Qh (Q0 (Qd (Qk (zy (z0 J (z0 J (z0 J (z7 J (by omega) (zx (Zn J J J J (by assumption) (by omega)) J (z1 J ?_))))))))));refine zz (zy (z0 J (z0 J (zx (q_band8K J J J J (by assumption) (by omega)) J (zx (Zp J J J J (Kp (by omega))) J (z0 J (zx (Z3 J J J J (by omega)) J (zx (q_shlK J J J J (by assumption) (by omega) (by omega)) J (z7 J (by omega) ?_)))))))));refine z1 J (zz (Qd (zy (z0 J (z9d J (by assumption) (zz (Qm J (Q9 ?_))))))));refine T_x (Xl (Q0 (Qc (z0 J (z7 J (by omega) (z1 J (zz ?_)))))))
   refine ⟨_,(by omega),_,⟨k + 1,n + r,J,⟨by omega,by omega,by rw [hMs]; omega,by rw [if_pos h7,show 6 - (k + 1) = f by omega]⟩,J⟩,W_gj [] (by kernel_rfl)⟩
  have hb7 : decide (128 ≤ c) = false := decide_eq_false h7
  rw [if_neg h7]
  refine Qh (Q0 (Qd (Qk (zy (z0 J (z0 J (z0 J (z7 J (by omega) (zx (Zn J J J J (by assumption) (by omega)) J (z1 J ?_))))))))));refine zz (zy (z0 J (z0 J (zx (q_band8K J J J J (by assumption) (by omega)) J (zx (Zp J J J J (Kp (by omega))) J (z0 J (zx (Z3 J J J J (by omega)) J (zx (q_shlK J J J J (by assumption) (by omega) (by omega)) J (z7 J (by omega) ?_)))))))));refine z1 J (zz (Qd (zy (z0 J (z9d J (by assumption) (zz (Ql J (Qh ?_))))))));refine Q0 (Qd (zy (z0 J (zx (Zq J J J J) J (z0 J ?_)))));refine zx (Qt.grdT J J J .stop (fun hgrd => Qa J J J)) J ?_;refine zx (Qt.grdT J J J (.hit .stop) (fun hgrd => Zu J J J J)) J ?_;refine zx (Zg J J J J) J (z0 J ?_);refine zx (Qt.grdF J J J .stop (fun hgrd => Qa J J J)) J ?_;refine zx (Qt.grdF J J J (.hit .stop) (fun hgrd => Zu J J J J)) J ?_;refine zx (Z5 J J J J) J (zz ?_)
  refine Xb J (fun h8 => ?_) (fun h8 => ?_)
  ·simp only [Bool.or_eq_true,Bool.and_eq_true,decide_eq_true_eq] at h8
   rw [if_pos (by omega)]
   refine zy (z1 J (z1 J (z1 J (zz (Xa (T_r (B_r (T_r (T_r ?_)))))))));refine B_r (T_r (F_r ?_))
   exact E_tmp3 J J J J (X5 [] (by decide) J J J)
  ·simp only [Bool.or_eq_false_iff,Bool.and_eq_false_iff,decide_eq_false_iff_not] at h8
   rw [if_neg (by omega)]
   refine Qh (Q0 (zy (z0 J (z0 J (z7 J (by omega) (z1 J (z1 J (z1 J (zz ?_)))))))));refine Xa (B_r (T_r (T_r (B_r (T_r (F_r ?_))))))
   exact E_tmp3 J J J J (X5 [] (by decide) J J J)
 ·simp only [Bool.and_eq_false_iff,decide_eq_false_iff_not] at h
  rw [show dvGo s q n k (6 - k) = none by
   cases hf : 6 - k with
   | zero => rfl
   | succ f => rw [dvGo,if_neg (by omega)]]
  refine Q9 (T_x (T_x (Xl (Q0 (zy (z1 J (z1 J (z1 J (zz ?_)))))))));refine Xa (F_r ?_)
  exact E_tmp3 J J J J (X5 [] (by decide) J J J)
def bytesL (s : ByteArray) (p k : Nat) : List UInt8 := (s.data.toList.drop p).take k
theorem byteAt_list {s : ByteArray} {i : Nat} (h : i < s.size) : ∃ b : UInt8,s.data.toList[i]? = some b ∧ byteAt s i = (b.toNat : Int) := by
 have h1 : i < s.data.size := h
 refine ⟨s.data[i],by simp [h1],?_⟩
 unfold byteAt
 have : s[i]? = some s.data[i] := by
  rw [getElem?_pos s i h]
  rfl
 rw [this]
 rfl
theorem extract_list (s : ByteArray) (p q : Nat) : (s.extract p q).data.toList = (s.data.toList.drop p).take (q - p) := by
 rw [ByteArray.data_extract,Array.toList_extract]
theorem extract_bytes (s : ByteArray) (p k : Nat) : s.extract p (p + k) = bs (bytesL s p k) := by
 rw [← bs_of (s.extract p (p + k)),extract_list,show p + k - p = k by omega]
 rfl
end
end Go.Proofs.YtbfhboakafjjgaaGreat
