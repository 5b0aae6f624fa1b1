/-
  Parts of the proof (rules, data, and what functions of the program and of the reference return), among them: What the laws write into what they hold, and what they read back; The law FnExactParseAlarm returns true.
  Conditions: those that each theorem names.
-/
import Derived.Test.YtcjclaoogdblbaaDoorDDParARowk13
import Derived.Test.YtcjclaoogdblbaaDoorDDParARowk18
set_option linter.unusedSimpArgs false
set_option linter.unusedVariables false
set_option maxRecDepth 8000
set_option maxHeartbeats 8000000
namespace Go.Proofs.YtcjclaoogdblbaaDoor
section
open Go.RowKit

theorem OW.take {w : World} {k : Nat} {es : List (List T)} {v : Value} {fp : List Nat} (h : OW w (.sl k es) v fp) (hnd : fp.Nodup) {n : Nat} (hn : n ≤ es.length) : ∃ A c fp',v = .slice A es.length c ∧ es.length ≤ c ∧ OW w (.sl k (es.take n)) (.slice (if c = 0 then A else A.map (·.add (0 * k))) (n - 0) (c - 0)) fp' ∧ (∀ b ∈ fp',b ∈ fp) ∧ fp'.Nodup := by
 cases h with
 | nil =>
  have : n = 0 := by simpa using hn
  subst this
  exact ⟨none,0,[],J,Nat.le_refl _,by simpa using OW.nil (w := w) k,by simp,by simp⟩
 | sl _ b o _ c tid cur fz val fps hg hz hc hm hs hp hk hf hfk hv ht =>
  have hA : (if c = 0 then some (⟨b,o,none⟩ : Addr) else (some (⟨b,o,none⟩ : Addr)).map (·.add (0 * k))) = some ⟨b,o,none⟩ := by
   split
   ·rfl
   ·simp [Addr.add]
  have hl : (es.take n).length = n := by simp; omega
  have hfl : fps.flatten.flatten = (fps.take n).flatten.flatten ++ (fps.drop n).flatten.flatten := by
   rw [← List.flatten_append,← List.flatten_append,List.take_append_drop]
  refine ⟨some ⟨b,o,none⟩,c,b :: (fps.take n).flatten.flatten,J,hc,?_,fun x hx => ?_,?_⟩
  ·rw [hA]
   have h1 := OW.sl (w := w) (es.take n) b o k c tid cur fz val (fps.take n) hg hz (by omega) hm hs hp (fun e he => hk e (List.mem_of_mem_take he)) (by simp [hf]) (fun f hf' => hfk f (List.mem_of_mem_take hf'))
    (fun i j hi hj => hv i j (by omega) hj) (fun i j e t fs f g1 g2 g3 g4 => by
     have hi := Xk g1
     rw [hl] at hi
     rw [List.getElem?_take,if_pos hi] at g1 g3
     exact ht i j e t fs f g1 g2 g3 g4)
   rw [hl] at h1
   simpa using h1
  ·rcases List.mem_cons.1 hx with rfl | hx
   ·simp
   ·exact List.mem_cons_of_mem _ (by rw [hfl]; exact List.mem_append_left _ hx)
  ·rw [hfl,← List.cons_append] at hnd
   exact (List.nodup_append.1 hnd).1

section
variable {P : Program} {E : Env} {ops : Array Oper} {o : Oper} {st : St} {rest : List Oper} {QQ : Exit → St → Prop} {t : TypeId} {y u : Operand} {rs : List Nat} {j : Int} {m : Nat}
end
section
variable {P : Program} {E : Env} {ops : Array Oper} {o : Oper} {st : St} {rest : List Oper} {QQ : Exit → St → Prop} {t : TypeId} {y u : Operand} {rs : List Nat} {j : Int}
end
end
section
open Go.RowKit

theorem Wk.nilbox {st : St} {p i : Nat} (k : Nat) {cs : List V1} {qs : List Nat} (hp : st.objs[p]? = some (.box cs)) (hc : cs[i]? = some (.rd qs (.v (.slice none 0 0)))) : Wk st ⟨st.n,st.tmps,(st.objs.set p (.box (cs.set i (.ref st.objs.length)))) ++ [.row k []]⟩ := by
 intro w H F a h
 have hnil : H st.objs.length = .nil := by
  have := h.obs st.objs.length
  simpa [List.getD_eq_getElem?_getD,RB] using this
 have hlt := Xk hp
 obtain ⟨H',hH'⟩ : ∃ H' : Hs,H' = H.put st.objs.length (.ow (.sl k []) (.slice none 0 0) []) := ⟨_,rfl⟩
 have hin : H' st.objs.length = .ow (.sl k []) (.slice none 0 0) [] := by rw [hH']; exact Hs.put_self _ _ _
 have hout : ∀ q,q ≠ st.objs.length → H' q = H q := fun q hq => by rw [hH']; exact Hs.put_ne _ _ hq
 have hfp : ∀ q,(H' q).fp = (H q).fp := fun q => by
  by_cases e : q = st.objs.length
  ·rw [e,hin,hnil]; rfl
  ·rw [hout q e]
 have hgh : ∀ q i v,H' q = .gh i v → ∃ r,H r = .gh i v := fun q i v hq => by
  by_cases e : q = st.objs.length
  ·rw [e,hin] at hq; cases hq
  ·exact ⟨q,by rw [← hout q e]; exact hq⟩
 have hgr : Grow w H F w H' F := ⟨Below.refl _ _,fun q hq => hout q fun e => hq (by rw [e]; exact hnil),fun _ h => h,fun _ h => .inl h,fun q hq b hb => by rw [hfp,hq] at hb; simp [Pc.fp] at hb,hgh⟩
 refine ⟨H',⟨⟨fun q => ?_,fun q => by rw [hfp]; exact h.ok.nodup q,fun q r b h1 h2 => by rw [hfp] at h1 h2; exact h.ok.disj q r b h1 h2,fun q b h1 => by rw [hfp] at h1; exact h.ok.free q b h1,h.ok.flt⟩,fun q => ?_,fun e => hgr.rv (h.tmp e),h.size,h.defers⟩,fun q b hb => ⟨q,by rw [← hfp]; exact hb⟩,hgh⟩
 ·by_cases e : q = st.objs.length
  ·rw [e,hin]; exact OW.nil _
  ·rw [hout q e]; exact h.ok.says q
 ·show RB w H' F q ((st.objs.set p (.box (cs.set i (.ref st.objs.length))) ++ [Ob.row k []]).getD q .gone)
  by_cases e : q = st.objs.length
  ·rw [show (st.objs.set p (.box (cs.set i (.ref st.objs.length))) ++ [Ob.row k []]).getD q .gone = .row k [] by simp [List.getD_eq_getElem?_getD,e]]
   exact ⟨_,_,by rw [e]; exact hin⟩
  ·rcases Nat.lt_or_ge q st.objs.length with h1 | h1
   ·by_cases hqp : q = p
    ·subst hqp
     rw [show (st.objs.set q (.box (cs.set i (.ref st.objs.length))) ++ [Ob.row k []]).getD q .gone = .box (cs.set i (.ref st.objs.length)) by simp [List.getD_eq_getElem?_getD,List.getElem?_append_left,h1]]
     obtain ⟨g,t,vs,e1,e2,e3,e4⟩ := h.bx hp
     have hb := h.obs q
     rw [Xj hp] at hb
     obtain ⟨g,t,vs,k1,k2,k3⟩ := hb
     refine ⟨g,t,vs,(hout q e).trans k1,by simpa using k2,fun j c u h4 h5 => ?_⟩
     rw [List.getElem?_set] at h4
     split at h4
     ·rename_i hij
      subst hij
      split at h4
      ·simp only [Option.some.injEq] at h4
       subst h4
       have h6 := k3 i _ u hc h5
       obtain ⟨h7,_⟩ := RO.plain h6.1
       exact ⟨⟨_,_,by rw [hin,← h7]⟩,h6.2⟩
      ·cases h4
     ·have h6 := k3 j c u h4 h5
      exact ⟨hgr.r1 h6.1,h6.2⟩
    ·rw [show (st.objs.set p (.box (cs.set i (.ref st.objs.length))) ++ [Ob.row k []]).getD q .gone = st.objs.getD q .gone by
      rw [List.getD_eq_getElem?_getD,List.getElem?_append_left (by simpa using h1),List.getElem?_set_ne (Ne.symm hqp),List.getD_eq_getElem?_getD]]
     by_cases hn : H q = .nil
     ·have h2 := h.obs q
      have h3 : H' q = .nil := (hout q e).trans hn
      cases ho : st.objs.getD q .gone with
      | gone => exact h3
      | hole => trivial
      | box cs => rw [ho] at h2; obtain ⟨a,t,vs,e,_⟩ := h2; rw [hn] at e; cases e
      | row k es => rw [ho] at h2; obtain ⟨v,fp,e⟩ := h2; rw [hn] at e; cases e
      | gh i x => rw [ho] at h2; obtain ⟨v,e,_⟩ := h2; rw [hn] at e; cases e
      | shr es => rw [ho] at h2; obtain ⟨us,v,fp,e,_⟩ := h2; rw [hn] at e; cases e
     ·exact hgr.rb hn (h.obs q)
   ·rw [show (st.objs.set p (.box (cs.set i (.ref st.objs.length))) ++ [Ob.row k []]).getD q .gone = Ob.gone by
     rw [List.getD_eq_getElem?_getD,List.getElem?_eq_none (by simp; omega)]; rfl]
    refine (hout q e).trans ?_
    have := h.obs q
    simpa [List.getD_eq_getElem?_getD,RB,h1] using this
section
variable {P : Program} {ops : Array Oper} {o : Oper} {st : St} {m : Nat} {t e : TypeId} {y z : Operand} {zs : List Value} {by_ : Nat}
end
end
section
open Go.RowKit

section
variable {P : Program} {ops : Array Oper} {o : Oper} {st : St} {m : Nat} {t t' : TypeId} {y z : Operand} {ps qs : List Nat}
theorem q_bneqR {u : Bool} [TyBool P t] (ho : o.op = .binOp .neq t y z t') (hg : o.guard = none) (hy : st.ev y = .o (.c (.rd ps (.v (.bool u))))) (hz : st.ev z = .o (.c (.rd qs (.v (.bool u))))) : Qt P ops o st (B false) [] m := by
 have h := q_bneq (m := m) (P := P) (ops := ops) ho hg hy hz
 rwa [beq_self_eq_true] at h
theorem q_neqR {k : IntKind} {u : Int} (ho : o.op = .binOp .neq t y z t') (hg : o.guard = none) (hy : st.ev y = .o (.c (.rd ps (.v (.int k u))))) (hz : st.ev z = .o (.c (.rd qs (.v (.int k u))))) : Qt P ops o st (B false) [] m :=
 Qw ho hg hy hz (by simp)
theorem Q5 {xs : List V2} (ho : o.op = .move y) (hg : o.guard = none) (hy : st.ev y = .tu xs) : Qt P ops o st (.tu xs) [] m :=
 .pure hg fun a w H F hr => ⟨a.eval y,by simp [execOp,ho],by rw [← hy]; exact hr.ev y⟩
end
end
section
open Go.RowKit

@[reducible] def nilA : V1 := .rd [] (.v (.slice none 0 0))
@[reducible] def jA (n : Int) : V1 := .rd [] (.v (.int .i64 n))
theorem parsed_no {s : ByteArray} (h : ¬ (0 ≤ colAt s ∧ uintB (headB s) = true)) : parsed s = zAl ∧ parsedB s = false := by
 have : parseAl s = none := if_neg h
 rw [parsed,parsedB,this]; exact ⟨rfl,rfl⟩
theorem parsed_yes {s : ByteArray} (h : 0 ≤ colAt s) (h2 : uintB (headB s) = true) : parsed s = ⟨uintN (headB s),partsL (restB s)⟩ ∧ parsedB s = true := by
 have : parseAl s = some _ := if_pos ⟨h,h2⟩
 rw [parsed,parsedB,this]; exact ⟨rfl,rfl⟩
theorem partsL_0 {r : ByteArray} (h : r.size = 0) : partsL r = [] := if_pos h
theorem partsL_1 {r : ByteArray} (h : ¬ r.size = 0) : partsL r = (splitL r.data.toList).map bs := if_neg h
theorem size0 {r : ByteArray} : r.size = 0 ↔ r = ⟨#[]⟩ := ⟨fun h => by obtain ⟨⟨l⟩⟩ := r; simp [ByteArray.size] at h; rw [h],fun h => by rw [h]; rfl⟩
theorem I_ParseAlarm (s : ByteArray) (hs : s.size ≤ 1048576) : ConP MaxW Tryd.prog 14 [astr s] (ownO (Enc.e (parsed s))) (.tu [.ag (ownV 0 (Enc.e (parsed s))),.c (.rd [] (.v (.bool (parsedB s))))]) := by
 have hc := I_Cut s (by omega)
 have hh := headB_size s
 have hr := restB_size s
 by_cases h0 : 0 ≤ colAt s
 case neg =>
  rw [if_neg h0,if_neg h0,decide_eq_false h0] at hc
  have hu := I_ParseUint s (by omega)
  obtain ⟨e1,e2⟩ := parsed_no (s := s) (fun h => h0 h.1)
  rw [e1,e2]
  refine ConP.of Tryd.func14 J Tryd.ntmps14 J (fun E hE hT => ?_)
  refine zy (M1 (Qx J J J) J J (z1 J (zz (zy (z0 J ?_)))));refine M_callP max_kept hE hT (hc) J J J J J J J ?_;refine zx (Q5 J J J) J (ze J (ze J (ze J (z1 J (z1 J (z1 J (zz (zy (z0 J ?_)))))))));refine M1 (q_call J J (hu) J J J) J J ?_;refine zx (Q5 J J J) J (ze J (ze J (z1 J (z1 J (zz (Qd (zy (z0 J (zn J ?_)))))))));refine z0 J (z6 J (z6 J (zpT J (zz (Qm J (zy (zx (q_build J J J J J) J ?_)))))));refine Qy J J J J J J J J J (z1 J (zz (Q7 (T_r (F_r ?_)))))
  exact E_cellt J J J J J (W_fill [1] [1] J J (by decide) J J J)
 rw [if_pos h0,if_pos h0,decide_eq_true h0] at hc
 have hu := I_ParseUint (headB s) (by omega)
 cases h1 : uintB (headB s) with
 | false =>
  rw [h1] at hu
  obtain ⟨e1,e2⟩ := parsed_no (s := s) (fun h => by rw [h1] at h; cases h.2)
  rw [e1,e2]
  refine ConP.of Tryd.func14 J Tryd.ntmps14 J (fun E hE hT => ?_)
  refine zy (M1 (Qx J J J) J J (z1 J (zz (zy (z0 J ?_)))));refine M_callP max_kept hE hT (hc) J J J J J J J ?_;refine zx (Q5 J J J) J (ze J (ze J (ze J (z1 J (z1 J (z1 J (zz (zy (z0 J ?_)))))))));refine M1 (q_call J J (hu) J J J) J J ?_;refine zx (Q5 J J J) J (ze J (ze J (z1 J (z1 J (zz (Qd (zy (z0 J (zn J ?_)))))))));refine z0 J (z5 J (z0 J (z5 J (zn J (zpF J (zz (Qm J (zy (zx (q_build J J J J J) J ?_)))))))));refine Qy J J J J J J J J J (z1 J (zz (Q7 (T_r (F_r ?_)))))
  exact E_cellt J J J J J (W_fill [1] [1] J J (by decide) J J J)
 | true =>
  rw [h1] at hu
  obtain ⟨e1,e2⟩ := parsed_yes h0 h1
  rw [e1,e2]
  by_cases h2 : (restB s).size = 0
  ·rw [partsL_0 h2]
   have hb : decide (restB s ≠ ⟨#[]⟩) = false := decide_eq_false (fun h => h (size0.1 h2))
   refine ConP.of Tryd.func14 J Tryd.ntmps14 J (fun E hE hT => ?_)
   refine zy (M1 (Qx J J J) J J (z1 J (zz (zy (z0 J ?_)))));refine M_callP max_kept hE hT (hc) J J J J J J J ?_;refine zx (Q5 J J J) J (ze J (ze J (ze J (z1 J (z1 J (z1 J (zz (zy (z0 J ?_)))))))));refine M1 (q_call J J (hu) J J J) J J ?_;refine zx (Q5 J J J) J (ze J (ze J (z1 J (z1 J (zz (Qd (zy (z0 J (zn J ?_)))))))));refine z0 J (z5 J (z0 J (z5 J (zn J (zpF J (zz (Ql J (Qh (Qz (Qd ?_))))))))));refine Qc (z0 J (zx (q_build J J J J J) J (M1 (Qx J J J) J J ?_)));refine Qy J J J J J J J J J (zz (Qd (zy (z0 J (zx (q_sneqK J J J J (by assumption)) J (zz (Ql J (Qh ?_))))))));refine Qz (zy (z4 J J J ?_));refine Qy J J J J J J J J J (z1 J (zz (Q7 (F_r ?_))))
   exact E_cellt J J J J J (W_fill [1] [2] J J (by decide) J J J)
  ·rw [partsL_1 h2]
   have hb : decide (restB s ≠ ⟨#[]⟩) = true := decide_eq_true (fun h => h2 (size0.2 h))
   have hp := I_Split (restB s) (by omega)
   refine ConP.of Tryd.func14 J Tryd.ntmps14 J (fun E hE hT => ?_)
   refine zy (M1 (Qx J J J) J J (z1 J (zz (zy (z0 J ?_)))));refine M_callP max_kept hE hT (hc) J J J J J J J ?_;refine zx (Q5 J J J) J (ze J (ze J (ze J (z1 J (z1 J (z1 J (zz (zy (z0 J ?_)))))))));refine M1 (q_call J J (hu) J J J) J J ?_;refine zx (Q5 J J J) J (ze J (ze J (z1 J (z1 J (zz (Qd (zy (z0 J (zn J ?_)))))))));refine z0 J (z5 J (z0 J (z5 J (zn J (zpF J (zz (Ql J (Qh (Qz (Qd ?_))))))))));refine Qc (z0 J (zx (q_build J J J J J) J (M1 (Qx J J J) J J ?_)));refine Qy J J J J J J J J J (zz (Qd (zy (z0 J (zx (q_sneqK J J J J (by assumption)) J (zz (Qm J (Qc ?_))))))));refine z0 J (M_callP max_kept hE hT (hp) J J J J J J J (z2 J J J ?_));refine Q4 J J J J J J J J (zz (zy (z4 J J J ?_)));refine Qy J J J J J J J J J (z1 J (zz (Q7 (F_r ?_))))
   exact E_cellt J J J J J (Yh [2] J J J)
theorem col_hit {s : ByteArray} {k : Nat} (hk : k < s.size) (h : byteAt s k = 58) (hp : ∀ j,j < k → byteAt s j ≠ 58) : colAt s = k := by
 refine ix_hit ((byte_is (c := 58) hk).1 h) fun j hj e => hp j hj ((byte_is (c := 58) (by omega)).2 e)
theorem col_none {s : ByteArray} (hp : ∀ j,j < s.size → byteAt s j ≠ 58) : colAt s = -1 := by
 refine ix_none fun j hj e => ?_
 have hj' : j < s.size := by rw [Lib.size_eq]; exact hj
 exact hp j hj' ((byte_is (c := 58) hj').2 e)
def partsAt (r : List UInt8) (P : List ByteArray) (st i : Nat) : Prop := st ≤ i ∧ (splitL r).map bs = P ++ (preL ((r.take i).drop st) (splitL (r.drop i))).map bs
theorem partsAt_0 (r : List UInt8) : partsAt r [] 0 0 := ⟨Nat.le_refl _,by rw [List.drop_zero,List.take_zero,preL_nil]; rfl⟩
theorem partsAt_hit {r : List UInt8} {P : List ByteArray} {st i : Nat} (h : partsAt r P st i) (hb : r[i]? = some 44) : partsAt r (P ++ [bs ((r.take i).drop st)]) (i + 1) (i + 1) := by
 obtain ⟨h1,h2⟩ := h
 refine ⟨Nat.le_refl _,?_⟩
 have hd : r.drop i = 44 :: r.drop (i + 1) := by
  obtain ⟨hl,he⟩ := List.getElem?_eq_some_iff.1 hb
  rw [List.drop_eq_getElem_cons hl,he]
 rw [h2,hd,splitL,if_pos rfl,show (r.take (i + 1)).drop (i + 1) = [] from List.drop_eq_nil_of_le (by rw [List.length_take]; omega),preL_nil]
 simp [preL,List.append_assoc]
theorem partsAt_go {r : List UInt8} {P : List ByteArray} {st i : Nat} {b : UInt8} (h : partsAt r P st i) (hb : r[i]? = some b) (hne : b ≠ 44) : partsAt r P st (i + 1) := by
 obtain ⟨h1,h2⟩ := h
 refine ⟨by omega,?_⟩
 obtain ⟨hl,he⟩ := List.getElem?_eq_some_iff.1 hb
 have hd : r.drop i = b :: r.drop (i + 1) := by rw [List.drop_eq_getElem_cons hl,he]
 have ht : (r.take (i + 1)).drop st = (r.take i).drop st ++ [b] := by
  rw [List.take_add_one,hb,List.drop_append_of_le_length (by rw [List.length_take]; omega)]; rfl
 rw [h2,hd,splitL,if_neg hne,preL_pre,ht]
theorem partsAt_end {r : List UInt8} {P : List ByteArray} {st : Nat} (h : partsAt r P st r.length) : P ++ [bs (r.drop st)] = (splitL r).map bs := by
 obtain ⟨h1,h2⟩ := h
 rw [h2,List.drop_length,List.take_length]
 simp [splitL,preL]
theorem parts_len {r : List UInt8} {P : List ByteArray} {st i : Nat} (h : partsAt r P st i) : P.length ≤ r.length + 1 := by
 have h2 := congrArg List.length h.2
 have h3 := splitL_len r
 rw [List.length_map,List.length_append] at h2
 omega
theorem slice_is {s : ByteArray} {c st i : Nat} (h : st ≤ i) : s.extract (c + st) (c + i) = bs (((s.data.toList.drop c).take i).drop st) := by
 rw [← bs_lst (s.extract (c + st) (c + i)),Lib.extract_data,List.drop_take,List.drop_drop,show c + i - (c + st) = i - st by omega]
theorem els_snocB {l : List ByteArray} {x : ByteArray} : els (l ++ [x]) = els l ++ [Enc.e x] := by simp [els]
theorem S_ParseAlarm (s : ByteArray) (hs : s.size ≤ 1048576) : Con Tryd.prog 13 [] [astr s] (ownO (Enc.e (parsed s))) (.tu [.ag (ownV 0 (Enc.e (parsed s))),.c (.rd [] (.v (.bool (parsedB s))))]) := by
 refine Con.of Tryd.func13 J Tryd.ntmps13 J (fun E => ?_)
 refine zy (M1 (Qx J J J) J J (z1 J (zz (Qd (zy (z1 J (zz ?_)))))));refine Qk ?_;refine A_lq (fun m st => ∃ k : Nat,k + m = s.size ∧ ((∀ j,j < k → byteAt s j ≠ 58)) ∧ st = (⟨_,[(0,S s),(2,.o (.c (.ptr 0 0))),(4,I k)],[.box [jA 0,nilA]]⟩ : St)) (s.size) ⟨_,⟨0,by omega,fun j hj => absurd hj (Nat.not_lt_zero _),J⟩,W_gj [0] (by kernel_rfl)⟩ ?_
 rintro m_A _ ⟨k,hk_A,hp_A,rfl⟩
 by_cases hk : k < s.size
 case neg =>
  have hks : k = s.size := by omega
  subst hks
  have hcn := col_none hp_A
  obtain ⟨e1,e2⟩ := parsed_no (s := s) (fun h => by rw [hcn] at h; exact absurd h.1 (by decide))
  rw [e1,e2]
  have f0 : decide ((s.size : Int) < s.size) = false := decide_eq_false (by omega)
  refine Qd (zy (z0 J (z0 J (zx (Xu J J J) J (Yj J (zz (Ql J (Q6 (T_x ?_)))))))));refine T_x (B_xs (Qz (zy (zx (q_build J J J J J) J ?_))));refine Qy J J J J J J J J J (z1 J (zz (Q7 (F_r ?_))))
  exact E_cellt J J J J J (W_fill [1] [1] J J (by decide) J J J)
 have f0 : decide ((k : Int) < s.size) = true := decide_eq_true (by omega)
 by_cases hc : byteAt s k = 58
 case neg =>
  have f1 : decide (byteAt s k ≠ 58) = true := decide_eq_true hc
  have hnx : ∀ j,j < k + 1 → byteAt s j ≠ 58 := fun j hj => by
   by_cases e : j = k
   ·subst e; exact hc
   ·exact hp_A j (by omega)
  refine Qd (zy (z0 J (z0 J (zx (Xu J J J) J (Yj J (zz (Qm J (Qh (Qz ?_)))))))));refine Qd (Qk (Qd (zy (z0 J (z0 J (zx (q_byte J J J J (by omega)) J (z9f J (by assumption) (zz (Qm J ?_)))))))));refine Q6 (T_x (B_xs (Qz (Qc (z0 J (z7 J (by omega) (z1 J (zz ?_))))))))
  exact ⟨s.size - (k + 1),by omega,_,⟨k + 1,by omega,hnx,J⟩,W_gj [0] (by kernel_rfl)⟩
 have f1 : decide (byteAt s k ≠ 58) = false := decide_eq_false (fun h => h hc)
 have hcol := col_hit hk hc hp_A
 have hhd : headB s = s.extract 0 k := by rw [headB,hcol,Int.toNat_natCast,extract_take]
 have hu := S_ParseUint (headB s) (by have := headB_size s; omega)
 cases h1 : uintB (headB s) with
 | false =>
  rw [h1] at hu
  obtain ⟨e1,e2⟩ := parsed_no (s := s) (fun h => by rw [h1] at h; cases h.2)
  rw [e1,e2]
  rw [hhd] at hu
  refine Qd (zy (z0 J (z0 J (zx (Xu J J J) J (Yj J (zz (Qm J (Qh (Qz ?_)))))))));refine Qd (Qk (Qd (zy (z0 J (z0 J (zx (Yx J) J ?_))))));refine zx (Qw (b := false) J J J J (by decide)) J ?_;refine zz (Ql J (Qh (Qz (zy (z0 J (z0 J (zx (q_sslice0 J J J J (by omega)) J ?_)))))));refine M1 (q_call J J (hu) J J J) J J ?_;refine zx (Q5 J J J) J (ze J (ze J (z1 J (z1 J (zz (Qd (zy (z0 J (zn J ?_)))))))));refine zz (Qm J (zy (zx (q_build J J J J J) J ?_)));refine Qy J J J J J J J J J (z1 J (zz (Q7 (T_r (B_r (T_r (T_r (B_r (T_r (F_r ?_))))))))))
  exact E_cellt J J J J J (W_fill [1] [1] J J (by decide) J J J)
 | true =>
  obtain ⟨e1,e2⟩ := parsed_yes (s := s) (by rw [hcol]; omega) h1
  rw [e1,e2]
  rw [h1,hhd] at hu
  rw [hhd]
  have hrs : (restB s).size = s.size - (k + 1) := by rw [restB,hcol,Xg,List.length_drop,Lib.size_eq,Int.toNat_natCast]
  by_cases h2 : (restB s).size = 0
  ·rw [partsL_0 h2]
   have f2 : decide ((k : Int) + 1 < s.size) = false := decide_eq_false (by omega)
   have f3 : decide ((k : Int) + 1 ≤ s.size) = true := decide_eq_true (by omega)
   have f4 : decide ((k : Int) + 1 < (s.size : Int) + 1) = true := decide_eq_true (by omega)
   refine Qd (zy (z0 J (z0 J (zx (Xu J J J) J (Yj J (zz (Qm J (Qh (Qz ?_)))))))));refine Qd (Qk (Qd (zy (z0 J (z0 J (zx (Yx J) J ?_))))));refine zx (Qw (b := false) J J J J (by decide)) J ?_;refine zz (Ql J (Qh (Qz (zy (z0 J (z0 J (zx (q_sslice0 J J J J (by omega)) J ?_)))))));refine M1 (q_call J J (hu) J J J) J J ?_;refine zx (Q5 J J J) J (ze J (ze J (z1 J (z1 J (zz (Qd (zy (z0 J (zn J ?_)))))))));refine zz (Ql J (Qh (Qz (zy (z0 J (zx (q_build J J J J J) J (M1 (Qx J J J) J J ?_)))))));refine Qy J J J J J J J J J (zz (zy (z0 J (z7 J (by omega) (z1 J (zz (Qd (Qd ?_))))))));refine Qc (z0 J (z1 J (zz (Qk ?_))));refine A_lq (fun m st => ∃ i : Nat,i + m = 1 ∧ (i = 0) ∧ st = (⟨_,[(0,S s),(2,.o (.c (.ptr 0 0))),(4,I k),(7,.o (.c (.ptr 1 0))),(8,I ((k : Int) + 1)),(9,I ((k : Int) + 1))],[.box [jA 0,nilA],.box [jA (uintN (s.extract 0 k)),nilA]]⟩ : St)) (1) ⟨_,⟨0,by omega,J,J⟩,W_gj [0,1] (by kernel_rfl)⟩ ?_
   rintro m_B _ ⟨i,hk_B,hp_B,rfl⟩
   refine Qd (zy (z0 J (z0 J (zx (Xu J J J) J (z9b J (by assumption) (z0 J (z5 J (z0 J (z5 J (z0 J ?_))))))))));refine z5 J (zx (Xu J J J) J (z5 J (z7 J (by omega) (z5 J (Yj J (zpT J (z0 J (z5 J (z0 J (z5 J (z7 J (by omega) ?_)))))))))));refine z5 J (z0 J (z5 J (zx (Xu J J J) J (z5 J (Yj J (zpT J (zz (Ql J (Q6 (T_x ?_))))))))));refine T_x (B_xs (Qz (zy (z4 J J J ?_))));refine Qy J J J J J J J J J (z1 J (zz (Q7 (B_r (T_r (T_r (B_r (T_r (F_r ?_)))))))))
   exact E_cellt J J J J J (W_fill [1] [2] J J (by decide) J J J)
  ·rw [partsL_1 h2]
   obtain ⟨r,hr⟩ : ∃ r,r = (restB s).data.toList := ⟨_,rfl⟩
   have hrl : r.length = s.size - (k + 1) := by rw [hr,← Lib.size_eq]; exact hrs
   have hrd : r = s.data.toList.drop (k + 1) := by rw [hr,restB,hcol,Int.toNat_natCast]
   rw [← hr]
   have f2 : decide ((k : Int) + 1 < s.size) = true := decide_eq_true (by omega)
   refine Qd (zy (z0 J (z0 J (zx (Xu J J J) J (Yj J (zz (Qm J (Qh (Qz ?_)))))))));refine Qd (Qk (Qd (zy (z0 J (z0 J (zx (Yx J) J ?_))))));refine zx (Qw (b := false) J J J J (by decide)) J ?_;refine zz (Ql J (Qh (Qz (zy (z0 J (z0 J (zx (q_sslice0 J J J J (by omega)) J ?_)))))));refine M1 (q_call J J (hu) J J J) J J ?_;refine zx (Q5 J J J) J (ze J (ze J (z1 J (z1 J (zz (Qd (zy (z0 J (zn J ?_)))))))));refine zz (Ql J (Qh (Qz (zy (z0 J (zx (q_build J J J J J) J (M1 (Qx J J J) J J ?_)))))));refine Qy J J J J J J J J J (zz (zy (z0 J (z7 J (by omega) (z1 J (zz (Qd (Qd ?_))))))));refine Qc (z0 J (z1 J (zz (Qk ?_))))
   refine AWP.pre ?_ (Wk.nilbox (p := 1) (i := 1) 1 J J)
   refine A_lq (fun m__ st => ∃ (i : Nat) (P : List ByteArray) (q : Nat),r.length + 2 - i = m__ ∧ (((i ≤ r.length ∧ partsAt r P q i) ∨ (i = r.length + 1 ∧ P = (splitL r).map bs))) ∧ st = (⟨_,[(0,S s),(2,.o (.c (.ptr 0 0))),(4,I k),(7,.o (.c (.ptr 1 0))),(8,I ((k : Int) + 1 + q)),(9,I ((k : Int) + 1 + i))],[.box [jA 0,nilA],.box [jA (uintN (s.extract 0 k)),.ref 2],.row 1 (els P)]⟩ : St)) _ ⟨(fun (i : Nat) (P : List ByteArray) (q : Nat) => (⟨_,[(0,S s),(2,.o (.c (.ptr 0 0))),(4,I k),(7,.o (.c (.ptr 1 0))),(8,I ((k : Int) + 1 + q)),(9,I ((k : Int) + 1 + i))],[.box [jA 0,nilA],.box [jA (uintN (s.extract 0 k)),.ref 2],.row 1 (els P)]⟩ : St)) (0) ([]) (0),⟨0,[],0,J,.inl ⟨Nat.zero_le _,partsAt_0 r⟩,J⟩,W_go [0,1,2] (by decide) J (by kernel_rfl) (.c J (.c J (.c J (.c J (.cons (I_eq (by simp)) (.cons (I_eq (by simp)) (.nil)))))))⟩ ?_
   rintro m_B _ ⟨i,P,q,hk_B,hp_B,rfl⟩
   by_cases hi : i ≤ r.length
   case neg =>
    rcases hp_B with ⟨h,_⟩ | ⟨h,hP⟩
    ·exact absurd h hi
    subst hP
    have f3 : decide ((k : Int) + 1 + i ≤ s.size) = false := decide_eq_false (by omega)
    refine Qd (zy (z0 J (z0 J (zx (Xu J J J) J (z9b J (by assumption) (z0 J (z6 J (z6 J (z6 J (z6 J ?_))))))))));refine z6 J (zpF J (z0 J (z6 J (z6 J (z6 J (z6 J (z6 J (zpF J (zz (Ql J ?_))))))))));refine Q6 (T_x (T_x (B_xs (Qz (zy (z4 J J J ?_))))));refine Qy J J J J J J J J J (z1 J (zz (Q7 (B_r (T_r (T_r (B_r (T_r (F_r ?_)))))))))
    exact E_cellt J J J J J (Yh [2] J J J)
   have hpt : partsAt r P q i := by
    rcases hp_B with ⟨_,h⟩ | ⟨h,_⟩
    ·exact h
    ·omega
   have hst := hpt.1
   have hPl := parts_len hpt
   have hel := Xh P
   have f3 : decide ((k : Int) + 1 + i ≤ s.size) = true := decide_eq_true (by omega)
   have f4 : decide ((k : Int) + 1 + q < (s.size : Int) + 1) = true := decide_eq_true (by omega)
   have hx : s.extract ((k : Int) + 1 + q).toNat ((k : Int) + 1 + i).toNat = bs ((r.take i).drop q) := by
    rw [show ((k : Int) + 1 + q).toNat = k + 1 + q by omega,show ((k : Int) + 1 + i).toNat = k + 1 + i by omega,slice_is hst,hrd]
   obtain ⟨x,hxe⟩ : ∃ x,x = s.extract ((k : Int) + 1 + q).toNat ((k : Int) + 1 + i).toNat := ⟨_,rfl⟩
   by_cases he : i = r.length
   ·have g1 : decide ((k : Int) + 1 + i = s.size) = true := decide_eq_true (by omega)
    have hnx : P ++ [x] = (splitL r).map bs := by
     subst he
     rw [hxe,hx,List.take_length]
     exact partsAt_end hpt
    have hst2 : q ≤ i := hst
    refine Qd (zy (z0 J (z0 J (zx (Xu J J J) J (z9b J (by assumption) (z0 J (z5 J (z0 J (z5 J (z0 J ?_))))))))));refine z5 J (zx (Xu J J J) J (z5 J (z7 J (by omega) (z5 J (Yj J (zpT J (z0 J (z5 J (z0 J (z5 J (z7 J (by omega) ?_)))))))))));refine z5 J (z0 J (z5 J (zx (Xu J J J) J (z5 J (Yj J (zpT J (zz (Qm J (Qh (Qz ?_))))))))));refine Qd (Qk (zy (z0 J (z0 J (zx (Xu J J J) J (z9e J (by assumption) (z0 J (z6 J (z6 J (z6 J ?_))))))))));refine z6 J (zpT J (zz (Qm J (Qd (A_draw u8_3 u8_4 u8_5 J (Xx (Qf J J J J (by decide)) J (Xx (Qg J J J J J) J (Xx (Qa J J J) J (Xx (Qa J J J) J (Xx (Qa J J J) J ?_))))))))));refine Xx (q_sslice J J J J J (by omega)) J (Xx (q_bslice J J J J J J) J (Xw ?_));refine M_appsb J J J J J J J J J J (by omega) (by omega) ?_;refine z2 J J J ?_;refine Q4 J J J J J J J J (zz (Qc (z0 J (z7 J (by omega) (z1 J (Qe (Q0 (Qz (Qc (z0 J ?_))))))))));refine z7 J (by omega) (z1 J (zz ?_))
    refine ⟨_,(by omega),(fun (i : Nat) (P : List ByteArray) (q : Nat) => (⟨_,[(0,S s),(2,.o (.c (.ptr 0 0))),(4,I k),(7,.o (.c (.ptr 1 0))),(8,I ((k : Int) + 1 + q)),(9,I ((k : Int) + 1 + i))],[.box [jA 0,nilA],.box [jA (uintN (s.extract 0 k)),.ref 2],.row 1 (els P)]⟩ : St)) (i + 1) (P ++ [x]) (i + 1),⟨i + 1,P ++ [x],i + 1,J,.inr ⟨by omega,hnx⟩,J⟩,W_go [0,1,2] (by decide) J ((by rw [els_snocB,hxe]; rfl)) (.c J (.c J (.c J (.c J (.cons (Yu) (.cons (Yu) (.nil)))))))⟩
   have g1 : decide ((k : Int) + 1 + i = s.size) = false := decide_eq_false (by omega)
   obtain ⟨t,ht⟩ : ∃ t,byteAt s ((k : Int) + 1 + i).toNat = t := ⟨_,rfl⟩
   have ht2 : byteAt s (k + 1 + i) = t := by rw [← ht,show ((k : Int) + 1 + i).toNat = k + 1 + i by omega]
   obtain ⟨b,hb1,hb2⟩ := byteAt_l (s := s) (i := k + 1 + i) (by omega)
   have hri : r[i]? = some b := by rw [hrd,List.getElem?_drop]; exact hb1
   rw [ht2] at hb2
   by_cases hc2 : t = 44
   ·have g2 : decide (t = 44) = true := decide_eq_true hc2
    have hb4 : b = 44 := UInt8.toNat_inj.1 (by rw [hc2] at hb2; show b.toNat = 44; omega)
    have hnx := partsAt_hit hpt (by rw [hri,hb4])
    rw [← hx,← hxe] at hnx
    refine Qd (zy (z0 J (z0 J (zx (Xu J J J) J (z9b J (by assumption) (z0 J (z5 J (z0 J (z5 J (z0 J ?_))))))))));refine z5 J (zx (Xu J J J) J (z5 J (z7 J (by omega) (z5 J (Yj J (zpT J (z0 J (z5 J (z0 J (z5 J (z7 J (by omega) ?_)))))))))));refine z5 J (z0 J (z5 J (zx (Xu J J J) J (z5 J (Yj J (zpT J (zz (Qm J (Qh (Qz ?_))))))))));refine Qd (Qk (zy (z0 J (z0 J (zx (Xu J J J) J (z9e J (by assumption) (z0 J (z5 J (z0 J (z5 J ?_))))))))));refine z0 J (z5 J (zx (Yx J) J (z5 J (z9e J (by assumption) (zpF J (zz (Qm J (Qd (A_draw u8_3 u8_4 u8_5 J (Xx (Qf J J J J (by decide)) J ?_))))))))));refine Xx (Qg J J J J J) J (Xx (Qa J J J) J (Xx (Qa J J J) J (Xx (Qa J J J) J (Xx (q_sslice J J J J J (by omega)) J (Xx (q_bslice J J J J J J) J (Xw ?_))))));refine M_appsb J J J J J J J J J J (by omega) (by omega) ?_;refine z2 J J J ?_;refine Q4 J J J J J J J J (zz (Qc (z0 J (z7 J (by omega) (z1 J (Qe (Q0 (Qz (Qc (z0 J ?_))))))))));refine z7 J (by omega) (z1 J (zz ?_))
    refine ⟨_,(by omega),(fun (i : Nat) (P : List ByteArray) (q : Nat) => (⟨_,[(0,S s),(2,.o (.c (.ptr 0 0))),(4,I k),(7,.o (.c (.ptr 1 0))),(8,I ((k : Int) + 1 + q)),(9,I ((k : Int) + 1 + i))],[.box [jA 0,nilA],.box [jA (uintN (s.extract 0 k)),.ref 2],.row 1 (els P)]⟩ : St)) (i + 1) (P ++ [x]) (i + 1),⟨i + 1,P ++ [x],i + 1,J,.inl ⟨by omega,hnx⟩,J⟩,W_go [0,1,2] (by decide) J ((by rw [els_snocB,hxe]; rfl)) (.c J (.c J (.c J (.c J (.cons (Yu) (.cons (Yu) (.nil)))))))⟩
   ·have g2 : decide (t = 44) = false := decide_eq_false hc2
    have hnx := partsAt_go hpt hri (fun e => hc2 (by rw [hb2,e]; rfl))
    refine Qd (zy (z0 J (z0 J (zx (Xu J J J) J (z9b J (by assumption) (z0 J (z5 J (z0 J (z5 J (z0 J ?_))))))))));refine z5 J (zx (Xu J J J) J (z5 J (z7 J (by omega) (z5 J (Yj J (zpT J (z0 J (z5 J (z0 J (z5 J (z7 J (by omega) ?_)))))))))));refine z5 J (z0 J (z5 J (zx (Xu J J J) J (z5 J (Yj J (zpT J (zz (Qm J (Qh (Qz ?_))))))))));refine Qd (Qk (zy (z0 J (z0 J (zx (Xu J J J) J (z9e J (by assumption) (z0 J (z5 J (z0 J (z5 J ?_))))))))));refine z0 J (z5 J (zx (Yx J) J (z5 J (z9e J (by assumption) (zpF J (zz (Ql J (Qh (Q0 (Qz ?_))))))))));refine Qc (z0 J (z7 J (by omega) (z1 J (zz ?_))))
    refine ⟨_,(by omega),(fun (i : Nat) (P : List ByteArray) (q : Nat) => (⟨_,[(0,S s),(2,.o (.c (.ptr 0 0))),(4,I k),(7,.o (.c (.ptr 1 0))),(8,I ((k : Int) + 1 + q)),(9,I ((k : Int) + 1 + i))],[.box [jA 0,nilA],.box [jA (uintN (s.extract 0 k)),.ref 2],.row 1 (els P)]⟩ : St)) (i + 1) (P) (q),⟨i + 1,P,q,J,.inl ⟨by omega,hnx⟩,J⟩,W_go [0,1,2] (by decide) J (by kernel_rfl) (.c J (.c J (.c J (.c J (.cons (Yu) (.cons (Yu) (.nil)))))))⟩
end
section
open Go.RowKit

def dig : Nat → Int → List UInt8 → List UInt8
 | 0,_,out => out
 | n + 1,k,out => if 0 < k then dig n (k / 10) ([UInt8.ofNat (48 + k % 10).toNat] ++ out) else out
def mtext (k : Int) : ByteArray := bs (if k ≤ 0 then [109,48] else 109 :: dig 19 k [])
theorem dig_end {n : Nat} {k : Int} {out : List UInt8} (h : ¬ 0 < k) : dig n k out = out := by
 cases n with
 | zero => rfl
 | succ n => rw [dig,if_neg h]
theorem L_markText (k : Int) (hk : k ≤ 1099511627776) : Con Tryd.prog 80 [] [ai k] [] (S (mtext k)) := by
 refine Con.of Tryd.func80 J Tryd.ntmps80 J (fun E => ?_)
 refine zy (z1 J (zz (Qd (zy (z0 J (zx (q_leq J J J J) J (zz ?_)))))))
 refine Q8 J (fun h => ?_) (fun h => ?_)
 ·have h := of_decide_eq_true h
  refine zy (z1 J (zz (Q7 (T_r (F_r ?_)))))
  exact E_tmp J J (Yh [] J J (S_eq (by rw [mtext,if_pos h])))
 have h := of_decide_eq_false h
 rw [mtext,if_neg h]
 refine Qh (Qz (zy (z1 J (zz (Qd (Qk ?_))))));refine A_lq (fun m__ st => ∃ (j : Int) (out : List UInt8),j.toNat = m__ ∧ (∃ n,0 ≤ j ∧ j ≤ 1099511627776 ∧ j < 10 ^ n ∧ out.length + n = 19 ∧ dig n j out = dig 19 k []) ∧ st = (⟨_,[(0,I j),(3,S (bs out))],[]⟩ : St)) _ ⟨_,⟨k,[],J,⟨19,by omega,hk,by omega,J,J⟩,J⟩,W_gj [] (by kernel_rfl)⟩ ?_
 rintro m_A _ ⟨j,out,hk_A,hp_A,rfl⟩
 obtain ⟨n,a0,a1,a2,a3,a4⟩ := hp_A
 refine Qd (zy (z0 J (zx (q_gtr J J J J) J (zz ?_))))
 refine Q8 J (fun h => ?_) (fun h => ?_)
 ·have h := of_decide_eq_true h
  have hl := Xg out
  refine Qh (Qz (Qk (zy (z0 J (zx (q_rem J J J J (by omega)) J (z7 J (by omega) (zx (q_convI J J J J (wrap_u8_in (by omega))) J (M1 (q_bslice J J J J J J) J J (zx (q_bstrb J J J J J) J (z0 J ?_))))))))))
  refine M0 (q_cat J J J J (by simp only [Xg,cat_size,List.length_cons,List.length_nil,List.length_append]; omega)) J J ?_
  refine z1 J (zz (Qc (z0 J (zx (q_quo J J J J (by omega)) J (z1 J (Qe (Q0 (Qz ?_))))))))
  obtain ⟨n,rfl⟩ : ∃ n',n = n' + 1 := ⟨n - 1,by have : n ≠ 0 := fun e => by { subst e; simp at a2; omega }; omega⟩
  rw [dig,if_pos h] at a4
  rw [Int.pow_succ] at a2
  refine ⟨_,(by omega),(fun (j : Int) (out : List UInt8) => (⟨_,[(0,I j),(3,S (bs out))],[]⟩ : St)) (j / 10) ([UInt8.ofNat (48 + j % 10).toNat] ++ out),⟨j / 10,[UInt8.ofNat (48 + j % 10).toNat] ++ out,J,⟨n,by omega,by omega,by omega,by simp only [List.length_append,List.length_cons,List.length_nil]; omega,a4⟩,J⟩,W_go [] (by decide) J (by kernel_rfl) (.c J (.cons (S_eq (bs_app [_] _)) (.nil)))⟩
 ·have h := of_decide_eq_false h
  have hl := Xg out
  rw [dig_end h] at a4
  refine Q6 (T_x (T_x (B_xs (Qz (zy (z0 J ?_))))))
  refine M0 (q_cat J J J J (by simp only [Xg,cat_size,List.length_cons,List.length_nil,List.length_append]; omega)) J J ?_
  refine z1 J (zz (Q7 (F_r ?_)))
  exact E_tmp J J (Yh [] J J (S_eq (by rw [← a4]; exact bs_app [_] _)))

def markS (xs : List ByteArray) (k : Int) : List ByteArray := (List.range xs.length).map fun (i : Nat) => mtext (k + i)
theorem Xp (xs : List ByteArray) (k : Int) : (markS xs k).length = xs.length := by simp [markS]
theorem row2 {k : Nat} {a b : List (List T)} {g : Ob} (h : a = b) : [Ob.row k a,g] = [Ob.row k b,g] := by rw [h]
theorem els_set {α : Type} [Enc α] (xs : List α) (i : Nat) (x : α) : els (xs.set i x) = (els xs).set i (Enc.e x) := by simp [els,List.map_set]
theorem mark_next {xs : List ByteArray} {k : Int} {i : Nat} {e : List T} (h : i < xs.length) (he : e.length = 1 := by rfl) : els ((markS xs k).take (i + 1) ++ xs.drop (i + 1)) = (els ((markS xs k).take i ++ xs.drop i)).set i (splice e 0 [.v (.string (mtext (k + i)))]) := by
 have h1 : splice e 0 [T.v (.string (mtext (k + i)))] = Enc.e (mtext (k + i)) := by
  match e,he with
  | [t],_ => rfl
 have h2 : i < (markS xs k).length := by rw [Xp]; exact h
 have h3 : (markS xs k)[i] = mtext (k + i) := by simp [markS]
 rw [h1,← els_set]
 congr 1
 rw [List.take_succ_eq_append_getElem h2,h3,List.set_append_right _ _ (by simp [Xp]; omega)]
 have : i - ((markS xs k).take i).length = 0 := by simp [Xp]; omega
 rw [this,List.drop_eq_getElem_cons h,List.set_cons_zero,List.append_assoc]
 rfl
theorem L_markStringS (xs : List ByteArray) (k : Int) (hL : xs.length ≤ 1048576) (h0 : 0 < k) (hk : k ≤ 4294967296) : Con Tryd.prog 40 [.row 1 (els xs),.gh 0 (.c (.ref 0))] [.c (.ref 0),ai k] [.row 1 (els (markS xs k)),.gh 0 (.c (.ref 0))] (I (k + xs.length)) := by
 have hlx := Xh xs
 refine Con.of Tryd.func40 J Tryd.ntmps40 J (fun E => ?_)
 refine zy (z1 J (zz (Qd (zy (z1 J (zz (Qk ?_)))))));refine A_lq (fun m st => ∃ i : Nat,i + m = xs.length ∧ (True) ∧ st = (⟨_,[(0,.o (.c (.ref 0))),(1,I (k + i)),(5,I i)],[.row 1 (els ((markS xs k).take i ++ xs.drop i)),.gh 0 (.c (.ref 0))]⟩ : St)) (xs.length) ⟨(fun i : Nat => (⟨_,[(0,.o (.c (.ref 0))),(1,I (k + i)),(5,I i)],[.row 1 (els ((markS xs k).take i ++ xs.drop i)),.gh 0 (.c (.ref 0))]⟩ : St)) 0,⟨0,by omega,trivial,J⟩,W_go [0,1] (by decide) J (by kernel_rfl) (.c J (.cons (Yu) (.c J (.nil))))⟩ ?_
 rintro m_A _ ⟨i,hk_A,hp_A,rfl⟩
 have hl2 : (els ((markS xs k).take i ++ xs.drop i)).length = xs.length := by rw [Xh]; simp [Xp]; omega
 refine Qd (zy (z0 J (z0 J (zx (q_lenr J J J J) J (zx (q_lss J J J J) J (zz ?_))))))
 refine Q8 J (fun h => ?_) (fun h => ?_)
 ·have h3 : i < xs.length := by have := of_decide_eq_true h; omega
  have hi : i < ((markS xs k).take i ++ xs.drop i).length := by simp [Xp]; omega
  have hat := els_at hi
  refine Qh (Qz (Qd (Qk (zy (z0 J (z0 J (z0 J ?_)))))));refine zx (Qj J J (L_markText (k + i) (by omega)) J) J ?_;refine zx (Q2 J J J J J (by omega) (by omega)) J ?_;refine Xb J J J J J J J J J (by assumption) J J (zz (Qc (z0 J (z7 J (by omega) (z1 J (Qe (Q0 (Qz (Qc (z0 J ?_))))))))));refine z7 J (by omega) (z1 J (zz ?_))
  exact ⟨xs.length - (i + 1),by omega,(fun i : Nat => (⟨_,[(0,.o (.c (.ref 0))),(1,I (k + i)),(5,I i)],[.row 1 (els ((markS xs k).take i ++ xs.drop i)),.gh 0 (.c (.ref 0))]⟩ : St)) (i + 1),⟨i + 1,by omega,trivial,J⟩,W_go [0,1] (by decide) J (row2 (mark_next h3)) (.c J (.cons (Yu) (.c J (.nil))))⟩
 ·have h3 : ¬ ((i : Int) < (els ((markS xs k).take i ++ xs.drop i)).length) := of_decide_eq_false h
  have hi : i = xs.length := by omega
  have hm : (markS xs k).take i ++ xs.drop i = markS xs k := by rw [List.take_of_length_le (by rw [Xp]; omega),List.drop_of_length_le (by omega),List.append_nil]
  refine Q6 (T_x (T_x (B_xs (Qz (zy (z0 J (z1 J (zz (Q7 ?_)))))))));refine F_r ?_
  exact E_tmp J J (Yh [0,1] J (row2 (by rw [hm])) (Yu))
theorem L_heldStringS (xs : List ByteArray) (k : Int) (hL : xs.length ≤ 1048576) (h0 : 0 < k) (hk : k ≤ 4294967296) : Con Tryd.prog 41 [] [al (markS xs k),ai k] [] (I (k + xs.length)) := by
 have hlx := Xh (markS xs k)
 rw [Xp] at hlx
 refine Con.of Tryd.func41 J Tryd.ntmps41 J (fun E => ?_)
 refine zy (z1 J (zz (Qd (zy (z1 J (zz (Qk ?_)))))));refine A_lq (fun m st => ∃ i : Nat,i + m = xs.length ∧ (True) ∧ st = (⟨_,[(0,L (markS xs k)),(1,I (k + i)),(5,I i)],[]⟩ : St)) (xs.length) ⟨(fun i : Nat => (⟨_,[(0,L (markS xs k)),(1,I (k + i)),(5,I i)],[]⟩ : St)) 0,⟨0,by omega,trivial,J⟩,W_go [] (by decide) J (by kernel_rfl) (.c J (.cons (Yu) (.c J (.nil))))⟩ ?_
 rintro m_A _ ⟨i,hk_A,hp_A,rfl⟩
 refine Qd (zy (z0 J (z0 J (zx (q_len J J J) J (zx (q_lss J J J J) J (zz ?_))))))
 refine Q8 J (fun h => ?_) (fun h => ?_)
 ·have h3 : i < xs.length := by have := of_decide_eq_true h; omega
  have hi : i < (markS xs k).length := by rw [Xp]; exact h3
  have hat := els_at hi
  have hx : (markS xs k)[i] = mtext (k + i) := by simp [markS]
  rw [hx] at hat
  have hne : decide (mtext (k + i) ≠ mtext (k + i)) = false := by simp
  refine Qh (Qz (Qd (Qk (Qd (Qd (A_draw [[],[],[0,1],[0,1,2],[],[4],(u9 6)] [[],[],[12,13],[12,13,14],[],[16],[12,13,14,15,16,17]] [[13,16,17],[12,16,17],[16,17],[16,17],[12,13,14,15],[12,13,14,15],[]] J (Xx (Qa J J J) J (Xx (Qa J J J) J (Xx (Q1 J J J J (by omega) (by assumption) J) J (Xx (q_lr1 J J J J) J (Xx (Qa J J J) J ?_)))))))))));refine Xx (Qj J J (L_markText (k + i) (by omega)) J) J ?_;refine Xx (q_sneqK J J J J (by assumption)) J (Xw (zz (Ql J (Qh (Qz (Qc (z0 J (z7 J (by omega) (z1 J (Qe ?_))))))))));refine Q0 (Qz (Qc (z0 J (z7 J (by omega) (z1 J (zz ?_))))))
  exact ⟨xs.length - (i + 1),by omega,(fun i : Nat => (⟨_,[(0,L (markS xs k)),(1,I (k + i)),(5,I i)],[]⟩ : St)) (i + 1),⟨i + 1,by omega,trivial,J⟩,W_go [] (by decide) J (by kernel_rfl) (.c J (.cons (Yu) (.c J (.nil))))⟩
 ·have h3 : ¬ ((i : Int) < (els (markS xs k)).length) := of_decide_eq_false h
  refine Q6 (T_x (T_x (B_xs (Qz (zy (z0 J (z1 J (zz (Q7 ?_)))))))));refine F_r ?_
  exact E_tmp J J (Yh [] J J (Yu))
end
section
open Go.RowKit

@[reducible] def iv (n : Int) : V1 := .rd [] (.v (.int .i64 n))
theorem L_markAlarm (t : Int) (xs : List ByteArray) (k : Int) (hL : xs.length ≤ 1048577) (h0 : 0 < k) (hk : k ≤ 1073741823) (hL2 : xs.length ≤ 1048576) : Con Tryd.prog 15 [.row 1 (els xs),.gh 0 (.ag [iv t,.ref 0])] [.ag [iv t,.ref 0],ai k] [.row 1 (els (markS xs k)),.gh 0 (.ag [iv t,.ref 0])] (I (k + xs.length)) := by
 refine Con.of Tryd.func15 J Tryd.ntmps15 J (fun E => ?_)
 refine zy (M1 (Qq J J J J) J J (z1 J (zz (zy (z2 J J J (z3 J (z0 J ?_)))))));refine Xa (lo := [_]) (gs := [(0,.c (.ref 0))]) (lo' := [_]) (new := []) [0] [(0,0,.ref 0)] (L_markStringS xs k hL2 h0 (by omega)) J J J J J J J J J J J J J J J J J ?_;refine z1 J (zz (zy (z0 J (z1 J (zz (Q7 (F_r ?_)))))))
 exact E_tmp J J (Yh [0,1] J J J)
theorem L_heldAlarm (t : Int) (xs : List ByteArray) (k : Int) (hL : xs.length ≤ 1048576) (h0 : 0 < k) (hk : k ≤ 1073741823) : Con Tryd.prog 16 [] [ag (⟨t,markS xs k⟩ : TAlarm),ai k] [] (I (k + xs.length)) := by
 have hn : decide (k + (xs.length : Int) < 0) = false := decide_eq_false (by omega)
 refine Con.of Tryd.func16 J Tryd.ntmps16 J (fun E => ?_)
 refine zy (M1 (Qq J J J J) J J (z1 J (zz (zy (z2 J J J (z3 J (z0 J ?_)))))));refine zx (Qj J J (L_heldStringS xs k hL h0 (by omega)) J) J ?_;refine z1 J (zz (Qd (zy (z0 J (Yj J (zz (Ql J (Qh ?_))))))));refine Qz (zy (z0 J (z1 J (zz (Q7 (F_r ?_))))))
 exact E_tmp J J (Yh [] J J J)
theorem restB_lt {s : ByteArray} : (restB s).size ≤ s.size - 1 ∨ s.size = 0 := by
 by_cases h : s.size = 0
 ·exact .inr h
 ·left
  rw [restB,Xg,List.length_drop,← Lib.size_eq]; omega
theorem parsed_ok {s : ByteArray} (hs : s.size ≤ 1048576) : Enc.gd (parsed s) ∧ (parsed s).Parts.length ≤ 1048576 := by
 have hz : Enc.gd zAl ∧ zAl.Parts.length ≤ 1048576 := ⟨⟨⟨by show (-9223372036854775808 : Int) ≤ 0; omega,by show (0 : Int) ≤ 9223372036854775807; omega⟩,⟨by show (0 : Nat) ≤ _; omega,fun x hx => by cases hx⟩⟩,by show (0 : Nat) ≤ _; omega⟩
 by_cases h : 0 ≤ colAt s ∧ uintB (headB s) = true
 ·obtain ⟨h1,h2⟩ := partsL_ok (restB s)
  have h3 := restB_size s
  have h4 : (partsL (restB s)).length ≤ 1048576 := by
   rcases restB_lt (s := s) with h5 | h5
   ·by_cases h6 : s.size = 0
    ·have : (restB s).size = 0 := by omega
     rw [partsL_0 this]; simp
    ·omega
   ·have : (restB s).size = 0 := by omega
    rw [partsL_0 this]; simp
  rw [(parsed_yes h.1 h.2).1]
  have hu : uintN (headB s) ≤ 1000000000 := by
   have h5 : UintP (headB s) := @of_decide_eq_true _ (Classical.propDecidable _) h.2
   rw [uintN_T h5]; exact h5.2.2.2.2
  exact ⟨⟨⟨by show (-9223372036854775808 : Int) ≤ ((uintN (headB s) : Nat) : Int); omega,by show ((uintN (headB s) : Nat) : Int) ≤ 9223372036854775807; omega⟩,⟨by show (partsL _).length ≤ _; omega,fun x hx => by have := h2 x hx; show x.size ≤ _; omega⟩⟩,h4⟩
 ·rw [(parsed_no h).1]; exact hz
theorem law_ParseAlarm (s : ByteArray) (hg : Enc.gd s) : ConP MaxW Tryd.prog 4 [astr s] [] (B true) := by
 by_cases n1 : (1048576 : Int) < s.size
 ·have hb1 : decide ((1048576 : Int) < s.size) = true := decide_eq_true n1
  refine ConP.of Tryd.func4 J Tryd.ntmps4 J (fun E hE hT => ?_)
  refine zy (z1 J (zz (Qd (zy (z0 J (zx (Xu J J J) J (z9c J (by assumption) (Qe ?_))))))));refine Qz (Qm J (zy (z1 J (zz (Q7 (T_r (F_r ?_)))))))
  exact E_tmp J J (Yh [] J J J)
 have hb1 : decide ((1048576 : Int) < s.size) = false := decide_eq_false n1
 have hip := I_ParseAlarm s (by omega)
 have hsp := S_ParseAlarm s (by omega)
 obtain ⟨hgd,hyl⟩ := parsed_ok (s := s) (by omega)
 generalize parsed s = y at hip hsp hgd hyl
 generalize parsedB s = b at hip hsp
 have hq1 := eq_Alarm y y hgd
 rw [decide_eq_true rfl] at hq1
 have hm_y := L_markAlarm y.Tick y.Parts 1 (by omega) (by omega) (by omega) hyl
 have hh := L_heldAlarm y.Tick y.Parts 1 hyl (by omega) (by omega)
 have hk2 : decide ((1 : Int) + y.Parts.length < 0) = false := decide_eq_false (by omega)
 refine ConP.of Tryd.func4 J Tryd.ntmps4 J (fun E hE hT => ?_)
 refine zy (z1 J (zz (Qd (zy (z0 J (zx (Xu J J J) J (z9c J (by assumption) (Qe ?_))))))));refine Qz (Ql J (Qh (Qz (zy (z0 J ?_)))));refine M1 (q_call J J (hsp) J J J) J J ?_;refine zx (Q5 J J J) J (ze J (ze J (M1 (Qx J J J) J J ?_)));refine Qy J J J J J J J J J (z1 J (zz (zy (z0 J ?_))));refine AL.weak (st' := (⟨_,[(0,S s),(3,.o (.c (.ptr 1 0))),(4,B b),(20,S s)],[.row 1 (els y.Parts),.box [iv y.Tick,.ref 0]]⟩ : St)) (W_gj [0,1] (by kernel_rfl)) ?_;refine M_callP max_kept hE hT (hip) J J J J J J J (zx (Q5 J J J) J (ze J (ze J (M1 (Qx J J J) J J ?_))));refine Qy J J J J J J J J J (z1 J (zz (Qd (zy (z4 J J J (z4 J J J ?_))))));refine AL.weak (st' := (⟨_,[(0,S s),(3,.o (.c (.ptr 1 0))),(4,B b),(5,.o (.c (.ptr 3 0))),(6,B b),(24,.o (.ag [iv y.Tick,.ref 2])),(25,.o (.ag [iv y.Tick,.ref 0]))],[.row 1 (els y.Parts),.box [iv y.Tick,.ref 0],.row 1 (els y.Parts),.box [iv y.Tick,.ref 2]]⟩ : St)) (W_gj [0,1,2,3] (by kernel_rfl)) ?_;refine zx (Qj J J (hq1) J) J ?_;refine zn J (z0 J (z5 J (z0 J (z5 J (z0 J (z5 J (zx (q_bneqR J J J J) J (zpF J (zz (Ql J ?_))))))))));refine Qh (Qz (zy (z1 J (zz (zy (z4 J J J (z0 J ?_)))))));refine AL.weak (st' := (⟨_,[(0,S s),(3,.o (.c (.ptr 1 0))),(4,B b),(5,.o (.c (.ptr 3 0))),(33,.o (.ag [iv y.Tick,.ref 2])),(34,I 1)],[.row 1 (els y.Parts),.box [iv y.Tick,.ref 0],.row 1 (els y.Parts),.box [iv y.Tick,.ref 2]]⟩ : St)) (W_gj [0,1,2,3] (by kernel_rfl)) ?_;refine Xa (lo := [_]) (gs := [(0,.ag [iv y.Tick,.ref 0])]) (lo' := [_]) (new := []) [2] [(0,1,.ref 0)] (hm_y) J J J J J J J J J J J J J J J J J ?_;refine z1 J (zz (zy (z1 J (zz (zy (z4 J J J (z0 J ?_)))))));refine AL.weak (st' := (⟨_,[(0,S s),(3,.o (.c (.ptr 1 0))),(4,B b),(5,.o (.c (.ptr 3 0))),(7,I (1 + y.Parts.length)),(36,.o (.ag [iv y.Tick,.ref 2])),(37,I 1)],[.row 1 (els y.Parts),.box [iv y.Tick,.ref 0],.row 1 (els (markS y.Parts 1)),.box [iv y.Tick,.ref 2]]⟩ : St)) (W_gj [0,1,2,3] (by kernel_rfl)) ?_;refine zx (Qj J J (hh) J) J ?_;refine z1 J (zz (Qd (zy (z0 J (Yj J (zz (Ql J (Qh ?_))))))));refine Qz (Qd (zy (z0 J (z0 J (zx (q_neqR J J J J) J (zz (Ql J (Qh (Qz ?_)))))))));refine zy (z0 J ?_);refine AL.weak (st' := (⟨_,[(3,.o (.c (.ptr 1 0))),(4,B b),(5,.o (.c (.ptr 3 0))),(7,I (1 + y.Parts.length)),(45,S s)],[.row 1 (els y.Parts),.box [iv y.Tick,.ref 0],.row 1 (els (markS y.Parts 1)),.box [iv y.Tick,.ref 2]]⟩ : St)) (W_gj [0,1,2,3] (by kernel_rfl)) ?_;refine M_callP max_kept hE hT (hip) J J J J J J J (zx (Q5 J J J) J (ze J (ze J (M1 (Qx J J J) J J ?_))));refine Qy J J J J J J J J J (z1 J (zz (Qd (zy (z4 J J J (z4 J J J ?_))))));refine AL.weak (st' := (⟨_,[(4,B b),(5,.o (.c (.ptr 2 0))),(7,I (1 + y.Parts.length)),(10,B b),(49,.o (.ag [iv y.Tick,.ref 3])),(50,.o (.ag [iv y.Tick,.ref 0]))],[.row 1 (els y.Parts),.row 1 (els (markS y.Parts 1)),.box [iv y.Tick,.ref 1],.row 1 (els y.Parts)]⟩ : St)) (W_gj [0,2,3,4] (by kernel_rfl)) ?_;refine zx (Qj J J (hq1) J) J ?_;refine zn J (z0 J (z5 J (z0 J (z5 J (z0 J (z5 J (zx (q_bneqR J J J J) J (zpF J (zz (Ql J ?_))))))))));refine Qh (Qz (zy (z1 J (zz (zy (z4 J J J (z0 J ?_)))))));refine AL.weak (st' := (⟨_,[(7,I (1 + y.Parts.length)),(58,.o (.ag [iv y.Tick,.ref 0])),(59,I 1)],[.row 1 (els (markS y.Parts 1))]⟩ : St)) (W_gj [1] (by kernel_rfl)) ?_;refine zx (Qj J J (hh) J) J ?_;refine z1 J (zz (Qd (zy (z0 J (Yj J (zz (Ql J (Qh ?_))))))));refine Qz (Qd (zy (z0 J (z0 J (zx (q_neqR J J J J) J (zz (Ql J (Qh (Qz ?_)))))))));refine zy (z1 J (zz (Q7 (F_r ?_))))
 exact E_tmp J J (Yh [] J J J)
end
end Go.Proofs.YtcjclaoogdblbaaDoor
