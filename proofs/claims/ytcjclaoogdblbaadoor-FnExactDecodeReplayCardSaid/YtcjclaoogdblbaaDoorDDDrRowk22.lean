/-
  Parts of the proof (rules, data, and what functions of the program and of the reference return), among them: Levels from their texts: ParseLevel, in the program and in the reference; FormatLevel gives the text back; Numbers as bytes: EncodeVarint, Signless, PackInts, PackText, Checksum, SealText, in the program and in the reference.
  Conditions: those that each theorem names.
-/
import Derived.Test.YtcjclaoogdblbaaDoorDDDrRowk13
import Derived.Test.YtcjclaoogdblbaaDoorDDDrRowk18
import Derived.Test.YtcjclaoogdblbaaDoorDDDrRowk20
import Derived.Test.YtcjclaoogdblbaaDoorDDDrRowk21
set_option linter.unusedSimpArgs false
set_option linter.unusedVariables false
set_option maxRecDepth 8000
set_option maxHeartbeats 8000000
namespace Go.Proofs.YtcjclaoogdblbaaDoor
section
open Go.RowKit

theorem OW.take {w : World} {k : Nat} {es : List (List T)} {v : Value} {fp : List Nat} (h : OW w (.sl k es) v fp) (hnd : fp.Nodup) {n : Nat} (hn : n ≤ es.length) : ∃ A c fp',v = .slice A es.length c ∧ es.length ≤ c ∧ OW w (.sl k (es.take n)) (.slice (if c = 0 then A else A.map (·.add (0 * k))) (n - 0) (c - 0)) fp' ∧ (∀ b ∈ fp',b ∈ fp) ∧ fp'.Nodup := by
 cases h with
 | nil =>
  have : n = 0 := by simpa using hn
  subst this
  exact ⟨none,0,[],J,Nat.le_refl _,by simpa using OW.nil (w := w) k,by simp,by simp⟩
 | sl _ b o _ c tid cur fz val fps hg hz hc hm hs hp hk hf hfk hv ht =>
  have hA : (if c = 0 then some (⟨b,o,none⟩ : Addr) else (some (⟨b,o,none⟩ : Addr)).map (·.add (0 * k))) = some ⟨b,o,none⟩ := by
   split
   ·rfl
   ·simp [Addr.add]
  have hl : (es.take n).length = n := by simp; omega
  have hfl : fps.flatten.flatten = (fps.take n).flatten.flatten ++ (fps.drop n).flatten.flatten := by
   rw [← List.flatten_append,← List.flatten_append,List.take_append_drop]
  refine ⟨some ⟨b,o,none⟩,c,b :: (fps.take n).flatten.flatten,J,hc,?_,fun x hx => ?_,?_⟩
  ·rw [hA]
   have h1 := OW.sl (w := w) (es.take n) b o k c tid cur fz val (fps.take n) hg hz (by omega) hm hs hp (fun e he => hk e (List.mem_of_mem_take he)) (by simp [hf]) (fun f hf' => hfk f (List.mem_of_mem_take hf'))
    (fun i j hi hj => hv i j (by omega) hj) (fun i j e t fs f g1 g2 g3 g4 => by
     have hi := Yc g1
     rw [hl] at hi
     rw [List.getElem?_take,if_pos hi] at g1 g3
     exact ht i j e t fs f g1 g2 g3 g4)
   rw [hl] at h1
   simpa using h1
  ·rcases List.mem_cons.1 hx with rfl | hx
   ·simp
   ·exact List.mem_cons_of_mem _ (by rw [hfl]; exact List.mem_append_left _ hx)
  ·rw [hfl,← List.cons_append] at hnd
   exact (List.nodup_append.1 hnd).1

def allP {α : Type} (f : α → Prop) : List α → Prop
 | [] => True
 | x :: l => f x ∧ allP f l
theorem allP_map {α β : Type} {f : α → Prop} {g h : α → β} (hgh : ∀ x,f x → g x = h x) : ∀ {l : List α},allP f l → l.map g = l.map h
 | [],_ => rfl
 | x :: l,hl => by rw [List.map_cons,List.map_cons,hgh x hl.1,allP_map hgh hl.2]
section
variable {P : Program} {E : Env} {ops : Array Oper} {o : Oper} {st : St} {rest : List Oper} {QQ : Exit → St → Prop} {t : TypeId} {y u : Operand} {rs : List Nat} {j : Int} {m : Nat}
end
section
variable {P : Program} {E : Env} {ops : Array Oper} {o : Oper} {st : St} {rest : List Oper} {QQ : Exit → St → Prop} {t : TypeId} {y u : Operand} {rs : List Nat} {j : Int}
end
end
section
open Go.RowKit

theorem Wk.nilbox {st : St} {p i : Nat} (k : Nat) {cs : List V1} {qs : List Nat} (hp : st.objs[p]? = some (.box cs)) (hc : cs[i]? = some (.rd qs (.v (.slice none 0 0)))) : Wk st ⟨st.n,st.tmps,(st.objs.set p (.box (cs.set i (.ref st.objs.length)))) ++ [.row k []]⟩ := by
 intro w H F a h
 have hnil : H st.objs.length = .nil := by
  have := h.obs st.objs.length
  simpa [List.getD_eq_getElem?_getD,RB] using this
 have hlt := Yc hp
 obtain ⟨H',hH'⟩ : ∃ H' : Hs,H' = H.put st.objs.length (.ow (.sl k []) (.slice none 0 0) []) := ⟨_,rfl⟩
 have hin : H' st.objs.length = .ow (.sl k []) (.slice none 0 0) [] := by rw [hH']; exact Hs.put_self _ _ _
 have hout : ∀ q,q ≠ st.objs.length → H' q = H q := fun q hq => by rw [hH']; exact Hs.put_ne _ _ hq
 have hfp : ∀ q,(H' q).fp = (H q).fp := fun q => by
  by_cases e : q = st.objs.length
  ·rw [e,hin,hnil]; rfl
  ·rw [hout q e]
 have hgh : ∀ q i v,H' q = .gh i v → ∃ r,H r = .gh i v := fun q i v hq => by
  by_cases e : q = st.objs.length
  ·rw [e,hin] at hq; cases hq
  ·exact ⟨q,by rw [← hout q e]; exact hq⟩
 have hgr : Grow w H F w H' F := ⟨Below.refl _ _,fun q hq => hout q fun e => hq (by rw [e]; exact hnil),fun _ h => h,fun _ h => .inl h,fun q hq b hb => by rw [hfp,hq] at hb; simp [Pc.fp] at hb,hgh⟩
 refine ⟨H',⟨⟨fun q => ?_,fun q => by rw [hfp]; exact h.ok.nodup q,fun q r b h1 h2 => by rw [hfp] at h1 h2; exact h.ok.disj q r b h1 h2,fun q b h1 => by rw [hfp] at h1; exact h.ok.free q b h1,h.ok.flt⟩,fun q => ?_,fun e => hgr.rv (h.tmp e),h.size,h.defers⟩,fun q b hb => ⟨q,by rw [← hfp]; exact hb⟩,hgh⟩
 ·by_cases e : q = st.objs.length
  ·rw [e,hin]; exact OW.nil _
  ·rw [hout q e]; exact h.ok.says q
 ·show RB w H' F q ((st.objs.set p (.box (cs.set i (.ref st.objs.length))) ++ [Ob.row k []]).getD q .gone)
  by_cases e : q = st.objs.length
  ·rw [show (st.objs.set p (.box (cs.set i (.ref st.objs.length))) ++ [Ob.row k []]).getD q .gone = .row k [] by simp [List.getD_eq_getElem?_getD,e]]
   exact ⟨_,_,by rw [e]; exact hin⟩
  ·rcases Nat.lt_or_ge q st.objs.length with h1 | h1
   ·by_cases hqp : q = p
    ·subst hqp
     rw [show (st.objs.set q (.box (cs.set i (.ref st.objs.length))) ++ [Ob.row k []]).getD q .gone = .box (cs.set i (.ref st.objs.length)) by simp [List.getD_eq_getElem?_getD,List.getElem?_append_left,h1]]
     obtain ⟨g,t,vs,e1,e2,e3,e4⟩ := h.bx hp
     have hb := h.obs q
     rw [Yb hp] at hb
     obtain ⟨g,t,vs,k1,k2,k3⟩ := hb
     refine ⟨g,t,vs,(hout q e).trans k1,by simpa using k2,fun j c u h4 h5 => ?_⟩
     rw [List.getElem?_set] at h4
     split at h4
     ·rename_i hij
      subst hij
      split at h4
      ·simp only [Option.some.injEq] at h4
       subst h4
       have h6 := k3 i _ u hc h5
       obtain ⟨h7,_⟩ := RO.plain h6.1
       exact ⟨⟨_,_,by rw [hin,← h7]⟩,h6.2⟩
      ·cases h4
     ·have h6 := k3 j c u h4 h5
      exact ⟨hgr.r1 h6.1,h6.2⟩
    ·rw [show (st.objs.set p (.box (cs.set i (.ref st.objs.length))) ++ [Ob.row k []]).getD q .gone = st.objs.getD q .gone by
      rw [List.getD_eq_getElem?_getD,List.getElem?_append_left (by simpa using h1),List.getElem?_set_ne (Ne.symm hqp),List.getD_eq_getElem?_getD]]
     by_cases hn : H q = .nil
     ·have h2 := h.obs q
      have h3 : H' q = .nil := (hout q e).trans hn
      cases ho : st.objs.getD q .gone with
      | gone => exact h3
      | hole => trivial
      | box cs => rw [ho] at h2; obtain ⟨a,t,vs,e,_⟩ := h2; rw [hn] at e; cases e
      | row k es => rw [ho] at h2; obtain ⟨v,fp,e⟩ := h2; rw [hn] at e; cases e
      | gh i x => rw [ho] at h2; obtain ⟨v,e,_⟩ := h2; rw [hn] at e; cases e
      | shr es => rw [ho] at h2; obtain ⟨us,v,fp,e,_⟩ := h2; rw [hn] at e; cases e
     ·exact hgr.rb hn (h.obs q)
   ·rw [show (st.objs.set p (.box (cs.set i (.ref st.objs.length))) ++ [Ob.row k []]).getD q .gone = Ob.gone by
     rw [List.getD_eq_getElem?_getD,List.getElem?_eq_none (by simp; omega)]; rfl]
    refine (hout q e).trans ?_
    have := h.obs q
    simpa [List.getD_eq_getElem?_getD,RB,h1] using this
section
variable {P : Program} {ops : Array Oper} {o : Oper} {st : St} {m : Nat} {t e : TypeId} {y z : Operand} {zs : List Value} {by_ : Nat}
end
end
section
open Go.RowKit

section
variable {P : Program} {ops : Array Oper} {o : Oper} {st : St} {m : Nat} {t t' : TypeId} {y z : Operand} {ps qs : List Nat}
theorem q_bneqR {u : Bool} [TyBool P t] (ho : o.op = .binOp .neq t y z t') (hg : o.guard = none) (hy : st.ev y = .o (.c (.rd ps (.v (.bool u))))) (hz : st.ev z = .o (.c (.rd qs (.v (.bool u))))) : Qt P ops o st (B false) [] m := by
 have h := q_bneq (m := m) (P := P) (ops := ops) ho hg hy hz
 rwa [beq_self_eq_true] at h
theorem q_neqR {k : IntKind} {u : Int} (ho : o.op = .binOp .neq t y z t') (hg : o.guard = none) (hy : st.ev y = .o (.c (.rd ps (.v (.int k u))))) (hz : st.ev z = .o (.c (.rd qs (.v (.int k u))))) : Qt P ops o st (B false) [] m :=
 Qw ho hg hy hz (by simp)
theorem Q6 {xs : List V2} (ho : o.op = .move y) (hg : o.guard = none) (hy : st.ev y = .tu xs) : Qt P ops o st (.tu xs) [] m :=
 .pure hg fun a w H F hr => ⟨a.eval y,by simp [execOp,ho],by rw [← hy]; exact hr.ev y⟩
theorem Vw {xs : List V2} (h0_ : (o.op, o.guard, st.ev y) = (.move y, none, .tu xs)) : Qt P ops o st (.tu xs) [] m := by
 simp only [Prod.mk.injEq] at h0_
 exact Q6 h0_.1 h0_.2.1 h0_.2.2
end
end
section
open Go.RowKit

@[reducible] def nilL : V1 := .rd [] (.v (.slice none 0 0))
def parseLv (s : ByteArray) : TLevel := ⟨(splitC 47 s.data.toList).map bs⟩
def pvL (s : ByteArray) : TLevel := if levelOk (parseLv s) = true then parseLv s else ⟨[]⟩
theorem pvL_gd {s : ByteArray} (hs : s.size ≤ 1048576) : Enc.gd (parseLv s) ∧ (parseLv s).Rows.length ≤ s.size + 1 := by
 have h1 := Y7 47 s.data.toList
 have h2 := splitC_mem 47 s.data.toList
 rw [← Lib.size_eq] at h1
 have hl : (parseLv s).Rows.length ≤ s.size + 1 := by show ((splitC 47 s.data.toList).map bs).length ≤ _; rw [List.length_map]; exact h1
 refine ⟨⟨by show (parseLv s).Rows.length ≤ _; omega,fun x hx => ?_⟩,hl⟩
 obtain ⟨y,hy,rfl⟩ := List.mem_map.1 (show x ∈ (splitC 47 s.data.toList).map bs from hx)
 have h3 := h2 y hy
 rw [← Lib.size_eq] at h3
 show (bs y).size ≤ _
 rw [X0]; omega
theorem join_split (c : UInt8) : ∀ l : List UInt8,Lib.join (splitC c l) [c] = l
 | [] => by rw [splitC,Lib.join_one]
 | b :: l => by
  have ih := join_split c l
  obtain ⟨h,t,e⟩ := Y8 c l
  rw [e] at ih
  rw [splitC,e]
  by_cases hb : b = c
  ·subst hb
   rw [if_pos rfl,Lib.join_cons]
   rw [Lib.join_cons] at ih
   rw [← ih]
   simp [Lib.joinTail]
  ·rw [if_neg hb]
   show Lib.join (([b] ++ h) :: t) [c] = _
   rw [Lib.join_cons]
   rw [Lib.join_cons] at ih
   rw [← ih]
   simp
def slashB : ByteArray := ⟨#[47]⟩
theorem joinB_parse (s : ByteArray) : joinB (parseLv s).Rows slashB = s := by
 have h : ((parseLv s).Rows).map (·.data.toList) = splitC 47 s.data.toList := by
  show ((splitC 47 s.data.toList).map bs).map (·.data.toList) = _
  rw [List.map_map]
  have : ((fun x : ByteArray => x.data.toList) ∘ bs) = id := funext fun x => bs_list x
  rw [this,List.map_id]
 rw [joinB,h,show slashB.data.toList = [47] from rfl,join_split]
theorem I_ParseLevel (s : ByteArray) (hs : s.size ≤ 1048576) : ConP MaxW Tryd.prog 51 [astr s] [.row 1 (els (pvL s).Rows)] (.tu [.ag [.ref 0],.c (.rd [] (.v (.bool (levelOk (parseLv s)))))]) := by
 have hsp := I_SplitC 47 s (by omega)
 obtain ⟨hgd,hpl⟩ := pvL_gd hs
 have co := I_LevelOk (parseLv s) hgd
 rw [show (splitC 47 s.data.toList).map bs = (parseLv s).Rows from rfl] at hsp
 unfold pvL
 cases ho : levelOk (parseLv s) with
 | false =>
  rw [ho] at co
  rw [if_neg (by decide)]
  refine ConP.of Tryd.func51 J Tryd.ntmps51 J (fun E hE hT => ?_)
  refine zy (Ki (Ks J J) J (z1 J (zz (zy (z0 J (Xp Yi hE hT (hsp) J J J J J J J (zx (Yp J J J J J) J (Ki (Ks J J) J ?_))))))));refine K8 J J (zz (Qd (zy (z4 J J J ?_))));refine zx (Qj J J (co) J) J ?_;refine zn J (zz (Qm J (zy (zx (Yp J J J J J) J ?_))));refine K8 J J (z1 J (zz (Q8 (T_r (F_r ?_)))))
  exact Xh J J J J J (Xu [1] [3] J J (by decide) J J J)
 | true =>
  rw [ho] at co
  rw [if_pos rfl]
  refine ConP.of Tryd.func51 J Tryd.ntmps51 J (fun E hE hT => ?_)
  refine zy (Ki (Ks J J) J (z1 J (zz (zy (z0 J (Xp Yi hE hT (hsp) J J J J J J J (zx (Yp J J J J J) J (Ki (Ks J J) J ?_))))))));refine K8 J J (zz (Qd (zy (z4 J J J ?_))));refine zx (Qj J J (co) J) J ?_;refine zn J (zz (Ql J (Qh (Qz (zy (z4 J J J ?_))))));refine K8 J J (z1 J (zz (Q8 (F_r ?_))))
  exact Xh J J J J J (Kf [1] J J J)
theorem S_ParseLv (s : ByteArray) (hs : s.size ≤ 1048576) : Con Tryd.prog 44 [] [astr s] [.row 1 (els (pvL s).Rows)] (.tu [.ag [.ref 0],.c (.rd [] (.v (.bool (levelOk (parseLv s)))))]) := by
 obtain ⟨hgd,hpl⟩ := pvL_gd hs
 have co := S_LevelOk (parseLv s) hgd
 obtain ⟨r,hr⟩ : ∃ r,r = s.data.toList := ⟨_,rfl⟩
 have hrl : r.length = s.size := by rw [hr,← Lib.size_eq]
 have hall : (parseLv s).Rows = (splitC 47 r).map bs := by rw [hr]; rfl
 refine Con.of Tryd.func44 J Tryd.ntmps44 J (fun E => ?_)
 refine zy (Ki (Ks J J) J (z1 J (zz (zy (zx (Yp J J J J J) J (Ki (Ks J J) J ?_))))));refine K8 J J (zz (zy (z1 J (zz (Qd (zy (z1 J ?_)))))));refine zz (Qk ?_)
 refine AWP.pre ?_ (Wk.nilbox (p := 1) (i := 0) 1 J J)
 refine Xe (fun m__ st => ∃ (k : Nat) (P : List ByteArray) (q : Nat),r.length + 2 - k = m__ ∧ (((k ≤ r.length ∧ pAtC 47 r P q k) ∨ (k = r.length + 1 ∧ P = (splitC 47 r).map bs))) ∧ st = (⟨_,[(0,S s),(2,.o (.c (.ptr 0 0))),(4,.o (.c (.ptr 1 0))),(5,I q),(6,I k)],[.box [nilL],.box [.ref 2],.row 1 (els P)]⟩ : St)) _ ⟨_,⟨0,[],0,J,.inl ⟨Nat.zero_le _,pAtC_0 47 r⟩,J⟩,Kb [0,1,2]⟩ ?_
 rintro m_A _ ⟨k,P,q,hk_A,hp_A,rfl⟩
 by_cases hi : k ≤ r.length
 case neg =>
  rcases hp_A with ⟨h,_⟩ | ⟨h,hP⟩
  ·exact absurd h hi
  rw [← hall] at hP
  subst hP
  have f0 : decide ((k : Int) ≤ s.size) = false := decide_eq_false (by omega)
  unfold pvL
  cases ho : levelOk (parseLv s) with
  | false =>
   rw [ho] at co
   rw [if_neg (by decide)]
   refine Qd (zy (z0 J (z0 J (zx (Yy J J J) J (z9b J (by assumption) (zz (Ql J (Q7 (T_x ?_)))))))));refine T_x (Xg (Qz (Qd (zy (z4 J J J ?_)))));refine zx (Qj J J (co) J) J ?_;refine zn J (zz (Qm J (zy (zx (Yp J J J J J) J ?_))));refine K8 J J (z1 J (zz (Q8 (T_r (F_r ?_)))))
   exact Xh J J J J J (Xu [1] [3] J J (by decide) J J J)
  | true =>
   rw [ho] at co
   rw [if_pos rfl]
   refine Qd (zy (z0 J (z0 J (zx (Yy J J J) J (z9b J (by assumption) (zz (Ql J (Q7 (T_x ?_)))))))));refine T_x (Xg (Qz (Qd (zy (z4 J J J ?_)))));refine zx (Qj J J (co) J) J ?_;refine zn J (zz (Ql J (Qh (Qz (zy (z4 J J J ?_))))));refine K8 J J (z1 J (zz (Q8 (F_r ?_))))
   exact Xh J J J J J (Kf [2] J J J)
 have hpt : pAtC 47 r P q k := by
  rcases hp_A with ⟨_,h⟩ | ⟨h,_⟩
  ·exact h
  ·omega
 have hst := hpt.1
 have hPl := pC_len hpt
 have hel := X8 P
 have f0 : decide ((k : Int) ≤ s.size) = true := decide_eq_true (by omega)
 have hx : s.extract (q : Int).toNat (k : Int).toNat = bs ((r.take k).drop q) := by
  have h := sliceC_is (s := s) (c := 0) (st := q) (i := k) hst
  rw [Nat.zero_add,Nat.zero_add,List.drop_zero,← hr] at h
  rw [Int.toNat_natCast,Int.toNat_natCast]; exact h
 obtain ⟨x,hxe⟩ : ∃ x,x = s.extract (q : Int).toNat (k : Int).toNat := ⟨_,rfl⟩
 by_cases he : k = r.length
 ·have g1 : decide ((k : Int) = s.size) = true := decide_eq_true (by omega)
  have hnx : P ++ [x] = (splitC 47 r).map bs := by
   subst he
   rw [hxe,hx,List.take_length]
   exact pAtC_end hpt
  refine Qd (zy (z0 J (z0 J (zx (Yy J J J) J (z9b J (by assumption) (zz (Qm J (Qh (Qz ?_)))))))));refine Qd (Qk (zy (z0 J (z0 J (zx (Yy J J J) J (z9e J (by assumption) (z0 J (z6 J (z6 J (z6 J ?_))))))))));refine z6 J (zpT J (zz (Qm J (Qd (Xd u8_6 u8_7 u8_8 J (Zh (Zt J J) J (Zh (Qg J J J J J) J (Zh (Zr J) J (Zh (Zr J) J (Zh (Zr J) J ?_))))))))));refine Zh (q_sslice J J J J J (by omega)) J (Zh (Yn J J J J J J) J (Zg ?_));refine Xo J J J J J J J J J J (by omega) (by omega) ?_;refine z2 J J J ?_;refine Q4 J J J J J J J J (zz (Qc (z0 J (Kd J (z1 J (Qe (Q0 (Qz (Qc (z0 J ?_))))))))));refine Kd J (z1 J (zz ?_))
  refine ⟨_,(by omega),(fun (k : Nat) (P : List ByteArray) (q : Nat) => (⟨_,[(0,S s),(2,.o (.c (.ptr 0 0))),(4,.o (.c (.ptr 1 0))),(5,I q),(6,I k)],[.box [nilL],.box [.ref 2],.row 1 (els P)]⟩ : St)) (k + 1) (P ++ [x]) (k + 1),⟨k + 1,P ++ [x],k + 1,J,.inr ⟨by omega,hnx⟩,J⟩,Xw [0,1,2] (by decide) J ((by rw [els_snocC,hxe]; rfl)) (.c J (.c J (.c J (.cons (Kt) (.cons (Kt) (.nil))))))⟩
 have g1 : decide ((k : Int) = s.size) = false := decide_eq_false (by omega)
 obtain ⟨t,ht⟩ : ∃ t,byteAt s (k : Int).toNat = t := ⟨_,rfl⟩
 have ht2 : byteAt s k = t := ht
 obtain ⟨b,hb1,hb2⟩ := byteAt_l (s := s) (i := k) (by omega)
 have hri : r[k]? = some b := by rw [hr]; exact hb1
 rw [ht2] at hb2
 by_cases hc2 : t = 47
 ·have g2 : decide (t = 47) = true := decide_eq_true hc2
  have hb4 : b = 47 := UInt8.toNat_inj.1 (by rw [hc2] at hb2; show b.toNat = 47; omega)
  have hnx := pAtC_hit hpt (by rw [hri,hb4])
  rw [← hx,← hxe] at hnx
  refine Qd (zy (z0 J (z0 J (zx (Yy J J J) J (z9b J (by assumption) (zz (Qm J (Qh (Qz ?_)))))))));refine Qd (Qk (zy (z0 J (z0 J (zx (Yy J J J) J (z9e J (by assumption) (z0 J (z5 J (z0 J (z5 J ?_))))))))));refine z0 J (z5 J (zx (Ku J) J (z5 J (z9e J (by assumption) (zpF J (zz (Qm J (Qd (Xd u8_6 u8_7 u8_8 J (Zh (Zt J J) J ?_))))))))));refine Zh (Qg J J J J J) J (Zh (Zr J) J (Zh (Zr J) J (Zh (Zr J) J (Zh (q_sslice J J J J J (by omega)) J (Zh (Yn J J J J J J) J (Zg ?_))))));refine Xo J J J J J J J J J J (by omega) (by omega) ?_;refine z2 J J J ?_;refine Q4 J J J J J J J J (zz (Qc (z0 J (Kd J (z1 J (Qe (Q0 (Qz (Qc (z0 J ?_))))))))));refine Kd J (z1 J (zz ?_))
  refine ⟨_,(by omega),(fun (k : Nat) (P : List ByteArray) (q : Nat) => (⟨_,[(0,S s),(2,.o (.c (.ptr 0 0))),(4,.o (.c (.ptr 1 0))),(5,I q),(6,I k)],[.box [nilL],.box [.ref 2],.row 1 (els P)]⟩ : St)) (k + 1) (P ++ [x]) (k + 1),⟨k + 1,P ++ [x],k + 1,J,.inl ⟨by omega,hnx⟩,J⟩,Xw [0,1,2] (by decide) J ((by rw [els_snocC,hxe]; rfl)) (.c J (.c J (.c J (.cons (Kt) (.cons (Kt) (.nil))))))⟩
 ·have g2 : decide (t = 47) = false := decide_eq_false hc2
  have hnx := pAtC_go hpt hri (fun e => hc2 (by rw [hb2,e]; rfl))
  refine Qd (zy (z0 J (z0 J (zx (Yy J J J) J (z9b J (by assumption) (zz (Qm J (Qh (Qz ?_)))))))));refine Qd (Qk (zy (z0 J (z0 J (zx (Yy J J J) J (z9e J (by assumption) (z0 J (z5 J (z0 J (z5 J ?_))))))))));refine z0 J (z5 J (zx (Ku J) J (z5 J (z9e J (by assumption) (zpF J (zz (Ql J (Qh (Q0 (Qz ?_))))))))));refine Qc (z0 J (Kd J (z1 J (zz ?_))))
  refine ⟨_,(by omega),(fun (k : Nat) (P : List ByteArray) (q : Nat) => (⟨_,[(0,S s),(2,.o (.c (.ptr 0 0))),(4,.o (.c (.ptr 1 0))),(5,I q),(6,I k)],[.box [nilL],.box [.ref 2],.row 1 (els P)]⟩ : St)) (k + 1) (P) (q),⟨k + 1,P,q,J,.inl ⟨by omega,hnx⟩,J⟩,Z7 [0,1,2] J (.c J (.c J (.c J (.cons (Kt) (.cons (Kt) (.nil))))))⟩
end
section
open Go.RowKit

def varN (n : Nat) : List UInt8 := if n < 128 then [UInt8.ofNat n] else UInt8.ofNat (n % 128 + 128) :: varN (n / 128)
termination_by n
decreasing_by omega
def encVar (n : Int) : List UInt8 := if 0 ≤ n ∧ n ≤ 1099511627775 then varN n.toNat else []
theorem Zd {n : Nat} (h : n < 128) : varN n = [UInt8.ofNat n] := by rw [varN,if_pos h]
theorem varN_big {n : Nat} (h : ¬ n < 128) : varN n = UInt8.ofNat (n % 128 + 128) :: varN (n / 128) := by rw [varN,if_neg h]
theorem varN_step {acc : List UInt8} {m : Nat} {l : List UInt8} (h : acc ++ varN m = l) (hm : ¬ m < 128) {x : UInt8} (hx : x = UInt8.ofNat (m % 128 + 128)) : (acc ++ [x]) ++ varN (m / 128) = l := by
 rw [← h,varN_big hm,hx]; simp
theorem varN_end {acc : List UInt8} {m : Nat} {l : List UInt8} (h : acc ++ varN m = l) (hm : m < 128) {x : UInt8} (hx : x = UInt8.ofNat m) : acc ++ [x] = l := by
 rw [← h,Zd hm,hx]

theorem I_EncodeVarint (n : Int) : Con Tryd.prog 110 [] [ai n] [] (S (bs (encVar n))) := by
 refine Con.of Tryd.func110 J Tryd.ntmps110 J (fun E => ?_)
 refine zy (z1 J (zz (Qd (zy (z0 J (zx (Zl J) J (z0 J ?_)))))));refine zx (Qt.grdF J J J .stop (fun hgrd => Zr J)) J ?_;refine zx (Kq J (.hit .stop) (fun hgrd => q_gtr J J J J)) J ?_;refine zx (q_or J J J J) J (zz ?_)
 refine Q9 J (fun h => ?_) (fun h => ?_)
 ·simp only [Bool.or_eq_true,decide_eq_true_eq] at h
  refine zy (z1 J (zz (Q8 (T_r (F_r ?_)))))
  exact Ke J (Kf [] J J (S_eq (by rw [encVar,if_neg (by omega)])))
 simp only [Bool.or_eq_false_iff,decide_eq_false_iff_not] at h
 have he : encVar n = varN n.toNat := by rw [encVar,if_pos (by omega)]
 rw [he]
 refine Qh (Qz (zy (z1 J (zz (Qd (Qk ?_))))))
 refine AWP.pre ?_ (W_nil 3 1 J)
 refine Xe (fun m__ st => ∃ (m : Nat) (acc : List UInt8),m = m__ ∧ (acc ++ varN m = varN n.toNat ∧ acc.length + m ≤ 1099511627775) ∧ st = (⟨_,[(0,I m),(3,.o (.c (.ref 0)))],[.row 1 (bE acc)]⟩ : St)) _ ⟨(fun (m : Nat) (acc : List UInt8) => (⟨_,[(0,I m),(3,.o (.c (.ref 0)))],[.row 1 (bE acc)]⟩ : St)) (n.toNat) ([]),⟨n.toNat,[],J,⟨J,by simp <;> omega⟩,J⟩,Z7 [0] J (.cons (Kt) (.c J (.nil)))⟩ ?_
 rintro m_A _ ⟨m,acc,hk_A,hp_A,rfl⟩
 refine Qd (zy (z0 J (zx (q_geq J J J J) J (zz ?_))))
 refine Q9 J (fun h5 => ?_) (fun h5 => ?_)
 ·have h5 : ¬ m < 128 := by have := of_decide_eq_true h5; omega
  have hl := bE_len acc
  refine Qh (Qz (Qk (zy (z0 J (z0 J (zx (q_rem J J J J (by omega)) J (Kd J (zx (Ys J J J J (Z9)) J (Ki (Yn J J J J J J) J ?_)))))))));refine Xo J J J J J J J J J J (by omega) (by omega) ?_;refine z1 J (zz (Qc (z0 J (zx (q_quo J J J J (by omega)) J (z1 J (Qe (Q0 (Qz ?_))))))))
  refine ⟨_,(by omega),(fun (m : Nat) (acc : List UInt8) => (⟨_,[(0,I m),(3,.o (.c (.ref 0)))],[.row 1 (bE acc)]⟩ : St)) (m / 128) (acc ++ [UInt8.ofNat ((m : Int) % 128 + 128).toNat]),⟨m / 128,acc ++ [UInt8.ofNat ((m : Int) % 128 + 128).toNat],J,⟨varN_step hp_A.1 h5 (by congr 1 <;> omega),by have := hp_A.2; simp <;> omega⟩,J⟩,Xw [0] (by decide) J (Y4 (bE_snoc _ _ (by omega)).symm) (.cons (Kt) (.c J (.nil)))⟩
 ·have h5 : m < 128 := by have := of_decide_eq_false h5; omega
  have hl := bE_len acc
  have hb := hp_A.2
  refine Q7 (T_x (T_x (Xg (Qz (zy (z0 J (z0 J (zx (Ys J J J J (Z9)) J (Ki (Yn J J J J J J) J ?_)))))))));refine Xo J J J J J J J J J J (by omega) (by omega) ?_;refine z1 J (zz (zy (z0 J (zx (q_bstr J J J J) J (z1 J (zz (Q8 (F_r ?_))))))))
  exact Ke J (Kf [] J J (S_eq (congrArg bs (varN_end hp_A.1 h5 (by congr 1)))))
theorem Xr (n : Int) : Con Tryd.prog 120 [] [ai n] [] (S (bs (encVar n))) := by
 refine Con.of Tryd.func120 J Tryd.ntmps120 J (fun E => ?_)
 refine zy (z1 J (zz (Qd (zy (z0 J ?_)))));refine zx (Qj J J (S_in n 0 1099511627775) J) J ?_;refine zn J (zz ?_)
 refine Q9 J (fun h => ?_) (fun h => ?_)
 ·have h : ¬ (0 ≤ n ∧ n ≤ 1099511627775) := by rw [← Ye]; simpa using h
  refine zy (z1 J (zz (Q8 (T_r (F_r ?_)))))
  exact Ke J (Kf [] J J (S_eq (by rw [encVar,if_neg h])))
 have h : 0 ≤ n ∧ n ≤ 1099511627775 := by rw [← Ye]; simpa using h
 have he : encVar n = varN n.toNat := by rw [encVar,if_pos h]
 rw [he]
 refine Qh (Qz (zy (Ki (Yo J J J) J (z1 J (zz (Qd (Qk ?_)))))))
 refine Xe (fun m__ st => ∃ (m : Nat) (acc : List UInt8),m = m__ ∧ (acc ++ varN m = varN n.toNat ∧ acc.length + m ≤ 1099511627775) ∧ st = (⟨_,[(0,I m),(3,.o (.c (.ref 0)))],[.row 1 (bE acc)]⟩ : St)) _ ⟨(fun (m : Nat) (acc : List UInt8) => (⟨_,[(0,I m),(3,.o (.c (.ref 0)))],[.row 1 (bE acc)]⟩ : St)) (n.toNat) ([]),⟨n.toNat,[],J,⟨J,by simp <;> omega⟩,J⟩,Z7 [0] J (.cons (Kt) (.c J (.nil)))⟩ ?_
 rintro m_A _ ⟨m,acc,hk_A,hp_A,rfl⟩
 refine Qd (zy (z0 J (zx (q_gtr J J J J) J (zz ?_))))
 refine Q9 J (fun h5 => ?_) (fun h5 => ?_)
 ·have h5 : ¬ m < 128 := by have := of_decide_eq_true h5; omega
  have hl := bE_len acc
  have hb := hp_A.2
  have hb1 : (m : Int).toNat &&& (127 : Int).toNat = m % 128 := Nat.and_two_pow_sub_one_eq_mod m 7
  have hb2 : ((m % 128 : Nat) : Int).toNat ||| (128 : Int).toNat = m % 128 + 128 := by
   have := Nat.two_pow_add_eq_or_of_lt (i := 7) (b := m % 128) (by omega) 1
   rw [Nat.or_comm]
   show 128 ||| m % 128 = _
   rw [← this]; omega
  have hb3 : (m : Int) / 2 ^ (7 : Int).toNat = (m / 128 : Nat) := by
   show (m : Int) / 128 = _
   omega
  refine Qh (Qz (Qk (zy (z0 J (z0 J (zx (q_bandK J J J J (by assumption) (by omega)) J (zx (q_borK J J J J (by assumption) (by omega)) J (zx (Ys J J J J (Z9)) J (Ki (Yn J J J J J J) J ?_)))))))));refine Xo J J J J J J J J J J (by omega) (by omega) ?_;refine z1 J (zz (Qc (z0 J (zx (q_shrK J J J J (by assumption) ⟨by omega,by omega,by decide⟩) J (z1 J (Qe (Q0 (Qz ?_))))))))
  refine ⟨_,(by omega),(fun (m : Nat) (acc : List UInt8) => (⟨_,[(0,I m),(3,.o (.c (.ref 0)))],[.row 1 (bE acc)]⟩ : St)) (m / 128) (acc ++ [UInt8.ofNat ((m % 128 + 128 : Nat) : Int).toNat]),⟨m / 128,acc ++ [UInt8.ofNat ((m % 128 + 128 : Nat) : Int).toNat],J,⟨varN_step hp_A.1 h5 (by congr 1),by simp <;> omega⟩,J⟩,Xw [0] (by decide) J (Y4 (bE_snoc _ _ (by omega)).symm) (.c J (.c J (.nil)))⟩
 ·have h5 : m < 128 := by have := of_decide_eq_false h5; omega
  have hl := bE_len acc
  have hb := hp_A.2
  refine Q7 (T_x (T_x (Xg (Qz (zy (z0 J (z0 J (zx (Ys J J J J (Z9)) J (Ki (Yn J J J J J J) J ?_)))))))));refine Xo J J J J J J J J J J (by omega) (by omega) ?_;refine zx (q_bstr J J J J) J (z1 J (zz (Q8 (F_r ?_))))
  exact Ke J (Kf [] J J (S_eq (congrArg bs (varN_end hp_A.1 h5 (by congr 1)))))

theorem varN_pow : ∀ (j n : Nat),n < 128 ^ (j + 1) → (varN n).length ≤ j + 1
 | 0,n,h => by rw [Zd (by omega)]; simp
 | j + 1,n,h => by
  by_cases hn : n < 128
  ·rw [Zd hn]; simp
  ·rw [varN_big hn,List.length_cons]
   have := varN_pow j (n / 128) (by rw [Nat.pow_succ] at h; omega)
   omega
theorem X9 (n : Int) : (encVar n).length ≤ 6 := by
 unfold encVar
 split
 ·exact varN_pow 5 _ (by omega)
 ·simp
def signless (n : Int) : Int := if -549755813888 ≤ n ∧ n ≤ 549755813887 then (if 0 ≤ n then 2 * n else -2 * n - 1) else -1
theorem S_Signless (n : Int) (hn : I64 n) : Con Tryd.prog 121 [] [ai n] [] (I (signless n)) := by
 obtain ⟨hn1,hn2⟩ := hn
 refine Con.of Tryd.func121 J Tryd.ntmps121 J (fun E => ?_)
 refine zy (z1 J (zz (Qd (zy (z0 J ?_)))));refine zx (Qj J J (S_in n (-549755813888) 549755813887) J) J ?_;refine zn J (zz ?_)
 refine Q9 J (fun h => ?_) (fun h => ?_)
 ·have h : ¬ (-549755813888 ≤ n ∧ n ≤ 549755813887) := by rw [← Ye]; simpa using h
  refine zy (z1 J (zz (Q8 (T_r (F_r ?_)))))
  exact Ke J (Kf [] J J (Xn (by rw [signless,if_neg (by omega)])))
 have h : -549755813888 ≤ n ∧ n ≤ 549755813887 := by rw [← Ye]; simpa using h
 refine Qh (Qz (Qd (zy (z0 J (zx (q_geq J J J J) J (zz ?_))))))
 refine Q9 J (fun h1 => ?_) (fun h1 => ?_)
 ·have h1 := of_decide_eq_true h1
  refine zy (z0 J (zx (q_mul J J J J (by omega)) J (z1 J (zz (Q8 (T_r (F_r ?_)))))))
  exact Ke J (Kf [] J J (Xn (by rw [signless,if_pos (by omega),if_pos (by omega)])))
 ·have h1 := of_decide_eq_false h1
  refine Qh (Qz (zy (z0 J (zx (q_mul J J J J (by omega)) J (z8 J (by omega) (z1 J (zz (Q8 (F_r ?_)))))))))
  exact Ke J (Kf [] J J (Xn (by rw [signless,if_pos (by omega),if_neg (by omega)])))
def packText (s : ByteArray) : ByteArray := bs (encVar s.size) ++ s
theorem Yl (s : ByteArray) : (packText s).size ≤ s.size + 6 := by
 unfold packText
 rw [X4,X0]
 have := X9 s.size
 omega
theorem S_PackText (s : ByteArray) (hs : s.size ≤ 1099511627776) : Con Tryd.prog 87 [] [astr s] [] (S (packText s)) := by
 have h1 := X0 (encVar s.size)
 have h2 := X9 s.size
 refine Con.of Tryd.func87 J Tryd.ntmps87 J (fun E => ?_)
 refine zy (z1 J (zz (zy (z0 J (zx (Yy J J J) J ?_)))));refine zx (Qj J J (Xr s.size) J) J ?_;refine z0 J (zx (q_cat J J J J (by omega)) J (z1 J (zz (Q8 (F_r ?_)))))
 exact Ke J (Kf [] J J J)
def packK (xs : List Int) (k : Nat) : List UInt8 := encVar xs.length ++ (xs.take k).flatMap fun x => encVar (signless x)
def packInts (xs : List Int) : ByteArray := if xs.all (fun x => decide (0 ≤ signless x)) then bs (packK xs xs.length) else bs []
theorem packK_succ {xs : List Int} {k : Nat} (h : k < xs.length) : packK xs (k + 1) = packK xs k ++ encVar (signless xs[k]) := by
 unfold packK
 rw [List.take_succ_eq_append_getElem h,List.flatMap_append,List.append_assoc]
 simp
theorem packK_len (xs : List Int) : ∀ k,k ≤ xs.length → (packK xs k).length ≤ 6 * k + 6
 | 0,_ => by simp [packK]; exact X9 _
 | k + 1,h => by
  rw [packK_succ (by omega),List.length_append]
  have := packK_len xs k (by omega)
  have := X9 (signless xs[k])
  omega
theorem packInts_size (xs : List Int) : (packInts xs).size ≤ 6 * xs.length + 6 := by
 unfold packInts
 split
 ·rw [X0]; exact packK_len xs _ (Nat.le_refl _)
 ·rw [X0]; simp
theorem S_PackInts (xs : List Int) (hg : Enc.gd xs) (hL : xs.length ≤ 1073741824) : Con Tryd.prog 89 [] [al xs] [] (S (packInts xs)) := by
 have hlx := X8 xs
 refine Con.of Tryd.func89 J Tryd.ntmps89 J (fun E => ?_)
 refine zy (z1 J (zz (zy (z0 J (zx (Yw J J J) J ?_)))));refine zx (Qj J J (Xr (els xs).length) J) J ?_;refine z1 J (zz (Qd (zy (z1 J (zz (Qk ?_))))))
 refine Xe (fun m st => ∃ k : Nat,k + m = xs.length ∧ ((xs.take k).all (fun x => decide (0 ≤ signless x)) = true) ∧ st = (⟨_,[(0,L xs),(3,S (bs (packK xs k))),(4,I k)],[]⟩ : St)) (xs.length) ⟨(fun k : Nat => (⟨_,[(0,L xs),(3,S (bs (packK xs k))),(4,I k)],[]⟩ : St)) 0,⟨0,by omega,by simp,J⟩,Z7 [] J (.c J (.cons (S_eq (by rw [hlx]; simp [packK])) (.c J (.nil))))⟩ ?_
 rintro m_A _ ⟨k,hk_A,hp_A,rfl⟩
 refine Qd (zy (z0 J (z0 J (zx (Yw J J J) J (zx (Zl J) J (zz ?_))))))
 refine Q9 J (fun h => ?_) (fun h => ?_)
 ·have h3 : k < xs.length := by have := of_decide_eq_true h; omega
  have hat := X7 h3
  have hb1 := X0 (packK xs k)
  have hb2 := packK_len xs k (by omega)
  have hb3 := X0 (encVar (signless xs[k]))
  have hb4 := X9 (signless xs[k])
  have hc := S_Signless xs[k] (hg.2 _ (List.getElem_mem h3))
  refine Qh (Qz (Qd (Qk (Qd (zy (z0 J (z0 J (zx (Q1 J J J J (by omega) (by assumption) J) J (zx (Kc J) J ?_)))))))));refine zx (Qj J J (hc) J) J ?_;refine zx (Zl J) J (zz ?_)
  refine Q9 J (fun h4 => ?_) (fun h4 => ?_)
  ·refine zy (z1 rfl (zz (Q8 (T_r (B_r (T_r (T_r ?_)))))))
   refine B_r (T_r (F_r ?_))
   exact Ke J (Kf [] J J (S_eq (by rw [packInts,all_no h3 (by simpa using h4)]; rfl)))
  ·refine Qh (Qz (Qc (z0 rfl (z0 rfl (z0 rfl ?_)))))
   refine zx (Q1 J J J J (by omega) (by assumption) J) J (zx (Kc J) J ?_);refine zx (Qj J J (hc) J) J ?_;refine zx (Qj J J (Xr (signless xs[k])) J) J ?_;refine zx (q_cat J J J J (by omega)) J (z1 J (Qe (Q0 (Qz (Qc (z0 J (Kd J (z1 J (zz ?_)))))))))
   exact ⟨xs.length - (k + 1),by omega,(fun k : Nat => (⟨_,[(0,L xs),(3,S (bs (packK xs k))),(4,I k)],[]⟩ : St)) (k + 1),⟨k + 1,by omega,all_next hp_A h3 (by simpa using h4),J⟩,Z7 [] J (.c J (.cons (S_eq (by rw [Xz,packK_succ h3])) (.c J (.nil))))⟩
 ·have h3 : ¬ ((k : Int) < (els xs).length) := of_decide_eq_false h
  have hk : k = xs.length := by omega
  refine Q7 (T_x (T_x (Xg (Qz (zy (z0 J (z1 J (zz (Q8 ?_)))))))));refine F_r ?_
  exact Ke J (Kf [] J J (S_eq (by rw [packInts,all_end hp_A (by omega),hk]; rfl)))

def sumA (s : ByteArray) : Nat → Int
 | 0 => 0
 | k + 1 => (sumA s k + byteAt s k) % 65521
def sumB (s : ByteArray) : Nat → Int
 | 0 => 0
 | k + 1 => (sumB s k + byteAt s k * (((k : Int) + 1) % 65521)) % 65521
def checksum (s : ByteArray) : Int := sumA s s.size + 65536 * sumB s s.size
theorem sumA_lt (s : ByteArray) : ∀ k,0 ≤ sumA s k ∧ sumA s k < 65521
 | 0 => by simp [sumA]
 | k + 1 => by simp only [sumA]; omega
theorem sumB_lt (s : ByteArray) : ∀ k,0 ≤ sumB s k ∧ sumB s k < 65521
 | 0 => by simp [sumB]
 | k + 1 => by simp only [sumB]; omega
theorem checksum_lt (s : ByteArray) : 0 ≤ checksum s ∧ checksum s < 4294967296 := by
 have := sumA_lt s s.size
 have := sumB_lt s s.size
 unfold checksum
 omega
theorem I_Checksum (s : ByteArray) (hs : s.size ≤ 1099511627776) : Con Tryd.prog 71 [] [astr s] [] (I (checksum s)) := by
 refine Con.of Tryd.func71 J Tryd.ntmps71 J (fun E => ?_)
 refine zy (z1 J (zz (zy (z1 J (zz (zy ?_))))));refine z1 J (zz (Qd (zy (z1 J (zz (Qk ?_))))));refine Xe (fun m st => ∃ k : Nat,k + m = s.size ∧ (True) ∧ st = (⟨_,[(0,S s),(3,I (sumA s k)),(4,I (sumB s k)),(5,I k)],[]⟩ : St)) (s.size) ⟨_,⟨0,by omega,trivial,J⟩,Kb []⟩ ?_
 rintro m_A _ ⟨k,hk_A,hp_A,rfl⟩
 refine Qd (zy (z0 J (z0 J (zx (Yy J J J) J (zx (Zl J) J (zz ?_))))))
 refine Q9 J (fun h => ?_) (fun h => ?_)
 ·have h3 : k < s.size := by have := of_decide_eq_true h; omega
  have hb1 := sumA_lt s k
  have hb2 := sumB_lt s k
  obtain ⟨t,ht⟩ : ∃ t,byteAt s (k : Int).toNat = t := ⟨_,rfl⟩
  have htb : 0 ≤ t ∧ t ≤ 255 := ht ▸ X1 _ _
  have hmul : 0 ≤ t * (((k : Int) + 1) % 65521) ∧ t * (((k : Int) + 1) % 65521) ≤ 255 * 65520 := by
   have h5 : 0 ≤ ((k : Int) + 1) % 65521 ∧ ((k : Int) + 1) % 65521 ≤ 65520 := by omega
   exact ⟨Int.mul_nonneg htb.1 h5.1,Int.mul_le_mul htb.2 h5.2 h5.1 (by omega)⟩
  have e1 : sumA s (k + 1) = (sumA s k + t) % 65521 := by rw [sumA,← ht]; rfl
  have e2 : sumB s (k + 1) = (sumB s k + t * (((k : Int) + 1) % 65521)) % 65521 := by rw [sumB,← ht]; rfl
  refine Qh (Qz (Qd (Qk (zy (z0 J (z0 J (z0 J (zx (Ku J) J (zx (Ys J J J J (Z8)) J (Kd J ?_))))))))));refine zx (q_rem J J J J (by omega)) J (z1 J (zz (Qc (z0 J (z0 J (z0 J (zx (Ku J) J (zx (Ys J J J J (Z8)) J (z0 J (Kd J ?_))))))))));refine zx (q_rem J J J J (by omega)) J (zx (q_mul J J J J (by omega)) J (Kd J (zx (q_rem J J J J (by omega)) J (z1 J (Qe (Q0 (Qz (Qc (z0 J (Kd J (z1 J ?_)))))))))));refine zz ?_
  exact ⟨s.size - (k + 1),by omega,(fun k : Nat => (⟨_,[(0,S s),(3,I (sumA s k)),(4,I (sumB s k)),(5,I k)],[]⟩ : St)) (k + 1),⟨k + 1,by omega,trivial,J⟩,Z7 [] J (.c J (.cons (Xn e1.symm) (.cons (Xn e2.symm) (.c J (.nil)))))⟩
 ·have h3 : ¬ ((k : Int) < s.size) := of_decide_eq_false h
  have hk : k = s.size := by omega
  have hb1 := sumA_lt s k
  have hb2 := sumB_lt s k
  refine Q7 (T_x (T_x (Xg (Qz (zy (z0 J (z0 J (zx (q_mul J J J J (by omega)) J (Kd J (z1 J ?_))))))))));refine zz (Q8 (F_r ?_))
  exact Ke J (Kf [] J J (Xn (by rw [checksum,hk])))
theorem S_Checksum (s : ByteArray) (hs : s.size ≤ 1099511627776) : Con Tryd.prog 119 [] [astr s] [] (I (checksum s)) := by
 refine Con.of Tryd.func119 J Tryd.ntmps119 J (fun E => ?_)
 refine zy (z1 J (zz (zy (z1 J (zz (zy ?_))))));refine z1 J (zz (Qd (zy (z1 J (zz (Qk ?_))))));refine Xe (fun m st => ∃ k : Nat,k + m = s.size ∧ (True) ∧ st = (⟨_,[(0,S s),(3,I (sumA s k)),(4,I (sumB s k)),(5,I k)],[]⟩ : St)) (s.size) ⟨_,⟨0,by omega,trivial,J⟩,Kb []⟩ ?_
 rintro m_A _ ⟨k,hk_A,hp_A,rfl⟩
 refine Qd (zy (z0 J (z0 J (zx (Yy J J J) J (zx (Zl J) J (zz ?_))))))
 refine Q9 J (fun h => ?_) (fun h => ?_)
 ·have h3 : k < s.size := by have := of_decide_eq_true h; omega
  have hb1 := sumA_lt s k
  have hb2 := sumB_lt s k
  obtain ⟨t,ht⟩ : ∃ t,byteAt s (k : Int).toNat = t := ⟨_,rfl⟩
  have htb : 0 ≤ t ∧ t ≤ 255 := ht ▸ X1 _ _
  have hmul : 0 ≤ t * (((k : Int) + 1) % 65521) ∧ t * (((k : Int) + 1) % 65521) ≤ 255 * 65520 := by
   have h5 : 0 ≤ ((k : Int) + 1) % 65521 ∧ ((k : Int) + 1) % 65521 ≤ 65520 := by omega
   exact ⟨Int.mul_nonneg htb.1 h5.1,Int.mul_le_mul htb.2 h5.2 h5.1 (by omega)⟩
  have e1 : sumA s (k + 1) = (sumA s k + t) % 65521 := by rw [sumA,← ht]; rfl
  have e2 : sumB s (k + 1) = (sumB s k + t * (((k : Int) + 1) % 65521)) % 65521 := by rw [sumB,← ht]; rfl
  refine Qh (Qz (Qd (Qk (zy (z0 J (z0 J (z0 J (zx (Ku J) J (zx (Ys J J J J (Z8)) J (Kd J ?_))))))))));refine zx (q_rem J J J J (by omega)) J (z1 J (zz (Qc (z0 J (z0 J (z0 J (zx (Ku J) J (zx (Ys J J J J (Z8)) J (z0 J (Kd J ?_))))))))));refine zx (q_rem J J J J (by omega)) J (zx (q_mul J J J J (by omega)) J (Kd J (zx (q_rem J J J J (by omega)) J (z1 J (Qe (Q0 (Qz (Qc (z0 J (Kd J (z1 J ?_)))))))))));refine zz ?_
  exact ⟨s.size - (k + 1),by omega,(fun k : Nat => (⟨_,[(0,S s),(3,I (sumA s k)),(4,I (sumB s k)),(5,I k)],[]⟩ : St)) (k + 1),⟨k + 1,by omega,trivial,J⟩,Z7 [] J (.c J (.cons (Xn e1.symm) (.cons (Xn e2.symm) (.c J (.nil)))))⟩
 ·have h3 : ¬ ((k : Int) < s.size) := of_decide_eq_false h
  have hk : k = s.size := by omega
  have hb1 := sumA_lt s k
  have hb2 := sumB_lt s k
  refine Q7 (T_x (T_x (Xg (Qz (zy (z0 J (z0 J (zx (q_mul J J J J (by omega)) J (Kd J (z1 J ?_))))))))));refine zz (Q8 (F_r ?_))
  exact Ke J (Kf [] J J (Xn (by rw [checksum,hk])))

def seal4 (x : Int) : List UInt8 := [UInt8.ofNat (x % 256).toNat,UInt8.ofNat (x / 256 % 256).toNat,UInt8.ofNat (x / 65536 % 256).toNat,UInt8.ofNat (x / 16777216 % 256).toNat]
def sealText (s : ByteArray) : ByteArray := bs (seal4 (checksum s)) ++ s
theorem sealText_size (s : ByteArray) : (sealText s).size = s.size + 4 := by
 unfold sealText
 rw [X4,X0]
 simp [seal4]
 omega
theorem I_SealText (s : ByteArray) (hs : s.size ≤ 1099511627776) : Con Tryd.prog 92 [] [astr s] [] (S (sealText s)) := by
 obtain ⟨x,hx⟩ : ∃ x,checksum s = x := ⟨_,rfl⟩
 have h1 := checksum_lt s
 have hc := I_Checksum s hs
 rw [hx] at h1 hc
 refine Con.of Tryd.func92 J Tryd.ntmps92 J (fun E => ?_)
 refine zy (z1 J (zz (zy (z0 J ?_))));refine zx (Qj J J (hc) J) J ?_;refine z1 J (zz (zy (z0 J (zx (q_rem J J J J (by omega)) J (z1 J (zz (zy ?_)))))));refine z0 J (zx (q_quo J J J J (by omega)) J (z1 J (zz (zy (z0 J (zx (q_rem J J J J (by omega)) J (zx (Ys J J J J (Z9)) J (z0 J (zx (q_quo J J J J (by omega)) J ?_)))))))));refine zx (Ys J J J J (Z9)) J (z0 J (zx (q_rem J J J J (by omega)) J (zx (Ys J J J J (Z9)) J (z0 J (zx (q_quo J J J J (by omega)) J (zx (Ys J J J J (Z9)) J (Ki (Yn J J J J J J) J (z1 J (zz (Qd ?_))))))))));refine Qc (z0 J (zx (q_bstrb J J J J J) J (z0 J ?_)))
 refine M0 (q_cat J J J J (by simp only [X0,X4,List.length_cons,List.length_nil,List.length_append]; omega)) J J ?_
 refine z1 J (zz (Q8 (F_r ?_)))
 exact Ke J (Kf [] J J (S_eq (by
  rw [sealText,hx,seal4]
  have e1 : x % 65536 % 256 = x % 256 := by omega
  have e2 : x % 65536 / 256 = x / 256 % 256 := by omega
  have e3 : x / 65536 / 256 = x / 16777216 % 256 := by omega
  rw [e1,e2,e3])))
theorem S_SealText (s : ByteArray) (hs : s.size ≤ 1099511627776) : Con Tryd.prog 81 [] [astr s] [] (S (sealText s)) := by
 obtain ⟨x,hx⟩ : ∃ x,checksum s = x := ⟨_,rfl⟩
 have h1 := checksum_lt s
 have hc := S_Checksum s hs
 rw [hx] at h1 hc
 have f1 : x / 2 ^ (8 : Int).toNat = x / 256 := rfl
 have f2 : x / 2 ^ (16 : Int).toNat = x / 65536 := rfl
 have f3 : x / 2 ^ (24 : Int).toNat = x / 16777216 := rfl
 refine Con.of Tryd.func81 J Tryd.ntmps81 J (fun E => ?_)
 refine zy (z1 J (zz (zy (z0 J ?_))));refine zx (Qj J J (hc) J) J ?_;refine z1 J (zz (zy (z0 J (zx (q_conv8 J J J J) J (z0 J (zx (q_shrK J J J J (by assumption) ⟨by omega,by omega,by decide⟩) J (zx (q_conv8 J J J J) J (z0 J (zx (q_shrK J J J J (by assumption) ⟨by omega,by omega,by decide⟩) J ?_)))))))));refine zx (q_conv8 J J J J) J (z0 J (zx (q_shrK J J J J (by assumption) ⟨by omega,by omega,by decide⟩) J (zx (Ys J J J J (Z9)) J (Ki (Yn J J J J J J) J (zx (q_bstrb J J J J J) J (z0 J ?_))))))
 refine M0 (q_cat J J J J (by simp only [X0,X4,List.length_cons,List.length_nil,List.length_append]; omega)) J J ?_
 refine z1 J (zz (Q8 (F_r ?_)))
 exact Ke J (Kf [] J J (S_eq (by
  rw [sealText,hx,seal4]
  have e3 : x / 16777216 % 256 = x / 16777216 := by omega
  rw [e3])))
end
end Go.Proofs.YtcjclaoogdblbaaDoor
