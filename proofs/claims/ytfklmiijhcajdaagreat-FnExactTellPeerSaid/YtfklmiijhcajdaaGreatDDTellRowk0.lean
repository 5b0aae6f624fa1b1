/-
  Rules, data and contracts of functions: part 1 of the proof.
  Conditions: those that each theorem names.
-/
import Derived.WalkKit
import Derived.WalkSpells
import Derived.Deep.OwnRows
import Derived.Deep.MidRow
set_option linter.unusedSimpArgs false
set_option linter.unusedVariables false
namespace Go.Proofs.YtfklmiijhcajdaaGreat
section
open Go.RowKit
theorem Aqa {p:Prop} (h:p:=by omega):p:=h
theorem Aqb {p:Prop} (h:p:=by kernel_rfl):p:=h
theorem Aqc {p:Prop} (h:p:=by decide):p:=h
theorem Aqd {p:Prop} (h:p:=by simp):p:=h
theorem Aqe {p:Prop} (h:p:=by assumption):p:=h
theorem J.{u} {α:Sort u} {a:α}:a=a:=rfl
theorem Gqa {p:Prop} [Decidable p]:¬p→Decidable.decide p=Bool.false:=@decide_eq_false p _
theorem Gqb {p:Prop} [inst:Decidable p]:p→Decidable.decide p=Bool.true:=@decide_eq_true p inst
theorem Gqc {p:Prop} [inst:Decidable p]:Decidable.decide p=Bool.true→p:=@of_decide_eq_true p inst
theorem Gqd {p:Prop} [inst:Decidable p]:Decidable.decide p=Bool.false→¬p:=@of_decide_eq_false p inst
theorem Gqe.{u_1} {α:Type u_1} {l:List α} {n:Nat} (h:n<l.length):l[n]∈l:=@List.getElem_mem α l n h
theorem Gqf.{u_1} {α:Type u_1} {l:List α} {i:Nat} (h:i<l.length):l[i]? = Option.some l[i]:=@List.getElem?_eq_getElem α l i h
theorem Gqg.{u_1} {α:Type u_1} {l:List α} {i:Nat} {a:α}:l.getD i a=l[i]?.getD a:=@List.getD_eq_getElem?_getD α l i a
theorem Gqh.{u_1} {α:Type u_1} {i:Nat} {l:List α} (h:l.length≤i):List.take i l=l:=@List.take_of_length_le α i l h
theorem Gqi (a b:Bool):((a&&b)=Bool.true)=(a=Bool.true∧b=Bool.true):=@Bool.and_eq_true a b
theorem Gqj.{u_1, u_2} {α:Type u_1} {β:Type u_2} {f:α→β} {l:List α} {i:Nat}:(List.map f l)[i]? = Option.map f l[i]? := @List.getElem?_map α β f l i
theorem Gqk (n:Nat):n≤n:=@Nat.le_refl n
theorem Gql {x y:Bool}:(x || y)=Bool.false↔x=Bool.false∧y=Bool.false:=@Bool.or_eq_false_iff x y
theorem Gqm.{u_1} {α:Type u_1} {l:List α} {i:Nat} {a:α} (e:l[i]? = Option.some a):a∈l:=@List.mem_of_getElem? α l i a e
theorem Gqn.{u_1} {α:Type u_1} {p:α→Bool} {l:List α}:l.all p=Bool.true↔∀ (x:α), x∈l→p x=Bool.true:=@List.all_eq_true α p l
theorem Gqo.{u_1} {α:Type u_1} {i:Nat} {a:α} {l:List α}:l[i]? = Option.some a↔∃ h, l[i]=a:=@List.getElem?_eq_some_iff α i a l
theorem Gqp.{u} {α:Type u} {ass bs:List α}:(ass++bs).length=ass.length+bs.length:=@List.length_append α ass bs
theorem Gqq (n m:Nat):n<m∨n≥m:=@Nat.lt_or_ge n m
theorem Gqr (a b:Bool):((a || b)=Bool.true)=(a=Bool.true∨b=Bool.true):=@Bool.or_eq_true a b
theorem Gqs.{u_1} {α:Type u_1} {a:α} {s t:List α}:a∈s++t↔a∈s∨a∈t:=@List.mem_append α a s t
theorem Gqt.{u_1} {α:Type u_1} {L₁ L₂:List (List α)}:(L₁++L₂).flatten=L₁.flatten++L₂.flatten:=@List.flatten_append α L₁ L₂
theorem Gqu (b:Bool):((!b)=Bool.false)=(b=Bool.true):=@Bool.not_eq_false' b
theorem Gqv.{u_1, u_2} {α:Type u_1} {β:Type u_2} {b:β} {f:α→β} {l:List α}:b∈List.map f l↔∃ a, a∈l∧f a=b:=@List.mem_map α β b f l
theorem Gqw.{u_1} {α:Type u_1} {l₁ l₂:List α} {i:Nat} (hn:i<l₁.length):(l₁++l₂)[i]? = l₁[i]? := @List.getElem?_append_left α l₁ l₂ i hn
theorem Gqx.{u} {α:Type u} {ass:List α} {i:Nat} {a:α}:(ass.set i a).length=ass.length:=@List.length_set α ass i a
theorem Gqy.{u_1} {α:Type u_1} {l₁ l₂:List α} {i:Nat}:l₁.length≤i→(l₁++l₂)[i]? = l₂[i-l₁.length]? := @List.getElem?_append_right α l₁ l₂ i
theorem Gqz {n m:Nat} (h:n.ble m=Bool.true):n≤m:=@Nat.le_of_ble_eq_true n m h
theorem Gq0.{u_1} {α:Type u_1} {xs:Array α} {i:Nat} {d:α}:xs.getD i d=xs[i]?.getD d:=@Array.getD_eq_getD_getElem? α xs i d
theorem Gq1.{u} {α:Type u} (ass:List α):ass ++ []=ass:=@List.append_nil α ass
theorem Gq2.{u_1, u_2} {α:Type u_1} {β:Type u_2} (a:α) (f:α→β):Option.map f (Option.some a)=Option.some (f a):=@Option.map_some α β a f
theorem Gq3.{u} {α:Type u} {a:α} {ass:List α}:(a::ass).length=ass.length+1:=@List.length_cons α a ass
theorem Gq4.{u_1} {α:Type u_1} {i:Nat} {l:List α}:(List.take i l).length=Min.min i l.length:=@List.length_take α i l
theorem Gq5.{u} {α:Type u} (ass bs cs:List α):ass++bs++cs=ass++(bs++cs):=@List.append_assoc α ass bs cs
theorem Gq6.{u_1} {α:Type u_1} {xs:Array α} {i:Nat} (h:i<xs.size):xs[i]? = Option.some xs[i]:=@Array.getElem?_eq_getElem α xs i h
theorem Gq7.{u_1} {α:Type u_1} (y:α) {a:α} {l:List α}:a∈l→a∈y::l:=@List.mem_cons_of_mem α y a l
theorem Gq8 (b:Bool):((!b)=Bool.true)=(b=Bool.false):=@Bool.not_eq_true' b
theorem Gq9.{u_1} {α:Type u_1} {l:List α} {i j:Nat} (h:i≠j) {a:α}:(l.set i a)[j]? = l[j]? := @List.getElem?_set_ne α l i j h a
theorem Gxa {n m:Nat}:n.beq m=Bool.true→n=m:=@Nat.eq_of_beq_eq_true n m
theorem Gxb.{u_1} {α:Type u_1} {a:α} {l:List α}:(a::l).Nodup↔¬a∈l∧l.Nodup:=@List.nodup_cons α a l
theorem Gxc.{u_1} {α:Type u_1} {a:α} {l:List α}:(a::l)[0]? = Option.some a:=@List.getElem?_cons_zero α a l
theorem Gxd (b:Bool):(¬b=Bool.true)=(b=Bool.false):=@Bool.not_eq_true b
theorem Gxe.{u_1} {α:Type u_1} {a:α} {L:List (List α)}:a∈L.flatten↔∃ l, l∈L∧a∈l:=@List.mem_flatten α a L
theorem Gxf.{u_1} {α:Type u_1} {l:List α} {i j:Nat}:(List.take i l)[j]? = if j<i then l[j]? else Option.none:=@List.getElem?_take α l i j
theorem Gxg.{u_1} {α:Type u_1} (i:Nat) (l:List α):List.take i l++List.drop i l=l:=@List.take_append_drop α i l
theorem Gxh.{u_1} {α:Type u_1} {xs:List α} {i j:Nat}:(List.drop i xs)[j]? = xs[i+j]? := @List.getElem?_drop α xs i j
theorem Gxi.{u_1} {α:Type u_1} {l:List α} {i:Nat} {a b:α}:a∈l.set i b→a∈l∨a=b:=@List.mem_or_eq_of_mem_set α l i a b
theorem Gxj.{u_1} {α:Type u_1} {a b:α}:a ∈ [b]↔a=b:=@List.mem_singleton α a b
theorem Gxk.{u_1} {α:Type u_1} {i:Nat} {l:List α} (h:i<l.length):List.take (i+1) l=List.take i l ++ [l[i]]:=@List.take_succ_eq_append_getElem α i l h
theorem Gxl.{u_1} {α:Type u_1} {a:α} {i:Nat} {l:List α}:(a::l)[i+1]? = l[i]? := @List.getElem?_cons_succ α a i l
theorem Gxm.{u_1} {α:Type u_1} {i:Nat} {l:List α} (h:i<l.length):List.drop i l=l[i]::List.drop (i+1) l:=@List.drop_eq_getElem_cons α i l h
theorem Gxn {n m k:Nat}:n<m→m≤k→n<k:=@Nat.lt_of_lt_of_le n m k
theorem Gxo {n m:Nat} (k:Nat) (h:n≤m):n*k≤m*k:=@Nat.mul_le_mul_right n m k h
theorem Gxp {x y:Bool}:(x&&y)=Bool.false↔x=Bool.false∨y=Bool.false:=@Bool.and_eq_false_iff x y
theorem Gxq (n:Nat):0+n=n:=@Nat.zero_add n
theorem Gxr.{u_1} {α:Type u_1} {l:List α}:0<l.length↔l ≠ []:=@List.length_pos_iff α l
theorem Gxs.{u_1} {α:Type u_1} {a:α}:¬a ∈ []:=@List.not_mem_nil α a
structure Bx (G:Prop):Prop where
 h:G
structure Cd (c:List Nat):Prop where
structure Nt (n:Nat):Prop where
theorem Cd.e {G:Prop} (_:Cd []) (h:Bx G):G:=h.h
theorem Cd.p {n:Nat} {c:List Nat} (_:Cd (n::c)):Nt (n/13)∧Nt (n%13)∧Cd c:=⟨⟨⟩,⟨⟩,⟨⟩⟩
set_option maxRecDepth 100000 in
theorem Wz {R G:Prop} (c:List Nat) (k:R) (h:Cd c→Bx R→Nt 0→Nt 0→G:=by intro c k a d; (repeat (have e:=Cd.p c; clear a d c; obtain⟨a,d,c⟩:=e; first | (guard_hyp a:Nt 0; first | (guard_hyp d:Nt 0;refine z0 rfl ?_) | (guard_hyp d:Nt 1;refine z5 rfl ?_) | (guard_hyp d:Nt 2;refine z1 rfl (Qe ?_);refine Q0 ?_) | (guard_hyp d:Nt 3;refine Qd ?_;refine Qc ?_) | (guard_hyp d:Nt 4;refine DR.s (Qa rfl rfl rfl) rfl rfl ?_) | (guard_hyp d:Nt 5;refine zn rfl ?_) | (guard_hyp d:Nt 6;refine Qe ?_;refine Q0 ?_) | (guard_hyp d:Nt 7;refine Qh (Q0 (Qd ?_));refine Qk ?_) | (guard_hyp d:Nt 8;refine DR.s (Qf rfl rfl rfl rfl (by decide)) rfl rfl ?_;refine DR.s (Qg rfl rfl rfl rfl rfl) rfl rfl ?_) | (guard_hyp d:Nt 9;refine zy (z0 rfl ?_);refine z0 rfl ?_) | (guard_hyp d:Nt 10;refine zy ?_;refine z0 rfl ?_) | (guard_hyp d:Nt 11;refine Qd (zy (z1 rfl (zz ?_)));refine Qk ?_) | (guard_hyp d:Nt 12;refine zy (z1 rfl (Qe ?_));refine Q0 ?_)) | (guard_hyp a:Nt 1; first | (guard_hyp d:Nt 0;refine DR.stop (by kernel_rfl) (by kernel_rfl) ?_) | (guard_hyp d:Nt 1;refine zx (Z3 rfl rfl rfl) rfl ?_) | (guard_hyp d:Nt 2;refine Qh ?_;refine Q0 ?_) | (guard_hyp d:Nt 3;refine zn rfl (zz (Ql rfl (Qh (Q0 (Qd (zy (z2 rfl rfl rfl (z3 rfl (z2 rfl rfl rfl ?_)))))))));refine z3 rfl ?_) | (guard_hyp d:Nt 4;refine Qd ?_) | (guard_hyp d:Nt 5;refine z7 rfl (by omega) ?_) | (guard_hyp d:Nt 6;refine z2 rfl rfl rfl ?_;refine z3 rfl ?_) | (guard_hyp d:Nt 7;refine Q9 (T_x (T_x (Xj ?_)));refine Q0 ?_) | (guard_hyp d:Nt 8;refine zy (M1 (Qq rfl rfl rfl rfl) rfl rfl (z1 rfl (Qe ?_)));refine Q0 ?_) | (guard_hyp d:Nt 9;refine zpF rfl ?_) | (guard_hyp d:Nt 10;refine zy (z2 rfl rfl rfl ?_);refine z3 rfl ?_) | (guard_hyp d:Nt 11;refine zz ?_;refine Qm rfl ?_) | (guard_hyp d:Nt 12;refine zx (Zm rfl rfl rfl rfl) rfl ?_)) | (guard_hyp a:Nt 2; first | (guard_hyp d:Nt 0;refine zz (Qm rfl (zy (z1 rfl (zz (Xa (T_r ?_))))));refine F_r ?_) | (guard_hyp d:Nt 1;refine z1 rfl (zz (Qd (zy (z0 rfl (z9a rfl (by assumption) (zz (Ql rfl (Qh ?_))))))));refine Q0 (zy (z2 rfl rfl rfl (z3 rfl ?_)));refine z0 rfl ?_) | (guard_hyp d:Nt 2;refine z0 rfl (z5 rfl (z0 rfl ?_));refine z5 rfl ?_) | (guard_hyp d:Nt 3;refine DR.s (Z7 rfl rfl rfl rfl) rfl rfl ?_) | (guard_hyp d:Nt 4;refine z2 rfl rfl rfl ?_;refine Q5 rfl rfl rfl rfl rfl rfl rfl rfl (Qe ?_);refine Q0 ?_) | (guard_hyp d:Nt 5;refine Q9 (T_x (T_x (Xj (Q0 (zy (z0 rfl (z1 rfl (zz (Xa ?_)))))))));refine F_r ?_) | (guard_hyp d:Nt 6;refine z1 rfl ?_) | (guard_hyp d:Nt 7;refine zz (Ql rfl (Qh ?_));refine Q0 ?_) | (guard_hyp d:Nt 8;refine Qd (zy (z2 rfl rfl rfl ?_));refine z3 rfl ?_) | (guard_hyp d:Nt 9;refine DR.s (Qt.yes rfl rfl rfl (Qf rfl rfl rfl rfl (by decide))) rfl rfl ?_;refine DR.s (Qt.yes rfl rfl rfl (Qg rfl rfl rfl rfl rfl)) rfl rfl ?_) | (guard_hyp d:Nt 10;refine M1 (Qx rfl rfl rfl) rfl rfl ?_) | (guard_hyp d:Nt 11;refine z4 rfl rfl rfl ?_) | (guard_hyp d:Nt 12;refine zx (Z9 rfl rfl rfl rfl) rfl (Qe ?_);refine Q0 ?_)) | (guard_hyp a:Nt 3; first | (guard_hyp d:Nt 0;refine zy (z1 rfl (zz (Xa (T_r ?_))));refine F_r ?_) | (guard_hyp d:Nt 1;refine z1 rfl (zz (zy ?_));refine z0 rfl ?_) | (guard_hyp d:Nt 2;refine z9f rfl (by assumption) (zz (Qm rfl (zy (z1 rfl (zz (Xa (T_r ?_)))))));refine F_r ?_) | (guard_hyp d:Nt 3;refine zy (M1 (Qq rfl rfl rfl rfl) rfl rfl (M1 (Qq rfl rfl rfl rfl) rfl rfl (z1 rfl (zz (Qd (zy (z2 rfl rfl rfl (z3 rfl ?_))))))));refine z2 rfl rfl rfl ?_;refine z3 rfl ?_) | (guard_hyp d:Nt 4;refine Qd (zy (z0 rfl ?_));refine z0 rfl ?_) | (guard_hyp d:Nt 5;refine z9a rfl (by assumption) (zz ?_);refine Ql rfl ?_) | (guard_hyp d:Nt 6;refine z2 rfl rfl rfl ?_;refine Q5 rfl rfl rfl rfl rfl rfl rfl rfl (zz (zy (z2 rfl rfl rfl ?_)));refine z3 rfl ?_) | (guard_hyp d:Nt 7;refine zx (Q2 rfl rfl rfl rfl (by omega) (by assumption) rfl) rfl ?_;refine zx (Z8 rfl rfl rfl rfl rfl) rfl ?_) | (guard_hyp d:Nt 8;refine z6 rfl ?_;refine z6 rfl ?_) | (guard_hyp d:Nt 9;refine Qy rfl rfl rfl rfl rfl rfl rfl rfl rfl (Qe ?_);refine Q0 ?_) | (guard_hyp d:Nt 10;refine Xa ?_;refine F_r ?_) | (guard_hyp d:Nt 11;refine Q1 ?_;refine Q0 ?_) | (guard_hyp d:Nt 12;refine zx (Kd rfl rfl rfl rfl) rfl (Qe ?_);refine Q0 ?_)) | (guard_hyp a:Nt 4; first | (guard_hyp d:Nt 0;refine M1 (Qx rfl rfl rfl) rfl rfl (Qe ?_);refine Q0 ?_) | (guard_hyp d:Nt 1;refine z1 rfl (zz (Xa ?_));refine F_r ?_) | (guard_hyp d:Nt 2;refine zy (z1 rfl (zz (Xa (B_r (T_r (T_r (B_r (T_r ?_))))))));refine F_r ?_) | (guard_hyp d:Nt 3;refine z2 rfl rfl rfl ?_) | (guard_hyp d:Nt 4;refine Qd (zy ?_);refine z0 rfl ?_) | (guard_hyp d:Nt 5;refine Qc ?_) | (guard_hyp d:Nt 6;refine z0 rfl ?_;refine zx (Qt.grdT rfl rfl rfl .stop (fun hgrd=>Qf rfl rfl rfl rfl (by decide))) rfl ?_;refine zx (Qt.grdT rfl rfl rfl (.hit .stop) (fun hgrd=>Qg rfl rfl rfl rfl rfl)) rfl ?_) | (guard_hyp d:Nt 7;refine Qd (zy (z0 rfl (z0 rfl (zx (Z3 rfl rfl rfl) rfl (zx (Z9 rfl rfl rfl rfl) rfl (Qe ?_))))));refine Q0 ?_) | (guard_hyp d:Nt 8;refine zpT rfl ?_) | (guard_hyp d:Nt 9;refine Xx rfl rfl rfl rfl rfl rfl rfl rfl rfl (by assumption) (by assumption) (by assumption) rfl ?_) | (guard_hyp d:Nt 10;refine Qh (Q1 (Q0 (Qc (z0 rfl (z7 rfl (by omega) (z1 rfl (Qe ?_)))))));refine Q0 ?_) | (guard_hyp d:Nt 11;refine Qc (z0 rfl ?_);refine z0 rfl ?_) | (guard_hyp d:Nt 12;refine zn rfl (zz (Ql rfl (Qh ?_)));refine Q0 ?_)) | (guard_hyp a:Nt 5; first | (guard_hyp d:Nt 0;refine DR.s (Qt.no rfl rfl rfl rfl) rfl rfl (DR.s (Qt.no rfl rfl rfl rfl) rfl rfl (DR.s (Qt.no rfl rfl rfl rfl) rfl rfl ?_));refine DR.s (Qt.no rfl rfl rfl rfl) rfl rfl ?_) | (guard_hyp d:Nt 1;refine DR.s (Qa rfl rfl rfl) rfl rfl ?_;refine DR.s (Q2 rfl rfl rfl rfl (by omega) (by assumption) rfl) rfl rfl ?_) | (guard_hyp d:Nt 2;refine zy (z1 rfl (zz (Xa ?_)));refine F_r ?_) | (guard_hyp d:Nt 3;refine Qd (zy (z2 rfl rfl rfl (z4 rfl rfl rfl (z2 rfl rfl rfl ?_))));refine z4 rfl rfl rfl ?_) | (guard_hyp d:Nt 4;refine T_r ?_;refine F_r ?_) | (guard_hyp d:Nt 5;refine z0 rfl ?_;refine z5 rfl ?_) | (guard_hyp d:Nt 6;refine ze rfl ?_) | (guard_hyp d:Nt 7;refine DR.s (Qt.yes rfl rfl rfl (Qa rfl rfl rfl)) rfl rfl ?_) | (guard_hyp d:Nt 8;refine z1 rfl (zz (Qd (zy ?_)));refine z0 rfl ?_) | (guard_hyp d:Nt 9;refine DR.s (Q4 rfl rfl rfl) rfl rfl ?_) | (guard_hyp d:Nt 10;refine zy (z2 rfl rfl rfl (z3 rfl ?_));refine z0 rfl ?_) | (guard_hyp d:Nt 11;refine zy ?_;refine M1 (Qq rfl rfl rfl rfl) rfl rfl ?_) | (guard_hyp d:Nt 12;refine zy (z1 rfl (zz ?_));refine Xa ?_)) | (guard_hyp a:Nt 6; first | (guard_hyp d:Nt 0;refine zy (z0 rfl (z0 rfl (z0 rfl (zx (Zn rfl rfl rfl rfl rfl (by omega) (by assumption)) rfl ?_))));refine zx (Zw rfl rfl rfl rfl (by decide)) rfl ?_) | (guard_hyp d:Nt 1;refine Qd (zy (z0 rfl (z0 rfl (zx (Q2 rfl rfl rfl rfl (by omega) (by assumption) rfl) rfl ?_))));refine zx (Zx rfl rfl rfl rfl (by decide)) rfl ?_) | (guard_hyp d:Nt 2;refine zx (Q2 rfl rfl rfl rfl (by omega) (by assumption) rfl) rfl ?_;refine zx (Z7 rfl rfl rfl rfl) rfl ?_) | (guard_hyp d:Nt 3;refine zz ?_;refine Ql rfl ?_) | (guard_hyp d:Nt 4;refine z9a rfl (by assumption) (zz (Qm rfl (Qh (Q0 (Qd ?_)))));refine Qk ?_) | (guard_hyp d:Nt 5;refine z1 rfl (zz (Qd (zy (z0 rfl (z9a rfl (by assumption) (zz (Ql rfl (Qh ?_))))))));refine Q0 ?_) | (guard_hyp d:Nt 6;refine z8 rfl (by omega) ?_) | (guard_hyp d:Nt 7;refine Qe ?_) | (guard_hyp d:Nt 8;refine z9e rfl (by assumption) ?_) | (guard_hyp d:Nt 9;refine z1 rfl (Qe (Q1 (Q0 (Qc (z0 rfl (z7 rfl (by omega) (z1 rfl (Qe ?_))))))));refine Q0 ?_) | (guard_hyp d:Nt 10;refine Qh (Q0 (Qd (Qk ?_)));refine Qd ?_) | (guard_hyp d:Nt 11;refine z2 rfl rfl rfl (z3 rfl ?_);refine zx (Z3 rfl rfl rfl) rfl ?_) | (guard_hyp d:Nt 12;refine zy ?_;refine z4 rfl rfl rfl ?_)) | (guard_hyp a:Nt 7; first | (guard_hyp d:Nt 0;refine DR.s (Qn rfl rfl rfl rfl) rfl rfl ?_) | (guard_hyp d:Nt 1;refine zz (zy (z0 rfl (z7 rfl (by omega) (z1 rfl (Qe ?_)))));refine Q0 ?_) | (guard_hyp d:Nt 2;refine zx (Z7 rfl rfl rfl rfl) rfl (z0 rfl (zx (Kc rfl rfl rfl rfl) rfl (zz (Ql rfl (Qh (Q0 (zy (z0 rfl (z7 rfl (by omega) ?_)))))))));refine z1 rfl (Qe ?_);refine Q0 ?_) | (guard_hyp d:Nt 3;refine Qc ?_;refine z0 rfl ?_) | (guard_hyp d:Nt 4;refine DR.s (Qa rfl rfl rfl) rfl rfl (DR.s (Qa rfl rfl rfl) rfl rfl (DR.s (Q2 rfl rfl rfl rfl (by omega) (by assumption) rfl) rfl rfl ?_));refine DR.s (Z8 rfl rfl rfl rfl rfl) rfl rfl ?_) | (guard_hyp d:Nt 5;refine zy (M1 (Qq rfl rfl rfl rfl) rfl rfl (M1 (Qq rfl rfl rfl rfl) rfl rfl (z1 rfl (Qe ?_))));refine Q0 ?_) | (guard_hyp d:Nt 6;refine zz ?_;refine Qk ?_) | (guard_hyp d:Nt 7;refine zx (Kd rfl rfl rfl rfl) rfl (z0 rfl ?_);refine zx (Qt.grdF rfl rfl rfl .stop (fun hgrd=>Qf rfl rfl rfl rfl (by decide))) rfl ?_;refine zx (Qt.grdF rfl rfl rfl (.hit .stop) (fun hgrd=>Qg rfl rfl rfl rfl rfl)) rfl ?_) | (guard_hyp d:Nt 8;refine Qe (Q1 (Q0 (Qc (z0 rfl (z7 rfl (by omega) (z1 rfl (Qe ?_)))))));refine Q0 ?_) | (guard_hyp d:Nt 9;refine zy (z4 rfl rfl rfl ?_);refine Qy rfl rfl rfl rfl rfl rfl rfl rfl rfl (Qe ?_);refine Q0 ?_) | (guard_hyp d:Nt 10;refine zy (z2 rfl rfl rfl (z4 rfl rfl rfl ?_));refine z0 rfl ?_) | (guard_hyp d:Nt 11;refine z0 rfl ?_;refine zx (Qt.grdF rfl rfl rfl .stop (fun hgrd=>Qf rfl rfl rfl rfl (by decide))) rfl ?_;refine zx (Qt.grdF rfl rfl rfl (.hit .stop) (fun hgrd=>Qg rfl rfl rfl rfl rfl)) rfl ?_) | (guard_hyp d:Nt 12;refine T_r ?_;refine B_r ?_)) | (guard_hyp a:Nt 8; first | (guard_hyp d:Nt 0;refine zx (Qt.grdF rfl rfl rfl (.hit (.hit (.hit .stop))) (fun hgrd=>Q4 rfl rfl rfl)) rfl ?_) | (guard_hyp d:Nt 1;refine zy (z1 rfl (zz (Qd (zy (z0 rfl (zx (Z3 rfl rfl rfl) rfl ?_))))));refine z0 rfl ?_) | (guard_hyp d:Nt 2;refine Ql rfl ?_) | (guard_hyp d:Nt 3;refine Qd (Qd ?_);refine Qc ?_) | (guard_hyp d:Nt 4;refine z9f rfl (by assumption) (zz (Ql rfl (Qh (Q0 (Qd (zy (z2 rfl rfl rfl (z3 rfl (z2 rfl rfl rfl ?_)))))))));refine z3 rfl ?_) | (guard_hyp d:Nt 5;refine zx (Qt.grdF rfl rfl rfl .stop (fun hgrd=>Qa rfl rfl rfl)) rfl ?_) | (guard_hyp d:Nt 6;refine zx (Kd rfl rfl rfl rfl) rfl ?_) | (guard_hyp d:Nt 7;refine zx (Qt.no2 rfl rfl rfl) rfl ?_) | (guard_hyp d:Nt 8;refine Qd (zy (z0 rfl (z0 rfl ?_)));refine zx (Z3 rfl rfl rfl) rfl ?_) | (guard_hyp d:Nt 9;refine zx (Z4 rfl rfl rfl rfl) rfl ?_) | (guard_hyp d:Nt 10;refine zx (Z7 rfl rfl rfl rfl) rfl ?_;refine z0 rfl ?_) | (guard_hyp d:Nt 11;refine z9f rfl (by assumption) (zz (Ql rfl (Qh (Q0 (Qd (zy (z2 rfl rfl rfl (z3 rfl (z2 rfl rfl rfl ?_)))))))));refine z3 rfl (z9f rfl (by assumption) (zz (Ql rfl (Qh (Q0 (Qd (zy (z2 rfl rfl rfl (z3 rfl ?_)))))))));refine z2 rfl rfl rfl ?_;refine z3 rfl ?_) | (guard_hyp d:Nt 12;refine zx (Z5 rfl rfl rfl) rfl ?_)) | (guard_hyp a:Nt 9; first | (guard_hyp d:Nt 0;refine zx (Z3 rfl rfl rfl) rfl ?_;refine z0 rfl ?_) | (guard_hyp d:Nt 1;refine z9f rfl (by assumption) ?_) | (guard_hyp d:Nt 2;refine z1 rfl (zz (Qd (zy (z0 rfl ?_))));refine z9a rfl (by assumption) ?_) | (guard_hyp d:Nt 3;refine DR.s (Qa rfl rfl rfl) rfl rfl (DR.s (Qa rfl rfl rfl) rfl rfl ?_);refine DR.s (Q2 rfl rfl rfl rfl (by omega) (by assumption) rfl) rfl rfl ?_) | (guard_hyp d:Nt 4;refine DR.s (Qt.yes rfl rfl rfl (Q2 rfl rfl rfl rfl (by omega) (by assumption) rfl)) rfl rfl ?_) | (guard_hyp d:Nt 5;refine z9f rfl (by assumption) (zz (Ql rfl (Qh (Q0 (Qd (zy (z2 rfl rfl rfl (z3 rfl (z2 rfl rfl rfl ?_)))))))));refine z3 rfl (z9f rfl (by assumption) (zz (Ql rfl (Qh (Q0 (Qd (zy (z2 rfl rfl rfl (z3 rfl ?_)))))))));refine z2 rfl rfl rfl (z3 rfl (z9f rfl (by assumption) (zz (Ql rfl (Qh (Q0 (Qd (zy (z2 rfl rfl rfl ?_)))))))));refine z3 rfl (z2 rfl rfl rfl (z3 rfl (z9f rfl (by assumption) (zz (Ql rfl (Qh (Q0 (Qd (zy ?_)))))))));refine z2 rfl rfl rfl (z3 rfl (z2 rfl rfl rfl ?_));refine z3 rfl ?_) | (guard_hyp d:Nt 6;refine Qh ?_) | (guard_hyp d:Nt 7;refine z3 rfl ?_) | (guard_hyp d:Nt 8;refine zy (z1 rfl (zz (Qd (zy ?_))));refine z0 rfl ?_) | (guard_hyp d:Nt 9;refine DR.s (Qt.yes rfl rfl rfl (Z7 rfl rfl rfl rfl)) rfl rfl ?_) | (guard_hyp d:Nt 10;refine z0 rfl ?_;refine z0 rfl ?_) | (guard_hyp d:Nt 11;refine Xg u8_3 u8_4 u8_5 rfl ?_) | (guard_hyp d:Nt 12;refine DR.s (Qo rfl rfl rfl rfl) rfl rfl ?_)) | (guard_hyp a:Nt 10; first | (guard_hyp d:Nt 0;refine zx (Q2 rfl rfl rfl rfl (by omega) (by assumption) rfl) rfl ?_;refine zx (Zx rfl rfl rfl rfl (by decide)) rfl ?_) | (guard_hyp d:Nt 1;refine Xv rfl rfl rfl rfl rfl rfl rfl rfl rfl rfl rfl rfl rfl rfl (by omega) (by omega) ?_) | (guard_hyp d:Nt 2;refine z2 rfl rfl rfl ?_;refine Q5 rfl rfl rfl rfl rfl rfl rfl rfl ?_) | (guard_hyp d:Nt 3;refine zx (Q2 rfl rfl rfl rfl (by omega) (by assumption) rfl) rfl ?_) | (guard_hyp d:Nt 4;refine z9a rfl (by assumption) ?_) | (guard_hyp d:Nt 5;refine Xa ?_) | (guard_hyp d:Nt 6;refine Qy rfl rfl rfl rfl rfl rfl rfl rfl rfl ?_) | (guard_hyp d:Nt 7;refine zx (Zx rfl rfl rfl rfl (by decide)) rfl ?_) | (guard_hyp d:Nt 8;refine M1 (Zo rfl rfl rfl rfl rfl rfl) rfl rfl ?_) | (guard_hyp d:Nt 9;refine zx (Q8 rfl rfl rfl) rfl ?_) | (guard_hyp d:Nt 10;refine zx (Qt.grdF rfl rfl rfl (.hit (.hit .stop)) (fun hgrd=>Z3 rfl rfl rfl)) rfl ?_) | (guard_hyp d:Nt 11;refine B_r (T_r (T_r (B_r (T_r ?_))));refine F_r ?_) | (guard_hyp d:Nt 12;refine DR.s (Qt.yes rfl rfl rfl (Q4 rfl rfl rfl)) rfl rfl ?_)) | (guard_hyp a:Nt 11; first | (guard_hyp d:Nt 0;refine zx (Zw rfl rfl rfl rfl (by decide)) rfl ?_) | (guard_hyp d:Nt 1;refine Qm rfl ?_) | (guard_hyp d:Nt 2;refine DR.s (Zo rfl rfl rfl rfl rfl rfl) rfl rfl ?_) | (guard_hyp d:Nt 3;refine zx (Qt.grdT rfl rfl rfl .stop (fun hgrd=>Qa rfl rfl rfl)) rfl ?_) | (guard_hyp d:Nt 4;refine T_r (T_r ?_);refine B_r ?_) | (guard_hyp d:Nt 5;refine zx (Z1 rfl rfl rfl rfl (by assumption) (by assumption) (by assumption)) rfl ?_) | (guard_hyp d:Nt 6;refine zx (Qw (b:=true) rfl rfl rfl rfl (by decide)) rfl ?_) | (guard_hyp d:Nt 7;refine zx (Zn rfl rfl rfl rfl rfl (by omega) (by assumption)) rfl ?_;refine zx (Zw rfl rfl rfl rfl (by decide)) rfl ?_) | (guard_hyp d:Nt 8;refine DR.s (Q3 rfl rfl rfl rfl rfl (by omega) (by omega)) rfl rfl ?_) | (guard_hyp d:Nt 9;refine zy (z2 rfl rfl rfl ?_);refine z4 rfl rfl rfl ?_) | (guard_hyp d:Nt 10;refine zx (Z9 rfl rfl rfl rfl) rfl ?_) | (guard_hyp d:Nt 11;refine zx (Kf rfl rfl rfl rfl (by omega)) rfl ?_) | (guard_hyp d:Nt 12;refine zx (q_mul rfl rfl rfl rfl (by omega)) rfl ?_)) | (guard_hyp a:Nt 12; first | (guard_hyp d:Nt 0;refine DR.s (Qb rfl rfl rfl) rfl rfl ?_) | (guard_hyp d:Nt 1;refine DR.s (Qz rfl rfl rfl) rfl rfl ?_) | (guard_hyp d:Nt 2;refine zx (Kb rfl rfl rfl rfl) rfl ?_) | (guard_hyp d:Nt 3;refine z6 rfl ?_) | (guard_hyp d:Nt 4;refine z9c rfl (by assumption) ?_) | (guard_hyp d:Nt 5;refine M1 (Zp rfl rfl rfl) rfl rfl ?_) | (guard_hyp d:Nt 6;refine zx (Qt.grdF rfl rfl rfl (.hit (.hit (.hit (.hit .stop)))) (fun hgrd=>Kb rfl rfl rfl rfl)) rfl ?_) | (guard_hyp d:Nt 7;refine zx (Q3 rfl rfl rfl rfl rfl (by omega) (by assumption)) rfl ?_) | (guard_hyp d:Nt 8;refine zy (z0 rfl (z1 rfl (zz (Xa ?_))));refine F_r ?_) | (guard_hyp d:Nt 9;refine z9d rfl (by assumption) ?_) | (guard_hyp d:Nt 10;refine zx (Qt.grdF rfl rfl rfl (.hit (.hit .stop)) (fun hgrd=>Qa rfl rfl rfl)) rfl ?_) | (guard_hyp d:Nt 11;refine zx (Z7 rfl rfl rfl rfl) rfl ?_) | (guard_hyp d:Nt 12;refine z0 rfl ?_;refine zx (Qt.grdF rfl rfl rfl .stop (fun hgrd=>Qf rfl rfl rfl rfl (by decide))) rfl ?_)) | (guard_hyp a:Nt 13; first | (guard_hyp d:Nt 0;refine zy (z0 rfl (z0 rfl ?_));refine z0 rfl ?_) | (guard_hyp d:Nt 1;refine zx (q_rem rfl rfl rfl rfl (by omega)) rfl ?_) | (guard_hyp d:Nt 2;refine zx (q_quo rfl rfl rfl rfl (by omega)) rfl ?_) | (guard_hyp d:Nt 3;refine B_r ?_) | (guard_hyp d:Nt 4;refine DR.s (Zx rfl rfl rfl rfl (by decide)) rfl rfl ?_) | (guard_hyp d:Nt 5;refine zx (Zt rfl rfl rfl rfl (Kw (by omega))) rfl ?_) | (guard_hyp d:Nt 6;refine zx (Qt.grdF rfl rfl rfl (.hit (.hit .stop)) (fun hgrd=>Q4 rfl rfl rfl)) rfl ?_) | (guard_hyp d:Nt 7;refine zx (Qt.grdF rfl rfl rfl (.hit (.hit (.hit .stop))) (fun hgrd=>Qa rfl rfl rfl)) rfl ?_) | (guard_hyp d:Nt 8;refine z9a rfl (by assumption) (zz ?_);refine Qm rfl ?_) | (guard_hyp d:Nt 9;refine Qk ?_) | (guard_hyp d:Nt 10;refine B_r (T_r (T_r ?_));refine B_r ?_) | (guard_hyp d:Nt 11;refine zx (q_min rfl rfl rfl rfl) rfl ?_) | (guard_hyp d:Nt 12;refine zx (Qt.grdF rfl rfl rfl (.hit .stop) (fun hgrd=>Qf rfl rfl rfl rfl (by decide))) rfl ?_)) | (guard_hyp a:Nt 14; first | (guard_hyp d:Nt 0;refine zx (Zy (b:=true) rfl rfl rfl rfl (by decide)) rfl ?_) | (guard_hyp d:Nt 1;refine DR.s (Z3 rfl rfl rfl) rfl rfl ?_) | (guard_hyp d:Nt 2;refine DR.s (Qt.yes rfl rfl rfl (Zx rfl rfl rfl rfl (by decide))) rfl rfl ?_) | (guard_hyp d:Nt 3;refine zx (Zr rfl rfl rfl rfl rfl) rfl ?_) | (guard_hyp d:Nt 4;refine DR.s (Zq rfl rfl rfl) rfl rfl ?_) | (guard_hyp d:Nt 5;refine DR.s (Ke rfl rfl rfl rfl (by assumption)) rfl rfl ?_) | (guard_hyp d:Nt 6;refine Xe rfl rfl rfl rfl rfl rfl rfl rfl rfl rfl (by assumption) rfl rfl ?_) | (guard_hyp d:Nt 7;refine zx (Zu rfl rfl rfl rfl) rfl ?_) | (guard_hyp d:Nt 8;refine DR.s (Qu rfl rfl rfl rfl rfl rfl) rfl rfl ?_) | (guard_hyp d:Nt 9;refine Qd (zy (z2 rfl rfl rfl ?_));refine z4 rfl rfl rfl ?_) | (guard_hyp d:Nt 10;refine DR.s (Z8 rfl rfl rfl rfl rfl) rfl rfl ?_) | (guard_hyp d:Nt 11;refine zx (q_leq rfl rfl rfl rfl) rfl ?_) | (guard_hyp d:Nt 12;refine zx (Z6 (b:=true) rfl rfl rfl rfl (by decide)) rfl ?_)) | (guard_hyp a:Nt 15; first | (guard_hyp d:Nt 0;refine zx (q_aidx rfl rfl rfl rfl (by omega)) rfl ?_) | (guard_hyp d:Nt 1;refine Q5 rfl rfl rfl rfl rfl rfl rfl rfl ?_) | (guard_hyp d:Nt 2;refine T_r ?_) | (guard_hyp d:Nt 3;refine zx (q_sbat rfl rfl rfl rfl (by omega)) rfl ?_) | (guard_hyp d:Nt 4;refine Xg u8_6 u8_7 u8_8 rfl ?_) | (guard_hyp d:Nt 5;refine DR.s (Qf rfl rfl rfl rfl (by decide)) rfl rfl ?_) | (guard_hyp d:Nt 6;refine DR.s (Qt.yes rfl rfl rfl (Z3 rfl rfl rfl)) rfl rfl ?_) | (guard_hyp d:Nt 7;refine DR.s (Qt.yes rfl rfl rfl (Qf rfl rfl rfl rfl (by decide))) rfl rfl ?_) | (guard_hyp d:Nt 8;refine DR.s (Zv rfl rfl rfl rfl) rfl rfl ?_) | (guard_hyp d:Nt 9;refine Xf rfl rfl rfl rfl rfl rfl rfl rfl rfl (by assumption) rfl rfl ?_) | (guard_hyp d:Nt 10;refine Qd ?_;refine Qk ?_) | (guard_hyp d:Nt 11;refine zx (Zz rfl rfl rfl rfl) rfl ?_) | (guard_hyp d:Nt 12;refine zx (q_geq rfl rfl rfl rfl) rfl ?_)) | (guard_hyp a:Nt 16; first | (guard_hyp d:Nt 0;refine zx (q_byteK rfl rfl rfl rfl (by assumption) (by omega)) rfl ?_) | (guard_hyp d:Nt 1;refine zx (Qt.grdF rfl rfl rfl (.hit (.hit .stop)) (fun hgrd=>Qg rfl rfl rfl rfl rfl)) rfl ?_) | (guard_hyp d:Nt 2;refine DR.s (Qt.yes rfl rfl rfl (Xc rfl rfl rfl rfl (by omega))) rfl rfl ?_) | (guard_hyp d:Nt 3;refine M_appsb rfl rfl rfl rfl rfl rfl rfl rfl rfl rfl (by omega) (by omega) ?_) | (guard_hyp d:Nt 4;refine zx (Qt.grdF rfl rfl rfl (.hit .stop) (fun hgrd=>Qu rfl rfl rfl rfl rfl rfl)) rfl ?_) | (guard_hyp d:Nt 5;refine zx (Qt.grdF rfl rfl rfl (.hit (.hit (.hit (.hit (.hit .stop))))) (fun hgrd=>Z3 rfl rfl rfl)) rfl ?_) | (guard_hyp d:Nt 6;refine M1 (Ka 0 rfl rfl rfl rfl (by omega) (by omega) (by omega) rfl (by decide)) rfl rfl ?_) | (guard_hyp d:Nt 7;refine zx (Qt.grdF rfl rfl rfl (.hit (.hit (.hit .stop))) (fun hgrd=>Zz rfl rfl rfl rfl)) rfl ?_) | (guard_hyp d:Nt 8;refine zx (Qt.grdF rfl rfl rfl (.hit (.hit (.hit .stop))) (fun hgrd=>Z3 rfl rfl rfl)) rfl ?_) | (guard_hyp d:Nt 9;refine zx (Qw (b:=false) rfl rfl rfl rfl (by decide)) rfl ?_) | (guard_hyp d:Nt 10;refine Q9 (T_x (T_x ?_));refine Xj ?_) | (guard_hyp d:Nt 11;refine zx (Qt.grdF rfl rfl rfl (.hit .stop) (fun hgrd=>Qw (b:=true) rfl rfl rfl rfl (by decide))) rfl ?_) | (guard_hyp d:Nt 12;refine DR.s (Qt.no rfl rfl rfl rfl) rfl rfl ?_)) | (guard_hyp a:Nt 17; first | (guard_hyp d:Nt 0;refine DR.s (Qt.yes rfl rfl rfl (Qu rfl rfl rfl rfl rfl rfl)) rfl rfl ?_) | (guard_hyp d:Nt 1;refine DR.s (Qr rfl rfl rfl rfl (by assumption)) rfl rfl ?_) | (guard_hyp d:Nt 2;refine DR.s (Qt.yes rfl rfl rfl (Qs rfl rfl rfl rfl (by omega))) rfl rfl ?_) | (guard_hyp d:Nt 3;refine zx (Qt.grdF rfl rfl rfl (.hit (.hit (.hit .stop))) (fun hgrd=>Qf rfl rfl rfl rfl (by decide))) rfl ?_) | (guard_hyp d:Nt 4;refine DR.s (Z6 rfl rfl rfl rfl (by assumption)) rfl rfl ?_) | (guard_hyp d:Nt 5;refine zx (Qt.grdF rfl rfl rfl (.hit (.hit (.hit .stop))) (fun hgrd=>Q2 rfl rfl rfl rfl (by omega) (by assumption) rfl)) rfl ?_) | (guard_hyp d:Nt 6;refine DR.s (Q7 rfl rfl rfl rfl (by assumption) rfl) rfl rfl ?_) | (guard_hyp d:Nt 7;refine zx (Z7 rfl rfl rfl rfl) rfl (z0 rfl (zx (Kc rfl rfl rfl rfl) rfl (zz (Ql rfl (Qh ?_)))));refine Q0 ?_) | (guard_hyp d:Nt 8;refine M1 (Ka 1 rfl rfl rfl rfl (by omega) (by omega) (by omega) rfl (by decide)) rfl rfl ?_) | (guard_hyp d:Nt 9;refine zx (Qt.grdF rfl rfl rfl (.hit .stop) (fun hgrd=>Zz rfl rfl rfl rfl)) rfl ?_) | (guard_hyp d:Nt 10;refine Q1 (Q0 (Qc (z0 rfl (z7 rfl (by omega) (z1 rfl (Qe ?_))))));refine Q0 ?_) | (guard_hyp d:Nt 11;refine zx (q_bneq rfl rfl rfl rfl) rfl ?_) | (guard_hyp d:Nt 12;refine zx (q_cat rfl rfl rfl rfl (by omega)) rfl ?_)) | (guard_hyp a:Nt 18; first | (guard_hyp d:Nt 0;refine DR.s (q_appz0 rfl rfl rfl rfl rfl rfl) rfl rfl ?_) | (guard_hyp d:Nt 1;refine DR.s (Qx rfl rfl rfl) rfl rfl ?_) | (guard_hyp d:Nt 2;refine zx (Qt.grdF rfl rfl rfl (.hit (.hit .stop)) (fun hgrd=>Qf rfl rfl rfl rfl (by decide))) rfl ?_) | (guard_hyp d:Nt 3;refine zx (Qt.grdF rfl rfl rfl (.hit (.hit (.hit (.hit .stop)))) (fun hgrd=>Z7 rfl rfl rfl rfl)) rfl ?_) | (guard_hyp d:Nt 4;refine zx (Qt.grdF rfl rfl rfl (.hit (.hit (.hit (.hit (.hit (.hit (.hit .stop))))))) (fun hgrd=>Kb rfl rfl rfl rfl)) rfl ?_) | (guard_hyp d:Nt 5;refine zx (Zn rfl rfl rfl rfl rfl (by omega) (by assumption)) rfl ?_) | (guard_hyp d:Nt 6;refine Xg u8_0 u8_1 u8_2 rfl ?_) | (guard_hyp d:Nt 7;refine zx (Ke rfl rfl rfl rfl (by assumption)) rfl ?_) | (guard_hyp d:Nt 8;refine zx (Qt.grdT rfl rfl rfl (.hit (.hit .stop)) (fun hgrd=>q_leq rfl rfl rfl rfl)) rfl ?_) | (guard_hyp d:Nt 9;refine Q1 (Q0 (Qc ?_));refine z0 rfl ?_) | (guard_hyp d:Nt 10;refine zx (Qt.grdF rfl rfl rfl (.hit .stop) (fun hgrd=>Qa rfl rfl rfl)) rfl ?_) | (guard_hyp d:Nt 11;refine zx (Qt.grdT rfl rfl rfl (.hit .stop) (fun hgrd=>Kb rfl rfl rfl rfl)) rfl ?_) | (guard_hyp d:Nt 12;refine z1 rfl (zz ?_);refine Qk ?_)) | (guard_hyp a:Nt 19; first | (guard_hyp d:Nt 0;refine zx (Qt.grdT rfl rfl rfl (.hit (.hit .stop)) (fun hgrd=>Zu rfl rfl rfl rfl)) rfl ?_) | (guard_hyp d:Nt 1;refine zx (q_bstr rfl rfl rfl rfl) rfl ?_) | (guard_hyp d:Nt 2;refine zx (Zt rfl rfl rfl rfl (wrap_i64 (by omega))) rfl ?_) | (guard_hyp d:Nt 3;refine DR.s (Qt.yes rfl rfl rfl (Qv rfl rfl rfl rfl (by assumption))) rfl rfl ?_) | (guard_hyp d:Nt 4;refine DR.s (Qs rfl rfl rfl rfl (by omega)) rfl rfl ?_) | (guard_hyp d:Nt 5;refine zx (Qt.grdF rfl rfl rfl (.hit (.hit (.hit (.hit .stop)))) (fun hgrd=>Q4 rfl rfl rfl)) rfl ?_) | (guard_hyp d:Nt 6;refine DR.s (Qt.yes rfl rfl rfl (Zy rfl rfl rfl rfl (by assumption))) rfl rfl ?_) | (guard_hyp d:Nt 7;refine z2 rfl rfl rfl ?_;refine z4 rfl rfl rfl ?_) | (guard_hyp d:Nt 8;refine zx (Qt.grdF rfl rfl rfl (.hit (.hit (.hit .stop))) (fun hgrd=>Qg rfl rfl rfl rfl rfl)) rfl ?_) | (guard_hyp d:Nt 9;refine zx (Qt.grdF rfl rfl rfl (.hit (.hit (.hit (.hit (.hit (.hit .stop)))))) (fun hgrd=>Qa rfl rfl rfl)) rfl ?_) | (guard_hyp d:Nt 10;refine Xg u8_49 u8_50 u8_51 rfl ?_) | (guard_hyp d:Nt 11;refine zx (Qt.grdT rfl rfl rfl (.hit .stop) (fun hgrd=>Qf rfl rfl rfl rfl (by decide))) rfl ?_) | (guard_hyp d:Nt 12;refine zx (Qt.grdT rfl rfl rfl (.hit (.hit .stop)) (fun hgrd=>Qg rfl rfl rfl rfl rfl)) rfl ?_)) | (guard_hyp a:Nt 20; first | (guard_hyp d:Nt 0;refine zx (Qt.grdT rfl rfl rfl (.hit (.hit (.hit .stop))) (fun hgrd=>Z3 rfl rfl rfl)) rfl ?_) | (guard_hyp d:Nt 1;refine zy (M1 (Qq rfl rfl rfl rfl) rfl rfl ?_);refine M1 (Qq rfl rfl rfl rfl) rfl rfl ?_) | (guard_hyp d:Nt 2;refine zx (Q3 rfl rfl rfl rfl rfl (by omega) (by omega)) rfl ?_) | (guard_hyp d:Nt 3;refine Xg u8_53 u8_54 u8_55 rfl ?_) | (guard_hyp d:Nt 4;refine DR.s (Q8 rfl rfl rfl) rfl rfl ?_) | (guard_hyp d:Nt 5;refine DR.s (q_lel 15 rfl rfl rfl rfl) rfl rfl ?_) | (guard_hyp d:Nt 6;refine zx (q_bstrb rfl rfl rfl rfl rfl) rfl ?_) | (guard_hyp d:Nt 7;refine zx (Qt.grdT rfl rfl rfl (.hit .stop) (fun hgrd=>Qa rfl rfl rfl)) rfl ?_) | (guard_hyp d:Nt 8;refine zx (Zy (b:=false) rfl rfl rfl rfl (by decide)) rfl ?_) | (guard_hyp d:Nt 9;refine zx (Qt.grdF rfl rfl rfl .stop (fun hgrd=>Qu rfl rfl rfl rfl rfl rfl)) rfl ?_) | (guard_hyp d:Nt 10;refine DR.s (Qt.no rfl rfl rfl rfl) rfl rfl ?_;refine DR.s (Qt.no rfl rfl rfl rfl) rfl rfl ?_) | (guard_hyp d:Nt 11;refine zx (Qt.grdT rfl rfl rfl (.hit (.hit .stop)) (fun hgrd=>Kb rfl rfl rfl rfl)) rfl ?_) | (guard_hyp d:Nt 12;refine zx (Qt.grdF rfl rfl rfl (.hit (.hit .stop)) (fun hgrd=>Zz rfl rfl rfl rfl)) rfl ?_)) | (guard_hyp a:Nt 21; first | (guard_hyp d:Nt 0;refine zx (Qt.grdF rfl rfl rfl (.hit (.hit (.hit .stop))) (fun hgrd=>Kb rfl rfl rfl rfl)) rfl ?_) | (guard_hyp d:Nt 1;refine M1 (q_strb rfl rfl rfl (by omega)) rfl rfl ?_) | (guard_hyp d:Nt 2;refine M_appstr rfl rfl rfl rfl rfl rfl rfl (by omega) (by omega) ?_) | (guard_hyp d:Nt 3;refine z7 rfl (by omega) (z1 rfl (Qe ?_));refine Q0 ?_) | (guard_hyp d:Nt 4;refine zx (q_conv8 rfl rfl rfl rfl) rfl ?_) | (guard_hyp d:Nt 5;refine Xg u8_12 u8_13 u8_14 rfl ?_) | (guard_hyp d:Nt 6;refine Xg u8_15 u8_16 u8_17 rfl ?_) | (guard_hyp d:Nt 7;refine zx (Qt.grdF rfl rfl rfl (.hit (.hit .stop)) (fun hgrd=>Qu rfl rfl rfl rfl rfl rfl)) rfl ?_) | (guard_hyp d:Nt 8;refine zx (Qt.grdF rfl rfl rfl (.hit (.hit (.hit (.hit .stop)))) (fun hgrd=>Qf rfl rfl rfl rfl (by decide))) rfl ?_) | (guard_hyp d:Nt 9;refine zx (Qt.grdF rfl rfl rfl (.hit (.hit (.hit (.hit .stop)))) (fun hgrd=>Qa rfl rfl rfl)) rfl ?_) | (guard_hyp d:Nt 10;refine zx (Qt.grdF rfl rfl rfl (.hit (.hit (.hit (.hit (.hit .stop))))) (fun hgrd=>Kb rfl rfl rfl rfl)) rfl ?_) | (guard_hyp d:Nt 11;refine Xg u8_23 u8_24 u8_25 rfl ?_) | (guard_hyp d:Nt 12;refine Xg u8_26 u8_27 u8_28 rfl ?_)) | (guard_hyp a:Nt 22; first | (guard_hyp d:Nt 0;refine Xg u8_23 u8_29 u8_30 rfl ?_) | (guard_hyp d:Nt 1;refine DR.s (Zr rfl rfl rfl rfl rfl) rfl rfl ?_) | (guard_hyp d:Nt 2;refine zx (Qt.grdF rfl rfl rfl (.hit (.hit (.hit (.hit .stop)))) (fun hgrd=>Qg rfl rfl rfl rfl rfl)) rfl ?_) | (guard_hyp d:Nt 3;refine zx (Qt.grdF rfl rfl rfl (.hit (.hit (.hit (.hit (.hit (.hit .stop)))))) (fun hgrd=>Kb rfl rfl rfl rfl)) rfl ?_) | (guard_hyp d:Nt 4;refine DR.s (Qt.yes rfl rfl rfl (Z8 rfl rfl rfl rfl rfl)) rfl rfl ?_) | (guard_hyp d:Nt 5;refine Q0 ?_) | (guard_hyp d:Nt 6;refine DR.s (q_cat rfl rfl rfl rfl (by omega)) rfl rfl ?_) | (guard_hyp d:Nt 7;refine F_n ?_) | (guard_hyp d:Nt 8;refine zx (Qt.grdT rfl rfl rfl (.hit (.hit .stop)) (fun hgrd=>Qa rfl rfl rfl)) rfl ?_) | (guard_hyp d:Nt 9;refine M1 (Qq rfl rfl rfl rfl) rfl rfl ?_) | (guard_hyp d:Nt 10;refine Q9 ?_;refine T_x ?_) | (guard_hyp d:Nt 11;refine Xj ?_) | (guard_hyp d:Nt 12;refine zx (Kc rfl rfl rfl rfl) rfl (zz (Ql rfl (Qh ?_)));refine Q0 ?_)) | (guard_hyp a:Nt 23; first | (guard_hyp d:Nt 0;refine Qd (zy (z2 rfl rfl rfl (z3 rfl (z2 rfl rfl rfl ?_))));refine z3 rfl ?_) | (guard_hyp d:Nt 1;refine zx (Z8 rfl rfl rfl rfl rfl) rfl ?_)))); exact Cd.e c k):G:=h ⟨⟩ ⟨k⟩ ⟨⟩ ⟨⟩

inductive T where
 |v (x:Value)
 |sl (k:Nat) (es:List (List T))
 |un

inductive RO (w:World) (F:Nat→Prop):T→Value→Prop
 |v (x:Value) (h:x.oneCell'=true):RO w F (.v x) x
 |un (x:Value) (h:x.oneCell'=true):RO w F .un x
 |nil (A:Option Addr) (k c:Nat) (hm:c≤maxLen):RO w F (.sl k []) (.slice A 0 c)
 | sl (es:List (List T)) (b o k c:Nat) (val:Nat→Nat→Value) (hF:F b) (hc:es.length≤c) (hm:c≤maxLen) (hp:0<k) (hk:∀ e∈es,e.length=k)
   (hv:∀ i j,i<es.length→j<k→w.cell? ⟨b,o+i*k+j,none⟩=some (val i j))
   (ht:∀ (i j:Nat) (e:List T) (t:T),es[i]? = some e→e[j]? = some t→RO w F t (val i j)):RO w F (.sl k es) (.slice (some ⟨b,o,none⟩) es.length c)

theorem Yu {α:Type} {l:List α} {i:Nat} {x:α} (h:l[i]? = some x):i<l.length:=(Gqo.1 h).1
theorem Yv {α:Type} {l:List α} {i:Nat} {x:α} (h:l[i]? = some x):x∈l:=Gqm h

theorem RO.one {w:World} {F:Nat→Prop} {x:T} {v:Value} (h:RO w F x v):v.oneCell'=true:=by
 cases h with
 |v _ h=>exact h
 |un _ h=>exact h
 |nil=>rfl
 |sl=>rfl

theorem RO.move {w w':World} {F G:Nat→Prop} {x:T} {v:Value} (h:RO w F x v) (hf:∀ b,F b→b<w.heap.size→G b∧w'.heap[b]? = w.heap[b]?):RO w' G x v:=by
 induction h with
 |v x h=>exact .v x h
 |un x h=>exact .un x h
 |nil A k c hm=>exact .nil A k c hm
 | sl es b o k c val hF hc hm hp hk hv ht ih =>
  cases es with
  |nil=>exact .nil _ _ _ hm
  |cons e0 es =>
   have hb:b<w.heap.size:=World.block_lt_of_cell? w _ (hv 0 0 Aqd hp)
   obtain⟨hG,he⟩:=hf b hF hb
   exact .sl _ b o k c val hG hc hm hp hk (fun i j hi hj=>(World.cell?_of_block (w:=w) (a:=⟨b,o+i*k+j,none⟩) he).trans (hv i j hi hj)) fun i j e t h1 h2=>ih i j e t h1 h2

theorem RO.weak {w:World} {F G:Nat→Prop} {x:T} {v:Value} (h:RO w F x v) (hf:∀ b,F b→b<w.heap.size→G b):RO w G x v:=h.move fun b h1 h2=>⟨hf b h1 h2,rfl⟩

theorem RO.at_ {w:World} {F:Nat→Prop} {k:Nat} {es:List (List T)} {v:Value} (h:RO w F (.sl k es) v) {i:Nat} {e:List T} (hi:es[i]? = some e) :
  ∃ b o c,v = .slice (some ⟨b,o,none⟩) es.length c∧F b∧0<k∧e.length=k∧∀ (j:Nat) (t:T),e[j]? = some t→∃ u,w.cell? ⟨b,o+i*k+j,none⟩=some u∧RO w F t u:=by
 cases h with
 |nil=>simp at hi
 |sl _ b o _ c val hF hc hm hp hk hv ht =>
  have hl:=hk e (Yv hi)
  exact⟨b,o,c,J,hF,hp,hl,fun j t hj=>⟨_,hv i j (Yu hi) (by rw[←hl]; exact Yu hj),ht i j e t hi hj⟩⟩

theorem RO.form {w:World} {F:Nat→Prop} {k:Nat} {es:List (List T)} {v:Value} (h:RO w F (.sl k es) v):∃ A c,v = .slice A es.length c∧es.length≤c∧c≤maxLen:=by
 cases h with
 |nil A k c hm=>exact⟨A,c,rfl,Nat.zero_le _,hm⟩
 |sl _ b o _ c val hF hc hm=>exact⟨_,c,rfl,hc,hm⟩

theorem RO.plain {w:World} {F:Nat→Prop} {x v:Value} (h:RO w F (.v x) v):v=x∧x.oneCell'=true:=by
 cases h with
 |v _ h=>exact⟨rfl,h⟩

/-! ### Owned -/
inductive OW (w:World):T→Value→List Nat→Prop
 |v (x:Value) (h:x.oneCell'=true):OW w (.v x) x []
 |un (x:Value) (h:x.oneCell'=true):OW w .un x []
 |nil (k:Nat):OW w (.sl k []) (.slice none 0 0) []
 | sl (es:List (List T)) (b o k c:Nat) (tid:TypeId) (cur:Array Value) (fz:Nat×Nat) (val:Nat→Nat→Value) (fps:List (List (List Nat))) (hg:w.heap[b]? = some (.cells cur tid fz)) (hz:fz=(0,0)∨cur.size≤fz.1)
   (hc:es.length≤c) (hm:c≤maxLen) (hs:o+c*k≤cur.size) (hp:0<k) (hk:∀ e∈es,e.length=k) (hf:fps.length=es.length) (hfk:∀ f∈fps,f.length=k)
   (hv:∀ i j,i<es.length→j<k→cur[o+i*k+j]? = some (val i j))
   (ht:∀ (i j:Nat) (e:List T) (t:T) (fs:List (List Nat)) (f:List Nat),es[i]? = some e→e[j]? = some t→fps[i]? = some fs→fs[j]? = some f→OW w t (val i j) f) :
   OW w (.sl k es) (.slice (some ⟨b,o,none⟩) es.length c) (b::fps.flatten.flatten)

theorem mem_ff {α:Type} {fps:List (List (List α))} {i j:Nat} {fs:List (List α)} {f:List α} (h1:fps[i]? = some fs) (h2:fs[j]? = some f) {b:α} (hb:b∈f):b∈fps.flatten.flatten :=
 Gxe.2 ⟨f,Gxe.2 ⟨fs,Yv h1,Yv h2⟩,hb⟩

theorem OW.one {w:World} {x:T} {v:Value} {fp:List Nat} (h:OW w x v fp):v.oneCell'=true:=by
 cases h with
 |v _ h=>exact h
 |un _ h=>exact h
 |nil=>rfl
 |sl=>rfl

theorem OW.frame {w w':World} {x:T} {v:Value} {fp:List Nat} (h:OW w x v fp) (hf:∀ b∈fp,w'.heap[b]? = w.heap[b]?):OW w' x v fp:=by
 induction h with
 |v x h=>exact .v x h
 |un x h=>exact .un x h
 |nil k=>exact .nil k
 |sl es b o k c tid cur fz val fps hg hz hc hm hs hp hk hl hfk hv ht ih =>
  exact .sl es b o k c tid cur fz val fps ((hf b Aqd).trans hg) hz hc hm hs hp hk hl hfk hv fun i j e t fs f h1 h2 h3 h4=>ih i j e t fs f h1 h2 h3 h4 fun b' hb'=>hf b' (Gq7 _ (mem_ff h3 h4 hb'))

theorem OW.lt {w:World} {x:T} {v:Value} {fp:List Nat} (h:OW w x v fp):∀ b∈fp,b<w.heap.size:=by
 induction h with
 |v x h=>simp
 |un x h=>simp
 |nil=>simp
 | sl es b o k c tid cur fz val fps hg hz hc hm hs hp hk hl hfk hv ht ih =>
  intro b' hb'
  rcases List.mem_cons.1 hb' with rfl | hb'
  ·exact (Array.getElem?_eq_some_iff.1 hg).1
  ·obtain⟨f,hf1,hf2⟩:=Gxe.1 hb'
   obtain⟨fs,hs1,hs2⟩:=Gxe.1 hf1
   obtain⟨i,hi⟩:=List.getElem?_of_mem hs1
   obtain⟨j,hj⟩:=List.getElem?_of_mem hs2
   have h1:i<es.length:=by rw[←hl]; exact Yu hi
   have h2:j<(es[i]).length:=by rw[hk _ (Gqe h1),←hfk _ hs1]; exact Yu hj
   exact ih i j _ _ fs f (Gqf h1) (Gqf h2) hi hj b' hf2

theorem OW.ro {w:World} {x:T} {v:Value} {fp:List Nat} (h:OW w x v fp):RO w (· ∈ fp) x v:=by
 induction h with
 |v x h=>exact .v x h
 |un x h=>exact .un x h
 |nil k=>exact .nil _ _ _ (Nat.zero_le _)
 | sl es b o k c tid cur fz val fps hg hz hc hm hs hp hk hl hfk hv ht ih =>
  refine .sl es b o k c val Aqd hc hm hp hk (fun i j hi hj => ?_) fun i j e t h1 h2 => ?_
  ·rw[cell_of_row w b _ cur tid fz hg]
   simpa using hv i j hi hj
  ·have h3:i<fps.length:=by rw[hl]; exact Yu h1
   have h4:j<(fps[i]).length:=by rw[hfk _ (Gqe h3),←hk _ (Yv h1)]; exact Yu h2
   exact (ih i j e t _ _ h1 h2 (Gqf h3) (Gqf h4)).weak fun b' hb' _=>Gq7 _ (mem_ff (Gqf h3) (Gqf h4) hb')
end
section
open Go.RowKit

inductive Pc where
 |nil
 |box (g:Nat) (t:TypeId) (vs:List Value)
 |ow (x:T) (v:Value) (fp:List Nat)
 |gh (i:Nat) (v:Value)
 |lk (v:Value)
def Pc.fp:Pc→List Nat
 | .nil => []
 | .box g _ _ => [g]
 | .ow _ _ fp=>fp
 | .gh _ _ => []
 | .lk _ => []
def Pc.says (w:World):Pc→Prop
 | .nil=>True
 | .box g t vs=>w.heap[g]? = some (.cells vs.toArray t (0,0))
 | .ow x v fp=>OW w x v fp
 | .gh _ _=>True
 | .lk _=>True
theorem Pc.frame {w w':World} {p:Pc} (hf:∀ b∈p.fp,w'.heap[b]? = w.heap[b]?) (h:p.says w):p.says w':=by
 cases p with
 |nil=>trivial
 |box g t vs=>exact (hf g (by simp[Pc.fp])).trans h
 |ow x v fp=>exact OW.frame h hf
 |gh i v=>trivial
 |lk v=>trivial
theorem Pc.lt {w:World} {p:Pc} (h:p.says w):∀ b∈p.fp,b<w.heap.size:=by
 cases p with
 |nil=>intro b hb; simp[Pc.fp] at hb
 |box g t vs =>
  intro b hb
  simp only[Pc.fp,Gxj] at hb
  subst hb
  exact (Array.getElem?_eq_some_iff.1 h).1
 |ow x v fp=>exact OW.lt h
 |gh i v=>intro b hb; simp[Pc.fp] at hb
 |lk v=>intro b hb; simp[Pc.fp] at hb

def Pc.ng:Pc→Prop
 | .gh _ _=>False
 |_=>True
abbrev Hs:=Nat→Pc
def Hs.put (H:Hs) (p:Nat) (h:Pc):Hs:=fun q=>if q=p then h else H q
theorem Hs.put_self (H:Hs) (p:Nat) (h:Pc):H.put p h p=h:=by simp[Hs.put]
theorem Hs.put_ne (H:Hs) {p q:Nat} (h:Pc) (hn:q≠p):H.put p h q=H q:=by simp[Hs.put,hn]

structure Ok (w:World) (H:Hs) (F:Nat→Prop):Prop where
 says:∀ p,(H p).says w
 nodup:∀ p,(H p).fp.Nodup
 disj:∀ p q b,b∈(H p).fp→b∈(H q).fp→p=q
 free:∀ p b,b∈(H p).fp→¬F b
 flt:∀ b,F b→b<w.heap.size
theorem Ok.lt {w:World} {H:Hs} {F:Nat→Prop} (h:Ok w H F) {p b:Nat} (hb:b∈(H p).fp):b<w.heap.size:=Pc.lt (h.says p) b hb

def inP (H:Hs) (F:Nat→Prop) (ps:List Nat) (b:Nat):Prop:=F b∨∃ p∈ps,∃ x v fp,H p = .ow x v fp∧b∈fp

inductive V1 where
 |rd (ps:List Nat) (x:T)
 |ref (p:Nat)
 |ptr (p i:Nat)
 |sb (p n k:Nat)
 |el (p k i j:Nat)
 |rp (ps:List Nat) (xs:List T)
 |le (p k i j:Nat)
 |hd (p n:Nat)
 |tl (p k n:Nat)
 |un
inductive V2 where
 |c (x:V1)
 |ag (xs:List V1)
inductive V where
 |o (x:V2)
 |tu (xs:List V2)
 |iff (cs:List Bool) (x:V2)
inductive Ob where
 |gone
 |hole
 |box (cs:List V1)
 |row (k:Nat) (es:List (List T))
 |gh (i:Nat) (x:V2)
 |lk (x y:V1)
structure St where
 n:Nat
 tmps:List (Nat×V)
 objs:List Ob
@[reducible] def U:V := .o (.c .un)
def look:List (Nat×V)→Nat→V
 | [],_=>U
 |e::l,d=>match Nat.beq e.1 d with
  |true=>e.2
  |false=>look l d

section
variable (w:World) (H:Hs) (F:Nat→Prop)
def R1:V1→Value→Prop
 | .rd ps x,v=>RO w (inP H F ps) x v
 | .ref p,v=>∃ x fp,H p = .ow x v fp
 | .ptr p i,v=>∃ g t vs,H p = .box g t vs∧v = .pointer (some ⟨g,i,none⟩)
 | .sb p n k,v=>∃ g t vs,H p = .box g t vs∧vs.length=n*k∧n≤maxLen∧v = .slice (some ⟨g,0,none⟩) n n
 | .el p k i j,v=>∃ b o n c x fp,H p = .ow x (.slice (some ⟨b,o,none⟩) n c) fp∧v = .pointer (some ⟨b,o+i*k+j,none⟩)
 | .rp ps xs,v=>∃ b o,v = .pointer (some ⟨b,o,none⟩)∧inP H F ps b∧∀ (j:Nat) (t:T),xs[j]? = some t→∃ u,w.cell? ⟨b,o+j,none⟩=some u∧RO w (inP H F ps) t u
 | .le p k i j,v=>∃ b o n c x fp,H p = .ow x (.slice (some ⟨b,o,none⟩) n c) fp∧b∈fp∧v.oneCell'=true∧w.cell? ⟨b,o+i*k+j,none⟩=some v
 | .hd p n,v=>∃ A m c x fp,H p = .ow x (.slice A m c) fp∧v = .slice A n c
 | .tl p k n,v=>∃ A A' m c x fp,H p = .ow x (.slice A m c) fp∧v = .slice A' (m-n) (c-n)∧(n<m→A'=A.map (·.add (n*k)))
 | .un,_=>True
def R2:V2→Value→Prop
 | .c x,v=>R1 w H F x v
 | .ag xs,v=>∃ us:List Value,v = .agg us.toArray∧us.length=xs.length∧∀ (i:Nat) (x:V1) (u:Value),xs[i]? = some x→us[i]? = some u→R1 w H F x u
def RV:V→Value→Prop
 | .o x,v=>R2 w H F x v
 | .tu xs,v=>∃ us:List Value,v = .tuple us.toArray∧us.length=xs.length∧∀ (i:Nat) (x:V2) (u:Value),xs[i]? = some x→us[i]? = some u→R2 w H F x u
 | .iff cs x,v=>((∀ c∈cs,c=true)→R2 w H F x v)∧(∀ c∈cs,c=false→v=undef)
def RB (p:Nat):Ob→Prop
 | .gone=>H p = .nil
 | .hole=>True
 | .box cs=>∃ g t vs,H p = .box g t vs∧vs.length=cs.length∧∀ (i:Nat) (c:V1) (u:Value),cs[i]? = some c→vs[i]? = some u→R1 w H F c u∧u.oneCell'=true
 | .row k es=>∃ v fp,H p = .ow (.sl k es) v fp
 | .gh i x=>∃ v,H p = .gh i v∧R2 w H F x v
 | .lk x y=>∃ v,H p = .lk v∧R1 w H F x v∧R1 w H F y v
structure R0 (st:St) (a:Act):Prop where
 ok:Ok w H F
 obs:∀ p,RB w H F p (st.objs.getD p .gone)
 tmp:∀ d:Nat,RV w H F (look st.tmps d) (a.tmps.getD d undef)
 size:st.n=a.tmps.size
 defers:a.defers = []
end

structure Grow (w:World) (H:Hs) (F:Nat→Prop) (w':World) (H':Hs) (F':Nat→Prop):Prop where
 below:Below w.heap.size w w'
 keep:∀ p,H p ≠ .nil→H' p=H p
 fF:∀ b,F b→F' b
 fF':∀ b,F' b→F b∨w.heap.size≤b
 new:∀ p,H p = .nil→∀ b∈(H' p).fp,w.heap.size≤b
 gh:∀ p i v,H' p = .gh i v→∃ q,H q = .gh i v

section
variable {w w' w'':World} {H H' H'':Hs} {F F' F'':Nat→Prop}

theorem Grow.refl (w:World) (H:Hs) (F:Nat→Prop):Grow w H F w H F :=
 ⟨Below.refl _ _,fun _ _=>rfl,fun _ h=>h,fun _ h => .inl h,fun p hp b hb=>by rw[hp] at hb; simp[Pc.fp] at hb,fun p i v h=>⟨p,h⟩⟩
theorem Grow.trans (g:Grow w H F w' H' F') (k:Grow w' H' F' w'' H'' F''):Grow w H F w'' H'' F'':=by
 refine⟨g.below.trans (k.below.mono g.below.size),fun p hp => ?_,fun b h=>k.fF b (g.fF b h),fun b h => ?_,fun p hp b hb => ?_,fun p i v h=>by obtain⟨q,hq⟩:=k.gh p i v h; exact g.gh q i v hq⟩
 ·rw[k.keep p (by rw[g.keep p hp]; exact hp),g.keep p hp]
 ·rcases k.fF' b h with h | h
  ·exact g.fF' b h
  ·exact .inr (Nat.le_trans g.below.size h)
 ·by_cases h':H' p = .nil
  ·exact Nat.le_trans g.below.size (k.new p h' b hb)
  ·rw[k.keep p h'] at hb
   exact g.new p hp b hb

theorem Grow.inP (g:Grow w H F w' H' F') {ps:List Nat} {b:Nat} (h:inP H F ps b):inP H' F' ps b:=by
 rcases h with h | ⟨p,hp,x,v,fp,e,hb⟩
 ·exact .inl (g.fF b h)
 ·exact .inr ⟨p,hp,x,v,fp,by rw[g.keep p (by rw[e]; simp),e],hb⟩
theorem Grow.ro (g:Grow w H F w' H' F') {ps:List Nat} {x:T} {v:Value} (h:RO w (Go.Proofs.YtfklmiijhcajdaaGreat.inP H F ps) x v):RO w' (Go.Proofs.YtfklmiijhcajdaaGreat.inP H' F' ps) x v :=
 h.move fun b hb hlt=>⟨g.inP hb,g.below.block b hlt⟩
theorem Grow.r1 (g:Grow w H F w' H' F') {x:V1} {v:Value} (h:R1 w H F x v):R1 w' H' F' x v:=by
 cases x with
 |rd ps x=>exact g.ro h
 |ref p=>obtain⟨x,fp,e⟩:=h; exact⟨x,fp,by rw[g.keep p (by rw[e]; simp),e]⟩
 |ptr p i=>obtain⟨a,t,vs,e,hv⟩:=h; exact⟨a,t,vs,by rw[g.keep p (by rw[e]; simp),e],hv⟩
 |sb p n k=>obtain⟨a,t,vs,e,hv⟩:=h; exact⟨a,t,vs,by rw[g.keep p (by rw[e]; simp),e],hv⟩
 |el p k i j=>obtain⟨b,o,n,c,x,fp,e,hv⟩:=h; exact⟨b,o,n,c,x,fp,by rw[g.keep p (by rw[e]; simp),e],hv⟩
 |rp ps xs =>
  obtain⟨b,o,hv,hb,hc⟩:=h
  refine⟨b,o,hv,g.inP hb,fun j t hj => ?_⟩
  obtain⟨u,h1,h2⟩:=hc j t hj
  have hlt:=World.block_lt_of_cell? w _ h1
  exact⟨u,(World.cell?_of_block (w:=w) (a:=⟨b,o+j,none⟩) (g.below.block b hlt)).trans h1,g.ro h2⟩
 |le p k i j =>
  obtain⟨b,o,n,c,x,fp,e,hb,h1,h2⟩:=h
  have hlt:=World.block_lt_of_cell? w _ h2
  exact⟨b,o,n,c,x,fp,by rw[g.keep p (by rw[e]; simp),e],hb,h1,(World.cell?_of_block (w:=w) (a:=⟨b,o+i*k+j,none⟩) (g.below.block b hlt)).trans h2⟩
 |hd p n=>obtain⟨A,m,c,x,fp,e,hv⟩:=h; exact⟨A,m,c,x,fp,by rw[g.keep p (by rw[e]; simp),e],hv⟩
 |tl p k n=>obtain⟨A,A',m,c,x,fp,e,hv⟩:=h; exact⟨A,A',m,c,x,fp,by rw[g.keep p (by rw[e]; simp),e],hv⟩
 |un=>trivial
theorem Grow.r2 (g:Grow w H F w' H' F') {x:V2} {v:Value} (h:R2 w H F x v):R2 w' H' F' x v:=by
 cases x with
 |c x=>exact g.r1 h
 |ag xs=>obtain⟨us,e,hl,hr⟩:=h; exact⟨us,e,hl,fun i x u h1 h2=>g.r1 (hr i x u h1 h2)⟩
theorem Grow.rv (g:Grow w H F w' H' F') {x:V} {v:Value} (h:RV w H F x v):RV w' H' F' x v:=by
 cases x with
 |o x=>exact g.r2 h
 |tu xs=>obtain⟨us,e,hl,hr⟩:=h; exact⟨us,e,hl,fun i x u h1 h2=>g.r2 (hr i x u h1 h2)⟩
 |iff cs x=>exact⟨fun hc=>g.r2 (h.1 hc),h.2⟩
theorem Grow.rb (g:Grow w H F w' H' F') {p:Nat} {ob:Ob} (hn:H p ≠ .nil) (h:RB w H F p ob):RB w' H' F' p ob:=by
 cases ob with
 |gone=>exact absurd h hn
 |hole=>trivial
 |box cs=>obtain⟨a,t,vs,e,hl,hr⟩:=h; exact⟨a,t,vs,by rw[g.keep p hn,e],hl,fun i c u h1 h2=>⟨g.r1 (hr i c u h1 h2).1,(hr i c u h1 h2).2⟩⟩
 |row k es=>obtain⟨v,fp,e⟩:=h; exact⟨v,fp,by rw[g.keep p hn,e]⟩
 |gh i x=>obtain⟨v,e,hr⟩:=h; exact⟨v,by rw[g.keep p hn,e],g.r2 hr⟩
 |lk x y=>obtain⟨v,e,h1,h2⟩:=h; exact⟨v,by rw[g.keep p hn,e],g.r1 h1,g.r1 h2⟩
theorem R1.one {x:V1} {v:Value} (hx:x ≠ .un) (hok:Ok w H F) (h:R1 w H F x v):v.oneCell'=true:=by
 cases x with
 |rd ps x=>exact RO.one h
 |ref p =>
  obtain⟨x,fp,e⟩:=h
  have:=hok.says p
  rw[e] at this
  exact OW.one this
 |ptr p i=>obtain⟨a,t,vs,e,rfl⟩:=h; rfl
 |sb p n k=>obtain⟨a,t,vs,e,_,_,rfl⟩:=h; rfl
 |el p k i j=>obtain⟨b,o,n,c,x,fp,e,rfl⟩:=h; rfl
 |rp ps xs=>obtain⟨b,o,rfl,_⟩:=h; rfl
 |le p k i j=>obtain⟨b,o,n,c,x,fp,e,_,h1,_⟩:=h; exact h1
 |hd p n=>obtain⟨A,m,c,x,fp,e,rfl⟩:=h; rfl
 |tl p k n=>obtain⟨A,A',m,c,x,fp,e,rfl,_⟩:=h; rfl
 |un=>exact absurd rfl hx
end

structure Env where
 w:World
 H:Hs
 F:Nat→Prop

structure Since (E:Env) (w:World) (H:Hs) (F:Nat→Prop):Prop where
 os:w.os=E.w.os
 tape:w.tape=E.w.tape
 output:w.output=E.w.output
 size:E.w.heap.size≤w.heap.size
 keep:∀ b,b<E.w.heap.size→(∀ p,b∉(E.H p).fp)→w.heap[b]? = E.w.heap[b]?
 fF:∀ b,E.F b→F b
 fF':∀ b,F b→E.F b∨E.w.heap.size≤b
 org:∀ p b,b∈(H p).fp→(∃ q,b∈(E.H q).fp)∨E.w.heap.size≤b
 gh:∀ p i v,H p = .gh i v→∃ q,E.H q = .gh i v

theorem Since.refl (w:World) (H:Hs) (F:Nat→Prop):Since ⟨w,H,F⟩ w H F:=⟨rfl,rfl,rfl,Gqk _,fun _ _ _=>rfl,fun _ h=>h,fun _ h => .inl h,fun p _ hb => .inl ⟨p,hb⟩,fun p _ _ h=>⟨p,h⟩⟩
theorem Since.grow {E:Env} {w w':World} {H H':Hs} {F F':Nat→Prop} (h:Since E w H F) (g:Grow w H F w' H' F'):Since E w' H' F':=by
 refine⟨g.below.os.trans h.os,g.below.tape.trans h.tape,g.below.output.trans h.output,Nat.le_trans h.size g.below.size,fun b h1 h2=>(g.below.block b (Gxn h1 h.size)).trans (h.keep b h1 h2),fun b hb=>g.fF b (h.fF b hb),fun b hb => ?_,fun p b hb => ?_,fun p i v hp=>by obtain⟨q,hq⟩:=g.gh p i v hp; exact h.gh q i v hq⟩
 ·rcases g.fF' b hb with hb | hb
  ·exact h.fF' b hb
  ·exact .inr (Nat.le_trans h.size hb)
 ·by_cases hn:H p = .nil
  ·exact .inr (Nat.le_trans h.size (g.new p hn b hb))
  ·rw[g.keep p hn] at hb
   exact h.org p b hb

def Rel (E:Env) (st:St) (a:Act) (w:World):Prop:=∃ H F,R0 w H F st a∧Since E w H F

def Con (P:Program) (f:FuncId) (objs:List Ob) (args:List V2) (objs':List Ob) (res:V):Prop :=
 ∀ (w:World) (H:Hs) (F:Nat→Prop) (vs:List Value),Ok w H F→(∀ p,RB w H F p (objs.getD p .gone))→vs.length=args.length →
  (∀ (i:Nat) (x:V2) (v:Value),args[i]? = some x→vs[i]? = some v→R2 w H F x v) →
  Calls P f vs.toArray w fun e w'=>∃ H' F' rv,e = .returned rv∧Since ⟨w,H,F⟩ w' H' F'∧Ok w' H' F'∧(∀ p,RB w' H' F' p (objs'.getD p .gone))∧RV w' H' F' res rv

def ConAt (P:Program) (f:FuncId) (objs:List Ob) (args:List V2) (objs':List Ob) (res:V) (w:World):Prop :=
 ∀ (H:Hs) (F:Nat→Prop) (vs:List Value),Ok w H F→(∀ p,RB w H F p (objs.getD p .gone))→vs.length=args.length →
  (∀ (i:Nat) (x:V2) (v:Value),args[i]? = some x→vs[i]? = some v→R2 w H F x v) →
  Calls P f vs.toArray w fun e w'=>∃ H' F' rv,e = .returned rv∧Since ⟨w,H,F⟩ w' H' F'∧Ok w' H' F'∧(∀ p,RB w' H' F' p (objs'.getD p .gone))∧RV w' H' F' res rv

structure AWP (P:Program) (E:Env) (c:Code) (Q:Exit→St→Prop) (st:St):Prop where
 mk' ::
 h:∀ a w,Rel E st a w→c.wp P (fun e a' w'=>∃ st',Q e st'∧Rel E st' a' w') a w
end
end Go.Proofs.YtfklmiijhcajdaaGreat
