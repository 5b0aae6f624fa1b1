/-
  Rules, data and contracts of functions: part 7 of the proof.
  Conditions: those that each theorem names.
-/
import Derived.Test.YtfklmiijhcajdaaGreatDDTellRowk5
set_option linter.unusedSimpArgs false
set_option linter.unusedVariables false
namespace Go.Proofs.YtfklmiijhcajdaaGreat
section
open Go.RowKit

section
variable {P:Program} {E:Env} {ops:Array Oper} {o:Oper} {n:Nat} {ts:List (Nat×V)} {obs:List Ob} {rest:List Oper} {Q:Exit→St→Prop} {d:Nat} {fn:Func} {objs':List Ob} {res x:V} {st:St}

theorem F_r (h:Ends P fn objs' res st):Fin P fn objs' res .ret st:=⟨h⟩
theorem F_n (h:Ends P fn objs' res st):Fin P fn objs' res .normal st:=⟨h⟩

theorem M0 (hq:Qt P ops o ⟨n,ts,obs⟩ x [] obs.length) (hd:o.dst=some d) (hl:Nat.blt d n=true) (h:AL P E ops Q rest ⟨n,(d,x)::ts,obs⟩):AL P E ops Q (o::rest) ⟨n,ts,obs⟩ :=
 L_q0 hq (by rw[hd]; exact hl) (by rw[hd]; exact h)
theorem M1 {obs1:List Ob} (hq:Qt P ops o ⟨n,ts,obs⟩ x obs1 obs.length) (hd:o.dst=some d) (hl:Nat.blt d n=true) (h:AL P E ops Q rest ⟨n,(d,x)::ts,obs++obs1⟩):AL P E ops Q (o::rest) ⟨n,ts,obs⟩ :=
 L_q hq (by rw[hd]; exact hl) (by rw[hd]; exact h)
theorem Qi {j e:Nat} {b:Bool} {ps:List Nat} (hg:o.guard=some (j,b)) (hj:(ops[j]?).bind (·.dst)=some e) (hy:look ts e = .o (.c (.rd ps (.v (.bool b)))))
  (h:AL P E ops Q (⟨o.dst,o.op,o.type,o.pos,o.after,none⟩::rest) ⟨n,ts,obs⟩):AL P E ops Q (o::rest) ⟨n,ts,obs⟩:=L_yes hg hj hy h
theorem Qp {j e:Nat} {b y:Bool} {ps:List Nat} (hg:o.guard=some (j,b)) (hj:(ops[j]?).bind (·.dst)=some e) (hy:look ts e = .o (.c (.rd ps (.v (.bool y))))) (hne:(y != b)=true) (hd:o.dst=some d) (hl:Nat.blt d n=true)
  (h:AL P E ops Q rest ⟨n,(d,NO)::ts,obs⟩):AL P E ops Q (o::rest) ⟨n,ts,obs⟩:=L_no hg hj hy hne (by rw[hd]; exact hl) (by rw[hd]; exact h)
section
variable {y z:Operand} {t t':TypeId} {k:IntKind} {i j:Int} {qs:List Nat}
theorem Q5 {p m:Nat} {cs:List V1} {c:V1} [TyOne P t] (ho:o.op = .store t y z) (hg:o.guard=none) (hd:o.dst=none) (hy:St.ev ⟨n,ts,obs⟩ y = .o (.c (.ptr p m))) (hz:St.ev ⟨n,ts,obs⟩ z = .o (.c c)) (hp:obs[p]? = some (.box cs)) (hm:Nat.blt m cs.length=true) (hk:c.known=true)
  (h:AL P E ops Q rest ⟨n,ts,obs.set p (.box (cs.set m c))⟩):AL P E ops Q (o::rest) ⟨n,ts,obs⟩:=L_st1 ho hg hd hy hz hp (Gqz hm) hk h
theorem Qy {p m n':Nat} {cs ds:List V1} [hr:TyRow P t n'] (ho:o.op = .store t y z) (hg:o.guard=none) (hd:o.dst=none) (hy:St.ev ⟨n,ts,obs⟩ y = .o (.c (.ptr p m))) (hz:St.ev ⟨n,ts,obs⟩ z = .o (.ag ds)) (hp:obs[p]? = some (.box cs)) (hl:ds.length=n') (hm:Nat.ble (m+ds.length) cs.length=true) (hk:ds.all V1.known=true)
  (h:AL P E ops Q rest ⟨n,ts,obs.set p (.box (setFrom cs m ds))⟩):AL P E ops Q (o::rest) ⟨n,ts,obs⟩:=L_stN ho hg hd hy hz hp hl (Gqz hm) hk h
theorem M_app {p kk:Nat} {es es':List (List T)} {x:V1} {e:TypeId} {zs:List Value} {by_:Nat} [hm:TyMake P t e zs by_] (ho:o.op = .call { callee := .builtin .append,args:=#[y,z],argTypes:=#[t,t] }) (hg:o.guard=none) (hy:St.ev ⟨n,ts,obs⟩ y = .o (.c (.ref p))) (hp:obs[p]? = some (.row kk es)) (hz:St.ev ⟨n,ts,obs⟩ z = .o (.c x)) (hs:srcOf obs x=some es')
  (hkz:kk=zs.length) (hz0:zs.isEmpty=false) (hd:o.dst=some d) (hl:Nat.blt d n=true) (hpl:plainT es') (hkk:∀ e∈es',e.length=kk) (hb:(es.length+es'.length)*by_≤140737488355328) (h63:es.length+es'.length≤9223372036854775807)
  (h:AL P E ops Q rest ⟨n,(d,.o (.c (.ref p)))::(ts.map fun e=>(e.1,e.2.kill [p])),(obs.map (Ob.kill [p])).set p (.row kk (es++es'))⟩):AL P E ops Q (o::rest) ⟨n,ts,obs⟩ :=
 L_app ho hg hy hp hz hs hkz (by intro e; rw[e] at hz0; cases hz0) hpl hkk hb h63 (by rw[hd]; exact hl) (by rw[hd]; exact h)
theorem M_appnil {es':List (List T)} {x:V1} {e:TypeId} {zs:List Value} {by_:Nat} [hm:TyMake P t e zs by_] (ho:o.op = .call { callee := .builtin .append,args:=#[y,z],argTypes:=#[t,t] }) (hg:o.guard=none) (hy:St.ev ⟨n,ts,obs⟩ y = .o (.c (.rd qs (.v (.slice none 0 0))))) (hz:St.ev ⟨n,ts,obs⟩ z = .o (.c x)) (hs:srcOf obs x=some es')
  (hz0:zs.isEmpty=false) (hd:o.dst=some d) (hl:Nat.blt d n=true) (hpl:plainT es') (hkk:∀ e∈es',e.length=zs.length) (hb:es'.length*by_≤140737488355328) (h63:es'.length≤9223372036854775807)
  (h:AL P E ops Q rest ⟨n,(d,.o (.c (.ref obs.length)))::ts,obs ++ [.row zs.length es']⟩):AL P E ops Q (o::rest) ⟨n,ts,obs⟩ :=
 L_appnil ho hg hy hz hs (by intro e; rw[e] at hz0; cases hz0) hpl hkk hb h63 (by rw[hd]; exact hl) (by rw[hd]; exact h)
end

/-! ### Tests whose outcome is known -/
section
variable {y z:Operand} {t t':TypeId} {k:IntKind} {i j:Int} {ps qs:List Nat} {b:Bool} {st:St} {m:Nat}
theorem Qr (ho:o.op = .binOp .lss t y z t') (hg:o.guard=none) (hy:st.ev y = .o (.c (.rd ps (.v (.int k i))))) (hz:st.ev z = .o (.c (.rd qs (.v (.int k j))))) (hb:decide (i<j)=b):Qt P ops o st (B b) [] m:=hb▸Z9 ho hg hy hz
theorem Z6 (ho:o.op = .binOp .leq t y z t') (hg:o.guard=none) (hy:st.ev y = .o (.c (.rd ps (.v (.int k i))))) (hz:st.ev z = .o (.c (.rd qs (.v (.int k j))))) (hb:decide (i≤j)=b):Qt P ops o st (B b) [] m:=hb▸q_leq ho hg hy hz
theorem Z0 (ho:o.op = .binOp .gtr t y z t') (hg:o.guard=none) (hy:st.ev y = .o (.c (.rd ps (.v (.int k i))))) (hz:st.ev z = .o (.c (.rd qs (.v (.int k j))))) (hb:decide (j<i)=b):Qt P ops o st (B b) [] m:=hb▸Zz ho hg hy hz
theorem Zy (ho:o.op = .binOp .geq t y z t') (hg:o.guard=none) (hy:st.ev y = .o (.c (.rd ps (.v (.int k i))))) (hz:st.ev z = .o (.c (.rd qs (.v (.int k j))))) (hb:decide (j≤i)=b):Qt P ops o st (B b) [] m:=hb▸q_geq ho hg hy hz
theorem Qv (ho:o.op = .binOp .eql t y z t') (hg:o.guard=none) (hy:st.ev y = .o (.c (.rd ps (.v (.int k i))))) (hz:st.ev z = .o (.c (.rd qs (.v (.int k j))))) (hb:decide (i=j)=b):Qt P ops o st (B b) [] m:=hb▸Zu ho hg hy hz
theorem Ke {s u:ByteArray} (ho:o.op = .binOp .neq t y z t') (hg:o.guard=none) (hy:st.ev y = .o (.c (.rd ps (.v (.string s))))) (hz:st.ev z = .o (.c (.rd qs (.v (.string u))))) (hb:decide (s≠u)=b):Qt P ops o st (B b) [] m:=hb▸q_sneq ho hg hy hz
theorem Qw (ho:o.op = .binOp .neq t y z t') (hg:o.guard=none) (hy:st.ev y = .o (.c (.rd ps (.v (.int k i))))) (hz:st.ev z = .o (.c (.rd qs (.v (.int k j))))) (hb:decide (i≠j)=b):Qt P ops o st (B b) [] m:=hb▸Kb ho hg hy hz
end

/-! ### Ends -/
theorem X1 {v:V} (ρ:List Nat) (hnd:ρ.Nodup) (hl:objs'.length=ρ.length) (ho:objs'.map (Ob.ren (rho ρ obs.length))=ρ.map fun p=>obs.getD p .gone) (hv:v=res.ren (rho ρ obs.length)):∃ l,Wk ⟨1,[(0,v)],obs⟩ ⟨1,(0,res)::l,objs'⟩ :=
 ⟨[],Wk.ren (st:=⟨1,[(0,v)],obs⟩) ρ objs' [(0,res)] hnd hl ho (.cons hv .nil)⟩
end
theorem zz {P:Program} {E:Env} {ops:Array Oper} {Q:Exit→St→Prop} {K:St→Prop} {st:St} (h:K st):AL P E ops (thn K Q) [] st:=Qe (Q0 h)
theorem zy {P:Program} {E:Env} {Q:Exit→St→Prop} {st:St} {id:Nat} {l:List Oper} {y:Code} (h:AL P E l.toArray (thn (AWP P E y Q) Q) l st):AWP P E (.seq (.region id l.toArray false) y) Q st:=Qd (Qc h)
theorem zx {P:Program} {E:Env} {ops:Array Oper} {o:Oper} {n d:Nat} {ts:List (Nat×V)} {obs:List Ob} {rest:List Oper} {Q:Exit→St→Prop} {x:V} (hq:Qt P ops o ⟨n,ts,obs⟩ x [] obs.length) (h:(o.dst,Nat.blt d n)=(some d,true)) (r:AL P E ops Q rest ⟨n,(d,x)::ts,obs⟩):AL P E ops Q (o::rest) ⟨n,ts,obs⟩:=by
 simp only[Prod.mk.injEq] at h
 exact M0 hq h.1 h.2 r
section
variable {P:Program} {E:Env} {ops:Array Oper} {o:Oper} {n d p i' f off sz m j e:Nat} {ts:List (Nat×V)} {obs:List Ob} {rest:List Oper} {Q:Exit→St→Prop} {v:V1} {cs ds:List V1} {a c y z:Operand} {t t':TypeId} {k:IntKind} {i l:Int} {ps qs:List Nat} {b b':Bool} {xs:List V2} {w:V2}
theorem z0 (h:(o.op,o.guard,St.ev ⟨n,ts,obs⟩ y,o.dst,Nat.blt d n)=(.move y,none,V.o (.c (v)),some d,true)) (r:AL P E ops Q rest ⟨n,(d,V.o (.c (v)))::ts,obs⟩):AL P E ops Q (o::rest) ⟨n,ts,obs⟩:=by
 simp only[Prod.mk.injEq] at h
 exact M0 (Qa h.1 h.2.1 h.2.2.1) h.2.2.2.1 h.2.2.2.2 r
theorem z1 (h:(o.op,o.guard,St.ev ⟨n,ts,obs⟩ y,o.dst,Nat.blt d n)=(.assign y,none,V.o (.c (v)),some d,true)) (r:AL P E ops Q rest ⟨n,(d,V.o (.c (v)))::ts,obs⟩):AL P E ops Q (o::rest) ⟨n,ts,obs⟩:=by
 simp only[Prod.mk.injEq] at h
 exact M0 (Qb h.1 h.2.1 h.2.2.1) h.2.2.2.1 h.2.2.2.2 r
theorem z2 {pl:List (Nat×Nat)} [hpl:TyPl P t pl] (h:(o.op,o.guard,St.ev ⟨n,ts,obs⟩ y,o.dst,Nat.blt d n)=(.fieldAddr t y f,none,V.o (.c (.ptr p m)),some d,true)) (hf:pl[f]? = some (off,sz)) (hs:Nat.beq sz 0=false) (r:AL P E ops Q rest ⟨n,(d,V.o (.c (.ptr p (m+off))))::ts,obs⟩):AL P E ops Q (o::rest) ⟨n,ts,obs⟩:=by
 simp only[Prod.mk.injEq] at h
 exact M0 (Qf h.1 h.2.1 h.2.2.1 hf (by intro e; rw[e] at hs; cases hs)) h.2.2.2.1 h.2.2.2.2 r
theorem z3 [TyOne P t] (h:(o.op,o.guard,St.ev ⟨n,ts,obs⟩ y,obs[p]?,cs[i']?,o.dst,Nat.blt d n)=(.load t y,none,V.o (.c (.ptr p i')),some (.box cs),some v,some d,true)) (r:AL P E ops Q rest ⟨n,(d,V.o (.c (v)))::ts,obs⟩):AL P E ops Q (o::rest) ⟨n,ts,obs⟩:=by
 simp only[Prod.mk.injEq] at h
 exact M0 (Qg h.1 h.2.1 h.2.2.1 h.2.2.2.1 h.2.2.2.2.1) h.2.2.2.2.2.1 h.2.2.2.2.2.2 r
theorem z4 [TyRow P t m] (h:(o.op,o.guard,St.ev ⟨n,ts,obs⟩ y,obs[p]?,o.dst,Nat.blt d n)=(.load t y,none,V.o (.c (.ptr p i')),some (.box cs),some d,true)) (hd:(cs.drop i').take m=ds) (hl:ds.length=m) (r:AL P E ops Q rest ⟨n,(d,V.o (.ag ds))::ts,obs⟩):AL P E ops Q (o::rest) ⟨n,ts,obs⟩:=by
 simp only[Prod.mk.injEq] at h
 exact M0 (Qu h.1 h.2.1 h.2.2.1 h.2.2.2.1 hd hl) h.2.2.2.2.1 h.2.2.2.2.2 r
theorem z5 (h:(o.guard,(ops[j]?).bind (·.dst),look ts e)=(some (j,b),some e,V.o (.c (.rd ps (.v (.bool b)))))) (r:AL P E ops Q (⟨o.dst,o.op,o.type,o.pos,o.after,none⟩::rest) ⟨n,ts,obs⟩):AL P E ops Q (o::rest) ⟨n,ts,obs⟩:=by
 simp only[Prod.mk.injEq] at h
 exact Qi h.1 h.2.1 h.2.2 r
theorem z6 (h:(o.guard,(ops[j]?).bind (·.dst),look ts e,(b' != b),o.dst,Nat.blt d n)=(some (j,b),some e,V.o (.c (.rd ps (.v (.bool b')))),true,some d,true)) (r:AL P E ops Q rest ⟨n,(d,NO)::ts,obs⟩):AL P E ops Q (o::rest) ⟨n,ts,obs⟩:=by
 simp only[Prod.mk.injEq] at h
 exact Qp h.1 h.2.1 h.2.2.1 h.2.2.2.1 h.2.2.2.2.1 h.2.2.2.2.2 r
theorem z7 (h:(o.op,o.guard,St.ev ⟨n,ts,obs⟩ y,St.ev ⟨n,ts,obs⟩ z,o.dst,Nat.blt d n)=(.binOp .add t y z t',none,V.o (.c (.rd ps (.v (.int .i64 i)))),V.o (.c (.rd qs (.v (.int .i64 l)))),some d,true)) (hb : -9223372036854775808≤i+l∧i+l≤9223372036854775807) (r:AL P E ops Q rest ⟨n,(d,I (i+l))::ts,obs⟩):AL P E ops Q (o::rest) ⟨n,ts,obs⟩:=by
 simp only[Prod.mk.injEq] at h
 exact M0 (Qs h.1 h.2.1 h.2.2.1 h.2.2.2.1 hb) h.2.2.2.2.1 h.2.2.2.2.2 r
theorem z8 (h:(o.op,o.guard,St.ev ⟨n,ts,obs⟩ y,St.ev ⟨n,ts,obs⟩ z,o.dst,Nat.blt d n)=(.binOp .sub t y z t',none,V.o (.c (.rd ps (.v (.int .i64 i)))),V.o (.c (.rd qs (.v (.int .i64 l)))),some d,true)) (hb : -9223372036854775808≤i-l∧i-l≤9223372036854775807) (r:AL P E ops Q rest ⟨n,(d,I (i-l))::ts,obs⟩):AL P E ops Q (o::rest) ⟨n,ts,obs⟩:=by
 simp only[Prod.mk.injEq] at h
 exact M0 (Xc h.1 h.2.1 h.2.2.1 h.2.2.2.1 hb) h.2.2.2.2.1 h.2.2.2.2.2 r
theorem z9a (h:(o.op,o.guard,St.ev ⟨n,ts,obs⟩ y,St.ev ⟨n,ts,obs⟩ z,o.dst,Nat.blt d n)=(.binOp .lss t y z t',none,V.o (.c (.rd ps (.v (.int k i)))),V.o (.c (.rd qs (.v (.int k l)))),some d,true)) (hb:decide (i<l)=b) (r:AL P E ops Q rest ⟨n,(d,B b)::ts,obs⟩):AL P E ops Q (o::rest) ⟨n,ts,obs⟩:=by
 simp only[Prod.mk.injEq] at h
 exact M0 (Qr h.1 h.2.1 h.2.2.1 h.2.2.2.1 hb) h.2.2.2.2.1 h.2.2.2.2.2 r
theorem z9b (h:(o.op,o.guard,St.ev ⟨n,ts,obs⟩ y,St.ev ⟨n,ts,obs⟩ z,o.dst,Nat.blt d n)=(.binOp .leq t y z t',none,V.o (.c (.rd ps (.v (.int k i)))),V.o (.c (.rd qs (.v (.int k l)))),some d,true)) (hb:decide (i≤l)=b) (r:AL P E ops Q rest ⟨n,(d,B b)::ts,obs⟩):AL P E ops Q (o::rest) ⟨n,ts,obs⟩:=by
 simp only[Prod.mk.injEq] at h
 exact M0 (Z6 h.1 h.2.1 h.2.2.1 h.2.2.2.1 hb) h.2.2.2.2.1 h.2.2.2.2.2 r
theorem z9c (h:(o.op,o.guard,St.ev ⟨n,ts,obs⟩ y,St.ev ⟨n,ts,obs⟩ z,o.dst,Nat.blt d n)=(.binOp .gtr t y z t',none,V.o (.c (.rd ps (.v (.int k i)))),V.o (.c (.rd qs (.v (.int k l)))),some d,true)) (hb:decide (l<i)=b) (r:AL P E ops Q rest ⟨n,(d,B b)::ts,obs⟩):AL P E ops Q (o::rest) ⟨n,ts,obs⟩:=by
 simp only[Prod.mk.injEq] at h
 exact M0 (Z0 h.1 h.2.1 h.2.2.1 h.2.2.2.1 hb) h.2.2.2.2.1 h.2.2.2.2.2 r
theorem z9d (h:(o.op,o.guard,St.ev ⟨n,ts,obs⟩ y,St.ev ⟨n,ts,obs⟩ z,o.dst,Nat.blt d n)=(.binOp .geq t y z t',none,V.o (.c (.rd ps (.v (.int k i)))),V.o (.c (.rd qs (.v (.int k l)))),some d,true)) (hb:decide (l≤i)=b) (r:AL P E ops Q rest ⟨n,(d,B b)::ts,obs⟩):AL P E ops Q (o::rest) ⟨n,ts,obs⟩:=by
 simp only[Prod.mk.injEq] at h
 exact M0 (Zy h.1 h.2.1 h.2.2.1 h.2.2.2.1 hb) h.2.2.2.2.1 h.2.2.2.2.2 r
theorem z9e (h:(o.op,o.guard,St.ev ⟨n,ts,obs⟩ y,St.ev ⟨n,ts,obs⟩ z,o.dst,Nat.blt d n)=(.binOp .eql t y z t',none,V.o (.c (.rd ps (.v (.int k i)))),V.o (.c (.rd qs (.v (.int k l)))),some d,true)) (hb:decide (i=l)=b) (r:AL P E ops Q rest ⟨n,(d,B b)::ts,obs⟩):AL P E ops Q (o::rest) ⟨n,ts,obs⟩:=by
 simp only[Prod.mk.injEq] at h
 exact M0 (Qv h.1 h.2.1 h.2.2.1 h.2.2.2.1 hb) h.2.2.2.2.1 h.2.2.2.2.2 r
theorem z9f (h:(o.op,o.guard,St.ev ⟨n,ts,obs⟩ y,St.ev ⟨n,ts,obs⟩ z,o.dst,Nat.blt d n)=(.binOp .neq t y z t',none,V.o (.c (.rd ps (.v (.int k i)))),V.o (.c (.rd qs (.v (.int k l)))),some d,true)) (hb:decide (i≠l)=b) (r:AL P E ops Q rest ⟨n,(d,B b)::ts,obs⟩):AL P E ops Q (o::rest) ⟨n,ts,obs⟩:=by
 simp only[Prod.mk.injEq] at h
 exact M0 (Qw h.1 h.2.1 h.2.2.1 h.2.2.2.1 hb) h.2.2.2.2.1 h.2.2.2.2.2 r
theorem zpT (h:(o.op,o.guard,St.ev ⟨n,ts,obs⟩ c,St.ev ⟨n,ts,obs⟩ y,o.dst,Nat.blt d n)=(.pick c y z,none,V.o (.c (.rd ps (.v (.bool true)))),V.o (.c (v)),some d,true)) (r:AL P E ops Q rest ⟨n,(d,V.o (.c (v)))::ts,obs⟩):AL P E ops Q (o::rest) ⟨n,ts,obs⟩:=by
 simp only[Prod.mk.injEq] at h
 exact M0 (Qo h.1 h.2.1 h.2.2.1 h.2.2.2.1) h.2.2.2.2.1 h.2.2.2.2.2 r
theorem zpF (h:(o.op,o.guard,St.ev ⟨n,ts,obs⟩ c,St.ev ⟨n,ts,obs⟩ z,o.dst,Nat.blt d n)=(.pick c y z,none,V.o (.c (.rd ps (.v (.bool false)))),V.o (.c (v)),some d,true)) (r:AL P E ops Q rest ⟨n,(d,V.o (.c (v)))::ts,obs⟩):AL P E ops Q (o::rest) ⟨n,ts,obs⟩:=by
 simp only[Prod.mk.injEq] at h
 exact M0 (Qn h.1 h.2.1 h.2.2.1 h.2.2.2.1) h.2.2.2.2.1 h.2.2.2.2.2 r
theorem zn (h:(o.op,o.guard,St.ev ⟨n,ts,obs⟩ y,o.dst,Nat.blt d n)=(.unOp .not t y,none,V.o (.c (.rd ps (.v (.bool b)))),some d,true)) (r:AL P E ops Q rest ⟨n,(d,B (!b))::ts,obs⟩):AL P E ops Q (o::rest) ⟨n,ts,obs⟩:=by
 simp only[Prod.mk.injEq] at h
 exact M0 (Q4 h.1 h.2.1 h.2.2.1) h.2.2.2.1 h.2.2.2.2 r
theorem ze (h:(o.op,o.guard,St.ev ⟨n,ts,obs⟩ y,xs[i']?,o.dst,Nat.blt d n)=(Op.extract y i',none,.tu xs,some w,some d,true)) (r:AL P E ops Q rest ⟨n,(d,V.o w)::ts,obs⟩):AL P E ops Q (o::rest) ⟨n,ts,obs⟩:=by
 simp only[Prod.mk.injEq] at h
 exact M0 (Zv h.1 h.2.1 h.2.2.1 h.2.2.2.1) h.2.2.2.2.1 h.2.2.2.2.2 r
end
end
section
open Go.RowKit

class NP (Q:Exit→St→Prop):Prop where
 no:∀ c st,¬Q (.panic c) st
instance {K:St→Prop} {Q:Exit→St→Prop} [h:NP Q]:NP (thn K Q):=⟨fun c st hq=>h.no c st hq.h⟩
instance {id:Nat} {Q:Exit→St→Prop} [h:NP Q]:NP (blk id Q):=⟨fun c st hq=>h.no c st hq.h⟩
instance {P:Program} {fn:Func} {objs':List Ob} {res:V}:NP (Fin P fn objs' res):=⟨fun c st hq=>hq.h⟩

def offd (d:Nat):Operand→Bool
 | .tmp t => !Nat.beq t d
 |_=>true
def blindC (d:Nat):Callee→Bool
 | .builtin _=>true
 | .value f=>offd d f
 |_=>false
def blindO (d:Nat):Op→Bool
 | .move x=>offd d x
 | .assign x=>offd d x
 | .pick c x y=>offd d c&&offd d x&&offd d y
 | .alloc _=>true
 | .box _ x=>offd d x
 | .buildSlice _ _ ps=>ps.toList.all fun p=>offd d p.2
 | .load _ x=>offd d x
 | .store _ x y=>offd d x&&offd d y
 | .binOp _ _ x y _=>offd d x&&offd d y
 | .unOp _ _ x=>offd d x
 | .convert _ _ x=>offd d x
 | .fieldAddr _ x _=>offd d x
 | .indexAddr _ x y=>offd d x&&offd d y
 | .index _ x y=>offd d x&&offd d y
 | .extract x _=>offd d x
 | .nilCheck x=>offd d x
 | .build _ ps=>ps.toList.all fun p=>offd d p.2
 | .slice _ x lo hi mx=>offd d x&&lo.all (offd d)&&hi.all (offd d)&&mx.all (offd d)
 | .call c=>blindC d c.callee&&c.args.toList.all (offd d)
 |_=>false
theorem arr_map_congr {α β:Type} {f g:α→β} {xs:Array α} (h:∀ x∈xs.toList,f x=g x):xs.map f=xs.map g:=by
 apply Array.ext'
 rw[Array.toList_map,Array.toList_map]
 exact List.map_congr_left h
theorem exec_blind {d:Nat} {o:Oper} {r1 r2:Operand→Value} (hb:blindO d o.op=true) (h:∀ x,offd d x=true→r1 x=r2 x):execOp r1 o=execOp r2 o:=by
 unfold execOp
 revert hb
 cases ho:o.op with
 |buildSlice t n ps =>
  intro hb
  have:(ps.map fun p=>(p.1,r1 p.2))=ps.map fun p=>(p.1,r2 p.2):=arr_map_congr fun p hp=>by rw[h p.2 (Gqn.1 hb p hp)]
  simp only[this]
 | call c =>
  intro hb
  simp only[blindO,Gqi] at hb
  have:c.args.map r1=c.args.map r2:=arr_map_congr fun x hx=>h x (Gqn.1 hb.2 x hx)
  simp only[resolve,this]
  cases hc:c.callee with
  |builtin b=>rfl
  |value f =>
   have h1:=hb.1
   rw[hc] at h1
   simp only[h f h1]
  |invoke x n=>rw[hc] at hb; simp[blindC] at hb
 |move x=>intro hb; simp only[h _ (show offd d x=true from hb)]
 |assign x=>intro hb; simp only[h _ (show offd d x=true from hb)]
 |box t x=>intro hb; simp only[h _ (show offd d x=true from hb)]
 |load t x=>intro hb; simp only[h _ (show offd d x=true from hb)]
 |unOp u t x=>intro hb; simp only[h _ (show offd d x=true from hb)]
 |convert t u x=>intro hb; simp only[h _ (show offd d x=true from hb)]
 |fieldAddr t x f=>intro hb; simp only[h _ (show offd d x=true from hb)]
 |extract x i=>intro hb; simp only[h _ (show offd d x=true from hb)]
 |nilCheck x=>intro hb; simp only[h _ (show offd d x=true from hb)]
 |build t ps =>
  intro hb
  have:(ps.map fun p=>(p.1,r1 p.2))=ps.map fun p=>(p.1,r2 p.2):=arr_map_congr fun p hp=>by rw[h p.2 (Gqn.1 hb p hp)]
  simp only[this]
 | slice t x lo hi mx =>
  intro hb
  simp only[blindO,Gqi] at hb
  have hm:∀ y:Option Operand,y.all (offd d)=true→y.map r1=y.map r2:=fun y hy=>by
   cases y with
   |none=>rfl
   |some y=>simp only[Gq2,h y hy]
  simp only[h x hb.1.1.1,hm lo hb.1.1.2,hm hi hb.1.2,hm mx hb.2]
 |store t x y=>intro hb; simp only[blindO,Gqi] at hb; simp only[h x hb.1,h y hb.2]
 |binOp b t x y u=>intro hb; simp only[blindO,Gqi] at hb; simp only[h x hb.1,h y hb.2]
 |indexAddr t x y=>intro hb; simp only[blindO,Gqi] at hb; simp only[h x hb.1,h y hb.2]
 |index t x y=>intro hb; simp only[blindO,Gqi] at hb; simp only[h x hb.1,h y hb.2]
 |alloc t=>intro hb; rfl
 |pick c x y=>intro hb; simp only[blindO,Gqi] at hb; simp only[h c hb.1.1,h x hb.1.2,h y hb.2]
 |_=>intro hb; exact absurd hb Bool.false_ne_true
theorem put_comm {a:Act} {d e:Nat} {u v:Value} (h:e≠d):(a.put (some d) u).put (some e) v=(a.put (some e) v).put (some d) u:=by
 simp only[Act.put]
 congr 1
 apply Array.ext_getElem?
 intro i
 simp only[Array.getElem?_setIfInBounds,Array.size_setIfInBounds]
 by_cases h1:e=i
 ·subst h1
  simp[h,Ne.symm h]
 ·simp[h1]
theorem put_comm' {a:Act} {d:Nat} {e:Option Nat} {u v:Value} (h:e≠some d):(a.put (some d) u).put e v=(a.put e v).put (some d) u:=by
 cases e with
 |none=>rfl
 |some e=>exact put_comm fun hh=>h (by rw[hh])
theorem eval_put {a:Act} {d:Nat} {u:Value} {x:Operand} (h:offd d x=true):(a.put (some d) u).eval x=a.eval x:=by
 cases x with
 | tmp t =>
  have hne:t≠d:=fun e=>by
   subst e
   rw[offd,show Nat.beq t t=true from Nat.beq_refl t] at h
   cases h
  show (a.tmps.setIfInBounds d u).getD t undef=a.tmps.getD t undef
  rw[Gq0,Gq0,Array.getElem?_setIfInBounds_ne (Ne.symm hne)]
 |_=>rfl
theorem eval_put_tmp {a:Act} {t:Nat} {e:Option Nat} {v:Value} (h:e≠some t):(a.put e v).eval (.tmp t)=a.eval (.tmp t):=by
 cases e with
 |none=>rfl
 |some e =>
  refine eval_put ?_
  rw[offd,Gq8]
  cases hb:Nat.beq t e with
  |false=>rfl
  |true=>exact absurd (by rw[Gxa hb]) h

section
variable {P:Program} {l:List Oper} {Q:Exit→Act→World→Prop}
theorem wp_blind {o:Oper} {d:Nat} {u:Value} (hQ:∀ c a w,¬Q (.panic c) a w) (hb:blindO d o.op=true) (hd:o.dst≠some d) {a:Act} {w:World} {K K':Act→World→Prop} (hK:∀ v D w,K ({ (a.put (some d) u) with defers:=D }.put o.dst v) w→K' ({ a with defers:=D }.put o.dst v) w)
  (h:o.wp P (a.put (some d) u) w K Q):o.wp P a w K' Q:=by
 have he:execOp (a.put (some d) u).eval o=execOp a.eval o:=exec_blind hb fun x hx=>eval_put hx
 unfold Oper.wp at h ⊢
 rw[he] at h
 generalize (execOp a.eval o).run P w=r at h ⊢
 have hv:∀ v w,K ((a.put (some d) u).put o.dst v) w→K' (a.put o.dst v) w:=fun v w hk=>hK v a.defers w hk
 cases r with
 | ok n w' =>
  cases n <;> simp only[Oper.upon] at h ⊢ <;>
   first
    |exact hv _ _ h
    |exact hK _ _ _ h
    |exact Calls.mono h (fun e w'' he=>by cases e <;> first | exact hv _ _ he | exact absurd he (hQ _ _ _) | exact he)
    |exact Rows.mono h (fun _ _ he=>hv _ _ he)
 |halt x w'=>cases x <;> simp only[Oper.upon] at h ⊢ <;> exact absurd h (hQ _ _ _)
end
end
end Go.Proofs.YtfklmiijhcajdaaGreat
