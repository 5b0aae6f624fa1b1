/-
  Rules, data and contracts of functions: part 11 of the proof.
  Conditions: those that each theorem names.
-/
import Derived.KernelRfl
import Derived.Test.YtfklmiijhcajdaaGreatDDTellRowk9
set_option linter.unusedSimpArgs false
set_option linter.unusedVariables false
namespace Go.Proofs.YtfklmiijhcajdaaGreat
section
open Go.RowKit

def nodupB:List Nat→Bool
 | []=>true
 |x::xs => !memN xs x&&nodupB xs
theorem Zd:∀ {xs:List Nat},nodupB xs=true→xs.Nodup
 | [],_=>List.nodup_nil
 |x::xs,h=>by
  simp only[nodupB,Gqi,Gq8] at h
  exact Gxb.2 ⟨memN_not h.1,Zd h.2⟩

section
variable {P:Program} {E:Env} {ops:Array Oper} {o:Oper} {n:Nat} {ts:List (Nat×V)} {obs:List Ob} {rest:List Oper} {Q:Exit→St→Prop} {d:Nat} {fn:Func} {objs':List Ob} {res x:V} {st:St}

theorem Qt.yes {j e:Nat} {b:Bool} {ps:List Nat} {obs1:List Ob} {m:Nat} (hg:o.guard=some (j,b)) (hj:(ops[j]?).bind (·.dst)=some e) (hy:look st.tmps e = .o (.c (.rd ps (.v (.bool b)))))
  (h:Qt P ops ⟨o.dst,o.op,o.type,o.pos,o.after,none⟩ st x obs1 m):Qt P ops o st x obs1 m:=by
 refine⟨fun a w H F Q K hr hf hK => ?_⟩
 have h1:=h.h a w H F Q K hr hf hK
 have h3:=hr.tmp e
 rw[hy] at h3
 have h4:a.tmps.getD e undef = .bool b:=(RO.plain h3).1
 have hlt:e<a.tmps.size:=by
  rcases Gqq e a.tmps.size with h | h
  ·exact h
  ·rw[Gq0,Array.getElem?_eq_none h] at h4
   cases h4
 have h5:a.tmps[e]? = some (.bool b):=by
  rw[Gq0,Gq6 hlt] at h4
  rw[Gq6 hlt]
  exact congrArg some h4
 rw[if_pos (by rfl)] at h1
 rw[if_pos (by simp[Region.wanted,hg,yielded,hj,h5])]
 exact h1
theorem Qt.no {j e:Nat} {b y:Bool} {ps:List Nat} {m:Nat} (hg:o.guard=some (j,b)) (hj:(ops[j]?).bind (·.dst)=some e) (hy:look st.tmps e = .o (.c (.rd ps (.v (.bool y))))) (hne:(y != b)=true):Qt P ops o st NO [] m:=by
 refine⟨fun a w H F Q K hr hf hK => ?_⟩
 have h3:=hr.tmp e
 rw[hy] at h3
 have h4:a.tmps.getD e undef = .bool y:=(RO.plain h3).1
 have hlt:e<a.tmps.size:=by
  rcases Gqq e a.tmps.size with h | h
  ·exact h
  ·rw[Gq0,Array.getElem?_eq_none h] at h4
   cases h4
 have h5:a.tmps[e]? = some (.bool y):=by
  rw[Gq0,Gq6 hlt] at h4
  rw[Gq6 hlt]
  exact congrArg some h4
 have hne':y≠b:=by simpa using hne
 rw[if_neg (by simp[Region.wanted,hg,yielded,hj,h5,hne'])]
 exact hK undef w H F (Grow.refl w H F) hr.ok (fun i ob hi=>by simp at hi) (fun p hp _=>hp) ⟨fun h=>by simp at h,fun _ _ _=>rfl⟩

section
variable {y z:Operand} {t t':TypeId} {k:IntKind} {i j:Int} {qs:List Nat}
theorem Xf {p kk i j:Nat} {es:List (List T)} {e:List T} {c:V1} {u:T} {rs:List Nat} [TyOne P t] (ho:o.op = .store t y z) (hg:o.guard=none) (hd:o.dst=none) (hy:St.ev ⟨n,ts,obs⟩ y = .o (.c (.el p kk i j))) (hz:St.ev ⟨n,ts,obs⟩ z = .o (.c c)) (hp:obs[p]? = some (.row kk es)) (hu:tkT obs c=u) (hrs:tkR c=rs)
  (hok:tkOk obs c=true) (he:es[i]? = some e) (hj:Nat.ble (j+1) e.length=true) (hnd:nodupB (p::rs)=true)
  (h:AL P E ops Q rest ⟨n,ts.map fun e=>(e.1,e.2.kille p rs),gone ((obs.map (Ob.kille p rs)).set p (.row kk (es.set i (splice e j [u])))) rs⟩):AL P E ops Q (o::rest) ⟨n,ts,obs⟩:=by
 subst hu hrs
 exact L_ste1 ho hg hd hy hz hp he (Gqz hj) hok (Zd hnd) h
theorem Xe {p kk i j n':Nat} {es:List (List T)} {e:List T} {ds:List V1} {us:List T} {rs:List Nat} [hr':TyRow P t n'] (ho:o.op = .store t y z) (hg:o.guard=none) (hd:o.dst=none) (hy:St.ev ⟨n,ts,obs⟩ y = .o (.c (.el p kk i j))) (hz:St.ev ⟨n,ts,obs⟩ z = .o (.ag ds)) (hp:obs[p]? = some (.row kk es)) (hl:ds.length=n') (hu:ds.map (tkT obs)=us) (hrs:ds.flatMap tkR=rs)
  (hok:ds.all (tkOk obs)=true) (he:es[i]? = some e) (hj:Nat.ble (j+ds.length) e.length=true) (hnd:nodupB (p::rs)=true)
  (h:AL P E ops Q rest ⟨n,ts.map fun e=>(e.1,e.2.kille p rs),gone ((obs.map (Ob.kille p rs)).set p (.row kk (es.set i (splice e j us)))) rs⟩):AL P E ops Q (o::rest) ⟨n,ts,obs⟩:=by
 subst hu hrs
 exact L_steN ho hg hd hy hz hp he hl (Gqz hj) hok (Zd hnd) h
theorem Xv {p q kk:Nat} {es:List (List T)} {ds:List V1} {e:TypeId} {zs:List Value} {by_:Nat} {us:List T} {rs:List Nat} [hm:TyMake P t e zs by_] (ho:o.op = .call { callee := .builtin .append,args:=#[y,z],argTypes:=#[t,t] }) (hg:o.guard=none) (hy:St.ev ⟨n,ts,obs⟩ y = .o (.c (.ref p))) (hp:obs[p]? = some (.row kk es)) (hz:St.ev ⟨n,ts,obs⟩ z = .o (.c (.sb q 1 kk))) (hq:obs[q]? = some (.box ds))
  (hkz:kk=zs.length) (hz0:zs.isEmpty=false) (hok:ds.all (tkOk obs)=true) (hu:ds.map (tkT obs)=us) (hrs:ds.flatMap tkR=rs) (hnd:nodupB (p::rs)=true) (hd:o.dst=some d) (hl:Nat.blt d n=true) (hb:(es.length+1)*by_≤140737488355328) (h63:es.length+1≤9223372036854775807)
  (h:AL P E ops Q rest ⟨n,(d,.o (.c (.ref p)))::(ts.map fun e=>(e.1,e.2.kill (p::rs))),gone ((obs.map (Ob.kill (p::rs))).set p (.row kk (es ++ [us]))) rs⟩):AL P E ops Q (o::rest) ⟨n,ts,obs⟩:=by
 subst hu hrs
 exact L_appo ho hg hy hp hz hq hkz (by intro e; rw[e] at hz0; cases hz0) hok (Zd hnd) hb h63 (by rw[hd]; exact hl) (by rw[hd]; exact h)
end

section
variable {y z:Operand} {t t':TypeId} {ps qs:List Nat} {m:Nat} {u v b:Bool}
theorem run_eqin {w:World} [hb:TyBool P t] (d:Nat) (u v:Bool):(Op.equalIn (d+1) t (.bool u) (.bool v)).run P w = .ok (u == v) w:=by
 rw[Op.equalIn]
 simp[run_underlying hb.bool]
theorem run_bne {w:World} [hb:TyBool P t] (u v:Bool):(binOp .neq t (.bool u) (.bool v)).run P w = .ok (.bool (!(u == v))) w:=by
 have h:=run_eqin (P:=P) (t:=t) (w:=w) 9999 u v
 simp only[binOp,Op.equal,show Op.maxDepth=9999+1 from rfl]
 simp[h]
theorem q_bneq [TyBool P t] (ho:o.op = .binOp .neq t y z t') (hg:o.guard=none) (hy:st.ev y = .o (.c (.rd ps (.v (.bool u))))) (hz:st.ev z = .o (.c (.rd qs (.v (.bool v))))):Qt P ops o st (B (!(u == v))) [] m :=
 .pure hg fun a w H F hr=>⟨.bool (!(u == v)),by
  have h1:=hr.plain hy
  have h2:=hr.plain hz
  simp only[execOp,ho,h1,h2,eqGuard]
  simp[run_bne],plainV _ rfl⟩
end

theorem W_nil (d k:Nat) {qs:List Nat} (hx:look ts d = .o (.c (.rd qs (.v (.slice none 0 0))))):Wk ⟨n,ts,obs⟩ ⟨n,(d,.o (.c (.ref obs.length)))::ts,obs ++ [.row k []]⟩:=Wk.nils (st:=⟨n,ts,obs⟩) d [k] hx rfl
theorem X4 {tmps:List (Nat×V)} {objs:List Ob} (ρ:List Nat) (hnd:ρ.Nodup) (hl:objs.length=ρ.length) (ho:objs.map (Ob.ren (rho ρ obs.length))=ρ.map fun p=>obs.getD p .gone) (ht:Wl ts (tmps.map fun e=>(e.1,e.2.ren (rho ρ obs.length)))):Wk ⟨n,ts,obs⟩ ⟨n,tmps,objs⟩ :=
 Wk.ren (st:=⟨n,ts,obs⟩) ρ objs tmps hnd hl ho ht
theorem AWP.pre {c:Code} {st st':St} (h:AWP P E c Q st') (hw:Wk st st'):AWP P E c Q st:=h.weak hw
theorem AL.weak {l:List Oper} {st st':St} (hw:Wk st st') (h:AL P E ops Q l st'):AL P E ops Q l st:=⟨fun a w hr=>h.h a w (hr.weak hw)⟩
end
def ndB:List Nat→Bool
 | []=>true
 |x::l=>(l.all fun y => !Nat.beq x y)&&ndB l
def selL (ts:List (Nat×V)):List (Nat×V)→List (Nat×V)
 | [] => []
 |e::l=>(e.1,look ts e.1)::selL ts l
theorem selL_wl {ts:List (Nat×V)}:∀ {l ys:List (Nat×V)},selL ts l=ys→Wl ts ys
 | [],_,rfl => .nil
 |e::l,_,rfl => .cons rfl (selL_wl rfl)
theorem ndB_nd:∀ {l:List Nat},ndB l=true→l.Nodup
 | [],_=>List.nodup_nil
 |x::l,h=>by
  rw[ndB,Gqi,Gqn] at h
  refine Gxb.2 ⟨fun hm => ?_,ndB_nd h.2⟩
  have:=h.1 x hm
  rw[show Nat.beq x x=true from Nat.beq_refl x] at this
  cases this
theorem X3 {n:Nat} {ts tmps:List (Nat×V)} {obs objs:List Ob} (ρ:List Nat) (h:(ndB ρ,objs.length,objs.map (Ob.ren (rho ρ obs.length)),selL ts tmps)=(true,ρ.length,ρ.map (fun p=>obs.getD p .gone),tmps.map fun e=>(e.1,e.2.ren (rho ρ obs.length)))):Wk ⟨n,ts,obs⟩ ⟨n,tmps,objs⟩:=by
 simp only[Prod.mk.injEq] at h
 exact X4 ρ (ndB_nd h.1) h.2.1 h.2.2.1 (selL_wl h.2.2.2)
end
section
open Go.RowKit

inductive Fc:List Bool→List (Nat×V)→List (Nat×V)→Prop
 |stop {cs:List Bool} {ts:List (Nat×V)}:Fc cs ts ts
 |hit {cs:List Bool} {ts ts':List (Nat×V)} {d:Nat} {x:V2} (h:Fc cs ts ts'):Fc cs ((d,.iff cs x)::ts) ((d,.o x)::ts')
 |hit1 {c:Bool} {cs:List Bool} {ts ts':List (Nat×V)} {d:Nat} {x:V2} (h:Fc (c::cs) ts ts'):Fc (c::cs) ((d,.iff cs x)::ts) ((d,.o x)::ts')
 |hit2 {b c:Bool} {cs:List Bool} {ts ts':List (Nat×V)} {d:Nat} {x:V2} (h:Fc (b::c::cs) ts ts'):Fc (b::c::cs) ((d,.iff cs x)::ts) ((d,.o x)::ts')
 |part {c:Bool} {cs:List Bool} {ts ts':List (Nat×V)} {d:Nat} {x:V2} (h:Fc cs ts ts'):Fc cs ((d,.iff (c::cs) x)::ts) ((d,.iff [c] x)::ts')
 |skip {cs:List Bool} {ts ts':List (Nat×V)} {e:Nat×V} (h:Fc cs ts ts'):Fc cs (e::ts) (e::ts')

section
variable {P:Program} {E:Env} {ops:Array Oper} {o:Oper} {n:Nat} {ts ts':List (Nat×V)} {obs:List Ob} {rest:List Oper} {Q:Exit→St→Prop} {d:Nat} {st:St} {w:World} {H:Hs} {F:Nat→Prop} {a:Act}

theorem Fc.look {cs:List Bool} (h:Fc cs ts ts') (hc:∀ c∈cs,c=true):∀ (d:Nat) (v:Value),RV w H F (Go.Proofs.YtfklmiijhcajdaaGreat.look ts d) v→RV w H F (Go.Proofs.YtfklmiijhcajdaaGreat.look ts' d) v:=by
 induction h with
 |stop=>exact fun d v h=>h
 |hit h ih | hit1 h ih | hit2 h ih | part h ih | skip h ih => ?_
 ·intro d v hv
  rw[Y0] at hv ⊢
  split
  ·rw[if_pos Aqe] at hv; exact hv.1 hc
  ·rw[if_neg Aqe] at hv; exact ih hc d v hv
 ·intro d v hv
  rw[Y0] at hv ⊢
  split
  ·rw[if_pos Aqe] at hv; exact hv.1 fun c h=>hc c (Gq7 _ h)
  ·rw[if_neg Aqe] at hv; exact ih hc d v hv
 ·intro d v hv
  rw[Y0] at hv ⊢
  split
  ·rw[if_pos Aqe] at hv; exact hv.1 fun c h=>hc c (Gq7 _ (Gq7 _ h))
  ·rw[if_neg Aqe] at hv; exact ih hc d v hv
 ·intro d v hv
  rw[Y0] at hv ⊢
  split
  ·rw[if_pos Aqe] at hv
   exact⟨fun h1=>hv.1 fun c h=>(List.mem_cons.1 h).elim (fun e=>h1 c (by simp[e])) (hc c),fun c h1 h2=>hv.2 c (by simp at h1; simp[h1]) h2⟩
  ·rw[if_neg Aqe] at hv; exact ih hc d v hv
 ·rename_i e
  obtain⟨e1,e2⟩:=e
  intro d v hv
  rw[Y0] at hv ⊢
  split
  ·rw[if_pos Aqe] at hv; exact hv
  ·rw[if_neg Aqe] at hv; exact ih hc d v hv
theorem R0.fc {cs:List Bool} (hr:R0 w H F ⟨n,ts,obs⟩ a) (h:Fc cs ts ts') (hc:∀ c∈cs,c=true):R0 w H F ⟨n,ts',obs⟩ a :=
 ⟨hr.ok,hr.obs,fun d=>h.look hc d _ (hr.tmp d),hr.size,hr.defers⟩

theorem wanted_of {j e:Nat} {b y:Bool} (hg:o.guard=some (j,b)) (hj:(ops[j]?).bind (·.dst)=some e) (h4:a.tmps.getD e undef = .bool y):Region.wanted o (yielded ops a.tmps)=(y == b):=by
 have hlt:e<a.tmps.size:=by
  rcases Gqq e a.tmps.size with h | h
  ·exact h
  ·rw[Gq0,Array.getElem?_eq_none h] at h4
   cases h4
 have h5:a.tmps[e]? = some (.bool y):=by
  rw[Gq0,Gq6 hlt] at h4
  rw[Gq6 hlt]
  exact congrArg some h4
 simp only[Region.wanted,hg,yielded,hj,Option.bind_some,h5]
 cases y <;> cases b <;> rfl
theorem wanted_undef {j e:Nat} {b:Bool} (hg:o.guard=some (j,b)) (hj:(ops[j]?).bind (·.dst)=some e) (h4:a.tmps.getD e undef=undef):Region.wanted o (yielded ops a.tmps)=false:=by
 have h5:a.tmps[e]? = none∨a.tmps[e]? = some undef:=by
  rcases Gqq e a.tmps.size with h | h
  ·rw[Gq0,Gq6 h] at h4
   exact .inr (by rw[Gq6 h]; exact congrArg some h4)
  ·exact .inl (Array.getElem?_eq_none h)
 rcases h5 with h5 | h5 <;> simp[Region.wanted,hg,yielded,hj,h5,undef]

theorem Qt.grd {j e m:Nat} {b y:Bool} {ps:List Nat} {x:V2} (c:Bool) (hc:c=(y == b)) (hg:o.guard=some (j,b)) (hj:(ops[j]?).bind (·.dst)=some e) (hy:look ts e = .o (.c (.rd ps (.v (.bool y))))) (hf:Fc [c] ts ts')
  (h:c=true→Qt P ops ⟨o.dst,o.op,o.type,o.pos,o.after,none⟩ ⟨n,ts',obs⟩ (.o x) [] m):Qt P ops o ⟨n,ts,obs⟩ (.iff [c] x) [] m:=by
 subst hc
 refine⟨fun a w H F Q K hr hfree hK => ?_⟩
 have h3:=hr.tmp e
 rw[hy] at h3
 have hw:=wanted_of (o:=o) (ops:=ops) (a:=a) hg hj (RO.plain h3).1
 rw[hw]
 by_cases hb:(y == b)=true
 ·rw[if_pos hb]
  have h1:=(h hb).h a w H F Q K (hr.fc hf (by simpa using hb)) hfree fun v w' H' F' hg' hok hob hno hv=>hK v w' H' F' hg' hok hob hno ⟨fun _=>hv,fun c h1 h2=>by simp at h1; rw[h1,hb] at h2; cases h2⟩
  rw[if_pos (by rfl)] at h1
  exact h1
 ·rw[if_neg hb]
  refine hK undef w H F (Grow.refl w H F) hr.ok (fun i ob hi=>by simp at hi) (fun p hp _=>hp) ⟨fun h=>absurd (h _ Aqd) hb,fun _ _ _=>rfl⟩
theorem Qt.grd2 {j e m:Nat} {b y:Bool} {ps:List Nat} {x:V2} {cs:List Bool} (c:Bool) (hc:c=(y == b)) (hg:o.guard=some (j,b)) (hj:(ops[j]?).bind (·.dst)=some e) (hy:look ts e = .iff cs (.c (.rd ps (.v (.bool y))))) (hf:Fc (c::cs) ts ts')
  (h:c=true→(∀ c∈cs,c=true)→Qt P ops ⟨o.dst,o.op,o.type,o.pos,o.after,none⟩ ⟨n,ts',obs⟩ (.o x) [] m):Qt P ops o ⟨n,ts,obs⟩ (.iff (c::cs) x) [] m:=by
 subst hc
 refine⟨fun a w H F Q K hr hfree hK => ?_⟩
 have h3:=hr.tmp e
 rw[hy] at h3
 by_cases hcs:∀ c∈cs,c=true
 ·have hw:=wanted_of (o:=o) (ops:=ops) (a:=a) hg hj (RO.plain (h3.1 hcs)).1
  rw[hw]
  by_cases hb:(y == b)=true
  ·rw[if_pos hb]
   have hall:∀ c∈(y == b)::cs,c=true:=fun c hc=>(List.mem_cons.1 hc).elim (fun e=>e▸hb) (hcs c)
   have h1:=(h hb hcs).h a w H F Q K (hr.fc hf hall) hfree fun v w' H' F' hg' hok hob hno hv=>hK v w' H' F' hg' hok hob hno ⟨fun _=>hv,fun c h1 h2=>by rw[hall c h1] at h2; cases h2⟩
   rw[if_pos (by rfl)] at h1
   exact h1
  ·rw[if_neg hb]
   refine hK undef w H F (Grow.refl w H F) hr.ok (fun i ob hi=>by simp at hi) (fun p hp _=>hp) ⟨fun h=>absurd (h _ Aqd) hb,fun _ _ _=>rfl⟩
 ·have hex:∃ c∈cs,c=false:=by
   refine Classical.byContradiction fun hn=>hcs fun c hc => ?_
   cases hb:c
   ·exact absurd ⟨c,hc,hb⟩ hn
   ·rfl
  obtain⟨c1,h4,h5⟩:=hex
  rw[wanted_undef (o:=o) (ops:=ops) (a:=a) hg hj (h3.2 c1 h4 h5),if_neg Aqd]
  refine hK undef w H F (Grow.refl w H F) hr.ok (fun i ob hi=>by simp at hi) (fun p hp _=>hp) ⟨fun h=>absurd (h c1 (by simp[h4])) (by simp[h5]),fun _ _ _=>rfl⟩
section
variable {j e m:Nat} {y:Bool} {ps:List Nat} {x:V2} {cs:List Bool}
theorem Qt.grdT (hg:o.guard=some (j,true)) (hj:(ops[j]?).bind (·.dst)=some e) (hy:look ts e = .o (.c (.rd ps (.v (.bool y))))) (hf:Fc [y] ts ts')
  (h:y=true→Qt P ops ⟨o.dst,o.op,o.type,o.pos,o.after,none⟩ ⟨n,ts',obs⟩ (.o x) [] m):Qt P ops o ⟨n,ts,obs⟩ (.iff [y] x) [] m := .grd y Aqd hg hj hy hf h
theorem Qt.grdF (hg:o.guard=some (j,false)) (hj:(ops[j]?).bind (·.dst)=some e) (hy:look ts e = .o (.c (.rd ps (.v (.bool y))))) (hf:Fc [!y] ts ts')
  (h:(!y)=true→Qt P ops ⟨o.dst,o.op,o.type,o.pos,o.after,none⟩ ⟨n,ts',obs⟩ (.o x) [] m):Qt P ops o ⟨n,ts,obs⟩ (.iff [!y] x) [] m := .grd (!y) Aqd hg hj hy hf h
theorem Qt.grd2T (hg:o.guard=some (j,true)) (hj:(ops[j]?).bind (·.dst)=some e) (hy:look ts e = .iff cs (.c (.rd ps (.v (.bool y))))) (hf:Fc (y::cs) ts ts')
  (h:y=true→(∀ c∈cs,c=true)→Qt P ops ⟨o.dst,o.op,o.type,o.pos,o.after,none⟩ ⟨n,ts',obs⟩ (.o x) [] m):Qt P ops o ⟨n,ts,obs⟩ (.iff (y::cs) x) [] m := .grd2 y Aqd hg hj hy hf h
theorem Qt.grd2F (hg:o.guard=some (j,false)) (hj:(ops[j]?).bind (·.dst)=some e) (hy:look ts e = .iff cs (.c (.rd ps (.v (.bool y))))) (hf:Fc ((!y)::cs) ts ts')
  (h:(!y)=true→(∀ c∈cs,c=true)→Qt P ops ⟨o.dst,o.op,o.type,o.pos,o.after,none⟩ ⟨n,ts',obs⟩ (.o x) [] m):Qt P ops o ⟨n,ts,obs⟩ (.iff ((!y)::cs) x) [] m := .grd2 (!y) Aqd hg hj hy hf h

theorem Qt.no2 {j b e m} {x:V2} (hg:o.guard=some (j,b)) (hj:(ops[j]?).bind (·.dst)=some e) (hy:look st.tmps e = .iff [false] x):Qt P ops o st NO [] m:=by
 refine⟨fun a w H F Q K hr hf hK => ?_⟩
 have h3:=hr.tmp e
 rw[hy] at h3
 rw[wanted_undef (o:=o) (ops:=ops) (a:=a) hg hj (h3.2 false Aqd rfl),if_neg Aqd]
 exact hK undef w H F (Grow.refl w H F) hr.ok (fun i ob hi=>by simp at hi) (fun p hp _=>hp) ⟨fun h=>by simp at h,fun _ _ _=>rfl⟩
theorem run_pick {c x z:Operand} (ho:o.op = .pick c x z) (h1:a.eval c = .bool y):(execOp a.eval o).run P w = .ok (.value (if y then a.eval x else a.eval z)) w:=by
 simp[execOp,ho,h1,asBool]
theorem Kd {c:Operand} {u:Bool} {qs:List Nat} {t:Nat} (ho:o.op = .pick c (.const (.bool true)) (.tmp t)) (hg:o.guard=none) (hc:st.ev c = .o (.c (.rd ps (.v (.bool y))))) (hz:look st.tmps t = .iff [!y] (.c (.rd qs (.v (.bool u))))):Qt P ops o st (B (y || u)) [] m :=
 .pure hg fun a w H F hr=>⟨.bool (y || u),by
  have h1:=hr.plain hc
  have h2:=hr.at_ t
  rw[hz] at h2
  rw[run_pick ho h1]
  cases y
  ·have h3:=(RO.plain (h2.1 Aqd)).1
   show Result.ok (Next.value (a.tmps.getD t undef)) w=_
   rw[h3]
   rfl
  ·rfl,plainV _ rfl⟩
theorem Zm {c:Operand} {u:Bool} {qs:List Nat} {t:Nat} (ho:o.op = .pick c (.tmp t) (.const (.bool false))) (hg:o.guard=none) (hc:st.ev c = .o (.c (.rd ps (.v (.bool y))))) (hz:look st.tmps t = .iff [y] (.c (.rd qs (.v (.bool u))))):Qt P ops o st (B (y&&u)) [] m :=
 .pure hg fun a w H F hr=>⟨.bool (y&&u),by
  have h1:=hr.plain hc
  have h2:=hr.at_ t
  rw[hz] at h2
  rw[run_pick ho h1]
  cases y
  ·rfl
  ·have h3:=(RO.plain (h2.1 Aqd)).1
   show Result.ok (Next.value (a.tmps.getD t undef)) w=_
   rw[h3]
   rfl,plainV _ rfl⟩
end
end
end
end Go.Proofs.YtfklmiijhcajdaaGreat
