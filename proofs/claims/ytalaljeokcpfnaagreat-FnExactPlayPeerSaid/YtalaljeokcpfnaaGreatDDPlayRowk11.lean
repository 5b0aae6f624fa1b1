/-
  Rules, data and contracts of functions: part 12 of the proof.
  Conditions: those that each theorem names.
-/
import Derived.KernelRfl
import Derived.Test.YtalaljeokcpfnaaGreatDDPlayRowk10
set_option linter.unusedSimpArgs false
set_option linter.unusedVariables false
namespace Go.Proofs.YtalaljeokcpfnaaGreat
section
open Go.RowKit

def nodupB:List Nat→Bool
 | []=>true
 |x::xs => !memN xs x&&nodupB xs
theorem Z4:∀ {xs:List Nat},nodupB xs=true→xs.Nodup
 | [],_=>List.nodup_nil
 |x::xs,h=>by
  simp only[nodupB,Gqh,Gq6] at h
  exact Gxi.2 ⟨memN_not h.1,Z4 h.2⟩

section
variable {P:Program} {E:Env} {ops:Array Oper} {o:Oper} {n:Nat} {ts:List (Nat×V)} {obs:List Ob} {rest:List Oper} {Q:Exit→St→Prop} {d:Nat} {fn:Func} {objs':List Ob} {res x:V} {st:St}

theorem Qt.yes {j e:Nat} {b:Bool} {ps:List Nat} {obs1:List Ob} {m:Nat} (hg:o.guard=some (j,b)) (hj:(ops[j]?).bind (·.dst)=some e) (hy:look st.tmps e = .o (.c (.rd ps (.v (.bool b)))))
  (h:Qt P ops ⟨o.dst,o.op,o.type,o.pos,o.after,none⟩ st x obs1 m):Qt P ops o st x obs1 m:=by
 refine⟨fun a w H F Q K hr hf hK=>?_⟩
 have h1:=h.h a w H F Q K hr hf hK
 have h3:=hr.tmp e
 rw[hy] at h3
 have h4:a.tmps.getD e undef = .bool b:=(RO.plain h3).1
 have hlt:e<a.tmps.size:=by
  rcases Gqr e a.tmps.size with h | h
  ·exact h
  ·rw[Gq5,Array.getElem?_eq_none h] at h4
   cases h4
 have h5:a.tmps[e]? = some (.bool b):=by
  rw[Gq5,Gxe hlt] at h4
  rw[Gxe hlt]
  exact congrArg some h4
 rw[if_pos (by rfl)] at h1
 rw[if_pos (by simp[Region.wanted,hg,yielded,hj,h5])]
 exact h1
theorem Qt.no {j e:Nat} {b y:Bool} {ps:List Nat} {m:Nat} (hg:o.guard=some (j,b)) (hj:(ops[j]?).bind (·.dst)=some e) (hy:look st.tmps e = .o (.c (.rd ps (.v (.bool y))))) (hne:(y != b)=true):Qt P ops o st NO [] m:=by
 refine⟨fun a w H F Q K hr hf hK=>?_⟩
 have h3:=hr.tmp e
 rw[hy] at h3
 have h4:a.tmps.getD e undef = .bool y:=(RO.plain h3).1
 have hlt:e<a.tmps.size:=by
  rcases Gqr e a.tmps.size with h | h
  ·exact h
  ·rw[Gq5,Array.getElem?_eq_none h] at h4
   cases h4
 have h5:a.tmps[e]? = some (.bool y):=by
  rw[Gq5,Gxe hlt] at h4
  rw[Gxe hlt]
  exact congrArg some h4
 have hne':y≠b:=by simpa using hne
 rw[if_neg (by simp[Region.wanted,hg,yielded,hj,h5,hne'])]
 exact Bjk

section
variable {y z:Operand} {t t':TypeId} {k:IntKind} {i j:Int} {qs:List Nat}
theorem Xh {p kk i j:Nat} {es:List (List T)} {e:List T} {c:V1} {u:T} {rs:List Nat} [TyOne P t] (ho:o.op = .store t y z) (hg:o.guard=none) (hd:o.dst=none) (hy:St.ev ⟨n,ts,obs⟩ y = .o (.c (.el p kk i j))) (hz:St.ev ⟨n,ts,obs⟩ z = .o (.c c)) (hp:obs[p]? = some (.row kk es)) (hu:tkT obs c=u) (hrs:tkR c=rs)
  (hok:tkOk obs c=true) (he:es[i]? = some e) (hj:Nat.ble (j+1) e.length=true) (hnd:nodupB (p::rs)=true)
  (h:AL P E ops Q rest ⟨n,ts.map fun e=>(e.1,e.2.kille p rs),gone ((obs.map (Ob.kille p rs)).set p (.row kk (es.set i (splice e j [u])))) rs⟩):AL P E ops Q (o::rest) ⟨n,ts,obs⟩:=by
 subst hu hrs
 exact L_ste1 ho hg hd hy hz hp he (Gqx hj) hok (Z4 hnd) h
theorem Xg {p kk i j n':Nat} {es:List (List T)} {e:List T} {ds:List V1} {us:List T} {rs:List Nat} [hr':TyRow P t n'] (ho:o.op = .store t y z) (hg:o.guard=none) (hd:o.dst=none) (hy:St.ev ⟨n,ts,obs⟩ y = .o (.c (.el p kk i j))) (hz:St.ev ⟨n,ts,obs⟩ z = .o (.ag ds)) (hp:obs[p]? = some (.row kk es)) (hl:ds.length=n') (hu:ds.map (tkT obs)=us) (hrs:ds.flatMap tkR=rs)
  (hok:ds.all (tkOk obs)=true) (he:es[i]? = some e) (hj:Nat.ble (j+ds.length) e.length=true) (hnd:nodupB (p::rs)=true)
  (h:AL P E ops Q rest ⟨n,ts.map fun e=>(e.1,e.2.kille p rs),gone ((obs.map (Ob.kille p rs)).set p (.row kk (es.set i (splice e j us)))) rs⟩):AL P E ops Q (o::rest) ⟨n,ts,obs⟩:=by
 subst hu hrs
 exact L_steN ho hg hd hy hz hp he hl (Gqx hj) hok (Z4 hnd) h
theorem X6 {p q kk:Nat} {es:List (List T)} {ds:List V1} {e:TypeId} {zs:List Value} {by_:Nat} {us:List T} {rs:List Nat} [hm:TyMake P t e zs by_] (ho:o.op = .call { callee := .builtin .append,args:=#[y,z],argTypes:=#[t,t] }) (hg:o.guard=none) (hy:St.ev ⟨n,ts,obs⟩ y = .o (.c (.ref p))) (hp:obs[p]? = some (.row kk es)) (hz:St.ev ⟨n,ts,obs⟩ z = .o (.c (.sb q 1 kk))) (hq:obs[q]? = some (.box ds))
  (hkz:kk=zs.length) (hz0:zs.isEmpty=false) (hok:ds.all (tkOk obs)=true) (hu:ds.map (tkT obs)=us) (hrs:ds.flatMap tkR=rs) (hnd:nodupB (p::rs)=true) (hd:o.dst=some d) (hl:Nat.blt d n=true) (hb:(es.length+1)*by_≤140737488355328) (h63:es.length+1≤9223372036854775807)
  (h:AL P E ops Q rest ⟨n,(d,.o (.c (.ref p)))::(ts.map fun e=>(e.1,e.2.kill (p::rs))),gone ((obs.map (Ob.kill (p::rs))).set p (.row kk (es ++ [us]))) rs⟩):AL P E ops Q (o::rest) ⟨n,ts,obs⟩:=by
 subst hu hrs
 exact L_appo ho hg hy hp hz hq hkz (by intro e; rw[e] at hz0; cases hz0) hok (Z4 hnd) hb h63 Bq8 Bq9
end

section
variable {y z:Operand} {t t':TypeId} {ps qs:List Nat} {m:Nat} {u v b:Bool}
theorem run_eqin {w:World} [hb:TyBool P t] (d:Nat) (u v:Bool):(Op.equalIn (d+1) t (.bool u) (.bool v)).run P w = .ok (u == v) w:=by
 rw[Op.equalIn]
 simp[run_underlying hb.bool]
theorem run_bne {w:World} [hb:TyBool P t] (u v:Bool):(binOp .neq t (.bool u) (.bool v)).run P w = .ok (.bool (!(u == v))) w:=by
 have h:=run_eqin (P:=P) (t:=t) (w:=w) 9999 u v
 simp only[binOp,Op.equal,show Op.maxDepth=9999+1 from rfl]
 simp[h]
theorem q_bneq [TyBool P t] (ho:o.op = .binOp .neq t y z t') (hg:o.guard=none) (hy:st.ev y = .o (.c (.rd ps (.v (.bool u))))) (hz:st.ev z = .o (.c (.rd qs (.v (.bool v))))):Qt P ops o st (B (!(u == v))) [] m :=
 .pure hg fun a w H F hr=>⟨.bool (!(u == v)),by
  have h1:=hr.plain hy
  have h2:=hr.plain hz
  simp only[execOp,ho,h1,h2,eqGuard]
  simp[run_bne],plainV _ rfl⟩
end

theorem W_nil (d k:Nat) {qs:List Nat} (hx:look ts d = .o (.c (.rd qs (.v (.slice none 0 0))))):Wk ⟨n,ts,obs⟩ ⟨n,(d,.o (.c (.ref obs.length)))::ts,obs ++ [.row k []]⟩:=Wk.nils (st:=⟨n,ts,obs⟩) d [k] hx rfl
theorem Yk {tmps:List (Nat×V)} {objs:List Ob} (ρ:List Nat) (hnd:ρ.Nodup) (hl:objs.length=ρ.length) (ho:objs.map (Ob.ren (rho ρ obs.length))=ρ.map fun p=>obs.getD p .gone) (ht:Wl ts (tmps.map fun e=>(e.1,e.2.ren (rho ρ obs.length)))):Wk ⟨n,ts,obs⟩ ⟨n,tmps,objs⟩ :=
 Wk.ren (st:=⟨n,ts,obs⟩) ρ objs tmps hnd hl ho ht
theorem AWP.pre {c:Code} {st st':St} (h:AWP P E c Q st') (hw:Wk st st'):AWP P E c Q st:=h.weak hw
theorem AL.weak {l:List Oper} {st st':St} (hw:Wk st st') (h:AL P E ops Q l st'):AL P E ops Q l st:=⟨fun a w hr=>h.h a w (hr.weak hw)⟩
end
def ndB:List Nat→Bool
 | []=>true
 |x::l=>(l.all fun y => !Nat.beq x y)&&ndB l
def selL (ts:List (Nat×V)):List (Nat×V)→List (Nat×V)
 | [] => []
 |e::l=>(e.1,look ts e.1)::selL ts l
theorem selL_wl {ts:List (Nat×V)}:∀ {l ys:List (Nat×V)},selL ts l=ys→Wl ts ys
 | [],_,rfl => .nil
 |e::l,_,rfl => .cons rfl (selL_wl rfl)
theorem ndB_nd:∀ {l:List Nat},ndB l=true→l.Nodup
 | [],_=>List.nodup_nil
 |x::l,h=>by
  rw[ndB,Gqh,Gqp] at h
  refine Gxi.2 ⟨fun hm=>?_,ndB_nd h.2⟩
  have:=h.1 x hm
  rw[show Nat.beq x x=true from Gxz x] at this
  cases this
theorem Yj {n:Nat} {ts tmps:List (Nat×V)} {obs objs:List Ob} (ρ:List Nat) (h:(ndB ρ,objs.length,objs.map (Ob.ren (rho ρ obs.length)),selL ts tmps)=(true,ρ.length,ρ.map (fun p=>obs.getD p .gone),tmps.map fun e=>(e.1,e.2.ren (rho ρ obs.length)))):Wk ⟨n,ts,obs⟩ ⟨n,tmps,objs⟩:=by
 simp only[Prod.mk.injEq] at h
 exact Yk ρ (ndB_nd h.1) h.2.1 h.2.2.1 (selL_wl h.2.2.2)
def lk:List (Nat×V)→Nat→Option V
 | [],_=>none
 |e::l,d=>match Nat.beq e.1 d with
  |true=>some e.2
  |false=>lk l d
inductive Pk (ts:List (Nat×V)):List Nat→List (Nat×V)→List (Nat×V)→Prop
 |nil {S:List (Nat×V)}:Pk ts [] S S
 |p {k p:Nat} {c:List Nat} {S r:List (Nat×V)} (t:Pk ts c S r):Pk ts (k::(p+1)::c) S ((k,.o (.c (.ptr p 0)))::r)
 |h {k:Nat} {ps:List Nat} {x:T} {c:List Nat} {S r:List (Nat×V)} (h:lk ts k=some (.o (.c (.rd ps x)))) (t:Pk ts c S r):Pk ts (k::0::c) S ((k,.o (.c (.rd ps x)))::r)
inductive Tp (l:List Ob):List Nat→List (Nat×Ob)→List Ob→Prop
 |nil {B:List (Nat×Ob)}:Tp l [] B []
 |s {r:List Ob} {o:Ob} {p:Nat} {ρ:List Nat} {B:List (Nat×Ob)} (t:Tp l ρ B r):Tp l (p::ρ) ((p,o)::B) (o::r)
 |h {r:List Ob} {k:Nat} {es:List (List T)} {p:Nat} {ρ:List Nat} {B:List (Nat×Ob)} (h:l[p]? = some (.row k es)) (t:Tp l ρ B r):Tp l (p::ρ) B (.row k es::r)
 |g {r:List Ob} {k:Nat} {x:V2} {p:Nat} {ρ:List Nat} {B:List (Nat×Ob)} (h:l[p]? = some (.gh k x)) (t:Tp l ρ B r):Tp l (p::ρ) B (.gh k x::r)
theorem AL.kp {P:Program} {E:Env} {Q:Exit→St→Prop} {n:Nat} {ts tmps:List (Nat×V)} {obs objs:List Ob} {ops:Array Oper} {l:List Oper} (ks:List Nat) (S:List (Nat×V)) (c:Nat) (B:List (Nat×Ob)) (h:AL P E ops Q l ⟨n,tmps,objs⟩) (_:Pk ts ks S tmps:=by repeat (first | exact .nil | apply Pk.p | (apply Pk.h; · exact rfl))) (_:Tp obs (List.range c) B objs:=by repeat (first | exact .nil | apply Tp.s | (apply Tp.h; · exact rfl) | (apply Tp.g; · exact rfl))) (w:(ndB (List.range c),objs.length,objs.map (Ob.ren (rho (List.range c) obs.length)),selL ts tmps)=(true,(List.range c).length,(List.range c).map (fun p=>obs.getD p .gone),tmps.map fun e=>(e.1,e.2.ren (rho (List.range c) obs.length))):=by kernel_rfl):AL P E ops Q l ⟨n,ts,obs⟩:=AL.weak (Yj (List.range c) w) h
theorem AWP.kp {P:Program} {E:Env} {Q:Exit→St→Prop} {n:Nat} {ts tmps:List (Nat×V)} {obs objs:List Ob} {c0:Code} (ks:List Nat) (S:List (Nat×V)) (c:Nat) (B:List (Nat×Ob)) (h:AWP P E c0 Q ⟨n,tmps,objs⟩) (_:Pk ts ks S tmps:=by repeat (first | exact .nil | apply Pk.p | (apply Pk.h; · exact rfl))) (_:Tp obs (List.range c) B objs:=by repeat (first | exact .nil | apply Tp.s | (apply Tp.h; · exact rfl) | (apply Tp.g; · exact rfl))) (w:(ndB (List.range c),objs.length,objs.map (Ob.ren (rho (List.range c) obs.length)),selL ts tmps)=(true,(List.range c).length,(List.range c).map (fun p=>obs.getD p .gone),tmps.map fun e=>(e.1,e.2.ren (rho (List.range c) obs.length))):=by kernel_rfl):AWP P E c0 Q ⟨n,ts,obs⟩:=AWP.pre h (Yj (List.range c) w)
theorem AL.kr {P:Program} {E:Env} {Q:Exit→St→Prop} {n:Nat} {ts tmps:List (Nat×V)} {obs objs:List Ob} {ops:Array Oper} {l:List Oper} (ks:List Nat) (S:List (Nat×V)) (ρ:List Nat) (B:List (Nat×Ob)) (h:AL P E ops Q l ⟨n,tmps,objs⟩) (_:Pk ts ks S tmps:=by repeat (first | exact .nil | apply Pk.p | (apply Pk.h; · exact rfl))) (_:Tp obs ρ B objs:=by repeat (first | exact .nil | apply Tp.s | (apply Tp.h; · exact rfl) | (apply Tp.g; · exact rfl))) (w:(ndB ρ,objs.length,objs.map (Ob.ren (rho ρ obs.length)),selL ts tmps)=(true,ρ.length,ρ.map (fun p=>obs.getD p .gone),tmps.map fun e=>(e.1,e.2.ren (rho ρ obs.length))):=by kernel_rfl):AL P E ops Q l ⟨n,ts,obs⟩:=AL.weak (Yj ρ w) h
theorem AWP.kr {P:Program} {E:Env} {Q:Exit→St→Prop} {n:Nat} {ts tmps:List (Nat×V)} {obs objs:List Ob} {c0:Code} (ks:List Nat) (S:List (Nat×V)) (ρ:List Nat) (B:List (Nat×Ob)) (h:AWP P E c0 Q ⟨n,tmps,objs⟩) (_:Pk ts ks S tmps:=by repeat (first | exact .nil | apply Pk.p | (apply Pk.h; · exact rfl))) (_:Tp obs ρ B objs:=by repeat (first | exact .nil | apply Tp.s | (apply Tp.h; · exact rfl) | (apply Tp.g; · exact rfl))) (w:(ndB ρ,objs.length,objs.map (Ob.ren (rho ρ obs.length)),selL ts tmps)=(true,ρ.length,ρ.map (fun p=>obs.getD p .gone),tmps.map fun e=>(e.1,e.2.ren (rho ρ obs.length))):=by kernel_rfl):AWP P E c0 Q ⟨n,ts,obs⟩:=AWP.pre h (Yj ρ w)
theorem AL.kq {P:Program} {E:Env} {Q:Exit→St→Prop} {n:Nat} {ts tmps:List (Nat×V)} {obs:List Ob} {ops:Array Oper} {l:List Oper} (ks:List Nat) (S:List (Nat×V)) (objs:List Ob) (h:AL P E ops Q l ⟨n,tmps,objs⟩) (_:Pk ts ks S tmps:=by repeat (first | exact .nil | apply Pk.p | (apply Pk.h; · exact rfl)))  (w:(ndB (List.range objs.length),objs.length,objs.map (Ob.ren (rho (List.range objs.length) obs.length)),selL ts tmps)=(true,(List.range objs.length).length,(List.range objs.length).map (fun p=>obs.getD p .gone),tmps.map fun e=>(e.1,e.2.ren (rho (List.range objs.length) obs.length))):=by kernel_rfl):AL P E ops Q l ⟨n,ts,obs⟩:=AL.weak (Yj (List.range objs.length) w) h
theorem AWP.kq {P:Program} {E:Env} {Q:Exit→St→Prop} {n:Nat} {ts tmps:List (Nat×V)} {obs:List Ob} {c0:Code} (ks:List Nat) (S:List (Nat×V)) (objs:List Ob) (h:AWP P E c0 Q ⟨n,tmps,objs⟩) (_:Pk ts ks S tmps:=by repeat (first | exact .nil | apply Pk.p | (apply Pk.h; · exact rfl)))  (w:(ndB (List.range objs.length),objs.length,objs.map (Ob.ren (rho (List.range objs.length) obs.length)),selL ts tmps)=(true,(List.range objs.length).length,(List.range objs.length).map (fun p=>obs.getD p .gone),tmps.map fun e=>(e.1,e.2.ren (rho (List.range objs.length) obs.length))):=by kernel_rfl):AWP P E c0 Q ⟨n,ts,obs⟩:=AWP.pre h (Yj (List.range objs.length) w)
@[reducible] def Lx (N:Nat) (I:Nat→Prop) (n:Nat) (T:Nat→List (Nat×V)) (O:Nat→List Ob) (m:Nat) (st':St):Prop:=∃ m',m'<m∧∃ st'',(∃ k,k+m'=N∧I k∧st''=(⟨n,T k,O k⟩:St))∧Wk st' st''
theorem A_lp {P:Program} {E:Env} {Q:Exit→St→Prop} {st:St} {c:Code} {n:Nat} (N:Nat) (I:Nat→Prop) (T:Nat→List (Nat×V)) (O:Nat→List Ob) (h0:I 0) (w:Wk st ⟨n,T 0,O 0⟩) (round:∀ m k,k+m=N→I k→AWP P E c (thn (Lx N I n T O m) Q) ⟨n,T k,O k⟩):AWP P E (.loop c) Q st :=
 Xj (fun m st=>∃ k,k+m=N∧I k∧st=(⟨n,T k,O k⟩:St)) N ⟨_,⟨0,Gx1 _,h0,rfl⟩,w⟩ fun m st ⟨k,a,b,e⟩=>e▸round m k a b
theorem A_lt {P:Program} {E:Env} {Q:Exit→St→Prop} {st:St} {c:Code} {n:Nat} (N:Nat) (T:Nat→List (Nat×V)) (O:Nat→List Ob) (w:Wk st ⟨n,T 0,O 0⟩) (round:∀ m k,k+m=N→AWP P E c (thn (Lx N (fun _=>True) n T O m) Q) ⟨n,T k,O k⟩):AWP P E (.loop c) Q st:=A_lp N _ T O trivial w fun m k a _=>round m k a
theorem Lx.n {N:Nat} {I:Nat→Prop} {n:Nat} {T:Nat→List (Nat×V)} {O:Nat→List Ob} {m:Nat} {st':St} (k:Nat) (hp:I k) (w:Wk st' ⟨n,T k,O k⟩) (h:N-k<m∧k+(N-k)=N:=by omega):Lx N I n T O m st':=⟨N-k,h.1,_,⟨k,h.2,hp,rfl⟩,w⟩
theorem Lx.t {N:Nat} {n:Nat} {T:Nat→List (Nat×V)} {O:Nat→List Ob} {m:Nat} {st':St} (k:Nat) (w:Wk st' ⟨n,T k,O k⟩) (h:N-k<m∧k+(N-k)=N:=by omega):Lx N (fun _=>True) n T O m st' := .n k trivial w h
theorem E_w {P:Program} {fn:Func} {objs':List Ob} {res:V} {st:St} {t:Tmp} {x:V2} (ρ:List Nat) (h:(fn.results,look st.tmps t,ndB ρ,objs'.length,objs'.map (Ob.ren (rho ρ st.objs.length)))=(#[.tmp t],V.o x,true,ρ.length,ρ.map fun p=>st.objs.getD p .gone)) (hv:V.o x=res.ren (rho ρ st.objs.length)):Ends P fn objs' res st:=by
 simp only[Prod.mk.injEq] at h
 exact Xp h.1 h.2.1 (Yh ρ (ndB_nd h.2.2.1) h.2.2.2.1 h.2.2.2.2 hv)
theorem Con.o {P:Program} {f:FuncId} {fn:Func} {c:Code} {objs objs':List Ob} {args:List V2} {res:V} {nt:Nat} (hf:P.funcs[f]? = some fn) (hn:fn.ntmps=nt) (h:∀ E,AWP P E c (Fin P fn objs' res) ⟨nt,argT 0 args,objs⟩) (hb:(fn.body,Nat.ble args.length nt)=(some c,true):=by rfl):Con P f objs args objs' res:=by
 simp only[Prod.mk.injEq] at hb
 exact Con.of hf hb.1 hn hb.2 h
end
section
open Go.RowKit

inductive Fc:List Bool→List (Nat×V)→List (Nat×V)→Prop
 |stop {cs:List Bool} {ts:List (Nat×V)}:Fc cs ts ts
 |hit {cs:List Bool} {ts ts':List (Nat×V)} {d:Nat} {x:V2} (h:Fc cs ts ts'):Fc cs ((d,.iff cs x)::ts) ((d,.o x)::ts')
 |hit1 {c:Bool} {cs:List Bool} {ts ts':List (Nat×V)} {d:Nat} {x:V2} (h:Fc (c::cs) ts ts'):Fc (c::cs) ((d,.iff cs x)::ts) ((d,.o x)::ts')
 |hit2 {b c:Bool} {cs:List Bool} {ts ts':List (Nat×V)} {d:Nat} {x:V2} (h:Fc (b::c::cs) ts ts'):Fc (b::c::cs) ((d,.iff cs x)::ts) ((d,.o x)::ts')
 |part {c:Bool} {cs:List Bool} {ts ts':List (Nat×V)} {d:Nat} {x:V2} (h:Fc cs ts ts'):Fc cs ((d,.iff (c::cs) x)::ts) ((d,.iff [c] x)::ts')
 |skip {cs:List Bool} {ts ts':List (Nat×V)} {e:Nat×V} (h:Fc cs ts ts'):Fc cs (e::ts) (e::ts')

section
variable {P:Program} {E:Env} {ops:Array Oper} {o:Oper} {n:Nat} {ts ts':List (Nat×V)} {obs:List Ob} {rest:List Oper} {Q:Exit→St→Prop} {d:Nat} {st:St} {w:World} {H:Hs} {F:Nat→Prop} {a:Act}

theorem Fc.look {cs:List Bool} (h:Fc cs ts ts') (hc:∀ c∈cs,c=true):∀ (d:Nat) (v:Value),RV w H F (Go.Proofs.YtalaljeokcpfnaaGreat.look ts d) v→RV w H F (Go.Proofs.YtalaljeokcpfnaaGreat.look ts' d) v:=by
 induction h with
 |stop=>exact fun d v h=>h
 |hit h ih | hit1 h ih | hit2 h ih | part h ih | skip h ih => ?_
 ·intro d v hv
  rw[Zq] at hv ⊢
  split
  ·rw[if_pos Aqe] at hv; exact hv.1 hc
  ·rw[if_neg Aqe] at hv; exact ih hc d v hv
 ·intro d v hv
  rw[Zq] at hv ⊢
  split
  ·rw[if_pos Aqe] at hv; exact hv.1 fun c h=>hc c (Gxc _ h)
  ·rw[if_neg Aqe] at hv; exact ih hc d v hv
 ·intro d v hv
  rw[Zq] at hv ⊢
  split
  ·rw[if_pos Aqe] at hv; exact hv.1 fun c h=>hc c (Gxc _ (Gxc _ h))
  ·rw[if_neg Aqe] at hv; exact ih hc d v hv
 ·intro d v hv
  rw[Zq] at hv ⊢
  split
  ·rw[if_pos Aqe] at hv
   exact⟨fun h1=>hv.1 fun c h=>(List.mem_cons.1 h).elim (fun e=>h1 c (by simp[e])) (hc c),fun c h1 h2=>hv.2 c (by simp at h1; simp[h1]) h2⟩
  ·rw[if_neg Aqe] at hv; exact ih hc d v hv
 ·rename_i e
  obtain⟨e1,e2⟩:=e
  intro d v hv
  rw[Zq] at hv ⊢
  split
  ·rw[if_pos Aqe] at hv; exact hv
  ·rw[if_neg Aqe] at hv; exact ih hc d v hv
theorem R0.fc {cs:List Bool} (hr:R0 w H F ⟨n,ts,obs⟩ a) (h:Fc cs ts ts') (hc:∀ c∈cs,c=true):R0 w H F ⟨n,ts',obs⟩ a :=
 ⟨hr.ok,hr.obs,fun d=>h.look hc d _ (hr.tmp d),hr.size,hr.defers⟩

theorem wanted_of {j e:Nat} {b y:Bool} (hg:o.guard=some (j,b)) (hj:(ops[j]?).bind (·.dst)=some e) (h4:a.tmps.getD e undef = .bool y):Region.wanted o (yielded ops a.tmps)=(y == b):=by
 have hlt:e<a.tmps.size:=by
  rcases Gqr e a.tmps.size with h | h
  ·exact h
  ·rw[Gq5,Array.getElem?_eq_none h] at h4
   cases h4
 have h5:a.tmps[e]? = some (.bool y):=by
  rw[Gq5,Gxe hlt] at h4
  rw[Gxe hlt]
  exact congrArg some h4
 simp only[Region.wanted,hg,yielded,hj,Option.bind_some,h5]
 cases y <;> cases b <;> rfl
theorem wanted_undef {j e:Nat} {b:Bool} (hg:o.guard=some (j,b)) (hj:(ops[j]?).bind (·.dst)=some e) (h4:a.tmps.getD e undef=undef):Region.wanted o (yielded ops a.tmps)=false:=by
 have h5:a.tmps[e]? = none∨a.tmps[e]? = some undef:=by
  rcases Gqr e a.tmps.size with h | h
  ·rw[Gq5,Gxe h] at h4
   exact .inr (by rw[Gxe h]; exact congrArg some h4)
  ·exact .inl (Array.getElem?_eq_none h)
 rcases h5 with h5 | h5 <;> simp[Region.wanted,hg,yielded,hj,h5,undef]

theorem Qt.grd {j e m:Nat} {b y:Bool} {ps:List Nat} {x:V2} (c:Bool) (hc:c=(y == b)) (hg:o.guard=some (j,b)) (hj:(ops[j]?).bind (·.dst)=some e) (hy:look ts e = .o (.c (.rd ps (.v (.bool y))))) (hf:Fc [c] ts ts')
  (h:c=true→Qt P ops ⟨o.dst,o.op,o.type,o.pos,o.after,none⟩ ⟨n,ts',obs⟩ (.o x) [] m):Qt P ops o ⟨n,ts,obs⟩ (.iff [c] x) [] m:=by
 subst hc
 refine⟨fun a w H F Q K hr hfree hK=>?_⟩
 have h3:=hr.tmp e
 rw[hy] at h3
 have hw:=wanted_of (o:=o) (ops:=ops) (a:=a) hg hj (RO.plain h3).1
 rw[hw]
 by_cases hb:(y == b)=true
 ·rw[if_pos hb]
  have h1:=(h hb).h a w H F Q K (hr.fc hf (by simpa using hb)) hfree fun v w' H' F' hg' hok hob hno hv=>hK v w' H' F' hg' hok hob hno ⟨fun _=>hv,fun c h1 h2=>by simp at h1; rw[h1,hb] at h2; cases h2⟩
  rw[if_pos (by rfl)] at h1
  exact h1
 ·rw[if_neg hb]
  refine hK undef w H F (Grow.refl w H F) hr.ok (fun i ob hi=>by simp at hi) (fun p hp _=>hp) ⟨fun h=>absurd (h _ Aqd) hb,fun _ _ _=>rfl⟩
theorem Qt.grd2 {j e m:Nat} {b y:Bool} {ps:List Nat} {x:V2} {cs:List Bool} (c:Bool) (hc:c=(y == b)) (hg:o.guard=some (j,b)) (hj:(ops[j]?).bind (·.dst)=some e) (hy:look ts e = .iff cs (.c (.rd ps (.v (.bool y))))) (hf:Fc (c::cs) ts ts')
  (h:c=true→(∀ c∈cs,c=true)→Qt P ops ⟨o.dst,o.op,o.type,o.pos,o.after,none⟩ ⟨n,ts',obs⟩ (.o x) [] m):Qt P ops o ⟨n,ts,obs⟩ (.iff (c::cs) x) [] m:=by
 subst hc
 refine⟨fun a w H F Q K hr hfree hK=>?_⟩
 have h3:=hr.tmp e
 rw[hy] at h3
 by_cases hcs:∀ c∈cs,c=true
 ·have hw:=wanted_of (o:=o) (ops:=ops) (a:=a) hg hj (RO.plain (h3.1 hcs)).1
  rw[hw]
  by_cases hb:(y == b)=true
  ·rw[if_pos hb]
   have hall:∀ c∈(y == b)::cs,c=true:=fun c hc=>(List.mem_cons.1 hc).elim (fun e=>e▸hb) (hcs c)
   have h1:=(h hb hcs).h a w H F Q K (hr.fc hf hall) hfree fun v w' H' F' hg' hok hob hno hv=>hK v w' H' F' hg' hok hob hno ⟨fun _=>hv,fun c h1 h2=>by rw[hall c h1] at h2; cases h2⟩
   rw[if_pos (by rfl)] at h1
   exact h1
  ·rw[if_neg hb]
   refine hK undef w H F (Grow.refl w H F) hr.ok (fun i ob hi=>by simp at hi) (fun p hp _=>hp) ⟨fun h=>absurd (h _ Aqd) hb,fun _ _ _=>rfl⟩
 ·have hex:∃ c∈cs,c=false:=by
   refine Classical.byContradiction fun hn=>hcs fun c hc=>?_
   cases hb:c
   ·exact absurd ⟨c,hc,hb⟩ hn
   ·rfl
  obtain⟨c1,h4,h5⟩:=hex
  rw[wanted_undef (o:=o) (ops:=ops) (a:=a) hg hj (h3.2 c1 h4 h5),if_neg Aqd]
  refine hK undef w H F (Grow.refl w H F) hr.ok (fun i ob hi=>by simp at hi) (fun p hp _=>hp) ⟨fun h=>absurd (h c1 (by simp[h4])) (by simp[h5]),fun _ _ _=>rfl⟩
section
variable {j e m:Nat} {y:Bool} {ps:List Nat} {x:V2} {cs:List Bool}
theorem Qt.grdT (hg:o.guard=some (j,true)) (hj:(ops[j]?).bind (·.dst)=some e) (hy:look ts e = .o (.c (.rd ps (.v (.bool y))))) (hf:Fc [y] ts ts')
  (h:y=true→Qt P ops ⟨o.dst,o.op,o.type,o.pos,o.after,none⟩ ⟨n,ts',obs⟩ (.o x) [] m):Qt P ops o ⟨n,ts,obs⟩ (.iff [y] x) [] m := .grd y Aqd hg hj hy hf h
theorem Qt.grdF (hg:o.guard=some (j,false)) (hj:(ops[j]?).bind (·.dst)=some e) (hy:look ts e = .o (.c (.rd ps (.v (.bool y))))) (hf:Fc [!y] ts ts')
  (h:(!y)=true→Qt P ops ⟨o.dst,o.op,o.type,o.pos,o.after,none⟩ ⟨n,ts',obs⟩ (.o x) [] m):Qt P ops o ⟨n,ts,obs⟩ (.iff [!y] x) [] m := .grd (!y) Aqd hg hj hy hf h
theorem Qt.grd2T (hg:o.guard=some (j,true)) (hj:(ops[j]?).bind (·.dst)=some e) (hy:look ts e = .iff cs (.c (.rd ps (.v (.bool y))))) (hf:Fc (y::cs) ts ts')
  (h:y=true→(∀ c∈cs,c=true)→Qt P ops ⟨o.dst,o.op,o.type,o.pos,o.after,none⟩ ⟨n,ts',obs⟩ (.o x) [] m):Qt P ops o ⟨n,ts,obs⟩ (.iff (y::cs) x) [] m := .grd2 y Aqd hg hj hy hf h
theorem Qt.grd2F (hg:o.guard=some (j,false)) (hj:(ops[j]?).bind (·.dst)=some e) (hy:look ts e = .iff cs (.c (.rd ps (.v (.bool y))))) (hf:Fc ((!y)::cs) ts ts')
  (h:(!y)=true→(∀ c∈cs,c=true)→Qt P ops ⟨o.dst,o.op,o.type,o.pos,o.after,none⟩ ⟨n,ts',obs⟩ (.o x) [] m):Qt P ops o ⟨n,ts,obs⟩ (.iff ((!y)::cs) x) [] m := .grd2 (!y) Aqd hg hj hy hf h

theorem Qt.no2 {j b e m} {x:V2} (hg:o.guard=some (j,b)) (hj:(ops[j]?).bind (·.dst)=some e) (hy:look st.tmps e = .iff [false] x):Qt P ops o st NO [] m:=by
 refine⟨fun a w H F Q K hr hf hK=>?_⟩
 have h3:=hr.tmp e
 rw[hy] at h3
 rw[wanted_undef (o:=o) (ops:=ops) (a:=a) hg hj (h3.2 false Aqd rfl),if_neg Aqd]
 exact Bjk
theorem run_pick {c x z:Operand} (ho:o.op = .pick c x z) (h1:a.eval c = .bool y):(execOp a.eval o).run P w = .ok (.value (if y then a.eval x else a.eval z)) w:=by
 simp[execOp,ho,h1,asBool]
theorem Vm {c:Operand} {u:Bool} {qs:List Nat} {t:Nat} (ho:o.op = .pick c (.const (.bool true)) (.tmp t)) (hg:o.guard=none) (hc:st.ev c = .o (.c (.rd ps (.v (.bool y))))) (hz:look st.tmps t = .iff [!y] (.c (.rd qs (.v (.bool u))))):Qt P ops o st (B (y || u)) [] m :=
 .pure hg fun a w H F hr=>⟨.bool (y || u),by
  have h1:=hr.plain hc
  have h2:=hr.at_ t
  rw[hz] at h2
  rw[run_pick ho h1]
  cases y
  ·have h3:=(RO.plain (h2.1 Aqd)).1
   show Result.ok (Next.value (a.tmps.getD t undef)) w=_
   rw[h3]
   rfl
  ·rfl,plainV _ rfl⟩
theorem Kh {c:Operand} {u:Bool} {qs:List Nat} {t:Nat} (ho:o.op = .pick c (.tmp t) (.const (.bool false))) (hg:o.guard=none) (hc:st.ev c = .o (.c (.rd ps (.v (.bool y))))) (hz:look st.tmps t = .iff [y] (.c (.rd qs (.v (.bool u))))):Qt P ops o st (B (y&&u)) [] m :=
 .pure hg fun a w H F hr=>⟨.bool (y&&u),by
  have h1:=hr.plain hc
  have h2:=hr.at_ t
  rw[hz] at h2
  rw[run_pick ho h1]
  cases y
  ·rfl
  ·have h3:=(RO.plain (h2.1 Aqd)).1
   show Result.ok (Next.value (a.tmps.getD t undef)) w=_
   rw[h3]
   rfl,plainV _ rfl⟩
end
end
end
end Go.Proofs.YtalaljeokcpfnaaGreat
