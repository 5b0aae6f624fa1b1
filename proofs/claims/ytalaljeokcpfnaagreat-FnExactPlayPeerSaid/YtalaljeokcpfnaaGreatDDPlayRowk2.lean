/-
  Rules, data and contracts of functions: part 3 of the proof.
  Conditions: those that each theorem names.
-/
import Derived.Deep.LoopGhost
import Derived.Test.YtalaljeokcpfnaaGreatDDPlayRowk1
set_option linter.unusedSimpArgs false
set_option linter.unusedVariables false
namespace Go.Proofs.YtalaljeokcpfnaaGreat
section
open Go.RowKit

@[reducible] def B (b:Bool):V := .o (.c (.rd [] (.v (.bool b))))
@[reducible] def I (n:Int):V := .o (.c (.rd [] (.v (.int .i64 n))))

@[reducible] def NO:V := .iff [false] (.c .un)
def St.ev (st:St):Operand→V
 | .tmp t=>look st.tmps t
 | .const v=>if v.oneCell' then .o (.c (.rd [] (.v v))) else U
 | .global _=>U
 | .func f => .o (.c (.rd [] (.v (.func (.func f) #[] #[]))))

section
variable {P:Program} {E:Env} {Q:Exit→St→Prop} {st:St} {w:World} {H:Hs} {F:Nat→Prop} {a:Act}

theorem R0.at_ (h:R0 w H F st a) (d:Nat):RV w H F (look st.tmps d) (a.tmps.getD d undef):=h.tmp d
theorem R0.ev (h:R0 w H F st a) (x:Operand):RV w H F (st.ev x) (a.eval x):=by
 cases x with
 |tmp t=>exact h.at_ t
 |const v =>
  simp only[St.ev]
  split
  ·exact RO.v v Aqe 
  ·trivial
 |global g=>trivial
 |func f=>exact RO.v _ rfl

theorem R0.plain (h:R0 w H F st a) {x:Operand} {u:Value} {ps:List Nat} (he:st.ev x = .o (.c (.rd ps (.v u)))):a.eval x=u:=by
 have:=h.ev x
 rw[he] at this
 exact (RO.plain this).1

/-! ### Weaker knowledge -/
def Wk (st st':St):Prop:=∀ (w:World) (H:Hs) (F:Nat→Prop) (a:Act),R0 w H F st a→∃ H',R0 w H' F st' a∧(∀ p b,b∈(H' p).fp→∃ q,b∈(H q).fp)∧∀ p i v,H' p = .gh i v→∃ q,H q = .gh i v

theorem Wk.refl (st:St):Wk st st:=fun _ H _ _ h=>⟨H,h,fun p _ hb=>⟨p,hb⟩,fun p _ _ h=>⟨p,h⟩⟩
theorem Wk.trans {st st' st'':St} (h:Wk st st') (k:Wk st' st''):Wk st st'':=fun w H F a hr=>by
 obtain⟨H',h1,h2,g2⟩:=h w H F a hr
 obtain⟨H'',h3,h4,g4⟩:=k w H' F a h1
 exact⟨H'',h3,fun p b hb=>by obtain⟨q,hq⟩:=h4 p b hb; exact h2 q b hq,fun p i v hp=>by obtain⟨q,hq⟩:=g4 p i v hp; exact g2 q i v hq⟩
theorem Rel.weak {st st':St} (hw:Wk st st') (h:Rel E st a w):Rel E st' a w:=by
 obtain⟨H,F,h1,h2⟩:=h
 obtain⟨H',h3,h4,g4⟩:=hw w H F a h1
 exact⟨H',F,h3,h2.os,h2.tape,h2.output,h2.size,h2.keep,h2.fF,h2.fF',fun p b hb=>by obtain⟨q,hq⟩:=h4 p b hb; exact h2.org q b hq,fun p i v hp=>by obtain⟨q,hq⟩:=g4 p i v hp; exact h2.gh q i v hq⟩
theorem AWP.weak {c:Code} {st':St} (hw:Wk st st') (h:AWP P E c Q st'):AWP P E c Q st:=⟨fun a w hr=>h.h a w (hr.weak hw)⟩
theorem AWP.mono {c:Code} {Q':Exit→St→Prop} (hq:∀ e st,Q e st→Q' e st) (h:AWP P E c Q st):AWP P E c Q' st:=⟨fun a w hr =>
 wp_mono (h.h a w hr) fun e _ _ ⟨st',h1,h2⟩=>⟨st',hq e st' h1,h2⟩⟩

/-! ### Code -/
def thn0 (K:St→Prop) (Q:Exit→St→Prop):Exit→St→Prop
 | .normal,st=>K st
 | .exit id,st=>Q (.exit id) st
 | .goto l,st=>Q (.goto l) st
 | .ret,st=>Q .ret st
 | .panic c,st=>Q (.panic c) st
 | .outgrown,st=>Q .outgrown st
structure thn (K:St→Prop) (Q:Exit→St→Prop) (e:Exit) (st:St):Prop where
 h:thn0 K Q e st
def blk0 (id:Nat) (Q:Exit→St→Prop):Exit→St→Prop
 | .exit id',st=>if id'=id then Q .normal st else Q (.exit id') st
 | .normal,st=>Q .normal st
 | .goto l,st=>Q (.goto l) st
 | .ret,st=>Q .ret st
 | .panic c,st=>Q (.panic c) st
 | .outgrown,st=>Q .outgrown st

structure blk (id:Nat) (Q:Exit→St→Prop) (e:Exit) (st:St):Prop where
 h:blk0 id Q e st

theorem Qd {x y:Code} (h:AWP P E x (thn (AWP P E y Q) Q) st):AWP P E (.seq x y) Q st:=⟨fun a w hr =>
 wp_seq (wp_mono (h.h a w hr) fun e a' w' ⟨st',hq,hr'⟩=>by
  have hq:=hq.h
  cases e with
  |normal=>exact hq.h a' w' hr'
  |_=>exact⟨st',hq,hr'⟩)⟩
theorem Qh (h:Q .normal st):AWP P E .skip Q st:=⟨fun _ _ hr=>wp_skip ⟨st,h,hr⟩⟩
theorem Xa (h:Q .ret st):AWP P E .ret Q st:=⟨fun _ _ hr=>wp_ret ⟨st,h,hr⟩⟩
theorem Q9 {id:Nat} (h:Q (.exit id) st):AWP P E (.exit id) Q st:=⟨fun _ _ hr=>wp_exit ⟨st,h,hr⟩⟩
theorem Qk {id:Nat} {c:Code} (h:AWP P E c (blk id Q) st):AWP P E (.block id c) Q st:=⟨fun a w hr =>
 wp_block (wp_mono (h.h a w hr) fun e a' w' ⟨st',hq,hr'⟩=>by
  have hq:=hq.h
  cases e with
  |exit id' =>
   show if id'=id then _ else _
   simp only[blk0] at hq
   split
   ·rw[if_pos Aqe] at hq; exact⟨st',hq,hr'⟩
   ·rw[if_neg Aqe] at hq; exact⟨st',hq,hr'⟩
  |_=>exact⟨st',hq,hr'⟩)⟩
theorem Xb {c:Operand} {x y:Code} {b:Bool} {ps:List Nat} (hc:st.ev c = .o (.c (.rd ps (.v (.bool b))))) (ht:b=true→AWP P E x Q st) (hf:b=false→AWP P E y Q st):AWP P E (.cond c x y) Q st:=⟨fun a w hr=>by
 obtain⟨H,F,h1,h2⟩:=hr
 refine wp_cond (t:=b) (h1.plain hc) ?_
 cases b
 ·exact (hf rfl).h a w ⟨H,F,h1,h2⟩
 ·exact (ht rfl).h a w ⟨H,F,h1,h2⟩⟩
theorem Qm {c:Operand} {x y:Code} {ps:List Nat} (hc:st.ev c = .o (.c (.rd ps (.v (.bool true))))) (h:AWP P E x Q st):AWP P E (.cond c x y) Q st:=Xb hc (fun _=>h) fun e=>by cases e
theorem Ql {c:Operand} {x y:Code} {ps:List Nat} (hc:st.ev c = .o (.c (.rd ps (.v (.bool false))))) (h:AWP P E y Q st):AWP P E (.cond c x y) Q st:=Xb hc (fun e=>by cases e) fun _=>h
theorem A_loop {c:Code} (I:Nat→St→Prop) (n:Nat) (h0:∃ st',Wk st st'∧I n st')
  (round:∀ n st,I n st→AWP P E c (thn (fun st'=>∃ m,m<n∧∃ st'',Wk st' st''∧I m st'') Q) st):AWP P E (.loop c) Q st:=⟨fun a w hr=>by
 obtain⟨st',hw,hI⟩:=h0
 refine wp_loop_ghost (fun n a w=>∃ st,I n st∧Rel E st a w) n ⟨st',hI,hr.weak hw⟩ ?_
 intro m a' w' ⟨st1,h1,h2⟩
 refine wp_mono ((round m st1 h1).h a' w' h2) fun e a'' w'' ⟨st2,hq,hr2⟩ => ?_
 have hq:=hq.h
 cases e with
 |normal =>
  obtain⟨m',hlt,st3,hw3,h3⟩:=hq
  exact⟨m',hlt,st3,h3,hr2.weak hw3⟩
 |_=>exact⟨st2,hq,hr2⟩⟩
theorem Q0 {K:St→Prop} (h:K st):thn K Q .normal st:=⟨h⟩
theorem T_x {K:St→Prop} {id:Nat} (h:Q (.exit id) st):thn K Q (.exit id) st:=⟨h⟩
theorem T_r {K:St→Prop} (h:Q .ret st):thn K Q .ret st:=⟨h⟩
theorem Q1 {id:Nat} (h:Q .normal st):blk id Q .normal st:=⟨h⟩
theorem B_r {id:Nat} (h:Q .ret st):blk id Q .ret st:=⟨h⟩
theorem Xl {id:Nat} (h:Q .normal st):blk id Q (.exit id) st:=⟨by
 show if id=id then _ else _
 rw[if_pos rfl]
 exact h⟩
theorem B_xo {id id':Nat} (hn:Nat.beq id' id=false) (h:Q (.exit id') st):blk id Q (.exit id') st:=⟨by
 show if id'=id then _ else _
 rw[if_neg fun e=>by rw[e,show Nat.beq id id=true from Gxz id] at hn; cases hn]
 exact h⟩

/-! ### A list of operations -/
structure AL (P:Program) (E:Env) (ops:Array Oper) (Q:Exit→St→Prop) (l:List Oper) (st:St):Prop where
 mk' ::
 h:∀ a w,Rel E st a w→wpList P ops (fun e a' w'=>∃ st',Q e st'∧Rel E st' a' w') l a w
theorem Qc {id:Nat} {l:List Oper} (h:AL P E l.toArray Q l st):AWP P E (.region id l.toArray false) Q st:=⟨fun a w hr=>wp_region_lit (h.h a w hr)⟩
theorem Qe {ops:Array Oper} (h:Q .normal st):AL P E ops Q [] st:=⟨fun _ _ hr=>wpList_nil ⟨st,h,hr⟩⟩

/-! ### Renumbering -/
def V1.ren (f:Nat→Nat):V1→V1
 | .rd ps x => .rd (ps.map f) x
 | .ref p => .ref (f p)
 | .ptr p i => .ptr (f p) i
 | .sb p n k => .sb (f p) n k
 | .el p k i j => .el (f p) k i j
 | .rp ps xs => .rp (ps.map f) xs
 | .le p k i j => .le (f p) k i j
 | .hd p n => .hd (f p) n
 | .tl p k n => .tl (f p) k n
 | .un => .un
def V2.ren (f:Nat→Nat):V2→V2
 | .c x => .c (x.ren f)
 | .ag xs => .ag (xs.map (V1.ren f))
def V.ren (f:Nat→Nat):V→V
 | .o x => .o (x.ren f)
 | .tu xs => .tu (xs.map (V2.ren f))
 | .iff cs x => .iff cs (x.ren f)
def Ob.ren (f:Nat→Nat):Ob→Ob
 | .gone => .gone
 | .hole => .hole
 | .box cs => .box (cs.map (V1.ren f))
 | .row k es => .row k es
 | .gh i x => .gh i (x.ren f)
 | .lk x y => .lk (x.ren f) (y.ren f)

def rho (ρ:List Nat) (n:Nat) (p:Nat):Nat:=ρ.getD p n

section
variable {f:Nat→Nat} {w:World} {H:Hs} {F:Nat→Prop}
theorem R1.ren {x:V1} {v:Value} (h:R1 w H F (x.ren f) v):R1 w (fun p=>H (f p)) F x v:=by
 have hin:∀ (ps:List Nat) (b:Nat),inP H F (ps.map f) b→inP (fun p=>H (f p)) F ps b:=by
  intro ps b hb
  rcases hb with hb | ⟨p,hp,hb⟩
  ·exact .inl hb
  ·obtain⟨q,hq,rfl⟩:=Gqv.1 hp
   exact .inr ⟨q,hq,hb⟩
 cases x with
 |rd ps x=>exact RO.weak h fun b hb _=>hin ps b hb
 |ref p=>exact h
 |ptr p i=>exact h
 |sb p n k=>exact h
 |el p k i j=>exact h
 |le p k i j=>exact h
 |hd p n=>exact h
 |tl p k n=>exact h
 |rp ps xs =>
  obtain⟨b,o,hv,hb,hc⟩:=h
  refine⟨b,o,hv,hin ps b hb,fun j t hj=>?_⟩
  obtain⟨u,h1,h2⟩:=hc j t hj
  exact⟨u,h1,RO.weak h2 fun b hb _=>hin ps b hb⟩
 |un=>trivial
theorem R2.ren {x:V2} {v:Value} (h:R2 w H F (x.ren f) v):R2 w (fun p=>H (f p)) F x v:=by
 cases x with
 |c x=>exact R1.ren h
 |ag xs =>
  obtain⟨us,e,hl,hr⟩:=h
  exact⟨us,e,by simpa using hl,fun i x u h1 h2=>R1.ren (hr i (x.ren f) u (by simp[h1]) h2)⟩
theorem RV.ren {x:V} {v:Value} (h:RV w H F (x.ren f) v):RV w (fun p=>H (f p)) F x v:=by
 cases x with
 |o x=>exact R2.ren h
 |tu xs =>
  obtain⟨us,e,hl,hr⟩:=h
  exact⟨us,e,by simpa using hl,fun i x u h1 h2=>R2.ren (hr i (x.ren f) u (by simp[h1]) h2)⟩
 |iff cs x=>exact⟨fun hc=>R2.ren (h.1 hc),h.2⟩
theorem RB.ren {p:Nat} {ob:Ob} (h:RB w H F (f p) (ob.ren f)):RB w (fun p=>H (f p)) F p ob:=by
 cases ob with
 |gone=>exact h
 |hole=>trivial
 |box cs =>
  obtain⟨a,t,vs,e,hl,hr⟩:=h
  exact⟨a,t,vs,e,by simpa using hl,fun i c u h1 h2=>⟨R1.ren (hr i (c.ren f) u (by simp[h1]) h2).1,(hr i (c.ren f) u (by simp[h1]) h2).2⟩⟩
 |row k es=>exact h
 |gh i x=>obtain⟨v,e,hr⟩:=h; exact⟨v,e,R2.ren hr⟩
 |lk x y=>obtain⟨v,e,h1,h2⟩:=h; exact⟨v,e,R1.ren h1,R1.ren h2⟩
end

inductive Wl (xs:List (Nat×V)):List (Nat×V)→Prop
 |nil:Wl xs []
 |cons {d:Nat} {y:V} {ys:List (Nat×V)} (e:look xs d=y) (h:Wl xs ys):Wl xs ((d,y)::ys)
theorem Wl.c {xs:List (Nat×V)} {d:Nat} {y:V} {ys:List (Nat×V)} (e:look xs d=y) (h:Wl xs ys):Wl xs ((d,y)::ys) := .cons e h
theorem Zq (d e:Nat) (y:V) (l:List (Nat×V)):look ((d,y)::l) e=if d=e then y else look l e:=by
 simp only[look]
 by_cases h:d=e
 ·rw[if_pos h,h,show Nat.beq e e=true from Gxz e]
 ·have h':Nat.beq d e=false:=by
   cases hb:Nat.beq d e
   ·rfl
   ·exact absurd (Gq8 hb) h
  rw[if_neg h,h']
theorem Wl.at_ {xs ys:List (Nat×V)} (h:Wl xs ys) (d:Nat):look ys d=U∨look ys d=look xs d:=by
 induction h with
 |nil=>exact .inl rfl
 |cons e h ih =>
  rw[Zq]
  split
  ·rename_i hd; subst hd; exact .inr e.symm
  ·exact ih
theorem Zi {α:Type} {l:List α} {d:Nat} {x y:α} (h:l[d]? = some x):l.getD d y=x:=by simp[Gqf,h]

theorem Wk.ren {st:St} (ρ:List Nat) (objs:List Ob) (tmps:List (Nat×V)) (hnd:ρ.Nodup) (hl:objs.length=ρ.length) (ho:objs.map (Ob.ren (rho ρ st.objs.length))=ρ.map fun p=>st.objs.getD p .gone)
  (ht:Wl st.tmps (tmps.map fun e=>(e.1,e.2.ren (rho ρ st.objs.length)))):Wk st ⟨st.n,tmps,objs⟩:=by
 intro w H F a h
 obtain⟨f,hf⟩:∃ f,f=rho ρ st.objs.length:=⟨_,rfl⟩
 rw[←hf] at ho ht
 have hout:∀ p,ρ.length≤p→H (f p) = .nil:=by
  intro p hp
  have h1:f p=st.objs.length:=by rw[hf]; simp[rho,Gqf,hp]
  have h2:=h.obs (f p)
  rw[h1] at h2
  rw[h1]
  simpa[Gqf,RB] using h2
 have hin:∀ p,p<ρ.length→ρ[p]? = some (f p):=by
  intro p hp
  rw[hf]
  simp[rho,Gqf,hp]
 have hinj:∀ p q,p<ρ.length→q<ρ.length→f p=f q→p=q:=by
  intro p q hp hq e
  obtain⟨a1,e1⟩:=Gqo.1 (hin p hp)
  obtain⟨a2,e2⟩:=Gqo.1 (hin q hq)
  rcases Nat.lt_trichotomy p q with hlt | h | hlt
  ·exact absurd (by rw[e1,e2,e]) (List.pairwise_iff_getElem.1 hnd p q a1 a2 hlt)
  ·exact h
  ·exact absurd (by rw[e1,e2,e]) (List.pairwise_iff_getElem.1 hnd q p a2 a1 hlt)
 have hmem:∀ p b,b∈(H (f p)).fp→p<ρ.length:=fun p b hb=>by
  rcases Gqr p ρ.length with h1 | h1
  ·exact h1
  ·rw[hout p h1] at hb
   simp[Pc.fp] at hb
 refine⟨fun p=>H (f p),⟨⟨fun p=>h.ok.says _,fun p=>h.ok.nodup _,fun p q b hb hc=>hinj p q (hmem p b hb) (hmem q b hc) (h.ok.disj _ _ b hb hc),fun p b hb=>h.ok.free _ b hb,h.ok.flt⟩,fun p=>?_,fun d=>?_,h.size,h.defers⟩,fun p b hb=>⟨f p,hb⟩,fun p i v hp=>⟨f p,hp⟩⟩
 ·refine RB.ren ?_
  rcases Gqr p ρ.length with h1 | h1
  ·have h2:=congrArg (·[p]?) ho
   simp only[Gqk,hin p h1,Gq1] at h2
   obtain⟨ob,h3,h4⟩:=Option.map_eq_some_iff.1 h2
   rw[show objs.getD p .gone=ob from Zi h3]
   show RB w H F (f p) (ob.ren f)
   rw[h4]
   exact h.obs (f p)
  ·rw[show objs.getD p .gone = .gone by simp[Gqf,hl,h1]]
   exact hout p h1
 ·have hl:∀ l:List (Nat×V),look (l.map fun e=>(e.1,e.2.ren f)) d=(look l d).ren f:=by
   intro l
   induction l with
   |nil=>rfl
   |cons e l ih =>
    obtain⟨e1,e2⟩:=e
    rw[List.map_cons,Zq,Zq]
    split
    ·rfl
    ·exact ih
  have h1:=ht.at_ d
  rw[hl] at h1
  refine RV.ren ?_
  rcases h1 with h1 | h1
  ·rw[h1]; trivial
  ·rw[h1]; exact h.tmp d

end
section
variable {P:Program} {E:Env} {Q:Exit→St→Prop} {st:St}
theorem Xj {c:Code} (I:Nat→St→Prop) (n:Nat) (h0:∃ st',I n st'∧Wk st st') (round:∀ n st,I n st→AWP P E c (thn (fun st'=>∃ m,m<n∧∃ st'',I m st''∧Wk st' st'') Q) st):AWP P E (.loop c) Q st :=
 A_loop I n (by obtain⟨s,h,w⟩:=h0; exact⟨s,w,h⟩) fun n st h=>AWP.mono (fun e st h=>⟨by
  have h:=h.h
  cases e with
  |normal=>obtain⟨m,a,s,b,w⟩:=h; exact⟨m,a,s,w,b⟩
  |_=>exact h⟩) (round n st h)
end
end
section
open Go.RowKit

def rowTy (P:Program) (t:TypeId):Bool:=match P.underlying t with | some d=>d.isRow | none=>false
class TyRow (P:Program) (t:TypeId) (n:outParam Nat):Prop where
 row:rowTy P t=true
 size:(P.info? t).map (·.size)=some n
class TyOne (P:Program) (t:TypeId):Prop where
 one:rowTy P t=false
 known:(P.underlying t).isSome=true
 size:(P.info? t).map (·.size)=some 1
class TyZero (P:Program) (t:TypeId) (zs:outParam (List Value)):Prop where
 zero:(P.info? t).map (fun i=>i.zero.map (·.cells.toList))=some (some zs)
class TyMake (P:Program) (t:TypeId) (e:outParam TypeId) (zs:outParam (List Value)) (bytes:outParam Nat):Prop where
 slice:P.underlying t=some (.slice e)
 info:(P.info? e).map (fun i=>(i.zero.map (·.cells.toList),i.size,i.bytes))=some (some zs,zs.length,bytes)
def placesOf (P:Program) (t:TypeId):Option (List (Nat×Nat)) :=
 match P.underlying t with
 |some (.struct fs)=>fs.toList.mapM fun f=>(P.info? f.type).map fun i=>(f.offset,i.size)
 |_=>none
class TyPl (P:Program) (t:TypeId) (ps:outParam (List (Nat×Nat))):Prop where
 places:placesOf P t=some ps
class TyStr (P:Program) (t:TypeId):Prop where
 str:P.underlying t=some .string
class TyInt (P:Program) (t:TypeId) (k:outParam IntKind):Prop where
 int:P.underlying t=some (.int k)
class TyBool (P:Program) (t:TypeId):Prop where
 bool:P.underlying t=some .bool
class TyArr (P:Program) (t:TypeId) (n:outParam Nat) (k:outParam Nat):Prop where
 arr:(match P.underlying t with | some (.array n e)=>(P.info? e).map fun i=>(n,i.size) | _=>none)=some (n,k)

theorem add_lit (b o m:Nat):(⟨b,o,none⟩:Addr).add m=⟨b,o+m,none⟩:=by
 unfold Addr.add
 split
 ·rename_i e
  subst e
  rfl
 ·rfl

section
variable {P:Program} {w:World}

def Cells (w:World) (b o:Nat) (cs:List Value):Prop:=∀ (j:Nat) (u:Value),cs[j]? = some u→w.cell? ⟨b,o+j,none⟩=some u

theorem V3 (t:TypeId) (b i n:Nat) (cs:List Value) [hr:TyRow P t n] (hc:Cells w b i cs) (hl:cs.length=n) :
  (Instr.loadAt t (.pointer (some ⟨b,i,none⟩))).run P w = .ok (.agg cs.toArray) w:=by
 have h:=hr.row
 have hn:=hr.size
 unfold rowTy at h
 split at h
 ·exact run_loadAt_mid w b i t cs _ hc Aqe h (by rw[hn,hl])
 ·cases h
theorem V0 (t:TypeId) [ht:TyOne P t] (b i:Nat) (v:Value) (hc:w.cell? ⟨b,i,none⟩=some v) :
  (Instr.loadAt t (.pointer (some ⟨b,i,none⟩))).run P w = .ok v w:=by
 obtain⟨d,hd⟩:=Option.isSome_iff_exists.1 ht.known
 have hr:=ht.one
 have hagg:(isAgg t).run P w = .ok false w:=by
  unfold isAgg
  rw[Sem.run_bind,run_underlying hd w]
  unfold rowTy at hr
  rw[hd] at hr
  cases d <;> simp_all [TypeDesc.isRow]
 simp[Instr.loadAt,Instr.sureAddr,loadVar,hagg,load,Sem.run,hc]
theorem run_storeAt_one (t:TypeId) [ht:TyOne P t] (b i:Nat) (v old:Value) (h1:v.oneCell'=true) (hc:w.cell? ⟨b,i,none⟩=some old) (hf:w.frozen? ⟨b,i,none⟩=false) :
  (Instr.storeAt t (.pointer (some ⟨b,i,none⟩)) v).run P w = .ok () (w.setCell ⟨b,i,none⟩ v):=by
 obtain⟨j,hj,hj1⟩:=Option.map_eq_some_iff.1 ht.size
 have hvc:v.cells=#[v]:=by cases v <;> first | rfl | (simp[Value.oneCell'] at h1)
 have hadd:(⟨b,i,none⟩:Addr).add 0=⟨b,i,none⟩:=by simp[Addr.add]
 simp[Instr.storeAt,Instr.sureAddr,storeVar,sizeOf,typeInfo,hj,hj1,hvc,storeCells,hadd,run_store P w _ v .plain h1,hc,hf]
theorem run_zeroValue (t:TypeId) {zs:List Value} [hz:TyZero P t zs]:∃ z,(zeroValue t).run P w = .ok z w∧z.cells=zs.toArray:=by
 obtain⟨i,hi,hz'⟩:=Option.map_eq_some_iff.1 hz.zero
 obtain⟨z,hz1,hz2⟩:=Option.map_eq_some_iff.1 hz'
 exact⟨z,by simp[zeroValue,typeInfo,hi,hz1],by rw[←hz2]⟩
theorem mapM_get {α β:Type} {f:α→Option β}:∀ {l:List α} {r:List β},l.mapM f=some r→∀ i:Nat,r[i]? = (l[i]?).bind f
 | [],r,h,i=>by simp at h; subst h; simp
 | a::l,r,h,i=>by
  rw[List.mapM_cons] at h
  cases hf:f a with
  |none=>simp[hf] at h
  | some b =>
   cases hm:l.mapM f with
   |none=>simp[hf,hm] at h
   |some r' =>
    simp[hf,hm] at h
    subst h
    cases i with
    |zero=>simp[hf]
    |succ i=>simpa using mapM_get hm i
theorem run_fieldAt (s:TypeId) (b i f:Nat) {ps:List (Nat×Nat)} [hp:TyPl P s ps] {o n:Nat} (h:ps[f]? = some (o,n)) (hn:n≠0) :
  (Instr.fieldAt s (.pointer (some ⟨b,i,none⟩)) f).run P w = .ok (.pointer (some ⟨b,i+o,none⟩)) w:=by
 have hp':=hp.places
 unfold placesOf at hp'
 split at hp'
 ·rename_i fs hu
  have h1:=mapM_get hp' f
  rw[h] at h1
  cases hf:fs.toList[f]? with
  |none=>simp[hf] at h1
  |some fd =>
   rw[hf] at h1
   obtain⟨inf,h2,h3⟩:=Option.map_eq_some_iff.1 (show (P.info? fd.type).map (fun i=>(fd.offset,i.size))=some (o,n) from h1.symm)
   simp only[Prod.mk.injEq] at h3
   obtain⟨h3,h4⟩:=h3
   have hf':fs[f]? = some fd:=by simpa using hf
   simp[Instr.fieldAt,run_underlying hu,hf',Instr.sureAddr,fieldPlace,sizeOf,typeInfo,h2,h4,hn,h3,add_lit]
 ·cases hp'
theorem Vz (t:TypeId) (b o n c:Nat) (k:IntKind) (i:Int) {e:TypeId} {zs:List Value} {by_:Nat} [hm:TyMake P t e zs by_] (h0:0≤i) (h1:i<n) :
  (Instr.indexAt t (.slice (some ⟨b,o,none⟩) n c) (.int k i)).run P w = .ok (.pointer (some ⟨b,o+i.toNat*zs.length,none⟩)) w:=by
 obtain⟨inf,hi,hzz⟩:=Option.map_eq_some_iff.1 hm.info
 simp only[Prod.mk.injEq] at hzz
 obtain⟨hz1,hs,hb1⟩:=hzz
 have hc:(0≤i∧i<(n:Int)):=⟨h0,h1⟩
 simp only[Instr.indexAt,asIntOf,Sem.run_bind,Sem.run_pure,Result.andThen_ok,run_underlying hm.slice]
 rw[if_pos hc]
 simp[sizeOf,typeInfo,hi,hs,add_lit]
end
end
end Go.Proofs.YtalaljeokcpfnaaGreat
