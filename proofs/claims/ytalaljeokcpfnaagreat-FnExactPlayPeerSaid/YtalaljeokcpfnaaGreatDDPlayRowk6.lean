/-
  Rules for operations that write to a call's own memory: stores into boxes, append. No statement of the program is proved here.
  Conditions: none.
-/
import Derived.Test.YtalaljeokcpfnaaGreatDDPlayRowk5
set_option linter.unusedSimpArgs false
set_option linter.unusedVariables false
namespace Go.Proofs.YtalaljeokcpfnaaGreat
section
open Go.RowKit

def V1.off (ps:List Nat):V1→Bool
 | .rd qs _=>qs.all fun q => !ps.contains q
 | .ref p => !ps.contains p
 | .ptr p _ => !ps.contains p
 | .sb p _ _ => !ps.contains p
 | .el p _ _ _ => !ps.contains p
 | .rp qs _=>qs.all fun q => !ps.contains q
 | .le p _ _ _ => !ps.contains p
 | .hd p _ => !ps.contains p
 | .tl p _ _ => !ps.contains p
 | .un=>true
def V1.kill (ps:List Nat) (x:V1):V1:=if x.off ps then x else .un
def V2.kill (ps:List Nat):V2→V2
 | .c x => .c (x.kill ps)
 | .ag xs => .ag (xs.map (V1.kill ps))
def V.kill (ps:List Nat):V→V
 | .o x => .o (x.kill ps)
 | .tu xs => .tu (xs.map (V2.kill ps))
 | .iff cs x => .iff cs (x.kill ps)
def Ob.kill (ps:List Nat):Ob→Ob
 | .box cs => .box (cs.map (V1.kill ps))
 | .gh i x => .gh i (x.kill ps)
 | .lk x y => .lk (x.kill ps) (y.kill ps)
 |ob=>ob

structure Turn (w:World) (H:Hs) (w':World) (H':Hs) (ps:List Nat):Prop where
 os:w'.os=w.os
 tape:w'.tape=w.tape
 output:w'.output=w.output
 size:w.heap.size≤w'.heap.size
 block:∀ b,b<w.heap.size→(∀ p∈ps,b∉(H p).fp)→w'.heap[b]? = w.heap[b]?
 keep:∀ p,p∉ps→H' p=H p
 fp:∀ p b,b∈(H' p).fp→(∃ q,b∈(H q).fp)∨w.heap.size≤b
 gh:∀ p i v,H' p = .gh i v→∃ q,H q = .gh i v

section
variable {P:Program} {E:Env} {ops:Array Oper} {o:Oper} {st:St} {n:Nat} {rest:List Oper} {QQ:Exit→St→Prop} {w w':World} {H H':Hs} {F:Nat→Prop} {a:Act} {ps:List Nat}

theorem off_all {qs:List Nat} (h:(qs.all fun q => !ps.contains q)=true):∀ q∈qs,q∉ps:=by
 intro q hq hp
 have:=Gqp.1 h q hq
 simp at this
 exact this hp
theorem off_one {q:Nat} (h:(!ps.contains q)=true):q∉ps:=by simpa using h

theorem Turn.inP (ht:Turn w H w' H' ps) (hok:Ok w H F) {qs:List Nat} (hq:∀ q∈qs,q∉ps) {b:Nat} (hb:inP H F qs b) (hlt:b<w.heap.size):Go.Proofs.YtalaljeokcpfnaaGreat.inP H' F qs b∧w'.heap[b]? = w.heap[b]? := by
 rcases hb with hb | ⟨q,h1,x,v,fp,e,hb⟩
 ·exact⟨.inl hb,ht.block b hlt fun p _ h=>hok.free p b h hb⟩
 ·refine⟨.inr ⟨q,h1,x,v,fp,by rw[ht.keep q (hq q h1),e],hb⟩,ht.block b hlt fun p hp h=>?_⟩
  have:=hok.disj p q b h Bxu
  exact hq q h1 (this▸hp)
theorem R1.turn (hok:Ok w H F) (ht:Turn w H w' H' ps) {x:V1} {v:Value} (hx:x.off ps=true) (h:R1 w H F x v):R1 w' H' F x v:=by
 cases x with
 |rd qs x=>exact RO.move h fun b hb hlt=>ht.inP hok (off_all hx) hb hlt
 |ref p=>obtain⟨x,fp,e⟩:=h; exact⟨x,fp,by rw[ht.keep p (off_one hx),e]⟩
 |ptr p i=>obtain⟨a,t,vs,e,hv⟩:=h; exact⟨a,t,vs,by rw[ht.keep p (off_one hx),e],hv⟩
 |sb p n k=>obtain⟨a,t,vs,e,hv⟩:=h; exact⟨a,t,vs,by rw[ht.keep p (off_one hx),e],hv⟩
 |el p k i j=>obtain⟨b,o,n,c,x,fp,e,hv⟩:=h; exact⟨b,o,n,c,x,fp,by rw[ht.keep p (off_one hx),e],hv⟩
 | rp qs xs =>
  obtain⟨b,o,hv,hb,hc⟩:=h
  by_cases hb':b<w.heap.size
  ·obtain⟨h1,h2⟩:=ht.inP hok (off_all hx) hb hb'
   refine⟨b,o,hv,h1,fun j t hj=>?_⟩
   obtain⟨u,h3,h4⟩:=hc j t hj
   exact⟨u,(World.cell?_of_block (w:=w) (a:=⟨b,o+j,none⟩) h2).trans h3,RO.move h4 fun b hb hlt=>ht.inP hok (off_all hx) hb hlt⟩
  ·have hnil:∀ (j:Nat) (t:T),xs[j]? ≠ some t:=fun j t hj=>by
    obtain⟨u,h3,_⟩:=hc j t hj
    exact hb' (World.block_lt_of_cell? w _ h3)
   have hin:inP H' F qs b:=by
    rcases hb with hb | ⟨q,h1,x,v,fp,e,hb⟩
    ·exact .inl hb
    ·exact .inr ⟨q,h1,x,v,fp,by rw[ht.keep q (off_all hx q h1),e],hb⟩
   exact⟨b,o,hv,hin,fun j t hj=>absurd hj (hnil j t)⟩
 |le p k i j =>
  obtain⟨b,o,n,c,x,fp,e,hb,h1,h2⟩:=h
  have hlt:=World.block_lt_of_cell? w _ h2
  refine⟨b,o,n,c,x,fp,by rw[ht.keep p (off_one hx),e],hb,h1,(World.cell?_of_block (w:=w) (a:=⟨b,o+i*k+j,none⟩) (ht.block b hlt fun q hq hbq=>?_)).trans h2⟩
  exact off_one hx (hok.disj p q b Bxu hbq▸hq)
 |hd p n=>obtain⟨A,m,c,x,fp,e,hv⟩:=h; exact⟨A,m,c,x,fp,by rw[ht.keep p (off_one hx),e],hv⟩
 |tl p k n=>obtain⟨A,A',m,c,x,fp,e,hv⟩:=h; exact⟨A,A',m,c,x,fp,by rw[ht.keep p (off_one hx),e],hv⟩
 |un=>trivial
theorem R1.killed (hok:Ok w H F) (ht:Turn w H w' H' ps) {x:V1} {v:Value} (h:R1 w H F x v):R1 w' H' F (x.kill ps) v:=by
 unfold V1.kill
 split
 ·exact R1.turn hok ht Aqe h
 ·trivial
theorem R2.killed (hok:Ok w H F) (ht:Turn w H w' H' ps) {x:V2} {v:Value} (h:R2 w H F x v):R2 w' H' F (x.kill ps) v:=by
 cases x with
 |c x=>exact R1.killed hok ht h
 |ag xs =>
  obtain⟨us,e,hl,hr⟩:=h
  refine⟨us,e,by simpa using hl,fun i x u hi hu=>?_⟩
  rw[Gqk] at hi
  obtain⟨c,h1,rfl⟩:=Option.map_eq_some_iff.1 hi
  exact R1.killed hok ht (hr i c u h1 hu)
theorem RV.killed (hok:Ok w H F) (ht:Turn w H w' H' ps) {x:V} {v:Value} (h:RV w H F x v):RV w' H' F (x.kill ps) v:=by
 cases x with
 |o x=>exact R2.killed hok ht h
 |tu xs =>
  obtain⟨us,e,hl,hr⟩:=h
  refine⟨us,e,by simpa using hl,fun i x u hi hu=>?_⟩
  rw[Gqk] at hi
  obtain⟨c,h1,rfl⟩:=Option.map_eq_some_iff.1 hi
  exact R2.killed hok ht (hr i c u h1 hu)
 |iff cs x=>exact⟨fun hc=>R2.killed hok ht (h.1 hc),h.2⟩
theorem RB.killed (hok:Ok w H F) (ht:Turn w H w' H' ps) {p:Nat} (hp:p∉ps) {ob:Ob} (h:RB w H F p ob):RB w' H' F p (ob.kill ps):=by
 cases ob with
 |gone=>exact (ht.keep p hp).trans h
 |hole=>trivial
 |box cs =>
  obtain⟨g,t,vs,e,hl,hr⟩:=h
  refine⟨g,t,vs,(ht.keep p hp).trans e,by simpa using hl,fun i c u hi hu=>?_⟩
  rw[Gqk] at hi
  obtain⟨c',h1,rfl⟩:=Option.map_eq_some_iff.1 hi
  exact⟨R1.killed hok ht (hr i c' u h1 hu).1,(hr i c' u h1 hu).2⟩
 |row k es=>obtain⟨v,fp,e⟩:=h; exact⟨v,fp,(ht.keep p hp).trans e⟩
 |gh i x=>obtain⟨v,e,hr⟩:=h; exact⟨v,(ht.keep p hp).trans e,R2.killed hok ht hr⟩
 |lk x y=>obtain⟨v,e,h1,h2⟩:=h; exact⟨v,(ht.keep p hp).trans e,R1.killed hok ht h1,R1.killed hok ht h2⟩

theorem R0.turn (h:R0 w H F st a) (ht:Turn w H w' H' ps) (hok:Ok w' H' F) (objs':List Ob) (h1:∀ p,p∉ps→objs'.getD p .gone=(st.objs.getD p .gone).kill ps) (h2:∀ p∈ps,RB w' H' F p (objs'.getD p .gone)) :
  R0 w' H' F ⟨st.n,st.tmps.map fun e=>(e.1,e.2.kill ps),objs'⟩ a:=by
 refine⟨hok,fun p=>?_,fun d=>?_,h.size,h.defers⟩
 ·by_cases hp:p∈ps
  ·exact h2 p hp
  ·show RB w' H' F p (objs'.getD p .gone)
   rw[h1 p hp]
   exact (h.obs p).killed h.ok ht hp
 ·have hl:∀ l:List (Nat×V),look (l.map fun e=>(e.1,e.2.kill ps)) d=(look l d).kill ps:=by
   intro l
   induction l with
   |nil=>rfl
   |cons e l ih =>
    obtain⟨e1,e2⟩:=e
    rw[List.map_cons,Zq,Zq]
    split
    ·rfl
    ·exact ih
  show RV w' H' F (look (st.tmps.map fun e=>(e.1,e.2.kill ps)) d) _
  rw[hl]
  exact (h.tmp d).killed h.ok ht
theorem R0.put {x:V} {v:Value} (h:R0 w H F st a) (dst:Option Tmp) (hd:dstOk st.n dst=true) (hv:RV w H F x v):R0 w H F ⟨st.n,setT st.tmps dst x,st.objs⟩ (a.put dst v):=by
 have:=h.grow (obs := []) (dst:=dst) hd (Grow.refl w H F) h.ok (fun i ob hi=>by simp at hi) (fun p hp _=>hp) hv
 rwa[Gqy] at this
theorem Since.turn (h:Since E w H F) (ht:Turn w H w' H' ps):Since E w' H' F:=by
 refine⟨ht.os.trans h.os,ht.tape.trans h.tape,ht.output.trans h.output,Gxo h.size ht.size,fun b h1 h2=>(ht.block b (Gx2 h1 h.size) fun p _ hb=>?_).trans (h.keep b h1 h2),h.fF,h.fF',fun p b hb=>?_,fun p i v hp=>by obtain⟨q,hq⟩:=ht.gh p i v hp; exact h.gh q i v hq⟩
 ·rcases h.org p b hb with ⟨q,hq⟩ | hq
  ·exact h2 q hq
  ·omega
 ·rcases ht.fp p b hb with ⟨q,hq⟩ | hq
  ·exact h.org q b hq
  ·exact .inr (Gxo h.size hq)

/-! ### Boxes -/
def setFrom {α:Type} (vs:List α) (i:Nat):List α→List α
 | []=>vs
 |c::cs=>setFrom (vs.set i c) (i+1) cs

theorem box_turn (h:R0 w H F st a) {p i g:Nat} {t:TypeId} {vs:List Value} {cs:List V1} {c:V1} {u:Value} (hp:st.objs[p]? = some (.box cs)) (hH:H p = .box g t vs) (hc:R1 w H F c u) (h1:u.oneCell'=true) (hi:i<cs.length) :
  R0 (w.setCell ⟨g,i,none⟩ u) (H.put p (.box g t (vs.set i u))) F ⟨st.n,st.tmps,st.objs.set p (.box (cs.set i c))⟩ a ∧
  ∀ {E:Env},Since E w H F→Since E (w.setCell ⟨g,i,none⟩ u) (H.put p (.box g t (vs.set i u))) F:=by
 have hsay:=h.ok.says p
 rw[hH] at hsay
 have hblk:∀ b,b≠g→(w.setCell ⟨g,i,none⟩ u).heap[b]? = w.heap[b]? := fun b hb=>Below.heap_setCell _ _ _ _ hb
 have hsz:(w.setCell ⟨g,i,none⟩ u).heap.size=w.heap.size:=by simp[World.setCell]
 have hg:(w.setCell ⟨g,i,none⟩ u).heap[g]? = some (.cells (vs.set i u).toArray t (0,0)):=by
  have h2:w.heap[g]? = some (.cells vs.toArray t (0,0)):=hsay
  simp[World.setCell,Array.getElem?_modify,h2]
 have hne:∀ q,q≠p→H.put p (.box g t (vs.set i u)) q=H q:=fun q hq=>Hs.put_ne H _ hq
 have hfp:∀ q,(H.put p (.box g t (vs.set i u)) q).fp=(H q).fp:=fun q=>by
  by_cases e:q=p
  ·subst e; rw[Hs.put_self,hH]; rfl
  ·rw[hne q e]
 have hin:∀ {qs:List Nat} {b:Nat},inP H F qs b→b<w.heap.size→inP (H.put p (.box g t (vs.set i u))) F qs b∧(w.setCell ⟨g,i,none⟩ u).heap[b]? = w.heap[b]? := by
  intro qs b hb hlt
  rcases hb with hb | ⟨q,h1,x,v,fp,e,hb⟩
  ·exact⟨.inl hb,hblk b fun e=>h.ok.free p b (by rw[hH,e]; simp[Pc.fp]) hb⟩
  ·have hqp:q≠p:=fun e'=>by rw[e',hH] at e; cases e
   refine⟨.inr ⟨q,h1,x,v,fp,by rw[hne q hqp,e],hb⟩,hblk b fun e' => ?_⟩
   exact hqp (h.ok.disj q p b Bxu (by rw[hH,e']; simp[Pc.fp]))
 have hr1:∀ {x:V1} {v:Value},R1 w H F x v→R1 (w.setCell ⟨g,i,none⟩ u) (H.put p (.box g t (vs.set i u))) F x v:=by
  intro x v hx
  cases x with
  |rd qs x=>exact RO.move hx fun b hb hlt=>hin hb hlt
  |ref q =>
   obtain⟨x,fp,e⟩:=hx
   exact⟨x,fp,by rw[hne q fun e'=>by rw[e',hH] at e; cases e]; exact e⟩
  | ptr q j =>
   obtain⟨g',t',vs',e,hv⟩:=hx
   by_cases e':q=p
   ·subst e'
    rw[hH] at e
    simp only[Pc.box.injEq] at e
    obtain⟨rfl,rfl,rfl⟩:=e
    exact⟨_,_,_,Hs.put_self _ _ _,hv⟩
   ·exact⟨g',t',vs',(hne q e').trans e,hv⟩
  | sb q m k =>
   obtain⟨g',t',vs',e,hl,hm,hv⟩:=hx
   by_cases e':q=p
   ·subst e'
    rw[hH] at e
    simp only[Pc.box.injEq] at e
    obtain⟨rfl,rfl,rfl⟩:=e
    exact⟨_,_,_,Hs.put_self _ _ _,by simpa using hl,hm,hv⟩
   ·exact⟨g',t',vs',(hne q e').trans e,hl,hm,hv⟩
  |el q k i' j =>
   obtain⟨b,o',m,c',x,fp,e,hv⟩:=hx
   exact⟨b,o',m,c',x,fp,by rw[hne q fun e'=>by rw[e',hH] at e; cases e]; exact e,hv⟩
  | rp qs xs =>
   obtain⟨b,o',hv,hb,hcs⟩:=hx
   by_cases hb':b<w.heap.size
   ·obtain⟨h3,h4⟩:=hin hb hb'
    refine⟨b,o',hv,h3,fun j t hj=>?_⟩
    obtain⟨u',h5,h6⟩:=hcs j t hj
    exact⟨u',(World.cell?_of_block (w:=w) (a:=⟨b,o'+j,none⟩) h4).trans h5,RO.move h6 fun b hb hlt=>hin hb hlt⟩
   ·refine⟨b,o',hv,?_,fun j t hj=>?_⟩
    ·rcases hb with hb | ⟨q,h1,x,v,fp,e,hb⟩
     ·exact .inl hb
     ·exact .inr ⟨q,h1,x,v,fp,by rw[hne q fun e'=>by rw[e',hH] at e; cases e]; exact e,hb⟩
    ·obtain⟨u',h5,_⟩:=hcs j t hj
     exact absurd (World.block_lt_of_cell? w _ h5) hb'
  |hd q m =>
   obtain⟨A,m',c,x,fp,e,hv⟩:=hx
   exact⟨A,m',c,x,fp,by rw[hne q fun e'=>by rw[e',hH] at e; cases e]; exact e,hv⟩
  |tl q k m =>
   obtain⟨A,A',m',c,x,fp,e,hv⟩:=hx
   exact⟨A,A',m',c,x,fp,by rw[hne q fun e'=>by rw[e',hH] at e; cases e]; exact e,hv⟩
  |le q k i' j =>
   obtain⟨b,o',m,c',x,fp,e,hb,h2,h3⟩:=hx
   have hqp:q≠p:=fun e'=>by rw[e',hH] at e; cases e
   exact⟨b,o',m,c',x,fp,by rw[hne q hqp]; exact e,hb,h2,(World.cell?_of_block (w:=w) (a:=⟨b,o'+i'*k+j,none⟩) (hblk b fun e'=>hqp (h.ok.disj q p b Bxu (by rw[hH,e']; simp[Pc.fp])))).trans h3⟩
  |un=>trivial
 have hr2:∀ {x:V2} {v:Value},R2 w H F x v→R2 (w.setCell ⟨g,i,none⟩ u) (H.put p (.box g t (vs.set i u))) F x v:=by
  intro x v hx
  cases x with
  |c x=>exact hr1 hx
  |ag xs=>obtain⟨us,e,hl,hr⟩:=hx; exact⟨us,e,hl,fun i x u h1 h2=>hr1 (hr i x u h1 h2)⟩
 have hrv:∀ {x:V} {v:Value},RV w H F x v→RV (w.setCell ⟨g,i,none⟩ u) (H.put p (.box g t (vs.set i u))) F x v:=by
  intro x v hx
  cases x with
  |o x=>exact hr2 hx
  |tu xs=>obtain⟨us,e,hl,hr⟩:=hx; exact⟨us,e,hl,fun i x u h1 h2=>hr2 (hr i x u h1 h2)⟩
  |iff cs x=>exact⟨fun hc=>hr2 (hx.1 hc),hx.2⟩
 obtain⟨hplt,_⟩:=Gqo.1 hp
 refine⟨⟨⟨fun q=>?_,fun q=>by rw[hfp]; exact h.ok.nodup q,fun q r b h1 h2=>by rw[hfp] at h1 h2; exact h.ok.disj q r b h1 h2,fun q b h1=>by rw[hfp] at h1; exact h.ok.free q b h1,fun b hb=>by rw[hsz]; exact h.ok.flt b hb⟩,fun q=>?_,fun d=>hrv (h.tmp d),h.size,h.defers⟩,fun hs=>?_⟩
 ·by_cases e:q=p
  ·subst e; rw[Hs.put_self]; exact hg
  ·rw[hne q e]
   refine Pc.frame (fun b hb=>hblk b fun e'=>e (h.ok.disj q p b hb (by rw[hH,e']; simp[Pc.fp]))) (h.ok.says q)
 ·by_cases e:q=p
  ·subst e
   have h3:(st.objs.set q (.box (cs.set i c))).getD q .gone = .box (cs.set i c):=by simp[Gqf,hplt]
   show RB _ _ _ q ((st.objs.set q (.box (cs.set i c))).getD q .gone)
   rw[h3]
   have h4:=h.obs q
   rw[Zi hp] at h4
   obtain⟨g',t',vs',e4,hl,hr⟩:=h4
   rw[hH] at e4
   simp only[Pc.box.injEq] at e4
   obtain⟨rfl,rfl,rfl⟩:=e4
   refine⟨_,_,_,Hs.put_self _ _ _,by simpa using hl,fun j d v h5 h6=>?_⟩
   rw[List.getElem?_set] at h5 h6
   split at h5
   ·rename_i e5
    subst e5
    rw[if_pos rfl,if_pos Aqa] at h6
    simp only[hi,if_true,Option.some.injEq] at h5 h6
    subst h5 h6
    exact⟨hr1 hc,h1⟩
   ·rename_i e5
    rw[if_neg e5] at h6
    exact⟨hr1 (hr j d v h5 h6).1,(hr j d v h5 h6).2⟩
  ·have h3:(st.objs.set p (.box (cs.set i c))).getD q .gone=st.objs.getD q .gone:=by simp[Gqf,Gxa (Ne.symm e)]
   show RB _ _ _ q ((st.objs.set p (.box (cs.set i c))).getD q .gone)
   rw[h3]
   have h4:=h.obs q
   cases ho:st.objs.getD q .gone with
   |gone=>rw[ho] at h4; exact (hne q e).trans h4
   |hole=>trivial
   |box ds=>rw[ho] at h4; obtain⟨g',t',vs',e4,hl,hr⟩:=h4; exact⟨g',t',vs',(hne q e).trans e4,hl,fun j d v h5 h6=>⟨hr1 (hr j d v h5 h6).1,(hr j d v h5 h6).2⟩⟩
   |row k es=>rw[ho] at h4; obtain⟨v,fp,e4⟩:=h4; exact⟨v,fp,(hne q e).trans e4⟩
   |gh i x=>rw[ho] at h4; obtain⟨v,e4,hr⟩:=h4; exact⟨v,(hne q e).trans e4,hr2 hr⟩
   |lk x y=>rw[ho] at h4; obtain⟨v,e4,k1,k2⟩:=h4; exact⟨v,(hne q e).trans e4,hr1 k1,hr1 k2⟩
 ·refine⟨hs.os,hs.tape,hs.output,by rw[hsz]; exact hs.size,fun b h1 h2=>(hblk b fun e=>?_).trans (hs.keep b h1 h2),hs.fF,hs.fF',fun q b hb=>by rw[hfp] at hb; exact hs.org q b hb,fun q i v hq=>by
   by_cases e:q=p
   ·subst e; rw[Hs.put_self] at hq; cases hq
   ·rw[hne q e] at hq; exact hs.gh q i v hq⟩
  subst e
  rcases hs.org p b (by rw[hH]; simp[Pc.fp]) with ⟨q,hq⟩ | hq
  ·exact h2 q hq
  ·omega

theorem box_turns {p g:Nat} {t:TypeId}:∀ (us:List Value) (ds:List V1) (i:Nat) {w:World} {H:Hs} {st:St} {vs:List Value} {cs:List V1} (h:R0 w H F st a) (hp:st.objs[p]? = some (.box cs)) (hH:H p = .box g t vs) (hl:us.length=ds.length)
  (hc:∀ (j:Nat) (d:V1) (u:Value),ds[j]? = some d→us[j]? = some u→R1 w H F d u∧u.oneCell'=true) (hi:i+ds.length≤cs.length),
  ∃ H',R0 (w.setCells g i us) H' F ⟨st.n,st.tmps,st.objs.set p (.box (setFrom cs i ds))⟩ a∧∀ {E:Env},Since E w H F→Since E (w.setCells g i us) H' F
 | [],[],i,w,H,st,vs,cs,h,hp,hH,_,_,_=>by
  refine⟨H,?_,fun hs=>hs⟩
  have:st.objs.set p (.box cs)=st.objs:=by
   obtain⟨h1,h2⟩:=Gqo.1 hp
   rw[←h2,List.set_getElem_self]
  show R0 w H F ⟨st.n,st.tmps,st.objs.set p (.box cs)⟩ a
  rw[this]
  exact h
 | u::us,d::ds,i,w,H,st,vs,cs,h,hp,hH,hl,hc,hi=>by
  obtain⟨h1,h2⟩:=hc 0 d u rfl rfl
  obtain⟨hplt,_⟩:=Gqo.1 hp
  have hlt:i<cs.length:=by simp at hi; omega
  obtain⟨h3,h4⟩:=box_turn h hp hH h1 h2 hlt
  have hside:∀ (j:Nat) (d':V1) (u':Value),ds[j]? = some d'→us[j]? = some u'→R1 (w.setCell ⟨g,i,none⟩ u) (H.put p (.box g t (vs.set i u))) F d' u'∧u'.oneCell'=true:=by
   intro j d' u' h7 h8
   obtain⟨h9,h10⟩:=hc (j+1) d' u' (by simpa using h7) (by simpa using h8)
   refine⟨?_,h10⟩
   -- ass in box_turn: by way of a state that holds the cell
   have h11:R0 w H F ⟨1,[(0,.o (.c d'))],st.objs⟩ ⟨#[u'],[]⟩:=by
    refine⟨h.ok,h.obs,fun e=>?_,J,J⟩
    show RV w H F (look [(0,.o (.c d'))] e) _
    rw[Zq]
    split
    ·rename_i e0; subst e0; exact h9
    ·trivial
   exact (box_turn h11 hp hH h1 h2 hlt).1.tmp 0
  obtain⟨H',h5,h6⟩:=box_turns us ds (i+1) (cs:=cs.set i d) h3 (by simp[hplt]) (Hs.put_self _ _ _) Bxs hside (by simp at hi ⊢; omega)
  refine⟨H',?_,fun hs=>h6 (h4 hs)⟩
  rw[List.set_set] at h5
  exact h5
 | [],_::_,_,_,_,_,_,_,_,_,_,hl,_,_=>by simp at hl
 |_::_,[],_,_,_,_,_,_,_,_,_,hl,_,_=>by simp at hl

section
variable {y z:Operand} {t t':TypeId} {k:IntKind} {i j:Int} {qs:List Nat}
theorem exec_store {a:Act} {w w':World} (ho:o.op = .store t y z) (h:(Instr.storeAt t (a.eval y) (a.eval z)).run P w = .ok () w'):(execOp a.eval o).run P w = .ok .skip w':=by
 unfold execOp
 simp only[ho,Sem.run_bind,h,Result.andThen_ok]
 rfl
theorem L_st1 {p m:Nat} {cs:List V1} {c:V1} [TyOne P t] (ho:o.op = .store t y z) (hg:o.guard=none) (hd:o.dst=none) (hy:st.ev y = .o (.c (.ptr p m))) (hz:st.ev z = .o (.c c)) (hp:st.objs[p]? = some (.box cs)) (hm:m<cs.length) (hk:c.known=true)
  (h:AL P E ops QQ rest ⟨st.n,st.tmps,st.objs.set p (.box (cs.set m c))⟩):AL P E ops QQ (o::rest) st:=by
 refine⟨fun a w ⟨H,F,h1,h2⟩ => ?_⟩
 obtain⟨g,tt,vs,e1,e2⟩:=h1.v1 hy
 obtain⟨g',t'',vs',e3,e4,hl,hcs⟩:=h1.bx hp
 rw[e1] at e3
 simp only[Pc.box.injEq] at e3
 obtain⟨rfl,rfl,rfl⟩:=e3
 have hc:=h1.v1 hz
 have hone:=R1.one (V1.known_ne hk) h1.ok hc
 have hmv:m<vs.length:=Aqa
 obtain⟨h3,h4⟩:=box_turn h1 hp e1 hc hone hm
 refine wpList_step fun K hK=>?_
 rw[if_pos Bq6]
 unfold Oper.wp
 rw[exec_store ho (w':=w.setCell ⟨g,m,none⟩ (a.eval z)) (by
  rw[e2]
  exact run_storeAt_one t g m (a.eval z) vs[m] hone (by rw[cell_of_row w g m vs.toArray tt (0,0) e4]; simp[hmv]) (by simp[World.frozen?,e4]))]
 show K (a.put o.dst undef) _
 rw[hd]
 exact hK _ _ (h.h _ _ ⟨_,F,h3,h4 h2⟩)
theorem L_stN {p m n':Nat} {cs ds:List V1} [hr:TyRow P t n'] (ho:o.op = .store t y z) (hg:o.guard=none) (hd:o.dst=none) (hy:st.ev y = .o (.c (.ptr p m))) (hz:st.ev z = .o (.ag ds)) (hp:st.objs[p]? = some (.box cs)) (hl:ds.length=n') (hm:m+ds.length≤cs.length) (hk:ds.all V1.known=true)
  (h:AL P E ops QQ rest ⟨st.n,st.tmps,st.objs.set p (.box (setFrom cs m ds))⟩):AL P E ops QQ (o::rest) st:=by
 refine⟨fun a w ⟨H,F,h1,h2⟩ => ?_⟩
 obtain⟨g,tt,vs,e1,e2⟩:=h1.v1 hy
 obtain⟨g',t'',vs',e3,e4,hl',hcs⟩:=h1.bx hp
 rw[e1] at e3
 simp only[Pc.box.injEq] at e3
 obtain⟨rfl,rfl,rfl⟩:=e3
 have hv:=h1.ev z
 rw[hz] at hv
 obtain⟨us,e5,hl5,hc5⟩:=hv
 have hone:∀ (j:Nat) (d:V1) (u:Value),ds[j]? = some d→us[j]? = some u→R1 w H F d u∧u.oneCell'=true:=fun j d u h6 h7=>⟨hc5 j d u h6 h7,R1.one (V1.known_ne (Gqp.1 hk d (Zk h6))) h1.ok (hc5 j d u h6 h7)⟩
 obtain⟨H',h3,h4⟩:=box_turns us ds m h1 hp e1 hl5 hone hm
 refine wpList_step fun K hK=>?_
 rw[if_pos Bq6]
 unfold Oper.wp
 rw[exec_store ho (w':=w.setCells g m us) (by
  rw[e2,e5]
  have:=run_storeAt_mid (P:=P) w g m t us.toArray (fun j hj=>⟨by rw[cell_of_row w g (m+j) vs.toArray tt (0,0) e4]; simp at hj; simp; omega,by simp[World.frozen?,e4]⟩) (by rw[hr.size]; simp[hl5,hl]) (by
   rw[Array.all_eq_true_iff_forall_mem]
   intro u hu
   obtain⟨j,hj⟩:=List.getElem?_of_mem (show u∈us by simpa using hu)
   exact (hone j _ u (Gqg (by rw[←hl5]; exact Zj hj)) hj).2)
  simpa using this)]
 show K (a.put o.dst undef) _
 rw[hd]
 exact hK _ _ (h.h _ _ ⟨_,F,h3,h4 h2⟩)

/-! ### Append -/
def srcOf (objs:List Ob):V1→Option (List (List T))
 | .rd _ (.v (.slice none 0 0))=>some []
 | .rd _ (.sl _ es)=>some es
 | .ref p=>match objs.getD p .gone with
  | .row _ es=>some es
  |_=>none
 | .sb p _ 1=>match objs.getD p .gone with
  | .box cs=>sbE cs
  |_=>none
 |_=>none
def plainT (es:List (List T)):Prop:=∀ e∈es,∀ t∈e,∃ u,t = .v u

theorem src_form (h:R0 w H F st a) {x:V1} {v:Value} {es:List (List T)} (hx:R1 w H F x v) (hs:srcOf st.objs x=some es):∃ A c,v = .slice A es.length c ∧
  ∀ (i:Nat) (e:List T),es[i]? = some e→∃ b o k,A=some ⟨b,o,none⟩∧0<k∧e.length=k∧∀ (j:Nat) (t:T),e[j]? = some t→∃ u,w.cell? ⟨b,o+i*k+j,none⟩=some u∧RO w (fun _=>True) t u:=by
 have key:∀ {k:Nat} {es':List (List T)} {G:Nat→Prop},RO w G (.sl k es') v→∃ A c,v = .slice A es'.length c∧∀ (i:Nat) (e:List T),es'[i]? = some e→∃ b o k,A=some ⟨b,o,none⟩∧0<k∧e.length=k∧∀ (j:Nat) (t:T),e[j]? = some t→∃ u,w.cell? ⟨b,o+i*k+j,none⟩=some u∧RO w (fun _=>True) t u:=by
  intro k es' G hr
  obtain⟨A,c,hv,_⟩:=hr.form
  refine⟨A,c,hv,fun i e hi=>?_⟩
  obtain⟨b,o,c',hv',_,hp,hl,hc⟩:=hr.at_ hi
  rw[hv] at hv'
  simp only[Value.slice.injEq] at hv'
  refine⟨b,o,k,hv'.1,hp,hl,fun j t hj=>?_⟩
  obtain⟨u,h1,h2⟩:=hc j t hj
  exact⟨u,h1,h2.weak fun _ _ _=>trivial⟩
 cases x with
 | rd qs x =>
  cases x with
  | v u =>
   obtain⟨rfl,_⟩:=RO.plain hx
   simp only[srcOf] at hs
   split at hs
   ·rename_i e
    simp only[V1.rd.injEq,T.v.injEq] at e
    obtain⟨_,rfl⟩:=e
    simp only[Option.some.injEq] at hs
    subst hs
    exact⟨none,0,J,fun i e hi=>by simp at hi⟩
   ·rename_i e
    cases e
   ·rename_i e
    cases e
   ·rename_i e
    cases e
   ·cases hs
  |sl k es' =>
   simp only[srcOf,Option.some.injEq] at hs
   subst hs
   exact key hx
  |un=>simp[srcOf] at hs
 | ref p =>
  have h1:=h.obs p
  simp only[srcOf] at hs
  cases ho:st.objs.getD p .gone with
  |row k es' =>
   rw[ho] at h1 hs
   simp only[Option.some.injEq] at hs
   subst hs
   obtain⟨u,fp,e⟩:=h1
   obtain⟨x,fp',e'⟩:=hx
   have h2:=h.ok.says p
   rw[e] at h2 e'
   simp only[Pc.ow.injEq] at e'
   obtain⟨_,rfl,_⟩:=e'
   exact key (OW.ro h2)
  |gone=>rw[ho] at hs; cases hs
  |hole=>rw[ho] at hs; cases hs
  |box cs=>rw[ho] at hs; cases hs
  |gh i x=>rw[ho] at hs; cases hs
  |lk x y=>rw[ho] at hs; cases hs
 |ptr=>simp[srcOf] at hs
 | sb p n' k =>
  obtain⟨g,t,vs,e1,e2,e3,rfl⟩:=hx
  unfold srcOf at hs
  split at hs
  ·rename_i e; cases e
  ·rename_i e; cases e
  ·rename_i e; cases e
  ·rename_i p' n'' e
   simp only[V1.sb.injEq] at e
   obtain⟨rfl,rfl,rfl⟩:=e
   have h1:=h.obs p
   split at hs
   ·rename_i cs ho
    rw[ho] at h1
    obtain⟨g',t',vs',e4,hl,hr⟩:=h1
    rw[e1] at e4
    simp only[Pc.box.injEq] at e4
    obtain⟨rfl,rfl,rfl⟩:=e4
    have hsay:=h.ok.says p
    rw[e1] at hsay
    obtain⟨k1,k2⟩:=sbE_ok _ _ hs
    refine⟨some ⟨g,0,none⟩,n',by rw[k1,←hl,e2,Nat.mul_one],fun i e hi=>?_⟩
    obtain⟨ps,u,k3,k4⟩:=k2 i e hi
    subst k4
    refine⟨g,0,1,J,Aqa,J,fun j t hj=>?_⟩
    cases j with
    |succ j=>simp at hj
    | zero =>
     simp only[Gxf,Option.some.injEq] at hj
     subst hj
     have hlt:i<vs.length:=by rw[hl]; exact Zj k3
     obtain⟨k5,k6⟩:=hr i _ _ k3 (Gqg hlt)
     obtain⟨k7,_⟩:=RO.plain k5
     refine⟨vs[i],?_,?_⟩
     ·rw[cell_of_row w g _ vs.toArray t (0,0) hsay]
      simp[hlt]
     ·rw[k7] at k6 ⊢
      exact .v u k6
   ·cases hs
  ·cases hs
 |el=>simp[srcOf] at hs
 |rp=>simp[srcOf] at hs
 |le=>simp[srcOf] at hs
 |hd=>simp[srcOf] at hs
 |tl=>simp[srcOf] at hs
 |un=>simp[srcOf] at hs

def plainV' (es:List (List T)) (i j:Nat):Value:=match (es.getD i []).getD j (.v undef) with | .v u=>u | _=>undef
theorem plainV'_at {es:List (List T)} {i j:Nat} {e:List T} {u:Value} (h1:es[i]? = some e) (h2:e[j]? = some (.v u)):plainV' es i j=u:=by
 unfold plainV'
 rw[Zi h1,Zi h2]
theorem append_src {tx e:TypeId} {zs:List Value} {by_:Nat} [hm:TyMake P t e zs by_] {kk:Nat} {es es':List (List T)} {v:Value} {fp:List Nat} (hw:OW w (.sl kk es) v fp) (hnd:fp.Nodup) (hkz:kk=zs.length) (hz0:zs ≠ []) {u:Value}
  (hsrc:Src P kk tx u es'.length (flatV (plainV' es') es'.length kk) w) (hpl:plainT es') (hkk:∀ e∈es',e.length=kk) (hb:(es.length+es'.length)*by_≤140737488355328) (h63:es.length+es'.length≤9223372036854775807) :
  ∃ v' w' fp',(Builtin.append_ #[t,tx] o.type #[v,u]).run P w = .ok v' w'∧OW w' (.sl kk (es++es')) v' fp'∧fp'.Nodup∧(∀ b∈fp',b∈fp∨w.heap.size≤b)∧Keeps w w' fp:=by
 have hzp:0<zs.length:=Gxy.2 hz0
 have hnil:(es'.map fun e=>e.map fun _=>([]:List Nat)).flatten.flatten = []:=by
  rw[List.flatten_eq_nil_iff]
  intro l hl
  rw[Gxn] at hl
  obtain⟨f,hf,hl⟩:=hl
  obtain⟨e,_,rfl⟩:=Gqv.1 hf
  obtain⟨_,_,rfl⟩:=Gqv.1 hl
  rfl
 obtain⟨v',w',fp',h1,h2,h3,h4,h5,_⟩:=run_append_ow (P:=P) (t:=t) (ty:=o.type) hw hkz hzp hnd es' (plainV' es') (es'.map fun e=>e.map fun _ => []) u hkk hsrc
   Aqd  (fun f hf=>by
   obtain⟨e,h6,rfl⟩:=Gqv.1 hf
   simpa using hkk e h6)
  (fun i j e t fs f h6 h7 h8 h9=>by
   rw[Gqk,h6] at h8
   simp only[Gq1,Option.some.injEq] at h8
   subst h8
   rw[Gqk,h7] at h9
   simp only[Gq1,Option.some.injEq] at h9
   subst h9
   obtain⟨u,rfl⟩:=hpl e (Zk h6) t (Zk h7)
   rw[plainV'_at h6 h7]
   refine .v u ?_
   have hi:=Zj h6
   have hj:j<kk:=by rw[←hkk e (Zk h6)]; exact Zj h7
   have:=hsrc.one _ (Zk (flatV_at (val:=plainV' es') hi hj))
   rwa[plainV'_at h6 h7] at this)
  (by rw[hnil]; exact List.nodup_nil)
  (fun b _ hb=>by rw[hnil] at hb; simp at hb) hb (by simpa[maxLen] using h63)
 refine⟨v',w',fp',h1,h2,h3,fun b hb=>?_,h5⟩
 rcases h4 b hb with h6 | h6 | h6
 ·exact .inl h6
 ·rw[hnil] at h6; simp at h6
 ·exact .inr h6
theorem Yr {e:TypeId} {zs:List Value} {by_:Nat} [hm:TyMake P t e zs by_] (h:R0 w H F st a) {kk:Nat} {es es':List (List T)} {v:Value} {fp:List Nat} (hw:OW w (.sl kk es) v fp) (hnd:fp.Nodup) (hkz:kk=zs.length) (hz0:zs ≠ []) {x:V1} {u:Value} (hx:R1 w H F x u) (hs:srcOf st.objs x=some es')
  (hpl:plainT es') (hkk:∀ e∈es',e.length=kk) (hb:(es.length+es'.length)*by_≤140737488355328) (h63:es.length+es'.length≤9223372036854775807) :
  ∃ v' w' fp',(Builtin.append_ #[t,t] o.type #[v,u]).run P w = .ok v' w'∧OW w' (.sl kk (es++es')) v' fp'∧fp'.Nodup∧(∀ b∈fp',b∈fp∨w.heap.size≤b)∧Keeps w w' fp:=by
 obtain⟨A,c,rfl,hsrc⟩:=src_form h hx hs
 have hcell:∀ i j (hi:i<es'.length) (hj:j<kk),∃ b o',A=some ⟨b,o',none⟩∧w.cell? ⟨b,o'+i*kk+j,none⟩=some (plainV' es' i j)∧(plainV' es' i j).oneCell'=true:=by
  intro i j hi hj
  have h6:=Gqg hi
  obtain⟨b,o',k,hA,hp,hk,hc⟩:=hsrc i _ h6
  have h7:k=kk:=by rw[←hk,hkk _ (Gqe hi)]
  subst h7
  have h8:j<(es'[i]).length:=Aqa
  obtain⟨u',h9,h10⟩:=hc j _ (Gqg h8)
  obtain⟨u'',h11⟩:=hpl _ (Gqe hi) _ (Gqe h8)
  rw[h11] at h10
  obtain⟨rfl,h12⟩:=RO.plain h10
  rw[plainV'_at h6 (by rw[Gqg h8,h11])]
  exact⟨b,o',hA,h9,h12⟩
 refine append_src (o:=o) hw hnd hkz hz0 (src_slice (zs:=zs) es' (plainV' es') A c (fun hne=>?_) fun i j hi hj=>by obtain⟨_,_,_,_,h⟩:=hcell i j hi hj; exact h) hpl hkk hb h63
 have hl:0<es'.length:=Gxy.2 hne
 have hk0:0<kk:=by rw[hkz]; exact Gxy.2 hz0
 obtain⟨b,o',hA,_⟩:=hcell 0 0 hl hk0
 refine⟨b,o',hA,fun i j hi hj=>?_⟩
 obtain⟨b',o'',hA',h1,_⟩:=hcell i j hi hj
 rw[hA] at hA'
 simp only[Option.some.injEq,Addr.mk.injEq] at hA'
 obtain⟨rfl,rfl,_⟩:=hA'
 exact h1

theorem Ok.turn (h:Ok w H F) {p:Nat} {fp:List Nat} (hfp:(H p).fp=fp) {w':World} (hk:Keeps w w' fp) (q:Pc) (hs:q.says w') (hn:q.fp.Nodup) (hng:q.ng) (hf:∀ b∈q.fp,b∈fp∨w.heap.size≤b):Ok w' (H.put p q) F∧Turn w H w' (H.put p q) [p]:=by
 have hne:∀ r,r≠p→H.put p q r=H r:=fun r hr=>Hs.put_ne H q hr
 have hb0:∀ r b,r≠p→b∈(H r).fp→b∉q.fp:=fun r b hr h1 h2=>by
  rcases hf b h2 with h3 | h3
  ·exact hr (h.disj r p b h1 (by rw[hfp]; exact h3))
  ·have:=h.lt h1; omega
 refine⟨⟨fun r=>?_,fun r=>?_,fun r s b h1 h2=>?_,fun r b h1 h2=>?_,fun b hb'=>Gx2 (h.flt b hb') hk.size⟩,hk.os,hk.tape,hk.output,hk.size,fun b h1 h2=>hk.block b h1 (by rw[←hfp]; exact h2 p Aqd),fun r hr=>hne r (by simpa using hr),fun r b hb=>?_,fun r i v hr=>?_⟩
 ·by_cases e:r=p
  ·subst e; rw[Hs.put_self]; exact hs
  ·rw[hne r e]
   exact Pc.frame (fun b hb'=>hk.block b (h.lt hb') fun hh=>e (h.disj r p b hb' (by rw[hfp]; exact hh))) (h.says r)
 ·by_cases e:r=p
  ·subst e; rw[Hs.put_self]; exact hn
  ·rw[hne r e]; exact h.nodup r
 ·by_cases e:r=p
  ·by_cases e':s=p
   ·rw[e,e']
   ·rw[e,Hs.put_self] at h1
    rw[hne s e'] at h2
    exact absurd h1 (hb0 s b e' h2)
  ·rw[hne r e] at h1
   by_cases e':s=p
   ·rw[e',Hs.put_self] at h2
    exact absurd h2 (hb0 r b e h1)
   ·rw[hne s e'] at h2
    exact h.disj r s b h1 h2
 ·by_cases e:r=p
  ·rw[e,Hs.put_self] at h1
   rcases hf b h1 with h3 | h3
   ·exact h.free p b (by rw[hfp]; exact h3) h2
   ·have:=h.flt b h2; omega
  ·rw[hne r e] at h1
   exact h.free r b h1 h2
 ·by_cases e:r=p
  ·rw[e,Hs.put_self] at hb
   rcases hf b hb with h3 | h3
   ·exact .inl ⟨p,by rw[hfp]; exact h3⟩
   ·exact .inr h3
  ·rw[hne r e] at hb
   exact .inl ⟨r,hb⟩
 ·by_cases e:r=p
  ·rw[e,Hs.put_self] at hr
   rw[hr] at hng
   exact hng.elim
  ·exact⟨r,by rw[←hne r e]; exact hr⟩

theorem Zf {tx:TypeId} {a:Act} {w w':World} {v:Value} (ho:o.op = .call { callee := .builtin .append,args:=#[y,z],argTypes:=#[t,tx] }) (h:(Builtin.append_ #[t,tx] o.type #[a.eval y,a.eval z]).run P w = .ok v w'):(execOp a.eval o).run P w = .ok (.value v) w':=by
 unfold execOp
 simp only[ho,resolve,invoke,builtin,Sem.run_bind,Sem.run_pure,Result.andThen_ok,List.map_toArray,List.map_cons,List.map_nil,h]

theorem L_appx {p kk:Nat} {tx:TypeId} {es es':List (List T)} {e:TypeId} {zs:List Value} {by_:Nat} [hm:TyMake P t e zs by_] (ho:o.op = .call { callee := .builtin .append,args:=#[y,z],argTypes:=#[t,tx] }) (hg:o.guard=none) (hy:st.ev y = .o (.c (.ref p))) (hp:st.objs[p]? = some (.row kk es))
  (hsrc:∀ (a:Act) (w:World) (H:Hs) (F:Nat→Prop),R0 w H F st a→Src P kk tx (a.eval z) es'.length (flatV (plainV' es') es'.length kk) w)
  (hkz:kk=zs.length) (hz0:zs ≠ []) (hpl:plainT es') (hkk:∀ e∈es',e.length=kk) (hb:(es.length+es'.length)*by_≤140737488355328) (h63:es.length+es'.length≤9223372036854775807)
  (hd:dstOk st.n o.dst=true) (h:AL P E ops QQ rest ⟨st.n,setT (st.tmps.map fun e=>(e.1,e.2.kill [p])) o.dst (.o (.c (.ref p))),(st.objs.map (Ob.kill [p])).set p (.row kk (es++es'))⟩):AL P E ops QQ (o::rest) st:=by
 refine⟨fun a w ⟨H,F,h1,h2⟩ => ?_⟩
 obtain⟨v,fp,e1,e2⟩:=h1.ow hp
 obtain⟨x',fp',e3⟩:=h1.v1 hy
 rw[e1] at e3
 simp only[Pc.ow.injEq] at e3
 obtain⟨_,hv,_⟩:=e3
 have hnd:=h1.ok.nodup p
 rw[e1] at hnd
 obtain⟨v',w',fp'',hr,h3,h4,h5,h6⟩:=append_src (P:=P) (o:=o) (t:=t) e2 hnd hkz hz0 (hsrc a w H F h1) hpl hkk hb h63
 obtain⟨hok,htn⟩:=h1.ok.turn (p:=p) (fp:=fp) Bxe h6 (.ow (.sl kk (es++es')) v' fp'') h3 h4 trivial h5
 obtain⟨hplt,_⟩:=Gqo.1 hp
 have hR:=h1.turn htn hok ((st.objs.map (Ob.kill [p])).set p (.row kk (es++es'))) (fun q hq=>?_) (fun q hq=>?_)
 ·have hR2:=hR.put (x := .o (.c (.ref p))) o.dst hd (v:=v') ⟨_,_,Hs.put_self _ _ _⟩
  refine wpList_step fun K hK=>?_
  rw[if_pos Bq6]
  unfold Oper.wp
  rw[Zf ho (by rw[←hv]; exact hr)]
  exact Bz0
 ·have hqp:q≠p:=Bxd
  rw[Gqf,Gxa (Ne.symm hqp),Gqk,Gqf]
  cases st.objs[q]? <;> rfl
 ·have hqp:q=p:=Bxd
  subst hqp
  rw[Zi (x := .row kk (es++es')) (by simp[hplt])]
  exact Bzs
def bE (l:List UInt8):List (List T):=l.map fun b => [.v (.int .u8 (b.toNat:Int))]
theorem bE_plain (l:List UInt8):plainT (bE l):=fun e he t ht=>by
 obtain⟨b,_,rfl⟩:=Gqv.1 he
 simp at ht
 exact⟨_,ht⟩
theorem Yt (l:List UInt8):(bE l).length=l.length:=by simp[bE]
theorem bE_one (l:List UInt8):∀ e∈bE l,e.length=1:=fun e he=>by
 obtain⟨b,_,rfl⟩:=Gqv.1 he
 rfl
theorem bE_src {tx:TypeId} [ht:TyStr P tx] (s:ByteArray):Src P 1 tx (.string s) (bE s.data.toList).length (flatV (plainV' (bE s.data.toList)) (bE s.data.toList).length 1) w:=by
 have h:=Src.ofString (P:=P) w ht.str s
 have h1:(bE s.data.toList).length=s.size:=by rw[Yt]; exact Array.length_toList
 have h2:flatV (plainV' (bE s.data.toList)) (bE s.data.toList).length 1=byteCells s:=by
  apply List.ext_getElem?
  intro q
  by_cases hq:q<s.data.toList.length
  ·have h3:=flatV_at (val:=plainV' (bE s.data.toList)) (n:=(bE s.data.toList).length) (k:=1) (i:=q) (j:=0) (by rw[Yt]; exact hq) Aqa 
   rw[Nat.mul_one,Gx5] at h3
   rw[h3,plainV'_at (e := [.v (.int .u8 ((s.data.toList[q]).toNat:Int))]) (u := .int .u8 ((s.data.toList[q]).toNat:Int)) (by unfold bE; rw[Gqk,Gqg hq]; rfl) rfl]
   unfold byteCells
   rw[Gqk,Gqg hq]
   rfl
  ·rw[List.getElem?_eq_none (by rw[Zh,Yt]; omega),List.getElem?_eq_none (by rw[byteCells_length,←h1,Yt]; omega)]
 rw[h2,h1]
 exact h
theorem L_appstr {p:Nat} {tx:TypeId} {es:List (List T)} {s:ByteArray} {e:TypeId} {by_:Nat} {z0:Value} [hm:TyMake P t e [z0] by_] [TyStr P tx] (ho:o.op = .call { callee := .builtin .append,args:=#[y,z],argTypes:=#[t,tx] }) (hg:o.guard=none) (hy:st.ev y = .o (.c (.ref p))) (hp:st.objs[p]? = some (.row 1 es)) (hz:st.ev z = .o (.c (.rd qs (.v (.string s)))))
  (hd:dstOk st.n o.dst=true) (hb:(es.length+s.size)*by_≤140737488355328) (h63:es.length+s.size≤9223372036854775807)
  (h:AL P E ops QQ rest ⟨st.n,setT (st.tmps.map fun e=>(e.1,e.2.kill [p])) o.dst (.o (.c (.ref p))),(st.objs.map (Ob.kill [p])).set p (.row 1 (es++bE s.data.toList))⟩):AL P E ops QQ (o::rest) st :=
 have hl:(bE s.data.toList).length=s.size:=by rw[Yt]; exact Array.length_toList
 L_appx (zs := [z0]) ho hg hy hp (fun a w H F hr=>by rw[hr.plain hz]; exact bE_src s) rfl Aqd (bE_plain _) (bE_one _) (by rw[hl]; exact hb) (by rw[hl]; exact h63) hd h
theorem L_app {p kk:Nat} {es es':List (List T)} {x:V1} {e:TypeId} {zs:List Value} {by_:Nat} [hm:TyMake P t e zs by_] (ho:o.op = .call { callee := .builtin .append,args:=#[y,z],argTypes:=#[t,t] }) (hg:o.guard=none) (hy:st.ev y = .o (.c (.ref p))) (hp:st.objs[p]? = some (.row kk es)) (hz:st.ev z = .o (.c x)) (hs:srcOf st.objs x=some es')
  (hkz:kk=zs.length) (hz0:zs ≠ []) (hpl:plainT es') (hkk:∀ e∈es',e.length=kk) (hb:(es.length+es'.length)*by_≤140737488355328) (h63:es.length+es'.length≤9223372036854775807)
  (hd:dstOk st.n o.dst=true) (h:AL P E ops QQ rest ⟨st.n,setT (st.tmps.map fun e=>(e.1,e.2.kill [p])) o.dst (.o (.c (.ref p))),(st.objs.map (Ob.kill [p])).set p (.row kk (es++es'))⟩):AL P E ops QQ (o::rest) st:=by
 refine⟨fun a w ⟨H,F,h1,h2⟩ => ?_⟩
 obtain⟨v,fp,e1,e2⟩:=h1.ow hp
 obtain⟨x',fp',e3⟩:=h1.v1 hy
 rw[e1] at e3
 simp only[Pc.ow.injEq] at e3
 obtain⟨_,hv,_⟩:=e3
 have hnd:=h1.ok.nodup p
 rw[e1] at hnd
 obtain⟨v',w',fp'',hr,h3,h4,h5,h6⟩:=Yr (P:=P) (o:=o) (t:=t) h1 e2 hnd hkz hz0 (h1.v1 hz) hs hpl hkk hb h63
 obtain⟨hok,htn⟩:=h1.ok.turn (p:=p) (fp:=fp) Bxe h6 (.ow (.sl kk (es++es')) v' fp'') h3 h4 trivial h5
 obtain⟨hplt,_⟩:=Gqo.1 hp
 have hR:=h1.turn htn hok ((st.objs.map (Ob.kill [p])).set p (.row kk (es++es'))) (fun q hq=>?_) (fun q hq=>?_)
 ·have hR2:=hR.put (x := .o (.c (.ref p))) o.dst hd (v:=v') ⟨_,_,Hs.put_self _ _ _⟩
  refine wpList_step fun K hK=>?_
  rw[if_pos Bq6]
  unfold Oper.wp
  rw[Zf ho (by rw[←hv]; exact hr)]
  exact Bz0
 ·have hqp:q≠p:=Bxd
  rw[Gqf,Gxa (Ne.symm hqp),Gqk,Gqf]
  cases st.objs[q]? <;> rfl
 ·have hqp:q=p:=Bxd
  subst hqp
  rw[Zi (x := .row kk (es++es')) (by simp[hplt])]
  exact Bzs
theorem L_appnil {es':List (List T)} {x:V1} {e:TypeId} {zs:List Value} {by_:Nat} [hm:TyMake P t e zs by_] (ho:o.op = .call { callee := .builtin .append,args:=#[y,z],argTypes:=#[t,t] }) (hg:o.guard=none) (hy:st.ev y = .o (.c (.rd qs (.v (.slice none 0 0))))) (hz:st.ev z = .o (.c x)) (hs:srcOf st.objs x=some es')
  (hz0:zs ≠ []) (hpl:plainT es') (hkk:∀ e∈es',e.length=zs.length) (hb:es'.length*by_≤140737488355328) (h63:es'.length≤9223372036854775807)
  (hd:dstOk st.n o.dst=true) (h:AL P E ops QQ rest ⟨st.n,setT st.tmps o.dst (.o (.c (.ref st.objs.length))),st.objs ++ [.row zs.length es']⟩):AL P E ops QQ (o::rest) st:=by
 refine⟨fun a w ⟨H,F,h1,h2⟩ => ?_⟩
 have hv:=h1.plain hy
 obtain⟨v',w',fp'',hr,h3,h4,h5,h6⟩:=Yr (P:=P) (o:=o) (t:=t) (kk:=zs.length) (es := []) h1 (OW.nil _) List.nodup_nil rfl hz0 (h1.v1 hz) hs hpl hkk (by simpa using hb) (by simpa using h63)
 have hn:H st.objs.length = .nil:=by
  have:=h1.obs st.objs.length
  simpa[Gqf,RB] using this
 have hbel:Below w.heap.size w w':=⟨h6.os,h6.tape,h6.output,h6.size,fun b hb=>h6.block b hb Aqd⟩
 obtain⟨hok,hgr⟩:=h1.ok.add hbel hn (.ow (.sl zs.length es') v' fp'') h3 h4 trivial (fun b hb=>(h5 b hb).resolve_left Aqd)
 have hR:=h1.grow (x := .o (.c (.ref st.objs.length))) (v:=v') (obs := [.row zs.length es']) (dst:=o.dst) hd hgr hok (fun i ob hi=>?_) (fun p hp hh=>?_) ⟨_,_,Hs.put_self _ _ _⟩
 ·refine wpList_step fun K hK=>?_
  rw[if_pos Bq6]
  unfold Oper.wp
  rw[Zf ho (by rw[hv]; exact hr)]
  exact hK _ _ (h.h _ _ ⟨_,F,hR,h2.grow hgr⟩)
 ·cases i with
  |zero=>simp at hi; subst hi; exact⟨_,_,Hs.put_self _ _ _⟩
  |succ i=>simp at hi
 ·rw[Hs.put_ne _ _ (by simp only[Gqw,List.length_nil] at hh; omega),hp]
end
end
end
end Go.Proofs.YtalaljeokcpfnaaGreat
