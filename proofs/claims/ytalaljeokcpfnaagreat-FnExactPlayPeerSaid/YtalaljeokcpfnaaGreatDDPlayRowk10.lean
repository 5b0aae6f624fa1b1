/-
  Rules for literals of structs and slices, and for appending what is owned. No statement of the program is proved here.
  Conditions: none.
-/
import Derived.Great.BuildSlice
import Derived.Laws.Tables
import Derived.Test.YtalaljeokcpfnaaGreatDDPlayRowk9
set_option linter.unusedSimpArgs false
set_option linter.unusedVariables false
namespace Go.Proofs.YtalaljeokcpfnaaGreat
section
open Go.RowKit

def cellsOf:V→List V1
 | .o (.c x) => [x]
 | .o (.ag xs)=>xs
 | .tu _ => []
 | .iff _ _ => []
def fillV (pl:Nat→Option (Nat×Nat)):List V1→List (Nat×V)→Option (List V1)
 |cs,[]=>some cs
 |cs,(i,x)::r=>match pl i with
  |none=>none
  |some (off,size)=>if (cellsOf x).all V1.known&&Nat.beq (cellsOf x).length size&&Nat.ble (off+size) cs.length then fillV pl (setFrom cs off (cellsOf x)) r else none

theorem setFrom_len {α:Type}:∀ (ds vs:List α) (i:Nat),(setFrom vs i ds).length=vs.length
 | [],vs,i=>rfl
 |d::ds,vs,i=>by rw[setFrom,setFrom_len ds]; simp
theorem setFrom_at {α:Type}:∀ (ds vs:List α) (i q:Nat),i+ds.length≤vs.length→(setFrom vs i ds)[q]? = if i≤q∧q<i+ds.length then ds[q-i]? else vs[q]?
 | [],vs,i,q,h=>by simp[setFrom]; omega
 | d::ds,vs,i,q,h=>by
  simp at h
  rw[setFrom,setFrom_at ds (vs.set i d) (i+1) q Bqz]
  by_cases h1:i+1≤q∧q<i+1+ds.length
  ·rw[if_pos h1,if_pos Bqz,show q-i=(q-(i+1))+1 by omega,Gxw]
  ·rw[if_neg h1,List.getElem?_set]
   by_cases h2:i=q
   ·subst h2
    rw[if_pos rfl,if_pos Aqa,if_pos Aqd]
    simp
   ·rw[if_neg h2,if_neg Bqz]
theorem fold_set (off:Nat):∀ (ds:List Value) (n:Nat) (us:Array Value),(ds.zipIdx n).foldl (fun cs (p:Value×Nat)=>cs.setIfInBounds (off+p.2) p.1) us=(setFrom us.toList (off+n) ds).toArray
 | [],n,us=>by simp[setFrom]
 |d::ds,n,us=>by
  rw[List.zipIdx_cons,List.foldl_cons,fold_set off ds (n+1),setFrom]
  simp[Gxx]

def Pw (w:World) (H:Hs) (F:Nat→Prop) (cs:List V1) (us:List Value):Prop:=us.length=cs.length∧∀ (i:Nat) (c:V1) (u:Value),cs[i]? = some c→us[i]? = some u→R1 w H F c u∧u.oneCell'=true

section
variable {P:Program} {E:Env} {ops:Array Oper} {o:Oper} {st:St} {n:Nat} {rest:List Oper} {QQ:Exit→St→Prop} {w w':World} {H H':Hs} {F:Nat→Prop} {a:Act}

theorem cellsOf_ok (hok:Ok w H F) {x:V} {v:Value} (hx:RV w H F x v) (hk:(cellsOf x).all V1.known=true) (hne:(cellsOf x).length≠0∨∃ xs,x = .o (.ag xs)):Pw w H F (cellsOf x) v.cells.toList:=by
 cases x with
 | o x=>cases x with
  |c x =>
   simp only[cellsOf,List.all_cons,List.all_nil,Bool.and_true] at hk ⊢
   have h1:=R1.one (V1.known_ne hk) hok hx
   have hvc:v.cells=#[v]:=by cases v <;> first | rfl | (simp[Value.oneCell'] at h1)
   rw[hvc]
   refine⟨J,fun i c u h2 h3=>?_⟩
   cases i with
   |zero=>simp at h2 h3; subst h2 h3; exact⟨hx,h1⟩
   |succ i=>simp at h2
  |ag xs =>
   obtain⟨us,rfl,hl,hr⟩:=hx
   refine⟨by simpa[Value.cells,cellsOf] using hl,fun i c u h2 h3=>?_⟩
   simp only[Value.cells] at h3
   have h4:=hr i c u h2 h3
   exact⟨h4,R1.one (V1.known_ne (Gqp.1 hk c (Zk h2))) hok h4⟩
 |tu xs =>
  rcases hne with h | ⟨_,h⟩
  ·simp[cellsOf] at h
  ·cases h
 |iff cs x =>
  rcases hne with h | ⟨_,h⟩
  ·simp[cellsOf] at h
  ·cases h
theorem fill_ok (hok:Ok w H F) (pl:Nat→Option (Nat×Nat)) (hpl:∀ i off size,pl i=some (off,size)→size≠0):∀ (parts:List (Nat×V)) (vparts:List (Nat×Value)) (cs cs':List V1) (us:List Value),vparts.length=parts.length →
  (∀ (q:Nat) (p:Nat×V) (v:Nat×Value),parts[q]? = some p→vparts[q]? = some v→p.1=v.1∧RV w H F p.2 v.2)→Pw w H F cs us→fillV pl cs parts=some cs'→∃ us',Instr.fill pl us.toArray vparts=some us'.toArray∧Pw w H F cs' us'
 | [],[],cs,cs',us,_,_,hp,hf=>by
  simp only[fillV,Option.some.injEq] at hf
  subst hf
  exact⟨us,J,hp⟩
 | [],_::_,_,_,_,hl,_,_,_=>by simp at hl
 |_::_,[],_,_,_,hl,_,_,_=>by simp at hl
 | (i,x)::parts,(i',v)::vparts,cs,cs',us,hl,hr,hp,hf=>by
  obtain⟨h1,h2⟩:=hr 0 (i,x) (i',v) rfl rfl
  simp only at h1 h2
  subst h1
  simp only[fillV] at hf
  cases hpi:pl i with
  |none=>rw[hpi] at hf; cases hf
  | some os =>
   obtain⟨off,size⟩:=os
   rw[hpi] at hf
   simp only at hf
   split at hf
   ·rename_i hc
    simp only[Gqh] at hc
    obtain⟨⟨hc1,hc2⟩,hc3⟩:=hc
    have hc2:=Gq8 hc2
    have hc3:=Gqx hc3
    have hsz:=hpl i off size hpi
    obtain⟨k1,k2⟩:=cellsOf_ok hok h2 hc1 (.inl Aqa)
    have hvs:v.cells.size=size:=by rw[←hc2,←k1]; simp
    have hnew:Pw w H F (setFrom cs off (cellsOf x)) (setFrom us off v.cells.toList):=by
     refine⟨by rw[setFrom_len,setFrom_len]; exact hp.1,fun q c u h3 h4=>?_⟩
     rw[setFrom_at _ _ _ _ Aqa] at h3
     rw[setFrom_at _ _ _ _ (by rw[k1,hp.1]; omega),k1] at h4
     split at h3
     ·rename_i hq
      rw[if_pos hq] at h4
      exact k2 _ c u h3 h4
     ·rename_i hq
      rw[if_neg hq] at h4
      exact hp.2 q c u h3 h4
    obtain⟨us',h5,h6⟩:=fill_ok hok pl hpl parts vparts _ cs' _ Bxs (fun q p v' h7 h8=>hr (q+1) p v' (by simpa using h7) (by simpa using h8)) hnew hf
    refine⟨us',?_,h6⟩
    rw[←h5]
    simp only[Instr.fill,hpi]
    rw[if_neg (by
     rw[hvs]
     have:=hp.1
     simp
     omega)]
    congr 1
    have:=fold_set off v.cells.toList 0 us.toArray
    rw[Gx5] at this
    rw[←this,←Array.foldl_toList]
    simp
   ·cases hf

section
variable {y z:Operand} {t t':TypeId} {k:IntKind} {i j:Int} {ps qs:List Nat}
theorem parts_ok (h:R0 w H F st a) (parts:Array (Nat×Operand)):∀ (q:Nat) (p:Nat×V) (v:Nat×Value),(parts.toList.map fun e=>(e.1,st.ev e.2))[q]? = some p→((parts.map fun (i,x)=>(i,a.eval x)).toList)[q]? = some v→p.1=v.1∧RV w H F p.2 v.2:=by
 intro q p v h1 h2
 rw[Gqk] at h1
 obtain⟨e,h3,rfl⟩:=Option.map_eq_some_iff.1 h1
 rw[Array.toList_map,Gqk,h3] at h2
 simp only[Gq1,Option.some.injEq] at h2
 subst h2
 exact⟨J,h.ev e.2⟩

theorem Ko {parts:Array (Nat×Operand)} {zs:List Value} {pl:List (Nat×Nat)} {cs:List V1} [hz:TyZero P t zs] [hp:TyPl P t pl] (ho:o.op = .build t parts) (hg:o.guard=none) (h1:zs.all (·.oneCell')=true) (hpl:pl.all (fun p => !Nat.beq p.2 0)=true)
  (hf:fillV (pl.toArray[·]?) (zs.map zV) (parts.toList.map fun e=>(e.1,st.ev e.2))=some cs):Qt P ops o st (.o (.ag cs)) [] n :=
 .pure hg fun a w H F hr=>by
  have hzp:Pw w H F (zs.map zV) zs:=by
   refine⟨Aqd,fun i c u h2 h3=>?_⟩
   rw[Gqk,h3] at h2
   simp only[Gq1,Option.some.injEq] at h2
   subst h2
   have:=Gqp.1 h1 u (Zk h3)
   exact⟨RO.v _ this,this⟩
  obtain⟨us',h2,h3⟩:=fill_ok hr.ok (pl.toArray[·]?) (fun i off size hi=>by
   have h4:pl[i]? = some (off,size):=Bxi
   have h5:=Gqp.1 hpl _ (Zk h4)
   intro e
   subst e
   cases h5) _ (parts.map fun (i,x)=>(i,a.eval x)).toList _ cs zs Aqd (parts_ok hr parts) hzp hf
  have hb:P.built t (parts.map fun (i,x)=>(i,a.eval x)).toList=some us'.toArray:=by
   have hp':=hp.places
   obtain⟨it,hi1,hi2⟩:=Option.map_eq_some_iff.1 hz.zero
   obtain⟨z,hi3,hi4⟩:=Option.map_eq_some_iff.1 hi2
   unfold placesOf at hp'
   split at hp'
   ·rename_i fs hu
    have hzc:z.cells=zs.toArray:=by rw[←hi4]
    unfold Program.built
    rw[hi1,hu]
    simp only[hi3,hp',hzc]
    exact h2
   ·cases hp'
  refine⟨.agg us'.toArray,?_,us',J,h3.1,fun i c u h4 h5=>(h3.2 i c u h4 h5).1⟩
  unfold execOp
  simp only[ho,Sem.run_bind,run_build w t _ _ hb,Result.andThen_ok]
  rfl

theorem madeL (zs:List Value) (m:Nat):((Array.range (m*zs.length)).map (zs.toArray[· % zs.toArray.size]!)).toList=(List.range (m*zs.length)).map fun i=>zs[i%zs.length]! := by
 simp
theorem Kl {len:Nat} {parts:Array (Nat×Operand)} {e:TypeId} {zs:List Value} {by_:Nat} {cs:List V1} [hm:TyMake P t e zs by_] (ho:o.op = .buildSlice t len parts) (hg:o.guard=none) (h1:zs.all (·.oneCell')=true) (hsm:Nat.ble (len*zs.length) 16777216=true) (hpos:Nat.beq (len*zs.length) 0=false)
  (hf:fillV (fun i=>some (i*zs.length,zs.length)) ((List.range (len*zs.length)).map fun i=>zV (zs[i%zs.length]!)) (parts.toList.map fun e=>(e.1,st.ev e.2))=some cs):Qt P ops o st (.o (.c (.sb n len zs.length))) [.box cs] n :=
 .new hg fun a w H F hr hn=>by
  obtain⟨inf,hi,hzz⟩:=Option.map_eq_some_iff.1 hm.info
  simp only[Prod.mk.injEq] at hzz
  obtain⟨hz1,hs,hb1⟩:=hzz
  obtain⟨zv,hz2,hz3⟩:=Option.map_eq_some_iff.1 hz1
  have hzc:zv.cells=zs.toArray:=by rw[←hz3]
  have hlp:0<len*zs.length:=Nat.pos_of_ne_zero fun e=>by rw[e] at hpos; cases hpos
  have hzp:0<zs.length:=Nat.pos_of_ne_zero fun e=>by rw[e] at hlp; simp at hlp
  have hzp':Pw w H F ((List.range (len*zs.length)).map fun i=>zV (zs[i%zs.length]!)) ((List.range (len*zs.length)).map fun i=>zs[i%zs.length]!):=by
   refine⟨Aqd,fun i c u h2 h3=>?_⟩
   rw[Gqk] at h2 h3
   cases hq:(List.range (len*zs.length))[i]? with
   |none=>rw[hq] at h2; cases h2
   | some q =>
    rw[hq] at h2 h3
    simp only[Gq1,Option.some.injEq] at h2 h3
    subst h2 h3
    have h4:q%zs.length<zs.length:=Nat.mod_lt _ hzp
    have:(zs[q%zs.length]!).oneCell'=true:=by
     rw[List.getElem!_eq_getElem?_getD,Gqg h4]
     exact Gqp.1 h1 _ (Gqe h4)
    exact⟨RO.v _ this,this⟩
  obtain⟨us',h2,h3⟩:=fill_ok hr.ok (fun i=>some (i*zs.length,zs.length)) (fun i off size hi=>by simp at hi; omega) _ (parts.map fun (i,x)=>(i,a.eval x)).toList _ cs _ Aqd (parts_ok hr parts) hzp' hf
  have hcl:cs.length=len*zs.length:=by
   have:∀ (ps:List (Nat×V)) (c c':List V1),fillV (fun i=>some (i*zs.length,zs.length)) c ps=some c'→c'.length=c.length:=by
    intro ps
    induction ps with
    |nil=>intro c c' h; simp only[fillV,Option.some.injEq] at h; rw[h]
    |cons p ps ih =>
     intro c c' h
     simp only[fillV] at h
     split at h
     ·rw[ih _ _ h,setFrom_len]
     ·cases h
   rw[this _ _ _ hf]
   simp
  have hle:len≤maxLen:=by
   have h5:=Gqx hsm
   have:len*1≤len*zs.length:=Nat.mul_le_mul_left _ hzp
   simp only[maxLen]
   omega
  refine⟨.slice (some ⟨w.heap.size,0,none⟩) len len,w.alloc (.cells us'.toArray e),.box w.heap.size e us',?_,(Below.refl _ _).alloc (Gqi _) _,heap_alloc_new w _,by simp[Pc.fp,Pc.ng],fun b hb=>by simp[Pc.fp] at hb; omega,fun H' hgr hq=>⟨⟨_,_,_,hq,h3.1,fun i c u h4 h5=>⟨hgr.r1 (h3.2 i c u h4 h5).1,(h3.2 i c u h4 h5).2⟩⟩,_,_,_,hq,by rw[h3.1,hcl],hle,J⟩⟩
  have hr':=run_buildSlice (P:=P) w t e len (parts.map fun (i,x)=>(i,a.eval x)) us'.toArray inf zv hm.slice hi hz2 (by rw[hs]; have:=Gqx hsm; omega) (by rw[hs]; omega) (by
   rw[hs,hzc]
   have h6:(Array.range (len*zs.length)).map (zs.toArray[· % zs.toArray.size]!)=((List.range (len*zs.length)).map fun i=>zs[i%zs.length]!).toArray:=by
    apply Array.ext'
    rw[madeL]
   rw[h6]
   exact h2)
  unfold execOp
  simp only[ho,Sem.run_bind,hr',Result.andThen_ok]
  rfl

theorem L_appo {p q kk:Nat} {es:List (List T)} {ds:List V1} {e:TypeId} {zs:List Value} {by_:Nat} [hm:TyMake P t e zs by_] (ho:o.op = .call { callee := .builtin .append,args:=#[y,z],argTypes:=#[t,t] }) (hg:o.guard=none) (hy:st.ev y = .o (.c (.ref p))) (hp:st.objs[p]? = some (.row kk es)) (hz:st.ev z = .o (.c (.sb q 1 kk))) (hq:st.objs[q]? = some (.box ds))
  (hkz:kk=zs.length) (hz0:zs ≠ []) (hok:ds.all (tkOk st.objs)=true) (hnd:(p::ds.flatMap tkR).Nodup) (hb:(es.length+1)*by_≤140737488355328) (h63:es.length+1≤9223372036854775807) (hd:dstOk st.n o.dst=true)
  (h:AL P E ops QQ rest ⟨st.n,setT (st.tmps.map fun e=>(e.1,e.2.kill (p::ds.flatMap tkR))) o.dst (.o (.c (.ref p))),gone ((st.objs.map (Ob.kill (p::ds.flatMap tkR))).set p (.row kk (es ++ [ds.map (tkT st.objs)]))) (ds.flatMap tkR)⟩):AL P E ops QQ (o::rest) st:=by
 refine⟨fun a w ⟨H,F,h1,h2⟩ => ?_⟩
 obtain⟨v,fp,e1,e2⟩:=h1.ow hp
 obtain⟨x',fp',e3⟩:=h1.v1 hy
 rw[e1] at e3
 simp only[Pc.ow.injEq] at e3
 obtain⟨_,hv,_⟩:=e3
 have hndp:=h1.ok.nodup p
 rw[e1] at hndp
 obtain⟨hpn,hndr⟩:=Gxi.1 hnd
 obtain⟨g,tt,vs,b1,b2,b3,b4⟩:=h1.v1 hz
 obtain⟨g',tt',vs',b5,b6,b7,b8⟩:=h1.bx hq
 rw[b1] at b5
 simp only[Pc.box.injEq] at b5
 obtain⟨rfl,rfl,rfl⟩:=b5
 have hdk:ds.length=kk:=by rw[←b7,b2]; omega
 obtain⟨fs,f1,f2,f3,f4⟩:=take_ok h1 ds vs b7 (fun i x u h3 h4=>(b8 i x u h3 h4).1) hok hndr
 have hsrc:Src P kk t (.slice (some ⟨g,0,none⟩) [ds.map (tkT st.objs)].length 1) [ds.map (tkT st.objs)].length (flatV (fun _ j=>vs.getD j undef) [ds.map (tkT st.objs)].length kk) w :=
  src_slice (zs:=zs) (e:=e) [ds.map (tkT st.objs)] _ _ 1 (fun _=>⟨g,0,rfl,fun i j hi hj=>by
   have hi0:i=0:=Bxi
   subst hi0
   have hjv:j<vs.length:=Aqa
   rw[cell_of_row w g _ vs.toArray tt (0,0) b6]
   simp[Gqf,hjv]⟩) fun i j hi hj=>by
   have hjv:j<vs.length:=Aqa
   rw[Zi (Gqg hjv)]
   exact (b8 j _ _ (Gqg Aqa) (Gqg hjv)).2
 obtain⟨v',w',fp'',hr,h3,h4,h5,h6,_⟩:=run_append_ow (P:=P) (t:=t) (ty:=o.type) e2 hkz (Gxy.2 hz0) hndp [ds.map (tkT st.objs)] (fun _ j=>vs.getD j undef) [fs] (.slice (some ⟨g,0,none⟩) 1 1) (by simp[hdk])
  hsrc
   Aqd  (by simp[f1,hdk]) (fun i j e t' fs' f g1 g2 g3 g4=>by
   have hi0:i=0:=by have:=Zj g1; simpa using this
   subst hi0
   simp at g1 g3
   subst g1 g3
   have hjv:j<vs.length:=by rw[b7]; have:=Zj g2; simpa using this
   rw[Zi (Gqg hjv)]
   exact f2 j t' _ f g2 (Gqg hjv) g4)
  (by simpa using f3) (fun b hb hb'=>by
   obtain⟨r,r1,r2⟩:=f4 b (by simpa using hb')
   have:=h1.ok.disj p r b (by rw[e1]; exact hb) r2
   exact hpn (this▸r1)) (by simpa using hb) (by simpa[maxLen] using h63)
 obtain⟨k1,k2⟩:=h1.ok.takein (p:=p) (rs:=ds.flatMap tkR) (fp:=fp) Bxe hpn h6 (.ow (.sl kk (es ++ [ds.map (tkT st.objs)])) v' fp'') h3 h4 trivial fun b' hb'=>by
  rcases h5 b' hb' with h | h | h
  ·exact .inl h
  ·exact .inr (.inl (f4 b' (by simpa using h)))
  ·exact .inr (.inr h)
 obtain⟨hplt,_⟩:=Gqo.1 hp
 have hR:=h1.turn k2 k1 (gone ((st.objs.map (Ob.kill (p::ds.flatMap tkR))).set p (.row kk (es ++ [ds.map (tkT st.objs)]))) (ds.flatMap tkR)) (fun r hr' => ?_) (fun r hr' => ?_)
 ·have hR2:=hR.put (x := .o (.c (.ref p))) o.dst hd (v:=v') ⟨_,_,if_pos rfl⟩
  refine wpList_step fun K hK=>?_
  rw[if_pos Bq6]
  unfold Oper.wp
  rw[Zf ho (by rw[b4,←hv]; simpa using hr)]
  exact hK _ _ (h.h _ _ ⟨_,F,hR2,h2.turn k2⟩)
 ·simp only[List.mem_cons,not_or] at hr'
  rw[gone_at,if_neg hr'.2,Gqf,Gxa (Ne.symm hr'.1),Gqk,Gqf]
  cases st.objs[r]? <;> rfl
 ·rw[gone_at]
  by_cases hrr:r∈ds.flatMap tkR
  ·rw[if_pos hrr]
   have hne:r≠p:=fun e=>hpn (e▸hrr)
   show (if r=p then _ else if r∈_ then _ else _)=Pc.nil
   rw[if_neg hne,if_pos hrr]
  ·have hrp:r=p:=by
    rcases List.mem_cons.1 hr' with h | h
    ·exact h
    ·exact absurd h hrr
   subst hrp
   rw[if_neg hrr,Gqf,Gxg (by simpa using hplt)]
   exact⟨_,_,if_pos J⟩
end
end
end
end Go.Proofs.YtalaljeokcpfnaaGreat
