/-
  Rules, data and contracts of functions: part 14 of the proof.
  Conditions: those that each theorem names.
-/
import Derived.Test.YtoecjaohdnoenaaGreatDDJoinRowk12
set_option linter.unusedSimpArgs false
set_option linter.unusedVariables false
namespace Go.Proofs.YtoecjaohdnoenaaGreat
section
open Go.RowKit

theorem flat_one {fps:List (List (List Nat))} {i j:Nat} {G:List (List Nat)} {f:List Nat} (hi:fps[i]? = some G) (hj:G[j]? = some f):∃ X Z:List Nat,fps.flatten.flatten=X++f++Z∧∀ f':List Nat,(fps.set i (splice G j [f'])).flatten.flatten=X++f'++Z:=by
 obtain⟨hlt,he⟩:=Gqm.1 hi
 obtain⟨hlj,hf⟩:=Gqm.1 hj
 refine⟨(fps.take i).flatten.flatten++(G.take j).flatten,(G.drop (j+1)).flatten++(fps.drop (i+1)).flatten.flatten,?_,fun f' => ?_⟩
 ·conv=>lhs; rw[←Gxe i fps,Gxm hlt,he]
  have hG:G.flatten=(G.take j).flatten++f++(G.drop (j+1)).flatten:=by
   conv=>lhs; rw[←Gxe j G,Gxm hlj,hf]
   simp[Gq9]
  rw[Gqp,List.flatten_cons,Gqp,Gqp,hG]
  simp[Gq9]
 ·rw[List.set_eq_take_append_cons_drop,if_pos hlt]
  rw[Gqp,List.flatten_cons,Gqp,Gqp,splice,Gqp,Gqp]
  simp[Gq9]

theorem sep_list {l:List (List Nat)} (hn:l.flatten.Nodup) {i j:Nat} {f g:List Nat} (hi:l[i]? = some f) (hj:l[j]? = some g) (hij:i≠j) {x:Nat} (hx:x∈f) (hy:x∈g):False:=by
 obtain⟨hp,hq⟩:=List.pairwise_flatten.1 hn
 obtain⟨h1,rfl⟩:=Gqm.1 hi
 obtain⟨h2,rfl⟩:=Gqm.1 hj
 rcases Nat.lt_or_gt_of_ne hij with h | h
 ·exact (List.pairwise_iff_getElem.1 hq i j h1 h2 h) x hx x hy rfl
 ·exact (List.pairwise_iff_getElem.1 hq j i h2 h1 h) x hy x hx rfl
theorem sep_elems {fps:List (List (List Nat))} (hn:fps.flatten.flatten.Nodup) {i i' j j':Nat} {G G':List (List Nat)} {f g:List Nat} (hi:fps[i]? = some G) (hi':fps[i']? = some G') (hii:i≠i') (hf:G[j]? = some f) (hg:G'[j']? = some g) {x:Nat} (hx:x∈f) (hy:x∈g):False:=by
 have h1:(fps.map List.flatten).flatten=fps.flatten.flatten:=by simp[List.flatten_flatten]
 rw[←h1] at hn
 exact sep_list hn (i:=i) (j:=i') (f:=G.flatten) (g:=G'.flatten) (by simp[hi]) (by simp[hi']) hii (Gxa.2 ⟨f,Ys hf,hx⟩) (Gxa.2 ⟨g,Ys hg,hy⟩)
theorem sep_cells {fps:List (List (List Nat))} (hn:fps.flatten.flatten.Nodup) {i j j':Nat} {G:List (List Nat)} {f g:List Nat} (hi:fps[i]? = some G) (hf:G[j]? = some f) (hg:G[j']? = some g) (hjj:j≠j') {x:Nat} (hx:x∈f) (hy:x∈g):False:=by
 have h1:(fps.map List.flatten).flatten=fps.flatten.flatten:=by simp[List.flatten_flatten]
 rw[←h1] at hn
 obtain⟨hp,_⟩:=List.pairwise_flatten.1 hn
 exact sep_list (hp G.flatten (Gqt.2 ⟨G,Ys hi,J⟩)) hf hg hjj hx hy

theorem OW.inner {w:World} {k:Nat} {es:List (List T)} {v:Value} {fp:List Nat} (h:OW w (.sl k es) v fp) (hnd:fp.Nodup) {i j:Nat} {e:List T} {t0:T} (hi:es[i]? = some e) (hj:e[j]? = some t0) :
  ∃ b o c u f,v = .slice (some ⟨b,o,none⟩) es.length c∧b∈fp∧w.cell? ⟨b,o+i*k+j,none⟩=some u∧OW w t0 u f∧f.Nodup∧(∀ x∈f,x∈fp) ∧
   ∀ (w':World) (t1:T) (f':List Nat),(∀ x∈fp,x∉f→w'.heap[x]? = w.heap[x]?)→OW w' t1 u f'→f'.Nodup→(∀ x∈f',x∈f∨x∉fp) →
    ∃ fp',OW w' (.sl k (es.set i (splice e j [t1]))) v fp'∧fp'.Nodup∧∀ x∈fp',(x∈fp∧x∉f)∨x∈f':=by
 rcases h.open_ with ⟨rfl,rfl,rfl⟩ | ⟨b,o,c,tid,cur,fz,val,fps,rfl,rfl,hg,hz,hc,hcm,hcs,hp,hk,hff,hfk,hv,ht⟩
 ·simp at hi
 have hil:=Yr hi
 have hek:e.length=k:=hk e (Ys hi)
 have hjl:=Yr hj
 rw[hek] at hjl
 have hfi:fps[i]? = some fps[i]:=Gqg (by omega)
 have hfik:(fps[i]'(by omega)).length=k:=hfk _ (Gqd _)
 obtain⟨G,hG⟩:∃ G,G=fps[i]'(by omega):=⟨_,rfl⟩
 rw[←hG] at hfi hfik
 obtain⟨f,hf⟩:∃ f,G[j]? = some f:=⟨_,Gqg (by omega)⟩
 obtain⟨X,Z,e1,e2⟩:=flat_one hfi hf
 have hndc:=Gq6.1 hnd
 have hndf:=hndc.2
 rw[e1] at hndf
 obtain⟨n1,n2,n3⟩:=List.nodup_append.1 hndf
 obtain⟨n4,n5,n6⟩:=List.nodup_append.1 n1
 have hbf:b∉f:=fun hb=>hndc.1 (mem_ff hfi hf hb)
 refine⟨b,o,c,val i j,f,J,by simp,?_,ht i j e _ G f hi hj hfi hf,n5,fun x hx=>Gq5 _ (mem_ff hfi hf hx),fun w' t1 f' hw hO hn' hf' => ?_⟩
 ·rw[cell_of_row w b _ cur tid fz hg]
  exact hv i j hil hjl
 have hset:(es.set i (splice e j [t1])).length=es.length:=by simp
 have hfr:∀ (i' j':Nat) (e':List T) (t:T) (fs:List (List Nat)) (g:List Nat),es[i']? = some e'→e'[j']? = some t→fps[i']? = some fs→fs[j']? = some g→(∀ x∈g,x∉f)→OW w' t (val i' j') g:=fun i' j' e' t fs g g1 g2 g3 g4 hd =>
  (ht i' j' e' t fs g g1 g2 g3 g4).frame fun x hx=>hw x (Gq5 _ (mem_ff g3 g4 hx)) (hd x hx)
 have hold:∀ x∈X++f++Z,x∈b::fps.flatten.flatten:=fun x hx=>Gq5 _ (by rw[e1]; exact hx)
 have hdX:∀ x∈X,x∉f':=fun x hx hx'=>by
  rcases hf' x hx' with h1 | h1
  ·exact n6 x hx x h1 rfl
  ·exact h1 (hold x (by simp[hx]))
 have hdZ:∀ x∈Z,x∉f':=fun x hx hx'=>by
  rcases hf' x hx' with h1 | h1
  ·exact n3 x (by simp[h1]) x hx rfl
  ·exact h1 (hold x (by simp[hx]))
 refine⟨b::(fps.set i (splice G j [f'])).flatten.flatten,?_,?_,?_⟩
 ·rw[←hset]
  refine .sl _ b o k c tid cur fz val _ (by rw[hw b (by simp) hbf]; exact hg) hz (by rw[hset]; exact hc) hcm hcs hp ?_ (by simp[hff]) ?_ (fun i' j' hi' hj'=>hv i' j' (by rw[←hset]; exact hi') hj') fun i' j' e' t' fs' g' g1 g2 g3 g4 => ?_
  ·intro e' he'
   rcases List.mem_or_eq_of_mem_set he' with he' | rfl
   ·exact hk e' he'
   ·rw[splice_len (by simp; omega),hek]
  ·intro g hg'
   rcases List.mem_or_eq_of_mem_set hg' with hg' | rfl
   ·exact hfk g hg'
   ·rw[splice_len (by simp; omega),hfik]
  ·rw[List.getElem?_set] at g1 g3
   by_cases hii:i=i'
   ·subst hii
    simp only[hil,if_true,Option.some.injEq] at g1
    rw[if_pos rfl,if_pos (by omega)] at g3
    simp only[Option.some.injEq] at g3
    subst g1 g3
    rw[splice_at (by simp; omega)] at g2 g4
    by_cases hcond:j≤j'∧j'<j+1
    ·have hjj:j'=j:=by omega
     subst hjj
     rw[if_pos (by simp)] at g2 g4
     simp at g2 g4
     subst g2 g4
     exact hO
    ·rw[if_neg (by simpa using hcond)] at g2 g4
     refine hfr i j' e t' G g' hi g2 hfi g4 fun x hx hxf => ?_
     -- two cells of one element own different blocks
     obtain⟨X2,Z2,e3,e4⟩:=flat_one hfi g4
     exact sep_cells hndc.2 hfi hf g4 (fun e=>hcond ⟨by omega,by omega⟩) hxf hx
   ·rw[if_neg hii] at g1 g3
    refine hfr i' j' e' t' fs' g' g1 g2 g3 g4 fun x hx hxf => ?_
    exact sep_elems hndc.2 hfi g3 hii hf g4 hxf hx
 ·rw[e2]
  refine Gq6.2 ⟨fun hb => ?_,List.nodup_append.2 ⟨List.nodup_append.2 ⟨n4,hn',fun x hx y hy e=>hdX x hx (e▸hy)⟩,n2,fun x hx y hy e => ?_⟩⟩
  ·rcases Gqs.1 hb with hb | hb
   ·rcases Gqs.1 hb with hb | hb
    ·exact hndc.1 (by rw[e1]; simp[hb])
    ·rcases hf' b hb with h1 | h1
     ·exact hbf h1
     ·exact h1 (by simp)
   ·exact hndc.1 (by rw[e1]; simp[hb])
  ·rcases Gqs.1 hx with hx | hx
   ·exact n3 x (by simp[hx]) y hy e
   ·exact hdZ y hy (e▸hx)
 ·rw[e2,e1]
  intro x hx
  rcases List.mem_cons.1 hx with rfl | hx
  ·exact .inl ⟨by simp,hbf⟩
  ·rcases Gqs.1 hx with hx | hx
   ·rcases Gqs.1 hx with hx | hx
    ·exact .inl ⟨by simp[hx],fun h=>n6 x hx x h rfl⟩
    ·exact .inr hx
   ·exact .inl ⟨by simp[hx],fun h=>n3 x (by simp[h]) x hx rfl⟩

def lendx1 (objs:List Ob) (p:Nat) (x:V1):V1:=match lendw1 objs [p] x with
 | .rd [] y => .rd [] y
 |_ => .un
def lendx (objs:List Ob) (p:Nat):V→V2
 | .o (.c x) => .c (lendx1 objs p x)
 | .o (.ag xs) => .ag (xs.map (lendx1 objs p))
 |_ => .c .un
section
variable {P:Program} {E:Env} {ops:Array Oper} {o:Oper} {st:St} {rest:List Oper} {QQ:Exit→St→Prop} {w:World} {H:Hs} {F:Nat→Prop} {a:Act} {t:TypeId} {y:Operand} {n:Nat}
theorem lendx1_ok {p:Nat} {H1:Hs} {F1:Nat→Prop} (h:R0 w H F st a) (hF:∀ b,b<w.heap.size→b∉(H p).fp→F1 b) {x:V1} {v:Value} (hx:R1 w H F x v):R1 w H1 F1 (lendx1 st.objs p x) v:=by
 have h1:=lendw1_ok (ρ := [p]) (H1:=fun q=>if q=0 then H p else .nil) (F1:=F1) h (fun q r hq=>by
  cases q with
  |zero=>simp at hq; subst hq; rfl
  |succ q=>simp at hq) (fun b h1 h2=>hF b h1 (h2 p (by simp))) hx
 unfold lendx1
 split
 ·rename_i y hy
  rw[hy] at h1
  exact RO.weak h1 fun b hb _ => .inl (by
   rcases hb with hb | ⟨q,hq,_⟩
   ·exact hb
   ·simp at hq)
 ·trivial
theorem q_lee {p kk i j:Nat} {es:List (List T)} {e:List T} {x:T} [TyOne P t] (ho:o.op = .load t y) (hg:o.guard=none) (hy:st.ev y = .o (.c (.el p kk i j))) (hp:st.objs[p]? = some (.row kk es)) (he:es[i]? = some e) (hx:e[j]? = some x):Qt P ops o st (.o (.c (.le p kk i j))) [] n :=
 .pure hg fun a w H F hr=>by
  obtain⟨b,o',e1,hc⟩:=el_cells hr hy hp he
  obtain⟨u,h1,h2⟩:=hc 0 x (by simpa using hx)
  refine⟨u,Yo ho e1 (Kh t b o' u h1),?_⟩
  obtain⟨b2,o2,n2,c2,x2,fp2,k1,k2⟩:=hr.v1 hy
  obtain⟨v,fp,k3,k4⟩:=hr.ow hp
  rw[k1] at k3
  simp only[Pc.ow.injEq] at k3
  obtain⟨_,rfl,rfl⟩:=k3
  rw[e1] at k2
  simp only[Value.pointer.injEq,Option.some.injEq,Addr.mk.injEq] at k2
  obtain⟨rfl,rfl,_⟩:=k2
  refine⟨b,o2,n2,c2,x2,fp2,k1,?_,RO.one h2,by simpa using h1⟩
  rcases k4.open_ with ⟨k5,_⟩ | ⟨b',o',c',tid,cur,fz,val,fps,k5,k6,_⟩
  ·cases k5
  ·simp only[Value.slice.injEq,Option.some.injEq,Addr.mk.injEq] at k5
   rw[k6,k5.1.1]; simp

theorem L_inner {f:FuncId} [hf:FunOk P f] {ass:Array Operand} {tys:Array TypeId} {y0:Operand} {ys:List Operand} {args':List V2} {p kk k' i j:Nat} {es es0 es1:List (List T)} {e:List T} {wv:Value} {ps:List Nat}
  (hc:Con P f [.row k' es0,.gh 0 (.c (.ref 0))] (.c (.ref 0)::args') [.row k' es1,.gh 0 (.c (.ref 0))] (.o (.c (.rd ps (.v wv))))) (ho:o.op = .call { callee := .value (.func f),args:=ass,argTypes:=tys }) (hg:o.guard=none) (has:ass.toList=y0::ys)
  (hy:st.ev y0 = .o (.c (.le p kk i j))) (hp:st.objs[p]? = some (.row kk es)) (he:es[i]? = some e) (hx:e[j]? = some (.sl k' es0)) (ha:ys.map (fun y=>lendx st.objs p (st.ev y))=args') (hd:dstOk st.n o.dst=true)
  (h:AL P E ops QQ rest ⟨st.n,setT (st.tmps.map fun e=>(e.1,e.2.mapk (V1.killw [p] [p]))) o.dst (.o (.c (.rd [] (.v wv)))),(st.objs.map (Ob.mapk (V1.killw [p] [p]))).set p (.row kk (es.set i (splice e j [.sl k' es1])))⟩):AL P E ops QQ (o::rest) st:=by
 refine⟨fun a w ⟨H,F,hr,hsince⟩ => ?_⟩
 have hrun:(execOp a.eval o).run P w = .ok (.enter f (ass.toList.map a.eval).toArray) w:=by
  unfold execOp
  simp only[ho,resolve,Act.eval,Deferred.ofValue,Sem.run_bind,Sem.run_pure,Result.andThen_ok,invoke]
  rw[show (#[]++ass.map a.eval++#[])=(ass.toList.map a.eval).toArray by
   apply Array.ext'
   simp]
  exact run_callFunc _
 refine wpList_step fun K hK => ?_
 rw[if_pos (by unfold Region.wanted; rw[hg])]
 unfold Oper.wp
 rw[hrun]
 obtain⟨v,fp,e1,e2⟩:=hr.ow hp
 have hnd:=hr.ok.nodup p
 rw[e1] at hnd
 obtain⟨b,o',c,u,f0,hv,hbfp,hcell,hOW0,hn0,hsub,hback⟩:=e2.inner hnd he hx
 obtain⟨b',o'',n',c',x',fp',e3,_,_,hcell'⟩:=hr.v1 hy
 have hu:a.eval y0=u:=by
  rw[e1] at e3
  simp only[Pc.ow.injEq] at e3
  have h3:=e3.2.1
  rw[hv] at h3
  simp only[Value.slice.injEq,Option.some.injEq,Addr.mk.injEq] at h3
  rw[←h3.1.1,←h3.1.2.1,hcell] at hcell'
  exact (Option.some.inj hcell').symm
 obtain⟨vs,hvs⟩:∃ vs,vs=ass.toList.map a.eval:=⟨_,rfl⟩
 have hvs2:vs=u::ys.map a.eval:=by rw[hvs,has,List.map_cons,hu]
 obtain⟨H1,hH0,hH1,hH2⟩:∃ H1:Hs,H1 0 = .ow (.sl k' es0) u f0∧H1 1 = .gh 0 u∧∀ q,2≤q→H1 q = .nil:=⟨fun q=>match q with | 0 => .ow (.sl k' es0) u f0 | 1 => .gh 0 u | _ => .nil,rfl,rfl,fun q hq=>by
  match q,hq with
  |q+2,_=>rfl⟩
 obtain⟨F1,hF1⟩:∃ F1:Nat→Prop,F1=fun b=>b<w.heap.size∧b∉fp:=⟨_,rfl⟩
 have hfp:(H p).fp=fp:=by rw[e1]; rfl
 have a3:∀ q x,x∈(H1 q).fp→q=0∧x∈f0:=fun q x hq=>by
  match q with
  |0=>rw[hH0] at hq; exact⟨rfl,hq⟩
  |1=>rw[hH1] at hq; simp[Pc.fp] at hq
  |q+2=>rw[hH2 (q+2) (by omega)] at hq; simp[Pc.fp] at hq
 have hok1:Ok w H1 F1:=by
  refine⟨fun q => ?_,fun q => ?_,fun q r x h1 h2 => ?_,fun q x h1 h2 => ?_,fun x hb=>by rw[hF1] at hb; exact hb.1⟩
  ·match q with
   |0=>rw[hH0]; exact hOW0
   |1=>rw[hH1]; trivial
   |q+2=>rw[hH2 (q+2) (by omega)]; trivial
  ·match q with
   |0=>rw[hH0]; exact hn0
   |1=>rw[hH1]; simp[Pc.fp]
   |q+2=>rw[hH2 (q+2) (by omega)]; simp[Pc.fp]
  ·rw[(a3 q x h1).1,(a3 r x h2).1]
  ·rw[hF1] at h2; exact h2.2 (hsub x (a3 q x h1).2)
 have hobs1:∀ q,RB w H1 F1 q ([Ob.row k' es0,.gh 0 (.c (.ref 0))].getD q .gone):=fun q=>by
  match q with
  |0=>exact⟨u,f0,hH0⟩
  |1=>exact⟨u,hH1,_,_,hH0⟩
  |q+2=>exact hH2 (q+2) (by omega)
 have hargs1:∀ (i:Nat) (x:V2) (v:Value),(V2.c (.ref 0)::args')[i]? = some x→vs[i]? = some v→R2 w H1 F1 x v:=by
  intro i x v hi hv
  rw[hvs2] at hv
  cases i with
  |zero=>simp at hi hv; subst hi hv; exact⟨_,_,hH0⟩
  | succ i =>
   rw[Gxj] at hi hv
   rw[←ha,Gqi] at hi
   obtain⟨y,h1,rfl⟩:=Option.map_eq_some_iff.1 hi
   rw[Gqi,h1] at hv
   simp only[Gq0,Option.some.injEq] at hv
   subst hv
   have h2:=hr.ev y
   have hl1:∀ {x:V1} {v:Value},R1 w H F x v→R1 w H1 F1 (lendx1 st.objs p x) v:=fun hx=>lendx1_ok hr (fun b h1 h2=>by rw[hF1]; exact⟨h1,by rw[←hfp]; exact h2⟩) hx
   cases he:st.ev y with
   | o x =>
    rw[he] at h2
    cases x with
    |c x=>exact hl1 h2
    |ag xs =>
     obtain⟨us,e,hl,hcs⟩:=h2
     refine⟨us,e,by simpa using hl,fun i x u hi hu => ?_⟩
     rw[Gqi] at hi
     obtain⟨c,h3,rfl⟩:=Option.map_eq_some_iff.1 hi
     exact hl1 (hcs i c u h3 hu)
   |tu xs=>trivial
   |iff cs x=>trivial
 rw[←hvs]
 refine (hc w H1 F1 vs hok1 hobs1 (by rw[hvs2,←ha]; simp) hargs1).mono ?_
 rintro ex w' ⟨H2,F2,rv,rfl,hsi,hok2,hobs2,hres⟩
 obtain⟨v2,f2,e5⟩:∃ v2 f2,H2 0 = .ow (.sl k' es1) v2 f2:=hobs2 0
 obtain⟨v3,e6,x3,f3,e7⟩:∃ v3,H2 1 = .gh 0 v3∧∃ x3 f3,H2 0 = .ow x3 v3 f3:=hobs2 1
 have e8:v3=u:=by
  obtain⟨q,hq⟩:∃ q,H1 q = .gh 0 v3:=hsi.gh 1 0 v3 e6
  match q with
  |0=>rw[hH0] at hq; cases hq
  |1=>rw[hH1] at hq; simp only[Pc.gh.injEq] at hq; exact hq.2.symm
  |q+2=>rw[hH2 (q+2) (by omega)] at hq; cases hq
 have e9:v2=u:=by
  rw[e5] at e7
  simp only[Pc.ow.injEq] at e7
  rw[e7.2.1,e8]
 subst e9
 have hO:=hok2.says 0
 rw[e5] at hO
 have hn2:=hok2.nodup 0
 rw[e5] at hn2
 have hkeepb:∀ x,x<w.heap.size→x∉f0→w'.heap[x]? = w.heap[x]? := fun x h1 h2=>hsi.keep x h1 fun q hq=>h2 (a3 q x hq).2
 have hlt:∀ x∈fp,x<w.heap.size:=fun x hx=>hr.ok.lt (p:=p) (by rw[hfp]; exact hx)
 obtain⟨fp2,h7,h8,h9'⟩:=hback w' (.sl k' es1) f2 (fun x h1 h2=>hkeepb x (hlt x h1) h2) hO hn2 (fun x hx=>by
  rcases hsi.org 0 x (by rw[e5]; exact hx) with ⟨q,hq⟩ | hq
  ·exact .inl (a3 q x hq).2
  ·exact .inr fun h=>Nat.not_le_of_lt (hlt x h) hq)
 have h9:∀ x∈fp2,x∈fp∨w.heap.size≤x:=fun x hx=>by
  rcases h9' x hx with h | h
  ·exact .inl h.1
  ·rcases hsi.org 0 x (by rw[e5]; exact h) with ⟨q,hq⟩ | hq
   ·exact .inl (hsub x (a3 q x hq).2)
   ·exact .inr hq
 have hkeep:Keeps w w' fp:=⟨hsi.os,hsi.tape,hsi.output,hsi.size,fun x h1 h2=>hkeepb x h1 fun h3=>h2 (hsub x h3)⟩
 obtain⟨hok,htn⟩:=hr.ok.turn (p:=p) (fp:=fp) hfp hkeep (.ow (.sl kk (es.set i (splice e j [.sl k' es1]))) v fp2) h7 h8 trivial h9
 have hplace:∀ q ∈ [p],Place (H q) (H.put p (.ow (.sl kk (es.set i (splice e j [.sl k' es1]))) v fp2) q):=fun q hq=>by
  have:q=p:=by simpa using hq
  subst this
  exact .inl ⟨_,_,_,_,_,e1,Hs.put_self _ _ _⟩
 obtain⟨hplt,_⟩:=Gqm.1 hp
 have hR:=hr.mapk (V1.killw [p] [p]) (fun x v hx=>R1.killw hr.ok htn hplace hx) hok ((st.objs.map (Ob.mapk (V1.killw [p] [p]))).set p (.row kk (es.set i (splice e j [.sl k' es1])))) (fun q => ?_)
 ·have hR2:=hR.put (x := .o (.c (.rd [] (.v wv)))) o.dst hd (v:=rv) (by
   have h1:R1 w' H2 F2 (.rd ps (.v wv)) rv:=hres
   obtain⟨rfl,h2⟩:=RO.plain h1
   exact RO.v _ h2)
  exact hK _ _ (h.h _ _ ⟨_,F,hR2,hsince.turn htn⟩)
 ·by_cases hqp:q=p
  ·subst hqp
   rw[Yq (x := .row kk (es.set i (splice e j [.sl k' es1]))) (by simp[hplt])]
   exact⟨_,_,Hs.put_self _ _ _⟩
  ·rw[Gqf,Gq8 (Ne.symm hqp),Gqi]
   have h2:=hr.obs q
   rw[Gqf] at h2
   have h3:H.put p (.ow (.sl kk (es.set i (splice e j [.sl k' es1]))) v fp2) q=H q:=Hs.put_ne _ _ hqp
   cases ho:st.objs[q]? with
   |none=>rw[ho] at h2; exact h3.trans h2
   |some ob=>rw[ho] at h2; exact RB.mapk (fun x v hx=>R1.killw hr.ok htn hplace hx) h3 h2
theorem M_inner {ts:List (Nat×V)} {obs:List Ob} {d:Nat} {f:FuncId} [hf:FunOk P f] {ass:Array Operand} {tys:Array TypeId} {y0:Operand} {ys:List Operand} {args':List V2} {p kk k' i j:Nat} {es es0 es1:List (List T)} {e:List T} {wv:Value} {ps:List Nat}
  (hc:Con P f [.row k' es0,.gh 0 (.c (.ref 0))] (.c (.ref 0)::args') [.row k' es1,.gh 0 (.c (.ref 0))] (.o (.c (.rd ps (.v wv))))) (ho:o.op = .call { callee := .value (.func f),args:=ass,argTypes:=tys }) (hg:o.guard=none) (hd:o.dst=some d) (hl:Nat.blt d n=true) (has:ass.toList=y0::ys)
  (hy:St.ev ⟨n,ts,obs⟩ y0 = .o (.c (.le p kk i j))) (hp:obs[p]? = some (.row kk es)) (ha:ys.map (fun y=>lendx obs p (St.ev ⟨n,ts,obs⟩ y))=args') (he:es[i]? = some e) (hx:e[j]? = some (.sl k' es0))
  (h:AL P E ops QQ rest ⟨n,(d,.o (.c (.rd [] (.v wv))))::(ts.map fun e=>(e.1,e.2.mapk (V1.killw [p] [p]))),(obs.map (Ob.mapk (V1.killw [p] [p]))).set p (.row kk (es.set i (splice e j [.sl k' es1])))⟩):AL P E ops QQ (o::rest) ⟨n,ts,obs⟩ :=
 L_inner (st:=⟨n,ts,obs⟩) hc ho hg has hy hp he hx ha (by rw[hd]; exact hl) (by rw[hd]; exact h)
end
end
section
open Go.RowKit

theorem OW.take {w:World} {k:Nat} {es:List (List T)} {v:Value} {fp:List Nat} (h:OW w (.sl k es) v fp) (hnd:fp.Nodup) {n:Nat} (hn:n≤es.length):∃ A c fp',v = .slice A es.length c∧es.length≤c∧OW w (.sl k (es.take n)) (.slice (if c=0 then A else A.map (·.add (0*k))) (n-0) (c-0)) fp'∧(∀ b∈fp',b∈fp)∧fp'.Nodup:=by
 cases h with
 |nil =>
  have:n=0:=by simpa using hn
  subst this
  exact⟨none,0,[],J,Gqj _,by simpa using OW.nil (w:=w) k,by simp,by simp⟩
 | sl _ b o _ c tid cur fz val fps hg hz hc hm hs hp hk hf hfk hv ht =>
  have hA:(if c=0 then some (⟨b,o,none⟩:Addr) else (some (⟨b,o,none⟩:Addr)).map (·.add (0*k)))=some ⟨b,o,none⟩:=by
   split
   ·rfl
   ·simp[Addr.add]
  have hl:(es.take n).length=n:=by simp; omega
  have hfl:fps.flatten.flatten=(fps.take n).flatten.flatten++(fps.drop n).flatten.flatten:=by
   rw[←Gqp,←Gqp,Gxe]
  refine⟨some ⟨b,o,none⟩,c,b::(fps.take n).flatten.flatten,J,hc,?_,fun x hx => ?_,?_⟩
  ·rw[hA]
   have h1:=OW.sl (w:=w) (es.take n) b o k c tid cur fz val (fps.take n) hg hz (by omega) hm hs hp (fun e he=>hk e (List.mem_of_mem_take he)) (by simp[hf]) (fun f hf'=>hfk f (List.mem_of_mem_take hf'))
    (fun i j hi hj=>hv i j (by omega) hj) (fun i j e t fs f g1 g2 g3 g4=>by
     have hi:=Yr g1
     rw[hl] at hi
     rw[Gxc,if_pos hi] at g1 g3
     exact ht i j e t fs f g1 g2 g3 g4)
   rw[hl] at h1
   simpa using h1
  ·rcases List.mem_cons.1 hx with rfl | hx
   ·simp
   ·exact Gq5 _ (by rw[hfl]; exact List.mem_append_left _ hx)
  ·rw[hfl,←List.cons_append] at hnd
   exact (List.nodup_append.1 hnd).1

def allP {α:Type} (f:α→Prop):List α→Prop
 | []=>True
 |x::l=>f x∧allP f l
theorem allP_map {α β:Type} {f:α→Prop} {g h:α→β} (hgh:∀ x,f x→g x=h x):∀ {l:List α},allP f l→l.map g=l.map h
 | [],_=>rfl
 |x::l,hl=>by rw[List.map_cons,List.map_cons,hgh x hl.1,allP_map hgh hl.2]
section
variable {P:Program} {E:Env} {ops:Array Oper} {o:Oper} {st:St} {rest:List Oper} {QQ:Exit→St→Prop} {t:TypeId} {y u:Operand} {rs:List Nat} {j:Int} {m:Nat}
end
section
variable {P:Program} {E:Env} {ops:Array Oper} {o:Oper} {st:St} {rest:List Oper} {QQ:Exit→St→Prop} {t:TypeId} {y u:Operand} {rs:List Nat} {j:Int}
end
end
section
open Go.RowKit

def V2.allk (f:V1→Prop):V2→Prop
 | .c x=>f x
 | .ag xs=>allP f xs
def V.allk (f:V1→Prop):V→Prop
 | .o x=>x.allk f
 | .tu xs=>allP (V2.allk f) xs
 | .iff _ x=>x.allk f
def Ob.allk (f:V1→Prop):Ob→Prop
 | .box cs=>allP f cs
 | .gh _ x=>x.allk f
 | .lk x y=>f x∧f y
 |_=>True
section
variable {f:V1→Prop} {g h:V1→V1} (hgh:∀ x,f x→g x=h x)
include hgh
theorem V2.allk_eq (x:V2) (hx:x.allk f):x.mapk g=x.mapk h:=by
 cases x with
 |c x=>exact congrArg V2.c (hgh x hx)
 |ag xs=>exact congrArg V2.ag (allP_map hgh hx)
theorem V.allk_eq (x:V) (hx:x.allk f):x.mapk g=x.mapk h:=by
 cases x with
 |o x=>exact congrArg V.o (V2.allk_eq hgh x hx)
 |tu xs=>exact congrArg V.tu (allP_map (V2.allk_eq hgh) hx)
 |iff cs x=>exact congrArg (V.iff cs) (V2.allk_eq hgh x hx)
theorem Ob.allk_eq (x:Ob) (hx:x.allk f):x.mapk g=x.mapk h:=by
 cases x with
 |box cs=>exact congrArg Ob.box (allP_map hgh hx)
 |gh i x=>exact congrArg (Ob.gh i) (V2.allk_eq hgh x hx)
 |lk x y=>exact show Ob.lk _ _=Ob.lk _ _ by rw[hgh x hx.1,hgh y hx.2]
 |_=>rfl
end
def V1.leok (p kk i j:Nat):V1→Prop
 | .le q k a b=>match Nat.beq q p with
  |true=>k=kk∧a=i∧b=j
  |false=>True
 |_=>True
def V1.tole (p m:Nat):V1→V1
 | .le q k a b=>match Nat.beq q p with
  |true => .ref m
  |false=>(V1.le q k a b).killw [p,m] [p]
 |x=>x.killw [p,m] [p]
def V1.tole0 (p m kk i j:Nat):V1→V1
 | .le q k a b=>match Nat.beq q p with
  |true=>if k=kk∧a=i∧b=j then .ref m else .un
  |false=>(V1.le q k a b).killw [p,m] [p]
 |x=>x.killw [p,m] [p]
theorem V1.tole_eq {p m kk i j:Nat} (x:V1) (hx:x.leok p kk i j):x.tole0 p m kk i j=x.tole p m:=by
 cases x with
 | le q k a b =>
  simp only[V1.tole0,V1.tole]
  simp only[V1.leok] at hx
  split
  ·rename_i hq
   rw[hq] at hx
   exact if_pos hx
  ·rfl
 |_=>rfl
theorem Wk.split0 {st:St} {p kk i j k':Nat} {es es0:List (List T)} {e:List T} (hp:st.objs[p]? = some (.row kk es)) (he:es[i]? = some e) (hx:e[j]? = some (.sl k' es0)) :
  Wk st ⟨st.n,st.tmps.map fun t=>(t.1,t.2.mapk (V1.tole0 p st.objs.length kk i j)),((st.objs.map (Ob.mapk (V1.tole0 p st.objs.length kk i j))).set p (.row kk (es.set i (splice e j [.un])))) ++ [.row k' es0]⟩:=by
 intro w H F a h1
 obtain⟨v,fp,e1,e2⟩:=h1.ow hp
 have hnd:=h1.ok.nodup p
 rw[e1] at hnd
 have hnil:H st.objs.length = .nil:=by
  have:=h1.obs st.objs.length
  simpa[Gqf,RB] using this
 have hplt:=Yr hp
 obtain⟨b,o,c,u,f,rfl,hbf,hcell,hO,hfn,hsub,hback⟩:=e2.inner hnd he hx
 have hlt:∀ x∈fp,x<w.heap.size:=fun x hx=>h1.ok.lt (p:=p) (by rw[e1]; exact hx)
 have hu1:u.oneCell'=true:=OW.one hO
 obtain⟨fp',g1,g2,g3⟩:=hback w .un [] (fun _ _ _=>rfl) (.un u hu1) List.nodup_nil (fun x hx=>by simp at hx)
 have g4:∀ x∈fp',x∈fp∧x∉f:=fun x hx=>(g3 x hx).resolve_right (by simp)
 obtain⟨N,hN⟩:∃ N,N=st.objs.length:=⟨_,rfl⟩
 rw[←hN] at hnil ⊢
 have hNp:N≠p:=by omega
 obtain⟨H',hH'⟩:∃ H':Hs,H'=fun q=>if q=N then .ow (.sl k' es0) u f else if q=p then .ow (.sl kk (es.set i (splice e j [.un]))) (.slice (some ⟨b,o,none⟩) es.length c) fp' else H q:=⟨_,rfl⟩
 have hHN:H' N = .ow (.sl k' es0) u f:=by rw[hH']; exact if_pos rfl
 have hHp:H' p = .ow (.sl kk (es.set i (splice e j [.un]))) (.slice (some ⟨b,o,none⟩) es.length c) fp':=by rw[hH']; simp[Ne.symm hNp]
 have hHo:∀ q,q≠N→q≠p→H' q=H q:=fun q h1 h2=>by rw[hH']; simp only; rw[if_neg h1,if_neg h2]
 have hin:∀ q x,x∈(H' q).fp→(q=N∧x∈f)∨(q=p∧x∈fp∧x∉f)∨(q≠N∧q≠p∧x∈(H q).fp):=fun q x hx=>by
  by_cases hq:q=N
  ·subst hq; rw[hHN] at hx; exact .inl ⟨rfl,hx⟩
  ·by_cases hqp:q=p
   ·subst hqp; rw[hHp] at hx; exact .inr (.inl ⟨rfl,g4 x hx⟩)
   ·rw[hHo q hq hqp] at hx; exact .inr (.inr ⟨hq,hqp,hx⟩)
 have hpf:∀ x,x∈fp→x∈(H p).fp:=fun x hx=>by rw[e1]; exact hx
 have hok:Ok w H' F:=by
  refine⟨fun q => ?_,fun q => ?_,fun q r x h2 h3 => ?_,fun q x h2 => ?_,h1.ok.flt⟩
  ·by_cases hq:q=N
   ·subst hq; rw[hHN]; exact hO
   ·by_cases hqp:q=p
    ·subst hqp; rw[hHp]; exact g1
    ·rw[hHo q hq hqp]; exact h1.ok.says q
  ·by_cases hq:q=N
   ·subst hq; rw[hHN]; exact hfn
   ·by_cases hqp:q=p
    ·subst hqp; rw[hHp]; exact g2
    ·rw[hHo q hq hqp]; exact h1.ok.nodup q
  ·rcases hin q x h2 with ⟨rfl,k1⟩ | ⟨rfl,k1,k2⟩ | ⟨k1,k2,k3⟩ <;> rcases hin r x h3 with ⟨e5,m1⟩ | ⟨e5,m1,m2⟩ | ⟨m1,m2,m3⟩
   ·exact e5.symm
   ·exact absurd k1 m2
   ·exact absurd (h1.ok.disj r p x m3 (hpf x (hsub x k1))) m2
   ·exact absurd m1 k2
   ·exact e5.symm
   ·exact absurd (h1.ok.disj r q x m3 (hpf x k1)) m2
   ·exact absurd (h1.ok.disj q p x k3 (hpf x (hsub x m1))) k2
   ·exact absurd (h1.ok.disj q p x k3 (hpf x m1)) k2
   ·exact h1.ok.disj q r x k3 m3
  ·rcases hin q x h2 with ⟨rfl,k1⟩ | ⟨rfl,k1,k2⟩ | ⟨k1,k2,k3⟩
   ·exact h1.ok.free p x (hpf x (hsub x k1))
   ·exact h1.ok.free q x (hpf x k1)
   ·exact h1.ok.free q x k3
 have hfpo:∀ q x,x∈(H' q).fp→∃ r,x∈(H r).fp:=fun q x hx=>by
  rcases hin q x hx with ⟨rfl,k1⟩ | ⟨rfl,k1,k2⟩ | ⟨k1,k2,k3⟩
  ·exact⟨p,hpf x (hsub x k1)⟩
  ·exact⟨q,hpf x k1⟩
  ·exact⟨q,k3⟩
 have hghs:∀ q i v,H' q = .gh i v→∃ r,H r = .gh i v:=fun q i v hq=>by
  by_cases hqN:q=N
  ·subst hqN; rw[hHN] at hq; cases hq
  ·by_cases hqp:q=p
   ·subst hqp; rw[hHp] at hq; cases hq
   ·exact⟨q,by rw[←hHo q hqN hqp]; exact hq⟩
 have htn:Turn w H w H' [p,N]:=⟨rfl,rfl,rfl,Gqj _,fun _ _ _=>rfl,fun q hq=>hHo q (fun e=>hq (by simp[e])) (fun e=>hq (by simp[e])),fun q x hx => .inl (hfpo q x hx),hghs⟩
 have hplace:∀ q ∈ [p],Place (H q) (H' q):=fun q hq=>by
  have:q=p:=by simpa using hq
  subst this
  exact .inl ⟨_,_,_,_,_,e1,hHp⟩
 have hone:∀ x v,R1 w H F x v→R1 w H' F (V1.tole0 p N kk i j x) v:=fun x v hx=>by
  cases x with
  | le q k a b' =>
   simp only[V1.tole0]
   split
   ·rename_i hq
    have hqp:=Gxb hq
    subst hqp
    split
    ·rename_i hc
     rw[hc.1,hc.2.1,hc.2.2] at hx
     obtain⟨b2,o2,n2,c2,x2,fp2,k1,k2,k3,k4⟩:=hx
     rw[e1] at k1
     simp only[Pc.ow.injEq,Value.slice.injEq,Option.some.injEq,Addr.mk.injEq] at k1
     obtain⟨_,⟨⟨rfl,rfl,_⟩,_,_⟩,_⟩:=k1
     rw[hcell] at k4
     simp only[Option.some.injEq] at k4
     subst k4
     exact⟨_,_,hHN⟩
    ·trivial
   ·exact R1.killw h1.ok htn hplace hx
  |_=>exact R1.killw h1.ok htn hplace hx
 refine⟨H',h1.mapk (V1.tole0 p N kk i j) hone hok _ (fun q => ?_),hfpo,hghs⟩
 by_cases hqN:q=N
 ·subst hqN
  rw[Yq (x := .row k' es0) (by rw[Gqv (by simp; omega)]; simp[hN])]
  exact⟨_,_,hHN⟩
 by_cases hqp:q=p
 ·subst hqp
  rw[Yq (x := .row kk (es.set i (splice e j [.un]))) (by rw[Gq1 (by simpa using hplt)]; simp[hplt])]
  exact⟨_,_,hHp⟩
 ·rcases Gqq q st.objs.length with hlt2 | hge
  ·rw[Gqf,Gq1 (by simpa using hlt2),Gq8 (Ne.symm hqp),Gqi]
   have h2:=h1.obs q
   rw[Gqf] at h2
   have h3:H' q=H q:=hHo q hqN hqp
   cases ho:st.objs[q]? with
   |none=>rw[ho] at h2; exact h3.trans h2
   |some ob=>rw[ho] at h2; exact RB.mapk hone h3 h2
  ·rw[Gqf,List.getElem?_eq_none (by simp; omega)]
   have h2:=h1.obs q
   rw[Gqf,List.getElem?_eq_none hge] at h2
   exact (hHo q hqN hqp).trans h2
theorem Wk.split {st:St} {p kk i j k':Nat} {es es0:List (List T)} {e:List T} (hp:st.objs[p]? = some (.row kk es)) (he:es[i]? = some e) (hx:e[j]? = some (.sl k' es0)) (ht:allP (fun t:Nat×V=>t.2.allk (V1.leok p kk i j)) st.tmps) (ho:allP (Ob.allk (V1.leok p kk i j)) st.objs) :
  Wk st ⟨st.n,st.tmps.map fun t=>(t.1,t.2.mapk (V1.tole p st.objs.length)),((st.objs.map (Ob.mapk (V1.tole p st.objs.length))).set p (.row kk (es.set i (splice e j [.un])))) ++ [.row k' es0]⟩:=by
 have h:=Wk.split0 hp he hx
 rw[allP_map (g:=fun e:Nat×V=>(e.1,e.2.mapk (V1.tole0 p st.objs.length kk i j))) (h:=fun e:Nat×V=>(e.1,e.2.mapk (V1.tole p st.objs.length))) (fun e he=>by rw[V.allk_eq V1.tole_eq e.2 he]) ht,allP_map (fun x hx=>Ob.allk_eq V1.tole_eq x hx) ho] at h
 exact h
end
section
open Go.RowKit

theorem Wk.join {st:St} {p kk i j k' N L:Nat} {es es1:List (List T)} {e:List T} (hp:st.objs[p]? = some (.row kk es)) (he:es[i]? = some e) (hx:e[j]? = some .un) (hN:st.objs[N]? = some (.row k' es1)) (hL:st.objs[L]? = some (.lk (.le p kk i j) (.ref N))) (hpN:Nat.beq p N=false) :
  Wk st ⟨st.n,st.tmps.map fun t=>(t.1,t.2.mapk (V1.killw [p,N,L] [p])),(((st.objs.map (Ob.mapk (V1.killw [p,N,L] [p]))).set p (.row kk (es.set i (splice e j [.sl k' es1])))).set N .gone).set L .gone⟩:=by
 intro w H F a h1
 have hpN:p≠N:=fun e=>by rw[e,show Nat.beq N N=true from Nat.beq_refl N] at hpN; cases hpN
 obtain⟨v,fp,e1,e2⟩:=h1.ow hp
 obtain⟨vN,fN,e3,e4⟩:=h1.ow hN
 have hbL:=h1.obs L
 rw[Yq hL] at hbL
 obtain⟨u,e5,⟨b',o',n',c',x',fp',e6,e7,e8,e9⟩,⟨x2,f2,e10⟩⟩:=hbL
 rw[e3] at e10
 simp only[Pc.ow.injEq] at e10
 obtain⟨_,rfl,_⟩:=e10
 have hnd:=h1.ok.nodup p
 rw[e1] at hnd
 have hndN:=h1.ok.nodup N
 rw[e3] at hndN
 obtain⟨b,o,c,u2,f,rfl,hbf,hcell,hO,hfn,hsub,hback⟩:=e2.inner hnd he hx
 rw[e1] at e6
 simp only[Pc.ow.injEq,Value.slice.injEq,Option.some.injEq,Addr.mk.injEq] at e6
 obtain⟨_,⟨⟨rfl,rfl,_⟩,_,_⟩,_⟩:=e6
 rw[hcell] at e9
 simp only[Option.some.injEq] at e9
 subst e9
 have hf0:f = []:=by cases hO; rfl
 subst hf0
 have hdis:∀ x∈fN,x∉fp:=fun x h2 h3=>hpN (h1.ok.disj p N x (by rw[e1]; exact h3) (by rw[e3]; exact h2))
 obtain⟨fp2,g1,g2,g3⟩:=hback w (.sl k' es1) fN (fun _ _ _=>rfl) e4 hndN (fun x hx => .inr (hdis x hx))
 have hk:Keeps w w fp:=⟨rfl,rfl,rfl,Gqj _,fun _ _ _=>rfl⟩
 have hpL:p≠L:=fun e=>by rw[e,e5] at e1; cases e1
 have hNL:N≠L:=fun e=>by rw[e,e5] at e3; cases e3
 obtain⟨hok,htn⟩:=h1.ok.takein (p:=p) (rs := [N,L]) (by rw[e1]; rfl) (by simp[hpN,hpL]) hk (.ow (.sl kk (es.set i (splice e j [.sl k' es1]))) (.slice (some ⟨b,o,none⟩) es.length c) fp2) g1 g2 trivial (fun x hx=>by
  rcases g3 x hx with h | h
  ·exact .inl h.1
  ·exact .inr (.inl ⟨N,by simp,by rw[e3]; exact h⟩))
 obtain⟨H',hH'⟩:∃ H':Hs,H'=fun r=>if r=p then .ow (.sl kk (es.set i (splice e j [.sl k' es1]))) (.slice (some ⟨b,o,none⟩) es.length c) fp2 else if r ∈ [N,L] then .nil else H r:=⟨_,rfl⟩
 rw[←hH'] at hok htn
 have hHp:H' p = .ow (.sl kk (es.set i (splice e j [.sl k' es1]))) (.slice (some ⟨b,o,none⟩) es.length c) fp2:=by rw[hH']; exact if_pos rfl
 have hHo:∀ q,q≠p→q≠N→q≠L→H' q=H q:=fun q h1 h2 h3=>by rw[hH']; simp[h1,h2,h3]
 have hHn:∀ q,q≠p→(q=N∨q=L)→H' q = .nil:=fun q h1 h2=>by rw[hH']; simp[h1,h2]
 have hplace:∀ q ∈ [p],Place (H q) (H' q):=fun q hq=>by
  have:q=p:=by simpa using hq
  subst this
  exact .inl ⟨_,_,_,_,_,e1,hHp⟩
 have hone:∀ x v,R1 w H F x v→R1 w H' F (x.killw [p,N,L] [p]) v:=fun x v hx=>R1.killw h1.ok htn hplace hx
 have hplt:=Yr hp
 have hNlt:=Yr hN
 have hLlt:=Yr hL
 refine⟨H',h1.mapk (V1.killw [p,N,L] [p]) hone hok _ (fun q => ?_),fun q x hq => ?_,fun q i v hq => ?_⟩
 ·rw[Gqf,List.getElem?_set]
  by_cases hqL:L=q
  ·subst hqL
   rw[if_pos rfl,if_pos (by simpa using hLlt)]
   exact hHn L (Ne.symm hpL) (.inr J)
  rw[if_neg hqL,List.getElem?_set]
  by_cases hqN:N=q
  ·subst hqN
   rw[if_pos rfl,if_pos (by simpa using hNlt)]
   exact hHn N (Ne.symm hpN) (.inl J)
  rw[if_neg hqN,List.getElem?_set]
  by_cases hqp:p=q
  ·subst hqp
   rw[if_pos rfl,if_pos (by simpa using hplt)]
   exact⟨_,_,hHp⟩
  rw[if_neg hqp,Gqi]
  have h2:=h1.obs q
  rw[Gqf] at h2
  have h3:H' q=H q:=hHo q (Ne.symm hqp) (Ne.symm hqN) (Ne.symm hqL)
  cases ho:st.objs[q]? with
  |none=>rw[ho] at h2; exact h3.trans h2
  |some ob=>rw[ho] at h2; exact RB.mapk hone h3 h2
 ·rcases htn.fp q x hq with ⟨r,hr⟩ | hr
  ·exact⟨r,hr⟩
  ·exact absurd (hok.lt hq) (by omega)
 ·exact htn.gh q i v hq
section
variable {P:Program} {ops:Array Oper} {o:Oper} {st:St} {t:TypeId} {y:Operand} {n:Nat}
end
end
section
open Go.RowKit

section
variable {P:Program} {ops:Array Oper} {o:Oper} {st:St} {t:TypeId} {y:Operand} {n:Nat}
end
section
variable {P:Program} {ops:Array Oper} {o:Oper} {st:St} {n:Nat}
end
end
end Go.Proofs.YtoecjaohdnoenaaGreat
