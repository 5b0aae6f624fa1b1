/-
  Rules, data and contracts of functions: part 15 of the proof.
  Conditions: those that each theorem names.
-/
import Derived.Test.YtpmacgnmlmmojaaGreatDoorDDDiagRowk13
set_option linter.unusedSimpArgs false
set_option linter.unusedVariables false
set_option maxRecDepth 8000
set_option maxHeartbeats 8000000
namespace Go.Proofs.YtpmacgnmlmmojaaGreatDoor
section
open Go.RowKit

theorem flat_one {fps:List (List (List Nat))} {i j:Nat} {G:List (List Nat)} {f:List Nat} (hi:fps[i]? = some G) (hj:G[j]? = some f):∃ X Z:List Nat,fps.flatten.flatten=X++f++Z∧∀ f':List Nat,(fps.set i (splice G j [f'])).flatten.flatten=X++f'++Z:=by
 obtain⟨hlt,he⟩:=Gqm.1 hi
 obtain⟨hlj,hf⟩:=Gqm.1 hj
 refine⟨(fps.take i).flatten.flatten++(G.take j).flatten,(G.drop (j+1)).flatten++(fps.drop (i+1)).flatten.flatten,?_,fun f' => ?_⟩
 ·conv=>lhs; rw[←Gxi i fps,Gxj hlt,he]
  have hG:G.flatten=(G.take j).flatten++f++(G.drop (j+1)).flatten:=by
   conv=>lhs; rw[←Gxi j G,Gxj hlj,hf]
   simp[Gq1]
  rw[Gqo,List.flatten_cons,Gqo,Gqo,hG]
  simp[Gq1]
 ·rw[List.set_eq_take_append_cons_drop,if_pos hlt]
  rw[Gqo,List.flatten_cons,Gqo,Gqo,splice,Gqo,Gqo]
  simp[Gq1]

theorem sep_list {l:List (List Nat)} (hn:l.flatten.Nodup) {i j:Nat} {f g:List Nat} (hi:l[i]? = some f) (hj:l[j]? = some g) (hij:i≠j) {x:Nat} (hx:x∈f) (hy:x∈g):False:=by
 obtain⟨hp,hq⟩:=List.pairwise_flatten.1 hn
 obtain⟨h1,rfl⟩:=Gqm.1 hi
 obtain⟨h2,rfl⟩:=Gqm.1 hj
 rcases Nat.lt_or_gt_of_ne hij with h | h
 ·exact (List.pairwise_iff_getElem.1 hq i j h1 h2 h) x hx x hy rfl
 ·exact (List.pairwise_iff_getElem.1 hq j i h2 h1 h) x hy x hx rfl
theorem sep_elems {fps:List (List (List Nat))} (hn:fps.flatten.flatten.Nodup) {i i' j j':Nat} {G G':List (List Nat)} {f g:List Nat} (hi:fps[i]? = some G) (hi':fps[i']? = some G') (hii:i≠i') (hf:G[j]? = some f) (hg:G'[j']? = some g) {x:Nat} (hx:x∈f) (hy:x∈g):False:=by
 have h1:(fps.map List.flatten).flatten=fps.flatten.flatten:=by simp[List.flatten_flatten]
 rw[←h1] at hn
 exact sep_list hn (i:=i) (j:=i') (f:=G.flatten) (g:=G'.flatten) (by simp[hi]) (by simp[hi']) hii (List.mem_flatten.2 ⟨f,Yp hf,hx⟩) (List.mem_flatten.2 ⟨g,Yp hg,hy⟩)
theorem sep_cells {fps:List (List (List Nat))} (hn:fps.flatten.flatten.Nodup) {i j j':Nat} {G:List (List Nat)} {f g:List Nat} (hi:fps[i]? = some G) (hf:G[j]? = some f) (hg:G[j']? = some g) (hjj:j≠j') {x:Nat} (hx:x∈f) (hy:x∈g):False:=by
 have h1:(fps.map List.flatten).flatten=fps.flatten.flatten:=by simp[List.flatten_flatten]
 rw[←h1] at hn
 obtain⟨hp,_⟩:=List.pairwise_flatten.1 hn
 exact sep_list (hp G.flatten (Gqx.2 ⟨G,Yp hi,J⟩)) hf hg hjj hx hy

theorem OW.inner {w:World} {k:Nat} {es:List (List T)} {v:Value} {fp:List Nat} (h:OW w (.sl k es) v fp) (hnd:fp.Nodup) {i j k':Nat} {e:List T} {es0:List (List T)} (hi:es[i]? = some e) (hj:e[j]? = some (.sl k' es0)) :
  ∃ b o c u f,v = .slice (some ⟨b,o,none⟩) es.length c∧b∈fp∧w.cell? ⟨b,o+i*k+j,none⟩=some u∧OW w (.sl k' es0) u f∧f.Nodup∧(∀ x∈f,x∈fp) ∧
   ∀ (w':World) (t1:T) (f':List Nat),(∀ x∈fp,x∉f→w'.heap[x]? = w.heap[x]?)→OW w' t1 u f'→f'.Nodup→(∀ x∈f',x∈f∨w.heap.size≤x)→(∀ x∈fp,x<w.heap.size) →
    ∃ fp',OW w' (.sl k (es.set i (splice e j [t1]))) v fp'∧fp'.Nodup∧∀ x∈fp',(x∈fp∧x∉f)∨x∈f':=by
 rcases h.open_ with ⟨rfl,rfl,rfl⟩ | ⟨b,o,c,tid,cur,fz,val,fps,rfl,rfl,hg,hz,hc,hcm,hcs,hp,hk,hff,hfk,hv,ht⟩
 ·simp at hi
 have hil:=Yo hi
 have hek:e.length=k:=hk e (Yp hi)
 have hjl:=Yo hj
 rw[hek] at hjl
 have hfi:fps[i]? = some fps[i]:=Gqe (by omega)
 have hfik:(fps[i]'(by omega)).length=k:=hfk _ (Gqi _)
 obtain⟨G,hG⟩:∃ G,G=fps[i]'(by omega):=⟨_,rfl⟩
 rw[←hG] at hfi hfik
 obtain⟨f,hf⟩:∃ f,G[j]? = some f:=⟨_,Gqe (by omega)⟩
 obtain⟨X,Z,e1,e2⟩:=flat_one hfi hf
 have hndc:=Gq9.1 hnd
 have hndf:=hndc.2
 rw[e1] at hndf
 obtain⟨n1,n2,n3⟩:=List.nodup_append.1 hndf
 obtain⟨n4,n5,n6⟩:=List.nodup_append.1 n1
 have hbf:b∉f:=fun hb=>hndc.1 (mem_ff hfi hf hb)
 refine⟨b,o,c,val i j,f,J,by simp,?_,ht i j e _ G f hi hj hfi hf,n5,fun x hx=>Gq4 _ (mem_ff hfi hf hx),fun w' t1 f' hw hO hn' hf' hlt => ?_⟩
 ·rw[cell_of_row w b _ cur tid fz hg]
  exact hv i j hil hjl
 have hset:(es.set i (splice e j [t1])).length=es.length:=by simp
 have hfr:∀ (i' j':Nat) (e':List T) (t:T) (fs:List (List Nat)) (g:List Nat),es[i']? = some e'→e'[j']? = some t→fps[i']? = some fs→fs[j']? = some g→(∀ x∈g,x∉f)→OW w' t (val i' j') g:=fun i' j' e' t fs g g1 g2 g3 g4 hd =>
  (ht i' j' e' t fs g g1 g2 g3 g4).frame fun x hx=>hw x (Gq4 _ (mem_ff g3 g4 hx)) (hd x hx)
 have hold:∀ x∈X++f++Z,x<w.heap.size:=fun x hx=>hlt x (Gq4 _ (by rw[e1]; exact hx))
 have hdX:∀ x∈X,x∉f':=fun x hx hx'=>by
  rcases hf' x hx' with h1 | h1
  ·exact n6 x hx x h1 rfl
  ·have:=hold x (by simp[hx]); omega
 have hdZ:∀ x∈Z,x∉f':=fun x hx hx'=>by
  rcases hf' x hx' with h1 | h1
  ·exact n3 x (by simp[h1]) x hx rfl
  ·have:=hold x (by simp[hx]); omega
 refine⟨b::(fps.set i (splice G j [f'])).flatten.flatten,?_,?_,?_⟩
 ·rw[←hset]
  refine .sl _ b o k c tid cur fz val _ (by rw[hw b (by simp) hbf]; exact hg) hz (by rw[hset]; exact hc) hcm hcs hp ?_ (by simp[hff]) ?_ (fun i' j' hi' hj'=>hv i' j' (by rw[←hset]; exact hi') hj') fun i' j' e' t' fs' g' g1 g2 g3 g4 => ?_
  ·intro e' he'
   rcases Gxl he' with he' | rfl
   ·exact hk e' he'
   ·rw[splice_len (by simp; omega),hek]
  ·intro g hg'
   rcases Gxl hg' with hg' | rfl
   ·exact hfk g hg'
   ·rw[splice_len (by simp; omega),hfik]
  ·rw[List.getElem?_set] at g1 g3
   by_cases hii:i=i'
   ·subst hii
    simp only[hil,if_true,Option.some.injEq] at g1
    rw[if_pos rfl,if_pos (by omega)] at g3
    simp only[Option.some.injEq] at g3
    subst g1 g3
    rw[splice_at (by simp; omega)] at g2 g4
    by_cases hcond:j≤j'∧j'<j+1
    ·have hjj:j'=j:=by omega
     subst hjj
     rw[if_pos (by simp)] at g2 g4
     simp at g2 g4
     subst g2 g4
     exact hO
    ·rw[if_neg (by simpa using hcond)] at g2 g4
     refine hfr i j' e t' G g' hi g2 hfi g4 fun x hx hxf => ?_
     -- two cells of one element own different blocks
     obtain⟨X2,Z2,e3,e4⟩:=flat_one hfi g4
     exact sep_cells hndc.2 hfi hf g4 (fun e=>hcond ⟨by omega,by omega⟩) hxf hx
   ·rw[if_neg hii] at g1 g3
    refine hfr i' j' e' t' fs' g' g1 g2 g3 g4 fun x hx hxf => ?_
    exact sep_elems hndc.2 hfi g3 hii hf g4 hxf hx
 ·rw[e2]
  refine Gq9.2 ⟨fun hb => ?_,List.nodup_append.2 ⟨List.nodup_append.2 ⟨n4,hn',fun x hx y hy e=>hdX x hx (e▸hy)⟩,n2,fun x hx y hy e => ?_⟩⟩
  ·rcases Gqq.1 hb with hb | hb
   ·rcases Gqq.1 hb with hb | hb
    ·exact hndc.1 (by rw[e1]; simp[hb])
    ·rcases hf' b hb with h1 | h1
     ·exact hbf h1
     ·have:=hlt b (by simp); omega
   ·exact hndc.1 (by rw[e1]; simp[hb])
  ·rcases Gqq.1 hx with hx | hx
   ·exact n3 x (by simp[hx]) y hy e
   ·exact hdZ y hy (e▸hx)
 ·rw[e2,e1]
  intro x hx
  rcases List.mem_cons.1 hx with rfl | hx
  ·exact .inl ⟨by simp,hbf⟩
  ·rcases Gqq.1 hx with hx | hx
   ·rcases Gqq.1 hx with hx | hx
    ·exact .inl ⟨by simp[hx],fun h=>n6 x hx x h rfl⟩
    ·exact .inr hx
   ·exact .inl ⟨by simp[hx],fun h=>n3 x (by simp[h]) x hx rfl⟩

def lendx1 (objs:List Ob) (p:Nat) (x:V1):V1:=match lendw1 objs [p] x with
 | .rd [] y => .rd [] y
 |_ => .un
def lendx (objs:List Ob) (p:Nat):V→V2
 | .o (.c x) => .c (lendx1 objs p x)
 | .o (.ag xs) => .ag (xs.map (lendx1 objs p))
 |_ => .c .un
section
variable {P:Program} {E:Env} {ops:Array Oper} {o:Oper} {st:St} {rest:List Oper} {QQ:Exit→St→Prop} {w:World} {H:Hs} {F:Nat→Prop} {a:Act} {t:TypeId} {y:Operand} {n:Nat}
theorem lendx1_ok {p:Nat} {H1:Hs} {F1:Nat→Prop} (h:R0 w H F st a) (hF:∀ b,b<w.heap.size→b∉(H p).fp→F1 b) {x:V1} {v:Value} (hx:R1 w H F x v):R1 w H1 F1 (lendx1 st.objs p x) v:=by
 have h1:=lendw1_ok (ρ := [p]) (H1:=fun q=>if q=0 then H p else .nil) (F1:=F1) h (fun q r hq=>by
  cases q with
  |zero=>simp at hq; subst hq; rfl
  |succ q=>simp at hq) (fun b h1 h2=>hF b h1 (h2 p (by simp))) hx
 unfold lendx1
 split
 ·rename_i y hy
  rw[hy] at h1
  exact RO.weak h1 fun b hb _ => .inl (by
   rcases hb with hb | ⟨q,hq,_⟩
   ·exact hb
   ·simp at hq)
 ·trivial
theorem q_lee {p kk i j:Nat} {es:List (List T)} {e:List T} {x:T} [TyOne P t] (ho:o.op = .load t y) (hg:o.guard=none) (hy:st.ev y = .o (.c (.el p kk i j))) (hp:st.objs[p]? = some (.row kk es)) (he:es[i]? = some e) (hx:e[j]? = some x):Qt P ops o st (.o (.c (.le p kk i j))) [] n :=
 .pure hg fun a w H F hr=>by
  obtain⟨b,o',e1,hc⟩:=el_cells hr hy hp he
  obtain⟨u,h1,h2⟩:=hc 0 x (by simpa using hx)
  refine⟨u,Yj ho e1 (Z0 t b o' u h1),?_⟩
  obtain⟨b2,o2,n2,c2,x2,fp2,k1,k2⟩:=hr.v1 hy
  obtain⟨v,fp,k3,k4⟩:=hr.ow hp
  rw[k1] at k3
  simp only[Pc.ow.injEq] at k3
  obtain⟨_,rfl,rfl⟩:=k3
  rw[e1] at k2
  simp only[Value.pointer.injEq,Option.some.injEq,Addr.mk.injEq] at k2
  obtain⟨rfl,rfl,_⟩:=k2
  refine⟨b,o2,n2,c2,x2,fp2,k1,?_,RO.one h2,by simpa using h1⟩
  rcases k4.open_ with ⟨k5,_⟩ | ⟨b',o',c',tid,cur,fz,val,fps,k5,k6,_⟩
  ·cases k5
  ·simp only[Value.slice.injEq,Option.some.injEq,Addr.mk.injEq] at k5
   rw[k6,k5.1.1]; simp

theorem L_inner {f:FuncId} [hf:FunOk P f] {ass:Array Operand} {tys:Array TypeId} {y0:Operand} {ys:List Operand} {args':List V2} {p kk k' i j:Nat} {es es0 es1:List (List T)} {e:List T} {wv:Value} {ps:List Nat}
  (hc:Con P f [.row k' es0,.gh 0 (.c (.ref 0))] (.c (.ref 0)::args') [.row k' es1,.gh 0 (.c (.ref 0))] (.o (.c (.rd ps (.v wv))))) (ho:o.op = .call { callee := .value (.func f),args:=ass,argTypes:=tys }) (hg:o.guard=none) (has:ass.toList=y0::ys)
  (hy:st.ev y0 = .o (.c (.le p kk i j))) (hp:st.objs[p]? = some (.row kk es)) (he:es[i]? = some e) (hx:e[j]? = some (.sl k' es0)) (ha:ys.map (fun y=>lendx st.objs p (st.ev y))=args') (hd:dstOk st.n o.dst=true)
  (h:AL P E ops QQ rest ⟨st.n,setT (st.tmps.map fun e=>(e.1,e.2.mapk (V1.killw [p] [p]))) o.dst (.o (.c (.rd [] (.v wv)))),(st.objs.map (Ob.mapk (V1.killw [p] [p]))).set p (.row kk (es.set i (splice e j [.sl k' es1])))⟩):AL P E ops QQ (o::rest) st:=by
 refine⟨fun a w ⟨H,F,hr,hsince⟩ => ?_⟩
 have hrun:(execOp a.eval o).run P w = .ok (.enter f (ass.toList.map a.eval).toArray) w:=by
  unfold execOp
  simp only[ho,resolve,Act.eval,Deferred.ofValue,Sem.run_bind,Sem.run_pure,Result.andThen_ok,invoke]
  rw[show (#[]++ass.map a.eval++#[])=(ass.toList.map a.eval).toArray by
   apply Array.ext'
   simp]
  exact run_callFunc _
 refine wpList_step fun K hK => ?_
 rw[if_pos (by unfold Region.wanted; rw[hg])]
 unfold Oper.wp
 rw[hrun]
 obtain⟨v,fp,e1,e2⟩:=hr.ow hp
 have hnd:=hr.ok.nodup p
 rw[e1] at hnd
 obtain⟨b,o',c,u,f0,hv,hbfp,hcell,hOW0,hn0,hsub,hback⟩:=e2.inner hnd he hx
 obtain⟨b',o'',n',c',x',fp',e3,_,_,hcell'⟩:=hr.v1 hy
 have hu:a.eval y0=u:=by
  rw[e1] at e3
  simp only[Pc.ow.injEq] at e3
  have h3:=e3.2.1
  rw[hv] at h3
  simp only[Value.slice.injEq,Option.some.injEq,Addr.mk.injEq] at h3
  rw[←h3.1.1,←h3.1.2.1,hcell] at hcell'
  exact (Option.some.inj hcell').symm
 obtain⟨vs,hvs⟩:∃ vs,vs=ass.toList.map a.eval:=⟨_,rfl⟩
 have hvs2:vs=u::ys.map a.eval:=by rw[hvs,has,List.map_cons,hu]
 obtain⟨H1,hH0,hH1,hH2⟩:∃ H1:Hs,H1 0 = .ow (.sl k' es0) u f0∧H1 1 = .gh 0 u∧∀ q,2≤q→H1 q = .nil:=⟨fun q=>match q with | 0 => .ow (.sl k' es0) u f0 | 1 => .gh 0 u | _ => .nil,rfl,rfl,fun q hq=>by
  match q,hq with
  |q+2,_=>rfl⟩
 obtain⟨F1,hF1⟩:∃ F1:Nat→Prop,F1=fun b=>b<w.heap.size∧b∉fp:=⟨_,rfl⟩
 have hfp:(H p).fp=fp:=by rw[e1]; rfl
 have a3:∀ q x,x∈(H1 q).fp→q=0∧x∈f0:=fun q x hq=>by
  match q with
  |0=>rw[hH0] at hq; exact⟨rfl,hq⟩
  |1=>rw[hH1] at hq; simp[Pc.fp] at hq
  |q+2=>rw[hH2 (q+2) (by omega)] at hq; simp[Pc.fp] at hq
 have hok1:Ok w H1 F1:=by
  refine⟨fun q => ?_,fun q => ?_,fun q r x h1 h2 => ?_,fun q x h1 h2 => ?_,fun x hb=>by rw[hF1] at hb; exact hb.1⟩
  ·match q with
   |0=>rw[hH0]; exact hOW0
   |1=>rw[hH1]; trivial
   |q+2=>rw[hH2 (q+2) (by omega)]; trivial
  ·match q with
   |0=>rw[hH0]; exact hn0
   |1=>rw[hH1]; simp[Pc.fp]
   |q+2=>rw[hH2 (q+2) (by omega)]; simp[Pc.fp]
  ·rw[(a3 q x h1).1,(a3 r x h2).1]
  ·rw[hF1] at h2; exact h2.2 (hsub x (a3 q x h1).2)
 have hobs1:∀ q,RB w H1 F1 q ([Ob.row k' es0,.gh 0 (.c (.ref 0))].getD q .gone):=fun q=>by
  match q with
  |0=>exact⟨u,f0,hH0⟩
  |1=>exact⟨u,hH1,_,_,hH0⟩
  |q+2=>exact hH2 (q+2) (by omega)
 have hargs1:∀ (i:Nat) (x:V2) (v:Value),(V2.c (.ref 0)::args')[i]? = some x→vs[i]? = some v→R2 w H1 F1 x v:=by
  intro i x v hi hv
  rw[hvs2] at hv
  cases i with
  |zero=>simp at hi hv; subst hi hv; exact⟨_,_,hH0⟩
  | succ i =>
   rw[Gxp] at hi hv
   rw[←ha,Gqh] at hi
   obtain⟨y,h1,rfl⟩:=Option.map_eq_some_iff.1 hi
   rw[Gqh,h1] at hv
   simp only[Gqs,Option.some.injEq] at hv
   subst hv
   have h2:=hr.ev y
   have hl1:∀ {x:V1} {v:Value},R1 w H F x v→R1 w H1 F1 (lendx1 st.objs p x) v:=fun hx=>lendx1_ok hr (fun b h1 h2=>by rw[hF1]; exact⟨h1,by rw[←hfp]; exact h2⟩) hx
   cases he:st.ev y with
   | o x =>
    rw[he] at h2
    cases x with
    |c x=>exact hl1 h2
    |ag xs =>
     obtain⟨us,e,hl,hcs⟩:=h2
     refine⟨us,e,by simpa using hl,fun i x u hi hu => ?_⟩
     rw[Gqh] at hi
     obtain⟨c,h3,rfl⟩:=Option.map_eq_some_iff.1 hi
     exact hl1 (hcs i c u h3 hu)
   |tu xs=>trivial
   |iff cs x=>trivial
 rw[←hvs]
 refine (hc w H1 F1 vs hok1 hobs1 (by rw[hvs2,←ha]; simp) hargs1).mono ?_
 rintro ex w' ⟨H2,F2,rv,rfl,hsi,hok2,hobs2,hres⟩
 obtain⟨v2,f2,e5⟩:∃ v2 f2,H2 0 = .ow (.sl k' es1) v2 f2:=hobs2 0
 obtain⟨v3,e6,x3,f3,e7⟩:∃ v3,H2 1 = .gh 0 v3∧∃ x3 f3,H2 0 = .ow x3 v3 f3:=hobs2 1
 have e8:v3=u:=by
  obtain⟨q,hq⟩:∃ q,H1 q = .gh 0 v3:=hsi.gh 1 0 v3 e6
  match q with
  |0=>rw[hH0] at hq; cases hq
  |1=>rw[hH1] at hq; simp only[Pc.gh.injEq] at hq; exact hq.2.symm
  |q+2=>rw[hH2 (q+2) (by omega)] at hq; cases hq
 have e9:v2=u:=by
  rw[e5] at e7
  simp only[Pc.ow.injEq] at e7
  rw[e7.2.1,e8]
 subst e9
 have hO:=hok2.says 0
 rw[e5] at hO
 have hn2:=hok2.nodup 0
 rw[e5] at hn2
 have hkeepb:∀ x,x<w.heap.size→x∉f0→w'.heap[x]? = w.heap[x]? := fun x h1 h2=>hsi.keep x h1 fun q hq=>h2 (a3 q x hq).2
 have hlt:∀ x∈fp,x<w.heap.size:=fun x hx=>hr.ok.lt (p:=p) (by rw[hfp]; exact hx)
 obtain⟨fp2,h7,h8,h9'⟩:=hback w' (.sl k' es1) f2 (fun x h1 h2=>hkeepb x (hlt x h1) h2) hO hn2 (fun x hx=>by
  rcases hsi.org 0 x (by rw[e5]; exact hx) with ⟨q,hq⟩ | hq
  ·exact .inl (a3 q x hq).2
  ·exact .inr hq) hlt
 have h9:∀ x∈fp2,x∈fp∨w.heap.size≤x:=fun x hx=>by
  rcases h9' x hx with h | h
  ·exact .inl h.1
  ·rcases hsi.org 0 x (by rw[e5]; exact h) with ⟨q,hq⟩ | hq
   ·exact .inl (hsub x (a3 q x hq).2)
   ·exact .inr hq
 have hkeep:Keeps w w' fp:=⟨hsi.os,hsi.tape,hsi.output,hsi.size,fun x h1 h2=>hkeepb x h1 fun h3=>h2 (hsub x h3)⟩
 obtain⟨hok,htn⟩:=hr.ok.turn (p:=p) (fp:=fp) hfp hkeep (.ow (.sl kk (es.set i (splice e j [.sl k' es1]))) v fp2) h7 h8 trivial h9
 have hplace:∀ q ∈ [p],Place (H q) (H.put p (.ow (.sl kk (es.set i (splice e j [.sl k' es1]))) v fp2) q):=fun q hq=>by
  have:q=p:=by simpa using hq
  subst this
  exact .inl ⟨_,_,_,_,_,e1,Hs.put_self _ _ _⟩
 obtain⟨hplt,_⟩:=Gqm.1 hp
 have hR:=hr.mapk (V1.killw [p] [p]) (fun x v hx=>R1.killw hr.ok htn hplace hx) hok ((st.objs.map (Ob.mapk (V1.killw [p] [p]))).set p (.row kk (es.set i (splice e j [.sl k' es1])))) (fun q => ?_)
 ·have hR2:=hR.put (x := .o (.c (.rd [] (.v wv)))) o.dst hd (v:=rv) (by
   have h1:R1 w' H2 F2 (.rd ps (.v wv)) rv:=hres
   obtain⟨rfl,h2⟩:=RO.plain h1
   exact RO.v _ h2)
  exact hK _ _ (h.h _ _ ⟨_,F,hR2,hsince.turn htn⟩)
 ·by_cases hqp:q=p
  ·subst hqp
   rw[Yn (x := .row kk (es.set i (splice e j [.sl k' es1]))) (by simp[hplt])]
   exact⟨_,_,Hs.put_self _ _ _⟩
  ·rw[Gqc,Gxb (Ne.symm hqp),Gqh]
   have h2:=hr.obs q
   rw[Gqc] at h2
   have h3:H.put p (.ow (.sl kk (es.set i (splice e j [.sl k' es1]))) v fp2) q=H q:=Hs.put_ne _ _ hqp
   cases ho:st.objs[q]? with
   |none=>rw[ho] at h2; exact h3.trans h2
   |some ob=>rw[ho] at h2; exact RB.mapk (fun x v hx=>R1.killw hr.ok htn hplace hx) h3 h2
theorem M_inner {ts:List (Nat×V)} {obs:List Ob} {d:Nat} {f:FuncId} [hf:FunOk P f] {ass:Array Operand} {tys:Array TypeId} {y0:Operand} {ys:List Operand} {args':List V2} {p kk k' i j:Nat} {es es0 es1:List (List T)} {e:List T} {wv:Value} {ps:List Nat}
  (hc:Con P f [.row k' es0,.gh 0 (.c (.ref 0))] (.c (.ref 0)::args') [.row k' es1,.gh 0 (.c (.ref 0))] (.o (.c (.rd ps (.v wv))))) (ho:o.op = .call { callee := .value (.func f),args:=ass,argTypes:=tys }) (hg:o.guard=none) (hd:o.dst=some d) (hl:Nat.blt d n=true) (has:ass.toList=y0::ys)
  (hy:St.ev ⟨n,ts,obs⟩ y0 = .o (.c (.le p kk i j))) (hp:obs[p]? = some (.row kk es)) (ha:ys.map (fun y=>lendx obs p (St.ev ⟨n,ts,obs⟩ y))=args') (he:es[i]? = some e) (hx:e[j]? = some (.sl k' es0))
  (h:AL P E ops QQ rest ⟨n,(d,.o (.c (.rd [] (.v wv))))::(ts.map fun e=>(e.1,e.2.mapk (V1.killw [p] [p]))),(obs.map (Ob.mapk (V1.killw [p] [p]))).set p (.row kk (es.set i (splice e j [.sl k' es1])))⟩):AL P E ops QQ (o::rest) ⟨n,ts,obs⟩ :=
 L_inner (st:=⟨n,ts,obs⟩) hc ho hg has hy hp he hx ha (by rw[hd]; exact hl) (by rw[hd]; exact h)
end
end
section
open Go.RowKit

section
variable {P:Program} {ops:Array Oper} {o:Oper} {st:St} {m:Nat} {t t':TypeId} {y z:Operand} {ps qs:List Nat}
theorem q_bneqR {u:Bool} [TyBool P t] (ho:o.op = .binOp .neq t y z t') (hg:o.guard=none) (hy:st.ev y = .o (.c (.rd ps (.v (.bool u))))) (hz:st.ev z = .o (.c (.rd qs (.v (.bool u))))):Qt P ops o st (B false) [] m:=by
 have h:=q_bneq (m:=m) (P:=P) (ops:=ops) ho hg hy hz
 rwa[beq_self_eq_true] at h
theorem q_neqR {k:IntKind} {u:Int} (ho:o.op = .binOp .neq t y z t') (hg:o.guard=none) (hy:st.ev y = .o (.c (.rd ps (.v (.int k u))))) (hz:st.ev z = .o (.c (.rd qs (.v (.int k u))))):Qt P ops o st (B false) [] m :=
 Qw ho hg hy hz (by simp)
theorem Q8 {xs:List V2} (ho:o.op = .move y) (hg:o.guard=none) (hy:st.ev y = .tu xs):Qt P ops o st (.tu xs) [] m :=
 .pure hg fun a w H F hr=>⟨a.eval y,by simp[execOp,ho],by rw[←hy]; exact hr.ev y⟩
end
end
section
open Go.RowKit

theorem mk_next {α:Type} [Enc α] {ms xs:List α} (hl:ms.length=xs.length) {i:Nat} (h:i<xs.length) {c:T} {e:List T} (hc:Enc.e (ms[i]'(by omega)) = [c]) (he:e.length=1:=by rfl):els (ms.take (i+1)++xs.drop (i+1))=(els (ms.take i++xs.drop i)).set i (splice e 0 [c]):=by
 have h1:splice e 0 [c]=Enc.e (ms[i]'(by omega)):=by
  rw[hc]
  match e,he with
  | [t],_=>rfl
 have h2:i<ms.length:=by omega
 rw[h1,←Yg]
 congr 1
 have hi:(ms.take i).length=i:=by simp; omega
 rw[Gq2 h2,List.set_append_right _ _ (by omega)]
 have:i-(ms.take i).length=0:=by omega
 rw[this,Gxj h,List.set_cons_zero,Gq1]
 rfl
theorem mk_at {α:Type} {ms xs:List α} (hl:ms.length=xs.length) {i:Nat} (h:i<xs.length) (h':i<(ms.take i++xs.drop i).length:=by simp; omega):(ms.take i++xs.drop i)[i]=xs[i]:=by
 have hi:(ms.take i).length=i:=by simp; omega
 rw[List.getElem_append_right (by omega)]
 simp[hi]
theorem mk_len {α:Type} {ms xs:List α} (hl:ms.length=xs.length) {i:Nat} (h:i≤xs.length):(ms.take i++xs.drop i).length=xs.length:=by simp; omega
theorem mk_end {α:Type} {ms xs:List α} (hl:ms.length=xs.length) {i:Nat} (h:xs.length≤i):ms.take i++xs.drop i=ms:=by rw[Gq3 (by omega),List.drop_of_length_le h,Gxk]

def markI (xs:List Int) (k:Int):List Int:=(List.range xs.length).map fun (i:Nat)=>k+i
theorem markI_len (xs:List Int) (k:Int):(markI xs k).length=xs.length:=by simp[markI]
theorem markI_at {xs:List Int} {k:Int} {i:Nat} (h:i<(markI xs k).length):(markI xs k)[i]=k+i:=by simp[markI]
theorem L_markIntS (xs:List Int) (k:Int) (hL:xs.length≤1073741824) (h0:0<k) (hk:k≤4294967296):Con Tryz.prog 107 [.row 1 (els xs),.gh 0 (.c (.ref 0))] [.c (.ref 0),ai k] [.row 1 (els (markI xs k)),.gh 0 (.c (.ref 0))] (I (k+xs.length)):=by
 have hml:=markI_len xs k
 refine Con.of Tryz.func107 J Tryz.ntmps107 J (fun E => ?_)
 refine Wz [34,42] ?_;refine Xj (fun m st=>∃ i:Nat,i+m=xs.length∧(True)∧st=(⟨_,[(0,.o (.c (.ref 0))),(1,I (k+i)),(5,I i)],[.row 1 (els ((markI xs k).take i++xs.drop i)),.gh 0 (.c (.ref 0))]⟩:St)) (xs.length) ⟨(fun i:Nat=>(⟨_,[(0,.o (.c (.ref 0))),(1,I (k+i)),(5,I i)],[.row 1 (els ((markI xs k).take i++xs.drop i)),.gh 0 (.c (.ref 0))]⟩:St)) 0,⟨0,by omega,trivial,J⟩,V0 [0,1] J (by kernel_rfl) (.c J (.cons (Xv (by omega)) (.c J (.nil))))⟩ ?_
 rintro m_A _ ⟨i,hk_A,hp_A,rfl⟩
 have hl2:(els ((markI xs k).take i++xs.drop i)).length=xs.length:=by rw[Ye,mk_len hml (by omega)]
 refine Wz [18,41,67] ?_
 refine Xb J (fun h => ?_) (fun h => ?_)
 ·have h3:i<xs.length:=by have:=Gqd h; omega
  have hi:i<((markI xs k).take i++xs.drop i).length:=by rw[mk_len hml (by omega)]; exact h3
  have hat:=Yd hi
  refine Wz [16,23,0,99,91,3,65,30,82] ?_
  exact⟨xs.length-(i+1),by omega,(fun i:Nat=>(⟨_,[(0,.o (.c (.ref 0))),(1,I (k+i)),(5,I i)],[.row 1 (els ((markI xs k).take i++xs.drop i)),.gh 0 (.c (.ref 0))]⟩:St)) (i+1),⟨i+1,by omega,trivial,J⟩,V0 [0,1] J (row2 (mk_next hml h3 (by rw[markI_at]; rfl))) (.c J (.cons (Xv (by omega)) (.c J (.nil))))⟩
 ·have h3:¬((i:Int)<(els ((markI xs k).take i++xs.drop i)).length):=Gqf h
  have hi:i=xs.length:=by omega
  refine Wz [111] ?_
  exact V3 J (V4 [0,1] J (row2 (by rw[mk_end hml (by omega)])) (Xv (by omega)))

def tot (xs:List (List Int)):Nat:=(xs.map List.length).sum
theorem tot_next {xs:List (List Int)} {i:Nat} (h:i<xs.length):tot (xs.take (i+1))=tot (xs.take i)+xs[i].length:=by
 unfold tot
 rw[Gq2 h,List.map_append,List.sum_append]
 simp
theorem tot_le (xs:List (List Int)) (i:Nat):tot (xs.take i)≤tot xs:=by
 unfold tot
 conv=>rhs; rw[←Gxi i xs,List.map_append,List.sum_append]
 omega
theorem tot_at {xs:List (List Int)} {i:Nat} (h:i<xs.length):tot (xs.take i)+xs[i].length≤tot xs:=by rw[←tot_next h]; exact tot_le _ _
theorem tot_end {xs:List (List Int)} {i:Nat} (h:xs.length≤i):tot (xs.take i)=tot xs:=by rw[Gq3 h]
def markII (xs:List (List Int)) (k:Int):List (List Int):=(List.range xs.length).map fun (i:Nat)=>markI (xs.getD i []) (k+tot (xs.take i))
theorem markII_len (xs:List (List Int)) (k:Int):(markII xs k).length=xs.length:=by simp[markII]
theorem markII_at {xs:List (List Int)} {k:Int} {i:Nat} (h:i<xs.length) (h':i<(markII xs k).length:=by rw[markII_len]; assumption):(markII xs k)[i]=markI xs[i] (k+tot (xs.take i)):=by simp[markII,Gqc,h]
theorem L_markIntSS (xs:List (List Int)) (k:Int) (hL:xs.length≤1073741824) (ht:tot xs≤1073741824) (h0:0<k) (hk:k≤2147483648):Con Tryz.prog 105 [.row 1 (els xs),.gh 0 (.c (.ref 0))] [.c (.ref 0),ai k] [.row 1 (els (markII xs k)),.gh 0 (.c (.ref 0))] (I (k+tot xs)):=by
 have hml:=markII_len xs k
 refine Con.of Tryz.func105 J Tryz.ntmps105 J (fun E => ?_)
 refine Wz [34,42] ?_;refine Xj (fun m st=>∃ i:Nat,i+m=xs.length∧(True)∧st=(⟨_,[(0,.o (.c (.ref 0))),(1,I (k+tot (xs.take i))),(5,I i)],[.row 1 (els ((markII xs k).take i++xs.drop i)),.gh 0 (.c (.ref 0))]⟩:St)) (xs.length) ⟨(fun i:Nat=>(⟨_,[(0,.o (.c (.ref 0))),(1,I (k+tot (xs.take i))),(5,I i)],[.row 1 (els ((markII xs k).take i++xs.drop i)),.gh 0 (.c (.ref 0))]⟩:St)) 0,⟨0,by omega,trivial,J⟩,V0 [0,1] J (by kernel_rfl) (.c J (.cons (Xv (by simp[tot])) (.c J (.nil))))⟩ ?_
 rintro m_A _ ⟨i,hk_A,hp_A,rfl⟩
 have hl2:(els ((markII xs k).take i++xs.drop i)).length=xs.length:=by rw[Ye,mk_len hml (by omega)]
 refine Wz [18,41,67] ?_
 refine Xb J (fun h => ?_) (fun h => ?_)
 ·have h3:i<xs.length:=by have:=Gqd h; omega
  have hi:i<((markII xs k).take i++xs.drop i).length:=by rw[mk_len hml (by omega)]; exact h3
  have hat:=Yd hi
  rw[mk_at hml h3] at hat
  have ht1:=tot_at h3
  have hc:=L_markIntS xs[i] (k+tot (xs.take i)) (by omega) (by omega) (by omega)
  refine Wz [16,81,99] ?_;refine zx (q_lee J J J J (by assumption) J) J (z0 J ?_);refine M_inner hc J J J J J J J J (by assumption) J ?_;refine Wz [82] ?_
  exact⟨xs.length-(i+1),by omega,(fun i:Nat=>(⟨_,[(0,.o (.c (.ref 0))),(1,I (k+tot (xs.take i))),(5,I i)],[.row 1 (els ((markII xs k).take i++xs.drop i)),.gh 0 (.c (.ref 0))]⟩:St)) (i+1),⟨i+1,by omega,trivial,J⟩,V0 [0,1] J (row2 (mk_next hml h3 (by rw[markII_at h3]; rfl))) (.c J (.cons (Xv (by rw[tot_next h3]; omega)) (.c J (.nil))))⟩
 ·have h3:¬((i:Int)<(els ((markII xs k).take i++xs.drop i)).length):=Gqf h
  have ht1:=tot_end (show xs.length≤i by omega)
  refine Wz [111] ?_
  exact V3 J (V4 [0,1] J (row2 (by rw[mk_end hml (by omega)])) (Xv (by rw[ht1])))
end
section
open Go.RowKit

structure TBody where
 Kind:Int
 Owner:Int
 X:Int
 Y:Int
 VX:Int
 VY:Int
 Aim:Int
 Life:Int
 Timer:Int
 deriving DecidableEq
instance:Enc TBody:=⟨9,by omega,fun x => [.v (.int .i64 x.Kind),.v (.int .i64 x.Owner),.v (.int .i64 x.X),.v (.int .i64 x.Y),.v (.int .i64 x.VX),.v (.int .i64 x.VY),.v (.int .i64 x.Aim),.v (.int .i64 x.Life),.v (.int .i64 x.Timer)],fun _=>rfl,fun x=>Enc.gd x.Kind∧Enc.gd x.Owner∧Enc.gd x.X∧Enc.gd x.Y∧Enc.gd x.VX∧Enc.gd x.VY∧Enc.gd x.Aim∧Enc.gd x.Life∧Enc.gd x.Timer,fun x=>0⟩
theorem TBody.same {x y:TBody} (h0:x.Kind=y.Kind) (h1:x.Owner=y.Owner) (h2:x.X=y.X) (h3:x.Y=y.Y) (h4:x.VX=y.VX) (h5:x.VY=y.VY) (h6:x.Aim=y.Aim) (h7:x.Life=y.Life) (h8:x.Timer=y.Timer):x=y:=by cases x; cases y; simp_all
structure TWorld where
 Level:TLevel
 Tick:Int
 Seed:Int
 Scores:(List Int)
 Bodies:(List TBody)
 deriving DecidableEq
instance:Enc TWorld:=⟨5,by omega,fun x => [sl x.Level.Rows,.v (.int .i64 x.Tick),.v (.int .i64 x.Seed),sl x.Scores,sl x.Bodies],fun _=>rfl,fun x=>Enc.gd x.Level∧Enc.gd x.Tick∧Enc.gd x.Seed∧Enc.gd x.Scores∧Enc.gd x.Bodies,fun x=>Enc.wt x.Level+Enc.wt x.Scores+Enc.wt x.Bodies⟩
theorem TWorld.same {x y:TWorld} (h0:x.Level=y.Level) (h1:x.Tick=y.Tick) (h2:x.Seed=y.Seed) (h3:x.Scores=y.Scores) (h4:x.Bodies=y.Bodies):x=y:=by cases x; cases y; simp_all
structure TSpectator where
 World:TWorld
 Gaps:Int
 deriving DecidableEq
instance:Enc TSpectator:=⟨6,by omega,fun x => [sl x.World.Level.Rows,.v (.int .i64 x.World.Tick),.v (.int .i64 x.World.Seed),sl x.World.Scores,sl x.World.Bodies,.v (.int .i64 x.Gaps)],fun _=>rfl,fun x=>Enc.gd x.World∧Enc.gd x.Gaps,fun x=>Enc.wt x.World⟩
theorem TSpectator.same {x y:TSpectator} (h0:x.World=y.World) (h1:x.Gaps=y.Gaps):x=y:=by cases x; cases y; simp_all

theorem to_Body (x:TBody) (hg:Enc.wt x≤1048576):Con Tryz.prog 218 [] [ag x] (ownO (Enc.e x)) (.o (.ag (ownV 0 (Enc.e x)))):=by
 refine Con.of Tryz.func218 J Tryz.ntmps218 J (fun E => ?_)
 refine Wz [118,1,163,14,20,14,20,14,20,14,20,14,20,14,20,14,20,14,20,14,20,89,68] ?_
 exact Xm J J J J (V4 [] J J J)
theorem eq_Body (x y:TBody) (hg:Enc.gd x):Con Tryz.prog 219 [] [ag x,ag y] [] (B (decide (x=y))):=by
 obtain⟨g_Kind,g_Owner,g_X,g_Y,g_VX,g_VY,g_Aim,g_Life,g_Timer⟩:=hg
 by_cases e_Kind:¬x.Kind=y.Kind
 ·have hk:decide (x.Kind≠y.Kind)=true:=by simp[e_Kind]
  refine Con.of Tryz.func219 J Tryz.ntmps219 J (fun E => ?_)
  refine Wz [75,92] ?_
  exact V3 J (V4 [] J J (Xk (Gqa fun e=>e_Kind (by rw[e])).symm))
 have e_Kind:=Classical.not_not.1 e_Kind
 have k_Kind:decide (x.Kind≠y.Kind)=false:=by simp[e_Kind]
 by_cases e_Owner:¬x.Owner=y.Owner
 ·have hk:decide (x.Owner≠y.Owner)=true:=by simp[e_Owner]
  refine Con.of Tryz.func219 J Tryz.ntmps219 J (fun E => ?_)
  refine Wz [75,176,92] ?_
  exact V3 J (V4 [] J J (Xk (Gqa fun e=>e_Owner (by rw[e])).symm))
 have e_Owner:=Classical.not_not.1 e_Owner
 have k_Owner:decide (x.Owner≠y.Owner)=false:=by simp[e_Owner]
 by_cases e_X:¬x.X=y.X
 ·have hk:decide (x.X≠y.X)=true:=by simp[e_X]
  refine Con.of Tryz.func219 J Tryz.ntmps219 J (fun E => ?_)
  refine Wz [75,49,92] ?_
  exact V3 J (V4 [] J J (Xk (Gqa fun e=>e_X (by rw[e])).symm))
 have e_X:=Classical.not_not.1 e_X
 have k_X:decide (x.X≠y.X)=false:=by simp[e_X]
 by_cases e_Y:¬x.Y=y.Y
 ·have hk:decide (x.Y≠y.Y)=true:=by simp[e_Y]
  refine Con.of Tryz.func219 J Tryz.ntmps219 J (fun E => ?_)
  refine Wz [75,49,176,92] ?_
  exact V3 J (V4 [] J J (Xk (Gqa fun e=>e_Y (by rw[e])).symm))
 have e_Y:=Classical.not_not.1 e_Y
 have k_Y:decide (x.Y≠y.Y)=false:=by simp[e_Y]
 by_cases e_VX:¬x.VX=y.VX
 ·have hk:decide (x.VX≠y.VX)=true:=by simp[e_VX]
  refine Con.of Tryz.func219 J Tryz.ntmps219 J (fun E => ?_)
  refine Wz [75,49,49,92] ?_
  exact V3 J (V4 [] J J (Xk (Gqa fun e=>e_VX (by rw[e])).symm))
 have e_VX:=Classical.not_not.1 e_VX
 have k_VX:decide (x.VX≠y.VX)=false:=by simp[e_VX]
 by_cases e_VY:¬x.VY=y.VY
 ·have hk:decide (x.VY≠y.VY)=true:=by simp[e_VY]
  refine Con.of Tryz.func219 J Tryz.ntmps219 J (fun E => ?_)
  refine Wz [75,49,49,176,92] ?_
  exact V3 J (V4 [] J J (Xk (Gqa fun e=>e_VY (by rw[e])).symm))
 have e_VY:=Classical.not_not.1 e_VY
 have k_VY:decide (x.VY≠y.VY)=false:=by simp[e_VY]
 by_cases e_Aim:¬x.Aim=y.Aim
 ·have hk:decide (x.Aim≠y.Aim)=true:=by simp[e_Aim]
  refine Con.of Tryz.func219 J Tryz.ntmps219 J (fun E => ?_)
  refine Wz [75,49,49,49,92] ?_
  exact V3 J (V4 [] J J (Xk (Gqa fun e=>e_Aim (by rw[e])).symm))
 have e_Aim:=Classical.not_not.1 e_Aim
 have k_Aim:decide (x.Aim≠y.Aim)=false:=by simp[e_Aim]
 by_cases e_Life:¬x.Life=y.Life
 ·have hk:decide (x.Life≠y.Life)=true:=by simp[e_Life]
  refine Con.of Tryz.func219 J Tryz.ntmps219 J (fun E => ?_)
  refine Wz [75,49,49,49,176,92] ?_
  exact V3 J (V4 [] J J (Xk (Gqa fun e=>e_Life (by rw[e])).symm))
 have e_Life:=Classical.not_not.1 e_Life
 have k_Life:decide (x.Life≠y.Life)=false:=by simp[e_Life]
 by_cases e_Timer:¬x.Timer=y.Timer
 ·have hk:decide (x.Timer≠y.Timer)=true:=by simp[e_Timer]
  refine Con.of Tryz.func219 J Tryz.ntmps219 J (fun E => ?_)
  refine Wz [75,49,49,49,49,92] ?_
  exact V3 J (V4 [] J J (Xk (Gqa fun e=>e_Timer (by rw[e])).symm))
 have e_Timer:=Classical.not_not.1 e_Timer
 have k_Timer:decide (x.Timer≠y.Timer)=false:=by simp[e_Timer]
 refine Con.of Tryz.func219 J Tryz.ntmps219 J (fun E => ?_)
 refine Wz [75,49,49,49,49,58,47,98] ?_
 exact V3 J (V4 [] J J (Xk (Gqb (TBody.same e_Kind e_Owner e_X e_Y e_VX e_VY e_Aim e_Life e_Timer)).symm))
theorem eq_BodyS (xs ys:List TBody) (hn:Enc.gd xs):Con Tryz.prog 182 [] [al xs,al ys] [] (B (decide (xs=ys))):=by
 have hn1:=hn.1
 have hlx:=Ye xs
 have hly:=Ye ys
 by_cases hl:xs.length=ys.length
 ·have hb:decide (((els xs).length:Int)≠((els ys).length:Int))=false:=by rw[hlx,hly,hl]; simp
  refine Con.of Tryz.func182 J Tryz.ntmps182 J (fun E => ?_)
  refine Wz [74,112,12,58,47,42] ?_;refine Xj (fun m st=>∃ k:Nat,k+m=xs.length∧(xs.take k=ys.take k)∧st=(⟨_,[(0,L xs),(1,L ys),(5,I k)],[]⟩:St)) (xs.length) ⟨_,⟨0,by omega,by simp,J⟩,Ua []⟩ ?_
  rintro m_A _ ⟨k,hk_A,hp_A,rfl⟩
  refine Wz [18,87] ?_
  refine Xb J (fun h => ?_) (fun h => ?_)
  ·have h3:k<xs.length:=by have:=Gqd h; omega
   have h4:k<ys.length:=by omega
   have hat:=Yd h3
   have hat2:=Yd h4
   have hc:=eq_Body xs[k] ys[k] (hn.2 _ (Gqi h3))
   by_cases he:xs[k]=ys[k]
   ·rw[Gqb he] at hc
    refine Wz [108,205,85,186,85,186] ?_;refine Ki (Qj J J (hc) J) J ?_;refine Wz [136,9,80] ?_
    exact⟨xs.length-(k+1),by omega,_,⟨k+1,by omega,eq_next h3 h4 hp_A he,J⟩,Ua []⟩
   ·rw[Gqa he] at hc
    refine Wz [108,205,85,186,85,186] ?_;refine Ki (Qj J J (hc) J) J ?_;refine Wz [136,9,97,40] ?_
    exact V3 J (V4 [] J J (Xk (eq_ne h3 h4 he).symm))
  ·have h3:¬((k:Int)<(els xs).length):=Gqf h
   refine Wz [29,98] ?_
   exact V3 J (V4 [] J J (Xk (eq_all (by omega) hl hp_A).symm))
 ·have hb:decide (((els xs).length:Int)≠((els ys).length:Int))=true:=by rw[hlx,hly]; simp; omega
  refine Con.of Tryz.func182 J Tryz.ntmps182 J (fun E => ?_)
  refine Wz [74,112,12,92] ?_
  exact V3 J (V4 [] J J (Xk (eq_len hl).symm))
theorem wts_body:∀ xs:List TBody,wts xs=0
 | []=>rfl
 |x::xs=>by simp[wts,wts_body xs,Enc.wt]
theorem sz_BodyS (xs:List TBody) (left:Int) (hg:Enc.gd xs) (h0:0≤left) (h1:left≤1048576):Con Tryz.prog 159 [] [al xs,ai left] [] (I (szr (Enc.wt xs) left)):=by
 have hlen:=Ye xs
 have hx:=hg.1
 have hw:Enc.wt xs=xs.length:=by simp[Enc.wt,wts_body]
 refine Con.of Tryz.func159 J Tryz.ntmps159 J (fun E => ?_)
 refine Wz [34,23,12,35,46,67] ?_
 refine Xb J (fun h => ?_) (fun h => ?_)
 ·refine Wz [107] ?_
  have h2:=Gqd (p:=_) (by simpa using h)
  exact V3 J (V4 [] J J (Xv (by rw[V5])))
 ·refine Wz [27,6,2] ?_
  refine Wz [68] ?_
  have h2:=Gqf h
  exact V3 J (V4 [] J J (Xv (by rw[V6]; omega)))
def zBody:List T := [.v (.int .i64 0),.v (.int .i64 0),.v (.int .i64 0),.v (.int .i64 0),.v (.int .i64 0),.v (.int .i64 0),.v (.int .i64 0),.v (.int .i64 0),.v (.int .i64 0)]
theorem to_BodyS (xs:List TBody) (hg:Enc.wt xs≤1048576):Con Tryz.prog 178 [] [al xs] [.row 9 (els xs)] (.o (.c (.ref 0))):=by
 have hlen:=Ye xs
 have hw:Enc.wt xs=xs.length+wts xs:=rfl
 have hw2:=wts_body xs
 refine Con.of Tryz.func178 J Tryz.ntmps178 J (fun E => ?_)
 refine Wz [34,6,12,267,2,42] ?_;refine Xj (fun m st=>∃ k:Nat,k+m=xs.length∧(True)∧st=(⟨_,[(0,L xs),(3,.o (.c (.ref 0))),(4,I k)],[.row 9 (part xs zBody k)]⟩:St)) (xs.length) ⟨(fun k:Nat=>(⟨_,[(0,L xs),(3,.o (.c (.ref 0))),(4,I k)],[.row 9 (part xs zBody k)]⟩:St)) 0,⟨0,by omega,trivial,J⟩,V0 [0] J (Zy (Y2 xs _)) (.c J (.c J (.c J (.nil))))⟩ ?_
 rintro m_A _ ⟨k,hk_A,hp_A,rfl⟩
 refine Wz [18,87] ?_
 refine Xb J (fun h => ?_) (fun h => ?_)
 ·have h3:k<xs.length:=by have:=Gqd h; omega
  have hat:=Yd h3
  have hz:=part_at xs zBody h3
  have hpl:(k:Int)<(part xs zBody k).length:=by rw[part_len xs _ (by omega)]; omega
  have hc:=to_Body xs[k] (by show (0:Nat)≤_; omega)
  refine Wz [16,81,0,0,119] ?_;refine M1 (Zc J J (hc) J J J) J J ?_;refine Wz [230,206,52,135] ?_
  exact⟨xs.length-(k+1),by omega,(fun k:Nat=>(⟨_,[(0,L xs),(3,.o (.c (.ref 0))),(4,I k)],[.row 9 (part xs zBody k)]⟩:St)) (k+1),⟨k+1,by omega,trivial,J⟩,V0 [0] J (Zy (part_set xs zBody h3 _ (by rfl) (by rfl)).symm) (.c J (.c J (.c J (.nil))))⟩
 ·have h3:¬((k:Int)<(els xs).length):=Gqf h
  refine Wz [111] ?_
  exact V3 J (V4 [0] J (Zy (part_all xs _ (by omega)).symm) J)
theorem sz_World (x:TWorld) (left:Int) (hg:Enc.gd x) (h0:0≤left) (h1:left≤1048576):Con Tryz.prog 82 [] [ag x,ai left] [] (I (szr (Enc.wt x) left)):=by
 obtain⟨g_Level,g_Tick,g_Seed,g_Scores,g_Bodies⟩:=hg
 have hw:Enc.wt x=Enc.wt x.Level+Enc.wt x.Scores+Enc.wt x.Bodies:=rfl
 have hm1:decide ((-1:Int)<0)=true:=rfl
 have hc_Level:=sz_Level x.Level (left) g_Level (by omega) (by omega)
 by_cases n_Level:left<Enc.wt x.Level
 ·rw[Z9 n_Level] at hc_Level
  refine Con.of Tryz.func82 J Tryz.ntmps82 J (fun E => ?_)
  refine Wz [44,93,0] ?_;refine zx (Qj J J (hc_Level) J) J ?_;refine Wz [113,57] ?_
  exact V3 J (V4 [] J J (Xv (by rw[V5])))
 rw[V6] at hc_Level
 have hb_Level:decide (left-Enc.wt x.Level<0)=false:=Gqa (by omega)
 have hc_Scores:=sz_IntS x.Scores (left-Enc.wt x.Level) g_Scores (by omega) (by omega)
 by_cases n_Scores:left-Enc.wt x.Level<Enc.wt x.Scores
 ·rw[Z9 n_Scores] at hc_Scores
  refine Con.of Tryz.func82 J Tryz.ntmps82 J (fun E => ?_)
  refine Wz [44,93,0] ?_;refine zx (Qj J J (hc_Level) J) J ?_;refine Wz [59,32] ?_;refine zx (Qj J J (hc_Scores) J) J ?_;refine Wz [113,57] ?_
  exact V3 J (V4 [] J J (Xv (by rw[V5])))
 rw[V6] at hc_Scores
 have hb_Scores:decide (left-Enc.wt x.Level-Enc.wt x.Scores<0)=false:=Gqa (by omega)
 have hc_Bodies:=sz_BodyS x.Bodies (left-Enc.wt x.Level-Enc.wt x.Scores) g_Bodies (by omega) (by omega)
 by_cases n_Bodies:left-Enc.wt x.Level-Enc.wt x.Scores<Enc.wt x.Bodies
 ·rw[Z9 n_Bodies] at hc_Bodies
  refine Con.of Tryz.func82 J Tryz.ntmps82 J (fun E => ?_)
  refine Wz [44,93,0] ?_;refine zx (Qj J J (hc_Level) J) J ?_;refine Wz [59,32] ?_;refine zx (Qj J J (hc_Scores) J) J ?_;refine Wz [59,32] ?_;refine zx (Qj J J (hc_Bodies) J) J ?_;refine Wz [113,57] ?_
  exact V3 J (V4 [] J J (Xv (by rw[V5])))
 rw[V6] at hc_Bodies
 have hb_Bodies:decide (left-Enc.wt x.Level-Enc.wt x.Scores-Enc.wt x.Bodies<0)=false:=Gqa (by omega)
 refine Con.of Tryz.func82 J Tryz.ntmps82 J (fun E => ?_)
 refine Wz [44,93,0] ?_;refine zx (Qj J J (hc_Level) J) J ?_;refine Wz [59,32] ?_;refine zx (Qj J J (hc_Scores) J) J ?_;refine Wz [59,32] ?_;refine zx (Qj J J (hc_Bodies) J) J ?_;refine Wz [59,224] ?_
 exact V3 J (V4 [] J J (Xv (by rw[V6]; omega)))
theorem to_World (x:TWorld) (hg:Enc.wt x≤1048576):Con Tryz.prog 91 [] [ag x] (ownO (Enc.e x)) (.o (.ag (ownV 0 (Enc.e x)))):=by
 have hw:Enc.wt x=Enc.wt x.Level+Enc.wt x.Scores+Enc.wt x.Bodies:=rfl
 refine Con.of Tryz.func91 J Tryz.ntmps91 J (fun E => ?_)
 refine Wz [118,1,163,93] ?_;refine M1 (Zc J J (to_Level x.Level (by omega)) J J J) J J ?_;refine Wz [171,120,14,20,14,20,14] ?_;refine M1 (Zc J J (to_IntS x.Scores (by omega)) J J J) J J ?_;refine Wz [20,14] ?_;refine M1 (Zc J J (to_BodyS x.Bodies (by omega)) J J J) J J ?_;refine Wz [20,89,68] ?_
 exact Xm J J J J (V4 [3,4,5] J J J)
theorem eq_World (x y:TWorld) (hg:Enc.gd x):Con Tryz.prog 98 [] [ag x,ag y] [] (B (decide (x=y))):=by
 obtain⟨g_Level,g_Tick,g_Seed,g_Scores,g_Bodies⟩:=hg
 by_cases e_Level:¬x.Level=y.Level
 ·have hc:=eq_Level x.Level y.Level g_Level
  rw[Gqa e_Level] at hc
  refine Con.of Tryz.func98 J Tryz.ntmps98 J (fun E => ?_)
  refine Wz [100,121] ?_;refine zx (Qj J J (hc) J) J ?_;refine Wz [15,57] ?_
  exact V3 J (V4 [] J J (Xk (Gqa fun e=>e_Level (by rw[e])).symm))
 have e_Level:=Classical.not_not.1 e_Level
 have hc_Level:=eq_Level x.Level y.Level g_Level
 rw[Gqb e_Level] at hc_Level
 by_cases e_Tick:¬x.Tick=y.Tick
 ·have hk:decide (x.Tick≠y.Tick)=true:=by simp[e_Tick]
  refine Con.of Tryz.func98 J Tryz.ntmps98 J (fun E => ?_)
  refine Wz [100,121] ?_;refine zx (Qj J J (hc_Level) J) J ?_;refine Wz [114,92] ?_
  exact V3 J (V4 [] J J (Xk (Gqa fun e=>e_Tick (by rw[e])).symm))
 have e_Tick:=Classical.not_not.1 e_Tick
 have k_Tick:decide (x.Tick≠y.Tick)=false:=by simp[e_Tick]
 by_cases e_Seed:¬x.Seed=y.Seed
 ·have hk:decide (x.Seed≠y.Seed)=true:=by simp[e_Seed]
  refine Con.of Tryz.func98 J Tryz.ntmps98 J (fun E => ?_)
  refine Wz [100,121] ?_;refine zx (Qj J J (hc_Level) J) J ?_;refine Wz [114,176,92] ?_
  exact V3 J (V4 [] J J (Xk (Gqa fun e=>e_Seed (by rw[e])).symm))
 have e_Seed:=Classical.not_not.1 e_Seed
 have k_Seed:decide (x.Seed≠y.Seed)=false:=by simp[e_Seed]
 by_cases e_Scores:¬x.Scores=y.Scores
 ·have hc:=eq_IntS x.Scores y.Scores g_Scores
  rw[Gqa e_Scores] at hc
  refine Con.of Tryz.func98 J Tryz.ntmps98 J (fun E => ?_)
  refine Wz [100,121] ?_;refine zx (Qj J J (hc_Level) J) J ?_;refine Wz [114,49] ?_;refine zx (Qj J J (hc) J) J ?_;refine Wz [15,57] ?_
  exact V3 J (V4 [] J J (Xk (Gqa fun e=>e_Scores (by rw[e])).symm))
 have e_Scores:=Classical.not_not.1 e_Scores
 have hc_Scores:=eq_IntS x.Scores y.Scores g_Scores
 rw[Gqb e_Scores] at hc_Scores
 by_cases e_Bodies:¬x.Bodies=y.Bodies
 ·have hc:=eq_BodyS x.Bodies y.Bodies g_Bodies
  rw[Gqa e_Bodies] at hc
  refine Con.of Tryz.func98 J Tryz.ntmps98 J (fun E => ?_)
  refine Wz [100,121] ?_;refine zx (Qj J J (hc_Level) J) J ?_;refine Wz [114,49] ?_;refine zx (Qj J J (hc_Scores) J) J ?_;refine Wz [114] ?_;refine zx (Qj J J (hc) J) J ?_;refine Wz [15,57] ?_
  exact V3 J (V4 [] J J (Xk (Gqa fun e=>e_Bodies (by rw[e])).symm))
 have e_Bodies:=Classical.not_not.1 e_Bodies
 have hc_Bodies:=eq_BodyS x.Bodies y.Bodies g_Bodies
 rw[Gqb e_Bodies] at hc_Bodies
 refine Con.of Tryz.func98 J Tryz.ntmps98 J (fun E => ?_)
 refine Wz [100,121] ?_;refine zx (Qj J J (hc_Level) J) J ?_;refine Wz [114,49] ?_;refine zx (Qj J J (hc_Scores) J) J ?_;refine Wz [114] ?_;refine zx (Qj J J (hc_Bodies) J) J ?_;refine Wz [76,98] ?_
 exact V3 J (V4 [] J J (Xk (Gqb (TWorld.same e_Level e_Tick e_Seed e_Scores e_Bodies)).symm))

/-! ### Marks -/
theorem mk_nextE {α:Type} [Enc α] {ms xs:List α} (hl:ms.length=xs.length) {i:Nat} (h:i<xs.length):els (ms.take (i+1)++xs.drop (i+1))=(els (ms.take i++xs.drop i)).set i (Enc.e (ms[i]'(by omega))):=by
 have h2:i<ms.length:=by omega
 rw[←Yg]
 congr 1
 have hi:(ms.take i).length=i:=by simp; omega
 rw[Gq2 h2,List.set_append_right _ _ (by omega)]
 have:i-(ms.take i).length=0:=by omega
 rw[this,Gxj h,List.set_cons_zero,Gq1]
 rfl
def markBody (k:Int):TBody:=⟨k,k+1,k+1+1,k+1+1+1,k+1+1+1+1,k+1+1+1+1+1,k+1+1+1+1+1+1,k+1+1+1+1+1+1+1,k+1+1+1+1+1+1+1+1⟩
def markB (xs:List TBody) (k:Int):List TBody:=(List.range xs.length).map fun (i:Nat)=>markBody (k+9*i)
theorem markB_len (xs:List TBody) (k:Int):(markB xs k).length=xs.length:=by simp[markB]
theorem markB_at {xs:List TBody} {k:Int} {i:Nat} (h:i<(markB xs k).length):(markB xs k)[i]=markBody (k+9*i):=by simp[markB]
theorem L_markBodyS (xs:List TBody) (k:Int) (hL:xs.length≤1048576) (h0:0<k) (hk:k≤4294967296):Con Tryz.prog 185 [.row 9 (els xs),.gh 0 (.c (.ref 0))] [.c (.ref 0),ai k] [.row 9 (els (markB xs k)),.gh 0 (.c (.ref 0))] (I (k+9*xs.length)):=by
 have hml:=markB_len xs k
 refine Con.of Tryz.func185 J Tryz.ntmps185 J (fun E => ?_)
 refine Wz [34,42] ?_;refine Xj (fun m st=>∃ i:Nat,i+m=xs.length∧(True)∧st=(⟨_,[(0,.o (.c (.ref 0))),(1,I (k+9*i)),(5,I i)],[.row 9 (els ((markB xs k).take i++xs.drop i)),.gh 0 (.c (.ref 0))]⟩:St)) (xs.length) ⟨(fun i:Nat=>(⟨_,[(0,.o (.c (.ref 0))),(1,I (k+9*i)),(5,I i)],[.row 9 (els ((markB xs k).take i++xs.drop i)),.gh 0 (.c (.ref 0))]⟩:St)) 0,⟨0,by omega,trivial,J⟩,V0 [0,1] J (by kernel_rfl) (.c J (.cons (Xv (by simp)) (.c J (.nil))))⟩ ?_
 rintro m_A _ ⟨i,hk_A,hp_A,rfl⟩
 have hll:(els ((markB xs k).take i++xs.drop i)).length=xs.length:=by rw[Ye,mk_len hml (by omega)]
 refine Wz [18,41,67] ?_
 refine Xb J (fun h => ?_) (fun h => ?_)
 ·have h3:i<xs.length:=by have:=Gqd h; omega
  have hi:i<((markB xs k).take i++xs.drop i).length:=by rw[mk_len hml (by omega)]; exact h3
  have hat:=Yd hi
  rw[mk_at hml h3] at hat
  obtain⟨es0,hes0⟩:∃ es0,es0=els ((markB xs k).take i++xs.drop i):=⟨_,rfl⟩
  rw[←hes0] at hll hat
  have hq:(i:Int).toNat<es0.length:=by omega
  have hset:∀ L:List T,(es0.set (i:Int).toNat L)[(i:Int).toNat]? = some L:=fun L=>Gxd hq
  have hsln:∀ L:List T,(es0.set (i:Int).toNat L).length=xs.length:=fun L=>by rw[Gq7]; exact hll
  rw[hes0.symm]
  refine Wz [16,23,0,122,91,3,6,129,23,0] ?_
  have hat0:=hset [.v (.int .i64 (k+9*(i:Int))),.v (.int .i64 xs[i].Owner),.v (.int .i64 xs[i].X),.v (.int .i64 xs[i].Y),.v (.int .i64 xs[i].VX),.v (.int .i64 xs[i].VY),.v (.int .i64 xs[i].Aim),.v (.int .i64 xs[i].Life),.v (.int .i64 xs[i].Timer)]
  have hln0:=hsln [.v (.int .i64 (k+9*(i:Int))),.v (.int .i64 xs[i].Owner),.v (.int .i64 xs[i].X),.v (.int .i64 xs[i].Y),.v (.int .i64 xs[i].VX),.v (.int .i64 xs[i].VY),.v (.int .i64 xs[i].Aim),.v (.int .i64 xs[i].Life),.v (.int .i64 xs[i].Timer)]
  refine AL.weak (st':=(⟨_,[(0,.o (.c (.ref 0))),(1,I ((k+9*(i:Int))+1)),(5,I i),(19,.o (.c (.ref 0))),(20,I i),(21,I ((k+9*(i:Int))+1))],[.row 9 (es0.set (i:Int).toNat [.v (.int .i64 (k+9*(i:Int))),.v (.int .i64 xs[i].Owner),.v (.int .i64 xs[i].X),.v (.int .i64 xs[i].Y),.v (.int .i64 xs[i].VX),.v (.int .i64 xs[i].VY),.v (.int .i64 xs[i].Aim),.v (.int .i64 xs[i].Life),.v (.int .i64 xs[i].Timer)]),.gh 0 (.c (.ref 0))]⟩:St)) (V0 [0,1] J (row2 J) (.c J (.c J (.c J (.c J (.c J (.c J (.nil)))))))) ?_;refine Wz [122,91,3,6,129,23,0] ?_
  have hat1:=hset [.v (.int .i64 (k+9*(i:Int))),.v (.int .i64 ((k+9*(i:Int))+1)),.v (.int .i64 xs[i].X),.v (.int .i64 xs[i].Y),.v (.int .i64 xs[i].VX),.v (.int .i64 xs[i].VY),.v (.int .i64 xs[i].Aim),.v (.int .i64 xs[i].Life),.v (.int .i64 xs[i].Timer)]
  have hln1:=hsln [.v (.int .i64 (k+9*(i:Int))),.v (.int .i64 ((k+9*(i:Int))+1)),.v (.int .i64 xs[i].X),.v (.int .i64 xs[i].Y),.v (.int .i64 xs[i].VX),.v (.int .i64 xs[i].VY),.v (.int .i64 xs[i].Aim),.v (.int .i64 xs[i].Life),.v (.int .i64 xs[i].Timer)]
  refine AL.weak (st':=(⟨_,[(0,.o (.c (.ref 0))),(1,I (((k+9*(i:Int))+1)+1)),(5,I i),(26,.o (.c (.ref 0))),(27,I i),(28,I (((k+9*(i:Int))+1)+1))],[.row 9 (es0.set (i:Int).toNat [.v (.int .i64 (k+9*(i:Int))),.v (.int .i64 ((k+9*(i:Int))+1)),.v (.int .i64 xs[i].X),.v (.int .i64 xs[i].Y),.v (.int .i64 xs[i].VX),.v (.int .i64 xs[i].VY),.v (.int .i64 xs[i].Aim),.v (.int .i64 xs[i].Life),.v (.int .i64 xs[i].Timer)]),.gh 0 (.c (.ref 0))]⟩:St)) (V0 [0,1] J (row2 (List.set_set _).symm) (.c J (.c J (.c J (.c J (.c J (.c J (.nil)))))))) ?_;refine Wz [122,91,3,6,129,23,0] ?_
  have hat2:=hset [.v (.int .i64 (k+9*(i:Int))),.v (.int .i64 ((k+9*(i:Int))+1)),.v (.int .i64 (((k+9*(i:Int))+1)+1)),.v (.int .i64 xs[i].Y),.v (.int .i64 xs[i].VX),.v (.int .i64 xs[i].VY),.v (.int .i64 xs[i].Aim),.v (.int .i64 xs[i].Life),.v (.int .i64 xs[i].Timer)]
  have hln2:=hsln [.v (.int .i64 (k+9*(i:Int))),.v (.int .i64 ((k+9*(i:Int))+1)),.v (.int .i64 (((k+9*(i:Int))+1)+1)),.v (.int .i64 xs[i].Y),.v (.int .i64 xs[i].VX),.v (.int .i64 xs[i].VY),.v (.int .i64 xs[i].Aim),.v (.int .i64 xs[i].Life),.v (.int .i64 xs[i].Timer)]
  refine AL.weak (st':=(⟨_,[(0,.o (.c (.ref 0))),(1,I ((((k+9*(i:Int))+1)+1)+1)),(5,I i),(33,.o (.c (.ref 0))),(34,I i),(35,I ((((k+9*(i:Int))+1)+1)+1))],[.row 9 (es0.set (i:Int).toNat [.v (.int .i64 (k+9*(i:Int))),.v (.int .i64 ((k+9*(i:Int))+1)),.v (.int .i64 (((k+9*(i:Int))+1)+1)),.v (.int .i64 xs[i].Y),.v (.int .i64 xs[i].VX),.v (.int .i64 xs[i].VY),.v (.int .i64 xs[i].Aim),.v (.int .i64 xs[i].Life),.v (.int .i64 xs[i].Timer)]),.gh 0 (.c (.ref 0))]⟩:St)) (V0 [0,1] J (row2 (List.set_set _).symm) (.c J (.c J (.c J (.c J (.c J (.c J (.nil)))))))) ?_;refine Wz [122,91,3,6,129,23,0] ?_
  have hat3:=hset [.v (.int .i64 (k+9*(i:Int))),.v (.int .i64 ((k+9*(i:Int))+1)),.v (.int .i64 (((k+9*(i:Int))+1)+1)),.v (.int .i64 ((((k+9*(i:Int))+1)+1)+1)),.v (.int .i64 xs[i].VX),.v (.int .i64 xs[i].VY),.v (.int .i64 xs[i].Aim),.v (.int .i64 xs[i].Life),.v (.int .i64 xs[i].Timer)]
  have hln3:=hsln [.v (.int .i64 (k+9*(i:Int))),.v (.int .i64 ((k+9*(i:Int))+1)),.v (.int .i64 (((k+9*(i:Int))+1)+1)),.v (.int .i64 ((((k+9*(i:Int))+1)+1)+1)),.v (.int .i64 xs[i].VX),.v (.int .i64 xs[i].VY),.v (.int .i64 xs[i].Aim),.v (.int .i64 xs[i].Life),.v (.int .i64 xs[i].Timer)]
  refine AL.weak (st':=(⟨_,[(0,.o (.c (.ref 0))),(1,I (((((k+9*(i:Int))+1)+1)+1)+1)),(5,I i),(40,.o (.c (.ref 0))),(41,I i),(42,I (((((k+9*(i:Int))+1)+1)+1)+1))],[.row 9 (es0.set (i:Int).toNat [.v (.int .i64 (k+9*(i:Int))),.v (.int .i64 ((k+9*(i:Int))+1)),.v (.int .i64 (((k+9*(i:Int))+1)+1)),.v (.int .i64 ((((k+9*(i:Int))+1)+1)+1)),.v (.int .i64 xs[i].VX),.v (.int .i64 xs[i].VY),.v (.int .i64 xs[i].Aim),.v (.int .i64 xs[i].Life),.v (.int .i64 xs[i].Timer)]),.gh 0 (.c (.ref 0))]⟩:St)) (V0 [0,1] J (row2 (List.set_set _).symm) (.c J (.c J (.c J (.c J (.c J (.c J (.nil)))))))) ?_;refine Wz [122,91,3,6,129,23,0] ?_
  have hat4:=hset [.v (.int .i64 (k+9*(i:Int))),.v (.int .i64 ((k+9*(i:Int))+1)),.v (.int .i64 (((k+9*(i:Int))+1)+1)),.v (.int .i64 ((((k+9*(i:Int))+1)+1)+1)),.v (.int .i64 (((((k+9*(i:Int))+1)+1)+1)+1)),.v (.int .i64 xs[i].VY),.v (.int .i64 xs[i].Aim),.v (.int .i64 xs[i].Life),.v (.int .i64 xs[i].Timer)]
  have hln4:=hsln [.v (.int .i64 (k+9*(i:Int))),.v (.int .i64 ((k+9*(i:Int))+1)),.v (.int .i64 (((k+9*(i:Int))+1)+1)),.v (.int .i64 ((((k+9*(i:Int))+1)+1)+1)),.v (.int .i64 (((((k+9*(i:Int))+1)+1)+1)+1)),.v (.int .i64 xs[i].VY),.v (.int .i64 xs[i].Aim),.v (.int .i64 xs[i].Life),.v (.int .i64 xs[i].Timer)]
  refine AL.weak (st':=(⟨_,[(0,.o (.c (.ref 0))),(1,I ((((((k+9*(i:Int))+1)+1)+1)+1)+1)),(5,I i),(47,.o (.c (.ref 0))),(48,I i),(49,I ((((((k+9*(i:Int))+1)+1)+1)+1)+1))],[.row 9 (es0.set (i:Int).toNat [.v (.int .i64 (k+9*(i:Int))),.v (.int .i64 ((k+9*(i:Int))+1)),.v (.int .i64 (((k+9*(i:Int))+1)+1)),.v (.int .i64 ((((k+9*(i:Int))+1)+1)+1)),.v (.int .i64 (((((k+9*(i:Int))+1)+1)+1)+1)),.v (.int .i64 xs[i].VY),.v (.int .i64 xs[i].Aim),.v (.int .i64 xs[i].Life),.v (.int .i64 xs[i].Timer)]),.gh 0 (.c (.ref 0))]⟩:St)) (V0 [0,1] J (row2 (List.set_set _).symm) (.c J (.c J (.c J (.c J (.c J (.c J (.nil)))))))) ?_;refine Wz [122,91,3,6,129,23,0] ?_
  have hat5:=hset [.v (.int .i64 (k+9*(i:Int))),.v (.int .i64 ((k+9*(i:Int))+1)),.v (.int .i64 (((k+9*(i:Int))+1)+1)),.v (.int .i64 ((((k+9*(i:Int))+1)+1)+1)),.v (.int .i64 (((((k+9*(i:Int))+1)+1)+1)+1)),.v (.int .i64 ((((((k+9*(i:Int))+1)+1)+1)+1)+1)),.v (.int .i64 xs[i].Aim),.v (.int .i64 xs[i].Life),.v (.int .i64 xs[i].Timer)]
  have hln5:=hsln [.v (.int .i64 (k+9*(i:Int))),.v (.int .i64 ((k+9*(i:Int))+1)),.v (.int .i64 (((k+9*(i:Int))+1)+1)),.v (.int .i64 ((((k+9*(i:Int))+1)+1)+1)),.v (.int .i64 (((((k+9*(i:Int))+1)+1)+1)+1)),.v (.int .i64 ((((((k+9*(i:Int))+1)+1)+1)+1)+1)),.v (.int .i64 xs[i].Aim),.v (.int .i64 xs[i].Life),.v (.int .i64 xs[i].Timer)]
  refine AL.weak (st':=(⟨_,[(0,.o (.c (.ref 0))),(1,I (((((((k+9*(i:Int))+1)+1)+1)+1)+1)+1)),(5,I i),(54,.o (.c (.ref 0))),(55,I i),(56,I (((((((k+9*(i:Int))+1)+1)+1)+1)+1)+1))],[.row 9 (es0.set (i:Int).toNat [.v (.int .i64 (k+9*(i:Int))),.v (.int .i64 ((k+9*(i:Int))+1)),.v (.int .i64 (((k+9*(i:Int))+1)+1)),.v (.int .i64 ((((k+9*(i:Int))+1)+1)+1)),.v (.int .i64 (((((k+9*(i:Int))+1)+1)+1)+1)),.v (.int .i64 ((((((k+9*(i:Int))+1)+1)+1)+1)+1)),.v (.int .i64 xs[i].Aim),.v (.int .i64 xs[i].Life),.v (.int .i64 xs[i].Timer)]),.gh 0 (.c (.ref 0))]⟩:St)) (V0 [0,1] J (row2 (List.set_set _).symm) (.c J (.c J (.c J (.c J (.c J (.c J (.nil)))))))) ?_;refine Wz [122,91,3,6,129,23,0] ?_
  have hat6:=hset [.v (.int .i64 (k+9*(i:Int))),.v (.int .i64 ((k+9*(i:Int))+1)),.v (.int .i64 (((k+9*(i:Int))+1)+1)),.v (.int .i64 ((((k+9*(i:Int))+1)+1)+1)),.v (.int .i64 (((((k+9*(i:Int))+1)+1)+1)+1)),.v (.int .i64 ((((((k+9*(i:Int))+1)+1)+1)+1)+1)),.v (.int .i64 (((((((k+9*(i:Int))+1)+1)+1)+1)+1)+1)),.v (.int .i64 xs[i].Life),.v (.int .i64 xs[i].Timer)]
  have hln6:=hsln [.v (.int .i64 (k+9*(i:Int))),.v (.int .i64 ((k+9*(i:Int))+1)),.v (.int .i64 (((k+9*(i:Int))+1)+1)),.v (.int .i64 ((((k+9*(i:Int))+1)+1)+1)),.v (.int .i64 (((((k+9*(i:Int))+1)+1)+1)+1)),.v (.int .i64 ((((((k+9*(i:Int))+1)+1)+1)+1)+1)),.v (.int .i64 (((((((k+9*(i:Int))+1)+1)+1)+1)+1)+1)),.v (.int .i64 xs[i].Life),.v (.int .i64 xs[i].Timer)]
  refine AL.weak (st':=(⟨_,[(0,.o (.c (.ref 0))),(1,I ((((((((k+9*(i:Int))+1)+1)+1)+1)+1)+1)+1)),(5,I i),(61,.o (.c (.ref 0))),(62,I i),(63,I ((((((((k+9*(i:Int))+1)+1)+1)+1)+1)+1)+1))],[.row 9 (es0.set (i:Int).toNat [.v (.int .i64 (k+9*(i:Int))),.v (.int .i64 ((k+9*(i:Int))+1)),.v (.int .i64 (((k+9*(i:Int))+1)+1)),.v (.int .i64 ((((k+9*(i:Int))+1)+1)+1)),.v (.int .i64 (((((k+9*(i:Int))+1)+1)+1)+1)),.v (.int .i64 ((((((k+9*(i:Int))+1)+1)+1)+1)+1)),.v (.int .i64 (((((((k+9*(i:Int))+1)+1)+1)+1)+1)+1)),.v (.int .i64 xs[i].Life),.v (.int .i64 xs[i].Timer)]),.gh 0 (.c (.ref 0))]⟩:St)) (V0 [0,1] J (row2 (List.set_set _).symm) (.c J (.c J (.c J (.c J (.c J (.c J (.nil)))))))) ?_;refine Wz [122,91,3,6,129,23,0] ?_
  have hat7:=hset [.v (.int .i64 (k+9*(i:Int))),.v (.int .i64 ((k+9*(i:Int))+1)),.v (.int .i64 (((k+9*(i:Int))+1)+1)),.v (.int .i64 ((((k+9*(i:Int))+1)+1)+1)),.v (.int .i64 (((((k+9*(i:Int))+1)+1)+1)+1)),.v (.int .i64 ((((((k+9*(i:Int))+1)+1)+1)+1)+1)),.v (.int .i64 (((((((k+9*(i:Int))+1)+1)+1)+1)+1)+1)),.v (.int .i64 ((((((((k+9*(i:Int))+1)+1)+1)+1)+1)+1)+1)),.v (.int .i64 xs[i].Timer)]
  have hln7:=hsln [.v (.int .i64 (k+9*(i:Int))),.v (.int .i64 ((k+9*(i:Int))+1)),.v (.int .i64 (((k+9*(i:Int))+1)+1)),.v (.int .i64 ((((k+9*(i:Int))+1)+1)+1)),.v (.int .i64 (((((k+9*(i:Int))+1)+1)+1)+1)),.v (.int .i64 ((((((k+9*(i:Int))+1)+1)+1)+1)+1)),.v (.int .i64 (((((((k+9*(i:Int))+1)+1)+1)+1)+1)+1)),.v (.int .i64 ((((((((k+9*(i:Int))+1)+1)+1)+1)+1)+1)+1)),.v (.int .i64 xs[i].Timer)]
  refine AL.weak (st':=(⟨_,[(0,.o (.c (.ref 0))),(1,I (((((((((k+9*(i:Int))+1)+1)+1)+1)+1)+1)+1)+1)),(5,I i),(68,.o (.c (.ref 0))),(69,I i),(70,I (((((((((k+9*(i:Int))+1)+1)+1)+1)+1)+1)+1)+1))],[.row 9 (es0.set (i:Int).toNat [.v (.int .i64 (k+9*(i:Int))),.v (.int .i64 ((k+9*(i:Int))+1)),.v (.int .i64 (((k+9*(i:Int))+1)+1)),.v (.int .i64 ((((k+9*(i:Int))+1)+1)+1)),.v (.int .i64 (((((k+9*(i:Int))+1)+1)+1)+1)),.v (.int .i64 ((((((k+9*(i:Int))+1)+1)+1)+1)+1)),.v (.int .i64 (((((((k+9*(i:Int))+1)+1)+1)+1)+1)+1)),.v (.int .i64 ((((((((k+9*(i:Int))+1)+1)+1)+1)+1)+1)+1)),.v (.int .i64 xs[i].Timer)]),.gh 0 (.c (.ref 0))]⟩:St)) (V0 [0,1] J (row2 (List.set_set _).symm) (.c J (.c J (.c J (.c J (.c J (.c J (.nil)))))))) ?_;refine Wz [122,91,3,65,30,82] ?_
  have hend:els ((markB xs k).take (i+1)++xs.drop (i+1))=es0.set (i:Int).toNat [.v (.int .i64 (k+9*(i:Int))),.v (.int .i64 ((k+9*(i:Int))+1)),.v (.int .i64 (((k+9*(i:Int))+1)+1)),.v (.int .i64 ((((k+9*(i:Int))+1)+1)+1)),.v (.int .i64 (((((k+9*(i:Int))+1)+1)+1)+1)),.v (.int .i64 ((((((k+9*(i:Int))+1)+1)+1)+1)+1)),.v (.int .i64 (((((((k+9*(i:Int))+1)+1)+1)+1)+1)+1)),.v (.int .i64 ((((((((k+9*(i:Int))+1)+1)+1)+1)+1)+1)+1)),.v (.int .i64 (((((((((k+9*(i:Int))+1)+1)+1)+1)+1)+1)+1)+1))]:=by
   rw[mk_nextE hml h3,markB_at,hes0]
   rfl
  exact⟨xs.length-(i+1),by omega,(fun i:Nat=>(⟨_,[(0,.o (.c (.ref 0))),(1,I (k+9*i)),(5,I i)],[.row 9 (els ((markB xs k).take i++xs.drop i)),.gh 0 (.c (.ref 0))]⟩:St)) (i+1),⟨i+1,by omega,trivial,J⟩,V0 [0,1] J (row2 (hend.trans (List.set_set _).symm)) (.c J (.cons (Xv (by omega)) (.c J (.nil))))⟩
 ·have h3:¬i<xs.length:=by have:=Gqf h; omega
  have hk2:i=xs.length:=by omega
  subst hk2
  refine Wz [111] ?_
  exact V3 J (V4 [0,1] J (row2 (by rw[mk_end hml (Gqk _)])) J)
end
end Go.Proofs.YtpmacgnmlmmojaaGreatDoor
