/-
  Rules, data and contracts of functions: part 17 of the proof.
  Conditions: those that each theorem names.
-/
import Derived.Test.YtalaljeokcpfnaaGreatDDPlayRowk15
set_option linter.unusedSimpArgs false
set_option linter.unusedVariables false
set_option maxRecDepth 8000
set_option maxHeartbeats 8000000
namespace Go.Proofs.YtalaljeokcpfnaaGreat
section
open Go.RowKit

theorem flat_one {fps:List (List (List Nat))} {i j:Nat} {G:List (List Nat)} {f:List Nat} (hi:fps[i]? = some G) (hj:G[j]? = some f):∃ X Z:List Nat,fps.flatten.flatten=X++f++Z∧∀ f':List Nat,(fps.set i (splice G j [f'])).flatten.flatten=X++f'++Z:=by
 obtain⟨hlt,he⟩:=Gqo.1 hi
 obtain⟨hlj,hf⟩:=Gqo.1 hj
 refine⟨(fps.take i).flatten.flatten++(G.take j).flatten,(G.drop (j+1)).flatten++(fps.drop (i+1)).flatten.flatten,?_,fun f' => ?_⟩
 ·conv=>lhs; rw[←Gxq i fps,Gxr hlt,he]
  have hG:G.flatten=(G.take j).flatten++f++(G.drop (j+1)).flatten:=by
   conv=>lhs; rw[←Gxq j G,Gxr hlj,hf]
   simp[Gqz]
  rw[Gqt,List.flatten_cons,Gqt,Gqt,hG]
  simp[Gqz]
 ·rw[List.set_eq_take_append_cons_drop,if_pos hlt]
  rw[Gqt,List.flatten_cons,Gqt,Gqt,splice,Gqt,Gqt]
  simp[Gqz]

theorem sep_list {l:List (List Nat)} (hn:l.flatten.Nodup) {i j:Nat} {f g:List Nat} (hi:l[i]? = some f) (hj:l[j]? = some g) (hij:i≠j) {x:Nat} (hx:x∈f) (hy:x∈g):False:=by
 obtain⟨hp,hq⟩:=List.pairwise_flatten.1 hn
 obtain⟨h1,rfl⟩:=Gqo.1 hi
 obtain⟨h2,rfl⟩:=Gqo.1 hj
 rcases Nat.lt_or_gt_of_ne hij with h | h
 ·exact (List.pairwise_iff_getElem.1 hq i j h1 h2 h) x hx x hy rfl
 ·exact (List.pairwise_iff_getElem.1 hq j i h2 h1 h) x hy x hx rfl
theorem sep_elems {fps:List (List (List Nat))} (hn:fps.flatten.flatten.Nodup) {i i' j j':Nat} {G G':List (List Nat)} {f g:List Nat} (hi:fps[i]? = some G) (hi':fps[i']? = some G') (hii:i≠i') (hf:G[j]? = some f) (hg:G'[j']? = some g) {x:Nat} (hx:x∈f) (hy:x∈g):False:=by
 have h1:(fps.map List.flatten).flatten=fps.flatten.flatten:=by simp[List.flatten_flatten]
 rw[←h1] at hn
 exact sep_list hn (i:=i) (j:=i') (f:=G.flatten) (g:=G'.flatten) (by simp[hi]) (by simp[hi']) hii (Gxn.2 ⟨f,Zk hf,hx⟩) (Gxn.2 ⟨g,Zk hg,hy⟩)
theorem sep_cells {fps:List (List (List Nat))} (hn:fps.flatten.flatten.Nodup) {i j j':Nat} {G:List (List Nat)} {f g:List Nat} (hi:fps[i]? = some G) (hf:G[j]? = some f) (hg:G[j']? = some g) (hjj:j≠j') {x:Nat} (hx:x∈f) (hy:x∈g):False:=by
 have h1:(fps.map List.flatten).flatten=fps.flatten.flatten:=by simp[List.flatten_flatten]
 rw[←h1] at hn
 obtain⟨hp,_⟩:=List.pairwise_flatten.1 hn
 exact sep_list (hp G.flatten (Gqv.2 ⟨G,Zk hi,J⟩)) hf hg hjj hx hy

theorem OW.inner {w:World} {k:Nat} {es:List (List T)} {v:Value} {fp:List Nat} (h:OW w (.sl k es) v fp) (hnd:fp.Nodup) {i j:Nat} {e:List T} {t0:T} (hi:es[i]? = some e) (hj:e[j]? = some t0) :
  ∃ b o c u f,v = .slice (some ⟨b,o,none⟩) es.length c∧b∈fp∧w.cell? ⟨b,o+i*k+j,none⟩=some u∧OW w t0 u f∧f.Nodup∧(∀ x∈f,x∈fp) ∧
   ∀ (w':World) (t1:T) (f':List Nat),(∀ x∈fp,x∉f→w'.heap[x]? = w.heap[x]?)→OW w' t1 u f'→f'.Nodup→(∀ x∈f',x∈f∨x∉fp) →
    ∃ fp',OW w' (.sl k (es.set i (splice e j [t1]))) v fp'∧fp'.Nodup∧∀ x∈fp',(x∈fp∧x∉f)∨x∈f':=by
 rcases h.open_ with ⟨rfl,rfl,rfl⟩ | ⟨b,o,c,tid,cur,fz,val,fps,rfl,rfl,hg,hz,hc,hcm,hcs,hp,hk,hff,hfk,hv,ht⟩
 ·simp at hi
 have hil:=Zj hi
 have hek:e.length=k:=hk e (Zk hi)
 have hjl:=Zj hj
 rw[hek] at hjl
 have hfi:fps[i]? = some fps[i]:=Gqg Aqa 
 have hfik:(fps[i]' Aqa).length=k:=hfk _ (Gqe _)
 obtain⟨G,hG⟩:∃ G,G=fps[i]' Aqa:=⟨_,rfl⟩
 rw[←hG] at hfi hfik
 obtain⟨f,hf⟩:∃ f,G[j]? = some f:=⟨_,Gqg Aqa⟩
 obtain⟨X,Z,e1,e2⟩:=flat_one hfi hf
 have hndc:=Gxi.1 hnd
 have hndf:=hndc.2
 rw[e1] at hndf
 obtain⟨n1,n2,n3⟩:=List.nodup_append.1 hndf
 obtain⟨n4,n5,n6⟩:=List.nodup_append.1 n1
 have hbf:b∉f:=fun hb=>hndc.1 (mem_ff hfi hf hb)
 refine⟨b,o,c,val i j,f,J,Aqd,?_,ht i j e _ G f hi hj hfi hf,n5,fun x hx=>Gxc _ (mem_ff hfi hf hx),fun w' t1 f' hw hO hn' hf' => ?_⟩
 ·rw[cell_of_row w b _ cur tid fz hg]
  exact hv i j hil hjl
 have hset:(es.set i (splice e j [t1])).length=es.length:=Aqd
 have hfr:∀ (i' j':Nat) (e':List T) (t:T) (fs:List (List Nat)) (g:List Nat),es[i']? = some e'→e'[j']? = some t→fps[i']? = some fs→fs[j']? = some g→(∀ x∈g,x∉f)→OW w' t (val i' j') g:=fun i' j' e' t fs g g1 g2 g3 g4 hd =>
  (ht i' j' e' t fs g g1 g2 g3 g4).frame fun x hx=>hw x (Gxc _ (mem_ff g3 g4 hx)) (hd x hx)
 have hold:∀ x∈X++f++Z,x∈b::fps.flatten.flatten:=fun x hx=>Gxc _ (by rw[e1]; exact hx)
 have hdX:∀ x∈X,x∉f':=fun x hx hx'=>by
  rcases hf' x hx' with h1 | h1
  ·exact n6 x hx x h1 rfl
  ·exact h1 (hold x (by simp[hx]))
 have hdZ:∀ x∈Z,x∉f':=fun x hx hx'=>by
  rcases hf' x hx' with h1 | h1
  ·exact n3 x (by simp[h1]) x hx rfl
  ·exact h1 (hold x (by simp[hx]))
 refine⟨b::(fps.set i (splice G j [f'])).flatten.flatten,?_,?_,?_⟩
 ·rw[←hset]
  refine .sl _ b o k c tid cur fz val _ (by rw[hw b Aqd hbf]; exact hg) hz (by rw[hset]; exact hc) hcm hcs hp ?_ (by simp[hff]) ?_ (fun i' j' hi' hj'=>hv i' j' (by rw[←hset]; exact hi') hj') fun i' j' e' t' fs' g' g1 g2 g3 g4 => ?_
  ·intro e' he'
   rcases Gxv he' with he' | rfl
   ·exact hk e' he'
   ·rw[splice_len Bqz,hek]
  ·intro g hg'
   rcases Gxv hg' with hg' | rfl
   ·exact hfk g hg'
   ·rw[splice_len Bqz,hfik]
  ·rw[List.getElem?_set] at g1 g3
   by_cases hii:i=i'
   ·subst hii
    simp only[hil,if_true,Option.some.injEq] at g1
    rw[if_pos rfl,if_pos Aqa] at g3
    simp only[Option.some.injEq] at g3
    subst g1 g3
    rw[splice_at Bqz] at g2 g4
    by_cases hcond:j≤j'∧j'<j+1
    ·have hjj:j'=j:=Aqa
     subst hjj
     rw[if_pos Aqd] at g2 g4
     simp at g2 g4
     subst g2 g4
     exact hO
    ·rw[if_neg (by simpa using hcond)] at g2 g4
     refine hfr i j' e t' G g' hi g2 hfi g4 fun x hx hxf=>?_
     -- two cells of one element own different blocks
     obtain⟨X2,Z2,e3,e4⟩:=flat_one hfi g4
     exact sep_cells hndc.2 hfi hf g4 (fun e=>hcond ⟨Aqa,Aqa⟩) hxf hx
   ·rw[if_neg hii] at g1 g3
    refine hfr i' j' e' t' fs' g' g1 g2 g3 g4 fun x hx hxf=>?_
    exact sep_elems hndc.2 hfi g3 hii hf g4 hxf hx
 ·rw[e2]
  refine Gxi.2 ⟨fun hb=>?_,List.nodup_append.2 ⟨List.nodup_append.2 ⟨n4,hn',fun x hx y hy e=>hdX x hx (e▸hy)⟩,n2,fun x hx y hy e=>?_⟩⟩
  ·rcases Gqs.1 hb with hb | hb
   ·rcases Gqs.1 hb with hb | hb
    ·exact hndc.1 (by rw[e1]; simp[hb])
    ·rcases hf' b hb with h1 | h1
     ·exact hbf h1
     ·exact h1 Aqd 
   ·exact hndc.1 (by rw[e1]; simp[hb])
  ·rcases Gqs.1 hx with hx | hx
   ·exact n3 x (by simp[hx]) y hy e
   ·exact hdZ y hy (e▸hx)
 ·rw[e2,e1]
  intro x hx
  rcases List.mem_cons.1 hx with rfl | hx
  ·exact .inl ⟨Aqd,hbf⟩
  ·rcases Gqs.1 hx with hx | hx
   ·rcases Gqs.1 hx with hx | hx
    ·exact .inl ⟨by simp[hx],fun h=>n6 x hx x h rfl⟩
    ·exact .inr hx
   ·exact .inl ⟨by simp[hx],fun h=>n3 x (by simp[h]) x hx rfl⟩

def lendx1 (objs:List Ob) (p:Nat) (x:V1):V1:=match lendw1 objs [p] x with
 | .rd [] y => .rd [] y
 |_ => .un
def lendx (objs:List Ob) (p:Nat):V→V2
 | .o (.c x) => .c (lendx1 objs p x)
 | .o (.ag xs) => .ag (xs.map (lendx1 objs p))
 |_ => .c .un
section
variable {P:Program} {E:Env} {ops:Array Oper} {o:Oper} {st:St} {rest:List Oper} {QQ:Exit→St→Prop} {w:World} {H:Hs} {F:Nat→Prop} {a:Act} {t:TypeId} {y:Operand} {n:Nat}
theorem lendx1_ok {p:Nat} {H1:Hs} {F1:Nat→Prop} (h:R0 w H F st a) (hF:∀ b,b<w.heap.size→b∉(H p).fp→F1 b) {x:V1} {v:Value} (hx:R1 w H F x v):R1 w H1 F1 (lendx1 st.objs p x) v:=by
 have h1:=lendw1_ok (ρ := [p]) (H1:=fun q=>if q=0 then H p else .nil) (F1:=F1) h (fun q r hq=>by
  cases q with
  |zero=>simp at hq; subst hq; rfl
  |succ q=>simp at hq) (fun b h1 h2=>hF b h1 (h2 p Aqd)) hx
 unfold lendx1
 split
 ·rename_i y hy
  rw[hy] at h1
  exact RO.weak h1 fun b hb _ => .inl (by
   rcases hb with hb | ⟨q,hq,_⟩
   ·exact hb
   ·simp at hq)
 ·trivial
theorem q_lee {p kk i j:Nat} {es:List (List T)} {e:List T} {x:T} [TyOne P t] (ho:o.op = .load t y) (hg:o.guard=none) (hy:st.ev y = .o (.c (.el p kk i j))) (hp:st.objs[p]? = some (.row kk es)) (he:es[i]? = some e) (hx:e[j]? = some x):Qt P ops o st (.o (.c (.le p kk i j))) [] n :=
 .pure hg fun a w H F hr=>by
  obtain⟨b,o',e1,hc⟩:=el_cells hr hy hp he
  obtain⟨u,h1,h2⟩:=hc 0 x (by simpa using hx)
  refine⟨u,Zg ho e1 (V0 t b o' u h1),?_⟩
  obtain⟨b2,o2,n2,c2,x2,fp2,k1,k2⟩:=hr.v1 hy
  obtain⟨v,fp,k3,k4⟩:=hr.ow hp
  rw[k1] at k3
  simp only[Pc.ow.injEq] at k3
  obtain⟨_,rfl,rfl⟩:=k3
  rw[e1] at k2
  simp only[Value.pointer.injEq,Option.some.injEq,Addr.mk.injEq] at k2
  obtain⟨rfl,rfl,_⟩:=k2
  refine⟨b,o2,n2,c2,x2,fp2,k1,?_,RO.one h2,by simpa using h1⟩
  rcases k4.open_ with ⟨k5,_⟩ | ⟨b',o',c',tid,cur,fz,val,fps,k5,k6,_⟩
  ·cases k5
  ·simp only[Value.slice.injEq,Option.some.injEq,Addr.mk.injEq] at k5
   rw[k6,k5.1.1]; simp

theorem L_inner {f:FuncId} [hf:FunOk P f] {ass:Array Operand} {tys:Array TypeId} {y0:Operand} {ys:List Operand} {args':List V2} {p kk k' i j:Nat} {es es0 es1:List (List T)} {e:List T} {wv:Value} {ps:List Nat}
  (hc:Con P f [.row k' es0,.gh 0 (.c (Aqk 0))] (.c (Aqk 0)::args') [.row k' es1,.gh 0 (.c (Aqk 0))] (.o (.c (.rd ps (.v wv))))) (ho:o.op = .call { callee := .value (.func f),args:=ass,argTypes:=tys }) (hg:o.guard=none) (has:ass.toList=y0::ys)
  (hy:st.ev y0 = .o (.c (.le p kk i j))) (hp:st.objs[p]? = some (.row kk es)) (he:es[i]? = some e) (hx:e[j]? = some (.sl k' es0)) (ha:ys.map (fun y=>lendx st.objs p (st.ev y))=args') (hd:dstOk st.n o.dst=true)
  (h:AL P E ops QQ rest ⟨st.n,setT (st.tmps.map fun e=>(e.1,e.2.mapk (V1.killw [p] [p]))) o.dst (.o (.c (.rd [] (.v wv)))),(st.objs.map (Ob.mapk (V1.killw [p] [p]))).set p (.row kk (es.set i (splice e j [.sl k' es1])))⟩):AL P E ops QQ (o::rest) st:=by
 refine⟨fun a w ⟨H,F,hr,hsince⟩ => ?_⟩
 have hrun:(execOp a.eval o).run P w = .ok (.enter f (ass.toList.map a.eval).toArray) w:=by
  unfold execOp
  simp only[ho,resolve,Act.eval,Deferred.ofValue,Sem.run_bind,Sem.run_pure,Result.andThen_ok,invoke]
  rw[show (#[]++ass.map a.eval++#[])=(ass.toList.map a.eval).toArray by
   apply Array.ext'
   simp]
  exact run_callFunc _
 refine wpList_step fun K hK=>?_
 rw[if_pos Bq6]
 unfold Oper.wp
 rw[hrun]
 obtain⟨v,fp,e1,e2⟩:=hr.ow hp
 have hnd:=hr.ok.nodup p
 rw[e1] at hnd
 obtain⟨b,o',c,u,f0,hv,hbfp,hcell,hOW0,hn0,hsub,hback⟩:=e2.inner hnd he hx
 obtain⟨b',o'',n',c',x',fp',e3,_,_,hcell'⟩:=hr.v1 hy
 have hu:a.eval y0=u:=by
  rw[e1] at e3
  simp only[Pc.ow.injEq] at e3
  have h3:=e3.2.1
  rw[hv] at h3
  simp only[Value.slice.injEq,Option.some.injEq,Addr.mk.injEq] at h3
  rw[←h3.1.1,←h3.1.2.1,hcell] at hcell'
  exact (Option.some.inj hcell').symm
 obtain⟨vs,hvs⟩:∃ vs,vs=ass.toList.map a.eval:=⟨_,rfl⟩
 have hvs2:vs=u::ys.map a.eval:=by rw[hvs,has,List.map_cons,hu]
 obtain⟨H1,hH0,hH1,hH2⟩:∃ H1:Hs,H1 0 = .ow (.sl k' es0) u f0∧H1 1 = .gh 0 u∧∀ q,2≤q→H1 q = .nil:=⟨fun q=>match q with | 0 => .ow (.sl k' es0) u f0 | 1 => .gh 0 u | _ => .nil,rfl,rfl,fun q hq=>by
  match q,hq with
  |q+2,_=>rfl⟩
 obtain⟨F1,hF1⟩:∃ F1:Nat→Prop,F1=fun b=>b<w.heap.size∧b∉fp:=⟨_,rfl⟩
 have hfp:(H p).fp=fp:=Bxe
 have a3:∀ q x,x∈(H1 q).fp→q=0∧x∈f0:=fun q x hq=>by
  match q with
  |0=>rw[hH0] at hq; exact⟨rfl,hq⟩
  |1=>rw[hH1] at hq; simp[Pc.fp] at hq
  |q+2=>rw[hH2 (q+2) Aqa] at hq; simp[Pc.fp] at hq
 have hok1:Ok w H1 F1:=by
  refine⟨fun q=>?_,fun q=>?_,fun q r x h1 h2=>?_,fun q x h1 h2=>?_,fun x hb=>by rw[hF1] at hb; exact hb.1⟩
  ·match q with
   |0=>rw[hH0]; exact hOW0
   |1=>rw[hH1]; trivial
   |q+2=>rw[hH2 (q+2) Aqa]; trivial
  ·match q with
   |0=>rw[hH0]; exact hn0
   |1=>rw[hH1]; simp[Pc.fp]
   |q+2=>rw[hH2 (q+2) Aqa]; simp[Pc.fp]
  ·rw[(a3 q x h1).1,(a3 r x h2).1]
  ·rw[hF1] at h2; exact h2.2 (hsub x (a3 q x h1).2)
 have hobs1:∀ q,RB w H1 F1 q ([Ob.row k' es0,.gh 0 (.c (Aqk 0))].getD q .gone):=fun q=>by
  match q with
  |0=>exact⟨u,f0,hH0⟩
  |1=>exact⟨u,hH1,_,_,hH0⟩
  |q+2=>exact hH2 (q+2) Aqa 
 have hargs1:∀ (i:Nat) (x:V2) (v:Value),(V2.c (Aqk 0)::args')[i]? = some x→vs[i]? = some v→R2 w H1 F1 x v:=by
  intro i x v hi hv
  rw[hvs2] at hv
  cases i with
  |zero=>simp at hi hv; subst hi hv; exact⟨_,_,hH0⟩
  | succ i =>
   rw[Gxw] at hi hv
   rw[←ha,Gqk] at hi
   obtain⟨y,h1,rfl⟩:=Option.map_eq_some_iff.1 hi
   rw[Gqk,h1] at hv
   simp only[Gq1,Option.some.injEq] at hv
   subst hv
   have h2:=hr.ev y
   have hl1:∀ {x:V1} {v:Value},R1 w H F x v→R1 w H1 F1 (lendx1 st.objs p x) v:=fun hx=>lendx1_ok hr (fun b h1 h2=>by rw[hF1]; exact⟨h1,by rw[←hfp]; exact h2⟩) hx
   cases he:st.ev y with
   | o x =>
    rw[he] at h2
    cases x with
    |c x=>exact hl1 h2
    |ag xs =>
     obtain⟨us,e,hl,hcs⟩:=h2
     refine⟨us,e,by simpa using hl,fun i x u hi hu=>?_⟩
     rw[Gqk] at hi
     obtain⟨c,h3,rfl⟩:=Option.map_eq_some_iff.1 hi
     exact hl1 (hcs i c u h3 hu)
   |tu xs=>trivial
   |iff cs x=>trivial
 rw[←hvs]
 refine (hc w H1 F1 vs hok1 hobs1 (by rw[hvs2,←ha]; simp) hargs1).mono ?_
 rintro ex w' ⟨H2,F2,rv,rfl,hsi,hok2,hobs2,hres⟩
 obtain⟨v2,f2,e5⟩:∃ v2 f2,H2 0 = .ow (.sl k' es1) v2 f2:=hobs2 0
 obtain⟨v3,e6,x3,f3,e7⟩:∃ v3,H2 1 = .gh 0 v3∧∃ x3 f3,H2 0 = .ow x3 v3 f3:=hobs2 1
 have e8:v3=u:=by
  obtain⟨q,hq⟩:∃ q,H1 q = .gh 0 v3:=hsi.gh 1 0 v3 e6
  match q with
  |0=>rw[hH0] at hq; cases hq
  |1=>rw[hH1] at hq; simp only[Pc.gh.injEq] at hq; exact hq.2.symm
  |q+2=>rw[hH2 (q+2) Aqa] at hq; cases hq
 have e9:v2=u:=by
  rw[e5] at e7
  simp only[Pc.ow.injEq] at e7
  rw[e7.2.1,e8]
 subst e9
 have hO:=hok2.says 0
 rw[e5] at hO
 have hn2:=hok2.nodup 0
 rw[e5] at hn2
 have hkeepb:∀ x,x<w.heap.size→x∉f0→w'.heap[x]? = w.heap[x]? := fun x h1 h2=>hsi.keep x h1 fun q hq=>h2 (a3 q x hq).2
 have hlt:∀ x∈fp,x<w.heap.size:=fun x hx=>hr.ok.lt (p:=p) (by rw[hfp]; exact hx)
 obtain⟨fp2,h7,h8,h9'⟩:=hback w' (.sl k' es1) f2 (fun x h1 h2=>hkeepb x (hlt x h1) h2) hO hn2 (fun x hx=>by
  rcases hsi.org 0 x (by rw[e5]; exact hx) with ⟨q,hq⟩ | hq
  ·exact .inl (a3 q x hq).2
  ·exact .inr fun h=>Nat.not_le_of_lt (hlt x h) hq)
 have h9:∀ x∈fp2,x∈fp∨w.heap.size≤x:=fun x hx=>by
  rcases h9' x hx with h | h
  ·exact .inl h.1
  ·rcases hsi.org 0 x (by rw[e5]; exact h) with ⟨q,hq⟩ | hq
   ·exact .inl (hsub x (a3 q x hq).2)
   ·exact .inr hq
 have hkeep:Keeps w w' fp:=⟨hsi.os,hsi.tape,hsi.output,hsi.size,fun x h1 h2=>hkeepb x h1 fun h3=>h2 (hsub x h3)⟩
 obtain⟨hok,htn⟩:=hr.ok.turn (p:=p) (fp:=fp) hfp hkeep (.ow (.sl kk (es.set i (splice e j [.sl k' es1]))) v fp2) h7 h8 trivial h9
 have hplace:∀ q ∈ [p],Place (H q) (H.put p (.ow (.sl kk (es.set i (splice e j [.sl k' es1]))) v fp2) q):=fun q hq=>by
  have:q=p:=Bxd
  subst this
  exact .inl ⟨_,_,_,_,_,e1,Hs.put_self _ _ _⟩
 obtain⟨hplt,_⟩:=Gqo.1 hp
 have hR:=hr.mapk (V1.killw [p] [p]) (fun x v hx=>R1.killw hr.ok htn hplace hx) hok ((st.objs.map (Ob.mapk (V1.killw [p] [p]))).set p (.row kk (es.set i (splice e j [.sl k' es1])))) (fun q=>?_)
 ·have hR2:=hR.put (x := .o (.c (.rd [] (.v wv)))) o.dst hd (v:=rv) (by
   have h1:R1 w' H2 F2 (.rd ps (.v wv)) rv:=hres
   obtain⟨rfl,h2⟩:=RO.plain h1
   exact RO.v _ h2)
  exact hK _ _ (h.h _ _ ⟨_,F,hR2,hsince.turn htn⟩)
 ·by_cases hqp:q=p
  ·subst hqp
   rw[Zi (x := .row kk (es.set i (splice e j [.sl k' es1]))) (by simp[hplt])]
   exact Bzs
  ·rw[Gqf,Gxa (Ne.symm hqp),Gqk]
   have h2:=hr.obs q
   rw[Gqf] at h2
   have h3:H.put p (.ow (.sl kk (es.set i (splice e j [.sl k' es1]))) v fp2) q=H q:=Hs.put_ne _ _ hqp
   cases ho:st.objs[q]? with
   |none=>rw[ho] at h2; exact h3.trans h2
   |some ob=>rw[ho] at h2; exact RB.mapk (fun x v hx=>R1.killw hr.ok htn hplace hx) h3 h2
theorem M_inner {ts:List (Nat×V)} {obs:List Ob} {d:Nat} {f:FuncId} [hf:FunOk P f] {ass:Array Operand} {tys:Array TypeId} {y0:Operand} {ys:List Operand} {args':List V2} {p kk k' i j:Nat} {es es0 es1:List (List T)} {e:List T} {wv:Value} {ps:List Nat}
  (hc:Con P f [.row k' es0,.gh 0 (.c (Aqk 0))] (.c (Aqk 0)::args') [.row k' es1,.gh 0 (.c (Aqk 0))] (.o (.c (.rd ps (.v wv))))) (ho:o.op = .call { callee := .value (.func f),args:=ass,argTypes:=tys }) (hg:o.guard=none) (hd:o.dst=some d) (hl:Nat.blt d n=true) (has:ass.toList=y0::ys)
  (hy:St.ev ⟨n,ts,obs⟩ y0 = .o (.c (.le p kk i j))) (hp:obs[p]? = some (.row kk es)) (ha:ys.map (fun y=>lendx obs p (St.ev ⟨n,ts,obs⟩ y))=args') (he:es[i]? = some e) (hx:e[j]? = some (.sl k' es0))
  (h:AL P E ops QQ rest ⟨n,(d,.o (.c (.rd [] (.v wv))))::(ts.map fun e=>(e.1,e.2.mapk (V1.killw [p] [p]))),(obs.map (Ob.mapk (V1.killw [p] [p]))).set p (.row kk (es.set i (splice e j [.sl k' es1])))⟩):AL P E ops QQ (o::rest) ⟨n,ts,obs⟩ :=
 L_inner (st:=⟨n,ts,obs⟩) hc ho hg has hy hp he hx ha Bq8 Bq9
end
end
section
open Go.RowKit

section
variable {P:Program} {ops:Array Oper} {o:Oper} {st:St} {m:Nat} {t t':TypeId} {y z:Operand} {ps qs:List Nat}
theorem Vl {k:IntKind} {u:Int} (ho:o.op = .binOp .neq t y z t') (hg:o.guard=none) (hy:st.ev y = .o (.c (.rd ps (.v (.int k u))))) (hz:st.ev z = .o (.c (.rd qs (.v (.int k u))))):Qt P ops o st (B false) [] m :=
 Qw ho hg hy hz Aqd 
theorem Q8 {xs:List V2} (ho:o.op = .move y) (hg:o.guard=none) (hy:st.ev y = .tu xs):Qt P ops o st (.tu xs) [] m :=
 .pure hg fun a w H F hr=>⟨a.eval y,by simp[execOp,ho],by rw[←hy]; exact hr.ev y⟩
end
end
section
open Go.RowKit

theorem mk_at {α:Type} {ms xs:List α} (hl:ms.length=xs.length) {i:Nat} (h:i<xs.length) (h':i<(ms.take i++xs.drop i).length:=by simp; omega):(ms.take i++xs.drop i)[i]=xs[i]:=by
 have hi:(ms.take i).length=i:=Bqz
 rw[List.getElem_append_right Aqa]
 simp[hi]
theorem mk_len {α:Type} {ms xs:List α} (hl:ms.length=xs.length) {i:Nat} (h:i≤xs.length):(ms.take i++xs.drop i).length=xs.length:=by simp; omega
def tot (xs:List (List Int)):Nat:=(xs.map List.length).sum
end
section
open Tryz
open Go.RowKit

structure TBody where
 Kind:Int
 Owner:Int
 X:Int
 Y:Int
 VX:Int
 VY:Int
 Aim:Int
 Life:Int
 Timer:Int
 deriving DecidableEq
instance:Enc TBody:=⟨9,Aqa,fun x => [.v (.int .i64 x.Kind),.v (.int .i64 x.Owner),.v (.int .i64 x.X),.v (.int .i64 x.Y),.v (.int .i64 x.VX),.v (.int .i64 x.VY),.v (.int .i64 x.Aim),.v (.int .i64 x.Life),.v (.int .i64 x.Timer)],fun _=>rfl,fun x=>Enc.gd x.Kind∧Enc.gd x.Owner∧Enc.gd x.X∧Enc.gd x.Y∧Enc.gd x.VX∧Enc.gd x.VY∧Enc.gd x.Aim∧Enc.gd x.Life∧Enc.gd x.Timer,fun x=>0⟩
structure TWorld where
 Level:TLevel
 Tick:Int
 Seed:Int
 Scores:(List Int)
 Bodies:(List TBody)
 deriving DecidableEq
instance:Enc TWorld:=⟨5,Aqa,fun x => [sl x.Level.Rows,.v (.int .i64 x.Tick),.v (.int .i64 x.Seed),sl x.Scores,sl x.Bodies],fun _=>rfl,fun x=>Enc.gd x.Level∧Enc.gd x.Tick∧Enc.gd x.Seed∧Enc.gd x.Scores∧Enc.gd x.Bodies,fun x=>Enc.wt x.Level+Enc.wt x.Scores+Enc.wt x.Bodies⟩
structure TSpectator where
 World:TWorld
 Gaps:Int
 deriving DecidableEq
instance:Enc TSpectator:=⟨6,Aqa,fun x => [sl x.World.Level.Rows,.v (.int .i64 x.World.Tick),.v (.int .i64 x.World.Seed),sl x.World.Scores,sl x.World.Bodies,.v (.int .i64 x.Gaps)],fun _=>rfl,fun x=>Enc.gd x.World∧Enc.gd x.Gaps,fun x=>Enc.wt x.World⟩
theorem to_Body (x:TBody) (hg:Enc.wt x≤1048576):Co 230 [] [ag x] (ownO (Enc.e x)) (.o (.ag (ownV 0 (Enc.e x)))):=by
 refine Con.o func230 ntmps230 fun E=>?_;refine Wz [59,1,3,82,1,18,98,98,98,98,98,98,98,98,52,7,39,73] ?_
 exact Bzx
theorem eq_Body (x y:TBody) (hg:Enc.gd x) (e:x=y:=by rfl):Co 247 [] [ag x,ag y] [] (B (decide (x=y))):=by
 subst e
 obtain⟨g_Kind,g_Owner,g_X,g_Y,g_VX,g_VY,g_Aim,g_Life,g_Timer⟩:=hg
 have k_Kind:decide (x.Kind≠x.Kind)=false:=Aqd
 have k_Owner:decide (x.Owner≠x.Owner)=false:=Aqd
 have k_X:decide (x.X≠x.X)=false:=Aqd
 have k_Y:decide (x.Y≠x.Y)=false:=Aqd
 have k_VX:decide (x.VX≠x.VX)=false:=Aqd
 have k_VY:decide (x.VY≠x.VY)=false:=Aqd
 have k_Aim:decide (x.Aim≠x.Aim)=false:=Aqd
 have k_Life:decide (x.Life≠x.Life)=false:=Aqd
 have k_Timer:decide (x.Timer≠x.Timer)=false:=Aqd
 refine Con.o func247 ntmps247 fun E=>?_;refine Wz [43,131,16,173,22,99,22,99,22,99,22,99,22,99,22,99,22,99,22,99,22,28,101] ?_
 exact Bzl
theorem eq_BodyS (xs ys:List TBody) (hn:Enc.gd xs) (e:xs=ys:=by rfl):Co 222 [] [al xs,al ys] [] (B (decide (xs=ys))):=by
 have va_:=@func222; have vb_:=@ntmps222; have vc_:=@eq_Body; exact Bqd
theorem wts_body:∀ xs:List TBody,wts xs=0
 | []=>rfl
 |x::xs=>by simp[wts,wts_body xs,Enc.wt]
theorem sz_BodyS (xs:List TBody) (left:Int) (hg:Enc.gd xs) (h0:0≤left) (h1:left≤1048576):Co 181 [] [al xs,ai left] [] (I (szr (Enc.wt xs) left)):=by
 have va_:=@wts_body; have vb_:=@func181; have vc_:=@ntmps181; exact Bqa
def zBody:List T := [.v (.int .i64 0),.v (.int .i64 0),.v (.int .i64 0),.v (.int .i64 0),.v (.int .i64 0),.v (.int .i64 0),.v (.int .i64 0),.v (.int .i64 0),.v (.int .i64 0)]
theorem to_BodyS (xs:List TBody) (hg:Enc.wt xs≤1048576):Co 200 [] [al xs] [.row 9 (els xs)] (Aqg 0):=by
 have va_:=@wts_body; have vb_:=@func200; have vc_:=@ntmps200; let vd_:=9; let ve_:=zBody; have vf_:=@to_Body; exact Bqe
theorem sz_World (x:TWorld) (left:Int) (hg:Enc.gd x) (h0:0≤left) (h1:left≤1048576):Co 126 [] [ag x,ai left] [] (I (szr (Enc.wt x) left)):=by
 obtain⟨g_Level,g_Tick,g_Seed,g_Scores,g_Bodies⟩:=hg
 have hw:Enc.wt x=Enc.wt x.Level+Enc.wt x.Scores+Enc.wt x.Bodies:=rfl
 have hm1:decide ((-1:Int)<0)=true:=rfl
 have hc_Level:=sz_Level x.Level (left) g_Level Aqa Aqa 
 by_cases n_Level:left<Enc.wt x.Level
 ·rw[Ub n_Level] at hc_Level
  refine Con.o func126 ntmps126 fun E=>?_;refine Wz [96,56,0] ?_;refine kc0 hc_Level ?_;refine Wz [143,115] ?_
  exact Bzi
 rw[Uc Aqa] at hc_Level
 have hb_Level:decide (left-Enc.wt x.Level<0)=false:=Gqa Aqa 
 have hc_Scores:=sz_IntS x.Scores (left-Enc.wt x.Level) g_Scores Aqa Aqa 
 by_cases n_Scores:left-Enc.wt x.Level<Enc.wt x.Scores
 ·rw[Ub n_Scores] at hc_Scores
  refine Con.o func126 ntmps126 fun E=>?_;refine Wz [96,56,0] ?_;refine kc0 hc_Level ?_;refine Wz [70] ?_;refine kc0 hc_Scores ?_;refine Wz [143,115] ?_
  exact Bzi
 rw[Uc Aqa] at hc_Scores
 have hb_Scores:decide (left-Enc.wt x.Level-Enc.wt x.Scores<0)=false:=Gqa Aqa 
 have hc_Bodies:=sz_BodyS x.Bodies (left-Enc.wt x.Level-Enc.wt x.Scores) g_Bodies Aqa Aqa 
 by_cases n_Bodies:left-Enc.wt x.Level-Enc.wt x.Scores<Enc.wt x.Bodies
 ·rw[Ub n_Bodies] at hc_Bodies
  refine Con.o func126 ntmps126 fun E=>?_;refine Wz [96,56,0] ?_;refine kc0 hc_Level ?_;refine Wz [70] ?_;refine kc0 hc_Scores ?_;refine Wz [70] ?_;refine kc0 hc_Bodies ?_;refine Wz [143,115] ?_
  exact Bzi
 rw[Uc Aqa] at hc_Bodies
 have hb_Bodies:decide (left-Enc.wt x.Level-Enc.wt x.Scores-Enc.wt x.Bodies<0)=false:=Gqa Aqa 
 refine Con.o func126 ntmps126 fun E=>?_;refine Wz [96,56,0] ?_;refine kc0 hc_Level ?_;refine Wz [70] ?_;refine kc0 hc_Scores ?_;refine Wz [70] ?_;refine kc0 hc_Bodies ?_;refine Wz [126,11,36] ?_
 exact E_w [] J (X0 Bxb)
theorem to_World (x:TWorld) (hg:Enc.wt x≤1048576):Co 147 [] [ag x] (ownO (Enc.e x)) (.o (.ag (ownV 0 (Enc.e x)))):=by
 have hw:Enc.wt x=Enc.wt x.Level+Enc.wt x.Scores+Enc.wt x.Bodies:=rfl
 refine Con.o func147 ntmps147 fun E=>?_;refine Wz [59,1,3,82,1,56] ?_;refine kc1 (to_Level x.Level Aqa) ?_;refine Wz [79,39,18,98,98] ?_;refine kc1 (to_IntS x.Scores Aqa) ?_;refine Wz [98] ?_;refine kc1 (to_BodyS x.Bodies Aqa) ?_;refine Wz [52,7,39,73] ?_
 exact Bzr
theorem eq_World (x y:TWorld) (hg:Enc.gd x) (e:x=y:=by rfl):Co 174 [] [ag x,ag y] [] (B (decide (x=y))):=by
 subst e
 obtain⟨g_Level,g_Tick,g_Seed,g_Scores,g_Bodies⟩:=hg
 have hc_Level:=eq_Level x.Level x.Level g_Level
 rw[Gqb rfl] at hc_Level
 have k_Tick:decide (x.Tick≠x.Tick)=false:=Aqd
 have k_Seed:decide (x.Seed≠x.Seed)=false:=Aqd
 have hc_Scores:=eq_IntS x.Scores x.Scores g_Scores
 rw[Gqb rfl] at hc_Scores
 have hc_Bodies:=eq_BodyS x.Bodies x.Bodies g_Bodies
 rw[Gqb rfl] at hc_Bodies
 refine Con.o func174 ntmps174 fun E=>?_;refine Wz [43,131,16,56,154] ?_;refine kc0 hc_Level ?_;refine Wz [6,99,22,99,22,99] ?_;refine kc0 hc_Scores ?_;refine Wz [6,99] ?_;refine kc0 hc_Bodies ?_;refine Wz [6,28,101] ?_
 exact Bzl
theorem sz_Spectator (x:TSpectator) (left:Int) (hg:Enc.gd x) (h0:0≤left) (h1:left≤1048576):Co 62 [] [ag x,ai left] [] (I (szr (Enc.wt x) left)):=by
 obtain⟨g_World,g_Gaps⟩:=hg
 have hw:Enc.wt x=Enc.wt x.World:=rfl
 have hm1:decide ((-1:Int)<0)=true:=rfl
 have hc_World:=sz_World x.World (left) g_World Aqa Aqa 
 by_cases n_World:left<Enc.wt x.World
 ·rw[Ub n_World] at hc_World
  refine Con.o func62 ntmps62 fun E=>?_;refine Wz [96,56,0] ?_;refine kc0 hc_World ?_;refine Wz [143,115] ?_
  exact Bzi
 rw[Uc Aqa] at hc_World
 have hb_World:decide (left-Enc.wt x.World<0)=false:=Gqa Aqa 
 refine Con.o func62 ntmps62 fun E=>?_;refine Wz [96,56,0] ?_;refine kc0 hc_World ?_;refine Wz [126,11,36] ?_
 exact E_w [] J (X0 Bxb)
theorem to_Spectator (x:TSpectator) (hg:Enc.wt x≤1048576):Co 85 [] [ag x] (ownO (Enc.e x)) (.o (.ag (ownV 0 (Enc.e x)))):=by
 have hw:Enc.wt x=Enc.wt x.World:=rfl
 refine Con.o func85 ntmps85 fun E=>?_;refine Wz [59,1,3,82,1,56] ?_;refine kc1 (to_World x.World Aqa) ?_;refine Wz [79,39,18,52,7,39,73] ?_
 exact Bzr
theorem eq_Spectator (x y:TSpectator) (hg:Enc.gd x) (e:x=y:=by rfl):Co 108 [] [ag x,ag y] [] (B (decide (x=y))):=by
 subst e
 obtain⟨g_World,g_Gaps⟩:=hg
 have hc_World:=eq_World x.World x.World g_World
 rw[Gqb rfl] at hc_World
 have k_Gaps:decide (x.Gaps≠x.Gaps)=false:=Aqd
 refine Con.o func108 ntmps108 fun E=>?_;refine Wz [43,131,16,56,154] ?_;refine kc0 hc_World ?_;refine Wz [6,99,22,28,101] ?_
 exact Bzl

/-! ### Marks -/
end
section
open Tryz
open Go.RowKit

structure TTrack where
 Inputs:(List Int)
 deriving DecidableEq
instance:Enc TTrack:=⟨1,Aqa,fun x => [sl x.Inputs],fun _=>rfl,fun x=>Enc.gd x.Inputs,fun x=>Enc.wt x.Inputs⟩
structure TSave where
 Tick:Int
 Delta:ByteArray
 deriving DecidableEq
instance:Enc TSave:=⟨2,Aqa,fun x => [.v (.int .i64 x.Tick),.v (.string x.Delta)],fun _=>rfl,fun x=>Enc.gd x.Tick∧Enc.gd x.Delta,fun x=>Enc.wt x.Delta⟩
structure TFault where
 Tick:Int
 Player:Int
 Add:Int
 deriving DecidableEq
instance:Enc TFault:=⟨3,Aqa,fun x => [.v (.int .i64 x.Tick),.v (.int .i64 x.Player),.v (.int .i64 x.Add)],fun _=>rfl,fun x=>Enc.gd x.Tick∧Enc.gd x.Player∧Enc.gd x.Add,fun x=>0⟩
structure TPacket where
 From:Int
 Tick:Int
 First:Int
 Inputs:(List Int)
 Acks:(List Int)
 SumTick:Int
 Sum:Int
 Time:Int
 Echo:Int
 deriving DecidableEq
instance:Enc TPacket:=⟨9,Aqa,fun x => [.v (.int .i64 x.From),.v (.int .i64 x.Tick),.v (.int .i64 x.First),sl x.Inputs,sl x.Acks,.v (.int .i64 x.SumTick),.v (.int .i64 x.Sum),.v (.int .i64 x.Time),.v (.int .i64 x.Echo)],fun _=>rfl,fun x=>Enc.gd x.From∧Enc.gd x.Tick∧Enc.gd x.First∧Enc.gd x.Inputs∧Enc.gd x.Acks∧Enc.gd x.SumTick∧Enc.gd x.Sum∧Enc.gd x.Time∧Enc.gd x.Echo,fun x=>Enc.wt x.Inputs+Enc.wt x.Acks⟩
structure TPeer where
 Me:Int
 Delay:Int
 Ahead:Int
 Seed:Int
 Tracks:(List TTrack)
 Base:TWorld
 Now:TWorld
 Used:(List (List Int))
 Saves:(List TSave)
 Sums:(List Int)
 Fault:TFault
 Rolls:Int
 Again:Int
 deriving DecidableEq
instance:Enc TPeer:=⟨23,Aqa,fun x => [.v (.int .i64 x.Me),.v (.int .i64 x.Delay),.v (.int .i64 x.Ahead),.v (.int .i64 x.Seed),sl x.Tracks,sl x.Base.Level.Rows,.v (.int .i64 x.Base.Tick),.v (.int .i64 x.Base.Seed),sl x.Base.Scores,sl x.Base.Bodies,sl x.Now.Level.Rows,.v (.int .i64 x.Now.Tick),.v (.int .i64 x.Now.Seed),sl x.Now.Scores,sl x.Now.Bodies,sl x.Used,sl x.Saves,sl x.Sums,.v (.int .i64 x.Fault.Tick),.v (.int .i64 x.Fault.Player),.v (.int .i64 x.Fault.Add),.v (.int .i64 x.Rolls),.v (.int .i64 x.Again)],fun _=>rfl,fun x=>Enc.gd x.Me∧Enc.gd x.Delay∧Enc.gd x.Ahead∧Enc.gd x.Seed∧Enc.gd x.Tracks∧Enc.gd x.Base∧Enc.gd x.Now∧Enc.gd x.Used∧Enc.gd x.Saves∧Enc.gd x.Sums∧Enc.gd x.Fault∧Enc.gd x.Rolls∧Enc.gd x.Again,fun x=>Enc.wt x.Tracks+Enc.wt x.Base+Enc.wt x.Now+Enc.wt x.Used+Enc.wt x.Saves+Enc.wt x.Sums+Enc.wt x.Fault⟩
theorem sz_Track (x:TTrack) (left:Int) (hg:Enc.gd x) (h0:0≤left) (h1:left≤1048576):Co 180 [] [ag x,ai left] [] (I (szr (Enc.wt x) left)):=by
 have g_Inputs:Enc.gd x.Inputs:=hg
 have hw:Enc.wt x=Enc.wt x.Inputs:=rfl
 have hm1:decide ((-1:Int)<0)=true:=rfl
 have hc_Inputs:=sz_IntS x.Inputs (left) g_Inputs Aqa Aqa 
 by_cases n_Inputs:left<Enc.wt x.Inputs
 ·rw[Ub n_Inputs] at hc_Inputs
  refine Con.o func180 ntmps180 fun E=>?_;refine Wz [96,65] ?_;refine kc0 hc_Inputs ?_;refine Wz [143,115] ?_
  exact Bzi
 rw[Uc Aqa] at hc_Inputs
 have hb_Inputs:decide (left-Enc.wt x.Inputs<0)=false:=Gqa Aqa 
 refine Con.o func180 ntmps180 fun E=>?_;refine Wz [96,65] ?_;refine kc0 hc_Inputs ?_;refine Wz [126,11,36] ?_
 exact E_w [] J (X0 Bxb)
theorem to_Track (x:TTrack) (hg:Enc.wt x≤1048576):Co 199 [] [ag x] (ownO (Enc.e x)) (.o (.ag (ownV 0 (Enc.e x)))):=by
 have hw:Enc.wt x=Enc.wt x.Inputs:=rfl
 refine Con.o func199 ntmps199 fun E=>?_;refine Wz [59,1,3,82,1,18] ?_;refine kc1 (to_IntS x.Inputs Aqa) ?_;refine Wz [52,7,39,73] ?_
 exact Xm J J J J (Yh [3] Aqc J J J)
theorem eq_Track (x y:TTrack) (hg:Enc.gd x) (e:x=y:=by rfl):Co 221 [] [ag x,ag y] [] (B (decide (x=y))):=by
 subst e
 have g_Inputs:Enc.gd x.Inputs:=hg
 have hc_Inputs:=eq_IntS x.Inputs x.Inputs g_Inputs
 rw[Gqb rfl] at hc_Inputs
 refine Con.o func221 ntmps221 fun E=>?_;refine Wz [43,131,16,173] ?_;refine kc0 hc_Inputs ?_;refine Wz [6,28,101] ?_
 exact Bzl
theorem sz_Save (x:TSave) (left:Int) (hg:Enc.gd x) (h0:0≤left) (h1:left≤1048576):Co 182 [] [ag x,ai left] [] (I (szr (Enc.wt x) left)):=by
 obtain⟨g_Tick,g_Delta⟩:=hg
 have hw:Enc.wt x=Enc.wt x.Delta:=rfl
 have hm1:decide ((-1:Int)<0)=true:=rfl
 have hgd_Delta:x.Delta.size≤9223372036854775807:=g_Delta
 have hs_Delta:Enc.wt x.Delta=x.Delta.size:=rfl
 by_cases n_Delta:left-(x.Delta.size:Int)<0
 ·have hb:decide (left-(x.Delta.size:Int)<0)=true:=Gqb n_Delta
  refine Con.o func182 ntmps182 fun E=>?_;refine Wz [43,44,31,38,29,143,115] ?_
  exact Bzi
 have hb_Delta:decide (left-(x.Delta.size:Int)<0)=false:=Gqa n_Delta
 refine Con.o func182 ntmps182 fun E=>?_;refine Wz [43,44,31,38,29,126,11,36] ?_
 exact E_w [] J (X0 Bxb)
theorem to_Save (x:TSave) (hg:Enc.wt x≤1048576):Co 201 [] [ag x] (ownO (Enc.e x)) (.o (.ag (ownV 0 (Enc.e x)))):=by
 have hw:Enc.wt x=Enc.wt x.Delta:=rfl
 refine Con.o func201 ntmps201 fun E=>?_;refine Wz [59,1,3,82,1,18,98,52,7,39,73] ?_
 exact Bzx
theorem eq_Save (x y:TSave) (hg:Enc.gd x) (e:x=y:=by rfl):Co 223 [] [ag x,ag y] [] (B (decide (x=y))):=by
 subst e
 obtain⟨g_Tick,g_Delta⟩:=hg
 have k_Tick:decide (x.Tick≠x.Tick)=false:=Aqd
 have k_Delta:decide (x.Delta≠x.Delta)=false:=Aqd
 refine Con.o func223 ntmps223 fun E=>?_;refine Wz [43,131,16,173,22,99,240,28,101] ?_
 exact Bzl
theorem to_Fault (x:TFault) (hg:Enc.wt x≤1048576):Co 149 [] [ag x] (ownO (Enc.e x)) (.o (.ag (ownV 0 (Enc.e x)))):=by
 refine Con.o func149 ntmps149 fun E=>?_;refine Wz [59,1,3,82,1,18,98,98,52,7,39,73] ?_
 exact Bzx
theorem eq_Fault (x y:TFault) (hg:Enc.gd x) (e:x=y:=by rfl):Co 176 [] [ag x,ag y] [] (B (decide (x=y))):=by
 subst e
 obtain⟨g_Tick,g_Player,g_Add⟩:=hg
 have k_Tick:decide (x.Tick≠x.Tick)=false:=Aqd
 have k_Player:decide (x.Player≠x.Player)=false:=Aqd
 have k_Add:decide (x.Add≠x.Add)=false:=Aqd
 refine Con.o func176 ntmps176 fun E=>?_;refine Wz [43,131,16,173,22,99,22,99,22,28,101] ?_
 exact Bzl
theorem sz_TrackS (xs:List TTrack) (left:Int) (hg:Enc.gd xs) (h0:0≤left) (h1:left≤1048576):Co 125 [] [al xs,ai left] [] (I (szr (Enc.wt xs) left)):=by
 have va_:=@func125; have vb_:=@ntmps125; have vc_:=@sz_Track; have vd_:=fun{R G:Prop}=>@Wz R G [9,10,78,0]; exact Bqb
theorem sz_SaveS (xs:List TSave) (left:Int) (hg:Enc.gd xs) (h0:0≤left) (h1:left≤1048576):Co 127 [] [al xs,ai left] [] (I (szr (Enc.wt xs) left)):=by
 have va_:=@func127; have vb_:=@ntmps127; have vc_:=@sz_Save; have vd_:=fun{R G:Prop}=>@Wz R G [9,10,78,0]; exact Bqb
def zSave:List T := [.v (.int .i64 0),.v (.string ⟨#[]⟩)]
def zTrack:List T := [.sl 1 []]
theorem to_TrackS (xs:List TTrack) (hg:Enc.wt xs≤1048576):Co 146 [] [al xs] [.row 1 (els xs)] (Aqg 0):=by
 have va_:=@func146; have vb_:=@ntmps146; have vc_:=fun{R G:Prop}=>@Wz R G [23,11,25,258,16,51]; let vd_:=1; let ve_:=zTrack; have vf_:=@to_Track; exact Bqf
theorem to_SaveS (xs:List TSave) (hg:Enc.wt xs≤1048576):Co 148 [] [al xs] [.row 2 (els xs)] (Aqg 0):=by
 have va_:=@func148; have vb_:=@ntmps148; have vc_:=fun{R G:Prop}=>@Wz R G [23,11,25,251,16,51]; let vd_:=2; let ve_:=zSave; have vf_:=@to_Save; exact Bqf
theorem eq_TrackS (xs ys:List TTrack) (hn:Enc.gd xs) (e:xs=ys:=by rfl):Co 173 [] [al xs,al ys] [] (B (decide (xs=ys))):=by
 have va_:=@func173; have vb_:=@ntmps173; have vc_:=@eq_Track; exact Bqd
theorem eq_SaveS (xs ys:List TSave) (hn:Enc.gd xs) (e:xs=ys:=by rfl):Co 175 [] [al xs,al ys] [] (B (decide (xs=ys))):=by
 have va_:=@func175; have vb_:=@ntmps175; have vc_:=@eq_Save; exact Bqd
end
section
open Tryz
open Go.RowKit

def inR (n lo hi:Int):Bool:=decide (lo≤n)&&decide (n≤hi)
theorem Zm {n lo hi:Int}:inR n lo hi=true↔lo≤n∧n≤hi:=by simp[inR]
theorem Xy (n lo hi:Int):Co 94 [] [ai n,ai lo,ai hi] [] (B (inR n lo hi)):=by
 refine Con.o func94 ntmps94 fun E=>?_;refine Wz [23,10,224,0,171,252] ?_;refine zx (Qt.grdT J J J (.hit (.hit .stop)) (fun hgrd=>q_leq J J J J)) J ?_;refine Wz [66,36] ?_
 exact Bzh
theorem Yg (n lo hi:Int):Co 21 [] [ai n,ai lo,ai hi] [] (B (inR n lo hi)):=by
 refine Con.o func21 ntmps21 fun E=>?_;refine Wz [23,10,224,0,171,252] ?_;refine zx (Qt.grdT J J J (.hit (.hit .stop)) (fun hgrd=>q_leq J J J J)) J ?_;refine Wz [66,36] ?_
 exact Bzh

section
variable {α:Type} {p:α→Bool} {xs:List α} {k:Nat}
theorem Yo (h:(xs.take k).all p=true) (hk:k<xs.length) (hp:p xs[k]=true):(xs.take (k+1)).all p=true:=by
 rw[Gxb hk,List.all_append,h]
 simp[hp]
theorem Yp (hk:k<xs.length) (hp:p xs[k]=false):xs.all p=false:=by
 rw[List.all_eq_false]
 exact⟨_,Gqe hk,by simp[hp]⟩
theorem Yn (h:(xs.take k).all p=true) (hk:xs.length≤k):xs.all p=true:=by rwa[Gqj hk] at h
end
def inOk (xs:List Int):Bool:=xs.all fun n=>inR n 0 15
def rowOk (xs:List Int) (n:Int):Bool:=decide ((xs.length:Int)=n)&&inOk xs

theorem I_inputsOk (xs:List Int) (hn:Enc.gd xs):Co 155 [] [al xs] [] (B (inOk xs)):=by
 have hn1:=hn.1
 have hlx:=Y7 xs
 refine Con.o func155 ntmps155 fun E=>?_;refine Wz [95,25,138,34] ?_;refine A_lp xs.length (fun k=>(xs.take k).all (fun n=>inR n 0 15)=true) (fun k => [(5,L xs),(6,I (els xs).length),(7,I k)]) (fun k => []) Aqd (Yj [] Aqb) ?_
 intro m_A k hk_A hp_A
 refine Wz [3,58,4] ?_
 refine Xb J (fun h=>?_) (fun h=>?_)
 ·have h3:k<xs.length:=Bqx
  have hat:=Y4 h3
  refine Wz [9,3,100,44] ?_;refine kc0 (Xy xs[k] 0 15) ?_;refine Wz [6,1] ?_
  refine Xb J (fun h4=>?_) (fun h4=>?_)
  ·refine Wz [45,215] ?_
   refine Wz [89] ?_
   exact E_w [] J (Xk (Yp h3 Bxn).symm)
  ·refine Wz [149,133,301,0,53] ?_
   refine Q0 ?_
   exact Bjd
 ·have h3:¬((k:Int)<(els xs).length):=Gqd h
  refine Wz [30,101] ?_
  exact E_w [] J (Xk (Yn hp_A Aqa).symm)
theorem I_rowOk (xs:List Int) (n:Int) (hn:Enc.gd xs):Co 206 [] [al xs,ai n] [] (B (rowOk xs n)):=by
 have hlx:=Y7 xs
 refine Con.o func206 ntmps206 fun E=>?_;refine Wz [23,11,25,0,216,0,171] ?_;refine zx (Qt.grdT J J J (.hit .stop) (fun hgrd=>Qj J J (I_inputsOk xs hn) J)) J ?_;refine Wz [66,36] ?_
 exact E_w [] J (Xk (by rw[hlx]; rfl))
theorem S_rowOk (xs:List Int) (n:Int) (hn:Enc.gd xs):Co 133 [] [al xs,ai n] [] (B (rowOk xs n)):=by
 have hn1:=hn.1
 have hlx:=Y7 xs
 refine Con.o func133 ntmps133 fun E=>?_;refine Wz [23,107] ?_;refine A_lp xs.length (fun k=>(xs.take k).all (fun n=>inR n 0 15)=true) (fun k => [(0,L xs),(1,I n),(5,I k)]) (fun k => []) Aqd (Yj [] Aqb) ?_
 intro m_A k hk_A hp_A
 refine Wz [114] ?_
 refine Xb J (fun h=>?_) (fun h=>?_)
 ·have h3:k<xs.length:=Bqx
  have hat:=Y4 h3
  refine Wz [9,10,100] ?_;refine kc0 (Yg xs[k] 0 15) ?_;refine Wz [6,1] ?_
  refine Xb J (fun h4=>?_) (fun h4=>?_)
  ·refine Wz [45,215] ?_
   refine Wz [89] ?_
   exact E_w [] J (Xk (by unfold rowOk inOk; rw[Yp h3 (by simpa using h4)]; simp))
  ·refine Wz [149,194,13] ?_
   refine Wz [8] ?_
   exact Bjd
 ·have h3:¬((k:Int)<(els xs).length):=Gqd h
  refine Wz [223,25,0,216,36] ?_
  exact E_w [] J (Xk (by unfold rowOk inOk; rw[Yn hp_A Aqa,hlx]; simp))
end
end Go.Proofs.YtalaljeokcpfnaaGreat
