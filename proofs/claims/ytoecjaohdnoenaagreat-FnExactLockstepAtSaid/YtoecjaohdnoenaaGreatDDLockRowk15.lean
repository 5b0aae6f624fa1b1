/-
  Rules, data and contracts of functions: part 16 of the proof.
  Conditions: those that each theorem names.
-/
import Derived.Test.YtoecjaohdnoenaaGreatDDLockRowk14
set_option linter.unusedSimpArgs false
set_option linter.unusedVariables false
set_option maxHeartbeats 8000000
namespace Go.Proofs.YtoecjaohdnoenaaGreat
section
open Go.RowKit

theorem flat_one {fps:List (List (List Nat))} {i j:Nat} {G:List (List Nat)} {f:List Nat} (hi:fps[i]? = some G) (hj:G[j]? = some f):∃ X Z:List Nat,fps.flatten.flatten=X++f++Z∧∀ f':List Nat,(fps.set i (splice G j [f'])).flatten.flatten=X++f'++Z:=by
 obtain⟨hlt,he⟩:=Gql.1 hi
 obtain⟨hlj,hf⟩:=Gql.1 hj
 refine⟨(fps.take i).flatten.flatten++(G.take j).flatten,(G.drop (j+1)).flatten++(fps.drop (i+1)).flatten.flatten,?_,fun f' => ?_⟩
 ·conv=>lhs; rw[←Gxh i fps,Gxi hlt,he]
  have hG:G.flatten=(G.take j).flatten++f++(G.drop (j+1)).flatten:=by
   conv=>lhs; rw[←Gxh j G,Gxi hlj,hf]
   simp[Gq6]
  rw[Gqq,List.flatten_cons,Gqq,Gqq,hG]
  simp[Gq6]
 ·rw[List.set_eq_take_append_cons_drop,if_pos hlt]
  rw[Gqq,List.flatten_cons,Gqq,Gqq,splice,Gqq,Gqq]
  simp[Gq6]

theorem sep_list {l:List (List Nat)} (hn:l.flatten.Nodup) {i j:Nat} {f g:List Nat} (hi:l[i]? = some f) (hj:l[j]? = some g) (hij:i≠j) {x:Nat} (hx:x∈f) (hy:x∈g):False:=by
 obtain⟨hp,hq⟩:=List.pairwise_flatten.1 hn
 obtain⟨h1,rfl⟩:=Gql.1 hi
 obtain⟨h2,rfl⟩:=Gql.1 hj
 rcases Nat.lt_or_gt_of_ne hij with h | h
 ·exact (List.pairwise_iff_getElem.1 hq i j h1 h2 h) x hx x hy rfl
 ·exact (List.pairwise_iff_getElem.1 hq j i h2 h1 h) x hy x hx rfl
theorem sep_elems {fps:List (List (List Nat))} (hn:fps.flatten.flatten.Nodup) {i i' j j':Nat} {G G':List (List Nat)} {f g:List Nat} (hi:fps[i]? = some G) (hi':fps[i']? = some G') (hii:i≠i') (hf:G[j]? = some f) (hg:G'[j']? = some g) {x:Nat} (hx:x∈f) (hy:x∈g):False:=by
 have h1:(fps.map List.flatten).flatten=fps.flatten.flatten:=by simp[List.flatten_flatten]
 rw[←h1] at hn
 exact sep_list hn (i:=i) (j:=i') (f:=G.flatten) (g:=G'.flatten) (by simp[hi]) (by simp[hi']) hii (List.mem_flatten.2 ⟨f,Yo hf,hx⟩) (List.mem_flatten.2 ⟨g,Yo hg,hy⟩)
theorem sep_cells {fps:List (List (List Nat))} (hn:fps.flatten.flatten.Nodup) {i j j':Nat} {G:List (List Nat)} {f g:List Nat} (hi:fps[i]? = some G) (hf:G[j]? = some f) (hg:G[j']? = some g) (hjj:j≠j') {x:Nat} (hx:x∈f) (hy:x∈g):False:=by
 have h1:(fps.map List.flatten).flatten=fps.flatten.flatten:=by simp[List.flatten_flatten]
 rw[←h1] at hn
 obtain⟨hp,_⟩:=List.pairwise_flatten.1 hn
 exact sep_list (hp G.flatten (Gqx.2 ⟨G,Yo hi,J⟩)) hf hg hjj hx hy

theorem OW.inner {w:World} {k:Nat} {es:List (List T)} {v:Value} {fp:List Nat} (h:OW w (.sl k es) v fp) (hnd:fp.Nodup) {i j:Nat} {e:List T} {t0:T} (hi:es[i]? = some e) (hj:e[j]? = some t0) :
  ∃ b o c u f,v = .slice (some ⟨b,o,none⟩) es.length c∧b∈fp∧w.cell? ⟨b,o+i*k+j,none⟩=some u∧OW w t0 u f∧f.Nodup∧(∀ x∈f,x∈fp) ∧
   ∀ (w':World) (t1:T) (f':List Nat),(∀ x∈fp,x∉f→w'.heap[x]? = w.heap[x]?)→OW w' t1 u f'→f'.Nodup→(∀ x∈f',x∈f∨x∉fp) →
    ∃ fp',OW w' (.sl k (es.set i (splice e j [t1]))) v fp'∧fp'.Nodup∧∀ x∈fp',(x∈fp∧x∉f)∨x∈f':=by
 rcases h.open_ with ⟨rfl,rfl,rfl⟩ | ⟨b,o,c,tid,cur,fz,val,fps,rfl,rfl,hg,hz,hc,hcm,hcs,hp,hk,hff,hfk,hv,ht⟩
 ·simp at hi
 have hil:=Yn hi
 have hek:e.length=k:=hk e (Yo hi)
 have hjl:=Yn hj
 rw[hek] at hjl
 have hfi:fps[i]? = some fps[i]:=Gqf (by omega)
 have hfik:(fps[i]'(by omega)).length=k:=hfk _ (Gqg _)
 obtain⟨G,hG⟩:∃ G,G=fps[i]'(by omega):=⟨_,rfl⟩
 rw[←hG] at hfi hfik
 obtain⟨f,hf⟩:∃ f,G[j]? = some f:=⟨_,Gqf (by omega)⟩
 obtain⟨X,Z,e1,e2⟩:=flat_one hfi hf
 have hndc:=Gxb.1 hnd
 have hndf:=hndc.2
 rw[e1] at hndf
 obtain⟨n1,n2,n3⟩:=List.nodup_append.1 hndf
 obtain⟨n4,n5,n6⟩:=List.nodup_append.1 n1
 have hbf:b∉f:=fun hb=>hndc.1 (mem_ff hfi hf hb)
 refine⟨b,o,c,val i j,f,J,by simp,?_,ht i j e _ G f hi hj hfi hf,n5,fun x hx=>Gq7 _ (mem_ff hfi hf hx),fun w' t1 f' hw hO hn' hf' => ?_⟩
 ·rw[cell_of_row w b _ cur tid fz hg]
  exact hv i j hil hjl
 have hset:(es.set i (splice e j [t1])).length=es.length:=by simp
 have hfr:∀ (i' j':Nat) (e':List T) (t:T) (fs:List (List Nat)) (g:List Nat),es[i']? = some e'→e'[j']? = some t→fps[i']? = some fs→fs[j']? = some g→(∀ x∈g,x∉f)→OW w' t (val i' j') g:=fun i' j' e' t fs g g1 g2 g3 g4 hd =>
  (ht i' j' e' t fs g g1 g2 g3 g4).frame fun x hx=>hw x (Gq7 _ (mem_ff g3 g4 hx)) (hd x hx)
 have hold:∀ x∈X++f++Z,x∈b::fps.flatten.flatten:=fun x hx=>Gq7 _ (by rw[e1]; exact hx)
 have hdX:∀ x∈X,x∉f':=fun x hx hx'=>by
  rcases hf' x hx' with h1 | h1
  ·exact n6 x hx x h1 rfl
  ·exact h1 (hold x (by simp[hx]))
 have hdZ:∀ x∈Z,x∉f':=fun x hx hx'=>by
  rcases hf' x hx' with h1 | h1
  ·exact n3 x (by simp[h1]) x hx rfl
  ·exact h1 (hold x (by simp[hx]))
 refine⟨b::(fps.set i (splice G j [f'])).flatten.flatten,?_,?_,?_⟩
 ·rw[←hset]
  refine .sl _ b o k c tid cur fz val _ (by rw[hw b (by simp) hbf]; exact hg) hz (by rw[hset]; exact hc) hcm hcs hp ?_ (by simp[hff]) ?_ (fun i' j' hi' hj'=>hv i' j' (by rw[←hset]; exact hi') hj') fun i' j' e' t' fs' g' g1 g2 g3 g4 => ?_
  ·intro e' he'
   rcases Gxj he' with he' | rfl
   ·exact hk e' he'
   ·rw[splice_len (by simp; omega),hek]
  ·intro g hg'
   rcases Gxj hg' with hg' | rfl
   ·exact hfk g hg'
   ·rw[splice_len (by simp; omega),hfik]
  ·rw[List.getElem?_set] at g1 g3
   by_cases hii:i=i'
   ·subst hii
    simp only[hil,if_true,Option.some.injEq] at g1
    rw[if_pos rfl,if_pos (by omega)] at g3
    simp only[Option.some.injEq] at g3
    subst g1 g3
    rw[splice_at (by simp; omega)] at g2 g4
    by_cases hcond:j≤j'∧j'<j+1
    ·have hjj:j'=j:=by omega
     subst hjj
     rw[if_pos (by simp)] at g2 g4
     simp at g2 g4
     subst g2 g4
     exact hO
    ·rw[if_neg (by simpa using hcond)] at g2 g4
     refine hfr i j' e t' G g' hi g2 hfi g4 fun x hx hxf => ?_
     -- two cells of one element own different blocks
     obtain⟨X2,Z2,e3,e4⟩:=flat_one hfi g4
     exact sep_cells hndc.2 hfi hf g4 (fun e=>hcond ⟨by omega,by omega⟩) hxf hx
   ·rw[if_neg hii] at g1 g3
    refine hfr i' j' e' t' fs' g' g1 g2 g3 g4 fun x hx hxf => ?_
    exact sep_elems hndc.2 hfi g3 hii hf g4 hxf hx
 ·rw[e2]
  refine Gxb.2 ⟨fun hb => ?_,List.nodup_append.2 ⟨List.nodup_append.2 ⟨n4,hn',fun x hx y hy e=>hdX x hx (e▸hy)⟩,n2,fun x hx y hy e => ?_⟩⟩
  ·rcases Gqt.1 hb with hb | hb
   ·rcases Gqt.1 hb with hb | hb
    ·exact hndc.1 (by rw[e1]; simp[hb])
    ·rcases hf' b hb with h1 | h1
     ·exact hbf h1
     ·exact h1 (by simp)
   ·exact hndc.1 (by rw[e1]; simp[hb])
  ·rcases Gqt.1 hx with hx | hx
   ·exact n3 x (by simp[hx]) y hy e
   ·exact hdZ y hy (e▸hx)
 ·rw[e2,e1]
  intro x hx
  rcases List.mem_cons.1 hx with rfl | hx
  ·exact .inl ⟨by simp,hbf⟩
  ·rcases Gqt.1 hx with hx | hx
   ·rcases Gqt.1 hx with hx | hx
    ·exact .inl ⟨by simp[hx],fun h=>n6 x hx x h rfl⟩
    ·exact .inr hx
   ·exact .inl ⟨by simp[hx],fun h=>n3 x (by simp[h]) x hx rfl⟩

def lendx1 (objs:List Ob) (p:Nat) (x:V1):V1:=match lendw1 objs [p] x with
 | .rd [] y => .rd [] y
 |_ => .un
def lendx (objs:List Ob) (p:Nat):V→V2
 | .o (.c x) => .c (lendx1 objs p x)
 | .o (.ag xs) => .ag (xs.map (lendx1 objs p))
 |_ => .c .un
section
variable {P:Program} {E:Env} {ops:Array Oper} {o:Oper} {st:St} {rest:List Oper} {QQ:Exit→St→Prop} {w:World} {H:Hs} {F:Nat→Prop} {a:Act} {t:TypeId} {y:Operand} {n:Nat}
theorem lendx1_ok {p:Nat} {H1:Hs} {F1:Nat→Prop} (h:R0 w H F st a) (hF:∀ b,b<w.heap.size→b∉(H p).fp→F1 b) {x:V1} {v:Value} (hx:R1 w H F x v):R1 w H1 F1 (lendx1 st.objs p x) v:=by
 have h1:=lendw1_ok (ρ := [p]) (H1:=fun q=>if q=0 then H p else .nil) (F1:=F1) h (fun q r hq=>by
  cases q with
  |zero=>simp at hq; subst hq; rfl
  |succ q=>simp at hq) (fun b h1 h2=>hF b h1 (h2 p (by simp))) hx
 unfold lendx1
 split
 ·rename_i y hy
  rw[hy] at h1
  exact RO.weak h1 fun b hb _ => .inl (by
   rcases hb with hb | ⟨q,hq,_⟩
   ·exact hb
   ·simp at hq)
 ·trivial
theorem q_lee {p kk i j:Nat} {es:List (List T)} {e:List T} {x:T} [TyOne P t] (ho:o.op = .load t y) (hg:o.guard=none) (hy:st.ev y = .o (.c (.el p kk i j))) (hp:st.objs[p]? = some (.row kk es)) (he:es[i]? = some e) (hx:e[j]? = some x):Qt P ops o st (.o (.c (.le p kk i j))) [] n :=
 .pure hg fun a w H F hr=>by
  obtain⟨b,o',e1,hc⟩:=el_cells hr hy hp he
  obtain⟨u,h1,h2⟩:=hc 0 x (by simpa using hx)
  refine⟨u,Yk ho e1 (Kd t b o' u h1),?_⟩
  obtain⟨b2,o2,n2,c2,x2,fp2,k1,k2⟩:=hr.v1 hy
  obtain⟨v,fp,k3,k4⟩:=hr.ow hp
  rw[k1] at k3
  simp only[Pc.ow.injEq] at k3
  obtain⟨_,rfl,rfl⟩:=k3
  rw[e1] at k2
  simp only[Value.pointer.injEq,Option.some.injEq,Addr.mk.injEq] at k2
  obtain⟨rfl,rfl,_⟩:=k2
  refine⟨b,o2,n2,c2,x2,fp2,k1,?_,RO.one h2,by simpa using h1⟩
  rcases k4.open_ with ⟨k5,_⟩ | ⟨b',o',c',tid,cur,fz,val,fps,k5,k6,_⟩
  ·cases k5
  ·simp only[Value.slice.injEq,Option.some.injEq,Addr.mk.injEq] at k5
   rw[k6,k5.1.1]; simp

theorem L_inner {f:FuncId} [hf:FunOk P f] {ass:Array Operand} {tys:Array TypeId} {y0:Operand} {ys:List Operand} {args':List V2} {p kk k' i j:Nat} {es es0 es1:List (List T)} {e:List T} {wv:Value} {ps:List Nat}
  (hc:Con P f [.row k' es0,.gh 0 (.c (.ref 0))] (.c (.ref 0)::args') [.row k' es1,.gh 0 (.c (.ref 0))] (.o (.c (.rd ps (.v wv))))) (ho:o.op = .call { callee := .value (.func f),args:=ass,argTypes:=tys }) (hg:o.guard=none) (has:ass.toList=y0::ys)
  (hy:st.ev y0 = .o (.c (.le p kk i j))) (hp:st.objs[p]? = some (.row kk es)) (he:es[i]? = some e) (hx:e[j]? = some (.sl k' es0)) (ha:ys.map (fun y=>lendx st.objs p (st.ev y))=args') (hd:dstOk st.n o.dst=true)
  (h:AL P E ops QQ rest ⟨st.n,setT (st.tmps.map fun e=>(e.1,e.2.mapk (V1.killw [p] [p]))) o.dst (.o (.c (.rd [] (.v wv)))),(st.objs.map (Ob.mapk (V1.killw [p] [p]))).set p (.row kk (es.set i (splice e j [.sl k' es1])))⟩):AL P E ops QQ (o::rest) st:=by
 refine⟨fun a w ⟨H,F,hr,hsince⟩ => ?_⟩
 have hrun:(execOp a.eval o).run P w = .ok (.enter f (ass.toList.map a.eval).toArray) w:=by
  unfold execOp
  simp only[ho,resolve,Act.eval,Deferred.ofValue,Sem.run_bind,Sem.run_pure,Result.andThen_ok,invoke]
  rw[show (#[]++ass.map a.eval++#[])=(ass.toList.map a.eval).toArray by
   apply Array.ext'
   simp]
  exact run_callFunc _
 refine wpList_step fun K hK => ?_
 rw[if_pos (by unfold Region.wanted; rw[hg])]
 unfold Oper.wp
 rw[hrun]
 obtain⟨v,fp,e1,e2⟩:=hr.ow hp
 have hnd:=hr.ok.nodup p
 rw[e1] at hnd
 obtain⟨b,o',c,u,f0,hv,hbfp,hcell,hOW0,hn0,hsub,hback⟩:=e2.inner hnd he hx
 obtain⟨b',o'',n',c',x',fp',e3,_,_,hcell'⟩:=hr.v1 hy
 have hu:a.eval y0=u:=by
  rw[e1] at e3
  simp only[Pc.ow.injEq] at e3
  have h3:=e3.2.1
  rw[hv] at h3
  simp only[Value.slice.injEq,Option.some.injEq,Addr.mk.injEq] at h3
  rw[←h3.1.1,←h3.1.2.1,hcell] at hcell'
  exact (Option.some.inj hcell').symm
 obtain⟨vs,hvs⟩:∃ vs,vs=ass.toList.map a.eval:=⟨_,rfl⟩
 have hvs2:vs=u::ys.map a.eval:=by rw[hvs,has,List.map_cons,hu]
 obtain⟨H1,hH0,hH1,hH2⟩:∃ H1:Hs,H1 0 = .ow (.sl k' es0) u f0∧H1 1 = .gh 0 u∧∀ q,2≤q→H1 q = .nil:=⟨fun q=>match q with | 0 => .ow (.sl k' es0) u f0 | 1 => .gh 0 u | _ => .nil,rfl,rfl,fun q hq=>by
  match q,hq with
  |q+2,_=>rfl⟩
 obtain⟨F1,hF1⟩:∃ F1:Nat→Prop,F1=fun b=>b<w.heap.size∧b∉fp:=⟨_,rfl⟩
 have hfp:(H p).fp=fp:=by rw[e1]; rfl
 have a3:∀ q x,x∈(H1 q).fp→q=0∧x∈f0:=fun q x hq=>by
  match q with
  |0=>rw[hH0] at hq; exact⟨rfl,hq⟩
  |1=>rw[hH1] at hq; simp[Pc.fp] at hq
  |q+2=>rw[hH2 (q+2) (by omega)] at hq; simp[Pc.fp] at hq
 have hok1:Ok w H1 F1:=by
  refine⟨fun q => ?_,fun q => ?_,fun q r x h1 h2 => ?_,fun q x h1 h2 => ?_,fun x hb=>by rw[hF1] at hb; exact hb.1⟩
  ·match q with
   |0=>rw[hH0]; exact hOW0
   |1=>rw[hH1]; trivial
   |q+2=>rw[hH2 (q+2) (by omega)]; trivial
  ·match q with
   |0=>rw[hH0]; exact hn0
   |1=>rw[hH1]; simp[Pc.fp]
   |q+2=>rw[hH2 (q+2) (by omega)]; simp[Pc.fp]
  ·rw[(a3 q x h1).1,(a3 r x h2).1]
  ·rw[hF1] at h2; exact h2.2 (hsub x (a3 q x h1).2)
 have hobs1:∀ q,RB w H1 F1 q ([Ob.row k' es0,.gh 0 (.c (.ref 0))].getD q .gone):=fun q=>by
  match q with
  |0=>exact⟨u,f0,hH0⟩
  |1=>exact⟨u,hH1,_,_,hH0⟩
  |q+2=>exact hH2 (q+2) (by omega)
 have hargs1:∀ (i:Nat) (x:V2) (v:Value),(V2.c (.ref 0)::args')[i]? = some x→vs[i]? = some v→R2 w H1 F1 x v:=by
  intro i x v hi hv
  rw[hvs2] at hv
  cases i with
  |zero=>simp at hi hv; subst hi hv; exact⟨_,_,hH0⟩
  | succ i =>
   rw[Gxm] at hi hv
   rw[←ha,Gqj] at hi
   obtain⟨y,h1,rfl⟩:=Option.map_eq_some_iff.1 hi
   rw[Gqj,h1] at hv
   simp only[Gqu,Option.some.injEq] at hv
   subst hv
   have h2:=hr.ev y
   have hl1:∀ {x:V1} {v:Value},R1 w H F x v→R1 w H1 F1 (lendx1 st.objs p x) v:=fun hx=>lendx1_ok hr (fun b h1 h2=>by rw[hF1]; exact⟨h1,by rw[←hfp]; exact h2⟩) hx
   cases he:st.ev y with
   | o x =>
    rw[he] at h2
    cases x with
    |c x=>exact hl1 h2
    |ag xs =>
     obtain⟨us,e,hl,hcs⟩:=h2
     refine⟨us,e,by simpa using hl,fun i x u hi hu => ?_⟩
     rw[Gqj] at hi
     obtain⟨c,h3,rfl⟩:=Option.map_eq_some_iff.1 hi
     exact hl1 (hcs i c u h3 hu)
   |tu xs=>trivial
   |iff cs x=>trivial
 rw[←hvs]
 refine (hc w H1 F1 vs hok1 hobs1 (by rw[hvs2,←ha]; simp) hargs1).mono ?_
 rintro ex w' ⟨H2,F2,rv,rfl,hsi,hok2,hobs2,hres⟩
 obtain⟨v2,f2,e5⟩:∃ v2 f2,H2 0 = .ow (.sl k' es1) v2 f2:=hobs2 0
 obtain⟨v3,e6,x3,f3,e7⟩:∃ v3,H2 1 = .gh 0 v3∧∃ x3 f3,H2 0 = .ow x3 v3 f3:=hobs2 1
 have e8:v3=u:=by
  obtain⟨q,hq⟩:∃ q,H1 q = .gh 0 v3:=hsi.gh 1 0 v3 e6
  match q with
  |0=>rw[hH0] at hq; cases hq
  |1=>rw[hH1] at hq; simp only[Pc.gh.injEq] at hq; exact hq.2.symm
  |q+2=>rw[hH2 (q+2) (by omega)] at hq; cases hq
 have e9:v2=u:=by
  rw[e5] at e7
  simp only[Pc.ow.injEq] at e7
  rw[e7.2.1,e8]
 subst e9
 have hO:=hok2.says 0
 rw[e5] at hO
 have hn2:=hok2.nodup 0
 rw[e5] at hn2
 have hkeepb:∀ x,x<w.heap.size→x∉f0→w'.heap[x]? = w.heap[x]? := fun x h1 h2=>hsi.keep x h1 fun q hq=>h2 (a3 q x hq).2
 have hlt:∀ x∈fp,x<w.heap.size:=fun x hx=>hr.ok.lt (p:=p) (by rw[hfp]; exact hx)
 obtain⟨fp2,h7,h8,h9'⟩:=hback w' (.sl k' es1) f2 (fun x h1 h2=>hkeepb x (hlt x h1) h2) hO hn2 (fun x hx=>by
  rcases hsi.org 0 x (by rw[e5]; exact hx) with ⟨q,hq⟩ | hq
  ·exact .inl (a3 q x hq).2
  ·exact .inr fun h=>Nat.not_le_of_lt (hlt x h) hq)
 have h9:∀ x∈fp2,x∈fp∨w.heap.size≤x:=fun x hx=>by
  rcases h9' x hx with h | h
  ·exact .inl h.1
  ·rcases hsi.org 0 x (by rw[e5]; exact h) with ⟨q,hq⟩ | hq
   ·exact .inl (hsub x (a3 q x hq).2)
   ·exact .inr hq
 have hkeep:Keeps w w' fp:=⟨hsi.os,hsi.tape,hsi.output,hsi.size,fun x h1 h2=>hkeepb x h1 fun h3=>h2 (hsub x h3)⟩
 obtain⟨hok,htn⟩:=hr.ok.turn (p:=p) (fp:=fp) hfp hkeep (.ow (.sl kk (es.set i (splice e j [.sl k' es1]))) v fp2) h7 h8 trivial h9
 have hplace:∀ q ∈ [p],Place (H q) (H.put p (.ow (.sl kk (es.set i (splice e j [.sl k' es1]))) v fp2) q):=fun q hq=>by
  have:q=p:=by simpa using hq
  subst this
  exact .inl ⟨_,_,_,_,_,e1,Hs.put_self _ _ _⟩
 obtain⟨hplt,_⟩:=Gql.1 hp
 have hR:=hr.mapk (V1.killw [p] [p]) (fun x v hx=>R1.killw hr.ok htn hplace hx) hok ((st.objs.map (Ob.mapk (V1.killw [p] [p]))).set p (.row kk (es.set i (splice e j [.sl k' es1])))) (fun q => ?_)
 ·have hR2:=hR.put (x := .o (.c (.rd [] (.v wv)))) o.dst hd (v:=rv) (by
   have h1:R1 w' H2 F2 (.rd ps (.v wv)) rv:=hres
   obtain⟨rfl,h2⟩:=RO.plain h1
   exact RO.v _ h2)
  exact hK _ _ (h.h _ _ ⟨_,F,hR2,hsince.turn htn⟩)
 ·by_cases hqp:q=p
  ·subst hqp
   rw[Ym (x := .row kk (es.set i (splice e j [.sl k' es1]))) (by simp[hplt])]
   exact⟨_,_,Hs.put_self _ _ _⟩
  ·rw[Gqe,Gxd (Ne.symm hqp),Gqj]
   have h2:=hr.obs q
   rw[Gqe] at h2
   have h3:H.put p (.ow (.sl kk (es.set i (splice e j [.sl k' es1]))) v fp2) q=H q:=Hs.put_ne _ _ hqp
   cases ho:st.objs[q]? with
   |none=>rw[ho] at h2; exact h3.trans h2
   |some ob=>rw[ho] at h2; exact RB.mapk (fun x v hx=>R1.killw hr.ok htn hplace hx) h3 h2
theorem M_inner {ts:List (Nat×V)} {obs:List Ob} {d:Nat} {f:FuncId} [hf:FunOk P f] {ass:Array Operand} {tys:Array TypeId} {y0:Operand} {ys:List Operand} {args':List V2} {p kk k' i j:Nat} {es es0 es1:List (List T)} {e:List T} {wv:Value} {ps:List Nat}
  (hc:Con P f [.row k' es0,.gh 0 (.c (.ref 0))] (.c (.ref 0)::args') [.row k' es1,.gh 0 (.c (.ref 0))] (.o (.c (.rd ps (.v wv))))) (ho:o.op = .call { callee := .value (.func f),args:=ass,argTypes:=tys }) (hg:o.guard=none) (hd:o.dst=some d) (hl:Nat.blt d n=true) (has:ass.toList=y0::ys)
  (hy:St.ev ⟨n,ts,obs⟩ y0 = .o (.c (.le p kk i j))) (hp:obs[p]? = some (.row kk es)) (ha:ys.map (fun y=>lendx obs p (St.ev ⟨n,ts,obs⟩ y))=args') (he:es[i]? = some e) (hx:e[j]? = some (.sl k' es0))
  (h:AL P E ops QQ rest ⟨n,(d,.o (.c (.rd [] (.v wv))))::(ts.map fun e=>(e.1,e.2.mapk (V1.killw [p] [p]))),(obs.map (Ob.mapk (V1.killw [p] [p]))).set p (.row kk (es.set i (splice e j [.sl k' es1])))⟩):AL P E ops QQ (o::rest) ⟨n,ts,obs⟩ :=
 L_inner (st:=⟨n,ts,obs⟩) hc ho hg has hy hp he hx ha (by rw[hd]; exact hl) (by rw[hd]; exact h)
end
end
section
open Go.RowKit

section
variable {P:Program} {ops:Array Oper} {o:Oper} {st:St} {m:Nat} {t t':TypeId} {y z:Operand} {ps qs:List Nat}
theorem q_bneqR {u:Bool} [TyBool P t] (ho:o.op = .binOp .neq t y z t') (hg:o.guard=none) (hy:st.ev y = .o (.c (.rd ps (.v (.bool u))))) (hz:st.ev z = .o (.c (.rd qs (.v (.bool u))))):Qt P ops o st (B false) [] m:=by
 have h:=q_bneq (m:=m) (P:=P) (ops:=ops) ho hg hy hz
 rwa[beq_self_eq_true] at h
theorem q_neqR {k:IntKind} {u:Int} (ho:o.op = .binOp .neq t y z t') (hg:o.guard=none) (hy:st.ev y = .o (.c (.rd ps (.v (.int k u))))) (hz:st.ev z = .o (.c (.rd qs (.v (.int k u))))):Qt P ops o st (B false) [] m :=
 Qw ho hg hy hz (by simp)
theorem Q8 {xs:List V2} (ho:o.op = .move y) (hg:o.guard=none) (hy:st.ev y = .tu xs):Qt P ops o st (.tu xs) [] m :=
 .pure hg fun a w H F hr=>⟨a.eval y,by simp[execOp,ho],by rw[←hy]; exact hr.ev y⟩
end
end
section
open Go.RowKit

theorem mk_next {α:Type} [Enc α] {ms xs:List α} (hl:ms.length=xs.length) {i:Nat} (h:i<xs.length) {c:T} {e:List T} (hc:Enc.e (ms[i]'(by omega)) = [c]) (he:e.length=1:=by rfl):els (ms.take (i+1)++xs.drop (i+1))=(els (ms.take i++xs.drop i)).set i (splice e 0 [c]):=by
 have h1:splice e 0 [c]=Enc.e (ms[i]'(by omega)):=by
  rw[hc]
  match e,he with
  | [t],_=>rfl
 have h2:i<ms.length:=by omega
 rw[h1,←Ye]
 congr 1
 have hi:(ms.take i).length=i:=by simp; omega
 rw[Gq4 h2,List.set_append_right _ _ (by omega)]
 have:i-(ms.take i).length=0:=by omega
 rw[this,Gxi h,List.set_cons_zero,Gq6]
 rfl
theorem mk_at {α:Type} {ms xs:List α} (hl:ms.length=xs.length) {i:Nat} (h:i<xs.length) (h':i<(ms.take i++xs.drop i).length:=by simp; omega):(ms.take i++xs.drop i)[i]=xs[i]:=by
 have hi:(ms.take i).length=i:=by simp; omega
 rw[List.getElem_append_right (by omega)]
 simp[hi]
theorem mk_len {α:Type} {ms xs:List α} (hl:ms.length=xs.length) {i:Nat} (h:i≤xs.length):(ms.take i++xs.drop i).length=xs.length:=by simp; omega
theorem mk_end {α:Type} {ms xs:List α} (hl:ms.length=xs.length) {i:Nat} (h:xs.length≤i):ms.take i++xs.drop i=ms:=by rw[Gqk (by omega),List.drop_of_length_le h,Gqw]

def markI (xs:List Int) (k:Int):List Int:=(List.range xs.length).map fun (i:Nat)=>k+i
theorem markI_len (xs:List Int) (k:Int):(markI xs k).length=xs.length:=by simp[markI]
theorem markI_at {xs:List Int} {k:Int} {i:Nat} (h:i<(markI xs k).length):(markI xs k)[i]=k+i:=by simp[markI]
theorem L_markIntS (xs:List Int) (k:Int) (hL:xs.length≤1073741824) (h0:0<k) (hk:k≤4294967296):Con Tryz.prog 80 [.row 1 (els xs),.gh 0 (.c (.ref 0))] [.c (.ref 0),ai k] [.row 1 (els (markI xs k)),.gh 0 (.c (.ref 0))] (I (k+xs.length)):=by
 have hml:=markI_len xs k
 refine Con.of Tryz.func80 J Tryz.ntmps80 J (fun E => ?_)
 refine Wz [22,26] ?_;refine Xj (fun m st=>∃ i:Nat,i+m=xs.length∧(True)∧st=(⟨_,[(0,.o (.c (.ref 0))),(1,I (k+i)),(5,I i)],[.row 1 (els ((markI xs k).take i++xs.drop i)),.gh 0 (.c (.ref 0))]⟩:St)) (xs.length) ⟨(fun i:Nat=>(⟨_,[(0,.o (.c (.ref 0))),(1,I (k+i)),(5,I i)],[.row 1 (els ((markI xs k).take i++xs.drop i)),.gh 0 (.c (.ref 0))]⟩:St)) 0,⟨0,by omega,trivial,J⟩,Up [0,1] J (by kernel_rfl) (.c J (.cons (Xs (by omega)) (.c J (.nil))))⟩ ?_
 rintro m_A _ ⟨i,hk_A,hp_A,rfl⟩
 have hl2:(els ((markI xs k).take i++xs.drop i)).length=xs.length:=by rw[Yc,mk_len hml (by omega)]
 refine Wz [13,33,63] ?_
 refine Xb J (fun h => ?_) (fun h => ?_)
 ·have h3:i<xs.length:=by have:=Gqc h; omega
  have hi:i<((markI xs k).take i++xs.drop i).length:=by rw[mk_len hml (by omega)]; exact h3
  have hat:=Yb hi
  refine Wz [8,139,68,112,6,23,95,99] ?_
  exact⟨xs.length-(i+1),by omega,(fun i:Nat=>(⟨_,[(0,.o (.c (.ref 0))),(1,I (k+i)),(5,I i)],[.row 1 (els ((markI xs k).take i++xs.drop i)),.gh 0 (.c (.ref 0))]⟩:St)) (i+1),⟨i+1,by omega,trivial,J⟩,Up [0,1] J (row2 (mk_next hml h3 (by rw[markI_at]; rfl))) (.c J (.cons (Xs (by omega)) (.c J (.nil))))⟩
 ·have h3:¬((i:Int)<(els ((markI xs k).take i++xs.drop i)).length):=Gqd h
  have hi:i=xs.length:=by omega
  refine Wz [54] ?_
  exact Uq J (Ur [0,1] J (row2 (by rw[mk_end hml (by omega)])) (Xs (by omega)))
theorem L_heldIntS (xs:List Int) (k:Int) (hL:xs.length≤1073741824) (h0:0<k) (hk:k≤4294967296):Con Tryz.prog 143 [] [al (markI xs k),ai k] [] (I (k+xs.length)):=by
 have hlx:=Yc (markI xs k)
 rw[markI_len] at hlx
 refine Con.of Tryz.func143 J Tryz.ntmps143 J (fun E => ?_)
 refine Wz [22,26] ?_;refine Xj (fun m st=>∃ i:Nat,i+m=xs.length∧(True)∧st=(⟨_,[(0,L (markI xs k)),(1,I (k+i)),(5,I i)],[]⟩:St)) (xs.length) ⟨(fun i:Nat=>(⟨_,[(0,L (markI xs k)),(1,I (k+i)),(5,I i)],[]⟩:St)) 0,⟨0,by omega,trivial,J⟩,Up [] J (by kernel_rfl) (.c J (.cons (Xs (by omega)) (.c J (.nil))))⟩ ?_
 rintro m_A _ ⟨i,hk_A,hp_A,rfl⟩
 refine Wz [71] ?_
 refine Xb J (fun h => ?_) (fun h => ?_)
 ·have h3:i<xs.length:=by have:=Gqc h; omega
  have hi:i<(markI xs k).length:=by rw[markI_len]; exact h3
  have hat:=Yb hi
  rw[markI_at] at hat
  refine Wz [8,13,47,0,187,9,23,95,99] ?_
  exact⟨xs.length-(i+1),by omega,(fun i:Nat=>(⟨_,[(0,L (markI xs k)),(1,I (k+i)),(5,I i)],[]⟩:St)) (i+1),⟨i+1,by omega,trivial,J⟩,Up [] J (by kernel_rfl) (.c J (.cons (Xs (by omega)) (.c J (.nil))))⟩
 ·have h3:¬((i:Int)<(els (markI xs k)).length):=Gqd h
  refine Wz [54] ?_
  exact Uq J (Ur [] J J (Xs (by omega)))

def tot (xs:List (List Int)):Nat:=(xs.map List.length).sum
end
end Go.Proofs.YtoecjaohdnoenaaGreat
