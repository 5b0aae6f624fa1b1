/-
  Rules, data and contracts of functions: part 4 of the proof.
  Conditions: those that each theorem names.
-/
import Derived.Laws.MakeOwn
import Derived.Deep.AppendSrc
import Derived.Test.YtpmacgnmlmmojaaGreatDoorDDDiagRowk2
set_option linter.unusedSimpArgs false
set_option linter.unusedVariables false
namespace Go.Proofs.YtpmacgnmlmmojaaGreatDoor
section
open Go.RowKit

def flatV (val:Nat→Nat→Value) (n k:Nat):List Value:=(List.range (n*k)).map fun q=>val (q/k) (q%k)
theorem Yl (val:Nat→Nat→Value) (n k:Nat):(flatV val n k).length=n*k:=by simp[flatV]
theorem ij_lt {n k i j:Nat} (hi:i<n) (hj:j<k):i*k+j<n*k:=by
 have h1:(i+1)*k≤n*k:=Gxs k hi
 rw[Nat.succ_mul] at h1
 omega
theorem ij_div {k i j:Nat} (hj:j<k):(i*k+j)/k=i∧(i*k+j)%k=j:=by
 constructor
 ·rw[Nat.mul_comm,Nat.mul_add_div (by omega),Nat.div_eq_of_lt hj,Nat.add_zero]
 ·rw[Nat.mul_comm,Nat.mul_add_mod,Nat.mod_eq_of_lt hj]
theorem flatV_at {val:Nat→Nat→Value} {n k i j:Nat} (hi:i<n) (hj:j<k):(flatV val n k)[i*k+j]? = some (val i j):=by
 simp[flatV,ij_lt hi hj,ij_div hj]
theorem flatV_get {val:Nat→Nat→Value} {n k q:Nat} {u:Value} (h:(flatV val n k)[q]? = some u):q/k<n∧q%k<k∧u=val (q/k) (q%k)∧q/k*k+q%k=q:=by
 have h1:=Yo h
 rw[Yl] at h1
 have hk:0<k:=by
  rcases Gxy k with rfl | h
  ·simp at h1
  ·exact h
 refine⟨Nat.div_lt_of_lt_mul (by rwa[Nat.mul_comm] at h1),Nat.mod_lt _ hk,?_,by rw[Nat.mul_comm]; exact Nat.div_add_mod q k⟩
 simp[flatV,h1] at h
 exact h.symm

theorem OW.open_ {w:World} {k:Nat} {es:List (List T)} {v:Value} {fp:List Nat} (h:OW w (.sl k es) v fp):(v = .slice none 0 0∧es = []∧fp = []) ∨
  ∃ (b o c:Nat) (tid:TypeId) (cur:Array Value) (fz:Nat×Nat) (val:Nat→Nat→Value) (fps:List (List (List Nat))),v = .slice (some ⟨b,o,none⟩) es.length c∧fp=b::fps.flatten.flatten∧w.heap[b]? = some (.cells cur tid fz)∧(fz=(0,0)∨cur.size≤fz.1) ∧
   es.length≤c∧c≤maxLen∧o+c*k≤cur.size∧0<k∧(∀ e∈es,e.length=k)∧fps.length=es.length∧(∀ f∈fps,f.length=k) ∧
   (∀ i j,i<es.length→j<k→cur[o+i*k+j]? = some (val i j)) ∧
   (∀ (i j:Nat) (e:List T) (t:T) (fs:List (List Nat)) (f:List Nat),es[i]? = some e→e[j]? = some t→fps[i]? = some fs→fs[j]? = some f→OW w t (val i j) f):=by
 cases h with
 |nil=>exact .inl ⟨rfl,rfl,rfl⟩
 |sl _ b o _ c tid cur fz val fps hg hz hc hm hs hp hk hf hfk hv ht=>exact .inr ⟨b,o,c,tid,cur,fz,val,fps,rfl,rfl,hg,hz,hc,hm,hs,hp,hk,hf,hfk,hv,ht⟩

theorem OW.join {w:World} {k:Nat} {es es':List (List T)} {b o c:Nat} {tid:TypeId} {cur:Array Value} {fz:Nat×Nat} {val val':Nat→Nat→Value} {fps fps':List (List (List Nat))}
  (hg:w.heap[b]? = some (.cells cur tid fz)) (hz:fz=(0,0)∨cur.size≤fz.1) (hc:es.length+es'.length≤c) (hm:c≤maxLen) (hs:o+c*k≤cur.size) (hp:0<k) (hk:∀ e∈es,e.length=k) (hk':∀ e∈es',e.length=k)
  (hf:fps.length=es.length) (hf':fps'.length=es'.length) (hfk:∀ f∈fps,f.length=k) (hfk':∀ f∈fps',f.length=k)
  (hv:∀ i j,i<es.length→j<k→cur[o+i*k+j]? = some (val i j)) (hv':∀ i j,i<es'.length→j<k→cur[o+(es.length+i)*k+j]? = some (val' i j))
  (ht:∀ (i j:Nat) (e:List T) (t:T) (fs:List (List Nat)) (f:List Nat),es[i]? = some e→e[j]? = some t→fps[i]? = some fs→fs[j]? = some f→OW w t (val i j) f)
  (ht':∀ (i j:Nat) (e:List T) (t:T) (fs:List (List Nat)) (f:List Nat),es'[i]? = some e→e[j]? = some t→fps'[i]? = some fs→fs[j]? = some f→OW w t (val' i j) f) :
  OW w (.sl k (es++es')) (.slice (some ⟨b,o,none⟩) (es.length+es'.length) c) (b::(fps++fps').flatten.flatten):=by
 have hn:es.length+es'.length=(es++es').length:=by simp
 rw[hn] at hc ⊢
 refine .sl (es++es') b o k c tid cur fz (fun i j=>if i<es.length then val i j else val' (i-es.length) j) (fps++fps') hg hz hc hm hs hp ?_ (by simp[hf,hf']) ?_ (fun i j hi hj => ?_) fun i j e t fs f h1 h2 h3 h4 => ?_
 ·intro e he
  rcases Gqq.1 he with he | he
  ·exact hk e he
  ·exact hk' e he
 ·intro e he
  rcases Gqq.1 he with he | he
  ·exact hfk e he
  ·exact hfk' e he
 ·show _=some (if i<es.length then _ else _)
  by_cases h:i<es.length
  ·rw[if_pos h]; exact hv i j h hj
  ·rw[if_neg h]
   have:=hv' (i-es.length) j (by rw[←hn] at hi; omega) hj
   rwa[show es.length+(i-es.length)=i by omega] at this
 ·show OW w t (if i<es.length then _ else _) f
  by_cases h:i<es.length
  ·rw[if_pos h]
   exact ht i j e t fs f (by rwa[Gqv h] at h1) h2 (by rwa[Gqv (by omega)] at h3) h4
  ·rw[if_neg h]
   exact ht' (i-es.length) j e t fs f (by rwa[Gqz (by omega)] at h1) h2 (by rw[Gqz (by omega),hf] at h3; exact h3) h4

section
variable {P:Program} {w:World}

theorem Yq (b:Nat) (tid:TypeId) (fz:Nat×Nat):∀ (us:List Value) (off:Nat) (w:World) (cur:Array Value),w.heap[b]? = some (.cells cur tid fz)→off+us.length≤cur.size →
  ∃ cur':Array Value,(w.setCells b off us).heap[b]? = some (.cells cur' tid fz)∧cur'.size=cur.size∧(∀ q,q<us.length→cur'[off+q]? = us[q]?)∧∀ q,(q<off∨off+us.length≤q)→cur'[q]? = cur[q]?
 | [],off,w,cur,h,_=>⟨cur,h,rfl,fun q hq=>by simp at hq,fun q _=>rfl⟩
 | u::us,off,w,cur,h,hl=>by
  have h1:(w.setCell ⟨b,off,none⟩ u).heap[b]? = some (.cells (cur.setIfInBounds off u) tid fz):=by
   simp[World.setCell,Array.getElem?_modify,h]
  obtain⟨cur',h2,h3,h4,h5⟩:=Yq b tid fz us (off+1) _ _ h1 (by simp at hl ⊢; omega)
  refine⟨cur',h2,by simpa using h3,fun q hq => ?_,fun q hq => ?_⟩
  ·cases q with
   |zero =>
    rw[Nat.add_zero,h5 off (.inl (by omega))]
    simp at hl
    simp[show off<cur.size by omega]
   |succ q =>
    rw[show off+(q+1)=off+1+q by omega,h4 q (by simpa using hq)]
    simp
  ·rw[h5 q (by simp at hq; omega),Array.getElem?_setIfInBounds_ne (by simp at hq; omega)]
theorem Z4 (w:World) (b:Nat):∀ (us:List Value) (off:Nat),(w.setCells b off us).os=w.os∧(w.setCells b off us).tape=w.tape∧(w.setCells b off us).output=w.output∧(w.setCells b off us).heap.size=w.heap.size∧∀ k,k≠b→(w.setCells b off us).heap[k]? = w.heap[k]? := by
 intro us
 induction us generalizing w with
 |nil=>intro off; exact⟨rfl,rfl,rfl,rfl,fun _ _=>rfl⟩
 |cons u us ih =>
  intro off
  obtain⟨h1,h2,h3,h4,h5⟩:=ih (w.setCell ⟨b,off,none⟩ u) (off+1)
  exact⟨h1,h2,h3,h4.trans (by simp[World.setCell]),fun k hk=>(h5 k hk).trans (Below.heap_setCell _ _ _ _ hk)⟩
theorem frozen_fz {w:World} {b o:Nat} {cur:Array Value} {tid:TypeId} {fz:Nat×Nat} (hg:w.heap[b]? = some (.cells cur tid fz)) (hz:fz=(0,0)∨cur.size≤fz.1) (ho:o<cur.size):w.frozen? ⟨b,o,none⟩=false:=by
 obtain⟨lo,hi⟩:=fz
 rcases hz with e | hz
 ·cases e; simp[World.frozen?,hg]
 ·simp only at hz
  simp only[World.frozen?,hg,Gxt,decide_eq_false_iff_not]
  exact .inl (by omega)

theorem run_append_nil0 (t tx ty e:TypeId) (i:TypeInfo) (ht:P.underlying t=some (.slice e)) (hi:P.info? e=some i) (x:Value) (news:List Value) (hs:Src P i.size tx x 0 news w) :
  (Builtin.append_ #[t,tx] ty #[.slice none 0 0,x]).run P w = .ok (.slice none 0 0) w:=by
 rcases hs.kind with ⟨e',hk⟩ | hk <;> simp[Builtin.append_,run_underlying ht,run_underlying hk,sizeOf,typeInfo,hi,hs.len,hs.cells]

structure Keeps (w w':World) (fp:List Nat):Prop where
 os:w'.os=w.os
 tape:w'.tape=w.tape
 output:w'.output=w.output
 size:w.heap.size≤w'.heap.size
 block:∀ b,b<w.heap.size→b∉fp→w'.heap[b]? = w.heap[b]?

theorem run_append_ow {t tx ty e:TypeId} {zs:List Value} {by_:Nat} [hm:TyMake P t e zs by_] {k:Nat} {es:List (List T)} {v:Value} {fp:List Nat} (h:OW w (.sl k es) v fp) (hkz:k=zs.length) (hz:0<zs.length) (hnd:fp.Nodup)
  (es':List (List T)) (val':Nat→Nat→Value) (fps':List (List (List Nat))) (x:Value) (hk':∀ e∈es',e.length=k)
  (hsrc:Src P k tx x es'.length (flatV val' es'.length k) w)
  (hf':fps'.length=es'.length) (hfk':∀ f∈fps',f.length=k)
  (hOW:∀ (i j:Nat) (e:List T) (t:T) (fs:List (List Nat)) (f:List Nat),es'[i]? = some e→e[j]? = some t→fps'[i]? = some fs→fs[j]? = some f→OW w t (val' i j) f)
  (hnd':fps'.flatten.flatten.Nodup) (hdis:∀ b∈fp,b∉fps'.flatten.flatten)
  (hb:(es.length+es'.length)*by_≤140737488355328) (h63:es.length+es'.length≤maxLen) :
  ∃ v' w' fp',(Builtin.append_ #[t,tx] ty #[v,x]).run P w = .ok v' w'∧OW w' (.sl k (es++es')) v' fp'∧fp'.Nodup ∧
   (∀ b∈fp',b∈fp∨b∈fps'.flatten.flatten∨w.heap.size≤b)∧Keeps w w' fp:=by
 obtain⟨i,hi,hzz⟩:=Option.map_eq_some_iff.1 hm.info
 simp only[Prod.mk.injEq] at hzz
 obtain⟨hz1,hs,hb1⟩:=hzz
 obtain⟨z,hz2,hz3⟩:=Option.map_eq_some_iff.1 hz1
 have hzc:z.cells.size=zs.length:=by rw[←hz3]; simp
 have hsk:i.size=k:=by rw[hs,hkz]
 have hsrc:Src P i.size tx x es'.length (flatV val' es'.length k) w:=by rw[hsk]; exact hsrc
 have hkp:0<k:=by rw[hkz]; exact hz
 have hltn:∀ b∈fps'.flatten.flatten,b<w.heap.size:=by
  intro b hb
  obtain⟨f,hf1,hf2⟩:=List.mem_flatten.1 hb
  obtain⟨fs,hs1,hs2⟩:=List.mem_flatten.1 hf1
  obtain⟨q,hq⟩:=List.getElem?_of_mem hs1
  obtain⟨j,hj⟩:=List.getElem?_of_mem hs2
  have h1:q<es'.length:=by rw[←hf']; exact Yo hq
  have h2:j<(es'[q]).length:=by rw[hk' _ (Gqi h1),←hfk' _ hs1]; exact Yo hj
  exact OW.lt (hOW q j _ _ _ _ (Gqe h1) (Gqe h2) hq hj) b hf2
 -- a new block
 have grown:∀ (val:Nat→Nat→Value) (fps:List (List (List Nat))) (old:Nat),(∀ e∈es,e.length=k)→fps.length=es.length→(∀ f∈fps,f.length=k) →
   (∀ (i j:Nat) (e:List T) (t:T) (fs:List (List Nat)) (f:List Nat),es[i]? = some e→e[j]? = some t→fps[i]? = some fs→fs[j]? = some f→OW w t (val i j) f)→(∀ b∈fps.flatten.flatten,b<w.heap.size) →
   OW (w.drew.alloc (.cells ((flatV val es.length k++flatV val' es'.length k).toArray++Builtin.zeroCells z.cells (grownCap w (es.length+es'.length) old e-(es.length+es'.length))) e)) (.sl k (es++es'))
    (.slice (some ⟨w.heap.size,0,none⟩) (es.length+es'.length) (grownCap w (es.length+es'.length) old e)) (w.heap.size::(fps++fps').flatten.flatten):=by
  intro val fps old g1 g2 g3 g4 g5
  have hge:=grownCap_ge w (es.length+es'.length) old e
  have hfr:∀ {t:T} {u:Value} {f:List Nat},OW w t u f→(∀ b∈f,b<w.heap.size)→OW (w.drew.alloc (.cells ((flatV val es.length k++flatV val' es'.length k).toArray++Builtin.zeroCells z.cells (grownCap w (es.length+es'.length) old e-(es.length+es'.length))) e)) t u f :=
   fun h hl=>h.frame fun b hb=>Below.heap_alloc w.drew _ b (hl b hb)
  refine OW.join (heap_alloc_new w.drew _) (.inl J) hge (grownCap_le_maxLen w _ old e h63) ?_ hkp g1 hk' g2 hf' g3 hfk' (fun i j hi hj => ?_) (fun i j hi hj => ?_) (fun i j e t fs f h1 h2 h3 h4=>hfr (g4 i j e t fs f h1 h2 h3 h4) fun b hb=>g5 b (mem_ff h3 h4 hb))
   fun i j e t fs f h1 h2 h3 h4=>hfr (hOW i j e t fs f h1 h2 h3 h4) fun b hb=>hltn b (mem_ff h3 h4 hb)
  ·simp only[Array.size_append,List.size_toArray,Gqj,size_zeroCells,Yl,hzc,←hkz,←Nat.add_mul]
   rw[Gxv]
   exact Nat.le_of_eq (by congr 1; omega)
  ·have h1:=flatV_at (val:=val) hi hj
   have h2:=Yo h1
   rw[Gxv,Array.getElem?_append_left (by simp only[List.size_toArray,Gqj]; omega)]
   simp only[List.getElem?_toArray]
   rw[Gqv h2]
   exact h1
  ·have h1:=flatV_at (val:=val') hi hj
   have h2:=Yo h1
   have h3:(es.length+i)*k+j=es.length*k+(i*k+j):=by rw[Nat.add_mul]; omega
   rw[Gxv,h3,Array.getElem?_append_left (by simp only[List.size_toArray,Gqj,Yl] at h2 ⊢; omega)]
   simp only[List.getElem?_toArray]
   rw[Gqz (by rw[Yl]; omega),Yl,Nat.add_sub_cancel_left]
   exact h1
 rcases h.open_ with ⟨rfl,rfl,rfl⟩ | ⟨b,o,c,tid,cur,fz,val,fps,rfl,rfl,hg,hzf,hc,hcm,hcs,hp,hk,hf,hfk,hv,ht⟩
 ·by_cases he':es'.length=0
  ·have he0:=List.eq_nil_of_length_eq_zero he'
   subst he0
   have hfe:fps' = []:=List.eq_nil_of_length_eq_zero (by simpa using hf')
   subst hfe
   exact⟨_,w,[],run_append_nil0 t tx ty e i hm.slice hi x _ hsrc,by simpa using h,hnd,fun b hb => .inl hb,J,J,J,Gqk _,fun _ _ _=>rfl⟩
  ·have hr:=run_append_grow_src (P:=P) w t tx ty e i z hm.slice hi hz2 none 0 0 [] (by simp[Builtin.firstCells]) x es'.length _ hsrc (by omega) (by simp[maxLen] at h63; omega) (growslice_fits (by omega) (by rw[hb1]; simpa using hb))
   have hg:=grown (fun _ _=>undef) [] 0 (by simp) rfl (by simp) (by simp) (by simp)
   have h0:flatV (fun _ _=>undef) 0 k = []:=by simp[flatV]
   simp only[List.length_nil,Gxv,List.nil_append,h0] at hg hr
   refine⟨_,_,w.heap.size::fps'.flatten.flatten,hr,by simpa using hg,?_,?_,J,J,J,by simp,fun b hb _=>Below.heap_alloc w.drew _ b hb⟩
   ·refine Gq9.2 ⟨fun hh => ?_,hnd'⟩
    have:=hltn _ hh
    omega
   ·intro b hb
    rcases List.mem_cons.1 hb with rfl | hb
    ·exact .inr (.inr (Gqk _))
    ·exact .inr (.inl hb)
 ·have hblt:b<w.heap.size:=(Array.getElem?_eq_some_iff.1 hg).1
  have hndf:=(Gq9.1 hnd)
  by_cases hroom:es.length+es'.length≤c
  ·have hmul:(es.length+es'.length)*k≤c*k:=Gxs _ hroom
   rw[Nat.add_mul] at hmul
   have hr:=run_append_room_src (P:=P) w t tx ty e i hm.slice hi b o es.length c x es'.length _ hsrc hroom (fun j hj=>by
    rw[cell_of_row w b _ cur tid fz hg]
    rw[Yl] at hj
    rw[hsk]
    simp
    omega) (fun j hj=>by
    rw[Yl] at hj
    rw[hsk]
    exact frozen_fz hg hzf (by omega))
   rw[hsk] at hr
   obtain⟨cur',k1,k2,k3,k4⟩:=Yq b tid fz (flatV val' es'.length k) (o+es.length*k) w cur hg (by rw[Yl]; omega)
   obtain⟨s1,s2,s3,s4,s5⟩:=Z4 w b (flatV val' es'.length k) (o+es.length*k)
   have hfr:∀ {t:T} {u:Value} {f:List Nat},OW w t u f→b∉f→OW (w.setCells b (o+es.length*k) (flatV val' es'.length k)) t u f :=
    fun h hl=>h.frame fun b' hb'=>s5 b' fun e=>hl (e▸hb')
   refine⟨_,_,_,hr,OW.join k1 (by rw[k2]; exact hzf) hroom hcm (by rw[k2]; exact hcs) hp hk hk' hf hf' hfk hfk' (fun i j hi hj => ?_) (fun i j hi hj => ?_) (fun i j e t fs f h1 h2 h3 h4=>hfr (ht i j e t fs f h1 h2 h3 h4) fun hh=>hndf.1 (mem_ff h3 h4 hh))
    (fun i j e t fs f h1 h2 h3 h4=>hfr (hOW i j e t fs f h1 h2 h3 h4) fun hh=>hdis b (by simp) (mem_ff h3 h4 hh)),?_,?_,s1,s2,s3,by omega,fun b'' _ hb''=>s5 b'' fun e=>hb'' (by simp[e])⟩
   ·have h1:=ij_lt hi hj
    rw[k4 _ (.inl (by omega))]
    exact hv i j hi hj
   ·have h1:=ij_lt hi hj
    have h3:o+(es.length+i)*k+j=o+es.length*k+(i*k+j):=by rw[Nat.add_mul]; omega
    rw[h3,k3 _ (by rw[Yl]; exact h1)]
    exact flatV_at hi hj
   ·refine Gq9.2 ⟨fun hh => ?_,?_⟩
    ·rw[Gqo,Gqo] at hh
     rcases Gqq.1 hh with hh | hh
     ·exact hndf.1 hh
     ·exact hdis b (by simp) hh
    ·rw[Gqo,Gqo]
     exact List.nodup_append.2 ⟨hndf.2,hnd',fun x hx y hy e=>hdis x (Gq4 _ hx) (e▸hy)⟩
   ·intro x hx
    rcases List.mem_cons.1 hx with rfl | hx
    ·exact .inl (by simp)
    ·rw[Gqo,Gqo] at hx
     rcases Gqq.1 hx with hx | hx
     ·exact .inl (Gq4 _ hx)
     ·exact .inr (.inl hx)
  ·have holds:∀ j u,(flatV val es.length k)[j]? = some u→w.drew.cell? ((⟨b,o,none⟩:Addr).add j)=some u:=by
    intro j u hj
    obtain⟨h1,h2,rfl,h3⟩:=flatV_get hj
    show w.cell? _=_
    rw[add_lit,cell_of_row w b (o+j) cur tid fz hg,←hv _ _ h1 h2,Nat.add_assoc,h3]
   have hr:=run_append_grow_src (P:=P) w t tx ty e i z hm.slice hi hz2 (some ⟨b,o,none⟩) es.length c (flatV val es.length k) (run_firstCells_some w.drew i.size es.length ⟨b,o,none⟩ es.length c _ (by rw[Yl,hsk]) holds) x es'.length _ hsrc (by omega) (by simp[maxLen] at h63; omega) (growslice_fits (by omega) (by rw[hb1]; exact hb))
   have h5:∀ x∈fps.flatten.flatten,x<w.heap.size:=by
    intro x hx
    exact h.lt x (Gq4 _ hx)
   refine⟨_,_,_,hr,grown val fps c hk hf hfk ht h5,?_,?_,J,J,J,by simp,fun b hb _=>Below.heap_alloc w.drew _ b hb⟩
   ·refine Gq9.2 ⟨fun hh => ?_,?_⟩
    ·rw[Gqo,Gqo] at hh
     rcases Gqq.1 hh with hh | hh
     ·have:=h5 _ hh; omega
     ·have:=hltn _ hh; omega
    ·rw[Gqo,Gqo]
     exact List.nodup_append.2 ⟨hndf.2,hnd',fun x hx y hy e=>hdis x (Gq4 _ hx) (e▸hy)⟩
   ·intro x hx
    rcases List.mem_cons.1 hx with rfl | hx
    ·exact .inr (.inr (Gqk _))
    ·rw[Gqo,Gqo] at hx
     rcases Gqq.1 hx with hx | hx
     ·exact .inl (Gq4 _ hx)
     ·exact .inr (.inl hx)

theorem src_slice {t e:TypeId} {zs:List Value} {by_:Nat} [hm:TyMake P t e zs by_] {k:Nat} (es':List (List T)) (val':Nat→Nat→Value) (A:Option Addr) (c':Nat)
  (hA:es' ≠ []→∃ b' o',A=some ⟨b',o',none⟩∧∀ i j,i<es'.length→j<k→w.cell? ⟨b',o'+i*k+j,none⟩=some (val' i j))
  (hOne:∀ i j,i<es'.length→j<k→(val' i j).oneCell'=true):Src P k t (.slice A es'.length c') es'.length (flatV val' es'.length k) w:=by
 have hone:∀ u∈flatV val' es'.length k,u.oneCell'=true:=by
  intro u hu
  obtain⟨q,hq⟩:=List.getElem?_of_mem hu
  obtain⟨h1,h2,rfl,_⟩:=flatV_get hq
  exact hOne _ _ h1 h2
 by_cases he:es' = []
 ·subst he
  have h0:flatV val' 0 k = []:=by simp[flatV]
  simp only[List.length_nil,h0]
  cases A with
  |none=>exact .ofNil w hm.slice c'
  |some a=>exact .ofSlice w hm.slice a 0 c' [] (by simp) (fun j u h=>by simp at h) (fun u h=>by simp at h)
 ·obtain⟨b',o',rfl,hc⟩:=hA he
  refine .ofSlice w hm.slice _ _ c' _ (Yl _ _ _) (fun j u hj => ?_) hone
  obtain⟨h1,h2,rfl,h3⟩:=flatV_get hj
  rw[add_lit,←hc _ _ h1 h2,Nat.add_assoc,h3]
end
end
section
open Go.RowKit

def V1.known:V1→Bool
 | .un=>false
 |_=>true
theorem V1.known_ne {x:V1} (h:x.known=true):x ≠ .un:=by cases x <;> simp[V1.known] at h ⊢
def zV (v:Value):V1 := .rd [] (.v v)

section
variable {P:Program} {E:Env} {ops:Array Oper} {o:Oper} {st:St} {n:Nat} {rest:List Oper} {QQ:Exit→St→Prop} {w w':World} {H H':Hs} {F:Nat→Prop} {a:Act}

theorem Ok.add (h:Ok w H F) (hb:Below w.heap.size w w') {p:Nat} (hp:H p = .nil) (q:Pc) (hs:q.says w') (hn:q.fp.Nodup) (hng:q.ng) (hf:∀ b∈q.fp,w.heap.size≤b):Ok w' (H.put p q) F∧Grow w H F w' (H.put p q) F:=by
 have hne:∀ r,r≠p→H.put p q r=H r:=fun r hr=>Hs.put_ne H q hr
 refine⟨⟨fun r => ?_,fun r => ?_,fun r s b h1 h2 => ?_,fun r b h1 h2 => ?_,fun b hb'=>Gxm (h.flt b hb') hb.size⟩,hb,fun r hr=>hne r fun e=>hr (e▸hp),fun _ h=>h,fun _ h => .inl h,fun r hr b hb' => ?_,fun r i v hr => ?_⟩
 ·by_cases e:r=p
  ·subst e; rw[Hs.put_self]; exact hs
  ·rw[hne r e]; exact Pc.frame (fun b hb'=>hb.block b (h.lt hb')) (h.says r)
 ·by_cases e:r=p
  ·subst e; rw[Hs.put_self]; exact hn
  ·rw[hne r e]; exact h.nodup r
 ·by_cases e:r=p
  ·by_cases e':s=p
   ·rw[e,e']
   ·rw[e,Hs.put_self] at h1
    rw[hne s e'] at h2
    have:=hf b h1
    have:=h.lt h2
    omega
  ·rw[hne r e] at h1
   by_cases e':s=p
   ·rw[e',Hs.put_self] at h2
    have:=hf b h2
    have:=h.lt h1
    omega
   ·rw[hne s e'] at h2
    exact h.disj r s b h1 h2
 ·by_cases e:r=p
  ·rw[e,Hs.put_self] at h1
   have:=hf b h1
   have:=h.flt b h2
   omega
  ·rw[hne r e] at h1
   exact h.free r b h1 h2
 ·by_cases e:r=p
  ·rw[e,Hs.put_self] at hb'; exact hf b hb'
  ·rw[hne r e,hr] at hb'
   simp[Pc.fp] at hb'
 ·by_cases e:r=p
  ·rw[e,Hs.put_self] at hr
   rw[hr] at hng
   exact hng.elim
  ·exact⟨r,by rw[←hne r e]; exact hr⟩

theorem Qt.new {x:V} {ob:Ob} (hg:o.guard=none) (h:∀ a w H F,R0 w H F st a→H n = .nil→∃ v w' q,(execOp a.eval o).run P w = .ok (.value v) w'∧Below w.heap.size w w'∧q.says w'∧(q.fp.Nodup∧q.ng)∧(∀ b∈q.fp,w.heap.size≤b) ∧
  (∀ H',Grow w H F w' H' F→H' n=q→RB w' H' F n ob∧RV w' H' F x v)):Qt P ops o st x [ob] n:=by
 refine⟨fun a w H F Q K hr hfree hK => ?_⟩
 have hn:H n = .nil:=by simpa using hfree 0 (by simp)
 obtain⟨v,w',q,h1,h2,h3,h4,h5,h6⟩:=h a w H F hr hn
 obtain⟨hok,hgr⟩:=hr.ok.add h2 hn q h3 h4.1 h4.2 h5
 obtain⟨h7,h8⟩:=h6 _ hgr (Hs.put_self H n q)
 rw[if_pos (by unfold Region.wanted; rw[hg])]
 unfold Oper.wp
 rw[h1]
 refine hK v w' _ F hgr hok (fun i ob' hi => ?_) (fun p hp hh => ?_) h8
 ·cases i with
  |zero=>simp at hi; subst hi; exact h7
  |succ i=>simp at hi
 ·rw[Hs.put_ne H q (by simp only[Gqr,List.length_nil] at hh; omega),hp]

section
variable {y z:Operand} {t t':TypeId} {k:IntKind} {i j:Int} {ps qs:List Nat}

theorem Qq {xs:List V1} (ho:o.op = .box t y) (hg:o.guard=none) (hy:st.ev y = .o (.ag xs)) (hk:xs.all V1.known=true):Qt P ops o st (.o (.c (.ptr n 0))) [.box xs] n :=
 .new hg fun a w H F hr hn=>by
  have h1:=hr.ev y
  rw[hy] at h1
  obtain⟨us,e,hl,hc⟩:=h1
  refine⟨.pointer (some ⟨w.heap.size,0,none⟩),w.alloc (.cells us.toArray t),.box w.heap.size t us,?_,(Below.refl _ _).alloc (Gqk _) _,heap_alloc_new w _,by simp[Pc.fp,Pc.ng],fun b hb=>by simp[Pc.fp] at hb; omega,fun H' hgr hq=>⟨⟨_,_,_,hq,hl,fun i c u hi hu=>⟨hgr.r1 (hc i c u hi hu),?_⟩⟩,_,_,_,hq,J⟩⟩
  ·unfold execOp
   simp only[ho,e]
   rfl
  ·exact R1.one (V1.known_ne (Gql.1 hk c (Yp hi))) hr.ok (hc i c u hi hu)
theorem Qx {zs:List Value} [hz:TyZero P t zs] (ho:o.op = .alloc t) (hg:o.guard=none) (h1:zs.all (·.oneCell')=true):Qt P ops o st (.o (.c (.ptr n 0))) [.box (zs.map zV)] n :=
 .new hg fun a w H F hr hn=>by
  obtain⟨zv,hzv,hzc⟩:=run_zeroValue (P:=P) (w:=w) t (zs:=zs)
  refine⟨.pointer (some ⟨w.heap.size,0,none⟩),w.alloc (.cells zs.toArray t),.box w.heap.size t zs,?_,(Below.refl _ _).alloc (Gqk _) _,heap_alloc_new w _,by simp[Pc.fp,Pc.ng],fun b hb=>by simp[Pc.fp] at hb; omega,fun H' hgr hq=>⟨⟨_,_,_,hq,by simp,fun i c u hi hu => ?_⟩,_,_,_,hq,J⟩⟩
  ·unfold execOp
   simp only[ho,Instr.alloc,Sem.run_bind,hzv,Result.andThen_ok,newVar,newRow,hzc]
   rfl
  ·rw[Gqh] at hi
   obtain⟨z,h2,rfl⟩:=Option.map_eq_some_iff.1 hi
   rw[h2] at hu
   simp only[Option.some.injEq] at hu
   subst hu
   have h3:=Gql.1 h1 z (Yp h2)
   exact⟨RO.v _ h3,h3⟩

def zT (k:Nat):Value→T
 | .slice none 0 0 => .sl k []
 |v => .v v
theorem ow_zT {w:World} {k:Nat} {v:Value} (h:v.oneCell'=true):OW w (zT k v) v []:=by
 unfold zT
 split
 ·exact .nil k
 ·exact .v _ h
theorem q_makec {e:TypeId} {zs:List Value} {by_:Nat} [hm:TyMake P t e zs by_] {k':IntKind} (kk:Nat) (ho:o.op = .makeSlice t y z) (hg:o.guard=none) (hy:st.ev y = .o (.c (.rd ps (.v (.int k i))))) (hz:st.ev z = .o (.c (.rd qs (.v (.int k' j)))))
  (h0:0≤i) (hij:i≤j) (hb:(by_:Int)*j≤281474976710656) (h63:j≤9223372036854775807) (h1:zs.all (·.oneCell')=true) (hz0:zs ≠ []):Qt P ops o st (.o (.c (.ref n))) [.row zs.length (List.replicate i.toNat (zs.map (zT kk)))] n :=
 .new hg fun a w H F hr hn=>by
  obtain⟨inf,hi,hzz⟩:=Option.map_eq_some_iff.1 hm.info
  simp only[Prod.mk.injEq] at hzz
  obtain⟨hz1,hs,hb1⟩:=hzz
  obtain⟨zv,hz2,hz3⟩:=Option.map_eq_some_iff.1 hz1
  have hr':=run_make (P:=P) w t e inf zv hm.slice hi hz2 k k' i j h0 hij (by rw[hb1]; exact hb) h63
  have hzp:0<zs.length:=Gxo.2 hz0
  have hzc:zv.cells.size=zs.length:=by rw[←hz3]; simp
  have hlen:(List.replicate i.toNat (zs.map (zT kk))).length=i.toNat:=by simp
  have hnt:i.toNat≤j.toNat:=by omega
  have hnm:i.toNat*zs.length≤j.toNat*zs.length:=Gxs _ hnt
  refine⟨.slice (some ⟨w.heap.size,0,none⟩) i.toNat j.toNat,w.alloc (.cells (madeCells zv.cells (j.toNat*inf.size)) e),.ow (.sl zs.length (List.replicate i.toNat (zs.map (zT kk)))) (.slice (some ⟨w.heap.size,0,none⟩) i.toNat j.toNat) (w.heap.size::(List.replicate i.toNat (List.replicate zs.length [])).flatten.flatten),?_,(Below.refl _ _).alloc (Gqk _) _,?_,?_,?_,fun H' hgr hq=>⟨⟨_,_,hq⟩,_,_,hq⟩⟩
  ·unfold execOp
   simp only[ho,hr.plain hy,hr.plain hz,Sem.run_bind,hr',Result.andThen_ok]
   rfl
  ·have:=OW.sl (w:=w.alloc (.cells (madeCells zv.cells (j.toNat*inf.size)) e)) (List.replicate i.toNat (zs.map (zT kk))) w.heap.size 0 zs.length j.toNat e (madeCells zv.cells (j.toNat*inf.size)) (0,0) (fun _ j=>zs.getD j undef) (List.replicate i.toNat (List.replicate zs.length [])) (heap_alloc_new w _) (.inl rfl)
    (by simp; omega) (by simp[maxLen]; omega) (by rw[size_madeCells,hs]; omega) hzp (fun e he=>by rw[(List.mem_replicate.1 he).2]; simp) (by simp) (fun f hf=>by rw[(List.mem_replicate.1 hf).2]; simp) (fun p q hp hq => ?_) (fun p q e' t fs f h3 h4 h5 h6 => ?_)
   ·rw[hlen] at this; exact this
   ·rw[hlen] at hp
    have h3:p*zs.length+q<j.toNat*zs.length:=Gxm (ij_lt hp hq) hnm
    have h4:=ij_div (i:=p) hq
    have h5:zv.cells[q]? = zs[q]? := by rw[←hz3]; simp
    simp only[madeCells,Gxv,hs,hzc]
    rw[Array.getElem?_map,Array.getElem?_range,if_pos h3]
    simp only[Gqs,h4.2,Gqc,Gqe hq,Option.getD_some]
    rw[Gqe hq] at h5
    exact congrArg some (by rw[getElem!_def,h5])
   ·rw[(List.mem_replicate.1 (Yp h3)).2] at h4
    rw[(List.mem_replicate.1 (Yp h5)).2] at h6
    rw[Gqh] at h4
    obtain⟨u,h7,rfl⟩:=Option.map_eq_some_iff.1 h4
    have h8:=(List.mem_replicate.1 (Yp h6)).2
    subst h8
    rw[Yn h7]
    exact ow_zT (Gql.1 h1 u (Yp h7))
  ·have:(List.replicate i.toNat (List.replicate zs.length ([]:List Nat))).flatten.flatten = []:=by simp
   refine⟨?_,trivial⟩
   show (w.heap.size::_).Nodup
   rw[this]
   simp
  ·intro b hb
   have:(List.replicate i.toNat (List.replicate zs.length ([]:List Nat))).flatten.flatten = []:=by simp
   simp only[Pc.fp,this,Gxr] at hb
   omega
theorem q_make {e:TypeId} {zs:List Value} {by_:Nat} [hm:TyMake P t e zs by_] {k':IntKind} (kk:Nat) (ho:o.op = .makeSlice t y z) (hg:o.guard=none) (hy:st.ev y = .o (.c (.rd ps (.v (.int k i))))) (hz:st.ev z = .o (.c (.rd qs (.v (.int k' i)))))
  (h0:0≤i) (hb:(by_:Int)*i≤281474976710656) (h63:i≤9223372036854775807) (h1:zs.all (·.oneCell')=true) (hz0:zs ≠ []):Qt P ops o st (.o (.c (.ref n))) [.row zs.length (List.replicate i.toNat (zs.map (zT kk)))] n :=
 q_makec kk ho hg hy hz h0 (Int.le_refl _) hb h63 h1 hz0
end

/-! ### Calls -/
class FunOk (P:Program) (f:FuncId):Prop where
 ok : (P.funcs[f]?).map (fun fn => !(fn.name == "runtime.NumGoroutine") && fn.body.isSome) = some true
theorem run_callFunc {f:FuncId} [hf:FunOk P f] (args:Array Value):(callFunc f args).run P w = .ok (.enter f args) w:=by
 obtain⟨fn,h1,h2⟩:=Option.map_eq_some_iff.1 hf.ok
 simp only[Gqg,Gq6] at h2
 obtain⟨h3,h4⟩:=h2
 obtain⟨c,h5⟩:=Option.isSome_iff_exists.1 h4
 have h6 : ¬ fn.name = "runtime.NumGoroutine" := by simpa using h3
 simp[callFunc,h1,h6,h5]

def sbE:List V1→Option (List (List T))
 | []=>some []
 | .rd _ (.v u)::r=>match sbE r with
  |some es=>some ([.v u]::es)
  |none=>none
 |_=>none
theorem sbE_ok:∀ (cs:List V1) (es:List (List T)),sbE cs=some es→es.length=cs.length∧∀ (i:Nat) (e:List T),es[i]? = some e→∃ ps u,cs[i]? = some (.rd ps (.v u))∧e = [.v u]
 | [],es,h=>by simp[sbE] at h; subst h; exact⟨rfl,fun i e hi=>by simp at hi⟩
 | c::cs,es,h=>by
  unfold sbE at h
  split at h
  ·rename_i e; cases e
  ·rename_i ps u r e
   simp only[List.cons.injEq] at e
   obtain⟨rfl,rfl⟩:=e
   split at h
   ·rename_i es' h1
    simp only[Option.some.injEq] at h
    subst h
    obtain⟨h2,h3⟩:=sbE_ok cs es' h1
    refine⟨by simp[h2],fun i e hi => ?_⟩
    cases i with
    |zero=>simp at hi; exact⟨ps,u,rfl,hi.symm⟩
    |succ i=>exact h3 i e (by simpa using hi)
   ·cases h
  ·cases h
def sbA:List V1→Option (List (List T))
 | []=>some []
 | .rd _ t::r=>match sbA r with
  |some es=>some ([t]::es)
  |none=>none
 |_=>none
theorem sbA_ok:∀ (cs:List V1) (es:List (List T)),sbA cs=some es→es.length=cs.length∧∀ (i:Nat) (e:List T),es[i]? = some e→∃ ps t,cs[i]? = some (.rd ps t)∧e = [t]
 | [],es,h=>by simp[sbA] at h; subst h; exact⟨rfl,fun i e hi=>by simp at hi⟩
 | c::cs,es,h=>by
  unfold sbA at h
  split at h
  ·rename_i e; cases e
  ·rename_i ps u r e
   simp only[List.cons.injEq] at e
   obtain⟨rfl,rfl⟩:=e
   split at h
   ·rename_i es' h1
    simp only[Option.some.injEq] at h
    subst h
    obtain⟨h2,h3⟩:=sbA_ok cs es' h1
    refine⟨by simp[h2],fun i e hi => ?_⟩
    cases i with
    |zero=>simp at hi; exact⟨ps,u,rfl,hi.symm⟩
    |succ i=>exact h3 i e (by simpa using hi)
   ·cases h
  ·cases h
theorem sbA_of:∀ (cs:List V1) (es:List (List T)),sbE cs=some es→sbA cs=some es
 | [],es,h=>h
 | c::cs,es,h=>by
  unfold sbE at h
  split at h
  ·rename_i e; cases e
  ·rename_i ps u r e
   simp only[List.cons.injEq] at e
   obtain⟨rfl,rfl⟩:=e
   split at h
   ·rename_i es' h1
    rw[sbA,sbA_of cs es' h1]
    exact h
   ·cases h
  ·cases h
def lend (objs:List Ob):V1→V1
 | .rd _ x => .rd [] x
 | .ref p=>match objs.getD p .gone with
  | .row k es => .rd [] (.sl k es)
  |_ => .un
 | .sb p _ 1=>match objs.getD p .gone with
  | .box cs=>match sbA cs with
   |some es => .rd [] (.sl 1 es)
   |none => .un
  |_ => .un
 |_ => .un
def lend2 (objs:List Ob):V→V2
 | .o (.c x) => .c (lend objs x)
 | .o (.ag xs) => .ag (xs.map (lend objs))
 | .tu _ => .c .un
 | .iff _ _ => .c .un
def V1.closed:V1→Bool
 | .rd _ (.sl _ _)=>false
 | .rp _ _=>false
 | .un=>true
 |_=>true
def V2.closed:V2→Bool
 | .c x=>x.closed
 | .ag xs=>xs.all V1.closed
def V.closed:V→Bool
 | .o x=>x.closed
 | .tu xs=>xs.all V2.closed
 | .iff _ x=>x.closed
def Ob.closed:Ob→Bool
 | .box cs=>cs.all V1.closed
 | .gh _ _=>false
 | .shr _=>false
 |_=>true

def sub (H H1:Hs) (n m:Nat):Hs:=fun p=>if n≤p∧p<n+m then H1 (p-n) else H p

theorem lend_ok {H1:Hs} (h:R0 w H F st a) {x:V1} {v:Value} (hx:R1 w H F x v):R1 w H1 (fun b=>b<w.heap.size) (lend st.objs x) v:=by
 cases x with
 |rd ps x=>exact RO.weak hx fun b _ hb => .inl hb
 | ref p =>
  have h1:=h.obs p
  simp only[lend]
  cases ho:st.objs.getD p .gone with
  |row k es =>
   rw[ho] at h1
   obtain⟨u,fp,e⟩:=h1
   obtain⟨x,fp',e'⟩:=hx
   have h2:=h.ok.says p
   rw[e] at h2 e'
   simp only[Pc.ow.injEq] at e'
   obtain⟨_,rfl,_⟩:=e'
   exact RO.weak (OW.ro h2) fun b _ hb => .inl hb
  |gone=>trivial
  |hole=>trivial
  |box cs=>trivial
  |gh i x=>trivial
  |shr es=>trivial
  |bl=>trivial
 |ptr=>trivial
 | sb p n' k =>
  unfold lend
  split
  ·rename_i e; cases e
  ·rename_i e; cases e
  ·rename_i p' n'' e
   simp only[V1.sb.injEq] at e
   obtain⟨rfl,rfl,rfl⟩:=e
   split
   ·rename_i cs ho
    split
    ·rename_i es hs
     obtain⟨g,t,vs,e1,e2,e3,rfl⟩:=hx
     have h1:=h.obs p
     rw[ho] at h1
     obtain⟨g',t',vs',e4,hl,hr⟩:=h1
     rw[e1] at e4
     simp only[Pc.box.injEq] at e4
     obtain⟨rfl,rfl,rfl⟩:=e4
     have hsay:=h.ok.says p
     rw[e1] at hsay
     obtain⟨k1,k2⟩:=sbA_ok _ _ hs
     have hlen:es.length=n':=by rw[k1,←hl,e2,Nat.mul_one]
     rw[←hlen]
     refine .sl es g 0 1 es.length (fun i _=>vs.getD i undef) (.inl ?_) (Gqk _) (by rw[hlen]; exact e3) (by omega) (fun e he => ?_) (fun i j hi hj => ?_) fun i j e t' hi hj => ?_
     ·exact (Array.getElem?_eq_some_iff.1 hsay).1
     ·obtain⟨i,hi⟩:=List.getElem?_of_mem he
      obtain⟨_,_,_,k4⟩:=k2 i e hi
      rw[k4]; rfl
     ·have hj0:j=0:=by omega
      subst hj0
      have hlt:i<vs.length:=by rw[hl,←k1]; exact hi
      rw[cell_of_row w g _ vs.toArray t (0,0) hsay]
      simp[Gqc,hlt]
     ·obtain⟨ps,u,k3,k4⟩:=k2 i e hi
      subst k4
      cases j with
      |succ j=>simp at hj
      |zero =>
       simp only[Gxa,Option.some.injEq] at hj
       subst hj
       have hlt:i<vs.length:=by rw[hl]; exact Yo k3
       obtain⟨k5,k6⟩:=hr i _ _ k3 (Gqe hlt)
       rw[Yn (Gqe hlt)]
       exact RO.weak k5 fun b _ hb => .inl hb
    ·trivial
   ·trivial
  ·trivial
 |el=>trivial
 |rp=>trivial
 |le=>trivial
 |hd=>trivial
 |tl=>trivial
 |un=>trivial
theorem lend2_ok {H1:Hs} (h:R0 w H F st a) {x:V} {v:Value} (hx:RV w H F x v):R2 w H1 (fun b=>b<w.heap.size) (lend2 st.objs x) v:=by
 cases x with
 | o x=>cases x with
  |c x=>exact lend_ok h hx
  |ag xs =>
   obtain⟨us,e,hl,hc⟩:=hx
   refine⟨us,e,by simpa using hl,fun i x u hi hu => ?_⟩
   rw[Gqh] at hi
   obtain⟨c,h1,rfl⟩:=Option.map_eq_some_iff.1 hi
   exact lend_ok h (hc i c u h1 hu)
 |tu=>trivial
 |iff=>trivial

section
variable {H1:Hs} {F1:Nat→Prop} {m:Nat}
theorem sub_in {q:Nat} (hq:q<m):sub H H1 n m (n+q)=H1 q:=by
 unfold sub
 rw[if_pos (by omega)]
 congr 1
 omega
theorem plant1 (hm:∀ q,m≤q→H1 q = .nil) {x:V1} {v:Value} (hc:x.closed=true) (hx:R1 w H1 F1 x v):R1 w (sub H H1 n m) F (x.ren (n+·)) v:=by
 have hlt:∀ q,H1 q ≠ .nil→q<m:=fun q hq=>(Gqn q m).resolve_right fun h=>hq (hm q h)
 cases x with
 |rd ps x =>
  cases x with
  |v x=>obtain⟨rfl,h⟩:=RO.plain hx; exact RO.v _ h
  |sl k es=>simp[V1.closed] at hc
  |un=>exact RO.un _ (RO.one hx)
  |bl=>exact RO.bl _ _ _ _ (RO.one hx)
 |ref q=>obtain⟨x,fp,e⟩:=hx; exact⟨x,fp,by rw[sub_in (hlt q (by rw[e]; simp)),e]⟩
 |ptr q i=>obtain⟨g,t,vs,e,hv⟩:=hx; exact⟨g,t,vs,by rw[sub_in (hlt q (by rw[e]; simp)),e],hv⟩
 |sb q i j=>obtain⟨g,t,vs,e,hv⟩:=hx; exact⟨g,t,vs,by rw[sub_in (hlt q (by rw[e]; simp)),e],hv⟩
 |el q k i j=>obtain⟨b,o,n',c,x,fp,e,hv⟩:=hx; exact⟨b,o,n',c,x,fp,by rw[sub_in (hlt q (by rw[e]; simp)),e],hv⟩
 |rp=>simp[V1.closed] at hc
 |le q k i j=>obtain⟨b,o,n',c,x,fp,e,hv⟩:=hx; exact⟨b,o,n',c,x,fp,by rw[sub_in (hlt q (by rw[e]; simp)),e],hv⟩
 |hd q i=>obtain⟨A,m',c,x,fp,e,hv⟩:=hx; exact⟨A,m',c,x,fp,by rw[sub_in (hlt q (by rw[e]; simp)),e],hv⟩
 |tl q k i=>obtain⟨A,A',m',c,x,fp,e,hv⟩:=hx; exact⟨A,A',m',c,x,fp,by rw[sub_in (hlt q (by rw[e]; simp)),e],hv⟩
 |un=>trivial
theorem plant2 (hm:∀ q,m≤q→H1 q = .nil) {x:V2} {v:Value} (hc:x.closed=true) (hx:R2 w H1 F1 x v):R2 w (sub H H1 n m) F (x.ren (n+·)) v:=by
 cases x with
 |c x=>exact plant1 hm hc hx
 |ag xs =>
  obtain⟨us,e,hl,hr⟩:=hx
  refine⟨us,e,by simpa using hl,fun i x u hi hu => ?_⟩
  rw[Gqh] at hi
  obtain⟨c,h1,rfl⟩:=Option.map_eq_some_iff.1 hi
  exact plant1 hm (Gql.1 hc c (Yp h1)) (hr i c u h1 hu)
theorem plantV (hm:∀ q,m≤q→H1 q = .nil) {x:V} {v:Value} (hc:x.closed=true) (hx:RV w H1 F1 x v):RV w (sub H H1 n m) F (x.ren (n+·)) v:=by
 cases x with
 |o x=>exact plant2 hm hc hx
 |tu xs =>
  obtain⟨us,e,hl,hr⟩:=hx
  refine⟨us,e,by simpa using hl,fun i x u hi hu => ?_⟩
  rw[Gqh] at hi
  obtain⟨c,h1,rfl⟩:=Option.map_eq_some_iff.1 hi
  exact plant2 hm (Gql.1 hc c (Yp h1)) (hr i c u h1 hu)
 |iff cs x=>exact⟨fun h=>plant2 hm hc (hx.1 h),hx.2⟩
theorem plantB (hm:∀ q,m≤q→H1 q = .nil) {ob:Ob} {q:Nat} (hq:q<m) (hc:ob.closed=true) (hx:RB w H1 F1 q ob):RB w (sub H H1 n m) F (n+q) (ob.ren (n+·)):=by
 cases ob with
 |gone=>exact (sub_in hq).trans hx
 |hole=>trivial
 |box cs =>
  obtain⟨g,t,vs,e,hl,hr⟩:=hx
  refine⟨g,t,vs,(sub_in hq).trans e,by simpa using hl,fun i c u hi hu => ?_⟩
  rw[Gqh] at hi
  obtain⟨c',h1,rfl⟩:=Option.map_eq_some_iff.1 hi
  exact⟨plant1 hm (Gql.1 hc c' (Yp h1)) (hr i c' u h1 hu).1,(hr i c' u h1 hu).2⟩
 |row k es=>obtain⟨v,fp,e⟩:=hx; exact⟨v,fp,(sub_in hq).trans e⟩
 |gh i x=>simp[Ob.closed] at hc
 |shr es=>simp[Ob.closed] at hc
 |bl=>obtain⟨v,fp,e⟩:=hx; exact⟨v,fp,(sub_in hq).trans e⟩
end

theorem call_at {f:FuncId} [hf:FunOk P f] {ass:Array Operand} {ts:Array TypeId} {args:List V2} {objs':List Ob} {res:V} {a:Act} {w:World} {H:Hs} {F:Nat→Prop} {Q:Exit→Act→World→Prop} {K:Act→World→Prop} (ho:o.op = .call { callee := .value (.func f),args:=ass,argTypes:=ts }) (hg:o.guard=none)
  (hc:ConAt P f [] args objs' res w) (ha:ass.toList.map (fun y=>lend2 st.objs (st.ev y))=args) (hcl:res.closed=true) (hob:objs'.all Ob.closed=true) (hr:R0 w H F st a) (hfree:∀ i,i<(objs'.map (Ob.ren (n+·))).length→H (n+i) = .nil)
  (hK:∀ v w' H' F',Grow w H F w' H' F'→Ok w' H' F'→(∀ i ob,(objs'.map (Ob.ren (n+·)))[i]? = some ob→RB w' H' F' (n+i) ob)→(∀ p,H p = .nil→(p<n∨n+(objs'.map (Ob.ren (n+·))).length≤p)→H' p = .nil)→RV w' H' F' (res.ren (n+·)) v→K (a.put o.dst v) w') :
  if Region.wanted o (yielded ops a.tmps)=true then o.wp P a w K Q else K (a.put o.dst undef) w:=by
 rw[if_pos (by unfold Region.wanted; rw[hg])]
 have hrun:(execOp a.eval o).run P w = .ok (.enter f (ass.toList.map a.eval).toArray) w:=by
  unfold execOp
  simp only[ho,resolve,Act.eval,Deferred.ofValue,Sem.run_bind,Sem.run_pure,Result.andThen_ok,invoke]
  rw[show (#[]++ass.map a.eval++#[])=(ass.toList.map a.eval).toArray by
   apply Array.ext'
   simp]
  exact run_callFunc _
 unfold Oper.wp
 rw[hrun]
 have hok1:Ok w (fun _=>Pc.nil) (fun b=>b<w.heap.size):=⟨fun _=>trivial,fun _=>by simp[Pc.fp],fun p q b h=>by simp[Pc.fp] at h,fun p b h=>by simp[Pc.fp] at h,fun _ h=>h⟩
 refine (hc (fun _ => .nil) (fun b=>b<w.heap.size) (ass.toList.map a.eval) hok1 (fun p=>by simp[RB]) (by rw[←ha]; simp) fun i x v hx hv => ?_).mono ?_
 ·rw[←ha,Gqh] at hx
  obtain⟨y,h1,rfl⟩:=Option.map_eq_some_iff.1 hx
  rw[Gqh,h1] at hv
  simp only[Gqs,Option.some.injEq] at hv
  subst hv
  exact lend2_ok hr (hr.ev y)
 ·rintro e w' ⟨H1,F1,rv,rfl,hsi,hok,hobs,hres⟩
  have hbel:Below w.heap.size w w':=⟨hsi.os,hsi.tape,hsi.output,hsi.size,fun b hb=>hsi.keep b hb fun p=>by simp[Pc.fp]⟩
  have hnew:∀ q b,b∈(H1 q).fp→w.heap.size≤b:=fun q b hb=>by
   rcases hsi.org q b hb with ⟨q',h⟩ | h
   ·simp[Pc.fp] at h
   ·exact h
  have hm:∀ q,objs'.length≤q→H1 q = .nil:=fun q hq=>by
   have:=hobs q
   simpa[Gqc,hq,RB] using this
  have hst:∀ p,(n≤p∧p<n+objs'.length)→H p = .nil:=fun p hp=>by
   have:=hfree (p-n) (by simp; omega)
   rwa[show n+(p-n)=p by omega] at this
  have hcase:∀ p,(n≤p∧p<n+objs'.length)∧sub H H1 n objs'.length p=H1 (p-n)∨¬(n≤p∧p<n+objs'.length)∧sub H H1 n objs'.length p=H p:=fun p=>by
   unfold sub
   by_cases h:n≤p∧p<n+objs'.length
   ·rw[if_pos h]; exact .inl ⟨h,rfl⟩
   ·rw[if_neg h]; exact .inr ⟨h,rfl⟩
  refine hK rv w' (sub H H1 n objs'.length) F ⟨hbel,fun p hp => ?_,fun _ h=>h,fun _ h => .inl h,fun p hp b hb => ?_,fun p i v hp => ?_⟩ ⟨fun p => ?_,fun p => ?_,fun p q b h1 h2 => ?_,fun p b h1 h2 => ?_,fun b hb=>Gxm (hr.ok.flt b hb) hsi.size⟩ (fun i ob hi => ?_) (fun p hp hh => ?_) (plantV hm hcl hres)
  ·rcases hcase p with ⟨h,e⟩ | ⟨h,e⟩
   ·exact absurd (hst p h) hp
   ·exact e
  ·rcases hcase p with ⟨h,e⟩ | ⟨h,e⟩
   ·rw[e] at hb; exact hnew _ b hb
   ·rw[e,hp] at hb; simp[Pc.fp] at hb
  ·rcases hcase p with ⟨h,e⟩ | ⟨h,e⟩
   ·obtain⟨q,hq⟩:=hsi.gh _ i v (e▸hp); cases hq
   ·exact⟨p,e▸hp⟩
  ·rcases hcase p with ⟨h,e⟩ | ⟨h,e⟩
   ·rw[e]; exact hok.says _
   ·rw[e]; exact Pc.frame (fun b hb=>hbel.block b (hr.ok.lt hb)) (hr.ok.says p)
  ·rcases hcase p with ⟨h,e⟩ | ⟨h,e⟩
   ·rw[e]; exact hok.nodup _
   ·rw[e]; exact hr.ok.nodup p
  ·rcases hcase p with ⟨h,e⟩ | ⟨h,e⟩ <;> rcases hcase q with ⟨h',e'⟩ | ⟨h',e'⟩ <;> rw[e] at h1 <;> rw[e'] at h2
   ·have:=hok.disj _ _ b h1 h2; omega
   ·have:=hnew _ b h1; have:=hr.ok.lt h2; omega
   ·have:=hnew _ b h2; have:=hr.ok.lt h1; omega
   ·exact hr.ok.disj p q b h1 h2
  ·rcases hcase p with ⟨h,e⟩ | ⟨h,e⟩ <;> rw[e] at h1
   ·have:=hnew _ b h1; have:=hr.ok.flt b h2; omega
   ·exact hr.ok.free p b h1 h2
  ·rw[Gqh] at hi
   obtain⟨ob',h1,rfl⟩:=Option.map_eq_some_iff.1 hi
   have h2:=hobs i
   rw[Yn h1] at h2
   exact plantB hm (Yo h1) (Gql.1 hob ob' (Yp h1)) h2
  ·rcases hcase p with ⟨h,e⟩ | ⟨h,e⟩
   ·simp only[List.length_map] at hh; omega
   ·rw[e,hp]
theorem Zc {f:FuncId} [hf:FunOk P f] {ass:Array Operand} {ts:Array TypeId} {args:List V2} {objs':List Ob} {res:V} (ho:o.op = .call { callee := .value (.func f),args:=ass,argTypes:=ts }) (hg:o.guard=none)
  (hc:Con P f [] args objs' res) (ha:ass.toList.map (fun y=>lend2 st.objs (st.ev y))=args) (hcl:res.closed=true) (hob:objs'.all Ob.closed=true):Qt P ops o st (res.ren (n+·)) (objs'.map (Ob.ren (n+·))) n :=
 ⟨fun a w H F Q K hr hfree hK=>call_at ho hg (hc w) ha hcl hob hr hfree hK⟩
end
end
end Go.Proofs.YtpmacgnmlmmojaaGreatDoor
