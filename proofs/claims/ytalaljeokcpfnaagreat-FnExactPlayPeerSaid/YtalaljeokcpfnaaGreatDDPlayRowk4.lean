/-
  Owned slices that grow: what append does to them. No statement of the program is proved here.
  Conditions: none.
-/
import Derived.Laws.MakeOwn
import Derived.Deep.AppendSrc
import Derived.Test.YtalaljeokcpfnaaGreatDDPlayRowk3
set_option linter.unusedSimpArgs false
set_option linter.unusedVariables false
namespace Go.Proofs.YtalaljeokcpfnaaGreat
section
open Go.RowKit

def flatV (val:Nat→Nat→Value) (n k:Nat):List Value:=(List.range (n*k)).map fun q=>val (q/k) (q%k)
theorem Zh (val:Nat→Nat→Value) (n k:Nat):(flatV val n k).length=n*k:=by simp[flatV]
theorem ij_lt {n k i j:Nat} (hi:i<n) (hj:j<k):i*k+j<n*k:=by
 have h1:(i+1)*k≤n*k:=Gx0 k hi
 rw[Nat.succ_mul] at h1
 omega
theorem ij_div {k i j:Nat} (hj:j<k):(i*k+j)/k=i∧(i*k+j)%k=j:=by
 constructor
 ·rw[Nat.mul_comm,Nat.mul_add_div Aqa,Nat.div_eq_of_lt hj,Gx5]
 ·rw[Nat.mul_comm,Nat.mul_add_mod,Nat.mod_eq_of_lt hj]
theorem flatV_at {val:Nat→Nat→Value} {n k i j:Nat} (hi:i<n) (hj:j<k):(flatV val n k)[i*k+j]? = some (val i j):=by
 simp[flatV,ij_lt hi hj,ij_div hj]
theorem flatV_get {val:Nat→Nat→Value} {n k q:Nat} {u:Value} (h:(flatV val n k)[q]? = some u):q/k<n∧q%k<k∧u=val (q/k) (q%k)∧q/k*k+q%k=q:=by
 have h1:=Zj h
 rw[Zh] at h1
 have hk:0<k:=by
  rcases Nat.eq_zero_or_pos k with rfl | h
  ·simp at h1
  ·exact h
 refine⟨Nat.div_lt_of_lt_mul (by rwa[Nat.mul_comm] at h1),Nat.mod_lt _ hk,?_,by rw[Nat.mul_comm]; exact Nat.div_add_mod q k⟩
 simp[flatV,h1] at h
 exact h.symm

theorem OW.open_ {w:World} {k:Nat} {es:List (List T)} {v:Value} {fp:List Nat} (h:OW w (.sl k es) v fp):(v = .slice none 0 0∧es = []∧fp = []) ∨
  ∃ (b o c:Nat) (tid:TypeId) (cur:Array Value) (fz:Nat×Nat) (val:Nat→Nat→Value) (fps:List (List (List Nat))),v = .slice (some ⟨b,o,none⟩) es.length c∧fp=b::fps.flatten.flatten∧w.heap[b]? = some (.cells cur tid fz)∧(fz=(0,0)∨cur.size≤fz.1) ∧
   es.length≤c∧c≤maxLen∧o+c*k≤cur.size∧0<k∧(∀ e∈es,e.length=k)∧fps.length=es.length∧(∀ f∈fps,f.length=k) ∧
   (∀ i j,i<es.length→j<k→cur[o+i*k+j]? = some (val i j)) ∧
   (∀ (i j:Nat) (e:List T) (t:T) (fs:List (List Nat)) (f:List Nat),es[i]? = some e→e[j]? = some t→fps[i]? = some fs→fs[j]? = some f→OW w t (val i j) f):=by
 cases h with
 |nil=>exact .inl ⟨rfl,rfl,rfl⟩
 |sl _ b o _ c tid cur fz val fps hg hz hc hm hs hp hk hf hfk hv ht=>exact .inr ⟨b,o,c,tid,cur,fz,val,fps,rfl,rfl,hg,hz,hc,hm,hs,hp,hk,hf,hfk,hv,ht⟩

theorem OW.join {w:World} {k:Nat} {es es':List (List T)} {b o c:Nat} {tid:TypeId} {cur:Array Value} {fz:Nat×Nat} {val val':Nat→Nat→Value} {fps fps':List (List (List Nat))}
  (hg:w.heap[b]? = some (.cells cur tid fz)) (hz:fz=(0,0)∨cur.size≤fz.1) (hc:es.length+es'.length≤c) (hm:c≤maxLen) (hs:o+c*k≤cur.size) (hp:0<k) (hk:∀ e∈es,e.length=k) (hk':∀ e∈es',e.length=k)
  (hf:fps.length=es.length) (hf':fps'.length=es'.length) (hfk:∀ f∈fps,f.length=k) (hfk':∀ f∈fps',f.length=k)
  (hv:∀ i j,i<es.length→j<k→cur[o+i*k+j]? = some (val i j)) (hv':∀ i j,i<es'.length→j<k→cur[o+(es.length+i)*k+j]? = some (val' i j))
  (ht:∀ (i j:Nat) (e:List T) (t:T) (fs:List (List Nat)) (f:List Nat),es[i]? = some e→e[j]? = some t→fps[i]? = some fs→fs[j]? = some f→OW w t (val i j) f)
  (ht':∀ (i j:Nat) (e:List T) (t:T) (fs:List (List Nat)) (f:List Nat),es'[i]? = some e→e[j]? = some t→fps'[i]? = some fs→fs[j]? = some f→OW w t (val' i j) f) :
  OW w (.sl k (es++es')) (.slice (some ⟨b,o,none⟩) (es.length+es'.length) c) (b::(fps++fps').flatten.flatten):=by
 have hn:es.length+es'.length=(es++es').length:=Aqd
 rw[hn] at hc ⊢
 refine .sl (es++es') b o k c tid cur fz (fun i j=>if i<es.length then val i j else val' (i-es.length) j) (fps++fps') hg hz hc hm hs hp ?_ (by simp[hf,hf']) ?_ (fun i j hi hj=>?_) fun i j e t fs f h1 h2 h3 h4=>?_
 ·intro e he
  rcases Gqs.1 he with he | he
  ·exact hk e he
  ·exact hk' e he
 ·intro e he
  rcases Gqs.1 he with he | he
  ·exact hfk e he
  ·exact hfk' e he
 ·show _=some (if i<es.length then _ else _)
  by_cases h:i<es.length
  ·rw[if_pos h]; exact hv i j h hj
  ·rw[if_neg h]
   have:=hv' (i-es.length) j (by rw[←hn] at hi; omega) hj
   rwa[show es.length+(i-es.length)=i by omega] at this
 ·show OW w t (if i<es.length then _ else _) f
  by_cases h:i<es.length
  ·rw[if_pos h]
   exact ht i j e t fs f (by rwa[Gq2 h] at h1) h2 (by rwa[Gq2 Aqa] at h3) h4
  ·rw[if_neg h]
   exact ht' (i-es.length) j e t fs f (by rwa[Gq3 Aqa] at h1) h2 (by rw[Gq3 Aqa,hf] at h3; exact h3) h4

section
variable {P:Program} {w:World}

theorem Zl (b:Nat) (tid:TypeId) (fz:Nat×Nat):∀ (us:List Value) (off:Nat) (w:World) (cur:Array Value),w.heap[b]? = some (.cells cur tid fz)→off+us.length≤cur.size →
  ∃ cur':Array Value,(w.setCells b off us).heap[b]? = some (.cells cur' tid fz)∧cur'.size=cur.size∧(∀ q,q<us.length→cur'[off+q]? = us[q]?)∧∀ q,(q<off∨off+us.length≤q)→cur'[q]? = cur[q]?
 | [],off,w,cur,h,_=>⟨cur,h,rfl,fun q hq=>by simp at hq,fun q _=>rfl⟩
 | u::us,off,w,cur,h,hl=>by
  have h1:(w.setCell ⟨b,off,none⟩ u).heap[b]? = some (.cells (cur.setIfInBounds off u) tid fz):=by
   simp[World.setCell,Array.getElem?_modify,h]
  obtain⟨cur',h2,h3,h4,h5⟩:=Zl b tid fz us (off+1) _ _ h1 (by simp at hl ⊢; omega)
  refine⟨cur',h2,by simpa using h3,fun q hq=>?_,fun q hq=>?_⟩
  ·cases q with
   |zero =>
    rw[Gx5,h5 off (.inl Aqa)]
    simp at hl
    simp[show off<cur.size by omega]
   |succ q =>
    rw[show off+(q+1)=off+1+q by omega,h4 q Bxd]
    simp
  ·rw[h5 q (by simp at hq; omega),Array.getElem?_setIfInBounds_ne (by simp at hq; omega)]
theorem V6 (w:World) (b:Nat):∀ (us:List Value) (off:Nat),(w.setCells b off us).os=w.os∧(w.setCells b off us).tape=w.tape∧(w.setCells b off us).output=w.output∧(w.setCells b off us).heap.size=w.heap.size∧∀ k,k≠b→(w.setCells b off us).heap[k]? = w.heap[k]? := by
 intro us
 induction us generalizing w with
 |nil=>intro off; exact⟨rfl,rfl,rfl,rfl,fun _ _=>rfl⟩
 |cons u us ih =>
  intro off
  obtain⟨h1,h2,h3,h4,h5⟩:=ih (w.setCell ⟨b,off,none⟩ u) (off+1)
  exact⟨h1,h2,h3,h4.trans (by simp[World.setCell]),fun k hk=>(h5 k hk).trans (Below.heap_setCell _ _ _ _ hk)⟩
theorem frozen_fz {w:World} {b o:Nat} {cur:Array Value} {tid:TypeId} {fz:Nat×Nat} (hg:w.heap[b]? = some (.cells cur tid fz)) (hz:fz=(0,0)∨cur.size≤fz.1) (ho:o<cur.size):w.frozen? ⟨b,o,none⟩=false:=by
 obtain⟨lo,hi⟩:=fz
 rcases hz with e | hz
 ·cases e; simp[World.frozen?,hg]
 ·simp only at hz
  simp only[World.frozen?,hg,Gxp,decide_eq_false_iff_not]
  exact .inl Aqa 

theorem run_append_nil0 (t tx ty e:TypeId) (i:TypeInfo) (ht:P.underlying t=some (.slice e)) (hi:P.info? e=some i) (x:Value) (news:List Value) (hs:Src P i.size tx x 0 news w) :
  (Builtin.append_ #[t,tx] ty #[.slice none 0 0,x]).run P w = .ok (.slice none 0 0) w:=by
 rcases hs.kind with ⟨e',hk⟩ | hk <;> simp[Builtin.append_,run_underlying ht,run_underlying hk,sizeOf,typeInfo,hi,hs.len,hs.cells]

structure Keeps (w w':World) (fp:List Nat):Prop where
 os:w'.os=w.os
 tape:w'.tape=w.tape
 output:w'.output=w.output
 size:w.heap.size≤w'.heap.size
 block:∀ b,b<w.heap.size→b∉fp→w'.heap[b]? = w.heap[b]?

theorem run_append_ow {t tx ty e:TypeId} {zs:List Value} {by_:Nat} [hm:TyMake P t e zs by_] {k:Nat} {es:List (List T)} {v:Value} {fp:List Nat} (h:OW w (.sl k es) v fp) (hkz:k=zs.length) (hz:0<zs.length) (hnd:fp.Nodup)
  (es':List (List T)) (val':Nat→Nat→Value) (fps':List (List (List Nat))) (x:Value) (hk':∀ e∈es',e.length=k)
  (hsrc:Src P k tx x es'.length (flatV val' es'.length k) w)
  (hf':fps'.length=es'.length) (hfk':∀ f∈fps',f.length=k)
  (hOW:∀ (i j:Nat) (e:List T) (t:T) (fs:List (List Nat)) (f:List Nat),es'[i]? = some e→e[j]? = some t→fps'[i]? = some fs→fs[j]? = some f→OW w t (val' i j) f)
  (hnd':fps'.flatten.flatten.Nodup) (hdis:∀ b∈fp,b∉fps'.flatten.flatten)
  (hb:(es.length+es'.length)*by_≤140737488355328) (h63:es.length+es'.length≤maxLen) :
  ∃ v' w' fp',(Builtin.append_ #[t,tx] ty #[v,x]).run P w = .ok v' w'∧OW w' (.sl k (es++es')) v' fp'∧fp'.Nodup ∧
   (∀ b∈fp',b∈fp∨b∈fps'.flatten.flatten∨w.heap.size≤b)∧Keeps w w' fp ∧
   ∀ i j,i<es'.length→j<k→∃ b o n c,v' = .slice (some ⟨b,o,none⟩) n c∧b∈fp'∧w'.cell? ⟨b,o+(es.length+i)*k+j,none⟩=some (val' i j):=by
 obtain⟨i,hi,hzz⟩:=Option.map_eq_some_iff.1 hm.info
 simp only[Prod.mk.injEq] at hzz
 obtain⟨hz1,hs,hb1⟩:=hzz
 obtain⟨z,hz2,hz3⟩:=Option.map_eq_some_iff.1 hz1
 have hzc:z.cells.size=zs.length:=by rw[←hz3]; simp
 have hsk:i.size=k:=by rw[hs,hkz]
 have hsrc:Src P i.size tx x es'.length (flatV val' es'.length k) w:=by rw[hsk]; exact hsrc
 have hkp:0<k:=by rw[hkz]; exact hz
 have hltn:∀ b∈fps'.flatten.flatten,b<w.heap.size:=by
  intro b hb
  obtain⟨f,hf1,hf2⟩:=Gxn.1 hb
  obtain⟨fs,hs1,hs2⟩:=Gxn.1 hf1
  obtain⟨q,hq⟩:=List.getElem?_of_mem hs1
  obtain⟨j,hj⟩:=List.getElem?_of_mem hs2
  have h1:q<es'.length:=by rw[←hf']; exact Zj hq
  have h2:j<(es'[q]).length:=by rw[hk' _ (Gqe h1),←hfk' _ hs1]; exact Zj hj
  exact OW.lt (hOW q j _ _ _ _ (Gqg h1) (Gqg h2) hq hj) b hf2
 -- a new block
 have newc:∀ (val:Nat→Nat→Value) (old i j:Nat),i<es'.length→j<k→((flatV val es.length k++flatV val' es'.length k).toArray++Builtin.zeroCells z.cells (grownCap w (es.length+es'.length) old e-(es.length+es'.length)))[0+(es.length+i)*k+j]? = some (val' i j):=fun val old i j hi hj=>by
  have h1:=flatV_at (val:=val') hi hj
  have h2:=Zj h1
  have h3:(es.length+i)*k+j=es.length*k+(i*k+j):=by rw[Nat.add_mul]; omega
  rw[Gx1,h3,Array.getElem?_append_left (by simp only[List.size_toArray,Gql,Zh] at h2 ⊢; omega)]
  simp only[List.getElem?_toArray]
  rw[Gq3 (by rw[Zh]; omega),Zh,Nat.add_sub_cancel_left]
  exact h1
 have grown:∀ (val:Nat→Nat→Value) (fps:List (List (List Nat))) (old:Nat),(∀ e∈es,e.length=k)→fps.length=es.length→(∀ f∈fps,f.length=k) →
   (∀ (i j:Nat) (e:List T) (t:T) (fs:List (List Nat)) (f:List Nat),es[i]? = some e→e[j]? = some t→fps[i]? = some fs→fs[j]? = some f→OW w t (val i j) f)→(∀ b∈fps.flatten.flatten,b<w.heap.size) →
   OW (w.drew.alloc (.cells ((flatV val es.length k++flatV val' es'.length k).toArray++Builtin.zeroCells z.cells (grownCap w (es.length+es'.length) old e-(es.length+es'.length))) e)) (.sl k (es++es'))
    (.slice (some ⟨w.heap.size,0,none⟩) (es.length+es'.length) (grownCap w (es.length+es'.length) old e)) (w.heap.size::(fps++fps').flatten.flatten):=by
  intro val fps old g1 g2 g3 g4 g5
  have hge:=grownCap_ge w (es.length+es'.length) old e
  have hfr:∀ {t:T} {u:Value} {f:List Nat},OW w t u f→(∀ b∈f,b<w.heap.size)→OW (w.drew.alloc (.cells ((flatV val es.length k++flatV val' es'.length k).toArray++Builtin.zeroCells z.cells (grownCap w (es.length+es'.length) old e-(es.length+es'.length))) e)) t u f :=
   fun h hl=>h.frame fun b hb=>Below.heap_alloc w.drew _ b (hl b hb)
  refine OW.join (heap_alloc_new w.drew _) (.inl J) hge (grownCap_le_maxLen w _ old e h63) ?_ hkp g1 hk' g2 hf' g3 hfk' (fun i j hi hj=>?_) (fun i j hi hj=>?_) (fun i j e t fs f h1 h2 h3 h4=>hfr (g4 i j e t fs f h1 h2 h3 h4) fun b hb=>g5 b (mem_ff h3 h4 hb))
   fun i j e t fs f h1 h2 h3 h4=>hfr (hOW i j e t fs f h1 h2 h3 h4) fun b hb=>hltn b (mem_ff h3 h4 hb)
  ·simp only[Array.size_append,List.size_toArray,Gql,size_zeroCells,Zh,hzc,←hkz,←Nat.add_mul]
   rw[Gx1]
   exact Nat.le_of_eq (by congr 1; omega)
  ·have h1:=flatV_at (val:=val) hi hj
   have h2:=Zj h1
   rw[Gx1,Array.getElem?_append_left (by simp only[List.size_toArray,Gql]; omega)]
   simp only[List.getElem?_toArray]
   rw[Gq2 h2]
   exact h1
  ·exact newc val old i j hi hj
 rcases h.open_ with ⟨rfl,rfl,rfl⟩ | ⟨b,o,c,tid,cur,fz,val,fps,rfl,rfl,hg,hzf,hc,hcm,hcs,hp,hk,hf,hfk,hv,ht⟩
 ·by_cases he':es'.length=0
  ·have he0:=List.eq_nil_of_length_eq_zero he'
   subst he0
   have hfe:fps' = []:=List.eq_nil_of_length_eq_zero (by simpa using hf')
   subst hfe
   exact⟨_,w,[],run_append_nil0 t tx ty e i hm.slice hi x _ hsrc,by simpa using h,hnd,fun b hb => .inl hb,⟨J,J,J,Gqi _,fun _ _ _=>rfl⟩,fun i j hi=>absurd hi Aqd⟩
  ·have hr:=run_append_grow_src (P:=P) w t tx ty e i z hm.slice hi hz2 none 0 0 [] (by simp[Builtin.firstCells]) x es'.length _ hsrc Aqa (by simp[maxLen] at h63; omega) (growslice_fits Aqa (by rw[hb1]; simpa using hb))
   have hg:=grown (fun _ _=>undef) [] 0 Aqd rfl Aqd Aqd Aqd 
   have h0:flatV (fun _ _=>undef) 0 k = []:=by simp[flatV]
   simp only[List.length_nil,Gx1,List.nil_append,h0] at hg hr
   have hn:=newc (fun _ _=>undef) 0
   simp only[List.length_nil,Gx1,List.nil_append,h0] at hn
   refine⟨_,_,w.heap.size::fps'.flatten.flatten,hr,by simpa using hg,?_,?_,⟨J,J,J,Aqd,fun b hb _=>Below.heap_alloc w.drew _ b hb⟩,fun i j hi hj=>⟨w.heap.size,0,_,_,J,Aqd,?_⟩⟩
   ·refine Gxi.2 ⟨fun hh=>?_,hnd'⟩
    have:=hltn _ hh
    omega
   ·intro b hb
    rcases List.mem_cons.1 hb with rfl | hb
    ·exact .inr (.inr (Gqi _))
    ·exact .inr (.inl hb)
   ·exact (cell_of_row _ _ _ _ _ _ (heap_alloc_new w.drew _)).trans (by simpa using hn i j hi hj)
 ·have hblt:b<w.heap.size:=(Array.getElem?_eq_some_iff.1 hg).1
  have hndf:=(Gxi.1 hnd)
  by_cases hroom:es.length+es'.length≤c
  ·have hmul:(es.length+es'.length)*k≤c*k:=Gx0 _ hroom
   rw[Nat.add_mul] at hmul
   have hr:=run_append_room_src (P:=P) w t tx ty e i hm.slice hi b o es.length c x es'.length _ hsrc hroom (fun j hj=>by
    rw[cell_of_row w b _ cur tid fz hg]
    rw[Zh] at hj
    rw[hsk]
    simp
    omega) (fun j hj=>by
    rw[Zh] at hj
    rw[hsk]
    exact frozen_fz hg hzf Aqa)
   rw[hsk] at hr
   obtain⟨cur',k1,k2,k3,k4⟩:=Zl b tid fz (flatV val' es'.length k) (o+es.length*k) w cur hg (by rw[Zh]; omega)
   obtain⟨s1,s2,s3,s4,s5⟩:=V6 w b (flatV val' es'.length k) (o+es.length*k)
   have hfr:∀ {t:T} {u:Value} {f:List Nat},OW w t u f→b∉f→OW (w.setCells b (o+es.length*k) (flatV val' es'.length k)) t u f :=
    fun h hl=>h.frame fun b' hb'=>s5 b' fun e=>hl (e▸hb')
   have hnew:∀ i j,i<es'.length→j<k→cur'[o+(es.length+i)*k+j]? = some (val' i j):=fun i j hi hj=>by
    have h1:=ij_lt hi hj
    have h3:o+(es.length+i)*k+j=o+es.length*k+(i*k+j):=by rw[Nat.add_mul]; omega
    rw[h3,k3 _ (by rw[Zh]; exact h1)]
    exact flatV_at hi hj
   refine⟨_,_,_,hr,OW.join k1 (by rw[k2]; exact hzf) hroom hcm (by rw[k2]; exact hcs) hp hk hk' hf hf' hfk hfk' (fun i j hi hj=>?_) (fun i j hi hj=>?_) (fun i j e t fs f h1 h2 h3 h4=>hfr (ht i j e t fs f h1 h2 h3 h4) fun hh=>hndf.1 (mem_ff h3 h4 hh))
    (fun i j e t fs f h1 h2 h3 h4=>hfr (hOW i j e t fs f h1 h2 h3 h4) fun hh=>hdis b Aqd (mem_ff h3 h4 hh)),?_,?_,⟨s1,s2,s3,Aqa,fun b'' _ hb''=>s5 b'' fun e=>hb'' (by simp[e])⟩,fun i j hi hj=>⟨b,o,_,_,rfl,Aqd,by rw[cell_of_row _ _ _ _ _ _ k1]; exact hnew i j hi hj⟩⟩
   ·have h1:=ij_lt hi hj
    rw[k4 _ (.inl Aqa)]
    exact hv i j hi hj
   ·exact hnew i j hi hj
   ·refine Gxi.2 ⟨fun hh=>?_,?_⟩
    ·rw[Gqt,Gqt] at hh
     rcases Gqs.1 hh with hh | hh
     ·exact hndf.1 hh
     ·exact hdis b Aqd hh
    ·rw[Gqt,Gqt]
     exact List.nodup_append.2 ⟨hndf.2,hnd',fun x hx y hy e=>hdis x (Gxc _ hx) (e▸hy)⟩
   ·intro x hx
    rcases List.mem_cons.1 hx with rfl | hx
    ·exact .inl Aqd 
    ·rw[Gqt,Gqt] at hx
     rcases Gqs.1 hx with hx | hx
     ·exact .inl (Gxc _ hx)
     ·exact .inr (.inl hx)
  ·have holds:∀ j u,(flatV val es.length k)[j]? = some u→w.drew.cell? ((⟨b,o,none⟩:Addr).add j)=some u:=by
    intro j u hj
    obtain⟨h1,h2,rfl,h3⟩:=flatV_get hj
    show w.cell? _=_
    rw[add_lit,cell_of_row w b (o+j) cur tid fz hg,←hv _ _ h1 h2,Gxx,h3]
   have hr:=run_append_grow_src (P:=P) w t tx ty e i z hm.slice hi hz2 (some ⟨b,o,none⟩) es.length c (flatV val es.length k) (run_firstCells_some w.drew i.size es.length ⟨b,o,none⟩ es.length c _ (by rw[Zh,hsk]) holds) x es'.length _ hsrc Aqa (by simp[maxLen] at h63; omega) (growslice_fits Aqa (by rw[hb1]; exact hb))
   have h5:∀ x∈fps.flatten.flatten,x<w.heap.size:=by
    intro x hx
    exact h.lt x (Gxc _ hx)
   refine⟨_,_,_,hr,grown val fps c hk hf hfk ht h5,?_,?_,⟨J,J,J,Aqd,fun b hb _=>Below.heap_alloc w.drew _ b hb⟩,fun i j hi hj=>⟨w.heap.size,0,_,_,J,Aqd,(cell_of_row _ _ _ _ _ _ (heap_alloc_new w.drew _)).trans (newc val c i j hi hj)⟩⟩
   ·refine Gxi.2 ⟨fun hh=>?_,?_⟩
    ·rw[Gqt,Gqt] at hh
     rcases Gqs.1 hh with hh | hh
     ·have:=h5 _ hh; omega
     ·have:=hltn _ hh; omega
    ·rw[Gqt,Gqt]
     exact List.nodup_append.2 ⟨hndf.2,hnd',fun x hx y hy e=>hdis x (Gxc _ hx) (e▸hy)⟩
   ·intro x hx
    rcases List.mem_cons.1 hx with rfl | hx
    ·exact .inr (.inr (Gqi _))
    ·rw[Gqt,Gqt] at hx
     rcases Gqs.1 hx with hx | hx
     ·exact .inl (Gxc _ hx)
     ·exact .inr (.inl hx)

theorem src_slice {t e:TypeId} {zs:List Value} {by_:Nat} [hm:TyMake P t e zs by_] {k:Nat} (es':List (List T)) (val':Nat→Nat→Value) (A:Option Addr) (c':Nat)
  (hA:es' ≠ []→∃ b' o',A=some ⟨b',o',none⟩∧∀ i j,i<es'.length→j<k→w.cell? ⟨b',o'+i*k+j,none⟩=some (val' i j))
  (hOne:∀ i j,i<es'.length→j<k→(val' i j).oneCell'=true):Src P k t (.slice A es'.length c') es'.length (flatV val' es'.length k) w:=by
 have hone:∀ u∈flatV val' es'.length k,u.oneCell'=true:=by
  intro u hu
  obtain⟨q,hq⟩:=List.getElem?_of_mem hu
  obtain⟨h1,h2,rfl,_⟩:=flatV_get hq
  exact hOne _ _ h1 h2
 by_cases he:es' = []
 ·subst he
  have h0:flatV val' 0 k = []:=by simp[flatV]
  simp only[List.length_nil,h0]
  cases A with
  |none=>exact .ofNil w hm.slice c'
  |some a=>exact .ofSlice w hm.slice a 0 c' [] Aqd (fun j u h=>by simp at h) (fun u h=>by simp at h)
 ·obtain⟨b',o',rfl,hc⟩:=hA he
  refine .ofSlice w hm.slice _ _ c' _ (Zh _ _ _) (fun j u hj=>?_) hone
  obtain⟨h1,h2,rfl,h3⟩:=flatV_get hj
  rw[add_lit,←hc _ _ h1 h2,Gxx,h3]
end
end
end Go.Proofs.YtalaljeokcpfnaaGreat
