/-
  Rules for stores into elements of owned slices, for literals of structs and slices, and for moving one owned slice into another. No statement of the program is proved here.
  Conditions: none.
-/
import Derived.Test.YtalaljeokcpfnaaGreatDDPlayRowk8
set_option linter.unusedSimpArgs false
set_option linter.unusedVariables false
namespace Go.Proofs.YtalaljeokcpfnaaGreat
section
open Go.RowKit

def splice {α:Type} (e:List α) (j:Nat) (ts:List α):List α:=e.take j++ts++e.drop (j+ts.length)
theorem splice_len {α:Type} {e ts:List α} {j:Nat} (h:j+ts.length≤e.length):(splice e j ts).length=e.length:=by
 simp[splice]; omega
theorem splice_at {α:Type} {e ts:List α} {j:Nat} (h:j+ts.length≤e.length) (q:Nat):(splice e j ts)[q]? = if j≤q∧q<j+ts.length then ts[q-j]? else e[q]? := by
 unfold splice
 have htk:(e.take j).length=j:=Bqz
 rw[Gqz,List.getElem?_append,htk]
 split
 ·rw[if_neg Aqa,Gxh,if_pos Aqa]
 ·rw[List.getElem?_append]
  split
  ·rw[if_pos Aqa]
  ·rw[if_neg Aqa,Gq7]
   congr 1
   omega
theorem nodup_mid {X Y Z Y':List Nat} (h:(X++Y++Z).Nodup) (h':Y'.Nodup) (hd:∀ b∈X++Y++Z,b∉Y'):(X++Y'++Z).Nodup:=by
 rw[List.nodup_append] at h ⊢
 obtain⟨h1,h2,h3⟩:=h
 rw[List.nodup_append] at h1 ⊢
 obtain⟨h4,h5,h6⟩:=h1
 refine⟨⟨h4,h',fun a ha b hb e=>hd a (by simp[ha]) (e▸hb)⟩,h2,fun a ha b hb e=>?_⟩
 rcases Gqs.1 ha with ha | ha
 ·exact h3 a (by simp[ha]) b hb e
 ·exact hd b (by simp[hb]) (e▸ha)
theorem flat_set {fps:List (List (List Nat))} {i j:Nat} {f fs:List (List Nat)} (hi:fps[i]? = some f):∃ X Y Z:List Nat,fps.flatten.flatten=X++Y++Z∧(fps.set i (splice f j fs)).flatten.flatten=X++fs.flatten++Z:=by
 obtain⟨hlt,he⟩:=Gqo.1 hi
 refine⟨(fps.take i).flatten.flatten++(f.take j).flatten,((f.drop j).take fs.length).flatten,(f.drop (j+fs.length)).flatten++(fps.drop (i+1)).flatten.flatten,?_,?_⟩
 ·conv=>lhs; rw[←Gxq i fps,Gxr hlt,he]
  have hf:f.flatten=(f.take j).flatten++((f.drop j).take fs.length).flatten++(f.drop (j+fs.length)).flatten:=by
   rw[←Gqt,←Gqt]
   congr 1
   conv=>lhs; rw[←Gxq j f,←Gxq fs.length (f.drop j),List.drop_drop]
   rw[Gqz]
  rw[Gqt,List.flatten_cons,Gqt,Gqt,hf]
  simp[Gqz]
 ·rw[List.set_eq_take_append_cons_drop,if_pos hlt]
  rw[Gqt,List.flatten_cons,Gqt,Gqt,splice,Gqt,Gqt]
  simp[Gqz]

theorem OW.setE {w:World} {k:Nat} {es:List (List T)} {v:Value} {fp:List Nat} (h:OW w (.sl k es) v fp) (hnd:fp.Nodup) {i j:Nat} {e:List T} (hi:es[i]? = some e) (ts:List T) (us:List Value) (fs:List (List Nat)) (hl:us.length=ts.length) (hf:fs.length=ts.length) (hj:j+ts.length≤e.length)
  (hOW:∀ (q:Nat) (t:T) (u:Value) (f:List Nat),ts[q]? = some t→us[q]? = some u→fs[q]? = some f→OW w t u f) (hnd':fs.flatten.Nodup) (hdis:∀ b∈fp,b∉fs.flatten) :
  ∃ b o c fp',v = .slice (some ⟨b,o,none⟩) es.length c∧b∈fp∧OW (w.setCells b (o+i*k+j) us) (.sl k (es.set i (splice e j ts))) v fp'∧fp'.Nodup∧(∀ x∈fp',x∈fp∨x∈fs.flatten) ∧
   ∀ q,q<ts.length→(w.cell? ⟨b,o+i*k+j+q,none⟩).isSome=true∧w.frozen? ⟨b,o+i*k+j+q,none⟩=false:=by
 rcases h.open_ with ⟨rfl,rfl,rfl⟩ | ⟨b,o,c,tid,cur,fz,val,fps,rfl,rfl,hg,hz,hc,hcm,hcs,hp,hk,hff,hfk,hv,ht⟩
 ·simp at hi
 have hil:=Zj hi
 have hek:e.length=k:=hk e (Zk hi)
 rw[hek] at hj
 have hfi:fps[i]? = some fps[i]:=Gqg Aqa 
 have hfik:(fps[i]' Aqa).length=k:=hfk _ (Gqe _)
 have hck:es.length*k≤c*k:=Gx0 _ hc
 have hin:∀ i' j',i'<es.length→j'<k→i'*k+j'<es.length*k:=fun i' j' h1 h2=>ij_lt h1 h2
 have hend:i*k+j+ts.length≤es.length*k:=by
  have:(i+1)*k≤es.length*k:=Gx0 _ hil
  rw[Nat.succ_mul] at this
  omega
 obtain⟨cur',h1,h2,h3,h4⟩:=Zl b tid fz us (o+i*k+j) w cur hg Aqa 
 obtain⟨X,Y,Z,e1,e2⟩:=flat_set (j:=j) (fs:=fs) hfi
 have hndf:=Gxi.1 hnd
 have hnb:b∉fs.flatten:=hdis b Aqd 
 have hfr:∀ {t:T} {u:Value} {f:List Nat},OW w t u f→b∉f→OW (w.setCells b (o+i*k+j) us) t u f:=fun h hn=>h.frame fun b' hb'=>(V6 w b us _).2.2.2.2 b' fun e=>hn (e▸hb')
 have hset:(es.set i (splice e j ts)).length=es.length:=Aqd
 refine⟨b,o,c,b::(fps.set i (splice fps[i] j fs)).flatten.flatten,J,Aqd,?_,?_,?_,?_⟩
 ·rw[←hset]
  refine .sl _ b o k c tid cur' fz (fun i' j'=>if i'=i∧j≤j'∧j'<j+ts.length then us.getD (j'-j) undef else val i' j') _ h1 (by rw[h2]; exact hz) (by rw[hset]; exact hc) hcm (by rw[h2]; exact hcs) hp ?_ (by simp[hff]) ?_ (fun i' j' hi' hj' => ?_) fun i' j' e' t' fs' f' g1 g2 g3 g4 => ?_
  ·intro e' he'
   rcases Gxv he' with he' | rfl
   ·exact hk e' he'
   ·rw[splice_len Aqa,hek]
  ·intro f' hf'
   rcases Gxv hf' with hf' | rfl
   ·exact hfk f' hf'
   ·rw[splice_len (by rw[hf,hfik]; omega),hfik]
  ·rw[hset] at hi'
   show cur'[o+i'*k+j']? = some (if _ then _ else _)
   by_cases hcond:i'=i∧j≤j'∧j'<j+ts.length
   ·obtain⟨rfl,g1,g2⟩:=hcond
    rw[if_pos ⟨rfl,g1,g2⟩,show o+i'*k+j'=o+i'*k+j+(j'-j) by omega,h3 (j'-j) Aqa]
    rw[Gqf,Gqg Aqa]
    rfl
   ·rw[if_neg hcond,h4,hv i' j' hi' hj']
    rcases Nat.lt_trichotomy i' i with hlt | rfl | hlt
    ·have:(i'+1)*k≤i*k:=Gx0 _ hlt
     rw[Nat.succ_mul] at this
     left; omega
    ·rcases Gqr j' j with g | g
     ·left; omega
     ·right
      have:¬j'<j+ts.length:=fun g2=>hcond ⟨rfl,g,g2⟩
      omega
    ·have:(i+1)*k≤i'*k:=Gx0 _ hlt
     rw[Nat.succ_mul] at this
     right; omega
  ·show OW _ t' (if _ then _ else _) f'
   rw[List.getElem?_set] at g1 g3
   by_cases hii:i=i'
   ·subst hii
    simp only[hil,if_true,Option.some.injEq] at g1
    rw[if_pos rfl,if_pos Aqa] at g3
    simp only[Option.some.injEq] at g3
    subst g1 g3
    rw[splice_at Aqa] at g2
    rw[splice_at (by rw[hf,hfik]; omega),hf] at g4
    by_cases hcond:j≤j'∧j'<j+ts.length
    ·rw[if_pos hcond] at g2 g4
     rw[if_pos ⟨rfl,hcond⟩]
     have hq:j'-j<us.length:=by rw[hl]; exact Zj g2
     rw[Zi (Gqg hq)]
     exact hfr (hOW (j'-j) t' _ f' g2 (Gqg hq) g4) fun hb=>hnb (Gxn.2 ⟨f',Zk g4,hb⟩)
    ·rw[if_neg hcond] at g2 g4
     rw[if_neg fun h=>hcond h.2]
     exact hfr (ht i j' e t' _ f' hi g2 hfi g4) fun hb=>hndf.1 (mem_ff hfi g4 hb)
   ·rw[if_neg hii] at g1 g3
    rw[if_neg fun h=>hii h.1.symm]
    exact hfr (ht i' j' e' t' fs' f' g1 g2 g3 g4) fun hb=>hndf.1 (mem_ff g3 g4 hb)
 ·rw[e2]
  rw[e1] at hndf
  refine Gxi.2 ⟨fun hb=>?_,nodup_mid hndf.2 hnd' fun b' hb'=>hdis b' (by rw[e1]; exact Gxc _ hb')⟩
  rcases Gqs.1 hb with hb | hb
  ·rcases Gqs.1 hb with hb | hb
   ·exact hndf.1 (by simp[hb])
   ·exact hnb hb
  ·exact hndf.1 (by simp[hb])
 ·rw[e2,e1]
  intro x hx
  rcases List.mem_cons.1 hx with rfl | hx
  ·exact .inl Aqd 
  ·rcases Gqs.1 hx with hx | hx
   ·rcases Gqs.1 hx with hx | hx
    ·exact .inl (by simp[hx])
    ·exact .inr hx
   ·exact .inl (by simp[hx])
 ·intro q hq
  constructor
  ·rw[cell_of_row w b _ cur tid fz hg]
   simp
   omega
  ·exact frozen_fz hg hz Aqa 

/-! ### What is moved into a slice -/
def tkT (objs:List Ob):V1→T
 | .rd _ x=>x
 | .ref r=>match objs.getD r .gone with
  | .row k es => .sl k es
  |_ => .sl 0 []
 |_ => .sl 0 []
def tkR:V1→List Nat
 | .ref r => [r]
 |_ => []
def tkOk (objs:List Ob):V1→Bool
 | .rd _ (.v _)=>true
 | .ref r=>match objs.getD r .gone with
  | .row _ _=>true
  |_=>false
 |_=>false
def V1.offe (p:Nat) (rs:List Nat):V1→Bool
 | .ref q => !rs.contains q
 | .el q _ _ _ => !rs.contains q
 | .tl q _ _ => !rs.contains q
 |x=>x.off (p::rs)
def V1.kille (p:Nat) (rs:List Nat) (x:V1):V1:=if x.offe p rs then x else .un
def V2.kille (p:Nat) (rs:List Nat):V2→V2
 | .c x => .c (x.kille p rs)
 | .ag xs => .ag (xs.map (V1.kille p rs))
def V.kille (p:Nat) (rs:List Nat):V→V
 | .o x => .o (x.kille p rs)
 | .tu xs => .tu (xs.map (V2.kille p rs))
 | .iff cs x => .iff cs (x.kille p rs)
def Ob.kille (p:Nat) (rs:List Nat):Ob→Ob
 | .box cs => .box (cs.map (V1.kille p rs))
 | .gh i x => .gh i (x.kille p rs)
 | .lk x y => .lk (x.kille p rs) (y.kille p rs)
 |ob=>ob
def gone (objs:List Ob) (rs:List Nat):List Ob:=rs.foldl (fun l r=>l.set r .gone) objs

theorem gone_at:∀ (rs:List Nat) (objs:List Ob) (q:Nat),(gone objs rs).getD q .gone=if q∈rs then .gone else objs.getD q .gone
 | [],objs,q=>by simp[gone]
 | r::rs,objs,q=>by
  show (gone (objs.set r .gone) rs).getD q .gone=_
  rw[gone_at rs]
  by_cases h:q∈rs
  ·simp[h]
  ·rw[if_neg h]
   by_cases e:q=r
   ·subst e
    rw[if_pos Aqd,Gqf,List.getElem?_set]
    simp only[if_true]
    split <;> rfl
   ·rw[if_neg (by simp[e,h]),Gqf,Gxa (Ne.symm e),Gqf]

section
variable {P:Program} {E:Env} {ops:Array Oper} {o:Oper} {st:St} {n:Nat} {rest:List Oper} {QQ:Exit→St→Prop} {w w':World} {H H':Hs} {F:Nat→Prop} {a:Act} {p:Nat} {rs:List Nat}

theorem R1.killede (hok:Ok w H F) (ht:Turn w H w' H' (p::rs)) {x0 x1:T} {v0:Value} {fp0 fp1:List Nat} (h0:H p = .ow x0 v0 fp0) (h1:H' p = .ow x1 v0 fp1) {x:V1} {v:Value} (h:R1 w H F x v):R1 w' H' F (x.kille p rs) v:=by
 unfold V1.kille
 split
 ·rename_i hx
  cases x with
  | ref q =>
   by_cases e:q=p
   ·subst e
    obtain⟨x,fp,e⟩:=h
    rw[h0] at e
    simp only[Pc.ow.injEq] at e
    exact⟨x1,fp1,by rw[h1,e.2.1]⟩
   ·exact R1.turn hok ht (x := .ref q) Bza h
  | el q k i j =>
   by_cases e:q=p
   ·subst e
    obtain⟨b,o,n,c,x,fp,e,hv⟩:=h
    rw[h0] at e
    simp only[Pc.ow.injEq] at e
    exact⟨b,o,n,c,x1,fp1,by rw[h1,e.2.1],hv⟩
   ·exact R1.turn hok ht (x := .el q k i j) Bza h
  |rd=>exact R1.turn hok ht hx h
  |ptr=>exact R1.turn hok ht hx h
  |sb=>exact R1.turn hok ht hx h
  |rp=>exact R1.turn hok ht hx h
  |le=>exact R1.turn hok ht hx h
  |hd=>exact R1.turn hok ht hx h
  | tl q k n =>
   by_cases e:q=p
   ·subst e
    obtain⟨A,A',m,c,x,fp,e,hv⟩:=h
    rw[h0] at e
    simp only[Pc.ow.injEq] at e
    exact⟨A,A',m,c,x1,fp1,by rw[h1,e.2.1],hv⟩
   ·exact R1.turn hok ht (x := .tl q k n) Bza h
  |un=>trivial
 ·trivial
theorem R0.turne (h:R0 w H F st a) (ht:Turn w H w' H' (p::rs)) (hok:Ok w' H' F) {x0 x1:T} {v0:Value} {fp0 fp1:List Nat} (h0:H p = .ow x0 v0 fp0) (h1:H' p = .ow x1 v0 fp1) (hn:∀ r∈rs,H' r = .nil) (hpr:p∉rs) {ob:Ob} (hob:RB w' H' F p ob) (hp:p<st.objs.length) :
  R0 w' H' F ⟨st.n,st.tmps.map fun e=>(e.1,e.2.kille p rs),gone ((st.objs.map (Ob.kille p rs)).set p ob) rs⟩ a:=by
 have k1:∀ {x:V1} {v:Value},R1 w H F x v→R1 w' H' F (x.kille p rs) v:=fun h2=>R1.killede h.ok ht h0 h1 h2
 have kl:∀ {xs:List V1} {us:List Value},(∀ (i:Nat) (x:V1) (u:Value),xs[i]? = some x→us[i]? = some u→R1 w H F x u)→∀ (i:Nat) (x:V1) (u:Value),(xs.map (V1.kille p rs))[i]? = some x→us[i]? = some u→R1 w' H' F x u:=by
  intro xs us hr i x u h2 h3
  rw[Gqk] at h2
  obtain⟨y,h4,rfl⟩:=Option.map_eq_some_iff.1 h2
  exact k1 (hr i y u h4 h3)
 have k2:∀ {x:V2} {v:Value},R2 w H F x v→R2 w' H' F (x.kille p rs) v:=by
  intro x v h2
  cases x with
  |c x=>exact k1 h2
  |ag xs=>obtain⟨us,e,hl,hr⟩:=h2; exact⟨us,e,by simpa using hl,kl hr⟩
 have kv:∀ {x:V} {v:Value},RV w H F x v→RV w' H' F (x.kille p rs) v:=by
  intro x v h2
  cases x with
  |o x=>exact k2 h2
  |tu xs =>
   obtain⟨us,e,hl,hr⟩:=h2
   refine⟨us,e,by simpa using hl,fun i x u h3 h4=>?_⟩
   rw[Gqk] at h3
   obtain⟨y,h5,rfl⟩:=Option.map_eq_some_iff.1 h3
   exact k2 (hr i y u h5 h4)
  |iff cs x=>exact⟨fun hc=>k2 (h2.1 hc),h2.2⟩
 refine⟨hok,fun q=>?_,fun d=>?_,h.size,h.defers⟩
 ·show RB w' H' F q ((gone ((st.objs.map (Ob.kille p rs)).set p ob) rs).getD q .gone)
  rw[gone_at]
  split
  ·exact hn q Aqe 
  ·rename_i hq
   by_cases e:q=p
   ·subst e
    rw[Gqf,Gxg (by simpa using hp)]
    exact hob
   ·rw[Gqf,Gxa (Ne.symm e),Gqk]
    have h2:=h.obs q
    rw[Gqf] at h2
    have hk:=ht.keep q (by simp[e,hq])
    cases ho:st.objs[q]? with
    |none=>rw[ho] at h2; exact hk.trans h2
    | some ob' =>
     rw[ho] at h2
     cases ob' with
     |gone=>exact hk.trans h2
     |hole=>trivial
     |box cs =>
      obtain⟨g,t,vs,e1,hl,hr⟩:=h2
      refine⟨g,t,vs,hk.trans e1,by simpa using hl,fun i c u h3 h4=>?_⟩
      rw[Gqk] at h3
      obtain⟨y,h5,rfl⟩:=Option.map_eq_some_iff.1 h3
      exact⟨k1 (hr i y u h5 h4).1,(hr i y u h5 h4).2⟩
     |row k es=>obtain⟨v,fp,e1⟩:=h2; exact⟨v,fp,hk.trans e1⟩
     |gh i x=>obtain⟨v,e1,hr⟩:=h2; exact⟨v,hk.trans e1,k2 hr⟩
     |lk x y=>obtain⟨v,e1,h3,h4⟩:=h2; exact⟨v,hk.trans e1,k1 h3,k1 h4⟩
 ·have hl:∀ l:List (Nat×V),look (l.map fun e=>(e.1,e.2.kille p rs)) d=(look l d).kille p rs:=by
   intro l
   induction l with
   |nil=>rfl
   |cons e l ih =>
    obtain⟨e1,e2⟩:=e
    rw[List.map_cons,Zq,Zq]
    split
    ·rfl
    ·exact ih
  show RV w' H' F (look (st.tmps.map fun e=>(e.1,e.2.kille p rs)) d) _
  rw[hl]
  exact kv (h.tmp d)

theorem take_ok (h:R0 w H F st a):∀ (ds:List V1) (us:List Value),us.length=ds.length→(∀ (i:Nat) (x:V1) (u:Value),ds[i]? = some x→us[i]? = some u→R1 w H F x u)→ds.all (tkOk st.objs)=true→(ds.flatMap tkR).Nodup →
  ∃ fs:List (List Nat),fs.length=ds.length∧(∀ (q:Nat) (t:T) (u:Value) (f:List Nat),(ds.map (tkT st.objs))[q]? = some t→us[q]? = some u→fs[q]? = some f→OW w t u f)∧fs.flatten.Nodup∧(∀ b∈fs.flatten,∃ r∈ds.flatMap tkR,b∈(H r).fp)
 | [],us,_,_,_,_=>⟨[],rfl,fun q t u f h1=>by simp at h1,Aqd,fun b hb=>by simp at hb⟩
 |d::ds,[],hl,_,_,_=>by simp at hl
 | d::ds,u::us,hl,hr,hok,hnd=>by
  simp only[List.all_cons,Gqh] at hok
  simp only[List.flatMap_cons] at hnd
  obtain⟨n1,n2,n3⟩:=List.nodup_append.1 hnd
  obtain⟨fs,h1,h2,h3,h4⟩:=take_ok h ds us Bxs (fun i x u h5 h6=>hr (i+1) x u (by simpa using h5) (by simpa using h6)) hok.2 n2
  have h0:=hr 0 d u J J
  obtain⟨f0,g1,g2,g3⟩:∃ f0,OW w (tkT st.objs d) u f0∧f0.Nodup∧∀ b∈f0,∃ r∈tkR d,b∈(H r).fp:=by
   have hok1:=hok.1
   cases d with
   |rd ps x =>
    cases x with
    |v x=>obtain⟨rfl,g⟩:=RO.plain h0; exact⟨[],.v _ g,Aqd,fun b hb=>by simp at hb⟩
    |sl=>simp[tkOk] at hok1
    |un=>simp[tkOk] at hok1
   | ref r =>
    simp only[tkOk] at hok1
    cases ho:st.objs.getD r .gone with
    |row k es =>
     have h5:=h.obs r
     rw[ho] at h5
     obtain⟨v,fp,e⟩:=h5
     obtain⟨x,fp',e'⟩:=h0
     have h6:=h.ok.says r
     have h7:=h.ok.nodup r
     rw[e] at h6 h7 e'
     simp only[Pc.ow.injEq] at e'
     obtain⟨_,rfl,_⟩:=e'
     refine⟨fp,by simp only[tkT,ho]; exact h6,h7,fun b hb=>⟨r,by simp[tkR],by rw[e]; exact hb⟩⟩
    |gone=>rw[ho] at hok1; cases hok1
    |hole=>rw[ho] at hok1; cases hok1
    |box=>rw[ho] at hok1; cases hok1
    |gh=>rw[ho] at hok1; cases hok1
    |lk=>rw[ho] at hok1; cases hok1
   |ptr=>simp[tkOk] at hok1
   |sb=>simp[tkOk] at hok1
   |el=>simp[tkOk] at hok1
   |rp=>simp[tkOk] at hok1
   |le=>simp[tkOk] at hok1
   |hd=>simp[tkOk] at hok1
   |tl=>simp[tkOk] at hok1
   |un=>simp[tkOk] at hok1
  refine⟨f0::fs,by simp[h1],fun q t v f h5 h6 h7=>?_,?_,fun b hb=>?_⟩
  ·cases q with
   |zero=>simp at h5 h6 h7; subst h5 h6 h7; exact g1
   |succ q=>exact h2 q t v f (by simpa using h5) (by simpa using h6) (by simpa using h7)
  ·rw[List.flatten_cons]
   refine List.nodup_append.2 ⟨g2,h3,fun x hx y hy e=>?_⟩
   obtain⟨r,r1,r2⟩:=g3 x hx
   obtain⟨s,s1,s2⟩:=h4 y hy
   subst e
   have:=h.ok.disj r s x r2 s2
   exact n3 r r1 s s1 this
  ·rw[List.flatten_cons] at hb
   rw[List.flatMap_cons]
   rcases Gqs.1 hb with hb | hb
   ·obtain⟨r,r1,r2⟩:=g3 b hb; exact⟨r,by simp[r1],r2⟩
   ·obtain⟨r,r1,r2⟩:=h4 b hb; exact⟨r,List.mem_append_right _ r1,r2⟩

theorem Ok.takein (h:Ok w H F) {fp:List Nat} (hfp:(H p).fp=fp) (hpr:p∉rs) {w':World} (hk:Keeps w w' fp) (q:Pc) (hs:q.says w') (hn:q.fp.Nodup) (hng:q.ng) (hf:∀ b∈q.fp,b∈fp∨(∃ r∈rs,b∈(H r).fp)∨w.heap.size≤b) :
  Ok w' (fun r=>if r=p then q else if r∈rs then .nil else H r) F∧Turn w H w' (fun r=>if r=p then q else if r∈rs then .nil else H r) (p::rs):=by
 obtain⟨H',hH'⟩:∃ H':Hs,H'=fun r=>if r=p then q else if r∈rs then .nil else H r:=⟨_,rfl⟩
 rw[←hH']
 have e1:H' p=q:=by rw[hH']; simp
 have e2:∀ r,r≠p→r∈rs→H' r = .nil:=fun r h1 h2=>by rw[hH']; simp[h1,h2]
 have e3:∀ r,r≠p→r∉rs→H' r=H r:=fun r h1 h2=>by rw[hH']; simp[h1,h2]
 have hb0:∀ r b,r≠p→b∈(H' r).fp→b∈(H r).fp∧r∉rs:=fun r b h1 h2=>by
  by_cases h3:r∈rs
  ·rw[e2 r h1 h3] at h2; simp[Pc.fp] at h2
  ·rw[e3 r h1 h3] at h2; exact⟨h2,h3⟩
 have hb1:∀ r b,r≠p→b∈(H' r).fp→b∉q.fp:=fun r b h1 h2 h3=>by
  obtain⟨h4,h5⟩:=hb0 r b h1 h2
  rcases hf b h3 with h6 | ⟨s,h6,h7⟩ | h6
  ·exact h1 (h.disj r p b h4 (by rw[hfp]; exact h6))
  ·exact h5 (h.disj r s b h4 h7▸h6)
  ·have:=h.lt h4; omega
 refine⟨⟨fun r=>?_,fun r=>?_,fun r s b h1 h2=>?_,fun r b h1 h2=>?_,fun b hb'=>Gx2 (h.flt b hb') hk.size⟩,hk.os,hk.tape,hk.output,hk.size,fun b h1 h2=>hk.block b h1 (by rw[←hfp]; exact h2 p Aqd),fun r hr=>e3 r (fun e=>hr (by simp[e])) (fun e=>hr (by simp[e])),fun r b hb=>?_,fun r i v hr=>?_⟩
 ·by_cases e:r=p
  ·subst e; rw[e1]; exact hs
  ·by_cases h3:r∈rs
   ·rw[e2 r e h3]; trivial
   ·rw[e3 r e h3]
    exact Pc.frame (fun b hb'=>hk.block b (h.lt hb') fun hh=>e (h.disj r p b hb' (by rw[hfp]; exact hh))) (h.says r)
 ·by_cases e:r=p
  ·subst e; rw[e1]; exact hn
  ·by_cases h3:r∈rs
   ·rw[e2 r e h3]; simp[Pc.fp]
   ·rw[e3 r e h3]; exact h.nodup r
 ·by_cases e:r=p
  ·by_cases e':s=p
   ·rw[e,e']
   ·rw[e,e1] at h1
    exact absurd h1 (hb1 s b e' h2)
  ·by_cases e':s=p
   ·rw[e',e1] at h2
    exact absurd h2 (hb1 r b e h1)
   ·exact h.disj r s b (hb0 r b e h1).1 (hb0 s b e' h2).1
 ·by_cases e:r=p
  ·rw[e,e1] at h1
   rcases hf b h1 with h3 | ⟨s,_,h3⟩ | h3
   ·exact h.free p b (by rw[hfp]; exact h3) h2
   ·exact h.free s b h3 h2
   ·have:=h.flt b h2; omega
  ·exact h.free r b (hb0 r b e h1).1 h2
 ·by_cases e:r=p
  ·rw[e,e1] at hb
   rcases hf b hb with h3 | ⟨s,_,h3⟩ | h3
   ·exact .inl ⟨p,by rw[hfp]; exact h3⟩
   ·exact .inl ⟨s,h3⟩
   ·exact .inr h3
  ·exact .inl ⟨r,(hb0 r b e hb).1⟩
 ·by_cases e:r=p
  ·rw[e,e1] at hr; rw[hr] at hng; exact hng.elim
  ·by_cases h3:r∈rs
   ·rw[e2 r e h3] at hr; cases hr
   ·exact⟨r,by rw[←e3 r e h3]; exact hr⟩

section
variable {y z:Operand} {t t':TypeId} {k:IntKind} {i j:Int} {qs:List Nat}
theorem ste_core {p kk i j:Nat} {es:List (List T)} {e:List T} {ds:List V1} {us:List Value} (h1:R0 w H F st a) (h2:Since E w H F) (hy:st.ev y = .o (.c (.el p kk i j))) (hp:st.objs[p]? = some (.row kk es)) (he:es[i]? = some e) (hj:j+ds.length≤e.length)
  (hl:us.length=ds.length) (hr:∀ (i:Nat) (x:V1) (u:Value),ds[i]? = some x→us[i]? = some u→R1 w H F x u) (hok:ds.all (tkOk st.objs)=true) (hnd:(p::ds.flatMap tkR).Nodup) :
  ∃ b o',a.eval y = .pointer (some ⟨b,o',none⟩)∧(∀ q,q<ds.length→(w.cell? ⟨b,o'+q,none⟩).isSome=true∧w.frozen? ⟨b,o'+q,none⟩=false) ∧
   ∃ H',R0 (w.setCells b o' us) H' F ⟨st.n,st.tmps.map fun e=>(e.1,e.2.kille p (ds.flatMap tkR)),gone ((st.objs.map (Ob.kille p (ds.flatMap tkR))).set p (.row kk (es.set i (splice e j (ds.map (tkT st.objs)))))) (ds.flatMap tkR)⟩ a∧Since E (w.setCells b o' us) H' F:=by
 obtain⟨b,o',m',c,x,fp,e1,e2⟩:=h1.v1 hy
 obtain⟨v,fp',e3,e4⟩:=h1.ow hp
 rw[e1] at e3
 simp only[Pc.ow.injEq] at e3
 obtain⟨rfl,rfl,rfl⟩:=e3
 obtain⟨hpn,hndr⟩:=Gxi.1 hnd
 obtain⟨fs,f1,f2,f3,f4⟩:=take_ok h1 ds us hl hr hok hndr
 have hndp:=h1.ok.nodup p
 rw[e1] at hndp
 obtain⟨b',o'',c',fp2,g1,g2,g3,g4,g5,g6⟩:=OW.setE e4 hndp he (ds.map (tkT st.objs)) us fs Bxs (by simpa using f1) (j:=j) Bxm f2 f3 (fun b hb hb'=>by
  obtain⟨r,r1,r2⟩:=f4 b hb'
  have:=h1.ok.disj p r b (by rw[e1]; exact hb) r2
  exact hpn (this▸r1))
 simp only[Value.slice.injEq,Option.some.injEq,Addr.mk.injEq] at g1
 obtain⟨⟨rfl,rfl,_⟩,rfl,rfl⟩:=g1
 obtain⟨s1,s2,s3,s4,s5⟩:=V6 w b us (o'+i*kk+j)
 obtain⟨k1,k2⟩:=h1.ok.takein (p:=p) (rs:=ds.flatMap tkR) (fp:=fp) Bxe hpn (w':=w.setCells b (o'+i*kk+j) us) ⟨s1,s2,s3,Aqa,fun b' _ hb'=>s5 b' fun e=>hb' (e▸g2)⟩ (.ow (.sl kk (es.set i (splice e j (ds.map (tkT st.objs))))) (.slice (some ⟨b,o',none⟩) es.length c) fp2) g3 g4 trivial fun b' hb'=>by
   rcases g5 b' hb' with h | h
   ·exact .inl h
   ·exact .inr (.inl (f4 b' h))
 obtain⟨hplt,_⟩:=Gqo.1 hp
 refine⟨b,o'+i*kk+j,e2,fun q hq=>g6 q Bxd,_,h1.turne (p:=p) (rs:=ds.flatMap tkR) k2 k1 e1 (if_pos J) (fun r hr' => ?_) hpn ⟨_,_,if_pos J⟩ hplt,h2.turn k2⟩
 have hne:r≠p:=fun e=>hpn (e▸hr')
 simp only[hne,if_false,hr',if_true]

theorem L_ste1 {p kk i j:Nat} {es:List (List T)} {e:List T} {c:V1} [TyOne P t] (ho:o.op = .store t y z) (hg:o.guard=none) (hd:o.dst=none) (hy:st.ev y = .o (.c (.el p kk i j))) (hz:st.ev z = .o (.c c)) (hp:st.objs[p]? = some (.row kk es)) (he:es[i]? = some e) (hj:j+1≤e.length)
  (hok:tkOk st.objs c=true) (hnd:(p::tkR c).Nodup)
  (h:AL P E ops QQ rest ⟨st.n,st.tmps.map fun e=>(e.1,e.2.kille p (tkR c)),gone ((st.objs.map (Ob.kille p (tkR c))).set p (.row kk (es.set i (splice e j [tkT st.objs c])))) (tkR c)⟩):AL P E ops QQ (o::rest) st:=by
 refine⟨fun a w ⟨H,F,h1,h2⟩ => ?_⟩
 have hc:=h1.v1 hz
 have hfm : [c].flatMap tkR=tkR c:=Aqd
 have hr:∀ (i:Nat) (x:V1) (u:Value),[c][i]? = some x → [a.eval z][i]? = some u→R1 w H F x u:=fun i x u h3 h4=>by
  cases i with
  |zero=>simp at h3 h4; subst h3 h4; exact hc
  |succ i=>simp at h3
 obtain⟨b,o',h3,h4,H',h5,h6⟩:=ste_core (E:=E) (us := [a.eval z]) h1 h2 hy hp he (ds := [c]) Bxm rfl hr (by simpa using hok) (by rw[hfm]; exact hnd)
 rw[hfm] at h5
 have hone:(a.eval z).oneCell'=true:=R1.one (by intro e; rw[e] at hok; cases hok) h1.ok hc
 refine wpList_step fun K hK=>?_
 rw[if_pos Bq6]
 unfold Oper.wp
 have h7:=h4 0 Aqd 
 obtain⟨old,hold⟩:=Option.isSome_iff_exists.1 h7.1
 rw[exec_store ho (w':=w.setCell ⟨b,o',none⟩ (a.eval z)) (by
  rw[h3]
  exact run_storeAt_one t b o' (a.eval z) old hone hold h7.2)]
 show K (a.put o.dst undef) _
 rw[hd]
 exact hK _ _ (h.h _ _ ⟨_,F,h5,h6⟩)
theorem L_steN {p kk i j n':Nat} {es:List (List T)} {e:List T} {ds:List V1} [hr':TyRow P t n'] (ho:o.op = .store t y z) (hg:o.guard=none) (hd:o.dst=none) (hy:st.ev y = .o (.c (.el p kk i j))) (hz:st.ev z = .o (.ag ds)) (hp:st.objs[p]? = some (.row kk es)) (he:es[i]? = some e) (hl:ds.length=n') (hj:j+ds.length≤e.length)
  (hok:ds.all (tkOk st.objs)=true) (hnd:(p::ds.flatMap tkR).Nodup)
  (h:AL P E ops QQ rest ⟨st.n,st.tmps.map fun e=>(e.1,e.2.kille p (ds.flatMap tkR)),gone ((st.objs.map (Ob.kille p (ds.flatMap tkR))).set p (.row kk (es.set i (splice e j (ds.map (tkT st.objs)))))) (ds.flatMap tkR)⟩):AL P E ops QQ (o::rest) st:=by
 refine⟨fun a w ⟨H,F,h1,h2⟩ => ?_⟩
 have hv:=h1.ev z
 rw[hz] at hv
 obtain⟨us,e5,hl5,hc5⟩:=hv
 obtain⟨b,o',h3,h4,H',h5,h6⟩:=ste_core (E:=E) (us:=us) h1 h2 hy hp he hj hl5 hc5 hok hnd
 have hone:∀ u∈us,u.oneCell'=true:=by
  intro u hu
  obtain⟨q,hq⟩:=List.getElem?_of_mem hu
  have hqd:q<ds.length:=by rw[←hl5]; exact Zj hq
  have hx:=Gqp.1 hok _ (Gqe hqd)
  exact R1.one (by intro e; rw[e] at hx; cases hx) h1.ok (hc5 q _ u (Gqg hqd) hq)
 refine wpList_step fun K hK=>?_
 rw[if_pos Bq6]
 unfold Oper.wp
 rw[exec_store ho (w':=w.setCells b o' us) (by
  rw[h3,e5]
  have:=run_storeAt_mid (P:=P) w b o' t us.toArray (fun q hq=>h4 q (by simp at hq; omega)) (by rw[hr'.size]; simp[hl5,hl]) (by
   rw[Array.all_eq_true_iff_forall_mem]
   intro u hu
   exact hone u (by simpa using hu))
  simpa using this)]
 show K (a.put o.dst undef) _
 rw[hd]
 exact hK _ _ (h.h _ _ ⟨_,F,h5,h6⟩)
end
end
end
end Go.Proofs.YtalaljeokcpfnaaGreat
