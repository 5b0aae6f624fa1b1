/-
  Rules, data and contracts of functions: part 19 of the proof.
  Conditions: those that each theorem names.
-/
import Derived.Test.YtoecjaohdnoenaaGreatDDLockRowk17
set_option linter.unusedSimpArgs false
set_option linter.unusedVariables false
set_option maxHeartbeats 8000000
namespace Go.Proofs.YtoecjaohdnoenaaGreat
section
open Go.RowKit

theorem OW.take {w:World} {k:Nat} {es:List (List T)} {v:Value} {fp:List Nat} (h:OW w (.sl k es) v fp) (hnd:fp.Nodup) {n:Nat} (hn:n≤es.length):∃ A c fp',v = .slice A es.length c∧es.length≤c∧OW w (.sl k (es.take n)) (.slice (if c=0 then A else A.map (·.add (0*k))) (n-0) (c-0)) fp'∧(∀ b∈fp',b∈fp)∧fp'.Nodup:=by
 cases h with
 |nil =>
  have:n=0:=by simpa using hn
  subst this
  exact⟨none,0,[],J,Gqi _,by simpa using OW.nil (w:=w) k,by simp,by simp⟩
 | sl _ b o _ c tid cur fz val fps hg hz hc hm hs hp hk hf hfk hv ht =>
  have hA:(if c=0 then some (⟨b,o,none⟩:Addr) else (some (⟨b,o,none⟩:Addr)).map (·.add (0*k)))=some ⟨b,o,none⟩:=by
   split
   ·rfl
   ·simp[Addr.add]
  have hl:(es.take n).length=n:=by simp; omega
  have hfl:fps.flatten.flatten=(fps.take n).flatten.flatten++(fps.drop n).flatten.flatten:=by
   rw[←Gqq,←Gqq,Gxh]
  refine⟨some ⟨b,o,none⟩,c,b::(fps.take n).flatten.flatten,J,hc,?_,fun x hx => ?_,?_⟩
  ·rw[hA]
   have h1:=OW.sl (w:=w) (es.take n) b o k c tid cur fz val (fps.take n) hg hz (by omega) hm hs hp (fun e he=>hk e (Gxk he)) (by simp[hf]) (fun f hf'=>hfk f (Gxk hf'))
    (fun i j hi hj=>hv i j (by omega) hj) (fun i j e t fs f g1 g2 g3 g4=>by
     have hi:=Yn g1
     rw[hl] at hi
     rw[Gxe,if_pos hi] at g1 g3
     exact ht i j e t fs f g1 g2 g3 g4)
   rw[hl] at h1
   simpa using h1
  ·rcases List.mem_cons.1 hx with rfl | hx
   ·simp
   ·exact Gq7 _ (by rw[hfl]; exact List.mem_append_left _ hx)
  ·rw[hfl,←List.cons_append] at hnd
   exact (List.nodup_append.1 hnd).1

def V1.tohd (p n:Nat):V1→V1
 | .hd q m=>match Nat.beq q p with
  |true=>match Nat.beq m n with
   |true => .ref p
   |false => .un
  |false => .hd q m
 |x=>x.kill [p]
theorem Wk.head0 {st:St} {p k:Nat} {es:List (List T)} (n:Nat) (hp:st.objs[p]? = some (.row k es)) (hn:n≤es.length):Wk st ⟨st.n,st.tmps.map fun e=>(e.1,e.2.mapk (V1.tohd p n)),(st.objs.map (Ob.mapk (V1.tohd p n))).set p (.row k (es.take n))⟩:=by
 intro w H F a h1
 obtain⟨v,fp,e1,e2⟩:=h1.ow hp
 have hnd:=h1.ok.nodup p
 rw[e1] at hnd
 obtain⟨A,c,fp'',hvA,hc,h3,h5,h4⟩:=e2.take hnd hn
 have hA:(if c=0 then A else A.map (·.add (0*k)))=A:=by
  split
  ·rfl
  ·cases A <;> simp[Addr.add]
 rw[hA,Gxv,Gxv] at h3
 have hkeep:Keeps w w fp:=⟨rfl,rfl,rfl,Gqi _,fun _ _ _=>rfl⟩
 obtain⟨hok,htn⟩:=h1.ok.turn (p:=p) (fp:=fp) (by rw[e1]; rfl) hkeep (.ow (.sl k (es.take n)) _ fp'') h3 h4 trivial (fun b hb => .inl (h5 b hb))
 have hone:∀ x v,R1 w H F x v→R1 w (H.put p (.ow (.sl k (es.take n)) (.slice A n c) fp'')) F (V1.tohd p n x) v:=fun x u hx=>by
  cases x with
  | hd q m =>
   simp only[V1.tohd]
   obtain⟨A',m',c',x,fp',e3,rfl⟩:=hx
   split
   ·rename_i hq
    have hqp:=Gxa hq
    subst hqp
    split
    ·rename_i hm
     have:=Gxa hm
     subst this
     rw[e1] at e3
     simp only[Pc.ow.injEq] at e3
     obtain⟨_,e4,_⟩:=e3
     rw[hvA] at e4
     simp only[Value.slice.injEq] at e4
     obtain⟨rfl,_,rfl⟩:=e4
     exact⟨_,_,Hs.put_self _ _ _⟩
    ·trivial
   ·rename_i hq
    have hqp:q≠p:=fun e=>by rw[e,show Nat.beq p p=true from Gxl p] at hq; cases hq
    exact⟨A',m',c',x,fp',by rw[Hs.put_ne _ _ hqp,e3],J⟩
  |_=>exact R1.killed h1.ok htn hx
 obtain⟨hplt,_⟩:=Gql.1 hp
 refine⟨_,h1.mapk (V1.tohd p n) hone hok ((st.objs.map (Ob.mapk (V1.tohd p n))).set p (.row k (es.take n))) (fun q => ?_),fun q b hb => ?_,htn.gh⟩
 ·by_cases hqp:q=p
  ·subst hqp
   rw[Ym (x := .row k (es.take n)) (by simp[hplt])]
   exact⟨_,_,Hs.put_self _ _ _⟩
  ·rw[Gqe,Gxd (Ne.symm hqp),Gqj]
   have h2:=h1.obs q
   rw[Gqe] at h2
   have h3:H.put p (.ow (.sl k (es.take n)) (.slice A n c) fp'') q=H q:=Hs.put_ne _ _ hqp
   cases ho:st.objs[q]? with
   |none=>rw[ho] at h2; exact h3.trans h2
   |some ob=>rw[ho] at h2; exact RB.mapk hone h3 h2
 ·by_cases hqp:q=p
  ·subst hqp
   rw[Hs.put_self] at hb
   exact⟨q,by rw[e1]; exact h5 b hb⟩
  ·exact⟨q,by rw[←Hs.put_ne H _ hqp]; exact hb⟩
def allP {α:Type} (f:α→Prop):List α→Prop
 | []=>True
 |x::l=>f x∧allP f l
theorem X5 {α β:Type} {f:α→Prop} {g h:α→β} (hgh:∀ x,f x→g x=h x):∀ {l:List α},allP f l→l.map g=l.map h
 | [],_=>rfl
 |x::l,hl=>by rw[List.map_cons,List.map_cons,hgh x hl.1,X5 hgh hl.2]
def V1.hdok (p n:Nat):V1→Prop
 | .hd q m=>match Nat.beq q p with
  |true=>m=n
  |false=>True
 |_=>True
def V2.hdok (p n:Nat):V2→Prop
 | .c x=>x.hdok p n
 | .ag xs=>allP (V1.hdok p n) xs
def V.hdok (p n:Nat):V→Prop
 | .o x=>x.hdok p n
 | .tu xs=>allP (V2.hdok p n) xs
 | .iff _ x=>x.hdok p n
def Ob.hdok (p n:Nat):Ob→Prop
 | .box cs=>allP (V1.hdok p n) cs
 | .gh _ x=>x.hdok p n
 | .lk x y=>x.hdok p n∧y.hdok p n
 |_=>True
def V1.tohe (p:Nat):V1→V1
 | .hd q m=>match Nat.beq q p with
  |true => .ref p
  |false => .hd q m
 |x=>x.kill [p]
theorem V1.tohe_eq {p n:Nat} (x:V1) (h:x.hdok p n):x.tohd p n=x.tohe p:=by
 cases x with
 | hd q m =>
  simp only[V1.tohd,V1.tohe]
  cases hq:Nat.beq q p with
  |true =>
   simp only[V1.hdok,hq] at h
   subst h
   simp only[show Nat.beq m m=true from Gxl m]
  |false=>rfl
 |_=>rfl
theorem V2.tohe_eq {p n:Nat} (x:V2) (h:x.hdok p n):x.mapk (V1.tohd p n)=x.mapk (V1.tohe p):=by
 cases x with
 |c x=>exact congrArg V2.c (V1.tohe_eq x h)
 |ag xs=>exact congrArg V2.ag (X5 (fun x hx=>V1.tohe_eq x hx) h)
theorem V.tohe_eq {p n:Nat} (x:V) (h:x.hdok p n):x.mapk (V1.tohd p n)=x.mapk (V1.tohe p):=by
 cases x with
 |o x=>exact congrArg V.o (V2.tohe_eq x h)
 |tu xs=>exact congrArg V.tu (X5 (fun x hx=>V2.tohe_eq x hx) h)
 |iff cs x=>exact congrArg (V.iff cs) (V2.tohe_eq x h)
theorem Ob.tohe_eq {p n:Nat} (x:Ob) (h:x.hdok p n):x.mapk (V1.tohd p n)=x.mapk (V1.tohe p):=by
 cases x with
 |box cs=>exact congrArg Ob.box (X5 (fun x hx=>V1.tohe_eq x hx) h)
 |gh i x=>exact congrArg (Ob.gh i) (V2.tohe_eq x h)
 |lk x y=>exact show Ob.lk _ _=Ob.lk _ _ by rw[V1.tohe_eq x h.1,V1.tohe_eq y h.2]
 |_=>rfl
theorem Wk.head {st:St} {p k:Nat} {es:List (List T)} (n:Nat) (hp:st.objs[p]? = some (.row k es)) (hn:n≤es.length) (ht:allP (fun e:Nat×V=>e.2.hdok p n) st.tmps) (ho:allP (Ob.hdok p n) st.objs):Wk st ⟨st.n,st.tmps.map fun e=>(e.1,e.2.mapk (V1.tohe p)),(st.objs.map (Ob.mapk (V1.tohe p))).set p (.row k (es.take n))⟩:=by
 have h:=Wk.head0 n hp hn
 rw[X5 (g:=fun e:Nat×V=>(e.1,e.2.mapk (V1.tohd p n))) (h:=fun e:Nat×V=>(e.1,e.2.mapk (V1.tohe p))) (fun e he=>by rw[V.tohe_eq e.2 he]) ht,X5 (fun x hx=>Ob.tohe_eq x hx) ho] at h
 exact h
section
variable {P:Program} {E:Env} {ops:Array Oper} {o:Oper} {st:St} {rest:List Oper} {QQ:Exit→St→Prop} {t:TypeId} {y u:Operand} {rs:List Nat} {j:Int} {m:Nat}
theorem q_hd {p kk:Nat} {es:List (List T)} {e:TypeId} {zs:List Value} {by_:Nat} [hm:TyMake P t e zs by_] (ho:o.op = .slice t y none (some u) none) (hg:o.guard=none) (hy:st.ev y = .o (.c (.ref p))) (hp:st.objs[p]? = some (.row kk es)) (hu:st.ev u = .o (.c (.rd rs (.v (.int .i64 j))))) (hkz:kk=zs.length) (h0:0≤j∧j≤es.length):Qt P ops o st (.o (.c (.hd p j.toNat))) [] m :=
 .pure hg fun a w H F h1=>by
  obtain⟨v,fp,e1,e2⟩:=h1.ow hp
  obtain⟨x',fp',e3⟩:=h1.v1 hy
  rw[e1] at e3
  simp only[Pc.ow.injEq] at e3
  obtain⟨_,hv,_⟩:=e3
  have hnd:=h1.ok.nodup p
  rw[e1] at hnd
  obtain⟨A,c,fp'',hvA,hc,h3,h5,h4⟩:=e2.take hnd (n:=j.toNat) (by omega)
  have hA:(if c=0 then A else A.map (·.add (0*kk)))=A:=by
   split
   ·rfl
   ·cases A <;> simp[Addr.add]
  have hrun:=run_slice (P:=P) (w:=w) (t:=t) (e:=e) (zs:=zs) (by_:=by_) (A:=A) (m:=es.length) (c:=c) none (some j) 0 j.toNat rfl ⟨h0.1,rfl⟩ (Nat.zero_le _) (by omega)
  rw[←hkz,hA,Gxv,Gxv] at hrun
  refine⟨.slice A j.toNat c,?_,?_⟩
  ·have hu1:=h1.plain hu
   have hvy:a.eval y = .slice A es.length c:=by rw[←hv,hvA]
   unfold execOp
   simp only[ho,Option.map_none,Gqu,hu1,hvy,Sem.run_bind]
   simp only[Option.map_none,Gqu] at hrun
   rw[hrun]
   rfl
  ·exact⟨A,es.length,c,_,_,by rw[e1,hvA],rfl⟩
end
section
variable {P:Program} {E:Env} {ops:Array Oper} {o:Oper} {st:St} {rest:List Oper} {QQ:Exit→St→Prop} {t:TypeId} {y u:Operand} {rs:List Nat} {j:Int}
end
end
section
open Go.RowKit

theorem Wk.nilbox {st:St} {p i:Nat} (k:Nat) {cs:List V1} {qs:List Nat} (hp:st.objs[p]? = some (.box cs)) (hc:cs[i]? = some (.rd qs (.v (.slice none 0 0)))):Wk st ⟨st.n,st.tmps,(st.objs.set p (.box (cs.set i (.ref st.objs.length)))) ++ [.row k []]⟩:=by
 intro w H F a h
 have hnil:H st.objs.length = .nil:=by
  have:=h.obs st.objs.length
  simpa[Gqe,RB] using this
 have hlt:=Yn hp
 obtain⟨H',hH'⟩:∃ H':Hs,H'=H.put st.objs.length (.ow (.sl k []) (.slice none 0 0) []):=⟨_,rfl⟩
 have hin:H' st.objs.length = .ow (.sl k []) (.slice none 0 0) []:=by rw[hH']; exact Hs.put_self _ _ _
 have hout:∀ q,q≠st.objs.length→H' q=H q:=fun q hq=>by rw[hH']; exact Hs.put_ne _ _ hq
 have hfp:∀ q,(H' q).fp=(H q).fp:=fun q=>by
  by_cases e:q=st.objs.length
  ·rw[e,hin,hnil]; rfl
  ·rw[hout q e]
 have hgh:∀ q i v,H' q = .gh i v→∃ r,H r = .gh i v:=fun q i v hq=>by
  by_cases e:q=st.objs.length
  ·rw[e,hin] at hq; cases hq
  ·exact⟨q,by rw[←hout q e]; exact hq⟩
 have hgr:Grow w H F w H' F:=⟨Below.refl _ _,fun q hq=>hout q fun e=>hq (by rw[e]; exact hnil),fun _ h=>h,fun _ h => .inl h,fun q hq b hb=>by rw[hfp,hq] at hb; simp[Pc.fp] at hb,hgh⟩
 refine⟨H',⟨⟨fun q => ?_,fun q=>by rw[hfp]; exact h.ok.nodup q,fun q r b h1 h2=>by rw[hfp] at h1 h2; exact h.ok.disj q r b h1 h2,fun q b h1=>by rw[hfp] at h1; exact h.ok.free q b h1,h.ok.flt⟩,fun q => ?_,fun e=>hgr.rv (h.tmp e),h.size,h.defers⟩,fun q b hb=>⟨q,by rw[←hfp]; exact hb⟩,hgh⟩
 ·by_cases e:q=st.objs.length
  ·rw[e,hin]; exact OW.nil _
  ·rw[hout q e]; exact h.ok.says q
 ·show RB w H' F q ((st.objs.set p (.box (cs.set i (.ref st.objs.length))) ++ [Ob.row k []]).getD q .gone)
  by_cases e:q=st.objs.length
  ·rw[show (st.objs.set p (.box (cs.set i (.ref st.objs.length))) ++ [Ob.row k []]).getD q .gone = .row k [] by simp[Gqe,e]]
   exact⟨_,_,by rw[e]; exact hin⟩
  ·rcases Gqp q st.objs.length with h1 | h1
   ·by_cases hqp:q=p
    ·subst hqp
     rw[show (st.objs.set q (.box (cs.set i (.ref st.objs.length))) ++ [Ob.row k []]).getD q .gone = .box (cs.set i (.ref st.objs.length)) by simp[Gqe,Gqy,h1]]
     obtain⟨g,t,vs,e1,e2,e3,e4⟩:=h.bx hp
     have hb:=h.obs q
     rw[Ym hp] at hb
     obtain⟨g,t,vs,k1,k2,k3⟩:=hb
     refine⟨g,t,vs,(hout q e).trans k1,by simpa using k2,fun j c u h4 h5 => ?_⟩
     rw[List.getElem?_set] at h4
     split at h4
     ·rename_i hij
      subst hij
      split at h4
      ·simp only[Option.some.injEq] at h4
       subst h4
       have h6:=k3 i _ u hc h5
       obtain⟨h7,_⟩:=RO.plain h6.1
       exact⟨⟨_,_,by rw[hin,←h7]⟩,h6.2⟩
      ·cases h4
     ·have h6:=k3 j c u h4 h5
      exact⟨hgr.r1 h6.1,h6.2⟩
    ·rw[show (st.objs.set p (.box (cs.set i (.ref st.objs.length))) ++ [Ob.row k []]).getD q .gone=st.objs.getD q .gone by
      rw[Gqe,Gqy (by simpa using h1),Gxd (Ne.symm hqp),Gqe]]
     by_cases hn:H q = .nil
     ·have h2:=h.obs q
      have h3:H' q = .nil:=(hout q e).trans hn
      cases ho:st.objs.getD q .gone with
      |gone=>exact h3
      |hole=>trivial
      |box cs=>rw[ho] at h2; obtain⟨a,t,vs,e,_⟩:=h2; rw[hn] at e; cases e
      |row k es=>rw[ho] at h2; obtain⟨v,fp,e⟩:=h2; rw[hn] at e; cases e
      |gh i x=>rw[ho] at h2; obtain⟨v,e,_⟩:=h2; rw[hn] at e; cases e
      |lk x y=>rw[ho] at h2; obtain⟨v,e,_⟩:=h2; rw[hn] at e; cases e
     ·exact hgr.rb hn (h.obs q)
   ·rw[show (st.objs.set p (.box (cs.set i (.ref st.objs.length))) ++ [Ob.row k []]).getD q .gone=Ob.gone by
     rw[Gqe,List.getElem?_eq_none (by simp; omega)]; rfl]
    refine (hout q e).trans ?_
    have:=h.obs q
    simpa[Gqe,RB,h1] using this
section
variable {P:Program} {ops:Array Oper} {o:Oper} {st:St} {m:Nat} {t e:TypeId} {y z:Operand} {zs:List Value} {by_:Nat}
theorem q_bslicez [hm:TyMake P t e zs by_] (ho:o.op = .buildSlice t 0 #[]) (hg:o.guard=none) (hz0:zs.isEmpty=false):Qt P ops o st (.o (.c (.sb m 0 zs.length))) [.box []] m :=
 .new hg fun a w H F hr hn=>by
  obtain⟨inf,hi,hzz⟩:=Option.map_eq_some_iff.1 hm.info
  refine⟨.slice (some ⟨w.heap.size,0,none⟩) 0 0,w.alloc (.cells #[] e),.box w.heap.size e [],?_,(Below.refl _ _).alloc (Gqi _) _,heap_alloc_new w _,by simp[Pc.fp,Pc.ng],fun b hb=>by simp[Pc.fp] at hb; omega,fun H' hgr hq=>⟨⟨_,_,_,hq,J,fun i c u h4 h5=>by simp at h4⟩,_,_,_,hq,by simp,Nat.zero_le _,J⟩⟩
  unfold execOp
  simp[ho,Instr.buildSlice,run_underlying hm.slice,Go.sizeOf,typeInfo,hi,Instr.fill,newRow]
  rw[show (Array.range 0).map (fun _:Nat=>(default:Value))=#[] from Array.eq_empty_of_size_eq_zero (by simp)]
theorem run_append_z {tx ty:TypeId} [hm:TyMake P t e zs by_] {w:World} (A:Option Addr) {x:Value} {n:Nat} {news:List Value} (hsrc:Src P zs.length tx x n news w) (hn:0<n) (hb:n*by_≤140737488355328) (h63:n≤9223372036854775807) :
  (Builtin.append_ #[t,tx] ty #[.slice A 0 0,x]).run P w=(Builtin.append_ #[t,tx] ty #[.slice none 0 0,x]).run P w:=by
 obtain⟨i,hi,hzz⟩:=Option.map_eq_some_iff.1 hm.info
 simp only[Prod.mk.injEq] at hzz
 obtain⟨hz1,hs,hb1⟩:=hzz
 obtain⟨z,hz2,hz3⟩:=Option.map_eq_some_iff.1 hz1
 have hsrc:Src P i.size tx x n news w:=by rw[hs]; exact hsrc
 have h0:((0+n:Nat):Int)≤9223372036854775807:=by omega
 rw[run_append_grow_src (P:=P) (w:=w) t tx ty e i z hm.slice hi hz2 A 0 0 [] (by cases A <;> simp[Builtin.firstCells,loadCells,loadCellsFrom]) x n news hsrc (by omega) h0 (growslice_fits (by omega) (by rw[hb1]; simpa using hb)),
  run_append_grow_src (P:=P) (w:=w) t tx ty e i z hm.slice hi hz2 none 0 0 [] (by simp[Builtin.firstCells]) x n news hsrc (by omega) h0 (growslice_fits (by omega) (by rw[hb1]; simpa using hb))]
theorem src_any [hm:TyMake P t e zs by_] {w:World} {H:Hs} {F:Nat→Prop} {a:Act} (h:R0 w H F st a) {es':List (List T)} {x:V1} {u:Value} {kk:Nat} (hkz:kk=zs.length) (hz0:zs ≠ []) (hx:R1 w H F x u) (hs:srcOf st.objs x=some es') (hpl:plainT es') (hkk:∀ e∈es',e.length=kk):Src P kk t u es'.length (flatV (plainV' es') es'.length kk) w:=by
 obtain⟨A,c,rfl,hsrc⟩:=src_form h hx hs
 have hcell:∀ i j (hi:i<es'.length) (hj:j<kk),∃ b o',A=some ⟨b,o',none⟩∧w.cell? ⟨b,o'+i*kk+j,none⟩=some (plainV' es' i j)∧(plainV' es' i j).oneCell'=true:=by
  intro i j hi hj
  have h6:=Gqf hi
  obtain⟨b,o',k,hA,hp,hk,hc⟩:=hsrc i _ h6
  have h7:k=kk:=by rw[←hk,hkk _ (Gqg hi)]
  subst h7
  have h8:j<(es'[i]).length:=by omega
  obtain⟨u',h9,h10⟩:=hc j _ (Gqf h8)
  obtain⟨u'',h11⟩:=hpl _ (Gqg hi) _ (Gqg h8)
  rw[h11] at h10
  obtain⟨rfl,h12⟩:=RO.plain h10
  rw[plainV'_at h6 (by rw[Gqf h8,h11])]
  exact⟨b,o',hA,h9,h12⟩
 refine src_slice (zs:=zs) es' (plainV' es') A c (fun hne => ?_) fun i j hi hj=>by obtain⟨_,_,_,_,h⟩:=hcell i j hi hj; exact h
 have hl:0<es'.length:=Gxt.2 hne
 have hk0:0<kk:=by rw[hkz]; exact Gxt.2 hz0
 obtain⟨b,o',hA,_⟩:=hcell 0 0 hl hk0
 refine⟨b,o',hA,fun i j hi hj => ?_⟩
 obtain⟨b',o'',hA',h1,_⟩:=hcell i j hi hj
 rw[hA] at hA'
 simp only[Option.some.injEq,Addr.mk.injEq] at hA'
 obtain⟨rfl,rfl,_⟩:=hA'
 exact h1

theorem q_appz {ps:List Nat} {q kk:Nat} {es':List (List T)} [hm:TyMake P t e zs by_] (ho:o.op = .call { callee := .builtin .append,args:=#[y,z],argTypes:=#[t,t] }) (hg:o.guard=none) (hy:st.ev y = .o (.c (.sb q 0 kk))) (hz:st.ev z = .o (.c (.rd ps (.sl kk es')))) (hkz:kk=zs.length) (hz0:zs.isEmpty=false)
  (hpl:plainT es') (hkk:∀ e∈es',e.length=kk) (hpos:0<es'.length) (hb:es'.length*by_≤140737488355328) (h63:es'.length≤9223372036854775807):Qt P ops o st (.o (.c (.ref m))) [.row kk es'] m :=
 .new hg fun a w H F hr hn=>by
  have hzn:zs ≠ []:=by intro e; rw[e] at hz0; cases hz0
  subst hkz
  obtain⟨g,tt,vs,b1,b2,b3,b4⟩:=hr.v1 hy
  obtain⟨w1,hw1⟩:∃ w1,w1=w:=⟨_,rfl⟩
  have hs:srcOf st.objs (.rd ps (.sl zs.length es'))=some es':=rfl
  obtain⟨v',w',fp'',hr1,h3,h4,h5,h6⟩:=append_plain (P:=P) (o:=o) (t:=t) (kk:=zs.length) (es := []) hr (OW.nil _) List.nodup_nil rfl hzn (hr.v1 hz) hs hpl hkk (by simpa using hb) (by simpa using h63)
  have hbel:Below w.heap.size w w':=⟨h6.os,h6.tape,h6.output,h6.size,fun b hb=>h6.block b hb (by simp)⟩
  refine⟨v',w',.ow (.sl zs.length es') v' fp'',?_,hbel,h3,⟨h4,trivial⟩,fun b hb=>(h5 b hb).resolve_left (by simp),fun H' hgr hq=>⟨⟨_,_,hq⟩,_,_,hq⟩⟩
  refine exec_append ho ?_
  have h7:=src_any (P:=P) (t:=t) (e:=e) (by_:=by_) (kk:=zs.length) hr rfl hzn (hr.v1 hz) hs hpl hkk
  rw[b4,run_append_z (P:=P) (some ⟨g,0,none⟩) h7 hpos hb h63]
  exact hr1
end
end
section
open Go.RowKit

abbrev Seen:=Bool×Bool×Bool×Bool
def tileM (e:Bool) (t:Int) (s:Seen×Bool):Option (Seen×Bool) :=
 if t=35 then some s else if e then none else
 if t=49 then (if s.1.1 then none else some ((true,s.1.2),true)) else
 if t=50 then (if s.1.2.1 then none else some ((s.1.1,true,s.1.2.2),true)) else
 if t=51 then (if s.1.2.2.1 then none else some ((s.1.1,s.1.2.1,true,s.1.2.2.2),true)) else
 if t=52 then (if s.1.2.2.2 then none else some ((s.1.1,s.1.2.1,s.1.2.2.1,true),true)) else
 if t=111∨t=46 then some (s.1,true) else none
def colsM (row:ByteArray) (er:Bool) (w:Nat) (s:Seen×Bool):Nat→Option (Seen×Bool)
 |0=>some s
 |c+1=>match colsM row er w s c with
  |none=>none
  |some s'=>tileM (er || decide (c=0) || decide (c+1=w)) (byteAt row c) s'
def rowsM (rows:List ByteArray) (w:Nat):Nat→Option (Seen×Bool)
 |0=>some ((false,false,false,false),false)
 | r+1=>match rowsM rows w r with
  |none=>none
  |some s=>match rows[r]? with
   |none=>none
   |some row=>if row.size=w then colsM row (decide (r=0) || decide (r+1=rows.length)) w s w else none
def widthM (rows:List ByteArray):Nat:=match rows[0]? with
 |some row=>row.size
 |none=>0
def levelOk (l:TLevel):Bool:=decide (3≤l.Rows.length)&&decide (l.Rows.length≤12)&&decide (4≤widthM l.Rows)&&decide (widthM l.Rows≤20)&&match rowsM l.Rows (widthM l.Rows) l.Rows.length with
 |some s=>s.2
 |none=>false

@[reducible] def vb (b:Bool):V1 := .rd [] (.v (.bool b))
section
variable {rows:List ByteArray} {row:ByteArray} {w k c:Nat} {s s':Seen×Bool} {er:Bool}
theorem rows_none {n:Nat} (h:rowsM rows w k=none) (hk:k≤n):rowsM rows w n=none:=by
 induction n with
 | zero => have:k=0:=by omega
           subst this; exact h
 | succ n ih =>
  rcases Gqp n k with h1 | h1
  ·have:k=n+1:=by omega
   subst this; exact h
  ·simp[rowsM,ih h1]
theorem cols_none {n:Nat} (h:colsM row er w s c=none) (hc:c≤n):colsM row er w s n=none:=by
 induction n with
 | zero => have:c=0:=by omega
           subst this; exact h
 | succ n ih =>
  rcases Gqp n c with h1 | h1
  ·have:c=n+1:=by omega
   subst this; exact h
  ·simp[colsM,ih h1]
theorem rows_next (h:rowsM rows w k=some s) (hk:k<rows.length) (hw:rows[k].size=w):rowsM rows w (k+1)=colsM rows[k] (decide (k=0) || decide (k+1=rows.length)) w s w:=by
 rw[rowsM,h]
 simp[Gqf hk,hw]
theorem rows_bad (hk:k<rows.length) (hw:rows[k].size≠w):rowsM rows w (k+1)=none:=by
 rw[rowsM]
 cases rowsM rows w k with
 |none=>rfl
 |some s=>simp[Gqf hk,hw]
theorem cols_next (h:colsM row er w s c=some s'):colsM row er w s (c+1)=tileM (er || decide (c=0) || decide (c+1=w)) (byteAt row c) s':=by
 rw[colsM,h]
theorem level_no {l:TLevel} (hk:k<l.Rows.length) (hw:widthM l.Rows=w) (h:rowsM l.Rows w (k+1)=none):levelOk l=false:=by
 unfold levelOk
 rw[hw,rows_none h (by omega)]
 simp
theorem width_at (h:0<rows.length):widthM rows=rows[0].size:=by simp[widthM,Gqf h]
end
end
section
open Go.RowKit

theorem Xq (x:TLevel) (hg:Enc.gd x):Con Tryz.prog 163 [] [ag x] [] (B (levelOk x)):=by
 obtain⟨rows⟩:=x
 have hn:Enc.gd rows:=hg
 have hn1:=hn.1
 have hlx:=Yc rows
 refine Con.of Tryz.func163 J Tryz.ntmps163 J (fun E => ?_)
 refine Wz [36,31,10,180,35,149,268,70] ?_
 refine Xb J (fun h => ?_) (fun h => ?_)
 ·simp only[Gqr,decide_eq_true_eq] at h
  refine Wz [52] ?_
  exact Uq J (Ur [] J J (Xk (by simp[levelOk]; omega)))
 simp only[Gqn,decide_eq_false_iff_not] at h
 have h0:0<rows.length:=by omega
 have hat0:(els rows)[(0:Int).toNat]? = some (Enc.e rows[0]):=Yb h0
 have hw:=width_at h0
 refine Wz [25,29,47,137,66,180,0,115,293,70] ?_
 refine Xb J (fun h1 => ?_) (fun h1 => ?_)
 ·simp only[Gqr,decide_eq_true_eq] at h1
  refine Wz [52] ?_
  exact Uq J (Ur [] J J (Xk (by simp[levelOk]; omega)))
 simp only[Gqn,decide_eq_false_iff_not] at h1
 obtain⟨w,hw'⟩:∃ w,w=rows[0].size:=⟨_,rfl⟩
 rw[←hw'] at hw h1
 refine Wz [25,5,60,22,31,10,133,76] ?_;refine Xj (fun m st=>∃ (k:Nat) (s:Seen×Bool),k+m=rows.length∧(rowsM rows w k=some s)∧st=(⟨_,[(1,.o (.c (.ptr 0 0))),(3,I w),(4,.o (.c (.ptr 1 0))),(5,B s.2),(33,L rows),(34,I (els rows).length),(35,I k)],[.box [.rd [] (sl rows)],.box [vb false,vb s.1.1,vb s.1.2.1,vb s.1.2.2.1,vb s.1.2.2.2]]⟩:St)) (rows.length) ⟨(fun (k:Nat) (s:Seen×Bool)=>(⟨_,[(1,.o (.c (.ptr 0 0))),(3,I w),(4,.o (.c (.ptr 1 0))),(5,B s.2),(33,L rows),(34,I (els rows).length),(35,I k)],[.box [.rd [] (sl rows)],.box [vb false,vb s.1.1,vb s.1.2.1,vb s.1.2.2.1,vb s.1.2.2.2]]⟩:St)) 0 (((false,false,false,false),false)),⟨0,((false,false,false,false),false),by omega,J,J⟩,Up [0,1] J (by kernel_rfl) (.c J (.cons (Xs (by omega)) (.c J (.c J (.c J (.c J (.c J (.nil))))))))⟩ ?_
 rintro m_A _ ⟨k,s,hk_A,hp_A,rfl⟩
 refine Wz [5,63,14] ?_
 refine Xb J (fun h => ?_) (fun h => ?_)
 ·have h3:k<rows.length:=by have:=Gqc h; omega
  have hat:=Yb h3
  have hgk:rows[k].size≤9223372036854775807:=hn.2 _ (Gqg h3)
  refine Wz [105,47,87,66,137,0,131,6] ?_
  refine Xb J (fun h4 => ?_) (fun h4 => ?_)
  ·have h4:¬rows[k].size=w:=by have:=Gqc h4; omega
   refine Wz [91,108,142,55] ?_
   exact Uq J (Ur [] J J (Xk (level_no (l:=⟨rows⟩) h3 hw (rows_bad h3 h4)).symm))
  have h4:rows[k].size=w:=by have:=Gqd h4; omega
  have hrn:=rows_next hp_A h3 h4
  obtain⟨er,her⟩:∃ er,er=(decide (k=0) || decide (k+1=rows.length)):=⟨_,rfl⟩
  rw[←her] at hrn
  refine Wz [25,22,76] ?_;refine Xj (fun m st=>∃ (c:Nat) (u:Seen×Bool),c+m=w∧(colsM rows[k] er w s c=some u)∧st=(⟨_,[(1,.o (.c (.ptr 0 0))),(3,I w),(4,.o (.c (.ptr 1 0))),(5,B u.2),(6,I k),(7,S rows[k]),(8,I c),(33,L rows),(34,I (els rows).length),(35,I k)],[.box [.rd [] (sl rows)],.box [vb false,vb u.1.1,vb u.1.2.1,vb u.1.2.2.1,vb u.1.2.2.2]]⟩:St)) (w) ⟨_,⟨0,s,by omega,J,J⟩,Ux [0,1]⟩ ?_
  rintro m_D _ ⟨c,u,hk_D,hp_D,rfl⟩
  refine Wz [13,63] ?_
  refine Xb J (fun h5 => ?_) (fun h5 => ?_)
  ·have h5:c<w:=by have:=Gqc h5; omega
   have hcn:=cols_next hp_D
   obtain⟨t,ht⟩:∃ t,byteAt rows[k] (c:Int).toNat=t:=⟨_,rfl⟩
   rw[show byteAt rows[k] c=t from ht] at hcn
   have htb:0≤t∧t≤255:=ht▸X9 _ _
   obtain⟨⟨sa,sb,sc,sd⟩,so⟩:=u
   obtain⟨e,he⟩:∃ e,e=(er || decide (c=0) || decide (c+1=w)):=⟨_,rfl⟩
   rw[←he] at hcn
   refine Wz [8,17,256,83,205,0,115,198,227,236] ?_;refine zx (Vb J (.hit (.hit (.hit (.hit .stop)))) (fun hgrd=>Xc J J J J (by omega))) J ?_;refine zx (Vb J (.hit (.hit (.hit (.hit (.hit .stop))))) (fun hgrd=>Zn J J J J)) J ?_;refine Wz [34,0,115] ?_;refine zx (Vb J (.hit .stop) (fun hgrd=>Zn J J J J)) J ?_;refine Wz [34,0,115,269] ?_;refine zx (Vb J (.hit (.hit .stop)) (fun hgrd=>Xc J J J J (by omega))) J ?_;refine zx (Vb J (.hit (.hit (.hit .stop))) (fun hgrd=>Zn J J J J)) J ?_;refine Wz [34,4,13,169,270,42,6] ?_
   have hee:(decide ((k:Int)=0) || decide ((k:Int)=((els rows).length:Int)-1) || decide ((c:Int)=0) || decide ((c:Int)=(w:Int)-1))=e:=by
    rw[he,her,hlx]
    have g1:decide ((k:Int)=0)=decide (k=0):=by simp
    have g2:decide ((k:Int)=(rows.length:Int)-1)=decide (k+1=rows.length):=decide_eq_decide.2 (by omega)
    have g3:decide ((c:Int)=0)=decide (c=0):=by simp
    have g4:decide ((c:Int)=(w:Int)-1)=decide (c+1=w):=decide_eq_decide.2 (by omega)
    rw[g1,g2,g3,g4]
   clear he her
   have hbad:colsM rows[k] er w s (c+1)=none→levelOk ⟨rows⟩=false:=fun hc=>level_no (l:=⟨rows⟩) h3 hw (hrn.trans (cols_none hc (by omega)))
   refine Xb J (fun h6 => ?_) (fun h6 => ?_)
   ·rw[hee] at h6
    simp only[Gqh,decide_eq_true_eq] at h6
    refine Wz [91,108,142,119] ?_
    exact Uq J (Ur [] J J (Xk (hbad (hcn.trans (by simp[tileM,h6]))).symm))
   rw[hee] at h6
   have h7:t=35∨e=false:=by
    simp only[Gxs,decide_eq_false_iff_not,Classical.not_not] at h6
    exact h6.symm
   clear h6 hee
   refine AWP.pre (st':=(⟨_,[(1,.o (.c (.ptr 0 0))),(3,I w),(4,.o (.c (.ptr 1 0))),(5,B so),(6,I k),(7,S rows[k]),(8,I c),(9,VI .u8 t),(33,L rows),(34,I (els rows).length),(35,I k)],[.box [.rd [] (sl rows)],.box [vb false,vb sa,vb sb,vb sc,vb sd]]⟩:St)) ?_ (Ux [0,1])
   rcases h7 with rfl | h7
   ·refine Wz [105] ?_
    refine Wz [294,40,7,106,18,237,40,7,40,7,106,134,185,186,18,237,53] ?_
    exact⟨w-(c+1),by omega,_,⟨c+1,((sa,sb,sc,sd),so),by omega,hcn.trans (by simp[tileM]),J⟩,Ux [0,1]⟩
   subst h7
   rcases (by omega:t=35∨t=49∨t=50∨t=51∨t=52∨t=111∨t=46∨(t≠35∧t≠49∧t≠50∧t≠51∧t≠52∧t≠111∧t≠46)) with rfl | rfl | rfl | rfl | rfl | rfl | rfl | ht7
   ·refine Wz [105] ?_
    refine Wz [294,40,7,106,18,237,40,7,40,7,106,134,185,186,18,237,53] ?_
    exact⟨w-(c+1),by omega,_,⟨c+1,((sa,sb,sc,sd),so),by omega,hcn.trans (by simp[tileM]),J⟩,Ux [0,1]⟩
   ·refine Wz [105] ?_
    refine Wz [199,28,213,24,4,82,75,161,214,188,6] ?_
    refine Xb J (fun h8 => ?_) (fun h8 => ?_)
    ·have h8:sa=true:=h8
     subst h8
     refine Wz [91,108,108,142,119] ?_
     exact Uq J (Ur [] J J (Xk (hbad (hcn.trans (by simp[tileM]))).symm))
    ·have h8:sa=false:=h8
     subst h8
     refine Wz [25,23,0,161,214,215,89,185,186,18,155,11,23,99] ?_
     exact⟨w-(c+1),by omega,_,⟨c+1,((true,sb,sc,sd),true),by omega,hcn.trans (by simp[tileM]),J⟩,Ux [0,1]⟩
   ·refine Wz [105] ?_
    refine Wz [199,28,213,24,4,82,75,161,214,188,6] ?_
    refine Xb J (fun h8 => ?_) (fun h8 => ?_)
    ·have h8:sb=true:=h8
     subst h8
     refine Wz [91,108,108,142,119] ?_
     exact Uq J (Ur [] J J (Xk (hbad (hcn.trans (by simp[tileM]))).symm))
    ·have h8:sb=false:=h8
     subst h8
     refine Wz [25,23,0,161,214,215,89,185,186,18,155,11,23,99] ?_
     exact⟨w-(c+1),by omega,_,⟨c+1,((sa,true,sc,sd),true),by omega,hcn.trans (by simp[tileM]),J⟩,Ux [0,1]⟩
   ·refine Wz [105] ?_
    refine Wz [199,28,213,24,4,82,75,161,214,188,6] ?_
    refine Xb J (fun h8 => ?_) (fun h8 => ?_)
    ·have h8:sc=true:=h8
     subst h8
     refine Wz [91,108,108,142,119] ?_
     exact Uq J (Ur [] J J (Xk (hbad (hcn.trans (by simp[tileM]))).symm))
    ·have h8:sc=false:=h8
     subst h8
     refine Wz [25,23,0,161,214,215,89,185,186,18,155,11,23,99] ?_
     exact⟨w-(c+1),by omega,_,⟨c+1,((sa,sb,true,sd),true),by omega,hcn.trans (by simp[tileM]),J⟩,Ux [0,1]⟩
   ·refine Wz [105] ?_
    refine Wz [199,28,213,24,4,82,75,161,214,188,6] ?_
    refine Xb J (fun h8 => ?_) (fun h8 => ?_)
    ·have h8:sd=true:=h8
     subst h8
     refine Wz [91,108,108,142,119] ?_
     exact Uq J (Ur [] J J (Xk (hbad (hcn.trans (by simp[tileM]))).symm))
    ·have h8:sd=false:=h8
     subst h8
     refine Wz [25,23,0,161,214,215,89,185,186,18,155,11,23,99] ?_
     exact⟨w-(c+1),by omega,_,⟨c+1,((sa,sb,sc,true),true),by omega,hcn.trans (by simp[tileM]),J⟩,Ux [0,1]⟩
   ·refine Wz [105] ?_
    refine Wz [199,28] ?_;refine zx (Zx (b:=false) J J J J (by decide)) J ?_;refine Wz [24,106,18,155,28,237,24,40,7,106,134,185,186,18,155,11,23,99] ?_
    exact⟨w-(c+1),by omega,_,⟨c+1,((sa,sb,sc,sd),true),by omega,hcn.trans (by simp[tileM]),J⟩,Ux [0,1]⟩
   ·refine Wz [105] ?_
    refine Wz [294,40,7,106,18,155,28,155,24,28,237,24,106,134,185,186,18,155,11,23,99] ?_
    exact⟨w-(c+1),by omega,_,⟨c+1,((sa,sb,sc,sd),true),by omega,hcn.trans (by simp[tileM]),J⟩,Ux [0,1]⟩
   ·refine Wz [105,235] ?_
    refine Wz [0,169] ?_;refine zx (Qt.grdT J J J (.hit .stop) (fun hgrd=>q_leq J J J J)) J ?_;refine Wz [42,4] ?_
    refine Xb J (fun h8 => ?_) (fun h8 => ?_)
    ·simp only[Gqh,decide_eq_true_eq] at h8
     omega
    refine Wz [18,131,0,169,270,42,0,169,270,42,4] ?_
    refine Xb J (fun h9 => ?_) (fun h9 => ?_)
    ·refine Wz [91,193,108,271] ?_
     refine Wz [108,119] ?_
     exact Uq J (Ur [] J J (Xk (hbad (hcn.trans (by simp[tileM,ht7]))).symm))
    ·simp only[Gxs,decide_eq_false_iff_not,Classical.not_not] at h9
     omega
  ·have h5:c=w:=by have:=Gqd h5; omega
   rw[h5] at hp_D
   rw[hp_D] at hrn
   refine Wz [150,100] ?_
   exact⟨rows.length-(k+1),by omega,_,⟨k+1,u,by omega,hrn,J⟩,Ux [0,1]⟩
 ·have h3:¬((k:Int)<(els rows).length):=Gqd h
  have hk:k=rows.length:=by omega
  subst hk
  refine Wz [54] ?_
  exact Uq J (Ur [] J J (Xk (by
   unfold levelOk
   rw[hw,hp_A]
   have:3≤rows.length∧rows.length≤12∧4≤w∧w≤20:=by omega
   simp[this])))
end
section
open Go.RowKit

theorem S_LevelOk (x:TLevel) (hg:Enc.gd x):Con Tryz.prog 154 [] [ag x] [] (B (levelOk x)):=by
 obtain⟨rows⟩:=x
 have hn:Enc.gd rows:=hg
 have hn1:=hn.1
 have hlx:=Yc rows
 refine Con.of Tryz.func154 J Tryz.ntmps154 J (fun E => ?_)
 refine Wz [36,31,10] ?_;refine zx (Qj J J (Xy (els rows).length 3 12) J) J ?_;refine Wz [2,6] ?_
 refine Xb J (fun h => ?_) (fun h => ?_)
 ·refine Wz [52] ?_
  exact Uq J (Ur [] J J (Xk (by simp[inR] at h; simp[levelOk]; omega)))
 have h:3≤rows.length∧rows.length≤12:=by simp[inR] at h; omega
 have h0:0<rows.length:=by omega
 have hat0:(els rows)[(0:Int).toNat]? = some (Enc.e rows[0]):=Yb h0
 have hw:=width_at h0
 obtain⟨w,hw'⟩:∃ w,w=rows[0].size:=⟨_,rfl⟩
 rw[←hw'] at hw
 have hg0:rows[0].size≤9223372036854775807:=hn.2 _ (Gqg h0)
 refine Wz [25,29,47,137,4,22,5,125,4,26] ?_;refine Xj (fun m st=>∃ (k:Nat) (s:Seen×Bool),k+m=rows.length∧(rowsM rows w k=some s∧(0<k→4≤w∧w≤20))∧st=(⟨_,[(1,.o (.c (.ptr 0 0))),(3,I w),(4,B s.2),(5,.o (.c (.sb 1 4 1))),(6,I k)],[.box [.rd [] (sl rows)],.box [vb s.1.1,vb s.1.2.1,vb s.1.2.2.1,vb s.1.2.2.2]]⟩:St)) (rows.length) ⟨(fun (k:Nat) (s:Seen×Bool)=>(⟨_,[(1,.o (.c (.ptr 0 0))),(3,I w),(4,B s.2),(5,.o (.c (.sb 1 4 1))),(6,I k)],[.box [.rd [] (sl rows)],.box [vb s.1.1,vb s.1.2.1,vb s.1.2.2.1,vb s.1.2.2.2]]⟩:St)) 0 (((false,false,false,false),false)),⟨0,((false,false,false,false),false),by omega,⟨J,by omega⟩,J⟩,Up [0,1] J (by kernel_rfl) (.c J (.cons (Xs (by omega)) (.c J (.c J (.c J (.nil))))))⟩ ?_
 rintro m_A _ ⟨k,s,hk_A,hp_A,rfl⟩
 refine Wz [75,21,238] ?_
 refine Xb J (fun h => ?_) (fun h => ?_)
 ·have h3:k<rows.length:=by have:=Gqc h; omega
  have hat:=Yb h3
  have hwc:((rows[0].size:Nat):Int)=w:=by omega
  have hgk:rows[k].size≤9223372036854775807:=hn.2 _ (Gqg h3)
  refine Wz [8,31,0,47,137,0,131,0,115] ?_;refine zx (Vb J (.hit .stop) (fun hgrd=>Qj J J (Xy w 4 20) J)) J ?_;refine Wz [197,70] ?_
  refine Xb J (fun h4 => ?_) (fun h4 => ?_)
  ·simp only[Gqr,decide_eq_true_eq,Gq8,inR,Gxs,decide_eq_false_iff_not] at h4
   refine Wz [91,108,142,55] ?_
   refine Uq J (Ur [] J J (Xk ?_))
   by_cases h4':rows[k].size=w
   ·have:¬(4≤w∧w≤20):=by omega
    simp only[levelOk,hw]
    rcases Gqp w 4 with h9 | h9
    ·simp[show ¬4≤w by omega]
    ·simp[show ¬w≤20 by omega]
   ·exact (level_no (l:=⟨rows⟩) h3 hw (rows_bad h3 h4')).symm
  simp only[Gqn,decide_eq_false_iff_not,Gqz,inR,Gqh,decide_eq_true_eq] at h4
  have h1:4≤w∧w≤20:=by omega
  have h4:rows[k].size=w:=by omega
  have hrn:=rows_next hp_A.1 h3 h4
  obtain⟨er,her⟩:∃ er,er=(decide (k=0) || decide (k+1=rows.length)):=⟨_,rfl⟩
  rw[←her] at hrn
  refine Wz [25,22,76] ?_;refine Xj (fun m st=>∃ (c:Nat) (u:Seen×Bool),c+m=w∧(colsM rows[k] er w s c=some u)∧st=(⟨_,[(1,.o (.c (.ptr 0 0))),(3,I w),(4,B u.2),(5,.o (.c (.sb 1 4 1))),(6,I k),(7,I c)],[.box [.rd [] (sl rows)],.box [vb u.1.1,vb u.1.2.1,vb u.1.2.2.1,vb u.1.2.2.2]]⟩:St)) (w) ⟨_,⟨0,s,by omega,J,J⟩,Ux [0,1]⟩ ?_
  rintro m_D _ ⟨c,u,hk_D,hp_D,rfl⟩
  refine Wz [13,63] ?_
  refine Xb J (fun h5 => ?_) (fun h5 => ?_)
  ·have h5:c<w:=by have:=Gqc h5; omega
   have hcn:=cols_next hp_D
   obtain⟨t,ht⟩:∃ t,byteAt rows[k] (c:Int).toNat=t:=⟨_,rfl⟩
   rw[show byteAt rows[k] c=t from ht] at hcn
   have htb:0≤t∧t≤255:=ht▸X9 _ _
   obtain⟨⟨sa,sb,sc,sd⟩,so⟩:=u
   obtain⟨e,he⟩:∃ e,e=(er || decide (c=0) || decide (c+1=w)):=⟨_,rfl⟩
   rw[←he] at hcn
   refine Wz [8,62,47,0,256,83,205,0,115] ?_;refine zx (Vb J (.hit .stop) (fun hgrd=>Zn J J J J)) J ?_;refine Wz [34,0,115,198,227,236] ?_;refine zx (Vb J (.hit (.hit (.hit (.hit .stop)))) (fun hgrd=>Xc J J J J (by omega))) J ?_;refine zx (Vb J (.hit (.hit (.hit (.hit (.hit .stop))))) (fun hgrd=>Zn J J J J)) J ?_;refine Wz [34,0,115,269] ?_;refine zx (Vb J (.hit (.hit .stop)) (fun hgrd=>Xc J J J J (by omega))) J ?_;refine zx (Vb J (.hit (.hit (.hit .stop))) (fun hgrd=>Zn J J J J)) J ?_;refine Wz [34,4,212,18,205,4] ?_
   have hee:(decide ((k:Int)=0) || decide ((c:Int)=0) || decide ((k:Int)=((els rows).length:Int)-1) || decide ((c:Int)=(w:Int)-1))=e:=by
    rw[he,her,hlx]
    have g1:decide ((k:Int)=0)=decide (k=0):=by simp
    have g2:decide ((k:Int)=(rows.length:Int)-1)=decide (k+1=rows.length):=decide_eq_decide.2 (by omega)
    have g3:decide ((c:Int)=0)=decide (c=0):=by simp
    have g4:decide ((c:Int)=(w:Int)-1)=decide (c+1=w):=decide_eq_decide.2 (by omega)
    rw[g1,g2,g3,g4]
    cases decide (k=0) <;> cases decide (c=0) <;> cases decide (k+1=rows.length) <;> rfl
   clear he her
   have hbad:colsM rows[k] er w s (c+1)=none→levelOk ⟨rows⟩=false:=fun hc=>level_no (l:=⟨rows⟩) h3 hw (hrn.trans (cols_none hc (by omega)))
   refine AWP.pre (st':=(⟨_,[(1,.o (.c (.ptr 0 0))),(3,I w),(4,B so),(5,.o (.c (.sb 1 4 1))),(6,I k),(7,I c),(8,VI .u8 t),(9,B e),(73,B (decide (t=35)))],[.box [.rd [] (sl rows)],.box [vb sa,vb sb,vb sc,vb sd]]⟩:St)) ?_ (Up [0,1] J (by kernel_rfl) (.c J (.c J (.c J (.c J (.c J (.c J (.c J (.cons (Xk hee) (.c J (.nil)))))))))))
   by_cases h7:t=35
   ·subst h7
    refine Wz [82,134,204,43,115] ?_;refine zx (Vb J (.hit .stop) (fun hgrd=>Qw (b:=false) J J J J (by decide))) J ?_;refine Wz [34,99] ?_
    exact⟨w-(c+1),by omega,(fun (c:Nat) (u:Seen×Bool)=>(⟨_,[(1,.o (.c (.ptr 0 0))),(3,I w),(4,B u.2),(5,.o (.c (.sb 1 4 1))),(6,I k),(7,I c)],[.box [.rd [] (sl rows)],.box [vb u.1.1,vb u.1.2.1,vb u.1.2.2.1,vb u.1.2.2.2]]⟩:St)) (c+1) (((sa,sb,sc,sd),so)),⟨c+1,((sa,sb,sc,sd),so),by omega,hcn.trans (by simp[tileM]),J⟩,Up [0,1] J (by kernel_rfl) (.c J (.c J (.cons (Xk (by simp)) (.c J (.c J (.c J (.nil)))))))⟩
   cases e
   case true =>
    have f1:decide (t=35)=false:=Gqa h7
    refine Xb J (fun h=>absurd (Gqc h) h7) (fun _ => ?_)
    refine Wz [17,56,101,107,107,56,107,107,107,107,107,107,101,24,4,82,91,193,108,142,119] ?_
    exact Uq J (Ur [] J J (Xk (hbad (hcn.trans (by simp[tileM,h7]))).symm))
   refine Xb J (fun h=>absurd (Gqc h) h7) (fun _ => ?_)
   rcases (by omega:t=49∨t=50∨t=51∨t=52∨t=111∨t=46∨(t≠35∧t≠49∧t≠50∧t≠51∧t≠52∧t≠111∧t≠46)) with rfl | rfl | rfl | rfl | rfl | rfl | ht7
   ·refine Wz [17,3] ?_
    refine Wz [79,155,3,28,155,3,24,3,28,15,3,28,126,3,7,3,24,7,106,18,199,28,213,24,4,82,13,161,189,188,6] ?_
    refine Xb J (fun h8 => ?_) (fun h8 => ?_)
    ·have h8:sa=true:=h8
     subst h8
     refine Wz [91,108,108,142,119] ?_
     exact Uq J (Ur [] J J (Xk (hbad (hcn.trans (by simp[tileM]))).symm))
    ·have h8:sa=false:=h8
     subst h8
     refine Wz [25,23,43,161,189,215,89,204,43,115,239,34,99] ?_
     exact⟨w-(c+1),by omega,(fun (c:Nat) (u:Seen×Bool)=>(⟨_,[(1,.o (.c (.ptr 0 0))),(3,I w),(4,B u.2),(5,.o (.c (.sb 1 4 1))),(6,I k),(7,I c)],[.box [.rd [] (sl rows)],.box [vb u.1.1,vb u.1.2.1,vb u.1.2.2.1,vb u.1.2.2.2]]⟩:St)) (c+1) (((true,sb,sc,sd),true)),⟨c+1,((true,sb,sc,sd),true),by omega,hcn.trans (by simp[tileM]),J⟩,Up [0,1] J (by kernel_rfl) (.c J (.c J (.cons (Xk (by simp)) (.c J (.c J (.c J (.nil)))))))⟩
   ·refine Wz [17,3] ?_
    refine Wz [79,155,3,28,155,3,24,3,28,15,3,28,126,3,7,3,24,7,106,18,199,28,213,24,4,82,13,161,189,188,6] ?_
    refine Xb J (fun h8 => ?_) (fun h8 => ?_)
    ·have h8:sb=true:=h8
     subst h8
     refine Wz [91,108,108,142,119] ?_
     exact Uq J (Ur [] J J (Xk (hbad (hcn.trans (by simp[tileM]))).symm))
    ·have h8:sb=false:=h8
     subst h8
     refine Wz [25,23,43,161,189,215,89,204,43,115,239,34,99] ?_
     exact⟨w-(c+1),by omega,(fun (c:Nat) (u:Seen×Bool)=>(⟨_,[(1,.o (.c (.ptr 0 0))),(3,I w),(4,B u.2),(5,.o (.c (.sb 1 4 1))),(6,I k),(7,I c)],[.box [.rd [] (sl rows)],.box [vb u.1.1,vb u.1.2.1,vb u.1.2.2.1,vb u.1.2.2.2]]⟩:St)) (c+1) (((sa,true,sc,sd),true)),⟨c+1,((sa,true,sc,sd),true),by omega,hcn.trans (by simp[tileM]),J⟩,Up [0,1] J (by kernel_rfl) (.c J (.c J (.cons (Xk (by simp)) (.c J (.c J (.c J (.nil)))))))⟩
   ·refine Wz [17,3] ?_
    refine Wz [79,155,3,28,155,3,24,3,28,15,3,28,126,3,7,3,24,7,106,18,199,28,213,24,4,82,13,161,189,188,6] ?_
    refine Xb J (fun h8 => ?_) (fun h8 => ?_)
    ·have h8:sc=true:=h8
     subst h8
     refine Wz [91,108,108,142,119] ?_
     exact Uq J (Ur [] J J (Xk (hbad (hcn.trans (by simp[tileM]))).symm))
    ·have h8:sc=false:=h8
     subst h8
     refine Wz [25,23,43,161,189,215,89,204,43,115,239,34,99] ?_
     exact⟨w-(c+1),by omega,(fun (c:Nat) (u:Seen×Bool)=>(⟨_,[(1,.o (.c (.ptr 0 0))),(3,I w),(4,B u.2),(5,.o (.c (.sb 1 4 1))),(6,I k),(7,I c)],[.box [.rd [] (sl rows)],.box [vb u.1.1,vb u.1.2.1,vb u.1.2.2.1,vb u.1.2.2.2]]⟩:St)) (c+1) (((sa,sb,true,sd),true)),⟨c+1,((sa,sb,true,sd),true),by omega,hcn.trans (by simp[tileM]),J⟩,Up [0,1] J (by kernel_rfl) (.c J (.c J (.cons (Xk (by simp)) (.c J (.c J (.c J (.nil)))))))⟩
   ·refine Wz [17,3] ?_
    refine Wz [79,155,3,28,155,3,24,3,28,15,3,28,126,3,7,3,24,7,106,18,199,28,213,24,4,82,13,161,189,188,6] ?_
    refine Xb J (fun h8 => ?_) (fun h8 => ?_)
    ·have h8:sd=true:=h8
     subst h8
     refine Wz [91,108,108,142,119] ?_
     exact Uq J (Ur [] J J (Xk (hbad (hcn.trans (by simp[tileM]))).symm))
    ·have h8:sd=false:=h8
     subst h8
     refine Wz [25,23,43,161,189,215,89,204,43,115,239,34,99] ?_
     exact⟨w-(c+1),by omega,(fun (c:Nat) (u:Seen×Bool)=>(⟨_,[(1,.o (.c (.ptr 0 0))),(3,I w),(4,B u.2),(5,.o (.c (.sb 1 4 1))),(6,I k),(7,I c)],[.box [.rd [] (sl rows)],.box [vb u.1.1,vb u.1.2.1,vb u.1.2.2.1,vb u.1.2.2.2]]⟩:St)) (c+1) (((sa,sb,sc,true),true)),⟨c+1,((sa,sb,sc,true),true),by omega,hcn.trans (by simp[tileM]),J⟩,Up [0,1] J (by kernel_rfl) (.c J (.c J (.cons (Xk (by simp)) (.c J (.c J (.c J (.nil)))))))⟩
   ·refine Wz [17,3] ?_
    refine Wz [79,49,3,40,3,7,3,40,101,107,107,101,3,7,7,106,18,199,28,272,24,106,134,204,43,115,239,34,99] ?_
    exact⟨w-(c+1),by omega,(fun (c:Nat) (u:Seen×Bool)=>(⟨_,[(1,.o (.c (.ptr 0 0))),(3,I w),(4,B u.2),(5,.o (.c (.sb 1 4 1))),(6,I k),(7,I c)],[.box [.rd [] (sl rows)],.box [vb u.1.1,vb u.1.2.1,vb u.1.2.2.1,vb u.1.2.2.2]]⟩:St)) (c+1) (((sa,sb,sc,sd),true)),⟨c+1,((sa,sb,sc,sd),true),by omega,hcn.trans (by simp[tileM]),J⟩,Up [0,1] J (by kernel_rfl) (.c J (.c J (.cons (Xk (by simp)) (.c J (.c J (.c J (.nil)))))))⟩
   ·refine Wz [17,3] ?_
    refine Wz [79,155,3,28,49,3,24,3,40,101,107,107,101,3,7,7,106,18,162,40,7,106,134,204,43,115,239,34,99] ?_
    exact⟨w-(c+1),by omega,(fun (c:Nat) (u:Seen×Bool)=>(⟨_,[(1,.o (.c (.ptr 0 0))),(3,I w),(4,B u.2),(5,.o (.c (.sb 1 4 1))),(6,I k),(7,I c)],[.box [.rd [] (sl rows)],.box [vb u.1.1,vb u.1.2.1,vb u.1.2.2.1,vb u.1.2.2.2]]⟩:St)) (c+1) (((sa,sb,sc,sd),true)),⟨c+1,((sa,sb,sc,sd),true),by omega,hcn.trans (by simp[tileM]),J⟩,Up [0,1] J (by kernel_rfl) (.c J (.c J (.cons (Xk (by simp)) (.c J (.c J (.c J (.nil)))))))⟩
   ·refine Wz [17,3] ?_
    refine Wz [79,131,3,0,169,270,3,42,3,0,169] ?_;refine zx (Qt.grdT J J J (.hit .stop) (fun hgrd=>Z0 J J J J)) J ?_;refine zx (Qt.grdT J J J (.hit (.hit .stop)) (fun hgrd=>Qa J J J)) J ?_;refine zx (Qt.grd2F J J J (.hit1 (.hit1 (.hit1 .stop))) (fun hgrd hgrd2=>Qa J J J)) J ?_;refine zx (Qt.grd2F J J J (.hit (.hit1 (.hit1 (.hit1 .stop)))) (fun hgrd hgrd2=>q_gtr J J J J)) J ?_;refine zx (Qt.grdT J J J (.part (.part (.hit (.hit (.hit .stop))))) (fun hgrd=>Z5 J J J J)) J ?_;refine Wz [3,42,7,4] ?_
    refine Xb J (fun h8 => ?_) (fun h8 => ?_)
    ·refine Wz [91,193,108,271] ?_
     refine Wz [108,119] ?_
     exact Uq J (Ur [] J J (Xk (hbad (hcn.trans (by simp[tileM,ht7]))).symm))
    ·simp only[Gxs,Gqn,Bool.false_or,decide_eq_false_iff_not,Classical.not_not] at h8
     omega
  ·have h5:c=w:=by have:=Gqd h5; omega
   rw[h5] at hp_D
   rw[hp_D] at hrn
   refine Wz [150,194] ?_
   exact⟨rows.length-(k+1),by omega,_,⟨k+1,u,by omega,⟨hrn,fun _=>h1⟩,J⟩,Ux [0,1]⟩
 ·have h3:¬((k:Int)<(els rows).length):=Gqd h
  have hk:k=rows.length:=by omega
  subst hk
  refine Wz [54] ?_
  exact Uq J (Ur [] J J (Xk (by
   unfold levelOk
   rw[hw,hp_A.1]
   have h1:=hp_A.2 (by omega)
   have:3≤rows.length∧rows.length≤12∧4≤w∧w≤20:=by omega
   simp[this])))
end
section
open Go.RowKit
end
section
open Go.RowKit

inductive Den1:V1→V1→Prop
 |same (x:V1):Den1 x x
 |nil (qs:List Nat) (k:Nat):Den1 (.rd qs (.v (.slice none 0 0))) (.rd qs (.sl k []))
inductive DenL:List V1→List V1→Prop
 |nil:DenL [] []
 |cons {x y:V1} {xs ys:List V1} (h:Den1 x y) (t:DenL xs ys):DenL (x::xs) (y::ys)
inductive Den2:V2→V2→Prop
 |same (x:V2):Den2 x x
 |ag {xs ys:List V1} (h:DenL xs ys):Den2 (.ag xs) (.ag ys)
inductive DenA:List V2→List V2→Prop
 |nil:DenA [] []
 |cons {x y:V2} {xs ys:List V2} (h:Den2 x y) (t:DenA xs ys):DenA (x::xs) (y::ys)
section
variable {w:World} {H:Hs} {F:Nat→Prop}
theorem Den1.r {x y:V1} (h:Den1 x y) {v:Value} (hx:R1 w H F x v):R1 w H F y v:=by
 cases h with
 |same=>exact hx
 |nil qs k=>obtain⟨rfl,_⟩:=RO.plain hx; exact .nil _ _ _ (by simp)
theorem DenL.r:∀ {xs ys:List V1},DenL xs ys→xs.length=ys.length∧∀ (i:Nat) (y:V1),ys[i]? = some y→∃ x,xs[i]? = some x∧Den1 x y
 |_,_,.nil=>⟨rfl,fun i y h=>by simp at h⟩
 |_,_,.cons (x:=x) h t=>by
  obtain⟨h1,h2⟩:=DenL.r t
  refine⟨by simp[h1],fun i y hy => ?_⟩
  cases i with
  |zero=>simp at hy; subst hy; exact⟨x,rfl,h⟩
  |succ i=>simpa using h2 i y (by simpa using hy)
theorem Den2.r {x y:V2} (h:Den2 x y) {v:Value} (hx:R2 w H F x v):R2 w H F y v:=by
 cases h with
 |same=>exact hx
 |ag h =>
  obtain⟨h1,h2⟩:=h.r
  obtain⟨us,e,hl,hr⟩:=hx
  refine⟨us,e,by omega,fun i y u h3 h4 => ?_⟩
  obtain⟨x,h5,h6⟩:=h2 i y h3
  exact h6.r (hr i x u h5 h4)
theorem DenA.r:∀ {xs ys:List V2},DenA xs ys→xs.length=ys.length∧∀ (i:Nat) (y:V2),ys[i]? = some y→∃ x,xs[i]? = some x∧Den2 x y
 |_,_,.nil=>⟨rfl,fun i y h=>by simp at h⟩
 |_,_,.cons (x:=x) h t=>by
  obtain⟨h1,h2⟩:=DenA.r t
  refine⟨by simp[h1],fun i y hy => ?_⟩
  cases i with
  |zero=>simp at hy; subst hy; exact⟨x,rfl,h⟩
  |succ i=>simpa using h2 i y (by simpa using hy)
end
def nilV:V1 := .rd [] (.v (.slice none 0 0))
theorem I_copyLevel (x:TLevel) (hg:Enc.gd x) (hL:x.Rows.length≤1048576):Con Tryz.prog 65 [] [ag x] [.row 1 (els x.Rows)] (.o (.ag [.ref 0])):=by
 have hlx:=Yc x.Rows
 have hg1:=hg.1
 refine Con.of Tryz.func65 J Tryz.ntmps65 J (fun E => ?_)
 refine Wz [98,60,29] ?_;refine M_appnil J J J J J J J J (Yd _) (els_k _) (by omega) (by omega) ?_;refine Wz [175,20,94] ?_
 exact Xm J J J J (Ur [2] J J J)
theorem S_copyLevel (x:TLevel) (hg:Enc.gd x) (hL:x.Rows.length≤1048576):Con Tryz.prog 56 [] [ag x] [.row 1 (els x.Rows)] (.o (.ag [.ref 0])):=by
 have hlx:=Yc x.Rows
 have hg1:=hg.1
 have h00:([]:List (List T)).length=0:=rfl
 refine Con.of Tryz.func56 J Tryz.ntmps56 J (fun E => ?_)
 refine Wz [98,60,5,228,21] ?_;refine M_app J J J J J J J J J J (Yd _) (els_k _) (by omega) (by omega) ?_;refine Wz [175,20,94] ?_
 exact Xm J J J J (Ur [2] J J J)
end
end Go.Proofs.YtoecjaohdnoenaaGreat
