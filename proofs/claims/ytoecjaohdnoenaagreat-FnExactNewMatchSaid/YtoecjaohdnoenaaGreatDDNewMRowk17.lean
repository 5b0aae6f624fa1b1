/-
  Literal slices of no elements, and appending to them in statements whose order is open. No statement of the program is proved here.
  Conditions: none.
-/
import Derived.Test.YtoecjaohdnoenaaGreatDDNewMRowk16
set_option linter.unusedSimpArgs false
set_option linter.unusedVariables false
namespace Go.Proofs.YtoecjaohdnoenaaGreat
section
open Go.RowKit

theorem Wk.nilbox {st:St} {p i:Nat} (k:Nat) {cs:List V1} {qs:List Nat} (hp:st.objs[p]? = some (.box cs)) (hc:cs[i]? = some (.rd qs (.v (.slice none 0 0)))):Wk st ⟨st.n,st.tmps,(st.objs.set p (.box (cs.set i (.ref st.objs.length)))) ++ [.row k []]⟩:=by
 intro w H F a h
 have hnil:H st.objs.length = .nil:=by
  have:=h.obs st.objs.length
  simpa[Gqd,RB] using this
 have hlt:=Yh hp
 obtain⟨H',hH'⟩:∃ H':Hs,H'=H.put st.objs.length (.ow (.sl k []) (.slice none 0 0) []):=⟨_,rfl⟩
 have hin:H' st.objs.length = .ow (.sl k []) (.slice none 0 0) []:=by rw[hH']; exact Hs.put_self _ _ _
 have hout:∀ q,q≠st.objs.length→H' q=H q:=fun q hq=>by rw[hH']; exact Hs.put_ne _ _ hq
 have hfp:∀ q,(H' q).fp=(H q).fp:=fun q=>by
  by_cases e:q=st.objs.length
  ·rw[e,hin,hnil]; rfl
  ·rw[hout q e]
 have hgh:∀ q i v,H' q = .gh i v→∃ r,H r = .gh i v:=fun q i v hq=>by
  by_cases e:q=st.objs.length
  ·rw[e,hin] at hq; cases hq
  ·exact⟨q,by rw[←hout q e]; exact hq⟩
 have hgr:Grow w H F w H' F:=⟨Below.refl _ _,fun q hq=>hout q fun e=>hq (by rw[e]; exact hnil),fun _ h=>h,fun _ h => .inl h,fun q hq b hb=>by rw[hfp,hq] at hb; simp[Pc.fp] at hb,hgh⟩
 refine⟨H',⟨⟨fun q => ?_,fun q=>by rw[hfp]; exact h.ok.nodup q,fun q r b h1 h2=>by rw[hfp] at h1 h2; exact h.ok.disj q r b h1 h2,fun q b h1=>by rw[hfp] at h1; exact h.ok.free q b h1,h.ok.flt⟩,fun q => ?_,fun e=>hgr.rv (h.tmp e),h.size,h.defers⟩,fun q b hb=>⟨q,by rw[←hfp]; exact hb⟩,hgh⟩
 ·by_cases e:q=st.objs.length
  ·rw[e,hin]; exact OW.nil _
  ·rw[hout q e]; exact h.ok.says q
 ·show RB w H' F q ((st.objs.set p (.box (cs.set i (.ref st.objs.length))) ++ [Ob.row k []]).getD q .gone)
  by_cases e:q=st.objs.length
  ·rw[show (st.objs.set p (.box (cs.set i (.ref st.objs.length))) ++ [Ob.row k []]).getD q .gone = .row k [] by simp[Gqd,e]]
   exact⟨_,_,by rw[e]; exact hin⟩
  ·rcases Gqq q st.objs.length with h1 | h1
   ·by_cases hqp:q=p
    ·subst hqp
     rw[show (st.objs.set q (.box (cs.set i (.ref st.objs.length))) ++ [Ob.row k []]).getD q .gone = .box (cs.set i (.ref st.objs.length)) by simp[Gqd,Gq1,h1]]
     obtain⟨g,t,vs,e1,e2,e3,e4⟩:=h.bx hp
     have hb:=h.obs q
     rw[Yg hp] at hb
     obtain⟨g,t,vs,k1,k2,k3⟩:=hb
     refine⟨g,t,vs,(hout q e).trans k1,by simpa using k2,fun j c u h4 h5 => ?_⟩
     rw[List.getElem?_set] at h4
     split at h4
     ·rename_i hij
      subst hij
      split at h4
      ·simp only[Option.some.injEq] at h4
       subst h4
       have h6:=k3 i _ u hc h5
       obtain⟨h7,_⟩:=RO.plain h6.1
       exact⟨⟨_,_,by rw[hin,←h7]⟩,h6.2⟩
      ·cases h4
     ·have h6:=k3 j c u h4 h5
      exact⟨hgr.r1 h6.1,h6.2⟩
    ·rw[show (st.objs.set p (.box (cs.set i (.ref st.objs.length))) ++ [Ob.row k []]).getD q .gone=st.objs.getD q .gone by
      rw[Gqd,Gq1 (by simpa using h1),Gq8 (Ne.symm hqp),Gqd]]
     by_cases hn:H q = .nil
     ·have h2:=h.obs q
      have h3:H' q = .nil:=(hout q e).trans hn
      cases ho:st.objs.getD q .gone with
      |gone=>exact h3
      |hole=>trivial
      |box cs=>rw[ho] at h2; obtain⟨a,t,vs,e,_⟩:=h2; rw[hn] at e; cases e
      |row k es=>rw[ho] at h2; obtain⟨v,fp,e⟩:=h2; rw[hn] at e; cases e
      |gh i x=>rw[ho] at h2; obtain⟨v,e,_⟩:=h2; rw[hn] at e; cases e
      |lk x y=>rw[ho] at h2; obtain⟨v,e,_⟩:=h2; rw[hn] at e; cases e
     ·exact hgr.rb hn (h.obs q)
   ·rw[show (st.objs.set p (.box (cs.set i (.ref st.objs.length))) ++ [Ob.row k []]).getD q .gone=Ob.gone by
     rw[Gqd,List.getElem?_eq_none (by simp; omega)]; rfl]
    refine (hout q e).trans ?_
    have:=h.obs q
    simpa[Gqd,RB,h1] using this
section
variable {P:Program} {ops:Array Oper} {o:Oper} {st:St} {m:Nat} {t e:TypeId} {y z:Operand} {zs:List Value} {by_:Nat}
theorem q_bslicez [hm:TyMake P t e zs by_] (ho:o.op = .buildSlice t 0 #[]) (hg:o.guard=none) (hz0:zs.isEmpty=false):Qt P ops o st (.o (.c (.sb m 0 zs.length))) [.box []] m :=
 .new hg fun a w H F hr hn=>by
  obtain⟨inf,hi,hzz⟩:=Option.map_eq_some_iff.1 hm.info
  refine⟨.slice (some ⟨w.heap.size,0,none⟩) 0 0,w.alloc (.cells #[] e),.box w.heap.size e [],?_,(Below.refl _ _).alloc (Gqi _) _,heap_alloc_new w _,by simp[Pc.fp,Pc.ng],fun b hb=>by simp[Pc.fp] at hb; omega,fun H' hgr hq=>⟨⟨_,_,_,hq,J,fun i c u h4 h5=>by simp at h4⟩,_,_,_,hq,by simp,Gqr _,J⟩⟩
  unfold execOp
  simp[ho,Instr.buildSlice,run_underlying hm.slice,Go.sizeOf,typeInfo,hi,Instr.fill,newRow]
  rw[show (Array.range 0).map (fun _:Nat=>(default:Value))=#[] from Array.eq_empty_of_size_eq_zero (by simp)]
theorem run_append_z {tx ty:TypeId} [hm:TyMake P t e zs by_] {w:World} (A:Option Addr) {x:Value} {n:Nat} {news:List Value} (hsrc:Src P zs.length tx x n news w) (hn:0<n) (hb:n*by_≤140737488355328) (h63:n≤9223372036854775807) :
  (Builtin.append_ #[t,tx] ty #[.slice A 0 0,x]).run P w=(Builtin.append_ #[t,tx] ty #[.slice none 0 0,x]).run P w:=by
 obtain⟨i,hi,hzz⟩:=Option.map_eq_some_iff.1 hm.info
 simp only[Prod.mk.injEq] at hzz
 obtain⟨hz1,hs,hb1⟩:=hzz
 obtain⟨z,hz2,hz3⟩:=Option.map_eq_some_iff.1 hz1
 have hsrc:Src P i.size tx x n news w:=by rw[hs]; exact hsrc
 have h0:((0+n:Nat):Int)≤9223372036854775807:=by omega
 rw[run_append_grow_src (P:=P) (w:=w) t tx ty e i z hm.slice hi hz2 A 0 0 [] (by cases A <;> simp[Builtin.firstCells,loadCells,loadCellsFrom]) x n news hsrc (by omega) h0 (growslice_fits (by omega) (by rw[hb1]; simpa using hb)),
  run_append_grow_src (P:=P) (w:=w) t tx ty e i z hm.slice hi hz2 none 0 0 [] (by simp[Builtin.firstCells]) x n news hsrc (by omega) h0 (growslice_fits (by omega) (by rw[hb1]; simpa using hb))]
theorem src_any [hm:TyMake P t e zs by_] {w:World} {H:Hs} {F:Nat→Prop} {a:Act} (h:R0 w H F st a) {es':List (List T)} {x:V1} {u:Value} {kk:Nat} (hkz:kk=zs.length) (hz0:zs ≠ []) (hx:R1 w H F x u) (hs:srcOf st.objs x=some es') (hpl:plainT es') (hkk:∀ e∈es',e.length=kk):Src P kk t u es'.length (flatV (plainV' es') es'.length kk) w:=by
 obtain⟨A,c,rfl,hsrc⟩:=src_form h hx hs
 have hcell:∀ i j (hi:i<es'.length) (hj:j<kk),∃ b o',A=some ⟨b,o',none⟩∧w.cell? ⟨b,o'+i*kk+j,none⟩=some (plainV' es' i j)∧(plainV' es' i j).oneCell'=true:=by
  intro i j hi hj
  have h6:=Gqe hi
  obtain⟨b,o',k,hA,hp,hk,hc⟩:=hsrc i _ h6
  have h7:k=kk:=by rw[←hk,hkk _ (Gqf hi)]
  subst h7
  have h8:j<(es'[i]).length:=by omega
  obtain⟨u',h9,h10⟩:=hc j _ (Gqe h8)
  obtain⟨u'',h11⟩:=hpl _ (Gqf hi) _ (Gqf h8)
  rw[h11] at h10
  obtain⟨rfl,h12⟩:=RO.plain h10
  rw[plainV'_at h6 (by rw[Gqe h8,h11])]
  exact⟨b,o',hA,h9,h12⟩
 refine src_slice (zs:=zs) es' (plainV' es') A c (fun hne => ?_) fun i j hi hj=>by obtain⟨_,_,_,_,h⟩:=hcell i j hi hj; exact h
 have hl:0<es'.length:=Gxj.2 hne
 have hk0:0<kk:=by rw[hkz]; exact Gxj.2 hz0
 obtain⟨b,o',hA,_⟩:=hcell 0 0 hl hk0
 refine⟨b,o',hA,fun i j hi hj => ?_⟩
 obtain⟨b',o'',hA',h1,_⟩:=hcell i j hi hj
 rw[hA] at hA'
 simp only[Option.some.injEq,Addr.mk.injEq] at hA'
 obtain⟨rfl,rfl,_⟩:=hA'
 exact h1

theorem q_appz {ps:List Nat} {q kk:Nat} {es':List (List T)} [hm:TyMake P t e zs by_] (ho:o.op = .call { callee := .builtin .append,args:=#[y,z],argTypes:=#[t,t] }) (hg:o.guard=none) (hy:st.ev y = .o (.c (.sb q 0 kk))) (hz:st.ev z = .o (.c (.rd ps (.sl kk es')))) (hkz:kk=zs.length) (hz0:zs.isEmpty=false)
  (hpl:plainT es') (hkk:∀ e∈es',e.length=kk) (hpos:0<es'.length) (hb:es'.length*by_≤140737488355328) (h63:es'.length≤9223372036854775807):Qt P ops o st (.o (.c (.ref m))) [.row kk es'] m :=
 .new hg fun a w H F hr hn=>by
  have hzn:zs ≠ []:=by intro e; rw[e] at hz0; cases hz0
  subst hkz
  obtain⟨g,tt,vs,b1,b2,b3,b4⟩:=hr.v1 hy
  obtain⟨w1,hw1⟩:∃ w1,w1=w:=⟨_,rfl⟩
  have hs:srcOf st.objs (.rd ps (.sl zs.length es'))=some es':=rfl
  obtain⟨v',w',fp'',hr1,h3,h4,h5,h6⟩:=append_plain (P:=P) (o:=o) (t:=t) (kk:=zs.length) (es := []) hr (OW.nil _) List.nodup_nil rfl hzn (hr.v1 hz) hs hpl hkk (by simpa using hb) (by simpa using h63)
  have hbel:Below w.heap.size w w':=⟨h6.os,h6.tape,h6.output,h6.size,fun b hb=>h6.block b hb (by simp)⟩
  refine⟨v',w',.ow (.sl zs.length es') v' fp'',?_,hbel,h3,⟨h4,trivial⟩,fun b hb=>(h5 b hb).resolve_left (by simp),fun H' hgr hq=>⟨⟨_,_,hq⟩,_,_,hq⟩⟩
  refine Ye ho ?_
  have h7:=src_any (P:=P) (t:=t) (e:=e) (by_:=by_) (kk:=zs.length) hr rfl hzn (hr.v1 hz) hs hpl hkk
  rw[b4,run_append_z (P:=P) (some ⟨g,0,none⟩) h7 hpos hb h63]
  exact hr1
end
end
end Go.Proofs.YtoecjaohdnoenaaGreat
