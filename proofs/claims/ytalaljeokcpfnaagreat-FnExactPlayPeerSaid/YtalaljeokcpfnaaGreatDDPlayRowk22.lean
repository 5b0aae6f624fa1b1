/-
  Rules, data and contracts of functions: part 23 of the proof.
  Conditions: those that each theorem names.
-/
import Derived.Test.YtalaljeokcpfnaaGreatDDPlayRowk21
set_option linter.unusedSimpArgs false
set_option linter.unusedVariables false
set_option maxRecDepth 8000
namespace Go.Proofs.YtalaljeokcpfnaaGreat
section
open Go.RowKit

/-! ### Numbers -/
theorem bytesL_len {s:ByteArray} {q k:Nat} (h:q+k≤s.size):(bytesL s q k).length=k:=by
 have:s.data.toList.length=s.size:=Aqd
 simp[bytesL]; omega
theorem dvGo_canon (s:ByteArray) (q:Nat):∀ (f k:Nat) (m:Int) (j:Nat),q+k≤s.size→(∀ a∈bytesL s q k,128≤a.toNat)→dvGo s q (dval (bytesL s q k):Nat) k f=some (m,j)→encVar m=bytesL s q j:=by
 intro f
 induction f with
 |zero=>intro k m j _ _ h; simp[dvGo] at h
 | succ f ih =>
  intro k m j hqk hall h
  have hlen:=bytesL_len hqk
  rw[dvGo] at h
  split at h
  ·rename_i hlt
   obtain⟨b,hb,hcb⟩:=bytesL_succ hlt
   have hval:(dval (bytesL s q k):Int)+byteAt s (q+k)%128*2 ^ (7*k)=((dval (bytesL s q (k+1)):Nat):Int):=by
    rw[hb,dval_snoc,hlen,hcb]
    push_cast
    rfl
   rw[hval] at h
   split at h
   ·rename_i h128
    refine ih (k+1) m j Aqa (fun a ha=>?_) h
    rw[hb] at ha
    rcases Gqs.1 ha with ha | ha
    ·exact hall a ha
    ·simp only[Gxd] at ha
     rw[ha]; omega
   ·rename_i h128
    split at h
    ·cases h
    ·rename_i hbad
     simp only[Option.some.injEq,Prod.mk.injEq] at h
     obtain⟨rfl,rfl⟩:=h
     have hcan:=canon (b:=b) Aqa (bytesL s q k) hall
     have hnil:bytesL s q k = []↔k=0:=by rw[←List.length_eq_zero_iff,hlen]
     rw[←hb,hnil] at hcan
     rw[encVar,if_pos Aqa,show ((dval (bytesL s q (k+1)):Nat):Int).toNat=dval (bytesL s q (k+1)) by omega]
     exact hcan.2 Aqa 
  ·cases h
theorem decVar_canon {s:ByteArray} {p m:Int} {j:Nat} (h:decVar s p=some (m,j)):encVar m=bytesL s p.toNat j:=by
 unfold decVar at h
 split at h
 ·exact dvGo_canon s p.toNat 6 0 m j Aqa (by simp[bytesL]) (by simpa[bytesL,dval] using h)
 ·cases h
theorem signless_signed {u:Int} (h:0≤u∧u≤1099511627775):signless (signed u)=u:=by
 unfold signed
 rw[if_pos h]
 split
 ·rw[signless,if_pos Aqa,if_pos Aqa]; omega
 ·rw[signless,if_pos Aqa,if_neg Aqa]; omega
/-! ### Lists -/
theorem bytesL_app {s:ByteArray} {q j k:Nat}:bytesL s q j++bytesL s (q+j) k=bytesL s q (j+k):=by
 unfold bytesL
 rw[←List.drop_drop,List.take_add]
def packB (l:List Int):List UInt8:=l.flatMap fun x=>encVar (signless x)
theorem uiGo_canon (s:ByteArray) (p:Nat):∀ (c pos:Nat) (l:List Int) (j:Nat),uiGo s p c pos=some (l,j)→pos≤j∧packB l=bytesL s (p+pos) (j-pos)∧∀ x∈l,0≤signless x:=by
 intro c
 induction c with
 |zero =>
  intro pos l j h
  simp only[uiGo,Option.some.injEq,Prod.mk.injEq] at h
  obtain⟨rfl,rfl⟩:=h
  exact⟨Gqi _,by simp[packB,bytesL],fun x hx=>by simp at hx⟩
 | succ c ih =>
  intro pos l j h
  rw[uiGo] at h
  split at h
  ·cases h
  ·rename_i v m hd
   obtain⟨r,h1,h2⟩:=Option.map_eq_some_iff.1 h
   simp only[Prod.mk.injEq] at h2
   obtain⟨rfl,rfl⟩:=h2
   have hm:=Y2 hd
   have hcn:=decVar_canon hd
   obtain⟨a1,a2,a3⟩:=ih (pos+m) r.1 r.2 h1
   have hsg:=signless_signed (u:=v) Aqa 
   refine⟨Aqa,?_,fun x hx=>?_⟩
   ·rw[packB,List.flatMap_cons,hsg,hcn,show ((p:Int)+(pos:Int)).toNat=p+pos by omega]
    show bytesL s (p+pos) m++packB r.1=_
    rw[a2,show p+(pos+m)=p+pos+m by omega,bytesL_app]
    congr 1
    omega
   ·rcases List.mem_cons.1 hx with rfl | hx
    ·rw[hsg]; omega
    ·exact a3 x hx
theorem unpackInts_canon {s:ByteArray} {p:Int} {l:List Int} {j:Nat} (h:unpackInts s p=some (l,j)):packInts l=bs (bytesL s p.toNat j):=by
 unfold unpackInts at h
 split at h
 ·cases h
 ·rename_i n k hd
  have hm:=Y2 hd
  have hcn:=decVar_canon hd
  obtain⟨a1,a2,a3⟩:=uiGo_canon s _ _ _ _ _ h
  obtain⟨b1,b2,b3,b4⟩:=uiGo_some s _ _ _ _ _ h
  have hall:(l.all fun x=>decide (0≤signless x))=true:=Gqp.2 fun x hx=>Gqb (a3 x hx)
  rw[packInts,if_pos hall,packK,Gxs,show (l.length:Int)=n by omega,hcn]
  show bs (bytesL s p.toNat k++packB l)=_
  rw[a2,bytesL_app]
  congr 2
  omega
/-! ### Texts -/
/-! ### Columns -/
/-! ### DecodeStream -/
theorem bytesL_all (s:ByteArray) (k:Nat) (h:k≤s.size):bs (bytesL s 0 k)=s↔k=s.size:=by
 constructor
 ·intro e
  have:=congrArg ByteArray.size e
  rw[Yx,bytesL_len Aqa] at this
  exact this
 ·intro e
  subst e
  unfold bytesL
  rw[List.drop_zero,show s.size=s.data.toList.length by simp,Gxs,bs_of]
end
section
open Go.RowKit

theorem byte_drop {s:ByteArray} {q:Nat} {b:UInt8} {r:List UInt8} (h:s.data.toList.drop q=b::r):q<s.size∧byteAt s q=(b.toNat:Int):=by
 have hl:q<s.data.toList.length:=by
  rcases Gqr q s.data.toList.length with h1 | h1
  ·exact h1
  ·rw[List.drop_eq_nil_of_le h1] at h; cases h
 have hs:s.data.toList.length=s.size:=Aqd
 obtain⟨b',h1,h2⟩:=byteAt_list (s:=s) (i:=q) Aqa 
 rw[Gxr hl] at h
 rw[Gqg hl] at h1
 simp only[Option.some.injEq] at h1
 simp only[List.cons.injEq] at h
 exact⟨Aqa,by rw[h2,←h1,h.1]⟩
theorem dvGo_enc (s:ByteArray) (p:Nat) (r:List UInt8):∀ (f N k:Nat) (acc:Int),0≤acc→s.data.toList.drop (p+k)=varN N++r→acc+N*2 ^ (7*k)≤1099511627775→(0<k→N≠0)→(varN N).length≤f→dvGo s p acc k f=some (acc+N*2 ^ (7*k),k+(varN N).length):=by
 intro f
 induction f with
 |zero=>intro N k acc _ _ _ _ h; have:=(varN_len N).1; omega
 | succ f ih =>
  intro N k acc h0 hd hb hk hf
  rw[dvGo]
  by_cases hN:N<128
  ·rw[Uh hN] at hd ⊢
   obtain⟨h1,h2⟩:=byte_drop hd
   have e:((UInt8.ofNat N).toNat:Int)=N:=by rw[UInt8.toNat_ofNat']; omega
   rw[e] at h2
   rw[if_pos h1,h2,if_neg Aqa,show (N:Int)%128=N by omega,if_neg Aqa]
   rfl
  ·rw[varN_big hN] at hd hf ⊢
   have e:((UInt8.ofNat (N%128+128)).toNat:Int)=N%128+128:=by rw[UInt8.toNat_ofNat']; omega
   obtain⟨h1,h2⟩:=byte_drop hd
   rw[e] at h2
   have hd2:s.data.toList.drop (p+(k+1))=varN (N/128)++r:=by
    have:=congrArg (List.drop 1) hd
    rw[List.drop_drop] at this
    rw[show p+(k+1)=p+k+1 by omega,this]
    rfl
   have hv:acc+(N:Int)%128*2 ^ (7*k)+((N/128:Nat):Int)*2 ^ (7*(k+1))=acc+N*2 ^ (7*k):=by
    have e2:(2:Int) ^ (7*(k+1))=128*2 ^ (7*k):=by rw[show 7*(k+1)=7*k+7 by omega,Int.pow_add]; omega
    have e3:(N:Int)=128*((N/128:Nat):Int)+(N:Int)%128:=Aqa
    rw[e2]
    generalize (2:Int) ^ (7*k)=M
    generalize ((N/128:Nat):Int)=q at e3 ⊢
    generalize (N:Int)%128=d at e3 ⊢
    rw[e3]
    grind
   have hM:(0:Int)≤(N:Int)%128*2 ^ (7*k):=Int.mul_nonneg Aqa (Int.le_of_lt (Int.pow_pos Aqa))
   have hi:=ih (N/128) (k+1) (acc+(N:Int)%128*2 ^ (7*k)) Aqa hd2 Aqa (fun _=>by omega) (by simp at hf; omega)
   rw[hv] at hi
   rw[if_pos h1,h2,if_pos Aqa,show ((N:Int)%128+128)%128=(N:Int)%128 by omega,hi]
   simp only[Gqw]
   congr 2
   omega
theorem decVar_enc {s:ByteArray} {p:Nat} {n:Int} {r:List UInt8} (h0:0≤n) (h1:n≤1099511627775) (hs:s.data.toList.drop p=encVar n++r):decVar s p=some (n,(encVar n).length):=by
 have hl:=Ze n
 rw[encVar,if_pos ⟨h0,h1⟩] at hs hl ⊢
 have hne:=(varN_len n.toNat).1
 have hp:p<s.size:=by
  have:(s.data.toList.drop p).length=(varN n.toNat++r).length:=by rw[hs]
  have e:s.data.toList.length=s.size:=Aqd
  simp only[Gq9,Gql] at this
  omega
 rw[decVar,if_pos Aqa]
 have:=dvGo_enc s p r 6 n.toNat 0 0 Aqa (by simpa using hs) Bqz Aqa hl
 simp at this
 rw[show ((p:Int)).toNat=p by omega,this]
 simp
 omega
end
section
open Go.RowKit

theorem Wk.nilbox {st:St} {p i:Nat} (k:Nat) {cs:List V1} {qs:List Nat} (hp:st.objs[p]? = some (.box cs)) (hc:cs[i]? = some (.rd qs (.v (.slice none 0 0)))):Wk st ⟨st.n,st.tmps,(st.objs.set p (.box (cs.set i (.ref st.objs.length)))) ++ [.row k []]⟩:=by
 intro w H F a h
 have hnil:H st.objs.length = .nil:=by
  have:=h.obs st.objs.length
  simpa[Gqf,RB] using this
 have hlt:=Zj hp
 obtain⟨H',hH'⟩:∃ H':Hs,H'=H.put st.objs.length (.ow (.sl k []) (.slice none 0 0) []):=⟨_,rfl⟩
 have hin:H' st.objs.length = .ow (.sl k []) (.slice none 0 0) []:=by rw[hH']; exact Hs.put_self _ _ _
 have hout:∀ q,q≠st.objs.length→H' q=H q:=fun q hq=>by rw[hH']; exact Hs.put_ne _ _ hq
 have hfp:∀ q,(H' q).fp=(H q).fp:=fun q=>by
  by_cases e:q=st.objs.length
  ·rw[e,hin,hnil]; rfl
  ·rw[hout q e]
 have hgh:∀ q i v,H' q = .gh i v→∃ r,H r = .gh i v:=fun q i v hq=>by
  by_cases e:q=st.objs.length
  ·rw[e,hin] at hq; cases hq
  ·exact⟨q,by rw[←hout q e]; exact hq⟩
 have hgr:Grow w H F w H' F:=⟨Below.refl _ _,fun q hq=>hout q fun e=>hq (by rw[e]; exact hnil),fun _ h=>h,fun _ h => .inl h,fun q hq b hb=>by rw[hfp,hq] at hb; simp[Pc.fp] at hb,hgh⟩
 refine⟨H',⟨⟨fun q=>?_,fun q=>by rw[hfp]; exact h.ok.nodup q,fun q r b h1 h2=>by rw[hfp] at h1 h2; exact h.ok.disj q r b h1 h2,fun q b h1=>by rw[hfp] at h1; exact h.ok.free q b h1,h.ok.flt⟩,fun q=>?_,fun e=>hgr.rv (h.tmp e),h.size,h.defers⟩,fun q b hb=>⟨q,by rw[←hfp]; exact hb⟩,hgh⟩
 ·by_cases e:q=st.objs.length
  ·rw[e,hin]; exact OW.nil _
  ·rw[hout q e]; exact h.ok.says q
 ·show RB w H' F q ((st.objs.set p (.box (cs.set i (.ref st.objs.length))) ++ [Ob.row k []]).getD q .gone)
  by_cases e:q=st.objs.length
  ·rw[show (st.objs.set p (.box (cs.set i (.ref st.objs.length))) ++ [Ob.row k []]).getD q .gone = .row k [] by simp[Gqf,e]]
   exact⟨_,_,by rw[e]; exact hin⟩
  ·rcases Gqr q st.objs.length with h1 | h1
   ·by_cases hqp:q=p
    ·subst hqp
     rw[show (st.objs.set q (.box (cs.set i (.ref st.objs.length))) ++ [Ob.row k []]).getD q .gone = .box (cs.set i (.ref st.objs.length)) by simp[Gqf,Gq2,h1]]
     obtain⟨g,t,vs,e1,e2,e3,e4⟩:=h.bx hp
     have hb:=h.obs q
     rw[Zi hp] at hb
     obtain⟨g,t,vs,k1,k2,k3⟩:=hb
     refine⟨g,t,vs,(hout q e).trans k1,by simpa using k2,fun j c u h4 h5=>?_⟩
     rw[List.getElem?_set] at h4
     split at h4
     ·rename_i hij
      subst hij
      split at h4
      ·simp only[Option.some.injEq] at h4
       subst h4
       have h6:=k3 i _ u hc h5
       obtain⟨h7,_⟩:=RO.plain h6.1
       exact⟨⟨_,_,by rw[hin,←h7]⟩,h6.2⟩
      ·cases h4
     ·have h6:=k3 j c u h4 h5
      exact⟨hgr.r1 h6.1,h6.2⟩
    ·rw[show (st.objs.set p (.box (cs.set i (.ref st.objs.length))) ++ [Ob.row k []]).getD q .gone=st.objs.getD q .gone by
      rw[Gqf,Gq2 (by simpa using h1),Gxa (Ne.symm hqp),Gqf]]
     by_cases hn:H q = .nil
     ·have h2:=h.obs q
      have h3:H' q = .nil:=(hout q e).trans hn
      cases ho:st.objs.getD q .gone with
      |gone=>exact h3
      |hole=>trivial
      |box cs=>rw[ho] at h2; obtain⟨a,t,vs,e,_⟩:=h2; rw[hn] at e; cases e
      |row k es=>rw[ho] at h2; obtain⟨v,fp,e⟩:=h2; rw[hn] at e; cases e
      |gh i x=>rw[ho] at h2; obtain⟨v,e,_⟩:=h2; rw[hn] at e; cases e
      |lk x y=>rw[ho] at h2; obtain⟨v,e,_⟩:=h2; rw[hn] at e; cases e
     ·exact hgr.rb hn (h.obs q)
   ·rw[show (st.objs.set p (.box (cs.set i (.ref st.objs.length))) ++ [Ob.row k []]).getD q .gone=Ob.gone by
     rw[Gqf,List.getElem?_eq_none Bqz]; rfl]
    refine (hout q e).trans ?_
    have:=h.obs q
    simpa[Gqf,RB,h1] using this
section
variable {P:Program} {ops:Array Oper} {o:Oper} {st:St} {m:Nat} {t e:TypeId} {y z:Operand} {zs:List Value} {by_:Nat}
theorem Kn [hm:TyMake P t e zs by_] (ho:o.op = .buildSlice t 0 #[]) (hg:o.guard=none) (hz0:zs.isEmpty=false):Qt P ops o st (.o (.c (.sb m 0 zs.length))) [.box []] m :=
 .new hg fun a w H F hr hn=>by
  obtain⟨inf,hi,hzz⟩:=Option.map_eq_some_iff.1 hm.info
  refine⟨.slice (some ⟨w.heap.size,0,none⟩) 0 0,w.alloc (.cells #[] e),.box w.heap.size e [],?_,(Below.refl _ _).alloc (Gqi _) _,heap_alloc_new w _,by simp[Pc.fp,Pc.ng],fun b hb=>by simp[Pc.fp] at hb; omega,fun H' hgr hq=>⟨⟨_,_,_,hq,J,fun i c u h4 h5=>by simp at h4⟩,_,_,_,hq,Aqd,Gxm _,J⟩⟩
  unfold execOp
  simp[ho,Instr.buildSlice,run_underlying hm.slice,Go.sizeOf,typeInfo,hi,Instr.fill,newRow]
  rw[show (Array.range 0).map (fun _:Nat=>(default:Value))=#[] from Array.eq_empty_of_size_eq_zero Aqd]
theorem run_append_z {tx ty:TypeId} [hm:TyMake P t e zs by_] {w:World} (A:Option Addr) {x:Value} {n:Nat} {news:List Value} (hsrc:Src P zs.length tx x n news w) (hn:0<n) (hb:n*by_≤140737488355328) (h63:n≤9223372036854775807) :
  (Builtin.append_ #[t,tx] ty #[.slice A 0 0,x]).run P w=(Builtin.append_ #[t,tx] ty #[.slice none 0 0,x]).run P w:=by
 obtain⟨i,hi,hzz⟩:=Option.map_eq_some_iff.1 hm.info
 simp only[Prod.mk.injEq] at hzz
 obtain⟨hz1,hs,hb1⟩:=hzz
 obtain⟨z,hz2,hz3⟩:=Option.map_eq_some_iff.1 hz1
 have hsrc:Src P i.size tx x n news w:=by rw[hs]; exact hsrc
 have h0:((0+n:Nat):Int)≤9223372036854775807:=Aqa
 rw[run_append_grow_src (P:=P) (w:=w) t tx ty e i z hm.slice hi hz2 A 0 0 [] (by cases A <;> simp[Builtin.firstCells,loadCells,loadCellsFrom]) x n news hsrc Aqa h0 (growslice_fits Aqa (by rw[hb1]; simpa using hb)),
  run_append_grow_src (P:=P) (w:=w) t tx ty e i z hm.slice hi hz2 none 0 0 [] (by simp[Builtin.firstCells]) x n news hsrc Aqa h0 (growslice_fits Aqa (by rw[hb1]; simpa using hb))]
theorem src_any [hm:TyMake P t e zs by_] {w:World} {H:Hs} {F:Nat→Prop} {a:Act} (h:R0 w H F st a) {es':List (List T)} {x:V1} {u:Value} {kk:Nat} (hkz:kk=zs.length) (hz0:zs ≠ []) (hx:R1 w H F x u) (hs:srcOf st.objs x=some es') (hpl:plainT es') (hkk:∀ e∈es',e.length=kk):Src P kk t u es'.length (flatV (plainV' es') es'.length kk) w:=by
 obtain⟨A,c,rfl,hsrc⟩:=src_form h hx hs
 have hcell:∀ i j (hi:i<es'.length) (hj:j<kk),∃ b o',A=some ⟨b,o',none⟩∧w.cell? ⟨b,o'+i*kk+j,none⟩=some (plainV' es' i j)∧(plainV' es' i j).oneCell'=true:=by
  intro i j hi hj
  have h6:=Gqg hi
  obtain⟨b,o',k,hA,hp,hk,hc⟩:=hsrc i _ h6
  have h7:k=kk:=by rw[←hk,hkk _ (Gqe hi)]
  subst h7
  have h8:j<(es'[i]).length:=Aqa
  obtain⟨u',h9,h10⟩:=hc j _ (Gqg h8)
  obtain⟨u'',h11⟩:=hpl _ (Gqe hi) _ (Gqe h8)
  rw[h11] at h10
  obtain⟨rfl,h12⟩:=RO.plain h10
  rw[plainV'_at h6 (by rw[Gqg h8,h11])]
  exact⟨b,o',hA,h9,h12⟩
 refine src_slice (zs:=zs) es' (plainV' es') A c (fun hne=>?_) fun i j hi hj=>by obtain⟨_,_,_,_,h⟩:=hcell i j hi hj; exact h
 have hl:0<es'.length:=Gxy.2 hne
 have hk0:0<kk:=by rw[hkz]; exact Gxy.2 hz0
 obtain⟨b,o',hA,_⟩:=hcell 0 0 hl hk0
 refine⟨b,o',hA,fun i j hi hj=>?_⟩
 obtain⟨b',o'',hA',h1,_⟩:=hcell i j hi hj
 rw[hA] at hA'
 simp only[Option.some.injEq,Addr.mk.injEq] at hA'
 obtain⟨rfl,rfl,_⟩:=hA'
 exact h1

theorem q_appz {ps:List Nat} {q kk:Nat} {es':List (List T)} [hm:TyMake P t e zs by_] (ho:o.op = .call { callee := .builtin .append,args:=#[y,z],argTypes:=#[t,t] }) (hg:o.guard=none) (hy:st.ev y = .o (.c (.sb q 0 kk))) (hz:st.ev z = .o (.c (.rd ps (.sl kk es')))) (hkz:kk=zs.length) (hz0:zs.isEmpty=false)
  (hpl:plainT es') (hkk:∀ e∈es',e.length=kk) (hpos:0<es'.length) (hb:es'.length*by_≤140737488355328) (h63:es'.length≤9223372036854775807):Qt P ops o st (.o (.c (.ref m))) [.row kk es'] m :=
 .new hg fun a w H F hr hn=>by
  have hzn:zs ≠ []:=by intro e; rw[e] at hz0; cases hz0
  subst hkz
  obtain⟨g,tt,vs,b1,b2,b3,b4⟩:=hr.v1 hy
  obtain⟨w1,hw1⟩:∃ w1,w1=w:=⟨_,rfl⟩
  have hs:srcOf st.objs (.rd ps (.sl zs.length es'))=some es':=rfl
  obtain⟨v',w',fp'',hr1,h3,h4,h5,h6⟩:=Yr (P:=P) (o:=o) (t:=t) (kk:=zs.length) (es := []) hr (OW.nil _) List.nodup_nil rfl hzn (hr.v1 hz) hs hpl hkk (by simpa using hb) (by simpa using h63)
  have hbel:Below w.heap.size w w':=⟨h6.os,h6.tape,h6.output,h6.size,fun b hb=>h6.block b hb Aqd⟩
  refine⟨v',w',.ow (.sl zs.length es') v' fp'',?_,hbel,h3,⟨h4,trivial⟩,fun b hb=>(h5 b hb).resolve_left Aqd,fun H' hgr hq=>⟨⟨_,_,hq⟩,_,_,hq⟩⟩
  refine Zf ho ?_
  have h7:=src_any (P:=P) (t:=t) (e:=e) (by_:=by_) (kk:=zs.length) hr rfl hzn (hr.v1 hz) hs hpl hkk
  rw[b4,run_append_z (P:=P) (some ⟨g,0,none⟩) h7 hpos hb h63]
  exact hr1
end
end
end Go.Proofs.YtalaljeokcpfnaaGreat
