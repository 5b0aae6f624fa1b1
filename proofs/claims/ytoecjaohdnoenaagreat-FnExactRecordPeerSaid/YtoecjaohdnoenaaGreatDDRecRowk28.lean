/-
  Rules, data and contracts of functions: part 29 of the proof.
  Conditions: those that each theorem names.
-/
import Derived.Test.YtoecjaohdnoenaaGreatDDRecRowk27
set_option linter.unusedSimpArgs false
set_option linter.unusedVariables false
set_option maxRecDepth 8000
set_option maxHeartbeats 8000000
namespace Go.Proofs.YtoecjaohdnoenaaGreat
section
open Go.RowKit

def zeroS (k:Nat):ByteArray:=⟨Array.replicate k 0⟩
theorem zeroS_list (k:Nat):(zeroS k).data.toList=List.replicate k 0:=by simp[zeroS]
theorem zeroS_size (k:Nat):(zeroS k).size=k:=by simp[zeroS,ByteArray.size]
theorem zeroS_cells (k:Nat):(byteCells (zeroS k)).toArray=Builtin.zeroCells #[.int .u8 0] k:=by
 apply Array.ext'
 apply List.ext_getElem
 ·simp[byteCells,zeroS,Builtin.zeroCells]
 ·intro i h1 h2
  simp[byteCells,zeroS,Builtin.zeroCells,Nat.mod_one]
theorem append_zeros_run {P:Program} (w:World) (t tn ts ty e:TypeId) (i:TypeInfo) {kn:IntKind} (ht:P.underlying t=some (.slice e)) (htn:P.underlying tn=some (.int kn)) (hts:P.underlying ts=some .string) (hi:P.info? e=some i) {z:Value} (hz:i.zero=some z) (hzc:z.cells=#[.int .u8 0]) (hsz:i.size=1) (hb:i.bytes=1)
  (base:Option Addr) (sLen sCap k:Nat) (hcap:sLen≤sCap) (hk:sLen+k≤140737488355328) :
  (Builtin.append_ #[t,tn] ty #[.slice base sLen sCap,.int .i64 k]).run P w=(Builtin.append_ #[t,ts] ty #[.slice base sLen sCap,.string (zeroS k)]).run P w:=by
 have hs:=Src.ofString (P:=P) w hts (zeroS k)
 have hc:=zeroS_cells k
 rw[zeroS_size] at hs
 obtain⟨_,hl,hcells,hcellsD,_,_⟩:=hs
 have hcA:∀ w':World,(Builtin.firstCells 1 k (.string (zeroS k))).run P w' = .ok (byteCells (zeroS k)).toArray w':=fun w'=>by
  have:=firstCells_string (P:=P) (zeroS k) w'
  rwa[zeroS_size] at this
 have hw:IntKind.i64.wrap (k:Int)=k:=by rw[IntKind.wrap_i64]; omega
 have hw0:IntKind.i64.wrap (0:Int)=0:=by rw[IntKind.wrap_i64]; omega
 have hneg:¬((k:Int)<0):=by omega
 have h48i:¬(281474976710656<(k:Int)):=by omega
 have h63':¬(9223372036854775807<((sLen:Int)+(k:Int))):=by omega
 by_cases hroom:sLen+k≤sCap
 ·by_cases h0:k=0
  ·subst h0
   have hc0:(byteCells (zeroS 0)).toArray=#[]:=rfl
   simp[Builtin.append_,run_underlying ht,run_underlying htn,run_underlying hts,Go.sizeOf,typeInfo,zeroValue,hi,hz,hsz,hb,asInt,asIntOf,hw0,hl,hcA,hc0] at hroom ⊢
   simp[hroom]
  ·simp[Builtin.append_,run_underlying ht,run_underlying htn,run_underlying hts,Go.sizeOf,typeInfo,zeroValue,hi,hz,hsz,hb,asInt,asIntOf,hw,hneg,h0,h48i,hl,hroom,hcA,hc,hzc]
 ·by_cases h0:k=0
  ·omega
  ·have hfit:=growslice_fits (need:=sLen+k) (old:=sCap) (bytes:=1) (by omega) (by omega)
   have h48':¬(281474976710656<Builtin.nextslicecap (sLen+k) sCap):=by omega
   simp[h48',Builtin.append_,run_underlying ht,run_underlying htn,run_underlying hts,Go.sizeOf,typeInfo,zeroValue,hi,hz,hsz,hb,asInt,asIntOf,hw,hneg,h0,h48i,h63',hl,hroom,hcA,hc,hzc]
theorem append_zs {P:Program} {w:World} {t tn ts ty e:TypeId} {kn:IntKind} [hm:TyMake P t e [.int .u8 0] 1] [hn:TyInt P tn kn] [hts:TyStr P ts] {es:List (List T)} {v:Value} {fp:List Nat} (hw:OW w (.sl 1 es) v fp) (k:Nat) (hk:es.length+k≤140737488355328) :
  (Builtin.append_ #[t,tn] ty #[v,.int .i64 k]).run P w=(Builtin.append_ #[t,ts] ty #[v,.string (zeroS k)]).run P w:=by
 obtain⟨i,hi,hzz⟩:=Option.map_eq_some_iff.1 hm.info
 simp only[Prod.mk.injEq] at hzz
 obtain⟨hz1,hs,hb1⟩:=hzz
 obtain⟨z,hz2,hz3⟩:=Option.map_eq_some_iff.1 hz1
 have hzc:z.cells=#[.int .u8 0]:=Array.ext' hz3
 rcases hw.open_ with ⟨rfl,rfl,rfl⟩ | ⟨b,o,c,tid,cur,fz,val,fps,rfl,_,_,_,hc,_⟩
 ·exact append_zeros_run w t tn ts ty e i hm.slice hn.int hts.str hi hz2 hzc hs hb1 none 0 0 k (Gqk _) (by simpa using hk)
 ·exact append_zeros_run w t tn ts ty e i hm.slice hn.int hts.str hi hz2 hzc hs hb1 _ es.length c k hc hk
section
variable {P:Program} {E:Env} {ops:Array Oper} {rest:List Oper} {o:Oper} {QQ:Exit→St→Prop} {st:St} {t:TypeId} {y z:Operand} {qs:List Nat}
theorem L_appz {p:Nat} {tn:TypeId} (ts:TypeId) {kn:IntKind} {k:Nat} {es:List (List T)} {e:TypeId} [hm:TyMake P t e [.int .u8 0] 1] [hn:TyInt P tn kn] [hts:TyStr P ts] (ho:o.op = .call { callee := .builtin .append,args:=#[y,z],argTypes:=#[t,tn] }) (hg:o.guard=none) (hy:st.ev y = .o (.c (.ref p))) (hp:st.objs[p]? = some (.row 1 es)) (hz:st.ev z = .o (.c (.rd qs (.v (.int .i64 (k:Int))))))
  (hb:es.length+k≤140737488355328)
  (hd:dstOk st.n o.dst=true) (h:AL P E ops QQ rest ⟨st.n,setT (st.tmps.map fun e=>(e.1,e.2.kill [p])) o.dst (.o (.c (.ref p))),(st.objs.map (Ob.kill [p])).set p (.row 1 (es++bE (List.replicate k 0)))⟩):AL P E ops QQ (o::rest) st:=by
 refine⟨fun a w ⟨H,F,h1,h2⟩ => ?_⟩
 obtain⟨v,fp,e1,e2⟩:=h1.ow hp
 obtain⟨x',fp',e3⟩:=h1.v1 hy
 rw[e1] at e3
 simp only[Pc.ow.injEq] at e3
 obtain⟨_,hv,_⟩:=e3
 have hnd:=h1.ok.nodup p
 rw[e1] at hnd
 have hlen:(bE (zeroS k).data.toList).length=k:=by rw[Yl,zeroS_list,Gxw]
 obtain⟨v',w',fp'',hr,h3,h4,h5,h6⟩:=append_src (P:=P) (o:=o) (t:=t) (kk:=1) e2 hnd rfl (by simp) (bE_src (tx:=ts) (zeroS k)) (bE_plain _) (bE_one _) (by rw[hlen]; omega) (by rw[hlen]; omega)
 rw[←append_zs (tn:=tn) e2 k hb] at hr
 rw[zeroS_list] at h3
 obtain⟨hok,htn⟩:=h1.ok.turn (p:=p) (fp:=fp) (by rw[e1]; rfl) h6 (.ow (.sl 1 (es++bE (List.replicate k 0))) v' fp'') h3 h4 trivial h5
 obtain⟨hplt,_⟩:=Gql.1 hp
 have hR:=h1.turn htn hok ((st.objs.map (Ob.kill [p])).set p (.row 1 (es++bE (List.replicate k 0)))) (fun q hq => ?_) (fun q hq => ?_)
 ·have hR2:=hR.put (x := .o (.c (.ref p))) o.dst hd (v:=v') ⟨_,_,Hs.put_self _ _ _⟩
  refine wpList_step fun K hK => ?_
  rw[if_pos (by unfold Region.wanted; rw[hg])]
  unfold Oper.wp
  rw[Y3 ho (by rw[←hv,h1.plain hz]; exact hr)]
  exact hK _ _ (h.h _ _ ⟨_,F,hR2,h2.turn htn⟩)
 ·have hqp:q≠p:=by simpa using hq
  rw[Gqc,Gxb (Ne.symm hqp),Gqh,Gqc]
  cases st.objs[q]? <;> rfl
 ·have hqp:q=p:=by simpa using hq
  subst hqp
  rw[Y6 (x := .row 1 (es++bE (List.replicate k 0))) (by simp[hplt])]
  exact⟨_,_,Hs.put_self _ _ _⟩
theorem M_appz {n d p:Nat} {ts':List (Nat×V)} {obs:List Ob} {tn:TypeId} (ts:TypeId) {kn:IntKind} {k:Nat} {es:List (List T)} {e:TypeId} [hm:TyMake P t e [.int .u8 0] 1] [hn:TyInt P tn kn] [hts:TyStr P ts] (ho:o.op = .call { callee := .builtin .append,args:=#[y,z],argTypes:=#[t,tn] }) (hg:o.guard=none) (hy:St.ev ⟨n,ts',obs⟩ y = .o (.c (.ref p))) (hp:obs[p]? = some (.row 1 es)) (hz:St.ev ⟨n,ts',obs⟩ z = .o (.c (.rd qs (.v (.int .i64 (k:Int))))))
  (hd:o.dst=some d) (hl:Nat.blt d n=true) (hb:es.length+k≤140737488355328)
  (h:AL P E ops QQ rest ⟨n,(d,.o (.c (.ref p)))::(ts'.map fun e=>(e.1,e.2.kill [p])),(obs.map (Ob.kill [p])).set p (.row 1 (es++bE (List.replicate k 0)))⟩):AL P E ops QQ (o::rest) ⟨n,ts',obs⟩ :=
 L_appz (st:=⟨n,ts',obs⟩) ts ho hg hy hp hz hb (by rw[hd]; exact hl) (by rw[hd]; exact h)
end
end
section
open Go.RowKit

theorem upZ {s:ByteArray} {i q:Nat} (h:∀ j,i≤j→j<q→byteAt s j=0) (hq:byteAt s q=0):∀ j,i≤j→j<q+1→byteAt s j=0:=fun j h1 h2=>by
 by_cases e:j=q
 ·subst e; exact hq
 ·exact h j h1 (by omega)
theorem upN {s:ByteArray} {i q:Nat} (h:∀ j,i≤j→j<q→byteAt s j≠0) (hq:byteAt s q≠0):∀ j,i≤j→j<q+1→byteAt s j≠0:=fun j h1 h2=>by
 by_cases e:j=q
 ·subst e; exact hq
 ·exact h j h1 (by omega)
theorem K9 (t:ByteArray):(packText t).data.toList.length≤t.size+6:=by
 rw[text_list,Gqg]
 have:=Y2 (t.size:Nat)
 have e:t.data.toList.length=t.size:=by simp
 omega
theorem I_PackZeros (s:ByteArray) (hs:s.size≤1099511627775):Con Tryz.prog 275 [] [astr s] [] (S (bs (packZ s.data.toList))):=by
 refine Con.of Tryz.func275 J Tryz.ntmps275 J (fun E => ?_)
 refine Wz [32,32,32,155] ?_
 refine AWP.pre ?_ (W_nil 3 1 J)
 refine Xj (fun m__ st=>∃ (i:Nat) (acc:List UInt8),s.size-i=m__∧(acc++packZ (s.data.toList.drop i)=packZ s.data.toList∧i≤s.size∧acc.length≤14*i)∧st=(⟨_,[(0,S s),(3,.o (.c (.ref 0))),(4,I i)],[.row 1 (bE acc)]⟩:St)) _ ⟨_,⟨0,[],J,by simp,J⟩,Gi [0]⟩ ?_
 rintro m_A _ ⟨i,acc,hk_A,hp_A,rfl⟩
 obtain⟨hp1,hp2,hp3⟩:=hp_A
 refine Wz [96,37] ?_
 refine Xb J (fun h5 => ?_) (fun h5 => ?_)
 ·have h5:i<s.size:=by have:=Gqe h5; omega
  have hb:=Yl acc
  have hb1:=Yp acc
  refine Wz [22,44,10,2,155] ?_;refine Xj (fun m__ st=>∃ (q:Nat),s.size-q=m__∧(i≤q∧q≤s.size∧(∀ j,i≤j→j<q→byteAt s j=0))∧st=(⟨_,[(0,S s),(3,.o (.c (.ref 0))),(4,I q),(5,I i)],[.row 1 (bE acc)]⟩:St)) _ ⟨_,⟨i,J,⟨Gqk _,by omega,fun q h1 h2=>by omega⟩,J⟩,Gi [0]⟩ ?_
  rintro m_D _ ⟨q,hk_D,hp_D,rfl⟩
  obtain⟨hd1,hd2,hd3⟩:=hp_D
  by_cases hq:q<s.size
  ·have f1:decide ((q:Int)<s.size)=true:=Gqb (by omega)
   by_cases hz:byteAt s q=0
   ·have f2:decide (byteAt s (q:Int).toNat=0)=true:=Gqb hz
    refine Wz [96,12,81,158,1,257,112,22,44,33,18,141,122] ?_
    refine⟨_,(by omega),_,⟨q+1,J,⟨by omega,by omega,upZ hd3 hz⟩,J⟩,Gi [0]⟩
   ·have f2:decide (byteAt s (q:Int).toNat=0)=false:=Gqa hz
    refine Wz [96,12,81,146,1,15,25,76,89,2,155] ?_;refine Xj (fun m__ st=>∃ (e:Nat),s.size-e=m__∧(q≤e∧e≤s.size∧(∀ j,q≤j→j<e→byteAt s j≠0))∧st=(⟨_,[(0,S s),(3,.o (.c (.ref 0))),(4,I e),(5,I i),(6,I q)],[.row 1 (bE acc)]⟩:St)) _ ⟨_,⟨q,J,⟨Gqk _,hd2,fun j h1 h2=>by omega⟩,J⟩,Gi [0]⟩ ?_
    rintro m_G _ ⟨e,hk_G,hp_G,rfl⟩
    obtain⟨hg1,hg2,hg3⟩:=hp_G
    by_cases he:e<s.size
    ·have f3:decide ((e:Int)<s.size)=true:=Gqb (by omega)
     by_cases hn:byteAt s e≠0
     ·have f4:decide (byteAt s (e:Int).toNat≠0)=true:=Gqb hn
      refine Wz [96,12,81,146,1,24,112,22,44,33,18,141,122] ?_
      refine⟨_,(by omega),_,⟨e+1,J,⟨by omega,by omega,upN hg3 hn⟩,J⟩,Gi [0]⟩
     ·have hn:=Classical.not_not.1 hn
      have f4:decide (byteAt s (e:Int).toNat≠0)=false:=Gqa (fun q=>q hn)
      have hie:i<e:=by
       rcases Gqo i e with h6 | h6
       ·exact h6
       ·exact absurd hn (by have:e=q:=(by omega); rw[this]; exact (fun _=>hz) (by omega))
      have hst:=Zq hd1 hg1 hg2 hie hd3 (fun _=>hz) hg3 (fun _=>hn)
      have hl1:=Y2 ((q-i:Nat):Int)
      have hl2:=K9 (s.extract q e)
      have hl3:(s.extract q e).size=e-q:=by rw[Gxl]; omega
      have hl4:=Yp (encVar ((q-i:Nat):Int))
      have hl5:=Zp (s.extract q e)
      have hl6:(packText (s.extract q e)).data.toList.length=(packText (s.extract q e)).size:=by simp
      have ee:(q:Int)-i=((q-i:Nat):Int):=by omega
      have hce:=Xt ((q-i:Nat):Int)
      have hct:=I_PackText (s.extract q e) (by omega)
      have hst2:(acc++encVar ((q-i:Nat):Int)++(packText (s.extract q e)).data.toList)++packZ (s.data.toList.drop e)=packZ s.data.toList:=by rw[←hp1,hst]; simp only[Gqu]
      have hl1':=hl1
      rw[←ee] at hce hl1 hl4
      have hq1:(bE (bs (encVar ((q:Int)-i))).data.toList).length=(encVar ((q:Int)-i)).length:=by rw[Yl,Yo]
      have hq2:(bE (encVar ((q:Int)-i))).length=(encVar ((q:Int)-i)).length:=Yl _
      refine Wz [96,12,81,158,1,201,25,76,27,99,65] ?_;refine zx (Qj J J (hce) J) J ?_;refine Wz [261,2,33,132,0,237] ?_;refine zx (Qj J J (hct) J) J ?_
      refine X4 J J J J J J J (by simp only[Gqg]; omega) (by simp only[Gqg]; omega) ?_;refine z1 J ?_
      refine Wz [51,122] ?_
      refine⟨_,(by omega),_,⟨e,acc++encVar ((q-i:Nat):Int)++(packText (s.extract q e)).data.toList,J,⟨hst2,hg2,by simp only[Gqg]; omega⟩,J⟩,(by rw[Yo,Yk,Yk,ee]; exact Gi [0])⟩
    ·have f3:decide ((e:Int)<s.size)=false:=Gqa (by omega)
     have hst:=Zq hd1 hg1 hg2 (by omega) hd3 (fun _=>hz) hg3 (fun h6=>absurd h6 he)
     have hl1:=Y2 ((q-i:Nat):Int)
     have hl2:=K9 (s.extract q e)
     have hl3:(s.extract q e).size=e-q:=by rw[Gxl]; omega
     have hl4:=Yp (encVar ((q-i:Nat):Int))
     have hl5:=Zp (s.extract q e)
     have hl6:(packText (s.extract q e)).data.toList.length=(packText (s.extract q e)).size:=by simp
     have ee:(q:Int)-i=((q-i:Nat):Int):=by omega
     have hce:=Xt ((q-i:Nat):Int)
     have hct:=I_PackText (s.extract q e) (by omega)
     have hst2:(acc++encVar ((q-i:Nat):Int)++(packText (s.extract q e)).data.toList)++packZ (s.data.toList.drop e)=packZ s.data.toList:=by rw[←hp1,hst]; simp only[Gqu]
     have hl1':=hl1
     rw[←ee] at hce hl1 hl4
     have hq1:(bE (bs (encVar ((q:Int)-i))).data.toList).length=(encVar ((q:Int)-i)).length:=by rw[Yl,Yo]
     have hq2:(bE (encVar ((q:Int)-i))).length=(encVar ((q:Int)-i)).length:=Yl _
     refine Wz [96,12,45,6,76,27,99,65] ?_;refine zx (Qj J J (hce) J) J ?_;refine Wz [261,2,33,132,0,237] ?_;refine zx (Qj J J (hct) J) J ?_
     refine X4 J J J J J J J (by simp only[Gqg]; omega) (by simp only[Gqg]; omega) ?_;refine z1 J ?_
     refine Wz [51,122] ?_
     refine⟨_,(by omega),_,⟨e,acc++encVar ((q-i:Nat):Int)++(packText (s.extract q e)).data.toList,J,⟨hst2,hg2,by simp only[Gqg]; omega⟩,J⟩,(by rw[Yo,Yk,Yk,ee]; exact Gi [0])⟩
  ·have f1:decide ((q:Int)<s.size)=false:=Gqa (by omega)
   refine Wz [96,12,45,6,76,89,2,155] ?_;refine Xj (fun m__ st=>∃ (e:Nat),s.size-e=m__∧(q≤e∧e≤s.size∧(∀ j,q≤j→j<e→byteAt s j≠0))∧st=(⟨_,[(0,S s),(3,.o (.c (.ref 0))),(4,I e),(5,I i),(6,I q)],[.row 1 (bE acc)]⟩:St)) _ ⟨_,⟨q,J,⟨Gqk _,hd2,fun j h1 h2=>by omega⟩,J⟩,Gi [0]⟩ ?_
   rintro m_G _ ⟨e,hk_G,hp_G,rfl⟩
   obtain⟨hg1,hg2,hg3⟩:=hp_G
   by_cases he:e<s.size
   ·have f3:decide ((e:Int)<s.size)=true:=Gqb (by omega)
    by_cases hn:byteAt s e≠0
    ·have f4:decide (byteAt s (e:Int).toNat≠0)=true:=Gqb hn
     refine Wz [96,12,81,146,1,24,112,22,44,33,18,141,122] ?_
     refine⟨_,(by omega),_,⟨e+1,J,⟨by omega,by omega,upN hg3 hn⟩,J⟩,Gi [0]⟩
    ·have hn:=Classical.not_not.1 hn
     have f4:decide (byteAt s (e:Int).toNat≠0)=false:=Gqa (fun q=>q hn)
     have hie:i<e:=by
      rcases Gqo i e with h6 | h6
      ·exact h6
      ·exact absurd hn (by have:e=q:=(by omega); rw[this]; exact (fun h6=>absurd h6 hq) (by omega))
     have hst:=Zq hd1 hg1 hg2 hie hd3 (fun h6=>absurd h6 hq) hg3 (fun _=>hn)
     have hl1:=Y2 ((q-i:Nat):Int)
     have hl2:=K9 (s.extract q e)
     have hl3:(s.extract q e).size=e-q:=by rw[Gxl]; omega
     have hl4:=Yp (encVar ((q-i:Nat):Int))
     have hl5:=Zp (s.extract q e)
     have hl6:(packText (s.extract q e)).data.toList.length=(packText (s.extract q e)).size:=by simp
     have ee:(q:Int)-i=((q-i:Nat):Int):=by omega
     have hce:=Xt ((q-i:Nat):Int)
     have hct:=I_PackText (s.extract q e) (by omega)
     have hst2:(acc++encVar ((q-i:Nat):Int)++(packText (s.extract q e)).data.toList)++packZ (s.data.toList.drop e)=packZ s.data.toList:=by rw[←hp1,hst]; simp only[Gqu]
     have hl1':=hl1
     rw[←ee] at hce hl1 hl4
     have hq1:(bE (bs (encVar ((q:Int)-i))).data.toList).length=(encVar ((q:Int)-i)).length:=by rw[Yl,Yo]
     have hq2:(bE (encVar ((q:Int)-i))).length=(encVar ((q:Int)-i)).length:=Yl _
     refine Wz [96,12,81,158,1,201,25,76,27,99,65] ?_;refine zx (Qj J J (hce) J) J ?_;refine Wz [261,2,33,132,0,237] ?_;refine zx (Qj J J (hct) J) J ?_
     refine X4 J J J J J J J (by simp only[Gqg]; omega) (by simp only[Gqg]; omega) ?_;refine z1 J ?_
     refine Wz [51,122] ?_
     refine⟨_,(by omega),_,⟨e,acc++encVar ((q-i:Nat):Int)++(packText (s.extract q e)).data.toList,J,⟨hst2,hg2,by simp only[Gqg]; omega⟩,J⟩,(by rw[Yo,Yk,Yk,ee]; exact Gi [0])⟩
   ·have f3:decide ((e:Int)<s.size)=false:=Gqa (by omega)
    have hst:=Zq hd1 hg1 hg2 (by omega) hd3 (fun h6=>absurd h6 hq) hg3 (fun h6=>absurd h6 he)
    have hl1:=Y2 ((q-i:Nat):Int)
    have hl2:=K9 (s.extract q e)
    have hl3:(s.extract q e).size=e-q:=by rw[Gxl]; omega
    have hl4:=Yp (encVar ((q-i:Nat):Int))
    have hl5:=Zp (s.extract q e)
    have hl6:(packText (s.extract q e)).data.toList.length=(packText (s.extract q e)).size:=by simp
    have ee:(q:Int)-i=((q-i:Nat):Int):=by omega
    have hce:=Xt ((q-i:Nat):Int)
    have hct:=I_PackText (s.extract q e) (by omega)
    have hst2:(acc++encVar ((q-i:Nat):Int)++(packText (s.extract q e)).data.toList)++packZ (s.data.toList.drop e)=packZ s.data.toList:=by rw[←hp1,hst]; simp only[Gqu]
    have hl1':=hl1
    rw[←ee] at hce hl1 hl4
    have hq1:(bE (bs (encVar ((q:Int)-i))).data.toList).length=(encVar ((q:Int)-i)).length:=by rw[Yl,Yo]
    have hq2:(bE (encVar ((q:Int)-i))).length=(encVar ((q:Int)-i)).length:=Yl _
    refine Wz [96,12,45,6,76,27,99,65] ?_;refine zx (Qj J J (hce) J) J ?_;refine Wz [261,2,33,132,0,237] ?_;refine zx (Qj J J (hct) J) J ?_
    refine X4 J J J J J J J (by simp only[Gqg]; omega) (by simp only[Gqg]; omega) ?_;refine z1 J ?_
    refine Wz [51,122] ?_
    refine⟨_,(by omega),_,⟨e,acc++encVar ((q-i:Nat):Int)++(packText (s.extract q e)).data.toList,J,⟨hst2,hg2,by simp only[Gqg]; omega⟩,J⟩,(by rw[Yo,Yk,Yk,ee]; exact Gi [0])⟩
 ·have h5:i=s.size:=by have:=Gqf h5; omega
  have e:s.data.toList.length=s.size:=by simp
  refine Wz [89,204,17] ?_
  exact Gb J (Gc [] J J (S_eq (congrArg bs (by rw[←hp1,h5,List.drop_eq_nil_of_le (by omega),packZ_nil,Gxi]))))
theorem S_PackZeros (s:ByteArray) (hs:s.size≤1099511627775):Con Tryz.prog 268 [] [astr s] [] (S (bs (packZ s.data.toList))):=by
 refine Con.of Tryz.func268 J Tryz.ntmps268 J (fun E => ?_)
 refine Wz [32,32,46] ?_;refine Xj (fun m__ st=>∃ (i:Nat) (acc:List UInt8),s.size-i=m__∧(acc++packZ (s.data.toList.drop i)=packZ s.data.toList∧i≤s.size∧acc.length≤14*i)∧st=(⟨_,[(0,S s),(3,S (bs acc)),(4,I i)],[]⟩:St)) _ ⟨_,⟨0,[],J,by simp,J⟩,Gi []⟩ ?_
 rintro m_A _ ⟨i,acc,hk_A,hp_A,rfl⟩
 obtain⟨hp1,hp2,hp3⟩:=hp_A
 refine Wz [96,37] ?_
 refine Xb J (fun h5 => ?_) (fun h5 => ?_)
 ·have h5:i<s.size:=by have:=Gqe h5; omega
  have hb:=Yl acc
  have hb1:=Yp acc
  refine Wz [22,44,10,2,155] ?_;refine Xj (fun m__ st=>∃ (q:Nat),s.size-q=m__∧(i≤q∧q≤s.size∧(∀ j,i≤j→j<q→byteAt s j=0))∧st=(⟨_,[(0,S s),(3,S (bs acc)),(4,I q),(5,I i)],[]⟩:St)) _ ⟨_,⟨i,J,⟨Gqk _,by omega,fun q h1 h2=>by omega⟩,J⟩,Gi []⟩ ?_
  rintro m_D _ ⟨q,hk_D,hp_D,rfl⟩
  obtain⟨hd1,hd2,hd3⟩:=hp_D
  by_cases hq:q<s.size
  ·have f1:decide ((q:Int)<s.size)=true:=Gqb (by omega)
   by_cases hz:byteAt s q=0
   ·have f2:decide (byteAt s (q:Int).toNat=0)=true:=Gqb hz
    refine Wz [96,12,81,158,1,257,112,22,44,33,18,141,122] ?_
    refine⟨_,(by omega),_,⟨q+1,J,⟨by omega,by omega,upZ hd3 hz⟩,J⟩,Gi []⟩
   ·have f2:decide (byteAt s (q:Int).toNat=0)=false:=Gqa hz
    refine Wz [96,12,81,146,1,15,25,76,27,13,65,49,2,155] ?_;refine Xj (fun m__ st=>∃ (e:Nat),s.size-e=m__∧(q≤e∧e≤s.size∧(∀ j,q≤j→j<e→byteAt s j≠0))∧st=(⟨_,[(0,S s),(3,S (bs acc)),(4,I e),(5,I q),(6,I ((q:Int)-i))],[]⟩:St)) _ ⟨_,⟨q,J,⟨Gqk _,hd2,fun j h1 h2=>by omega⟩,J⟩,Gi []⟩ ?_
    rintro m_G _ ⟨e,hk_G,hp_G,rfl⟩
    obtain⟨hg1,hg2,hg3⟩:=hp_G
    by_cases he:e<s.size
    ·have f3:decide ((e:Int)<s.size)=true:=Gqb (by omega)
     by_cases hn:byteAt s e≠0
     ·have f4:decide (byteAt s (e:Int).toNat≠0)=true:=Gqb hn
      refine Wz [96,12,81,146,1,24,112,22,44,33,18,141,122] ?_
      refine⟨_,(by omega),_,⟨e+1,J,⟨by omega,by omega,upN hg3 hn⟩,J⟩,Gi []⟩
     ·have hn:=Classical.not_not.1 hn
      have f4:decide (byteAt s (e:Int).toNat≠0)=false:=Gqa (fun q=>q hn)
      have hie:i<e:=by
       rcases Gqo i e with h6 | h6
       ·exact h6
       ·exact absurd hn (by have:e=q:=(by omega); rw[this]; exact (fun _=>hz) (by omega))
      have hst:=Zq hd1 hg1 hg2 hie hd3 (fun _=>hz) hg3 (fun _=>hn)
      have hl1:=Y2 ((q-i:Nat):Int)
      have hl2:=K9 (s.extract q e)
      have hl3:(s.extract q e).size=e-q:=by rw[Gxl]; omega
      have hl4:=Yp (encVar ((q-i:Nat):Int))
      have hl5:=Zp (s.extract q e)
      have hl6:(packText (s.extract q e)).data.toList.length=(packText (s.extract q e)).size:=by simp
      have ee:(q:Int)-i=((q-i:Nat):Int):=by omega
      have hce:=X6 ((q-i:Nat):Int)
      have hct:=S_PackText (s.extract q e) (by omega)
      have hst2:(acc++encVar ((q-i:Nat):Int)++(packText (s.extract q e)).data.toList)++packZ (s.data.toList.drop e)=packZ s.data.toList:=by rw[←hp1,hst]; simp only[Gqu]
      have hst3:bs acc++bs (encVar ((q:Int)-i))++packText (s.extract q e)=bs (acc++encVar ((q-i:Nat):Int)++(packText (s.extract q e)).data.toList):=by rw[ee,←Yn,←Yn,bs_of (packText (s.extract q e))]
      have hl1':=hl1
      rw[←ee] at hce hl1 hl4
      have hq1:(bE (bs (encVar ((q:Int)-i))).data.toList).length=(encVar ((q:Int)-i)).length:=by rw[Yl,Yo]
      have hq2:(bE (encVar ((q:Int)-i))).length=(encVar ((q:Int)-i)).length:=Yl _
      refine Wz [96,12,81,158,1,201,25,76,27,290,34] ?_;refine Vk (Qj J J (hce) J) J ?_;refine Wz [269,34,5,236] ?_;refine Vk (Qj J J (hct) J) J ?_
      refine Vk (q_cat J J J J (by simp only[Yp,cat_size,Gqx,List.length_nil,Gqg]; omega)) J ?_
      refine Wz [171,21,51,122] ?_
      refine⟨_,(by omega),(fun (i:Nat) (acc:List UInt8)=>(⟨_,[(0,S s),(3,S (bs acc)),(4,I i)],[]⟩:St)) (e) (acc++encVar ((q-i:Nat):Int)++(packText (s.extract q e)).data.toList),⟨e,acc++encVar ((q-i:Nat):Int)++(packText (s.extract q e)).data.toList,J,⟨hst2,hg2,by simp only[Gqg]; omega⟩,J⟩,Ga [] J (by kernel_rfl) (.c J (.cons (S_eq hst3) (.c J (.nil))))⟩
    ·have f3:decide ((e:Int)<s.size)=false:=Gqa (by omega)
     have hst:=Zq hd1 hg1 hg2 (by omega) hd3 (fun _=>hz) hg3 (fun h6=>absurd h6 he)
     have hl1:=Y2 ((q-i:Nat):Int)
     have hl2:=K9 (s.extract q e)
     have hl3:(s.extract q e).size=e-q:=by rw[Gxl]; omega
     have hl4:=Yp (encVar ((q-i:Nat):Int))
     have hl5:=Zp (s.extract q e)
     have hl6:(packText (s.extract q e)).data.toList.length=(packText (s.extract q e)).size:=by simp
     have ee:(q:Int)-i=((q-i:Nat):Int):=by omega
     have hce:=X6 ((q-i:Nat):Int)
     have hct:=S_PackText (s.extract q e) (by omega)
     have hst2:(acc++encVar ((q-i:Nat):Int)++(packText (s.extract q e)).data.toList)++packZ (s.data.toList.drop e)=packZ s.data.toList:=by rw[←hp1,hst]; simp only[Gqu]
     have hst3:bs acc++bs (encVar ((q:Int)-i))++packText (s.extract q e)=bs (acc++encVar ((q-i:Nat):Int)++(packText (s.extract q e)).data.toList):=by rw[ee,←Yn,←Yn,bs_of (packText (s.extract q e))]
     have hl1':=hl1
     rw[←ee] at hce hl1 hl4
     have hq1:(bE (bs (encVar ((q:Int)-i))).data.toList).length=(encVar ((q:Int)-i)).length:=by rw[Yl,Yo]
     have hq2:(bE (encVar ((q:Int)-i))).length=(encVar ((q:Int)-i)).length:=Yl _
     refine Wz [96,12,45,6,76,27,290,34] ?_;refine Vk (Qj J J (hce) J) J ?_;refine Wz [269,34,5,236] ?_;refine Vk (Qj J J (hct) J) J ?_
     refine Vk (q_cat J J J J (by simp only[Yp,cat_size,Gqx,List.length_nil,Gqg]; omega)) J ?_
     refine Wz [171,21,51,122] ?_
     refine⟨_,(by omega),(fun (i:Nat) (acc:List UInt8)=>(⟨_,[(0,S s),(3,S (bs acc)),(4,I i)],[]⟩:St)) (e) (acc++encVar ((q-i:Nat):Int)++(packText (s.extract q e)).data.toList),⟨e,acc++encVar ((q-i:Nat):Int)++(packText (s.extract q e)).data.toList,J,⟨hst2,hg2,by simp only[Gqg]; omega⟩,J⟩,Ga [] J (by kernel_rfl) (.c J (.cons (S_eq hst3) (.c J (.nil))))⟩
  ·have f1:decide ((q:Int)<s.size)=false:=Gqa (by omega)
   refine Wz [96,12,45,6,76,27,13,65,49,2,155] ?_;refine Xj (fun m__ st=>∃ (e:Nat),s.size-e=m__∧(q≤e∧e≤s.size∧(∀ j,q≤j→j<e→byteAt s j≠0))∧st=(⟨_,[(0,S s),(3,S (bs acc)),(4,I e),(5,I q),(6,I ((q:Int)-i))],[]⟩:St)) _ ⟨_,⟨q,J,⟨Gqk _,hd2,fun j h1 h2=>by omega⟩,J⟩,Gi []⟩ ?_
   rintro m_G _ ⟨e,hk_G,hp_G,rfl⟩
   obtain⟨hg1,hg2,hg3⟩:=hp_G
   by_cases he:e<s.size
   ·have f3:decide ((e:Int)<s.size)=true:=Gqb (by omega)
    by_cases hn:byteAt s e≠0
    ·have f4:decide (byteAt s (e:Int).toNat≠0)=true:=Gqb hn
     refine Wz [96,12,81,146,1,24,112,22,44,33,18,141,122] ?_
     refine⟨_,(by omega),_,⟨e+1,J,⟨by omega,by omega,upN hg3 hn⟩,J⟩,Gi []⟩
    ·have hn:=Classical.not_not.1 hn
     have f4:decide (byteAt s (e:Int).toNat≠0)=false:=Gqa (fun q=>q hn)
     have hie:i<e:=by
      rcases Gqo i e with h6 | h6
      ·exact h6
      ·exact absurd hn (by have:e=q:=(by omega); rw[this]; exact (fun h6=>absurd h6 hq) (by omega))
     have hst:=Zq hd1 hg1 hg2 hie hd3 (fun h6=>absurd h6 hq) hg3 (fun _=>hn)
     have hl1:=Y2 ((q-i:Nat):Int)
     have hl2:=K9 (s.extract q e)
     have hl3:(s.extract q e).size=e-q:=by rw[Gxl]; omega
     have hl4:=Yp (encVar ((q-i:Nat):Int))
     have hl5:=Zp (s.extract q e)
     have hl6:(packText (s.extract q e)).data.toList.length=(packText (s.extract q e)).size:=by simp
     have ee:(q:Int)-i=((q-i:Nat):Int):=by omega
     have hce:=X6 ((q-i:Nat):Int)
     have hct:=S_PackText (s.extract q e) (by omega)
     have hst2:(acc++encVar ((q-i:Nat):Int)++(packText (s.extract q e)).data.toList)++packZ (s.data.toList.drop e)=packZ s.data.toList:=by rw[←hp1,hst]; simp only[Gqu]
     have hst3:bs acc++bs (encVar ((q:Int)-i))++packText (s.extract q e)=bs (acc++encVar ((q-i:Nat):Int)++(packText (s.extract q e)).data.toList):=by rw[ee,←Yn,←Yn,bs_of (packText (s.extract q e))]
     have hl1':=hl1
     rw[←ee] at hce hl1 hl4
     have hq1:(bE (bs (encVar ((q:Int)-i))).data.toList).length=(encVar ((q:Int)-i)).length:=by rw[Yl,Yo]
     have hq2:(bE (encVar ((q:Int)-i))).length=(encVar ((q:Int)-i)).length:=Yl _
     refine Wz [96,12,81,158,1,201,25,76,27,290,34] ?_;refine Vk (Qj J J (hce) J) J ?_;refine Wz [269,34,5,236] ?_;refine Vk (Qj J J (hct) J) J ?_;refine Wz [269,171,21,51,122] ?_
     refine⟨_,(by omega),(fun (i:Nat) (acc:List UInt8)=>(⟨_,[(0,S s),(3,S (bs acc)),(4,I i)],[]⟩:St)) (e) (acc++encVar ((q-i:Nat):Int)++(packText (s.extract q e)).data.toList),⟨e,acc++encVar ((q-i:Nat):Int)++(packText (s.extract q e)).data.toList,J,⟨hst2,hg2,by simp only[Gqg]; omega⟩,J⟩,Ga [] J (by kernel_rfl) (.c J (.cons (S_eq hst3) (.c J (.nil))))⟩
   ·have f3:decide ((e:Int)<s.size)=false:=Gqa (by omega)
    have hst:=Zq hd1 hg1 hg2 (by omega) hd3 (fun h6=>absurd h6 hq) hg3 (fun h6=>absurd h6 he)
    have hl1:=Y2 ((q-i:Nat):Int)
    have hl2:=K9 (s.extract q e)
    have hl3:(s.extract q e).size=e-q:=by rw[Gxl]; omega
    have hl4:=Yp (encVar ((q-i:Nat):Int))
    have hl5:=Zp (s.extract q e)
    have hl6:(packText (s.extract q e)).data.toList.length=(packText (s.extract q e)).size:=by simp
    have ee:(q:Int)-i=((q-i:Nat):Int):=by omega
    have hce:=X6 ((q-i:Nat):Int)
    have hct:=S_PackText (s.extract q e) (by omega)
    have hst2:(acc++encVar ((q-i:Nat):Int)++(packText (s.extract q e)).data.toList)++packZ (s.data.toList.drop e)=packZ s.data.toList:=by rw[←hp1,hst]; simp only[Gqu]
    have hst3:bs acc++bs (encVar ((q:Int)-i))++packText (s.extract q e)=bs (acc++encVar ((q-i:Nat):Int)++(packText (s.extract q e)).data.toList):=by rw[ee,←Yn,←Yn,bs_of (packText (s.extract q e))]
    have hl1':=hl1
    rw[←ee] at hce hl1 hl4
    have hq1:(bE (bs (encVar ((q:Int)-i))).data.toList).length=(encVar ((q:Int)-i)).length:=by rw[Yl,Yo]
    have hq2:(bE (encVar ((q:Int)-i))).length=(encVar ((q:Int)-i)).length:=Yl _
    refine Wz [96,12,45,6,76,27,290,34] ?_;refine Vk (Qj J J (hce) J) J ?_;refine Wz [269,34,5,236] ?_;refine Vk (Qj J J (hct) J) J ?_
    refine Vk (q_cat J J J J (by simp only[Yp,cat_size,Gqx,List.length_nil,Gqg]; omega)) J ?_
    refine Wz [171,21,51,122] ?_
    refine⟨_,(by omega),(fun (i:Nat) (acc:List UInt8)=>(⟨_,[(0,S s),(3,S (bs acc)),(4,I i)],[]⟩:St)) (e) (acc++encVar ((q-i:Nat):Int)++(packText (s.extract q e)).data.toList),⟨e,acc++encVar ((q-i:Nat):Int)++(packText (s.extract q e)).data.toList,J,⟨hst2,hg2,by simp only[Gqg]; omega⟩,J⟩,Ga [] J (by kernel_rfl) (.c J (.cons (S_eq hst3) (.c J (.nil))))⟩
 ·have h5:i=s.size:=by have:=Gqf h5; omega
  have e:s.data.toList.length=s.size:=by simp
  refine Wz [89,17] ?_
  exact Gb J (Gc [] J J (S_eq (congrArg bs (by rw[←hp1,h5,List.drop_eq_nil_of_le (by omega),packZ_nil,Gxi]))))
end
section
open Go.RowKit

def xorB (a:ByteArray) (i:Nat) (x:UInt8):UInt8:=if i<a.size then UInt8.ofNat (x.toNat^^^(byteAt a i).toNat) else x
def xorL (a b:ByteArray):List UInt8:=(List.range b.size).map fun i=>xorB a i (b.data.toList.getD i 0)
def xorText (a b:ByteArray):ByteArray:=bs (xorL a b)
theorem xorL_len (a b:ByteArray):(xorL a b).length=b.data.toList.length:=by simp[xorL]
theorem xorL_at {a b:ByteArray} {i:Nat} (h:i<(xorL a b).length) (h':i<b.data.toList.length):(xorL a b)[i]=xorB a i b.data.toList[i]:=by
 have h2:b.data.toList.getD i 0=b.data.toList[i]:=by rw[Gqc,Gqd h']; rfl
 simp only[xorL,List.getElem_map,List.getElem_range,h2]
theorem mk_nextL {α:Type} {ms xs:List α} (hl:ms.length=xs.length) {i:Nat} (h:i<xs.length):ms.take (i+1)++xs.drop (i+1)=(ms.take i++xs.drop i).set i (ms[i]'(by omega)):=by
 have h2:i<ms.length:=by omega
 have hi:(ms.take i).length=i:=by simp; omega
 rw[Gq1 h2,List.set_append_right _ _ (by omega)]
 have:i-(ms.take i).length=0:=by omega
 rw[this,Gxu h,List.set_cons_zero,Gqu]
 rfl
theorem bE_set (l:List UInt8) (i:Nat) (x:UInt8):bE (l.set i x)=(bE l).set i [.v (.int .u8 (x.toNat:Int))]:=by simp[bE,List.map_set]
theorem bE_at {l:List UInt8} {i:Nat} (h:i<l.length):(bE l)[(i:Int).toNat]? = some [.v (.int .u8 ((l[i]).toNat:Int))]:=by
 rw[Int.toNat_natCast,bE,Gqh,Gqd h]
 rfl
theorem xor_end {a b:ByteArray} {i:Nat} (hi:i≤b.data.toList.length) (h:b.data.toList.length≤i∨a.size≤i):(xorL a b).take i++b.data.toList.drop i=xorL a b:=by
 have hl:=xorL_len a b
 have hml:=Zk hl hi
 apply List.ext_getElem?
 intro j
 by_cases hj:j<i
 ·by_cases hjl:j<(xorL a b).length
  ·rw[Gqy (by simp; omega),Gq9,if_pos hj]
  ·rw[List.getElem?_eq_none (by omega),List.getElem?_eq_none (by omega)]
 ·by_cases hjl:j<(xorL a b).length
  ·have ha:a.size≤i:=by omega
   have hti:((xorL a b).take i).length=i:=by simp; omega
   rw[Gq2 (by omega),hti,Gq5,show i+(j-i)=j by omega,Gqd (by omega),Gqd hjl,xorL_at hjl (by omega),xorB,if_neg (by omega)]
  ·rw[List.getElem?_eq_none (by omega),List.getElem?_eq_none (by omega)]
theorem I_XorText (a b:ByteArray) (ha:a.size≤1099511627776) (hb:b.size≤1099511627776):Con Tryz.prog 276 [] [astr a,astr b] [] (S (xorText a b)):=by
 have hl:=xorL_len a b
 have hbl:b.data.toList.length=b.size:=by simp
 refine Con.of Tryz.func276 J Tryz.ntmps276 J (fun E => ?_)
 refine Wz [32,10] ?_;refine M1 (q_strb J J J (by omega)) J J ?_;refine Wz [2,46] ?_;refine Xj (fun m__ st=>∃ (i:Nat),b.size-i=m__∧(i≤b.size∧i≤a.size)∧st=(⟨_,[(0,S a),(5,.o (.c (.ref 0))),(6,I i)],[.row 1 (bE ((xorL a b).take i++b.data.toList.drop i))]⟩:St)) _ ⟨_,⟨0,J,⟨Gxq _,Gxq _⟩,J⟩,Gi [0]⟩ ?_
 rintro m_A _ ⟨i,hk_A,hp_A,rfl⟩
 have hrow:(bE ((xorL a b).take i++b.data.toList.drop i)).length=b.size:=by rw[Yl,Zk hl (by omega)]; exact hbl
 refine Wz [20,102,152,0,156,228,276] ?_;refine zx (Qt.grdT J J J (.hit (.hit (.hit .stop))) (fun hgrd=>Kh J J J J)) J ?_;refine Wz [79,3] ?_
 refine Xb J (fun h => ?_) (fun h => ?_)
 ·simp only[Gqi,decide_eq_true_eq] at h
  have hib:i<b.data.toList.length:=by omega
  have hil:i<((xorL a b).take i++b.data.toList.drop i).length:=by rw[Zk hl (by omega)]; exact hib
  have hat:=bE_at hil
  rw[mk_at hl hib] at hat
  obtain⟨c,hc⟩:∃ c:UInt8,c=b.data.toList[i]:=⟨_,rfl⟩
  rw[←hc] at hat
  have hc2:=c.toNat_lt
  have hby:=Yq a i
  have hy:(UInt8.ofNat (c.toNat^^^(byteAt a i).toNat)).toNat=c.toNat^^^(byteAt a i).toNat:=by
   have:c.toNat^^^(byteAt a i).toNat<2 ^ 8:=Nat.xor_lt_two_pow (by omega) (by omega)
   rw[UInt8.toNat_ofNat']
   exact Nat.mod_eq_of_lt this
  have hby2:byteAt a (i:Int).toNat=byteAt a i:=rfl
  have hend:bE ((xorL a b).take (i+1)++b.data.toList.drop (i+1))=(bE ((xorL a b).take i++b.data.toList.drop i)).set (i:Int).toNat (splice [.v (.int .u8 (c.toNat:Int))] 0 [.v (.int .u8 (((c.toNat:Int).toNat^^^(byteAt a i).toNat:Nat):Int))]):=by
   rw[mk_nextL hl hib,bE_set,xorL_at (by omega) hib,xorB,if_pos (by omega),←hc,hy]
   rfl
  refine Wz [11] ?_;refine Xi [[],[],[0,1],[0,1,2],[],[],[4,5],(u9 7),(u9 8),(u9 9)] [[],[],[21,22],[21,22,23],[],[],[25,26],[21,22,23,24,25,26,27],[21,22,23,24,25,26,27,28],[21,22,23,24,25,26,27,28,29]] [[22,25,26,27],[21,25,26,27],[25,26,27],[25,26,27],[21,22,23,24,26],[21,22,23,24,25],[21,22,23,24],[],[],[]] J ?_;refine Wz [34,128,151,34] ?_;refine Vk (Z1 J J J J (by assumption) (by omega)) J (Vk (q_bxor8 J J J J (by omega)) J ?_);refine Wz [128,21,125,51,129] ?_
  refine⟨_,(by omega),(fun (i:Nat)=>(⟨_,[(0,S a),(5,.o (.c (.ref 0))),(6,I i)],[.row 1 (bE ((xorL a b).take i++b.data.toList.drop i))]⟩:St)) (i+1),⟨i+1,J,⟨by omega,by omega⟩,J⟩,Ga [0] J (Kw hend) (.c J (.c J (.c J (.nil))))⟩
 ·simp only[Gxn,decide_eq_false_iff_not] at h
  have hend:=xor_end (a:=a) (b:=b) (i:=i) (by omega) (by omega)
  rw[hend]
  refine Wz [89,204,17] ?_
  exact Gb J (Gc [] J J J)
theorem S_XorText (a b:ByteArray) (ha:a.size≤1099511627776) (hb:b.size≤1099511627776):Con Tryz.prog 269 [] [astr a,astr b] [] (S (xorText a b)):=by
 have hl:=xorL_len a b
 have hbl:b.data.toList.length=b.size:=by simp
 refine Con.of Tryz.func269 J Tryz.ntmps269 J (fun E => ?_)
 refine Wz [32,10] ?_;refine M1 (q_strb J J J (by omega)) J J ?_;refine Wz [2,46] ?_;refine Xj (fun m__ st=>∃ (i:Nat),b.size-i=m__∧(i≤b.size∧i≤a.size)∧st=(⟨_,[(0,S a),(5,.o (.c (.ref 0))),(6,I i)],[.row 1 (bE ((xorL a b).take i++b.data.toList.drop i))]⟩:St)) _ ⟨_,⟨0,J,⟨Gxq _,Gxq _⟩,J⟩,Gi [0]⟩ ?_
 rintro m_A _ ⟨i,hk_A,hp_A,rfl⟩
 have hrow:(bE ((xorL a b).take i++b.data.toList.drop i)).length=b.size:=by rw[Yl,Zk hl (by omega)]; exact hbl
 refine Wz [20,102,152,0,156,228,276] ?_;refine zx (Qt.grdT J J J (.hit (.hit (.hit .stop))) (fun hgrd=>Kh J J J J)) J ?_;refine Wz [79,3] ?_
 refine Xb J (fun h => ?_) (fun h => ?_)
 ·simp only[Gqi,decide_eq_true_eq] at h
  have hib:i<b.data.toList.length:=by omega
  have hil:i<((xorL a b).take i++b.data.toList.drop i).length:=by rw[Zk hl (by omega)]; exact hib
  have hat:=bE_at hil
  rw[mk_at hl hib] at hat
  obtain⟨c,hc⟩:∃ c:UInt8,c=b.data.toList[i]:=⟨_,rfl⟩
  rw[←hc] at hat
  have hc2:=c.toNat_lt
  have hby:=Yq a i
  have hy:(UInt8.ofNat (c.toNat^^^(byteAt a i).toNat)).toNat=c.toNat^^^(byteAt a i).toNat:=by
   have:c.toNat^^^(byteAt a i).toNat<2 ^ 8:=Nat.xor_lt_two_pow (by omega) (by omega)
   rw[UInt8.toNat_ofNat']
   exact Nat.mod_eq_of_lt this
  have hby2:byteAt a (i:Int).toNat=byteAt a i:=rfl
  have hend:bE ((xorL a b).take (i+1)++b.data.toList.drop (i+1))=(bE ((xorL a b).take i++b.data.toList.drop i)).set (i:Int).toNat (splice [.v (.int .u8 (c.toNat:Int))] 0 [.v (.int .u8 (((c.toNat:Int).toNat^^^(byteAt a i).toNat:Nat):Int))]):=by
   rw[mk_nextL hl hib,bE_set,xorL_at (by omega) hib,xorB,if_pos (by omega),←hc,hy]
   rfl
  refine Wz [11] ?_;refine Xi [[],[],[],[],[2,3],[2,3,4],[],[],[6,7],[2,3,4,5,6,7,8],(u9 10),(u9 11)] [[],[],[],[],[23,24],[23,24,25],[],[],[27,28],[23,24,25,26,27,28,29],[21,22,23,24,25,26,27,28,29,30],[21,22,23,24,25,26,27,28,29,30,31]] [[22,23,24,25,26,27,28,29,30],[21,23,24,25,26,27,28,29,30],[21,22,24,27,28,29],[21,22,23,27,28,29],[21,22,27,28,29],[21,22,27,28,29],[21,22,23,24,25,26,28],[21,22,23,24,25,26,27],[21,22,23,24,25,26],[21,22],[],[]] J ?_;refine Wz [34,34,128,151,34] ?_;refine Vk (Z1 J J J J (by assumption) (by omega)) J (Vk (q_bxor8 J J J J (by omega)) J ?_);refine Wz [128,21,125,51,129] ?_
  refine⟨_,(by omega),(fun (i:Nat)=>(⟨_,[(0,S a),(5,.o (.c (.ref 0))),(6,I i)],[.row 1 (bE ((xorL a b).take i++b.data.toList.drop i))]⟩:St)) (i+1),⟨i+1,J,⟨by omega,by omega⟩,J⟩,Ga [0] J (Kw hend) (.c J (.c J (.c J (.nil))))⟩
 ·simp only[Gxn,decide_eq_false_iff_not] at h
  have hend:=xor_end (a:=a) (b:=b) (i:=i) (by omega) (by omega)
  rw[hend]
  refine Wz [89,204,17] ?_
  exact Gb J (Gc [] J J J)
end
section
open Go.RowKit

theorem uz_end {s:ByteArray} {b:Bool} {pos:Nat} (h:¬pos<s.size) (f:Nat) (acc:List UInt8):uzGo s b f pos acc=some acc:=by
 cases f with
 |zero=>rw[uzGo,if_neg h]
 |succ f=>rw[uzGo,if_neg h]
section
variable {s:ByteArray} {b:Bool} {pos f j k:Nat} {acc:List UInt8} {n:Int} {t:ByteArray} (hp:pos<s.size)
include hp
theorem uz_none1 (h:decVar s pos=none):uzGo s b (f+1) pos acc=none:=by rw[uzGo,if_pos hp,h]
theorem uz_none2 (h:decVar s pos=some (n,j)) (h2:unpackText s ((pos:Int)+(j:Int))=none):uzGo s b (f+1) pos acc=none:=by
 rw[uzGo,if_pos hp,h]
 simp only[h2]
theorem uz_big (h:decVar s pos=some (n,j)) (h2:unpackText s ((pos:Int)+(j:Int))=some (t,k)) (hb:(20000:Int)-acc.length<n+t.size):uzGo s b (f+1) pos acc=none:=by
 rw[uzGo,if_pos hp,h]
 simp only[h2]
 rw[if_pos hb]
theorem uz_big1 (h:decVar s pos=some (n,j)) (hb:(20000:Int)-acc.length<n):uzGo s b (f+1) pos acc=none:=by
 cases h2:unpackText s ((pos:Int)+(j:Int)) with
 |none=>exact uz_none2 hp h h2
 |some r=>obtain⟨t,k⟩:=r; exact uz_big hp h h2 (by omega)
theorem uz_emp (h:decVar s pos=some (n,j)) (h2:unpackText s ((pos:Int)+(j:Int))=some (t,k)) (he:n=0∧t.size=0):uzGo s true (f+1) pos acc=none:=by
 by_cases hb:(20000:Int)-acc.length<n+t.size
 ·exact uz_big hp h h2 hb
 rw[uzGo,if_pos hp,h]
 simp only[h2]
 rw[if_neg hb,if_pos ⟨trivial,he⟩]
theorem uz_step (h:decVar s pos=some (n,j)) (h2:unpackText s ((pos:Int)+(j:Int))=some (t,k)) (hb:¬(20000:Int)-acc.length<n+t.size) (he:b=true→¬(n=0∧t.size=0)):uzGo s b (f+1) pos acc=uzGo s b f (pos+j+k) (acc++List.replicate n.toNat 0++t.data.toList):=by
 rw[uzGo,if_pos hp,h]
 simp only[h2]
 rw[if_neg hb,if_neg (fun q=>he q.1 q.2)]
end
theorem bE_rep (z:Nat):bE (List.replicate z 0)=List.replicate z [.v (.int .u8 0)]:=by simp[bE]
theorem unpackZ_len {b:Bool} {s t:ByteArray} (h:unpackZ b s=some t):t.size≤20000:=by
 unfold unpackZ at h
 cases hu:uzGo s b s.size 0 [] with
 |none=>rw[hu] at h; cases h
 |some out =>
  rw[hu] at h
  simp only at h
  split at h
  ·cases h; rw[Yp]; exact uz_len s b _ _ _ _ (by simp) hu
  ·cases h
theorem I_UnpackZeros (s:ByteArray) (hs:s.size≤1099511627775):Con Tryz.prog 300 [] [astr s] [] (otR (unpackZ true s)):=by
 refine Con.of Tryz.func300 J Tryz.ntmps300 J (fun E => ?_)
 refine Wz [4,38,2,32,32,155] ?_
 refine AWP.pre ?_ (W_nil 4 1 J)
 refine Xj (fun m__ st=>∃ (pos:Nat) (acc:List UInt8) (f:Nat),s.size-pos=m__∧(s.size≤pos+f∧pos≤s.size∧acc.length≤20000∧uzGo s true f pos acc=uzGo s true s.size 0 [])∧st=(⟨_,[(0,S s),(4,.o (.c (.ref 0))),(5,I pos)],[.row 1 (bE acc)]⟩:St)) _ ⟨_,⟨0,[],s.size,J,⟨by omega,by omega,by simp,J⟩,J⟩,Gi [0]⟩ ?_
 rintro m_A _ ⟨pos,acc,f,hk_A,hp_A,rfl⟩
 obtain⟨hfu,hps,hal,hgo⟩:=hp_A
 have hla:=Yl acc
 by_cases hlt:pos<s.size
 ·have hb:decide ((pos:Int)<s.size)=true:=Gqb (by omega)
  have hd:=Xs s (pos:Int) (by omega) ⟨by omega,by omega⟩
  obtain⟨g,rfl⟩:∃ g,f=g+1:=⟨f-1,by omega⟩
  cases hv:decVar s (pos:Int) with
  |none =>
   rw[hv] at hd
   rw[show unpackZ true s=none by rw[unpackZ,←hgo,uz_none1 hlt hv]]
   refine Wz [96,75,22,44,13,126,84,45,70,25,50,38,135,62,62,64] ?_
   exact Xq J J J (Gc [] J J J)
  | some r =>
   obtain⟨n,j⟩:=r
   rw[hv] at hd
   have hm:=Yt hv
   obtain⟨z,rfl⟩:∃ z:Nat,n=z:=⟨n.toNat,by omega⟩
   by_cases hbig:(20000:Int)-acc.length<z
   ·have hb2:decide ((20000:Int)-((bE acc).length:Int)<z)=true:=Gqb (by omega)
    rw[show unpackZ true s=none by rw[unpackZ,←hgo,uz_big1 hlt hv hbig]]
    refine Wz [96,75,22,44,13,126,84,81,97,118,86,6,50,38,135,62,62,64] ?_
    exact Xq J J J (Gc [] J J J)
   have hb2:decide ((20000:Int)-((bE acc).length:Int)<z)=false:=Gqa (by omega)
   have hut:=I_UnpackText s ((pos:Int)+(j:Int)) (by omega) ⟨by omega,by omega⟩
   cases hu:unpackText s ((pos:Int)+(j:Int)) with
   |none =>
    rw[hu] at hut
    rw[show unpackZ true s=none by rw[unpackZ,←hgo,uz_none2 hlt hv hu]]
    refine Wz [96,75,22,44,13,126,84,81,97,118,86,60,13,105,13] ?_;refine M1 (Z3 J J (hut) J J J) J J ?_;refine Wz [84,45,161,25,50,38,135,62,62,64] ?_
    exact Xq J J J (Gc [] J J J)
   | some r =>
    obtain⟨t,k⟩:=r
    rw[hu] at hut
    have hus:=unpackText_some hu
    by_cases hbig2:(20000:Int)-acc.length<z+t.size
    ·have hb3:decide ((20000:Int)-((bE acc).length:Int)-z<t.size)=true:=Gqb (by omega)
     rw[show unpackZ true s=none by rw[unpackZ,←hgo,uz_big hlt hv hu hbig2]]
     refine Wz [96,75,22,44,13,126,84,81,97,118,86,60,13,105,13] ?_;refine M1 (Z3 J J (hut) J J J) J J ?_;refine Wz [84,19,72,1,31,97,118,31,118,86,6,50,38,135,62,62,64] ?_
     exact Xq J J J (Gc [] J J J)
    have hb3:decide ((20000:Int)-((bE acc).length:Int)-z<t.size)=false:=Gqa (by omega)
    have hz1:(bE (List.replicate z 0)).length=z:=by rw[Yl,Gxw]
    have ht1:t.data.toList.length=t.size:=by simp
    by_cases hemp:(z:Int)=0∧t.size=0
    ·have e1:decide ((z:Int)=0)=true:=Gqb hemp.1
     have e2:decide ((t.size:Int)=0)=true:=Gqb (by omega)
     rw[show unpackZ true s=none by rw[unpackZ,←hgo,uz_emp hlt hv hu hemp]]
     refine Wz [96,75,22,44,13,126,84,81,97,118,86,60,13,105,13] ?_;refine M1 (Z3 J J (hut) J J J) J J ?_;refine Wz [84,19,72,1,31,97,118,31,118,86,60,13,105,13] ?_;refine M_appz 9 J J J J J J J (by omega) ?_;refine Wz [2,13] ?_
     refine X4 J J J J J J J (by simp only[Gqg]; omega) (by simp only[Gqg]; omega) ?_;refine z1 J ?_
     refine Wz [3,10,15,19,72,1,15,25,50,38,135,174,62,64] ?_
     exact Xq J J J (Gc [] J J J)
    have hgo2:=uz_step (acc:=acc) (f:=g) (b:=true) hlt hv hu hbig2 (fun _=>hemp)
    rw[hgo,show ((z:Int)).toNat=z by omega] at hgo2
    by_cases hz0:(z:Int)=0
    ·have e1:decide ((z:Int)=0)=true:=Gqb hz0
     have e2:decide ((t.size:Int)=0)=false:=Gqa (by omega)
     refine Wz [96,75,22,44,13,126,84,81,97,118,86,60,13,105,13] ?_;refine M1 (Z3 J J (hut) J J J) J J ?_;refine Wz [84,19,72,1,31,97,118,31,118,86,60,13,105,13] ?_;refine M_appz 9 J J J J J J J (by omega) ?_;refine Wz [2,13] ?_
     refine X4 J J J J J J J (by simp only[Gqg]; omega) (by simp only[Gqg]; omega) ?_;refine z1 J ?_
     refine Wz [3,10,15,19,72,1,15,25,140,122] ?_
     refine⟨_,(by omega),_,⟨pos+j+k,acc++List.replicate z 0++t.data.toList,g,J,⟨by omega,by omega,by simp only[Gqg,Gxw]; omega,hgo2.symm⟩,J⟩,(by rw[Yk,Yk]; exact Gi [0])⟩
    ·have e1:decide ((z:Int)=0)=false:=Gqa hz0
     refine Wz [96,75,22,44,13,126,84,81,97,118,86,60,13,105,13] ?_;refine M1 (Z3 J J (hut) J J J) J J ?_;refine Wz [84,19,72,1,31,97,118,31,118,86,60,13,105,13] ?_;refine M_appz 9 J J J J J J J (by omega) ?_;refine Wz [2,13] ?_
     refine X4 J J J J J J J (by simp only[Gqg]; omega) (by simp only[Gqg]; omega) ?_;refine z1 J ?_
     refine Wz [3,10,15,0,57,70,6,140,122] ?_
     refine⟨_,(by omega),_,⟨pos+j+k,acc++List.replicate z 0++t.data.toList,g,J,⟨by omega,by omega,by simp only[Gqg,Gxw]; omega,hgo2.symm⟩,J⟩,(by rw[Yk,Yk]; exact Gi [0])⟩
 ·have hb:decide ((pos:Int)<s.size)=false:=Gqa (by omega)
  have hend:=uz_end (b:=true) hlt f acc
  have hpk:=I_PackZeros (bs acc) (by rw[Yp]; omega)
  rw[Yo] at hpk
  by_cases heq:bs (packZ acc)=s
  ·have e1:decide (bs (packZ acc)≠s)=false:=Gqa (fun q=>q heq)
   rw[show unpackZ true s=some (bs acc) by rw[unpackZ,←hgo,hend]; simp only[]; rw[if_pos heq]]
   refine Wz [96,12,76,27,40,204] ?_;refine zx (Qj J J (hpk) J) J ?_;refine Wz [0,226,41,10,204,38,17] ?_
   exact Xq J J J (Gc [] J J J)
  ·have e1:decide (bs (packZ acc)≠s)=true:=Gqb heq
   rw[show unpackZ true s=none by rw[unpackZ,←hgo,hend]; simp only[]; rw[if_neg heq]]
   refine Wz [96,12,76,27,40,204] ?_;refine zx (Qj J J (hpk) J) J ?_;refine Wz [0,226,50,38,137] ?_
   exact Xq J J J (Gc [] J J J)
theorem S_UnpackZeros (s:ByteArray) (hs:s.size≤1099511627775):Con Tryz.prog 297 [] [astr s] [] (otR (unpackZ false s)):=by
 refine Con.of Tryz.func297 J Tryz.ntmps297 J (fun E => ?_)
 refine Wz [4,38,2,32,46] ?_;refine Xj (fun m__ st=>∃ (pos:Nat) (acc:List UInt8) (f:Nat),s.size-pos=m__∧(s.size≤pos+f∧pos≤s.size∧acc.length≤20000∧uzGo s false f pos acc=uzGo s false s.size 0 [])∧st=(⟨_,[(0,S s),(4,S (bs acc)),(5,I pos)],[]⟩:St)) _ ⟨_,⟨0,[],s.size,J,⟨by omega,by omega,by simp,J⟩,J⟩,Gi []⟩ ?_
 rintro m_A _ ⟨pos,acc,f,hk_A,hp_A,rfl⟩
 obtain⟨hfu,hps,hal,hgo⟩:=hp_A
 have hla:=Yp acc
 by_cases hlt:pos<s.size
 ·have hb:decide ((pos:Int)<s.size)=true:=Gqb (by omega)
  have hd:=X5 s (pos:Int) (by omega) ⟨by omega,by omega⟩
  obtain⟨g,rfl⟩:∃ g,f=g+1:=⟨f-1,by omega⟩
  cases hv:decVar s (pos:Int) with
  |none =>
   rw[hv] at hd
   have hut:=S_UnpackText s ((pos:Int)+(0:Int)) (by omega) ⟨by omega,by omega⟩
   rw[show unpackText s ((pos:Int)+(0:Int))=none by rw[Int.add_zero,unpackText,hv]] at hut
   rw[show unpackZ false s=none by rw[unpackZ,←hgo,uz_none1 hlt hv]]
   refine Wz [96,75,22,44,13,126,223,2,99,18] ?_;refine M1 (Z3 J J (hut) J J J) J J ?_;refine Wz [84,0,57,25,45,161,25,50,38,135,62,62,64] ?_
   exact Xq J J J (Gc [] J J J)
  | some r =>
   obtain⟨n,j⟩:=r
   rw[hv] at hd
   have hm:=Yt hv
   obtain⟨z,rfl⟩:∃ z:Nat,n=z:=⟨n.toNat,by omega⟩
   have hut:=S_UnpackText s ((pos:Int)+(j:Int)) (by omega) ⟨by omega,by omega⟩
   cases hu:unpackText s ((pos:Int)+(j:Int)) with
   |none =>
    rw[hu] at hut
    rw[show unpackZ false s=none by rw[unpackZ,←hgo,uz_none2 hlt hv hu]]
    refine Wz [96,75,22,44,13,126,223,2,99,18] ?_;refine M1 (Z3 J J (hut) J J J) J J ?_;refine Wz [84,19,9,6,45,161,25,50,38,135,62,62,64] ?_
    exact Xq J J J (Gc [] J J J)
   | some r =>
    obtain⟨t,k⟩:=r
    rw[hu] at hut
    have hus:=unpackText_some hu
    by_cases hbig2:(20000:Int)-acc.length<z+t.size
    ·have hb3:decide ((20000:Int)-((bs acc).size:Int)<(z:Int)+(t.size:Int))=true:=Gqb (by omega)
     rw[show unpackZ false s=none by rw[unpackZ,←hgo,uz_big hlt hv hu hbig2]]
     refine Wz [96,75,22,44,13,126,223,2,99,18] ?_;refine M1 (Z3 J J (hut) J J J) J J ?_;refine Wz [84,19,9,6,81,72,1,18,1,31,72,1,118,86,6,50,38,135,62,62,64] ?_
     exact Xq J J J (Gc [] J J J)
    have hb3:decide ((20000:Int)-((bs acc).size:Int)<(z:Int)+(t.size:Int))=false:=Gqa (by omega)
    have hgo2:=uz_step (acc:=acc) (f:=g) (b:=false) hlt hv hu hbig2 (fun q=>by cases q)
    rw[hgo,show ((z:Int)).toNat=z by omega] at hgo2
    have ht1:t.data.toList.length=t.size:=by simp
    have hz2:=Yp (List.replicate z (0:UInt8))
    rw[Gxw] at hz2
    have hz3:(bs acc++bs (List.replicate z (0:UInt8))).size=acc.length+z:=by rw[Yn,Yp,Gqg,Gxw]
    have hz4:(⟨(List.replicate z (0:UInt8)).toArray⟩:ByteArray).size=z:=hz2
    have hz5:(bs acc++(⟨(List.replicate z (0:UInt8)).toArray⟩:ByteArray)).size=acc.length+z:=hz3
    have hS:bs acc++bs (List.replicate z 0)++t=bs (acc++List.replicate z 0++t.data.toList):=by rw[←Yn,←Yn,bs_of t]
    refine Wz [96,75,22,44,13,126,223,2,99,18] ?_;refine M1 (Z3 J J (hut) J J J) J J ?_;refine Wz [84,19,9,6,81,72,1,18,1,31,72,1,118,86,60,13,253] ?_;refine AL.weak (st':=(⟨_,[(0,S s),(5,I pos),(6,I z),(7,I j),(9,S t),(10,I k),(48,S (bs acc)),(50,.o (.c (.ref 0)))],[.row 1 (bE (List.replicate z 0))]⟩:St)) (Ga [0] J ((Kw (bE_rep z))) (.c J (.c J (.c J (.c J (.c J (.c J (.c J (.c J (.nil)))))))))) ?_;refine Wz [204,231,0,231,2,33,0,18,0,18,141,122] ?_
    refine⟨_,(by omega),(fun (pos:Nat) (acc:List UInt8) (f:Nat)=>(⟨_,[(0,S s),(4,S (bs acc)),(5,I pos)],[]⟩:St)) (pos+j+k) (acc++List.replicate z 0++t.data.toList) (g),⟨pos+j+k,acc++List.replicate z 0++t.data.toList,g,J,⟨by omega,by omega,by simp only[Gqg,Gxw]; omega,hgo2.symm⟩,J⟩,Ga [] J (by kernel_rfl) (.c J (.cons (S_eq hS) (.c J (.nil))))⟩
 ·have hb:decide ((pos:Int)<s.size)=false:=Gqa (by omega)
  have hend:=uz_end (b:=false) hlt f acc
  have hpk:=S_PackZeros (bs acc) (by rw[Yp]; omega)
  rw[Yo] at hpk
  by_cases heq:bs (packZ acc)=s
  ·have e1:decide (bs (packZ acc)≠s)=false:=Gqa (fun q=>q heq)
   rw[show unpackZ false s=some (bs acc) by rw[unpackZ,←hgo,hend]; simp only[]; rw[if_pos heq]]
   refine Wz [96,12,76,27,40] ?_;refine zx (Qj J J (hpk) J) J ?_;refine Wz [0,226,41,10,38,17] ?_
   exact Xq J J J (Gc [] J J J)
  ·have e1:decide (bs (packZ acc)≠s)=true:=Gqb heq
   rw[show unpackZ false s=none by rw[unpackZ,←hgo,hend]; simp only[]; rw[if_neg heq]]
   refine Wz [96,12,76,27,40] ?_;refine zx (Qj J J (hpk) J) J ?_;refine Wz [0,226,50,38,137] ?_
   exact Xq J J J (Gc [] J J J)
def applyD (base delta:ByteArray):Option ByteArray:=match decVar delta 0 with
 |none=>none
 |some (n,j)=>match unpackZ true (delta.extract j delta.size) with
  |none=>none
  |some x=>if (x.size:Int)=n then some (xorText base x) else none
theorem xor_size (a b:ByteArray):(xorText a b).size=b.size:=by
 rw[xorText,Yp,xorL_len]; simp
theorem applyD_len {a d t:ByteArray} (h:applyD a d=some t):t.size≤20000:=by
 unfold applyD at h
 split at h
 ·cases h
 ·split at h
  ·cases h
  ·rename_i x hx
   split at h
   ·cases h; rw[xor_size]; exact unpackZ_len hx
   ·cases h
theorem I_ApplyDelta (base delta:ByteArray) (hb:base.size≤1099511627775) (hs:delta.size≤1099511627775):Con Tryz.prog 272 [] [astr base,astr delta] [] (otR (applyD base delta)):=by
 have hd:=Xs delta 0 (by omega) ⟨by omega,by omega⟩
 cases hv:decVar delta 0 with
 |none =>
  rw[hv] at hd
  rw[show applyD base delta=none by rw[applyD,hv]]
  refine Con.of Tryz.func272 J Tryz.ntmps272 J (fun E => ?_)
  refine Wz [4,38,49,126,84,50,38,137] ?_
  exact Xq J J J (Gc [] J J J)
 | some r =>
  obtain⟨n,j⟩:=r
  rw[hv] at hd
  have hm:=Yt hv
  have hz:=I_UnpackZeros (delta.extract j delta.size) (by rw[Gxl]; omega)
  have he:=unpackZ_eq (delta.extract j delta.size) (by rw[Gxl]; omega)
  try rw[←he] at hz
  cases hu:unpackZ true (delta.extract j delta.size) with
  |none =>
   rw[hu] at hz
   rw[show applyD base delta=none by rw[applyD,hv]; simp only[hu]]
   refine Con.of Tryz.func272 J Tryz.ntmps272 J (fun E => ?_)
   refine Wz [4,38,49,126,84,41,13,249] ?_;refine M1 (Z3 J J (hz) J J J) J J ?_;refine Wz [71,38,88,45,25,50,38,137] ?_
   exact Xq J J J (Gc [] J J J)
  | some x =>
   rw[hu] at hz
   have hx:=I_XorText base x (by omega) (by have:=unpackZ_len hu; omega)
   by_cases hn:(x.size:Int)=n
   ·have e1:decide ((x.size:Int)≠n)=false:=Gqa (fun q=>q hn)
    rw[show applyD base delta=some (xorText base x) by rw[applyD,hv]; simp only[hu]; rw[if_pos hn]]
    refine Con.of Tryz.func272 J Tryz.ntmps272 J (fun E => ?_)
    refine Wz [4,38,49,126,84,41,13,249] ?_;refine M1 (Z3 J J (hz) J J J) J J ?_;refine Wz [71,38,88,19,72,1,31,24,60,13] ?_;refine zx (Qj J J (hx) J) J ?_;refine Wz [38,17] ?_
    exact Xq J J J (Gc [] J J J)
   ·have e1:decide ((x.size:Int)≠n)=true:=Gqb hn
    rw[show applyD base delta=none by rw[applyD,hv]; simp only[hu]; rw[if_neg hn]]
    refine Con.of Tryz.func272 J Tryz.ntmps272 J (fun E => ?_)
    refine Wz [4,38,49,126,84,41,13,249] ?_;refine M1 (Z3 J J (hz) J J J) J J ?_;refine Wz [71,38,88,19,72,1,31,24,6,50,38,137] ?_
    exact Xq J J J (Gc [] J J J)
theorem S_ApplyDelta (base delta:ByteArray) (hb:base.size≤1099511627775) (hs:delta.size≤1099511627775):Con Tryz.prog 266 [] [astr base,astr delta] [] (otR (applyD base delta)):=by
 have hd:=X5 delta 0 (by omega) ⟨by omega,by omega⟩
 cases hv:decVar delta 0 with
 |none =>
  rw[hv] at hd
  rw[show applyD base delta=none by rw[applyD,hv]]
  refine Con.of Tryz.func266 J Tryz.ntmps266 J (fun E => ?_)
  refine Wz [4,38,49,126,84,50,38,137] ?_
  exact Xq J J J (Gc [] J J J)
 | some r =>
  obtain⟨n,j⟩:=r
  rw[hv] at hd
  have hm:=Yt hv
  have hz:=S_UnpackZeros (delta.extract j delta.size) (by rw[Gxl]; omega)
  have he:=unpackZ_eq (delta.extract j delta.size) (by rw[Gxl]; omega)
  try rw[←he] at hz
  cases hu:unpackZ true (delta.extract j delta.size) with
  |none =>
   rw[hu] at hz
   rw[show applyD base delta=none by rw[applyD,hv]; simp only[hu]]
   refine Con.of Tryz.func266 J Tryz.ntmps266 J (fun E => ?_)
   refine Wz [4,38,49,126,84,41,13,249] ?_;refine M1 (Z3 J J (hz) J J J) J J ?_;refine Wz [71,38,88,45,25,50,38,137] ?_
   exact Xq J J J (Gc [] J J J)
  | some x =>
   rw[hu] at hz
   have hx:=S_XorText base x (by omega) (by have:=unpackZ_len hu; omega)
   by_cases hn:(x.size:Int)=n
   ·have e1:decide ((x.size:Int)≠n)=false:=Gqa (fun q=>q hn)
    rw[show applyD base delta=some (xorText base x) by rw[applyD,hv]; simp only[hu]; rw[if_pos hn]]
    refine Con.of Tryz.func266 J Tryz.ntmps266 J (fun E => ?_)
    refine Wz [4,38,49,126,84,41,13,249] ?_;refine M1 (Z3 J J (hz) J J J) J J ?_;refine Wz [71,38,88,19,72,1,31,24,60,13] ?_;refine zx (Qj J J (hx) J) J ?_;refine Wz [38,17] ?_
    exact Xq J J J (Gc [] J J J)
   ·have e1:decide ((x.size:Int)≠n)=true:=Gqb hn
    rw[show applyD base delta=none by rw[applyD,hv]; simp only[hu]; rw[if_neg hn]]
    refine Con.of Tryz.func266 J Tryz.ntmps266 J (fun E => ?_)
    refine Wz [4,38,49,126,84,41,13,249] ?_;refine M1 (Z3 J J (hz) J J J) J J ?_;refine Wz [71,38,88,19,72,1,31,24,6,50,38,137] ?_
    exact Xq J J J (Gc [] J J J)
end
end Go.Proofs.YtoecjaohdnoenaaGreat
