/-
  Rules, data and contracts of functions: part 34 of the proof.
  Conditions: those that each theorem names.
-/
import Derived.Test.YtpmacgnmlmmojaaGreatDoorDDRBRowk32
set_option linter.unusedSimpArgs false
set_option linter.unusedVariables false
set_option maxRecDepth 8000
set_option maxHeartbeats 8000000
namespace Go.Proofs.YtpmacgnmlmmojaaGreatDoor
section
open Go.RowKit

theorem keysB_split (ks:List ByteArray):∀ m k,k<m→∃ r,(keysB ks m).data.toList=(keysB ks k).data.toList++((packText (ks.getD k ⟨#[]⟩)).data.toList++r)
 |0,k,h=>by omega
 | m+1,k,h=>by
  rw[keysB,Gxo,Gxx]
  by_cases hk:k=m
  ·subst hk
   exact⟨[],by rw[Gxg]⟩
  ·obtain⟨r,hr⟩:=keysB_split ks m k (by omega)
   exact⟨r++(packText (ks.getD m ⟨#[]⟩)).data.toList,by rw[hr]; simp[Gqn]⟩
theorem keysGo_enc {s:ByteArray} {ks:List ByteArray} {p0:Nat} {r0:List UInt8} (hk:∀ x∈ks,x.size≤1099511627775) (hs:s.data.toList.drop p0=(keysB ks ks.length).data.toList++r0) :
  ∀ c k,k+c=ks.length→keysGo s c (p0+(keysB ks k).size) (ks.take k)=some (ks,p0+(keysB ks ks.length).size)
 |0,k,h=>by
  have hk:k=ks.length:=by omega
  subst hk
  rw[keysGo,Gq1]
 | c+1,k,h=>by
  obtain⟨r,hsp⟩:=keysB_split ks ks.length k (by omega)
  have hg:ks.getD k ⟨#[]⟩=ks[k]'(by omega):=by simp[Gqc,show k<ks.length by omega]
  have hd:s.data.toList.drop (p0+(keysB ks k).size)=(packText (ks.getD k ⟨#[]⟩)).data.toList++(r++r0):=by
   rw[hsp,Gqn] at hs
   have:=Y5 hs
   rw[show (keysB ks k).data.toList.length=(keysB ks k).size by simp] at this
   rw[this,Gqn]
  have h1:=Vl (by rw[hg]; exact hk _ (Gql (by omega))) hd
  have ih:=keysGo_enc hk hs c (k+1) (by omega)
  rw[keysB,Yy] at ih
  have ht:ks.take k ++ [ks.getD k ⟨#[]⟩]=ks.take (k+1):=by
   rw[hg,List.take_add_one,Gqd (by omega)]
   rfl
  rw[keysGo,h1]
  simp only
  rw[ht,Gxz]
  exact ih
theorem dr_back {r:TReplay} (ho:replayOk r=true) (hlv:parseLv (joinB r.Level.Rows slashB)=r.Level) (htx:(joinB r.Level.Rows slashB).size≤1099511627775) (hks:∀ x∈r.Keys,x.size≤1099511627775):drI (encodeReplay r)=some r:=by
 have he:encodeReplay r=sealText (encB r):=by rw[encodeReplay,if_pos ho]
 rw[he,drI,openText_seal]
 simp only
 have hok:=ho
 unfold replayOk at ho
 simp only[Gqg,decide_eq_true_eq,Zn] at ho
 obtain⟨⟨⟨⟨⟨⟨h1,h2⟩,h3⟩,h4⟩,h5⟩,h6⟩,h7⟩:=ho
 have hr:=Gqk.1 h6
 obtain⟨p,hp⟩:∃ p:Nat,r.Players=p:=⟨r.Players.toNat,by omega⟩
 have hlen:∀ x∈r.Rows,x.length=p:=fun x hx=>by
  have:=hr x hx
  rw[rowOk,Gqg,decide_eq_true_eq] at this
  have:=this.1
  omega
 obtain⟨T,hT⟩:∃ T,T=packText (joinB r.Level.Rows slashB):=⟨_,rfl⟩
 obtain⟨M,hM⟩:∃ M,M=packInts [r.Players,r.Seed,r.Every,(r.Rows.length:Int)]:=⟨_,rfl⟩
 obtain⟨s,hs⟩:∃ s,s=encB r:=⟨_,rfl⟩
 have hsl:s.data.toList=T.data.toList++(M.data.toList++((colsB r.Rows p).data.toList++((keysB r.Keys r.Keys.length).data.toList ++ []))):=by
  rw[hs,encB,←hT,←hM,hp,Int.toNat_natCast]
  simp only[Gxo,Gxx,Gqn,Gxg]
 have hsz:s.size=T.size+M.size+(colsB r.Rows p).size+(keysB r.Keys r.Keys.length).size:=by
  rw[hs,encB,←hT,←hM,hp,Int.toNat_natCast,Yy,Yy,Yy]
 have d1:=Y5 (p:=0) (by rw[Gx8]; exact hsl)
 have d2:=Y5 d1
 have d3:=Y5 d2
 rw[Gxj,show T.data.toList.length=T.size by simp] at d1 d2 d3
 rw[show M.data.toList.length=M.size by simp] at d2 d3
 rw[show (colsB r.Rows p).data.toList.length=(colsB r.Rows p).size by simp] at d3
 have u1:=Vl (s:=s) (p:=0) (r:=M.data.toList++((colsB r.Rows p).data.toList++((keysB r.Keys r.Keys.length).data.toList ++ []))) htx (by rw[Gx8,←hT]; exact hsl)
 rw[←hT] at u1
 have hsg:∀ x ∈ [r.Players,r.Seed,r.Every,(r.Rows.length:Int)],0≤signless x:=fun x hx=>by
  simp only[List.mem_cons,Gxp,or_false] at hx
  unfold signless
  rw[if_pos (by omega),if_pos (by omega)]
  omega
 have u2:=unpackInts_enc2 (s:=s) (p:=T.size) hsg (by simp) (by rw[←hM]; exact d1)
 rw[←hM] at u2
 have u3:=colsGo_enc (s:=s) (p0:=T.size+M.size) h5 (fun x hx=>by rw[←hp]; exact hr x hx) hlen d2 p 0 (by omega)
 rw[show (colsB r.Rows 0).size=0 from rfl,Gx3,show r.Rows.map (·.take 0)=List.replicate r.Rows.length [] by simp[List.eq_replicate_iff]] at u3
 have u4:=keysGo_enc (s:=s) (p0:=T.size+M.size+(colsB r.Rows p).size) hks d3 r.Keys.length 0 (by omega)
 rw[show (keysB r.Keys 0).size=0 from rfl,Gx3,List.take_zero] at u4
 have hb:drBody s=some (r,s.size):=by
  rw[drBody,show (0:Int)=((0:Nat):Int) from rfl,u1]
  simp only
  rw[hlv,if_pos h1,u2]
  simp only
  rw[if_pos ⟨h2,h4,by omega⟩,Int.toNat_natCast,hp,Int.toNat_natCast,u3]
  simp only
  rw[show ((r.Rows.length:Int)/r.Every).toNat=r.Keys.length by omega,u4]
  simp only
  rw[hsz,←hp]
 rw[←hs,hb]
 simp only
 exact if_pos ⟨trivial,hok⟩

/-! ### One byte -/
theorem seal4_inj {x y:Int} (hx:0≤x∧x<4294967296) (hy:0≤y∧y<4294967296) (h:seal4 x=seal4 y):x=y:=by
 simp only[seal4,List.cons.injEq,and_true] at h
 obtain⟨h1,h2,h3,h4⟩:=h
 have g:∀ a b:Int,0≤a∧a<256→0≤b∧b<256→UInt8.ofNat a.toNat=UInt8.ofNat b.toNat→a=b:=fun a b ha hb e=>by
  have:=congrArg UInt8.toNat e
  simp only[UInt8.toNat_ofNat'] at this
  omega
 have k1:=g _ _ (by omega) (by omega) h1
 have k2:=g _ _ (by omega) (by omega) h2
 have k3:=g _ _ (by omega) (by omega) h3
 have k4:=g _ _ (by omega) (by omega) h4
 omega
theorem seal_list (t:ByteArray):(sealText t).data.toList=seal4 (checksum t)++t.data.toList:=by
 show (bs (seal4 (checksum t))++t).data.toList=_
 rw[Gxo,Gxx,Yr]
theorem byteAt_get {s:ByteArray} {i:Nat} {b:UInt8} (h:s.data.toList[i]? = some b):byteAt s i=(b.toNat:Int):=by
 have hi:i<s.size:=by
  have:=(Gqo.1 h).1
  simpa using this
 obtain⟨c,h1,h2⟩:=Yt hi
 rw[h] at h1
 rw[h2,Option.some.inj h1]
theorem sumA_same {a b:ByteArray} {j:Nat} (h:∀ i,i<j→byteAt a i=byteAt b i):sumA a j=sumA b j:=by
 induction j with
 |zero=>rfl
 |succ j ih=>rw[sumA,sumA,ih fun i hi=>h i (by omega),h j (by omega)]
theorem sumA_diff {a b:ByteArray} {j:Nat} {d:Int} (hj:byteAt a j=byteAt b j+d) (h:∀ i,i≠j→byteAt a i=byteAt b i):∀ n,sumA a (j+1+n)=(sumA b (j+1+n)+d)%65521
 |0=>by
  have h1:=sumA_same (j:=j) fun i hi=>h i (by omega)
  rw[Gx3,sumA,sumA,h1,hj]
  omega
 |n+1=>by
  have ih:=sumA_diff hj h n
  rw[←Gxz,sumA,sumA,ih,h (j+1+n) (by omega)]
  omega
theorem flip_none {t s:ByteArray} {k:Nat} {x:UInt8} {y:UInt8} (hs:s.data.toList=(sealText t).data.toList.set k x) (hy:(sealText t).data.toList[k]? = some y) (hxy:x≠y):openText s=none:=by
 cases ho:openText s with
 |none=>rfl
 | some t' =>
  exfalso
  obtain⟨h1,h2⟩:=openText_some ho
  rw[←h1,seal_list,seal_list] at hs
  rw[seal_list] at hy
  have hk4:(seal4 (checksum t)).length=4:=rfl
  have hk4':(seal4 (checksum t')).length=4:=rfl
  by_cases hk:k<4
  ·rw[List.set_append,if_pos (by omega)] at hs
   obtain⟨e1,e2⟩:=List.append_inj hs (by rw[Gxm,hk4,hk4'])
   have e3:t'=t:=by rw[←bs_of t',←bs_of t,e2]
   rw[e3] at e1
   rw[Gqz (by omega)] at hy
   have h3:(seal4 (checksum t))[k]? = some x:=by rw[e1,Gxl (by omega)]
   rw[hy] at h3
   exact hxy (Option.some.inj h3).symm
  ·rw[List.set_append,if_neg (by omega)] at hs
   obtain⟨e1,e2⟩:=List.append_inj hs (by rw[hk4,hk4'])
   rw[Gq4 (by omega)] at hy
   have hc:=seal4_inj (checksum_lt t') (checksum_lt t) e1
   rw[hk4] at e2 hy
   obtain⟨j,hj⟩:∃ j,k-4=j:=⟨_,rfl⟩
   rw[hj] at e2 hy
   have hjl:j<t.data.toList.length:=(Gqo.1 hy).1
   have hszt:t.data.toList.length=t.size:=by simp
   have hsz':t'.size=t.size:=by
    have h3:=congrArg List.length e2
    rw[Gxm] at h3
    simpa using h3
   have hx:t'.data.toList[j]? = some x:=by rw[e2,Gxl hjl]
   have hb1:=byteAt_get hx
   have hb2:=byteAt_get hy
   have hne:∀ i,i≠j→byteAt t' i=byteAt t i:=fun i hi=>by
    by_cases hil:i<t.size
    ·obtain⟨b,g1,g2⟩:=Yt hil
     rw[g2]
     exact byteAt_get (by rw[e2,Gxb (by omega)]; exact g1)
    ·have a1:t[i]? = none:=getElem?_neg t i (by omega)
     have a2:t'[i]? = none:=getElem?_neg t' i (by omega)
     simp only[byteAt,a1,a2]
   have hd:=sumA_diff (a:=t') (b:=t) (j:=j) (d:=(x.toNat:Int)-(y.toNat:Int)) (by omega) hne (t.size-(j+1))
   rw[show j+1+(t.size-(j+1))=t.size by omega] at hd
   have b1:=sumA_lt t t.size
   have b2:=sumB_lt t t.size
   have b3:=sumA_lt t' t'.size
   have b4:=sumB_lt t' t'.size
   unfold checksum at hc
   rw[hsz'] at hc b3 b4
   have hx8:=x.toNat_lt
   have hy8:=y.toNat_lt
   have hxy':x.toNat≠y.toNat:=fun e=>hxy (UInt8.toNat.inj e)
   omega
end
section
open Go.RowKit

theorem els_snoc {α:Type} [Enc α] {xs:List α} {k:Nat} (h:k<xs.length):els (xs.take (k+1))=els (xs.take k) ++ [Enc.e xs[k]]:=by
 rw[Gxd h]
 exact List.map_append
theorem I_copyInts (xs:List Int) (hL:xs.length≤1048576):Con Tryz.prog 126 [] [al xs] [.row 1 (els xs)] (.o (.c (.ref 0))):=by
 have hlx:=Y9 xs
 refine Con.of Tryz.func126 J Tryz.ntmps126 J (fun E => ?_)
 refine Wz [36,10] ?_;refine M_appnil J J J J J J J J (Za _) (els_k _) (by omega) (by omega) ?_;refine Wz [19] ?_
 exact Gq J (Gr [0] J J J)
theorem I_copyRows (xs:List (List Int)) (hg:Enc.gd xs) (hL:xs.length≤1048576) (hr:∀ r∈xs,r.length≤1048576):Con Tryz.prog 125 [] [al xs] [.row 1 (els xs)] (.o (.c (.ref 0))):=by
 have hlx:=Y9 xs
 refine Con.of Tryz.func125 J Tryz.ntmps125 J (fun E => ?_)
 refine Wz [36,94,21,131,33] ?_
 refine AWP.pre ?_ (W_nil 3 1 J)
 refine Xi (fun m st=>∃ k:Nat,k+m=xs.length∧(True)∧st=(⟨_,[(3,.o (.c (.ref 0))),(6,L xs),(7,I (els xs).length),(8,I k)],[.row 1 (els (xs.take k))]⟩:St)) (xs.length) ⟨_,⟨0,by omega,trivial,J⟩,Gs [0]⟩ ?_
 rintro m_A _ ⟨k,hk_A,hp_A,rfl⟩
 have hl2:(els (xs.take k)).length=k:=by rw[Y9]; simp; omega
 refine Wz [1,100,39] ?_
 refine Xb J (fun h => ?_) (fun h => ?_)
 ·have h3:k<xs.length:=by have:=Gqi h; omega
  have hat:=Y7 h3
  refine Wz [26,1,49,11,22,0] ?_;refine V6 (Kh J J (I_copyInts xs[k] (hr _ (Gql h3))) J J J) J ?_;refine Wz [45,108,127,64] ?_
  exact⟨xs.length-(k+1),by omega,(fun k:Nat=>(⟨_,[(3,.o (.c (.ref 0))),(6,L xs),(7,I (els xs).length),(8,I k)],[.row 1 (els (xs.take k))]⟩:St)) (k+1),⟨k+1,by omega,trivial,J⟩,Yg [0] (by decide) J (K7 (els_snoc h3)) (.c J (.c J (.c J (.c J (.nil)))))⟩
 ·have h3:¬((k:Int)<(els xs).length):=Gqj h
  have hk:xs.take k=xs:=Gxk (by omega)
  refine Wz [40,10,19] ?_
  exact Gq J (Gr [0] J (K7 (by rw[hk])) J)
theorem I_copyReplay (x:TReplay) (hg:Enc.gd x) (h1:x.Level.Rows.length≤1048576) (h2:x.Keys.length≤1048576) (h3:x.Rows.length≤1048576) (hr:∀ r∈x.Rows,r.length≤1048576):Con Tryz.prog 75 [] [ag x] (ownO (Enc.e x)) (.o (.ag (ownV 0 (Enc.e x)))):=by
 obtain⟨g_Level,g_Players,g_Seed,g_Every,g_Rows,g_Keys⟩:=hg
 have hlx:=Y9 x.Keys
 refine Con.of Tryz.func75 J Tryz.ntmps75 J (fun E => ?_)
 refine Wz [51,2,82] ?_;refine V6 (Kh J J (Xy x.Level g_Level h1) J J J) J ?_;refine Wz [281,138,14] ?_;refine V6 (Kh J J (I_copyRows x.Rows g_Rows h3 hr) J J J) J ?_;refine Wz [60,14] ?_;refine M_appnil J J J J J J J J (Za _) (els_k _) (by omega) (by omega) ?_;refine Wz [60,6,126,145] ?_
 exact Xl J J J J (Gr [2,3,4] J J J)
section
variable {P:Program} {ops:Array Oper} {o:Oper} {st:St} {m:Nat} {t e:TypeId} {y z:Operand} {zs:List Value} {by_:Nat}
theorem q_appz0 {ps:List Nat} {q kk:Nat} [hm:TyMake P t e zs by_] (ho:o.op = .call { callee := .builtin .append,args:=#[y,z],argTypes:=#[t,t] }) (hg:o.guard=none) (hy:st.ev y = .o (.c (.sb q 0 kk))) (hz:st.ev z = .o (.c (.rd ps (.sl kk [])))) (hkz:kk=zs.length) (hz0:zs.isEmpty=false):Qt P ops o st (.o (.c (.sb q 0 kk))) [] m :=
 .pure hg fun a w H F hr=>by
  have hzn:zs ≠ []:=by intro e; rw[e] at hz0; cases hz0
  subst hkz
  obtain⟨g,tt,vs,b1,b2,b3,b4⟩:=hr.v1 hy
  have h7:=src_any (P:=P) (t:=t) (e:=e) (by_:=by_) (kk:=zs.length) hr rfl hzn (hr.v1 hz) (es' := []) rfl (fun e he=>by simp at he) (fun e he=>by simp at he)
  obtain⟨i,hi,hzz⟩:=Option.map_eq_some_iff.1 hm.info
  simp only[Prod.mk.injEq] at hzz
  have h8:Src P i.size t (a.eval z) 0 [] w:=by rw[hzz.2.1]; simpa[flatV] using h7
  refine⟨a.eval y,Ze ho ?_,hr.v1 hy⟩
  rw[b4]
  exact run_append_room_src (P:=P) w t t o.type e i hm.slice hi g 0 0 0 (a.eval z) 0 [] h8 (Gqf _) (by simp) (by simp)
theorem q_appz1 {ps:List Nat} {q kk:Nat} {es':List (List T)} [hm:TyMake P t e zs by_] (ho:o.op = .call { callee := .builtin .append,args:=#[y,z],argTypes:=#[t,t] }) (hg:o.guard=none) (hy:st.ev y = .o (.c (.sb q 0 kk))) (hz:st.ev z = .o (.c (.rd ps (.sl kk es')))) (hn:es' = []) (hkz:kk=zs.length) (hz0:zs.isEmpty=false):Qt P ops o st (.o (.c (.sb q 0 kk))) [] m:=by
 subst hn
 exact q_appz0 ho hg hy hz hkz hz0
end
theorem S_copyReplayE (x:TReplay) (hg:Enc.gd x) (h1:x.Level.Rows.length≤1048576) (h2:x.Keys.length≤1048576) (h3:x.Rows.length≤1048576) (hr:∀ r∈x.Rows,r.length≤1048576):Con Tryz.prog 206 [] [ag x] (ownO (Enc.e x)) (.o (.ag (ownV 0 (Enc.e x)))):=by
 obtain⟨g_Level,g_Players,g_Seed,g_Every,g_Rows,g_Keys⟩:=hg
 have hlx:=Y9 x.Keys
 have hly:=Y9 x.Rows
 have h00:([]:List (List T)).length=0:=rfl
 refine Con.of Tryz.func206 J Tryz.ntmps206 J (fun E => ?_)
 refine Wz [51,2,6,75,82] ?_;refine V6 (Kh J J (Yb x.Level g_Level h1) J J J) J ?_;refine Wz [281,138,1,103,39,63] ?_
 refine AWP.pre ?_ (Wk.nilbox (p:=2) (i:=4) 1 J J)
 refine Xi (fun m st=>∃ k:Nat,k+m=x.Rows.length∧(True)∧st=(⟨_,[(1,.o (.c (.ptr 0 0))),(2,.o (.c (.ptr 1 0))),(3,.o (.c (.ptr 2 0))),(4,I k)],[.box ((Enc.e x).map (V1.rd [])),.box [nilV,jv 0,jv 0,jv 0,nilV,nilV],.box [.ref 3,jv x.Players,jv x.Seed,jv x.Every,.ref 4,.rd [] (sl x.Keys)],.row 1 (els x.Level.Rows),.row 1 (els (x.Rows.take k))]⟩:St)) (x.Rows.length) ⟨_,⟨0,by omega,trivial,J⟩,Gs [0,1,2,3,4]⟩ ?_
 rintro m_A _ ⟨k,hk_A,hp_A,rfl⟩
 have hl2:(els (x.Rows.take k)).length=k:=by rw[Y9]; simp; omega
 refine Wz [25,30,21,119] ?_
 refine Xb J (fun h => ?_) (fun h => ?_)
 ·have h4:k<x.Rows.length:=by have:=Gqi h; omega
  obtain⟨r,hrr⟩:∃ r,x.Rows[k]=r:=⟨_,rfl⟩
  have hat:=Y7 h4
  have hrk:=hr _ (Gql h4)
  have hsn:=els_snoc h4
  rw[hrr] at hat hrk hsn
  have hlk:=Y9 r
  refine Wz [26] ?_
  cases r with
  |nil =>
   refine Xh u8_38 u8_39 u8_40 J ?_;refine Wz [66,263,66,4,121] ?_;refine Vx (q_appz0 J J J J J J) J ?_;refine Wz [181,17] ?_;refine AL.weak (Wk.sbrow (q:=5) (es := []) J J (Gqq J)) ?_;refine Wz [108,103,74,43] ?_
   exact⟨x.Rows.length-(k+1),by omega,_,⟨k+1,by omega,trivial,J⟩,(by rw[hsn]; exact Gs [0,1,2,3,4])⟩
  |cons a rs =>
   have hpos:0<(els (a::rs)).length:=by rw[Y9]; simp
   refine Xh u8_38 u8_39 u8_40 J ?_;refine Wz [66,263,66,4,121] ?_;refine Vx (q_appz J J J J J J (Za _) (els_k _) hpos (by omega) (by omega)) J ?_;refine Wz [181,17,108,103,74,43] ?_
   exact⟨x.Rows.length-(k+1),by omega,_,⟨k+1,by omega,trivial,J⟩,(by rw[hsn]; exact Gs [0,1,2,3,4])⟩
 ·have hk:x.Rows.take k=x.Rows:=Gxk (by have:=Gqj h; omega)
  rw[hk]
  refine Wz [40,1,179,30] ?_;refine M_app J J J J J J J J J J (Za _) (els_k _) (by omega) (by omega) ?_;refine Wz [60,6,126,145] ?_
  exact Xl J J J J (Gr [3,4,5] J J J)
end
section
open Go.RowKit

def zeroS (k:Nat):ByteArray:=⟨Array.replicate k 0⟩
theorem zeroS_list (k:Nat):(zeroS k).data.toList=List.replicate k 0:=by simp[zeroS]
theorem zeroS_size (k:Nat):(zeroS k).size=k:=by simp[zeroS,ByteArray.size]
theorem zeroS_cells (k:Nat):(byteCells (zeroS k)).toArray=Builtin.zeroCells #[.int .u8 0] k:=by
 apply Array.ext'
 apply List.ext_getElem
 ·simp[byteCells,zeroS,Builtin.zeroCells]
 ·intro i h1 h2
  simp[byteCells,zeroS,Builtin.zeroCells,Nat.mod_one]
theorem append_zeros_run {P:Program} (w:World) (t tn ts ty e:TypeId) (i:TypeInfo) {kn:IntKind} (ht:P.underlying t=some (.slice e)) (htn:P.underlying tn=some (.int kn)) (hts:P.underlying ts=some .string) (hi:P.info? e=some i) {z:Value} (hz:i.zero=some z) (hzc:z.cells=#[.int .u8 0]) (hsz:i.size=1) (hb:i.bytes=1)
  (base:Option Addr) (sLen sCap k:Nat) (hcap:sLen≤sCap) (hk:sLen+k≤140737488355328) :
  (Builtin.append_ #[t,tn] ty #[.slice base sLen sCap,.int .i64 k]).run P w=(Builtin.append_ #[t,ts] ty #[.slice base sLen sCap,.string (zeroS k)]).run P w:=by
 have hs:=Src.ofString (P:=P) w hts (zeroS k)
 have hc:=zeroS_cells k
 rw[zeroS_size] at hs
 obtain⟨_,hl,hcells,hcellsD,_,_⟩:=hs
 have hcA:∀ w':World,(Builtin.firstCells 1 k (.string (zeroS k))).run P w' = .ok (byteCells (zeroS k)).toArray w':=fun w'=>by
  have:=firstCells_string (P:=P) (zeroS k) w'
  rwa[zeroS_size] at this
 have hw:IntKind.i64.wrap (k:Int)=k:=by rw[IntKind.wrap_i64]; omega
 have hw0:IntKind.i64.wrap (0:Int)=0:=by rw[IntKind.wrap_i64]; omega
 have hneg:¬((k:Int)<0):=by omega
 have h48i:¬(281474976710656<(k:Int)):=by omega
 have h63':¬(9223372036854775807<((sLen:Int)+(k:Int))):=by omega
 by_cases hroom:sLen+k≤sCap
 ·by_cases h0:k=0
  ·subst h0
   have hc0:(byteCells (zeroS 0)).toArray=#[]:=rfl
   simp[Builtin.append_,run_underlying ht,run_underlying htn,run_underlying hts,Go.sizeOf,typeInfo,zeroValue,hi,hz,hsz,hb,asInt,asIntOf,hw0,hl,hcA,hc0] at hroom ⊢
   simp[hroom]
  ·simp[Builtin.append_,run_underlying ht,run_underlying htn,run_underlying hts,Go.sizeOf,typeInfo,zeroValue,hi,hz,hsz,hb,asInt,asIntOf,hw,hneg,h0,h48i,hl,hroom,hcA,hc,hzc]
 ·by_cases h0:k=0
  ·omega
  ·have hfit:=growslice_fits (need:=sLen+k) (old:=sCap) (bytes:=1) (by omega) (by omega)
   have h48':¬(281474976710656<Builtin.nextslicecap (sLen+k) sCap):=by omega
   simp[h48',Builtin.append_,run_underlying ht,run_underlying htn,run_underlying hts,Go.sizeOf,typeInfo,zeroValue,hi,hz,hsz,hb,asInt,asIntOf,hw,hneg,h0,h48i,h63',hl,hroom,hcA,hc,hzc]
theorem append_zs {P:Program} {w:World} {t tn ts ty e:TypeId} {kn:IntKind} [hm:TyMake P t e [.int .u8 0] 1] [hn:TyInt P tn kn] [hts:TyStr P ts] {es:List (List T)} {v:Value} {fp:List Nat} (hw:OW w (.sl 1 es) v fp) (k:Nat) (hk:es.length+k≤140737488355328) :
  (Builtin.append_ #[t,tn] ty #[v,.int .i64 k]).run P w=(Builtin.append_ #[t,ts] ty #[v,.string (zeroS k)]).run P w:=by
 obtain⟨i,hi,hzz⟩:=Option.map_eq_some_iff.1 hm.info
 simp only[Prod.mk.injEq] at hzz
 obtain⟨hz1,hs,hb1⟩:=hzz
 obtain⟨z,hz2,hz3⟩:=Option.map_eq_some_iff.1 hz1
 have hzc:z.cells=#[.int .u8 0]:=Array.ext' hz3
 rcases hw.open_ with ⟨rfl,rfl,rfl⟩ | ⟨b,o,c,tid,cur,fz,val,fps,rfl,_,_,_,hc,_⟩
 ·exact append_zeros_run w t tn ts ty e i hm.slice hn.int hts.str hi hz2 hzc hs hb1 none 0 0 k (Gqf _) (by simpa using hk)
 ·exact append_zeros_run w t tn ts ty e i hm.slice hn.int hts.str hi hz2 hzc hs hb1 _ es.length c k hc hk
section
variable {P:Program} {E:Env} {ops:Array Oper} {rest:List Oper} {o:Oper} {QQ:Exit→St→Prop} {st:St} {t:TypeId} {y z:Operand} {qs:List Nat}
theorem L_appz {p:Nat} {tn:TypeId} (ts:TypeId) {kn:IntKind} {k:Nat} {es:List (List T)} {e:TypeId} [hm:TyMake P t e [.int .u8 0] 1] [hn:TyInt P tn kn] [hts:TyStr P ts] (ho:o.op = .call { callee := .builtin .append,args:=#[y,z],argTypes:=#[t,tn] }) (hg:o.guard=none) (hy:st.ev y = .o (.c (.ref p))) (hp:st.objs[p]? = some (.row 1 es)) (hz:st.ev z = .o (.c (.rd qs (.v (.int .i64 (k:Int))))))
  (hb:es.length+k≤140737488355328)
  (hd:dstOk st.n o.dst=true) (h:AL P E ops QQ rest ⟨st.n,setT (st.tmps.map fun e=>(e.1,e.2.kill [p])) o.dst (.o (.c (.ref p))),(st.objs.map (Ob.kill [p])).set p (.row 1 (es++bE (List.replicate k 0)))⟩):AL P E ops QQ (o::rest) st:=by
 refine⟨fun a w ⟨H,F,h1,h2⟩ => ?_⟩
 obtain⟨v,fp,e1,e2⟩:=h1.ow hp
 obtain⟨x',fp',e3⟩:=h1.v1 hy
 rw[e1] at e3
 simp only[Pc.ow.injEq] at e3
 obtain⟨_,hv,_⟩:=e3
 have hnd:=h1.ok.nodup p
 rw[e1] at hnd
 have hlen:(bE (zeroS k).data.toList).length=k:=by rw[Ym,zeroS_list,Gxs]
 obtain⟨v',w',fp'',hr,h3,h4,h5,h6⟩:=append_src (P:=P) (o:=o) (t:=t) (kk:=1) e2 hnd rfl (by simp) (bE_src (tx:=ts) (zeroS k)) (bE_plain _) (bE_one _) (by rw[hlen]; omega) (by rw[hlen]; omega)
 rw[←append_zs (tn:=tn) e2 k hb] at hr
 rw[zeroS_list] at h3
 obtain⟨hok,htn⟩:=h1.ok.turn (p:=p) (fp:=fp) (by rw[e1]; rfl) h6 (.ow (.sl 1 (es++bE (List.replicate k 0))) v' fp'') h3 h4 trivial h5
 obtain⟨hplt,_⟩:=Gqo.1 hp
 have hR:=h1.turn htn hok ((st.objs.map (Ob.kill [p])).set p (.row 1 (es++bE (List.replicate k 0)))) (fun q hq => ?_) (fun q hq => ?_)
 ·have hR2:=hR.put (x := .o (.c (.ref p))) o.dst hd (v:=v') ⟨_,_,Hs.put_self _ _ _⟩
  refine wpList_step fun K hK => ?_
  rw[if_pos (by unfold Region.wanted; rw[hg])]
  unfold Oper.wp
  rw[Ze ho (by rw[←hv,h1.plain hz]; exact hr)]
  exact hK _ _ (h.h _ _ ⟨_,F,hR2,h2.turn htn⟩)
 ·have hqp:q≠p:=by simpa using hq
  rw[Gqc,Gxb (Ne.symm hqp),Gqh,Gqc]
  cases st.objs[q]? <;> rfl
 ·have hqp:q=p:=by simpa using hq
  subst hqp
  rw[Zj (x := .row 1 (es++bE (List.replicate k 0))) (by simp[hplt])]
  exact⟨_,_,Hs.put_self _ _ _⟩
theorem M_appz {n d p:Nat} {ts':List (Nat×V)} {obs:List Ob} {tn:TypeId} (ts:TypeId) {kn:IntKind} {k:Nat} {es:List (List T)} {e:TypeId} [hm:TyMake P t e [.int .u8 0] 1] [hn:TyInt P tn kn] [hts:TyStr P ts] (ho:o.op = .call { callee := .builtin .append,args:=#[y,z],argTypes:=#[t,tn] }) (hg:o.guard=none) (hy:St.ev ⟨n,ts',obs⟩ y = .o (.c (.ref p))) (hp:obs[p]? = some (.row 1 es)) (hz:St.ev ⟨n,ts',obs⟩ z = .o (.c (.rd qs (.v (.int .i64 (k:Int))))))
  (hd:o.dst=some d) (hl:Nat.blt d n=true) (hb:es.length+k≤140737488355328)
  (h:AL P E ops QQ rest ⟨n,(d,.o (.c (.ref p)))::(ts'.map fun e=>(e.1,e.2.kill [p])),(obs.map (Ob.kill [p])).set p (.row 1 (es++bE (List.replicate k 0)))⟩):AL P E ops QQ (o::rest) ⟨n,ts',obs⟩ :=
 L_appz (st:=⟨n,ts',obs⟩) ts ho hg hy hp hz hb (by rw[hd]; exact hl) (by rw[hd]; exact h)
end
end
section
open Go.RowKit

def cutOk (x:TReplay) (n:Int):Bool:=replayOk x&&decide (0≤n∧n≤x.Rows.length)
def cutReplay (x:TReplay) (n:Int):TReplay:=if cutOk x n=true then ⟨x.Level,x.Players,x.Seed,x.Every,x.Rows.take n.toNat,x.Keys.take (n/x.Every).toNat⟩ else zeroReplay
theorem els_takeE {α:Type} [Enc α] (xs:List α) (n:Nat):els (xs.take n)=(els xs).take n:=List.map_take
theorem cut_own (x:TReplay) (p s e:Int) (n m:Nat):ownO (Enc.e (⟨x.Level,p,s,e,x.Rows.take n,x.Keys.take m⟩:TReplay)) = [.row 1 (els x.Level.Rows),.row 1 ((els x.Rows).take n),.row 1 ((els x.Keys).take m)]:=by
 rw[←els_takeE,←els_takeE]
 rfl
theorem replay_facts {x:TReplay} (h:replayOk x=true):1≤x.Players∧x.Players≤4∧1≤x.Every∧x.Every≤100∧x.Rows.length≤400∧(∀ r∈x.Rows,rowOk r x.Players=true)∧(x.Keys.length:Int)=(x.Rows.length:Int)/x.Every:=by
 unfold replayOk at h
 simp only[Gqg,decide_eq_true_eq,Gqk] at h
 obtain⟨⟨⟨⟨⟨⟨h1,h2⟩,h3⟩,h4⟩,h5⟩,h6⟩,h7⟩:=h
 exact⟨(Zn.1 h2).1,(Zn.1 h2).2,(Zn.1 h4).1,(Zn.1 h4).2,h5,h6,h7⟩
theorem row_facts {r:List Int} {p:Int} (h:rowOk r p=true):(r.length:Int)=p:=by
 unfold rowOk at h
 simp only[Gqg,decide_eq_true_eq] at h
 exact h.1
theorem cut_keys {x:TReplay} (h:replayOk x=true) {n:Int} (h0:0≤n) (h1:n≤x.Rows.length):0≤n/x.Every∧n/x.Every≤x.Keys.length:=by
 obtain⟨_,_,h3,_,_,_,h4⟩:=replay_facts h
 rw[h4]
 exact⟨Int.ediv_nonneg h0 (by omega),Int.ediv_le_ediv (by omega) h1⟩
theorem I_CutReplay (x:TReplay) (n:Int) (hg:Enc.gd x) (hn:I64 n) (h1:x.Level.Rows.length≤1048576) (h2:x.Keys.length≤1048576) (h3:x.Rows.length≤1048576):Con Tryz.prog 22 [] [ag x,ai n] (ownO (Enc.e (cutReplay x n))) (.tu [.ag (ownV 0 (Enc.e (cutReplay x n))),.c (.rd [] (.v (.bool (cutOk x n))))]):=by
 have hc:=Xv x hg
 have hlr:=Y9 x.Rows
 have hlk:=Y9 x.Keys
 have hn1:=hn.1
 have hn2:=hn.2
 cases hr:replayOk x with
 |false =>
  rw[hr] at hc
  have hco:cutOk x n=false:=by rw[cutOk,hr]; rfl
  rw[show cutReplay x n=zeroReplay by rw[cutReplay,hco]; rfl,hco]
  refine Con.of Tryz.func22 J Tryz.ntmps22 J (fun E => ?_)
  refine Wz [51,23,6] ?_;refine zx (Qj J J (hc) J) J ?_;refine Wz [16,91,9,20,56,93] ?_
  exact G4 J J (Ye [1,1,1] [2,3,4] J J (by decide) J J J)
 | true =>
  rw[hr] at hc
  obtain⟨_,_,f3,f4,f5,f6,f7⟩:=replay_facts hr
  by_cases hin:¬(0≤n∧n≤x.Rows.length)
  ·have hco:cutOk x n=false:=by rw[cutOk,hr,Gqa hin]; rfl
   rw[show cutReplay x n=zeroReplay by rw[cutReplay,hco]; rfl,hco]
   by_cases hlt:n<0
   ·have hb1:decide (n<0)=true:=Gqb hlt
    refine Con.of Tryz.func22 J Tryz.ntmps22 J (fun E => ?_)
    refine Wz [51,23,6] ?_;refine zx (Qj J J (hc) J) J ?_;refine Wz [16,8,5,7,20,56,93] ?_
    exact G4 J J (Ye [1,1,1] [2,3,4] J J (by decide) J J J)
   have hb1:decide (n<0)=false:=Gqa hlt
   have hb2:decide (((els x.Rows).length:Int)<n)=true:=Gqb (by omega)
   refine Con.of Tryz.func22 J Tryz.ntmps22 J (fun E => ?_)
   refine Wz [51,23,6] ?_;refine zx (Qj J J (hc) J) J ?_;refine Wz [16,8,5,7,8,59,21,3,113,93] ?_
   exact G4 J J (Ye [1,1,1] [2,3,4] J J (by decide) J J J)
  have hin:=Classical.not_not.1 hin
  have hco:cutOk x n=true:=by rw[cutOk,hr,Gqb hin]; rfl
  rw[show cutReplay x n=⟨x.Level,x.Players,x.Seed,x.Every,x.Rows.take n.toNat,x.Keys.take (n/x.Every).toNat⟩ by rw[cutReplay,hco]; rfl,hco,cut_own]
  have hkk:=cut_keys hr hin.1 hin.2
  have hrl:∀ r∈x.Rows,0<r.length∧r.length≤1048576:=fun r hm=>by
   have h8:=row_facts (f6 r hm)
   omega
  have hcp:=I_copyReplay x hg h1 h2 h3 (fun r hm=>(hrl r hm).2)
  have hb1:decide (n<0)=false:=Gqa (by omega)
  have hb2:decide (((els x.Rows).length:Int)<n)=false:=Gqa (by omega)
  refine Con.of Tryz.func22 J Tryz.ntmps22 J (fun E => ?_)
  refine Wz [51,23,6] ?_;refine zx (Qj J J (hc) J) J ?_;refine Wz [16,8,5,7,8,59,21,3,113,38,6] ?_;refine V6 (Kh J J (hcp) J J J) J ?_;refine Wz [75,14,0] ?_;refine zx (q_hd J J J J J J (by omega)) J ?_;refine Wz [103,39] ?_;refine Xh [[],[0],[],[],[3],[2,3,4],(u9 6),(u9 7),(u9 8)] [[],[29],[],[],[32],[31,32,33],[29,30,31,32,33,34],[29,30,31,32,33,34,35],[29,30,31,32,33,34,35,36]] [[31,32,33,34],[31,32,33,34],[29,30,32,33],[29,30,31],[29,30,31],[29,30],[],[],[]] J ?_;refine Wz [66,4,66,224,297,218,17] ?_
  refine AL.weak (Wk.head (p:=3) n.toNat J (by omega) (by repeat' (first | exact trivial | exact rfl | refine And.intro ?_ ?_)) (by repeat' (first | exact trivial | exact rfl | refine And.intro ?_ ?_))) ?_
  refine AL.weak (Wk.head (p:=4) (n/x.Every).toNat J (by omega) (by repeat' (first | exact trivial | exact rfl | refine And.intro ?_ ?_)) (by repeat' (first | exact trivial | exact rfl | refine And.intro ?_ ?_))) ?_
  refine Wz [180,2,6,115] ?_
  exact G4 J J (Gr [2,3,4] J J J)
end
section
open Go.RowKit

/-! ### Turning a piece into read-only data -/
def V1.fz (p:Nat) (t:T):V1→V1
 | .rd qs x => .rd (qs.filter fun q => !Nat.beq q p) x
 | .rp qs xs => .rp (qs.filter fun q => !Nat.beq q p) xs
 | .ref q=>match Nat.beq q p with
  |true => .rd [] t
  |false => .ref q
 | .el q k i j=>match Nat.beq q p with
  |true => .un
  |false => .el q k i j
 | .le q k i j=>match Nat.beq q p with
  |true => .un
  |false => .le q k i j
 | .hd q n=>match Nat.beq q p with
  |true => .un
  |false => .hd q n
 | .tl q k n=>match Nat.beq q p with
  |true => .un
  |false => .tl q k n
 | .ptr q i => .ptr q i
 | .sb q n k => .sb q n k
 | .un => .un
section
variable {P:Program} {E:Env} {ops:Array Oper} {o:Oper} {st:St} {n:Nat} {rest:List Oper} {QQ:Exit→St→Prop} {w w':World} {H H':Hs} {F F':Nat→Prop} {a:Act} {y z:Operand} {t t':TypeId} {ps qs:List Nat} {i j:Int} {k:IntKind}
theorem R1.fz {p:Nat} {x t:T} {vv:Value} {fp:List Nat} (hp:H p = .ow x vv fp) (hro:RO w (fun b=>F b∨b∈fp) t vv) {c:V1} {v:Value} (h:R1 w H F c v):R1 w (H.put p .nil) (fun b=>F b∨b∈fp) (c.fz p t) v:=by
 have hbq:∀ {q:Nat},q≠p→(!Nat.beq q p)=true:=fun {q} hqp=>by
  cases h:Nat.beq q p with
  |false=>rfl
  |true=>exact absurd (Gxf h) hqp
 have hin:∀ (qs:List Nat) b,inP H F qs b→inP (H.put p .nil) (fun b=>F b∨b∈fp) (qs.filter fun q => !Nat.beq q p) b:=fun qs b hb=>by
  rcases hb with hb | ⟨q,hq,x',v',fp',e,hb⟩
  ·exact .inl (.inl hb)
  ·by_cases hqp:q=p
   ·subst hqp
    rw[hp] at e
    simp only[Pc.ow.injEq] at e
    obtain⟨_,_,rfl⟩:=e
    exact .inl (.inr hb)
   ·exact .inr ⟨q,List.mem_filter.2 ⟨hq,hbq hqp⟩,x',v',fp',by rw[Hs.put_ne _ _ hqp]; exact e,hb⟩
 have hne:∀ {q:Nat},Nat.beq q p=false→(H.put p .nil) q=H q:=fun hq=>Hs.put_ne _ _ fun e=>by
  subst e
  rw[show Nat.beq _ _=true from Gxy _] at hq
  cases hq
 have hbox:∀ {q g:Nat} {t:TypeId} {vs:List Value},H q = .box g t vs→(H.put p .nil) q=H q:=fun e=>Hs.put_ne _ _ fun e2=>by
  subst e2
  rw[hp] at e
  cases e
 cases c with
 |rd qs x=>exact RO.weak h fun b hb _=>hin qs b hb
 |rp qs xs =>
  obtain⟨b,o,e,hb,hr⟩:=h
  exact⟨b,o,e,hin qs b hb,fun j t hj=>by obtain⟨u,h1,h2⟩:=hr j t hj; exact⟨u,h1,h2.weak fun b hb _=>hin qs b hb⟩⟩
 | ref q =>
  simp only[V1.fz]
  split
  ·rename_i hq
   have:=Gxf hq
   subst this
   obtain⟨x',fp',e⟩:=h
   rw[hp] at e
   simp only[Pc.ow.injEq] at e
   obtain⟨_,rfl,_⟩:=e
   exact RO.weak hro fun b hb _ => .inl hb
  ·rename_i hq
   obtain⟨x',fp',e⟩:=h
   exact⟨x',fp',by rw[hne hq]; exact e⟩
 | el q k i j =>
  simp only[V1.fz]
  split
  ·trivial
  ·rename_i hq
   obtain⟨b,o,n,c,x,fp,e,hv⟩:=h
   exact⟨b,o,n,c,x,fp,by rw[hne hq]; exact e,hv⟩
 | le q k i j =>
  simp only[V1.fz]
  split
  ·trivial
  ·rename_i hq
   obtain⟨b,o,n,c,x,fp,e,hv⟩:=h
   exact⟨b,o,n,c,x,fp,by rw[hne hq]; exact e,hv⟩
 | hd q m =>
  simp only[V1.fz]
  split
  ·trivial
  ·rename_i hq
   obtain⟨A,m',c,x,fp,e,hv⟩:=h
   exact⟨A,m',c,x,fp,by rw[hne hq]; exact e,hv⟩
 | tl q k m =>
  simp only[V1.fz]
  split
  ·trivial
  ·rename_i hq
   obtain⟨A,A',m',c,x,fp,e,hv⟩:=h
   exact⟨A,A',m',c,x,fp,by rw[hne hq]; exact e,hv⟩
 |ptr q i=>obtain⟨g,t,vs,e,hv⟩:=h; exact⟨g,t,vs,by rw[hbox e]; exact e,hv⟩
 |sb q i j=>obtain⟨g,t,vs,e,hv⟩:=h; exact⟨g,t,vs,by rw[hbox e]; exact e,hv⟩
 |un=>trivial
theorem Rel.freeze {p:Nat} {t:T} (hpw:∀ w H F a,R0 w H F st a→∃ x vv fp,H p = .ow x vv fp∧RO w (fun b=>F b∨b∈fp) t vv) (h:Rel E st a w):Rel E ⟨st.n,st.tmps.map fun e=>(e.1,e.2.mapk (V1.fz p t)),(st.objs.map (Ob.mapk (V1.fz p t))).set p .gone⟩ a w:=by
 obtain⟨H,F,h1,h2⟩:=h
 obtain⟨x,vv,fp,hp,hro⟩:=hpw w H F a h1
 have hne:∀ q,q≠p→(H.put p .nil) q=H q:=fun q hq=>Hs.put_ne _ _ hq
 have hfp:∀ b,b∈fp→b∈(H p).fp:=fun b hb=>by rw[hp]; exact hb
 have hsub:∀ q b,b∈((H.put p .nil) q).fp→q≠p∧b∈(H q).fp:=fun q b hb=>by
  by_cases e:q=p
  ·subst e
   rw[Hs.put_self] at hb
   simp[Pc.fp] at hb
  ·rw[hne q e] at hb
   exact⟨e,hb⟩
 have hk:∀ c v,R1 w H F c v→R1 w (H.put p .nil) (fun b=>F b∨b∈fp) (c.fz p t) v:=fun c v hc=>R1.fz hp hro hc
 have hok:Ok w (H.put p .nil) (fun b=>F b∨b∈fp):=by
  refine⟨fun q => ?_,fun q => ?_,fun q r b hb hc => ?_,fun q b hb hc => ?_,fun b hb => ?_⟩
  ·by_cases e:q=p
   ·subst e; rw[Hs.put_self]; trivial
   ·rw[hne q e]; exact h1.ok.says q
  ·by_cases e:q=p
   ·subst e; rw[Hs.put_self]; exact List.nodup_nil
   ·rw[hne q e]; exact h1.ok.nodup q
  ·exact h1.ok.disj q r b (hsub q b hb).2 (hsub r b hc).2
  ·obtain⟨hq,hb⟩:=hsub q b hb
   rcases hc with hc | hc
   ·exact h1.ok.free q b hb hc
   ·exact hq (h1.ok.disj q p b hb (hfp b hc))
  ·rcases hb with hb | hb
   ·exact h1.ok.flt b hb
   ·exact h1.ok.lt (hfp b hb)
 refine⟨H.put p .nil,fun b=>F b∨b∈fp,h1.mapkF (V1.fz p t) hk hok _ (fun q => ?_),h2.os,h2.tape,h2.output,h2.size,h2.keep,fun b hb => .inl (h2.fF b hb),fun b hb => ?_,fun q b hb=>h2.org q b (hsub q b hb).2,fun q i v hq => ?_⟩
 ·have hpl:p<st.objs.length:=by
   refine Nat.lt_of_not_le fun hge => ?_
   have h3:=h1.obs p
   rw[Gqc,List.getElem?_eq_none hge] at h3
   have h4:H p = .nil:=h3
   rw[hp] at h4
   cases h4
  by_cases e:q=p
  ·subst e
   rw[Gqc,Gxl (by simpa using hpl)]
   exact Hs.put_self _ _ _
  ·rw[Gqc,Gxb (Ne.symm e),Gqh]
   have h3:=h1.obs q
   rw[Gqc] at h3
   cases ho:st.objs[q]? with
   |none=>rw[ho] at h3; exact (hne q e).trans h3
   |some ob=>rw[ho] at h3; exact RB.mapk hk (hne q e) h3
 ·rcases hb with hb | hb
  ·exact h2.fF' b hb
  ·rcases h2.org p b (hfp b hb) with h3 | h3
   ·exact .inr (.inr h3)
   ·exact .inr (.inl h3)
 ·by_cases e:q=p
  ·subst e; rw[Hs.put_self] at hq; cases hq
  ·rw[hne q e] at hq; exact h2.gh q i v hq
theorem row_ro {p kk:Nat} {es:List (List T)} (hp:st.objs[p]? = some (.row kk es)):∀ w H F a,R0 w H F st a→∃ x vv fp,H p = .ow x vv fp∧RO w (fun b=>F b∨b∈fp) (.sl kk es) vv:=fun w H F a h=>by
 obtain⟨v,fp,e1,e2⟩:=h.ow hp
 exact⟨_,_,_,e1,(OW.ro e2).weak fun b hb _ => .inr hb⟩
theorem shr_ro {p:Nat} {ts:List T} (hp:st.objs[p]? = some (.shr ts)):∀ w H F a,R0 w H F st a→∃ x vv fp,H p = .ow x vv fp∧RO w (fun b=>F b∨b∈fp) (.sl 1 (ts.map fun t => [t])) vv:=fun w H F a h=>by
 have h1:=h.obs p
 rw[Zj hp] at h1
 obtain⟨us,v,fp,e,hl,hr⟩:=h1
 refine⟨_,_,_,e,?_⟩
 have h2:=h.ok.says p
 rw[e] at h2
 have h3:=OW.ro h2
 obtain⟨es0,hes0⟩:∃ es0,es0=us.map fun u => [T.v u]:=⟨_,rfl⟩
 rw[←hes0] at h3
 cases h3 with
 |nil A _ c hm =>
  have hu0:us = []:=List.map_eq_nil_iff.1 hes0.symm
  subst hu0
  have:ts = []:=List.length_eq_zero_iff.1 hl.symm
  subst this
  exact .nil _ _ _ hm
 | sl _ b o _ c val hF hc hm hp hk hv ht =>
  have hl2:es0.length=(ts.map fun t => [t]).length:=by simp[hes0,hl]
  rw[hl2]
  refine .sl (ts.map fun t => [t]) b o 1 c val (.inr hF) (by rw[←hl2]; exact hc) hm (by omega) (fun e he=>by obtain⟨t,_,rfl⟩:=Gqr.1 he; rfl) (fun i j hi hj=>hv i j (by rw[hl2]; exact hi) hj) fun i j e t h4 h5 => ?_
  rw[Gqh,Option.map_eq_some_iff] at h4
  obtain⟨t',h6,rfl⟩:=h4
  cases j with
  |succ j=>simp at h5
  | zero =>
   simp only[Gxa,Option.some.injEq] at h5
   subst h5
   have hi:i<us.length:=by rw[hl]; exact Zk h6
   have h7:us[i]? = some us[i]:=Gqd hi
   have h8:=ht i 0 [T.v us[i]] (T.v us[i]) (by rw[hes0,Gqh,h7]; rfl) rfl
   obtain⟨h9,_⟩:=RO.plain h8
   rw[h9]
   exact (hr i _ _ h6 h7).weak fun b hb _=>by
    rcases hb with hb | ⟨q,hq,_⟩
    ·exact .inl hb
    ·cases hq
theorem AWP.freeze {c:Code} {p kk:Nat} {es:List (List T)} (hp:st.objs[p]? = some (.row kk es)) (h:AWP P E c QQ ⟨st.n,st.tmps.map fun e=>(e.1,e.2.mapk (V1.fz p (.sl kk es))),(st.objs.map (Ob.mapk (V1.fz p (.sl kk es)))).set p .gone⟩):AWP P E c QQ st:=⟨fun a w hr=>h.h a w (hr.freeze (row_ro hp))⟩
theorem AWP.freezeS {c:Code} {p:Nat} {ts:List T} (hp:st.objs[p]? = some (.shr ts)) (h:AWP P E c QQ ⟨st.n,st.tmps.map fun e=>(e.1,e.2.mapk (V1.fz p (.sl 1 (ts.map fun t => [t])))),(st.objs.map (Ob.mapk (V1.fz p (.sl 1 (ts.map fun t => [t]))))).set p .gone⟩):AWP P E c QQ st:=⟨fun a w hr=>h.h a w (hr.freeze (shr_ro hp))⟩
theorem AL.freeze {p kk:Nat} {es:List (List T)} (hp:st.objs[p]? = some (.row kk es)) (h:AL P E ops QQ rest ⟨st.n,st.tmps.map fun e=>(e.1,e.2.mapk (V1.fz p (.sl kk es))),(st.objs.map (Ob.mapk (V1.fz p (.sl kk es)))).set p .gone⟩):AL P E ops QQ rest st:=⟨fun a w hr=>h.h a w (hr.freeze (row_ro hp))⟩
/-! ### Shared rows -/
theorem Wk.toshr {p:Nat} (hp:st.objs[p]? = some (.row 1 [])):Wk st ⟨st.n,st.tmps,st.objs.set p (.shr [])⟩:=fun w H F a h=>by
 refine⟨H,⟨h.ok,fun q => ?_,h.tmp,h.size,h.defers⟩,fun q b hb=>⟨q,hb⟩,fun q i v hq=>⟨q,hq⟩⟩
 show RB w H F q ((st.objs.set p (.shr [])).getD q .gone)
 by_cases e:q=p
 ·subst e
  rw[Gqc,Gxl (Zk hp)]
  have h1:=h.obs q
  rw[Zj hp] at h1
  obtain⟨v,fp,e⟩:=h1
  exact⟨[],v,fp,e,J,fun i t u h2 _=>by simp at h2⟩
 ·rw[Gqc,Gxb (Ne.symm e),←Gqc]
  exact h.obs q
theorem L_appshr {p m:Nat} {t0:T} {ts:List T} {e:TypeId} {z0:Value} {by_:Nat} [hm:TyMake P t e [z0] by_] (ho:o.op = .call { callee := .builtin .append,args:=#[y,z],argTypes:=#[t,t] }) (hg:o.guard=none) (hy:st.ev y = .o (.c (.ref p))) (hp:st.objs[p]? = some (.shr ts)) (hz:st.ev z = .o (.c (.sb m 1 1))) (hx:st.objs[m]? = some (.box [.rd [] t0]))
  (hb:(ts.length+1)*by_≤140737488355328) (h63:ts.length+1≤9223372036854775807)
  (hd:dstOk st.n o.dst=true) (h:AL P E ops QQ rest ⟨st.n,setT (st.tmps.map fun e=>(e.1,e.2.kill [p])) o.dst (.o (.c (.ref p))),(st.objs.map (Ob.kill [p])).set p (.shr (ts ++ [t0]))⟩):AL P E ops QQ (o::rest) st:=by
 refine⟨fun a w ⟨H,F,h1,h2⟩ => ?_⟩
 have ho1:=h1.obs p
 rw[Zj hp] at ho1
 obtain⟨us,v,fp,e1,hul,hur⟩:=ho1
 have e2:=h1.ok.says p
 rw[e1] at e2
 obtain⟨x',fp',e3⟩:=h1.v1 hy
 rw[e1] at e3
 simp only[Pc.ow.injEq] at e3
 obtain⟨_,hv,_⟩:=e3
 have hnd:=h1.ok.nodup p
 rw[e1] at hnd
 have ho2:=h1.obs m
 rw[Zj hx] at ho2
 obtain⟨g,tg,vs,f1,f2,f3⟩:=ho2
 obtain⟨g',tg',vs',k1,k2,k3,k4⟩:=h1.v1 hz
 rw[f1] at k1
 simp only[Pc.box.injEq] at k1
 obtain⟨rfl,rfl,rfl⟩:=k1
 obtain⟨u,rfl⟩:∃ u,vs = [u]:=by
  cases vs with
  |nil=>simp at f2
  |cons u vs=>cases vs with
   |nil=>exact⟨u,rfl⟩
   |cons u' vs=>simp at f2
 obtain⟨hu1,hu2⟩:=f3 0 _ _ rfl rfl
 have hsay:=h1.ok.says m
 rw[f1] at hsay
 have hcell:w.cell? ⟨g,0,none⟩=some u:=by
  rw[cell_of_row w g _ [u].toArray tg (0,0) hsay]
  rfl
 have hpl:plainT [[T.v u]]:=fun e he t ht=>by
  rw[Gq7] at he
  subst he
  rw[Gq7] at ht
  exact⟨u,ht⟩
 have hsrc:Src P 1 t (a.eval z) 1 (flatV (plainV' [[T.v u]]) 1 1) w:=by
  rw[k4]
  refine src_slice (zs := [z0]) [[T.v u]] (plainV' [[T.v u]]) (some ⟨g,0,none⟩) 1 (fun _=>⟨g,0,J,fun i j hi hj => ?_⟩) fun i j hi hj => ?_
  ·have hi0:i=0:=by simp at hi; omega
   have hj0:j=0:=by simp at hj; omega
   subst hi0 hj0
   exact hcell
  ·have hi0:i=0:=by simp at hi; omega
   have hj0:j=0:=by simp at hj; omega
   subst hi0 hj0
   exact hu2
 obtain⟨v',w',fp'',hr,h3,h4,h5,h6⟩:=append_src (P:=P) (o:=o) (t:=t) (zs := [z0]) (es:=us.map fun u => [T.v u]) (es' := [[T.v u]]) e2 hnd rfl (by simp) hsrc hpl (fun e he=>by rw[Gq7] at he; subst he; rfl) (by simpa[hul] using hb) (by simpa[hul] using h63)
 obtain⟨hok,htn⟩:=h1.ok.turn (p:=p) (fp:=fp) (by rw[e1]; rfl) h6 (.ow (.sl 1 ((us.map fun u => [T.v u]) ++ [[T.v u]])) v' fp'') h3 h4 trivial h5
 have hplt:=Zk hp
 have hR:=h1.turn htn hok ((st.objs.map (Ob.kill [p])).set p (.shr (ts ++ [t0]))) (fun q hq => ?_) (fun q hq => ?_)
 ·have hR2:=hR.put (x := .o (.c (.ref p))) o.dst hd (v:=v') ⟨_,_,Hs.put_self _ _ _⟩
  refine wpList_step fun K hK => ?_
  rw[if_pos (by unfold Region.wanted; rw[hg])]
  unfold Oper.wp
  rw[Ze ho (by rw[←hv]; exact hr)]
  exact hK _ _ (h.h _ _ ⟨_,F,hR2,h2.turn htn⟩)
 ·have hqp:q≠p:=by simpa using hq
  rw[Gqc,Gxb (Ne.symm hqp),Gqh,Gqc]
  cases st.objs[q]? <;> rfl
 ·have hqp:q=p:=by simpa using hq
  subst hqp
  rw[Zj (x := .shr (ts ++ [t0])) (by simp[hplt])]
  refine⟨us ++ [u],v',fp'',by rw[List.map_append]; exact Hs.put_self _ _ _,by simp[hul],fun i t u' hi hu' => ?_⟩
  rw[List.getElem?_append] at hi hu'
  split at hi
  ·rename_i hlt
   rw[if_pos (by omega)] at hu'
   exact R1.turn h1.ok htn (x := .rd [] t) J (hur i t u' hi hu')
  ·rename_i hlt
   rw[if_neg (by omega)] at hu'
   have h7:i=ts.length:=by have:=Zk hi; simp at this; omega
   subst h7
   rw[hul] at hu'
   simp only[Gx9,Gxa,Option.some.injEq] at hi hu'
   subst hi hu'
   exact R1.turn h1.ok htn (x := .rd [] _) J hu1
/-! ### Arithmetic that may wrap around -/
theorem q_addW (ho:o.op = .binOp .add t y z t') (hg:o.guard=none) (hy:st.ev y = .o (.c (.rd ps (.v (.int .i64 i))))) (hz:st.ev z = .o (.c (.rd qs (.v (.int .i64 j))))):Qt P ops o st (I (IntKind.i64.wrap (i+j))) [] n :=
 Z9 ho hg hy hz fun w=>by simp[binOp,Op.intArith]
theorem q_mulW (ho:o.op = .binOp .mul t y z t') (hg:o.guard=none) (hy:st.ev y = .o (.c (.rd ps (.v (.int .i64 i))))) (hz:st.ev z = .o (.c (.rd qs (.v (.int .i64 j))))):Qt P ops o st (I (IntKind.i64.wrap (i*j))) [] n :=
 Z9 ho hg hy hz fun w=>by simp[binOp,Op.intArith]
def xorI (i j:Int):Int:=IntKind.i64.wrap (((BitVec.ofInt 64 i)^^^(BitVec.ofInt 64 j)).toNat:Nat)
def andI (i j:Int):Int:=IntKind.i64.wrap (((BitVec.ofInt 64 i) &&& (BitVec.ofInt 64 j)).toNat:Nat)
theorem q_xorW (ho:o.op = .binOp .xor t y z t') (hg:o.guard=none) (hy:st.ev y = .o (.c (.rd ps (.v (.int .i64 i))))) (hz:st.ev z = .o (.c (.rd qs (.v (.int .i64 j))))):Qt P ops o st (I (xorI i j)) [] n :=
 Z9 ho hg hy hz fun w=>by
  simp only[binOp,Op.intBits]
  rfl
theorem q_andW (ho:o.op = .binOp .and t y z t') (hg:o.guard=none) (hy:st.ev y = .o (.c (.rd ps (.v (.int .i64 i))))) (hz:st.ev z = .o (.c (.rd qs (.v (.int .i64 j))))):Qt P ops o st (I (andI i j)) [] n :=
 Z9 ho hg hy hz fun w=>by
  simp only[binOp,Op.intBits]
  rfl
theorem q_shrW {k':IntKind} (ho:o.op = .binOp .shr t y z t') (hg:o.guard=none) (hy:st.ev y = .o (.c (.rd ps (.v (.int k i))))) (hz:st.ev z = .o (.c (.rd qs (.v (.int k' j))))) (h0:0≤j∧j≤k.bits):Qt P ops o st (VI k (i.fdiv (2 ^ j.toNat))) [] n :=
 .pure hg fun a w H F hr=>⟨.int k (i.fdiv (2 ^ j.toNat)),by
  have h1:=hr.plain hy
  have h2:=hr.plain hz
  have h3:¬j<0:=by omega
  have h4:min j.toNat k.bits=j.toNat:=by omega
  simp[execOp,ho,h1,h2,eqGuard,binOp,Op.shift,h3,h4],plainV _ rfl⟩
theorem andI_rng {i j:Int} (hj:0≤j∧j≤4611686018427387904):0≤andI i j∧andI i j≤j:=by
 have h2:(BitVec.ofInt 64 j).toNat=j.toNat:=bits_in (m:=64) ⟨by omega,by omega⟩
 have h3:((BitVec.ofInt 64 i) &&& (BitVec.ofInt 64 j)).toNat≤j.toNat:=by rw[BitVec.toNat_and,h2]; exact Nat.and_le_right
 unfold andI
 rw[Vt (by omega)]
 omega
end
end
end Go.Proofs.YtpmacgnmlmmojaaGreatDoor
