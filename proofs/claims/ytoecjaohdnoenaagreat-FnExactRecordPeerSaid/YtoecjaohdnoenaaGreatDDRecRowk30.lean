/-
  Rules, data and contracts of functions: part 31 of the proof.
  Conditions: those that each theorem names.
-/
import Derived.Test.YtoecjaohdnoenaaGreatDDRecRowk29
set_option linter.unusedSimpArgs false
set_option linter.unusedVariables false
set_option maxRecDepth 8000
set_option maxHeartbeats 8000000
namespace Go.Proofs.YtoecjaohdnoenaaGreat
section
open Go.RowKit

noncomputable def seekM (r:TReplay) (t:Int):Option TWorld :=
 if replayOk r=true∧0≤t∧t≤r.Rows.length then
  (match keyAt r (t/r.Every-1) with
  |none=>none
  |some w=>some (runM w ((r.Rows.take t.toNat).drop (t/r.Every*r.Every).toNat)))
 else none
theorem seek_no {r:TReplay} {t:Int} (h:¬(replayOk r=true∧0≤t∧t≤r.Rows.length)):seekM r t=none:=if_neg h
theorem seek_none {r:TReplay} {t:Int} (h:replayOk r=true∧0≤t∧t≤r.Rows.length) (hk:keyAt r (t/r.Every-1)=none):seekM r t=none:=by rw[seekM,if_pos h,hk]
theorem seek_some {r:TReplay} {t:Int} {w:TWorld} (h:replayOk r=true∧0≤t∧t≤r.Rows.length) (hk:keyAt r (t/r.Every-1)=some w):seekM r t=some (runM w ((r.Rows.take t.toNat).drop (t/r.Every*r.Every).toNat)):=by rw[seekM,if_pos h,hk]
theorem seek_in {r:TReplay} {t:Int} (ir:RepIn r):WorIn (rwW (seekM r t)):=by
 by_cases h:replayOk r=true∧0≤t∧t≤r.Rows.length
 ·have hi:=keyAt_in (k:=t/r.Every-1) ir
  cases hk:keyAt r (t/r.Every-1) with
  |none=>rw[seek_none h hk]; exact Vd
  |some w =>
   rw[hk] at hi
   rw[seek_some h hk]
   exact ran_in _ hi
 ·rw[seek_no h]; exact Vd
theorem seek_els {xs:List (List Int)} {a b:Nat}:((els xs).take a).drop b=els ((xs.take a).drop b):=by rw[els,els,List.map_drop,List.map_take]
theorem gd_part {xs:List (List Int)} (h:Enc.gd xs) (a b:Nat):Enc.gd ((xs.take a).drop b):=⟨by have:=h.1; rw[Gxa,Gqz]; omega,fun x hx=>h.2 x (Gxk (Gx0 hx))⟩
theorem I_SeekReplay (r:TReplay) (t:Int) (hg:Enc.gd r) (ht:I64 t) (ir:RepIn r) (hks:∀ x∈r.Keys,x.size≤1048576):Con Tryz.prog 241 [] [ag r,ai t] (ownO (Enc.e (rwW (seekM r t)))) (.tu [.ag (ownV 0 (Enc.e (rwW (seekM r t)))),.c (bv (rwB (seekM r t)))]):=by
 have cr:=Xv r hg
 have hlk:=Yx r.Rows
 have hrl:=ir.h3
 obtain⟨hk1,hk2⟩:=ht
 refine Con.of Tryz.func241 J Tryz.ntmps241 J (fun E => ?_)
 refine Wz [53,2,55] ?_;refine zx (Qj J J (cr) J) J ?_;refine Wz [9,106,297,80,106,187,200,210,298,103] ?_
 refine Xb J (fun h => ?_) (fun h => ?_)
 ·rw[seek_no (fun ⟨q1,q2,q3⟩=>by rw[q1] at h; simp at h; omega)]
  refine Wz [4,77,63] ?_
  exact qo J J (Yc [1,1,9] [2,3,4] J J (by decide) J J J)
 simp only[Gqn,Gq4,decide_eq_false_iff_not] at h
 have hv:replayOk r=true∧0≤t∧t≤r.Rows.length:=⟨h.1.1,by omega,by omega⟩
 have hr:=rok hv.1
 obtain⟨he1,he2⟩:=hr.e
 obtain⟨K,hK⟩:∃ K,K=t/r.Every:=⟨_,rfl⟩
 have hK0:0≤K:=by rw[hK]; exact Int.ediv_nonneg hv.2.1 (by omega)
 have hKt:K≤t:=by rw[hK]; exact Int.ediv_le_self _ hv.2.1
 have hm0:0≤K*r.Every:=Int.mul_nonneg hK0 (by omega)
 have hmt:K*r.Every≤t:=by rw[hK]; exact Int.ediv_mul_le t (by omega)
 have hm1:(K-1+1)*r.Every=K*r.Every:=by rw[Int.sub_add_cancel]
 have hka:=I_KeyAt r (K-1) hg ⟨by omega,by omega⟩ ir hks
 have hin:=keyAt_in (k:=K-1) ir
 refine Wz [22,10,16,179,65,2,14,0] ?_;refine AL.weak (st':=(⟨_,[(1,I t),(2,.o (.c (.ptr 0 0))),(4,.o (.c (.ptr 1 0))),(6,I (K-1)),(30,.o (.ag ((Enc.e r).map (V1.rd [])))),(31,I (K-1))],[.box ((Enc.e r).map (V1.rd [])),.box [nilV,jn 0,jn 0,nilV,nilV]]⟩:St)) (Ga [0,1] J (by kernel_rfl) (.c J (.c J (.c J (.cons (Xz (by rw[hK])) (.c J (.cons (Xz (by rw[hK])) (.nil)))))))) ?_
 cases hk:keyAt r (K-1) with
 |none =>
  rw[hk] at hka
  rw[seek_none hv (by rw[←hK]; exact hk)]
  refine M1 (Z3 J J (hka) J J J) J J ?_;refine Wz [71,66,36,88,50,77,63] ?_
  exact qo J J (Yc [1,1,9] [6,7,8] J J (by decide) J J J)
 |some w =>
  rw[hk] at hka hin
  rw[seek_some hv (by rw[←hK]; exact hk),←hK]
  have iw:WorIn w:=hin
  have hrw:=I_RunWorld w ((r.Rows.take t.toNat).drop (K*r.Every).toNat) iw (gd_part hg.2.2.2.2.1 _ _)
  have hrw:Con Tryz.prog 273 [] [ag w,.c (.rd [] (.sl (Enc.k (List Int)) (((els r.Rows).take t.toNat).drop ((K-1+1)*r.Every).toNat)))] (ownO (Enc.e (runM w ((r.Rows.take t.toNat).drop (K*r.Every).toNat)))) (.o (.ag (ownV 0 (Enc.e (runM w ((r.Rows.take t.toNat).drop (K*r.Every).toNat)))))):=by rw[hm1,seek_els]; exact hrw
  generalize runM w ((r.Rows.take t.toNat).drop (K*r.Every).toNat)=z at hrw
  have hq:(0:Int)≤(K-1+1)*r.Every∧(K-1+1)*r.Every≤t∧t≤((els r.Rows).length:Nat):=by omega
  refine M1 (Z3 J J (hka) J J J) J J ?_;refine Wz [71,66,36,88,41,8] ?_;refine Xi [[],[],[1],[],[3],[],[5],[3,4,5,6],[],[1,2,3,4,5,6,7,8],(u9 10),(u9 11),(u9 12)] [[],[],[39],[],[41],[],[43],[41,42,43,44],[],[39,40,41,42,43,44,45,46],[38,39,40,41,42,43,44,45,46,47],[38,39,40,41,42,43,44,45,46,47,48],[38,39,40,41,42,43,44,45,46,47,48]] [[39,40,41,42,43,44,45,46,47],[38,41,42,43,44,45,46],[38,41,42,43,44,45,46],[38,39,40,43,44,46],[38,39,40,43,44,46],[38,39,40,41,42,46],[38,39,40,41,42,46],[38,39,40,46],[38,39,40,41,42,43,44,45],[38],[],[],[]] J ?_;refine Wz [114,28,5,181,28] ?_;refine Vk (Ki J J J J (by omega)) J (Vk (Qa J J J) J (Vk (q_part J J J J J J hq) J ?_));refine Vk (Z3 J J (hrw) J J J) J ?_;refine Wz [21,36,17] ?_
  exact qo J J (Gc [6,7,8] J J J)
theorem S_SeekReplay (r:TReplay) (t:Int) (hg:Enc.gd r) (ht:I64 t) (ir:RepIn r) (hks:∀ x∈r.Keys,x.size≤1048576):Con Tryz.prog 232 [] [ag r,ai t] (ownO (Enc.e (rwW (seekM r t)))) (.tu [.ag (ownV 0 (Enc.e (rwW (seekM r t)))),.c (bv (rwB (seekM r t)))]):=by
 have cr:=X7 r hg
 have hlk:=Yx r.Rows
 have hrl:=ir.h3
 obtain⟨hk1,hk2⟩:=ht
 have ci:=Ya t 0 ((els r.Rows).length:Int)
 refine Con.of Tryz.func232 J Tryz.ntmps232 J (fun E => ?_)
 refine Wz [53,2,55] ?_;refine zx (Qj J J (cr) J) J ?_;refine Wz [9,106,187,200,210] ?_;refine zx (Vz J (.hit (.hit (.hit (.hit .stop)))) (fun hgrd=>Qj J J (ci) J)) J ?_;refine zx (Vz J (.hit (.hit (.hit (.hit (.hit .stop))))) (fun hgrd=>Q4 J J J)) J ?_;refine Wz [103] ?_
 refine Xb J (fun h => ?_) (fun h => ?_)
 ·rw[seek_no (fun ⟨q1,q2,q3⟩=>by rw[q1,Za.2 (by omega)] at h; exact absurd h (by decide))]
  refine Wz [4,77,63] ?_
  exact qo J J (Yc [1,1,9] [2,3,4] J J (by decide) J J J)
 simp only[Gqn,Gq4,Za] at h
 have hv:replayOk r=true∧0≤t∧t≤r.Rows.length:=⟨h.1,by omega,by omega⟩
 have hr:=rok hv.1
 obtain⟨he1,he2⟩:=hr.e
 obtain⟨K,hK⟩:∃ K,K=t/r.Every:=⟨_,rfl⟩
 have hK0:0≤K:=by rw[hK]; exact Int.ediv_nonneg hv.2.1 (by omega)
 have hKt:K≤t:=by rw[hK]; exact Int.ediv_le_self _ hv.2.1
 have hm0:0≤K*r.Every:=Int.mul_nonneg hK0 (by omega)
 have hmt:K*r.Every≤t:=by rw[hK]; exact Int.ediv_mul_le t (by omega)
 have hka:=S_KeyAt r (K-1) hg ⟨by omega,by omega⟩ ir hks
 have hin:=keyAt_in (k:=K-1) ir
 refine Wz [22,10,16,179,2,14,0,65] ?_;refine AL.weak (st':=(⟨_,[(1,I t),(2,.o (.c (.ptr 0 0))),(4,.o (.c (.ptr 1 0))),(6,I K),(26,.o (.ag ((Enc.e r).map (V1.rd [])))),(28,I (K-1))],[.box ((Enc.e r).map (V1.rd [])),.box [nilV,jn 0,jn 0,nilV,nilV]]⟩:St)) (Ga [0,1] J (by kernel_rfl) (.c J (.c J (.c J (.cons (Xz (by rw[hK])) (.c J (.cons (Xz (by rw[hK])) (.nil)))))))) ?_
 cases hk:keyAt r (K-1) with
 |none =>
  rw[hk] at hka
  rw[seek_none hv (by rw[←hK]; exact hk)]
  refine M1 (Z3 J J (hka) J J J) J J ?_;refine Wz [71,66,36,88,50,77,63] ?_
  exact qo J J (Yc [1,1,9] [6,7,8] J J (by decide) J J J)
 |some w =>
  rw[hk] at hka hin
  rw[seek_some hv (by rw[←hK]; exact hk),←hK]
  have iw:WorIn w:=hin
  have hrw:=S_RunWorld w ((r.Rows.take t.toNat).drop (K*r.Every).toNat) iw (gd_part hg.2.2.2.2.1 _ _)
  have hrw:Con Tryz.prog 265 [] [ag w,.c (.rd [] (.sl (Enc.k (List Int)) (((els r.Rows).take t.toNat).drop (K*r.Every).toNat)))] (ownO (Enc.e (runM w ((r.Rows.take t.toNat).drop (K*r.Every).toNat)))) (.o (.ag (ownV 0 (Enc.e (runM w ((r.Rows.take t.toNat).drop (K*r.Every).toNat)))))):=by rw[seek_els]; exact hrw
  generalize runM w ((r.Rows.take t.toNat).drop (K*r.Every).toNat)=z at hrw
  have hq:(0:Int)≤K*r.Every∧K*r.Every≤t∧t≤((els r.Rows).length:Nat):=by omega
  refine M1 (Z3 J J (hka) J J J) J J ?_;refine Wz [71,66,36,88,41,8] ?_;refine Xi [[],[],[1],[],[],[4],[3,4,5],[],[1,2,3,4,5,6,7],(u9 9),(u9 10),(u9 11)] [[],[],[36],[],[],[39],[38,39,40],[],[36,37,38,39,40,41,42],[35,36,37,38,39,40,41,42,43],[35,36,37,38,39,40,41,42,43,44],[35,36,37,38,39,40,41,42,43,44]] [[36,37,38,39,40,41,42,43],[35,38,39,40,41,42],[35,38,39,40,41,42],[35,36,37,39,40,42],[35,36,37,38,42],[35,36,37,38,42],[35,36,37,42],[35,36,37,38,39,40,41],[35],[],[],[]] J ?_;refine Wz [114,28,5,28] ?_;refine Vk (Ki J J J J (by omega)) J (Vk (Qa J J J) J (Vk (q_part J J J J J J hq) J ?_));refine Vk (Z3 J J (hrw) J J J) J ?_;refine Wz [21,36,17] ?_
  exact qo J J (Gc [6,7,8] J J J)
end
section
open Go.RowKit

theorem split_len (l:List UInt8):(l.takeWhile zeroB).length+((l.dropWhile zeroB).takeWhile someB).length+((l.dropWhile zeroB).dropWhile someB).length=l.length:=by
 have h1:=congrArg List.length (List.takeWhile_append_dropWhile (p:=zeroB) (l:=l))
 have h2:=congrArg List.length (List.takeWhile_append_dropWhile (p:=someB) (l:=l.dropWhile zeroB))
 rw[Gqg] at h1 h2
 omega
theorem packZ_len:∀ (n:Nat) (l:List UInt8),l.length≤n→(packZ l).length≤13*l.length
 |0,l,h=>by
  have:l = []:=List.eq_nil_of_length_eq_zero (by omega)
  subst this
  rw[packZ_nil]
  simp
 |n+1,[],h=>by rw[packZ_nil]; simp
 |n+1,x::r,h=>by
  have h1:=packZ_ne x r
  have h2:=split_len (x::r)
  have h3:=Y2 (((x::r).takeWhile zeroB).length:Nat)
  have h4:=Y2 ((((x::r).dropWhile zeroB).takeWhile someB).length:Nat)
  have h5:=packZ_len n (((x::r).dropWhile zeroB).dropWhile someB) (by omega)
  rw[packZ]
  simp only[Gqg]
  omega
def deltaT (a b:ByteArray):ByteArray:=bs (encVar b.size)++bs (packZ (xorText a b).data.toList)
theorem deltaT_size (a b:ByteArray):(deltaT a b).size≤6+13*b.size:=by
 have h1:=Y2 (b.size:Int)
 have h2:=packZ_len _ (xorText a b).data.toList (Gqk _)
 have h3:(xorText a b).data.toList.length=b.size:=by
  have:=xorL_len a b
  have h4:b.data.toList.length=b.size:=by simp
  show ((xorL a b).toArray).toList.length=b.size
  simp
  omega
 rw[deltaT,ByteArray.size_append]
 show ((encVar b.size).toArray).size+((packZ (xorText a b).data.toList).toArray).size≤_
 simp
 omega
theorem I_DeltaText (a b:ByteArray) (ha:a.size≤1048576) (hb:b.size≤1048576):Con Tryz.prog 242 [] [astr a,astr b] [] (S (deltaT a b)):=by
 have c1:=Xt b.size
 have c2:=I_XorText a b (by omega) (by omega)
 have hx:(xorText a b).size=b.size:=by
  have:=xorL_len a b
  have h4:b.data.toList.length=b.size:=by simp
  show ((xorL a b).toArray).size=b.size
  simp
  omega
 have c3:=I_PackZeros (xorText a b) (by omega)
 have hsz:=deltaT_size a b
 rw[deltaT,ByteArray.size_append] at hsz
 rw[deltaT]
 refine Con.of Tryz.func242 J Tryz.ntmps242 J (fun E => ?_)
 refine Wz [32,10,72] ?_;refine zx (Qj J J (c1) J) J ?_;refine Wz [132] ?_;refine zx (Qj J J (c2) J) J ?_;refine zx (Qj J J (c3) J) J ?_;refine Wz [231,17] ?_
 exact Gb J (Gc [] J J J)
theorem S_DeltaText (a b:ByteArray) (ha:a.size≤1048576) (hb:b.size≤1048576):Con Tryz.prog 234 [] [astr a,astr b] [] (S (deltaT a b)):=by
 have c1:=X6 b.size
 have c2:=S_XorText a b (by omega) (by omega)
 have hx:(xorText a b).size=b.size:=by
  have:=xorL_len a b
  have h4:b.data.toList.length=b.size:=by simp
  show ((xorL a b).toArray).size=b.size
  simp
  omega
 have c3:=S_PackZeros (xorText a b) (by omega)
 have hsz:=deltaT_size a b
 rw[deltaT,ByteArray.size_append] at hsz
 rw[deltaT]
 refine Con.of Tryz.func234 J Tryz.ntmps234 J (fun E => ?_)
 refine Wz [32,10,72] ?_;refine zx (Qj J J (c1) J) J ?_;refine Wz [132] ?_;refine zx (Qj J J (c2) J) J ?_;refine zx (Qj J J (c3) J) J ?_;refine Wz [231,17] ?_
 exact Gb J (Gc [] J J J)
end
section
open Go.RowKit

theorem els_snoc {α:Type} [Enc α] {xs:List α} {k:Nat} (h:k<xs.length):els (xs.take (k+1))=els (xs.take k) ++ [Enc.e xs[k]]:=by
 rw[Gq1 h]
 exact List.map_append
theorem I_copyInts (xs:List Int) (hL:xs.length≤1048576):Con Tryz.prog 160 [] [al xs] [.row 1 (els xs)] (.o (.c (.ref 0))):=by
 have hlx:=Yx xs
 refine Con.of Tryz.func160 J Tryz.ntmps160 J (fun E => ?_)
 refine Wz [32,10] ?_;refine M_appnil J J J J J J J J (Yy _) (els_k _) (by omega) (by omega) ?_;refine Wz [17] ?_
 exact Gb J (Gc [0] J J J)
theorem I_copyRows (xs:List (List Int)) (hg:Enc.gd xs) (hL:xs.length≤1048576) (hr:∀ r∈xs,r.length≤1048576):Con Tryz.prog 66 [] [al xs] [.row 1 (els xs)] (.o (.c (.ref 0))):=by
 have hlx:=Yx xs
 refine Con.of Tryz.func66 J Tryz.ntmps66 J (fun E => ?_)
 refine Wz [32,87,7,142,44] ?_
 refine AWP.pre ?_ (W_nil 3 1 J)
 refine Xj (fun m st=>∃ k:Nat,k+m=xs.length∧(True)∧st=(⟨_,[(3,.o (.c (.ref 0))),(6,L xs),(7,I (els xs).length),(8,I k)],[.row 1 (els (xs.take k))]⟩:St)) (xs.length) ⟨_,⟨0,by omega,trivial,J⟩,Gi [0]⟩ ?_
 rintro m_A _ ⟨k,hk_A,hp_A,rfl⟩
 have hl2:(els (xs.take k)).length=k:=by rw[Yx]; simp; omega
 refine Wz [4,37,8] ?_
 refine Xb J (fun h => ?_) (fun h => ?_)
 ·have h3:k<xs.length:=by have:=Gqe h; omega
  have hat:=Yv h3
  refine Wz [11,4,59,2,33,0] ?_;refine M1 (Z3 J J (I_copyInts xs[k] (hr _ (Gqj h3))) J J J) J J ?_;refine Wz [101,121,141,93] ?_
  exact⟨xs.length-(k+1),by omega,(fun k:Nat=>(⟨_,[(3,.o (.c (.ref 0))),(6,L xs),(7,I (els xs).length),(8,I k)],[.row 1 (els (xs.take k))]⟩:St)) (k+1),⟨k+1,by omega,trivial,J⟩,Ga [0] J (Kw (els_snoc h3)) (.c J (.c J (.c J (.c J (.nil)))))⟩
 ·have h3:¬((k:Int)<(els xs).length):=Gqf h
  have hk:xs.take k=xs:=Gq3 (by omega)
  refine Wz [89,17] ?_
  exact Gb J (Gc [0] J (Kw (by rw[hk])) J)
theorem I_copyReplay (x:TReplay) (hg:Enc.gd x) (h1:x.Level.Rows.length≤1048576) (h2:x.Keys.length≤1048576) (h3:x.Rows.length≤1048576) (hr:∀ r∈x.Rows,r.length≤1048576):Con Tryz.prog 199 [] [ag x] (ownO (Enc.e x)) (.o (.ag (ownV 0 (Enc.e x)))):=by
 obtain⟨g_Level,g_Players,g_Seed,g_Every,g_Rows,g_Keys⟩:=hg
 have hlx:=Yx x.Keys
 refine Con.of Tryz.func199 J Tryz.ntmps199 J (fun E => ?_)
 refine Wz [53,3,185] ?_;refine M1 (Z3 J J (Xy x.Level g_Level h1) J J J) J J ?_;refine Wz [159,56,23] ?_;refine M1 (Z3 J J (I_copyRows x.Rows g_Rows h3 hr) J J J) J J ?_;refine Wz [30,23] ?_;refine M_appnil J J J J J J J J (Yy _) (els_k _) (by omega) (by omega) ?_;refine Wz [30,14,56,74,48] ?_
 exact Xm J J J J (Gc [2,3,4] J J J)
section
variable {P:Program} {ops:Array Oper} {o:Oper} {st:St} {m:Nat} {t e:TypeId} {y z:Operand} {zs:List Value} {by_:Nat}
theorem q_appz0 {ps:List Nat} {q kk:Nat} [hm:TyMake P t e zs by_] (ho:o.op = .call { callee := .builtin .append,args:=#[y,z],argTypes:=#[t,t] }) (hg:o.guard=none) (hy:st.ev y = .o (.c (.sb q 0 kk))) (hz:st.ev z = .o (.c (.rd ps (.sl kk [])))) (hkz:kk=zs.length) (hz0:zs.isEmpty=false):Qt P ops o st (.o (.c (.sb q 0 kk))) [] m :=
 .pure hg fun a w H F hr=>by
  have hzn:zs ≠ []:=by intro e; rw[e] at hz0; cases hz0
  subst hkz
  obtain⟨g,tt,vs,b1,b2,b3,b4⟩:=hr.v1 hy
  have h7:=src_any (P:=P) (t:=t) (e:=e) (by_:=by_) (kk:=zs.length) hr rfl hzn (hr.v1 hz) (es' := []) rfl (fun e he=>by simp at he) (fun e he=>by simp at he)
  obtain⟨i,hi,hzz⟩:=Option.map_eq_some_iff.1 hm.info
  simp only[Prod.mk.injEq] at hzz
  have h8:Src P i.size t (a.eval z) 0 [] w:=by rw[hzz.2.1]; simpa[flatV] using h7
  refine⟨a.eval y,Y3 ho ?_,hr.v1 hy⟩
  rw[b4]
  exact run_append_room_src (P:=P) w t t o.type e i hm.slice hi g 0 0 0 (a.eval z) 0 [] h8 (Gqk _) (by simp) (by simp)
theorem q_appz1 {ps:List Nat} {q kk:Nat} {es':List (List T)} [hm:TyMake P t e zs by_] (ho:o.op = .call { callee := .builtin .append,args:=#[y,z],argTypes:=#[t,t] }) (hg:o.guard=none) (hy:st.ev y = .o (.c (.sb q 0 kk))) (hz:st.ev z = .o (.c (.rd ps (.sl kk es')))) (hn:es' = []) (hkz:kk=zs.length) (hz0:zs.isEmpty=false):Qt P ops o st (.o (.c (.sb q 0 kk))) [] m:=by
 subst hn
 exact q_appz0 ho hg hy hz hkz hz0
end
theorem S_copyReplayE (x:TReplay) (hg:Enc.gd x) (h1:x.Level.Rows.length≤1048576) (h2:x.Keys.length≤1048576) (h3:x.Rows.length≤1048576) (hr:∀ r∈x.Rows,r.length≤1048576):Con Tryz.prog 186 [] [ag x] (ownO (Enc.e x)) (.o (.ag (ownV 0 (Enc.e x)))):=by
 obtain⟨g_Level,g_Players,g_Seed,g_Every,g_Rows,g_Keys⟩:=hg
 have hlx:=Yx x.Keys
 have hly:=Yx x.Rows
 have h00:([]:List (List T)).length=0:=rfl
 refine Con.of Tryz.func186 J Tryz.ntmps186 J (fun E => ?_)
 refine Wz [53,3,14,94,185] ?_;refine M1 (Z3 J J (X9 x.Level g_Level h1) J J J) J J ?_;refine Wz [159,56,4,30,46] ?_
 refine AWP.pre ?_ (Wk.nilbox (p:=2) (i:=4) 1 J J)
 refine Xj (fun m st=>∃ k:Nat,k+m=x.Rows.length∧(True)∧st=(⟨_,[(1,.o (.c (.ptr 0 0))),(2,.o (.c (.ptr 1 0))),(3,.o (.c (.ptr 2 0))),(4,I k)],[.box ((Enc.e x).map (V1.rd [])),.box [nilV,jv 0,jv 0,jv 0,nilV,nilV],.box [.ref 3,jv x.Players,jv x.Seed,jv x.Every,.ref 4,.rd [] (sl x.Keys)],.row 1 (els x.Level.Rows),.row 1 (els (x.Rows.take k))]⟩:St)) (x.Rows.length) ⟨_,⟨0,by omega,trivial,J⟩,Gi [0,1,2,3,4]⟩ ?_
 rintro m_A _ ⟨k,hk_A,hp_A,rfl⟩
 have hl2:(els (x.Rows.take k)).length=k:=by rw[Yx]; simp; omega
 refine Wz [40,16,7,37] ?_
 refine Xb J (fun h => ?_) (fun h => ?_)
 ·have h4:k<x.Rows.length:=by have:=Gqe h; omega
  obtain⟨r,hrr⟩:∃ r,x.Rows[k]=r:=⟨_,rfl⟩
  have hat:=Yv h4
  have hrk:=hr _ (Gqj h4)
  have hsn:=els_snoc h4
  rw[hrr] at hat hrk hsn
  have hlk:=Yx r
  refine Wz [11] ?_
  cases r with
  |nil =>
   refine Xi u8_44 u8_45 u8_46 J ?_;refine Wz [28,270,28,5,85] ?_;refine Vk (q_appz0 J J J J J J) J ?_;refine Wz [176,21] ?_;refine AL.weak (Wk.sbrow (q:=5) (es := []) J J (Gqw J)) ?_;refine Wz [121,144,51,129] ?_
   exact⟨x.Rows.length-(k+1),by omega,_,⟨k+1,by omega,trivial,J⟩,(by rw[hsn]; exact Gi [0,1,2,3,4])⟩
  |cons a rs =>
   have hpos:0<(els (a::rs)).length:=by rw[Yx]; simp
   refine Xi u8_44 u8_45 u8_46 J ?_;refine Wz [28,270,28,5,85] ?_;refine Vk (q_appz J J J J J J (Yy _) (els_k _) hpos (by omega) (by omega)) J ?_;refine Wz [176,21,121,144,51,129] ?_
   exact⟨x.Rows.length-(k+1),by omega,_,⟨k+1,by omega,trivial,J⟩,(by rw[hsn]; exact Gi [0,1,2,3,4])⟩
 ·have hk:x.Rows.take k=x.Rows:=Gq3 (by have:=Gqf h; omega)
  rw[hk]
  refine Wz [27,4,175,16] ?_;refine M_app J J J J J J J J J J (Yy _) (els_k _) (by omega) (by omega) ?_;refine Wz [30,14,56,74,48] ?_
  exact Xm J J J J (Gc [3,4,5] J J J)
end
section
open Go.RowKit

noncomputable def addOne (r:TReplay) (row:List Int) (last w:TWorld):TReplay :=
 ⟨r.Level,r.Players,r.Seed,r.Every,r.Rows ++ [row],if ((r.Rows.length:Int)+1)%r.Every=0 then r.Keys ++ [deltaT (worldBytes last) (worldBytes (stepW w row))] else r.Keys⟩
noncomputable def addTo (r:TReplay) (row:List Int):Option TWorld→Option TWorld→TReplay×Bool
 |some last,some w=>if replayOk (addOne r row last w)=true then (addOne r row last w,true) else (r,false)
 |_,_=>(r,false)
noncomputable def addRow (r:TReplay) (row:List Int):TReplay×Bool:=addTo r row (keyAt r ((r.Keys.length:Int)-1)) (seekM r r.Rows.length)
theorem addTo_n (r:TReplay) (row:List Int) (x:Option TWorld):addTo r row none x=(r,false):=rfl
theorem addTo_s (r:TReplay) (row:List Int) (x:Option TWorld):addTo r row x none=(r,false):=by cases x <;> rfl
theorem addTo_b (r:TReplay) (row:List Int) (last w:TWorld):addTo r row (some last) (some w)=if replayOk (addOne r row last w)=true then (addOne r row last w,true) else (r,false):=rfl
section
variable {r:TReplay} {row:List Int} {last w:TWorld}
theorem add_key (h:keyAt r ((r.Keys.length:Int)-1)=none):addRow r row=(r,false):=by
 unfold addRow
 rw[h]
 exact addTo_n _ _ _
theorem add_seek (h:seekM r r.Rows.length=none):addRow r row=(r,false):=by
 unfold addRow
 rw[h]
 exact addTo_s _ _ _
theorem add_bad (h:replayOk r=false):addRow r row=(r,false):=add_key (keyAt_bad (fun q=>by rw[q.1] at h; cases h))
theorem add_no (h1:keyAt r ((r.Keys.length:Int)-1)=some last) (h2:seekM r r.Rows.length=some w) (h:replayOk (addOne r row last w)=false):addRow r row=(r,false):=by
 unfold addRow
 rw[h1,h2,addTo_b]
 exact if_neg (by rw[h]; exact Gxt)
theorem add_yes (h1:keyAt r ((r.Keys.length:Int)-1)=some last) (h2:seekM r r.Rows.length=some w) (h:replayOk (addOne r row last w)=true):addRow r row=(addOne r row last w,true):=by
 unfold addRow
 rw[h1,h2,addTo_b]
 exact if_pos h
theorem add_not (h:∀ last w,replayOk (addOne r row last w)=false):addRow r row=(r,false):=by
 unfold addRow
 cases keyAt r ((r.Keys.length:Int)-1) with
 |none=>exact addTo_n _ _ _
 | some last =>
  cases seekM r r.Rows.length with
  |none=>exact addTo_s _ _ _
  |some w =>
   rw[addTo_b]
   exact if_neg (by rw[h]; exact Gxt)
theorem add_full (h:400≤r.Rows.length):addRow r row=(r,false):=add_not fun last w=>by
 rw[←Gxp]
 intro q
 unfold replayOk at q
 simp only[Gqi,decide_eq_true_eq] at q
 have:=q.1.1.2
 simp only[addOne,Gqg,List.length_singleton] at this
 omega
theorem add_row (h:rowOk row r.Players=false):addRow r row=(r,false):=add_not fun last w=>by
 rw[←Gxp]
 intro q
 unfold replayOk at q
 simp only[Gqi] at q
 have:=Gqm.1 q.1.2 row (by simp[addOne])
 simp only[addOne] at this
 rw[h] at this
 cases this
end
theorem add_gd {r:TReplay} {row:List Int} {last w:TWorld} (hg:Enc.gd r) (gr:Enc.gd row) (h1:r.Keys.length≤1048576) (h3:r.Rows.length≤1048576):Enc.gd (addOne r row last w):=by
 obtain⟨g_Level,g_Players,g_Seed,g_Every,g_Rows,g_Keys⟩:=hg
 refine⟨g_Level,g_Players,g_Seed,g_Every,⟨?_,fun x hx => ?_⟩,?_⟩
 ·simp only[addOne,Gqg,List.length_singleton]; omega
 ·rcases Gqp.1 hx with h | h
  ·exact g_Rows.2 x h
  ·rw[Gxf] at h; subst h; exact gr
 ·simp only[addOne]
  split
  ·refine⟨by rw[Gqg,List.length_singleton]; omega,fun x hx => ?_⟩
   rcases Gqp.1 hx with h | h
   ·exact g_Keys.2 x h
   ·rw[Gxf] at h
    subst h
    have h5:=deltaT_size (worldBytes last) (worldBytes (stepW w row))
    have h6:=Yr (stepW w row)
    show (deltaT _ _).size≤9223372036854775807
    omega
  ·exact g_Keys
theorem rows_tot:∀ {xs:List (List Int)},tot xs≤1048576→∀ x∈xs,x.length≤1048576
 | [],_,x,hx=>by cases hx
 |y::ys,h,x,hx=>by
  have h2:tot (y::ys)=y.length+tot ys:=by simp[tot]
  rcases List.mem_cons.1 hx with e | e
  ·subst e; omega
  ·exact rows_tot (xs:=ys) (by omega) x e
theorem rw_3 {a b c:Ob} {t:List Ob} {k:Nat} {x y:List (List T)} (h:x=y):a::b::c::Ob.row k x::t=a::b::c::Ob.row k y::t:=by rw[h]
theorem rw_4 {a b c d:Ob} {t:List Ob} {k:Nat} {x y:List (List T)} (h:x=y):a::b::c::d::Ob.row k x::t=a::b::c::d::Ob.row k y::t:=by rw[h]
theorem I_AddRow (r:TReplay) (row:List Int) (hg:Enc.gd r) (gr:Enc.gd row) (ir:RepIn r) (hrow:row.length≤1048576) (hks:∀ x∈r.Keys,x.size≤1048576):Con Tryz.prog 200 [] [ag r,al row] (ownO (Enc.e (addRow r row).1)) (.tu [.ag (ownV 0 (Enc.e (addRow r row).1)),.c (bv (addRow r row).2)]):=by
 have cr:=Xv r hg
 have hlr:=Yx r.Rows
 have hlk:=Yx r.Keys
 have hrt:=rows_tot ir.h4
 have cc:=I_copyReplay r hg ir.h1 ir.h2 ir.h3 hrt
 have crow:=I_rowOk row r.Players gr
 have hkl:=ir.h2
 have hrl:=ir.h3
 cases ho:replayOk r with
 |false =>
  rw[ho] at cr
  rw[add_bad ho]
  refine Con.of Tryz.func200 J Tryz.ntmps200 J (fun E => ?_)
  refine Wz [53,2,14] ?_;refine M1 (Z3 J J (cc) J J J) J J ?_;refine Wz [94,55] ?_;refine zx (Qj J J (cr) J) J ?_;refine Wz [9,45,25,45,70,112,14,63] ?_
  exact qo J J (Gc [2,3,4] J J J)
 |true =>
 rw[ho] at cr
 by_cases hf:400≤r.Rows.length
 ·have f1:decide (((els r.Rows).length:Int)≥400)=true:=Gqb (by omega)
  rw[add_full hf]
  refine Con.of Tryz.func200 J Tryz.ntmps200 J (fun E => ?_)
  refine Wz [53,2,14] ?_;refine M1 (Z3 J J (cc) J J J) J J ?_;refine Wz [94,55] ?_;refine zx (Qj J J (cr) J) J ?_;refine Wz [9,54,7,1,143,6,45,70,112,14,63] ?_
  exact qo J J (Gc [2,3,4] J J J)
 have f1:decide (((els r.Rows).length:Int)≥400)=false:=Gqa (by omega)
 cases hro:rowOk row r.Players with
 |false =>
  rw[hro] at crow
  rw[add_row hro]
  refine Con.of Tryz.func200 J Tryz.ntmps200 J (fun E => ?_)
  refine Wz [53,2,14] ?_;refine M1 (Z3 J J (cc) J J J) J J ?_;refine Wz [94,55] ?_;refine zx (Qj J J (cr) J) J ?_;refine Wz [9,54,7,1,143,6,19,136] ?_;refine zx (Qj J J (crow) J) J ?_;refine Wz [1,9,6,29,14,63] ?_
  exact qo J J (Gc [2,3,4] J J J)
 |true =>
 rw[hro] at crow
 have ck:=I_KeyAt r (((els r.Keys).length:Int)-1) hg ⟨by omega,by omega⟩ ir hks
 have cse:=I_SeekReplay r ((els r.Rows).length:Int) hg ⟨by omega,by omega⟩ ir hks
 have ik:=keyAt_in (k:=((els r.Keys).length:Int)-1) ir
 have is_:=seek_in (t:=((els r.Rows).length:Int)) ir
 rw[hlk] at ik
 rw[hlr] at is_
 rw[show keyAt r (((els r.Keys).length:Int)-1)=keyAt r ((r.Keys.length:Int)-1) by rw[hlk]] at ck
 rw[show seekM r ((els r.Rows).length:Int)=seekM r (r.Rows.length:Int) by rw[hlr]] at cse
 have cci:=I_copyInts row hrow
 refine Con.of Tryz.func200 J Tryz.ntmps200 J (fun E => ?_)
 refine Wz [53,2,14] ?_;refine M1 (Z3 J J (cc) J J J) J J ?_;refine Wz [94,55] ?_;refine zx (Qj J J (cr) J) J ?_;refine Wz [9,54,7,1,143,6,19,136] ?_;refine zx (Qj J J (crow) J) J ?_;refine Wz [1,9,60,14,16,7,65] ?_;refine AL.weak (st':=(⟨_,[(1,L row),(2,.o (.c (.ptr 0 0))),(4,.o (.c (.ptr 1 0))),(6,.o (.c (.ptr 5 0))),(30,.o (.ag ((Enc.e r).map (V1.rd [])))),(34,I (((els r.Keys).length:Int)-1))],[.box ((Enc.e r).map (V1.rd [])),.box [nilV,jn 0,jn 0,jn 0,nilV,nilV],.row 1 (els r.Level.Rows),.row 1 (els r.Rows),.row 1 (els r.Keys),.box [.ref 2,jn r.Players,jn r.Seed,jn r.Every,.ref 3,.ref 4]]⟩:St)) (Gi [0,1,2,3,4,5]) ?_
 clear crow f1
 cases hk:keyAt r ((r.Keys.length:Int)-1) with
 |none =>
  rw[hk] at ck
  rw[add_key hk]
  refine M1 (Z3 J J (ck) J J J) J J ?_;refine Wz [71,66,36,88,29,14,63] ?_
  exact qo J J (Gc [2,3,4] J J J)
 |some last =>
 rw[hk] at ck ik
 have wl:=I_WorldBytes last ik.gd
 refine M1 (Z3 J J (ck) J J J) J J ?_;refine Wz [71,66,36,88,41,14,16,7] ?_;refine AL.weak (st':=(⟨_,[(1,L row),(2,.o (.c (.ptr 0 0))),(4,.o (.c (.ptr 1 0))),(6,.o (.c (.ptr 5 0))),(7,.o (.c (.ptr 9 0))),(42,.o (.ag ((Enc.e r).map (V1.rd [])))),(45,I ((els r.Rows).length:Int))],[.box ((Enc.e r).map (V1.rd [])),.box [nilV,jn 0,jn 0,jn 0,nilV,nilV],.row 1 (els r.Level.Rows),.row 1 (els r.Rows),.row 1 (els r.Keys),.box [.ref 2,jn r.Players,jn r.Seed,jn r.Every,.ref 3,.ref 4],.row 1 (els last.Level.Rows),.row 1 (els last.Scores),.row 9 (els last.Bodies),.box [.ref 6,jn last.Tick,jn last.Seed,.ref 7,.ref 8]]⟩:St)) (Gi [0,1,2,3,4,5,6,7,8,9]) ?_
 clear ck
 cases hs:seekM r (r.Rows.length:Int) with
 |none =>
  rw[hs] at cse
  rw[add_seek hs]
  refine M1 (Z3 J J (cse) J J J) J J ?_;refine Wz [71,66,36,88,29,14,63] ?_
  exact qo J J (Gc [2,3,4] J J J)
 |some w =>
 rw[hs] at cse is_
 have iw:WorIn w:=is_
 refine M1 (Z3 J J (cse) J J J) J J ?_;refine Wz [71,66,36,88,41,8] ?_
 refine AWP.pre (st':=(⟨_,[(1,L row),(2,.o (.c (.ptr 0 0))),(4,.o (.c (.ptr 1 0))),(6,.o (.c (.ptr 5 0))),(7,.o (.c (.ptr 9 0))),(9,.o (.c (.ptr 13 0)))],[.box ((Enc.e r).map (V1.rd [])),.box [nilV,jn 0,jn 0,jn 0,nilV,nilV],.row 1 (els r.Level.Rows),.row 1 (els r.Rows),.row 1 (els r.Keys),.box [.ref 2,jn r.Players,jn r.Seed,jn r.Every,.ref 3,.ref 4],.row 1 (els last.Level.Rows),.row 1 (els last.Scores),.row 9 (els last.Bodies),.box [.ref 6,jn last.Tick,jn last.Seed,.ref 7,.ref 8],.row 1 (els w.Level.Rows),.row 1 (els w.Scores),.row 9 (els w.Bodies),.box [.ref 10,jn w.Tick,jn w.Seed,.ref 11,.ref 12]]⟩:St)) ?_ (Gi [0,1,2,3,4,5,6,7,8,9,10,11,12,13])
 clear cse
 refine Xi [[],[0],[],[2],[2,3],(u9 5),(u9 6),(u9 7)] [[],[52],[],[54],[54,55],[52,53,54,55,56],[52,53,54,55,56,57],[52,53,54,55,56,57,58]] [[54,55,56],[54,55,56],[52,53],[52,53],[52,53],[],[],[]] J ?_;refine Wz [28,5] ?_;refine Vk (Z3 J J (cci) J J J) J ?_;refine Wz [176,21] ?_;refine AL.weak (st':=(⟨_,[(1,L row),(2,.o (.c (.ptr 0 0))),(4,.o (.c (.ptr 1 0))),(6,.o (.c (.ptr 5 0))),(7,.o (.c (.ptr 9 0))),(9,.o (.c (.ptr 13 0))),(53,.o (.c (.ref 3))),(56,.o (.c (.sb 15 1 1)))],[.box ((Enc.e r).map (V1.rd [])),.box [nilV,jn 0,jn 0,jn 0,nilV,nilV],.row 1 (els r.Level.Rows),.row 1 (els r.Rows),.row 1 (els r.Keys),.box [.ref 2,jn r.Players,jn r.Seed,jn r.Every,.ref 3,.ref 4],.row 1 (els last.Level.Rows),.row 1 (els last.Scores),.row 9 (els last.Bodies),.box [.ref 6,jn last.Tick,jn last.Seed,.ref 7,.ref 8],.row 1 (els w.Level.Rows),.row 1 (els w.Scores),.row 9 (els w.Bodies),.box [.ref 10,jn w.Tick,jn w.Seed,.ref 11,.ref 12],.row 1 (els row),.box [.ref 14]]⟩:St)) (Gi [0,1,2,3,4,5,6,7,8,9,10,11,12,13,14,15]) ?_;refine Wz [121,30,42,102,16] ?_
 refine AL.weak (st':=(⟨_,[(1,L row),(2,.o (.c (.ptr 0 0))),(4,.o (.c (.ptr 1 0))),(6,.o (.c (.ptr 5 0))),(7,.o (.c (.ptr 9 0))),(9,.o (.c (.ptr 13 0))),(61,I ((r.Rows.length:Int)+1)),(63,I r.Every)],[.box ((Enc.e r).map (V1.rd [])),.box [nilV,jn 0,jn 0,jn 0,nilV,nilV],.row 1 (els r.Level.Rows),.row 1 (els (r.Rows ++ [row])),.row 1 (els r.Keys),.box [.ref 2,jn r.Players,jn r.Seed,jn r.Every,.ref 3,.ref 4],.row 1 (els last.Level.Rows),.row 1 (els last.Scores),.row 9 (els last.Bodies),.box [.ref 6,jn last.Tick,jn last.Seed,.ref 7,.ref 8],.row 1 (els w.Level.Rows),.row 1 (els w.Scores),.row 9 (els w.Bodies),.box [.ref 10,jn w.Tick,jn w.Seed,.ref 11,.ref 12]]⟩:St)) (Ga [0,1,2,3,4,5,6,7,8,9,10,11,12,13] J ((by exact rw_3 (by rw[Yu]; rfl))) (.c J (.c J (.c J (.c J (.c J (.c J (.cons (Xz (by rw[Gqg,List.length_singleton]; omega)) (.c J (.nil)))))))))) ?_
 obtain⟨he1,he2⟩:=(rok ho).e
 have gdy:=add_gd (last:=last) (w:=w) hg gr hkl hrl
 by_cases hq:((r.Rows.length:Int)+1)%r.Every=0
 case neg =>
  have f3:decide (((r.Rows.length:Int)+1)%r.Every=0)=false:=Gqa hq
  have hy:addOne r row last w=⟨r.Level,r.Players,r.Seed,r.Every,r.Rows ++ [row],r.Keys⟩:=by rw[addOne,if_neg hq]
  rw[hy] at gdy
  have cy:=Xv _ gdy
  refine Wz [149,15,41,55] ?_;refine AL.weak (st':=(⟨_,[(1,L row),(2,.o (.c (.ptr 0 0))),(4,.o (.c (.ptr 1 0))),(6,.o (.c (.ptr 5 0))),(79,.o (.ag [.ref 2,jn r.Players,jn r.Seed,jn r.Every,.ref 3,.ref 4]))],[.box ((Enc.e r).map (V1.rd [])),.box [nilV,jn 0,jn 0,jn 0,nilV,nilV],.row 1 (els r.Level.Rows),.row 1 (els (r.Rows ++ [row])),.row 1 (els r.Keys),.box [.ref 2,jn r.Players,jn r.Seed,jn r.Every,.ref 3,.ref 4]]⟩:St)) (Gi [0,1,2,3,4,5]) ?_
  cases hok:replayOk (⟨r.Level,r.Players,r.Seed,r.Every,r.Rows ++ [row],r.Keys⟩:TReplay) with
  |true =>
   rw[hok] at cy
   rw[add_yes hk hs (by rw[hy]; exact hok),hy]
   refine zx (Qj J J (cy) J) J ?_;refine Wz [73,14,36,17] ?_
   exact qo J J (Gc [2,3,4] J J J)
  |false =>
   rw[hok] at cy
   rw[add_no hk hs (by rw[hy]; exact hok)]
   refine zx (Qj J J (cy) J) J ?_;refine Wz [9,29,14] ?_;refine M1 (Z3 J J (cc) J J J) J J ?_;refine Wz [63] ?_
   exact qo J J (Gc [6,7,8] J J J)
 have f3:decide (((r.Rows.length:Int)+1)%r.Every=0)=true:=Gqb hq
 have cst:=I_StepWorld w row iw.gd gr iw.h1 iw.h2 iw.h3
 have hlv:=K6 w row
 have hy:addOne r row last w=⟨r.Level,r.Players,r.Seed,r.Every,r.Rows ++ [row],r.Keys ++ [deltaT (worldBytes last) (worldBytes (stepW w row))]⟩:=by rw[addOne,if_pos hq]
 rw[hy] at gdy
 have cy:=Xv _ gdy
 have wz:=I_WorldBytes (stepW w row) (K5 iw.gd).1
 have hb1:=Yr last
 have hb2:=Yr (stepW w row)
 have cd:=I_DeltaText (worldBytes last) (worldBytes (stepW w row)) (by omega) (by omega)
 rw[←hlv] at cst
 generalize stepW w row=z at cst hy gdy cy wz cd hb2
 obtain⟨D,hD⟩:∃ D,D=deltaT (worldBytes last) (worldBytes z):=⟨_,rfl⟩
 rw[←hD] at hy gdy cy cd
 refine Wz [149,15,29,14,0] ?_;refine M1 (Z3 J J (cst) J J J) J J ?_;refine Wz [56] ?_
 refine AWP.pre (st':=(⟨_,[(1,L row),(2,.o (.c (.ptr 0 0))),(4,.o (.c (.ptr 1 0))),(6,.o (.c (.ptr 5 0))),(7,.o (.c (.ptr 9 0))),(9,.o (.c (.ptr 13 0)))],[.box ((Enc.e r).map (V1.rd [])),.box [nilV,jn 0,jn 0,jn 0,nilV,nilV],.row 1 (els r.Level.Rows),.row 1 (els (r.Rows ++ [row])),.row 1 (els r.Keys),.box [.ref 2,jn r.Players,jn r.Seed,jn r.Every,.ref 3,.ref 4],.row 1 (els last.Level.Rows),.row 1 (els last.Scores),.row 9 (els last.Bodies),.box [.ref 6,jn last.Tick,jn last.Seed,.ref 7,.ref 8],.row 1 (els z.Level.Rows),.row 1 (els z.Scores),.row 9 (els z.Bodies),.box [.ref 10,jn z.Tick,jn z.Seed,.ref 11,.ref 12]]⟩:St)) ?_ (Gi [0,1,2,3,4,5,6,7,8,9,14,15,16,13])
 refine Xi [[],[0],[],[2],[],[2,3,4],[2,3,4,5],[2,3,4,5,6],(u9 8),(u9 9),(u9 10)] [[],[69],[],[71],[],[71,72,73],[71,72,73,74],[71,72,73,74,75],[69,70,71,72,73,74,75,76],[69,70,71,72,73,74,75,76,77],[69,70,71,72,73,74,75,76,77,78]] [[71,72,73,74,75,76],[71,72,73,74,75,76],[69,70,73],[69,70,73],[69,70,71,72],[69,70],[69,70],[69,70],[],[],[]] J ?_;refine Wz [28,114] ?_;refine Vk (Qj J J (wl) J) J ?_;refine Vk (Qu J J J J J J) J ?_;refine Vk (Qj J J (wz) J) J ?_;refine Vk (Qj J J (cd) J) J ?_;refine Wz [176,21] ?_;refine AL.weak (st':=(⟨_,[(1,L row),(2,.o (.c (.ptr 0 0))),(4,.o (.c (.ptr 1 0))),(6,.o (.c (.ptr 5 0))),(70,.o (.c (.ref 4))),(76,.o (.c (.sb 6 1 1)))],[.box ((Enc.e r).map (V1.rd [])),.box [nilV,jn 0,jn 0,jn 0,nilV,nilV],.row 1 (els r.Level.Rows),.row 1 (els (r.Rows ++ [row])),.row 1 (els r.Keys),.box [.ref 2,jn r.Players,jn r.Seed,jn r.Every,.ref 3,.ref 4],.box [.rd [] (.v (.string D))]]⟩:St)) (Gi [0,1,2,3,4,5,14]) ?_;refine Wz [121,30,55] ?_
 refine AL.weak (st':=(⟨_,[(1,L row),(2,.o (.c (.ptr 0 0))),(4,.o (.c (.ptr 1 0))),(6,.o (.c (.ptr 5 0))),(79,.o (.ag [.ref 2,jn r.Players,jn r.Seed,jn r.Every,.ref 3,.ref 4]))],[.box ((Enc.e r).map (V1.rd [])),.box [nilV,jn 0,jn 0,jn 0,nilV,nilV],.row 1 (els r.Level.Rows),.row 1 (els (r.Rows ++ [row])),.row 1 (els (r.Keys ++ [D])),.box [.ref 2,jn r.Players,jn r.Seed,jn r.Every,.ref 3,.ref 4]]⟩:St)) (Ga [0,1,2,3,4,5] J ((by exact rw_4 (by rw[Yu]; rfl))) (.c J (.c J (.c J (.c J (.c J (.nil))))))) ?_
 cases hok:replayOk (⟨r.Level,r.Players,r.Seed,r.Every,r.Rows ++ [row],(r.Keys ++ [D])⟩:TReplay) with
 |true =>
  rw[hok] at cy
  rw[add_yes hk hs (by rw[hy]; exact hok),hy]
  refine zx (Qj J J (cy) J) J ?_;refine Wz [73,14,36,17] ?_
  exact qo J J (Gc [2,3,4] J J J)
 |false =>
  rw[hok] at cy
  rw[add_no hk hs (by rw[hy]; exact hok)]
  refine zx (Qj J J (cy) J) J ?_;refine Wz [9,29,14] ?_;refine M1 (Z3 J J (cc) J J J) J J ?_;refine Wz [63] ?_
  exact qo J J (Gc [6,7,8] J J J)
end
section
open Go.RowKit

theorem S_AddRow (r:TReplay) (row:List Int) (hg:Enc.gd r) (gr:Enc.gd row) (ir:RepIn r) (hrow:row.length≤1048576) (hks:∀ x∈r.Keys,x.size≤1048576):Con Tryz.prog 187 [] [ag r,al row] (ownO (Enc.e (addRow r row).1)) (.tu [.ag (ownV 0 (Enc.e (addRow r row).1)),.c (bv (addRow r row).2)]):=by
 have hlr:=Yx r.Rows
 have hlk:=Yx r.Keys
 have hrt:=rows_tot ir.h4
 have cc:=S_copyReplayE r hg ir.h1 ir.h2 ir.h3 hrt
 have hkl:=ir.h2
 have hrl:=ir.h3
 have ck:=S_KeyAt r (((els r.Keys).length:Int)-1) hg ⟨by omega,by omega⟩ ir hks
 have cse:=S_SeekReplay r ((els r.Rows).length:Int) hg ⟨by omega,by omega⟩ ir hks
 have ik:=keyAt_in (k:=((els r.Keys).length:Int)-1) ir
 have is_:=seek_in (t:=((els r.Rows).length:Int)) ir
 rw[hlk] at ik
 rw[hlr] at is_
 rw[show keyAt r (((els r.Keys).length:Int)-1)=keyAt r ((r.Keys.length:Int)-1) by rw[hlk]] at ck
 rw[show seekM r ((els r.Rows).length:Int)=seekM r (r.Rows.length:Int) by rw[hlr]] at cse
 cases hs:seekM r (r.Rows.length:Int) with
 |none =>
  rw[hs] at cse
  rw[add_seek hs]
  generalize rwW (keyAt r ((r.Keys.length:Int)-1))=lw at ck
  generalize rwB (keyAt r ((r.Keys.length:Int)-1))=lb at ck
  refine Con.of Tryz.func187 J Tryz.ntmps187 J (fun E => ?_)
  refine Wz [53,2,14] ?_;refine M1 (Z3 J J (cc) J J J) J J ?_;refine Wz [94,23,7,2,14,0] ?_;refine M1 (Z3 J J (cse) J J J) J J ?_;refine Wz [71,66,36,2,14,16,7,65] ?_;refine M1 (Z3 J J (ck) J J J) J J ?_;refine Wz [71,66,36,88,0,57,112,14,63] ?_
  exact qo J J (Gc [2,3,4] J J J)
 |some w =>
 rw[hs] at cse is_
 have iw:WorIn w:=is_
 refine Con.of Tryz.func187 J Tryz.ntmps187 J (fun E => ?_)
 refine Wz [53,2,14] ?_;refine M1 (Z3 J J (cc) J J J) J J ?_;refine Wz [94,23,7,2,14,0] ?_;refine M1 (Z3 J J (cse) J J J) J J ?_;refine Wz [71,66,36,2,14,16,7,65] ?_;refine AL.weak (st':=(⟨_,[(1,L row),(2,.o (.c (.ptr 0 0))),(4,.o (.c (.ptr 1 0))),(6,.o (.c (.ptr 5 0))),(7,I ((els r.Rows).length:Int)),(8,.o (.c (.ptr 9 0))),(9,B true),(24,.o (.ag ((Enc.e r).map (V1.rd [])))),(28,I (((els r.Keys).length:Int)-1))],[.box ((Enc.e r).map (V1.rd [])),.box [nilV,jn 0,jn 0,jn 0,nilV,nilV],.row 1 (els r.Level.Rows),.row 1 (els r.Rows),.row 1 (els r.Keys),.box [.ref 2,jn r.Players,jn r.Seed,jn r.Every,.ref 3,.ref 4],.row 1 (els w.Level.Rows),.row 1 (els w.Scores),.row 9 (els w.Bodies),.box [.ref 6,jn w.Tick,jn w.Seed,.ref 7,.ref 8]]⟩:St)) (Gi [0,1,2,3,4,5,6,7,8,9]) ?_
 clear cse
 cases hk:keyAt r ((r.Keys.length:Int)-1) with
 |none =>
  rw[hk] at ck
  rw[add_key hk]
  refine M1 (Z3 J J (ck) J J J) J J ?_;refine Wz [71,66,36,88,19,9,6,29,14,63] ?_
  exact qo J J (Gc [2,3,4] J J J)
 |some last =>
 rw[hk] at ck ik
 have ho:replayOk r=true:=by
  cases h:replayOk r with
  |true=>rfl
  |false=>rw[keyAt_bad (fun q=>by rw[q.1] at h; cases h)] at hk; cases hk
 have wl:=X8 last ik.gd
 refine M1 (Z3 J J (ck) J J J) J J ?_;refine Wz [71,66,36,88,19,9,60,8] ?_
 refine AWP.pre (st':=(⟨_,[(1,L row),(2,.o (.c (.ptr 0 0))),(4,.o (.c (.ptr 1 0))),(6,.o (.c (.ptr 5 0))),(7,I ((els r.Rows).length:Int)),(8,.o (.c (.ptr 9 0))),(10,.o (.c (.ptr 13 0)))],[.box ((Enc.e r).map (V1.rd [])),.box [nilV,jn 0,jn 0,jn 0,nilV,nilV],.row 1 (els r.Level.Rows),.row 1 (els r.Rows),.row 1 (els r.Keys),.box [.ref 2,jn r.Players,jn r.Seed,jn r.Every,.ref 3,.ref 4],.row 1 (els w.Level.Rows),.row 1 (els w.Scores),.row 9 (els w.Bodies),.box [.ref 6,jn w.Tick,jn w.Seed,.ref 7,.ref 8],.row 1 (els last.Level.Rows),.row 1 (els last.Scores),.row 9 (els last.Bodies),.box [.ref 10,jn last.Tick,jn last.Seed,.ref 11,.ref 12]]⟩:St)) ?_ (Gi [0,1,2,3,4,5,6,7,8,9,10,11,12,13])
 clear ck
 have hlrow:=Yx row
 by_cases hnil:els row = []
 ·have hrn:row = []:=by cases row with
   |nil=>rfl
   |cons a b=>simp[els] at hnil
  refine Xi u8_16 u8_47 u8_48 J ?_;refine Wz [28,270,5] ?_;refine Vk (q_appz1 J J J J hnil J J) J ?_;refine Wz [176,21] ?_;refine AL.weak (Wk.sbrow (q:=14) (es := []) J J (Gqw J)) ?_;refine Wz [121,30,40,18,16] ?_
  refine AL.weak (st':=(⟨_,[(1,L row),(2,.o (.c (.ptr 0 0))),(4,.o (.c (.ptr 1 0))),(6,.o (.c (.ptr 5 0))),(7,I ((els r.Rows).length:Int)),(8,.o (.c (.ptr 9 0))),(10,.o (.c (.ptr 13 0))),(48,I (((els r.Rows).length:Int)+1)),(50,I r.Every)],[.box ((Enc.e r).map (V1.rd [])),.box [nilV,jn 0,jn 0,jn 0,nilV,nilV],.row 1 (els r.Level.Rows),.row 1 (els (r.Rows ++ [row])),.row 1 (els r.Keys),.box [.ref 2,jn r.Players,jn r.Seed,jn r.Every,.ref 3,.ref 4],.row 1 (els w.Level.Rows),.row 1 (els w.Scores),.row 9 (els w.Bodies),.box [.ref 6,jn w.Tick,jn w.Seed,.ref 7,.ref 8],.row 1 (els last.Level.Rows),.row 1 (els last.Scores),.row 9 (els last.Bodies),.box [.ref 10,jn last.Tick,jn last.Seed,.ref 11,.ref 12]]⟩:St)) (by rw[hrn,Yu]; exact Gi [0,1,2,3,4,5,6,7,8,9,10,11,12,13]) ?_
  obtain⟨he1,he2⟩:=(rok ho).e
  have gdy:=add_gd (last:=last) (w:=w) hg gr hkl hrl
  have hln:((els r.Rows).length:Int)+1=(r.Rows.length:Int)+1:=by rw[hlr]
  by_cases hq:((r.Rows.length:Int)+1)%r.Every=0
  case neg =>
   have f3:decide ((((els r.Rows).length:Int)+1)%r.Every=0)=false:=Gqa (by rw[hln]; exact hq)
   have hy:addOne r row last w=⟨r.Level,r.Players,r.Seed,r.Every,r.Rows ++ [row],r.Keys⟩:=by rw[addOne,if_neg hq]
   rw[hy] at gdy
   have cy:=X7 _ gdy
   refine Wz [149,15,41,55] ?_;refine AL.weak (st':=(⟨_,[(1,L row),(2,.o (.c (.ptr 0 0))),(4,.o (.c (.ptr 1 0))),(6,.o (.c (.ptr 5 0))),(7,I ((els r.Rows).length:Int)),(65,.o (.ag [.ref 2,jn r.Players,jn r.Seed,jn r.Every,.ref 3,.ref 4]))],[.box ((Enc.e r).map (V1.rd [])),.box [nilV,jn 0,jn 0,jn 0,nilV,nilV],.row 1 (els r.Level.Rows),.row 1 (els (r.Rows ++ [row])),.row 1 (els r.Keys),.box [.ref 2,jn r.Players,jn r.Seed,jn r.Every,.ref 3,.ref 4]]⟩:St)) (Gi [0,1,2,3,4,5]) ?_
   cases hok:replayOk (⟨r.Level,r.Players,r.Seed,r.Every,r.Rows ++ [row],r.Keys⟩:TReplay) with
   |true =>
    rw[hok] at cy
    rw[add_yes hk hs (by rw[hy]; exact hok),hy]
    refine zx (Qj J J (cy) J) J ?_;refine Wz [73,14,36,17] ?_
    exact qo J J (Gc [2,3,4] J J J)
   |false =>
    rw[hok] at cy
    rw[add_no hk hs (by rw[hy]; exact hok)]
    refine zx (Qj J J (cy) J) J ?_;refine Wz [9,29,14] ?_;refine M1 (Z3 J J (cc) J J J) J J ?_;refine Wz [63] ?_
    exact qo J J (Gc [6,7,8] J J J)
  have f3:decide ((((els r.Rows).length:Int)+1)%r.Every=0)=true:=Gqb (by rw[hln]; exact hq)
  have cst:=S_StepWorld w row iw.gd gr iw.h1 iw.h2 iw.h3
  have hlv:=K6 w row
  have hy:addOne r row last w=⟨r.Level,r.Players,r.Seed,r.Every,r.Rows ++ [row],r.Keys ++ [deltaT (worldBytes last) (worldBytes (stepW w row))]⟩:=by rw[addOne,if_pos hq]
  rw[hy] at gdy
  have cy:=X7 _ gdy
  have wz:=X8 (stepW w row) (K5 iw.gd).1
  have hb1:=Yr last
  have hb2:=Yr (stepW w row)
  have cd:=S_DeltaText (worldBytes last) (worldBytes (stepW w row)) (by omega) (by omega)
  rw[←hlv] at cst
  generalize stepW w row=z at cst hy gdy cy wz cd hb2
  obtain⟨D,hD⟩:∃ D,D=deltaT (worldBytes last) (worldBytes z):=⟨_,rfl⟩
  rw[←hD] at hy gdy cy cd
  refine Wz [149,15,29] ?_
  refine AWP.pre (st':=(⟨_,[(1,L row),(2,.o (.c (.ptr 0 0))),(4,.o (.c (.ptr 1 0))),(6,.o (.c (.ptr 5 0))),(7,I ((els r.Rows).length:Int)),(8,.o (.c (.ptr 9 0))),(10,.o (.c (.ptr 13 0)))],[.box ((Enc.e r).map (V1.rd [])),.box [nilV,jn 0,jn 0,jn 0,nilV,nilV],.row 1 (els r.Level.Rows),.row 1 (els (r.Rows ++ [row])),.row 1 (els r.Keys),.box [.ref 2,jn r.Players,jn r.Seed,jn r.Every,.ref 3,.ref 4],.row 1 (els w.Level.Rows),.row 1 (els w.Scores),.row 9 (els w.Bodies),.box [.ref 6,jn w.Tick,jn w.Seed,.ref 7,.ref 8],.row 1 (els last.Level.Rows),.row 1 (els last.Scores),.row 9 (els last.Bodies),.box [.ref 10,jn last.Tick,jn last.Seed,.ref 11,.ref 12]]⟩:St)) ?_ (Gi [0,1,2,3,4,5,6,7,8,9,10,11,12,13])
  refine Xi u8_49 u8_50 u8_51 J ?_;refine Wz [28,114] ?_;refine Vk (Qj J J (wl) J) J ?_;refine Wz [114,5] ?_;refine Vk (Z3 J J (cst) J J J) J ?_;refine Vk (Qj J J (wz) J) J ?_;refine Vk (Qj J J (cd) J) J ?_;refine Wz [176,21] ?_;refine AL.weak (st':=(⟨_,[(1,L row),(2,.o (.c (.ptr 0 0))),(4,.o (.c (.ptr 1 0))),(6,.o (.c (.ptr 5 0))),(7,I ((els r.Rows).length:Int)),(54,.o (.c (.ref 4))),(62,.o (.c (.sb 6 1 1)))],[.box ((Enc.e r).map (V1.rd [])),.box [nilV,jn 0,jn 0,jn 0,nilV,nilV],.row 1 (els r.Level.Rows),.row 1 (els (r.Rows ++ [row])),.row 1 (els r.Keys),.box [.ref 2,jn r.Players,jn r.Seed,jn r.Every,.ref 3,.ref 4],.box [.rd [] (.v (.string D))]]⟩:St)) (Gi [0,1,2,3,4,5,17]) ?_;refine Wz [121,30,55] ?_
  refine AL.weak (st':=(⟨_,[(1,L row),(2,.o (.c (.ptr 0 0))),(4,.o (.c (.ptr 1 0))),(6,.o (.c (.ptr 5 0))),(7,I ((els r.Rows).length:Int)),(65,.o (.ag [.ref 2,jn r.Players,jn r.Seed,jn r.Every,.ref 3,.ref 4]))],[.box ((Enc.e r).map (V1.rd [])),.box [nilV,jn 0,jn 0,jn 0,nilV,nilV],.row 1 (els r.Level.Rows),.row 1 (els (r.Rows ++ [row])),.row 1 (els (r.Keys ++ [D])),.box [.ref 2,jn r.Players,jn r.Seed,jn r.Every,.ref 3,.ref 4]]⟩:St)) (Ga [0,1,2,3,4,5] J ((by exact rw_4 (by rw[Yu]; rfl))) (.c J (.c J (.c J (.c J (.c J (.c J (.nil)))))))) ?_
  cases hok:replayOk (⟨r.Level,r.Players,r.Seed,r.Every,r.Rows ++ [row],(r.Keys ++ [D])⟩:TReplay) with
  |true =>
   rw[hok] at cy
   rw[add_yes hk hs (by rw[hy]; exact hok),hy]
   refine zx (Qj J J (cy) J) J ?_;refine Wz [73,14,36,17] ?_
   exact qo J J (Gc [2,3,4] J J J)
  |false =>
   rw[hok] at cy
   rw[add_no hk hs (by rw[hy]; exact hok)]
   refine zx (Qj J J (cy) J) J ?_;refine Wz [9,29,14] ?_;refine M1 (Z3 J J (cc) J J J) J J ?_;refine Wz [63] ?_
   exact qo J J (Gc [6,7,8] J J J)
 ·have hpos:0<(els row).length:=by
   rcases Nat.eq_zero_or_pos (els row).length with h | h
   ·exact absurd (List.eq_nil_of_length_eq_zero h) hnil
   ·exact h
  refine Xi u8_16 u8_47 u8_48 J ?_;refine Wz [28,270,5] ?_;refine Vk (q_appz J J J J J J (Yy _) (els_k _) hpos (by omega) (by omega)) J ?_;refine Wz [176,21,121,30,40,18,16] ?_
  refine AL.weak (st':=(⟨_,[(1,L row),(2,.o (.c (.ptr 0 0))),(4,.o (.c (.ptr 1 0))),(6,.o (.c (.ptr 5 0))),(7,I ((els r.Rows).length:Int)),(8,.o (.c (.ptr 9 0))),(10,.o (.c (.ptr 13 0))),(48,I (((els r.Rows).length:Int)+1)),(50,I r.Every)],[.box ((Enc.e r).map (V1.rd [])),.box [nilV,jn 0,jn 0,jn 0,nilV,nilV],.row 1 (els r.Level.Rows),.row 1 (els (r.Rows ++ [row])),.row 1 (els r.Keys),.box [.ref 2,jn r.Players,jn r.Seed,jn r.Every,.ref 3,.ref 4],.row 1 (els w.Level.Rows),.row 1 (els w.Scores),.row 9 (els w.Bodies),.box [.ref 6,jn w.Tick,jn w.Seed,.ref 7,.ref 8],.row 1 (els last.Level.Rows),.row 1 (els last.Scores),.row 9 (els last.Bodies),.box [.ref 10,jn last.Tick,jn last.Seed,.ref 11,.ref 12]]⟩:St)) (by rw[Yu]; exact Gi [0,1,2,3,4,5,6,7,8,9,10,11,12,13]) ?_
  obtain⟨he1,he2⟩:=(rok ho).e
  have gdy:=add_gd (last:=last) (w:=w) hg gr hkl hrl
  have hln:((els r.Rows).length:Int)+1=(r.Rows.length:Int)+1:=by rw[hlr]
  by_cases hq:((r.Rows.length:Int)+1)%r.Every=0
  case neg =>
   have f3:decide ((((els r.Rows).length:Int)+1)%r.Every=0)=false:=Gqa (by rw[hln]; exact hq)
   have hy:addOne r row last w=⟨r.Level,r.Players,r.Seed,r.Every,r.Rows ++ [row],r.Keys⟩:=by rw[addOne,if_neg hq]
   rw[hy] at gdy
   have cy:=X7 _ gdy
   refine Wz [149,15,41,55] ?_;refine AL.weak (st':=(⟨_,[(1,L row),(2,.o (.c (.ptr 0 0))),(4,.o (.c (.ptr 1 0))),(6,.o (.c (.ptr 5 0))),(7,I ((els r.Rows).length:Int)),(65,.o (.ag [.ref 2,jn r.Players,jn r.Seed,jn r.Every,.ref 3,.ref 4]))],[.box ((Enc.e r).map (V1.rd [])),.box [nilV,jn 0,jn 0,jn 0,nilV,nilV],.row 1 (els r.Level.Rows),.row 1 (els (r.Rows ++ [row])),.row 1 (els r.Keys),.box [.ref 2,jn r.Players,jn r.Seed,jn r.Every,.ref 3,.ref 4]]⟩:St)) (Gi [0,1,2,3,4,5]) ?_
   cases hok:replayOk (⟨r.Level,r.Players,r.Seed,r.Every,r.Rows ++ [row],r.Keys⟩:TReplay) with
   |true =>
    rw[hok] at cy
    rw[add_yes hk hs (by rw[hy]; exact hok),hy]
    refine zx (Qj J J (cy) J) J ?_;refine Wz [73,14,36,17] ?_
    exact qo J J (Gc [2,3,4] J J J)
   |false =>
    rw[hok] at cy
    rw[add_no hk hs (by rw[hy]; exact hok)]
    refine zx (Qj J J (cy) J) J ?_;refine Wz [9,29,14] ?_;refine M1 (Z3 J J (cc) J J J) J J ?_;refine Wz [63] ?_
    exact qo J J (Gc [6,7,8] J J J)
  have f3:decide ((((els r.Rows).length:Int)+1)%r.Every=0)=true:=Gqb (by rw[hln]; exact hq)
  have cst:=S_StepWorld w row iw.gd gr iw.h1 iw.h2 iw.h3
  have hlv:=K6 w row
  have hy:addOne r row last w=⟨r.Level,r.Players,r.Seed,r.Every,r.Rows ++ [row],r.Keys ++ [deltaT (worldBytes last) (worldBytes (stepW w row))]⟩:=by rw[addOne,if_pos hq]
  rw[hy] at gdy
  have cy:=X7 _ gdy
  have wz:=X8 (stepW w row) (K5 iw.gd).1
  have hb1:=Yr last
  have hb2:=Yr (stepW w row)
  have cd:=S_DeltaText (worldBytes last) (worldBytes (stepW w row)) (by omega) (by omega)
  rw[←hlv] at cst
  generalize stepW w row=z at cst hy gdy cy wz cd hb2
  obtain⟨D,hD⟩:∃ D,D=deltaT (worldBytes last) (worldBytes z):=⟨_,rfl⟩
  rw[←hD] at hy gdy cy cd
  refine Wz [149,15,29] ?_
  refine AWP.pre (st':=(⟨_,[(1,L row),(2,.o (.c (.ptr 0 0))),(4,.o (.c (.ptr 1 0))),(6,.o (.c (.ptr 5 0))),(7,I ((els r.Rows).length:Int)),(8,.o (.c (.ptr 9 0))),(10,.o (.c (.ptr 13 0)))],[.box ((Enc.e r).map (V1.rd [])),.box [nilV,jn 0,jn 0,jn 0,nilV,nilV],.row 1 (els r.Level.Rows),.row 1 (els (r.Rows ++ [row])),.row 1 (els r.Keys),.box [.ref 2,jn r.Players,jn r.Seed,jn r.Every,.ref 3,.ref 4],.row 1 (els w.Level.Rows),.row 1 (els w.Scores),.row 9 (els w.Bodies),.box [.ref 6,jn w.Tick,jn w.Seed,.ref 7,.ref 8],.row 1 (els last.Level.Rows),.row 1 (els last.Scores),.row 9 (els last.Bodies),.box [.ref 10,jn last.Tick,jn last.Seed,.ref 11,.ref 12]]⟩:St)) ?_ (Gi [0,1,2,3,4,5,6,7,8,9,10,11,12,13])
  refine Xi u8_49 u8_50 u8_51 J ?_;refine Wz [28,114] ?_;refine Vk (Qj J J (wl) J) J ?_;refine Wz [114,5] ?_;refine Vk (Z3 J J (cst) J J J) J ?_;refine Vk (Qj J J (wz) J) J ?_;refine Vk (Qj J J (cd) J) J ?_;refine Wz [176,21] ?_;refine AL.weak (st':=(⟨_,[(1,L row),(2,.o (.c (.ptr 0 0))),(4,.o (.c (.ptr 1 0))),(6,.o (.c (.ptr 5 0))),(7,I ((els r.Rows).length:Int)),(54,.o (.c (.ref 4))),(62,.o (.c (.sb 6 1 1)))],[.box ((Enc.e r).map (V1.rd [])),.box [nilV,jn 0,jn 0,jn 0,nilV,nilV],.row 1 (els r.Level.Rows),.row 1 (els (r.Rows ++ [row])),.row 1 (els r.Keys),.box [.ref 2,jn r.Players,jn r.Seed,jn r.Every,.ref 3,.ref 4],.box [.rd [] (.v (.string D))]]⟩:St)) (Gi [0,1,2,3,4,5,17]) ?_;refine Wz [121,30,55] ?_
  refine AL.weak (st':=(⟨_,[(1,L row),(2,.o (.c (.ptr 0 0))),(4,.o (.c (.ptr 1 0))),(6,.o (.c (.ptr 5 0))),(7,I ((els r.Rows).length:Int)),(65,.o (.ag [.ref 2,jn r.Players,jn r.Seed,jn r.Every,.ref 3,.ref 4]))],[.box ((Enc.e r).map (V1.rd [])),.box [nilV,jn 0,jn 0,jn 0,nilV,nilV],.row 1 (els r.Level.Rows),.row 1 (els (r.Rows ++ [row])),.row 1 (els (r.Keys ++ [D])),.box [.ref 2,jn r.Players,jn r.Seed,jn r.Every,.ref 3,.ref 4]]⟩:St)) (Ga [0,1,2,3,4,5] J ((by exact rw_4 (by rw[Yu]; rfl))) (.c J (.c J (.c J (.c J (.c J (.c J (.nil)))))))) ?_
  cases hok:replayOk (⟨r.Level,r.Players,r.Seed,r.Every,r.Rows ++ [row],(r.Keys ++ [D])⟩:TReplay) with
  |true =>
   rw[hok] at cy
   rw[add_yes hk hs (by rw[hy]; exact hok),hy]
   refine zx (Qj J J (cy) J) J ?_;refine Wz [73,14,36,17] ?_
   exact qo J J (Gc [2,3,4] J J J)
  |false =>
   rw[hok] at cy
   rw[add_no hk hs (by rw[hy]; exact hok)]
   refine zx (Qj J J (cy) J) J ?_;refine Wz [9,29,14] ?_;refine M1 (Z3 J J (cc) J J J) J J ?_;refine Wz [63] ?_
   exact qo J J (Gc [6,7,8] J J J)
end
end Go.Proofs.YtoecjaohdnoenaaGreat
