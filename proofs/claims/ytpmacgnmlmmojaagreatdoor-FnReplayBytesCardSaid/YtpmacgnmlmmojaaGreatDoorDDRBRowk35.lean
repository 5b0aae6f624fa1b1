/-
  Rules, data and contracts of functions: part 36 of the proof.
  Conditions: those that each theorem names.
-/
import Derived.Test.YtpmacgnmlmmojaaGreatDoorDDRBRowk33
set_option linter.unusedSimpArgs false
set_option linter.unusedVariables false
set_option maxRecDepth 8000
set_option maxHeartbeats 8000000
namespace Go.Proofs.YtpmacgnmlmmojaaGreatDoor
section
open Go.RowKit

def zeroB (b:UInt8):Bool:=b == 0
def someB (b:UInt8):Bool := !(b == 0)
def packZ (l:List UInt8):List UInt8:=match l with
 | [] => []
 |x::r=>encVar (((x::r).takeWhile zeroB).length:Nat)++(encVar ((((x::r).dropWhile zeroB).takeWhile someB).length:Nat)++((x::r).dropWhile zeroB).takeWhile someB)++packZ (((x::r).dropWhile zeroB).dropWhile someB)
termination_by l.length
decreasing_by
 by_cases h:zeroB x=true
 ·rw[List.dropWhile_cons,if_pos h]
  have h1:=(List.dropWhile_sublist someB (l:=r.dropWhile zeroB)).length_le
  have h2:=(List.dropWhile_sublist zeroB (l:=r)).length_le
  simp only[Gqt]; omega
 ·rw[List.dropWhile_cons,if_neg h,List.dropWhile_cons,if_pos (by simpa[zeroB,someB] using h)]
  have h1:=(List.dropWhile_sublist someB (l:=r)).length_le
  simp only[Gqt]; omega
theorem packZ_ne (x:UInt8) (r:List UInt8):¬(((x::r).takeWhile zeroB).length=0∧(((x::r).dropWhile zeroB).takeWhile someB).length=0):=by
 intro ⟨h1,h2⟩
 by_cases h:zeroB x=true
 ·rw[List.takeWhile_cons,if_pos h] at h1; simp at h1
 ·rw[List.dropWhile_cons,if_neg h,List.takeWhile_cons,if_pos (by simpa[zeroB,someB] using h)] at h2; simp at h2
def uzGo (s:ByteArray) (strict:Bool):Nat→Nat→List UInt8→Option (List UInt8)
 |0,pos,out=>if pos<s.size then none else some out
 | f+1,pos,out=>if pos<s.size then (match decVar s pos with
  |none=>none
  |some (n,j)=>match unpackText s ((pos:Int)+(j:Int)) with
   |none=>none
   |some (t,k)=>if (20000:Int)-out.length<n+t.size then none else if strict=true∧n=0∧t.size=0 then none else uzGo s strict f (pos+j+k) (out++List.replicate n.toNat 0++t.data.toList)) else some out
def unpackZ (strict:Bool) (s:ByteArray):Option ByteArray:=match uzGo s strict s.size 0 [] with
 |none=>none
 |some out=>if bs (packZ out)=s then some (bs out) else none
theorem unpackText_enc {s:ByteArray} {p:Nat} {t r:List UInt8} (hL:s.size≤1099511627775) (hs:s.data.toList.drop p=(encVar (t.length:Nat)++t)++r):unpackText s p=some (bs t,(encVar (t.length:Nat)).length+t.length):=by
 have e:s.data.toList.length=s.size:=by simp
 have hlen:(s.data.toList.drop p).length=((encVar (t.length:Nat)++t)++r).length:=by rw[hs]
 simp only[Gq0,Gqe] at hlen
 rw[Gqn] at hs
 by_cases ht:(t.length:Int)≤1099511627775
 ·have h1:=Y2 (by omega) ht hs
  have hne:1≤(encVar (t.length:Nat)).length:=by rw[encVar,if_pos ⟨by omega,ht⟩]; exact (varN_len _).1
  rw[unpackText,h1]
  have hp:p+(encVar (t.length:Nat)).length+t.length≤s.size:=by omega
  simp only
  rw[if_neg (by omega)]
  congr 2
  have hd:s.data.toList.drop (p+(encVar (t.length:Nat)).length)=t++r:=by
   have:=congrArg (List.drop (encVar (t.length:Nat)).length) hs
   rwa[Gxn,List.drop_left] at this
  rw[show ((p:Int)+((encVar (t.length:Nat)).length:Nat)).toNat=p+(encVar (t.length:Nat)).length by omega,show ((p:Int)+((encVar (t.length:Nat)).length:Nat)+((t.length:Nat):Int)).toNat=p+(encVar (t.length:Nat)).length+t.length by omega,Zg,bytesL,hd,List.take_left]
 ·omega
theorem uz_mono (s:ByteArray):∀ (f pos:Nat) (out r:List UInt8),uzGo s true f pos out=some r→uzGo s false f pos out=some r
 |0,pos,out,r,h=>h
 | f+1,pos,out,r,h=>by
  rw[uzGo] at h ⊢
  by_cases hp:pos<s.size
  ·rw[if_pos hp] at h ⊢
   cases hd:decVar s pos with
   |none=>rw[hd] at h; cases h
   | some x =>
    obtain⟨n,j⟩:=x
    rw[hd] at h
    simp only at h ⊢
    cases hu:unpackText s ((pos:Int)+(j:Int)) with
    |none=>rw[hu] at h; cases h
    | some y =>
     obtain⟨t,k⟩:=y
     rw[hu] at h
     simp only at h ⊢
     split at h
     ·cases h
     ·rename_i hb
      rw[if_neg hb,if_neg (by simp)]
      split at h
      ·cases h
      ·exact uz_mono s f _ _ _ h
  ·rw[if_neg hp] at h ⊢; exact h
theorem uz_canon (s:ByteArray) (hL:s.size≤1099511627775):∀ (f pos:Nat) (out l:List UInt8),l.length≤1099511627775→s.data.toList.drop pos=packZ l→uzGo s true f pos out=uzGo s false f pos out
 |0,pos,out,l,_,h=>rfl
 | f+1,pos,out,l,hl,h=>by
  rw[uzGo,uzGo]
  by_cases hp:pos<s.size
  ·rw[if_pos hp,if_pos hp]
   have e:s.data.toList.length=s.size:=by simp
   cases l with
   |nil =>
    rw[packZ] at h
    have:=congrArg List.length h
    simp only[Gq0,List.length_nil] at this
    omega
   | cons x r =>
    have hne:=packZ_ne x r
    rw[packZ,Gqn] at h
    have hl1:=(List.takeWhile_sublist zeroB (l:=x::r)).length_le
    have hl2:=(List.dropWhile_sublist someB (l:=(x::r).dropWhile zeroB)).length_le
    have hl3:=(List.dropWhile_sublist zeroB (l:=x::r)).length_le
    generalize ((x::r).takeWhile zeroB).length=z at h hne hl1
    generalize ((x::r).dropWhile zeroB).takeWhile someB=t at h hne
    generalize ((x::r).dropWhile zeroB).dropWhile someB=q at h hl2
    have hlen:(s.data.toList.drop pos).length=(encVar (z:Nat)++((encVar (t.length:Nat)++t)++packZ q)).length:=by rw[h]
    by_cases hz:(z:Int)≤1099511627775
    ·have h1:=Y2 (s:=s) (p:=pos) (n:=(z:Int)) (by omega) hz h
     have hd:s.data.toList.drop (pos+(encVar (z:Nat)).length)=(encVar (t.length:Nat)++t)++packZ q:=by
      have:=congrArg (List.drop (encVar (z:Nat)).length) h
      rwa[Gxn,List.drop_left] at this
     have h2:=unpackText_enc hL hd
     have hd2:s.data.toList.drop (pos+(encVar (z:Nat)).length+((encVar (t.length:Nat)).length+t.length))=packZ q:=by
      have:=congrArg (List.drop (encVar (t.length:Nat)++t).length) hd
      rw[Gxn,List.drop_left,Gqe] at this
      exact this
     rw[h1]
     simp only
     rw[show (pos:Int)+((encVar (z:Nat)).length:Nat)=((pos+(encVar (z:Nat)).length:Nat):Int) by omega,h2]
     simp only
     split
     ·rfl
     ·rw[if_neg (by rw[Ys]; intro ⟨_,h3,h4⟩; exact hne ⟨by omega,h4⟩),if_neg (by simp)]
      exact uz_canon s hL f _ _ q (by omega) hd2
    ·omega
  ·rw[if_neg hp,if_neg hp]
theorem uz_len (s:ByteArray) (b:Bool):∀ (f pos:Nat) (out r:List UInt8),out.length≤20000→uzGo s b f pos out=some r→r.length≤20000
 |0,pos,out,r,hl,h=>by
  rw[uzGo] at h
  split at h
  ·cases h
  ·cases h; exact hl
 | f+1,pos,out,r,hl,h=>by
  rw[uzGo] at h
  by_cases hp:pos<s.size
  ·rw[if_pos hp] at h
   cases hd:decVar s pos with
   |none=>rw[hd] at h; cases h
   | some x =>
    obtain⟨n,j⟩:=x
    rw[hd] at h
    simp only at h
    have hn:=Y3 hd
    cases hu:unpackText s ((pos:Int)+(j:Int)) with
    |none=>rw[hu] at h; cases h
    | some y =>
     obtain⟨t,k⟩:=y
     rw[hu] at h
     simp only at h
     split at h
     ·cases h
     ·rename_i hb
      split at h
      ·cases h
      ·have e:t.data.toList.length=t.size:=by simp
       exact uz_len s b f _ _ _ (by simp only[Gqe,Gxs]; omega) h
  ·rw[if_neg hp] at h; cases h; exact hl
theorem unpackZ_eq (s:ByteArray) (hL:s.size≤1099511627775):unpackZ true s=unpackZ false s:=by
 unfold unpackZ
 cases h:uzGo s false s.size 0 [] with
 |none =>
  cases h2:uzGo s true s.size 0 [] with
  |none=>rfl
  |some r=>rw[uz_mono s _ _ _ _ h2] at h; cases h
 | some r =>
  by_cases hr:bs (packZ r)=s
  ·have hc:=uz_canon s hL s.size 0 [] r (by have:=uz_len s false _ _ _ _ (by simp) h; omega) (by rw[Gx8,←hr,Yr])
   rw[hc,h]
  ·simp only[if_neg hr]
   cases h2:uzGo s true s.size 0 [] with
   |none=>rfl
   |some r' =>
    have:=uz_mono s _ _ _ _ h2
    rw[h] at this
    cases this
    simp only[if_neg hr]
theorem tw_gen {q:UInt8→Bool}:∀ {xs:List UInt8} {n:Nat},(∀ j,j<n→∃ y,xs[j]? = some y∧q y=true)→(∀ y,xs[n]? = some y→q y=false)→xs.takeWhile q=xs.take n∧xs.dropWhile q=xs.drop n
 | [],n,_,_=>by simp
 |x::xs,0,_,h2=>by
  have:=h2 x (by simp)
  rw[List.takeWhile_cons,List.dropWhile_cons,this]
  simp
 |x::xs,n+1,h1,h2=>by
  obtain⟨y,hy,hq⟩:=h1 0 (by omega)
  simp at hy
  subst hy
  obtain⟨a,b⟩:=tw_gen (q:=q) (xs:=xs) (n:=n) (fun j hj=>by have:=h1 (j+1) (by omega); simpa using this) (fun y hy=>h2 y (by simpa using hy))
  rw[List.takeWhile_cons,List.dropWhile_cons,hq]
  simp[a,b]
theorem byte_some {s:ByteArray} {a j:Nat} {b:UInt8} (h:(s.data.toList.drop a)[j]? = some b):a+j<s.size∧byteAt s (a+j)=(b.toNat:Int):=by
 rw[Gq5] at h
 have hl:=(Gqo.1 h).1
 have e:s.data.toList.length=s.size:=by simp
 obtain⟨b',h1,h2⟩:=Yt (s:=s) (i:=a+j) (by omega)
 rw[h] at h1
 cases h1
 exact⟨by omega,h2⟩
theorem zero_iff {b:UInt8}:zeroB b=true↔(b.toNat:Int)=0:=by
 simp only[zeroB,beq_iff_eq]
 constructor
 ·intro h; subst h; rfl
 ·intro h; exact UInt8.toNat_inj.1 (by simpa using h)
theorem text_list (t:ByteArray):(packText t).data.toList=encVar (t.size:Nat)++t.data.toList:=by simp[packText,ByteArray.append,bs]
theorem Z6 {s:ByteArray} {a m i:Nat} (h1:a≤m) (h2:m≤i) (h3:i≤s.size) (hlt:a<i) (hz:∀ j,a≤j→j<m→byteAt s j=0) (hm:m<s.size→byteAt s m≠0) (hn:∀ j,m≤j→j<i→byteAt s j≠0) (hi:i<s.size→byteAt s i=0) :
  packZ (s.data.toList.drop a)=encVar ((m-a:Nat):Int)++(packText (s.extract m i)).data.toList++packZ (s.data.toList.drop i):=by
 have e:s.data.toList.length=s.size:=by simp
 have ht1:=tw_gen (q:=zeroB) (xs:=s.data.toList.drop a) (n:=m-a) (fun j hj=>by
  obtain⟨y,hy⟩:∃ y,(s.data.toList.drop a)[j]? = some y:=⟨_,Gqd (by simp; omega)⟩
  exact⟨y,hy,zero_iff.2 (by rw[←(byte_some hy).2]; exact hz _ (by omega) (by omega))⟩) (fun y hy=>by
  have:=byte_some hy
  rw[show a+(m-a)=m by omega] at this
  rw[←Gx6,zero_iff,←this.2]
  exact hm this.1)
 rw[Gxn,show a+(m-a)=m by omega] at ht1
 have ht2:=tw_gen (q:=someB) (xs:=s.data.toList.drop m) (n:=i-m) (fun j hj=>by
  obtain⟨y,hy⟩:∃ y,(s.data.toList.drop m)[j]? = some y:=⟨_,Gqd (by simp; omega)⟩
  refine⟨y,hy,?_⟩
  have h4:¬zeroB y=true:=by rw[zero_iff,←(byte_some hy).2]; exact hn _ (by omega) (by omega)
  simpa[zeroB,someB] using h4) (fun y hy=>by
  have:=byte_some hy
  rw[show m+(i-m)=i by omega] at this
  have h4:zeroB y=true:=by rw[zero_iff,←this.2]; exact hi this.1
  simpa[zeroB,someB] using h4)
 rw[Gxn,show m+(i-m)=i by omega] at ht2
 have hne:s.data.toList.drop a ≠ []:=by
  intro h
  have:=congrArg List.length h
  simp only[Gq0,List.length_nil] at this
  omega
 have hx:(s.extract m i).data.toList=(s.data.toList.drop m).take (i-m):=Zh s m i
 have hsz:(s.extract m i).size=i-m:=by rw[Gxe]; omega
 rw[text_list,hx,hsz]
 cases hd:s.data.toList.drop a with
 |nil=>exact absurd hd hne
 |cons x r =>
  rw[packZ,←hd,ht1.1,ht1.2,ht2.1,ht2.2,Gqx,Gqx,Gq0,Gq0,show min (m-a) (s.data.toList.length-a)=m-a by omega,show min (i-m) (s.data.toList.length-m)=i-m by omega]
theorem packZ_nil:packZ [] = []:=by rw[packZ]
end
section
open Go.RowKit

theorem upZ {s:ByteArray} {i q:Nat} (h:∀ j,i≤j→j<q→byteAt s j=0) (hq:byteAt s q=0):∀ j,i≤j→j<q+1→byteAt s j=0:=fun j h1 h2=>by
 by_cases e:j=q
 ·subst e; exact hq
 ·exact h j h1 (by omega)
theorem upN {s:ByteArray} {i q:Nat} (h:∀ j,i≤j→j<q→byteAt s j≠0) (hq:byteAt s q≠0):∀ j,i≤j→j<q+1→byteAt s j≠0:=fun j h1 h2=>by
 by_cases e:j=q
 ·subst e; exact hq
 ·exact h j h1 (by omega)
theorem Vi (t:ByteArray):(packText t).data.toList.length≤t.size+6:=by
 rw[text_list,Gqe]
 have:=Zd (t.size:Nat)
 have e:t.data.toList.length=t.size:=by simp
 omega
theorem I_PackZeros (s:ByteArray) (hs:s.size≤1099511627775):Con Tryz.prog 131 [] [astr s] [] (S (bs (packZ s.data.toList))):=by
 refine Con.of Tryz.func131 J Tryz.ntmps131 J (fun E => ?_)
 refine Wz [36,36,36,12,33] ?_
 refine AWP.pre ?_ (W_nil 3 1 J)
 refine Xi (fun m__ st=>∃ (i:Nat) (acc:List UInt8),s.size-i=m__∧(acc++packZ (s.data.toList.drop i)=packZ s.data.toList∧i≤s.size∧acc.length≤14*i)∧st=(⟨_,[(0,S s),(3,.o (.c (.ref 0))),(4,I i)],[.row 1 (bE acc)]⟩:St)) _ ⟨_,⟨0,[],J,by simp,J⟩,Gs [0]⟩ ?_
 rintro m_A _ ⟨i,acc,hk_A,hp_A,rfl⟩
 obtain⟨hp1,hp2,hp3⟩:=hp_A
 refine Wz [50,119] ?_
 refine Xb J (fun h5 => ?_) (fun h5 => ?_)
 ·have h5:i<s.size:=by have:=Gqi h5; omega
  have hb:=Ym acc
  have hb1:=Ys acc
  refine Wz [124,10,23,33] ?_;refine Xi (fun m__ st=>∃ (q:Nat),s.size-q=m__∧(i≤q∧q≤s.size∧(∀ j,i≤j→j<q→byteAt s j=0))∧st=(⟨_,[(0,S s),(3,.o (.c (.ref 0))),(4,I q),(5,I i)],[.row 1 (bE acc)]⟩:St)) _ ⟨_,⟨i,J,⟨Gqf _,by omega,fun q h1 h2=>by omega⟩,J⟩,Gs [0]⟩ ?_
  rintro m_D _ ⟨q,hk_D,hp_D,rfl⟩
  obtain⟨hd1,hd2,hd3⟩:=hp_D
  by_cases hq:q<s.size
  ·have f1:decide ((q:Int)<s.size)=true:=Gqb (by omega)
   by_cases hz:byteAt s q=0
   ·have f2:decide (byteAt s (q:Int).toNat=0)=true:=Gqb hz
    refine Wz [50,5,69,139,3,236,9,15,124,22,35,127] ?_
    refine⟨_,(by omega),_,⟨q+1,J,⟨by omega,by omega,upZ hd3 hz⟩,J⟩,Gs [0]⟩
   ·have f2:decide (byteAt s (q:Int).toNat=0)=false:=Gqa hz
    refine Wz [50,5,69,137,3,13,9,61,10,23,33] ?_;refine Xi (fun m__ st=>∃ (e:Nat),s.size-e=m__∧(q≤e∧e≤s.size∧(∀ j,q≤j→j<e→byteAt s j≠0))∧st=(⟨_,[(0,S s),(3,.o (.c (.ref 0))),(4,I e),(5,I i),(6,I q)],[.row 1 (bE acc)]⟩:St)) _ ⟨_,⟨q,J,⟨Gqf _,hd2,fun j h1 h2=>by omega⟩,J⟩,Gs [0]⟩ ?_
    rintro m_G _ ⟨e,hk_G,hp_G,rfl⟩
    obtain⟨hg1,hg2,hg3⟩:=hp_G
    by_cases he:e<s.size
    ·have f3:decide ((e:Int)<s.size)=true:=Gqb (by omega)
     by_cases hn:byteAt s e≠0
     ·have f4:decide (byteAt s (e:Int).toNat≠0)=true:=Gqb hn
      refine Wz [50,5,69,137,3,81,9,15,124,22,35,127] ?_
      refine⟨_,(by omega),_,⟨e+1,J,⟨by omega,by omega,upN hg3 hn⟩,J⟩,Gs [0]⟩
     ·have hn:=Classical.not_not.1 hn
      have f4:decide (byteAt s (e:Int).toNat≠0)=false:=Gqa (fun q=>q hn)
      have hie:i<e:=by
       rcases Gqp i e with h6 | h6
       ·exact h6
       ·exact absurd hn (by have:e=q:=(by omega); rw[this]; exact (fun _=>hz) (by omega))
      have hst:=Z6 hd1 hg1 hg2 hie hd3 (fun _=>hz) hg3 (fun _=>hn)
      have hl1:=Zd ((q-i:Nat):Int)
      have hl2:=Vi (s.extract q e)
      have hl3:(s.extract q e).size=e-q:=by rw[Gxe]; omega
      have hl4:=Ys (encVar ((q-i:Nat):Int))
      have hl5:=Z4 (s.extract q e)
      have hl6:(packText (s.extract q e)).data.toList.length=(packText (s.extract q e)).size:=by simp
      have ee:(q:Int)-i=((q-i:Nat):Int):=by omega
      have hce:=Xs ((q-i:Nat):Int)
      have hct:=Xu (s.extract q e) (by omega)
      have hst2:(acc++encVar ((q-i:Nat):Int)++(packText (s.extract q e)).data.toList)++packZ (s.data.toList.drop e)=packZ s.data.toList:=by rw[←hp1,hst]; simp only[Gqn]
      have hl1':=hl1
      rw[←ee] at hce hl1 hl4
      have hq1:(bE (bs (encVar ((q:Int)-i))).data.toList).length=(encVar ((q:Int)-i)).length:=by rw[Ym,Yr]
      have hq2:(bE (encVar ((q:Int)-i))).length=(encVar ((q:Int)-i)).length:=Ym _
      refine Wz [50,5,69,139,3,198,9,61,37,0,71] ?_;refine zx (Qj J J (hce) J) J ?_;refine Wz [221,11,22,144,0,200] ?_;refine zx (Qj J J (hct) J) J ?_
      refine X4 J J J J J J J (by simp only[Gqe]; omega) (by simp only[Gqe]; omega) ?_;refine z1 J ?_
      refine Wz [74] ?_
      refine⟨_,(by omega),_,⟨e,acc++encVar ((q-i:Nat):Int)++(packText (s.extract q e)).data.toList,J,⟨hst2,hg2,by simp only[Gqe]; omega⟩,J⟩,(by rw[Yr,Yl,Yl,ee]; exact Gs [0])⟩
    ·have f3:decide ((e:Int)<s.size)=false:=Gqa (by omega)
     have hst:=Z6 hd1 hg1 hg2 (by omega) hd3 (fun _=>hz) hg3 (fun h6=>absurd h6 he)
     have hl1:=Zd ((q-i:Nat):Int)
     have hl2:=Vi (s.extract q e)
     have hl3:(s.extract q e).size=e-q:=by rw[Gxe]; omega
     have hl4:=Ys (encVar ((q-i:Nat):Int))
     have hl5:=Z4 (s.extract q e)
     have hl6:(packText (s.extract q e)).data.toList.length=(packText (s.extract q e)).size:=by simp
     have ee:(q:Int)-i=((q-i:Nat):Int):=by omega
     have hce:=Xs ((q-i:Nat):Int)
     have hct:=Xu (s.extract q e) (by omega)
     have hst2:(acc++encVar ((q-i:Nat):Int)++(packText (s.extract q e)).data.toList)++packZ (s.data.toList.drop e)=packZ s.data.toList:=by rw[←hp1,hst]; simp only[Gqn]
     have hl1':=hl1
     rw[←ee] at hce hl1 hl4
     have hq1:(bE (bs (encVar ((q:Int)-i))).data.toList).length=(encVar ((q:Int)-i)).length:=by rw[Ym,Yr]
     have hq2:(bE (encVar ((q:Int)-i))).length=(encVar ((q:Int)-i)).length:=Ym _
     refine Wz [50,5,20,7,61,37,0,71] ?_;refine zx (Qj J J (hce) J) J ?_;refine Wz [221,11,22,144,0,200] ?_;refine zx (Qj J J (hct) J) J ?_
     refine X4 J J J J J J J (by simp only[Gqe]; omega) (by simp only[Gqe]; omega) ?_;refine z1 J ?_
     refine Wz [74] ?_
     refine⟨_,(by omega),_,⟨e,acc++encVar ((q-i:Nat):Int)++(packText (s.extract q e)).data.toList,J,⟨hst2,hg2,by simp only[Gqe]; omega⟩,J⟩,(by rw[Yr,Yl,Yl,ee]; exact Gs [0])⟩
  ·have f1:decide ((q:Int)<s.size)=false:=Gqa (by omega)
   refine Wz [50,5,20,7,61,10,23,33] ?_;refine Xi (fun m__ st=>∃ (e:Nat),s.size-e=m__∧(q≤e∧e≤s.size∧(∀ j,q≤j→j<e→byteAt s j≠0))∧st=(⟨_,[(0,S s),(3,.o (.c (.ref 0))),(4,I e),(5,I i),(6,I q)],[.row 1 (bE acc)]⟩:St)) _ ⟨_,⟨q,J,⟨Gqf _,hd2,fun j h1 h2=>by omega⟩,J⟩,Gs [0]⟩ ?_
   rintro m_G _ ⟨e,hk_G,hp_G,rfl⟩
   obtain⟨hg1,hg2,hg3⟩:=hp_G
   by_cases he:e<s.size
   ·have f3:decide ((e:Int)<s.size)=true:=Gqb (by omega)
    by_cases hn:byteAt s e≠0
    ·have f4:decide (byteAt s (e:Int).toNat≠0)=true:=Gqb hn
     refine Wz [50,5,69,137,3,81,9,15,124,22,35,127] ?_
     refine⟨_,(by omega),_,⟨e+1,J,⟨by omega,by omega,upN hg3 hn⟩,J⟩,Gs [0]⟩
    ·have hn:=Classical.not_not.1 hn
     have f4:decide (byteAt s (e:Int).toNat≠0)=false:=Gqa (fun q=>q hn)
     have hie:i<e:=by
      rcases Gqp i e with h6 | h6
      ·exact h6
      ·exact absurd hn (by have:e=q:=(by omega); rw[this]; exact (fun h6=>absurd h6 hq) (by omega))
     have hst:=Z6 hd1 hg1 hg2 hie hd3 (fun h6=>absurd h6 hq) hg3 (fun _=>hn)
     have hl1:=Zd ((q-i:Nat):Int)
     have hl2:=Vi (s.extract q e)
     have hl3:(s.extract q e).size=e-q:=by rw[Gxe]; omega
     have hl4:=Ys (encVar ((q-i:Nat):Int))
     have hl5:=Z4 (s.extract q e)
     have hl6:(packText (s.extract q e)).data.toList.length=(packText (s.extract q e)).size:=by simp
     have ee:(q:Int)-i=((q-i:Nat):Int):=by omega
     have hce:=Xs ((q-i:Nat):Int)
     have hct:=Xu (s.extract q e) (by omega)
     have hst2:(acc++encVar ((q-i:Nat):Int)++(packText (s.extract q e)).data.toList)++packZ (s.data.toList.drop e)=packZ s.data.toList:=by rw[←hp1,hst]; simp only[Gqn]
     have hl1':=hl1
     rw[←ee] at hce hl1 hl4
     have hq1:(bE (bs (encVar ((q:Int)-i))).data.toList).length=(encVar ((q:Int)-i)).length:=by rw[Ym,Yr]
     have hq2:(bE (encVar ((q:Int)-i))).length=(encVar ((q:Int)-i)).length:=Ym _
     refine Wz [50,5,69,139,3,198,9,61,37,0,71] ?_;refine zx (Qj J J (hce) J) J ?_;refine Wz [221,11,22,144,0,200] ?_;refine zx (Qj J J (hct) J) J ?_
     refine X4 J J J J J J J (by simp only[Gqe]; omega) (by simp only[Gqe]; omega) ?_;refine z1 J ?_
     refine Wz [74] ?_
     refine⟨_,(by omega),_,⟨e,acc++encVar ((q-i:Nat):Int)++(packText (s.extract q e)).data.toList,J,⟨hst2,hg2,by simp only[Gqe]; omega⟩,J⟩,(by rw[Yr,Yl,Yl,ee]; exact Gs [0])⟩
   ·have f3:decide ((e:Int)<s.size)=false:=Gqa (by omega)
    have hst:=Z6 hd1 hg1 hg2 (by omega) hd3 (fun h6=>absurd h6 hq) hg3 (fun h6=>absurd h6 he)
    have hl1:=Zd ((q-i:Nat):Int)
    have hl2:=Vi (s.extract q e)
    have hl3:(s.extract q e).size=e-q:=by rw[Gxe]; omega
    have hl4:=Ys (encVar ((q-i:Nat):Int))
    have hl5:=Z4 (s.extract q e)
    have hl6:(packText (s.extract q e)).data.toList.length=(packText (s.extract q e)).size:=by simp
    have ee:(q:Int)-i=((q-i:Nat):Int):=by omega
    have hce:=Xs ((q-i:Nat):Int)
    have hct:=Xu (s.extract q e) (by omega)
    have hst2:(acc++encVar ((q-i:Nat):Int)++(packText (s.extract q e)).data.toList)++packZ (s.data.toList.drop e)=packZ s.data.toList:=by rw[←hp1,hst]; simp only[Gqn]
    have hl1':=hl1
    rw[←ee] at hce hl1 hl4
    have hq1:(bE (bs (encVar ((q:Int)-i))).data.toList).length=(encVar ((q:Int)-i)).length:=by rw[Ym,Yr]
    have hq2:(bE (encVar ((q:Int)-i))).length=(encVar ((q:Int)-i)).length:=Ym _
    refine Wz [50,5,20,7,61,37,0,71] ?_;refine zx (Qj J J (hce) J) J ?_;refine Wz [221,11,22,144,0,200] ?_;refine zx (Qj J J (hct) J) J ?_
    refine X4 J J J J J J J (by simp only[Gqe]; omega) (by simp only[Gqe]; omega) ?_;refine z1 J ?_
    refine Wz [74] ?_
    refine⟨_,(by omega),_,⟨e,acc++encVar ((q-i:Nat):Int)++(packText (s.extract q e)).data.toList,J,⟨hst2,hg2,by simp only[Gqe]; omega⟩,J⟩,(by rw[Yr,Yl,Yl,ee]; exact Gs [0])⟩
 ·have h5:i=s.size:=by have:=Gqj h5; omega
  have e:s.data.toList.length=s.size:=by simp
  refine Wz [40,10,194,19] ?_
  exact Gq J (Gr [] J J (S_eq (congrArg bs (by rw[←hp1,h5,List.drop_eq_nil_of_le (by omega),packZ_nil,Gxg]))))
theorem S_PackZeros (s:ByteArray) (hs:s.size≤1099511627775):Con Tryz.prog 249 [] [astr s] [] (S (bs (packZ s.data.toList))):=by
 refine Con.of Tryz.func249 J Tryz.ntmps249 J (fun E => ?_)
 refine Wz [36,36,12,63] ?_;refine Xi (fun m__ st=>∃ (i:Nat) (acc:List UInt8),s.size-i=m__∧(acc++packZ (s.data.toList.drop i)=packZ s.data.toList∧i≤s.size∧acc.length≤14*i)∧st=(⟨_,[(0,S s),(3,S (bs acc)),(4,I i)],[]⟩:St)) _ ⟨_,⟨0,[],J,by simp,J⟩,Gs []⟩ ?_
 rintro m_A _ ⟨i,acc,hk_A,hp_A,rfl⟩
 obtain⟨hp1,hp2,hp3⟩:=hp_A
 refine Wz [50,119] ?_
 refine Xb J (fun h5 => ?_) (fun h5 => ?_)
 ·have h5:i<s.size:=by have:=Gqi h5; omega
  have hb:=Ym acc
  have hb1:=Ys acc
  refine Wz [124,10,23,33] ?_;refine Xi (fun m__ st=>∃ (q:Nat),s.size-q=m__∧(i≤q∧q≤s.size∧(∀ j,i≤j→j<q→byteAt s j=0))∧st=(⟨_,[(0,S s),(3,S (bs acc)),(4,I q),(5,I i)],[]⟩:St)) _ ⟨_,⟨i,J,⟨Gqf _,by omega,fun q h1 h2=>by omega⟩,J⟩,Gs []⟩ ?_
  rintro m_D _ ⟨q,hk_D,hp_D,rfl⟩
  obtain⟨hd1,hd2,hd3⟩:=hp_D
  by_cases hq:q<s.size
  ·have f1:decide ((q:Int)<s.size)=true:=Gqb (by omega)
   by_cases hz:byteAt s q=0
   ·have f2:decide (byteAt s (q:Int).toNat=0)=true:=Gqb hz
    refine Wz [50,5,69,139,3,236,9,15,124,22,35,127] ?_
    refine⟨_,(by omega),_,⟨q+1,J,⟨by omega,by omega,upZ hd3 hz⟩,J⟩,Gs []⟩
   ·have f2:decide (byteAt s (q:Int).toNat=0)=false:=Gqa hz
    refine Wz [50,5,69,137,3,13,9,61,37,71,32,23,33] ?_;refine Xi (fun m__ st=>∃ (e:Nat),s.size-e=m__∧(q≤e∧e≤s.size∧(∀ j,q≤j→j<e→byteAt s j≠0))∧st=(⟨_,[(0,S s),(3,S (bs acc)),(4,I e),(5,I q),(6,I ((q:Int)-i))],[]⟩:St)) _ ⟨_,⟨q,J,⟨Gqf _,hd2,fun j h1 h2=>by omega⟩,J⟩,Gs []⟩ ?_
    rintro m_G _ ⟨e,hk_G,hp_G,rfl⟩
    obtain⟨hg1,hg2,hg3⟩:=hp_G
    by_cases he:e<s.size
    ·have f3:decide ((e:Int)<s.size)=true:=Gqb (by omega)
     by_cases hn:byteAt s e≠0
     ·have f4:decide (byteAt s (e:Int).toNat≠0)=true:=Gqb hn
      refine Wz [50,5,69,137,3,81,9,15,124,22,35,127] ?_
      refine⟨_,(by omega),_,⟨e+1,J,⟨by omega,by omega,upN hg3 hn⟩,J⟩,Gs []⟩
     ·have hn:=Classical.not_not.1 hn
      have f4:decide (byteAt s (e:Int).toNat≠0)=false:=Gqa (fun q=>q hn)
      have hie:i<e:=by
       rcases Gqp i e with h6 | h6
       ·exact h6
       ·exact absurd hn (by have:e=q:=(by omega); rw[this]; exact (fun _=>hz) (by omega))
      have hst:=Z6 hd1 hg1 hg2 hie hd3 (fun _=>hz) hg3 (fun _=>hn)
      have hl1:=Zd ((q-i:Nat):Int)
      have hl2:=Vi (s.extract q e)
      have hl3:(s.extract q e).size=e-q:=by rw[Gxe]; omega
      have hl4:=Ys (encVar ((q-i:Nat):Int))
      have hl5:=Z4 (s.extract q e)
      have hl6:(packText (s.extract q e)).data.toList.length=(packText (s.extract q e)).size:=by simp
      have ee:(q:Int)-i=((q-i:Nat):Int):=by omega
      have hce:=X8 ((q-i:Nat):Int)
      have hct:=S_PackText (s.extract q e) (by omega)
      have hst2:(acc++encVar ((q-i:Nat):Int)++(packText (s.extract q e)).data.toList)++packZ (s.data.toList.drop e)=packZ s.data.toList:=by rw[←hp1,hst]; simp only[Gqn]
      have hst3:bs acc++bs (encVar ((q:Int)-i))++packText (s.extract q e)=bs (acc++encVar ((q-i:Nat):Int)++(packText (s.extract q e)).data.toList):=by rw[ee,←Yq,←Yq,bs_of (packText (s.extract q e))]
      have hl1':=hl1
      rw[←ee] at hce hl1 hl4
      have hq1:(bE (bs (encVar ((q:Int)-i))).data.toList).length=(encVar ((q:Int)-i)).length:=by rw[Ym,Yr]
      have hq2:(bE (encVar ((q:Int)-i))).length=(encVar ((q:Int)-i)).length:=Ym _
      refine Wz [50,5,69,139,3,198,9,61,286,29] ?_;refine Vx (Qj J J (hce) J) J ?_;refine Wz [264,29,4,234] ?_;refine Vx (Qj J J (hct) J) J ?_
      refine Vx (q_cat J J J J (by simp only[Ys,Yy,Gqt,List.length_nil,Gqe]; omega)) J ?_
      refine Wz [150,17,74] ?_
      refine⟨_,(by omega),(fun (i:Nat) (acc:List UInt8)=>(⟨_,[(0,S s),(3,S (bs acc)),(4,I i)],[]⟩:St)) (e) (acc++encVar ((q-i:Nat):Int)++(packText (s.extract q e)).data.toList),⟨e,acc++encVar ((q-i:Nat):Int)++(packText (s.extract q e)).data.toList,J,⟨hst2,hg2,by simp only[Gqe]; omega⟩,J⟩,Gp [] J (.c J (.cons (S_eq hst3) (.c J (.nil))))⟩
    ·have f3:decide ((e:Int)<s.size)=false:=Gqa (by omega)
     have hst:=Z6 hd1 hg1 hg2 (by omega) hd3 (fun _=>hz) hg3 (fun h6=>absurd h6 he)
     have hl1:=Zd ((q-i:Nat):Int)
     have hl2:=Vi (s.extract q e)
     have hl3:(s.extract q e).size=e-q:=by rw[Gxe]; omega
     have hl4:=Ys (encVar ((q-i:Nat):Int))
     have hl5:=Z4 (s.extract q e)
     have hl6:(packText (s.extract q e)).data.toList.length=(packText (s.extract q e)).size:=by simp
     have ee:(q:Int)-i=((q-i:Nat):Int):=by omega
     have hce:=X8 ((q-i:Nat):Int)
     have hct:=S_PackText (s.extract q e) (by omega)
     have hst2:(acc++encVar ((q-i:Nat):Int)++(packText (s.extract q e)).data.toList)++packZ (s.data.toList.drop e)=packZ s.data.toList:=by rw[←hp1,hst]; simp only[Gqn]
     have hst3:bs acc++bs (encVar ((q:Int)-i))++packText (s.extract q e)=bs (acc++encVar ((q-i:Nat):Int)++(packText (s.extract q e)).data.toList):=by rw[ee,←Yq,←Yq,bs_of (packText (s.extract q e))]
     have hl1':=hl1
     rw[←ee] at hce hl1 hl4
     have hq1:(bE (bs (encVar ((q:Int)-i))).data.toList).length=(encVar ((q:Int)-i)).length:=by rw[Ym,Yr]
     have hq2:(bE (encVar ((q:Int)-i))).length=(encVar ((q:Int)-i)).length:=Ym _
     refine Wz [50,5,20,7,61,286,29] ?_;refine Vx (Qj J J (hce) J) J ?_;refine Wz [264,29,4,234] ?_;refine Vx (Qj J J (hct) J) J ?_
     refine Vx (q_cat J J J J (by simp only[Ys,Yy,Gqt,List.length_nil,Gqe]; omega)) J ?_
     refine Wz [150,17,74] ?_
     refine⟨_,(by omega),(fun (i:Nat) (acc:List UInt8)=>(⟨_,[(0,S s),(3,S (bs acc)),(4,I i)],[]⟩:St)) (e) (acc++encVar ((q-i:Nat):Int)++(packText (s.extract q e)).data.toList),⟨e,acc++encVar ((q-i:Nat):Int)++(packText (s.extract q e)).data.toList,J,⟨hst2,hg2,by simp only[Gqe]; omega⟩,J⟩,Gp [] J (.c J (.cons (S_eq hst3) (.c J (.nil))))⟩
  ·have f1:decide ((q:Int)<s.size)=false:=Gqa (by omega)
   refine Wz [50,5,20,7,61,37,71,32,23,33] ?_;refine Xi (fun m__ st=>∃ (e:Nat),s.size-e=m__∧(q≤e∧e≤s.size∧(∀ j,q≤j→j<e→byteAt s j≠0))∧st=(⟨_,[(0,S s),(3,S (bs acc)),(4,I e),(5,I q),(6,I ((q:Int)-i))],[]⟩:St)) _ ⟨_,⟨q,J,⟨Gqf _,hd2,fun j h1 h2=>by omega⟩,J⟩,Gs []⟩ ?_
   rintro m_G _ ⟨e,hk_G,hp_G,rfl⟩
   obtain⟨hg1,hg2,hg3⟩:=hp_G
   by_cases he:e<s.size
   ·have f3:decide ((e:Int)<s.size)=true:=Gqb (by omega)
    by_cases hn:byteAt s e≠0
    ·have f4:decide (byteAt s (e:Int).toNat≠0)=true:=Gqb hn
     refine Wz [50,5,69,137,3,81,9,15,124,22,35,127] ?_
     refine⟨_,(by omega),_,⟨e+1,J,⟨by omega,by omega,upN hg3 hn⟩,J⟩,Gs []⟩
    ·have hn:=Classical.not_not.1 hn
     have f4:decide (byteAt s (e:Int).toNat≠0)=false:=Gqa (fun q=>q hn)
     have hie:i<e:=by
      rcases Gqp i e with h6 | h6
      ·exact h6
      ·exact absurd hn (by have:e=q:=(by omega); rw[this]; exact (fun h6=>absurd h6 hq) (by omega))
     have hst:=Z6 hd1 hg1 hg2 hie hd3 (fun h6=>absurd h6 hq) hg3 (fun _=>hn)
     have hl1:=Zd ((q-i:Nat):Int)
     have hl2:=Vi (s.extract q e)
     have hl3:(s.extract q e).size=e-q:=by rw[Gxe]; omega
     have hl4:=Ys (encVar ((q-i:Nat):Int))
     have hl5:=Z4 (s.extract q e)
     have hl6:(packText (s.extract q e)).data.toList.length=(packText (s.extract q e)).size:=by simp
     have ee:(q:Int)-i=((q-i:Nat):Int):=by omega
     have hce:=X8 ((q-i:Nat):Int)
     have hct:=S_PackText (s.extract q e) (by omega)
     have hst2:(acc++encVar ((q-i:Nat):Int)++(packText (s.extract q e)).data.toList)++packZ (s.data.toList.drop e)=packZ s.data.toList:=by rw[←hp1,hst]; simp only[Gqn]
     have hst3:bs acc++bs (encVar ((q:Int)-i))++packText (s.extract q e)=bs (acc++encVar ((q-i:Nat):Int)++(packText (s.extract q e)).data.toList):=by rw[ee,←Yq,←Yq,bs_of (packText (s.extract q e))]
     have hl1':=hl1
     rw[←ee] at hce hl1 hl4
     have hq1:(bE (bs (encVar ((q:Int)-i))).data.toList).length=(encVar ((q:Int)-i)).length:=by rw[Ym,Yr]
     have hq2:(bE (encVar ((q:Int)-i))).length=(encVar ((q:Int)-i)).length:=Ym _
     refine Wz [50,5,69,139,3,198,9,61,286,29] ?_;refine Vx (Qj J J (hce) J) J ?_;refine Wz [264,29,4,234] ?_;refine Vx (Qj J J (hct) J) J ?_;refine Wz [264,150,17,74] ?_
     refine⟨_,(by omega),(fun (i:Nat) (acc:List UInt8)=>(⟨_,[(0,S s),(3,S (bs acc)),(4,I i)],[]⟩:St)) (e) (acc++encVar ((q-i:Nat):Int)++(packText (s.extract q e)).data.toList),⟨e,acc++encVar ((q-i:Nat):Int)++(packText (s.extract q e)).data.toList,J,⟨hst2,hg2,by simp only[Gqe]; omega⟩,J⟩,Gp [] J (.c J (.cons (S_eq hst3) (.c J (.nil))))⟩
   ·have f3:decide ((e:Int)<s.size)=false:=Gqa (by omega)
    have hst:=Z6 hd1 hg1 hg2 (by omega) hd3 (fun h6=>absurd h6 hq) hg3 (fun h6=>absurd h6 he)
    have hl1:=Zd ((q-i:Nat):Int)
    have hl2:=Vi (s.extract q e)
    have hl3:(s.extract q e).size=e-q:=by rw[Gxe]; omega
    have hl4:=Ys (encVar ((q-i:Nat):Int))
    have hl5:=Z4 (s.extract q e)
    have hl6:(packText (s.extract q e)).data.toList.length=(packText (s.extract q e)).size:=by simp
    have ee:(q:Int)-i=((q-i:Nat):Int):=by omega
    have hce:=X8 ((q-i:Nat):Int)
    have hct:=S_PackText (s.extract q e) (by omega)
    have hst2:(acc++encVar ((q-i:Nat):Int)++(packText (s.extract q e)).data.toList)++packZ (s.data.toList.drop e)=packZ s.data.toList:=by rw[←hp1,hst]; simp only[Gqn]
    have hst3:bs acc++bs (encVar ((q:Int)-i))++packText (s.extract q e)=bs (acc++encVar ((q-i:Nat):Int)++(packText (s.extract q e)).data.toList):=by rw[ee,←Yq,←Yq,bs_of (packText (s.extract q e))]
    have hl1':=hl1
    rw[←ee] at hce hl1 hl4
    have hq1:(bE (bs (encVar ((q:Int)-i))).data.toList).length=(encVar ((q:Int)-i)).length:=by rw[Ym,Yr]
    have hq2:(bE (encVar ((q:Int)-i))).length=(encVar ((q:Int)-i)).length:=Ym _
    refine Wz [50,5,20,7,61,286,29] ?_;refine Vx (Qj J J (hce) J) J ?_;refine Wz [264,29,4,234] ?_;refine Vx (Qj J J (hct) J) J ?_
    refine Vx (q_cat J J J J (by simp only[Ys,Yy,Gqt,List.length_nil,Gqe]; omega)) J ?_
    refine Wz [150,17,74] ?_
    refine⟨_,(by omega),(fun (i:Nat) (acc:List UInt8)=>(⟨_,[(0,S s),(3,S (bs acc)),(4,I i)],[]⟩:St)) (e) (acc++encVar ((q-i:Nat):Int)++(packText (s.extract q e)).data.toList),⟨e,acc++encVar ((q-i:Nat):Int)++(packText (s.extract q e)).data.toList,J,⟨hst2,hg2,by simp only[Gqe]; omega⟩,J⟩,Gp [] J (.c J (.cons (S_eq hst3) (.c J (.nil))))⟩
 ·have h5:i=s.size:=by have:=Gqj h5; omega
  have e:s.data.toList.length=s.size:=by simp
  refine Wz [40,10,19] ?_
  exact Gq J (Gr [] J J (S_eq (congrArg bs (by rw[←hp1,h5,List.drop_eq_nil_of_le (by omega),packZ_nil,Gxg]))))
end
section
open Go.RowKit

def xorB (a:ByteArray) (i:Nat) (x:UInt8):UInt8:=if i<a.size then UInt8.ofNat (x.toNat^^^(byteAt a i).toNat) else x
def xorL (a b:ByteArray):List UInt8:=(List.range b.size).map fun i=>xorB a i (b.data.toList.getD i 0)
def xorText (a b:ByteArray):ByteArray:=bs (xorL a b)
theorem Vv (a b:ByteArray):(xorL a b).length=b.data.toList.length:=by simp[xorL]
theorem xorL_at {a b:ByteArray} {i:Nat} (h:i<(xorL a b).length) (h':i<b.data.toList.length):(xorL a b)[i]=xorB a i b.data.toList[i]:=by
 have h2:b.data.toList.getD i 0=b.data.toList[i]:=by rw[Gqc,Gqd h']; rfl
 simp only[xorL,List.getElem_map,List.getElem_range,h2]
theorem mk_nextL {α:Type} {ms xs:List α} (hl:ms.length=xs.length) {i:Nat} (h:i<xs.length):ms.take (i+1)++xs.drop (i+1)=(ms.take i++xs.drop i).set i (ms[i]'(by omega)):=by
 have h2:i<ms.length:=by omega
 have hi:(ms.take i).length=i:=by simp; omega
 rw[Gxd h2,List.set_append_right _ _ (by omega)]
 have:i-(ms.take i).length=0:=by omega
 rw[this,Gza h,List.set_cons_zero,Gqn]
 rfl
theorem bE_set (l:List UInt8) (i:Nat) (x:UInt8):bE (l.set i x)=(bE l).set i [.v (.int .u8 (x.toNat:Int))]:=by simp[bE,List.map_set]
theorem bE_at {l:List UInt8} {i:Nat} (h:i<l.length):(bE l)[(i:Int).toNat]? = some [.v (.int .u8 ((l[i]).toNat:Int))]:=by
 rw[Int.toNat_natCast,bE,Gqh,Gqd h]
 rfl
theorem xor_end {a b:ByteArray} {i:Nat} (hi:i≤b.data.toList.length) (h:b.data.toList.length≤i∨a.size≤i):(xorL a b).take i++b.data.toList.drop i=xorL a b:=by
 have hl:=Vv a b
 have hml:=mk_len hl hi
 apply List.ext_getElem?
 intro j
 by_cases hj:j<i
 ·by_cases hjl:j<(xorL a b).length
  ·rw[Gqz (by simp; omega),Gxi,if_pos hj]
  ·rw[List.getElem?_eq_none (by omega),List.getElem?_eq_none (by omega)]
 ·by_cases hjl:j<(xorL a b).length
  ·have ha:a.size≤i:=by omega
   have hti:((xorL a b).take i).length=i:=by simp; omega
   rw[Gq4 (by omega),hti,Gq5,show i+(j-i)=j by omega,Gqd (by omega),Gqd hjl,xorL_at hjl (by omega),xorB,if_neg (by omega)]
  ·rw[List.getElem?_eq_none (by omega),List.getElem?_eq_none (by omega)]
theorem I_XorText (a b:ByteArray) (ha:a.size≤1099511627776) (hb:b.size≤1099511627776):Con Tryz.prog 132 [] [astr a,astr b] [] (S (xorText a b)):=by
 have hl:=Vv a b
 have hbl:b.data.toList.length=b.size:=by simp
 refine Con.of Tryz.func132 J Tryz.ntmps132 J (fun E => ?_)
 refine Wz [36,10,288,23,63] ?_;refine Xi (fun m__ st=>∃ (i:Nat),b.size-i=m__∧(i≤b.size∧i≤a.size)∧st=(⟨_,[(0,S a),(5,.o (.c (.ref 0))),(6,I i)],[.row 1 (bE ((xorL a b).take i++b.data.toList.drop i))]⟩:St)) _ ⟨_,⟨0,J,⟨Gq2 _,Gq2 _⟩,J⟩,Gs [0]⟩ ?_
 rintro m_A _ ⟨i,hk_A,hp_A,rfl⟩
 have hrow:(bE ((xorL a b).take i++b.data.toList.drop i)).length=b.size:=by rw[Ym,mk_len hl (by omega)]; exact hbl
 refine Wz [24,98,100,0,154,219,268] ?_;refine zx (Qt.grdT J J J (.hit (.hit (.hit .stop))) (fun hgrd=>Ku J J J J)) J ?_;refine Wz [84,2] ?_
 refine Xb J (fun h => ?_) (fun h => ?_)
 ·simp only[Gqg,decide_eq_true_eq] at h
  have hib:i<b.data.toList.length:=by omega
  have hil:i<((xorL a b).take i++b.data.toList.drop i).length:=by rw[mk_len hl (by omega)]; exact hib
  have hat:=bE_at hil
  rw[mk_at hl hib] at hat
  obtain⟨c,hc⟩:∃ c:UInt8,c=b.data.toList[i]:=⟨_,rfl⟩
  rw[←hc] at hat
  have hc2:=c.toNat_lt
  have hby:=Yu a i
  have hy:(UInt8.ofNat (c.toNat^^^(byteAt a i).toNat)).toNat=c.toNat^^^(byteAt a i).toNat:=by
   have:c.toNat^^^(byteAt a i).toNat<2 ^ 8:=Nat.xor_lt_two_pow (by omega) (by omega)
   rw[UInt8.toNat_ofNat']
   exact Nat.mod_eq_of_lt this
  have hby2:byteAt a (i:Int).toNat=byteAt a i:=rfl
  have hend:bE ((xorL a b).take (i+1)++b.data.toList.drop (i+1))=(bE ((xorL a b).take i++b.data.toList.drop i)).set (i:Int).toNat (splice [.v (.int .u8 (c.toNat:Int))] 0 [.v (.int .u8 (((c.toNat:Int).toNat^^^(byteAt a i).toNat:Nat):Int))]):=by
   rw[mk_nextL hl hib,bE_set,xorL_at (by omega) hib,xorB,if_pos (by omega),←hc,hy]
   rfl
  refine Wz [26] ?_;refine Xh [[],[],[0,1],[0,1,2],[],[],[4,5],(u9 7),(u9 8),(u9 9)] [[],[],[21,22],[21,22,23],[],[],[25,26],[21,22,23,24,25,26,27],[21,22,23,24,25,26,27,28],[21,22,23,24,25,26,27,28,29]] [[22,25,26,27],[21,25,26,27],[25,26,27],[25,26,27],[21,22,23,24,26],[21,22,23,24,25],[21,22,23,24],[],[],[]] J ?_;refine Wz [29,79,109,29] ?_;refine Vx (Kg J J J J (by assumption) (by omega)) J (Vx (q_bxor8 J J J J (by omega)) J ?_);refine Wz [79,17,173,74,43] ?_
  refine⟨_,(by omega),(fun (i:Nat)=>(⟨_,[(0,S a),(5,.o (.c (.ref 0))),(6,I i)],[.row 1 (bE ((xorL a b).take i++b.data.toList.drop i))]⟩:St)) (i+1),⟨i+1,J,⟨by omega,by omega⟩,J⟩,Yg [0] (by decide) J (K7 hend) (.c J (.c J (.c J (.nil))))⟩
 ·simp only[Gxu,decide_eq_false_iff_not] at h
  have hend:=xor_end (a:=a) (b:=b) (i:=i) (by omega) (by omega)
  rw[hend]
  refine Wz [40,10,194,19] ?_
  exact Gq J (Gr [] J J J)
theorem S_XorText (a b:ByteArray) (ha:a.size≤1099511627776) (hb:b.size≤1099511627776):Con Tryz.prog 250 [] [astr a,astr b] [] (S (xorText a b)):=by
 have hl:=Vv a b
 have hbl:b.data.toList.length=b.size:=by simp
 refine Con.of Tryz.func250 J Tryz.ntmps250 J (fun E => ?_)
 refine Wz [36,10,288,23,63] ?_;refine Xi (fun m__ st=>∃ (i:Nat),b.size-i=m__∧(i≤b.size∧i≤a.size)∧st=(⟨_,[(0,S a),(5,.o (.c (.ref 0))),(6,I i)],[.row 1 (bE ((xorL a b).take i++b.data.toList.drop i))]⟩:St)) _ ⟨_,⟨0,J,⟨Gq2 _,Gq2 _⟩,J⟩,Gs [0]⟩ ?_
 rintro m_A _ ⟨i,hk_A,hp_A,rfl⟩
 have hrow:(bE ((xorL a b).take i++b.data.toList.drop i)).length=b.size:=by rw[Ym,mk_len hl (by omega)]; exact hbl
 refine Wz [24,98,100,0,154,219,268] ?_;refine zx (Qt.grdT J J J (.hit (.hit (.hit .stop))) (fun hgrd=>Ku J J J J)) J ?_;refine Wz [84,2] ?_
 refine Xb J (fun h => ?_) (fun h => ?_)
 ·simp only[Gqg,decide_eq_true_eq] at h
  have hib:i<b.data.toList.length:=by omega
  have hil:i<((xorL a b).take i++b.data.toList.drop i).length:=by rw[mk_len hl (by omega)]; exact hib
  have hat:=bE_at hil
  rw[mk_at hl hib] at hat
  obtain⟨c,hc⟩:∃ c:UInt8,c=b.data.toList[i]:=⟨_,rfl⟩
  rw[←hc] at hat
  have hc2:=c.toNat_lt
  have hby:=Yu a i
  have hy:(UInt8.ofNat (c.toNat^^^(byteAt a i).toNat)).toNat=c.toNat^^^(byteAt a i).toNat:=by
   have:c.toNat^^^(byteAt a i).toNat<2 ^ 8:=Nat.xor_lt_two_pow (by omega) (by omega)
   rw[UInt8.toNat_ofNat']
   exact Nat.mod_eq_of_lt this
  have hby2:byteAt a (i:Int).toNat=byteAt a i:=rfl
  have hend:bE ((xorL a b).take (i+1)++b.data.toList.drop (i+1))=(bE ((xorL a b).take i++b.data.toList.drop i)).set (i:Int).toNat (splice [.v (.int .u8 (c.toNat:Int))] 0 [.v (.int .u8 (((c.toNat:Int).toNat^^^(byteAt a i).toNat:Nat):Int))]):=by
   rw[mk_nextL hl hib,bE_set,xorL_at (by omega) hib,xorB,if_pos (by omega),←hc,hy]
   rfl
  refine Wz [26] ?_;refine Xh [[],[],[],[],[2,3],[2,3,4],[],[],[6,7],[2,3,4,5,6,7,8],(u9 10),(u9 11)] [[],[],[],[],[23,24],[23,24,25],[],[],[27,28],[23,24,25,26,27,28,29],[21,22,23,24,25,26,27,28,29,30],[21,22,23,24,25,26,27,28,29,30,31]] [[22,23,24,25,26,27,28,29,30],[21,23,24,25,26,27,28,29,30],[21,22,24,27,28,29],[21,22,23,27,28,29],[21,22,27,28,29],[21,22,27,28,29],[21,22,23,24,25,26,28],[21,22,23,24,25,26,27],[21,22,23,24,25,26],[21,22],[],[]] J ?_;refine Wz [29,29,79,109,29] ?_;refine Vx (Kg J J J J (by assumption) (by omega)) J (Vx (q_bxor8 J J J J (by omega)) J ?_);refine Wz [79,17,173,74,43] ?_
  refine⟨_,(by omega),(fun (i:Nat)=>(⟨_,[(0,S a),(5,.o (.c (.ref 0))),(6,I i)],[.row 1 (bE ((xorL a b).take i++b.data.toList.drop i))]⟩:St)) (i+1),⟨i+1,J,⟨by omega,by omega⟩,J⟩,Yg [0] (by decide) J (K7 hend) (.c J (.c J (.c J (.nil))))⟩
 ·simp only[Gxu,decide_eq_false_iff_not] at h
  have hend:=xor_end (a:=a) (b:=b) (i:=i) (by omega) (by omega)
  rw[hend]
  refine Wz [40,10,194,19] ?_
  exact Gq J (Gr [] J J J)
end
end Go.Proofs.YtpmacgnmlmmojaaGreatDoor
