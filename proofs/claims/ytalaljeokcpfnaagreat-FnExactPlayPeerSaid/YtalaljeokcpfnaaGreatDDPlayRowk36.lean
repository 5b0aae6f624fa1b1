/-
  Rules, data and contracts of functions: part 37 of the proof.
  Conditions: those that each theorem names.
-/
import Derived.Test.YtalaljeokcpfnaaGreatDDPlayRowk35
set_option linter.unusedSimpArgs false
set_option linter.unusedVariables false
set_option maxRecDepth 8000
set_option maxHeartbeats 8000000
namespace Go.Proofs.YtalaljeokcpfnaaGreat
section
open Tryz
open Go.RowKit

theorem upZ {s:ByteArray} {i q:Nat} (h:∀ j,i≤j→j<q→byteAt s j=0) (hq:byteAt s q=0):∀ j,i≤j→j<q+1→byteAt s j=0:=fun j h1 h2=>by
 by_cases e:j=q
 ·subst e; exact hq
 ·exact h j h1 Aqa 
theorem upN {s:ByteArray} {i q:Nat} (h:∀ j,i≤j→j<q→byteAt s j≠0) (hq:byteAt s q≠0):∀ j,i≤j→j<q+1→byteAt s j≠0:=fun j h1 h2=>by
 by_cases e:j=q
 ·subst e; exact hq
 ·exact h j h1 Aqa 
theorem Ud (t:ByteArray):(packText t).data.toList.length≤t.size+6:=by
 rw[text_list,Gql]
 have:=Ze (t.size:Nat)
 have e:t.data.toList.length=t.size:=Aqd
 omega
theorem I_PackZeros (s:ByteArray) (hs:s.size≤1099511627775):Co 214 [] [astr s] [] (S (bs (packZ s.data.toList))):=by
 refine Con.o func214 ntmps214 fun E=>?_;refine Wz [23,23,23,4,34] ?_
 refine AWP.pre ?_ (W_nil 3 1 J)
 refine Xj (fun m__ st=>∃ (i:Nat) (acc:List UInt8),s.size-i=m__∧(acc++packZ (s.data.toList.drop i)=packZ s.data.toList∧i≤s.size∧acc.length≤14*i)∧st=(⟨_,[(0,S s),(3,Aqg 0),(4,I i)],[.row 1 (bE acc)]⟩:St)) _ ⟨_,⟨0,[],J,Aqd,J⟩,Yj [0] Aqb⟩ ?_
 rintro m_A _ ⟨i,acc,hk_A,hp_A,rfl⟩
 obtain⟨hp1,hp2,hp3⟩:=hp_A
 refine Wz [15,38,58] ?_
 refine Xb J (fun h5=>?_) (fun h5=>?_)
 ·have h5:i<s.size:=Bxv
  have hb:=Yt acc
  have hb1:=Yx acc
  refine Wz [42,34,11,16,34] ?_;refine Xj (fun m__ st=>∃ (q:Nat),s.size-q=m__∧(i≤q∧q≤s.size∧(∀ j,i≤j→j<q→byteAt s j=0))∧st=(⟨_,[(0,S s),(3,Aqg 0),(4,I q),(5,I i)],[.row 1 (bE acc)]⟩:St)) _ ⟨_,⟨i,J,⟨Gqi _,Aqa,fun q h1 h2=>by omega⟩,J⟩,Yj [0] Aqb⟩ ?_
  rintro m_D _ ⟨q,hk_D,hp_D,rfl⟩
  obtain⟨hd1,hd2,hd3⟩:=hp_D
  by_cases hq:q<s.size
  ·have f1:decide ((q:Int)<s.size)=true:=Gqb Aqa 
   by_cases hz:byteAt s q=0
   ·have f2:decide (byteAt s (q:Int).toNat=0)=true:=Gqb hz
    refine Wz [15,38,19,14,21,168,2,282,83,42,34,27,13,26,53,133] ?_
    refine⟨_, Aqa,_,⟨q+1,J,⟨Aqa,Aqa,upZ hd3 hz⟩,J⟩,Yj [0] Aqb⟩
   ·have f2:decide (byteAt s (q:Int).toNat=0)=false:=Gqa hz
    refine Wz [15,38,19,14,21,172,2,20,46,165,223,16,34] ?_;refine Xj (fun m__ st=>∃ (e:Nat),s.size-e=m__∧(q≤e∧e≤s.size∧(∀ j,q≤j→j<e→byteAt s j≠0))∧st=(⟨_,[(0,S s),(3,Aqg 0),(4,I e),(5,I i),(6,I q)],[.row 1 (bE acc)]⟩:St)) _ ⟨_,⟨q,J,⟨Gqi _,hd2,fun j h1 h2=>by omega⟩,J⟩,Yj [0] Aqb⟩ ?_
    rintro m_G _ ⟨e,hk_G,hp_G,rfl⟩
    obtain⟨hg1,hg2,hg3⟩:=hp_G
    by_cases he:e<s.size
    ·have f3:decide ((e:Int)<s.size)=true:=Gqb Aqa 
     by_cases hn:byteAt s e≠0
     ·have f4:decide (byteAt s (e:Int).toNat≠0)=true:=Gqb hn
      refine Wz [15,38,19,14,21,172,2,22,83,42,34,27,13,26,53,133] ?_
      refine⟨_, Aqa,_,⟨e+1,J,⟨Aqa,Aqa,upN hg3 hn⟩,J⟩,Yj [0] Aqb⟩
     ·have hn:=Classical.not_not.1 hn
      have f4:decide (byteAt s (e:Int).toNat≠0)=false:=Gqa (fun q=>q hn)
      have hie:i<e:=by
       rcases Gqr i e with h6 | h6
       ·exact h6
       ·exact absurd hn (by have:e=q:=Aqa; rw[this]; exact (fun _=>hz) Aqa)
      have hst:=Z8 hd1 hg1 hg2 hie hd3 (fun _=>hz) hg3 (fun _=>hn)
      have hl1:=Ze ((q-i:Nat):Int)
      have hl2:=Ud (s.extract q e)
      have hl3:(s.extract q e).size=e-q:=Bxl
      have hl4:=Yx (encVar ((q-i:Nat):Int))
      have hl5:=Z7 (s.extract q e)
      have hl6:(packText (s.extract q e)).data.toList.length=(packText (s.extract q e)).size:=Aqd
      have ee:(q:Int)-i=((q-i:Nat):Int):=Aqa
      have hce:=Xu ((q-i:Nat):Int)
      have hct:=I_PackText (s.extract q e) Aqa 
      have hst2:(acc++encVar ((q-i:Nat):Int)++(packText (s.extract q e)).data.toList)++packZ (s.data.toList.drop e)=packZ s.data.toList:=Bxq
      have hl1':=hl1
      rw[←ee] at hce hl1 hl4
      have hq1:(bE (bs (encVar ((q:Int)-i))).data.toList).length=(encVar ((q:Int)-i)).length:=by rw[Yt,Yw]
      have hq2:(bE (encVar ((q:Int)-i))).length=(encVar ((q:Int)-i)).length:=Yt _
      refine Wz [15,38,19,14,21,168,2,233,46,165,30,50,29] ?_;refine kc0 hce ?_;refine Wz [285,8,27,141,0,266] ?_;refine kc0 hct ?_
      refine X8 J J J J J J J Bxa Bxa ?_;refine z1 J ?_
      refine Wz [53,133] ?_
      refine⟨_, Aqa,_,⟨e,acc++encVar ((q-i:Nat):Int)++(packText (s.extract q e)).data.toList,J,⟨hst2,hg2,by simp only[Gql]; omega⟩,J⟩,Bx6⟩
    ·have f3:decide ((e:Int)<s.size)=false:=Gqa Aqa 
     have hst:=Z8 hd1 hg1 hg2 Aqa hd3 (fun _=>hz) hg3 (fun h6=>absurd h6 he)
     have hl1:=Ze ((q-i:Nat):Int)
     have hl2:=Ud (s.extract q e)
     have hl3:(s.extract q e).size=e-q:=Bxl
     have hl4:=Yx (encVar ((q-i:Nat):Int))
     have hl5:=Z7 (s.extract q e)
     have hl6:(packText (s.extract q e)).data.toList.length=(packText (s.extract q e)).size:=Aqd
     have ee:(q:Int)-i=((q-i:Nat):Int):=Aqa
     have hce:=Xu ((q-i:Nat):Int)
     have hct:=I_PackText (s.extract q e) Aqa 
     have hst2:(acc++encVar ((q-i:Nat):Int)++(packText (s.extract q e)).data.toList)++packZ (s.data.toList.drop e)=packZ s.data.toList:=Bxq
     have hl1':=hl1
     rw[←ee] at hce hl1 hl4
     have hq1:(bE (bs (encVar ((q:Int)-i))).data.toList).length=(encVar ((q:Int)-i)).length:=by rw[Yt,Yw]
     have hq2:(bE (encVar ((q:Int)-i))).length=(encVar ((q:Int)-i)).length:=Yt _
     refine Wz [15,38,19,55,5,165,30,50,29] ?_;refine kc0 hce ?_;refine Wz [285,8,27,141,0,266] ?_;refine kc0 hct ?_
     refine X8 J J J J J J J Bxa Bxa ?_;refine z1 J ?_
     refine Wz [53,133] ?_
     refine⟨_, Aqa,_,⟨e,acc++encVar ((q-i:Nat):Int)++(packText (s.extract q e)).data.toList,J,⟨hst2,hg2,by simp only[Gql]; omega⟩,J⟩,Bx6⟩
  ·have f1:decide ((q:Int)<s.size)=false:=Gqa Aqa 
   refine Wz [15,38,19,55,5,165,223,16,34] ?_;refine Xj (fun m__ st=>∃ (e:Nat),s.size-e=m__∧(q≤e∧e≤s.size∧(∀ j,q≤j→j<e→byteAt s j≠0))∧st=(⟨_,[(0,S s),(3,Aqg 0),(4,I e),(5,I i),(6,I q)],[.row 1 (bE acc)]⟩:St)) _ ⟨_,⟨q,J,⟨Gqi _,hd2,fun j h1 h2=>by omega⟩,J⟩,Yj [0] Aqb⟩ ?_
   rintro m_G _ ⟨e,hk_G,hp_G,rfl⟩
   obtain⟨hg1,hg2,hg3⟩:=hp_G
   by_cases he:e<s.size
   ·have f3:decide ((e:Int)<s.size)=true:=Gqb Aqa 
    by_cases hn:byteAt s e≠0
    ·have f4:decide (byteAt s (e:Int).toNat≠0)=true:=Gqb hn
     refine Wz [15,38,19,14,21,172,2,22,83,42,34,27,13,26,53,133] ?_
     refine⟨_, Aqa,_,⟨e+1,J,⟨Aqa,Aqa,upN hg3 hn⟩,J⟩,Yj [0] Aqb⟩
    ·have hn:=Classical.not_not.1 hn
     have f4:decide (byteAt s (e:Int).toNat≠0)=false:=Gqa (fun q=>q hn)
     have hie:i<e:=by
      rcases Gqr i e with h6 | h6
      ·exact h6
      ·exact absurd hn (by have:e=q:=Aqa; rw[this]; exact (fun h6=>absurd h6 hq) Aqa)
     have hst:=Z8 hd1 hg1 hg2 hie hd3 (fun h6=>absurd h6 hq) hg3 (fun _=>hn)
     have hl1:=Ze ((q-i:Nat):Int)
     have hl2:=Ud (s.extract q e)
     have hl3:(s.extract q e).size=e-q:=Bxl
     have hl4:=Yx (encVar ((q-i:Nat):Int))
     have hl5:=Z7 (s.extract q e)
     have hl6:(packText (s.extract q e)).data.toList.length=(packText (s.extract q e)).size:=Aqd
     have ee:(q:Int)-i=((q-i:Nat):Int):=Aqa
     have hce:=Xu ((q-i:Nat):Int)
     have hct:=I_PackText (s.extract q e) Aqa 
     have hst2:(acc++encVar ((q-i:Nat):Int)++(packText (s.extract q e)).data.toList)++packZ (s.data.toList.drop e)=packZ s.data.toList:=Bxq
     have hl1':=hl1
     rw[←ee] at hce hl1 hl4
     have hq1:(bE (bs (encVar ((q:Int)-i))).data.toList).length=(encVar ((q:Int)-i)).length:=by rw[Yt,Yw]
     have hq2:(bE (encVar ((q:Int)-i))).length=(encVar ((q:Int)-i)).length:=Yt _
     refine Wz [15,38,19,14,21,168,2,233,46,165,30,50,29] ?_;refine kc0 hce ?_;refine Wz [285,8,27,141,0,266] ?_;refine kc0 hct ?_
     refine X8 J J J J J J J Bxa Bxa ?_;refine z1 J ?_
     refine Wz [53,133] ?_
     refine⟨_, Aqa,_,⟨e,acc++encVar ((q-i:Nat):Int)++(packText (s.extract q e)).data.toList,J,⟨hst2,hg2,by simp only[Gql]; omega⟩,J⟩,Bx6⟩
   ·have f3:decide ((e:Int)<s.size)=false:=Gqa Aqa 
    have hst:=Z8 hd1 hg1 hg2 Aqa hd3 (fun h6=>absurd h6 hq) hg3 (fun h6=>absurd h6 he)
    have hl1:=Ze ((q-i:Nat):Int)
    have hl2:=Ud (s.extract q e)
    have hl3:(s.extract q e).size=e-q:=Bxl
    have hl4:=Yx (encVar ((q-i:Nat):Int))
    have hl5:=Z7 (s.extract q e)
    have hl6:(packText (s.extract q e)).data.toList.length=(packText (s.extract q e)).size:=Aqd
    have ee:(q:Int)-i=((q-i:Nat):Int):=Aqa
    have hce:=Xu ((q-i:Nat):Int)
    have hct:=I_PackText (s.extract q e) Aqa 
    have hst2:(acc++encVar ((q-i:Nat):Int)++(packText (s.extract q e)).data.toList)++packZ (s.data.toList.drop e)=packZ s.data.toList:=Bxq
    have hl1':=hl1
    rw[←ee] at hce hl1 hl4
    have hq1:(bE (bs (encVar ((q:Int)-i))).data.toList).length=(encVar ((q:Int)-i)).length:=by rw[Yt,Yw]
    have hq2:(bE (encVar ((q:Int)-i))).length=(encVar ((q:Int)-i)).length:=Yt _
    refine Wz [15,38,19,55,5,165,30,50,29] ?_;refine kc0 hce ?_;refine Wz [285,8,27,141,0,266] ?_;refine kc0 hct ?_
    refine X8 J J J J J J J Bxa Bxa ?_;refine z1 J ?_
    refine Wz [53,133] ?_
    refine⟨_, Aqa,_,⟨e,acc++encVar ((q-i:Nat):Int)++(packText (s.extract q e)).data.toList,J,⟨hst2,hg2,by simp only[Gql]; omega⟩,J⟩,Bx6⟩
 ·have h5:i=s.size:=Bxw
  have e:s.data.toList.length=s.size:=Aqd
  refine Wz [223,236,36] ?_
  exact Bjq
theorem S_PackZeros (s:ByteArray) (hs:s.size≤1099511627775):Co 194 [] [astr s] [] (S (bs (packZ s.data.toList))):=by
 refine Con.o func194 ntmps194 fun E=>?_;refine Wz [23,23,107] ?_;refine Xj (fun m__ st=>∃ (i:Nat) (acc:List UInt8),s.size-i=m__∧(acc++packZ (s.data.toList.drop i)=packZ s.data.toList∧i≤s.size∧acc.length≤14*i)∧st=(⟨_,[(0,S s),(3,S (bs acc)),(4,I i)],[]⟩:St)) _ ⟨_,⟨0,[],J,Aqd,J⟩,Yj [] Aqb⟩ ?_
 rintro m_A _ ⟨i,acc,hk_A,hp_A,rfl⟩
 obtain⟨hp1,hp2,hp3⟩:=hp_A
 refine Wz [15,38,58] ?_
 refine Xb J (fun h5=>?_) (fun h5=>?_)
 ·have h5:i<s.size:=Bxv
  have hb:=Yt acc
  have hb1:=Yx acc
  refine Wz [42,34,11,16,34] ?_;refine Xj (fun m__ st=>∃ (q:Nat),s.size-q=m__∧(i≤q∧q≤s.size∧(∀ j,i≤j→j<q→byteAt s j=0))∧st=(⟨_,[(0,S s),(3,S (bs acc)),(4,I q),(5,I i)],[]⟩:St)) _ ⟨_,⟨i,J,⟨Gqi _,Aqa,fun q h1 h2=>by omega⟩,J⟩,Yj [] Aqb⟩ ?_
  rintro m_D _ ⟨q,hk_D,hp_D,rfl⟩
  obtain⟨hd1,hd2,hd3⟩:=hp_D
  by_cases hq:q<s.size
  ·have f1:decide ((q:Int)<s.size)=true:=Gqb Aqa 
   by_cases hz:byteAt s q=0
   ·have f2:decide (byteAt s (q:Int).toNat=0)=true:=Gqb hz
    refine Wz [15,38,19,14,21,168,2,282,83,42,34,27,13,26,53,133] ?_
    refine⟨_, Aqa,_,⟨q+1,J,⟨Aqa,Aqa,upZ hd3 hz⟩,J⟩,Yj [] Aqb⟩
   ·have f2:decide (byteAt s (q:Int).toNat=0)=false:=Gqa hz
    refine Wz [15,38,19,14,21,172,2,20,46,165,30,10,29,44,16,34] ?_;refine Xj (fun m__ st=>∃ (e:Nat),s.size-e=m__∧(q≤e∧e≤s.size∧(∀ j,q≤j→j<e→byteAt s j≠0))∧st=(⟨_,[(0,S s),(3,S (bs acc)),(4,I e),(5,I q),(6,I ((q:Int)-i))],[]⟩:St)) _ ⟨_,⟨q,J,⟨Gqi _,hd2,fun j h1 h2=>by omega⟩,J⟩,Yj [] Aqb⟩ ?_
    rintro m_G _ ⟨e,hk_G,hp_G,rfl⟩
    obtain⟨hg1,hg2,hg3⟩:=hp_G
    by_cases he:e<s.size
    ·have f3:decide ((e:Int)<s.size)=true:=Gqb Aqa 
     by_cases hn:byteAt s e≠0
     ·have f4:decide (byteAt s (e:Int).toNat≠0)=true:=Gqb hn
      refine Wz [15,38,19,14,21,172,2,22,83,42,34,27,13,26,53,133] ?_
      refine⟨_, Aqa,_,⟨e+1,J,⟨Aqa,Aqa,upN hg3 hn⟩,J⟩,Yj [] Aqb⟩
     ·have hn:=Classical.not_not.1 hn
      have f4:decide (byteAt s (e:Int).toNat≠0)=false:=Gqa (fun q=>q hn)
      have hie:i<e:=by
       rcases Gqr i e with h6 | h6
       ·exact h6
       ·exact absurd hn (by have:e=q:=Aqa; rw[this]; exact (fun _=>hz) Aqa)
      have hst:=Z8 hd1 hg1 hg2 hie hd3 (fun _=>hz) hg3 (fun _=>hn)
      have hl1:=Ze ((q-i:Nat):Int)
      have hl2:=Ud (s.extract q e)
      have hl3:(s.extract q e).size=e-q:=Bxl
      have hl4:=Yx (encVar ((q-i:Nat):Int))
      have hl5:=Z7 (s.extract q e)
      have hl6:(packText (s.extract q e)).data.toList.length=(packText (s.extract q e)).size:=Aqd
      have ee:(q:Int)-i=((q-i:Nat):Int):=Aqa
      have hce:=Yc ((q-i:Nat):Int)
      have hct:=S_PackText (s.extract q e) Aqa 
      have hst2:(acc++encVar ((q-i:Nat):Int)++(packText (s.extract q e)).data.toList)++packZ (s.data.toList.drop e)=packZ s.data.toList:=Bxq
      have hst3:bs acc++bs (encVar ((q:Int)-i))++packText (s.extract q e)=bs (acc++encVar ((q-i:Nat):Int)++(packText (s.extract q e)).data.toList):=Bx7
      have hl1':=hl1
      rw[←ee] at hce hl1 hl4
      have hq1:(bE (bs (encVar ((q:Int)-i))).data.toList).length=(encVar ((q:Int)-i)).length:=by rw[Yt,Yw]
      have hq2:(bE (encVar ((q:Int)-i))).length=(encVar ((q:Int)-i)).length:=Yt _
      refine Wz [15,38,19,14,21,168,2,233,46,165,30] ?_;refine Xi u8_76 u8_77 u8_78 J ?_;refine Wz [35] ?_;refine Uq (Qj J J (hce) J) J ?_;refine Uq (q_cat J J J J Aqa) J ?_;refine Wz [35,17,265] ?_;refine Uq (Qj J J (hct) J) J ?_
      refine Uq (q_cat J J J J Bxy) J ?_
      refine Wz [162,12,53,133] ?_
      refine⟨_, Aqa,(fun (i:Nat) (acc:List UInt8)=>(⟨_,[(0,S s),(3,S (bs acc)),(4,I i)],[]⟩:St)) (e) (acc++encVar ((q-i:Nat):Int)++(packText (s.extract q e)).data.toList),⟨e,acc++encVar ((q-i:Nat):Int)++(packText (s.extract q e)).data.toList,J,⟨hst2,hg2,by simp only[Gql]; omega⟩,J⟩,Yk [] Aqc J Aqb (.c J (.cons (S_eq hst3) (.c J (.nil))))⟩
    ·have f3:decide ((e:Int)<s.size)=false:=Gqa Aqa 
     have hst:=Z8 hd1 hg1 hg2 Aqa hd3 (fun _=>hz) hg3 (fun h6=>absurd h6 he)
     have hl1:=Ze ((q-i:Nat):Int)
     have hl2:=Ud (s.extract q e)
     have hl3:(s.extract q e).size=e-q:=Bxl
     have hl4:=Yx (encVar ((q-i:Nat):Int))
     have hl5:=Z7 (s.extract q e)
     have hl6:(packText (s.extract q e)).data.toList.length=(packText (s.extract q e)).size:=Aqd
     have ee:(q:Int)-i=((q-i:Nat):Int):=Aqa
     have hce:=Yc ((q-i:Nat):Int)
     have hct:=S_PackText (s.extract q e) Aqa 
     have hst2:(acc++encVar ((q-i:Nat):Int)++(packText (s.extract q e)).data.toList)++packZ (s.data.toList.drop e)=packZ s.data.toList:=Bxq
     have hst3:bs acc++bs (encVar ((q:Int)-i))++packText (s.extract q e)=bs (acc++encVar ((q-i:Nat):Int)++(packText (s.extract q e)).data.toList):=Bx7
     have hl1':=hl1
     rw[←ee] at hce hl1 hl4
     have hq1:(bE (bs (encVar ((q:Int)-i))).data.toList).length=(encVar ((q:Int)-i)).length:=by rw[Yt,Yw]
     have hq2:(bE (encVar ((q:Int)-i))).length=(encVar ((q:Int)-i)).length:=Yt _
     refine Wz [15,38,19,55,5,165,30] ?_;refine Xi u8_76 u8_77 u8_78 J ?_;refine Wz [35] ?_;refine Uq (Qj J J (hce) J) J ?_;refine Uq (q_cat J J J J Aqa) J ?_;refine Wz [35,17,265] ?_;refine Uq (Qj J J (hct) J) J ?_
     refine Uq (q_cat J J J J Bxy) J ?_
     refine Wz [162,12,53,133] ?_
     refine⟨_, Aqa,(fun (i:Nat) (acc:List UInt8)=>(⟨_,[(0,S s),(3,S (bs acc)),(4,I i)],[]⟩:St)) (e) (acc++encVar ((q-i:Nat):Int)++(packText (s.extract q e)).data.toList),⟨e,acc++encVar ((q-i:Nat):Int)++(packText (s.extract q e)).data.toList,J,⟨hst2,hg2,by simp only[Gql]; omega⟩,J⟩,Yk [] Aqc J Aqb (.c J (.cons (S_eq hst3) (.c J (.nil))))⟩
  ·have f1:decide ((q:Int)<s.size)=false:=Gqa Aqa 
   refine Wz [15,38,19,55,5,165,30,10,29,44,16,34] ?_;refine Xj (fun m__ st=>∃ (e:Nat),s.size-e=m__∧(q≤e∧e≤s.size∧(∀ j,q≤j→j<e→byteAt s j≠0))∧st=(⟨_,[(0,S s),(3,S (bs acc)),(4,I e),(5,I q),(6,I ((q:Int)-i))],[]⟩:St)) _ ⟨_,⟨q,J,⟨Gqi _,hd2,fun j h1 h2=>by omega⟩,J⟩,Yj [] Aqb⟩ ?_
   rintro m_G _ ⟨e,hk_G,hp_G,rfl⟩
   obtain⟨hg1,hg2,hg3⟩:=hp_G
   by_cases he:e<s.size
   ·have f3:decide ((e:Int)<s.size)=true:=Gqb Aqa 
    by_cases hn:byteAt s e≠0
    ·have f4:decide (byteAt s (e:Int).toNat≠0)=true:=Gqb hn
     refine Wz [15,38,19,14,21,172,2,22,83,42,34,27,13,26,53,133] ?_
     refine⟨_, Aqa,_,⟨e+1,J,⟨Aqa,Aqa,upN hg3 hn⟩,J⟩,Yj [] Aqb⟩
    ·have hn:=Classical.not_not.1 hn
     have f4:decide (byteAt s (e:Int).toNat≠0)=false:=Gqa (fun q=>q hn)
     have hie:i<e:=by
      rcases Gqr i e with h6 | h6
      ·exact h6
      ·exact absurd hn (by have:e=q:=Aqa; rw[this]; exact (fun h6=>absurd h6 hq) Aqa)
     have hst:=Z8 hd1 hg1 hg2 hie hd3 (fun h6=>absurd h6 hq) hg3 (fun _=>hn)
     have hl1:=Ze ((q-i:Nat):Int)
     have hl2:=Ud (s.extract q e)
     have hl3:(s.extract q e).size=e-q:=Bxl
     have hl4:=Yx (encVar ((q-i:Nat):Int))
     have hl5:=Z7 (s.extract q e)
     have hl6:(packText (s.extract q e)).data.toList.length=(packText (s.extract q e)).size:=Aqd
     have ee:(q:Int)-i=((q-i:Nat):Int):=Aqa
     have hce:=Yc ((q-i:Nat):Int)
     have hct:=S_PackText (s.extract q e) Aqa 
     have hst2:(acc++encVar ((q-i:Nat):Int)++(packText (s.extract q e)).data.toList)++packZ (s.data.toList.drop e)=packZ s.data.toList:=Bxq
     have hst3:bs acc++bs (encVar ((q:Int)-i))++packText (s.extract q e)=bs (acc++encVar ((q-i:Nat):Int)++(packText (s.extract q e)).data.toList):=Bx7
     have hl1':=hl1
     rw[←ee] at hce hl1 hl4
     have hq1:(bE (bs (encVar ((q:Int)-i))).data.toList).length=(encVar ((q:Int)-i)).length:=by rw[Yt,Yw]
     have hq2:(bE (encVar ((q:Int)-i))).length=(encVar ((q:Int)-i)).length:=Yt _
     refine Wz [15,38,19,14,21,168,2,233,46,165,30] ?_;refine Xi u8_76 u8_77 u8_78 J ?_;refine Wz [35] ?_;refine Uq (Qj J J (hce) J) J ?_;refine Uq (q_cat J J J J Aqa) J ?_;refine Wz [35,17,265] ?_;refine Uq (Qj J J (hct) J) J ?_;refine Uq (q_cat J J J J Aqa) J ?_;refine Wz [162,12,53,133] ?_
     refine⟨_, Aqa,(fun (i:Nat) (acc:List UInt8)=>(⟨_,[(0,S s),(3,S (bs acc)),(4,I i)],[]⟩:St)) (e) (acc++encVar ((q-i:Nat):Int)++(packText (s.extract q e)).data.toList),⟨e,acc++encVar ((q-i:Nat):Int)++(packText (s.extract q e)).data.toList,J,⟨hst2,hg2,by simp only[Gql]; omega⟩,J⟩,Yk [] Aqc J Aqb (.c J (.cons (S_eq hst3) (.c J (.nil))))⟩
   ·have f3:decide ((e:Int)<s.size)=false:=Gqa Aqa 
    have hst:=Z8 hd1 hg1 hg2 Aqa hd3 (fun h6=>absurd h6 hq) hg3 (fun h6=>absurd h6 he)
    have hl1:=Ze ((q-i:Nat):Int)
    have hl2:=Ud (s.extract q e)
    have hl3:(s.extract q e).size=e-q:=Bxl
    have hl4:=Yx (encVar ((q-i:Nat):Int))
    have hl5:=Z7 (s.extract q e)
    have hl6:(packText (s.extract q e)).data.toList.length=(packText (s.extract q e)).size:=Aqd
    have ee:(q:Int)-i=((q-i:Nat):Int):=Aqa
    have hce:=Yc ((q-i:Nat):Int)
    have hct:=S_PackText (s.extract q e) Aqa 
    have hst2:(acc++encVar ((q-i:Nat):Int)++(packText (s.extract q e)).data.toList)++packZ (s.data.toList.drop e)=packZ s.data.toList:=Bxq
    have hst3:bs acc++bs (encVar ((q:Int)-i))++packText (s.extract q e)=bs (acc++encVar ((q-i:Nat):Int)++(packText (s.extract q e)).data.toList):=Bx7
    have hl1':=hl1
    rw[←ee] at hce hl1 hl4
    have hq1:(bE (bs (encVar ((q:Int)-i))).data.toList).length=(encVar ((q:Int)-i)).length:=by rw[Yt,Yw]
    have hq2:(bE (encVar ((q:Int)-i))).length=(encVar ((q:Int)-i)).length:=Yt _
    refine Wz [15,38,19,55,5,165,30] ?_;refine Xi u8_76 u8_77 u8_78 J ?_;refine Wz [35] ?_;refine Uq (Qj J J (hce) J) J ?_;refine Uq (q_cat J J J J Aqa) J ?_;refine Wz [35,17,265] ?_;refine Uq (Qj J J (hct) J) J ?_
    refine Uq (q_cat J J J J Bxy) J ?_
    refine Wz [162,12,53,133] ?_
    refine⟨_, Aqa,(fun (i:Nat) (acc:List UInt8)=>(⟨_,[(0,S s),(3,S (bs acc)),(4,I i)],[]⟩:St)) (e) (acc++encVar ((q-i:Nat):Int)++(packText (s.extract q e)).data.toList),⟨e,acc++encVar ((q-i:Nat):Int)++(packText (s.extract q e)).data.toList,J,⟨hst2,hg2,by simp only[Gql]; omega⟩,J⟩,Yk [] Aqc J Aqb (.c J (.cons (S_eq hst3) (.c J (.nil))))⟩
 ·have h5:i=s.size:=Bxw
  have e:s.data.toList.length=s.size:=Aqd
  refine Wz [74] ?_
  exact Bjq
end
section
open Tryz
open Go.RowKit

theorem uz_end {s:ByteArray} {b:Bool} {pos:Nat} (h:¬pos<s.size) (f:Nat) (acc:List UInt8):uzGo s b f pos acc=some acc:=by
 cases f with
 |zero=>rw[uzGo,if_neg h]
 |succ f=>rw[uzGo,if_neg h]
section
variable {s:ByteArray} {b:Bool} {pos f j k:Nat} {acc:List UInt8} {n:Int} {t:ByteArray} (hp:pos<s.size)
include hp
theorem uz_none1 (h:decVar s pos=none):uzGo s b (f+1) pos acc=none:=by rw[uzGo,if_pos hp,h]
theorem uz_none2 (h:decVar s pos=some (n,j)) (h2:unpackText s ((pos:Int)+(j:Int))=none):uzGo s b (f+1) pos acc=none:=by
 rw[uzGo,if_pos hp,h]
 simp only[h2]
theorem uz_big (h:decVar s pos=some (n,j)) (h2:unpackText s ((pos:Int)+(j:Int))=some (t,k)) (hb:(20000:Int)-acc.length<n+t.size):uzGo s b (f+1) pos acc=none:=by
 rw[uzGo,if_pos hp,h]
 simp only[h2]
 rw[if_pos hb]
theorem uz_big1 (h:decVar s pos=some (n,j)) (hb:(20000:Int)-acc.length<n):uzGo s b (f+1) pos acc=none:=by
 cases h2:unpackText s ((pos:Int)+(j:Int)) with
 |none=>exact uz_none2 hp h h2
 |some r=>obtain⟨t,k⟩:=r; exact uz_big hp h h2 Aqa 
theorem uz_emp (h:decVar s pos=some (n,j)) (h2:unpackText s ((pos:Int)+(j:Int))=some (t,k)) (he:n=0∧t.size=0):uzGo s true (f+1) pos acc=none:=by
 by_cases hb:(20000:Int)-acc.length<n+t.size
 ·exact uz_big hp h h2 hb
 rw[uzGo,if_pos hp,h]
 simp only[h2]
 rw[if_neg hb,if_pos ⟨trivial,he⟩]
theorem uz_step (h:decVar s pos=some (n,j)) (h2:unpackText s ((pos:Int)+(j:Int))=some (t,k)) (hb:¬(20000:Int)-acc.length<n+t.size) (he:b=true→¬(n=0∧t.size=0)):uzGo s b (f+1) pos acc=uzGo s b f (pos+j+k) (acc++List.replicate n.toNat 0++t.data.toList):=by
 rw[uzGo,if_pos hp,h]
 simp only[h2]
 rw[if_neg hb,if_neg (fun q=>he q.1 q.2)]
end
theorem bE_rep (z:Nat):bE (List.replicate z 0)=List.replicate z [.v (.int .u8 0)]:=by simp[bE]
theorem unpackZ_len {b:Bool} {s t:ByteArray} (h:unpackZ b s=some t):t.size≤20000:=by
 unfold unpackZ at h
 cases hu:uzGo s b s.size 0 [] with
 |none=>rw[hu] at h; cases h
 |some out =>
  rw[hu] at h
  simp only at h
  split at h
  ·cases h; rw[Yx]; exact uz_len s b _ _ _ _ Aqd hu
  ·cases h
theorem I_UnpackZeros (s:ByteArray) (hs:s.size≤1099511627775):Co 235 [] [astr s] [] (otR (unpackZ true s)):=by
 refine Con.o func235 ntmps235 fun E=>?_;refine Wz [3,26,8,23,23,4,34] ?_
 refine AWP.pre ?_ (W_nil 4 1 J)
 refine Xj (fun m__ st=>∃ (pos:Nat) (acc:List UInt8) (f:Nat),s.size-pos=m__∧(s.size≤pos+f∧pos≤s.size∧acc.length≤20000∧uzGo s true f pos acc=uzGo s true s.size 0 [])∧st=(⟨_,[(0,S s),(4,Aqg 0),(5,I pos)],[.row 1 (bE acc)]⟩:St)) _ ⟨_,⟨0,[],s.size,J,⟨Aqa,Aqa,Aqd,J⟩,J⟩,Yj [0] Aqb⟩ ?_
 rintro m_A _ ⟨pos,acc,f,hk_A,hp_A,rfl⟩
 obtain⟨hfu,hps,hal,hgo⟩:=hp_A
 have hla:=Yt acc
 by_cases hlt:pos<s.size
 ·have hb:decide ((pos:Int)<s.size)=true:=Gqb Aqa 
  have hd:=Xt s (pos:Int) Aqa ⟨Aqa,Aqa⟩
  obtain⟨g,rfl⟩:∃ g,f=g+1:=⟨f-1,Aqa⟩
  cases hv:decVar s (pos:Int) with
  |none =>
   rw[hv] at hd
   rw[show unpackZ true s=none by rw[unpackZ,←hgo,uz_none1 hlt hv]]
   refine Wz [15,38,157,42,34,10,148,102,72,55,80,83,3,26,155,93,93,89] ?_
   exact Bzj
  | some r =>
   obtain⟨n,j⟩:=r
   rw[hv] at hd
   have hm:=Y2 hv
   obtain⟨z,rfl⟩:∃ z:Nat,n=z:=⟨n.toNat,Aqa⟩
   by_cases hbig:(20000:Int)-acc.length<z
   ·have hb2:decide ((20000:Int)-((bE acc).length:Int)<z)=true:=Gqb Aqa 
    rw[show unpackZ true s=none by rw[unpackZ,←hgo,uz_big1 hlt hv hbig]]
    refine Wz [15,38,157,42,34,10,148,102,72,14,21,33,2,29,2,111,5,32,3,26,155,93,93,89] ?_
    exact Bzj
   have hb2:decide ((20000:Int)-((bE acc).length:Int)<z)=false:=Gqa Aqa 
   have hut:=I_UnpackText s ((pos:Int)+(j:Int)) Aqa ⟨Aqa,Aqa⟩
   cases hu:unpackText s ((pos:Int)+(j:Int)) with
   |none =>
    rw[hu] at hut
    rw[show unpackZ true s=none by rw[unpackZ,←hgo,uz_none2 hlt hv hu]]
    refine Wz [15,38,157,42,34,10,148,102,72,14,21,33,2,29,2,111,5,28,10,49,10] ?_;refine kc1 hut ?_;refine Wz [102,72,55,182,83,3,26,155,93,93,89] ?_
    exact Bzj
   | some r =>
    obtain⟨t,k⟩:=r
    rw[hu] at hut
    have hus:=unpackText_some hu
    by_cases hbig2:(20000:Int)-acc.length<z+t.size
    ·have hb3:decide ((20000:Int)-((bE acc).length:Int)-z<t.size)=true:=Gqb Aqa 
     rw[show unpackZ true s=none by rw[unpackZ,←hgo,uz_big hlt hv hu hbig2]]
     refine Wz [15,38,157,42,34,10,148,102,72,14,21,33,2,29,2,111,5,28,10,49,10] ?_;refine kc1 hut ?_;refine Wz [102,72,14,38,2,21,33,2,29,2,21,29,2,111,5,32,3,26,155,93,93,89] ?_
     exact Bzj
    have hb3:decide ((20000:Int)-((bE acc).length:Int)-z<t.size)=false:=Gqa Aqa 
    have hz1:(bE (List.replicate z 0)).length=z:=by rw[Yt,Gx4]
    have ht1:t.data.toList.length=t.size:=Aqd
    by_cases hemp:(z:Int)=0∧t.size=0
    ·have e1:decide ((z:Int)=0)=true:=Gqb hemp.1
     have e2:decide ((t.size:Int)=0)=true:=Gqb Aqa 
     rw[show unpackZ true s=none by rw[unpackZ,←hgo,uz_emp hlt hv hu hemp]]
     refine Wz [15,38,157,42,34,10,148,102,72,14,21,33,2,29,2,111,5,28,10,49,10] ?_;refine kc1 hut ?_;refine Wz [102,72,14,38,2,21,33,2,29,2,21,29,2,111,5,28,10,49,10] ?_;refine M_appz 9 J J J J J J J Aqa ?_;refine Wz [8,10] ?_
     refine X8 J J J J J J J Bxa Bxa ?_;refine z1 J ?_
     refine Wz [113,20,14,38,2,20,83,3,26,155,198,93,89] ?_
     exact Bzj
    have hgo2:=uz_step (acc:=acc) (f:=g) (b:=true) hlt hv hu hbig2 (fun _=>hemp)
    rw[hgo,show ((z:Int)).toNat=z by omega] at hgo2
    by_cases hz0:(z:Int)=0
    ·have e1:decide ((z:Int)=0)=true:=Gqb hz0
     have e2:decide ((t.size:Int)=0)=false:=Gqa Aqa 
     refine Wz [15,38,157,42,34,10,148,102,72,14,21,33,2,29,2,111,5,28,10,49,10] ?_;refine kc1 hut ?_;refine Wz [102,72,14,38,2,21,33,2,29,2,21,29,2,111,5,28,10,49,10] ?_;refine M_appz 9 J J J J J J J Aqa ?_;refine Wz [8,10] ?_
     refine X8 J J J J J J J Bxa Bxa ?_;refine z1 J ?_
     refine Wz [113,20,14,38,2,20,46,151,133] ?_
     refine⟨_, Aqa,_,⟨pos+j+k,acc++List.replicate z 0++t.data.toList,g,J,⟨Aqa,Aqa,by simp only[Gql,Gx4]; omega,hgo2.symm⟩,J⟩,(by rw[Ys,Ys]; exact Yj [0] Aqb)⟩
    ·have e1:decide ((z:Int)=0)=false:=Gqa hz0
     refine Wz [15,38,157,42,34,10,148,102,72,14,21,33,2,29,2,111,5,28,10,49,10] ?_;refine kc1 hut ?_;refine Wz [102,72,14,38,2,21,33,2,29,2,21,29,2,111,5,28,10,49,10] ?_;refine M_appz 9 J J J J J J J Aqa ?_;refine Wz [8,10] ?_
     refine X8 J J J J J J J Bxa Bxa ?_;refine z1 J ?_
     refine Wz [113,20,0,87,80,5,151,133] ?_
     refine⟨_, Aqa,_,⟨pos+j+k,acc++List.replicate z 0++t.data.toList,g,J,⟨Aqa,Aqa,by simp only[Gql,Gx4]; omega,hgo2.symm⟩,J⟩,(by rw[Ys,Ys]; exact Yj [0] Aqb)⟩
 ·have hb:decide ((pos:Int)<s.size)=false:=Gqa Aqa 
  have hend:=uz_end (b:=true) hlt f acc
  have hpk:=I_PackZeros (bs acc) (by rw[Yx]; omega)
  rw[Yw] at hpk
  by_cases heq:bs (packZ acc)=s
  ·have e1:decide (bs (packZ acc)≠s)=false:=Gqa (fun q=>q heq)
   rw[show unpackZ true s=some (bs acc) by rw[unpackZ,←hgo,hend]; simp only[]; rw[if_pos heq]]
   refine Wz [15,38,92,30,41,236] ?_;refine kc0 hpk ?_;refine Wz [0,240,97,236,26,36] ?_
   exact Bzj
  ·have e1:decide (bs (packZ acc)≠s)=true:=Gqb heq
   rw[show unpackZ true s=none by rw[unpackZ,←hgo,hend]; simp only[]; rw[if_neg heq]]
   refine Wz [15,38,92,30,41,236] ?_;refine kc0 hpk ?_;refine Wz [0,240,32,3,26,76] ?_
   exact Bzj
theorem S_UnpackZeros (s:ByteArray) (hs:s.size≤1099511627775):Co 249 [] [astr s] [] (otR (unpackZ false s)):=by
 refine Con.o func249 ntmps249 fun E=>?_;refine Wz [3,26,8,23,107] ?_;refine Xj (fun m__ st=>∃ (pos:Nat) (acc:List UInt8) (f:Nat),s.size-pos=m__∧(s.size≤pos+f∧pos≤s.size∧acc.length≤20000∧uzGo s false f pos acc=uzGo s false s.size 0 [])∧st=(⟨_,[(0,S s),(4,S (bs acc)),(5,I pos)],[]⟩:St)) _ ⟨_,⟨0,[],s.size,J,⟨Aqa,Aqa,Aqd,J⟩,J⟩,Yj [] Aqb⟩ ?_
 rintro m_A _ ⟨pos,acc,f,hk_A,hp_A,rfl⟩
 obtain⟨hfu,hps,hal,hgo⟩:=hp_A
 have hla:=Yx acc
 by_cases hlt:pos<s.size
 ·have hb:decide ((pos:Int)<s.size)=true:=Gqb Aqa 
  have hd:=Yb s (pos:Int) Aqa ⟨Aqa,Aqa⟩
  obtain⟨g,rfl⟩:∃ g,f=g+1:=⟨f-1,Aqa⟩
  cases hv:decVar s (pos:Int) with
  |none =>
   rw[hv] at hd
   have hut:=S_UnpackText s ((pos:Int)+(0:Int)) Aqa ⟨Aqa,Aqa⟩
   rw[show unpackText s ((pos:Int)+(0:Int))=none by rw[Int.add_zero,unpackText,hv]] at hut
   rw[show unpackZ false s=none by rw[unpackZ,←hgo,uz_none1 hlt hv]]
   refine Wz [15,38,157,42,34,10,148,102,8,50,13] ?_;refine kc1 hut ?_;refine Wz [102,72,0,87,46,55,182,83,3,26,155,93,93,89] ?_
   exact Bzj
  | some r =>
   obtain⟨n,j⟩:=r
   rw[hv] at hd
   have hm:=Y2 hv
   obtain⟨z,rfl⟩:∃ z:Nat,n=z:=⟨n.toNat,Aqa⟩
   have hut:=S_UnpackText s ((pos:Int)+(j:Int)) Aqa ⟨Aqa,Aqa⟩
   cases hu:unpackText s ((pos:Int)+(j:Int)) with
   |none =>
    rw[hu] at hut
    rw[show unpackZ false s=none by rw[unpackZ,←hgo,uz_none2 hlt hv hu]]
    refine Wz [15,38,157,42,34,10,148,102,8,50,13] ?_;refine kc1 hut ?_;refine Wz [102,72,14,6,5,55,182,83,3,26,155,93,93,89] ?_
    exact Bzj
   | some r =>
    obtain⟨t,k⟩:=r
    rw[hu] at hut
    have hus:=unpackText_some hu
    by_cases hbig2:(20000:Int)-acc.length<z+t.size
    ·have hb3:decide ((20000:Int)-((bs acc).size:Int)<(z:Int)+(t.size:Int))=true:=Gqb Aqa 
     rw[show unpackZ false s=none by rw[unpackZ,←hgo,uz_big hlt hv hu hbig2]]
     refine Wz [15,38,157,42,34,10,148,102,8,50,13] ?_;refine kc1 hut ?_;refine Wz [102,72,14,6,5,14,21,38,2,13,2,21,38,2,29,2,111,5,32,3,26,155,93,93,89] ?_
     exact Bzj
    have hb3:decide ((20000:Int)-((bs acc).size:Int)<(z:Int)+(t.size:Int))=false:=Gqa Aqa 
    have hgo2:=uz_step (acc:=acc) (f:=g) (b:=false) hlt hv hu hbig2 (fun q=>by cases q)
    rw[hgo,show ((z:Int)).toNat=z by omega] at hgo2
    have ht1:t.data.toList.length=t.size:=Aqd
    have hz2:=Yx (List.replicate z (0:UInt8))
    rw[Gx4] at hz2
    have hz3:(bs acc++bs (List.replicate z (0:UInt8))).size=acc.length+z:=by rw[Yv,Yx,Gql,Gx4]
    have hz4:(⟨(List.replicate z (0:UInt8)).toArray⟩:ByteArray).size=z:=hz2
    have hz5:(bs acc++(⟨(List.replicate z (0:UInt8)).toArray⟩:ByteArray)).size=acc.length+z:=hz3
    have hS:bs acc++bs (List.replicate z 0)++t=bs (acc++List.replicate z 0++t.data.toList):=by rw[←Yv,←Yv,bs_of t]
    refine Wz [15,38,157,42,34,10,148,102,8,50,13] ?_;refine kc1 hut ?_;refine Wz [102,72,14,6,5,14,21,38,2,13,2,21,38,2,29,2,111,5,28,10,251] ?_;refine AL.weak (st':=(⟨_,[(0,S s),(5,I pos),(6,I z),(7,I j),(9,S t),(10,I k),(48,S (bs acc)),(50,Aqg 0)],[.row 1 (bE (List.replicate z 0))]⟩:St)) (Yk [0] Aqc J ((Vy (bE_rep z))) (.c J (.c J (.c J (.c J (.c J (.c J (.c J (.c J (.nil)))))))))) ?_;refine Wz [236,254,0,254,8,27,0,13,0,13,26,53,133] ?_
    refine⟨_, Aqa,(fun (pos:Nat) (acc:List UInt8) (f:Nat)=>(⟨_,[(0,S s),(4,S (bs acc)),(5,I pos)],[]⟩:St)) (pos+j+k) (acc++List.replicate z 0++t.data.toList) (g),⟨pos+j+k,acc++List.replicate z 0++t.data.toList,g,J,⟨Aqa,Aqa,by simp only[Gql,Gx4]; omega,hgo2.symm⟩,J⟩,Yk [] Aqc J Aqb (.c J (.cons (S_eq hS) (.c J (.nil))))⟩
 ·have hb:decide ((pos:Int)<s.size)=false:=Gqa Aqa 
  have hend:=uz_end (b:=false) hlt f acc
  have hpk:=S_PackZeros (bs acc) (by rw[Yx]; omega)
  rw[Yw] at hpk
  by_cases heq:bs (packZ acc)=s
  ·have e1:decide (bs (packZ acc)≠s)=false:=Gqa (fun q=>q heq)
   rw[show unpackZ false s=some (bs acc) by rw[unpackZ,←hgo,hend]; simp only[]; rw[if_pos heq]]
   refine Wz [15,38,92,30,41] ?_;refine kc0 hpk ?_;refine Wz [0,240,97,26,36] ?_
   exact Bzj
  ·have e1:decide (bs (packZ acc)≠s)=true:=Gqb heq
   rw[show unpackZ false s=none by rw[unpackZ,←hgo,hend]; simp only[]; rw[if_neg heq]]
   refine Wz [15,38,92,30,41] ?_;refine kc0 hpk ?_;refine Wz [0,240,32,3,26,76] ?_
   exact Bzj
def applyD (base delta:ByteArray):Option ByteArray:=match decVar delta 0 with
 |none=>none
 |some (n,j)=>match unpackZ true (delta.extract j delta.size) with
  |none=>none
  |some x=>if (x.size:Int)=n then some (xorText base x) else none
theorem xor_size (a b:ByteArray):(xorText a b).size=b.size:=by
 rw[xorText,Yx,xorL_len]; simp
theorem applyD_len {a d t:ByteArray} (h:applyD a d=some t):t.size≤20000:=by
 unfold applyD at h
 split at h
 ·cases h
 ·split at h
  ·cases h
  ·rename_i x hx
   split at h
   ·cases h; rw[xor_size]; exact unpackZ_len hx
   ·cases h
theorem I_ApplyDelta (base delta:ByteArray) (hb:base.size≤1099511627775) (hs:delta.size≤1099511627775):Co 210 [] [astr base,astr delta] [] (otR (applyD base delta)):=by
 have va_:=@Xt; have vb_:=@func210; have vc_:=@ntmps210; have vd_:=@I_UnpackZeros; have ve_:=@I_XorText; exact Bqq
theorem S_ApplyDelta (base delta:ByteArray) (hb:base.size≤1099511627775) (hs:delta.size≤1099511627775):Co 226 [] [astr base,astr delta] [] (otR (applyD base delta)):=by
 have va_:=@Yb; have vb_:=@func226; have vc_:=@ntmps226; have vd_:=@S_UnpackZeros; have ve_:=@S_XorText; exact Bqq
end
end Go.Proofs.YtalaljeokcpfnaaGreat
