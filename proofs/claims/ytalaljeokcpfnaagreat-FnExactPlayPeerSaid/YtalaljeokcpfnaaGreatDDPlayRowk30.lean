/-
  Rules, data and contracts of functions: part 31 of the proof.
  Conditions: those that each theorem names.
-/
import Derived.Test.YtalaljeokcpfnaaGreatDDPlayRowk20
import Derived.Test.YtalaljeokcpfnaaGreatDDPlayRowk29
set_option linter.unusedSimpArgs false
set_option linter.unusedVariables false
set_option maxRecDepth 8000
set_option maxHeartbeats 8000000
namespace Go.Proofs.YtalaljeokcpfnaaGreat
section
open Tryz
open Go.RowKit

theorem mv_two {l:TLevel} {b:TBody} (h:b.Kind=2):mvOne l b=some b:=by rw[mvOne,if_neg Aqa,if_neg Aqa]
theorem mv_dead {l:TLevel} {b:TBody} (h:b.Kind=0) (h1:b.Life=0):mvOne l b=some b:=by rw[mvOne,if_neg Aqa,if_neg Aqa]
theorem at_pl {l:TLevel} {n:Nat} {bs:List TBody} (h:LM l n bs) (x y:Int):itemAt (bs.take n) x y=false:=by
 rw[itemAt,List.any_eq_false]
 intro b hb
 obtain⟨j,hj⟩:=List.getElem?_of_mem hb
 rw[Gxh] at hj
 split at hj
 ·have:=(h.at_ j b hj).2.2 Aqe 
  simp only[isItem,decide_eq_true_eq]
  omega
 ·cases hj
theorem S_l02Step (w:TWorld) (row:List Int) (hg:Enc.gd w) (ho:worldOk w=true) (ht:w.Tick≠100000) (hr:rowOk row w.Scores.length=true):Co 229 [.box [Aqk 1,jn w.Tick,jn w.Seed,Aqk 2,Aqk 3],.row 1 (els w.Level.Rows),.row 1 (els w.Scores),.row 9 (els w.Bodies),.gh 0 (.c (.ptr 0 0))] [.c (.ptr 0 0),al row] [.box [Aqk 1,jn (tickM w row).Tick,jn (tickM w row).Seed,Aqk 2,Aqk 3],.row 1 (els w.Level.Rows),.row 1 (els (tickM w row).Scores),.row 9 (els (tickM w row).Bodies),.gh 0 (.c (.ptr 0 0))] (.tu []):=by
 have hP:=PH.of hg ho hr
 have hsr:=V5 ho
 have hM:=hits_lm hP.mv rfl hsr
 obtain⟨hl,htk,hsd,hn,_,_,_⟩:=Uj ho
 have htk:=Zm.1 htk
 have hsd:=Zm.1 hsd
 have d1:=S_l02Hits ⟨w.Level,w.Tick,w.Seed,w.Scores,movedM w row⟩ hg.1 hl hn hP.mv hsr
 simp only at d1
 obtain⟨s4,hs4⟩:∃ s4,s4=(hitsR w.Scores.length (movedM w row) w.Scores).2:=⟨_,rfl⟩
 obtain⟨b4,hb4⟩:∃ b4,b4=(hitsR w.Scores.length (movedM w row) w.Scores).1:=⟨_,rfl⟩
 rw[←hs4,←hb4] at d1 hM
 rw[tickM,←hs4,←hb4]
 obtain⟨hM1,hM2,hM3⟩:=hM
 have e1:=S_NextRandom w.Seed ⟨Aqa,Aqa⟩
 have e2:=S_SpotsOf w.Level hg.1 hl
 have hlb4:=Y7 b4
 have hbl:=hM1.len
 have hlsp:=Y7 (spotsM w.Level)
 have hsl2:=spots_len hl
 have hnr:=Zz w.Seed
 clear hs4 hb4 ho
 have hPP:=hP
 obtain⟨hgl,gb,_,hn4,hlen,hbo,hrl,hri⟩:=hP
 have hls:=Y7 w.Scores
 have hlr:=Y7 row
 refine Con.o func229 ntmps229 fun E=>?_;refine Wz [11,61,31,33,16,51] ?_;refine Xj (fun m st=>∃ (k:Nat) (bs:List TBody),k+m=w.Scores.length∧(bs=plM w.Level row w.Bodies k)∧st=(⟨_,[(0,Aqf 0),(1,L row),(4,I (els w.Scores).length),(5,I k)],[.box [Aqk 1,jn w.Tick,jn w.Seed,Aqk 2,Aqk 3],.row 1 (els w.Level.Rows),.row 1 (els w.Scores),.row 9 (els bs),.gh 0 (.c (.ptr 0 0))]⟩:St)) (w.Scores.length) ⟨_,⟨0,w.Bodies,Aqa,J,J⟩,Yj [0,1,2,3,4] Aqb⟩ ?_
 rintro m_A _ ⟨k,bs,hk_A,hp_A,rfl⟩
 by_cases hlt:k<w.Scores.length
 ·have hb0:decide ((k:Int)<(els w.Scores).length)=true:=Gqb Aqa 
  have hP:=P1.all hl hn4.2 hlen hbo row k Aqa 
  rw[←hp_A] at hP
  have hln:=hP.lm.len
  obtain⟨b,hb⟩:=Ua (xs:=bs) (i:=k) Aqa 
  have hold:=hP.old k (Gqi _) hlt
  have hI:=old_at hbo (by rw[←hold]; exact hb) hlt
  have hB:=(hP.lm.at_ k b hb).1
  obtain⟨hpl,hpx,hpy⟩:=hB.placed hl
  obtain⟨i,hi⟩:=Ua (xs:=row) (i:=k) Aqa 
  have hir:=hri i (Gqn hi)
  have hnx:=pl_next hp_A hb hi
  have he:=Za hb
  have her:=Za hi
  have hlb:=Y7 bs
  have htm:=hI.tm
  have hkl:=Zj hb
  clear d1 e1 e2
  by_cases hf:b.Life=0
  ·have f1:decide (b.Life=0)=true:=Gqb hf
   rw[plOne,if_pos hf] at hnx
   refine Wz [15,77,41,61,68,106,123,146,20,32,11,61,68,106,123,146,29,106,123,170,1,41,61,68] ?_;refine AL.weak (st':=(⟨_,[(0,Aqf 0),(1,L row),(4,I (els w.Scores).length),(5,I k),(50,Aqg 3),(51,I k)],[.box [Aqk 1,jn w.Tick,jn w.Seed,Aqk 2,Aqk 3],.row 1 (els w.Level.Rows),.row 1 (els w.Scores),.row 9 (els (bs.set k (tick1 b))),.gh 0 (.c (.ptr 0 0))]⟩:St)) (Yk [0,1,2,3,4] Aqc J ((by exact rwBo (st_el0 J))) (.c J (.c J (.c J (.c J (.c J (.c J (.nil)))))))) ?_
   clear he
   have he:(els (bs.set k (tick1 b)))[(k:Int).toNat]? = some (Enc.e (tick1 b)):=Za (by rw[Gxg hkl])
   have hlb2:(els (bs.set k (tick1 b))).length=bs.length:=by rw[Y7,Gqu]
   by_cases ht:b.Timer-1=0
   ·have f2:decide (b.Timer-1=0)=true:=Gqb ht
    rw[if_pos ht] at hnx
    have cf:=S_fresh w.Level k hg.1 hl ⟨Aqa,Aqa⟩
    refine Wz [106,123,146,20,32] ?_;refine AWP.kp [0,1,1,0,4,0,5,0] [] 5 [(0,.box [Aqk 1,jn w.Tick,jn w.Seed,Aqk 2,Aqk 3]),(3,.row 9 (els (bs.set k (tick1 b))))] ?_;refine Xi (tt [[],[0,1],[0,2],[0,3],[],[],[5,1],[5,2],[5,3],[],[5,5],[0,11],[0,12]]) (tt [[],[56,1],[56,2],[56,3],[],[],[61,1],[61,2],[61,3],[],[61,5],[56,11],[56,12]]) (tt [[60,7],[60,7],[60,7],[60,7],[56,4,61,6],[56,5,65,1],[56,5,65,1],[56,5,65,1],[56,5,65,1],[56,9],[56,5],[],[]]) J ?_;refine Wz [17,128,37,35,128,145,136,17] ?_;refine Uq (Kr J J (cf) J J J) J ?_;refine Wz [129,12] ?_;refine AL.kp [0,1,1,0,4,0,5,0] [(66,.o (.ag ((Enc.e (fresh w.Level k)).map (V1.rd [])))),(67,.o (.c (.el 3 9 k 0)))] 5 [(0,.box [Aqk 1,jn w.Tick,jn w.Seed,Aqk 2,Aqk 3]),(3,.row 9 (els (bs.set k (tick1 b))))] ?_;refine Wz [206,1,190,191,27,49] ?_
    exact⟨w.Scores.length-(k+1),Aqa,(fun (k:Nat) (bs:List TBody)=>(⟨_,[(0,Aqf 0),(1,L row),(4,I (els w.Scores).length),(5,I k)],[.box [Aqk 1,jn w.Tick,jn w.Seed,Aqk 2,Aqk 3],.row 1 (els w.Level.Rows),.row 1 (els w.Scores),.row 9 (els bs),.gh 0 (.c (.ptr 0 0))]⟩:St)) (k+1) (bs.set k (fresh w.Level k)),⟨k+1,bs.set k (fresh w.Level k),Aqa,hnx.symm,J⟩,Yk [0,1,2,3,4] Aqc J (Bxt) (.c J (.c J (.c J (.c J (.nil)))))⟩
   ·have f2:decide (b.Timer-1=0)=false:=Gqa ht
    rw[if_neg ht] at hnx
    refine Wz [106,123,146,20,28,190,191,27,49] ?_
    exact⟨w.Scores.length-(k+1),Aqa,_,⟨k+1,bs.set k (tick1 b),Aqa,hnx.symm,J⟩,Yj [0,1,2,3,4] Aqb⟩
  ·have f1:decide (b.Life=0)=false:=Gqa hf
   rw[plOne,if_neg hf] at hnx
   have hfl:=hB.f
   obtain⟨c,f,hcf⟩:∃ c f,(c,f)=steer w.Level b i:=⟨_,_,rfl⟩
   have cs:=S_l02Steer w.Level b i hg.1 hl hI.kd hir ⟨Aqa,Aqa⟩ hB.vy (by have:=hB.p; rw[hI.kd] at this; exact this)
   have hca:=steer_aim (l:=w.Level) (i:=i) hI.am
   have hcx:(steer w.Level b i).1.X=b.X∧(steer w.Level b i).1.Y=b.Y:=⟨rfl,rfl⟩
   rw[←hcf] at cs hnx hca hcx
   simp only at cs hnx hca hcx
   have csh:=S_ShotOf c (by rw[hcx.1]; exact hpl.x) (by rw[hcx.2]; exact hpl.y) Aqa 
   have hlc:(els (bs.set k c)).length=bs.length:=by rw[Y7,Gqu]
   clear hcf hca hcx
   refine Wz [15,77,41,61,68,106,123,146,20,135] ?_;refine AWP.kp [0,1,1,0,4,0,5,0] [] 5 [(0,.box [Aqk 1,jn w.Tick,jn w.Seed,Aqk 2,Aqk 3])] ?_;refine Xi (tt [[],[0,1],[0,2],[0,3],[],[4,1],[4,2],[4,3],[],[4,5],[4,6],[],[],[11,2],[11,3],[0,15],[0,16],[0,17],[0,17],[],[0,18,19,1],[0,21]]) (tt [[],[69,1],[69,2],[69,3],[],[73,1],[73,2],[73,3],[],[73,5],[73,6],[],[],[80,2],[80,3],[69,15],[69,16],[68,17],[68,17],[],[6,1,68,18],[6,1,68,19]]) (tt [[6,1,73,11],[6,1,73,11],[6,1,73,11],[6,1,73,11],[6,1,69,4,77,1,80,4],[6,1,69,4,77,1,80,4],[6,1,69,4,77,1,80,4],[6,1,69,4,77,1,80,4],[6,1,69,8,80,4],[6,1,69,4,80,4],[6,1,69,4,80,4],[6,1,69,11,81,1],[6,1,69,12],[6,1,69,11],[6,1,69,11],[6,1],[6,1],[6,1,86,1],[6,1,85,1],[68,19],[86,1],[],[18,1]]) J ?_;refine Wz [17,128,145,136,17,128,67,129] ?_;refine Uq (Q6 J J J J Aqe J J) J ?_;refine Wz [35,64] ?_;refine Uq (Kr J J (cs) J J J) J ?_;refine Wz [229,166,166,221,12] ?_;refine AL.kp [0,1,1,0,4,0,5,0,6,6,86,0] [(85,.o (.ag (Aqi c)))] 6 [(0,.box [Aqk 1,jn w.Tick,jn w.Seed,Aqk 2,Aqk 3]),(5,.box [jn 0,jn 0,jn 0,jn 0,jn 0,jn 0,jn 0,jn 0,jn 0])] ?_;refine Wz [47,16] ?_;refine AWP.kp [0,1,1,0,4,0,5,0,6,6,7,0] [] 6 [(0,.box [Aqk 1,jn w.Tick,jn w.Seed,Aqk 2,Aqk 3]),(5,.box (Aqi c))] ?_;refine Xi u8_43 (tt [[],[87,1],[87,2],[87,3],[],[],[87,6],[87,7]]) (tt [[91,2],[91,2],[91,2],[91,2],[87,4,92,1],[87,5],[],[]]) J ?_;refine Wz [17,128,67,136,129,12] ?_;refine AL.kp [0,1,1,0,4,0,5,0,6,6,7,0] [(92,.o (.ag (Aqi c))),(93,.o (.c (.el 3 9 k 0)))] 6 [(0,.box [Aqk 1,jn w.Tick,jn w.Seed,Aqk 2,Aqk 3]),(5,.box (Aqi c))] ?_
   with_reducible refine Xe ?_
   refine Wz [206,1] ?_
   refine AWP.pre (st':=(⟨_,[(0,Aqf 0),(1,L row),(4,I (els w.Scores).length),(5,I k),(6,Aqf 5),(7,B f)],[.box [Aqk 1,jn w.Tick,jn w.Seed,Aqk 2,Aqk 3],.row 1 (els w.Level.Rows),.row 1 (els w.Scores),.row 9 (els (bs.set k c)),.gh 0 (.c (.ptr 0 0)),.box (Aqi c)]⟩:St)) ?_ (by rw[Y9]; exact Yj [0,1,2,3,4,5] Aqb)
   clear he
   cases f with
   |false =>
    refine Wz [10,182,87,5,81] ?_
    exact⟨w.Scores.length-(k+1),Aqa,_,⟨k+1,bs.set k c,Aqa,(by rw[hnx]; rfl),J⟩,Yj [0,1,2,3,4] Aqb⟩
   | true =>
    by_cases h24:bs.length<24
    ·have f3:decide (((els (bs.set k c)).length:Int)<24)=true:=Gqb Aqa 
     rw[if_pos ⟨rfl,h24⟩] at hnx
     refine Wz [11,21,0,275,2,112,33,2,19,83] ?_;refine Xi u8_46 (tt [[],[],[104,1],[104,2],[104,3],[],[108,1],[108,2],[104,7],[103,9],[103,10],[103,11]]) (tt [[104,8],[103,1,108,3],[103,1,108,3],[103,1,108,3],[103,1,108,3],[103,5],[103,5],[103,5],[103,1],[],[],[],[0,1]]) J ?_;refine Wz [35,128,37,136] ?_;refine Uq (Kr J J (csh) J J J) J ?_;refine Wz [153,12] ?_;refine AL.kr [0,1,1,0,4,0,5,0,103,1] [(107,Aqg 3),(110,.o (.c (.sb 5 1 9)))] [0,1,2,3,4,6] [(0,.box [Aqk 1,jn w.Tick,jn w.Seed,Aqk 2,Aqk 3]),(3,.row 9 (els (bs.set k c))),(6,.box ((Enc.e (shotOf c)).map (V1.rd [])))] ?_;refine Wz [122,61,121,130] ?_
     exact⟨w.Scores.length-(k+1),Aqa,_,⟨k+1,bs.set k c ++ [shotOf c],Aqa,hnx.symm,J⟩,(by rw[Y3]; exact Yj [0,1,2,3,4] Aqb)⟩
    ·have f3:decide (((els (bs.set k c)).length:Int)<24)=false:=Gqa Aqa 
     rw[if_neg (fun q=>h24 q.2)] at hnx
     refine Wz [11,21,0,275,2,112,33,2,19,46,81] ?_
     exact Bjo
 have hb0:decide ((k:Int)<(els w.Scores).length)=false:=Gqa Aqa 
 have hk:k=w.Scores.length:=Aqa
 rw[hk] at hp_A
 have hPl:=hPP.pl
 rw[←hp_A] at hPl
 have hmv:movedM w row=mvM w.Level bs:=by rw[movedM,hp_A]
 have hL:=hPl.lm
 have htm:=hPl.tm
 clear hPl hPP hp_A hbo
 have hlb:=Y7 bs
 have hln:=hL.len
 refine Wz [15,92,30,3,184,16,51] ?_;refine Xj (fun m st=>∃ (j:Nat) (kr:List TBody),j+m=bs.length∧(kr=(bs.take j).filterMap (mvOne w.Level))∧st=(⟨_,[(0,Aqf 0),(1,L row),(4,I (els w.Scores).length),(8,Aqg 5),(9,I j)],[.box [Aqk 1,jn w.Tick,jn w.Seed,Aqk 2,Aqk 3],.row 1 (els w.Level.Rows),.row 1 (els w.Scores),.row 9 (els bs),.gh 0 (.c (.ptr 0 0)),.row 9 (els kr)]⟩:St)) (bs.length) ⟨_,⟨0,[],Aqa,J,J⟩,Yj [0,1,2,3,4,5] Aqb⟩ ?_
 rintro m_B _ ⟨j,kr,hk_B,hp_B,rfl⟩
 have hlkr:=Y7 kr
 have hkl:=mv_len hp_B
 by_cases hlt:j<bs.length
 ·have hb0:decide ((j:Int)<(els bs).length)=true:=Gqb Aqa 
  obtain⟨b,hb⟩:=Ua hlt
  refine Wz [15,61,31,33,77,11,61,68,106] ?_
  have he:=Za hb
  with_reducible refine Xf ?_
  refine zx (Q6 J J J J Aqe J J) J ?_
  with_reducible refine K_alloc ?_
  refine M1 (Qx J J J) J J ?_
  with_reducible refine Xe ?_
  refine Wz [39] ?_;refine AWP.kp [0,1,1,0,4,0,9,0,10,7] [(8,Aqg 5)] 7 [(0,.box [Aqk 1,jn w.Tick,jn w.Seed,Aqk 2,Aqk 3]),(6,.box (Aqi b))] ?_
  clear he
  obtain⟨hB,hKn⟩:=hL.at_ j b hb
  have hkd:=hB.k
  have hlf:=hB.f
  have ht:=htm b (Gqn hb)
  by_cases k2:b.Kind=2
  ·have f1:decide (b.Kind=2)=true:=Gqb k2
   have hm:=mv_some hp_B hb (mv_two k2)
   refine Wz [4,18,20,55,139,139,139,80,83,11,85,116,122,8,190,191,27,49] ?_
   exact⟨bs.length-(j+1),Aqa,_,⟨j+1,kr ++ [b],Aqa,hm,J⟩,Bxk⟩
  have f1:decide (b.Kind=2)=false:=Gqa k2
  by_cases k0:b.Kind=0∧b.Life=0
  ·have f2:decide ((j:Int)<(els w.Scores).length)=true:=Gqb (by have:=hKn.1 k0.1; omega)
   have f3:decide (b.Life=0)=true:=Gqb k0.2
   have hm:=mv_some hp_B hb (mv_dead k0.1 k0.2)
   refine Wz [4,18,20,14,21,19,2,71,20,2,46,5,32,11,85,116,122,8,190,191,27,49] ?_
   exact⟨bs.length-(j+1),Aqa,_,⟨j+1,kr ++ [b],Aqa,hm,J⟩,Bxk⟩
  obtain⟨c,s,hcs⟩:∃ c s,(c,s)=moveM w.Level b:=⟨_,_,rfl⟩
  have cm:=S_l02Move w.Level b hg.1 hl hB.k hB.p hB.vx hB.vy
  have hct:(moveM w.Level b).1.Timer=b.Timer:=rfl
  have ma:=@mv_a w.Level b
  have mn:=@mv_n w.Level b
  have ms:=@mv_s w.Level b
  rw[←hcs] at cm hct ma mn ms
  simp only at cm hct ma mn ms
  clear hcs hB
  by_cases hA:b.Kind=0
  ·have f2:decide ((j:Int)<(els w.Scores).length)=true:=Gqb (by have:=hKn.1 hA; omega)
   have f3:decide (b.Life=0)=false:=Gqa (fun q=>k0 ⟨hA,q⟩)
   have f4:decide (b.Kind=1)=false:=Gqa Aqa 
   have hm:=mv_some hp_B hb (ma ⟨hA,by have:b.Life≠0:=fun q=>k0 ⟨hA,q⟩; omega⟩)
   refine Wz [4,18,20,14,21,19,2,71,20,2,46,5,135] ?_;refine AWP.kp [0,1,1,0,4,0,9,0,10,7] [(8,Aqg 5)] 7 [(0,.box [Aqk 1,jn w.Tick,jn w.Seed,Aqk 2,Aqk 3]),(6,.box (Aqi b))] ?_;refine Xi u8_47 u8_50 u8_51 J ?_;refine Wz [17,128,145,136,136] ?_;refine Uq (Kr J J (cm) J J J) J ?_;refine Wz [229,166,166,221,12] ?_;refine AL.kp [0,1,1,0,4,0,9,0,10,7,11,8,156,0] [(8,Aqg 5),(155,.o (.ag (Aqi c)))] 8 [(0,.box [Aqk 1,jn w.Tick,jn w.Seed,Aqk 2,Aqk 3]),(6,.box (Aqi b)),(7,.box [jn 0,jn 0,jn 0,jn 0,jn 0,jn 0,jn 0,jn 0,jn 0])] ?_
   with_reducible refine Xe ?_
   refine Qy J J J J J J J J J ?_
   with_reducible refine K_assign ?_
   refine Wz [8] ?_;refine AWP.kp [0,1,1,0,4,0,9,0,10,7,11,8,12,0] [(8,Aqg 5)] 8 [(0,.box [Aqk 1,jn w.Tick,jn w.Seed,Aqk 2,Aqk 3]),(6,.box (Aqi b)),(7,.box (Aqi c))] ?_;refine Wz [4,18,20,28,27,85,116,122,110] ?_
   exact⟨bs.length-(j+1),Aqa,_,⟨j+1,kr ++ [c],Aqa,hm,J⟩,Bxk⟩
  have k1:b.Kind=1:=Aqa
  have f2:decide ((j:Int)<(els w.Scores).length)=false:=Gqa (fun q=>hA (hKn.2 Aqa))
  have f4:decide (b.Kind=1)=true:=Gqb k1
  have f5:decide (b.Kind=0)=false:=Gqa hA
  refine Wz [4,18,20,14,21,19,2,0,87,80,2,5,5,135] ?_;refine AWP.kp [0,1,1,0,4,0,9,0,10,7] [(8,Aqg 5)] 7 [(0,.box [Aqk 1,jn w.Tick,jn w.Seed,Aqk 2,Aqk 3]),(6,.box (Aqi b))] ?_;refine Xi u8_47 u8_50 u8_51 J ?_;refine Wz [17,128,145,136,136] ?_;refine Uq (Kr J J (cm) J J J) J ?_;refine Wz [229,166,166,221,12] ?_;refine AL.kp [0,1,1,0,4,0,9,0,10,7,11,8,156,0] [(8,Aqg 5),(155,.o (.ag (Aqi c)))] 8 [(0,.box [Aqk 1,jn w.Tick,jn w.Seed,Aqk 2,Aqk 3]),(6,.box (Aqi b)),(7,.box [jn 0,jn 0,jn 0,jn 0,jn 0,jn 0,jn 0,jn 0,jn 0])] ?_
  with_reducible refine Xe ?_
  refine Qy J J J J J J J J J ?_
  with_reducible refine K_assign ?_
  refine Wz [8] ?_;refine AWP.kp [0,1,1,0,4,0,9,0,10,7,11,8,12,0] [(8,Aqg 5)] 8 [(0,.box [Aqk 1,jn w.Tick,jn w.Seed,Aqk 2,Aqk 3]),(6,.box (Aqi b)),(7,.box (Aqi c))] ?_
  rw[←hct] at ht
  cases s with
  |true =>
   have hm:=mv_none hp_B hb (mn (fun q=>hA q.1) k1 (.inl rfl))
   refine Wz [4,18,20,32,18,29,52,10,87,80,83,190,191,27,49] ?_
   exact⟨bs.length-(j+1),Aqa,_,⟨j+1,kr,Aqa,hm,J⟩,Yj [0,1,2,3,4,5] Aqb⟩
  | false =>
   by_cases h1:c.Timer-1=0
   ·have f6:decide (c.Timer-1=0)=true:=Gqb h1
    have hm:=mv_none hp_B hb (mn (fun q=>hA q.1) k1 (.inr (by rw[←hct]; exact h1)))
    refine Wz [4,18,20,32,18,29,52,11,71,20,5,32,190,191,27,49] ?_
    exact⟨bs.length-(j+1),Aqa,_,⟨j+1,kr,Aqa,hm,J⟩,Yj [0,1,2,3,4,5] Aqb⟩
   ·have f6:decide (c.Timer-1=0)=false:=Gqa h1
    have hm:=mv_some hp_B hb (ms (fun q=>hA q.1) k1 (fun q=>q.elim (fun q=>Gx7 q) (fun q=>h1 (by rw[hct]; exact q))))
    refine Wz [4,18,20,32,18,29,52,11,71,20,5,28,27,85,116,122,110] ?_
    exact⟨bs.length-(j+1),Aqa,_,⟨j+1,kr ++ [tick1 c],Aqa,hm,J⟩,Bxk⟩
 have hb0:decide ((j:Int)<(els bs).length)=false:=Gqa Aqa 
 have hj:j=bs.length:=Aqa
 have hm:kr=movedM w row:=by rw[hp_B,hj,Gxs,hmv]; rfl
 subst hm
 clear hmv hL htm hp_B
 refine Wz [15,61,31,33,92,30,10,61,52,11] ?_;refine AL.kr [0,1,1,0,4,0,178,1] [] [0,1,2,5,4] [(0,.box [Aqk 1,jn w.Tick,jn w.Seed,Aqk 2,Aqk 3])] ?_;refine Xd (lo := [_,_,_,_]) (gs := [(0,.c (.ptr 0 0))]) (lo' := [_,_,_,_]) (new := []) [0,1,2,3] [(0,0,.ptr 0 0)] (d1) J J J J J J J J J J J J J J J J J ?_;refine Wz [113,61,31,13,61,52,10,61,31] ?_;refine AL.kp [0,1,1,0,4,0,187,1,191,0] [] 5 [(0,.box [Aqk 1,jn (w.Tick+1),jn w.Seed,Aqk 2,Aqk 3])] ?_
 clear d1
 refine kc0 e1 ?_;refine Wz [61,52,11,61,154] ?_;refine AL.kp [0,1,1,0,4,0] [(198,.o (.ag [Aqk 1]))] 5 [(0,.box [Aqk 1,jn (w.Tick+1),jn (nextR w.Seed),Aqk 2,Aqk 3])] ?_
 clear e1
 obtain⟨sd,hsd2⟩:∃ sd,sd=nextR w.Seed:=⟨_,rfl⟩
 rw[←hsd2] at hnr
 rw[←hsd2]
 by_cases q1:(w.Tick+1)%16≠0
 ·have g1:decide ((w.Tick+1)%16≠0)=true:=Gqb q1
  rw[last_1 (.inl q1)]
  refine kc1 e2 ?_;refine Wz [40,61,31,167,22,0,87,80,46,55,87,83,177,89] ?_
  exact Bz1
 have g1:decide ((w.Tick+1)%16≠0)=false:=Gqa q1
 by_cases q2:(spotsM w.Level).length=0
 ·have g2:decide (((els (spotsM w.Level)).length:Int)=0)=true:=Gqb Aqa 
  rw[last_1 (.inr (.inl q2))]
  refine kc1 e2 ?_;refine Wz [40,61,31,167,22,14,33,2,20,5,55,87,83,177,89] ?_
  exact Bz1
 have g2:decide (((els (spotsM w.Level)).length:Int)=0)=false:=Gqa Aqa 
 by_cases q3:24≤b4.length
 ·have g3:decide (((els b4).length:Int)≥24)=true:=Gqb Aqa 
  rw[last_1 (.inr (.inr q3))]
  refine kc1 e2 ?_;refine Wz [40,61,31,167,22,14,33,2,20,5,21,0,275,2,112,33,2,169,5,32,177,89] ?_
  exact Bz1
 have g3:decide (((els b4).length:Int)≥24)=false:=Gqa Aqa 
 have q:¬((w.Tick+1)%16≠0∨(spotsM w.Level).length=0∨24≤b4.length):=fun h=>h.elim q1 fun h=>h.elim q2 q3
 obtain⟨i,hi1,hi2,hi3⟩:=spotOf_mem (seed:=sd) q2
 obtain⟨x,y,hxy,hx,hy⟩:=spot_rng hl (Gqn hi3)
 have e3:=S_RandomBelow sd ((els (spotsM w.Level)).length:Int) hnr ⟨Aqa,Aqa⟩
 rw[show belowR sd ((els (spotsM w.Level)).length:Int)=i by rw[hlsp]; exact hi1] at e3
 have hsp:(els (spotsM w.Level))[(i:Int).toNat]? = some (Enc.e [x,y]):=Za (by rw[hi3,hxy])
 have hx0:(els [x,y])[(0:Int).toNat]? = some (Enc.e x):=rfl
 have hy0:(els [x,y])[(1:Int).toNat]? = some (Enc.e y):=rfl
 refine kc1 e2 ?_;refine Wz [40,61,31,167,22,14,33,2,20,5,21,0,275,2,112,33,2,169,5,97,61,68,33] ?_;refine kc1 e3 ?_;refine Wz [120,26,8,10,61,52,41,8,34] ?_;refine AWP.kp [0,1,4,0,15,0,16,0] [(13,Aqg 5)] 6 [(0,.box [Aqk 1,jn (w.Tick+1),jn (nextR sd),Aqk 2,Aqk 3])] ?_;refine A_lp (b4.length-w.Scores.length) (fun t=>itemAt (b4.take (w.Scores.length+t)) x y=false) (fun t => [(0,Aqf 0),(4,I (els w.Scores).length),(13,Aqg 5),(15,I (i:Int)),(16,I (((els w.Scores).length+t:Nat):Int))]) (fun t => [.box [Aqk 1,jn (w.Tick+1),jn (nextR sd),Aqk 2,Aqk 3],.row 1 (els w.Level.Rows),.row 1 (els s4),.row 9 (els b4),.gh 0 (.c (.ptr 0 0)),.row 1 (els (spotsM w.Level))]) (at_pl hM1 x y) (Yk [0,1,2,3,4,5] Aqc J Aqb (.c J (.c J (.c J (.c J (.cons (X0 Aqa) (.nil))))))) ?_
 intro m_C t hk_C hp_C
 by_cases hlt:t<b4.length-w.Scores.length
 ·have hb0:decide ((((els w.Scores).length+t:Nat):Int)<(els b4).length)=true:=Gqb Aqa 
  obtain⟨b,hbb⟩:=Ua (xs:=b4) (i:=w.Scores.length+t) Aqa 
  have he:=at_el hbb
  refine Wz [15,61,31,33,77,4] ?_
  by_cases k1:b.Kind=2
  case neg =>
   have p1:decide (b.Kind=2)=false:=Gqa k1
   refine Xi u8_52 u8_53 u8_54 J ?_;refine Wz [17,128,67,129,249,163] ?_;refine Uq (Qv J J J J Aqe) J ?_;refine Wz [118,127,127,199,188,84,118,127,127,199,188,84,12,81] ?_
   exact⟨(b4.length-w.Scores.length)-(t+1),Aqa,(fun t:Nat=>(⟨_,[(0,Aqf 0),(4,I (els w.Scores).length),(13,Aqg 5),(15,I (i:Int)),(16,I (((els w.Scores).length+t:Nat):Int))],[.box [Aqk 1,jn (w.Tick+1),jn (nextR sd),Aqk 2,Aqk 3],.row 1 (els w.Level.Rows),.row 1 (els s4),.row 9 (els b4),.gh 0 (.c (.ptr 0 0)),.row 1 (els (spotsM w.Level))]⟩:St)) (t+1),⟨t+1,Aqa,at_go hbb (fun h=>k1 h.1) hp_C,J⟩,Yk [0,1,2,3,4,5] Aqc J Aqb (.c J (.c J (.c J (.c J (.cons (X0 Aqa) (.nil))))))⟩
  have p1:decide (b.Kind=2)=true:=Gqb k1
  by_cases k2:b.X=x
  case neg =>
   have p2:decide (b.X=x)=false:=Gqa k2
   refine Xi u8_52 u8_53 u8_54 J ?_;refine Wz [17,128,67,129,249,163] ?_;refine Uq (Qv J J J J Aqe) J ?_;refine Wz [17,62,203,24,62,178,231,200,62,62,178,200,156,164,291,88,118,127,127,199,188,84,12,81] ?_
   exact⟨(b4.length-w.Scores.length)-(t+1),Aqa,(fun t:Nat=>(⟨_,[(0,Aqf 0),(4,I (els w.Scores).length),(13,Aqg 5),(15,I (i:Int)),(16,I (((els w.Scores).length+t:Nat):Int))],[.box [Aqk 1,jn (w.Tick+1),jn (nextR sd),Aqk 2,Aqk 3],.row 1 (els w.Level.Rows),.row 1 (els s4),.row 9 (els b4),.gh 0 (.c (.ptr 0 0)),.row 1 (els (spotsM w.Level))]⟩:St)) (t+1),⟨t+1,Aqa,at_go hbb (fun h=>k2 h.2.1) hp_C,J⟩,Yk [0,1,2,3,4,5] Aqc J Aqb (.c J (.c J (.c J (.c J (.cons (X0 Aqa) (.nil))))))⟩
  have p2:decide (b.X=x)=true:=Gqb k2
  by_cases k3:b.Y=y
  case neg =>
   have p3:decide (b.Y=y)=false:=Gqa k3
   refine Xi u8_52 u8_53 u8_54 J ?_;refine Wz [17,128,67,129,249,163] ?_;refine Uq (Qv J J J J Aqe) J ?_;refine Wz [17,62,203,24,62,178,231,200,62,62,178,200,156,164,291,88,17,62,203,24,62,178,231,200,62,62,178,200,156,164,291,88,12,81] ?_
   exact⟨(b4.length-w.Scores.length)-(t+1),Aqa,(fun t:Nat=>(⟨_,[(0,Aqf 0),(4,I (els w.Scores).length),(13,Aqg 5),(15,I (i:Int)),(16,I (((els w.Scores).length+t:Nat):Int))],[.box [Aqk 1,jn (w.Tick+1),jn (nextR sd),Aqk 2,Aqk 3],.row 1 (els w.Level.Rows),.row 1 (els s4),.row 9 (els b4),.gh 0 (.c (.ptr 0 0)),.row 1 (els (spotsM w.Level))]⟩:St)) (t+1),⟨t+1,Aqa,at_go hbb (fun h=>k3 h.2.2) hp_C,J⟩,Yk [0,1,2,3,4,5] Aqc J Aqb (.c J (.c J (.c J (.c J (.cons (X0 Aqa) (.nil))))))⟩
  have p3:decide (b.Y=y)=true:=Gqb k3
  rw[last_2 q hxy (at_hit hbb ⟨k1,k2,k3⟩)]
  refine Xi u8_52 u8_53 u8_54 J ?_;refine Wz [17,128,67,129,249,163] ?_;refine Uq (Qv J J J J Aqe) J ?_;refine Wz [17,62,203,24,62,178,231,200,62,62,178,200,156,164,291,88,17,62,203,24,62,178,231,200,62,62,178,200,156,164,291,88,12,32,177,57] ?_
  exact Bz1
 ·have hb0:decide ((((els w.Scores).length+t:Nat):Int)<(els b4).length)=false:=Gqa Aqa 
  have hk:w.Scores.length+t=b4.length:=Aqa
  rw[hk,Gxs] at hp_C
  rw[last_3 q hxy hp_C]
  refine Wz [15,61,31,33,92,30] ?_;refine Xi (tt [[],[],[1,1],[1,2],[1,3],[],[],[5,2],[5,3],[5,4],[5,5],[],[],[11,2],[11,3],[11,4],[11,5],[5,12],[5,13],[1,18],[0,20],[0,21],[0,22]]) (tt [[],[],[287,1],[287,2],[287,3],[],[],[291,2],[291,3],[291,4],[291,5],[],[],[297,2],[297,3],[297,4],[297,5],[291,12],[291,13],[287,18],[286,20],[286,21],[286,22]]) (tt [[287,19],[286,1,291,14],[286,1,291,14],[286,1,291,14],[286,1,291,14],[286,5,292,1,297,6],[286,6,297,6],[286,5,297,6],[286,5,297,6],[286,5,297,6],[286,5,297,6],[286,11,298,1],[286,12],[286,11],[286,11],[286,11],[286,11],[286,5],[286,5],[286,1],[],[],[],[0,1]]) J ?_;refine Wz [35,128,37,35,129,163,64,35,129,163,64,257,153,12] ?_;refine AL.kr [286,1] [(290,Aqg 3),(304,.o (.c (.sb 5 1 9)))] [0,1,2,3,4,6] [(0,.box [Aqk 1,jn (w.Tick+1),jn (nextR sd),Aqk 2,Aqk 3]),(6,.box ((Enc.e (itemB x y)).map (V1.rd [])))] ?_;refine Wz [122,61,121,53,220] ?_
  exact Xo J (Yh [0,1,2,3,4] Aqc J (by exact rwBo (by rw[Y3]; rfl)) J)
end
section
open Tryz
open Go.RowKit

theorem S_StepWorld (w:TWorld) (row:List Int) (hg:Enc.gd w) (gr:Enc.gd row) (h1:w.Level.Rows.length≤1048576) (h2:w.Scores.length≤1048576) (h3:w.Bodies.length≤1048576):Co 196 [] [ag w,al row] [.row 1 (els w.Level.Rows),.row 1 (els (stepW w row).Scores),.row 9 (els (stepW w row).Bodies)] (.o (.ag [Aqk 0,jn (stepW w row).Tick,jn (stepW w row).Seed,Aqk 1,Aqk 2])):=by
 have hls:=Y7 w.Scores
 have hlb:=Y7 w.Bodies
 have c1:=Yf w hg h1 h2 h3
 have c2:=S_WorldOk w hg
 have c3:=S_rowOk row ((els w.Scores).length:Int) gr
 rw[show rowOk row ((els w.Scores).length:Int)=rowOk row (w.Scores.length:Int) by rw[hls]] at c3
 cases ho:worldOk w with
 |false =>
  rw[step_F (fun q=>by rw[ho] at q; cases q.1)]
  rw[ho] at c2
  refine Con.o func196 ntmps196 fun E=>?_;refine Wz [59,1,7] ?_;refine kc1 c1 ?_;refine Wz [91,4,7] ?_;refine kc0 c2 ?_;refine Wz [6,0,87,80,46,55,87,83,7,39,177,89] ?_
  exact Bzu
 |true =>
 rw[ho] at c2
 by_cases ht:w.Tick=100000
 ·have f1:decide (w.Tick=100000)=true:=Gqb ht
  rw[step_F (fun q=>q.2.1 ht)]
  refine Con.o func196 ntmps196 fun E=>?_;refine Wz [59,1,7] ?_;refine kc1 c1 ?_;refine Wz [91,4,7] ?_;refine kc0 c2 ?_;refine Wz [6,71,20,5,55,87,83,7,39,177,89] ?_
  exact Bzu
 have f1:decide (w.Tick=100000)=false:=Gqa ht
 cases hr:rowOk row (w.Scores.length:Int) with
 |false =>
  rw[step_F (fun q=>by rw[hr] at q; cases q.2.2)]
  rw[hr] at c3
  refine Con.o func196 ntmps196 fun E=>?_;refine Wz [59,1,7] ?_;refine kc1 c1 ?_;refine Wz [91,4,7] ?_;refine kc0 c2 ?_;refine Wz [6,71,20,5,14,112,25,2] ?_;refine kc0 c3 ?_;refine Wz [2,6,5,32,7,39,177,89] ?_
  exact Bzu
 |true =>
 rw[hr] at c3
 rw[step_T ⟨ho,ht,hr⟩]
 have d1:=S_l02Step w row hg ho ht hr
 refine Con.o func196 ntmps196 fun E=>?_;refine Wz [59,1,7] ?_;refine kc1 c1 ?_;refine Wz [91,4,7] ?_;refine kc0 c2 ?_;refine Wz [6,71,20,5,14,112,25,2] ?_;refine kc0 c3 ?_;refine Wz [2,6,5,97] ?_;refine AL.kr [4,5,5,1,25,0] [] [5,2,3,4,1] [(5,.box [Aqk 1,jn w.Tick,jn w.Seed,Aqk 2,Aqk 3]),(1,.box [nilV,jn 0,jn 0,nilV,nilV])] ?_
 clear c1 c2 c3 f1
 refine Xd (lo := [_,_,_,_]) (gs := [(0,.c (.ptr 0 0))]) (lo' := [_,_,_,_]) (new := []) [0,1,2,3] [(0,0,.ptr 0 0)] (d1) J J J J J J J J J J J J J J J J J ?_;refine Wz [1,7,39,73] ?_
 exact Bz2
end
section
open Go.RowKit

structure RepIn (y:TReplay):Prop where
 gd:Enc.gd y
 h1:y.Level.Rows.length≤1048576
 h2:y.Keys.length≤1048576
 h3:y.Rows.length≤1048576
 h4:tot y.Rows≤1048576
structure WorIn (w:TWorld):Prop where
 gd:Enc.gd w
 h1:w.Level.Rows.length≤1048576
 h2:w.Scores.length≤1048576
 h3:w.Bodies.length≤1048576
theorem wor_zero:WorIn zeroWorld:=⟨⟨⟨by simp[zeroWorld],fun x hx=>by simp[zeroWorld] at hx⟩,⟨Aqc,Aqc⟩,⟨Aqc,Aqc⟩,⟨by simp[zeroWorld],fun x hx=>by simp[zeroWorld] at hx⟩,⟨by simp[zeroWorld],fun x hx=>by simp[zeroWorld] at hx⟩⟩,by simp[zeroWorld],by simp[zeroWorld],by simp[zeroWorld]⟩
theorem read_in {lv:TLevel} {s:ByteArray} (hg:Enc.gd lv) (hL:lv.Rows.length≤1048576) (hs:s.size≤1099511627776):WorIn (rwW (readWorld lv s)):=by
 cases hu:unpackInts s 0 with
 |none=>rw[Vu hu]; exact wor_zero
 | some r =>
  obtain⟨l,pos⟩:=r
  obtain⟨_,hu1,hu2,hu3,hu4⟩:=Uf hu
  by_cases hp:pos=s.size∧formOk l∧worldOk (worldOf lv l)=true
  ·rw[Vv hu hp]
   have hw:=Uj hp.2.2
   exact⟨worldOf_gd hg hu4 Aqa,hL,Gxo hw.2.2.2.1.2 Aqc,Gxo hw.2.2.2.2.2.1.2 Aqc⟩
  ·rw[Vt hu hp]; exact wor_zero
end
section
open Go.RowKit

theorem step_in {w:TWorld} {row:List Int} (h:WorIn w):WorIn (stepW w row):=by
 have h1:=stepW_fits (row:=row) h.gd
 exact⟨h1.1,by rw[stepW_level]; exact h.h1,by rw[h1.2.1]; exact h.h2,by have:=h.h3; omega⟩
end
section
open Go.RowKit

/-! ### Worlds -/
/-! ### Runs -/
/-! ### The lockstep worlds -/
section
variable {l:TLevel} {n:Nat} {seed:Int} {e:Nat} {rows:List (List Int)}
structure RD (l:TLevel) (n:Nat) (seed:Int) (e:Nat) (rows:List (List Int)):Prop where
 hl:levelOk l=true
 gl:Enc.gd l
 ll:l.Rows.length≤1048576
 hn:1≤n∧n≤4
 hs:inR seed 0 65535=true
 he:1≤e∧e≤100
 hL:rows.length≤400
 hr:∀ r∈rows,rowOk r (n:Int)=true
end
end
section
open Go.RowKit

section
variable {n k j:Nat} {t bs:List TBody} {ss:List Int} {s:List TBody×List Int} {b:TBody} {c:Int}
end
end
section
open Go.RowKit

section
variable {n k j P:Nat} {t bs:List TBody} {ss:List Int} {s:List TBody×List Int} {b:TBody} {c a:Int}
end
end
section
open Go.RowKit

noncomputable def wsum (w:TWorld):Int:=checksum (worldBytes w)
end
section
open Go.RowKit
end
section
open Tryz
open Go.RowKit

def xorB (a:ByteArray) (i:Nat) (x:UInt8):UInt8:=if i<a.size then UInt8.ofNat (x.toNat^^^(byteAt a i).toNat) else x
def xorL (a b:ByteArray):List UInt8:=(List.range b.size).map fun i=>xorB a i (b.data.toList.getD i 0)
def xorText (a b:ByteArray):ByteArray:=bs (xorL a b)
theorem xorL_len (a b:ByteArray):(xorL a b).length=b.data.toList.length:=by simp[xorL]
theorem xorL_at {a b:ByteArray} {i:Nat} (h:i<(xorL a b).length) (h':i<b.data.toList.length):(xorL a b)[i]=xorB a i b.data.toList[i]:=by
 have h2:b.data.toList.getD i 0=b.data.toList[i]:=by rw[Gqf,Gqg h']; rfl
 simp only[xorL,List.getElem_map,List.getElem_range,h2]
theorem mk_nextL {α:Type} {ms xs:List α} (hl:ms.length=xs.length) {i:Nat} (h:i<xs.length):ms.take (i+1)++xs.drop (i+1)=(ms.take i++xs.drop i).set i (ms[i]' Aqa):=by
 have h2:i<ms.length:=Aqa
 have hi:(ms.take i).length=i:=Bqz
 rw[Gxb h2,List.set_append_right _ _ Aqa]
 have:i-(ms.take i).length=0:=Aqa
 rw[this,Gxr h,List.set_cons_zero,Gqz]
 rfl
theorem bE_set (l:List UInt8) (i:Nat) (x:UInt8):bE (l.set i x)=(bE l).set i [.v (.int .u8 (x.toNat:Int))]:=by simp[bE,List.map_set]
theorem bE_at {l:List UInt8} {i:Nat} (h:i<l.length):(bE l)[(i:Int).toNat]? = some [.v (.int .u8 ((l[i]).toNat:Int))]:=by
 rw[Int.toNat_natCast,bE,Gqk,Gqg h]
 rfl
theorem xor_end {a b:ByteArray} {i:Nat} (hi:i≤b.data.toList.length) (h:b.data.toList.length≤i∨a.size≤i):(xorL a b).take i++b.data.toList.drop i=xorL a b:=by
 have hl:=xorL_len a b
 have hml:=mk_len hl hi
 apply List.ext_getElem?
 intro j
 by_cases hj:j<i
 ·by_cases hjl:j<(xorL a b).length
  ·rw[Gq2 Bqz,Gxh,if_pos hj]
  ·rw[List.getElem?_eq_none Aqa,List.getElem?_eq_none Aqa]
 ·by_cases hjl:j<(xorL a b).length
  ·have ha:a.size≤i:=Aqa
   have hti:((xorL a b).take i).length=i:=Bqz
   rw[Gq3 Aqa,hti,Gq7,show i+(j-i)=j by omega,Gqg Aqa,Gqg hjl,xorL_at hjl Aqa,xorB,if_neg Aqa]
  ·rw[List.getElem?_eq_none Aqa,List.getElem?_eq_none Aqa]
theorem I_XorText (a b:ByteArray) (ha:a.size≤1099511627776) (hb:b.size≤1099511627776):Co 215 [] [astr a,astr b] [] (S (xorText a b)):=by
 have hl:=xorL_len a b
 have hbl:b.data.toList.length=b.size:=Aqd
 refine Con.o func215 ntmps215 fun E=>?_;refine Wz [23,11] ?_;refine M1 (q_strb J J J Aqa) J J ?_;refine Wz [16,51] ?_;refine Xj (fun m__ st=>∃ (i:Nat),b.size-i=m__∧(i≤b.size∧i≤a.size)∧st=(⟨_,[(0,S a),(5,Aqg 0),(6,I i)],[.row 1 (bE ((xorL a b).take i++b.data.toList.drop i))]⟩:St)) _ ⟨_,⟨0,J,⟨Gxm _,Gxm _⟩,J⟩,Yj [0] Aqb⟩ ?_
 rintro m_A _ ⟨i,hk_A,hp_A,rfl⟩
 have hrow:(bE ((xorL a b).take i++b.data.toList.drop i)).length=b.size:=by rw[Yt,mk_len hl Aqa]; exact hbl
 refine Wz [15,33,160,0,171,252] ?_;refine zx (Qt.grdT J J J (.hit (.hit .stop)) (fun hgrd=>Vd J J J)) J ?_;refine zx (Qt.grdT J J J (.hit (.hit (.hit .stop))) (fun hgrd=>Vh J J J J)) J ?_;refine Wz [66,1] ?_
 refine Xb J (fun h=>?_) (fun h=>?_)
 ·simp only[Gqh,decide_eq_true_eq] at h
  have hib:i<b.data.toList.length:=Aqa
  have hil:i<((xorL a b).take i++b.data.toList.drop i).length:=by rw[mk_len hl Aqa]; exact hib
  have hat:=bE_at hil
  rw[mk_at hl hib] at hat
  obtain⟨c,hc⟩:∃ c:UInt8,c=b.data.toList[i]:=⟨_,rfl⟩
  rw[←hc] at hat
  have hc2:=c.toNat_lt
  have hby:=Yy a i
  have hy:(UInt8.ofNat (c.toNat^^^(byteAt a i).toNat)).toNat=c.toNat^^^(byteAt a i).toNat:=by
   have:c.toNat^^^(byteAt a i).toNat<2 ^ 8:=Nat.xor_lt_two_pow Aqa Aqa 
   rw[UInt8.toNat_ofNat']
   exact Nat.mod_eq_of_lt this
  have hby2:byteAt a (i:Int).toNat=byteAt a i:=rfl
  have hend:bE ((xorL a b).take (i+1)++b.data.toList.drop (i+1))=(bE ((xorL a b).take i++b.data.toList.drop i)).set (i:Int).toNat (splice [.v (.int .u8 (c.toNat:Int))] 0 [.v (.int .u8 (((c.toNat:Int).toNat^^^(byteAt a i).toNat:Nat):Int))]):=by
   rw[mk_nextL hl hib,bE_set,xorL_at Aqa hib,xorB,if_pos Aqa,←hc,hy]
   rfl
  refine Wz [9] ?_;refine Xi [[],[],[0,1],[0,1,2],[],[],[4,5],(u9 7),(u9 8),(u9 9)] (tt [[],[],[21,2],[21,3],[],[],[25,2],[21,7],[21,8],[21,9]]) (tt [[22,1,25,3],[21,1,25,3],[25,3],[25,3],[21,4,26,1],[21,5],[21,4],[],[],[]]) J ?_;refine Wz [35,129,163,35] ?_;refine Uq (Kq J J J J Aqe Aqa) J (Uq (q_bxor8 J J J J Aqa) J ?_);refine Wz [129,12,170,130] ?_
  refine⟨_, Aqa,(fun (i:Nat)=>(⟨_,[(0,S a),(5,Aqg 0),(6,I i)],[.row 1 (bE ((xorL a b).take i++b.data.toList.drop i))]⟩:St)) (i+1),⟨i+1,J,⟨Aqa,Aqa⟩,J⟩,Yk [0] Aqc J (Vy hend) (.c J (.c J (.c J (.nil))))⟩
 ·simp only[Gxp,decide_eq_false_iff_not] at h
  have hend:=xor_end (a:=a) (b:=b) (i:=i) Aqa Aqa 
  rw[hend]
  refine Wz [223,236,36] ?_
  exact Bzh
theorem S_XorText (a b:ByteArray) (ha:a.size≤1099511627776) (hb:b.size≤1099511627776):Co 195 [] [astr a,astr b] [] (S (xorText a b)):=by
 have hl:=xorL_len a b
 have hbl:b.data.toList.length=b.size:=Aqd
 refine Con.o func195 ntmps195 fun E=>?_;refine Wz [23,11] ?_;refine M1 (q_strb J J J Aqa) J J ?_;refine Wz [16,51] ?_;refine Xj (fun m__ st=>∃ (i:Nat),b.size-i=m__∧(i≤b.size∧i≤a.size)∧st=(⟨_,[(0,S a),(5,Aqg 0),(6,I i)],[.row 1 (bE ((xorL a b).take i++b.data.toList.drop i))]⟩:St)) _ ⟨_,⟨0,J,⟨Gxm _,Gxm _⟩,J⟩,Yj [0] Aqb⟩ ?_
 rintro m_A _ ⟨i,hk_A,hp_A,rfl⟩
 have hrow:(bE ((xorL a b).take i++b.data.toList.drop i)).length=b.size:=by rw[Yt,mk_len hl Aqa]; exact hbl
 refine Wz [15,33,160,0,171,252] ?_;refine zx (Qt.grdT J J J (.hit (.hit .stop)) (fun hgrd=>Vd J J J)) J ?_;refine zx (Qt.grdT J J J (.hit (.hit (.hit .stop))) (fun hgrd=>Vh J J J J)) J ?_;refine Wz [66,1] ?_
 refine Xb J (fun h=>?_) (fun h=>?_)
 ·simp only[Gqh,decide_eq_true_eq] at h
  have hib:i<b.data.toList.length:=Aqa
  have hil:i<((xorL a b).take i++b.data.toList.drop i).length:=by rw[mk_len hl Aqa]; exact hib
  have hat:=bE_at hil
  rw[mk_at hl hib] at hat
  obtain⟨c,hc⟩:∃ c:UInt8,c=b.data.toList[i]:=⟨_,rfl⟩
  rw[←hc] at hat
  have hc2:=c.toNat_lt
  have hby:=Yy a i
  have hy:(UInt8.ofNat (c.toNat^^^(byteAt a i).toNat)).toNat=c.toNat^^^(byteAt a i).toNat:=by
   have:c.toNat^^^(byteAt a i).toNat<2 ^ 8:=Nat.xor_lt_two_pow Aqa Aqa 
   rw[UInt8.toNat_ofNat']
   exact Nat.mod_eq_of_lt this
  have hby2:byteAt a (i:Int).toNat=byteAt a i:=rfl
  have hend:bE ((xorL a b).take (i+1)++b.data.toList.drop (i+1))=(bE ((xorL a b).take i++b.data.toList.drop i)).set (i:Int).toNat (splice [.v (.int .u8 (c.toNat:Int))] 0 [.v (.int .u8 (((c.toNat:Int).toNat^^^(byteAt a i).toNat:Nat):Int))]):=by
   rw[mk_nextL hl hib,bE_set,xorL_at Aqa hib,xorB,if_pos Aqa,←hc,hy]
   rfl
  refine Wz [9] ?_;refine Xi (tt [[],[],[],[],[2,2],[2,3],[],[],[6,2],[2,7],[0,10],[0,11]]) (tt [[],[],[],[],[23,2],[23,3],[],[],[27,2],[23,7],[21,10],[21,11]]) (tt [[22,9],[21,1,23,8],[21,2,24,1,27,3],[21,3,27,3],[21,2,27,3],[21,2,27,3],[21,6,28,1],[21,7],[21,6],[21,2],[],[]]) J ?_;refine Wz [35,35,129,163,35] ?_;refine Uq (Kq J J J J Aqe Aqa) J (Uq (q_bxor8 J J J J Aqa) J ?_);refine Wz [129,12,170,130] ?_
  refine⟨_, Aqa,(fun (i:Nat)=>(⟨_,[(0,S a),(5,Aqg 0),(6,I i)],[.row 1 (bE ((xorL a b).take i++b.data.toList.drop i))]⟩:St)) (i+1),⟨i+1,J,⟨Aqa,Aqa⟩,J⟩,Yk [0] Aqc J (Vy hend) (.c J (.c J (.c J (.nil))))⟩
 ·simp only[Gxp,decide_eq_false_iff_not] at h
  have hend:=xor_end (a:=a) (b:=b) (i:=i) Aqa Aqa 
  rw[hend]
  refine Wz [223,236,36] ?_
  exact Bzh
end
section
open Go.RowKit

structure FlyS (w v:TWire):Prop where
 de:v.Delay=w.Delay
 ji:v.Jitter=w.Jitter
 lo:v.Loss=w.Loss
 co:v.Copies=w.Copies
 da:v.Damage=w.Damage
 no:v.Now=w.Now
 se:v.Sent=w.Sent
end
end Go.Proofs.YtalaljeokcpfnaaGreat
