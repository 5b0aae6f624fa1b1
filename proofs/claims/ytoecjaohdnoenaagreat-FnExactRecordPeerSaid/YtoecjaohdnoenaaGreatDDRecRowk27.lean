/-
  Rules, data and contracts of functions: part 28 of the proof.
  Conditions: those that each theorem names.
-/
import Derived.Test.YtoecjaohdnoenaaGreatDDRecRowk26
set_option linter.unusedSimpArgs false
set_option linter.unusedVariables false
set_option maxRecDepth 8000
set_option maxHeartbeats 8000000
namespace Go.Proofs.YtoecjaohdnoenaaGreat
section
open Go.RowKit

theorem mv_two {l:TLevel} {b:TBody} (h:b.Kind=2):mvOne l b=some b:=by rw[mvOne,if_neg (by omega),if_neg (by omega)]
theorem mv_dead {l:TLevel} {b:TBody} (h:b.Kind=0) (h1:b.Life=0):mvOne l b=some b:=by rw[mvOne,if_neg (by omega),if_neg (by omega)]
theorem at_pl {l:TLevel} {n:Nat} {bs:List TBody} (h:LM l n bs) (x y:Int):itemAt (bs.take n) x y=false:=by
 rw[itemAt,List.any_eq_false]
 intro b hb
 obtain⟨j,hj⟩:=List.getElem?_of_mem hb
 rw[Gq9] at hj
 split at hj
 ·have:=(h.at_ j b hj).2.2 (by assumption)
  simp only[isItem,decide_eq_true_eq]
  omega
 ·cases hj
theorem S_l02Step (w:TWorld) (row:List Int) (hg:Enc.gd w) (ho:worldOk w=true) (ht:w.Tick≠100000) (hr:rowOk row w.Scores.length=true):Con Tryz.prog 248 [.box [.ref 1,jn w.Tick,jn w.Seed,.ref 2,.ref 3],.row 1 (els w.Level.Rows),.row 1 (els w.Scores),.row 9 (els w.Bodies),.gh 0 (.c (.ptr 0 0))] [.c (.ptr 0 0),al row] [.box [.ref 1,jn (tickM w row).Tick,jn (tickM w row).Seed,.ref 2,.ref 3],.row 1 (els w.Level.Rows),.row 1 (els (tickM w row).Scores),.row 9 (els (tickM w row).Bodies),.gh 0 (.c (.ptr 0 0))] (.tu []):=by
 have hP:=PH.of hg ho hr
 have hsr:=K0 ho
 have hM:=hits_lm hP.mv rfl hsr
 obtain⟨hl,htk,hsd,hn,_,_,_⟩:=Vf ho
 have htk:=Za.1 htk
 have hsd:=Za.1 hsd
 have d1:=S_l02Hits ⟨w.Level,w.Tick,w.Seed,w.Scores,movedM w row⟩ hg.1 hl hn hP.mv hsr
 simp only at d1
 obtain⟨s4,hs4⟩:∃ s4,s4=(hitsR w.Scores.length (movedM w row) w.Scores).2:=⟨_,rfl⟩
 obtain⟨b4,hb4⟩:∃ b4,b4=(hitsR w.Scores.length (movedM w row) w.Scores).1:=⟨_,rfl⟩
 rw[←hs4,←hb4] at d1 hM
 rw[tickM,←hs4,←hb4]
 obtain⟨hM1,hM2,hM3⟩:=hM
 have e1:=S_NextRandom w.Seed ⟨by omega,by omega⟩
 have e2:=S_SpotsOf w.Level hg.1 hl
 have hlb4:=Yx b4
 have hbl:=hM1.len
 have hlsp:=Yx (spotsM w.Level)
 have hsl2:=spots_len hl
 have hnr:=Zl w.Seed
 clear hs4 hb4 ho
 have hPP:=hP
 obtain⟨hgl,gb,_,hn4,hlen,hbo,hrl,hri⟩:=hP
 have hls:=Yx w.Scores
 have hlr:=Yx row
 refine Con.of Tryz.func248 J Tryz.ntmps248 J (fun E => ?_)
 refine Wz [10,43,16,102,2,46] ?_;refine Xj (fun m st=>∃ (k:Nat) (bs:List TBody),k+m=w.Scores.length∧(bs=plM w.Level row w.Bodies k)∧st=(⟨_,[(0,.o (.c (.ptr 0 0))),(1,L row),(4,I (els w.Scores).length),(5,I k)],[.box [.ref 1,jn w.Tick,jn w.Seed,.ref 2,.ref 3],.row 1 (els w.Level.Rows),.row 1 (els w.Scores),.row 9 (els bs),.gh 0 (.c (.ptr 0 0))]⟩:St)) (w.Scores.length) ⟨_,⟨0,w.Bodies,by omega,J,J⟩,Gi [0,1,2,3,4]⟩ ?_
 rintro m_A _ ⟨k,bs,hk_A,hp_A,rfl⟩
 by_cases hlt:k<w.Scores.length
 ·have hb0:decide ((k:Int)<(els w.Scores).length)=true:=Gqb (by omega)
  have hP:=P1.all hl hn4.2 hlen hbo row k (by omega)
  rw[←hp_A] at hP
  have hln:=hP.lm.len
  obtain⟨b,hb⟩:=K4 (xs:=bs) (i:=k) (by omega)
  have hold:=hP.old k (Gqk _) hlt
  have hI:=old_at hbo (by rw[←hold]; exact hb) hlt
  have hB:=(hP.lm.at_ k b hb).1
  obtain⟨hpl,hpx,hpy⟩:=hB.placed hl
  obtain⟨i,hi⟩:=K4 (xs:=row) (i:=k) (by omega)
  have hir:=hri i (Gqq hi)
  have hnx:=pl_next hp_A hb hi
  have he:=Yz hb
  have her:=Yz hi
  have hlb:=Yx bs
  have htm:=hI.tm
  have hkl:=Y7 hb
  clear d1 e1 e2
  by_cases hf:b.Life=0
  ·have f1:decide (b.Life=0)=true:=Gqb hf
   rw[plOne,if_pos hf] at hnx
   refine Wz [20,75,11,40,43,58,47,123,124,15,29,10,43,58,47,123,124,65,47,123,125,3,40,43,58] ?_;refine AL.weak (st':=(⟨_,[(0,.o (.c (.ptr 0 0))),(1,L row),(4,I (els w.Scores).length),(5,I k),(50,.o (.c (.ref 3))),(51,I k)],[.box [.ref 1,jn w.Tick,jn w.Seed,.ref 2,.ref 3],.row 1 (els w.Level.Rows),.row 1 (els w.Scores),.row 9 (els (bs.set k (tick1 b))),.gh 0 (.c (.ptr 0 0))]⟩:St)) (Ga [0,1,2,3,4] J ((by exact rwBo (st_el0 J))) (.c J (.c J (.c J (.c J (.c J (.c J (.nil)))))))) ?_
   clear he
   have he:(els (bs.set k (tick1 b)))[(k:Int).toNat]? = some (Enc.e (tick1 b)):=Yz (by rw[Gxo hkl])
   have hlb2:(els (bs.set k (tick1 b))).length=bs.length:=by rw[Yx,Gxe]
   by_cases ht:b.Timer-1=0
   ·have f2:decide (b.Timer-1=0)=true:=Gqb ht
    rw[if_pos ht] at hnx
    have cf:=S_fresh w.Level k hg.1 hl ⟨by omega,by omega⟩
    refine Wz [47,123,124,15,29] ?_
    refine AWP.pre (st':=(⟨_,[(0,.o (.c (.ptr 0 0))),(1,L row),(4,I (els w.Scores).length),(5,I k)],[.box [.ref 1,jn w.Tick,jn w.Seed,.ref 2,.ref 3],.row 1 (els w.Level.Rows),.row 1 (els w.Scores),.row 9 (els (bs.set k (tick1 b))),.gh 0 (.c (.ptr 0 0))]⟩:St)) ?_ (Gi [0,1,2,3,4])
    refine Xi [[],[0],[0,1],[0,1,2],[],[],[5],[5,6],[5,6,7],[],[5,6,7,8,9],(u9 11),(u9 12)] [[],[56],[56,57],[56,57,58],[],[],[61],[61,62],[61,62,63],[],[61,62,63,64,65],[56,57,58,59,60,61,62,63,64,65,66],[56,57,58,59,60,61,62,63,64,65,66,67]] [[60,61,62,63,64,65,66],[60,61,62,63,64,65,66],[60,61,62,63,64,65,66],[60,61,62,63,64,65,66],[56,57,58,59,61,62,63,64,65,66],[56,57,58,59,60,65],[56,57,58,59,60,65],[56,57,58,59,60,65],[56,57,58,59,60,65],[56,57,58,59,60,61,62,63,64],[56,57,58,59,60],[],[]] J ?_;refine Wz [5,127,28,34,127,178,114,5] ?_;refine Vk (Z3 J J (cf) J J J) J ?_;refine Wz [128,21] ?_;refine AL.weak (st':=(⟨_,[(0,.o (.c (.ptr 0 0))),(1,L row),(4,I (els w.Scores).length),(5,I k),(66,.o (.ag ((Enc.e (fresh w.Level k)).map (V1.rd [])))),(67,.o (.c (.el 3 9 k 0)))],[.box [.ref 1,jn w.Tick,jn w.Seed,.ref 2,.ref 3],.row 1 (els w.Level.Rows),.row 1 (els w.Scores),.row 9 (els (bs.set k (tick1 b))),.gh 0 (.c (.ptr 0 0))]⟩:St)) (Gi [0,1,2,3,4]) ?_;refine Wz [215,3,164,165,33,105] ?_
    exact⟨w.Scores.length-(k+1),by omega,(fun (k:Nat) (bs:List TBody)=>(⟨_,[(0,.o (.c (.ptr 0 0))),(1,L row),(4,I (els w.Scores).length),(5,I k)],[.box [.ref 1,jn w.Tick,jn w.Seed,.ref 2,.ref 3],.row 1 (els w.Level.Rows),.row 1 (els w.Scores),.row 9 (els bs),.gh 0 (.c (.ptr 0 0))]⟩:St)) (k+1) (bs.set k (fresh w.Level k)),⟨k+1,bs.set k (fresh w.Level k),by omega,hnx.symm,J⟩,Ga [0,1,2,3,4] J ((by exact rwBo (st_el J))) (.c J (.c J (.c J (.c J (.nil)))))⟩
   ·have f2:decide (b.Timer-1=0)=false:=Gqa ht
    rw[if_neg ht] at hnx
    refine Wz [47,123,124,15,41,164,165,33,105] ?_
    exact⟨w.Scores.length-(k+1),by omega,_,⟨k+1,bs.set k (tick1 b),by omega,hnx.symm,J⟩,Gi [0,1,2,3,4]⟩
  ·have f1:decide (b.Life=0)=false:=Gqa hf
   rw[plOne,if_neg hf] at hnx
   have hfl:=hB.f
   obtain⟨c,f,hcf⟩:∃ c f,(c,f)=steer w.Level b i:=⟨_,_,rfl⟩
   have cs:=S_l02Steer w.Level b i hg.1 hl hI.kd hir ⟨by omega,by omega⟩ hB.vy (by have:=hB.p; rw[hI.kd] at this; exact this)
   have hca:=steer_aim (l:=w.Level) (i:=i) hI.am
   have hcx:(steer w.Level b i).1.X=b.X∧(steer w.Level b i).1.Y=b.Y:=⟨rfl,rfl⟩
   rw[←hcf] at cs hnx hca hcx
   simp only at cs hnx hca hcx
   have csh:=S_ShotOf c (by rw[hcx.1]; exact hpl.x) (by rw[hcx.2]; exact hpl.y) (by omega)
   have hlc:(els (bs.set k c)).length=bs.length:=by rw[Yx,Gxe]
   clear hcf hca hcx
   refine Wz [20,75,11,40,43,58,47,123,124,15,41,8] ?_
   refine AWP.pre (st':=(⟨_,[(0,.o (.c (.ptr 0 0))),(1,L row),(4,I (els w.Scores).length),(5,I k)],[.box [.ref 1,jn w.Tick,jn w.Seed,.ref 2,.ref 3],.row 1 (els w.Level.Rows),.row 1 (els w.Scores),.row 9 (els bs),.gh 0 (.c (.ptr 0 0))]⟩:St)) ?_ (Gi [0,1,2,3,4])
   refine Xi [[],[0],[0,1],[0,1,2],[],[4],[4,5],[4,5,6],[],[4,5,6,7,8],[4,5,6,7,8,9],[],[],[11,12],[11,12,13],(u9 15),(u9 16),(u9 17),(u9 17),[],[0,1,2,3,4,5,6,7,8,9,10,11,12,13,14,15,16,17,19],(u9 21)] [[],[69],[69,70],[69,70,71],[],[73],[73,74],[73,74,75],[],[73,74,75,76,77],[73,74,75,76,77,78],[],[],[80,81],[80,81,82],[69,70,71,72,73,74,75,76,77,78,79,80,81,82,83],[69,70,71,72,73,74,75,76,77,78,79,80,81,82,83,84],[68,69,70,71,72,73,74,75,76,77,78,79,80,81,82,83,84],[68,69,70,71,72,73,74,75,76,77,78,79,80,81,82,83,84],[],[6,68,69,70,71,72,73,74,75,76,77,78,79,80,81,82,83,84,85],[6,68,69,70,71,72,73,74,75,76,77,78,79,80,81,82,83,84,85,86]] [[6,73,74,75,76,77,78,79,80,81,82,83],[6,73,74,75,76,77,78,79,80,81,82,83],[6,73,74,75,76,77,78,79,80,81,82,83],[6,73,74,75,76,77,78,79,80,81,82,83],[6,69,70,71,72,77,80,81,82,83],[6,69,70,71,72,77,80,81,82,83],[6,69,70,71,72,77,80,81,82,83],[6,69,70,71,72,77,80,81,82,83],[6,69,70,71,72,73,74,75,76,80,81,82,83],[6,69,70,71,72,80,81,82,83],[6,69,70,71,72,80,81,82,83],[6,69,70,71,72,73,74,75,76,77,78,79,81],[6,69,70,71,72,73,74,75,76,77,78,79,80],[6,69,70,71,72,73,74,75,76,77,78,79],[6,69,70,71,72,73,74,75,76,77,78,79],[6],[6],[6,86],[6,85],[68,69,70,71,72,73,74,75,76,77,78,79,80,81,82,83,84,85,86],[86],[],[18]] J ?_;refine Wz [5,127,178,114,5,127,28,5,128] ?_;refine Vk (Q6 J J J J (by assumption) J J) J ?_;refine Wz [34,85] ?_;refine Vk (Z3 J J (cs) J J J) J ?_;refine Wz [205,154,154,195,21] ?_;refine AL.weak (st':=(⟨_,[(0,.o (.c (.ptr 0 0))),(1,L row),(4,I (els w.Scores).length),(5,I k),(6,.o (.c (.ptr 5 0))),(85,.o (.ag ((Enc.e c).map (V1.rd [])))),(86,B f)],[.box [.ref 1,jn w.Tick,jn w.Seed,.ref 2,.ref 3],.row 1 (els w.Level.Rows),.row 1 (els w.Scores),.row 9 (els bs),.gh 0 (.c (.ptr 0 0)),.box [jn 0,jn 0,jn 0,jn 0,jn 0,jn 0,jn 0,jn 0,jn 0]]⟩:St)) (Gi [0,1,2,3,4,5]) ?_;refine Wz [36,2,8] ?_
   refine AWP.pre (st':=(⟨_,[(0,.o (.c (.ptr 0 0))),(1,L row),(4,I (els w.Scores).length),(5,I k),(6,.o (.c (.ptr 5 0))),(7,B f)],[.box [.ref 1,jn w.Tick,jn w.Seed,.ref 2,.ref 3],.row 1 (els w.Level.Rows),.row 1 (els w.Scores),.row 9 (els bs),.gh 0 (.c (.ptr 0 0)),.box ((Enc.e c).map (V1.rd []))]⟩:St)) ?_ (Gi [0,1,2,3,4,5])
   refine Xi u8_29 [[],[87],[87,88],[87,88,89],[],[],[87,88,89,90,91,92],[87,88,89,90,91,92,93]] [[91,92],[91,92],[91,92],[91,92],[87,88,89,90,92],[87,88,89,90,91],[],[]] J ?_;refine Wz [5,127,28,5,114,128,21] ?_;refine AL.weak (st':=(⟨_,[(0,.o (.c (.ptr 0 0))),(1,L row),(4,I (els w.Scores).length),(5,I k),(6,.o (.c (.ptr 5 0))),(7,B f),(92,.o (.ag ((Enc.e c).map (V1.rd [])))),(93,.o (.c (.el 3 9 k 0)))],[.box [.ref 1,jn w.Tick,jn w.Seed,.ref 2,.ref 3],.row 1 (els w.Level.Rows),.row 1 (els w.Scores),.row 9 (els bs),.gh 0 (.c (.ptr 0 0)),.box ((Enc.e c).map (V1.rd []))]⟩:St)) (Gi [0,1,2,3,4,5]) ?_
   with_reducible refine Xe ?_
   refine Wz [215,3] ?_
   refine AWP.pre (st':=(⟨_,[(0,.o (.c (.ptr 0 0))),(1,L row),(4,I (els w.Scores).length),(5,I k),(6,.o (.c (.ptr 5 0))),(7,B f)],[.box [.ref 1,jn w.Tick,jn w.Seed,.ref 2,.ref 3],.row 1 (els w.Level.Rows),.row 1 (els w.Scores),.row 9 (els (bs.set k c)),.gh 0 (.c (.ptr 0 0)),.box ((Enc.e c).map (V1.rd []))]⟩:St)) ?_ (by rw[els_set]; exact Gi [0,1,2,3,4,5])
   clear he
   cases f with
   |false =>
    refine Wz [13,161,57,6,100] ?_
    exact⟨w.Scores.length-(k+1),by omega,_,⟨k+1,bs.set k c,by omega,(by rw[hnx]; rfl),J⟩,Gi [0,1,2,3,4]⟩
   | true =>
    by_cases h24:bs.length<24
    ·have f3:decide (((els (bs.set k c)).length:Int)<24)=true:=Gqb (by omega)
     rw[if_pos ⟨rfl,h24⟩] at hnx
     refine Wz [10,31,0,247,1,136,97,12,112] ?_;refine Xi u8_32 [[],[],[104],[104,105],[104,105,106],[],[108],[108,109],[104,105,106,107,108,109,110],[103,104,105,106,107,108,109,110,111],[103,104,105,106,107,108,109,110,111,112],[103,104,105,106,107,108,109,110,111,112,113]] [[104,105,106,107,108,109,110,111],[103,108,109,110],[103,108,109,110],[103,108,109,110],[103,108,109,110],[103,104,105,106,107],[103,104,105,106,107],[103,104,105,106,107],[103],[],[],[],[0]] J ?_;refine Wz [34,127,28,114] ?_;refine Vk (Z3 J J (csh) J J J) J ?_;refine Wz [176,21] ?_;refine AL.weak (st':=(⟨_,[(0,.o (.c (.ptr 0 0))),(1,L row),(4,I (els w.Scores).length),(5,I k),(103,.o (.c (.ptr 0 0))),(107,.o (.c (.ref 3))),(110,.o (.c (.sb 5 1 9)))],[.box [.ref 1,jn w.Tick,jn w.Seed,.ref 2,.ref 3],.row 1 (els w.Level.Rows),.row 1 (els w.Scores),.row 9 (els (bs.set k c)),.gh 0 (.c (.ptr 0 0)),.box ((Enc.e (shotOf c)).map (V1.rd []))]⟩:St)) (Gi [0,1,2,3,4,6]) ?_;refine Wz [121,43,144,51,129] ?_
     exact⟨w.Scores.length-(k+1),by omega,_,⟨k+1,bs.set k c ++ [shotOf c],by omega,hnx.symm,J⟩,(by rw[Yu]; exact Gi [0,1,2,3,4])⟩
    ·have f3:decide (((els (bs.set k c)).length:Int)<24)=false:=Gqa (by omega)
     rw[if_neg (fun q=>h24 q.2)] at hnx
     refine Wz [10,31,0,247,1,136,97,12,25,100] ?_
     exact⟨w.Scores.length-(k+1),by omega,_,⟨k+1,bs.set k c,by omega,hnx.symm,J⟩,Gi [0,1,2,3,4]⟩
 have hb0:decide ((k:Int)<(els w.Scores).length)=false:=Gqa (by omega)
 have hk:k=w.Scores.length:=by omega
 rw[hk] at hp_A
 have hPl:=hPP.pl
 rw[←hp_A] at hPl
 have hmv:movedM w row=mvM w.Level bs:=by rw[movedM,hp_A]
 have hL:=hPl.lm
 have htm:=hPl.tm
 clear hPl hPP hp_A hbo
 have hlb:=Yx bs
 have hln:=hL.len
 refine Wz [20,12,76,27,4,175,2,46] ?_;refine Xj (fun m st=>∃ (j:Nat) (kr:List TBody),j+m=bs.length∧(kr=(bs.take j).filterMap (mvOne w.Level))∧st=(⟨_,[(0,.o (.c (.ptr 0 0))),(1,L row),(4,I (els w.Scores).length),(8,.o (.c (.ref 5))),(9,I j)],[.box [.ref 1,jn w.Tick,jn w.Seed,.ref 2,.ref 3],.row 1 (els w.Level.Rows),.row 1 (els w.Scores),.row 9 (els bs),.gh 0 (.c (.ptr 0 0)),.row 9 (els kr)]⟩:St)) (bs.length) ⟨_,⟨0,[],by omega,J,J⟩,Gi [0,1,2,3,4,5]⟩ ?_
 rintro m_B _ ⟨j,kr,hk_B,hp_B,rfl⟩
 have hlkr:=Yx kr
 have hkl:=mv_len hp_B
 by_cases hlt:j<bs.length
 ·have hb0:decide ((j:Int)<(els bs).length)=true:=Gqb (by omega)
  obtain⟨b,hb⟩:=K4 hlt
  refine Wz [20,43,16,102,75,107,43,58,47] ?_
  have he:=Yz hb
  with_reducible refine Xf ?_
  refine zx (Q6 J J J J (by assumption) J J) J ?_
  with_reducible refine K_alloc ?_
  refine M1 (Qx J J J) J J ?_
  with_reducible refine Xe ?_
  refine Wz [56] ?_
  refine AWP.pre (st':=(⟨_,[(0,.o (.c (.ptr 0 0))),(1,L row),(4,I (els w.Scores).length),(8,.o (.c (.ref 5))),(9,I j),(10,.o (.c (.ptr 6 0)))],[.box [.ref 1,jn w.Tick,jn w.Seed,.ref 2,.ref 3],.row 1 (els w.Level.Rows),.row 1 (els w.Scores),.row 9 (els bs),.gh 0 (.c (.ptr 0 0)),.row 9 (els kr),.box ((Enc.e b).map (V1.rd []))]⟩:St)) ?_ (Gi [0,1,2,3,4,5,6])
  clear he
  obtain⟨hB,hKn⟩:=hL.at_ j b hb
  have hkd:=hB.k
  have hlf:=hB.f
  have ht:=htm b (Gqq hb)
  by_cases k2:b.Kind=2
  ·have f1:decide (b.Kind=2)=true:=Gqb k2
   have hm:=mv_some hp_B hb (mv_two k2)
   refine Wz [42,15,45,116,116,116,70,112,10,92,101,121,2,164,165,33,105] ?_
   exact⟨bs.length-(j+1),by omega,_,⟨j+1,kr ++ [b],by omega,hm,J⟩,(by rw[Yu]; exact Gi [0,1,2,3,4,5])⟩
  have f1:decide (b.Kind=2)=false:=Gqa k2
  by_cases k0:b.Kind=0∧b.Life=0
  ·have f2:decide ((j:Int)<(els w.Scores).length)=true:=Gqb (by have:=hKn.1 k0.1; omega)
   have f3:decide (b.Life=0)=true:=Gqb k0.2
   have hm:=mv_some hp_B hb (mv_dead k0.1 k0.2)
   refine Wz [42,15,81,12,1,54,15,1,25,6,29,10,92,101,121,2,164,165,33,105] ?_
   exact⟨bs.length-(j+1),by omega,_,⟨j+1,kr ++ [b],by omega,hm,J⟩,(by rw[Yu]; exact Gi [0,1,2,3,4,5])⟩
  obtain⟨c,s,hcs⟩:∃ c s,(c,s)=moveM w.Level b:=⟨_,_,rfl⟩
  have cm:=S_l02Move w.Level b hg.1 hl hB.k hB.p hB.vx hB.vy
  have hct:(moveM w.Level b).1.Timer=b.Timer:=rfl
  have ma:=@mv_a w.Level b
  have mn:=@mv_n w.Level b
  have ms:=@mv_s w.Level b
  rw[←hcs] at cm hct ma mn ms
  simp only at cm hct ma mn ms
  clear hcs hB
  by_cases hA:b.Kind=0
  ·have f2:decide ((j:Int)<(els w.Scores).length)=true:=Gqb (by have:=hKn.1 hA; omega)
   have f3:decide (b.Life=0)=false:=Gqa (fun q=>k0 ⟨hA,q⟩)
   have f4:decide (b.Kind=1)=false:=Gqa (by omega)
   have hm:=mv_some hp_B hb (ma ⟨hA,by have:b.Life≠0:=fun q=>k0 ⟨hA,q⟩; omega⟩)
   refine Wz [42,15,81,12,1,54,15,1,25,60,8] ?_
   refine AWP.pre (st':=(⟨_,[(0,.o (.c (.ptr 0 0))),(1,L row),(4,I (els w.Scores).length),(8,.o (.c (.ref 5))),(9,I j),(10,.o (.c (.ptr 6 0)))],[.box [.ref 1,jn w.Tick,jn w.Seed,.ref 2,.ref 3],.row 1 (els w.Level.Rows),.row 1 (els w.Scores),.row 9 (els bs),.gh 0 (.c (.ptr 0 0)),.row 9 (els kr),.box ((Enc.e b).map (V1.rd []))]⟩:St)) ?_ (Gi [0,1,2,3,4,5,6])
   refine Xi u8_33 u8_36 u8_37 J ?_;refine Wz [5,127,178,114,114] ?_;refine Vk (Z3 J J (cm) J J J) J ?_;refine Wz [205,154,154,195,21] ?_;refine AL.weak (st':=(⟨_,[(0,.o (.c (.ptr 0 0))),(1,L row),(4,I (els w.Scores).length),(8,.o (.c (.ref 5))),(9,I j),(10,.o (.c (.ptr 6 0))),(11,.o (.c (.ptr 7 0))),(155,.o (.ag ((Enc.e c).map (V1.rd [])))),(156,B s)],[.box [.ref 1,jn w.Tick,jn w.Seed,.ref 2,.ref 3],.row 1 (els w.Level.Rows),.row 1 (els w.Scores),.row 9 (els bs),.gh 0 (.c (.ptr 0 0)),.row 9 (els kr),.box ((Enc.e b).map (V1.rd [])),.box [jn 0,jn 0,jn 0,jn 0,jn 0,jn 0,jn 0,jn 0,jn 0]]⟩:St)) (Gi [0,1,2,3,4,5,6,7]) ?_
   with_reducible refine Xe ?_
   refine Qy J J J J J J J J J ?_
   with_reducible refine K_assign ?_
   refine Wz [2] ?_
   refine AWP.pre (st':=(⟨_,[(0,.o (.c (.ptr 0 0))),(1,L row),(4,I (els w.Scores).length),(8,.o (.c (.ref 5))),(9,I j),(10,.o (.c (.ptr 6 0))),(11,.o (.c (.ptr 7 0))),(12,B s)],[.box [.ref 1,jn w.Tick,jn w.Seed,.ref 2,.ref 3],.row 1 (els w.Level.Rows),.row 1 (els w.Scores),.row 9 (els bs),.gh 0 (.c (.ptr 0 0)),.row 9 (els kr),.box ((Enc.e b).map (V1.rd [])),.box ((Enc.e c).map (V1.rd []))]⟩:St)) ?_ (Gi [0,1,2,3,4,5,6,7])
   refine Wz [42,15,41,33,92,101,121,104] ?_
   exact⟨bs.length-(j+1),by omega,_,⟨j+1,kr ++ [c],by omega,hm,J⟩,(by rw[Yu]; exact Gi [0,1,2,3,4,5])⟩
  have k1:b.Kind=1:=by omega
  have f2:decide ((j:Int)<(els w.Scores).length)=false:=Gqa (fun q=>hA (hKn.2 (by omega)))
  have f4:decide (b.Kind=1)=true:=Gqb k1
  have f5:decide (b.Kind=0)=false:=Gqa hA
  refine Wz [42,15,81,12,1,0,57,70,1,6,60,8] ?_
  refine AWP.pre (st':=(⟨_,[(0,.o (.c (.ptr 0 0))),(1,L row),(4,I (els w.Scores).length),(8,.o (.c (.ref 5))),(9,I j),(10,.o (.c (.ptr 6 0)))],[.box [.ref 1,jn w.Tick,jn w.Seed,.ref 2,.ref 3],.row 1 (els w.Level.Rows),.row 1 (els w.Scores),.row 9 (els bs),.gh 0 (.c (.ptr 0 0)),.row 9 (els kr),.box ((Enc.e b).map (V1.rd []))]⟩:St)) ?_ (Gi [0,1,2,3,4,5,6])
  refine Xi u8_33 u8_36 u8_37 J ?_;refine Wz [5,127,178,114,114] ?_;refine Vk (Z3 J J (cm) J J J) J ?_;refine Wz [205,154,154,195,21] ?_;refine AL.weak (st':=(⟨_,[(0,.o (.c (.ptr 0 0))),(1,L row),(4,I (els w.Scores).length),(8,.o (.c (.ref 5))),(9,I j),(10,.o (.c (.ptr 6 0))),(11,.o (.c (.ptr 7 0))),(155,.o (.ag ((Enc.e c).map (V1.rd [])))),(156,B s)],[.box [.ref 1,jn w.Tick,jn w.Seed,.ref 2,.ref 3],.row 1 (els w.Level.Rows),.row 1 (els w.Scores),.row 9 (els bs),.gh 0 (.c (.ptr 0 0)),.row 9 (els kr),.box ((Enc.e b).map (V1.rd [])),.box [jn 0,jn 0,jn 0,jn 0,jn 0,jn 0,jn 0,jn 0,jn 0]]⟩:St)) (Gi [0,1,2,3,4,5,6,7]) ?_
  with_reducible refine Xe ?_
  refine Qy J J J J J J J J J ?_
  with_reducible refine K_assign ?_
  refine Wz [2] ?_
  refine AWP.pre (st':=(⟨_,[(0,.o (.c (.ptr 0 0))),(1,L row),(4,I (els w.Scores).length),(8,.o (.c (.ref 5))),(9,I j),(10,.o (.c (.ptr 6 0))),(11,.o (.c (.ptr 7 0))),(12,B s)],[.box [.ref 1,jn w.Tick,jn w.Seed,.ref 2,.ref 3],.row 1 (els w.Level.Rows),.row 1 (els w.Scores),.row 9 (els bs),.gh 0 (.c (.ptr 0 0)),.row 9 (els kr),.box ((Enc.e b).map (V1.rd [])),.box ((Enc.e c).map (V1.rd []))]⟩:St)) ?_ (Gi [0,1,2,3,4,5,6,7])
  rw[←hct] at ht
  cases s with
  |true =>
   have hm:=mv_none hp_B hb (mn (fun q=>hA q.1) k1 (.inl rfl))
   refine Wz [42,15,29,23,65,30,13,57,70,112,164,165,33,105] ?_
   exact⟨bs.length-(j+1),by omega,_,⟨j+1,kr,by omega,hm,J⟩,Gi [0,1,2,3,4,5]⟩
  | false =>
   by_cases h1:c.Timer-1=0
   ·have f6:decide (c.Timer-1=0)=true:=Gqb h1
    have hm:=mv_none hp_B hb (mn (fun q=>hA q.1) k1 (.inr (by rw[←hct]; exact h1)))
    refine Wz [42,15,29,23,65,30,10,54,15,6,29,164,165,33,105] ?_
    exact⟨bs.length-(j+1),by omega,_,⟨j+1,kr,by omega,hm,J⟩,Gi [0,1,2,3,4,5]⟩
   ·have f6:decide (c.Timer-1=0)=false:=Gqa h1
    have hm:=mv_some hp_B hb (ms (fun q=>hA q.1) k1 (fun q=>q.elim (fun q=>Gxt q) (fun q=>h1 (by rw[hct]; exact q))))
    refine Wz [42,15,29,23,65,30,10,54,15,60,33,92,101,121,104] ?_
    exact⟨bs.length-(j+1),by omega,_,⟨j+1,kr ++ [tick1 c],by omega,hm,J⟩,(by rw[Yu]; exact Gi [0,1,2,3,4,5])⟩
 have hb0:decide ((j:Int)<(els bs).length)=false:=Gqa (by omega)
 have hj:j=bs.length:=by omega
 have hm:kr=movedM w row:=by rw[hp_B,hj,Gxd,hmv]; rfl
 subst hm
 clear hmv hL htm hp_B
 refine Wz [20,43,16,102,12,76,27,13,43,30,10] ?_;refine AL.weak (st':=(⟨_,[(0,.o (.c (.ptr 0 0))),(1,L row),(4,I (els w.Scores).length),(178,.o (.c (.ptr 0 0)))],[.box [.ref 1,jn w.Tick,jn w.Seed,.ref 2,.ref 3],.row 1 (els w.Level.Rows),.row 1 (els w.Scores),.row 9 (els (movedM w row)),.gh 0 (.c (.ptr 0 0))]⟩:St)) (Gi [0,1,2,5,4]) ?_;refine Xd (lo := [_,_,_,_]) (gs := [(0,.c (.ptr 0 0))]) (lo' := [_,_,_,_]) (new := []) [0,1,2,3] [(0,0,.ptr 0 0)] (d1) J J J J J J J J J J J J J J J J J ?_;refine Wz [3,10,43,16,18,43,30,13,43,16] ?_;refine AL.weak (st':=(⟨_,[(0,.o (.c (.ptr 0 0))),(1,L row),(4,I (els w.Scores).length),(187,.o (.c (.ptr 0 0))),(191,I w.Seed)],[.box [.ref 1,jn (w.Tick+1),jn w.Seed,.ref 2,.ref 3],.row 1 (els w.Level.Rows),.row 1 (els s4),.row 9 (els b4),.gh 0 (.c (.ptr 0 0))]⟩:St)) (Gi [0,1,2,3,4]) ?_
 clear d1
 refine zx (Qj J J (e1) J) J ?_;refine Wz [43,30,10,43,267] ?_;refine AL.weak (st':=(⟨_,[(0,.o (.c (.ptr 0 0))),(1,L row),(4,I (els w.Scores).length),(198,.o (.ag [.ref 1]))],[.box [.ref 1,jn (w.Tick+1),jn (nextR w.Seed),.ref 2,.ref 3],.row 1 (els w.Level.Rows),.row 1 (els s4),.row 9 (els b4),.gh 0 (.c (.ptr 0 0))]⟩:St)) (Gi [0,1,2,3,4]) ?_
 clear e1
 obtain⟨sd,hsd2⟩:∃ sd,sd=nextR w.Seed:=⟨_,rfl⟩
 rw[←hsd2] at hnr
 rw[←hsd2]
 by_cases q1:(w.Tick+1)%16≠0
 ·have g1:decide ((w.Tick+1)%16≠0)=true:=Gqb q1
  rw[last_1 (.inl q1)]
  refine M1 (Z3 J J (e2) J J J) J J ?_;refine Wz [78,43,16,149,24,0,57,70,25,45,57,112,74,64] ?_
  exact Xo J (Gc [0,1,2,3,4] J J J)
 have g1:decide ((w.Tick+1)%16≠0)=false:=Gqa q1
 by_cases q2:(spotsM w.Level).length=0
 ·have g2:decide (((els (spotsM w.Level)).length:Int)=0)=true:=Gqb (by omega)
  rw[last_1 (.inr (.inl q2))]
  refine M1 (Z3 J J (e2) J J J) J J ?_;refine Wz [78,43,16,149,24,19,97,15,6,45,57,112,74,64] ?_
  exact Xo J (Gc [0,1,2,3,4] J J J)
 have g2:decide (((els (spotsM w.Level)).length:Int)=0)=false:=Gqa (by omega)
 by_cases q3:24≤b4.length
 ·have g3:decide (((els b4).length:Int)≥24)=true:=Gqb (by omega)
  rw[last_1 (.inr (.inr q3))]
  refine M1 (Z3 J J (e2) J J J) J J ?_;refine Wz [78,43,16,149,24,19,97,15,6,31,0,247,1,136,97,143,6,29,74,64] ?_
  exact Xo J (Gc [0,1,2,3,4] J J J)
 have g3:decide (((els b4).length:Int)≥24)=false:=Gqa (by omega)
 have q:¬((w.Tick+1)%16≠0∨(spotsM w.Level).length=0∨24≤b4.length):=fun h=>h.elim q1 fun h=>h.elim q2 q3
 obtain⟨i,hi1,hi2,hi3⟩:=spotOf_mem (seed:=sd) q2
 obtain⟨x,y,hxy,hx,hy⟩:=spot_rng hl (Gqq hi3)
 have e3:=S_RandomBelow sd ((els (spotsM w.Level)).length:Int) hnr ⟨by omega,by omega⟩
 rw[show belowR sd ((els (spotsM w.Level)).length:Int)=i by rw[hlsp]; exact hi1] at e3
 have hsp:(els (spotsM w.Level))[(i:Int).toNat]? = some (Enc.e [x,y]):=Yz (by rw[hi3,hxy])
 have hx0:(els [x,y])[(0:Int).toNat]? = some (Enc.e x):=rfl
 have hy0:(els [x,y])[(1:Int).toNat]? = some (Enc.e y):=rfl
 refine M1 (Z3 J J (e2) J J J) J J ?_;refine Wz [78,43,16,149,24,19,97,15,6,31,0,247,1,136,97,143,60,10,43,58,102] ?_;refine M1 (Z3 J J (e3) J J J) J J ?_;refine Wz [71,38,2,13,43,30,40,192] ?_
 refine AWP.pre (st':=(⟨_,[(0,.o (.c (.ptr 0 0))),(4,I (els w.Scores).length),(13,.o (.c (.ref 5))),(15,I (i:Int)),(16,I (els w.Scores).length)],[.box [.ref 1,jn (w.Tick+1),jn (nextR sd),.ref 2,.ref 3],.row 1 (els w.Level.Rows),.row 1 (els s4),.row 9 (els b4),.gh 0 (.c (.ptr 0 0)),.row 1 (els (spotsM w.Level))]⟩:St)) ?_ (Gi [0,1,2,3,4,5])
 refine Xj (fun m st=>∃ t:Nat,t+m=(b4.length-w.Scores.length)∧(itemAt (b4.take (w.Scores.length+t)) x y=false)∧st=(⟨_,[(0,.o (.c (.ptr 0 0))),(4,I (els w.Scores).length),(13,.o (.c (.ref 5))),(15,I (i:Int)),(16,I (((els w.Scores).length+t:Nat):Int))],[.box [.ref 1,jn (w.Tick+1),jn (nextR sd),.ref 2,.ref 3],.row 1 (els w.Level.Rows),.row 1 (els s4),.row 9 (els b4),.gh 0 (.c (.ptr 0 0)),.row 1 (els (spotsM w.Level))]⟩:St)) ((b4.length-w.Scores.length)) ⟨(fun t:Nat=>(⟨_,[(0,.o (.c (.ptr 0 0))),(4,I (els w.Scores).length),(13,.o (.c (.ref 5))),(15,I (i:Int)),(16,I (((els w.Scores).length+t:Nat):Int))],[.box [.ref 1,jn (w.Tick+1),jn (nextR sd),.ref 2,.ref 3],.row 1 (els w.Level.Rows),.row 1 (els s4),.row 9 (els b4),.gh 0 (.c (.ptr 0 0)),.row 1 (els (spotsM w.Level))]⟩:St)) 0,⟨0,by omega,at_pl hM1 x y,J⟩,Ga [0,1,2,3,4,5] J (by kernel_rfl) (.c J (.c J (.c J (.c J (.cons (Xz (by omega)) (.nil))))))⟩ ?_
 rintro m_C _ ⟨t,hk_C,hp_C,rfl⟩
 by_cases hlt:t<b4.length-w.Scores.length
 ·have hb0:decide ((((els w.Scores).length+t:Nat):Int)<(els b4).length)=true:=Gqb (by omega)
  obtain⟨b,hbb⟩:=K4 (xs:=b4) (i:=w.Scores.length+t) (by omega)
  have he:=at_el hbb
  refine Wz [20,43,16,102,75,11,8] ?_
  by_cases k1:b.Kind=2
  case neg =>
   have p1:decide (b.Kind=2)=false:=Gqa k1
   refine Wz [287,5,127,28,5,128,288,151,289,5,61,61,61,258,193,90,5,61,61,61,258,193,90,21,100] ?_
   exact⟨(b4.length-w.Scores.length)-(t+1),by omega,(fun t:Nat=>(⟨_,[(0,.o (.c (.ptr 0 0))),(4,I (els w.Scores).length),(13,.o (.c (.ref 5))),(15,I (i:Int)),(16,I (((els w.Scores).length+t:Nat):Int))],[.box [.ref 1,jn (w.Tick+1),jn (nextR sd),.ref 2,.ref 3],.row 1 (els w.Level.Rows),.row 1 (els s4),.row 9 (els b4),.gh 0 (.c (.ptr 0 0)),.row 1 (els (spotsM w.Level))]⟩:St)) (t+1),⟨t+1,by omega,at_go hbb (fun h=>k1 h.1) hp_C,J⟩,Ga [0,1,2,3,4,5] J (by kernel_rfl) (.c J (.c J (.c J (.c J (.cons (Xz (by omega)) (.nil))))))⟩
  have p1:decide (b.Kind=2)=true:=Gqb k1
  by_cases k2:b.X=x
  case neg =>
   have p2:decide (b.X=x)=false:=Gqa k2
   refine Wz [287,5,127,28,5,128,288,151,289,5,68,177,35,68,153,197,173,68,68,153,173,198,199,268,113,5,61,61,61,258,193,90,21,100] ?_
   exact⟨(b4.length-w.Scores.length)-(t+1),by omega,(fun t:Nat=>(⟨_,[(0,.o (.c (.ptr 0 0))),(4,I (els w.Scores).length),(13,.o (.c (.ref 5))),(15,I (i:Int)),(16,I (((els w.Scores).length+t:Nat):Int))],[.box [.ref 1,jn (w.Tick+1),jn (nextR sd),.ref 2,.ref 3],.row 1 (els w.Level.Rows),.row 1 (els s4),.row 9 (els b4),.gh 0 (.c (.ptr 0 0)),.row 1 (els (spotsM w.Level))]⟩:St)) (t+1),⟨t+1,by omega,at_go hbb (fun h=>k2 h.2.1) hp_C,J⟩,Ga [0,1,2,3,4,5] J (by kernel_rfl) (.c J (.c J (.c J (.c J (.cons (Xz (by omega)) (.nil))))))⟩
  have p2:decide (b.X=x)=true:=Gqb k2
  by_cases k3:b.Y=y
  case neg =>
   have p3:decide (b.Y=y)=false:=Gqa k3
   refine Wz [287,5,127,28,5,128,288,151,289,5,68,177,35,68,153,197,173,68,68,153,173,198,199,268,113,5,68,177,35,68,153,197,173,68,68,153,173,198,199,268,113,21,100] ?_
   exact⟨(b4.length-w.Scores.length)-(t+1),by omega,(fun t:Nat=>(⟨_,[(0,.o (.c (.ptr 0 0))),(4,I (els w.Scores).length),(13,.o (.c (.ref 5))),(15,I (i:Int)),(16,I (((els w.Scores).length+t:Nat):Int))],[.box [.ref 1,jn (w.Tick+1),jn (nextR sd),.ref 2,.ref 3],.row 1 (els w.Level.Rows),.row 1 (els s4),.row 9 (els b4),.gh 0 (.c (.ptr 0 0)),.row 1 (els (spotsM w.Level))]⟩:St)) (t+1),⟨t+1,by omega,at_go hbb (fun h=>k3 h.2.2) hp_C,J⟩,Ga [0,1,2,3,4,5] J (by kernel_rfl) (.c J (.c J (.c J (.c J (.cons (Xz (by omega)) (.nil))))))⟩
  have p3:decide (b.Y=y)=true:=Gqb k3
  rw[last_2 q hxy (at_hit hbb ⟨k1,k2,k3⟩)]
  refine Wz [287,5,127,28,5,128,288,151,289,5,68,177,35,68,153,197,173,68,68,153,173,198,199,268,113,5,68,177,35,68,153,197,173,68,68,153,173,198,199,268,113,21,29,74,69] ?_
  exact Xo J (Gc [0,1,2,3,4] J J J)
 ·have hb0:decide ((((els w.Scores).length+t:Nat):Int)<(els b4).length)=false:=Gqa (by omega)
  have hk:w.Scores.length+t=b4.length:=by omega
  rw[hk,Gxd] at hp_C
  rw[last_3 q hxy hp_C]
  refine Wz [20,43,16,102,12,76,27] ?_;refine Xi [[],[],[1],[1,2],[1,2,3],[],[],[5,6],[5,6,7],[5,6,7,8],[5,6,7,8,9],[],[],[11,12],[11,12,13],[11,12,13,14],[11,12,13,14,15],[5,6,7,8,9,10,11,12,13,14,15,16],[5,6,7,8,9,10,11,12,13,14,15,16,17],[1,2,3,4,5,6,7,8,9,10,11,12,13,14,15,16,17,18],(u9 20),(u9 21),(u9 22)] [[],[],[287],[287,288],[287,288,289],[],[],[291,292],[291,292,293],[291,292,293,294],[291,292,293,294,295],[],[],[297,298],[297,298,299],[297,298,299,300],[297,298,299,300,301],[291,292,293,294,295,296,297,298,299,300,301,302],[291,292,293,294,295,296,297,298,299,300,301,302,303],[287,288,289,290,291,292,293,294,295,296,297,298,299,300,301,302,303,304],[286,287,288,289,290,291,292,293,294,295,296,297,298,299,300,301,302,303,304,305],[286,287,288,289,290,291,292,293,294,295,296,297,298,299,300,301,302,303,304,305,306],[286,287,288,289,290,291,292,293,294,295,296,297,298,299,300,301,302,303,304,305,306,307]] [[287,288,289,290,291,292,293,294,295,296,297,298,299,300,301,302,303,304,305],[286,291,292,293,294,295,296,297,298,299,300,301,302,303,304],[286,291,292,293,294,295,296,297,298,299,300,301,302,303,304],[286,291,292,293,294,295,296,297,298,299,300,301,302,303,304],[286,291,292,293,294,295,296,297,298,299,300,301,302,303,304],[286,287,288,289,290,292,297,298,299,300,301,302],[286,287,288,289,290,291,297,298,299,300,301,302],[286,287,288,289,290,297,298,299,300,301,302],[286,287,288,289,290,297,298,299,300,301,302],[286,287,288,289,290,297,298,299,300,301,302],[286,287,288,289,290,297,298,299,300,301,302],[286,287,288,289,290,291,292,293,294,295,296,298],[286,287,288,289,290,291,292,293,294,295,296,297],[286,287,288,289,290,291,292,293,294,295,296],[286,287,288,289,290,291,292,293,294,295,296],[286,287,288,289,290,291,292,293,294,295,296],[286,287,288,289,290,291,292,293,294,295,296],[286,287,288,289,290],[286,287,288,289,290],[286],[],[],[],[0]] J ?_;refine Wz [34,127,28,34,128,151,85,34,128,151,85,279,176,21] ?_;refine AL.weak (st':=(⟨_,[(286,.o (.c (.ptr 0 0))),(290,.o (.c (.ref 3))),(304,.o (.c (.sb 5 1 9)))],[.box [.ref 1,jn (w.Tick+1),jn (nextR sd),.ref 2,.ref 3],.row 1 (els w.Level.Rows),.row 1 (els s4),.row 9 (els b4),.gh 0 (.c (.ptr 0 0)),.box ((Enc.e (itemB x y)).map (V1.rd []))]⟩:St)) (Gi [0,1,2,3,4,6]) ?_;refine Wz [121,43,144,51,212] ?_
  exact Xo J (Gc [0,1,2,3,4] J (by exact rwBo (by rw[Yu]; rfl)) J)
end
section
open Go.RowKit

theorem S_StepWorld (w:TWorld) (row:List Int) (hg:Enc.gd w) (gr:Enc.gd row) (h1:w.Level.Rows.length≤1048576) (h2:w.Scores.length≤1048576) (h3:w.Bodies.length≤1048576):Con Tryz.prog 214 [] [ag w,al row] [.row 1 (els w.Level.Rows),.row 1 (els (stepW w row).Scores),.row 9 (els (stepW w row).Bodies)] (.o (.ag [.ref 0,jn (stepW w row).Tick,jn (stepW w row).Seed,.ref 1,.ref 2])):=by
 have hls:=Yx w.Scores
 have hlb:=Yx w.Bodies
 have c1:=S_copyWorld w hg h1 h2 h3
 have c2:=S_WorldOk w hg
 have c3:=S_rowOk row ((els w.Scores).length:Int) gr
 rw[show rowOk row ((els w.Scores).length:Int)=rowOk row (w.Scores.length:Int) by rw[hls]] at c3
 cases ho:worldOk w with
 |false =>
  rw[step_F (fun q=>by rw[ho] at q; cases q.1)]
  rw[ho] at c2
  refine Con.of Tryz.func214 J Tryz.ntmps214 J (fun E => ?_)
  refine Wz [53,3,14] ?_;refine M1 (Z3 J J (c1) J J J) J J ?_;refine Wz [94,55] ?_;refine zx (Qj J J (c2) J) J ?_;refine Wz [9,0,57,70,25,45,57,112,14,56,74,64] ?_
  exact Xm J J J J (Gc [2,3,4] J J J)
 |true =>
 rw[ho] at c2
 by_cases ht:w.Tick=100000
 ·have f1:decide (w.Tick=100000)=true:=Gqb ht
  rw[step_F (fun q=>q.2.1 ht)]
  refine Con.of Tryz.func214 J Tryz.ntmps214 J (fun E => ?_)
  refine Wz [53,3,14] ?_;refine M1 (Z3 J J (c1) J J J) J J ?_;refine Wz [94,55] ?_;refine zx (Qj J J (c2) J) J ?_;refine Wz [9,54,15,6,45,57,112,14,56,74,64] ?_
  exact Xm J J J J (Gc [2,3,4] J J J)
 have f1:decide (w.Tick=100000)=false:=Gqa ht
 cases hr:rowOk row (w.Scores.length:Int) with
 |false =>
  rw[step_F (fun q=>by rw[hr] at q; cases q.2.2)]
  rw[hr] at c3
  refine Con.of Tryz.func214 J Tryz.ntmps214 J (fun E => ?_)
  refine Wz [53,3,14] ?_;refine M1 (Z3 J J (c1) J J J) J J ?_;refine Wz [94,55] ?_;refine zx (Qj J J (c2) J) J ?_;refine Wz [9,54,15,6,19,136,7,1] ?_;refine zx (Qj J J (c3) J) J ?_;refine Wz [1,9,6,29,14,56,74,64] ?_
  exact Xm J J J J (Gc [2,3,4] J J J)
 |true =>
 rw[hr] at c3
 rw[step_T ⟨ho,ht,hr⟩]
 have d1:=S_l02Step w row hg ho ht hr
 refine Con.of Tryz.func214 J Tryz.ntmps214 J (fun E => ?_)
 refine Wz [53,3,14] ?_;refine M1 (Z3 J J (c1) J J J) J J ?_;refine Wz [94,55] ?_;refine zx (Qj J J (c2) J) J ?_;refine Wz [9,54,15,6,19,136,7,1] ?_;refine zx (Qj J J (c3) J) J ?_;refine Wz [1,9,60,10] ?_;refine AL.weak (st':=(⟨_,[(4,.o (.c (.ptr 4 0))),(5,.o (.c (.ptr 0 0))),(25,L row)],[.box [.ref 1,jn w.Tick,jn w.Seed,.ref 2,.ref 3],.row 1 (els w.Level.Rows),.row 1 (els w.Scores),.row 9 (els w.Bodies),.box [nilV,jn 0,jn 0,nilV,nilV]]⟩:St)) (Gi [5,2,3,4,1]) ?_
 clear c1 c2 c3 f1
 refine Xd (lo := [_,_,_,_]) (gs := [(0,.c (.ptr 0 0))]) (lo' := [_,_,_,_]) (new := []) [0,1,2,3] [(0,0,.ptr 0 0)] (d1) J J J J J J J J J J J J J J J J J ?_;refine Wz [3,14,56,74,48] ?_
 exact Xm J J J J (Gc [1,2,3] J J J)
end
section
open Go.RowKit

theorem tot_wts:∀ xs:List (List Int),tot xs≤wts xs
 | []=>Gqk _
 |x::xs=>by
  have h1:=tot_wts xs
  have h2:tot (x::xs)=x.length+tot xs:=by simp[tot]
  have h3:wts (x::xs)=(x.length+wts x)+wts xs:=rfl
  omega
structure RepIn (y:TReplay):Prop where
 gd:Enc.gd y
 h1:y.Level.Rows.length≤1048576
 h2:y.Keys.length≤1048576
 h3:y.Rows.length≤1048576
 h4:tot y.Rows≤1048576
theorem rep_zero:RepIn zeroReplay:=⟨⟨⟨by simp[zeroReplay],fun x hx=>by simp[zeroReplay] at hx⟩,⟨by decide,by decide⟩,⟨by decide,by decide⟩,⟨by decide,by decide⟩,⟨by simp[zeroReplay],fun x hx=>by simp[zeroReplay] at hx⟩,⟨by simp[zeroReplay],fun x hx=>by simp[zeroReplay] at hx⟩⟩,by simp[zeroReplay],by simp[zeroReplay],by simp[zeroReplay],by simp[zeroReplay,tot]⟩
structure WorIn (w:TWorld):Prop where
 gd:Enc.gd w
 h1:w.Level.Rows.length≤1048576
 h2:w.Scores.length≤1048576
 h3:w.Bodies.length≤1048576
theorem Vd:WorIn zeroWorld:=⟨⟨⟨by simp[zeroWorld],fun x hx=>by simp[zeroWorld] at hx⟩,⟨by decide,by decide⟩,⟨by decide,by decide⟩,⟨by simp[zeroWorld],fun x hx=>by simp[zeroWorld] at hx⟩,⟨by simp[zeroWorld],fun x hx=>by simp[zeroWorld] at hx⟩⟩,by simp[zeroWorld],by simp[zeroWorld],by simp[zeroWorld]⟩
theorem read_in {lv:TLevel} {s:ByteArray} (hg:Enc.gd lv) (hL:lv.Rows.length≤1048576) (hs:s.size≤1099511627776):WorIn (rwW (readWorld lv s)):=by
 cases hu:unpackInts s 0 with
 |none=>rw[Ks hu]; exact Vd
 | some r =>
  obtain⟨l,pos⟩:=r
  obtain⟨_,hu1,hu2,hu3,hu4⟩:=Vb hu
  by_cases hp:pos=s.size∧formOk l∧worldOk (worldOf lv l)=true
  ·rw[Kt hu hp]
   have hw:=Vf hp.2.2
   exact⟨worldOf_gd hg hu4 (by omega),hL,Gxg hw.2.2.2.1.2 (by decide),Gxg hw.2.2.2.2.2.1.2 (by decide)⟩
  ·rw[Kr hu hp]; exact Vd
end
section
open Go.RowKit

noncomputable def runM (w:TWorld) (rows:List (List Int)):TWorld:=rows.foldl stepW w
theorem step_in {w:TWorld} {row:List Int} (h:WorIn w):WorIn (stepW w row):=by
 have h1:=K5 (row:=row) h.gd
 exact⟨h1.1,by rw[K6]; exact h.h1,by rw[h1.2.1]; exact h.h2,by have:=h.h3; omega⟩
theorem ran_in:∀ (rows:List (List Int)) {w:TWorld},WorIn w→WorIn (runM w rows)
 | [],_,h=>h
 |r::rs,w,h=>ran_in rs (w:=stepW w r) (step_in h)
theorem runM_next {w x:TWorld} {rows:List (List Int)} {k:Nat} {r:List Int} (hr:rows[k]? = some r) (h:x=runM w (rows.take k)):stepW x r=runM w (rows.take (k+1)):=by
 obtain⟨hk,rfl⟩:=Gql.1 hr
 rw[Gq1 hk,h]
 unfold runM
 rw[List.foldl_append]
 rfl
theorem I_RunWorld (w:TWorld) (rows:List (List Int)) (iw:WorIn w) (gr:Enc.gd rows):Con Tryz.prog 273 [] [ag w,al rows] [.row 1 (els (runM w rows).Level.Rows),.row 1 (els (runM w rows).Scores),.row 9 (els (runM w rows).Bodies)] (.o (.ag [.ref 0,jn (runM w rows).Tick,jn (runM w rows).Seed,.ref 1,.ref 2])):=by
 have c1:=I_copyWorld w iw.gd iw.h1 iw.h2 iw.h3
 have hlr:=Yx rows
 have hlg:=gr.1
 refine Con.of Tryz.func273 J Tryz.ntmps273 J (fun E => ?_)
 refine Wz [53,3,14] ?_;refine M1 (Z3 J J (c1) J J J) J J ?_;refine Wz [94,40,7,142,44] ?_
 refine AWP.pre (st':=(⟨_,[(4,.o (.c (.ptr 4 0))),(5,.o (.c (.ptr 0 0))),(10,L rows),(11,I (els rows).length),(12,I 0)],[.box [.ref 1,jn w.Tick,jn w.Seed,.ref 2,.ref 3],.row 1 (els w.Level.Rows),.row 1 (els w.Scores),.row 9 (els w.Bodies),.box [nilV,jn 0,jn 0,nilV,nilV]]⟩:St)) ?_ (Gi [5,2,3,4,1])
 clear c1
 refine Xj (fun m st=>∃ (k:Nat) (x:TWorld),k+m=rows.length∧(x=runM w (rows.take k))∧st=(⟨_,[(4,.o (.c (.ptr 4 0))),(5,.o (.c (.ptr 0 0))),(10,L rows),(11,I (els rows).length),(12,I k)],[.box [.ref 1,jn x.Tick,jn x.Seed,.ref 2,.ref 3],.row 1 (els x.Level.Rows),.row 1 (els x.Scores),.row 9 (els x.Bodies),.box [nilV,jn 0,jn 0,nilV,nilV]]⟩:St)) (rows.length) ⟨_,⟨0,w,by omega,J,J⟩,Gi [0,1,2,3,4]⟩ ?_
 rintro m_A _ ⟨k,x,hk_A,hp_A,rfl⟩
 have ix:WorIn x:=by rw[hp_A]; exact ran_in _ iw
 by_cases hlt:k<rows.length
 ·have hb0:decide ((k:Int)<(els rows).length)=true:=Gqb (by omega)
  obtain⟨r,hr⟩:=K4 hlt
  have her:=Yz hr
  have cs:=I_StepWorld x r ix.gd (gr.2 r (Gqq hr)) ix.h1 ix.h2 ix.h3
  have hnx:=runM_next hr hp_A
  have hlv:=K6 x r
  generalize stepW x r=z at cs hnx hlv
  rw[←hlv] at cs
  refine Wz [4,12,3,8,83,11,4,59,2,138,92,0] ?_;refine M1 (Z3 J J (cs) J J J) J J ?_;refine Wz [36,51,93] ?_
  exact⟨rows.length-(k+1),by omega,_,⟨k+1,z,by omega,hnx,J⟩,Gi [0,5,6,7,4]⟩
 have hb0:decide ((k:Int)<(els rows).length)=false:=Gqa (by omega)
 have hk:k=rows.length:=by omega
 rw[hk,Gxd] at hp_A
 rw[←hp_A]
 refine Wz [4,12,3,8,172,27,14,56,74,48] ?_
 exact Xm J J J J (Gc [1,2,3] J J J)
theorem S_RunWorld (w:TWorld) (rows:List (List Int)) (iw:WorIn w) (gr:Enc.gd rows):Con Tryz.prog 265 [] [ag w,al rows] [.row 1 (els (runM w rows).Level.Rows),.row 1 (els (runM w rows).Scores),.row 9 (els (runM w rows).Bodies)] (.o (.ag [.ref 0,jn (runM w rows).Tick,jn (runM w rows).Seed,.ref 1,.ref 2])):=by
 have c1:=S_copyWorld w iw.gd iw.h1 iw.h2 iw.h3
 have hlr:=Yx rows
 have hlg:=gr.1
 refine Con.of Tryz.func265 J Tryz.ntmps265 J (fun E => ?_)
 refine Wz [53,3,14] ?_;refine M1 (Z3 J J (c1) J J J) J J ?_;refine Wz [94,46] ?_
 refine AWP.pre (st':=(⟨_,[(4,.o (.c (.ptr 4 0))),(5,.o (.c (.ptr 0 0))),(1,L rows),(6,I 0)],[.box [.ref 1,jn w.Tick,jn w.Seed,.ref 2,.ref 3],.row 1 (els w.Level.Rows),.row 1 (els w.Scores),.row 9 (els w.Bodies),.box [nilV,jn 0,jn 0,nilV,nilV]]⟩:St)) ?_ (Gi [5,2,3,4,1])
 clear c1
 refine Xj (fun m st=>∃ (k:Nat) (x:TWorld),k+m=rows.length∧(x=runM w (rows.take k))∧st=(⟨_,[(4,.o (.c (.ptr 4 0))),(5,.o (.c (.ptr 0 0))),(1,L rows),(6,I k)],[.box [.ref 1,jn x.Tick,jn x.Seed,.ref 2,.ref 3],.row 1 (els x.Level.Rows),.row 1 (els x.Scores),.row 9 (els x.Bodies),.box [nilV,jn 0,jn 0,nilV,nilV]]⟩:St)) (rows.length) ⟨_,⟨0,w,by omega,J,J⟩,Gi [0,1,2,3,4]⟩ ?_
 rintro m_A _ ⟨k,x,hk_A,hp_A,rfl⟩
 have ix:WorIn x:=by rw[hp_A]; exact ran_in _ iw
 by_cases hlt:k<rows.length
 ·have hb0:decide ((k:Int)<(els rows).length)=true:=Gqb (by omega)
  obtain⟨r,hr⟩:=K4 hlt
  have her:=Yz hr
  have cs:=S_StepWorld x r ix.gd (gr.2 r (Gqq hr)) ix.h1 ix.h2 ix.h3
  have hnx:=runM_next hr hp_A
  have hlv:=K6 x r
  generalize stepW x r=z at cs hnx hlv
  rw[←hlv] at cs
  refine Wz [20,7,75,11] ?_;refine Xi [[],[],[],[1,2],[1,2,3],(u9 5),(u9 6)] [[],[],[],[16,17],[16,17,18],[15,16,17,18,19],[15,16,17,18,19,20]] [[16,17,18,19],[15,17],[15,16],[15],[15],[],[]] J ?_;refine Wz [114,34,85] ?_;refine Vk (Z3 J J (cs) J J J) J ?_;refine Wz [21,36,51,129] ?_
  exact⟨rows.length-(k+1),by omega,_,⟨k+1,z,by omega,hnx,J⟩,Gi [0,5,6,7,4]⟩
 have hb0:decide ((k:Int)<(els rows).length)=false:=Gqa (by omega)
 have hk:k=rows.length:=by omega
 rw[hk,Gxd] at hp_A
 rw[←hp_A]
 refine Wz [20,7,12,76,27,14,56,74,48] ?_
 exact Xm J J J J (Gc [1,2,3] J J J)
end
section
open Go.RowKit

def zeroB (b:UInt8):Bool:=b == 0
def someB (b:UInt8):Bool := !(b == 0)
def packZ (l:List UInt8):List UInt8:=match l with
 | [] => []
 |x::r=>encVar (((x::r).takeWhile zeroB).length:Nat)++(encVar ((((x::r).dropWhile zeroB).takeWhile someB).length:Nat)++((x::r).dropWhile zeroB).takeWhile someB)++packZ (((x::r).dropWhile zeroB).dropWhile someB)
termination_by l.length
decreasing_by
 by_cases h:zeroB x=true
 ·rw[List.dropWhile_cons,if_pos h]
  have h1:=(List.dropWhile_sublist someB (l:=r.dropWhile zeroB)).length_le
  have h2:=(List.dropWhile_sublist zeroB (l:=r)).length_le
  simp only[Gqx]; omega
 ·rw[List.dropWhile_cons,if_neg h,List.dropWhile_cons,if_pos (by simpa[zeroB,someB] using h)]
  have h1:=(List.dropWhile_sublist someB (l:=r)).length_le
  simp only[Gqx]; omega
theorem packZ_ne (x:UInt8) (r:List UInt8):¬(((x::r).takeWhile zeroB).length=0∧(((x::r).dropWhile zeroB).takeWhile someB).length=0):=by
 intro ⟨h1,h2⟩
 by_cases h:zeroB x=true
 ·rw[List.takeWhile_cons,if_pos h] at h1; simp at h1
 ·rw[List.dropWhile_cons,if_neg h,List.takeWhile_cons,if_pos (by simpa[zeroB,someB] using h)] at h2; simp at h2
def uzGo (s:ByteArray) (strict:Bool):Nat→Nat→List UInt8→Option (List UInt8)
 |0,pos,out=>if pos<s.size then none else some out
 | f+1,pos,out=>if pos<s.size then (match decVar s pos with
  |none=>none
  |some (n,j)=>match unpackText s ((pos:Int)+(j:Int)) with
   |none=>none
   |some (t,k)=>if (20000:Int)-out.length<n+t.size then none else if strict=true∧n=0∧t.size=0 then none else uzGo s strict f (pos+j+k) (out++List.replicate n.toNat 0++t.data.toList)) else some out
def unpackZ (strict:Bool) (s:ByteArray):Option ByteArray:=match uzGo s strict s.size 0 [] with
 |none=>none
 |some out=>if bs (packZ out)=s then some (bs out) else none
theorem unpackText_enc {s:ByteArray} {p:Nat} {t r:List UInt8} (hL:s.size≤1099511627775) (hs:s.data.toList.drop p=(encVar (t.length:Nat)++t)++r):unpackText s p=some (bs t,(encVar (t.length:Nat)).length+t.length):=by
 have e:s.data.toList.length=s.size:=by simp
 have hlen:(s.data.toList.drop p).length=((encVar (t.length:Nat)++t)++r).length:=by rw[hs]
 simp only[Gxa,Gqg] at hlen
 rw[Gqu] at hs
 by_cases ht:(t.length:Int)≤1099511627775
 ·have h1:=decVar_enc (by omega) ht hs
  have hne:1≤(encVar (t.length:Nat)).length:=by rw[encVar,if_pos ⟨by omega,ht⟩]; exact (varN_len _).1
  rw[unpackText,h1]
  have hp:p+(encVar (t.length:Nat)).length+t.length≤s.size:=by omega
  simp only
  rw[if_neg (by omega)]
  congr 2
  have hd:s.data.toList.drop (p+(encVar (t.length:Nat)).length)=t++r:=by
   have:=congrArg (List.drop (encVar (t.length:Nat)).length) hs
   rwa[List.drop_drop,List.drop_left] at this
  rw[show ((p:Int)+((encVar (t.length:Nat)).length:Nat)).toNat=p+(encVar (t.length:Nat)).length by omega,show ((p:Int)+((encVar (t.length:Nat)).length:Nat)+((t.length:Nat):Int)).toNat=p+(encVar (t.length:Nat)).length+t.length by omega,extract_bytes,bytesL,hd,List.take_left]
 ·omega
theorem uz_mono (s:ByteArray):∀ (f pos:Nat) (out r:List UInt8),uzGo s true f pos out=some r→uzGo s false f pos out=some r
 |0,pos,out,r,h=>h
 | f+1,pos,out,r,h=>by
  rw[uzGo] at h ⊢
  by_cases hp:pos<s.size
  ·rw[if_pos hp] at h ⊢
   cases hd:decVar s pos with
   |none=>rw[hd] at h; cases h
   | some x =>
    obtain⟨n,j⟩:=x
    rw[hd] at h
    simp only at h ⊢
    cases hu:unpackText s ((pos:Int)+(j:Int)) with
    |none=>rw[hu] at h; cases h
    | some y =>
     obtain⟨t,k⟩:=y
     rw[hu] at h
     simp only at h ⊢
     split at h
     ·cases h
     ·rename_i hb
      rw[if_neg hb,if_neg (by simp)]
      split at h
      ·cases h
      ·exact uz_mono s f _ _ _ h
  ·rw[if_neg hp] at h ⊢; exact h
theorem uz_canon (s:ByteArray) (hL:s.size≤1099511627775):∀ (f pos:Nat) (out l:List UInt8),l.length≤1099511627775→s.data.toList.drop pos=packZ l→uzGo s true f pos out=uzGo s false f pos out
 |0,pos,out,l,_,h=>rfl
 | f+1,pos,out,l,hl,h=>by
  rw[uzGo,uzGo]
  by_cases hp:pos<s.size
  ·rw[if_pos hp,if_pos hp]
   have e:s.data.toList.length=s.size:=by simp
   cases l with
   |nil =>
    rw[packZ] at h
    have:=congrArg List.length h
    simp only[Gxa,List.length_nil] at this
    omega
   | cons x r =>
    have hne:=packZ_ne x r
    rw[packZ,Gqu] at h
    have hl1:=(List.takeWhile_sublist zeroB (l:=x::r)).length_le
    have hl2:=(List.dropWhile_sublist someB (l:=(x::r).dropWhile zeroB)).length_le
    have hl3:=(List.dropWhile_sublist zeroB (l:=x::r)).length_le
    generalize ((x::r).takeWhile zeroB).length=z at h hne hl1
    generalize ((x::r).dropWhile zeroB).takeWhile someB=t at h hne
    generalize ((x::r).dropWhile zeroB).dropWhile someB=q at h hl2
    have hlen:(s.data.toList.drop pos).length=(encVar (z:Nat)++((encVar (t.length:Nat)++t)++packZ q)).length:=by rw[h]
    by_cases hz:(z:Int)≤1099511627775
    ·have h1:=decVar_enc (s:=s) (p:=pos) (n:=(z:Int)) (by omega) hz h
     have hd:s.data.toList.drop (pos+(encVar (z:Nat)).length)=(encVar (t.length:Nat)++t)++packZ q:=by
      have:=congrArg (List.drop (encVar (z:Nat)).length) h
      rwa[List.drop_drop,List.drop_left] at this
     have h2:=unpackText_enc hL hd
     have hd2:s.data.toList.drop (pos+(encVar (z:Nat)).length+((encVar (t.length:Nat)).length+t.length))=packZ q:=by
      have:=congrArg (List.drop (encVar (t.length:Nat)++t).length) hd
      rw[List.drop_drop,List.drop_left,Gqg] at this
      exact this
     rw[h1]
     simp only
     rw[show (pos:Int)+((encVar (z:Nat)).length:Nat)=((pos+(encVar (z:Nat)).length:Nat):Int) by omega,h2]
     simp only
     split
     ·rfl
     ·rw[if_neg (by rw[Yp]; intro ⟨_,h3,h4⟩; exact hne ⟨by omega,h4⟩),if_neg (by simp)]
      exact uz_canon s hL f _ _ q (by omega) hd2
    ·omega
  ·rw[if_neg hp,if_neg hp]
theorem uz_len (s:ByteArray) (b:Bool):∀ (f pos:Nat) (out r:List UInt8),out.length≤20000→uzGo s b f pos out=some r→r.length≤20000
 |0,pos,out,r,hl,h=>by
  rw[uzGo] at h
  split at h
  ·cases h
  ·cases h; exact hl
 | f+1,pos,out,r,hl,h=>by
  rw[uzGo] at h
  by_cases hp:pos<s.size
  ·rw[if_pos hp] at h
   cases hd:decVar s pos with
   |none=>rw[hd] at h; cases h
   | some x =>
    obtain⟨n,j⟩:=x
    rw[hd] at h
    simp only at h
    have hn:=Yt hd
    cases hu:unpackText s ((pos:Int)+(j:Int)) with
    |none=>rw[hu] at h; cases h
    | some y =>
     obtain⟨t,k⟩:=y
     rw[hu] at h
     simp only at h
     split at h
     ·cases h
     ·rename_i hb
      split at h
      ·cases h
      ·have e:t.data.toList.length=t.size:=by simp
       exact uz_len s b f _ _ _ (by simp only[Gqg,Gxw]; omega) h
  ·rw[if_neg hp] at h; cases h; exact hl
theorem unpackZ_eq (s:ByteArray) (hL:s.size≤1099511627775):unpackZ true s=unpackZ false s:=by
 unfold unpackZ
 cases h:uzGo s false s.size 0 [] with
 |none =>
  cases h2:uzGo s true s.size 0 [] with
  |none=>rfl
  |some r=>rw[uz_mono s _ _ _ _ h2] at h; cases h
 | some r =>
  by_cases hr:bs (packZ r)=s
  ·have hc:=uz_canon s hL s.size 0 [] r (by have:=uz_len s false _ _ _ _ (by simp) h; omega) (by rw[List.drop_zero,←hr,Yo])
   rw[hc,h]
  ·simp only[if_neg hr]
   cases h2:uzGo s true s.size 0 [] with
   |none=>rfl
   |some r' =>
    have:=uz_mono s _ _ _ _ h2
    rw[h] at this
    cases this
    simp only[if_neg hr]
theorem tw_gen {q:UInt8→Bool}:∀ {xs:List UInt8} {n:Nat},(∀ j,j<n→∃ y,xs[j]? = some y∧q y=true)→(∀ y,xs[n]? = some y→q y=false)→xs.takeWhile q=xs.take n∧xs.dropWhile q=xs.drop n
 | [],n,_,_=>by simp
 |x::xs,0,_,h2=>by
  have:=h2 x (by simp)
  rw[List.takeWhile_cons,List.dropWhile_cons,this]
  simp
 |x::xs,n+1,h1,h2=>by
  obtain⟨y,hy,hq⟩:=h1 0 (by omega)
  simp at hy
  subst hy
  obtain⟨a,b⟩:=tw_gen (q:=q) (xs:=xs) (n:=n) (fun j hj=>by have:=h1 (j+1) (by omega); simpa using this) (fun y hy=>h2 y (by simpa using hy))
  rw[List.takeWhile_cons,List.dropWhile_cons,hq]
  simp[a,b]
theorem byte_some {s:ByteArray} {a j:Nat} {b:UInt8} (h:(s.data.toList.drop a)[j]? = some b):a+j<s.size∧byteAt s (a+j)=(b.toNat:Int):=by
 rw[Gq5] at h
 have hl:=(Gql.1 h).1
 have e:s.data.toList.length=s.size:=by simp
 obtain⟨b',h1,h2⟩:=byteAt_list (s:=s) (i:=a+j) (by omega)
 rw[h] at h1
 cases h1
 exact⟨by omega,h2⟩
theorem zero_iff {b:UInt8}:zeroB b=true↔(b.toNat:Int)=0:=by
 simp only[zeroB,beq_iff_eq]
 constructor
 ·intro h; subst h; rfl
 ·intro h; exact UInt8.toNat_inj.1 (by simpa using h)
theorem text_list (t:ByteArray):(packText t).data.toList=encVar (t.size:Nat)++t.data.toList:=by simp[packText,ByteArray.append,bs]
theorem Zq {s:ByteArray} {a m i:Nat} (h1:a≤m) (h2:m≤i) (h3:i≤s.size) (hlt:a<i) (hz:∀ j,a≤j→j<m→byteAt s j=0) (hm:m<s.size→byteAt s m≠0) (hn:∀ j,m≤j→j<i→byteAt s j≠0) (hi:i<s.size→byteAt s i=0) :
  packZ (s.data.toList.drop a)=encVar ((m-a:Nat):Int)++(packText (s.extract m i)).data.toList++packZ (s.data.toList.drop i):=by
 have e:s.data.toList.length=s.size:=by simp
 have ht1:=tw_gen (q:=zeroB) (xs:=s.data.toList.drop a) (n:=m-a) (fun j hj=>by
  obtain⟨y,hy⟩:∃ y,(s.data.toList.drop a)[j]? = some y:=⟨_,Gqd (by simp; omega)⟩
  exact⟨y,hy,zero_iff.2 (by rw[←(byte_some hy).2]; exact hz _ (by omega) (by omega))⟩) (fun y hy=>by
  have:=byte_some hy
  rw[show a+(m-a)=m by omega] at this
  rw[←Gxp,zero_iff,←this.2]
  exact hm this.1)
 rw[List.drop_drop,show a+(m-a)=m by omega] at ht1
 have ht2:=tw_gen (q:=someB) (xs:=s.data.toList.drop m) (n:=i-m) (fun j hj=>by
  obtain⟨y,hy⟩:∃ y,(s.data.toList.drop m)[j]? = some y:=⟨_,Gqd (by simp; omega)⟩
  refine⟨y,hy,?_⟩
  have h4:¬zeroB y=true:=by rw[zero_iff,←(byte_some hy).2]; exact hn _ (by omega) (by omega)
  simpa[zeroB,someB] using h4) (fun y hy=>by
  have:=byte_some hy
  rw[show m+(i-m)=i by omega] at this
  have h4:zeroB y=true:=by rw[zero_iff,←this.2]; exact hi this.1
  simpa[zeroB,someB] using h4)
 rw[List.drop_drop,show m+(i-m)=i by omega] at ht2
 have hne:s.data.toList.drop a ≠ []:=by
  intro h
  have:=congrArg List.length h
  simp only[Gxa,List.length_nil] at this
  omega
 have hx:(s.extract m i).data.toList=(s.data.toList.drop m).take (i-m):=extract_list s m i
 have hsz:(s.extract m i).size=i-m:=by rw[Gxl]; omega
 rw[text_list,hx,hsz]
 cases hd:s.data.toList.drop a with
 |nil=>exact absurd hd hne
 |cons x r =>
  rw[packZ,←hd,ht1.1,ht1.2,ht2.1,ht2.2,Gqz,Gqz,Gxa,Gxa,show min (m-a) (s.data.toList.length-a)=m-a by omega,show min (i-m) (s.data.toList.length-m)=i-m by omega]
theorem packZ_nil:packZ [] = []:=by rw[packZ]
end
end Go.Proofs.YtoecjaohdnoenaaGreat
