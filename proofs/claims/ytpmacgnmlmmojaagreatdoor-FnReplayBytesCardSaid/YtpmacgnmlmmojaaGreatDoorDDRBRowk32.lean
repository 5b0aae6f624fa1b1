/-
  Rules, data and contracts of functions: part 33 of the proof.
  Conditions: those that each theorem names.
-/
import Derived.Test.YtpmacgnmlmmojaaGreatDoorDDRBRowk31
set_option linter.unusedSimpArgs false
set_option linter.unusedVariables false
set_option maxRecDepth 8000
set_option maxHeartbeats 8000000
namespace Go.Proofs.YtpmacgnmlmmojaaGreatDoor
section
open Go.RowKit

theorem mv_two {l:TLevel} {b:TBody} (h:b.Kind=2):mvOne l b=some b:=by rw[mvOne,if_neg (by omega),if_neg (by omega)]
theorem mv_dead {l:TLevel} {b:TBody} (h:b.Kind=0) (h1:b.Life=0):mvOne l b=some b:=by rw[mvOne,if_neg (by omega),if_neg (by omega)]
theorem at_pl {l:TLevel} {n:Nat} {bs:List TBody} (h:LM l n bs) (x y:Int):itemAt (bs.take n) x y=false:=by
 rw[itemAt,List.any_eq_false]
 intro b hb
 obtain⟨j,hj⟩:=List.getElem?_of_mem hb
 rw[Gxi] at hj
 split at hj
 ·have:=(h.at_ j b hj).2.2 (by assumption)
  simp only[isItem,decide_eq_true_eq]
  omega
 ·cases hj
theorem S_l02Step (w:TWorld) (row:List Int) (hg:Enc.gd w) (ho:worldOk w=true) (ht:w.Tick≠100000) (hr:rowOk row w.Scores.length=true):Con Tryz.prog 240 [.box [.ref 1,jn w.Tick,jn w.Seed,.ref 2,.ref 3],.row 1 (els w.Level.Rows),.row 1 (els w.Scores),.row 9 (els w.Bodies),.gh 0 (.c (.ptr 0 0))] [.c (.ptr 0 0),al row] [.box [.ref 1,jn (tickM w row).Tick,jn (tickM w row).Seed,.ref 2,.ref 3],.row 1 (els w.Level.Rows),.row 1 (els (tickM w row).Scores),.row 9 (els (tickM w row).Bodies),.gh 0 (.c (.ptr 0 0))] (.tu []):=by
 have hP:=PH.of hg ho hr
 have hsr:=Vb ho
 have hM:=hits_lm hP.mv rfl hsr
 obtain⟨hl,htk,hsd,hn,_,_,_⟩:=Vr ho
 have htk:=Zn.1 htk
 have hsd:=Zn.1 hsd
 have d1:=S_l02Hits ⟨w.Level,w.Tick,w.Seed,w.Scores,movedM w row⟩ hg.1 hl hn hP.mv hsr
 simp only at d1
 obtain⟨s4,hs4⟩:∃ s4,s4=(hitsR w.Scores.length (movedM w row) w.Scores).2:=⟨_,rfl⟩
 obtain⟨b4,hb4⟩:∃ b4,b4=(hitsR w.Scores.length (movedM w row) w.Scores).1:=⟨_,rfl⟩
 rw[←hs4,←hb4] at d1 hM
 rw[tickM,←hs4,←hb4]
 obtain⟨hM1,hM2,hM3⟩:=hM
 have e1:=S_NextRandom w.Seed ⟨by omega,by omega⟩
 have e2:=S_SpotsOf w.Level hg.1 hl
 have hlb4:=Y9 b4
 have hbl:=hM1.len
 have hlsp:=Y9 (spotsM w.Level)
 have hsl2:=spots_len hl
 have hnr:=Zz w.Seed
 clear hs4 hb4 ho
 have hPP:=hP
 obtain⟨hgl,gb,_,hn4,hlen,hbo,hrl,hri⟩:=hP
 have hls:=Y9 w.Scores
 have hlr:=Y9 row
 refine Con.of Tryz.func240 J Tryz.ntmps240 J (fun E => ?_)
 refine Wz [10,44,98,23,63] ?_;refine Xi (fun m st=>∃ (k:Nat) (bs:List TBody),k+m=w.Scores.length∧(bs=plM w.Level row w.Bodies k)∧st=(⟨_,[(0,.o (.c (.ptr 0 0))),(1,L row),(4,I (els w.Scores).length),(5,I k)],[.box [.ref 1,jn w.Tick,jn w.Seed,.ref 2,.ref 3],.row 1 (els w.Level.Rows),.row 1 (els w.Scores),.row 9 (els bs),.gh 0 (.c (.ptr 0 0))]⟩:St)) (w.Scores.length) ⟨_,⟨0,w.Bodies,by omega,J,J⟩,Gs [0,1,2,3,4]⟩ ?_
 rintro m_A _ ⟨k,bs,hk_A,hp_A,rfl⟩
 by_cases hlt:k<w.Scores.length
 ·have hb0:decide ((k:Int)<(els w.Scores).length)=true:=Gqb (by omega)
  have hP:=P1.all hl hn4.2 hlen hbo row k (by omega)
  rw[←hp_A] at hP
  have hln:=hP.lm.len
  obtain⟨b,hb⟩:=Vf (xs:=bs) (i:=k) (by omega)
  have hold:=hP.old k (Gqf _) hlt
  have hI:=old_at hbo (by rw[←hold]; exact hb) hlt
  have hB:=(hP.lm.at_ k b hb).1
  obtain⟨hpl,hpx,hpy⟩:=hB.placed hl
  obtain⟨i,hi⟩:=Vf (xs:=row) (i:=k) (by omega)
  have hir:=hri i (Gqu hi)
  have hnx:=pl_next hp_A hb hi
  have he:=Zb hb
  have her:=Zb hi
  have hlb:=Y9 bs
  have htm:=hI.tm
  have hkl:=Zk hb
  clear d1 e1 e2
  by_cases hf:b.Life=0
  ·have f1:decide (b.Life=0)=true:=Gqb hf
   rw[plOne,if_pos hf] at hnx
   refine Wz [24,57,26,25,44,0,41,147,70,13,15,10,44,0,41,147,70,71,41,147,173,2,25,44,0] ?_;refine AL.weak (st':=(⟨_,[(0,.o (.c (.ptr 0 0))),(1,L row),(4,I (els w.Scores).length),(5,I k),(50,.o (.c (.ref 3))),(51,I k)],[.box [.ref 1,jn w.Tick,jn w.Seed,.ref 2,.ref 3],.row 1 (els w.Level.Rows),.row 1 (els w.Scores),.row 9 (els (bs.set k (tick1 b))),.gh 0 (.c (.ptr 0 0))]⟩:St)) (Yg [0,1,2,3,4] (by decide) J ((by exact rwBo (st_el0 J))) (.c J (.c J (.c J (.c J (.c J (.c J (.nil)))))))) ?_
   clear he
   have he:(els (bs.set k (tick1 b)))[(k:Int).toNat]? = some (Enc.e (tick1 b)):=Zb (by rw[Gxl hkl])
   have hlb2:(els (bs.set k (tick1 b))).length=bs.length:=by rw[Y9,Gxm]
   by_cases ht:b.Timer-1=0
   ·have f2:decide (b.Timer-1=0)=true:=Gqb ht
    rw[if_pos ht] at hnx
    have cf:=S_fresh w.Level k hg.1 hl ⟨by omega,by omega⟩
    refine Wz [41,147,70,13,15] ?_
    refine AWP.pre (st':=(⟨_,[(0,.o (.c (.ptr 0 0))),(1,L row),(4,I (els w.Scores).length),(5,I k)],[.box [.ref 1,jn w.Tick,jn w.Seed,.ref 2,.ref 3],.row 1 (els w.Level.Rows),.row 1 (els w.Scores),.row 9 (els (bs.set k (tick1 b))),.gh 0 (.c (.ptr 0 0))]⟩:St)) ?_ (Gs [0,1,2,3,4])
    refine Xh [[],[0],[0,1],[0,1,2],[],[],[5],[5,6],[5,6,7],[],[5,6,7,8,9],(u9 11),(u9 12)] [[],[56],[56,57],[56,57,58],[],[],[61],[61,62],[61,62,63],[],[61,62,63,64,65],[56,57,58,59,60,61,62,63,64,65,66],[56,57,58,59,60,61,62,63,64,65,66,67]] [[60,61,62,63,64,65,66],[60,61,62,63,64,65,66],[60,61,62,63,64,65,66],[60,61,62,63,64,65,66],[56,57,58,59,61,62,63,64,65,66],[56,57,58,59,60,65],[56,57,58,59,60,65],[56,57,58,59,60,65],[56,57,58,59,60,65],[56,57,58,59,60,61,62,63,64],[56,57,58,59,60],[],[]] J ?_;refine Wz [4,104,29,227,218,99,4] ?_;refine Vx (Kh J J (cf) J J J) J ?_;refine Wz [79,17] ?_;refine AL.weak (st':=(⟨_,[(0,.o (.c (.ptr 0 0))),(1,L row),(4,I (els w.Scores).length),(5,I k),(66,.o (.ag ((Enc.e (fresh w.Level k)).map (V1.rd [])))),(67,.o (.c (.el 3 9 k 0)))],[.box [.ref 1,jn w.Tick,jn w.Seed,.ref 2,.ref 3],.row 1 (els w.Level.Rows),.row 1 (els w.Scores),.row 9 (els (bs.set k (tick1 b))),.gh 0 (.c (.ptr 0 0))]⟩:St)) (Gs [0,1,2,3,4]) ?_;refine Wz [262,2,167,168,43] ?_
    exact⟨w.Scores.length-(k+1),by omega,(fun (k:Nat) (bs:List TBody)=>(⟨_,[(0,.o (.c (.ptr 0 0))),(1,L row),(4,I (els w.Scores).length),(5,I k)],[.box [.ref 1,jn w.Tick,jn w.Seed,.ref 2,.ref 3],.row 1 (els w.Level.Rows),.row 1 (els w.Scores),.row 9 (els bs),.gh 0 (.c (.ptr 0 0))]⟩:St)) (k+1) (bs.set k (fresh w.Level k)),⟨k+1,bs.set k (fresh w.Level k),by omega,hnx.symm,J⟩,Yg [0,1,2,3,4] (by decide) J ((by exact rwBo (st_el J))) (.c J (.c J (.c J (.c J (.nil)))))⟩
   ·have f2:decide (b.Timer-1=0)=false:=Gqa ht
    rw[if_neg ht] at hnx
    refine Wz [41,147,70,13,38,167,168,43] ?_
    exact⟨w.Scores.length-(k+1),by omega,_,⟨k+1,bs.set k (tick1 b),by omega,hnx.symm,J⟩,Gs [0,1,2,3,4]⟩
  ·have f1:decide (b.Life=0)=false:=Gqa hf
   rw[plOne,if_neg hf] at hnx
   have hfl:=hB.f
   obtain⟨c,f,hcf⟩:∃ c f,(c,f)=steer w.Level b i:=⟨_,_,rfl⟩
   have cs:=S_l02Steer w.Level b i hg.1 hl hI.kd hir ⟨by omega,by omega⟩ hB.vy (by have:=hB.p; rw[hI.kd] at this; exact this)
   have hca:=steer_aim (l:=w.Level) (i:=i) hI.am
   have hcx:(steer w.Level b i).1.X=b.X∧(steer w.Level b i).1.Y=b.Y:=⟨rfl,rfl⟩
   rw[←hcf] at cs hnx hca hcx
   simp only at cs hnx hca hcx
   have csh:=S_ShotOf c (by rw[hcx.1]; exact hpl.x) (by rw[hcx.2]; exact hpl.y) (by omega)
   have hlc:(els (bs.set k c)).length=bs.length:=by rw[Y9,Gxm]
   clear hcf hca hcx
   refine Wz [24,57,26,25,44,0,41,147,70,13,97,72] ?_
   refine AWP.pre (st':=(⟨_,[(0,.o (.c (.ptr 0 0))),(1,L row),(4,I (els w.Scores).length),(5,I k)],[.box [.ref 1,jn w.Tick,jn w.Seed,.ref 2,.ref 3],.row 1 (els w.Level.Rows),.row 1 (els w.Scores),.row 9 (els bs),.gh 0 (.c (.ptr 0 0))]⟩:St)) ?_ (Gs [0,1,2,3,4])
   refine Xh [[],[0],[0,1],[0,1,2],[],[4],[4,5],[4,5,6],[],[4,5,6,7,8],[4,5,6,7,8,9],[],[],[11,12],[11,12,13],(u9 15),(u9 16),(u9 17),(u9 17),[],[0,1,2,3,4,5,6,7,8,9,10,11,12,13,14,15,16,17,19],(u9 21)] [[],[69],[69,70],[69,70,71],[],[73],[73,74],[73,74,75],[],[73,74,75,76,77],[73,74,75,76,77,78],[],[],[80,81],[80,81,82],[69,70,71,72,73,74,75,76,77,78,79,80,81,82,83],[69,70,71,72,73,74,75,76,77,78,79,80,81,82,83,84],[68,69,70,71,72,73,74,75,76,77,78,79,80,81,82,83,84],[68,69,70,71,72,73,74,75,76,77,78,79,80,81,82,83,84],[],[6,68,69,70,71,72,73,74,75,76,77,78,79,80,81,82,83,84,85],[6,68,69,70,71,72,73,74,75,76,77,78,79,80,81,82,83,84,85,86]] [[6,73,74,75,76,77,78,79,80,81,82,83],[6,73,74,75,76,77,78,79,80,81,82,83],[6,73,74,75,76,77,78,79,80,81,82,83],[6,73,74,75,76,77,78,79,80,81,82,83],[6,69,70,71,72,77,80,81,82,83],[6,69,70,71,72,77,80,81,82,83],[6,69,70,71,72,77,80,81,82,83],[6,69,70,71,72,77,80,81,82,83],[6,69,70,71,72,73,74,75,76,80,81,82,83],[6,69,70,71,72,80,81,82,83],[6,69,70,71,72,80,81,82,83],[6,69,70,71,72,73,74,75,76,77,78,79,81],[6,69,70,71,72,73,74,75,76,77,78,79,80],[6,69,70,71,72,73,74,75,76,77,78,79],[6,69,70,71,72,73,74,75,76,77,78,79],[6],[6],[6,86],[6,85],[68,69,70,71,72,73,74,75,76,77,78,79,80,81,82,83,84,85,86],[86],[],[18]] J ?_;refine Wz [4,227,218,99,4,104,4,79] ?_;refine Vx (Q6 J J J J (by assumption) J J) J ?_;refine Wz [29,121,296,185,122,122,184,17] ?_;refine AL.weak (st':=(⟨_,[(0,.o (.c (.ptr 0 0))),(1,L row),(4,I (els w.Scores).length),(5,I k),(6,.o (.c (.ptr 5 0))),(85,.o (.ag ((Enc.e c).map (V1.rd [])))),(86,B f)],[.box [.ref 1,jn w.Tick,jn w.Seed,.ref 2,.ref 3],.row 1 (els w.Level.Rows),.row 1 (els w.Scores),.row 9 (els bs),.gh 0 (.c (.ptr 0 0)),.box [jn 0,jn 0,jn 0,jn 0,jn 0,jn 0,jn 0,jn 0,jn 0]]⟩:St)) (Gs [0,1,2,3,4,5]) ?_;refine Wz [170,23] ?_
   refine AWP.pre (st':=(⟨_,[(0,.o (.c (.ptr 0 0))),(1,L row),(4,I (els w.Scores).length),(5,I k),(6,.o (.c (.ptr 5 0))),(7,B f)],[.box [.ref 1,jn w.Tick,jn w.Seed,.ref 2,.ref 3],.row 1 (els w.Level.Rows),.row 1 (els w.Scores),.row 9 (els bs),.gh 0 (.c (.ptr 0 0)),.box ((Enc.e c).map (V1.rd []))]⟩:St)) ?_ (Gs [0,1,2,3,4,5])
   refine Xh u8_26 [[],[87],[87,88],[87,88,89],[],[],[87,88,89,90,91,92],[87,88,89,90,91,92,93]] [[91,92],[91,92],[91,92],[91,92],[87,88,89,90,92],[87,88,89,90,91],[],[]] J ?_;refine Wz [4,104,4,99,79,17] ?_;refine AL.weak (st':=(⟨_,[(0,.o (.c (.ptr 0 0))),(1,L row),(4,I (els w.Scores).length),(5,I k),(6,.o (.c (.ptr 5 0))),(7,B f),(92,.o (.ag ((Enc.e c).map (V1.rd [])))),(93,.o (.c (.el 3 9 k 0)))],[.box [.ref 1,jn w.Tick,jn w.Seed,.ref 2,.ref 3],.row 1 (els w.Level.Rows),.row 1 (els w.Scores),.row 9 (els bs),.gh 0 (.c (.ptr 0 0)),.box ((Enc.e c).map (V1.rd []))]⟩:St)) (Gs [0,1,2,3,4,5]) ?_
   with_reducible refine Xd ?_
   refine Wz [262,2] ?_
   refine AWP.pre (st':=(⟨_,[(0,.o (.c (.ptr 0 0))),(1,L row),(4,I (els w.Scores).length),(5,I k),(6,.o (.c (.ptr 5 0))),(7,B f)],[.box [.ref 1,jn w.Tick,jn w.Seed,.ref 2,.ref 3],.row 1 (els w.Level.Rows),.row 1 (els w.Scores),.row 9 (els (bs.set k c)),.gh 0 (.c (.ptr 0 0)),.box ((Enc.e c).map (V1.rd []))]⟩:St)) ?_ (by rw[els_set]; exact Gs [0,1,2,3,4,5])
   clear he
   cases f with
   |false =>
    refine Wz [37,165,135,7,62,43] ?_
    exact⟨w.Scores.length-(k+1),by omega,_,⟨k+1,bs.set k c,by omega,(by rw[hnx]; rfl),J⟩,Gs [0,1,2,3,4]⟩
   | true =>
    by_cases h24:bs.length<24
    ·have f3:decide (((els (bs.set k c)).length:Int)<24)=true:=Gqb (by omega)
     rw[if_pos ⟨rfl,h24⟩] at hnx
     refine Wz [10,18,0,244,3,59,58,5,9,15] ?_;refine Xh u8_29 [[],[],[104],[104,105],[104,105,106],[],[108],[108,109],[104,105,106,107,108,109,110],[103,104,105,106,107,108,109,110,111],[103,104,105,106,107,108,109,110,111,112],[103,104,105,106,107,108,109,110,111,112,113]] [[104,105,106,107,108,109,110,111],[103,108,109,110],[103,108,109,110],[103,108,109,110],[103,108,109,110],[103,104,105,106,107],[103,104,105,106,107],[103,104,105,106,107],[103],[],[],[],[0]] J ?_;refine Wz [29,104,99] ?_;refine Vx (Kh J J (csh) J J J) J ?_;refine Wz [181,17] ?_;refine AL.weak (st':=(⟨_,[(0,.o (.c (.ptr 0 0))),(1,L row),(4,I (els w.Scores).length),(5,I k),(103,.o (.c (.ptr 0 0))),(107,.o (.c (.ref 3))),(110,.o (.c (.sb 5 1 9)))],[.box [.ref 1,jn w.Tick,jn w.Seed,.ref 2,.ref 3],.row 1 (els w.Level.Rows),.row 1 (els w.Scores),.row 9 (els (bs.set k c)),.gh 0 (.c (.ptr 0 0)),.box ((Enc.e (shotOf c)).map (V1.rd []))]⟩:St)) (Gs [0,1,2,3,4,6]) ?_;refine Wz [108,178,103,74,43] ?_
     exact⟨w.Scores.length-(k+1),by omega,_,⟨k+1,bs.set k c ++ [shotOf c],by omega,hnx.symm,J⟩,(by rw[Y6]; exact Gs [0,1,2,3,4])⟩
    ·have f3:decide (((els (bs.set k c)).length:Int)<24)=false:=Gqa (by omega)
     rw[if_neg (fun q=>h24 q.2)] at hnx
     refine Wz [10,18,0,244,3,59,58,5,9,62,43] ?_
     exact⟨w.Scores.length-(k+1),by omega,_,⟨k+1,bs.set k c,by omega,hnx.symm,J⟩,Gs [0,1,2,3,4]⟩
 have hb0:decide ((k:Int)<(els w.Scores).length)=false:=Gqa (by omega)
 have hk:k=w.Scores.length:=by omega
 rw[hk] at hp_A
 have hPl:=hPP.pl
 rw[←hp_A] at hPl
 have hmv:movedM w row=mvM w.Level bs:=by rw[movedM,hp_A]
 have hL:=hPl.lm
 have htm:=hPl.tm
 clear hPl hPP hp_A hbo
 have hlb:=Y9 bs
 have hln:=hL.len
 refine Wz [24,5,61,1,179,23,63] ?_;refine Xi (fun m st=>∃ (j:Nat) (kr:List TBody),j+m=bs.length∧(kr=(bs.take j).filterMap (mvOne w.Level))∧st=(⟨_,[(0,.o (.c (.ptr 0 0))),(1,L row),(4,I (els w.Scores).length),(8,.o (.c (.ref 5))),(9,I j)],[.box [.ref 1,jn w.Tick,jn w.Seed,.ref 2,.ref 3],.row 1 (els w.Level.Rows),.row 1 (els w.Scores),.row 9 (els bs),.gh 0 (.c (.ptr 0 0)),.row 9 (els kr)]⟩:St)) (bs.length) ⟨_,⟨0,[],by omega,J,J⟩,Gs [0,1,2,3,4,5]⟩ ?_
 rintro m_B _ ⟨j,kr,hk_B,hp_B,rfl⟩
 have hlkr:=Y9 kr
 have hkl:=mv_len hp_B
 by_cases hlt:j<bs.length
 ·have hb0:decide ((j:Int)<(els bs).length)=true:=Gqb (by omega)
  obtain⟨b,hb⟩:=Vf hlt
  refine Wz [24,44,98,57,77,44,0,41] ?_
  have he:=Zb hb
  with_reducible refine Xe ?_
  refine zx (Q6 J J J J (by assumption) J J) J ?_
  with_reducible refine K_alloc ?_
  refine V6 (Qx J J J) J ?_
  with_reducible refine Xd ?_
  refine Wz [138] ?_
  refine AWP.pre (st':=(⟨_,[(0,.o (.c (.ptr 0 0))),(1,L row),(4,I (els w.Scores).length),(8,.o (.c (.ref 5))),(9,I j),(10,.o (.c (.ptr 6 0)))],[.box [.ref 1,jn w.Tick,jn w.Seed,.ref 2,.ref 3],.row 1 (els w.Level.Rows),.row 1 (els w.Scores),.row 9 (els bs),.gh 0 (.c (.ptr 0 0)),.row 9 (els kr),.box ((Enc.e b).map (V1.rd []))]⟩:St)) ?_ (Gs [0,1,2,3,4,5,6])
  clear he
  obtain⟨hB,hKn⟩:=hL.at_ j b hb
  have hkd:=hB.k
  have hlf:=hB.f
  have ht:=htm b (Gqu hb)
  by_cases k2:b.Kind=2
  ·have f1:decide (b.Kind=2)=true:=Gqb k2
   have hm:=mv_some hp_B hb (mv_two k2)
   refine Wz [12,107,20,95,95,95,56,15,10,48,45,108,11,167,168,43] ?_
   exact⟨bs.length-(j+1),by omega,_,⟨j+1,kr ++ [b],by omega,hm,J⟩,(by rw[Y6]; exact Gs [0,1,2,3,4,5])⟩
  have f1:decide (b.Kind=2)=false:=Gqa k2
  by_cases k0:b.Kind=0∧b.Life=0
  ·have f2:decide ((j:Int)<(els w.Scores).length)=true:=Gqb (by have:=hKn.1 k0.1; omega)
   have f3:decide (b.Life=0)=true:=Gqb k0.2
   have hm:=mv_some hp_B hb (mv_dead k0.1 k0.2)
   refine Wz [12,107,69,5,3,27,13,3,9,7,15,10,48,45,108,11,167,168,43] ?_
   exact⟨bs.length-(j+1),by omega,_,⟨j+1,kr ++ [b],by omega,hm,J⟩,(by rw[Y6]; exact Gs [0,1,2,3,4,5])⟩
  obtain⟨c,s,hcs⟩:∃ c s,(c,s)=moveM w.Level b:=⟨_,_,rfl⟩
  have cm:=S_l02Move w.Level b hg.1 hl hB.k hB.p hB.vx hB.vy
  have hct:(moveM w.Level b).1.Timer=b.Timer:=rfl
  have ma:=@mv_a w.Level b
  have mn:=@mv_n w.Level b
  have ms:=@mv_s w.Level b
  rw[←hcs] at cm hct ma mn ms
  simp only at cm hct ma mn ms
  clear hcs hB
  by_cases hA:b.Kind=0
  ·have f2:decide ((j:Int)<(els w.Scores).length)=true:=Gqb (by have:=hKn.1 hA; omega)
   have f3:decide (b.Life=0)=false:=Gqa (fun q=>k0 ⟨hA,q⟩)
   have f4:decide (b.Kind=1)=false:=Gqa (by omega)
   have hm:=mv_some hp_B hb (ma ⟨hA,by have:b.Life≠0:=fun q=>k0 ⟨hA,q⟩; omega⟩)
   refine Wz [12,107,69,5,3,27,13,3,9,7,97,72] ?_
   refine AWP.pre (st':=(⟨_,[(0,.o (.c (.ptr 0 0))),(1,L row),(4,I (els w.Scores).length),(8,.o (.c (.ref 5))),(9,I j),(10,.o (.c (.ptr 6 0)))],[.box [.ref 1,jn w.Tick,jn w.Seed,.ref 2,.ref 3],.row 1 (els w.Level.Rows),.row 1 (els w.Scores),.row 9 (els bs),.gh 0 (.c (.ptr 0 0)),.row 9 (els kr),.box ((Enc.e b).map (V1.rd []))]⟩:St)) ?_ (Gs [0,1,2,3,4,5,6])
   refine Xh u8_30 u8_33 u8_34 J ?_;refine Wz [4,227,218,99,99] ?_;refine Vx (Kh J J (cm) J J J) J ?_;refine Wz [185,122,122,184,17] ?_;refine AL.weak (st':=(⟨_,[(0,.o (.c (.ptr 0 0))),(1,L row),(4,I (els w.Scores).length),(8,.o (.c (.ref 5))),(9,I j),(10,.o (.c (.ptr 6 0))),(11,.o (.c (.ptr 7 0))),(155,.o (.ag ((Enc.e c).map (V1.rd [])))),(156,B s)],[.box [.ref 1,jn w.Tick,jn w.Seed,.ref 2,.ref 3],.row 1 (els w.Level.Rows),.row 1 (els w.Scores),.row 9 (els bs),.gh 0 (.c (.ptr 0 0)),.row 9 (els kr),.box ((Enc.e b).map (V1.rd [])),.box [jn 0,jn 0,jn 0,jn 0,jn 0,jn 0,jn 0,jn 0,jn 0]]⟩:St)) (Gs [0,1,2,3,4,5,6,7]) ?_
   with_reducible refine Xd ?_
   refine Qy J J J J J J J J J ?_
   with_reducible refine K_assign ?_
   refine Wz [11] ?_
   refine AWP.pre (st':=(⟨_,[(0,.o (.c (.ptr 0 0))),(1,L row),(4,I (els w.Scores).length),(8,.o (.c (.ref 5))),(9,I j),(10,.o (.c (.ptr 6 0))),(11,.o (.c (.ptr 7 0))),(12,B s)],[.box [.ref 1,jn w.Tick,jn w.Seed,.ref 2,.ref 3],.row 1 (els w.Level.Rows),.row 1 (els w.Scores),.row 9 (els bs),.gh 0 (.c (.ptr 0 0)),.row 9 (els kr),.box ((Enc.e b).map (V1.rd [])),.box ((Enc.e c).map (V1.rd []))]⟩:St)) ?_ (Gs [0,1,2,3,4,5,6,7])
   refine Wz [12,107,38,22,48,45,108,105] ?_
   exact⟨bs.length-(j+1),by omega,_,⟨j+1,kr ++ [c],by omega,hm,J⟩,(by rw[Y6]; exact Gs [0,1,2,3,4,5])⟩
  have k1:b.Kind=1:=by omega
  have f2:decide ((j:Int)<(els w.Scores).length)=false:=Gqa (fun q=>hA (hKn.2 (by omega)))
  have f4:decide (b.Kind=1)=true:=Gqb k1
  have f5:decide (b.Kind=0)=false:=Gqa hA
  refine Wz [12,107,69,5,3,91,114,3,7,7,97,72] ?_
  refine AWP.pre (st':=(⟨_,[(0,.o (.c (.ptr 0 0))),(1,L row),(4,I (els w.Scores).length),(8,.o (.c (.ref 5))),(9,I j),(10,.o (.c (.ptr 6 0)))],[.box [.ref 1,jn w.Tick,jn w.Seed,.ref 2,.ref 3],.row 1 (els w.Level.Rows),.row 1 (els w.Scores),.row 9 (els bs),.gh 0 (.c (.ptr 0 0)),.row 9 (els kr),.box ((Enc.e b).map (V1.rd []))]⟩:St)) ?_ (Gs [0,1,2,3,4,5,6])
  refine Xh u8_30 u8_33 u8_34 J ?_;refine Wz [4,227,218,99,99] ?_;refine Vx (Kh J J (cm) J J J) J ?_;refine Wz [185,122,122,184,17] ?_;refine AL.weak (st':=(⟨_,[(0,.o (.c (.ptr 0 0))),(1,L row),(4,I (els w.Scores).length),(8,.o (.c (.ref 5))),(9,I j),(10,.o (.c (.ptr 6 0))),(11,.o (.c (.ptr 7 0))),(155,.o (.ag ((Enc.e c).map (V1.rd [])))),(156,B s)],[.box [.ref 1,jn w.Tick,jn w.Seed,.ref 2,.ref 3],.row 1 (els w.Level.Rows),.row 1 (els w.Scores),.row 9 (els bs),.gh 0 (.c (.ptr 0 0)),.row 9 (els kr),.box ((Enc.e b).map (V1.rd [])),.box [jn 0,jn 0,jn 0,jn 0,jn 0,jn 0,jn 0,jn 0,jn 0]]⟩:St)) (Gs [0,1,2,3,4,5,6,7]) ?_
  with_reducible refine Xd ?_
  refine Qy J J J J J J J J J ?_
  with_reducible refine K_assign ?_
  refine Wz [11] ?_
  refine AWP.pre (st':=(⟨_,[(0,.o (.c (.ptr 0 0))),(1,L row),(4,I (els w.Scores).length),(8,.o (.c (.ref 5))),(9,I j),(10,.o (.c (.ptr 6 0))),(11,.o (.c (.ptr 7 0))),(12,B s)],[.box [.ref 1,jn w.Tick,jn w.Seed,.ref 2,.ref 3],.row 1 (els w.Level.Rows),.row 1 (els w.Scores),.row 9 (els bs),.gh 0 (.c (.ptr 0 0)),.row 9 (els kr),.box ((Enc.e b).map (V1.rd [])),.box ((Enc.e c).map (V1.rd []))]⟩:St)) ?_ (Gs [0,1,2,3,4,5,6,7])
  rw[←hct] at ht
  cases s with
  |true =>
   have hm:=mv_none hp_B hb (mn (fun q=>hA q.1) k1 (.inl rfl))
   refine Wz [12,107,15,14,71,60,37,135,56,15,167,168,43] ?_
   exact⟨bs.length-(j+1),by omega,_,⟨j+1,kr,by omega,hm,J⟩,Gs [0,1,2,3,4,5]⟩
  | false =>
   by_cases h1:c.Timer-1=0
   ·have f6:decide (c.Timer-1=0)=true:=Gqb h1
    have hm:=mv_none hp_B hb (mn (fun q=>hA q.1) k1 (.inr (by rw[←hct]; exact h1)))
    refine Wz [12,107,15,14,71,60,10,27,13,7,15,167,168,43] ?_
    exact⟨bs.length-(j+1),by omega,_,⟨j+1,kr,by omega,hm,J⟩,Gs [0,1,2,3,4,5]⟩
   ·have f6:decide (c.Timer-1=0)=false:=Gqa h1
    have hm:=mv_some hp_B hb (ms (fun q=>hA q.1) k1 (fun q=>q.elim (fun q=>Gx0 q) (fun q=>h1 (by rw[hct]; exact q))))
    refine Wz [12,107,15,14,71,60,10,27,13,7,38,22,48,45,108,105] ?_
    exact⟨bs.length-(j+1),by omega,_,⟨j+1,kr ++ [tick1 c],by omega,hm,J⟩,(by rw[Y6]; exact Gs [0,1,2,3,4,5])⟩
 have hb0:decide ((j:Int)<(els bs).length)=false:=Gqa (by omega)
 have hj:j=bs.length:=by omega
 have hm:kr=movedM w row:=by rw[hp_B,hj,Gq1,hmv]; rfl
 subst hm
 clear hmv hL htm hp_B
 refine Wz [24,44,98,5,61,37,178,60,10] ?_;refine AL.weak (st':=(⟨_,[(0,.o (.c (.ptr 0 0))),(1,L row),(4,I (els w.Scores).length),(178,.o (.c (.ptr 0 0)))],[.box [.ref 1,jn w.Tick,jn w.Seed,.ref 2,.ref 3],.row 1 (els w.Level.Rows),.row 1 (els w.Scores),.row 9 (els (movedM w row)),.gh 0 (.c (.ptr 0 0))]⟩:St)) (Gs [0,1,2,5,4]) ?_;refine X6 (lo := [_,_,_,_]) (gs := [(0,.c (.ptr 0 0))]) (lo' := [_,_,_,_]) (new := []) [0,1,2,3] [(0,0,.ptr 0 0)] (d1) J J J J J J J J J J J J J J J J J ?_;refine Wz [2,10,44,35,178,60,37,44] ?_;refine AL.weak (st':=(⟨_,[(0,.o (.c (.ptr 0 0))),(1,L row),(4,I (els w.Scores).length),(187,.o (.c (.ptr 0 0))),(191,I w.Seed)],[.box [.ref 1,jn (w.Tick+1),jn w.Seed,.ref 2,.ref 3],.row 1 (els w.Level.Rows),.row 1 (els s4),.row 9 (els b4),.gh 0 (.c (.ptr 0 0))]⟩:St)) (Gs [0,1,2,3,4]) ?_
 clear d1
 refine zx (Qj J J (e1) J) J ?_;refine Wz [178,60,10,178,208] ?_;refine AL.weak (st':=(⟨_,[(0,.o (.c (.ptr 0 0))),(1,L row),(4,I (els w.Scores).length),(198,.o (.ag [.ref 1]))],[.box [.ref 1,jn (w.Tick+1),jn (nextR w.Seed),.ref 2,.ref 3],.row 1 (els w.Level.Rows),.row 1 (els s4),.row 9 (els b4),.gh 0 (.c (.ptr 0 0))]⟩:St)) (Gs [0,1,2,3,4]) ?_
 clear e1
 obtain⟨sd,hsd2⟩:∃ sd,sd=nextR w.Seed:=⟨_,rfl⟩
 rw[←hsd2] at hnr
 rw[←hsd2]
 by_cases q1:(w.Tick+1)%16≠0
 ·have g1:decide ((w.Tick+1)%16≠0)=true:=Gqb q1
  rw[last_1 (.inl q1)]
  refine V6 (Kh J J (e2) J J J) J ?_;refine Wz [52,44,111,81,91,56,20,135,9,15,205,73] ?_
  exact Xn J (Gr [0,1,2,3,4] J J J)
 have g1:decide ((w.Tick+1)%16≠0)=false:=Gqa q1
 by_cases q2:(spotsM w.Level).length=0
 ·have g2:decide (((els (spotsM w.Level)).length:Int)=0)=true:=Gqb (by omega)
  rw[last_1 (.inr (.inl q2))]
  refine V6 (Kh J J (e2) J J J) J ?_;refine Wz [52,44,111,81,8,58,13,7,20,135,9,15,205,73] ?_
  exact Xn J (Gr [0,1,2,3,4] J J J)
 have g2:decide (((els (spotsM w.Level)).length:Int)=0)=false:=Gqa (by omega)
 by_cases q3:24≤b4.length
 ·have g3:decide (((els b4).length:Int)≥24)=true:=Gqb (by omega)
  rw[last_1 (.inr (.inr q3))]
  refine V6 (Kh J J (e2) J J J) J ?_;refine Wz [52,44,111,81,8,58,13,7,18,0,244,3,59,58,132,7,15,205,73] ?_
  exact Xn J (Gr [0,1,2,3,4] J J J)
 have g3:decide (((els b4).length:Int)≥24)=false:=Gqa (by omega)
 have q:¬((w.Tick+1)%16≠0∨(spotsM w.Level).length=0∨24≤b4.length):=fun h=>h.elim q1 fun h=>h.elim q2 q3
 obtain⟨i,hi1,hi2,hi3⟩:=spotOf_mem (seed:=sd) q2
 obtain⟨x,y,hxy,hx,hy⟩:=spot_rng hl (Gqu hi3)
 have e3:=S_RandomBelow sd ((els (spotsM w.Level)).length:Int) hnr ⟨by omega,by omega⟩
 rw[show belowR sd ((els (spotsM w.Level)).length:Int)=i by rw[hlsp]; exact hi1] at e3
 have hsp:(els (spotsM w.Level))[(i:Int).toNat]? = some (Enc.e [x,y]):=Zb (by rw[hi3,hxy])
 have hx0:(els [x,y])[(0:Int).toNat]? = some (Enc.e x):=rfl
 have hy0:(els [x,y])[(1:Int).toNat]? = some (Enc.e y):=rfl
 refine V6 (Kh J J (e2) J J J) J ?_;refine Wz [52,44,111,81,8,58,13,7,18,0,244,3,59,58,132,7,76,44,0,98] ?_;refine V6 (Kh J J (e3) J J J) J ?_;refine Wz [118,96,178,60,25,11,33] ?_
 refine AWP.pre (st':=(⟨_,[(0,.o (.c (.ptr 0 0))),(4,I (els w.Scores).length),(13,.o (.c (.ref 5))),(15,I (i:Int)),(16,I (els w.Scores).length)],[.box [.ref 1,jn (w.Tick+1),jn (nextR sd),.ref 2,.ref 3],.row 1 (els w.Level.Rows),.row 1 (els s4),.row 9 (els b4),.gh 0 (.c (.ptr 0 0)),.row 1 (els (spotsM w.Level))]⟩:St)) ?_ (Gs [0,1,2,3,4,5])
 refine Xi (fun m st=>∃ t:Nat,t+m=(b4.length-w.Scores.length)∧(itemAt (b4.take (w.Scores.length+t)) x y=false)∧st=(⟨_,[(0,.o (.c (.ptr 0 0))),(4,I (els w.Scores).length),(13,.o (.c (.ref 5))),(15,I (i:Int)),(16,I (((els w.Scores).length+t:Nat):Int))],[.box [.ref 1,jn (w.Tick+1),jn (nextR sd),.ref 2,.ref 3],.row 1 (els w.Level.Rows),.row 1 (els s4),.row 9 (els b4),.gh 0 (.c (.ptr 0 0)),.row 1 (els (spotsM w.Level))]⟩:St)) ((b4.length-w.Scores.length)) ⟨(fun t:Nat=>(⟨_,[(0,.o (.c (.ptr 0 0))),(4,I (els w.Scores).length),(13,.o (.c (.ref 5))),(15,I (i:Int)),(16,I (((els w.Scores).length+t:Nat):Int))],[.box [.ref 1,jn (w.Tick+1),jn (nextR sd),.ref 2,.ref 3],.row 1 (els w.Level.Rows),.row 1 (els s4),.row 9 (els b4),.gh 0 (.c (.ptr 0 0)),.row 1 (els (spotsM w.Level))]⟩:St)) 0,⟨0,by omega,at_pl hM1 x y,J⟩,Gp [0,1,2,3,4,5] J (.c J (.c J (.c J (.c J (.cons (Xz (by omega)) (.nil))))))⟩ ?_
 rintro m_C _ ⟨t,hk_C,hp_C,rfl⟩
 by_cases hlt:t<b4.length-w.Scores.length
 ·have hb0:decide ((((els w.Scores).length+t:Nat):Int)<(els b4).length)=true:=Gqb (by omega)
  obtain⟨b,hbb⟩:=Vf (xs:=b4) (i:=w.Scores.length+t) (by omega)
  have he:=at_el hbb
  refine Wz [24,44,98,57,26,12] ?_
  by_cases k1:b.Kind=2
  case neg =>
   have p1:decide (b.Kind=2)=false:=Gqa k1
   refine Wz [282,4,104,4,79,283,109,284,4,80,80,80,258,188,101,4,80,80,80,258,188,101,17,62,43] ?_
   exact⟨(b4.length-w.Scores.length)-(t+1),by omega,(fun t:Nat=>(⟨_,[(0,.o (.c (.ptr 0 0))),(4,I (els w.Scores).length),(13,.o (.c (.ref 5))),(15,I (i:Int)),(16,I (((els w.Scores).length+t:Nat):Int))],[.box [.ref 1,jn (w.Tick+1),jn (nextR sd),.ref 2,.ref 3],.row 1 (els w.Level.Rows),.row 1 (els s4),.row 9 (els b4),.gh 0 (.c (.ptr 0 0)),.row 1 (els (spotsM w.Level))]⟩:St)) (t+1),⟨t+1,by omega,at_go hbb (fun h=>k1 h.1) hp_C,J⟩,Gp [0,1,2,3,4,5] J (.c J (.c J (.c J (.c J (.cons (Xz (by omega)) (.nil))))))⟩
  have p1:decide (b.Kind=2)=true:=Gqb k1
  by_cases k2:b.X=x
  case neg =>
   have p2:decide (b.X=x)=false:=Gqa k2
   refine Wz [282,4,104,4,79,283,109,284,4,47,182,42,47,153,196,177,47,47,153,177,202,203,223,112,4,80,80,80,258,188,101,17,62,43] ?_
   exact⟨(b4.length-w.Scores.length)-(t+1),by omega,(fun t:Nat=>(⟨_,[(0,.o (.c (.ptr 0 0))),(4,I (els w.Scores).length),(13,.o (.c (.ref 5))),(15,I (i:Int)),(16,I (((els w.Scores).length+t:Nat):Int))],[.box [.ref 1,jn (w.Tick+1),jn (nextR sd),.ref 2,.ref 3],.row 1 (els w.Level.Rows),.row 1 (els s4),.row 9 (els b4),.gh 0 (.c (.ptr 0 0)),.row 1 (els (spotsM w.Level))]⟩:St)) (t+1),⟨t+1,by omega,at_go hbb (fun h=>k2 h.2.1) hp_C,J⟩,Gp [0,1,2,3,4,5] J (.c J (.c J (.c J (.c J (.cons (Xz (by omega)) (.nil))))))⟩
  have p2:decide (b.X=x)=true:=Gqb k2
  by_cases k3:b.Y=y
  case neg =>
   have p3:decide (b.Y=y)=false:=Gqa k3
   refine Wz [282,4,104,4,79,283,109,284,4,47,182,42,47,153,196,177,47,47,153,177,202,203,223,112,4,47,182,42,47,153,196,177,47,47,153,177,202,203,223,112,17,62,43] ?_
   exact⟨(b4.length-w.Scores.length)-(t+1),by omega,(fun t:Nat=>(⟨_,[(0,.o (.c (.ptr 0 0))),(4,I (els w.Scores).length),(13,.o (.c (.ref 5))),(15,I (i:Int)),(16,I (((els w.Scores).length+t:Nat):Int))],[.box [.ref 1,jn (w.Tick+1),jn (nextR sd),.ref 2,.ref 3],.row 1 (els w.Level.Rows),.row 1 (els s4),.row 9 (els b4),.gh 0 (.c (.ptr 0 0)),.row 1 (els (spotsM w.Level))]⟩:St)) (t+1),⟨t+1,by omega,at_go hbb (fun h=>k3 h.2.2) hp_C,J⟩,Gp [0,1,2,3,4,5] J (.c J (.c J (.c J (.c J (.cons (Xz (by omega)) (.nil))))))⟩
  have p3:decide (b.Y=y)=true:=Gqb k3
  rw[last_2 q hxy (at_hit hbb ⟨k1,k2,k3⟩)]
  refine Wz [282,4,104,4,79,283,109,284,4,47,182,42,47,153,196,177,47,47,153,177,202,203,223,112,4,47,182,42,47,153,196,177,47,47,153,177,202,203,223,112,17,15,205,133,53] ?_
  exact Xn J (Gr [0,1,2,3,4] J J J)
 ·have hb0:decide ((((els w.Scores).length+t:Nat):Int)<(els b4).length)=false:=Gqa (by omega)
  have hk:w.Scores.length+t=b4.length:=by omega
  rw[hk,Gq1] at hp_C
  rw[last_3 q hxy hp_C]
  refine Wz [24,44,98,5,61] ?_;refine Xh [[],[],[1],[1,2],[1,2,3],[],[],[5,6],[5,6,7],[5,6,7,8],[5,6,7,8,9],[],[],[11,12],[11,12,13],[11,12,13,14],[11,12,13,14,15],[5,6,7,8,9,10,11,12,13,14,15,16],[5,6,7,8,9,10,11,12,13,14,15,16,17],[1,2,3,4,5,6,7,8,9,10,11,12,13,14,15,16,17,18],(u9 20),(u9 21),(u9 22)] [[],[],[287],[287,288],[287,288,289],[],[],[291,292],[291,292,293],[291,292,293,294],[291,292,293,294,295],[],[],[297,298],[297,298,299],[297,298,299,300],[297,298,299,300,301],[291,292,293,294,295,296,297,298,299,300,301,302],[291,292,293,294,295,296,297,298,299,300,301,302,303],[287,288,289,290,291,292,293,294,295,296,297,298,299,300,301,302,303,304],[286,287,288,289,290,291,292,293,294,295,296,297,298,299,300,301,302,303,304,305],[286,287,288,289,290,291,292,293,294,295,296,297,298,299,300,301,302,303,304,305,306],[286,287,288,289,290,291,292,293,294,295,296,297,298,299,300,301,302,303,304,305,306,307]] [[287,288,289,290,291,292,293,294,295,296,297,298,299,300,301,302,303,304,305],[286,291,292,293,294,295,296,297,298,299,300,301,302,303,304],[286,291,292,293,294,295,296,297,298,299,300,301,302,303,304],[286,291,292,293,294,295,296,297,298,299,300,301,302,303,304],[286,291,292,293,294,295,296,297,298,299,300,301,302,303,304],[286,287,288,289,290,292,297,298,299,300,301,302],[286,287,288,289,290,291,297,298,299,300,301,302],[286,287,288,289,290,297,298,299,300,301,302],[286,287,288,289,290,297,298,299,300,301,302],[286,287,288,289,290,297,298,299,300,301,302],[286,287,288,289,290,297,298,299,300,301,302],[286,287,288,289,290,291,292,293,294,295,296,298],[286,287,288,289,290,291,292,293,294,295,296,297],[286,287,288,289,290,291,292,293,294,295,296],[286,287,288,289,290,291,292,293,294,295,296],[286,287,288,289,290,291,292,293,294,295,296],[286,287,288,289,290,291,292,293,294,295,296],[286,287,288,289,290],[286,287,288,289,290],[286],[],[],[],[0]] J ?_;refine Wz [29,104,29,79,109,121,29,79,109,121,260,181,17] ?_;refine AL.weak (st':=(⟨_,[(286,.o (.c (.ptr 0 0))),(290,.o (.c (.ref 3))),(304,.o (.c (.sb 5 1 9)))],[.box [.ref 1,jn (w.Tick+1),jn (nextR sd),.ref 2,.ref 3],.row 1 (els w.Level.Rows),.row 1 (els s4),.row 9 (els b4),.gh 0 (.c (.ptr 0 0)),.box ((Enc.e (itemB x y)).map (V1.rd []))]⟩:St)) (Gs [0,1,2,3,4,6]) ?_;refine Wz [108,178,103,159,207] ?_
  exact Xn J (Gr [0,1,2,3,4] J (by exact rwBo (by rw[Y6]; rfl)) J)
end
section
open Go.RowKit

theorem S_StepWorld (w:TWorld) (row:List Int) (hg:Enc.gd w) (gr:Enc.gd row) (h1:w.Level.Rows.length≤1048576) (h2:w.Scores.length≤1048576) (h3:w.Bodies.length≤1048576):Con Tryz.prog 215 [] [ag w,al row] [.row 1 (els w.Level.Rows),.row 1 (els (stepW w row).Scores),.row 9 (els (stepW w row).Bodies)] (.o (.ag [.ref 0,jn (stepW w row).Tick,jn (stepW w row).Seed,.ref 1,.ref 2])):=by
 have hls:=Y9 w.Scores
 have hlb:=Y9 w.Bodies
 have c1:=S_copyWorld w hg h1 h2 h3
 have c2:=S_WorldOk w hg
 have c3:=S_rowOk row ((els w.Scores).length:Int) gr
 rw[show rowOk row ((els w.Scores).length:Int)=rowOk row (w.Scores.length:Int) by rw[hls]] at c3
 cases ho:worldOk w with
 |false =>
  rw[step_F (fun q=>by rw[ho] at q; cases q.1)]
  rw[ho] at c2
  refine Con.of Tryz.func215 J Tryz.ntmps215 J (fun E => ?_)
  refine Wz [51,2,6] ?_;refine V6 (Kh J J (c1) J J J) J ?_;refine Wz [75,102] ?_;refine zx (Qj J J (c2) J) J ?_;refine Wz [16,91,56,20,135,9,15,6,126,73] ?_
  exact Xl J J J J (Gr [2,3,4] J J J)
 |true =>
 rw[ho] at c2
 by_cases ht:w.Tick=100000
 ·have f1:decide (w.Tick=100000)=true:=Gqb ht
  rw[step_F (fun q=>q.2.1 ht)]
  refine Con.of Tryz.func215 J Tryz.ntmps215 J (fun E => ?_)
  refine Wz [51,2,6] ?_;refine V6 (Kh J J (c1) J J J) J ?_;refine Wz [75,102] ?_;refine zx (Qj J J (c2) J) J ?_;refine Wz [16,27,13,7,20,135,9,15,6,126,73] ?_
  exact Xl J J J J (Gr [2,3,4] J J J)
 have f1:decide (w.Tick=100000)=false:=Gqa ht
 cases hr:rowOk row (w.Scores.length:Int) with
 |false =>
  rw[step_F (fun q=>by rw[hr] at q; cases q.2.2)]
  rw[hr] at c3
  refine Con.of Tryz.func215 J Tryz.ntmps215 J (fun E => ?_)
  refine Wz [51,2,6] ?_;refine V6 (Kh J J (c1) J J J) J ?_;refine Wz [75,102] ?_;refine zx (Qj J J (c2) J) J ?_;refine Wz [16,27,13,7,8,59,21,3] ?_;refine zx (Qj J J (c3) J) J ?_;refine Wz [83,15,6,126,73] ?_
  exact Xl J J J J (Gr [2,3,4] J J J)
 |true =>
 rw[hr] at c3
 rw[step_T ⟨ho,ht,hr⟩]
 have d1:=S_l02Step w row hg ho ht hr
 refine Con.of Tryz.func215 J Tryz.ntmps215 J (fun E => ?_)
 refine Wz [51,2,6] ?_;refine V6 (Kh J J (c1) J J J) J ?_;refine Wz [75,102] ?_;refine zx (Qj J J (c2) J) J ?_;refine Wz [16,27,13,7,8,59,21,3] ?_;refine zx (Qj J J (c3) J) J ?_;refine Wz [83,76] ?_;refine AL.weak (st':=(⟨_,[(4,.o (.c (.ptr 4 0))),(5,.o (.c (.ptr 0 0))),(25,L row)],[.box [.ref 1,jn w.Tick,jn w.Seed,.ref 2,.ref 3],.row 1 (els w.Level.Rows),.row 1 (els w.Scores),.row 9 (els w.Bodies),.box [nilV,jn 0,jn 0,nilV,nilV]]⟩:St)) (Gs [5,2,3,4,1]) ?_
 clear c1 c2 c3 f1
 refine X6 (lo := [_,_,_,_]) (gs := [(0,.c (.ptr 0 0))]) (lo' := [_,_,_,_]) (new := []) [0,1,2,3] [(0,0,.ptr 0 0)] (d1) J J J J J J J J J J J J J J J J J ?_;refine Wz [2,6,126,145] ?_
 exact Xl J J J J (Gr [1,2,3] J J J)
end
section
open Go.RowKit

theorem Enc.gd_take {α:Type} [Enc α] {xs:List α} (h:Enc.gd xs) (n:Nat):Enc.gd (xs.take n):=⟨Gq8 (by simp; omega) h.1,fun x hx=>h.2 x (Gxc hx)⟩
structure RepIn (y:TReplay):Prop where
 gd:Enc.gd y
 h1:y.Level.Rows.length≤1048576
 h2:y.Keys.length≤1048576
 h3:y.Rows.length≤1048576
 h4:tot y.Rows≤1048576
structure WorIn (w:TWorld):Prop where
 gd:Enc.gd w
 h1:w.Level.Rows.length≤1048576
 h2:w.Scores.length≤1048576
 h3:w.Bodies.length≤1048576
theorem Vp:WorIn zeroWorld:=⟨⟨⟨by simp[zeroWorld],fun x hx=>by simp[zeroWorld] at hx⟩,⟨by decide,by decide⟩,⟨by decide,by decide⟩,⟨by simp[zeroWorld],fun x hx=>by simp[zeroWorld] at hx⟩,⟨by simp[zeroWorld],fun x hx=>by simp[zeroWorld] at hx⟩⟩,by simp[zeroWorld],by simp[zeroWorld],by simp[zeroWorld]⟩
theorem read_in {lv:TLevel} {s:ByteArray} (hg:Enc.gd lv) (hL:lv.Rows.length≤1048576) (hs:s.size≤1099511627776):WorIn (rwW (readWorld lv s)):=by
 cases hu:unpackInts s 0 with
 |none=>rw[K5 hu]; exact Vp
 | some r =>
  obtain⟨l,pos⟩:=r
  obtain⟨_,hu1,hu2,hu3,hu4⟩:=Vj hu
  by_cases hp:pos=s.size∧formOk l∧worldOk (worldOf lv l)=true
  ·rw[K6 hu hp]
   have hw:=Vr hp.2.2
   exact⟨worldOf_gd hg hu4 (by omega),hL,Gq8 hw.2.2.2.1.2 (by decide),Gq8 hw.2.2.2.2.2.1.2 (by decide)⟩
  ·rw[K4 hu hp]; exact Vp
end
section
open Go.RowKit

noncomputable def runM (w:TWorld) (rows:List (List Int)):TWorld:=rows.foldl stepW w
theorem step_in {w:TWorld} {row:List Int} (h:WorIn w):WorIn (stepW w row):=by
 have h1:=Vg (row:=row) h.gd
 exact⟨h1.1,by rw[Vh]; exact h.h1,by rw[h1.2.1]; exact h.h2,by have:=h.h3; omega⟩
theorem ran_in:∀ (rows:List (List Int)) {w:TWorld},WorIn w→WorIn (runM w rows)
 | [],_,h=>h
 |r::rs,w,h=>ran_in rs (w:=stepW w r) (step_in h)
theorem runM_next {w x:TWorld} {rows:List (List Int)} {k:Nat} {r:List Int} (hr:rows[k]? = some r) (h:x=runM w (rows.take k)):stepW x r=runM w (rows.take (k+1)):=by
 obtain⟨hk,rfl⟩:=Gqo.1 hr
 rw[Gxd hk,h]
 unfold runM
 rw[List.foldl_append]
 rfl
theorem I_RunWorld (w:TWorld) (rows:List (List Int)) (iw:WorIn w) (gr:Enc.gd rows):Con Tryz.prog 211 [] [ag w,al rows] [.row 1 (els (runM w rows).Level.Rows),.row 1 (els (runM w rows).Scores),.row 9 (els (runM w rows).Bodies)] (.o (.ag [.ref 0,jn (runM w rows).Tick,jn (runM w rows).Seed,.ref 1,.ref 2])):=by
 have c1:=I_copyWorld w iw.gd iw.h1 iw.h2 iw.h3
 have hlr:=Y9 rows
 have hlg:=gr.1
 refine Con.of Tryz.func211 J Tryz.ntmps211 J (fun E => ?_)
 refine Wz [51,2,6] ?_;refine V6 (Kh J J (c1) J J J) J ?_;refine Wz [75,25,21,131,33] ?_
 refine AWP.pre (st':=(⟨_,[(4,.o (.c (.ptr 4 0))),(5,.o (.c (.ptr 0 0))),(10,L rows),(11,I (els rows).length),(12,I 0)],[.box [.ref 1,jn w.Tick,jn w.Seed,.ref 2,.ref 3],.row 1 (els w.Level.Rows),.row 1 (els w.Scores),.row 9 (els w.Bodies),.box [nilV,jn 0,jn 0,nilV,nilV]]⟩:St)) ?_ (Gs [5,2,3,4,1])
 clear c1
 refine Xi (fun m st=>∃ (k:Nat) (x:TWorld),k+m=rows.length∧(x=runM w (rows.take k))∧st=(⟨_,[(4,.o (.c (.ptr 4 0))),(5,.o (.c (.ptr 0 0))),(10,L rows),(11,I (els rows).length),(12,I k)],[.box [.ref 1,jn x.Tick,jn x.Seed,.ref 2,.ref 3],.row 1 (els x.Level.Rows),.row 1 (els x.Scores),.row 9 (els x.Bodies),.box [nilV,jn 0,jn 0,nilV,nilV]]⟩:St)) (rows.length) ⟨_,⟨0,w,by omega,J,J⟩,Gs [0,1,2,3,4]⟩ ?_
 rintro m_A _ ⟨k,x,hk_A,hp_A,rfl⟩
 have ix:WorIn x:=by rw[hp_A]; exact ran_in _ iw
 by_cases hlt:k<rows.length
 ·have hb0:decide ((k:Int)<(els rows).length)=true:=Gqb (by omega)
  obtain⟨r,hr⟩:=Vf hlt
  have her:=Zb hr
  have cs:=I_StepWorld x r ix.gd (gr.2 r (Gqu hr)) ix.h1 ix.h2 ix.h3
  have hnx:=runM_next hr hp_A
  have hlv:=Vh x r
  generalize stepW x r=z at cs hnx hlv
  rw[←hlv] at cs
  refine Wz [1,5,39,65,26,1,49,11,128,48,0] ?_;refine V6 (Kh J J (cs) J J J) J ?_;refine Wz [170,74,64] ?_
  exact⟨rows.length-(k+1),by omega,_,⟨k+1,z,by omega,hnx,J⟩,Gs [0,5,6,7,4]⟩
 have hb0:decide ((k:Int)<(els rows).length)=false:=Gqa (by omega)
 have hk:k=rows.length:=by omega
 rw[hk,Gq1] at hp_A
 rw[←hp_A]
 refine Wz [1,5,39,175,40,6,126,145] ?_
 exact Xl J J J J (Gr [1,2,3] J J J)
theorem S_RunWorld (w:TWorld) (rows:List (List Int)) (iw:WorIn w) (gr:Enc.gd rows):Con Tryz.prog 245 [] [ag w,al rows] [.row 1 (els (runM w rows).Level.Rows),.row 1 (els (runM w rows).Scores),.row 9 (els (runM w rows).Bodies)] (.o (.ag [.ref 0,jn (runM w rows).Tick,jn (runM w rows).Seed,.ref 1,.ref 2])):=by
 have c1:=S_copyWorld w iw.gd iw.h1 iw.h2 iw.h3
 have hlr:=Y9 rows
 have hlg:=gr.1
 refine Con.of Tryz.func245 J Tryz.ntmps245 J (fun E => ?_)
 refine Wz [51,2,6] ?_;refine V6 (Kh J J (c1) J J J) J ?_;refine Wz [75,12,63] ?_
 refine AWP.pre (st':=(⟨_,[(4,.o (.c (.ptr 4 0))),(5,.o (.c (.ptr 0 0))),(1,L rows),(6,I 0)],[.box [.ref 1,jn w.Tick,jn w.Seed,.ref 2,.ref 3],.row 1 (els w.Level.Rows),.row 1 (els w.Scores),.row 9 (els w.Bodies),.box [nilV,jn 0,jn 0,nilV,nilV]]⟩:St)) ?_ (Gs [5,2,3,4,1])
 clear c1
 refine Xi (fun m st=>∃ (k:Nat) (x:TWorld),k+m=rows.length∧(x=runM w (rows.take k))∧st=(⟨_,[(4,.o (.c (.ptr 4 0))),(5,.o (.c (.ptr 0 0))),(1,L rows),(6,I k)],[.box [.ref 1,jn x.Tick,jn x.Seed,.ref 2,.ref 3],.row 1 (els x.Level.Rows),.row 1 (els x.Scores),.row 9 (els x.Bodies),.box [nilV,jn 0,jn 0,nilV,nilV]]⟩:St)) (rows.length) ⟨_,⟨0,w,by omega,J,J⟩,Gs [0,1,2,3,4]⟩ ?_
 rintro m_A _ ⟨k,x,hk_A,hp_A,rfl⟩
 have ix:WorIn x:=by rw[hp_A]; exact ran_in _ iw
 by_cases hlt:k<rows.length
 ·have hb0:decide ((k:Int)<(els rows).length)=true:=Gqb (by omega)
  obtain⟨r,hr⟩:=Vf hlt
  have her:=Zb hr
  have cs:=S_StepWorld x r ix.gd (gr.2 r (Gqu hr)) ix.h1 ix.h2 ix.h3
  have hnx:=runM_next hr hp_A
  have hlv:=Vh x r
  generalize stepW x r=z at cs hnx hlv
  rw[←hlv] at cs
  refine Wz [24,21,57,26] ?_;refine Xh [[],[],[],[1,2],[1,2,3],(u9 5),(u9 6)] [[],[],[],[16,17],[16,17,18],[15,16,17,18,19],[15,16,17,18,19,20]] [[16,17,18,19],[15,17],[15,16],[15],[15],[],[]] J ?_;refine Wz [99,29,121,296,17,170,74,43] ?_
  exact⟨rows.length-(k+1),by omega,_,⟨k+1,z,by omega,hnx,J⟩,Gs [0,5,6,7,4]⟩
 have hb0:decide ((k:Int)<(els rows).length)=false:=Gqa (by omega)
 have hk:k=rows.length:=by omega
 rw[hk,Gq1] at hp_A
 rw[←hp_A]
 refine Wz [24,21,5,61,6,126,145] ?_
 exact Xl J J J J (Gr [1,2,3] J J J)
end
section
open Go.RowKit

theorem Y5 {s:ByteArray} {p:Nat} {a r:List UInt8} (h:s.data.toList.drop p=a++r):s.data.toList.drop (p+a.length)=r:=by
 have:=congrArg (List.drop a.length) h
 rw[Gxn,List.drop_left] at this
 exact this
theorem unpackInts_enc2 {s:ByteArray} {p:Nat} {xs:List Int} {r:List UInt8} (hx:∀ x∈xs,0≤signless x) (hL:xs.length≤1073741824) (hs:s.data.toList.drop p=(packInts xs).data.toList++r):unpackInts s (p:Int)=some (xs,(packInts xs).size):=by
 have hall:xs.all (fun x=>decide (0≤signless x))=true:=by simpa using hx
 have hp:packInts xs=bs (encVar xs.length++xs.flatMap fun x=>encVar (signless x)):=by
  rw[packInts,if_pos hall,packK,Gq1]
 have hl:s.data.toList.drop p=encVar xs.length++((xs.flatMap fun x=>encVar (signless x))++r):=by rw[hs,hp,Yr,Gqn]
 have h1:decVar s (p:Int)=_:=Y2 (n:=(xs.length:Int)) (by omega) (by omega) hl
 have h2:=uiGo_enc s p r xs (encVar (xs.length:Int)).length hx (Y5 hl)
 rw[unpackInts,h1]
 simp only[Int.toNat_natCast,h2]
 congr 2
 rw[hp,Ys,Gqe]
theorem encVar_pos {n:Int} (h:0≤n∧n≤1099511627775):1≤(encVar n).length:=by
 rw[encVar,if_pos h]
 exact (varN_len _).1
theorem Vl {s t:ByteArray} {p:Nat} {r:List UInt8} (ht:t.size≤1099511627775) (hs:s.data.toList.drop p=(packText t).data.toList++r):unpackText s (p:Int)=some (t,(packText t).size):=by
 have hp:(packText t).data.toList=encVar t.size++t.data.toList:=by rw[packText,Gxo,Gxx]
 have hl:s.data.toList.drop p=encVar t.size++(t.data.toList++r):=by rw[hs,hp,Gqn]
 have h1:decVar s (p:Int)=_:=Y2 (n:=(t.size:Int)) (by omega) (by omega) hl
 have hd:=Y5 hl
 have hlen:t.data.toList.length=t.size:=by simp
 have hsl:s.data.toList.length=s.size:=by simp
 have hle:=congrArg List.length hl
 rw[Gq0,Gqe,Gqe,hlen,hsl] at hle
 have hpos:=encVar_pos (n:=(t.size:Int)) (by omega)
 rw[unpackText,h1]
 simp only
 rw[if_neg (by omega)]
 have hsz:(packText t).size=(encVar t.size).length+t.size:=by
  show (packText t).data.size=_
  rw[←Gzf,hp,Gqe,hlen]
 have hx:s.extract ((p:Int)+((encVar t.size).length:Int)).toNat ((p:Int)+((encVar t.size).length:Int)+(t.size:Int)).toNat=t:=by
  rw[show ((p:Int)+((encVar t.size).length:Int)).toNat=p+(encVar t.size).length by omega,show ((p:Int)+((encVar t.size).length:Int)+(t.size:Int)).toNat=(p+(encVar t.size).length)+t.size by omega,Zg,bytesL,hd,←hlen,List.take_left,bs_of]
 rw[hx,hsz,Int.toNat_natCast]
theorem runs_val {x:Int} {n:Nat} (hx:0≤x∧x≤15):(x+16*(n:Int))/16=n∧(x+16*(n:Int))%16=x:=by omega
theorem tw_rep (x:Int):∀ r:List Int,List.replicate (r.takeWhile (· == x)).length x++r.drop (r.takeWhile (· == x)).length=r
 | []=>rfl
 | y::r=>by
  rw[List.takeWhile_cons]
  by_cases h:y=x
  ·subst h
   simp only[beq_self_eq_true,if_true,Gqt,List.replicate_succ,List.drop_succ_cons,List.cons_append]
   rw[tw_rep y r]
  ·have:(y == x)=false:=by simpa using h
   rw[this]
   simp
theorem tw_le (x:Int) (r:List Int):(r.takeWhile (· == x)).length≤r.length:=(List.takeWhile_prefix _).length_le
theorem utGo_enc (s:ByteArray):∀ (N:Nat) (xs:List Int) (f pos:Nat) (acc:List Int),xs.length≤N→(∀ x∈xs,0≤x∧x≤15)→acc.length+xs.length≤400→s.data.toList.drop pos=packRuns xs→s.size≤pos+f→utGo s f pos acc=some (acc++xs):=by
 intro N
 induction N with
 |zero =>
  intro xs f pos acc hN hx hL hd hf
  have:xs = []:=List.length_eq_zero_iff.1 (by omega)
  subst this
  rw[packRuns] at hd
  have hl:=congrArg List.length hd
  rw[Gq0] at hl
  simp only[List.length_nil,Gzf] at hl
  have h3:s.data.size=s.size:=rfl
  rw[utGo_end (by omega),Gxg]
 | succ N ih =>
  intro xs f pos acc hN hx hL hd hf
  match xs with
  | []=>exact (ih [] f pos acc (by simp) hx hL hd hf)
  | x::r =>
   rw[packRuns] at hd
   have hle:=tw_le x r
   have hxr:=hx x (by simp)
   simp only[Gqt] at hN hL
   have hv:=runs_val (n:=(r.takeWhile (· == x)).length+1) hxr
   have hb:0≤x+16*(((r.takeWhile (· == x)).length+1:Nat):Int)∧x+16*(((r.takeWhile (· == x)).length+1:Nat):Int)≤1099511627775:=by omega
   have h1:=Y2 hb.1 hb.2 hd
   have hpos:=encVar_pos hb
   have hlt:pos<s.size:=by
    have hl:=congrArg List.length hd
    rw[Gq0,Gqe] at hl
    simp only[Gzf] at hl
    have h3:s.data.size=s.size:=rfl
    omega
   cases f with
   |zero=>omega
   |succ f =>
    rw[utGo,if_pos hlt,h1]
    simp only
    rw[hv.1,hv.2,if_neg (by omega),Int.toNat_natCast]
    have:=ih (r.drop (r.takeWhile (· == x)).length) f (pos+(encVar (x+16*(((r.takeWhile (· == x)).length+1:Nat):Int))).length) (acc++List.replicate ((r.takeWhile (· == x)).length+1) x) (by rw[Gq0]; omega) (fun y hy=>hx y (Gq6 _ (Gxw hy))) (by rw[Gqe,Gxs,Gq0]; omega) (Y5 hd) (by omega)
    rw[this,Gqn,List.replicate_succ,List.cons_append,tw_rep x r]
theorem unpackTrack_pack {xs:List Int} (hL:xs.length≤400) (hx:inOk xs=true):unpackTrack (packTrack xs)=some xs:=by
 have hp:packTrack xs=bs (packRuns xs):=by rw[packTrack,if_pos ⟨hL,hx⟩]
 have h:=utGo_enc (packTrack xs) xs.length xs (packTrack xs).size 0 [] (Gqf _) (fun x hxm=>Zn.1 (Gqk.1 hx x hxm)) (by simpa using hL) (by rw[hp,Yr,Gx8]) (by omega)
 rw[unpackTrack,h]
 simp
theorem colsB_split (rows:List (List Int)):∀ m k,k<m→∃ r,(colsB rows m).data.toList=(colsB rows k).data.toList++((packText (packTrack (colM rows k))).data.toList++r)
 |0,k,h=>by omega
 | m+1,k,h=>by
  rw[colsB,Gxo,Gxx]
  by_cases hk:k=m
  ·subst hk
   exact⟨[],by rw[Gxg]⟩
  ·obtain⟨r,hr⟩:=colsB_split rows m k (by omega)
   exact⟨r++(packText (packTrack (colM rows m))).data.toList,by rw[hr]; simp[Gqn]⟩
theorem snocs_take {rows:List (List Int)} {m k:Nat} (hr:∀ r∈rows,r.length=m) (hk:k<m):snocs (rows.map (·.take k)) (colM rows k)=rows.map (·.take (k+1)):=by
 induction rows with
 |nil=>rfl
 |cons r rows ih =>
  have h1:=hr r (by simp)
  have h2:=ih fun x hx=>hr x (by simp[hx])
  simp only[snocs,colM,List.map_cons,List.zipWith_cons_cons] at h2 ⊢
  rw[h2,List.take_add_one,Gqc,Gqd (by omega)]
  rfl
theorem colsGo_enc {s:ByteArray} {rows:List (List Int)} {m p0:Nat} {r0:List UInt8} (hL:rows.length≤400) (hr:∀ r∈rows,rowOk r m=true) (hlen:∀ r∈rows,r.length=m) (hs:s.data.toList.drop p0=(colsB rows m).data.toList++r0) :
  ∀ c k,k+c=m→colsGo s rows.length c (p0+(colsB rows k).size) (rows.map (·.take k))=some (rows,p0+(colsB rows m).size)
 |0,k,h=>by
  have hk:k=m:=by omega
  subst hk
  rw[colsGo]
  congr 2
  conv=>rhs; rw[←List.map_id rows]
  exact List.map_congr_left fun r hrm=>by rw[←hlen r hrm,Gq1]; rfl
 | c+1,k,h=>by
  obtain⟨r,hsp⟩:=colsB_split rows m k (by omega)
  have hd:s.data.toList.drop (p0+(colsB rows k).size)=(packText (packTrack (colM rows k))).data.toList++(r++r0):=by
   rw[hsp,Gqn] at hs
   have:=Y5 hs
   rw[show (colsB rows k).data.toList.length=(colsB rows k).size by simp] at this
   rw[this,Gqn]
  have hin:inOk (colM rows k)=true:=Gqk.2 fun x hx=>by
   obtain⟨r,h1,rfl⟩:=Gqr.1 hx
   have h2:=hr r h1
   have h3:=hlen r h1
   rw[Gqc,Gqd (by omega)]
   have h4:inOk r=true:=by
    simp only[rowOk,Gqg] at h2
    first
     |exact h2.2
     |exact h2.1
   exact Gqk.1 h4 _ (Gql (by omega))
  have h1:=Vl (by have:=Z5 (colM rows k); omega) hd
  rw[colsGo,h1]
  simp only
  rw[unpackTrack_pack (by rw[Y0]; exact hL) hin]
  simp only
  rw[if_pos (Y0 rows k),snocs_take hlen (by omega)]
  have ih:=colsGo_enc hL hr hlen hs c (k+1) (by omega)
  rw[colsB,Yy] at ih
  rw[Gxz]
  exact ih
/-! ### Worlds -/
theorem ints_rng {w:TWorld} (ho:worldOk w=true):∀ x∈worldInts w,0≤signless x:=by
 obtain⟨hl,ht,hs,hn,hsc,hb,hbo⟩:=Vr ho
 have ht:=Zn.1 ht
 have hs:=Zn.1 hs
 intro x hx
 have hb : -549755813888≤x∧x≤549755813887:=by
  simp only[worldInts,Gqm,List.mem_cons,Gxp,or_false,List.mem_flatMap] at hx
  rcases hx with (h | h) | ⟨b,hb,h⟩
  ·omega
  ·have:=Vb ho x h; omega
  ·obtain⟨k,hk,rfl⟩:=List.mem_iff_getElem.1 hb
   have h1:=hbo k hk
   unfold bodyAt at h1
   rw[Gqg] at h1
   have h2:=h1.1
   simp only[bodyM,Gqg,Gq9,Zn] at h2
   obtain⟨hk1,ho1,hp,hvx,hvy,htl⟩:=h2
   have hpl:=Z7 hl (size_in (Zn.2 hk1)) hp
   have htt:(-2≤w.Bodies[k].Aim∧w.Bodies[k].Aim≤2)∧(0≤w.Bodies[k].Life∧w.Bodies[k].Life≤3)∧(0≤w.Bodies[k].Timer∧w.Bodies[k].Timer≤25):=by
    unfold tailM at htl
    split at htl
    ·simp only[Gqg,decide_eq_true_eq,Zn] at htl
     obtain⟨⟨h4,h5⟩,h6⟩:=htl
     split at h6
     ·have:=Zn.1 h6; omega
     ·have:=Zn.1 h6; omega
    ·split at htl
     ·simp only[Gqg,decide_eq_true_eq,Zn] at htl; omega
     ·simp only[decide_eq_true_eq] at htl; omega
   simp only[bodyInts,List.mem_cons,Gxp,or_false] at h
   omega
 unfold signless
 rw[if_pos hb]
 split <;> omega
theorem world_back {w:TWorld} (ho:worldOk w=true):readWorld w.Level (worldBytes w)=some w:=by
 obtain⟨hl,ht,hs,hn,hsc,hb,hbo⟩:=Vr ho
 obtain⟨h1,h2⟩:=worldOf_ints2 w hn.1 hn.2
 have hL:(worldInts w).length≤1073741824:=by
  have:=flat_length w.Bodies
  simp only[worldInts,Gqe,Gqt,List.length_nil]
  omega
 have hu:=unpackInts_enc (ints_rng ho) hL
 rw[worldBytes,if_pos ho]
 have:=K6 (lv:=w.Level) hu ⟨rfl,h2,by rw[h1]; exact ho⟩
 rw[this,h1]
/-! ### Runs -/
theorem runM_app (w:TWorld) (a b:List (List Int)):runM w (a++b)=runM (runM w a) b:=by rw[runM,runM,runM,List.foldl_append]
theorem runM_cons (w:TWorld) (r:List Int) (rows:List (List Int)):runM w (r::rows)=runM (stepW w r) rows:=rfl
theorem tick_tick (w:TWorld) (row:List Int):(tickM w row).Tick=w.Tick+1:=by
 unfold tickM lastM
 split
 ·rfl
 ·split <;> rfl
theorem stepW_good {w:TWorld} {row:List Int} (ho:worldOk w=true) (ht:w.Tick<100000) (hr:rowOk row w.Scores.length=true):(stepW w row).Tick=w.Tick+1:=by
 rw[stepW,if_pos ⟨ho,by omega,hr⟩]
 exact tick_tick w row
theorem runM_good:∀ (rows:List (List Int)) {w:TWorld},WorIn w→worldOk w=true→w.Tick+rows.length≤100000→(∀ r∈rows,rowOk r w.Scores.length=true)→worldOk (runM w rows)=true∧(runM w rows).Tick=w.Tick+rows.length∧(runM w rows).Level=w.Level∧(runM w rows).Scores.length=w.Scores.length
 | [],w,_,ho,_,_=>⟨ho,by simp[runM],rfl,rfl⟩
 |r::rows,w,iw,ho,ht,hr=>by
  simp only[Gqt] at ht
  have h1:=stepW_good ho (by omega) (hr r (by simp))
  have h2:=Vg (w:=w) (row:=r) iw.1
  have h3:=runM_good rows (w:=stepW w r) (step_in iw) (stepW_ok iw.1 ho) (by omega) (fun x hx=>by rw[h2.2.1]; exact hr x (by simp[hx]))
  rw[runM_cons]
  refine⟨h3.1,by rw[h3.2.1,h1,Gqt]; omega,by rw[h3.2.2.1,Vh],by rw[h3.2.2.2,h2.2.1]⟩
/-! ### The lockstep worlds -/
section
variable {l:TLevel} {n:Nat} {seed:Int} {e:Nat} {rows:List (List Int)}
noncomputable def lockW (l:TLevel) (n:Nat) (seed:Int) (rows:List (List Int)) (t:Nat):TWorld:=runM (newWorld l n seed) (rows.take t)
structure RD (l:TLevel) (n:Nat) (seed:Int) (e:Nat) (rows:List (List Int)):Prop where
 hl:levelOk l=true
 gl:Enc.gd l
 ll:l.Rows.length≤1048576
 hn:1≤n∧n≤4
 hs:inR seed 0 65535=true
 he:1≤e∧e≤100
 hL:rows.length≤400
 hr:∀ r∈rows,rowOk r (n:Int)=true
theorem RD.new_in (h:RD l n seed e rows):WorIn (newWorld l n seed):=by
 have h1:=Zy h.gl h.hl h.hn h.hs
 have hn:=h.hn
 exact⟨h1,h.ll,by simp only[newWorld,Gxs]; omega,by simp only[newWorld,List.length_map,List.length_range]; omega⟩
theorem RD.new_len (h:RD l n seed e rows):(newWorld l n seed).Scores.length=n:=by simp[newWorld]
theorem RD.good (h:RD l n seed e rows) (t:Nat):worldOk (lockW l n seed rows t)=true∧(lockW l n seed rows t).Tick=((rows.take t).length:Int)∧(lockW l n seed rows t).Level=l∧(lockW l n seed rows t).Scores.length=n:=by
 have hlen:(rows.take t).length≤rows.length:=by rw[Gqx]; omega
 have hL:=h.hL
 have h0:(newWorld l n seed).Tick=0:=rfl
 have h1:=runM_good (rows.take t) h.new_in (newWorld_ok h.hl h.hn h.hs) (by rw[h0]; omega) (fun r hr=>by rw[h.new_len]; exact h.hr r (Gxc hr))
 exact⟨h1.1,by rw[lockW,h1.2.1,h0]; omega,h1.2.2.1,by rw[lockW,h1.2.2.2,h.new_len]⟩
theorem lockW_zero:lockW l n seed rows 0=newWorld l n seed:=rfl
end
end
end Go.Proofs.YtpmacgnmlmmojaaGreatDoor
