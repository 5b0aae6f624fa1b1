/-
  Rules, data and contracts of functions: part 25 of the proof.
  Conditions: those that each theorem names.
-/
import Derived.Test.YtoecjaohdnoenaaGreatDDLockRowk23
set_option linter.unusedSimpArgs false
set_option linter.unusedVariables false
set_option maxRecDepth 8000
set_option maxHeartbeats 8000000
namespace Go.Proofs.YtoecjaohdnoenaaGreat
section
open Go.RowKit

theorem st_el {bs:List TBody} {i j:Nat} {p p':TBody} {ts:List T} (h:splice (Enc.e p) j ts=Enc.e p'):els (bs.set i p')=(els (bs.set i p)).set i (splice (Enc.e p) j ts):=by
 rw[h,els,els,←List.map_set,List.set_set]
theorem st_el0 {bs:List TBody} {i j:Nat} {p p':TBody} {ts:List T} (h:splice (Enc.e p) j ts=Enc.e p'):els (bs.set i p')=(els bs).set i (splice (Enc.e p) j ts):=by
 rw[h,els,els,←List.map_set]
def lifeM (p:TBody):TBody:=⟨p.Kind,p.Owner,p.X,p.Y,p.VX,p.VY,p.Aim,p.Life-1,p.Timer⟩
def stopX (p:TBody):TBody:=⟨p.Kind,p.Owner,p.X,p.Y,0,p.VY,p.Aim,p.Life-1,p.Timer⟩
def stopY (p:TBody):TBody:=⟨p.Kind,p.Owner,p.X,p.Y,0,0,p.Aim,p.Life-1,p.Timer⟩
def downM (p:TBody):TBody:=⟨p.Kind,p.Owner,p.X,p.Y,0,0,p.Aim,p.Life-1,20⟩
theorem hit_alive {p:TBody} (h:¬p.Life-1=0):hitB p=lifeM p:=by simp only[hitB,lifeM,if_neg h]
theorem hit_down {p:TBody} (h:p.Life-1=0):hitB p=downM p:=by simp only[hitB,downM,if_pos h]
theorem met_I {bs:List TBody} {b:TBody} {o:Int} {n k:Nat} (h:metF bs b o n=some k):metI bs b o n=k:=by rw[metI,h]
theorem met_no {bs:List TBody} {b:TBody} {o:Int} {n:Nat} (h:metF bs b o n=none):metI bs b o n = -1:=by rw[metI,h]
theorem tl_el {bs:List TBody} {ss:List Int} {k:Nat} {b:TBody} (h:bs[ss.length+k]? = some b):(els bs)[(els ss).length+(k:Int).toNat]? = some (Enc.e b):=by
 rw[Yc,Int.toNat_natCast,els,Gqj,h]; rfl
theorem tk_app {bs lf:List TBody} {n m:Nat} (h:m=n):els (bs.take n++lf)=(els bs).take m++els lf:=by rw[h,Ya,els_takeE2]
theorem els_pl9 (bs:List TBody):plainT (els bs):=fun e he t ht=>by
 obtain⟨x,_,rfl⟩:=Gqx.1 he
 simp only[Enc.e] at ht
 revert ht
 simp only[List.mem_cons,List.not_mem_nil,or_false]
 rintro (rfl | rfl | rfl | rfl | rfl | rfl | rfl | rfl | rfl) <;> exact⟨_,rfl⟩
theorem els_k9 (bs:List TBody):∀ e∈els bs,e.length=9:=fun e he=>by
 obtain⟨x,_,rfl⟩:=Gqx.1 he
 rfl
theorem I_stepShots (w:TWorld) (hg:Enc.gd w.Level) (hl:levelOk w.Level=true) (hn4:1≤w.Scores.length∧w.Scores.length≤4) (hL:LM w.Level w.Scores.length w.Bodies) (hsc:∀ x∈w.Scores,0≤x∧x≤1000000):Con Tryz.prog 252 [.box [.ref 1,jn w.Tick,jn w.Seed,.ref 2,.ref 3],.row 1 (els w.Level.Rows),.row 1 (els w.Scores),.row 9 (els w.Bodies),.gh 0 (.c (.ptr 0 0))] [.c (.ptr 0 0)] [.box [.ref 1,jn w.Tick,jn w.Seed,.ref 2,.ref 3],.row 1 (els w.Level.Rows),.row 1 (els (shS w.Scores.length (w.Bodies.drop w.Scores.length) (w.Bodies,w.Scores) (w.Bodies.drop w.Scores.length).length).2),.row 9 (els ((shS w.Scores.length (w.Bodies.drop w.Scores.length) (w.Bodies,w.Scores) (w.Bodies.drop w.Scores.length).length).1.take w.Scores.length++shL w.Scores.length (w.Bodies.drop w.Scores.length) (w.Bodies,w.Scores) (w.Bodies.drop w.Scores.length).length)),.gh 0 (.c (.ptr 0 0))] (.tu []):=by
 have hlb:=Yc w.Bodies
 have hls:=Yc w.Scores
 have hln:=hL.len
 have hT:(w.Bodies.drop w.Scores.length).length=w.Bodies.length-w.Scores.length:=List.length_drop
 refine Con.of Tryz.func252 J Tryz.ntmps252 J (fun E => ?_)
 refine Wz [22,14,14] ?_
 refine AWP.pre ?_ (W_nil 2 9 J)
 refine Xi u8_30 [[],[7],[7,8],[7,8,9],[],[11],[11,12],[11,12,13],[11,12,13,14],[7,8,9,10,11,12,13,14,15],[7,8,9,10,11,12,13,14,15,16],[]] [[11,12,13,14,15,18],[11,12,13,14,15,18],[11,12,13,14,15,18],[11,12,13,14,15,18],[7,8,9,10,18],[7,8,9,10,18],[7,8,9,10,18],[7,8,9,10,18],[7,8,9,10,18],[18],[18],[7,8,9,10,11,12,13,14,15,16,17],[0]] J ?_;refine Wz [1,117,32,1,117,32,279] ?_;refine Kw (q_tl J J J J J J (by omega)) J (Kw (q_lentl J J J J) J ?_);refine Wz [1,16,6,76] ?_
 refine AWP.pre (st':=(⟨_,[(0,.o (.c (.ptr 0 0))),(2,.o (.c (.ref 5))),(16,.o (.c (.tl 3 9 (els w.Scores).length))),(17,I (((els w.Bodies).length-(els w.Scores).length:Nat):Int)),(18,I 0)],[.box [.ref 1,jn w.Tick,jn w.Seed,.ref 2,.ref 3],.row 1 (els w.Level.Rows),.row 1 (els w.Scores),.row 9 (els w.Bodies),.gh 0 (.c (.ptr 0 0)),.row 9 []]⟩:St)) ?_ (Ux [0,1,2,3,4,5])
 refine Xj (fun m__ st=>∃ (k:Nat) (bs:List TBody) (ss:List Int) (lf:List TBody),(w.Bodies.drop w.Scores.length).length-k=m__∧(k≤(w.Bodies.drop w.Scores.length).length∧(bs,ss)=shS w.Scores.length (w.Bodies.drop w.Scores.length) (w.Bodies,w.Scores) k∧lf=shL w.Scores.length (w.Bodies.drop w.Scores.length) (w.Bodies,w.Scores) k)∧st=(⟨_,[(0,.o (.c (.ptr 0 0))),(2,.o (.c (.ref 5))),(16,.o (.c (.tl 3 9 (els w.Scores).length))),(17,I (((els w.Bodies).length-(els w.Scores).length:Nat):Int)),(18,I k)],[.box [.ref 1,jn w.Tick,jn w.Seed,.ref 2,.ref 3],.row 1 (els w.Level.Rows),.row 1 (els ss),.row 9 (els bs),.gh 0 (.c (.ptr 0 0)),.row 9 (els lf)]⟩:St)) _ ⟨_,⟨0,w.Bodies,w.Scores,[],J,⟨by omega,J,J⟩,J⟩,Ux [0,1,2,3,4,5]⟩ ?_
 rintro m_A _ ⟨k,bs,ss,lf,hk_A,hp_A,rfl⟩
 obtain⟨hk,hs,hlf⟩:=hp_A
 have hS:=(SI.start hL rfl hsc).all (w.Bodies.drop w.Scores.length) k
 rw[←hs] at hS
 obtain⟨hSL,hSn,hSt,hSs,hSc⟩:=hS
 simp only at hSL hSn hSt hSs hSc
 have hll:=Yc lf
 have hlk:lf.length≤k:=by rw[hlf]; exact shL_le k
 have hlbs:=Yc bs
 have hlss:=Yc ss
 by_cases hlt:k<(w.Bodies.drop w.Scores.length).length
 ·have hb0:decide ((k:Int)<(((els w.Bodies).length-(els w.Scores).length:Nat):Int))=true:=Gqb (by omega)
  obtain⟨b,hb⟩:=Kk hlt
  have hbb:bs[w.Scores.length+k]? = some b:=by rw[hSt _ (by omega),←Gxg]; exact hb
  have hB:=(hSL.at_ _ b hbb).1
  have hpl:=(hB.placed hl).1
  refine Wz [5,15,6,14,82,8,5] ?_;refine zx (q_attl J J J J J J (by omega) (by omega)) J ?_
  have he:=tl_el hbb
  with_reducible refine Xf ?_
  refine zx (Q6 J J J J (by assumption) J J) J ?_
  with_reducible refine K_alloc ?_
  refine M1 (Qx J J J) J J ?_
  with_reducible refine Xe ?_
  refine Wz [20] ?_
  refine AWP.pre (st':=(⟨_,[(0,.o (.c (.ptr 0 0))),(2,.o (.c (.ref 5))),(16,.o (.c (.tl 3 9 (els w.Scores).length))),(17,I (((els w.Bodies).length-(els w.Scores).length:Nat):Int)),(18,I k),(4,.o (.c (.ptr 6 0)))],[.box [.ref 1,jn w.Tick,jn w.Seed,.ref 2,.ref 3],.row 1 (els w.Level.Rows),.row 1 (els ss),.row 9 (els bs),.gh 0 (.c (.ptr 0 0)),.row 9 (els lf),.box ((Enc.e b).map (V1.rd []))]⟩:St)) ?_ (Ux [0,1,2,3,4,5,6])
  clear he
  by_cases hK:b.Kind=1
  case neg =>
   have f1:decide (b.Kind≠1)=true:=Gqb hK
   obtain⟨n1,n2,_⟩:=sh_skip hb hK hs hlf
   refine Wz [31,49,11,18,92,125,135,4,168,145,147,230] ?_
   refine⟨_,(by omega),_,⟨k+1,bs,ss,lf ++ [b],J,⟨by omega,n1,n2⟩,J⟩,(by rw[Ya]; exact Ux [0,1,2,3,4,5])⟩
  have f1:decide (b.Kind≠1)=false:=Gqa (fun q=>q hK)
  have cm:=I_playerMet ⟨w.Level,w.Tick,w.Seed,ss,bs⟩ b b.Owner (by simp only; omega) (by simp only; omega) (fun j p _ h=>((hSL.at_ j p h).1.placed hl).1) hpl
  simp only[hSs] at cm
  refine Wz [31,49,9,18,92,21] ?_;refine Xd (lo := [_,_,_,_]) (gs := [(0,.c (.ptr 0 0)),(6,.c (.ref 3))]) (lo' := [_,_,_,_]) (new := []) [0,1,2,3] [(0,0,.ptr 0 0),(1,0,.ref 3)] (cm) J J J J J J J J J J J J J J J J J ?_;refine Wz [66,63] ?_
  refine AWP.pre (st':=(⟨_,[(0,.o (.c (.ptr 0 0))),(2,.o (.c (.ref 5))),(16,.o (.c (.tl 3 9 (els w.Scores).length))),(17,I (((els w.Bodies).length-(els w.Scores).length:Nat):Int)),(18,I k),(4,.o (.c (.ptr 6 0))),(5,I (metI bs b b.Owner w.Scores.length)),(35,B (decide (metI bs b b.Owner w.Scores.length<0)))],[.box [.ref 1,jn w.Tick,jn w.Seed,.ref 2,.ref 3],.row 1 (els w.Level.Rows),.row 1 (els ss),.row 9 (els bs),.gh 0 (.c (.ptr 0 0)),.row 9 (els lf),.box ((Enc.e b).map (V1.rd []))]⟩:St)) ?_ (Ux [0,1,2,3,4,5,6])
  cases hm:metF bs b b.Owner w.Scores.length with
  |none =>
   obtain⟨mi,hmi⟩:∃ mi:Int,metI bs b b.Owner w.Scores.length=mi:=⟨_,rfl⟩
   rw[hmi]
   rw[met_no hm] at hmi
   have f2:decide (mi<0)=true:=Gqb (by omega)
   rw[f2]
   obtain⟨n1,n2,_⟩:=sh_miss hb hm hs hlf
   refine Wz [82,18,92,125,135,4,168,145,147,230] ?_
   refine⟨_,(by omega),_,⟨k+1,bs,ss,lf ++ [b],J,⟨by omega,n1,n2⟩,J⟩,(by rw[Ya]; exact Ux [0,1,2,3,4,5])⟩
  | some j =>
   rw[met_I hm]
   have f2:decide ((j:Int)<0)=false:=Gqa (by omega)
   obtain⟨hj,hc⟩:=metF_lt hm
   obtain⟨p,hp,hpl,_,_⟩:=metC_life hc
   have hpB:=(hSL.at_ j p hp).1.f
   have hjl:=Yn hp
   obtain⟨n1,n2,_⟩:=sh_hit hb hK hm hp hs hlf
   have he:=Yf hp
   refine Wz [166,25,18,50,0,68,83,252,61,141,51,252,61,112,222,252,61] ?_;refine AL.weak (st':=(⟨_,[(0,.o (.c (.ptr 0 0))),(2,.o (.c (.ref 5))),(16,.o (.c (.tl 3 9 (els w.Scores).length))),(17,I (((els w.Bodies).length-(els w.Scores).length:Nat):Int)),(18,I k),(4,.o (.c (.ptr 6 0))),(6,.o (.c (.el 3 9 j 0))),(55,.o (.c (.el 3 9 j 7)))],[.box [.ref 1,jn w.Tick,jn w.Seed,.ref 2,.ref 3],.row 1 (els w.Level.Rows),.row 1 (els ss),.row 9 (els (bs.set j (lifeM p))),.gh 0 (.c (.ptr 0 0)),.row 9 (els lf),.box ((Enc.e b).map (V1.rd []))]⟩:St)) (Up [0,1,2,3,4,5,6] J ((by exact rwBo (st_el0 J))) (.c J (.c J (.c J (.c J (.c J (.c J (.c J (.c J (.nil)))))))))) ?_
   clear he
   have he:(els (bs.set j (lifeM p)))[(j:Int).toNat]? = some (Enc.e (lifeM p)):=Yf (by rw[Gq9 hjl])
   by_cases hz:p.Life-1=0
   case neg =>
    have f3:decide (p.Life-1=0)=false:=Gqa hz
    rw[hit_alive hz,if_neg hz] at n1
    refine Wz [141,12,132,100] ?_
    refine⟨_,(by omega),_,⟨k+1,bs.set j (lifeM p),ss,lf,J,⟨by omega,n1,n2⟩,J⟩,Ux [0,1,2,3,4,5]⟩
   have f3:decide (p.Life-1=0)=true:=Gqb hz
   rw[hit_down hz,if_pos hz] at n1
   have ho:=hB.o
   obtain⟨q,hq⟩:∃ q:Nat,b.Owner=q:=⟨b.Owner.toNat,by omega⟩
   obtain⟨s,hs1⟩:=Kk (xs:=ss) (i:=q) (by omega)
   have cp:=I_addScore ⟨w.Level,w.Tick,w.Seed,ss,bs.set j (lifeM p)⟩ q s hs1 (hSc s (Gqo hs1))
   simp only[←hq] at cp
   rw[hq,Int.toNat_natCast] at n1
   refine Wz [141,12,11,18,21] ?_;refine Xd (lo := [_,_,_,_]) (gs := [(0,.c (.ptr 0 0)),(5,.c (.ref 3))]) (lo' := [_,_,_,_]) (new := []) [0,1,2,3] [(0,0,.ptr 0 0),(1,0,.ref 3)] (cp) J J J J J J J J J J J J J J J J J ?_;refine Wz [222,252,61,112,222,252,61] ?_;refine AL.weak (st':=(⟨_,[(0,.o (.c (.ptr 0 0))),(2,.o (.c (.ref 5))),(16,.o (.c (.tl 3 9 (els w.Scores).length))),(17,I (((els w.Bodies).length-(els w.Scores).length:Nat):Int)),(18,I k),(4,.o (.c (.ptr 6 0))),(6,.o (.c (.el 3 9 j 0))),(67,.o (.c (.el 3 9 j 5)))],[.box [.ref 1,jn w.Tick,jn w.Seed,.ref 2,.ref 3],.row 1 (els w.Level.Rows),.row 1 (els (addM ss q)),.row 9 (els (bs.set j (stopX p))),.gh 0 (.c (.ptr 0 0)),.row 9 (els lf),.box ((Enc.e b).map (V1.rd []))]⟩:St)) (Up [0,1,2,3,4,5,6] J ((by exact rwBo (st_el J))) (.c J (.c J (.c J (.c J (.c J (.c J (.c J (.c J (.nil)))))))))) ?_
   clear he
   have he:(els (bs.set j (stopX p)))[(j:Int).toNat]? = some (Enc.e (stopX p)):=Yf (by rw[Gq9 hjl])
   refine Wz [112,6,23,0,252,61] ?_;refine AL.weak (st':=(⟨_,[(0,.o (.c (.ptr 0 0))),(2,.o (.c (.ref 5))),(16,.o (.c (.tl 3 9 (els w.Scores).length))),(17,I (((els w.Bodies).length-(els w.Scores).length:Nat):Int)),(18,I k),(4,.o (.c (.ptr 6 0))),(6,.o (.c (.el 3 9 j 0))),(70,.o (.c (.el 3 9 j 8)))],[.box [.ref 1,jn w.Tick,jn w.Seed,.ref 2,.ref 3],.row 1 (els w.Level.Rows),.row 1 (els (addM ss q)),.row 9 (els (bs.set j (stopY p))),.gh 0 (.c (.ptr 0 0)),.row 9 (els lf),.box ((Enc.e b).map (V1.rd []))]⟩:St)) (Up [0,1,2,3,4,5,6] J ((by exact rwBo (st_el J))) (.c J (.c J (.c J (.c J (.c J (.c J (.c J (.c J (.nil)))))))))) ?_
   clear he
   have he:(els (bs.set j (stopY p)))[(j:Int).toNat]? = some (Enc.e (stopY p)):=Yf (by rw[Gq9 hjl])
   refine Wz [112,89,100] ?_
   refine⟨_,(by omega),(fun (k:Nat) (bs:List TBody) (ss:List Int) (lf:List TBody)=>(⟨_,[(0,.o (.c (.ptr 0 0))),(2,.o (.c (.ref 5))),(16,.o (.c (.tl 3 9 (els w.Scores).length))),(17,I (((els w.Bodies).length-(els w.Scores).length:Nat):Int)),(18,I k)],[.box [.ref 1,jn w.Tick,jn w.Seed,.ref 2,.ref 3],.row 1 (els w.Level.Rows),.row 1 (els ss),.row 9 (els bs),.gh 0 (.c (.ptr 0 0)),.row 9 (els lf)]⟩:St)) (k+1) (bs.set j (downM p)) (addM ss q) (lf),⟨k+1,bs.set j (downM p),addM ss q,lf,J,⟨by omega,n1,n2⟩,J⟩,Up [0,1,2,3,4,5] J ((by exact rwBo (st_el J))) (.c J (.c J (.c J (.c J (.c J (.nil))))))⟩
 ·have hb0:decide ((k:Int)<(((els w.Bodies).length-(els w.Scores).length:Nat):Int))=false:=Gqa (by omega)
  have hk:k=(w.Bodies.drop w.Scores.length).length:=by omega
  rw[hk] at hs hlf
  rw[←hs,←hlf]
  have hq:((els ss).length:Int).toNat=w.Scores.length:=by omega
  have hpl:=els_pl9 lf
  have hkk:=els_k9 lf
  refine Wz [5,15,6,14,166,38] ?_;refine Xi u8_31 [[],[],[73],[73,74],[73,74,75],[],[77],[77,78],[77,78,79],[77,78,79,80],[73,74,75,76,77,78,79,80,81],[],[73,74,75,76,77,78,79,80,81,82,83],[72,73,74,75,76,77,78,79,80,81,82,83,84],[72,73,74,75,76,77,78,79,80,81,82,83,84,85],[72,73,74,75,76,77,78,79,80,81,82,83,84,85,86]] [[73,74,75,76,77,78,79,80,81,82,83,84],[72,77,78,79,80,81,83],[72,77,78,79,80,81,83],[72,77,78,79,80,81,83],[72,77,78,79,80,81,83],[72,73,74,75,76,83],[72,73,74,75,76,83],[72,73,74,75,76,83],[72,73,74,75,76,83],[72,73,74,75,76,83],[72,83],[72,73,74,75,76,77,78,79,80,81,82],[72],[],[],[],[0,1]] J ?_;refine Wz [1,1,117,32,1,117,32,279] ?_;refine Kw (q_hd J J J J J J (by omega)) J ?_;refine Wz [1,16] ?_
  refine AL.weak (Wk.head (p:=3) (els ss).length J (by omega) (by repeat' (first | exact trivial | exact rfl | refine And.intro ?_ ?_)) (by repeat' (first | exact trivial | exact rfl | refine And.intro ?_ ?_))) ?_
  have ht2:((els bs).take (els ss).length).length=w.Scores.length:=by rw[Gq3]; omega
  refine AL.weak (st':=(⟨_,[(72,.o (.c (.ptr 0 0))),(82,.o (.c (.ref 3))),(83,.o (.c (.ref 5)))],[.box [.ref 1,jn w.Tick,jn w.Seed,.ref 2,.un],.row 1 (els w.Level.Rows),.row 1 (els ss),.row 9 ((els bs).take (els ss).length),.gh 0 (.c (.ptr 0 0)),.row 9 (els lf)]⟩:St)) (Ux [0,1,2,3,4,5]) ?_;refine M_app J J J J J J J J J J hpl hkk (by omega) (by omega) ?_;refine Wz [182,151,89,209] ?_
  exact Xo J (Ur [0,1,2,3,4] J (by exact rwBo (tk_app hq)) J)
theorem I_stepItems (w:TWorld) (hg:Enc.gd w.Level) (hl:levelOk w.Level=true) (hn4:1≤w.Scores.length∧w.Scores.length≤4) (hL:LM w.Level w.Scores.length w.Bodies) (hsc:∀ x∈w.Scores,0≤x∧x≤1000000):Con Tryz.prog 253 [.box [.ref 1,jn w.Tick,jn w.Seed,.ref 2,.ref 3],.row 1 (els w.Level.Rows),.row 1 (els w.Scores),.row 9 (els w.Bodies),.gh 0 (.c (.ptr 0 0))] [.c (.ptr 0 0)] [.box [.ref 1,jn w.Tick,jn w.Seed,.ref 2,.ref 3],.row 1 (els w.Level.Rows),.row 1 (els (itS w.Scores.length w.Bodies (w.Bodies.drop w.Scores.length) w.Scores (w.Bodies.drop w.Scores.length).length)),.row 9 (els (w.Bodies.take w.Scores.length++itL w.Scores.length w.Bodies (w.Bodies.drop w.Scores.length) (w.Bodies.drop w.Scores.length).length)),.gh 0 (.c (.ptr 0 0))] (.tu []):=by
 have hlb:=Yc w.Bodies
 have hls:=Yc w.Scores
 have hln:=hL.len
 have hT:(w.Bodies.drop w.Scores.length).length=w.Bodies.length-w.Scores.length:=List.length_drop
 refine Con.of Tryz.func253 J Tryz.ntmps253 J (fun E => ?_)
 refine Wz [22,14,14] ?_
 refine AWP.pre ?_ (W_nil 2 9 J)
 refine Xi u8_30 [[],[6],[6,7],[6,7,8],[],[10],[10,11],[10,11,12],[10,11,12,13],[6,7,8,9,10,11,12,13,14],[6,7,8,9,10,11,12,13,14,15],[]] [[10,11,12,13,14,17],[10,11,12,13,14,17],[10,11,12,13,14,17],[10,11,12,13,14,17],[6,7,8,9,17],[6,7,8,9,17],[6,7,8,9,17],[6,7,8,9,17],[6,7,8,9,17],[17],[17],[6,7,8,9,10,11,12,13,14,15,16],[0]] J ?_;refine Wz [1,117,32,1,117,32,279] ?_;refine Kw (q_tl J J J J J J (by omega)) J (Kw (q_lentl J J J J) J ?_);refine Wz [1,16,6,76] ?_
 refine AWP.pre (st':=(⟨_,[(0,.o (.c (.ptr 0 0))),(2,.o (.c (.ref 5))),(15,.o (.c (.tl 3 9 (els w.Scores).length))),(16,I (((els w.Bodies).length-(els w.Scores).length:Nat):Int)),(17,I 0)],[.box [.ref 1,jn w.Tick,jn w.Seed,.ref 2,.ref 3],.row 1 (els w.Level.Rows),.row 1 (els w.Scores),.row 9 (els w.Bodies),.gh 0 (.c (.ptr 0 0)),.row 9 []]⟩:St)) ?_ (Ux [0,1,2,3,4,5])
 refine Xj (fun m__ st=>∃ (k:Nat) (ss:List Int) (lf:List TBody),(w.Bodies.drop w.Scores.length).length-k=m__∧(k≤(w.Bodies.drop w.Scores.length).length∧ss=itS w.Scores.length w.Bodies (w.Bodies.drop w.Scores.length) w.Scores k∧lf=itL w.Scores.length w.Bodies (w.Bodies.drop w.Scores.length) k)∧st=(⟨_,[(0,.o (.c (.ptr 0 0))),(2,.o (.c (.ref 5))),(15,.o (.c (.tl 3 9 (els w.Scores).length))),(16,I (((els w.Bodies).length-(els w.Scores).length:Nat):Int)),(17,I k)],[.box [.ref 1,jn w.Tick,jn w.Seed,.ref 2,.ref 3],.row 1 (els w.Level.Rows),.row 1 (els ss),.row 9 (els w.Bodies),.gh 0 (.c (.ptr 0 0)),.row 9 (els lf)]⟩:St)) _ ⟨_,⟨0,w.Scores,[],J,⟨by omega,J,J⟩,J⟩,Ux [0,1,2,3,4,5]⟩ ?_
 rintro m_A _ ⟨k,ss,lf,hk_A,hp_A,rfl⟩
 obtain⟨hk,hs,hlf⟩:=hp_A
 have hSs:ss.length=w.Scores.length:=by rw[hs]; exact (itS_ok rfl hsc).1
 have hSc:∀ x∈ss,0≤x∧x≤1000000:=by rw[hs]; exact (itS_ok rfl hsc).2
 have hll:=Yc lf
 have hlk:lf.length≤k:=by rw[hlf]; exact itL_le
 have hlss:=Yc ss
 by_cases hlt:k<(w.Bodies.drop w.Scores.length).length
 ·have hb0:decide ((k:Int)<(((els w.Bodies).length-(els w.Scores).length:Nat):Int))=true:=Gqb (by omega)
  obtain⟨b,hb⟩:=Kk hlt
  have hbb:w.Bodies[w.Scores.length+k]? = some b:=by rw[←Gxg]; exact hb
  have hB:=(hL.at_ _ b hbb).1
  have hpl:=(hB.placed hl).1
  refine Wz [5,15,6,14,82,8,5] ?_;refine zx (q_attl J J J J J J (by omega) (by omega)) J ?_
  have he:=tl_el hbb
  with_reducible refine Xf ?_
  refine zx (Q6 J J J J (by assumption) J J) J ?_
  with_reducible refine K_alloc ?_
  refine M1 (Qx J J J) J J ?_
  with_reducible refine Xe ?_
  refine Wz [20] ?_
  refine AWP.pre (st':=(⟨_,[(0,.o (.c (.ptr 0 0))),(2,.o (.c (.ref 5))),(15,.o (.c (.tl 3 9 (els w.Scores).length))),(16,I (((els w.Bodies).length-(els w.Scores).length:Nat):Int)),(17,I k),(4,.o (.c (.ptr 6 0)))],[.box [.ref 1,jn w.Tick,jn w.Seed,.ref 2,.ref 3],.row 1 (els w.Level.Rows),.row 1 (els ss),.row 9 (els w.Bodies),.gh 0 (.c (.ptr 0 0)),.row 9 (els lf),.box ((Enc.e b).map (V1.rd []))]⟩:St)) ?_ (Ux [0,1,2,3,4,5,6])
  clear he
  by_cases hK:b.Kind=2
  case neg =>
   have f1:decide (b.Kind=2)=false:=Gqa hK
   obtain⟨n1,n2,_⟩:=it_skip hb hK hs hlf
   refine Wz [31,12,9,23,0,92,125,135,87,89,100] ?_
   refine⟨_,(by omega),_,⟨k+1,ss,lf ++ [b],J,⟨by omega,n1,n2⟩,J⟩,(by rw[Ya]; exact Ux [0,1,2,3,4,5])⟩
  have f1:decide (b.Kind=2)=true:=Gqb hK
  have cm:=I_playerMet ⟨w.Level,w.Tick,w.Seed,ss,w.Bodies⟩ b (-1) (by simp only; omega) (by simp only; omega) (fun j p _ h=>((hL.at_ j p h).1.placed hl).1) hpl
  simp only[hSs] at cm
  refine Wz [31,12,11,18,92] ?_;refine Xd (lo := [_,_,_,_]) (gs := [(0,.c (.ptr 0 0)),(6,.c (.ref 3))]) (lo' := [_,_,_,_]) (new := []) [0,1,2,3] [(0,0,.ptr 0 0),(1,0,.ref 3)] (cm) J J J J J J J J J J J J J J J J J ?_;refine Wz [83,235,6] ?_
  refine AWP.pre (st':=(⟨_,[(0,.o (.c (.ptr 0 0))),(2,.o (.c (.ref 5))),(15,.o (.c (.tl 3 9 (els w.Scores).length))),(16,I (((els w.Bodies).length-(els w.Scores).length:Nat):Int)),(17,I k),(4,.o (.c (.ptr 6 0))),(5,I (metI w.Bodies b (-1) w.Scores.length)),(28,B (decide (metI w.Bodies b (-1) w.Scores.length≥0)))],[.box [.ref 1,jn w.Tick,jn w.Seed,.ref 2,.ref 3],.row 1 (els w.Level.Rows),.row 1 (els ss),.row 9 (els w.Bodies),.gh 0 (.c (.ptr 0 0)),.row 9 (els lf),.box ((Enc.e b).map (V1.rd []))]⟩:St)) ?_ (Ux [0,1,2,3,4,5,6])
  cases hm:metF w.Bodies b (-1) w.Scores.length with
  |none =>
   obtain⟨mi,hmi⟩:∃ mi:Int,metI w.Bodies b (-1) w.Scores.length=mi:=⟨_,rfl⟩
   rw[hmi]
   rw[met_no hm] at hmi
   have f2:decide (mi≥0)=false:=Gqa (by omega)
   rw[f2]
   obtain⟨n1,n2,_⟩:=it_miss hb hm hs hlf
   refine Wz [166,25,23,0,92,125,135,87,89,100] ?_
   refine⟨_,(by omega),_,⟨k+1,ss,lf ++ [b],J,⟨by omega,n1,n2⟩,J⟩,(by rw[Ya]; exact Ux [0,1,2,3,4,5])⟩
  |some j =>
   rw[met_I hm]
   have f2:decide ((j:Int)≥0)=true:=Gqb (by omega)
   obtain⟨hj,hc⟩:=metF_lt hm
   obtain⟨s,hs1⟩:=Kk (xs:=ss) (i:=j) (by omega)
   have cp:=I_addScore ⟨w.Level,w.Tick,w.Seed,ss,w.Bodies⟩ j s hs1 (hSc s (Gqo hs1))
   simp only at cp
   obtain⟨n1,n2,_⟩:=it_hit hb hK hm hs hlf
   refine Wz [82,17] ?_;refine Xd (lo := [_,_,_,_]) (gs := [(0,.c (.ptr 0 0)),(5,.c (.ref 3))]) (lo' := [_,_,_,_]) (new := []) [0,1,2,3] [(0,0,.ptr 0 0),(1,0,.ref 3)] (cp) J J J J J J J J J J J J J J J J J ?_;refine Wz [6,168,145,147,230] ?_
   refine⟨_,(by omega),_,⟨k+1,addM ss j,lf,J,⟨by omega,n1,n2⟩,J⟩,Ux [0,1,2,3,4,5]⟩
 ·have hb0:decide ((k:Int)<(((els w.Bodies).length-(els w.Scores).length:Nat):Int))=false:=Gqa (by omega)
  have hk:k=(w.Bodies.drop w.Scores.length).length:=by omega
  rw[hk] at hs hlf
  rw[←hs,←hlf]
  have hq:((els ss).length:Int).toNat=w.Scores.length:=by omega
  have hpl:=els_pl9 lf
  have hkk:=els_k9 lf
  refine Wz [5,15,6,14,166,38] ?_;refine Xi u8_31 [[],[],[38],[38,39],[38,39,40],[],[42],[42,43],[42,43,44],[42,43,44,45],[38,39,40,41,42,43,44,45,46],[],[38,39,40,41,42,43,44,45,46,47,48],[37,38,39,40,41,42,43,44,45,46,47,48,49],[37,38,39,40,41,42,43,44,45,46,47,48,49,50],[37,38,39,40,41,42,43,44,45,46,47,48,49,50,51]] [[38,39,40,41,42,43,44,45,46,47,48,49],[37,42,43,44,45,46,48],[37,42,43,44,45,46,48],[37,42,43,44,45,46,48],[37,42,43,44,45,46,48],[37,38,39,40,41,48],[37,38,39,40,41,48],[37,38,39,40,41,48],[37,38,39,40,41,48],[37,38,39,40,41,48],[37,48],[37,38,39,40,41,42,43,44,45,46,47],[37],[],[],[],[0,1]] J ?_;refine Wz [1,1,117,32,1,117,32,279] ?_;refine Kw (q_hd J J J J J J (by omega)) J ?_;refine Wz [1,16] ?_
  refine AL.weak (Wk.head (p:=3) (els ss).length J (by omega) (by repeat' (first | exact trivial | exact rfl | refine And.intro ?_ ?_)) (by repeat' (first | exact trivial | exact rfl | refine And.intro ?_ ?_))) ?_
  have ht2:((els w.Bodies).take (els ss).length).length=w.Scores.length:=by rw[Gq3]; omega
  refine AL.weak (st':=(⟨_,[(37,.o (.c (.ptr 0 0))),(47,.o (.c (.ref 3))),(48,.o (.c (.ref 5)))],[.box [.ref 1,jn w.Tick,jn w.Seed,.ref 2,.un],.row 1 (els w.Level.Rows),.row 1 (els ss),.row 9 ((els w.Bodies).take (els ss).length),.gh 0 (.c (.ptr 0 0)),.row 9 (els lf)]⟩:St)) (Ux [0,1,2,3,4,5]) ?_;refine M_app J J J J J J J J J J hpl hkk (by omega) (by omega) ?_;refine Wz [182,151,89,209] ?_
  exact Xo J (Ur [0,1,2,3,4] J (by exact rwBo (tk_app hq)) J)
end
section
open Go.RowKit

section
variable {P:Program} {w:World}
theorem run_copy_src (t tx ty e:TypeId) (i:TypeInfo) (ht:P.underlying t=some (.slice e)) (hi:P.info? e=some i) (b o c n:Nat) (x:Value) (news:List Value) (hs:Src P i.size tx x n news w) (hc:∀ j,j<news.length→(w.cell? ⟨b,o+j,none⟩).isSome=true) (hf:∀ j,j<news.length→w.frozen? ⟨b,o+j,none⟩=false) :
  (Builtin.copy_ #[t,tx] ty #[.slice (some ⟨b,o,none⟩) n c,x]).run P w = .ok (.int .i64 n) (w.setCells b o news):=by
 have hst:=run_storeCells_cells (P:=P) b o news 0 w (by simpa using hc) (by simpa using hf) hs.one
 simp only[Nat.add_zero] at hst
 simp[Builtin.copy_,run_underlying ht,Go.sizeOf,typeInfo,hi,hs.len,hs.cells,hst,goInt]
theorem OW.fill {k:Nat} {es es':List (List T)} {v:Value} {fp:List Nat} {t tx ty e:TypeId} {zs:List Value} {by_:Nat} [hm:TyMake P t e zs by_] (h:OW w (.sl k es) v fp) (hnd:fp.Nodup) (hkz:k=zs.length) {x:Value} (hl:es'.length=es.length) (h0:0<es.length) (hpl:plainT es') (hkk:∀ e∈es',e.length=k)
  (hsrc:Src P k tx x es'.length (flatV (plainV' es') es'.length k) w) :
  ∃ w' fp',(Builtin.copy_ #[t,tx] ty #[v,x]).run P w = .ok (.int .i64 es.length) w'∧OW w' (.sl k es') v fp'∧fp'.Nodup∧(∀ b∈fp',b∈fp)∧Keeps w w' fp:=by
 obtain⟨i,hi,hzz⟩:=Option.map_eq_some_iff.1 hm.info
 simp only[Prod.mk.injEq] at hzz
 obtain⟨hz1,hs,hb1⟩:=hzz
 have hsk:i.size=k:=by rw[hs,hkz]
 have hsrc2:Src P i.size tx x es.length (flatV (plainV' es') es'.length k) w:=by rw[hsk,←hl]; exact hsrc
 rcases h.open_ with ⟨rfl,rfl,rfl⟩ | ⟨b,o,c,tid,cur,fz,val,fps,rfl,rfl,hg,hzf,hc,hcm,hcs,hp,hk,hf,hfk,hv,ht⟩
 ·simp at h0
 ·have hmul:es'.length*k≤c*k:=Gxr _ (by omega)
  have hr:=run_copy_src (P:=P) (w:=w) t tx ty e i hm.slice hi b o c es.length x _ hsrc2 (fun j hj=>by
   rw[cell_of_row w b _ cur tid fz hg]
   rw[Yl] at hj
   simp
   omega) (fun j hj=>by
   rw[Yl] at hj
   exact frozen_fz hg hzf (by omega))
  obtain⟨cur',k1,k2,k3,k4⟩:=Yp b tid fz (flatV (plainV' es') es'.length k) o w cur hg (by rw[Yl]; omega)
  obtain⟨s1,s2,s3,s4,s5⟩:=Kg w b (flatV (plainV' es') es'.length k) o
  have hnil:(es'.map fun e=>e.map fun _=>([]:List Nat)).flatten.flatten = []:=by
   rw[List.flatten_eq_nil_iff]
   intro l hl
   rw[List.mem_flatten] at hl
   obtain⟨f,hf,hl⟩:=hl
   obtain⟨e,_,rfl⟩:=Gqx.1 hf
   obtain⟨_,_,rfl⟩:=Gqx.1 hl
   rfl
  refine⟨_,b::(es'.map fun e=>e.map fun _=>([]:List Nat)).flatten.flatten,hr,?_,by rw[hnil]; simp,fun x hx => ?_,s1,s2,s3,by omega,fun b'' _ hb''=>s5 b'' fun e=>hb'' (by simp[e])⟩
  ·rw[←hl]
   refine .sl es' b o k c tid cur' fz (plainV' es') (es'.map fun e=>e.map fun _ => []) k1 (by rw[k2]; exact hzf) (by omega) hcm (by rw[k2]; exact hcs) hp hkk (by simp) (fun f hf => ?_) (fun i j hi hj => ?_) fun i j e t fs f h6 h7 h8 h9 => ?_
   ·obtain⟨e,h6,rfl⟩:=Gqx.1 hf
    simpa using hkk e h6
   ·have h1:=ij_lt hi hj
    rw[Nat.add_assoc,k3 _ (by rw[Yl]; exact h1)]
    exact flatV_at hi hj
   ·rw[Gqj,h6] at h8
    simp only[Gqu,Option.some.injEq] at h8
    subst h8
    rw[Gqj,h7] at h9
    simp only[Gqu,Option.some.injEq] at h9
    subst h9
    obtain⟨u,rfl⟩:=hpl e (Yo h6) t (Yo h7)
    rw[plainV'_at h6 h7]
    refine .v u ?_
    have hi:=Yn h6
    have hj:j<k:=by rw[←hkk e (Yo h6)]; exact Yn h7
    have:=hsrc.one _ (Yo (flatV_at (val:=plainV' es') hi hj))
    rwa[plainV'_at h6 h7] at this
  ·rw[hnil] at hx
   rcases List.mem_cons.1 hx with rfl | hx
   ·simp
   ·cases hx
end
section
variable {P:Program} {E:Env} {ops:Array Oper} {o:Oper} {st:St} {n:Nat} {rest:List Oper} {QQ:Exit→St→Prop} {t:TypeId} {y z:Operand}
theorem exec_copy {a:Act} {w w':World} {v:Value} (ho:o.op = .call { callee := .builtin .copy,args:=#[y,z],argTypes:=#[t,t] }) (h:(Builtin.copy_ #[t,t] o.type #[a.eval y,a.eval z]).run P w = .ok v w'):(execOp a.eval o).run P w = .ok (.value v) w':=by
 unfold execOp
 simp only[ho,resolve,invoke,builtin,Sem.run_bind,Sem.run_pure,Result.andThen_ok,List.map_toArray,List.map_cons,List.map_nil,h]
theorem L_copy {p kk:Nat} {es es':List (List T)} {x:V1} {e:TypeId} {zs:List Value} {by_:Nat} [hm:TyMake P t e zs by_] (ho:o.op = .call { callee := .builtin .copy,args:=#[y,z],argTypes:=#[t,t] }) (hg:o.guard=none) (hy:st.ev y = .o (.c (.ref p))) (hp:st.objs[p]? = some (.row kk es)) (hz:st.ev z = .o (.c x)) (hs:srcOf st.objs x=some es')
  (hkz:kk=zs.length) (hz0:zs ≠ []) (hd:dstOk st.n o.dst=true) (hpl:plainT es') (hkk:∀ e∈es',e.length=kk) (hl:es'.length=es.length) (h0:0<es.length)
  (h:AL P E ops QQ rest ⟨st.n,setT (st.tmps.map fun e=>(e.1,e.2.kille p [])) o.dst (I es.length),(st.objs.map (Ob.kille p [])).set p (.row kk es')⟩):AL P E ops QQ (o::rest) st:=by
 refine⟨fun a w ⟨H,F,h1,h2⟩ => ?_⟩
 obtain⟨v,fp,e1,e2⟩:=h1.ow hp
 obtain⟨x',fp',e3⟩:=h1.v1 hy
 rw[e1] at e3
 simp only[Pc.ow.injEq] at e3
 obtain⟨_,hv,_⟩:=e3
 have hnd:=h1.ok.nodup p
 rw[e1] at hnd
 have hsrc:=src_any (P:=P) (t:=t) (e:=e) (by_:=by_) (kk:=kk) h1 hkz hz0 (h1.v1 hz) hs hpl hkk
 obtain⟨w',fp'',hr,h3,h4,h5,h6⟩:=OW.fill (P:=P) (t:=t) (ty:=o.type) e2 hnd hkz hl h0 hpl hkk hsrc
 obtain⟨hok,htn⟩:=h1.ok.turn (p:=p) (fp:=fp) (by rw[e1]; rfl) h6 (.ow (.sl kk es') v fp'') h3 h4 trivial (fun b hb => .inl (h5 b hb))
 obtain⟨hplt,_⟩:=Gql.1 hp
 have hR:=h1.turne (rs := []) htn hok e1 (Hs.put_self _ _ _) (by simp) (by simp) (ob := .row kk es') ⟨_,_,Hs.put_self _ _ _⟩ hplt
 have hR2:=hR.put (x:=I es.length) o.dst hd (v := .int .i64 es.length) (plainV _ rfl)
 refine wpList_step fun K hK => ?_
 rw[if_pos (by unfold Region.wanted; rw[hg])]
 unfold Oper.wp
 rw[exec_copy ho (by rw[←hv]; exact hr)]
 exact hK _ _ (h.h _ _ ⟨_,F,hR2,h2.turn htn⟩)
theorem M_copy {d:Nat} {ts:List (Nat×V)} {obs:List Ob} {p kk:Nat} {es es':List (List T)} {x:V1} {e:TypeId} {zs:List Value} {by_:Nat} [hm:TyMake P t e zs by_] (ho:o.op = .call { callee := .builtin .copy,args:=#[y,z],argTypes:=#[t,t] }) (hg:o.guard=none) (hy:St.ev ⟨n,ts,obs⟩ y = .o (.c (.ref p))) (hp:obs[p]? = some (.row kk es)) (hz:St.ev ⟨n,ts,obs⟩ z = .o (.c x)) (hs:srcOf obs x=some es')
  (hkz:kk=zs.length) (hz0:zs.isEmpty=false) (hd:o.dst=some d) (hl:Nat.blt d n=true) (hpl:plainT es') (hkk:∀ e∈es',e.length=kk) (hle:es'.length=es.length) (h0:0<es.length)
  (h:AL P E ops QQ rest ⟨n,(d,I es.length)::(ts.map fun e=>(e.1,e.2.kille p [])),(obs.map (Ob.kille p [])).set p (.row kk es')⟩):AL P E ops QQ (o::rest) ⟨n,ts,obs⟩ :=
 L_copy ho hg hy hp hz hs hkz (by intro e; rw[e] at hz0; cases hz0) (by rw[hd]; exact hl) hpl hkk hle h0 (by rw[hd]; exact h)
end
end
end Go.Proofs.YtoecjaohdnoenaaGreat
