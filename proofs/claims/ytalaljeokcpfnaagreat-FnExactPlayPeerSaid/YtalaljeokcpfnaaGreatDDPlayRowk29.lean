/-
  Rules, data and contracts of functions: part 30 of the proof.
  Conditions: those that each theorem names.
-/
import Derived.Test.YtalaljeokcpfnaaGreatDDPlayRowk28
set_option linter.unusedSimpArgs false
set_option linter.unusedVariables false
set_option maxRecDepth 8000
set_option maxHeartbeats 8000000
namespace Go.Proofs.YtalaljeokcpfnaaGreat
section
open Tryz
open Go.RowKit

theorem rw6g {a b c d e f:Ob} {t:List Ob} {m:Nat} {u v:List (List T)} (h2:u=v):a::b::c::d::e::f::Ob.row m u::t=a::b::c::d::e::f::Ob.row m v::t:=by rw[h2]
theorem rw2k {a b c d e:Ob} {k m:Nat} {x y u v:List (List T)} (h:x=y) (h2:u=v) : [a,b,c,d,e,Ob.row k x,Ob.row m u] = [a,b,c,d,e,Ob.row k y,Ob.row m v]:=by rw[h,h2]
theorem mk_gone {N:Nat} {i:Int} {kk:Nat} (h:i.toNat=N):els (List.replicate N false)=List.replicate i.toNat ([Value.bool false].map (zT kk)):=by
 rw[h,els,List.map_replicate]; rfl
theorem at_el {bs:List TBody} {ss:List Int} {k:Nat} {b:TBody} (h:bs[ss.length+k]? = some b):(els bs)[(((els ss).length+k:Nat):Int).toNat]? = some (Enc.e b):=by
 rw[Y7,Int.toNat_natCast,els,Gqk,h]; rfl
theorem at_gl {gl:List Bool} {ss:List Int} {k:Nat} {b:Bool} (h:gl[ss.length+k]? = some b):(els gl)[(((els ss).length+k:Nat):Int).toNat]? = some (Enc.e b):=by
 rw[Y7,Int.toNat_natCast,els,Gqk,h]; rfl
theorem st_gl {gl:List Bool} {ss:List Int} {k:Nat} {b:Bool}:els (gl.set (ss.length+k) true)=(els gl).set (((els ss).length+k:Nat):Int).toNat (splice (Enc.e b) 0 [.v (.bool true)]):=by
 rw[Y7,Int.toNat_natCast,els,List.map_set]; rfl
theorem gl_set {gl:List Bool} {n m k N:Nat} {f g:Nat→Bool} (hl:gl.length=N) (h:∀ i,i<m→n+i<N→gl[n+i]? = some (f i)) (hk:g k=true) (hf:∀ i,i≠k→g i=f i):(gl.set (n+k) true).length=N∧∀ i,i<m→n+i<N→(gl.set (n+k) true)[n+i]? = some (g i):=by
 refine⟨by rw[Gqu]; exact hl,fun i hi hN=>?_⟩
 by_cases e:i=k
 ·subst e
  rw[Gxg Aqa,hk]
 ·rw[Gxa Aqa,h i hi hN,hf i e]
theorem gl_same {gl:List Bool} {n m N:Nat} {f g:Nat→Bool} (hl:gl.length=N) (h:∀ i,i<m→n+i<N→gl[n+i]? = some (f i)) (hf:∀ i,g i=f i):gl.length=N∧∀ i,i<m→n+i<N→gl[n+i]? = some (g i) :=
 ⟨hl,fun i hi hN=>by rw[h i hi hN,hf]⟩
def itF (n:Nat) (t bs:List TBody) (i:Nat):Bool:=match t[i]? with
 |none=>false
 |some b=>itHit n bs b
theorem itF_at {n i:Nat} {t bs:List TBody} {b:TBody} (h:t[i]? = some b):itF n t bs i=itHit n bs b:=by rw[itF,h]
theorem f1_ne {i k:Nat} {c:Bool} (h:i≠k):(decide (i<k+1)&&c)=(decide (i<k)&&c):=by
 rw[show decide (i<k+1)=decide (i<k) from decide_eq_decide.2 Aqa]
theorem f1_step {k:Nat} {c:Nat→Bool} (h:c k=false) (i:Nat):(decide (i<k+1)&&c i)=(decide (i<k)&&c i):=by
 by_cases e:i=k
 ·subst e; rw[h,Gxk,Gxk]
 ·exact f1_ne e
theorem f2_ne {i k:Nat} {c d:Bool} (h:i≠k):(d || (decide (i<k+1)&&c))=(d || (decide (i<k)&&c)):=by rw[f1_ne h]
theorem f2_step {k:Nat} {c d:Nat→Bool} (h:c k=false) (i:Nat):(d i || (decide (i<k+1)&&c i))=(d i || (decide (i<k)&&c i)):=by rw[f1_step h]
theorem S_l02Hits (w:TWorld) (hg:Enc.gd w.Level) (hl:levelOk w.Level=true) (hn4:1≤w.Scores.length∧w.Scores.length≤4) (hL:LM w.Level w.Scores.length w.Bodies) (hsc:∀ x∈w.Scores,0≤x∧x≤1000000):Co 255 [.box [Aqk 1,jn w.Tick,jn w.Seed,Aqk 2,Aqk 3],.row 1 (els w.Level.Rows),.row 1 (els w.Scores),.row 9 (els w.Bodies),.gh 0 (.c (.ptr 0 0))] [.c (.ptr 0 0)] [.box [Aqk 1,jn w.Tick,jn w.Seed,Aqk 2,Aqk 3],.row 1 (els w.Level.Rows),.row 1 (els (hitsR w.Scores.length w.Bodies w.Scores).2),.row 9 (els (hitsR w.Scores.length w.Bodies w.Scores).1),.gh 0 (.c (.ptr 0 0))] (.tu []):=by
 have hlb:=Y7 w.Bodies
 have hls:=Y7 w.Scores
 have hln:=hL.len
 have hT:(w.Bodies.drop w.Scores.length).length=w.Bodies.length-w.Scores.length:=Gq9
 have htk:((els w.Bodies).take ((els w.Scores).length:Int).toNat).length=w.Scores.length:=by rw[Gq4,Int.toNat_natCast]; omega
 refine Con.o func255 ntmps255 fun E=>?_;refine Wz [11,61,31,33,8,3] ?_;refine M1 (Kn J J J) J J ?_;refine Wz [0,61,68] ?_;refine zx (q_partr0 J J J J J J Aqa) J ?_;refine M1 (q_appz J J J J J J (fun e he=>els_pl9 _ e (Gxt he)) (fun e he=>els_k9 _ e (Gxt he)) Aqa Aqa Aqa) J J ?_;refine Wz [44,61,31,33,258,40,8,34] ?_
 refine AWP.pre (st':=(⟨_,[(0,Aqf 0),(2,I (els w.Scores).length),(3,Aqg 5),(4,Aqg 6),(5,I (els w.Scores).length)],[.box [Aqk 1,jn w.Tick,jn w.Seed,Aqk 2,Aqk 3],.row 1 (els w.Level.Rows),.row 1 (els w.Scores),.row 9 (els w.Bodies),.gh 0 (.c (.ptr 0 0)),.row 9 (els (w.Bodies.take w.Scores.length)),.row 1 (els (List.replicate w.Bodies.length false))]⟩:St)) ?_ (Yk [0,1,2,3,4,6,7] Aqc J ((by exact rw2k (by rw[Zd,hls,Int.toNat_natCast]) (mk_gone (by rw[Int.toNat_natCast,hlb])))) (.c J (.c J (.c J (.c J (.c J (.nil)))))))
 refine Xj (fun m__ st=>∃ (k:Nat) (bs:List TBody) (ss:List Int) (gl:List Bool),(w.Bodies.drop w.Scores.length).length-k=m__∧(k≤(w.Bodies.drop w.Scores.length).length∧(bs,ss)=shS w.Scores.length (w.Bodies.drop w.Scores.length) (w.Bodies,w.Scores) k∧(gl.length=w.Bodies.length∧∀ i,i<(w.Bodies.drop w.Scores.length).length→w.Scores.length+i<w.Bodies.length→gl[w.Scores.length+i]? = some (decide (i<k)&&shF w.Scores.length (w.Bodies.drop w.Scores.length) (w.Bodies,w.Scores) i)))∧st=(⟨_,[(0,Aqf 0),(2,I (els w.Scores).length),(3,Aqg 5),(4,Aqg 6),(5,I (((els w.Scores).length+k:Nat):Int))],[.box [Aqk 1,jn w.Tick,jn w.Seed,Aqk 2,Aqk 3],.row 1 (els w.Level.Rows),.row 1 (els ss),.row 9 (els bs),.gh 0 (.c (.ptr 0 0)),.row 9 (els (w.Bodies.take w.Scores.length)),.row 1 (els gl)]⟩:St)) _ ⟨(fun (k:Nat) (bs:List TBody) (ss:List Int) (gl:List Bool)=>(⟨_,[(0,Aqf 0),(2,I (els w.Scores).length),(3,Aqg 5),(4,Aqg 6),(5,I (((els w.Scores).length+k:Nat):Int))],[.box [Aqk 1,jn w.Tick,jn w.Seed,Aqk 2,Aqk 3],.row 1 (els w.Level.Rows),.row 1 (els ss),.row 9 (els bs),.gh 0 (.c (.ptr 0 0)),.row 9 (els (w.Bodies.take w.Scores.length)),.row 1 (els gl)]⟩:St)) (0) (w.Bodies) (w.Scores) (List.replicate w.Bodies.length false),⟨0,w.Bodies,w.Scores,List.replicate w.Bodies.length false,J,⟨Aqa,J,Aqd,fun i _ hi=>by rw[List.getElem?_replicate,if_pos hi]; simp⟩,J⟩,Yk [0,1,2,3,4,5,6] Aqc J Aqb (.c J (.c J (.c J (.c J (.cons (X0 Aqa) (.nil))))))⟩ ?_
 rintro m_A _ ⟨k,bs,ss,gl,hk_A,hp_A,rfl⟩
 obtain⟨hk,hs,hgl,hg2⟩:=hp_A
 have hS:=(SI.start hL rfl hsc).all (w.Bodies.drop w.Scores.length) k
 rw[←hs] at hS
 obtain⟨hSL,hSn,hSt,hSs,hSc⟩:=hS
 simp only at hSL hSn hSt hSs hSc
 have hlbs:=Y7 bs
 have hlss:=Y7 ss
 have hlgl:=Y7 gl
 by_cases hlt:k<(w.Bodies.drop w.Scores.length).length
 ·have hb0:decide ((((els w.Scores).length+k:Nat):Int)<(els bs).length)=true:=Gqb Aqa 
  obtain⟨b,hb⟩:=Ua hlt
  have hbb:bs[w.Scores.length+k]? = some b:=Bx3
  have hB:=(hSL.at_ _ b hbb).1
  have hpl:=(hB.placed hl).1
  have hgk:=hg2 k hlt Aqa 
  rw[Gqa (Nat.lt_irrefl k),Bool.false_and] at hgk
  refine Wz [15,61,31,33,77,11,61,68,106] ?_
  have he:=at_el hbb
  with_reducible refine Xf ?_
  refine zx (Q6 J J J J Aqe J J) J ?_
  with_reducible refine K_alloc ?_
  refine M1 (Qx J J J) J J ?_
  with_reducible refine Xe ?_
  refine Wz [39] ?_;refine AWP.kp [0,1,2,0,5,0,6,8] [(3,Aqg 5),(4,Aqg 6)] 8 [(0,.box [Aqk 1,jn w.Tick,jn w.Seed,Aqk 2,Aqk 3]),(7,.box (Aqi b))] ?_
  clear he
  by_cases hK:b.Kind=1
  case neg =>
   have f1:decide (b.Kind≠1)=true:=Gqb hK
   obtain⟨n1,_,n3⟩:=sh_skip hb hK hs (lf:=shL w.Scores.length (w.Bodies.drop w.Scores.length) (w.Bodies,w.Scores) k) rfl
   refine Wz [4,18,22,32,190,191,27,49] ?_
   refine⟨_, Aqa,(fun (k:Nat) (bs:List TBody) (ss:List Int) (gl:List Bool)=>(⟨_,[(0,Aqf 0),(2,I (els w.Scores).length),(3,Aqg 5),(4,Aqg 6),(5,I (((els w.Scores).length+k:Nat):Int))],[.box [Aqk 1,jn w.Tick,jn w.Seed,Aqk 2,Aqk 3],.row 1 (els w.Level.Rows),.row 1 (els ss),.row 9 (els bs),.gh 0 (.c (.ptr 0 0)),.row 9 (els (w.Bodies.take w.Scores.length)),.row 1 (els gl)]⟩:St)) (k+1) (bs) (ss) (gl),⟨k+1,bs,ss,gl,J,⟨Aqa,n1,gl_same hgl hg2 (f1_step n3)⟩,J⟩,Yk [0,1,2,3,4,5,6] Aqc J Aqb (.c J (.c J (.c J (.c J (.cons (X0 Aqa) (.nil))))))⟩
  have f1:decide (b.Kind≠1)=false:=Gqa (fun q=>q hK)
  have cm:=S_l02Meets ⟨w.Level,w.Tick,w.Seed,ss,bs⟩ b b.Owner Bxo Bxo (fun j p _ h=>((hSL.at_ j p h).1.placed hl).1) hpl
  simp only[hSs] at cm
  refine Wz [4,18,22,97,85,31] ?_;refine Xd (lo := [_,_,_,_]) (gs := [(0,.c (.ptr 0 0)),(6,.c (Aqk 3))]) (lo' := [_,_,_,_]) (new := []) [0,1,2,3] [(0,0,.ptr 0 0),(1,0,Aqk 3)] (cm) J J J J J J J J J J J J J J J J J ?_;refine Wz [40,58] ?_;refine AWP.kp [0,1,2,0,5,0,6,8,7,0,56,0] [(3,Aqg 5),(4,Aqg 6)] 8 [(0,.box [Aqk 1,jn w.Tick,jn w.Seed,Aqk 2,Aqk 3]),(7,.box (Aqi b))] ?_
  cases hm:metF bs b b.Owner w.Scores.length with
  |none =>
   obtain⟨mi,hmi⟩:∃ mi:Int,metI bs b b.Owner w.Scores.length=mi:=⟨_,rfl⟩
   rw[hmi]
   rw[met_no hm] at hmi
   have f2:decide (mi<0)=true:=Gqb Aqa 
   rw[f2]
   obtain⟨n1,_,n3⟩:=sh_miss hb hm hs (lf:=shL w.Scores.length (w.Bodies.drop w.Scores.length) (w.Bodies,w.Scores) k) rfl
   refine Wz [117,190,191,27,49] ?_
   refine⟨_, Aqa,(fun (k:Nat) (bs:List TBody) (ss:List Int) (gl:List Bool)=>(⟨_,[(0,Aqf 0),(2,I (els w.Scores).length),(3,Aqg 5),(4,Aqg 6),(5,I (((els w.Scores).length+k:Nat):Int))],[.box [Aqk 1,jn w.Tick,jn w.Seed,Aqk 2,Aqk 3],.row 1 (els w.Level.Rows),.row 1 (els ss),.row 9 (els bs),.gh 0 (.c (.ptr 0 0)),.row 9 (els (w.Bodies.take w.Scores.length)),.row 1 (els gl)]⟩:St)) (k+1) (bs) (ss) (gl),⟨k+1,bs,ss,gl,J,⟨Aqa,n1,gl_same hgl hg2 (f1_step n3)⟩,J⟩,Yk [0,1,2,3,4,5,6] Aqc J Aqb (.c J (.c J (.c J (.c J (.cons (X0 Aqa) (.nil))))))⟩
  | some j =>
   rw[met_I hm]
   have f2:decide ((j:Int)<0)=false:=Gqa Aqa 
   obtain⟨hj,hc⟩:=metF_lt hm
   obtain⟨p,hp,hpl,_,_⟩:=metC_life hc
   have hpB:=(hSL.at_ j p hp).1.f
   have hjl:=Zj hp
   obtain⟨n1,_,n3⟩:=sh_hit hb hK hm hp hs (lf:=shL w.Scores.length (w.Bodies.drop w.Scores.length) (w.Bodies,w.Scores) k) rfl
   have ng:=gl_set (k:=k) (g:=fun i=>decide (i<k+1)&&shF w.Scores.length (w.Bodies.drop w.Scores.length) (w.Bodies,w.Scores) i) hgl hg2 (by simp only[n3,Bool.and_true,decide_eq_true_eq]; exact Nat.lt_succ_self k) (fun i hi=>f1_ne hi)
   have heg:=at_gl hgk
   refine Wz [90,42,10,106,170,113,61,68,106,123] ?_;refine AL.weak (st':=(⟨_,[(0,Aqf 0),(2,I (els w.Scores).length),(3,Aqg 5),(4,Aqg 6),(5,I (((els w.Scores).length+k:Nat):Int)),(6,Aqf 7),(7,I (j:Int)),(63,Aqg 3),(64,I (j:Int)),(66,.o (.c (.el 3 9 j 7)))],[.box [Aqk 1,jn w.Tick,jn w.Seed,Aqk 2,Aqk 3],.row 1 (els w.Level.Rows),.row 1 (els ss),.row 9 (els bs),.gh 0 (.c (.ptr 0 0)),.row 9 (els (w.Bodies.take w.Scores.length)),.row 1 (els (gl.set (w.Scores.length+k) true)),.box (Aqi b)]⟩:St)) (Yk [0,1,2,3,4,5,6,7] Aqc J ((by exact rw6g st_gl)) (.c J (.c J (.c J (.c J (.c J (.c J (.c J (.c J (.c J (.c J (.nil)))))))))))) ?_
   clear heg
   have he:=Za hp
   refine Wz [146,29,106,123,170,113,61,68] ?_;refine AL.weak (st':=(⟨_,[(0,Aqf 0),(2,I (els w.Scores).length),(3,Aqg 5),(4,Aqg 6),(5,I (((els w.Scores).length+k:Nat):Int)),(6,Aqf 7),(7,I (j:Int)),(74,Aqg 3),(75,I (j:Int))],[.box [Aqk 1,jn w.Tick,jn w.Seed,Aqk 2,Aqk 3],.row 1 (els w.Level.Rows),.row 1 (els ss),.row 9 (els (bs.set j (lifeM p))),.gh 0 (.c (.ptr 0 0)),.row 9 (els (w.Bodies.take w.Scores.length)),.row 1 (els (gl.set (w.Scores.length+k) true)),.box (Aqi b)]⟩:St)) (Yk [0,1,2,3,4,5,6,7] Aqc J ((by exact rwBo (st_el0 J))) (.c J (.c J (.c J (.c J (.c J (.c J (.c J (.c J (.c J (.nil))))))))))) ?_
   clear he
   have he:(els (bs.set j (lifeM p)))[(j:Int).toNat]? = some (Enc.e (lifeM p)):=Za (by rw[Gxg hjl])
   have hls2:(els (bs.set j (lifeM p))).length=bs.length:=by rw[Y7,Gqu]
   by_cases hz:p.Life-1=0
   case neg =>
    have f3:decide (p.Life-1=0)=false:=Gqa hz
    rw[hit_alive hz,if_neg hz] at n1
    refine Wz [106,123,146,20,81] ?_
    refine⟨_, Aqa,(fun (k:Nat) (bs:List TBody) (ss:List Int) (gl:List Bool)=>(⟨_,[(0,Aqf 0),(2,I (els w.Scores).length),(3,Aqg 5),(4,Aqg 6),(5,I (((els w.Scores).length+k:Nat):Int))],[.box [Aqk 1,jn w.Tick,jn w.Seed,Aqk 2,Aqk 3],.row 1 (els w.Level.Rows),.row 1 (els ss),.row 9 (els bs),.gh 0 (.c (.ptr 0 0)),.row 9 (els (w.Bodies.take w.Scores.length)),.row 1 (els gl)]⟩:St)) (k+1) (bs.set j (lifeM p)) (ss) (gl.set (w.Scores.length+k) true),⟨k+1,bs.set j (lifeM p),ss,gl.set (w.Scores.length+k) true,J,⟨Aqa,n1,ng⟩,J⟩,Yk [0,1,2,3,4,5,6] Aqc J Aqb (.c J (.c J (.c J (.c J (.cons (X0 Aqa) (.nil))))))⟩
   have f3:decide (p.Life-1=0)=true:=Gqb hz
   rw[hit_down hz,if_pos hz] at n1
   have ho:=hB.o
   obtain⟨q,hq⟩:∃ q:Nat,b.Owner=q:=⟨b.Owner.toNat,Aqa⟩
   obtain⟨s,hs1⟩:=Ua (xs:=ss) (i:=q) Aqa 
   have cp:=S_l02Point ⟨w.Level,w.Tick,w.Seed,ss,bs.set j (lifeM p)⟩ q s hs1 (hSc s (Gqn hs1))
   simp only[←hq] at cp
   rw[hq,Int.toNat_natCast] at n1
   refine Wz [106,123,146,20,32,11,31] ?_;refine Xd (lo := [_,_,_,_]) (gs := [(0,.c (.ptr 0 0)),(5,.c (Aqk 3))]) (lo' := [_,_,_,_]) (new := []) [0,1,2,3] [(0,0,.ptr 0 0),(1,0,Aqk 3)] (cp) J J J J J J J J J J J J J J J J J ?_;refine Wz [113,61,68,106,123,170,113,61,68] ?_;refine AL.weak (st':=(⟨_,[(0,Aqf 0),(2,I (els w.Scores).length),(3,Aqg 5),(4,Aqg 6),(5,I (((els w.Scores).length+k:Nat):Int)),(6,Aqf 7),(7,I (j:Int)),(94,Aqg 3),(95,I (j:Int))],[.box [Aqk 1,jn w.Tick,jn w.Seed,Aqk 2,Aqk 3],.row 1 (els w.Level.Rows),.row 1 (els (addM ss q)),.row 9 (els (bs.set j (stopX p))),.gh 0 (.c (.ptr 0 0)),.row 9 (els (w.Bodies.take w.Scores.length)),.row 1 (els (gl.set (w.Scores.length+k) true)),.box (Aqi b)]⟩:St)) (Yk [0,1,2,3,4,5,6,7] Aqc J (Bxt) (.c J (.c J (.c J (.c J (.c J (.c J (.c J (.c J (.c J (.nil))))))))))) ?_
   clear he
   have he:(els (bs.set j (stopX p)))[(j:Int).toNat]? = some (Enc.e (stopX p)):=Za (by rw[Gxg hjl])
   have hls3:(els (bs.set j (stopX p))).length=bs.length:=by rw[Y7,Gqu]
   have hls4:(els (bs.set j (stopY p))).length=bs.length:=by rw[Y7,Gqu]
   refine Wz [106,123,170,1,27,61,68] ?_;refine AL.weak (st':=(⟨_,[(0,Aqf 0),(2,I (els w.Scores).length),(3,Aqg 5),(4,Aqg 6),(5,I (((els w.Scores).length+k:Nat):Int)),(6,Aqf 7),(7,I (j:Int)),(101,Aqg 3),(102,I (j:Int))],[.box [Aqk 1,jn w.Tick,jn w.Seed,Aqk 2,Aqk 3],.row 1 (els w.Level.Rows),.row 1 (els (addM ss q)),.row 9 (els (bs.set j (stopY p))),.gh 0 (.c (.ptr 0 0)),.row 9 (els (w.Bodies.take w.Scores.length)),.row 1 (els (gl.set (w.Scores.length+k) true)),.box (Aqi b)]⟩:St)) (Yk [0,1,2,3,4,5,6,7] Aqc J (Bxt) (.c J (.c J (.c J (.c J (.c J (.c J (.c J (.c J (.c J (.nil))))))))))) ?_
   clear he
   have he:(els (bs.set j (stopY p)))[(j:Int).toNat]? = some (Enc.e (stopY p)):=Za (by rw[Gxg hjl])
   refine Wz [106,123,170,130] ?_
   refine⟨_, Aqa,(fun (k:Nat) (bs:List TBody) (ss:List Int) (gl:List Bool)=>(⟨_,[(0,Aqf 0),(2,I (els w.Scores).length),(3,Aqg 5),(4,Aqg 6),(5,I (((els w.Scores).length+k:Nat):Int))],[.box [Aqk 1,jn w.Tick,jn w.Seed,Aqk 2,Aqk 3],.row 1 (els w.Level.Rows),.row 1 (els ss),.row 9 (els bs),.gh 0 (.c (.ptr 0 0)),.row 9 (els (w.Bodies.take w.Scores.length)),.row 1 (els gl)]⟩:St)) (k+1) (bs.set j (downM p)) (addM ss q) (gl.set (w.Scores.length+k) true),⟨k+1,bs.set j (downM p),addM ss q,gl.set (w.Scores.length+k) true,J,⟨Aqa,n1,ng⟩,J⟩,Yk [0,1,2,3,4,5,6] Aqc J (Bxt) (.c J (.c J (.c J (.c J (.cons (X0 Aqa) (.nil))))))⟩
 have hb0:decide ((((els w.Scores).length+k:Nat):Int)<(els bs).length)=false:=Gqa Aqa 
 have hk:k=(w.Bodies.drop w.Scores.length).length:=Aqa
 have hg3:∀ i,i<(w.Bodies.drop w.Scores.length).length→w.Scores.length+i<w.Bodies.length→gl[w.Scores.length+i]? = some (shF w.Scores.length (w.Bodies.drop w.Scores.length) (w.Bodies,w.Scores) i || (decide (i<0)&&itF w.Scores.length (w.Bodies.drop w.Scores.length) bs i)):=fun i h1 h2=>by
  rw[hg2 i h1 h2,Gqb (by omega:i<k)]; simp
 rw[hk] at hs
 clear hg2
 refine Wz [15,61,31,33,92,30,41,8,34] ?_;refine Xj (fun m__ st=>∃ (i:Nat) (s2:List Int) (g2:List Bool),(w.Bodies.drop w.Scores.length).length-i=m__∧(i≤(w.Bodies.drop w.Scores.length).length∧s2=itS w.Scores.length bs (w.Bodies.drop w.Scores.length) ss i∧(g2.length=w.Bodies.length∧∀ j,j<(w.Bodies.drop w.Scores.length).length→w.Scores.length+j<w.Bodies.length→g2[w.Scores.length+j]? = some (shF w.Scores.length (w.Bodies.drop w.Scores.length) (w.Bodies,w.Scores) j || (decide (j<i)&&itF w.Scores.length (w.Bodies.drop w.Scores.length) bs j))))∧st=(⟨_,[(0,Aqf 0),(2,I (els w.Scores).length),(3,Aqg 5),(4,Aqg 6),(8,I (((els w.Scores).length+i:Nat):Int))],[.box [Aqk 1,jn w.Tick,jn w.Seed,Aqk 2,Aqk 3],.row 1 (els w.Level.Rows),.row 1 (els s2),.row 9 (els bs),.gh 0 (.c (.ptr 0 0)),.row 9 (els (w.Bodies.take w.Scores.length)),.row 1 (els g2)]⟩:St)) _ ⟨(fun (i:Nat) (s2:List Int) (g2:List Bool)=>(⟨_,[(0,Aqf 0),(2,I (els w.Scores).length),(3,Aqg 5),(4,Aqg 6),(8,I (((els w.Scores).length+i:Nat):Int))],[.box [Aqk 1,jn w.Tick,jn w.Seed,Aqk 2,Aqk 3],.row 1 (els w.Level.Rows),.row 1 (els s2),.row 9 (els bs),.gh 0 (.c (.ptr 0 0)),.row 9 (els (w.Bodies.take w.Scores.length)),.row 1 (els g2)]⟩:St)) (0) (ss) (gl),⟨0,ss,gl,J,⟨Aqa,J,hgl,hg3⟩,J⟩,Yk [0,1,2,3,4,5,6] Aqc J Aqb (.c J (.c J (.c J (.c J (.cons (X0 Aqa) (.nil))))))⟩ ?_
 rintro m_B _ ⟨i,s2,g2,hk_B,hp_B,rfl⟩
 obtain⟨hi,hs2,hgl2,hgi⟩:=hp_B
 have hSs2:s2.length=w.Scores.length:=by rw[hs2]; exact (itS_ok hSs hSc).1
 have hSc2:∀ x∈s2,0≤x∧x≤1000000:=by rw[hs2]; exact (itS_ok hSs hSc).2
 have hlgl2:=Y7 g2
 clear hb0 hgl hg3
 by_cases hlt:i<(w.Bodies.drop w.Scores.length).length
 ·have hb0:decide ((((els w.Scores).length+i:Nat):Int)<(els bs).length)=true:=Gqb Aqa 
  obtain⟨b,hb⟩:=Ua hlt
  have hbb:bs[w.Scores.length+i]? = some b:=Bx3
  have hB:=(hSL.at_ _ b hbb).1
  have hpl:=(hB.placed hl).1
  obtain⟨g0,hgk⟩:=Ua (xs:=g2) (i:=w.Scores.length+i) Aqa 
  have heg:=at_gl hgk
  have he:=at_el hbb
  by_cases hK:b.Kind=2
  case neg =>
   have f1:decide (b.Kind≠2)=true:=Gqb hK
   obtain⟨n1,_,n3⟩:=it_skip hb hK hs2 (lf:=itL w.Scores.length bs (w.Bodies.drop w.Scores.length) i) rfl
   refine Wz [15,61,31,33,77,41,61,68,106,123,146,22,32,190,191,27,49] ?_
   refine⟨_, Aqa,(fun (i:Nat) (s2:List Int) (g2:List Bool)=>(⟨_,[(0,Aqf 0),(2,I (els w.Scores).length),(3,Aqg 5),(4,Aqg 6),(8,I (((els w.Scores).length+i:Nat):Int))],[.box [Aqk 1,jn w.Tick,jn w.Seed,Aqk 2,Aqk 3],.row 1 (els w.Level.Rows),.row 1 (els s2),.row 9 (els bs),.gh 0 (.c (.ptr 0 0)),.row 9 (els (w.Bodies.take w.Scores.length)),.row 1 (els g2)]⟩:St)) (i+1) (s2) (g2),⟨i+1,s2,g2,J,⟨Aqa,n1,gl_same hgl2 hgi (f2_step (by rw[itF_at hb]; exact n3))⟩,J⟩,Yk [0,1,2,3,4,5,6] Aqc J Aqb (.c J (.c J (.c J (.c J (.cons (X0 Aqa) (.nil))))))⟩
  have f1:decide (b.Kind≠2)=false:=Gqa (fun q=>q hK)
  have cm:=S_l02Meets ⟨w.Level,w.Tick,w.Seed,s2,bs⟩ b (-1) Bxo Bxo (fun j p _ h=>((hSL.at_ j p h).1.placed hl).1) hpl
  simp only[hSs2] at cm
  refine Wz [15,61,31,33,77,41,61,68,106,123,146,22,28,10,61,68,106,290] ?_;refine Xd (lo := [_,_,_,_]) (gs := [(0,.c (.ptr 0 0)),(6,.c (Aqk 3))]) (lo' := [_,_,_,_]) (new := []) [0,1,2,3] [(0,0,.ptr 0 0),(1,0,Aqk 3)] (cm) J J J J J J J J J J J J J J J J J ?_;refine Wz [44,224,1] ?_;refine AWP.kp [0,1,2,0,8,0,9,0,134,0] [(3,Aqg 5),(4,Aqg 6)] 7 [(0,.box [Aqk 1,jn w.Tick,jn w.Seed,Aqk 2,Aqk 3])] ?_
  cases hm:metF bs b (-1) w.Scores.length with
  |none =>
   obtain⟨mi,hmi⟩:∃ mi:Int,metI bs b (-1) w.Scores.length=mi:=⟨_,rfl⟩
   rw[hmi]
   rw[met_no hm] at hmi
   have f2:decide (mi≥0)=false:=Gqa Aqa 
   rw[f2]
   obtain⟨n1,_,n3⟩:=it_miss hb hm hs2 (lf:=itL w.Scores.length bs (w.Bodies.drop w.Scores.length) i) rfl
   refine Wz [90,149,226] ?_
   refine⟨_, Aqa,(fun (i:Nat) (s2:List Int) (g2:List Bool)=>(⟨_,[(0,Aqf 0),(2,I (els w.Scores).length),(3,Aqg 5),(4,Aqg 6),(8,I (((els w.Scores).length+i:Nat):Int))],[.box [Aqk 1,jn w.Tick,jn w.Seed,Aqk 2,Aqk 3],.row 1 (els w.Level.Rows),.row 1 (els s2),.row 9 (els bs),.gh 0 (.c (.ptr 0 0)),.row 9 (els (w.Bodies.take w.Scores.length)),.row 1 (els g2)]⟩:St)) (i+1) (s2) (g2),⟨i+1,s2,g2,J,⟨Aqa,n1,gl_same hgl2 hgi (f2_step (by rw[itF_at hb]; exact n3))⟩,J⟩,Yk [0,1,2,3,4,5,6] Aqc J Aqb (.c J (.c J (.c J (.c J (.cons (X0 Aqa) (.nil))))))⟩
  |some j =>
   rw[met_I hm]
   have f2:decide ((j:Int)≥0)=true:=Gqb Aqa 
   obtain⟨hj,hc⟩:=metF_lt hm
   obtain⟨s,hs1⟩:=Ua (xs:=s2) (i:=j) Aqa 
   have cp:=S_l02Point ⟨w.Level,w.Tick,w.Seed,s2,bs⟩ j s hs1 (hSc2 s (Gqn hs1))
   simp only at cp
   obtain⟨n1,_,n3⟩:=it_hit hb hK hm hs2 (lf:=itL w.Scores.length bs (w.Bodies.drop w.Scores.length) i) rfl
   have ng:=gl_set (k:=i) (g:=fun j=>shF w.Scores.length (w.Bodies.drop w.Scores.length) (w.Bodies,w.Scores) j || (decide (j<i+1)&&itF w.Scores.length (w.Bodies.drop w.Scores.length) bs j)) hgl2 hgi (by simp only[itF_at hb,n3,Bool.and_true]; rw[Gqb (Nat.lt_succ_self i),Bool.or_true]) (fun j hj=>f2_ne hj)
   refine Wz [117,10,106,170,1,27,0] ?_;refine Xd (lo := [_,_,_,_]) (gs := [(0,.c (.ptr 0 0)),(5,.c (Aqk 3))]) (lo' := [_,_,_,_]) (new := []) [0,1,2,3] [(0,0,.ptr 0 0),(1,0,Aqk 3)] (cp) J J J J J J J J J J J J J J J J J ?_;refine Wz [130] ?_
   refine⟨_, Aqa,(fun (i:Nat) (s2:List Int) (g2:List Bool)=>(⟨_,[(0,Aqf 0),(2,I (els w.Scores).length),(3,Aqg 5),(4,Aqg 6),(8,I (((els w.Scores).length+i:Nat):Int))],[.box [Aqk 1,jn w.Tick,jn w.Seed,Aqk 2,Aqk 3],.row 1 (els w.Level.Rows),.row 1 (els s2),.row 9 (els bs),.gh 0 (.c (.ptr 0 0)),.row 9 (els (w.Bodies.take w.Scores.length)),.row 1 (els g2)]⟩:St)) (i+1) (addM s2 j) (g2.set (w.Scores.length+i) true),⟨i+1,addM s2 j,g2.set (w.Scores.length+i) true,J,⟨Aqa,n1,ng⟩,J⟩,Yk [0,1,2,3,4,5,6] Aqc J ((by exact rw6g st_gl)) (.c J (.c J (.c J (.c J (.cons (X0 Aqa) (.nil))))))⟩
 have hb0:decide ((((els w.Scores).length+i:Nat):Int)<(els bs).length)=false:=Gqa Aqa 
 have hi2:i=(w.Bodies.drop w.Scores.length).length:=Aqa
 rw[hi2] at hs2
 have hg4:∀ j,j<(w.Bodies.drop w.Scores.length).length→g2[w.Scores.length+j]? = some (shF w.Scores.length (w.Bodies.drop w.Scores.length) (w.Bodies,w.Scores) j || itF w.Scores.length (w.Bodies.drop w.Scores.length) bs j):=fun j h1=>by
  rw[hgi j h1 Aqa,Gqb (by omega:j<i)]; simp
 have hlk:(els (w.Bodies.take w.Scores.length)).length=w.Scores.length:=by rw[Y7,Gq4]; omega
 have hcl:((els bs).take ((els w.Scores).length:Int).toNat).length=(els (w.Bodies.take w.Scores.length)).length:=by rw[hlk,Gq4,Int.toNat_natCast]; omega
 refine Wz [15,61,31,33,92,30,10,61,68] ?_;refine zx (q_partr0 J J J J J J Aqa) J ?_;refine M_copy J J J J J J J J J J (fun e he=>els_pl9 _ e (Gxt he)) (fun e he=>els_k9 _ e (Gxt he)) hcl Aqa ?_;refine Wz [1,41,8,34] ?_;refine Xj (fun m__ st=>∃ (j:Nat) (kr:List TBody),(w.Bodies.drop w.Scores.length).length-j=m__∧(j≤(w.Bodies.drop w.Scores.length).length∧kr=keepR w.Scores.length (w.Bodies.drop w.Scores.length) (w.Bodies,w.Scores) bs j)∧st=(⟨_,[(0,Aqf 0),(2,I (els w.Scores).length),(3,Aqg 5),(4,Aqg 6),(10,I (((els w.Scores).length+j:Nat):Int))],[.box [Aqk 1,jn w.Tick,jn w.Seed,Aqk 2,Aqk 3],.row 1 (els w.Level.Rows),.row 1 (els s2),.row 9 (els bs),.gh 0 (.c (.ptr 0 0)),.row 9 (els (bs.take w.Scores.length++kr)),.row 1 (els g2)]⟩:St)) _ ⟨(fun (j:Nat) (kr:List TBody)=>(⟨_,[(0,Aqf 0),(2,I (els w.Scores).length),(3,Aqg 5),(4,Aqg 6),(10,I (((els w.Scores).length+j:Nat):Int))],[.box [Aqk 1,jn w.Tick,jn w.Seed,Aqk 2,Aqk 3],.row 1 (els w.Level.Rows),.row 1 (els s2),.row 9 (els bs),.gh 0 (.c (.ptr 0 0)),.row 9 (els (bs.take w.Scores.length++kr)),.row 1 (els g2)]⟩:St)) (0) ([]),⟨0,[],J,⟨Aqa,J⟩,J⟩,Yk [0,1,2,3,4,5,6] Aqc J ((by exact rw6 (by rw[Gqy,Zd,hls,Int.toNat_natCast]))) (.c J (.c J (.c J (.c J (.cons (X0 Aqa) (.nil))))))⟩ ?_
 rintro m_C _ ⟨j,kr,hk_C,hp_C,rfl⟩
 obtain⟨hj,hkr⟩:=hp_C
 have hlkr:(els (bs.take w.Scores.length++kr)).length=w.Scores.length+kr.length:=by rw[Y7,Gql,Gq4]; omega
 have hkl:kr.length≤j:=by rw[hkr]; exact keepR_le j
 clear hb0
 by_cases hlt:j<(w.Bodies.drop w.Scores.length).length
 ·have hb0:decide ((((els w.Scores).length+j:Nat):Int)<(els bs).length)=true:=Gqb Aqa 
  obtain⟨b,hb⟩:=Ua hlt
  have hbb:bs[w.Scores.length+j]? = some b:=Bx3
  have hgj:=hg4 j hlt
  have hnx:keepR w.Scores.length (w.Bodies.drop w.Scores.length) (w.Bodies,w.Scores) bs (j+1)=if (shF w.Scores.length (w.Bodies.drop w.Scores.length) (w.Bodies,w.Scores) j || itF w.Scores.length (w.Bodies.drop w.Scores.length) bs j)=true then kr else kr ++ [b]:=by
   rw[keepR,hb,hkr,itF,hb]
  have he:=at_el hbb
  cases hf:(shF w.Scores.length (w.Bodies.drop w.Scores.length) (w.Bodies,w.Scores) j || itF w.Scores.length (w.Bodies.drop w.Scores.length) bs j) with
  |true =>
   rw[hf] at hgj hnx
   have heg:=at_gl hgj
   refine Wz [15,61,31,33,77,10,106,146,6,81] ?_
   refine⟨_, Aqa,(fun (j:Nat) (kr:List TBody)=>(⟨_,[(0,Aqf 0),(2,I (els w.Scores).length),(3,Aqg 5),(4,Aqg 6),(10,I (((els w.Scores).length+j:Nat):Int))],[.box [Aqk 1,jn w.Tick,jn w.Seed,Aqk 2,Aqk 3],.row 1 (els w.Level.Rows),.row 1 (els s2),.row 9 (els bs),.gh 0 (.c (.ptr 0 0)),.row 9 (els (bs.take w.Scores.length++kr)),.row 1 (els g2)]⟩:St)) (j+1) (kr),⟨j+1,kr,J,⟨Aqa,hnx.symm⟩,J⟩,Yk [0,1,2,3,4,5,6] Aqc J Aqb (.c J (.c J (.c J (.c J (.cons (X0 Aqa) (.nil))))))⟩
  |false =>
   rw[hf] at hgj hnx
   have heg:=at_gl hgj
   refine Wz [15,61,31,33,77,10,106,146,6,32,27,0,61,68,106,290,116,122,110] ?_
   refine⟨_, Aqa,(fun (j:Nat) (kr:List TBody)=>(⟨_,[(0,Aqf 0),(2,I (els w.Scores).length),(3,Aqg 5),(4,Aqg 6),(10,I (((els w.Scores).length+j:Nat):Int))],[.box [Aqk 1,jn w.Tick,jn w.Seed,Aqk 2,Aqk 3],.row 1 (els w.Level.Rows),.row 1 (els s2),.row 9 (els bs),.gh 0 (.c (.ptr 0 0)),.row 9 (els (bs.take w.Scores.length++kr)),.row 1 (els g2)]⟩:St)) (j+1) (kr ++ [b]),⟨j+1,kr ++ [b],J,⟨Aqa,hnx.symm⟩,J⟩,Yk [0,1,2,3,4,5,6] Aqc J ((by exact rw6 (by rw[←Gqz,Y3]; rfl))) (.c J (.c J (.c J (.c J (.cons (X0 Aqa) (.nil))))))⟩
 have hb0:decide ((((els w.Scores).length+j:Nat):Int)<(els bs).length)=false:=Gqa Aqa 
 have hj2:j=(w.Bodies.drop w.Scores.length).length:=Aqa
 rw[hj2] at hkr
 have hres:hitsR w.Scores.length w.Bodies w.Scores=(bs.take w.Scores.length++kr,s2):=by
  simp only[hitsR,←hs]
  rw[←hkr,←hs2]
 rw[hres]
 refine Wz [15,61,31,33,92,30,27,0,61,121,53,220] ?_
 exact Xo J (Yh [0,1,2,5,4] Aqc J J J)
end
section
open Tryz
open Go.RowKit

instance:PlainE TBody:=⟨fun x t h=>els_pl9 [x] (Enc.e x) (by simp[els]) t h⟩
theorem Xz (w:TWorld) (hg:Enc.gd w) (h1:w.Level.Rows.length≤1048576) (h2:w.Scores.length≤1048576) (h3:w.Bodies.length≤1048576):Co 92 [] [ag w] [.row 1 (els w.Level.Rows),.row 1 (els w.Scores),.row 9 (els w.Bodies)] (.o (.ag [Aqk 0,jn w.Tick,jn w.Seed,Aqk 1,Aqk 2])):=by
 have hls:=Y7 w.Scores
 have hlb:=Y7 w.Bodies
 refine Con.o func92 ntmps92 fun E=>?_;refine Wz [59,1,56] ?_;refine kc1 (I_copyLevel w.Level hg.1 h1) ?_;refine Wz [79,39,18] ?_;refine M_appnil J J J J J J J J (Y8 _) (Y6 _) Aqa Aqa  ?_;refine Wz [98] ?_;refine M_appnil J J J J J J J J (Y8 _) (Y6 _) Aqa Aqa  ?_;refine Wz [52,7,39,73] ?_
 exact Bzu
theorem Yf (w:TWorld) (hg:Enc.gd w) (h1:w.Level.Rows.length≤1048576) (h2:w.Scores.length≤1048576) (h3:w.Bodies.length≤1048576):Co 68 [] [ag w] [.row 1 (els w.Level.Rows),.row 1 (els w.Scores),.row 9 (els w.Bodies)] (.o (.ag [Aqk 0,jn w.Tick,jn w.Seed,Aqk 1,Aqk 2])):=by
 have hls:=Y7 w.Scores
 have hlb:=Y7 w.Bodies
 have h00:([]:List (List T)).length=0:=rfl
 refine Con.o func68 ntmps68 fun E=>?_;refine Wz [59,1,56] ?_;refine kc1 (S_copyLevel w.Level hg.1 h1) ?_;refine Wz [79,39,3,184,31] ?_;refine M_app J J J J J J J J J J (Y8 _) (Y6 _) Aqa Aqa  ?_;refine Wz [52,3,184,31] ?_;refine M_app J J J J J J J J J J (Y8 _) (Y6 _) Aqa Aqa  ?_;refine Wz [52,7,39,73] ?_
 exact Bzu
end
section
open Tryz
open Go.RowKit

theorem step_T {w:TWorld} {row:List Int} (h:worldOk w=true∧w.Tick≠100000∧rowOk row w.Scores.length=true):stepW w row=tickM w row:=by rw[stepW,if_pos h]
theorem step_F {w:TWorld} {row:List Int} (h:¬(worldOk w=true∧w.Tick≠100000∧rowOk row w.Scores.length=true)):stepW w row=w:=by rw[stepW,if_neg h]
theorem last_1 {l:TLevel} {tick seed:Int} {ss:List Int} {bs:List TBody} (h:tick%16≠0∨(spotsM l).length=0∨24≤bs.length):lastM l tick seed ss bs=⟨l,tick,seed,ss,bs⟩:=by rw[lastM,if_pos h]
theorem last_2 {l:TLevel} {tick seed:Int} {ss:List Int} {bs:List TBody} {x y:Int} (h:¬(tick%16≠0∨(spotsM l).length=0∨24≤bs.length)) (hs:spotOf l seed = [x,y]) (hi:itemAt bs x y=true):lastM l tick seed ss bs=⟨l,tick,nextR seed,ss,bs⟩:=by
 rw[lastM,if_neg h,hs]
 exact if_pos hi
theorem last_3 {l:TLevel} {tick seed:Int} {ss:List Int} {bs:List TBody} {x y:Int} (h:¬(tick%16≠0∨(spotsM l).length=0∨24≤bs.length)) (hs:spotOf l seed = [x,y]) (hi:itemAt bs x y=false):lastM l tick seed ss bs=⟨l,tick,nextR seed,ss,bs ++ [itemB x y]⟩:=by
 rw[lastM,if_neg h,hs]
 exact if_neg (by show ¬itemAt bs x y=true; rw[hi]; simp)
theorem at_hit {bs:List TBody} {x y:Int} {k:Nat} {b:TBody} (hb:bs[k]? = some b) (h:b.Kind=2∧b.X=x∧b.Y=y):itemAt bs x y=true:=by
 rw[itemAt,List.any_eq_true]
 exact⟨b,Gqn hb,Gqb h⟩
theorem at_go {bs:List TBody} {x y:Int} {k:Nat} {b:TBody} (hb:bs[k]? = some b) (h:¬(b.Kind=2∧b.X=x∧b.Y=y)) (hi:itemAt (bs.take k) x y=false):itemAt (bs.take (k+1)) x y=false:=by
 obtain⟨hk,rfl⟩:=Gqo.1 hb
 rw[Gxb hk,itemAt,List.any_append,←itemAt,hi]
 simp only[List.any_cons,List.any_nil,Bool.or_false,Bool.false_or]
 exact Gqa h
theorem rwS2 {a b:Ob} {t:List Ob} {k:Nat} {x y:List (List T)} (h:x=y):a::b::Ob.row k x::t=a::b::Ob.row k y::t:=by rw[h]
theorem I_StepWorld (w:TWorld) (row:List Int) (hg:Enc.gd w) (gr:Enc.gd row) (h1:w.Level.Rows.length≤1048576) (h2:w.Scores.length≤1048576) (h3:w.Bodies.length≤1048576):Co 218 [] [ag w,al row] [.row 1 (els w.Level.Rows),.row 1 (els (stepW w row).Scores),.row 9 (els (stepW w row).Bodies)] (.o (.ag [Aqk 0,jn (stepW w row).Tick,jn (stepW w row).Seed,Aqk 1,Aqk 2])):=by
 have hls:=Y7 w.Scores
 have hlb:=Y7 w.Bodies
 have c1:=Xz w hg h1 h2 h3
 have c2:=Xx w hg
 have c3:=I_rowOk row ((els w.Scores).length:Int) gr
 rw[show rowOk row ((els w.Scores).length:Int)=rowOk row (w.Scores.length:Int) by rw[hls]] at c3
 cases ho:worldOk w with
 |false =>
  rw[step_F (fun q=>by rw[ho] at q; cases q.1)]
  rw[ho] at c2
  refine Con.o func218 ntmps218 fun E=>?_;refine Wz [59,1,7] ?_;refine kc1 c1 ?_;refine Wz [91,4,7] ?_;refine kc0 c2 ?_;refine Wz [6,0,87,80,46,55,87,83,7,39,177,89] ?_
  exact Bzu
 |true =>
 rw[ho] at c2
 by_cases ht:w.Tick=100000
 ·have f1:decide (w.Tick=100000)=true:=Gqb ht
  rw[step_F (fun q=>q.2.1 ht)]
  refine Con.o func218 ntmps218 fun E=>?_;refine Wz [59,1,7] ?_;refine kc1 c1 ?_;refine Wz [91,4,7] ?_;refine kc0 c2 ?_;refine Wz [6,71,20,5,55,87,83,7,39,177,89] ?_
  exact Bzu
 have f1:decide (w.Tick=100000)=false:=Gqa ht
 cases hr:rowOk row (w.Scores.length:Int) with
 |false =>
  rw[step_F (fun q=>by rw[hr] at q; cases q.2.2)]
  rw[hr] at c3
  refine Con.o func218 ntmps218 fun E=>?_;refine Wz [59,1,7] ?_;refine kc1 c1 ?_;refine Wz [91,4,7] ?_;refine kc0 c2 ?_;refine Wz [6,71,20,5,14,112,25,2] ?_;refine kc0 c3 ?_;refine Wz [2,6,5,32,7,39,177,89] ?_
  exact Bzu
 |true =>
 rw[hr] at c3
 rw[step_T ⟨ho,ht,hr⟩]
 have hP:=PH.of hg ho hr
 have hsr:=V5 ho
 have hM:=hits_lm hP.mv rfl hsr
 have hSh:=SI.shots hP.mv rfl hsr
 have hSI:=(SI.start hP.mv rfl hsr).all ((movedM w row).drop w.Scores.length) ((movedM w row).drop w.Scores.length).length
 have hEq:=hits_eq hP.mv rfl hsr
 obtain⟨hl,htk,hsd,hn,_,hlen,hbo⟩:=Uj ho
 have htk:=Zm.1 htk
 have hsd:=Zm.1 hsd
 have d1:=I_stepPlayers w row hP
 have d2:=I_stepMoves ⟨w.Level,w.Tick,w.Seed,w.Scores,plM w.Level row w.Bodies w.Scores.length⟩ hg.1 hl hP.pl.lm hP.pl.tm
 have d3:=I_stepShots ⟨w.Level,w.Tick,w.Seed,w.Scores,movedM w row⟩ hg.1 hl hn hP.mv hsr
 have hsl:=hSI.sl
 have hsc:=hSI.sc
 simp only at d2 d3
 obtain⟨s3,hs3⟩:∃ s3,s3=(shS w.Scores.length ((movedM w row).drop w.Scores.length) (movedM w row,w.Scores) ((movedM w row).drop w.Scores.length).length).2:=⟨_,rfl⟩
 obtain⟨b3,hb3⟩:∃ b3,b3=(shS w.Scores.length ((movedM w row).drop w.Scores.length) (movedM w row,w.Scores) ((movedM w row).drop w.Scores.length).length).1.take w.Scores.length++shL w.Scores.length ((movedM w row).drop w.Scores.length) (movedM w row,w.Scores) ((movedM w row).drop w.Scores.length).length:=⟨_,rfl⟩
 have hP2:hitsP w.Scores.length (movedM w row) w.Scores=(b3.take w.Scores.length++itL w.Scores.length b3 (b3.drop w.Scores.length) (b3.drop w.Scores.length).length,itS w.Scores.length b3 (b3.drop w.Scores.length) s3 (b3.drop w.Scores.length).length):=by rw[hitsP,hs3,hb3]
 rw[←hs3] at d3 hsl hsc
 rw[←hb3] at d3 hSh
 have d4:=I_stepItems ⟨w.Level,w.Tick,w.Seed,s3,b3⟩ hg.1 hl Bxo (by simp only; rw[hsl]; exact hSh) hsc
 simp only at d4
 rw[hsl] at d4
 obtain⟨s4,hs4⟩:∃ s4,s4=itS w.Scores.length b3 (b3.drop w.Scores.length) s3 (b3.drop w.Scores.length).length:=⟨_,rfl⟩
 obtain⟨b4,hb4⟩:∃ b4,b4=b3.take w.Scores.length++itL w.Scores.length b3 (b3.drop w.Scores.length) (b3.drop w.Scores.length).length:=⟨_,rfl⟩
 rw[←hs4,←hb4] at d4
 rw[←hs4,←hb4,hEq] at hP2
 rw[tickM,hP2]
 rw[hP2] at hM
 obtain⟨hM1,hM2,hM3⟩:=hM
 simp only at hM1 hM2 hM3
 have e1:=I_NextRandom w.Seed ⟨Aqa,Aqa⟩
 have e2:=I_SpotsOf w.Level hg.1 hl
 have hlb4:=Y7 b4
 have hbl:=hM1.len
 have hlsp:=Y7 (spotsM w.Level)
 have hsl2:=spots_len hl
 have hnr:=Zz w.Seed
 clear hEq hP2 hSI hSh hb4 hs4 hb3 hs3 hbo hsl hsc
 refine Con.o func218 ntmps218 fun E=>?_;refine Wz [59,1,7] ?_;refine kc1 c1 ?_;refine Wz [91,4,7] ?_;refine kc0 c2 ?_;refine Wz [6,71,20,5,14,112,25,2] ?_;refine kc0 c3 ?_;refine Wz [2,6,5,97] ?_;refine AL.kr [1,0,4,5,5,1,32,0] [] [5,2,3,4,1] [(5,.box [Aqk 1,jn w.Tick,jn w.Seed,Aqk 2,Aqk 3]),(1,.box [nilV,jn 0,jn 0,nilV,nilV])] ?_
 clear c1 c2 c3 f1
 refine Xd (lo := [_,_,_,_]) (gs := [(0,.c (.ptr 0 0))]) (lo' := [_,_,_,_]) (new := []) [0,1,2,3] [(0,0,.ptr 0 0)] (d1) J J J J J J J J J J J J J J J J J ?_;refine Wz [1,3] ?_;refine AL.kp [1,0,4,5,5,1] [] 5 [(0,.box [Aqk 1,jn w.Tick,jn w.Seed,Aqk 2,Aqk 3]),(4,.box [nilV,jn 0,jn 0,nilV,nilV])] ?_
 clear d1
 refine Xd (lo := [_,_,_,_]) (gs := [(0,.c (.ptr 0 0))]) (lo' := [_,_,_,_]) (new := []) [0,1,2,3] [(0,0,.ptr 0 0)] (d2) J J J J J J J J J J J J J J J J J ?_;refine Wz [1,3] ?_;refine AL.kp [1,0,4,5,5,1] [] 5 [(0,.box [Aqk 1,jn w.Tick,jn w.Seed,Aqk 2,Aqk 3]),(4,.box [nilV,jn 0,jn 0,nilV,nilV])] ?_
 clear d2
 refine Xd (lo := [_,_,_,_]) (gs := [(0,.c (.ptr 0 0))]) (lo' := [_,_,_,_]) (new := []) [0,1,2,3] [(0,0,.ptr 0 0)] (d3) J J J J J J J J J J J J J J J J J ?_;refine Wz [1,3] ?_;refine AL.kp [1,0,4,5,5,1] [] 5 [(0,.box [Aqk 1,jn w.Tick,jn w.Seed,Aqk 2,Aqk 3]),(4,.box [nilV,jn 0,jn 0,nilV,nilV])] ?_
 clear d3
 refine Xd (lo := [_,_,_,_]) (gs := [(0,.c (.ptr 0 0))]) (lo' := [_,_,_,_]) (new := []) [0,1,2,3] [(0,0,.ptr 0 0)] (d4) J J J J J J J J J J J J J J J J J ?_;refine Wz [1,18,13,98] ?_;refine AL.kp [1,0,4,5,5,1,42,0] [] 5 [(0,.box [Aqk 1,jn (w.Tick+1),jn w.Seed,Aqk 2,Aqk 3]),(4,.box [nilV,jn 0,jn 0,nilV,nilV])] ?_
 clear d4
 refine kc0 e1 ?_;refine Wz [52,56] ?_;refine AL.kp [1,0,4,5,5,1] [(46,.o (.ag [Aqk 1]))] 5 [(0,.box [Aqk 1,jn (w.Tick+1),jn (nextR w.Seed),Aqk 2,Aqk 3]),(4,.box [nilV,jn 0,jn 0,nilV,nilV])] ?_
 clear e1
 obtain⟨sd,hsd2⟩:∃ sd,sd=nextR w.Seed:=⟨_,rfl⟩
 rw[←hsd2] at hnr
 rw[←hsd2]
 by_cases q1:(w.Tick+1)%16≠0
 ·have g1:decide ((w.Tick+1)%16≠0)=true:=Gqb q1
  rw[last_1 (.inl q1)]
  refine kc1 e2 ?_;refine Wz [16,18,167,22,0,87,80,46,55,83,7,39,177,89] ?_
  exact Bz2
 have g1:decide ((w.Tick+1)%16≠0)=false:=Gqa q1
 by_cases q2:(spotsM w.Level).length=0
 ·have g2:decide (((els (spotsM w.Level)).length:Int)=0)=true:=Gqb Aqa 
  rw[last_1 (.inr (.inl q2))]
  refine kc1 e2 ?_;refine Wz [16,18,167,22,14,33,2,20,5,55,83,7,39,177,89] ?_
  exact Bz2
 have g2:decide (((els (spotsM w.Level)).length:Int)=0)=false:=Gqa Aqa 
 by_cases q3:24≤b4.length
 ·have g3:decide (((els b4).length:Int)≥24)=true:=Gqb Aqa 
  rw[last_1 (.inr (.inr q3))]
  refine kc1 e2 ?_;refine Wz [16,18,167,22,14,33,2,20,5,71,33,2,169,5,32,7,39,177,89] ?_
  exact Bz2
 have g3:decide (((els b4).length:Int)≥24)=false:=Gqa Aqa 
 have q:¬((w.Tick+1)%16≠0∨(spotsM w.Level).length=0∨24≤b4.length):=fun h=>h.elim q1 fun h=>h.elim q2 q3
 obtain⟨i,hi1,hi2,hi3⟩:=spotOf_mem (seed:=sd) q2
 obtain⟨x,y,hxy,hx,hy⟩:=spot_rng hl (Gqn hi3)
 have e3:=I_RandomBelow sd ((els (spotsM w.Level)).length:Int) hnr ⟨Aqa,Aqa⟩
 rw[show belowR sd ((els (spotsM w.Level)).length:Int)=i by rw[hlsp]; exact hi1] at e3
 have hsp:(els (spotsM w.Level))[(i:Int).toNat]? = some (Enc.e [x,y]):=Za (by rw[hi3,hxy])
 refine kc1 e2 ?_;refine Wz [16,18,167,22,14,33,2,20,5,71,33,2,169,5,28,65,33] ?_;refine kc1 e3 ?_;refine Wz [120,26,44,52,10,106,146] ?_;refine AL.kp [4,5,5,1,8,0] [(6,Aqg 5),(77,.o (.c (.rd [5] (.sl 1 (els [x,y])))))] 6 [(0,.box [Aqk 1,jn (w.Tick+1),jn (nextR sd),Aqk 2,Aqk 3]),(4,.box [nilV,jn 0,jn 0,nilV,nilV])] ?_
 clear e2 e3 g1 g2 g3
 have hx0:(els [x,y])[(0:Int).toNat]? = some (Enc.e x):=rfl
 have hy0:(els [x,y])[(1:Int).toNat]? = some (Enc.e y):=rfl
 refine Wz [100,8,10,106,146,100,16,18,33,138,34] ?_;refine A_lp b4.length (fun k=>itemAt (b4.take k) x y=false) (fun k => [(4,Aqf 4),(5,Aqf 0),(9,I x),(10,I y),(87,Aqg 3),(88,I (els b4).length),(89,I k)]) (fun k => [.box [Aqk 1,jn (w.Tick+1),jn (nextR sd),Aqk 2,Aqk 3],.row 1 (els w.Level.Rows),.row 1 (els s4),.row 9 (els b4),.box [nilV,jn 0,jn 0,nilV,nilV]]) J (Yj [0,1,2,3,4] Aqb) ?_
 intro m_A k hk_A hp_A
 by_cases hlt:k<b4.length
 ·have hb0:decide ((k:Int)<(els b4).length)=true:=Gqb Aqa 
  obtain⟨b,hb⟩:=Ua hlt
  refine Wz [3,19,1,4,117,9,3,106] ?_
  have he:=Za hb
  with_reducible refine Xf ?_
  refine zx (Q6 J J J J Aqe J J) J ?_
  with_reducible refine K_alloc ?_
  refine M1 (Qx J J J) J J ?_
  with_reducible refine Xe ?_
  refine Wz [39] ?_;refine AWP.kp [4,5,5,1,9,0,10,0,88,0,89,0,12,6] [(87,Aqg 3)] 6 [(0,.box [Aqk 1,jn (w.Tick+1),jn (nextR sd),Aqk 2,Aqk 3]),(4,.box [nilV,jn 0,jn 0,nilV,nilV]),(5,.box (Aqi b))] ?_
  clear he
  by_cases k1:b.Kind=2
  case neg =>
   have p1:decide (b.Kind=2)=false:=Gqa k1
   refine Wz [18,20,55,5,55,5,151,104] ?_
   exact .n (k+1) (at_go hb (fun h=>k1 h.1) hp_A) (Yj [0,1,2,3,4] Aqb)
  have p1:decide (b.Kind=2)=true:=Gqb k1
  by_cases k2:b.X=x
  case neg =>
   have p2:decide (b.X=x)=false:=Gqa k2
   refine Wz [18,20,71,21,20,46,55,5,151,104] ?_
   exact .n (k+1) (at_go hb (fun h=>k2 h.2.1) hp_A) (Yj [0,1,2,3,4] Aqb)
  have p2:decide (b.X=x)=true:=Gqb k2
  by_cases k3:b.Y=y
  case neg =>
   have p3:decide (b.Y=y)=false:=Gqa k3
   refine Wz [18,20,71,21,20,46,71,21,20,46,151,104] ?_
   exact .n (k+1) (at_go hb (fun h=>k3 h.2.2) hp_A) (Yj [0,1,2,3,4] Aqb)
  have p3:decide (b.Y=y)=true:=Gqb k3
  rw[last_2 q hxy (at_hit hb ⟨k1,k2,k3⟩)]
  refine Wz [18,20,71,21,20,46,71,21,20,83,7,39,177,57] ?_
  exact Bz2
 ·have hb0:decide ((k:Int)<(els b4).length)=false:=Gqa Aqa 
  have hk:k=b4.length:=Aqa
  rw[hk,Gxs] at hp_A
  rw[last_3 q hxy hp_A]
  refine Wz [3,19,1,4,90,30,65,0,137,116,122,52,7,39,73] ?_
  exact Xm J J J J (Yh [1,2,3] Aqc J (by exact rwS2 (by rw[Y3]; rfl)) J)
end
end Go.Proofs.YtalaljeokcpfnaaGreat
