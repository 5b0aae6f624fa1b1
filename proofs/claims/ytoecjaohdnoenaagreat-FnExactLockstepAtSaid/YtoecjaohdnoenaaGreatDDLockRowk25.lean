/-
  Rules, data and contracts of functions: part 26 of the proof.
  Conditions: those that each theorem names.
-/
import Derived.Test.YtoecjaohdnoenaaGreatDDLockRowk24
set_option linter.unusedSimpArgs false
set_option linter.unusedVariables false
set_option maxRecDepth 8000
set_option maxHeartbeats 8000000
namespace Go.Proofs.YtoecjaohdnoenaaGreat
section
open Go.RowKit

theorem rw6g {a b c d e f:Ob} {t:List Ob} {m:Nat} {u v:List (List T)} (h2:u=v):a::b::c::d::e::f::Ob.row m u::t=a::b::c::d::e::f::Ob.row m v::t:=by rw[h2]
theorem rw2k {a b c d e:Ob} {k m:Nat} {x y u v:List (List T)} (h:x=y) (h2:u=v) : [a,b,c,d,e,Ob.row k x,Ob.row m u] = [a,b,c,d,e,Ob.row k y,Ob.row m v]:=by rw[h,h2]
theorem mk_gone {N:Nat} {i:Int} {kk:Nat} (h:i.toNat=N):els (List.replicate N false)=List.replicate i.toNat ([Value.bool false].map (zT kk)):=by
 rw[h,els,List.map_replicate]; rfl
theorem at_el {bs:List TBody} {ss:List Int} {k:Nat} {b:TBody} (h:bs[ss.length+k]? = some b):(els bs)[(((els ss).length+k:Nat):Int).toNat]? = some (Enc.e b):=by
 rw[Yc,Int.toNat_natCast,els,Gqj,h]; rfl
theorem at_gl {gl:List Bool} {ss:List Int} {k:Nat} {b:Bool} (h:gl[ss.length+k]? = some b):(els gl)[(((els ss).length+k:Nat):Int).toNat]? = some (Enc.e b):=by
 rw[Yc,Int.toNat_natCast,els,Gqj,h]; rfl
theorem st_gl {gl:List Bool} {ss:List Int} {k:Nat} {b:Bool}:els (gl.set (ss.length+k) true)=(els gl).set (((els ss).length+k:Nat):Int).toNat (splice (Enc.e b) 0 [.v (.bool true)]):=by
 rw[Yc,Int.toNat_natCast,els,List.map_set]; rfl
theorem gl_set {gl:List Bool} {n m k N:Nat} {f g:Nat→Bool} (hl:gl.length=N) (h:∀ i,i<m→n+i<N→gl[n+i]? = some (f i)) (hk:g k=true) (hf:∀ i,i≠k→g i=f i):(gl.set (n+k) true).length=N∧∀ i,i<m→n+i<N→(gl.set (n+k) true)[n+i]? = some (g i):=by
 refine⟨by rw[Gqs]; exact hl,fun i hi hN => ?_⟩
 by_cases e:i=k
 ·subst e
  rw[Gq9 (by omega),hk]
 ·rw[Gxd (by omega),h i hi hN,hf i e]
theorem gl_same {gl:List Bool} {n m N:Nat} {f g:Nat→Bool} (hl:gl.length=N) (h:∀ i,i<m→n+i<N→gl[n+i]? = some (f i)) (hf:∀ i,g i=f i):gl.length=N∧∀ i,i<m→n+i<N→gl[n+i]? = some (g i) :=
 ⟨hl,fun i hi hN=>by rw[h i hi hN,hf]⟩
def itF (n:Nat) (t bs:List TBody) (i:Nat):Bool:=match t[i]? with
 |none=>false
 |some b=>itHit n bs b
theorem itF_at {n i:Nat} {t bs:List TBody} {b:TBody} (h:t[i]? = some b):itF n t bs i=itHit n bs b:=by rw[itF,h]
theorem f1_ne {i k:Nat} {c:Bool} (h:i≠k):(decide (i<k+1)&&c)=(decide (i<k)&&c):=by
 rw[show decide (i<k+1)=decide (i<k) from decide_eq_decide.2 (by omega)]
theorem f1_step {k:Nat} {c:Nat→Bool} (h:c k=false) (i:Nat):(decide (i<k+1)&&c i)=(decide (i<k)&&c i):=by
 by_cases e:i=k
 ·subst e; rw[h,Gxo,Gxo]
 ·exact f1_ne e
theorem f2_ne {i k:Nat} {c d:Bool} (h:i≠k):(d || (decide (i<k+1)&&c))=(d || (decide (i<k)&&c)):=by rw[f1_ne h]
theorem f2_step {k:Nat} {c d:Nat→Bool} (h:c k=false) (i:Nat):(d i || (decide (i<k+1)&&c i))=(d i || (decide (i<k)&&c i)):=by rw[f1_step h]
theorem S_l02Hits (w:TWorld) (hg:Enc.gd w.Level) (hl:levelOk w.Level=true) (hn4:1≤w.Scores.length∧w.Scores.length≤4) (hL:LM w.Level w.Scores.length w.Bodies) (hsc:∀ x∈w.Scores,0≤x∧x≤1000000):Con Tryz.prog 282 [.box [.ref 1,jn w.Tick,jn w.Seed,.ref 2,.ref 3],.row 1 (els w.Level.Rows),.row 1 (els w.Scores),.row 9 (els w.Bodies),.gh 0 (.c (.ptr 0 0))] [.c (.ptr 0 0)] [.box [.ref 1,jn w.Tick,jn w.Seed,.ref 2,.ref 3],.row 1 (els w.Level.Rows),.row 1 (els (hitsR w.Scores.length w.Bodies w.Scores).2),.row 9 (els (hitsR w.Scores.length w.Bodies w.Scores).1),.gh 0 (.c (.ptr 0 0))] (.tu []):=by
 have hlb:=Yc w.Bodies
 have hls:=Yc w.Scores
 have hln:=hL.len
 have hT:(w.Bodies.drop w.Scores.length).length=w.Bodies.length-w.Scores.length:=List.length_drop
 have htk:((els w.Bodies).take ((els w.Scores).length:Int).toNat).length=w.Scores.length:=by rw[Gq3,Int.toNat_natCast]; omega
 refine Con.of Tryz.func282 J Tryz.ntmps282 J (fun E => ?_)
 refine Wz [18,50,33,4,5] ?_;refine M1 (q_bslicez J J J) J J ?_;refine Wz [0,50,0] ?_;refine zx (q_partr0 J J J J J J (by omega)) J ?_;refine M1 (q_appz J J J J J J (fun e he=>els_pl9 _ e (Gxk he)) (fun e he=>els_k9 _ e (Gxk he)) (by omega) (by omega) (by omega)) J J ?_;refine Wz [83,50,33,233,66,216] ?_
 refine AWP.pre (st':=(⟨_,[(0,.o (.c (.ptr 0 0))),(2,I (els w.Scores).length),(3,.o (.c (.ref 5))),(4,.o (.c (.ref 6))),(5,I (els w.Scores).length)],[.box [.ref 1,jn w.Tick,jn w.Seed,.ref 2,.ref 3],.row 1 (els w.Level.Rows),.row 1 (els w.Scores),.row 9 (els w.Bodies),.gh 0 (.c (.ptr 0 0)),.row 9 (els (w.Bodies.take w.Scores.length)),.row 1 (els (List.replicate w.Bodies.length false))]⟩:St)) ?_ (Up [0,1,2,3,4,6,7] J ((by exact rw2k (by rw[els_takeE2,hls,Int.toNat_natCast]) (mk_gone (by rw[Int.toNat_natCast,hlb])))) (.c J (.c J (.c J (.c J (.c J (.nil)))))))
 refine Xj (fun m__ st=>∃ (k:Nat) (bs:List TBody) (ss:List Int) (gl:List Bool),(w.Bodies.drop w.Scores.length).length-k=m__∧(k≤(w.Bodies.drop w.Scores.length).length∧(bs,ss)=shS w.Scores.length (w.Bodies.drop w.Scores.length) (w.Bodies,w.Scores) k∧(gl.length=w.Bodies.length∧∀ i,i<(w.Bodies.drop w.Scores.length).length→w.Scores.length+i<w.Bodies.length→gl[w.Scores.length+i]? = some (decide (i<k)&&shF w.Scores.length (w.Bodies.drop w.Scores.length) (w.Bodies,w.Scores) i)))∧st=(⟨_,[(0,.o (.c (.ptr 0 0))),(2,I (els w.Scores).length),(3,.o (.c (.ref 5))),(4,.o (.c (.ref 6))),(5,I (((els w.Scores).length+k:Nat):Int))],[.box [.ref 1,jn w.Tick,jn w.Seed,.ref 2,.ref 3],.row 1 (els w.Level.Rows),.row 1 (els ss),.row 9 (els bs),.gh 0 (.c (.ptr 0 0)),.row 9 (els (w.Bodies.take w.Scores.length)),.row 1 (els gl)]⟩:St)) _ ⟨(fun (k:Nat) (bs:List TBody) (ss:List Int) (gl:List Bool)=>(⟨_,[(0,.o (.c (.ptr 0 0))),(2,I (els w.Scores).length),(3,.o (.c (.ref 5))),(4,.o (.c (.ref 6))),(5,I (((els w.Scores).length+k:Nat):Int))],[.box [.ref 1,jn w.Tick,jn w.Seed,.ref 2,.ref 3],.row 1 (els w.Level.Rows),.row 1 (els ss),.row 9 (els bs),.gh 0 (.c (.ptr 0 0)),.row 9 (els (w.Bodies.take w.Scores.length)),.row 1 (els gl)]⟩:St)) (0) (w.Bodies) (w.Scores) (List.replicate w.Bodies.length false),⟨0,w.Bodies,w.Scores,List.replicate w.Bodies.length false,J,⟨by omega,J,by simp,fun i _ hi=>by rw[List.getElem?_replicate,if_pos hi]; simp⟩,J⟩,Up [0,1,2,3,4,5,6] J (by kernel_rfl) (.c J (.c J (.c J (.c J (.cons (Xs (by omega)) (.nil))))))⟩ ?_
 rintro m_A _ ⟨k,bs,ss,gl,hk_A,hp_A,rfl⟩
 obtain⟨hk,hs,hgl,hg2⟩:=hp_A
 have hS:=(SI.start hL rfl hsc).all (w.Bodies.drop w.Scores.length) k
 rw[←hs] at hS
 obtain⟨hSL,hSn,hSt,hSs,hSc⟩:=hS
 simp only at hSL hSn hSt hSs hSc
 have hlbs:=Yc bs
 have hlss:=Yc ss
 have hlgl:=Yc gl
 by_cases hlt:k<(w.Bodies.drop w.Scores.length).length
 ·have hb0:decide ((((els w.Scores).length+k:Nat):Int)<(els bs).length)=true:=Gqb (by omega)
  obtain⟨b,hb⟩:=Kk hlt
  have hbb:bs[w.Scores.length+k]? = some b:=by rw[hSt _ (by omega),←Gxg]; exact hb
  have hB:=(hSL.at_ _ b hbb).1
  have hpl:=(hB.placed hl).1
  have hgk:=hg2 k hlt (by omega)
  rw[Gqa (Nat.lt_irrefl k),Bool.false_and] at hgk
  refine Wz [13,50,33,59,105,50,0,68] ?_
  have he:=at_el hbb
  with_reducible refine Xf ?_
  refine zx (Q6 J J J J (by assumption) J J) J ?_
  with_reducible refine K_alloc ?_
  refine M1 (Qx J J J) J J ?_
  with_reducible refine Xe ?_
  refine Wz [20] ?_
  refine AWP.pre (st':=(⟨_,[(0,.o (.c (.ptr 0 0))),(2,I (els w.Scores).length),(3,.o (.c (.ref 5))),(4,.o (.c (.ref 6))),(5,I (((els w.Scores).length+k:Nat):Int)),(6,.o (.c (.ptr 7 0)))],[.box [.ref 1,jn w.Tick,jn w.Seed,.ref 2,.ref 3],.row 1 (els w.Level.Rows),.row 1 (els ss),.row 9 (els bs),.gh 0 (.c (.ptr 0 0)),.row 9 (els (w.Bodies.take w.Scores.length)),.row 1 (els gl),.box ((Enc.e b).map (V1.rd []))]⟩:St)) ?_ (Ux [0,1,2,3,4,5,6,7])
  clear he
  by_cases hK:b.Kind=1
  case neg =>
   have f1:decide (b.Kind≠1)=true:=Gqb hK
   obtain⟨n1,_,n3⟩:=sh_skip hb hK hs (lf:=shL w.Scores.length (w.Bodies.drop w.Scores.length) (w.Bodies,w.Scores) k) rfl
   refine Wz [31,49,11,168,145,147,0,130] ?_
   refine⟨_,(by omega),(fun (k:Nat) (bs:List TBody) (ss:List Int) (gl:List Bool)=>(⟨_,[(0,.o (.c (.ptr 0 0))),(2,I (els w.Scores).length),(3,.o (.c (.ref 5))),(4,.o (.c (.ref 6))),(5,I (((els w.Scores).length+k:Nat):Int))],[.box [.ref 1,jn w.Tick,jn w.Seed,.ref 2,.ref 3],.row 1 (els w.Level.Rows),.row 1 (els ss),.row 9 (els bs),.gh 0 (.c (.ptr 0 0)),.row 9 (els (w.Bodies.take w.Scores.length)),.row 1 (els gl)]⟩:St)) (k+1) (bs) (ss) (gl),⟨k+1,bs,ss,gl,J,⟨by omega,n1,gl_same hgl hg2 (f1_step n3)⟩,J⟩,Up [0,1,2,3,4,5,6] J (by kernel_rfl) (.c J (.c J (.c J (.c J (.cons (Xs (by omega)) (.nil))))))⟩
  have f1:decide (b.Kind≠1)=false:=Gqa (fun q=>q hK)
  have cm:=S_l02Meets ⟨w.Level,w.Tick,w.Seed,ss,bs⟩ b b.Owner (by simp only; omega) (by simp only; omega) (fun j p _ h=>((hSL.at_ j p h).1.placed hl).1) hpl
  simp only[hSs] at cm
  refine Wz [31,49,9,18,92,21] ?_;refine Xd (lo := [_,_,_,_]) (gs := [(0,.c (.ptr 0 0)),(6,.c (.ref 3))]) (lo' := [_,_,_,_]) (new := []) [0,1,2,3] [(0,0,.ptr 0 0),(1,0,.ref 3)] (cm) J J J J J J J J J J J J J J J J J ?_;refine Wz [66,63] ?_
  refine AWP.pre (st':=(⟨_,[(0,.o (.c (.ptr 0 0))),(2,I (els w.Scores).length),(3,.o (.c (.ref 5))),(4,.o (.c (.ref 6))),(5,I (((els w.Scores).length+k:Nat):Int)),(6,.o (.c (.ptr 7 0))),(7,I (metI bs b b.Owner w.Scores.length)),(56,B (decide (metI bs b b.Owner w.Scores.length<0)))],[.box [.ref 1,jn w.Tick,jn w.Seed,.ref 2,.ref 3],.row 1 (els w.Level.Rows),.row 1 (els ss),.row 9 (els bs),.gh 0 (.c (.ptr 0 0)),.row 9 (els (w.Bodies.take w.Scores.length)),.row 1 (els gl),.box ((Enc.e b).map (V1.rd []))]⟩:St)) ?_ (Ux [0,1,2,3,4,5,6,7])
  cases hm:metF bs b b.Owner w.Scores.length with
  |none =>
   obtain⟨mi,hmi⟩:∃ mi:Int,metI bs b b.Owner w.Scores.length=mi:=⟨_,rfl⟩
   rw[hmi]
   rw[met_no hm] at hmi
   have f2:decide (mi<0)=true:=Gqb (by omega)
   rw[f2]
   obtain⟨n1,_,n3⟩:=sh_miss hb hm hs (lf:=shL w.Scores.length (w.Bodies.drop w.Scores.length) (w.Bodies,w.Scores) k) rfl
   refine Wz [82,168,145,147,0,130] ?_
   refine⟨_,(by omega),(fun (k:Nat) (bs:List TBody) (ss:List Int) (gl:List Bool)=>(⟨_,[(0,.o (.c (.ptr 0 0))),(2,I (els w.Scores).length),(3,.o (.c (.ref 5))),(4,.o (.c (.ref 6))),(5,I (((els w.Scores).length+k:Nat):Int))],[.box [.ref 1,jn w.Tick,jn w.Seed,.ref 2,.ref 3],.row 1 (els w.Level.Rows),.row 1 (els ss),.row 9 (els bs),.gh 0 (.c (.ptr 0 0)),.row 9 (els (w.Bodies.take w.Scores.length)),.row 1 (els gl)]⟩:St)) (k+1) (bs) (ss) (gl),⟨k+1,bs,ss,gl,J,⟨by omega,n1,gl_same hgl hg2 (f1_step n3)⟩,J⟩,Up [0,1,2,3,4,5,6] J (by kernel_rfl) (.c J (.c J (.c J (.c J (.cons (Xs (by omega)) (.nil))))))⟩
  | some j =>
   rw[met_I hm]
   have f2:decide ((j:Int)<0)=false:=Gqa (by omega)
   obtain⟨hj,hc⟩:=metF_lt hm
   obtain⟨p,hp,hpl,_,_⟩:=metC_life hc
   have hpB:=(hSL.at_ j p hp).1.f
   have hjl:=Yn hp
   obtain⟨n1,_,n3⟩:=sh_hit hb hK hm hp hs (lf:=shL w.Scores.length (w.Bodies.drop w.Scores.length) (w.Bodies,w.Scores) k) rfl
   have ng:=gl_set (k:=k) (g:=fun i=>decide (i<k+1)&&shF w.Scores.length (w.Bodies.drop w.Scores.length) (w.Bodies,w.Scores) i) hgl hg2 (by simp only[n3,Bool.and_true,decide_eq_true_eq]; exact Nat.lt_succ_self k) (fun i hi=>f1_ne hi)
   have heg:=at_gl hgk
   refine Wz [166,25,17,68,112,222,50,0,68,61] ?_;refine AL.weak (st':=(⟨_,[(0,.o (.c (.ptr 0 0))),(2,I (els w.Scores).length),(3,.o (.c (.ref 5))),(4,.o (.c (.ref 6))),(5,I (((els w.Scores).length+k:Nat):Int)),(6,.o (.c (.ptr 7 0))),(7,I (j:Int)),(63,.o (.c (.ref 3))),(64,I (j:Int)),(66,.o (.c (.el 3 9 j 7)))],[.box [.ref 1,jn w.Tick,jn w.Seed,.ref 2,.ref 3],.row 1 (els w.Level.Rows),.row 1 (els ss),.row 9 (els bs),.gh 0 (.c (.ptr 0 0)),.row 9 (els (w.Bodies.take w.Scores.length)),.row 1 (els (gl.set (w.Scores.length+k) true)),.box ((Enc.e b).map (V1.rd []))]⟩:St)) (Up [0,1,2,3,4,5,6,7] J ((by exact rw6g st_gl)) (.c J (.c J (.c J (.c J (.c J (.c J (.c J (.c J (.c J (.c J (.nil)))))))))))) ?_
   clear heg
   have he:=Yf hp
   refine Wz [141,51,68,61,112,222,50,0] ?_;refine AL.weak (st':=(⟨_,[(0,.o (.c (.ptr 0 0))),(2,I (els w.Scores).length),(3,.o (.c (.ref 5))),(4,.o (.c (.ref 6))),(5,I (((els w.Scores).length+k:Nat):Int)),(6,.o (.c (.ptr 7 0))),(7,I (j:Int)),(74,.o (.c (.ref 3))),(75,I (j:Int))],[.box [.ref 1,jn w.Tick,jn w.Seed,.ref 2,.ref 3],.row 1 (els w.Level.Rows),.row 1 (els ss),.row 9 (els (bs.set j (lifeM p))),.gh 0 (.c (.ptr 0 0)),.row 9 (els (w.Bodies.take w.Scores.length)),.row 1 (els (gl.set (w.Scores.length+k) true)),.box ((Enc.e b).map (V1.rd []))]⟩:St)) (Up [0,1,2,3,4,5,6,7] J ((by exact rwBo (st_el0 J))) (.c J (.c J (.c J (.c J (.c J (.c J (.c J (.c J (.c J (.nil))))))))))) ?_
   clear he
   have he:(els (bs.set j (lifeM p)))[(j:Int).toNat]? = some (Enc.e (lifeM p)):=Yf (by rw[Gq9 hjl])
   have hls2:(els (bs.set j (lifeM p))).length=bs.length:=by rw[Yc,Gqs]
   by_cases hz:p.Life-1=0
   case neg =>
    have f3:decide (p.Life-1=0)=false:=Gqa hz
    rw[hit_alive hz,if_neg hz] at n1
    refine Wz [68,61,141,12,53] ?_
    refine⟨_,(by omega),(fun (k:Nat) (bs:List TBody) (ss:List Int) (gl:List Bool)=>(⟨_,[(0,.o (.c (.ptr 0 0))),(2,I (els w.Scores).length),(3,.o (.c (.ref 5))),(4,.o (.c (.ref 6))),(5,I (((els w.Scores).length+k:Nat):Int))],[.box [.ref 1,jn w.Tick,jn w.Seed,.ref 2,.ref 3],.row 1 (els w.Level.Rows),.row 1 (els ss),.row 9 (els bs),.gh 0 (.c (.ptr 0 0)),.row 9 (els (w.Bodies.take w.Scores.length)),.row 1 (els gl)]⟩:St)) (k+1) (bs.set j (lifeM p)) (ss) (gl.set (w.Scores.length+k) true),⟨k+1,bs.set j (lifeM p),ss,gl.set (w.Scores.length+k) true,J,⟨by omega,n1,ng⟩,J⟩,Up [0,1,2,3,4,5,6] J (by kernel_rfl) (.c J (.c J (.c J (.c J (.cons (Xs (by omega)) (.nil))))))⟩
   have f3:decide (p.Life-1=0)=true:=Gqb hz
   rw[hit_down hz,if_pos hz] at n1
   have ho:=hB.o
   obtain⟨q,hq⟩:∃ q:Nat,b.Owner=q:=⟨b.Owner.toNat,by omega⟩
   obtain⟨s,hs1⟩:=Kk (xs:=ss) (i:=q) (by omega)
   have cp:=S_l02Point ⟨w.Level,w.Tick,w.Seed,ss,bs.set j (lifeM p)⟩ q s hs1 (hSc s (Gqo hs1))
   simp only[←hq] at cp
   rw[hq,Int.toNat_natCast] at n1
   refine Wz [68,61,141,12,11,18,21] ?_;refine Xd (lo := [_,_,_,_]) (gs := [(0,.c (.ptr 0 0)),(5,.c (.ref 3))]) (lo' := [_,_,_,_]) (new := []) [0,1,2,3] [(0,0,.ptr 0 0),(1,0,.ref 3)] (cp) J J J J J J J J J J J J J J J J J ?_;refine Wz [222,50,0,68,61,112,222,50,0] ?_;refine AL.weak (st':=(⟨_,[(0,.o (.c (.ptr 0 0))),(2,I (els w.Scores).length),(3,.o (.c (.ref 5))),(4,.o (.c (.ref 6))),(5,I (((els w.Scores).length+k:Nat):Int)),(6,.o (.c (.ptr 7 0))),(7,I (j:Int)),(94,.o (.c (.ref 3))),(95,I (j:Int))],[.box [.ref 1,jn w.Tick,jn w.Seed,.ref 2,.ref 3],.row 1 (els w.Level.Rows),.row 1 (els (addM ss q)),.row 9 (els (bs.set j (stopX p))),.gh 0 (.c (.ptr 0 0)),.row 9 (els (w.Bodies.take w.Scores.length)),.row 1 (els (gl.set (w.Scores.length+k) true)),.box ((Enc.e b).map (V1.rd []))]⟩:St)) (Up [0,1,2,3,4,5,6,7] J ((by exact rwBo (st_el J))) (.c J (.c J (.c J (.c J (.c J (.c J (.c J (.c J (.c J (.nil))))))))))) ?_
   clear he
   have he:(els (bs.set j (stopX p)))[(j:Int).toNat]? = some (Enc.e (stopX p)):=Yf (by rw[Gq9 hjl])
   have hls3:(els (bs.set j (stopX p))).length=bs.length:=by rw[Yc,Gqs]
   have hls4:(els (bs.set j (stopY p))).length=bs.length:=by rw[Yc,Gqs]
   refine Wz [68,61,112,6,23,0,50,0] ?_;refine AL.weak (st':=(⟨_,[(0,.o (.c (.ptr 0 0))),(2,I (els w.Scores).length),(3,.o (.c (.ref 5))),(4,.o (.c (.ref 6))),(5,I (((els w.Scores).length+k:Nat):Int)),(6,.o (.c (.ptr 7 0))),(7,I (j:Int)),(101,.o (.c (.ref 3))),(102,I (j:Int))],[.box [.ref 1,jn w.Tick,jn w.Seed,.ref 2,.ref 3],.row 1 (els w.Level.Rows),.row 1 (els (addM ss q)),.row 9 (els (bs.set j (stopY p))),.gh 0 (.c (.ptr 0 0)),.row 9 (els (w.Bodies.take w.Scores.length)),.row 1 (els (gl.set (w.Scores.length+k) true)),.box ((Enc.e b).map (V1.rd []))]⟩:St)) (Up [0,1,2,3,4,5,6,7] J ((by exact rwBo (st_el J))) (.c J (.c J (.c J (.c J (.c J (.c J (.c J (.c J (.c J (.nil))))))))))) ?_
   clear he
   have he:(els (bs.set j (stopY p)))[(j:Int).toNat]? = some (Enc.e (stopY p)):=Yf (by rw[Gq9 hjl])
   refine Wz [68,61,112,121] ?_
   refine⟨_,(by omega),(fun (k:Nat) (bs:List TBody) (ss:List Int) (gl:List Bool)=>(⟨_,[(0,.o (.c (.ptr 0 0))),(2,I (els w.Scores).length),(3,.o (.c (.ref 5))),(4,.o (.c (.ref 6))),(5,I (((els w.Scores).length+k:Nat):Int))],[.box [.ref 1,jn w.Tick,jn w.Seed,.ref 2,.ref 3],.row 1 (els w.Level.Rows),.row 1 (els ss),.row 9 (els bs),.gh 0 (.c (.ptr 0 0)),.row 9 (els (w.Bodies.take w.Scores.length)),.row 1 (els gl)]⟩:St)) (k+1) (bs.set j (downM p)) (addM ss q) (gl.set (w.Scores.length+k) true),⟨k+1,bs.set j (downM p),addM ss q,gl.set (w.Scores.length+k) true,J,⟨by omega,n1,ng⟩,J⟩,Up [0,1,2,3,4,5,6] J ((by exact rwBo (st_el J))) (.c J (.c J (.c J (.c J (.cons (Xs (by omega)) (.nil))))))⟩
 have hb0:decide ((((els w.Scores).length+k:Nat):Int)<(els bs).length)=false:=Gqa (by omega)
 have hk:k=(w.Bodies.drop w.Scores.length).length:=by omega
 have hg3:∀ i,i<(w.Bodies.drop w.Scores.length).length→w.Scores.length+i<w.Bodies.length→gl[w.Scores.length+i]? = some (shF w.Scores.length (w.Bodies.drop w.Scores.length) (w.Bodies,w.Scores) i || (decide (i<0)&&itF w.Scores.length (w.Bodies.drop w.Scores.length) bs i)):=fun i h1 h2=>by
  rw[hg2 i h1 h2,Gqb (by omega:i<k)]; simp
 rw[hk] at hs
 clear hg2
 refine Wz [13,50,33,15,102,38,75,216] ?_;refine Xj (fun m__ st=>∃ (i:Nat) (s2:List Int) (g2:List Bool),(w.Bodies.drop w.Scores.length).length-i=m__∧(i≤(w.Bodies.drop w.Scores.length).length∧s2=itS w.Scores.length bs (w.Bodies.drop w.Scores.length) ss i∧(g2.length=w.Bodies.length∧∀ j,j<(w.Bodies.drop w.Scores.length).length→w.Scores.length+j<w.Bodies.length→g2[w.Scores.length+j]? = some (shF w.Scores.length (w.Bodies.drop w.Scores.length) (w.Bodies,w.Scores) j || (decide (j<i)&&itF w.Scores.length (w.Bodies.drop w.Scores.length) bs j))))∧st=(⟨_,[(0,.o (.c (.ptr 0 0))),(2,I (els w.Scores).length),(3,.o (.c (.ref 5))),(4,.o (.c (.ref 6))),(8,I (((els w.Scores).length+i:Nat):Int))],[.box [.ref 1,jn w.Tick,jn w.Seed,.ref 2,.ref 3],.row 1 (els w.Level.Rows),.row 1 (els s2),.row 9 (els bs),.gh 0 (.c (.ptr 0 0)),.row 9 (els (w.Bodies.take w.Scores.length)),.row 1 (els g2)]⟩:St)) _ ⟨(fun (i:Nat) (s2:List Int) (g2:List Bool)=>(⟨_,[(0,.o (.c (.ptr 0 0))),(2,I (els w.Scores).length),(3,.o (.c (.ref 5))),(4,.o (.c (.ref 6))),(8,I (((els w.Scores).length+i:Nat):Int))],[.box [.ref 1,jn w.Tick,jn w.Seed,.ref 2,.ref 3],.row 1 (els w.Level.Rows),.row 1 (els s2),.row 9 (els bs),.gh 0 (.c (.ptr 0 0)),.row 9 (els (w.Bodies.take w.Scores.length)),.row 1 (els g2)]⟩:St)) (0) (ss) (gl),⟨0,ss,gl,J,⟨by omega,J,hgl,hg3⟩,J⟩,Up [0,1,2,3,4,5,6] J (by kernel_rfl) (.c J (.c J (.c J (.c J (.cons (Xs (by omega)) (.nil))))))⟩ ?_
 rintro m_B _ ⟨i,s2,g2,hk_B,hp_B,rfl⟩
 obtain⟨hi,hs2,hgl2,hgi⟩:=hp_B
 have hSs2:s2.length=w.Scores.length:=by rw[hs2]; exact (itS_ok hSs hSc).1
 have hSc2:∀ x∈s2,0≤x∧x≤1000000:=by rw[hs2]; exact (itS_ok hSs hSc).2
 have hlgl2:=Yc g2
 clear hb0 hgl hg3
 by_cases hlt:i<(w.Bodies.drop w.Scores.length).length
 ·have hb0:decide ((((els w.Scores).length+i:Nat):Int)<(els bs).length)=true:=Gqb (by omega)
  obtain⟨b,hb⟩:=Kk hlt
  have hbb:bs[w.Scores.length+i]? = some b:=by rw[hSt _ (by omega),←Gxg]; exact hb
  have hB:=(hSL.at_ _ b hbb).1
  have hpl:=(hB.placed hl).1
  obtain⟨g0,hgk⟩:=Kk (xs:=g2) (i:=w.Scores.length+i) (by omega)
  have heg:=at_gl hgk
  have he:=at_el hbb
  by_cases hK:b.Kind=2
  case neg =>
   have f1:decide (b.Kind≠2)=true:=Gqb hK
   obtain⟨n1,_,n3⟩:=it_skip hb hK hs2 (lf:=itL w.Scores.length bs (w.Bodies.drop w.Scores.length) i) rfl
   refine Wz [13,50,33,59,8,75,50,0,68,61,141,49,11,168,145,147,0,130] ?_
   refine⟨_,(by omega),(fun (i:Nat) (s2:List Int) (g2:List Bool)=>(⟨_,[(0,.o (.c (.ptr 0 0))),(2,I (els w.Scores).length),(3,.o (.c (.ref 5))),(4,.o (.c (.ref 6))),(8,I (((els w.Scores).length+i:Nat):Int))],[.box [.ref 1,jn w.Tick,jn w.Seed,.ref 2,.ref 3],.row 1 (els w.Level.Rows),.row 1 (els s2),.row 9 (els bs),.gh 0 (.c (.ptr 0 0)),.row 9 (els (w.Bodies.take w.Scores.length)),.row 1 (els g2)]⟩:St)) (i+1) (s2) (g2),⟨i+1,s2,g2,J,⟨by omega,n1,gl_same hgl2 hgi (f2_step (by rw[itF_at hb]; exact n3))⟩,J⟩,Up [0,1,2,3,4,5,6] J (by kernel_rfl) (.c J (.c J (.c J (.c J (.cons (Xs (by omega)) (.nil))))))⟩
  have f1:decide (b.Kind≠2)=false:=Gqa (fun q=>q hK)
  have cm:=S_l02Meets ⟨w.Level,w.Tick,w.Seed,s2,bs⟩ b (-1) (by simp only; omega) (by simp only; omega) (fun j p _ h=>((hSL.at_ j p h).1.placed hl).1) hpl
  simp only[hSs2] at cm
  refine Wz [13,50,33,59,8,75,50,0,68,61,141,49,9,17,50,0,68,260] ?_;refine Xd (lo := [_,_,_,_]) (gs := [(0,.c (.ptr 0 0)),(6,.c (.ref 3))]) (lo' := [_,_,_,_]) (new := []) [0,1,2,3] [(0,0,.ptr 0 0),(1,0,.ref 3)] (cm) J J J J J J J J J J J J J J J J J ?_;refine Wz [83,235,6] ?_
  refine AWP.pre (st':=(⟨_,[(0,.o (.c (.ptr 0 0))),(2,I (els w.Scores).length),(3,.o (.c (.ref 5))),(4,.o (.c (.ref 6))),(8,I (((els w.Scores).length+i:Nat):Int)),(9,I (metI bs b (-1) w.Scores.length)),(134,B (decide (metI bs b (-1) w.Scores.length≥0)))],[.box [.ref 1,jn w.Tick,jn w.Seed,.ref 2,.ref 3],.row 1 (els w.Level.Rows),.row 1 (els s2),.row 9 (els bs),.gh 0 (.c (.ptr 0 0)),.row 9 (els (w.Bodies.take w.Scores.length)),.row 1 (els g2)]⟩:St)) ?_ (Ux [0,1,2,3,4,5,6])
  cases hm:metF bs b (-1) w.Scores.length with
  |none =>
   obtain⟨mi,hmi⟩:∃ mi:Int,metI bs b (-1) w.Scores.length=mi:=⟨_,rfl⟩
   rw[hmi]
   rw[met_no hm] at hmi
   have f2:decide (mi≥0)=false:=Gqa (by omega)
   rw[f2]
   obtain⟨n1,_,n3⟩:=it_miss hb hm hs2 (lf:=itL w.Scores.length bs (w.Bodies.drop w.Scores.length) i) rfl
   refine Wz [166,134,194] ?_
   refine⟨_,(by omega),(fun (i:Nat) (s2:List Int) (g2:List Bool)=>(⟨_,[(0,.o (.c (.ptr 0 0))),(2,I (els w.Scores).length),(3,.o (.c (.ref 5))),(4,.o (.c (.ref 6))),(8,I (((els w.Scores).length+i:Nat):Int))],[.box [.ref 1,jn w.Tick,jn w.Seed,.ref 2,.ref 3],.row 1 (els w.Level.Rows),.row 1 (els s2),.row 9 (els bs),.gh 0 (.c (.ptr 0 0)),.row 9 (els (w.Bodies.take w.Scores.length)),.row 1 (els g2)]⟩:St)) (i+1) (s2) (g2),⟨i+1,s2,g2,J,⟨by omega,n1,gl_same hgl2 hgi (f2_step (by rw[itF_at hb]; exact n3))⟩,J⟩,Up [0,1,2,3,4,5,6] J (by kernel_rfl) (.c J (.c J (.c J (.c J (.cons (Xs (by omega)) (.nil))))))⟩
  |some j =>
   rw[met_I hm]
   have f2:decide ((j:Int)≥0)=true:=Gqb (by omega)
   obtain⟨hj,hc⟩:=metF_lt hm
   obtain⟨s,hs1⟩:=Kk (xs:=s2) (i:=j) (by omega)
   have cp:=S_l02Point ⟨w.Level,w.Tick,w.Seed,s2,bs⟩ j s hs1 (hSc2 s (Gqo hs1))
   simp only at cp
   obtain⟨n1,_,n3⟩:=it_hit hb hK hm hs2 (lf:=itL w.Scores.length bs (w.Bodies.drop w.Scores.length) i) rfl
   have ng:=gl_set (k:=i) (g:=fun j=>shF w.Scores.length (w.Bodies.drop w.Scores.length) (w.Bodies,w.Scores) j || (decide (j<i+1)&&itF w.Scores.length (w.Bodies.drop w.Scores.length) bs j)) hgl2 hgi (by simp only[itF_at hb,n3,Bool.and_true]; rw[Gqb (Nat.lt_succ_self i),Bool.or_true]) (fun j hj=>f2_ne hj)
   refine Wz [82,17,68,112,6,23,43] ?_;refine Xd (lo := [_,_,_,_]) (gs := [(0,.c (.ptr 0 0)),(5,.c (.ref 3))]) (lo' := [_,_,_,_]) (new := []) [0,1,2,3] [(0,0,.ptr 0 0),(1,0,.ref 3)] (cp) J J J J J J J J J J J J J J J J J ?_;refine Wz [121] ?_
   refine⟨_,(by omega),(fun (i:Nat) (s2:List Int) (g2:List Bool)=>(⟨_,[(0,.o (.c (.ptr 0 0))),(2,I (els w.Scores).length),(3,.o (.c (.ref 5))),(4,.o (.c (.ref 6))),(8,I (((els w.Scores).length+i:Nat):Int))],[.box [.ref 1,jn w.Tick,jn w.Seed,.ref 2,.ref 3],.row 1 (els w.Level.Rows),.row 1 (els s2),.row 9 (els bs),.gh 0 (.c (.ptr 0 0)),.row 9 (els (w.Bodies.take w.Scores.length)),.row 1 (els g2)]⟩:St)) (i+1) (addM s2 j) (g2.set (w.Scores.length+i) true),⟨i+1,addM s2 j,g2.set (w.Scores.length+i) true,J,⟨by omega,n1,ng⟩,J⟩,Up [0,1,2,3,4,5,6] J ((by exact rw6g st_gl)) (.c J (.c J (.c J (.c J (.cons (Xs (by omega)) (.nil))))))⟩
 have hb0:decide ((((els w.Scores).length+i:Nat):Int)<(els bs).length)=false:=Gqa (by omega)
 have hi2:i=(w.Bodies.drop w.Scores.length).length:=by omega
 rw[hi2] at hs2
 have hg4:∀ j,j<(w.Bodies.drop w.Scores.length).length→g2[w.Scores.length+j]? = some (shF w.Scores.length (w.Bodies.drop w.Scores.length) (w.Bodies,w.Scores) j || itF w.Scores.length (w.Bodies.drop w.Scores.length) bs j):=fun j h1=>by
  rw[hgi j h1 (by omega),Gqb (by omega:j<i)]; simp
 have hlk:(els (w.Bodies.take w.Scores.length)).length=w.Scores.length:=by rw[Yc,Gq3]; omega
 have hcl:((els bs).take ((els w.Scores).length:Int).toNat).length=(els (w.Bodies.take w.Scores.length)).length:=by rw[hlk,Gq3,Int.toNat_natCast]; omega
 refine Wz [13,50,33,15,102,38,17,50,0] ?_;refine zx (q_partr0 J J J J J J (by omega)) J ?_;refine M_copy J J J J J J J J J J (fun e he=>els_pl9 _ e (Gxk he)) (fun e he=>els_k9 _ e (Gxk he)) hcl (by omega) ?_;refine Wz [6,75,216] ?_;refine Xj (fun m__ st=>∃ (j:Nat) (kr:List TBody),(w.Bodies.drop w.Scores.length).length-j=m__∧(j≤(w.Bodies.drop w.Scores.length).length∧kr=keepR w.Scores.length (w.Bodies.drop w.Scores.length) (w.Bodies,w.Scores) bs j)∧st=(⟨_,[(0,.o (.c (.ptr 0 0))),(2,I (els w.Scores).length),(3,.o (.c (.ref 5))),(4,.o (.c (.ref 6))),(10,I (((els w.Scores).length+j:Nat):Int))],[.box [.ref 1,jn w.Tick,jn w.Seed,.ref 2,.ref 3],.row 1 (els w.Level.Rows),.row 1 (els s2),.row 9 (els bs),.gh 0 (.c (.ptr 0 0)),.row 9 (els (bs.take w.Scores.length++kr)),.row 1 (els g2)]⟩:St)) _ ⟨(fun (j:Nat) (kr:List TBody)=>(⟨_,[(0,.o (.c (.ptr 0 0))),(2,I (els w.Scores).length),(3,.o (.c (.ref 5))),(4,.o (.c (.ref 6))),(10,I (((els w.Scores).length+j:Nat):Int))],[.box [.ref 1,jn w.Tick,jn w.Seed,.ref 2,.ref 3],.row 1 (els w.Level.Rows),.row 1 (els s2),.row 9 (els bs),.gh 0 (.c (.ptr 0 0)),.row 9 (els (bs.take w.Scores.length++kr)),.row 1 (els g2)]⟩:St)) (0) ([]),⟨0,[],J,⟨by omega,J⟩,J⟩,Up [0,1,2,3,4,5,6] J ((by exact rw6 (by rw[Gqw,els_takeE2,hls,Int.toNat_natCast]))) (.c J (.c J (.c J (.c J (.cons (Xs (by omega)) (.nil))))))⟩ ?_
 rintro m_C _ ⟨j,kr,hk_C,hp_C,rfl⟩
 obtain⟨hj,hkr⟩:=hp_C
 have hlkr:(els (bs.take w.Scores.length++kr)).length=w.Scores.length+kr.length:=by rw[Yc,Gqv,Gq3]; omega
 have hkl:kr.length≤j:=by rw[hkr]; exact keepR_le j
 clear hb0
 by_cases hlt:j<(w.Bodies.drop w.Scores.length).length
 ·have hb0:decide ((((els w.Scores).length+j:Nat):Int)<(els bs).length)=true:=Gqb (by omega)
  obtain⟨b,hb⟩:=Kk hlt
  have hbb:bs[w.Scores.length+j]? = some b:=by rw[hSt _ (by omega),←Gxg]; exact hb
  have hgj:=hg4 j hlt
  have hnx:keepR w.Scores.length (w.Bodies.drop w.Scores.length) (w.Bodies,w.Scores) bs (j+1)=if (shF w.Scores.length (w.Bodies.drop w.Scores.length) (w.Bodies,w.Scores) j || itF w.Scores.length (w.Bodies.drop w.Scores.length) bs j)=true then kr else kr ++ [b]:=by
   rw[keepR,hb,hkr,itF,hb]
  have he:=at_el hbb
  cases hf:(shF w.Scores.length (w.Bodies.drop w.Scores.length) (w.Bodies,w.Scores) j || itF w.Scores.length (w.Bodies.drop w.Scores.length) bs j) with
  |true =>
   rw[hf] at hgj hnx
   have heg:=at_gl hgj
   refine Wz [13,50,33,59,8,17,68,141,2,53] ?_
   refine⟨_,(by omega),(fun (j:Nat) (kr:List TBody)=>(⟨_,[(0,.o (.c (.ptr 0 0))),(2,I (els w.Scores).length),(3,.o (.c (.ref 5))),(4,.o (.c (.ref 6))),(10,I (((els w.Scores).length+j:Nat):Int))],[.box [.ref 1,jn w.Tick,jn w.Seed,.ref 2,.ref 3],.row 1 (els w.Level.Rows),.row 1 (els s2),.row 9 (els bs),.gh 0 (.c (.ptr 0 0)),.row 9 (els (bs.take w.Scores.length++kr)),.row 1 (els g2)]⟩:St)) (j+1) (kr),⟨j+1,kr,J,⟨by omega,hnx.symm⟩,J⟩,Up [0,1,2,3,4,5,6] J (by kernel_rfl) (.c J (.c J (.c J (.c J (.cons (Xs (by omega)) (.nil))))))⟩
  |false =>
   rw[hf] at hgj hnx
   have heg:=at_gl hgj
   refine Wz [13,50,33,59,8,17,68,141,2,11,23,43,50,0,68,260,125,135,99] ?_
   refine⟨_,(by omega),(fun (j:Nat) (kr:List TBody)=>(⟨_,[(0,.o (.c (.ptr 0 0))),(2,I (els w.Scores).length),(3,.o (.c (.ref 5))),(4,.o (.c (.ref 6))),(10,I (((els w.Scores).length+j:Nat):Int))],[.box [.ref 1,jn w.Tick,jn w.Seed,.ref 2,.ref 3],.row 1 (els w.Level.Rows),.row 1 (els s2),.row 9 (els bs),.gh 0 (.c (.ptr 0 0)),.row 9 (els (bs.take w.Scores.length++kr)),.row 1 (els g2)]⟩:St)) (j+1) (kr ++ [b]),⟨j+1,kr ++ [b],J,⟨by omega,hnx.symm⟩,J⟩,Up [0,1,2,3,4,5,6] J ((by exact rw6 (by rw[←Gq6,Ya]; rfl))) (.c J (.c J (.c J (.c J (.cons (Xs (by omega)) (.nil))))))⟩
 have hb0:decide ((((els w.Scores).length+j:Nat):Int)<(els bs).length)=false:=Gqa (by omega)
 have hj2:j=(w.Bodies.drop w.Scores.length).length:=by omega
 rw[hj2] at hkr
 have hres:hitsR w.Scores.length w.Bodies w.Scores=(bs.take w.Scores.length++kr,s2):=by
  simp only[hitsR,←hs]
  rw[←hkr,←hs2]
 rw[hres]
 refine Wz [13,50,33,15,102,150,147,43,182,151,89,209] ?_
 exact Xo J (Ur [0,1,2,5,4] J J J)
end
section
open Go.RowKit

def itemB (x y:Int):TBody:=⟨2,0,x,y,0,0,0,0,0⟩
def isItem (x y:Int) (b:TBody):Bool:=decide (b.Kind=2∧b.X=x∧b.Y=y)
def itemAt (bs:List TBody) (x y:Int):Bool:=bs.any (isItem x y)
def spotOf (l:TLevel) (seed:Int):List Int:=(spotsM l).getD (belowR seed (spotsM l).length).toNat []
def lastM (l:TLevel) (tick seed:Int) (ss:List Int) (bs:List TBody):TWorld :=
 if tick%16≠0∨(spotsM l).length=0∨24≤bs.length then ⟨l,tick,seed,ss,bs⟩
 else if itemAt bs ((spotOf l seed).getD 0 0) ((spotOf l seed).getD 1 0)=true then ⟨l,tick,nextR seed,ss,bs⟩
 else ⟨l,tick,nextR seed,ss,bs ++ [itemB ((spotOf l seed).getD 0 0) ((spotOf l seed).getD 1 0)]⟩
noncomputable def movedM (w:TWorld) (row:List Int):List TBody:=mvM w.Level (plM w.Level row w.Bodies w.Scores.length)
noncomputable def tickM (w:TWorld) (row:List Int):TWorld :=
 lastM w.Level (w.Tick+1) (nextR w.Seed) (hitsR w.Scores.length (movedM w row) w.Scores).2 (hitsR w.Scores.length (movedM w row) w.Scores).1
noncomputable def stepW (w:TWorld) (row:List Int):TWorld:=if worldOk w=true∧w.Tick≠100000∧rowOk row w.Scores.length=true then tickM w row else w
theorem PH.of {w:TWorld} {row:List Int} (hg:Enc.gd w) (ho:worldOk w=true) (hr:rowOk row w.Scores.length=true):PH w row:=by
 obtain⟨gL,gT,gS,gSc,gB⟩:=hg
 obtain⟨hl,ht,hs,hn,hsc,hlen,hbo⟩:=Kp ho
 rw[rowOk,Gqh,decide_eq_true_eq] at hr
 refine⟨gL,gB.2,hl,hn,hlen,hbo,by omega,fun i hi => ?_⟩
 have:=Gqm.1 hr.2 i hi
 exact Yq.1 this
theorem Kf {w:TWorld} (ho:worldOk w=true):∀ x∈w.Scores,0≤x∧x≤1000000:=fun x hx=>by
 obtain⟨_,_,_,_,hsc,_,_⟩:=Kp ho
 exact Yq.1 (Gqm.1 hsc x hx)
section
variable {w:TWorld} {row:List Int}
theorem PH.pl (h:PH w row):P1 w.Level w.Scores.length w.Bodies (plM w.Level row w.Bodies w.Scores.length) w.Scores.length:=P1.all h.hl h.n4.2 h.len h.bs row _ (Gqi _)
theorem PH.mv (h:PH w row):LM w.Level w.Scores.length (movedM w row):=h.pl.lm.move
end
section
variable {l:TLevel} {n:Nat} {bs:List TBody} {ss:List Int}
theorem SI.drop {bs0:List TBody} {s:List TBody×List Int} (h:SI l n bs0 s):s.1.drop n=bs0.drop n:=by
 apply List.ext_getElem?
 intro i
 rw[Gxg,Gxg]
 exact h.tl _ (by omega)
theorem SI.shots (h:LM l n bs) (h1:ss.length=n) (h2:∀ x∈ss,0≤x∧x≤1000000):LM l n ((shS n (bs.drop n) (bs,ss) (bs.drop n).length).1.take n++shL n (bs.drop n) (bs,ss) (bs.drop n).length):=by
 have hS:=(SI.start h h1 h2).all (bs.drop n) (bs.drop n).length
 have hl:=h.len
 have hd:=hS.drop
 have h3:=shL_le (n:=n) (t:=bs.drop n) (s:=(bs,ss)) (bs.drop n).length
 have h4:(bs.drop n).length=bs.length-n:=List.length_drop
 exact hS.lm.cut (fun b hb=>by rw[hd]; exact shL_sub _ b hb) (by omega)
theorem LM.items {j:Nat} (h:LM l n bs) (hj:j≤bs.length-n):LM l n (bs.take n++itL n bs (bs.drop n) j):=by
 have hl:=h.len
 have h3:=itL_le (n:=n) (bs:=bs) (t:=bs.drop n) (j:=j)
 exact h.cut (fun b hb=>Gxk (List.mem_filter.1 hb).1) (by omega)
theorem hits_lm (h:LM l n bs) (h1:ss.length=n) (h2:∀ x∈ss,0≤x∧x≤1000000):LM l n (hitsR n bs ss).1∧(hitsR n bs ss).2.length=n∧∀ x∈(hitsR n bs ss).2,0≤x∧x≤1000000:=by
 have hS:=(SI.start h h1 h2).all (bs.drop n) (bs.drop n).length
 rw[←hits_eq h h1 h2]
 exact⟨(SI.shots h h1 h2).items (by rw[List.length_drop]; exact Gqi _),itS_ok hS.sl hS.sc⟩
end
/-! ### What fits -/
def TA (b:TBody):Prop:=(-2≤b.Timer∧b.Timer≤25)∧(-1≤b.Aim∧b.Aim≤1)
theorem body_aim {l:TLevel} {n k:Nat} {b:TBody} (h:bodyAt l n k b=true) : -1≤b.Aim∧b.Aim≤1:=by
 rw[bodyAt,Gqh] at h
 have h1:=h.1
 simp only[bodyM,Gqh] at h1
 obtain⟨_,_,_,_,_,ht⟩:=h1
 unfold tailM at ht
 split at ht
 ·simp only[Gqh,decide_eq_true_eq] at ht; omega
 ·split at ht
  ·simp only[Gqh,decide_eq_true_eq] at ht; omega
  ·simp only[decide_eq_true_eq] at ht; omega
theorem pl_aim {l:TLevel} {row:List Int} {bs:List TBody} (h:∀ b∈bs,-1≤b.Aim∧b.Aim≤1):∀ k,∀ b∈plM l row bs k,-1≤b.Aim∧b.Aim≤1
 |0,b,hb=>h b hb
 | k+1,b,hb=>by
  have ih:=pl_aim (row:=row) (l:=l) h k
  rw[plM] at hb
  split at hb
  ·exact ih b hb
  ·rename_i p hp
   have hp2:=ih p (Gqo hp)
   have hs : -1≤(steer l p (row.getD k 0)).1.Aim∧(steer l p (row.getD k 0)).1.Aim≤1:=by
    simp only[steer]
    split
    ·omega
    ·split <;> omega
   have key:∀ {c:TBody},(-1≤c.Aim∧c.Aim≤1)→b∈(plM l row bs k).set k c → -1≤b.Aim∧b.Aim≤1:=fun hc hb=>by
    rcases Gxj hb with h1 | h1
    ·exact ih b h1
    ·subst h1; exact hc
   unfold plOne at hb
   split at hb
   ·refine key ?_ hb
    split
    ·simp[fresh]
    ·exact hp2
   ·split at hb
    ·rcases Gqt.1 hb with h1 | h1
     ·exact key hs h1
     ·rw[Gxp] at h1; subst h1; simp[shotOf]
    ·exact key hs hb
theorem mv_ta {l:TLevel} {bs:List TBody} (h:∀ b∈bs,(0≤b.Timer∧b.Timer≤25)∧(-1≤b.Aim∧b.Aim≤1)):∀ b∈mvM l bs,TA b:=fun b hb=>by
 obtain⟨c,hc,hcb⟩:=List.mem_filterMap.1 hb
 have hh:=h c hc
 unfold mvOne at hcb
 split at hcb
 ·cases hcb
  exact⟨⟨by simp only[moveM]; omega,by simp only[moveM]; omega⟩,hh.2⟩
 ·split at hcb
  ·split at hcb
   ·cases hcb
   ·cases hcb
    exact⟨⟨by simp only[tick1,moveM]; omega,by simp only[tick1,moveM]; omega⟩,hh.2⟩
  ·cases hcb; exact⟨by omega,hh.2⟩
theorem sh_ta {n:Nat} {t:List TBody} {s:List TBody×List Int} (h:∀ b∈s.1,TA b):∀ j,∀ b∈(shS n t s j).1,TA b
 |0,b,hb=>h b hb
 | j+1,b,hb=>by
  have ih:=sh_ta (n:=n) (t:=t) h j
  rw[shS] at hb
  split at hb
  ·exact ih b hb
  ·unfold shOne at hb
   split at hb
   ·split at hb
    ·exact ih b hb
    ·split at hb
     ·exact ih b hb
     ·rename_i p hp
      rcases Gxj hb with h1 | h1
      ·exact ih b h1
      ·subst h1
       have h2:=ih p (Gqo hp)
       refine⟨?_,h2.2⟩
       simp only[hitB]
       split
       ·omega
       ·exact h2.1
   ·exact ih b hb
theorem keepR_sub {n:Nat} {t bs:List TBody} {s:List TBody×List Int}:∀ j,∀ b∈keepR n t s bs j,b∈t
 |0,b,hb=>by cases hb
 | j+1,b,hb=>by
  rw[keepR] at hb
  split at hb
  ·exact keepR_sub j b hb
  ·rename_i c hc
   split at hb
   ·exact keepR_sub j b hb
   ·rcases Gqt.1 hb with h | h
    ·exact keepR_sub j b h
    ·rw[Gxp] at h; subst h; exact Gqo hc
theorem hits_ta {n:Nat} {bs:List TBody} {ss:List Int} (h:∀ b∈bs,TA b):∀ b∈(hitsR n bs ss).1,TA b:=fun b hb=>by
 rcases Gqt.1 hb with h1 | h1
 ·exact sh_ta (s:=(bs,ss)) h _ b (Gxk h1)
 ·exact h b (List.mem_of_mem_drop (keepR_sub _ b h1))
theorem body_gd {l:TLevel} {n:Nat} {b:TBody} (hl:levelOk l=true) (hn:n≤4) (h:BM l n b) (ht:TA b):Enc.gd b:=by
 have hp:=(h.placed hl).1
 obtain⟨hk,ho,_,hvx,hvy,hf⟩:=h
 obtain⟨_,hx,hy⟩:=hp
 obtain⟨h1,h2⟩:=ht
 refine⟨⟨?_,?_⟩,⟨?_,?_⟩,⟨?_,?_⟩,⟨?_,?_⟩,⟨?_,?_⟩,⟨?_,?_⟩,⟨?_,?_⟩,⟨?_,?_⟩,⟨?_,?_⟩⟩ <;> omega
theorem spot_rng {l:TLevel} (hl:levelOk l=true) {sp:List Int} (h:sp∈spotsM l):∃ x y:Int,sp = [x,y]∧(0≤x∧x≤400)∧(0≤y∧y≤400):=by
 obtain⟨l3,l12,w,w4,w20,hw⟩:=Yr hl
 obtain⟨r,c,row,h1,h2,h3,_,h5⟩:=rowSp_at h
 obtain⟨h6,h7⟩:=Gql.1 h2
 have h8:=hw r h6
 rw[h7] at h8
 exact⟨_,_,h5,by omega,by omega⟩
theorem spotOf_mem {l:TLevel} {seed:Int} (h:(spotsM l).length≠0):∃ (i:Nat),belowR seed (spotsM l).length=i∧i<(spotsM l).length∧(spotsM l)[i]? = some (spotOf l seed):=by
 have h1:=Y2 seed
 have h2:0≤belowR seed (spotsM l).length∧belowR seed (spotsM l).length<(spotsM l).length:=by
  unfold belowR
  exact⟨Int.emod_nonneg _ (by omega),Int.emod_lt_of_pos _ (by omega)⟩
 obtain⟨i,hi⟩:∃ i:Nat,belowR seed (spotsM l).length=i:=⟨_,(Int.toNat_of_nonneg h2.1).symm⟩
 refine⟨i,hi,by omega,?_⟩
 rw[spotOf,hi,Int.toNat_natCast,Gqe,Gqf (by omega)]
 rfl
theorem item_gd {x y:Int} (hx:0≤x∧x≤400) (hy:0≤y∧y≤400):Enc.gd (itemB x y):=by
 refine⟨⟨?_,?_⟩,⟨?_,?_⟩,⟨?_,?_⟩,⟨?_,?_⟩,⟨?_,?_⟩,⟨?_,?_⟩,⟨?_,?_⟩,⟨?_,?_⟩,⟨?_,?_⟩⟩ <;> simp only[itemB] <;> omega
structure Fits (w:TWorld) (n:Nat):Prop where
 gd:Enc.gd w
 sl:w.Scores.length=n
 bl:w.Bodies.length≤24
theorem last_fits {l:TLevel} {tick seed:Int} {ss:List Int} {bs:List TBody} {n:Nat} (hl:levelOk l=true) (gl:Enc.gd l) (ht:0≤tick∧tick≤100000) (hs:0≤seed∧seed≤65535) (h1:ss.length=n) (hn:n≤4) (h2:∀ x∈ss,0≤x∧x≤1000000) (h3:bs.length≤24) (h4:∀ b∈bs,Enc.gd b):Fits (lastM l tick seed ss bs) n:=by
 have g2:Enc.gd ss:=⟨by omega,fun x hx=>by have:=h2 x hx; exact⟨by omega,by omega⟩⟩
 have g1:Enc.gd bs:=⟨by omega,h4⟩
 have gt:Enc.gd tick:=⟨by omega,by omega⟩
 have gs:Enc.gd seed:=⟨by omega,by omega⟩
 have hnx:=Y2 seed
 have gn:Enc.gd (nextR seed):=⟨by omega,by omega⟩
 unfold lastM
 split
 ·exact⟨⟨gl,gt,gs,g2,g1⟩,h1,h3⟩
 ·rename_i hc
  split
  ·exact⟨⟨gl,gt,gn,g2,g1⟩,h1,h3⟩
  ·obtain⟨i,_,_,hi⟩:=spotOf_mem (l:=l) (seed:=seed) (fun e=>hc (.inr (.inl e)))
   obtain⟨x,y,he,hx,hy⟩:=spot_rng hl (Gqo hi)
   have hb:bs.length<24:=by
    rcases Gqp bs.length 24 with h | h
    ·exact h
    ·exact absurd (.inr (.inr h)) hc
   have hli:(bs ++ [itemB ((spotOf l seed).getD 0 0) ((spotOf l seed).getD 1 0)]).length≤24:=by rw[Gqv]; simp; omega
   refine⟨⟨gl,gt,gn,g2,Nat.le_trans hli (by decide),fun b hb2 => ?_⟩,h1,hli⟩
   rcases Gqt.1 hb2 with h5 | h5
   ·exact h4 b h5
   ·rw[Gxp] at h5
    subst h5
    rw[he]
    exact item_gd hx hy
theorem tick_fits {w:TWorld} {row:List Int} (hg:Enc.gd w) (ho:worldOk w=true) (ht:w.Tick≠100000) (hr:rowOk row w.Scores.length=true):Fits (tickM w row) w.Scores.length:=by
 have hP:=PH.of hg ho hr
 obtain⟨hl,htk,hs,hn,hsc,hlen,hbo⟩:=Kp ho
 have htk:=Yq.1 htk
 have hM:=hits_lm hP.mv rfl (Kf ho)
 have hta:∀ b∈movedM w row,TA b:=mv_ta fun b hb=>⟨hP.pl.tm b hb,pl_aim (fun c hc=>by
  obtain⟨j,hj,rfl⟩:=List.mem_iff_getElem.1 hc
  exact body_aim (hbo j hj)) _ b hb⟩
 have hnx:=Y2 w.Seed
 refine last_fits hl hg.1 ⟨by omega,by omega⟩ hnx hM.2.1 hn.2 hM.2.2 hM.1.len.2 fun b hb => ?_
 obtain⟨j,hj⟩:=List.getElem?_of_mem hb
 exact body_gd hl hn.2 (hM.1.at_ j b hj).1 (hits_ta hta b hb)
theorem stepW_level (w:TWorld) (row:List Int):(stepW w row).Level=w.Level:=by
 unfold stepW
 split
 ·unfold tickM lastM
  split
  ·rfl
  ·split <;> rfl
 ·rfl
theorem stepW_fits {w:TWorld} {row:List Int} (hg:Enc.gd w):Enc.gd (stepW w row)∧(stepW w row).Scores.length=w.Scores.length∧(stepW w row).Bodies.length≤max w.Bodies.length 24:=by
 unfold stepW
 split
 ·rename_i h
  have:=tick_fits hg h.1 h.2.1 h.2.2
  exact⟨this.gd,this.sl,by have:=this.bl; omega⟩
 ·exact⟨hg,rfl,by omega⟩
end
section
open Go.RowKit

instance:PlainE TBody:=⟨fun x t h=>els_pl9 [x] (Enc.e x) (by simp[els]) t h⟩
theorem I_copyWorld (w:TWorld) (hg:Enc.gd w) (h1:w.Level.Rows.length≤1048576) (h2:w.Scores.length≤1048576) (h3:w.Bodies.length≤1048576):Con Tryz.prog 161 [] [ag w] [.row 1 (els w.Level.Rows),.row 1 (els w.Scores),.row 9 (els w.Bodies)] (.o (.ag [.ref 0,jn w.Tick,jn w.Seed,.ref 1,.ref 2])):=by
 have hls:=Yc w.Scores
 have hlb:=Yc w.Bodies
 refine Con.of Tryz.func161 J Tryz.ntmps161 J (fun E => ?_)
 refine Wz [98,60,192] ?_;refine M1 (Zl J J (I_copyLevel w.Level hg.1 h1) J J J) J J ?_;refine Wz [158,20,29] ?_;refine M_appnil J J J J J J J J (Yd _) (els_k _) (by omega) (by omega) ?_;refine Wz [65] ?_;refine M_appnil J J J J J J J J (Yd _) (els_k _) (by omega) (by omega) ?_;refine Wz [48,30,20,94] ?_
 exact Xm J J J J (Ur [2,3,4] J J J)
theorem S_copyWorld (w:TWorld) (hg:Enc.gd w) (h1:w.Level.Rows.length≤1048576) (h2:w.Scores.length≤1048576) (h3:w.Bodies.length≤1048576):Con Tryz.prog 152 [] [ag w] [.row 1 (els w.Level.Rows),.row 1 (els w.Scores),.row 9 (els w.Bodies)] (.o (.ag [.ref 0,jn w.Tick,jn w.Seed,.ref 1,.ref 2])):=by
 have hls:=Yc w.Scores
 have hlb:=Yc w.Bodies
 have h00:([]:List (List T)).length=0:=rfl
 refine Con.of Tryz.func152 J Tryz.ntmps152 J (fun E => ?_)
 refine Wz [98,60,192] ?_;refine M1 (Zl J J (S_copyLevel w.Level hg.1 h1) J J J) J J ?_;refine Wz [158,20,5,228,21] ?_;refine M_app J J J J J J J J J J (Yd _) (els_k _) (by omega) (by omega) ?_;refine Wz [48,5,228,21] ?_;refine M_app J J J J J J J J J J (Yd _) (els_k _) (by omega) (by omega) ?_;refine Wz [48,30,20,94] ?_
 exact Xm J J J J (Ur [2,3,4] J J J)
end
section
open Go.RowKit


@[reducible] def wR (w:TWorld) (l:List Ob):List Ob := .row 1 (els w.Level.Rows) :: .row 1 (els w.Scores) :: .row 9 (els w.Bodies)::l
@[reducible] def sr {α:Type} [Enc α] (xs:List α):V1 := .rd [] (sl xs)
@[reducible] def wD (w:TWorld):List V1 := [sr w.Level.Rows,jn w.Tick,jn w.Seed,sr w.Scores,sr w.Bodies]
@[reducible] def nv:V1 := .rd [] (.v (.slice none 0 0))
structure PeerIn (x:TPeer):Prop where
 gd:Enc.gd x
 tr:x.Tracks.length≤1048576∧∀ t∈x.Tracks,t.Inputs.length≤1048576
 bw:x.Base.Level.Rows.length≤1048576∧x.Base.Scores.length≤1048576∧x.Base.Bodies.length≤1048576
 nw:x.Now.Level.Rows.length≤1048576∧x.Now.Scores.length≤1048576∧x.Now.Bodies.length≤1048576
 us:x.Used.length≤1048576∧∀ r∈x.Used,r.length≤1048576
 sv:x.Saves.length≤1048576
 sm:x.Sums.length≤1048576
instance:PlainE TSave:=⟨fun x t h=>by
 have h2:t ∈ [T.v (.int .i64 x.Tick),T.v (.string x.Delta)]:=h
 simp only[List.mem_cons,List.not_mem_nil,or_false] at h2
 rcases h2 with rfl | rfl <;> exact⟨_,rfl⟩⟩
end
section
open Go.RowKit

def trackOk (t:TTrack):Bool:=decide ((t.Inputs.length:Int)≤400)&&inOk t.Inputs
def tracksOk (l:List TTrack):Bool:=(decide (1≤l.length)&&decide (l.length≤4))&&l.all trackOk
theorem tracks_no {l:List TTrack} (h:l.length<1∨4<l.length):tracksOk l=false:=by
 rw[tracksOk]
 rcases h with h | h
 ·rw[Gqa (by omega:¬1≤l.length)]; rfl
 ·rw[Gqa (by omega:¬l.length≤4),Gxo]; rfl
theorem tracks_bad {l:List TTrack} (h:l.all trackOk=false):tracksOk l=false:=by rw[tracksOk,h,Gxo]
theorem tracks_yes {l:List TTrack} (h1:1≤l.length) (h2:l.length≤4) (h:l.all trackOk=true):tracksOk l=true:=by rw[tracksOk,h,Gqb h1,Gqb h2]; rfl
theorem tracks_spec {l:List TTrack} (h:tracksOk l=true):1≤l.length∧l.length≤4:=by
 simp only[tracksOk,Gqh,decide_eq_true_eq] at h
 exact h.1
def lenAt (l:List TTrack) (k:Nat):Nat:=(l.getD k ⟨[]⟩).Inputs.length
def leastK (l:List TTrack):Nat→Nat
 |0=>lenAt l 0
 |k+1=>min (leastK l k) (lenAt l k)
def knownTicks (l:List TTrack):Nat:=if tracksOk l=true then leastK l l.length else 0
theorem lenAt_is {l:List TTrack} {k:Nat} (h:k<l.length):lenAt l k=l[k].Inputs.length:=by simp[lenAt,Gqe,h]
theorem least_0 (l:List TTrack):leastK l 0=lenAt l 0:=rfl
theorem least_1 (l:List TTrack):leastK l 1=lenAt l 0:=Nat.min_self _
def faultOk (f:TFault) (n:Int):Bool:=((inR f.Tick 0 400&&decide (0≤f.Player))&&decide (f.Player<n))&&inR f.Add 0 9
theorem fault_S (f:TFault) (n:Int):(((decide (0<n)&&inR f.Tick 0 400)&&inR f.Player 0 (n-1))&&inR f.Add 0 9)=faultOk f n:=by
 rw[faultOk,Bool.eq_iff_iff]
 simp only[Gqh,decide_eq_true_eq,Yq]
 omega
def PeerP (p:TPeer):Prop :=
 (tracksOk p.Tracks=true∧worldOk p.Base=true∧worldOk p.Now=true∧p.Base.Level=p.Now.Level) ∧
 (p.Base.Scores.length=p.Tracks.length∧p.Now.Scores.length=p.Tracks.length∧faultOk p.Fault p.Tracks.length=true) ∧
 ((0≤p.Me∧p.Me≤(p.Tracks.length:Int)-1)∧(0≤p.Delay∧p.Delay≤5)∧(1≤p.Ahead∧p.Ahead≤8)) ∧
 ((0≤p.Seed∧p.Seed≤65535)∧(0≤p.Rolls∧p.Rolls≤1000000)∧(0≤p.Again∧p.Again≤1000000)) ∧
 ((0≤p.Now.Tick-p.Base.Tick∧p.Now.Tick-p.Base.Tick≤p.Ahead)∧(p.Used.length:Int)=p.Now.Tick-p.Base.Tick∧(p.Saves.length:Int)=p.Now.Tick-p.Base.Tick) ∧
 ((p.Used.all fun row=>rowOk row p.Tracks.length)=true∧∀ k (h:k<p.Saves.length),p.Saves[k].Tick=p.Base.Tick+k) ∧
 p.Base.Tick≤knownTicks p.Tracks∧p.Now.Tick≤lenAt p.Tracks p.Me.toNat∧(p.Sums.length:Int)=p.Base.Tick+1
noncomputable def peerOk (p:TPeer):Bool:=@decide (PeerP p) (Classical.propDecidable _)
theorem peer_T {p:TPeer} (h:PeerP p):peerOk p=true:=@decide_eq_true _ (Classical.propDecidable _) h
theorem peer_F {p:TPeer} (h:¬PeerP p):peerOk p=false:=@decide_eq_false _ (Classical.propDecidable _) h
end
section
open Go.RowKit

theorem slEqS (xs ys:List ByteArray) (hn:Enc.gd xs):Con Tryz.prog 239 [] [al xs,al ys] [] (B (decide (xs=ys))):=by
 have hn1:=hn.1
 have hlx:=Yc xs
 have hly:=Yc ys
 by_cases hl:xs.length=ys.length
 ·have hb:decide (((els xs).length:Int)≠((els ys).length:Int))=false:=by rw[hlx,hly,hl]; simp
  refine Con.of Tryz.func239 J Tryz.ntmps239 J (fun E => ?_)
  refine Wz [57,97,10,49,9,75,10,133,76] ?_;refine Xj (fun m st=>∃ k:Nat,k+m=xs.length∧(xs.take k=ys.take k)∧st=(⟨_,[(0,L xs),(1,L ys),(12,I (els xs).length),(13,I k)],[]⟩:St)) (xs.length) ⟨_,⟨0,by omega,by simp,J⟩,Ux []⟩ ?_
  rintro m_A _ ⟨k,hk_A,hp_A,rfl⟩
  refine Wz [5,63,14] ?_
  refine Xb J (fun h => ?_) (fun h => ?_)
  ·have h3:k<xs.length:=by have:=Gqc h; omega
   have h4:k<ys.length:=by omega
   have hat:=Yb h3
   have hat2:=Yb h4
   by_cases he:xs[k]=ys[k]
   ·have hk:decide (xs[k]≠ys[k])=false:=by simp[he]
    refine Wz [105,4,14] ?_;refine Xi u8_0 u8_32 u8_33 J ?_;refine Wz [122,64,122,64,226,16,132,100] ?_
    exact⟨xs.length-(k+1),by omega,_,⟨k+1,by omega,Yj h3 h4 hp_A he,J⟩,Ux []⟩
   ·have hk:decide (xs[k]≠ys[k])=true:=by simp[he]
    refine Wz [105,4,14] ?_;refine Xi u8_0 u8_32 u8_33 J ?_;refine Wz [122,64,122,64,226,16,11,67] ?_
    exact Uq J (Ur [] J J (Xk (eq_ne h3 h4 he).symm))
  ·have h3:¬((k:Int)<(els xs).length):=Gqd h
   refine Wz [38,72] ?_
   exact Uq J (Ur [] J J (Xk (Yh (by omega) hl hp_A).symm))
 ·have hb:decide (((els xs).length:Int)≠((els ys).length:Int))=true:=by rw[hlx,hly]; simp; omega
  refine Con.of Tryz.func239 J Tryz.ntmps239 J (fun E => ?_)
  refine Wz [57,97,10,44] ?_
  exact Uq J (Ur [] J J (Xk (Yi hl).symm))
theorem I_sameLevel (x y:TLevel) (hg:Enc.gd x):Con Tryz.prog 194 [] [ag x,ag y] [] (B (decide (x=y))):=by
 have h:decide (x.Rows=y.Rows)=decide (x=y):=by cases x; cases y; simp
 refine Con.of Tryz.func194 J Tryz.ntmps194 J (fun E => ?_)
 refine Wz [90,29,21] ?_;refine zx (Qj J J (slEqS x.Rows y.Rows hg) J) J ?_;refine Wz [85] ?_
 exact Uq J (Ur [] J J (Xk h))
end
section
open Go.RowKit

theorem S_sameLevel (x y:TLevel) (hg:Enc.gd x):Con Tryz.prog 156 [] [ag x,ag y] [] (B (decide (x=y))):=by
 have he:decide (x.Rows=y.Rows)=decide (x=y):=by cases x; cases y; simp
 rw[←he]
 clear he
 obtain⟨xs⟩:=x
 obtain⟨ys⟩:=y
 have hn:Enc.gd xs:=hg
 have hn1:=hn.1
 show Con _ _ _ _ _ (B (decide (xs=ys)))
 have hlx:=Yc xs
 have hly:=Yc ys
 by_cases hl:xs.length=ys.length
 ·have hb:decide (((els xs).length:Int)≠((els ys).length:Int))=false:=by rw[hlx,hly,hl]; simp
  refine Con.of Tryz.func156 J Tryz.ntmps156 J (fun E => ?_)
  refine Wz [90,31,10,21,10,49,9,26] ?_;refine Xj (fun m st=>∃ k:Nat,k+m=xs.length∧(xs.take k=ys.take k)∧st=(⟨_,[(2,.o (.c (.ptr 0 0))),(3,.o (.c (.ptr 1 0))),(5,I k)],[.box [.rd [] (sl xs)],.box [.rd [] (sl ys)]]⟩:St)) (xs.length) ⟨_,⟨0,by omega,by simp,J⟩,Ux [0,1]⟩ ?_
  rintro m_A _ ⟨k,hk_A,hp_A,rfl⟩
  refine Wz [75,21,238] ?_
  refine Xb J (fun h => ?_) (fun h => ?_)
  ·have h3:k<xs.length:=by have:=Gqc h; omega
   have h4:k<ys.length:=by omega
   have hat:=Yb h3
   have hat2:=Yb h4
   by_cases he:xs[k]=ys[k]
   ·have hk:decide (xs[k]≠ys[k])=false:=by simp[he]
    refine Wz [81] ?_;refine Xi u8_34 u8_35 u8_36 J ?_;refine Wz [32,136,64,32,136,64,226,16,53] ?_
    exact⟨xs.length-(k+1),by omega,_,⟨k+1,by omega,Yj h3 h4 hp_A he,J⟩,Ux [0,1]⟩
   ·have hk:decide (xs[k]≠ys[k])=true:=by simp[he]
    refine Wz [81] ?_;refine Xi u8_34 u8_35 u8_36 J ?_;refine Wz [32,136,64,32,136,64,226,16,11,67] ?_
    exact Uq J (Ur [] J J (Xk (eq_ne h3 h4 he).symm))
  ·have h3:¬((k:Int)<(els xs).length):=Gqd h
   refine Wz [38,72] ?_
   exact Uq J (Ur [] J J (Xk (Yh (by omega) hl hp_A).symm))
 ·have hb:decide (((els xs).length:Int)≠((els ys).length:Int))=true:=by rw[hlx,hly]; simp; omega
  refine Con.of Tryz.func156 J Tryz.ntmps156 J (fun E => ?_)
  refine Wz [90,31,10,21,10,44] ?_
  exact Uq J (Ur [] J J (Xk (Yi hl).symm))
end
end Go.Proofs.YtoecjaohdnoenaaGreat
