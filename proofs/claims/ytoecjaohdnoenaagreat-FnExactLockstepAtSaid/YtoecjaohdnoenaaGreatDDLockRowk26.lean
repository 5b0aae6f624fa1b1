/-
  Rules, data and contracts of functions: part 27 of the proof.
  Conditions: those that each theorem names.
-/
import Derived.Test.YtoecjaohdnoenaaGreatDDLockRowk25
set_option linter.unusedSimpArgs false
set_option linter.unusedVariables false
set_option maxRecDepth 8000
set_option maxHeartbeats 8000000
namespace Go.Proofs.YtoecjaohdnoenaaGreat
section
open Go.RowKit

theorem I_TrackOk (t:TTrack) (g:Enc.gd t):Con Tryz.prog 237 [] [ag t] [] (B (trackOk t)):=by
 have hl:=Yc t.Inputs
 refine Con.of Tryz.func237 J Tryz.ntmps237 J (fun E => ?_)
 refine Wz [36,29,10,211,80] ?_;refine zx (Qt.grdT J J J (.hit (.hit .stop)) (fun hgrd=>Qj J J (I_inputsOk t.Inputs g) J)) J ?_;refine Wz [42,85] ?_
 exact Uq J (Ur [] J J (Xk (by rw[hl]; rfl)))
theorem S_TrackOk (t:TTrack) (g:Enc.gd t):Con Tryz.prog 231 [] [ag t] [] (B (trackOk t)):=by
 have hl:=Yc t.Inputs
 refine Con.of Tryz.func231 J Tryz.ntmps231 J (fun E => ?_)
 refine Wz [36,29,10,211,80] ?_;refine zx (Qt.grdT J J J (.hit (.hit .stop)) (fun hgrd=>Qj J J (S_inputsOk t.Inputs g) J)) J ?_;refine Wz [42,85] ?_
 exact Uq J (Ur [] J J (Xk (by rw[hl]; rfl)))
theorem I_TracksOk (xs:List TTrack) (g:Enc.gd xs):Con Tryz.prog 192 [] [al xs] [] (B (tracksOk xs)):=by
 have hl:=Yc xs
 refine Con.of Tryz.func192 J Tryz.ntmps192 J (fun E => ?_)
 refine Wz [57,10,180,0,115] ?_;refine zx (Vb J (.hit .stop) (fun hgrd=>Zu J J J)) J ?_;refine zx (Vb J (.hit (.hit .stop)) (fun hgrd=>q_gtr J J J J)) J ?_;refine Wz [70] ?_
 refine Xb J (fun h => ?_) (fun h => ?_)
 ·simp only[Gqr,decide_eq_true_eq] at h
  rw[tracks_no (by omega)]
  refine Wz [52] ?_
  exact Uq J (Ur [] J J J)
 simp only[Gqn,decide_eq_false_iff_not] at h
 refine Wz [25,75,10,133,76] ?_;refine Xj (fun m st=>∃ k:Nat,k+m=xs.length∧((xs.take k).all trackOk=true)∧st=(⟨_,[(13,L xs),(14,I (els xs).length),(15,I k)],[]⟩:St)) (xs.length) ⟨_,⟨0,by omega,by simp,J⟩,Ux []⟩ ?_
 rintro m_A _ ⟨k,hk_A,hp_A,rfl⟩
 refine Wz [5,63,14] ?_
 refine Xb J (fun h => ?_) (fun h => ?_)
 ·have h3:k<xs.length:=by have:=Gqc h; omega
  have hat:=Yb h3
  have hc:=I_TrackOk xs[k] (g.2 _ (Gqg h3))
  cases ho:trackOk xs[k] with
  |false =>
   rw[ho] at hc
   rw[tracks_bad (all_no h3 ho)]
   refine Wz [8,5,69,46,20,30] ?_;refine zx (Qj J J (hc) J) J ?_;refine Wz [2,11,67] ?_
   exact Uq J (Ur [] J J J)
  |true =>
   rw[ho] at hc
   refine Wz [8,5,69,46,20,30] ?_;refine zx (Qj J J (hc) J) J ?_;refine Wz [2,132,100] ?_
   exact⟨xs.length-(k+1),by omega,_,⟨k+1,by omega,X7 hp_A h3 ho,J⟩,Ux []⟩
 ·have h3:¬((k:Int)<(els xs).length):=Gqd h
  rw[tracks_yes (by omega) (by omega) (Gl hp_A)]
  refine Wz [38,72] ?_
  exact Uq J (Ur [] J J J)
theorem S_TracksOk (xs:List TTrack) (g:Enc.gd xs):Con Tryz.prog 181 [] [al xs] [] (B (tracksOk xs)):=by
 have hl:=Yc xs
 have hg1:=g.1
 refine Con.of Tryz.func181 J Tryz.ntmps181 J (fun E => ?_)
 refine Wz [22,26] ?_;refine Xj (fun m st=>∃ k:Nat,k+m=xs.length∧((xs.take k).all trackOk=true)∧st=(⟨_,[(0,L xs),(3,I k)],[]⟩:St)) (xs.length) ⟨_,⟨0,by omega,by simp,J⟩,Ux []⟩ ?_
 rintro m_A _ ⟨k,hk_A,hp_A,rfl⟩
 refine Wz [71] ?_
 refine Xb J (fun h => ?_) (fun h => ?_)
 ·have h3:k<xs.length:=by have:=Gqc h; omega
  have hat:=Yb h3
  have hc:=S_TrackOk xs[k] (g.2 _ (Gqg h3))
  cases ho:trackOk xs[k] with
  |false =>
   rw[ho] at hc
   rw[tracks_bad (all_no h3 ho)]
   refine Wz [8,17,69] ?_;refine zx (Qj J J (hc) J) J ?_;refine Wz [2,11,67] ?_
   exact Uq J (Ur [] J J J)
  |true =>
   rw[ho] at hc
   refine Wz [8,17,69] ?_;refine zx (Qj J J (hc) J) J ?_;refine Wz [2,53] ?_
   exact⟨xs.length-(k+1),by omega,_,⟨k+1,by omega,X7 hp_A h3 ho,J⟩,Ux []⟩
 ·have h3:¬((k:Int)<(els xs).length):=Gqd h
  have hall:=Gl hp_A
  refine Wz [38,18,10] ?_;refine zx (Qj J J (Xy (els xs).length 1 4) J) J ?_;refine Wz [85] ?_
  exact Uq J (Ur [] J J (Xk (by
   rw[hl]
   by_cases h4:1≤xs.length∧xs.length≤4
   ·rw[tracks_yes h4.1 h4.2 hall,Yq.2 (by omega)]
   ·rw[tracks_no (by omega),←Gxn,Yq]; omega)))
theorem least_next {l:List TTrack} {k:Nat} (h:k<l.length):((leastK l (k+1):Nat):Int)=min ((leastK l k:Nat):Int) ((els l[k].Inputs).length:Int):=by
 rw[leastK,lenAt_is h,Yc]
 omega
theorem I_KnownTicks (xs:List TTrack) (g:Enc.gd xs):Con Tryz.prog 197 [] [al xs] [] (I (knownTicks xs:Nat)):=by
 have hl:=Yc xs
 have hc:=I_TracksOk xs g
 cases ho:tracksOk xs with
 |false =>
  rw[ho] at hc
  rw[show knownTicks xs=0 from if_neg (by rw[ho]; decide)]
  refine Con.of Tryz.func197 J Tryz.ntmps197 J (fun E => ?_)
  refine Wz [57] ?_;refine zx (Qj J J (hc) J) J ?_;refine Wz [2,39] ?_
  exact Uq J (Ur [] J J J)
 | true =>
  rw[ho] at hc
  rw[show knownTicks xs=leastK xs xs.length from if_pos ho]
  obtain⟨h1,h4⟩:=tracks_spec ho
  have h0:0<xs.length:=by omega
  have hat0:(els xs)[(0:Int).toNat]? = some (Enc.e xs[0]):=Yb h0
  refine Con.of Tryz.func197 J Tryz.ntmps197 J (fun E => ?_)
  refine Wz [57] ?_;refine zx (Qj J J (hc) J) J ?_;refine Wz [2,9,18,148,174,154,10,66,10,133,76] ?_;refine Xj (fun m st=>∃ k:Nat,k+m=xs.length∧(True)∧st=(⟨_,[(3,I (leastK xs k:Nat)),(14,L xs),(15,I (els xs).length),(16,I k)],[]⟩:St)) (xs.length) ⟨(fun k:Nat=>(⟨_,[(3,I (leastK xs k:Nat)),(14,L xs),(15,I (els xs).length),(16,I k)],[]⟩:St)) 0,⟨0,by omega,trivial,J⟩,Up [] J (by kernel_rfl) (.cons (Xs (by rw[least_0,lenAt_is h0,Yc])) (.c J (.c J (.c J (.nil)))))⟩ ?_
  rintro m_A _ ⟨k,hk_A,hp_A,rfl⟩
  refine Wz [5,63,14] ?_
  refine Xb J (fun h => ?_) (fun h => ?_)
  ·have h3:k<xs.length:=by have:=Gqc h; omega
   have hat:=Yb h3
   refine Wz [8,5,69,46,20,23,0,21,10,247,87,89,100] ?_
   exact⟨xs.length-(k+1),by omega,(fun k:Nat=>(⟨_,[(3,I (leastK xs k:Nat)),(14,L xs),(15,I (els xs).length),(16,I k)],[]⟩:St)) (k+1),⟨k+1,by omega,trivial,J⟩,Up [] J (by kernel_rfl) (.cons (Xs (least_next h3).symm) (.c J (.c J (.c J (.nil)))))⟩
  ·have h3:¬((k:Int)<(els xs).length):=Gqd h
   have hk:k=xs.length:=by omega
   rw[hk]
   refine Wz [54] ?_
   exact Uq J (Ur [] J J J)
theorem S_KnownTicks (xs:List TTrack) (g:Enc.gd xs):Con Tryz.prog 184 [] [al xs] [] (I (knownTicks xs:Nat)):=by
 have hl:=Yc xs
 have hc:=S_TracksOk xs g
 cases ho:tracksOk xs with
 |false =>
  rw[ho] at hc
  rw[show knownTicks xs=0 from if_neg (by rw[ho]; decide)]
  refine Con.of Tryz.func184 J Tryz.ntmps184 J (fun E => ?_)
  refine Wz [57] ?_;refine zx (Qj J J (hc) J) J ?_;refine Wz [2,39] ?_
  exact Uq J (Ur [] J J J)
 | true =>
  rw[ho] at hc
  rw[show knownTicks xs=leastK xs xs.length from if_pos ho]
  obtain⟨h1,h4⟩:=tracks_spec ho
  have h0:0<xs.length:=by omega
  have hat0:(els xs)[(0:Int).toNat]? = some (Enc.e xs[0]):=Yb h0
  refine Con.of Tryz.func184 J Tryz.ntmps184 J (fun E => ?_)
  refine Wz [57] ?_;refine zx (Qj J J (hc) J) J ?_;refine Wz [2,9,18,148,174,154,10,4,26] ?_;refine Xj (fun m__ st=>∃ (k:Nat),xs.length-k=m__∧(1≤k∧k≤xs.length)∧st=(⟨_,[(0,L xs),(3,I (leastK xs k:Nat)),(4,I k)],[]⟩:St)) _ ⟨(fun (k:Nat)=>(⟨_,[(0,L xs),(3,I (leastK xs k:Nat)),(4,I k)],[]⟩:St)) (1),⟨1,J,⟨by omega,by omega⟩,J⟩,Up [] J (by kernel_rfl) (.c J (.cons (Xs (by rw[least_1,lenAt_is h0,Yc])) (.c J (.nil))))⟩ ?_
  rintro m_A _ ⟨k,hk_A,hp_A,rfl⟩
  refine Wz [71] ?_
  refine Xb J (fun h => ?_) (fun h => ?_)
  ·have h3:k<xs.length:=by have:=Gqc h; omega
   have hat:=Yb h3
   refine Wz [8,23,43,0,148,174,154,10,247,99] ?_
   refine⟨_,(by omega),(fun (k:Nat)=>(⟨_,[(0,L xs),(3,I (leastK xs k:Nat)),(4,I k)],[]⟩:St)) (k+1),⟨k+1,J,⟨by omega,by omega⟩,J⟩,Up [] J (by kernel_rfl) (.c J (.cons (Xs (least_next h3).symm) (.c J (.nil))))⟩
  ·have h3:¬((k:Int)<(els xs).length):=Gqd h
   have hk:k=xs.length:=by omega
   rw[hk]
   refine Wz [54] ?_
   exact Uq J (Ur [] J J J)
theorem I_FaultOk (f:TFault) (n:Int) (hn:0≤n):Con Tryz.prog 195 [] [ag f,ai n] [] (B (faultOk f n)):=by
 refine Con.of Tryz.func195 J Tryz.ntmps195 J (fun E => ?_)
 refine Wz [36,29] ?_;refine zx (Qj J J (Xr f.Tick 0 400) J) J ?_;refine Wz [80] ?_;refine zx (Qt.grdT J J J (.hit (.hit .stop)) (fun hgrd=>q_geq J J J J)) J ?_;refine Wz [42,80,302] ?_;refine zx (Qt.grdT J J J (.hit (.hit (.hit .stop))) (fun hgrd=>Z0 J J J J)) J ?_;refine Wz [42,80] ?_;refine zx (Qt.grdT J J J (.hit (.hit .stop)) (fun hgrd=>Qj J J (Xr f.Add 0 9) J)) J ?_;refine Wz [42,85] ?_
 exact Uq J (Ur [] J J J)
theorem S_FaultOk (f:TFault) (n:Int) (hn:0≤n) (hn2:n≤9223372036854775807):Con Tryz.prog 182 [] [ag f,ai n] [] (B (faultOk f n)):=by
 refine Con.of Tryz.func182 J Tryz.ntmps182 J (fun E => ?_)
 refine Wz [36,18,234,80] ?_;refine zx (Qt.grdT J J J (.hit (.hit .stop)) (fun hgrd=>Qj J J (Xy f.Tick 0 400) J)) J ?_;refine Wz [42,80,302] ?_;refine zx (Qt.grdT J J J (.hit (.hit (.hit .stop))) (fun hgrd=>Xc J J J J (by omega))) J ?_;refine zx (Qt.grdT J J J (.hit (.hit (.hit (.hit .stop)))) (fun hgrd=>Qj J J (Xy f.Player 0 (n-1)) J)) J ?_;refine Wz [42,80] ?_;refine zx (Qt.grdT J J J (.hit (.hit .stop)) (fun hgrd=>Qj J J (Xy f.Add 0 9) J)) J ?_;refine Wz [42,85] ?_
 exact Uq J (Ur [] J J (Xk (fault_S f n)))
end
section
open Go.RowKit

theorem step_T {w:TWorld} {row:List Int} (h:worldOk w=true∧w.Tick≠100000∧rowOk row w.Scores.length=true):stepW w row=tickM w row:=by rw[stepW,if_pos h]
theorem step_F {w:TWorld} {row:List Int} (h:¬(worldOk w=true∧w.Tick≠100000∧rowOk row w.Scores.length=true)):stepW w row=w:=by rw[stepW,if_neg h]
theorem last_1 {l:TLevel} {tick seed:Int} {ss:List Int} {bs:List TBody} (h:tick%16≠0∨(spotsM l).length=0∨24≤bs.length):lastM l tick seed ss bs=⟨l,tick,seed,ss,bs⟩:=by rw[lastM,if_pos h]
theorem last_2 {l:TLevel} {tick seed:Int} {ss:List Int} {bs:List TBody} {x y:Int} (h:¬(tick%16≠0∨(spotsM l).length=0∨24≤bs.length)) (hs:spotOf l seed = [x,y]) (hi:itemAt bs x y=true):lastM l tick seed ss bs=⟨l,tick,nextR seed,ss,bs⟩:=by
 rw[lastM,if_neg h,hs]
 exact if_pos hi
theorem last_3 {l:TLevel} {tick seed:Int} {ss:List Int} {bs:List TBody} {x y:Int} (h:¬(tick%16≠0∨(spotsM l).length=0∨24≤bs.length)) (hs:spotOf l seed = [x,y]) (hi:itemAt bs x y=false):lastM l tick seed ss bs=⟨l,tick,nextR seed,ss,bs ++ [itemB x y]⟩:=by
 rw[lastM,if_neg h,hs]
 exact if_neg (by show ¬itemAt bs x y=true; rw[hi]; simp)
theorem at_hit {bs:List TBody} {x y:Int} {k:Nat} {b:TBody} (hb:bs[k]? = some b) (h:b.Kind=2∧b.X=x∧b.Y=y):itemAt bs x y=true:=by
 rw[itemAt,List.any_eq_true]
 exact⟨b,Gqo hb,Gqb h⟩
theorem at_go {bs:List TBody} {x y:Int} {k:Nat} {b:TBody} (hb:bs[k]? = some b) (h:¬(b.Kind=2∧b.X=x∧b.Y=y)) (hi:itemAt (bs.take k) x y=false):itemAt (bs.take (k+1)) x y=false:=by
 obtain⟨hk,rfl⟩:=Gql.1 hb
 rw[Gq4 hk,itemAt,List.any_append,←itemAt,hi]
 simp only[List.any_cons,List.any_nil,Bool.or_false,Bool.false_or]
 exact Gqa h
theorem rwS2 {a b:Ob} {t:List Ob} {k:Nat} {x y:List (List T)} (h:x=y):a::b::Ob.row k x::t=a::b::Ob.row k y::t:=by rw[h]
theorem I_StepWorld (w:TWorld) (row:List Int) (hg:Enc.gd w) (gr:Enc.gd row) (h1:w.Level.Rows.length≤1048576) (h2:w.Scores.length≤1048576) (h3:w.Bodies.length≤1048576):Con Tryz.prog 217 [] [ag w,al row] [.row 1 (els w.Level.Rows),.row 1 (els (stepW w row).Scores),.row 9 (els (stepW w row).Bodies)] (.o (.ag [.ref 0,jn (stepW w row).Tick,jn (stepW w row).Seed,.ref 1,.ref 2])):=by
 have hls:=Yc w.Scores
 have hlb:=Yc w.Bodies
 have c1:=I_copyWorld w hg h1 h2 h3
 have c2:=I_WorldOk w hg
 have c3:=I_rowOk row ((els w.Scores).length:Int) gr
 rw[show rowOk row ((els w.Scores).length:Int)=rowOk row (w.Scores.length:Int) by rw[hls]] at c3
 cases ho:worldOk w with
 |false =>
  rw[step_F (fun q=>by rw[ho] at q; cases q.1)]
  rw[ho] at c2
  refine Con.of Tryz.func217 J Tryz.ntmps217 J (fun E => ?_)
  refine Wz [98,60,30] ?_;refine M1 (Zl J J (c1) J J J) J J ?_;refine Wz [46,20,93] ?_;refine zx (Qj J J (c2) J) J ?_;refine Wz [2,40,101,24,40,56,56,24,11,30,20,88,55] ?_
  exact Xm J J J J (Ur [2,3,4] J J J)
 |true =>
 rw[ho] at c2
 by_cases ht:w.Tick=100000
 ·have f1:decide (w.Tick=100000)=true:=Gqb ht
  rw[step_F (fun q=>q.2.1 ht)]
  refine Con.of Tryz.func217 J Tryz.ntmps217 J (fun E => ?_)
  refine Wz [98,60,30] ?_;refine M1 (Zl J J (c1) J J J) J J ?_;refine Wz [46,20,93] ?_;refine zx (Qj J J (c2) J) J ?_;refine Wz [2,58,12,7,40,56,56,24,11,30,20,88,55] ?_
  exact Xm J J J J (Ur [2,3,4] J J J)
 have f1:decide (w.Tick=100000)=false:=Gqa ht
 cases hr:rowOk row (w.Scores.length:Int) with
 |false =>
  rw[step_F (fun q=>by rw[hr] at q; cases q.2.2)]
  rw[hr] at c3
  refine Con.of Tryz.func217 J Tryz.ntmps217 J (fun E => ?_)
  refine Wz [98,60,30] ?_;refine M1 (Zl J J (c1) J J J) J J ?_;refine Wz [46,20,93] ?_;refine zx (Qj J J (c2) J) J ?_;refine Wz [2,58,12,7,28,120,10,3] ?_;refine zx (Qj J J (c3) J) J ?_;refine Wz [3,2,7,11,30,20,88,55] ?_
  exact Xm J J J J (Ur [2,3,4] J J J)
 |true =>
 rw[hr] at c3
 rw[step_T ⟨ho,ht,hr⟩]
 have hP:=PH.of hg ho hr
 have hsr:=Kf ho
 have hM:=hits_lm hP.mv rfl hsr
 have hSh:=SI.shots hP.mv rfl hsr
 have hSI:=(SI.start hP.mv rfl hsr).all ((movedM w row).drop w.Scores.length) ((movedM w row).drop w.Scores.length).length
 have hEq:=hits_eq hP.mv rfl hsr
 obtain⟨hl,htk,hsd,hn,_,hlen,hbo⟩:=Kp ho
 have htk:=Yq.1 htk
 have hsd:=Yq.1 hsd
 have d1:=I_stepPlayers w row hP
 have d2:=I_stepMoves ⟨w.Level,w.Tick,w.Seed,w.Scores,plM w.Level row w.Bodies w.Scores.length⟩ hg.1 hl hP.pl.lm hP.pl.tm
 have d3:=I_stepShots ⟨w.Level,w.Tick,w.Seed,w.Scores,movedM w row⟩ hg.1 hl hn hP.mv hsr
 have hsl:=hSI.sl
 have hsc:=hSI.sc
 simp only at d2 d3
 obtain⟨s3,hs3⟩:∃ s3,s3=(shS w.Scores.length ((movedM w row).drop w.Scores.length) (movedM w row,w.Scores) ((movedM w row).drop w.Scores.length).length).2:=⟨_,rfl⟩
 obtain⟨b3,hb3⟩:∃ b3,b3=(shS w.Scores.length ((movedM w row).drop w.Scores.length) (movedM w row,w.Scores) ((movedM w row).drop w.Scores.length).length).1.take w.Scores.length++shL w.Scores.length ((movedM w row).drop w.Scores.length) (movedM w row,w.Scores) ((movedM w row).drop w.Scores.length).length:=⟨_,rfl⟩
 have hP2:hitsP w.Scores.length (movedM w row) w.Scores=(b3.take w.Scores.length++itL w.Scores.length b3 (b3.drop w.Scores.length) (b3.drop w.Scores.length).length,itS w.Scores.length b3 (b3.drop w.Scores.length) s3 (b3.drop w.Scores.length).length):=by rw[hitsP,hs3,hb3]
 rw[←hs3] at d3 hsl hsc
 rw[←hb3] at d3 hSh
 have d4:=I_stepItems ⟨w.Level,w.Tick,w.Seed,s3,b3⟩ hg.1 hl (by simp only; omega) (by simp only; rw[hsl]; exact hSh) hsc
 simp only at d4
 rw[hsl] at d4
 obtain⟨s4,hs4⟩:∃ s4,s4=itS w.Scores.length b3 (b3.drop w.Scores.length) s3 (b3.drop w.Scores.length).length:=⟨_,rfl⟩
 obtain⟨b4,hb4⟩:∃ b4,b4=b3.take w.Scores.length++itL w.Scores.length b3 (b3.drop w.Scores.length) (b3.drop w.Scores.length).length:=⟨_,rfl⟩
 rw[←hs4,←hb4] at d4
 rw[←hs4,←hb4,hEq] at hP2
 rw[tickM,hP2]
 rw[hP2] at hM
 obtain⟨hM1,hM2,hM3⟩:=hM
 simp only at hM1 hM2 hM3
 have e1:=I_NextRandom w.Seed ⟨by omega,by omega⟩
 have e2:=I_SpotsOf w.Level hg.1 hl
 have hlb4:=Yc b4
 have hbl:=hM1.len
 have hlsp:=Yc (spotsM w.Level)
 have hsl2:=spots_len hl
 have hnr:=Y2 w.Seed
 clear hEq hP2 hSI hSh hb4 hs4 hb3 hs3 hbo hsl hsc
 refine Con.of Tryz.func217 J Tryz.ntmps217 J (fun E => ?_)
 refine Wz [98,60,30] ?_;refine M1 (Zl J J (c1) J J J) J J ?_;refine Wz [46,20,93] ?_;refine zx (Qj J J (c2) J) J ?_;refine Wz [2,58,12,7,28,120,10,3] ?_;refine zx (Qj J J (c3) J) J ?_;refine Wz [3,2,7,9,18] ?_;refine AL.weak (st':=(⟨_,[(1,L row),(4,.o (.c (.ptr 4 0))),(5,.o (.c (.ptr 0 0))),(32,L row)],[.box [.ref 1,jn w.Tick,jn w.Seed,.ref 2,.ref 3],.row 1 (els w.Level.Rows),.row 1 (els w.Scores),.row 9 (els w.Bodies),.box [nilV,jn 0,jn 0,nilV,nilV]]⟩:St)) (Ux [5,2,3,4,1]) ?_
 clear c1 c2 c3 f1
 refine Xd (lo := [_,_,_,_]) (gs := [(0,.c (.ptr 0 0))]) (lo' := [_,_,_,_]) (new := []) [0,1,2,3] [(0,0,.ptr 0 0)] (d1) J J J J J J J J J J J J J J J J J ?_;refine Wz [6,5] ?_;refine AL.weak (st':=(⟨_,[(1,L row),(4,.o (.c (.ptr 4 0))),(5,.o (.c (.ptr 0 0)))],[.box [.ref 1,jn w.Tick,jn w.Seed,.ref 2,.ref 3],.row 1 (els w.Level.Rows),.row 1 (els w.Scores),.row 9 (els (plM w.Level row w.Bodies w.Scores.length)),.box [nilV,jn 0,jn 0,nilV,nilV]]⟩:St)) (Ux [0,1,2,3,4]) ?_
 clear d1
 refine Xd (lo := [_,_,_,_]) (gs := [(0,.c (.ptr 0 0))]) (lo' := [_,_,_,_]) (new := []) [0,1,2,3] [(0,0,.ptr 0 0)] (d2) J J J J J J J J J J J J J J J J J ?_;refine Wz [6,5] ?_;refine AL.weak (st':=(⟨_,[(1,L row),(4,.o (.c (.ptr 4 0))),(5,.o (.c (.ptr 0 0)))],[.box [.ref 1,jn w.Tick,jn w.Seed,.ref 2,.ref 3],.row 1 (els w.Level.Rows),.row 1 (els w.Scores),.row 9 (els (movedM w row)),.box [nilV,jn 0,jn 0,nilV,nilV]]⟩:St)) (Ux [0,1,2,3,4]) ?_
 clear d2
 refine Xd (lo := [_,_,_,_]) (gs := [(0,.c (.ptr 0 0))]) (lo' := [_,_,_,_]) (new := []) [0,1,2,3] [(0,0,.ptr 0 0)] (d3) J J J J J J J J J J J J J J J J J ?_;refine Wz [6,5] ?_;refine AL.weak (st':=(⟨_,[(1,L row),(4,.o (.c (.ptr 4 0))),(5,.o (.c (.ptr 0 0)))],[.box [.ref 1,jn w.Tick,jn w.Seed,.ref 2,.ref 3],.row 1 (els w.Level.Rows),.row 1 (els s3),.row 9 (els b3),.box [nilV,jn 0,jn 0,nilV,nilV]]⟩:St)) (Ux [0,1,2,3,4]) ?_
 clear d3
 refine Xd (lo := [_,_,_,_]) (gs := [(0,.c (.ptr 0 0))]) (lo' := [_,_,_,_]) (new := []) [0,1,2,3] [(0,0,.ptr 0 0)] (d4) J J J J J J J J J J J J J J J J J ?_;refine Wz [6,29,123,65] ?_;refine AL.weak (st':=(⟨_,[(1,L row),(4,.o (.c (.ptr 4 0))),(5,.o (.c (.ptr 0 0))),(42,I w.Seed)],[.box [.ref 1,jn (w.Tick+1),jn w.Seed,.ref 2,.ref 3],.row 1 (els w.Level.Rows),.row 1 (els s4),.row 9 (els b4),.box [nilV,jn 0,jn 0,nilV,nilV]]⟩:St)) (Ux [0,1,2,3,4]) ?_
 clear d4
 refine zx (Qj J J (e1) J) J ?_;refine Wz [48,192] ?_;refine AL.weak (st':=(⟨_,[(1,L row),(4,.o (.c (.ptr 4 0))),(5,.o (.c (.ptr 0 0))),(46,.o (.ag [.ref 1]))],[.box [.ref 1,jn (w.Tick+1),jn (nextR w.Seed),.ref 2,.ref 3],.row 1 (els w.Level.Rows),.row 1 (els s4),.row 9 (els b4),.box [nilV,jn 0,jn 0,nilV,nilV]]⟩:St)) (Ux [0,1,2,3,4]) ?_
 clear e1
 obtain⟨sd,hsd2⟩:∃ sd,sd=nextR w.Seed:=⟨_,rfl⟩
 rw[←hsd2] at hnr
 rw[←hsd2]
 by_cases q1:(w.Tick+1)%16≠0
 ·have g1:decide ((w.Tick+1)%16≠0)=true:=Gqb q1
  rw[last_1 (.inl q1)]
  refine M1 (Zl J J (e2) J J J) J J ?_;refine Wz [4,31,184,49,40,101,24,40,56,24,11,30,20,88,55] ?_
  exact Xm J J J J (Ur [1,2,3] J J J)
 have g1:decide ((w.Tick+1)%16≠0)=false:=Gqa q1
 by_cases q2:(spotsM w.Level).length=0
 ·have g2:decide (((els (spotsM w.Level)).length:Int)=0)=true:=Gqb (by omega)
  rw[last_1 (.inr (.inl q2))]
  refine M1 (Zl J J (e2) J J J) J J ?_;refine Wz [4,31,184,49,28,33,3,12,7,40,56,24,11,30,20,88,55] ?_
  exact Xm J J J J (Ur [1,2,3] J J J)
 have g2:decide (((els (spotsM w.Level)).length:Int)=0)=false:=Gqa (by omega)
 by_cases q3:24≤b4.length
 ·have g3:decide (((els b4).length:Int)≥24)=true:=Gqb (by omega)
  rw[last_1 (.inr (.inr q3))]
  refine M1 (Zl J J (e2) J J J) J J ?_;refine Wz [4,31,184,49,28,33,3,12,7,58,33,3,162,7,11,30,20,88,55] ?_
  exact Xm J J J J (Ur [1,2,3] J J J)
 have g3:decide (((els b4).length:Int)≥24)=false:=Gqa (by omega)
 have q:¬((w.Tick+1)%16≠0∨(spotsM w.Level).length=0∨24≤b4.length):=fun h=>h.elim q1 fun h=>h.elim q2 q3
 obtain⟨i,hi1,hi2,hi3⟩:=spotOf_mem (seed:=sd) q2
 obtain⟨x,y,hxy,hx,hy⟩:=spot_rng hl (Gqo hi3)
 have e3:=I_RandomBelow sd ((els (spotsM w.Level)).length:Int) hnr ⟨by omega,by omega⟩
 rw[show belowR sd ((els (spotsM w.Level)).length:Int)=i by rw[hlsp]; exact hi1] at e3
 have hsp:(els (spotsM w.Level))[(i:Int).toNat]? = some (Enc.e [x,y]):=Yf (by rw[hi3,hxy])
 refine M1 (Zl J J (e2) J J J) J J ?_;refine Wz [4,31,184,49,28,33,3,12,7,58,33,3,162,7,9,62,33] ?_;refine M1 (Zl J J (e3) J J J) J J ?_;refine Wz [219,165,165,87,83,48,17,68,141] ?_;refine AL.weak (st':=(⟨_,[(4,.o (.c (.ptr 4 0))),(5,.o (.c (.ptr 0 0))),(6,.o (.c (.ref 5))),(8,I (i:Int)),(77,.o (.c (.rd [5] (.sl 1 (els [x,y])))))],[.box [.ref 1,jn (w.Tick+1),jn (nextR sd),.ref 2,.ref 3],.row 1 (els w.Level.Rows),.row 1 (els s4),.row 9 (els b4),.box [nilV,jn 0,jn 0,nilV,nilV],.row 1 (els (spotsM w.Level))]⟩:St)) (Ux [0,1,2,3,4,5]) ?_
 clear e2 e3 g1 g2 g3
 have hx0:(els [x,y])[(0:Int).toNat]? = some (Enc.e x):=rfl
 have hy0:(els [x,y])[(1:Int).toNat]? = some (Enc.e y):=rfl
 refine Wz [47,4,17,68,141,47,4,31,33,133,76] ?_;refine Xj (fun m st=>∃ k:Nat,k+m=b4.length∧(itemAt (b4.take k) x y=false)∧st=(⟨_,[(4,.o (.c (.ptr 4 0))),(5,.o (.c (.ptr 0 0))),(9,I x),(10,I y),(87,.o (.c (.ref 3))),(88,I (els b4).length),(89,I k)],[.box [.ref 1,jn (w.Tick+1),jn (nextR sd),.ref 2,.ref 3],.row 1 (els w.Level.Rows),.row 1 (els s4),.row 9 (els b4),.box [nilV,jn 0,jn 0,nilV,nilV]]⟩:St)) (b4.length) ⟨_,⟨0,by omega,J,J⟩,Ux [0,1,2,3,4]⟩ ?_
 rintro m_A _ ⟨k,hk_A,hp_A,rfl⟩
 by_cases hlt:k<b4.length
 ·have hb0:decide ((k:Int)<(els b4).length)=true:=Gqb (by omega)
  obtain⟨b,hb⟩:=Kk hlt
  refine Wz [5,15,6,14,82,8,5,68] ?_
  have he:=Yf hb
  with_reducible refine Xf ?_
  refine zx (Q6 J J J J (by assumption) J J) J ?_
  with_reducible refine K_alloc ?_
  refine M1 (Qx J J J) J J ?_
  with_reducible refine Xe ?_
  refine Wz [20] ?_
  refine AWP.pre (st':=(⟨_,[(4,.o (.c (.ptr 4 0))),(5,.o (.c (.ptr 0 0))),(9,I x),(10,I y),(87,.o (.c (.ref 3))),(88,I (els b4).length),(89,I k),(12,.o (.c (.ptr 5 0)))],[.box [.ref 1,jn (w.Tick+1),jn (nextR sd),.ref 2,.ref 3],.row 1 (els w.Level.Rows),.row 1 (els s4),.row 9 (els b4),.box [nilV,jn 0,jn 0,nilV,nilV],.box ((Enc.e b).map (V1.rd []))]⟩:St)) ?_ (Ux [0,1,2,3,4,5])
  clear he
  by_cases k1:b.Kind=2
  case neg =>
   have p1:decide (b.Kind=2)=false:=Gqa k1
   refine Wz [29,12,40,56,7,40,56,7,132,100] ?_
   exact⟨b4.length-(k+1),by omega,_,⟨k+1,by omega,at_go hb (fun h=>k1 h.1) hp_A,J⟩,Ux [0,1,2,3,4]⟩
  have p1:decide (b.Kind=2)=true:=Gqb k1
  by_cases k2:b.X=x
  case neg =>
   have p2:decide (b.X=x)=false:=Gqa k2
   refine Wz [29,12,58,79,12,24,40,56,7,132,100] ?_
   exact⟨b4.length-(k+1),by omega,_,⟨k+1,by omega,at_go hb (fun h=>k2 h.2.1) hp_A,J⟩,Ux [0,1,2,3,4]⟩
  have p2:decide (b.X=x)=true:=Gqb k2
  by_cases k3:b.Y=y
  case neg =>
   have p3:decide (b.Y=y)=false:=Gqa k3
   refine Wz [29,12,58,79,12,24,58,79,12,24,132,100] ?_
   exact⟨b4.length-(k+1),by omega,_,⟨k+1,by omega,at_go hb (fun h=>k3 h.2.2) hp_A,J⟩,Ux [0,1,2,3,4]⟩
  have p3:decide (b.Y=y)=true:=Gqb k3
  rw[last_2 q hxy (at_hit hb ⟨k1,k2,k3⟩)]
  refine Wz [29,12,58,79,12,24,58,79,12,24,11,30,20,88,119] ?_
  exact Xm J J J J (Ur [1,2,3] J J J)
 ·have hb0:decide ((k:Int)<(els b4).length)=false:=Gqa (by omega)
  have hk:k=b4.length:=by omega
  rw[hk,List.take_length] at hp_A
  rw[last_3 q hxy hp_A]
  refine Wz [5,15,6,14,166,38,29,43,175,125,135,48,30,20,94] ?_
  exact Xm J J J J (Ur [1,2,3] J (by exact rwS2 (by rw[Ya]; rfl)) J)
end
section
open Go.RowKit

theorem mv_two {l:TLevel} {b:TBody} (h:b.Kind=2):mvOne l b=some b:=by rw[mvOne,if_neg (by omega),if_neg (by omega)]
theorem mv_dead {l:TLevel} {b:TBody} (h:b.Kind=0) (h1:b.Life=0):mvOne l b=some b:=by rw[mvOne,if_neg (by omega),if_neg (by omega)]
theorem at_pl {l:TLevel} {n:Nat} {bs:List TBody} (h:LM l n bs) (x y:Int):itemAt (bs.take n) x y=false:=by
 rw[itemAt,List.any_eq_false]
 intro b hb
 obtain⟨j,hj⟩:=List.getElem?_of_mem hb
 rw[Gxe] at hj
 split at hj
 ·have:=(h.at_ j b hj).2.2 (by assumption)
  simp only[isItem,decide_eq_true_eq]
  omega
 ·cases hj
theorem S_l02Step (w:TWorld) (row:List Int) (hg:Enc.gd w) (ho:worldOk w=true) (ht:w.Tick≠100000) (hr:rowOk row w.Scores.length=true):Con Tryz.prog 248 [.box [.ref 1,jn w.Tick,jn w.Seed,.ref 2,.ref 3],.row 1 (els w.Level.Rows),.row 1 (els w.Scores),.row 9 (els w.Bodies),.gh 0 (.c (.ptr 0 0))] [.c (.ptr 0 0),al row] [.box [.ref 1,jn (tickM w row).Tick,jn (tickM w row).Seed,.ref 2,.ref 3],.row 1 (els w.Level.Rows),.row 1 (els (tickM w row).Scores),.row 9 (els (tickM w row).Bodies),.gh 0 (.c (.ptr 0 0))] (.tu []):=by
 have hP:=PH.of hg ho hr
 have hsr:=Kf ho
 have hM:=hits_lm hP.mv rfl hsr
 obtain⟨hl,htk,hsd,hn,_,_,_⟩:=Kp ho
 have htk:=Yq.1 htk
 have hsd:=Yq.1 hsd
 have d1:=S_l02Hits ⟨w.Level,w.Tick,w.Seed,w.Scores,movedM w row⟩ hg.1 hl hn hP.mv hsr
 simp only at d1
 obtain⟨s4,hs4⟩:∃ s4,s4=(hitsR w.Scores.length (movedM w row) w.Scores).2:=⟨_,rfl⟩
 obtain⟨b4,hb4⟩:∃ b4,b4=(hitsR w.Scores.length (movedM w row) w.Scores).1:=⟨_,rfl⟩
 rw[←hs4,←hb4] at d1 hM
 rw[tickM,←hs4,←hb4]
 obtain⟨hM1,hM2,hM3⟩:=hM
 have e1:=S_NextRandom w.Seed ⟨by omega,by omega⟩
 have e2:=S_SpotsOf w.Level hg.1 hl
 have hlb4:=Yc b4
 have hbl:=hM1.len
 have hlsp:=Yc (spotsM w.Level)
 have hsl2:=spots_len hl
 have hnr:=Y2 w.Seed
 clear hs4 hb4 ho
 have hPP:=hP
 obtain⟨hgl,gb,_,hn4,hlen,hbo,hrl,hri⟩:=hP
 have hls:=Yc w.Scores
 have hlr:=Yc row
 refine Con.of Tryz.func248 J Tryz.ntmps248 J (fun E => ?_)
 refine Wz [18,50,33,4,26] ?_;refine Xj (fun m st=>∃ (k:Nat) (bs:List TBody),k+m=w.Scores.length∧(bs=plM w.Level row w.Bodies k)∧st=(⟨_,[(0,.o (.c (.ptr 0 0))),(1,L row),(4,I (els w.Scores).length),(5,I k)],[.box [.ref 1,jn w.Tick,jn w.Seed,.ref 2,.ref 3],.row 1 (els w.Level.Rows),.row 1 (els w.Scores),.row 9 (els bs),.gh 0 (.c (.ptr 0 0))]⟩:St)) (w.Scores.length) ⟨_,⟨0,w.Bodies,by omega,J,J⟩,Ux [0,1,2,3,4]⟩ ?_
 rintro m_A _ ⟨k,bs,hk_A,hp_A,rfl⟩
 by_cases hlt:k<w.Scores.length
 ·have hb0:decide ((k:Int)<(els w.Scores).length)=true:=Gqb (by omega)
  have hP:=P1.all hl hn4.2 hlen hbo row k (by omega)
  rw[←hp_A] at hP
  have hln:=hP.lm.len
  obtain⟨b,hb⟩:=Kk (xs:=bs) (i:=k) (by omega)
  have hold:=hP.old k (Gqi _) hlt
  have hI:=old_at hbo (by rw[←hold]; exact hb) hlt
  have hB:=(hP.lm.at_ k b hb).1
  obtain⟨hpl,hpx,hpy⟩:=hB.placed hl
  obtain⟨i,hi⟩:=Kk (xs:=row) (i:=k) (by omega)
  have hir:=hri i (Gqo hi)
  have hnx:=pl_next hp_A hb hi
  have he:=Yf hb
  have her:=Yf hi
  have hlb:=Yc bs
  have htm:=hI.tm
  have hkl:=Yn hb
  clear d1 e1 e2
  by_cases hf:b.Life=0
  ·have f1:decide (b.Life=0)=true:=Gqb hf
   rw[plOne,if_pos hf] at hnx
   refine Wz [13,59,8,75,50,0,68,61,141,12,11,18,50,0,68,61,141,51,68,61,112,6,75,50,0] ?_;refine AL.weak (st':=(⟨_,[(0,.o (.c (.ptr 0 0))),(1,L row),(4,I (els w.Scores).length),(5,I k),(50,.o (.c (.ref 3))),(51,I k)],[.box [.ref 1,jn w.Tick,jn w.Seed,.ref 2,.ref 3],.row 1 (els w.Level.Rows),.row 1 (els w.Scores),.row 9 (els (bs.set k (tick1 b))),.gh 0 (.c (.ptr 0 0))]⟩:St)) (Up [0,1,2,3,4] J ((by exact rwBo (st_el0 J))) (.c J (.c J (.c J (.c J (.c J (.c J (.nil)))))))) ?_
   clear he
   have he:(els (bs.set k (tick1 b)))[(k:Int).toNat]? = some (Enc.e (tick1 b)):=Yf (by rw[Gq9 hkl])
   have hlb2:(els (bs.set k (tick1 b))).length=bs.length:=by rw[Yc,Gqs]
   by_cases ht:b.Timer-1=0
   ·have f2:decide (b.Timer-1=0)=true:=Gqb ht
    rw[if_pos ht] at hnx
    have cf:=S_fresh w.Level k hg.1 hl ⟨by omega,by omega⟩
    refine Wz [68,61,141,12,11] ?_
    refine AWP.pre (st':=(⟨_,[(0,.o (.c (.ptr 0 0))),(1,L row),(4,I (els w.Scores).length),(5,I k)],[.box [.ref 1,jn w.Tick,jn w.Seed,.ref 2,.ref 3],.row 1 (els w.Level.Rows),.row 1 (els w.Scores),.row 9 (els (bs.set k (tick1 b))),.gh 0 (.c (.ptr 0 0))]⟩:St)) ?_ (Ux [0,1,2,3,4])
    refine Xi [[],[0],[0,1],[0,1,2],[],[],[5],[5,6],[5,6,7],[],[5,6,7,8,9],(u9 11),(u9 12)] [[],[56],[56,57],[56,57,58],[],[],[61],[61,62],[61,62,63],[],[61,62,63,64,65],[56,57,58,59,60,61,62,63,64,65,66],[56,57,58,59,60,61,62,63,64,65,66,67]] [[60,61,62,63,64,65,66],[60,61,62,63,64,65,66],[60,61,62,63,64,65,66],[60,61,62,63,64,65,66],[56,57,58,59,61,62,63,64,65,66],[56,57,58,59,60,65],[56,57,58,59,60,65],[56,57,58,59,60,65],[56,57,58,59,60,65],[56,57,58,59,60,61,62,63,64],[56,57,58,59,60],[],[]] J ?_;refine Wz [1,117,32,1,1,117,183,116,1] ?_;refine Kw (Zl J J (cf) J J J) J ?_;refine Wz [152,16] ?_;refine AL.weak (st':=(⟨_,[(0,.o (.c (.ptr 0 0))),(1,L row),(4,I (els w.Scores).length),(5,I k),(66,.o (.ag ((Enc.e (fresh w.Level k)).map (V1.rd [])))),(67,.o (.c (.el 3 9 k 0)))],[.box [.ref 1,jn w.Tick,jn w.Seed,.ref 2,.ref 3],.row 1 (els w.Level.Rows),.row 1 (els w.Scores),.row 9 (els (bs.set k (tick1 b))),.gh 0 (.c (.ptr 0 0))]⟩:St)) (Ux [0,1,2,3,4]) ?_;refine Wz [173,6,168,145,147,0,130] ?_
    exact⟨w.Scores.length-(k+1),by omega,(fun (k:Nat) (bs:List TBody)=>(⟨_,[(0,.o (.c (.ptr 0 0))),(1,L row),(4,I (els w.Scores).length),(5,I k)],[.box [.ref 1,jn w.Tick,jn w.Seed,.ref 2,.ref 3],.row 1 (els w.Level.Rows),.row 1 (els w.Scores),.row 9 (els bs),.gh 0 (.c (.ptr 0 0))]⟩:St)) (k+1) (bs.set k (fresh w.Level k)),⟨k+1,bs.set k (fresh w.Level k),by omega,hnx.symm,J⟩,Up [0,1,2,3,4] J ((by exact rwBo (st_el J))) (.c J (.c J (.c J (.c J (.nil)))))⟩
   ·have f2:decide (b.Timer-1=0)=false:=Gqa ht
    rw[if_neg ht] at hnx
    refine Wz [68,61,141,12,9,168,145,147,0,130] ?_
    exact⟨w.Scores.length-(k+1),by omega,_,⟨k+1,bs.set k (tick1 b),by omega,hnx.symm,J⟩,Ux [0,1,2,3,4]⟩
  ·have f1:decide (b.Life=0)=false:=Gqa hf
   rw[plOne,if_neg hf] at hnx
   have hfl:=hB.f
   obtain⟨c,f,hcf⟩:∃ c f,(c,f)=steer w.Level b i:=⟨_,_,rfl⟩
   have cs:=S_l02Steer w.Level b i hg.1 hl hI.kd hir ⟨by omega,by omega⟩ hB.vy (by have:=hB.p; rw[hI.kd] at this; exact this)
   have hca:=steer_aim (l:=w.Level) (i:=i) hI.am
   have hcx:(steer w.Level b i).1.X=b.X∧(steer w.Level b i).1.Y=b.Y:=⟨rfl,rfl⟩
   rw[←hcf] at cs hnx hca hcx
   simp only at cs hnx hca hcx
   have csh:=S_ShotOf c (by rw[hcx.1]; exact hpl.x) (by rw[hcx.2]; exact hpl.y) (by omega)
   have hlc:(els (bs.set k c)).length=bs.length:=by rw[Yc,Gqs]
   clear hcf hca hcx
   refine Wz [13,59,8,75,50,0,68,61,141,12,9,14] ?_
   refine AWP.pre (st':=(⟨_,[(0,.o (.c (.ptr 0 0))),(1,L row),(4,I (els w.Scores).length),(5,I k)],[.box [.ref 1,jn w.Tick,jn w.Seed,.ref 2,.ref 3],.row 1 (els w.Level.Rows),.row 1 (els w.Scores),.row 9 (els bs),.gh 0 (.c (.ptr 0 0))]⟩:St)) ?_ (Ux [0,1,2,3,4])
   refine Xi [[],[0],[0,1],[0,1,2],[],[4],[4,5],[4,5,6],[],[4,5,6,7,8],[4,5,6,7,8,9],[],[],[11,12],[11,12,13],(u9 15),(u9 16),(u9 17),(u9 17),[],[0,1,2,3,4,5,6,7,8,9,10,11,12,13,14,15,16,17,19],(u9 21)] [[],[69],[69,70],[69,70,71],[],[73],[73,74],[73,74,75],[],[73,74,75,76,77],[73,74,75,76,77,78],[],[],[80,81],[80,81,82],[69,70,71,72,73,74,75,76,77,78,79,80,81,82,83],[69,70,71,72,73,74,75,76,77,78,79,80,81,82,83,84],[68,69,70,71,72,73,74,75,76,77,78,79,80,81,82,83,84],[68,69,70,71,72,73,74,75,76,77,78,79,80,81,82,83,84],[],[6,68,69,70,71,72,73,74,75,76,77,78,79,80,81,82,83,84,85],[6,68,69,70,71,72,73,74,75,76,77,78,79,80,81,82,83,84,85,86]] [[6,73,74,75,76,77,78,79,80,81,82,83],[6,73,74,75,76,77,78,79,80,81,82,83],[6,73,74,75,76,77,78,79,80,81,82,83],[6,73,74,75,76,77,78,79,80,81,82,83],[6,69,70,71,72,77,80,81,82,83],[6,69,70,71,72,77,80,81,82,83],[6,69,70,71,72,77,80,81,82,83],[6,69,70,71,72,77,80,81,82,83],[6,69,70,71,72,73,74,75,76,80,81,82,83],[6,69,70,71,72,80,81,82,83],[6,69,70,71,72,80,81,82,83],[6,69,70,71,72,73,74,75,76,77,78,79,81],[6,69,70,71,72,73,74,75,76,77,78,79,80],[6,69,70,71,72,73,74,75,76,77,78,79],[6,69,70,71,72,73,74,75,76,77,78,79],[6],[6],[6,86],[6,85],[68,69,70,71,72,73,74,75,76,77,78,79,80,81,82,83,84,85,86],[86],[],[18]] J ?_;refine Wz [1,117,183,116,1,117,32,1,152] ?_;refine Kw (Q6 J J J J (by assumption) J J) J ?_;refine Wz [122,64] ?_;refine Kw (Zl J J (cs) J J J) J ?_;refine Wz [210,156,156,208,16] ?_;refine AL.weak (st':=(⟨_,[(0,.o (.c (.ptr 0 0))),(1,L row),(4,I (els w.Scores).length),(5,I k),(6,.o (.c (.ptr 5 0))),(85,.o (.ag ((Enc.e c).map (V1.rd [])))),(86,B f)],[.box [.ref 1,jn w.Tick,jn w.Seed,.ref 2,.ref 3],.row 1 (els w.Level.Rows),.row 1 (els w.Scores),.row 9 (els bs),.gh 0 (.c (.ptr 0 0)),.box [jn 0,jn 0,jn 0,jn 0,jn 0,jn 0,jn 0,jn 0,jn 0]]⟩:St)) (Ux [0,1,2,3,4,5]) ?_;refine Wz [110,4,14] ?_
   refine AWP.pre (st':=(⟨_,[(0,.o (.c (.ptr 0 0))),(1,L row),(4,I (els w.Scores).length),(5,I k),(6,.o (.c (.ptr 5 0))),(7,B f)],[.box [.ref 1,jn w.Tick,jn w.Seed,.ref 2,.ref 3],.row 1 (els w.Level.Rows),.row 1 (els w.Scores),.row 9 (els bs),.gh 0 (.c (.ptr 0 0)),.box ((Enc.e c).map (V1.rd []))]⟩:St)) ?_ (Ux [0,1,2,3,4,5])
   refine Xi u8_25 [[],[87],[87,88],[87,88,89],[],[],[87,88,89,90,91,92],[87,88,89,90,91,92,93]] [[91,92],[91,92],[91,92],[91,92],[87,88,89,90,92],[87,88,89,90,91],[],[]] J ?_;refine Wz [1,117,32,1,116,152,16] ?_;refine AL.weak (st':=(⟨_,[(0,.o (.c (.ptr 0 0))),(1,L row),(4,I (els w.Scores).length),(5,I k),(6,.o (.c (.ptr 5 0))),(7,B f),(92,.o (.ag ((Enc.e c).map (V1.rd [])))),(93,.o (.c (.el 3 9 k 0)))],[.box [.ref 1,jn w.Tick,jn w.Seed,.ref 2,.ref 3],.row 1 (els w.Level.Rows),.row 1 (els w.Scores),.row 9 (els bs),.gh 0 (.c (.ptr 0 0)),.box ((Enc.e c).map (V1.rd []))]⟩:St)) (Ux [0,1,2,3,4,5]) ?_
   with_reducible refine Xe ?_
   refine Wz [173,6] ?_
   refine AWP.pre (st':=(⟨_,[(0,.o (.c (.ptr 0 0))),(1,L row),(4,I (els w.Scores).length),(5,I k),(6,.o (.c (.ptr 5 0))),(7,B f)],[.box [.ref 1,jn w.Tick,jn w.Seed,.ref 2,.ref 3],.row 1 (els w.Level.Rows),.row 1 (els w.Scores),.row 9 (els (bs.set k c)),.gh 0 (.c (.ptr 0 0)),.box ((Enc.e c).map (V1.rd []))]⟩:St)) ?_ (by rw[Ye]; exact Ux [0,1,2,3,4,5])
   clear he
   cases f with
   |false =>
    refine Wz [17,56,56,56,7,53] ?_
    exact⟨w.Scores.length-(k+1),by omega,_,⟨k+1,bs.set k c,by omega,(by rw[hnx]; rfl),J⟩,Ux [0,1,2,3,4]⟩
   | true =>
    by_cases h24:bs.length<24
    ·have f3:decide (((els (bs.set k c)).length:Int)<24)=true:=Gqb (by omega)
     rw[if_pos ⟨rfl,h24⟩] at hnx
     refine Wz [17,3,0,251,3,120,33,3,15,24,11] ?_;refine Xi u8_28 [[],[],[104],[104,105],[104,105,106],[],[108],[108,109],[104,105,106,107,108,109,110],[103,104,105,106,107,108,109,110,111],[103,104,105,106,107,108,109,110,111,112],[103,104,105,106,107,108,109,110,111,112,113]] [[104,105,106,107,108,109,110,111],[103,108,109,110],[103,108,109,110],[103,108,109,110],[103,108,109,110],[103,104,105,106,107],[103,104,105,106,107],[103,104,105,106,107],[103],[],[],[],[0]] J ?_;refine Wz [1,1,117,32,116] ?_;refine Kw (Zl J J (csh) J J J) J ?_;refine Wz [258,16] ?_;refine AL.weak (st':=(⟨_,[(0,.o (.c (.ptr 0 0))),(1,L row),(4,I (els w.Scores).length),(5,I k),(103,.o (.c (.ptr 0 0))),(107,.o (.c (.ref 3))),(110,.o (.c (.sb 5 1 9)))],[.box [.ref 1,jn w.Tick,jn w.Seed,.ref 2,.ref 3],.row 1 (els w.Level.Rows),.row 1 (els w.Scores),.row 9 (els (bs.set k c)),.gh 0 (.c (.ptr 0 0)),.box ((Enc.e (shotOf c)).map (V1.rd []))]⟩:St)) (Ux [0,1,2,3,4,6]) ?_;refine Wz [135,182,151,121] ?_
     exact⟨w.Scores.length-(k+1),by omega,_,⟨k+1,bs.set k c ++ [shotOf c],by omega,hnx.symm,J⟩,(by rw[Ya]; exact Ux [0,1,2,3,4])⟩
    ·have f3:decide (((els (bs.set k c)).length:Int)<24)=false:=Gqa (by omega)
     rw[if_neg (fun q=>h24 q.2)] at hnx
     refine Wz [17,3,0,251,3,120,33,3,15,24,53] ?_
     exact⟨w.Scores.length-(k+1),by omega,_,⟨k+1,bs.set k c,by omega,hnx.symm,J⟩,Ux [0,1,2,3,4]⟩
 have hb0:decide ((k:Int)<(els w.Scores).length)=false:=Gqa (by omega)
 have hk:k=w.Scores.length:=by omega
 rw[hk] at hp_A
 have hPl:=hPP.pl
 rw[←hp_A] at hPl
 have hmv:movedM w row=mvM w.Level bs:=by rw[movedM,hp_A]
 have hL:=hPl.lm
 have htm:=hPl.tm
 clear hPl hPP hp_A hbo
 have hlb:=Yc bs
 have hln:=hL.len
 refine Wz [13,15,102,38,5,228,4,26] ?_;refine Xj (fun m st=>∃ (j:Nat) (kr:List TBody),j+m=bs.length∧(kr=(bs.take j).filterMap (mvOne w.Level))∧st=(⟨_,[(0,.o (.c (.ptr 0 0))),(1,L row),(4,I (els w.Scores).length),(8,.o (.c (.ref 5))),(9,I j)],[.box [.ref 1,jn w.Tick,jn w.Seed,.ref 2,.ref 3],.row 1 (els w.Level.Rows),.row 1 (els w.Scores),.row 9 (els bs),.gh 0 (.c (.ptr 0 0)),.row 9 (els kr)]⟩:St)) (bs.length) ⟨_,⟨0,[],by omega,J,J⟩,Ux [0,1,2,3,4,5]⟩ ?_
 rintro m_B _ ⟨j,kr,hk_B,hp_B,rfl⟩
 have hlkr:=Yc kr
 have hkl:=mv_len hp_B
 by_cases hlt:j<bs.length
 ·have hb0:decide ((j:Int)<(els bs).length)=true:=Gqb (by omega)
  obtain⟨b,hb⟩:=Kk hlt
  refine Wz [13,50,33,59,105,50,0,68] ?_
  have he:=Yf hb
  with_reducible refine Xf ?_
  refine zx (Q6 J J J J (by assumption) J J) J ?_
  with_reducible refine K_alloc ?_
  refine M1 (Qx J J J) J J ?_
  with_reducible refine Xe ?_
  refine Wz [20] ?_
  refine AWP.pre (st':=(⟨_,[(0,.o (.c (.ptr 0 0))),(1,L row),(4,I (els w.Scores).length),(8,.o (.c (.ref 5))),(9,I j),(10,.o (.c (.ptr 6 0)))],[.box [.ref 1,jn w.Tick,jn w.Seed,.ref 2,.ref 3],.row 1 (els w.Level.Rows),.row 1 (els w.Scores),.row 9 (els bs),.gh 0 (.c (.ptr 0 0)),.row 9 (els kr),.box ((Enc.e b).map (V1.rd []))]⟩:St)) ?_ (Ux [0,1,2,3,4,5,6])
  clear he
  obtain⟨hB,hKn⟩:=hL.at_ j b hb
  have hkd:=hB.k
  have hlf:=hB.f
  have ht:=htm b (Gqo hb)
  by_cases k2:b.Kind=2
  ·have f1:decide (b.Kind=2)=true:=Gqb k2
   have hm:=mv_some hp_B hb (mv_two k2)
   refine Wz [31,12,40,56,107,107,107,101,24,11,18,92,125,135,4,168,145,147,0,130] ?_
   exact⟨bs.length-(j+1),by omega,_,⟨j+1,kr ++ [b],by omega,hm,J⟩,(by rw[Ya]; exact Ux [0,1,2,3,4,5])⟩
  have f1:decide (b.Kind=2)=false:=Gqa k2
  by_cases k0:b.Kind=0∧b.Life=0
  ·have f2:decide ((j:Int)<(els w.Scores).length)=true:=Gqb (by have:=hKn.1 k0.1; omega)
   have f3:decide (b.Life=0)=true:=Gqb k0.2
   have hm:=mv_some hp_B hb (mv_dead k0.1 k0.2)
   refine Wz [31,12,28,79,15,3,58,12,3,24,7,11,18,92,125,135,4,168,145,147,0,130] ?_
   exact⟨bs.length-(j+1),by omega,_,⟨j+1,kr ++ [b],by omega,hm,J⟩,(by rw[Ya]; exact Ux [0,1,2,3,4,5])⟩
  obtain⟨c,s,hcs⟩:∃ c s,(c,s)=moveM w.Level b:=⟨_,_,rfl⟩
  have cm:=S_l02Move w.Level b hg.1 hl hB.k hB.p hB.vx hB.vy
  have hct:(moveM w.Level b).1.Timer=b.Timer:=rfl
  have ma:=@mv_a w.Level b
  have mn:=@mv_n w.Level b
  have ms:=@mv_s w.Level b
  rw[←hcs] at cm hct ma mn ms
  simp only at cm hct ma mn ms
  clear hcs hB
  by_cases hA:b.Kind=0
  ·have f2:decide ((j:Int)<(els w.Scores).length)=true:=Gqb (by have:=hKn.1 hA; omega)
   have f3:decide (b.Life=0)=false:=Gqa (fun q=>k0 ⟨hA,q⟩)
   have f4:decide (b.Kind=1)=false:=Gqa (by omega)
   have hm:=mv_some hp_B hb (ma ⟨hA,by have:b.Life≠0:=fun q=>k0 ⟨hA,q⟩; omega⟩)
   refine Wz [31,12,28,79,15,3,58,12,3,24,7,9,14] ?_
   refine AWP.pre (st':=(⟨_,[(0,.o (.c (.ptr 0 0))),(1,L row),(4,I (els w.Scores).length),(8,.o (.c (.ref 5))),(9,I j),(10,.o (.c (.ptr 6 0)))],[.box [.ref 1,jn w.Tick,jn w.Seed,.ref 2,.ref 3],.row 1 (els w.Level.Rows),.row 1 (els w.Scores),.row 9 (els bs),.gh 0 (.c (.ptr 0 0)),.row 9 (els kr),.box ((Enc.e b).map (V1.rd []))]⟩:St)) ?_ (Ux [0,1,2,3,4,5,6])
   refine Xi u8_29 u8_37 u8_38 J ?_;refine Wz [1,117,183,116,116] ?_;refine Kw (Zl J J (cm) J J J) J ?_;refine Wz [210,156,156,208,16] ?_;refine AL.weak (st':=(⟨_,[(0,.o (.c (.ptr 0 0))),(1,L row),(4,I (els w.Scores).length),(8,.o (.c (.ref 5))),(9,I j),(10,.o (.c (.ptr 6 0))),(11,.o (.c (.ptr 7 0))),(155,.o (.ag ((Enc.e c).map (V1.rd [])))),(156,B s)],[.box [.ref 1,jn w.Tick,jn w.Seed,.ref 2,.ref 3],.row 1 (els w.Level.Rows),.row 1 (els w.Scores),.row 9 (els bs),.gh 0 (.c (.ptr 0 0)),.row 9 (els kr),.box ((Enc.e b).map (V1.rd [])),.box [jn 0,jn 0,jn 0,jn 0,jn 0,jn 0,jn 0,jn 0,jn 0]]⟩:St)) (Ux [0,1,2,3,4,5,6,7]) ?_
   with_reducible refine Xe ?_
   refine Qy J J J J J J J J J ?_
   with_reducible refine K_assign ?_
   refine Wz [4] ?_
   refine AWP.pre (st':=(⟨_,[(0,.o (.c (.ptr 0 0))),(1,L row),(4,I (els w.Scores).length),(8,.o (.c (.ref 5))),(9,I j),(10,.o (.c (.ptr 6 0))),(11,.o (.c (.ptr 7 0))),(12,B s)],[.box [.ref 1,jn w.Tick,jn w.Seed,.ref 2,.ref 3],.row 1 (els w.Level.Rows),.row 1 (els w.Scores),.row 9 (els bs),.gh 0 (.c (.ptr 0 0)),.row 9 (els kr),.box ((Enc.e b).map (V1.rd [])),.box ((Enc.e c).map (V1.rd []))]⟩:St)) ?_ (Ux [0,1,2,3,4,5,6,7])
   refine Wz [31,12,9,23,0,92,125,135,99] ?_
   exact⟨bs.length-(j+1),by omega,_,⟨j+1,kr ++ [c],by omega,hm,J⟩,(by rw[Ya]; exact Ux [0,1,2,3,4,5])⟩
  have k1:b.Kind=1:=by omega
  have f2:decide ((j:Int)<(els w.Scores).length)=false:=Gqa (fun q=>hA (hKn.2 (by omega)))
  have f4:decide (b.Kind=1)=true:=Gqb k1
  have f5:decide (b.Kind=0)=false:=Gqa hA
  refine Wz [31,12,28,79,15,3,40,101,3,7,7,9,14] ?_
  refine AWP.pre (st':=(⟨_,[(0,.o (.c (.ptr 0 0))),(1,L row),(4,I (els w.Scores).length),(8,.o (.c (.ref 5))),(9,I j),(10,.o (.c (.ptr 6 0)))],[.box [.ref 1,jn w.Tick,jn w.Seed,.ref 2,.ref 3],.row 1 (els w.Level.Rows),.row 1 (els w.Scores),.row 9 (els bs),.gh 0 (.c (.ptr 0 0)),.row 9 (els kr),.box ((Enc.e b).map (V1.rd []))]⟩:St)) ?_ (Ux [0,1,2,3,4,5,6])
  refine Xi u8_29 u8_37 u8_38 J ?_;refine Wz [1,117,183,116,116] ?_;refine Kw (Zl J J (cm) J J J) J ?_;refine Wz [210,156,156,208,16] ?_;refine AL.weak (st':=(⟨_,[(0,.o (.c (.ptr 0 0))),(1,L row),(4,I (els w.Scores).length),(8,.o (.c (.ref 5))),(9,I j),(10,.o (.c (.ptr 6 0))),(11,.o (.c (.ptr 7 0))),(155,.o (.ag ((Enc.e c).map (V1.rd [])))),(156,B s)],[.box [.ref 1,jn w.Tick,jn w.Seed,.ref 2,.ref 3],.row 1 (els w.Level.Rows),.row 1 (els w.Scores),.row 9 (els bs),.gh 0 (.c (.ptr 0 0)),.row 9 (els kr),.box ((Enc.e b).map (V1.rd [])),.box [jn 0,jn 0,jn 0,jn 0,jn 0,jn 0,jn 0,jn 0,jn 0]]⟩:St)) (Ux [0,1,2,3,4,5,6,7]) ?_
  with_reducible refine Xe ?_
  refine Qy J J J J J J J J J ?_
  with_reducible refine K_assign ?_
  refine Wz [4] ?_
  refine AWP.pre (st':=(⟨_,[(0,.o (.c (.ptr 0 0))),(1,L row),(4,I (els w.Scores).length),(8,.o (.c (.ref 5))),(9,I j),(10,.o (.c (.ptr 6 0))),(11,.o (.c (.ptr 7 0))),(12,B s)],[.box [.ref 1,jn w.Tick,jn w.Seed,.ref 2,.ref 3],.row 1 (els w.Level.Rows),.row 1 (els w.Scores),.row 9 (els bs),.gh 0 (.c (.ptr 0 0)),.row 9 (els kr),.box ((Enc.e b).map (V1.rd [])),.box ((Enc.e c).map (V1.rd []))]⟩:St)) ?_ (Ux [0,1,2,3,4,5,6,7])
  rw[←hct] at ht
  cases s with
  |true =>
   have hm:=mv_none hp_B hb (mn (fun q=>hA q.1) k1 (.inl rfl))
   refine Wz [31,12,11,29,51,48,17,56,101,24,11,168,145,147,0,130] ?_
   exact⟨bs.length-(j+1),by omega,_,⟨j+1,kr,by omega,hm,J⟩,Ux [0,1,2,3,4,5]⟩
  | false =>
   by_cases h1:c.Timer-1=0
   ·have f6:decide (c.Timer-1=0)=true:=Gqb h1
    have hm:=mv_none hp_B hb (mn (fun q=>hA q.1) k1 (.inr (by rw[←hct]; exact h1)))
    refine Wz [31,12,11,29,51,48,17,3,120,12,7,11,168,145,147,0,130] ?_
    exact⟨bs.length-(j+1),by omega,_,⟨j+1,kr,by omega,hm,J⟩,Ux [0,1,2,3,4,5]⟩
   ·have f6:decide (c.Timer-1=0)=false:=Gqa h1
    have hm:=mv_some hp_B hb (ms (fun q=>hA q.1) k1 (fun q=>q.elim (fun q=>Gxw q) (fun q=>h1 (by rw[hct]; exact q))))
    refine Wz [31,12,11,29,51,48,17,3,120,12,7,9,23,0,92,125,135,99] ?_
    exact⟨bs.length-(j+1),by omega,_,⟨j+1,kr ++ [tick1 c],by omega,hm,J⟩,(by rw[Ya]; exact Ux [0,1,2,3,4,5])⟩
 have hb0:decide ((j:Int)<(els bs).length)=false:=Gqa (by omega)
 have hj:j=bs.length:=by omega
 have hm:kr=movedM w row:=by rw[hp_B,hj,List.take_length,hmv]; rfl
 subst hm
 clear hmv hL htm hp_B
 refine Wz [13,50,33,15,102,38,17,182,48,18] ?_;refine AL.weak (st':=(⟨_,[(0,.o (.c (.ptr 0 0))),(1,L row),(4,I (els w.Scores).length),(178,.o (.c (.ptr 0 0)))],[.box [.ref 1,jn w.Tick,jn w.Seed,.ref 2,.ref 3],.row 1 (els w.Level.Rows),.row 1 (els w.Scores),.row 9 (els (movedM w row)),.gh 0 (.c (.ptr 0 0))]⟩:St)) (Ux [0,1,2,5,4]) ?_;refine Xd (lo := [_,_,_,_]) (gs := [(0,.c (.ptr 0 0))]) (lo' := [_,_,_,_]) (new := []) [0,1,2,3] [(0,0,.ptr 0 0)] (d1) J J J J J J J J J J J J J J J J J ?_;refine Wz [222,50,123,182,48,17,50] ?_;refine AL.weak (st':=(⟨_,[(0,.o (.c (.ptr 0 0))),(1,L row),(4,I (els w.Scores).length),(187,.o (.c (.ptr 0 0))),(191,I w.Seed)],[.box [.ref 1,jn (w.Tick+1),jn w.Seed,.ref 2,.ref 3],.row 1 (els w.Level.Rows),.row 1 (els s4),.row 9 (els b4),.gh 0 (.c (.ptr 0 0))]⟩:St)) (Ux [0,1,2,3,4]) ?_
 clear d1
 refine zx (Qj J J (e1) J) J ?_;refine Wz [182,48,18,182,250] ?_;refine AL.weak (st':=(⟨_,[(0,.o (.c (.ptr 0 0))),(1,L row),(4,I (els w.Scores).length),(198,.o (.ag [.ref 1]))],[.box [.ref 1,jn (w.Tick+1),jn (nextR w.Seed),.ref 2,.ref 3],.row 1 (els w.Level.Rows),.row 1 (els s4),.row 9 (els b4),.gh 0 (.c (.ptr 0 0))]⟩:St)) (Ux [0,1,2,3,4]) ?_
 clear e1
 obtain⟨sd,hsd2⟩:∃ sd,sd=nextR w.Seed:=⟨_,rfl⟩
 rw[←hsd2] at hnr
 rw[←hsd2]
 by_cases q1:(w.Tick+1)%16≠0
 ·have g1:decide ((w.Tick+1)%16≠0)=true:=Gqb q1
  rw[last_1 (.inl q1)]
  refine M1 (Zl J J (e2) J J J) J J ?_;refine Wz [66,50,184,49,40,101,24,40,56,56,24,11,88,55] ?_
  exact Xo J (Ur [0,1,2,3,4] J J J)
 have g1:decide ((w.Tick+1)%16≠0)=false:=Gqa q1
 by_cases q2:(spotsM w.Level).length=0
 ·have g2:decide (((els (spotsM w.Level)).length:Int)=0)=true:=Gqb (by omega)
  rw[last_1 (.inr (.inl q2))]
  refine M1 (Zl J J (e2) J J J) J J ?_;refine Wz [66,50,184,49,28,33,3,12,7,40,56,56,24,11,88,55] ?_
  exact Xo J (Ur [0,1,2,3,4] J J J)
 have g2:decide (((els (spotsM w.Level)).length:Int)=0)=false:=Gqa (by omega)
 by_cases q3:24≤b4.length
 ·have g3:decide (((els b4).length:Int)≥24)=true:=Gqb (by omega)
  rw[last_1 (.inr (.inr q3))]
  refine M1 (Zl J J (e2) J J J) J J ?_;refine Wz [66,50,184,49,28,33,3,12,7,79,0,251,3,120,33,3,162,7,11,88,55] ?_
  exact Xo J (Ur [0,1,2,3,4] J J J)
 have g3:decide (((els b4).length:Int)≥24)=false:=Gqa (by omega)
 have q:¬((w.Tick+1)%16≠0∨(spotsM w.Level).length=0∨24≤b4.length):=fun h=>h.elim q1 fun h=>h.elim q2 q3
 obtain⟨i,hi1,hi2,hi3⟩:=spotOf_mem (seed:=sd) q2
 obtain⟨x,y,hxy,hx,hy⟩:=spot_rng hl (Gqo hi3)
 have e3:=S_RandomBelow sd ((els (spotsM w.Level)).length:Int) hnr ⟨by omega,by omega⟩
 rw[show belowR sd ((els (spotsM w.Level)).length:Int)=i by rw[hlsp]; exact hi1] at e3
 have hsp:(els (spotsM w.Level))[(i:Int).toNat]? = some (Enc.e [x,y]):=Yf (by rw[hi3,hxy])
 have hx0:(els [x,y])[(0:Int).toNat]? = some (Enc.e x):=rfl
 have hy0:(els [x,y])[(1:Int).toNat]? = some (Enc.e y):=rfl
 refine M1 (Zl J J (e2) J J J) J J ?_;refine Wz [66,50,184,49,28,33,3,12,7,79,0,251,3,120,33,3,162,7,9,18,50,0,33] ?_;refine M1 (Zl J J (e3) J J J) J J ?_;refine Wz [219,165,165,87,4,17,182,48,75,216] ?_
 refine AWP.pre (st':=(⟨_,[(0,.o (.c (.ptr 0 0))),(4,I (els w.Scores).length),(13,.o (.c (.ref 5))),(15,I (i:Int)),(16,I (els w.Scores).length)],[.box [.ref 1,jn (w.Tick+1),jn (nextR sd),.ref 2,.ref 3],.row 1 (els w.Level.Rows),.row 1 (els s4),.row 9 (els b4),.gh 0 (.c (.ptr 0 0)),.row 1 (els (spotsM w.Level))]⟩:St)) ?_ (Ux [0,1,2,3,4,5])
 refine Xj (fun m st=>∃ t:Nat,t+m=(b4.length-w.Scores.length)∧(itemAt (b4.take (w.Scores.length+t)) x y=false)∧st=(⟨_,[(0,.o (.c (.ptr 0 0))),(4,I (els w.Scores).length),(13,.o (.c (.ref 5))),(15,I (i:Int)),(16,I (((els w.Scores).length+t:Nat):Int))],[.box [.ref 1,jn (w.Tick+1),jn (nextR sd),.ref 2,.ref 3],.row 1 (els w.Level.Rows),.row 1 (els s4),.row 9 (els b4),.gh 0 (.c (.ptr 0 0)),.row 1 (els (spotsM w.Level))]⟩:St)) ((b4.length-w.Scores.length)) ⟨(fun t:Nat=>(⟨_,[(0,.o (.c (.ptr 0 0))),(4,I (els w.Scores).length),(13,.o (.c (.ref 5))),(15,I (i:Int)),(16,I (((els w.Scores).length+t:Nat):Int))],[.box [.ref 1,jn (w.Tick+1),jn (nextR sd),.ref 2,.ref 3],.row 1 (els w.Level.Rows),.row 1 (els s4),.row 9 (els b4),.gh 0 (.c (.ptr 0 0)),.row 1 (els (spotsM w.Level))]⟩:St)) 0,⟨0,by omega,at_pl hM1 x y,J⟩,Up [0,1,2,3,4,5] J (by kernel_rfl) (.c J (.c J (.c J (.c J (.cons (Xs (by omega)) (.nil))))))⟩ ?_
 rintro m_C _ ⟨t,hk_C,hp_C,rfl⟩
 by_cases hlt:t<b4.length-w.Scores.length
 ·have hb0:decide ((((els w.Scores).length+t:Nat):Int)<(els b4).length)=true:=Gqb (by omega)
  obtain⟨b,hbb⟩:=Kk (xs:=b4) (i:=w.Scores.length+t) (by omega)
  have he:=at_el hbb
  refine Wz [13,50,33,59,81] ?_
  by_cases k1:b.Kind=2
  case neg =>
   have p1:decide (b.Kind=2)=false:=Gqa k1
   refine Wz [280,1,117,32,1,152,281,201,282,1,127,164,240,181,73,1,127,164,240,181,73,16,53] ?_
   exact⟨(b4.length-w.Scores.length)-(t+1),by omega,(fun t:Nat=>(⟨_,[(0,.o (.c (.ptr 0 0))),(4,I (els w.Scores).length),(13,.o (.c (.ref 5))),(15,I (i:Int)),(16,I (((els w.Scores).length+t:Nat):Int))],[.box [.ref 1,jn (w.Tick+1),jn (nextR sd),.ref 2,.ref 3],.row 1 (els w.Level.Rows),.row 1 (els s4),.row 9 (els b4),.gh 0 (.c (.ptr 0 0)),.row 1 (els (spotsM w.Level))]⟩:St)) (t+1),⟨t+1,by omega,at_go hbb (fun h=>k1 h.1) hp_C,J⟩,Up [0,1,2,3,4,5] J (by kernel_rfl) (.c J (.c J (.c J (.c J (.cons (Xs (by omega)) (.nil))))))⟩
  have p1:decide (b.Kind=2)=true:=Gqb k1
  by_cases k2:b.X=x
  case neg =>
   have p2:decide (b.X=x)=false:=Gqa k2
   refine Wz [280,1,117,32,1,152,281,201,282,1,37,170,27,37,146,196,167,37,37,146,167,128,138,261,96,1,127,164,240,181,73,16,53] ?_
   exact⟨(b4.length-w.Scores.length)-(t+1),by omega,(fun t:Nat=>(⟨_,[(0,.o (.c (.ptr 0 0))),(4,I (els w.Scores).length),(13,.o (.c (.ref 5))),(15,I (i:Int)),(16,I (((els w.Scores).length+t:Nat):Int))],[.box [.ref 1,jn (w.Tick+1),jn (nextR sd),.ref 2,.ref 3],.row 1 (els w.Level.Rows),.row 1 (els s4),.row 9 (els b4),.gh 0 (.c (.ptr 0 0)),.row 1 (els (spotsM w.Level))]⟩:St)) (t+1),⟨t+1,by omega,at_go hbb (fun h=>k2 h.2.1) hp_C,J⟩,Up [0,1,2,3,4,5] J (by kernel_rfl) (.c J (.c J (.c J (.c J (.cons (Xs (by omega)) (.nil))))))⟩
  have p2:decide (b.X=x)=true:=Gqb k2
  by_cases k3:b.Y=y
  case neg =>
   have p3:decide (b.Y=y)=false:=Gqa k3
   refine Wz [280,1,117,32,1,152,281,201,282,1,37,170,27,37,146,196,167,37,37,146,167,128,138,261,96,1,37,170,27,37,146,196,167,37,37,146,167,128,138,261,96,16,53] ?_
   exact⟨(b4.length-w.Scores.length)-(t+1),by omega,(fun t:Nat=>(⟨_,[(0,.o (.c (.ptr 0 0))),(4,I (els w.Scores).length),(13,.o (.c (.ref 5))),(15,I (i:Int)),(16,I (((els w.Scores).length+t:Nat):Int))],[.box [.ref 1,jn (w.Tick+1),jn (nextR sd),.ref 2,.ref 3],.row 1 (els w.Level.Rows),.row 1 (els s4),.row 9 (els b4),.gh 0 (.c (.ptr 0 0)),.row 1 (els (spotsM w.Level))]⟩:St)) (t+1),⟨t+1,by omega,at_go hbb (fun h=>k3 h.2.2) hp_C,J⟩,Up [0,1,2,3,4,5] J (by kernel_rfl) (.c J (.c J (.c J (.c J (.cons (Xs (by omega)) (.nil))))))⟩
  have p3:decide (b.Y=y)=true:=Gqb k3
  rw[last_2 q hxy (at_hit hbb ⟨k1,k2,k3⟩)]
  refine Wz [280,1,117,32,1,152,281,201,282,1,37,170,27,37,146,196,167,37,37,146,167,128,138,261,96,1,37,170,27,37,146,196,167,37,37,146,167,128,138,261,96,16,11,88,119] ?_
  exact Xo J (Ur [0,1,2,3,4] J J J)
 ·have hb0:decide ((((els w.Scores).length+t:Nat):Int)<(els b4).length)=false:=Gqa (by omega)
  have hk:w.Scores.length+t=b4.length:=by omega
  rw[hk,List.take_length] at hp_C
  rw[last_3 q hxy hp_C]
  refine Wz [13,50,33,15,102,38] ?_;refine Xi [[],[],[1],[1,2],[1,2,3],[],[],[5,6],[5,6,7],[5,6,7,8],[5,6,7,8,9],[],[],[11,12],[11,12,13],[11,12,13,14],[11,12,13,14,15],[5,6,7,8,9,10,11,12,13,14,15,16],[5,6,7,8,9,10,11,12,13,14,15,16,17],[1,2,3,4,5,6,7,8,9,10,11,12,13,14,15,16,17,18],(u9 20),(u9 21),(u9 22)] [[],[],[287],[287,288],[287,288,289],[],[],[291,292],[291,292,293],[291,292,293,294],[291,292,293,294,295],[],[],[297,298],[297,298,299],[297,298,299,300],[297,298,299,300,301],[291,292,293,294,295,296,297,298,299,300,301,302],[291,292,293,294,295,296,297,298,299,300,301,302,303],[287,288,289,290,291,292,293,294,295,296,297,298,299,300,301,302,303,304],[286,287,288,289,290,291,292,293,294,295,296,297,298,299,300,301,302,303,304,305],[286,287,288,289,290,291,292,293,294,295,296,297,298,299,300,301,302,303,304,305,306],[286,287,288,289,290,291,292,293,294,295,296,297,298,299,300,301,302,303,304,305,306,307]] [[287,288,289,290,291,292,293,294,295,296,297,298,299,300,301,302,303,304,305],[286,291,292,293,294,295,296,297,298,299,300,301,302,303,304],[286,291,292,293,294,295,296,297,298,299,300,301,302,303,304],[286,291,292,293,294,295,296,297,298,299,300,301,302,303,304],[286,291,292,293,294,295,296,297,298,299,300,301,302,303,304],[286,287,288,289,290,292,297,298,299,300,301,302],[286,287,288,289,290,291,297,298,299,300,301,302],[286,287,288,289,290,297,298,299,300,301,302],[286,287,288,289,290,297,298,299,300,301,302],[286,287,288,289,290,297,298,299,300,301,302],[286,287,288,289,290,297,298,299,300,301,302],[286,287,288,289,290,291,292,293,294,295,296,298],[286,287,288,289,290,291,292,293,294,295,296,297],[286,287,288,289,290,291,292,293,294,295,296],[286,287,288,289,290,291,292,293,294,295,296],[286,287,288,289,290,291,292,293,294,295,296],[286,287,288,289,290,291,292,293,294,295,296],[286,287,288,289,290],[286,287,288,289,290],[286],[],[],[],[0]] J ?_;refine Wz [1,1,117,32,1,1,152,201,303,64,1,1,152,201,303,64] ?_;refine Kw (Zj J J J J J) J ?_;refine Wz [258,16] ?_;refine AL.weak (st':=(⟨_,[(286,.o (.c (.ptr 0 0))),(290,.o (.c (.ref 3))),(304,.o (.c (.sb 5 1 9)))],[.box [.ref 1,jn (w.Tick+1),jn (nextR sd),.ref 2,.ref 3],.row 1 (els w.Level.Rows),.row 1 (els s4),.row 9 (els b4),.gh 0 (.c (.ptr 0 0)),.box ((Enc.e (itemB x y)).map (V1.rd []))]⟩:St)) (Ux [0,1,2,3,4,6]) ?_;refine Wz [135,182,151,89,209] ?_
  exact Xo J (Ur [0,1,2,3,4] J (by exact rwBo (by rw[Ya]; rfl)) J)
end
section
open Go.RowKit

theorem S_StepWorld (w:TWorld) (row:List Int) (hg:Enc.gd w) (gr:Enc.gd row) (h1:w.Level.Rows.length≤1048576) (h2:w.Scores.length≤1048576) (h3:w.Bodies.length≤1048576):Con Tryz.prog 214 [] [ag w,al row] [.row 1 (els w.Level.Rows),.row 1 (els (stepW w row).Scores),.row 9 (els (stepW w row).Bodies)] (.o (.ag [.ref 0,jn (stepW w row).Tick,jn (stepW w row).Seed,.ref 1,.ref 2])):=by
 have hls:=Yc w.Scores
 have hlb:=Yc w.Bodies
 have c1:=S_copyWorld w hg h1 h2 h3
 have c2:=S_WorldOk w hg
 have c3:=S_rowOk row ((els w.Scores).length:Int) gr
 rw[show rowOk row ((els w.Scores).length:Int)=rowOk row (w.Scores.length:Int) by rw[hls]] at c3
 cases ho:worldOk w with
 |false =>
  rw[step_F (fun q=>by rw[ho] at q; cases q.1)]
  rw[ho] at c2
  refine Con.of Tryz.func214 J Tryz.ntmps214 J (fun E => ?_)
  refine Wz [98,60,30] ?_;refine M1 (Zl J J (c1) J J J) J J ?_;refine Wz [46,20,93] ?_;refine zx (Qj J J (c2) J) J ?_;refine Wz [2,40,101,24,40,56,56,24,11,30,20,88,55] ?_
  exact Xm J J J J (Ur [2,3,4] J J J)
 |true =>
 rw[ho] at c2
 by_cases ht:w.Tick=100000
 ·have f1:decide (w.Tick=100000)=true:=Gqb ht
  rw[step_F (fun q=>q.2.1 ht)]
  refine Con.of Tryz.func214 J Tryz.ntmps214 J (fun E => ?_)
  refine Wz [98,60,30] ?_;refine M1 (Zl J J (c1) J J J) J J ?_;refine Wz [46,20,93] ?_;refine zx (Qj J J (c2) J) J ?_;refine Wz [2,58,12,7,40,56,56,24,11,30,20,88,55] ?_
  exact Xm J J J J (Ur [2,3,4] J J J)
 have f1:decide (w.Tick=100000)=false:=Gqa ht
 cases hr:rowOk row (w.Scores.length:Int) with
 |false =>
  rw[step_F (fun q=>by rw[hr] at q; cases q.2.2)]
  rw[hr] at c3
  refine Con.of Tryz.func214 J Tryz.ntmps214 J (fun E => ?_)
  refine Wz [98,60,30] ?_;refine M1 (Zl J J (c1) J J J) J J ?_;refine Wz [46,20,93] ?_;refine zx (Qj J J (c2) J) J ?_;refine Wz [2,58,12,7,28,120,10,3] ?_;refine zx (Qj J J (c3) J) J ?_;refine Wz [3,2,7,11,30,20,88,55] ?_
  exact Xm J J J J (Ur [2,3,4] J J J)
 |true =>
 rw[hr] at c3
 rw[step_T ⟨ho,ht,hr⟩]
 have d1:=S_l02Step w row hg ho ht hr
 refine Con.of Tryz.func214 J Tryz.ntmps214 J (fun E => ?_)
 refine Wz [98,60,30] ?_;refine M1 (Zl J J (c1) J J J) J J ?_;refine Wz [46,20,93] ?_;refine zx (Qj J J (c2) J) J ?_;refine Wz [2,58,12,7,28,120,10,3] ?_;refine zx (Qj J J (c3) J) J ?_;refine Wz [3,2,7,9,18] ?_;refine AL.weak (st':=(⟨_,[(4,.o (.c (.ptr 4 0))),(5,.o (.c (.ptr 0 0))),(25,L row)],[.box [.ref 1,jn w.Tick,jn w.Seed,.ref 2,.ref 3],.row 1 (els w.Level.Rows),.row 1 (els w.Scores),.row 9 (els w.Bodies),.box [nilV,jn 0,jn 0,nilV,nilV]]⟩:St)) (Ux [5,2,3,4,1]) ?_
 clear c1 c2 c3 f1
 refine Xd (lo := [_,_,_,_]) (gs := [(0,.c (.ptr 0 0))]) (lo' := [_,_,_,_]) (new := []) [0,1,2,3] [(0,0,.ptr 0 0)] (d1) J J J J J J J J J J J J J J J J J ?_;refine Wz [6,30,20,94] ?_
 exact Xm J J J J (Ur [1,2,3] J J J)
end
end Go.Proofs.YtoecjaohdnoenaaGreat
