/-
  Rules, data and contracts of functions: part 29 of the proof.
  Conditions: those that each theorem names.
-/
import Derived.Test.YtfklmiijhcajdaaGreatDDTellRowk27
set_option linter.unusedSimpArgs false
set_option linter.unusedVariables false
set_option maxRecDepth 8000
set_option maxHeartbeats 8000000
namespace Go.Proofs.YtfklmiijhcajdaaGreat
section
open Go.RowKit

theorem I_Chance (s p:Int) (h:0≤s∧s≤65535):Con Tryz.prog 237 [] [ai s,ai p] [] (.tu [.c (jn (nextR s)),.c (bv (decide (belowR s 100<p)))]):=by
 have c1:=Xn s 100 h ⟨Aqa,Aqa⟩
 refine Con.of Tryz.func237 J Tryz.ntmps237 J (fun E => ?_)
 refine Wz [3,32,40] ?_;refine M1 (Zs J J (c1) J J J) J J ?_;refine Wz [139,71,71,32,2,169,153,32,53] ?_
 exact E_tmp2 J J J (X1 [] Aqc J J J)
theorem S_Chance (s p:Int) (h:0≤s∧s≤65535):Con Tryz.prog 215 [] [ai s,ai p] [] (.tu [.c (jn (nextR s)),.c (bv (decide (belowR s 100<p)))]):=by
 have c1:=Xz s 100 h ⟨Aqa,Aqa⟩
 refine Con.of Tryz.func215 J Tryz.ntmps215 J (fun E => ?_)
 refine Wz [3,32,40] ?_;refine M1 (Zs J J (c1) J J J) J J ?_;refine Wz [139,71,71,32,2,169,153,32,53] ?_
 exact E_tmp2 J J J (X1 [] Aqc J J J)
theorem I_SpoilByte (s:Int) (d:ByteArray) (hd:d.size≤1099511627776):Con Tryz.prog 238 [] [ai s,astr d] [] (.tu [.c (jn (spoilB s d).1),astr (spoilB s d).2]):=by
 have c1:=Xo s 0 65535
 have c2:=Xo (d.size:Int) 1 4096
 by_cases h1:0≤s∧s≤65535
 case neg =>
  rw[show inR s 0 65535=false by rw[←Gxd,Yx]; exact h1] at c1
  rw[show spoilB s d=(s,d) by rw[spoilB,if_neg fun h=>h1 h.1]]
  refine Con.of Tryz.func238 J Tryz.ntmps238 J (fun E => ?_)
  refine Wz [3,32,73] ?_;refine zx (Qj J J (c1) J) J ?_;refine Wz [5,0,47,47,60,24,9,32,2,135,69] ?_
  exact E_tmp2 J J J (X1 [] Aqc J J J)
 rw[Yx.2 h1] at c1
 by_cases h2:1≤d.size∧d.size≤4096
 case neg =>
  rw[show inR (d.size:Int) 1 4096=false by rw[←Gxd,Yx]; omega] at c2
  rw[show spoilB s d=(s,d) by rw[spoilB,if_neg fun h=>h2 h.2]]
  refine Con.of Tryz.func238 J Tryz.ntmps238 J (fun E => ?_)
  refine Wz [3,32,73] ?_;refine zx (Qj J J (c1) J) J ?_;refine Wz [5,28,116,1] ?_;refine zx (Qj J J (c2) J) J ?_;refine Wz [1,5,22,24,9,32,2,135,69] ?_
  exact E_tmp2 J J J (X1 [] Aqc J J J)
 rw[Yx.2 Aqa] at c2
 have c3:=Xn s d.size h1 Aqa 
 have c4:=Xn (nextR s) 255 (Y9 s) ⟨Aqa,Aqa⟩
 have hk:=Yd (s:=s) (n:=(d.size:Int)) Aqa 
 have hn:=Yd (s:=nextR s) (n:=255) Aqa 
 rw[show spoilB s d=(nextR (nextR s),bs (spoilL s d)) by rw[spoilB,if_pos ⟨h1,h2⟩]]
 unfold spoilL
 obtain⟨k,hkk⟩:∃ k,k=belowR s d.size:=⟨_,rfl⟩
 obtain⟨n,hnn⟩:∃ n,n=belowR (nextR s) 255:=⟨_,rfl⟩
 rw[←hkk] at c3 hk ⊢
 rw[←hnn] at c4 hn ⊢
 have hbl:d.data.toList.length=d.size:=Aqd
 have hkl:k.toNat<d.data.toList.length:=Aqa
 have hat:=bE_at hkl
 rw[show ((k.toNat:Nat):Int)=k by omega] at hat
 have hrow:(bE d.data.toList).length=d.size:=by rw[Yc]; exact hbl
 obtain⟨c,hc⟩:∃ c:UInt8,c=d.data.toList[k.toNat]:=⟨_,rfl⟩
 have hby:byteAt d k.toNat=(c.toNat:Int):=by
  obtain⟨b,hb1,hb2⟩:=byteAt_list (s:=d) (i:=k.toNat) Aqa 
  rw[Gqf hkl,Option.some.injEq] at hb1
  rw[hb2,hc,hb1]
 rw[←hc] at hat
 rw[hby,Int.toNat_natCast]
 have hc2:=c.toNat_lt
 have hy:(UInt8.ofNat (c.toNat^^^(n.toNat+1))).toNat=c.toNat^^^(n.toNat+1):=by
  have:c.toNat^^^(n.toNat+1)<2 ^ 8:=Nat.xor_lt_two_pow Aqa Aqa 
  rw[UInt8.toNat_ofNat']
  exact Nat.mod_eq_of_lt this
 have hend:(bE d.data.toList).set k.toNat (splice [.v (.int .u8 (c.toNat:Int))] 0 [.v (.int .u8 (((c.toNat:Int).toNat^^^(n+1).toNat:Nat):Int))])=bE (d.data.toList.set k.toNat (UInt8.ofNat (c.toNat^^^(n.toNat+1)))):=by
  rw[bE_set,hy,show (n+1).toNat=n.toNat+1 by omega]
  rfl
 clear hby hc hkk hnn
 generalize d.data.toList.set k.toNat (UInt8.ofNat (c.toNat^^^(n.toNat+1)))=R at hend ⊢
 refine Con.of Tryz.func238 J Tryz.ntmps238 J (fun E => ?_)
 refine Wz [3,32,73] ?_;refine zx (Qj J J (c1) J) J ?_;refine Wz [5,28,116,1] ?_;refine zx (Qj J J (c2) J) J ?_;refine Wz [1,5,22,33,9,116] ?_;refine M1 (Zs J J (c3) J J J) J J ?_;refine Wz [139,71,71,32,40] ?_;refine M1 (Zs J J (c4) J J J) J J ?_;refine Wz [139,71,71,32,40,274,2,9,262] ?_;refine zx (Q7 J J J J Aqe J) J ?_;refine Wz [0,18,174] ?_;refine zx (q_bxor8 J J J J Aqa) J ?_;refine Wz [262,204,6,17] ?_
 refine AWP.pre (st':=(⟨46,[(0,I (nextR (nextR s))),(8,Aqg 0)],[.row 1 (bE R)]⟩:St)) ?_ (X4 [0] Aqc J (Kj hend.symm) (.c J (.c J (.nil))))
 refine Xg u8_52 [[],[],[44],[43],[4,43,44,45]] [[44,45],[4,43],[4,43],[44,45],[]] J ?_;refine Wz [4,4] ?_;refine DR.s (q_bstr J J J J) J J ?_;refine Wz [156,156,13,6,49] ?_
 exact E_tmp2 J J J (X1 [] Aqc J J J)
theorem S_SpoilByte (s:Int) (d:ByteArray) (hd:d.size≤1099511627776):Con Tryz.prog 217 [] [ai s,astr d] [] (.tu [.c (jn (spoilB s d).1),astr (spoilB s d).2]):=by
 have c1:=X0 s 0 65535
 have c2:=X0 (d.size:Int) 1 4096
 by_cases h1:0≤s∧s≤65535
 case neg =>
  rw[show inR s 0 65535=false by rw[←Gxd,Yx]; exact h1] at c1
  rw[show spoilB s d=(s,d) by rw[spoilB,if_neg fun h=>h1 h.1]]
  refine Con.of Tryz.func217 J Tryz.ntmps217 J (fun E => ?_)
  refine Wz [3,32,73] ?_;refine zx (Qj J J (c1) J) J ?_;refine Wz [5,0,47,47,60,24,9,32,2,135,69] ?_
  exact E_tmp2 J J J (X1 [] Aqc J J J)
 rw[Yx.2 h1] at c1
 by_cases h2:1≤d.size∧d.size≤4096
 case neg =>
  rw[show inR (d.size:Int) 1 4096=false by rw[←Gxd,Yx]; omega] at c2
  rw[show spoilB s d=(s,d) by rw[spoilB,if_neg fun h=>h2 h.2]]
  refine Con.of Tryz.func217 J Tryz.ntmps217 J (fun E => ?_)
  refine Wz [3,32,73] ?_;refine zx (Qj J J (c1) J) J ?_;refine Wz [5,28,116,1] ?_;refine zx (Qj J J (c2) J) J ?_;refine Wz [1,5,22,24,9,32,2,135,69] ?_
  exact E_tmp2 J J J (X1 [] Aqc J J J)
 rw[Yx.2 Aqa] at c2
 have c3:=Xz s d.size h1 Aqa 
 have c4:=Xz (nextR s) 255 (Y9 s) ⟨Aqa,Aqa⟩
 have hk:=Yd (s:=s) (n:=(d.size:Int)) Aqa 
 have hn:=Yd (s:=nextR s) (n:=255) Aqa 
 rw[show spoilB s d=(nextR (nextR s),bs (spoilL s d)) by rw[spoilB,if_pos ⟨h1,h2⟩]]
 unfold spoilL
 obtain⟨k,hkk⟩:∃ k,k=belowR s d.size:=⟨_,rfl⟩
 obtain⟨n,hnn⟩:∃ n,n=belowR (nextR s) 255:=⟨_,rfl⟩
 rw[←hkk] at c3 hk ⊢
 rw[←hnn] at c4 hn ⊢
 have hbl:d.data.toList.length=d.size:=Aqd
 have hkl:k.toNat<d.data.toList.length:=Aqa
 have hat:=bE_at hkl
 rw[show ((k.toNat:Nat):Int)=k by omega] at hat
 have hrow:(bE d.data.toList).length=d.size:=by rw[Yc]; exact hbl
 obtain⟨c,hc⟩:∃ c:UInt8,c=d.data.toList[k.toNat]:=⟨_,rfl⟩
 have hby:byteAt d k.toNat=(c.toNat:Int):=by
  obtain⟨b,hb1,hb2⟩:=byteAt_list (s:=d) (i:=k.toNat) Aqa 
  rw[Gqf hkl,Option.some.injEq] at hb1
  rw[hb2,hc,hb1]
 rw[←hc] at hat
 rw[hby,Int.toNat_natCast]
 have hc2:=c.toNat_lt
 have hy:(UInt8.ofNat (c.toNat^^^(n.toNat+1))).toNat=c.toNat^^^(n.toNat+1):=by
  have:c.toNat^^^(n.toNat+1)<2 ^ 8:=Nat.xor_lt_two_pow Aqa Aqa 
  rw[UInt8.toNat_ofNat']
  exact Nat.mod_eq_of_lt this
 have hend:(bE d.data.toList).set k.toNat (splice [.v (.int .u8 (c.toNat:Int))] 0 [.v (.int .u8 (((c.toNat:Int).toNat^^^(n+1).toNat:Nat):Int))])=bE (d.data.toList.set k.toNat (UInt8.ofNat (c.toNat^^^(n.toNat+1)))):=by
  rw[bE_set,hy,show (n+1).toNat=n.toNat+1 by omega]
  rfl
 clear hby hc hkk hnn
 generalize d.data.toList.set k.toNat (UInt8.ofNat (c.toNat^^^(n.toNat+1)))=R at hend ⊢
 refine Con.of Tryz.func217 J Tryz.ntmps217 J (fun E => ?_)
 refine Wz [3,32,73] ?_;refine zx (Qj J J (c1) J) J ?_;refine Wz [5,28,116,1] ?_;refine zx (Qj J J (c2) J) J ?_;refine Wz [1,5,22,33,9,116] ?_;refine M1 (Zs J J (c3) J J J) J J ?_;refine Wz [139,71,71,32,40] ?_;refine M1 (Zs J J (c4) J J J) J J ?_;refine Wz [139,71,71,32,40,274,2,9,127,262] ?_;refine zx (Q7 J J J J Aqe J) J ?_;refine Wz [0,18,174] ?_;refine zx (q_bxor8 J J J J Aqa) J ?_;refine Wz [262,204,6,17] ?_
 refine AWP.pre (st':=(⟨50,[(8,I (nextR (nextR s))),(10,Aqg 0)],[.row 1 (bE R)]⟩:St)) ?_ (X4 [0] Aqc J (Kj hend.symm) (.c J (.c J (.nil))))
 refine Xg u8_52 [[],[],[48],[47],[4,47,48,49]] [[48,49],[4,47],[4,47],[48,49],[]] J ?_;refine Wz [4,4] ?_;refine DR.s (q_bstr J J J J) J J ?_;refine Wz [156,156,13,6,49] ?_
 exact E_tmp2 J J J (X1 [] Aqc J J J)
/-! ### SendWire -/
@[reducible] def wS (w:TWire) (s n l:Int) (a:V1):List V1 := [jn s,jn w.Delay,jn w.Jitter,jn w.Loss,jn w.Copies,jn w.Damage,jn w.Now,a,jn n,jn l]
theorem send_is {w v:TWire} (h:FlyS (sent1 w) v):v={ w with Seed:=v.Seed,Sent:=min (w.Sent+1) 1000000,Flights:=v.Flights,Lost:=v.Lost }:=TWire.same rfl h.de h.ji h.lo h.co h.da h.no rfl h.se rfl
theorem sendW_no {w:TWire} {d:ByteArray} (h:¬(wireOk w=true∧1≤d.size∧d.size≤4096)):sendW w d=w:=if_neg h
theorem sendW_lost {w:TWire} {d:ByteArray} (h:wireOk w=true∧1≤d.size∧d.size≤4096) (hl:belowR w.Seed 100<w.Loss):sendW w d={ w with Seed:=nextR w.Seed,Sent:=min (w.Sent+1) 1000000,Lost:=min (w.Lost+1) 1000000 }:=by
 rw[sendW,if_pos h,sendV,if_pos hl]; rfl
theorem sendW_fly {w:TWire} {d:ByteArray} (h:wireOk w=true∧1≤d.size∧d.size≤4096) (hl:¬belowR w.Seed 100<w.Loss) {K:Nat} (hK:K=if belowR (nextR w.Seed) 100<w.Copies then 2 else 1):sendW w d=flyN { sent1 w with Seed:=nextR (nextR w.Seed) } d K:=by
 rw[sendW,if_pos h,sendV,if_neg hl,hK]
theorem flyN_full {w v:TWire} {d:ByteArray} {k:Nat} (h:v=flyN w d k) (hl:v.Flights.length=200) {q:Int×ByteArray} (hq:q=fly1 v d v.Seed):({ v with Seed:=q.1,Lost:=min (v.Lost+1) 1000000 }:TWire)=flyN w d (k+1):=by
 rw[flyN,←h,flyW,if_pos hl,hq]; rfl
theorem flyN_room {w v:TWire} {d:ByteArray} {k:Nat} (h:v=flyN w d k) (hl:¬v.Flights.length=200) {q:Int×ByteArray} (hq:q=fly1 v d v.Seed):({ v with Seed:=q.1,Flights:=v.Flights ++ [⟨v.Now+v.Delay+belowR v.Seed (v.Jitter+1),q.2⟩] }:TWire)=flyN w d (k+1):=by
 rw[flyN,←h,flyW,if_neg hl,hq]
theorem I_SendWire (w:TWire) (d:ByteArray) (g:Enc.gd w) (hw:Enc.wt w≤1048576) (hd:d.size≤1048576):Con Tryz.prog 141 [] [ag w,astr d] [.row 2 (els (sendW w d).Flights)] (.o (.ag (wX (sendW w d) (.ref 0)))):=by
 have c0:=I_copyWire w hw
 have c1:=I_WireOk w g
 have c2:=Xo (d.size:Int) 1 4096
 cases hok:wireOk w with
 |false =>
  rw[hok] at c1
  rw[sendW_no (fun h=>by rw[hok] at h; cases h.1)]
  refine Con.of Tryz.func141 J Tryz.ntmps141 J (fun E => ?_)
  refine Wz [76,52,90] ?_;refine M1 (Zs J J (c0) J J J) J J ?_;refine Wz [36,48,107,37] ?_;refine zx (Qj J J (c1) J) J ?_;refine Wz [5,0,47,47,60,24,100,135,69] ?_
  exact Xk J J J J (X1 [2] Aqc J J J)
 |true =>
 rw[hok] at c1
 by_cases h2:1≤d.size∧d.size≤4096
 case neg =>
  rw[show inR (d.size:Int) 1 4096=false by rw[←Gxd,Yx]; omega] at c2
  rw[sendW_no (fun h=>h2 h.2)]
  refine Con.of Tryz.func141 J Tryz.ntmps141 J (fun E => ?_)
  refine Wz [76,52,90] ?_;refine M1 (Zs J J (c0) J J J) J J ?_;refine Wz [36,48,107,37] ?_;refine zx (Qj J J (c1) J) J ?_;refine Wz [5,28,116,1] ?_;refine zx (Qj J J (c2) J) J ?_;refine Wz [1,5,22,24,100,135,69] ?_
  exact Xk J J J J (X1 [2] Aqc J J J)
 rw[Yx.2 Aqa] at c2
 have hall:wireOk w=true∧1≤d.size∧d.size≤4096:=⟨hok,h2⟩
 obtain⟨⟨q1,q2,q3⟩,⟨q4,q5,q6⟩,⟨q7,q8,q9⟩,q10,q11⟩:WireP w:=Gqc hok
 rw[Yx] at q1 q2 q3 q4 q5 q6 q7 q8 q9
 have hel:=Yi w.Flights
 have c3:=I_Chance w.Seed w.Loss q1
 have r1:=Y9 w.Seed
 have r2:=Y9 (nextR w.Seed)
 by_cases hl:belowR w.Seed 100<w.Loss
 ·rw[Gqb hl] at c3
  rw[sendW_lost hall hl]
  refine Con.of Tryz.func141 J Tryz.ntmps141 J (fun E => ?_)
  refine Wz [76,52,90] ?_;refine M1 (Zs J J (c0) J J J) J J ?_;refine Wz [36,48,107,37] ?_;refine zx (Qj J J (c1) J) J ?_;refine Wz [5,28,116,1] ?_;refine zx (Qj J J (c2) J) J ?_;refine Wz [1,5,22,33,23,18,180,45,19] ?_;refine M1 (Zs J J (c3) J J J) J J ?_;refine Wz [139,71,71,32,73,24,10,45,18,180,30,100,135,69] ?_
  exact Xk J J J J (X1 [2] Aqc J J J)
 rw[Gqa hl] at c3
 have c4:=I_Chance (nextR w.Seed) w.Copies r1
 obtain⟨K,hK⟩:∃ K:Nat,K=if belowR (nextR w.Seed) 100<w.Copies then 2 else 1:=⟨_,rfl⟩
 have hK2:K≤2:=by rw[hK]; split <;> omega
 rw[sendW_fly hall hl hK]
 obtain⟨w2,hw2⟩:∃ w2,w2=({ sent1 w with Seed:=nextR (nextR w.Seed) }:TWire):=⟨_,rfl⟩
 have i1:w2.Seed=nextR (nextR w.Seed):=by rw[hw2]
 have i2:w2.Flights=w.Flights:=by rw[hw2]; rfl
 have i3:w2.Lost=w.Lost:=by rw[hw2]; rfl
 refine Con.of Tryz.func141 J Tryz.ntmps141 J (fun E => ?_)
 refine Wz [76,52,90] ?_;refine M1 (Zs J J (c0) J J J) J J ?_;refine Wz [36,48,107,37] ?_;refine zx (Qj J J (c1) J) J ?_;refine Wz [5,28,116,1] ?_;refine zx (Qj J J (c2) J) J ?_;refine Wz [1,5,22,33,23,18,180,45,19] ?_;refine M1 (Zs J J (c3) J J J) J J ?_;refine Wz [139,71,71,32,73,33,10,19] ?_;refine M1 (Zs J J (c4) J J J) J J ?_;refine Wz [139,71,71,32,2,125,6] ?_
 refine A_join (⟨110,[(1,S d),(2,Aqf 0),(4,Aqf 1),(5,Aqf 3),(6,I (nextR (nextR w.Seed))),(9,I K)],[.box (wX w (sr w.Flights)),.box (wS ⟨0,0,0,0,0,0,0,[],0,0⟩ 0 0 0 nv),.row 2 (els w.Flights),.box (wS w w.Seed (min (w.Sent+1) 1000000) w.Lost (.ref 2))]⟩:St) ?_ ?_
 ·refine Xb rfl (fun h => ?_) (fun h => ?_)
  ·have hKn:(2:Int)=(K:Int):=by rw[hK,if_pos (Gqc h)]; rfl
   refine Wz [57,32,85] ?_
   exact Mid.n (X4 [0,1,2,3] Aqc J Aqb (.c J (.c J (.c J (.c J (.c J (.cons (Xq hKn) (.nil))))))))
  ·have hKn:(1:Int)=(K:Int):=by rw[hK,if_neg (Gqd h)]; rfl
   refine Qh ?_
   exact Mid.n (X4 [0,1,2,3] Aqc J Aqb (.c J (.c J (.c J (.c J (.c J (.cons (Xq hKn) (.nil))))))))
 refine Wz [11] ?_
 refine Xh (fun m st=>∃ (k:Nat) (v:TWire),k+m=K∧((v=flyN w2 d k∧(0≤v.Seed∧v.Seed≤65535)∧v.Flights.length≤200∧(0≤v.Lost∧v.Lost≤1000000)))∧st=(⟨110,[(1,S d),(2,Aqf 0),(4,Aqf 1),(5,Aqf 3),(6,I v.Seed),(9,I K),(10,I k)],[.box (wX w (sr w.Flights)),.box (wS ⟨0,0,0,0,0,0,0,[],0,0⟩ 0 0 0 nv),.row 2 (els v.Flights),.box (wS w w.Seed (min (w.Sent+1) 1000000) v.Lost (.ref 2))]⟩:St)) (K) ⟨(fun (k:Nat) (v:TWire)=>(⟨110,[(1,S d),(2,Aqf 0),(4,Aqf 1),(5,Aqf 3),(6,I v.Seed),(9,I K),(10,I k)],[.box (wX w (sr w.Flights)),.box (wS ⟨0,0,0,0,0,0,0,[],0,0⟩ 0 0 0 nv),.row 2 (els v.Flights),.box (wS w w.Seed (min (w.Sent+1) 1000000) v.Lost (.ref 2))]⟩:St)) 0 (w2),⟨0,w2,Aqa,⟨J,by rw[i1]; exact r2,by rw[i2]; exact q10,by rw[i3]; exact q9⟩,J⟩,X4 [0,1,2,3] Aqc J ((by rw[i2,i3]; rfl)) (.c J (.c J (.c J (.c J (.cons (Xq i1.symm) (.c J (.c J (.nil))))))))⟩ ?_
 rintro m_A _ ⟨k,v,hk_A,hp_A,rfl⟩
 obtain⟨e1,e2,e3,e4⟩:=hp_A
 have hF:=flyN_same w2 d k
 rw[←e1] at hF
 have hev:=Yi v.Flights
 by_cases hk:k<K
 case neg =>
  have f1:decide ((k:Int)<(K:Int))=false:=Gqa Aqa 
  have hkK:k=K:=Aqa
  subst hkK
  have hF2:FlyS (sent1 w) v:=by rw[hw2] at hF; exact⟨hF.de,hF.ji,hF.lo,hF.co,hF.da,hF.no,hF.se⟩
  rw[←hw2,←e1,send_is hF2]
  refine Wz [43,44,20,10,30,100,49] ?_
  exact Xk J J J J (X1 [2] Aqc J J J)
 have f1:decide ((k:Int)<(K:Int))=true:=Gqb Aqa 
 have jd:v.Jitter=w.Jitter:=by rw[hF.ji,hw2]; rfl
 have dd:v.Damage=w.Damage:=by rw[hF.da,hw2]; rfl
 have nd:v.Now=w.Now:=by rw[hF.no,hw2]; rfl
 have ed:v.Delay=w.Delay:=by rw[hF.de,hw2]; rfl
 have c5:=Xn v.Seed (w.Jitter+1) e2 Aqa 
 have b5:=Yd (s:=v.Seed) (n:=w.Jitter+1) Aqa 
 have s1:=Y9 v.Seed
 have c6:=I_Chance (nextR v.Seed) w.Damage s1
 have c7:=I_SpoilByte (nextR (nextR v.Seed)) d Aqa 
 obtain⟨q,hq⟩:∃ q,q=fly1 v d v.Seed:=⟨_,rfl⟩
 have qs:0≤q.1∧q.1≤65535:=by rw[hq]; exact fly1_seed
 obtain⟨c,hc⟩:∃ c:Bool,c=decide (belowR (nextR v.Seed) 100<w.Damage):=⟨_,rfl⟩
 rw[←hc] at c6
 refine Wz [43,82,12,10,19,18] ?_;refine M1 (Zs J J (c5) J J J) J J ?_;refine Wz [139,71,71,32,2,12,10,19] ?_;refine M1 (Zs J J (c6) J J J) J J ?_;refine Wz [139,71,71,32,40,73,6] ?_
 refine A_join (⟨110,[(1,S d),(2,Aqf 0),(4,Aqf 1),(5,Aqf 3),(6,I q.1),(9,I K),(10,I k),(11,I (belowR v.Seed (w.Jitter+1))),(13,S q.2)],[.box (wX w (sr w.Flights)),.box (wS ⟨0,0,0,0,0,0,0,[],0,0⟩ 0 0 0 nv),.row 2 (els v.Flights),.box (wS w w.Seed (min (w.Sent+1) 1000000) v.Lost (.ref 2))]⟩:St) ?_ ?_
 ·refine Xb rfl (fun h => ?_) (fun h => ?_)
  ·have hqs:spoilB (nextR (nextR v.Seed)) d=q:=by rw[hq,fly1,dd,if_pos (Gqc (hc.symm.trans h))]
   have hq1:(spoilB (nextR (nextR v.Seed)) d).1=q.1:=by rw[hqs]
   have hq2:(spoilB (nextR (nextR v.Seed)) d).2=q.2:=by rw[hqs]
   refine Wz [63] ?_;refine M1 (Zs J J (c7) J J J) J J ?_;refine Wz [139,71,71,32,32,85] ?_
   exact Mid.n (X4 [0,1,2,3] Aqc J Aqb (.c J (.c J (.c J (.c J (.cons (Xq hq1) (.c J (.c J (.c J (.cons (S_eq hq2) (.nil)))))))))))
  ·have hqs:(nextR (nextR v.Seed),d)=q:=by rw[hq,fly1,dd,if_neg (Gqd (hc.symm.trans h))]
   have hq1:nextR (nextR v.Seed)=q.1:=by rw[←hqs]
   have hq2:d=q.2:=by rw[←hqs]
   refine Qh ?_
   exact Mid.n (X4 [0,1,2,3] Aqc J Aqb (.c J (.c J (.c J (.c J (.cons (Xq hq1) (.c J (.c J (.c J (.cons (S_eq hq2) (.nil)))))))))))
 by_cases hf:v.Flights.length=200
 ·have f2:decide ((200:Int)≤((els v.Flights).length:Int))=true:=Gqb Aqa 
  have hnx:=flyN_full e1 hf hq
  refine Wz [34,113,165,24,23,18,180,30,296,297,291,94,276] ?_
  exact⟨K-(k+1),Aqa,_,⟨k+1,{ v with Seed:=q.1,Lost:=min (v.Lost+1) 1000000 },Aqa,⟨hnx,qs,e3,by show 0≤min (v.Lost+1) 1000000∧min (v.Lost+1) 1000000≤1000000; omega⟩,J⟩,X3 [0,1,2,3] Aqb⟩
 ·have f2:decide ((200:Int)≤((els v.Flights).length:Int))=false:=Gqa Aqa 
  have hnx:({ v with Seed:=q.1,Flights:=v.Flights ++ [⟨w.Now+w.Delay+belowR v.Seed (w.Jitter+1),q.2⟩] }:TWire)=flyN w2 d (k+1):=by
   rw[←nd,←ed,←jd]; exact flyN_room e1 hf hq
  refine Wz [34,113,165,33,57,19,19,19,18,0,18,0,185,138,131,132,99] ?_
  exact⟨K-(k+1),Aqa,_,⟨k+1,{ v with Seed:=q.1,Flights:=v.Flights ++ [⟨w.Now+w.Delay+belowR v.Seed (w.Jitter+1),q.2⟩] },Aqa,⟨hnx,qs,by show (v.Flights ++ [_]).length≤200; simp; omega,e4⟩,J⟩,(by rw[els_app]; exact X3 [0,1,2,3] Aqb)⟩
theorem S_SendWire (w:TWire) (d:ByteArray) (g:Enc.gd w) (hw:Enc.wt w≤1048576) (hd:d.size≤1048576):Con Tryz.prog 122 [] [ag w,astr d] [.row 2 (els (sendW w d).Flights)] (.o (.ag (wX (sendW w d) (.ref 0)))):=by
 have c0:=S_l05Copy w hw
 have c1:=S_WireOk w g
 have c2:=X0 (d.size:Int) 1 4096
 cases hok:wireOk w with
 |false =>
  rw[hok] at c1
  rw[sendW_no (fun h=>by rw[hok] at h; cases h.1)]
  refine Con.of Tryz.func122 J Tryz.ntmps122 J (fun E => ?_)
  refine Wz [76,52,90] ?_;refine M1 (Zs J J (c0) J J J) J J ?_;refine Wz [36,48,107,37] ?_;refine zx (Qj J J (c1) J) J ?_;refine Wz [5,0,47,47,60,24,100,135,69] ?_
  exact Xk J J J J (X1 [2] Aqc J J J)
 |true =>
 rw[hok] at c1
 by_cases h2:1≤d.size∧d.size≤4096
 case neg =>
  rw[show inR (d.size:Int) 1 4096=false by rw[←Gxd,Yx]; omega] at c2
  rw[sendW_no (fun h=>h2 h.2)]
  refine Con.of Tryz.func122 J Tryz.ntmps122 J (fun E => ?_)
  refine Wz [76,52,90] ?_;refine M1 (Zs J J (c0) J J J) J J ?_;refine Wz [36,48,107,37] ?_;refine zx (Qj J J (c1) J) J ?_;refine Wz [5,28,116,1] ?_;refine zx (Qj J J (c2) J) J ?_;refine Wz [1,5,22,24,100,135,69] ?_
  exact Xk J J J J (X1 [2] Aqc J J J)
 rw[Yx.2 Aqa] at c2
 have hall:wireOk w=true∧1≤d.size∧d.size≤4096:=⟨hok,h2⟩
 obtain⟨⟨q1,q2,q3⟩,⟨q4,q5,q6⟩,⟨q7,q8,q9⟩,q10,q11⟩:WireP w:=Gqc hok
 rw[Yx] at q1 q2 q3 q4 q5 q6 q7 q8 q9
 have hel:=Yi w.Flights
 have c3:=S_Chance w.Seed w.Loss q1
 have r1:=Y9 w.Seed
 have r2:=Y9 (nextR w.Seed)
 by_cases hl:belowR w.Seed 100<w.Loss
 ·rw[Gqb hl] at c3
  rw[sendW_lost hall hl]
  refine Con.of Tryz.func122 J Tryz.ntmps122 J (fun E => ?_)
  refine Wz [76,52,90] ?_;refine M1 (Zs J J (c0) J J J) J J ?_;refine Wz [36,48,107,37] ?_;refine zx (Qj J J (c1) J) J ?_;refine Wz [5,28,116,1] ?_;refine zx (Qj J J (c2) J) J ?_;refine Wz [1,5,22,33,23,18,180,45,19] ?_;refine M1 (Zs J J (c3) J J J) J J ?_;refine Wz [139,71,71,32,40,30,56,24,23,18,180,30,100,135,69] ?_
  exact Xk J J J J (X1 [2] Aqc J J J)
 rw[Gqa hl] at c3
 have c4:=S_Chance (nextR w.Seed) w.Copies r1
 obtain⟨K,hK⟩:∃ K:Nat,K=if belowR (nextR w.Seed) 100<w.Copies then 2 else 1:=⟨_,rfl⟩
 have hK2:K≤2:=by rw[hK]; split <;> omega
 rw[sendW_fly hall hl hK]
 obtain⟨w2,hw2⟩:∃ w2,w2=({ sent1 w with Seed:=nextR (nextR w.Seed) }:TWire):=⟨_,rfl⟩
 have i1:w2.Seed=nextR (nextR w.Seed):=by rw[hw2]
 have i2:w2.Flights=w.Flights:=by rw[hw2]; rfl
 have i3:w2.Lost=w.Lost:=by rw[hw2]; rfl
 refine Con.of Tryz.func122 J Tryz.ntmps122 J (fun E => ?_)
 refine Wz [76,52,90] ?_;refine M1 (Zs J J (c0) J J J) J J ?_;refine Wz [36,48,107,37] ?_;refine zx (Qj J J (c1) J) J ?_;refine Wz [5,28,116,1] ?_;refine zx (Qj J J (c2) J) J ?_;refine Wz [1,5,22,33,23,18,180,45,19] ?_;refine M1 (Zs J J (c3) J J J) J J ?_;refine Wz [139,71,71,32,40,30,56,33,23,19] ?_;refine M1 (Zs J J (c4) J J J) J J ?_;refine Wz [139,71,71,32,40,30,125,6] ?_
 refine A_join (⟨113,[(1,S d),(2,Aqf 0),(4,Aqf 1),(5,Aqf 3),(9,I K)],[.box (wX w (sr w.Flights)),.box (wS ⟨0,0,0,0,0,0,0,[],0,0⟩ 0 0 0 nv),.row 2 (els w.Flights),.box (wS w (nextR (nextR w.Seed)) (min (w.Sent+1) 1000000) w.Lost (.ref 2))]⟩:St) ?_ ?_
 ·refine Xb rfl (fun h => ?_) (fun h => ?_)
  ·have hKn:(2:Int)=(K:Int):=by rw[hK,if_pos (Gqc h)]; rfl
   refine Wz [57,32,85] ?_
   exact Mid.n (X4 [0,1,2,3] Aqc J Aqb (.c J (.c J (.c J (.c J (.cons (Xq hKn) (.nil)))))))
  ·have hKn:(1:Int)=(K:Int):=by rw[hK,if_neg (Gqd h)]; rfl
   refine Qh ?_
   exact Mid.n (X4 [0,1,2,3] Aqc J Aqb (.c J (.c J (.c J (.c J (.cons (Xq hKn) (.nil)))))))
 refine Wz [205] ?_
 refine Xh (fun m st=>∃ (k:Nat) (v:TWire),k+m=K∧((v=flyN w2 d k∧(0≤v.Seed∧v.Seed≤65535)∧v.Flights.length≤200∧(0≤v.Lost∧v.Lost≤1000000)))∧st=(⟨113,[(1,S d),(2,Aqf 0),(4,Aqf 1),(5,Aqf 3),(9,I ((K:Int)-(k:Int)))],[.box (wX w (sr w.Flights)),.box (wS ⟨0,0,0,0,0,0,0,[],0,0⟩ 0 0 0 nv),.row 2 (els v.Flights),.box (wS w v.Seed (min (w.Sent+1) 1000000) v.Lost (.ref 2))]⟩:St)) (K) ⟨(fun (k:Nat) (v:TWire)=>(⟨113,[(1,S d),(2,Aqf 0),(4,Aqf 1),(5,Aqf 3),(9,I ((K:Int)-(k:Int)))],[.box (wX w (sr w.Flights)),.box (wS ⟨0,0,0,0,0,0,0,[],0,0⟩ 0 0 0 nv),.row 2 (els v.Flights),.box (wS w v.Seed (min (w.Sent+1) 1000000) v.Lost (.ref 2))]⟩:St)) 0 (w2),⟨0,w2,Aqa,⟨J,by rw[i1]; exact r2,by rw[i2]; exact q10,by rw[i3]; exact q9⟩,J⟩,X4 [0,1,2,3] Aqc J ((by rw[i1,i2,i3]; rfl)) (.c J (.c J (.c J (.c J (.cons (Xq Aqa) (.nil))))))⟩ ?_
 rintro m_A _ ⟨k,v,hk_A,hp_A,rfl⟩
 obtain⟨e1,e2,e3,e4⟩:=hp_A
 have hF:=flyN_same w2 d k
 rw[←e1] at hF
 have hev:=Yi v.Flights
 by_cases hk:k<K
 case neg =>
  have f1:decide ((0:Int)<(K:Int)-(k:Int))=false:=Gqa Aqa 
  have hkK:k=K:=Aqa
  subst hkK
  have hF2:FlyS (sent1 w) v:=by rw[hw2] at hF; exact⟨hF.de,hF.ji,hF.lo,hF.co,hF.da,hF.no,hF.se⟩
  rw[←hw2,←e1,send_is hF2]
  refine Wz [56,160,81,20,100,49] ?_
  exact Xk J J J J (X1 [2] Aqc J J J)
 have f1:decide ((0:Int)<(K:Int)-(k:Int))=true:=Gqb Aqa 
 have jd:v.Jitter=w.Jitter:=by rw[hF.ji,hw2]; rfl
 have dd:v.Damage=w.Damage:=by rw[hF.da,hw2]; rfl
 have nd:v.Now=w.Now:=by rw[hF.no,hw2]; rfl
 have ed:v.Delay=w.Delay:=by rw[hF.de,hw2]; rfl
 have c5:=Xz v.Seed (w.Jitter+1) e2 Aqa 
 have b5:=Yd (s:=v.Seed) (n:=w.Jitter+1) Aqa 
 have s1:=Y9 v.Seed
 have c6:=S_Chance (nextR v.Seed) w.Damage s1
 have c7:=S_SpoilByte (nextR (nextR v.Seed)) d Aqa 
 obtain⟨q,hq⟩:∃ q,q=fly1 v d v.Seed:=⟨_,rfl⟩
 have qs:0≤q.1∧q.1≤65535:=by rw[hq]; exact fly1_seed
 obtain⟨c,hc⟩:∃ c:Bool,c=decide (belowR (nextR v.Seed) 100<w.Damage):=⟨_,rfl⟩
 rw[←hc] at c6
 refine Wz [56,160,24,7,23,19,18] ?_;refine M1 (Zs J J (c5) J J J) J J ?_;refine Wz [139,71,71,32,40,19] ?_;refine M1 (Zs J J (c6) J J J) J J ?_;refine Wz [139,71,71,32,40,73,6] ?_
 refine A_join (⟨113,[(1,S d),(2,Aqf 0),(4,Aqf 1),(5,Aqf 3),(9,I ((K:Int)-(k:Int))),(10,I q.1),(11,I (belowR v.Seed (w.Jitter+1))),(13,S q.2)],[.box (wX w (sr w.Flights)),.box (wS ⟨0,0,0,0,0,0,0,[],0,0⟩ 0 0 0 nv),.row 2 (els v.Flights),.box (wS w v.Seed (min (w.Sent+1) 1000000) v.Lost (.ref 2))]⟩:St) ?_ ?_
 ·refine Xb rfl (fun h => ?_) (fun h => ?_)
  ·have hqs:spoilB (nextR (nextR v.Seed)) d=q:=by rw[hq,fly1,dd,if_pos (Gqc (hc.symm.trans h))]
   have hq1:(spoilB (nextR (nextR v.Seed)) d).1=q.1:=by rw[hqs]
   have hq2:(spoilB (nextR (nextR v.Seed)) d).2=q.2:=by rw[hqs]
   refine Wz [63] ?_;refine M1 (Zs J J (c7) J J J) J J ?_;refine Wz [139,71,71,32,32,85] ?_
   exact Mid.n (X4 [0,1,2,3] Aqc J Aqb (.c J (.c J (.c J (.c J (.c J (.cons (Xq hq1) (.c J (.cons (S_eq hq2) (.nil))))))))))
  ·have hqs:(nextR (nextR v.Seed),d)=q:=by rw[hq,fly1,dd,if_neg (Gqd (hc.symm.trans h))]
   have hq1:nextR (nextR v.Seed)=q.1:=by rw[←hqs]
   have hq2:d=q.2:=by rw[←hqs]
   refine Qh ?_
   exact Mid.n (X4 [0,1,2,3] Aqc J Aqb (.c J (.c J (.c J (.c J (.c J (.cons (Xq hq1) (.c J (.cons (S_eq hq2) (.nil))))))))))
 by_cases hf:v.Flights.length=200
 ·have f2:decide (((els v.Flights).length:Int)=200)=true:=Gqb Aqa 
  have hnx:=flyN_full e1 hf hq
  refine Wz [10,30,34,113,86,24,23,18,180,30,296,297,291,94,84,2] ?_
  exact⟨K-(k+1),Aqa,(fun (k:Nat) (v:TWire)=>(⟨113,[(1,S d),(2,Aqf 0),(4,Aqf 1),(5,Aqf 3),(9,I ((K:Int)-(k:Int)))],[.box (wX w (sr w.Flights)),.box (wS ⟨0,0,0,0,0,0,0,[],0,0⟩ 0 0 0 nv),.row 2 (els v.Flights),.box (wS w v.Seed (min (w.Sent+1) 1000000) v.Lost (.ref 2))]⟩:St)) (k+1) ({ v with Seed:=q.1,Lost:=min (v.Lost+1) 1000000 }),⟨k+1,{ v with Seed:=q.1,Lost:=min (v.Lost+1) 1000000 },Aqa,⟨hnx,qs,e3,by show 0≤min (v.Lost+1) 1000000∧min (v.Lost+1) 1000000≤1000000; omega⟩,J⟩,X4 [0,1,2,3] Aqc J Aqb (.c J (.c J (.c J (.c J (.cons (Xq Aqa) (.nil))))))⟩
 ·have f2:decide (((els v.Flights).length:Int)=200)=false:=Gqa Aqa 
  have hnx:({ v with Seed:=q.1,Flights:=v.Flights ++ [⟨w.Now+w.Delay+belowR v.Seed (w.Jitter+1),q.2⟩] }:TWire)=flyN w2 d (k+1):=by
   rw[←nd,←ed,←jd]; exact flyN_room e1 hf hq
  refine Wz [10,30,34,113,86,33,57,19,19,19,18,0,18,0,185,138,131,132,85,243,84,2] ?_
  exact⟨K-(k+1),Aqa,(fun (k:Nat) (v:TWire)=>(⟨113,[(1,S d),(2,Aqf 0),(4,Aqf 1),(5,Aqf 3),(9,I ((K:Int)-(k:Int)))],[.box (wX w (sr w.Flights)),.box (wS ⟨0,0,0,0,0,0,0,[],0,0⟩ 0 0 0 nv),.row 2 (els v.Flights),.box (wS w v.Seed (min (w.Sent+1) 1000000) v.Lost (.ref 2))]⟩:St)) (k+1) ({ v with Seed:=q.1,Flights:=v.Flights ++ [⟨w.Now+w.Delay+belowR v.Seed (w.Jitter+1),q.2⟩] }),⟨k+1,{ v with Seed:=q.1,Flights:=v.Flights ++ [⟨w.Now+w.Delay+belowR v.Seed (w.Jitter+1),q.2⟩] },Aqa,⟨hnx,qs,by show (v.Flights ++ [_]).length≤200; simp; omega,e4⟩,J⟩,X4 [0,1,2,3] Aqc J ((by rw[els_app]; rfl)) (.c J (.c J (.c J (.c J (.cons (Xq Aqa) (.nil))))))⟩
end
section
open Go.RowKit

theorem dat_size (p:TPacket):(encP p).size≤1048576:=by
 rw[encP]
 split
 ·rename_i h
  obtain⟨k1,_,_,k4,_⟩:=packet_spec h
  have s1:=Ze [p.From,p.Tick,p.First,p.SumTick,p.Sum,p.Time,p.Echo]
  have s2:=Ze p.Acks
  have s3:=Zf p.Inputs
  have s4:=packText_size (packTrack p.Inputs)
  simp only[Gq3,List.length_nil] at s1
  rw[sealText_size]
  simp only[Yf]
  omega
 ·decide
theorem pk_len {x:TPeer} (ok:peerOk x=true) {a:Nat}:(pkOf x a).Inputs.length≤1048576∧(pkOf x a).Acks.length≤1048576:=by
 have h1:=Ks (Zl ok).1.1
 refine⟨?_,?_⟩
 ·show (ins40 x.Tracks x.Me.toNat a).length≤_
  rw[ins40,Gq4]; omega
 ·show (lens x.Tracks).length≤_
  rw[lens_len]; omega
theorem stamp_same (x:TPacket) (q:TPace) (n:Int):(stampP x q n).Inputs=x.Inputs∧(stampP x q n).Acks=x.Acks:=by
 rw[stampP]
 split <;> exact⟨rfl,rfl⟩
theorem stamp_gd {x:TPacket} {q:TPace} {n:Int} (g:Enc.gd x) (gq:Enc.gd q) (gn:I64 n):Enc.gd (stampP x q n):=by
 rw[stampP]
 split
 ·obtain⟨a,b,c,d,e,f,h,_,_⟩:=g
  exact⟨a,b,c,d,e,f,h,gn,gq.1⟩
 ·exact g
theorem I_tell (x:TMatch) (i j:Nat) (h:MatchIn x) (hm:matchOk x=true) (hi:i<x.Peers.length) (hj:j<x.Peers.length):Con Tryz.prog 58 (.box (mC x 1)::mR x [.gh 0 (.c (.ptr 0 0))]) [.c (.ptr 0 0),ai i,ai j] (.box (mC (tellS x i j) 1)::mR (tellS x i j) [.gh 0 (.c (.ptr 0 0))]) (.tu []):=by
 obtain⟨p,u,v,pc,q,ac,a,hA⟩:=pair_at hm hi hj
 have eP:=Yi x.Peers
 have eW:=Yi x.Wires
 have eQ:=Yi x.Paces
 have eA:=Yi x.Acks
 have eu:=Yi u
 have epc:=Yi pc
 have eac:=Yi ac
 have lW:=Yu hA.hu
 have lv:=Yu hA.hv
 have lQ:=Yu hA.hpc
 have lq:=Yu hA.hq
 have lA:=Yu hA.hac
 have la:=Yu hA.ha
 have gp:Enc.gd p:=h.gd.2.2.2.2.1.2 p (Gqm hA.hp)
 have gu:Enc.gd u:=h.gd.2.2.2.2.2.1.2 u (Gqm hA.hu)
 have gv:Enc.gd v:=gu.2 v (Gqm hA.hv)
 have gpc:Enc.gd pc:=h.gd.2.2.2.2.2.2.1.2 pc (Gqm hA.hpc)
 have gq:Enc.gd q:=gpc.2 q (Gqm hA.hq)
 have wv:Enc.wt v≤1048576:=(Yy ((Yy h.le.W).2 u (Gqm hA.hu))).2 v (Gqm hA.hv)
 have hatP:(els x.Peers)[(i:Int).toNat]? = some (Enc.e p):=els_at' hA.hp
 have hatA:(els x.Acks)[(i:Int).toNat]? = some (Enc.e ac):=els_at' hA.hac
 have hata:(els ac)[(j:Int).toNat]? = some [.v (.int .i64 (a:Int))]:=els_at' hA.ha
 have hatQ:(els x.Paces)[(i:Int).toNat]? = some (Enc.e pc):=els_at' hA.hpc
 have hatq:(els pc)[(j:Int).toNat]? = some (Enc.e q):=els_at' hA.hq
 cases hp:packetOk (pkOf p a) with
 |false =>
  rw[tellS_no hA hp]
  have c1:=I_TellN p i a gp hA.ok hA.me hA.ml hA.al hA.il hp
  refine Con.of Tryz.func58 J Tryz.ntmps58 J (fun E => ?_)
  refine Wz [17,263,4,157,8,4,151] ?_;refine DR.s (x := .o (.ag ((Enc.e p).map (rdm [3])))) (Q6 J J J J hatP J Aqb) J J ?_;refine Wz [4,157,8,4,151,227,66,29] ?_;refine DR.s (Zs J J (c1) J J J) J J ?_;refine Wz [264,203,203,235,13] ?_;refine AL.weak (st':=(⟨69,[(0,Aqf 0),(1,I i),(2,I j),(6,Aqf 11),(27,.o (.ag kZ)),(28,B false)],.box (mC x 1)::mR x [.gh 0 (.c (.ptr 0 0)),.box kZ]⟩:St)) (X4 [0,1,2,3,4,5,6,7,8,9,10,11] Aqc J ( Aqb) (.c J (.c J (.c J (.c J (.c J (.c J (.nil)))))))) ?_;refine Wz [136,73,5,24,135,69] ?_
  exact E_none J (X1 [0,1,2,3,4,5,6,7,8,9,10] Aqc J J J)
 |true =>
  rw[tellS_yes hA hp]
  have c1:=I_TellY p i a gp hA.ok hA.me hA.ml hA.al hA.il hp
  have hau:=els_at' hA.hu
  have hav:=els_at' hA.hv
  have hla:i<(els x.Wires).length:=Yu hau
  have hla1:i<((els x.Wires).set i [.un]).length:=by rw[Gqx]; exact hla
  have hat2:((els x.Wires).set i [.un])[i]? = some [.un]:=List.getElem?_set_self hla
  have hbU:j<(els u).length:=Aqa
  have havj:(els u)[(j:Int).toNat]? = some (Enc.e v):=hav
  have gk:=pk_gd gp hA.ok (a:=a) (by have:=hA.al; have:=hA.il; omega)
  have gs:=stamp_gd gk gq (n:=x.Clock) h.gd.2.2.2.2.2.2.2.2.1
  obtain⟨l1,l2⟩:=pk_len hA.ok (a:=a)
  have hds:=dat_size (stampP (pkOf p a) q x.Clock)
  have c2:=I_StampPacket (pkOf p a) q x.Clock l1 l2
  obtain⟨si,sa⟩:=stamp_same (pkOf p a) q x.Clock
  rw[←si,←sa] at c2
  have c3:=I_EncodePacket (stampP (pkOf p a) q x.Clock) gs
  have c4:=I_SendWire v (encP (stampP (pkOf p a) q x.Clock)) gv wv hds
  clear si sa gs
  generalize stampP (pkOf p a) q x.Clock=sk at c2 c3 c4 hds ⊢
  generalize pkOf p a=k at c1 c2
  generalize encP sk=d at c3 c4 hds ⊢
  generalize sendW v d=v' at c4 ⊢
  refine Con.of Tryz.func58 J Tryz.ntmps58 J (fun E => ?_)
  refine Wz [17,263,4,157,8,4,151] ?_;refine DR.s (x := .o (.ag ((Enc.e p).map (rdm [3])))) (Q6 J J J J hatP J Aqb) J J ?_;refine Wz [4,157,8,4,151,227,66,29] ?_;refine DR.s (Zs J J (c1) J J J) J J ?_;refine Wz [264,203,203,235,13] ?_;refine AL.weak (st':=(⟨69,[(0,Aqf 0),(1,I i),(2,I j),(6,Aqf 13),(27,.o (.ag (kC k (.ref 11) (.ref 12)))),(28,B true)],.box (mC x 1)::mR x [.gh 0 (.c (.ptr 0 0)),.row 1 (els k.Inputs),.row 1 (els k.Acks),.box kZ]⟩:St)) (X4 [0,1,2,3,4,5,6,7,8,9,10,11,12,13] Aqc J ( Aqb) (.c J (.c J (.c J (.c J (.c J (.c J (.nil)))))))) ?_;refine Qy J J J J J J J J J ?_;refine AL.weak (st':=(⟨69,[(0,Aqf 0),(1,I i),(2,I j),(6,Aqf 13),(28,B true)],.box (mC x 1)::mR x [.gh 0 (.c (.ptr 0 0)),.row 1 (els k.Inputs),.row 1 (els k.Acks),.box (kC k (.ref 11) (.ref 12))]⟩:St)) (X4 [0,1,2,3,4,5,6,7,8,9,10,11,12,13] Aqc J ( Aqb) (.c J (.c J (.c J (.c J (.c J (.nil))))))) ?_;refine Wz [73,64,17] ?_
  refine AWP.pre (st':=(⟨69,[(0,Aqf 0),(1,I i),(2,I j),(6,Aqf 13)],.box (mC x 1)::mR x [.gh 0 (.c (.ptr 0 0)),.row 1 (els k.Inputs),.row 1 (els k.Acks),.box (kC k (.ref 11) (.ref 12))]⟩:St)) ?_ (X4 [0,1,2,3,4,5,6,7,8,9,10,11,12,13] Aqc J ( Aqb) (.c J (.c J (.c J (.c J (.nil))))))
  refine Xg [[],[],[1],[1,2],[1,2,3],[],[1,2,3,4,5],[1,2,3,4,5,6],[],[1,2,3,4,5,6,7,8],[1,2,3,4,5,6,7,8,9],[],[11],[11,12],[11,12,13],(u9 15),(u9 16)] [[],[],[32],[32,33],[32,33,34],[],[32,33,34,35,36],[32,33,34,35,36,37],[],[32,33,34,35,36,37,38,39],[32,33,34,35,36,37,38,39,40],[],[42],[42,43],[42,43,44],[31,32,33,34,35,36,37,38,39,40,41,42,43,44,45],[31,32,33,34,35,36,37,38,39,40,41,42,43,44,45,46]] [[32,33,34,35,36,37,38,39,40,41,42,43,44,45],[31,36,39,42,43,44,45],[31,36,39,42,43,44,45],[31,36,39,42,43,44,45],[31,36,39,42,43,44,45],[31,32,33,34,35,39,42,43,44,45],[31,39,42,43,44,45],[31,39,42,43,44,45],[31,32,33,34,35,36,37,38,42,43,44,45],[31,42,43,44,45],[31,42,43,44,45],[31,32,33,34,35,36,37,38,39,40,41],[31,32,33,34,35,36,37,38,39,40,41],[31,32,33,34,35,36,37,38,39,40,41],[31,32,33,34,35,36,37,38,39,40,41],[],[]] J ?_;refine Wz [190,4,157,8,4,151,227,66,192,4,157,8] ?_;refine DR.s (Zs J J (c2) J J J) J J ?_;refine DR.stop Aqb Aqb  ?_;refine AL.weak (st':=(⟨69,[(0,Aqf 0),(1,I i),(2,I j),(6,Aqf 13),(46,.o (.ag (kC sk (.ref 11) (.ref 12))))],.box (mC x 1)::mR x [.gh 0 (.c (.ptr 0 0)),.row 1 (els sk.Inputs),.row 1 (els sk.Acks),.box (kC k (.ref 14) (.ref 15)),.row 1 (els k.Inputs),.row 1 (els k.Acks)]⟩:St)) (X4 [0,1,2,3,4,5,6,7,8,9,10,14,15,13,11,12] Aqc J ( Aqb) (.c J (.c J (.c J (.c J (.c J (.nil))))))) ?_;refine Qy J J J J J J J J J ?_;refine AL.weak (st':=(⟨69,[(0,Aqf 0),(1,I i),(2,I j),(6,Aqf 13)],.box (mC x 1)::mR x [.gh 0 (.c (.ptr 0 0)),.row 1 (els sk.Inputs),.row 1 (els sk.Acks),.box (kC sk (.ref 11) (.ref 12))]⟩:St)) (X4 [0,1,2,3,4,5,6,7,8,9,10,11,12,13] Aqc J ( Aqb) (.c J (.c J (.c J (.c J (.nil)))))) ?_;refine Wz [6] ?_
  refine AWP.pre (st':=(⟨69,[(0,Aqf 0),(1,I i),(2,I j),(6,Aqf 13)],.box (mC x 1)::mR x [.gh 0 (.c (.ptr 0 0)),.row 1 (els sk.Inputs),.row 1 (els sk.Acks),.box (kC sk (.ref 11) (.ref 12))]⟩:St)) ?_ (X4 [0,1,2,3,4,5,6,7,8,9,10,11,12,13] Aqc J ( Aqb) (.c J (.c J (.c J (.c J (.nil))))))
  refine AWP.pre ?_ (Wk.splitl (p:=4) (i:=i) (j:=0) (k':=10) (es0:=els u) J hau J (by repeat' (first | exact trivial | exact⟨J,J,J⟩ | refine And.intro ?_ ?_)) (by repeat' (first | exact trivial | exact⟨J,J,J⟩ | refine And.intro ?_ ?_)))
  refine AWP.pre (st':=(⟨69,[(0,Aqf 0),(1,I i),(2,I j),(6,Aqf 13)],[.box (mC x 1),.row 1 (els x.Level.Rows),.row 1 (els x.Scripts),.row 23 (els x.Peers),.row 1 ((els x.Wires).set i [.un]),.row 1 (els x.Paces),.row 1 (els x.Acks),.row 6 (els x.Watchers),.row 10 (els x.Lines),.row 2 (els x.Alarms),.gh 0 (.c (.ptr 0 0)),.row 1 (els sk.Inputs),.row 1 (els sk.Acks),.box (kC sk (.ref 11) (.ref 12)),.row 10 (els u),.lk (.le 4 1 i 0) (.ref 14)]⟩:St)) ?_ (X4 [0,1,2,3,4,5,6,7,8,9,10,11,12,13,14,15] Aqc J ( Aqb) (.c J (.c J (.c J (.c J (.nil))))))
  refine Xg [[],[0],[0,1],[0,1,2],[],(u9 5),(u9 6),[],[],[8],[8,9],[8,9,10],[],[8,9,10,11,12],[8,9,10,11,12,13],[],[8,9,10,11,12,13,14,15],[8,9,10,11,12,13,14,15,16],[],[18],[8,9,10,11,12,13,14,15,16,17,18,19],(u9 21),(u9 22)] [[],[47],[47,48],[47,48,49],[],[47,48,49,50,51],[47,48,49,50,51,52],[],[],[55],[55,56],[55,56,57],[],[55,56,57,58,59],[55,56,57,58,59,60],[],[55,56,57,58,59,60,61,62],[55,56,57,58,59,60,61,62,63],[],[65],[55,56,57,58,59,60,61,62,63,64,65,66],[47,48,49,50,51,52,53,54,55,56,57,58,59,60,61,62,63,64,65,66,67],[47,48,49,50,51,52,53,54,55,56,57,58,59,60,61,62,63,64,65,66,67,68]] [[51,54,55,56,57,58,59,60,61,62,63,64,65,66,67],[51,54,55,56,57,58,59,60,61,62,63,64,65,66,67],[51,54,55,56,57,58,59,60,61,62,63,64,65,66,67],[51,54,55,56,57,58,59,60,61,62,63,64,65,66,67],[47,48,49,50,54,55,56,57,58,59,60,61,62,63,64,65,66,67],[54,55,56,57,58,59,60,61,62,63,64,65,66,67],[54,55,56,57,58,59,60,61,62,63,64,65,66,67],[47,48,49,50,51,52,53,55,56,57,58,59,60,61,62,63,64,65,66,67],[47,48,49,50,51,52,53,54,59,62,65,66],[47,48,49,50,51,52,53,54,59,62,65,66],[47,48,49,50,51,52,53,54,59,62,65,66],[47,48,49,50,51,52,53,54,59,62,65,66],[47,48,49,50,51,52,53,54,55,56,57,58,62,65,66],[47,48,49,50,51,52,53,54,62,65,66],[47,48,49,50,51,52,53,54,62,65,66],[47,48,49,50,51,52,53,54,55,56,57,58,59,60,61,65,66],[47,48,49,50,51,52,53,54,65,66],[47,48,49,50,51,52,53,54,65,66],[47,48,49,50,51,52,53,54,55,56,57,58,59,60,61,62,63,64],[47,48,49,50,51,52,53,54,55,56,57,58,59,60,61,62,63,64],[47,48,49,50,51,52,53,54],[],[]] J ?_;refine Wz [4,157,8,4,151,265,4,4,157,8,4,151,265,4,151] ?_;refine DR.s (x := .o (.ag ((Enc.e v).map (rdm [14])))) (Q6 J J J J havj J Aqb) J J ?_;refine DR.s (Qu J J J J J J) J J ?_;refine DR.s (Qj J J (c3) J) J J ?_;refine DR.s (Zs J J (c4) J J J) J J ?_;refine Wz [151,13] ?_;refine AL.weak (st':=(⟨69,[(0,Aqf 0),(1,I i),(2,I j),(6,Aqf 13),(68,.o (.c (.el 14 10 j 0))),(67,.o (.ag (wX v' (.ref 16))))],[.box (mC x 1),.row 1 (els x.Level.Rows),.row 1 (els x.Scripts),.row 23 (els x.Peers),.row 1 ((els x.Wires).set i [.un]),.row 1 (els x.Paces),.row 1 (els x.Acks),.row 6 (els x.Watchers),.row 10 (els x.Lines),.row 2 (els x.Alarms),.gh 0 (.c (.ptr 0 0)),.row 1 (els sk.Inputs),.row 1 (els sk.Acks),.box (kC sk (.ref 11) (.ref 12)),.row 10 (els u),.lk (.le 4 1 i 0) (.ref 14),.row 2 (els v'.Flights)]⟩:St)) (X4 [0,1,2,3,4,5,6,7,8,9,10,11,12,13,14,15,16] Aqc J ( Aqb) (.c J (.c J (.c J (.c J (.c J (.cons Aqb (.nil)))))))) ?_;refine Xe J J J J J J J J J J havj J J ?_;refine AL.weak (st':=(⟨69,[(0,Aqf 0),(1,I i),(2,I j),(6,Aqf 13)],[.box (mC x 1),.row 1 (els x.Level.Rows),.row 1 (els x.Scripts),.row 23 (els x.Peers),.row 1 ((els x.Wires).set i [.un]),.row 1 (els x.Paces),.row 1 (els x.Acks),.row 6 (els x.Watchers),.row 10 (els x.Lines),.row 2 (els x.Alarms),.gh 0 (.c (.ptr 0 0)),.row 1 (els sk.Inputs),.row 1 (els sk.Acks),.box (kC sk (.ref 11) (.ref 12)),.row 10 ((els u).set j (Enc.e v')),.lk (.le 4 1 i 0) (.ref 14)]⟩:St)) (X4 [0,1,2,3,4,5,6,7,8,9,10,11,12,13,14,15] Aqc J ( Aqb) (.c J (.c J (.c J (.c J (.nil)))))) ?_;refine AL.weak (Wk.join (p:=4) (i:=i) (j:=0) (N:=14) (L:=15) J hat2 J J J J) ?_
  refine AL.weak (st':=(⟨69,[(0,Aqf 0),(1,I i),(2,I j)],[.box (mC x 1),.row 1 (els x.Level.Rows),.row 1 (els x.Scripts),.row 23 (els x.Peers),.row 1 (els (x.Wires.set i (u.set j v'))),.row 1 (els x.Paces),.row 1 (els x.Acks),.row 6 (els x.Watchers),.row 10 (els x.Lines),.row 2 (els x.Alarms),.gh 0 (.c (.ptr 0 0))]⟩:St)) (by rw[List.set_set,els_set,els_setL]; exact X3 [0,1,2,3,4,5,6,7,8,9,10] Aqb) ?_
  refine Wz [85,293] ?_
  exact E_none J (X1 [0,1,2,3,4,5,6,7,8,9,10] Aqc J J J)
theorem S_tell (x:TMatch) (i j:Nat) (h:MatchIn x) (hm:matchOk x=true) (hi:i<x.Peers.length) (hj:j<x.Peers.length):Con Tryz.prog 46 (.box (mC x 1)::mR x [.gh 0 (.c (.ptr 0 0))]) [.c (.ptr 0 0),ai i,ai j] (.box (mC (tellS x i j) 1)::mR (tellS x i j) [.gh 0 (.c (.ptr 0 0))]) (.tu []):=by
 obtain⟨p,u,v,pc,q,ac,a,hA⟩:=pair_at hm hi hj
 have eP:=Yi x.Peers
 have eW:=Yi x.Wires
 have eQ:=Yi x.Paces
 have eA:=Yi x.Acks
 have eu:=Yi u
 have epc:=Yi pc
 have eac:=Yi ac
 have lW:=Yu hA.hu
 have lv:=Yu hA.hv
 have lQ:=Yu hA.hpc
 have lq:=Yu hA.hq
 have lA:=Yu hA.hac
 have la:=Yu hA.ha
 have gp:Enc.gd p:=h.gd.2.2.2.2.1.2 p (Gqm hA.hp)
 have gu:Enc.gd u:=h.gd.2.2.2.2.2.1.2 u (Gqm hA.hu)
 have gv:Enc.gd v:=gu.2 v (Gqm hA.hv)
 have gpc:Enc.gd pc:=h.gd.2.2.2.2.2.2.1.2 pc (Gqm hA.hpc)
 have gq:Enc.gd q:=gpc.2 q (Gqm hA.hq)
 have wv:Enc.wt v≤1048576:=(Yy ((Yy h.le.W).2 u (Gqm hA.hu))).2 v (Gqm hA.hv)
 have hatP:(els x.Peers)[(i:Int).toNat]? = some (Enc.e p):=els_at' hA.hp
 have hatA:(els x.Acks)[(i:Int).toNat]? = some (Enc.e ac):=els_at' hA.hac
 have hata:(els ac)[(j:Int).toNat]? = some [.v (.int .i64 (a:Int))]:=els_at' hA.ha
 have hatQ:(els x.Paces)[(i:Int).toNat]? = some (Enc.e pc):=els_at' hA.hpc
 have hatq:(els pc)[(j:Int).toNat]? = some (Enc.e q):=els_at' hA.hq
 cases hp:packetOk (pkOf p a) with
 |false =>
  rw[tellS_no hA hp]
  have c1:=S_TellN p i a gp hA.ok hA.me hA.ml hA.al hA.il hp
  refine Con.of Tryz.func46 J Tryz.ntmps46 J (fun E => ?_)
  refine Wz [17,263,4,157,8,4,151] ?_;refine DR.s (x := .o (.ag ((Enc.e p).map (rdm [3])))) (Q6 J J J J hatP J Aqb) J J ?_;refine Wz [4,157,8,4,151,227,66,29] ?_;refine DR.s (Zs J J (c1) J J J) J J ?_;refine Wz [264,203,203,235,13] ?_;refine AL.weak (st':=(⟨67,[(0,Aqf 0),(1,I i),(2,I j),(6,Aqf 11),(27,.o (.ag kZ)),(28,B false)],.box (mC x 1)::mR x [.gh 0 (.c (.ptr 0 0)),.box kZ]⟩:St)) (X4 [0,1,2,3,4,5,6,7,8,9,10,11] Aqc J ( Aqb) (.c J (.c J (.c J (.c J (.c J (.c J (.nil)))))))) ?_;refine Wz [136,40,81,123,293] ?_
  exact E_none J (X1 [0,1,2,3,4,5,6,7,8,9,10] Aqc J J J)
 |true =>
  rw[tellS_yes hA hp]
  have c1:=S_TellY p i a gp hA.ok hA.me hA.ml hA.al hA.il hp
  have hau:=els_at' hA.hu
  have hav:=els_at' hA.hv
  have hla:i<(els x.Wires).length:=Yu hau
  have hla1:i<((els x.Wires).set i [.un]).length:=by rw[Gqx]; exact hla
  have hat2:((els x.Wires).set i [.un])[i]? = some [.un]:=List.getElem?_set_self hla
  have hbU:j<(els u).length:=Aqa
  have havj:(els u)[(j:Int).toNat]? = some (Enc.e v):=hav
  have gk:=pk_gd gp hA.ok (a:=a) (by have:=hA.al; have:=hA.il; omega)
  have gs:=stamp_gd gk gq (n:=x.Clock) h.gd.2.2.2.2.2.2.2.2.1
  obtain⟨l1,l2⟩:=pk_len hA.ok (a:=a)
  have hds:=dat_size (stampP (pkOf p a) q x.Clock)
  have c2:=S_StampPacket (pkOf p a) q x.Clock l1 l2
  obtain⟨si,sa⟩:=stamp_same (pkOf p a) q x.Clock
  rw[←si,←sa] at c2
  have c3:=S_EncodePacket (stampP (pkOf p a) q x.Clock) gs
  have c4:=S_SendWire v (encP (stampP (pkOf p a) q x.Clock)) gv wv hds
  clear si sa gs
  generalize stampP (pkOf p a) q x.Clock=sk at c2 c3 c4 hds ⊢
  generalize pkOf p a=k at c1 c2
  generalize encP sk=d at c3 c4 hds ⊢
  generalize sendW v d=v' at c4 ⊢
  refine Con.of Tryz.func46 J Tryz.ntmps46 J (fun E => ?_)
  refine Wz [17,263,4,157,8,4,151] ?_;refine DR.s (x := .o (.ag ((Enc.e p).map (rdm [3])))) (Q6 J J J J hatP J Aqb) J J ?_;refine Wz [4,157,8,4,151,227,66,29] ?_;refine DR.s (Zs J J (c1) J J J) J J ?_;refine Wz [264,203,203,235,13] ?_;refine AL.weak (st':=(⟨67,[(0,Aqf 0),(1,I i),(2,I j),(6,Aqf 13),(27,.o (.ag (kC k (.ref 11) (.ref 12)))),(28,B true)],.box (mC x 1)::mR x [.gh 0 (.c (.ptr 0 0)),.row 1 (els k.Inputs),.row 1 (els k.Acks),.box kZ]⟩:St)) (X4 [0,1,2,3,4,5,6,7,8,9,10,11,12,13] Aqc J ( Aqb) (.c J (.c J (.c J (.c J (.c J (.c J (.nil)))))))) ?_;refine Qy J J J J J J J J J ?_;refine AL.weak (st':=(⟨67,[(0,Aqf 0),(1,I i),(2,I j),(6,Aqf 13),(28,B true)],.box (mC x 1)::mR x [.gh 0 (.c (.ptr 0 0)),.row 1 (els k.Inputs),.row 1 (els k.Acks),.box (kC k (.ref 11) (.ref 12))]⟩:St)) (X4 [0,1,2,3,4,5,6,7,8,9,10,11,12,13] Aqc J ( Aqb) (.c J (.c J (.c J (.c J (.c J (.nil))))))) ?_;refine Wz [40,24] ?_
  refine AWP.pre (st':=(⟨67,[(0,Aqf 0),(1,I i),(2,I j),(6,Aqf 13)],.box (mC x 1)::mR x [.gh 0 (.c (.ptr 0 0)),.row 1 (els k.Inputs),.row 1 (els k.Acks),.box (kC k (.ref 11) (.ref 12))]⟩:St)) ?_ (X4 [0,1,2,3,4,5,6,7,8,9,10,11,12,13] Aqc J ( Aqb) (.c J (.c J (.c J (.c J (.nil))))))
  refine AWP.pre ?_ (Wk.splitl (p:=4) (i:=i) (j:=0) (k':=10) (es0:=els u) J hau J (by repeat' (first | exact trivial | exact⟨J,J,J⟩ | refine And.intro ?_ ?_)) (by repeat' (first | exact trivial | exact⟨J,J,J⟩ | refine And.intro ?_ ?_)))
  refine AWP.pre (st':=(⟨67,[(0,Aqf 0),(1,I i),(2,I j),(6,Aqf 13)],[.box (mC x 1),.row 1 (els x.Level.Rows),.row 1 (els x.Scripts),.row 23 (els x.Peers),.row 1 ((els x.Wires).set i [.un]),.row 1 (els x.Paces),.row 1 (els x.Acks),.row 6 (els x.Watchers),.row 10 (els x.Lines),.row 2 (els x.Alarms),.gh 0 (.c (.ptr 0 0)),.row 1 (els k.Inputs),.row 1 (els k.Acks),.box (kC k (.ref 11) (.ref 12)),.row 10 (els u),.lk (.le 4 1 i 0) (.ref 14)]⟩:St)) ?_ (X4 [0,1,2,3,4,5,6,7,8,9,10,11,12,13,14,15] Aqc J ( Aqb) (.c J (.c J (.c J (.c J (.nil))))))
  refine Xg [[],[0],[0,1],[0,1,2],[],(u9 5),(u9 6),[],[],[8],[8,9],[8,9,10],[],[8,9,10,11,12],[8,9,10,11,12,13],[],[8,9,10,11,12,13,14,15],[8,9,10,11,12,13,14,15,16],[],[],[19],[19,20],[19,20,21],[],[19,20,21,22,23],[19,20,21,22,23,24],[],[19,20,21,22,23,24,25,26],[19,20,21,22,23,24,25,26,27],[],[29],[29,30],[29,30,31],[18,19,20,21,22,23,24,25,26,27,28,29,30,31,32],[18,19,20,21,22,23,24,25,26,27,28,29,30,31,32,33],[8,9,10,11,12,13,14,15,16,17,18,19,20,21,22,23,24,25,26,27,28,29,30,31,32,33,34],(u9 36),(u9 37)] [[],[30],[30,31],[30,31,32],[],[30,31,32,33,34],[30,31,32,33,34,35],[],[],[38],[38,39],[38,39,40],[],[38,39,40,41,42],[38,39,40,41,42,43],[],[38,39,40,41,42,43,44,45],[38,39,40,41,42,43,44,45,46],[],[],[49],[49,50],[49,50,51],[],[49,50,51,52,53],[49,50,51,52,53,54],[],[49,50,51,52,53,54,55,56],[49,50,51,52,53,54,55,56,57],[],[59],[59,60],[59,60,61],[48,49,50,51,52,53,54,55,56,57,58,59,60,61,62],[48,49,50,51,52,53,54,55,56,57,58,59,60,61,62,63],[38,39,40,41,42,43,44,45,46,47,48,49,50,51,52,53,54,55,56,57,58,59,60,61,62,63,64],[30,31,32,33,34,35,36,37,38,39,40,41,42,43,44,45,46,47,48,49,50,51,52,53,54,55,56,57,58,59,60,61,62,63,64,65],[30,31,32,33,34,35,36,37,38,39,40,41,42,43,44,45,46,47,48,49,50,51,52,53,54,55,56,57,58,59,60,61,62,63,64,65,66]] [[34,37,38,39,40,41,42,43,44,45,46,47,48,49,50,51,52,53,54,55,56,57,58,59,60,61,62,63,64,65],[34,37,38,39,40,41,42,43,44,45,46,47,48,49,50,51,52,53,54,55,56,57,58,59,60,61,62,63,64,65],[34,37,38,39,40,41,42,43,44,45,46,47,48,49,50,51,52,53,54,55,56,57,58,59,60,61,62,63,64,65],[34,37,38,39,40,41,42,43,44,45,46,47,48,49,50,51,52,53,54,55,56,57,58,59,60,61,62,63,64,65],[30,31,32,33,37,38,39,40,41,42,43,44,45,46,47,48,49,50,51,52,53,54,55,56,57,58,59,60,61,62,63,64,65],[37,38,39,40,41,42,43,44,45,46,47,48,49,50,51,52,53,54,55,56,57,58,59,60,61,62,63,64,65],[37,38,39,40,41,42,43,44,45,46,47,48,49,50,51,52,53,54,55,56,57,58,59,60,61,62,63,64,65],[30,31,32,33,34,35,36,38,39,40,41,42,43,44,45,46,47,48,49,50,51,52,53,54,55,56,57,58,59,60,61,62,63,64,65],[30,31,32,33,34,35,36,37,42,45,48,49,50,51,52,53,54,55,56,57,58,59,60,61,62,63,64],[30,31,32,33,34,35,36,37,42,45,48,49,50,51,52,53,54,55,56,57,58,59,60,61,62,63,64],[30,31,32,33,34,35,36,37,42,45,48,49,50,51,52,53,54,55,56,57,58,59,60,61,62,63,64],[30,31,32,33,34,35,36,37,42,45,48,49,50,51,52,53,54,55,56,57,58,59,60,61,62,63,64],[30,31,32,33,34,35,36,37,38,39,40,41,45,48,49,50,51,52,53,54,55,56,57,58,59,60,61,62,63,64],[30,31,32,33,34,35,36,37,45,48,49,50,51,52,53,54,55,56,57,58,59,60,61,62,63,64],[30,31,32,33,34,35,36,37,45,48,49,50,51,52,53,54,55,56,57,58,59,60,61,62,63,64],[30,31,32,33,34,35,36,37,38,39,40,41,42,43,44,48,49,50,51,52,53,54,55,56,57,58,59,60,61,62,63,64],[30,31,32,33,34,35,36,37,48,49,50,51,52,53,54,55,56,57,58,59,60,61,62,63,64],[30,31,32,33,34,35,36,37,48,49,50,51,52,53,54,55,56,57,58,59,60,61,62,63,64],[30,31,32,33,34,35,36,37,38,39,40,41,42,43,44,45,46,47,49,50,51,52,53,54,55,56,57,58,59,60,61,62],[30,31,32,33,34,35,36,37,38,39,40,41,42,43,44,45,46,47,48,53,56,59,60,61,62],[30,31,32,33,34,35,36,37,38,39,40,41,42,43,44,45,46,47,48,53,56,59,60,61,62],[30,31,32,33,34,35,36,37,38,39,40,41,42,43,44,45,46,47,48,53,56,59,60,61,62],[30,31,32,33,34,35,36,37,38,39,40,41,42,43,44,45,46,47,48,53,56,59,60,61,62],[30,31,32,33,34,35,36,37,38,39,40,41,42,43,44,45,46,47,48,49,50,51,52,56,59,60,61,62],[30,31,32,33,34,35,36,37,38,39,40,41,42,43,44,45,46,47,48,56,59,60,61,62],[30,31,32,33,34,35,36,37,38,39,40,41,42,43,44,45,46,47,48,56,59,60,61,62],[30,31,32,33,34,35,36,37,38,39,40,41,42,43,44,45,46,47,48,49,50,51,52,53,54,55,59,60,61,62],[30,31,32,33,34,35,36,37,38,39,40,41,42,43,44,45,46,47,48,59,60,61,62],[30,31,32,33,34,35,36,37,38,39,40,41,42,43,44,45,46,47,48,59,60,61,62],[30,31,32,33,34,35,36,37,38,39,40,41,42,43,44,45,46,47,48,49,50,51,52,53,54,55,56,57,58],[30,31,32,33,34,35,36,37,38,39,40,41,42,43,44,45,46,47,48,49,50,51,52,53,54,55,56,57,58],[30,31,32,33,34,35,36,37,38,39,40,41,42,43,44,45,46,47,48,49,50,51,52,53,54,55,56,57,58],[30,31,32,33,34,35,36,37,38,39,40,41,42,43,44,45,46,47,48,49,50,51,52,53,54,55,56,57,58],[30,31,32,33,34,35,36,37,38,39,40,41,42,43,44,45,46,47],[30,31,32,33,34,35,36,37,38,39,40,41,42,43,44,45,46,47],[30,31,32,33,34,35,36,37],[],[]] J ?_;refine Wz [4,157,8,4,151,265,4,4,157,8,4,151,265,4,151] ?_;refine DR.s (x := .o (.ag ((Enc.e v).map (rdm [14])))) (Q6 J J J J havj J Aqb) J J ?_;refine Wz [190,4,157,8,4,151,227,66,192,4,157,8] ?_;refine DR.s (Zs J J (c2) J J J) J J ?_;refine DR.s (Qj J J (c3) J) J J ?_;refine DR.s (Zs J J (c4) J J J) J J ?_;refine Wz [151,13] ?_;refine AL.weak (st':=(⟨67,[(0,Aqf 0),(1,I i),(2,I j),(6,Aqf 13),(66,.o (.c (.el 14 10 j 0))),(65,.o (.ag (wX v' (.ref 16))))],[.box (mC x 1),.row 1 (els x.Level.Rows),.row 1 (els x.Scripts),.row 23 (els x.Peers),.row 1 ((els x.Wires).set i [.un]),.row 1 (els x.Paces),.row 1 (els x.Acks),.row 6 (els x.Watchers),.row 10 (els x.Lines),.row 2 (els x.Alarms),.gh 0 (.c (.ptr 0 0)),.row 1 (els k.Inputs),.row 1 (els k.Acks),.box (kC k (.ref 11) (.ref 12)),.row 10 (els u),.lk (.le 4 1 i 0) (.ref 14),.row 2 (els v'.Flights)]⟩:St)) (X4 [0,1,2,3,4,5,6,7,8,9,10,11,12,13,14,15,18] Aqc J ( Aqb) (.c J (.c J (.c J (.c J (.c J (.cons Aqb (.nil)))))))) ?_;refine Xe J J J J J J J J J J havj J J ?_;refine AL.weak (st':=(⟨67,[(0,Aqf 0),(1,I i),(2,I j),(6,Aqf 13)],[.box (mC x 1),.row 1 (els x.Level.Rows),.row 1 (els x.Scripts),.row 23 (els x.Peers),.row 1 ((els x.Wires).set i [.un]),.row 1 (els x.Paces),.row 1 (els x.Acks),.row 6 (els x.Watchers),.row 10 (els x.Lines),.row 2 (els x.Alarms),.gh 0 (.c (.ptr 0 0)),.row 1 (els k.Inputs),.row 1 (els k.Acks),.box (kC k (.ref 11) (.ref 12)),.row 10 ((els u).set j (Enc.e v')),.lk (.le 4 1 i 0) (.ref 14)]⟩:St)) (X4 [0,1,2,3,4,5,6,7,8,9,10,11,12,13,14,15] Aqc J ( Aqb) (.c J (.c J (.c J (.c J (.nil)))))) ?_;refine AL.weak (Wk.join (p:=4) (i:=i) (j:=0) (N:=14) (L:=15) J hat2 J J J J) ?_
  refine AL.weak (st':=(⟨67,[(0,Aqf 0),(1,I i),(2,I j)],[.box (mC x 1),.row 1 (els x.Level.Rows),.row 1 (els x.Scripts),.row 23 (els x.Peers),.row 1 (els (x.Wires.set i (u.set j v'))),.row 1 (els x.Paces),.row 1 (els x.Acks),.row 6 (els x.Watchers),.row 10 (els x.Lines),.row 2 (els x.Alarms),.gh 0 (.c (.ptr 0 0))]⟩:St)) (by rw[List.set_set,els_set,els_setL]; exact X3 [0,1,2,3,4,5,6,7,8,9,10] Aqb) ?_
  refine Wz [85,293] ?_
  exact E_none J (X1 [0,1,2,3,4,5,6,7,8,9,10] Aqc J J J)
theorem I_TellPeer (x:TMatch) (i j:Int) (h:MatchIn x):Con Tryz.prog 17 [] [ag x,ai i,ai j] (mR (tellV x i j) []) (.o (.ag (mC (tellV x i j) 0))):=by
 have cM:=I_copyMatch x h
 have cO:=I_MatchOk x h.gd
 have cT:=I_two x i j h.gd
 refine Con.of Tryz.func17 J Tryz.ntmps17 J (fun E => ?_)
 refine Wz [76,52,90] ?_;refine AL.weak (st':=(⟨22,[(1,I i),(2,I j),(3,Aqf 0),(6,Aqf 1),(8,.o (.ag (mD x)))],[.box (mD x),.box zM]⟩:St)) (X4 [0,1] Aqc J ( Aqb) (.c J (.c J (.c J (.c J (.c J (.nil))))))) ?_;refine M1 (Zs J J (cM) J J J) J J ?_;refine Wz [36,48,107,37] ?_;refine AL.weak (st':=(⟨22,[(1,I i),(2,I j),(3,Aqf 0),(6,Aqf 1),(7,Aqf 11),(10,.o (.ag (mD x)))],.box (mD x)::.box zM::mR x [.box (mC x 2)]⟩:St)) (X4 [0,1,2,3,4,5,6,7,8,9,10,11] Aqc J ( Aqb) (.c J (.c J (.c J (.c J (.c J (.c J (.nil)))))))) ?_
 cases hm:matchOk x with
 |false =>
  rw[hm] at cO
  rw[show tellV x i j=x by rw[tellV,hm]; rfl]
  refine zx (Qj J J (cO) J) J ?_;refine Wz [0,47,47,22,33,100,49] ?_
  exact Xk J J J J (X1 [2,3,4,5,6,7,8,9,10] Aqc J J J)
 |true =>
 rw[hm] at cO
 cases hb:twB x i j with
 |false =>
  rw[hb] at cT
  rw[show tellV x i j=x by rw[tellV,hm,hb]; rfl]
  refine zx (Qj J J (cO) J) J ?_;refine Wz [70,37,1,28] ?_;refine zx (Qj J J (cT) J) J ?_;refine Wz [60,33,100,49] ?_
  exact Xk J J J J (X1 [2,3,4,5,6,7,8,9,10] Aqc J J J)
 |true =>
  rw[hb] at cT
  obtain⟨_,y1,y2,y3,y4⟩:=twB_iff.1 hb
  obtain⟨a,rfl⟩:∃ a:Nat,i=a:=⟨i.toNat,Aqa⟩
  obtain⟨b,rfl⟩:∃ b:Nat,j=b:=⟨j.toNat,Aqa⟩
  have cS:=I_tell x a b h hm Aqa Aqa 
  rw[show tellV x (a:Int) (b:Int)=tellS x a b by rw[tellV,hm,hb]; rfl]
  refine zx (Qj J J (cO) J) J ?_;refine Wz [70,37,1,28] ?_;refine zx (Qj J J (cT) J) J ?_;refine Wz [60,24,63] ?_;refine Xd (lo := [_,_,_,_,_,_,_,_,_,_]) (gs := [(0,.c (.ptr 0 0))]) (lo' := [_,_,_,_,_,_,_,_,_,_]) (new := []) [11,2,3,4,5,6,7,8,9,10] [(0,0,.ptr 0 0)] (cS) J J J J J J J J J J J J J J J J J ?_;refine Wz [6,100,49] ?_
  exact Xk J J J J (X1 [2,3,4,5,6,7,8,9,10] Aqc J J J)
theorem S_TellPeer (x:TMatch) (i j:Int) (h:MatchIn x):Con Tryz.prog 15 [] [ag x,ai i,ai j] (mR (tellV x i j) []) (.o (.ag (mC (tellV x i j) 0))):=by
 have cM:=S_l08Copy x h
 have cT:=S_two x i j h.gd
 refine Con.of Tryz.func15 J Tryz.ntmps15 J (fun E => ?_)
 refine Wz [76,52,90] ?_;refine AL.weak (st':=(⟨18,[(1,I i),(2,I j),(3,Aqf 0),(6,Aqf 1),(8,.o (.ag (mD x)))],[.box (mD x),.box zM]⟩:St)) (X4 [0,1] Aqc J ( Aqb) (.c J (.c J (.c J (.c J (.c J (.nil))))))) ?_;refine M1 (Zs J J (cM) J J J) J J ?_;refine Wz [36,48,107,37,127] ?_;refine AL.weak (st':=(⟨18,[(1,I i),(2,I j),(3,Aqf 0),(6,Aqf 1),(7,Aqf 11),(10,.o (.ag (mD x))),(11,I i),(12,I j)],.box (mD x)::.box zM::mR x [.box (mC x 2)]⟩:St)) (X4 [0,1,2,3,4,5,6,7,8,9,10,11] Aqc J ( Aqb) (.c J (.c J (.c J (.c J (.c J (.c J (.c J (.c J (.nil)))))))))) ?_
 cases hm:matchOk x with
 |false =>
  rw[hm] at cT
  rw[show tellV x i j=x by rw[tellV,hm]; rfl]
  refine zx (Qj J J (cT) J) J ?_;refine Wz [33,100,49] ?_
  exact Xk J J J J (X1 [2,3,4,5,6,7,8,9,10] Aqc J J J)
 |true =>
 rw[hm] at cT
 cases hb:twB x i j with
 |false =>
  rw[hb] at cT
  rw[show tellV x i j=x by rw[tellV,hm,hb]; rfl]
  refine zx (Qj J J (cT) J) J ?_;refine Wz [33,100,49] ?_
  exact Xk J J J J (X1 [2,3,4,5,6,7,8,9,10] Aqc J J J)
 |true =>
  rw[hb] at cT
  obtain⟨_,y1,y2,y3,y4⟩:=twB_iff.1 hb
  obtain⟨a,rfl⟩:∃ a:Nat,i=a:=⟨i.toNat,Aqa⟩
  obtain⟨b,rfl⟩:∃ b:Nat,j=b:=⟨j.toNat,Aqa⟩
  have cS:=S_tell x a b h hm Aqa Aqa 
  rw[show tellV x (a:Int) (b:Int)=tellS x a b by rw[tellV,hm,hb]; rfl]
  refine zx (Qj J J (cT) J) J ?_;refine Wz [24,63] ?_;refine Xd (lo := [_,_,_,_,_,_,_,_,_,_]) (gs := [(0,.c (.ptr 0 0))]) (lo' := [_,_,_,_,_,_,_,_,_,_]) (new := []) [11,2,3,4,5,6,7,8,9,10] [(0,0,.ptr 0 0)] (cS) J J J J J J J J J J J J J J J J J ?_;refine Wz [6,100,49] ?_
  exact Xk J J J J (X1 [2,3,4,5,6,7,8,9,10] Aqc J J J)
end
end Go.Proofs.YtfklmiijhcajdaaGreat
