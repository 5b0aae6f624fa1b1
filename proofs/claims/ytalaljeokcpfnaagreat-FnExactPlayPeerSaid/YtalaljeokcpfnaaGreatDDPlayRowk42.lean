/-
  Confirm of any peer, in the program and in the reference.
  Conditions: a peer of at most 2^20 elements.
-/
import Derived.Test.YtalaljeokcpfnaaGreatDDPlayRowk41
set_option linter.unusedSimpArgs false
set_option linter.unusedVariables false
set_option maxRecDepth 8000
set_option maxHeartbeats 8000000
namespace Go.Proofs.YtalaljeokcpfnaaGreat
section
open Tryz
open Go.RowKit

theorem conN_eq {x y:TPeer} {m:Nat} (h:conN m x=conN (y.Now.Tick-y.Base.Tick).toNat y) (hc:conW y=none):conN m x=y:=by rw[h,conN_stop hc]
theorem conN_go {x y:TPeer} {m:Nat} {w:TWorld} (h:conN m x=conN (y.Now.Tick-y.Base.Tick).toNat y) (hc:conW y=some w) (hl:(y.Now.Tick-y.Base.Tick).toNat=((conS y w).Now.Tick-(conS y w).Base.Tick).toNat+1):conN m x=conN ((conS y w).Now.Tick-(conS y w).Base.Tick).toNat (conS y w):=by
 rw[h,hl,conN_next hc]
theorem els_drop1 {α:Type} [Enc α] (xs:List α):els (xs.drop 1)=(els xs).drop 1:=by rw[els,List.map_drop]
theorem I_ConfA (x:TPeer) (hx:PeerD x):Co 103 [] [ag x] (pR (confP x) []) (.o (.ag (pC (confP x) 0 1 2 3 4 5 6 7 8 9))):=by
 have c1:=I_copyPeer x hx.inn
 have c2:=I_PeerOk x hx.inn.gd
 cases ok:peerOk x with
 |false =>
  rw[show confP x=x by rw[confP,ok]; rfl]
  rw[ok] at c2
  refine Con.o func103 ntmps103 fun E=>?_;refine Wz [59,1,7] ?_;refine AL.kp [1,1,2,2] [(8,.o (.ag (pD x)))] 2 [(0,.box (pD x)),(1,.box zP)] ?_;refine kc1 c1 ?_;refine AL.kp [1,1,2,2] [(9,.o (.ag (pS x)))] 12 [(0,.box (pD x)),(1,.box zP)] ?_;refine Wz [91,4,7] ?_;refine AL.kp [1,1,2,2,3,13] [(10,.o (.ag (pD x)))] 13 [(0,.box (pD x)),(1,.box zP),(12,.box (pS x))] ?_;refine kc0 c2 ?_;refine Wz [6,1] ?_
  repeat (first | refine Qd ?_ | refine Qh ?_ | refine Qk ?_ | refine Q0 ?_)
  refine Qm J ?_
  repeat (first | refine Qd ?_ | refine Qh ?_ | refine Qk ?_ | refine Q0 ?_)
  refine Qc ?_;refine AL.kp [1,1,2,2,3,13] [] 13 [(0,.box (pD x)),(1,.box zP),(12,.box (pS x))] ?_;refine z4 J J J ?_;refine AL.kp [2,2] [(13,.o (.ag (pS x)))] 13 [(0,.box (pD x)),(1,.box zP),(12,.box (pS x))] ?_;refine Qy J J J J J J J J J ?_;refine AL.kp [2,2] [] 13 [(0,.box (pD x)),(1,.box (pS x)),(12,.box (pS x))] ?_;refine Wz [1] ?_
  repeat (first | refine Xa ?_ | refine T_r ?_ | refine B_r ?_ | refine F_r ?_)
  exact Xm (cs:=(pS x)) J J J J (Yh [2,3,4,5,6,7,8,9,10,11] Aqc J Aqb Aqb)
 |true =>
 rw[ok] at c2
 have hK:=hx.inn.gd.2.2.2.2.1
 have cK:=I_KnownTicks x.Tracks hK
 rw[show confP x=conN (x.Now.Tick-x.Base.Tick).toNat x by rw[confP,ok]; rfl]
 refine Con.o func103 ntmps103 fun E=>?_;refine Wz [59,1,7] ?_;refine AL.kp [1,1,2,2] [(8,.o (.ag (pD x)))] 2 [(0,.box (pD x)),(1,.box zP)] ?_;refine kc1 c1 ?_;refine AL.kp [1,1,2,2] [(9,.o (.ag (pS x)))] 12 [(0,.box (pD x)),(1,.box zP)] ?_;refine Wz [91,4,7] ?_;refine AL.kp [1,1,2,2,3,13] [(10,.o (.ag (pD x)))] 13 [(0,.box (pD x)),(1,.box zP),(12,.box (pS x))] ?_;refine kc0 c2 ?_;refine Wz [6,28,18] ?_;refine kc0 cK ?_;refine Wz [16,34] ?_;refine AWP.kp [1,1,2,2,3,13,4,0] [] 13 [(0,.box (pD x)),(1,.box zP),(12,.box (pS x))] ?_;refine Xj (fun m__ st=>∃ (y:TPeer),(y.Now.Tick-y.Base.Tick).toNat=m__∧((peerOk y=true∧PeerD y∧y.Tracks=x.Tracks∧conN (x.Now.Tick-x.Base.Tick).toNat x=conN (y.Now.Tick-y.Base.Tick).toNat y))∧st=(⟨77,[(1,Aqf 0),(2,Aqf 1),(3,Aqf 12),(4,I (knownTicks x.Tracks:Nat))],[.box (pD x),.box zP,.row 1 (els y.Tracks),.row 1 (els y.Base.Level.Rows),.row 1 (els y.Base.Scores),.row 9 (els y.Base.Bodies),.row 1 (els y.Now.Level.Rows),.row 1 (els y.Now.Scores),.row 9 (els y.Now.Bodies),.row 1 (els y.Used),.row 2 (els y.Saves),.row 1 (els y.Sums),.box (pS y)]⟩:St)) _ ⟨_,⟨x,J,⟨ok,hx,J,J⟩,J⟩,Yj [0,1,2,3,4,5,6,7,8,9,10,11,12] Aqb⟩ ?_
 rintro m_A _ ⟨y,hk_A,hp_A,rfl⟩
 obtain⟨oy,hy,hT,hN⟩:=hp_A
 have hs:=Ke oy
 have hus:=hs.us
 have hsv:=hs.sv
 have hsm:=hs.sm
 obtain⟨b0,b4⟩:=hs.bt
 obtain⟨n0,n4⟩:=hs.nt
 have hlu:=Y7 y.Used
 have hls:=Y7 y.Saves
 have hlm:=Y7 y.Sums
 have hlead:=(Kf oy).2.2.2.2.1
 obtain⟨_,hU1,hS1⟩:=hlead
 have c4:=I_FirstW y hy
 obtain⟨fw,hfw⟩:∃ fw,firstWrong y=fw:=⟨_,rfl⟩
 rw[hfw] at c4
 obtain⟨c,hc⟩:∃ c:Bool,c=((decide (y.Base.Tick<y.Now.Tick)&&decide (y.Base.Tick<((knownTicks x.Tracks:Nat):Int)))&&decide (fw≠y.Base.Tick)):=⟨_,rfl⟩
 repeat (first | refine Qd ?_ | refine Qh ?_ | refine Qk ?_ | refine Q0 ?_)
 refine A_seqW ⟨77,[(1,Aqf 0),(2,Aqf 1),(3,Aqf 12),(4,I (knownTicks x.Tracks:Nat)),(38,B c)],[.box (pD x),.box zP,.row 1 (els y.Tracks),.row 1 (els y.Base.Level.Rows),.row 1 (els y.Base.Scores),.row 9 (els y.Base.Bodies),.row 1 (els y.Now.Level.Rows),.row 1 (els y.Now.Scores),.row 9 (els y.Now.Bodies),.row 1 (els y.Used),.row 2 (els y.Saves),.row 1 (els y.Sums),.box (pS y)]⟩ ?_ ?_
 ·by_cases h1:y.Base.Tick<y.Now.Tick
  case neg =>
   have f1:decide (y.Base.Tick<y.Now.Tick)=false:=Gqa h1
   have hcc:false=c:=by rw[hc,f1]; rfl
   refine Xi u8_91 u8_92 u8_93 J ?_;refine Wz [145,37,145,37] ?_;refine Uq (Qr J J J J Aqe) J ?_;refine Wz [118,188,84,118,199,84,12,1] ?_
   exact Bz9
  have f1:decide (y.Base.Tick<y.Now.Tick)=true:=Gqb h1
  by_cases h2:y.Base.Tick<((knownTicks x.Tracks:Nat):Int)
  case neg =>
   have f2:decide (y.Base.Tick<((knownTicks x.Tracks:Nat):Int))=false:=Gqa h2
   have hcc:false=c:=by rw[hc,f2,Gxk]; rfl
   refine Xi u8_91 u8_92 u8_93 J ?_;refine Wz [145,37,145,37] ?_;refine Uq (Qr J J J J Aqe) J ?_;refine Wz [17,152,24,62,213,88,118,199,84,12,1] ?_
   exact Bz9
  have f2:decide (y.Base.Tick<((knownTicks x.Tracks:Nat):Int))=true:=Gqb h2
  by_cases h3:fw≠y.Base.Tick
  case neg =>
   have f3:decide (fw≠y.Base.Tick)=false:=Gqa h3
   have hcc:false=c:=by rw[hc,f3,Gxk]
   refine Xi u8_91 u8_92 u8_93 J ?_;refine Wz [145,37,145,37] ?_;refine Uq (Qr J J J J Aqe) J ?_;refine Wz [17,152,24,62,213,88,17,210] ?_;refine Uq (Qt.yes J J J (Qj J J (c4) J)) J ?_;refine Wz [152,24,264,88,12,1] ?_
   exact Bz9
  have f3:decide (fw≠y.Base.Tick)=true:=Gqb h3
  have hcc:true=c:=by rw[hc,f1,f2,f3]; rfl
  refine Xi u8_91 u8_92 u8_93 J ?_;refine Wz [145,37,145,37] ?_;refine Uq (Qr J J J J Aqe) J ?_;refine Wz [17,152,24,62,213,88,17,210] ?_;refine Uq (Qt.yes J J J (Qj J J (c4) J)) J ?_;refine Wz [152,24,264,88,12,1] ?_
  exact Bz9
 refine Xb J (fun h=>?_) (fun h=>?_)
 rotate_left
 ·have hcw:conW y=none:=conW_no fun hw=>by
   obtain⟨⟨q1,q2⟩,q3⟩:=hw
   rw[hfw] at q3
   rw[hT] at q2
   rw[hc,Gqb q1,Gqb q2,Gqb q3] at h
   cases h
  rw[conN_eq hN hcw]
  repeat (first | refine Q9 ?_ | refine T_x ?_ | refine Xl ?_ | refine B_xo rfl ?_ | refine Q0 ?_ | refine Qd ?_ | refine Qh ?_ | refine Qk ?_)
  refine Qc ?_;refine AL.kp [1,1,2,2,3,13] [] 13 [(0,.box (pD x)),(1,.box zP),(12,.box (pS y))] ?_;refine z4 J J J ?_;refine AL.kp [2,2] [(76,.o (.ag (pS y)))] 13 [(0,.box (pD x)),(1,.box zP),(12,.box (pS y))] ?_;refine Qy J J J J J J J J J ?_;refine AL.kp [2,2] [] 13 [(0,.box (pD x)),(1,.box (pS y)),(12,.box (pS y))] ?_;refine Wz [1] ?_
  repeat (first | refine Xa ?_ | refine T_r ?_ | refine B_r ?_ | refine F_r ?_)
  exact Bja
 have hC:ConC y∧firstWrong y≠y.Base.Tick:=by
  simp only[hc,Gqh,decide_eq_true_eq] at h
  exact⟨⟨h.1.1,by rw[hT]; exact h.1.2⟩,by rw[hfw]; exact h.2⟩
 have hlt:=hC.1.1
 have hcw:=conW_yes hC.1 hC.2
 have c5:=I_nextC y hy oy
 cases hnc:nextC y with
 |none =>
  rw[hnc] at c5
  rw[conN_eq hN (hcw.trans hnc)]
  repeat (first | refine Qd ?_ | refine Qh ?_ | refine Qk ?_ | refine Q0 ?_)
  refine Wz [94,85] ?_;refine AL.kp [1,1,2,2,3,13,4,0] [(40,.o (.ag (pS y)))] 13 [(0,.box (pD x)),(1,.box zP),(12,.box (pS y))] ?_;refine kc1 c5 ?_;refine AL.kp [1,1,2,2,3,13,4,0] [(41,.tu [.ag [Aqk 13,jn 0,jn 0,Aqk 14,Aqk 15],.c (bv false)])] 16 [(0,.box (pD x)),(1,.box zP),(12,.box (pS y))] ?_;refine Wz [120,82,47] ?_;refine AL.kp [1,1,2,2,3,13,4,0,43,0] [] 13 [(0,.box (pD x)),(1,.box zP),(12,.box (pS y))] ?_;refine Wz [8] ?_
  repeat (first | refine Qd ?_ | refine Qh ?_ | refine Qk ?_ | refine Q0 ?_)
  refine Wz [27,6,1] ?_
  repeat (first | refine Qd ?_ | refine Qh ?_ | refine Qk ?_ | refine Q0 ?_)
  refine Qm J ?_
  repeat (first | refine Q9 ?_ | refine T_x ?_ | refine Xl ?_ | refine B_xo rfl ?_ | refine Q0 ?_ | refine Qd ?_ | refine Qh ?_ | refine Qk ?_)
  refine Qc ?_;refine AL.kp [1,1,2,2,3,13] [] 13 [(0,.box (pD x)),(1,.box zP),(12,.box (pS y))] ?_;refine z4 J J J ?_;refine AL.kp [2,2] [(76,.o (.ag (pS y)))] 13 [(0,.box (pD x)),(1,.box zP),(12,.box (pS y))] ?_;refine Qy J J J J J J J J J ?_;refine AL.kp [2,2] [] 13 [(0,.box (pD x)),(1,.box (pS y)),(12,.box (pS y))] ?_;refine Wz [1] ?_
  repeat (first | refine Xa ?_ | refine T_r ?_ | refine B_r ?_ | refine F_r ?_)
  exact Bja
 | some w =>
  rw[hnc] at c5
  obtain⟨oz,hz⟩:=con_ok hy oy hC.1 hnc
  have hlen:=con_len hy.inn oy hC.1 hnc
  have gw:=(next_goes hy.inn oy hnc).1
  have hN2:=conN_go hN (hcw.trans hnc) hlen
  have hsn:els (y.Sums ++ [wsum w])=els y.Sums ++ [[.v (.int .i64 (wsum w))]]:=Y3 _ _
  have hdu:=els_drop1 y.Used
  have hds:=els_drop1 y.Saves
  have hdl:((els y.Saves).drop 1).length=y.Saves.length-1:=by rw[Gq9]; omega
  have cw:=I_wsu w gw.wi.gd
  have c6:=Xw w gw.wi.gd
  have bw:=Yz w
  have c7:=I_DeltaText (worldBytes w) (worldBytes w) Aqa Aqa 
  obtain⟨D,hD⟩:∃ D,D=deltaT (worldBytes w) (worldBytes w):=⟨_,rfl⟩
  rw[←hD] at c7
  repeat (first | refine Qd ?_ | refine Qh ?_ | refine Qk ?_ | refine Q0 ?_)
  refine Wz [94,85] ?_;refine AL.kp [1,1,2,2,3,13,4,0] [(40,.o (.ag (pS y)))] 13 [(0,.box (pD x)),(1,.box zP),(12,.box (pS y))] ?_;refine kc1 c5 ?_;refine AL.kp [1,1,2,2,3,13,4,0] [(41,.tu [.ag (wC w 13),.c (bv true)])] 16 [(0,.box (pD x)),(1,.box zP),(12,.box (pS y))] ?_;refine Wz [120,82,47,72,28,7,79,39,4] ?_;refine AWP.kp [1,1,2,2,3,13,4,0,5,17] [] 17 [(0,.box (pD x)),(1,.box zP),(12,.box (pX (conS y w) (Aqk 2) (Aqk 13) (Aqk 14) (Aqk 15) (Aqk 6) (Aqk 7) (Aqk 8) (Aqk 9) (Aqk 10) (Aqk 11))),(16,.box (wC w 13))] ?_;refine Xi u8_55 (tt [[],[48,1],[],[50,1],[50,2],[48,5],[48,6],[48,7]]) (tt [[50,3],[50,3],[48,2],[48,2],[48,2],[],[],[]]) J ?_;refine Wz [37,136] ?_;refine Uq (Qj J J (cw) J) J ?_;refine Wz [153,12,183,98] ?_
  refine AL.weak (st':=(⟨77,[(1,Aqf 0),(2,Aqf 1),(3,Aqf 12),(4,I (knownTicks x.Tracks:Nat)),(5,Aqf 16),(56,Aqg 9)],[.box (pD x),.box zP,.row 1 (els y.Tracks),.row 1 (els y.Base.Level.Rows),.row 1 (els y.Base.Scores),.row 9 (els y.Base.Bodies),.row 1 (els y.Now.Level.Rows),.row 1 (els y.Now.Scores),.row 9 (els y.Now.Bodies),.row 1 (els y.Used),.row 2 (els y.Saves),.row 1 (els (y.Sums ++ [wsum w])),.box (pX (conS y w) (Aqk 2) (Aqk 13) (Aqk 14) (Aqk 15) (Aqk 6) (Aqk 7) (Aqk 8) (Aqk 9) (Aqk 10) (Aqk 11)),.row 1 (els w.Level.Rows),.row 1 (els w.Scores),.row 9 (els w.Bodies),.box (wC w 13)]⟩:St)) Bzd ?_
  refine Wz [279,121] ?_
  refine AL.weak (st':=(⟨77,[(1,Aqf 0),(2,Aqf 1),(3,Aqf 12),(4,I (knownTicks x.Tracks:Nat)),(5,Aqf 16)],[.box (pD x),.box zP,.row 1 (els y.Tracks),.row 1 (els y.Base.Level.Rows),.row 1 (els y.Base.Scores),.row 9 (els y.Base.Bodies),.row 1 (els y.Now.Level.Rows),.row 1 (els y.Now.Scores),.row 9 (els y.Now.Bodies),.row 1 (els (y.Used.drop 1)),.row 2 (els y.Saves),.row 1 (els (y.Sums ++ [wsum w])),.box (pX (conS y w) (Aqk 2) (Aqk 13) (Aqk 14) (Aqk 15) (Aqk 6) (Aqk 7) (Aqk 8) (Aqk 9) (Aqk 10) (Aqk 11)),.row 1 (els w.Level.Rows),.row 1 (els w.Scores),.row 9 (els w.Bodies),.box (wC w 13)]⟩:St)) (by rw[hdu]; exact Yj [0,1,2,3,4,5,6,7,8,9,10,11,12,13,14,15,16] Aqb) ?_
  refine Wz [1,18] ?_;refine AL.kp [1,1,2,2,3,13,4,0,5,17] [(60,Aqg 10)] 17 [(0,.box (pD x)),(1,.box zP),(12,.box (pX (conS y w) (Aqk 2) (Aqk 13) (Aqk 14) (Aqk 15) (Aqk 6) (Aqk 7) (Aqk 8) (Aqk 9) (Aqk 10) (Aqk 11))),(16,.box (wC w 13))] ?_;refine Wz [279,121] ?_
  refine AL.weak (st':=(⟨77,[(1,Aqf 0),(2,Aqf 1),(3,Aqf 12),(4,I (knownTicks x.Tracks:Nat)),(5,Aqf 16)],[.box (pD x),.box zP,.row 1 (els y.Tracks),.row 1 (els y.Base.Level.Rows),.row 1 (els y.Base.Scores),.row 9 (els y.Base.Bodies),.row 1 (els y.Now.Level.Rows),.row 1 (els y.Now.Scores),.row 9 (els y.Now.Bodies),.row 1 (els (y.Used.drop 1)),.row 2 (els (y.Saves.drop 1)),.row 1 (els (y.Sums ++ [wsum w])),.box (pX (conS y w) (Aqk 2) (Aqk 13) (Aqk 14) (Aqk 15) (Aqk 6) (Aqk 7) (Aqk 8) (Aqk 9) (Aqk 10) (Aqk 11)),.row 1 (els w.Level.Rows),.row 1 (els w.Scores),.row 9 (els w.Bodies),.box (wC w 13)]⟩:St)) (by rw[hds]; exact Yj [0,1,2,3,4,5,6,7,8,9,10,11,12,13,14,15,16] Aqb) ?_
  refine Wz [1,18,33,222,1] ?_
  have hdl2:(els (y.Saves.drop 1)).length=(y.Saves.drop 1).length:=Y7 _
  have hdl3:(y.Saves.drop 1).length=y.Saves.length-1:=Aqd
  obtain⟨sv,hsvd⟩:∃ sv,sv=y.Saves.drop 1:=⟨_,rfl⟩
  rw[←hsvd] at hdl2 hdl3 ⊢
  have hfx:(conS y w).Saves=fixD w sv:=by rw[hsvd]; rfl
  cases sv with
  |nil =>
   have f7:decide ((0:Int)<((els ([]:List TSave)).length:Int))=false:=rfl
   refine Xb J (fun h=>?_) (fun h=>?_)
   ·cases h
   refine Wz [149,133] ?_
   refine⟨_, Aqa,(fun (y:TPeer)=>(⟨77,[(1,Aqf 0),(2,Aqf 1),(3,Aqf 12),(4,I (knownTicks x.Tracks:Nat))],[.box (pD x),.box zP,.row 1 (els y.Tracks),.row 1 (els y.Base.Level.Rows),.row 1 (els y.Base.Scores),.row 9 (els y.Base.Bodies),.row 1 (els y.Now.Level.Rows),.row 1 (els y.Now.Scores),.row 9 (els y.Now.Bodies),.row 1 (els y.Used),.row 2 (els y.Saves),.row 1 (els y.Sums),.box (pS y)]⟩:St)) (conS y w),⟨conS y w,J,⟨oz,hz,hT,hN2⟩,J⟩,Yk [0,1,2,13,14,15,6,7,8,9,10,11,12] Aqc J (Bzf) (.c J (.c J (.c J (.c J (.nil)))))⟩
  |cons s rest =>
   simp only[Gqw] at hdl2
   refine Xb J (fun h=>?_) (fun h=>?_)
   rotate_left
   ·have:=Gqd h; omega
   refine Wz [7] ?_;refine kc0 c6 ?_;refine Wz [8] ?_;refine AWP.kp [1,1,2,2,3,13,4,0,5,17,7,0] [] 17 [(0,.box (pD x)),(1,.box zP),(12,.box (pX (conS y w) (Aqk 2) (Aqk 13) (Aqk 14) (Aqk 15) (Aqk 6) (Aqk 7) (Aqk 8) (Aqk 9) (Aqk 10) (Aqk 11))),(16,.box (wC w 13))] ?_;refine Xi u8_94 (tt [[],[69,1],[],[],[71,2],[69,5],[69,6],[69,7]]) (tt [[71,3],[71,3],[69,2,72,1],[69,3],[69,2],[],[],[]]) J ?_;refine Wz [37,35] ?_;refine Uq (Qj J J (c7) J) J ?_;refine Wz [129,249,12] ?_;refine AL.kp [1,1,2,2,3,13,4,0,5,17,73,0] [(75,.o (.c (.el 10 2 0 1)))] 17 [(0,.box (pD x)),(1,.box zP),(12,.box (pX (conS y w) (Aqk 2) (Aqk 13) (Aqk 14) (Aqk 15) (Aqk 6) (Aqk 7) (Aqk 8) (Aqk 9) (Aqk 10) (Aqk 11))),(16,.box (wC w 13))] ?_
   have hat1:(els (s::rest))[0]? = some (Enc.e s):=rfl
   refine Xh J J J J J J J J J hat1 J J ?_;refine AL.kp [1,1,2,2,3,13,4,0,5,17] [] 17 [(0,.box (pD x)),(1,.box zP),(12,.box (pX (conS y w) (Aqk 2) (Aqk 13) (Aqk 14) (Aqk 15) (Aqk 6) (Aqk 7) (Aqk 8) (Aqk 9) (Aqk 10) (Aqk 11))),(16,.box (wC w 13))] ?_;refine Wz [53,133] ?_
   refine⟨_, Aqa,(fun (y:TPeer)=>(⟨77,[(1,Aqf 0),(2,Aqf 1),(3,Aqf 12),(4,I (knownTicks x.Tracks:Nat))],[.box (pD x),.box zP,.row 1 (els y.Tracks),.row 1 (els y.Base.Level.Rows),.row 1 (els y.Base.Scores),.row 9 (els y.Base.Bodies),.row 1 (els y.Now.Level.Rows),.row 1 (els y.Now.Scores),.row 9 (els y.Now.Bodies),.row 1 (els y.Used),.row 2 (els y.Saves),.row 1 (els y.Sums),.box (pS y)]⟩:St)) (conS y w),⟨conS y w,J,⟨oz,hz,hT,hN2⟩,J⟩,Yk [0,1,2,13,14,15,6,7,8,9,10,11,12] Aqc J (Bzg) (.c J (.c J (.c J (.c J (.nil)))))⟩
theorem S_ConfA (x:TPeer) (hx:PeerD x):Co 80 [] [ag x] (pR (confP x) []) (.o (.ag (pC (confP x) 0 1 2 3 4 5 6 7 8 9))):=by
 have c1:=S_l04Copy x hx.inn
 have c2:=S_PeerOk x hx.inn.gd
 cases ok:peerOk x with
 |false =>
  rw[show confP x=x by rw[confP,ok]; rfl]
  rw[ok] at c2
  refine Con.o func80 ntmps80 fun E=>?_;refine Wz [59,1,7] ?_;refine AL.kp [1,1,2,2] [(7,.o (.ag (pD x)))] 2 [(0,.box (pD x)),(1,.box zP)] ?_;refine kc1 c1 ?_;refine AL.kp [1,1,2,2] [(8,.o (.ag (pS x)))] 12 [(0,.box (pD x)),(1,.box zP)] ?_;refine Wz [91,4,34] ?_;refine AWP.kp [1,1,2,2,3,13] [] 13 [(0,.box (pD x)),(1,.box zP),(12,.box (pS x))] ?_;refine @A_loop _ _ _ _ _ (fun m st=>st=(⟨86,[(1,Aqf 0),(2,Aqf 1),(3,Aqf 12)],[.box (pD x),.box zP,.row 1 (els x.Tracks),.row 1 (els x.Base.Level.Rows),.row 1 (els x.Base.Scores),.row 9 (els x.Base.Bodies),.row 1 (els x.Now.Level.Rows),.row 1 (els x.Now.Scores),.row 9 (els x.Now.Bodies),.row 1 (els x.Used),.row 2 (els x.Saves),.row 1 (els x.Sums),.box (pS x)]⟩:St)) 0 ⟨_,Wk.refl _,J⟩ ?_
  intro m st hst
  subst hst
  refine Wz [4,4] ?_;refine AWP.kp [1,1,2,2,3,13] [] 13 [(0,.box (pD x)),(1,.box zP),(12,.box (pS x))] ?_;refine Xi u8_95 u8_96 u8_97 J ?_;refine DR.s (x := .o (.ag (pS x))) (Qu J J J J J Aqb) J J ?_;refine Uq (Qj J J (c2) J) J ?_;refine Wz [118,199,188,84,118,199,188,84,118,199,84,12,1] ?_;refine AWP.kp [1,1,2,2,3,13,36,0] [] 13 [(0,.box (pD x)),(1,.box zP),(12,.box (pS x))] ?_;refine Ql J ?_
  repeat (first | refine Q9 ?_ | refine T_x ?_ | refine Xl ?_ | refine B_xo rfl ?_ | refine Q0 ?_ | refine Qd ?_ | refine Qh ?_ | refine Qk ?_)
  refine Qc ?_;refine AL.kp [1,1,2,2,3,13] [] 13 [(0,.box (pD x)),(1,.box zP),(12,.box (pS x))] ?_;refine z4 J J J ?_;refine AL.kp [2,2] [(85,.o (.ag (pS x)))] 13 [(0,.box (pD x)),(1,.box zP),(12,.box (pS x))] ?_;refine Qy J J J J J J J J J ?_;refine AL.kp [2,2] [] 13 [(0,.box (pD x)),(1,.box (pS x)),(12,.box (pS x))] ?_;refine Wz [1] ?_
  repeat (first | refine Xa ?_ | refine T_r ?_ | refine B_r ?_ | refine F_r ?_)
  exact Xm (cs:=(pS x)) J J J J (Yh [2,3,4,5,6,7,8,9,10,11] Aqc J Aqb Aqb)
 |true =>
 rw[ok] at c2
 have hK:=hx.inn.gd.2.2.2.2.1
 have cK:=Yd x.Tracks hK
 rw[show confP x=conN (x.Now.Tick-x.Base.Tick).toNat x by rw[confP,ok]; rfl]
 refine Con.o func80 ntmps80 fun E=>?_;refine Wz [59,1,7] ?_;refine AL.kp [1,1,2,2] [(7,.o (.ag (pD x)))] 2 [(0,.box (pD x)),(1,.box zP)] ?_;refine kc1 c1 ?_;refine AL.kp [1,1,2,2] [(8,.o (.ag (pS x)))] 12 [(0,.box (pD x)),(1,.box zP)] ?_;refine Wz [91,4,34] ?_;refine AWP.kp [1,1,2,2,3,13] [] 13 [(0,.box (pD x)),(1,.box zP),(12,.box (pS x))] ?_;refine Xj (fun m__ st=>∃ (y:TPeer),(y.Now.Tick-y.Base.Tick).toNat=m__∧((peerOk y=true∧PeerD y∧y.Tracks=x.Tracks∧conN (x.Now.Tick-x.Base.Tick).toNat x=conN (y.Now.Tick-y.Base.Tick).toNat y))∧st=(⟨86,[(1,Aqf 0),(2,Aqf 1),(3,Aqf 12)],[.box (pD x),.box zP,.row 1 (els y.Tracks),.row 1 (els y.Base.Level.Rows),.row 1 (els y.Base.Scores),.row 9 (els y.Base.Bodies),.row 1 (els y.Now.Level.Rows),.row 1 (els y.Now.Scores),.row 9 (els y.Now.Bodies),.row 1 (els y.Used),.row 2 (els y.Saves),.row 1 (els y.Sums),.box (pS y)]⟩:St)) _ ⟨_,⟨x,J,⟨ok,hx,J,J⟩,J⟩,Yj [0,1,2,3,4,5,6,7,8,9,10,11,12] Aqb⟩ ?_
 rintro m_A _ ⟨y,hk_A,hp_A,rfl⟩
 obtain⟨oy,hy,hT,hN⟩:=hp_A
 have hs:=Ke oy
 have hus:=hs.us
 have hsv:=hs.sv
 have hsm:=hs.sm
 obtain⟨b0,b4⟩:=hs.bt
 obtain⟨n0,n4⟩:=hs.nt
 have hlu:=Y7 y.Used
 have hls:=Y7 y.Saves
 have hlm:=Y7 y.Sums
 have hlead:=(Kf oy).2.2.2.2.1
 obtain⟨_,hU1,hS1⟩:=hlead
 have c4:=S_FirstW y hy
 have c3:=S_PeerOk y hy.inn.gd
 rw[oy] at c3
 have cK2:=Yd y.Tracks hy.inn.gd.2.2.2.2.1
 obtain⟨fw,hfw⟩:∃ fw,firstWrong y=fw:=⟨_,rfl⟩
 rw[hfw] at c4
 refine AWP.kp [1,1,2,2,3,13] [] 13 [(0,.box (pD x)),(1,.box zP),(12,.box (pS y))] ?_
 obtain⟨c,hc⟩:∃ c:Bool,c=((decide (y.Base.Tick<y.Now.Tick)&&decide (y.Base.Tick<((knownTicks y.Tracks:Nat):Int)))&&decide (fw≠y.Base.Tick)):=⟨_,rfl⟩
 repeat (first | refine Qd ?_ | refine Qh ?_ | refine Qk ?_ | refine Q0 ?_)
 refine A_seqW ⟨86,[(1,Aqf 0),(2,Aqf 1),(3,Aqf 12),(36,B c)],[.box (pD x),.box zP,.row 1 (els y.Tracks),.row 1 (els y.Base.Level.Rows),.row 1 (els y.Base.Scores),.row 9 (els y.Base.Bodies),.row 1 (els y.Now.Level.Rows),.row 1 (els y.Now.Scores),.row 9 (els y.Now.Bodies),.row 1 (els y.Used),.row 2 (els y.Saves),.row 1 (els y.Sums),.box (pS y)]⟩ ?_ ?_
 ·by_cases h1:y.Base.Tick<y.Now.Tick
  case neg =>
   have f1:decide (y.Base.Tick<y.Now.Tick)=false:=Gqa h1
   have hcc:false=c:=by rw[hc,f1]; rfl
   refine Xi u8_95 u8_96 u8_97 J ?_;refine DR.s (x := .o (.ag (pS y))) (Qu J J J J J Aqb) J J ?_;refine Uq (Qj J J (c3) J) J ?_;refine Wz [17,152,24,152,24,213,88,118,199,188,84,118,199,84,12,1] ?_
   exact Bjb
  have f1:decide (y.Base.Tick<y.Now.Tick)=true:=Gqb h1
  by_cases h2:y.Base.Tick<((knownTicks y.Tracks:Nat):Int)
  case neg =>
   have f2:decide (y.Base.Tick<((knownTicks y.Tracks:Nat):Int))=false:=Gqa h2
   have hcc:false=c:=by rw[hc,f2,Gxk]; rfl
   refine Xi u8_95 u8_96 u8_97 J ?_;refine DR.s (x := .o (.ag (pS y))) (Qu J J J J J Aqb) J J ?_;refine Uq (Qj J J (c3) J) J ?_;refine Wz [17,152,24,152,24,213,88,17,152,24,24] ?_;refine Uq (Qt.yes J J J (Qj J J (cK2) J)) J ?_;refine Wz [213,88,118,199,84,12,1] ?_
   exact Bjb
  have f2:decide (y.Base.Tick<((knownTicks y.Tracks:Nat):Int))=true:=Gqb h2
  by_cases h3:fw≠y.Base.Tick
  case neg =>
   have f3:decide (fw≠y.Base.Tick)=false:=Gqa h3
   have hcc:false=c:=by rw[hc,f3,Gxk]
   refine Xi u8_95 u8_96 u8_97 J ?_;refine DR.s (x := .o (.ag (pS y))) (Qu J J J J J Aqb) J J ?_;refine Uq (Qj J J (c3) J) J ?_;refine Wz [17,152,24,152,24,213,88,17,152,24,24] ?_;refine Uq (Qt.yes J J J (Qj J J (cK2) J)) J ?_;refine Wz [213,88,17,210] ?_;refine Uq (Qt.yes J J J (Qj J J (c4) J)) J ?_;refine Wz [152,24,264,88,12,1] ?_
   exact Bjb
  have f3:decide (fw≠y.Base.Tick)=true:=Gqb h3
  have hcc:true=c:=by rw[hc,f1,f2,f3]; rfl
  refine Xi u8_95 u8_96 u8_97 J ?_;refine DR.s (x := .o (.ag (pS y))) (Qu J J J J J Aqb) J J ?_;refine Uq (Qj J J (c3) J) J ?_;refine Wz [17,152,24,152,24,213,88,17,152,24,24] ?_;refine Uq (Qt.yes J J J (Qj J J (cK2) J)) J ?_;refine Wz [213,88,17,210] ?_;refine Uq (Qt.yes J J J (Qj J J (c4) J)) J ?_;refine Wz [152,24,264,88,12,1] ?_
  exact Bjb
 refine Xb J (fun h=>?_) (fun h=>?_)
 rotate_left
 ·have hcw:conW y=none:=conW_no fun hw=>by
   obtain⟨⟨q1,q2⟩,q3⟩:=hw
   rw[hfw] at q3
   rw[hc,Gqb q1,Gqb q2,Gqb q3] at h
   cases h
  rw[conN_eq hN hcw]
  repeat (first | refine Q9 ?_ | refine T_x ?_ | refine Xl ?_ | refine B_xo rfl ?_ | refine Q0 ?_ | refine Qd ?_ | refine Qh ?_ | refine Qk ?_)
  refine Qc ?_;refine AL.kp [1,1,2,2,3,13] [] 13 [(0,.box (pD x)),(1,.box zP),(12,.box (pS y))] ?_;refine z4 J J J ?_;refine AL.kp [2,2] [(85,.o (.ag (pS y)))] 13 [(0,.box (pD x)),(1,.box zP),(12,.box (pS y))] ?_;refine Qy J J J J J J J J J ?_;refine AL.kp [2,2] [] 13 [(0,.box (pD x)),(1,.box (pS y)),(12,.box (pS y))] ?_;refine Wz [1] ?_
  repeat (first | refine Xa ?_ | refine T_r ?_ | refine B_r ?_ | refine F_r ?_)
  exact Bja
 have hC:ConC y∧firstWrong y≠y.Base.Tick:=by
  simp only[hc,Gqh,decide_eq_true_eq] at h
  exact⟨⟨h.1.1,h.1.2⟩,by rw[hfw]; exact h.2⟩
 have hlt:=hC.1.1
 have hcw:=conW_yes hC.1 hC.2
 cases hnc:nextC y with
 |none =>
  have hA:¬y.Base.Tick+1=y.Now.Tick:=fun e=>by rw[nextC,if_pos e] at hnc; cases hnc
  have hsa:saveAt y (y.Base.Tick+1)=none:=by rw[nextC,if_neg hA] at hnc; exact hnc
  have c5:=S_SaveAt y (y.Base.Tick+1) hy ⟨Aqa,Aqa⟩
  rw[hsa] at c5
  have f5:decide ((1:Int)<((els y.Saves).length:Int))=true:=Gqb Aqa 
  rw[conN_eq hN (hcw.trans hnc)]
  repeat (first | refine Qd ?_ | refine Qh ?_ | refine Qk ?_ | refine Q0 ?_)
  refine Wz [94,154,82,47] ?_;refine AL.kp [1,1,2,2,3,13,4,14] [] 14 [(0,.box (pD x)),(1,.box zP),(12,.box (pS y)),(13,.box (wC y.Now 6))] ?_;refine Wz [1] ?_
  repeat (first | refine Qd ?_ | refine Qh ?_ | refine Qk ?_ | refine Q0 ?_)
  refine Wz [94,8] ?_
  repeat (first | refine Qd ?_ | refine Qh ?_ | refine Qk ?_ | refine Q0 ?_)
  refine Wz [94,31,33,111,1] ?_
  repeat (first | refine Qd ?_ | refine Qh ?_ | refine Qk ?_ | refine Q0 ?_)
  refine Qm J ?_
  repeat (first | refine Qd ?_ | refine Qh ?_ | refine Qk ?_ | refine Q0 ?_)
  refine Wz [94,85] ?_;refine AL.kp [1,1,2,2,3,13,4,14,5,0] [(44,.o (.ag (pS y)))] 14 [(0,.box (pD x)),(1,.box zP),(12,.box (pS y)),(13,.box (wC y.Now 6))] ?_;refine Wz [79,31,13] ?_;refine kc1 c5 ?_;refine AL.kp [1,1,2,2,3,13,4,14] [(49,.tu [.ag [Aqk 14,jn 0,jn 0,Aqk 15,Aqk 16],.c (bv false)])] 17 [(0,.box (pD x)),(1,.box zP),(12,.box (pS y)),(13,.box (wC y.Now 6))] ?_;refine Wz [120,47] ?_;refine AL.kp [1,1,2,2,3,13,51,0] [] 13 [(0,.box (pD x)),(1,.box zP),(12,.box (pS y))] ?_;refine Wz [8] ?_
  repeat (first | refine Qd ?_ | refine Qh ?_ | refine Qk ?_ | refine Q0 ?_)
  refine Wz [27,6,1] ?_
  repeat (first | refine Qd ?_ | refine Qh ?_ | refine Qk ?_ | refine Q0 ?_)
  refine Qm J ?_
  repeat (first | refine Q9 ?_ | refine T_x ?_ | refine Xl ?_ | refine B_xo rfl ?_ | refine Q0 ?_ | refine Qd ?_ | refine Qh ?_ | refine Qk ?_)
  refine Qc ?_;refine AL.kp [1,1,2,2,3,13] [] 13 [(0,.box (pD x)),(1,.box zP),(12,.box (pS y))] ?_;refine z4 J J J ?_;refine AL.kp [2,2] [(85,.o (.ag (pS y)))] 13 [(0,.box (pD x)),(1,.box zP),(12,.box (pS y))] ?_;refine Qy J J J J J J J J J ?_;refine AL.kp [2,2] [] 13 [(0,.box (pD x)),(1,.box (pS y)),(12,.box (pS y))] ?_;refine Wz [1] ?_
  repeat (first | refine Xa ?_ | refine T_r ?_ | refine B_r ?_ | refine F_r ?_)
  exact Bja
 | some w =>
  obtain⟨oz,hz⟩:=con_ok hy oy hC.1 hnc
  have hlen:=con_len hy.inn oy hC.1 hnc
  have gw:=(next_goes hy.inn oy hnc).1
  have hN2:=conN_go hN (hcw.trans hnc) hlen
  have hsn:els (y.Sums ++ [wsum w])=els y.Sums ++ [[.v (.int .i64 (wsum w))]]:=Y3 _ _
  have hdu:=els_drop1 y.Used
  have hds:=els_drop1 y.Saves
  have hdl:((els y.Saves).drop 1).length=y.Saves.length-1:=by rw[Gq9]; omega
  have cw:=S_wsu w gw.wi.gd
  have c6:=Ye w gw.wi.gd
  have bw:=Yz w
  have c7:=S_DeltaText (worldBytes w) (worldBytes w) Aqa Aqa 
  obtain⟨D,hD⟩:∃ D,D=deltaT (worldBytes w) (worldBytes w):=⟨_,rfl⟩
  rw[←hD] at c7
  have cC:=Yf w gw.wi.gd gw.wi.h1 gw.wi.h2 gw.wi.h3
  by_cases hA:y.Base.Tick+1=y.Now.Tick
  ·have hwy:w=y.Now:=by rw[nextC,if_pos hA] at hnc; cases hnc; rfl
   have f5:decide ((1:Int)<((els y.Saves).length:Int))=false:=Gqa Aqa 
   repeat (first | refine Qd ?_ | refine Qh ?_ | refine Qk ?_ | refine Q0 ?_)
   refine Wz [94,154,82,47] ?_;refine AL.kp [1,1,2,2,3,13,4,14] [] 14 [(0,.box (pD x)),(1,.box zP),(12,.box (pS y)),(13,.box (wC y.Now 6))] ?_;refine Wz [1] ?_
   repeat (first | refine Qd ?_ | refine Qh ?_ | refine Qk ?_ | refine Q0 ?_)
   refine Wz [94,8] ?_
   repeat (first | refine Qd ?_ | refine Qh ?_ | refine Qk ?_ | refine Q0 ?_)
   refine Wz [94,31,33,111,1] ?_
   repeat (first | refine Qd ?_ | refine Qh ?_ | refine Qk ?_ | refine Q0 ?_)
   refine Ql J ?_
   repeat (first | refine Qd ?_ | refine Qh ?_ | refine Qk ?_ | refine Q0 ?_)
   refine Wz [27,6,1] ?_
   repeat (first | refine Qd ?_ | refine Qh ?_ | refine Qk ?_ | refine Q0 ?_)
   refine Ql J ?_
   repeat (first | refine Qd ?_ | refine Qh ?_ | refine Qk ?_ | refine Q0 ?_)
   refine Wz [94,85] ?_
   refine AL.weak (st':=(⟨86,[(1,Aqf 0),(2,Aqf 1),(3,Aqf 12),(4,Aqf 13),(54,.o (.ag [Aqk 6,jn w.Tick,jn w.Seed,Aqk 7,Aqk 8]))],[.box (pD x),.box zP,.row 1 (els y.Tracks),.row 1 (els y.Base.Level.Rows),.row 1 (els y.Base.Scores),.row 9 (els y.Base.Bodies),.row 1 (els w.Level.Rows),.row 1 (els w.Scores),.row 9 (els w.Bodies),.row 1 (els y.Used),.row 2 (els y.Saves),.row 1 (els y.Sums),.box (pS y),.box (wC w 6)]⟩:St)) (Yk [0,1,2,3,4,5,6,7,8,9,10,11,12,13] Aqc J ((by rw[hwy]; rfl)) (.c J (.c J (.c J (.c J (.cons (by rw[hwy]; rfl) (.nil))))))) ?_
   refine kc1 cC ?_;refine AL.kr [1,1,2,2,3,13,4,17] [(55,.o (.ag (wC w 13)))] [0,1,2,3,4,5,6,7,8,9,10,11,12,14,15,16,13] [(0,.box (pD x)),(1,.box zP),(12,.box (pS y)),(13,.box (wC w 6))] ?_;refine Wz [79,47] ?_
   refine AL.weak (st':=(⟨86,[(1,Aqf 0),(2,Aqf 1),(3,Aqf 12),(4,Aqf 16)],[.box (pD x),.box zP,.row 1 (els y.Tracks),.row 1 (els y.Base.Level.Rows),.row 1 (els y.Base.Scores),.row 9 (els y.Base.Bodies),.row 1 (els w.Level.Rows),.row 1 (els w.Scores),.row 9 (els w.Bodies),.row 1 (els y.Used),.row 2 (els y.Saves),.row 1 (els y.Sums),.box (pX (conS y w) (Aqk 2) (Aqk 13) (Aqk 14) (Aqk 15) (Aqk 6) (Aqk 7) (Aqk 8) (Aqk 9) (Aqk 10) (Aqk 11)),.row 1 (els w.Level.Rows),.row 1 (els w.Scores),.row 9 (els w.Bodies),.box (wC w 6)]⟩:St)) (by rw[hwy]; exact Yj [0,1,2,3,4,5,6,7,8,9,10,11,12,13,14,15,16] Aqb) ?_
   refine Wz [1,4] ?_;refine Xi u8_55 u8_98 u8_99 J ?_;refine Wz [37,136] ?_;refine Uq (Qj J J (cw) J) J ?_;refine Wz [153,12,183,98] ?_
   refine AL.weak (st':=(⟨86,[(1,Aqf 0),(2,Aqf 1),(3,Aqf 12),(4,Aqf 16),(65,Aqg 9)],[.box (pD x),.box zP,.row 1 (els y.Tracks),.row 1 (els y.Base.Level.Rows),.row 1 (els y.Base.Scores),.row 9 (els y.Base.Bodies),.row 1 (els w.Level.Rows),.row 1 (els w.Scores),.row 9 (els w.Bodies),.row 1 (els y.Used),.row 2 (els y.Saves),.row 1 (els (y.Sums ++ [wsum w])),.box (pX (conS y w) (Aqk 2) (Aqk 13) (Aqk 14) (Aqk 15) (Aqk 6) (Aqk 7) (Aqk 8) (Aqk 9) (Aqk 10) (Aqk 11)),.row 1 (els w.Level.Rows),.row 1 (els w.Scores),.row 9 (els w.Bodies),.box (wC w 6)]⟩:St)) Bzd ?_
   refine Wz [279,121] ?_
   refine AL.weak (st':=(⟨86,[(1,Aqf 0),(2,Aqf 1),(3,Aqf 12),(4,Aqf 16)],[.box (pD x),.box zP,.row 1 (els y.Tracks),.row 1 (els y.Base.Level.Rows),.row 1 (els y.Base.Scores),.row 9 (els y.Base.Bodies),.row 1 (els w.Level.Rows),.row 1 (els w.Scores),.row 9 (els w.Bodies),.row 1 (els (y.Used.drop 1)),.row 2 (els y.Saves),.row 1 (els (y.Sums ++ [wsum w])),.box (pX (conS y w) (Aqk 2) (Aqk 13) (Aqk 14) (Aqk 15) (Aqk 6) (Aqk 7) (Aqk 8) (Aqk 9) (Aqk 10) (Aqk 11)),.row 1 (els w.Level.Rows),.row 1 (els w.Scores),.row 9 (els w.Bodies),.box (wC w 6)]⟩:St)) (by rw[hdu]; exact Yj [0,1,2,3,4,5,6,7,8,9,10,11,12,13,14,15,16] Aqb) ?_
   refine Wz [1,18] ?_;refine AL.kp [1,1,2,2,3,13,4,17] [(69,Aqg 10)] 17 [(0,.box (pD x)),(1,.box zP),(12,.box (pX (conS y w) (Aqk 2) (Aqk 13) (Aqk 14) (Aqk 15) (Aqk 6) (Aqk 7) (Aqk 8) (Aqk 9) (Aqk 10) (Aqk 11))),(16,.box (wC w 6))] ?_;refine Wz [279,121] ?_
   refine AL.weak (st':=(⟨86,[(1,Aqf 0),(2,Aqf 1),(3,Aqf 12),(4,Aqf 16)],[.box (pD x),.box zP,.row 1 (els y.Tracks),.row 1 (els y.Base.Level.Rows),.row 1 (els y.Base.Scores),.row 9 (els y.Base.Bodies),.row 1 (els w.Level.Rows),.row 1 (els w.Scores),.row 9 (els w.Bodies),.row 1 (els (y.Used.drop 1)),.row 2 (els (y.Saves.drop 1)),.row 1 (els (y.Sums ++ [wsum w])),.box (pX (conS y w) (Aqk 2) (Aqk 13) (Aqk 14) (Aqk 15) (Aqk 6) (Aqk 7) (Aqk 8) (Aqk 9) (Aqk 10) (Aqk 11)),.row 1 (els w.Level.Rows),.row 1 (els w.Scores),.row 9 (els w.Bodies),.box (wC w 6)]⟩:St)) (by rw[hds]; exact Yj [0,1,2,3,4,5,6,7,8,9,10,11,12,13,14,15,16] Aqb) ?_
   refine Wz [1,18,33,222,1] ?_
   have hdl2:(els (y.Saves.drop 1)).length=(y.Saves.drop 1).length:=Y7 _
   have hdl3:(y.Saves.drop 1).length=y.Saves.length-1:=Aqd
   obtain⟨sv,hsvd⟩:∃ sv,sv=y.Saves.drop 1:=⟨_,rfl⟩
   rw[←hsvd] at hdl2 hdl3 ⊢
   have hfx:(conS y w).Saves=fixD w sv:=by rw[hsvd]; rfl
   cases sv with
   |nil =>
    have f7:decide ((0:Int)<((els ([]:List TSave)).length:Int))=false:=rfl
    refine Xb J (fun h=>?_) (fun h=>?_)
    ·cases h
    refine Wz [149,133] ?_
    refine⟨_, Aqa,(fun (y:TPeer)=>(⟨86,[(1,Aqf 0),(2,Aqf 1),(3,Aqf 12)],[.box (pD x),.box zP,.row 1 (els y.Tracks),.row 1 (els y.Base.Level.Rows),.row 1 (els y.Base.Scores),.row 9 (els y.Base.Bodies),.row 1 (els y.Now.Level.Rows),.row 1 (els y.Now.Scores),.row 9 (els y.Now.Bodies),.row 1 (els y.Used),.row 2 (els y.Saves),.row 1 (els y.Sums),.box (pS y)]⟩:St)) (conS y w),⟨conS y w,J,⟨oz,hz,hT,hN2⟩,J⟩,Yk [0,1,2,13,14,15,6,7,8,9,10,11,12] Aqc J ((by rw[show conS y w={ y with Base:=w,Sums:=y.Sums ++ [wsum w],Used:=y.Used.drop 1,Saves := [] } by rw[conS,←hsvd]; rfl,hwy]; rfl)) (.c J (.c J (.c J (.nil))))⟩
   |cons s rest =>
    simp only[Gqw] at hdl2
    refine Xb J (fun h=>?_) (fun h=>?_)
    rotate_left
    ·have:=Gqd h; omega
    refine Wz [7] ?_;refine kc0 c6 ?_;refine Wz [8] ?_;refine AWP.kp [1,1,2,2,3,13,4,17,6,0] [] 17 [(0,.box (pD x)),(1,.box zP),(12,.box (pX (conS y w) (Aqk 2) (Aqk 13) (Aqk 14) (Aqk 15) (Aqk 6) (Aqk 7) (Aqk 8) (Aqk 9) (Aqk 10) (Aqk 11))),(16,.box (wC w 6))] ?_;refine Xi u8_94 u8_100 u8_101 J ?_;refine Wz [37,35] ?_;refine Uq (Qj J J (c7) J) J ?_;refine Wz [129,249,12] ?_;refine AL.kp [1,1,2,2,3,13,4,17,82,0] [(84,.o (.c (.el 10 2 0 1)))] 17 [(0,.box (pD x)),(1,.box zP),(12,.box (pX (conS y w) (Aqk 2) (Aqk 13) (Aqk 14) (Aqk 15) (Aqk 6) (Aqk 7) (Aqk 8) (Aqk 9) (Aqk 10) (Aqk 11))),(16,.box (wC w 6))] ?_
    have hat1:(els (s::rest))[0]? = some (Enc.e s):=rfl
    refine Xh J J J J J J J J J hat1 J J ?_;refine AL.kp [1,1,2,2,3,13,4,17] [] 17 [(0,.box (pD x)),(1,.box zP),(12,.box (pX (conS y w) (Aqk 2) (Aqk 13) (Aqk 14) (Aqk 15) (Aqk 6) (Aqk 7) (Aqk 8) (Aqk 9) (Aqk 10) (Aqk 11))),(16,.box (wC w 6))] ?_;refine Wz [53,133] ?_
    refine⟨_, Aqa,(fun (y:TPeer)=>(⟨86,[(1,Aqf 0),(2,Aqf 1),(3,Aqf 12)],[.box (pD x),.box zP,.row 1 (els y.Tracks),.row 1 (els y.Base.Level.Rows),.row 1 (els y.Base.Scores),.row 9 (els y.Base.Bodies),.row 1 (els y.Now.Level.Rows),.row 1 (els y.Now.Scores),.row 9 (els y.Now.Bodies),.row 1 (els y.Used),.row 2 (els y.Saves),.row 1 (els y.Sums),.box (pS y)]⟩:St)) (conS y w),⟨conS y w,J,⟨oz,hz,hT,hN2⟩,J⟩,Yk [0,1,2,13,14,15,6,7,8,9,10,11,12] Aqc J ((by rw[show conS y w={ y with Base:=w,Sums:=y.Sums ++ [wsum w],Used:=y.Used.drop 1,Saves:=⟨s.Tick,D⟩::rest } by rw[conS,←hsvd,fixD,←hD],hwy]; rfl)) (.c J (.c J (.c J (.nil))))⟩
  ·have hsa:saveAt y (y.Base.Tick+1)=some w:=by rw[nextC,if_neg hA] at hnc; exact hnc
   have c5:=S_SaveAt y (y.Base.Tick+1) hy ⟨Aqa,Aqa⟩
   rw[hsa] at c5
   have f5:decide ((1:Int)<((els y.Saves).length:Int))=true:=Gqb Aqa 
   repeat (first | refine Qd ?_ | refine Qh ?_ | refine Qk ?_ | refine Q0 ?_)
   refine Wz [94,154,82,47] ?_;refine AL.kp [1,1,2,2,3,13,4,14] [] 14 [(0,.box (pD x)),(1,.box zP),(12,.box (pS y)),(13,.box (wC y.Now 6))] ?_;refine Wz [1] ?_
   repeat (first | refine Qd ?_ | refine Qh ?_ | refine Qk ?_ | refine Q0 ?_)
   refine Wz [94,8] ?_
   repeat (first | refine Qd ?_ | refine Qh ?_ | refine Qk ?_ | refine Q0 ?_)
   refine Wz [94,31,33,111,1] ?_
   repeat (first | refine Qd ?_ | refine Qh ?_ | refine Qk ?_ | refine Q0 ?_)
   refine Qm J ?_
   repeat (first | refine Qd ?_ | refine Qh ?_ | refine Qk ?_ | refine Q0 ?_)
   refine Wz [94,85] ?_;refine AL.kp [1,1,2,2,3,13,4,14,5,0] [(44,.o (.ag (pS y)))] 14 [(0,.box (pD x)),(1,.box zP),(12,.box (pS y)),(13,.box (wC y.Now 6))] ?_;refine Wz [79,31,13] ?_;refine kc1 c5 ?_;refine AL.kp [1,1,2,2,3,13,4,14] [(49,.tu [.ag (wC w 14),.c (bv true)])] 17 [(0,.box (pD x)),(1,.box zP),(12,.box (pS y)),(13,.box (wC y.Now 6))] ?_;refine Wz [120,47] ?_;refine AL.kp [1,1,2,2,3,13,4,14,51,0] [] 17 [(0,.box (pD x)),(1,.box zP),(12,.box (pS y)),(13,.box (wC w 14))] ?_;refine Wz [8] ?_
   repeat (first | refine Qd ?_ | refine Qh ?_ | refine Qk ?_ | refine Q0 ?_)
   refine Wz [27,6,1] ?_
   repeat (first | refine Qd ?_ | refine Qh ?_ | refine Qk ?_ | refine Q0 ?_)
   refine Ql J ?_
   repeat (first | refine Qd ?_ | refine Qh ?_ | refine Qk ?_ | refine Q0 ?_)
   refine Wz [94,85] ?_;refine AL.kp [1,1,2,2,3,13,4,14] [(54,.o (.ag (wC w 14)))] 17 [(0,.box (pD x)),(1,.box zP),(12,.box (pS y)),(13,.box (wC w 14))] ?_;refine kc1 cC ?_;refine AL.kr [1,1,2,2,3,13,4,20] [(55,.o (.ag (wC w 13)))] [0,1,2,3,4,5,6,7,8,9,10,11,12,17,18,19,14,15,16,13] [(0,.box (pD x)),(1,.box zP),(12,.box (pS y)),(13,.box (wC w 16))] ?_;refine Wz [79,47] ?_;refine AL.kp [1,1,2,2,3,13,4,20] [] 20 [(0,.box (pD x)),(1,.box zP),(12,.box (pX (conS y w) (Aqk 2) (Aqk 13) (Aqk 14) (Aqk 15) (Aqk 6) (Aqk 7) (Aqk 8) (Aqk 9) (Aqk 10) (Aqk 11))),(19,.box (wC w 16))] ?_;refine Wz [1,4] ?_;refine Xi u8_55 u8_98 u8_99 J ?_;refine Wz [37,136] ?_;refine Uq (Qj J J (cw) J) J ?_;refine Wz [153,12,183,98] ?_
   refine AL.weak (st':=(⟨86,[(1,Aqf 0),(2,Aqf 1),(3,Aqf 12),(4,Aqf 19),(65,Aqg 9)],[.box (pD x),.box zP,.row 1 (els y.Tracks),.row 1 (els y.Base.Level.Rows),.row 1 (els y.Base.Scores),.row 9 (els y.Base.Bodies),.row 1 (els y.Now.Level.Rows),.row 1 (els y.Now.Scores),.row 9 (els y.Now.Bodies),.row 1 (els y.Used),.row 2 (els y.Saves),.row 1 (els (y.Sums ++ [wsum w])),.box (pX (conS y w) (Aqk 2) (Aqk 13) (Aqk 14) (Aqk 15) (Aqk 6) (Aqk 7) (Aqk 8) (Aqk 9) (Aqk 10) (Aqk 11)),.row 1 (els w.Level.Rows),.row 1 (els w.Scores),.row 9 (els w.Bodies),.row 1 (els w.Level.Rows),.row 1 (els w.Scores),.row 9 (els w.Bodies),.box (wC w 16)]⟩:St)) (by rw[hsn]; exact Yj [0,1,2,3,4,5,6,7,8,9,10,11,12,13,14,15,16,17,18,19] Aqb) ?_
   refine Wz [279,121] ?_
   refine AL.weak (st':=(⟨86,[(1,Aqf 0),(2,Aqf 1),(3,Aqf 12),(4,Aqf 19)],[.box (pD x),.box zP,.row 1 (els y.Tracks),.row 1 (els y.Base.Level.Rows),.row 1 (els y.Base.Scores),.row 9 (els y.Base.Bodies),.row 1 (els y.Now.Level.Rows),.row 1 (els y.Now.Scores),.row 9 (els y.Now.Bodies),.row 1 (els (y.Used.drop 1)),.row 2 (els y.Saves),.row 1 (els (y.Sums ++ [wsum w])),.box (pX (conS y w) (Aqk 2) (Aqk 13) (Aqk 14) (Aqk 15) (Aqk 6) (Aqk 7) (Aqk 8) (Aqk 9) (Aqk 10) (Aqk 11)),.row 1 (els w.Level.Rows),.row 1 (els w.Scores),.row 9 (els w.Bodies),.row 1 (els w.Level.Rows),.row 1 (els w.Scores),.row 9 (els w.Bodies),.box (wC w 16)]⟩:St)) (by rw[hdu]; exact Yj [0,1,2,3,4,5,6,7,8,9,10,11,12,13,14,15,16,17,18,19] Aqb) ?_
   refine Wz [1,18] ?_;refine AL.kp [1,1,2,2,3,13,4,20] [(69,Aqg 10)] 20 [(0,.box (pD x)),(1,.box zP),(12,.box (pX (conS y w) (Aqk 2) (Aqk 13) (Aqk 14) (Aqk 15) (Aqk 6) (Aqk 7) (Aqk 8) (Aqk 9) (Aqk 10) (Aqk 11))),(19,.box (wC w 16))] ?_;refine Wz [279,121] ?_
   refine AL.weak (st':=(⟨86,[(1,Aqf 0),(2,Aqf 1),(3,Aqf 12),(4,Aqf 19)],[.box (pD x),.box zP,.row 1 (els y.Tracks),.row 1 (els y.Base.Level.Rows),.row 1 (els y.Base.Scores),.row 9 (els y.Base.Bodies),.row 1 (els y.Now.Level.Rows),.row 1 (els y.Now.Scores),.row 9 (els y.Now.Bodies),.row 1 (els (y.Used.drop 1)),.row 2 (els (y.Saves.drop 1)),.row 1 (els (y.Sums ++ [wsum w])),.box (pX (conS y w) (Aqk 2) (Aqk 13) (Aqk 14) (Aqk 15) (Aqk 6) (Aqk 7) (Aqk 8) (Aqk 9) (Aqk 10) (Aqk 11)),.row 1 (els w.Level.Rows),.row 1 (els w.Scores),.row 9 (els w.Bodies),.row 1 (els w.Level.Rows),.row 1 (els w.Scores),.row 9 (els w.Bodies),.box (wC w 16)]⟩:St)) (by rw[hds]; exact Yj [0,1,2,3,4,5,6,7,8,9,10,11,12,13,14,15,16,17,18,19] Aqb) ?_
   refine Wz [1,18,33,222,1] ?_
   have hdl2:(els (y.Saves.drop 1)).length=(y.Saves.drop 1).length:=Y7 _
   have hdl3:(y.Saves.drop 1).length=y.Saves.length-1:=Aqd
   obtain⟨sv,hsvd⟩:∃ sv,sv=y.Saves.drop 1:=⟨_,rfl⟩
   rw[←hsvd] at hdl2 hdl3 ⊢
   have hfx:(conS y w).Saves=fixD w sv:=by rw[hsvd]; rfl
   cases sv with
   |nil =>
    have f7:decide ((0:Int)<((els ([]:List TSave)).length:Int))=false:=rfl
    refine Xb J (fun h=>?_) (fun h=>?_)
    ·cases h
    refine Wz [149,133] ?_
    refine⟨_, Aqa,(fun (y:TPeer)=>(⟨86,[(1,Aqf 0),(2,Aqf 1),(3,Aqf 12)],[.box (pD x),.box zP,.row 1 (els y.Tracks),.row 1 (els y.Base.Level.Rows),.row 1 (els y.Base.Scores),.row 9 (els y.Base.Bodies),.row 1 (els y.Now.Level.Rows),.row 1 (els y.Now.Scores),.row 9 (els y.Now.Bodies),.row 1 (els y.Used),.row 2 (els y.Saves),.row 1 (els y.Sums),.box (pS y)]⟩:St)) (conS y w),⟨conS y w,J,⟨oz,hz,hT,hN2⟩,J⟩,Yk [0,1,2,13,14,15,6,7,8,9,10,11,12] Aqc J (Bzf) (.c J (.c J (.c J (.nil))))⟩
   |cons s rest =>
    simp only[Gqw] at hdl2
    refine Xb J (fun h=>?_) (fun h=>?_)
    rotate_left
    ·have:=Gqd h; omega
    refine Wz [7] ?_;refine kc0 c6 ?_;refine Wz [8] ?_;refine AWP.kp [1,1,2,2,3,13,4,20,6,0] [] 20 [(0,.box (pD x)),(1,.box zP),(12,.box (pX (conS y w) (Aqk 2) (Aqk 13) (Aqk 14) (Aqk 15) (Aqk 6) (Aqk 7) (Aqk 8) (Aqk 9) (Aqk 10) (Aqk 11))),(19,.box (wC w 16))] ?_;refine Xi u8_94 u8_100 u8_101 J ?_;refine Wz [37,35] ?_;refine Uq (Qj J J (c7) J) J ?_;refine Wz [129,249,12] ?_;refine AL.kp [1,1,2,2,3,13,4,20,82,0] [(84,.o (.c (.el 10 2 0 1)))] 20 [(0,.box (pD x)),(1,.box zP),(12,.box (pX (conS y w) (Aqk 2) (Aqk 13) (Aqk 14) (Aqk 15) (Aqk 6) (Aqk 7) (Aqk 8) (Aqk 9) (Aqk 10) (Aqk 11))),(19,.box (wC w 16))] ?_
    have hat1:(els (s::rest))[0]? = some (Enc.e s):=rfl
    refine Xh J J J J J J J J J hat1 J J ?_;refine AL.kp [1,1,2,2,3,13,4,20] [] 20 [(0,.box (pD x)),(1,.box zP),(12,.box (pX (conS y w) (Aqk 2) (Aqk 13) (Aqk 14) (Aqk 15) (Aqk 6) (Aqk 7) (Aqk 8) (Aqk 9) (Aqk 10) (Aqk 11))),(19,.box (wC w 16))] ?_;refine Wz [53,133] ?_
    refine⟨_, Aqa,(fun (y:TPeer)=>(⟨86,[(1,Aqf 0),(2,Aqf 1),(3,Aqf 12)],[.box (pD x),.box zP,.row 1 (els y.Tracks),.row 1 (els y.Base.Level.Rows),.row 1 (els y.Base.Scores),.row 9 (els y.Base.Bodies),.row 1 (els y.Now.Level.Rows),.row 1 (els y.Now.Scores),.row 9 (els y.Now.Bodies),.row 1 (els y.Used),.row 2 (els y.Saves),.row 1 (els y.Sums),.box (pS y)]⟩:St)) (conS y w),⟨conS y w,J,⟨oz,hz,hT,hN2⟩,J⟩,Yk [0,1,2,13,14,15,6,7,8,9,10,11,12] Aqc J (Bzg) (.c J (.c J (.c J (.nil))))⟩
end
end Go.Proofs.YtalaljeokcpfnaaGreat
