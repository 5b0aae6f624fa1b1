/-
  Rules, data and contracts of functions: part 41 of the proof.
  Conditions: those that each theorem names.
-/
import Derived.Test.YtalaljeokcpfnaaGreatDDPlayRowk39
set_option linter.unusedSimpArgs false
set_option linter.unusedVariables false
set_option maxRecDepth 8000
set_option maxHeartbeats 8000000
namespace Go.Proofs.YtalaljeokcpfnaaGreat
section
open Tryz
open Go.RowKit

instance {st':St}:NP (Mid st'):=⟨fun c st hq=>by have:=hq.h.1; cases this⟩
theorem I_CanAdv (x:TPeer) (g:Enc.gd x):Co 163 [] [ag x] [] (B (canAdv x)):=by
 have va_:=@I_PeerOk; have vb_:=@func163; have vc_:=@ntmps163; exact Bqs
theorem S_CanAdv (x:TPeer) (g:Enc.gd x):Co 138 [] [ag x] [] (B (canAdv x)):=by
 have va_:=@S_PeerOk; have vb_:=@func138; have vc_:=@ntmps138; exact Bqs
theorem last_none {x:TPeer} (h:lastW x=none):∃ n,x.Saves.length=n+1∧∃ sv,x.Saves[n]? = some sv∧saveAt x sv.Tick=none:=by
 rw[lastW] at h
 split at h
 ·cases h
 ·rename_i s hs
  rw[List.getLast?_eq_getElem?] at hs
  have:=Zj hs
  exact⟨x.Saves.length-1,Aqa,s,hs,h⟩
theorem last_some {x:TPeer} {w:TWorld} (h:lastW x=some w):(x.Saves.length=0∧w=x.Base)∨∃ n,x.Saves.length=n+1∧∃ sv,x.Saves[n]? = some sv∧saveAt x sv.Tick=some w:=by
 rw[lastW] at h
 split at h
 ·rename_i hs
  rw[List.getLast?_eq_none_iff] at hs
  cases h
  exact .inl ⟨by rw[hs]; rfl,J⟩
 ·rename_i s hs
  rw[List.getLast?_eq_getElem?] at hs
  have:=Zj hs
  exact .inr ⟨x.Saves.length-1,Aqa,s,hs,h⟩
theorem els_atQ {α:Type} [Enc α] {xs:List α} {k:Nat} {u:α} (h:xs[k]? = some u):(els xs)[k]? = some (Enc.e u):=by rw[els,Gqk,h]; rfl
theorem I_AdvA (x:TPeer) (hx:PeerD x):Co 102 [] [ag x] (pR (advV x) []) (.tu [.ag (pC (advV x) 0 1 2 3 4 5 6 7 8 9),.c (bv (advB x))]):=by
 have c1:=I_copyPeer x hx.inn
 have c2:=I_CanAdv x hx.inn.gd
 have hls:=Y7 x.Saves
 have hlu:=Y7 x.Used
 cases hc:canAdv x with
 |false =>
  rw[hc] at c2
  have hb:advB x=false:=by rw[advB,hc]; rfl
  rw[show advV x=x by rw[advV,hb]; rfl,hb]
  refine Con.o func102 ntmps102 fun E=>?_;refine Wz [59,8,7] ?_;refine AL.kp [1,1,2,2,3,0] [(11,.o (.ag (pD x)))] 2 [(0,.box (pD x)),(1,.box zP)] ?_;refine kc1 c1 ?_;refine AL.kp [1,1,2,2,3,0] [(12,.o (.ag (pS x)))] 12 [(0,.box (pD x)),(1,.box zP)] ?_;refine Wz [91,4,7] ?_;refine AL.kp [1,1,2,2,3,0,4,13] [(13,.o (.ag (pD x)))] 13 [(0,.box (pD x)),(1,.box zP),(12,.box (pS x))] ?_;refine kc0 c2 ?_;refine Wz [6,1] ?_
  repeat (first | refine Qd ?_ | refine Qh ?_ | refine Qk ?_ | refine Q0 ?_)
  refine Qm J ?_
  repeat (first | refine Qd ?_ | refine Qh ?_ | refine Qk ?_ | refine Q0 ?_)
  refine Qc ?_;refine AL.kp [1,1,2,2,3,0,4,13] [] 13 [(0,.box (pD x)),(1,.box zP),(12,.box (pS x))] ?_;refine z4 J J J ?_;refine AL.kp [2,2,3,0] [(16,.o (.ag (pS x)))] 13 [(0,.box (pD x)),(1,.box zP),(12,.box (pS x))] ?_;refine Qy J J J J J J J J J ?_;refine AL.kp [2,2,3,0] [] 13 [(0,.box (pD x)),(1,.box (pS x)),(12,.box (pS x))] ?_;refine Wz [76] ?_
  exact Bzw
 |true =>
 rw[hc] at c2
 have hcc:=hc
 simp only[canAdv,Gqh,decide_eq_true_eq] at hcc
 obtain⟨ok,ha,hi⟩:=hcc
 have hs:=Ke ok
 have hus:=hs.us
 have hsv:=hs.sv
 obtain⟨n0,n4⟩:=hs.nt
 have o1:=(Kf ok).1.1
 obtain⟨_,_,_,_,gT,gB,gN,gU,gS,gM,gF,_,_⟩:=hx.inn.gd
 cases hw:lastW x with
 |none =>
  have hb:advB x=false:=by rw[advB,hw]; simp
  rw[show advV x=x by rw[advV,hb]; rfl,hb]
  obtain⟨n,hn,sv,hsv2,hst⟩:=last_none hw
  have c3:=I_SaveAt x sv.Tick hx (gS.2 sv (Gqn hsv2)).1
  rw[hst] at c3
  have f1:decide ((0:Int)<((els x.Saves).length:Int))=true:=Gqb Aqa 
  have hat:(els x.Saves)[(((els x.Saves).length:Int)-1).toNat]? = some (Enc.e sv):=Bx8
  refine Con.o func102 ntmps102 fun E=>?_;refine Wz [59,8,7] ?_;refine AL.kp [1,1,2,2,3,0] [(11,.o (.ag (pD x)))] 2 [(0,.box (pD x)),(1,.box zP)] ?_;refine kc1 c1 ?_;refine AL.kp [1,1,2,2,3,0] [(12,.o (.ag (pS x)))] 12 [(0,.box (pD x)),(1,.box zP)] ?_;refine Wz [91,4,7] ?_;refine AL.kp [1,1,2,2,3,0,4,13] [(13,.o (.ag (pD x)))] 13 [(0,.box (pD x)),(1,.box zP),(12,.box (pS x))] ?_;refine kc0 c2 ?_;refine Wz [6,28,56,91,4,109,111,32,4] ?_;refine AWP.kp [1,1,2,2,3,0,4,13,5,14] [] 14 [(0,.box (pD x)),(1,.box zP),(12,.box (pS x)),(13,.box (wD x.Base))] ?_;refine Xi u8_82 u8_83 u8_84 J ?_;refine DR.s (x := .o (.ag (pD x))) (Qu J J J J J Aqb) J J ?_;refine Wz [37,37,296] ?_;refine Uq (Xc J J J J Aqa) J ?_;refine Wz [132,192,201] ?_;refine Uq (Kr J J (c3) J J J) J ?_;refine Wz [229,166,166,221,12] ?_;refine AL.kp [1,1,2,2,3,0,4,13,5,14,6,18,36,0] [(35,.o (.ag [Aqk 14,jn 0,jn 0,Aqk 15,Aqk 16]))] 18 [(0,.box (pD x)),(1,.box zP),(12,.box (pS x)),(13,.box (wD x.Base)),(17,.box wZ)] ?_;refine Wz [47,8] ?_
  repeat (first | refine Qd ?_ | refine Qh ?_ | refine Qk ?_ | refine Q0 ?_)
  refine Wz [27,6,1] ?_
  repeat (first | refine Qd ?_ | refine Qh ?_ | refine Qk ?_ | refine Q0 ?_)
  refine Qm J ?_
  repeat (first | refine Qd ?_ | refine Qh ?_ | refine Qk ?_ | refine Q0 ?_)
  refine Qc ?_;refine AL.kp [1,1,2,2,3,0,4,13] [] 13 [(0,.box (pD x)),(1,.box zP),(12,.box (pS x))] ?_;refine z4 J J J ?_;refine AL.kp [2,2,3,0] [(39,.o (.ag (pS x)))] 13 [(0,.box (pD x)),(1,.box zP),(12,.box (pS x))] ?_;refine Qy J J J J J J J J J ?_;refine AL.kp [2,2,3,0] [] 13 [(0,.box (pD x)),(1,.box (pS x)),(12,.box (pS x))] ?_;refine Wz [155,235,89] ?_
  exact Bzw
 | some w =>
  have hb:advB x=true:=by rw[advB,hc,hw]; rfl
  have gw:=last_goes hx.inn ok hw
  rw[show advV x=advF x w by rw[advV,hb,hw]; rfl,hb]
  have hcase:=last_some hw
  obtain⟨t,ht⟩:∃ t:Nat,x.Now.Tick=t:=⟨x.Now.Tick.toNat,Aqa⟩
  have c4:=I_RowAtA x.Tracks t gT o1
  have c5:=Xw w gw.wi.gd
  have c6:=Xw x.Now gN
  have b1:=Yz w
  have b2:=Yz x.Now
  have c7:=I_DeltaText (worldBytes w) (worldBytes x.Now) Aqa Aqa 
  have hf:=now_fit hx.inn ok
  have gr:=rowP_gd (t:=t) o1
  rw[advF,show x.Now.Tick.toNat=t by omega]
  generalize rowP x.Tracks t=row at c4 gr ⊢
  rw[←ht] at c4
  have c8:=I_FaultyStep x.Now row x.Fault gN gr gF hx.inn.nw.1 hx.inn.nw.2.1 hx.inn.nw.2.2 ((hf.step row).sn.trans hf.sn.symm) (V5 (hf.step row).ok) (hf.step row).lv
  generalize decide ((t:Int)<((knownTicks x.Tracks:Nat):Int))=kb at c4
  generalize stepF x.Now row x.Fault=Nw at c8 ⊢
  generalize deltaT (worldBytes w) (worldBytes x.Now)=D at c7 ⊢
  have hsn:els (x.Used ++ [row])=els x.Used ++ [[sl row]]:=Y3 _ _
  have hsS:els (x.Saves ++ [(⟨x.Now.Tick,D⟩:TSave)])=els x.Saves ++ [[.v (.int .i64 x.Now.Tick),.v (.string D)]]:=Y3 _ _
  have hx1:(els (x.Used ++ [row]))[(els x.Used).length]? = some [sl row]:=by rw[hsn]; simp
  refine Con.o func102 ntmps102 fun E=>?_;refine Wz [59,8,7] ?_;refine AL.kp [1,1,2,2,3,0] [(11,.o (.ag (pD x)))] 2 [(0,.box (pD x)),(1,.box zP)] ?_;refine kc1 c1 ?_;refine AL.kp [1,1,2,2,3,0] [(12,.o (.ag (pS x)))] 12 [(0,.box (pD x)),(1,.box zP)] ?_;refine Wz [91,4,7] ?_;refine AL.kp [1,1,2,2,3,0,4,13] [(13,.o (.ag (pD x)))] 13 [(0,.box (pD x)),(1,.box zP),(12,.box (pS x))] ?_;refine kc0 c2 ?_;refine Wz [6,28,56,91,4,109,222,1] ?_;refine AWP.kp [1,1,2,2,3,0,4,13,5,14,22,0] [] 14 [(0,.box (pD x)),(1,.box zP),(12,.box (pS x)),(13,.box (wD x.Base))] ?_
  rcases hcase with ⟨h0,rfl⟩ | ⟨n,hn,sv,hsv2,hst⟩
  ·refine Xb rfl (fun h=>?_) (fun h=>?_)
   ·have:=Gqc h; omega
   refine Wz [42,18,79,31] ?_;refine kc1 c4 ?_;refine Wz [120,26,16] ?_;refine AWP.kp [1,1,2,2,3,0,4,13,5,14] [(8,Aqg 14)] 15 [(0,.box (pD x)),(1,.box zP),(12,.box (pS x)),(13,.box (wD x.Base))] ?_;refine Xi u8_85 u8_86 u8_87 J (Uq (Qu J J J J J J) J ?_);refine Uq (Qj J J (c5) J) J ?_;refine Wz [145,136] ?_;refine Uq (Qj J J (c6) J) J ?_;refine Uq (Qj J J (c7) J) J ?_;refine Wz [162,12] ?_;refine AL.kp [1,1,2,2,3,0,4,13,5,14,10,0] [(8,Aqg 14)] 15 [(0,.box (pD x)),(1,.box zP),(12,.box (pS x)),(13,.box (wD x.Base))] ?_;refine Wz [1,18,79,68,137,116,122] ?_
   refine AL.weak (st':=(⟨80,[(1,Aqf 0),(2,Aqf 1),(3,B false),(4,Aqf 12),(5,Aqf 13),(8,Aqg 14),(64,Aqg 10)],[.box (pD x),.box zP,.row 1 (els x.Tracks),.row 1 (els x.Base.Level.Rows),.row 1 (els x.Base.Scores),.row 9 (els x.Base.Bodies),.row 1 (els x.Now.Level.Rows),.row 1 (els x.Now.Scores),.row 9 (els x.Now.Bodies),.row 1 (els x.Used),.row 2 (els (x.Saves ++ [⟨x.Now.Tick,D⟩])),.row 1 (els x.Sums),.box (pX x (Aqk 2) (Aqk 3) (Aqk 4) (Aqk 5) (Aqk 6) (Aqk 7) (Aqk 8) (Aqk 9) .un (Aqk 11)),.box (wD x.Base),.row 1 (els row)]⟩:St)) (by rw[hsS]; exact Yj [0,1,2,3,4,5,6,7,8,9,10,11,12,13,14] Aqb) ?_
   refine Wz [52,65,116] ?_;refine M_appol 8 J J J J J J J J J J J J J J Aqa Aqa  ?_
   refine AL.weak (st':=(⟨80,[(1,Aqf 0),(2,Aqf 1),(3,B false),(4,Aqf 12),(5,Aqf 13),(8,.o (.c (.le 9 1 (els x.Used).length 0))),(70,Aqg 9)],[.box (pD x),.box zP,.row 1 (els x.Tracks),.row 1 (els x.Base.Level.Rows),.row 1 (els x.Base.Scores),.row 9 (els x.Base.Bodies),.row 1 (els x.Now.Level.Rows),.row 1 (els x.Now.Scores),.row 9 (els x.Now.Bodies),.row 1 (els (x.Used ++ [row])),.row 2 (els (x.Saves ++ [⟨x.Now.Tick,D⟩])),.row 1 (els x.Sums),.box (pX x (Aqk 2) (Aqk 3) (Aqk 4) (Aqk 5) (Aqk 6) (Aqk 7) (Aqk 8) .un (Aqk 10) (Aqk 11)),.box (wD x.Base)]⟩:St)) (by rw[hsn]; exact Yj [0,1,2,3,4,5,6,7,8,9,10,11,12,13] Aqb) ?_
   refine Wz [52,56,0,154] ?_;refine AL.weak (Wk.lerd 74 J J hx1 J) ?_;refine AL.kp [1,1,2,2,3,0,4,13,5,14] [(73,.o (.ag (wD x.Now))),(74,.o (.c (.rd [9] (sl row)))),(76,.o (.ag [jn x.Fault.Tick,jn x.Fault.Player,jn x.Fault.Add]))] 14 [(0,.box (pD x)),(1,.box zP),(12,.box (pS x)),(13,.box (wD x.Base))] ?_;refine kc1 c8 ?_;refine AL.kr [2,2,3,0,4,13] [(77,.o (.ag (wC Nw 13)))] [0,1,2,3,4,5,6,7,8,9,10,11,12,14,15,16] [(0,.box (pD x)),(1,.box zP),(12,.box (pS x))] ?_;refine Wz [79,39] ?_
   repeat (first | refine Qd ?_ | refine Qh ?_ | refine Qk ?_ | refine Q0 ?_)
   refine Qc ?_;refine AL.kp [2,2,3,0,4,13] [] 16 [(0,.box (pD x)),(1,.box zP),(12,.box (pX ({ x with Saves:=x.Saves ++ [⟨x.Now.Tick,D⟩],Used:=x.Used ++ [row],Now:=Nw }:TPeer) (Aqk 2) (Aqk 3) (Aqk 4) (Aqk 5) (Aqk 13) (Aqk 14) (Aqk 15) (Aqk 9) (Aqk 10) (Aqk 11)))] ?_;refine z4 J J J ?_;refine AL.kp [2,2,3,0] [(79,.o (.ag (pX ({ x with Saves:=x.Saves ++ [⟨x.Now.Tick,D⟩],Used:=x.Used ++ [row],Now:=Nw }:TPeer) (Aqk 2) (Aqk 3) (Aqk 4) (Aqk 5) (Aqk 13) (Aqk 14) (Aqk 15) (Aqk 9) (Aqk 10) (Aqk 11))))] 16 [(0,.box (pD x)),(1,.box zP),(12,.box (pX ({ x with Saves:=x.Saves ++ [⟨x.Now.Tick,D⟩],Used:=x.Used ++ [row],Now:=Nw }:TPeer) (Aqk 2) (Aqk 3) (Aqk 4) (Aqk 5) (Aqk 13) (Aqk 14) (Aqk 15) (Aqk 9) (Aqk 10) (Aqk 11)))] ?_;refine Qy J J J J J J J J J ?_;refine AL.kp [2,2,3,0] [] 16 [(0,.box (pD x)),(1,.box (pX ({ x with Saves:=x.Saves ++ [⟨x.Now.Tick,D⟩],Used:=x.Used ++ [row],Now:=Nw }:TPeer) (Aqk 2) (Aqk 3) (Aqk 4) (Aqk 5) (Aqk 13) (Aqk 14) (Aqk 15) (Aqk 9) (Aqk 10) (Aqk 11))),(12,.box (pX ({ x with Saves:=x.Saves ++ [⟨x.Now.Tick,D⟩],Used:=x.Used ++ [row],Now:=Nw }:TPeer) (Aqk 2) (Aqk 3) (Aqk 4) (Aqk 5) (Aqk 13) (Aqk 14) (Aqk 15) (Aqk 9) (Aqk 10) (Aqk 11)))] ?_;refine Wz [36] ?_
   exact Bjg
  ·have c3:=I_SaveAt x sv.Tick hx (gS.2 sv (Gqn hsv2)).1
   rw[hst] at c3
   have hat:(els x.Saves)[(((els x.Saves).length:Int)-1).toNat]? = some (Enc.e sv):=Bx8
   refine Xb J (fun h=>?_) (fun h=>?_)
   rotate_left
   ·have:=Gqd h; omega
   refine Qd (Xi u8_82 u8_83 u8_84 J ?_);refine DR.s (x := .o (.ag (pD x))) (Qu J J J J J Aqb) J J ?_;refine Wz [37,37,296] ?_;refine Uq (Xc J J J J Aqa) J ?_;refine Wz [132,192,201] ?_;refine Uq (Kr J J (c3) J J J) J ?_;refine Wz [229,166,166,221,12] ?_;refine AL.kp [1,1,2,2,3,0,4,13,5,14,6,18,36,0] [(35,.o (.ag (wC w 14)))] 18 [(0,.box (pD x)),(1,.box zP),(12,.box (pS x)),(13,.box (wD x.Base)),(17,.box wZ)] ?_;refine Qy J J J J J J J J J ?_;refine AL.kp [1,1,2,2,3,0,4,13,5,14,6,18,36,0] [] 18 [(0,.box (pD x)),(1,.box zP),(12,.box (pS x)),(13,.box (wD x.Base)),(17,.box (wC w 14))] ?_;refine Wz [72,28,94,85,39,18,79,31] ?_;refine kc1 c4 ?_;refine Wz [120,26,16] ?_;refine AWP.kr [1,1,2,2,3,0,4,13,5,14] [(8,Aqg 17)] [0,1,2,3,4,5,6,7,8,9,10,11,12,13,14,15,16,18] [(0,.box (pD x)),(1,.box zP),(12,.box (pS x)),(13,.box (wC w 14))] ?_;refine Xi u8_85 u8_86 u8_87 J (Uq (Qu J J J J J J) J ?_);refine Uq (Qj J J (c5) J) J ?_;refine Wz [145,136] ?_;refine Uq (Qj J J (c6) J) J ?_;refine Uq (Qj J J (c7) J) J ?_;refine Wz [162,12] ?_;refine AL.kp [1,1,2,2,3,0,4,13,5,14,10,0] [(8,Aqg 17)] 18 [(0,.box (pD x)),(1,.box zP),(12,.box (pS x)),(13,.box (wC w 14))] ?_;refine Wz [1,18,79,68,137,116,122] ?_
   refine AL.weak (st':=(⟨80,[(1,Aqf 0),(2,Aqf 1),(3,B false),(4,Aqf 12),(5,Aqf 13),(8,Aqg 17),(64,Aqg 10)],[.box (pD x),.box zP,.row 1 (els x.Tracks),.row 1 (els x.Base.Level.Rows),.row 1 (els x.Base.Scores),.row 9 (els x.Base.Bodies),.row 1 (els x.Now.Level.Rows),.row 1 (els x.Now.Scores),.row 9 (els x.Now.Bodies),.row 1 (els x.Used),.row 2 (els (x.Saves ++ [⟨x.Now.Tick,D⟩])),.row 1 (els x.Sums),.box (pX x (Aqk 2) (Aqk 3) (Aqk 4) (Aqk 5) (Aqk 6) (Aqk 7) (Aqk 8) (Aqk 9) .un (Aqk 11)),.box (wC w 14),.row 1 (els w.Level.Rows),.row 1 (els w.Scores),.row 9 (els w.Bodies),.row 1 (els row)]⟩:St)) (by rw[hsS]; exact Yj [0,1,2,3,4,5,6,7,8,9,10,11,12,13,14,15,16,17] Aqb) ?_
   refine Wz [52,65,116] ?_;refine M_appol 8 J J J J J J J J J J J J J J Aqa Aqa  ?_
   refine AL.weak (st':=(⟨80,[(1,Aqf 0),(2,Aqf 1),(3,B false),(4,Aqf 12),(5,Aqf 13),(8,.o (.c (.le 9 1 (els x.Used).length 0))),(70,Aqg 9)],[.box (pD x),.box zP,.row 1 (els x.Tracks),.row 1 (els x.Base.Level.Rows),.row 1 (els x.Base.Scores),.row 9 (els x.Base.Bodies),.row 1 (els x.Now.Level.Rows),.row 1 (els x.Now.Scores),.row 9 (els x.Now.Bodies),.row 1 (els (x.Used ++ [row])),.row 2 (els (x.Saves ++ [⟨x.Now.Tick,D⟩])),.row 1 (els x.Sums),.box (pX x (Aqk 2) (Aqk 3) (Aqk 4) (Aqk 5) (Aqk 6) (Aqk 7) (Aqk 8) .un (Aqk 10) (Aqk 11)),.box (wC w 14),.row 1 (els w.Level.Rows),.row 1 (els w.Scores),.row 9 (els w.Bodies)]⟩:St)) Bzd ?_
   refine Wz [52,56,0,154] ?_;refine AL.weak (Wk.lerd 74 J J hx1 J) ?_;refine AL.kp [1,1,2,2,3,0,4,13,5,14] [(73,.o (.ag (wD x.Now))),(74,.o (.c (.rd [9] (sl row)))),(76,.o (.ag [jn x.Fault.Tick,jn x.Fault.Player,jn x.Fault.Add]))] 17 [(0,.box (pD x)),(1,.box zP),(12,.box (pS x)),(13,.box (wC w 14))] ?_;refine kc1 c8 ?_;refine AL.kr [2,2,3,0,4,13] [(77,.o (.ag (wC Nw 13)))] [0,1,2,3,4,5,6,7,8,9,10,11,12,17,18,19] [(0,.box (pD x)),(1,.box zP),(12,.box (pS x))] ?_;refine Wz [79,39] ?_
   repeat (first | refine Qd ?_ | refine Qh ?_ | refine Qk ?_ | refine Q0 ?_)
   refine Qc ?_;refine AL.kp [2,2,3,0,4,13] [] 16 [(0,.box (pD x)),(1,.box zP),(12,.box (pX ({ x with Saves:=x.Saves ++ [⟨x.Now.Tick,D⟩],Used:=x.Used ++ [row],Now:=Nw }:TPeer) (Aqk 2) (Aqk 3) (Aqk 4) (Aqk 5) (Aqk 13) (Aqk 14) (Aqk 15) (Aqk 9) (Aqk 10) (Aqk 11)))] ?_;refine z4 J J J ?_;refine AL.kp [2,2,3,0] [(79,.o (.ag (pX ({ x with Saves:=x.Saves ++ [⟨x.Now.Tick,D⟩],Used:=x.Used ++ [row],Now:=Nw }:TPeer) (Aqk 2) (Aqk 3) (Aqk 4) (Aqk 5) (Aqk 13) (Aqk 14) (Aqk 15) (Aqk 9) (Aqk 10) (Aqk 11))))] 16 [(0,.box (pD x)),(1,.box zP),(12,.box (pX ({ x with Saves:=x.Saves ++ [⟨x.Now.Tick,D⟩],Used:=x.Used ++ [row],Now:=Nw }:TPeer) (Aqk 2) (Aqk 3) (Aqk 4) (Aqk 5) (Aqk 13) (Aqk 14) (Aqk 15) (Aqk 9) (Aqk 10) (Aqk 11)))] ?_;refine Qy J J J J J J J J J ?_;refine AL.kp [2,2,3,0] [] 16 [(0,.box (pD x)),(1,.box (pX ({ x with Saves:=x.Saves ++ [⟨x.Now.Tick,D⟩],Used:=x.Used ++ [row],Now:=Nw }:TPeer) (Aqk 2) (Aqk 3) (Aqk 4) (Aqk 5) (Aqk 13) (Aqk 14) (Aqk 15) (Aqk 9) (Aqk 10) (Aqk 11))),(12,.box (pX ({ x with Saves:=x.Saves ++ [⟨x.Now.Tick,D⟩],Used:=x.Used ++ [row],Now:=Nw }:TPeer) (Aqk 2) (Aqk 3) (Aqk 4) (Aqk 5) (Aqk 13) (Aqk 14) (Aqk 15) (Aqk 9) (Aqk 10) (Aqk 11)))] ?_;refine Wz [36] ?_
   exact Bjg
theorem S_AdvA (x:TPeer) (hx:PeerD x):Co 79 [] [ag x] (pR (advV x) []) (.tu [.ag (pC (advV x) 0 1 2 3 4 5 6 7 8 9),.c (bv (advB x))]):=by
 have c1:=S_l04Copy x hx.inn
 have c2:=S_CanAdv x hx.inn.gd
 have hls:=Y7 x.Saves
 have hlu:=Y7 x.Used
 cases hc:canAdv x with
 |false =>
  rw[hc] at c2
  have hb:advB x=false:=by rw[advB,hc]; rfl
  rw[show advV x=x by rw[advV,hb]; rfl,hb]
  refine Con.o func79 ntmps79 fun E=>?_;refine Wz [59,8,7] ?_;refine AL.kp [1,1,2,2,3,0] [(11,.o (.ag (pD x)))] 2 [(0,.box (pD x)),(1,.box zP)] ?_;refine kc1 c1 ?_;refine AL.kp [1,1,2,2,3,0] [(12,.o (.ag (pS x)))] 12 [(0,.box (pD x)),(1,.box zP)] ?_;refine Wz [91,4,7] ?_;refine AL.kp [1,1,2,2,3,0,4,13] [(13,.o (.ag (pD x)))] 13 [(0,.box (pD x)),(1,.box zP),(12,.box (pS x))] ?_;refine kc0 c2 ?_;refine Wz [6,1] ?_
  repeat (first | refine Qd ?_ | refine Qh ?_ | refine Qk ?_ | refine Q0 ?_)
  refine Qm J ?_
  repeat (first | refine Qd ?_ | refine Qh ?_ | refine Qk ?_ | refine Q0 ?_)
  refine Qc ?_;refine AL.kp [1,1,2,2,3,0,4,13] [] 13 [(0,.box (pD x)),(1,.box zP),(12,.box (pS x))] ?_;refine z4 J J J ?_;refine AL.kp [2,2,3,0] [(16,.o (.ag (pS x)))] 13 [(0,.box (pD x)),(1,.box zP),(12,.box (pS x))] ?_;refine Qy J J J J J J J J J ?_;refine AL.kp [2,2,3,0] [] 13 [(0,.box (pD x)),(1,.box (pS x)),(12,.box (pS x))] ?_;refine Wz [76] ?_
  exact Bzw
 |true =>
 rw[hc] at c2
 have hcc:=hc
 simp only[canAdv,Gqh,decide_eq_true_eq] at hcc
 obtain⟨ok,ha,hi⟩:=hcc
 have hs:=Ke ok
 have hus:=hs.us
 have hsv:=hs.sv
 obtain⟨n0,n4⟩:=hs.nt
 have o1:=(Kf ok).1.1
 obtain⟨_,_,_,_,gT,gB,gN,gU,gS,gM,gF,_,_⟩:=hx.inn.gd
 cases hw:lastW x with
 |none =>
  have c5:=Ye x.Base gB
  have hb:advB x=false:=by rw[advB,hw]; simp
  rw[show advV x=x by rw[advV,hb]; rfl,hb]
  obtain⟨n,hn,sv,hsv2,hst⟩:=last_none hw
  have c3:=S_SaveAt x sv.Tick hx (gS.2 sv (Gqn hsv2)).1
  rw[hst] at c3
  have f1:decide ((0:Int)<((els x.Saves).length:Int))=true:=Gqb Aqa 
  have hat:(els x.Saves)[(((els x.Saves).length:Int)-1).toNat]? = some (Enc.e sv):=Bx8
  refine Con.o func79 ntmps79 fun E=>?_;refine Wz [59,8,7] ?_;refine AL.kp [1,1,2,2,3,0] [(11,.o (.ag (pD x)))] 2 [(0,.box (pD x)),(1,.box zP)] ?_;refine kc1 c1 ?_;refine AL.kp [1,1,2,2,3,0] [(12,.o (.ag (pS x)))] 12 [(0,.box (pD x)),(1,.box zP)] ?_;refine Wz [91,4,7] ?_;refine AL.kp [1,1,2,2,3,0,4,13] [(13,.o (.ag (pD x)))] 13 [(0,.box (pD x)),(1,.box zP),(12,.box (pS x))] ?_;refine kc0 c2 ?_;refine Wz [6,28,56] ?_;refine kc0 c5 ?_;refine Wz [8,109,40,111,32,4] ?_;refine AWP.kp [1,1,2,2,3,0,4,13,5,0,6,0] [] 13 [(0,.box (pD x)),(1,.box zP),(12,.box (pS x))] ?_;refine Xi u8_88 u8_89 u8_90 J ?_;refine DR.s (x := .o (.ag (pD x))) (Qu J J J J J Aqb) J J ?_;refine Wz [67] ?_;refine Uq (Xc J J J J Aqa) J ?_;refine Wz [132,192,201] ?_;refine Uq (Kr J J (c3) J J J) J ?_;refine Wz [229,166,166,221,12] ?_;refine AL.kp [1,1,2,2,3,0,4,13,7,17,36,0] [(35,.o (.ag [Aqk 13,jn 0,jn 0,Aqk 14,Aqk 15]))] 17 [(0,.box (pD x)),(1,.box zP),(12,.box (pS x)),(16,.box wZ)] ?_;refine Wz [47,8] ?_
  repeat (first | refine Qd ?_ | refine Qh ?_ | refine Qk ?_ | refine Q0 ?_)
  refine Wz [27,6,1] ?_
  repeat (first | refine Qd ?_ | refine Qh ?_ | refine Qk ?_ | refine Q0 ?_)
  refine Qm J ?_
  repeat (first | refine Qd ?_ | refine Qh ?_ | refine Qk ?_ | refine Q0 ?_)
  refine Qc ?_;refine AL.kp [1,1,2,2,3,0,4,13] [] 13 [(0,.box (pD x)),(1,.box zP),(12,.box (pS x))] ?_;refine z4 J J J ?_;refine AL.kp [2,2,3,0] [(39,.o (.ag (pS x)))] 13 [(0,.box (pD x)),(1,.box zP),(12,.box (pS x))] ?_;refine Qy J J J J J J J J J ?_;refine AL.kp [2,2,3,0] [] 13 [(0,.box (pD x)),(1,.box (pS x)),(12,.box (pS x))] ?_;refine Wz [155,235,89] ?_
  exact Bzw
 | some w =>
  have hb:advB x=true:=by rw[advB,hc,hw]; rfl
  have gw:=last_goes hx.inn ok hw
  rw[show advV x=advF x w by rw[advV,hb,hw]; rfl,hb]
  have hcase:=last_some hw
  obtain⟨t,ht⟩:∃ t:Nat,x.Now.Tick=t:=⟨x.Now.Tick.toNat,Aqa⟩
  have c4:=S_RowAtA x.Tracks t gT o1
  have c5:=Ye w gw.wi.gd
  have c6:=Ye x.Now gN
  have b1:=Yz w
  have b2:=Yz x.Now
  have c7:=S_DeltaText (worldBytes w) (worldBytes x.Now) Aqa Aqa 
  have hf:=now_fit hx.inn ok
  have gr:=rowP_gd (t:=t) o1
  rw[advF,show x.Now.Tick.toNat=t by omega]
  generalize rowP x.Tracks t=row at c4 gr ⊢
  rw[←ht] at c4
  have c8:=S_FaultyStep x.Now row x.Fault gN gr gF hx.inn.nw.1 hx.inn.nw.2.1 hx.inn.nw.2.2 ((hf.step row).sn.trans hf.sn.symm) (V5 (hf.step row).ok) (hf.step row).lv
  generalize decide ((t:Int)<((knownTicks x.Tracks:Nat):Int))=kb at c4
  generalize stepF x.Now row x.Fault=Nw at c8 ⊢
  generalize deltaT (worldBytes w) (worldBytes x.Now)=D at c7 ⊢
  have hsn:els (x.Used ++ [row])=els x.Used ++ [[sl row]]:=Y3 _ _
  have hsS:els (x.Saves ++ [(⟨x.Now.Tick,D⟩:TSave)])=els x.Saves ++ [[.v (.int .i64 x.Now.Tick),.v (.string D)]]:=Y3 _ _
  have hx1:(els (x.Used ++ [row]))[(els x.Used).length]? = some [sl row]:=by rw[hsn]; simp
  have cB:=Ye x.Base gB
  refine Con.o func79 ntmps79 fun E=>?_;refine Wz [59,8,7] ?_;refine AL.kp [1,1,2,2,3,0] [(11,.o (.ag (pD x)))] 2 [(0,.box (pD x)),(1,.box zP)] ?_;refine kc1 c1 ?_;refine AL.kp [1,1,2,2,3,0] [(12,.o (.ag (pS x)))] 12 [(0,.box (pD x)),(1,.box zP)] ?_;refine Wz [91,4,7] ?_;refine AL.kp [1,1,2,2,3,0,4,13] [(13,.o (.ag (pD x)))] 13 [(0,.box (pD x)),(1,.box zP),(12,.box (pS x))] ?_;refine kc0 c2 ?_;refine Wz [6,28,56] ?_;refine kc0 cB ?_;refine Wz [8,109,40,222,1] ?_;refine AWP.kp [1,1,2,2,3,0,4,13,5,0,6,0,24,0] [] 13 [(0,.box (pD x)),(1,.box zP),(12,.box (pS x))] ?_
  refine A_join (⟨79,[(1,Aqf 0),(2,Aqf 1),(3,B false),(4,Aqf 12),(5,S (worldBytes w))],[.box (pD x),.box zP,.row 1 (els x.Tracks),.row 1 (els x.Base.Level.Rows),.row 1 (els x.Base.Scores),.row 9 (els x.Base.Bodies),.row 1 (els x.Now.Level.Rows),.row 1 (els x.Now.Scores),.row 9 (els x.Now.Bodies),.row 1 (els x.Used),.row 2 (els x.Saves),.row 1 (els x.Sums),.box (pS x)]⟩:St) ?_ ?_
  ·rcases hcase with ⟨h0,h1⟩ | ⟨n,hn,sv,hsv2,hst⟩
   ·have hbw:worldBytes x.Base=worldBytes w:=by rw[h1]
    refine Xb J (fun h=>?_) (fun h=>?_)
    ·have:=Gqc h; omega
    refine Qh ?_
    exact Bjs
   ·have hbw:worldBytes w=worldBytes w:=rfl
    have c3:=S_SaveAt x sv.Tick hx (gS.2 sv (Gqn hsv2)).1
    rw[hst] at c3
    have hat:(els x.Saves)[(((els x.Saves).length:Int)-1).toNat]? = some (Enc.e sv):=Bx8
    refine Xb J (fun h=>?_) (fun h=>?_)
    rotate_left
    ·have:=Gqd h; omega
    refine Qd ?_;refine AWP.kp [1,1,2,2,3,0,4,13,5,0,6,0] [] 13 [(0,.box (pD x)),(1,.box zP),(12,.box (pS x))] ?_;refine Xi u8_88 u8_89 u8_90 J ?_;refine DR.s (x := .o (.ag (pD x))) (Qu J J J J J Aqb) J J ?_;refine Wz [67] ?_;refine Uq (Xc J J J J Aqa) J ?_;refine Wz [132,192,201] ?_;refine Uq (Kr J J (c3) J J J) J ?_;refine Wz [229,166,166,221,12] ?_;refine AL.kp [1,1,2,2,3,0,4,13,7,17,36,0] [(35,.o (.ag (wC w 13)))] 17 [(0,.box (pD x)),(1,.box zP),(12,.box (pS x)),(16,.box wZ)] ?_;refine Qy J J J J J J J J J ?_;refine AL.kp [1,1,2,2,3,0,4,13,7,17,36,0] [] 17 [(0,.box (pD x)),(1,.box zP),(12,.box (pS x)),(16,.box (wC w 13))] ?_;refine Wz [72,28,94,85] ?_;refine kc0 c5 ?_;refine Wz [26,53] ?_
    exact Bjs
  refine Wz [18,79,31] ?_;refine kc1 c4 ?_;refine Wz [120,26,16] ?_;refine AWP.kp [1,1,2,2,3,0,4,13,5,0] [(9,Aqg 13)] 14 [(0,.box (pD x)),(1,.box zP),(12,.box (pS x))] ?_;refine Xi (tt [[],[0,1],[],[2,1],[2,2],[],[],[6,1],[6,2],[5,4],[2,8],[2,9],[0,12],[0,13],[0,14]]) (tt [[],[51,1],[],[53,1],[53,2],[],[],[57,1],[57,2],[56,4],[53,8],[53,9],[51,12],[51,13],[51,14]]) (tt [[53,10],[53,10],[51,2,56,5],[51,2,56,5],[51,2,56,5],[51,5,57,3],[51,6],[51,6],[51,6],[51,5],[51,2],[51,2],[],[],[]]) J ?_;refine Wz [37,145,67,145,136] ?_;refine Uq (Qj J J (c6) J) J ?_;refine Uq (Qj J J (c7) J) J ?_;refine Wz [257,153,12] ?_;refine AL.kp [1,1,2,2,3,0,4,13] [(9,Aqg 13),(52,Aqg 10),(62,.o (.c (.sb 14 1 2)))] 15 [(0,.box (pD x)),(1,.box zP),(12,.box (pS x)),(14,.box [jn x.Now.Tick,.rd [] (.v (.string D))])] ?_;refine X6 J J J J J J J J J J J J J J Aqa Aqa  ?_
  refine AL.weak (st':=(⟨79,[(1,Aqf 0),(2,Aqf 1),(3,B false),(4,Aqf 12),(9,Aqg 13),(63,Aqg 10)],[.box (pD x),.box zP,.row 1 (els x.Tracks),.row 1 (els x.Base.Level.Rows),.row 1 (els x.Base.Scores),.row 9 (els x.Base.Bodies),.row 1 (els x.Now.Level.Rows),.row 1 (els x.Now.Scores),.row 9 (els x.Now.Bodies),.row 1 (els x.Used),.row 2 (els (x.Saves ++ [⟨x.Now.Tick,D⟩])),.row 1 (els x.Sums),.box (pX x (Aqk 2) (Aqk 3) (Aqk 4) (Aqk 5) (Aqk 6) (Aqk 7) (Aqk 8) (Aqk 9) .un (Aqk 11)),.row 1 (els row)]⟩:St)) (by rw[hsS]; exact Yj [0,1,2,3,4,5,6,7,8,9,10,11,12,13] Aqb) ?_
  refine Wz [52,65,116] ?_;refine M_appol 9 J J J J J J J J J J J J J J Aqa Aqa  ?_
  refine AL.weak (st':=(⟨79,[(1,Aqf 0),(2,Aqf 1),(3,B false),(4,Aqf 12),(9,.o (.c (.le 9 1 (els x.Used).length 0))),(69,Aqg 9)],[.box (pD x),.box zP,.row 1 (els x.Tracks),.row 1 (els x.Base.Level.Rows),.row 1 (els x.Base.Scores),.row 9 (els x.Base.Bodies),.row 1 (els x.Now.Level.Rows),.row 1 (els x.Now.Scores),.row 9 (els x.Now.Bodies),.row 1 (els (x.Used ++ [row])),.row 2 (els (x.Saves ++ [⟨x.Now.Tick,D⟩])),.row 1 (els x.Sums),.box (pX x (Aqk 2) (Aqk 3) (Aqk 4) (Aqk 5) (Aqk 6) (Aqk 7) (Aqk 8) .un (Aqk 10) (Aqk 11))]⟩:St)) (by rw[hsn]; exact Yj [0,1,2,3,4,5,6,7,8,9,10,11,12] Aqb) ?_
  refine Wz [52,56,0,154] ?_;refine AL.weak (Wk.lerd 73 J J hx1 J) ?_;refine AL.kp [1,1,2,2,3,0,4,13] [(72,.o (.ag (wD x.Now))),(73,.o (.c (.rd [9] (sl row)))),(75,.o (.ag [jn x.Fault.Tick,jn x.Fault.Player,jn x.Fault.Add]))] 13 [(0,.box (pD x)),(1,.box zP),(12,.box (pS x))] ?_;refine kc1 c8 ?_;refine AL.kp [2,2,3,0,4,13] [(76,.o (.ag (wC Nw 13)))] 16 [(0,.box (pD x)),(1,.box zP),(12,.box (pS x))] ?_;refine Wz [79,39] ?_
  repeat (first | refine Qd ?_ | refine Qh ?_ | refine Qk ?_ | refine Q0 ?_)
  refine Qc ?_;refine AL.kp [2,2,3,0,4,13] [] 16 [(0,.box (pD x)),(1,.box zP),(12,.box (pX ({ x with Saves:=x.Saves ++ [⟨x.Now.Tick,D⟩],Used:=x.Used ++ [row],Now:=Nw }:TPeer) (Aqk 2) (Aqk 3) (Aqk 4) (Aqk 5) (Aqk 13) (Aqk 14) (Aqk 15) (Aqk 9) (Aqk 10) (Aqk 11)))] ?_;refine z4 J J J ?_;refine AL.kp [2,2,3,0] [(78,.o (.ag (pX ({ x with Saves:=x.Saves ++ [⟨x.Now.Tick,D⟩],Used:=x.Used ++ [row],Now:=Nw }:TPeer) (Aqk 2) (Aqk 3) (Aqk 4) (Aqk 5) (Aqk 13) (Aqk 14) (Aqk 15) (Aqk 9) (Aqk 10) (Aqk 11))))] 16 [(0,.box (pD x)),(1,.box zP),(12,.box (pX ({ x with Saves:=x.Saves ++ [⟨x.Now.Tick,D⟩],Used:=x.Used ++ [row],Now:=Nw }:TPeer) (Aqk 2) (Aqk 3) (Aqk 4) (Aqk 5) (Aqk 13) (Aqk 14) (Aqk 15) (Aqk 9) (Aqk 10) (Aqk 11)))] ?_;refine Qy J J J J J J J J J ?_;refine AL.kp [2,2,3,0] [] 16 [(0,.box (pD x)),(1,.box (pX ({ x with Saves:=x.Saves ++ [⟨x.Now.Tick,D⟩],Used:=x.Used ++ [row],Now:=Nw }:TPeer) (Aqk 2) (Aqk 3) (Aqk 4) (Aqk 5) (Aqk 13) (Aqk 14) (Aqk 15) (Aqk 9) (Aqk 10) (Aqk 11))),(12,.box (pX ({ x with Saves:=x.Saves ++ [⟨x.Now.Tick,D⟩],Used:=x.Used ++ [row],Now:=Nw }:TPeer) (Aqk 2) (Aqk 3) (Aqk 4) (Aqk 5) (Aqk 13) (Aqk 14) (Aqk 15) (Aqk 9) (Aqk 10) (Aqk 11)))] ?_;refine Wz [36] ?_
  exact Bjg
end
section
open Go.RowKit

section
variable {P:Program} {E:Env} {l:List Oper} {Q:Exit→St→Prop} {st:St} {a:Act} {w:World}
theorem DAL.nil {listed:Array Bool} (hr:Region.ready .any l.toArray listed = []) (h:Q .normal st):DAL P E l Q 0 listed st:=⟨fun a w hR=>⟨hr,st,h,hR⟩⟩
theorem DAL.weak {f:Nat} {listed:Array Bool} {st':St} (hw:Wk st st') (h:DAL P E l Q f listed st'):DAL P E l Q f listed st:=⟨fun a w hr=>h.h a w (hr.weak hw)⟩
theorem DAL.one {f:Nat} {listed:Array Bool} (i:Nat) {o:Oper} (hr:Region.ready .any l.toArray listed = [i]) (ho:l[i]? = some o) (h:AL P E l.toArray (thn (DAL P E l Q f (listed.setIfInBounds i true)) Q) [o] st):DAL P E l Q (f+1) listed st :=
 ⟨fun a w hR=>⟨fun e=>(List.cons_ne_nil _ _ (hr.symm.trans e)).elim,fun j hj=>by
  rw[hr,Gxd] at hj
  subst hj
  exact wpop_of (h.h a w hR) ho fun st' a' w' h1 h2=>h1.h a' w' h2⟩⟩
theorem DAL.two {f:Nat} {listed:Array Bool} (i k:Nat) {o p:Oper} (hr:Region.ready .any l.toArray listed = [i,k]) (ho:l[i]? = some o) (hp:l[k]? = some p) (h:AL P E l.toArray (thn (DAL P E l Q f (listed.setIfInBounds i true)) Q) [o] st) (h2:AL P E l.toArray (thn (DAL P E l Q f (listed.setIfInBounds k true)) Q) [p] st):DAL P E l Q (f+1) listed st :=
 ⟨fun a w hR=>⟨fun e=>(List.cons_ne_nil _ _ (hr.symm.trans e)).elim,fun j hj=>by
  rw[hr] at hj
  simp only[List.mem_cons,Gx3,or_false] at hj
  rcases hj with rfl | rfl
  ·exact wpop_of (h.h a w hR) ho fun st' a' w' h1 h2=>h1.h a' w' h2
  ·exact wpop_of (h2.h a w hR) hp fun st' a' w' h1 h2=>h1.h a' w' h2⟩⟩
def cloB (l:List Oper) (listed:Array Bool):Bool:=allB l.length fun i => !listed.getD i false || (preAt l i).all fun k=>listed.getD k false
def hoB (l:List Oper) (A S M:List (List Nat)) (m:Nat) (listed:Array Bool):Bool :=
 drawB l A S M l.length&&lateB l A m&&cloB l listed && !listed.getD m false&&((preAt l m).all fun k=>listed.getD k false)&&Nat.beq listed.size l.length
theorem DAL.to {f f':Nat} {listed listed':Array Bool} {st':St} (hf:f=f') (he:listed=listed') (hw:Wk st st') (h:DAL P E l Q f' listed' st'):DAL P E l Q f listed st:=by subst hf he; exact DAL.weak hw h
theorem late_have {k t n:Nat} {o:Oper} {g:List Nat→St} {Xs:List (List Nat)} (f:Nat) (listed:Array Bool) (st:St) (h:DAL P E l Q f listed st) (kk:DAL P E l Q f listed st→AllX (fun X=>AL P E l.toArray (thn (DAL P E l Q (fuelL k X t) (lmiss n k X)) Q) [o] (g X)) Xs):AllX (fun X=>AL P E l.toArray (thn (DAL P E l Q (fuelL k X t) (lmiss n k X)) Q) [o] (g X)) Xs:=kk h
def ms (n m:Nat):Array Bool:=((List.range n).map fun i=>Nat.testBit m i).toArray
theorem A_seqW {x y:Code} {st:St} (st0:St) (hx:AWP P E x (thn (fun st=>Wk st st0) Q) st) (hy:AWP P E y Q st0):AWP P E x (thn (AWP P E y Q) Q) st:=AWP.mono (fun e st h=>by
 have h1:=h.h
 refine⟨?_⟩
 cases e with
 |normal=>exact AWP.weak h1 hy
 |_=>exact h1) hx
end
end
end Go.Proofs.YtalaljeokcpfnaaGreat
