/-
  Rules, data and contracts of functions: part 44 of the proof.
  Conditions: those that each theorem names.
-/
import Derived.Test.YtalaljeokcpfnaaGreatDDPlayRowk42
set_option linter.unusedSimpArgs false
set_option linter.unusedVariables false
set_option maxRecDepth 8000
set_option maxHeartbeats 8000000
namespace Go.Proofs.YtalaljeokcpfnaaGreat
section
open Tryz
open Go.RowKit

theorem A_seqO {P:Program} {E:Env} {Q:Exit→St→Prop} {x y:Code} {st:St} {R:Prop} (st1 st2:St) (hx:AWP P E x (thn (fun st=>(R∧Wk st st1)∨Wk st st2) Q) st) (h1:R→AWP P E y Q st1) (h2:AWP P E y Q st2):AWP P E x (thn (AWP P E y Q) Q) st:=AWP.mono (fun e st h=>by
 have h0:=h.h
 refine⟨?_⟩
 cases e with
 |normal =>
  rcases h0 with ⟨r,hw⟩ | hw
  ·exact AWP.weak hw (h1 r)
  ·exact AWP.weak hw h2
 |_=>exact h0) hx
theorem I_play (x:TMatch) (i:Nat) (h:MatchIn x) (hm:matchOk x=true) (hi:i<x.Peers.length):Co 33 (.box (mC x 1)::mR x [.gh 0 (.c (.ptr 0 0))]) [.c (.ptr 0 0),ai i] (.box (mC (playS x i) 1)::mR (playS x i) [.gh 0 (.c (.ptr 0 0))]) (.tu []):=by
 obtain⟨p,pc,hA⟩:=play_at hm hi
 have eP:=Y7 x.Peers
 have eQ:=Y7 x.Paces
 have lQ:=Zj hA.hpc
 have gp:Enc.gd p:=h.gd.2.2.2.2.1.2 p (Gqn hA.hp)
 have gpc:Enc.gd pc:=h.gd.2.2.2.2.2.2.1.2 pc (Gqn hA.hpc)
 have wp:Enc.wt p≤1048576:=(Zo h.le.P).2 p (Gqn hA.hp)
 have hd:PeerD p:=peer_d gp wp
 have hs:=Ke hA.ok
 obtain⟨n0,n4⟩:=hs.nt
 obtain⟨d0,d5⟩:=hA.dl
 have hatQ:(els x.Paces)[(i:Int).toNat]? = some (Enc.e pc):=els_at' hA.hpc
 have hlT:=Y7 p.Tracks
 have hml:=hA.ml
 have hatT:(els p.Tracks)[(i:Int).toNat]? = some (Enc.e (p.Tracks[i]'hml)):=Y4 hml
 have hla:lenAt p.Tracks i=(p.Tracks[i]'hml).Inputs.length:=Zn hml
 generalize p.Tracks[i]'hml=tr at hatT hla
 have hli:=Y7 tr.Inputs
 have cW:=I_ShouldWait pc p.Now.Tick x.Clock gpc
 obtain⟨wb,hw⟩:∃ wb,waitB pc p.Now.Tick x.Clock=wb:=⟨_,rfl⟩
 rw[hw] at cW
 rw[playS_is hA]
 obtain⟨p1,hp1⟩:∃ p1,pressM x i p=p1:=⟨_,rfl⟩
 have hd1:PeerD p1:=hp1▸pressM_d hd
 have cA:=I_AdvA p1 hd1
 obtain⟨q,hq⟩:∃ q,preP x i p pc=q:=⟨_,rfl⟩
 rw[hq]
 have hdq:PeerD q:=hq▸pre_d hd
 have cC:=I_ConfA q hdq
 generalize confP q=z at cC ⊢
 rw[preP,hw,hp1] at hq
 obtain⟨tk,htk⟩:∃ tk,p.Now.Tick+x.Delay=tk:=⟨_,rfl⟩
 have it:I64 tk:=⟨Aqa,Aqa⟩
 have cT:=I_TrueInput x i tk h.gd it
 have iv:=true_in h.gd (i:Int) tk
 rw[pressM,hla,htk] at hp1
 generalize trueIn x i tk=v at cT iv hp1
 have cP:=I_Press p v hd iv
 refine Con.o func33 ntmps33 fun E=>?_;refine Wz [11,61,68,106] ?_
 have hatP:(els x.Peers)[(i:Int).toNat]? = some (Enc.e p):=els_at' hA.hp
 refine zx (Q6 J J J J hatP J J) J ?_;refine AL.kp [0,1,1,0] [(16,.o (.ag ((Enc.e p).map (rdm [3]))))] 11 [(0,.box (mC x 1))] ?_;refine Wz [91] ?_;refine AWP.kp [0,1,1,0,4,12] [] 12 [(0,.box (mC x 1)),(11,.box ((Enc.e p).map (rdm [3])))] ?_
 repeat (first | refine Qh ?_ | refine Qk ?_ | refine Q0 ?_ | refine Q1 ?_)
 refine Qd ?_
 refine A_seqO (R:=p=q) ⟨78,[(0,Aqf 0),(1,I i),(4,Aqf 11)],.box (mC x 1)::mR x [.gh 0 (.c (.ptr 0 0)),.box ((Enc.e p).map (rdm [3]))]⟩ ⟨78,[(0,Aqf 0),(1,I i),(4,Aqf 11)],.box (mC x 1)::mR x [.gh 0 (.c (.ptr 0 0)),.box (pC q 12 13 14 15 16 17 18 19 20 21),.row 1 (els q.Tracks),.row 1 (els q.Base.Level.Rows),.row 1 (els q.Base.Scores),.row 9 (els q.Base.Bodies),.row 1 (els q.Now.Level.Rows),.row 1 (els q.Now.Scores),.row 9 (els q.Now.Bodies),.row 1 (els q.Used),.row 2 (els q.Saves),.row 1 (els q.Sums)]⟩ ?_ (fun hpq=>?_) ?_
 ·repeat (first | refine Qd ?_ | refine Qh ?_ | refine Qk ?_ | refine Q0 ?_ | refine Q1 ?_)
  refine Xi u8_102 (tt [[],[17,1],[17,2],[17,3],[],[17,5],[17,6],[],[24,1],[24,2],[],[27,1],[27,2],[27,3],[17,14],[17,15]]) (tt [[21,1,24,7],[21,1,24,7],[21,1,24,7],[21,1,24,7],[17,4,24,7],[24,7],[24,7],[17,7,27,4],[17,7,27,4],[17,7,27,4],[17,10],[17,10],[17,10],[17,10],[],[]]) J ?_;refine Wz [17,128,67,129,163,145,67,128,37] ?_;refine Uq (Qj J J (cW) J) J ?_;refine Wz [142,12,1] ?_;refine AWP.kp [0,1,1,0,4,12,32,0] [] 12 [(0,.box (mC x 1)),(11,.box ((Enc.e p).map (rdm [3])))] ?_
  repeat (first | refine Qh ?_ | refine Qk ?_ | refine Q0 ?_ | refine Q1 ?_)
  refine Xb J (fun h0=>?_) (fun h0=>?_)
  rotate_left
  ·have hb:wb=true:=by simpa using h0
   rw[hb] at hq
   repeat (first | refine Qh ?_ | refine Qk ?_ | refine Q0 ?_ | refine Q1 ?_)
   exact .inl ⟨hq,Yk [0,1,2,3,4,5,6,7,8,9,10,11] Aqc J Aqb (.c J (.c J (.c J (.nil))))⟩
  have hb:wb=false:=by simpa using h0
  rw[hb] at hq
  replace hq:advV p1=q:=hq
  repeat (first | refine Qd ?_ | refine Qh ?_ | refine Qk ?_ | refine Q0 ?_ | refine Q1 ?_)
  refine Xi [[],[0],[0,1],[],[3],[3,4],[3,4,5],(u9 7),(u9 8)] (tt [[],[33,1],[33,2],[],[36,1],[36,2],[36,3],[33,7],[33,8]]) (tt [[36,4],[36,4],[36,4],[33,3],[33,3],[33,3],[33,3],[],[]]) J ?_;refine Wz [145,67,128,37,187,162,12,1] ?_;refine AWP.kp [0,1,1,0,4,12,5,0] [] 12 [(0,.box (mC x 1)),(11,.box ((Enc.e p).map (rdm [3])))] ?_
  rw[htk]
  repeat (first | refine Qh ?_ | refine Qk ?_ | refine Q0 ?_ | refine Q1 ?_)
  refine Qd ?_
  refine A_seqO (R:=p1=p) ⟨78,[(0,Aqf 0),(1,I i),(4,Aqf 11)],.box (mC x 1)::mR x [.gh 0 (.c (.ptr 0 0)),.box ((Enc.e p).map (rdm [3]))]⟩ ⟨78,[(0,Aqf 0),(1,I i),(4,Aqf 11)],.box (mC x 1)::mR x [.gh 0 (.c (.ptr 0 0)),.box (pC p1 12 13 14 15 16 17 18 19 20 21),.row 1 (els p1.Tracks),.row 1 (els p1.Base.Level.Rows),.row 1 (els p1.Base.Scores),.row 9 (els p1.Base.Bodies),.row 1 (els p1.Now.Level.Rows),.row 1 (els p1.Now.Scores),.row 9 (els p1.Now.Bodies),.row 1 (els p1.Used),.row 2 (els p1.Saves),.row 1 (els p1.Sums)]⟩ ?_ (fun hpp=>?_) ?_
  ·refine Wz [65] ?_
   refine Wz [63,209,25,0,216,1] ?_;refine AWP.kp [0,1,1,0,4,12,5,0,49,0] [] 12 [(0,.box (mC x 1)),(11,.box ((Enc.e p).map (rdm [3])))] ?_
   repeat (first | refine Qh ?_ | refine Qk ?_ | refine Q0 ?_ | refine Q1 ?_)
   refine Xb J (fun h1=>?_) (fun h1=>?_)
   rotate_left
   ·have h2:=Gqd h1
    rw[if_neg Aqa] at hp1
    repeat (first | refine Qh ?_ | refine Qk ?_ | refine Q0 ?_ | refine Q1 ?_)
    exact .inl ⟨hp1.symm,Yk [0,1,2,3,4,5,6,7,8,9,10,11] Aqc J Aqb (.c J (.c J (.c J (.nil))))⟩
   have h2:=Gqc h1
   rw[if_pos Aqa] at hp1
   rw[hp1] at cP
   repeat (first | refine Qd ?_ | refine Qh ?_ | refine Qk ?_ | refine Q0 ?_ | refine Q1 ?_)
   obtain⟨pb,hpb⟩:∃ pb,pressB p v=pb:=⟨_,rfl⟩
   rw[hpb] at cP
   refine Xi (tt [[],[],[1,1],[1,2],[],[],[1,5],[0,7],[0,8],[0,9],[0,9],[],[0,10,11,1],[0,13]]) (tt [[],[],[52,1],[52,2],[],[],[52,5],[51,7],[51,8],[50,9],[50,9],[],[6,1,50,10],[6,1,50,11]]) [(gg [6,1,52,6]),[6,51,55,56],[6,51,55,56],[6,51,55,56],[6,51,52,53,54,56],(gg [6,1,51,5]),[6,51],[6],[6],[6,60],[6,59],(gg [50,11]),[60],[],[10]] J ?_;refine DR.s (x := .o (.ag ((Enc.e p).map (rdm [3])))) (Qu (y := .tmp 4) J J J J J Aqb) J J ?_;refine Wz [17,128] ?_;refine DR.s (x := .o (.ag (mC x 1))) (Qu (y := .tmp 53) J J J J J Aqb) J J ?_;refine Wz [35] ?_;refine Uq (Qj J J (cT) J) J ?_;refine Uq (Kr J J (cP) J J J) J ?_;refine Wz [229,166,166,221,12,47,44,1] ?_;refine AWP.kp [0,1,1,0,4,12,5,0,6,23,61,0] [] 23 [(0,.box (mC x 1)),(11,.box ((Enc.e p).map (rdm [3]))),(22,.box (pC p1 12 13 14 15 16 17 18 19 20 21))] ?_
   cases pb with
   |false =>
    refine Ql J ?_
    repeat (first | refine Qh ?_ | refine Qk ?_ | refine Q0 ?_ | refine Q1 ?_)
    exact .inl ⟨by rw[←hp1,pressV,hpb]; rfl,Yk [0,1,2,3,4,5,6,7,8,9,10,11] Aqc J Aqb (.c J (.c J (.c J (.nil))))⟩
   |true =>
    refine Qm J ?_
    repeat (first | refine Qd ?_ | refine Qh ?_ | refine Qk ?_ | refine Q0 ?_ | refine Q1 ?_)
    refine Wz [94,85] ?_;refine AL.kp [0,1,1,0,4,12,5,0,6,23] [(62,.o (.ag (pC p1 12 13 14 15 16 17 18 19 20 21)))] 23 [(0,.box (mC x 1)),(11,.box ((Enc.e p).map (rdm [3]))),(22,.box (pC p1 12 13 14 15 16 17 18 19 20 21))] ?_;refine Wz [39] ?_
    repeat (first | refine Qd ?_ | refine Qh ?_ | refine Qk ?_ | refine Q0 ?_ | refine Q1 ?_)
    exact Bz4
  ·obtain rfl:p=p1:=hpp.symm
   obtain⟨ab,hab⟩:∃ ab,advB p=ab:=⟨_,rfl⟩
   rw[hab,hq] at cA
   repeat (first | refine Qd ?_ | refine Qh ?_ | refine Qk ?_ | refine Q0 ?_ | refine Q1 ?_)
   refine Wz [94,85] ?_;refine AL.kp [0,1,1,0,4,12] [(64,.o (.ag ((Enc.e p).map (rdm [3]))))] 12 [(0,.box (mC x 1)),(11,.box ((Enc.e p).map (rdm [3])))] ?_;refine kc1 cA ?_;refine AL.kp [0,1,1,0,4,12] [(65,.tu [.ag (pC q 12 13 14 15 16 17 18 19 20 21),.c (bv ab)])] 22 [(0,.box (mC x 1)),(11,.box ((Enc.e p).map (rdm [3])))] ?_;refine Wz [120,82,47,44,1] ?_;refine AWP.kp [0,1,1,0,4,12,8,23,68,0] [] 23 [(0,.box (mC x 1)),(11,.box ((Enc.e p).map (rdm [3]))),(22,.box (pC q 12 13 14 15 16 17 18 19 20 21))] ?_
   cases ab with
   |false =>
    have hqp:p=q:=by rw[←hq,advV,hab]; rfl
    refine Ql J ?_
    repeat (first | refine Qh ?_ | refine Qk ?_ | refine Q0 ?_ | refine Q1 ?_)
    exact .inl ⟨hqp,Yk [0,1,2,3,4,5,6,7,8,9,10,11] Aqc J Aqb (.c J (.c J (.c J (.nil))))⟩
   |true =>
    refine Qm J ?_
    repeat (first | refine Qd ?_ | refine Qh ?_ | refine Qk ?_ | refine Q0 ?_ | refine Q1 ?_)
    refine Wz [94,85] ?_;refine AL.kp [0,1,1,0,4,12] [(69,.o (.ag (pC q 12 13 14 15 16 17 18 19 20 21)))] 23 [(0,.box (mC x 1)),(11,.box ((Enc.e p).map (rdm [3]))),(22,.box (pC q 12 13 14 15 16 17 18 19 20 21))] ?_;refine Wz [39] ?_
    repeat (first | refine Qd ?_ | refine Qh ?_ | refine Qk ?_ | refine Q0 ?_ | refine Q1 ?_)
    exact Bz4
  ·obtain⟨ab,hab⟩:∃ ab,advB p1=ab:=⟨_,rfl⟩
   rw[hab,hq] at cA
   repeat (first | refine Qd ?_ | refine Qh ?_ | refine Qk ?_ | refine Q0 ?_ | refine Q1 ?_)
   refine Wz [94,85] ?_;refine AL.kp [0,1,1,0,4,12] [(64,.o (.ag (pC p1 12 13 14 15 16 17 18 19 20 21)))] 22 [(0,.box (mC x 1)),(11,.box (pC p1 12 13 14 15 16 17 18 19 20 21))] ?_;refine kc1 cA ?_;refine AL.kp [0,1,1,0,4,12] [(65,.tu [.ag (pC q 22 23 24 25 26 27 28 29 30 31),.c (bv ab)])] 32 [(0,.box (mC x 1)),(11,.box (pC p1 12 13 14 15 16 17 18 19 20 21))] ?_;refine Wz [120,82,47,44,1] ?_;refine AWP.kp [0,1,1,0,4,12,8,33,68,0] [] 33 [(0,.box (mC x 1)),(11,.box (pC p1 12 13 14 15 16 17 18 19 20 21)),(32,.box (pC q 22 23 24 25 26 27 28 29 30 31))] ?_
   cases ab with
   |false =>
    have hqp:p1=q:=by rw[←hq,advV,hab]; rfl
    subst hqp
    refine Ql J ?_
    repeat (first | refine Qh ?_ | refine Qk ?_ | refine Q0 ?_ | refine Q1 ?_)
    exact Bz4
   |true =>
    refine Qm J ?_
    repeat (first | refine Qd ?_ | refine Qh ?_ | refine Qk ?_ | refine Q0 ?_ | refine Q1 ?_)
    refine Wz [94,85] ?_;refine AL.kp [0,1,1,0,4,12] [(69,.o (.ag (pC q 22 23 24 25 26 27 28 29 30 31)))] 33 [(0,.box (mC x 1)),(11,.box (pC p1 12 13 14 15 16 17 18 19 20 21)),(32,.box (pC q 22 23 24 25 26 27 28 29 30 31))] ?_;refine Wz [39] ?_
    repeat (first | refine Qd ?_ | refine Qh ?_ | refine Qk ?_ | refine Q0 ?_ | refine Q1 ?_)
    exact Bjw
 ·subst hpq
  repeat (first | refine Qd ?_ | refine Qh ?_ | refine Qk ?_ | refine Q0 ?_ | refine Q1 ?_)
  refine Xi u8_103 u8_104 u8_105 J ?_;refine Wz [17,128,67] ?_;refine DR.s (x := .o (.ag ((Enc.e p).map (rdm [3])))) (Qu (y := .tmp 4) J J J J J Aqb) J J ?_;refine Uq (Kr J J (cC) J J J) J ?_;refine Wz [129,12] ?_;refine AL.kr [0,1,1,0] [(77,.o (.c (.el 3 23 i 0))),(76,.o (.ag (pC z 11 12 13 14 15 16 17 18 19 20)))] [0,1,2,3,4,5,6,7,8,9,10,12,13,14,15,16,17,18,19,20,21] [(0,.box (mC x 1))] ?_;refine Xg J J J J J J J J J J hatP J J ?_
  refine AL.weak (st':=(⟨78,[(0,Aqf 0),(1,I i)],[.box (mC x 1),.row 1 (els x.Level.Rows),.row 1 (els x.Scripts),.row 23 (els (x.Peers.set i z)),.row 1 (els x.Wires),.row 1 (els x.Paces),.row 1 (els x.Acks),.row 6 (els x.Watchers),.row 10 (els x.Lines),.row 2 (els x.Alarms),.gh 0 (.c (.ptr 0 0))]⟩:St)) Bx9 ?_
  refine Wz [53,220] ?_
  exact Bjc
 ·repeat (first | refine Qd ?_ | refine Qh ?_ | refine Qk ?_ | refine Q0 ?_ | refine Q1 ?_)
  refine Xi u8_103 u8_104 u8_105 J ?_;refine Wz [17,128,67] ?_;refine DR.s (x := .o (.ag (pC q 12 13 14 15 16 17 18 19 20 21))) (Qu (y := .tmp 4) J J J J J Aqb) J J ?_;refine Uq (Kr J J (cC) J J J) J ?_;refine Wz [129,12] ?_;refine AL.kr [0,1,1,0] [(77,.o (.c (.el 3 23 i 0))),(76,.o (.ag (pC z 11 12 13 14 15 16 17 18 19 20)))] [0,1,2,3,4,5,6,7,8,9,10,22,23,24,25,26,27,28,29,30,31] [(0,.box (mC x 1))] ?_;refine Xg J J J J J J J J J J hatP J J ?_
  refine AL.weak (st':=(⟨78,[(0,Aqf 0),(1,I i)],[.box (mC x 1),.row 1 (els x.Level.Rows),.row 1 (els x.Scripts),.row 23 (els (x.Peers.set i z)),.row 1 (els x.Wires),.row 1 (els x.Paces),.row 1 (els x.Acks),.row 6 (els x.Watchers),.row 10 (els x.Lines),.row 2 (els x.Alarms),.gh 0 (.c (.ptr 0 0))]⟩:St)) Bx9 ?_
  refine Wz [53,220] ?_
  exact Bjc
theorem S_play (x:TMatch) (i:Nat) (h:MatchIn x) (hm:matchOk x=true) (hi:i<x.Peers.length):Co 22 (.box (mC x 1)::mR x [.gh 0 (.c (.ptr 0 0))]) [.c (.ptr 0 0),ai i] (.box (mC (playS x i) 1)::mR (playS x i) [.gh 0 (.c (.ptr 0 0))]) (.tu []):=by
 obtain⟨p,pc,hA⟩:=play_at hm hi
 have eP:=Y7 x.Peers
 have eQ:=Y7 x.Paces
 have lQ:=Zj hA.hpc
 have gp:Enc.gd p:=h.gd.2.2.2.2.1.2 p (Gqn hA.hp)
 have gpc:Enc.gd pc:=h.gd.2.2.2.2.2.2.1.2 pc (Gqn hA.hpc)
 have wp:Enc.wt p≤1048576:=(Zo h.le.P).2 p (Gqn hA.hp)
 have hd:PeerD p:=peer_d gp wp
 have hs:=Ke hA.ok
 obtain⟨n0,n4⟩:=hs.nt
 obtain⟨d0,d5⟩:=hA.dl
 have hatQ:(els x.Paces)[(i:Int).toNat]? = some (Enc.e pc):=els_at' hA.hpc
 have hlT:=Y7 p.Tracks
 have hml:=hA.ml
 have hatT:(els p.Tracks)[(i:Int).toNat]? = some (Enc.e (p.Tracks[i]'hml)):=Y4 hml
 have hla:lenAt p.Tracks i=(p.Tracks[i]'hml).Inputs.length:=Zn hml
 generalize p.Tracks[i]'hml=tr at hatT hla
 have hli:=Y7 tr.Inputs
 have cW:=S_ShouldWait pc p.Now.Tick x.Clock gpc
 obtain⟨wb,hw⟩:∃ wb,waitB pc p.Now.Tick x.Clock=wb:=⟨_,rfl⟩
 rw[hw] at cW
 rw[playS_is hA]
 obtain⟨p1,hp1⟩:∃ p1,pressM x i p=p1:=⟨_,rfl⟩
 have hd1:PeerD p1:=hp1▸pressM_d hd
 have cA:=S_AdvA p1 hd1
 obtain⟨q,hq⟩:∃ q,preP x i p pc=q:=⟨_,rfl⟩
 rw[hq]
 have hdq:PeerD q:=hq▸pre_d hd
 have cC:=S_ConfA q hdq
 generalize confP q=z at cC ⊢
 rw[preP,hw,hp1] at hq
 obtain⟨tk,htk⟩:∃ tk,p.Now.Tick+x.Delay=tk:=⟨_,rfl⟩
 have it:I64 tk:=⟨Aqa,Aqa⟩
 have cT:=S_TrueInput x i tk h.gd it
 have iv:=true_in h.gd (i:Int) tk
 rw[pressM,hla,htk] at hp1
 generalize trueIn x i tk=v at cT iv hp1
 have cP:=S_Press p v hd iv
 subst htk
 refine Con.o func22 ntmps22 fun E=>?_;refine Wz [11,61,68,106] ?_
 have hatP:(els x.Peers)[(i:Int).toNat]? = some (Enc.e p):=els_at' hA.hp
 refine zx (Q6 J J J J hatP J J) J ?_;refine AL.kp [0,1,1,0] [(11,.o (.ag ((Enc.e p).map (rdm [3]))))] 11 [(0,.box (mC x 1))] ?_;refine Wz [91] ?_;refine AWP.kp [0,1,1,0,4,12] [] 12 [(0,.box (mC x 1)),(11,.box ((Enc.e p).map (rdm [3])))] ?_
 repeat (first | refine Qh ?_ | refine Qk ?_ | refine Q0 ?_ | refine Q1 ?_)
 refine Qd ?_
 refine A_seqO (R:=p=q) ⟨75,[(0,Aqf 0),(1,I i),(4,Aqf 11)],.box (mC x 1)::mR x [.gh 0 (.c (.ptr 0 0)),.box ((Enc.e p).map (rdm [3]))]⟩ ⟨75,[(0,Aqf 0),(1,I i),(4,Aqf 11)],.box (mC x 1)::mR x [.gh 0 (.c (.ptr 0 0)),.box (pC q 12 13 14 15 16 17 18 19 20 21),.row 1 (els q.Tracks),.row 1 (els q.Base.Level.Rows),.row 1 (els q.Base.Scores),.row 9 (els q.Base.Bodies),.row 1 (els q.Now.Level.Rows),.row 1 (els q.Now.Scores),.row 9 (els q.Now.Bodies),.row 1 (els q.Used),.row 2 (els q.Saves),.row 1 (els q.Sums)]⟩ ?_ (fun hpq=>?_) ?_
 ·repeat (first | refine Qd ?_ | refine Qh ?_ | refine Qk ?_ | refine Q0 ?_ | refine Q1 ?_)
  refine Xi u8_102 (tt [[],[12,1],[12,2],[12,3],[],[12,5],[12,6],[],[19,1],[19,2],[],[22,1],[22,2],[22,3],[12,14],[12,15]]) (tt [[16,1,19,7],[16,1,19,7],[16,1,19,7],[16,1,19,7],[12,4,19,7],[19,7],[19,7],[12,7,22,4],[12,7,22,4],[12,7,22,4],[12,10],[12,10],[12,10],[12,10],[],[]]) J ?_;refine Wz [17,128,67,129,163,145,67,128,37] ?_;refine Uq (Qj J J (cW) J) J ?_;refine Wz [142,12,1] ?_;refine AWP.kp [0,1,1,0,4,12,27,0] [] 12 [(0,.box (mC x 1)),(11,.box ((Enc.e p).map (rdm [3])))] ?_
  repeat (first | refine Qh ?_ | refine Qk ?_ | refine Q0 ?_ | refine Q1 ?_)
  refine Xb J (fun h0=>?_) (fun h0=>?_)
  rotate_left
  ·have hb:wb=true:=by simpa using h0
   rw[hb] at hq
   repeat (first | refine Qh ?_ | refine Qk ?_ | refine Q0 ?_ | refine Q1 ?_)
   exact .inl ⟨hq,Yk [0,1,2,3,4,5,6,7,8,9,10,11] Aqc J Aqb (.c J (.c J (.c J (.nil))))⟩
  have hb:wb=false:=by simpa using h0
  rw[hb] at hq
  replace hq:advV p1=q:=hq
  repeat (first | refine Qh ?_ | refine Qk ?_ | refine Q0 ?_ | refine Q1 ?_)
  refine Qd ?_
  refine A_seqO (R:=p1=p) ⟨75,[(0,Aqf 0),(1,I i),(4,Aqf 11)],.box (mC x 1)::mR x [.gh 0 (.c (.ptr 0 0)),.box ((Enc.e p).map (rdm [3]))]⟩ ⟨75,[(0,Aqf 0),(1,I i),(4,Aqf 11)],.box (mC x 1)::mR x [.gh 0 (.c (.ptr 0 0)),.box (pC p1 12 13 14 15 16 17 18 19 20 21),.row 1 (els p1.Tracks),.row 1 (els p1.Base.Level.Rows),.row 1 (els p1.Base.Scores),.row 9 (els p1.Base.Bodies),.row 1 (els p1.Now.Level.Rows),.row 1 (els p1.Now.Scores),.row 9 (els p1.Now.Bodies),.row 1 (els p1.Used),.row 2 (els p1.Saves),.row 1 (els p1.Sums)]⟩ ?_ (fun hpp=>?_) ?_
  ·repeat (first | refine Qd ?_ | refine Qh ?_ | refine Qk ?_ | refine Q0 ?_ | refine Q1 ?_)
   refine Xi [[],[0],[],[0,1,2],(u9 4),(u9 5),(u9 6),[],[7],[7,8],[],[10],[10,11],[10,11,12],(gg [7,7]),(u9 15)] (tt [[],[28,1],[],[28,3],[28,4],[28,5],[28,6],[],[35,1],[35,2],[],[38,1],[38,2],[38,3],[35,7],[28,15]]) (tt [[30,1,35,8],[30,1,35,8],[28,2,35,8],[35,8],[35,8],[35,8],[35,8],[28,7,38,4],[28,7,38,4],[28,7,38,4],[28,10],[28,10],[28,10],[28,10],[28,7],[]]) J ?_;refine Wz [67,132,192,201,296,145,67,128,37,187] ?_;refine Uq (Kt J J J J) J ?_;refine Wz [12,1] ?_;refine AWP.kp [0,1,1,0,4,12,43,0] [] 12 [(0,.box (mC x 1)),(11,.box ((Enc.e p).map (rdm [3])))] ?_
   repeat (first | refine Qh ?_ | refine Qk ?_ | refine Q0 ?_ | refine Q1 ?_)
   refine Xb J (fun h1=>?_) (fun h1=>?_)
   rotate_left
   ·have h2:=Gqd h1
    rw[if_neg Aqa] at hp1
    repeat (first | refine Qh ?_ | refine Qk ?_ | refine Q0 ?_ | refine Q1 ?_)
    exact .inl ⟨hp1.symm,Yk [0,1,2,3,4,5,6,7,8,9,10,11] Aqc J Aqb (.c J (.c J (.c J (.nil))))⟩
   have h2:=Gqc h1
   rw[if_pos Aqa] at hp1
   rw[hp1] at cP
   repeat (first | refine Qd ?_ | refine Qh ?_ | refine Qk ?_ | refine Q0 ?_ | refine Q1 ?_)
   refine Xi [[],[],[1],[1,2],[],[],[5],[5,6],[],[8],[8,9],[8,9,10],(gg [5,7]),(gg [1,12]),(u9 14),(u9 15),(u9 16),(u9 16),(u9 17)] (tt [[],[],[46,1],[46,2],[],[],[50,1],[50,2],[],[53,1],[53,2],[53,3],[50,7],[46,12],[45,14],[45,15],[44,16],[44,16],[44,17]]) (tt [[46,13],[45,1,49,9],[45,1,49,9],[45,1,49,9],[45,4,50,8],[45,5,53,4],[45,5,53,4],[45,5,53,4],[45,8],[45,8],[45,8],[45,8],[45,5],[45,1],[],[],[61,1],[60,1],[61,1],[17,1]]) J ?_;refine DR.s (x := .o (.ag ((Enc.e p).map (rdm [3])))) (Qu (y := .tmp 4) J J J J J Aqb) J J ?_;refine Wz [17,128] ?_;refine DR.s (x := .o (.ag (mC x 1))) (Qu (y := .tmp 47) J J J J J Aqb) J J ?_;refine Wz [17,145,67,128,37,187] ?_;refine Uq (Qj J J (cT) J) J ?_;refine Uq (Kr J J (cP) J J J) J ?_;refine Wz [229,166,166,12] ?_;refine AL.kp [0,1,1,0,4,12] [(60,.o (.ag (pC p1 12 13 14 15 16 17 18 19 20 21)))] 22 [(0,.box (mC x 1)),(11,.box ((Enc.e p).map (rdm [3])))] ?_;refine Wz [39] ?_
   repeat (first | refine Qh ?_ | refine Qk ?_ | refine Q0 ?_ | refine Q1 ?_)
   exact Bz4
  ·obtain rfl:p=p1:=hpp.symm
   obtain⟨ab,hab⟩:∃ ab,advB p=ab:=⟨_,rfl⟩
   rw[hab,hq] at cA
   repeat (first | refine Qd ?_ | refine Qh ?_ | refine Qk ?_ | refine Q0 ?_ | refine Q1 ?_)
   refine Wz [94,85] ?_;refine AL.kp [0,1,1,0,4,12] [(63,.o (.ag ((Enc.e p).map (rdm [3]))))] 12 [(0,.box (mC x 1)),(11,.box ((Enc.e p).map (rdm [3])))] ?_;refine kc1 cA ?_;refine AL.kp [0,1,1,0,4,12] [(64,.tu [.ag (pC q 12 13 14 15 16 17 18 19 20 21),.c (bv ab)])] 22 [(0,.box (mC x 1)),(11,.box ((Enc.e p).map (rdm [3])))] ?_;refine Wz [120,39] ?_
   repeat (first | refine Qd ?_ | refine Qh ?_ | refine Qk ?_ | refine Q0 ?_ | refine Q1 ?_)
   exact Bz4
  ·obtain⟨ab,hab⟩:∃ ab,advB p1=ab:=⟨_,rfl⟩
   rw[hab,hq] at cA
   repeat (first | refine Qd ?_ | refine Qh ?_ | refine Qk ?_ | refine Q0 ?_ | refine Q1 ?_)
   refine Wz [94,85] ?_;refine AL.kp [0,1,1,0,4,12] [(63,.o (.ag (pC p1 12 13 14 15 16 17 18 19 20 21)))] 22 [(0,.box (mC x 1)),(11,.box (pC p1 12 13 14 15 16 17 18 19 20 21))] ?_;refine kc1 cA ?_;refine AL.kp [0,1,1,0,4,12] [(64,.tu [.ag (pC q 22 23 24 25 26 27 28 29 30 31),.c (bv ab)])] 32 [(0,.box (mC x 1)),(11,.box (pC p1 12 13 14 15 16 17 18 19 20 21))] ?_;refine Wz [120,39] ?_
   repeat (first | refine Qd ?_ | refine Qh ?_ | refine Qk ?_ | refine Q0 ?_ | refine Q1 ?_)
   exact Bjw
 ·subst hpq
  repeat (first | refine Qd ?_ | refine Qh ?_ | refine Qk ?_ | refine Q0 ?_ | refine Q1 ?_)
  refine Xi u8_103 u8_106 u8_107 J ?_;refine Wz [17,128,67] ?_;refine DR.s (x := .o (.ag ((Enc.e p).map (rdm [3])))) (Qu (y := .tmp 4) J J J J J Aqb) J J ?_;refine Uq (Kr J J (cC) J J J) J ?_;refine Wz [129,12] ?_;refine AL.kr [0,1,1,0] [(74,.o (.c (.el 3 23 i 0))),(73,.o (.ag (pC z 11 12 13 14 15 16 17 18 19 20)))] [0,1,2,3,4,5,6,7,8,9,10,12,13,14,15,16,17,18,19,20,21] [(0,.box (mC x 1))] ?_;refine Xg J J J J J J J J J J hatP J J ?_
  refine AL.weak (st':=(⟨75,[(0,Aqf 0),(1,I i)],[.box (mC x 1),.row 1 (els x.Level.Rows),.row 1 (els x.Scripts),.row 23 (els (x.Peers.set i z)),.row 1 (els x.Wires),.row 1 (els x.Paces),.row 1 (els x.Acks),.row 6 (els x.Watchers),.row 10 (els x.Lines),.row 2 (els x.Alarms),.gh 0 (.c (.ptr 0 0))]⟩:St)) Bx9 ?_
  refine Wz [53,220] ?_
  exact Bjc
 ·repeat (first | refine Qd ?_ | refine Qh ?_ | refine Qk ?_ | refine Q0 ?_ | refine Q1 ?_)
  refine Xi u8_103 u8_106 u8_107 J ?_;refine Wz [17,128,67] ?_;refine DR.s (x := .o (.ag (pC q 12 13 14 15 16 17 18 19 20 21))) (Qu (y := .tmp 4) J J J J J Aqb) J J ?_;refine Uq (Kr J J (cC) J J J) J ?_;refine Wz [129,12] ?_;refine AL.kr [0,1,1,0] [(74,.o (.c (.el 3 23 i 0))),(73,.o (.ag (pC z 11 12 13 14 15 16 17 18 19 20)))] [0,1,2,3,4,5,6,7,8,9,10,22,23,24,25,26,27,28,29,30,31] [(0,.box (mC x 1))] ?_;refine Xg J J J J J J J J J J hatP J J ?_
  refine AL.weak (st':=(⟨75,[(0,Aqf 0),(1,I i)],[.box (mC x 1),.row 1 (els x.Level.Rows),.row 1 (els x.Scripts),.row 23 (els (x.Peers.set i z)),.row 1 (els x.Wires),.row 1 (els x.Paces),.row 1 (els x.Acks),.row 6 (els x.Watchers),.row 10 (els x.Lines),.row 2 (els x.Alarms),.gh 0 (.c (.ptr 0 0))]⟩:St)) Bx9 ?_
  refine Wz [53,220] ?_
  exact Bjc
theorem I_PlayPeer (x:TMatch) (i:Int) (h:MatchIn x):Co 7 [] [ag x,ai i] (mR (playV x i) []) (.o (.ag (mC (playV x i) 0))):=by
 have cM:=I_copyMatch x h
 have cO:=I_MatchOk x h.gd
 have eP:=Y7 x.Peers
 have gP:=h.gd.2.2.2.2.1.1
 refine Con.o func7 ntmps7 fun E=>?_;refine Wz [59,1,7] ?_;refine AL.kp [1,0,2,1,4,2] [(6,.o (.ag (mD x)))] 2 [(0,.box (mD x)),(1,.box zM)] ?_;refine kc1 cM ?_;refine Wz [91,4,7] ?_;refine AL.kp [1,0,2,1,4,2,5,12] [(8,.o (.ag (mD x)))] 12 [(0,.box (mD x)),(1,.box zM),(11,.box (mC x 2))] ?_
 cases hm:matchOk x with
 |false =>
  rw[hm] at cO
  rw[show playV x i=x by rw[playV,hm]; rfl]
  refine kc0 cO ?_;refine Wz [0,87,5,55,80,5,28,7,39,73] ?_
  exact Bzz
 |true =>
 rw[hm] at cO
 refine kc0 cO ?_;refine Wz [14,224,46,0,171] ?_;refine zx (Qt.grdT J J J (.hit .stop) (fun hgrd=>Qf J J J J Aqc)) J ?_;refine zx (Qt.grdT J J J (.hit (.hit .stop)) (fun hgrd=>Qg J J J J J)) J ?_;refine zx (Qt.grdT J J J (.hit (.hit (.hit .stop))) (fun hgrd=>Vb J J J)) J ?_;refine zx (Qt.grdT J J J (.hit (.hit (.hit (.hit .stop)))) (fun hgrd=>Vh J J J J)) J ?_;refine Wz [66,1] ?_
 refine Xb J (fun h0=>?_) (fun h0=>?_)
 ·have hb:0≤i∧i<x.Peers.length:=by simpa[Gqh,eP] using h0
  obtain⟨a,rfl⟩:∃ a:Nat,i=a:=⟨i.toNat,Aqa⟩
  have cS:=I_play x a h hm Aqa 
  rw[show playV x (a:Int)=playS x a by rw[playV,hm,plB_iff.2 hb]; rfl]
  refine Wz [27] ?_;refine Xd (lo := [_,_,_,_,_,_,_,_,_,_]) (gs := [(0,.c (.ptr 0 0))]) (lo' := [_,_,_,_,_,_,_,_,_,_]) (new := []) [11,2,3,4,5,6,7,8,9,10] [(0,0,.ptr 0 0)] (cS) J J J J J J J J J J J J J J J J J ?_;refine Wz [1,7,39,73] ?_
  exact Bzz
 ·have hb:plB x i=false:=by
   rw[←Gxu,plB_iff]
   intro hb
   rw[Gqb hb.1,Gqb (show i<((els x.Peers).length:Int) by omega)] at h0
   cases h0
  rw[show playV x i=x by rw[playV,hm,hb]; rfl]
  refine Wz [42,7,39,73] ?_
  exact Bzz
theorem S_PlayPeer (x:TMatch) (i:Int) (h:MatchIn x):Co 5 [] [ag x,ai i] (mR (playV x i) []) (.o (.ag (mC (playV x i) 0))):=by
 have cM:=S_l08Copy x h
 have cO:=S_MatchOk x h.gd
 have eP:=Y7 x.Peers
 have gP:=h.gd.2.2.2.2.1.1
 refine Con.o func5 ntmps5 fun E=>?_;refine Wz [59,1,7] ?_;refine AL.kp [1,0,2,1,4,2] [(6,.o (.ag (mD x)))] 2 [(0,.box (mD x)),(1,.box zM)] ?_;refine kc1 cM ?_;refine Wz [91,4,7] ?_;refine AL.kp [1,0,2,1,4,2,5,12] [(8,.o (.ag (mD x)))] 12 [(0,.box (mD x)),(1,.box zM),(11,.box (mC x 2))] ?_
 cases hm:matchOk x with
 |false =>
  rw[hm] at cO
  rw[show playV x i=x by rw[playV,hm]; rfl]
  refine kc0 cO ?_;refine Wz [55,87,5,28,7,39,73] ?_
  exact Bzz
 |true =>
 rw[hm] at cO
 refine kc0 cO ?_;refine Wz [14,112,25,2,29,2] ?_;refine kc0 (Yg i 0 (((els x.Peers).length:Int)-1)) ?_;refine Wz [46,1] ?_
 refine Xb J (fun h0=>?_) (fun h0=>?_)
 ·have hb:0≤i∧i<x.Peers.length:=by have h1:=Zm.1 (show inR i 0 (((els x.Peers).length:Int)-1)=true by simpa using h0); omega
  obtain⟨a,rfl⟩:∃ a:Nat,i=a:=⟨i.toNat,Aqa⟩
  have cS:=S_play x a h hm Aqa 
  rw[show playV x (a:Int)=playS x a by rw[playV,hm,plB_iff.2 hb]; rfl]
  refine Wz [27] ?_;refine Xd (lo := [_,_,_,_,_,_,_,_,_,_]) (gs := [(0,.c (.ptr 0 0))]) (lo' := [_,_,_,_,_,_,_,_,_,_]) (new := []) [11,2,3,4,5,6,7,8,9,10] [(0,0,.ptr 0 0)] (cS) J J J J J J J J J J J J J J J J J ?_;refine Wz [1,7,39,73] ?_
  exact Bzz
 ·have hb:plB x i=false:=by
   rw[←Gxu,plB_iff]
   intro hb
   rw[Zm.2 Aqa] at h0
   cases h0
  rw[show playV x i=x by rw[playV,hm,hb]; rfl]
  refine Wz [42,7,39,73] ?_
  exact Bzz
end
section
open Go.RowKit

theorem wts_set {α:Type} [Enc α] {y:α}:∀ (xs:List α) (i:Nat),wts (xs.set i y)≤wts xs+Enc.wt y
 | [],_=>by simp[wts]
 |x::xs,0=>by simp only[List.set_cons_zero,wts]; omega
 |x::xs,i+1=>by have:=wts_set (y:=y) xs i; simp only[List.set_cons_succ,wts]; omega
theorem wt_set {α:Type} [Enc α] {y:α} (xs:List α) (i:Nat):Enc.wt (xs.set i y)≤Enc.wt xs+Enc.wt y:=by
 show (xs.set i y).length+wts (xs.set i y)≤(xs.length+wts xs)+Enc.wt y
 rw[Gqu]
 have:=wts_set (y:=y) xs i
 omega
theorem gd_set {α:Type} [Enc α] {y:α} {xs:List α} (h:Enc.gd xs) (hy:Enc.gd y) (i:Nat):Enc.gd (xs.set i y):=⟨by rw[Gqu]; exact h.1,fun x hx=>by
 rcases Gxv hx with h' | h'
 ·exact h.2 _ h'
 ·rw[h']; exact hy⟩
theorem wts_snoc {α:Type} [Enc α] (xs:List α) (s:α):wts (xs ++ [s])=wts xs+Enc.wt s:=by
 induction xs with
 |nil=>simp[wts]
 |cons y ys ih=>simp only[List.cons_append,wts,ih]; omega
theorem wts_drop1 {α:Type} [Enc α] (xs:List α):wts (xs.drop 1)≤wts xs:=by
 cases xs with
 |nil=>simp[wts]
 |cons y ys=>simp only[List.drop_succ_cons,List.drop_zero,wts]; omega
theorem wts_z {α:Type} [Enc α] (h:∀ x:α,Enc.wt x=0):∀ xs:List α,wts xs=0
 | []=>rfl
 |x::xs=>by rw[wts,h,wts_z h xs]
theorem world_wt {w:TWorld} (ok:worldOk w=true):Enc.wt w≤Enc.wt w.Level.Rows+28:=by
 obtain⟨_,_,_,⟨_,h4⟩,_,⟨_,h5⟩,_⟩:=Uj ok
 have e:Enc.wt w.Level.Rows=w.Level.Rows.length+wts w.Level.Rows:=rfl
 rw[wt_World,wts_int w.Scores,wts_z (α:=TBody) (fun _=>rfl) w.Bodies]
 omega
theorem world_ge (w:TWorld):Enc.wt w.Level.Rows≤Enc.wt w:=by
 have e:Enc.wt w.Level.Rows=w.Level.Rows.length+wts w.Level.Rows:=rfl
 rw[wt_World]
 omega
theorem wt_Track (t:TTrack):Enc.wt t=t.Inputs.length:=by
 show t.Inputs.length+wts t.Inputs=_
 rw[wts_int]; omega
theorem press_wt {x:TPeer} {n:Int}:Enc.wt (pressV x n)≤Enc.wt x+401:=by
 rw[pressV]
 split
 ·rename_i hb
  simp only[pressB,Gqh] at hb
  have hs:=Ke hb.1
  have hy:Enc.wt (⟨(x.Tracks.getD x.Me.toNat ⟨[]⟩).Inputs ++ [n]⟩:TTrack)≤401:=by
   rw[wt_Track]
   show ((x.Tracks.getD x.Me.toNat ⟨[]⟩).Inputs ++ [n]).length≤401
   rw[Gqf,Gql]
   cases he:x.Tracks[x.Me.toNat]? with
   |none=>simp
   |some t=>have:=hs.tr.2 t (Gqn he); simp; omega
  have h1:=wts_set (y:=(⟨(x.Tracks.getD x.Me.toNat ⟨[]⟩).Inputs ++ [n]⟩:TTrack)) x.Tracks x.Me.toNat
  rw[wt_Peer,wt_Peer]
  grind
 ·omega
theorem adv_wt {x:TPeer} (hx:PeerD x):Enc.wt (advV x)≤Enc.wt x+1048700:=by
 rw[advV]
 split
 ·rename_i hb
  simp only[advB,canAdv,Gqh,decide_eq_true_eq] at hb
  obtain⟨⟨ok,_⟩,hl⟩:=hb
  have hs:=Ke ok
  have hf:=(now_fit hx.inn ok).stepF (rowP x.Tracks x.Now.Tick.toNat) x.Fault
  have hd:=delta_ok (rwW (lastW x)) x.Now
  have h1:=world_wt hf.ok
  have h2:=world_ge x.Now
  have h3:(stepF x.Now (rowP x.Tracks x.Now.Tick.toNat) x.Fault).Level=x.Now.Level:=hf.lv
  rw[h3] at h1
  have h4:Enc.wt (rowP x.Tracks x.Now.Tick.toNat)=x.Tracks.length:=by
   show (rowP x.Tracks x.Now.Tick.toNat).length+wts (rowP x.Tracks x.Now.Tick.toNat)=_
   rw[wts_int,rowP_len]; omega
  have h5:=hs.tr.1
  rw[wt_Peer,wt_Peer]
  show (x.Tracks.length+wts x.Tracks)+Enc.wt x.Base+Enc.wt (stepF x.Now (rowP x.Tracks x.Now.Tick.toNat) x.Fault)+((x.Used ++ [rowP x.Tracks x.Now.Tick.toNat]).length+wts (x.Used ++ [rowP x.Tracks x.Now.Tick.toNat]))+((x.Saves ++ [_]).length+wts (x.Saves ++ [(⟨x.Now.Tick,deltaT (worldBytes (rwW (lastW x))) (worldBytes x.Now)⟩:TSave)]))+(x.Sums.length+wts x.Sums)+Enc.wt x.Fault≤_
  rw[wts_snoc,wts_snoc,h4]
  have h6:Enc.wt (⟨x.Now.Tick,deltaT (worldBytes (rwW (lastW x))) (worldBytes x.Now)⟩:TSave)=(deltaT (worldBytes (rwW (lastW x))) (worldBytes x.Now)).size:=rfl
  grind
 ·omega
structure Kept (x y:TPeer):Prop where
 tr:y.Tracks=x.Tracks
 nw:y.Now=x.Now
 fa:y.Fault=x.Fault
 lv:y.Base.Level=x.Base.Level
 us:y.Used.length≤x.Used.length∧wts y.Used≤wts x.Used
 sv:y.Saves.length≤x.Saves.length∧wts (y.Saves.drop 1)≤wts x.Saves
theorem kept_con {x y:TPeer} {w:TWorld} (hy:PeerD y) (ok:peerOk y=true) (hw:nextC y=some w) (h:Kept x y):Kept x (conS y w):=by
 have g:=(next_goes hy.inn ok hw).1
 refine⟨h.tr,h.nw,h.fa,g.lv.trans h.lv,⟨?_,Gxo (wts_drop1 _) h.us.2⟩,?_,?_⟩
 ·show (y.Used.drop 1).length≤_; have:=h.us.1; simp; omega
 ·show (fixD w (y.Saves.drop 1)).length≤_; rw[fixD_len]; have:=h.sv.1; simp; omega
 ·show wts ((fixD w (y.Saves.drop 1)).drop 1)≤_
  refine Gxo ?_ h.sv.2
  cases y.Saves.drop 1 with
  |nil=>exact Gqi _
  |cons s r=>exact wts_drop1 (s::r)
theorem kept_N (x:TPeer):∀ (m:Nat) (y:TPeer),PeerD y→peerOk y=true→Kept x y→Kept x (conN m y)
 |0,y,hy,ok,h=>h
 | m+1,y,hy,ok,h=>by
  cases hw:conW y with
  |none=>rw[conN_stop hw]; exact h
  |some w =>
   obtain⟨h1,h2⟩:=conW_is hw
   obtain⟨h3,h4⟩:=con_ok hy ok h1.1 h2
   rw[conN_next hw]
   exact kept_N x m _ h4 h3 (kept_con hy ok h2 h)
theorem conf_wt {x:TPeer} (hx:PeerD x):Enc.wt (confP x)≤Enc.wt x+1049100:=by
 rw[confP]
 split
 ·rename_i ok
  obtain⟨hd,ok2⟩:=conN_d (x.Now.Tick-x.Base.Tick).toNat x hx ok
  have k:=kept_N x (x.Now.Tick-x.Base.Tick).toNat x hx ok ⟨rfl,rfl,rfl,rfl,⟨Gqi _,Gqi _⟩,Gqi _,wts_drop1 _⟩
  generalize conN (x.Now.Tick-x.Base.Tick).toNat x=z at hd ok2 k
  have hs:=(Ke ok2).sm
  have h1:=world_wt (Kf ok2).1.2.1
  rw[k.lv] at h1
  have h2:=world_ge x.Base
  have h3:wts z.Saves≤wts (z.Saves.drop 1)+1048576:=by
   cases he:z.Saves with
   |nil=>simp[wts]
   |cons s r =>
    have:=hd.dl s (by rw[he]; simp)
    have e:Enc.wt s=s.Delta.size:=rfl
    simp only[List.drop_succ_cons,List.drop_zero,wts,e]
    omega
  have h4:=k.us
  have h5:=k.sv
  rw[wt_Peer,wt_Peer,k.tr,k.nw,k.fa,wts_int z.Sums]
  omega
 ·omega
theorem pre_wt {x:TMatch} {i:Nat} {p:TPeer} {pc:List TPace} (hp:PeerD p):Enc.wt (preP x i p pc)≤Enc.wt p+1049200:=by
 rw[preP]
 split
 ·omega
 ·have h1:=adv_wt (pressM_d (x:=x) (i:=i) hp)
  have h2:Enc.wt (pressM x i p)≤Enc.wt p+401:=by
   rw[pressM]
   split
   ·exact press_wt
   ·omega
  omega
theorem playV_in {x:TMatch} {i:Int} (g:Enc.gd x) (hw:Enc.wt x≤1048576):Enc.gd (playV x i)∧Enc.wt (playV x i)≤8388608:=by
 rw[playV]
 split
 ·rename_i hb
  rw[Gqh] at hb
  obtain⟨hm,hb⟩:=hb
  have hi:=plB_iff.1 hb
  obtain⟨p,pc,hA⟩:=play_at hm (i:=i.toNat) Aqa 
  rw[playS_is hA]
  have hmi:MatchIn x:=⟨g,hw⟩
  have gp:Enc.gd p:=g.2.2.2.2.1.2 p (Gqn hA.hp)
  have wp:=(Zo hmi.le.P).2 p (Gqn hA.hp)
  have hd:=peer_d gp wp
  have hq:=pre_d (x:=x) (i:=i.toNat) (pc:=pc) hd
  have w1:=pre_wt (x:=x) (i:=i.toNat) (pc:=pc) hd
  have w2:=conf_wt hq
  have hz:=conf_d hq
  generalize confP (preP x i.toNat p pc)=z at w2 hz
  refine⟨⟨g.1,g.2.1,g.2.2.1,g.2.2.2.1,gd_set g.2.2.2.2.1 hz.inn.gd _,g.2.2.2.2.2⟩,?_⟩
  have w3:=wt_set (y:=z) x.Peers i.toNat
  have hx:Enc.wt x=Enc.wt x.Level+Enc.wt x.Scripts+Enc.wt x.Peers+Enc.wt x.Wires+Enc.wt x.Paces+Enc.wt x.Acks+Enc.wt x.Watchers+Enc.wt x.Lines+Enc.wt x.Alarms:=rfl
  show Enc.wt x.Level+Enc.wt x.Scripts+Enc.wt (x.Peers.set i.toNat z)+Enc.wt x.Wires+Enc.wt x.Paces+Enc.wt x.Acks+Enc.wt x.Watchers+Enc.wt x.Lines+Enc.wt x.Alarms≤_
  omega
 ·grind
end
end Go.Proofs.YtalaljeokcpfnaaGreat
