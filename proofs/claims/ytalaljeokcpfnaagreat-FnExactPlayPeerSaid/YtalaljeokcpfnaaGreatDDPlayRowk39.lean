/-
  Rules, data and contracts of functions: part 40 of the proof.
  Conditions: those that each theorem names.
-/
import Derived.Test.YtalaljeokcpfnaaGreatDDPlayRowk38
set_option linter.unusedSimpArgs false
set_option linter.unusedVariables false
set_option maxRecDepth 8000
set_option maxHeartbeats 8000000
namespace Go.Proofs.YtalaljeokcpfnaaGreat
section
open Go.RowKit

noncomputable def pressM (x:TMatch) (i:Nat) (p:TPeer):TPeer:=if (lenAt p.Tracks i:Int)=p.Now.Tick+x.Delay then pressV p (trueIn x i (p.Now.Tick+x.Delay)) else p
noncomputable def preP (x:TMatch) (i:Nat) (p:TPeer) (pc:List TPace):TPeer:=if waitB pc p.Now.Tick x.Clock=true then p else advV (pressM x i p)
noncomputable def playS (x:TMatch) (i:Nat):TMatch:={ x with Peers:=x.Peers.set i (confP (preP x i (x.Peers.getD i zPr) (x.Paces.getD i []))) }
def plB (x:TMatch) (i:Int):Bool:=decide (0≤i)&&decide (i<x.Peers.length)
noncomputable def playV (x:TMatch) (i:Int):TMatch:=if (matchOk x&&plB x i)=true then playS x i.toNat else x
theorem plB_iff {x:TMatch} {i:Int}:plB x i=true↔0≤i∧i<x.Peers.length:=by rw[plB,Gqh,decide_eq_true_eq,decide_eq_true_eq]
structure PlayAt (x:TMatch) (i:Nat) (p:TPeer) (pc:List TPace):Prop where
 hp:x.Peers[i]? = some p
 hpc:x.Paces[i]? = some pc
 ok:peerOk p=true
 me:p.Me=i
 ml:i<p.Tracks.length
 dl:0≤x.Delay∧x.Delay≤5
theorem play_at {x:TMatch} (hm:matchOk x=true) {i:Nat} (hi:i<x.Peers.length):∃ p pc,PlayAt x i p pc:=by
 have hM:MatchP x:=dS hm
 obtain⟨⟨_,_,hD,_⟩,⟨s1,s2⟩,_,⟨hP1,hP2⟩,⟨⟨l1,l2,l3⟩,hr⟩,_⟩:=hM
 have e1:=Gqg hi
 have e3:=Gqg (show i<x.Paces.length by omega)
 have hp:=hP2 i _ e1
 rw[peerIn] at hp
 simp only[Gqh,decide_eq_true_eq] at hp
 obtain⟨⟨⟨ok,me⟩,ml⟩,_⟩:=hp
 exact⟨_,_,e1,e3,ok,me,Aqa,Zm.1 hD⟩
theorem playS_is {x:TMatch} {i:Nat} {p:TPeer} {pc:List TPace} (h:PlayAt x i p pc):playS x i={ x with Peers:=x.Peers.set i (confP (preP x i p pc)) }:=by rw[playS,getD_is h.hp,getD_is h.hpc]
theorem true_in {x:TMatch} (g:Enc.gd x) (p t:Int):I64 (trueIn x p t):=by
 rw[trueIn]
 split
 ·rename_i h
  have g1:=(g.2.2.2.1).2 _ (Gqe (show p.toNat<x.Scripts.length by omega))
  generalize x.Scripts[p.toNat]=xs at g1
  rw[scriptIn]
  split
  ·split
   ·exact⟨Aqc,Aqc⟩
   ·rw[Gqf]
    cases he:xs[((t-x.Delay)%(xs.length:Int)).toNat]? with
    |none=>exact⟨Aqc,Aqc⟩
    |some v=>exact g1.2 v (Gqn he)
  ·exact⟨Aqc,Aqc⟩
 ·exact⟨Aqc,Aqc⟩
theorem conW_is {x:TPeer} {w:TWorld} (h:conW x=some w):(ConC x∧firstWrong x≠x.Base.Tick)∧nextC x=some w:=by
 by_cases hc:ConC x∧firstWrong x≠x.Base.Tick
 ·exact⟨hc,by rw[←conW_yes hc.1 hc.2]; exact h⟩
 ·rw[conW_no hc] at h; cases h
theorem conN_d:∀ (m:Nat) (x:TPeer),PeerD x→peerOk x=true→PeerD (conN m x)∧peerOk (conN m x)=true
 |0,x,hx,ok=>⟨hx,ok⟩
 | m+1,x,hx,ok=>by
  cases h:conW x with
  |none=>rw[conN_stop h]; exact⟨hx,ok⟩
  |some w =>
   obtain⟨h1,h2⟩:=conW_is h
   obtain⟨h3,h4⟩:=con_ok hx ok h1.1 h2
   rw[conN_next h]
   exact conN_d m _ h4 h3
theorem conf_d {x:TPeer} (hx:PeerD x):PeerD (confP x):=by
 rw[confP]
 split
 ·rename_i ok; exact (conN_d _ x hx ok).1
 ·exact hx
theorem pressM_d {x:TMatch} {i:Nat} {p:TPeer} (hx:PeerD p):PeerD (pressM x i p):=by
 rw[pressM]
 split
 ·exact press_d hx
 ·exact hx
theorem pre_d {x:TMatch} {i:Nat} {p:TPeer} {pc:List TPace} (hx:PeerD p):PeerD (preP x i p pc):=by
 rw[preP]
 split
 ·exact hx
 ·exact adv_d (pressM_d hx)
end
section
open Tryz
open Go.RowKit

@[reducible] def wC (w:TWorld) (n:Nat):List V1 := [.ref n,jn w.Tick,jn w.Seed,.ref (n+1),.ref (n+2)]
@[reducible] def wZ:List V1 := [nv,jn 0,jn 0,nv,nv]
theorem delt_at {x:TPeer} {k:Nat} (h:k<x.Saves.length):(delts x)[k]? = some x.Saves[k].Delta:=by rw[delts,Gqk,Gqg h]; rfl
theorem I_SaveAt (x:TPeer) (t:Int) (hx:PeerD x) (ht:I64 t):Co 164 [] [ag x,ai t] (wR (rwW (saveAt x t)) []) (.tu [.ag (wC (rwW (saveAt x t)) 0),.c (bv (rwB (saveAt x t)))]):=by
 have c1:=I_PeerOk x hx.inn.gd
 have hls:=Y7 x.Saves
 have hlt:=Y7 x.Tracks
 obtain⟨ht1,ht2⟩:=ht
 cases ok:peerOk x with
 |false =>
  rw[ok] at c1
  rw[V4 fun h=>by rw[ok] at h; cases h.1]
  refine Con.o func164 ntmps164 fun E=>?_;refine Wz [59,16,7] ?_;refine kc0 c1 ?_;refine Wz [6,55,80,46,55,182,80,83,3,137,47,76] ?_
  exact Bz3
 |true =>
 rw[ok] at c1
 have hs:=Ke ok
 obtain⟨b0,b4⟩:=hs.bt
 have hsv:=hs.sv
 by_cases h1:t<x.Base.Tick
 ·have f1:decide (t<x.Base.Tick)=true:=Gqb h1
  rw[V4 fun h=>by have:=h.2.1; omega]
  refine Con.o func164 ntmps164 fun E=>?_;refine Wz [59,16,7] ?_;refine kc0 c1 ?_;refine Wz [6,14,193,112,19,5,55,182,80,83,3,137,47,76] ?_
  exact Bz3
 have f1:decide (t<x.Base.Tick)=false:=Gqa h1
 by_cases h2:(x.Saves.length:Int)≤t-x.Base.Tick
 ·have f2:decide (((els x.Saves).length:Int)≤t-x.Base.Tick)=true:=Gqb Aqa 
  rw[V4 fun h=>by have:=h.2.2; omega]
  refine Con.o func164 ntmps164 fun E=>?_;refine Wz [59,16,7] ?_;refine kc0 c1 ?_;refine Wz [6,14,193,112,19,5,14,193,112,29,2,112,25,2,169,5,32,3,137,47,76] ?_
  exact Bz3
 have f2:decide (((els x.Saves).length:Int)≤t-x.Base.Tick)=false:=Gqa Aqa 
 rw[saveAt_yes ⟨ok,Aqa,Aqa⟩]
 obtain⟨n,hn⟩:∃ n:Nat,t=x.Base.Tick+n:=⟨(t-x.Base.Tick).toNat,Aqa⟩
 have hnt:(t-x.Base.Tick).toNat=n:=Aqa
 rw[hnt]
 have hnl:n<x.Saves.length:=Aqa
 have gB:=hx.inn.gd.2.2.2.2.2.1
 have c2:=Xw x.Base gB
 have hbl:=Yz x.Base
 obtain⟨s0,hs0⟩:∃ s0,s0=worldBytes x.Base:=⟨_,rfl⟩
 rw[←hs0] at c2 hbl
 have htl:((els x.Saves).take (t-x.Base.Tick+1).toNat).length=n+1:=Bxp
 refine Con.o func164 ntmps164 fun E=>?_;refine Wz [59,16,7] ?_;refine kc0 c1 ?_;refine Wz [6,14,193,112,19,5,14,193,112,29,2,112,25,2,169,5,28,56] ?_;refine kc0 c2 ?_;refine Wz [16,65,79,31,29,13] ?_;refine zx (q_part0 J J J J J Aqa) J ?_;refine Wz [25,138,34] ?_;refine Xj (fun m st=>∃ (i:Nat) (s:ByteArray),i+m=(n+1)∧(keyText s0 (delts x) i=some s)∧st=(⟨91,[(1,I t),(2,Aqf 0),(4,Aqf 1),(6,S s),(46,.o (.c (.rd [] (.sl 2 ((els x.Saves).take (t-x.Base.Tick+1).toNat))))),(47,I (n+1:Nat)),(48,I i)],[.box (pD x),.box wZ]⟩:St)) ((n+1)) ⟨(fun (i:Nat) (s:ByteArray)=>(⟨91,[(1,I t),(2,Aqf 0),(4,Aqf 1),(6,S s),(46,.o (.c (.rd [] (.sl 2 ((els x.Saves).take (t-x.Base.Tick+1).toNat))))),(47,I (n+1:Nat)),(48,I i)],[.box (pD x),.box wZ]⟩:St)) 0 (s0),⟨0,s0,Aqa,J,J⟩,Yk [0,1] Aqc J Aqb (.c J (.c J (.c J (.c J (.c J (.cons (X0 (by rw[htl])) (.c J (.nil))))))))⟩ ?_
 rintro m_A _ ⟨i,s,hk_A,hp_A,rfl⟩
 have htz:=keyText_len hbl hp_A
 refine Wz [3,58,4] ?_
 refine Xb J (fun h3=>?_) (fun h3=>?_)
 ·have h3:i<n+1:=by have:=Gqc h3; omega
  have hil:i<x.Saves.length:=Aqa
  have hki:=delt_at hil
  have hat:((els x.Saves).take (t-x.Base.Tick+1).toNat)[(i:Int).toNat]? = some (Enc.e x.Saves[i]):=by
   rw[Gxh,if_pos Aqa]
   exact Y4 hil
  have hdz:=hx.dl _ (Gqe hil)
  generalize x.Saves[i]=sv at hki hat hdz
  have c3:=I_ApplyDelta s sv.Delta Aqa Aqa 
  have hst:=keyText_step hp_A hki
  cases hd:applyD s sv.Delta with
  |none =>
   rw[hd] at c3 hst
   rw[saveW_none1 (by rw[←hs0]; exact keyText_none hst Aqa)]
   refine Wz [9,3,78,91,11,31] ?_;refine kc1 c3 ?_;refine Wz [120,26,72,32,3,137,47,155,93,161,89] ?_
   exact Bzp
  |some s' =>
   rw[hd] at c3 hst
   refine Wz [9,3,78,91,11,31] ?_;refine kc1 c3 ?_;refine Wz [120,26,72,28,27,26,53,104] ?_
   exact⟨(n+1)-(i+1),Aqa,_,⟨i+1,s',Aqa,hst,J⟩,Yj [0,1] Aqb⟩
 have h3:i=n+1:=by have:=Gqd h3; omega
 subst h3
 have c4:=I_ReadWorld x.Base.Level s gB.1 hx.inn.bw.1 Aqa 
 rw[hs0] at hp_A
 cases hw:readWorld x.Base.Level s with
 |none =>
  rw[hw] at c4
  rw[saveW_none2 hp_A hw]
  refine Wz [30,3,79,154,0] ?_;refine kc1 c4 ?_;refine Wz [120,82,47,72,55,46,55,87,80,83,3,137,47,76] ?_
  exact Bzv
 | some w =>
  rw[hw] at c4
  have hlw:=Y7 w.Scores
  by_cases k1:w.Tick=x.Base.Tick+n
  ·have e1:decide (w.Tick≠t)=false:=Gqa Aqa 
   by_cases k2:w.Scores.length=x.Tracks.length
   ·have e2:decide (((els w.Scores).length:Int)≠((els x.Tracks).length:Int))=false:=Gqa Aqa 
    rw[saveW_yes hp_A hw ⟨k1,k2⟩]
    refine Wz [30,3,79,154,0] ?_;refine kc1 c4 ?_;refine Wz [120,82,47,72,71,21,22,5,71,33,2,112,25,2,22,5,28,7,47,36] ?_
    exact Bz8
   ·have e2:decide (((els w.Scores).length:Int)≠((els x.Tracks).length:Int))=true:=Gqb Aqa 
    rw[saveW_no hp_A hw (fun q=>k2 q.2)]
    refine Wz [30,3,79,154,0] ?_;refine kc1 c4 ?_;refine Wz [120,82,47,72,71,21,22,5,71,33,2,112,25,2,22,5,32,3,137,47,76] ?_
    exact Bzv
  ·have e1:decide (w.Tick≠t)=true:=Gqb Aqa 
   rw[saveW_no hp_A hw (fun q=>k1 q.1)]
   refine Wz [30,3,79,154,0] ?_;refine kc1 c4 ?_;refine Wz [120,82,47,72,71,21,22,5,55,87,80,83,3,137,47,76] ?_
   exact Bzv
theorem S_l04Bytes (x:TPeer) (n:Nat) (hx:PeerD x) (hn:n<x.Saves.length) (hn8:n≤8):Co 190 [] [ag x,ai n] [] (otR (keyText (worldBytes x.Base) (delts x) (n+1))):=by
 have gB:=hx.inn.gd.2.2.2.2.2.1
 have c2:=Ye x.Base gB
 have hbl:=Yz x.Base
 have hls:=Y7 x.Saves
 obtain⟨s0,hs0⟩:∃ s0,s0=worldBytes x.Base:=⟨_,rfl⟩
 rw[←hs0] at c2 hbl ⊢
 refine Con.o func190 ntmps190 fun E=>?_;refine Wz [43,26,8,56] ?_;refine kc0 c2 ?_;refine Wz [16,51] ?_;refine Xj (fun m st=>∃ (i:Nat) (s:ByteArray),i+m=(n+1)∧(keyText s0 (delts x) i=some s)∧st=(⟨33,[(1,I n),(2,Aqf 0),(6,S s),(7,I i)],[.box (pD x)]⟩:St)) ((n+1)) ⟨_,⟨0,s0,Aqa,J,J⟩,Yj [0] Aqb⟩ ?_
 rintro m_A _ ⟨i,s,hk_A,hp_A,rfl⟩
 have htz:=keyText_len hbl hp_A
 refine Wz [15,237,1] ?_
 refine Xb J (fun h3=>?_) (fun h3=>?_)
 ·have h3:i<n+1:=by have:=Gqc h3; omega
  have hil:i<x.Saves.length:=Aqa
  have hki:=delt_at hil
  have hat:=Y4 hil
  have hdz:=hx.dl _ (Gqe hil)
  generalize x.Saves[i]=sv at hki hat hdz
  have c3:=S_ApplyDelta s sv.Delta Aqa Aqa 
  have hst:=keyText_step hp_A hki
  cases hd:applyD s sv.Delta with
  |none =>
   rw[hd] at c3 hst
   rw[keyText_none hst Aqa]
   refine Wz [9,11,68,63,209] ?_;refine kc1 c3 ?_;refine Wz [120,26,72,32,3,26,155,93,161,89] ?_
   exact Bzj
  |some s' =>
   rw[hd] at c3 hst
   refine Wz [9,11,68,63,209] ?_;refine kc1 c3 ?_;refine Wz [120,26,72,28,27,110] ?_
   exact⟨(n+1)-(i+1),Aqa,_,⟨i+1,s',Aqa,hst,J⟩,Yj [0] Aqb⟩
 have h3:i=n+1:=by have:=Gqd h3; omega
 subst h3
 rw[hp_A]
 refine Wz [223,26,36] ?_
 exact Bzj
theorem S_SaveAt (x:TPeer) (t:Int) (hx:PeerD x) (ht:I64 t):Co 140 [] [ag x,ai t] (wR (rwW (saveAt x t)) []) (.tu [.ag (wC (rwW (saveAt x t)) 0),.c (bv (rwB (saveAt x t)))]):=by
 have c1:=S_PeerOk x hx.inn.gd
 have hls:=Y7 x.Saves
 have hlt:=Y7 x.Tracks
 obtain⟨ht1,ht2⟩:=ht
 cases ok:peerOk x with
 |false =>
  rw[ok] at c1
  rw[V4 fun h=>by rw[ok] at h; cases h.1]
  refine Con.o func140 ntmps140 fun E=>?_;refine Wz [59,16,7] ?_;refine kc0 c1 ?_;refine Wz [6,55,182,87,83,3,137,47,76] ?_
  exact Bz3
 |true =>
 rw[ok] at c1
 have hs:=Ke ok
 obtain⟨b0,b4⟩:=hs.bt
 obtain⟨n0,n4⟩:=hs.nt
 have hsv:=hs.sv
 have hlead:=(Kf ok).2.2.2.2.1.2.2
 have cI:=Yg t x.Base.Tick (x.Now.Tick-1)
 by_cases h1:x.Base.Tick≤t∧t<x.Base.Tick+x.Saves.length
 case neg =>
  rw[show inR t x.Base.Tick (x.Now.Tick-1)=false by rw[←Gxu,Zm]; omega] at cI
  rw[V4 fun h=>h1 h.2]
  refine Con.o func140 ntmps140 fun E=>?_;refine Wz [59,16,7] ?_;refine kc0 c1 ?_;refine Wz [6,14,193,112,193,112,29,2] ?_;refine kc0 cI ?_;refine Wz [2,6,5,32,3,137,47,76] ?_
  exact Bz3
 rw[Zm.2 Aqa] at cI
 rw[saveAt_yes ⟨ok,h1⟩]
 obtain⟨n,hn⟩:∃ n:Nat,t=x.Base.Tick+n:=⟨(t-x.Base.Tick).toNat,Aqa⟩
 have hnt:(t-x.Base.Tick).toNat=n:=Aqa
 rw[hnt]
 have gB:=hx.inn.gd.2.2.2.2.2.1
 have c2:=S_l04Bytes x n hx Aqa Aqa 
 rw[show ((n:Nat):Int)=t-x.Base.Tick by omega] at c2
 have hbl:=Yz x.Base
 cases hk:keyText (worldBytes x.Base) (delts x) (n+1) with
 |none =>
  rw[hk] at c2
  rw[saveW_none1 hk]
  have c4:=S_ReadWorld x.Base.Level ⟨#[]⟩ gB.1 hx.inn.bw.1 Aqc 
  generalize rwW (readWorld x.Base.Level ⟨#[]⟩)=w at c4
  generalize rwB (readWorld x.Base.Level ⟨#[]⟩)=b at c4
  refine Con.o func140 ntmps140 fun E=>?_;refine Wz [59,16,7] ?_;refine kc0 c1 ?_;refine Wz [6,14,193,112,193,112,29,2] ?_;refine kc0 cI ?_;refine Wz [2,6,5,28,7,0,79,31,29] ?_;refine kc1 c2 ?_;refine Wz [120,26,8,3,79,154,0] ?_;refine kc1 c4 ?_;refine Wz [120,82,47,72,0,87,46,55,46,55,87,80,83,3,137,47,76] ?_
  exact Bzv
 | some s =>
  rw[hk] at c2
  have htz:=keyText_len hbl hk
  have c4:=S_ReadWorld x.Base.Level s gB.1 hx.inn.bw.1 Aqa 
  cases hw:readWorld x.Base.Level s with
  |none =>
   rw[hw] at c4
   rw[saveW_none2 hk hw]
   refine Con.o func140 ntmps140 fun E=>?_;refine Wz [59,16,7] ?_;refine kc0 c1 ?_;refine Wz [6,14,193,112,193,112,29,2] ?_;refine kc0 cI ?_;refine Wz [2,6,5,28,7,0,79,31,29] ?_;refine kc1 c2 ?_;refine Wz [120,26,8,3,79,154,0] ?_;refine kc1 c4 ?_;refine Wz [120,82,47,72,14,6,5,55,46,55,87,80,83,3,137,47,76] ?_
   exact Bzv
  | some w =>
   rw[hw] at c4
   have hlw:=Y7 w.Scores
   by_cases k1:w.Tick=x.Base.Tick+n
   ·have e1:decide (w.Tick≠t)=false:=Gqa Aqa 
    by_cases k2:w.Scores.length=x.Tracks.length
    ·have e2:decide (((els w.Scores).length:Int)≠((els x.Tracks).length:Int))=false:=Gqa Aqa 
     rw[saveW_yes hk hw ⟨k1,k2⟩]
     refine Con.o func140 ntmps140 fun E=>?_;refine Wz [59,16,7] ?_;refine kc0 c1 ?_;refine Wz [6,14,193,112,193,112,29,2] ?_;refine kc0 cI ?_;refine Wz [2,6,5,28,7,0,79,31,29] ?_;refine kc1 c2 ?_;refine Wz [120,26,8,3,79,154,0] ?_;refine kc1 c4 ?_;refine Wz [120,82,47,72,14,6,5,71,21,22,5,71,33,2,112,25,2,22,5,28,7,47,36] ?_
     exact Bz8
    ·have e2:decide (((els w.Scores).length:Int)≠((els x.Tracks).length:Int))=true:=Gqb Aqa 
     rw[saveW_no hk hw (fun q=>k2 q.2)]
     refine Con.o func140 ntmps140 fun E=>?_;refine Wz [59,16,7] ?_;refine kc0 c1 ?_;refine Wz [6,14,193,112,193,112,29,2] ?_;refine kc0 cI ?_;refine Wz [2,6,5,28,7,0,79,31,29] ?_;refine kc1 c2 ?_;refine Wz [120,26,8,3,79,154,0] ?_;refine kc1 c4 ?_;refine Wz [120,82,47,72,14,6,5,71,21,22,5,71,33,2,112,25,2,22,5,32,3,137,47,76] ?_
     exact Bzv
   ·have e1:decide (w.Tick≠t)=true:=Gqb Aqa 
    rw[saveW_no hk hw (fun q=>k1 q.1)]
    refine Con.o func140 ntmps140 fun E=>?_;refine Wz [59,16,7] ?_;refine kc0 c1 ?_;refine Wz [6,14,193,112,193,112,29,2] ?_;refine kc0 cI ?_;refine Wz [2,6,5,28,7,0,79,31,29] ?_;refine kc1 c2 ?_;refine Wz [120,26,8,3,79,154,0] ?_;refine kc1 c4 ?_;refine Wz [120,82,47,72,14,6,5,71,21,22,5,55,87,80,83,3,137,47,76] ?_
    exact Bzv
end
section
open Go.RowKit

theorem OW.drop {w:World} {k:Nat} {es:List (List T)} {v:Value} {fp:List Nat} (h:OW w (.sl k es) v fp) (hnd:fp.Nodup) {n:Nat} (hn:n≤es.length):∃ A c fp',v = .slice A es.length c∧es.length≤c∧OW w (.sl k (es.drop n)) (.slice (if c=n then A else A.map (·.add (n*k))) (es.length-n) (c-n)) fp'∧(∀ b∈fp',b∈fp)∧fp'.Nodup:=by
 cases h with
 |nil =>
  have:n=0:=by simpa using hn
  subst this
  exact⟨none,0,[],J,Gqi _,by simpa using OW.nil (w:=w) k,Aqd,Aqd⟩
 | sl _ b o _ c tid cur fz val fps hg hz hc hm hs hp hk hf hfk hv ht =>
  obtain⟨o',ho'⟩:∃ o',o'=if c=n then o else o+n*k:=⟨_,rfl⟩
  have hA:(if c=n then some (⟨b,o,none⟩:Addr) else (some (⟨b,o,none⟩:Addr)).map (·.add (n*k)))=some ⟨b,o',none⟩:=by
   rw[ho']
   split
   ·rfl
   ·simp[Addr.add]
  have hl:(es.drop n).length=es.length-n:=Aqd
  have hmul:n*k+(c-n)*k=c*k:=by rw[←Nat.add_mul]; congr 1; omega
  have hs':o'+(c-n)*k≤cur.size:=by
   rw[ho']
   split
   ·rename_i e; rw[e,Gx8]; omega
   ·omega
  have hfl:fps.flatten.flatten=(fps.take n).flatten.flatten++(fps.drop n).flatten.flatten:=by
   rw[←Gqt,←Gqt,Gxq]
  refine⟨some ⟨b,o,none⟩,c,b::(fps.drop n).flatten.flatten,J,hc,?_,fun x hx=>?_,?_⟩
  ·rw[hA]
   have h1:=OW.sl (w:=w) (es.drop n) b o' k (c-n) tid cur fz (fun i j=>val (n+i) j) (fps.drop n) hg hz Aqa Aqa  hs' hp (fun e he=>hk e (Gxj he)) (by simp[hf]) (fun f hf'=>hfk f (Gxj hf'))
    (fun i j hi hj=>by
     have h2:=hv (n+i) j Aqa hj
     rw[Nat.add_mul,←Gxx] at h2
     rw[ho',if_neg Aqa]
     exact h2) (fun i j e t fs f g1 g2 g3 g4=>by
     rw[Gq7] at g1 g3
     exact ht (n+i) j e t fs f g1 g2 g3 g4)
   rw[hl] at h1
   exact h1
  ·rcases List.mem_cons.1 hx with rfl | hx
   ·simp
   ·exact Gxc _ (by rw[hfl]; exact List.mem_append_right _ hx)
  ·grind
section
variable {P:Program} {E:Env} {ops:Array Oper} {o:Oper} {st:St} {rest:List Oper} {QQ:Exit→St→Prop} {t:TypeId} {y u z:Operand} {rs:List Nat} {j:Int}
theorem L_tail {p kk:Nat} {es:List (List T)} {e:TypeId} {zs:List Value} {by_:Nat} [hm:TyMake P t e zs by_] (ho:o.op = .slice t y (some u) none none) (hg:o.guard=none) (hy:st.ev y = .o (.c (.ref p))) (hp:st.objs[p]? = some (.row kk es)) (hu:st.ev u = .o (.c (.rd rs (.v (.int .i64 j))))) (hkz:kk=zs.length) (h0:0≤j∧j≤es.length)
  (hd:dstOk st.n o.dst=true) (h:AL P E ops QQ rest ⟨st.n,setT (st.tmps.map fun e=>(e.1,e.2.kill [p])) o.dst (.o (.c (.ref p))),(st.objs.map (Ob.kill [p])).set p (.row kk (es.drop j.toNat))⟩):AL P E ops QQ (o::rest) st:=by
 refine⟨fun a w ⟨H,F,h1,h2⟩ => ?_⟩
 obtain⟨v,fp,e1,e2⟩:=h1.ow hp
 obtain⟨x',fp',e3⟩:=h1.v1 hy
 rw[e1] at e3
 simp only[Pc.ow.injEq] at e3
 obtain⟨_,hv,_⟩:=e3
 have hnd:=h1.ok.nodup p
 rw[e1] at hnd
 obtain⟨A,c,fp'',hvA,hc,h3,h5,h4⟩:=e2.drop hnd (n:=j.toNat) Aqa 
 have hrun:=run_slice (P:=P) (w:=w) (t:=t) (e:=e) (zs:=zs) (by_:=by_) (A:=A) (m:=es.length) (c:=c) (some j) none j.toNat es.length ⟨h0.1,rfl⟩ rfl Aqa hc
 rw[←hkz] at hrun
 have hex:(execOp a.eval o).run P w = .ok (.value (.slice (if c=j.toNat then A else A.map (·.add (j.toNat*kk))) (es.length-j.toNat) (c-j.toNat))) w:=by
  have hu1:=h1.plain hu
  have hvy:a.eval y = .slice A es.length c:=by rw[←hv,hvA]
  unfold execOp
  simp_all
 have hkeep:Keeps w w fp:=⟨rfl,rfl,rfl,Gqi _,fun _ _ _=>rfl⟩
 obtain⟨hok,htn⟩:=h1.ok.turn (p:=p) (fp:=fp) Bxe hkeep (.ow (.sl kk (es.drop j.toNat)) _ fp'') h3 h4 trivial (fun b hb => .inl (h5 b hb))
 obtain⟨hplt,_⟩:=Gqo.1 hp
 have hR:=h1.turn htn hok ((st.objs.map (Ob.kill [p])).set p (.row kk (es.drop j.toNat))) (fun q hq=>?_) (fun q hq=>?_)
 ·have hR2:=hR.put (x := .o (.c (.ref p))) o.dst hd (v := .slice (if c=j.toNat then A else A.map (·.add (j.toNat*kk))) (es.length-j.toNat) (c-j.toNat)) ⟨_,_,Hs.put_self _ _ _⟩
  refine wpList_step fun K hK=>?_
  rw[if_pos Bq6]
  unfold Oper.wp
  rw[hex]
  exact Bz0
 ·have hqp:q≠p:=Bxd
  rw[Gqf,Gxa (Ne.symm hqp),Gqk,Gqf]
  cases st.objs[q]? <;> rfl
 ·have hqp:q=p:=Bxd
  subst hqp
  rw[Zi (x := .row kk (es.drop j.toNat)) (by simp[hplt])]
  exact Bzs
theorem M_tail {n d:Nat} {ts:List (Nat×V)} {obs:List Ob} {p kk:Nat} {es:List (List T)} {e:TypeId} {zs:List Value} {by_:Nat} [hm:TyMake P t e zs by_] (ho:o.op = .slice t y (some u) none none) (hg:o.guard=none) (hy:St.ev ⟨n,ts,obs⟩ y = .o (.c (.ref p))) (hp:obs[p]? = some (.row kk es)) (hu:St.ev ⟨n,ts,obs⟩ u = .o (.c (.rd rs (.v (.int .i64 j))))) (hkz:kk=zs.length) (hd:o.dst=some d) (hl:Nat.blt d n=true) (h0:0≤j∧j≤es.length)
  (h:AL P E ops QQ rest ⟨n,(d,.o (.c (.ref p)))::(ts.map fun e=>(e.1,e.2.kill [p])),(obs.map (Ob.kill [p])).set p (.row kk (es.drop j.toNat))⟩):AL P E ops QQ (o::rest) ⟨n,ts,obs⟩ :=
 L_tail (st:=⟨n,ts,obs⟩) ho hg hy hp hu hkz h0 Bq8 Bq9
end
section
variable {P:Program} {E:Env} {ops:Array Oper} {o:Oper} {st:St} {rest:List Oper} {QQ:Exit→St→Prop} {t:TypeId} {y z:Operand}
theorem L_appol {p q kk c N:Nat} {es:List (List T)} {ds:List V1} {e:TypeId} {zs:List Value} {by_:Nat} [hm:TyMake P t e zs by_] (ho:o.op = .call { callee := .builtin .append,args:=#[y,z],argTypes:=#[t,t] }) (hg:o.guard=none) (hy:st.ev y = .o (.c (.ref p))) (hp:st.objs[p]? = some (.row kk es)) (hz:st.ev z = .o (.c (.sb q 1 kk))) (hq:st.objs[q]? = some (.box ds))
  (hds:ds = [.ref N]) (hc:look st.tmps c = .o (.c (.ref N))) (hkz:kk=zs.length) (hz0:zs ≠ []) (hok:ds.all (tkOk st.objs)=true) (hnd:(p::ds.flatMap tkR).Nodup) (hb:(es.length+1)*by_≤140737488355328) (h63:es.length+1≤9223372036854775807) (hd:dstOk st.n o.dst=true)
  (h:AL P E ops QQ rest ⟨st.n,setT ((c,.o (.c (.le p kk es.length 0)))::(st.tmps.map fun e=>(e.1,e.2.kill (p::ds.flatMap tkR)))) o.dst (.o (.c (.ref p))),gone ((st.objs.map (Ob.kill (p::ds.flatMap tkR))).set p (.row kk (es ++ [ds.map (tkT st.objs)]))) (ds.flatMap tkR)⟩):AL P E ops QQ (o::rest) st:=by
 refine⟨fun a w ⟨H,F,h1,h2⟩ => ?_⟩
 obtain⟨v,fp,e1,e2⟩:=h1.ow hp
 obtain⟨x',fp',e3⟩:=h1.v1 hy
 rw[e1] at e3
 simp only[Pc.ow.injEq] at e3
 obtain⟨_,hv,_⟩:=e3
 have hndp:=h1.ok.nodup p
 rw[e1] at hndp
 obtain⟨hpn,hndr⟩:=Gxi.1 hnd
 obtain⟨g,tt,vs,b1,b2,b3,b4⟩:=h1.v1 hz
 obtain⟨g',tt',vs',b5,b6,b7,b8⟩:=h1.bx hq
 rw[b1] at b5
 simp only[Pc.box.injEq] at b5
 obtain⟨rfl,rfl,rfl⟩:=b5
 have hdk:ds.length=kk:=by rw[←b7,b2]; omega
 obtain⟨fs,f1,f2,f3,f4⟩:=take_ok h1 ds vs b7 (fun i x u h3 h4=>(b8 i x u h3 h4).1) hok hndr
 have hsrc:Src P kk t (.slice (some ⟨g,0,none⟩) [ds.map (tkT st.objs)].length 1) [ds.map (tkT st.objs)].length (flatV (fun _ j=>vs.getD j undef) [ds.map (tkT st.objs)].length kk) w :=
  src_slice (zs:=zs) (e:=e) [ds.map (tkT st.objs)] _ _ 1 (fun _=>⟨g,0,rfl,fun i j hi hj=>by
   have hi0:i=0:=Bxi
   subst hi0
   have hjv:j<vs.length:=Aqa
   rw[cell_of_row w g _ vs.toArray tt (0,0) b6]
   simp[Gqf,hjv]⟩) fun i j hi hj=>by
   have hjv:j<vs.length:=Aqa
   rw[Zi (Gqg hjv)]
   exact (b8 j _ _ (Gqg Aqa) (Gqg hjv)).2
 obtain⟨v',w',fp'',hr,h3,h4,h5,h6,h7⟩:=run_append_ow (P:=P) (t:=t) (ty:=o.type) e2 hkz (Gxy.2 hz0) hndp [ds.map (tkT st.objs)] (fun _ j=>vs.getD j undef) [fs] (.slice (some ⟨g,0,none⟩) 1 1) (by simp[hdk])
  hsrc
   Aqd  (by simp[f1,hdk]) (fun i j e t' fs' f g1 g2 g3 g4=>by
   have hi0:i=0:=by have:=Zj g1; simpa using this
   subst hi0
   simp at g1 g3
   subst g1 g3
   have hjv:j<vs.length:=by rw[b7]; have:=Zj g2; simpa using this
   rw[Zi (Gqg hjv)]
   exact f2 j t' _ f g2 (Gqg hjv) g4)
  (by simpa using f3) (fun b hb hb'=>by
   obtain⟨r,r1,r2⟩:=f4 b (by simpa using hb')
   have:=h1.ok.disj p r b (by rw[e1]; exact hb) r2
   exact hpn (this▸r1)) (by simpa using hb) (by simpa[maxLen] using h63)
 obtain⟨k1,k2⟩:=h1.ok.takein (p:=p) (rs:=ds.flatMap tkR) (fp:=fp) Bxe hpn h6 (.ow (.sl kk (es ++ [ds.map (tkT st.objs)])) v' fp'') h3 h4 trivial fun b' hb'=>by
  rcases h5 b' hb' with h | h | h
  ·exact .inl h
  ·exact .inr (.inl (f4 b' (by simpa using h)))
  ·exact .inr (.inr h)
 obtain⟨hplt,_⟩:=Gqo.1 hp
 have hR:=h1.turn k2 k1 (gone ((st.objs.map (Ob.kill (p::ds.flatMap tkR))).set p (.row kk (es ++ [ds.map (tkT st.objs)]))) (ds.flatMap tkR)) (fun r hr' => ?_) (fun r hr' => ?_)
 ·have hv0:R1 w H F (.ref N) (vs.getD 0 undef):=by
   have:=b8 0 (.ref N) (vs.getD 0 undef) (by rw[hds]; rfl) (by rw[Gqf,Gqg (show 0<vs.length by rw[b7,hds]; simp)]; rfl)
   exact this.1
  have hone:(vs.getD 0 undef).oneCell'=true:=R1.one Aqd h1.ok hv0
  have htc:=h1.tmp c
  rw[hc] at htc
  have hvc:a.tmps.getD c undef=vs.getD 0 undef:=by
   obtain⟨_,_,g1⟩:=htc
   obtain⟨_,_,g2⟩:=hv0
   rw[g1] at g2
   simp only[Pc.ow.injEq] at g2
   exact g2.2.1
  have hR1:R0 w' _ F ⟨st.n,(c,.o (.c (.le p kk es.length 0)))::(st.tmps.map fun e=>(e.1,e.2.kill (p::ds.flatMap tkR))),_⟩ a:=⟨hR.ok,hR.obs,fun r=>by
   show RV _ _ _ (match Nat.beq c r with | true=>V.o (.c (.le p kk es.length 0)) | false=>look (st.tmps.map fun e=>(e.1,e.2.kill (p::ds.flatMap tkR))) r) _
   cases hr':Nat.beq c r with
   |false=>exact hR.tmp r
   |true =>
    have:=Gq8 hr'
    subst this
    obtain⟨b,o,n,cc,g1,g2,g3⟩:=h7 0 0 Aqd (by have:=Gxy.2 hz0; omega)
    rw[hvc]
    exact⟨b,o,n,cc,_,fp'',(if_pos J).trans (by rw[g1]),g2,hone,by simpa using g3⟩,hR.size,hR.defers⟩
  have hR2:=hR1.put (x := .o (.c (.ref p))) o.dst hd (v:=v') ⟨_,_,if_pos rfl⟩
  refine wpList_step fun K hK=>?_
  rw[if_pos Bq6]
  unfold Oper.wp
  rw[Zf ho (by rw[b4,←hv]; simpa using hr)]
  exact hK _ _ (h.h _ _ ⟨_,F,hR2,h2.turn k2⟩)
 ·simp only[List.mem_cons,not_or] at hr'
  rw[gone_at,if_neg hr'.2,Gqf,Gxa (Ne.symm hr'.1),Gqk,Gqf]
  cases st.objs[r]? <;> rfl
 ·rw[gone_at]
  by_cases hrr:r∈ds.flatMap tkR
  ·rw[if_pos hrr]
   have hne:r≠p:=fun e=>hpn (e▸hrr)
   show (if r=p then _ else if r∈_ then _ else _)=Pc.nil
   rw[if_neg hne,if_pos hrr]
  ·have hrp:r=p:=by
    rcases List.mem_cons.1 hr' with h | h
    ·exact h
    ·exact absurd h hrr
   subst hrp
   rw[if_neg hrr,Gqf,Gxg (by simpa using hplt)]
   exact⟨_,_,if_pos J⟩
theorem M_appol {n d:Nat} {ts:List (Nat×V)} {obs:List Ob} {p q kk:Nat} (c:Nat) {N:Nat} {es:List (List T)} {e:TypeId} {zs:List Value} {by_:Nat} {us:T} [hm:TyMake P t e zs by_] (ho:o.op = .call { callee := .builtin .append,args:=#[y,z],argTypes:=#[t,t] }) (hg:o.guard=none) (hy:St.ev ⟨n,ts,obs⟩ y = .o (.c (.ref p))) (hp:obs[p]? = some (.row kk es)) (hz:St.ev ⟨n,ts,obs⟩ z = .o (.c (.sb q 1 kk))) (hq:obs[q]? = some (.box [.ref N])) (hc:look ts c = .o (.c (.ref N)))
  (hkz:kk=zs.length) (hz0:zs.isEmpty=false) (hok:tkOk obs (.ref N)=true) (hu:tkT obs (.ref N)=us) (hnd:nodupB [p,N]=true) (hd:o.dst=some d) (hl:Nat.blt d n=true) (hb:(es.length+1)*by_≤140737488355328) (h63:es.length+1≤9223372036854775807)
  (h:AL P E ops QQ rest ⟨n,(d,.o (.c (.ref p)))::(c,.o (.c (.le p kk es.length 0)))::(ts.map fun e=>(e.1,e.2.kill [p,N])),gone ((obs.map (Ob.kill [p,N])).set p (.row kk (es ++ [[us]]))) [N]⟩):AL P E ops QQ (o::rest) ⟨n,ts,obs⟩:=by
 subst hu
 exact L_appol ho hg hy hp hz hq J hc hkz (by intro e; rw[e] at hz0; cases hz0) (by rw[List.all_cons,hok]; rfl) (Z4 hnd) hb h63 Bq8 Bq9
end
theorem Wk.tmp {st:St} (d:Nat) {x x':V} (hd:look st.tmps d=x) (himp:∀ w H F a v,R0 w H F st a→RV w H F x v→RV w H F x' v):Wk st ⟨st.n,(d,x')::st.tmps,st.objs⟩:=fun w H F a h =>
 ⟨H,⟨h.ok,h.obs,fun q=>by
  show RV w H F (match Nat.beq d q with | true=>x' | false=>look st.tmps q) _
  cases hq:Nat.beq d q with
  |false=>exact h.tmp q
  |true =>
   have:=Gq8 hq
   subst this
   exact himp w H F a _ h (hd▸h.tmp d),h.size,h.defers⟩,fun q b hb=>⟨q,hb⟩,fun q i v hv=>⟨q,hv⟩⟩
theorem Wk.lerd {st:St} {p kk i j:Nat} {es:List (List T)} {e:List T} {t:T} (d:Nat) (hd:look st.tmps d = .o (.c (.le p kk i j))) (hp:st.objs[p]? = some (.row kk es)) (he:es[i]? = some e) (ht:e[j]? = some t):Wk st ⟨st.n,(d,.o (.c (.rd [p] t)))::st.tmps,st.objs⟩ :=
 Wk.tmp d hd fun w H F a v h hv=>by
  obtain⟨v0,fp,e1,e2⟩:=h.ow hp
  obtain⟨b,o,n,c,x,fp',k1,k2,k3,k4⟩:=hv
  rw[e1] at k1
  simp only[Pc.ow.injEq] at k1
  obtain⟨rfl,rfl,rfl⟩:=k1
  obtain⟨b',o',c',q1,q2,q3,q4,q5⟩:=RO.at_ e2.ro he
  simp only[Value.slice.injEq,Option.some.injEq,Addr.mk.injEq] at q1
  obtain⟨⟨rfl,rfl,_⟩,_,_⟩:=q1
  obtain⟨u,q6,q7⟩:=q5 j t ht
  rw[k4] at q6
  simp only[Option.some.injEq] at q6
  subst q6
  exact q7.weak fun b hb _ => .inr ⟨p,Aqd,_,_,_,e1,hb⟩
end
end Go.Proofs.YtalaljeokcpfnaaGreat
