/-
  Rules, data and contracts of functions: part 19 of the proof.
  Conditions: those that each theorem names.
-/
import Derived.Test.YtfklmiijhcajdaaGreatDDTellRowk17
set_option linter.unusedSimpArgs false
set_option linter.unusedVariables false
set_option maxRecDepth 8000
set_option maxHeartbeats 8000000
namespace Go.Proofs.YtfklmiijhcajdaaGreat
section
open Go.RowKit

theorem at_nat {α:Type} [Enc α] {xs:List α} {i:Int} (h:i.toNat<xs.length):(els xs)[i.toNat]? = some (Enc.e (xs[i.toNat]'h)):=by simp[els,h]
theorem world_ticks {w:TWorld} (h:worldOk w=true):0≤w.Tick∧w.Tick≤100000:=by
 have h2:=(Kv h).2.1
 rwa[Yx] at h2
section
variable {p:TPeer}
theorem no1 (h:(((!tracksOk p.Tracks || !worldOk p.Base) || !worldOk p.Now) || !decide (p.Base.Level=p.Now.Level))=true):¬PeerP p:=fun ⟨⟨q1,q2,q3,q4⟩,_⟩=>by
 rw[q1,q2,q3,Gqb q4] at h; exact absurd h Aqc 
theorem no2 (h:((decide ((p.Base.Scores.length:Int)≠p.Tracks.length) || decide ((p.Now.Scores.length:Int)≠p.Tracks.length)) || !faultOk p.Fault p.Tracks.length)=true):¬PeerP p:=fun ⟨_,⟨q1,q2,q3⟩,_⟩=>by
 rw[q3,Gqa Aqa,Gqa Aqa] at h; exact absurd h Aqc 
theorem no3 (h:((!inR p.Me 0 ((p.Tracks.length:Int)-1) || !inR p.Delay 0 5) || !inR p.Ahead 1 8)=true):¬PeerP p:=fun ⟨_,_,⟨q1,q2,q3⟩,_⟩=>by
 rw[Yx.2 q1,Yx.2 q2,Yx.2 q3] at h; exact absurd h Aqc 
theorem no4 (h:((!inR p.Seed 0 65535 || !inR p.Rolls 0 1000000) || !inR p.Again 0 1000000)=true):¬PeerP p:=fun ⟨_,_,_,⟨q1,q2,q3⟩,_⟩=>by
 rw[Yx.2 q1,Yx.2 q2,Yx.2 q3] at h; exact absurd h Aqc 
theorem no5 (h:((!inR (p.Now.Tick-p.Base.Tick) 0 p.Ahead || decide ((p.Used.length:Int)≠p.Now.Tick-p.Base.Tick)) || decide ((p.Saves.length:Int)≠p.Now.Tick-p.Base.Tick))=true):¬PeerP p:=fun ⟨_,_,_,_,⟨q1,q2,q3⟩,_⟩=>by
 rw[Yx.2 q1,Gqa Aqa,Gqa Aqa] at h; exact absurd h Aqc 
theorem fin_eq (h1:tracksOk p.Tracks=true∧worldOk p.Base=true∧worldOk p.Now=true∧p.Base.Level=p.Now.Level)
  (h2:p.Base.Scores.length=p.Tracks.length∧p.Now.Scores.length=p.Tracks.length∧faultOk p.Fault p.Tracks.length=true)
  (h3:(0≤p.Me∧p.Me≤(p.Tracks.length:Int)-1)∧(0≤p.Delay∧p.Delay≤5)∧(1≤p.Ahead∧p.Ahead≤8))
  (h4:(0≤p.Seed∧p.Seed≤65535)∧(0≤p.Rolls∧p.Rolls≤1000000)∧(0≤p.Again∧p.Again≤1000000))
  (h5:(0≤p.Now.Tick-p.Base.Tick∧p.Now.Tick-p.Base.Tick≤p.Ahead)∧(p.Used.length:Int)=p.Now.Tick-p.Base.Tick∧(p.Saves.length:Int)=p.Now.Tick-p.Base.Tick)
  (h6:(p.Used.all fun row=>rowOk row p.Tracks.length)=true∧∀ k (h:k<p.Saves.length),p.Saves[k].Tick=p.Base.Tick+k) :
  ((decide (p.Base.Tick≤(knownTicks p.Tracks:Nat))&&decide (p.Now.Tick≤(lenAt p.Tracks p.Me.toNat:Nat)))&&decide ((p.Sums.length:Int)=p.Base.Tick+1))=peerOk p:=by
 by_cases h7:p.Base.Tick≤knownTicks p.Tracks∧p.Now.Tick≤lenAt p.Tracks p.Me.toNat∧(p.Sums.length:Int)=p.Base.Tick+1
 ·rw[peer_T ⟨h1,h2,h3,h4,h5,h6,h7⟩,Gqb h7.1,Gqb h7.2.1,Gqb h7.2.2]; rfl
 ·rw[peer_F fun ⟨_,_,_,_,_,_,h8⟩=>h7 h8]
  rw[←Gxd]
  simp only[Gqi,decide_eq_true_eq]
  exact fun ⟨⟨a,b⟩,c⟩=>h7 ⟨a,b,c⟩
end
theorem I_PeerOk (x:TPeer) (hg:Enc.gd x):Con Tryz.prog 25 [] [ag x] [] (B (peerOk x)):=by
 obtain⟨gMe,gDe,gAh,gSe,gTr,gBa,gNo,gUs,gSa,gSu,gFa,gRo,gAg⟩:=hg
 have hlt:=Yi x.Tracks
 have hlu:=Yi x.Used
 have hls:=Yi x.Saves
 have hlm:=Yi x.Sums
 have hlb:=Yi x.Base.Scores
 have hln:=Yi x.Now.Scores
 have c1:=I_TracksOk x.Tracks gTr
 have c2:=I_WorldOk x.Base gBa
 have c3:=I_WorldOk x.Now gNo
 have c4:=I_sameLevel x.Base.Level x.Now.Level gBa.1
 have c5:=I_FaultOk x.Fault (els x.Tracks).length Aqa 
 have c6:=I_KnownTicks x.Tracks gTr
 refine Con.of Tryz.func25 J Tryz.ntmps25 J (fun E => ?_)
 refine Wz [21,23,14,2,34] ?_;refine zx (Qj J J (c1) J) J ?_;refine Wz [5,168,212] ?_;refine zx (Qt.grdF J J J (.hit (.hit .stop)) (fun hgrd=>Qj J J (c2) J)) J ?_;refine Wz [104,110,168,212] ?_;refine zx (Qt.grdF J J J (.hit (.hit .stop)) (fun hgrd=>Qj J J (c3) J)) J ?_;refine Wz [104,110,168,181,280,224,281] ?_;refine zx (Qt.grdF J J J (.hit (.hit (.hit (.hit (.hit .stop))))) (fun hgrd=>Qu J J J J J J)) J ?_;refine zx (Qt.grdF J J J (.hit (.hit (.hit (.hit (.hit (.hit .stop)))))) (fun hgrd=>Qj J J (c4) J)) J ?_;refine zx (Qt.grdF J J J (.hit (.hit (.hit (.hit (.hit (.hit (.hit .stop))))))) (fun hgrd=>Q4 J J J)) J ?_;refine Wz [51] ?_
 refine Xb J (fun h1 => ?_) (fun h1 => ?_)
 ·rw[peer_F (no1 h1)]
  refine Wz [39] ?_
  exact Xl J J (X1 [] Aqc J J J)
 simp only[Gql,Gqu,decide_eq_true_eq] at h1
 obtain⟨⟨⟨q1,q2⟩,q3⟩,q4⟩:=h1
 have tB:=world_ticks q2
 have tN:=world_ticks q3
 have tL:=Ks q1
 refine AWP.pre (st':=(⟨_,[(1,Aqf 0),(3,I (els x.Tracks).length)],[.box (Aqi x)]⟩:St)) ?_ (X3 [0] Aqb)
 refine Wz [15,107,55,19,117,158,168,181,209,216,282,283,110,168,212,166] ?_;refine zx (Qt.grdF J J J (.hit (.hit (.hit .stop))) (fun hgrd=>Qj J J (c5) J)) J ?_;refine Wz [252,51] ?_
 refine Xb J (fun h2 => ?_) (fun h2 => ?_)
 ·rw[hlt,hlb,hln] at h2
  rw[peer_F (no2 h2)]
  refine Wz [39] ?_
  exact Xl J J (X1 [] Aqc J J J)
 rw[hlt,hlb,hln] at h2
 simp only[Gql,Gqu,decide_eq_false_iff_not,Classical.not_not] at h2
 obtain⟨⟨q5,q6⟩,q7⟩:=h2
 refine AWP.pre (st':=(⟨_,[(1,Aqf 0),(3,I (els x.Tracks).length)],[.box (Aqi x)]⟩:St)) ?_ (X3 [0] Aqb)
 refine Wz [15,34,0,84] ?_;refine zx (Qj J J (Xo x.Me 0 (((els x.Tracks).length:Int)-1)) J) J ?_;refine Wz [5,102] ?_;refine zx (Qt.grdF J J J (.hit (.hit .stop)) (fun hgrd=>Qj J J (Xo x.Delay 0 5) J)) J ?_;refine Wz [104,98] ?_;refine zx (Qt.grdF J J J (.hit (.hit .stop)) (fun hgrd=>Qj J J (Xo x.Ahead 1 8) J)) J ?_;refine Wz [104,51] ?_
 refine Xb J (fun h3 => ?_) (fun h3 => ?_)
 ·rw[hlt] at h3
  rw[peer_F (no3 h3)]
  refine Wz [39] ?_
  exact Xl J J (X1 [] Aqc J J J)
 rw[hlt] at h3
 simp only[Gql,Gqu,Yx] at h3
 obtain⟨⟨q8,q9⟩,q10⟩:=h3
 refine AWP.pre (st':=(⟨_,[(1,Aqf 0),(3,I (els x.Tracks).length)],[.box (Aqi x)]⟩:St)) ?_ (X3 [0] Aqb)
 refine Wz [15,34] ?_;refine zx (Qj J J (Xo x.Seed 0 65535) J) J ?_;refine Wz [5,102] ?_;refine zx (Qt.grdF J J J (.hit (.hit .stop)) (fun hgrd=>Qj J J (Xo x.Rolls 0 1000000) J)) J ?_;refine Wz [104,98] ?_;refine zx (Qt.grdF J J J (.hit (.hit .stop)) (fun hgrd=>Qj J J (Xo x.Again 0 1000000) J)) J ?_;refine Wz [104,51] ?_
 refine Xb J (fun h4 => ?_) (fun h4 => ?_)
 ·rw[peer_F (no4 h4)]
  refine Wz [39] ?_
  exact Xl J J (X1 [] Aqc J J J)
 simp only[Gql,Gqu,Yx] at h4
 obtain⟨⟨q11,q12⟩,q13⟩:=h4
 refine AWP.pre (st':=(⟨_,[(1,Aqf 0),(3,I (els x.Tracks).length)],[.box (Aqi x)]⟩:St)) ?_ (X3 [0] Aqb)
 refine Wz [15,3,55,19,55,19,84,73,19] ?_;refine zx (Qj J J (Xo (x.Now.Tick-x.Base.Tick) 0 x.Ahead) J) J ?_;refine Wz [5,102,140,176,162,98,140,176,162,51] ?_
 refine Xb J (fun h5 => ?_) (fun h5 => ?_)
 ·rw[hlu,hls] at h5
  rw[peer_F (no5 h5)]
  refine Wz [39] ?_
  exact Xl J J (X1 [] Aqc J J J)
 rw[hlu,hls] at h5
 simp only[Gql,Gqu,decide_eq_false_iff_not,Classical.not_not,Yx] at h5
 obtain⟨⟨q14,q15⟩,q16⟩:=h5
 refine AWP.pre (st':=(⟨_,[(1,Aqf 0),(3,I (els x.Tracks).length)],[.box (Aqi x)]⟩:St)) ?_ (X3 [0] Aqb)
 refine Wz [15,34,117,97] ?_;refine Xh (fun m st=>∃ k:Nat,k+m=x.Used.length∧((x.Used.take k).all (fun row=>rowOk row x.Tracks.length)=true)∧st=(⟨_,[(1,Aqf 0),(3,I (els x.Tracks).length),(120,L x.Used),(121,I (els x.Used).length),(122,I k)],[.box (Aqi x)]⟩:St)) (x.Used.length) ⟨_,⟨0,Aqa,Aqd,J⟩,X3 [0] Aqb⟩ ?_
 rintro m_A _ ⟨k,hk_A,hp_A,rfl⟩
 refine Wz [3,38,17] ?_
 refine Xb J (fun h => ?_) (fun h => ?_)
 ·have h3:k<x.Used.length:=by have:=Gqc h; omega
  have hat:=Yg h3
  have hc:=I_rowOk x.Used[k] (els x.Tracks).length (gUs.2 _ (Gqe h3))
  rw[hlt] at hc
  cases ho:rowOk x.Used[k] x.Tracks.length with
  |false =>
   rw[ho,←hlt] at hc
   rw[peer_F (fun hp=>by have:=hp.2.2.2.2.2.1.1; rw[X9 h3 ho] at this; cases this)]
   refine Wz [7,3,80,2,9] ?_;refine zx (Qj J J (hc) J) J ?_;refine Wz [5,24,54] ?_
   exact Xl J J (X1 [] Aqc J J J)
  |true =>
   rw[ho,←hlt] at hc
   refine Wz [7,3,80,2,9] ?_;refine zx (Qj J J (hc) J) J ?_;refine Wz [5,81,123,50,57,18,0,6] ?_
   exact⟨x.Used.length-(k+1),Aqa,_,⟨k+1,Aqa,X8 hp_A h3 ho,J⟩,X3 [0] Aqb⟩
 have h3:¬((k:Int)<(els x.Used).length):=Gqd h
 have hall:=X7 hp_A Aqa 
 refine Wz [20,34,117,97] ?_;refine Xh (fun m st=>∃ j:Nat,j+m=x.Saves.length∧((∀ i (h:i<x.Saves.length),i<j→x.Saves[i].Tick=x.Base.Tick+i))∧st=(⟨_,[(1,Aqf 0),(3,I (els x.Tracks).length),(132,L x.Saves),(133,I (els x.Saves).length),(134,I j)],[.box (Aqi x)]⟩:St)) (x.Saves.length) ⟨_,⟨0,Aqa,fun i _ hi=>absurd hi (Nat.not_lt_zero _),J⟩,X3 [0] Aqb⟩ ?_
 rintro m_D _ ⟨j,hk_D,hp_D,rfl⟩
 refine Wz [3,38,17] ?_
 refine Xb J (fun h => ?_) (fun h => ?_)
 ·have h4:j<x.Saves.length:=by have:=Gqc h; omega
  have hat:=Yg h4
  by_cases ho:x.Saves[j].Tick=x.Base.Tick+j
  ·have hb:decide (x.Saves[j].Tick≠x.Base.Tick+j)=false:=Gqa (fun h=>h ho)
   refine Wz [7,10,46,36,32,48,23,55,19,0,18,118,81,123,50,57,18,0,6] ?_
   exact⟨x.Saves.length-(j+1),Aqa,_,⟨j+1,Aqa,fun i hi hij=>by by_cases e:i=j; subst e; exact ho; exact hp_D i hi Aqa,J⟩,X3 [0] Aqb⟩
  ·have hb:decide (x.Saves[j].Tick≠x.Base.Tick+j)=true:=Gqb ho
   rw[peer_F (fun hp=>ho (hp.2.2.2.2.2.1.2 j h4))]
   refine Wz [7,10,46,36,32,48,23,55,19,0,18,118,24,54] ?_
   exact Xl J J (X1 [] Aqc J J J)
 have h4:¬((j:Int)<(els x.Saves).length):=Gqd h
 have hme:x.Me.toNat<x.Tracks.length:=Aqa
 have hat:=at_nat (xs:=x.Tracks) hme
 have hti:=Yi x.Tracks[x.Me.toNat].Inputs
 have hla:=lenAt_is hme
 rw[←fin_eq ⟨q1,q2,q3,q4⟩ ⟨Aqa,Aqa,q7⟩ ⟨q8,q9,q10⟩ ⟨q11,q12,q13⟩ ⟨q14,q15,q16⟩ ⟨hall,fun i hi=>hp_D i hi Aqa⟩,←hlm]
 by_cases k1:x.Base.Tick≤(knownTicks x.Tracks:Nat)
 ·have hb1:decide (x.Base.Tick≤((knownTicks x.Tracks:Nat):Int))=true:=Gqb k1
  by_cases k2:x.Now.Tick≤(lenAt x.Tracks x.Me.toNat:Nat)
  ·have hb2:decide (x.Now.Tick≤((els x.Tracks[x.Me.toNat].Inputs).length:Int))=true:=Gqb Aqa 
   rw[hb1,Gqb k2]
   refine Wz [20,17,284,200,8,8] ?_;refine DR.s (Qj J J (c6) J) J J ?_;refine Wz [225,4,35,35,121,184,126,201,202,35,253,129,4,35,201,202,35,223] ?_;refine DR.s (Qt.yes J J J (Zu J J J J)) J J ?_;refine Wz [129,156,13,6,49] ?_
   exact Xl J J (X1 [] Aqc J J J)
  ·have hb2:decide (x.Now.Tick≤((els x.Tracks[x.Me.toNat].Inputs).length:Int))=false:=Gqa Aqa 
   rw[hb1,Gqa k2]
   refine Wz [20,17,284,200,8,8] ?_;refine DR.s (Qj J J (c6) J) J J ?_;refine Wz [225,4,35,35,121,184,126,201,202,35,253,129,4,65,65,91,156,13,6,49] ?_
   exact Xl J J (X1 [] Aqc J J J)
 ·have hb1:decide (x.Base.Tick≤((knownTicks x.Tracks:Nat):Int))=false:=Gqa k1
  rw[hb1]
  refine Wz [20,17,284,200,8,8] ?_;refine DR.s (Qj J J (c6) J) J J ?_;refine Wz [225,4,65,65,65,91,4,65,65,91,156,13,6,49] ?_
  exact Xl J J (X1 [] Aqc J J J)
end
section
open Go.RowKit

section
variable {p:TPeer}
theorem noS1 (h:((((((!worldOk p.Base || !worldOk p.Now) || !decide (p.Base.Level=p.Now.Level)) || decide ((p.Base.Scores.length:Int)≠p.Tracks.length)) || decide ((p.Now.Scores.length:Int)≠p.Tracks.length)) || !tracksOk p.Tracks) || !faultOk p.Fault p.Tracks.length)=true):¬PeerP p:=fun ⟨⟨q1,q2,q3,q4⟩,⟨q5,q6,q7⟩,_⟩=>by
 rw[q1,q2,q3,Gqb q4,q7,Gqa Aqa,Gqa Aqa] at h; exact absurd h Aqc 
theorem noS2 (h:((((((((!inR p.Me 0 ((p.Tracks.length:Int)-1) || !inR p.Delay 0 5) || !inR p.Ahead 1 8) || !inR p.Seed 0 65535) || !inR p.Rolls 0 1000000) || !inR p.Again 0 1000000) || !inR (p.Now.Tick-p.Base.Tick) 0 p.Ahead) || decide ((p.Used.length:Int)≠p.Now.Tick-p.Base.Tick)) || decide ((p.Saves.length:Int)≠p.Now.Tick-p.Base.Tick))=true):¬PeerP p:=fun ⟨_,_,⟨q1,q2,q3⟩,⟨q4,q5,q6⟩,⟨q7,q8,q9⟩,_⟩=>by
 rw[Yx.2 q1,Yx.2 q2,Yx.2 q3,Yx.2 q4,Yx.2 q5,Yx.2 q6,Yx.2 q7,Gqa Aqa,Gqa Aqa] at h; exact absurd h Aqc 
end
theorem S_PeerOk (x:TPeer) (hg:Enc.gd x):Con Tryz.prog 166 [] [ag x] [] (B (peerOk x)):=by
 obtain⟨gMe,gDe,gAh,gSe,gTr,gBa,gNo,gUs,gSa,gSu,gFa,gRo,gAg⟩:=hg
 have hlt:=Yi x.Tracks
 have hlu:=Yi x.Used
 have hls:=Yi x.Saves
 have hlm:=Yi x.Sums
 have hlb:=Yi x.Base.Scores
 have hln:=Yi x.Now.Scores
 have c1:=S_TracksOk x.Tracks gTr
 have c2:=S_WorldOk x.Base gBa
 have c3:=S_WorldOk x.Now gNo
 have c4:=S_sameLevel x.Base.Level x.Now.Level gBa.1
 have c5:=S_FaultOk x.Fault (els x.Tracks).length Aqa (by have:=gTr.1; omega)
 have c6:=S_KnownTicks x.Tracks gTr
 refine Con.of Tryz.func166 J Tryz.ntmps166 J (fun E => ?_)
 refine Wz [21,23,14,2,191] ?_;refine zx (Qj J J (c2) J) J ?_;refine Wz [5,168,212] ?_;refine zx (Qt.grdF J J J (.hit (.hit .stop)) (fun hgrd=>Qj J J (c3) J)) J ?_;refine Wz [104,110,168,181,280,224,281] ?_;refine zx (Qt.grdF J J J (.hit (.hit (.hit (.hit (.hit .stop))))) (fun hgrd=>Qu J J J J J J)) J ?_;refine zx (Qt.grdF J J J (.hit (.hit (.hit (.hit (.hit (.hit .stop)))))) (fun hgrd=>Qj J J (c4) J)) J ?_;refine zx (Qt.grdF J J J (.hit (.hit (.hit (.hit (.hit (.hit (.hit .stop))))))) (fun hgrd=>Q4 J J J)) J ?_;refine Wz [110,168,181,209,216,282,283,110,168,181,209,216,282,283,98] ?_;refine zx (Qt.grdF J J J (.hit (.hit .stop)) (fun hgrd=>Qj J J (c1) J)) J ?_;refine Wz [104,110,168,212,166] ?_;refine zx (Qt.grdF J J J (.hit (.hit (.hit .stop))) (fun hgrd=>Qj J J (c5) J)) J ?_;refine Wz [252,51] ?_
 refine Xb J (fun h1 => ?_) (fun h1 => ?_)
 ·rw[hlt,hlb,hln] at h1
  rw[peer_F (noS1 h1)]
  refine Wz [39] ?_
  exact Xl J J (X1 [] Aqc J J J)
 rw[hlt,hlb,hln] at h1
 simp only[Gql,Gqu,decide_eq_true_eq,decide_eq_false_iff_not,Classical.not_not] at h1
 obtain⟨⟨⟨⟨⟨⟨q2,q3⟩,q4⟩,q5⟩,q6⟩,q1⟩,q7⟩:=h1
 have tB:=world_ticks q2
 have tN:=world_ticks q3
 have tL:=Ks q1
 refine AWP.pre (st':=(⟨_,[(1,Aqf 0),(3,I (els x.Tracks).length)],[.box (Aqi x)]⟩:St)) ?_ (X3 [0] Aqb)
 refine Wz [15,3,55,19,55,19,84,2,34,0,84] ?_;refine zx (Qj J J (X0 x.Me 0 (((els x.Tracks).length:Int)-1)) J) J ?_;refine Wz [5,102] ?_;refine zx (Qt.grdF J J J (.hit (.hit .stop)) (fun hgrd=>Qj J J (X0 x.Delay 0 5) J)) J ?_;refine Wz [104,98] ?_;refine zx (Qt.grdF J J J (.hit (.hit .stop)) (fun hgrd=>Qj J J (X0 x.Ahead 1 8) J)) J ?_;refine Wz [104,98] ?_;refine zx (Qt.grdF J J J (.hit (.hit .stop)) (fun hgrd=>Qj J J (X0 x.Seed 0 65535) J)) J ?_;refine Wz [104,98] ?_;refine zx (Qt.grdF J J J (.hit (.hit .stop)) (fun hgrd=>Qj J J (X0 x.Rolls 0 1000000) J)) J ?_;refine Wz [104,98] ?_;refine zx (Qt.grdF J J J (.hit (.hit .stop)) (fun hgrd=>Qj J J (X0 x.Again 0 1000000) J)) J ?_;refine Wz [104,110,0,109,181,209] ?_;refine zx (Qt.grdF J J J (.hit (.hit (.hit .stop))) (fun hgrd=>Qj J J (X0 (x.Now.Tick-x.Base.Tick) 0 x.Ahead) J)) J ?_;refine Wz [252,98,140,176,162,98,140,176,162,51] ?_
 refine Xb J (fun h2 => ?_) (fun h2 => ?_)
 ·rw[hlt,hlu,hls] at h2
  rw[peer_F (noS2 h2)]
  refine Wz [39] ?_
  exact Xl J J (X1 [] Aqc J J J)
 rw[hlt,hlu,hls] at h2
 simp only[Gql,Gqu,decide_eq_false_iff_not,Classical.not_not,Yx] at h2
 obtain⟨⟨⟨⟨⟨⟨⟨⟨q8,q9⟩,q10⟩,q11⟩,q12⟩,q13⟩,q14⟩,q15⟩,q16⟩:=h2
 refine AWP.pre (st':=(⟨_,[(1,Aqf 0),(3,I (els x.Tracks).length),(4,I (x.Now.Tick-x.Base.Tick))],[.box (Aqi x)]⟩:St)) ?_ (X3 [0] Aqb)
 refine Wz [15,11] ?_;refine Xh (fun m st=>∃ k:Nat,k+m=x.Used.length∧((x.Used.take k).all (fun row=>rowOk row x.Tracks.length)=true∧(∀ i (h:i<x.Saves.length),i<k→x.Saves[i].Tick=x.Base.Tick+i))∧st=(⟨_,[(1,Aqf 0),(3,I (els x.Tracks).length),(4,I (x.Now.Tick-x.Base.Tick)),(5,I k)],[.box (Aqi x)]⟩:St)) (x.Used.length) ⟨_,⟨0,Aqa,⟨Aqd,fun i _ hi=>absurd hi (Nat.not_lt_zero _)⟩,J⟩,X3 [0] Aqb⟩ ?_
 rintro m_A _ ⟨k,hk_A,hp_A,rfl⟩
 obtain⟨hpa,hpb⟩:=hp_A
 refine Wz [43,38] ?_
 refine Xb J (fun h => ?_) (fun h => ?_)
 ·have h3:k<x.Used.length:=by have:=Gqc h; omega
  have h4:k<x.Saves.length:=Aqa
  have hat:=Yg h3
  have hat2:=Yg h4
  have hc:=S_rowOk x.Used[k] (els x.Tracks).length (gUs.2 _ (Gqe h3))
  rw[hlt] at hc
  cases ho:rowOk x.Used[k] x.Tracks.length with
  |false =>
   rw[ho,←hlt] at hc
   rw[peer_F (fun hp=>by have:=hp.2.2.2.2.2.1.1; rw[X9 h3 ho] at this; cases this)]
   refine Wz [88,285,8,66,29,4] ?_;refine DR.s (Qj J J (hc) J) J J ?_;refine Wz [74,4,65,65,65,129,13,24,54] ?_
   exact Xl J J (X1 [] Aqc J J J)
  | true =>
   rw[ho,←hlt] at hc
   by_cases hs:x.Saves[k].Tick=x.Base.Tick+k
   ·have hb:decide (x.Saves[k].Tick≠x.Base.Tick+k)=false:=Gqa (fun h=>h hs)
    refine Wz [88,285,8,66,29,4] ?_;refine DR.s (Qj J J (hc) J) J J ?_;refine Wz [74,4,35,72,121,184,126,202,35,72,223] ?_;refine DR.s (Qt.yes J J J (Qw J J J J Aqe)) J J ?_;refine Wz [91,13,81,62] ?_
    exact⟨x.Used.length-(k+1),Aqa,_,⟨k+1,Aqa,⟨X8 hpa h3 ho,fun i hi hij=>by by_cases e:i=k; subst e; exact hs; exact hpb i hi Aqa⟩,J⟩,X3 [0] Aqb⟩
   ·have hb:decide (x.Saves[k].Tick≠x.Base.Tick+k)=true:=Gqb hs
    rw[peer_F (fun hp=>hs (hp.2.2.2.2.2.1.2 k h4))]
    refine Wz [88,285,8,66,29,4] ?_;refine DR.s (Qj J J (hc) J) J J ?_;refine Wz [74,4,35,72,121,184,126,202,35,72,223] ?_;refine DR.s (Qt.yes J J J (Qw J J J J Aqe)) J J ?_;refine Wz [91,13,24,54] ?_
    exact Xl J J (X1 [] Aqc J J J)
 have h3:¬k<x.Used.length:=by have:=Gqd h; omega
 have hall:=X7 hpa Aqa 
 have hme:x.Me.toNat<x.Tracks.length:=Aqa
 have hat:=at_nat (xs:=x.Tracks) hme
 have hti:=Yi x.Tracks[x.Me.toNat].Inputs
 have hla:=lenAt_is hme
 rw[←fin_eq ⟨q1,q2,q3,q4⟩ ⟨Aqa,Aqa,q7⟩ ⟨q8,q9,q10⟩ ⟨q11,q12,q13⟩ ⟨q14,q15,q16⟩ ⟨hall,fun i hi=>hpb i hi Aqa⟩,←hlm]
 by_cases k1:x.Base.Tick≤(knownTicks x.Tracks:Nat)
 ·have hb1:decide (x.Base.Tick≤((knownTicks x.Tracks:Nat):Int))=true:=Gqb k1
  by_cases k2:x.Now.Tick≤(lenAt x.Tracks x.Me.toNat:Nat)
  ·have hb2:decide (x.Now.Tick≤((els x.Tracks[x.Me.toNat].Inputs).length:Int))=true:=Gqb Aqa 
   rw[hb1,Gqb k2]
   refine Wz [20,17,286,200,8,8] ?_;refine DR.s (Qj J J (c6) J) J J ?_;refine Wz [225,4,35,35,121,184,126,201,202,35,253,129,4,35,201,202,35,223] ?_;refine DR.s (Qt.yes J J J (Zu J J J J)) J J ?_;refine Wz [129,156,13,6,49] ?_
   exact Xl J J (X1 [] Aqc J J J)
  ·have hb2:decide (x.Now.Tick≤((els x.Tracks[x.Me.toNat].Inputs).length:Int))=false:=Gqa Aqa 
   rw[hb1,Gqa k2]
   refine Wz [20,17,286,200,8,8] ?_;refine DR.s (Qj J J (c6) J) J J ?_;refine Wz [225,4,35,35,121,184,126,201,202,35,253,129,4,65,65,91,156,13,6,49] ?_
   exact Xl J J (X1 [] Aqc J J J)
 ·have hb1:decide (x.Base.Tick≤((knownTicks x.Tracks:Nat):Int))=false:=Gqa k1
  rw[hb1]
  refine Wz [20,17,286,200,8,8] ?_;refine DR.s (Qj J J (c6) J) J J ?_;refine Wz [225,4,65,65,65,91,4,65,65,91,156,13,6,49] ?_
  exact Xl J J (X1 [] Aqc J J J)
end
section
open Go.RowKit

def acksOk (l:List Int):Bool:=l.all fun n=>inR n 0 400
def tailOk (x:TPacket):Bool:=((((inR x.First 0 (400-(x.Inputs.length:Int))&&inR x.Tick 0 400)&&inR x.SumTick 0 400)&&inR x.Sum 0 274877906943)&&inR x.Time 0 1000000)&&inR x.Echo 0 1000000
def PacketP (x:TPacket):Prop:=(1≤x.Acks.length∧x.Acks.length≤4)∧acksOk x.Acks=true∧(0≤x.From∧x.From≤(x.Acks.length:Int)-1)∧x.Inputs.length≤40∧inOk x.Inputs=true∧tailOk x=true
noncomputable def packetOk (x:TPacket):Bool:=@decide (PacketP x) (Classical.propDecidable _)
theorem packet_T {p:TPacket} (h:PacketP p):packetOk p=true:=@decide_eq_true _ (Classical.propDecidable _) h
theorem packet_F {p:TPacket} (h:¬PacketP p):packetOk p=false:=@decide_eq_false _ (Classical.propDecidable _) h
theorem packet_spec {p:TPacket} (h:packetOk p=true):PacketP p:=@of_decide_eq_true _ (Classical.propDecidable _) h
theorem packet_end {x:TPacket} (h1:1≤x.Acks.length∧x.Acks.length≤4) (h2:acksOk x.Acks=true) (h3:0≤x.From∧x.From≤(x.Acks.length:Int)-1) (h4:x.Inputs.length≤40) (h5:inOk x.Inputs=true):tailOk x=packetOk x:=by
 cases h:tailOk x with
 |true=>rw[packet_T ⟨h1,h2,h3,h4,h5,h⟩]
 |false=>rw[packet_F fun hp=>by have:=hp.2.2.2.2.2; rw[h] at this; cases this]
theorem packet_all {x:TPacket} (h2:acksOk x.Acks=true):(((((((((inR (x.Acks.length:Int) 1 4&&inR x.From 0 ((x.Acks.length:Int)-1))&&decide ((x.Inputs.length:Int)≤40))&&inOk x.Inputs)&&inR x.First 0 (400-(x.Inputs.length:Int)))&&inR x.Tick 0 400)&&inR x.SumTick 0 400)&&inR x.Sum 0 274877906943)&&inR x.Time 0 1000000)&&inR x.Echo 0 1000000)=packetOk x:=by
 rw[Bool.eq_iff_iff]
 constructor
 ·intro h
  simp only[Gqi,decide_eq_true_eq] at h
  obtain⟨⟨⟨⟨⟨⟨⟨⟨⟨a,b⟩,c⟩,d⟩,e⟩,f⟩,g⟩,i⟩,j⟩,k⟩:=h
  rw[Yx] at a b
  exact packet_T ⟨Aqa,h2,b,Aqa,d,by simp[tailOk,e,f,g,i,j,k]⟩
 ·intro h
  obtain⟨a,_,b,c,d,e⟩:=packet_spec h
  simp only[tailOk,Gqi] at e
  obtain⟨⟨⟨⟨⟨e,f⟩,g⟩,i⟩,j⟩,k⟩:=e
  rw[Yx.2 (by omega:(1:Int)≤x.Acks.length∧(x.Acks.length:Int)≤4),Yx.2 b,Gqb (by omega:(x.Inputs.length:Int)≤40),d,e,f,g,i,j,k]; rfl
theorem I_PacketOk (x:TPacket) (hg:Enc.gd x):Con Tryz.prog 235 [] [ag x] [] (B (packetOk x)):=by
 obtain⟨g1,g2,g3,gI,gA,g6,g7,g8,g9⟩:=hg
 have hla:=Yi x.Acks
 have hli:=Yi x.Inputs
 have gA1:=gA.1
 have gI1:=gI.1
 have ci:=Xr x.Inputs gI
 refine Con.of Tryz.func235 J Tryz.ntmps235 J (fun E => ?_)
 refine Wz [21,34,14,153,102,140,215,51] ?_
 refine Xb J (fun h => ?_) (fun h => ?_)
 ·simp only[Gqr,decide_eq_true_eq] at h
  rw[packet_F (fun hp=>by have:=hp.1; omega)]
  refine Wz [39] ?_
  exact Xl J J (X1 [] Aqc J J J)
 simp only[Gql,decide_eq_false_iff_not] at h
 refine Wz [15,34,117,97] ?_;refine Xh (fun m st=>∃ k:Nat,k+m=x.Acks.length∧((x.Acks.take k).all (fun n=>inR n 0 400)=true)∧st=(⟨_,[(1,Aqf 0),(16,L x.Acks),(17,I (els x.Acks).length),(18,I k)],[.box (Aqi x)]⟩:St)) (x.Acks.length) ⟨_,⟨0,Aqa,Aqd,J⟩,X3 [0] Aqb⟩ ?_
 rintro m_A _ ⟨k,hk_A,hp_A,rfl⟩
 refine Wz [3,38,17] ?_
 refine Xb J (fun h2 => ?_) (fun h2 => ?_)
 ·have h3:k<x.Acks.length:=by have:=Gqc h2; omega
  have hat:=Yg h3
  have hc:=Xo x.Acks[k] 0 400
  cases ho:inR x.Acks[k] 0 400 with
  |false =>
   rw[ho] at hc
   rw[packet_F (fun hp=>by have:=hp.2.1; rw[acksOk,X9 h3 ho] at this; cases this)]
   refine Wz [7,3,80,40] ?_;refine zx (Qj J J (hc) J) J ?_;refine Wz [5,24,54] ?_
   exact Xl J J (X1 [] Aqc J J J)
  |true =>
   rw[ho] at hc
   refine Wz [7,3,80,40] ?_;refine zx (Qj J J (hc) J) J ?_;refine Wz [5,81,123,50,57,18,0,6] ?_
   exact⟨x.Acks.length-(k+1),Aqa,_,⟨k+1,Aqa,X8 hp_A h3 ho,J⟩,X3 [0] Aqb⟩
 have h3:¬((k:Int)<(els x.Acks).length):=Gqd h2
 have hall:=X7 hp_A Aqa 
 refine Wz [20,299,14,84] ?_;refine zx (Qj J J (Xo x.From 0 (((els x.Acks).length:Int)-1)) J) J ?_;refine Wz [5,102,140,215,98] ?_;refine zx (Qt.grdF J J J (.hit (.hit .stop)) (fun hgrd=>Qj J J (ci) J)) J ?_;refine Wz [104,51] ?_
 refine Xb J (fun h4 => ?_) (fun h4 => ?_)
 ·rw[hla,hli] at h4
  rw[packet_F (fun hp=>by
   obtain⟨_,_,b,c,d,_⟩:=hp
   rw[Yx.2 b,Gqa Aqa,d] at h4; exact absurd h4 Aqc)]
  refine Wz [39] ?_
  exact Xl J J (X1 [] Aqc J J J)
 rw[hla,hli] at h4
 simp only[Gql,Gqu,decide_eq_false_iff_not,Yx] at h4
 obtain⟨⟨q1,q2⟩,q3⟩:=h4
 refine AWP.pre (st':=(⟨_,[(1,Aqf 0)],[.box (Aqi x)]⟩:St)) ?_ (X3 [0] Aqb)
 refine Wz [15,23,89,84] ?_;refine zx (Qj J J (Xo x.First 0 (400-((els x.Inputs).length:Int))) J) J ?_;refine Wz [58] ?_;refine zx (Qt.grdT J J J (.hit (.hit .stop)) (fun hgrd=>Qj J J (Xo x.Tick 0 400) J)) J ?_;refine Wz [25,58] ?_;refine zx (Qt.grdT J J J (.hit (.hit .stop)) (fun hgrd=>Qj J J (Xo x.SumTick 0 400) J)) J ?_;refine Wz [25,58] ?_;refine zx (Qt.grdT J J J (.hit (.hit .stop)) (fun hgrd=>Qj J J (Xo x.Sum 0 274877906943) J)) J ?_;refine Wz [25,58] ?_;refine zx (Qt.grdT J J J (.hit (.hit .stop)) (fun hgrd=>Qj J J (Xo x.Time 0 1000000) J)) J ?_;refine Wz [25,58] ?_;refine zx (Qt.grdT J J J (.hit (.hit .stop)) (fun hgrd=>Qj J J (Xo x.Echo 0 1000000) J)) J ?_;refine Wz [25,53] ?_
 exact Xl J J (X1 [] Aqc J J (Xi (by rw[hli]; exact packet_end Aqa hall q1 Aqa q3)))
theorem S_PacketOk (x:TPacket) (hg:Enc.gd x):Con Tryz.prog 214 [] [ag x] [] (B (packetOk x)):=by
 obtain⟨g1,g2,g3,gI,gA,g6,g7,g8,g9⟩:=hg
 have hla:=Yi x.Acks
 have hli:=Yi x.Inputs
 have gA1:=gA.1
 have gI1:=gI.1
 have ci:=S_inputsOk x.Inputs gI
 refine Con.of Tryz.func214 J Tryz.ntmps214 J (fun E => ?_)
 refine Wz [21,11] ?_;refine Xh (fun m st=>∃ k:Nat,k+m=x.Acks.length∧((x.Acks.take k).all (fun n=>inR n 0 400)=true)∧st=(⟨_,[(1,Aqf 0),(3,I k)],[.box (Aqi x)]⟩:St)) (x.Acks.length) ⟨_,⟨0,Aqa,Aqd,J⟩,X3 [0] Aqb⟩ ?_
 rintro m_A _ ⟨k,hk_A,hp_A,rfl⟩
 refine Wz [56,89,38] ?_
 refine Xb J (fun h2 => ?_) (fun h2 => ?_)
 ·have h3:k<x.Acks.length:=by have:=Gqc h2; omega
  have hat:=Yg h3
  have hc:=X0 x.Acks[k] 0 400
  cases ho:inR x.Acks[k] 0 400 with
  |false =>
   rw[ho] at hc
   rw[packet_F (fun hp=>by have:=hp.2.1; rw[acksOk,X9 h3 ho] at this; cases this)]
   refine Wz [7,75,80] ?_;refine zx (Qj J J (hc) J) J ?_;refine Wz [5,24,54] ?_
   exact Xl J J (X1 [] Aqc J J J)
  |true =>
   rw[ho] at hc
   refine Wz [7,75,80] ?_;refine zx (Qj J J (hc) J) J ?_;refine Wz [5,81,62] ?_
   exact⟨x.Acks.length-(k+1),Aqa,_,⟨k+1,Aqa,X8 hp_A h3 ho,J⟩,X3 [0] Aqb⟩
 have h3:¬((k:Int)<(els x.Acks).length):=Gqd h2
 have hall:=X7 hp_A Aqa 
 refine Wz [20,23,14] ?_;refine zx (Qj J J (X0 (els x.Acks).length 1 4) J) J ?_;refine Wz [58] ?_;refine zx (Qt.grdT J J J (.hit (.hit .stop)) (fun hgrd=>Qf J J J J Aqc)) J ?_;refine zx (Qt.grdT J J J (.hit (.hit (.hit .stop))) (fun hgrd=>Qg J J J J J)) J ?_;refine zx (Qt.grdT J J J (.hit (.hit (.hit (.hit .stop)))) (fun hgrd=>Z3 J J J)) J ?_;refine zx (Qt.grdT J J J (.hit (.hit (.hit (.hit (.hit .stop))))) (fun hgrd=>Xc J J J J Aqa)) J ?_;refine zx (Qt.grdT J J J (.hit (.hit (.hit (.hit (.hit (.hit .stop)))))) (fun hgrd=>Qj J J (X0 x.From 0 (((els x.Acks).length:Int)-1)) J)) J ?_;refine Wz [25,58] ?_;refine zx (Qt.grdT J J J (.hit (.hit .stop)) (fun hgrd=>Z3 J J J)) J ?_;refine zx (Qt.grdT J J J (.hit (.hit (.hit .stop))) (fun hgrd=>q_leq J J J J)) J ?_;refine Wz [25,58] ?_;refine zx (Qt.grdT J J J (.hit (.hit .stop)) (fun hgrd=>Qj J J (ci) J)) J ?_;refine Wz [25,58] ?_;refine zx (Qt.grdT J J J (.hit (.hit .stop)) (fun hgrd=>Qf J J J J Aqc)) J ?_;refine zx (Qt.grdT J J J (.hit (.hit (.hit .stop))) (fun hgrd=>Qg J J J J J)) J ?_;refine zx (Qt.grdT J J J (.hit (.hit (.hit (.hit .stop)))) (fun hgrd=>Z3 J J J)) J ?_;refine zx (Qt.grdT J J J (.hit (.hit (.hit (.hit (.hit .stop))))) (fun hgrd=>Xc J J J J Aqa)) J ?_;refine zx (Qt.grdT J J J (.hit (.hit (.hit (.hit (.hit (.hit .stop)))))) (fun hgrd=>Qj J J (X0 x.First 0 (400-((els x.Inputs).length:Int))) J)) J ?_;refine Wz [25,58] ?_;refine zx (Qt.grdT J J J (.hit (.hit .stop)) (fun hgrd=>Qj J J (X0 x.Tick 0 400) J)) J ?_;refine Wz [25,58] ?_;refine zx (Qt.grdT J J J (.hit (.hit .stop)) (fun hgrd=>Qj J J (X0 x.SumTick 0 400) J)) J ?_;refine Wz [25,58] ?_;refine zx (Qt.grdT J J J (.hit (.hit .stop)) (fun hgrd=>Qj J J (X0 x.Sum 0 274877906943) J)) J ?_;refine Wz [25,58] ?_;refine zx (Qt.grdT J J J (.hit (.hit .stop)) (fun hgrd=>Qj J J (X0 x.Time 0 1000000) J)) J ?_;refine Wz [25,58] ?_;refine zx (Qt.grdT J J J (.hit (.hit .stop)) (fun hgrd=>Qj J J (X0 x.Echo 0 1000000) J)) J ?_;refine Wz [25,53] ?_
 exact Xl J J (X1 [] Aqc J J (Xi (by rw[hla,hli]; exact packet_all hall)))
end
section
open Go.RowKit

theorem to_Peer (x:TPeer) (hg:Enc.wt x≤1048576):Con Tryz.prog 127 [] [ag x] [.row 1 (els x.Tracks),.row 1 (els x.Base.Level.Rows),.row 1 (els x.Base.Scores),.row 9 (els x.Base.Bodies),.row 1 (els x.Now.Level.Rows),.row 1 (els x.Now.Scores),.row 9 (els x.Now.Bodies),.row 1 (els x.Used),.row 2 (els x.Saves),.row 1 (els x.Sums)] (.o (.ag [Aqh x.Me,Aqh x.Delay,Aqh x.Ahead,Aqh x.Seed,.ref 0,.ref 1,Aqh x.Base.Tick,Aqh x.Base.Seed,.ref 2,.ref 3,.ref 4,Aqh x.Now.Tick,Aqh x.Now.Seed,.ref 5,.ref 6,.ref 7,.ref 8,.ref 9,Aqh x.Fault.Tick,Aqh x.Fault.Player,Aqh x.Fault.Add,Aqh x.Rolls,Aqh x.Again])):=by
 have hw:Enc.wt x=Enc.wt x.Tracks+Enc.wt x.Base+Enc.wt x.Now+Enc.wt x.Used+Enc.wt x.Saves+Enc.wt x.Sums+Enc.wt x.Fault:=rfl
 refine Con.of Tryz.func127 J Tryz.ntmps127 J (fun E => ?_)
 refine Wz [76,52,3,52,23,45,45,45,45] ?_;refine AL.weak (st':=(⟨_,[(1,Aqf 0),(2,Aqf 1),(3,Aqf 2),(17,L x.Tracks)],[.box (Aqi x),.box [Aqh 0,Aqh 0,Aqh 0,Aqh 0,Aqj,Aqj,Aqh 0,Aqh 0,Aqj,Aqj,Aqj,Aqh 0,Aqh 0,Aqj,Aqj,Aqj,Aqj,Aqj,Aqh 0,Aqh 0,Aqh 0,Aqh 0,Aqh 0],.box [Aqh x.Me,Aqh x.Delay,Aqh x.Ahead,Aqh x.Seed,Aqj,Aqj,Aqh 0,Aqh 0,Aqj,Aqj,Aqj,Aqh 0,Aqh 0,Aqj,Aqj,Aqj,Aqj,Aqj,Aqh 0,Aqh 0,Aqh 0,Aqh 0,Aqh 0]]⟩:St)) (X3 [0,1,2] Aqb) ?_;refine M1 (Zs J J (to_TrackS x.Tracks Aqa) J J J) J J ?_;refine Wz [30,152] ?_;refine AL.weak (st':=(⟨_,[(1,Aqf 0),(2,Aqf 1),(3,Aqf 2),(21,.o (.ag ((Enc.e x.Base).map (V1.rd []))))],[.box (Aqi x),.box [Aqh 0,Aqh 0,Aqh 0,Aqh 0,Aqj,Aqj,Aqh 0,Aqh 0,Aqj,Aqj,Aqj,Aqh 0,Aqh 0,Aqj,Aqj,Aqj,Aqj,Aqj,Aqh 0,Aqh 0,Aqh 0,Aqh 0,Aqh 0],.box [Aqh x.Me,Aqh x.Delay,Aqh x.Ahead,Aqh x.Seed,.ref 3,Aqj,Aqh 0,Aqh 0,Aqj,Aqj,Aqj,Aqh 0,Aqh 0,Aqj,Aqj,Aqj,Aqj,Aqj,Aqh 0,Aqh 0,Aqh 0,Aqh 0,Aqh 0],.row 1 (els x.Tracks)]⟩:St)) (X3 [0,1,2,3] Aqb) ?_;refine M1 (Zs J J (to_World x.Base Aqa) J J J) J J ?_;refine Wz [55,48,152] ?_;refine AL.weak (st':=(⟨_,[(1,Aqf 0),(2,Aqf 1),(3,Aqf 2),(25,.o (.ag ((Enc.e x.Now).map (V1.rd []))))],[.box (Aqi x),.box [Aqh 0,Aqh 0,Aqh 0,Aqh 0,Aqj,Aqj,Aqh 0,Aqh 0,Aqj,Aqj,Aqj,Aqh 0,Aqh 0,Aqj,Aqj,Aqj,Aqj,Aqj,Aqh 0,Aqh 0,Aqh 0,Aqh 0,Aqh 0],.box [Aqh x.Me,Aqh x.Delay,Aqh x.Ahead,Aqh x.Seed,.ref 3,.ref 4,Aqh x.Base.Tick,Aqh x.Base.Seed,.ref 5,.ref 6,Aqj,Aqh 0,Aqh 0,Aqj,Aqj,Aqj,Aqj,Aqj,Aqh 0,Aqh 0,Aqh 0,Aqh 0,Aqh 0],.row 1 (els x.Tracks),.row 1 (els x.Base.Level.Rows),.row 1 (els x.Base.Scores),.row 9 (els x.Base.Bodies)]⟩:St)) (X3 [0,1,2,3,4,5,6] Aqb) ?_;refine M1 (Zs J J (to_World x.Now Aqa) J J J) J J ?_;refine Wz [55,48,23] ?_;refine AL.weak (st':=(⟨_,[(1,Aqf 0),(2,Aqf 1),(3,Aqf 2),(29,L x.Used)],[.box (Aqi x),.box [Aqh 0,Aqh 0,Aqh 0,Aqh 0,Aqj,Aqj,Aqh 0,Aqh 0,Aqj,Aqj,Aqj,Aqh 0,Aqh 0,Aqj,Aqj,Aqj,Aqj,Aqj,Aqh 0,Aqh 0,Aqh 0,Aqh 0,Aqh 0],.box [Aqh x.Me,Aqh x.Delay,Aqh x.Ahead,Aqh x.Seed,.ref 3,.ref 4,Aqh x.Base.Tick,Aqh x.Base.Seed,.ref 5,.ref 6,.ref 7,Aqh x.Now.Tick,Aqh x.Now.Seed,.ref 8,.ref 9,Aqj,Aqj,Aqj,Aqh 0,Aqh 0,Aqh 0,Aqh 0,Aqh 0],.row 1 (els x.Tracks),.row 1 (els x.Base.Level.Rows),.row 1 (els x.Base.Scores),.row 9 (els x.Base.Bodies),.row 1 (els x.Now.Level.Rows),.row 1 (els x.Now.Scores),.row 9 (els x.Now.Bodies)]⟩:St)) (X3 [0,1,2,3,4,5,6,7,8,9] Aqb) ?_;refine M1 (Zs J J (to_IntSS x.Used Aqa) J J J) J J ?_;refine Wz [45] ?_;refine AL.weak (st':=(⟨_,[(1,Aqf 0),(2,Aqf 1),(3,Aqf 2),(33,L x.Saves)],[.box (Aqi x),.box [Aqh 0,Aqh 0,Aqh 0,Aqh 0,Aqj,Aqj,Aqh 0,Aqh 0,Aqj,Aqj,Aqj,Aqh 0,Aqh 0,Aqj,Aqj,Aqj,Aqj,Aqj,Aqh 0,Aqh 0,Aqh 0,Aqh 0,Aqh 0],.box [Aqh x.Me,Aqh x.Delay,Aqh x.Ahead,Aqh x.Seed,.ref 3,.ref 4,Aqh x.Base.Tick,Aqh x.Base.Seed,.ref 5,.ref 6,.ref 7,Aqh x.Now.Tick,Aqh x.Now.Seed,.ref 8,.ref 9,.ref 10,Aqj,Aqj,Aqh 0,Aqh 0,Aqh 0,Aqh 0,Aqh 0],.row 1 (els x.Tracks),.row 1 (els x.Base.Level.Rows),.row 1 (els x.Base.Scores),.row 9 (els x.Base.Bodies),.row 1 (els x.Now.Level.Rows),.row 1 (els x.Now.Scores),.row 9 (els x.Now.Bodies),.row 1 (els x.Used)]⟩:St)) (X3 [0,1,2,3,4,5,6,7,8,9,10] Aqb) ?_;refine M1 (Zs J J (to_SaveS x.Saves Aqa) J J J) J J ?_;refine Wz [45] ?_;refine AL.weak (st':=(⟨_,[(1,Aqf 0),(2,Aqf 1),(3,Aqf 2),(37,L x.Sums)],[.box (Aqi x),.box [Aqh 0,Aqh 0,Aqh 0,Aqh 0,Aqj,Aqj,Aqh 0,Aqh 0,Aqj,Aqj,Aqj,Aqh 0,Aqh 0,Aqj,Aqj,Aqj,Aqj,Aqj,Aqh 0,Aqh 0,Aqh 0,Aqh 0,Aqh 0],.box [Aqh x.Me,Aqh x.Delay,Aqh x.Ahead,Aqh x.Seed,.ref 3,.ref 4,Aqh x.Base.Tick,Aqh x.Base.Seed,.ref 5,.ref 6,.ref 7,Aqh x.Now.Tick,Aqh x.Now.Seed,.ref 8,.ref 9,.ref 10,.ref 11,Aqj,Aqh 0,Aqh 0,Aqh 0,Aqh 0,Aqh 0],.row 1 (els x.Tracks),.row 1 (els x.Base.Level.Rows),.row 1 (els x.Base.Scores),.row 9 (els x.Base.Bodies),.row 1 (els x.Now.Level.Rows),.row 1 (els x.Now.Scores),.row 9 (els x.Now.Bodies),.row 1 (els x.Used),.row 2 (els x.Saves)]⟩:St)) (X3 [0,1,2,3,4,5,6,7,8,9,10,11] Aqb) ?_;refine M1 (Zs J J (to_IntS x.Sums Aqa) J J J) J J ?_;refine Wz [30,152] ?_;refine AL.weak (st':=(⟨_,[(1,Aqf 0),(2,Aqf 1),(3,Aqf 2),(41,.o (.ag ((Enc.e x.Fault).map (V1.rd []))))],[.box (Aqi x),.box [Aqh 0,Aqh 0,Aqh 0,Aqh 0,Aqj,Aqj,Aqh 0,Aqh 0,Aqj,Aqj,Aqj,Aqh 0,Aqh 0,Aqj,Aqj,Aqj,Aqj,Aqj,Aqh 0,Aqh 0,Aqh 0,Aqh 0,Aqh 0],.box [Aqh x.Me,Aqh x.Delay,Aqh x.Ahead,Aqh x.Seed,.ref 3,.ref 4,Aqh x.Base.Tick,Aqh x.Base.Seed,.ref 5,.ref 6,.ref 7,Aqh x.Now.Tick,Aqh x.Now.Seed,.ref 8,.ref 9,.ref 10,.ref 11,.ref 12,Aqh 0,Aqh 0,Aqh 0,Aqh 0,Aqh 0],.row 1 (els x.Tracks),.row 1 (els x.Base.Level.Rows),.row 1 (els x.Base.Scores),.row 9 (els x.Base.Bodies),.row 1 (els x.Now.Level.Rows),.row 1 (els x.Now.Scores),.row 9 (els x.Now.Bodies),.row 1 (els x.Used),.row 2 (els x.Saves),.row 1 (els x.Sums)]⟩:St)) (X3 [0,1,2,3,4,5,6,7,8,9,10,11,12] Aqb) ?_;refine M1 (Zs J J (to_Fault x.Fault Aqa) J J J) J J ?_;refine AL.weak (st':=(⟨_,[(1,Aqf 0),(2,Aqf 1),(3,Aqf 2),(42,.o (.ag ((Enc.e x.Fault).map (V1.rd []))))],[.box (Aqi x),.box [Aqh 0,Aqh 0,Aqh 0,Aqh 0,Aqj,Aqj,Aqh 0,Aqh 0,Aqj,Aqj,Aqj,Aqh 0,Aqh 0,Aqj,Aqj,Aqj,Aqj,Aqj,Aqh 0,Aqh 0,Aqh 0,Aqh 0,Aqh 0],.box [Aqh x.Me,Aqh x.Delay,Aqh x.Ahead,Aqh x.Seed,.ref 3,.ref 4,Aqh x.Base.Tick,Aqh x.Base.Seed,.ref 5,.ref 6,.ref 7,Aqh x.Now.Tick,Aqh x.Now.Seed,.ref 8,.ref 9,.ref 10,.ref 11,.ref 12,Aqh 0,Aqh 0,Aqh 0,Aqh 0,Aqh 0],.row 1 (els x.Tracks),.row 1 (els x.Base.Level.Rows),.row 1 (els x.Base.Scores),.row 9 (els x.Base.Bodies),.row 1 (els x.Now.Level.Rows),.row 1 (els x.Now.Scores),.row 9 (els x.Now.Bodies),.row 1 (els x.Used),.row 2 (els x.Saves),.row 1 (els x.Sums)]⟩:St)) (X3 [0,1,2,3,4,5,6,7,8,9,10,11,12] Aqb) ?_;refine Wz [55,48,23,45,30,3] ?_;refine AL.weak (st':=(⟨_,[(2,Aqf 1),(3,Aqf 2)],[.box (Aqi x),.box [Aqh 0,Aqh 0,Aqh 0,Aqh 0,Aqj,Aqj,Aqh 0,Aqh 0,Aqj,Aqj,Aqj,Aqh 0,Aqh 0,Aqj,Aqj,Aqj,Aqj,Aqj,Aqh 0,Aqh 0,Aqh 0,Aqh 0,Aqh 0],.box [Aqh x.Me,Aqh x.Delay,Aqh x.Ahead,Aqh x.Seed,.ref 3,.ref 4,Aqh x.Base.Tick,Aqh x.Base.Seed,.ref 5,.ref 6,.ref 7,Aqh x.Now.Tick,Aqh x.Now.Seed,.ref 8,.ref 9,.ref 10,.ref 11,.ref 12,Aqh x.Fault.Tick,Aqh x.Fault.Player,Aqh x.Fault.Add,Aqh x.Rolls,Aqh x.Again],.row 1 (els x.Tracks),.row 1 (els x.Base.Level.Rows),.row 1 (els x.Base.Scores),.row 9 (els x.Base.Bodies),.row 1 (els x.Now.Level.Rows),.row 1 (els x.Now.Scores),.row 9 (els x.Now.Bodies),.row 1 (els x.Used),.row 2 (els x.Saves),.row 1 (els x.Sums)]⟩:St)) (X3 [0,1,2,3,4,5,6,7,8,9,10,11,12] Aqb) ?_;refine z4 J J J ?_;refine AL.weak (st':=(⟨_,[(2,Aqf 1),(50,.o (.ag [Aqh x.Me,Aqh x.Delay,Aqh x.Ahead,Aqh x.Seed,.ref 3,.ref 4,Aqh x.Base.Tick,Aqh x.Base.Seed,.ref 5,.ref 6,.ref 7,Aqh x.Now.Tick,Aqh x.Now.Seed,.ref 8,.ref 9,.ref 10,.ref 11,.ref 12,Aqh x.Fault.Tick,Aqh x.Fault.Player,Aqh x.Fault.Add,Aqh x.Rolls,Aqh x.Again]))],[.box (Aqi x),.box [Aqh 0,Aqh 0,Aqh 0,Aqh 0,Aqj,Aqj,Aqh 0,Aqh 0,Aqj,Aqj,Aqj,Aqh 0,Aqh 0,Aqj,Aqj,Aqj,Aqj,Aqj,Aqh 0,Aqh 0,Aqh 0,Aqh 0,Aqh 0],.box [Aqh x.Me,Aqh x.Delay,Aqh x.Ahead,Aqh x.Seed,.ref 3,.ref 4,Aqh x.Base.Tick,Aqh x.Base.Seed,.ref 5,.ref 6,.ref 7,Aqh x.Now.Tick,Aqh x.Now.Seed,.ref 8,.ref 9,.ref 10,.ref 11,.ref 12,Aqh x.Fault.Tick,Aqh x.Fault.Player,Aqh x.Fault.Add,Aqh x.Rolls,Aqh x.Again],.row 1 (els x.Tracks),.row 1 (els x.Base.Level.Rows),.row 1 (els x.Base.Scores),.row 9 (els x.Base.Bodies),.row 1 (els x.Now.Level.Rows),.row 1 (els x.Now.Scores),.row 9 (els x.Now.Bodies),.row 1 (els x.Used),.row 2 (els x.Saves),.row 1 (els x.Sums)]⟩:St)) (X3 [0,1,2,3,4,5,6,7,8,9,10,11,12] Aqb) ?_;refine Qy J J J J J J J J J ?_;refine AL.weak (st':=(⟨_,[(2,Aqf 1)],[.box (Aqi x),.box [Aqh x.Me,Aqh x.Delay,Aqh x.Ahead,Aqh x.Seed,.ref 3,.ref 4,Aqh x.Base.Tick,Aqh x.Base.Seed,.ref 5,.ref 6,.ref 7,Aqh x.Now.Tick,Aqh x.Now.Seed,.ref 8,.ref 9,.ref 10,.ref 11,.ref 12,Aqh x.Fault.Tick,Aqh x.Fault.Player,Aqh x.Fault.Add,Aqh x.Rolls,Aqh x.Again],.box [Aqh x.Me,Aqh x.Delay,Aqh x.Ahead,Aqh x.Seed,.ref 3,.ref 4,Aqh x.Base.Tick,Aqh x.Base.Seed,.ref 5,.ref 6,.ref 7,Aqh x.Now.Tick,Aqh x.Now.Seed,.ref 8,.ref 9,.ref 10,.ref 11,.ref 12,Aqh x.Fault.Tick,Aqh x.Fault.Player,Aqh x.Fault.Add,Aqh x.Rolls,Aqh x.Again],.row 1 (els x.Tracks),.row 1 (els x.Base.Level.Rows),.row 1 (els x.Base.Scores),.row 9 (els x.Base.Bodies),.row 1 (els x.Now.Level.Rows),.row 1 (els x.Now.Scores),.row 9 (els x.Now.Bodies),.row 1 (els x.Used),.row 2 (els x.Saves),.row 1 (els x.Sums)]⟩:St)) (X4 [0,1,2,3,4,5,6,7,8,9,10,11,12] Aqc J ( Aqb) (.c J (.nil))) ?_;refine Wz [6,49] ?_;refine Xk (cs := [Aqh x.Me,Aqh x.Delay,Aqh x.Ahead,Aqh x.Seed,.ref 3,.ref 4,Aqh x.Base.Tick,Aqh x.Base.Seed,.ref 5,.ref 6,.ref 7,Aqh x.Now.Tick,Aqh x.Now.Seed,.ref 8,.ref 9,.ref 10,.ref 11,.ref 12,Aqh x.Fault.Tick,Aqh x.Fault.Player,Aqh x.Fault.Add,Aqh x.Rolls,Aqh x.Again]) J J J J ?_
 exact X1 [3,4,5,6,7,8,9,10,11,12] Aqc J Aqb Aqb 
theorem sz_Peer (x:TPeer) (left:Int) (hg:Enc.gd x) (h0:0≤left) (h1:left≤1048576):Con Tryz.prog 112 [] [ag x,ai left] [] (I (szr (Enc.wt x) left)):=by
 obtain⟨g_Me,g_Delay,g_Ahead,g_Seed,g_Tracks,g_Base,g_Now,g_Used,g_Saves,g_Sums,g_Fault,g_Rolls,g_Again⟩:=hg
 have hw:Enc.wt x=Enc.wt x.Tracks+Enc.wt x.Base+Enc.wt x.Now+Enc.wt x.Used+Enc.wt x.Saves+Enc.wt x.Sums+Enc.wt x.Fault:=rfl
 have hm1:decide ((-1:Int)<0)=true:=rfl
 have hz_Fault:Enc.wt x.Fault=0:=rfl
 have hc_Tracks:=sz_TrackS x.Tracks (left) g_Tracks Aqa Aqa 
 by_cases n_Tracks:left<Enc.wt x.Tracks
 ·rw[Kq n_Tracks] at hc_Tracks
  refine Con.of Tryz.func112 J Tryz.ntmps112 J (fun E => ?_)
  refine Wz [21,75] ?_;refine zx (Qj J J (hc_Tracks) J) J ?_;refine Wz [119,26] ?_
  exact Xl J J (X1 [] Aqc J J (Xq (by rw[Kq Aqa])))
 rw[Kr Aqa] at hc_Tracks
 have hb_Tracks:decide (left-Enc.wt x.Tracks<0)=false:=Gqa Aqa 
 have hc_Base:=sz_World x.Base (left-Enc.wt x.Tracks) g_Base Aqa Aqa 
 by_cases n_Base:left-Enc.wt x.Tracks<Enc.wt x.Base
 ·rw[Kq n_Base] at hc_Base
  refine Con.of Tryz.func112 J Tryz.ntmps112 J (fun E => ?_)
  refine Wz [21,75] ?_;refine zx (Qj J J (hc_Tracks) J) J ?_;refine Wz [83,101] ?_;refine zx (Qj J J (hc_Base) J) J ?_;refine Wz [119,26] ?_
  exact Xl J J (X1 [] Aqc J J (Xq (by rw[Kq Aqa])))
 rw[Kr Aqa] at hc_Base
 have hb_Base:decide (left-Enc.wt x.Tracks-Enc.wt x.Base<0)=false:=Gqa Aqa 
 have hc_Now:=sz_World x.Now (left-Enc.wt x.Tracks-Enc.wt x.Base) g_Now Aqa Aqa 
 by_cases n_Now:left-Enc.wt x.Tracks-Enc.wt x.Base<Enc.wt x.Now
 ·rw[Kq n_Now] at hc_Now
  refine Con.of Tryz.func112 J Tryz.ntmps112 J (fun E => ?_)
  refine Wz [21,75] ?_;refine zx (Qj J J (hc_Tracks) J) J ?_;refine Wz [83,101] ?_;refine zx (Qj J J (hc_Base) J) J ?_;refine Wz [83,101] ?_;refine zx (Qj J J (hc_Now) J) J ?_;refine Wz [119,26] ?_
  exact Xl J J (X1 [] Aqc J J (Xq (by rw[Kq Aqa])))
 rw[Kr Aqa] at hc_Now
 have hb_Now:decide (left-Enc.wt x.Tracks-Enc.wt x.Base-Enc.wt x.Now<0)=false:=Gqa Aqa 
 have hc_Used:=sz_IntSS x.Used (left-Enc.wt x.Tracks-Enc.wt x.Base-Enc.wt x.Now) g_Used Aqa Aqa 
 by_cases n_Used:left-Enc.wt x.Tracks-Enc.wt x.Base-Enc.wt x.Now<Enc.wt x.Used
 ·rw[Kq n_Used] at hc_Used
  refine Con.of Tryz.func112 J Tryz.ntmps112 J (fun E => ?_)
  refine Wz [21,75] ?_;refine zx (Qj J J (hc_Tracks) J) J ?_;refine Wz [83,101] ?_;refine zx (Qj J J (hc_Base) J) J ?_;refine Wz [83,101] ?_;refine zx (Qj J J (hc_Now) J) J ?_;refine Wz [27] ?_;refine zx (Qj J J (hc_Used) J) J ?_;refine Wz [119,26] ?_
  exact Xl J J (X1 [] Aqc J J (Xq (by rw[Kq Aqa])))
 rw[Kr Aqa] at hc_Used
 have hb_Used:decide (left-Enc.wt x.Tracks-Enc.wt x.Base-Enc.wt x.Now-Enc.wt x.Used<0)=false:=Gqa Aqa 
 have hc_Saves:=sz_SaveS x.Saves (left-Enc.wt x.Tracks-Enc.wt x.Base-Enc.wt x.Now-Enc.wt x.Used) g_Saves Aqa Aqa 
 by_cases n_Saves:left-Enc.wt x.Tracks-Enc.wt x.Base-Enc.wt x.Now-Enc.wt x.Used<Enc.wt x.Saves
 ·rw[Kq n_Saves] at hc_Saves
  refine Con.of Tryz.func112 J Tryz.ntmps112 J (fun E => ?_)
  refine Wz [21,75] ?_;refine zx (Qj J J (hc_Tracks) J) J ?_;refine Wz [83,101] ?_;refine zx (Qj J J (hc_Base) J) J ?_;refine Wz [83,101] ?_;refine zx (Qj J J (hc_Now) J) J ?_;refine Wz [27] ?_;refine zx (Qj J J (hc_Used) J) J ?_;refine Wz [27] ?_;refine zx (Qj J J (hc_Saves) J) J ?_;refine Wz [119,26] ?_
  exact Xl J J (X1 [] Aqc J J (Xq (by rw[Kq Aqa])))
 rw[Kr Aqa] at hc_Saves
 have hb_Saves:decide (left-Enc.wt x.Tracks-Enc.wt x.Base-Enc.wt x.Now-Enc.wt x.Used-Enc.wt x.Saves<0)=false:=Gqa Aqa 
 have hc_Sums:=sz_IntS x.Sums (left-Enc.wt x.Tracks-Enc.wt x.Base-Enc.wt x.Now-Enc.wt x.Used-Enc.wt x.Saves) g_Sums Aqa Aqa 
 by_cases n_Sums:left-Enc.wt x.Tracks-Enc.wt x.Base-Enc.wt x.Now-Enc.wt x.Used-Enc.wt x.Saves<Enc.wt x.Sums
 ·rw[Kq n_Sums] at hc_Sums
  refine Con.of Tryz.func112 J Tryz.ntmps112 J (fun E => ?_)
  refine Wz [21,75] ?_;refine zx (Qj J J (hc_Tracks) J) J ?_;refine Wz [83,101] ?_;refine zx (Qj J J (hc_Base) J) J ?_;refine Wz [83,101] ?_;refine zx (Qj J J (hc_Now) J) J ?_;refine Wz [27] ?_;refine zx (Qj J J (hc_Used) J) J ?_;refine Wz [27] ?_;refine zx (Qj J J (hc_Saves) J) J ?_;refine Wz [27] ?_;refine zx (Qj J J (hc_Sums) J) J ?_;refine Wz [119,26] ?_
  exact Xl J J (X1 [] Aqc J J (Xq (by rw[Kq Aqa])))
 rw[Kr Aqa] at hc_Sums
 have hb_Sums:decide (left-Enc.wt x.Tracks-Enc.wt x.Base-Enc.wt x.Now-Enc.wt x.Used-Enc.wt x.Saves-Enc.wt x.Sums<0)=false:=Gqa Aqa 
 refine Con.of Tryz.func112 J Tryz.ntmps112 J (fun E => ?_)
 refine Wz [21,75] ?_;refine zx (Qj J J (hc_Tracks) J) J ?_;refine Wz [83,101] ?_;refine zx (Qj J J (hc_Base) J) J ?_;refine Wz [83,101] ?_;refine zx (Qj J J (hc_Now) J) J ?_;refine Wz [27] ?_;refine zx (Qj J J (hc_Used) J) J ?_;refine Wz [27] ?_;refine zx (Qj J J (hc_Saves) J) J ?_;refine Wz [27] ?_;refine zx (Qj J J (hc_Sums) J) J ?_;refine Wz [83,164] ?_
 exact Xl J J (X1 [] Aqc J J (Xq (by rw[Kr Aqa]; omega)))
theorem eq_Peer (x y:TPeer) (hg:Enc.gd x):Con Tryz.prog 145 [] [ag x,ag y] [] (B (decide (x=y))):=by
 obtain⟨g_Me,g_Delay,g_Ahead,g_Seed,g_Tracks,g_Base,g_Now,g_Used,g_Saves,g_Sums,g_Fault,g_Rolls,g_Again⟩:=hg
 by_cases e_Me:¬x.Me=y.Me
 ·have hk:decide (x.Me≠y.Me)=true:=by simp[e_Me]
  refine Con.of Tryz.func145 J Tryz.ntmps145 J (fun E => ?_)
  refine Wz [42,41] ?_
  exact Xl J J (X1 [] Aqc J J (Xi (Gqa fun e=>e_Me (by rw[e])).symm))
 have e_Me:=Classical.not_not.1 e_Me
 have k_Me:decide (x.Me≠y.Me)=false:=by simp[e_Me]
 by_cases e_Delay:¬x.Delay=y.Delay
 ·have hk:decide (x.Delay≠y.Delay)=true:=by simp[e_Delay]
  refine Con.of Tryz.func145 J Tryz.ntmps145 J (fun E => ?_)
  refine Wz [42,108,41] ?_
  exact Xl J J (X1 [] Aqc J J (Xi (Gqa fun e=>e_Delay (by rw[e])).symm))
 have e_Delay:=Classical.not_not.1 e_Delay
 have k_Delay:decide (x.Delay≠y.Delay)=false:=by simp[e_Delay]
 by_cases e_Ahead:¬x.Ahead=y.Ahead
 ·have hk:decide (x.Ahead≠y.Ahead)=true:=by simp[e_Ahead]
  refine Con.of Tryz.func145 J Tryz.ntmps145 J (fun E => ?_)
  refine Wz [42,115,41] ?_
  exact Xl J J (X1 [] Aqc J J (Xi (Gqa fun e=>e_Ahead (by rw[e])).symm))
 have e_Ahead:=Classical.not_not.1 e_Ahead
 have k_Ahead:decide (x.Ahead≠y.Ahead)=false:=by simp[e_Ahead]
 by_cases e_Seed:¬x.Seed=y.Seed
 ·have hk:decide (x.Seed≠y.Seed)=true:=by simp[e_Seed]
  refine Con.of Tryz.func145 J Tryz.ntmps145 J (fun E => ?_)
  refine Wz [42,115,108,41] ?_
  exact Xl J J (X1 [] Aqc J J (Xi (Gqa fun e=>e_Seed (by rw[e])).symm))
 have e_Seed:=Classical.not_not.1 e_Seed
 have k_Seed:decide (x.Seed≠y.Seed)=false:=by simp[e_Seed]
 by_cases e_Tracks:¬x.Tracks=y.Tracks
 ·have hc:=eq_TrackS x.Tracks y.Tracks g_Tracks
  rw[Gqa e_Tracks] at hc
  refine Con.of Tryz.func145 J Tryz.ntmps145 J (fun E => ?_)
  refine Wz [42,122] ?_;refine zx (Qj J J (hc) J) J ?_;refine Wz [5,26] ?_
  exact Xl J J (X1 [] Aqc J J (Xi (Gqa fun e=>e_Tracks (by rw[e])).symm))
 have e_Tracks:=Classical.not_not.1 e_Tracks
 have hc_Tracks:=eq_TrackS x.Tracks y.Tracks g_Tracks
 rw[Gqb e_Tracks] at hc_Tracks
 by_cases e_Base:¬x.Base=y.Base
 ·have hc:=eq_World x.Base y.Base g_Base
  rw[Gqa e_Base] at hc
  refine Con.of Tryz.func145 J Tryz.ntmps145 J (fun E => ?_)
  refine Wz [42,122] ?_;refine zx (Qj J J (hc_Tracks) J) J ?_;refine Wz [64,68] ?_;refine zx (Qj J J (hc) J) J ?_;refine Wz [5,26] ?_
  exact Xl J J (X1 [] Aqc J J (Xi (Gqa fun e=>e_Base (by rw[e])).symm))
 have e_Base:=Classical.not_not.1 e_Base
 have hc_Base:=eq_World x.Base y.Base g_Base
 rw[Gqb e_Base] at hc_Base
 by_cases e_Now:¬x.Now=y.Now
 ·have hc:=eq_World x.Now y.Now g_Now
  rw[Gqa e_Now] at hc
  refine Con.of Tryz.func145 J Tryz.ntmps145 J (fun E => ?_)
  refine Wz [42,122] ?_;refine zx (Qj J J (hc_Tracks) J) J ?_;refine Wz [64,68] ?_;refine zx (Qj J J (hc_Base) J) J ?_;refine Wz [64,68] ?_;refine zx (Qj J J (hc) J) J ?_;refine Wz [5,26] ?_
  exact Xl J J (X1 [] Aqc J J (Xi (Gqa fun e=>e_Now (by rw[e])).symm))
 have e_Now:=Classical.not_not.1 e_Now
 have hc_Now:=eq_World x.Now y.Now g_Now
 rw[Gqb e_Now] at hc_Now
 by_cases e_Used:¬x.Used=y.Used
 ·have hc:=eq_IntSS x.Used y.Used g_Used
  rw[Gqa e_Used] at hc
  refine Con.of Tryz.func145 J Tryz.ntmps145 J (fun E => ?_)
  refine Wz [42,122] ?_;refine zx (Qj J J (hc_Tracks) J) J ?_;refine Wz [64,68] ?_;refine zx (Qj J J (hc_Base) J) J ?_;refine Wz [64,68] ?_;refine zx (Qj J J (hc_Now) J) J ?_;refine Wz [16] ?_;refine zx (Qj J J (hc) J) J ?_;refine Wz [5,26] ?_
  exact Xl J J (X1 [] Aqc J J (Xi (Gqa fun e=>e_Used (by rw[e])).symm))
 have e_Used:=Classical.not_not.1 e_Used
 have hc_Used:=eq_IntSS x.Used y.Used g_Used
 rw[Gqb e_Used] at hc_Used
 by_cases e_Saves:¬x.Saves=y.Saves
 ·have hc:=eq_SaveS x.Saves y.Saves g_Saves
  rw[Gqa e_Saves] at hc
  refine Con.of Tryz.func145 J Tryz.ntmps145 J (fun E => ?_)
  refine Wz [42,122] ?_;refine zx (Qj J J (hc_Tracks) J) J ?_;refine Wz [64,68] ?_;refine zx (Qj J J (hc_Base) J) J ?_;refine Wz [64,68] ?_;refine zx (Qj J J (hc_Now) J) J ?_;refine Wz [16] ?_;refine zx (Qj J J (hc_Used) J) J ?_;refine Wz [16] ?_;refine zx (Qj J J (hc) J) J ?_;refine Wz [5,26] ?_
  exact Xl J J (X1 [] Aqc J J (Xi (Gqa fun e=>e_Saves (by rw[e])).symm))
 have e_Saves:=Classical.not_not.1 e_Saves
 have hc_Saves:=eq_SaveS x.Saves y.Saves g_Saves
 rw[Gqb e_Saves] at hc_Saves
 by_cases e_Sums:¬x.Sums=y.Sums
 ·have hc:=eq_IntS x.Sums y.Sums g_Sums
  rw[Gqa e_Sums] at hc
  refine Con.of Tryz.func145 J Tryz.ntmps145 J (fun E => ?_)
  refine Wz [42,122] ?_;refine zx (Qj J J (hc_Tracks) J) J ?_;refine Wz [64,68] ?_;refine zx (Qj J J (hc_Base) J) J ?_;refine Wz [64,68] ?_;refine zx (Qj J J (hc_Now) J) J ?_;refine Wz [16] ?_;refine zx (Qj J J (hc_Used) J) J ?_;refine Wz [16] ?_;refine zx (Qj J J (hc_Saves) J) J ?_;refine Wz [16] ?_;refine zx (Qj J J (hc) J) J ?_;refine Wz [5,26] ?_
  exact Xl J J (X1 [] Aqc J J (Xi (Gqa fun e=>e_Sums (by rw[e])).symm))
 have e_Sums:=Classical.not_not.1 e_Sums
 have hc_Sums:=eq_IntS x.Sums y.Sums g_Sums
 rw[Gqb e_Sums] at hc_Sums
 by_cases e_Fault:¬x.Fault=y.Fault
 ·have hc:=eq_Fault x.Fault y.Fault g_Fault
  rw[Gqa e_Fault] at hc
  refine Con.of Tryz.func145 J Tryz.ntmps145 J (fun E => ?_)
  refine Wz [42,122] ?_;refine zx (Qj J J (hc_Tracks) J) J ?_;refine Wz [64,68] ?_;refine zx (Qj J J (hc_Base) J) J ?_;refine Wz [64,68] ?_;refine zx (Qj J J (hc_Now) J) J ?_;refine Wz [16] ?_;refine zx (Qj J J (hc_Used) J) J ?_;refine Wz [16] ?_;refine zx (Qj J J (hc_Saves) J) J ?_;refine Wz [16] ?_;refine zx (Qj J J (hc_Sums) J) J ?_;refine Wz [64,68] ?_;refine zx (Qj J J (hc) J) J ?_;refine Wz [5,26] ?_
  exact Xl J J (X1 [] Aqc J J (Xi (Gqa fun e=>e_Fault (by rw[e])).symm))
 have e_Fault:=Classical.not_not.1 e_Fault
 have hc_Fault:=eq_Fault x.Fault y.Fault g_Fault
 rw[Gqb e_Fault] at hc_Fault
 by_cases e_Rolls:¬x.Rolls=y.Rolls
 ·have hk:decide (x.Rolls≠y.Rolls)=true:=by simp[e_Rolls]
  refine Con.of Tryz.func145 J Tryz.ntmps145 J (fun E => ?_)
  refine Wz [42,122] ?_;refine zx (Qj J J (hc_Tracks) J) J ?_;refine Wz [64,68] ?_;refine zx (Qj J J (hc_Base) J) J ?_;refine Wz [64,68] ?_;refine zx (Qj J J (hc_Now) J) J ?_;refine Wz [16] ?_;refine zx (Qj J J (hc_Used) J) J ?_;refine Wz [16] ?_;refine zx (Qj J J (hc_Saves) J) J ?_;refine Wz [16] ?_;refine zx (Qj J J (hc_Sums) J) J ?_;refine Wz [64,68] ?_;refine zx (Qj J J (hc_Fault) J) J ?_;refine Wz [16,41] ?_
  exact Xl J J (X1 [] Aqc J J (Xi (Gqa fun e=>e_Rolls (by rw[e])).symm))
 have e_Rolls:=Classical.not_not.1 e_Rolls
 have k_Rolls:decide (x.Rolls≠y.Rolls)=false:=by simp[e_Rolls]
 by_cases e_Again:¬x.Again=y.Again
 ·have hk:decide (x.Again≠y.Again)=true:=by simp[e_Again]
  refine Con.of Tryz.func145 J Tryz.ntmps145 J (fun E => ?_)
  refine Wz [42,122] ?_;refine zx (Qj J J (hc_Tracks) J) J ?_;refine Wz [64,68] ?_;refine zx (Qj J J (hc_Base) J) J ?_;refine Wz [64,68] ?_;refine zx (Qj J J (hc_Now) J) J ?_;refine Wz [16] ?_;refine zx (Qj J J (hc_Used) J) J ?_;refine Wz [16] ?_;refine zx (Qj J J (hc_Saves) J) J ?_;refine Wz [16] ?_;refine zx (Qj J J (hc_Sums) J) J ?_;refine Wz [64,68] ?_;refine zx (Qj J J (hc_Fault) J) J ?_;refine Wz [16,108,41] ?_
  exact Xl J J (X1 [] Aqc J J (Xi (Gqa fun e=>e_Again (by rw[e])).symm))
 have e_Again:=Classical.not_not.1 e_Again
 have k_Again:decide (x.Again≠y.Again)=false:=by simp[e_Again]
 refine Con.of Tryz.func145 J Tryz.ntmps145 J (fun E => ?_)
 refine Wz [42,122] ?_;refine zx (Qj J J (hc_Tracks) J) J ?_;refine Wz [64,68] ?_;refine zx (Qj J J (hc_Base) J) J ?_;refine Wz [64,68] ?_;refine zx (Qj J J (hc_Now) J) J ?_;refine Wz [16] ?_;refine zx (Qj J J (hc_Used) J) J ?_;refine Wz [16] ?_;refine zx (Qj J J (hc_Saves) J) J ?_;refine Wz [16] ?_;refine zx (Qj J J (hc_Sums) J) J ?_;refine Wz [64,68] ?_;refine zx (Qj J J (hc_Fault) J) J ?_;refine Wz [16,108,118,33,67] ?_
 exact Xl J J (X1 [] Aqc J J (Xi (Gqb (TPeer.same e_Me e_Delay e_Ahead e_Seed e_Tracks e_Base e_Now e_Used e_Saves e_Sums e_Fault e_Rolls e_Again)).symm))
end
end Go.Proofs.YtfklmiijhcajdaaGreat
