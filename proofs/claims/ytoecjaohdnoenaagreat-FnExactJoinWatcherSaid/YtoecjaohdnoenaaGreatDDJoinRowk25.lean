/-
  Rules, data and contracts of functions: part 26 of the proof.
  Conditions: those that each theorem names.
-/
import Derived.Test.YtoecjaohdnoenaaGreatDDJoinRowk24
set_option linter.unusedSimpArgs false
set_option linter.unusedVariables false
set_option maxRecDepth 8000
set_option maxHeartbeats 8000000
namespace Go.Proofs.YtoecjaohdnoenaaGreat
section
open Go.RowKit

theorem at_nat {α:Type} [Enc α] {xs:List α} {i:Int} (h:i.toNat<xs.length):(els xs)[i.toNat]? = some (Enc.e (xs[i.toNat]'h)):=by simp[els,h]
theorem world_ticks {w:TWorld} (h:worldOk w=true):0≤w.Tick∧w.Tick≤100000:=by
 have h2:=(Kr h).2.1
 rwa[Yu] at h2
section
variable {p:TPeer}
theorem no1 (h:(((!tracksOk p.Tracks || !worldOk p.Base) || !worldOk p.Now) || !decide (p.Base.Level=p.Now.Level))=true):¬PeerP p:=fun ⟨⟨q1,q2,q3,q4⟩,_⟩=>by
 rw[q1,q2,q3,Gqb q4] at h; exact absurd h (by decide)
theorem no2 (h:((decide ((p.Base.Scores.length:Int)≠p.Tracks.length) || decide ((p.Now.Scores.length:Int)≠p.Tracks.length)) || !faultOk p.Fault p.Tracks.length)=true):¬PeerP p:=fun ⟨_,⟨q1,q2,q3⟩,_⟩=>by
 rw[q3,Gqa (by omega),Gqa (by omega)] at h; exact absurd h (by decide)
theorem no3 (h:((!inR p.Me 0 ((p.Tracks.length:Int)-1) || !inR p.Delay 0 5) || !inR p.Ahead 1 8)=true):¬PeerP p:=fun ⟨_,_,⟨q1,q2,q3⟩,_⟩=>by
 rw[Yu.2 q1,Yu.2 q2,Yu.2 q3] at h; exact absurd h (by decide)
theorem no4 (h:((!inR p.Seed 0 65535 || !inR p.Rolls 0 1000000) || !inR p.Again 0 1000000)=true):¬PeerP p:=fun ⟨_,_,_,⟨q1,q2,q3⟩,_⟩=>by
 rw[Yu.2 q1,Yu.2 q2,Yu.2 q3] at h; exact absurd h (by decide)
theorem no5 (h:((!inR (p.Now.Tick-p.Base.Tick) 0 p.Ahead || decide ((p.Used.length:Int)≠p.Now.Tick-p.Base.Tick)) || decide ((p.Saves.length:Int)≠p.Now.Tick-p.Base.Tick))=true):¬PeerP p:=fun ⟨_,_,_,_,⟨q1,q2,q3⟩,_⟩=>by
 rw[Yu.2 q1,Gqa (by omega),Gqa (by omega)] at h; exact absurd h (by decide)
theorem fin_eq (h1:tracksOk p.Tracks=true∧worldOk p.Base=true∧worldOk p.Now=true∧p.Base.Level=p.Now.Level)
  (h2:p.Base.Scores.length=p.Tracks.length∧p.Now.Scores.length=p.Tracks.length∧faultOk p.Fault p.Tracks.length=true)
  (h3:(0≤p.Me∧p.Me≤(p.Tracks.length:Int)-1)∧(0≤p.Delay∧p.Delay≤5)∧(1≤p.Ahead∧p.Ahead≤8))
  (h4:(0≤p.Seed∧p.Seed≤65535)∧(0≤p.Rolls∧p.Rolls≤1000000)∧(0≤p.Again∧p.Again≤1000000))
  (h5:(0≤p.Now.Tick-p.Base.Tick∧p.Now.Tick-p.Base.Tick≤p.Ahead)∧(p.Used.length:Int)=p.Now.Tick-p.Base.Tick∧(p.Saves.length:Int)=p.Now.Tick-p.Base.Tick)
  (h6:(p.Used.all fun row=>rowOk row p.Tracks.length)=true∧∀ k (h:k<p.Saves.length),p.Saves[k].Tick=p.Base.Tick+k) :
  ((decide (p.Base.Tick≤(knownTicks p.Tracks:Nat))&&decide (p.Now.Tick≤(lenAt p.Tracks p.Me.toNat:Nat)))&&decide ((p.Sums.length:Int)=p.Base.Tick+1))=peerOk p:=by
 by_cases h7:p.Base.Tick≤knownTicks p.Tracks∧p.Now.Tick≤lenAt p.Tracks p.Me.toNat∧(p.Sums.length:Int)=p.Base.Tick+1
 ·rw[peer_T ⟨h1,h2,h3,h4,h5,h6,h7⟩,Gqb h7.1,Gqb h7.2.1,Gqb h7.2.2]; rfl
 ·rw[peer_F fun ⟨_,_,_,_,_,_,h8⟩=>h7 h8]
  rw[←Gxo]
  simp only[Gqk,decide_eq_true_eq]
  exact fun ⟨⟨a,b⟩,c⟩=>h7 ⟨a,b,c⟩
end
theorem I_PeerOk (x:TPeer) (hg:Enc.gd x):Con Tryz.prog 106 [] [ag x] [] (B (peerOk x)):=by
 obtain⟨gMe,gDe,gAh,gSe,gTr,gBa,gNo,gUs,gSa,gSu,gFa,gRo,gAg⟩:=hg
 have hlt:=Yf x.Tracks
 have hlu:=Yf x.Used
 have hls:=Yf x.Saves
 have hlm:=Yf x.Sums
 have hlb:=Yf x.Base.Scores
 have hln:=Yf x.Now.Scores
 have c1:=I_TracksOk x.Tracks gTr
 have c2:=I_WorldOk x.Base gBa
 have c3:=I_WorldOk x.Now gNo
 have c4:=I_sameLevel x.Base.Level x.Now.Level gBa.1
 have c5:=I_FaultOk x.Fault (els x.Tracks).length (by omega)
 have c6:=I_KnownTicks x.Tracks gTr
 refine Con.of Tryz.func106 J Tryz.ntmps106 J (fun E => ?_)
 refine Wz [47,41,14,36,18] ?_;refine zx (Qj J J (c1) J) J ?_;refine Wz [3,169,217] ?_;refine zx (Qt.grdF J J J (.hit (.hit .stop)) (fun hgrd=>Qj J J (c2) J)) J ?_;refine Wz [105,115,169,217] ?_;refine zx (Qt.grdF J J J (.hit (.hit .stop)) (fun hgrd=>Qj J J (c3) J)) J ?_;refine Wz [105,115,169,188,272,226,273] ?_;refine zx (Qt.grdF J J J (.hit (.hit (.hit (.hit (.hit .stop))))) (fun hgrd=>Qu J J J J J J)) J ?_;refine zx (Qt.grdF J J J (.hit (.hit (.hit (.hit (.hit (.hit .stop)))))) (fun hgrd=>Qj J J (c4) J)) J ?_;refine zx (Qt.grdF J J J (.hit (.hit (.hit (.hit (.hit (.hit (.hit .stop))))))) (fun hgrd=>Q3 J J J)) J ?_;refine Wz [43] ?_
 refine Q9 J (fun h1 => ?_) (fun h1 => ?_)
 ·rw[peer_F (no1 h1)]
  refine Wz [35] ?_
  exact Xk J J (Xw [] (by decide) J J J)
 simp only[Gql,Gqy,decide_eq_true_eq] at h1
 obtain⟨⟨⟨q1,q2⟩,q3⟩,q4⟩:=h1
 have tB:=world_ticks q2
 have tN:=world_ticks q3
 have tL:=tracks_spec q1
 refine AWP.pre (st':=(⟨_,[(1,.o (.c (.ptr 0 0))),(3,I (els x.Tracks).length)],[.box ((Enc.e x).map (V1.rd []))]⟩:St)) ?_ (Xy [0] (by kernel_rfl))
 refine Wz [48,81,18,123,160,169,188,214,221,274,275,115,169,217,168] ?_;refine zx (Qt.grdF J J J (.hit (.hit (.hit .stop))) (fun hgrd=>Qj J J (c5) J)) J ?_;refine Wz [257,43] ?_
 refine Q9 J (fun h2 => ?_) (fun h2 => ?_)
 ·rw[hlt,hlb,hln] at h2
  rw[peer_F (no2 h2)]
  refine Wz [35] ?_
  exact Xk J J (Xw [] (by decide) J J J)
 rw[hlt,hlb,hln] at h2
 simp only[Gql,Gqy,decide_eq_false_iff_not,Classical.not_not] at h2
 obtain⟨⟨q5,q6⟩,q7⟩:=h2
 refine AWP.pre (st':=(⟨_,[(1,.o (.c (.ptr 0 0))),(3,I (els x.Tracks).length)],[.box ((Enc.e x).map (V1.rd []))]⟩:St)) ?_ (Xy [0] (by kernel_rfl))
 refine Wz [48,18,0,74] ?_;refine zx (Qj J J (Xm x.Me 0 (((els x.Tracks).length:Int)-1)) J) J ?_;refine Wz [3,110] ?_;refine zx (Qt.grdF J J J (.hit (.hit .stop)) (fun hgrd=>Qj J J (Xm x.Delay 0 5) J)) J ?_;refine Wz [105,97] ?_;refine zx (Qt.grdF J J J (.hit (.hit .stop)) (fun hgrd=>Qj J J (Xm x.Ahead 1 8) J)) J ?_;refine Wz [105,43] ?_
 refine Q9 J (fun h3 => ?_) (fun h3 => ?_)
 ·rw[hlt] at h3
  rw[peer_F (no3 h3)]
  refine Wz [35] ?_
  exact Xk J J (Xw [] (by decide) J J J)
 rw[hlt] at h3
 simp only[Gql,Gqy,Yu] at h3
 obtain⟨⟨q8,q9⟩,q10⟩:=h3
 refine AWP.pre (st':=(⟨_,[(1,.o (.c (.ptr 0 0))),(3,I (els x.Tracks).length)],[.box ((Enc.e x).map (V1.rd []))]⟩:St)) ?_ (Xy [0] (by kernel_rfl))
 refine Wz [48,18] ?_;refine zx (Qj J J (Xm x.Seed 0 65535) J) J ?_;refine Wz [3,110] ?_;refine zx (Qt.grdF J J J (.hit (.hit .stop)) (fun hgrd=>Qj J J (Xm x.Rolls 0 1000000) J)) J ?_;refine Wz [105,97] ?_;refine zx (Qt.grdF J J J (.hit (.hit .stop)) (fun hgrd=>Qj J J (Xm x.Again 0 1000000) J)) J ?_;refine Wz [105,43] ?_
 refine Q9 J (fun h4 => ?_) (fun h4 => ?_)
 ·rw[peer_F (no4 h4)]
  refine Wz [35] ?_
  exact Xk J J (Xw [] (by decide) J J J)
 simp only[Gql,Gqy,Yu] at h4
 obtain⟨⟨q11,q12⟩,q13⟩:=h4
 refine AWP.pre (st':=(⟨_,[(1,.o (.c (.ptr 0 0))),(3,I (els x.Tracks).length)],[.box ((Enc.e x).map (V1.rd []))]⟩:St)) ?_ (Xy [0] (by kernel_rfl))
 refine Wz [64,1,81,18,81,18,74,46,18] ?_;refine zx (Qj J J (Xm (x.Now.Tick-x.Base.Tick) 0 x.Ahead) J) J ?_;refine Wz [3,110,150,176,164,97,150,176,164,43] ?_
 refine Q9 J (fun h5 => ?_) (fun h5 => ?_)
 ·rw[hlu,hls] at h5
  rw[peer_F (no5 h5)]
  refine Wz [35] ?_
  exact Xk J J (Xw [] (by decide) J J J)
 rw[hlu,hls] at h5
 simp only[Gql,Gqy,decide_eq_false_iff_not,Classical.not_not,Yu] at h5
 obtain⟨⟨q14,q15⟩,q16⟩:=h5
 refine AWP.pre (st':=(⟨_,[(1,.o (.c (.ptr 0 0))),(3,I (els x.Tracks).length)],[.box ((Enc.e x).map (V1.rd []))]⟩:St)) ?_ (Xy [0] (by kernel_rfl))
 refine Wz [48,18,123,102] ?_;refine Xf (fun m st=>∃ k:Nat,k+m=x.Used.length∧((x.Used.take k).all (fun row=>rowOk row x.Tracks.length)=true)∧st=(⟨_,[(1,.o (.c (.ptr 0 0))),(3,I (els x.Tracks).length),(120,L x.Used),(121,I (els x.Used).length),(122,I k)],[.box ((Enc.e x).map (V1.rd []))]⟩:St)) (x.Used.length) ⟨_,⟨0,by omega,by simp,J⟩,Xy [0] (by kernel_rfl)⟩ ?_
 rintro m_A _ ⟨k,hk_A,hp_A,rfl⟩
 refine Wz [1,38,20] ?_
 refine Q9 J (fun h => ?_) (fun h => ?_)
 ·have h3:k<x.Used.length:=by have:=Gqc h; omega
  have hat:=Yc h3
  have hc:=I_rowOk x.Used[k] (els x.Tracks).length (gUs.2 _ (Gqd h3))
  rw[hlt] at hc
  cases ho:rowOk x.Used[k] x.Tracks.length with
  |false =>
   rw[ho,←hlt] at hc
   rw[peer_F (fun hp=>by have:=hp.2.2.2.2.2.1.1; rw[all_no h3 ho] at this; cases this)]
   refine Wz [6,1,92,5,7] ?_;refine zx (Qj J J (hc) J) J ?_;refine Wz [3,17,51] ?_
   exact Xk J J (Xw [] (by decide) J J J)
  |true =>
   rw[ho,←hlt] at hc
   refine Wz [6,1,92,5,7] ?_;refine zx (Qj J J (hc) J) J ?_;refine Wz [3,79,128,59,75,8,0,4] ?_
   exact⟨x.Used.length-(k+1),by omega,_,⟨k+1,by omega,X3 hp_A h3 ho,J⟩,Xy [0] (by kernel_rfl)⟩
 have h3:¬((k:Int)<(els x.Used).length):=Gqe h
 have hall:=X1 hp_A (by omega)
 refine Wz [16,87,18,123,102] ?_;refine Xf (fun m st=>∃ j:Nat,j+m=x.Saves.length∧((∀ i (h:i<x.Saves.length),i<j→x.Saves[i].Tick=x.Base.Tick+i))∧st=(⟨_,[(1,.o (.c (.ptr 0 0))),(3,I (els x.Tracks).length),(132,L x.Saves),(133,I (els x.Saves).length),(134,I j)],[.box ((Enc.e x).map (V1.rd []))]⟩:St)) (x.Saves.length) ⟨_,⟨0,by omega,fun i _ hi=>absurd hi (Nat.not_lt_zero _),J⟩,Xy [0] (by kernel_rfl)⟩ ?_
 rintro m_D _ ⟨j,hk_D,hp_D,rfl⟩
 refine Wz [1,38,20] ?_
 refine Q9 J (fun h => ?_) (fun h => ?_)
 ·have h4:j<x.Saves.length:=by have:=Gqc h; omega
  have hat:=Yc h4
  by_cases ho:x.Saves[j].Tick=x.Base.Tick+j
  ·have hb:decide (x.Saves[j].Tick≠x.Base.Tick+j)=false:=Gqa (fun h=>h ho)
   refine Wz [6,9,37,40,149,30,41,81,18,0,8,83,79,128,59,75,8,0,4] ?_
   exact⟨x.Saves.length-(j+1),by omega,_,⟨j+1,by omega,fun i hi hij=>by by_cases e:i=j; subst e; exact ho; exact hp_D i hi (by omega),J⟩,Xy [0] (by kernel_rfl)⟩
  ·have hb:decide (x.Saves[j].Tick≠x.Base.Tick+j)=true:=Gqb ho
   rw[peer_F (fun hp=>ho (hp.2.2.2.2.2.1.2 j h4))]
   refine Wz [6,9,37,40,149,30,41,81,18,0,8,83,17,51] ?_
   exact Xk J J (Xw [] (by decide) J J J)
 have h4:¬((j:Int)<(els x.Saves).length):=Gqe h
 have hme:x.Me.toNat<x.Tracks.length:=by omega
 have hat:=at_nat (xs:=x.Tracks) hme
 have hti:=Yf x.Tracks[x.Me.toNat].Inputs
 have hla:=lenAt_is hme
 rw[←fin_eq ⟨q1,q2,q3,q4⟩ ⟨by omega,by omega,q7⟩ ⟨q8,q9,q10⟩ ⟨q11,q12,q13⟩ ⟨q14,q15,q16⟩ ⟨hall,fun i hi=>hp_D i hi (by omega)⟩,←hlm]
 by_cases k1:x.Base.Tick≤(knownTicks x.Tracks:Nat)
 ·have hb1:decide (x.Base.Tick≤((knownTicks x.Tracks:Nat):Int))=true:=Gqb k1
  by_cases k2:x.Now.Tick≤(lenAt x.Tracks x.Me.toNat:Nat)
  ·have hb2:decide (x.Now.Tick≤((els x.Tracks[x.Me.toNat].Inputs).length:Int))=true:=Gqb (by omega)
   rw[hb1,Gqb k2]
   refine Wz [16,20,276,191,13,13] ?_;refine DR.s (Qj J J (c6) J) J J ?_;refine Wz [227,11,29,29,147,192,158,207,208,29,258,145,11,29,207,208,29,259] ?_;refine DR.s (Qt.yes J J J (Zo J J J J)) J J ?_;refine Wz [145,228,12,4,99] ?_
   exact Xk J J (Xw [] (by decide) J J J)
  ·have hb2:decide (x.Now.Tick≤((els x.Tracks[x.Me.toNat].Inputs).length:Int))=false:=Gqa (by omega)
   rw[hb1,Gqa k2]
   refine Wz [16,20,276,191,13,13] ?_;refine DR.s (Qj J J (c6) J) J J ?_;refine Wz [227,11,29,29,147,192,158,207,208,29,258,145,11,70,70,96,228,12,4,99] ?_
   exact Xk J J (Xw [] (by decide) J J J)
 ·have hb1:decide (x.Base.Tick≤((knownTicks x.Tracks:Nat):Int))=false:=Gqa k1
  rw[hb1]
  refine Wz [16,20,276,191,13,13] ?_;refine DR.s (Qj J J (c6) J) J J ?_;refine Wz [227,11,70,70,70,96,11,70,70,96,228,12,4,99] ?_
  exact Xk J J (Xw [] (by decide) J J J)
end
section
open Go.RowKit

def flightOk (f:TFlight):Bool:=inR f.At 0 1100000&&inR (f.Data.size:Int) 1 20000
def WireP (w:TWire):Prop :=
 (inR w.Seed 0 65535=true∧inR w.Delay 0 12=true∧inR w.Jitter 0 12=true) ∧
 (inR w.Loss 0 100=true∧inR w.Copies 0 100=true∧inR w.Damage 0 100=true) ∧
 (inR w.Now 0 1000000=true∧inR w.Sent 0 1000000=true∧inR w.Lost 0 1000000=true) ∧
 w.Flights.length≤200∧w.Flights.all flightOk=true
instance (w:TWire):Decidable (WireP w):=by unfold WireP; infer_instance
def wireOk (w:TWire):Bool:=decide (WireP w)
def paceOk (q:TPace):Bool:=(((inR q.Newest 0 1000001&&inR q.Their 0 1000001)&&inR q.At 0 1000001)&&inR q.Trip 0 1000001)&&inR q.Samples 0 1000001
noncomputable def peerIn (m:TMatch) (i:Nat) (p:TPeer):Bool :=
 ((peerOk p&&decide (p.Me=(i:Int)))&&decide ((p.Tracks.length:Int)=(m.Scripts.length:Int)))&&((decide (p.Base.Level=m.Level)&&decide (p.Seed=m.Seed))&&decide (p.Delay=m.Delay))
def PeersP (m:TMatch):Prop:=m.Peers.length=m.Scripts.length∧∀ (i:Nat) p,m.Peers[i]? = some p→peerIn m i p=true
def LinkLen (m:TMatch) (i:Nat):Prop:=∀ ws qs ks,m.Wires[i]? = some ws→m.Paces[i]? = some qs→m.Acks[i]? = some ks→ws.length=m.Peers.length∧qs.length=m.Peers.length∧ks.length=m.Peers.length
def LinkAt (m:TMatch) (i j:Nat):Prop:=∀ ws qs ks p w q a,m.Wires[i]? = some ws→m.Paces[i]? = some qs→m.Acks[i]? = some ks→m.Peers[i]? = some p→ws[j]? = some w→qs[j]? = some q→ks[j]? = some a→wireOk w=true∧paceOk q=true∧inR a 0 (lenAt p.Tracks i:Nat)=true
def LinksP (m:TMatch):Prop :=
 (m.Wires.length=m.Peers.length∧m.Paces.length=m.Peers.length∧m.Acks.length=m.Peers.length) ∧
 ∀ i,i<m.Peers.length→LinkLen m i∧∀ j:Nat,j<m.Peers.length→LinkAt m i j
noncomputable def watcherIn (m:TMatch) (s:TSpectator) (l:TWire):Bool :=
 (wireOk l&&worldOk s.World)&&(decide (s.World.Level=m.Level)&&decide ((s.World.Scores.length:Int)=(m.Scripts.length:Int)))
def WatchersP (m:TMatch):Prop:=(m.Watchers.length≤3∧m.Lines.length=m.Watchers.length)∧∀ (k:Nat) s l,m.Watchers[k]? = some s→m.Lines[k]? = some l→watcherIn m s l=true
def HeadP (m:TMatch):Prop:=levelOk m.Level=true∧inR m.Seed 0 65535=true∧inR m.Delay 0 5=true∧inR m.Clock 0 1000=true∧inR m.Bad 0 1000000=true
def MatchP (m:TMatch):Prop:=HeadP m∧(1≤m.Scripts.length∧m.Scripts.length≤4)∧m.Scripts.all scriptOk=true∧PeersP m∧LinksP m∧WatchersP m
noncomputable def peersM (m:TMatch):Bool:=@decide (PeersP m) (Classical.propDecidable _)
noncomputable def linksM (m:TMatch):Bool:=@decide (LinksP m) (Classical.propDecidable _)
noncomputable def watchersM (m:TMatch):Bool:=@decide (WatchersP m) (Classical.propDecidable _)
noncomputable def matchOk (m:TMatch):Bool:=@decide (MatchP m) (Classical.propDecidable _)
theorem dT {P:Prop} (h:P):@decide P (Classical.propDecidable _)=true:=@decide_eq_true _ (Classical.propDecidable _) h
theorem dF {P:Prop} (h:¬P):@decide P (Classical.propDecidable _)=false:=@decide_eq_false _ (Classical.propDecidable _) h
theorem dS {P:Prop} (h:@decide P (Classical.propDecidable _)=true):P:=@of_decide_eq_true _ (Classical.propDecidable _) h
end
section
open Go.RowKit

theorem I_PaceOk (q:TPace):Con Tryz.prog 229 [] [ag q] [] (B (paceOk q)):=by
 refine Con.of Tryz.func229 J Tryz.ntmps229 J (fun E => ?_)
 refine Wz [47,41] ?_;refine zx (Qj J J (Xm q.Newest 0 1000001) J) J ?_;refine Wz [0,112,113] ?_;refine zx (Qt.grdT J J J (.hit (.hit .stop)) (fun hgrd=>Qj J J (Xm q.Their 0 1000001) J)) J ?_;refine Wz [49,0,112,113] ?_;refine zx (Qt.grdT J J J (.hit (.hit .stop)) (fun hgrd=>Qj J J (Xm q.At 0 1000001) J)) J ?_;refine Wz [49,0,112,113] ?_;refine zx (Qt.grdT J J J (.hit (.hit .stop)) (fun hgrd=>Qj J J (Xm q.Trip 0 1000001) J)) J ?_;refine Wz [49,0,112,113] ?_;refine zx (Qt.grdT J J J (.hit (.hit .stop)) (fun hgrd=>Qj J J (Xm q.Samples 0 1000001) J)) J ?_;refine Wz [49,52] ?_
 exact Xk J J (Xw [] (by decide) J J J)
theorem S_PaceOk (q:TPace):Con Tryz.prog 226 [] [ag q] [] (B (paceOk q)):=by
 refine Con.of Tryz.func226 J Tryz.ntmps226 J (fun E => ?_)
 refine Wz [47,41] ?_;refine zx (Qj J J (Xv q.Newest 0 1000001) J) J ?_;refine Wz [0,112,113] ?_;refine zx (Qt.grdT J J J (.hit (.hit .stop)) (fun hgrd=>Qj J J (Xv q.Their 0 1000001) J)) J ?_;refine Wz [49,0,112,113] ?_;refine zx (Qt.grdT J J J (.hit (.hit .stop)) (fun hgrd=>Qj J J (Xv q.At 0 1000001) J)) J ?_;refine Wz [49,0,112,113] ?_;refine zx (Qt.grdT J J J (.hit (.hit .stop)) (fun hgrd=>Qj J J (Xv q.Trip 0 1000001) J)) J ?_;refine Wz [49,0,112,113] ?_;refine zx (Qt.grdT J J J (.hit (.hit .stop)) (fun hgrd=>Qj J J (Xv q.Samples 0 1000001) J)) J ?_;refine Wz [49,52] ?_
 exact Xk J J (Xw [] (by decide) J J J)
section
variable {w:TWire}
theorem wno1 (h:((!inR w.Seed 0 65535 || !inR w.Delay 0 12) || !inR w.Jitter 0 12)=true):wireOk w=false:=Gqa fun ⟨⟨a,b,c⟩,_⟩=>by rw[a,b,c] at h; exact absurd h (by decide)
theorem wno2 (h:((!inR w.Loss 0 100 || !inR w.Copies 0 100) || !inR w.Damage 0 100)=true):wireOk w=false:=Gqa fun ⟨_,⟨a,b,c⟩,_⟩=>by rw[a,b,c] at h; exact absurd h (by decide)
theorem flight_no {f:TFlight} (h:(!inR f.At 0 1100000 || !inR (f.Data.size:Int) 1 20000)=true):flightOk f=false:=by
 rw[flightOk]
 cases h1:inR f.At 0 1100000
 ·rfl
 ·rw[h1] at h; simpa using h
theorem flight_yes {f:TFlight} (h:(!inR f.At 0 1100000 || !inR (f.Data.size:Int) 1 20000)=false):flightOk f=true:=by
 rw[flightOk]
 simpa using h
theorem wire_all (h1:((!inR w.Seed 0 65535 || !inR w.Delay 0 12) || !inR w.Jitter 0 12)=false) (h2:((!inR w.Loss 0 100 || !inR w.Copies 0 100) || !inR w.Damage 0 100)=false) (h3:((!inR w.Now 0 1000000 || !inR w.Sent 0 1000000) || !inR w.Lost 0 1000000)=false) (h4:w.Flights.length≤200) (h5:w.Flights.all flightOk=true):wireOk w=true:=by
 simp only[Gql,Gqy] at h1 h2 h3
 exact Gqb ⟨⟨h1.1.1,h1.1.2,h1.2⟩,⟨h2.1.1,h2.1.2,h2.2⟩,⟨h3.1.1,h3.1.2,h3.2⟩,h4,h5⟩
theorem wire_S {n:Nat} (h5:w.Flights.all flightOk=true) (hl:n=w.Flights.length):(((((((((decide ((n:Int)≤200)&&inR w.Seed 0 65535)&&inR w.Delay 0 12)&&inR w.Jitter 0 12)&&inR w.Loss 0 100)&&inR w.Copies 0 100)&&inR w.Damage 0 100)&&inR w.Now 0 1000000)&&inR w.Sent 0 1000000)&&inR w.Lost 0 1000000)=wireOk w:=by
 subst hl
 rw[Bool.eq_iff_iff]
 simp only[Gqk,decide_eq_true_eq,wireOk,WireP,h5]
 constructor
 ·intro ⟨⟨⟨⟨⟨⟨⟨⟨⟨a,b⟩,c⟩,d⟩,e⟩,f⟩,g⟩,h⟩,i⟩,j⟩
  exact⟨⟨b,c,d⟩,⟨e,f,g⟩,⟨h,i,j⟩,by omega,trivial⟩
 ·intro ⟨⟨b,c,d⟩,⟨e,f,g⟩,⟨h,i,j⟩,a,_⟩
  exact⟨⟨⟨⟨⟨⟨⟨⟨⟨by omega,b⟩,c⟩,d⟩,e⟩,f⟩,g⟩,h⟩,i⟩,j⟩
theorem wno3 (h:((!inR w.Now 0 1000000 || !inR w.Sent 0 1000000) || !inR w.Lost 0 1000000)=true):wireOk w=false:=Gqa fun ⟨_,_,⟨a,b,c⟩,_⟩=>by rw[a,b,c] at h; exact absurd h (by decide)
end
theorem I_WireOk (x:TWire) (hg:Enc.gd x):Con Tryz.prog 64 [] [ag x] [] (B (wireOk x)):=by
 obtain⟨gSe,gDe,gJi,gLo,gCo,gDa,gNo,gFl,gSt,gLt⟩:=hg
 have hl:=Yf x.Flights
 refine Con.of Tryz.func64 J Tryz.ntmps64 J (fun E => ?_)
 refine Wz [124,36,18] ?_;refine zx (Qj J J (Xm x.Seed 0 65535) J) J ?_;refine Wz [3,110] ?_;refine zx (Qt.grdF J J J (.hit (.hit .stop)) (fun hgrd=>Qj J J (Xm x.Delay 0 12) J)) J ?_;refine Wz [105,97] ?_;refine zx (Qt.grdF J J J (.hit (.hit .stop)) (fun hgrd=>Qj J J (Xm x.Jitter 0 12) J)) J ?_;refine Wz [105,43] ?_
 refine Q9 J (fun h1 => ?_) (fun h1 => ?_)
 ·rw[wno1 h1]
  refine Wz [35] ?_
  exact Xk J J (Xw [] (by decide) J J J)
 refine AWP.pre (st':=(⟨_,[(1,.o (.c (.ptr 0 0)))],[.box ((Enc.e x).map (V1.rd []))]⟩:St)) ?_ (Xy [0] (by kernel_rfl))
 refine Wz [48,18] ?_;refine zx (Qj J J (Xm x.Loss 0 100) J) J ?_;refine Wz [3,110] ?_;refine zx (Qt.grdF J J J (.hit (.hit .stop)) (fun hgrd=>Qj J J (Xm x.Copies 0 100) J)) J ?_;refine Wz [105,97] ?_;refine zx (Qt.grdF J J J (.hit (.hit .stop)) (fun hgrd=>Qj J J (Xm x.Damage 0 100) J)) J ?_;refine Wz [105,43] ?_
 refine Q9 J (fun h2 => ?_) (fun h2 => ?_)
 ·rw[wno2 h2]
  refine Wz [35] ?_
  exact Xk J J (Xw [] (by decide) J J J)
 refine AWP.pre (st':=(⟨_,[(1,.o (.c (.ptr 0 0)))],[.box ((Enc.e x).map (V1.rd []))]⟩:St)) ?_ (Xy [0] (by kernel_rfl))
 refine Wz [48,18] ?_;refine zx (Qj J J (Xm x.Now 0 1000000) J) J ?_;refine Wz [3,110] ?_;refine zx (Qt.grdF J J J (.hit (.hit .stop)) (fun hgrd=>Qj J J (Xm x.Sent 0 1000000) J)) J ?_;refine Wz [105,97] ?_;refine zx (Qt.grdF J J J (.hit (.hit .stop)) (fun hgrd=>Qj J J (Xm x.Lost 0 1000000) J)) J ?_;refine Wz [105,43] ?_
 refine Q9 J (fun h3 => ?_) (fun h3 => ?_)
 ·rw[wno3 h3]
  refine Wz [35] ?_
  exact Xk J J (Xw [] (by decide) J J J)
 refine AWP.pre (st':=(⟨_,[(1,.o (.c (.ptr 0 0)))],[.box ((Enc.e x).map (V1.rd []))]⟩:St)) ?_ (Xy [0] (by kernel_rfl))
 refine Wz [48,67,233,4] ?_
 refine Q9 J (fun h4 => ?_) (fun h4 => ?_)
 ·have h4:=Gqc h4
  rw[show wireOk x=false from Gqa fun ⟨_,_,_,q,_⟩=>by omega]
  refine Wz [35] ?_
  exact Xk J J (Xw [] (by decide) J J J)
 have h4:=Gqe h4
 refine AWP.pre (st':=(⟨_,[(1,.o (.c (.ptr 0 0)))],[.box ((Enc.e x).map (V1.rd []))]⟩:St)) ?_ (Xy [0] (by kernel_rfl))
 refine Wz [48,18,123,102] ?_;refine Xf (fun m st=>∃ k:Nat,k+m=x.Flights.length∧((x.Flights.take k).all flightOk=true)∧st=(⟨_,[(1,.o (.c (.ptr 0 0))),(58,L x.Flights),(59,I (els x.Flights).length),(60,I k)],[.box ((Enc.e x).map (V1.rd []))]⟩:St)) (x.Flights.length) ⟨_,⟨0,by omega,by simp,J⟩,Xy [0] (by kernel_rfl)⟩ ?_
 rintro m_A _ ⟨k,hk_A,hp_A,rfl⟩
 refine Wz [1,38,20] ?_
 refine Q9 J (fun h => ?_) (fun h => ?_)
 ·have h5:k<x.Flights.length:=by have:=Gqc h; omega
  have hat:=Yc h5
  refine Wz [6,1,37,40,30,41] ?_;refine zx (Qj J J (Xm x.Flights[k].At 0 1100000) J) J ?_;refine Wz [3,110] ?_;refine zx (Qt.grdF J J J (.hit (.hit .stop)) (fun hgrd=>Zx J J J)) J ?_;refine zx (Qt.grdF J J J (.hit (.hit (.hit .stop))) (fun hgrd=>Qj J J (Xm x.Flights[k].Data.size 1 20000) J)) J ?_;refine Wz [257,43] ?_
  refine Q9 J (fun h6 => ?_) (fun h6 => ?_)
  ·rw[show wireOk x=false from Gqa fun ⟨_,_,_,_,q⟩=>by rw[all_no h5 (flight_no h6)] at q; cases q]
   refine Wz [51] ?_
   exact Xk J J (Xw [] (by decide) J J J)
  ·refine Wz [128,59,75,8,0,127] ?_
   refine Qz ?_
   exact⟨x.Flights.length-(k+1),by omega,_,⟨k+1,by omega,X3 hp_A h5 (flight_yes h6),J⟩,Xy [0] (by kernel_rfl)⟩
 have h5:¬((k:Int)<(els x.Flights).length):=Gqe h
 rw[wire_all h1 h2 h3 (by omega) (X1 hp_A (by omega))]
 refine Wz [16,61] ?_
 exact Xk J J (Xw [] (by decide) J J J)
theorem S_WireOk (x:TWire) (hg:Enc.gd x):Con Tryz.prog 57 [] [ag x] [] (B (wireOk x)):=by
 obtain⟨gSe,gDe,gJi,gLo,gCo,gDa,gNo,gFl,gSt,gLt⟩:=hg
 have hl:=Yf x.Flights
 have hx:=gFl.1
 refine Con.of Tryz.func57 J Tryz.ntmps57 J (fun E => ?_)
 refine Wz [124,130] ?_;refine Xf (fun m st=>∃ k:Nat,k+m=x.Flights.length∧((x.Flights.take k).all flightOk=true)∧st=(⟨_,[(1,.o (.c (.ptr 0 0))),(3,I k)],[.box ((Enc.e x).map (V1.rd []))]⟩:St)) (x.Flights.length) ⟨_,⟨0,by omega,by simp,J⟩,Xy [0] (by kernel_rfl)⟩ ?_
 rintro m_A _ ⟨k,hk_A,hp_A,rfl⟩
 refine Wz [69,67,38] ?_
 refine Q9 J (fun h => ?_) (fun h => ?_)
 ·have h5:k<x.Flights.length:=by have:=Gqc h; omega
  have hat:=Yc h5
  refine Wz [6,71,119,195] ?_;refine zx (Qj J J (Xv x.Flights[k].At 0 1100000) J) J ?_;refine Wz [3,110,168,229] ?_;refine zx (Qt.grdF J J J (.hit (.hit (.hit (.hit .stop)))) (fun hgrd=>Zr J J J J (by decide))) J ?_;refine zx (Qt.grdF J J J (.hit (.hit (.hit (.hit (.hit .stop))))) (fun hgrd=>Zz J J J J)) J ?_;refine zx (Qt.grdF J J J (.hit (.hit (.hit (.hit (.hit (.hit .stop)))))) (fun hgrd=>Zx J J J)) J ?_;refine zx (Qt.grdF J J J (.hit (.hit (.hit (.hit (.hit (.hit (.hit .stop))))))) (fun hgrd=>Qj J J (Xv x.Flights[k].Data.size 1 20000) J)) J ?_;refine zx (Qt.grdF J J J (.hit (.hit (.hit (.hit (.hit (.hit (.hit (.hit .stop)))))))) (fun hgrd=>Q3 J J J)) J ?_;refine Wz [43] ?_
  refine Q9 J (fun h6 => ?_) (fun h6 => ?_)
  ·rw[show wireOk x=false from Gqa fun ⟨_,_,_,_,q⟩=>by rw[all_no h5 (flight_no h6)] at q; cases q]
   refine Wz [51] ?_
   exact Xk J J (Xw [] (by decide) J J J)
  ·refine Wz [128,266,8] ?_
   refine Wz [5] ?_
   exact⟨x.Flights.length-(k+1),by omega,_,⟨k+1,by omega,X3 hp_A h5 (flight_yes h6),J⟩,Xy [0] (by kernel_rfl)⟩
 have h5:¬((k:Int)<(els x.Flights).length):=Gqe h
 have hall:=X1 hp_A (by omega)
 refine Wz [16,41,14,199,0,112,113] ?_;refine zx (Qt.grdT J J J (.hit (.hit .stop)) (fun hgrd=>Qj J J (Xv x.Seed 0 65535) J)) J ?_;refine Wz [49,0,112,113] ?_;refine zx (Qt.grdT J J J (.hit (.hit .stop)) (fun hgrd=>Qj J J (Xv x.Delay 0 12) J)) J ?_;refine Wz [49,0,112,113] ?_;refine zx (Qt.grdT J J J (.hit (.hit .stop)) (fun hgrd=>Qj J J (Xv x.Jitter 0 12) J)) J ?_;refine Wz [49,0,112,113] ?_;refine zx (Qt.grdT J J J (.hit (.hit .stop)) (fun hgrd=>Qj J J (Xv x.Loss 0 100) J)) J ?_;refine Wz [49,0,112,113] ?_;refine zx (Qt.grdT J J J (.hit (.hit .stop)) (fun hgrd=>Qj J J (Xv x.Copies 0 100) J)) J ?_;refine Wz [49,0,112,113] ?_;refine zx (Qt.grdT J J J (.hit (.hit .stop)) (fun hgrd=>Qj J J (Xv x.Damage 0 100) J)) J ?_;refine Wz [49,0,112,113] ?_;refine zx (Qt.grdT J J J (.hit (.hit .stop)) (fun hgrd=>Qj J J (Xv x.Now 0 1000000) J)) J ?_;refine Wz [49,0,112,113] ?_;refine zx (Qt.grdT J J J (.hit (.hit .stop)) (fun hgrd=>Qj J J (Xv x.Sent 0 1000000) J)) J ?_;refine Wz [49,0,112,113] ?_;refine zx (Qt.grdT J J J (.hit (.hit .stop)) (fun hgrd=>Qj J J (Xv x.Lost 0 1000000) J)) J ?_;refine Wz [49,52] ?_
 exact Xk J J (Xw [] (by decide) J J (Xg (wire_S hall hl)))
end
section
open Go.RowKit

section
variable {m:TMatch} {k:Nat} {p:TPeer}
theorem pin_spec (h:peerIn m k p=true):(peerOk p=true∧p.Me=(k:Int)∧(p.Tracks.length:Int)=(m.Scripts.length:Int))∧p.Base.Level=m.Level∧p.Seed=m.Seed∧p.Delay=m.Delay:=by
 simp only[peerIn,Gqk,decide_eq_true_eq] at h
 exact⟨⟨h.1.1.1,h.1.1.2,h.1.2⟩,h.2.1.1,h.2.1.2,h.2.2⟩
theorem pin_no1 (h:((!peerOk p || decide (p.Me≠(k:Int))) || decide (((els p.Tracks).length:Int)≠((els m.Scripts).length:Int)))=true):¬peerIn m k p=true:=fun hp=>by
 obtain⟨⟨a,b,c⟩,_⟩:=pin_spec hp
 rw[a,Gqa (fun q=>q b),Yf,Yf,Gqa (fun q=>q c)] at h
 exact absurd h (by decide)
theorem pin_no2 (h:((!decide (p.Base.Level=m.Level) || decide (p.Seed≠m.Seed)) || decide (p.Delay≠m.Delay))=true):¬peerIn m k p=true:=fun hp=>by
 obtain⟨_,a,b,c⟩:=pin_spec hp
 rw[Gqb a,Gqa (fun q=>q b),Gqa (fun q=>q c)] at h
 exact absurd h (by decide)
theorem pin_yes (h:((!peerOk p || decide (p.Me≠(k:Int))) || decide (((els p.Tracks).length:Int)≠((els m.Scripts).length:Int)))=false) (h2:((!decide (p.Base.Level=m.Level) || decide (p.Seed≠m.Seed)) || decide (p.Delay≠m.Delay))=false):peerIn m k p=true:=by
 simp only[Gql,Gqy,decide_eq_false_iff_not,Classical.not_not,decide_eq_true_eq,Yf] at h h2
 simp only[peerIn,Gqk,decide_eq_true_eq]
 exact⟨⟨⟨h.1.1,h.1.2⟩,h.2⟩,⟨h2.1.1,h2.1.2⟩,h2.2⟩
theorem Ko {Q:Nat→Prop} (h:∀ i,i<k→Q i) (hk:Q k):∀ i,i<k+1→Q i:=fun i hi=>by
 by_cases e:i=k
 ·subst e; exact hk
 ·exact h i (by omega)
end
theorem I_peersOk (x:TMatch) (hg:Enc.gd x):Con Tryz.prog 165 [] [ag x] [] (B (peersM x)):=by
 obtain⟨gL,gS,gD,gSc,gP,gW,gPa,gA,gC,gWa,gLi,gAl,gB⟩:=hg
 have hlp:=Yf x.Peers
 have hx:=gP.1
 have hls:=Yf x.Scripts
 refine Con.of Tryz.func165 J Tryz.ntmps165 J (fun E => ?_)
 refine Wz [124,36,67,67,160,4] ?_
 refine Q9 J (fun h1 => ?_) (fun h1 => ?_)
 ·have h1:=Gqc h1
  rw[show peersM x=false from dF fun hp=>h1 (by rw[hlp,hls,hp.1])]
  refine Wz [35] ?_
  exact Xk J J (Xw [] (by decide) J J J)
 have h1:x.Peers.length=x.Scripts.length:=by have:=Gqe h1; omega
 refine AWP.pre (st':=(⟨_,[(1,.o (.c (.ptr 0 0)))],[.box ((Enc.e x).map (V1.rd []))]⟩:St)) ?_ (Xy [0] (by kernel_rfl))
 refine Wz [48,18,123,102] ?_;refine Xf (fun m st=>∃ k:Nat,k+m=x.Peers.length∧((∀ i,i<k→∀ p,x.Peers[i]? = some p→peerIn x i p=true))∧st=(⟨_,[(1,.o (.c (.ptr 0 0))),(13,L x.Peers),(14,I (els x.Peers).length),(15,I k)],[.box ((Enc.e x).map (V1.rd []))]⟩:St)) (x.Peers.length) ⟨_,⟨0,by omega,fun i hi=>absurd hi (Nat.not_lt_zero _),J⟩,Xy [0] (by kernel_rfl)⟩ ?_
 rintro m_A _ ⟨k,hk_A,hp_A,rfl⟩
 refine Wz [1,38,20] ?_
 refine Q9 J (fun h => ?_) (fun h => ?_)
 ·have h3:k<x.Peers.length:=by have:=Gqc h; omega
  have hat:=Yc h3
  have hq:=Gqg h3
  have gp:=gP.2 _ (Gqd h3)
  generalize x.Peers[k]=p at hat hq gp
  have c1:=I_PeerOk p gp
  have c2:=I_sameLevel p.Base.Level x.Level gp.2.2.2.2.2.1.1
  repeat (first | refine Qd ?_ | refine Qh ?_ | refine Qk ?_ | refine Qz ?_)
  refine Wz [106,37] ?_;refine AL.weak (st':=(⟨_,[(1,.o (.c (.ptr 0 0))),(13,L x.Peers),(14,I (els x.Peers).length),(15,I k),(17,I k),(19,.o (.ag ((Enc.e p).map (V1.rd []))))],[.box ((Enc.e x).map (V1.rd []))]⟩:St)) (Xz [0] (by decide) J (by kernel_rfl) (.c J (.c J (.c J (.c J (.c J (.cons (by kernel_rfl) (.nil)))))))) ?_;refine Wz [40,149,77] ?_;refine AL.weak (st':=(⟨_,[(1,.o (.c (.ptr 0 0))),(13,L x.Peers),(14,I (els x.Peers).length),(15,I k),(3,I k),(4,.o (.c (.ptr 1 0)))],[.box ((Enc.e x).map (V1.rd [])),.box ((Enc.e p).map (V1.rd []))]⟩:St)) (Xz [0,1] (by decide) J ((by kernel_rfl)) (.c J (.c J (.c J (.c J (.c J (.c J (.nil)))))))) ?_;refine Wz [4,87,53] ?_;refine zx (Qj J J (c1) J) J ?_;refine Wz [3,110,168,271,97,150,226,277,218,278,43] ?_
  refine Q9 J (fun h4 => ?_) (fun h4 => ?_)
  ·rw[show peersM x=false from dF fun hp=>pin_no1 h4 (hp.2 k p hq)]
   refine Wz [66,82,139,31] ?_
   exact Xk J J (Xw [] (by decide) J J J)
  refine AWP.pre (st':=(⟨_,[(1,.o (.c (.ptr 0 0))),(13,L x.Peers),(14,I (els x.Peers).length),(15,I k),(3,I k),(4,.o (.c (.ptr 1 0)))],[.box ((Enc.e x).map (V1.rd [])),.box ((Enc.e p).map (V1.rd []))]⟩:St)) ?_ (Xy [0,1] (by kernel_rfl))
  refine Wz [64,1,81,55] ?_;refine zx (Qj J J (c2) J) J ?_;refine Wz [3,110,247,260,164,97,247,260,164,43] ?_
  refine Q9 J (fun h5 => ?_) (fun h5 => ?_)
  ·rw[show peersM x=false from dF fun hp=>pin_no2 h5 (hp.2 k p hq)]
   refine Wz [51] ?_
   exact Xk J J (Xw [] (by decide) J J J)
  refine AWP.pre (st':=(⟨_,[(1,.o (.c (.ptr 0 0))),(13,L x.Peers),(14,I (els x.Peers).length),(15,I k)],[.box ((Enc.e x).map (V1.rd []))]⟩:St)) ?_ (Xy [0] (by kernel_rfl))
  refine Wz [128,59,75,8,0,4] ?_
  exact⟨x.Peers.length-(k+1),by omega,_,⟨k+1,by omega,Ko hp_A fun p' hp'=>by rw[hq] at hp'; cases hp'; exact pin_yes h4 h5,J⟩,Xy [0] (by kernel_rfl)⟩
 have h3:¬k<x.Peers.length:=by have:=Gqe h; omega
 rw[show peersM x=true from dT ⟨h1,fun i p hi=>hp_A i (by have:=(Gqm.1 hi).1; omega) p hi⟩]
 refine Wz [16,61] ?_
 exact Xk J J (Xw [] (by decide) J J J)
theorem Yi {α:Type} [Enc α] {xs:List α} {i:Nat} {x:α} (h:xs[i]? = some x):(els xs)[(i:Int).toNat]? = some (Enc.e x):=by simp[els,h]
theorem lenAt_some {l:List TTrack} {k:Nat} {t:TTrack} (h:l[k]? = some t):lenAt l k=t.Inputs.length:=by simp[lenAt,Gqf,h]
theorem Kk {α:Type} {xs:List α} {i:Nat} (h:i<xs.length):∃ x,xs[i]? = some x:=⟨_,Gqg h⟩
section
variable {m:TMatch} {i j:Nat} {ws:List TWire} {qs:List TPace} {ks:List Int} {p:TPeer} {w:TWire} {q:TPace} {a:Int} {tr:TTrack} (hws:m.Wires[i]? = some ws) (hqs:m.Paces[i]? = some qs) (hks:m.Acks[i]? = some ks)
include hws hqs hks
theorem link_len (h1:ws.length=m.Peers.length) (h2:qs.length=m.Peers.length) (h3:ks.length=m.Peers.length):LinkLen m i:=fun ws' qs' ks' e1 e2 e3=>by
 rw[hws] at e1; rw[hqs] at e2; rw[hks] at e3
 cases e1; cases e2; cases e3
 exact⟨h1,h2,h3⟩
variable (hp:m.Peers[i]? = some p) (hw:ws[j]? = some w) (hq:qs[j]? = some q) (ha:ks[j]? = some a) (ht:p.Tracks[i]? = some tr)
include hp hw hq ha ht
theorem link_spec (h:LinkAt m i j):wireOk w=true∧paceOk q=true∧inR a 0 (els tr.Inputs).length=true:=by
 have h:=h ws qs ks p w q a hws hqs hks hp hw hq ha
 rwa[lenAt_some ht,←Yf tr.Inputs] at h
theorem link_yes (h1:(!wireOk w || !paceOk q)=false) (h2:inR a 0 (els tr.Inputs).length=true):LinkAt m i j:=fun ws' qs' ks' p' w' q' a' e1 e2 e3 e4 e5 e6 e7=>by
 rw[hws] at e1; rw[hqs] at e2; rw[hks] at e3; rw[hp] at e4
 cases e1; cases e2; cases e3; cases e4
 rw[hw] at e5; rw[hq] at e6; rw[ha] at e7
 cases e5; cases e6; cases e7
 simp only[Gql,Gqy] at h1
 rw[Yf] at h2
 exact⟨h1.1,h1.2,by rw[lenAt_some ht]; exact h2⟩
end
theorem I_linksOk (x:TMatch) (hg:Enc.gd x) (hP:PeersP x):Con Tryz.prog 166 [] [ag x] [] (B (linksM x)):=by
 obtain⟨gL,gS,gD,gSc,gP,gW,gPa,gA,gC,gWa,gLi,gAl,gB⟩:=hg
 have hlp:=Yf x.Peers
 have hx:=gP.1
 have hlw:=Yf x.Wires
 have hlq:=Yf x.Paces
 have hla:=Yf x.Acks
 refine Con.of Tryz.func166 J Tryz.ntmps166 J (fun E => ?_)
 refine Wz [47,41,14,36,18,123,160,110,150,176,164,97,150,176,164,43] ?_
 refine Q9 J (fun h1 => ?_) (fun h1 => ?_)
 ·simp only[Gqo,decide_eq_true_eq] at h1
  rw[show linksM x=false from dF fun hp=>by obtain⟨⟨a,b,c⟩,_⟩:=hp; omega]
  refine Wz [35] ?_
  exact Xk J J (Xw [] (by decide) J J J)
 simp only[Gql,decide_eq_false_iff_not,Classical.not_not] at h1
 obtain⟨⟨l1,l2⟩,l3⟩:=h1
 refine AWP.pre (st':=(⟨_,[(1,.o (.c (.ptr 0 0))),(3,I (els x.Peers).length)],[.box ((Enc.e x).map (V1.rd []))]⟩:St)) ?_ (Xy [0] (by kernel_rfl))
 refine Wz [48,44] ?_;refine Xf (fun m st=>∃ i:Nat,i+m=x.Peers.length∧((∀ i',i'<i→LinkLen x i'∧∀ j',j'<x.Peers.length→LinkAt x i' j'))∧st=(⟨_,[(1,.o (.c (.ptr 0 0))),(3,I (els x.Peers).length),(4,I i)],[.box ((Enc.e x).map (V1.rd []))]⟩:St)) (x.Peers.length) ⟨_,⟨0,by omega,fun i hi=>absurd hi (Nat.not_lt_zero _),J⟩,Xy [0] (by kernel_rfl)⟩ ?_
 rintro m_A _ ⟨i,hk_A,hp_A,rfl⟩
 refine Wz [25,38] ?_
 refine Q9 J (fun h => ?_) (fun h => ?_)
 ·have h3:i<x.Peers.length:=by have:=Gqc h; omega
  obtain⟨ws,hws⟩:=Kk (xs:=x.Wires) (i:=i) (by omega)
  obtain⟨qs,hqs⟩:=Kk (xs:=x.Paces) (i:=i) (by omega)
  obtain⟨ks,hks⟩:=Kk (xs:=x.Acks) (i:=i) (by omega)
  obtain⟨p,hp⟩:=Kk (xs:=x.Peers) (i:=i) (by omega)
  have h4:=(pin_spec (hP.2 i p hp)).1.2.2
  have h5:=hP.1
  obtain⟨tr,ht⟩:=Kk (xs:=p.Tracks) (i:=i) (by omega)
  have gws:=gW.2 ws (Gqu hws)
  have hatW:=Yi hws
  have hatQ:=Yi hqs
  have hatK:=Yi hks
  have hatP:=Yi hp
  have hatT:=Yi ht
  have hl1:=Yf ws
  have hl2:=Yf qs
  have hl3:=Yf ks
  refine Wz [6,87,18,0,92,123,160,110,168,229,248,218,261,249,97,168,229,248,218,261,249,43] ?_
  refine Q9 J (fun h6 => ?_) (fun h6 => ?_)
  ·simp only[Gqo,decide_eq_true_eq] at h6
   rw[show linksM x=false from dF fun hp=>by obtain⟨a,b,c⟩:=(hp.2 i h3).1 ws qs ks hws hqs hks; omega]
   refine Wz [66,82,139,31] ?_
   exact Xk J J (Xw [] (by decide) J J J)
  simp only[Gql,decide_eq_false_iff_not,Classical.not_not] at h6
  obtain⟨⟨l4,l5⟩,l6⟩:=h6
  refine AWP.pre (st':=(⟨_,[(1,.o (.c (.ptr 0 0))),(3,I (els x.Peers).length),(4,I i)],[.box ((Enc.e x).map (V1.rd []))]⟩:St)) ?_ (Xy [0] (by kernel_rfl))
  refine Wz [64,1,44] ?_;refine Xf (fun m st=>∃ j:Nat,j+m=x.Peers.length∧((∀ j',j'<j→LinkAt x i j'))∧st=(⟨_,[(1,.o (.c (.ptr 0 0))),(3,I (els x.Peers).length),(4,I i),(5,I j)],[.box ((Enc.e x).map (V1.rd []))]⟩:St)) (x.Peers.length) ⟨_,⟨0,by omega,fun i hi=>absurd hi (Nat.not_lt_zero _),J⟩,Xy [0] (by kernel_rfl)⟩ ?_
  rintro m_D _ ⟨j,hk_D,hp_D,rfl⟩
  refine Wz [25,38] ?_
  refine Q9 J (fun h => ?_) (fun h => ?_)
  ·have h7:j<x.Peers.length:=by have:=Gqc h; omega
   obtain⟨w,hw⟩:=Kk (xs:=ws) (i:=j) (by omega)
   obtain⟨q,hq⟩:=Kk (xs:=qs) (i:=j) (by omega)
   obtain⟨a,ha⟩:=Kk (xs:=ks) (i:=j) (by omega)
   have hatw:=Yi hw
   have hatq:=Yi hq
   have hata:=Yi ha
   have c1:=I_WireOk w (gws.2 w (Gqu hw))
   have c2:=I_PaceOk q
   refine Wz [6,87,18,0,148,117,37] ?_;refine zx (Qj J J (c1) J) J ?_;refine Wz [3,110,168,229,248] ?_;refine zx (Qt.grdF J J J (.hit (.hit (.hit (.hit (.hit .stop))))) (fun hgrd=>Qa J J J)) J ?_;refine zx (Qt.grdF J J J (.hit (.hit (.hit (.hit (.hit (.hit .stop)))))) (fun hgrd=>Q1 J J J J (by omega) (by assumption) J)) J ?_;refine zx (Qt.grdF J J J (.hit (.hit (.hit (.hit (.hit (.hit (.hit .stop))))))) (fun hgrd=>Z0 J J J J J)) J ?_;refine zx (Qt.grdF J J J (.hit (.hit (.hit (.hit (.hit (.hit (.hit (.hit .stop)))))))) (fun hgrd=>Qj J J (c2) J)) J ?_;refine zx (Qt.grdF J J J (.hit (.hit (.hit (.hit (.hit (.hit (.hit (.hit (.hit .stop))))))))) (fun hgrd=>Q3 J J J)) J ?_;refine Wz [43] ?_
   refine Q9 J (fun h8 => ?_) (fun h8 => ?_)
   ·rw[show linksM x=false from dF fun hl=>by obtain⟨b,c,_⟩:=link_spec hws hqs hks hp hw hq ha ht ((hl.2 i h3).2 j h7); rw[b,c] at h8; exact absurd h8 (by decide)]
    refine Wz [66,82,139,137] ?_
    exact Xk J J (Xw [] (by decide) J J J)
   refine AWP.pre (st':=(⟨_,[(1,.o (.c (.ptr 0 0))),(3,I (els x.Peers).length),(4,I i),(5,I j)],[.box ((Enc.e x).map (V1.rd []))]⟩:St)) ?_ (Xy [0] (by kernel_rfl))
   have c3:=Xm a 0 (els tr.Inputs).length
   cases hr:inR a 0 (els tr.Inputs).length with
   |false =>
    rw[hr] at c3
    rw[show linksM x=false from dF fun hl=>by obtain⟨_,_,b⟩:=link_spec hws hqs hks hp hw hq ha ht ((hl.2 i h3).2 j h7); rw[hr] at b; cases b]
    refine Wz [242] ?_;refine Xe u8_37 u8_38 u8_39 J ?_;refine Wz [13,50,21,50,21,13,50,177,21,50,177,21,262] ?_;refine DR.s (Qj J J (c3) J) J J ?_;refine Wz [65,12,17,66,182,137] ?_
    exact Xk J J (Xw [] (by decide) J J J)
   |true =>
    rw[hr] at c3
    refine Wz [242] ?_;refine Xe u8_37 u8_38 u8_39 J ?_;refine Wz [13,50,21,50,21,13,50,177,21,50,177,21,262] ?_;refine DR.s (Qj J J (c3) J) J J ?_;refine Wz [65,12,79,58] ?_
    exact⟨x.Peers.length-(j+1),by omega,_,⟨j+1,by omega,Ko hp_D (link_yes hws hqs hks hp hw hq ha ht h8 hr),J⟩,Xy [0] (by kernel_rfl)⟩
  have h7:¬j<x.Peers.length:=by have:=Gqe h; omega
  refine Wz [223,241] ?_
  exact⟨x.Peers.length-(i+1),by omega,_,⟨i+1,by omega,Ko hp_A ⟨link_len hws hqs hks (by omega) (by omega) (by omega),fun j' hj=>hp_D j' (by omega)⟩,J⟩,Xy [0] (by kernel_rfl)⟩
 have h3:¬i<x.Peers.length:=by have:=Gqe h; omega
 rw[show linksM x=true from dT ⟨⟨by omega,by omega,by omega⟩,fun i' hi=>hp_A i' (by omega)⟩]
 refine Wz [16,61] ?_
 exact Xk J J (Xw [] (by decide) J J J)
section
variable {m:TMatch} {s:TSpectator} {l:TWire}
theorem win_spec (h:watcherIn m s l=true):(wireOk l=true∧worldOk s.World=true)∧s.World.Level=m.Level∧(s.World.Scores.length:Int)=(m.Scripts.length:Int):=by
 simp only[watcherIn,Gqk,decide_eq_true_eq] at h
 exact h
theorem win_no1 (h:(!wireOk l || !worldOk s.World)=true):¬watcherIn m s l=true:=fun hp=>by
 obtain⟨⟨a,b⟩,_⟩:=win_spec hp
 rw[a,b] at h
 exact absurd h (by decide)
theorem win_no2 (h:(!decide (s.World.Level=m.Level) || decide (((els s.World.Scores).length:Int)≠((els m.Scripts).length:Int)))=true):¬watcherIn m s l=true:=fun hp=>by
 obtain⟨_,a,b⟩:=win_spec hp
 rw[Gqb a,Yf,Yf,Gqa (fun q=>q b)] at h
 exact absurd h (by decide)
theorem win_yes (h:(!wireOk l || !worldOk s.World)=false) (h2:(!decide (s.World.Level=m.Level) || decide (((els s.World.Scores).length:Int)≠((els m.Scripts).length:Int)))=false):watcherIn m s l=true:=by
 simp only[Gql,Gqy,decide_eq_false_iff_not,Classical.not_not,decide_eq_true_eq,Yf] at h h2
 simp only[watcherIn,Gqk,decide_eq_true_eq]
 exact⟨h,h2⟩
end
theorem I_watchersOk (x:TMatch) (hg:Enc.gd x):Con Tryz.prog 167 [] [ag x] [] (B (watchersM x)):=by
 obtain⟨gL,gS,gD,gSc,gP,gW,gPa,gA,gC,gWa,gLi,gAl,gB⟩:=hg
 have hlp:=Yf x.Watchers
 have hll:=Yf x.Lines
 have hx:=gWa.1
 refine Con.of Tryz.func167 J Tryz.ntmps167 J (fun E => ?_)
 refine Wz [124,36,67,233,110,150,226,277,218,278,43] ?_
 refine Q9 J (fun h1 => ?_) (fun h1 => ?_)
 ·simp only[Gqo,decide_eq_true_eq] at h1
  rw[show watchersM x=false from dF fun hp=>by obtain⟨⟨a,b⟩,_⟩:=hp; omega]
  refine Wz [35] ?_
  exact Xk J J (Xw [] (by decide) J J J)
 simp only[Gql,decide_eq_false_iff_not,Classical.not_not] at h1
 obtain⟨l1,l2⟩:=h1
 refine AWP.pre (st':=(⟨_,[(1,.o (.c (.ptr 0 0)))],[.box ((Enc.e x).map (V1.rd []))]⟩:St)) ?_ (Xy [0] (by kernel_rfl))
 refine Wz [48,18,123,102] ?_;refine Xf (fun m st=>∃ k:Nat,k+m=x.Watchers.length∧((∀ i,i<k→∀ s l,x.Watchers[i]? = some s→x.Lines[i]? = some l→watcherIn x s l=true))∧st=(⟨_,[(1,.o (.c (.ptr 0 0))),(19,L x.Watchers),(20,I (els x.Watchers).length),(21,I k)],[.box ((Enc.e x).map (V1.rd []))]⟩:St)) (x.Watchers.length) ⟨_,⟨0,by omega,fun i hi=>absurd hi (Nat.not_lt_zero _),J⟩,Xy [0] (by kernel_rfl)⟩ ?_
 rintro m_A _ ⟨k,hk_A,hp_A,rfl⟩
 refine Wz [1,38,20] ?_
 refine Q9 J (fun h => ?_) (fun h => ?_)
 ·have h3:k<x.Watchers.length:=by have:=Gqc h; omega
  obtain⟨s,hs⟩:=Kk (xs:=x.Watchers) (i:=k) (by omega)
  obtain⟨l,hl⟩:=Kk (xs:=x.Lines) (i:=k) (by omega)
  have hat:=Yi hs
  have hatL:=Yi hl
  have gs:=gWa.2 s (Gqu hs)
  have c1:=I_WireOk l (gLi.2 l (Gqu hl))
  have c2:=I_WorldOk s.World gs.1
  have c3:=I_sameLevel s.World.Level x.Level gs.1.1
  refine Wz [6,9,37,40,149,30,87,18,0,37] ?_;refine zx (Qj J J (c1) J) J ?_;refine Wz [3,169,217] ?_;refine zx (Qt.grdF J J J (.hit (.hit .stop)) (fun hgrd=>Qj J J (c2) J)) J ?_;refine Wz [105,43] ?_
  refine Q9 J (fun h4 => ?_) (fun h4 => ?_)
  ·rw[show watchersM x=false from dF fun hp=>win_no1 h4 (hp.2 k s l hs hl)]
   refine Wz [66,82,139,31] ?_
   exact Xk J J (Xw [] (by decide) J J J)
  refine AWP.pre (st':=(⟨_,[(1,.o (.c (.ptr 0 0))),(19,L x.Watchers),(20,I (els x.Watchers).length),(21,I k),(4,.o (.c (.ptr 1 0)))],[.box ((Enc.e x).map (V1.rd [])),.box ((Enc.e s).map (V1.rd []))]⟩:St)) ?_ (Xy [0,1] (by kernel_rfl))
  refine Wz [64,1,81,55] ?_;refine zx (Qj J J (c3) J) J ?_;refine Wz [3,169,188,214,221,273] ?_;refine zx (Qt.grdF J J J (.hit (.hit (.hit (.hit (.hit .stop))))) (fun hgrd=>Qg J J J J J)) J ?_;refine zx (Qt.grdF J J J (.hit (.hit (.hit (.hit (.hit (.hit .stop)))))) (fun hgrd=>Zv J J J)) J ?_;refine Wz [249,43] ?_
  refine Q9 J (fun h5 => ?_) (fun h5 => ?_)
  ·rw[show watchersM x=false from dF fun hp=>win_no2 h5 (hp.2 k s l hs hl)]
   refine Wz [51] ?_
   exact Xk J J (Xw [] (by decide) J J J)
  refine AWP.pre (st':=(⟨_,[(1,.o (.c (.ptr 0 0))),(19,L x.Watchers),(20,I (els x.Watchers).length),(21,I k)],[.box ((Enc.e x).map (V1.rd []))]⟩:St)) ?_ (Xy [0] (by kernel_rfl))
  refine Wz [128,59,75,8,0,4] ?_
  exact⟨x.Watchers.length-(k+1),by omega,_,⟨k+1,by omega,Ko hp_A fun s' l' hs' hl'=>by rw[hs] at hs'; rw[hl] at hl'; cases hs'; cases hl'; exact win_yes h4 h5,J⟩,Xy [0] (by kernel_rfl)⟩
 have h3:¬k<x.Watchers.length:=by have:=Gqe h; omega
 rw[show watchersM x=true from dT ⟨⟨by omega,by omega⟩,fun i s l hi hl=>hp_A i (by have:=(Gqm.1 hi).1; omega) s l hi hl⟩]
 refine Wz [16,61] ?_
 exact Xk J J (Xw [] (by decide) J J J)
end
section
open Go.RowKit

section
variable {m:TMatch}
theorem match_I (hH:HeadP m) (hS:1≤m.Scripts.length∧m.Scripts.length≤4) (hA:m.Scripts.all scriptOk=true) (hP:PeersP m):(linksM m&&watchersM m)=matchOk m:=by
 by_cases hl:LinksP m
 ·by_cases hw:WatchersP m
  ·rw[show linksM m=true from dT hl,show watchersM m=true from dT hw,show matchOk m=true from dT ⟨hH,hS,hA,hP,hl,hw⟩]; rfl
  ·rw[show watchersM m=false from dF hw,show matchOk m=false from dF fun ⟨_,_,_,_,_,q⟩=>hw q,Bool.and_false]
 ·rw[show linksM m=false from dF hl,show matchOk m=false from dF fun ⟨_,_,_,_,q,_⟩=>hl q,Bool.false_and]
end
theorem I_MatchOk (x:TMatch) (hg:Enc.gd x):Con Tryz.prog 68 [] [ag x] [] (B (matchOk x)):=by
 have hg0:=hg
 obtain⟨gL,gS,gD,gSc,gP,gW,gPa,gA,gC,gWa,gLi,gAl,gB⟩:=hg
 have hl:=Yf x.Scripts
 have hx:=gSc.1
 have c1:=I_LevelOk x.Level gL
 refine Con.of Tryz.func68 J Tryz.ntmps68 J (fun E => ?_)
 refine Wz [124,36,198] ?_;refine zx (Qj J J (c1) J) J ?_;refine Wz [3,110] ?_;refine zx (Qt.grdF J J J (.hit (.hit .stop)) (fun hgrd=>Qj J J (Xm x.Seed 0 65535) J)) J ?_;refine Wz [105,97] ?_;refine zx (Qt.grdF J J J (.hit (.hit .stop)) (fun hgrd=>Qj J J (Xm x.Delay 0 5) J)) J ?_;refine Wz [105,43] ?_
 refine Q9 J (fun h1 => ?_) (fun h1 => ?_)
 ·rw[show matchOk x=false from dF fun hm=>by obtain⟨⟨a,b,c,_⟩,_⟩:=hm; rw[a,b,c] at h1; exact absurd h1 (by decide)]
  refine Wz [35] ?_
  exact Xk J J (Xw [] (by decide) J J J)
 refine AWP.pre (st':=(⟨_,[(1,.o (.c (.ptr 0 0)))],[.box ((Enc.e x).map (V1.rd []))]⟩:St)) ?_ (Xy [0] (by kernel_rfl))
 refine Wz [48,18] ?_;refine zx (Qj J J (Xm x.Clock 0 1000) J) J ?_;refine Wz [3,110] ?_;refine zx (Qt.grdF J J J (.hit (.hit .stop)) (fun hgrd=>Qj J J (Xm x.Bad 0 1000000) J)) J ?_;refine Wz [105,43] ?_
 refine Q9 J (fun h2 => ?_) (fun h2 => ?_)
 ·rw[show matchOk x=false from dF fun hm=>by obtain⟨⟨_,_,_,a,b⟩,_⟩:=hm; rw[a,b] at h2; exact absurd h2 (by decide)]
  refine Wz [35] ?_
  exact Xk J J (Xw [] (by decide) J J J)
 refine AWP.pre (st':=(⟨_,[(1,.o (.c (.ptr 0 0)))],[.box ((Enc.e x).map (V1.rd []))]⟩:St)) ?_ (Xy [0] (by kernel_rfl))
 simp only[Gql,Gqy] at h1 h2
 have hH:HeadP x:=⟨h1.1.1,h1.1.2,h1.2,h2.1,h2.2⟩
 refine Wz [48,67,153,110,150,240,43] ?_
 refine Q9 J (fun h3 => ?_) (fun h3 => ?_)
 ·simp only[Gqo,decide_eq_true_eq] at h3
  rw[show matchOk x=false from dF fun hm=>by obtain⟨_,⟨a,b⟩,_⟩:=hm; omega]
  refine Wz [35] ?_
  exact Xk J J (Xw [] (by decide) J J J)
 simp only[Gql,decide_eq_false_iff_not] at h3
 refine AWP.pre (st':=(⟨_,[(1,.o (.c (.ptr 0 0)))],[.box ((Enc.e x).map (V1.rd []))]⟩:St)) ?_ (Xy [0] (by kernel_rfl))
 refine Wz [48,18,123,102] ?_;refine Xf (fun m st=>∃ k:Nat,k+m=x.Scripts.length∧((x.Scripts.take k).all scriptOk=true)∧st=(⟨_,[(1,.o (.c (.ptr 0 0))),(42,L x.Scripts),(43,I (els x.Scripts).length),(44,I k)],[.box ((Enc.e x).map (V1.rd []))]⟩:St)) (x.Scripts.length) ⟨_,⟨0,by omega,by simp,J⟩,Xy [0] (by kernel_rfl)⟩ ?_
 rintro m_A _ ⟨k,hk_A,hp_A,rfl⟩
 refine Wz [1,38,20] ?_
 refine Q9 J (fun h => ?_) (fun h => ?_)
 ·have h5:k<x.Scripts.length:=by have:=Gqc h; omega
  have hat:=Yc h5
  have hc:=I_scriptOk x.Scripts[k] (gSc.2 _ (Gqd h5))
  cases ho:scriptOk x.Scripts[k] with
  |false =>
   rw[ho] at hc
   rw[show matchOk x=false from dF fun hm=>by have:=hm.2.2.1; rw[all_no h5 ho] at this; cases this]
   refine Wz [6,1,92,19] ?_;refine zx (Qj J J (hc) J) J ?_;refine Wz [3,17,51] ?_
   exact Xk J J (Xw [] (by decide) J J J)
  |true =>
   rw[ho] at hc
   refine Wz [6,1,92,19] ?_;refine zx (Qj J J (hc) J) J ?_;refine Wz [3,79,128,59,75,8,0,4] ?_
   exact⟨x.Scripts.length-(k+1),by omega,_,⟨k+1,by omega,X3 hp_A h5 ho,J⟩,Xy [0] (by kernel_rfl)⟩
 have h5:¬k<x.Scripts.length:=by have:=Gqe h; omega
 have hA:=X1 hp_A (by omega)
 have cp:=I_peersOk x hg0
 have cw:=I_watchersOk x hg0
 refine AWP.pre (st':=(⟨_,[(1,.o (.c (.ptr 0 0)))],[.box ((Enc.e x).map (V1.rd []))]⟩:St)) ?_ (Xy [0] (by kernel_rfl))
 by_cases hP:PeersP x
 ·have cl:=I_linksOk x hg0 hP
  rw[show peersM x=true from dT hP] at cp
  rw[←match_I hH (by omega) hA hP]
  refine Wz [16,45] ?_;refine zx (Qj J J (cp) J) J ?_;refine Wz [26,53,2] ?_;refine zx (Qj J J (cl) J) J ?_;refine Wz [28,0] ?_;refine zx (Qt.grdT J J J .stop (fun hgrd=>Qu J J J J J J)) J ?_;refine zx (Qt.grdT J J J (.hit .stop) (fun hgrd=>Qj J J (cw) J)) J ?_;refine Wz [49,52] ?_
  exact Xk J J (Xw [] (by decide) J J J)
 ·rw[show peersM x=false from dF hP] at cp
  rw[show matchOk x=false from dF fun hm=>hP hm.2.2.2.1]
  refine Wz [16,45] ?_;refine zx (Qj J J (cp) J) J ?_;refine Wz [0,118,15,0,118,15,52] ?_
  exact Xk J J (Xw [] (by decide) J J J)
end
section
open Go.RowKit

theorem S_square (x:TMatch) (hg:Enc.gd x) (hP:PeersP x):Con Tryz.prog 158 [] [ag x,ai x.Peers.length] [] (B (linksM x)):=by
 obtain⟨gL,gS,gD,gSc,gP,gW,gPa,gA,gC,gWa,gLi,gAl,gB⟩:=hg
 have hx:=gP.1
 have hlw:=Yf x.Wires
 have hlq:=Yf x.Paces
 have hla:=Yf x.Acks
 refine Con.of Tryz.func158 J Tryz.ntmps158 J (fun E => ?_)
 refine Wz [124,36,18,123,160,110,150,176,164,97,150,176,164,43] ?_
 refine Q9 J (fun h1 => ?_) (fun h1 => ?_)
 ·simp only[Gqo,decide_eq_true_eq] at h1
  rw[show linksM x=false from dF fun hp=>by obtain⟨⟨a,b,c⟩,_⟩:=hp; omega]
  refine Wz [35] ?_
  exact Xk J J (Xw [] (by decide) J J J)
 simp only[Gql,decide_eq_false_iff_not,Classical.not_not] at h1
 obtain⟨⟨l1,l2⟩,l3⟩:=h1
 refine AWP.pre (st':=(⟨_,[(2,.o (.c (.ptr 0 0))),(1,I x.Peers.length)],[.box ((Enc.e x).map (V1.rd []))]⟩:St)) ?_ (Xy [0] (by kernel_rfl))
 refine Wz [48,44] ?_;refine Xf (fun m st=>∃ i:Nat,i+m=x.Peers.length∧((∀ i',i'<i→LinkLen x i'∧∀ j',j'<x.Peers.length→LinkAt x i' j'))∧st=(⟨_,[(2,.o (.c (.ptr 0 0))),(1,I x.Peers.length),(5,I i)],[.box ((Enc.e x).map (V1.rd []))]⟩:St)) (x.Peers.length) ⟨_,⟨0,by omega,fun i hi=>absurd hi (Nat.not_lt_zero _),J⟩,Xy [0] (by kernel_rfl)⟩ ?_
 rintro m_A _ ⟨i,hk_A,hp_A,rfl⟩
 refine Wz [25,38] ?_
 refine Q9 J (fun h => ?_) (fun h => ?_)
 ·have h3:i<x.Peers.length:=by have:=Gqc h; omega
  obtain⟨ws,hws⟩:=Kk (xs:=x.Wires) (i:=i) (by omega)
  obtain⟨qs,hqs⟩:=Kk (xs:=x.Paces) (i:=i) (by omega)
  obtain⟨ks,hks⟩:=Kk (xs:=x.Acks) (i:=i) (by omega)
  obtain⟨p,hp⟩:=Kk (xs:=x.Peers) (i:=i) (by omega)
  have h4:=(pin_spec (hP.2 i p hp)).1.2.2
  have h5:=hP.1
  obtain⟨tr,ht⟩:=Kk (xs:=p.Tracks) (i:=i) (by omega)
  have gws:=gW.2 ws (Gqu hws)
  have hatW:=Yi hws
  have hatQ:=Yi hqs
  have hatK:=Yi hks
  have hatP:=Yi hp
  have hatT:=Yi ht
  have hl1:=Yf ws
  have hl2:=Yf qs
  have hl3:=Yf ks
  refine Wz [6,87,18,0,92,123,160,110,168,229,248,218,261,249,97,168,229,248,218,261,249,43] ?_
  refine Q9 J (fun h6 => ?_) (fun h6 => ?_)
  ·simp only[Gqo,decide_eq_true_eq] at h6
   rw[show linksM x=false from dF fun hp=>by obtain⟨a,b,c⟩:=(hp.2 i h3).1 ws qs ks hws hqs hks; omega]
   refine Wz [66,82,139,31] ?_
   exact Xk J J (Xw [] (by decide) J J J)
  simp only[Gql,decide_eq_false_iff_not,Classical.not_not] at h6
  obtain⟨⟨l4,l5⟩,l6⟩:=h6
  refine AWP.pre (st':=(⟨_,[(2,.o (.c (.ptr 0 0))),(1,I x.Peers.length),(5,I i)],[.box ((Enc.e x).map (V1.rd []))]⟩:St)) ?_ (Xy [0] (by kernel_rfl))
  refine Wz [64,1,44] ?_;refine Xf (fun m st=>∃ j:Nat,j+m=x.Peers.length∧((∀ j',j'<j→LinkAt x i j'))∧st=(⟨_,[(2,.o (.c (.ptr 0 0))),(1,I x.Peers.length),(5,I i),(6,I j)],[.box ((Enc.e x).map (V1.rd []))]⟩:St)) (x.Peers.length) ⟨_,⟨0,by omega,fun i hi=>absurd hi (Nat.not_lt_zero _),J⟩,Xy [0] (by kernel_rfl)⟩ ?_
  rintro m_D _ ⟨j,hk_D,hp_D,rfl⟩
  refine Wz [25,38] ?_
  refine Q9 J (fun h => ?_) (fun h => ?_)
  ·have h7:j<x.Peers.length:=by have:=Gqc h; omega
   obtain⟨w,hw⟩:=Kk (xs:=ws) (i:=j) (by omega)
   obtain⟨q,hq⟩:=Kk (xs:=qs) (i:=j) (by omega)
   obtain⟨a,ha⟩:=Kk (xs:=ks) (i:=j) (by omega)
   have hatw:=Yi hw
   have hatq:=Yi hq
   have hata:=Yi ha
   have c1:=S_WireOk w (gws.2 w (Gqu hw))
   have c2:=S_PaceOk q
   have c3:=Xv a 0 (els tr.Inputs).length
   cases hr1:wireOk w with
   |false =>
    rw[hr1] at c1
    rw[show linksM x=false from dF fun hl=>by obtain⟨b,_,_⟩:=link_spec hws hqs hks hp hw hq ha ht ((hl.2 i h3).2 j h7); rw[hr1] at b; cases b]
    refine Wz [84,263,13,50,21,50,186] ?_;refine DR.s (Qj J J (c1) J) J J ?_;refine Wz [65,11,70,70,284,145,11,70,70,70,70,70,255,145,12,17,66,182,137] ?_
    exact Xk J J (Xw [] (by decide) J J J)
   | true =>
    rw[hr1] at c1
    cases hr2:paceOk q with
    |false =>
     rw[hr2] at c2
     rw[show linksM x=false from dF fun hl=>by obtain⟨_,b,_⟩:=link_spec hws hqs hks hp hw hq ha ht ((hl.2 i h3).2 j h7); rw[hr2] at b; cases b]
     refine Wz [84,263,13,50,21,50,186] ?_;refine DR.s (Qj J J (c1) J) J J ?_;refine Wz [65,11,29,129,147,158,129,147,279] ?_;refine DR.s (Qt.yes J J J (Qj J J (c2) J)) J J ?_;refine Wz [141,96,11,70,70,70,70,70,255,145,12,17,66,182,137] ?_
     exact Xk J J (Xw [] (by decide) J J J)
    | true =>
     rw[hr2] at c2
     cases hr:inR a 0 (els tr.Inputs).length with
     |false =>
      rw[hr] at c3
      rw[show linksM x=false from dF fun hl=>by obtain⟨_,_,b⟩:=link_spec hws hqs hks hp hw hq ha ht ((hl.2 i h3).2 j h7); rw[hr] at b; cases b]
      refine Wz [84,263,13,50,21,50,186] ?_;refine DR.s (Qj J J (c1) J) J J ?_;refine Wz [65,11,29,129,147,158,129,147,279] ?_;refine DR.s (Qt.yes J J J (Qj J J (c2) J)) J J ?_;refine Wz [141,96,11,29,129,147,158,129,147,158,29,129,147,192,158,129,147,192,158,207] ?_;refine DR.s (Qt.yes J J J (Qj J J (c3) J)) J J ?_;refine Wz [141,96,12,17,66,182,137] ?_
      exact Xk J J (Xw [] (by decide) J J J)
     |true =>
      rw[hr] at c3
      refine Wz [84,263,13,50,21,50,186] ?_;refine DR.s (Qj J J (c1) J) J J ?_;refine Wz [65,11,29,129,147,158,129,147,279] ?_;refine DR.s (Qt.yes J J J (Qj J J (c2) J)) J J ?_;refine Wz [141,96,11,29,129,147,158,129,147,158,29,129,147,192,158,129,147,192,158,207] ?_;refine DR.s (Qt.yes J J J (Qj J J (c3) J)) J J ?_;refine Wz [141,96,12,79,58] ?_
      exact⟨x.Peers.length-(j+1),by omega,_,⟨j+1,by omega,Ko hp_D (link_yes hws hqs hks hp hw hq ha ht (by rw[hr1,hr2]; rfl) hr),J⟩,Xy [0] (by kernel_rfl)⟩
  have h7:¬j<x.Peers.length:=by have:=Gqe h; omega
  refine Wz [223,241] ?_
  exact⟨x.Peers.length-(i+1),by omega,_,⟨i+1,by omega,Ko hp_A ⟨link_len hws hqs hks (by omega) (by omega) (by omega),fun j' hj=>hp_D j' (by omega)⟩,J⟩,Xy [0] (by kernel_rfl)⟩
 have h3:¬i<x.Peers.length:=by have:=Gqe h; omega
 rw[show linksM x=true from dT ⟨⟨by omega,by omega,by omega⟩,fun i' hi=>hp_A i' (by omega)⟩]
 refine Wz [16,61] ?_
 exact Xk J J (Xw [] (by decide) J J J)
end
end Go.Proofs.YtoecjaohdnoenaaGreat
