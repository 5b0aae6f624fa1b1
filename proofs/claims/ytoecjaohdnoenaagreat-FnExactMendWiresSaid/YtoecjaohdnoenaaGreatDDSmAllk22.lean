/-
  Rules, data and contracts of functions: part 23 of the proof.
  Conditions: those that each theorem names.
-/
import Derived.Test.YtoecjaohdnoenaaGreatDDSmAllk21
set_option linter.unusedSimpArgs false
set_option linter.unusedVariables false
set_option maxRecDepth 8000
set_option maxHeartbeats 8000000
namespace Go.Proofs.YtoecjaohdnoenaaGreat
section
open Go.RowKit

theorem at_nat {α:Type} [Enc α] {xs:List α} {i:Int} (h:i.toNat<xs.length):(els xs)[i.toNat]? = some (Enc.e (xs[i.toNat]'h)):=by simp[els,h]
theorem world_ticks {w:TWorld} (h:worldOk w=true):0≤w.Tick∧w.Tick≤100000:=by
 have h2:=(worldOk_spec h).2.1
 rwa[Yk] at h2
section
variable {p:TPeer}
theorem no1 (h:(((!tracksOk p.Tracks || !worldOk p.Base) || !worldOk p.Now) || !decide (p.Base.Level=p.Now.Level))=true):¬PeerP p:=fun ⟨⟨q1,q2,q3,q4⟩,_⟩=>by
 rw[q1,q2,q3,Gqb q4] at h; exact absurd h (by decide)
theorem no2 (h:((decide ((p.Base.Scores.length:Int)≠p.Tracks.length) || decide ((p.Now.Scores.length:Int)≠p.Tracks.length)) || !faultOk p.Fault p.Tracks.length)=true):¬PeerP p:=fun ⟨_,⟨q1,q2,q3⟩,_⟩=>by
 rw[q3,Gqa (by omega),Gqa (by omega)] at h; exact absurd h (by decide)
theorem no3 (h:((!inR p.Me 0 ((p.Tracks.length:Int)-1) || !inR p.Delay 0 5) || !inR p.Ahead 1 8)=true):¬PeerP p:=fun ⟨_,_,⟨q1,q2,q3⟩,_⟩=>by
 rw[Yk.2 q1,Yk.2 q2,Yk.2 q3] at h; exact absurd h (by decide)
theorem no4 (h:((!inR p.Seed 0 65535 || !inR p.Rolls 0 1000000) || !inR p.Again 0 1000000)=true):¬PeerP p:=fun ⟨_,_,_,⟨q1,q2,q3⟩,_⟩=>by
 rw[Yk.2 q1,Yk.2 q2,Yk.2 q3] at h; exact absurd h (by decide)
theorem no5 (h:((!inR (p.Now.Tick-p.Base.Tick) 0 p.Ahead || decide ((p.Used.length:Int)≠p.Now.Tick-p.Base.Tick)) || decide ((p.Saves.length:Int)≠p.Now.Tick-p.Base.Tick))=true):¬PeerP p:=fun ⟨_,_,_,_,⟨q1,q2,q3⟩,_⟩=>by
 rw[Yk.2 q1,Gqa (by omega),Gqa (by omega)] at h; exact absurd h (by decide)
theorem fin_eq (h1:tracksOk p.Tracks=true∧worldOk p.Base=true∧worldOk p.Now=true∧p.Base.Level=p.Now.Level)
  (h2:p.Base.Scores.length=p.Tracks.length∧p.Now.Scores.length=p.Tracks.length∧faultOk p.Fault p.Tracks.length=true)
  (h3:(0≤p.Me∧p.Me≤(p.Tracks.length:Int)-1)∧(0≤p.Delay∧p.Delay≤5)∧(1≤p.Ahead∧p.Ahead≤8))
  (h4:(0≤p.Seed∧p.Seed≤65535)∧(0≤p.Rolls∧p.Rolls≤1000000)∧(0≤p.Again∧p.Again≤1000000))
  (h5:(0≤p.Now.Tick-p.Base.Tick∧p.Now.Tick-p.Base.Tick≤p.Ahead)∧(p.Used.length:Int)=p.Now.Tick-p.Base.Tick∧(p.Saves.length:Int)=p.Now.Tick-p.Base.Tick)
  (h6:(p.Used.all fun row=>rowOk row p.Tracks.length)=true∧∀ k (h:k<p.Saves.length),p.Saves[k].Tick=p.Base.Tick+k) :
  ((decide (p.Base.Tick≤(knownTicks p.Tracks:Nat))&&decide (p.Now.Tick≤(lenAt p.Tracks p.Me.toNat:Nat)))&&decide ((p.Sums.length:Int)=p.Base.Tick+1))=peerOk p:=by
 by_cases h7:p.Base.Tick≤knownTicks p.Tracks∧p.Now.Tick≤lenAt p.Tracks p.Me.toNat∧(p.Sums.length:Int)=p.Base.Tick+1
 ·rw[peer_T ⟨h1,h2,h3,h4,h5,h6,h7⟩,Gqb h7.1,Gqb h7.2.1,Gqb h7.2.2]; rfl
 ·rw[peer_F fun ⟨_,_,_,_,_,_,h8⟩=>h7 h8]
  rw[←Gxl]
  simp only[Gqk,decide_eq_true_eq]
  exact fun ⟨⟨a,b⟩,c⟩=>h7 ⟨a,b,c⟩
end
theorem I_PeerOk (x:TPeer) (hg:Enc.gd x):Con Tryz.prog 106 [] [ag x] [] (B (peerOk x)):=by
 obtain⟨gMe,gDe,gAh,gSe,gTr,gBa,gNo,gUs,gSa,gSu,gFa,gRo,gAg⟩:=hg
 have hlt:=X6 x.Tracks
 have hlu:=X6 x.Used
 have hls:=X6 x.Saves
 have hlm:=X6 x.Sums
 have hlb:=X6 x.Base.Scores
 have hln:=X6 x.Now.Scores
 have c1:=I_TracksOk x.Tracks gTr
 have c2:=I_WorldOk x.Base gBa
 have c3:=I_WorldOk x.Now gNo
 have c4:=I_sameLevel x.Base.Level x.Now.Level gBa.1
 have c5:=I_FaultOk x.Fault (els x.Tracks).length (by omega)
 have c6:=I_KnownTicks x.Tracks gTr
 refine Con.of Tryz.func106 J Tryz.ntmps106 J (fun E => ?_)
 refine Wz [19,35,3,7,32] ?_;refine zx (Qj J J (c1) J) J ?_;refine Wz [10,148,195] ?_;refine zx (Qt.grdF J J J (.hit (.hit .stop)) (fun hgrd=>Qj J J (c2) J)) J ?_;refine Wz [87,91,148,195] ?_;refine zx (Qt.grdF J J J (.hit (.hit .stop)) (fun hgrd=>Qj J J (c3) J)) J ?_;refine Wz [87,91,148,165,248,202,249] ?_;refine zx (Qt.grdF J J J (.hit (.hit (.hit (.hit (.hit .stop))))) (fun hgrd=>Qu J J J J J J)) J ?_;refine zx (Qt.grdF J J J (.hit (.hit (.hit (.hit (.hit (.hit .stop)))))) (fun hgrd=>Qj J J (c4) J)) J ?_;refine zx (Qt.grdF J J J (.hit (.hit (.hit (.hit (.hit (.hit (.hit .stop))))))) (fun hgrd=>Q3 J J J)) J ?_;refine Wz [44] ?_
 refine Q8 J (fun h1 => ?_) (fun h1 => ?_)
 ·rw[peer_F (no1 h1)]
  refine Wz [38] ?_
  exact Xi J J (Xt [] (by decide) J J J)
 simp only[Gql,Gqt,decide_eq_true_eq] at h1
 obtain⟨⟨⟨q1,q2⟩,q3⟩,q4⟩:=h1
 have tB:=world_ticks q2
 have tN:=world_ticks q3
 have tL:=tracks_spec q1
 refine AWP.pre (st':=(⟨_,[(1,.o (.c (.ptr 0 0))),(3,I (els x.Tracks).length)],[.box ((Enc.e x).map (V1.rd []))]⟩:St)) ?_ (Xu [0] (by kernel_rfl))
 refine Wz [13,156,66,14,114,143,148,165,190,198,250,251,91,148,195,140] ?_;refine zx (Qt.grdF J J J (.hit (.hit (.hit .stop))) (fun hgrd=>Qj J J (c5) J)) J ?_;refine Wz [203,44] ?_
 refine Q8 J (fun h2 => ?_) (fun h2 => ?_)
 ·rw[hlt,hlb,hln] at h2
  rw[peer_F (no2 h2)]
  refine Wz [38] ?_
  exact Xi J J (Xt [] (by decide) J J J)
 rw[hlt,hlb,hln] at h2
 simp only[Gql,Gqt,decide_eq_false_iff_not,Classical.not_not] at h2
 obtain⟨⟨q5,q6⟩,q7⟩:=h2
 refine AWP.pre (st':=(⟨_,[(1,.o (.c (.ptr 0 0))),(3,I (els x.Tracks).length)],[.box ((Enc.e x).map (V1.rd []))]⟩:St)) ?_ (Xu [0] (by kernel_rfl))
 refine Wz [13,32,0,103] ?_;refine zx (Qj J J (Xj x.Me 0 (((els x.Tracks).length:Int)-1)) J) J ?_;refine Wz [10,95] ?_;refine zx (Qt.grdF J J J (.hit (.hit .stop)) (fun hgrd=>Qj J J (Xj x.Delay 0 5) J)) J ?_;refine Wz [87,82] ?_;refine zx (Qt.grdF J J J (.hit (.hit .stop)) (fun hgrd=>Qj J J (Xj x.Ahead 1 8) J)) J ?_;refine Wz [87,44] ?_
 refine Q8 J (fun h3 => ?_) (fun h3 => ?_)
 ·rw[hlt] at h3
  rw[peer_F (no3 h3)]
  refine Wz [38] ?_
  exact Xi J J (Xt [] (by decide) J J J)
 rw[hlt] at h3
 simp only[Gql,Gqt,Yk] at h3
 obtain⟨⟨q8,q9⟩,q10⟩:=h3
 refine AWP.pre (st':=(⟨_,[(1,.o (.c (.ptr 0 0))),(3,I (els x.Tracks).length)],[.box ((Enc.e x).map (V1.rd []))]⟩:St)) ?_ (Xu [0] (by kernel_rfl))
 refine Wz [13,32] ?_;refine zx (Qj J J (Xj x.Seed 0 65535) J) J ?_;refine Wz [10,95] ?_;refine zx (Qt.grdF J J J (.hit (.hit .stop)) (fun hgrd=>Qj J J (Xj x.Rolls 0 1000000) J)) J ?_;refine Wz [87,82] ?_;refine zx (Qt.grdF J J J (.hit (.hit .stop)) (fun hgrd=>Qj J J (Xj x.Again 0 1000000) J)) J ?_;refine Wz [87,44] ?_
 refine Q8 J (fun h4 => ?_) (fun h4 => ?_)
 ·rw[peer_F (no4 h4)]
  refine Wz [38] ?_
  exact Xi J J (Xt [] (by decide) J J J)
 simp only[Gql,Gqt,Yk] at h4
 obtain⟨⟨q11,q12⟩,q13⟩:=h4
 refine AWP.pre (st':=(⟨_,[(1,.o (.c (.ptr 0 0))),(3,I (els x.Tracks).length)],[.box ((Enc.e x).map (V1.rd []))]⟩:St)) ?_ (Xu [0] (by kernel_rfl))
 refine Wz [13,4,66,14,66,14,103,112,14] ?_;refine zx (Qj J J (Xj (x.Now.Tick-x.Base.Tick) 0 x.Ahead) J) J ?_;refine Wz [10,95,130,157,145,82,130,157,145,44] ?_
 refine Q8 J (fun h5 => ?_) (fun h5 => ?_)
 ·rw[hlu,hls] at h5
  rw[peer_F (no5 h5)]
  refine Wz [38] ?_
  exact Xi J J (Xt [] (by decide) J J J)
 rw[hlu,hls] at h5
 simp only[Gql,Gqt,decide_eq_false_iff_not,Classical.not_not,Yk] at h5
 obtain⟨⟨q14,q15⟩,q16⟩:=h5
 refine AWP.pre (st':=(⟨_,[(1,.o (.c (.ptr 0 0))),(3,I (els x.Tracks).length)],[.box ((Enc.e x).map (V1.rd []))]⟩:St)) ?_ (Xu [0] (by kernel_rfl))
 refine Wz [13,32,114,80] ?_;refine Xe (fun m st=>∃ k:Nat,k+m=x.Used.length∧((x.Used.take k).all (fun row=>rowOk row x.Tracks.length)=true)∧st=(⟨_,[(1,.o (.c (.ptr 0 0))),(3,I (els x.Tracks).length),(120,L x.Used),(121,I (els x.Used).length),(122,I k)],[.box ((Enc.e x).map (V1.rd []))]⟩:St)) (x.Used.length) ⟨_,⟨0,by omega,by simp,J⟩,Xu [0] (by kernel_rfl)⟩ ?_
 rintro m_A _ ⟨k,hk_A,hp_A,rfl⟩
 refine Wz [4,40,17] ?_
 refine Q8 J (fun h => ?_) (fun h => ?_)
 ·have h3:k<x.Used.length:=by have:=Gqc h; omega
  have hat:=X4 h3
  have hc:=I_rowOk x.Used[k] (els x.Tracks).length (gUs.2 _ (Gqd h3))
  rw[hlt] at hc
  cases ho:rowOk x.Used[k] x.Tracks.length with
  |false =>
   rw[ho,←hlt] at hc
   rw[peer_F (fun hp=>by have:=hp.2.2.2.2.2.1.1; rw[all_no h3 ho] at this; cases this)]
   refine Wz [5,4,93,7,9] ?_;refine zx (Qj J J (hc) J) J ?_;refine Wz [10,42,45] ?_
   exact Xi J J (Xt [] (by decide) J J J)
  |true =>
   rw[ho,←hlt] at hc
   refine Wz [5,4,93,7,9] ?_;refine zx (Qj J J (hc) J) J ?_;refine Wz [10,88,113,94,36,0,1] ?_
   exact⟨x.Used.length-(k+1),by omega,_,⟨k+1,by omega,X0 hp_A h3 ho,J⟩,Xu [0] (by kernel_rfl)⟩
 have h3:¬((k:Int)<(els x.Used).length):=Gqe h
 have hall:=Xz hp_A (by omega)
 refine Wz [20,32,114,80] ?_;refine Xe (fun m st=>∃ j:Nat,j+m=x.Saves.length∧((∀ i (h:i<x.Saves.length),i<j→x.Saves[i].Tick=x.Base.Tick+i))∧st=(⟨_,[(1,.o (.c (.ptr 0 0))),(3,I (els x.Tracks).length),(132,L x.Saves),(133,I (els x.Saves).length),(134,I j)],[.box ((Enc.e x).map (V1.rd []))]⟩:St)) (x.Saves.length) ⟨_,⟨0,by omega,fun i _ hi=>absurd hi (Nat.not_lt_zero _),J⟩,Xu [0] (by kernel_rfl)⟩ ?_
 rintro m_D _ ⟨j,hk_D,hp_D,rfl⟩
 refine Wz [4,40,17] ?_
 refine Q8 J (fun h => ?_) (fun h => ?_)
 ·have h4:j<x.Saves.length:=by have:=Gqc h; omega
  have hat:=X4 h4
  by_cases ho:x.Saves[j].Tick=x.Base.Tick+j
  ·have hb:decide (x.Saves[j].Tick≠x.Base.Tick+j)=false:=Gqa (fun h=>h ho)
   refine Wz [5,8,34,56,138,22,35,66,14,0,36,105,88,113,94,36,0,1] ?_
   exact⟨x.Saves.length-(j+1),by omega,_,⟨j+1,by omega,fun i hi hij=>by by_cases e:i=j; subst e; exact ho; exact hp_D i hi (by omega),J⟩,Xu [0] (by kernel_rfl)⟩
  ·have hb:decide (x.Saves[j].Tick≠x.Base.Tick+j)=true:=Gqb ho
   rw[peer_F (fun hp=>ho (hp.2.2.2.2.2.1.2 j h4))]
   refine Wz [5,8,34,56,138,22,35,66,14,0,36,105,42,45] ?_
   exact Xi J J (Xt [] (by decide) J J J)
 have h4:¬((j:Int)<(els x.Saves).length):=Gqe h
 have hme:x.Me.toNat<x.Tracks.length:=by omega
 have hat:=at_nat (xs:=x.Tracks) hme
 have hti:=X6 x.Tracks[x.Me.toNat].Inputs
 have hla:=lenAt_is hme
 rw[←fin_eq ⟨q1,q2,q3,q4⟩ ⟨by omega,by omega,q7⟩ ⟨q8,q9,q10⟩ ⟨q11,q12,q13⟩ ⟨q14,q15,q16⟩ ⟨hall,fun i hi=>hp_D i hi (by omega)⟩,←hlm]
 by_cases k1:x.Base.Tick≤(knownTicks x.Tracks:Nat)
 ·have hb1:decide (x.Base.Tick≤((knownTicks x.Tracks:Nat):Int))=true:=Gqb k1
  by_cases k2:x.Now.Tick≤(lenAt x.Tracks x.Me.toNat:Nat)
  ·have hb2:decide (x.Now.Tick≤((els x.Tracks[x.Me.toNat].Inputs).length:Int))=true:=Gqb (by omega)
   rw[hb1,Gqb k2]
   refine Wz [20,17,252,186,12,12] ?_;refine DR.s (Qj J J (c6) J) J J ?_;refine Wz [204,15,26,26,128,168,137,187,188,26,228,126,15,26,187,188,26,229] ?_;refine DR.s (Qt.yes J J J (Zb J J J J)) J J ?_;refine Wz [126,205,11,1,68] ?_
   exact Xi J J (Xt [] (by decide) J J J)
  ·have hb2:decide (x.Now.Tick≤((els x.Tracks[x.Me.toNat].Inputs).length:Int))=false:=Gqa (by omega)
   rw[hb1,Gqa k2]
   refine Wz [20,17,252,186,12,12] ?_;refine DR.s (Qj J J (c6) J) J J ?_;refine Wz [204,15,26,26,128,168,137,187,188,26,228,126,15,58,58,81,205,11,1,68] ?_
   exact Xi J J (Xt [] (by decide) J J J)
 ·have hb1:decide (x.Base.Tick≤((knownTicks x.Tracks:Nat):Int))=false:=Gqa k1
  rw[hb1]
  refine Wz [20,17,252,186,12,12] ?_;refine DR.s (Qj J J (c6) J) J J ?_;refine Wz [204,15,58,58,58,81,15,58,58,81,205,11,1,68] ?_
  exact Xi J J (Xt [] (by decide) J J J)
end
section
open Go.RowKit

def flightOk (f:TFlight):Bool:=inR f.At 0 1100000&&inR (f.Data.size:Int) 1 20000
def WireP (w:TWire):Prop :=
 (inR w.Seed 0 65535=true∧inR w.Delay 0 12=true∧inR w.Jitter 0 12=true) ∧
 (inR w.Loss 0 100=true∧inR w.Copies 0 100=true∧inR w.Damage 0 100=true) ∧
 (inR w.Now 0 1000000=true∧inR w.Sent 0 1000000=true∧inR w.Lost 0 1000000=true) ∧
 w.Flights.length≤200∧w.Flights.all flightOk=true
instance (w:TWire):Decidable (WireP w):=by unfold WireP; infer_instance
def wireOk (w:TWire):Bool:=decide (WireP w)
def paceOk (q:TPace):Bool:=(((inR q.Newest 0 1000001&&inR q.Their 0 1000001)&&inR q.At 0 1000001)&&inR q.Trip 0 1000001)&&inR q.Samples 0 1000001
noncomputable def peerIn (m:TMatch) (i:Nat) (p:TPeer):Bool :=
 ((peerOk p&&decide (p.Me=(i:Int)))&&decide ((p.Tracks.length:Int)=(m.Scripts.length:Int)))&&((decide (p.Base.Level=m.Level)&&decide (p.Seed=m.Seed))&&decide (p.Delay=m.Delay))
def PeersP (m:TMatch):Prop:=m.Peers.length=m.Scripts.length∧∀ (i:Nat) p,m.Peers[i]? = some p→peerIn m i p=true
def LinkLen (m:TMatch) (i:Nat):Prop:=∀ ws qs ks,m.Wires[i]? = some ws→m.Paces[i]? = some qs→m.Acks[i]? = some ks→ws.length=m.Peers.length∧qs.length=m.Peers.length∧ks.length=m.Peers.length
def LinkAt (m:TMatch) (i j:Nat):Prop:=∀ ws qs ks p w q a,m.Wires[i]? = some ws→m.Paces[i]? = some qs→m.Acks[i]? = some ks→m.Peers[i]? = some p→ws[j]? = some w→qs[j]? = some q→ks[j]? = some a→wireOk w=true∧paceOk q=true∧inR a 0 (lenAt p.Tracks i:Nat)=true
def LinksP (m:TMatch):Prop :=
 (m.Wires.length=m.Peers.length∧m.Paces.length=m.Peers.length∧m.Acks.length=m.Peers.length) ∧
 ∀ i,i<m.Peers.length→LinkLen m i∧∀ j:Nat,j<m.Peers.length→LinkAt m i j
noncomputable def watcherIn (m:TMatch) (s:TSpectator) (l:TWire):Bool :=
 (wireOk l&&worldOk s.World)&&(decide (s.World.Level=m.Level)&&decide ((s.World.Scores.length:Int)=(m.Scripts.length:Int)))
def WatchersP (m:TMatch):Prop:=(m.Watchers.length≤3∧m.Lines.length=m.Watchers.length)∧∀ (k:Nat) s l,m.Watchers[k]? = some s→m.Lines[k]? = some l→watcherIn m s l=true
def HeadP (m:TMatch):Prop:=levelOk m.Level=true∧inR m.Seed 0 65535=true∧inR m.Delay 0 5=true∧inR m.Clock 0 1000=true∧inR m.Bad 0 1000000=true
def MatchP (m:TMatch):Prop:=HeadP m∧(1≤m.Scripts.length∧m.Scripts.length≤4)∧m.Scripts.all scriptOk=true∧PeersP m∧LinksP m∧WatchersP m
noncomputable def peersM (m:TMatch):Bool:=@decide (PeersP m) (Classical.propDecidable _)
noncomputable def linksM (m:TMatch):Bool:=@decide (LinksP m) (Classical.propDecidable _)
noncomputable def watchersM (m:TMatch):Bool:=@decide (WatchersP m) (Classical.propDecidable _)
noncomputable def matchOk (m:TMatch):Bool:=@decide (MatchP m) (Classical.propDecidable _)
theorem dT {P:Prop} (h:P):@decide P (Classical.propDecidable _)=true:=@decide_eq_true _ (Classical.propDecidable _) h
theorem dF {P:Prop} (h:¬P):@decide P (Classical.propDecidable _)=false:=@decide_eq_false _ (Classical.propDecidable _) h
theorem dS {P:Prop} (h:@decide P (Classical.propDecidable _)=true):P:=@of_decide_eq_true _ (Classical.propDecidable _) h
end
section
open Go.RowKit

theorem I_PaceOk (q:TPace):Con Tryz.prog 229 [] [ag q] [] (B (paceOk q)):=by
 refine Con.of Tryz.func229 J Tryz.ntmps229 J (fun E => ?_)
 refine Wz [19,35] ?_;refine zx (Qj J J (Xj q.Newest 0 1000001) J) J ?_;refine Wz [97] ?_;refine zx (Qt.grdT J J J (.hit (.hit .stop)) (fun hgrd=>Qj J J (Xj q.Their 0 1000001) J)) J ?_;refine Wz [39,97] ?_;refine zx (Qt.grdT J J J (.hit (.hit .stop)) (fun hgrd=>Qj J J (Xj q.At 0 1000001) J)) J ?_;refine Wz [39,97] ?_;refine zx (Qt.grdT J J J (.hit (.hit .stop)) (fun hgrd=>Qj J J (Xj q.Trip 0 1000001) J)) J ?_;refine Wz [39,97] ?_;refine zx (Qt.grdT J J J (.hit (.hit .stop)) (fun hgrd=>Qj J J (Xj q.Samples 0 1000001) J)) J ?_;refine Wz [39,110] ?_
 exact Xi J J (Xt [] (by decide) J J J)
theorem S_PaceOk (q:TPace):Con Tryz.prog 226 [] [ag q] [] (B (paceOk q)):=by
 refine Con.of Tryz.func226 J Tryz.ntmps226 J (fun E => ?_)
 refine Wz [19,35] ?_;refine zx (Qj J J (Xs q.Newest 0 1000001) J) J ?_;refine Wz [97] ?_;refine zx (Qt.grdT J J J (.hit (.hit .stop)) (fun hgrd=>Qj J J (Xs q.Their 0 1000001) J)) J ?_;refine Wz [39,97] ?_;refine zx (Qt.grdT J J J (.hit (.hit .stop)) (fun hgrd=>Qj J J (Xs q.At 0 1000001) J)) J ?_;refine Wz [39,97] ?_;refine zx (Qt.grdT J J J (.hit (.hit .stop)) (fun hgrd=>Qj J J (Xs q.Trip 0 1000001) J)) J ?_;refine Wz [39,97] ?_;refine zx (Qt.grdT J J J (.hit (.hit .stop)) (fun hgrd=>Qj J J (Xs q.Samples 0 1000001) J)) J ?_;refine Wz [39,110] ?_
 exact Xi J J (Xt [] (by decide) J J J)
section
variable {w:TWire}
theorem wno1 (h:((!inR w.Seed 0 65535 || !inR w.Delay 0 12) || !inR w.Jitter 0 12)=true):wireOk w=false:=Gqa fun ⟨⟨a,b,c⟩,_⟩=>by rw[a,b,c] at h; exact absurd h (by decide)
theorem wno2 (h:((!inR w.Loss 0 100 || !inR w.Copies 0 100) || !inR w.Damage 0 100)=true):wireOk w=false:=Gqa fun ⟨_,⟨a,b,c⟩,_⟩=>by rw[a,b,c] at h; exact absurd h (by decide)
theorem flight_no {f:TFlight} (h:(!inR f.At 0 1100000 || !inR (f.Data.size:Int) 1 20000)=true):flightOk f=false:=by
 rw[flightOk]
 cases h1:inR f.At 0 1100000
 ·rfl
 ·rw[h1] at h; simpa using h
theorem flight_yes {f:TFlight} (h:(!inR f.At 0 1100000 || !inR (f.Data.size:Int) 1 20000)=false):flightOk f=true:=by
 rw[flightOk]
 simpa using h
theorem wire_all (h1:((!inR w.Seed 0 65535 || !inR w.Delay 0 12) || !inR w.Jitter 0 12)=false) (h2:((!inR w.Loss 0 100 || !inR w.Copies 0 100) || !inR w.Damage 0 100)=false) (h3:((!inR w.Now 0 1000000 || !inR w.Sent 0 1000000) || !inR w.Lost 0 1000000)=false) (h4:w.Flights.length≤200) (h5:w.Flights.all flightOk=true):wireOk w=true:=by
 simp only[Gql,Gqt] at h1 h2 h3
 exact Gqb ⟨⟨h1.1.1,h1.1.2,h1.2⟩,⟨h2.1.1,h2.1.2,h2.2⟩,⟨h3.1.1,h3.1.2,h3.2⟩,h4,h5⟩
theorem wire_S {n:Nat} (h5:w.Flights.all flightOk=true) (hl:n=w.Flights.length):(((((((((decide ((n:Int)≤200)&&inR w.Seed 0 65535)&&inR w.Delay 0 12)&&inR w.Jitter 0 12)&&inR w.Loss 0 100)&&inR w.Copies 0 100)&&inR w.Damage 0 100)&&inR w.Now 0 1000000)&&inR w.Sent 0 1000000)&&inR w.Lost 0 1000000)=wireOk w:=by
 subst hl
 rw[Bool.eq_iff_iff]
 simp only[Gqk,decide_eq_true_eq,wireOk,WireP,h5]
 constructor
 ·intro ⟨⟨⟨⟨⟨⟨⟨⟨⟨a,b⟩,c⟩,d⟩,e⟩,f⟩,g⟩,h⟩,i⟩,j⟩
  exact⟨⟨b,c,d⟩,⟨e,f,g⟩,⟨h,i,j⟩,by omega,trivial⟩
 ·intro ⟨⟨b,c,d⟩,⟨e,f,g⟩,⟨h,i,j⟩,a,_⟩
  exact⟨⟨⟨⟨⟨⟨⟨⟨⟨by omega,b⟩,c⟩,d⟩,e⟩,f⟩,g⟩,h⟩,i⟩,j⟩
theorem wno3 (h:((!inR w.Now 0 1000000 || !inR w.Sent 0 1000000) || !inR w.Lost 0 1000000)=true):wireOk w=false:=Gqa fun ⟨_,_,⟨a,b,c⟩,_⟩=>by rw[a,b,c] at h; exact absurd h (by decide)
end
theorem I_WireOk (x:TWire) (hg:Enc.gd x):Con Tryz.prog 64 [] [ag x] [] (B (wireOk x)):=by
 obtain⟨gSe,gDe,gJi,gLo,gCo,gDa,gNo,gFl,gSt,gLt⟩:=hg
 have hl:=X6 x.Flights
 refine Con.of Tryz.func64 J Tryz.ntmps64 J (fun E => ?_)
 refine Wz [19,32] ?_;refine zx (Qj J J (Xj x.Seed 0 65535) J) J ?_;refine Wz [10,95] ?_;refine zx (Qt.grdF J J J (.hit (.hit .stop)) (fun hgrd=>Qj J J (Xj x.Delay 0 12) J)) J ?_;refine Wz [87,82] ?_;refine zx (Qt.grdF J J J (.hit (.hit .stop)) (fun hgrd=>Qj J J (Xj x.Jitter 0 12) J)) J ?_;refine Wz [87,44] ?_
 refine Q8 J (fun h1 => ?_) (fun h1 => ?_)
 ·rw[wno1 h1]
  refine Wz [38] ?_
  exact Xi J J (Xt [] (by decide) J J J)
 refine AWP.pre (st':=(⟨_,[(1,.o (.c (.ptr 0 0)))],[.box ((Enc.e x).map (V1.rd []))]⟩:St)) ?_ (Xu [0] (by kernel_rfl))
 refine Wz [13,32] ?_;refine zx (Qj J J (Xj x.Loss 0 100) J) J ?_;refine Wz [10,95] ?_;refine zx (Qt.grdF J J J (.hit (.hit .stop)) (fun hgrd=>Qj J J (Xj x.Copies 0 100) J)) J ?_;refine Wz [87,82] ?_;refine zx (Qt.grdF J J J (.hit (.hit .stop)) (fun hgrd=>Qj J J (Xj x.Damage 0 100) J)) J ?_;refine Wz [87,44] ?_
 refine Q8 J (fun h2 => ?_) (fun h2 => ?_)
 ·rw[wno2 h2]
  refine Wz [38] ?_
  exact Xi J J (Xt [] (by decide) J J J)
 refine AWP.pre (st':=(⟨_,[(1,.o (.c (.ptr 0 0)))],[.box ((Enc.e x).map (V1.rd []))]⟩:St)) ?_ (Xu [0] (by kernel_rfl))
 refine Wz [13,32] ?_;refine zx (Qj J J (Xj x.Now 0 1000000) J) J ?_;refine Wz [10,95] ?_;refine zx (Qt.grdF J J J (.hit (.hit .stop)) (fun hgrd=>Qj J J (Xj x.Sent 0 1000000) J)) J ?_;refine Wz [87,82] ?_;refine zx (Qt.grdF J J J (.hit (.hit .stop)) (fun hgrd=>Qj J J (Xj x.Lost 0 1000000) J)) J ?_;refine Wz [87,44] ?_
 refine Q8 J (fun h3 => ?_) (fun h3 => ?_)
 ·rw[wno3 h3]
  refine Wz [38] ?_
  exact Xi J J (Xt [] (by decide) J J J)
 refine AWP.pre (st':=(⟨_,[(1,.o (.c (.ptr 0 0)))],[.box ((Enc.e x).map (V1.rd []))]⟩:St)) ?_ (Xu [0] (by kernel_rfl))
 refine Wz [13,32,3,218,1] ?_
 refine Q8 J (fun h4 => ?_) (fun h4 => ?_)
 ·have h4:=Gqc h4
  rw[show wireOk x=false from Gqa fun ⟨_,_,_,q,_⟩=>by omega]
  refine Wz [38] ?_
  exact Xi J J (Xt [] (by decide) J J J)
 have h4:=Gqe h4
 refine AWP.pre (st':=(⟨_,[(1,.o (.c (.ptr 0 0)))],[.box ((Enc.e x).map (V1.rd []))]⟩:St)) ?_ (Xu [0] (by kernel_rfl))
 refine Wz [13,32,114,80] ?_;refine Xe (fun m st=>∃ k:Nat,k+m=x.Flights.length∧((x.Flights.take k).all flightOk=true)∧st=(⟨_,[(1,.o (.c (.ptr 0 0))),(58,L x.Flights),(59,I (els x.Flights).length),(60,I k)],[.box ((Enc.e x).map (V1.rd []))]⟩:St)) (x.Flights.length) ⟨_,⟨0,by omega,by simp,J⟩,Xu [0] (by kernel_rfl)⟩ ?_
 rintro m_A _ ⟨k,hk_A,hp_A,rfl⟩
 refine Wz [4,40,17] ?_
 refine Q8 J (fun h => ?_) (fun h => ?_)
 ·have h5:k<x.Flights.length:=by have:=Gqc h; omega
  have hat:=X4 h5
  refine Wz [5,4,34,56,22,35] ?_;refine zx (Qj J J (Xj x.Flights[k].At 0 1100000) J) J ?_;refine Wz [10,95] ?_;refine zx (Qt.grdF J J J (.hit (.hit .stop)) (fun hgrd=>Zi J J J)) J ?_;refine zx (Qt.grdF J J J (.hit (.hit (.hit .stop))) (fun hgrd=>Qj J J (Xj x.Flights[k].Data.size 1 20000) J)) J ?_;refine Wz [203,44] ?_
  refine Q8 J (fun h6 => ?_) (fun h6 => ?_)
  ·rw[show wireOk x=false from Gqa fun ⟨_,_,_,_,q⟩=>by rw[all_no h5 (flight_no h6)] at q; cases q]
   refine Wz [45] ?_
   exact Xi J J (Xt [] (by decide) J J J)
  ·refine Wz [113,94,36,0,118] ?_
   refine Qz ?_
   exact⟨x.Flights.length-(k+1),by omega,_,⟨k+1,by omega,X0 hp_A h5 (flight_yes h6),J⟩,Xu [0] (by kernel_rfl)⟩
 have h5:¬((k:Int)<(els x.Flights).length):=Gqe h
 rw[wire_all h1 h2 h3 (by omega) (Xz hp_A (by omega))]
 refine Wz [20,47] ?_
 exact Xi J J (Xt [] (by decide) J J J)
theorem S_WireOk (x:TWire) (hg:Enc.gd x):Con Tryz.prog 57 [] [ag x] [] (B (wireOk x)):=by
 obtain⟨gSe,gDe,gJi,gLo,gCo,gDa,gNo,gFl,gSt,gLt⟩:=hg
 have hl:=X6 x.Flights
 have hx:=gFl.1
 refine Con.of Tryz.func57 J Tryz.ntmps57 J (fun E => ?_)
 refine Wz [19,23] ?_;refine Xe (fun m st=>∃ k:Nat,k+m=x.Flights.length∧((x.Flights.take k).all flightOk=true)∧st=(⟨_,[(1,.o (.c (.ptr 0 0))),(3,I k)],[.box ((Enc.e x).map (V1.rd []))]⟩:St)) (x.Flights.length) ⟨_,⟨0,by omega,by simp,J⟩,Xu [0] (by kernel_rfl)⟩ ?_
 rintro m_A _ ⟨k,hk_A,hp_A,rfl⟩
 refine Wz [63,14,3,40] ?_
 refine Q8 J (fun h => ?_) (fun h => ?_)
 ·have h5:k<x.Flights.length:=by have:=Gqc h; omega
  have hat:=X4 h5
  refine Wz [5,54,124,174] ?_;refine zx (Qj J J (Xs x.Flights[k].At 0 1100000) J) J ?_;refine Wz [10,95,140,206] ?_;refine zx (Qt.grdF J J J (.hit (.hit (.hit (.hit .stop)))) (fun hgrd=>Zd J J J J (by decide))) J ?_;refine zx (Qt.grdF J J J (.hit (.hit (.hit (.hit (.hit .stop))))) (fun hgrd=>Zk J J J J)) J ?_;refine zx (Qt.grdF J J J (.hit (.hit (.hit (.hit (.hit (.hit .stop)))))) (fun hgrd=>Zi J J J)) J ?_;refine zx (Qt.grdF J J J (.hit (.hit (.hit (.hit (.hit (.hit (.hit .stop))))))) (fun hgrd=>Qj J J (Xs x.Flights[k].Data.size 1 20000) J)) J ?_;refine zx (Qt.grdF J J J (.hit (.hit (.hit (.hit (.hit (.hit (.hit (.hit .stop)))))))) (fun hgrd=>Q3 J J J)) J ?_;refine Wz [44] ?_
  refine Q8 J (fun h6 => ?_) (fun h6 => ?_)
  ·rw[show wireOk x=false from Gqa fun ⟨_,_,_,_,q⟩=>by rw[all_no h5 (flight_no h6)] at q; cases q]
   refine Wz [45] ?_
   exact Xi J J (Xt [] (by decide) J J J)
  ·refine Wz [113,241,36] ?_
   refine Wz [7] ?_
   exact⟨x.Flights.length-(k+1),by omega,_,⟨k+1,by omega,X0 hp_A h5 (flight_yes h6),J⟩,Xu [0] (by kernel_rfl)⟩
 have h5:¬((k:Int)<(els x.Flights).length):=Gqe h
 have hall:=Xz hp_A (by omega)
 refine Wz [20,35,3,178,97] ?_;refine zx (Qt.grdT J J J (.hit (.hit .stop)) (fun hgrd=>Qj J J (Xs x.Seed 0 65535) J)) J ?_;refine Wz [39,97] ?_;refine zx (Qt.grdT J J J (.hit (.hit .stop)) (fun hgrd=>Qj J J (Xs x.Delay 0 12) J)) J ?_;refine Wz [39,97] ?_;refine zx (Qt.grdT J J J (.hit (.hit .stop)) (fun hgrd=>Qj J J (Xs x.Jitter 0 12) J)) J ?_;refine Wz [39,97] ?_;refine zx (Qt.grdT J J J (.hit (.hit .stop)) (fun hgrd=>Qj J J (Xs x.Loss 0 100) J)) J ?_;refine Wz [39,97] ?_;refine zx (Qt.grdT J J J (.hit (.hit .stop)) (fun hgrd=>Qj J J (Xs x.Copies 0 100) J)) J ?_;refine Wz [39,97] ?_;refine zx (Qt.grdT J J J (.hit (.hit .stop)) (fun hgrd=>Qj J J (Xs x.Damage 0 100) J)) J ?_;refine Wz [39,97] ?_;refine zx (Qt.grdT J J J (.hit (.hit .stop)) (fun hgrd=>Qj J J (Xs x.Now 0 1000000) J)) J ?_;refine Wz [39,97] ?_;refine zx (Qt.grdT J J J (.hit (.hit .stop)) (fun hgrd=>Qj J J (Xs x.Sent 0 1000000) J)) J ?_;refine Wz [39,97] ?_;refine zx (Qt.grdT J J J (.hit (.hit .stop)) (fun hgrd=>Qj J J (Xs x.Lost 0 1000000) J)) J ?_;refine Wz [39,110] ?_
 exact Xi J J (Xt [] (by decide) J J (Xf (wire_S hall hl)))
end
section
open Go.RowKit

section
variable {m:TMatch} {k:Nat} {p:TPeer}
theorem pin_spec (h:peerIn m k p=true):(peerOk p=true∧p.Me=(k:Int)∧(p.Tracks.length:Int)=(m.Scripts.length:Int))∧p.Base.Level=m.Level∧p.Seed=m.Seed∧p.Delay=m.Delay:=by
 simp only[peerIn,Gqk,decide_eq_true_eq] at h
 exact⟨⟨h.1.1.1,h.1.1.2,h.1.2⟩,h.2.1.1,h.2.1.2,h.2.2⟩
theorem pin_no1 (h:((!peerOk p || decide (p.Me≠(k:Int))) || decide (((els p.Tracks).length:Int)≠((els m.Scripts).length:Int)))=true):¬peerIn m k p=true:=fun hp=>by
 obtain⟨⟨a,b,c⟩,_⟩:=pin_spec hp
 rw[a,Gqa (fun q=>q b),X6,X6,Gqa (fun q=>q c)] at h
 exact absurd h (by decide)
theorem pin_no2 (h:((!decide (p.Base.Level=m.Level) || decide (p.Seed≠m.Seed)) || decide (p.Delay≠m.Delay))=true):¬peerIn m k p=true:=fun hp=>by
 obtain⟨_,a,b,c⟩:=pin_spec hp
 rw[Gqb a,Gqa (fun q=>q b),Gqa (fun q=>q c)] at h
 exact absurd h (by decide)
theorem pin_yes (h:((!peerOk p || decide (p.Me≠(k:Int))) || decide (((els p.Tracks).length:Int)≠((els m.Scripts).length:Int)))=false) (h2:((!decide (p.Base.Level=m.Level) || decide (p.Seed≠m.Seed)) || decide (p.Delay≠m.Delay))=false):peerIn m k p=true:=by
 simp only[Gql,Gqt,decide_eq_false_iff_not,Classical.not_not,decide_eq_true_eq,X6] at h h2
 simp only[peerIn,Gqk,decide_eq_true_eq]
 exact⟨⟨⟨h.1.1,h.1.2⟩,h.2⟩,⟨h2.1.1,h2.1.2⟩,h2.2⟩
theorem Z6 {Q:Nat→Prop} (h:∀ i,i<k→Q i) (hk:Q k):∀ i,i<k+1→Q i:=fun i hi=>by
 by_cases e:i=k
 ·subst e; exact hk
 ·exact h i (by omega)
end
theorem I_peersOk (x:TMatch) (hg:Enc.gd x):Con Tryz.prog 165 [] [ag x] [] (B (peersM x)):=by
 obtain⟨gL,gS,gD,gSc,gP,gW,gPa,gA,gC,gWa,gLi,gAl,gB⟩:=hg
 have hlp:=X6 x.Peers
 have hx:=gP.1
 have hls:=X6 x.Scripts
 refine Con.of Tryz.func165 J Tryz.ntmps165 J (fun E => ?_)
 refine Wz [19,32,3,14,3,143,1] ?_
 refine Q8 J (fun h1 => ?_) (fun h1 => ?_)
 ·have h1:=Gqc h1
  rw[show peersM x=false from dF fun hp=>h1 (by rw[hlp,hls,hp.1])]
  refine Wz [38] ?_
  exact Xi J J (Xt [] (by decide) J J J)
 have h1:x.Peers.length=x.Scripts.length:=by have:=Gqe h1; omega
 refine AWP.pre (st':=(⟨_,[(1,.o (.c (.ptr 0 0)))],[.box ((Enc.e x).map (V1.rd []))]⟩:St)) ?_ (Xu [0] (by kernel_rfl))
 refine Wz [13,32,114,80] ?_;refine Xe (fun m st=>∃ k:Nat,k+m=x.Peers.length∧((∀ i,i<k→∀ p,x.Peers[i]? = some p→peerIn x i p=true))∧st=(⟨_,[(1,.o (.c (.ptr 0 0))),(13,L x.Peers),(14,I (els x.Peers).length),(15,I k)],[.box ((Enc.e x).map (V1.rd []))]⟩:St)) (x.Peers.length) ⟨_,⟨0,by omega,fun i hi=>absurd hi (Nat.not_lt_zero _),J⟩,Xu [0] (by kernel_rfl)⟩ ?_
 rintro m_A _ ⟨k,hk_A,hp_A,rfl⟩
 refine Wz [4,40,17] ?_
 refine Q8 J (fun h => ?_) (fun h => ?_)
 ·have h3:k<x.Peers.length:=by have:=Gqc h; omega
  have hat:=X4 h3
  have hq:=Gqg h3
  have gp:=gP.2 _ (Gqd h3)
  generalize x.Peers[k]=p at hat hq gp
  have c1:=I_PeerOk p gp
  have c2:=I_sameLevel p.Base.Level x.Level gp.2.2.2.2.2.1.1
  repeat (first | refine Qd ?_ | refine Qh ?_ | refine Qk ?_ | refine Qz ?_)
  refine Wz [16,0,34] ?_;refine AL.weak (st':=(⟨_,[(1,.o (.c (.ptr 0 0))),(13,L x.Peers),(14,I (els x.Peers).length),(15,I k),(17,I k),(19,.o (.ag ((Enc.e p).map (V1.rd []))))],[.box ((Enc.e x).map (V1.rd []))]⟩:St)) (Xv [0] (by decide) J (by kernel_rfl) (.c J (.c J (.c J (.c J (.c J (.cons (by kernel_rfl) (.nil)))))))) ?_;refine Wz [56,138,136] ?_;refine AL.weak (st':=(⟨_,[(1,.o (.c (.ptr 0 0))),(13,L x.Peers),(14,I (els x.Peers).length),(15,I k),(3,I k),(4,.o (.c (.ptr 1 0)))],[.box ((Enc.e x).map (V1.rd [])),.box ((Enc.e p).map (V1.rd []))]⟩:St)) (Xv [0,1] (by decide) J ((by kernel_rfl)) (.c J (.c J (.c J (.c J (.c J (.c J (.nil)))))))) ?_;refine Wz [1,156,71] ?_;refine zx (Qj J J (c1) J) J ?_;refine Wz [10,95,140,245,82,130,202,253,196,254,44] ?_
  refine Q8 J (fun h4 => ?_) (fun h4 => ?_)
  ·rw[show peersM x=false from dF fun hp=>pin_no1 h4 (hp.2 k p hq)]
   refine Wz [61,90,131,107] ?_
   exact Xi J J (Xt [] (by decide) J J J)
  refine AWP.pre (st':=(⟨_,[(1,.o (.c (.ptr 0 0))),(13,L x.Peers),(14,I (els x.Peers).length),(15,I k),(3,I k),(4,.o (.c (.ptr 1 0)))],[.box ((Enc.e x).map (V1.rd [])),.box ((Enc.e p).map (V1.rd []))]⟩:St)) ?_ (Xu [0,1] (by kernel_rfl))
  refine Wz [13,4,66,230,230] ?_;refine zx (Qj J J (c2) J) J ?_;refine Wz [10,95,214,231,145,82,214,231,145,44] ?_
  refine Q8 J (fun h5 => ?_) (fun h5 => ?_)
  ·rw[show peersM x=false from dF fun hp=>pin_no2 h5 (hp.2 k p hq)]
   refine Wz [45] ?_
   exact Xi J J (Xt [] (by decide) J J J)
  refine AWP.pre (st':=(⟨_,[(1,.o (.c (.ptr 0 0))),(13,L x.Peers),(14,I (els x.Peers).length),(15,I k)],[.box ((Enc.e x).map (V1.rd []))]⟩:St)) ?_ (Xu [0] (by kernel_rfl))
  refine Wz [113,94,36,0,1] ?_
  exact⟨x.Peers.length-(k+1),by omega,_,⟨k+1,by omega,Z6 hp_A fun p' hp'=>by rw[hq] at hp'; cases hp'; exact pin_yes h4 h5,J⟩,Xu [0] (by kernel_rfl)⟩
 have h3:¬k<x.Peers.length:=by have:=Gqe h; omega
 rw[show peersM x=true from dT ⟨h1,fun i p hi=>hp_A i (by have:=(Gqn.1 hi).1; omega) p hi⟩]
 refine Wz [20,47] ?_
 exact Xi J J (Xt [] (by decide) J J J)
theorem X9 {α:Type} [Enc α] {xs:List α} {i:Nat} {x:α} (h:xs[i]? = some x):(els xs)[(i:Int).toNat]? = some (Enc.e x):=by simp[els,h]
theorem lenAt_some {l:List TTrack} {k:Nat} {t:TTrack} (h:l[k]? = some t):lenAt l k=t.Inputs.length:=by simp[lenAt,Gqf,h]
theorem Z3 {α:Type} {xs:List α} {i:Nat} (h:i<xs.length):∃ x,xs[i]? = some x:=⟨_,Gqg h⟩
section
variable {m:TMatch} {i j:Nat} {ws:List TWire} {qs:List TPace} {ks:List Int} {p:TPeer} {w:TWire} {q:TPace} {a:Int} {tr:TTrack} (hws:m.Wires[i]? = some ws) (hqs:m.Paces[i]? = some qs) (hks:m.Acks[i]? = some ks)
include hws hqs hks
theorem link_len (h1:ws.length=m.Peers.length) (h2:qs.length=m.Peers.length) (h3:ks.length=m.Peers.length):LinkLen m i:=fun ws' qs' ks' e1 e2 e3=>by
 rw[hws] at e1; rw[hqs] at e2; rw[hks] at e3
 cases e1; cases e2; cases e3
 exact⟨h1,h2,h3⟩
variable (hp:m.Peers[i]? = some p) (hw:ws[j]? = some w) (hq:qs[j]? = some q) (ha:ks[j]? = some a) (ht:p.Tracks[i]? = some tr)
include hp hw hq ha ht
theorem link_spec (h:LinkAt m i j):wireOk w=true∧paceOk q=true∧inR a 0 (els tr.Inputs).length=true:=by
 have h:=h ws qs ks p w q a hws hqs hks hp hw hq ha
 rwa[lenAt_some ht,←X6 tr.Inputs] at h
theorem link_yes (h1:(!wireOk w || !paceOk q)=false) (h2:inR a 0 (els tr.Inputs).length=true):LinkAt m i j:=fun ws' qs' ks' p' w' q' a' e1 e2 e3 e4 e5 e6 e7=>by
 rw[hws] at e1; rw[hqs] at e2; rw[hks] at e3; rw[hp] at e4
 cases e1; cases e2; cases e3; cases e4
 rw[hw] at e5; rw[hq] at e6; rw[ha] at e7
 cases e5; cases e6; cases e7
 simp only[Gql,Gqt] at h1
 rw[X6] at h2
 exact⟨h1.1,h1.2,by rw[lenAt_some ht]; exact h2⟩
end
theorem I_linksOk (x:TMatch) (hg:Enc.gd x) (hP:PeersP x):Con Tryz.prog 166 [] [ag x] [] (B (linksM x)):=by
 obtain⟨gL,gS,gD,gSc,gP,gW,gPa,gA,gC,gWa,gLi,gAl,gB⟩:=hg
 have hlp:=X6 x.Peers
 have hx:=gP.1
 have hlw:=X6 x.Wires
 have hlq:=X6 x.Paces
 have hla:=X6 x.Acks
 refine Con.of Tryz.func166 J Tryz.ntmps166 J (fun E => ?_)
 refine Wz [19,35,3,7,32,114,143,95,130,157,145,82,130,157,145,44] ?_
 refine Q8 J (fun h1 => ?_) (fun h1 => ?_)
 ·simp only[Gqq,decide_eq_true_eq] at h1
  rw[show linksM x=false from dF fun hp=>by obtain⟨⟨a,b,c⟩,_⟩:=hp; omega]
  refine Wz [38] ?_
  exact Xi J J (Xt [] (by decide) J J J)
 simp only[Gql,decide_eq_false_iff_not,Classical.not_not] at h1
 obtain⟨⟨l1,l2⟩,l3⟩:=h1
 refine AWP.pre (st':=(⟨_,[(1,.o (.c (.ptr 0 0))),(3,I (els x.Peers).length)],[.box ((Enc.e x).map (V1.rd []))]⟩:St)) ?_ (Xu [0] (by kernel_rfl))
 refine Wz [13,23] ?_;refine Xe (fun m st=>∃ i:Nat,i+m=x.Peers.length∧((∀ i',i'<i→LinkLen x i'∧∀ j',j'<x.Peers.length→LinkAt x i' j'))∧st=(⟨_,[(1,.o (.c (.ptr 0 0))),(3,I (els x.Peers).length),(4,I i)],[.box ((Enc.e x).map (V1.rd []))]⟩:St)) (x.Peers.length) ⟨_,⟨0,by omega,fun i hi=>absurd hi (Nat.not_lt_zero _),J⟩,Xu [0] (by kernel_rfl)⟩ ?_
 rintro m_A _ ⟨i,hk_A,hp_A,rfl⟩
 refine Wz [33,40] ?_
 refine Q8 J (fun h => ?_) (fun h => ?_)
 ·have h3:i<x.Peers.length:=by have:=Gqc h; omega
  obtain⟨ws,hws⟩:=Z3 (xs:=x.Wires) (i:=i) (by omega)
  obtain⟨qs,hqs⟩:=Z3 (xs:=x.Paces) (i:=i) (by omega)
  obtain⟨ks,hks⟩:=Z3 (xs:=x.Acks) (i:=i) (by omega)
  obtain⟨p,hp⟩:=Z3 (xs:=x.Peers) (i:=i) (by omega)
  have h4:=(pin_spec (hP.2 i p hp)).1.2.2
  have h5:=hP.1
  obtain⟨tr,ht⟩:=Z3 (xs:=p.Tracks) (i:=i) (by omega)
  have gws:=gW.2 ws (Gq1 hws)
  have hatW:=X9 hws
  have hatQ:=X9 hqs
  have hatK:=X9 hks
  have hatP:=X9 hp
  have hatT:=X9 ht
  have hl1:=X6 ws
  have hl2:=X6 qs
  have hl3:=X6 ks
  refine Wz [5,32,0,93,114,143,95,140,206,215,196,232,216,82,140,206,215,196,232,216,44] ?_
  refine Q8 J (fun h6 => ?_) (fun h6 => ?_)
  ·simp only[Gqq,decide_eq_true_eq] at h6
   rw[show linksM x=false from dF fun hp=>by obtain⟨a,b,c⟩:=(hp.2 i h3).1 ws qs ks hws hqs hks; omega]
   refine Wz [61,90,131,107] ?_
   exact Xi J J (Xt [] (by decide) J J J)
  simp only[Gql,decide_eq_false_iff_not,Classical.not_not] at h6
  obtain⟨⟨l4,l5⟩,l6⟩:=h6
  refine AWP.pre (st':=(⟨_,[(1,.o (.c (.ptr 0 0))),(3,I (els x.Peers).length),(4,I i)],[.box ((Enc.e x).map (V1.rd []))]⟩:St)) ?_ (Xu [0] (by kernel_rfl))
  refine Wz [13,28,179] ?_;refine Xe (fun m st=>∃ j:Nat,j+m=x.Peers.length∧((∀ j',j'<j→LinkAt x i j'))∧st=(⟨_,[(1,.o (.c (.ptr 0 0))),(3,I (els x.Peers).length),(4,I i),(5,I j)],[.box ((Enc.e x).map (V1.rd []))]⟩:St)) (x.Peers.length) ⟨_,⟨0,by omega,fun i hi=>absurd hi (Nat.not_lt_zero _),J⟩,Xu [0] (by kernel_rfl)⟩ ?_
  rintro m_D _ ⟨j,hk_D,hp_D,rfl⟩
  refine Wz [33,40] ?_
  refine Q8 J (fun h => ?_) (fun h => ?_)
  ·have h7:j<x.Peers.length:=by have:=Gqc h; omega
   obtain⟨w,hw⟩:=Z3 (xs:=ws) (i:=j) (by omega)
   obtain⟨q,hq⟩:=Z3 (xs:=qs) (i:=j) (by omega)
   obtain⟨a,ha⟩:=Z3 (xs:=ks) (i:=j) (by omega)
   have hatw:=X9 hw
   have hatq:=X9 hq
   have hata:=X9 ha
   have c1:=I_WireOk w (gws.2 w (Gq1 hw))
   have c2:=I_PaceOk q
   refine Wz [5,32,0,129,104,34] ?_;refine zx (Qj J J (c1) J) J ?_;refine Wz [10,95,140,206,215] ?_;refine zx (Qt.grdF J J J (.hit (.hit (.hit (.hit (.hit .stop))))) (fun hgrd=>Qa J J J)) J ?_;refine zx (Qt.grdF J J J (.hit (.hit (.hit (.hit (.hit (.hit .stop)))))) (fun hgrd=>Q1 J J J J (by omega) (by assumption) J)) J ?_;refine zx (Qt.grdF J J J (.hit (.hit (.hit (.hit (.hit (.hit (.hit .stop))))))) (fun hgrd=>Zl J J J J J)) J ?_;refine zx (Qt.grdF J J J (.hit (.hit (.hit (.hit (.hit (.hit (.hit (.hit .stop)))))))) (fun hgrd=>Qj J J (c2) J)) J ?_;refine zx (Qt.grdF J J J (.hit (.hit (.hit (.hit (.hit (.hit (.hit (.hit (.hit .stop))))))))) (fun hgrd=>Q3 J J J)) J ?_;refine Wz [44] ?_
   refine Q8 J (fun h8 => ?_) (fun h8 => ?_)
   ·rw[show linksM x=false from dF fun hl=>by obtain⟨b,c,_⟩:=link_spec hws hqs hks hp hw hq ha ht ((hl.2 i h3).2 j h7); rw[b,c] at h8; exact absurd h8 (by decide)]
    refine Wz [61,90,131,122] ?_
    exact Xi J J (Xt [] (by decide) J J J)
   refine AWP.pre (st':=(⟨_,[(1,.o (.c (.ptr 0 0))),(3,I (els x.Peers).length),(4,I i),(5,I j)],[.box ((Enc.e x).map (V1.rd []))]⟩:St)) ?_ (Xu [0] (by kernel_rfl))
   have c3:=Xj a 0 (els tr.Inputs).length
   cases hr:inR a 0 (els tr.Inputs).length with
   |false =>
    rw[hr] at c3
    rw[show linksM x=false from dF fun hl=>by obtain⟨_,_,b⟩:=link_spec hws hqs hks hp hw hq ha ht ((hl.2 i h3).2 j h7); rw[hr] at b; cases b]
    refine Wz [211] ?_;refine Xd u8_34 u8_35 u8_36 J ?_;refine Wz [12,65,27,65,27,12,65,158,27,65,158,27] ?_;refine DR.s (Zg J J J) J J ?_;refine DR.s (Qj J J (c3) J) J J ?_;refine Wz [50,11,42,61,160,122] ?_
    exact Xi J J (Xt [] (by decide) J J J)
   |true =>
    rw[hr] at c3
    refine Wz [211] ?_;refine Xd u8_34 u8_35 u8_36 J ?_;refine Wz [12,65,27,65,27,12,65,158,27,65,158,27] ?_;refine DR.s (Zg J J J) J J ?_;refine DR.s (Qj J J (c3) J) J J ?_;refine Wz [50,11,88,49] ?_
    exact⟨x.Peers.length-(j+1),by omega,_,⟨j+1,by omega,Z6 hp_D (link_yes hws hqs hks hp hw hq ha ht h8 hr),J⟩,Xu [0] (by kernel_rfl)⟩
  have h7:¬j<x.Peers.length:=by have:=Gqe h; omega
  refine Wz [182,200] ?_
  exact⟨x.Peers.length-(i+1),by omega,_,⟨i+1,by omega,Z6 hp_A ⟨link_len hws hqs hks (by omega) (by omega) (by omega),fun j' hj=>hp_D j' (by omega)⟩,J⟩,Xu [0] (by kernel_rfl)⟩
 have h3:¬i<x.Peers.length:=by have:=Gqe h; omega
 rw[show linksM x=true from dT ⟨⟨by omega,by omega,by omega⟩,fun i' hi=>hp_A i' (by omega)⟩]
 refine Wz [20,47] ?_
 exact Xi J J (Xt [] (by decide) J J J)
section
variable {m:TMatch} {s:TSpectator} {l:TWire}
theorem win_spec (h:watcherIn m s l=true):(wireOk l=true∧worldOk s.World=true)∧s.World.Level=m.Level∧(s.World.Scores.length:Int)=(m.Scripts.length:Int):=by
 simp only[watcherIn,Gqk,decide_eq_true_eq] at h
 exact h
theorem win_no1 (h:(!wireOk l || !worldOk s.World)=true):¬watcherIn m s l=true:=fun hp=>by
 obtain⟨⟨a,b⟩,_⟩:=win_spec hp
 rw[a,b] at h
 exact absurd h (by decide)
theorem win_no2 (h:(!decide (s.World.Level=m.Level) || decide (((els s.World.Scores).length:Int)≠((els m.Scripts).length:Int)))=true):¬watcherIn m s l=true:=fun hp=>by
 obtain⟨_,a,b⟩:=win_spec hp
 rw[Gqb a,X6,X6,Gqa (fun q=>q b)] at h
 exact absurd h (by decide)
theorem win_yes (h:(!wireOk l || !worldOk s.World)=false) (h2:(!decide (s.World.Level=m.Level) || decide (((els s.World.Scores).length:Int)≠((els m.Scripts).length:Int)))=false):watcherIn m s l=true:=by
 simp only[Gql,Gqt,decide_eq_false_iff_not,Classical.not_not,decide_eq_true_eq,X6] at h h2
 simp only[watcherIn,Gqk,decide_eq_true_eq]
 exact⟨h,h2⟩
end
theorem I_watchersOk (x:TMatch) (hg:Enc.gd x):Con Tryz.prog 167 [] [ag x] [] (B (watchersM x)):=by
 obtain⟨gL,gS,gD,gSc,gP,gW,gPa,gA,gC,gWa,gLi,gAl,gB⟩:=hg
 have hlp:=X6 x.Watchers
 have hll:=X6 x.Lines
 have hx:=gWa.1
 refine Con.of Tryz.func167 J Tryz.ntmps167 J (fun E => ?_)
 refine Wz [19,32,3,218,95,130,202,253,196,254,44] ?_
 refine Q8 J (fun h1 => ?_) (fun h1 => ?_)
 ·simp only[Gqq,decide_eq_true_eq] at h1
  rw[show watchersM x=false from dF fun hp=>by obtain⟨⟨a,b⟩,_⟩:=hp; omega]
  refine Wz [38] ?_
  exact Xi J J (Xt [] (by decide) J J J)
 simp only[Gql,decide_eq_false_iff_not,Classical.not_not] at h1
 obtain⟨l1,l2⟩:=h1
 refine AWP.pre (st':=(⟨_,[(1,.o (.c (.ptr 0 0)))],[.box ((Enc.e x).map (V1.rd []))]⟩:St)) ?_ (Xu [0] (by kernel_rfl))
 refine Wz [13,32,114,80] ?_;refine Xe (fun m st=>∃ k:Nat,k+m=x.Watchers.length∧((∀ i,i<k→∀ s l,x.Watchers[i]? = some s→x.Lines[i]? = some l→watcherIn x s l=true))∧st=(⟨_,[(1,.o (.c (.ptr 0 0))),(19,L x.Watchers),(20,I (els x.Watchers).length),(21,I k)],[.box ((Enc.e x).map (V1.rd []))]⟩:St)) (x.Watchers.length) ⟨_,⟨0,by omega,fun i hi=>absurd hi (Nat.not_lt_zero _),J⟩,Xu [0] (by kernel_rfl)⟩ ?_
 rintro m_A _ ⟨k,hk_A,hp_A,rfl⟩
 refine Wz [4,40,17] ?_
 refine Q8 J (fun h => ?_) (fun h => ?_)
 ·have h3:k<x.Watchers.length:=by have:=Gqc h; omega
  obtain⟨s,hs⟩:=Z3 (xs:=x.Watchers) (i:=k) (by omega)
  obtain⟨l,hl⟩:=Z3 (xs:=x.Lines) (i:=k) (by omega)
  have hat:=X9 hs
  have hatL:=X9 hl
  have gs:=gWa.2 s (Gq1 hs)
  have c1:=I_WireOk l (gLi.2 l (Gq1 hl))
  have c2:=I_WorldOk s.World gs.1
  have c3:=I_sameLevel s.World.Level x.Level gs.1.1
  refine Wz [5,8,34,56,138,22,32,0,34] ?_;refine zx (Qj J J (c1) J) J ?_;refine Wz [10,148,195] ?_;refine zx (Qt.grdF J J J (.hit (.hit .stop)) (fun hgrd=>Qj J J (c2) J)) J ?_;refine Wz [87,44] ?_
  refine Q8 J (fun h4 => ?_) (fun h4 => ?_)
  ·rw[show watchersM x=false from dF fun hp=>win_no1 h4 (hp.2 k s l hs hl)]
   refine Wz [61,90,131,107] ?_
   exact Xi J J (Xt [] (by decide) J J J)
  refine AWP.pre (st':=(⟨_,[(1,.o (.c (.ptr 0 0))),(19,L x.Watchers),(20,I (els x.Watchers).length),(21,I k),(4,.o (.c (.ptr 1 0)))],[.box ((Enc.e x).map (V1.rd [])),.box ((Enc.e s).map (V1.rd []))]⟩:St)) ?_ (Xu [0,1] (by kernel_rfl))
  refine Wz [13,4,66,230,230] ?_;refine zx (Qj J J (c3) J) J ?_;refine Wz [10,148,165,190,198,249] ?_;refine zx (Qt.grdF J J J (.hit (.hit (.hit (.hit (.hit .stop))))) (fun hgrd=>Qg J J J J J)) J ?_;refine zx (Qt.grdF J J J (.hit (.hit (.hit (.hit (.hit (.hit .stop)))))) (fun hgrd=>Zg J J J)) J ?_;refine Wz [216,44] ?_
  refine Q8 J (fun h5 => ?_) (fun h5 => ?_)
  ·rw[show watchersM x=false from dF fun hp=>win_no2 h5 (hp.2 k s l hs hl)]
   refine Wz [45] ?_
   exact Xi J J (Xt [] (by decide) J J J)
  refine AWP.pre (st':=(⟨_,[(1,.o (.c (.ptr 0 0))),(19,L x.Watchers),(20,I (els x.Watchers).length),(21,I k)],[.box ((Enc.e x).map (V1.rd []))]⟩:St)) ?_ (Xu [0] (by kernel_rfl))
  refine Wz [113,94,36,0,1] ?_
  exact⟨x.Watchers.length-(k+1),by omega,_,⟨k+1,by omega,Z6 hp_A fun s' l' hs' hl'=>by rw[hs] at hs'; rw[hl] at hl'; cases hs'; cases hl'; exact win_yes h4 h5,J⟩,Xu [0] (by kernel_rfl)⟩
 have h3:¬k<x.Watchers.length:=by have:=Gqe h; omega
 rw[show watchersM x=true from dT ⟨⟨by omega,by omega⟩,fun i s l hi hl=>hp_A i (by have:=(Gqn.1 hi).1; omega) s l hi hl⟩]
 refine Wz [20,47] ?_
 exact Xi J J (Xt [] (by decide) J J J)
end
section
open Go.RowKit

section
variable {m:TMatch}
theorem match_I (hH:HeadP m) (hS:1≤m.Scripts.length∧m.Scripts.length≤4) (hA:m.Scripts.all scriptOk=true) (hP:PeersP m):(linksM m&&watchersM m)=matchOk m:=by
 by_cases hl:LinksP m
 ·by_cases hw:WatchersP m
  ·rw[show linksM m=true from dT hl,show watchersM m=true from dT hw,show matchOk m=true from dT ⟨hH,hS,hA,hP,hl,hw⟩]; rfl
  ·rw[show watchersM m=false from dF hw,show matchOk m=false from dF fun ⟨_,_,_,_,_,q⟩=>hw q,Bool.and_false]
 ·rw[show linksM m=false from dF hl,show matchOk m=false from dF fun ⟨_,_,_,_,q,_⟩=>hl q,Bool.false_and]
end
theorem I_MatchOk (x:TMatch) (hg:Enc.gd x):Con Tryz.prog 68 [] [ag x] [] (B (matchOk x)):=by
 have hg0:=hg
 obtain⟨gL,gS,gD,gSc,gP,gW,gPa,gA,gC,gWa,gLi,gAl,gB⟩:=hg
 have hl:=X6 x.Scripts
 have hx:=gSc.1
 have c1:=I_LevelOk x.Level gL
 refine Con.of Tryz.func68 J Tryz.ntmps68 J (fun E => ?_)
 refine Wz [19,176] ?_;refine zx (Qj J J (c1) J) J ?_;refine Wz [10,95] ?_;refine zx (Qt.grdF J J J (.hit (.hit .stop)) (fun hgrd=>Qj J J (Xj x.Seed 0 65535) J)) J ?_;refine Wz [87,82] ?_;refine zx (Qt.grdF J J J (.hit (.hit .stop)) (fun hgrd=>Qj J J (Xj x.Delay 0 5) J)) J ?_;refine Wz [87,44] ?_
 refine Q8 J (fun h1 => ?_) (fun h1 => ?_)
 ·rw[show matchOk x=false from dF fun hm=>by obtain⟨⟨a,b,c,_⟩,_⟩:=hm; rw[a,b,c] at h1; exact absurd h1 (by decide)]
  refine Wz [38] ?_
  exact Xi J J (Xt [] (by decide) J J J)
 refine AWP.pre (st':=(⟨_,[(1,.o (.c (.ptr 0 0)))],[.box ((Enc.e x).map (V1.rd []))]⟩:St)) ?_ (Xu [0] (by kernel_rfl))
 refine Wz [13,32] ?_;refine zx (Qj J J (Xj x.Clock 0 1000) J) J ?_;refine Wz [10,95] ?_;refine zx (Qt.grdF J J J (.hit (.hit .stop)) (fun hgrd=>Qj J J (Xj x.Bad 0 1000000) J)) J ?_;refine Wz [87,44] ?_
 refine Q8 J (fun h2 => ?_) (fun h2 => ?_)
 ·rw[show matchOk x=false from dF fun hm=>by obtain⟨⟨_,_,_,a,b⟩,_⟩:=hm; rw[a,b] at h2; exact absurd h2 (by decide)]
  refine Wz [38] ?_
  exact Xi J J (Xt [] (by decide) J J J)
 refine AWP.pre (st':=(⟨_,[(1,.o (.c (.ptr 0 0)))],[.box ((Enc.e x).map (V1.rd []))]⟩:St)) ?_ (Xu [0] (by kernel_rfl))
 simp only[Gql,Gqt] at h1 h2
 have hH:HeadP x:=⟨h1.1.1,h1.1.2,h1.2,h2.1,h2.2⟩
 refine Wz [13,32,3,161,95,130,221,44] ?_
 refine Q8 J (fun h3 => ?_) (fun h3 => ?_)
 ·simp only[Gqq,decide_eq_true_eq] at h3
  rw[show matchOk x=false from dF fun hm=>by obtain⟨_,⟨a,b⟩,_⟩:=hm; omega]
  refine Wz [38] ?_
  exact Xi J J (Xt [] (by decide) J J J)
 simp only[Gql,decide_eq_false_iff_not] at h3
 refine AWP.pre (st':=(⟨_,[(1,.o (.c (.ptr 0 0)))],[.box ((Enc.e x).map (V1.rd []))]⟩:St)) ?_ (Xu [0] (by kernel_rfl))
 refine Wz [13,32,114,80] ?_;refine Xe (fun m st=>∃ k:Nat,k+m=x.Scripts.length∧((x.Scripts.take k).all scriptOk=true)∧st=(⟨_,[(1,.o (.c (.ptr 0 0))),(42,L x.Scripts),(43,I (els x.Scripts).length),(44,I k)],[.box ((Enc.e x).map (V1.rd []))]⟩:St)) (x.Scripts.length) ⟨_,⟨0,by omega,by simp,J⟩,Xu [0] (by kernel_rfl)⟩ ?_
 rintro m_A _ ⟨k,hk_A,hp_A,rfl⟩
 refine Wz [4,40,17] ?_
 refine Q8 J (fun h => ?_) (fun h => ?_)
 ·have h5:k<x.Scripts.length:=by have:=Gqc h; omega
  have hat:=X4 h5
  have hc:=I_scriptOk x.Scripts[k] (gSc.2 _ (Gqd h5))
  cases ho:scriptOk x.Scripts[k] with
  |false =>
   rw[ho] at hc
   rw[show matchOk x=false from dF fun hm=>by have:=hm.2.2.1; rw[all_no h5 ho] at this; cases this]
   refine Wz [5,4,93,74] ?_;refine zx (Qj J J (hc) J) J ?_;refine Wz [10,42,45] ?_
   exact Xi J J (Xt [] (by decide) J J J)
  |true =>
   rw[ho] at hc
   refine Wz [5,4,93,74] ?_;refine zx (Qj J J (hc) J) J ?_;refine Wz [10,88,113,94,36,0,1] ?_
   exact⟨x.Scripts.length-(k+1),by omega,_,⟨k+1,by omega,X0 hp_A h5 ho,J⟩,Xu [0] (by kernel_rfl)⟩
 have h5:¬k<x.Scripts.length:=by have:=Gqe h; omega
 have hA:=Xz hp_A (by omega)
 have cp:=I_peersOk x hg0
 have cw:=I_watchersOk x hg0
 refine AWP.pre (st':=(⟨_,[(1,.o (.c (.ptr 0 0)))],[.box ((Enc.e x).map (V1.rd []))]⟩:St)) ?_ (Xu [0] (by kernel_rfl))
 by_cases hP:PeersP x
 ·have cl:=I_linksOk x hg0 hP
  rw[show peersM x=true from dT hP] at cp
  rw[←match_I hH (by omega) hA hP]
  refine Wz [20,25] ?_;refine zx (Qj J J (cp) J) J ?_;refine Wz [62,71,2] ?_;refine zx (Qj J J (cl) J) J ?_;refine Wz [67,0] ?_;refine zx (Qt.grdT J J J .stop (fun hgrd=>Qu J J J J J J)) J ?_;refine zx (Qt.grdT J J J (.hit .stop) (fun hgrd=>Qj J J (cw) J)) J ?_;refine Wz [39,110] ?_
  exact Xi J J (Xt [] (by decide) J J J)
 ·rw[show peersM x=false from dF hP] at cp
  rw[show matchOk x=false from dF fun hm=>hP hm.2.2.2.1]
  refine Wz [20,25] ?_;refine zx (Qj J J (cp) J) J ?_;refine Wz [0,46,37,0,46,37,110] ?_
  exact Xi J J (Xt [] (by decide) J J J)
end
section
open Go.RowKit

theorem S_square (x:TMatch) (hg:Enc.gd x) (hP:PeersP x):Con Tryz.prog 158 [] [ag x,ai x.Peers.length] [] (B (linksM x)):=by
 obtain⟨gL,gS,gD,gSc,gP,gW,gPa,gA,gC,gWa,gLi,gAl,gB⟩:=hg
 have hx:=gP.1
 have hlw:=X6 x.Wires
 have hlq:=X6 x.Paces
 have hla:=X6 x.Acks
 refine Con.of Tryz.func158 J Tryz.ntmps158 J (fun E => ?_)
 refine Wz [19,32,114,143,95,130,157,145,82,130,157,145,44] ?_
 refine Q8 J (fun h1 => ?_) (fun h1 => ?_)
 ·simp only[Gqq,decide_eq_true_eq] at h1
  rw[show linksM x=false from dF fun hp=>by obtain⟨⟨a,b,c⟩,_⟩:=hp; omega]
  refine Wz [38] ?_
  exact Xi J J (Xt [] (by decide) J J J)
 simp only[Gql,decide_eq_false_iff_not,Classical.not_not] at h1
 obtain⟨⟨l1,l2⟩,l3⟩:=h1
 refine AWP.pre (st':=(⟨_,[(2,.o (.c (.ptr 0 0))),(1,I x.Peers.length)],[.box ((Enc.e x).map (V1.rd []))]⟩:St)) ?_ (Xu [0] (by kernel_rfl))
 refine Wz [13,23] ?_;refine Xe (fun m st=>∃ i:Nat,i+m=x.Peers.length∧((∀ i',i'<i→LinkLen x i'∧∀ j',j'<x.Peers.length→LinkAt x i' j'))∧st=(⟨_,[(2,.o (.c (.ptr 0 0))),(1,I x.Peers.length),(5,I i)],[.box ((Enc.e x).map (V1.rd []))]⟩:St)) (x.Peers.length) ⟨_,⟨0,by omega,fun i hi=>absurd hi (Nat.not_lt_zero _),J⟩,Xu [0] (by kernel_rfl)⟩ ?_
 rintro m_A _ ⟨i,hk_A,hp_A,rfl⟩
 refine Wz [33,40] ?_
 refine Q8 J (fun h => ?_) (fun h => ?_)
 ·have h3:i<x.Peers.length:=by have:=Gqc h; omega
  obtain⟨ws,hws⟩:=Z3 (xs:=x.Wires) (i:=i) (by omega)
  obtain⟨qs,hqs⟩:=Z3 (xs:=x.Paces) (i:=i) (by omega)
  obtain⟨ks,hks⟩:=Z3 (xs:=x.Acks) (i:=i) (by omega)
  obtain⟨p,hp⟩:=Z3 (xs:=x.Peers) (i:=i) (by omega)
  have h4:=(pin_spec (hP.2 i p hp)).1.2.2
  have h5:=hP.1
  obtain⟨tr,ht⟩:=Z3 (xs:=p.Tracks) (i:=i) (by omega)
  have gws:=gW.2 ws (Gq1 hws)
  have hatW:=X9 hws
  have hatQ:=X9 hqs
  have hatK:=X9 hks
  have hatP:=X9 hp
  have hatT:=X9 ht
  have hl1:=X6 ws
  have hl2:=X6 qs
  have hl3:=X6 ks
  refine Wz [5,32,0,93,114,143,95,140,206,215,196,232,216,82,140,206,215,196,232,216,44] ?_
  refine Q8 J (fun h6 => ?_) (fun h6 => ?_)
  ·simp only[Gqq,decide_eq_true_eq] at h6
   rw[show linksM x=false from dF fun hp=>by obtain⟨a,b,c⟩:=(hp.2 i h3).1 ws qs ks hws hqs hks; omega]
   refine Wz [61,90,131,107] ?_
   exact Xi J J (Xt [] (by decide) J J J)
  simp only[Gql,decide_eq_false_iff_not,Classical.not_not] at h6
  obtain⟨⟨l4,l5⟩,l6⟩:=h6
  refine AWP.pre (st':=(⟨_,[(2,.o (.c (.ptr 0 0))),(1,I x.Peers.length),(5,I i)],[.box ((Enc.e x).map (V1.rd []))]⟩:St)) ?_ (Xu [0] (by kernel_rfl))
  refine Wz [13,28,179] ?_;refine Xe (fun m st=>∃ j:Nat,j+m=x.Peers.length∧((∀ j',j'<j→LinkAt x i j'))∧st=(⟨_,[(2,.o (.c (.ptr 0 0))),(1,I x.Peers.length),(5,I i),(6,I j)],[.box ((Enc.e x).map (V1.rd []))]⟩:St)) (x.Peers.length) ⟨_,⟨0,by omega,fun i hi=>absurd hi (Nat.not_lt_zero _),J⟩,Xu [0] (by kernel_rfl)⟩ ?_
  rintro m_D _ ⟨j,hk_D,hp_D,rfl⟩
  refine Wz [33,40] ?_
  refine Q8 J (fun h => ?_) (fun h => ?_)
  ·have h7:j<x.Peers.length:=by have:=Gqc h; omega
   obtain⟨w,hw⟩:=Z3 (xs:=ws) (i:=j) (by omega)
   obtain⟨q,hq⟩:=Z3 (xs:=qs) (i:=j) (by omega)
   obtain⟨a,ha⟩:=Z3 (xs:=ks) (i:=j) (by omega)
   have hatw:=X9 hw
   have hatq:=X9 hq
   have hata:=X9 ha
   have c1:=S_WireOk w (gws.2 w (Gq1 hw))
   have c2:=S_PaceOk q
   have c3:=Xs a 0 (els tr.Inputs).length
   cases hr1:wireOk w with
   |false =>
    rw[hr1] at c1
    rw[show linksM x=false from dF fun hl=>by obtain⟨b,_,_⟩:=link_spec hws hqs hks hp hw hq ha ht ((hl.2 i h3).2 j h7); rw[hr1] at b; cases b]
    refine Wz [69,233,12,65,27,65,194] ?_;refine DR.s (Qj J J (c1) J) J J ?_;refine Wz [50,15,58,58,261,126,15,58,58,58,58,58,226,126,11,42,61,160,122] ?_
    exact Xi J J (Xt [] (by decide) J J J)
   | true =>
    rw[hr1] at c1
    cases hr2:paceOk q with
    |false =>
     rw[hr2] at c2
     rw[show linksM x=false from dF fun hl=>by obtain⟨_,b,_⟩:=link_spec hws hqs hks hp hw hq ha ht ((hl.2 i h3).2 j h7); rw[hr2] at b; cases b]
     refine Wz [69,233,12,65,27,65,194] ?_;refine DR.s (Qj J J (c1) J) J J ?_;refine Wz [50,15,26,115,128,137,115,128,255] ?_;refine DR.s (Qt.yes J J J (Qj J J (c2) J)) J J ?_;refine Wz [123,81,15,58,58,58,58,58,226,126,11,42,61,160,122] ?_
     exact Xi J J (Xt [] (by decide) J J J)
    | true =>
     rw[hr2] at c2
     cases hr:inR a 0 (els tr.Inputs).length with
     |false =>
      rw[hr] at c3
      rw[show linksM x=false from dF fun hl=>by obtain⟨_,_,b⟩:=link_spec hws hqs hks hp hw hq ha ht ((hl.2 i h3).2 j h7); rw[hr] at b; cases b]
      refine Wz [69,233,12,65,27,65,194] ?_;refine DR.s (Qj J J (c1) J) J J ?_;refine Wz [50,15,26,115,128,137,115,128,255] ?_;refine DR.s (Qt.yes J J J (Qj J J (c2) J)) J J ?_;refine Wz [123,81,15,26,115,128,137,115,128,137,26,115,128,168,137,115,128,168,137,187] ?_;refine DR.s (Qt.yes J J J (Qj J J (c3) J)) J J ?_;refine Wz [123,81,11,42,61,160,122] ?_
      exact Xi J J (Xt [] (by decide) J J J)
     |true =>
      rw[hr] at c3
      refine Wz [69,233,12,65,27,65,194] ?_;refine DR.s (Qj J J (c1) J) J J ?_;refine Wz [50,15,26,115,128,137,115,128,255] ?_;refine DR.s (Qt.yes J J J (Qj J J (c2) J)) J J ?_;refine Wz [123,81,15,26,115,128,137,115,128,137,26,115,128,168,137,115,128,168,137,187] ?_;refine DR.s (Qt.yes J J J (Qj J J (c3) J)) J J ?_;refine Wz [123,81,11,88,49] ?_
      exact⟨x.Peers.length-(j+1),by omega,_,⟨j+1,by omega,Z6 hp_D (link_yes hws hqs hks hp hw hq ha ht (by rw[hr1,hr2]; rfl) hr),J⟩,Xu [0] (by kernel_rfl)⟩
  have h7:¬j<x.Peers.length:=by have:=Gqe h; omega
  refine Wz [182,200] ?_
  exact⟨x.Peers.length-(i+1),by omega,_,⟨i+1,by omega,Z6 hp_A ⟨link_len hws hqs hks (by omega) (by omega) (by omega),fun j' hj=>hp_D j' (by omega)⟩,J⟩,Xu [0] (by kernel_rfl)⟩
 have h3:¬i<x.Peers.length:=by have:=Gqe h; omega
 rw[show linksM x=true from dT ⟨⟨by omega,by omega,by omega⟩,fun i' hi=>hp_A i' (by omega)⟩]
 refine Wz [20,47] ?_
 exact Xi J J (Xt [] (by decide) J J J)
end
end Go.Proofs.YtoecjaohdnoenaaGreat
