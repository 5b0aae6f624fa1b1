/-
  Rules, data and contracts of functions: part 27 of the proof.
  Conditions: those that each theorem names.
-/
import Derived.Test.YtoecjaohdnoenaaGreatDDJoinRowk25
set_option linter.unusedSimpArgs false
set_option linter.unusedVariables false
set_option maxRecDepth 8000
set_option maxHeartbeats 8000000
namespace Go.Proofs.YtoecjaohdnoenaaGreat
section
open Go.RowKit

section
variable {p:TPeer}
theorem noS1 (h:((((((!worldOk p.Base || !worldOk p.Now) || !decide (p.Base.Level=p.Now.Level)) || decide ((p.Base.Scores.length:Int)≠p.Tracks.length)) || decide ((p.Now.Scores.length:Int)≠p.Tracks.length)) || !tracksOk p.Tracks) || !faultOk p.Fault p.Tracks.length)=true):¬PeerP p:=fun ⟨⟨q1,q2,q3,q4⟩,⟨q5,q6,q7⟩,_⟩=>by
 rw[q1,q2,q3,Gqb q4,q7,Gqa (by omega),Gqa (by omega)] at h; exact absurd h (by decide)
theorem noS2 (h:((((((((!inR p.Me 0 ((p.Tracks.length:Int)-1) || !inR p.Delay 0 5) || !inR p.Ahead 1 8) || !inR p.Seed 0 65535) || !inR p.Rolls 0 1000000) || !inR p.Again 0 1000000) || !inR (p.Now.Tick-p.Base.Tick) 0 p.Ahead) || decide ((p.Used.length:Int)≠p.Now.Tick-p.Base.Tick)) || decide ((p.Saves.length:Int)≠p.Now.Tick-p.Base.Tick))=true):¬PeerP p:=fun ⟨_,_,⟨q1,q2,q3⟩,⟨q4,q5,q6⟩,⟨q7,q8,q9⟩,_⟩=>by
 rw[Yu.2 q1,Yu.2 q2,Yu.2 q3,Yu.2 q4,Yu.2 q5,Yu.2 q6,Yu.2 q7,Gqa (by omega),Gqa (by omega)] at h; exact absurd h (by decide)
end
theorem S_PeerOk (x:TPeer) (hg:Enc.gd x):Con Tryz.prog 99 [] [ag x] [] (B (peerOk x)):=by
 obtain⟨gMe,gDe,gAh,gSe,gTr,gBa,gNo,gUs,gSa,gSu,gFa,gRo,gAg⟩:=hg
 have hlt:=Yf x.Tracks
 have hlu:=Yf x.Used
 have hls:=Yf x.Saves
 have hlm:=Yf x.Sums
 have hlb:=Yf x.Base.Scores
 have hln:=Yf x.Now.Scores
 have c1:=S_TracksOk x.Tracks gTr
 have c2:=S_WorldOk x.Base gBa
 have c3:=S_WorldOk x.Now gNo
 have c4:=S_sameLevel x.Base.Level x.Now.Level gBa.1
 have c5:=S_FaultOk x.Fault (els x.Tracks).length (by omega) (by have:=gTr.1; omega)
 have c6:=S_KnownTicks x.Tracks gTr
 refine Con.of Tryz.func99 J Tryz.ntmps99 J (fun E => ?_)
 refine Wz [47,41,14,36,198] ?_;refine zx (Qj J J (c2) J) J ?_;refine Wz [3,169,217] ?_;refine zx (Qt.grdF J J J (.hit (.hit .stop)) (fun hgrd=>Qj J J (c3) J)) J ?_;refine Wz [105,115,169,188,272,226,273] ?_;refine zx (Qt.grdF J J J (.hit (.hit (.hit (.hit (.hit .stop))))) (fun hgrd=>Qu J J J J J J)) J ?_;refine zx (Qt.grdF J J J (.hit (.hit (.hit (.hit (.hit (.hit .stop)))))) (fun hgrd=>Qj J J (c4) J)) J ?_;refine zx (Qt.grdF J J J (.hit (.hit (.hit (.hit (.hit (.hit (.hit .stop))))))) (fun hgrd=>Q3 J J J)) J ?_;refine Wz [115,169,188,214,221,274,275,115,169,188,214,221,274,275,97] ?_;refine zx (Qt.grdF J J J (.hit (.hit .stop)) (fun hgrd=>Qj J J (c1) J)) J ?_;refine Wz [105,115,169,217,168] ?_;refine zx (Qt.grdF J J J (.hit (.hit (.hit .stop))) (fun hgrd=>Qj J J (c5) J)) J ?_;refine Wz [257,43] ?_
 refine Q9 J (fun h1 => ?_) (fun h1 => ?_)
 ·rw[hlt,hlb,hln] at h1
  rw[peer_F (noS1 h1)]
  refine Wz [35] ?_
  exact Xk J J (Xw [] (by decide) J J J)
 rw[hlt,hlb,hln] at h1
 simp only[Gql,Gqy,decide_eq_true_eq,decide_eq_false_iff_not,Classical.not_not] at h1
 obtain⟨⟨⟨⟨⟨⟨q2,q3⟩,q4⟩,q5⟩,q6⟩,q1⟩,q7⟩:=h1
 have tB:=world_ticks q2
 have tN:=world_ticks q3
 have tL:=tracks_spec q1
 refine AWP.pre (st':=(⟨_,[(1,.o (.c (.ptr 0 0))),(3,I (els x.Tracks).length)],[.box ((Enc.e x).map (V1.rd []))]⟩:St)) ?_ (Xy [0] (by kernel_rfl))
 refine Wz [64,1,81,18,81,18,74,36,18,0,74] ?_;refine zx (Qj J J (Xv x.Me 0 (((els x.Tracks).length:Int)-1)) J) J ?_;refine Wz [3,110] ?_;refine zx (Qt.grdF J J J (.hit (.hit .stop)) (fun hgrd=>Qj J J (Xv x.Delay 0 5) J)) J ?_;refine Wz [105,97] ?_;refine zx (Qt.grdF J J J (.hit (.hit .stop)) (fun hgrd=>Qj J J (Xv x.Ahead 1 8) J)) J ?_;refine Wz [105,97] ?_;refine zx (Qt.grdF J J J (.hit (.hit .stop)) (fun hgrd=>Qj J J (Xv x.Seed 0 65535) J)) J ?_;refine Wz [105,97] ?_;refine zx (Qt.grdF J J J (.hit (.hit .stop)) (fun hgrd=>Qj J J (Xv x.Rolls 0 1000000) J)) J ?_;refine Wz [105,97] ?_;refine zx (Qt.grdF J J J (.hit (.hit .stop)) (fun hgrd=>Qj J J (Xv x.Again 0 1000000) J)) J ?_;refine Wz [105,115,0,95,188,214] ?_;refine zx (Qt.grdF J J J (.hit (.hit (.hit .stop))) (fun hgrd=>Qj J J (Xv (x.Now.Tick-x.Base.Tick) 0 x.Ahead) J)) J ?_;refine Wz [257,97,150,176,164,97,150,176,164,43] ?_
 refine Q9 J (fun h2 => ?_) (fun h2 => ?_)
 ·rw[hlt,hlu,hls] at h2
  rw[peer_F (noS2 h2)]
  refine Wz [35] ?_
  exact Xk J J (Xw [] (by decide) J J J)
 rw[hlt,hlu,hls] at h2
 simp only[Gql,Gqy,decide_eq_false_iff_not,Classical.not_not,Yu] at h2
 obtain⟨⟨⟨⟨⟨⟨⟨⟨q8,q9⟩,q10⟩,q11⟩,q12⟩,q13⟩,q14⟩,q15⟩,q16⟩:=h2
 refine AWP.pre (st':=(⟨_,[(1,.o (.c (.ptr 0 0))),(3,I (els x.Tracks).length),(4,I (x.Now.Tick-x.Base.Tick))],[.box ((Enc.e x).map (V1.rd []))]⟩:St)) ?_ (Xy [0] (by kernel_rfl))
 refine Wz [48,44] ?_;refine Xf (fun m st=>∃ k:Nat,k+m=x.Used.length∧((x.Used.take k).all (fun row=>rowOk row x.Tracks.length)=true∧(∀ i (h:i<x.Saves.length),i<k→x.Saves[i].Tick=x.Base.Tick+i))∧st=(⟨_,[(1,.o (.c (.ptr 0 0))),(3,I (els x.Tracks).length),(4,I (x.Now.Tick-x.Base.Tick)),(5,I k)],[.box ((Enc.e x).map (V1.rd []))]⟩:St)) (x.Used.length) ⟨_,⟨0,by omega,⟨by simp,fun i _ hi=>absurd hi (Nat.not_lt_zero _)⟩,J⟩,Xy [0] (by kernel_rfl)⟩ ?_
 rintro m_A _ ⟨k,hk_A,hp_A,rfl⟩
 obtain⟨hpa,hpb⟩:=hp_A
 refine Wz [25,38] ?_
 refine Q9 J (fun h => ?_) (fun h => ?_)
 ·have h3:k<x.Used.length:=by have:=Gqc h; omega
  have h4:k<x.Saves.length:=by omega
  have hat:=Yc h3
  have hat2:=Yc h4
  have hc:=S_rowOk x.Used[k] (els x.Tracks).length (gUs.2 _ (Gqd h3))
  rw[hlt] at hc
  cases ho:rowOk x.Used[k] x.Tracks.length with
  |false =>
   rw[ho,←hlt] at hc
   rw[peer_F (fun hp=>by have:=hp.2.2.2.2.2.1.1; rw[all_no h3 ho] at this; cases this)]
   refine Wz [84,280,13,50,21,11] ?_;refine DR.s (Qj J J (hc) J) J J ?_;refine Wz [65,11,70,70,70,145,12,17,51] ?_
   exact Xk J J (Xw [] (by decide) J J J)
  | true =>
   rw[ho,←hlt] at hc
   by_cases hs:x.Saves[k].Tick=x.Base.Tick+k
   ·have hb:decide (x.Saves[k].Tick≠x.Base.Tick+k)=false:=Gqa (fun h=>h hs)
    refine Wz [84,280,13,50,21,11] ?_;refine DR.s (Qj J J (hc) J) J J ?_;refine Wz [65,11,29,129,147,192,158,208,29,129,259] ?_;refine DR.s (Qt.yes J J J (Qw J J J J (by assumption))) J J ?_;refine Wz [96,12,79,58] ?_
    exact⟨x.Used.length-(k+1),by omega,_,⟨k+1,by omega,⟨X3 hpa h3 ho,fun i hi hij=>by by_cases e:i=k; subst e; exact hs; exact hpb i hi (by omega)⟩,J⟩,Xy [0] (by kernel_rfl)⟩
   ·have hb:decide (x.Saves[k].Tick≠x.Base.Tick+k)=true:=Gqb hs
    rw[peer_F (fun hp=>hs (hp.2.2.2.2.2.1.2 k h4))]
    refine Wz [84,280,13,50,21,11] ?_;refine DR.s (Qj J J (hc) J) J J ?_;refine Wz [65,11,29,129,147,192,158,208,29,129,259] ?_;refine DR.s (Qt.yes J J J (Qw J J J J (by assumption))) J J ?_;refine Wz [96,12,17,51] ?_
    exact Xk J J (Xw [] (by decide) J J J)
 have h3:¬k<x.Used.length:=by have:=Gqe h; omega
 have hall:=X1 hpa (by omega)
 have hme:x.Me.toNat<x.Tracks.length:=by omega
 have hat:=at_nat (xs:=x.Tracks) hme
 have hti:=Yf x.Tracks[x.Me.toNat].Inputs
 have hla:=lenAt_is hme
 rw[←fin_eq ⟨q1,q2,q3,q4⟩ ⟨by omega,by omega,q7⟩ ⟨q8,q9,q10⟩ ⟨q11,q12,q13⟩ ⟨q14,q15,q16⟩ ⟨hall,fun i hi=>hpb i hi (by omega)⟩,←hlm]
 by_cases k1:x.Base.Tick≤(knownTicks x.Tracks:Nat)
 ·have hb1:decide (x.Base.Tick≤((knownTicks x.Tracks:Nat):Int))=true:=Gqb k1
  by_cases k2:x.Now.Tick≤(lenAt x.Tracks x.Me.toNat:Nat)
  ·have hb2:decide (x.Now.Tick≤((els x.Tracks[x.Me.toNat].Inputs).length:Int))=true:=Gqb (by omega)
   rw[hb1,Gqb k2]
   refine Wz [16,20,281,191,13,13] ?_;refine DR.s (Qj J J (c6) J) J J ?_;refine Wz [227,11,29,29,147,192,158,207,208,29,258,145,11,29,207,208,29,259] ?_;refine DR.s (Qt.yes J J J (Zo J J J J)) J J ?_;refine Wz [145,228,12,4,99] ?_
   exact Xk J J (Xw [] (by decide) J J J)
  ·have hb2:decide (x.Now.Tick≤((els x.Tracks[x.Me.toNat].Inputs).length:Int))=false:=Gqa (by omega)
   rw[hb1,Gqa k2]
   refine Wz [16,20,281,191,13,13] ?_;refine DR.s (Qj J J (c6) J) J J ?_;refine Wz [227,11,29,29,147,192,158,207,208,29,258,145,11,70,70,96,228,12,4,99] ?_
   exact Xk J J (Xw [] (by decide) J J J)
 ·have hb1:decide (x.Base.Tick≤((knownTicks x.Tracks:Nat):Int))=false:=Gqa k1
  rw[hb1]
  refine Wz [16,20,281,191,13,13] ?_;refine DR.s (Qj J J (c6) J) J J ?_;refine Wz [227,11,70,70,70,96,11,70,70,96,228,12,4,99] ?_
  exact Xk J J (Xw [] (by decide) J J J)
end
section
open Go.RowKit

theorem script_neg (s:List Int):decide (scriptIn s 0 0<0) = !scriptOk s:=by
 cases h:scriptOk s with
 |false =>
  rw[script_no (by rw[h]; simp)]
  rfl
 |true =>
  obtain⟨hi,h2,h3,h4⟩:=script_at (xs:=s) (d:=0) (t:=0) h rfl (by omega) (by omega)
  rw[h4]
  have hin:inOk s=true:=by unfold scriptOk at h; rw[Gqk] at h; exact h.2
  have:=Gqn.1 hin _ (Gqd hi)
  rw[Yu] at this
  exact Gqa (by omega)
section
variable {m:TMatch} {k n:Nat} {p:TPeer} {s:List Int}
theorem pinS_no (hn:n=m.Scripts.length) (h:((((((decide (scriptIn s 0 0<0) || !peerOk p) || decide (p.Me≠(k:Int))) || !decide (p.Base.Level=m.Level)) || decide (p.Seed≠m.Seed)) || decide (p.Delay≠m.Delay)) || decide (((els p.Tracks).length:Int)≠(n:Int)))=true):¬(scriptOk s=true∧peerIn m k p=true):=fun ⟨hs,hp⟩=>by
 obtain⟨⟨a,b,c⟩,d,e,f⟩:=pin_spec hp
 rw[script_neg,hs,a,Gqa (fun q=>q b),Gqb d,Gqa (fun q=>q e),Gqa (fun q=>q f),Yf,hn,Gqa (fun q=>q c)] at h
 exact absurd h (by decide)
theorem pinS_yes (hn:n=m.Scripts.length) (h:((((((decide (scriptIn s 0 0<0) || !peerOk p) || decide (p.Me≠(k:Int))) || !decide (p.Base.Level=m.Level)) || decide (p.Seed≠m.Seed)) || decide (p.Delay≠m.Delay)) || decide (((els p.Tracks).length:Int)≠(n:Int)))=false):scriptOk s=true∧peerIn m k p=true:=by
 rw[script_neg,hn] at h
 simp only[Gql,Gqy,decide_eq_false_iff_not,Classical.not_not,decide_eq_true_eq,Yf] at h
 obtain⟨⟨⟨⟨⟨⟨a,b⟩,c⟩,d⟩,e⟩,f⟩,g⟩:=h
 simp only[peerIn,Gqk,decide_eq_true_eq]
 exact⟨a,⟨⟨b,c⟩,g⟩,⟨d,e⟩,f⟩
theorem winS_no {s:TSpectator} {l:TWire} (hn:n=m.Scripts.length) (h:(((!wireOk l || !worldOk s.World) || !decide (s.World.Level=m.Level)) || decide (((els s.World.Scores).length:Int)≠(n:Int)))=true):¬watcherIn m s l=true:=fun hp=>by
 obtain⟨⟨a,b⟩,c,d⟩:=win_spec hp
 rw[a,b,Gqb c,Yf,hn,Gqa (fun q=>q d)] at h
 exact absurd h (by decide)
theorem winS_yes {s:TSpectator} {l:TWire} (hn:n=m.Scripts.length) (h:(((!wireOk l || !worldOk s.World) || !decide (s.World.Level=m.Level)) || decide (((els s.World.Scores).length:Int)≠(n:Int)))=false):watcherIn m s l=true:=by
 rw[hn] at h
 simp only[Gql,Gqy,decide_eq_false_iff_not,Classical.not_not,decide_eq_true_eq,Yf] at h
 simp only[watcherIn,Gqk,decide_eq_true_eq]
 exact⟨h.1.1,h.1.2,h.2⟩
theorem match_S (hH:HeadP m) (hS:1≤m.Scripts.length∧m.Scripts.length≤4) (hA:m.Scripts.all scriptOk=true) (hP:PeersP m) (hW:WatchersP m):linksM m=matchOk m:=by
 rw[←match_I hH hS hA hP,show watchersM m=true from dT hW,Bool.and_true]
end
theorem S_MatchOk (x:TMatch) (hg:Enc.gd x):Con Tryz.prog 60 [] [ag x] [] (B (matchOk x)):=by
 have hg0:=hg
 obtain⟨gL,gS,gD,gSc,gP,gW,gPa,gA,gC,gWa,gLi,gAl,gB⟩:=hg
 have hl:=Yf x.Scripts
 have hx:=gSc.1
 have hlp:=Yf x.Peers
 have hlw:=Yf x.Watchers
 have hll:=Yf x.Lines
 have c1:=S_LevelOk x.Level gL
 refine Con.of Tryz.func60 J Tryz.ntmps60 J (fun E => ?_)
 refine Wz [47,41,14,36,198] ?_;refine zx (Qj J J (c1) J) J ?_;refine Wz [3,110] ?_;refine zx (Qt.grdF J J J (.hit (.hit .stop)) (fun hgrd=>Qj J J (Xv x.Seed 0 65535) J)) J ?_;refine Wz [105,97] ?_;refine zx (Qt.grdF J J J (.hit (.hit .stop)) (fun hgrd=>Qj J J (Xv x.Delay 0 5) J)) J ?_;refine Wz [105,97] ?_;refine zx (Qt.grdF J J J (.hit (.hit .stop)) (fun hgrd=>Qj J J (Xv x.Clock 0 1000) J)) J ?_;refine Wz [105,97] ?_;refine zx (Qt.grdF J J J (.hit (.hit .stop)) (fun hgrd=>Qj J J (Xv x.Bad 0 1000000) J)) J ?_;refine Wz [105,115,0,95] ?_;refine zx (Qt.grdF J J J (.hit .stop) (fun hgrd=>Qj J J (Xv (els x.Scripts).length 1 4) J)) J ?_;refine Wz [194,97,150,176,164,97,150,240,97,150,226,277,218,278,43] ?_
 refine Q9 J (fun h1 => ?_) (fun h1 => ?_)
 ·rw[show matchOk x=false from dF fun hm=>by obtain⟨⟨a,b,c,d,e⟩,⟨f1,f2⟩,_,⟨g,_⟩,_,⟨i,j⟩,_⟩:=hm; rw[a,b,c,d,e,show inR ((els x.Scripts).length:Int) 1 4=true by (rw[Yu]; omega),Gqa (by omega),Gqa (by omega),Gqa (by omega)] at h1; exact absurd h1 (by decide)]
  refine Wz [35] ?_
  exact Xk J J (Xw [] (by decide) J J J)
 simp only[Gql,Gqy,decide_eq_false_iff_not,Classical.not_not,Yu] at h1
 obtain⟨⟨⟨⟨⟨⟨⟨⟨a,b⟩,c⟩,d⟩,e⟩,f⟩,g⟩,h8⟩,h9⟩:=h1
 have hH:HeadP x:=⟨a,Yu.2 b,Yu.2 c,Yu.2 d,Yu.2 e⟩
 refine AWP.pre (st':=(⟨_,[(1,.o (.c (.ptr 0 0))),(3,I (els x.Scripts).length)],[.box ((Enc.e x).map (V1.rd []))]⟩:St)) ?_ (Xy [0] (by kernel_rfl))
 refine Wz [48,44] ?_;refine Xf (fun m st=>∃ k:Nat,k+m=x.Scripts.length∧(((x.Scripts.take k).all scriptOk=true∧∀ i,i<k→∀ p,x.Peers[i]? = some p→peerIn x i p=true))∧st=(⟨_,[(1,.o (.c (.ptr 0 0))),(3,I (els x.Scripts).length),(4,I k)],[.box ((Enc.e x).map (V1.rd []))]⟩:St)) (x.Scripts.length) ⟨_,⟨0,by omega,⟨by simp,fun i hi=>absurd hi (Nat.not_lt_zero _)⟩,J⟩,Xy [0] (by kernel_rfl)⟩ ?_
 rintro m_A _ ⟨k,hk_A,hp_A,rfl⟩
 obtain⟨hpa,hpb⟩:=hp_A
 refine Wz [25,38] ?_
 refine Q9 J (fun h => ?_) (fun h => ?_)
 ·have h3:k<x.Scripts.length:=by have:=Gqc h; omega
  obtain⟨p,hp⟩:=Kk (xs:=x.Peers) (i:=k) (by omega)
  have hatP:=Yi hp
  have hat:=Yc h3
  have gp:=gP.2 p (Gqu hp)
  have c2:=S_ScriptInput x.Scripts[k] 0 0 (gSc.2 _ (Gqd h3)) ⟨by decide,by decide⟩
  have c3:=S_PeerOk p gp
  have c4:=S_sameLevel p.Base.Level x.Level gp.2.2.2.2.2.1.1
  repeat (first | refine Qd ?_ | refine Qh ?_ | refine Qk ?_ | refine Qz ?_)
  refine Wz [75,18,0,37] ?_;refine AL.weak (st':=(⟨_,[(1,.o (.c (.ptr 0 0))),(3,I (els x.Scripts).length),(4,I k),(75,.o (.ag ((Enc.e p).map (V1.rd []))))],[.box ((Enc.e x).map (V1.rd []))]⟩:St)) (Xz [0] (by decide) J (by kernel_rfl) (.c J (.c J (.c J (.cons (by kernel_rfl) (.nil)))))) ?_;refine Wz [40,77] ?_;refine AL.weak (st':=(⟨_,[(1,.o (.c (.ptr 0 0))),(3,I (els x.Scripts).length),(4,I k),(5,.o (.c (.ptr 1 0)))],[.box ((Enc.e x).map (V1.rd [])),.box ((Enc.e p).map (V1.rd []))]⟩:St)) (Xz [0,1] (by decide) J ((by kernel_rfl)) (.c J (.c J (.c J (.c J (.nil)))))) ?_;refine Wz [4,71,92] ?_;refine zx (Qj J J (c2) J) J ?_;refine Wz [153,0,269] ?_;refine zx (Qt.grdF J J J (.hit .stop) (fun hgrd=>Qj J J (c3) J)) J ?_;refine Wz [194,97,168,271,115,169,188,272,226] ?_;refine zx (Qt.grdF J J J (.hit (.hit (.hit (.hit .stop)))) (fun hgrd=>Qu J J J J J J)) J ?_;refine zx (Qt.grdF J J J (.hit (.hit (.hit (.hit (.hit .stop))))) (fun hgrd=>Qj J J (c4) J)) J ?_;refine zx (Qt.grdF J J J (.hit (.hit (.hit (.hit (.hit (.hit .stop)))))) (fun hgrd=>Q3 J J J)) J ?_;refine Wz [97,247,260,164,97,247,260,164,97,150,176,164,43] ?_
  refine Q9 J (fun h4 => ?_) (fun h4 => ?_)
  ·rw[show matchOk x=false from dF fun hm=>pinS_no hl h4 ⟨by have:=Gqn.1 hm.2.2.1 _ (Gqd h3); exact this,hm.2.2.2.1.2 k p hp⟩]
   refine Wz [51] ?_
   exact Xk J J (Xw [] (by decide) J J J)
  have h4:=pinS_yes hl h4
  refine AWP.pre (st':=(⟨_,[(1,.o (.c (.ptr 0 0))),(3,I (els x.Scripts).length),(4,I k)],[.box ((Enc.e x).map (V1.rd []))]⟩:St)) ?_ (Xy [0] (by kernel_rfl))
  refine Wz [58] ?_
  exact⟨x.Scripts.length-(k+1),by omega,_,⟨k+1,by omega,⟨X3 hpa h3 h4.1,Ko hpb fun p' hp'=>by rw[hp] at hp'; cases hp'; exact h4.2⟩,J⟩,Xy [0] (by kernel_rfl)⟩
 have h3:¬k<x.Scripts.length:=by have:=Gqe h; omega
 have hA:=X1 hpa (by omega)
 have hP:PeersP x:=⟨by omega,fun i p hi=>hpb i (by have:=(Gqm.1 hi).1; omega) p hi⟩
 refine AWP.pre (st':=(⟨_,[(1,.o (.c (.ptr 0 0))),(3,I (els x.Scripts).length)],[.box ((Enc.e x).map (V1.rd []))]⟩:St)) ?_ (Xy [0] (by kernel_rfl))
 refine Wz [16,87,44] ?_;refine Xf (fun m st=>∃ q:Nat,q+m=x.Watchers.length∧((∀ i,i<q→∀ s l,x.Watchers[i]? = some s→x.Lines[i]? = some l→watcherIn x s l=true))∧st=(⟨_,[(1,.o (.c (.ptr 0 0))),(3,I (els x.Scripts).length),(6,I q)],[.box ((Enc.e x).map (V1.rd []))]⟩:St)) (x.Watchers.length) ⟨_,⟨0,by omega,fun i hi=>absurd hi (Nat.not_lt_zero _),J⟩,Xy [0] (by kernel_rfl)⟩ ?_
 rintro m_D _ ⟨q,hk_D,hp_D,rfl⟩
 refine Wz [69,67,38] ?_
 refine Q9 J (fun h => ?_) (fun h => ?_)
 ·have h5:q<x.Watchers.length:=by have:=Gqc h; omega
  obtain⟨s,hs⟩:=Kk (xs:=x.Watchers) (i:=q) (by omega)
  obtain⟨l,hl2⟩:=Kk (xs:=x.Lines) (i:=q) (by omega)
  have hat:=Yi hs
  have hatL:=Yi hl2
  have gs:=gWa.2 s (Gqu hs)
  have c2:=S_WireOk l (gLi.2 l (Gqu hl2))
  have c3:=S_WorldOk s.World gs.1
  have c4:=S_sameLevel s.World.Level x.Level gs.1.1
  refine Wz [6,71,119,291,40,30,71,37] ?_;refine zx (Qj J J (c2) J) J ?_;refine Wz [3,0,269] ?_;refine zx (Qt.grdF J J J (.hit .stop) (fun hgrd=>Qj J J (c3) J)) J ?_;refine Wz [194,115,169,217,247] ?_;refine zx (Qt.grdF J J J (.hit (.hit (.hit .stop))) (fun hgrd=>Qu J J J J J J)) J ?_;refine zx (Qt.grdF J J J (.hit (.hit (.hit (.hit .stop)))) (fun hgrd=>Qj J J (c4) J)) J ?_;refine zx (Qt.grdF J J J (.hit (.hit (.hit (.hit (.hit .stop))))) (fun hgrd=>Q3 J J J)) J ?_;refine Wz [97,150,176,164,43] ?_
  refine Q9 J (fun h4 => ?_) (fun h4 => ?_)
  ·rw[show matchOk x=false from dF fun hm=>winS_no hl h4 (hm.2.2.2.2.2.2 q s l hs hl2)]
   refine Wz [51] ?_
   exact Xk J J (Xw [] (by decide) J J J)
  refine AWP.pre (st':=(⟨_,[(1,.o (.c (.ptr 0 0))),(3,I (els x.Scripts).length),(6,I q)],[.box ((Enc.e x).map (V1.rd []))]⟩:St)) ?_ (Xy [0] (by kernel_rfl))
  refine Wz [58] ?_
  exact⟨x.Watchers.length-(q+1),by omega,_,⟨q+1,by omega,Ko hp_D fun s' l' hs' hl'=>by rw[hs] at hs'; rw[hl2] at hl'; cases hs'; cases hl'; exact winS_yes hl h4,J⟩,Xy [0] (by kernel_rfl)⟩
 have h5:¬q<x.Watchers.length:=by have:=Gqe h; omega
 have hW:WatchersP x:=⟨⟨by omega,by omega⟩,fun i s l hi hl=>hp_D i (by have:=(Gqm.1 hi).1; omega) s l hi hl⟩
 have cl:=S_square x hg0 hP
 rw[show x.Peers.length=(els x.Scripts).length by omega,match_S hH (by omega) hA hP hW] at cl
 refine AWP.pre (st':=(⟨_,[(1,.o (.c (.ptr 0 0))),(3,I (els x.Scripts).length)],[.box ((Enc.e x).map (V1.rd []))]⟩:St)) ?_ (Xy [0] (by kernel_rfl))
 refine Wz [16,45,0] ?_;refine zx (Qj J J (cl) J) J ?_;refine Wz [52] ?_
 exact Xk J J (Xw [] (by decide) J J J)
end
end Go.Proofs.YtoecjaohdnoenaaGreat
