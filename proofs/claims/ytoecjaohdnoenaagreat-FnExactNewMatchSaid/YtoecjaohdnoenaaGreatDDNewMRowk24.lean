/-
  Rules, data and contracts of functions: part 25 of the proof.
  Conditions: those that each theorem names.
-/
import Derived.Test.YtoecjaohdnoenaaGreatDDNewMRowk22
import Derived.Test.YtoecjaohdnoenaaGreatDDNewMRowk23
set_option linter.unusedSimpArgs false
set_option linter.unusedVariables false
set_option maxRecDepth 8000
set_option maxHeartbeats 8000000
namespace Go.Proofs.YtoecjaohdnoenaaGreat
section
open Go.RowKit

section
variable {m:TMatch} {k:Nat} {p:TPeer}
theorem pin_spec (h:peerIn m k p=true):(peerOk p=true∧p.Me=(k:Int)∧(p.Tracks.length:Int)=(m.Scripts.length:Int))∧p.Base.Level=m.Level∧p.Seed=m.Seed∧p.Delay=m.Delay:=by
 simp only[peerIn,Gqj,decide_eq_true_eq] at h
 exact⟨⟨h.1.1.1,h.1.1.2,h.1.2⟩,h.2.1.1,h.2.1.2,h.2.2⟩
theorem pin_no1 (h:((!peerOk p || decide (p.Me≠(k:Int))) || decide (((els p.Tracks).length:Int)≠((els m.Scripts).length:Int)))=true):¬peerIn m k p=true:=fun hp=>by
 obtain⟨⟨a,b,c⟩,_⟩:=pin_spec hp
 rw[a,Gqa (fun q=>q b),X6,X6,Gqa (fun q=>q c)] at h
 exact absurd h (by decide)
theorem pin_no2 (h:((!decide (p.Base.Level=m.Level) || decide (p.Seed≠m.Seed)) || decide (p.Delay≠m.Delay))=true):¬peerIn m k p=true:=fun hp=>by
 obtain⟨_,a,b,c⟩:=pin_spec hp
 rw[Gqb a,Gqa (fun q=>q b),Gqa (fun q=>q c)] at h
 exact absurd h (by decide)
theorem pin_yes (h:((!peerOk p || decide (p.Me≠(k:Int))) || decide (((els p.Tracks).length:Int)≠((els m.Scripts).length:Int)))=false) (h2:((!decide (p.Base.Level=m.Level) || decide (p.Seed≠m.Seed)) || decide (p.Delay≠m.Delay))=false):peerIn m k p=true:=by
 simp only[Gql,Gqv,decide_eq_false_iff_not,Classical.not_not,decide_eq_true_eq,X6] at h h2
 simp only[peerIn,Gqj,decide_eq_true_eq]
 exact⟨⟨⟨h.1.1,h.1.2⟩,h.2⟩,⟨h2.1.1,h2.1.2⟩,h2.2⟩
theorem Z8 {Q:Nat→Prop} (h:∀ i,i<k→Q i) (hk:Q k):∀ i,i<k+1→Q i:=fun i hi=>by
 by_cases e:i=k
 ·subst e; exact hk
 ·exact h i (by omega)
end
theorem I_peersOk (x:TMatch) (hg:Enc.gd x):Con Tryz.prog 165 [] [ag x] [] (B (peersM x)):=by
 obtain⟨gL,gS,gD,gSc,gP,gW,gPa,gA,gC,gWa,gLi,gAl,gB⟩:=hg
 have hlp:=X6 x.Peers
 have hx:=gP.1
 have hls:=X6 x.Scripts
 refine Con.of Tryz.func165 J Tryz.ntmps165 J (fun E => ?_)
 refine Wz [58,27,21,13,21,139,2] ?_
 refine Q8 J (fun h1 => ?_) (fun h1 => ?_)
 ·have h1:=Gqc h1
  rw[show peersM x=false from dF fun hp=>h1 (by rw[hlp,hls,hp.1])]
  refine Wz [35] ?_
  exact Xi J J (Xt [] (by decide) J J J)
 have h1:x.Peers.length=x.Scripts.length:=by have:=Gqg h1; omega
 refine AWP.pre (st':=(⟨_,[(1,.o (.c (.ptr 0 0)))],[.box ((Enc.e x).map (V1.rd []))]⟩:St)) ?_ (Xv [0] (by kernel_rfl))
 refine Wz [11,27,104,2,50] ?_;refine Xe (fun m st=>∃ k:Nat,k+m=x.Peers.length∧((∀ i,i<k→∀ p,x.Peers[i]? = some p→peerIn x i p=true))∧st=(⟨_,[(1,.o (.c (.ptr 0 0))),(13,L x.Peers),(14,I (els x.Peers).length),(15,I k)],[.box ((Enc.e x).map (V1.rd []))]⟩:St)) (x.Peers.length) ⟨_,⟨0,by omega,fun i hi=>absurd hi (Nat.not_lt_zero _),J⟩,Xv [0] (by kernel_rfl)⟩ ?_
 rintro m_A _ ⟨k,hk_A,hp_A,rfl⟩
 refine Wz [7,12,16] ?_
 refine Q8 J (fun h => ?_) (fun h => ?_)
 ·have h3:k<x.Peers.length:=by have:=Gqc h; omega
  have hat:=X5 h3
  have hq:=Gqe h3
  have gp:=gP.2 _ (Gqf h3)
  generalize x.Peers[k]=p at hat hq gp
  have c1:=I_PeerOk p gp
  have c2:=I_sameLevel p.Base.Level x.Level gp.2.2.2.2.2.1.1
  repeat (first | refine Qd ?_ | refine Qh ?_ | refine Qk ?_ | refine Qz ?_)
  refine Wz [75,89] ?_;refine AL.weak (st':=(⟨_,[(1,.o (.c (.ptr 0 0))),(13,L x.Peers),(14,I (els x.Peers).length),(15,I k),(17,I k),(19,.o (.ag ((Enc.e p).map (V1.rd []))))],[.box ((Enc.e x).map (V1.rd []))]⟩:St)) (Xw [0] (by decide) J (by kernel_rfl) (.c J (.c J (.c J (.c J (.c J (.cons (by kernel_rfl) (.nil)))))))) ?_;refine Wz [22,96,110] ?_;refine AL.weak (st':=(⟨_,[(1,.o (.c (.ptr 0 0))),(13,L x.Peers),(14,I (els x.Peers).length),(15,I k),(3,I k),(4,.o (.c (.ptr 1 0)))],[.box ((Enc.e x).map (V1.rd [])),.box ((Enc.e p).map (V1.rd []))]⟩:St)) (Xw [0,1] (by decide) J ((by kernel_rfl)) (.c J (.c J (.c J (.c J (.c J (.c J (.nil)))))))) ?_;refine Wz [2,112,38] ?_;refine zx (Qj J J (c1) J) J ?_;refine Wz [5,80,145,243,72,130,204,253,198,254,25] ?_
  refine Q8 J (fun h4 => ?_) (fun h4 => ?_)
  ·rw[show peersM x=false from dF fun hp=>pin_no1 h4 (hp.2 k p hq)]
   refine Wz [55,63,118,47] ?_
   exact Xi J J (Xt [] (by decide) J J J)
  refine AWP.pre (st':=(⟨_,[(1,.o (.c (.ptr 0 0))),(13,L x.Peers),(14,I (els x.Peers).length),(15,I k),(3,I k),(4,.o (.c (.ptr 1 0)))],[.box ((Enc.e x).map (V1.rd [])),.box ((Enc.e p).map (V1.rd []))]⟩:St)) ?_ (Xv [0,1] (by kernel_rfl))
  refine Wz [11,7,102,148,148] ?_;refine zx (Qj J J (c2) J) J ?_;refine Wz [5,80,216,234,143,72,216,234,143,25] ?_
  refine Q8 J (fun h5 => ?_) (fun h5 => ?_)
  ·rw[show peersM x=false from dF fun hp=>pin_no2 h5 (hp.2 k p hq)]
   refine Wz [55,88] ?_
   exact Xi J J (Xt [] (by decide) J J J)
  refine AWP.pre (st':=(⟨_,[(1,.o (.c (.ptr 0 0))),(13,L x.Peers),(14,I (els x.Peers).length),(15,I k)],[.box ((Enc.e x).map (V1.rd []))]⟩:St)) ?_ (Xv [0] (by kernel_rfl))
  refine Wz [124,60,100,14,0,2] ?_
  exact⟨x.Peers.length-(k+1),by omega,_,⟨k+1,by omega,Z8 hp_A fun p' hp'=>by rw[hq] at hp'; cases hp'; exact pin_yes h4 h5,J⟩,Xv [0] (by kernel_rfl)⟩
 have h3:¬k<x.Peers.length:=by have:=Gqg h; omega
 rw[show peersM x=true from dT ⟨h1,fun i p hi=>hp_A i (by have:=(Gqn.1 hi).1; omega) p hi⟩]
 refine Wz [94] ?_
 exact Xi J J (Xt [] (by decide) J J J)
theorem X9 {α:Type} [Enc α] {xs:List α} {i:Nat} {x:α} (h:xs[i]? = some x):(els xs)[(i:Int).toNat]? = some (Enc.e x):=by simp[els,h]
theorem lenAt_some {l:List TTrack} {k:Nat} {t:TTrack} (h:l[k]? = some t):lenAt l k=t.Inputs.length:=by simp[lenAt,Gqd,h]
theorem Z4 {α:Type} {xs:List α} {i:Nat} (h:i<xs.length):∃ x,xs[i]? = some x:=⟨_,Gqe h⟩
section
variable {m:TMatch} {i j:Nat} {ws:List TWire} {qs:List TPace} {ks:List Int} {p:TPeer} {w:TWire} {q:TPace} {a:Int} {tr:TTrack} (hws:m.Wires[i]? = some ws) (hqs:m.Paces[i]? = some qs) (hks:m.Acks[i]? = some ks)
include hws hqs hks
theorem link_len (h1:ws.length=m.Peers.length) (h2:qs.length=m.Peers.length) (h3:ks.length=m.Peers.length):LinkLen m i:=fun ws' qs' ks' e1 e2 e3=>by
 rw[hws] at e1; rw[hqs] at e2; rw[hks] at e3
 cases e1; cases e2; cases e3
 exact⟨h1,h2,h3⟩
variable (hp:m.Peers[i]? = some p) (hw:ws[j]? = some w) (hq:qs[j]? = some q) (ha:ks[j]? = some a) (ht:p.Tracks[i]? = some tr)
include hp hw hq ha ht
theorem link_spec (h:LinkAt m i j):wireOk w=true∧paceOk q=true∧inR a 0 (els tr.Inputs).length=true:=by
 have h:=h ws qs ks p w q a hws hqs hks hp hw hq ha
 rwa[lenAt_some ht,←X6 tr.Inputs] at h
theorem link_yes (h1:(!wireOk w || !paceOk q)=false) (h2:inR a 0 (els tr.Inputs).length=true):LinkAt m i j:=fun ws' qs' ks' p' w' q' a' e1 e2 e3 e4 e5 e6 e7=>by
 rw[hws] at e1; rw[hqs] at e2; rw[hks] at e3; rw[hp] at e4
 cases e1; cases e2; cases e3; cases e4
 rw[hw] at e5; rw[hq] at e6; rw[ha] at e7
 cases e5; cases e6; cases e7
 simp only[Gql,Gqv] at h1
 rw[X6] at h2
 exact⟨h1.1,h1.2,by rw[lenAt_some ht]; exact h2⟩
end
theorem I_linksOk (x:TMatch) (hg:Enc.gd x) (hP:PeersP x):Con Tryz.prog 166 [] [ag x] [] (B (linksM x)):=by
 obtain⟨gL,gS,gD,gSc,gP,gW,gPa,gA,gC,gWa,gLi,gAl,gB⟩:=hg
 have hlp:=X6 x.Peers
 have hx:=gP.1
 have hlw:=X6 x.Wires
 have hlq:=X6 x.Paces
 have hla:=X6 x.Acks
 refine Con.of Tryz.func166 J Tryz.ntmps166 J (fun E => ?_)
 refine Wz [58,24,21,3,27,104,139,80,130,158,143,72,130,158,143,25] ?_
 refine Q8 J (fun h1 => ?_) (fun h1 => ?_)
 ·simp only[Gqo,decide_eq_true_eq] at h1
  rw[show linksM x=false from dF fun hp=>by obtain⟨⟨a,b,c⟩,_⟩:=hp; omega]
  refine Wz [35] ?_
  exact Xi J J (Xt [] (by decide) J J J)
 simp only[Gql,decide_eq_false_iff_not,Classical.not_not] at h1
 obtain⟨⟨l1,l2⟩,l3⟩:=h1
 refine AWP.pre (st':=(⟨_,[(1,.o (.c (.ptr 0 0))),(3,I (els x.Peers).length)],[.box ((Enc.e x).map (V1.rd []))]⟩:St)) ?_ (Xv [0] (by kernel_rfl))
 refine Wz [11,39] ?_;refine Xe (fun m st=>∃ i:Nat,i+m=x.Peers.length∧((∀ i',i'<i→LinkLen x i'∧∀ j',j'<x.Peers.length→LinkAt x i' j'))∧st=(⟨_,[(1,.o (.c (.ptr 0 0))),(3,I (els x.Peers).length),(4,I i)],[.box ((Enc.e x).map (V1.rd []))]⟩:St)) (x.Peers.length) ⟨_,⟨0,by omega,fun i hi=>absurd hi (Nat.not_lt_zero _),J⟩,Xv [0] (by kernel_rfl)⟩ ?_
 rintro m_A _ ⟨i,hk_A,hp_A,rfl⟩
 refine Wz [28,12] ?_
 refine Q8 J (fun h => ?_) (fun h => ?_)
 ·have h3:i<x.Peers.length:=by have:=Gqc h; omega
  obtain⟨ws,hws⟩:=Z4 (xs:=x.Wires) (i:=i) (by omega)
  obtain⟨qs,hqs⟩:=Z4 (xs:=x.Paces) (i:=i) (by omega)
  obtain⟨ks,hks⟩:=Z4 (xs:=x.Acks) (i:=i) (by omega)
  obtain⟨p,hp⟩:=Z4 (xs:=x.Peers) (i:=i) (by omega)
  have h4:=(pin_spec (hP.2 i p hp)).1.2.2
  have h5:=hP.1
  obtain⟨tr,ht⟩:=Z4 (xs:=p.Tracks) (i:=i) (by omega)
  have gws:=gW.2 ws (Gq5 hws)
  have hatW:=X9 hws
  have hatQ:=X9 hqs
  have hatK:=X9 hks
  have hatP:=X9 hp
  have hatT:=X9 ht
  have hl1:=X6 ws
  have hl2:=X6 qs
  have hl3:=X6 ks
  refine Wz [9,27,0,84,104,139,80,145,208,217,198,235,218,72,145,208,217,198,235,218,25] ?_
  refine Q8 J (fun h6 => ?_) (fun h6 => ?_)
  ·simp only[Gqo,decide_eq_true_eq] at h6
   rw[show linksM x=false from dF fun hp=>by obtain⟨a,b,c⟩:=(hp.2 i h3).1 ws qs ks hws hqs hks; omega]
   refine Wz [55,63,118,47] ?_
   exact Xi J J (Xt [] (by decide) J J J)
  simp only[Gql,decide_eq_false_iff_not,Classical.not_not] at h6
  obtain⟨⟨l4,l5⟩,l6⟩:=h6
  refine AWP.pre (st':=(⟨_,[(1,.o (.c (.ptr 0 0))),(3,I (els x.Peers).length),(4,I i)],[.box ((Enc.e x).map (V1.rd []))]⟩:St)) ?_ (Xv [0] (by kernel_rfl))
  refine Wz [11,33,50] ?_;refine Xe (fun m st=>∃ j:Nat,j+m=x.Peers.length∧((∀ j',j'<j→LinkAt x i j'))∧st=(⟨_,[(1,.o (.c (.ptr 0 0))),(3,I (els x.Peers).length),(4,I i),(5,I j)],[.box ((Enc.e x).map (V1.rd []))]⟩:St)) (x.Peers.length) ⟨_,⟨0,by omega,fun i hi=>absurd hi (Nat.not_lt_zero _),J⟩,Xv [0] (by kernel_rfl)⟩ ?_
  rintro m_D _ ⟨j,hk_D,hp_D,rfl⟩
  refine Wz [28,12] ?_
  refine Q8 J (fun h => ?_) (fun h => ?_)
  ·have h7:j<x.Peers.length:=by have:=Gqc h; omega
   obtain⟨w,hw⟩:=Z4 (xs:=ws) (i:=j) (by omega)
   obtain⟨q,hq⟩:=Z4 (xs:=qs) (i:=j) (by omega)
   obtain⟨a,ha⟩:=Z4 (xs:=ks) (i:=j) (by omega)
   have hatw:=X9 hw
   have hatq:=X9 hq
   have hata:=X9 ha
   have c1:=I_WireOk w (gws.2 w (Gq5 hw))
   have c2:=I_PaceOk q
   refine Wz [9,27,0,128,91,89] ?_;refine zx (Qj J J (c1) J) J ?_;refine Wz [5,80,145,208,217] ?_;refine zx (Qt.grdF J J J (.hit (.hit (.hit (.hit (.hit .stop))))) (fun hgrd=>Qa J J J)) J ?_;refine zx (Qt.grdF J J J (.hit (.hit (.hit (.hit (.hit (.hit .stop)))))) (fun hgrd=>Q1 J J J J (by omega) (by assumption) J)) J ?_;refine zx (Qt.grdF J J J (.hit (.hit (.hit (.hit (.hit (.hit (.hit .stop))))))) (fun hgrd=>Zm J J J J J)) J ?_;refine zx (Qt.grdF J J J (.hit (.hit (.hit (.hit (.hit (.hit (.hit (.hit .stop)))))))) (fun hgrd=>Qj J J (c2) J)) J ?_;refine zx (Qt.grdF J J J (.hit (.hit (.hit (.hit (.hit (.hit (.hit (.hit (.hit .stop))))))))) (fun hgrd=>Q3 J J J)) J ?_;refine Wz [25] ?_
   refine Q8 J (fun h8 => ?_) (fun h8 => ?_)
   ·rw[show linksM x=false from dF fun hl=>by obtain⟨b,c,_⟩:=link_spec hws hqs hks hp hw hq ha ht ((hl.2 i h3).2 j h7); rw[b,c] at h8; exact absurd h8 (by decide)]
    refine Wz [55,63,118,88] ?_
    exact Xi J J (Xt [] (by decide) J J J)
   refine AWP.pre (st':=(⟨_,[(1,.o (.c (.ptr 0 0))),(3,I (els x.Peers).length),(4,I i),(5,I j)],[.box ((Enc.e x).map (V1.rd []))]⟩:St)) ?_ (Xv [0] (by kernel_rfl))
   have c3:=Xk a 0 (els tr.Inputs).length
   cases hr:inR a 0 (els tr.Inputs).length with
   |false =>
    rw[hr] at c3
    rw[show linksM x=false from dF fun hl=>by obtain⟨_,_,b⟩:=link_spec hws hqs hks hp hw hq ha ht ((hl.2 i h3).2 j h7); rw[hr] at b; cases b]
    refine Wz [214] ?_;refine Xd u8_30 u8_31 u8_32 J ?_;refine Wz [32,8,106,34,8,106,34,32,8,106,209,34,8,106,209,34] ?_;refine DR.s (Zh J J J) J J ?_;refine DR.s (Qj J J (c3) J) J J ?_;refine Wz [87,181,151,88] ?_
    exact Xi J J (Xt [] (by decide) J J J)
   |true =>
    rw[hr] at c3
    refine Wz [214] ?_;refine Xd u8_30 u8_31 u8_32 J ?_;refine Wz [32,8,106,34,8,106,34,32,8,106,209,34,8,106,209,34] ?_;refine DR.s (Zh J J J) J J ?_;refine DR.s (Qj J J (c3) J) J J ?_;refine Wz [87,57] ?_
    exact⟨x.Peers.length-(j+1),by omega,_,⟨j+1,by omega,Z8 hp_D (link_yes hws hqs hks hp hw hq ha ht h8 hr),J⟩,Xv [0] (by kernel_rfl)⟩
  have h7:¬j<x.Peers.length:=by have:=Gqg h; omega
  refine Wz [178,168] ?_
  exact⟨x.Peers.length-(i+1),by omega,_,⟨i+1,by omega,Z8 hp_A ⟨link_len hws hqs hks (by omega) (by omega) (by omega),fun j' hj=>hp_D j' (by omega)⟩,J⟩,Xv [0] (by kernel_rfl)⟩
 have h3:¬i<x.Peers.length:=by have:=Gqg h; omega
 rw[show linksM x=true from dT ⟨⟨by omega,by omega,by omega⟩,fun i' hi=>hp_A i' (by omega)⟩]
 refine Wz [94] ?_
 exact Xi J J (Xt [] (by decide) J J J)
section
variable {m:TMatch} {s:TSpectator} {l:TWire}
theorem win_spec (h:watcherIn m s l=true):(wireOk l=true∧worldOk s.World=true)∧s.World.Level=m.Level∧(s.World.Scores.length:Int)=(m.Scripts.length:Int):=by
 simp only[watcherIn,Gqj,decide_eq_true_eq] at h
 exact h
theorem win_no1 (h:(!wireOk l || !worldOk s.World)=true):¬watcherIn m s l=true:=fun hp=>by
 obtain⟨⟨a,b⟩,_⟩:=win_spec hp
 rw[a,b] at h
 exact absurd h (by decide)
theorem win_no2 (h:(!decide (s.World.Level=m.Level) || decide (((els s.World.Scores).length:Int)≠((els m.Scripts).length:Int)))=true):¬watcherIn m s l=true:=fun hp=>by
 obtain⟨_,a,b⟩:=win_spec hp
 rw[Gqb a,X6,X6,Gqa (fun q=>q b)] at h
 exact absurd h (by decide)
theorem win_yes (h:(!wireOk l || !worldOk s.World)=false) (h2:(!decide (s.World.Level=m.Level) || decide (((els s.World.Scores).length:Int)≠((els m.Scripts).length:Int)))=false):watcherIn m s l=true:=by
 simp only[Gql,Gqv,decide_eq_false_iff_not,Classical.not_not,decide_eq_true_eq,X6] at h h2
 simp only[watcherIn,Gqj,decide_eq_true_eq]
 exact⟨h,h2⟩
end
theorem I_watchersOk (x:TMatch) (hg:Enc.gd x):Con Tryz.prog 167 [] [ag x] [] (B (watchersM x)):=by
 obtain⟨gL,gS,gD,gSc,gP,gW,gPa,gA,gC,gWa,gLi,gAl,gB⟩:=hg
 have hlp:=X6 x.Watchers
 have hll:=X6 x.Lines
 have hx:=gWa.1
 refine Con.of Tryz.func167 J Tryz.ntmps167 J (fun E => ?_)
 refine Wz [58,27,21,212,80,130,204,253,198,254,25] ?_
 refine Q8 J (fun h1 => ?_) (fun h1 => ?_)
 ·simp only[Gqo,decide_eq_true_eq] at h1
  rw[show watchersM x=false from dF fun hp=>by obtain⟨⟨a,b⟩,_⟩:=hp; omega]
  refine Wz [35] ?_
  exact Xi J J (Xt [] (by decide) J J J)
 simp only[Gql,decide_eq_false_iff_not,Classical.not_not] at h1
 obtain⟨l1,l2⟩:=h1
 refine AWP.pre (st':=(⟨_,[(1,.o (.c (.ptr 0 0)))],[.box ((Enc.e x).map (V1.rd []))]⟩:St)) ?_ (Xv [0] (by kernel_rfl))
 refine Wz [11,27,104,2,50] ?_;refine Xe (fun m st=>∃ k:Nat,k+m=x.Watchers.length∧((∀ i,i<k→∀ s l,x.Watchers[i]? = some s→x.Lines[i]? = some l→watcherIn x s l=true))∧st=(⟨_,[(1,.o (.c (.ptr 0 0))),(19,L x.Watchers),(20,I (els x.Watchers).length),(21,I k)],[.box ((Enc.e x).map (V1.rd []))]⟩:St)) (x.Watchers.length) ⟨_,⟨0,by omega,fun i hi=>absurd hi (Nat.not_lt_zero _),J⟩,Xv [0] (by kernel_rfl)⟩ ?_
 rintro m_A _ ⟨k,hk_A,hp_A,rfl⟩
 refine Wz [7,12,16] ?_
 refine Q8 J (fun h => ?_) (fun h => ?_)
 ·have h3:k<x.Watchers.length:=by have:=Gqc h; omega
  obtain⟨s,hs⟩:=Z4 (xs:=x.Watchers) (i:=k) (by omega)
  obtain⟨l,hl⟩:=Z4 (xs:=x.Lines) (i:=k) (by omega)
  have hat:=X9 hs
  have hatL:=X9 hl
  have gs:=gWa.2 s (Gq5 hs)
  have c1:=I_WireOk l (gLi.2 l (Gq5 hl))
  have c2:=I_WorldOk s.World gs.1
  have c3:=I_sameLevel s.World.Level x.Level gs.1.1
  refine Wz [9,4,89,22,96,49,27,0,89] ?_;refine zx (Qj J J (c1) J) J ?_;refine Wz [5,150,197] ?_;refine zx (Qt.grdF J J J (.hit (.hit .stop)) (fun hgrd=>Qj J J (c2) J)) J ?_;refine Wz [77,25] ?_
  refine Q8 J (fun h4 => ?_) (fun h4 => ?_)
  ·rw[show watchersM x=false from dF fun hp=>win_no1 h4 (hp.2 k s l hs hl)]
   refine Wz [55,63,118,47] ?_
   exact Xi J J (Xt [] (by decide) J J J)
  refine AWP.pre (st':=(⟨_,[(1,.o (.c (.ptr 0 0))),(19,L x.Watchers),(20,I (els x.Watchers).length),(21,I k),(4,.o (.c (.ptr 1 0)))],[.box ((Enc.e x).map (V1.rd [])),.box ((Enc.e s).map (V1.rd []))]⟩:St)) ?_ (Xv [0,1] (by kernel_rfl))
  refine Wz [11,7,102,148,148] ?_;refine zx (Qj J J (c3) J) J ?_;refine Wz [5,150,163,193,199,247] ?_;refine zx (Qt.grdF J J J (.hit (.hit (.hit (.hit (.hit .stop))))) (fun hgrd=>Qg J J J J J)) J ?_;refine zx (Qt.grdF J J J (.hit (.hit (.hit (.hit (.hit (.hit .stop)))))) (fun hgrd=>Zh J J J)) J ?_;refine Wz [218,25] ?_
  refine Q8 J (fun h5 => ?_) (fun h5 => ?_)
  ·rw[show watchersM x=false from dF fun hp=>win_no2 h5 (hp.2 k s l hs hl)]
   refine Wz [55,88] ?_
   exact Xi J J (Xt [] (by decide) J J J)
  refine AWP.pre (st':=(⟨_,[(1,.o (.c (.ptr 0 0))),(19,L x.Watchers),(20,I (els x.Watchers).length),(21,I k)],[.box ((Enc.e x).map (V1.rd []))]⟩:St)) ?_ (Xv [0] (by kernel_rfl))
  refine Wz [124,60,100,14,0,2] ?_
  exact⟨x.Watchers.length-(k+1),by omega,_,⟨k+1,by omega,Z8 hp_A fun s' l' hs' hl'=>by rw[hs] at hs'; rw[hl] at hl'; cases hs'; cases hl'; exact win_yes h4 h5,J⟩,Xv [0] (by kernel_rfl)⟩
 have h3:¬k<x.Watchers.length:=by have:=Gqg h; omega
 rw[show watchersM x=true from dT ⟨⟨by omega,by omega⟩,fun i s l hi hl=>hp_A i (by have:=(Gqn.1 hi).1; omega) s l hi hl⟩]
 refine Wz [94] ?_
 exact Xi J J (Xt [] (by decide) J J J)
end
section
open Go.RowKit

section
variable {m:TMatch}
theorem match_I (hH:HeadP m) (hS:1≤m.Scripts.length∧m.Scripts.length≤4) (hA:m.Scripts.all scriptOk=true) (hP:PeersP m):(linksM m&&watchersM m)=matchOk m:=by
 by_cases hl:LinksP m
 ·by_cases hw:WatchersP m
  ·rw[show linksM m=true from dT hl,show watchersM m=true from dT hw,show matchOk m=true from dT ⟨hH,hS,hA,hP,hl,hw⟩]; rfl
  ·rw[show watchersM m=false from dF hw,show matchOk m=false from dF fun ⟨_,_,_,_,_,q⟩=>hw q,Bool.and_false]
 ·rw[show linksM m=false from dF hl,show matchOk m=false from dF fun ⟨_,_,_,_,q,_⟩=>hl q,Bool.false_and]
end
theorem I_MatchOk (x:TMatch) (hg:Enc.gd x):Con Tryz.prog 68 [] [ag x] [] (B (matchOk x)):=by
 have hg0:=hg
 obtain⟨gL,gS,gD,gSc,gP,gW,gPa,gA,gC,gWa,gLi,gAl,gB⟩:=hg
 have hl:=X6 x.Scripts
 have hx:=gSc.1
 have c1:=Xj x.Level gL
 refine Con.of Tryz.func68 J Tryz.ntmps68 J (fun E => ?_)
 refine Wz [58,170] ?_;refine zx (Qj J J (c1) J) J ?_;refine Wz [5,80] ?_;refine zx (Qt.grdF J J J (.hit (.hit .stop)) (fun hgrd=>Qj J J (Xk x.Seed 0 65535) J)) J ?_;refine Wz [77,72] ?_;refine zx (Qt.grdF J J J (.hit (.hit .stop)) (fun hgrd=>Qj J J (Xk x.Delay 0 5) J)) J ?_;refine Wz [77,25] ?_
 refine Q8 J (fun h1 => ?_) (fun h1 => ?_)
 ·rw[show matchOk x=false from dF fun hm=>by obtain⟨⟨a,b,c,_⟩,_⟩:=hm; rw[a,b,c] at h1; exact absurd h1 (by decide)]
  refine Wz [35] ?_
  exact Xi J J (Xt [] (by decide) J J J)
 refine AWP.pre (st':=(⟨_,[(1,.o (.c (.ptr 0 0)))],[.box ((Enc.e x).map (V1.rd []))]⟩:St)) ?_ (Xv [0] (by kernel_rfl))
 refine Wz [11,27] ?_;refine zx (Qj J J (Xk x.Clock 0 1000) J) J ?_;refine Wz [5,80] ?_;refine zx (Qt.grdF J J J (.hit (.hit .stop)) (fun hgrd=>Qj J J (Xk x.Bad 0 1000000) J)) J ?_;refine Wz [77,25] ?_
 refine Q8 J (fun h2 => ?_) (fun h2 => ?_)
 ·rw[show matchOk x=false from dF fun hm=>by obtain⟨⟨_,_,_,a,b⟩,_⟩:=hm; rw[a,b] at h2; exact absurd h2 (by decide)]
  refine Wz [35] ?_
  exact Xi J J (Xt [] (by decide) J J J)
 refine AWP.pre (st':=(⟨_,[(1,.o (.c (.ptr 0 0)))],[.box ((Enc.e x).map (V1.rd []))]⟩:St)) ?_ (Xv [0] (by kernel_rfl))
 simp only[Gql,Gqv] at h1 h2
 have hH:HeadP x:=⟨h1.1.1,h1.1.2,h1.2,h2.1,h2.2⟩
 refine Wz [11,27,21,152,80,130,222,25] ?_
 refine Q8 J (fun h3 => ?_) (fun h3 => ?_)
 ·simp only[Gqo,decide_eq_true_eq] at h3
  rw[show matchOk x=false from dF fun hm=>by obtain⟨_,⟨a,b⟩,_⟩:=hm; omega]
  refine Wz [35] ?_
  exact Xi J J (Xt [] (by decide) J J J)
 simp only[Gql,decide_eq_false_iff_not] at h3
 refine AWP.pre (st':=(⟨_,[(1,.o (.c (.ptr 0 0)))],[.box ((Enc.e x).map (V1.rd []))]⟩:St)) ?_ (Xv [0] (by kernel_rfl))
 refine Wz [11,27,104,2,50] ?_;refine Xe (fun m st=>∃ k:Nat,k+m=x.Scripts.length∧((x.Scripts.take k).all scriptOk=true)∧st=(⟨_,[(1,.o (.c (.ptr 0 0))),(42,L x.Scripts),(43,I (els x.Scripts).length),(44,I k)],[.box ((Enc.e x).map (V1.rd []))]⟩:St)) (x.Scripts.length) ⟨_,⟨0,by omega,by simp,J⟩,Xv [0] (by kernel_rfl)⟩ ?_
 rintro m_A _ ⟨k,hk_A,hp_A,rfl⟩
 refine Wz [7,12,16] ?_
 refine Q8 J (fun h => ?_) (fun h => ?_)
 ·have h5:k<x.Scripts.length:=by have:=Gqc h; omega
  have hat:=X5 h5
  have hc:=I_scriptOk x.Scripts[k] (gSc.2 _ (Gqf h5))
  cases ho:scriptOk x.Scripts[k] with
  |false =>
   rw[ho] at hc
   rw[show matchOk x=false from dF fun hm=>by have:=hm.2.2.1; rw[all_no h5 ho] at this; cases this]
   refine Wz [9,7,84,3,4] ?_;refine zx (Qj J J (hc) J) J ?_;refine Wz [5,74] ?_
   exact Xi J J (Xt [] (by decide) J J J)
  |true =>
   rw[ho] at hc
   refine Wz [9,7,84,3,4] ?_;refine zx (Qj J J (hc) J) J ?_;refine Wz [5,183,60,100,14,0,2] ?_
   exact⟨x.Scripts.length-(k+1),by omega,_,⟨k+1,by omega,Xz hp_A h5 ho,J⟩,Xv [0] (by kernel_rfl)⟩
 have h5:¬k<x.Scripts.length:=by have:=Gqg h; omega
 have hA:=Xy hp_A (by omega)
 have cp:=I_peersOk x hg0
 have cw:=I_watchersOk x hg0
 refine AWP.pre (st':=(⟨_,[(1,.o (.c (.ptr 0 0)))],[.box ((Enc.e x).map (V1.rd []))]⟩:St)) ?_ (Xv [0] (by kernel_rfl))
 by_cases hP:PeersP x
 ·have cl:=I_linksOk x hg0 hP
  rw[show peersM x=true from dT hP] at cp
  rw[←match_I hH (by omega) hA hP]
  refine Wz [68,40] ?_;refine zx (Qj J J (cp) J) J ?_;refine Wz [44,38,1] ?_;refine zx (Qj J J (cl) J) J ?_;refine Wz [29,0] ?_;refine zx (Qt.grdT J J J .stop (fun hgrd=>Qu J J J J J J)) J ?_;refine zx (Qt.grdT J J J (.hit .stop) (fun hgrd=>Qj J J (cw) J)) J ?_;refine Wz [42,46] ?_
  exact Xi J J (Xt [] (by decide) J J J)
 ·rw[show peersM x=false from dF hP] at cp
  rw[show matchOk x=false from dF fun hm=>hP hm.2.2.2.1]
  refine Wz [68,40] ?_;refine zx (Qj J J (cp) J) J ?_;refine Wz [65,15,65,15,46] ?_
  exact Xi J J (Xt [] (by decide) J J J)
end
section
open Go.RowKit

theorem S_square (x:TMatch) (hg:Enc.gd x) (hP:PeersP x):Con Tryz.prog 158 [] [ag x,ai x.Peers.length] [] (B (linksM x)):=by
 obtain⟨gL,gS,gD,gSc,gP,gW,gPa,gA,gC,gWa,gLi,gAl,gB⟩:=hg
 have hx:=gP.1
 have hlw:=X6 x.Wires
 have hlq:=X6 x.Paces
 have hla:=X6 x.Acks
 refine Con.of Tryz.func158 J Tryz.ntmps158 J (fun E => ?_)
 refine Wz [58,27,104,139,80,130,158,143,72,130,158,143,25] ?_
 refine Q8 J (fun h1 => ?_) (fun h1 => ?_)
 ·simp only[Gqo,decide_eq_true_eq] at h1
  rw[show linksM x=false from dF fun hp=>by obtain⟨⟨a,b,c⟩,_⟩:=hp; omega]
  refine Wz [35] ?_
  exact Xi J J (Xt [] (by decide) J J J)
 simp only[Gql,decide_eq_false_iff_not,Classical.not_not] at h1
 obtain⟨⟨l1,l2⟩,l3⟩:=h1
 refine AWP.pre (st':=(⟨_,[(2,.o (.c (.ptr 0 0))),(1,I x.Peers.length)],[.box ((Enc.e x).map (V1.rd []))]⟩:St)) ?_ (Xv [0] (by kernel_rfl))
 refine Wz [11,39] ?_;refine Xe (fun m st=>∃ i:Nat,i+m=x.Peers.length∧((∀ i',i'<i→LinkLen x i'∧∀ j',j'<x.Peers.length→LinkAt x i' j'))∧st=(⟨_,[(2,.o (.c (.ptr 0 0))),(1,I x.Peers.length),(5,I i)],[.box ((Enc.e x).map (V1.rd []))]⟩:St)) (x.Peers.length) ⟨_,⟨0,by omega,fun i hi=>absurd hi (Nat.not_lt_zero _),J⟩,Xv [0] (by kernel_rfl)⟩ ?_
 rintro m_A _ ⟨i,hk_A,hp_A,rfl⟩
 refine Wz [28,12] ?_
 refine Q8 J (fun h => ?_) (fun h => ?_)
 ·have h3:i<x.Peers.length:=by have:=Gqc h; omega
  obtain⟨ws,hws⟩:=Z4 (xs:=x.Wires) (i:=i) (by omega)
  obtain⟨qs,hqs⟩:=Z4 (xs:=x.Paces) (i:=i) (by omega)
  obtain⟨ks,hks⟩:=Z4 (xs:=x.Acks) (i:=i) (by omega)
  obtain⟨p,hp⟩:=Z4 (xs:=x.Peers) (i:=i) (by omega)
  have h4:=(pin_spec (hP.2 i p hp)).1.2.2
  have h5:=hP.1
  obtain⟨tr,ht⟩:=Z4 (xs:=p.Tracks) (i:=i) (by omega)
  have gws:=gW.2 ws (Gq5 hws)
  have hatW:=X9 hws
  have hatQ:=X9 hqs
  have hatK:=X9 hks
  have hatP:=X9 hp
  have hatT:=X9 ht
  have hl1:=X6 ws
  have hl2:=X6 qs
  have hl3:=X6 ks
  refine Wz [9,27,0,84,104,139,80,145,208,217,198,235,218,72,145,208,217,198,235,218,25] ?_
  refine Q8 J (fun h6 => ?_) (fun h6 => ?_)
  ·simp only[Gqo,decide_eq_true_eq] at h6
   rw[show linksM x=false from dF fun hp=>by obtain⟨a,b,c⟩:=(hp.2 i h3).1 ws qs ks hws hqs hks; omega]
   refine Wz [55,63,118,47] ?_
   exact Xi J J (Xt [] (by decide) J J J)
  simp only[Gql,decide_eq_false_iff_not,Classical.not_not] at h6
  obtain⟨⟨l4,l5⟩,l6⟩:=h6
  refine AWP.pre (st':=(⟨_,[(2,.o (.c (.ptr 0 0))),(1,I x.Peers.length),(5,I i)],[.box ((Enc.e x).map (V1.rd []))]⟩:St)) ?_ (Xv [0] (by kernel_rfl))
  refine Wz [11,33,50] ?_;refine Xe (fun m st=>∃ j:Nat,j+m=x.Peers.length∧((∀ j',j'<j→LinkAt x i j'))∧st=(⟨_,[(2,.o (.c (.ptr 0 0))),(1,I x.Peers.length),(5,I i),(6,I j)],[.box ((Enc.e x).map (V1.rd []))]⟩:St)) (x.Peers.length) ⟨_,⟨0,by omega,fun i hi=>absurd hi (Nat.not_lt_zero _),J⟩,Xv [0] (by kernel_rfl)⟩ ?_
  rintro m_D _ ⟨j,hk_D,hp_D,rfl⟩
  refine Wz [28,12] ?_
  refine Q8 J (fun h => ?_) (fun h => ?_)
  ·have h7:j<x.Peers.length:=by have:=Gqc h; omega
   obtain⟨w,hw⟩:=Z4 (xs:=ws) (i:=j) (by omega)
   obtain⟨q,hq⟩:=Z4 (xs:=qs) (i:=j) (by omega)
   obtain⟨a,ha⟩:=Z4 (xs:=ks) (i:=j) (by omega)
   have hatw:=X9 hw
   have hatq:=X9 hq
   have hata:=X9 ha
   have c1:=S_WireOk w (gws.2 w (Gq5 hw))
   have c2:=S_PaceOk q
   have c3:=Xs a 0 (els tr.Inputs).length
   cases hr1:wireOk w with
   |false =>
    rw[hr1] at c1
    rw[show linksM x=false from dF fun hl=>by obtain⟨b,_,_⟩:=link_spec hws hqs hks hp hw hq ha ht ((hl.2 i h3).2 j h7); rw[hr1] at b; cases b]
    refine Wz [45,236,32,8,106,34,8,106,210] ?_;refine DR.s (Qj J J (c1) J) J J ?_;refine Wz [141,8,52,52,259,126,8,52,52,52,52,52,226,126,30,181,151,88] ?_
    exact Xi J J (Xt [] (by decide) J J J)
   | true =>
    rw[hr1] at c1
    cases hr2:paceOk q with
    |false =>
     rw[hr2] at c2
     rw[show linksM x=false from dF fun hl=>by obtain⟨_,b,_⟩:=link_spec hws hqs hks hp hw hq ha ht ((hl.2 i h3).2 j h7); rw[hr2] at b; cases b]
     refine Wz [45,236,32,8,106,34,8,106,210] ?_;refine DR.s (Qj J J (c1) J) J J ?_;refine Wz [141,8,17,105,127,135,105,127,255] ?_;refine DR.s (Qt.yes J J J (Qj J J (c2) J)) J J ?_;refine Wz [120,71,8,52,52,52,52,52,226,126,30,181,151,88] ?_
     exact Xi J J (Xt [] (by decide) J J J)
    | true =>
     rw[hr2] at c2
     cases hr:inR a 0 (els tr.Inputs).length with
     |false =>
      rw[hr] at c3
      rw[show linksM x=false from dF fun hl=>by obtain⟨_,_,b⟩:=link_spec hws hqs hks hp hw hq ha ht ((hl.2 i h3).2 j h7); rw[hr] at b; cases b]
      refine Wz [45,236,32,8,106,34,8,106,210] ?_;refine DR.s (Qj J J (c1) J) J J ?_;refine Wz [141,8,17,105,127,135,105,127,255] ?_;refine DR.s (Qt.yes J J J (Qj J J (c2) J)) J J ?_;refine Wz [120,71,8,17,105,127,135,105,127,135,17,105,127,164,135,105,127,164,135,186] ?_;refine DR.s (Qt.yes J J J (Qj J J (c3) J)) J J ?_;refine Wz [120,71,30,181,151,88] ?_
      exact Xi J J (Xt [] (by decide) J J J)
     |true =>
      rw[hr] at c3
      refine Wz [45,236,32,8,106,34,8,106,210] ?_;refine DR.s (Qj J J (c1) J) J J ?_;refine Wz [141,8,17,105,127,135,105,127,255] ?_;refine DR.s (Qt.yes J J J (Qj J J (c2) J)) J J ?_;refine Wz [120,71,8,17,105,127,135,105,127,135,17,105,127,164,135,105,127,164,135,186] ?_;refine DR.s (Qt.yes J J J (Qj J J (c3) J)) J J ?_;refine Wz [120,71,30,57] ?_
      exact⟨x.Peers.length-(j+1),by omega,_,⟨j+1,by omega,Z8 hp_D (link_yes hws hqs hks hp hw hq ha ht (by rw[hr1,hr2]; rfl) hr),J⟩,Xv [0] (by kernel_rfl)⟩
  have h7:¬j<x.Peers.length:=by have:=Gqg h; omega
  refine Wz [178,168] ?_
  exact⟨x.Peers.length-(i+1),by omega,_,⟨i+1,by omega,Z8 hp_A ⟨link_len hws hqs hks (by omega) (by omega) (by omega),fun j' hj=>hp_D j' (by omega)⟩,J⟩,Xv [0] (by kernel_rfl)⟩
 have h3:¬i<x.Peers.length:=by have:=Gqg h; omega
 rw[show linksM x=true from dT ⟨⟨by omega,by omega,by omega⟩,fun i' hi=>hp_A i' (by omega)⟩]
 refine Wz [94] ?_
 exact Xi J J (Xt [] (by decide) J J J)
end
section
open Go.RowKit

theorem script_neg (s:List Int):decide (scriptIn s 0 0<0) = !scriptOk s:=by
 cases h:scriptOk s with
 |false =>
  rw[script_no (by rw[h]; simp)]
  rfl
 |true =>
  obtain⟨hi,h2,h3,h4⟩:=script_at (xs:=s) (d:=0) (t:=0) h rfl (by omega) (by omega)
  rw[h4]
  have hin:inOk s=true:=by unfold scriptOk at h; rw[Gqj] at h; exact h.2
  have:=Gqm.1 hin _ (Gqf hi)
  rw[Yk] at this
  exact Gqa (by omega)
section
variable {m:TMatch} {k n:Nat} {p:TPeer} {s:List Int}
theorem pinS_no (hn:n=m.Scripts.length) (h:((((((decide (scriptIn s 0 0<0) || !peerOk p) || decide (p.Me≠(k:Int))) || !decide (p.Base.Level=m.Level)) || decide (p.Seed≠m.Seed)) || decide (p.Delay≠m.Delay)) || decide (((els p.Tracks).length:Int)≠(n:Int)))=true):¬(scriptOk s=true∧peerIn m k p=true):=fun ⟨hs,hp⟩=>by
 obtain⟨⟨a,b,c⟩,d,e,f⟩:=pin_spec hp
 rw[script_neg,hs,a,Gqa (fun q=>q b),Gqb d,Gqa (fun q=>q e),Gqa (fun q=>q f),X6,hn,Gqa (fun q=>q c)] at h
 exact absurd h (by decide)
theorem pinS_yes (hn:n=m.Scripts.length) (h:((((((decide (scriptIn s 0 0<0) || !peerOk p) || decide (p.Me≠(k:Int))) || !decide (p.Base.Level=m.Level)) || decide (p.Seed≠m.Seed)) || decide (p.Delay≠m.Delay)) || decide (((els p.Tracks).length:Int)≠(n:Int)))=false):scriptOk s=true∧peerIn m k p=true:=by
 rw[script_neg,hn] at h
 simp only[Gql,Gqv,decide_eq_false_iff_not,Classical.not_not,decide_eq_true_eq,X6] at h
 obtain⟨⟨⟨⟨⟨⟨a,b⟩,c⟩,d⟩,e⟩,f⟩,g⟩:=h
 simp only[peerIn,Gqj,decide_eq_true_eq]
 exact⟨a,⟨⟨b,c⟩,g⟩,⟨d,e⟩,f⟩
theorem winS_no {s:TSpectator} {l:TWire} (hn:n=m.Scripts.length) (h:(((!wireOk l || !worldOk s.World) || !decide (s.World.Level=m.Level)) || decide (((els s.World.Scores).length:Int)≠(n:Int)))=true):¬watcherIn m s l=true:=fun hp=>by
 obtain⟨⟨a,b⟩,c,d⟩:=win_spec hp
 rw[a,b,Gqb c,X6,hn,Gqa (fun q=>q d)] at h
 exact absurd h (by decide)
theorem winS_yes {s:TSpectator} {l:TWire} (hn:n=m.Scripts.length) (h:(((!wireOk l || !worldOk s.World) || !decide (s.World.Level=m.Level)) || decide (((els s.World.Scores).length:Int)≠(n:Int)))=false):watcherIn m s l=true:=by
 rw[hn] at h
 simp only[Gql,Gqv,decide_eq_false_iff_not,Classical.not_not,decide_eq_true_eq,X6] at h
 simp only[watcherIn,Gqj,decide_eq_true_eq]
 exact⟨h.1.1,h.1.2,h.2⟩
theorem match_S (hH:HeadP m) (hS:1≤m.Scripts.length∧m.Scripts.length≤4) (hA:m.Scripts.all scriptOk=true) (hP:PeersP m) (hW:WatchersP m):linksM m=matchOk m:=by
 rw[←match_I hH hS hA hP,show watchersM m=true from dT hW,Bool.and_true]
end
theorem S_MatchOk (x:TMatch) (hg:Enc.gd x):Con Tryz.prog 60 [] [ag x] [] (B (matchOk x)):=by
 have hg0:=hg
 obtain⟨gL,gS,gD,gSc,gP,gW,gPa,gA,gC,gWa,gLi,gAl,gB⟩:=hg
 have hl:=X6 x.Scripts
 have hx:=gSc.1
 have hlp:=X6 x.Peers
 have hlw:=X6 x.Watchers
 have hll:=X6 x.Lines
 have c1:=S_LevelOk x.Level gL
 refine Con.of Tryz.func60 J Tryz.ntmps60 J (fun E => ?_)
 refine Wz [58,24,21,3,170] ?_;refine zx (Qj J J (c1) J) J ?_;refine Wz [5,80] ?_;refine zx (Qt.grdF J J J (.hit (.hit .stop)) (fun hgrd=>Qj J J (Xs x.Seed 0 65535) J)) J ?_;refine Wz [77,72] ?_;refine zx (Qt.grdF J J J (.hit (.hit .stop)) (fun hgrd=>Qj J J (Xs x.Delay 0 5) J)) J ?_;refine Wz [77,72] ?_;refine zx (Qt.grdF J J J (.hit (.hit .stop)) (fun hgrd=>Qj J J (Xs x.Clock 0 1000) J)) J ?_;refine Wz [77,72] ?_;refine zx (Qt.grdF J J J (.hit (.hit .stop)) (fun hgrd=>Qj J J (Xs x.Bad 0 1000000) J)) J ?_;refine Wz [77,76,0,70] ?_;refine zx (Qt.grdF J J J (.hit .stop) (fun hgrd=>Qj J J (Xs (els x.Scripts).length 1 4) J)) J ?_;refine Wz [154,72,130,158,143,72,130,222,72,130,204,253,198,254,25] ?_
 refine Q8 J (fun h1 => ?_) (fun h1 => ?_)
 ·rw[show matchOk x=false from dF fun hm=>by obtain⟨⟨a,b,c,d,e⟩,⟨f1,f2⟩,_,⟨g,_⟩,_,⟨i,j⟩,_⟩:=hm; rw[a,b,c,d,e,show inR ((els x.Scripts).length:Int) 1 4=true by (rw[Yk]; omega),Gqa (by omega),Gqa (by omega),Gqa (by omega)] at h1; exact absurd h1 (by decide)]
  refine Wz [35] ?_
  exact Xi J J (Xt [] (by decide) J J J)
 simp only[Gql,Gqv,decide_eq_false_iff_not,Classical.not_not,Yk] at h1
 obtain⟨⟨⟨⟨⟨⟨⟨⟨a,b⟩,c⟩,d⟩,e⟩,f⟩,g⟩,h8⟩,h9⟩:=h1
 have hH:HeadP x:=⟨a,Yk.2 b,Yk.2 c,Yk.2 d,Yk.2 e⟩
 refine AWP.pre (st':=(⟨_,[(1,.o (.c (.ptr 0 0))),(3,I (els x.Scripts).length)],[.box ((Enc.e x).map (V1.rd []))]⟩:St)) ?_ (Xv [0] (by kernel_rfl))
 refine Wz [11,39] ?_;refine Xe (fun m st=>∃ k:Nat,k+m=x.Scripts.length∧(((x.Scripts.take k).all scriptOk=true∧∀ i,i<k→∀ p,x.Peers[i]? = some p→peerIn x i p=true))∧st=(⟨_,[(1,.o (.c (.ptr 0 0))),(3,I (els x.Scripts).length),(4,I k)],[.box ((Enc.e x).map (V1.rd []))]⟩:St)) (x.Scripts.length) ⟨_,⟨0,by omega,⟨by simp,fun i hi=>absurd hi (Nat.not_lt_zero _)⟩,J⟩,Xv [0] (by kernel_rfl)⟩ ?_
 rintro m_A _ ⟨k,hk_A,hp_A,rfl⟩
 obtain⟨hpa,hpb⟩:=hp_A
 refine Wz [28,12] ?_
 refine Q8 J (fun h => ?_) (fun h => ?_)
 ·have h3:k<x.Scripts.length:=by have:=Gqc h; omega
  obtain⟨p,hp⟩:=Z4 (xs:=x.Peers) (i:=k) (by omega)
  have hatP:=X9 hp
  have hat:=X5 h3
  have gp:=gP.2 p (Gq5 hp)
  have c2:=S_ScriptInput x.Scripts[k] 0 0 (gSc.2 _ (Gqf h3)) ⟨by decide,by decide⟩
  have c3:=S_PeerOk p gp
  have c4:=S_sameLevel p.Base.Level x.Level gp.2.2.2.2.2.1.1
  repeat (first | refine Qd ?_ | refine Qh ?_ | refine Qk ?_ | refine Qz ?_)
  refine Wz [100,13,0,89] ?_;refine AL.weak (st':=(⟨_,[(1,.o (.c (.ptr 0 0))),(3,I (els x.Scripts).length),(4,I k),(75,.o (.ag ((Enc.e p).map (V1.rd []))))],[.box ((Enc.e x).map (V1.rd []))]⟩:St)) (Xw [0] (by decide) J (by kernel_rfl) (.c J (.c J (.c J (.cons (by kernel_rfl) (.nil)))))) ?_;refine Wz [22,110] ?_;refine AL.weak (st':=(⟨_,[(1,.o (.c (.ptr 0 0))),(3,I (els x.Scripts).length),(4,I k),(5,.o (.c (.ptr 1 0)))],[.box ((Enc.e x).map (V1.rd [])),.box ((Enc.e p).map (V1.rd []))]⟩:St)) (Xw [0,1] (by decide) J ((by kernel_rfl)) (.c J (.c J (.c J (.c J (.nil)))))) ?_;refine Wz [2,36,84] ?_;refine zx (Qj J J (c2) J) J ?_;refine Wz [152,0,213] ?_;refine zx (Qt.grdF J J J (.hit .stop) (fun hgrd=>Qj J J (c3) J)) J ?_;refine Wz [154,72,145,243,76,150,163,246,204] ?_;refine zx (Qt.grdF J J J (.hit (.hit (.hit (.hit .stop)))) (fun hgrd=>Qu J J J J J J)) J ?_;refine zx (Qt.grdF J J J (.hit (.hit (.hit (.hit (.hit .stop))))) (fun hgrd=>Qj J J (c4) J)) J ?_;refine zx (Qt.grdF J J J (.hit (.hit (.hit (.hit (.hit (.hit .stop)))))) (fun hgrd=>Q3 J J J)) J ?_;refine Wz [72,216,234,143,72,216,234,143,72,130,158,143,25] ?_
  refine Q8 J (fun h4 => ?_) (fun h4 => ?_)
  ·rw[show matchOk x=false from dF fun hm=>pinS_no hl h4 ⟨by have:=Gqm.1 hm.2.2.1 _ (Gqf h3); exact this,hm.2.2.2.1.2 k p hp⟩]
   refine Wz [55,88] ?_
   exact Xi J J (Xt [] (by decide) J J J)
  have h4:=pinS_yes hl h4
  refine AWP.pre (st':=(⟨_,[(1,.o (.c (.ptr 0 0))),(3,I (els x.Scripts).length),(4,I k)],[.box ((Enc.e x).map (V1.rd []))]⟩:St)) ?_ (Xv [0] (by kernel_rfl))
  refine Wz [124,168] ?_
  exact⟨x.Scripts.length-(k+1),by omega,_,⟨k+1,by omega,⟨Xz hpa h3 h4.1,Z8 hpb fun p' hp'=>by rw[hp] at hp'; cases hp'; exact h4.2⟩,J⟩,Xv [0] (by kernel_rfl)⟩
 have h3:¬k<x.Scripts.length:=by have:=Gqg h; omega
 have hA:=Xy hpa (by omega)
 have hP:PeersP x:=⟨by omega,fun i p hi=>hpb i (by have:=(Gqn.1 hi).1; omega) p hi⟩
 refine AWP.pre (st':=(⟨_,[(1,.o (.c (.ptr 0 0))),(3,I (els x.Scripts).length)],[.box ((Enc.e x).map (V1.rd []))]⟩:St)) ?_ (Xv [0] (by kernel_rfl))
 refine Wz [68,39] ?_;refine Xe (fun m st=>∃ q:Nat,q+m=x.Watchers.length∧((∀ i,i<q→∀ s l,x.Watchers[i]? = some s→x.Lines[i]? = some l→watcherIn x s l=true))∧st=(⟨_,[(1,.o (.c (.ptr 0 0))),(3,I (els x.Scripts).length),(6,I q)],[.box ((Enc.e x).map (V1.rd []))]⟩:St)) (x.Watchers.length) ⟨_,⟨0,by omega,fun i hi=>absurd hi (Nat.not_lt_zero _),J⟩,Xv [0] (by kernel_rfl)⟩ ?_
 rintro m_D _ ⟨q,hk_D,hp_D,rfl⟩
 refine Wz [111,13,21,12] ?_
 refine Q8 J (fun h => ?_) (fun h => ?_)
 ·have h5:q<x.Watchers.length:=by have:=Gqc h; omega
  obtain⟨s,hs⟩:=Z4 (xs:=x.Watchers) (i:=q) (by omega)
  obtain⟨l,hl2⟩:=Z4 (xs:=x.Lines) (i:=q) (by omega)
  have hat:=X9 hs
  have hatL:=X9 hl2
  have gs:=gWa.2 s (Gq5 hs)
  have c2:=S_WireOk l (gLi.2 l (Gq5 hl2))
  have c3:=S_WorldOk s.World gs.1
  have c4:=S_sameLevel s.World.Level x.Level gs.1.1
  refine Wz [9,36,121,264,22,49,36,89] ?_;refine zx (Qj J J (c2) J) J ?_;refine Wz [5,0,213] ?_;refine zx (Qt.grdF J J J (.hit .stop) (fun hgrd=>Qj J J (c3) J)) J ?_;refine Wz [154,76,150,197,216] ?_;refine zx (Qt.grdF J J J (.hit (.hit (.hit .stop))) (fun hgrd=>Qu J J J J J J)) J ?_;refine zx (Qt.grdF J J J (.hit (.hit (.hit (.hit .stop)))) (fun hgrd=>Qj J J (c4) J)) J ?_;refine zx (Qt.grdF J J J (.hit (.hit (.hit (.hit (.hit .stop))))) (fun hgrd=>Q3 J J J)) J ?_;refine Wz [72,130,158,143,25] ?_
  refine Q8 J (fun h4 => ?_) (fun h4 => ?_)
  ·rw[show matchOk x=false from dF fun hm=>winS_no hl h4 (hm.2.2.2.2.2.2 q s l hs hl2)]
   refine Wz [55,88] ?_
   exact Xi J J (Xt [] (by decide) J J J)
  refine AWP.pre (st':=(⟨_,[(1,.o (.c (.ptr 0 0))),(3,I (els x.Scripts).length),(6,I q)],[.box ((Enc.e x).map (V1.rd []))]⟩:St)) ?_ (Xv [0] (by kernel_rfl))
  refine Wz [124,168] ?_
  exact⟨x.Watchers.length-(q+1),by omega,_,⟨q+1,by omega,Z8 hp_D fun s' l' hs' hl'=>by rw[hs] at hs'; rw[hl2] at hl'; cases hs'; cases hl'; exact winS_yes hl h4,J⟩,Xv [0] (by kernel_rfl)⟩
 have h5:¬q<x.Watchers.length:=by have:=Gqg h; omega
 have hW:WatchersP x:=⟨⟨by omega,by omega⟩,fun i s l hi hl=>hp_D i (by have:=(Gqn.1 hi).1; omega) s l hi hl⟩
 have cl:=S_square x hg0 hP
 rw[show x.Peers.length=(els x.Scripts).length by omega,match_S hH (by omega) hA hP hW] at cl
 refine AWP.pre (st':=(⟨_,[(1,.o (.c (.ptr 0 0))),(3,I (els x.Scripts).length)],[.box ((Enc.e x).map (V1.rd []))]⟩:St)) ?_ (Xv [0] (by kernel_rfl))
 refine Wz [68,40,0] ?_;refine zx (Qj J J (cl) J) J ?_;refine Wz [46] ?_
 exact Xi J J (Xt [] (by decide) J J J)
end
end Go.Proofs.YtoecjaohdnoenaaGreat
