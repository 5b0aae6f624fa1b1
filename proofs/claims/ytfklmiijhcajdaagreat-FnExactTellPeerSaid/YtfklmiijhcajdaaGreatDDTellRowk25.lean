/-
  Rules, data and contracts of functions: part 26 of the proof.
  Conditions: those that each theorem names.
-/
import Derived.Test.YtfklmiijhcajdaaGreatDDTellRowk24
set_option linter.unusedSimpArgs false
set_option linter.unusedVariables false
set_option maxRecDepth 8000
set_option maxHeartbeats 8000000
namespace Go.Proofs.YtfklmiijhcajdaaGreat
section
open Go.RowKit

theorem S_square (x:TMatch) (hg:Enc.gd x) (hP:PeersP x):Con Tryz.prog 169 [] [ag x,ai x.Peers.length] [] (B (linksM x)):=by
 obtain⟨gL,gS,gD,gSc,gP,gW,gPa,gA,gC,gWa,gLi,gAl,gB⟩:=hg
 have hx:=gP.1
 have hlw:=Yi x.Wires
 have hlq:=Yi x.Paces
 have hla:=Yi x.Acks
 refine Con.of Tryz.func169 J Tryz.ntmps169 J (fun E => ?_)
 refine Wz [21,34,117,158,102,140,176,162,98,140,176,162,51] ?_
 refine Xb J (fun h1 => ?_) (fun h1 => ?_)
 ·simp only[Gqr,decide_eq_true_eq] at h1
  rw[show linksM x=false from dF fun hp=>by obtain⟨⟨a,b,c⟩,_⟩:=hp; omega]
  refine Wz [39] ?_
  exact Xl J J (X1 [] Aqc J J J)
 simp only[Gql,decide_eq_false_iff_not,Classical.not_not] at h1
 obtain⟨⟨l1,l2⟩,l3⟩:=h1
 refine AWP.pre (st':=(⟨_,[(2,Aqf 0),(1,I x.Peers.length)],[.box (Aqi x)]⟩:St)) ?_ (X3 [0] Aqb)
 refine Wz [15,11] ?_;refine Xh (fun m st=>∃ i:Nat,i+m=x.Peers.length∧((∀ i',i'<i→LinkLen x i'∧∀ j',j'<x.Peers.length→LinkAt x i' j'))∧st=(⟨_,[(2,Aqf 0),(1,I x.Peers.length),(5,I i)],[.box (Aqi x)]⟩:St)) (x.Peers.length) ⟨_,⟨0,Aqa,fun i hi=>absurd hi (Nat.not_lt_zero _),J⟩,X3 [0] Aqb⟩ ?_
 rintro m_A _ ⟨i,hk_A,hp_A,rfl⟩
 refine Wz [43,38] ?_
 refine Xb J (fun h => ?_) (fun h => ?_)
 ·have h3:i<x.Peers.length:=by have:=Gqc h; omega
  obtain⟨ws,hws⟩:=Kp (xs:=x.Wires) (i:=i) Aqa 
  obtain⟨qs,hqs⟩:=Kp (xs:=x.Paces) (i:=i) Aqa 
  obtain⟨ks,hks⟩:=Kp (xs:=x.Acks) (i:=i) Aqa 
  obtain⟨p,hp⟩:=Kp (xs:=x.Peers) (i:=i) Aqa 
  have h4:=(pin_spec (hP.2 i p hp)).1.2.2
  have h5:=hP.1
  obtain⟨tr,ht⟩:=Kp (xs:=p.Tracks) (i:=i) Aqa 
  have gws:=gW.2 ws (Gqm hws)
  have hatW:=Yl hws
  have hatQ:=Yl hqs
  have hatK:=Yl hks
  have hatP:=Yl hp
  have hatT:=Yl ht
  have hl1:=Yi ws
  have hl2:=Yi qs
  have hl3:=Yi ks
  refine Wz [7,34,0,80,117,158,102,166,226,237,213,256,238,98,166,226,237,213,256,238,51] ?_
  refine Xb J (fun h6 => ?_) (fun h6 => ?_)
  ·simp only[Gqr,decide_eq_true_eq] at h6
   rw[show linksM x=false from dF fun hp=>by obtain⟨a,b,c⟩:=(hp.2 i h3).1 ws qs ks hws hqs hks; omega]
   refine Wz [77,103,147,69] ?_
   exact Xl J J (X1 [] Aqc J J J)
  simp only[Gql,decide_eq_false_iff_not,Classical.not_not] at h6
  obtain⟨⟨l4,l5⟩,l6⟩:=h6
  refine AWP.pre (st':=(⟨_,[(2,Aqf 0),(1,I x.Peers.length),(5,I i)],[.box (Aqi x)]⟩:St)) ?_ (X3 [0] Aqb)
  refine Wz [15,12,178] ?_;refine Xh (fun m st=>∃ j:Nat,j+m=x.Peers.length∧((∀ j',j'<j→LinkAt x i j'))∧st=(⟨_,[(2,Aqf 0),(1,I x.Peers.length),(5,I i),(6,I j)],[.box (Aqi x)]⟩:St)) (x.Peers.length) ⟨_,⟨0,Aqa,fun i hi=>absurd hi (Nat.not_lt_zero _),J⟩,X3 [0] Aqb⟩ ?_
  rintro m_D _ ⟨j,hk_D,hp_D,rfl⟩
  refine Wz [43,38] ?_
  refine Xb J (fun h => ?_) (fun h => ?_)
  ·have h7:j<x.Peers.length:=by have:=Gqc h; omega
   obtain⟨w,hw⟩:=Kp (xs:=ws) (i:=j) Aqa 
   obtain⟨q,hq⟩:=Kp (xs:=qs) (i:=j) Aqa 
   obtain⟨a,ha⟩:=Kp (xs:=ks) (i:=j) Aqa 
   have hatw:=Yl hw
   have hatq:=Yl hq
   have hata:=Yl ha
   have c1:=S_WireOk w (gws.2 w (Gqm hw))
   have c2:=S_PaceOk q
   have c3:=X0 a 0 (els tr.Inputs).length
   cases hr1:wireOk w with
   |false =>
    rw[hr1] at c1
    rw[show linksM x=false from dF fun hl=>by obtain⟨b,_,_⟩:=link_spec hws hqs hks hp hw hq ha ht ((hl.2 i h3).2 j h7); rw[hr1] at b; cases b]
    refine Wz [88,257,8,66,29,66,192] ?_;refine DR.s (Qj J J (c1) J) J J ?_;refine Wz [74,4,65,65,270,129,4,65,65,65,65,65,220,129,13,24,77,179,141] ?_
    exact Xl J J (X1 [] Aqc J J J)
   | true =>
    rw[hr1] at c1
    cases hr2:paceOk q with
    |false =>
     rw[hr2] at c2
     rw[show linksM x=false from dF fun hl=>by obtain⟨_,b,_⟩:=link_spec hws hqs hks hp hw hq ha ht ((hl.2 i h3).2 j h7); rw[hr2] at b; cases b]
     refine Wz [88,257,8,66,29,66,192] ?_;refine DR.s (Qj J J (c1) J) J J ?_;refine Wz [74,4,35,72,121,126,72,121,290] ?_;refine DR.s (Qt.yes J J J (Qj J J (c2) J)) J J ?_;refine Wz [142,91,4,65,65,65,65,65,220,129,13,24,77,179,141] ?_
     exact Xl J J (X1 [] Aqc J J J)
    | true =>
     rw[hr2] at c2
     cases hr:inR a 0 (els tr.Inputs).length with
     |false =>
      rw[hr] at c3
      rw[show linksM x=false from dF fun hl=>by obtain⟨_,_,b⟩:=link_spec hws hqs hks hp hw hq ha ht ((hl.2 i h3).2 j h7); rw[hr] at b; cases b]
      refine Wz [88,257,8,66,29,66,192] ?_;refine DR.s (Qj J J (c1) J) J J ?_;refine Wz [74,4,35,72,121,126,72,121,290] ?_;refine DR.s (Qt.yes J J J (Qj J J (c2) J)) J J ?_;refine Wz [142,91,4,35,72,121,126,72,121,126,35,72,121,184,126,72,121,184,126,201] ?_;refine DR.s (Qt.yes J J J (Qj J J (c3) J)) J J ?_;refine Wz [142,91,13,24,77,179,141] ?_
      exact Xl J J (X1 [] Aqc J J J)
     |true =>
      rw[hr] at c3
      refine Wz [88,257,8,66,29,66,192] ?_;refine DR.s (Qj J J (c1) J) J J ?_;refine Wz [74,4,35,72,121,126,72,121,290] ?_;refine DR.s (Qt.yes J J J (Qj J J (c2) J)) J J ?_;refine Wz [142,91,4,35,72,121,126,72,121,126,35,72,121,184,126,72,121,184,126,201] ?_;refine DR.s (Qt.yes J J J (Qj J J (c3) J)) J J ?_;refine Wz [142,91,13,81,62] ?_
      exact⟨x.Peers.length-(j+1),Aqa,_,⟨j+1,Aqa,Kt hp_D (link_yes hws hqs hks hp hw hq ha ht (by rw[hr1,hr2]; rfl) hr),J⟩,X3 [0] Aqb⟩
  have h7:¬j<x.Peers.length:=by have:=Gqd h; omega
  refine Wz [218,231] ?_
  exact⟨x.Peers.length-(i+1),Aqa,_,⟨i+1,Aqa,Kt hp_A ⟨link_len hws hqs hks Aqa Aqa Aqa,fun j' hj=>hp_D j' Aqa⟩,J⟩,X3 [0] Aqb⟩
 have h3:¬i<x.Peers.length:=by have:=Gqd h; omega
 rw[show linksM x=true from dT ⟨⟨Aqa,Aqa,Aqa⟩,fun i' hi=>hp_A i' Aqa⟩]
 refine Wz [20,67] ?_
 exact Xl J J (X1 [] Aqc J J J)
end
section
open Go.RowKit

theorem script_neg (s:List Int):decide (scriptIn s 0 0<0) = !scriptOk s:=by
 cases h:scriptOk s with
 |false =>
  rw[script_no (by rw[h]; simp)]
  rfl
 |true =>
  obtain⟨hi,h2,h3,h4⟩:=script_at (xs:=s) (d:=0) (t:=0) h rfl Aqa Aqa 
  rw[h4]
  have hin:inOk s=true:=by unfold scriptOk at h; rw[Gqi] at h; exact h.2
  have:=Gqn.1 hin _ (Gqe hi)
  rw[Yx] at this
  exact Gqa Aqa 
section
variable {m:TMatch} {k n:Nat} {p:TPeer} {s:List Int}
theorem pinS_no (hn:n=m.Scripts.length) (h:((((((decide (scriptIn s 0 0<0) || !peerOk p) || decide (p.Me≠(k:Int))) || !decide (p.Base.Level=m.Level)) || decide (p.Seed≠m.Seed)) || decide (p.Delay≠m.Delay)) || decide (((els p.Tracks).length:Int)≠(n:Int)))=true):¬(scriptOk s=true∧peerIn m k p=true):=fun ⟨hs,hp⟩=>by
 obtain⟨⟨a,b,c⟩,d,e,f⟩:=pin_spec hp
 rw[script_neg,hs,a,Gqa (fun q=>q b),Gqb d,Gqa (fun q=>q e),Gqa (fun q=>q f),Yi,hn,Gqa (fun q=>q c)] at h
 exact absurd h Aqc 
theorem pinS_yes (hn:n=m.Scripts.length) (h:((((((decide (scriptIn s 0 0<0) || !peerOk p) || decide (p.Me≠(k:Int))) || !decide (p.Base.Level=m.Level)) || decide (p.Seed≠m.Seed)) || decide (p.Delay≠m.Delay)) || decide (((els p.Tracks).length:Int)≠(n:Int)))=false):scriptOk s=true∧peerIn m k p=true:=by
 rw[script_neg,hn] at h
 simp only[Gql,Gqu,decide_eq_false_iff_not,Classical.not_not,decide_eq_true_eq,Yi] at h
 obtain⟨⟨⟨⟨⟨⟨a,b⟩,c⟩,d⟩,e⟩,f⟩,g⟩:=h
 simp only[peerIn,Gqi,decide_eq_true_eq]
 exact⟨a,⟨⟨b,c⟩,g⟩,⟨d,e⟩,f⟩
theorem winS_no {s:TSpectator} {l:TWire} (hn:n=m.Scripts.length) (h:(((!wireOk l || !worldOk s.World) || !decide (s.World.Level=m.Level)) || decide (((els s.World.Scores).length:Int)≠(n:Int)))=true):¬watcherIn m s l=true:=fun hp=>by
 obtain⟨⟨a,b⟩,c,d⟩:=win_spec hp
 rw[a,b,Gqb c,Yi,hn,Gqa (fun q=>q d)] at h
 exact absurd h Aqc 
theorem winS_yes {s:TSpectator} {l:TWire} (hn:n=m.Scripts.length) (h:(((!wireOk l || !worldOk s.World) || !decide (s.World.Level=m.Level)) || decide (((els s.World.Scores).length:Int)≠(n:Int)))=false):watcherIn m s l=true:=by
 rw[hn] at h
 simp only[Gql,Gqu,decide_eq_false_iff_not,Classical.not_not,decide_eq_true_eq,Yi] at h
 simp only[watcherIn,Gqi,decide_eq_true_eq]
 exact⟨h.1.1,h.1.2,h.2⟩
theorem match_S (hH:HeadP m) (hS:1≤m.Scripts.length∧m.Scripts.length≤4) (hA:m.Scripts.all scriptOk=true) (hP:PeersP m) (hW:WatchersP m):linksM m=matchOk m:=by
 rw[←match_I hH hS hA hP,show watchersM m=true from dT hW,Bool.and_true]
end
theorem S_MatchOk (x:TMatch) (hg:Enc.gd x):Con Tryz.prog 83 [] [ag x] [] (B (matchOk x)):=by
 have hg0:=hg
 obtain⟨gL,gS,gD,gSc,gP,gW,gPa,gA,gC,gWa,gLi,gAl,gB⟩:=hg
 have hl:=Yi x.Scripts
 have hx:=gSc.1
 have hlp:=Yi x.Peers
 have hlw:=Yi x.Watchers
 have hll:=Yi x.Lines
 have c1:=S_LevelOk x.Level gL
 refine Con.of Tryz.func83 J Tryz.ntmps83 J (fun E => ?_)
 refine Wz [21,23,14,2,191] ?_;refine zx (Qj J J (c1) J) J ?_;refine Wz [5,102] ?_;refine zx (Qt.grdF J J J (.hit (.hit .stop)) (fun hgrd=>Qj J J (X0 x.Seed 0 65535) J)) J ?_;refine Wz [104,98] ?_;refine zx (Qt.grdF J J J (.hit (.hit .stop)) (fun hgrd=>Qj J J (X0 x.Delay 0 5) J)) J ?_;refine Wz [104,98] ?_;refine zx (Qt.grdF J J J (.hit (.hit .stop)) (fun hgrd=>Qj J J (X0 x.Clock 0 1000) J)) J ?_;refine Wz [104,98] ?_;refine zx (Qt.grdF J J J (.hit (.hit .stop)) (fun hgrd=>Qj J J (X0 x.Bad 0 1000000) J)) J ?_;refine Wz [104,110,0,109] ?_;refine zx (Qt.grdF J J J (.hit .stop) (fun hgrd=>Qj J J (X0 (els x.Scripts).length 1 4) J)) J ?_;refine Wz [175,98,140,176,162,98,140,215,98,140,224,288,213,289,51] ?_
 refine Xb J (fun h1 => ?_) (fun h1 => ?_)
 ·rw[show matchOk x=false from dF fun hm=>by obtain⟨⟨a,b,c,d,e⟩,⟨f1,f2⟩,_,⟨g,_⟩,_,⟨i,j⟩,_⟩:=hm; rw[a,b,c,d,e,show inR ((els x.Scripts).length:Int) 1 4=true by (rw[Yx]; omega),Gqa Aqa,Gqa Aqa,Gqa Aqa] at h1; exact absurd h1 Aqc]
  refine Wz [39] ?_
  exact Xl J J (X1 [] Aqc J J J)
 simp only[Gql,Gqu,decide_eq_false_iff_not,Classical.not_not,Yx] at h1
 obtain⟨⟨⟨⟨⟨⟨⟨⟨a,b⟩,c⟩,d⟩,e⟩,f⟩,g⟩,h8⟩,h9⟩:=h1
 have hH:HeadP x:=⟨a,Yx.2 b,Yx.2 c,Yx.2 d,Yx.2 e⟩
 refine AWP.pre (st':=(⟨_,[(1,Aqf 0),(3,I (els x.Scripts).length)],[.box (Aqi x)]⟩:St)) ?_ (X3 [0] Aqb)
 refine Wz [15,11] ?_;refine Xh (fun m st=>∃ k:Nat,k+m=x.Scripts.length∧(((x.Scripts.take k).all scriptOk=true∧∀ i,i<k→∀ p,x.Peers[i]? = some p→peerIn x i p=true))∧st=(⟨_,[(1,Aqf 0),(3,I (els x.Scripts).length),(4,I k)],[.box (Aqi x)]⟩:St)) (x.Scripts.length) ⟨_,⟨0,Aqa,⟨Aqd,fun i hi=>absurd hi (Nat.not_lt_zero _)⟩,J⟩,X3 [0] Aqb⟩ ?_
 rintro m_A _ ⟨k,hk_A,hp_A,rfl⟩
 obtain⟨hpa,hpb⟩:=hp_A
 refine Wz [43,38] ?_
 refine Xb J (fun h => ?_) (fun h => ?_)
 ·have h3:k<x.Scripts.length:=by have:=Gqc h; omega
  obtain⟨p,hp⟩:=Kp (xs:=x.Peers) (i:=k) Aqa 
  have hatP:=Yl hp
  have hat:=Yg h3
  have gp:=gP.2 p (Gqm hp)
  have c2:=S_ScriptInput x.Scripts[k] 0 0 (gSc.2 _ (Gqe h3)) ⟨Aqc,Aqc⟩
  have c3:=S_PeerOk p gp
  have c4:=S_sameLevel p.Base.Level x.Level gp.2.2.2.2.2.1.1
  repeat (first | refine Qd ?_ | refine Qh ?_ | refine Qk ?_ | refine Q0 ?_)
  refine Wz [57,19,0,46] ?_;refine AL.weak (st':=(⟨_,[(1,Aqf 0),(3,I (els x.Scripts).length),(4,I k),(75,.o (.ag (Aqi p)))],[.box (Aqi x)]⟩:St)) (X4 [0] Aqc J Aqb (.c J (.c J (.c J (.cons Aqb (.nil)))))) ?_;refine Wz [36,136] ?_;refine AL.weak (st':=(⟨_,[(1,Aqf 0),(3,I (els x.Scripts).length),(4,I k),(5,Aqf 1)],[.box (Aqi x),.box (Aqi p)]⟩:St)) (X4 [0,1] Aqc J ( Aqb) (.c J (.c J (.c J (.c J (.nil)))))) ?_;refine Wz [6,75,80] ?_;refine zx (Qj J J (c2) J) J ?_;refine Wz [153,0,269] ?_;refine zx (Qt.grdF J J J (.hit .stop) (fun hgrd=>Qj J J (c3) J)) J ?_;refine Wz [175,98,166,273,110,168,181,280,224] ?_;refine zx (Qt.grdF J J J (.hit (.hit (.hit (.hit .stop)))) (fun hgrd=>Qu J J J J J J)) J ?_;refine zx (Qt.grdF J J J (.hit (.hit (.hit (.hit (.hit .stop))))) (fun hgrd=>Qj J J (c4) J)) J ?_;refine zx (Qt.grdF J J J (.hit (.hit (.hit (.hit (.hit (.hit .stop)))))) (fun hgrd=>Q4 J J J)) J ?_;refine Wz [98,236,255,162,98,236,255,162,98,140,176,162,51] ?_
  refine Xb J (fun h4 => ?_) (fun h4 => ?_)
  ·rw[show matchOk x=false from dF fun hm=>pinS_no hl h4 ⟨by have:=Gqn.1 hm.2.2.1 _ (Gqe h3); exact this,hm.2.2.2.1.2 k p hp⟩]
   refine Wz [54] ?_
   exact Xl J J (X1 [] Aqc J J J)
  have h4:=pinS_yes hl h4
  refine AWP.pre (st':=(⟨_,[(1,Aqf 0),(3,I (els x.Scripts).length),(4,I k)],[.box (Aqi x)]⟩:St)) ?_ (X3 [0] Aqb)
  refine Wz [62] ?_
  exact⟨x.Scripts.length-(k+1),Aqa,_,⟨k+1,Aqa,⟨X8 hpa h3 h4.1,Kt hpb fun p' hp'=>by rw[hp] at hp'; cases hp'; exact h4.2⟩,J⟩,X3 [0] Aqb⟩
 have h3:¬k<x.Scripts.length:=by have:=Gqd h; omega
 have hA:=X7 hpa Aqa 
 have hP:PeersP x:=⟨Aqa,fun i p hi=>hpb i (by have:=(Gqo.1 hi).1; omega) p hi⟩
 refine AWP.pre (st':=(⟨_,[(1,Aqf 0),(3,I (els x.Scripts).length)],[.box (Aqi x)]⟩:St)) ?_ (X3 [0] Aqb)
 refine Wz [20,11] ?_;refine Xh (fun m st=>∃ q:Nat,q+m=x.Watchers.length∧((∀ i,i<q→∀ s l,x.Watchers[i]? = some s→x.Lines[i]? = some l→watcherIn x s l=true))∧st=(⟨_,[(1,Aqf 0),(3,I (els x.Scripts).length),(6,I q)],[.box (Aqi x)]⟩:St)) (x.Watchers.length) ⟨_,⟨0,Aqa,fun i hi=>absurd hi (Nat.not_lt_zero _),J⟩,X3 [0] Aqb⟩ ?_
 rintro m_D _ ⟨q,hk_D,hp_D,rfl⟩
 refine Wz [56,89,38] ?_
 refine Xb J (fun h => ?_) (fun h => ?_)
 ·have h5:q<x.Watchers.length:=by have:=Gqc h; omega
  obtain⟨s,hs⟩:=Kp (xs:=x.Watchers) (i:=q) Aqa 
  obtain⟨l,hl2⟩:=Kp (xs:=x.Lines) (i:=q) Aqa 
  have hat:=Yl hs
  have hatL:=Yl hl2
  have gs:=gWa.2 s (Gqm hs)
  have c2:=S_WireOk l (gLi.2 l (Gqm hl2))
  have c3:=S_WorldOk s.World gs.1
  have c4:=S_sameLevel s.World.Level x.Level gs.1.1
  refine Wz [7,75,130,300,36,48,75,46] ?_;refine zx (Qj J J (c2) J) J ?_;refine Wz [5,0,269] ?_;refine zx (Qt.grdF J J J (.hit .stop) (fun hgrd=>Qj J J (c3) J)) J ?_;refine Wz [175,110,168,212,236] ?_;refine zx (Qt.grdF J J J (.hit (.hit (.hit .stop))) (fun hgrd=>Qu J J J J J J)) J ?_;refine zx (Qt.grdF J J J (.hit (.hit (.hit (.hit .stop)))) (fun hgrd=>Qj J J (c4) J)) J ?_;refine zx (Qt.grdF J J J (.hit (.hit (.hit (.hit (.hit .stop))))) (fun hgrd=>Q4 J J J)) J ?_;refine Wz [98,140,176,162,51] ?_
  refine Xb J (fun h4 => ?_) (fun h4 => ?_)
  ·rw[show matchOk x=false from dF fun hm=>winS_no hl h4 (hm.2.2.2.2.2.2 q s l hs hl2)]
   refine Wz [54] ?_
   exact Xl J J (X1 [] Aqc J J J)
  refine AWP.pre (st':=(⟨_,[(1,Aqf 0),(3,I (els x.Scripts).length),(6,I q)],[.box (Aqi x)]⟩:St)) ?_ (X3 [0] Aqb)
  refine Wz [62] ?_
  exact⟨x.Watchers.length-(q+1),Aqa,_,⟨q+1,Aqa,Kt hp_D fun s' l' hs' hl'=>by rw[hs] at hs'; rw[hl2] at hl'; cases hs'; cases hl'; exact winS_yes hl h4,J⟩,X3 [0] Aqb⟩
 have h5:¬q<x.Watchers.length:=by have:=Gqd h; omega
 have hW:WatchersP x:=⟨⟨Aqa,Aqa⟩,fun i s l hi hl=>hp_D i (by have:=(Gqo.1 hi).1; omega) s l hi hl⟩
 have cl:=S_square x hg0 hP
 rw[show x.Peers.length=(els x.Scripts).length by omega,match_S hH Aqa hA hP hW] at cl
 refine AWP.pre (st':=(⟨_,[(1,Aqf 0),(3,I (els x.Scripts).length)],[.box (Aqi x)]⟩:St)) ?_ (X3 [0] Aqb)
 refine Wz [20,90,0] ?_;refine zx (Qj J J (cl) J) J ?_;refine Wz [53] ?_
 exact Xl J J (X1 [] Aqc J J J)
end
end Go.Proofs.YtfklmiijhcajdaaGreat
