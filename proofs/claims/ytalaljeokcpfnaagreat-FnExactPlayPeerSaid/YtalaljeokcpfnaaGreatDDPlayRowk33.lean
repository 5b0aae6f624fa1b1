/-
  Rules, data and contracts of functions: part 34 of the proof.
  Conditions: those that each theorem names.
-/
import Derived.Test.YtalaljeokcpfnaaGreatDDPlayRowk32
set_option linter.unusedSimpArgs false
set_option linter.unusedVariables false
set_option maxRecDepth 8000
set_option maxHeartbeats 8000000
namespace Go.Proofs.YtalaljeokcpfnaaGreat
section
open Tryz
open Go.RowKit

section
variable {m:TMatch} {k:Nat} {p:TPeer}
theorem pin_spec (h:peerIn m k p=true):(peerOk p=true∧p.Me=(k:Int)∧(p.Tracks.length:Int)=(m.Scripts.length:Int))∧p.Base.Level=m.Level∧p.Seed=m.Seed∧p.Delay=m.Delay:=by
 simp only[peerIn,Gqh,decide_eq_true_eq] at h
 exact⟨⟨h.1.1.1,h.1.1.2,h.1.2⟩,h.2.1.1,h.2.1.2,h.2.2⟩
theorem pin_no1 (h:((!peerOk p || decide (p.Me≠(k:Int))) || decide (((els p.Tracks).length:Int)≠((els m.Scripts).length:Int)))=true):¬peerIn m k p=true:=fun hp=>by
 obtain⟨⟨a,b,c⟩,_⟩:=pin_spec hp
 rw[a,Gqa (fun q=>q b),Y7,Y7,Gqa (fun q=>q c)] at h
 exact absurd h Aqc 
theorem pin_no2 (h:((!decide (p.Base.Level=m.Level) || decide (p.Seed≠m.Seed)) || decide (p.Delay≠m.Delay))=true):¬peerIn m k p=true:=fun hp=>by
 obtain⟨_,a,b,c⟩:=pin_spec hp
 rw[Gqb a,Gqa (fun q=>q b),Gqa (fun q=>q c)] at h
 exact absurd h Aqc 
theorem pin_yes (h:((!peerOk p || decide (p.Me≠(k:Int))) || decide (((els p.Tracks).length:Int)≠((els m.Scripts).length:Int)))=false) (h2:((!decide (p.Base.Level=m.Level) || decide (p.Seed≠m.Seed)) || decide (p.Delay≠m.Delay))=false):peerIn m k p=true:=by
 simp only[Gqm,Gq0,decide_eq_false_iff_not,Classical.not_not,decide_eq_true_eq,Y7] at h h2
 simp only[peerIn,Gqh,decide_eq_true_eq]
 exact⟨⟨⟨h.1.1,h.1.2⟩,h.2⟩,⟨h2.1.1,h2.1.2⟩,h2.2⟩
theorem Ug {Q:Nat→Prop} (h:∀ i,i<k→Q i) (hk:Q k):∀ i,i<k+1→Q i:=fun i hi=>by
 by_cases e:i=k
 ·subst e; exact hk
 ·exact h i Aqa 
end
theorem I_peersOk (x:TMatch) (hg:Enc.gd x):Co 96 [] [ag x] [] (B (peersM x)):=by
 obtain⟨gL,gS,gD,gSc,gP,gW,gPa,gA,gC,gWa,gLi,gAl,gB⟩:=hg
 have hlp:=Y7 x.Peers
 have hx:=gP.1
 have hls:=Y7 x.Scripts
 refine Con.o func96 ntmps96 fun E=>?_;refine Wz [43,16,109,105,150,1] ?_
 refine Xb J (fun h1=>?_) (fun h1=>?_)
 ·have h1:=Gqc h1
  rw[show peersM x=false from dF fun hp=>h1 (by rw[hlp,hls,hp.1])]
  refine Wz [69] ?_
  exact Bzh
 have h1:x.Peers.length=x.Scripts.length:=by have:=Gqd h1; omega
 refine AWP.kp [1,1] [] 1 [(0,.box (Aqi x))] ?_;refine Wz [108,109,138,34] ?_;refine A_lp x.Peers.length (fun k=>∀ i,i<k→∀ p,x.Peers[i]? = some p→peerIn x i p=true) (fun k => [(1,Aqf 0),(13,L x.Peers),(14,I (els x.Peers).length),(15,I k)]) (fun k => [.box (Aqi x)]) (fun i hi=>absurd hi (Nat.not_lt_zero _)) (Yj [0] Aqb) ?_
 intro m_A k hk_A hp_A
 refine Wz [3,58,4] ?_
 refine Xb J (fun h=>?_) (fun h=>?_)
 ·have h3:k<x.Peers.length:=Bqx
  have hat:=Y4 h3
  have hq:=Gqg h3
  have gp:=gP.2 _ (Gqe h3)
  generalize x.Peers[k]=p at hat hq gp
  have c1:=I_PeerOk p gp
  have c2:=I_sameLevel p.Base.Level x.Level gp.2.2.2.2.2.1.1
  repeat (first | refine Qd ?_ | refine Qh ?_ | refine Qk ?_ | refine Q0 ?_)
  refine Wz [27,78] ?_;refine AL.weak (st':=(⟨_,[(1,Aqf 0),(13,L x.Peers),(14,I (els x.Peers).length),(15,I k),(17,I k),(19,.o (.ag (Aqi p)))],[.box (Aqi x)]⟩:St)) (Yk [0] Aqc J Aqb (.c J (.c J (.c J (.c J (.c J (.cons Aqb (.nil)))))))) ?_;refine Wz [82,26,47] ?_;refine AL.kp [1,1,13,0,14,0,15,0,3,0,4,2] [] 2 [(0,.box (Aqi x)),(1,.box (Aqi p))] ?_;refine Wz [1,4,7] ?_;refine kc0 c1 ?_;refine Wz [6,60,208] ?_;refine zx (Qt.grdF J J J (.hit (.hit (.hit .stop))) (fun hgrd=>Vk J J J J)) J ?_;refine Wz [54,60,179,300] ?_;refine zx (Qt.grdF J J J (.hit (.hit (.hit (.hit .stop)))) (fun hgrd=>Qg J J J J J)) J ?_;refine zx (Qt.grdF J J J (.hit (.hit (.hit (.hit (.hit .stop))))) (fun hgrd=>Vb J J J)) J ?_;refine zx (Qt.grdF J J J (.hit (.hit (.hit (.hit (.hit (.hit .stop)))))) (fun hgrd=>Vk J J J J)) J ?_;refine Wz [75] ?_
  refine Xb J (fun h4=>?_) (fun h4=>?_)
  ·rw[show peersM x=false from dF fun hp=>pin_no1 h4 (hp.2 k p hq)]
   refine Wz [45,93,161,89] ?_
   exact Bzh
  refine AWP.kp [1,1,13,0,14,0,15,0,3,0,4,2] [] 2 [(0,.box (Aqi x)),(1,.box (Aqi p))] ?_;refine Wz [42,3,79,154,154] ?_;refine kc0 c2 ?_;refine Wz [6,60,293] ?_;refine zx (Qt.grdF J J J (.hit (.hit (.hit .stop))) (fun hgrd=>Qg J J J J J)) J ?_;refine Wz [202,54,60,293] ?_;refine zx (Qt.grdF J J J (.hit (.hit (.hit .stop))) (fun hgrd=>Qg J J J J J)) J ?_;refine Wz [202,75] ?_
  refine Xb J (fun h5=>?_) (fun h5=>?_)
  ·rw[show peersM x=false from dF fun hp=>pin_no2 h5 (hp.2 k p hq)]
   refine Wz [45,57] ?_
   exact Bzh
  refine AWP.kp [1,1,13,0,14,0,15,0] [] 1 [(0,.box (Aqi x))] ?_;refine Wz [149,104] ?_
  exact .n (k+1) (Ug hp_A fun p' hp'=>by rw[hq] at hp'; cases hp'; exact pin_yes h4 h5) (Yj [0] Aqb)
 have h3:¬k<x.Peers.length:=Bq5
 rw[show peersM x=true from dT ⟨h1,fun i p hi=>hp_A i Bx5 p hi⟩]
 refine Wz [30,101] ?_
 exact Bzh
theorem Zc {α:Type} [Enc α] {xs:List α} {i:Nat} {x:α} (h:xs[i]? = some x):(els xs)[(i:Int).toNat]? = some (Enc.e x):=by simp[els,h]
theorem lenAt_some {l:List TTrack} {k:Nat} {t:TTrack} (h:l[k]? = some t):lenAt l k=t.Inputs.length:=by simp[lenAt,Gqf,h]
theorem V9 {α:Type} {xs:List α} {i:Nat} (h:i<xs.length):∃ x,xs[i]? = some x:=⟨_,Gqg h⟩
section
variable {m:TMatch} {i j:Nat} {ws:List TWire} {qs:List TPace} {ks:List Int} {p:TPeer} {w:TWire} {q:TPace} {a:Int} {tr:TTrack} (hws:m.Wires[i]? = some ws) (hqs:m.Paces[i]? = some qs) (hks:m.Acks[i]? = some ks)
include hws hqs hks
theorem link_len (h1:ws.length=m.Peers.length) (h2:qs.length=m.Peers.length) (h3:ks.length=m.Peers.length):LinkLen m i:=fun ws' qs' ks' e1 e2 e3=>by
 rw[hws] at e1; rw[hqs] at e2; rw[hks] at e3
 cases e1; cases e2; cases e3
 exact⟨h1,h2,h3⟩
variable (hp:m.Peers[i]? = some p) (hw:ws[j]? = some w) (hq:qs[j]? = some q) (ha:ks[j]? = some a) (ht:p.Tracks[i]? = some tr)
include hp hw hq ha ht
theorem link_spec (h:LinkAt m i j):wireOk w=true∧paceOk q=true∧inR a 0 (els tr.Inputs).length=true:=by
 have h:=h ws qs ks p w q a hws hqs hks hp hw hq ha
 rwa[lenAt_some ht,←Y7 tr.Inputs] at h
theorem link_yes (h1:(!wireOk w || !paceOk q)=false) (h2:inR a 0 (els tr.Inputs).length=true):LinkAt m i j:=fun ws' qs' ks' p' w' q' a' e1 e2 e3 e4 e5 e6 e7=>by
 rw[hws] at e1; rw[hqs] at e2; rw[hks] at e3; rw[hp] at e4
 cases e1; cases e2; cases e3; cases e4
 rw[hw] at e5; rw[hq] at e6; rw[ha] at e7
 cases e5; cases e6; cases e7
 simp only[Gqm,Gq0] at h1
 rw[Y7] at h2
 exact⟨h1.1,h1.2,by rw[lenAt_some ht]; exact h2⟩
end
theorem I_linksOk (x:TMatch) (hg:Enc.gd x) (hP:PeersP x):Co 97 [] [ag x] [] (B (linksM x)):=by
 obtain⟨gL,gS,gD,gSc,gP,gW,gPa,gA,gC,gWa,gLi,gAl,gB⟩:=hg
 have hlp:=Y7 x.Peers
 have hx:=gP.1
 have hlw:=Y7 x.Wires
 have hlq:=Y7 x.Paces
 have hla:=Y7 x.Acks
 refine Con.o func97 ntmps97 fun E=>?_;refine Wz [96,109,16,109,0,150,60,179,218,202,54,60,179,218,202,75] ?_
 refine Xb J (fun h1=>?_) (fun h1=>?_)
 ·simp only[Gqq,decide_eq_true_eq] at h1
  rw[show linksM x=false from dF fun hp=>by obtain⟨⟨a,b,c⟩,_⟩:=hp; omega]
  refine Wz [69] ?_
  exact Bzh
 simp only[Gqm,decide_eq_false_iff_not,Classical.not_not] at h1
 obtain⟨⟨l1,l2⟩,l3⟩:=h1
 refine AWP.kp [1,1,3,0] [] 1 [(0,.box (Aqi x))] ?_;refine Wz [108,51] ?_;refine A_lp x.Peers.length (fun i=>∀ i',i'<i→LinkLen x i'∧∀ j',j'<x.Peers.length→LinkAt x i' j') (fun i => [(1,Aqf 0),(3,I (els x.Peers).length),(4,I i)]) (fun i => [.box (Aqi x)]) (fun i hi=>absurd hi (Nat.not_lt_zero _)) (Yj [0] Aqb) ?_
 intro m_A i hk_A hp_A
 refine Wz [15,58] ?_
 refine Xb J (fun h=>?_) (fun h=>?_)
 ·have h3:i<x.Peers.length:=Bqx
  obtain⟨ws,hws⟩:=V9 (xs:=x.Wires) (i:=i) Aqa 
  obtain⟨qs,hqs⟩:=V9 (xs:=x.Paces) (i:=i) Aqa 
  obtain⟨ks,hks⟩:=V9 (xs:=x.Acks) (i:=i) Aqa 
  obtain⟨p,hp⟩:=V9 (xs:=x.Peers) (i:=i) Aqa 
  have h4:=(pin_spec (hP.2 i p hp)).1.2.2
  have h5:=hP.1
  obtain⟨tr,ht⟩:=V9 (xs:=p.Tracks) (i:=i) Aqa 
  have gws:=gW.2 ws (Gqn hws)
  have hatW:=Zc hws
  have hatQ:=Zc hqs
  have hatK:=Zc hks
  have hatP:=Zc hp
  have hatT:=Zc ht
  have hl1:=Y7 ws
  have hl2:=Y7 qs
  have hl3:=Y7 ks
  refine Wz [9,4,65,100,25,0,150,60,208,276,294,299] ?_;refine zx (Qt.grdF J J J (.hit (.hit (.hit (.hit (.hit (.hit .stop)))))) (fun hgrd=>Qa J J J)) J ?_;refine Wz [295,54,60,208,276,294,299] ?_;refine zx (Qt.grdF J J J (.hit (.hit (.hit (.hit (.hit (.hit .stop)))))) (fun hgrd=>Qa J J J)) J ?_;refine Wz [295,75] ?_
  refine Xb J (fun h6=>?_) (fun h6=>?_)
  ·simp only[Gqq,decide_eq_true_eq] at h6
   rw[show linksM x=false from dF fun hp=>by obtain⟨a,b,c⟩:=(hp.2 i h3).1 ws qs ks hws hqs hks; omega]
   refine Wz [45,93,161,89] ?_
   exact Bzh
  simp only[Gqm,decide_eq_false_iff_not,Classical.not_not] at h6
  obtain⟨⟨l4,l5⟩,l6⟩:=h6
  refine AWP.kp [1,1,3,0,4,0] [] 1 [(0,.box (Aqi x))] ?_;refine Wz [42,51] ?_;refine A_lp x.Peers.length (fun j=>∀ j',j'<j→LinkAt x i j') (fun j => [(1,Aqf 0),(3,I (els x.Peers).length),(4,I i),(5,I j)]) (fun j => [.box (Aqi x)]) (fun i hi=>absurd hi (Nat.not_lt_zero _)) (Yj [0] Aqb) ?_
  intro m_D j hk_D hp_D
  refine Wz [15,58] ?_
  refine Xb J (fun h=>?_) (fun h=>?_)
  ·have h7:j<x.Peers.length:=Bqx
   obtain⟨w,hw⟩:=V9 (xs:=ws) (i:=j) Aqa 
   obtain⟨q,hq⟩:=V9 (xs:=qs) (i:=j) Aqa 
   obtain⟨a,ha⟩:=V9 (xs:=ks) (i:=j) Aqa 
   have hatw:=Zc hw
   have hatq:=Zc hq
   have hata:=Zc ha
   have c1:=I_WireOk w (gws.2 w (Gqn hw))
   have c2:=I_PaceOk q
   refine Wz [9,4,65,158,48,78] ?_;refine kc0 c1 ?_;refine Wz [6,60,208,276,294] ?_;refine zx (Qt.grdF J J J (.hit (.hit (.hit (.hit (.hit .stop))))) (fun hgrd=>Qa J J J)) J ?_;refine zx (Qt.grdF J J J (.hit (.hit (.hit (.hit (.hit (.hit .stop)))))) (fun hgrd=>Q2 J J J J Aqa Aqe  J)) J ?_;refine zx (Qt.grdF J J J (.hit (.hit (.hit (.hit (.hit (.hit (.hit .stop))))))) (fun hgrd=>Vg J J J J J)) J ?_;refine zx (Qt.grdF J J J (.hit (.hit (.hit (.hit (.hit (.hit (.hit (.hit .stop)))))))) (fun hgrd=>Qj J J (c2) J)) J ?_;refine zx (Qt.grdF J J J (.hit (.hit (.hit (.hit (.hit (.hit (.hit (.hit (.hit .stop))))))))) (fun hgrd=>Q4 J J J)) J ?_;refine Wz [75] ?_
   refine Xb J (fun h8=>?_) (fun h8=>?_)
   ·rw[show linksM x=false from dF fun hl=>by obtain⟨b,c,_⟩:=link_spec hws hqs hks hp hw hq ha ht ((hl.2 i h3).2 j h7); rw[b,c] at h8; exact absurd h8 Aqc]
    refine Wz [45,93,161,57] ?_
    exact Bzh
   refine AWP.kp [1,1,3,0,4,0,5,0] [] 1 [(0,.box (Aqi x))] ?_
   have c3:=Xy a 0 (els tr.Inputs).length
   cases hr:inR a 0 (els tr.Inputs).length with
   |false =>
    rw[hr] at c3
    rw[show linksM x=false from dF fun hl=>by obtain⟨_,_,b⟩:=link_spec hws hqs hks hp hw hq ha ht ((hl.2 i h3).2 j h7); rw[hr] at b; cases b]
    refine Wz [108] ?_;refine Xi u8_69 u8_70 u8_71 J ?_;refine Wz [67,64,17,64,67,132,192,201,17,132,192,201,296] ?_;refine Uq (Qj J J (c3) J) J ?_;refine Wz [142,12,32,45,215,57] ?_
    exact Bzh
   |true =>
    rw[hr] at c3
    refine Wz [108] ?_;refine Xi u8_69 u8_70 u8_71 J ?_;refine Wz [67,64,17,64,67,132,192,201,17,132,192,201,296] ?_;refine Uq (Qj J J (c3) J) J ?_;refine Wz [142,12,81] ?_
    exact .n (j+1) (Ug hp_D (link_yes hws hqs hks hp hw hq ha ht h8 hr)) (Yj [0] Aqb)
  have h7:¬j<x.Peers.length:=Bq5
  refine Wz [180,181,226] ?_
  exact Bjp
 have h3:¬i<x.Peers.length:=Bq5
 rw[show linksM x=true from dT ⟨⟨Aqa,Aqa,Aqa⟩,fun i' hi=>hp_A i' Aqa⟩]
 refine Wz [30,101] ?_
 exact Bzh
section
variable {m:TMatch} {s:TSpectator} {l:TWire}
theorem win_spec (h:watcherIn m s l=true):(wireOk l=true∧worldOk s.World=true)∧s.World.Level=m.Level∧(s.World.Scores.length:Int)=(m.Scripts.length:Int):=by
 simp only[watcherIn,Gqh,decide_eq_true_eq] at h
 exact h
theorem win_no1 (h:(!wireOk l || !worldOk s.World)=true):¬watcherIn m s l=true:=fun hp=>by
 obtain⟨⟨a,b⟩,_⟩:=win_spec hp
 rw[a,b] at h
 exact absurd h Aqc 
theorem win_no2 (h:(!decide (s.World.Level=m.Level) || decide (((els s.World.Scores).length:Int)≠((els m.Scripts).length:Int)))=true):¬watcherIn m s l=true:=fun hp=>by
 obtain⟨_,a,b⟩:=win_spec hp
 rw[Gqb a,Y7,Y7,Gqa (fun q=>q b)] at h
 exact absurd h Aqc 
theorem win_yes (h:(!wireOk l || !worldOk s.World)=false) (h2:(!decide (s.World.Level=m.Level) || decide (((els s.World.Scores).length:Int)≠((els m.Scripts).length:Int)))=false):watcherIn m s l=true:=by
 simp only[Gqm,Gq0,decide_eq_false_iff_not,Classical.not_not,decide_eq_true_eq,Y7] at h h2
 simp only[watcherIn,Gqh,decide_eq_true_eq]
 exact⟨h,h2⟩
end
theorem I_watchersOk (x:TMatch) (hg:Enc.gd x):Co 98 [] [ag x] [] (B (watchersM x)):=by
 obtain⟨gL,gS,gD,gSc,gP,gW,gPa,gA,gC,gWa,gLi,gAl,gB⟩:=hg
 have hlp:=Y7 x.Watchers
 have hll:=Y7 x.Lines
 have hx:=gWa.1
 refine Con.o func98 ntmps98 fun E=>?_;refine Wz [43,16,109,222,60,179,300] ?_;refine zx (Qt.grdF J J J (.hit (.hit (.hit (.hit .stop)))) (fun hgrd=>Qg J J J J J)) J ?_;refine zx (Qt.grdF J J J (.hit (.hit (.hit (.hit (.hit .stop))))) (fun hgrd=>Vb J J J)) J ?_;refine zx (Qt.grdF J J J (.hit (.hit (.hit (.hit (.hit (.hit .stop)))))) (fun hgrd=>Vk J J J J)) J ?_;refine Wz [75] ?_
 refine Xb J (fun h1=>?_) (fun h1=>?_)
 ·simp only[Gqq,decide_eq_true_eq] at h1
  rw[show watchersM x=false from dF fun hp=>by obtain⟨⟨a,b⟩,_⟩:=hp; omega]
  refine Wz [69] ?_
  exact Bzh
 simp only[Gqm,decide_eq_false_iff_not,Classical.not_not] at h1
 obtain⟨l1,l2⟩:=h1
 refine AWP.kp [1,1] [] 1 [(0,.box (Aqi x))] ?_;refine Wz [108,109,138,34] ?_;refine A_lp x.Watchers.length (fun k=>∀ i,i<k→∀ s l,x.Watchers[i]? = some s→x.Lines[i]? = some l→watcherIn x s l=true) (fun k => [(1,Aqf 0),(19,L x.Watchers),(20,I (els x.Watchers).length),(21,I k)]) (fun k => [.box (Aqi x)]) (fun i hi=>absurd hi (Nat.not_lt_zero _)) (Yj [0] Aqb) ?_
 intro m_A k hk_A hp_A
 refine Wz [3,58,4] ?_
 refine Xb J (fun h=>?_) (fun h=>?_)
 ·have h3:k<x.Watchers.length:=Bqx
  obtain⟨s,hs⟩:=V9 (xs:=x.Watchers) (i:=k) Aqa 
  obtain⟨l,hl⟩:=V9 (xs:=x.Lines) (i:=k) Aqa 
  have hat:=Zc hs
  have hatL:=Zc hl
  have gs:=gWa.2 s (Gqn hs)
  have c1:=I_WireOk l (gLi.2 l (Gqn hl))
  have c2:=Xx s.World gs.1
  have c3:=I_sameLevel s.World.Level x.Level gs.1.1
  refine Wz [9,11,78,82,26,39,4,65,78] ?_;refine kc0 c1 ?_;refine Wz [6,211,255] ?_;refine zx (Qt.grdF J J J (.hit (.hit .stop)) (fun hgrd=>Qj J J (c2) J)) J ?_;refine Wz [140,75] ?_
  refine Xb J (fun h4=>?_) (fun h4=>?_)
  ·rw[show watchersM x=false from dF fun hp=>win_no1 h4 (hp.2 k s l hs hl)]
   refine Wz [45,93,161,89] ?_
   exact Bzh
  refine AWP.kp [1,1,19,0,20,0,21,0,4,2] [] 2 [(0,.box (Aqi x)),(1,.box (Aqi s))] ?_;refine Wz [42,3,79,154,154] ?_;refine kc0 c3 ?_;refine Wz [6,211,195,217,241] ?_;refine zx (Qt.grdF J J J (.hit (.hit (.hit (.hit .stop)))) (fun hgrd=>Qf J J J J Aqc)) J ?_;refine zx (Qt.grdF J J J (.hit (.hit (.hit (.hit (.hit .stop))))) (fun hgrd=>Qg J J J J J)) J ?_;refine zx (Qt.grdF J J J (.hit (.hit (.hit (.hit (.hit (.hit .stop)))))) (fun hgrd=>Vb J J J)) J ?_;refine Wz [295,75] ?_
  refine Xb J (fun h5=>?_) (fun h5=>?_)
  ·rw[show watchersM x=false from dF fun hp=>win_no2 h5 (hp.2 k s l hs hl)]
   refine Wz [45,57] ?_
   exact Bzh
  refine AWP.kp [1,1,19,0,20,0,21,0] [] 1 [(0,.box (Aqi x))] ?_;refine Wz [149,104] ?_
  exact .n (k+1) (Ug hp_A fun s' l' hs' hl'=>by rw[hs] at hs'; rw[hl] at hl'; cases hs'; cases hl'; exact win_yes h4 h5) (Yj [0] Aqb)
 have h3:¬k<x.Watchers.length:=Bq5
 rw[show watchersM x=true from dT ⟨⟨Aqa,Aqa⟩,fun i s l hi hl=>hp_A i Bx5 s l hi hl⟩]
 refine Wz [30,101] ?_
 exact Bzh
end
section
open Tryz
open Go.RowKit

section
variable {m:TMatch}
theorem match_I (hH:HeadP m) (hS:1≤m.Scripts.length∧m.Scripts.length≤4) (hA:m.Scripts.all scriptOk=true) (hP:PeersP m):(linksM m&&watchersM m)=matchOk m:=by
 by_cases hl:LinksP m
 ·by_cases hw:WatchersP m
  ·rw[show linksM m=true from dT hl,show watchersM m=true from dT hw,show matchOk m=true from dT ⟨hH,hS,hA,hP,hl,hw⟩]; rfl
  ·rw[show watchersM m=false from dF hw,show matchOk m=false from dF fun ⟨_,_,_,_,_,q⟩=>hw q,Gxk]
 ·rw[show linksM m=false from dF hl,show matchOk m=false from dF fun ⟨_,_,_,_,q,_⟩=>hl q,Bool.false_and]
end
theorem I_MatchOk (x:TMatch) (hg:Enc.gd x):Co 32 [] [ag x] [] (B (matchOk x)):=by
 have hg0:=hg
 obtain⟨gL,gS,gD,gSc,gP,gW,gPa,gA,gC,gWa,gLi,gAl,gB⟩:=hg
 have hl:=Y7 x.Scripts
 have hx:=gSc.1
 have c1:=Xv x.Level gL
 refine Con.o func32 ntmps32 fun E=>?_;refine Wz [43,16,56] ?_;refine kc0 c1 ?_;refine Wz [6,60] ?_;refine zx (Qt.grdF J J J (.hit (.hit .stop)) (fun hgrd=>Qj J J (Xy x.Seed 0 65535) J)) J ?_;refine Wz [140,54,60] ?_;refine zx (Qt.grdF J J J (.hit (.hit .stop)) (fun hgrd=>Qj J J (Xy x.Delay 0 5) J)) J ?_;refine Wz [140,75] ?_
 refine Xb J (fun h1=>?_) (fun h1=>?_)
 ·rw[show matchOk x=false from dF fun hm=>by obtain⟨⟨a,b,c,_⟩,_⟩:=hm; rw[a,b,c] at h1; exact absurd h1 Aqc]
  refine Wz [69] ?_
  exact Bzh
 refine AWP.kp [1,1] [] 1 [(0,.box (Aqi x))] ?_;refine Wz [108,18] ?_;refine kc0 (Xy x.Clock 0 1000) ?_;refine Wz [6,60] ?_;refine zx (Qt.grdF J J J (.hit (.hit .stop)) (fun hgrd=>Qj J J (Xy x.Bad 0 1000000) J)) J ?_;refine Wz [140,75] ?_
 refine Xb J (fun h2=>?_) (fun h2=>?_)
 ·rw[show matchOk x=false from dF fun hm=>by obtain⟨⟨_,_,_,a,b⟩,_⟩:=hm; rw[a,b] at h2; exact absurd h2 Aqc]
  refine Wz [69] ?_
  exact Bzh
 refine AWP.kp [1,1] [] 1 [(0,.box (Aqi x))] ?_
 simp only[Gqm,Gq0] at h1 h2
 have hH:HeadP x:=⟨h1.1.1,h1.1.2,h1.2,h2.1,h2.2⟩
 refine Wz [108,109,160,60,179,280,75] ?_
 refine Xb J (fun h3=>?_) (fun h3=>?_)
 ·simp only[Gqq,decide_eq_true_eq] at h3
  rw[show matchOk x=false from dF fun hm=>by obtain⟨_,⟨a,b⟩,_⟩:=hm; omega]
  refine Wz [69] ?_
  exact Bzh
 simp only[Gqm,decide_eq_false_iff_not] at h3
 refine AWP.kp [1,1] [] 1 [(0,.box (Aqi x))] ?_;refine Wz [108,109,138,34] ?_;refine A_lp x.Scripts.length (fun k=>(x.Scripts.take k).all scriptOk=true) (fun k => [(1,Aqf 0),(42,L x.Scripts),(43,I (els x.Scripts).length),(44,I k)]) (fun k => [.box (Aqi x)]) Aqd (Yj [0] Aqb) ?_
 intro m_A k hk_A hp_A
 refine Wz [3,58,4] ?_
 refine Xb J (fun h=>?_) (fun h=>?_)
 ·have h5:k<x.Scripts.length:=Bqx
  have hat:=Y4 h5
  have hc:=I_scriptOk x.Scripts[k] (gSc.2 _ (Gqe h5))
  cases ho:scriptOk x.Scripts[k] with
  |false =>
   rw[ho] at hc
   rw[show matchOk x=false from dF fun hm=>by have:=hm.2.2.1; rw[Yp h5 ho] at this; cases this]
   refine Wz [9,3,100,44] ?_;refine kc0 hc ?_;refine Wz [6,32,45,57] ?_
   exact Bzh
  |true =>
   rw[ho] at hc
   refine Wz [9,3,100,44] ?_;refine kc0 hc ?_;refine Wz [6,151,104] ?_
   exact .n (k+1) (Yo hp_A h5 ho) (Yj [0] Aqb)
 have h5:¬k<x.Scripts.length:=Bq5
 have hA:=Yn hp_A Aqa 
 have cp:=I_peersOk x hg0
 have cw:=I_watchersOk x hg0
 refine AWP.kp [1,1] [] 1 [(0,.box (Aqi x))] ?_
 by_cases hP:PeersP x
 ·have cl:=I_linksOk x hg0 hP
  rw[show peersM x=true from dT hP] at cp
  rw[←match_I hH Aqa hA hP]
  refine Wz [30,7] ?_;refine kc0 cp ?_;refine Wz [21,85,2] ?_;refine kc0 cl ?_;refine Wz [46,0] ?_;refine zx (Qt.grdT J J J .stop (fun hgrd=>Qu J J J J J J)) J ?_;refine zx (Qt.grdT J J J (.hit .stop) (fun hgrd=>Qj J J (cw) J)) J ?_;refine Wz [66,36] ?_
  exact Bzh
 ·rw[show peersM x=false from dF hP] at cp
  rw[show matchOk x=false from dF fun hm=>hP hm.2.2.2.1]
  refine Wz [30,7] ?_;refine kc0 cp ?_;refine Wz [0,87,5,0,87,5,36] ?_
  exact Bzh
end
section
open Tryz
open Go.RowKit

theorem S_square (x:TMatch) (hg:Enc.gd x) (hP:PeersP x):Co 75 [] [ag x,ai x.Peers.length] [] (B (linksM x)):=by
 obtain⟨gL,gS,gD,gSc,gP,gW,gPa,gA,gC,gWa,gLi,gAl,gB⟩:=hg
 have hx:=gP.1
 have hlw:=Y7 x.Wires
 have hlq:=Y7 x.Paces
 have hla:=Y7 x.Acks
 refine Con.o func75 ntmps75 fun E=>?_;refine Wz [43,16,109,0,150,60,179,218,202,54,60,179,218,202,75] ?_
 refine Xb J (fun h1=>?_) (fun h1=>?_)
 ·simp only[Gqq,decide_eq_true_eq] at h1
  rw[show linksM x=false from dF fun hp=>by obtain⟨⟨a,b,c⟩,_⟩:=hp; omega]
  refine Wz [69] ?_
  exact Bzh
 simp only[Gqm,decide_eq_false_iff_not,Classical.not_not] at h1
 obtain⟨⟨l1,l2⟩,l3⟩:=h1
 refine AWP.kp [2,1,1,0] [] 1 [(0,.box (Aqi x))] ?_;refine Wz [108,51] ?_;refine A_lp x.Peers.length (fun i=>∀ i',i'<i→LinkLen x i'∧∀ j',j'<x.Peers.length→LinkAt x i' j') (fun i => [(2,Aqf 0),(1,I x.Peers.length),(5,I i)]) (fun i => [.box (Aqi x)]) (fun i hi=>absurd hi (Nat.not_lt_zero _)) (Yj [0] Aqb) ?_
 intro m_A i hk_A hp_A
 refine Wz [15,58] ?_
 refine Xb J (fun h=>?_) (fun h=>?_)
 ·have h3:i<x.Peers.length:=Bqx
  obtain⟨ws,hws⟩:=V9 (xs:=x.Wires) (i:=i) Aqa 
  obtain⟨qs,hqs⟩:=V9 (xs:=x.Paces) (i:=i) Aqa 
  obtain⟨ks,hks⟩:=V9 (xs:=x.Acks) (i:=i) Aqa 
  obtain⟨p,hp⟩:=V9 (xs:=x.Peers) (i:=i) Aqa 
  have h4:=(pin_spec (hP.2 i p hp)).1.2.2
  have h5:=hP.1
  obtain⟨tr,ht⟩:=V9 (xs:=p.Tracks) (i:=i) Aqa 
  have gws:=gW.2 ws (Gqn hws)
  have hatW:=Zc hws
  have hatQ:=Zc hqs
  have hatK:=Zc hks
  have hatP:=Zc hp
  have hatT:=Zc ht
  have hl1:=Y7 ws
  have hl2:=Y7 qs
  have hl3:=Y7 ks
  refine Wz [9,4,65,100,25,0,150,60,208,276,294,299] ?_;refine zx (Qt.grdF J J J (.hit (.hit (.hit (.hit (.hit (.hit .stop)))))) (fun hgrd=>Qa J J J)) J ?_;refine Wz [295,54,60,208,276,294,299] ?_;refine zx (Qt.grdF J J J (.hit (.hit (.hit (.hit (.hit (.hit .stop)))))) (fun hgrd=>Qa J J J)) J ?_;refine Wz [295,75] ?_
  refine Xb J (fun h6=>?_) (fun h6=>?_)
  ·simp only[Gqq,decide_eq_true_eq] at h6
   rw[show linksM x=false from dF fun hp=>by obtain⟨a,b,c⟩:=(hp.2 i h3).1 ws qs ks hws hqs hks; omega]
   refine Wz [45,93,161,89] ?_
   exact Bzh
  simp only[Gqm,decide_eq_false_iff_not,Classical.not_not] at h6
  obtain⟨⟨l4,l5⟩,l6⟩:=h6
  refine AWP.kp [2,1,1,0,5,0] [] 1 [(0,.box (Aqi x))] ?_;refine Wz [42,51] ?_;refine A_lp x.Peers.length (fun j=>∀ j',j'<j→LinkAt x i j') (fun j => [(2,Aqf 0),(1,I x.Peers.length),(5,I i),(6,I j)]) (fun j => [.box (Aqi x)]) (fun i hi=>absurd hi (Nat.not_lt_zero _)) (Yj [0] Aqb) ?_
  intro m_D j hk_D hp_D
  refine Wz [15,58] ?_
  refine Xb J (fun h=>?_) (fun h=>?_)
  ·have h7:j<x.Peers.length:=Bqx
   obtain⟨w,hw⟩:=V9 (xs:=ws) (i:=j) Aqa 
   obtain⟨q,hq⟩:=V9 (xs:=qs) (i:=j) Aqa 
   obtain⟨a,ha⟩:=V9 (xs:=ks) (i:=j) Aqa 
   have hatw:=Zc hw
   have hatq:=Zc hq
   have hata:=Zc ha
   have c1:=S_WireOk w (gws.2 w (Gqn hw))
   have c2:=S_PaceOk q
   have c3:=Yg a 0 (els tr.Inputs).length
   cases hr1:wireOk w with
   |false =>
    rw[hr1] at c1
    rw[show linksM x=false from dF fun hl=>by obtain⟨b,_,_⟩:=link_spec hws hqs hks hp hw hq ha ht ((hl.2 i h3).2 j h7); rw[hr1] at b; cases b]
    refine Wz [9,4] ?_;refine Xi u8_72 u8_73 u8_74 J ?_;refine Wz [67,64,17,132,159] ?_;refine Uq (Qj J J (c1) J) J ?_;refine Wz [142,118,127,199,88,118,127,127,127,127,188,88,12,32,45,215,57] ?_
    exact Bzh
   | true =>
    rw[hr1] at c1
    cases hr2:paceOk q with
    |false =>
     rw[hr2] at c2
     rw[show linksM x=false from dF fun hl=>by obtain⟨_,b,_⟩:=link_spec hws hqs hks hp hw hq ha ht ((hl.2 i h3).2 j h7); rw[hr2] at b; cases b]
     refine Wz [9,4] ?_;refine Xi u8_72 u8_73 u8_74 J ?_;refine Wz [67,64,17,132,159] ?_;refine Uq (Qj J J (c1) J) J ?_;refine Wz [142,17,24,62,156,164,62,156] ?_;refine Uq (Qt.yes J J J (Vg J J J J J)) J ?_;refine Uq (Qt.yes J J J (Qj J J (c2) J)) J ?_;refine Wz [174,84,118,127,127,127,127,188,88,12,32,45,215,57] ?_
     exact Bzh
    | true =>
     rw[hr2] at c2
     cases hr:inR a 0 (els tr.Inputs).length with
     |false =>
      rw[hr] at c3
      rw[show linksM x=false from dF fun hl=>by obtain⟨_,_,b⟩:=link_spec hws hqs hks hp hw hq ha ht ((hl.2 i h3).2 j h7); rw[hr] at b; cases b]
      refine Wz [9,4] ?_;refine Xi u8_72 u8_73 u8_74 J ?_;refine Wz [67,64,17,132,159] ?_;refine Uq (Qj J J (c1) J) J ?_;refine Wz [142,17,24,62,156,164,62,156] ?_;refine Uq (Qt.yes J J J (Vg J J J J J)) J ?_;refine Uq (Qt.yes J J J (Qj J J (c2) J)) J ?_;refine Wz [174,84,17,24,62,156,164,62,156,164,24,62,156,228,164,62,156,228,164,212] ?_;refine Uq (Qt.yes J J J (Qj J J (c3) J)) J ?_;refine Wz [174,84,12,32,45,215,57] ?_
      exact Bzh
     |true =>
      rw[hr] at c3
      refine Wz [9,4] ?_;refine Xi u8_72 u8_73 u8_74 J ?_;refine Wz [67,64,17,132,159] ?_;refine Uq (Qj J J (c1) J) J ?_;refine Wz [142,17,24,62,156,164,62,156] ?_;refine Uq (Qt.yes J J J (Vg J J J J J)) J ?_;refine Uq (Qt.yes J J J (Qj J J (c2) J)) J ?_;refine Wz [174,84,17,24,62,156,164,62,156,164,24,62,156,228,164,62,156,228,164,212] ?_;refine Uq (Qt.yes J J J (Qj J J (c3) J)) J ?_;refine Wz [174,84,12,81] ?_
      exact .n (j+1) (Ug hp_D (link_yes hws hqs hks hp hw hq ha ht (by rw[hr1,hr2]; rfl) hr)) (Yj [0] Aqb)
  have h7:¬j<x.Peers.length:=Bq5
  refine Wz [180,181,226] ?_
  exact Bjp
 have h3:¬i<x.Peers.length:=Bq5
 rw[show linksM x=true from dT ⟨⟨Aqa,Aqa,Aqa⟩,fun i' hi=>hp_A i' Aqa⟩]
 refine Wz [30,101] ?_
 exact Bzh
end
section
open Tryz
open Go.RowKit

theorem script_neg (s:List Int):decide (scriptIn s 0 0<0) = !scriptOk s:=by
 cases h:scriptOk s with
 |false =>
  rw[script_no (by rw[h]; simp)]
  rfl
 |true =>
  obtain⟨hi,h2,h3,h4⟩:=script_at (xs:=s) (d:=0) (t:=0) h rfl Aqa Aqa 
  rw[h4]
  have hin:inOk s=true:=by unfold scriptOk at h; rw[Gqh] at h; exact h.2
  have:=Gqp.1 hin _ (Gqe hi)
  rw[Zm] at this
  exact Gqa Aqa 
section
variable {m:TMatch} {k n:Nat} {p:TPeer} {s:List Int}
theorem pinS_no (hn:n=m.Scripts.length) (h:((((((decide (scriptIn s 0 0<0) || !peerOk p) || decide (p.Me≠(k:Int))) || !decide (p.Base.Level=m.Level)) || decide (p.Seed≠m.Seed)) || decide (p.Delay≠m.Delay)) || decide (((els p.Tracks).length:Int)≠(n:Int)))=true):¬(scriptOk s=true∧peerIn m k p=true):=fun ⟨hs,hp⟩=>by
 obtain⟨⟨a,b,c⟩,d,e,f⟩:=pin_spec hp
 rw[script_neg,hs,a,Gqa (fun q=>q b),Gqb d,Gqa (fun q=>q e),Gqa (fun q=>q f),Y7,hn,Gqa (fun q=>q c)] at h
 exact absurd h Aqc 
theorem pinS_yes (hn:n=m.Scripts.length) (h:((((((decide (scriptIn s 0 0<0) || !peerOk p) || decide (p.Me≠(k:Int))) || !decide (p.Base.Level=m.Level)) || decide (p.Seed≠m.Seed)) || decide (p.Delay≠m.Delay)) || decide (((els p.Tracks).length:Int)≠(n:Int)))=false):scriptOk s=true∧peerIn m k p=true:=by
 rw[script_neg,hn] at h
 simp only[Gqm,Gq0,decide_eq_false_iff_not,Classical.not_not,decide_eq_true_eq,Y7] at h
 obtain⟨⟨⟨⟨⟨⟨a,b⟩,c⟩,d⟩,e⟩,f⟩,g⟩:=h
 simp only[peerIn,Gqh,decide_eq_true_eq]
 exact⟨a,⟨⟨b,c⟩,g⟩,⟨d,e⟩,f⟩
theorem winS_no {s:TSpectator} {l:TWire} (hn:n=m.Scripts.length) (h:(((!wireOk l || !worldOk s.World) || !decide (s.World.Level=m.Level)) || decide (((els s.World.Scores).length:Int)≠(n:Int)))=true):¬watcherIn m s l=true:=fun hp=>by
 obtain⟨⟨a,b⟩,c,d⟩:=win_spec hp
 rw[a,b,Gqb c,Y7,hn,Gqa (fun q=>q d)] at h
 exact absurd h Aqc 
theorem winS_yes {s:TSpectator} {l:TWire} (hn:n=m.Scripts.length) (h:(((!wireOk l || !worldOk s.World) || !decide (s.World.Level=m.Level)) || decide (((els s.World.Scores).length:Int)≠(n:Int)))=false):watcherIn m s l=true:=by
 rw[hn] at h
 simp only[Gqm,Gq0,decide_eq_false_iff_not,Classical.not_not,decide_eq_true_eq,Y7] at h
 simp only[watcherIn,Gqh,decide_eq_true_eq]
 exact⟨h.1.1,h.1.2,h.2⟩
theorem match_S (hH:HeadP m) (hS:1≤m.Scripts.length∧m.Scripts.length≤4) (hA:m.Scripts.all scriptOk=true) (hP:PeersP m) (hW:WatchersP m):linksM m=matchOk m:=by
 rw[←match_I hH hS hA hP,show watchersM m=true from dT hW,Bool.and_true]
end
theorem S_MatchOk (x:TMatch) (hg:Enc.gd x):Co 20 [] [ag x] [] (B (matchOk x)):=by
 have hg0:=hg
 obtain⟨gL,gS,gD,gSc,gP,gW,gPa,gA,gC,gWa,gLi,gAl,gB⟩:=hg
 have hl:=Y7 x.Scripts
 have hx:=gSc.1
 have hlp:=Y7 x.Peers
 have hlw:=Y7 x.Watchers
 have hll:=Y7 x.Lines
 have c1:=S_LevelOk x.Level gL
 refine Con.o func20 ntmps20 fun E=>?_;refine Wz [96,109,16,56] ?_;refine kc0 c1 ?_;refine Wz [6,60] ?_;refine zx (Qt.grdF J J J (.hit (.hit .stop)) (fun hgrd=>Qj J J (Yg x.Seed 0 65535) J)) J ?_;refine Wz [140,54,60] ?_;refine zx (Qt.grdF J J J (.hit (.hit .stop)) (fun hgrd=>Qj J J (Yg x.Delay 0 5) J)) J ?_;refine Wz [140,54,60] ?_;refine zx (Qt.grdF J J J (.hit (.hit .stop)) (fun hgrd=>Qj J J (Yg x.Clock 0 1000) J)) J ?_;refine Wz [140,54,60] ?_;refine zx (Qt.grdF J J J (.hit (.hit .stop)) (fun hgrd=>Qj J J (Yg x.Bad 0 1000000) J)) J ?_;refine Wz [140,54,103] ?_;refine zx (Qt.grdF J J J (.hit .stop) (fun hgrd=>Qj J J (Yg (els x.Scripts).length 1 4) J)) J ?_;refine Wz [207,54,60,179,218,202,54,60,179,280,54,60,179,300] ?_;refine zx (Qt.grdF J J J (.hit (.hit (.hit (.hit .stop)))) (fun hgrd=>Qg J J J J J)) J ?_;refine zx (Qt.grdF J J J (.hit (.hit (.hit (.hit (.hit .stop))))) (fun hgrd=>Vb J J J)) J ?_;refine zx (Qt.grdF J J J (.hit (.hit (.hit (.hit (.hit (.hit .stop)))))) (fun hgrd=>Vk J J J J)) J ?_;refine Wz [75] ?_
 refine Xb J (fun h1=>?_) (fun h1=>?_)
 ·rw[show matchOk x=false from dF fun hm=>by obtain⟨⟨a,b,c,d,e⟩,⟨f1,f2⟩,_,⟨g,_⟩,_,⟨i,j⟩,_⟩:=hm; rw[a,b,c,d,e,show inR ((els x.Scripts).length:Int) 1 4=true by (rw[Zm]; omega),Gqa Aqa,Gqa Aqa,Gqa Aqa] at h1; exact absurd h1 Aqc]
  refine Wz [69] ?_
  exact Bzh
 simp only[Gqm,Gq0,decide_eq_false_iff_not,Classical.not_not,Zm] at h1
 obtain⟨⟨⟨⟨⟨⟨⟨⟨a,b⟩,c⟩,d⟩,e⟩,f⟩,g⟩,h8⟩,h9⟩:=h1
 have hH:HeadP x:=⟨a,Zm.2 b,Zm.2 c,Zm.2 d,Zm.2 e⟩
 refine AWP.kp [1,1,3,0] [] 1 [(0,.box (Aqi x))] ?_;refine Wz [108,51] ?_;refine A_lp x.Scripts.length (fun k=>(x.Scripts.take k).all scriptOk=true∧∀ i,i<k→∀ p,x.Peers[i]? = some p→peerIn x i p=true) (fun k => [(1,Aqf 0),(3,I (els x.Scripts).length),(4,I k)]) (fun k => [.box (Aqi x)]) (⟨Aqd,fun i hi=>absurd hi (Nat.not_lt_zero _)⟩) (Yj [0] Aqb) ?_
 intro m_A k hk_A hp_A
 obtain⟨hpa,hpb⟩:=hp_A
 refine Wz [15,58] ?_
 refine Xb J (fun h=>?_) (fun h=>?_)
 ·have h3:k<x.Scripts.length:=Bqx
  obtain⟨p,hp⟩:=V9 (xs:=x.Peers) (i:=k) Aqa 
  have hatP:=Zc hp
  have hat:=Y4 h3
  have gp:=gP.2 p (Gqn hp)
  have c2:=S_ScriptInput x.Scripts[k] 0 0 (gSc.2 _ (Gqe h3)) ⟨Aqc,Aqc⟩
  have c3:=S_PeerOk p gp
  have c4:=S_sameLevel p.Base.Level x.Level gp.2.2.2.2.2.1.1
  repeat (first | refine Qd ?_ | refine Qh ?_ | refine Qk ?_ | refine Q0 ?_)
  refine Wz [94,68,78] ?_;refine AL.weak (st':=(⟨_,[(1,Aqf 0),(3,I (els x.Scripts).length),(4,I k),(75,.o (.ag (Aqi p)))],[.box (Aqi x)]⟩:St)) (Yk [0] Aqc J Aqb (.c J (.c J (.c J (.cons Aqb (.nil)))))) ?_;refine Wz [82,47] ?_;refine AL.kp [1,1,3,0,4,0,5,2] [] 2 [(0,.box (Aqi x)),(1,.box (Aqi p))] ?_;refine Wz [1,65,100] ?_;refine kc0 c2 ?_;refine Wz [160,0] ?_;refine zx (Qt.grdF J J J .stop (fun hgrd=>Qu J J J J J J)) J ?_;refine zx (Qt.grdF J J J (.hit .stop) (fun hgrd=>Qj J J (c3) J)) J ?_;refine Wz [207,54,60,208] ?_;refine zx (Qt.grdF J J J (.hit (.hit (.hit .stop))) (fun hgrd=>Vk J J J J)) J ?_;refine Wz [54,211,195] ?_;refine zx (Qt.grdF J J J (.hit (.hit .stop)) (fun hgrd=>Qu J J J J J J)) J ?_;refine zx (Qt.grdF J J J (.hit (.hit (.hit .stop))) (fun hgrd=>Qf J J J J Aqc)) J ?_;refine zx (Qt.grdF J J J (.hit (.hit (.hit (.hit .stop)))) (fun hgrd=>Qu J J J J J J)) J ?_;refine zx (Qt.grdF J J J (.hit (.hit (.hit (.hit (.hit .stop))))) (fun hgrd=>Qj J J (c4) J)) J ?_;refine zx (Qt.grdF J J J (.hit (.hit (.hit (.hit (.hit (.hit .stop)))))) (fun hgrd=>Q4 J J J)) J ?_;refine Wz [54,60,293] ?_;refine zx (Qt.grdF J J J (.hit (.hit (.hit .stop))) (fun hgrd=>Qg J J J J J)) J ?_;refine Wz [202,54,60,293] ?_;refine zx (Qt.grdF J J J (.hit (.hit (.hit .stop))) (fun hgrd=>Qg J J J J J)) J ?_;refine Wz [202,54,60,179,218,202,75] ?_
  refine Xb J (fun h4=>?_) (fun h4=>?_)
  ·rw[show matchOk x=false from dF fun hm=>pinS_no hl h4 ⟨by have:=Gqp.1 hm.2.2.1 _ (Gqe h3); exact this,hm.2.2.2.1.2 k p hp⟩]
   refine Wz [45,57] ?_
   exact Bzh
  have h4:=pinS_yes hl h4
  refine AWP.kp [1,1,3,0,4,0] [] 1 [(0,.box (Aqi x))] ?_;refine Wz [149,226] ?_
  exact .n (k+1) (⟨Yo hpa h3 h4.1,Ug hpb fun p' hp'=>by rw[hp] at hp'; cases hp'; exact h4.2⟩) (Yj [0] Aqb)
 have h3:¬k<x.Scripts.length:=Bq5
 have hA:=Yn hpa Aqa 
 have hP:PeersP x:=⟨Aqa,fun i p hi=>hpb i Bx5 p hi⟩
 refine AWP.kp [1,1,3,0] [] 1 [(0,.box (Aqi x))] ?_;refine Wz [30,107] ?_;refine A_lp x.Watchers.length (fun q=>∀ i,i<q→∀ s l,x.Watchers[i]? = some s→x.Lines[i]? = some l→watcherIn x s l=true) (fun q => [(1,Aqf 0),(3,I (els x.Scripts).length),(6,I q)]) (fun q => [.box (Aqi x)]) (fun i hi=>absurd hi (Nat.not_lt_zero _)) (Yj [0] Aqb) ?_
 intro m_D q hk_D hp_D
 refine Wz [41,105,58] ?_
 refine Xb J (fun h=>?_) (fun h=>?_)
 ·have h5:q<x.Watchers.length:=Bqx
  obtain⟨s,hs⟩:=V9 (xs:=x.Watchers) (i:=q) Aqa 
  obtain⟨l,hl2⟩:=V9 (xs:=x.Lines) (i:=q) Aqa 
  have hat:=Zc hs
  have hatL:=Zc hl2
  have gs:=gWa.2 s (Gqn hs)
  have c2:=S_WireOk l (gLi.2 l (Gqn hl2))
  have c3:=S_WorldOk s.World gs.1
  have c4:=S_sameLevel s.World.Level x.Level gs.1.1
  refine Wz [9,65,63,303,91,65,78] ?_;refine kc0 c2 ?_;refine Wz [6,0] ?_;refine zx (Qt.grdF J J J .stop (fun hgrd=>Qu J J J J J J)) J ?_;refine zx (Qt.grdF J J J (.hit .stop) (fun hgrd=>Qj J J (c3) J)) J ?_;refine Wz [207,54,211,255,293] ?_;refine zx (Qt.grdF J J J (.hit (.hit (.hit .stop))) (fun hgrd=>Qu J J J J J J)) J ?_;refine zx (Qt.grdF J J J (.hit (.hit (.hit (.hit .stop)))) (fun hgrd=>Qj J J (c4) J)) J ?_;refine zx (Qt.grdF J J J (.hit (.hit (.hit (.hit (.hit .stop))))) (fun hgrd=>Q4 J J J)) J ?_;refine Wz [54,60,179,218,202,75] ?_
  refine Xb J (fun h4=>?_) (fun h4=>?_)
  ·rw[show matchOk x=false from dF fun hm=>winS_no hl h4 (hm.2.2.2.2.2.2 q s l hs hl2)]
   refine Wz [45,57] ?_
   exact Bzh
  refine AWP.kp [1,1,3,0,6,0] [] 1 [(0,.box (Aqi x))] ?_;refine Wz [149,226] ?_
  exact .n (q+1) (Ug hp_D fun s' l' hs' hl'=>by rw[hs] at hs'; rw[hl2] at hl'; cases hs'; cases hl'; exact winS_yes hl h4) (Yj [0] Aqb)
 have h5:¬q<x.Watchers.length:=Bq5
 have hW:WatchersP x:=⟨⟨Aqa,Aqa⟩,fun i s l hi hl=>hp_D i Bx5 s l hi hl⟩
 have cl:=S_square x hg0 hP
 rw[show x.Peers.length=(els x.Scripts).length by omega,match_S hH Aqa hA hP hW] at cl
 refine AWP.kp [1,1,3,0] [] 1 [(0,.box (Aqi x))] ?_;refine Wz [30,7,0] ?_;refine kc0 cl ?_;refine Wz [36] ?_
 exact Bzh
end
end Go.Proofs.YtalaljeokcpfnaaGreat
