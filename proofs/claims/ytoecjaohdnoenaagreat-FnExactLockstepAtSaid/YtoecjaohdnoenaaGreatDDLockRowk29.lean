/-
  Rules, data and contracts of functions: part 30 of the proof.
  Conditions: those that each theorem names.
-/
import Derived.Test.YtoecjaohdnoenaaGreatDDLockRowk28
set_option linter.unusedSimpArgs false
set_option linter.unusedVariables false
set_option maxRecDepth 8000
set_option maxHeartbeats 8000000
namespace Go.Proofs.YtoecjaohdnoenaaGreat
section
open Go.RowKit

theorem script_neg (s:List Int):decide (scriptIn s 0 0<0) = !scriptOk s:=by
 cases h:scriptOk s with
 |false =>
  rw[script_no (by rw[h]; simp)]
  rfl
 |true =>
  obtain⟨hi,h2,h3,h4⟩:=script_at (xs:=s) (d:=0) (t:=0) h rfl (by omega) (by omega)
  rw[h4]
  have hin:inOk s=true:=by unfold scriptOk at h; rw[Gqh] at h; exact h.2
  have:=Gqm.1 hin _ (Gqg hi)
  rw[Yq] at this
  exact Gqa (by omega)
section
variable {m:TMatch} {k n:Nat} {p:TPeer} {s:List Int}
theorem pinS_no (hn:n=m.Scripts.length) (h:((((((decide (scriptIn s 0 0<0) || !peerOk p) || decide (p.Me≠(k:Int))) || !decide (p.Base.Level=m.Level)) || decide (p.Seed≠m.Seed)) || decide (p.Delay≠m.Delay)) || decide (((els p.Tracks).length:Int)≠(n:Int)))=true):¬(scriptOk s=true∧peerIn m k p=true):=fun ⟨hs,hp⟩=>by
 obtain⟨⟨a,b,c⟩,d,e,f⟩:=pin_spec hp
 rw[script_neg,hs,a,Gqa (fun q=>q b),Gqb d,Gqa (fun q=>q e),Gqa (fun q=>q f),Yc,hn,Gqa (fun q=>q c)] at h
 exact absurd h (by decide)
theorem pinS_yes (hn:n=m.Scripts.length) (h:((((((decide (scriptIn s 0 0<0) || !peerOk p) || decide (p.Me≠(k:Int))) || !decide (p.Base.Level=m.Level)) || decide (p.Seed≠m.Seed)) || decide (p.Delay≠m.Delay)) || decide (((els p.Tracks).length:Int)≠(n:Int)))=false):scriptOk s=true∧peerIn m k p=true:=by
 rw[script_neg,hn] at h
 simp only[Gqn,Gqz,decide_eq_false_iff_not,Classical.not_not,decide_eq_true_eq,Yc] at h
 obtain⟨⟨⟨⟨⟨⟨a,b⟩,c⟩,d⟩,e⟩,f⟩,g⟩:=h
 simp only[peerIn,Gqh,decide_eq_true_eq]
 exact⟨a,⟨⟨b,c⟩,g⟩,⟨d,e⟩,f⟩
theorem winS_no {s:TSpectator} {l:TWire} (hn:n=m.Scripts.length) (h:(((!wireOk l || !worldOk s.World) || !decide (s.World.Level=m.Level)) || decide (((els s.World.Scores).length:Int)≠(n:Int)))=true):¬watcherIn m s l=true:=fun hp=>by
 obtain⟨⟨a,b⟩,c,d⟩:=win_spec hp
 rw[a,b,Gqb c,Yc,hn,Gqa (fun q=>q d)] at h
 exact absurd h (by decide)
theorem winS_yes {s:TSpectator} {l:TWire} (hn:n=m.Scripts.length) (h:(((!wireOk l || !worldOk s.World) || !decide (s.World.Level=m.Level)) || decide (((els s.World.Scores).length:Int)≠(n:Int)))=false):watcherIn m s l=true:=by
 rw[hn] at h
 simp only[Gqn,Gqz,decide_eq_false_iff_not,Classical.not_not,decide_eq_true_eq,Yc] at h
 simp only[watcherIn,Gqh,decide_eq_true_eq]
 exact⟨h.1.1,h.1.2,h.2⟩
theorem match_S (hH:HeadP m) (hS:1≤m.Scripts.length∧m.Scripts.length≤4) (hA:m.Scripts.all scriptOk=true) (hP:PeersP m) (hW:WatchersP m):linksM m=matchOk m:=by
 rw[←match_I hH hS hA hP,show watchersM m=true from dT hW,Bool.and_true]
end
theorem S_MatchOk (x:TMatch) (hg:Enc.gd x):Con Tryz.prog 60 [] [ag x] [] (B (matchOk x)):=by
 have hg0:=hg
 obtain⟨gL,gS,gD,gSc,gP,gW,gPa,gA,gC,gWa,gLi,gAl,gB⟩:=hg
 have hl:=Yc x.Scripts
 have hx:=gSc.1
 have hlp:=Yc x.Peers
 have hlw:=Yc x.Watchers
 have hll:=Yc x.Lines
 have c1:=S_LevelOk x.Level gL
 refine Con.of Tryz.func60 J Tryz.ntmps60 J (fun E => ?_)
 refine Wz [36,29,10,4,207] ?_;refine zx (Qj J J (c1) J) J ?_;refine Wz [2,35] ?_;refine zx (Vb J (.hit (.hit .stop)) (fun hgrd=>Qj J J (Xy x.Seed 0 65535) J)) J ?_;refine Wz [109,34,35] ?_;refine zx (Vb J (.hit (.hit .stop)) (fun hgrd=>Qj J J (Xy x.Delay 0 5) J)) J ?_;refine Wz [109,34,35] ?_;refine zx (Vb J (.hit (.hit .stop)) (fun hgrd=>Qj J J (Xy x.Clock 0 1000) J)) J ?_;refine Wz [109,34,35] ?_;refine zx (Vb J (.hit (.hit .stop)) (fun hgrd=>Qj J J (Xy x.Bad 0 1000000) J)) J ?_;refine Wz [109,34,0,115] ?_;refine zx (Vb J (.hit .stop) (fun hgrd=>Qj J J (Xy (els x.Scripts).length 1 4) J)) J ?_;refine Wz [197,34,35,149,191,171,34,35,149,268,34,35,149,301] ?_;refine zx (Vb J (.hit (.hit (.hit (.hit .stop)))) (fun hgrd=>Qg J J J J J)) J ?_;refine zx (Vb J (.hit (.hit (.hit (.hit (.hit .stop))))) (fun hgrd=>Zu J J J)) J ?_;refine zx (Vb J (.hit (.hit (.hit (.hit (.hit (.hit .stop)))))) (fun hgrd=>Z4 J J J J)) J ?_;refine Wz [70] ?_
 refine Xb J (fun h1 => ?_) (fun h1 => ?_)
 ·rw[show matchOk x=false from dF fun hm=>by obtain⟨⟨a,b,c,d,e⟩,⟨f1,f2⟩,_,⟨g,_⟩,_,⟨i,j⟩,_⟩:=hm; rw[a,b,c,d,e,show inR ((els x.Scripts).length:Int) 1 4=true by (rw[Yq]; omega),Gqa (by omega),Gqa (by omega),Gqa (by omega)] at h1; exact absurd h1 (by decide)]
  refine Wz [52] ?_
  exact Uq J (Ur [] J J J)
 simp only[Gqn,Gqz,decide_eq_false_iff_not,Classical.not_not,Yq] at h1
 obtain⟨⟨⟨⟨⟨⟨⟨⟨a,b⟩,c⟩,d⟩,e⟩,f⟩,g⟩,h8⟩,h9⟩:=h1
 have hH:HeadP x:=⟨a,Yq.2 b,Yq.2 c,Yq.2 d,Yq.2 e⟩
 refine AWP.pre (st':=(⟨_,[(1,.o (.c (.ptr 0 0))),(3,I (els x.Scripts).length)],[.box ((Enc.e x).map (V1.rd []))]⟩:St)) ?_ (Ux [0])
 refine Wz [25,26] ?_;refine Xj (fun m st=>∃ k:Nat,k+m=x.Scripts.length∧(((x.Scripts.take k).all scriptOk=true∧∀ i,i<k→∀ p,x.Peers[i]? = some p→peerIn x i p=true))∧st=(⟨_,[(1,.o (.c (.ptr 0 0))),(3,I (els x.Scripts).length),(4,I k)],[.box ((Enc.e x).map (V1.rd []))]⟩:St)) (x.Scripts.length) ⟨_,⟨0,by omega,⟨by simp,fun i hi=>absurd hi (Nat.not_lt_zero _)⟩,J⟩,Ux [0]⟩ ?_
 rintro m_A _ ⟨k,hk_A,hp_A,rfl⟩
 obtain⟨hpa,hpb⟩:=hp_A
 refine Wz [13,63] ?_
 refine Xb J (fun h => ?_) (fun h => ?_)
 ·have h3:k<x.Scripts.length:=by have:=Gqc h; omega
  obtain⟨p,hp⟩:=Kj (xs:=x.Peers) (i:=k) (by omega)
  have hatP:=Yg hp
  have hat:=Yb h3
  have gp:=gP.2 p (Gqo hp)
  have c2:=S_ScriptInput x.Scripts[k] 0 0 (gSc.2 _ (Gqg h3)) ⟨by decide,by decide⟩
  have c3:=S_PeerOk p gp
  have c4:=S_sameLevel p.Base.Level x.Level gp.2.2.2.2.2.1.1
  repeat (first | refine Qd ?_ | refine Qh ?_ | refine Qk ?_ | refine Q0 ?_)
  refine Wz [23,21,0,69] ?_;refine AL.weak (st':=(⟨_,[(1,.o (.c (.ptr 0 0))),(3,I (els x.Scripts).length),(4,I k),(75,.o (.ag ((Enc.e p).map (V1.rd []))))],[.box ((Enc.e x).map (V1.rd []))]⟩:St)) (Up [0] J (by kernel_rfl) (.c J (.c J (.c J (.cons (by kernel_rfl) (.nil)))))) ?_;refine Wz [46,110] ?_;refine AL.weak (st':=(⟨_,[(1,.o (.c (.ptr 0 0))),(3,I (els x.Scripts).length),(4,I k),(5,.o (.c (.ptr 1 0)))],[.box ((Enc.e x).map (V1.rd [])),.box ((Enc.e p).map (V1.rd []))]⟩:St)) (Up [0,1] J ((by kernel_rfl)) (.c J (.c J (.c J (.c J (.nil)))))) ?_;refine Wz [6,62,47] ?_;refine zx (Qj J J (c2) J) J ?_;refine Wz [180,0,296] ?_;refine zx (Vb J (.hit .stop) (fun hgrd=>Qj J J (c3) J)) J ?_;refine Wz [197,34,35,176,297,34,178,198] ?_;refine zx (Vb J (.hit (.hit .stop)) (fun hgrd=>Qu J J J J J J)) J ?_;refine zx (Vb J (.hit (.hit (.hit .stop))) (fun hgrd=>Qf J J J J (by decide))) J ?_;refine zx (Vb J (.hit (.hit (.hit (.hit .stop)))) (fun hgrd=>Qu J J J J J J)) J ?_;refine zx (Vb J (.hit (.hit (.hit (.hit (.hit .stop))))) (fun hgrd=>Qj J J (c4) J)) J ?_;refine zx (Vb J (.hit (.hit (.hit (.hit (.hit (.hit .stop)))))) (fun hgrd=>Q4 J J J)) J ?_;refine Wz [34,35,262,285,171,34,35,262,285,171,34,35,149,191,171,70] ?_
  refine Xb J (fun h4 => ?_) (fun h4 => ?_)
  ·rw[show matchOk x=false from dF fun hm=>pinS_no hl h4 ⟨by have:=Gqm.1 hm.2.2.1 _ (Gqg h3); exact this,hm.2.2.2.1.2 k p hp⟩]
   refine Wz [67] ?_
   exact Uq J (Ur [] J J J)
  have h4:=pinS_yes hl h4
  refine AWP.pre (st':=(⟨_,[(1,.o (.c (.ptr 0 0))),(3,I (els x.Scripts).length),(4,I k)],[.box ((Enc.e x).map (V1.rd []))]⟩:St)) ?_ (Ux [0])
  refine Wz [134,194] ?_
  exact⟨x.Scripts.length-(k+1),by omega,_,⟨k+1,by omega,⟨X7 hpa h3 h4.1,Kn hpb fun p' hp'=>by rw[hp] at hp'; cases hp'; exact h4.2⟩,J⟩,Ux [0]⟩
 have h3:¬k<x.Scripts.length:=by have:=Gqd h; omega
 have hA:=Gl hpa
 have hP:PeersP x:=⟨by omega,fun i p hi=>hpb i (by have:=(Gql.1 hi).1; omega) p hi⟩
 refine AWP.pre (st':=(⟨_,[(1,.o (.c (.ptr 0 0))),(3,I (els x.Scripts).length)],[.box ((Enc.e x).map (V1.rd []))]⟩:St)) ?_ (Ux [0])
 refine Wz [38,26] ?_;refine Xj (fun m st=>∃ q:Nat,q+m=x.Watchers.length∧((∀ i,i<q→∀ s l,x.Watchers[i]? = some s→x.Lines[i]? = some l→watcherIn x s l=true))∧st=(⟨_,[(1,.o (.c (.ptr 0 0))),(3,I (els x.Scripts).length),(6,I q)],[.box ((Enc.e x).map (V1.rd []))]⟩:St)) (x.Watchers.length) ⟨_,⟨0,by omega,fun i hi=>absurd hi (Nat.not_lt_zero _),J⟩,Ux [0]⟩ ?_
 rintro m_D _ ⟨q,hk_D,hp_D,rfl⟩
 refine Wz [75,21,238] ?_
 refine Xb J (fun h => ?_) (fun h => ?_)
 ·have h5:q<x.Watchers.length:=by have:=Gqc h; omega
  obtain⟨s,hs⟩:=Kj (xs:=x.Watchers) (i:=q) (by omega)
  obtain⟨l,hl2⟩:=Kj (xs:=x.Lines) (i:=q) (by omega)
  have hat:=Yg hs
  have hatL:=Yg hl2
  have gs:=gWa.2 s (Gqo hs)
  have c2:=S_WireOk l (gLi.2 l (Gqo hl2))
  have c3:=S_WorldOk s.World gs.1
  have c4:=S_sameLevel s.World.Level x.Level gs.1.1
  refine Wz [8,62,148,174,306,46,20,62,69] ?_;refine zx (Qj J J (c2) J) J ?_;refine Wz [2,0,296] ?_;refine zx (Vb J (.hit .stop) (fun hgrd=>Qj J J (c3) J)) J ?_;refine Wz [197,34,178,231,262] ?_;refine zx (Vb J (.hit (.hit (.hit .stop))) (fun hgrd=>Qu J J J J J J)) J ?_;refine zx (Vb J (.hit (.hit (.hit (.hit .stop)))) (fun hgrd=>Qj J J (c4) J)) J ?_;refine zx (Vb J (.hit (.hit (.hit (.hit (.hit .stop))))) (fun hgrd=>Q4 J J J)) J ?_;refine Wz [34,35,149,191,171,70] ?_
  refine Xb J (fun h4 => ?_) (fun h4 => ?_)
  ·rw[show matchOk x=false from dF fun hm=>winS_no hl h4 (hm.2.2.2.2.2.2 q s l hs hl2)]
   refine Wz [67] ?_
   exact Uq J (Ur [] J J J)
  refine AWP.pre (st':=(⟨_,[(1,.o (.c (.ptr 0 0))),(3,I (els x.Scripts).length),(6,I q)],[.box ((Enc.e x).map (V1.rd []))]⟩:St)) ?_ (Ux [0])
  refine Wz [134,194] ?_
  exact⟨x.Watchers.length-(q+1),by omega,_,⟨q+1,by omega,Kn hp_D fun s' l' hs' hl'=>by rw[hs] at hs'; rw[hl2] at hl'; cases hs'; cases hl'; exact winS_yes hl h4,J⟩,Ux [0]⟩
 have h5:¬q<x.Watchers.length:=by have:=Gqd h; omega
 have hW:WatchersP x:=⟨⟨by omega,by omega⟩,fun i s l hi hl=>hp_D i (by have:=(Gql.1 hi).1; omega) s l hi hl⟩
 have cl:=S_square x hg0 hP
 rw[show x.Peers.length=(els x.Scripts).length by omega,match_S hH (by omega) hA hP hW] at cl
 refine AWP.pre (st':=(⟨_,[(1,.o (.c (.ptr 0 0))),(3,I (els x.Scripts).length)],[.box ((Enc.e x).map (V1.rd []))]⟩:St)) ?_ (Ux [0])
 refine Wz [38,30,0] ?_;refine zx (Qj J J (cl) J) J ?_;refine Wz [85] ?_
 exact Uq J (Ur [] J J J)
end
section
open Go.RowKit

theorem I_Lock (x:TMatch) (t:Nat) (f:TFault) (g:Enc.gd x) (gf:Enc.gd f) (hm:matchOk x=true) (ll:x.Level.Rows.length≤1048576) (ht:t≤400):Con Tryz.prog 47 [] [ag x,ai t,ag f] (wR (lockM x f t) []) (.tu [.ag [.ref 0,jn (lockM x f t).Tick,jn (lockM x f t).Seed,.ref 1,.ref 2],.c (bv true)]):=by
 have c1:=I_MatchOk x g
 rw[hm] at c1
 have c2:=Xr (t:Int) 0 400
 rw[Yq.2 ⟨by omega,by omega⟩] at c2
 have ok:MatchP x:=dS hm
 have hF:=lock_fit g.1 ll ok f
 have hn:=ok.2.1
 have hls:=Yc x.Scripts
 have c3:=I_NewWorld x.Level x.Scripts.length x.Seed g.1 ll ok.1.1 hn ok.1.2.1
 rw[show newWorld x.Level x.Scripts.length x.Seed=lockM x f 0 from rfl,←hls] at c3
 have c4:=I_ScriptRows x.Scripts x.Delay t g.2.2.2.1 hn ok.2.2.1 ok.1.2.2.1 ht
 have hst:∀ k,lockM x f (k+1)=stepF (lockM x f k) (rowAt (scrT x.Scripts x.Delay) k) f:=fun _=>rfl
 have hgr:=scrT_gd (d:=x.Delay) hn.2 ok.2.2.1 ok.1.2.2.1
 generalize lockM x f=W at hF c3 hst ⊢
 have hlr:(els (rowsOf (scrT x.Scripts x.Delay) t)).length=t:=by rw[Yc]; simp[rowsOf]
 refine Con.of Tryz.func47 J Tryz.ntmps47 J (fun E => ?_)
 refine Wz [144,46,66] ?_;refine zx (Qj J J (c2) J) J ?_;refine Wz [2,79,92,3] ?_;refine zx (Qj J J (c1) J) J ?_;refine Wz [3,2,7,9,192,21,10,21] ?_;refine M1 (Zl J J (c3) J J J) J J ?_;refine Wz [219,165,165,46,110,66,19,0] ?_;refine M1 (Zl J J (c4) J J J) J J ?_;refine Wz [33,133,76] ?_;refine Xj (fun m st=>∃ k:Nat,k+m=t∧(True)∧st=(⟨_,[(5,.o (.c (.ptr 0 0))),(6,.o (.c (.ptr 1 0))),(8,.o (.c (.ptr 5 0))),(40,.o (.c (.ref 6))),(41,I (els (rowsOf (scrT x.Scripts x.Delay) t)).length),(42,I k)],[.box ((Enc.e f).map (V1.rd [])),.box [nv,jn 0,jn 0,nv,nv],.row 1 (els (W k).Level.Rows),.row 1 (els (W k).Scores),.row 9 (els (W k).Bodies),.box [.ref 2,jn (W k).Tick,jn (W k).Seed,.ref 3,.ref 4],.row 1 (els (rowsOf (scrT x.Scripts x.Delay) t))]⟩:St)) (t) ⟨_,⟨0,by omega,trivial,J⟩,Ux [1,2,3,4,5,6,7]⟩ ?_
 rintro m_A _ ⟨k,hk_A,hp_A,rfl⟩
 by_cases h3:k<t
 ·have f3:decide ((k:Int)<((els (rowsOf (scrT x.Scripts x.Delay) t)).length:Int))=true:=Gqb (by omega)
  have hat:(els (rowsOf (scrT x.Scripts x.Delay) t))[k]? = some (Enc.e (rowAt (scrT x.Scripts x.Delay) k)):=by
   have:=Yb (xs:=rowsOf (scrT x.Scripts x.Delay) t) (k:=k) (by simpa[rowsOf] using h3)
   rwa[rowsOf_at h3] at this
  have hk:=hF k
  have hw:=hk.wi
  have hq:=hk.step (rowAt (scrT x.Scripts x.Delay) k)
  have c5:=I_FaultyStep (W k) (rowAt (scrT x.Scripts x.Delay) k) f hw.gd (hgr k) gf hw.h1 hw.h2 hw.h3 (hq.sn.trans hk.sn.symm) (Kf hq.ok) (hq.lv.trans hk.lv.symm)
  rw[←hst k] at c5
  refine Wz [5,15,6,14,82,8,5,68,141,4,23,92,0,92] ?_;refine M1 (Zl J J (c5) J J J) J J ?_;refine Wz [110,89,100] ?_
  exact⟨t-(k+1),by omega,_,⟨k+1,by omega,trivial,J⟩,Ux [0,1,7,8,9,5,6]⟩
 have f3:decide ((k:Int)<((els (rowsOf (scrT x.Scripts x.Delay) t)).length:Int))=false:=Gqa (by omega)
 have hkt:k=t:=by omega
 subst hkt
 refine Wz [5,15,6,14,166,38,30,110,85] ?_
 exact Xn J J J J J (Ur [2,3,4] J J J)
theorem S_Lock (x:TMatch) (t:Nat) (f:TFault) (g:Enc.gd x) (gf:Enc.gd f) (hm:matchOk x=true) (ll:x.Level.Rows.length≤1048576) (ht:t≤400):Con Tryz.prog 45 [] [ag x,ai t,ag f] (wR (lockM x f t) []) (.tu [.ag [.ref 0,jn (lockM x f t).Tick,jn (lockM x f t).Seed,.ref 1,.ref 2],.c (bv true)]):=by
 have c1:=S_MatchOk x g
 rw[hm] at c1
 have c2:=Xy (t:Int) 0 400
 rw[Yq.2 ⟨by omega,by omega⟩] at c2
 have ok:MatchP x:=dS hm
 have hF:=lock_fit g.1 ll ok f
 have hn:=ok.2.1
 have hls:=Yc x.Scripts
 have c3:=S_NewWorld x.Level x.Scripts.length x.Seed g.1 ll ok.1.1 hn ok.1.2.1
 rw[show newWorld x.Level x.Scripts.length x.Seed=lockM x f 0 from rfl,←hls] at c3
 have c4:=S_ScriptRows x.Scripts x.Delay t g.2.2.2.1 hn ok.2.2.1 ok.1.2.2.1 ht
 have hst:∀ k,lockM x f (k+1)=stepF (lockM x f k) (rowAt (scrT x.Scripts x.Delay) k) f:=fun _=>rfl
 have hgr:=scrT_gd (d:=x.Delay) hn.2 ok.2.2.1 ok.1.2.2.1
 generalize lockM x f=W at hF c3 hst ⊢
 have hlr:(els (rowsOf (scrT x.Scripts x.Delay) t)).length=t:=by rw[Yc]; simp[rowsOf]
 refine Con.of Tryz.func45 J Tryz.ntmps45 J (fun E => ?_)
 refine Wz [144,46,4,93] ?_;refine zx (Qj J J (c1) J) J ?_;refine Wz [2,28] ?_;refine zx (Qj J J (c2) J) J ?_;refine Wz [3,2,7,9,192,21,10,21] ?_;refine M1 (Zl J J (c3) J J J) J J ?_;refine Wz [219,165,165,46,110,4,29,21,0] ?_;refine M1 (Zl J J (c4) J J J) J J ?_;refine Wz [4,26] ?_;refine Xj (fun m st=>∃ k:Nat,k+m=t∧(True)∧st=(⟨_,[(1,I t),(5,.o (.c (.ptr 0 0))),(6,.o (.c (.ptr 1 0))),(8,.o (.c (.ptr 5 0))),(10,.o (.c (.ref 6))),(11,I k)],[.box ((Enc.e f).map (V1.rd [])),.box [nv,jn 0,jn 0,nv,nv],.row 1 (els (W k).Level.Rows),.row 1 (els (W k).Scores),.row 9 (els (W k).Bodies),.box [.ref 2,jn (W k).Tick,jn (W k).Seed,.ref 3,.ref 4],.row 1 (els (rowsOf (scrT x.Scripts x.Delay) t))]⟩:St)) (t) ⟨_,⟨0,by omega,trivial,J⟩,Ux [1,2,3,4,5,6,7]⟩ ?_
 rintro m_A _ ⟨k,hk_A,hp_A,rfl⟩
 by_cases h3:k<t
 ·have f3:decide ((k:Int)<(t:Int))=true:=Gqb (by omega)
  have hat:(els (rowsOf (scrT x.Scripts x.Delay) t))[k]? = some (Enc.e (rowAt (scrT x.Scripts x.Delay) k)):=by
   have:=Yb (xs:=rowsOf (scrT x.Scripts x.Delay) t) (k:=k) (by simpa[rowsOf] using h3)
   rwa[rowsOf_at h3] at this
  have hk:=hF k
  have hw:=hk.wi
  have hq:=hk.step (rowAt (scrT x.Scripts x.Delay) k)
  have c5:=S_FaultyStep (W k) (rowAt (scrT x.Scripts x.Delay) k) f hw.gd (hgr k) gf hw.h1 hw.h2 hw.h3 (hq.sn.trans hk.sn.symm) (Kf hq.ok) (hq.lv.trans hk.lv.symm)
  rw[←hst k] at c5
  refine Wz [13,59,8] ?_
  refine AWP.pre (st':=(⟨51,[(1,I t),(5,.o (.c (.ptr 0 0))),(6,.o (.c (.ptr 1 0))),(8,.o (.c (.ptr 5 0))),(10,.o (.c (.ref 6))),(11,I k)],[.box ((Enc.e f).map (V1.rd [])),.box [nv,jn 0,jn 0,nv,nv],.row 1 (els (W k).Level.Rows),.row 1 (els (W k).Scores),.row 9 (els (W k).Bodies),.box [.ref 2,jn (W k).Tick,jn (W k).Seed,.ref 3,.ref 4],.row 1 (els (rowsOf (scrT x.Scripts x.Delay) t))]⟩:St)) ?_ (Up [0,1,2,3,4,5,6] J ((by kernel_rfl)) (.c J (.c J (.c J (.c J (.c J (.c J (.nil))))))))
  refine Xi [[],[],[],[1,2],[1,2,3],[],(u9 6),(u9 7)] [[],[],[],[44,45],[44,45,46],[],[43,44,45,46,47,48],[43,44,45,46,47,48,49]] [[44,45,46,47,48],[43,45,48],[43,44,48],[43,48],[43,48],[43,44,45,46,47],[],[]] J ?_;refine Wz [116,1,1,152,201,116] ?_;refine Kw (Zl J J (c5) J J J) J ?_;refine Wz [16,110,121] ?_
  exact⟨t-(k+1),by omega,_,⟨k+1,by omega,trivial,J⟩,Ux [0,1,7,8,9,5,6]⟩
 have f3:decide ((k:Int)<(t:Int))=false:=Gqa (by omega)
 have hkt:k=t:=by omega
 subst hkt
 refine Wz [13,15,102,38,30,110,85] ?_
 exact Xn J J J J J (Ur [2,3,4] J J J)
end
section
open Go.RowKit

def zeroW:TWorld:=⟨⟨[]⟩,0,0,[],[]⟩
noncomputable def lockB (x:TMatch) (t:Int):Bool:=matchOk x&&inR t 0 400
noncomputable def lockV (x:TMatch) (t:Int) (f:TFault):TWorld:=if lockB x t=true then lockM x f t.toNat else zeroW
theorem I_LockZ (x:TMatch) (t:Int) (f:TFault) (g:Enc.gd x) (h:lockB x t=false):Con Tryz.prog 47 [] [ag x,ai t,ag f] (wR zeroW []) (.tu [.ag [.ref 0,jn 0,jn 0,.ref 1,.ref 2],.c (bv false)]):=by
 have c1:=I_MatchOk x g
 have c2:=Xr t 0 400
 rw[lockB] at h
 cases hm:matchOk x with
 |true =>
  rw[hm] at c1 h
  have h2:inR t 0 400=false:=h
  rw[h2] at c2
  refine Con.of Tryz.func47 J Tryz.ntmps47 J (fun E => ?_)
  refine Wz [144,46,66] ?_;refine zx (Qj J J (c2) J) J ?_;refine Wz [2,40,101,24,11,5,175,110,4,88,55] ?_
  exact Xn J J J J J (W_fill [1,1,9] [3,4,5] J J (by decide) J J J)
 | false =>
  rw[hm] at c1
  cases h2:inR t 0 400 with
  |false =>
   rw[h2] at c2
   refine Con.of Tryz.func47 J Tryz.ntmps47 J (fun E => ?_)
   refine Wz [144,46,66] ?_;refine zx (Qj J J (c2) J) J ?_;refine Wz [2,40,101,24,11,5,175,110,4,88,55] ?_
   exact Xn J J J J J (W_fill [1,1,9] [3,4,5] J J (by decide) J J J)
  |true =>
   rw[h2] at c2
   refine Con.of Tryz.func47 J Tryz.ntmps47 J (fun E => ?_)
   refine Wz [144,46,66] ?_;refine zx (Qj J J (c2) J) J ?_;refine Wz [2,79,92,3] ?_;refine zx (Qj J J (c1) J) J ?_;refine Wz [3,2,7,11,5,175,110,4,88,55] ?_
   exact Xn J J J J J (W_fill [1,1,9] [3,4,5] J J (by decide) J J J)
theorem I_LockAll (x:TMatch) (t:Int) (f:TFault) (g:Enc.gd x) (gf:Enc.gd f) (ll:x.Level.Rows.length≤1048576):Con Tryz.prog 47 [] [ag x,ai t,ag f] (wR (lockV x t f) []) (.tu [.ag [.ref 0,jn (lockV x t f).Tick,jn (lockV x t f).Seed,.ref 1,.ref 2],.c (bv (lockB x t))]):=by
 cases h:lockB x t with
 |false=>rw[show lockV x t f=zeroW by rw[lockV,h]; rfl]; exact I_LockZ x t f g h
 |true =>
  rw[show lockV x t f=lockM x f t.toNat by rw[lockV,h]; rfl]
  have h2:=h
  simp only[lockB,Gqh] at h2
  have h3:=Yq.1 h2.2
  have c:=I_Lock x t.toNat f g gf h2.1 ll (by omega)
  rwa[show ((t.toNat:Nat):Int)=t by omega] at c
theorem S_LockZ (x:TMatch) (t:Int) (f:TFault) (g:Enc.gd x) (h:lockB x t=false):Con Tryz.prog 45 [] [ag x,ai t,ag f] (wR zeroW []) (.tu [.ag [.ref 0,jn 0,jn 0,.ref 1,.ref 2],.c (bv false)]):=by
 have c1:=S_MatchOk x g
 have c2:=Xy t 0 400
 rw[lockB] at h
 cases hm:matchOk x with
 |true =>
  rw[hm] at c1 h
  have h2:inR t 0 400=false:=h
  rw[h2] at c2
  refine Con.of Tryz.func45 J Tryz.ntmps45 J (fun E => ?_)
  refine Wz [144,46,4,93] ?_;refine zx (Qj J J (c1) J) J ?_;refine Wz [2,28] ?_;refine zx (Qj J J (c2) J) J ?_;refine Wz [3,2,7,11,5,175,110,4,88,55] ?_
  exact Xn J J J J J (W_fill [1,1,9] [3,4,5] J J (by decide) J J J)
 | false =>
  rw[hm] at c1
  cases h2:inR t 0 400 with
  |false =>
   rw[h2] at c2
   refine Con.of Tryz.func45 J Tryz.ntmps45 J (fun E => ?_)
   refine Wz [144,46,4,93] ?_;refine zx (Qj J J (c1) J) J ?_;refine Wz [2,40,101,24,11,5,175,110,4,88,55] ?_
   exact Xn J J J J J (W_fill [1,1,9] [3,4,5] J J (by decide) J J J)
  |true =>
   rw[h2] at c2
   refine Con.of Tryz.func45 J Tryz.ntmps45 J (fun E => ?_)
   refine Wz [144,46,4,93] ?_;refine zx (Qj J J (c1) J) J ?_;refine Wz [2,40,101,24,11,5,175,110,4,88,55] ?_
   exact Xn J J J J J (W_fill [1,1,9] [3,4,5] J J (by decide) J J J)
theorem S_LockAll (x:TMatch) (t:Int) (f:TFault) (g:Enc.gd x) (gf:Enc.gd f) (ll:x.Level.Rows.length≤1048576):Con Tryz.prog 45 [] [ag x,ai t,ag f] (wR (lockV x t f) []) (.tu [.ag [.ref 0,jn (lockV x t f).Tick,jn (lockV x t f).Seed,.ref 1,.ref 2],.c (bv (lockB x t))]):=by
 cases h:lockB x t with
 |false=>rw[show lockV x t f=zeroW by rw[lockV,h]; rfl]; exact S_LockZ x t f g h
 |true =>
  rw[show lockV x t f=lockM x f t.toNat by rw[lockV,h]; rfl]
  have h2:=h
  simp only[lockB,Gqh] at h2
  have h3:=Yq.1 h2.2
  have c:=S_Lock x t.toNat f g gf h2.1 ll (by omega)
  rwa[show ((t.toNat:Nat):Int)=t by omega] at c
theorem lock_wi {x:TMatch} {t:Int} {f:TFault} (g:Enc.gd x) (ll:x.Level.Rows.length≤1048576):WorIn (lockV x t f):=by
 rw[lockV]
 split
 ·rename_i h
  simp only[lockB,Gqh] at h
  exact (lock_fit g.1 ll (dS h.1:MatchP x) f t.toNat).wi
 ·exact⟨⟨⟨by simp[zeroW],fun x hx=>by simp[zeroW] at hx⟩,⟨by decide,by decide⟩,⟨by decide,by decide⟩,⟨by simp[zeroW],fun x hx=>by simp[zeroW] at hx⟩,⟨by simp[zeroW],fun x hx=>by simp[zeroW] at hx⟩⟩,by simp[zeroW],by simp[zeroW],by simp[zeroW]⟩
end
end Go.Proofs.YtoecjaohdnoenaaGreat
