/-
  Rules, data and contracts of functions: part 29 of the proof.
  Conditions: those that each theorem names.
-/
import Derived.Test.YtednjbelfpoecaaGreatDDJuAllk27
set_option linter.unusedSimpArgs false
set_option linter.unusedVariables false
set_option maxRecDepth 8000
set_option maxHeartbeats 8000000
namespace Go.Proofs.YtednjbelfpoecaaGreat
section
open Go.RowKit

theorem script_neg (s:List Int):decide (scriptIn s 0 0<0) = !scriptOk s:=by
 cases h:scriptOk s with
 |false =>
  rw[script_no (by rw[h]; simp)]
  rfl
 |true =>
  obtain⟨hi,h2,h3,h4⟩:=script_at (xs:=s) (d:=0) (t:=0) h rfl (by omega) (by omega)
  rw[h4]
  have hin:inOk s=true:=by unfold scriptOk at h; rw[Gqh] at h; exact h.2
  have:=Gqj.1 hin _ (Gqg hi)
  rw[Yo] at this
  exact Gqa (by omega)
section
variable {m:TMatch} {k n:Nat} {p:TPeer} {s:List Int}
theorem pinS_no (hn:n=m.Scripts.length) (h:((((((decide (scriptIn s 0 0<0) || !peerOk p) || decide (p.Me≠(k:Int))) || !decide (p.Base.Level=m.Level)) || decide (p.Seed≠m.Seed)) || decide (p.Delay≠m.Delay)) || decide (((els p.Tracks).length:Int)≠(n:Int)))=true):¬(scriptOk s=true∧peerIn m k p=true):=fun ⟨hs,hp⟩=>by
 obtain⟨⟨a,b,c⟩,d,e,f⟩:=pin_spec hp
 rw[script_neg,hs,a,Gqa (fun q=>q b),Gqb d,Gqa (fun q=>q e),Gqa (fun q=>q f),Ya,hn,Gqa (fun q=>q c)] at h
 exact absurd h (by decide)
theorem pinS_yes (hn:n=m.Scripts.length) (h:((((((decide (scriptIn s 0 0<0) || !peerOk p) || decide (p.Me≠(k:Int))) || !decide (p.Base.Level=m.Level)) || decide (p.Seed≠m.Seed)) || decide (p.Delay≠m.Delay)) || decide (((els p.Tracks).length:Int)≠(n:Int)))=false):scriptOk s=true∧peerIn m k p=true:=by
 rw[script_neg,hn] at h
 simp only[Gqk,Gqu,decide_eq_false_iff_not,Classical.not_not,decide_eq_true_eq,Ya] at h
 obtain⟨⟨⟨⟨⟨⟨a,b⟩,c⟩,d⟩,e⟩,f⟩,g⟩:=h
 simp only[peerIn,Gqh,decide_eq_true_eq]
 exact⟨a,⟨⟨b,c⟩,g⟩,⟨d,e⟩,f⟩
theorem winS_no {s:TSpectator} {l:TWire} (hn:n=m.Scripts.length) (h:(((!wireOk l || !worldOk s.World) || !decide (s.World.Level=m.Level)) || decide (((els s.World.Scores).length:Int)≠(n:Int)))=true):¬watcherIn m s l=true:=fun hp=>by
 obtain⟨⟨a,b⟩,c,d⟩:=win_spec hp
 rw[a,b,Gqb c,Ya,hn,Gqa (fun q=>q d)] at h
 exact absurd h (by decide)
theorem winS_yes {s:TSpectator} {l:TWire} (hn:n=m.Scripts.length) (h:(((!wireOk l || !worldOk s.World) || !decide (s.World.Level=m.Level)) || decide (((els s.World.Scores).length:Int)≠(n:Int)))=false):watcherIn m s l=true:=by
 rw[hn] at h
 simp only[Gqk,Gqu,decide_eq_false_iff_not,Classical.not_not,decide_eq_true_eq,Ya] at h
 simp only[watcherIn,Gqh,decide_eq_true_eq]
 exact⟨h.1.1,h.1.2,h.2⟩
theorem match_S (hH:HeadP m) (hS:1≤m.Scripts.length∧m.Scripts.length≤4) (hA:m.Scripts.all scriptOk=true) (hP:PeersP m) (hW:WatchersP m):linksM m=matchOk m:=by
 rw[←match_I hH hS hA hP,show watchersM m=true from dT hW,Bool.and_true]
end
theorem S_MatchOk (x:TMatch) (hg:Enc.gd x):Con Tryz.prog 87 [] [ag x] [] (B (matchOk x)):=by
 have hg0:=hg
 obtain⟨gL,gS,gD,gSc,gP,gW,gPa,gA,gC,gWa,gLi,gAl,gB⟩:=hg
 have hl:=Ya x.Scripts
 have hx:=gSc.1
 have hlp:=Ya x.Peers
 have hlw:=Ya x.Watchers
 have hll:=Ya x.Lines
 have c1:=S_LevelOk x.Level gL
 refine Con.of Tryz.func87 J Tryz.ntmps87 J (fun E => ?_)
 refine Wz [26,23,11,4,208] ?_;refine zx (Qj J J (c1) J) J ?_;refine Wz [8,37] ?_;refine zx (Kq J (.hit (.hit .stop)) (fun hgrd=>Qj J J (Xv x.Seed 0 65535) J)) J ?_;refine Wz [109,36,37] ?_;refine zx (Kq J (.hit (.hit .stop)) (fun hgrd=>Qj J J (Xv x.Delay 0 5) J)) J ?_;refine Wz [109,36,37] ?_;refine zx (Kq J (.hit (.hit .stop)) (fun hgrd=>Qj J J (Xv x.Clock 0 1000) J)) J ?_;refine Wz [109,36,37] ?_;refine zx (Kq J (.hit (.hit .stop)) (fun hgrd=>Qj J J (Xv x.Bad 0 1000000) J)) J ?_;refine Wz [109,36,0,112] ?_;refine zx (Kq J (.hit .stop) (fun hgrd=>Qj J J (Xv (els x.Scripts).length 1 4) J)) J ?_;refine Wz [201,36,37,152,187,172,36,37,152,268,36,37,152,303] ?_;refine zx (Kq J (.hit (.hit (.hit (.hit .stop)))) (fun hgrd=>Qg J J J J J)) J ?_;refine zx (Kq J (.hit (.hit (.hit (.hit (.hit .stop))))) (fun hgrd=>Zi J J J)) J ?_;refine zx (Kq J (.hit (.hit (.hit (.hit (.hit (.hit .stop)))))) (fun hgrd=>Zr J J J J)) J ?_;refine Wz [65] ?_
 refine Xb J (fun h1 => ?_) (fun h1 => ?_)
 ·rw[show matchOk x=false from dF fun hm=>by obtain⟨⟨a,b,c,d,e⟩,⟨f1,f2⟩,_,⟨g,_⟩,_,⟨i,j⟩,_⟩:=hm; rw[a,b,c,d,e,show inR ((els x.Scripts).length:Int) 1 4=true by (rw[Yo]; omega),Gqa (by omega),Gqa (by omega),Gqa (by omega)] at h1; exact absurd h1 (by decide)]
  refine Wz [55] ?_
  exact Vz J (V0 [] J J J)
 simp only[Gqk,Gqu,decide_eq_false_iff_not,Classical.not_not,Yo] at h1
 obtain⟨⟨⟨⟨⟨⟨⟨⟨a,b⟩,c⟩,d⟩,e⟩,f⟩,g⟩,h8⟩,h9⟩:=h1
 have hH:HeadP x:=⟨a,Yo.2 b,Yo.2 c,Yo.2 d,Yo.2 e⟩
 refine AWP.pre (st':=(⟨_,[(1,.o (.c (.ptr 0 0))),(3,I (els x.Scripts).length)],[.box ((Enc.e x).map (V1.rd []))]⟩:St)) ?_ (V8 [0])
 refine Wz [22,32] ?_;refine Xj (fun m st=>∃ k:Nat,k+m=x.Scripts.length∧(((x.Scripts.take k).all scriptOk=true∧∀ i,i<k→∀ p,x.Peers[i]? = some p→peerIn x i p=true))∧st=(⟨_,[(1,.o (.c (.ptr 0 0))),(3,I (els x.Scripts).length),(4,I k)],[.box ((Enc.e x).map (V1.rd []))]⟩:St)) (x.Scripts.length) ⟨_,⟨0,by omega,⟨by simp,fun i hi=>absurd hi (Nat.not_lt_zero _)⟩,J⟩,V8 [0]⟩ ?_
 rintro m_A _ ⟨k,hk_A,hp_A,rfl⟩
 obtain⟨hpa,hpb⟩:=hp_A
 refine Wz [34,66] ?_
 refine Xb J (fun h => ?_) (fun h => ?_)
 ·have h3:k<x.Scripts.length:=by have:=Gqc h; omega
  obtain⟨p,hp⟩:=Z7 (xs:=x.Peers) (i:=k) (by omega)
  have hatP:=Yd hp
  have hat:=X9 h3
  have gp:=gP.2 p (Gqm hp)
  have c2:=S_ScriptInput x.Scripts[k] 0 0 (gSc.2 _ (Gqg h3)) ⟨by decide,by decide⟩
  have c3:=S_PeerOk p gp
  have c4:=S_sameLevel p.Base.Level x.Level gp.2.2.2.2.2.1.1
  repeat (first | refine Qd ?_ | refine Qh ?_ | refine Qk ?_ | refine Q0 ?_)
  refine Wz [33,14,0,68] ?_;refine AL.weak (st':=(⟨_,[(1,.o (.c (.ptr 0 0))),(3,I (els x.Scripts).length),(4,I k),(75,.o (.ag ((Enc.e p).map (V1.rd []))))],[.box ((Enc.e x).map (V1.rd []))]⟩:St)) (Vy [0] J (by kernel_rfl) (.c J (.c J (.c J (.cons (by kernel_rfl) (.nil)))))) ?_;refine Wz [115,88] ?_;refine AL.weak (st':=(⟨_,[(1,.o (.c (.ptr 0 0))),(3,I (els x.Scripts).length),(4,I k),(5,.o (.c (.ptr 1 0)))],[.box ((Enc.e x).map (V1.rd [])),.box ((Enc.e p).map (V1.rd []))]⟩:St)) (Vy [0,1] J ((by kernel_rfl)) (.c J (.c J (.c J (.c J (.nil)))))) ?_;refine Wz [16,82,52] ?_;refine zx (Qj J J (c2) J) J ?_;refine Wz [144,0,297] ?_;refine zx (Kq J (.hit .stop) (fun hgrd=>Qj J J (c3) J)) J ?_;refine Wz [201,36,37,175,298,36,176,183] ?_;refine zx (Kq J (.hit (.hit .stop)) (fun hgrd=>Qu J J J J J J)) J ?_;refine zx (Kq J (.hit (.hit (.hit .stop))) (fun hgrd=>Qf J J J J (by decide))) J ?_;refine zx (Kq J (.hit (.hit (.hit (.hit .stop)))) (fun hgrd=>Qu J J J J J J)) J ?_;refine zx (Kq J (.hit (.hit (.hit (.hit (.hit .stop))))) (fun hgrd=>Qj J J (c4) J)) J ?_;refine zx (Kq J (.hit (.hit (.hit (.hit (.hit (.hit .stop)))))) (fun hgrd=>Q4 J J J)) J ?_;refine Wz [36,37,263,287,172,36,37,263,287,172,36,37,152,187,172,65] ?_
  refine Xb J (fun h4 => ?_) (fun h4 => ?_)
  ·rw[show matchOk x=false from dF fun hm=>pinS_no hl h4 ⟨by have:=Gqj.1 hm.2.2.1 _ (Gqg h3); exact this,hm.2.2.2.1.2 k p hp⟩]
   refine Wz [94,108] ?_
   exact Vz J (V0 [] J J J)
  have h4:=pinS_yes hl h4
  refine AWP.pre (st':=(⟨_,[(1,.o (.c (.ptr 0 0))),(3,I (els x.Scripts).length),(4,I k)],[.box ((Enc.e x).map (V1.rd []))]⟩:St)) ?_ (V8 [0])
  refine Wz [132,194] ?_
  exact⟨x.Scripts.length-(k+1),by omega,_,⟨k+1,by omega,⟨X5 hpa h3 h4.1,Kc hpb fun p' hp'=>by rw[hp] at hp'; cases hp'; exact h4.2⟩,J⟩,V8 [0]⟩
 have h3:¬k<x.Scripts.length:=by have:=Gqd h; omega
 have hA:=Ur hpa
 have hP:PeersP x:=⟨by omega,fun i p hi=>hpb i (by have:=(Gql.1 hi).1; omega) p hi⟩
 refine AWP.pre (st':=(⟨_,[(1,.o (.c (.ptr 0 0))),(3,I (els x.Scripts).length)],[.box ((Enc.e x).map (V1.rd []))]⟩:St)) ?_ (V8 [0])
 refine Wz [35,32] ?_;refine Xj (fun m st=>∃ q:Nat,q+m=x.Watchers.length∧((∀ i,i<q→∀ s l,x.Watchers[i]? = some s→x.Lines[i]? = some l→watcherIn x s l=true))∧st=(⟨_,[(1,.o (.c (.ptr 0 0))),(3,I (els x.Scripts).length),(6,I q)],[.box ((Enc.e x).map (V1.rd []))]⟩:St)) (x.Watchers.length) ⟨_,⟨0,by omega,fun i hi=>absurd hi (Nat.not_lt_zero _),J⟩,V8 [0]⟩ ?_
 rintro m_D _ ⟨q,hk_D,hp_D,rfl⟩
 refine Wz [54,14,239] ?_
 refine Xb J (fun h => ?_) (fun h => ?_)
 ·have h5:q<x.Watchers.length:=by have:=Gqc h; omega
  obtain⟨s,hs⟩:=Z7 (xs:=x.Watchers) (i:=q) (by omega)
  obtain⟨l,hl2⟩:=Z7 (xs:=x.Lines) (i:=q) (by omega)
  have hat:=Yd hs
  have hatL:=Yd hl2
  have gs:=gWa.2 s (Gqm hs)
  have c2:=S_WireOk l (gLi.2 l (Gqm hl2))
  have c3:=S_WorldOk s.World gs.1
  have c4:=S_sameLevel s.World.Level x.Level gs.1.1
  refine Wz [21,82,170,204,256,98,82,68] ?_;refine zx (Qj J J (c2) J) J ?_;refine Wz [8,0,297] ?_;refine zx (Kq J (.hit .stop) (fun hgrd=>Qj J J (c3) J)) J ?_;refine Wz [201,36,176,232,263] ?_;refine zx (Kq J (.hit (.hit (.hit .stop))) (fun hgrd=>Qu J J J J J J)) J ?_;refine zx (Kq J (.hit (.hit (.hit (.hit .stop)))) (fun hgrd=>Qj J J (c4) J)) J ?_;refine zx (Kq J (.hit (.hit (.hit (.hit (.hit .stop))))) (fun hgrd=>Q4 J J J)) J ?_;refine Wz [36,37,152,187,172,65] ?_
  refine Xb J (fun h4 => ?_) (fun h4 => ?_)
  ·rw[show matchOk x=false from dF fun hm=>winS_no hl h4 (hm.2.2.2.2.2.2 q s l hs hl2)]
   refine Wz [94,108] ?_
   exact Vz J (V0 [] J J J)
  refine AWP.pre (st':=(⟨_,[(1,.o (.c (.ptr 0 0))),(3,I (els x.Scripts).length),(6,I q)],[.box ((Enc.e x).map (V1.rd []))]⟩:St)) ?_ (V8 [0])
  refine Wz [132,194] ?_
  exact⟨x.Watchers.length-(q+1),by omega,_,⟨q+1,by omega,Kc hp_D fun s' l' hs' hl'=>by rw[hs] at hs'; rw[hl2] at hl'; cases hs'; cases hl'; exact winS_yes hl h4,J⟩,V8 [0]⟩
 have h5:¬q<x.Watchers.length:=by have:=Gqd h; omega
 have hW:WatchersP x:=⟨⟨by omega,by omega⟩,fun i s l hi hl=>hp_D i (by have:=(Gql.1 hi).1; omega) s l hi hl⟩
 have cl:=S_square x hg0 hP
 rw[show x.Peers.length=(els x.Scripts).length by omega,match_S hH (by omega) hA hP hW] at cl
 refine AWP.pre (st':=(⟨_,[(1,.o (.c (.ptr 0 0))),(3,I (els x.Scripts).length)],[.box ((Enc.e x).map (V1.rd []))]⟩:St)) ?_ (V8 [0])
 refine Wz [35,15,0] ?_;refine zx (Qj J J (cl) J) J ?_;refine Wz [59] ?_
 exact Vz J (V0 [] J J J)
end
section
open Go.RowKit

theorem I_LockNo (x:TMatch) (t:Int) (f:TFault) (g:Enc.gd x) (h:matchOk x=false∨inR t 0 400=false):Con Tryz.prog 63 [] [ag x,ai t,ag f] [] (.tu [.ag [nv,jn 0,jn 0,nv,nv],.c (bv false)]):=by
 have c1:=I_MatchOk x g
 have c2:=Xr t 0 400
 by_cases hm:matchOk x=true
 ·have h2:inR t 0 400=false:=by rcases h with h | h <;> simp_all
  rw[hm] at c1
  rw[h2] at c2
  refine Con.of Tryz.func63 J Tryz.ntmps63 J (fun E => ?_)
  refine Wz [148,115,42] ?_;refine zx (Qj J J (c2) J) J ?_;refine Wz [8,95,51,12,13,2,160,88,4,87,60] ?_
  exact Xn J J J J J (V0 [] J J J)
 ·rw[show matchOk x=false by simpa using hm] at c1
  cases h2:inR t 0 400 with
  |false =>
   rw[h2] at c2
   refine Con.of Tryz.func63 J Tryz.ntmps63 J (fun E => ?_)
   refine Wz [148,115,42] ?_;refine zx (Qj J J (c2) J) J ?_;refine Wz [8,95,51,12,13,2,160,88,4,87,60] ?_
   exact Xn J J J J J (V0 [] J J J)
  |true =>
   rw[h2] at c2
   refine Con.of Tryz.func63 J Tryz.ntmps63 J (fun E => ?_)
   refine Wz [148,115,42] ?_;refine zx (Qj J J (c2) J) J ?_;refine Wz [8,30,79,6] ?_;refine zx (Qj J J (c1) J) J ?_;refine Wz [93,7,13,2,160,88,4,87,60] ?_
   exact Xn J J J J J (V0 [] J J J)
theorem S_LockNo (x:TMatch) (t:Int) (f:TFault) (g:Enc.gd x) (h:matchOk x=false∨inR t 0 400=false):Con Tryz.prog 61 [] [ag x,ai t,ag f] [] (.tu [.ag [nv,jn 0,jn 0,nv,nv],.c (bv false)]):=by
 have c1:=S_MatchOk x g
 have c2:=Xv t 0 400
 by_cases hm:matchOk x=true
 ·have h2:inR t 0 400=false:=by rcases h with h | h <;> simp_all
  rw[hm] at c1
  rw[h2] at c2
  refine Con.of Tryz.func61 J Tryz.ntmps61 J (fun E => ?_)
  refine Wz [148,115,4,71] ?_;refine zx (Qj J J (c1) J) J ?_;refine Wz [8,27] ?_;refine zx (Qj J J (c2) J) J ?_;refine Wz [93,7,13,2,160,88,4,87,60] ?_
  exact Xn J J J J J (V0 [] J J J)
 ·rw[show matchOk x=false by simpa using hm] at c1
  cases h2:inR t 0 400 with
  |false =>
   rw[h2] at c2
   refine Con.of Tryz.func61 J Tryz.ntmps61 J (fun E => ?_)
   refine Wz [148,115,4,71] ?_;refine zx (Qj J J (c1) J) J ?_;refine Wz [8,95,51,12,13,2,160,88,4,87,60] ?_
   exact Xn J J J J J (V0 [] J J J)
  |true =>
   rw[h2] at c2
   refine Con.of Tryz.func61 J Tryz.ntmps61 J (fun E => ?_)
   refine Wz [148,115,4,71] ?_;refine zx (Qj J J (c1) J) J ?_;refine Wz [8,95,51,12,13,2,160,88,4,87,60] ?_
   exact Xn J J J J J (V0 [] J J J)
theorem I_Lock (x:TMatch) (t:Nat) (f:TFault) (g:Enc.gd x) (gf:Enc.gd f) (hm:matchOk x=true) (ll:x.Level.Rows.length≤1048576) (ht:t≤400):Con Tryz.prog 63 [] [ag x,ai t,ag f] (wR (lockM x f t) []) (.tu [.ag [.ref 0,jn (lockM x f t).Tick,jn (lockM x f t).Seed,.ref 1,.ref 2],.c (bv true)]):=by
 have c1:=I_MatchOk x g
 rw[hm] at c1
 have c2:=Xr (t:Int) 0 400
 rw[Yo.2 ⟨by omega,by omega⟩] at c2
 have ok:MatchP x:=dS hm
 have hF:=lock_fit g.1 ll ok f
 have hn:=ok.2.1
 have hls:=Ya x.Scripts
 have c3:=I_NewWorld x.Level x.Scripts.length x.Seed g.1 ll ok.1.1 hn ok.1.2.1
 rw[show newWorld x.Level x.Scripts.length x.Seed=lockM x f 0 from rfl,←hls] at c3
 have c4:=I_ScriptRows x.Scripts x.Delay t g.2.2.2.1 hn ok.2.2.1 ok.1.2.2.1 ht
 have hst:∀ k,lockM x f (k+1)=stepF (lockM x f k) (rowAt (scrT x.Scripts x.Delay) k) f:=fun _=>rfl
 have hgr:=scrT_gd (d:=x.Delay) hn.2 ok.2.2.1 ok.1.2.2.1
 generalize lockM x f=W at hF c3 hst ⊢
 have hlr:(els (rowsOf (scrT x.Scripts x.Delay) t)).length=t:=by rw[Ya]; simp[rowsOf]
 refine Con.of Tryz.func63 J Tryz.ntmps63 J (fun E => ?_)
 refine Wz [148,115,42] ?_;refine zx (Qj J J (c2) J) J ?_;refine Wz [8,30,79,6] ?_;refine zx (Qj J J (c1) J) J ?_;refine Wz [93,91,63,14,11,14] ?_;refine M1 (Za J J (c3) J J J) J J ?_;refine Wz [195,135,135,115,88,42,19,0] ?_;refine M1 (Za J J (c4) J J J) J J ?_;refine Wz [89,121,53] ?_;refine Xj (fun m st=>∃ k:Nat,k+m=t∧(True)∧st=(⟨_,[(5,.o (.c (.ptr 0 0))),(6,.o (.c (.ptr 1 0))),(8,.o (.c (.ptr 5 0))),(40,.o (.c (.ref 6))),(41,I (els (rowsOf (scrT x.Scripts x.Delay) t)).length),(42,I k)],[.box ((Enc.e f).map (V1.rd [])),.box [nv,jn 0,jn 0,nv,nv],.row 1 (els (W k).Level.Rows),.row 1 (els (W k).Scores),.row 9 (els (W k).Bodies),.box [.ref 2,jn (W k).Tick,jn (W k).Seed,.ref 3,.ref 4],.row 1 (els (rowsOf (scrT x.Scripts x.Delay) t))]⟩:St)) (t) ⟨_,⟨0,by omega,trivial,J⟩,V8 [1,2,3,4,5,6,7]⟩ ?_
 rintro m_A _ ⟨k,hk_A,hp_A,rfl⟩
 by_cases h3:k<t
 ·have f3:decide ((k:Int)<((els (rowsOf (scrT x.Scripts x.Delay) t)).length:Int))=true:=Gqb (by omega)
  have hat:(els (rowsOf (scrT x.Scripts x.Delay) t))[k]? = some (Enc.e (rowAt (scrT x.Scripts x.Delay) k)):=by
   have:=X9 (xs:=rowsOf (scrT x.Scripts x.Delay) t) (k:=k) (by simpa[rowsOf] using h3)
   rwa[rowsOf_at h3] at this
  have hk:=hF k
  have hw:=hk.wi
  have hq:=hk.step (rowAt (scrT x.Scripts x.Delay) k)
  have c5:=I_FaultyStep (W k) (rowAt (scrT x.Scripts x.Delay) k) f hw.gd (hgr k) gf hw.h1 hw.h2 hw.h3 (hq.sn.trans hk.sn.symm) (Z3 hq.ok) (hq.lv.trans hk.lv.symm)
  rw[←hst k] at c5
  refine Wz [2,5,99,69,21,2,100,140,4,33,79,0,79] ?_;refine M1 (Za J J (c5) J J J) J J ?_;refine Wz [88,92,85] ?_
  exact⟨t-(k+1),by omega,_,⟨k+1,by omega,trivial,J⟩,V8 [0,1,7,8,9,5,6]⟩
 have f3:decide ((k:Int)<((els (rowsOf (scrT x.Scripts x.Delay) t)).length:Int))=false:=Gqa (by omega)
 have hkt:k=t:=by omega
 subst hkt
 refine Wz [2,5,99,147,35,15,88,59] ?_
 exact Xn J J J J J (V0 [2,3,4] J J J)
theorem S_Lock (x:TMatch) (t:Nat) (f:TFault) (g:Enc.gd x) (gf:Enc.gd f) (hm:matchOk x=true) (ll:x.Level.Rows.length≤1048576) (ht:t≤400):Con Tryz.prog 61 [] [ag x,ai t,ag f] (wR (lockM x f t) []) (.tu [.ag [.ref 0,jn (lockM x f t).Tick,jn (lockM x f t).Seed,.ref 1,.ref 2],.c (bv true)]):=by
 have c1:=S_MatchOk x g
 rw[hm] at c1
 have c2:=Xv (t:Int) 0 400
 rw[Yo.2 ⟨by omega,by omega⟩] at c2
 have ok:MatchP x:=dS hm
 have hF:=lock_fit g.1 ll ok f
 have hn:=ok.2.1
 have hls:=Ya x.Scripts
 have c3:=S_NewWorld x.Level x.Scripts.length x.Seed g.1 ll ok.1.1 hn ok.1.2.1
 rw[show newWorld x.Level x.Scripts.length x.Seed=lockM x f 0 from rfl,←hls] at c3
 have c4:=S_ScriptRows x.Scripts x.Delay t g.2.2.2.1 hn ok.2.2.1 ok.1.2.2.1 ht
 have hst:∀ k,lockM x f (k+1)=stepF (lockM x f k) (rowAt (scrT x.Scripts x.Delay) k) f:=fun _=>rfl
 have hgr:=scrT_gd (d:=x.Delay) hn.2 ok.2.2.1 ok.1.2.2.1
 generalize lockM x f=W at hF c3 hst ⊢
 have hlr:(els (rowsOf (scrT x.Scripts x.Delay) t)).length=t:=by rw[Ya]; simp[rowsOf]
 refine Con.of Tryz.func61 J Tryz.ntmps61 J (fun E => ?_)
 refine Wz [148,115,4,71] ?_;refine zx (Qj J J (c1) J) J ?_;refine Wz [8,27] ?_;refine zx (Qj J J (c2) J) J ?_;refine Wz [93,91,63,14,11,14] ?_;refine M1 (Za J J (c3) J J J) J J ?_;refine Wz [195,135,135,115,88,4,23,14,0] ?_;refine M1 (Za J J (c4) J J J) J J ?_;refine Wz [4,32] ?_;refine Xj (fun m st=>∃ k:Nat,k+m=t∧(True)∧st=(⟨_,[(1,I t),(5,.o (.c (.ptr 0 0))),(6,.o (.c (.ptr 1 0))),(8,.o (.c (.ptr 5 0))),(10,.o (.c (.ref 6))),(11,I k)],[.box ((Enc.e f).map (V1.rd [])),.box [nv,jn 0,jn 0,nv,nv],.row 1 (els (W k).Level.Rows),.row 1 (els (W k).Scores),.row 9 (els (W k).Bodies),.box [.ref 2,jn (W k).Tick,jn (W k).Seed,.ref 3,.ref 4],.row 1 (els (rowsOf (scrT x.Scripts x.Delay) t))]⟩:St)) (t) ⟨_,⟨0,by omega,trivial,J⟩,V8 [1,2,3,4,5,6,7]⟩ ?_
 rintro m_A _ ⟨k,hk_A,hp_A,rfl⟩
 by_cases h3:k<t
 ·have f3:decide ((k:Int)<(t:Int))=true:=Gqb (by omega)
  have hat:(els (rowsOf (scrT x.Scripts x.Delay) t))[k]? = some (Enc.e (rowAt (scrT x.Scripts x.Delay) k)):=by
   have:=X9 (xs:=rowsOf (scrT x.Scripts x.Delay) t) (k:=k) (by simpa[rowsOf] using h3)
   rwa[rowsOf_at h3] at this
  have hk:=hF k
  have hw:=hk.wi
  have hq:=hk.step (rowAt (scrT x.Scripts x.Delay) k)
  have c5:=S_FaultyStep (W k) (rowAt (scrT x.Scripts x.Delay) k) f hw.gd (hgr k) gf hw.h1 hw.h2 hw.h3 (hq.sn.trans hk.sn.symm) (Z3 hq.ok) (hq.lv.trans hk.lv.symm)
  rw[←hst k] at c5
  refine Wz [34,5,13,21] ?_
  refine AWP.pre (st':=(⟨51,[(1,I t),(5,.o (.c (.ptr 0 0))),(6,.o (.c (.ptr 1 0))),(8,.o (.c (.ptr 5 0))),(10,.o (.c (.ref 6))),(11,I k)],[.box ((Enc.e f).map (V1.rd [])),.box [nv,jn 0,jn 0,nv,nv],.row 1 (els (W k).Level.Rows),.row 1 (els (W k).Scores),.row 9 (els (W k).Bodies),.box [.ref 2,jn (W k).Tick,jn (W k).Seed,.ref 3,.ref 4],.row 1 (els (rowsOf (scrT x.Scripts x.Delay) t))]⟩:St)) ?_ (Vy [0,1,2,3,4,5,6] J ((by kernel_rfl)) (.c J (.c J (.c J (.c J (.c J (.c J (.nil))))))))
  refine Xi [[],[],[],[1,2],[1,2,3],[],(u9 6),(u9 7)] [[],[],[],[44,45],[44,45,46],[],[43,44,45,46,47,48],[43,44,45,46,47,48,49]] [[44,45,46,47,48],[43,45,48],[43,44,48],[43,48],[43,48],[43,44,45,46,47],[],[]] J ?_;refine Wz [105,1,1,155,203,105] ?_;refine Kk (Za J J (c5) J J J) J ?_;refine Wz [10,88,73] ?_
  exact⟨t-(k+1),by omega,_,⟨k+1,by omega,trivial,J⟩,V8 [0,1,7,8,9,5,6]⟩
 have f3:decide ((k:Int)<(t:Int))=false:=Gqa (by omega)
 have hkt:k=t:=by omega
 subst hkt
 refine Wz [34,5,128,35,15,88,59] ?_
 exact Xn J J J J J (V0 [2,3,4] J J J)
end
end Go.Proofs.YtednjbelfpoecaaGreat
