/-
  Rules, data and contracts of functions: part 26 of the proof.
  Conditions: those that each theorem names.
-/
import Derived.Test.YtpmacgnmlmmojaaGreatDoorDDDiagRowk24
set_option linter.unusedSimpArgs false
set_option linter.unusedVariables false
set_option maxRecDepth 8000
set_option maxHeartbeats 8000000
namespace Go.Proofs.YtpmacgnmlmmojaaGreatDoor
section
open Go.RowKit

theorem faultS_len {f:TFault} {w:TWorld}:(faultS f w).Scores.length=w.Scores.length:=Gq7
theorem fault_fit {w:TWorld} {f:TFault} (hw:WorIn w) (ho:worldOk w=true) (hf:0≤f.Add):worldOk (faultS f w)=true∧WorIn (faultS f w):=by
 have hs:=Z3 ho
 obtain⟨g1,g2,g3,g4,g5,g6,g7⟩:=Kd ho
 have hl:=faultS_len (f:=f) (w:=w)
 have hg0:0≤w.Scores.getD f.Player.toNat 0:=by
  rw[Gqc]
  cases hx:w.Scores[f.Player.toNat]? with
  |none=>simp
  |some x=>exact (hs x (Gqp hx)).1
 have hm:∀ x∈(faultS f w).Scores,0≤x∧x≤1000000:=fun x hx=>by
  rcases Gxl hx with h1 | h1
  ·exact hs x h1
  ·rw[h1]; omega
 refine⟨worldOk_T ⟨g1,g2,g3,by rw[hl]; exact g4,Gql.2 fun x hx=>Yr.2 (hm x hx),by rw[hl]; exact g6,by rw[hl]; exact g7⟩,?_⟩
 obtain⟨⟨a1,a2,a3,a4,a5⟩,b1,b2,b3⟩:=hw
 exact⟨⟨a1,a2,a3,⟨by rw[hl]; exact a4.1,fun x hx=>by have:=hm x hx; exact⟨by omega,by omega⟩⟩,a5⟩,b1,by rw[hl]; exact b2,b3⟩
structure Fit (n:Nat) (l:TLevel) (w:TWorld):Prop where
 wi:WorIn w
 ok:worldOk w=true
 sn:w.Scores.length=n
 lv:w.Level=l
theorem Fit.step {n:Nat} {l:TLevel} {w:TWorld} (h:Fit n l w) (row:List Int):Fit n l (stepW w row) :=
 ⟨step_in h.wi,stepW_ok h.wi.gd h.ok,(stepW_fits h.wi.gd).2.1.trans h.sn,by rw[stepW_level]; exact h.lv⟩
theorem Fit.stepF {n:Nat} {l:TLevel} {w:TWorld} (h:Fit n l w) (row:List Int) (f:TFault):Fit n l (Go.Proofs.YtpmacgnmlmmojaaGreatDoor.stepF w row f):=by
 have h1:=h.step row
 unfold Go.Proofs.YtpmacgnmlmmojaaGreatDoor.stepF
 split
 ·rename_i hd
  obtain⟨k1,_,_⟩:=hd
  unfold faultOk at k1
  simp only[Gqg,Yr] at k1
  have h2:=fault_fit h1.wi h1.ok (f:=f) (by omega)
  exact⟨h2.2,h2.1,faultS_len.trans h1.sn,h1.lv⟩
 ·exact h1
noncomputable def runF (l:TLevel) (n:Nat) (seed:Int) (tr:List TTrack) (f:TFault):Nat→TWorld
 |0=>newWorld l n seed
 |t+1=>stepF (runF l n seed tr f t) (rowAt tr t) f
theorem runF_fit {l:TLevel} {n:Nat} {seed:Int} {tr:List TTrack} {f:TFault} (hl:levelOk l=true) (gl:Enc.gd l) (ll:l.Rows.length≤1048576) (hn:1≤n∧n≤4) (hs:inR seed 0 65535=true):∀ t,Fit n l (runF l n seed tr f t)
 |0=>⟨⟨newWorld_gd gl hl hn hs,ll,by show (newWorld l n seed).Scores.length≤_; simp only[newWorld,List.length_replicate]; omega,by show (newWorld l n seed).Bodies.length≤_; simp only[newWorld,List.length_map,List.length_range]; omega⟩,newWorld_ok hl hn hs,by show (newWorld l n seed).Scores.length=n; simp[newWorld],rfl⟩
 |t+1=>(runF_fit hl gl ll hn hs t).stepF _ _
theorem least_le {l:List TTrack}:∀ m k,k<m→leastK l m≤lenAt l k
 |0,k,h=>by omega
 |m+1,k,h=>by
  rw[leastK]
  rcases Nat.eq_or_lt_of_le (Nat.le_of_lt_succ h) with e | e
  ·subst e; exact Nat.min_le_right _ _
  ·exact Nat.le_trans (Nat.min_le_left _ _) (least_le m k e)
theorem known_all {l:List TTrack} {k:Nat} (h:k<knownTicks l):∀ x∈l,k<x.Inputs.length:=fun x hx=>by
 unfold knownTicks at h
 split at h
 ·obtain⟨i,hi,rfl⟩:=List.getElem_of_mem hx
  have h1:=least_le (l:=l) l.length i hi
  rw[lenAt_is hi] at h1
  omega
 ·omega
theorem rowAt_gd {l:List TTrack} (g:Enc.gd l) (k:Nat):Enc.gd (rowAt l k):=by
 refine⟨by have:=g.1; simpa[rowAt] using this,fun x hx => ?_⟩
 obtain⟨y,hy,rfl⟩:=Gqx.1 hx
 have hy2:=(g.2 y hy)
 unfold inAt
 rw[Gqc]
 cases hz:y.Inputs[k]? with
 |none=>exact⟨by simp,by simp⟩
 |some z=>exact hy2.2 z (Gqp hz)
theorem runF_in {l:TLevel} {n:Nat} {seed:Int} {tr:List TTrack} {f:TFault} (hl:levelOk l=true) (gl:Enc.gd l) (ll:l.Rows.length≤1048576) (hn:1≤n∧n≤4) (hs:inR seed 0 65535=true) (gt:Enc.gd tr) {t:Nat} (ht:t≤knownTicks tr):RunIn (runF l n seed tr f) tr f t:=by
 have hF:=runF_fit (tr:=tr) (f:=f) hl gl ll hn hs
 exact⟨fun k _=>(hF k).wi,fun k _=>rfl,fun k _=>((hF k).step _).sn.trans (hF k).sn.symm,fun k _=>Z3 ((hF k).step _).ok,fun k _=>((hF k).step _).lv.trans (hF k).lv.symm,fun k _=>rowAt_gd gt k,fun k hk=>known_all (by omega)⟩
theorem S_FaultyStep (w:TWorld) (row:List Int) (f:TFault) (hg:Enc.gd w) (gr:Enc.gd row) (gf:Enc.gd f) (h1:w.Level.Rows.length≤1048576) (h2:w.Scores.length≤1048576) (h3:w.Bodies.length≤1048576) (hl:(stepW w row).Scores.length=w.Scores.length) (hs:∀ x∈(stepW w row).Scores,0≤x∧x≤1000000) (hlv:(stepW w row).Level=w.Level):Con Tryz.prog 172 [] [ag w,al row,ag f] (wR (stepF w row f) []) (.o (.ag [.ref 0,jn (stepF w row f).Tick,jn (stepF w row f).Seed,.ref 1,.ref 2])):=by
 have cs:=S_StepWorld w row hg gr h1 h2 h3
 have hls:=Ye w.Scores
 have cf:=S_FaultOk f (els w.Scores).length (by omega) (by omega)
 rw[←hlv] at cs
 rw[show faultOk f ((els w.Scores).length:Int)=faultOk f w.Scores.length by rw[hls]] at cf
 obtain⟨_,gt,_,_,_⟩:=hg
 obtain⟨ft,fp,fa⟩:=gf
 unfold stepF
 obtain⟨v,hv⟩:∃ v,stepW w row=v:=⟨_,rfl⟩
 rw[hv] at cs hl hs ⊢
 by_cases hd:faultD f w v
 case neg =>
  rw[if_neg hd]
  by_cases k1:faultOk f w.Scores.length=true
  case neg =>
   have k1:faultOk f w.Scores.length=false:=by simpa using k1
   rw[k1] at cf
   refine Con.of Tryz.func172 J Tryz.ntmps172 J (fun E => ?_)
   refine Wz [147,163,124,220,103,31,10,12] ?_;refine zx (Qj J J (cf) J) J ?_;refine Wz [78,77,7,78,77,45,89,68] ?_
   exact Xm J J J J (V4 [3,4,5] J J J)
  rw[k1] at cf
  by_cases k2:v.Tick=f.Tick
  case neg =>
   have k2':decide (v.Tick=f.Tick)=false:=Gqa k2
   refine Con.of Tryz.func172 J Tryz.ntmps172 J (fun E => ?_)
   refine Wz [147,163,124,220,103,31,10,12] ?_;refine zx (Qj J J (cf) J) J ?_;refine Wz [24,101,8,26,78,77,45,89,68] ?_
   exact Xm J J J J (V4 [3,4,5] J J J)
  have k2':decide (v.Tick=f.Tick)=true:=Gqb k2
  have k3:decide (w.Tick<f.Tick)=false:=Gqa (fun h=>hd ⟨k1,k2,by rw[k2]; exact h⟩)
  refine Con.of Tryz.func172 J Tryz.ntmps172 J (fun E => ?_)
  refine Wz [147,163,124,220,103,31,10,12] ?_;refine zx (Qj J J (cf) J) J ?_;refine Wz [24,101,8,26,24,101,84,26,47,89,68] ?_
  exact Xm J J J J (V4 [3,4,5] J J J)
 rw[if_pos hd]
 obtain⟨k1,k2,k3⟩:=hd
 have hfo:=k1
 unfold faultOk at hfo
 simp only[Gqg,decide_eq_true_eq,Yr] at hfo
 obtain⟨⟨⟨_,p0⟩,p1⟩,a1⟩:=hfo
 obtain⟨q,hq⟩:∃ q:Nat,f.Player=q:=⟨f.Player.toNat,by omega⟩
 obtain⟨s,hsq⟩:=Z7 (xs:=v.Scores) (i:=q) (by omega)
 have he:=Yh hsq
 have hlv2:=Ye v.Scores
 have hs0:=hs s (Gqp hsq)
 have hS:(faultS f v).Scores=v.Scores.set q (min (s+f.Add) 1000000):=by
  unfold faultS
  rw[hq]
  simp only[Int.toNat_natCast,Gqc,hsq,Option.getD_some]
 have hE:els (faultS f v).Scores=(els v.Scores).set (f.Player).toNat (splice (Enc.e s) 0 [.v (.int .i64 (min (s+f.Add) 1000000))]):=by
  rw[hS,Yg,hq]; rfl
 have hP:wR (faultS f v) [] = [.row 1 (els v.Level.Rows),.row 1 ((els v.Scores).set (f.Player).toNat (splice (Enc.e s) 0 [.v (.int .i64 (min (s+f.Add) 1000000))])),.row 9 (els v.Bodies)]:=by rw[←hE]; rfl
 rw[hP]
 rw[k1] at cf
 have k2':decide (v.Tick=f.Tick)=true:=Gqb k2
 have k3:decide (w.Tick<f.Tick)=true:=Gqb (by omega)
 refine Con.of Tryz.func172 J Tryz.ntmps172 J (fun E => ?_)
 refine Wz [147,163,124,220,103,31,10,12] ?_;refine zx (Qj J J (cf) J) J ?_;refine Wz [24,101,8,26,24,101,84,110] ?_
 refine AWP.pre (st':=(⟨_,[(3,.o (.c (.ptr 0 0))),(5,.o (.c (.ptr 1 0))),(6,.o (.c (.ptr 2 0))),(7,.o (.c (.ptr 6 0)))],[.box (wD w),.box [jn f.Tick,jn f.Player,jn f.Add],.box [nv,jn 0,jn 0,nv,nv],.row 1 (els v.Level.Rows),.row 1 (els v.Scores),.row 9 (els v.Bodies),.box [.ref 3,jn v.Tick,jn v.Seed,.ref 4,.ref 5]]⟩:St)) ?_ (Ua [0,1,2,3,4,5,6])
 rw[←hq] at he
 refine Xi u8_42 [[],[30],[],[32],[],[34],[],[36],[34,35,36,37],[34,35,36,37,38],[],[40],[34,35,36,37,38,39,40,41],[34,35,36,37,38,39,40,41,42],[30,31,32,33,34,35,36,37,38,39,40,41,42,43],[30,31,32,33,34,35,36,37,38,39,40,41,42,43,44]] [[32,33,34,35,36,37,38,39,40,41,42,43],[32,33,34,35,36,37,38,39,40,41,42,43],[30,31,34,35,36,37,38,39,40,41,42,43],[30,31,34,35,36,37,38,39,40,41,42,43],[30,31,32,33,36,37,40,41],[30,31,32,33,36,37,40,41],[30,31,32,33,34,35,40,41],[30,31,32,33,34,35,40,41],[30,31,32,33,40,41],[30,31,32,33,40,41],[30,31,32,33,34,35,36,37,38,39],[30,31,32,33,34,35,36,37,38,39],[30,31,32,33],[30,31,32,33],[],[]] J ?_;refine Wz [19,19,19,19,134,175,19,292,293,134,9,91,3,89,68] ?_
 exact Xm J J J J (V4 [3,4,5] J J J)
theorem S_Predict (x:TTrack) (t:Nat) (g:Enc.gd x) (ho:trackOk x=true) (ht:t<x.Inputs.length):Con Tryz.prog 214 [] [ag x,ai t] [] (I (inAt t x)):=by
 have hl:=Ye x.Inputs
 have hat:=Yd ht
 have c1:=S_TrackOk x g
 rw[ho] at c1
 have f1:decide ((t:Int)<0)=false:=Gqa (by omega)
 have f2:decide ((t:Int)<((els x.Inputs).length:Int))=true:=Gqb (by omega)
 have e:inAt t x=x.Inputs[t]:=by simp[inAt,Gqc,ht]
 rw[e]
 refine Con.of Tryz.func214 J Tryz.ntmps214 J (fun E => ?_)
 refine Wz [44,14,12,2,170,79] ?_;refine zx (Qj J J (c1) J) J ?_;refine Wz [15,11,13,7,70,23,13,2,51,32,63,182,177,83] ?_
 exact V3 J (V4 [] J J J)
theorem S_RowAt (l:List TTrack) (t:Nat) (g:Enc.gd l) (ho:tracksOk l=true) (htk:t<knownTicks l) (h1000:t≤1000):Con Tryz.prog 171 [] [al l,ai t] [.row 1 (els (rowAt l t))] (.tu [.c (.ref 0),.c (bv true)]):=by
 have hl:=Ye l
 have ht:=known_all htk
 have c1:=S_TracksOk l g
 have c3:=S_KnownTicks l g
 rw[ho] at c1
 have h4:=Kb ho
 have f1:decide ((t:Int)<0)=false:=Gqa (by omega)
 have f4:decide ((t:Int)<((knownTicks l:Nat):Int))=true:=Gqb (by omega)
 have hrl:(rowAt l t).length=l.length:=by simp[rowAt]
 refine Con.of Tryz.func171 J Tryz.ntmps171 J (fun E => ?_)
 refine Wz [1,60,2,1,193,46] ?_;refine zx (Qj J J (c1) J) J ?_;refine Wz [15,11,13,45,42] ?_;refine Xj (fun m st=>∃ k:Nat,k+m=l.length∧(True)∧st=(⟨_,[(0,L l),(1,I t),(6,.o (.c (.ref 0))),(7,I k)],[.row 1 (els ((rowAt l t).take k))]⟩:St)) (l.length) ⟨_,⟨0,by omega,trivial,J⟩,Ua [0]⟩ ?_
 rintro m_A _ ⟨k,hk_A,hp_A,rfl⟩
 have hl2:(els ((rowAt l t).take k)).length=k:=by rw[Ye]; simp; omega
 by_cases h3:k<l.length
 ·have f2:decide ((k:Int)<((els l).length:Int))=true:=Gqb (by omega)
  have hat:=Yd h3
  have hm:=Gqi h3
  have htk:=ht _ hm
  have c2:=S_Predict l[k] t (g.2 _ hm) (all_at ho h3) htk
  refine Wz [18,12,105,16,81,0,119,0] ?_;refine zx (Qj J J (c2) J) J ?_;refine Wz [53,153,82] ?_
  exact⟨l.length-(k+1),by omega,(fun k:Nat=>(⟨_,[(0,L l),(1,I t),(6,.o (.c (.ref 0))),(7,I k)],[.row 1 (els ((rowAt l t).take k))]⟩:St)) (k+1),⟨k+1,by omega,trivial,J⟩,V0 [0] J (Zy (rowAt_next h3)) (.c J (.c J (.c J (.c J (.nil)))))⟩
 have f2:decide ((k:Int)<((els l).length:Int))=false:=Gqa (by omega)
 have hk:(rowAt l t).take k=rowAt l t:=Gq3 (by omega)
 rw[hk]
 refine Wz [18,12,13,130,29,23,0] ?_;refine zx (Qj J J (c3) J) J ?_;refine Wz [13,60,48] ?_
 exact Xq J J J (V4 [0] J J J)
theorem S_Replayed (x:TPeer) (t:Nat) (h:PeerIn x) (ok:peerOk x=true) (ht:t≤knownTicks x.Tracks) (h1000:t≤1000):Con Tryz.prog 88 [] [ag x,ai t] (wR (runF x.Base.Level x.Tracks.length x.Seed x.Tracks x.Fault t) []) (.tu [.ag [.ref 0,jn (runF x.Base.Level x.Tracks.length x.Seed x.Tracks x.Fault t).Tick,jn (runF x.Base.Level x.Tracks.length x.Seed x.Tracks x.Fault t).Seed,.ref 1,.ref 2],.c (bv true)]):=by
 have c1:=S_PeerOk x h.gd
 rw[ok] at c1
 have ⟨⟨o1,o2,_⟩,_,_,⟨⟨s1,s2⟩,_⟩,_⟩:=Y4 ok
 have hts:=Kb o1
 obtain⟨_,_,_,_,gT,gB,gN,gU,gS,gM,gF,_,_⟩:=h.gd
 have hlt:=Ye x.Tracks
 have hR:=runF_in (f:=x.Fault) (Kd o2).1 gB.1 h.bw.1 ⟨hts.1,hts.2⟩ (Yr.2 ⟨s1,s2⟩) gT ht
 have c2:=S_KnownTicks x.Tracks gT
 have cin:=Xz (t:Int) 0 ((knownTicks x.Tracks:Nat):Int)
 rw[Yr.2 ⟨by omega,by omega⟩] at cin
 have c3:=S_NewWorld x.Base.Level x.Tracks.length x.Seed gB.1 h.bw.1 (Kd o2).1 ⟨hts.1,hts.2⟩ (Yr.2 ⟨s1,s2⟩)
 rw[show newWorld x.Base.Level x.Tracks.length x.Seed=runF x.Base.Level x.Tracks.length x.Seed x.Tracks x.Fault 0 from rfl,←hlt] at c3
 rw[←hlt] at hR ⊢
 obtain⟨W,hW⟩:∃ W,W=runF x.Base.Level (els x.Tracks).length x.Seed x.Tracks x.Fault:=⟨_,rfl⟩
 rw[←hW] at hR c3 ⊢
 refine Con.of Tryz.func88 J Tryz.ntmps88 J (fun E => ?_)
 refine Wz [194,61,2,31] ?_;refine zx (Qj J J (c1) J) J ?_;refine Wz [15,11,101] ?_;refine zx (Qj J J (c2) J) J ?_;refine z5 J ?_;refine zx (Qj J J (cin) J) J ?_;refine Wz [71,45,1,171,247,10,12,10] ?_;refine M1 (Zc J J (c3) J J J) J J ?_;refine Wz [138,56,56,61,33,2,42] ?_;refine Xj (fun m st=>∃ k:Nat,k+m=t∧(True)∧st=(⟨_,[(1,I t),(2,.o (.c (.ptr 0 0))),(4,.o (.c (.ptr 1 0))),(6,.o (.c (.ptr 5 0))),(8,I k)],[.box (pD x),.box [nv,jn 0,jn 0,nv,nv],.row 1 (els (W k).Level.Rows),.row 1 (els (W k).Scores),.row 9 (els (W k).Bodies),.box [.ref 2,jn (W k).Tick,jn (W k).Seed,.ref 3,.ref 4]]⟩:St)) (t) ⟨_,⟨0,by omega,trivial,J⟩,Ua [0,1,2,3,4,5]⟩ ?_
 rintro m_A _ ⟨k,hk_A,hp_A,rfl⟩
 by_cases h3:k<t
 ·have f3:decide ((k:Int)<(t:Int))=true:=Gqb (by omega)
  have c4:=S_RowAt x.Tracks k gT o1 (by omega) (by omega)
  have hw:=hR.wi k (by omega)
  have c5:=S_FaultyStep (W k) (rowAt x.Tracks k) x.Fault hw.gd (hR.gr k h3) gF hw.h1 hw.h2 hw.h3 (hR.sl_ k h3) (hR.ss k h3) (hR.lv k h3)
  rw[←hR.st k h3] at c5
  refine Wz [18,105,16,32] ?_;refine M1 (Zc J J (c4) J J J) J J ?_;refine Wz [138,56,56,60,2,115,39,0,247] ?_;refine M1 (Zc J J (c5) J J J) J J ?_;refine Wz [33,52,135] ?_
  exact⟨t-(k+1),by omega,_,⟨k+1,by omega,trivial,J⟩,Ua [0,1,7,8,9,5]⟩
 have f3:decide ((k:Int)<(t:Int))=false:=Gqa (by omega)
 have hkt:k=t:=by omega
 subst hkt
 refine Wz [18,13,130,29,79,33,48] ?_
 exact Xn J J J J J (V4 [2,3,4] J J J)
end
section
open Go.RowKit

def huntG (a b:List Int) (lo hi s:Nat):Nat×Nat:=if hi-lo<2 then (hi,s) else if a.getD ((lo+hi)/2) 0=b.getD ((lo+hi)/2) 0 then huntG a b ((lo+hi)/2) hi (s+1) else huntG a b lo ((lo+hi)/2) (s+1)
termination_by hi-lo
decreasing_by all_goals omega
theorem huntG_end {a b:List Int} {lo hi s:Nat} (h:hi-lo<2):huntG a b lo hi s=(hi,s):=by rw[huntG,if_pos h]
theorem huntG_up {a b:List Int} {lo hi s:Nat} (h:¬hi-lo<2) (h2:a.getD ((lo+hi)/2) 0=b.getD ((lo+hi)/2) 0):huntG a b lo hi s=huntG a b ((lo+hi)/2) hi (s+1):=by rw[huntG,if_neg h,if_pos h2]
theorem huntG_dn {a b:List Int} {lo hi s:Nat} (h:¬hi-lo<2) (h2:¬a.getD ((lo+hi)/2) 0=b.getD ((lo+hi)/2) 0):huntG a b lo hi s=huntG a b lo ((lo+hi)/2) (s+1):=by rw[huntG,if_neg h,if_neg h2]
def lastH (a b:List Int):Nat:=min a.length b.length-1
def startH (a b:List Int):Bool:=decide (0<a.length∧0<b.length)&&decide (a.getD 0 0=b.getD 0 0) && !decide (a.getD (lastH a b) 0=b.getD (lastH a b) 0)
def hunted (a b:List Int):Int×Int:=if startH a b=true then (((huntG a b 0 (lastH a b) 2).1:Nat),((huntG a b 0 (lastH a b) 2).2:Nat)) else (-1,0)
theorem getH {a:List Int} {k:Nat} (h:k<a.length):a.getD k 0=a[k]:=by simp[Gqc,h]
theorem I_Agree (a b:List Int) (k:Nat) (ha:k<a.length) (hb:k<b.length):Con Tryz.prog 139 [] [al a,al b,ai k] [] (B (decide (a.getD k 0=b.getD k 0))):=by
 rw[getH ha,getH hb]
 have hla:=Ye a
 have hlb:=Ye b
 have e1:=Yd ha
 have e2:=Yd hb
 have f1:decide (0≤(k:Int))=true:=Gqb (by omega)
 have f2:decide ((k:Int)<((els a).length:Int))=true:=Gqb (by omega)
 have f3:decide ((k:Int)<((els b).length:Int))=true:=Gqb (by omega)
 refine Con.of Tryz.func139 J Tryz.ntmps139 J (fun E => ?_)
 refine Wz [34,17] ?_;refine Xi u8_51 u8_52 u8_53 J ?_;refine Wz [4,180,4,66,66,199,283,55,4,66,66,199,283,55,4,66,66,96,139,66,66,96,139,282,55,167,9,3,68] ?_
 exact V3 J (V4 [] J J J)
theorem I_PrNo (lo hi:Nat) (s:Int) (h:lo<hi) (h2:hi-lo<2) (hm:hi≤1000):Con Tryz.prog 137 [] [.ag [jn lo,jn hi,jn s]] [] (I (-1)):=by
 have f1:decide ((1000000:Int)<hi)=false:=Gqa (by omega)
 have f3:decide ((lo:Int)<0)=false:=Gqa (by omega)
 by_cases h3:hi<2
 ·have f2:decide ((hi:Int)<2)=true:=Gqb (by omega)
  refine Con.of Tryz.func137 J Tryz.ntmps137 J (fun E => ?_)
  refine Wz [44,21,84,24,13,7,95,77,26,78,131,26,57] ?_
  exact V3 J (V4 [] J J J)
 have f2:decide ((hi:Int)<2)=false:=Gqa (by omega)
 have f4:decide ((hi:Int)-2<lo)=true:=Gqb (by omega)
 refine Con.of Tryz.func137 J Tryz.ntmps137 J (fun E => ?_)
 refine Wz [44,21,84,24,13,7,24,13,7,24,101,35,5,84,7,57] ?_
 exact V3 J (V4 [] J J J)
theorem I_Pr (lo hi:Nat) (s:Int) (h:lo+2≤hi) (hm:hi≤1000):Con Tryz.prog 137 [] [.ag [jn lo,jn hi,jn s]] [] (I ((lo+hi)/2:Nat)):=by
 have f1:decide ((1000000:Int)<hi)=false:=Gqa (by omega)
 have f2:decide ((hi:Int)<2)=false:=Gqa (by omega)
 have f3:decide ((lo:Int)<0)=false:=Gqa (by omega)
 have f4:decide ((hi:Int)-2<lo)=false:=Gqa (by omega)
 refine Con.of Tryz.func137 J Tryz.ntmps137 J (fun E => ?_)
 refine Wz [44,21,84,24,13,7,24,13,7,24,101,35,5,84,45,14,10,30,185,48] ?_
 exact V3 J (V4 [] J J J)
theorem I_Nar (lo hi m:Nat) (s:Int) (b:Bool) (h:lo+2≤hi) (hm:hi≤1000) (hs:0≤s∧s≤10000) (he:(lo+hi)/2=m) (lo' hi':Nat) (hb:(lo',hi')=if b=true then (m,hi) else (lo,m)):Con Tryz.prog 138 [] [.ag [jn lo,jn hi,jn s],.c (bv b)] [] (.o (.ag [jn lo',jn hi',jn (s+1)])):=by
 have c1:=I_Pr lo hi s h hm
 rw[he] at c1
 have f1:decide ((m:Int)<0)=false:=Gqa (by omega)
 have f2:decide (s<1000000)=true:=Gqb (by omega)
 cases b with
 |true =>
  rw[if_pos rfl] at hb
  cases hb
  refine Con.of Tryz.func138 J Tryz.ntmps138 J (fun E => ?_)
  refine Wz [118,79] ?_;refine zx (Qj J J (c1) J) J ?_;refine Wz [59,21,105,115,10,30,20,36,22,65,20,89,68] ?_
  exact Xm J J J J (V4 [] J J J)
 |false =>
  rw[if_neg (by decide)] at hb
  cases hb
  refine Con.of Tryz.func138 J Tryz.ntmps138 J (fun E => ?_)
  refine Wz [118,79] ?_;refine zx (Qj J J (c1) J) J ?_;refine Wz [59,21,105,115,10,30,20,36,130,65,20,89,68] ?_
  exact Xm J J J J (V4 [] J J J)
theorem I_StNo (a b:List Int) (hL:a.length≤1001) (h:startH a b=false):Con Tryz.prog 136 [] [al a,al b] [] (.tu [.ag [jn 0,jn 0,jn 0],.c (bv false)]):=by
 have hla:=Ye a
 have hlb:=Ye b
 by_cases hp:¬(0<a.length∧0<b.length)
 ·have f1:decide (min ((els a).length:Int) ((els b).length:Int)-1<0)=true:=Gqb (by omega)
  refine Con.of Tryz.func136 J Tryz.ntmps136 J (fun E => ?_)
  refine Wz [1,61,73,112,12,179,35,113,78,26,78,110,1,133,33,116] ?_
  exact Xn J J J J J (V4 [] J J J)
 have hp:=Classical.not_not.1 hp
 have c1:=I_Agree a b 0 hp.1 hp.2
 have e:min ((els a).length:Int) ((els b).length:Int)-1=(lastH a b:Nat):=by unfold lastH; omega
 have c2:=I_Agree a b (lastH a b) (by unfold lastH; omega) (by unfold lastH; omega)
 have f1:decide (((lastH a b:Nat):Int)<0)=false:=Gqa (by omega)
 rw[←e] at c2 f1
 by_cases h0:a.getD 0 0=b.getD 0 0
 ·rw[Gqb h0] at c1
  have h2:a.getD (lastH a b) 0=b.getD (lastH a b) 0:=by
   refine Classical.byContradiction fun hn => ?_
   rw[startH,Gqb hp,Gqb h0,Gqa hn] at h
   cases h
  rw[Gqb h2] at c2
  refine Con.of Tryz.func136 J Tryz.ntmps136 J (fun E => ?_)
  refine Wz [1,61,73,112,12,179,35,113,11,25] ?_;refine zx (Qj J J (c1) J) J ?_;refine Wz [71,7,11,11] ?_;refine zx (Qj J J (c2) J) J ?_;refine Wz [7,22,1,133,33,116] ?_
  exact Xn J J J J J (V4 [] J J J)
 rw[Gqa h0] at c1
 refine Con.of Tryz.func136 J Tryz.ntmps136 J (fun E => ?_)
 refine Wz [1,61,73,112,12,179,35,113,11,25] ?_;refine zx (Qj J J (c1) J) J ?_;refine Wz [71,7,78,110,1,133,33,116] ?_
 exact Xn J J J J J (V4 [] J J J)
theorem I_St (a b:List Int) (hL:a.length≤1001) (h:startH a b=true):Con Tryz.prog 136 [] [al a,al b] [] (.tu [.ag [jn 0,jn (lastH a b),jn 2],.c (bv true)]):=by
 have hla:=Ye a
 have hlb:=Ye b
 rw[startH,Gqg,Gqg,decide_eq_true_eq,decide_eq_true_eq] at h
 obtain⟨⟨hp,h0⟩,h2⟩:=h
 have h2:¬a.getD (lastH a b) 0=b.getD (lastH a b) 0:=by simpa using h2
 have c1:=I_Agree a b 0 hp.1 hp.2
 have e:min ((els a).length:Int) ((els b).length:Int)-1=(lastH a b:Nat):=by unfold lastH; omega
 have c2:=I_Agree a b (lastH a b) (by unfold lastH; omega) (by unfold lastH; omega)
 have f1:decide (((lastH a b:Nat):Int)<0)=false:=Gqa (by omega)
 rw[Gqb h0] at c1
 rw[Gqa h2] at c2
 rw[←e] at c2 f1 ⊢
 refine Con.of Tryz.func136 J Tryz.ntmps136 J (fun E => ?_)
 refine Wz [1,61,73,112,12,179,35,113,11,25] ?_;refine zx (Qj J J (c1) J) J ?_;refine Wz [71,7,11,11] ?_;refine zx (Qj J J (c2) J) J ?_;refine Wz [45,6,133,33,48] ?_
 exact Xn J J J J J (V4 [] J J J)
theorem I_Hunted (a b:List Int) (hL:a.length≤1001):Con Tryz.prog 54 [] [al a,al b] [] (.tu [.c (jn (hunted a b).1),.c (jn (hunted a b).2)]):=by
 cases hs:startH a b with
 |false =>
  have c1:=I_StNo a b hL hs
  rw[show hunted a b=(-1,0) by rw[hunted,hs]; rfl]
  refine Con.of Tryz.func54 J Tryz.ntmps54 J (fun E => ?_)
  refine Wz [1,60,2,23] ?_;refine M1 (Zc J J (c1) J J J) J J ?_;refine Wz [138,56,56,61,33,46,15,22,1,60,116] ?_
  exact Xq J J J (V4 [] J J J)
 |true =>
 have c1:=I_St a b hL hs
 rw[show hunted a b=((((huntG a b 0 (lastH a b) 2).1:Nat):Int),(((huntG a b 0 (lastH a b) 2).2:Nat):Int)) by rw[hunted,hs]; rfl]
 obtain⟨hp1,hp2,hl0⟩:0<a.length∧0<b.length∧0<lastH a b:=by
  rw[startH,Gqg,Gqg,decide_eq_true_eq,decide_eq_true_eq] at hs
  refine⟨hs.1.1.1,hs.1.1.2,Nat.pos_of_ne_zero fun h0 => ?_⟩
  rw[h0,hs.1.2] at hs
  simp at hs
 obtain⟨Lh,hLe⟩:∃ Lh,lastH a b=Lh:=⟨_,rfl⟩
 have hLa:Lh<a.length∧Lh<b.length:=by rw[←hLe]; unfold lastH; omega
 rw[hLe] at c1 hl0 ⊢
 refine Con.of Tryz.func54 J Tryz.ntmps54 J (fun E => ?_)
 refine Wz [1,60,2,23] ?_;refine M1 (Zc J J (c1) J J J) J J ?_;refine Wz [138,56,56,61,33,46,76,170] ?_;refine Xj (fun m__ st=>∃ (lo:Nat) (hi:Nat) (s:Nat),hi-lo=m__∧((lo<hi∧hi≤Lh∧s+(hi-lo)≤Lh+2)∧huntG a b lo hi s=huntG a b 0 Lh 2)∧st=(⟨_,[(0,L a),(1,L b),(6,.o (.c (.ptr 0 0)))],[.box [jn lo,jn hi,jn s]]⟩:St)) _ ⟨_,⟨0,Lh,2,J,⟨by omega,J⟩,J⟩,Ua [0]⟩ ?_
 rintro m_C _ ⟨lo,hi,s,hk_C,hp_C,rfl⟩
 obtain⟨⟨q1,q2,q3⟩,q5⟩:=hp_C
 by_cases h4:hi-lo<2
 ·have c2:=I_PrNo lo hi s (by omega) h4 (by omega)
  have f1:decide ((0:Int) ≤ -1)=false:=Gqa (by omega)
  rw[←q5,huntG_end h4]
  refine Wz [31] ?_;refine zx (Qj J J (c2) J) J ?_;refine Wz [137,130,29,17] ?_;refine Xi u8_54 u8_55 u8_56 J ?_;refine Wz [19,19,167,167,9,3,68] ?_
  exact Xq J J J (V4 [] J J J)
 obtain⟨m,hm⟩:∃ m,(lo+hi)/2=m:=⟨_,rfl⟩
 have c2:=I_Pr lo hi s (by omega) (by omega)
 rw[hm] at c2
 have f1:decide ((0:Int)≤(m:Int))=true:=Gqb (by omega)
 have c3:=I_Agree a b m (by omega) (by omega)
 have es:(s:Int)+1=((s+1:Nat):Int):=by omega
 by_cases h5:a.getD m 0=b.getD m 0
 ·rw[Gqb h5] at c3
  have c4:=I_Nar lo hi m s true (by omega) (by omega) (by omega) hm m hi rfl
  rw[es] at c4
  refine Wz [31] ?_;refine zx (Qj J J (c2) J) J ?_;refine Wz [137,22,27,64,284,72,104,72] ?_;refine Ki (Qj J J (c2) J) J ?_;refine Ki (Qj J J (c3) J) J ?_;refine Ki (Zc J J (c4) J J J) J ?_;refine Wz [9,33,52,150] ?_
  refine⟨_,(by omega),_,⟨m,hi,s+1,J,⟨by omega,by rw[←q5,huntG_up h4 (by rw[hm]; exact h5),hm]⟩,J⟩,Ua [0]⟩
 ·rw[Gqa h5] at c3
  have c4:=I_Nar lo hi m s false (by omega) (by omega) (by omega) hm lo m rfl
  rw[es] at c4
  refine Wz [31] ?_;refine zx (Qj J J (c2) J) J ?_;refine Wz [137,22,27,64,284,72,104,72] ?_;refine Ki (Qj J J (c2) J) J ?_;refine Ki (Qj J J (c3) J) J ?_;refine Ki (Zc J J (c4) J J J) J ?_;refine Wz [9,33,52,150] ?_
  refine⟨_,(by omega),_,⟨lo,m,s+1,J,⟨by omega,by rw[←q5,huntG_dn h4 (by rw[hm]; exact h5),hm]⟩,J⟩,Ua [0]⟩
theorem S_Agree (a b:List Int) (k:Nat) (ha:k<a.length) (hb:k<b.length):Con Tryz.prog 170 [] [al a,al b,ai k] [] (B (decide (a.getD k 0=b.getD k 0))):=by
 rw[getH ha,getH hb]
 have hla:=Ye a
 have hlb:=Ye b
 have e1:=Yd ha
 have e2:=Yd hb
 have f1:decide (0≤(k:Int))=true:=Gqb (by omega)
 have f2:decide ((k:Int)<((els a).length:Int))=true:=Gqb (by omega)
 have f3:decide ((k:Int)<((els b).length:Int))=true:=Gqb (by omega)
 refine Con.of Tryz.func170 J Tryz.ntmps170 J (fun E => ?_)
 refine Wz [34,17] ?_;refine Xi u8_51 u8_52 u8_53 J ?_;refine Wz [4,180,4,66,66,199,283,55,4,66,66,199,283,55,4,66,66,96,139,66,66,96,139,282,55,167,9,3,68] ?_
 exact V3 J (V4 [] J J J)
theorem S_PrNo (lo hi:Nat) (s:Int) (h:lo<hi) (h2:hi-lo<2) (hm:hi≤1000):Con Tryz.prog 168 [] [.ag [jn lo,jn hi,jn s]] [] (I (-1)):=by
 have f1:decide ((1000000:Int)<hi)=false:=Gqa (by omega)
 have f3:decide ((lo:Int)<0)=false:=Gqa (by omega)
 by_cases h3:hi<2
 ·have f2:decide ((hi:Int)<2)=true:=Gqb (by omega)
  refine Con.of Tryz.func168 J Tryz.ntmps168 J (fun E => ?_)
  refine Wz [44,21,13,24,84,7,24,13,7,78,131,26,57] ?_
  exact V3 J (V4 [] J J J)
 have f2:decide ((hi:Int)<2)=false:=Gqa (by omega)
 have f4:decide ((hi:Int)-2<lo)=true:=Gqb (by omega)
 refine Con.of Tryz.func168 J Tryz.ntmps168 J (fun E => ?_)
 refine Wz [44,21,13,24,84,7,24,13,7,24,101,35,5,84,7,57] ?_
 exact V3 J (V4 [] J J J)
theorem S_Pr (lo hi:Nat) (s:Int) (h:lo+2≤hi) (hm:hi≤1000):Con Tryz.prog 168 [] [.ag [jn lo,jn hi,jn s]] [] (I ((lo+hi)/2:Nat)):=by
 have f1:decide ((1000000:Int)<hi)=false:=Gqa (by omega)
 have f2:decide ((hi:Int)<2)=false:=Gqa (by omega)
 have f3:decide ((lo:Int)<0)=false:=Gqa (by omega)
 have f4:decide ((hi:Int)-2<lo)=false:=Gqa (by omega)
 refine Con.of Tryz.func168 J Tryz.ntmps168 J (fun E => ?_)
 refine Wz [44,21,13,24,84,7,24,13,7,24,101,35,5,84,45,14,10,30,185,48] ?_
 exact V3 J (V4 [] J J J)
theorem S_Nar (lo hi m:Nat) (s:Int) (b:Bool) (h:lo+2≤hi) (hm:hi≤1000) (hs:0≤s∧s≤10000) (he:(lo+hi)/2=m) (lo' hi':Nat) (hb:(lo',hi')=if b=true then (m,hi) else (lo,m)):Con Tryz.prog 169 [] [.ag [jn lo,jn hi,jn s],.c (bv b)] [] (.o (.ag [jn lo',jn hi',jn (s+1)])):=by
 have c1:=S_Pr lo hi s h hm
 rw[he] at c1
 have f1:decide ((m:Int)<0)=false:=Gqa (by omega)
 have f2:decide (s<1000000)=true:=Gqb (by omega)
 cases b with
 |true =>
  rw[if_pos rfl] at hb
  cases hb
  refine Con.of Tryz.func169 J Tryz.ntmps169 J (fun E => ?_)
  refine Wz [118,79] ?_;refine zx (Qj J J (c1) J) J ?_;refine Wz [59,21,105,115,10,30,20,36,22,65,20,89,68] ?_
  exact Xm J J J J (V4 [] J J J)
 |false =>
  rw[if_neg (by decide)] at hb
  cases hb
  refine Con.of Tryz.func169 J Tryz.ntmps169 J (fun E => ?_)
  refine Wz [118,79] ?_;refine zx (Qj J J (c1) J) J ?_;refine Wz [59,21,105,115,10,30,20,36,130,65,20,89,68] ?_
  exact Xm J J J J (V4 [] J J J)
theorem S_StNo (a b:List Int) (hL:a.length≤1001) (h:startH a b=false):Con Tryz.prog 167 [] [al a,al b] [] (.tu [.ag [jn 0,jn 0,jn 0],.c (bv false)]):=by
 have hla:=Ye a
 have hlb:=Ye b
 by_cases hp:¬(0<a.length∧0<b.length)
 ·have f1:decide (min ((els a).length:Int) ((els b).length:Int)-1<0)=true:=Gqb (by omega)
  refine Con.of Tryz.func167 J Tryz.ntmps167 J (fun E => ?_)
  refine Wz [1,61,73,112,12,179,35,113,78,26,78,110,1,133,33,116] ?_
  exact Xn J J J J J (V4 [] J J J)
 have hp:=Classical.not_not.1 hp
 have c1:=S_Agree a b 0 hp.1 hp.2
 have e:min ((els a).length:Int) ((els b).length:Int)-1=(lastH a b:Nat):=by unfold lastH; omega
 have c2:=S_Agree a b (lastH a b) (by unfold lastH; omega) (by unfold lastH; omega)
 have f1:decide (((lastH a b:Nat):Int)<0)=false:=Gqa (by omega)
 rw[←e] at c2 f1
 by_cases h0:a.getD 0 0=b.getD 0 0
 ·rw[Gqb h0] at c1
  have h2:a.getD (lastH a b) 0=b.getD (lastH a b) 0:=by
   refine Classical.byContradiction fun hn => ?_
   rw[startH,Gqb hp,Gqb h0,Gqa hn] at h
   cases h
  rw[Gqb h2] at c2
  refine Con.of Tryz.func167 J Tryz.ntmps167 J (fun E => ?_)
  refine Wz [1,61,73,112,12,179,35,113,11,25] ?_;refine zx (Qj J J (c1) J) J ?_;refine Wz [71,7,11,11] ?_;refine zx (Qj J J (c2) J) J ?_;refine Wz [7,22,1,133,33,116] ?_
  exact Xn J J J J J (V4 [] J J J)
 rw[Gqa h0] at c1
 refine Con.of Tryz.func167 J Tryz.ntmps167 J (fun E => ?_)
 refine Wz [1,61,73,112,12,179,35,113,11,25] ?_;refine zx (Qj J J (c1) J) J ?_;refine Wz [71,7,78,110,1,133,33,116] ?_
 exact Xn J J J J J (V4 [] J J J)
theorem S_St (a b:List Int) (hL:a.length≤1001) (h:startH a b=true):Con Tryz.prog 167 [] [al a,al b] [] (.tu [.ag [jn 0,jn (lastH a b),jn 2],.c (bv true)]):=by
 have hla:=Ye a
 have hlb:=Ye b
 rw[startH,Gqg,Gqg,decide_eq_true_eq,decide_eq_true_eq] at h
 obtain⟨⟨hp,h0⟩,h2⟩:=h
 have h2:¬a.getD (lastH a b) 0=b.getD (lastH a b) 0:=by simpa using h2
 have c1:=S_Agree a b 0 hp.1 hp.2
 have e:min ((els a).length:Int) ((els b).length:Int)-1=(lastH a b:Nat):=by unfold lastH; omega
 have c2:=S_Agree a b (lastH a b) (by unfold lastH; omega) (by unfold lastH; omega)
 have f1:decide (((lastH a b:Nat):Int)<0)=false:=Gqa (by omega)
 rw[Gqb h0] at c1
 rw[Gqa h2] at c2
 rw[←e] at c2 f1 ⊢
 refine Con.of Tryz.func167 J Tryz.ntmps167 J (fun E => ?_)
 refine Wz [1,61,73,112,12,179,35,113,11,25] ?_;refine zx (Qj J J (c1) J) J ?_;refine Wz [71,7,11,11] ?_;refine zx (Qj J J (c2) J) J ?_;refine Wz [45,6,133,33,48] ?_
 exact Xn J J J J J (V4 [] J J J)
theorem S_Hunted (a b:List Int) (hL:a.length≤1001):Con Tryz.prog 87 [] [al a,al b] [] (.tu [.c (jn (hunted a b).1),.c (jn (hunted a b).2)]):=by
 cases hs:startH a b with
 |false =>
  have c1:=S_StNo a b hL hs
  rw[show hunted a b=(-1,0) by rw[hunted,hs]; rfl]
  refine Con.of Tryz.func87 J Tryz.ntmps87 J (fun E => ?_)
  refine Wz [1,60,2,23] ?_;refine M1 (Zc J J (c1) J J J) J J ?_;refine Wz [138,56,56,61,33,46,15,22,1,60,116] ?_
  exact Xq J J J (V4 [] J J J)
 |true =>
 have c1:=S_St a b hL hs
 rw[show hunted a b=((((huntG a b 0 (lastH a b) 2).1:Nat):Int),(((huntG a b 0 (lastH a b) 2).2:Nat):Int)) by rw[hunted,hs]; rfl]
 obtain⟨hp1,hp2,hl0⟩:0<a.length∧0<b.length∧0<lastH a b:=by
  rw[startH,Gqg,Gqg,decide_eq_true_eq,decide_eq_true_eq] at hs
  refine⟨hs.1.1.1,hs.1.1.2,Nat.pos_of_ne_zero fun h0 => ?_⟩
  rw[h0,hs.1.2] at hs
  simp at hs
 obtain⟨Lh,hLe⟩:∃ Lh,lastH a b=Lh:=⟨_,rfl⟩
 have hLa:Lh<a.length∧Lh<b.length:=by rw[←hLe]; unfold lastH; omega
 rw[hLe] at c1 hl0 ⊢
 refine Con.of Tryz.func87 J Tryz.ntmps87 J (fun E => ?_)
 refine Wz [1,60,2,23] ?_;refine M1 (Zc J J (c1) J J J) J J ?_;refine Wz [138,56,56,61,33,46,76,170] ?_;refine Xj (fun m__ st=>∃ (lo:Nat) (hi:Nat) (s:Nat),hi-lo=m__∧((lo<hi∧hi≤Lh∧s+(hi-lo)≤Lh+2)∧huntG a b lo hi s=huntG a b 0 Lh 2)∧st=(⟨_,[(0,L a),(1,L b),(6,.o (.c (.ptr 0 0)))],[.box [jn lo,jn hi,jn s]]⟩:St)) _ ⟨_,⟨0,Lh,2,J,⟨by omega,J⟩,J⟩,Ua [0]⟩ ?_
 rintro m_C _ ⟨lo,hi,s,hk_C,hp_C,rfl⟩
 obtain⟨⟨q1,q2,q3⟩,q5⟩:=hp_C
 by_cases h4:hi-lo<2
 ·have c2:=S_PrNo lo hi s (by omega) h4 (by omega)
  have f1:decide ((0:Int) ≤ -1)=false:=Gqa (by omega)
  rw[←q5,huntG_end h4]
  refine Wz [31] ?_;refine zx (Qj J J (c2) J) J ?_;refine Wz [137,130,29,17] ?_;refine Xi u8_54 u8_55 u8_56 J ?_;refine Wz [19,19,167,167,9,3,68] ?_
  exact Xq J J J (V4 [] J J J)
 obtain⟨m,hm⟩:∃ m,(lo+hi)/2=m:=⟨_,rfl⟩
 have c2:=S_Pr lo hi s (by omega) (by omega)
 rw[hm] at c2
 have f1:decide ((0:Int)≤(m:Int))=true:=Gqb (by omega)
 have c3:=S_Agree a b m (by omega) (by omega)
 have es:(s:Int)+1=((s+1:Nat):Int):=by omega
 by_cases h5:a.getD m 0=b.getD m 0
 ·rw[Gqb h5] at c3
  have c4:=S_Nar lo hi m s true (by omega) (by omega) (by omega) hm m hi rfl
  rw[es] at c4
  refine Wz [31] ?_;refine zx (Qj J J (c2) J) J ?_;refine Wz [137,22,27,64,284,72,104,72] ?_;refine Ki (Qj J J (c2) J) J ?_;refine Ki (Qj J J (c3) J) J ?_;refine Ki (Zc J J (c4) J J J) J ?_;refine Wz [9,33,52,150] ?_
  refine⟨_,(by omega),_,⟨m,hi,s+1,J,⟨by omega,by rw[←q5,huntG_up h4 (by rw[hm]; exact h5),hm]⟩,J⟩,Ua [0]⟩
 ·rw[Gqa h5] at c3
  have c4:=S_Nar lo hi m s false (by omega) (by omega) (by omega) hm lo m rfl
  rw[es] at c4
  refine Wz [31] ?_;refine zx (Qj J J (c2) J) J ?_;refine Wz [137,22,27,64,284,72,104,72] ?_;refine Ki (Qj J J (c2) J) J ?_;refine Ki (Qj J J (c3) J) J ?_;refine Ki (Zc J J (c4) J J J) J ?_;refine Wz [9,33,52,150] ?_
  refine⟨_,(by omega),_,⟨lo,m,s+1,J,⟨by omega,by rw[←q5,huntG_dn h4 (by rw[hm]; exact h5),hm]⟩,J⟩,Ua [0]⟩
end
end Go.Proofs.YtpmacgnmlmmojaaGreatDoor
