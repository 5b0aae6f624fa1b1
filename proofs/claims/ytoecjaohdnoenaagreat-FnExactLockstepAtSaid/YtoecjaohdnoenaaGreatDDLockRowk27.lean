/-
  Rules, data and contracts of functions: part 28 of the proof.
  Conditions: those that each theorem names.
-/
import Derived.Test.YtoecjaohdnoenaaGreatDDLockRowk26
set_option linter.unusedSimpArgs false
set_option linter.unusedVariables false
set_option maxRecDepth 8000
set_option maxHeartbeats 8000000
namespace Go.Proofs.YtoecjaohdnoenaaGreat
section
open Go.RowKit

def faultS (f:TFault) (w:TWorld):TWorld:=⟨w.Level,w.Tick,w.Seed,w.Scores.set f.Player.toNat (min (w.Scores.getD f.Player.toNat 0+f.Add) 1000000),w.Bodies⟩
def faultD (f:TFault) (w v:TWorld):Prop:=faultOk f w.Scores.length=true∧v.Tick=f.Tick∧w.Tick<v.Tick
noncomputable instance (f:TFault) (w v:TWorld):Decidable (faultD f w v):=Classical.propDecidable _
noncomputable def stepF (w:TWorld) (row:List Int) (f:TFault):TWorld:=if faultD f w (stepW w row) then faultS f (stepW w row) else stepW w row
theorem I_FaultyStep (w:TWorld) (row:List Int) (f:TFault) (hg:Enc.gd w) (gr:Enc.gd row) (gf:Enc.gd f) (h1:w.Level.Rows.length≤1048576) (h2:w.Scores.length≤1048576) (h3:w.Bodies.length≤1048576) (hl:(stepW w row).Scores.length=w.Scores.length) (hs:∀ x∈(stepW w row).Scores,0≤x∧x≤1000000) (hlv:(stepW w row).Level=w.Level):Con Tryz.prog 140 [] [ag w,al row,ag f] (wR (stepF w row f) []) (.o (.ag [.ref 0,jn (stepF w row f).Tick,jn (stepF w row f).Seed,.ref 1,.ref 2])):=by
 have cs:=I_StepWorld w row hg gr h1 h2 h3
 have hls:=Yc w.Scores
 have cf:=I_FaultOk f (els w.Scores).length (by omega)
 rw[←hlv] at cs
 rw[show faultOk f ((els w.Scores).length:Int)=faultOk f w.Scores.length by rw[hls]] at cf
 obtain⟨_,gt,_,_,_⟩:=hg
 obtain⟨ft,fp,fa⟩:=gf
 unfold stepF
 obtain⟨v,hv⟩:∃ v,stepW w row=v:=⟨_,rfl⟩
 rw[hv] at cs hl hs ⊢
 by_cases hd:faultD f w v
 case neg =>
  rw[if_neg hd]
  by_cases k1:faultOk f w.Scores.length=true
  case neg =>
   have k1:faultOk f w.Scores.length=false:=by simpa using k1
   rw[k1] at cf
   refine Con.of Tryz.func140 J Tryz.ntmps140 J (fun E => ?_)
   refine Wz [144,60,30,0,223,46,20,93,21,10] ?_;refine zx (Qj J J (cf) J) J ?_;refine Wz [2,40,56,101,24,40,56,101,24,11,30,20,88,55] ?_
   exact Xm J J J J (Ur [3,4,5] J J J)
  rw[k1] at cf
  by_cases k2:v.Tick=f.Tick
  case neg =>
   have k2':decide (v.Tick≠f.Tick)=true:=Gqb k2
   refine Con.of Tryz.func140 J Tryz.ntmps140 J (fun E => ?_)
   refine Wz [144,60,30,0,223,46,20,93,21,10] ?_;refine zx (Qj J J (cf) J) J ?_;refine Wz [2,58,120,49,7,40,56,101,24,11,30,20,88,55] ?_
   exact Xm J J J J (Ur [3,4,5] J J J)
  have k2':decide (v.Tick≠f.Tick)=false:=Gqa (fun h=>h k2)
  have k3:decide (v.Tick≤w.Tick)=true:=Gqb (by
   refine Int.not_lt.1 fun h=>hd ⟨k1,k2,h⟩)
  refine Con.of Tryz.func140 J Tryz.ntmps140 J (fun E => ?_)
  refine Wz [144,60,30,0,223,46,20,93,21,10] ?_;refine zx (Qj J J (cf) J) J ?_;refine Wz [2,58,120,49,7,58,120,272,7,11,30,20,88,55] ?_
  exact Xm J J J J (Ur [3,4,5] J J J)
 rw[if_pos hd]
 obtain⟨k1,k2,k3⟩:=hd
 have hfo:=k1
 unfold faultOk at hfo
 simp only[Gqh,decide_eq_true_eq,Yq] at hfo
 obtain⟨⟨⟨_,p0⟩,p1⟩,a1⟩:=hfo
 obtain⟨q,hq⟩:∃ q:Nat,f.Player=q:=⟨f.Player.toNat,by omega⟩
 obtain⟨s,hsq⟩:=Kk (xs:=v.Scores) (i:=q) (by omega)
 have he:=Yf hsq
 have hlv2:=Yc v.Scores
 have hs0:=hs s (Gqo hsq)
 have hS:(faultS f v).Scores=v.Scores.set q (min (s+f.Add) 1000000):=by
  unfold faultS
  rw[hq]
  simp only[Int.toNat_natCast,Gqe,hsq,Option.getD_some]
 have hE:els (faultS f v).Scores=(els v.Scores).set (f.Player).toNat (splice (Enc.e s) 0 [.v (.int .i64 (min (s+f.Add) 1000000))]):=by
  rw[hS,Ye,hq]; rfl
 have hP:wR (faultS f v) [] = [.row 1 (els v.Level.Rows),.row 1 ((els v.Scores).set (f.Player).toNat (splice (Enc.e s) 0 [.v (.int .i64 (min (s+f.Add) 1000000))])),.row 9 (els v.Bodies)]:=by rw[←hE]; rfl
 rw[hP]
 rw[k1] at cf
 have k2':decide (v.Tick≠f.Tick)=false:=Gqa (fun h=>h k2)
 have k3:decide (v.Tick≤w.Tick)=false:=Gqa (by omega)
 refine Con.of Tryz.func140 J Tryz.ntmps140 J (fun E => ?_)
 refine Wz [144,60,30,0,223,46,20,93,21,10] ?_;refine zx (Qj J J (cf) J) J ?_;refine Wz [2,58,120,49,7,58,120,272,7,9,14] ?_
 refine AWP.pre (st':=(⟨_,[(3,.o (.c (.ptr 0 0))),(5,.o (.c (.ptr 1 0))),(6,.o (.c (.ptr 2 0))),(7,.o (.c (.ptr 6 0)))],[.box (wD w),.box [jn f.Tick,jn f.Player,jn f.Add],.box [nv,jn 0,jn 0,nv,nv],.row 1 (els v.Level.Rows),.row 1 (els v.Scores),.row 9 (els v.Bodies),.box [.ref 3,jn v.Tick,jn v.Seed,.ref 4,.ref 5]]⟩:St)) ?_ (Ux [0,1,2,3,4,5,6])
 rw[←hq] at he
 refine Xi u8_42 [[],[32],[],[34],[],[36],[],[38],[36,37,38,39],[36,37,38,39,40],[],[42],[36,37,38,39,40,41,42,43],[36,37,38,39,40,41,42,43,44],[32,33,34,35,36,37,38,39,40,41,42,43,44,45],[32,33,34,35,36,37,38,39,40,41,42,43,44,45,46]] [[34,35,36,37,38,39,40,41,42,43,44,45],[34,35,36,37,38,39,40,41,42,43,44,45],[32,33,36,37,38,39,40,41,42,43,44,45],[32,33,36,37,38,39,40,41,42,43,44,45],[32,33,34,35,38,39,42,43],[32,33,34,35,38,39,42,43],[32,33,34,35,36,37,42,43],[32,33,34,35,36,37,42,43],[32,33,34,35,42,43],[32,33,34,35,42,43],[32,33,34,35,36,37,38,39,40,41],[32,33,34,35,36,37,38,39,40,41],[32,33,34,35],[32,33,34,35],[],[]] J ?_;refine Wz [32,32,32,32,152,201,32] ?_;refine Kw (Qs J J J J (by omega)) J (Kw (q_min J J J J) J ?_);refine Wz [152,16,112,6,30,20,94] ?_
 exact Xm J J J J (Ur [3,4,5] J J J)
end
section
open Go.RowKit

theorem tail_bodyM {l:TLevel} {n:Nat} {b:TBody} (h:BM l n b) (ht:tailM b=true):bodyM l n b=true:=by
 obtain⟨hk,ho,hp,hvx,hvy,hf⟩:=h
 simp only[bodyM,Gqh,Gq8,Yq]
 exact⟨hk,⟨ho.1,by omega⟩,hp,hvx,hvy,ht⟩
theorem tail_of {l:TLevel} {n:Int} {b:TBody} (h:bodyM l n b=true):tailM b=true:=by
 simp only[bodyM,Gqh] at h
 exact h.2.2.2.2.2
theorem tail_pl {b:TBody} (h:b.Kind=0):tailM b=true↔(b.Aim=1∨b.Aim = -1)∧(0≤b.Life∧b.Life≤3)∧(b.Life=0→1≤b.Timer∧b.Timer≤20)∧(b.Life≠0→0≤b.Timer∧b.Timer≤12):=by
 unfold tailM
 rw[if_pos h,Gqh,Gqh,decide_eq_true_eq,Yq]
 constructor
 ·rintro⟨⟨h1,h2⟩,h3⟩
  refine⟨h1,h2,fun e => ?_,fun e => ?_⟩
  ·rw[if_pos e] at h3; exact Yq.1 h3
  ·rw[if_neg e] at h3; exact Yq.1 h3
 ·rintro⟨h1,h2,h3,h4⟩
  refine⟨⟨h1,h2⟩,?_⟩
  split
  ·exact Yq.2 (h3 (by assumption))
  ·exact Yq.2 (h4 (by assumption))
theorem tail_shot {b:TBody} (h:b.Kind=1):tailM b=true↔(b.Aim=0∧b.Life=0)∧(1≤b.Timer∧b.Timer≤25):=by
 unfold tailM
 rw[if_neg (by omega),if_pos h,Gqh,decide_eq_true_eq,Yq]
structure TK (n:Nat) (bs:List TBody):Prop where
 tl:∀ b∈bs,tailM b=true
 ow:∀ k,k<n→∀ b,bs[k]? = some b→b.Owner=k
theorem TK.set {n k:Nat} {bs:List TBody} {b c:TBody} (h:TK n bs) (hb:bs[k]? = some b) (h1:tailM c=true) (h2:k<n→c.Owner=k):TK n (bs.set k c):=by
 refine⟨fun d hd => ?_,fun j hj d hd => ?_⟩
 ·rcases Gxj hd with h3 | h3
  ·exact h.tl d h3
  ·subst h3; exact h1
 ·rw[List.getElem?_set] at hd
  split at hd
  ·rename_i e
   subst e
   split at hd
   ·cases hd; exact h2 hj
   ·cases hd
  ·exact h.ow j hj d hd
theorem TK.app {n:Nat} {bs:List TBody} {c:TBody} (h:TK n bs) (hl:n≤bs.length) (h1:tailM c=true):TK n (bs ++ [c]):=by
 refine⟨fun d hd => ?_,fun j hj d hd => ?_⟩
 ·rcases Gqt.1 hd with h3 | h3
  ·exact h.tl d h3
  ·rw[Gxp] at h3; subst h3; exact h1
 ·rw[Gqy (by omega)] at hd
  exact h.ow j hj d hd
theorem fresh_tail (l:TLevel) (k:Int):tailM (fresh l k)=true:=by
 rw[tail_pl (by rfl)]
 refine⟨.inl J,⟨by simp[fresh],by simp[fresh]⟩,fun h=>by simp[fresh] at h,fun _=>⟨by simp[fresh],by simp[fresh]⟩⟩
theorem tick1_tail {b:TBody} (h:b.Kind=0) (h2:b.Life=0) (h3:¬b.Timer-1=0) (ht:tailM b=true):tailM (tick1 b)=true:=by
 obtain⟨ha,hl,h4,h5⟩:=(tail_pl h).1 ht
 have:=h4 h2
 refine (tail_pl (b:=tick1 b) h).2 ⟨ha,hl,fun _ => ?_,fun e=>absurd h2 e⟩
 simp only[tick1]
 omega
theorem steer_tail {l:TLevel} {b:TBody} {i:Int} (h:b.Kind=0) (h2:¬b.Life=0) (ht:tailM b=true):tailM (steer l b i).1=true:=by
 obtain⟨ha,hl,h4,h5⟩:=(tail_pl h).1 ht
 have h6:=h5 h2
 refine (tail_pl (b:=(steer l b i).1) h).2 ⟨steer_aim ha,hl,fun e=>absurd e h2,fun _ => ?_⟩
 simp only[steer]
 split
 ·omega
 ·split <;> omega
theorem shotOf_tail (b:TBody):tailM (shotOf b)=true:=(tail_shot (b:=shotOf b) rfl).2 ⟨⟨rfl,rfl⟩,by simp[shotOf]⟩
theorem TK.one {l:TLevel} {n k:Nat} {bs:List TBody} {b:TBody} (h:TK n bs) (hn:n≤bs.length) (hb:bs[k]? = some b) (hk:b.Kind=0) (hkn:k<n) (i:Int):TK n (plOne l i k bs b):=by
 have ht:=h.tl b (Gqo hb)
 have ho:=h.ow k hkn b hb
 unfold plOne
 split
 ·split
  ·exact h.set hb (fresh_tail l k) fun _=>rfl
  ·exact h.set hb (tick1_tail hk (by assumption) (by assumption) ht) fun _=>ho
 ·have h1:TK n (bs.set k (steer l b i).1):=h.set hb (steer_tail hk (by assumption) ht) fun _=>ho
  split
  ·exact h1.app (by rw[Gqs]; exact hn) (shotOf_tail _)
  ·exact h1
theorem TK.pl {l:TLevel} (hl:levelOk l=true) {n:Nat} (hn:n≤4) {bs:List TBody} (h1:n≤bs.length∧bs.length≤24) (hb:bodiesOk l n bs) (h:TK n bs) (row:List Int):∀ k,k≤n→TK n (plM l row bs k)
 |0,_=>h
 | k+1,hk=>by
  have ih:=TK.pl hl hn h1 hb h row k (by omega)
  have hp:=P1.all hl hn h1 hb row k (by omega)
  rw[plM]
  split
  ·exact ih
  ·rename_i b hs
   exact ih.one hp.lm.len.1 hs ((hp.lm.at_ k b hs).2.2 (by omega)) (by omega) _
theorem move_tail {l:TLevel} {b c:TBody} (h:mvOne l b=some c) (ht:tailM b=true):tailM c=true∧c.Owner=b.Owner:=by
 unfold mvOne at h
 split at h
 ·rename_i hk
  cases h
  refine⟨?_,J⟩
  have:=(tail_pl hk.1).1 ht
  exact (tail_pl (b:=(moveM l b).1) hk.1).2 this
 ·split at h
  ·rename_i hk
   split at h
   ·cases h
   ·rename_i hm
    cases h
    have h2:=(tail_shot hk).1 ht
    refine⟨(tail_shot (b:=tick1 (moveM l b).1) hk).2 ⟨h2.1,?_⟩,J⟩
    have:¬b.Timer-1=0:=fun e=>hm (.inr e)
    simp only[tick1,moveM]
    omega
  ·cases h; exact⟨ht,rfl⟩
theorem fmap_at {α β:Type} {f:α→Option β}:∀ (xs:List α) (n:Nat),(∀ j x,j<n→xs[j]? = some x→∃ y,f x=some y)→∀ k y,k<n→(xs.filterMap f)[k]? = some y→k<xs.length→∃ x,xs[k]? = some x∧f x=some y
 | [],_,_,k,y,_,hy,hx=>by simp at hx
 |x::xs,0,h,k,y,hk,_,_=>by omega
 | x::xs,n+1,h,k,y,hk,hy,hx=>by
  obtain⟨z,hz⟩:=h 0 x (by omega) rfl
  rw[List.filterMap_cons,hz] at hy
  cases k with
  |zero =>
   simp only[Gxc] at hy
   exact⟨x,J,by rw[hz]; exact hy⟩
  |succ k =>
   simp only[Gxm] at hy
   simp only[Gxf] at hx
   obtain⟨a,h1,h2⟩:=fmap_at xs n (fun j w hj hw=>h (j+1) w (by omega) (by simpa using hw)) k y (by omega) hy (by omega)
   exact⟨a,by simpa using h1,h2⟩
theorem TK.mv {l:TLevel} {n:Nat} {bs:List TBody} (hL:LM l n bs) (h:TK n bs):TK n (mvM l bs):=by
 have hlen:=hL.len
 refine⟨fun c hc => ?_,fun k hk c hc => ?_⟩
 ·obtain⟨a,ha,hac⟩:=List.mem_filterMap.1 hc
  exact (move_tail hac (h.tl a ha)).1
 ·obtain⟨a,ha,hac⟩:=fmap_at bs n (fun j x hj hx=>mvOne_pl ((hL.at_ j x hx).2.2 hj)) k c hk hc (by omega)
  rw[(move_tail hac (h.tl a (Gqo ha))).2]
  exact h.ow k hk a ha
theorem hit_tail {p:TBody} (hk:p.Kind=0) (hl:0<p.Life) (h:tailM p=true):tailM (hitB p)=true:=by
 obtain⟨ha,hf,h4,h5⟩:=(tail_pl hk).1 h
 have h6:=h5 (by omega)
 refine (tail_pl (b:=hitB p) hk).2 ⟨ha,by simp only[hitB]; omega,fun e => ?_,fun e => ?_⟩
 ·simp only[hitB] at e ⊢
  rw[if_pos e]; omega
 ·simp only[hitB] at e ⊢
  rw[if_neg e]; exact h6
theorem TK.sh1 {l:TLevel} {n:Nat} {bs0:List TBody} {s:List TBody×List Int} (hS:SI l n bs0 s) (h:TK n s.1) (b:TBody):TK n (shOne n s b).1:=by
 unfold shOne
 split
 ·split
  ·exact h
  ·rename_i k hk
   obtain⟨h1,h2⟩:=metF_lt hk
   obtain⟨p,hp,hlf,_,_⟩:=metC_life h2
   rw[hp]
   exact h.set hp (hit_tail ((hS.lm.at_ k p hp).2.2 h1) hlf (h.tl p (Gqo hp))) fun _=>h.ow k h1 p hp
 ·exact h
theorem TK.sh {l:TLevel} {n:Nat} {bs0:List TBody} {s:List TBody×List Int} (hS:SI l n bs0 s) (h:TK n s.1) (t:List TBody):∀ j,TK n (shS n t s j).1
 |0=>h
 |j+1=>by
  rw[shS]
  split
  ·exact TK.sh hS h t j
  ·exact TK.sh1 (hS.all t j) (TK.sh hS h t j) _
theorem TK.hits {l:TLevel} {n:Nat} {bs:List TBody} {ss:List Int} (hL:LM l n bs) (h1:ss.length=n) (h2:∀ x∈ss,0≤x∧x≤1000000) (h:TK n bs):TK n (hitsR n bs ss).1:=by
 have hS:=(SI.start hL h1 h2).all (bs.drop n) (bs.drop n).length
 have hT:TK n (shS n (bs.drop n) (bs,ss) (bs.drop n).length).1:=TK.sh (SI.start hL h1 h2) h _ _
 have hlen:=hS.lm.len
 refine⟨fun c hc => ?_,fun k hk c hc => ?_⟩
 ·rcases Gqt.1 hc with h3 | h3
  ·exact hT.tl c (Gxk h3)
  ·exact h.tl c (List.mem_of_mem_drop (keepR_sub _ c h3))
 ·simp only[hitsR] at hc
  rw[Gqy (by rw[Gq3]; omega),List.getElem?_take_of_lt hk] at hc
  exact hT.ow k hk c hc
theorem spot_free {l:TLevel} {x y:Int} (h : [x,y]∈spotsM l):solidM l x y 8=false:=by
 obtain⟨r,c,row,h1,h2,h3,h4,h5⟩:=rowSp_at h
 simp only[List.cons.injEq,and_true] at h5
 obtain⟨rfl,rfl⟩:=h5
 obtain⟨h6,h7⟩:=Gql.1 h2
 refine solidM_F fun ⟨r',c',e1,e2,e3,e4,hw⟩ => ?_
 have er:r'=r:=by omega
 have ec:c'=c:=by omega
 subst er; subst ec
 exact no_wall h6 (by rw[h7]; exact h3) (by rw[h7,h4]; decide) hw
theorem item_bm {l:TLevel} {n:Nat} (hn:1≤n) {x y:Int} (h : [x,y]∈spotsM l):BM l n (itemB x y) :=
 ⟨by simp[itemB],by simp only[itemB]; omega,spot_free h,by simp[itemB],by simp[itemB],by simp[itemB]⟩
theorem worldOk_mk {l:TLevel} {n:Nat} {bs:List TBody} {ss:List Int} {t s:Int} (hl:levelOk l=true) (ht:0≤t∧t≤100000) (hs:0≤s∧s≤65535) (hn:1≤n∧n≤4) (h1:ss.length=n) (h2:∀ x∈ss,0≤x∧x≤1000000) (hL:LM l n bs) (hT:TK n bs):worldOk ⟨l,t,s,ss,bs⟩=true:=by
 subst h1
 refine worldOk_T ⟨hl,Yq.2 ht,Yq.2 hs,hn,Gqm.2 fun x hx=>Yq.2 (h2 x hx),hL.len,fun k hk => ?_⟩
 have hb:bs[k]? = some bs[k]:=Gqf hk
 have h3:=hL.at_ k _ hb
 unfold bodyAt
 rw[Gqh]
 refine⟨tail_bodyM h3.1 (hT.tl _ (Gqg hk)),?_⟩
 simp only
 split
 ·rename_i hkn
  exact Gqb ⟨h3.2.2 hkn,hT.ow k hkn _ hb⟩
 ·rename_i hkn
  exact Gqb fun e=>hkn (h3.2.1 e)
theorem TK.start {l:TLevel} {n:Nat} {bs:List TBody} (h:bodiesOk l n bs):TK n bs:=by
 refine⟨fun b hb => ?_,fun k hk b hb => ?_⟩
 ·obtain⟨j,hj,rfl⟩:=List.mem_iff_getElem.1 hb
  have:=h j hj
  unfold bodyAt at this
  rw[Gqh] at this
  exact tail_of this.1
 ·exact (old_at h hb hk).ow
theorem tick_ok {w:TWorld} {row:List Int} (hg:Enc.gd w) (ho:worldOk w=true) (ht:w.Tick≠100000) (hr:rowOk row w.Scores.length=true):worldOk (tickM w row)=true:=by
 have hP:=PH.of hg ho hr
 obtain⟨hl,htk,hs,hn,hsc,hlen,hbo⟩:=Kp ho
 have htk:=Yq.1 htk
 have hM:=hits_lm hP.mv rfl (Kf ho)
 have hT:TK w.Scores.length (hitsR w.Scores.length (movedM w row) w.Scores).1:=TK.hits hP.mv rfl (Kf ho) (TK.mv hP.pl.lm (TK.pl hl hn.2 hlen hbo (TK.start hbo) row _ (Gqi _)))
 have hnx:=Y2 w.Seed
 have hn2:=Y2 (nextR w.Seed)
 unfold tickM lastM
 split
 ·exact worldOk_mk hl ⟨by omega,by omega⟩ hnx hn hM.2.1 hM.2.2 hM.1 hT
 ·rename_i hc
  split
  ·exact worldOk_mk hl ⟨by omega,by omega⟩ hn2 hn hM.2.1 hM.2.2 hM.1 hT
  ·obtain⟨i,_,_,hi⟩:=spotOf_mem (l:=w.Level) (seed:=nextR w.Seed) (fun e=>hc (.inr (.inl e)))
   have hmem:=Gqo hi
   obtain⟨x,y,he,_,_⟩:=spot_rng hl hmem
   have hb:(hitsR w.Scores.length (movedM w row) w.Scores).1.length<24:=by
    rcases Gqp (hitsR w.Scores.length (movedM w row) w.Scores).1.length 24 with h | h
    ·exact h
    ·exact absurd (.inr (.inr h)) hc
   rw[he] at hmem ⊢
   exact worldOk_mk hl ⟨by omega,by omega⟩ hn2 hn hM.2.1 hM.2.2 (hM.1.app hb (item_bm hn.1 hmem) (by simp[itemB])) (hT.app hM.1.len.1 J)
theorem stepW_ok {w:TWorld} {row:List Int} (hg:Enc.gd w) (ho:worldOk w=true):worldOk (stepW w row)=true:=by
 unfold stepW
 split
 ·rename_i h
  exact tick_ok hg h.1 h.2.1 h.2.2
 ·exact ho
end
section
open Go.RowKit

structure RepIn (y:TReplay):Prop where
 gd:Enc.gd y
 h1:y.Level.Rows.length≤1048576
 h2:y.Keys.length≤1048576
 h3:y.Rows.length≤1048576
 h4:tot y.Rows≤1048576
structure WorIn (w:TWorld):Prop where
 gd:Enc.gd w
 h1:w.Level.Rows.length≤1048576
 h2:w.Scores.length≤1048576
 h3:w.Bodies.length≤1048576
end
section
open Go.RowKit

theorem step_in {w:TWorld} {row:List Int} (h:WorIn w):WorIn (stepW w row):=by
 have h1:=stepW_fits (row:=row) h.gd
 exact⟨h1.1,by rw[stepW_level]; exact h.h1,by rw[h1.2.1]; exact h.h2,by have:=h.h3; omega⟩
end
section
open Go.RowKit

/-! ### Worlds -/
/-! ### Runs -/
/-! ### The lockstep worlds -/
section
variable {l:TLevel} {n:Nat} {seed:Int} {e:Nat} {rows:List (List Int)}
structure RD (l:TLevel) (n:Nat) (seed:Int) (e:Nat) (rows:List (List Int)):Prop where
 hl:levelOk l=true
 gl:Enc.gd l
 ll:l.Rows.length≤1048576
 hn:1≤n∧n≤4
 hs:inR seed 0 65535=true
 he:1≤e∧e≤100
 hL:rows.length≤400
 hr:∀ r∈rows,rowOk r (n:Int)=true
end
end
section
open Go.RowKit

section
variable {n k j:Nat} {t bs:List TBody} {ss:List Int} {s:List TBody×List Int} {b:TBody} {c:Int}
end
end
section
open Go.RowKit

section
variable {n k j P:Nat} {t bs:List TBody} {ss:List Int} {s:List TBody×List Int} {b:TBody} {c a:Int}
end
end
section
open Go.RowKit
end
section
open Go.RowKit

def zeroB (b:UInt8):Bool:=b == 0
def someB (b:UInt8):Bool := !(b == 0)
def packZ (l:List UInt8):List UInt8:=match l with
 | [] => []
 |x::r=>encVar (((x::r).takeWhile zeroB).length:Nat)++(encVar ((((x::r).dropWhile zeroB).takeWhile someB).length:Nat)++((x::r).dropWhile zeroB).takeWhile someB)++packZ (((x::r).dropWhile zeroB).dropWhile someB)
termination_by l.length
decreasing_by
 by_cases h:zeroB x=true
 ·rw[List.dropWhile_cons,if_pos h]
  have h1:=(List.dropWhile_sublist someB (l:=r.dropWhile zeroB)).length_le
  have h2:=(List.dropWhile_sublist zeroB (l:=r)).length_le
  simp only[Gxf]; omega
 ·rw[List.dropWhile_cons,if_neg h,List.dropWhile_cons,if_pos (by simpa[zeroB,someB] using h)]
  have h1:=(List.dropWhile_sublist someB (l:=r)).length_le
  simp only[Gxf]; omega
def uzGo (s:ByteArray) (strict:Bool):Nat→Nat→List UInt8→Option (List UInt8)
 |0,pos,out=>if pos<s.size then none else some out
 | f+1,pos,out=>if pos<s.size then (match decVar s pos with
  |none=>none
  |some (n,j)=>match unpackText s ((pos:Int)+(j:Int)) with
   |none=>none
   |some (t,k)=>if (20000:Int)-out.length<n+t.size then none else if strict=true∧n=0∧t.size=0 then none else uzGo s strict f (pos+j+k) (out++List.replicate n.toNat 0++t.data.toList)) else some out
def unpackZ (strict:Bool) (s:ByteArray):Option ByteArray:=match uzGo s strict s.size 0 [] with
 |none=>none
 |some out=>if bs (packZ out)=s then some (bs out) else none
end
section
open Go.RowKit

section
variable {P:Program} {E:Env} {ops:Array Oper} {rest:List Oper} {o:Oper} {QQ:Exit→St→Prop} {st:St} {t:TypeId} {y z:Operand} {qs:List Nat}
end
end
section
open Go.RowKit
end
section
open Go.RowKit

def xorB (a:ByteArray) (i:Nat) (x:UInt8):UInt8:=if i<a.size then UInt8.ofNat (x.toNat^^^(byteAt a i).toNat) else x
def xorL (a b:ByteArray):List UInt8:=(List.range b.size).map fun i=>xorB a i (b.data.toList.getD i 0)
def xorText (a b:ByteArray):ByteArray:=bs (xorL a b)
end
section
open Go.RowKit

section
variable {s:ByteArray} {b:Bool} {pos f j k:Nat} {acc:List UInt8} {n:Int} {t:ByteArray} (hp:pos<s.size)
include hp
end
def applyD (base delta:ByteArray):Option ByteArray:=match decVar delta 0 with
 |none=>none
 |some (n,j)=>match unpackZ true (delta.extract j delta.size) with
  |none=>none
  |some x=>if (x.size:Int)=n then some (xorText base x) else none
end
section
open Go.RowKit
end
section
open Go.RowKit
end
section
open Go.RowKit

def keyText (s:ByteArray) (keys:List ByteArray):Nat→Option ByteArray
 |0=>some s
 | n+1=>match keyText s keys n with
  |none=>none
  |some t=>match keys[n]? with
   |none=>none
   |some d=>applyD t d
structure ROk (r:TReplay):Prop where
 l:levelOk r.Level=true
 p:1≤r.Players∧r.Players≤4
 s:inR r.Seed 0 65535=true
 e:1≤r.Every∧r.Every≤100
 k:r.Keys.length≤400
section
variable {r:TReplay} {n:Nat} {s:ByteArray} {w:TWorld}
variable (h:keyText (worldBytes (newWorld r.Level r.Players.toNat r.Seed)) r.Keys n=some s)
include h
end
end
section
open Go.RowKit

def inAt (t:Nat) (x:TTrack):Int:=x.Inputs.getD t 0
def rowAt (l:List TTrack) (t:Nat):List Int:=l.map (inAt t)
end
section
open Go.RowKit

theorem at_nat {α:Type} [Enc α] {xs:List α} {i:Int} (h:i.toNat<xs.length):(els xs)[i.toNat]? = some (Enc.e (xs[i.toNat]'h)):=by simp[els,h]
theorem world_ticks {w:TWorld} (h:worldOk w=true):0≤w.Tick∧w.Tick≤100000:=by
 have h2:=(Kp h).2.1
 rwa[Yq] at h2
section
variable {p:TPeer}
theorem no1 (h:(((!tracksOk p.Tracks || !worldOk p.Base) || !worldOk p.Now) || !decide (p.Base.Level=p.Now.Level))=true):¬PeerP p:=fun ⟨⟨q1,q2,q3,q4⟩,_⟩=>by
 rw[q1,q2,q3,Gqb q4] at h; exact absurd h (by decide)
theorem no2 (h:((decide ((p.Base.Scores.length:Int)≠p.Tracks.length) || decide ((p.Now.Scores.length:Int)≠p.Tracks.length)) || !faultOk p.Fault p.Tracks.length)=true):¬PeerP p:=fun ⟨_,⟨q1,q2,q3⟩,_⟩=>by
 rw[q3,Gqa (by omega),Gqa (by omega)] at h; exact absurd h (by decide)
theorem no3 (h:((!inR p.Me 0 ((p.Tracks.length:Int)-1) || !inR p.Delay 0 5) || !inR p.Ahead 1 8)=true):¬PeerP p:=fun ⟨_,_,⟨q1,q2,q3⟩,_⟩=>by
 rw[Yq.2 q1,Yq.2 q2,Yq.2 q3] at h; exact absurd h (by decide)
theorem no4 (h:((!inR p.Seed 0 65535 || !inR p.Rolls 0 1000000) || !inR p.Again 0 1000000)=true):¬PeerP p:=fun ⟨_,_,_,⟨q1,q2,q3⟩,_⟩=>by
 rw[Yq.2 q1,Yq.2 q2,Yq.2 q3] at h; exact absurd h (by decide)
theorem no5 (h:((!inR (p.Now.Tick-p.Base.Tick) 0 p.Ahead || decide ((p.Used.length:Int)≠p.Now.Tick-p.Base.Tick)) || decide ((p.Saves.length:Int)≠p.Now.Tick-p.Base.Tick))=true):¬PeerP p:=fun ⟨_,_,_,_,⟨q1,q2,q3⟩,_⟩=>by
 rw[Yq.2 q1,Gqa (by omega),Gqa (by omega)] at h; exact absurd h (by decide)
theorem fin_eq (h1:tracksOk p.Tracks=true∧worldOk p.Base=true∧worldOk p.Now=true∧p.Base.Level=p.Now.Level)
  (h2:p.Base.Scores.length=p.Tracks.length∧p.Now.Scores.length=p.Tracks.length∧faultOk p.Fault p.Tracks.length=true)
  (h3:(0≤p.Me∧p.Me≤(p.Tracks.length:Int)-1)∧(0≤p.Delay∧p.Delay≤5)∧(1≤p.Ahead∧p.Ahead≤8))
  (h4:(0≤p.Seed∧p.Seed≤65535)∧(0≤p.Rolls∧p.Rolls≤1000000)∧(0≤p.Again∧p.Again≤1000000))
  (h5:(0≤p.Now.Tick-p.Base.Tick∧p.Now.Tick-p.Base.Tick≤p.Ahead)∧(p.Used.length:Int)=p.Now.Tick-p.Base.Tick∧(p.Saves.length:Int)=p.Now.Tick-p.Base.Tick)
  (h6:(p.Used.all fun row=>rowOk row p.Tracks.length)=true∧∀ k (h:k<p.Saves.length),p.Saves[k].Tick=p.Base.Tick+k) :
  ((decide (p.Base.Tick≤(knownTicks p.Tracks:Nat))&&decide (p.Now.Tick≤(lenAt p.Tracks p.Me.toNat:Nat)))&&decide ((p.Sums.length:Int)=p.Base.Tick+1))=peerOk p:=by
 by_cases h7:p.Base.Tick≤knownTicks p.Tracks∧p.Now.Tick≤lenAt p.Tracks p.Me.toNat∧(p.Sums.length:Int)=p.Base.Tick+1
 ·rw[peer_T ⟨h1,h2,h3,h4,h5,h6,h7⟩,Gqb h7.1,Gqb h7.2.1,Gqb h7.2.2]; rfl
 ·rw[peer_F fun ⟨_,_,_,_,_,_,h8⟩=>h7 h8]
  rw[←Gxn]
  simp only[Gqh,decide_eq_true_eq]
  exact fun ⟨⟨a,b⟩,c⟩=>h7 ⟨a,b,c⟩
end
theorem I_PeerOk (x:TPeer) (hg:Enc.gd x):Con Tryz.prog 106 [] [ag x] [] (B (peerOk x)):=by
 obtain⟨gMe,gDe,gAh,gSe,gTr,gBa,gNo,gUs,gSa,gSu,gFa,gRo,gAg⟩:=hg
 have hlt:=Yc x.Tracks
 have hlu:=Yc x.Used
 have hls:=Yc x.Saves
 have hlm:=Yc x.Sums
 have hlb:=Yc x.Base.Scores
 have hln:=Yc x.Now.Scores
 have c1:=I_TracksOk x.Tracks gTr
 have c2:=I_WorldOk x.Base gBa
 have c3:=I_WorldOk x.Now gNo
 have c4:=I_sameLevel x.Base.Level x.Now.Level gBa.1
 have c5:=I_FaultOk x.Fault (els x.Tracks).length (by omega)
 have c6:=I_KnownTicks x.Tracks gTr
 refine Con.of Tryz.func106 J Tryz.ntmps106 J (fun E => ?_)
 refine Wz [36,29,10,4,31] ?_;refine zx (Qj J J (c1) J) J ?_;refine Wz [2,178,231] ?_;refine zx (Vb J (.hit (.hit .stop)) (fun hgrd=>Qj J J (c2) J)) J ?_;refine Wz [109,34,178,231] ?_;refine zx (Vb J (.hit (.hit .stop)) (fun hgrd=>Qj J J (c3) J)) J ?_;refine Wz [109,34,178,198] ?_;refine zx (Vb J (.hit (.hit .stop)) (fun hgrd=>Qu J J J J J J)) J ?_;refine zx (Vb J (.hit (.hit (.hit .stop))) (fun hgrd=>Qf J J J J (by decide))) J ?_;refine zx (Vb J (.hit (.hit (.hit (.hit .stop)))) (fun hgrd=>Qf J J J J (by decide))) J ?_;refine zx (Vb J (.hit (.hit (.hit (.hit (.hit .stop))))) (fun hgrd=>Qu J J J J J J)) J ?_;refine zx (Vb J (.hit (.hit (.hit (.hit (.hit (.hit .stop)))))) (fun hgrd=>Qj J J (c4) J)) J ?_;refine zx (Vb J (.hit (.hit (.hit (.hit (.hit (.hit (.hit .stop))))))) (fun hgrd=>Q4 J J J)) J ?_;refine Wz [70] ?_
 refine Xb J (fun h1 => ?_) (fun h1 => ?_)
 ·rw[peer_F (no1 h1)]
  refine Wz [52] ?_
  exact Uq J (Ur [] J J J)
 simp only[Gqn,Gqz,decide_eq_true_eq] at h1
 obtain⟨⟨⟨q1,q2⟩,q3⟩,q4⟩:=h1
 have tB:=world_ticks q2
 have tN:=world_ticks q3
 have tL:=tracks_spec q1
 refine AWP.pre (st':=(⟨_,[(1,.o (.c (.ptr 0 0))),(3,I (els x.Tracks).length)],[.box ((Enc.e x).map (V1.rd []))]⟩:St)) ?_ (Ux [0])
 refine Wz [25,305,158,21,97,131,178,198,227,236] ?_;refine zx (Vb J (.hit (.hit (.hit (.hit .stop)))) (fun hgrd=>Qa J J J)) J ?_;refine zx (Vb J (.hit (.hit (.hit (.hit (.hit .stop))))) (fun hgrd=>Z4 J J J J)) J ?_;refine Wz [34,178,231,176] ?_;refine zx (Vb J (.hit (.hit (.hit .stop))) (fun hgrd=>Qj J J (c5) J)) J ?_;refine Wz [283,70] ?_
 refine Xb J (fun h2 => ?_) (fun h2 => ?_)
 ·rw[hlt,hlb,hln] at h2
  rw[peer_F (no2 h2)]
  refine Wz [52] ?_
  exact Uq J (Ur [] J J J)
 rw[hlt,hlb,hln] at h2
 simp only[Gqn,Gqz,decide_eq_false_iff_not,Classical.not_not] at h2
 obtain⟨⟨q5,q6⟩,q7⟩:=h2
 refine AWP.pre (st':=(⟨_,[(1,.o (.c (.ptr 0 0))),(3,I (els x.Tracks).length)],[.box ((Enc.e x).map (V1.rd []))]⟩:St)) ?_ (Ux [0])
 refine Wz [25,31,0,51] ?_;refine zx (Qj J J (Xr x.Me 0 (((els x.Tracks).length:Int)-1)) J) J ?_;refine Wz [2,35] ?_;refine zx (Vb J (.hit (.hit .stop)) (fun hgrd=>Qj J J (Xr x.Delay 0 5) J)) J ?_;refine Wz [109,34,35] ?_;refine zx (Vb J (.hit (.hit .stop)) (fun hgrd=>Qj J J (Xr x.Ahead 1 8) J)) J ?_;refine Wz [109,70] ?_
 refine Xb J (fun h3 => ?_) (fun h3 => ?_)
 ·rw[hlt] at h3
  rw[peer_F (no3 h3)]
  refine Wz [52] ?_
  exact Uq J (Ur [] J J J)
 rw[hlt] at h3
 simp only[Gqn,Gqz,Yq] at h3
 obtain⟨⟨q8,q9⟩,q10⟩:=h3
 refine AWP.pre (st':=(⟨_,[(1,.o (.c (.ptr 0 0))),(3,I (els x.Tracks).length)],[.box ((Enc.e x).map (V1.rd []))]⟩:St)) ?_ (Ux [0])
 refine Wz [25,31] ?_;refine zx (Qj J J (Xr x.Seed 0 65535) J) J ?_;refine Wz [2,35] ?_;refine zx (Vb J (.hit (.hit .stop)) (fun hgrd=>Qj J J (Xr x.Rolls 0 1000000) J)) J ?_;refine Wz [109,34,35] ?_;refine zx (Vb J (.hit (.hit .stop)) (fun hgrd=>Qj J J (Xr x.Again 0 1000000) J)) J ?_;refine Wz [109,70] ?_
 refine Xb J (fun h4 => ?_) (fun h4 => ?_)
 ·rw[peer_F (no4 h4)]
  refine Wz [52] ?_
  exact Uq J (Ur [] J J J)
 simp only[Gqn,Gqz,Yq] at h4
 obtain⟨⟨q11,q12⟩,q13⟩:=h4
 refine AWP.pre (st':=(⟨_,[(1,.o (.c (.ptr 0 0))),(3,I (els x.Tracks).length)],[.box ((Enc.e x).map (V1.rd []))]⟩:St)) ?_ (Ux [0])
 refine Wz [25,5,158,21,158,21,51,66,21] ?_;refine zx (Qj J J (Xr (x.Now.Tick-x.Base.Tick) 0 x.Ahead) J) J ?_;refine Wz [2,35,149,191,171,34,35,149,191,171,70] ?_
 refine Xb J (fun h5 => ?_) (fun h5 => ?_)
 ·rw[hlu,hls] at h5
  rw[peer_F (no5 h5)]
  refine Wz [52] ?_
  exact Uq J (Ur [] J J J)
 rw[hlu,hls] at h5
 simp only[Gqn,Gqz,decide_eq_false_iff_not,Classical.not_not,Yq] at h5
 obtain⟨⟨q14,q15⟩,q16⟩:=h5
 refine AWP.pre (st':=(⟨_,[(1,.o (.c (.ptr 0 0))),(3,I (els x.Tracks).length)],[.box ((Enc.e x).map (V1.rd []))]⟩:St)) ?_ (Ux [0])
 refine Wz [25,31,10,133,76] ?_;refine Xj (fun m st=>∃ k:Nat,k+m=x.Used.length∧((x.Used.take k).all (fun row=>rowOk row x.Tracks.length)=true)∧st=(⟨_,[(1,.o (.c (.ptr 0 0))),(3,I (els x.Tracks).length),(120,L x.Used),(121,I (els x.Used).length),(122,I k)],[.box ((Enc.e x).map (V1.rd []))]⟩:St)) (x.Used.length) ⟨_,⟨0,by omega,by simp,J⟩,Ux [0]⟩ ?_
 rintro m_A _ ⟨k,hk_A,hp_A,rfl⟩
 refine Wz [5,63,14] ?_
 refine Xb J (fun h => ?_) (fun h => ?_)
 ·have h3:k<x.Used.length:=by have:=Gqc h; omega
  have hat:=Yb h3
  have hc:=I_rowOk x.Used[k] (els x.Tracks).length (gUs.2 _ (Gqg h3))
  rw[hlt] at hc
  cases ho:rowOk x.Used[k] x.Tracks.length with
  |false =>
   rw[ho,←hlt] at hc
   rw[peer_F (fun hp=>by have:=hp.2.2.2.2.2.1.1; rw[all_no h3 ho] at this; cases this)]
   refine Wz [8,5,47,4,17] ?_;refine zx (Qj J J (hc) J) J ?_;refine Wz [2,11,67] ?_
   exact Uq J (Ur [] J J J)
  |true =>
   rw[ho,←hlt] at hc
   refine Wz [8,5,47,4,17] ?_;refine zx (Qj J J (hc) J) J ?_;refine Wz [2,132,100] ?_
   exact⟨x.Used.length-(k+1),by omega,_,⟨k+1,by omega,X7 hp_A h3 ho,J⟩,Ux [0]⟩
 have h3:¬((k:Int)<(els x.Used).length):=Gqd h
 have hall:=Gl hp_A
 refine Wz [38,31,10,133,76] ?_;refine Xj (fun m st=>∃ j:Nat,j+m=x.Saves.length∧((∀ i (h:i<x.Saves.length),i<j→x.Saves[i].Tick=x.Base.Tick+i))∧st=(⟨_,[(1,.o (.c (.ptr 0 0))),(3,I (els x.Tracks).length),(132,L x.Saves),(133,I (els x.Saves).length),(134,I j)],[.box ((Enc.e x).map (V1.rd []))]⟩:St)) (x.Saves.length) ⟨_,⟨0,by omega,fun i _ hi=>absurd hi (Nat.not_lt_zero _),J⟩,Ux [0]⟩ ?_
 rintro m_D _ ⟨j,hk_D,hp_D,rfl⟩
 refine Wz [5,63,14] ?_
 refine Xb J (fun h => ?_) (fun h => ?_)
 ·have h4:j<x.Saves.length:=by have:=Gqc h; omega
  have hat:=Yb h4
  by_cases ho:x.Saves[j].Tick=x.Base.Tick+j
  ·have hb:decide (x.Saves[j].Tick≠x.Base.Tick+j)=false:=Gqa (fun h=>h ho)
   refine Wz [105,69,46,87,20,29,158,21,95,49,132,100] ?_
   exact⟨x.Saves.length-(j+1),by omega,_,⟨j+1,by omega,fun i hi hij=>by by_cases e:i=j; subst e; exact ho; exact hp_D i hi (by omega),J⟩,Ux [0]⟩
  ·have hb:decide (x.Saves[j].Tick≠x.Base.Tick+j)=true:=Gqb ho
   rw[peer_F (fun hp=>ho (hp.2.2.2.2.2.1.2 j h4))]
   refine Wz [105,69,46,87,20,29,158,21,95,49,11,67] ?_
   exact Uq J (Ur [] J J J)
 have h4:¬((j:Int)<(els x.Saves).length):=Gqd h
 have hme:x.Me.toNat<x.Tracks.length:=by omega
 have hat:=at_nat (xs:=x.Tracks) hme
 have hti:=Yc x.Tracks[x.Me.toNat].Inputs
 have hla:=lenAt_is hme
 rw[←fin_eq ⟨q1,q2,q3,q4⟩ ⟨by omega,by omega,q7⟩ ⟨q8,q9,q10⟩ ⟨q11,q12,q13⟩ ⟨q14,q15,q16⟩ ⟨hall,fun i hi=>hp_D i hi (by omega)⟩,←hlm]
 by_cases k1:x.Base.Tick≤(knownTicks x.Tracks:Nat)
 ·have hb1:decide (x.Base.Tick≤((knownTicks x.Tracks:Nat):Int))=true:=Gqb k1
  by_cases k2:x.Now.Tick≤(lenAt x.Tracks x.Me.toNat:Nat)
  ·have hb2:decide (x.Now.Tick≤((els x.Tracks[x.Me.toNat].Inputs).length:Int))=true:=Gqb (by omega)
   rw[hb1,Gqb k2]
   refine Wz [38,14] ?_;refine Xi u8_43 u8_44 u8_45 J ?_;refine Wz [183,32,32] ?_;refine Kw (Qj J J (c6) J) J ?_;refine Wz [253,1,27,27,128,202,138,224,225,27,284,96,1,27,224,225,27,220] ?_;refine Kw (Qt.yes J J J (Zn J J J J)) J ?_;refine Wz [96,200,16,6,94] ?_
   exact Uq J (Ur [] J J J)
  ·have hb2:decide (x.Now.Tick≤((els x.Tracks[x.Me.toNat].Inputs).length:Int))=false:=Gqa (by omega)
   rw[hb1,Gqa k2]
   refine Wz [38,14] ?_;refine Xi u8_43 u8_44 u8_45 J ?_;refine Wz [183,32,32] ?_;refine Kw (Qj J J (c6) J) J ?_;refine Wz [253,1,27,27,128,202,138,224,225,27,284,96,1,127,73,200,16,6,94] ?_
   exact Uq J (Ur [] J J J)
 ·have hb1:decide (x.Base.Tick≤((knownTicks x.Tracks:Nat):Int))=false:=Gqa k1
  rw[hb1]
  refine Wz [38,14] ?_;refine Xi u8_43 u8_44 u8_45 J ?_;refine Wz [183,32,32] ?_;refine Kw (Qj J J (c6) J) J ?_;refine Wz [253,1,127,164,73,1,127,73,200,16,6,94] ?_
  exact Uq J (Ur [] J J J)
end
section
open Go.RowKit

def rowsOf (l:List TTrack) (t:Nat):List (List Int):=(List.range t).map (rowAt l)
theorem rowsOf_next {l:List TTrack} {k:Nat}:els (rowsOf l (k+1))=els (rowsOf l k) ++ [Enc.e (rowAt l k)]:=by
 rw[rowsOf,List.range_succ,List.map_append,els,List.map_append]
 rfl
theorem rowsOf_at {l:List TTrack} {t k:Nat} (h:k<t):(rowsOf l t)[k]'(by simpa[rowsOf] using h)=rowAt l k:=by simp[rowsOf]
structure RunIn (W:Nat→TWorld) (l:List TTrack) (f:TFault) (t:Nat):Prop where
 wi:∀ k,k≤t→WorIn (W k)
 st:∀ k,k<t→W (k+1)=stepF (W k) (rowAt l k) f
 sl_:∀ k,k<t→(stepW (W k) (rowAt l k)).Scores.length=(W k).Scores.length
 ss:∀ k,k<t→∀ s∈(stepW (W k) (rowAt l k)).Scores,0≤s∧s≤1000000
 lv:∀ k,k<t→(stepW (W k) (rowAt l k)).Level=(W k).Level
 gr:∀ k,k<t→Enc.gd (rowAt l k)
 kn:∀ k,k<t→∀ x∈l,k<x.Inputs.length
end
section
open Go.RowKit

section
variable {p:TPeer}
theorem noS1 (h:((((((!worldOk p.Base || !worldOk p.Now) || !decide (p.Base.Level=p.Now.Level)) || decide ((p.Base.Scores.length:Int)≠p.Tracks.length)) || decide ((p.Now.Scores.length:Int)≠p.Tracks.length)) || !tracksOk p.Tracks) || !faultOk p.Fault p.Tracks.length)=true):¬PeerP p:=fun ⟨⟨q1,q2,q3,q4⟩,⟨q5,q6,q7⟩,_⟩=>by
 rw[q1,q2,q3,Gqb q4,q7,Gqa (by omega),Gqa (by omega)] at h; exact absurd h (by decide)
theorem noS2 (h:((((((((!inR p.Me 0 ((p.Tracks.length:Int)-1) || !inR p.Delay 0 5) || !inR p.Ahead 1 8) || !inR p.Seed 0 65535) || !inR p.Rolls 0 1000000) || !inR p.Again 0 1000000) || !inR (p.Now.Tick-p.Base.Tick) 0 p.Ahead) || decide ((p.Used.length:Int)≠p.Now.Tick-p.Base.Tick)) || decide ((p.Saves.length:Int)≠p.Now.Tick-p.Base.Tick))=true):¬PeerP p:=fun ⟨_,_,⟨q1,q2,q3⟩,⟨q4,q5,q6⟩,⟨q7,q8,q9⟩,_⟩=>by
 rw[Yq.2 q1,Yq.2 q2,Yq.2 q3,Yq.2 q4,Yq.2 q5,Yq.2 q6,Yq.2 q7,Gqa (by omega),Gqa (by omega)] at h; exact absurd h (by decide)
end
theorem S_PeerOk (x:TPeer) (hg:Enc.gd x):Con Tryz.prog 99 [] [ag x] [] (B (peerOk x)):=by
 obtain⟨gMe,gDe,gAh,gSe,gTr,gBa,gNo,gUs,gSa,gSu,gFa,gRo,gAg⟩:=hg
 have hlt:=Yc x.Tracks
 have hlu:=Yc x.Used
 have hls:=Yc x.Saves
 have hlm:=Yc x.Sums
 have hlb:=Yc x.Base.Scores
 have hln:=Yc x.Now.Scores
 have c1:=S_TracksOk x.Tracks gTr
 have c2:=S_WorldOk x.Base gBa
 have c3:=S_WorldOk x.Now gNo
 have c4:=S_sameLevel x.Base.Level x.Now.Level gBa.1
 have c5:=S_FaultOk x.Fault (els x.Tracks).length (by omega) (by have:=gTr.1; omega)
 have c6:=S_KnownTicks x.Tracks gTr
 refine Con.of Tryz.func99 J Tryz.ntmps99 J (fun E => ?_)
 refine Wz [36,29,10,4,207] ?_;refine zx (Qj J J (c2) J) J ?_;refine Wz [2,178,231] ?_;refine zx (Vb J (.hit (.hit .stop)) (fun hgrd=>Qj J J (c3) J)) J ?_;refine Wz [109,34,178,198] ?_;refine zx (Vb J (.hit (.hit .stop)) (fun hgrd=>Qu J J J J J J)) J ?_;refine zx (Vb J (.hit (.hit (.hit .stop))) (fun hgrd=>Qf J J J J (by decide))) J ?_;refine zx (Vb J (.hit (.hit (.hit (.hit .stop)))) (fun hgrd=>Qf J J J J (by decide))) J ?_;refine zx (Vb J (.hit (.hit (.hit (.hit (.hit .stop))))) (fun hgrd=>Qu J J J J J J)) J ?_;refine zx (Vb J (.hit (.hit (.hit (.hit (.hit (.hit .stop)))))) (fun hgrd=>Qj J J (c4) J)) J ?_;refine zx (Vb J (.hit (.hit (.hit (.hit (.hit (.hit (.hit .stop))))))) (fun hgrd=>Q4 J J J)) J ?_;refine Wz [34,178,198,227,236] ?_;refine zx (Vb J (.hit (.hit (.hit (.hit .stop)))) (fun hgrd=>Qa J J J)) J ?_;refine zx (Vb J (.hit (.hit (.hit (.hit (.hit .stop))))) (fun hgrd=>Z4 J J J J)) J ?_;refine Wz [34,178,198,227,236] ?_;refine zx (Vb J (.hit (.hit (.hit (.hit .stop)))) (fun hgrd=>Qa J J J)) J ?_;refine zx (Vb J (.hit (.hit (.hit (.hit (.hit .stop))))) (fun hgrd=>Z4 J J J J)) J ?_;refine Wz [34,35] ?_;refine zx (Vb J (.hit (.hit .stop)) (fun hgrd=>Qj J J (c1) J)) J ?_;refine Wz [109,34,178,231,176] ?_;refine zx (Vb J (.hit (.hit (.hit .stop))) (fun hgrd=>Qj J J (c5) J)) J ?_;refine Wz [283,70] ?_
 refine Xb J (fun h1 => ?_) (fun h1 => ?_)
 ·rw[hlt,hlb,hln] at h1
  rw[peer_F (noS1 h1)]
  refine Wz [52] ?_
  exact Uq J (Ur [] J J J)
 rw[hlt,hlb,hln] at h1
 simp only[Gqn,Gqz,decide_eq_true_eq,decide_eq_false_iff_not,Classical.not_not] at h1
 obtain⟨⟨⟨⟨⟨⟨q2,q3⟩,q4⟩,q5⟩,q6⟩,q1⟩,q7⟩:=h1
 have tB:=world_ticks q2
 have tN:=world_ticks q3
 have tL:=tracks_spec q1
 refine AWP.pre (st':=(⟨_,[(1,.o (.c (.ptr 0 0))),(3,I (els x.Tracks).length)],[.box ((Enc.e x).map (V1.rd []))]⟩:St)) ?_ (Ux [0])
 refine Wz [25,5,158,21,158,21,51,4,31,0,51] ?_;refine zx (Qj J J (Xy x.Me 0 (((els x.Tracks).length:Int)-1)) J) J ?_;refine Wz [2,35] ?_;refine zx (Vb J (.hit (.hit .stop)) (fun hgrd=>Qj J J (Xy x.Delay 0 5) J)) J ?_;refine Wz [109,34,35] ?_;refine zx (Vb J (.hit (.hit .stop)) (fun hgrd=>Qj J J (Xy x.Ahead 1 8) J)) J ?_;refine Wz [109,34,35] ?_;refine zx (Vb J (.hit (.hit .stop)) (fun hgrd=>Qj J J (Xy x.Seed 0 65535) J)) J ?_;refine Wz [109,34,35] ?_;refine zx (Vb J (.hit (.hit .stop)) (fun hgrd=>Qj J J (Xy x.Rolls 0 1000000) J)) J ?_;refine Wz [109,34,35] ?_;refine zx (Vb J (.hit (.hit .stop)) (fun hgrd=>Qj J J (Xy x.Again 0 1000000) J)) J ?_;refine Wz [109,34,0,115,198,227] ?_;refine zx (Vb J (.hit (.hit (.hit .stop))) (fun hgrd=>Qj J J (Xy (x.Now.Tick-x.Base.Tick) 0 x.Ahead) J)) J ?_;refine Wz [283,34,35,149,191,171,34,35,149,191,171,70] ?_
 refine Xb J (fun h2 => ?_) (fun h2 => ?_)
 ·rw[hlt,hlu,hls] at h2
  rw[peer_F (noS2 h2)]
  refine Wz [52] ?_
  exact Uq J (Ur [] J J J)
 rw[hlt,hlu,hls] at h2
 simp only[Gqn,Gqz,decide_eq_false_iff_not,Classical.not_not,Yq] at h2
 obtain⟨⟨⟨⟨⟨⟨⟨⟨q8,q9⟩,q10⟩,q11⟩,q12⟩,q13⟩,q14⟩,q15⟩,q16⟩:=h2
 refine AWP.pre (st':=(⟨_,[(1,.o (.c (.ptr 0 0))),(3,I (els x.Tracks).length),(4,I (x.Now.Tick-x.Base.Tick))],[.box ((Enc.e x).map (V1.rd []))]⟩:St)) ?_ (Ux [0])
 refine Wz [25,26] ?_;refine Xj (fun m st=>∃ k:Nat,k+m=x.Used.length∧((x.Used.take k).all (fun row=>rowOk row x.Tracks.length)=true∧(∀ i (h:i<x.Saves.length),i<k→x.Saves[i].Tick=x.Base.Tick+i))∧st=(⟨_,[(1,.o (.c (.ptr 0 0))),(3,I (els x.Tracks).length),(4,I (x.Now.Tick-x.Base.Tick)),(5,I k)],[.box ((Enc.e x).map (V1.rd []))]⟩:St)) (x.Used.length) ⟨_,⟨0,by omega,⟨by simp,fun i _ hi=>absurd hi (Nat.not_lt_zero _)⟩,J⟩,Ux [0]⟩ ?_
 rintro m_A _ ⟨k,hk_A,hp_A,rfl⟩
 obtain⟨hpa,hpb⟩:=hp_A
 refine Wz [13,63] ?_
 refine Xb J (fun h => ?_) (fun h => ?_)
 ·have h3:k<x.Used.length:=by have:=Gqc h; omega
  have h4:k<x.Saves.length:=by omega
  have hat:=Yb h3
  have hat2:=Yb h4
  have hc:=S_rowOk x.Used[k] (els x.Tracks).length (gUs.2 _ (Gqg h3))
  rw[hlt] at hc
  cases ho:rowOk x.Used[k] x.Tracks.length with
  |false =>
   rw[ho,←hlt] at hc
   rw[peer_F (fun hp=>by have:=hp.2.2.2.2.2.1.1; rw[all_no h3 ho] at this; cases this)]
   refine Wz [81] ?_;refine Xi u8_46 u8_47 u8_48 J ?_;refine Wz [32,136,64,1] ?_;refine Kw (Qj J J (hc) J) J ?_;refine Wz [84,1,127,164,96,16,11,67] ?_
   exact Uq J (Ur [] J J J)
  | true =>
   rw[ho,←hlt] at hc
   by_cases hs:x.Saves[k].Tick=x.Base.Tick+k
   ·have hb:decide (x.Saves[k].Tick≠x.Base.Tick+k)=false:=Gqa (fun h=>h hs)
    refine Wz [81] ?_;refine Xi u8_46 u8_47 u8_48 J ?_;refine Wz [32,136,64,1] ?_;refine Kw (Qj J J (hc) J) J ?_;refine Wz [84,1,27,37,128,202,138,225,27,37,220] ?_;refine Kw (Qt.yes J J J (Qw J J J J (by assumption))) J ?_;refine Wz [73,16,53] ?_
    exact⟨x.Used.length-(k+1),by omega,_,⟨k+1,by omega,⟨X7 hpa h3 ho,fun i hi hij=>by by_cases e:i=k; subst e; exact hs; exact hpb i hi (by omega)⟩,J⟩,Ux [0]⟩
   ·have hb:decide (x.Saves[k].Tick≠x.Base.Tick+k)=true:=Gqb hs
    rw[peer_F (fun hp=>hs (hp.2.2.2.2.2.1.2 k h4))]
    refine Wz [81] ?_;refine Xi u8_46 u8_47 u8_48 J ?_;refine Wz [32,136,64,1] ?_;refine Kw (Qj J J (hc) J) J ?_;refine Wz [84,1,27,37,128,202,138,225,27,37,220] ?_;refine Kw (Qt.yes J J J (Qw J J J J (by assumption))) J ?_;refine Wz [73,16,11,67] ?_
    exact Uq J (Ur [] J J J)
 have h3:¬k<x.Used.length:=by have:=Gqd h; omega
 have hall:=Gl hpa
 have hme:x.Me.toNat<x.Tracks.length:=by omega
 have hat:=at_nat (xs:=x.Tracks) hme
 have hti:=Yc x.Tracks[x.Me.toNat].Inputs
 have hla:=lenAt_is hme
 rw[←fin_eq ⟨q1,q2,q3,q4⟩ ⟨by omega,by omega,q7⟩ ⟨q8,q9,q10⟩ ⟨q11,q12,q13⟩ ⟨q14,q15,q16⟩ ⟨hall,fun i hi=>hpb i hi (by omega)⟩,←hlm]
 by_cases k1:x.Base.Tick≤(knownTicks x.Tracks:Nat)
 ·have hb1:decide (x.Base.Tick≤((knownTicks x.Tracks:Nat):Int))=true:=Gqb k1
  by_cases k2:x.Now.Tick≤(lenAt x.Tracks x.Me.toNat:Nat)
  ·have hb2:decide (x.Now.Tick≤((els x.Tracks[x.Me.toNat].Inputs).length:Int))=true:=Gqb (by omega)
   rw[hb1,Gqb k2]
   refine Wz [38,14] ?_;refine Xi u8_43 u8_49 u8_50 J ?_;refine Wz [183,32,32] ?_;refine Kw (Qj J J (c6) J) J ?_;refine Wz [253,1,27,27,128,202,138,224,225,27,284,96,1,27,224,225,27,220] ?_;refine Kw (Qt.yes J J J (Zn J J J J)) J ?_;refine Wz [96,200,16,6,94] ?_
   exact Uq J (Ur [] J J J)
  ·have hb2:decide (x.Now.Tick≤((els x.Tracks[x.Me.toNat].Inputs).length:Int))=false:=Gqa (by omega)
   rw[hb1,Gqa k2]
   refine Wz [38,14] ?_;refine Xi u8_43 u8_49 u8_50 J ?_;refine Wz [183,32,32] ?_;refine Kw (Qj J J (c6) J) J ?_;refine Wz [253,1,27,27,128,202,138,224,225,27,284,96,1,127,73,200,16,6,94] ?_
   exact Uq J (Ur [] J J J)
 ·have hb1:decide (x.Base.Tick≤((knownTicks x.Tracks:Nat):Int))=false:=Gqa k1
  rw[hb1]
  refine Wz [38,14] ?_;refine Xi u8_43 u8_49 u8_50 J ?_;refine Wz [183,32,32] ?_;refine Kw (Qj J J (c6) J) J ?_;refine Wz [253,1,127,164,73,1,127,73,200,16,6,94] ?_
  exact Uq J (Ur [] J J J)
end
section
open Go.RowKit

theorem faultS_len {f:TFault} {w:TWorld}:(faultS f w).Scores.length=w.Scores.length:=Gqs
theorem fault_fit {w:TWorld} {f:TFault} (hw:WorIn w) (ho:worldOk w=true) (hf:0≤f.Add):worldOk (faultS f w)=true∧WorIn (faultS f w):=by
 have hs:=Kf ho
 obtain⟨g1,g2,g3,g4,g5,g6,g7⟩:=Kp ho
 have hl:=faultS_len (f:=f) (w:=w)
 have hg0:0≤w.Scores.getD f.Player.toNat 0:=by
  rw[Gqe]
  cases hx:w.Scores[f.Player.toNat]? with
  |none=>simp
  |some x=>exact (hs x (Gqo hx)).1
 have hm:∀ x∈(faultS f w).Scores,0≤x∧x≤1000000:=fun x hx=>by
  rcases Gxj hx with h1 | h1
  ·exact hs x h1
  ·rw[h1]; omega
 refine⟨worldOk_T ⟨g1,g2,g3,by rw[hl]; exact g4,Gqm.2 fun x hx=>Yq.2 (hm x hx),by rw[hl]; exact g6,by rw[hl]; exact g7⟩,?_⟩
 obtain⟨⟨a1,a2,a3,a4,a5⟩,b1,b2,b3⟩:=hw
 exact⟨⟨a1,a2,a3,⟨by rw[hl]; exact a4.1,fun x hx=>by have:=hm x hx; exact⟨by omega,by omega⟩⟩,a5⟩,b1,by rw[hl]; exact b2,b3⟩
structure Fit (n:Nat) (l:TLevel) (w:TWorld):Prop where
 wi:WorIn w
 ok:worldOk w=true
 sn:w.Scores.length=n
 lv:w.Level=l
theorem Fit.step {n:Nat} {l:TLevel} {w:TWorld} (h:Fit n l w) (row:List Int):Fit n l (stepW w row) :=
 ⟨step_in h.wi,stepW_ok h.wi.gd h.ok,(stepW_fits h.wi.gd).2.1.trans h.sn,by rw[stepW_level]; exact h.lv⟩
theorem Fit.stepF {n:Nat} {l:TLevel} {w:TWorld} (h:Fit n l w) (row:List Int) (f:TFault):Fit n l (Go.Proofs.YtoecjaohdnoenaaGreat.stepF w row f):=by
 have h1:=h.step row
 unfold Go.Proofs.YtoecjaohdnoenaaGreat.stepF
 split
 ·rename_i hd
  obtain⟨k1,_,_⟩:=hd
  unfold faultOk at k1
  simp only[Gqh,Yq] at k1
  have h2:=fault_fit h1.wi h1.ok (f:=f) (by omega)
  exact⟨h2.2,h2.1,faultS_len.trans h1.sn,h1.lv⟩
 ·exact h1
noncomputable def runF (l:TLevel) (n:Nat) (seed:Int) (tr:List TTrack) (f:TFault):Nat→TWorld
 |0=>newWorld l n seed
 |t+1=>stepF (runF l n seed tr f t) (rowAt tr t) f
theorem runF_fit {l:TLevel} {n:Nat} {seed:Int} {tr:List TTrack} {f:TFault} (hl:levelOk l=true) (gl:Enc.gd l) (ll:l.Rows.length≤1048576) (hn:1≤n∧n≤4) (hs:inR seed 0 65535=true):∀ t,Fit n l (runF l n seed tr f t)
 |0=>⟨⟨newWorld_gd gl hl hn hs,ll,by show (newWorld l n seed).Scores.length≤_; simp only[newWorld,List.length_replicate]; omega,by show (newWorld l n seed).Bodies.length≤_; simp only[newWorld,List.length_map,List.length_range]; omega⟩,newWorld_ok hl hn hs,by show (newWorld l n seed).Scores.length=n; simp[newWorld],rfl⟩
 |t+1=>(runF_fit hl gl ll hn hs t).stepF _ _
theorem S_FaultyStep (w:TWorld) (row:List Int) (f:TFault) (hg:Enc.gd w) (gr:Enc.gd row) (gf:Enc.gd f) (h1:w.Level.Rows.length≤1048576) (h2:w.Scores.length≤1048576) (h3:w.Bodies.length≤1048576) (hl:(stepW w row).Scores.length=w.Scores.length) (hs:∀ x∈(stepW w row).Scores,0≤x∧x≤1000000) (hlv:(stepW w row).Level=w.Level):Con Tryz.prog 136 [] [ag w,al row,ag f] (wR (stepF w row f) []) (.o (.ag [.ref 0,jn (stepF w row f).Tick,jn (stepF w row f).Seed,.ref 1,.ref 2])):=by
 have cs:=S_StepWorld w row hg gr h1 h2 h3
 have hls:=Yc w.Scores
 have cf:=S_FaultOk f (els w.Scores).length (by omega) (by omega)
 rw[←hlv] at cs
 rw[show faultOk f ((els w.Scores).length:Int)=faultOk f w.Scores.length by rw[hls]] at cf
 obtain⟨_,gt,_,_,_⟩:=hg
 obtain⟨ft,fp,fa⟩:=gf
 unfold stepF
 obtain⟨v,hv⟩:∃ v,stepW w row=v:=⟨_,rfl⟩
 rw[hv] at cs hl hs ⊢
 by_cases hd:faultD f w v
 case neg =>
  rw[if_neg hd]
  by_cases k1:faultOk f w.Scores.length=true
  case neg =>
   have k1:faultOk f w.Scores.length=false:=by simpa using k1
   rw[k1] at cf
   refine Con.of Tryz.func136 J Tryz.ntmps136 J (fun E => ?_)
   refine Wz [144,60,30,0,223,46,20,93,21,10] ?_;refine zx (Qj J J (cf) J) J ?_;refine Wz [40,56,101,7,40,56,101,7,9,30,20,94] ?_
   exact Xm J J J J (Ur [3,4,5] J J J)
  rw[k1] at cf
  by_cases k2:v.Tick=f.Tick
  case neg =>
   have k2':decide (v.Tick=f.Tick)=false:=Gqa k2
   refine Con.of Tryz.func136 J Tryz.ntmps136 J (fun E => ?_)
   refine Wz [144,60,30,0,223,46,20,93,21,10] ?_;refine zx (Qj J J (cf) J) J ?_;refine Wz [58,120,12,24,40,56,101,7,9,30,20,94] ?_
   exact Xm J J J J (Ur [3,4,5] J J J)
  have k2':decide (v.Tick=f.Tick)=true:=Gqb k2
  have k3:decide (w.Tick<f.Tick)=false:=Gqa (fun h=>hd ⟨k1,k2,by rw[k2]; exact h⟩)
  refine Con.of Tryz.func136 J Tryz.ntmps136 J (fun E => ?_)
  refine Wz [144,60,30,0,223,46,20,93,21,10] ?_;refine zx (Qj J J (cf) J) J ?_;refine Wz [58,120,12,24,58,120,126,24,9,30,20,94] ?_
  exact Xm J J J J (Ur [3,4,5] J J J)
 rw[if_pos hd]
 obtain⟨k1,k2,k3⟩:=hd
 have hfo:=k1
 unfold faultOk at hfo
 simp only[Gqh,decide_eq_true_eq,Yq] at hfo
 obtain⟨⟨⟨_,p0⟩,p1⟩,a1⟩:=hfo
 obtain⟨q,hq⟩:∃ q:Nat,f.Player=q:=⟨f.Player.toNat,by omega⟩
 obtain⟨s,hsq⟩:=Kk (xs:=v.Scores) (i:=q) (by omega)
 have he:=Yf hsq
 have hlv2:=Yc v.Scores
 have hs0:=hs s (Gqo hsq)
 have hS:(faultS f v).Scores=v.Scores.set q (min (s+f.Add) 1000000):=by
  unfold faultS
  rw[hq]
  simp only[Int.toNat_natCast,Gqe,hsq,Option.getD_some]
 have hE:els (faultS f v).Scores=(els v.Scores).set (f.Player).toNat (splice (Enc.e s) 0 [.v (.int .i64 (min (s+f.Add) 1000000))]):=by
  rw[hS,Ye,hq]; rfl
 have hP:wR (faultS f v) [] = [.row 1 (els v.Level.Rows),.row 1 ((els v.Scores).set (f.Player).toNat (splice (Enc.e s) 0 [.v (.int .i64 (min (s+f.Add) 1000000))])),.row 9 (els v.Bodies)]:=by rw[←hE]; rfl
 rw[hP]
 rw[k1] at cf
 have k2':decide (v.Tick=f.Tick)=true:=Gqb k2
 have k3:decide (w.Tick<f.Tick)=true:=Gqb (by omega)
 refine Con.of Tryz.func136 J Tryz.ntmps136 J (fun E => ?_)
 refine Wz [144,60,30,0,223,46,20,93,21,10] ?_;refine zx (Qj J J (cf) J) J ?_;refine Wz [58,120,12,24,58,120,126,24,11] ?_
 refine AWP.pre (st':=(⟨_,[(3,.o (.c (.ptr 0 0))),(5,.o (.c (.ptr 1 0))),(6,.o (.c (.ptr 2 0))),(7,.o (.c (.ptr 6 0)))],[.box (wD w),.box [jn f.Tick,jn f.Player,jn f.Add],.box [nv,jn 0,jn 0,nv,nv],.row 1 (els v.Level.Rows),.row 1 (els v.Scores),.row 9 (els v.Bodies),.box [.ref 3,jn v.Tick,jn v.Seed,.ref 4,.ref 5]]⟩:St)) ?_ (Ux [0,1,2,3,4,5,6])
 rw[←hq] at he
 refine Xi u8_42 [[],[30],[],[32],[],[34],[],[36],[34,35,36,37],[34,35,36,37,38],[],[40],[34,35,36,37,38,39,40,41],[34,35,36,37,38,39,40,41,42],[30,31,32,33,34,35,36,37,38,39,40,41,42,43],[30,31,32,33,34,35,36,37,38,39,40,41,42,43,44]] [[32,33,34,35,36,37,38,39,40,41,42,43],[32,33,34,35,36,37,38,39,40,41,42,43],[30,31,34,35,36,37,38,39,40,41,42,43],[30,31,34,35,36,37,38,39,40,41,42,43],[30,31,32,33,36,37,40,41],[30,31,32,33,36,37,40,41],[30,31,32,33,34,35,40,41],[30,31,32,33,34,35,40,41],[30,31,32,33,40,41],[30,31,32,33,40,41],[30,31,32,33,34,35,36,37,38,39],[30,31,32,33,34,35,36,37,38,39],[30,31,32,33],[30,31,32,33],[],[]] J ?_;refine Wz [32,32,32,32,152,201,32] ?_;refine Kw (Qs J J J J (by omega)) J (Kw (q_min J J J J) J ?_);refine Wz [152,16,112,6,30,20,94] ?_
 exact Xm J J J J (Ur [3,4,5] J J J)
end
end Go.Proofs.YtoecjaohdnoenaaGreat
