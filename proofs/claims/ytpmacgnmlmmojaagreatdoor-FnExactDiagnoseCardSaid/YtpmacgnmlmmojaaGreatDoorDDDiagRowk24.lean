/-
  Rules, data and contracts of functions: part 25 of the proof.
  Conditions: those that each theorem names.
-/
import Derived.Test.YtpmacgnmlmmojaaGreatDoorDDDiagRowk23
set_option linter.unusedSimpArgs false
set_option linter.unusedVariables false
set_option maxRecDepth 8000
set_option maxHeartbeats 8000000
namespace Go.Proofs.YtpmacgnmlmmojaaGreatDoor
section
open Go.RowKit

def faultS (f:TFault) (w:TWorld):TWorld:=⟨w.Level,w.Tick,w.Seed,w.Scores.set f.Player.toNat (min (w.Scores.getD f.Player.toNat 0+f.Add) 1000000),w.Bodies⟩
def faultD (f:TFault) (w v:TWorld):Prop:=faultOk f w.Scores.length=true∧v.Tick=f.Tick∧w.Tick<v.Tick
noncomputable instance (f:TFault) (w v:TWorld):Decidable (faultD f w v):=Classical.propDecidable _
noncomputable def stepF (w:TWorld) (row:List Int) (f:TFault):TWorld:=if faultD f w (stepW w row) then faultS f (stepW w row) else stepW w row
theorem I_FaultyStep (w:TWorld) (row:List Int) (f:TFault) (hg:Enc.gd w) (gr:Enc.gd row) (gf:Enc.gd f) (h1:w.Level.Rows.length≤1048576) (h2:w.Scores.length≤1048576) (h3:w.Bodies.length≤1048576) (hl:(stepW w row).Scores.length=w.Scores.length) (hs:∀ x∈(stepW w row).Scores,0≤x∧x≤1000000) (hlv:(stepW w row).Level=w.Level):Con Tryz.prog 50 [] [ag w,al row,ag f] (wR (stepF w row f) []) (.o (.ag [.ref 0,jn (stepF w row f).Tick,jn (stepF w row f).Seed,.ref 1,.ref 2])):=by
 have cs:=I_StepWorld w row hg gr h1 h2 h3
 have hls:=Ye w.Scores
 have cf:=I_FaultOk f (els w.Scores).length (by omega)
 rw[←hlv] at cs
 rw[show faultOk f ((els w.Scores).length:Int)=faultOk f w.Scores.length by rw[hls]] at cf
 obtain⟨_,gt,_,_,_⟩:=hg
 obtain⟨ft,fp,fa⟩:=gf
 unfold stepF
 obtain⟨v,hv⟩:∃ v,stepW w row=v:=⟨_,rfl⟩
 rw[hv] at cs hl hs ⊢
 by_cases hd:faultD f w v
 case neg =>
  rw[if_neg hd]
  by_cases k1:faultOk f w.Scores.length=true
  case neg =>
   have k1:faultOk f w.Scores.length=false:=by simpa using k1
   rw[k1] at cf
   refine Con.of Tryz.func50 J Tryz.ntmps50 J (fun E => ?_)
   refine Wz [147,163,124,220,103,31,10,12] ?_;refine zx (Qj J J (cf) J) J ?_;refine Wz [15,78,77,26,78,77,110,89,162,83] ?_
   exact Xm J J J J (V4 [3,4,5] J J J)
  rw[k1] at cf
  by_cases k2:v.Tick=f.Tick
  case neg =>
   have k2':decide (v.Tick≠f.Tick)=true:=Gqb k2
   refine Con.of Tryz.func50 J Tryz.ntmps50 J (fun E => ?_)
   refine Wz [147,163,124,220,103,31,10,12] ?_;refine zx (Qj J J (cf) J) J ?_;refine Wz [15,24,101,58,7,78,77,110,89,162,83] ?_
   exact Xm J J J J (V4 [3,4,5] J J J)
  have k2':decide (v.Tick≠f.Tick)=false:=Gqa (fun h=>h k2)
  have k3:decide (v.Tick≤w.Tick)=true:=Gqb (by
   refine Int.not_lt.1 fun h=>hd ⟨k1,k2,h⟩)
  refine Con.of Tryz.func50 J Tryz.ntmps50 J (fun E => ?_)
  refine Wz [147,163,124,220,103,31,10,12] ?_;refine zx (Qj J J (cf) J) J ?_;refine Wz [15,24,101,58,7,24,101,237,7,22,89,162,83] ?_
  exact Xm J J J J (V4 [3,4,5] J J J)
 rw[if_pos hd]
 obtain⟨k1,k2,k3⟩:=hd
 have hfo:=k1
 unfold faultOk at hfo
 simp only[Gqg,decide_eq_true_eq,Yr] at hfo
 obtain⟨⟨⟨_,p0⟩,p1⟩,a1⟩:=hfo
 obtain⟨q,hq⟩:∃ q:Nat,f.Player=q:=⟨f.Player.toNat,by omega⟩
 obtain⟨s,hsq⟩:=Z7 (xs:=v.Scores) (i:=q) (by omega)
 have he:=Yh hsq
 have hlv2:=Ye v.Scores
 have hs0:=hs s (Gqp hsq)
 have hS:(faultS f v).Scores=v.Scores.set q (min (s+f.Add) 1000000):=by
  unfold faultS
  rw[hq]
  simp only[Int.toNat_natCast,Gqc,hsq,Option.getD_some]
 have hE:els (faultS f v).Scores=(els v.Scores).set (f.Player).toNat (splice (Enc.e s) 0 [.v (.int .i64 (min (s+f.Add) 1000000))]):=by
  rw[hS,Yg,hq]; rfl
 have hP:wR (faultS f v) [] = [.row 1 (els v.Level.Rows),.row 1 ((els v.Scores).set (f.Player).toNat (splice (Enc.e s) 0 [.v (.int .i64 (min (s+f.Add) 1000000))])),.row 9 (els v.Bodies)]:=by rw[←hE]; rfl
 rw[hP]
 rw[k1] at cf
 have k2':decide (v.Tick≠f.Tick)=false:=Gqa (fun h=>h k2)
 have k3:decide (v.Tick≤w.Tick)=false:=Gqa (by omega)
 refine Con.of Tryz.func50 J Tryz.ntmps50 J (fun E => ?_)
 refine Wz [147,163,124,220,103,31,10,12] ?_;refine zx (Qj J J (cf) J) J ?_;refine Wz [15,24,101,58,7,24,101,237,45,17] ?_
 refine AWP.pre (st':=(⟨_,[(3,.o (.c (.ptr 0 0))),(5,.o (.c (.ptr 1 0))),(6,.o (.c (.ptr 2 0))),(7,.o (.c (.ptr 6 0)))],[.box (wD w),.box [jn f.Tick,jn f.Player,jn f.Add],.box [nv,jn 0,jn 0,nv,nv],.row 1 (els v.Level.Rows),.row 1 (els v.Scores),.row 9 (els v.Bodies),.box [.ref 3,jn v.Tick,jn v.Seed,.ref 4,.ref 5]]⟩:St)) ?_ (Ua [0,1,2,3,4,5,6])
 rw[←hq] at he
 refine Xi u8_42 [[],[32],[],[34],[],[36],[],[38],[36,37,38,39],[36,37,38,39,40],[],[42],[36,37,38,39,40,41,42,43],[36,37,38,39,40,41,42,43,44],[32,33,34,35,36,37,38,39,40,41,42,43,44,45],[32,33,34,35,36,37,38,39,40,41,42,43,44,45,46]] [[34,35,36,37,38,39,40,41,42,43,44,45],[34,35,36,37,38,39,40,41,42,43,44,45],[32,33,36,37,38,39,40,41,42,43,44,45],[32,33,36,37,38,39,40,41,42,43,44,45],[32,33,34,35,38,39,42,43],[32,33,34,35,38,39,42,43],[32,33,34,35,36,37,42,43],[32,33,34,35,36,37,42,43],[32,33,34,35,42,43],[32,33,34,35,42,43],[32,33,34,35,36,37,38,39,40,41],[32,33,34,35,36,37,38,39,40,41],[32,33,34,35],[32,33,34,35],[],[]] J ?_;refine Wz [19,19,19,19,134,175,19,292,293,134,9,91,3,89,68] ?_
 exact Xm J J J J (V4 [3,4,5] J J J)
end
section
open Go.RowKit

theorem tail_bodyM {l:TLevel} {n:Nat} {b:TBody} (h:BM l n b) (ht:tailM b=true):bodyM l n b=true:=by
 obtain⟨hk,ho,hp,hvx,hvy,hf⟩:=h
 simp only[bodyM,Gqg,Gq6,Yr]
 exact⟨hk,⟨ho.1,by omega⟩,hp,hvx,hvy,ht⟩
theorem tail_of {l:TLevel} {n:Int} {b:TBody} (h:bodyM l n b=true):tailM b=true:=by
 simp only[bodyM,Gqg] at h
 exact h.2.2.2.2.2
theorem tail_pl {b:TBody} (h:b.Kind=0):tailM b=true↔(b.Aim=1∨b.Aim = -1)∧(0≤b.Life∧b.Life≤3)∧(b.Life=0→1≤b.Timer∧b.Timer≤20)∧(b.Life≠0→0≤b.Timer∧b.Timer≤12):=by
 unfold tailM
 rw[if_pos h,Gqg,Gqg,decide_eq_true_eq,Yr]
 constructor
 ·rintro⟨⟨h1,h2⟩,h3⟩
  refine⟨h1,h2,fun e => ?_,fun e => ?_⟩
  ·rw[if_pos e] at h3; exact Yr.1 h3
  ·rw[if_neg e] at h3; exact Yr.1 h3
 ·rintro⟨h1,h2,h3,h4⟩
  refine⟨⟨h1,h2⟩,?_⟩
  split
  ·exact Yr.2 (h3 (by assumption))
  ·exact Yr.2 (h4 (by assumption))
theorem tail_shot {b:TBody} (h:b.Kind=1):tailM b=true↔(b.Aim=0∧b.Life=0)∧(1≤b.Timer∧b.Timer≤25):=by
 unfold tailM
 rw[if_neg (by omega),if_pos h,Gqg,decide_eq_true_eq,Yr]
structure TK (n:Nat) (bs:List TBody):Prop where
 tl:∀ b∈bs,tailM b=true
 ow:∀ k,k<n→∀ b,bs[k]? = some b→b.Owner=k
theorem TK.set {n k:Nat} {bs:List TBody} {b c:TBody} (h:TK n bs) (hb:bs[k]? = some b) (h1:tailM c=true) (h2:k<n→c.Owner=k):TK n (bs.set k c):=by
 refine⟨fun d hd => ?_,fun j hj d hd => ?_⟩
 ·rcases Gxl hd with h3 | h3
  ·exact h.tl d h3
  ·subst h3; exact h1
 ·rw[List.getElem?_set] at hd
  split at hd
  ·rename_i e
   subst e
   split at hd
   ·cases hd; exact h2 hj
   ·cases hd
  ·exact h.ow j hj d hd
theorem TK.app {n:Nat} {bs:List TBody} {c:TBody} (h:TK n bs) (hl:n≤bs.length) (h1:tailM c=true):TK n (bs ++ [c]):=by
 refine⟨fun d hd => ?_,fun j hj d hd => ?_⟩
 ·rcases Gqq.1 hd with h3 | h3
  ·exact h.tl d h3
  ·rw[Gxr] at h3; subst h3; exact h1
 ·rw[Gqv (by omega)] at hd
  exact h.ow j hj d hd
theorem fresh_tail (l:TLevel) (k:Int):tailM (fresh l k)=true:=by
 rw[tail_pl (by rfl)]
 refine⟨.inl J,⟨by simp[fresh],by simp[fresh]⟩,fun h=>by simp[fresh] at h,fun _=>⟨by simp[fresh],by simp[fresh]⟩⟩
theorem tick1_tail {b:TBody} (h:b.Kind=0) (h2:b.Life=0) (h3:¬b.Timer-1=0) (ht:tailM b=true):tailM (tick1 b)=true:=by
 obtain⟨ha,hl,h4,h5⟩:=(tail_pl h).1 ht
 have:=h4 h2
 refine (tail_pl (b:=tick1 b) h).2 ⟨ha,hl,fun _ => ?_,fun e=>absurd h2 e⟩
 simp only[tick1]
 omega
theorem steer_tail {l:TLevel} {b:TBody} {i:Int} (h:b.Kind=0) (h2:¬b.Life=0) (ht:tailM b=true):tailM (steer l b i).1=true:=by
 obtain⟨ha,hl,h4,h5⟩:=(tail_pl h).1 ht
 have h6:=h5 h2
 refine (tail_pl (b:=(steer l b i).1) h).2 ⟨steer_aim ha,hl,fun e=>absurd e h2,fun _ => ?_⟩
 simp only[steer]
 split
 ·omega
 ·split <;> omega
theorem shotOf_tail (b:TBody):tailM (shotOf b)=true:=(tail_shot (b:=shotOf b) rfl).2 ⟨⟨rfl,rfl⟩,by simp[shotOf]⟩
theorem TK.one {l:TLevel} {n k:Nat} {bs:List TBody} {b:TBody} (h:TK n bs) (hn:n≤bs.length) (hb:bs[k]? = some b) (hk:b.Kind=0) (hkn:k<n) (i:Int):TK n (plOne l i k bs b):=by
 have ht:=h.tl b (Gqp hb)
 have ho:=h.ow k hkn b hb
 unfold plOne
 split
 ·split
  ·exact h.set hb (fresh_tail l k) fun _=>rfl
  ·exact h.set hb (tick1_tail hk (by assumption) (by assumption) ht) fun _=>ho
 ·have h1:TK n (bs.set k (steer l b i).1):=h.set hb (steer_tail hk (by assumption) ht) fun _=>ho
  split
  ·exact h1.app (by rw[Gq7]; exact hn) (shotOf_tail _)
  ·exact h1
theorem TK.pl {l:TLevel} (hl:levelOk l=true) {n:Nat} (hn:n≤4) {bs:List TBody} (h1:n≤bs.length∧bs.length≤24) (hb:bodiesOk l n bs) (h:TK n bs) (row:List Int):∀ k,k≤n→TK n (plM l row bs k)
 |0,_=>h
 | k+1,hk=>by
  have ih:=TK.pl hl hn h1 hb h row k (by omega)
  have hp:=P1.all hl hn h1 hb row k (by omega)
  rw[plM]
  split
  ·exact ih
  ·rename_i b hs
   exact ih.one hp.lm.len.1 hs ((hp.lm.at_ k b hs).2.2 (by omega)) (by omega) _
theorem move_tail {l:TLevel} {b c:TBody} (h:mvOne l b=some c) (ht:tailM b=true):tailM c=true∧c.Owner=b.Owner:=by
 unfold mvOne at h
 split at h
 ·rename_i hk
  cases h
  refine⟨?_,J⟩
  have:=(tail_pl hk.1).1 ht
  exact (tail_pl (b:=(moveM l b).1) hk.1).2 this
 ·split at h
  ·rename_i hk
   split at h
   ·cases h
   ·rename_i hm
    cases h
    have h2:=(tail_shot hk).1 ht
    refine⟨(tail_shot (b:=tick1 (moveM l b).1) hk).2 ⟨h2.1,?_⟩,J⟩
    have:¬b.Timer-1=0:=fun e=>hm (.inr e)
    simp only[tick1,moveM]
    omega
  ·cases h; exact⟨ht,rfl⟩
theorem fmap_at {α β:Type} {f:α→Option β}:∀ (xs:List α) (n:Nat),(∀ j x,j<n→xs[j]? = some x→∃ y,f x=some y)→∀ k y,k<n→(xs.filterMap f)[k]? = some y→k<xs.length→∃ x,xs[k]? = some x∧f x=some y
 | [],_,_,k,y,_,hy,hx=>by simp at hx
 |x::xs,0,h,k,y,hk,_,_=>by omega
 | x::xs,n+1,h,k,y,hk,hy,hx=>by
  obtain⟨z,hz⟩:=h 0 x (by omega) rfl
  rw[List.filterMap_cons,hz] at hy
  cases k with
  |zero =>
   simp only[Gxa] at hy
   exact⟨x,J,by rw[hz]; exact hy⟩
  |succ k =>
   simp only[Gxp] at hy
   simp only[Gqr] at hx
   obtain⟨a,h1,h2⟩:=fmap_at xs n (fun j w hj hw=>h (j+1) w (by omega) (by simpa using hw)) k y (by omega) hy (by omega)
   exact⟨a,by simpa using h1,h2⟩
theorem TK.mv {l:TLevel} {n:Nat} {bs:List TBody} (hL:LM l n bs) (h:TK n bs):TK n (mvM l bs):=by
 have hlen:=hL.len
 refine⟨fun c hc => ?_,fun k hk c hc => ?_⟩
 ·obtain⟨a,ha,hac⟩:=List.mem_filterMap.1 hc
  exact (move_tail hac (h.tl a ha)).1
 ·obtain⟨a,ha,hac⟩:=fmap_at bs n (fun j x hj hx=>mvOne_pl ((hL.at_ j x hx).2.2 hj)) k c hk hc (by omega)
  rw[(move_tail hac (h.tl a (Gqp ha))).2]
  exact h.ow k hk a ha
theorem hit_tail {p:TBody} (hk:p.Kind=0) (hl:0<p.Life) (h:tailM p=true):tailM (hitB p)=true:=by
 obtain⟨ha,hf,h4,h5⟩:=(tail_pl hk).1 h
 have h6:=h5 (by omega)
 refine (tail_pl (b:=hitB p) hk).2 ⟨ha,by simp only[hitB]; omega,fun e => ?_,fun e => ?_⟩
 ·simp only[hitB] at e ⊢
  rw[if_pos e]; omega
 ·simp only[hitB] at e ⊢
  rw[if_neg e]; exact h6
theorem TK.sh1 {l:TLevel} {n:Nat} {bs0:List TBody} {s:List TBody×List Int} (hS:SI l n bs0 s) (h:TK n s.1) (b:TBody):TK n (shOne n s b).1:=by
 unfold shOne
 split
 ·split
  ·exact h
  ·rename_i k hk
   obtain⟨h1,h2⟩:=metF_lt hk
   obtain⟨p,hp,hlf,_,_⟩:=metC_life h2
   rw[hp]
   exact h.set hp (hit_tail ((hS.lm.at_ k p hp).2.2 h1) hlf (h.tl p (Gqp hp))) fun _=>h.ow k h1 p hp
 ·exact h
theorem TK.sh {l:TLevel} {n:Nat} {bs0:List TBody} {s:List TBody×List Int} (hS:SI l n bs0 s) (h:TK n s.1) (t:List TBody):∀ j,TK n (shS n t s j).1
 |0=>h
 |j+1=>by
  rw[shS]
  split
  ·exact TK.sh hS h t j
  ·exact TK.sh1 (hS.all t j) (TK.sh hS h t j) _
theorem TK.hits {l:TLevel} {n:Nat} {bs:List TBody} {ss:List Int} (hL:LM l n bs) (h1:ss.length=n) (h2:∀ x∈ss,0≤x∧x≤1000000) (h:TK n bs):TK n (hitsR n bs ss).1:=by
 have hS:=(SI.start hL h1 h2).all (bs.drop n) (bs.drop n).length
 have hT:TK n (shS n (bs.drop n) (bs,ss) (bs.drop n).length).1:=TK.sh (SI.start hL h1 h2) h _ _
 have hlen:=hS.lm.len
 refine⟨fun c hc => ?_,fun k hk c hc => ?_⟩
 ·rcases Gqq.1 hc with h3 | h3
  ·exact hT.tl c (Gxh h3)
  ·exact h.tl c (List.mem_of_mem_drop (keepR_sub _ c h3))
 ·simp only[hitsR] at hc
  rw[Gqv (by rw[Gq0]; omega),List.getElem?_take_of_lt hk] at hc
  exact hT.ow k hk c hc
theorem spot_free {l:TLevel} {x y:Int} (h : [x,y]∈spotsM l):solidM l x y 8=false:=by
 obtain⟨r,c,row,h1,h2,h3,h4,h5⟩:=rowSp_at h
 simp only[List.cons.injEq,and_true] at h5
 obtain⟨rfl,rfl⟩:=h5
 obtain⟨h6,h7⟩:=Gqm.1 h2
 refine solidM_F fun ⟨r',c',e1,e2,e3,e4,hw⟩ => ?_
 have er:r'=r:=by omega
 have ec:c'=c:=by omega
 subst er; subst ec
 exact no_wall h6 (by rw[h7]; exact h3) (by rw[h7,h4]; decide) hw
theorem item_bm {l:TLevel} {n:Nat} (hn:1≤n) {x y:Int} (h : [x,y]∈spotsM l):BM l n (itemB x y) :=
 ⟨by simp[itemB],by simp only[itemB]; omega,spot_free h,by simp[itemB],by simp[itemB],by simp[itemB]⟩
theorem worldOk_mk {l:TLevel} {n:Nat} {bs:List TBody} {ss:List Int} {t s:Int} (hl:levelOk l=true) (ht:0≤t∧t≤100000) (hs:0≤s∧s≤65535) (hn:1≤n∧n≤4) (h1:ss.length=n) (h2:∀ x∈ss,0≤x∧x≤1000000) (hL:LM l n bs) (hT:TK n bs):worldOk ⟨l,t,s,ss,bs⟩=true:=by
 subst h1
 refine worldOk_T ⟨hl,Yr.2 ht,Yr.2 hs,hn,Gql.2 fun x hx=>Yr.2 (h2 x hx),hL.len,fun k hk => ?_⟩
 have hb:bs[k]? = some bs[k]:=Gqe hk
 have h3:=hL.at_ k _ hb
 unfold bodyAt
 rw[Gqg]
 refine⟨tail_bodyM h3.1 (hT.tl _ (Gqi hk)),?_⟩
 simp only
 split
 ·rename_i hkn
  exact Gqb ⟨h3.2.2 hkn,hT.ow k hkn _ hb⟩
 ·rename_i hkn
  exact Gqb fun e=>hkn (h3.2.1 e)
theorem TK.start {l:TLevel} {n:Nat} {bs:List TBody} (h:bodiesOk l n bs):TK n bs:=by
 refine⟨fun b hb => ?_,fun k hk b hb => ?_⟩
 ·obtain⟨j,hj,rfl⟩:=List.mem_iff_getElem.1 hb
  have:=h j hj
  unfold bodyAt at this
  rw[Gqg] at this
  exact tail_of this.1
 ·exact (old_at h hb hk).ow
theorem tick_ok {w:TWorld} {row:List Int} (hg:Enc.gd w) (ho:worldOk w=true) (ht:w.Tick≠100000) (hr:rowOk row w.Scores.length=true):worldOk (tickM w row)=true:=by
 have hP:=PH.of hg ho hr
 obtain⟨hl,htk,hs,hn,hsc,hlen,hbo⟩:=Kd ho
 have htk:=Yr.1 htk
 have hM:=hits_lm hP.mv rfl (Z3 ho)
 have hT:TK w.Scores.length (hitsR w.Scores.length (movedM w row) w.Scores).1:=TK.hits hP.mv rfl (Z3 ho) (TK.mv hP.pl.lm (TK.pl hl hn.2 hlen hbo (TK.start hbo) row _ (Gqk _)))
 have hnx:=Yx w.Seed
 have hn2:=Yx (nextR w.Seed)
 unfold tickM lastM
 split
 ·exact worldOk_mk hl ⟨by omega,by omega⟩ hnx hn hM.2.1 hM.2.2 hM.1 hT
 ·rename_i hc
  split
  ·exact worldOk_mk hl ⟨by omega,by omega⟩ hn2 hn hM.2.1 hM.2.2 hM.1 hT
  ·obtain⟨i,_,_,hi⟩:=spotOf_mem (l:=w.Level) (seed:=nextR w.Seed) (fun e=>hc (.inr (.inl e)))
   have hmem:=Gqp hi
   obtain⟨x,y,he,_,_⟩:=spot_rng hl hmem
   have hb:(hitsR w.Scores.length (movedM w row) w.Scores).1.length<24:=by
    rcases Gqn (hitsR w.Scores.length (movedM w row) w.Scores).1.length 24 with h | h
    ·exact h
    ·exact absurd (.inr (.inr h)) hc
   rw[he] at hmem ⊢
   exact worldOk_mk hl ⟨by omega,by omega⟩ hn2 hn hM.2.1 hM.2.2 (hM.1.app hb (item_bm hn.1 hmem) (by simp[itemB])) (hT.app hM.1.len.1 J)
theorem stepW_ok {w:TWorld} {row:List Int} (hg:Enc.gd w) (ho:worldOk w=true):worldOk (stepW w row)=true:=by
 unfold stepW
 split
 ·rename_i h
  exact tick_ok hg h.1 h.2.1 h.2.2
 ·exact ho
end
section
open Go.RowKit

theorem tot_wts:∀ xs:List (List Int),tot xs≤wts xs
 | []=>Gqk _
 |x::xs=>by
  have h1:=tot_wts xs
  have h2:tot (x::xs)=x.length+tot xs:=by simp[tot]
  have h3:wts (x::xs)=(x.length+wts x)+wts xs:=rfl
  omega
structure RepIn (y:TReplay):Prop where
 gd:Enc.gd y
 h1:y.Level.Rows.length≤1048576
 h2:y.Keys.length≤1048576
 h3:y.Rows.length≤1048576
 h4:tot y.Rows≤1048576
structure WorIn (w:TWorld):Prop where
 gd:Enc.gd w
 h1:w.Level.Rows.length≤1048576
 h2:w.Scores.length≤1048576
 h3:w.Bodies.length≤1048576
end
section
open Go.RowKit

theorem step_in {w:TWorld} {row:List Int} (h:WorIn w):WorIn (stepW w row):=by
 have h1:=stepW_fits (row:=row) h.gd
 exact⟨h1.1,by rw[stepW_level]; exact h.h1,by rw[h1.2.1]; exact h.h2,by have:=h.h3; omega⟩
end
section
open Go.RowKit

/-! ### Worlds -/
/-! ### Runs -/
/-! ### The lockstep worlds -/
section
variable {l:TLevel} {n:Nat} {seed:Int} {e:Nat} {rows:List (List Int)}
structure RD (l:TLevel) (n:Nat) (seed:Int) (e:Nat) (rows:List (List Int)):Prop where
 hl:levelOk l=true
 gl:Enc.gd l
 ll:l.Rows.length≤1048576
 hn:1≤n∧n≤4
 hs:inR seed 0 65535=true
 he:1≤e∧e≤100
 hL:rows.length≤400
 hr:∀ r∈rows,rowOk r (n:Int)=true
end
end
section
open Go.RowKit

section
variable {n k j:Nat} {t bs:List TBody} {ss:List Int} {s:List TBody×List Int} {b:TBody} {c:Int}
end
end
section
open Go.RowKit

section
variable {n k j P:Nat} {t bs:List TBody} {ss:List Int} {s:List TBody×List Int} {b:TBody} {c a:Int}
end
end
section
open Go.RowKit
end
section
open Go.RowKit

def zeroB (b:UInt8):Bool:=b == 0
def someB (b:UInt8):Bool := !(b == 0)
def packZ (l:List UInt8):List UInt8:=match l with
 | [] => []
 |x::r=>encVar (((x::r).takeWhile zeroB).length:Nat)++(encVar ((((x::r).dropWhile zeroB).takeWhile someB).length:Nat)++((x::r).dropWhile zeroB).takeWhile someB)++packZ (((x::r).dropWhile zeroB).dropWhile someB)
termination_by l.length
decreasing_by
 by_cases h:zeroB x=true
 ·rw[List.dropWhile_cons,if_pos h]
  have h1:=(List.dropWhile_sublist someB (l:=r.dropWhile zeroB)).length_le
  have h2:=(List.dropWhile_sublist zeroB (l:=r)).length_le
  simp only[Gqr]; omega
 ·rw[List.dropWhile_cons,if_neg h,List.dropWhile_cons,if_pos (by simpa[zeroB,someB] using h)]
  have h1:=(List.dropWhile_sublist someB (l:=r)).length_le
  simp only[Gqr]; omega
def uzGo (s:ByteArray) (strict:Bool):Nat→Nat→List UInt8→Option (List UInt8)
 |0,pos,out=>if pos<s.size then none else some out
 | f+1,pos,out=>if pos<s.size then (match decVar s pos with
  |none=>none
  |some (n,j)=>match unpackText s ((pos:Int)+(j:Int)) with
   |none=>none
   |some (t,k)=>if (20000:Int)-out.length<n+t.size then none else if strict=true∧n=0∧t.size=0 then none else uzGo s strict f (pos+j+k) (out++List.replicate n.toNat 0++t.data.toList)) else some out
def unpackZ (strict:Bool) (s:ByteArray):Option ByteArray:=match uzGo s strict s.size 0 [] with
 |none=>none
 |some out=>if bs (packZ out)=s then some (bs out) else none
end
section
open Go.RowKit

section
variable {P:Program} {E:Env} {ops:Array Oper} {rest:List Oper} {o:Oper} {QQ:Exit→St→Prop} {st:St} {t:TypeId} {y z:Operand} {qs:List Nat}
end
end
section
open Go.RowKit
end
section
open Go.RowKit

def xorB (a:ByteArray) (i:Nat) (x:UInt8):UInt8:=if i<a.size then UInt8.ofNat (x.toNat^^^(byteAt a i).toNat) else x
def xorL (a b:ByteArray):List UInt8:=(List.range b.size).map fun i=>xorB a i (b.data.toList.getD i 0)
def xorText (a b:ByteArray):ByteArray:=bs (xorL a b)
end
section
open Go.RowKit

section
variable {s:ByteArray} {b:Bool} {pos f j k:Nat} {acc:List UInt8} {n:Int} {t:ByteArray} (hp:pos<s.size)
include hp
end
def applyD (base delta:ByteArray):Option ByteArray:=match decVar delta 0 with
 |none=>none
 |some (n,j)=>match unpackZ true (delta.extract j delta.size) with
  |none=>none
  |some x=>if (x.size:Int)=n then some (xorText base x) else none
end
section
open Go.RowKit
end
section
open Go.RowKit
end
section
open Go.RowKit

def keyText (s:ByteArray) (keys:List ByteArray):Nat→Option ByteArray
 |0=>some s
 | n+1=>match keyText s keys n with
  |none=>none
  |some t=>match keys[n]? with
   |none=>none
   |some d=>applyD t d
structure ROk (r:TReplay):Prop where
 l:levelOk r.Level=true
 p:1≤r.Players∧r.Players≤4
 s:inR r.Seed 0 65535=true
 e:1≤r.Every∧r.Every≤100
 k:r.Keys.length≤400
section
variable {r:TReplay} {n:Nat} {s:ByteArray} {w:TWorld}
variable (h:keyText (worldBytes (newWorld r.Level r.Players.toNat r.Seed)) r.Keys n=some s)
include h
end
end
section
open Go.RowKit

def inAt (t:Nat) (x:TTrack):Int:=x.Inputs.getD t 0
def rowAt (l:List TTrack) (t:Nat):List Int:=l.map (inAt t)
theorem all_at {l:List TTrack} (h:tracksOk l=true) {k:Nat} (hk:k<l.length):trackOk l[k]=true:=by
 unfold tracksOk at h
 rw[Gqg] at h
 exact Gql.1 h.2 _ (Gqi hk)
theorem I_Predict (x:TTrack) (t:Nat) (g:Enc.gd x) (ho:trackOk x=true) (ht:t<x.Inputs.length):Con Tryz.prog 129 [] [ag x,ai t] [] (I (inAt t x)):=by
 have hl:=Ye x.Inputs
 have hat:=Yd ht
 have c1:=I_TrackOk x g
 rw[ho] at c1
 have f1:decide ((t:Int)<0)=false:=Gqa (by omega)
 have f2:decide ((t:Int)<((els x.Inputs).length:Int))=true:=Gqb (by omega)
 have e:inAt t x=x.Inputs[t]:=by simp[inAt,Gqc,ht]
 rw[e]
 refine Con.of Tryz.func129 J Tryz.ntmps129 J (fun E => ?_)
 refine Wz [44,31] ?_;refine zx (Qj J J (c1) J) J ?_;refine Wz [15,11,13,45,14,12,46,0,105,32,63,116] ?_
 exact V3 J (V4 [] J J J)
theorem rowAt_next {l:List TTrack} {t k:Nat} (h:k<l.length):els ((rowAt l t).take (k+1))=els ((rowAt l t).take k) ++ [Enc.e (inAt t l[k])]:=by
 rw[els_snoc (by simpa[rowAt] using h)]
 simp[rowAt]
theorem I_RowAt (l:List TTrack) (t:Nat) (g:Enc.gd l) (ho:tracksOk l=true) (ht:∀ x∈l,t<x.Inputs.length):Con Tryz.prog 47 [] [al l,ai t] [.row 1 (els (rowAt l t))] (.tu [.c (.ref 0),.c (bv true)]):=by
 have hl:=Ye l
 have c1:=I_TracksOk l g
 rw[ho] at c1
 have h4:=Kb ho
 have f1:decide ((t:Int)<0)=false:=Gqa (by omega)
 have hrl:(rowAt l t).length=l.length:=by simp[rowAt]
 refine Con.of Tryz.func47 J Tryz.ntmps47 J (fun E => ?_)
 refine Wz [1,60,46] ?_;refine zx (Qj J J (c1) J) J ?_;refine Wz [15,11,13,45,6,12] ?_;refine M1 (q_makec 1 J J J J (by omega) (by omega) (by omega) (by omega) J (by simp)) J J ?_;refine Wz [2,74,12,140,64] ?_;refine Xj (fun m st=>∃ k:Nat,k+m=l.length∧(True)∧st=(⟨_,[(1,I t),(6,.o (.c (.ref 0))),(7,B true),(20,L l),(21,I (els l).length),(22,I k)],[.row 1 (els ((rowAt l t).take k))]⟩:St)) (l.length) ⟨_,⟨0,by omega,trivial,J⟩,Ua [0]⟩ ?_
 rintro m_A _ ⟨k,hk_A,hp_A,rfl⟩
 have hl2:(els ((rowAt l t).take k)).length=k:=by rw[Ye]; simp; omega
 by_cases h3:k<l.length
 ·have f2:decide ((k:Int)<((els l).length:Int))=true:=Gqb (by omega)
  have hat:=Yd h3
  have hm:=Gqi h3
  have htk:=ht _ hm
  have hli:=Ye l[k].Inputs
  have c2:=I_Predict l[k] t (g.2 _ hm) (all_at ho h3) htk
  have f3:decide (((els l[k].Inputs).length:Int)≤(t:Int))=false:=Gqa (by omega)
  refine Wz [1,13,117,51,16,1,119,103,6,39,0] ?_;refine zx (Qj J J (c2) J) J ?_;refine Wz [53,153,73,10,12,137,127,54] ?_
  exact⟨l.length-(k+1),by omega,(fun k:Nat=>(⟨_,[(1,I t),(6,.o (.c (.ref 0))),(7,B true),(20,L l),(21,I (els l).length),(22,I k)],[.row 1 (els ((rowAt l t).take k))]⟩:St)) (k+1),⟨k+1,by omega,trivial,J⟩,V0 [0] J (Zy (rowAt_next h3)) (.c J (.c J (.c J (.c J (.c J (.c J (.nil)))))))⟩
 have f2:decide ((k:Int)<((els l).length:Int))=false:=Gqa (by omega)
 have hk:(rowAt l t).take k=rowAt l t:=Gq3 (by omega)
 rw[hk]
 refine Wz [1,13,117,156,29,23,60,48] ?_
 exact Xq J J J (V4 [0] J J J)
end
section
open Go.RowKit

theorem at_nat {α:Type} [Enc α] {xs:List α} {i:Int} (h:i.toNat<xs.length):(els xs)[i.toNat]? = some (Enc.e (xs[i.toNat]'h)):=by simp[els,h]
theorem world_ticks {w:TWorld} (h:worldOk w=true):0≤w.Tick∧w.Tick≤100000:=by
 have h2:=(Kd h).2.1
 rwa[Yr] at h2
section
variable {p:TPeer}
theorem no1 (h:(((!tracksOk p.Tracks || !worldOk p.Base) || !worldOk p.Now) || !decide (p.Base.Level=p.Now.Level))=true):¬PeerP p:=fun ⟨⟨q1,q2,q3,q4⟩,_⟩=>by
 rw[q1,q2,q3,Gqb q4] at h; exact absurd h (by decide)
theorem no2 (h:((decide ((p.Base.Scores.length:Int)≠p.Tracks.length) || decide ((p.Now.Scores.length:Int)≠p.Tracks.length)) || !faultOk p.Fault p.Tracks.length)=true):¬PeerP p:=fun ⟨_,⟨q1,q2,q3⟩,_⟩=>by
 rw[q3,Gqa (by omega),Gqa (by omega)] at h; exact absurd h (by decide)
theorem no3 (h:((!inR p.Me 0 ((p.Tracks.length:Int)-1) || !inR p.Delay 0 5) || !inR p.Ahead 1 8)=true):¬PeerP p:=fun ⟨_,_,⟨q1,q2,q3⟩,_⟩=>by
 rw[Yr.2 q1,Yr.2 q2,Yr.2 q3] at h; exact absurd h (by decide)
theorem no4 (h:((!inR p.Seed 0 65535 || !inR p.Rolls 0 1000000) || !inR p.Again 0 1000000)=true):¬PeerP p:=fun ⟨_,_,_,⟨q1,q2,q3⟩,_⟩=>by
 rw[Yr.2 q1,Yr.2 q2,Yr.2 q3] at h; exact absurd h (by decide)
theorem no5 (h:((!inR (p.Now.Tick-p.Base.Tick) 0 p.Ahead || decide ((p.Used.length:Int)≠p.Now.Tick-p.Base.Tick)) || decide ((p.Saves.length:Int)≠p.Now.Tick-p.Base.Tick))=true):¬PeerP p:=fun ⟨_,_,_,_,⟨q1,q2,q3⟩,_⟩=>by
 rw[Yr.2 q1,Gqa (by omega),Gqa (by omega)] at h; exact absurd h (by decide)
theorem fin_eq (h1:tracksOk p.Tracks=true∧worldOk p.Base=true∧worldOk p.Now=true∧p.Base.Level=p.Now.Level)
  (h2:p.Base.Scores.length=p.Tracks.length∧p.Now.Scores.length=p.Tracks.length∧faultOk p.Fault p.Tracks.length=true)
  (h3:(0≤p.Me∧p.Me≤(p.Tracks.length:Int)-1)∧(0≤p.Delay∧p.Delay≤5)∧(1≤p.Ahead∧p.Ahead≤8))
  (h4:(0≤p.Seed∧p.Seed≤65535)∧(0≤p.Rolls∧p.Rolls≤1000000)∧(0≤p.Again∧p.Again≤1000000))
  (h5:(0≤p.Now.Tick-p.Base.Tick∧p.Now.Tick-p.Base.Tick≤p.Ahead)∧(p.Used.length:Int)=p.Now.Tick-p.Base.Tick∧(p.Saves.length:Int)=p.Now.Tick-p.Base.Tick)
  (h6:(p.Used.all fun row=>rowOk row p.Tracks.length)=true∧∀ k (h:k<p.Saves.length),p.Saves[k].Tick=p.Base.Tick+k) :
  ((decide (p.Base.Tick≤(knownTicks p.Tracks:Nat))&&decide (p.Now.Tick≤(lenAt p.Tracks p.Me.toNat:Nat)))&&decide ((p.Sums.length:Int)=p.Base.Tick+1))=peerOk p:=by
 by_cases h7:p.Base.Tick≤knownTicks p.Tracks∧p.Now.Tick≤lenAt p.Tracks p.Me.toNat∧(p.Sums.length:Int)=p.Base.Tick+1
 ·rw[peer_T ⟨h1,h2,h3,h4,h5,h6,h7⟩,Gqb h7.1,Gqb h7.2.1,Gqb h7.2.2]; rfl
 ·rw[peer_F fun ⟨_,_,_,_,_,_,h8⟩=>h7 h8]
  rw[←Gxq]
  simp only[Gqg,decide_eq_true_eq]
  exact fun ⟨⟨a,b⟩,c⟩=>h7 ⟨a,b,c⟩
end
theorem I_PeerOk (x:TPeer) (hg:Enc.gd x):Con Tryz.prog 43 [] [ag x] [] (B (peerOk x)):=by
 obtain⟨gMe,gDe,gAh,gSe,gTr,gBa,gNo,gUs,gSa,gSu,gFa,gRo,gAg⟩:=hg
 have hlt:=Ye x.Tracks
 have hlu:=Ye x.Used
 have hls:=Ye x.Saves
 have hlm:=Ye x.Sums
 have hlb:=Ye x.Base.Scores
 have hln:=Ye x.Now.Scores
 have c1:=I_TracksOk x.Tracks gTr
 have c2:=Xt x.Base gBa
 have c3:=Xt x.Now gNo
 have c4:=I_sameLevel x.Base.Level x.Now.Level gBa.1
 have c5:=I_FaultOk x.Fault (els x.Tracks).length (by omega)
 have c6:=I_KnownTicks x.Tracks gTr
 refine Con.of Tryz.func43 J Tryz.ntmps43 J (fun E => ?_)
 refine Wz [44,14,12,2,21] ?_;refine zx (Qj J J (c1) J) J ?_;refine Wz [15,198,266] ?_;refine zx (Kx J (.hit (.hit .stop)) (fun hgrd=>Qj J J (c2) J)) J ?_;refine Wz [146,28,198,266] ?_;refine zx (Kx J (.hit (.hit .stop)) (fun hgrd=>Qj J J (c3) J)) J ?_;refine Wz [146,28,198,207] ?_;refine zx (Kx J (.hit (.hit .stop)) (fun hgrd=>Qu J J J J J J)) J ?_;refine zx (Kx J (.hit (.hit (.hit .stop))) (fun hgrd=>Qf J J J J (by decide))) J ?_;refine zx (Kx J (.hit (.hit (.hit (.hit .stop)))) (fun hgrd=>Qf J J J J (by decide))) J ?_;refine zx (Kx J (.hit (.hit (.hit (.hit (.hit .stop))))) (fun hgrd=>Qu J J J J J J)) J ?_;refine zx (Kx J (.hit (.hit (.hit (.hit (.hit (.hit .stop)))))) (fun hgrd=>Qj J J (c4) J)) J ?_;refine zx (Kx J (.hit (.hit (.hit (.hit (.hit (.hit (.hit .stop))))))) (fun hgrd=>Q4 J J J)) J ?_;refine Wz [28,3] ?_
 refine Xb J (fun h1 => ?_) (fun h1 => ?_)
 ·rw[peer_F (no1 h1)]
  refine Wz [107] ?_
  exact V3 J (V4 [] J J J)
 simp only[Gqt,Gxe,decide_eq_true_eq] at h1
 obtain⟨⟨⟨q1,q2⟩,q3⟩,q4⟩:=h1
 have tB:=world_ticks q2
 have tN:=world_ticks q3
 have tL:=Kb q1
 refine AWP.pre (st':=(⟨_,[(1,.o (.c (.ptr 0 0))),(3,I (els x.Tracks).length)],[.box ((Enc.e x).map (V1.rd []))]⟩:St)) ?_ (Ua [0])
 refine Wz [27,305,171,10,112,142,198,207,234,260,295,296,28,198,266,238] ?_;refine zx (Kx J (.hit (.hit (.hit .stop))) (fun hgrd=>Qj J J (c5) J)) J ?_;refine Wz [297,28,3] ?_
 refine Xb J (fun h2 => ?_) (fun h2 => ?_)
 ·rw[hlt,hlb,hln] at h2
  rw[peer_F (no2 h2)]
  refine Wz [107] ?_
  exact V3 J (V4 [] J J J)
 rw[hlt,hlb,hln] at h2
 simp only[Gqt,Gxe,decide_eq_false_iff_not,Classical.not_not] at h2
 obtain⟨⟨q5,q6⟩,q7⟩:=h2
 refine AWP.pre (st':=(⟨_,[(1,.o (.c (.ptr 0 0))),(3,I (els x.Tracks).length)],[.box ((Enc.e x).map (V1.rd []))]⟩:St)) ?_ (Ua [0])
 refine Wz [27,21,0,35] ?_;refine zx (Qj J J (Xu x.Me 0 (((els x.Tracks).length:Int)-1)) J) J ?_;refine Wz [15,109] ?_;refine zx (Kx J (.hit (.hit .stop)) (fun hgrd=>Qj J J (Xu x.Delay 0 5) J)) J ?_;refine Wz [146,28,109] ?_;refine zx (Kx J (.hit (.hit .stop)) (fun hgrd=>Qj J J (Xu x.Ahead 1 8) J)) J ?_;refine Wz [146,28,3] ?_
 refine Xb J (fun h3 => ?_) (fun h3 => ?_)
 ·rw[hlt] at h3
  rw[peer_F (no3 h3)]
  refine Wz [107] ?_
  exact V3 J (V4 [] J J J)
 rw[hlt] at h3
 simp only[Gqt,Gxe,Yr] at h3
 obtain⟨⟨q8,q9⟩,q10⟩:=h3
 refine AWP.pre (st':=(⟨_,[(1,.o (.c (.ptr 0 0))),(3,I (els x.Tracks).length)],[.box ((Enc.e x).map (V1.rd []))]⟩:St)) ?_ (Ua [0])
 refine Wz [27,21] ?_;refine zx (Qj J J (Xu x.Seed 0 65535) J) J ?_;refine Wz [15,109] ?_;refine zx (Kx J (.hit (.hit .stop)) (fun hgrd=>Qj J J (Xu x.Rolls 0 1000000) J)) J ?_;refine Wz [146,28,109] ?_;refine zx (Kx J (.hit (.hit .stop)) (fun hgrd=>Qj J J (Xu x.Again 0 1000000) J)) J ?_;refine Wz [146,28,3] ?_
 refine Xb J (fun h4 => ?_) (fun h4 => ?_)
 ·rw[peer_F (no4 h4)]
  refine Wz [107] ?_
  exact V3 J (V4 [] J J J)
 simp only[Gqt,Gxe,Yr] at h4
 obtain⟨⟨q11,q12⟩,q13⟩:=h4
 refine AWP.pre (st':=(⟨_,[(1,.o (.c (.ptr 0 0))),(3,I (els x.Tracks).length)],[.box ((Enc.e x).map (V1.rd []))]⟩:St)) ?_ (Ua [0])
 refine Wz [27,1,171,10,171,10,35,46,10] ?_;refine zx (Qj J J (Xu (x.Now.Tick-x.Base.Tick) 0 x.Ahead) J) J ?_;refine Wz [15,109,226,261,280,28,109,226,261,280,28,3] ?_
 refine Xb J (fun h5 => ?_) (fun h5 => ?_)
 ·rw[hlu,hls] at h5
  rw[peer_F (no5 h5)]
  refine Wz [107] ?_
  exact V3 J (V4 [] J J J)
 rw[hlu,hls] at h5
 simp only[Gqt,Gxe,decide_eq_false_iff_not,Classical.not_not,Yr] at h5
 obtain⟨⟨q14,q15⟩,q16⟩:=h5
 refine AWP.pre (st':=(⟨_,[(1,.o (.c (.ptr 0 0))),(3,I (els x.Tracks).length)],[.box ((Enc.e x).map (V1.rd []))]⟩:St)) ?_ (Ua [0])
 refine Wz [27,21,12,140,64] ?_;refine Xj (fun m st=>∃ k:Nat,k+m=x.Used.length∧((x.Used.take k).all (fun row=>rowOk row x.Tracks.length)=true)∧st=(⟨_,[(1,.o (.c (.ptr 0 0))),(3,I (els x.Tracks).length),(120,L x.Used),(121,I (els x.Used).length),(122,I k)],[.box ((Enc.e x).map (V1.rd []))]⟩:St)) (x.Used.length) ⟨_,⟨0,by omega,by simp,J⟩,Ua [0]⟩ ?_
 rintro m_A _ ⟨k,hk_A,hp_A,rfl⟩
 refine Wz [1,67,17] ?_
 refine Xb J (fun h => ?_) (fun h => ?_)
 ·have h3:k<x.Used.length:=by have:=Gqd h; omega
  have hat:=Yd h3
  have hc:=I_rowOk x.Used[k] (els x.Tracks).length (gUs.2 _ (Gqi h3))
  rw[hlt] at hc
  cases ho:rowOk x.Used[k] x.Tracks.length with
  |false =>
   rw[ho,←hlt] at hc
   rw[peer_F (fun hp=>by have:=hp.2.2.2.2.2.1.1; rw[all_no h3 ho] at this; cases this)]
   refine Wz [16,1,63,2,23] ?_;refine zx (Qj J J (hc) J) J ?_;refine Wz [15,97,40] ?_
   exact V3 J (V4 [] J J J)
  |true =>
   rw[ho,←hlt] at hc
   refine Wz [16,1,63,2,23] ?_;refine zx (Qj J J (hc) J) J ?_;refine Wz [15,127,54] ?_
   exact⟨x.Used.length-(k+1),by omega,_,⟨k+1,by omega,X7 hp_A h3 ho,J⟩,Ua [0]⟩
 have h3:¬((k:Int)<(els x.Used).length):=Gqf h
 have hall:=all_end hp_A (by omega)
 refine Wz [29,21,12,140,64] ?_;refine Xj (fun m st=>∃ j:Nat,j+m=x.Saves.length∧((∀ i (h:i<x.Saves.length),i<j→x.Saves[i].Tick=x.Base.Tick+i))∧st=(⟨_,[(1,.o (.c (.ptr 0 0))),(3,I (els x.Tracks).length),(132,L x.Saves),(133,I (els x.Saves).length),(134,I j)],[.box ((Enc.e x).map (V1.rd []))]⟩:St)) (x.Saves.length) ⟨_,⟨0,by omega,fun i _ hi=>absurd hi (Nat.not_lt_zero _),J⟩,Ua [0]⟩ ?_
 rintro m_D _ ⟨j,hk_D,hp_D,rfl⟩
 refine Wz [1,67,17] ?_
 refine Xb J (fun h => ?_) (fun h => ?_)
 ·have h4:j<x.Saves.length:=by have:=Gqd h; omega
  have hat:=Yd h4
  by_cases ho:x.Saves[j].Tick=x.Base.Tick+j
  ·have hb:decide (x.Saves[j].Tick≠x.Base.Tick+j)=false:=Gqa (fun h=>h ho)
   refine Wz [50,119,61,60,120,14,171,10,0,30,58,127,54] ?_
   exact⟨x.Saves.length-(j+1),by omega,_,⟨j+1,by omega,fun i hi hij=>by by_cases e:i=j; subst e; exact ho; exact hp_D i hi (by omega),J⟩,Ua [0]⟩
  ·have hb:decide (x.Saves[j].Tick≠x.Base.Tick+j)=true:=Gqb ho
   rw[peer_F (fun hp=>ho (hp.2.2.2.2.2.1.2 j h4))]
   refine Wz [50,119,61,60,120,14,171,10,0,30,58,97,40] ?_
   exact V3 J (V4 [] J J J)
 have h4:¬((j:Int)<(els x.Saves).length):=Gqf h
 have hme:x.Me.toNat<x.Tracks.length:=by omega
 have hat:=at_nat (xs:=x.Tracks) hme
 have hti:=Ye x.Tracks[x.Me.toNat].Inputs
 have hla:=lenAt_is hme
 rw[←fin_eq ⟨q1,q2,q3,q4⟩ ⟨by omega,by omega,q7⟩ ⟨q8,q9,q10⟩ ⟨q11,q12,q13⟩ ⟨q14,q15,q16⟩ ⟨hall,fun i hi=>hp_D i hi (by omega)⟩,←hlm]
 by_cases k1:x.Base.Tick≤(knownTicks x.Tracks:Nat)
 ·have hb1:decide (x.Base.Tick≤((knownTicks x.Tracks:Nat):Int))=true:=Gqb k1
  by_cases k2:x.Now.Tick≤(lenAt x.Tracks x.Me.toNat:Nat)
  ·have hb2:decide (x.Now.Tick≤((els x.Tracks[x.Me.toNat].Inputs).length:Int))=true:=Gqb (by omega)
   rw[hb1,Gqb k2]
   refine Wz [29,17,298,184,19,19] ?_;refine Ki (Qj J J (c6) J) J ?_;refine Wz [253,4,38,38,96,254,139,199,221,38,281,55,4,38,199,221,38,217,282,55,167,9,3,68] ?_
   exact V3 J (V4 [] J J J)
  ·have hb2:decide (x.Now.Tick≤((els x.Tracks[x.Me.toNat].Inputs).length:Int))=false:=Gqa (by omega)
   rw[hb1,Gqa k2]
   refine Wz [29,17,298,184,19,19] ?_;refine Ki (Qj J J (c6) J) J ?_;refine Wz [253,4,38,38,96,254,139,199,221,38,281,55,90,102,43,167,9,3,68] ?_
   exact V3 J (V4 [] J J J)
 ·have hb1:decide (x.Base.Tick≤((knownTicks x.Tracks:Nat):Int))=false:=Gqa k1
  rw[hb1]
  refine Wz [29,17,298,184,19,19] ?_;refine Ki (Qj J J (c6) J) J ?_;refine Wz [253,90,102,102,43,90,102,43,167,9,3,68] ?_
  exact V3 J (V4 [] J J J)
end
section
open Go.RowKit

def rowsOf (l:List TTrack) (t:Nat):List (List Int):=(List.range t).map (rowAt l)
theorem rowsOf_next {l:List TTrack} {k:Nat}:els (rowsOf l (k+1))=els (rowsOf l k) ++ [Enc.e (rowAt l k)]:=by
 rw[rowsOf,List.range_succ,List.map_append,els,List.map_append]
 rfl
theorem rowsOf_at {l:List TTrack} {t k:Nat} (h:k<t):(rowsOf l t)[k]'(by simpa[rowsOf] using h)=rowAt l k:=by simp[rowsOf]
theorem I_RowsOf (l:List TTrack) (t:Nat) (g:Enc.gd l) (ho:tracksOk l=true) (ht:t≤knownTicks l) (h1000:t≤1000) (hk:∀ k<t,∀ x∈l,k<x.Inputs.length):Con Tryz.prog 140 [] [al l,ai 0,ai t] [.row 1 (els (rowsOf l t))] (.o (.c (.ref 0))):=by
 have c1:=I_TracksOk l g
 rw[ho] at c1
 have c2:=I_KnownTicks l g
 have f1:decide ((0:Int)<0)=false:=rfl
 have f2:decide (((knownTicks l:Nat):Int)<(t:Int))=false:=Gqa (by omega)
 refine Con.of Tryz.func140 J Tryz.ntmps140 J (fun E => ?_)
 refine Wz [74] ?_;refine zx (Qj J J (c1) J) J ?_;refine Wz [15,11,13,7,11,25] ?_;refine zx (Qj J J (c2) J) J ?_;refine Wz [5,84,45,74,151] ?_
 refine AWP.pre ?_ (W_nil 7 1 J)
 refine Xj (fun m st=>∃ k:Nat,k+m=t∧(True)∧st=(⟨_,[(0,L l),(2,I t),(7,.o (.c (.ref 0))),(8,I k)],[.row 1 (els (rowsOf l k))]⟩:St)) (t) ⟨_,⟨0,by omega,trivial,J⟩,Ua [0]⟩ ?_
 rintro m_A _ ⟨k,hk_A,hp_A,rfl⟩
 have hl2:(els (rowsOf l k)).length=k:=by rw[Ye]; simp[rowsOf]
 by_cases h3:k<t
 ·have f3:decide ((k:Int)<(t:Int))=true:=Gqb (by omega)
  have c3:=I_RowAt l k g ho (hk k h3)
  refine Wz [18,105,16,23] ?_;refine M1 (Zc J J (c3) J J J) J J ?_;refine Wz [138,56,56,60,2,81,53,141,82] ?_
  exact⟨t-(k+1),by omega,(fun k:Nat=>(⟨_,[(0,L l),(2,I t),(7,.o (.c (.ref 0))),(8,I k)],[.row 1 (els (rowsOf l k))]⟩:St)) (k+1),⟨k+1,by omega,trivial,J⟩,V0 [0] J (Zy rowsOf_next) (.c J (.c J (.c J (.c J (.nil)))))⟩
 have f3:decide ((k:Int)<(t:Int))=false:=Gqa (by omega)
 have hkt:k=t:=by omega
 subst hkt
 refine Wz [18,13,130,111] ?_
 exact V3 J (V4 [0] J J J)
structure RunIn (W:Nat→TWorld) (l:List TTrack) (f:TFault) (t:Nat):Prop where
 wi:∀ k,k≤t→WorIn (W k)
 st:∀ k,k<t→W (k+1)=stepF (W k) (rowAt l k) f
 sl_:∀ k,k<t→(stepW (W k) (rowAt l k)).Scores.length=(W k).Scores.length
 ss:∀ k,k<t→∀ s∈(stepW (W k) (rowAt l k)).Scores,0≤s∧s≤1000000
 lv:∀ k,k<t→(stepW (W k) (rowAt l k)).Level=(W k).Level
 gr:∀ k,k<t→Enc.gd (rowAt l k)
 kn:∀ k,k<t→∀ x∈l,k<x.Inputs.length
theorem I_Replayed (x:TPeer) (W:Nat→TWorld) (t:Nat) (h:PeerIn x) (ok:peerOk x=true) (ht:t≤knownTicks x.Tracks) (h1000:t≤1000) (hW:W 0=newWorld x.Base.Level x.Tracks.length x.Seed) (hR:RunIn W x.Tracks x.Fault t):Con Tryz.prog 55 [] [ag x,ai t] (wR (W t) []) (.tu [.ag [.ref 0,jn (W t).Tick,jn (W t).Seed,.ref 1,.ref 2],.c (bv true)]):=by
 have c1:=I_PeerOk x h.gd
 rw[ok] at c1
 have ⟨⟨o1,o2,_⟩,_,_,⟨⟨s1,s2⟩,_⟩,_⟩:=Y4 ok
 have hts:=Kb o1
 obtain⟨_,_,_,_,gT,gB,gN,gU,gS,gM,gF,_,_⟩:=h.gd
 have hlt:=Ye x.Tracks
 have c2:=I_KnownTicks x.Tracks gT
 have c3:=I_NewWorld x.Base.Level x.Tracks.length x.Seed gB.1 h.bw.1 (Kd o2).1 ⟨hts.1,hts.2⟩ (Yr.2 ⟨s1,s2⟩)
 rw[←hW,←hlt] at c3
 have c4:=I_RowsOf x.Tracks t gT o1 ht h1000 hR.kn
 have f1:decide ((t:Int)<0)=false:=Gqa (by omega)
 have f2:decide (((knownTicks x.Tracks:Nat):Int)<(t:Int))=false:=Gqa (by omega)
 have hlr:(els (rowsOf x.Tracks t)).length=t:=by rw[Ye]; simp[rowsOf]
 refine Con.of Tryz.func55 J Tryz.ntmps55 J (fun E => ?_)
 refine Wz [194,61,2,31] ?_;refine zx (Qj J J (c1) J) J ?_;refine Wz [15,11,13,7,11,101] ?_;refine zx (Qj J J (c2) J) J ?_;refine Wz [5,84,45,1,171,247,10,12,10] ?_;refine M1 (Zc J J (c3) J J J) J J ?_;refine Wz [138,56,56,61,33,46,76,21,0] ?_;refine M1 (Zc J J (c4) J J J) J J ?_;refine Wz [41,140,64] ?_;refine Xj (fun m st=>∃ k:Nat,k+m=t∧(True)∧st=(⟨_,[(2,.o (.c (.ptr 0 0))),(4,.o (.c (.ptr 1 0))),(6,.o (.c (.ptr 5 0))),(43,.o (.c (.ref 6))),(44,I (els (rowsOf x.Tracks t)).length),(45,I k)],[.box (pD x),.box [nv,jn 0,jn 0,nv,nv],.row 1 (els (W k).Level.Rows),.row 1 (els (W k).Scores),.row 9 (els (W k).Bodies),.box [.ref 2,jn (W k).Tick,jn (W k).Seed,.ref 3,.ref 4],.row 1 (els (rowsOf x.Tracks t))]⟩:St)) (t) ⟨_,⟨0,by omega,trivial,J⟩,Ua [0,1,2,3,4,5,6]⟩ ?_
 rintro m_A _ ⟨k,hk_A,hp_A,rfl⟩
 by_cases h3:k<t
 ·have f3:decide ((k:Int)<((els (rowsOf x.Tracks t)).length:Int))=true:=Gqb (by omega)
  have hat:(els (rowsOf x.Tracks t))[k]? = some (Enc.e (rowAt x.Tracks k)):=by
   have:=Yd (xs:=rowsOf x.Tracks t) (k:=k) (by simpa[rowsOf] using h3)
   rwa[rowsOf_at h3] at this
  have hw:=hR.wi k (by omega)
  have c5:=I_FaultyStep (W k) (rowAt x.Tracks k) x.Fault hw.gd (hR.gr k h3) gF hw.h1 hw.h2 hw.h3 (hR.sl_ k h3) (hR.ss k h3) (hR.lv k h3)
  rw[←hR.st k h3] at c5
  refine Wz [1,13,117,51,16,1,99,128,2,115,39,0,247] ?_;refine M1 (Zc J J (c5) J J J) J J ?_;refine Wz [33,52,54] ?_
  exact⟨t-(k+1),by omega,_,⟨k+1,by omega,trivial,J⟩,Ua [0,1,7,8,9,5,6]⟩
 have f3:decide ((k:Int)<((els (rowsOf x.Tracks t)).length:Int))=false:=Gqa (by omega)
 have hkt:k=t:=by omega
 subst hkt
 refine Wz [1,13,117,156,29,79,33,48] ?_
 exact Xn J J J J J (V4 [2,3,4] J J J)
end
section
open Go.RowKit

section
variable {p:TPeer}
theorem noS1 (h:((((((!worldOk p.Base || !worldOk p.Now) || !decide (p.Base.Level=p.Now.Level)) || decide ((p.Base.Scores.length:Int)≠p.Tracks.length)) || decide ((p.Now.Scores.length:Int)≠p.Tracks.length)) || !tracksOk p.Tracks) || !faultOk p.Fault p.Tracks.length)=true):¬PeerP p:=fun ⟨⟨q1,q2,q3,q4⟩,⟨q5,q6,q7⟩,_⟩=>by
 rw[q1,q2,q3,Gqb q4,q7,Gqa (by omega),Gqa (by omega)] at h; exact absurd h (by decide)
theorem noS2 (h:((((((((!inR p.Me 0 ((p.Tracks.length:Int)-1) || !inR p.Delay 0 5) || !inR p.Ahead 1 8) || !inR p.Seed 0 65535) || !inR p.Rolls 0 1000000) || !inR p.Again 0 1000000) || !inR (p.Now.Tick-p.Base.Tick) 0 p.Ahead) || decide ((p.Used.length:Int)≠p.Now.Tick-p.Base.Tick)) || decide ((p.Saves.length:Int)≠p.Now.Tick-p.Base.Tick))=true):¬PeerP p:=fun ⟨_,_,⟨q1,q2,q3⟩,⟨q4,q5,q6⟩,⟨q7,q8,q9⟩,_⟩=>by
 rw[Yr.2 q1,Yr.2 q2,Yr.2 q3,Yr.2 q4,Yr.2 q5,Yr.2 q6,Yr.2 q7,Gqa (by omega),Gqa (by omega)] at h; exact absurd h (by decide)
end
theorem S_PeerOk (x:TPeer) (hg:Enc.gd x):Con Tryz.prog 86 [] [ag x] [] (B (peerOk x)):=by
 obtain⟨gMe,gDe,gAh,gSe,gTr,gBa,gNo,gUs,gSa,gSu,gFa,gRo,gAg⟩:=hg
 have hlt:=Ye x.Tracks
 have hlu:=Ye x.Used
 have hls:=Ye x.Saves
 have hlm:=Ye x.Sums
 have hlb:=Ye x.Base.Scores
 have hln:=Ye x.Now.Scores
 have c1:=S_TracksOk x.Tracks gTr
 have c2:=Xy x.Base gBa
 have c3:=Xy x.Now gNo
 have c4:=S_sameLevel x.Base.Level x.Now.Level gBa.1
 have c5:=S_FaultOk x.Fault (els x.Tracks).length (by omega) (by have:=gTr.1; omega)
 have c6:=S_KnownTicks x.Tracks gTr
 refine Con.of Tryz.func86 J Tryz.ntmps86 J (fun E => ?_)
 refine Wz [44,14,12,2,228] ?_;refine zx (Qj J J (c2) J) J ?_;refine Wz [15,198,266] ?_;refine zx (Kx J (.hit (.hit .stop)) (fun hgrd=>Qj J J (c3) J)) J ?_;refine Wz [146,28,198,207] ?_;refine zx (Kx J (.hit (.hit .stop)) (fun hgrd=>Qu J J J J J J)) J ?_;refine zx (Kx J (.hit (.hit (.hit .stop))) (fun hgrd=>Qf J J J J (by decide))) J ?_;refine zx (Kx J (.hit (.hit (.hit (.hit .stop)))) (fun hgrd=>Qf J J J J (by decide))) J ?_;refine zx (Kx J (.hit (.hit (.hit (.hit (.hit .stop))))) (fun hgrd=>Qu J J J J J J)) J ?_;refine zx (Kx J (.hit (.hit (.hit (.hit (.hit (.hit .stop)))))) (fun hgrd=>Qj J J (c4) J)) J ?_;refine zx (Kx J (.hit (.hit (.hit (.hit (.hit (.hit (.hit .stop))))))) (fun hgrd=>Q4 J J J)) J ?_;refine Wz [28,198,207,234,260,295,296,28,198,207,234,260,295,296,28,109] ?_;refine zx (Kx J (.hit (.hit .stop)) (fun hgrd=>Qj J J (c1) J)) J ?_;refine Wz [146,28,198,266,238] ?_;refine zx (Kx J (.hit (.hit (.hit .stop))) (fun hgrd=>Qj J J (c5) J)) J ?_;refine Wz [297,28,3] ?_
 refine Xb J (fun h1 => ?_) (fun h1 => ?_)
 ·rw[hlt,hlb,hln] at h1
  rw[peer_F (noS1 h1)]
  refine Wz [107] ?_
  exact V3 J (V4 [] J J J)
 rw[hlt,hlb,hln] at h1
 simp only[Gqt,Gxe,decide_eq_true_eq,decide_eq_false_iff_not,Classical.not_not] at h1
 obtain⟨⟨⟨⟨⟨⟨q2,q3⟩,q4⟩,q5⟩,q6⟩,q1⟩,q7⟩:=h1
 have tB:=world_ticks q2
 have tN:=world_ticks q3
 have tL:=Kb q1
 refine AWP.pre (st':=(⟨_,[(1,.o (.c (.ptr 0 0))),(3,I (els x.Tracks).length)],[.box ((Enc.e x).map (V1.rd []))]⟩:St)) ?_ (Ua [0])
 refine Wz [27,1,171,10,171,10,35,2,21,0,35] ?_;refine zx (Qj J J (Xz x.Me 0 (((els x.Tracks).length:Int)-1)) J) J ?_;refine Wz [15,109] ?_;refine zx (Kx J (.hit (.hit .stop)) (fun hgrd=>Qj J J (Xz x.Delay 0 5) J)) J ?_;refine Wz [146,28,109] ?_;refine zx (Kx J (.hit (.hit .stop)) (fun hgrd=>Qj J J (Xz x.Ahead 1 8) J)) J ?_;refine Wz [146,28,109] ?_;refine zx (Kx J (.hit (.hit .stop)) (fun hgrd=>Qj J J (Xz x.Seed 0 65535) J)) J ?_;refine Wz [146,28,109] ?_;refine zx (Kx J (.hit (.hit .stop)) (fun hgrd=>Qj J J (Xz x.Rolls 0 1000000) J)) J ?_;refine Wz [146,28,109] ?_;refine zx (Kx J (.hit (.hit .stop)) (fun hgrd=>Qj J J (Xz x.Again 0 1000000) J)) J ?_;refine Wz [146,28,0,132,207,234] ?_;refine zx (Kx J (.hit (.hit (.hit .stop))) (fun hgrd=>Qj J J (Xz (x.Now.Tick-x.Base.Tick) 0 x.Ahead) J)) J ?_;refine Wz [297,28,109,226,261,280,28,109,226,261,280,28,3] ?_
 refine Xb J (fun h2 => ?_) (fun h2 => ?_)
 ·rw[hlt,hlu,hls] at h2
  rw[peer_F (noS2 h2)]
  refine Wz [107] ?_
  exact V3 J (V4 [] J J J)
 rw[hlt,hlu,hls] at h2
 simp only[Gqt,Gxe,decide_eq_false_iff_not,Classical.not_not,Yr] at h2
 obtain⟨⟨⟨⟨⟨⟨⟨⟨q8,q9⟩,q10⟩,q11⟩,q12⟩,q13⟩,q14⟩,q15⟩,q16⟩:=h2
 refine AWP.pre (st':=(⟨_,[(1,.o (.c (.ptr 0 0))),(3,I (els x.Tracks).length),(4,I (x.Now.Tick-x.Base.Tick))],[.box ((Enc.e x).map (V1.rd []))]⟩:St)) ?_ (Ua [0])
 refine Wz [27,42] ?_;refine Xj (fun m st=>∃ k:Nat,k+m=x.Used.length∧((x.Used.take k).all (fun row=>rowOk row x.Tracks.length)=true∧(∀ i (h:i<x.Saves.length),i<k→x.Saves[i].Tick=x.Base.Tick+i))∧st=(⟨_,[(1,.o (.c (.ptr 0 0))),(3,I (els x.Tracks).length),(4,I (x.Now.Tick-x.Base.Tick)),(5,I k)],[.box ((Enc.e x).map (V1.rd []))]⟩:St)) (x.Used.length) ⟨_,⟨0,by omega,⟨by simp,fun i _ hi=>absurd hi (Nat.not_lt_zero _)⟩,J⟩,Ua [0]⟩ ?_
 rintro m_A _ ⟨k,hk_A,hp_A,rfl⟩
 obtain⟨hpa,hpb⟩:=hp_A
 refine Wz [18,67] ?_
 refine Xb J (fun h => ?_) (fun h => ?_)
 ·have h3:k<x.Used.length:=by have:=Gqd h; omega
  have h4:k<x.Saves.length:=by omega
  have hat:=Yd h3
  have hat2:=Yd h4
  have hc:=S_rowOk x.Used[k] (els x.Tracks).length (gUs.2 _ (Gqi h3))
  rw[hlt] at hc
  cases ho:rowOk x.Used[k] x.Tracks.length with
  |false =>
   rw[ho,←hlt] at hc
   rw[peer_F (fun hp=>by have:=hp.2.2.2.2.2.1.1; rw[all_no h3 ho] at this; cases this)]
   refine Wz [108,299,19,4,204,88,4] ?_;refine Ki (Qj J J (hc) J) J ?_;refine Wz [136,90,102,102,55,9,97,40] ?_
   exact V3 J (V4 [] J J J)
  | true =>
   rw[ho,←hlt] at hc
   by_cases hs:x.Saves[k].Tick=x.Base.Tick+k
   ·have hb:decide (x.Saves[k].Tick≠x.Base.Tick+k)=false:=Gqa (fun h=>h hs)
    refine Wz [108,299,19,4,204,88,4] ?_;refine Ki (Qj J J (hc) J) J ?_;refine Wz [136,4,62,96,254,139,221,62,217,255,43,9,80] ?_
    exact⟨x.Used.length-(k+1),by omega,_,⟨k+1,by omega,⟨X7 hpa h3 ho,fun i hi hij=>by by_cases e:i=k; subst e; exact hs; exact hpb i hi (by omega)⟩,J⟩,Ua [0]⟩
   ·have hb:decide (x.Saves[k].Tick≠x.Base.Tick+k)=true:=Gqb hs
    rw[peer_F (fun hp=>hs (hp.2.2.2.2.2.1.2 k h4))]
    refine Wz [108,299,19,4,204,88,4] ?_;refine Ki (Qj J J (hc) J) J ?_;refine Wz [136,4,62,96,254,139,221,62,217,255,43,9,97,40] ?_
    exact V3 J (V4 [] J J J)
 have h3:¬k<x.Used.length:=by have:=Gqf h; omega
 have hall:=all_end hpa (by omega)
 have hme:x.Me.toNat<x.Tracks.length:=by omega
 have hat:=at_nat (xs:=x.Tracks) hme
 have hti:=Ye x.Tracks[x.Me.toNat].Inputs
 have hla:=lenAt_is hme
 rw[←fin_eq ⟨q1,q2,q3,q4⟩ ⟨by omega,by omega,q7⟩ ⟨q8,q9,q10⟩ ⟨q11,q12,q13⟩ ⟨q14,q15,q16⟩ ⟨hall,fun i hi=>hpb i hi (by omega)⟩,←hlm]
 by_cases k1:x.Base.Tick≤(knownTicks x.Tracks:Nat)
 ·have hb1:decide (x.Base.Tick≤((knownTicks x.Tracks:Nat):Int))=true:=Gqb k1
  by_cases k2:x.Now.Tick≤(lenAt x.Tracks x.Me.toNat:Nat)
  ·have hb2:decide (x.Now.Tick≤((els x.Tracks[x.Me.toNat].Inputs).length:Int))=true:=Gqb (by omega)
   rw[hb1,Gqb k2]
   refine Wz [29,17,300,184,19,19] ?_;refine Ki (Qj J J (c6) J) J ?_;refine Wz [253,4,38,38,96,254,139,199,221,38,281,55,4,38,199,221,38,217,282,55,167,9,3,68] ?_
   exact V3 J (V4 [] J J J)
  ·have hb2:decide (x.Now.Tick≤((els x.Tracks[x.Me.toNat].Inputs).length:Int))=false:=Gqa (by omega)
   rw[hb1,Gqa k2]
   refine Wz [29,17,300,184,19,19] ?_;refine Ki (Qj J J (c6) J) J ?_;refine Wz [253,4,38,38,96,254,139,199,221,38,281,55,90,102,43,167,9,3,68] ?_
   exact V3 J (V4 [] J J J)
 ·have hb1:decide (x.Base.Tick≤((knownTicks x.Tracks:Nat):Int))=false:=Gqa k1
  rw[hb1]
  refine Wz [29,17,300,184,19,19] ?_;refine Ki (Qj J J (c6) J) J ?_;refine Wz [253,90,102,102,43,90,102,43,167,9,3,68] ?_
  exact V3 J (V4 [] J J J)
end
end Go.Proofs.YtpmacgnmlmmojaaGreatDoor
