/-
  Rules, data and contracts of functions: part 23 of the proof.
  Conditions: those that each theorem names.
-/
import Derived.Test.YtfklmiijhcajdaaGreatDDTellRowk21
set_option linter.unusedSimpArgs false
set_option linter.unusedVariables false
set_option maxRecDepth 8000
set_option maxHeartbeats 8000000
namespace Go.Proofs.YtfklmiijhcajdaaGreat
section
open Go.RowKit

def itemB (x y:Int):TBody:=⟨2,0,x,y,0,0,0,0,0⟩
def isItem (x y:Int) (b:TBody):Bool:=decide (b.Kind=2∧b.X=x∧b.Y=y)
def itemAt (bs:List TBody) (x y:Int):Bool:=bs.any (isItem x y)
def spotOf (l:TLevel) (seed:Int):List Int:=(spotsM l).getD (belowR seed (spotsM l).length).toNat []
def lastM (l:TLevel) (tick seed:Int) (ss:List Int) (bs:List TBody):TWorld :=
 if tick%16≠0∨(spotsM l).length=0∨24≤bs.length then ⟨l,tick,seed,ss,bs⟩
 else if itemAt bs ((spotOf l seed).getD 0 0) ((spotOf l seed).getD 1 0)=true then ⟨l,tick,nextR seed,ss,bs⟩
 else ⟨l,tick,nextR seed,ss,bs ++ [itemB ((spotOf l seed).getD 0 0) ((spotOf l seed).getD 1 0)]⟩
noncomputable def movedM (w:TWorld) (row:List Int):List TBody:=mvM w.Level (plM w.Level row w.Bodies w.Scores.length)
noncomputable def tickM (w:TWorld) (row:List Int):TWorld :=
 lastM w.Level (w.Tick+1) (nextR w.Seed) (hitsR w.Scores.length (movedM w row) w.Scores).2 (hitsR w.Scores.length (movedM w row) w.Scores).1
noncomputable def stepW (w:TWorld) (row:List Int):TWorld:=if worldOk w=true∧w.Tick≠100000∧rowOk row w.Scores.length=true then tickM w row else w
theorem PH.of {w:TWorld} {row:List Int} (hg:Enc.gd w) (ho:worldOk w=true) (hr:rowOk row w.Scores.length=true):PH w row:=by
 obtain⟨gL,gT,gS,gSc,gB⟩:=hg
 obtain⟨hl,ht,hs,hn,hsc,hlen,hbo⟩:=Kv ho
 rw[rowOk,Gqi,decide_eq_true_eq] at hr
 refine⟨gL,gB.2,hl,hn,hlen,hbo,Aqa,fun i hi => ?_⟩
 have:=Gqn.1 hr.2 i hi
 exact Yx.1 this
theorem scores_rng {w:TWorld} (ho:worldOk w=true):∀ x∈w.Scores,0≤x∧x≤1000000:=fun x hx=>by
 obtain⟨_,_,_,_,hsc,_,_⟩:=Kv ho
 exact Yx.1 (Gqn.1 hsc x hx)
section
variable {w:TWorld} {row:List Int}
theorem PH.pl (h:PH w row):P1 w.Level w.Scores.length w.Bodies (plM w.Level row w.Bodies w.Scores.length) w.Scores.length:=P1.all h.hl h.n4.2 h.len h.bs row _ (Gqk _)
theorem PH.mv (h:PH w row):LM w.Level w.Scores.length (movedM w row):=h.pl.lm.move
end
section
variable {l:TLevel} {n:Nat} {bs:List TBody} {ss:List Int}
theorem SI.drop {bs0:List TBody} {s:List TBody×List Int} (h:SI l n bs0 s):s.1.drop n=bs0.drop n:=by
 apply List.ext_getElem?
 intro i
 rw[Gxh,Gxh]
 exact h.tl _ Aqa 
theorem SI.shots (h:LM l n bs) (h1:ss.length=n) (h2:∀ x∈ss,0≤x∧x≤1000000):LM l n ((shS n (bs.drop n) (bs,ss) (bs.drop n).length).1.take n++shL n (bs.drop n) (bs,ss) (bs.drop n).length):=by
 have hS:=(SI.start h h1 h2).all (bs.drop n) (bs.drop n).length
 have hl:=h.len
 have hd:=hS.drop
 have h3:=shL_le (n:=n) (t:=bs.drop n) (s:=(bs,ss)) (bs.drop n).length
 have h4:(bs.drop n).length=bs.length-n:=List.length_drop
 exact hS.lm.cut (fun b hb=>by rw[hd]; exact shL_sub _ b hb) Aqa 
theorem LM.items {j:Nat} (h:LM l n bs) (hj:j≤bs.length-n):LM l n (bs.take n++itL n bs (bs.drop n) j):=by
 have hl:=h.len
 have h3:=itL_le (n:=n) (bs:=bs) (t:=bs.drop n) (j:=j)
 exact h.cut (fun b hb=>List.mem_of_mem_take (List.mem_filter.1 hb).1) Aqa 
theorem hits_lm (h:LM l n bs) (h1:ss.length=n) (h2:∀ x∈ss,0≤x∧x≤1000000):LM l n (hitsR n bs ss).1∧(hitsR n bs ss).2.length=n∧∀ x∈(hitsR n bs ss).2,0≤x∧x≤1000000:=by
 have hS:=(SI.start h h1 h2).all (bs.drop n) (bs.drop n).length
 rw[←hits_eq h h1 h2]
 exact⟨(SI.shots h h1 h2).items (by rw[List.length_drop]; exact Gqk _),itS_ok hS.sl hS.sc⟩
end
/-! ### What fits -/
def TA (b:TBody):Prop:=(-2≤b.Timer∧b.Timer≤25)∧(-1≤b.Aim∧b.Aim≤1)
theorem body_aim {l:TLevel} {n k:Nat} {b:TBody} (h:bodyAt l n k b=true) : -1≤b.Aim∧b.Aim≤1:=by
 rw[bodyAt,Gqi] at h
 have h1:=h.1
 simp only[bodyM,Gqi] at h1
 obtain⟨_,_,_,_,_,ht⟩:=h1
 unfold tailM at ht
 split at ht
 ·simp only[Gqi,decide_eq_true_eq] at ht; omega
 ·split at ht
  ·simp only[Gqi,decide_eq_true_eq] at ht; omega
  ·simp only[decide_eq_true_eq] at ht; omega
theorem pl_aim {l:TLevel} {row:List Int} {bs:List TBody} (h:∀ b∈bs,-1≤b.Aim∧b.Aim≤1):∀ k,∀ b∈plM l row bs k,-1≤b.Aim∧b.Aim≤1
 |0,b,hb=>h b hb
 | k+1,b,hb=>by
  have ih:=pl_aim (row:=row) (l:=l) h k
  rw[plM] at hb
  split at hb
  ·exact ih b hb
  ·rename_i p hp
   have hp2:=ih p (Gqm hp)
   have hs : -1≤(steer l p (row.getD k 0)).1.Aim∧(steer l p (row.getD k 0)).1.Aim≤1:=by
    simp only[steer]
    split
    ·omega
    ·split <;> omega
   have key:∀ {c:TBody},(-1≤c.Aim∧c.Aim≤1)→b∈(plM l row bs k).set k c → -1≤b.Aim∧b.Aim≤1:=fun hc hb=>by
    rcases Gxi hb with h1 | h1
    ·exact ih b h1
    ·subst h1; exact hc
   unfold plOne at hb
   split at hb
   ·refine key ?_ hb
    split
    ·simp[fresh]
    ·exact hp2
   ·split at hb
    ·rcases Gqs.1 hb with h1 | h1
     ·exact key hs h1
     ·rw[Gxj] at h1; subst h1; simp[shotOf]
    ·exact key hs hb
theorem mv_ta {l:TLevel} {bs:List TBody} (h:∀ b∈bs,(0≤b.Timer∧b.Timer≤25)∧(-1≤b.Aim∧b.Aim≤1)):∀ b∈mvM l bs,TA b:=fun b hb=>by
 obtain⟨c,hc,hcb⟩:=List.mem_filterMap.1 hb
 have hh:=h c hc
 unfold mvOne at hcb
 split at hcb
 ·cases hcb
  exact⟨⟨by simp only[moveM]; omega,by simp only[moveM]; omega⟩,hh.2⟩
 ·split at hcb
  ·split at hcb
   ·cases hcb
   ·cases hcb
    exact⟨⟨by simp only[tick1,moveM]; omega,by simp only[tick1,moveM]; omega⟩,hh.2⟩
  ·cases hcb; exact⟨Aqa,hh.2⟩
theorem sh_ta {n:Nat} {t:List TBody} {s:List TBody×List Int} (h:∀ b∈s.1,TA b):∀ j,∀ b∈(shS n t s j).1,TA b
 |0,b,hb=>h b hb
 | j+1,b,hb=>by
  have ih:=sh_ta (n:=n) (t:=t) h j
  rw[shS] at hb
  split at hb
  ·exact ih b hb
  ·unfold shOne at hb
   split at hb
   ·split at hb
    ·exact ih b hb
    ·split at hb
     ·exact ih b hb
     ·rename_i p hp
      rcases Gxi hb with h1 | h1
      ·exact ih b h1
      ·subst h1
       have h2:=ih p (Gqm hp)
       refine⟨?_,h2.2⟩
       simp only[hitB]
       split
       ·omega
       ·exact h2.1
   ·exact ih b hb
theorem keepR_sub {n:Nat} {t bs:List TBody} {s:List TBody×List Int}:∀ j,∀ b∈keepR n t s bs j,b∈t
 |0,b,hb=>by cases hb
 | j+1,b,hb=>by
  rw[keepR] at hb
  split at hb
  ·exact keepR_sub j b hb
  ·rename_i c hc
   split at hb
   ·exact keepR_sub j b hb
   ·rcases Gqs.1 hb with h | h
    ·exact keepR_sub j b h
    ·rw[Gxj] at h; subst h; exact Gqm hc
theorem hits_ta {n:Nat} {bs:List TBody} {ss:List Int} (h:∀ b∈bs,TA b):∀ b∈(hitsR n bs ss).1,TA b:=fun b hb=>by
 rcases Gqs.1 hb with h1 | h1
 ·exact sh_ta (s:=(bs,ss)) h _ b (List.mem_of_mem_take h1)
 ·exact h b (List.mem_of_mem_drop (keepR_sub _ b h1))
theorem body_gd {l:TLevel} {n:Nat} {b:TBody} (hl:levelOk l=true) (hn:n≤4) (h:BM l n b) (ht:TA b):Enc.gd b:=by
 have hp:=(h.placed hl).1
 obtain⟨hk,ho,_,hvx,hvy,hf⟩:=h
 obtain⟨_,hx,hy⟩:=hp
 obtain⟨h1,h2⟩:=ht
 refine⟨⟨?_,?_⟩,⟨?_,?_⟩,⟨?_,?_⟩,⟨?_,?_⟩,⟨?_,?_⟩,⟨?_,?_⟩,⟨?_,?_⟩,⟨?_,?_⟩,⟨?_,?_⟩⟩ <;> omega
theorem spot_rng {l:TLevel} (hl:levelOk l=true) {sp:List Int} (h:sp∈spotsM l):∃ x y:Int,sp = [x,y]∧(0≤x∧x≤400)∧(0≤y∧y≤400):=by
 obtain⟨l3,l12,w,w4,w20,hw⟩:=Yz hl
 obtain⟨r,c,row,h1,h2,h3,_,h5⟩:=rowSp_at h
 obtain⟨h6,h7⟩:=Gqo.1 h2
 have h8:=hw r h6
 rw[h7] at h8
 exact⟨_,_,h5,Aqa,Aqa⟩
theorem spotOf_mem {l:TLevel} {seed:Int} (h:(spotsM l).length≠0):∃ (i:Nat),belowR seed (spotsM l).length=i∧i<(spotsM l).length∧(spotsM l)[i]? = some (spotOf l seed):=by
 have h1:=Y9 seed
 have h2:0≤belowR seed (spotsM l).length∧belowR seed (spotsM l).length<(spotsM l).length:=by
  unfold belowR
  exact⟨Int.emod_nonneg _ Aqa,Int.emod_lt_of_pos _ Aqa⟩
 obtain⟨i,hi⟩:∃ i:Nat,belowR seed (spotsM l).length=i:=⟨_,(Int.toNat_of_nonneg h2.1).symm⟩
 refine⟨i,hi,Aqa,?_⟩
 rw[spotOf,hi,Int.toNat_natCast,Gqg,Gqf Aqa]
 rfl
theorem item_gd {x y:Int} (hx:0≤x∧x≤400) (hy:0≤y∧y≤400):Enc.gd (itemB x y):=by
 refine⟨⟨?_,?_⟩,⟨?_,?_⟩,⟨?_,?_⟩,⟨?_,?_⟩,⟨?_,?_⟩,⟨?_,?_⟩,⟨?_,?_⟩,⟨?_,?_⟩,⟨?_,?_⟩⟩ <;> simp only[itemB] <;> omega
structure Fits (w:TWorld) (n:Nat):Prop where
 gd:Enc.gd w
 sl:w.Scores.length=n
 bl:w.Bodies.length≤24
theorem last_fits {l:TLevel} {tick seed:Int} {ss:List Int} {bs:List TBody} {n:Nat} (hl:levelOk l=true) (gl:Enc.gd l) (ht:0≤tick∧tick≤100000) (hs:0≤seed∧seed≤65535) (h1:ss.length=n) (hn:n≤4) (h2:∀ x∈ss,0≤x∧x≤1000000) (h3:bs.length≤24) (h4:∀ b∈bs,Enc.gd b):Fits (lastM l tick seed ss bs) n:=by
 have g2:Enc.gd ss:=⟨Aqa,fun x hx=>by have:=h2 x hx; exact⟨Aqa,Aqa⟩⟩
 have g1:Enc.gd bs:=⟨Aqa,h4⟩
 have gt:Enc.gd tick:=⟨Aqa,Aqa⟩
 have gs:Enc.gd seed:=⟨Aqa,Aqa⟩
 have hnx:=Y9 seed
 have gn:Enc.gd (nextR seed):=⟨Aqa,Aqa⟩
 unfold lastM
 split
 ·exact⟨⟨gl,gt,gs,g2,g1⟩,h1,h3⟩
 ·rename_i hc
  split
  ·exact⟨⟨gl,gt,gn,g2,g1⟩,h1,h3⟩
  ·obtain⟨i,_,_,hi⟩:=spotOf_mem (l:=l) (seed:=seed) (fun e=>hc (.inr (.inl e)))
   obtain⟨x,y,he,hx,hy⟩:=spot_rng hl (Gqm hi)
   have hb:bs.length<24:=by
    rcases Gqq bs.length 24 with h | h
    ·exact h
    ·exact absurd (.inr (.inr h)) hc
   have hli:(bs ++ [itemB ((spotOf l seed).getD 0 0) ((spotOf l seed).getD 1 0)]).length≤24:=by rw[Gqp]; simp; omega
   refine⟨⟨gl,gt,gn,g2,Nat.le_trans hli Aqc,fun b hb2 => ?_⟩,h1,hli⟩
   rcases Gqs.1 hb2 with h5 | h5
   ·exact h4 b h5
   ·rw[Gxj] at h5
    subst h5
    rw[he]
    exact item_gd hx hy
theorem tick_fits {w:TWorld} {row:List Int} (hg:Enc.gd w) (ho:worldOk w=true) (ht:w.Tick≠100000) (hr:rowOk row w.Scores.length=true):Fits (tickM w row) w.Scores.length:=by
 have hP:=PH.of hg ho hr
 obtain⟨hl,htk,hs,hn,hsc,hlen,hbo⟩:=Kv ho
 have htk:=Yx.1 htk
 have hM:=hits_lm hP.mv rfl (scores_rng ho)
 have hta:∀ b∈movedM w row,TA b:=mv_ta fun b hb=>⟨hP.pl.tm b hb,pl_aim (fun c hc=>by
  obtain⟨j,hj,rfl⟩:=List.mem_iff_getElem.1 hc
  exact body_aim (hbo j hj)) _ b hb⟩
 have hnx:=Y9 w.Seed
 refine last_fits hl hg.1 ⟨Aqa,Aqa⟩ hnx hM.2.1 hn.2 hM.2.2 hM.1.len.2 fun b hb => ?_
 obtain⟨j,hj⟩:=List.getElem?_of_mem hb
 exact body_gd hl hn.2 (hM.1.at_ j b hj).1 (hits_ta hta b hb)
theorem stepW_level (w:TWorld) (row:List Int):(stepW w row).Level=w.Level:=by
 unfold stepW
 split
 ·unfold tickM lastM
  split
  ·rfl
  ·split <;> rfl
 ·rfl
theorem stepW_fits {w:TWorld} {row:List Int} (hg:Enc.gd w):Enc.gd (stepW w row)∧(stepW w row).Scores.length=w.Scores.length∧(stepW w row).Bodies.length≤max w.Bodies.length 24:=by
 unfold stepW
 split
 ·rename_i h
  have:=tick_fits hg h.1 h.2.1 h.2.2
  exact⟨this.gd,this.sl,by have:=this.bl; omega⟩
 ·exact⟨hg,rfl,Aqa⟩
end
section
open Go.RowKit

theorem tail_bodyM {l:TLevel} {n:Nat} {b:TBody} (h:BM l n b) (ht:tailM b=true):bodyM l n b=true:=by
 obtain⟨hk,ho,hp,hvx,hvy,hf⟩:=h
 simp only[bodyM,Gqi,Gq8,Yx]
 exact⟨hk,⟨ho.1,Aqa⟩,hp,hvx,hvy,ht⟩
theorem tail_of {l:TLevel} {n:Int} {b:TBody} (h:bodyM l n b=true):tailM b=true:=by
 simp only[bodyM,Gqi] at h
 exact h.2.2.2.2.2
theorem tail_pl {b:TBody} (h:b.Kind=0):tailM b=true↔(b.Aim=1∨b.Aim = -1)∧(0≤b.Life∧b.Life≤3)∧(b.Life=0→1≤b.Timer∧b.Timer≤20)∧(b.Life≠0→0≤b.Timer∧b.Timer≤12):=by
 unfold tailM
 rw[if_pos h,Gqi,Gqi,decide_eq_true_eq,Yx]
 constructor
 ·rintro⟨⟨h1,h2⟩,h3⟩
  refine⟨h1,h2,fun e => ?_,fun e => ?_⟩
  ·rw[if_pos e] at h3; exact Yx.1 h3
  ·rw[if_neg e] at h3; exact Yx.1 h3
 ·rintro⟨h1,h2,h3,h4⟩
  refine⟨⟨h1,h2⟩,?_⟩
  split
  ·exact Yx.2 (h3 Aqe)
  ·exact Yx.2 (h4 Aqe)
theorem tail_shot {b:TBody} (h:b.Kind=1):tailM b=true↔(b.Aim=0∧b.Life=0)∧(1≤b.Timer∧b.Timer≤25):=by
 unfold tailM
 rw[if_neg Aqa,if_pos h,Gqi,decide_eq_true_eq,Yx]
structure TK (n:Nat) (bs:List TBody):Prop where
 tl:∀ b∈bs,tailM b=true
 ow:∀ k,k<n→∀ b,bs[k]? = some b→b.Owner=k
theorem TK.set {n k:Nat} {bs:List TBody} {b c:TBody} (h:TK n bs) (hb:bs[k]? = some b) (h1:tailM c=true) (h2:k<n→c.Owner=k):TK n (bs.set k c):=by
 refine⟨fun d hd => ?_,fun j hj d hd => ?_⟩
 ·rcases Gxi hd with h3 | h3
  ·exact h.tl d h3
  ·subst h3; exact h1
 ·rw[List.getElem?_set] at hd
  split at hd
  ·rename_i e
   subst e
   split at hd
   ·cases hd; exact h2 hj
   ·cases hd
  ·exact h.ow j hj d hd
theorem TK.app {n:Nat} {bs:List TBody} {c:TBody} (h:TK n bs) (hl:n≤bs.length) (h1:tailM c=true):TK n (bs ++ [c]):=by
 refine⟨fun d hd => ?_,fun j hj d hd => ?_⟩
 ·rcases Gqs.1 hd with h3 | h3
  ·exact h.tl d h3
  ·rw[Gxj] at h3; subst h3; exact h1
 ·rw[Gqw Aqa] at hd
  exact h.ow j hj d hd
theorem fresh_tail (l:TLevel) (k:Int):tailM (fresh l k)=true:=by
 rw[tail_pl (by rfl)]
 refine⟨.inl J,⟨by simp[fresh],by simp[fresh]⟩,fun h=>by simp[fresh] at h,fun _=>⟨by simp[fresh],by simp[fresh]⟩⟩
theorem tick1_tail {b:TBody} (h:b.Kind=0) (h2:b.Life=0) (h3:¬b.Timer-1=0) (ht:tailM b=true):tailM (tick1 b)=true:=by
 obtain⟨ha,hl,h4,h5⟩:=(tail_pl h).1 ht
 have:=h4 h2
 refine (tail_pl (b:=tick1 b) h).2 ⟨ha,hl,fun _ => ?_,fun e=>absurd h2 e⟩
 simp only[tick1]
 omega
theorem steer_tail {l:TLevel} {b:TBody} {i:Int} (h:b.Kind=0) (h2:¬b.Life=0) (ht:tailM b=true):tailM (steer l b i).1=true:=by
 obtain⟨ha,hl,h4,h5⟩:=(tail_pl h).1 ht
 have h6:=h5 h2
 refine (tail_pl (b:=(steer l b i).1) h).2 ⟨steer_aim ha,hl,fun e=>absurd e h2,fun _ => ?_⟩
 simp only[steer]
 split
 ·omega
 ·split <;> omega
theorem shotOf_tail (b:TBody):tailM (shotOf b)=true:=(tail_shot (b:=shotOf b) rfl).2 ⟨⟨rfl,rfl⟩,by simp[shotOf]⟩
theorem TK.one {l:TLevel} {n k:Nat} {bs:List TBody} {b:TBody} (h:TK n bs) (hn:n≤bs.length) (hb:bs[k]? = some b) (hk:b.Kind=0) (hkn:k<n) (i:Int):TK n (plOne l i k bs b):=by
 have ht:=h.tl b (Gqm hb)
 have ho:=h.ow k hkn b hb
 unfold plOne
 split
 ·split
  ·exact h.set hb (fresh_tail l k) fun _=>rfl
  ·exact h.set hb (tick1_tail hk Aqe Aqe  ht) fun _=>ho
 ·have h1:TK n (bs.set k (steer l b i).1):=h.set hb (steer_tail hk Aqe ht) fun _=>ho
  split
  ·exact h1.app (by rw[Gqx]; exact hn) (shotOf_tail _)
  ·exact h1
theorem TK.pl {l:TLevel} (hl:levelOk l=true) {n:Nat} (hn:n≤4) {bs:List TBody} (h1:n≤bs.length∧bs.length≤24) (hb:bodiesOk l n bs) (h:TK n bs) (row:List Int):∀ k,k≤n→TK n (plM l row bs k)
 |0,_=>h
 | k+1,hk=>by
  have ih:=TK.pl hl hn h1 hb h row k Aqa 
  have hp:=P1.all hl hn h1 hb row k Aqa 
  rw[plM]
  split
  ·exact ih
  ·rename_i b hs
   exact ih.one hp.lm.len.1 hs ((hp.lm.at_ k b hs).2.2 Aqa) Aqa _
theorem move_tail {l:TLevel} {b c:TBody} (h:mvOne l b=some c) (ht:tailM b=true):tailM c=true∧c.Owner=b.Owner:=by
 unfold mvOne at h
 split at h
 ·rename_i hk
  cases h
  refine⟨?_,J⟩
  have:=(tail_pl hk.1).1 ht
  exact (tail_pl (b:=(moveM l b).1) hk.1).2 this
 ·split at h
  ·rename_i hk
   split at h
   ·cases h
   ·rename_i hm
    cases h
    have h2:=(tail_shot hk).1 ht
    refine⟨(tail_shot (b:=tick1 (moveM l b).1) hk).2 ⟨h2.1,?_⟩,J⟩
    have:¬b.Timer-1=0:=fun e=>hm (.inr e)
    simp only[tick1,moveM]
    omega
  ·cases h; exact⟨ht,rfl⟩
theorem fmap_at {α β:Type} {f:α→Option β}:∀ (xs:List α) (n:Nat),(∀ j x,j<n→xs[j]? = some x→∃ y,f x=some y)→∀ k y,k<n→(xs.filterMap f)[k]? = some y→k<xs.length→∃ x,xs[k]? = some x∧f x=some y
 | [],_,_,k,y,_,hy,hx=>by simp at hx
 |x::xs,0,h,k,y,hk,_,_=>by omega
 | x::xs,n+1,h,k,y,hk,hy,hx=>by
  obtain⟨z,hz⟩:=h 0 x Aqa rfl
  rw[List.filterMap_cons,hz] at hy
  cases k with
  |zero =>
   simp only[Gxc] at hy
   exact⟨x,J,by rw[hz]; exact hy⟩
  |succ k =>
   simp only[Gxl] at hy
   simp only[Gq3] at hx
   obtain⟨a,h1,h2⟩:=fmap_at xs n (fun j w hj hw=>h (j+1) w Aqa (by simpa using hw)) k y Aqa hy Aqa 
   exact⟨a,by simpa using h1,h2⟩
theorem TK.mv {l:TLevel} {n:Nat} {bs:List TBody} (hL:LM l n bs) (h:TK n bs):TK n (mvM l bs):=by
 have hlen:=hL.len
 refine⟨fun c hc => ?_,fun k hk c hc => ?_⟩
 ·obtain⟨a,ha,hac⟩:=List.mem_filterMap.1 hc
  exact (move_tail hac (h.tl a ha)).1
 ·obtain⟨a,ha,hac⟩:=fmap_at bs n (fun j x hj hx=>mvOne_pl ((hL.at_ j x hx).2.2 hj)) k c hk hc Aqa 
  rw[(move_tail hac (h.tl a (Gqm ha))).2]
  exact h.ow k hk a ha
theorem hit_tail {p:TBody} (hk:p.Kind=0) (hl:0<p.Life) (h:tailM p=true):tailM (hitB p)=true:=by
 obtain⟨ha,hf,h4,h5⟩:=(tail_pl hk).1 h
 have h6:=h5 Aqa 
 refine (tail_pl (b:=hitB p) hk).2 ⟨ha,by simp only[hitB]; omega,fun e => ?_,fun e => ?_⟩
 ·simp only[hitB] at e ⊢
  rw[if_pos e]; omega
 ·simp only[hitB] at e ⊢
  rw[if_neg e]; exact h6
theorem TK.sh1 {l:TLevel} {n:Nat} {bs0:List TBody} {s:List TBody×List Int} (hS:SI l n bs0 s) (h:TK n s.1) (b:TBody):TK n (shOne n s b).1:=by
 unfold shOne
 split
 ·split
  ·exact h
  ·rename_i k hk
   obtain⟨h1,h2⟩:=metF_lt hk
   obtain⟨p,hp,hlf,_,_⟩:=metC_life h2
   rw[hp]
   exact h.set hp (hit_tail ((hS.lm.at_ k p hp).2.2 h1) hlf (h.tl p (Gqm hp))) fun _=>h.ow k h1 p hp
 ·exact h
theorem TK.sh {l:TLevel} {n:Nat} {bs0:List TBody} {s:List TBody×List Int} (hS:SI l n bs0 s) (h:TK n s.1) (t:List TBody):∀ j,TK n (shS n t s j).1
 |0=>h
 |j+1=>by
  rw[shS]
  split
  ·exact TK.sh hS h t j
  ·exact TK.sh1 (hS.all t j) (TK.sh hS h t j) _
theorem TK.hits {l:TLevel} {n:Nat} {bs:List TBody} {ss:List Int} (hL:LM l n bs) (h1:ss.length=n) (h2:∀ x∈ss,0≤x∧x≤1000000) (h:TK n bs):TK n (hitsR n bs ss).1:=by
 have hS:=(SI.start hL h1 h2).all (bs.drop n) (bs.drop n).length
 have hT:TK n (shS n (bs.drop n) (bs,ss) (bs.drop n).length).1:=TK.sh (SI.start hL h1 h2) h _ _
 have hlen:=hS.lm.len
 refine⟨fun c hc => ?_,fun k hk c hc => ?_⟩
 ·rcases Gqs.1 hc with h3 | h3
  ·exact hT.tl c (List.mem_of_mem_take h3)
  ·exact h.tl c (List.mem_of_mem_drop (keepR_sub _ c h3))
 ·simp only[hitsR] at hc
  rw[Gqw (by rw[Gq4]; omega),List.getElem?_take_of_lt hk] at hc
  exact hT.ow k hk c hc
theorem spot_free {l:TLevel} {x y:Int} (h : [x,y]∈spotsM l):solidM l x y 8=false:=by
 obtain⟨r,c,row,h1,h2,h3,h4,h5⟩:=rowSp_at h
 simp only[List.cons.injEq,and_true] at h5
 obtain⟨rfl,rfl⟩:=h5
 obtain⟨h6,h7⟩:=Gqo.1 h2
 refine solidM_F fun ⟨r',c',e1,e2,e3,e4,hw⟩ => ?_
 have er:r'=r:=Aqa
 have ec:c'=c:=Aqa
 subst er; subst ec
 exact no_wall h6 (by rw[h7]; exact h3) (by rw[h7,h4]; decide) hw
theorem item_bm {l:TLevel} {n:Nat} (hn:1≤n) {x y:Int} (h : [x,y]∈spotsM l):BM l n (itemB x y) :=
 ⟨by simp[itemB],by simp only[itemB]; omega,spot_free h,by simp[itemB],by simp[itemB],by simp[itemB]⟩
theorem worldOk_mk {l:TLevel} {n:Nat} {bs:List TBody} {ss:List Int} {t s:Int} (hl:levelOk l=true) (ht:0≤t∧t≤100000) (hs:0≤s∧s≤65535) (hn:1≤n∧n≤4) (h1:ss.length=n) (h2:∀ x∈ss,0≤x∧x≤1000000) (hL:LM l n bs) (hT:TK n bs):worldOk ⟨l,t,s,ss,bs⟩=true:=by
 subst h1
 refine worldOk_T ⟨hl,Yx.2 ht,Yx.2 hs,hn,Gqn.2 fun x hx=>Yx.2 (h2 x hx),hL.len,fun k hk => ?_⟩
 have hb:bs[k]? = some bs[k]:=Gqf hk
 have h3:=hL.at_ k _ hb
 unfold bodyAt
 rw[Gqi]
 refine⟨tail_bodyM h3.1 (hT.tl _ (Gqe hk)),?_⟩
 simp only
 split
 ·rename_i hkn
  exact Gqb ⟨h3.2.2 hkn,hT.ow k hkn _ hb⟩
 ·rename_i hkn
  exact Gqb fun e=>hkn (h3.2.1 e)
theorem TK.start {l:TLevel} {n:Nat} {bs:List TBody} (h:bodiesOk l n bs):TK n bs:=by
 refine⟨fun b hb => ?_,fun k hk b hb => ?_⟩
 ·obtain⟨j,hj,rfl⟩:=List.mem_iff_getElem.1 hb
  have:=h j hj
  unfold bodyAt at this
  rw[Gqi] at this
  exact tail_of this.1
 ·exact (old_at h hb hk).ow
theorem tick_ok {w:TWorld} {row:List Int} (hg:Enc.gd w) (ho:worldOk w=true) (ht:w.Tick≠100000) (hr:rowOk row w.Scores.length=true):worldOk (tickM w row)=true:=by
 have hP:=PH.of hg ho hr
 obtain⟨hl,htk,hs,hn,hsc,hlen,hbo⟩:=Kv ho
 have htk:=Yx.1 htk
 have hM:=hits_lm hP.mv rfl (scores_rng ho)
 have hT:TK w.Scores.length (hitsR w.Scores.length (movedM w row) w.Scores).1:=TK.hits hP.mv rfl (scores_rng ho) (TK.mv hP.pl.lm (TK.pl hl hn.2 hlen hbo (TK.start hbo) row _ (Gqk _)))
 have hnx:=Y9 w.Seed
 have hn2:=Y9 (nextR w.Seed)
 unfold tickM lastM
 split
 ·exact worldOk_mk hl ⟨Aqa,Aqa⟩ hnx hn hM.2.1 hM.2.2 hM.1 hT
 ·rename_i hc
  split
  ·exact worldOk_mk hl ⟨Aqa,Aqa⟩ hn2 hn hM.2.1 hM.2.2 hM.1 hT
  ·obtain⟨i,_,_,hi⟩:=spotOf_mem (l:=w.Level) (seed:=nextR w.Seed) (fun e=>hc (.inr (.inl e)))
   have hmem:=Gqm hi
   obtain⟨x,y,he,_,_⟩:=spot_rng hl hmem
   have hb:(hitsR w.Scores.length (movedM w row) w.Scores).1.length<24:=by
    rcases Gqq (hitsR w.Scores.length (movedM w row) w.Scores).1.length 24 with h | h
    ·exact h
    ·exact absurd (.inr (.inr h)) hc
   rw[he] at hmem ⊢
   exact worldOk_mk hl ⟨Aqa,Aqa⟩ hn2 hn hM.2.1 hM.2.2 (hM.1.app hb (item_bm hn.1 hmem) (by simp[itemB])) (hT.app hM.1.len.1 J)
theorem stepW_ok {w:TWorld} {row:List Int} (hg:Enc.gd w) (ho:worldOk w=true):worldOk (stepW w row)=true:=by
 unfold stepW
 split
 ·rename_i h
  exact tick_ok hg h.1 h.2.1 h.2.2
 ·exact ho
end
section
open Go.RowKit
end
section
open Go.RowKit

section
variable {P:Program} {ops:Array Oper} {o:Oper} {st:St} {t:TypeId} {y z u:Operand} {rs qs:List Nat} {i j:Int} {m n:Nat} {k:IntKind}
end
end
section
open Go.RowKit

theorem els_pl9 (bs:List TBody):plainT (els bs):=fun e he t ht=>by
 obtain⟨x,_,rfl⟩:=Gqv.1 he
 simp only[Enc.e] at ht
 revert ht
 simp only[List.mem_cons,Gxs,or_false]
 rintro (rfl | rfl | rfl | rfl | rfl | rfl | rfl | rfl | rfl) <;> exact⟨_,rfl⟩
end
section
open Go.RowKit

section
variable {P:Program} {w:World}
theorem run_copy_src (t tx ty e:TypeId) (i:TypeInfo) (ht:P.underlying t=some (.slice e)) (hi:P.info? e=some i) (b o c n:Nat) (x:Value) (news:List Value) (hs:Src P i.size tx x n news w) (hc:∀ j,j<news.length→(w.cell? ⟨b,o+j,none⟩).isSome=true) (hf:∀ j,j<news.length→w.frozen? ⟨b,o+j,none⟩=false) :
  (Builtin.copy_ #[t,tx] ty #[.slice (some ⟨b,o,none⟩) n c,x]).run P w = .ok (.int .i64 n) (w.setCells b o news):=by
 have hst:=run_storeCells_cells (P:=P) b o news 0 w (by simpa using hc) (by simpa using hf) hs.one
 simp only[Nat.add_zero] at hst
 simp[Builtin.copy_,run_underlying ht,Go.sizeOf,typeInfo,hi,hs.len,hs.cells,hst,goInt]
theorem OW.fill {k:Nat} {es es':List (List T)} {v:Value} {fp:List Nat} {t tx ty e:TypeId} {zs:List Value} {by_:Nat} [hm:TyMake P t e zs by_] (h:OW w (.sl k es) v fp) (hnd:fp.Nodup) (hkz:k=zs.length) {x:Value} (hl:es'.length=es.length) (h0:0<es.length) (hpl:plainT es') (hkk:∀ e∈es',e.length=k)
  (hsrc:Src P k tx x es'.length (flatV (plainV' es') es'.length k) w) :
  ∃ w' fp',(Builtin.copy_ #[t,tx] ty #[v,x]).run P w = .ok (.int .i64 es.length) w'∧OW w' (.sl k es') v fp'∧fp'.Nodup∧(∀ b∈fp',b∈fp)∧Keeps w w' fp:=by
 obtain⟨i,hi,hzz⟩:=Option.map_eq_some_iff.1 hm.info
 simp only[Prod.mk.injEq] at hzz
 obtain⟨hz1,hs,hb1⟩:=hzz
 have hsk:i.size=k:=by rw[hs,hkz]
 have hsrc2:Src P i.size tx x es.length (flatV (plainV' es') es'.length k) w:=by rw[hsk,←hl]; exact hsrc
 rcases h.open_ with ⟨rfl,rfl,rfl⟩ | ⟨b,o,c,tid,cur,fz,val,fps,rfl,rfl,hg,hzf,hc,hcm,hcs,hp,hk,hf,hfk,hv,ht⟩
 ·simp at h0
 ·have hmul:es'.length*k≤c*k:=Gxo _ Aqa 
  have hr:=run_copy_src (P:=P) (w:=w) t tx ty e i hm.slice hi b o c es.length x _ hsrc2 (fun j hj=>by
   rw[cell_of_row w b _ cur tid fz hg]
   rw[Ys] at hj
   simp
   omega) (fun j hj=>by
   rw[Ys] at hj
   exact frozen_fz hg hzf Aqa)
  obtain⟨cur',k1,k2,k3,k4⟩:=Yw b tid fz (flatV (plainV' es') es'.length k) o w cur hg (by rw[Ys]; omega)
  obtain⟨s1,s2,s3,s4,s5⟩:=Kn w b (flatV (plainV' es') es'.length k) o
  have hnil:(es'.map fun e=>e.map fun _=>([]:List Nat)).flatten.flatten = []:=by
   rw[List.flatten_eq_nil_iff]
   intro l hl
   rw[Gxe] at hl
   obtain⟨f,hf,hl⟩:=hl
   obtain⟨e,_,rfl⟩:=Gqv.1 hf
   obtain⟨_,_,rfl⟩:=Gqv.1 hl
   rfl
  refine⟨_,b::(es'.map fun e=>e.map fun _=>([]:List Nat)).flatten.flatten,hr,?_,by rw[hnil]; simp,fun x hx => ?_,s1,s2,s3,Aqa,fun b'' _ hb''=>s5 b'' fun e=>hb'' (by simp[e])⟩
  ·rw[←hl]
   refine .sl es' b o k c tid cur' fz (plainV' es') (es'.map fun e=>e.map fun _ => []) k1 (by rw[k2]; exact hzf) Aqa hcm (by rw[k2]; exact hcs) hp hkk Aqd (fun f hf => ?_) (fun i j hi hj => ?_) fun i j e t fs f h6 h7 h8 h9 => ?_
   ·obtain⟨e,h6,rfl⟩:=Gqv.1 hf
    simpa using hkk e h6
   ·have h1:=ij_lt hi hj
    rw[Nat.add_assoc,k3 _ (by rw[Ys]; exact h1)]
    exact flatV_at hi hj
   ·rw[Gqj,h6] at h8
    simp only[Gq2,Option.some.injEq] at h8
    subst h8
    rw[Gqj,h7] at h9
    simp only[Gq2,Option.some.injEq] at h9
    subst h9
    obtain⟨u,rfl⟩:=hpl e (Yv h6) t (Yv h7)
    rw[plainV'_at h6 h7]
    refine .v u ?_
    have hi:=Yu h6
    have hj:j<k:=by rw[←hkk e (Yv h6)]; exact Yu h7
    have:=hsrc.one _ (Yv (flatV_at (val:=plainV' es') hi hj))
    rwa[plainV'_at h6 h7] at this
  ·rw[hnil] at hx
   rcases List.mem_cons.1 hx with rfl | hx
   ·simp
   ·cases hx
end
section
variable {P:Program} {E:Env} {ops:Array Oper} {o:Oper} {st:St} {n:Nat} {rest:List Oper} {QQ:Exit→St→Prop} {t:TypeId} {y z:Operand}
end
end
section
open Go.RowKit
end
section
open Go.RowKit

instance:PlainE TBody:=⟨fun x t h=>els_pl9 [x] (Enc.e x) (by simp[els]) t h⟩
theorem I_copyWorld (w:TWorld) (hg:Enc.gd w) (h1:w.Level.Rows.length≤1048576) (h2:w.Scores.length≤1048576) (h3:w.Bodies.length≤1048576):Con Tryz.prog 104 [] [ag w] [.row 1 (els w.Level.Rows),.row 1 (els w.Scores),.row 9 (els w.Bodies)] (.o (.ag [.ref 0,jn w.Tick,jn w.Seed,.ref 1,.ref 2])):=by
 have hls:=Yi w.Scores
 have hlb:=Yi w.Bodies
 refine Con.of Tryz.func104 J Tryz.ntmps104 J (fun E => ?_)
 refine Wz [76,52,152] ?_;refine M1 (Zs J J (I_copyLevel w.Level hg.1 h1) J J J) J J ?_;refine Wz [55,48,23] ?_;refine M_appnil J J J J J J J J (Yj _) (Yh _) Aqa Aqa  ?_;refine Wz [45] ?_;refine M_appnil J J J J J J J J (Yj _) (Yh _) Aqa Aqa  ?_;refine Wz [30,100,49] ?_
 exact Xk J J J J (X1 [2,3,4] Aqc J J J)
theorem S_copyWorld (w:TWorld) (hg:Enc.gd w) (h1:w.Level.Rows.length≤1048576) (h2:w.Scores.length≤1048576) (h3:w.Bodies.length≤1048576):Con Tryz.prog 120 [] [ag w] [.row 1 (els w.Level.Rows),.row 1 (els w.Scores),.row 9 (els w.Bodies)] (.o (.ag [.ref 0,jn w.Tick,jn w.Seed,.ref 1,.ref 2])):=by
 have hls:=Yi w.Scores
 have hlb:=Yi w.Bodies
 have h00:([]:List (List T)).length=0:=rfl
 refine Con.of Tryz.func120 J Tryz.ntmps120 J (fun E => ?_)
 refine Wz [76,52,152] ?_;refine M1 (Zs J J (S_copyLevel w.Level hg.1 h1) J J J) J J ?_;refine Wz [55,48,3,161,19] ?_;refine M_app J J J J J J J J J J (Yj _) (Yh _) Aqa Aqa  ?_;refine Wz [30,3,161,19] ?_;refine M_app J J J J J J J J J J (Yj _) (Yh _) Aqa Aqa  ?_;refine Wz [30,100,49] ?_
 exact Xk J J J J (X1 [2,3,4] Aqc J J J)
end
section
open Go.RowKit
end
section
open Go.RowKit
end
section
open Go.RowKit
end
section
open Go.RowKit

structure RepIn (y:TReplay):Prop where
 gd:Enc.gd y
 h1:y.Level.Rows.length≤1048576
 h2:y.Keys.length≤1048576
 h3:y.Rows.length≤1048576
 h4:tot y.Rows≤1048576
structure WorIn (w:TWorld):Prop where
 gd:Enc.gd w
 h1:w.Level.Rows.length≤1048576
 h2:w.Scores.length≤1048576
 h3:w.Bodies.length≤1048576
end
section
open Go.RowKit

theorem step_in {w:TWorld} {row:List Int} (h:WorIn w):WorIn (stepW w row):=by
 have h1:=stepW_fits (row:=row) h.gd
 exact⟨h1.1,by rw[stepW_level]; exact h.h1,by rw[h1.2.1]; exact h.h2,by have:=h.h3; omega⟩
end
section
open Go.RowKit

/-! ### Worlds -/
/-! ### Runs -/
/-! ### The lockstep worlds -/
section
variable {l:TLevel} {n:Nat} {seed:Int} {e:Nat} {rows:List (List Int)}
structure RD (l:TLevel) (n:Nat) (seed:Int) (e:Nat) (rows:List (List Int)):Prop where
 hl:levelOk l=true
 gl:Enc.gd l
 ll:l.Rows.length≤1048576
 hn:1≤n∧n≤4
 hs:inR seed 0 65535=true
 he:1≤e∧e≤100
 hL:rows.length≤400
 hr:∀ r∈rows,rowOk r (n:Int)=true
end
end
section
open Go.RowKit

section
variable {n k j:Nat} {t bs:List TBody} {ss:List Int} {s:List TBody×List Int} {b:TBody} {c:Int}
end
end
section
open Go.RowKit

section
variable {n k j P:Nat} {t bs:List TBody} {ss:List Int} {s:List TBody×List Int} {b:TBody} {c a:Int}
end
end
section
open Go.RowKit

noncomputable def wsum (w:TWorld):Int:=checksum (worldBytes w)
end
section
open Go.RowKit

theorem part40 (xs:List Int) (a:Nat) (h:a≤xs.length):List.drop ((a:Int)).toNat (List.take (min ((els xs).length:Int) ((a:Int)+40)).toNat (els xs))=els ((xs.drop a).take 40):=by
 have e:(min ((els xs).length:Int) ((a:Int)+40)).toNat=min xs.length (a+40):=by rw[Yi]; omega
 rw[e,Int.toNat_natCast,els,←List.map_take,←List.map_drop,←els]
 congr 1
 rw[List.drop_take]
 apply List.ext_getElem?
 intro i
 simp only[Gxf,Gxh]
 split <;> split
 ·rfl
 ·omega
 ·rw[List.getElem?_eq_none Aqa]
 ·rfl
def ins40 (l:List TTrack) (me a:Nat):List Int:=(((l.getD me ⟨[]⟩).Inputs).drop a).take 40
def lens (l:List TTrack):List Int:=l.map fun y=>(y.Inputs.length:Int)
theorem lens_next {l:List TTrack} {k:Nat} (h:k<l.length):els ((lens l).take (k+1))=els ((lens l).take k) ++ [[.v (.int .i64 (l[k].Inputs.length:Int))]]:=by
 rw[lens,←List.map_take,←List.map_take,Gxk h,List.map_append,els,List.map_append]
 rfl
theorem lens_len (l:List TTrack):(lens l).length=l.length:=by simp[lens]
def mkP (l:List TTrack) (me a:Nat):TPacket:=⟨me,0,a,ins40 l me a,lens l,0,0,0,0⟩
noncomputable def pkOf (x:TPeer) (a:Nat):TPacket:=⟨x.Me,x.Now.Tick,a,ins40 x.Tracks x.Me.toNat a,lens x.Tracks,x.Base.Tick,wsum x.Base,0,0⟩
def stampB (q:TPace) (n:Int):Bool:=paceOk q&&(decide (q.Newest≤1000000)&&inR n 0 1000000)
def stampP (x:TPacket) (q:TPace) (n:Int):TPacket:=if stampB q n=true then { x with Time:=n,Echo:=q.Newest } else x
noncomputable def encP (p:TPacket):ByteArray:=if packetOk p=true then sealText ((packInts [p.From,p.Tick,p.First,p.SumTick,p.Sum,p.Time,p.Echo]++packInts p.Acks)++packText (packTrack p.Inputs)) else bs []
end
section
open Go.RowKit

def xorB (a:ByteArray) (i:Nat) (x:UInt8):UInt8:=if i<a.size then UInt8.ofNat (x.toNat^^^(byteAt a i).toNat) else x
def xorL (a b:ByteArray):List UInt8:=(List.range b.size).map fun i=>xorB a i (b.data.toList.getD i 0)
def xorText (a b:ByteArray):ByteArray:=bs (xorL a b)
theorem bE_set (l:List UInt8) (i:Nat) (x:UInt8):bE (l.set i x)=(bE l).set i [.v (.int .u8 (x.toNat:Int))]:=by simp[bE,List.map_set]
theorem bE_at {l:List UInt8} {i:Nat} (h:i<l.length):(bE l)[(i:Int).toNat]? = some [.v (.int .u8 ((l[i]).toNat:Int))]:=by
 rw[Int.toNat_natCast,bE,Gqj,Gqf h]
 rfl
end
section
open Go.RowKit

def spoilL (s:Int) (d:ByteArray):List UInt8:=d.data.toList.set (belowR s d.size).toNat (UInt8.ofNat ((byteAt d (belowR s d.size).toNat).toNat^^^((belowR (nextR s) 255).toNat+1)))
noncomputable def spoilB (s:Int) (d:ByteArray):Int×ByteArray:=if (0≤s∧s≤65535)∧1≤d.size∧d.size≤4096 then (nextR (nextR s),bs (spoilL s d)) else (s,d)
def inc6 (n:Int):Int:=min (n+1) 1000000
noncomputable def fly1 (w:TWire) (d:ByteArray) (s:Int):Int×ByteArray:=if belowR (nextR s) 100<w.Damage then spoilB (nextR (nextR s)) d else (nextR (nextR s),d)
noncomputable def flyW (w:TWire) (d:ByteArray):TWire :=
 if w.Flights.length=200 then { w with Seed:=(fly1 w d w.Seed).1,Lost:=inc6 w.Lost }
 else { w with Seed:=(fly1 w d w.Seed).1,Flights:=w.Flights ++ [⟨w.Now+w.Delay+belowR w.Seed (w.Jitter+1),(fly1 w d w.Seed).2⟩] }
noncomputable def flyN (w:TWire) (d:ByteArray):Nat→TWire
 |0=>w
 |n+1=>flyW (flyN w d n) d
def sent1 (w:TWire):TWire:={ w with Sent:=inc6 w.Sent,Seed:=nextR w.Seed }
noncomputable def sendV (w:TWire) (d:ByteArray):TWire :=
 if belowR w.Seed 100<w.Loss then { sent1 w with Lost:=inc6 w.Lost }
 else flyN { sent1 w with Seed:=nextR (nextR w.Seed) } d (if belowR (nextR w.Seed) 100<w.Copies then 2 else 1)
noncomputable def sendW (w:TWire) (d:ByteArray):TWire:=if wireOk w=true∧1≤d.size∧d.size≤4096 then sendV w d else w
theorem Yd {s n:Int} (h:1≤n):0≤belowR s n∧belowR s n<n:=by
 unfold belowR
 exact⟨Int.emod_nonneg _ Aqa,Int.emod_lt_of_pos _ Aqa⟩
theorem spoilL_len (s:Int) (d:ByteArray):(spoilL s d).length=d.size:=by simp[spoilL]
theorem spoilB_size (s:Int) (d:ByteArray):(spoilB s d).2.size=d.size:=by
 rw[spoilB]
 split
 ·rw[Ye]; exact spoilL_len s d
 ·rfl
theorem fly1_size (w:TWire) (s:Int) (d:ByteArray):(fly1 w d s).2.size=d.size:=by
 rw[fly1]
 split
 ·exact spoilB_size _ _
 ·rfl
theorem fly1_seed {w:TWire} {s:Int} {d:ByteArray}:0≤(fly1 w d s).1∧(fly1 w d s).1≤65535:=by
 rw[fly1]
 split
 ·rw[spoilB]
  split
  ·exact Y9 _
  ·exact Y9 _
 ·exact Y9 _
structure FlyS (w v:TWire):Prop where
 de:v.Delay=w.Delay
 ji:v.Jitter=w.Jitter
 lo:v.Loss=w.Loss
 co:v.Copies=w.Copies
 da:v.Damage=w.Damage
 no:v.Now=w.Now
 se:v.Sent=w.Sent
theorem flyN_same (w:TWire) (d:ByteArray):∀ k,FlyS w (flyN w d k)
 |0=>⟨rfl,rfl,rfl,rfl,rfl,rfl,rfl⟩
 |k+1=>by
  obtain⟨a,b,c,e,f,g,h⟩:=flyN_same w d k
  rw[flyN,flyW]
  split
  ·exact⟨a,b,c,e,f,g,h⟩
  ·exact⟨a,b,c,e,f,g,h⟩
end
section
open Go.RowKit

def V1.tolel (p m:Nat):V1→V1
 | .le q k a b=>match Nat.beq q p with
  |true => .ref m
  |false=>(V1.le q k a b).killw [p,m,m+1] [p]
 |x=>x.killw [p,m,m+1] [p]
def V1.tole1 (p m kk i j:Nat):V1→V1
 | .le q k a b=>match Nat.beq q p with
  |true=>if k=kk∧a=i∧b=j then .ref m else .un
  |false=>(V1.le q k a b).killw [p,m,m+1] [p]
 |x=>x.killw [p,m,m+1] [p]
theorem V1.tolel_eq {p m kk i j:Nat} (x:V1) (hx:x.leok p kk i j):x.tole1 p m kk i j=x.tolel p m:=by
 cases x with
 | le q k a b =>
  simp only[V1.tole1,V1.tolel]
  simp only[V1.leok] at hx
  split
  ·rename_i hq
   rw[hq] at hx
   exact if_pos hx
  ·rfl
 |_=>rfl
theorem Wk.splitl0 {st:St} {p kk i j k':Nat} {es es0:List (List T)} {e:List T} (hp:st.objs[p]? = some (.row kk es)) (he:es[i]? = some e) (hx:e[j]? = some (.sl k' es0)) :
  Wk st ⟨st.n,st.tmps.map fun t=>(t.1,t.2.mapk (V1.tole1 p st.objs.length kk i j)),((st.objs.map (Ob.mapk (V1.tole1 p st.objs.length kk i j))).set p (.row kk (es.set i (splice e j [.un])))) ++ [.row k' es0,.lk (.le p kk i j) (.ref st.objs.length)]⟩:=by
 intro w H F a h1
 obtain⟨v,fp,e1,e2⟩:=h1.ow hp
 have hnd:=h1.ok.nodup p
 rw[e1] at hnd
 have hnil:H st.objs.length = .nil:=by
  have:=h1.obs st.objs.length
  simpa[Gqg,RB] using this
 have hnil2:H (st.objs.length+1) = .nil:=by
  have:=h1.obs (st.objs.length+1)
  simpa[Gqg,RB] using this
 have hplt:=Yu hp
 obtain⟨b,o,c,u,f,rfl,hbf,hcell,hO,hfn,hsub,hback⟩:=e2.inner hnd he hx
 have hlt:∀ x∈fp,x<w.heap.size:=fun x hx=>h1.ok.lt (p:=p) (by rw[e1]; exact hx)
 have hu1:u.oneCell'=true:=OW.one hO
 obtain⟨fp',g1,g2,g3⟩:=hback w .un [] (fun _ _ _=>rfl) (.un u hu1) List.nodup_nil (fun x hx=>by simp at hx)
 have g4:∀ x∈fp',x∈fp∧x∉f:=fun x hx=>(g3 x hx).resolve_right Aqd 
 obtain⟨N,hN⟩:∃ N,N=st.objs.length:=⟨_,rfl⟩
 rw[←hN] at hnil hnil2 ⊢
 have hNp:N≠p:=Aqa
 obtain⟨H',hH'⟩:∃ H':Hs,H'=fun q=>if q=N then .ow (.sl k' es0) u f else if q=N+1 then .lk u else if q=p then .ow (.sl kk (es.set i (splice e j [.un]))) (.slice (some ⟨b,o,none⟩) es.length c) fp' else H q:=⟨_,rfl⟩
 have hHN:H' N = .ow (.sl k' es0) u f:=by rw[hH']; exact if_pos rfl
 have hHL:H' (N+1) = .lk u:=by rw[hH']; simp
 have hNp1:N+1≠p:=Aqa
 have hHp:H' p = .ow (.sl kk (es.set i (splice e j [.un]))) (.slice (some ⟨b,o,none⟩) es.length c) fp':=by rw[hH']; simp[Ne.symm hNp,Ne.symm hNp1]
 have hHo:∀ q,q≠N→q≠N+1→q≠p→H' q=H q:=fun q h1 h3 h2=>by rw[hH']; simp only; rw[if_neg h1,if_neg h3,if_neg h2]
 have hin:∀ q x,x∈(H' q).fp→(q=N∧x∈f)∨(q=p∧x∈fp∧x∉f)∨(q≠N∧q≠p∧x∈(H q).fp):=fun q x hx=>by
  by_cases hq:q=N
  ·subst hq; rw[hHN] at hx; exact .inl ⟨rfl,hx⟩
  ·by_cases hqp:q=p
   ·subst hqp; rw[hHp] at hx; exact .inr (.inl ⟨rfl,g4 x hx⟩)
   ·by_cases hqL:q=N+1
    ·subst hqL; rw[hHL] at hx; simp[Pc.fp] at hx
    ·rw[hHo q hq hqL hqp] at hx; exact .inr (.inr ⟨hq,hqp,hx⟩)
 have hpf:∀ x,x∈fp→x∈(H p).fp:=fun x hx=>by rw[e1]; exact hx
 have hok:Ok w H' F:=by
  refine⟨fun q => ?_,fun q => ?_,fun q r x h2 h3 => ?_,fun q x h2 => ?_,h1.ok.flt⟩
  ·by_cases hq:q=N
   ·subst hq; rw[hHN]; exact hO
   ·by_cases hqp:q=p
    ·subst hqp; rw[hHp]; exact g1
    ·by_cases hqL:q=N+1
     ·subst hqL; rw[hHL]; trivial
     ·rw[hHo q hq hqL hqp]; exact h1.ok.says q
  ·by_cases hq:q=N
   ·subst hq; rw[hHN]; exact hfn
   ·by_cases hqp:q=p
    ·subst hqp; rw[hHp]; exact g2
    ·by_cases hqL:q=N+1
     ·subst hqL; rw[hHL]; simp[Pc.fp]
     ·rw[hHo q hq hqL hqp]; exact h1.ok.nodup q
  ·rcases hin q x h2 with ⟨rfl,k1⟩ | ⟨rfl,k1,k2⟩ | ⟨k1,k2,k3⟩ <;> rcases hin r x h3 with ⟨e5,m1⟩ | ⟨e5,m1,m2⟩ | ⟨m1,m2,m3⟩
   ·exact e5.symm
   ·exact absurd k1 m2
   ·exact absurd (h1.ok.disj r p x m3 (hpf x (hsub x k1))) m2
   ·exact absurd m1 k2
   ·exact e5.symm
   ·exact absurd (h1.ok.disj r q x m3 (hpf x k1)) m2
   ·exact absurd (h1.ok.disj q p x k3 (hpf x (hsub x m1))) k2
   ·exact absurd (h1.ok.disj q p x k3 (hpf x m1)) k2
   ·exact h1.ok.disj q r x k3 m3
  ·rcases hin q x h2 with ⟨rfl,k1⟩ | ⟨rfl,k1,k2⟩ | ⟨k1,k2,k3⟩
   ·exact h1.ok.free p x (hpf x (hsub x k1))
   ·exact h1.ok.free q x (hpf x k1)
   ·exact h1.ok.free q x k3
 have hfpo:∀ q x,x∈(H' q).fp→∃ r,x∈(H r).fp:=fun q x hx=>by
  rcases hin q x hx with ⟨rfl,k1⟩ | ⟨rfl,k1,k2⟩ | ⟨k1,k2,k3⟩
  ·exact⟨p,hpf x (hsub x k1)⟩
  ·exact⟨q,hpf x k1⟩
  ·exact⟨q,k3⟩
 have hghs:∀ q i v,H' q = .gh i v→∃ r,H r = .gh i v:=fun q i v hq=>by
  by_cases hqN:q=N
  ·subst hqN; rw[hHN] at hq; cases hq
  ·by_cases hqp:q=p
   ·subst hqp; rw[hHp] at hq; cases hq
   ·by_cases hqL:q=N+1
    ·subst hqL; rw[hHL] at hq; cases hq
    ·exact⟨q,by rw[←hHo q hqN hqL hqp]; exact hq⟩
 have htn:Turn w H w H' [p,N,N+1]:=⟨rfl,rfl,rfl,Gqk _,fun _ _ _=>rfl,fun q hq=>hHo q (fun e=>hq (by simp[e])) (fun e=>hq (by simp[e])) (fun e=>hq (by simp[e])),fun q x hx => .inl (hfpo q x hx),hghs⟩
 have hplace:∀ q ∈ [p],Place (H q) (H' q):=fun q hq=>by
  have:q=p:=by simpa using hq
  subst this
  exact .inl ⟨_,_,_,_,_,e1,hHp⟩
 have hone:∀ x v,R1 w H F x v→R1 w H' F (V1.tole1 p N kk i j x) v:=fun x v hx=>by
  cases x with
  | le q k a b' =>
   simp only[V1.tole1]
   split
   ·rename_i hq
    have hqp:=Gxa hq
    subst hqp
    split
    ·rename_i hc
     rw[hc.1,hc.2.1,hc.2.2] at hx
     obtain⟨b2,o2,n2,c2,x2,fp2,k1,k2,k3,k4⟩:=hx
     rw[e1] at k1
     simp only[Pc.ow.injEq,Value.slice.injEq,Option.some.injEq,Addr.mk.injEq] at k1
     obtain⟨_,⟨⟨rfl,rfl,_⟩,_,_⟩,_⟩:=k1
     rw[hcell] at k4
     simp only[Option.some.injEq] at k4
     subst k4
     exact⟨_,_,hHN⟩
    ·trivial
   ·exact R1.killw h1.ok htn hplace hx
  |_=>exact R1.killw h1.ok htn hplace hx
 refine⟨H',h1.mapk (V1.tole1 p N kk i j) hone hok _ (fun q => ?_),hfpo,hghs⟩
 by_cases hqN:q=N
 ·subst hqN
  rw[Yt (x := .row k' es0) (by rw[Gqy (by simp; omega)]; simp[hN])]
  exact⟨_,_,hHN⟩
 by_cases hqL:q=N+1
 ·subst hqL
  rw[Yt (x := .lk (.le p kk i j) (.ref N)) (by rw[Gqy (by simp; omega)]; simp[hN])]
  refine⟨u,hHL,⟨b,o,es.length,c,_,fp',hHp,?_,hu1,hcell⟩,⟨_,_,hHN⟩⟩
  rcases g1.open_ with ⟨k5,_⟩ | ⟨b',o',c',tid,cur,fz,val,fps,k5,k6,_⟩
  ·cases k5
  ·simp only[Value.slice.injEq,Option.some.injEq,Addr.mk.injEq] at k5
   rw[k6,k5.1.1]; simp
 by_cases hqp:q=p
 ·subst hqp
  rw[Yt (x := .row kk (es.set i (splice e j [.un]))) (by rw[Gqw (by simpa using hplt)]; simp[hplt])]
  exact⟨_,_,hHp⟩
 ·rcases Gqq q st.objs.length with hlt2 | hge
  ·rw[Gqg,Gqw (by simpa using hlt2),Gq9 (Ne.symm hqp),Gqj]
   have h2:=h1.obs q
   rw[Gqg] at h2
   have h3:H' q=H q:=hHo q hqN hqL hqp
   cases ho:st.objs[q]? with
   |none=>rw[ho] at h2; exact h3.trans h2
   |some ob=>rw[ho] at h2; exact RB.mapk hone h3 h2
  ·rw[Gqg,List.getElem?_eq_none (by simp; omega)]
   have h2:=h1.obs q
   rw[Gqg,List.getElem?_eq_none hge] at h2
   exact (hHo q hqN hqL hqp).trans h2
theorem Wk.splitl {st:St} {p kk i j k':Nat} {es es0:List (List T)} {e:List T} (hp:st.objs[p]? = some (.row kk es)) (he:es[i]? = some e) (hx:e[j]? = some (.sl k' es0)) (ht:allP (fun t:Nat×V=>t.2.allk (V1.leok p kk i j)) st.tmps) (ho:allP (Ob.allk (V1.leok p kk i j)) st.objs) :
  Wk st ⟨st.n,st.tmps.map fun t=>(t.1,t.2.mapk (V1.tolel p st.objs.length)),((st.objs.map (Ob.mapk (V1.tolel p st.objs.length))).set p (.row kk (es.set i (splice e j [.un])))) ++ [.row k' es0,.lk (.le p kk i j) (.ref st.objs.length)]⟩:=by
 have h:=Wk.splitl0 hp he hx
 rw[X6 (g:=fun e:Nat×V=>(e.1,e.2.mapk (V1.tole1 p st.objs.length kk i j))) (h:=fun e:Nat×V=>(e.1,e.2.mapk (V1.tolel p st.objs.length))) (fun e he=>by rw[V.allk_eq V1.tolel_eq e.2 he]) ht,X6 (fun x hx=>Ob.allk_eq V1.tolel_eq x hx) ho] at h
 exact h
theorem Wk.join {st:St} {p kk i j k' N L:Nat} {es es1:List (List T)} {e:List T} (hp:st.objs[p]? = some (.row kk es)) (he:es[i]? = some e) (hx:e[j]? = some .un) (hN:st.objs[N]? = some (.row k' es1)) (hL:st.objs[L]? = some (.lk (.le p kk i j) (.ref N))) (hpN:Nat.beq p N=false) :
  Wk st ⟨st.n,st.tmps.map fun t=>(t.1,t.2.mapk (V1.killw [p,N,L] [p])),(((st.objs.map (Ob.mapk (V1.killw [p,N,L] [p]))).set p (.row kk (es.set i (splice e j [.sl k' es1])))).set N .gone).set L .gone⟩:=by
 intro w H F a h1
 have hpN:p≠N:=fun e=>by rw[e,show Nat.beq N N=true from Nat.beq_refl N] at hpN; cases hpN
 obtain⟨v,fp,e1,e2⟩:=h1.ow hp
 obtain⟨vN,fN,e3,e4⟩:=h1.ow hN
 have hbL:=h1.obs L
 rw[Yt hL] at hbL
 obtain⟨u,e5,⟨b',o',n',c',x',fp',e6,e7,e8,e9⟩,⟨x2,f2,e10⟩⟩:=hbL
 rw[e3] at e10
 simp only[Pc.ow.injEq] at e10
 obtain⟨_,rfl,_⟩:=e10
 have hnd:=h1.ok.nodup p
 rw[e1] at hnd
 have hndN:=h1.ok.nodup N
 rw[e3] at hndN
 obtain⟨b,o,c,u2,f,rfl,hbf,hcell,hO,hfn,hsub,hback⟩:=e2.inner hnd he hx
 rw[e1] at e6
 simp only[Pc.ow.injEq,Value.slice.injEq,Option.some.injEq,Addr.mk.injEq] at e6
 obtain⟨_,⟨⟨rfl,rfl,_⟩,_,_⟩,_⟩:=e6
 rw[hcell] at e9
 simp only[Option.some.injEq] at e9
 subst e9
 have hf0:f = []:=by cases hO; rfl
 subst hf0
 have hdis:∀ x∈fN,x∉fp:=fun x h2 h3=>hpN (h1.ok.disj p N x (by rw[e1]; exact h3) (by rw[e3]; exact h2))
 obtain⟨fp2,g1,g2,g3⟩:=hback w (.sl k' es1) fN (fun _ _ _=>rfl) e4 hndN (fun x hx => .inr (hdis x hx))
 have hk:Keeps w w fp:=⟨rfl,rfl,rfl,Gqk _,fun _ _ _=>rfl⟩
 have hpL:p≠L:=fun e=>by rw[e,e5] at e1; cases e1
 have hNL:N≠L:=fun e=>by rw[e,e5] at e3; cases e3
 obtain⟨hok,htn⟩:=h1.ok.takein (p:=p) (rs := [N,L]) (by rw[e1]; rfl) (by simp[hpN,hpL]) hk (.ow (.sl kk (es.set i (splice e j [.sl k' es1]))) (.slice (some ⟨b,o,none⟩) es.length c) fp2) g1 g2 trivial (fun x hx=>by
  rcases g3 x hx with h | h
  ·exact .inl h.1
  ·exact .inr (.inl ⟨N,Aqd,by rw[e3]; exact h⟩))
 obtain⟨H',hH'⟩:∃ H':Hs,H'=fun r=>if r=p then .ow (.sl kk (es.set i (splice e j [.sl k' es1]))) (.slice (some ⟨b,o,none⟩) es.length c) fp2 else if r ∈ [N,L] then .nil else H r:=⟨_,rfl⟩
 rw[←hH'] at hok htn
 have hHp:H' p = .ow (.sl kk (es.set i (splice e j [.sl k' es1]))) (.slice (some ⟨b,o,none⟩) es.length c) fp2:=by rw[hH']; exact if_pos rfl
 have hHo:∀ q,q≠p→q≠N→q≠L→H' q=H q:=fun q h1 h2 h3=>by rw[hH']; simp[h1,h2,h3]
 have hHn:∀ q,q≠p→(q=N∨q=L)→H' q = .nil:=fun q h1 h2=>by rw[hH']; simp[h1,h2]
 have hplace:∀ q ∈ [p],Place (H q) (H' q):=fun q hq=>by
  have:q=p:=by simpa using hq
  subst this
  exact .inl ⟨_,_,_,_,_,e1,hHp⟩
 have hone:∀ x v,R1 w H F x v→R1 w H' F (x.killw [p,N,L] [p]) v:=fun x v hx=>R1.killw h1.ok htn hplace hx
 have hplt:=Yu hp
 have hNlt:=Yu hN
 have hLlt:=Yu hL
 refine⟨H',h1.mapk (V1.killw [p,N,L] [p]) hone hok _ (fun q => ?_),fun q x hq => ?_,fun q i v hq => ?_⟩
 ·rw[Gqg,List.getElem?_set]
  by_cases hqL:L=q
  ·subst hqL
   rw[if_pos rfl,if_pos (by simpa using hLlt)]
   exact hHn L (Ne.symm hpL) (.inr J)
  rw[if_neg hqL,List.getElem?_set]
  by_cases hqN:N=q
  ·subst hqN
   rw[if_pos rfl,if_pos (by simpa using hNlt)]
   exact hHn N (Ne.symm hpN) (.inl J)
  rw[if_neg hqN,List.getElem?_set]
  by_cases hqp:p=q
  ·subst hqp
   rw[if_pos rfl,if_pos (by simpa using hplt)]
   exact⟨_,_,hHp⟩
  rw[if_neg hqp,Gqj]
  have h2:=h1.obs q
  rw[Gqg] at h2
  have h3:H' q=H q:=hHo q (Ne.symm hqp) (Ne.symm hqN) (Ne.symm hqL)
  cases ho:st.objs[q]? with
  |none=>rw[ho] at h2; exact h3.trans h2
  |some ob=>rw[ho] at h2; exact RB.mapk hone h3 h2
 ·rcases htn.fp q x hq with ⟨r,hr⟩ | hr
  ·exact⟨r,hr⟩
  ·exact absurd (hok.lt hq) Aqa 
 ·exact htn.gh q i v hq
section
variable {P:Program} {ops:Array Oper} {o:Oper} {st:St} {t:TypeId} {y:Operand} {n:Nat}
theorem q_lel {p kk i j N:Nat} (L:Nat) [TyOne P t] (ho:o.op = .load t y) (hg:o.guard=none) (hy:st.ev y = .o (.c (.el p kk i j))) (hL:st.objs[L]? = some (.lk (.le p kk i j) (.ref N))):Qt P ops o st (.o (.c (.ref N))) [] n :=
 .pure hg fun a w H F hr=>by
  have hb:=hr.obs L
  rw[Yt hL] at hb
  obtain⟨u,e5,⟨b',o',n',c',x',fp',e6,e7,e8,e9⟩,h2⟩:=hb
  obtain⟨b2,o2,n2,c2,x2,fp2,k1,k2⟩:=hr.v1 hy
  rw[k1] at e6
  simp only[Pc.ow.injEq,Value.slice.injEq,Option.some.injEq,Addr.mk.injEq] at e6
  obtain⟨_,⟨⟨rfl,rfl,_⟩,_,_⟩,_⟩:=e6
  exact⟨u,Yr ho k2 (Kl t _ _ u e9),h2⟩
end
end
section
open Go.RowKit

section
variable {P:Program} {ops:Array Oper} {o:Oper} {st:St} {t:TypeId} {y:Operand} {n:Nat}
end
section
variable {P:Program} {ops:Array Oper} {o:Oper} {st:St} {n:Nat}
end
end
section
open Go.RowKit

@[reducible] def mX (x:TMatch) (a b c d e f g h i:V1):List V1 := [a,jn x.Seed,jn x.Delay,b,c,d,e,f,jn x.Clock,g,h,i,jn x.Bad]
@[reducible] def mC (x:TMatch) (n:Nat):List V1:=mX x (.ref n) (.ref (n+1)) (.ref (n+2)) (.ref (n+3)) (.ref (n+4)) (.ref (n+5)) (.ref (n+6)) (.ref (n+7)) (.ref (n+8))
@[reducible] def mR (x:TMatch) (l:List Ob):List Ob := .row 1 (els x.Level.Rows) :: .row 1 (els x.Scripts) :: .row 23 (els x.Peers) :: .row 1 (els x.Wires) :: .row 1 (els x.Paces) :: .row 1 (els x.Acks) :: .row 6 (els x.Watchers) :: .row 10 (els x.Lines) :: .row 2 (els x.Alarms)::l
end
end Go.Proofs.YtfklmiijhcajdaaGreat
