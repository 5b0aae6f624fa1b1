/-
  Rules, data and contracts of functions: part 33 of the proof.
  Conditions: those that each theorem names.
-/
import Derived.Test.YtoecjaohdnoenaaGreatDDRecRowk31
set_option linter.unusedSimpArgs false
set_option linter.unusedVariables false
set_option maxRecDepth 8000
set_option maxHeartbeats 8000000
namespace Go.Proofs.YtoecjaohdnoenaaGreat
section
open Go.RowKit

theorem tail_bodyM {l:TLevel} {n:Nat} {b:TBody} (h:BM l n b) (ht:tailM b=true):bodyM l n b=true:=by
 obtain⟨hk,ho,hp,hvx,hvy,hf⟩:=h
 simp only[bodyM,Gqi,Gq7,Za]
 exact⟨hk,⟨ho.1,by omega⟩,hp,hvx,hvy,ht⟩
theorem tail_of {l:TLevel} {n:Int} {b:TBody} (h:bodyM l n b=true):tailM b=true:=by
 simp only[bodyM,Gqi] at h
 exact h.2.2.2.2.2
theorem tail_pl {b:TBody} (h:b.Kind=0):tailM b=true↔(b.Aim=1∨b.Aim = -1)∧(0≤b.Life∧b.Life≤3)∧(b.Life=0→1≤b.Timer∧b.Timer≤20)∧(b.Life≠0→0≤b.Timer∧b.Timer≤12):=by
 unfold tailM
 rw[if_pos h,Gqi,Gqi,decide_eq_true_eq,Za]
 constructor
 ·rintro⟨⟨h1,h2⟩,h3⟩
  refine⟨h1,h2,fun e => ?_,fun e => ?_⟩
  ·rw[if_pos e] at h3; exact Za.1 h3
  ·rw[if_neg e] at h3; exact Za.1 h3
 ·rintro⟨h1,h2,h3,h4⟩
  refine⟨⟨h1,h2⟩,?_⟩
  split
  ·exact Za.2 (h3 (by assumption))
  ·exact Za.2 (h4 (by assumption))
theorem tail_shot {b:TBody} (h:b.Kind=1):tailM b=true↔(b.Aim=0∧b.Life=0)∧(1≤b.Timer∧b.Timer≤25):=by
 unfold tailM
 rw[if_neg (by omega),if_pos h,Gqi,decide_eq_true_eq,Za]
structure TK (n:Nat) (bs:List TBody):Prop where
 tl:∀ b∈bs,tailM b=true
 ow:∀ k,k<n→∀ b,bs[k]? = some b→b.Owner=k
theorem TK.set {n k:Nat} {bs:List TBody} {b c:TBody} (h:TK n bs) (hb:bs[k]? = some b) (h1:tailM c=true) (h2:k<n→c.Owner=k):TK n (bs.set k c):=by
 refine⟨fun d hd => ?_,fun j hj d hd => ?_⟩
 ·rcases Gxv hd with h3 | h3
  ·exact h.tl d h3
  ·subst h3; exact h1
 ·rw[List.getElem?_set] at hd
  split at hd
  ·rename_i e
   subst e
   split at hd
   ·cases hd; exact h2 hj
   ·cases hd
  ·exact h.ow j hj d hd
theorem TK.app {n:Nat} {bs:List TBody} {c:TBody} (h:TK n bs) (hl:n≤bs.length) (h1:tailM c=true):TK n (bs ++ [c]):=by
 refine⟨fun d hd => ?_,fun j hj d hd => ?_⟩
 ·rcases Gqp.1 hd with h3 | h3
  ·exact h.tl d h3
  ·rw[Gxf] at h3; subst h3; exact h1
 ·rw[Gqy (by omega)] at hd
  exact h.ow j hj d hd
theorem fresh_tail (l:TLevel) (k:Int):tailM (fresh l k)=true:=by
 rw[tail_pl (by rfl)]
 refine⟨.inl J,⟨by simp[fresh],by simp[fresh]⟩,fun h=>by simp[fresh] at h,fun _=>⟨by simp[fresh],by simp[fresh]⟩⟩
theorem tick1_tail {b:TBody} (h:b.Kind=0) (h2:b.Life=0) (h3:¬b.Timer-1=0) (ht:tailM b=true):tailM (tick1 b)=true:=by
 obtain⟨ha,hl,h4,h5⟩:=(tail_pl h).1 ht
 have:=h4 h2
 refine (tail_pl (b:=tick1 b) h).2 ⟨ha,hl,fun _ => ?_,fun e=>absurd h2 e⟩
 simp only[tick1]
 omega
theorem steer_tail {l:TLevel} {b:TBody} {i:Int} (h:b.Kind=0) (h2:¬b.Life=0) (ht:tailM b=true):tailM (steer l b i).1=true:=by
 obtain⟨ha,hl,h4,h5⟩:=(tail_pl h).1 ht
 have h6:=h5 h2
 refine (tail_pl (b:=(steer l b i).1) h).2 ⟨steer_aim ha,hl,fun e=>absurd e h2,fun _ => ?_⟩
 simp only[steer]
 split
 ·omega
 ·split <;> omega
theorem shotOf_tail (b:TBody):tailM (shotOf b)=true:=(tail_shot (b:=shotOf b) rfl).2 ⟨⟨rfl,rfl⟩,by simp[shotOf]⟩
theorem TK.one {l:TLevel} {n k:Nat} {bs:List TBody} {b:TBody} (h:TK n bs) (hn:n≤bs.length) (hb:bs[k]? = some b) (hk:b.Kind=0) (hkn:k<n) (i:Int):TK n (plOne l i k bs b):=by
 have ht:=h.tl b (Gqq hb)
 have ho:=h.ow k hkn b hb
 unfold plOne
 split
 ·split
  ·exact h.set hb (fresh_tail l k) fun _=>rfl
  ·exact h.set hb (tick1_tail hk (by assumption) (by assumption) ht) fun _=>ho
 ·have h1:TK n (bs.set k (steer l b i).1):=h.set hb (steer_tail hk (by assumption) ht) fun _=>ho
  split
  ·exact h1.app (by rw[Gxe]; exact hn) (shotOf_tail _)
  ·exact h1
theorem TK.pl {l:TLevel} (hl:levelOk l=true) {n:Nat} (hn:n≤4) {bs:List TBody} (h1:n≤bs.length∧bs.length≤24) (hb:bodiesOk l n bs) (h:TK n bs) (row:List Int):∀ k,k≤n→TK n (plM l row bs k)
 |0,_=>h
 | k+1,hk=>by
  have ih:=TK.pl hl hn h1 hb h row k (by omega)
  have hp:=P1.all hl hn h1 hb row k (by omega)
  rw[plM]
  split
  ·exact ih
  ·rename_i b hs
   exact ih.one hp.lm.len.1 hs ((hp.lm.at_ k b hs).2.2 (by omega)) (by omega) _
theorem move_tail {l:TLevel} {b c:TBody} (h:mvOne l b=some c) (ht:tailM b=true):tailM c=true∧c.Owner=b.Owner:=by
 unfold mvOne at h
 split at h
 ·rename_i hk
  cases h
  refine⟨?_,J⟩
  have:=(tail_pl hk.1).1 ht
  exact (tail_pl (b:=(moveM l b).1) hk.1).2 this
 ·split at h
  ·rename_i hk
   split at h
   ·cases h
   ·rename_i hm
    cases h
    have h2:=(tail_shot hk).1 ht
    refine⟨(tail_shot (b:=tick1 (moveM l b).1) hk).2 ⟨h2.1,?_⟩,J⟩
    have:¬b.Timer-1=0:=fun e=>hm (.inr e)
    simp only[tick1,moveM]
    omega
  ·cases h; exact⟨ht,rfl⟩
theorem fmap_at {α β:Type} {f:α→Option β}:∀ (xs:List α) (n:Nat),(∀ j x,j<n→xs[j]? = some x→∃ y,f x=some y)→∀ k y,k<n→(xs.filterMap f)[k]? = some y→k<xs.length→∃ x,xs[k]? = some x∧f x=some y
 | [],_,_,k,y,_,hy,hx=>by simp at hx
 |x::xs,0,h,k,y,hk,_,_=>by omega
 | x::xs,n+1,h,k,y,hk,hy,hx=>by
  obtain⟨z,hz⟩:=h 0 x (by omega) rfl
  rw[List.filterMap_cons,hz] at hy
  cases k with
  |zero =>
   simp only[Gq8] at hy
   exact⟨x,J,by rw[hz]; exact hy⟩
  |succ k =>
   simp only[Gxr] at hy
   simp only[Gqx] at hx
   obtain⟨a,h1,h2⟩:=fmap_at xs n (fun j w hj hw=>h (j+1) w (by omega) (by simpa using hw)) k y (by omega) hy (by omega)
   exact⟨a,by simpa using h1,h2⟩
theorem TK.mv {l:TLevel} {n:Nat} {bs:List TBody} (hL:LM l n bs) (h:TK n bs):TK n (mvM l bs):=by
 have hlen:=hL.len
 refine⟨fun c hc => ?_,fun k hk c hc => ?_⟩
 ·obtain⟨a,ha,hac⟩:=List.mem_filterMap.1 hc
  exact (move_tail hac (h.tl a ha)).1
 ·obtain⟨a,ha,hac⟩:=fmap_at bs n (fun j x hj hx=>mvOne_pl ((hL.at_ j x hx).2.2 hj)) k c hk hc (by omega)
  rw[(move_tail hac (h.tl a (Gqq ha))).2]
  exact h.ow k hk a ha
theorem hit_tail {p:TBody} (hk:p.Kind=0) (hl:0<p.Life) (h:tailM p=true):tailM (hitB p)=true:=by
 obtain⟨ha,hf,h4,h5⟩:=(tail_pl hk).1 h
 have h6:=h5 (by omega)
 refine (tail_pl (b:=hitB p) hk).2 ⟨ha,by simp only[hitB]; omega,fun e => ?_,fun e => ?_⟩
 ·simp only[hitB] at e ⊢
  rw[if_pos e]; omega
 ·simp only[hitB] at e ⊢
  rw[if_neg e]; exact h6
theorem TK.sh1 {l:TLevel} {n:Nat} {bs0:List TBody} {s:List TBody×List Int} (hS:SI l n bs0 s) (h:TK n s.1) (b:TBody):TK n (shOne n s b).1:=by
 unfold shOne
 split
 ·split
  ·exact h
  ·rename_i k hk
   obtain⟨h1,h2⟩:=metF_lt hk
   obtain⟨p,hp,hlf,_,_⟩:=metC_life h2
   rw[hp]
   exact h.set hp (hit_tail ((hS.lm.at_ k p hp).2.2 h1) hlf (h.tl p (Gqq hp))) fun _=>h.ow k h1 p hp
 ·exact h
theorem TK.sh {l:TLevel} {n:Nat} {bs0:List TBody} {s:List TBody×List Int} (hS:SI l n bs0 s) (h:TK n s.1) (t:List TBody):∀ j,TK n (shS n t s j).1
 |0=>h
 |j+1=>by
  rw[shS]
  split
  ·exact TK.sh hS h t j
  ·exact TK.sh1 (hS.all t j) (TK.sh hS h t j) _
theorem TK.hits {l:TLevel} {n:Nat} {bs:List TBody} {ss:List Int} (hL:LM l n bs) (h1:ss.length=n) (h2:∀ x∈ss,0≤x∧x≤1000000) (h:TK n bs):TK n (hitsR n bs ss).1:=by
 have hS:=(SI.start hL h1 h2).all (bs.drop n) (bs.drop n).length
 have hT:TK n (shS n (bs.drop n) (bs,ss) (bs.drop n).length).1:=TK.sh (SI.start hL h1 h2) h _ _
 have hlen:=hS.lm.len
 refine⟨fun c hc => ?_,fun k hk c hc => ?_⟩
 ·rcases Gqp.1 hc with h3 | h3
  ·exact hT.tl c (Gxk h3)
  ·exact h.tl c (Gx0 (keepR_sub _ c h3))
 ·simp only[hitsR] at hc
  rw[Gqy (by rw[Gqz]; omega),List.getElem?_take_of_lt hk] at hc
  exact hT.ow k hk c hc
theorem spot_free {l:TLevel} {x y:Int} (h : [x,y]∈spotsM l):solidM l x y 8=false:=by
 obtain⟨r,c,row,h1,h2,h3,h4,h5⟩:=rowSp_at h
 simp only[List.cons.injEq,and_true] at h5
 obtain⟨rfl,rfl⟩:=h5
 obtain⟨h6,h7⟩:=Gql.1 h2
 refine solidM_F fun ⟨r',c',e1,e2,e3,e4,hw⟩ => ?_
 have er:r'=r:=by omega
 have ec:c'=c:=by omega
 subst er; subst ec
 exact no_wall h6 (by rw[h7]; exact h3) (by rw[h7,h4]; decide) hw
theorem item_bm {l:TLevel} {n:Nat} (hn:1≤n) {x y:Int} (h : [x,y]∈spotsM l):BM l n (itemB x y) :=
 ⟨by simp[itemB],by simp only[itemB]; omega,spot_free h,by simp[itemB],by simp[itemB],by simp[itemB]⟩
theorem worldOk_mk {l:TLevel} {n:Nat} {bs:List TBody} {ss:List Int} {t s:Int} (hl:levelOk l=true) (ht:0≤t∧t≤100000) (hs:0≤s∧s≤65535) (hn:1≤n∧n≤4) (h1:ss.length=n) (h2:∀ x∈ss,0≤x∧x≤1000000) (hL:LM l n bs) (hT:TK n bs):worldOk ⟨l,t,s,ss,bs⟩=true:=by
 subst h1
 refine worldOk_T ⟨hl,Za.2 ht,Za.2 hs,hn,Gqm.2 fun x hx=>Za.2 (h2 x hx),hL.len,fun k hk => ?_⟩
 have hb:bs[k]? = some bs[k]:=Gqd hk
 have h3:=hL.at_ k _ hb
 unfold bodyAt
 rw[Gqi]
 refine⟨tail_bodyM h3.1 (hT.tl _ (Gqj hk)),?_⟩
 simp only
 split
 ·rename_i hkn
  exact Gqb ⟨h3.2.2 hkn,hT.ow k hkn _ hb⟩
 ·rename_i hkn
  exact Gqb fun e=>hkn (h3.2.1 e)
theorem TK.start {l:TLevel} {n:Nat} {bs:List TBody} (h:bodiesOk l n bs):TK n bs:=by
 refine⟨fun b hb => ?_,fun k hk b hb => ?_⟩
 ·obtain⟨j,hj,rfl⟩:=List.mem_iff_getElem.1 hb
  have:=h j hj
  unfold bodyAt at this
  rw[Gqi] at this
  exact tail_of this.1
 ·exact (old_at h hb hk).ow
theorem tick_ok {w:TWorld} {row:List Int} (hg:Enc.gd w) (ho:worldOk w=true) (ht:w.Tick≠100000) (hr:rowOk row w.Scores.length=true):worldOk (tickM w row)=true:=by
 have hP:=PH.of hg ho hr
 obtain⟨hl,htk,hs,hn,hsc,hlen,hbo⟩:=Vf ho
 have htk:=Za.1 htk
 have hM:=hits_lm hP.mv rfl (K0 ho)
 have hT:TK w.Scores.length (hitsR w.Scores.length (movedM w row) w.Scores).1:=TK.hits hP.mv rfl (K0 ho) (TK.mv hP.pl.lm (TK.pl hl hn.2 hlen hbo (TK.start hbo) row _ (Gqk _)))
 have hnx:=Zl w.Seed
 have hn2:=Zl (nextR w.Seed)
 unfold tickM lastM
 split
 ·exact worldOk_mk hl ⟨by omega,by omega⟩ hnx hn hM.2.1 hM.2.2 hM.1 hT
 ·rename_i hc
  split
  ·exact worldOk_mk hl ⟨by omega,by omega⟩ hn2 hn hM.2.1 hM.2.2 hM.1 hT
  ·obtain⟨i,_,_,hi⟩:=spotOf_mem (l:=w.Level) (seed:=nextR w.Seed) (fun e=>hc (.inr (.inl e)))
   have hmem:=Gqq hi
   obtain⟨x,y,he,_,_⟩:=spot_rng hl hmem
   have hb:(hitsR w.Scores.length (movedM w row) w.Scores).1.length<24:=by
    rcases Gqo (hitsR w.Scores.length (movedM w row) w.Scores).1.length 24 with h | h
    ·exact h
    ·exact absurd (.inr (.inr h)) hc
   rw[he] at hmem ⊢
   exact worldOk_mk hl ⟨by omega,by omega⟩ hn2 hn hM.2.1 hM.2.2 (hM.1.app hb (item_bm hn.1 hmem) (by simp[itemB])) (hT.app hM.1.len.1 J)
theorem stepW_ok {w:TWorld} {row:List Int} (hg:Enc.gd w) (ho:worldOk w=true):worldOk (stepW w row)=true:=by
 unfold stepW
 split
 ·rename_i h
  exact tick_ok hg h.1 h.2.1 h.2.2
 ·exact ho
end
section
open Go.RowKit

/-! ### Worlds -/
/-! ### Runs -/
/-! ### The lockstep worlds -/
section
variable {l:TLevel} {n:Nat} {seed:Int} {e:Nat} {rows:List (List Int)}
structure RD (l:TLevel) (n:Nat) (seed:Int) (e:Nat) (rows:List (List Int)):Prop where
 hl:levelOk l=true
 gl:Enc.gd l
 ll:l.Rows.length≤1048576
 hn:1≤n∧n≤4
 hs:inR seed 0 65535=true
 he:1≤e∧e≤100
 hL:rows.length≤400
 hr:∀ r∈rows,rowOk r (n:Int)=true
end
end
section
open Go.RowKit

section
variable {n k j:Nat} {t bs:List TBody} {ss:List Int} {s:List TBody×List Int} {b:TBody} {c:Int}
end
end
section
open Go.RowKit

section
variable {n k j P:Nat} {t bs:List TBody} {ss:List Int} {s:List TBody×List Int} {b:TBody} {c a:Int}
end
end
section
open Go.RowKit
end
section
open Go.RowKit

def inAt (t:Nat) (x:TTrack):Int:=x.Inputs.getD t 0
def rowAt (l:List TTrack) (t:Nat):List Int:=l.map (inAt t)
theorem all_at {l:List TTrack} (h:tracksOk l=true) {k:Nat} (hk:k<l.length):trackOk l[k]=true:=by
 unfold tracksOk at h
 rw[Gqi] at h
 exact Gqm.1 h.2 _ (Gqj hk)
theorem I_Predict (x:TTrack) (t:Nat) (g:Enc.gd x) (ho:trackOk x=true) (ht:t<x.Inputs.length):Con Tryz.prog 243 [] [ag x,ai t] [] (I (inAt t x)):=by
 have hl:=Yx x.Inputs
 have hat:=Yv ht
 have c1:=I_TrackOk x g
 rw[ho] at c1
 have f1:decide ((t:Int)<0)=false:=Gqa (by omega)
 have f2:decide ((t:Int)<((els x.Inputs).length:Int))=true:=Gqb (by omega)
 have e:inAt t x=x.Inputs[t]:=by simp[inAt,Gqc,ht]
 rw[e]
 refine Con.of Tryz.func243 J Tryz.ntmps243 J (fun E => ?_)
 refine Wz [82,55] ?_;refine zx (Qj J J (c1) J) J ?_;refine Wz [9,19,12,60,23,7,78,0,75,52,59,137] ?_
 exact Gb J (Gc [] J J J)
theorem rowAt_next {l:List TTrack} {t k:Nat} (h:k<l.length):els ((rowAt l t).take (k+1))=els ((rowAt l t).take k) ++ [Enc.e (inAt t l[k])]:=by
 rw[els_snoc (by simpa[rowAt] using h)]
 simp[rowAt]
theorem I_RowAt (l:List TTrack) (t:Nat) (g:Enc.gd l) (ho:tracksOk l=true) (ht:∀ x∈l,t<x.Inputs.length):Con Tryz.prog 201 [] [al l,ai t] [.row 1 (els (rowAt l t))] (.tu [.c (.ref 0),.c (bv true)]):=by
 have hl:=Yx l
 have c1:=I_TracksOk l g
 rw[ho] at c1
 have h4:=Va ho
 have f1:decide ((t:Int)<0)=false:=Gqa (by omega)
 have hrl:(rowAt l t).length=l.length:=by simp[rowAt]
 refine Con.of Tryz.func201 J Tryz.ntmps201 J (fun E => ?_)
 refine Wz [4,38,78] ?_;refine zx (Qj J J (c1) J) J ?_;refine Wz [9,19,12,60,10,7] ?_;refine M1 (q_makec 1 J J J J (by omega) (by omega) (by omega) (by omega) J (by simp)) J J ?_;refine Wz [2,87,7,142,44] ?_;refine Xj (fun m st=>∃ k:Nat,k+m=l.length∧(True)∧st=(⟨_,[(1,I t),(6,.o (.c (.ref 0))),(7,B true),(20,L l),(21,I (els l).length),(22,I k)],[.row 1 (els ((rowAt l t).take k))]⟩:St)) (l.length) ⟨_,⟨0,by omega,trivial,J⟩,Gi [0]⟩ ?_
 rintro m_A _ ⟨k,hk_A,hp_A,rfl⟩
 have hl2:(els ((rowAt l t).take k)).length=k:=by rw[Yx]; simp; omega
 by_cases h3:k<l.length
 ·have f2:decide ((k:Int)<((els l).length:Int))=true:=Gqb (by omega)
  have hat:=Yv h3
  have hm:=Gqj h3
  have htk:=ht _ hm
  have hli:=Yx l[k].Inputs
  have c2:=I_Predict l[k] t (g.2 _ hm) (all_at ho h3) htk
  have f3:decide (((els l[k].Inputs).length:Int)≤(t:Int))=false:=Gqa (by omega)
  refine Wz [4,12,3,8,83,11,4,110,131,94,10,92,0] ?_;refine zx (Qj J J (c2) J) J ?_;refine Wz [101,194,49,16,7,143,140,93] ?_
  exact⟨l.length-(k+1),by omega,(fun k:Nat=>(⟨_,[(1,I t),(6,.o (.c (.ref 0))),(7,B true),(20,L l),(21,I (els l).length),(22,I k)],[.row 1 (els ((rowAt l t).take k))]⟩:St)) (k+1),⟨k+1,by omega,trivial,J⟩,Ga [0] J (Kw (rowAt_next h3)) (.c J (.c J (.c J (.c J (.c J (.c J (.nil)))))))⟩
 have f2:decide ((k:Int)<((els l).length:Int))=false:=Gqa (by omega)
 have hk:(rowAt l t).take k=rowAt l t:=Gq3 (by omega)
 rw[hk]
 refine Wz [4,12,3,8,172,27,13,38,17] ?_
 exact Xq J J J (Gc [0] J J J)
end
section
open Go.RowKit

theorem at_nat {α:Type} [Enc α] {xs:List α} {i:Int} (h:i.toNat<xs.length):(els xs)[i.toNat]? = some (Enc.e (xs[i.toNat]'h)):=by simp[els,h]
theorem world_ticks {w:TWorld} (h:worldOk w=true):0≤w.Tick∧w.Tick≤100000:=by
 have h2:=(Vf h).2.1
 rwa[Za] at h2
section
variable {p:TPeer}
theorem no1 (h:(((!tracksOk p.Tracks || !worldOk p.Base) || !worldOk p.Now) || !decide (p.Base.Level=p.Now.Level))=true):¬PeerP p:=fun ⟨⟨q1,q2,q3,q4⟩,_⟩=>by
 rw[q1,q2,q3,Gqb q4] at h; exact absurd h (by decide)
theorem no2 (h:((decide ((p.Base.Scores.length:Int)≠p.Tracks.length) || decide ((p.Now.Scores.length:Int)≠p.Tracks.length)) || !faultOk p.Fault p.Tracks.length)=true):¬PeerP p:=fun ⟨_,⟨q1,q2,q3⟩,_⟩=>by
 rw[q3,Gqa (by omega),Gqa (by omega)] at h; exact absurd h (by decide)
theorem no3 (h:((!inR p.Me 0 ((p.Tracks.length:Int)-1) || !inR p.Delay 0 5) || !inR p.Ahead 1 8)=true):¬PeerP p:=fun ⟨_,_,⟨q1,q2,q3⟩,_⟩=>by
 rw[Za.2 q1,Za.2 q2,Za.2 q3] at h; exact absurd h (by decide)
theorem no4 (h:((!inR p.Seed 0 65535 || !inR p.Rolls 0 1000000) || !inR p.Again 0 1000000)=true):¬PeerP p:=fun ⟨_,_,_,⟨q1,q2,q3⟩,_⟩=>by
 rw[Za.2 q1,Za.2 q2,Za.2 q3] at h; exact absurd h (by decide)
theorem no5 (h:((!inR (p.Now.Tick-p.Base.Tick) 0 p.Ahead || decide ((p.Used.length:Int)≠p.Now.Tick-p.Base.Tick)) || decide ((p.Saves.length:Int)≠p.Now.Tick-p.Base.Tick))=true):¬PeerP p:=fun ⟨_,_,_,_,⟨q1,q2,q3⟩,_⟩=>by
 rw[Za.2 q1,Gqa (by omega),Gqa (by omega)] at h; exact absurd h (by decide)
theorem fin_eq (h1:tracksOk p.Tracks=true∧worldOk p.Base=true∧worldOk p.Now=true∧p.Base.Level=p.Now.Level)
  (h2:p.Base.Scores.length=p.Tracks.length∧p.Now.Scores.length=p.Tracks.length∧faultOk p.Fault p.Tracks.length=true)
  (h3:(0≤p.Me∧p.Me≤(p.Tracks.length:Int)-1)∧(0≤p.Delay∧p.Delay≤5)∧(1≤p.Ahead∧p.Ahead≤8))
  (h4:(0≤p.Seed∧p.Seed≤65535)∧(0≤p.Rolls∧p.Rolls≤1000000)∧(0≤p.Again∧p.Again≤1000000))
  (h5:(0≤p.Now.Tick-p.Base.Tick∧p.Now.Tick-p.Base.Tick≤p.Ahead)∧(p.Used.length:Int)=p.Now.Tick-p.Base.Tick∧(p.Saves.length:Int)=p.Now.Tick-p.Base.Tick)
  (h6:(p.Used.all fun row=>rowOk row p.Tracks.length)=true∧∀ k (h:k<p.Saves.length),p.Saves[k].Tick=p.Base.Tick+k) :
  ((decide (p.Base.Tick≤(knownTicks p.Tracks:Nat))&&decide (p.Now.Tick≤(lenAt p.Tracks p.Me.toNat:Nat)))&&decide ((p.Sums.length:Int)=p.Base.Tick+1))=peerOk p:=by
 by_cases h7:p.Base.Tick≤knownTicks p.Tracks∧p.Now.Tick≤lenAt p.Tracks p.Me.toNat∧(p.Sums.length:Int)=p.Base.Tick+1
 ·rw[peer_T ⟨h1,h2,h3,h4,h5,h6,h7⟩,Gqb h7.1,Gqb h7.2.1,Gqb h7.2.2]; rfl
 ·rw[peer_F fun ⟨_,_,_,_,_,_,h8⟩=>h7 h8]
  rw[←Gxp]
  simp only[Gqi,decide_eq_true_eq]
  exact fun ⟨⟨a,b⟩,c⟩=>h7 ⟨a,b,c⟩
end
theorem I_PeerOk (x:TPeer) (hg:Enc.gd x):Con Tryz.prog 106 [] [ag x] [] (B (peerOk x)):=by
 obtain⟨gMe,gDe,gAh,gSe,gTr,gBa,gNo,gUs,gSa,gSu,gFa,gRo,gAg⟩:=hg
 have hlt:=Yx x.Tracks
 have hlu:=Yx x.Used
 have hls:=Yx x.Saves
 have hlm:=Yx x.Sums
 have hlb:=Yx x.Base.Scores
 have hln:=Yx x.Now.Scores
 have c1:=I_TracksOk x.Tracks gTr
 have c2:=Xw x.Base gBa
 have c3:=Xw x.Now gNo
 have c4:=I_sameLevel x.Base.Level x.Now.Level gBa.1
 have c5:=I_FaultOk x.Fault (els x.Tracks).length (by omega)
 have c6:=I_KnownTicks x.Tracks gTr
 refine Con.of Tryz.func106 J Tryz.ntmps106 J (fun E => ?_)
 refine Wz [82,23,7,2,42] ?_;refine zx (Qj J J (c1) J) J ?_;refine Wz [9,206,271] ?_;refine zx (Vz J (.hit (.hit .stop)) (fun hgrd=>Qj J J (c2) J)) J ?_;refine Wz [139,80,206,271] ?_;refine zx (Vz J (.hit (.hit .stop)) (fun hgrd=>Qj J J (c3) J)) J ?_;refine Wz [139,80,206,187] ?_;refine zx (Vz J (.hit (.hit .stop)) (fun hgrd=>Qu J J J J J J)) J ?_;refine zx (Vz J (.hit (.hit (.hit .stop))) (fun hgrd=>Qf J J J J (by decide))) J ?_;refine zx (Vz J (.hit (.hit (.hit (.hit .stop)))) (fun hgrd=>Qf J J J J (by decide))) J ?_;refine zx (Vz J (.hit (.hit (.hit (.hit (.hit .stop))))) (fun hgrd=>Qu J J J J J J)) J ?_;refine zx (Vz J (.hit (.hit (.hit (.hit (.hit (.hit .stop)))))) (fun hgrd=>Qj J J (c4) J)) J ?_;refine zx (Vz J (.hit (.hit (.hit (.hit (.hit (.hit (.hit .stop))))))) (fun hgrd=>Q4 J J J)) J ?_;refine Wz [103] ?_
 refine Xb J (fun h1 => ?_) (fun h1 => ?_)
 ·rw[peer_F (no1 h1)]
  refine Wz [98] ?_
  exact Gb J (Gc [] J J J)
 simp only[Gqn,Gq4,decide_eq_true_eq] at h1
 obtain⟨⟨⟨q1,q2⟩,q3⟩,q4⟩:=h1
 have tB:=world_ticks q2
 have tN:=world_ticks q3
 have tL:=Va q1
 refine AWP.pre (st':=(⟨_,[(1,.o (.c (.ptr 0 0))),(3,I (els x.Tracks).length)],[.box ((Enc.e x).map (V1.rd []))]⟩:St)) ?_ (Gi [0])
 refine Wz [22,303,159,16,7,0,150,206,187,200,210] ?_;refine zx (Vz J (.hit (.hit (.hit (.hit .stop)))) (fun hgrd=>Qa J J J)) J ?_;refine zx (Vz J (.hit (.hit (.hit (.hit (.hit .stop))))) (fun hgrd=>Kj J J J J)) J ?_;refine Wz [80,206,271,235] ?_;refine zx (Vz J (.hit (.hit (.hit .stop))) (fun hgrd=>Qj J J (c5) J)) J ?_;refine zx (Vz J (.hit (.hit (.hit (.hit .stop)))) (fun hgrd=>Q4 J J J)) J ?_;refine Wz [103] ?_
 refine Xb J (fun h2 => ?_) (fun h2 => ?_)
 ·rw[hlt,hlb,hln] at h2
  rw[peer_F (no2 h2)]
  refine Wz [98] ?_
  exact Gb J (Gc [] J J J)
 rw[hlt,hlb,hln] at h2
 simp only[Gqn,Gq4,decide_eq_false_iff_not,Classical.not_not] at h2
 obtain⟨⟨q5,q6⟩,q7⟩:=h2
 refine AWP.pre (st':=(⟨_,[(1,.o (.c (.ptr 0 0))),(3,I (els x.Tracks).length)],[.box ((Enc.e x).map (V1.rd []))]⟩:St)) ?_ (Gi [0])
 refine Wz [22,42,0,65] ?_;refine zx (Qj J J (Xx x.Me 0 (((els x.Tracks).length:Int)-1)) J) J ?_;refine Wz [9,111] ?_;refine zx (Vz J (.hit (.hit .stop)) (fun hgrd=>Qj J J (Xx x.Delay 0 5) J)) J ?_;refine Wz [139,80,111] ?_;refine zx (Vz J (.hit (.hit .stop)) (fun hgrd=>Qj J J (Xx x.Ahead 1 8) J)) J ?_;refine Wz [139,103] ?_
 refine Xb J (fun h3 => ?_) (fun h3 => ?_)
 ·rw[hlt] at h3
  rw[peer_F (no3 h3)]
  refine Wz [98] ?_
  exact Gb J (Gc [] J J J)
 rw[hlt] at h3
 simp only[Gqn,Gq4,Za] at h3
 obtain⟨⟨q8,q9⟩,q10⟩:=h3
 refine AWP.pre (st':=(⟨_,[(1,.o (.c (.ptr 0 0))),(3,I (els x.Tracks).length)],[.box ((Enc.e x).map (V1.rd []))]⟩:St)) ?_ (Gi [0])
 refine Wz [22,42] ?_;refine zx (Qj J J (Xx x.Seed 0 65535) J) J ?_;refine Wz [9,111] ?_;refine zx (Vz J (.hit (.hit .stop)) (fun hgrd=>Qj J J (Xx x.Rolls 0 1000000) J)) J ?_;refine Wz [139,80,111] ?_;refine zx (Vz J (.hit (.hit .stop)) (fun hgrd=>Qj J J (Xx x.Again 0 1000000) J)) J ?_;refine Wz [139,103] ?_
 refine Xb J (fun h4 => ?_) (fun h4 => ?_)
 ·rw[peer_F (no4 h4)]
  refine Wz [98] ?_
  exact Gb J (Gc [] J J J)
 simp only[Gqn,Gq4,Za] at h4
 obtain⟨⟨q11,q12⟩,q13⟩:=h4
 refine AWP.pre (st':=(⟨_,[(1,.o (.c (.ptr 0 0))),(3,I (els x.Tracks).length)],[.box ((Enc.e x).map (V1.rd []))]⟩:St)) ?_ (Gi [0])
 refine Wz [22,4,159,16,159,16,65,78,16] ?_;refine zx (Qj J J (Xx (x.Now.Tick-x.Base.Tick) 0 x.Ahead) J) J ?_;refine Wz [9,111,209,259,291,80,111,209,259,291,103] ?_
 refine Xb J (fun h5 => ?_) (fun h5 => ?_)
 ·rw[hlu,hls] at h5
  rw[peer_F (no5 h5)]
  refine Wz [98] ?_
  exact Gb J (Gc [] J J J)
 rw[hlu,hls] at h5
 simp only[Gqn,Gq4,decide_eq_false_iff_not,Classical.not_not,Za] at h5
 obtain⟨⟨q14,q15⟩,q16⟩:=h5
 refine AWP.pre (st':=(⟨_,[(1,.o (.c (.ptr 0 0))),(3,I (els x.Tracks).length)],[.box ((Enc.e x).map (V1.rd []))]⟩:St)) ?_ (Gi [0])
 refine Wz [22,42,7,142,44] ?_;refine Xj (fun m st=>∃ k:Nat,k+m=x.Used.length∧((x.Used.take k).all (fun row=>rowOk row x.Tracks.length)=true)∧st=(⟨_,[(1,.o (.c (.ptr 0 0))),(3,I (els x.Tracks).length),(120,L x.Used),(121,I (els x.Used).length),(122,I k)],[.box ((Enc.e x).map (V1.rd []))]⟩:St)) (x.Used.length) ⟨_,⟨0,by omega,by simp,J⟩,Gi [0]⟩ ?_
 rintro m_A _ ⟨k,hk_A,hp_A,rfl⟩
 refine Wz [4,37,8] ?_
 refine Xb J (fun h => ?_) (fun h => ?_)
 ·have h3:k<x.Used.length:=by have:=Gqe h; omega
  have hat:=Yv h3
  have hc:=I_rowOk x.Used[k] (els x.Tracks).length (gUs.2 _ (Gqj h3))
  rw[hlt] at hc
  cases ho:rowOk x.Used[k] x.Tracks.length with
  |false =>
   rw[ho,←hlt] at hc
   rw[peer_F (fun hp=>by have:=hp.2.2.2.2.2.1.1; rw[all_no h3 ho] at this; cases this)]
   refine Wz [11,4,59,2,13] ?_;refine zx (Qj J J (hc) J) J ?_;refine Wz [9,29,26,69] ?_
   exact Gb J (Gc [] J J J)
  |true =>
   rw[ho,←hlt] at hc
   refine Wz [11,4,59,2,13] ?_;refine zx (Qj J J (hc) J) J ?_;refine Wz [9,140,93] ?_
   exact⟨x.Used.length-(k+1),by omega,_,⟨k+1,by omega,Yi hp_A h3 ho,J⟩,Gi [0]⟩
 have h3:¬((k:Int)<(els x.Used).length):=Gqf h
 have hall:=G4 hp_A
 refine Wz [27,42,7,142,44] ?_;refine Xj (fun m st=>∃ j:Nat,j+m=x.Saves.length∧((∀ i (h:i<x.Saves.length),i<j→x.Saves[i].Tick=x.Base.Tick+i))∧st=(⟨_,[(1,.o (.c (.ptr 0 0))),(3,I (els x.Tracks).length),(132,L x.Saves),(133,I (els x.Saves).length),(134,I j)],[.box ((Enc.e x).map (V1.rd []))]⟩:St)) (x.Saves.length) ⟨_,⟨0,by omega,fun i _ hi=>absurd hi (Nat.not_lt_zero _),J⟩,Gi [0]⟩ ?_
 rintro m_D _ ⟨j,hk_D,hp_D,rfl⟩
 refine Wz [4,37,8] ?_
 refine Xb J (fun h => ?_) (fun h => ?_)
 ·have h4:j<x.Saves.length:=by have:=Gqe h; omega
  have hat:=Yv h4
  by_cases ho:x.Saves[j].Tick=x.Base.Tick+j
  ·have hb:decide (x.Saves[j].Tick≠x.Base.Tick+j)=false:=Gqa (fun h=>h ho)
   refine Wz [107,110,131,66,38,56,23,159,58,18,24,140,93] ?_
   exact⟨x.Saves.length-(j+1),by omega,_,⟨j+1,by omega,fun i hi hij=>by by_cases e:i=j; subst e; exact ho; exact hp_D i hi (by omega),J⟩,Gi [0]⟩
  ·have hb:decide (x.Saves[j].Tick≠x.Base.Tick+j)=true:=Gqb ho
   rw[peer_F (fun hp=>ho (hp.2.2.2.2.2.1.2 j h4))]
   refine Wz [107,110,131,66,38,56,23,159,58,18,24,29,26,69] ?_
   exact Gb J (Gc [] J J J)
 have h4:¬((j:Int)<(els x.Saves).length):=Gqf h
 have hme:x.Me.toNat<x.Tracks.length:=by omega
 have hat:=at_nat (xs:=x.Tracks) hme
 have hti:=Yx x.Tracks[x.Me.toNat].Inputs
 have hla:=lenAt_is hme
 rw[←fin_eq ⟨q1,q2,q3,q4⟩ ⟨by omega,by omega,q7⟩ ⟨q8,q9,q10⟩ ⟨q11,q12,q13⟩ ⟨q14,q15,q16⟩ ⟨hall,fun i hi=>hp_D i hi (by omega)⟩,←hlm]
 by_cases k1:x.Base.Tick≤(knownTicks x.Tracks:Nat)
 ·have hb1:decide (x.Base.Tick≤((knownTicks x.Tracks:Nat):Int))=true:=Gqb k1
  by_cases k2:x.Now.Tick≤(lenAt x.Tracks x.Me.toNat:Nat)
  ·have hb2:decide (x.Now.Tick≤((els x.Tracks[x.Me.toNat].Inputs).length:Int))=true:=Gqb (by omega)
   rw[hb1,Gqb k2]
   refine Wz [27,8] ?_;refine Xi u8_60 u8_61 u8_62 J ?_;refine Wz [178,28,28] ?_;refine Vk (Qj J J (c6) J) J ?_;refine Wz [250,5,35,35,198,251,199,252,227,35,292,113,5,35,252,227,35,224] ?_;refine Vk (Qt.yes J J J (Z5 J J J J)) J ?_;refine Wz [113,171,21,3,74,48] ?_
   exact Gb J (Gc [] J J J)
  ·have hb2:decide (x.Now.Tick≤((els x.Tracks[x.Me.toNat].Inputs).length:Int))=false:=Gqa (by omega)
   rw[hb1,Gqa k2]
   refine Wz [27,8] ?_;refine Xi u8_60 u8_61 u8_62 J ?_;refine Wz [178,28,28] ?_;refine Vk (Qj J J (c6) J) J ?_;refine Wz [250,5,35,35,198,251,199,252,227,35,292,113,5,61,61,90,171,21,3,74,48] ?_
   exact Gb J (Gc [] J J J)
 ·have hb1:decide (x.Base.Tick≤((knownTicks x.Tracks:Nat):Int))=false:=Gqa k1
  rw[hb1]
  refine Wz [27,8] ?_;refine Xi u8_60 u8_61 u8_62 J ?_;refine Wz [178,28,28] ?_;refine Vk (Qj J J (c6) J) J ?_;refine Wz [250,5,61,61,61,90,5,61,61,90,171,21,3,74,48] ?_
  exact Gb J (Gc [] J J J)
end
section
open Go.RowKit

def rowsOf (l:List TTrack) (t:Nat):List (List Int):=(List.range t).map (rowAt l)
theorem rowsOf_next {l:List TTrack} {k:Nat}:els (rowsOf l (k+1))=els (rowsOf l k) ++ [Enc.e (rowAt l k)]:=by
 rw[rowsOf,List.range_succ,List.map_append,els,List.map_append]
 rfl
theorem I_RowsOf (l:List TTrack) (t:Nat) (g:Enc.gd l) (ho:tracksOk l=true) (ht:t≤knownTicks l) (h1000:t≤1000) (hk:∀ k<t,∀ x∈l,k<x.Inputs.length):Con Tryz.prog 109 [] [al l,ai 0,ai t] [.row 1 (els (rowsOf l t))] (.o (.c (.ref 0))):=by
 have c1:=I_TracksOk l g
 rw[ho] at c1
 have c2:=I_KnownTicks l g
 have f1:decide ((0:Int)<0)=false:=rfl
 have f2:decide (((knownTicks l:Nat):Int)<(t:Int))=false:=Gqa (by omega)
 refine Con.of Tryz.func109 J Tryz.ntmps109 J (fun E => ?_)
 refine Wz [87] ?_;refine zx (Qj J J (c1) J) J ?_;refine Wz [9,19,12,6,81] ?_;refine zx (Qj J J (c2) J) J ?_;refine Wz [1,86,60,87,192] ?_
 refine AWP.pre ?_ (W_nil 7 1 J)
 refine Xj (fun m st=>∃ k:Nat,k+m=t∧(True)∧st=(⟨_,[(0,L l),(2,I t),(7,.o (.c (.ref 0))),(8,I k)],[.row 1 (els (rowsOf l k))]⟩:St)) (t) ⟨_,⟨0,by omega,trivial,J⟩,Gi [0]⟩ ?_
 rintro m_A _ ⟨k,hk_A,hp_A,rfl⟩
 have hl2:(els (rowsOf l k)).length=k:=by rw[Yx]; simp[rowsOf]
 by_cases h3:k<t
 ·have f3:decide ((k:Int)<(t:Int))=true:=Gqb (by omega)
  have c3:=I_RowAt l k g ho (hk k h3)
  refine Wz [20,75,11,13] ?_;refine M1 (Z3 J J (c3) J J J) J J ?_;refine Wz [71,38,2,33,0,101,121,104] ?_
  exact⟨t-(k+1),by omega,(fun k:Nat=>(⟨_,[(0,L l),(2,I t),(7,.o (.c (.ref 0))),(8,I k)],[.row 1 (els (rowsOf l k))]⟩:St)) (k+1),⟨k+1,by omega,trivial,J⟩,Ga [0] J (Kw rowsOf_next) (.c J (.c J (.c J (.c J (.nil)))))⟩
 have f3:decide ((k:Int)<(t:Int))=false:=Gqa (by omega)
 have hkt:k=t:=by omega
 subst hkt
 refine Wz [20,12,76,89,17] ?_
 exact Gb J (Gc [0] J J J)
structure RunIn (W:Nat→TWorld) (l:List TTrack) (f:TFault) (t:Nat):Prop where
 wi:∀ k,k≤t→WorIn (W k)
 st:∀ k,k<t→W (k+1)=stepF (W k) (rowAt l k) f
 sl_:∀ k,k<t→(stepW (W k) (rowAt l k)).Scores.length=(W k).Scores.length
 ss:∀ k,k<t→∀ s∈(stepW (W k) (rowAt l k)).Scores,0≤s∧s≤1000000
 lv:∀ k,k<t→(stepW (W k) (rowAt l k)).Level=(W k).Level
 gr:∀ k,k<t→Enc.gd (rowAt l k)
 kn:∀ k,k<t→∀ x∈l,k<x.Inputs.length
end
section
open Go.RowKit

section
variable {p:TPeer}
theorem noS1 (h:((((((!worldOk p.Base || !worldOk p.Now) || !decide (p.Base.Level=p.Now.Level)) || decide ((p.Base.Scores.length:Int)≠p.Tracks.length)) || decide ((p.Now.Scores.length:Int)≠p.Tracks.length)) || !tracksOk p.Tracks) || !faultOk p.Fault p.Tracks.length)=true):¬PeerP p:=fun ⟨⟨q1,q2,q3,q4⟩,⟨q5,q6,q7⟩,_⟩=>by
 rw[q1,q2,q3,Gqb q4,q7,Gqa (by omega),Gqa (by omega)] at h; exact absurd h (by decide)
theorem noS2 (h:((((((((!inR p.Me 0 ((p.Tracks.length:Int)-1) || !inR p.Delay 0 5) || !inR p.Ahead 1 8) || !inR p.Seed 0 65535) || !inR p.Rolls 0 1000000) || !inR p.Again 0 1000000) || !inR (p.Now.Tick-p.Base.Tick) 0 p.Ahead) || decide ((p.Used.length:Int)≠p.Now.Tick-p.Base.Tick)) || decide ((p.Saves.length:Int)≠p.Now.Tick-p.Base.Tick))=true):¬PeerP p:=fun ⟨_,_,⟨q1,q2,q3⟩,⟨q4,q5,q6⟩,⟨q7,q8,q9⟩,_⟩=>by
 rw[Za.2 q1,Za.2 q2,Za.2 q3,Za.2 q4,Za.2 q5,Za.2 q6,Za.2 q7,Gqa (by omega),Gqa (by omega)] at h; exact absurd h (by decide)
end
theorem S_PeerOk (x:TPeer) (hg:Enc.gd x):Con Tryz.prog 99 [] [ag x] [] (B (peerOk x)):=by
 obtain⟨gMe,gDe,gAh,gSe,gTr,gBa,gNo,gUs,gSa,gSu,gFa,gRo,gAg⟩:=hg
 have hlt:=Yx x.Tracks
 have hlu:=Yx x.Used
 have hls:=Yx x.Saves
 have hlm:=Yx x.Sums
 have hlb:=Yx x.Base.Scores
 have hln:=Yx x.Now.Scores
 have c1:=S_TracksOk x.Tracks gTr
 have c2:=S_WorldOk x.Base gBa
 have c3:=S_WorldOk x.Now gNo
 have c4:=S_sameLevel x.Base.Level x.Now.Level gBa.1
 have c5:=S_FaultOk x.Fault (els x.Tracks).length (by omega) (by have:=gTr.1; omega)
 have c6:=S_KnownTicks x.Tracks gTr
 refine Con.of Tryz.func99 J Tryz.ntmps99 J (fun E => ?_)
 refine Wz [82,23,7,2,211] ?_;refine zx (Qj J J (c2) J) J ?_;refine Wz [9,206,271] ?_;refine zx (Vz J (.hit (.hit .stop)) (fun hgrd=>Qj J J (c3) J)) J ?_;refine Wz [139,80,206,187] ?_;refine zx (Vz J (.hit (.hit .stop)) (fun hgrd=>Qu J J J J J J)) J ?_;refine zx (Vz J (.hit (.hit (.hit .stop))) (fun hgrd=>Qf J J J J (by decide))) J ?_;refine zx (Vz J (.hit (.hit (.hit (.hit .stop)))) (fun hgrd=>Qf J J J J (by decide))) J ?_;refine zx (Vz J (.hit (.hit (.hit (.hit (.hit .stop))))) (fun hgrd=>Qu J J J J J J)) J ?_;refine zx (Vz J (.hit (.hit (.hit (.hit (.hit (.hit .stop)))))) (fun hgrd=>Qj J J (c4) J)) J ?_;refine zx (Vz J (.hit (.hit (.hit (.hit (.hit (.hit (.hit .stop))))))) (fun hgrd=>Q4 J J J)) J ?_;refine Wz [80,206,187,200,210] ?_;refine zx (Vz J (.hit (.hit (.hit (.hit .stop)))) (fun hgrd=>Qa J J J)) J ?_;refine zx (Vz J (.hit (.hit (.hit (.hit (.hit .stop))))) (fun hgrd=>Kj J J J J)) J ?_;refine Wz [80,206,187,200,210] ?_;refine zx (Vz J (.hit (.hit (.hit (.hit .stop)))) (fun hgrd=>Qa J J J)) J ?_;refine zx (Vz J (.hit (.hit (.hit (.hit (.hit .stop))))) (fun hgrd=>Kj J J J J)) J ?_;refine Wz [80,111] ?_;refine zx (Vz J (.hit (.hit .stop)) (fun hgrd=>Qj J J (c1) J)) J ?_;refine Wz [139,80,206,271,235] ?_;refine zx (Vz J (.hit (.hit (.hit .stop))) (fun hgrd=>Qj J J (c5) J)) J ?_;refine zx (Vz J (.hit (.hit (.hit (.hit .stop)))) (fun hgrd=>Q4 J J J)) J ?_;refine Wz [103] ?_
 refine Xb J (fun h1 => ?_) (fun h1 => ?_)
 ·rw[hlt,hlb,hln] at h1
  rw[peer_F (noS1 h1)]
  refine Wz [98] ?_
  exact Gb J (Gc [] J J J)
 rw[hlt,hlb,hln] at h1
 simp only[Gqn,Gq4,decide_eq_true_eq,decide_eq_false_iff_not,Classical.not_not] at h1
 obtain⟨⟨⟨⟨⟨⟨q2,q3⟩,q4⟩,q5⟩,q6⟩,q1⟩,q7⟩:=h1
 have tB:=world_ticks q2
 have tN:=world_ticks q3
 have tL:=Va q1
 refine AWP.pre (st':=(⟨_,[(1,.o (.c (.ptr 0 0))),(3,I (els x.Tracks).length)],[.box ((Enc.e x).map (V1.rd []))]⟩:St)) ?_ (Gi [0])
 refine Wz [22,4,159,16,159,16,65,2,42,0,65] ?_;refine zx (Qj J J (Ya x.Me 0 (((els x.Tracks).length:Int)-1)) J) J ?_;refine Wz [9,111] ?_;refine zx (Vz J (.hit (.hit .stop)) (fun hgrd=>Qj J J (Ya x.Delay 0 5) J)) J ?_;refine Wz [139,80,111] ?_;refine zx (Vz J (.hit (.hit .stop)) (fun hgrd=>Qj J J (Ya x.Ahead 1 8) J)) J ?_;refine Wz [139,80,111] ?_;refine zx (Vz J (.hit (.hit .stop)) (fun hgrd=>Qj J J (Ya x.Seed 0 65535) J)) J ?_;refine Wz [139,80,111] ?_;refine zx (Vz J (.hit (.hit .stop)) (fun hgrd=>Qj J J (Ya x.Rolls 0 1000000) J)) J ?_;refine Wz [139,80,111] ?_;refine zx (Vz J (.hit (.hit .stop)) (fun hgrd=>Qj J J (Ya x.Again 0 1000000) J)) J ?_;refine Wz [139,80,106,187,200] ?_;refine zx (Vz J (.hit (.hit (.hit .stop))) (fun hgrd=>Qj J J (Ya (x.Now.Tick-x.Base.Tick) 0 x.Ahead) J)) J ?_;refine zx (Vz J (.hit (.hit (.hit (.hit .stop)))) (fun hgrd=>Q4 J J J)) J ?_;refine Wz [80,111,209,259,291,80,111,209,259,291,103] ?_
 refine Xb J (fun h2 => ?_) (fun h2 => ?_)
 ·rw[hlt,hlu,hls] at h2
  rw[peer_F (noS2 h2)]
  refine Wz [98] ?_
  exact Gb J (Gc [] J J J)
 rw[hlt,hlu,hls] at h2
 simp only[Gqn,Gq4,decide_eq_false_iff_not,Classical.not_not,Za] at h2
 obtain⟨⟨⟨⟨⟨⟨⟨⟨q8,q9⟩,q10⟩,q11⟩,q12⟩,q13⟩,q14⟩,q15⟩,q16⟩:=h2
 refine AWP.pre (st':=(⟨_,[(1,.o (.c (.ptr 0 0))),(3,I (els x.Tracks).length),(4,I (x.Now.Tick-x.Base.Tick))],[.box ((Enc.e x).map (V1.rd []))]⟩:St)) ?_ (Gi [0])
 refine Wz [22,46] ?_;refine Xj (fun m st=>∃ k:Nat,k+m=x.Used.length∧((x.Used.take k).all (fun row=>rowOk row x.Tracks.length)=true∧(∀ i (h:i<x.Saves.length),i<k→x.Saves[i].Tick=x.Base.Tick+i))∧st=(⟨_,[(1,.o (.c (.ptr 0 0))),(3,I (els x.Tracks).length),(4,I (x.Now.Tick-x.Base.Tick)),(5,I k)],[.box ((Enc.e x).map (V1.rd []))]⟩:St)) (x.Used.length) ⟨_,⟨0,by omega,⟨by simp,fun i _ hi=>absurd hi (Nat.not_lt_zero _)⟩,J⟩,Gi [0]⟩ ?_
 rintro m_A _ ⟨k,hk_A,hp_A,rfl⟩
 obtain⟨hpa,hpb⟩:=hp_A
 refine Wz [20,37] ?_
 refine Xb J (fun h => ?_) (fun h => ?_)
 ·have h3:k<x.Used.length:=by have:=Gqe h; omega
  have h4:k<x.Saves.length:=by omega
  have hat:=Yv h3
  have hat2:=Yv h4
  have hc:=S_rowOk x.Used[k] (els x.Tracks).length (gUs.2 _ (Gqj h3))
  rw[hlt] at hc
  cases ho:rowOk x.Used[k] x.Tracks.length with
  |false =>
   rw[ho,←hlt] at hc
   rw[peer_F (fun hp=>by have:=hp.2.2.2.2.2.1.1; rw[all_no h3 ho] at this; cases this)]
   refine Wz [11,8] ?_;refine Xi u8_63 u8_64 u8_65 J ?_;refine Wz [28,5,85,5] ?_;refine Vk (Qj J J (hc) J) J ?_;refine Wz [147,5,61,61,61,113,21,29,26,69] ?_
   exact Gb J (Gc [] J J J)
  | true =>
   rw[ho,←hlt] at hc
   by_cases hs:x.Saves[k].Tick=x.Base.Tick+k
   ·have hb:decide (x.Saves[k].Tick≠x.Base.Tick+k)=false:=Gqa (fun h=>h hs)
    refine Wz [11,8] ?_;refine Xi u8_63 u8_64 u8_65 J ?_;refine Wz [28,5,85,5] ?_;refine Vk (Qj J J (hc) J) J ?_;refine Wz [147,5,35,68,198,251,199,227,35,68,224] ?_;refine Vk (Qt.yes J J J (Qw J J J J (by assumption))) J ?_;refine Wz [90,21,100] ?_
    exact⟨x.Used.length-(k+1),by omega,_,⟨k+1,by omega,⟨Yi hpa h3 ho,fun i hi hij=>by by_cases e:i=k; subst e; exact hs; exact hpb i hi (by omega)⟩,J⟩,Gi [0]⟩
   ·have hb:decide (x.Saves[k].Tick≠x.Base.Tick+k)=true:=Gqb hs
    rw[peer_F (fun hp=>hs (hp.2.2.2.2.2.1.2 k h4))]
    refine Wz [11,8] ?_;refine Xi u8_63 u8_64 u8_65 J ?_;refine Wz [28,5,85,5] ?_;refine Vk (Qj J J (hc) J) J ?_;refine Wz [147,5,35,68,198,251,199,227,35,68,224] ?_;refine Vk (Qt.yes J J J (Qw J J J J (by assumption))) J ?_;refine Wz [90,21,29,26,69] ?_
    exact Gb J (Gc [] J J J)
 have h3:¬k<x.Used.length:=by have:=Gqf h; omega
 have hall:=G4 hpa
 have hme:x.Me.toNat<x.Tracks.length:=by omega
 have hat:=at_nat (xs:=x.Tracks) hme
 have hti:=Yx x.Tracks[x.Me.toNat].Inputs
 have hla:=lenAt_is hme
 rw[←fin_eq ⟨q1,q2,q3,q4⟩ ⟨by omega,by omega,q7⟩ ⟨q8,q9,q10⟩ ⟨q11,q12,q13⟩ ⟨q14,q15,q16⟩ ⟨hall,fun i hi=>hpb i hi (by omega)⟩,←hlm]
 by_cases k1:x.Base.Tick≤(knownTicks x.Tracks:Nat)
 ·have hb1:decide (x.Base.Tick≤((knownTicks x.Tracks:Nat):Int))=true:=Gqb k1
  by_cases k2:x.Now.Tick≤(lenAt x.Tracks x.Me.toNat:Nat)
  ·have hb2:decide (x.Now.Tick≤((els x.Tracks[x.Me.toNat].Inputs).length:Int))=true:=Gqb (by omega)
   rw[hb1,Gqb k2]
   refine Wz [27,8] ?_;refine Xi u8_60 u8_66 u8_67 J ?_;refine Wz [178,28,28] ?_;refine Vk (Qj J J (c6) J) J ?_;refine Wz [250,5,35,35,198,251,199,252,227,35,292,113,5,35,252,227,35,224] ?_;refine Vk (Qt.yes J J J (Z5 J J J J)) J ?_;refine Wz [113,171,21,3,74,48] ?_
   exact Gb J (Gc [] J J J)
  ·have hb2:decide (x.Now.Tick≤((els x.Tracks[x.Me.toNat].Inputs).length:Int))=false:=Gqa (by omega)
   rw[hb1,Gqa k2]
   refine Wz [27,8] ?_;refine Xi u8_60 u8_66 u8_67 J ?_;refine Wz [178,28,28] ?_;refine Vk (Qj J J (c6) J) J ?_;refine Wz [250,5,35,35,198,251,199,252,227,35,292,113,5,61,61,90,171,21,3,74,48] ?_
   exact Gb J (Gc [] J J J)
 ·have hb1:decide (x.Base.Tick≤((knownTicks x.Tracks:Nat):Int))=false:=Gqa k1
  rw[hb1]
  refine Wz [27,8] ?_;refine Xi u8_60 u8_66 u8_67 J ?_;refine Wz [178,28,28] ?_;refine Vk (Qj J J (c6) J) J ?_;refine Wz [250,5,61,61,61,90,5,61,61,90,171,21,3,74,48] ?_
  exact Gb J (Gc [] J J J)
end
section
open Go.RowKit

theorem faultS_len {f:TFault} {w:TWorld}:(faultS f w).Scores.length=w.Scores.length:=Gxe
theorem fault_fit {w:TWorld} {f:TFault} (hw:WorIn w) (ho:worldOk w=true) (hf:0≤f.Add):worldOk (faultS f w)=true∧WorIn (faultS f w):=by
 have hs:=K0 ho
 obtain⟨g1,g2,g3,g4,g5,g6,g7⟩:=Vf ho
 have hl:=faultS_len (f:=f) (w:=w)
 have hg0:0≤w.Scores.getD f.Player.toNat 0:=by
  rw[Gqc]
  cases hx:w.Scores[f.Player.toNat]? with
  |none=>simp
  |some x=>exact (hs x (Gqq hx)).1
 have hm:∀ x∈(faultS f w).Scores,0≤x∧x≤1000000:=fun x hx=>by
  rcases Gxv hx with h1 | h1
  ·exact hs x h1
  ·rw[h1]; omega
 refine⟨worldOk_T ⟨g1,g2,g3,by rw[hl]; exact g4,Gqm.2 fun x hx=>Za.2 (hm x hx),by rw[hl]; exact g6,by rw[hl]; exact g7⟩,?_⟩
 obtain⟨⟨a1,a2,a3,a4,a5⟩,b1,b2,b3⟩:=hw
 exact⟨⟨a1,a2,a3,⟨by rw[hl]; exact a4.1,fun x hx=>by have:=hm x hx; exact⟨by omega,by omega⟩⟩,a5⟩,b1,by rw[hl]; exact b2,b3⟩
structure Fit (n:Nat) (l:TLevel) (w:TWorld):Prop where
 wi:WorIn w
 ok:worldOk w=true
 sn:w.Scores.length=n
 lv:w.Level=l
theorem Fit.step {n:Nat} {l:TLevel} {w:TWorld} (h:Fit n l w) (row:List Int):Fit n l (stepW w row) :=
 ⟨step_in h.wi,stepW_ok h.wi.gd h.ok,(K5 h.wi.gd).2.1.trans h.sn,by rw[K6]; exact h.lv⟩
theorem Fit.stepF {n:Nat} {l:TLevel} {w:TWorld} (h:Fit n l w) (row:List Int) (f:TFault):Fit n l (Go.Proofs.YtoecjaohdnoenaaGreat.stepF w row f):=by
 have h1:=h.step row
 unfold Go.Proofs.YtoecjaohdnoenaaGreat.stepF
 split
 ·rename_i hd
  obtain⟨k1,_,_⟩:=hd
  unfold faultOk at k1
  simp only[Gqi,Za] at k1
  have h2:=fault_fit h1.wi h1.ok (f:=f) (by omega)
  exact⟨h2.2,h2.1,faultS_len.trans h1.sn,h1.lv⟩
 ·exact h1
theorem least_le {l:List TTrack}:∀ m k,k<m→leastK l m≤lenAt l k
 |0,k,h=>by omega
 |m+1,k,h=>by
  rw[leastK]
  rcases Nat.eq_or_lt_of_le (Nat.le_of_lt_succ h) with e | e
  ·subst e; exact Nat.min_le_right _ _
  ·exact Gxg (Nat.min_le_left _ _) (least_le m k e)
theorem known_all {l:List TTrack} {k:Nat} (h:k<knownTicks l):∀ x∈l,k<x.Inputs.length:=fun x hx=>by
 unfold knownTicks at h
 split at h
 ·obtain⟨i,hi,rfl⟩:=List.getElem_of_mem hx
  have h1:=least_le (l:=l) l.length i hi
  rw[lenAt_is hi] at h1
  omega
 ·omega
theorem rowAt_gd {l:List TTrack} (g:Enc.gd l) (k:Nat):Enc.gd (rowAt l k):=by
 refine⟨by have:=g.1; simpa[rowAt] using this,fun x hx => ?_⟩
 obtain⟨y,hy,rfl⟩:=Gqt.1 hx
 have hy2:=(g.2 y hy)
 unfold inAt
 rw[Gqc]
 cases hz:y.Inputs[k]? with
 |none=>exact⟨by simp,by simp⟩
 |some z=>exact hy2.2 z (Gqq hz)
theorem S_Predict (x:TTrack) (t:Nat) (g:Enc.gd x) (ho:trackOk x=true) (ht:t<x.Inputs.length):Con Tryz.prog 235 [] [ag x,ai t] [] (I (inAt t x)):=by
 have hl:=Yx x.Inputs
 have hat:=Yv ht
 have c1:=S_TrackOk x g
 rw[ho] at c1
 have f1:decide ((t:Int)<0)=false:=Gqa (by omega)
 have f2:decide ((t:Int)<((els x.Inputs).length:Int))=true:=Gqb (by omega)
 have e:inAt t x=x.Inputs[t]:=by simp[inAt,Gqc,ht]
 rw[e]
 refine Con.of Tryz.func235 J Tryz.ntmps235 J (fun E => ?_)
 refine Wz [82,23,7,2,155,14] ?_;refine zx (Qj J J (c1) J) J ?_;refine Wz [9,19,12,6,108,13,12,2,83,52,59,135,174,64] ?_
 exact Gb J (Gc [] J J J)
theorem S_RowAt (l:List TTrack) (t:Nat) (g:Enc.gd l) (ho:tracksOk l=true) (htk:t<knownTicks l) (h1000:t≤1000):Con Tryz.prog 188 [] [al l,ai t] [.row 1 (els (rowAt l t))] (.tu [.c (.ref 0),.c (bv true)]):=by
 have hl:=Yx l
 have ht:=known_all htk
 have c1:=S_TracksOk l g
 have c3:=S_KnownTicks l g
 rw[ho] at c1
 have h4:=Va ho
 have f1:decide ((t:Int)<0)=false:=Gqa (by omega)
 have f4:decide ((t:Int)<((knownTicks l:Nat):Int))=true:=Gqb (by omega)
 have hrl:(rowAt l t).length=l.length:=by simp[rowAt]
 refine Con.of Tryz.func188 J Tryz.ntmps188 J (fun E => ?_)
 refine Wz [4,38,2,4,175,78] ?_;refine zx (Qj J J (c1) J) J ?_;refine Wz [9,19,12,60,46] ?_;refine Xj (fun m st=>∃ k:Nat,k+m=l.length∧(True)∧st=(⟨_,[(0,L l),(1,I t),(6,.o (.c (.ref 0))),(7,I k)],[.row 1 (els ((rowAt l t).take k))]⟩:St)) (l.length) ⟨_,⟨0,by omega,trivial,J⟩,Gi [0]⟩ ?_
 rintro m_A _ ⟨k,hk_A,hp_A,rfl⟩
 have hl2:(els ((rowAt l t).take k)).length=k:=by rw[Yx]; simp; omega
 by_cases h3:k<l.length
 ·have f2:decide ((k:Int)<((els l).length:Int))=true:=Gqb (by omega)
  have hat:=Yv h3
  have hm:=Gqj h3
  have htk:=ht _ hm
  have c2:=S_Predict l[k] t (g.2 _ hm) (all_at ho h3) htk
  refine Wz [20,7,75,11,33,132,110,131,0] ?_;refine zx (Qj J J (c2) J) J ?_;refine Wz [101,194,104] ?_
  exact⟨l.length-(k+1),by omega,(fun k:Nat=>(⟨_,[(0,L l),(1,I t),(6,.o (.c (.ref 0))),(7,I k)],[.row 1 (els ((rowAt l t).take k))]⟩:St)) (k+1),⟨k+1,by omega,trivial,J⟩,Ga [0] J (Kw (rowAt_next h3)) (.c J (.c J (.c J (.c J (.nil)))))⟩
 have f2:decide ((k:Int)<((els l).length:Int))=false:=Gqa (by omega)
 have hk:(rowAt l t).take k=rowAt l t:=Gq3 (by omega)
 rw[hk]
 refine Wz [20,7,12,76,27,99] ?_;refine zx (Qj J J (c3) J) J ?_;refine Wz [12,38,17] ?_
 exact Xq J J J (Gc [0] J J J)
end
section
open Go.RowKit

def cntW (x:TWorld) (k:Int):Int:=k+x.Level.Rows.length+x.Scores.length+9*x.Bodies.length
def markW (x:TWorld) (k:Int):TWorld:=⟨⟨markS x.Level.Rows k⟩,x.Tick,x.Seed,markI x.Scores (k+x.Level.Rows.length),markB x.Bodies (k+x.Level.Rows.length+x.Scores.length)⟩
theorem L_markWorld (x:TWorld) (k:Int) (h1:x.Level.Rows.length≤1048576) (h2:x.Scores.length≤1048576) (h3:x.Bodies.length≤1048576) (h0:0<k) (hk:k≤1073741823):Con Tryz.prog 49 [.row 1 (els x.Level.Rows),.row 1 (els x.Scores),.row 9 (els x.Bodies),.gh 0 (.ag (ownV 0 (Enc.e x)))] [.ag (ownV 0 (Enc.e x)),ai k]
  [.row 1 (els (markW x k).Level.Rows),.row 1 (els (markW x k).Scores),.row 9 (els (markW x k).Bodies),.gh 0 (.ag (ownV 0 (Enc.e x)))] (I (cntW x k)):=by
 refine Con.of Tryz.func49 J Tryz.ntmps49 J (fun E => ?_)
 refine Wz [82,120] ?_;refine Xd (lo := [_]) (gs := [(0,.ag [.ref 0])]) (lo' := [_]) (new := []) [0] [(0,0,.ref 0)] (L_markLevel x.Level.Rows k h1 h0 (by omega)) J J J J J J J J J J J J J J J J J ?_;refine Wz [2,52] ?_;refine Xd (lo := [_]) (gs := [(0,.c (.ref 0))]) (lo' := [_]) (new := []) [1] [(0,0,.ref 0)] (L_markIntS x.Scores (k+x.Level.Rows.length) (by omega) (by omega) (by omega)) J J J J J J J J J J J J J J J J J ?_;refine Wz [2,52] ?_;refine Xd (lo := [_]) (gs := [(0,.c (.ref 0))]) (lo' := [_]) (new := []) [2] [(0,0,.ref 0)] (L_markBodyS x.Bodies (k+x.Level.Rows.length+x.Scores.length) h3 (by omega) (by omega)) J J J J J J J J J J J J J J J J J ?_;refine Wz [49,17] ?_
 exact Gb J (Gc [0,1,2,3] J J J)
end
end Go.Proofs.YtoecjaohdnoenaaGreat
