/-
  Rules, data and contracts of functions: part 28 of the proof.
  Conditions: those that each theorem names.
-/
import Derived.Test.YtalaljeokcpfnaaGreatDDPlayRowk26
set_option linter.unusedSimpArgs false
set_option linter.unusedVariables false
set_option maxRecDepth 8000
set_option maxHeartbeats 8000000
namespace Go.Proofs.YtalaljeokcpfnaaGreat
section
open Go.RowKit

theorem metF_congr {bs bs':List TBody} {b:TBody} {o:Int}:∀ {n:Nat},(∀ k,k<n→bs[k]? = bs'[k]?)→metF bs b o n=metF bs' b o n
 |0,_=>rfl
 |n+1,h=>by
  have h1:metC bs b o n=metC bs' b o n:=by simp only[metC,h n Aqa]
  rw[metF,metF,metF_congr (fun k hk=>h k Aqa),h1]
def hitB (p:TBody):TBody:=⟨p.Kind,p.Owner,p.X,p.Y,if p.Life-1=0 then 0 else p.VX,if p.Life-1=0 then 0 else p.VY,p.Aim,p.Life-1,if p.Life-1=0 then 20 else p.Timer⟩
def shGone (n:Nat) (bs:List TBody) (b:TBody):Bool:=decide (b.Kind=1)&&(metF bs b b.Owner n).isSome
def shOne (n:Nat) (s:List TBody×List Int) (b:TBody):List TBody×List Int :=
 if b.Kind=1 then match metF s.1 b b.Owner n with
  |none=>s
  |some k=>match s.1[k]? with
   |none=>s
   |some p=>(s.1.set k (hitB p),if p.Life-1=0 then addM s.2 b.Owner.toNat else s.2)
 else s
def shS (n:Nat) (t:List TBody) (s:List TBody×List Int):Nat→List TBody×List Int
 |0=>s
 |j+1=>match t[j]? with
  |none=>shS n t s j
  |some b=>shOne n (shS n t s j) b
def shF (n:Nat) (t:List TBody) (s:List TBody×List Int) (j:Nat):Bool:=match t[j]? with
 |none=>false
 |some b=>shGone n (shS n t s j).1 b
def shL (n:Nat) (t:List TBody) (s:List TBody×List Int):Nat→List TBody
 |0 => []
 |j+1=>match t[j]? with
  |none=>shL n t s j
  |some b=>if shGone n (shS n t s j).1 b=true then shL n t s j else shL n t s j ++ [b]
def itHit (n:Nat) (bs:List TBody) (b:TBody):Bool:=decide (b.Kind=2)&&(metF bs b (-1) n).isSome
def itOne (n:Nat) (bs:List TBody) (ss:List Int) (b:TBody):List Int :=
 if b.Kind=2 then match metF bs b (-1) n with
  |none=>ss
  |some k=>addM ss k
 else ss
def itS (n:Nat) (bs t:List TBody) (ss:List Int) (j:Nat):List Int:=(t.take j).foldl (itOne n bs) ss
def itL (n:Nat) (bs t:List TBody) (j:Nat):List TBody:=(t.take j).filter fun b => !itHit n bs b
def keepR (n:Nat) (t:List TBody) (s:List TBody×List Int) (bs:List TBody):Nat→List TBody
 |0 => []
 |j+1=>match t[j]? with
  |none=>keepR n t s bs j
  |some b=>if (shF n t s j || itHit n bs b)=true then keepR n t s bs j else keepR n t s bs j ++ [b]
section
variable {l:TLevel} {n k j:Nat} {t bs bs0 lf:List TBody} {ss ss0:List Int} {s:List TBody×List Int} {b p:TBody}
theorem sh_skip (ht:t[j]? = some b) (hk:¬b.Kind=1) (hs:(bs,ss)=shS n t s j) (hl:lf=shL n t s j):(bs,ss)=shS n t s (j+1)∧lf ++ [b]=shL n t s (j+1)∧shF n t s j=false:=by
 have hg:shGone n (shS n t s j).1 b=false:=by rw[shGone,Gqa hk,Bool.false_and]
 refine⟨by rw[shS,ht]; simp only[shOne,if_neg hk]; exact hs,by rw[shL,ht]; simp only[hg]; rw[←hl]; rfl,by rw[shF,ht]; exact hg⟩
theorem sh_miss (ht:t[j]? = some b) (hm:metF bs b b.Owner n=none) (hs:(bs,ss)=shS n t s j) (hl:lf=shL n t s j):(bs,ss)=shS n t s (j+1)∧lf ++ [b]=shL n t s (j+1)∧shF n t s j=false:=by
 have hm2:metF (shS n t s j).1 b b.Owner n=none:=by rw[←hs]; exact hm
 have hg:shGone n (shS n t s j).1 b=false:=by rw[shGone,hm2]; simp
 refine⟨?_,by rw[shL,ht]; simp only[hg]; rw[←hl]; rfl,by rw[shF,ht]; exact hg⟩
 have h1:shOne n (bs,ss) b=(bs,ss):=by
  simp only[shOne,hm]
  split <;> rfl
 rw[shS,ht]
 simp only
 rw[←hs,h1]
theorem sh_hit (ht:t[j]? = some b) (hk:b.Kind=1) (hm:metF bs b b.Owner n=some k) (hp:bs[k]? = some p) (hs:(bs,ss)=shS n t s j) (hl:lf=shL n t s j):(bs.set k (hitB p),if p.Life-1=0 then addM ss b.Owner.toNat else ss)=shS n t s (j+1)∧lf=shL n t s (j+1)∧shF n t s j=true:=by
 have hm2:metF (shS n t s j).1 b b.Owner n=some k:=by rw[←hs]; exact hm
 have hg:shGone n (shS n t s j).1 b=true:=by rw[shGone,hm2,Gqb hk]; rfl
 refine⟨?_,by rw[shL,ht]; simp only[hg,if_true]; exact hl,by rw[shF,ht]; exact hg⟩
 rw[shS,ht]
 simp only[shOne,if_pos hk,hm2]
 rw[←hs]
 simp only[hp]
theorem shL_le:∀ j,(shL n t s j).length≤j
 |0=>Gqi _
 | j+1=>by
  have:=shL_le j
  rw[shL]
  split
  ·omega
  ·split
   ·omega
   ·rw[Gql]; simp; omega
theorem shL_sub:∀ j,∀ b∈shL n t s j,b∈t
 |0,b,hb=>by cases hb
 | j+1,b,hb=>by
  rw[shL] at hb
  split at hb
  ·exact shL_sub j b hb
  ·rename_i c hc
   split at hb
   ·exact shL_sub j b hb
   ·rcases Gqs.1 hb with h | h
    ·exact shL_sub j b h
    ·rw[Gxd] at h; subst h; exact Gqn hc
theorem addM_len {ss:List Int} {k:Nat}:(addM ss k).length=ss.length:=by unfold addM; split <;> simp
theorem addM_rng {ss:List Int} {k:Nat} (h:∀ x∈ss,0≤x∧x≤1000000):∀ x∈addM ss k,0≤x∧x≤1000000:=by
 intro x hx
 unfold addM at hx
 split at hx
 ·exact h x hx
 ·rename_i s hs
  rcases Gxv hx with h1 | h1
  ·exact h x h1
  ·have:=h s (Gqn hs); omega
theorem BM.hit (h:BM l n p) (hl:0<p.Life):BM l n (hitB p):=by
 obtain⟨hk,ho,hp,hvx,hvy,hf⟩:=h
 refine⟨hk,ho,hp,?_,?_,?_⟩
 ·simp only[hitB]; split <;> omega
 ·simp only[hitB]; split <;> omega
 ·simp only[hitB]; omega
structure SI (l:TLevel) (n:Nat) (bs0:List TBody) (s:List TBody×List Int):Prop where
 lm:LM l n s.1
 len:s.1.length=bs0.length
 tl:∀ k,n≤k→s.1[k]? = bs0[k]?
 sl:s.2.length=n
 sc:∀ x∈s.2,0≤x∧x≤1000000
theorem SI.one (h:SI l n bs0 s) (b:TBody):SI l n bs0 (shOne n s b):=by
 unfold shOne
 split
 ·split
  ·exact h
  ·rename_i k hk
   obtain⟨h1,h2⟩:=metF_lt hk
   obtain⟨p,hp,hlf,_,_⟩:=metC_life h2
   rw[hp]
   have hB:=h.lm.at_ k p hp
   refine⟨h.lm.set hp (hB.1.hit hlf) J,by simp[h.len],fun j hj=>by simp only; rw[Gxa Aqa]; exact h.tl j hj,?_,?_⟩
   ·simp only
    split
    ·rw[addM_len]; exact h.sl
    ·exact h.sl
   ·simp only
    split
    ·exact addM_rng h.sc
    ·exact h.sc
 ·exact h
theorem SI.all (h:SI l n bs0 s) (t:List TBody):∀ j,SI l n bs0 (shS n t s j)
 |0=>h
 |j+1=>by
  rw[shS]
  split
  ·exact SI.all h t j
  ·exact (SI.all h t j).one _
theorem SI.start (h:LM l n bs) (h1:ss.length=n) (h2:∀ x∈ss,0≤x∧x≤1000000):SI l n bs (bs,ss):=⟨h,rfl,fun _ _=>rfl,h1,h2⟩
theorem LM.cut {c:List TBody} (h:LM l n bs) (hc:∀ b∈c,b∈bs.drop n) (hl:n+c.length≤24):LM l n (bs.take n++c):=by
 have hlen:=h.len
 refine⟨by rw[Gql,Gq4]; omega,fun k b hb=>?_⟩
 rw[List.getElem?_append,Gq4,Nat.min_eq_left hlen.1] at hb
 split at hb
 ·rename_i hk
  rw[List.getElem?_take_of_lt hk] at hb
  have:=h.at_ k b hb
  exact⟨this.1,this.2⟩
 ·rename_i hk
  obtain⟨j,hj⟩:=List.getElem?_of_mem (hc b (Gqn hb))
  rw[Gq7] at hj
  have:=h.at_ _ _ hj
  exact⟨this.1,fun e=>by have:=this.2.1 e; omega,fun e=>absurd e hk⟩
theorem it_skip (ht:t[j]? = some b) (hk:¬b.Kind=2) (hs:ss=itS n bs t ss0 j) (hl:lf=itL n bs t j):ss=itS n bs t ss0 (j+1)∧lf ++ [b]=itL n bs t (j+1)∧itHit n bs b=false:=by
 obtain⟨hj,rfl⟩:=Gqo.1 ht
 have hg:itHit n bs t[j]=false:=by rw[itHit,Gqa hk,Bool.false_and]
 refine⟨?_,?_,hg⟩
 ·rw[itS,Gxb hj,List.foldl_append,←itS,←hs]
  simp only[List.foldl_cons,List.foldl_nil,itOne,if_neg hk]
 ·rw[itL,Gxb hj,List.filter_append,←itL,←hl]
  simp[hg]
theorem it_miss (ht:t[j]? = some b) (hm:metF bs b (-1) n=none) (hs:ss=itS n bs t ss0 j) (hl:lf=itL n bs t j):ss=itS n bs t ss0 (j+1)∧lf ++ [b]=itL n bs t (j+1)∧itHit n bs b=false:=by
 obtain⟨hj,rfl⟩:=Gqo.1 ht
 have hg:itHit n bs t[j]=false:=by rw[itHit,hm]; simp
 refine⟨?_,?_,hg⟩
 ·rw[itS,Gxb hj,List.foldl_append,←itS,←hs]
  simp only[List.foldl_cons,List.foldl_nil,itOne,hm]
  split <;> rfl
 ·rw[itL,Gxb hj,List.filter_append,←itL,←hl]
  simp[hg]
theorem it_hit (ht:t[j]? = some b) (hk:b.Kind=2) (hm:metF bs b (-1) n=some k) (hs:ss=itS n bs t ss0 j) (hl:lf=itL n bs t j):addM ss k=itS n bs t ss0 (j+1)∧lf=itL n bs t (j+1)∧itHit n bs b=true:=by
 obtain⟨hj,rfl⟩:=Gqo.1 ht
 have hg:itHit n bs t[j]=true:=by rw[itHit,hm,Gqb hk]; rfl
 refine⟨?_,?_,hg⟩
 ·rw[itS,Gxb hj,List.foldl_append,←itS,←hs]
  simp only[List.foldl_cons,List.foldl_nil,itOne,if_pos hk,hm]
 ·rw[itL,Gxb hj,List.filter_append,←itL,←hl]
  simp[hg]
theorem itOne_ok (h1:ss.length=n) (h2:∀ x∈ss,0≤x∧x≤1000000) (b:TBody):(itOne n bs ss b).length=n∧∀ x∈itOne n bs ss b,0≤x∧x≤1000000:=by
 unfold itOne
 split
 ·split
  ·exact⟨h1,h2⟩
  ·exact⟨by rw[addM_len]; exact h1,addM_rng h2⟩
 ·exact⟨h1,h2⟩
theorem itF_ok:∀ (t:List TBody) {ss:List Int},ss.length=n→(∀ x∈ss,0≤x∧x≤1000000)→(t.foldl (itOne n bs) ss).length=n∧∀ x∈t.foldl (itOne n bs) ss,0≤x∧x≤1000000
 | [],_,h1,h2=>⟨h1,h2⟩
 |b::t,_,h1,h2=>by
  have:=itOne_ok (bs:=bs) h1 h2 b
  exact itF_ok t this.1 this.2
theorem itS_ok (h1:ss.length=n) (h2:∀ x∈ss,0≤x∧x≤1000000):(itS n bs t ss j).length=n∧∀ x∈itS n bs t ss j,0≤x∧x≤1000000:=itF_ok _ h1 h2
theorem itL_le:(itL n bs t j).length≤j:=by
 have:=List.length_filter_le (fun b => !itHit n bs b) (t.take j)
 rw[itL]
 rw[Gq4] at this
 omega
theorem keep_eq:∀ j,(shL n t s j).filter (fun b => !itHit n bs b)=keepR n t s bs j
 |0=>rfl
 | j+1=>by
  have ih:=keep_eq j
  rw[shL,keepR,shF]
  cases t[j]? with
  |none=>exact ih
  | some b =>
   simp only
   by_cases hg:shGone n (shS n t s j).1 b=true
   ·rw[if_pos hg,if_pos (by rw[hg]; rfl),ih]
   ·have hg':shGone n (shS n t s j).1 b=false:=by simpa using hg
    have hc:(shGone n (shS n t s j).1 b || itHit n bs b)=itHit n bs b:=by rw[hg',Bool.false_or]
    by_cases h:itHit n bs b=true
    ·rw[if_neg hg,if_pos (by rw[hc]; exact h),List.filter_append,ih]
     simp[h]
    ·rw[if_neg hg,if_neg (by rw[hc]; exact h),List.filter_append,ih]
     simp[h]
theorem keepR_le:∀ j,(keepR n t s bs j).length≤j
 |0=>Gqi _
 | j+1=>by
  have:=keepR_le j
  rw[keepR]
  split
  ·omega
  ·split
   ·omega
   ·rw[Gql]; simp; omega
theorem fold_eq:∀ j,(shL n t s j).foldl (itOne n bs) ss=(t.take j).foldl (itOne n bs) ss
 |0=>rfl
 | j+1=>by
  rw[shL]
  cases h:t[j]? with
  |none =>
   simp only
   have:=List.getElem?_eq_none_iff.1 h
   rw[fold_eq j,Gqj Aqa,Gqj Aqa]
  | some b =>
   obtain⟨hj,rfl⟩:=Gqo.1 h
   simp only
   rw[Gxb hj,List.foldl_append]
   cases hg:shGone n (shS n t s j).1 t[j] with
   |true =>
    rw[if_pos rfl,fold_eq j]
    have hk:t[j].Kind=1:=by rw[shGone,Gqh,decide_eq_true_eq] at hg; exact hg.1
    simp only[List.foldl_cons,List.foldl_nil,itOne]
    rw[if_neg Aqa]
   |false=>rw[if_neg Aqd,List.foldl_append,fold_eq j]
end
def hitsP (n:Nat) (bs:List TBody) (ss:List Int):List TBody×List Int :=
 let s:=shS n (bs.drop n) (bs,ss) (bs.drop n).length
 let b:=s.1.take n++shL n (bs.drop n) (bs,ss) (bs.drop n).length
 (b.take n++itL n b (b.drop n) (b.drop n).length,itS n b (b.drop n) s.2 (b.drop n).length)
def hitsR (n:Nat) (bs:List TBody) (ss:List Int):List TBody×List Int :=
 let t:=bs.drop n
 let s:=shS n t (bs,ss) t.length
 (s.1.take n++keepR n t (bs,ss) s.1 t.length,itS n s.1 t s.2 t.length)
theorem hits_eq {l:TLevel} {n:Nat} {bs:List TBody} {ss:List Int} (h:LM l n bs) (h1:ss.length=n) (h2:∀ x∈ss,0≤x∧x≤1000000):hitsP n bs ss=hitsR n bs ss:=by
 have hS:=(SI.start h h1 h2).all (bs.drop n) (bs.drop n).length
 obtain⟨s,hs⟩:∃ s,s=shS n (bs.drop n) (bs,ss) (bs.drop n).length:=⟨_,rfl⟩
 obtain⟨c,hc⟩:∃ c,c=shL n (bs.drop n) (bs,ss) (bs.drop n).length:=⟨_,rfl⟩
 rw[←hs] at hS
 have hlen:=hS.lm.len
 have e1:(s.1.take n++c).take n=s.1.take n:=by
  rw[List.take_append_of_le_length Bxp,List.take_take,Nat.min_self]
 have e2:(s.1.take n++c).drop n=c:=by
  rw[List.drop_append_of_le_length Bxp,List.drop_of_length_le Bxp,List.nil_append]
 have e3:∀ b o,metF (s.1.take n++c) b o n=metF s.1 b o n:=fun b o=>metF_congr fun k hk=>by
  rw[Gq2 Bxp,List.getElem?_take_of_lt hk]
 have e4:itHit n (s.1.take n++c)=itHit n s.1:=by
  funext b
  rw[itHit,itHit,e3]
 have e5:itOne n (s.1.take n++c)=itOne n s.1:=by
  funext ss b
  rw[itOne,itOne,e3]
 simp only[hitsP,hitsR,←hs,←hc,e1,e2,itL,itS,Gxs,e4,e5]
 congr 1
 ·congr 1
  rw[hc,keep_eq]
 ·rw[hc,fold_eq,Gxs]
end
section
open Tryz
open Go.RowKit

theorem rwBo {a b c:Ob} {t:List Ob} {k:Nat} {x y:List (List T)} (h:x=y):a::b::c::Ob.row k x::t=a::b::c::Ob.row k y::t:=by rw[h]
theorem pl_next {l:TLevel} {row:List Int} {bs0 bs:List TBody} {k:Nat} {b:TBody} {i:Int} (h:bs=plM l row bs0 k) (hb:bs[k]? = some b) (hi:row[k]? = some i):plM l row bs0 (k+1)=plOne l i k bs b:=by
 rw[plM,←h,hb,Gqf,hi]; rfl
structure PH (w:TWorld) (row:List Int):Prop where
 hg:Enc.gd w.Level
 gb:∀ b∈w.Bodies,Enc.gd b
 hl:levelOk w.Level=true
 n4:1≤w.Scores.length∧w.Scores.length≤4
 len:w.Scores.length≤w.Bodies.length∧w.Bodies.length≤24
 bs:bodiesOk w.Level w.Scores.length w.Bodies
 rl:row.length=w.Scores.length
 ri:∀ i∈row,0≤i∧i≤15
theorem I_stepPlayers (w:TWorld) (row:List Int) (h:PH w row):Co 240 [.box [Aqk 1,jn w.Tick,jn w.Seed,Aqk 2,Aqk 3],.row 1 (els w.Level.Rows),.row 1 (els w.Scores),.row 9 (els w.Bodies),.gh 0 (.c (.ptr 0 0))] [.c (.ptr 0 0),al row] [.box [Aqk 1,jn w.Tick,jn w.Seed,Aqk 2,Aqk 3],.row 1 (els w.Level.Rows),.row 1 (els w.Scores),.row 9 (els (plM w.Level row w.Bodies w.Scores.length)),.gh 0 (.c (.ptr 0 0))] (.tu []):=by
 obtain⟨hg,gb,hl,hn4,hlen,hbo,hrl,hri⟩:=h
 have hls:=Y7 w.Scores
 have hlr:=Y7 row
 refine Con.o func240 ntmps240 fun E=>?_;refine Wz [11,61,31,33,138,34] ?_;refine Xj (fun m st=>∃ (k:Nat) (bs:List TBody),k+m=w.Scores.length∧(bs=plM w.Level row w.Bodies k)∧st=(⟨_,[(0,Aqf 0),(1,L row),(12,I (els w.Scores).length),(13,I k)],[.box [Aqk 1,jn w.Tick,jn w.Seed,Aqk 2,Aqk 3],.row 1 (els w.Level.Rows),.row 1 (els w.Scores),.row 9 (els bs),.gh 0 (.c (.ptr 0 0))]⟩:St)) (w.Scores.length) ⟨_,⟨0,w.Bodies,Aqa,J,J⟩,Yj [0,1,2,3,4] Aqb⟩ ?_
 rintro m_A _ ⟨k,bs,hk_A,hp_A,rfl⟩
 by_cases hlt:k<w.Scores.length
 ·have hb0:decide ((k:Int)<(els w.Scores).length)=true:=Gqb Aqa 
  have hP:=P1.all hl hn4.2 hlen hbo row k Aqa 
  rw[←hp_A] at hP
  have hln:=hP.lm.len
  obtain⟨b,hb⟩:=Ua (xs:=bs) (i:=k) Aqa 
  have hold:=hP.old k (Gqi _) hlt
  have hI:=old_at hbo (by rw[←hold]; exact hb) hlt
  have hB:=(hP.lm.at_ k b hb).1
  obtain⟨hpl,hpx,hpy⟩:=hB.placed hl
  obtain⟨i,hi⟩:=Ua (xs:=row) (i:=k) Aqa 
  have hir:=hri i (Gqn hi)
  have hnx:=pl_next hp_A hb hi
  have he:=Za hb
  have her:=Za hi
  have hlb:=Y7 bs
  have htm:=hI.tm
  by_cases hf:b.Life=0
  ·have f1:decide (b.Life=0)=true:=Gqb hf
   rw[plOne,if_pos hf] at hnx
   by_cases ht:b.Timer-1=0
   ·have f2:decide (b.Timer-1=0)=true:=Gqb ht
    rw[if_pos ht] at hnx
    have cf:=I_fresh w.Level k hg hl ⟨Aqa,Aqa⟩
    refine Wz [3,19,1,4,117,9,11,44,61,68,106,290,91,4,18,20,32,18,29,52,4,18,20,32,27,61,154,0] ?_;refine kc1 cf ?_;refine Wz [39,4] ?_;refine AWP.kp [0,1,1,0,4,0,5,6,12,0,13,0] [] 6 [(0,.box [Aqk 1,jn w.Tick,jn w.Seed,Aqk 2,Aqk 3]),(5,.box ((Enc.e (fresh w.Level k)).map (V1.rd [])))] ?_;refine Xi u8_43 u8_44 u8_45 J ?_;refine Wz [17,128,67,136,129,12] ?_;refine AL.kp [0,1,1,0,12,0,13,0] [(45,.o (.c (.el 3 9 k 0))),(44,.o (.ag ((Enc.e (fresh w.Level k)).map (V1.rd []))))] 5 [(0,.box [Aqk 1,jn w.Tick,jn w.Seed,Aqk 2,Aqk 3])] ?_;refine Wz [206,1,190,191,256] ?_
    exact⟨w.Scores.length-(k+1),Aqa,_,⟨k+1,bs.set k (fresh w.Level k),Aqa,hnx.symm,J⟩,(by rw[Y9]; exact Yj [0,1,2,3,4] Aqb)⟩
   ·have f2:decide (b.Timer-1=0)=false:=Gqa ht
    rw[if_neg ht] at hnx
    refine Wz [3,19,1,4,117,9,11,44,61,68,106,290,91,4,18,20,32,18,29,52,4,18,20,135] ?_;refine AWP.kp [0,1,1,0,4,0,5,6,12,0,13,0] [] 6 [(0,.box [Aqk 1,jn w.Tick,jn w.Seed,Aqk 2,Aqk 3]),(5,.box ((Enc.e (tick1 b)).map (V1.rd [])))] ?_;refine Xi u8_43 u8_44 u8_45 J ?_;refine Wz [17,128,67,136,129,12] ?_;refine AL.kp [0,1,1,0,12,0,13,0] [(45,.o (.c (.el 3 9 k 0))),(44,.o (.ag ((Enc.e (tick1 b)).map (V1.rd []))))] 5 [(0,.box [Aqk 1,jn w.Tick,jn w.Seed,Aqk 2,Aqk 3])] ?_;refine Wz [206,1,190,191,256] ?_
    exact⟨w.Scores.length-(k+1),Aqa,_,⟨k+1,bs.set k (tick1 b),Aqa,hnx.symm,J⟩,(by rw[Y9]; exact Yj [0,1,2,3,4] Aqb)⟩
  ·have f1:decide (b.Life=0)=false:=Gqa hf
   rw[plOne,if_neg hf] at hnx
   have hfl:=hB.f
   obtain⟨c,f,hcf⟩:∃ c f,(c,f)=steer w.Level b i:=⟨_,_,rfl⟩
   have cs:=I_SteerPlayer w.Level b i hg hl (gb b (Gqn (by rw[←hold]; exact hb))) hI.kd ⟨hB.o.1,by have:=hB.o; omega⟩ Aqa hir hI.bm ⟨Aqa,Aqa⟩ hB.vy (by have:=hB.p; rw[hI.kd] at this; exact this)
   have hca:=steer_aim (l:=w.Level) (i:=i) hI.am
   have hcx:(steer w.Level b i).1.X=b.X∧(steer w.Level b i).1.Y=b.Y:=⟨rfl,rfl⟩
   rw[←hcf] at cs hnx hca hcx
   simp only at cs hnx hca hcx
   have csh:=I_ShotOf c (by rw[hcx.1]; exact hpl.x) (by rw[hcx.2]; exact hpl.y) Aqa 
   have hlc:(els (bs.set k c)).length=bs.length:=by rw[Y7,Gqu]
   clear hcf hca hcx
   refine Wz [3,19,1,4,117,9,11,44,61,68,106,290,91,4,18,20,135] ?_;refine AWP.kp [0,1,1,0,4,0,5,6,12,0,13,0] [] 6 [(0,.box [Aqk 1,jn w.Tick,jn w.Seed,Aqk 2,Aqk 3]),(5,.box (Aqi b))] ?_;refine Xi (tt [[],[0,1],[0,2],[0,3],[],[],[],[5,2],[5,3],[0,9],[0,10],[0,11],[0,11],[],[0,12,13,1],[0,15]]) (tt [[],[47,1],[47,2],[47,3],[],[],[],[52,2],[52,3],[47,9],[47,10],[46,11],[46,11],[],[6,1,46,12],[6,1,46,13]]) (tt [[6,1,51,5],[6,1,51,5],[6,1,51,5],[6,1,51,5],[6,1,47,4,52,4],[6,1,47,5,53,1],[6,1,47,6],[6,1,47,5],[6,1,47,5],[6,1],[6,1],[6,1,58,1],[6,1,57,1],[46,13],[58,1],[],[12,1]]) J ?_;refine Wz [17,128,145,136,136,35,64] ?_;refine Uq (Kr J J (cs) J J J) J ?_;refine Wz [229,166,166,221,12] ?_;refine AL.kr [0,1,1,0,4,0,6,6,58,0,12,0,13,0] [(57,.o (.ag (Aqi c)))] [0,1,2,3,4,6] [(0,.box [Aqk 1,jn w.Tick,jn w.Seed,Aqk 2,Aqk 3]),(6,.box [jn 0,jn 0,jn 0,jn 0,jn 0,jn 0,jn 0,jn 0,jn 0])] ?_;refine Wz [47,16] ?_;refine AWP.kp [0,1,1,0,4,0,6,6,7,0,12,0,13,0] [] 6 [(0,.box [Aqk 1,jn w.Tick,jn w.Seed,Aqk 2,Aqk 3]),(5,.box (Aqi c))] ?_;refine Xi u8_43 (tt [[],[59,1],[59,2],[59,3],[],[],[59,6],[59,7]]) (tt [[63,2],[63,2],[63,2],[63,2],[59,4,64,1],[59,5],[],[]]) J ?_;refine Wz [17,128,67,136,129,12] ?_;refine AL.kp [0,1,1,0,6,6,7,0,12,0,13,0] [(65,.o (.c (.el 3 9 k 0))),(64,.o (.ag (Aqi c)))] 6 [(0,.box [Aqk 1,jn w.Tick,jn w.Seed,Aqk 2,Aqk 3]),(5,.box (Aqi c))] ?_
   with_reducible refine Xe ?_
   refine Wz [206,1] ?_
   refine AWP.pre (st':=(⟨_,[(0,Aqf 0),(1,L row),(6,Aqf 5),(7,B f),(12,I (els w.Scores).length),(13,I k)],[.box [Aqk 1,jn w.Tick,jn w.Seed,Aqk 2,Aqk 3],.row 1 (els w.Level.Rows),.row 1 (els w.Scores),.row 9 (els (bs.set k c)),.gh 0 (.c (.ptr 0 0)),.box (Aqi c)]⟩:St)) ?_ (by rw[Y9]; exact Yj [0,1,2,3,4,5] Aqb)
   cases f with
   |false =>
    refine Wz [10,182,87,5,151,104] ?_
    exact⟨w.Scores.length-(k+1),Aqa,_,⟨k+1,bs.set k c,Aqa,(by rw[hnx]; rfl),J⟩,Yj [0,1,2,3,4] Aqb⟩
   | true =>
    by_cases h24:bs.length<24
    ·have f3:decide (((els (bs.set k c)).length:Int)<24)=true:=Gqb Aqa 
     rw[if_pos ⟨rfl,h24⟩] at hnx
     refine Wz [11,21,0,275,2,112,33,2,19,83] ?_;refine Xi u8_46 (tt [[],[],[76,1],[76,2],[76,3],[],[80,1],[80,2],[76,7],[75,9],[75,10],[75,11]]) (tt [[76,8],[75,1,80,3],[75,1,80,3],[75,1,80,3],[75,1,80,3],[75,5],[75,5],[75,5],[75,1],[],[],[],[0,1]]) J ?_;refine Wz [35,128,37,136] ?_;refine Uq (Kr J J (csh) J J J) J ?_;refine Wz [153,12] ?_;refine AL.kr [0,1,1,0,75,1,12,0,13,0] [(79,Aqg 3),(82,.o (.c (.sb 5 1 9)))] [0,1,2,3,4,6] [(0,.box [Aqk 1,jn w.Tick,jn w.Seed,Aqk 2,Aqk 3]),(3,.row 9 (els (bs.set k c))),(6,.box ((Enc.e (shotOf c)).map (V1.rd [])))] ?_;refine Wz [122,61,121,53,104] ?_
     exact⟨w.Scores.length-(k+1),Aqa,_,⟨k+1,bs.set k c ++ [shotOf c],Aqa,hnx.symm,J⟩,(by rw[Y3]; exact Yj [0,1,2,3,4] Aqb)⟩
    ·have f3:decide (((els (bs.set k c)).length:Int)<24)=false:=Gqa Aqa 
     rw[if_neg (fun q=>h24 q.2)] at hnx
     refine Wz [11,21,0,275,2,112,33,2,19,46,151,104] ?_
     exact Bjo
 ·have hb0:decide ((k:Int)<(els w.Scores).length)=false:=Gqa Aqa 
  have hk:k=w.Scores.length:=Aqa
  subst hk
  rw[←hp_A]
  refine Wz [3,19,1,4,90,180,181,220] ?_
  exact Bz1
end
section
open Go.RowKit

def itemB (x y:Int):TBody:=⟨2,0,x,y,0,0,0,0,0⟩
def isItem (x y:Int) (b:TBody):Bool:=decide (b.Kind=2∧b.X=x∧b.Y=y)
def itemAt (bs:List TBody) (x y:Int):Bool:=bs.any (isItem x y)
def spotOf (l:TLevel) (seed:Int):List Int:=(spotsM l).getD (belowR seed (spotsM l).length).toNat []
def lastM (l:TLevel) (tick seed:Int) (ss:List Int) (bs:List TBody):TWorld :=
 if tick%16≠0∨(spotsM l).length=0∨24≤bs.length then ⟨l,tick,seed,ss,bs⟩
 else if itemAt bs ((spotOf l seed).getD 0 0) ((spotOf l seed).getD 1 0)=true then ⟨l,tick,nextR seed,ss,bs⟩
 else ⟨l,tick,nextR seed,ss,bs ++ [itemB ((spotOf l seed).getD 0 0) ((spotOf l seed).getD 1 0)]⟩
noncomputable def movedM (w:TWorld) (row:List Int):List TBody:=mvM w.Level (plM w.Level row w.Bodies w.Scores.length)
noncomputable def tickM (w:TWorld) (row:List Int):TWorld :=
 lastM w.Level (w.Tick+1) (nextR w.Seed) (hitsR w.Scores.length (movedM w row) w.Scores).2 (hitsR w.Scores.length (movedM w row) w.Scores).1
noncomputable def stepW (w:TWorld) (row:List Int):TWorld:=if worldOk w=true∧w.Tick≠100000∧rowOk row w.Scores.length=true then tickM w row else w
theorem PH.of {w:TWorld} {row:List Int} (hg:Enc.gd w) (ho:worldOk w=true) (hr:rowOk row w.Scores.length=true):PH w row:=by
 obtain⟨gL,gT,gS,gSc,gB⟩:=hg
 obtain⟨hl,ht,hs,hn,hsc,hlen,hbo⟩:=Uj ho
 rw[rowOk,Gqh,decide_eq_true_eq] at hr
 refine⟨gL,gB.2,hl,hn,hlen,hbo,Aqa,fun i hi=>?_⟩
 have:=Gqp.1 hr.2 i hi
 exact Zm.1 this
theorem V5 {w:TWorld} (ho:worldOk w=true):∀ x∈w.Scores,0≤x∧x≤1000000:=fun x hx=>by
 obtain⟨_,_,_,_,hsc,_,_⟩:=Uj ho
 exact Zm.1 (Gqp.1 hsc x hx)
section
variable {w:TWorld} {row:List Int}
theorem PH.pl (h:PH w row):P1 w.Level w.Scores.length w.Bodies (plM w.Level row w.Bodies w.Scores.length) w.Scores.length:=P1.all h.hl h.n4.2 h.len h.bs row _ (Gqi _)
theorem PH.mv (h:PH w row):LM w.Level w.Scores.length (movedM w row):=h.pl.lm.move
end
section
variable {l:TLevel} {n:Nat} {bs:List TBody} {ss:List Int}
theorem SI.drop {bs0:List TBody} {s:List TBody×List Int} (h:SI l n bs0 s):s.1.drop n=bs0.drop n:=by
 apply List.ext_getElem?
 intro i
 rw[Gq7,Gq7]
 exact h.tl _ Aqa 
theorem SI.shots (h:LM l n bs) (h1:ss.length=n) (h2:∀ x∈ss,0≤x∧x≤1000000):LM l n ((shS n (bs.drop n) (bs,ss) (bs.drop n).length).1.take n++shL n (bs.drop n) (bs,ss) (bs.drop n).length):=by
 have hS:=(SI.start h h1 h2).all (bs.drop n) (bs.drop n).length
 have hl:=h.len
 have hd:=hS.drop
 have h3:=shL_le (n:=n) (t:=bs.drop n) (s:=(bs,ss)) (bs.drop n).length
 have h4:(bs.drop n).length=bs.length-n:=Gq9
 exact hS.lm.cut (fun b hb=>by rw[hd]; exact shL_sub _ b hb) Aqa 
theorem LM.items {j:Nat} (h:LM l n bs) (hj:j≤bs.length-n):LM l n (bs.take n++itL n bs (bs.drop n) j):=by
 have hl:=h.len
 have h3:=itL_le (n:=n) (bs:=bs) (t:=bs.drop n) (j:=j)
 exact h.cut (fun b hb=>Gxt (List.mem_filter.1 hb).1) Aqa 
theorem hits_lm (h:LM l n bs) (h1:ss.length=n) (h2:∀ x∈ss,0≤x∧x≤1000000):LM l n (hitsR n bs ss).1∧(hitsR n bs ss).2.length=n∧∀ x∈(hitsR n bs ss).2,0≤x∧x≤1000000:=by
 have hS:=(SI.start h h1 h2).all (bs.drop n) (bs.drop n).length
 rw[←hits_eq h h1 h2]
 exact⟨(SI.shots h h1 h2).items (by rw[Gq9]; exact Gqi _),itS_ok hS.sl hS.sc⟩
end
/-! ### What fits -/
def TA (b:TBody):Prop:=(-2≤b.Timer∧b.Timer≤25)∧(-1≤b.Aim∧b.Aim≤1)
theorem body_aim {l:TLevel} {n k:Nat} {b:TBody} (h:bodyAt l n k b=true) : -1≤b.Aim∧b.Aim≤1:=by
 rw[bodyAt,Gqh] at h
 have h1:=h.1
 simp only[bodyM,Gqh] at h1
 obtain⟨_,_,_,_,_,ht⟩:=h1
 unfold tailM at ht
 split at ht
 ·simp only[Gqh,decide_eq_true_eq] at ht; omega
 ·split at ht
  ·simp only[Gqh,decide_eq_true_eq] at ht; omega
  ·simp only[decide_eq_true_eq] at ht; omega
theorem pl_aim {l:TLevel} {row:List Int} {bs:List TBody} (h:∀ b∈bs,-1≤b.Aim∧b.Aim≤1):∀ k,∀ b∈plM l row bs k,-1≤b.Aim∧b.Aim≤1
 |0,b,hb=>h b hb
 | k+1,b,hb=>by
  have ih:=pl_aim (row:=row) (l:=l) h k
  rw[plM] at hb
  split at hb
  ·exact ih b hb
  ·rename_i p hp
   have hp2:=ih p (Gqn hp)
   have hs : -1≤(steer l p (row.getD k 0)).1.Aim∧(steer l p (row.getD k 0)).1.Aim≤1:=by
    simp only[steer]
    split
    ·omega
    ·split <;> omega
   have key:∀ {c:TBody},(-1≤c.Aim∧c.Aim≤1)→b∈(plM l row bs k).set k c → -1≤b.Aim∧b.Aim≤1:=fun hc hb=>by
    rcases Gxv hb with h1 | h1
    ·exact ih b h1
    ·subst h1; exact hc
   unfold plOne at hb
   split at hb
   ·refine key ?_ hb
    split
    ·simp[fresh]
    ·exact hp2
   ·split at hb
    ·rcases Gqs.1 hb with h1 | h1
     ·exact key hs h1
     ·rw[Gxd] at h1; subst h1; simp[shotOf]
    ·exact key hs hb
theorem mv_ta {l:TLevel} {bs:List TBody} (h:∀ b∈bs,(0≤b.Timer∧b.Timer≤25)∧(-1≤b.Aim∧b.Aim≤1)):∀ b∈mvM l bs,TA b:=fun b hb=>by
 obtain⟨c,hc,hcb⟩:=List.mem_filterMap.1 hb
 have hh:=h c hc
 unfold mvOne at hcb
 split at hcb
 ·cases hcb
  exact⟨⟨by simp only[moveM]; omega,by simp only[moveM]; omega⟩,hh.2⟩
 ·split at hcb
  ·split at hcb
   ·cases hcb
   ·cases hcb
    exact⟨⟨by simp only[tick1,moveM]; omega,by simp only[tick1,moveM]; omega⟩,hh.2⟩
  ·cases hcb; exact⟨Aqa,hh.2⟩
theorem sh_ta {n:Nat} {t:List TBody} {s:List TBody×List Int} (h:∀ b∈s.1,TA b):∀ j,∀ b∈(shS n t s j).1,TA b
 |0,b,hb=>h b hb
 | j+1,b,hb=>by
  have ih:=sh_ta (n:=n) (t:=t) h j
  rw[shS] at hb
  split at hb
  ·exact ih b hb
  ·unfold shOne at hb
   split at hb
   ·split at hb
    ·exact ih b hb
    ·split at hb
     ·exact ih b hb
     ·rename_i p hp
      rcases Gxv hb with h1 | h1
      ·exact ih b h1
      ·subst h1
       have h2:=ih p (Gqn hp)
       refine⟨?_,h2.2⟩
       simp only[hitB]
       split
       ·omega
       ·exact h2.1
   ·exact ih b hb
theorem keepR_sub {n:Nat} {t bs:List TBody} {s:List TBody×List Int}:∀ j,∀ b∈keepR n t s bs j,b∈t
 |0,b,hb=>by cases hb
 | j+1,b,hb=>by
  rw[keepR] at hb
  split at hb
  ·exact keepR_sub j b hb
  ·rename_i c hc
   split at hb
   ·exact keepR_sub j b hb
   ·rcases Gqs.1 hb with h | h
    ·exact keepR_sub j b h
    ·rw[Gxd] at h; subst h; exact Gqn hc
theorem hits_ta {n:Nat} {bs:List TBody} {ss:List Int} (h:∀ b∈bs,TA b):∀ b∈(hitsR n bs ss).1,TA b:=fun b hb=>by
 rcases Gqs.1 hb with h1 | h1
 ·exact sh_ta (s:=(bs,ss)) h _ b (Gxt h1)
 ·exact h b (Gxj (keepR_sub _ b h1))
theorem body_gd {l:TLevel} {n:Nat} {b:TBody} (hl:levelOk l=true) (hn:n≤4) (h:BM l n b) (ht:TA b):Enc.gd b:=by
 have hp:=(h.placed hl).1
 obtain⟨hk,ho,_,hvx,hvy,hf⟩:=h
 obtain⟨_,hx,hy⟩:=hp
 obtain⟨h1,h2⟩:=ht
 refine⟨⟨?_,?_⟩,⟨?_,?_⟩,⟨?_,?_⟩,⟨?_,?_⟩,⟨?_,?_⟩,⟨?_,?_⟩,⟨?_,?_⟩,⟨?_,?_⟩,⟨?_,?_⟩⟩ <;> omega
theorem spot_rng {l:TLevel} (hl:levelOk l=true) {sp:List Int} (h:sp∈spotsM l):∃ x y:Int,sp = [x,y]∧(0≤x∧x≤400)∧(0≤y∧y≤400):=by
 obtain⟨l3,l12,w,w4,w20,hw⟩:=Zp hl
 obtain⟨r,c,row,h1,h2,h3,_,h5⟩:=rowSp_at h
 obtain⟨h6,h7⟩:=Gqo.1 h2
 have h8:=hw r h6
 rw[h7] at h8
 exact⟨_,_,h5,Aqa,Aqa⟩
theorem spotOf_mem {l:TLevel} {seed:Int} (h:(spotsM l).length≠0):∃ (i:Nat),belowR seed (spotsM l).length=i∧i<(spotsM l).length∧(spotsM l)[i]? = some (spotOf l seed):=by
 have h1:=Zz seed
 have h2:0≤belowR seed (spotsM l).length∧belowR seed (spotsM l).length<(spotsM l).length:=by
  unfold belowR
  exact⟨Int.emod_nonneg _ Aqa,Int.emod_lt_of_pos _ Aqa⟩
 obtain⟨i,hi⟩:∃ i:Nat,belowR seed (spotsM l).length=i:=⟨_,(Int.toNat_of_nonneg h2.1).symm⟩
 refine⟨i,hi,Aqa,?_⟩
 rw[spotOf,hi,Int.toNat_natCast,Gqf,Gqg Aqa]
 rfl
theorem item_gd {x y:Int} (hx:0≤x∧x≤400) (hy:0≤y∧y≤400):Enc.gd (itemB x y):=by
 refine⟨⟨?_,?_⟩,⟨?_,?_⟩,⟨?_,?_⟩,⟨?_,?_⟩,⟨?_,?_⟩,⟨?_,?_⟩,⟨?_,?_⟩,⟨?_,?_⟩,⟨?_,?_⟩⟩ <;> simp only[itemB] <;> omega
structure Fits (w:TWorld) (n:Nat):Prop where
 gd:Enc.gd w
 sl:w.Scores.length=n
 bl:w.Bodies.length≤24
theorem last_fits {l:TLevel} {tick seed:Int} {ss:List Int} {bs:List TBody} {n:Nat} (hl:levelOk l=true) (gl:Enc.gd l) (ht:0≤tick∧tick≤100000) (hs:0≤seed∧seed≤65535) (h1:ss.length=n) (hn:n≤4) (h2:∀ x∈ss,0≤x∧x≤1000000) (h3:bs.length≤24) (h4:∀ b∈bs,Enc.gd b):Fits (lastM l tick seed ss bs) n:=by
 have g2:Enc.gd ss:=⟨Aqa,fun x hx=>by have:=h2 x hx; exact⟨Aqa,Aqa⟩⟩
 have g1:Enc.gd bs:=⟨Aqa,h4⟩
 have gt:Enc.gd tick:=⟨Aqa,Aqa⟩
 have gs:Enc.gd seed:=⟨Aqa,Aqa⟩
 have hnx:=Zz seed
 have gn:Enc.gd (nextR seed):=⟨Aqa,Aqa⟩
 unfold lastM
 split
 ·exact⟨⟨gl,gt,gs,g2,g1⟩,h1,h3⟩
 ·rename_i hc
  split
  ·exact⟨⟨gl,gt,gn,g2,g1⟩,h1,h3⟩
  ·obtain⟨i,_,_,hi⟩:=spotOf_mem (l:=l) (seed:=seed) (fun e=>hc (.inr (.inl e)))
   obtain⟨x,y,he,hx,hy⟩:=spot_rng hl (Gqn hi)
   have hb:bs.length<24:=by
    rcases Gqr bs.length 24 with h | h
    ·exact h
    ·exact absurd (.inr (.inr h)) hc
   have hli:(bs ++ [itemB ((spotOf l seed).getD 0 0) ((spotOf l seed).getD 1 0)]).length≤24:=by rw[Gql]; simp; omega
   refine⟨⟨gl,gt,gn,g2,Gxo hli Aqc,fun b hb2=>?_⟩,h1,hli⟩
   rcases Gqs.1 hb2 with h5 | h5
   ·exact h4 b h5
   ·rw[Gxd] at h5
    subst h5
    rw[he]
    exact item_gd hx hy
theorem tick_fits {w:TWorld} {row:List Int} (hg:Enc.gd w) (ho:worldOk w=true) (ht:w.Tick≠100000) (hr:rowOk row w.Scores.length=true):Fits (tickM w row) w.Scores.length:=by
 have hP:=PH.of hg ho hr
 obtain⟨hl,htk,hs,hn,hsc,hlen,hbo⟩:=Uj ho
 have htk:=Zm.1 htk
 have hM:=hits_lm hP.mv rfl (V5 ho)
 have hta:∀ b∈movedM w row,TA b:=mv_ta fun b hb=>⟨hP.pl.tm b hb,pl_aim (fun c hc=>by
  obtain⟨j,hj,rfl⟩:=List.mem_iff_getElem.1 hc
  exact body_aim (hbo j hj)) _ b hb⟩
 have hnx:=Zz w.Seed
 refine last_fits hl hg.1 ⟨Aqa,Aqa⟩ hnx hM.2.1 hn.2 hM.2.2 hM.1.len.2 fun b hb=>?_
 obtain⟨j,hj⟩:=List.getElem?_of_mem hb
 exact body_gd hl hn.2 (hM.1.at_ j b hj).1 (hits_ta hta b hb)
theorem stepW_level (w:TWorld) (row:List Int):(stepW w row).Level=w.Level:=by
 unfold stepW
 split
 ·unfold tickM lastM
  split
  ·rfl
  ·split <;> rfl
 ·rfl
theorem stepW_fits {w:TWorld} {row:List Int} (hg:Enc.gd w):Enc.gd (stepW w row)∧(stepW w row).Scores.length=w.Scores.length∧(stepW w row).Bodies.length≤max w.Bodies.length 24:=by
 unfold stepW
 split
 ·rename_i h
  have:=tick_fits hg h.1 h.2.1 h.2.2
  exact⟨this.gd,this.sl,by have:=this.bl; omega⟩
 ·exact⟨hg,rfl,Aqa⟩
end
section
open Go.RowKit

theorem tail_bodyM {l:TLevel} {n:Nat} {b:TBody} (h:BM l n b) (ht:tailM b=true):bodyM l n b=true:=by
 obtain⟨hk,ho,hp,hvx,hvy,hf⟩:=h
 simp only[bodyM,Gqh,Gq6,Zm]
 exact⟨hk,⟨ho.1,Aqa⟩,hp,hvx,hvy,ht⟩
theorem tail_of {l:TLevel} {n:Int} {b:TBody} (h:bodyM l n b=true):tailM b=true:=by
 simp only[bodyM,Gqh] at h
 exact h.2.2.2.2.2
theorem tail_pl {b:TBody} (h:b.Kind=0):tailM b=true↔(b.Aim=1∨b.Aim = -1)∧(0≤b.Life∧b.Life≤3)∧(b.Life=0→1≤b.Timer∧b.Timer≤20)∧(b.Life≠0→0≤b.Timer∧b.Timer≤12):=by
 unfold tailM
 rw[if_pos h,Gqh,Gqh,decide_eq_true_eq,Zm]
 constructor
 ·rintro⟨⟨h1,h2⟩,h3⟩
  refine⟨h1,h2,fun e=>?_,fun e=>?_⟩
  ·rw[if_pos e] at h3; exact Zm.1 h3
  ·rw[if_neg e] at h3; exact Zm.1 h3
 ·rintro⟨h1,h2,h3,h4⟩
  refine⟨⟨h1,h2⟩,?_⟩
  split
  ·exact Zm.2 (h3 Aqe)
  ·exact Zm.2 (h4 Aqe)
theorem tail_shot {b:TBody} (h:b.Kind=1):tailM b=true↔(b.Aim=0∧b.Life=0)∧(1≤b.Timer∧b.Timer≤25):=by
 unfold tailM
 rw[if_neg Aqa,if_pos h,Gqh,decide_eq_true_eq,Zm]
structure TK (n:Nat) (bs:List TBody):Prop where
 tl:∀ b∈bs,tailM b=true
 ow:∀ k,k<n→∀ b,bs[k]? = some b→b.Owner=k
theorem TK.set {n k:Nat} {bs:List TBody} {b c:TBody} (h:TK n bs) (hb:bs[k]? = some b) (h1:tailM c=true) (h2:k<n→c.Owner=k):TK n (bs.set k c):=by
 refine⟨fun d hd=>?_,fun j hj d hd=>?_⟩
 ·rcases Gxv hd with h3 | h3
  ·exact h.tl d h3
  ·subst h3; exact h1
 ·rw[List.getElem?_set] at hd
  split at hd
  ·rename_i e
   subst e
   split at hd
   ·cases hd; exact h2 hj
   ·cases hd
  ·exact h.ow j hj d hd
theorem TK.app {n:Nat} {bs:List TBody} {c:TBody} (h:TK n bs) (hl:n≤bs.length) (h1:tailM c=true):TK n (bs ++ [c]):=by
 refine⟨fun d hd=>?_,fun j hj d hd=>?_⟩
 ·rcases Gqs.1 hd with h3 | h3
  ·exact h.tl d h3
  ·rw[Gxd] at h3; subst h3; exact h1
 ·rw[Gq2 Aqa] at hd
  exact h.ow j hj d hd
theorem fresh_tail (l:TLevel) (k:Int):tailM (fresh l k)=true:=by
 rw[tail_pl (by rfl)]
 refine⟨.inl J,⟨by simp[fresh],by simp[fresh]⟩,fun h=>by simp[fresh] at h,fun _=>⟨by simp[fresh],by simp[fresh]⟩⟩
theorem tick1_tail {b:TBody} (h:b.Kind=0) (h2:b.Life=0) (h3:¬b.Timer-1=0) (ht:tailM b=true):tailM (tick1 b)=true:=by
 obtain⟨ha,hl,h4,h5⟩:=(tail_pl h).1 ht
 have:=h4 h2
 refine (tail_pl (b:=tick1 b) h).2 ⟨ha,hl,fun _=>?_,fun e=>absurd h2 e⟩
 simp only[tick1]
 omega
theorem steer_tail {l:TLevel} {b:TBody} {i:Int} (h:b.Kind=0) (h2:¬b.Life=0) (ht:tailM b=true):tailM (steer l b i).1=true:=by
 obtain⟨ha,hl,h4,h5⟩:=(tail_pl h).1 ht
 have h6:=h5 h2
 refine (tail_pl (b:=(steer l b i).1) h).2 ⟨steer_aim ha,hl,fun e=>absurd e h2,fun _=>?_⟩
 simp only[steer]
 split
 ·omega
 ·split <;> omega
theorem shotOf_tail (b:TBody):tailM (shotOf b)=true:=(tail_shot (b:=shotOf b) rfl).2 ⟨⟨rfl,rfl⟩,by simp[shotOf]⟩
theorem TK.one {l:TLevel} {n k:Nat} {bs:List TBody} {b:TBody} (h:TK n bs) (hn:n≤bs.length) (hb:bs[k]? = some b) (hk:b.Kind=0) (hkn:k<n) (i:Int):TK n (plOne l i k bs b):=by
 have ht:=h.tl b (Gqn hb)
 have ho:=h.ow k hkn b hb
 unfold plOne
 split
 ·split
  ·exact h.set hb (fresh_tail l k) fun _=>rfl
  ·exact h.set hb (tick1_tail hk Aqe Aqe  ht) fun _=>ho
 ·have h1:TK n (bs.set k (steer l b i).1):=h.set hb (steer_tail hk Aqe ht) fun _=>ho
  split
  ·exact h1.app (by rw[Gqu]; exact hn) (shotOf_tail _)
  ·exact h1
theorem TK.pl {l:TLevel} (hl:levelOk l=true) {n:Nat} (hn:n≤4) {bs:List TBody} (h1:n≤bs.length∧bs.length≤24) (hb:bodiesOk l n bs) (h:TK n bs) (row:List Int):∀ k,k≤n→TK n (plM l row bs k)
 |0,_=>h
 | k+1,hk=>by
  have ih:=TK.pl hl hn h1 hb h row k Aqa 
  have hp:=P1.all hl hn h1 hb row k Aqa 
  rw[plM]
  split
  ·exact ih
  ·rename_i b hs
   exact ih.one hp.lm.len.1 hs ((hp.lm.at_ k b hs).2.2 Aqa) Aqa _
theorem move_tail {l:TLevel} {b c:TBody} (h:mvOne l b=some c) (ht:tailM b=true):tailM c=true∧c.Owner=b.Owner:=by
 unfold mvOne at h
 split at h
 ·rename_i hk
  cases h
  refine⟨?_,J⟩
  have:=(tail_pl hk.1).1 ht
  exact (tail_pl (b:=(moveM l b).1) hk.1).2 this
 ·split at h
  ·rename_i hk
   split at h
   ·cases h
   ·rename_i hm
    cases h
    have h2:=(tail_shot hk).1 ht
    refine⟨(tail_shot (b:=tick1 (moveM l b).1) hk).2 ⟨h2.1,?_⟩,J⟩
    have:¬b.Timer-1=0:=fun e=>hm (.inr e)
    simp only[tick1,moveM]
    omega
  ·cases h; exact⟨ht,rfl⟩
theorem fmap_at {α β:Type} {f:α→Option β}:∀ (xs:List α) (n:Nat),(∀ j x,j<n→xs[j]? = some x→∃ y,f x=some y)→∀ k y,k<n→(xs.filterMap f)[k]? = some y→k<xs.length→∃ x,xs[k]? = some x∧f x=some y
 | [],_,_,k,y,_,hy,hx=>by simp at hx
 |x::xs,0,h,k,y,hk,_,_=>by omega
 | x::xs,n+1,h,k,y,hk,hy,hx=>by
  obtain⟨z,hz⟩:=h 0 x Aqa rfl
  rw[List.filterMap_cons,hz] at hy
  cases k with
  |zero =>
   simp only[Gxf] at hy
   exact⟨x,J,by rw[hz]; exact hy⟩
  |succ k =>
   simp only[Gxw] at hy
   simp only[Gqw] at hx
   obtain⟨a,h1,h2⟩:=fmap_at xs n (fun j w hj hw=>h (j+1) w Aqa (by simpa using hw)) k y Aqa hy Aqa 
   exact⟨a,by simpa using h1,h2⟩
theorem TK.mv {l:TLevel} {n:Nat} {bs:List TBody} (hL:LM l n bs) (h:TK n bs):TK n (mvM l bs):=by
 have hlen:=hL.len
 refine⟨fun c hc=>?_,fun k hk c hc=>?_⟩
 ·obtain⟨a,ha,hac⟩:=List.mem_filterMap.1 hc
  exact (move_tail hac (h.tl a ha)).1
 ·obtain⟨a,ha,hac⟩:=fmap_at bs n (fun j x hj hx=>mvOne_pl ((hL.at_ j x hx).2.2 hj)) k c hk hc Aqa 
  rw[(move_tail hac (h.tl a (Gqn ha))).2]
  exact h.ow k hk a ha
theorem hit_tail {p:TBody} (hk:p.Kind=0) (hl:0<p.Life) (h:tailM p=true):tailM (hitB p)=true:=by
 obtain⟨ha,hf,h4,h5⟩:=(tail_pl hk).1 h
 have h6:=h5 Aqa 
 refine (tail_pl (b:=hitB p) hk).2 ⟨ha,by simp only[hitB]; omega,fun e=>?_,fun e=>?_⟩
 ·simp only[hitB] at e ⊢
  rw[if_pos e]; omega
 ·simp only[hitB] at e ⊢
  rw[if_neg e]; exact h6
theorem TK.sh1 {l:TLevel} {n:Nat} {bs0:List TBody} {s:List TBody×List Int} (hS:SI l n bs0 s) (h:TK n s.1) (b:TBody):TK n (shOne n s b).1:=by
 unfold shOne
 split
 ·split
  ·exact h
  ·rename_i k hk
   obtain⟨h1,h2⟩:=metF_lt hk
   obtain⟨p,hp,hlf,_,_⟩:=metC_life h2
   rw[hp]
   exact h.set hp (hit_tail ((hS.lm.at_ k p hp).2.2 h1) hlf (h.tl p (Gqn hp))) fun _=>h.ow k h1 p hp
 ·exact h
theorem TK.sh {l:TLevel} {n:Nat} {bs0:List TBody} {s:List TBody×List Int} (hS:SI l n bs0 s) (h:TK n s.1) (t:List TBody):∀ j,TK n (shS n t s j).1
 |0=>h
 |j+1=>by
  rw[shS]
  split
  ·exact TK.sh hS h t j
  ·exact TK.sh1 (hS.all t j) (TK.sh hS h t j) _
theorem TK.hits {l:TLevel} {n:Nat} {bs:List TBody} {ss:List Int} (hL:LM l n bs) (h1:ss.length=n) (h2:∀ x∈ss,0≤x∧x≤1000000) (h:TK n bs):TK n (hitsR n bs ss).1:=by
 have hS:=(SI.start hL h1 h2).all (bs.drop n) (bs.drop n).length
 have hT:TK n (shS n (bs.drop n) (bs,ss) (bs.drop n).length).1:=TK.sh (SI.start hL h1 h2) h _ _
 have hlen:=hS.lm.len
 refine⟨fun c hc=>?_,fun k hk c hc=>?_⟩
 ·rcases Gqs.1 hc with h3 | h3
  ·exact hT.tl c (Gxt h3)
  ·exact h.tl c (Gxj (keepR_sub _ c h3))
 ·simp only[hitsR] at hc
  rw[Gq2 Bxp,List.getElem?_take_of_lt hk] at hc
  exact hT.ow k hk c hc
theorem spot_free {l:TLevel} {x y:Int} (h : [x,y]∈spotsM l):solidM l x y 8=false:=by
 obtain⟨r,c,row,h1,h2,h3,h4,h5⟩:=rowSp_at h
 simp only[List.cons.injEq,and_true] at h5
 obtain⟨rfl,rfl⟩:=h5
 obtain⟨h6,h7⟩:=Gqo.1 h2
 refine solidM_F fun ⟨r',c',e1,e2,e3,e4,hw⟩ => ?_
 have er:r'=r:=Aqa
 have ec:c'=c:=Aqa
 subst er; subst ec
 exact no_wall h6 (by rw[h7]; exact h3) (by rw[h7,h4]; decide) hw
theorem item_bm {l:TLevel} {n:Nat} (hn:1≤n) {x y:Int} (h : [x,y]∈spotsM l):BM l n (itemB x y) :=
 ⟨by simp[itemB],by simp only[itemB]; omega,spot_free h,by simp[itemB],by simp[itemB],by simp[itemB]⟩
theorem worldOk_mk {l:TLevel} {n:Nat} {bs:List TBody} {ss:List Int} {t s:Int} (hl:levelOk l=true) (ht:0≤t∧t≤100000) (hs:0≤s∧s≤65535) (hn:1≤n∧n≤4) (h1:ss.length=n) (h2:∀ x∈ss,0≤x∧x≤1000000) (hL:LM l n bs) (hT:TK n bs):worldOk ⟨l,t,s,ss,bs⟩=true:=by
 subst h1
 refine worldOk_T ⟨hl,Zm.2 ht,Zm.2 hs,hn,Gqp.2 fun x hx=>Zm.2 (h2 x hx),hL.len,fun k hk=>?_⟩
 have hb:bs[k]? = some bs[k]:=Gqg hk
 have h3:=hL.at_ k _ hb
 unfold bodyAt
 rw[Gqh]
 refine⟨tail_bodyM h3.1 (hT.tl _ (Gqe hk)),?_⟩
 simp only
 split
 ·rename_i hkn
  exact Gqb ⟨h3.2.2 hkn,hT.ow k hkn _ hb⟩
 ·rename_i hkn
  exact Gqb fun e=>hkn (h3.2.1 e)
theorem TK.start {l:TLevel} {n:Nat} {bs:List TBody} (h:bodiesOk l n bs):TK n bs:=by
 refine⟨fun b hb=>?_,fun k hk b hb=>?_⟩
 ·obtain⟨j,hj,rfl⟩:=List.mem_iff_getElem.1 hb
  have:=h j hj
  unfold bodyAt at this
  rw[Gqh] at this
  exact tail_of this.1
 ·exact (old_at h hb hk).ow
theorem tick_ok {w:TWorld} {row:List Int} (hg:Enc.gd w) (ho:worldOk w=true) (ht:w.Tick≠100000) (hr:rowOk row w.Scores.length=true):worldOk (tickM w row)=true:=by
 have hP:=PH.of hg ho hr
 obtain⟨hl,htk,hs,hn,hsc,hlen,hbo⟩:=Uj ho
 have htk:=Zm.1 htk
 have hM:=hits_lm hP.mv rfl (V5 ho)
 have hT:TK w.Scores.length (hitsR w.Scores.length (movedM w row) w.Scores).1:=TK.hits hP.mv rfl (V5 ho) (TK.mv hP.pl.lm (TK.pl hl hn.2 hlen hbo (TK.start hbo) row _ (Gqi _)))
 have hnx:=Zz w.Seed
 have hn2:=Zz (nextR w.Seed)
 unfold tickM lastM
 split
 ·exact worldOk_mk hl ⟨Aqa,Aqa⟩ hnx hn hM.2.1 hM.2.2 hM.1 hT
 ·rename_i hc
  split
  ·exact worldOk_mk hl ⟨Aqa,Aqa⟩ hn2 hn hM.2.1 hM.2.2 hM.1 hT
  ·obtain⟨i,_,_,hi⟩:=spotOf_mem (l:=w.Level) (seed:=nextR w.Seed) (fun e=>hc (.inr (.inl e)))
   have hmem:=Gqn hi
   obtain⟨x,y,he,_,_⟩:=spot_rng hl hmem
   have hb:(hitsR w.Scores.length (movedM w row) w.Scores).1.length<24:=by
    rcases Gqr (hitsR w.Scores.length (movedM w row) w.Scores).1.length 24 with h | h
    ·exact h
    ·exact absurd (.inr (.inr h)) hc
   rw[he] at hmem ⊢
   exact worldOk_mk hl ⟨Aqa,Aqa⟩ hn2 hn hM.2.1 hM.2.2 (hM.1.app hb (item_bm hn.1 hmem) (by simp[itemB])) (hT.app hM.1.len.1 J)
theorem stepW_ok {w:TWorld} {row:List Int} (hg:Enc.gd w) (ho:worldOk w=true):worldOk (stepW w row)=true:=by
 unfold stepW
 split
 ·rename_i h
  exact tick_ok hg h.1 h.2.1 h.2.2
 ·exact ho
end
end Go.Proofs.YtalaljeokcpfnaaGreat
