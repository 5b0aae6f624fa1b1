/-
  Rules, data and contracts of functions: part 24 of the proof.
  Conditions: those that each theorem names.
-/
import Derived.Test.YtoecjaohdnoenaaGreatDDLockRowk22
set_option linter.unusedSimpArgs false
set_option linter.unusedVariables false
set_option maxRecDepth 8000
set_option maxHeartbeats 8000000
namespace Go.Proofs.YtoecjaohdnoenaaGreat
section
open Go.RowKit

def tick1 (b:TBody):TBody:=⟨b.Kind,b.Owner,b.X,b.Y,b.VX,b.VY,b.Aim,b.Life,b.Timer-1⟩
noncomputable def plOne (l:TLevel) (i:Int) (k:Nat) (bs:List TBody) (b:TBody):List TBody :=
 if b.Life=0 then bs.set k (if b.Timer-1=0 then fresh l k else tick1 b)
 else if (steer l b i).2=true∧bs.length<24 then bs.set k (steer l b i).1 ++ [shotOf (steer l b i).1] else bs.set k (steer l b i).1
noncomputable def plM (l:TLevel) (row:List Int) (bs:List TBody):Nat→List TBody
 |0=>bs
 |k+1=>match (plM l row bs k)[k]? with
  |none=>plM l row bs k
  |some b=>plOne l (row.getD k 0) k (plM l row bs k) b
structure BM (l:TLevel) (n:Nat) (b:TBody):Prop where
 k:0≤b.Kind∧b.Kind≤2
 o:0≤b.Owner∧b.Owner<n
 p:solidM l b.X b.Y (sizeOf b.Kind)=false
 vx : -15≤b.VX∧b.VX≤15
 vy : -15≤b.VY∧b.VY≤15
 f:0≤b.Life∧b.Life≤3
structure LM (l:TLevel) (n:Nat) (bs:List TBody):Prop where
 len:n≤bs.length∧bs.length≤24
 at_:∀ k b,bs[k]? = some b→BM l n b∧(b.Kind=0↔k<n)
structure PlI (l:TLevel) (n k:Nat) (b:TBody):Prop where
 kd:b.Kind=0
 ow:b.Owner=k
 am:b.Aim=1∨b.Aim = -1
 tm:0≤b.Timer∧b.Timer≤20
 dd:b.Life=0→1≤b.Timer
 bm:bodyM l (b.Owner+1) b=true
theorem body_facts {l:TLevel} {n k:Nat} {b:TBody} (h:bodyAt l n k b=true):BM l n b∧(b.Kind=0↔k<n)∧(0≤b.Timer∧b.Timer≤25)∧(k<n→PlI l n k b):=by
 unfold bodyAt at h
 rw[Gqh] at h
 obtain⟨h1,h2⟩:=h
 have h1':=h1
 simp only[bodyM,Gqh,Gq8,Yq] at h1
 obtain⟨hk,ho,hp,hvx,hvy,ht⟩:=h1
 have hbm:bodyM l (b.Owner+1) b=true:=by
  simp only[bodyM,Gqh,Gq8,Yq]
  exact⟨hk,⟨ho.1,by omega⟩,hp,hvx,hvy,ht⟩
 unfold tailM at ht
 by_cases hkn:k<n
 ·rw[if_pos hkn,decide_eq_true_eq] at h2
  rw[if_pos h2.1,Gqh,Gqh,decide_eq_true_eq,Yq] at ht
  obtain⟨⟨ha,hf⟩,htm⟩:=ht
  have htt:(0≤b.Timer∧b.Timer≤20)∧(b.Life=0→1≤b.Timer):=by
   split at htm
   ·have:=Yq.1 htm; exact⟨by omega,fun _=>this.1⟩
   ·have:=Yq.1 htm; exact⟨by omega,fun h=>absurd h (by assumption)⟩
  exact⟨⟨hk,⟨ho.1,by omega⟩,hp,hvx,hvy,hf⟩,⟨fun _=>hkn,fun _=>h2.1⟩,by omega,fun _=>⟨h2.1,h2.2,ha,htt.1,htt.2,hbm⟩⟩
 ·rw[if_neg hkn,decide_eq_true_eq] at h2
  rw[if_neg h2] at ht
  have htt:(0≤b.Life∧b.Life≤3)∧(0≤b.Timer∧b.Timer≤25):=by
   split at ht
   ·rw[Gqh,decide_eq_true_eq,Yq] at ht; omega
   ·rw[decide_eq_true_eq] at ht; omega
  exact⟨⟨hk,⟨ho.1,by omega⟩,hp,hvx,hvy,htt.1⟩,⟨fun h=>absurd h h2,fun h=>absurd h hkn⟩,htt.2,fun h=>absurd h hkn⟩
theorem LM.set {l:TLevel} {n k:Nat} {bs:List TBody} {b b':TBody} (h:LM l n bs) (hb:bs[k]? = some b) (h1:BM l n b') (h2:b'.Kind=b.Kind):LM l n (bs.set k b'):=by
 refine⟨by rw[Gqs]; exact h.len,fun j c hc => ?_⟩
 rw[List.getElem?_set] at hc
 split at hc
 ·rename_i e
  subst e
  split at hc
  ·cases hc; exact⟨h1,by rw[h2]; exact (h.at_ _ _ hb).2⟩
  ·cases hc
 ·exact h.at_ _ _ hc
theorem LM.app {l:TLevel} {n:Nat} {bs:List TBody} {c:TBody} (h:LM l n bs) (hl:bs.length<24) (h1:BM l n c) (h2:c.Kind≠0):LM l n (bs ++ [c]):=by
 have:=h.len
 refine⟨by rw[Gqv]; simp; omega,fun j d hd => ?_⟩
 rw[List.getElem?_append] at hd
 split at hd
 ·exact h.at_ _ _ hd
 ·rename_i hj
  have hj2:=Yn hd
  simp only[List.length_singleton] at hj2
  have:j=bs.length:=by omega
  subst this
  simp only[Nat.sub_self,Gxc,Option.some.injEq] at hd
  subst hd
  exact⟨h1,fun h=>absurd h h2,fun h=>by omega⟩
theorem shot_free {l:TLevel} {x y:Int} (h:solidM l x y 12=false):solidM l (x+4) (y+4) 4=false:=by
 refine solidM_F fun ⟨r,c,h1,h2,h3,h4,hw⟩ => ?_
 have:hits l x y 12:=⟨r,c,by omega,by omega,by omega,by omega,hw⟩
 rw[Ki this] at h
 cases h
theorem steer_aim {l:TLevel} {b:TBody} {i:Int} (h:b.Aim=1∨b.Aim = -1):(steer l b i).1.Aim=1∨(steer l b i).1.Aim = -1:=by
 simp only[steer]
 split
 ·exact .inr rfl
 ·split
  ·exact .inl rfl
  ·exact h
theorem steer_time {l:TLevel} {b:TBody} {i:Int} (h:0≤b.Timer∧b.Timer≤20):0≤(steer l b i).1.Timer∧(steer l b i).1.Timer≤20:=by
 simp only[steer]
 split
 ·omega
 ·split <;> omega
theorem BM.steer {l:TLevel} {n:Nat} {b:TBody} (h:BM l n b) (i:Int):BM l n (steer l b i).1:=by
 obtain⟨hk,ho,hp,hvx,hvy,hf⟩:=h
 refine⟨hk,ho,hp,?_,?_,hf⟩
 ·simp only[Go.Proofs.YtoecjaohdnoenaaGreat.steer]
  split
  ·omega
  ·split <;> omega
 ·simp only[Go.Proofs.YtoecjaohdnoenaaGreat.steer]
  split
  ·omega
  ·rw[Int.min_def]; split <;> omega
theorem BM.shot {l:TLevel} {n:Nat} {b:TBody} (h:BM l n b) (hk:b.Kind=0) (ha:b.Aim=1∨b.Aim = -1):BM l n (shotOf b) :=
 ⟨by simp[shotOf],h.o,by have:=h.p; rw[hk] at this; exact shot_free this,by simp only[shotOf]; omega,by simp[shotOf],by simp[shotOf]⟩
theorem BM.fresh {l:TLevel} (hl:levelOk l=true) {n k:Nat} (hk:k<n) (hn:n≤4):BM l n (fresh l k):=by
 obtain⟨h1,h2,h3⟩:=fresh_free hl (p:=(k:Int)) ⟨by omega,by omega⟩
 exact⟨by simp[Go.Proofs.YtoecjaohdnoenaaGreat.fresh],by simp only[Go.Proofs.YtoecjaohdnoenaaGreat.fresh]; omega,h1,by simp[Go.Proofs.YtoecjaohdnoenaaGreat.fresh],by simp[Go.Proofs.YtoecjaohdnoenaaGreat.fresh],by simp[Go.Proofs.YtoecjaohdnoenaaGreat.fresh]⟩
theorem BM.placed {l:TLevel} (hl:levelOk l=true) {n:Nat} {b:TBody} (h:BM l n b):Placed b∧(b.X≤400∧b.Y≤400):=by
 have hs:=size_pos h.k
 have:=Zd hl ⟨by omega,by omega⟩ h.p
 exact⟨⟨h.k,by omega,by omega⟩,by omega⟩
structure P1 (l:TLevel) (n:Nat) (bs0 bs:List TBody) (k:Nat):Prop where
 lm:LM l n bs
 old:∀ j,k≤j→j<n→bs[j]? = bs0[j]?
 tm:∀ b∈bs,0≤b.Timer∧b.Timer≤25
theorem P1.start {l:TLevel} {n:Nat} {bs:List TBody} (h1:n≤bs.length∧bs.length≤24) (h:bodiesOk l n bs):P1 l n bs bs 0:=by
 have hat:∀ k b,bs[k]? = some b→bodyAt l n k b=true:=fun k b hb=>by
  obtain⟨h2,rfl⟩:=Gql.1 hb
  exact h k h2
 refine⟨⟨h1,fun k b hb => ?_⟩,fun _ _ _=>rfl,fun b hb => ?_⟩
 ·have:=body_facts (hat k b hb); exact⟨this.1,this.2.1⟩
 ·obtain⟨k,hk⟩:=List.getElem?_of_mem hb
  exact (body_facts (hat k b hk)).2.2.1
theorem old_at {l:TLevel} {n k:Nat} {bs:List TBody} {b:TBody} (h:bodiesOk l n bs) (hb:bs[k]? = some b) (hk:k<n):PlI l n k b:=by
 obtain⟨h2,rfl⟩:=Gql.1 hb
 exact (body_facts (h k h2)).2.2.2 hk
section
variable {l:TLevel} {n k:Nat} {bs0 bs:List TBody} {b b':TBody}
theorem P1.set (h:P1 l n bs0 bs k) (hb:bs[k]? = some b) (h1:BM l n b') (h2:b'.Kind=b.Kind) (ht:0≤b'.Timer∧b'.Timer≤25):P1 l n bs0 (bs.set k b') (k+1) :=
 ⟨h.lm.set hb h1 h2,fun j hj hn=>by rw[Gxd (by omega)]; exact h.old j (by omega) hn,fun c hc=>by
  rcases Gxj hc with h3 | h3
  ·exact h.tm c h3
  ·subst h3; exact ht⟩
theorem P1.app (h:P1 l n bs0 bs k) (hl:bs.length<24) {c:TBody} (h1:BM l n c) (h2:c.Kind≠0) (ht:0≤c.Timer∧c.Timer≤25):P1 l n bs0 (bs ++ [c]) k :=
 ⟨h.lm.app hl h1 h2,fun j hj hn=>by have:=h.lm.len; rw[Gqy (by omega)]; exact h.old j hj hn,fun d hd=>by
  rcases Gqt.1 hd with h3 | h3
  ·exact h.tm d h3
  ·rw[Gxp] at h3; subst h3; exact ht⟩
end
theorem P1.one {l:TLevel} (hl:levelOk l=true) {n k:Nat} (hn:n≤4) {bs0 bs:List TBody} {b:TBody} (h:P1 l n bs0 bs k) (hk:k<n) (hb:bs[k]? = some b) (hI:PlI l n k b) (i:Int):P1 l n bs0 (plOne l i k bs b) (k+1):=by
 have hB:=(h.lm.at_ k b hb).1
 unfold plOne
 split
 ·split
  ·exact h.set hb (BM.fresh hl hk hn) (by rw[hI.kd]; rfl) (by simp[fresh])
  ·rename_i hf ht
   have:=hI.dd hf
   have:=hI.tm
   exact h.set hb ⟨hB.k,hB.o,hB.p,hB.vx,hB.vy,hB.f⟩ J (by simp only[tick1]; omega)
 ·have hs:=steer_time (l:=l) (i:=i) hI.tm
  have h1:=h.set hb (hB.steer i) (by rfl) ⟨hs.1,by omega⟩
  split
  ·rename_i hc
   exact h1.app (by rw[Gqs]; exact hc.2) ((hB.steer i).shot hI.kd (steer_aim hI.am)) (by simp[shotOf]) (by simp[shotOf])
  ·exact h1
theorem P1.all {l:TLevel} (hl:levelOk l=true) {n:Nat} (hn:n≤4) {bs:List TBody} (h1:n≤bs.length∧bs.length≤24) (h:bodiesOk l n bs) (row:List Int):∀ k,k≤n→P1 l n bs (plM l row bs k) k
 |0,_=>P1.start h1 h
 |k+1,hk=>by
  have hp:=P1.all hl hn h1 h row k (by omega)
  have hlk:k<(plM l row bs k).length:=by have:=hp.lm.len; omega
  obtain⟨b,hb⟩:=Kk hlk
  have ho:=hp.old k (Gqi _) (by omega)
  rw[plM,hb]
  exact hp.one hl hn (by omega) hb (old_at h (by rw[←ho]; exact hb) (by omega)) _

/-! ### Moving -/
noncomputable def mvOne (l:TLevel) (b:TBody):Option TBody :=
 if b.Kind=0∧0<b.Life then some (moveM l b).1
 else if b.Kind=1 then if (moveM l b).2=true∨b.Timer-1=0 then none else some (tick1 (moveM l b).1)
 else some b
noncomputable def mvM (l:TLevel) (bs:List TBody):List TBody:=bs.filterMap (mvOne l)
theorem BM.move {l:TLevel} {n:Nat} {b:TBody} (h:BM l n b):BM l n (moveM l b).1:=by
 obtain⟨hk,ho,hp,hvx,hvy,hf⟩:=h
 have h1:solidM l (moveX l b).1 b.Y (sizeOf b.Kind)=false:=Kh (hit:=fun x=>solidM l x b.Y (sizeOf b.Kind)) _ _ hp
 have h2:solidM l (moveX l b).1 (moveY l b).1 (sizeOf b.Kind)=false:=Kh (hit:=fun y=>solidM l (moveX l b).1 y (sizeOf b.Kind)) _ _ h1
 refine⟨hk,ho,h2,?_,?_,hf⟩
 ·simp only[moveM]; split <;> omega
 ·simp only[moveM]; split <;> omega
theorem mvOne_ok {l:TLevel} {n:Nat} {b c:TBody} (h:BM l n b) (hc:mvOne l b=some c):BM l n c∧c.Kind=b.Kind:=by
 unfold mvOne at hc
 split at hc
 ·cases hc; exact⟨h.move,rfl⟩
 ·split at hc
  ·split at hc
   ·cases hc
   ·cases hc
    have:=h.move
    exact⟨⟨this.k,this.o,this.p,this.vx,this.vy,this.f⟩,J⟩
  ·cases hc; exact⟨h,rfl⟩
theorem mvOne_pl {l:TLevel} {b:TBody} (h:b.Kind=0):∃ c,mvOne l b=some c:=by
 unfold mvOne
 split
 ·exact⟨_,rfl⟩
 ·rw[if_neg (by omega)]; exact⟨_,rfl⟩
theorem fmap_len {α β:Type} {f:α→Option β}:∀ (xs:List α),(∀ x∈xs,∃ y,f x=some y)→(xs.filterMap f).length=xs.length
 | [],_=>rfl
 |x::xs,h=>by
  obtain⟨y,hy⟩:=h x (by simp)
  rw[List.filterMap_cons,hy]
  simp only[Gxf]
  rw[fmap_len xs fun z hz=>h z (by simp[hz])]
theorem LM.move {l:TLevel} {n:Nat} {bs:List TBody} (h:LM l n bs):LM l n (mvM l bs):=by
 have hlen:=h.len
 have hA:∀ a∈bs.take n,BM l n a∧a.Kind=0:=fun a ha=>by
  obtain⟨j,hj⟩:=List.getElem?_of_mem ha
  rw[Gxe] at hj
  split at hj
  ·have:=h.at_ _ _ hj; exact⟨this.1,this.2.2 (by assumption)⟩
  ·cases hj
 have hB:∀ a∈bs.drop n,BM l n a∧a.Kind≠0:=fun a ha=>by
  obtain⟨j,hj⟩:=List.getElem?_of_mem ha
  rw[Gxg] at hj
  have:=h.at_ _ _ hj
  exact⟨this.1,fun e=>by have:=this.2.1 e; omega⟩
 have hs:mvM l bs=(bs.take n).filterMap (mvOne l)++(bs.drop n).filterMap (mvOne l):=by
  rw[mvM,←List.filterMap_append,Gxh]
 have hl1:((bs.take n).filterMap (mvOne l)).length=n:=by
  rw[fmap_len _ fun a ha=>mvOne_pl (hA a ha).2,Gq3]; omega
 have hl2:=List.length_filterMap_le (mvOne l) (bs.drop n)
 rw[List.length_drop] at hl2
 rw[hs]
 refine⟨by rw[Gqv,hl1]; omega,fun k b hb => ?_⟩
 rw[List.getElem?_append,hl1] at hb
 split at hb
 ·obtain⟨a,ha,hab⟩:=List.mem_filterMap.1 (Gqo hb)
  have h1:=hA a ha
  have h2:=mvOne_ok h1.1 hab
  exact⟨h2.1,fun _=>by assumption,fun _=>by rw[h2.2,h1.2]⟩
 ·obtain⟨a,ha,hab⟩:=List.mem_filterMap.1 (Gqo hb)
  have h1:=hB a ha
  have h2:=mvOne_ok h1.1 hab
  exact⟨h2.1,fun e=>absurd (by rw[←h2.2]; exact e) h1.2,fun e=>absurd e (by assumption)⟩
theorem mv_next {l:TLevel} {bs:List TBody} {k:Nat} {b:TBody} (h:bs[k]? = some b):(bs.take (k+1)).filterMap (mvOne l)=(bs.take k).filterMap (mvOne l)++(mvOne l b).toList:=by
 obtain⟨hk,rfl⟩:=Gql.1 h
 rw[Gq4 hk,List.filterMap_append]
 congr 1
end
section
open Go.RowKit

theorem rwBo {a b c:Ob} {t:List Ob} {k:Nat} {x y:List (List T)} (h:x=y):a::b::c::Ob.row k x::t=a::b::c::Ob.row k y::t:=by rw[h]
theorem pl_next {l:TLevel} {row:List Int} {bs0 bs:List TBody} {k:Nat} {b:TBody} {i:Int} (h:bs=plM l row bs0 k) (hb:bs[k]? = some b) (hi:row[k]? = some i):plM l row bs0 (k+1)=plOne l i k bs b:=by
 rw[plM,←h,hb,Gqe,hi]; rfl
structure PH (w:TWorld) (row:List Int):Prop where
 hg:Enc.gd w.Level
 gb:∀ b∈w.Bodies,Enc.gd b
 hl:levelOk w.Level=true
 n4:1≤w.Scores.length∧w.Scores.length≤4
 len:w.Scores.length≤w.Bodies.length∧w.Bodies.length≤24
 bs:bodiesOk w.Level w.Scores.length w.Bodies
 rl:row.length=w.Scores.length
 ri:∀ i∈row,0≤i∧i≤15
theorem I_stepPlayers (w:TWorld) (row:List Int) (h:PH w row):Con Tryz.prog 250 [.box [.ref 1,jn w.Tick,jn w.Seed,.ref 2,.ref 3],.row 1 (els w.Level.Rows),.row 1 (els w.Scores),.row 9 (els w.Bodies),.gh 0 (.c (.ptr 0 0))] [.c (.ptr 0 0),al row] [.box [.ref 1,jn w.Tick,jn w.Seed,.ref 2,.ref 3],.row 1 (els w.Level.Rows),.row 1 (els w.Scores),.row 9 (els (plM w.Level row w.Bodies w.Scores.length)),.gh 0 (.c (.ptr 0 0))] (.tu []):=by
 obtain⟨hg,gb,hl,hn4,hlen,hbo,hrl,hri⟩:=h
 have hls:=Yc w.Scores
 have hlr:=Yc row
 refine Con.of Tryz.func250 J Tryz.ntmps250 J (fun E => ?_)
 refine Wz [18,50,33,133,76] ?_;refine Xj (fun m st=>∃ (k:Nat) (bs:List TBody),k+m=w.Scores.length∧(bs=plM w.Level row w.Bodies k)∧st=(⟨_,[(0,.o (.c (.ptr 0 0))),(1,L row),(12,I (els w.Scores).length),(13,I k)],[.box [.ref 1,jn w.Tick,jn w.Seed,.ref 2,.ref 3],.row 1 (els w.Level.Rows),.row 1 (els w.Scores),.row 9 (els bs),.gh 0 (.c (.ptr 0 0))]⟩:St)) (w.Scores.length) ⟨_,⟨0,w.Bodies,by omega,J,J⟩,Ux [0,1,2,3,4]⟩ ?_
 rintro m_A _ ⟨k,bs,hk_A,hp_A,rfl⟩
 by_cases hlt:k<w.Scores.length
 ·have hb0:decide ((k:Int)<(els w.Scores).length)=true:=Gqb (by omega)
  have hP:=P1.all hl hn4.2 hlen hbo row k (by omega)
  rw[←hp_A] at hP
  have hln:=hP.lm.len
  obtain⟨b,hb⟩:=Kk (xs:=bs) (i:=k) (by omega)
  have hold:=hP.old k (Gqi _) hlt
  have hI:=old_at hbo (by rw[←hold]; exact hb) hlt
  have hB:=(hP.lm.at_ k b hb).1
  obtain⟨hpl,hpx,hpy⟩:=hB.placed hl
  obtain⟨i,hi⟩:=Kk (xs:=row) (i:=k) (by omega)
  have hir:=hri i (Gqo hi)
  have hnx:=pl_next hp_A hb hi
  have he:=Yf hb
  have her:=Yf hi
  have hlb:=Yc bs
  have htm:=hI.tm
  by_cases hf:b.Life=0
  ·have f1:decide (b.Life=0)=true:=Gqb hf
   rw[plOne,if_pos hf] at hnx
   by_cases ht:b.Timer-1=0
   ·have f2:decide (b.Timer-1=0)=true:=Gqb ht
    rw[if_pos ht] at hnx
    have cf:=I_fresh w.Level k hg hl ⟨by omega,by omega⟩
    refine Wz [5,15,6,14,82,105,83,50,0,68,260,46,20,31,12,11,29,51,48,31,12,11,23,0,182,250,0] ?_;refine M1 (Zl J J (cf) J J J) J J ?_;refine Wz [20,14] ?_
    refine AWP.pre (st':=(⟨_,[(0,.o (.c (.ptr 0 0))),(1,L row),(4,I k),(5,.o (.c (.ptr 5 0))),(12,I (els w.Scores).length),(13,I k)],[.box [.ref 1,jn w.Tick,jn w.Seed,.ref 2,.ref 3],.row 1 (els w.Level.Rows),.row 1 (els w.Scores),.row 9 (els bs),.gh 0 (.c (.ptr 0 0)),.box ((Enc.e (fresh w.Level k)).map (V1.rd []))]⟩:St)) ?_ (Ux [0,1,2,3,4,5])
    refine Xi u8_25 u8_26 u8_27 J ?_;refine Wz [1,117,32,1,116,152,16] ?_;refine AL.weak (st':=(⟨_,[(0,.o (.c (.ptr 0 0))),(1,L row),(45,.o (.c (.el 3 9 k 0))),(44,.o (.ag ((Enc.e (fresh w.Level k)).map (V1.rd [])))),(12,I (els w.Scores).length),(13,I k)],[.box [.ref 1,jn w.Tick,jn w.Seed,.ref 2,.ref 3],.row 1 (els w.Level.Rows),.row 1 (els w.Scores),.row 9 (els bs),.gh 0 (.c (.ptr 0 0))]⟩:St)) (Ux [0,1,2,3,4]) ?_;refine Wz [173,6,168,145,147,230] ?_
    exact⟨w.Scores.length-(k+1),by omega,_,⟨k+1,bs.set k (fresh w.Level k),by omega,hnx.symm,J⟩,(by rw[Ye]; exact Ux [0,1,2,3,4])⟩
   ·have f2:decide (b.Timer-1=0)=false:=Gqa ht
    rw[if_neg ht] at hnx
    refine Wz [5,15,6,14,82,105,83,50,0,68,260,46,20,31,12,11,29,51,48,31,12,9,14] ?_
    refine AWP.pre (st':=(⟨_,[(0,.o (.c (.ptr 0 0))),(1,L row),(4,I k),(5,.o (.c (.ptr 5 0))),(12,I (els w.Scores).length),(13,I k)],[.box [.ref 1,jn w.Tick,jn w.Seed,.ref 2,.ref 3],.row 1 (els w.Level.Rows),.row 1 (els w.Scores),.row 9 (els bs),.gh 0 (.c (.ptr 0 0)),.box ((Enc.e (tick1 b)).map (V1.rd []))]⟩:St)) ?_ (Ux [0,1,2,3,4,5])
    refine Xi u8_25 u8_26 u8_27 J ?_;refine Wz [1,117,32,1,116,152,16] ?_;refine AL.weak (st':=(⟨_,[(0,.o (.c (.ptr 0 0))),(1,L row),(45,.o (.c (.el 3 9 k 0))),(44,.o (.ag ((Enc.e (tick1 b)).map (V1.rd [])))),(12,I (els w.Scores).length),(13,I k)],[.box [.ref 1,jn w.Tick,jn w.Seed,.ref 2,.ref 3],.row 1 (els w.Level.Rows),.row 1 (els w.Scores),.row 9 (els bs),.gh 0 (.c (.ptr 0 0))]⟩:St)) (Ux [0,1,2,3,4]) ?_;refine Wz [173,6,168,145,147,230] ?_
    exact⟨w.Scores.length-(k+1),by omega,_,⟨k+1,bs.set k (tick1 b),by omega,hnx.symm,J⟩,(by rw[Ye]; exact Ux [0,1,2,3,4])⟩
  ·have f1:decide (b.Life=0)=false:=Gqa hf
   rw[plOne,if_neg hf] at hnx
   have hfl:=hB.f
   obtain⟨c,f,hcf⟩:∃ c f,(c,f)=steer w.Level b i:=⟨_,_,rfl⟩
   have cs:=I_SteerPlayer w.Level b i hg hl (gb b (Gqo (by rw[←hold]; exact hb))) hI.kd ⟨hB.o.1,by have:=hB.o; omega⟩ (by omega) hir hI.bm ⟨by omega,by omega⟩ hB.vy (by have:=hB.p; rw[hI.kd] at this; exact this)
   have hca:=steer_aim (l:=w.Level) (i:=i) hI.am
   have hcx:(steer w.Level b i).1.X=b.X∧(steer w.Level b i).1.Y=b.Y:=⟨rfl,rfl⟩
   rw[←hcf] at cs hnx hca hcx
   simp only at cs hnx hca hcx
   have csh:=I_ShotOf c (by rw[hcx.1]; exact hpl.x) (by rw[hcx.2]; exact hpl.y) (by omega)
   have hlc:(els (bs.set k c)).length=bs.length:=by rw[Yc,Gqs]
   clear hcf hca hcx
   refine Wz [5,15,6,14,82,105,83,50,0,68,260,46,20,31,12,9,14] ?_
   refine AWP.pre (st':=(⟨_,[(0,.o (.c (.ptr 0 0))),(1,L row),(4,I k),(5,.o (.c (.ptr 5 0))),(12,I (els w.Scores).length),(13,I k)],[.box [.ref 1,jn w.Tick,jn w.Seed,.ref 2,.ref 3],.row 1 (els w.Level.Rows),.row 1 (els w.Scores),.row 9 (els bs),.gh 0 (.c (.ptr 0 0)),.box ((Enc.e b).map (V1.rd []))]⟩:St)) ?_ (Ux [0,1,2,3,4,5])
   refine Xi [[],[0],[0,1],[0,1,2],[],[],[],[5,6],[5,6,7],(u9 9),(u9 10),(u9 11),(u9 11),[],[0,1,2,3,4,5,6,7,8,9,10,11,13],(u9 15)] [[],[47],[47,48],[47,48,49],[],[],[],[52,53],[52,53,54],[47,48,49,50,51,52,53,54,55],[47,48,49,50,51,52,53,54,55,56],[46,47,48,49,50,51,52,53,54,55,56],[46,47,48,49,50,51,52,53,54,55,56],[],[6,46,47,48,49,50,51,52,53,54,55,56,57],[6,46,47,48,49,50,51,52,53,54,55,56,57,58]] [[6,51,52,53,54,55],[6,51,52,53,54,55],[6,51,52,53,54,55],[6,51,52,53,54,55],[6,47,48,49,50,52,53,54,55],[6,47,48,49,50,51,53],[6,47,48,49,50,51,52],[6,47,48,49,50,51],[6,47,48,49,50,51],[6],[6],[6,58],[6,57],[46,47,48,49,50,51,52,53,54,55,56,57,58],[58],[],[12]] J ?_;refine Wz [1,117,183,116,116,122,64] ?_;refine Kw (Zl J J (cs) J J J) J ?_;refine Wz [210,156,156,208,16] ?_;refine AL.weak (st':=(⟨_,[(0,.o (.c (.ptr 0 0))),(1,L row),(4,I k),(6,.o (.c (.ptr 5 0))),(57,.o (.ag ((Enc.e c).map (V1.rd [])))),(58,B f),(12,I (els w.Scores).length),(13,I k)],[.box [.ref 1,jn w.Tick,jn w.Seed,.ref 2,.ref 3],.row 1 (els w.Level.Rows),.row 1 (els w.Scores),.row 9 (els bs),.gh 0 (.c (.ptr 0 0)),.box [jn 0,jn 0,jn 0,jn 0,jn 0,jn 0,jn 0,jn 0,jn 0]]⟩:St)) (Ux [0,1,2,3,4,6]) ?_;refine Wz [110,4,14] ?_
   refine AWP.pre (st':=(⟨_,[(0,.o (.c (.ptr 0 0))),(1,L row),(4,I k),(6,.o (.c (.ptr 5 0))),(7,B f),(12,I (els w.Scores).length),(13,I k)],[.box [.ref 1,jn w.Tick,jn w.Seed,.ref 2,.ref 3],.row 1 (els w.Level.Rows),.row 1 (els w.Scores),.row 9 (els bs),.gh 0 (.c (.ptr 0 0)),.box ((Enc.e c).map (V1.rd []))]⟩:St)) ?_ (Ux [0,1,2,3,4,5])
   refine Xi u8_25 [[],[59],[59,60],[59,60,61],[],[],[59,60,61,62,63,64],[59,60,61,62,63,64,65]] [[63,64],[63,64],[63,64],[63,64],[59,60,61,62,64],[59,60,61,62,63],[],[]] J ?_;refine Wz [1,117,32,1,116,152,16] ?_;refine AL.weak (st':=(⟨_,[(0,.o (.c (.ptr 0 0))),(1,L row),(6,.o (.c (.ptr 5 0))),(7,B f),(65,.o (.c (.el 3 9 k 0))),(64,.o (.ag ((Enc.e c).map (V1.rd [])))),(12,I (els w.Scores).length),(13,I k)],[.box [.ref 1,jn w.Tick,jn w.Seed,.ref 2,.ref 3],.row 1 (els w.Level.Rows),.row 1 (els w.Scores),.row 9 (els bs),.gh 0 (.c (.ptr 0 0)),.box ((Enc.e c).map (V1.rd []))]⟩:St)) (Ux [0,1,2,3,4,5]) ?_
   with_reducible refine Xe ?_
   refine Wz [173,6] ?_
   refine AWP.pre (st':=(⟨_,[(0,.o (.c (.ptr 0 0))),(1,L row),(6,.o (.c (.ptr 5 0))),(7,B f),(12,I (els w.Scores).length),(13,I k)],[.box [.ref 1,jn w.Tick,jn w.Seed,.ref 2,.ref 3],.row 1 (els w.Level.Rows),.row 1 (els w.Scores),.row 9 (els (bs.set k c)),.gh 0 (.c (.ptr 0 0)),.box ((Enc.e c).map (V1.rd []))]⟩:St)) ?_ (by rw[Ye]; exact Ux [0,1,2,3,4,5])
   cases f with
   |false =>
    refine Wz [17,56,56,56,7,132,100] ?_
    exact⟨w.Scores.length-(k+1),by omega,_,⟨k+1,bs.set k c,by omega,(by rw[hnx]; rfl),J⟩,Ux [0,1,2,3,4]⟩
   | true =>
    by_cases h24:bs.length<24
    ·have f3:decide (((els (bs.set k c)).length:Int)<24)=true:=Gqb (by omega)
     rw[if_pos ⟨rfl,h24⟩] at hnx
     refine Wz [17,3,0,251,3,120,33,3,15,24,11] ?_;refine Xi u8_28 [[],[],[76],[76,77],[76,77,78],[],[80],[80,81],[76,77,78,79,80,81,82],[75,76,77,78,79,80,81,82,83],[75,76,77,78,79,80,81,82,83,84],[75,76,77,78,79,80,81,82,83,84,85]] [[76,77,78,79,80,81,82,83],[75,80,81,82],[75,80,81,82],[75,80,81,82],[75,80,81,82],[75,76,77,78,79],[75,76,77,78,79],[75,76,77,78,79],[75],[],[],[],[0]] J ?_;refine Wz [1,1,117,32,116] ?_;refine Kw (Zl J J (csh) J J J) J ?_;refine Wz [258,16] ?_;refine AL.weak (st':=(⟨_,[(0,.o (.c (.ptr 0 0))),(1,L row),(75,.o (.c (.ptr 0 0))),(79,.o (.c (.ref 3))),(82,.o (.c (.sb 5 1 9))),(12,I (els w.Scores).length),(13,I k)],[.box [.ref 1,jn w.Tick,jn w.Seed,.ref 2,.ref 3],.row 1 (els w.Level.Rows),.row 1 (els w.Scores),.row 9 (els (bs.set k c)),.gh 0 (.c (.ptr 0 0)),.box ((Enc.e (shotOf c)).map (V1.rd []))]⟩:St)) (Ux [0,1,2,3,4,6]) ?_;refine Wz [135,182,151,89,100] ?_
     exact⟨w.Scores.length-(k+1),by omega,_,⟨k+1,bs.set k c ++ [shotOf c],by omega,hnx.symm,J⟩,(by rw[Ya]; exact Ux [0,1,2,3,4])⟩
    ·have f3:decide (((els (bs.set k c)).length:Int)<24)=false:=Gqa (by omega)
     rw[if_neg (fun q=>h24 q.2)] at hnx
     refine Wz [17,3,0,251,3,120,33,3,15,24,132,100] ?_
     exact⟨w.Scores.length-(k+1),by omega,_,⟨k+1,bs.set k c,by omega,hnx.symm,J⟩,Ux [0,1,2,3,4]⟩
 ·have hb0:decide ((k:Int)<(els w.Scores).length)=false:=Gqa (by omega)
  have hk:k=w.Scores.length:=by omega
  subst hk
  rw[←hp_A]
  refine Wz [5,15,6,14,166,150,209] ?_
  exact Xo J (Ur [0,1,2,3,4] J J J)
end
section
open Go.RowKit

theorem mv_a {l:TLevel} {b:TBody} (h:b.Kind=0∧0<b.Life):mvOne l b=some (moveM l b).1:=by rw[mvOne,if_pos h]
theorem mv_n {l:TLevel} {b:TBody} (h:¬(b.Kind=0∧0<b.Life)) (h1:b.Kind=1) (h2:(moveM l b).2=true∨b.Timer-1=0):mvOne l b=none:=by rw[mvOne,if_neg h,if_pos h1,if_pos h2]
theorem mv_s {l:TLevel} {b:TBody} (h:¬(b.Kind=0∧0<b.Life)) (h1:b.Kind=1) (h2:¬((moveM l b).2=true∨b.Timer-1=0)):mvOne l b=some (tick1 (moveM l b).1):=by rw[mvOne,if_neg h,if_pos h1,if_neg h2]
theorem mv_k {l:TLevel} {b:TBody} (h:¬(b.Kind=0∧0<b.Life)) (h1:¬b.Kind=1):mvOne l b=some b:=by rw[mvOne,if_neg h,if_neg h1]
theorem mv_len {l:TLevel} {bs lf:List TBody} {k:Nat} (h:lf=(bs.take k).filterMap (mvOne l)):lf.length≤k:=by
 rw[h]
 have:=List.length_filterMap_le (mvOne l) (bs.take k)
 rw[Gq3] at this
 omega
theorem mv_some {l:TLevel} {bs lf:List TBody} {k:Nat} {b c:TBody} (h:lf=(bs.take k).filterMap (mvOne l)) (hb:bs[k]? = some b) (hm:mvOne l b=some c):lf ++ [c]=(bs.take (k+1)).filterMap (mvOne l):=by rw[mv_next hb,hm,←h]; rfl
theorem mv_none {l:TLevel} {bs lf:List TBody} {k:Nat} {b:TBody} (h:lf=(bs.take k).filterMap (mvOne l)) (hb:bs[k]? = some b) (hm:mvOne l b=none):lf=(bs.take (k+1)).filterMap (mvOne l):=by rw[mv_next hb,hm,←h]; simp
theorem rw6 {a b c d e:Ob} {t:List Ob} {k:Nat} {x y:List (List T)} (h:x=y):a::b::c::d::e::Ob.row k x::t=a::b::c::d::e::Ob.row k y::t:=by rw[h]
theorem I_stepMoves (w:TWorld) (hg:Enc.gd w.Level) (hl:levelOk w.Level=true) (hL:LM w.Level w.Scores.length w.Bodies) (htm:∀ b∈w.Bodies,0≤b.Timer∧b.Timer≤25):Con Tryz.prog 251 [.box [.ref 1,jn w.Tick,jn w.Seed,.ref 2,.ref 3],.row 1 (els w.Level.Rows),.row 1 (els w.Scores),.row 9 (els w.Bodies),.gh 0 (.c (.ptr 0 0))] [.c (.ptr 0 0)] [.box [.ref 1,jn w.Tick,jn w.Seed,.ref 2,.ref 3],.row 1 (els w.Level.Rows),.row 1 (els w.Scores),.row 9 (els (mvM w.Level w.Bodies)),.gh 0 (.c (.ptr 0 0))] (.tu []):=by
 have hlb:=Yc w.Bodies
 have hln:=hL.len
 refine Con.of Tryz.func251 J Tryz.ntmps251 J (fun E => ?_)
 refine Wz [57,50,33,133,76] ?_
 refine AWP.pre ?_ (W_nil 2 9 J)
 refine Xj (fun m st=>∃ (k:Nat) (lf:List TBody),k+m=w.Bodies.length∧(lf=(w.Bodies.take k).filterMap (mvOne w.Level))∧st=(⟨_,[(0,.o (.c (.ptr 0 0))),(2,.o (.c (.ref 5))),(10,.o (.c (.ref 3))),(11,I (els w.Bodies).length),(12,I k)],[.box [.ref 1,jn w.Tick,jn w.Seed,.ref 2,.ref 3],.row 1 (els w.Level.Rows),.row 1 (els w.Scores),.row 9 (els w.Bodies),.gh 0 (.c (.ptr 0 0)),.row 9 (els lf)]⟩:St)) (w.Bodies.length) ⟨_,⟨0,[],by omega,J,J⟩,Ux [0,1,2,3,4,5]⟩ ?_
 rintro m_A _ ⟨k,lf,hk_A,hp_A,rfl⟩
 have hll:=Yc lf
 have hlk:=mv_len hp_A
 by_cases hlt:k<w.Bodies.length
 ·have hb0:decide ((k:Int)<(els w.Bodies).length)=true:=Gqb (by omega)
  obtain⟨b,hb⟩:=Kk hlt
  refine Wz [5,15,6,14,82,8,5,68] ?_
  have he:=Yf hb
  with_reducible refine Xf ?_
  refine zx (Q6 J J J J (by assumption) J J) J ?_
  with_reducible refine K_alloc ?_
  refine M1 (Qx J J J) J J ?_
  with_reducible refine Xe ?_
  refine Wz [20] ?_
  refine AWP.pre (st':=(⟨_,[(0,.o (.c (.ptr 0 0))),(2,.o (.c (.ref 5))),(4,.o (.c (.ptr 6 0))),(10,.o (.c (.ref 3))),(11,I (els w.Bodies).length),(12,I k)],[.box [.ref 1,jn w.Tick,jn w.Seed,.ref 2,.ref 3],.row 1 (els w.Level.Rows),.row 1 (els w.Scores),.row 9 (els w.Bodies),.gh 0 (.c (.ptr 0 0)),.row 9 (els lf),.box ((Enc.e b).map (V1.rd []))]⟩:St)) ?_ (Ux [0,1,2,3,4,5,6])
  clear he
  have hB:=(hL.at_ k b hb).1
  have ht:=htm b (Gqo hb)
  obtain⟨c,s,hcs⟩:∃ c s,(c,s)=moveM w.Level b:=⟨_,_,rfl⟩
  have cm:=I_MoveBody w.Level b hg hl hB.k hB.p hB.vx hB.vy
  have hct:(moveM w.Level b).1.Timer=b.Timer:=rfl
  have ma:=@mv_a w.Level b
  have mn:=@mv_n w.Level b
  have ms:=@mv_s w.Level b
  have mk:=@mv_k w.Level b
  rw[←hcs] at cm hct ma mn ms
  simp only at cm hct ma mn ms
  clear hcs hB
  by_cases hA:b.Kind=0∧0<b.Life
  ·have f1:decide (b.Kind=0)=true:=Gqb hA.1
   have f2:decide (0<b.Life)=true:=Gqb hA.2
   have hm:=mv_some hp_A hb (ma hA)
   refine Wz [212,29,12,58,126,24,4,82] ?_
   refine AWP.pre (st':=(⟨_,[(0,.o (.c (.ptr 0 0))),(2,.o (.c (.ref 5))),(4,.o (.c (.ptr 6 0))),(10,.o (.c (.ref 3))),(11,I (els w.Bodies).length),(12,I k)],[.box [.ref 1,jn w.Tick,jn w.Seed,.ref 2,.ref 3],.row 1 (els w.Level.Rows),.row 1 (els w.Scores),.row 9 (els w.Bodies),.gh 0 (.c (.ptr 0 0)),.row 9 (els lf),.box ((Enc.e b).map (V1.rd []))]⟩:St)) ?_ (Ux [0,1,2,3,4,5,6])
   refine Xi [[],[0],[0,1],[0,1,2],[],(u9 5),(u9 6),(u9 7),(u9 7),(u9 8)] [[],[26],[26,27],[26,27,28],[],[26,27,28,29,30],[26,27,28,29,30,31],[25,26,27,28,29,30,31],[25,26,27,28,29,30,31],[25,26,27,28,29,30,31,32]] [[30],[30],[30],[30],[26,27,28,29],[],[],[33],[32],[33],[8]] J ?_;refine Wz [1,117,183,116,116] ?_;refine Kw (Zl J J (cm) J J J) J ?_;refine Wz [210,156,156,16] ?_;refine AL.weak (st':=(⟨_,[(0,.o (.c (.ptr 0 0))),(2,.o (.c (.ref 5))),(4,.o (.c (.ptr 6 0))),(32,.o (.ag ((Enc.e c).map (V1.rd [])))),(10,.o (.c (.ref 3))),(11,I (els w.Bodies).length),(12,I k)],[.box [.ref 1,jn w.Tick,jn w.Seed,.ref 2,.ref 3],.row 1 (els w.Level.Rows),.row 1 (els w.Scores),.row 9 (els w.Bodies),.gh 0 (.c (.ptr 0 0)),.row 9 (els lf),.box ((Enc.e b).map (V1.rd []))]⟩:St)) (Ux [0,1,2,3,4,5,6]) ?_;refine Wz [110,89,206,92,125,135,87,89,100] ?_
   exact⟨w.Bodies.length-(k+1),by omega,_,⟨k+1,lf ++ [c],by omega,hm,J⟩,(by rw[Ya]; exact Ux [0,1,2,3,4,5])⟩
  by_cases hS:b.Kind=1
  ·have f3:decide (b.Kind=1)=true:=Gqb hS
   have f1:decide (b.Kind=0)=false:=Gqa (by omega)
   refine Wz [212,29,12,40,101,7,106,29,12,4,82,14] ?_
   refine AWP.pre (st':=(⟨_,[(0,.o (.c (.ptr 0 0))),(2,.o (.c (.ref 5))),(4,.o (.c (.ptr 6 0))),(10,.o (.c (.ref 3))),(11,I (els w.Bodies).length),(12,I k)],[.box [.ref 1,jn w.Tick,jn w.Seed,.ref 2,.ref 3],.row 1 (els w.Level.Rows),.row 1 (els w.Scores),.row 9 (els w.Bodies),.gh 0 (.c (.ptr 0 0)),.row 9 (els lf),.box ((Enc.e b).map (V1.rd []))]⟩:St)) ?_ (Ux [0,1,2,3,4,5,6])
   refine Xi u8_29 [[],[39],[39,40],[39,40,41],[],[39,40,41,42,43],[39,40,41,42,43,44],[38,39,40,41,42,43,44],[38,39,40,41,42,43,44],[],[5,38,39,40,41,42,43,44,45],[5,38,39,40,41,42,43,44,45,46]] [[5,43],[5,43],[5,43],[5,43],[5,39,40,41,42],[5],[5],[5,46],[5,45],[38,39,40,41,42,43,44,45,46],[46],[],[8]] J ?_;refine Wz [1,117,183,116,116] ?_;refine Kw (Zl J J (cm) J J J) J ?_;refine Wz [210,156,156,208,16] ?_;refine AL.weak (st':=(⟨_,[(0,.o (.c (.ptr 0 0))),(2,.o (.c (.ref 5))),(4,.o (.c (.ptr 6 0))),(5,.o (.c (.ptr 7 0))),(45,.o (.ag ((Enc.e c).map (V1.rd [])))),(46,B s),(10,.o (.c (.ref 3))),(11,I (els w.Bodies).length),(12,I k)],[.box [.ref 1,jn w.Tick,jn w.Seed,.ref 2,.ref 3],.row 1 (els w.Level.Rows),.row 1 (els w.Scores),.row 9 (els w.Bodies),.gh 0 (.c (.ptr 0 0)),.row 9 (els lf),.box ((Enc.e b).map (V1.rd [])),.box [jn 0,jn 0,jn 0,jn 0,jn 0,jn 0,jn 0,jn 0,jn 0]]⟩:St)) (Ux [0,1,2,3,4,5,6,7]) ?_
   with_reducible refine Xe ?_
   refine Qy J J J J J J J J J ?_
   with_reducible refine K_assign ?_
   refine Wz [4] ?_
   repeat (first | refine Qd ?_ | refine Qc ?_)
   with_reducible refine Xf ?_
   refine z4 J J J ?_
   with_reducible refine Xe ?_
   refine Wz [20] ?_
   refine AWP.pre (st':=(⟨_,[(0,.o (.c (.ptr 0 0))),(2,.o (.c (.ref 5))),(4,.o (.c (.ptr 6 0))),(6,B s),(10,.o (.c (.ref 3))),(11,I (els w.Bodies).length),(12,I k)],[.box [.ref 1,jn w.Tick,jn w.Seed,.ref 2,.ref 3],.row 1 (els w.Level.Rows),.row 1 (els w.Scores),.row 9 (els w.Bodies),.gh 0 (.c (.ptr 0 0)),.row 9 (els lf),.box ((Enc.e c).map (V1.rd []))]⟩:St)) ?_ (Ux [0,1,2,3,4,5,6])
   rw[←hct] at ht
   cases s with
   |true =>
    have hm:=mv_none hp_A hb (mn hA hS (.inl rfl))
    refine Wz [29,51,48,17,56,101,24,11,168,248,145,147,230] ?_
    exact⟨w.Bodies.length-(k+1),by omega,_,⟨k+1,lf,by omega,hm,J⟩,Ux [0,1,2,3,4,5]⟩
   | false =>
    by_cases h1:c.Timer-1=0
    ·have f4:decide (c.Timer-1=0)=true:=Gqb h1
     have hm:=mv_none hp_A hb (mn hA hS (.inr (by rw[←hct]; exact h1)))
     refine Wz [29,51,48,17,3,120,12,7,11,168,248,145,147,230] ?_
     exact⟨w.Bodies.length-(k+1),by omega,_,⟨k+1,lf,by omega,hm,J⟩,Ux [0,1,2,3,4,5]⟩
    ·have f4:decide (c.Timer-1=0)=false:=Gqa h1
     have hm:=mv_some hp_A hb (ms hA hS (fun q=>q.elim (fun q=>Gxw q) (fun q=>h1 (by rw[hct]; exact q))))
     refine Wz [29,51,48,17,3,120,12,7,132,206,92,125,135,87,89,100] ?_
     exact⟨w.Bodies.length-(k+1),by omega,_,⟨k+1,lf ++ [tick1 c],by omega,hm,J⟩,(by rw[Ya]; exact Ux [0,1,2,3,4,5])⟩
  ·have f3:decide (b.Kind=1)=false:=Gqa hS
   have hm:=mv_some hp_A hb (mk hA hS)
   by_cases hK:b.Kind=0
   ·have f1:decide (b.Kind=0)=true:=Gqb hK
    have f2:decide (0<b.Life)=false:=Gqa (fun q=>hA ⟨hK,q⟩)
    refine Wz [212,29,12,58,126,24,106,29,12,106,134,206,92,125,135,87,89,100] ?_
    exact⟨w.Bodies.length-(k+1),by omega,_,⟨k+1,lf ++ [b],by omega,hm,J⟩,(by rw[Ya]; exact Ux [0,1,2,3,4,5])⟩
   ·have f1:decide (b.Kind=0)=false:=Gqa hK
    refine Wz [212,29,12,40,101,7,106,29,12,106,134,206,92,125,135,87,89,100] ?_
    exact⟨w.Bodies.length-(k+1),by omega,_,⟨k+1,lf ++ [b],by omega,hm,J⟩,(by rw[Ya]; exact Ux [0,1,2,3,4,5])⟩
 ·have hb0:decide ((k:Int)<(els w.Bodies).length)=false:=Gqa (by omega)
  have hk:k=w.Bodies.length:=by omega
  have hm:lf=mvM w.Level w.Bodies:=by rw[hp_A,hk,List.take_length]; rfl
  subst hm
  refine Wz [5,15,6,14,166,150,147,43,182,151,89,209] ?_
  exact Xo J (Ur [0,1,2,5,4] J J J)
end
section
open Go.RowKit

theorem metF_congr {bs bs':List TBody} {b:TBody} {o:Int}:∀ {n:Nat},(∀ k,k<n→bs[k]? = bs'[k]?)→metF bs b o n=metF bs' b o n
 |0,_=>rfl
 |n+1,h=>by
  have h1:metC bs b o n=metC bs' b o n:=by simp only[metC,h n (by omega)]
  rw[metF,metF,metF_congr (fun k hk=>h k (by omega)),h1]
def hitB (p:TBody):TBody:=⟨p.Kind,p.Owner,p.X,p.Y,if p.Life-1=0 then 0 else p.VX,if p.Life-1=0 then 0 else p.VY,p.Aim,p.Life-1,if p.Life-1=0 then 20 else p.Timer⟩
def shGone (n:Nat) (bs:List TBody) (b:TBody):Bool:=decide (b.Kind=1)&&(metF bs b b.Owner n).isSome
def shOne (n:Nat) (s:List TBody×List Int) (b:TBody):List TBody×List Int :=
 if b.Kind=1 then match metF s.1 b b.Owner n with
  |none=>s
  |some k=>match s.1[k]? with
   |none=>s
   |some p=>(s.1.set k (hitB p),if p.Life-1=0 then addM s.2 b.Owner.toNat else s.2)
 else s
def shS (n:Nat) (t:List TBody) (s:List TBody×List Int):Nat→List TBody×List Int
 |0=>s
 |j+1=>match t[j]? with
  |none=>shS n t s j
  |some b=>shOne n (shS n t s j) b
def shF (n:Nat) (t:List TBody) (s:List TBody×List Int) (j:Nat):Bool:=match t[j]? with
 |none=>false
 |some b=>shGone n (shS n t s j).1 b
def shL (n:Nat) (t:List TBody) (s:List TBody×List Int):Nat→List TBody
 |0 => []
 |j+1=>match t[j]? with
  |none=>shL n t s j
  |some b=>if shGone n (shS n t s j).1 b=true then shL n t s j else shL n t s j ++ [b]
def itHit (n:Nat) (bs:List TBody) (b:TBody):Bool:=decide (b.Kind=2)&&(metF bs b (-1) n).isSome
def itOne (n:Nat) (bs:List TBody) (ss:List Int) (b:TBody):List Int :=
 if b.Kind=2 then match metF bs b (-1) n with
  |none=>ss
  |some k=>addM ss k
 else ss
def itS (n:Nat) (bs t:List TBody) (ss:List Int) (j:Nat):List Int:=(t.take j).foldl (itOne n bs) ss
def itL (n:Nat) (bs t:List TBody) (j:Nat):List TBody:=(t.take j).filter fun b => !itHit n bs b
def keepR (n:Nat) (t:List TBody) (s:List TBody×List Int) (bs:List TBody):Nat→List TBody
 |0 => []
 |j+1=>match t[j]? with
  |none=>keepR n t s bs j
  |some b=>if (shF n t s j || itHit n bs b)=true then keepR n t s bs j else keepR n t s bs j ++ [b]
section
variable {l:TLevel} {n k j:Nat} {t bs bs0 lf:List TBody} {ss ss0:List Int} {s:List TBody×List Int} {b p:TBody}
theorem sh_skip (ht:t[j]? = some b) (hk:¬b.Kind=1) (hs:(bs,ss)=shS n t s j) (hl:lf=shL n t s j):(bs,ss)=shS n t s (j+1)∧lf ++ [b]=shL n t s (j+1)∧shF n t s j=false:=by
 have hg:shGone n (shS n t s j).1 b=false:=by rw[shGone,Gqa hk,Bool.false_and]
 refine⟨by rw[shS,ht]; simp only[shOne,if_neg hk]; exact hs,by rw[shL,ht]; simp only[hg]; rw[←hl]; rfl,by rw[shF,ht]; exact hg⟩
theorem sh_miss (ht:t[j]? = some b) (hm:metF bs b b.Owner n=none) (hs:(bs,ss)=shS n t s j) (hl:lf=shL n t s j):(bs,ss)=shS n t s (j+1)∧lf ++ [b]=shL n t s (j+1)∧shF n t s j=false:=by
 have hm2:metF (shS n t s j).1 b b.Owner n=none:=by rw[←hs]; exact hm
 have hg:shGone n (shS n t s j).1 b=false:=by rw[shGone,hm2]; simp
 refine⟨?_,by rw[shL,ht]; simp only[hg]; rw[←hl]; rfl,by rw[shF,ht]; exact hg⟩
 have h1:shOne n (bs,ss) b=(bs,ss):=by
  simp only[shOne,hm]
  split <;> rfl
 rw[shS,ht]
 simp only
 rw[←hs,h1]
theorem sh_hit (ht:t[j]? = some b) (hk:b.Kind=1) (hm:metF bs b b.Owner n=some k) (hp:bs[k]? = some p) (hs:(bs,ss)=shS n t s j) (hl:lf=shL n t s j):(bs.set k (hitB p),if p.Life-1=0 then addM ss b.Owner.toNat else ss)=shS n t s (j+1)∧lf=shL n t s (j+1)∧shF n t s j=true:=by
 have hm2:metF (shS n t s j).1 b b.Owner n=some k:=by rw[←hs]; exact hm
 have hg:shGone n (shS n t s j).1 b=true:=by rw[shGone,hm2,Gqb hk]; rfl
 refine⟨?_,by rw[shL,ht]; simp only[hg,if_true]; exact hl,by rw[shF,ht]; exact hg⟩
 rw[shS,ht]
 simp only[shOne,if_pos hk,hm2]
 rw[←hs]
 simp only[hp]
theorem shL_le:∀ j,(shL n t s j).length≤j
 |0=>Gqi _
 | j+1=>by
  have:=shL_le j
  rw[shL]
  split
  ·omega
  ·split
   ·omega
   ·rw[Gqv]; simp; omega
theorem shL_sub:∀ j,∀ b∈shL n t s j,b∈t
 |0,b,hb=>by cases hb
 | j+1,b,hb=>by
  rw[shL] at hb
  split at hb
  ·exact shL_sub j b hb
  ·rename_i c hc
   split at hb
   ·exact shL_sub j b hb
   ·rcases Gqt.1 hb with h | h
    ·exact shL_sub j b h
    ·rw[Gxp] at h; subst h; exact Gqo hc
theorem addM_len {ss:List Int} {k:Nat}:(addM ss k).length=ss.length:=by unfold addM; split <;> simp
theorem addM_rng {ss:List Int} {k:Nat} (h:∀ x∈ss,0≤x∧x≤1000000):∀ x∈addM ss k,0≤x∧x≤1000000:=by
 intro x hx
 unfold addM at hx
 split at hx
 ·exact h x hx
 ·rename_i s hs
  rcases Gxj hx with h1 | h1
  ·exact h x h1
  ·have:=h s (Gqo hs); omega
theorem BM.hit (h:BM l n p) (hl:0<p.Life):BM l n (hitB p):=by
 obtain⟨hk,ho,hp,hvx,hvy,hf⟩:=h
 refine⟨hk,ho,hp,?_,?_,?_⟩
 ·simp only[hitB]; split <;> omega
 ·simp only[hitB]; split <;> omega
 ·simp only[hitB]; omega
structure SI (l:TLevel) (n:Nat) (bs0:List TBody) (s:List TBody×List Int):Prop where
 lm:LM l n s.1
 len:s.1.length=bs0.length
 tl:∀ k,n≤k→s.1[k]? = bs0[k]?
 sl:s.2.length=n
 sc:∀ x∈s.2,0≤x∧x≤1000000
theorem SI.one (h:SI l n bs0 s) (b:TBody):SI l n bs0 (shOne n s b):=by
 unfold shOne
 split
 ·split
  ·exact h
  ·rename_i k hk
   obtain⟨h1,h2⟩:=metF_lt hk
   obtain⟨p,hp,hlf,_,_⟩:=metC_life h2
   rw[hp]
   have hB:=h.lm.at_ k p hp
   refine⟨h.lm.set hp (hB.1.hit hlf) J,by simp[h.len],fun j hj=>by simp only; rw[Gxd (by omega)]; exact h.tl j hj,?_,?_⟩
   ·simp only
    split
    ·rw[addM_len]; exact h.sl
    ·exact h.sl
   ·simp only
    split
    ·exact addM_rng h.sc
    ·exact h.sc
 ·exact h
theorem SI.all (h:SI l n bs0 s) (t:List TBody):∀ j,SI l n bs0 (shS n t s j)
 |0=>h
 |j+1=>by
  rw[shS]
  split
  ·exact SI.all h t j
  ·exact (SI.all h t j).one _
theorem SI.start (h:LM l n bs) (h1:ss.length=n) (h2:∀ x∈ss,0≤x∧x≤1000000):SI l n bs (bs,ss):=⟨h,rfl,fun _ _=>rfl,h1,h2⟩
theorem LM.cut {c:List TBody} (h:LM l n bs) (hc:∀ b∈c,b∈bs.drop n) (hl:n+c.length≤24):LM l n (bs.take n++c):=by
 have hlen:=h.len
 refine⟨by rw[Gqv,Gq3]; omega,fun k b hb => ?_⟩
 rw[List.getElem?_append,Gq3,Nat.min_eq_left hlen.1] at hb
 split at hb
 ·rename_i hk
  rw[List.getElem?_take_of_lt hk] at hb
  have:=h.at_ k b hb
  exact⟨this.1,this.2⟩
 ·rename_i hk
  obtain⟨j,hj⟩:=List.getElem?_of_mem (hc b (Gqo hb))
  rw[Gxg] at hj
  have:=h.at_ _ _ hj
  exact⟨this.1,fun e=>by have:=this.2.1 e; omega,fun e=>absurd e hk⟩
theorem it_skip (ht:t[j]? = some b) (hk:¬b.Kind=2) (hs:ss=itS n bs t ss0 j) (hl:lf=itL n bs t j):ss=itS n bs t ss0 (j+1)∧lf ++ [b]=itL n bs t (j+1)∧itHit n bs b=false:=by
 obtain⟨hj,rfl⟩:=Gql.1 ht
 have hg:itHit n bs t[j]=false:=by rw[itHit,Gqa hk,Bool.false_and]
 refine⟨?_,?_,hg⟩
 ·rw[itS,Gq4 hj,List.foldl_append,←itS,←hs]
  simp only[List.foldl_cons,List.foldl_nil,itOne,if_neg hk]
 ·rw[itL,Gq4 hj,List.filter_append,←itL,←hl]
  simp[hg]
theorem it_miss (ht:t[j]? = some b) (hm:metF bs b (-1) n=none) (hs:ss=itS n bs t ss0 j) (hl:lf=itL n bs t j):ss=itS n bs t ss0 (j+1)∧lf ++ [b]=itL n bs t (j+1)∧itHit n bs b=false:=by
 obtain⟨hj,rfl⟩:=Gql.1 ht
 have hg:itHit n bs t[j]=false:=by rw[itHit,hm]; simp
 refine⟨?_,?_,hg⟩
 ·rw[itS,Gq4 hj,List.foldl_append,←itS,←hs]
  simp only[List.foldl_cons,List.foldl_nil,itOne,hm]
  split <;> rfl
 ·rw[itL,Gq4 hj,List.filter_append,←itL,←hl]
  simp[hg]
theorem it_hit (ht:t[j]? = some b) (hk:b.Kind=2) (hm:metF bs b (-1) n=some k) (hs:ss=itS n bs t ss0 j) (hl:lf=itL n bs t j):addM ss k=itS n bs t ss0 (j+1)∧lf=itL n bs t (j+1)∧itHit n bs b=true:=by
 obtain⟨hj,rfl⟩:=Gql.1 ht
 have hg:itHit n bs t[j]=true:=by rw[itHit,hm,Gqb hk]; rfl
 refine⟨?_,?_,hg⟩
 ·rw[itS,Gq4 hj,List.foldl_append,←itS,←hs]
  simp only[List.foldl_cons,List.foldl_nil,itOne,if_pos hk,hm]
 ·rw[itL,Gq4 hj,List.filter_append,←itL,←hl]
  simp[hg]
theorem itOne_ok (h1:ss.length=n) (h2:∀ x∈ss,0≤x∧x≤1000000) (b:TBody):(itOne n bs ss b).length=n∧∀ x∈itOne n bs ss b,0≤x∧x≤1000000:=by
 unfold itOne
 split
 ·split
  ·exact⟨h1,h2⟩
  ·exact⟨by rw[addM_len]; exact h1,addM_rng h2⟩
 ·exact⟨h1,h2⟩
theorem itF_ok:∀ (t:List TBody) {ss:List Int},ss.length=n→(∀ x∈ss,0≤x∧x≤1000000)→(t.foldl (itOne n bs) ss).length=n∧∀ x∈t.foldl (itOne n bs) ss,0≤x∧x≤1000000
 | [],_,h1,h2=>⟨h1,h2⟩
 |b::t,_,h1,h2=>by
  have:=itOne_ok (bs:=bs) h1 h2 b
  exact itF_ok t this.1 this.2
theorem itS_ok (h1:ss.length=n) (h2:∀ x∈ss,0≤x∧x≤1000000):(itS n bs t ss j).length=n∧∀ x∈itS n bs t ss j,0≤x∧x≤1000000:=itF_ok _ h1 h2
theorem itL_le:(itL n bs t j).length≤j:=by
 have:=List.length_filter_le (fun b => !itHit n bs b) (t.take j)
 rw[itL]
 rw[Gq3] at this
 omega
theorem keep_eq:∀ j,(shL n t s j).filter (fun b => !itHit n bs b)=keepR n t s bs j
 |0=>rfl
 | j+1=>by
  have ih:=keep_eq j
  rw[shL,keepR,shF]
  cases t[j]? with
  |none=>exact ih
  | some b =>
   simp only
   by_cases hg:shGone n (shS n t s j).1 b=true
   ·rw[if_pos hg,if_pos (by rw[hg]; rfl),ih]
   ·have hg':shGone n (shS n t s j).1 b=false:=by simpa using hg
    have hc:(shGone n (shS n t s j).1 b || itHit n bs b)=itHit n bs b:=by rw[hg',Bool.false_or]
    by_cases h:itHit n bs b=true
    ·rw[if_neg hg,if_pos (by rw[hc]; exact h),List.filter_append,ih]
     simp[h]
    ·rw[if_neg hg,if_neg (by rw[hc]; exact h),List.filter_append,ih]
     simp[h]
theorem keepR_le:∀ j,(keepR n t s bs j).length≤j
 |0=>Gqi _
 | j+1=>by
  have:=keepR_le j
  rw[keepR]
  split
  ·omega
  ·split
   ·omega
   ·rw[Gqv]; simp; omega
theorem fold_eq:∀ j,(shL n t s j).foldl (itOne n bs) ss=(t.take j).foldl (itOne n bs) ss
 |0=>rfl
 | j+1=>by
  rw[shL]
  cases h:t[j]? with
  |none =>
   simp only
   have:=List.getElem?_eq_none_iff.1 h
   rw[fold_eq j,Gqk (by omega),Gqk (by omega)]
  | some b =>
   obtain⟨hj,rfl⟩:=Gql.1 h
   simp only
   rw[Gq4 hj,List.foldl_append]
   cases hg:shGone n (shS n t s j).1 t[j] with
   |true =>
    rw[if_pos rfl,fold_eq j]
    have hk:t[j].Kind=1:=by rw[shGone,Gqh,decide_eq_true_eq] at hg; exact hg.1
    simp only[List.foldl_cons,List.foldl_nil,itOne]
    rw[if_neg (by omega)]
   |false=>rw[if_neg (by simp),List.foldl_append,fold_eq j]
end
def hitsP (n:Nat) (bs:List TBody) (ss:List Int):List TBody×List Int :=
 let s:=shS n (bs.drop n) (bs,ss) (bs.drop n).length
 let b:=s.1.take n++shL n (bs.drop n) (bs,ss) (bs.drop n).length
 (b.take n++itL n b (b.drop n) (b.drop n).length,itS n b (b.drop n) s.2 (b.drop n).length)
def hitsR (n:Nat) (bs:List TBody) (ss:List Int):List TBody×List Int :=
 let t:=bs.drop n
 let s:=shS n t (bs,ss) t.length
 (s.1.take n++keepR n t (bs,ss) s.1 t.length,itS n s.1 t s.2 t.length)
theorem hits_eq {l:TLevel} {n:Nat} {bs:List TBody} {ss:List Int} (h:LM l n bs) (h1:ss.length=n) (h2:∀ x∈ss,0≤x∧x≤1000000):hitsP n bs ss=hitsR n bs ss:=by
 have hS:=(SI.start h h1 h2).all (bs.drop n) (bs.drop n).length
 obtain⟨s,hs⟩:∃ s,s=shS n (bs.drop n) (bs,ss) (bs.drop n).length:=⟨_,rfl⟩
 obtain⟨c,hc⟩:∃ c,c=shL n (bs.drop n) (bs,ss) (bs.drop n).length:=⟨_,rfl⟩
 rw[←hs] at hS
 have hlen:=hS.lm.len
 have e1:(s.1.take n++c).take n=s.1.take n:=by
  rw[List.take_append_of_le_length (by rw[Gq3]; omega),List.take_take,Nat.min_self]
 have e2:(s.1.take n++c).drop n=c:=by
  rw[List.drop_append_of_le_length (by rw[Gq3]; omega),List.drop_of_length_le (by rw[Gq3]; omega),List.nil_append]
 have e3:∀ b o,metF (s.1.take n++c) b o n=metF s.1 b o n:=fun b o=>metF_congr fun k hk=>by
  rw[Gqy (by rw[Gq3]; omega),List.getElem?_take_of_lt hk]
 have e4:itHit n (s.1.take n++c)=itHit n s.1:=by
  funext b
  rw[itHit,itHit,e3]
 have e5:itOne n (s.1.take n++c)=itOne n s.1:=by
  funext ss b
  rw[itOne,itOne,e3]
 simp only[hitsP,hitsR,←hs,←hc,e1,e2,itL,itS,List.take_length,e4,e5]
 congr 1
 ·congr 1
  rw[hc,keep_eq]
 ·rw[hc,fold_eq,List.take_length]
end
section
open Go.RowKit

section
variable {P:Program} {ops:Array Oper} {o:Oper} {st:St} {t:TypeId} {y z u:Operand} {rs qs:List Nat} {i j:Int} {m n:Nat} {k:IntKind}
theorem q_tl {p kk:Nat} {es:List (List T)} {e:TypeId} {zs:List Value} {by_:Nat} [hm:TyMake P t e zs by_] (ho:o.op = .slice t y (some u) none none) (hg:o.guard=none) (hy:st.ev y = .o (.c (.ref p))) (hp:st.objs[p]? = some (.row kk es)) (hu:st.ev u = .o (.c (.rd rs (.v (.int .i64 j))))) (hkz:kk=zs.length) (h0:0≤j∧j≤es.length):Qt P ops o st (.o (.c (.tl p kk j.toNat))) [] m :=
 .pure hg fun a w H F h1=>by
  obtain⟨v,fp,e1,e2⟩:=h1.ow hp
  obtain⟨x',fp',e3⟩:=h1.v1 hy
  rw[e1] at e3
  simp only[Pc.ow.injEq] at e3
  obtain⟨_,hv,_⟩:=e3
  obtain⟨A,c,hvA,hc⟩:∃ A c,v = .slice A es.length c∧es.length≤c:=by
   rcases e2.open_ with ⟨rfl,rfl,rfl⟩ | ⟨b,o,c,tid,cur,fz,val,fps,rfl,_,_,_,hc,_⟩
   ·exact⟨none,0,rfl,Gqi _⟩
   ·exact⟨_,c,rfl,hc⟩
  have hrun:=run_slice (P:=P) (w:=w) (t:=t) (e:=e) (zs:=zs) (by_:=by_) (A:=A) (m:=es.length) (c:=c) (some j) none j.toNat es.length ⟨h0.1,rfl⟩ rfl (by omega) hc
  refine⟨.slice (if c=j.toNat then A else A.map (·.add (j.toNat*zs.length))) (es.length-j.toNat) (c-j.toNat),?_,?_⟩
  ·have hu1:=h1.plain hu
   have hvy:a.eval y = .slice A es.length c:=by rw[←hv,hvA]
   unfold execOp
   simp only[ho,Option.map_none,Gqu,hu1,hvy,Sem.run_bind]
   simp only[Option.map_none,Gqu] at hrun
   rw[hrun]
   rfl
  ·exact⟨A,_,es.length,c,_,_,by rw[e1,hvA],rfl,fun hlt=>by rw[if_neg (by omega),hkz]⟩
theorem tl_form {w:World} {H:Hs} {F:Nat→Prop} {a:Act} (h1:R0 w H F st a) {p kk q:Nat} {es:List (List T)} (hy:st.ev y = .o (.c (.tl p kk q))) (hp:st.objs[p]? = some (.row kk es)) :
  ∃ A A' c fp,H p = .ow (.sl kk es) (.slice A es.length c) fp∧a.eval y = .slice A' (es.length-q) (c-q)∧(q<es.length→A'=A.map (·.add (q*kk)))∧OW w (.sl kk es) (.slice A es.length c) fp∧es.length≤c:=by
 obtain⟨v,fp,e1,e2⟩:=h1.ow hp
 obtain⟨A,A',m,c,x,fp',e3,hv,hA⟩:=h1.v1 hy
 rw[e1] at e3
 simp only[Pc.ow.injEq] at e3
 obtain⟨rfl,rfl,rfl⟩:=e3
 have hm:m=es.length∧es.length≤c:=by
  rcases e2.open_ with ⟨h,rfl,rfl⟩ | ⟨b,o,c',tid,cur,fz,val,fps,h,_,_,_,hc,_⟩
  ·cases h; exact⟨rfl,Gqi _⟩
  ·cases h; exact⟨rfl,hc⟩
 obtain⟨rfl,hc⟩:=hm
 exact⟨A,A',c,fp,e1,hv,hA,e2,hc⟩
theorem q_lentl {p kk q:Nat} {es:List (List T)} {e:TypeId} {zs:List Value} {by_:Nat} [hm:TyMake P t e zs by_] (ho:o.op = .call { callee := .builtin .len,args:=#[y],argTypes:=#[t] }) (hg:o.guard=none) (hy:st.ev y = .o (.c (.tl p kk q))) (hp:st.objs[p]? = some (.row kk es)):Qt P ops o st (I ((es.length-q:Nat):Int)) [] n :=
 .pure hg fun a w H F hr=>⟨.int .i64 ((es.length-q:Nat):Int),by
  obtain⟨A,A',c,fp,_,hv,_⟩:=tl_form hr hy hp
  exact len_run ho hv,plainV _ J⟩
theorem q_attl {p kk q:Nat} {es:List (List T)} {et:TypeId} {zs:List Value} {by_:Nat} [hm:TyMake P t et zs by_] (ho:o.op = .indexAddr t y z) (hg:o.guard=none) (hy:st.ev y = .o (.c (.tl p kk q))) (hz:st.ev z = .o (.c (.rd qs (.v (.int k i))))) (hp:st.objs[p]? = some (.row kk es)) (hkz:kk=zs.length) (h0:0≤i) (hi:q+i<es.length) :
  Qt P ops o st (.o (.c (.el p kk (q+i.toNat) 0))) [] n :=
 .pure hg fun a w H F hr=>by
  obtain⟨A,A',c,fp,e1,hv,hA,e2,hc⟩:=tl_form hr hy hp
  have h2:=hr.plain hz
  have hx:es[q+i.toNat]? = some es[q+i.toNat]:=Gqf (by omega)
  obtain⟨b,o',c',h1,_⟩:=RO.at_ e2.ro hx
  cases h1
  have hA2:=hA (by omega)
  simp only[Gqu] at hA2
  refine⟨.pointer (some ⟨b,o'+q*kk+i.toNat*zs.length,none⟩),?_,b,o',es.length,c,.sl kk es,fp,e1,by rw[←hkz,Nat.add_mul]; simp[Nat.add_assoc]⟩
  rw[hA2] at hv
  have hv2:a.eval y = .slice (some ⟨b,o'+q*kk,none⟩) (es.length-q) (c-q):=by rw[hv]; simp[Addr.add]
  simp only[execOp,ho,hv2,h2,Sem.run_bind,Kc (P:=P) (w:=w) t b (o'+q*kk) (es.length-q) (c-q) k i h0 (by omega),Result.andThen_ok]
  rfl
end
end
end Go.Proofs.YtoecjaohdnoenaaGreat
