/-
  Rules, data and contracts of functions: part 22 of the proof.
  Conditions: those that each theorem names.
-/
import Derived.Test.YtfklmiijhcajdaaGreatDDTellRowk20
set_option linter.unusedSimpArgs false
set_option linter.unusedVariables false
set_option maxRecDepth 8000
set_option maxHeartbeats 8000000
namespace Go.Proofs.YtfklmiijhcajdaaGreat
section
open Go.RowKit

theorem W_pre {st st':St} {f:List (Nat×V)→St} (h:Wk st st') (k:∃ l,Wk st' (f l)):∃ l,Wk st (f l):=k.imp fun _ hl=>h.trans hl
theorem row2b {k:Nat} {o:Ob} {a b:List (List T)} (h:a=b) : [o,Ob.row k a] = [o,Ob.row k b]:=by rw[h]
def bodyInts (b:TBody):List Int := [b.Kind,b.Owner,b.X,b.Y,b.VX,b.VY,b.Aim,b.Life,b.Timer]
def worldInts (w:TWorld):List Int:=([w.Tick,w.Seed,(w.Scores.length:Int)]++w.Scores)++w.Bodies.flatMap bodyInts
noncomputable def worldBytes (w:TWorld):ByteArray:=if worldOk w=true then packInts (worldInts w) else ⟨#[]⟩
theorem els_app {α:Type} [Enc α] (xs ys:List α):els (xs++ys)=els xs++els ys:=List.map_append
theorem flat_snoc {bs:List TBody} {k:Nat} (h:k<bs.length):(bs.take (k+1)).flatMap bodyInts=(bs.take k).flatMap bodyInts++bodyInts bs[k]:=by
 rw[Gxk h,List.flatMap_append]
 simp
theorem flat_len (bs:List TBody):∀ k,k≤bs.length→((bs.take k).flatMap bodyInts).length=9*k
 |0,_=>by simp
 |k+1,h=>by
  rw[flat_snoc Aqa,Gqp,flat_len bs k Aqa]
  simp[bodyInts]
  omega
theorem flat_gd {bs:List TBody} (hg:∀ b∈bs,Enc.gd b):∀ x∈bs.flatMap bodyInts,I64 x:=fun x hx=>by
 obtain⟨b,hb,hx⟩:=List.mem_flatMap.1 hx
 obtain⟨b1,b2,b3,b4,b5,b6,b7,b8,b9⟩:=hg b hb
 simp only[bodyInts,List.mem_cons,Gxs,or_false] at hx
 rcases hx with rfl | rfl | rfl | rfl | rfl | rfl | rfl | rfl | rfl <;> assumption
theorem I_bodyInts (b:TBody):Con Tryz.prog 108 [] [ag b] [.row 1 (els (bodyInts b))] (Aqg 0):=by
 refine Con.of Tryz.func108 J Tryz.ntmps108 J (fun E => ?_)
 refine Wz [21,23,19,19,19,19,19,19,19,19,138,53] ?_
 exact Xl J J (W_pre (Wk.sbrow (q:=1) J J (Gqz J)) (X1 [1] Aqc J J J))
theorem I_WorldBytes (x:TWorld) (hg:Enc.gd x):Con Tryz.prog 33 [] [ag x] [] (S (worldBytes x)):=by
 have hc:=I_WorldOk x hg
 obtain⟨gL,gT,gS,gSc,gB⟩:=hg
 cases ho:worldOk x with
 |false =>
  rw[ho] at hc
  rw[show worldBytes x=⟨#[]⟩ by rw[worldBytes,ho]; exact if_neg Aqc]
  refine Con.of Tryz.func33 J Tryz.ntmps33 J (fun E => ?_)
  refine Wz [21,107,37] ?_;refine zx (Qj J J (hc) J) J ?_;refine Wz [5,26] ?_
  exact Xl J J (X1 [] Aqc J J J)
 | true =>
  rw[ho] at hc
  rw[show worldBytes x=packInts (worldInts x) by rw[worldBytes,ho]; exact if_pos rfl]
  obtain⟨_,_,_,hn,_,hb,_⟩:=Kv ho
  have hls:=Yi x.Scores
  have hlb:=Yi x.Bodies
  refine Con.of Tryz.func33 J Tryz.ntmps33 J (fun E => ?_)
  refine Wz [21,107,37] ?_;refine zx (Qj J J (hc) J) J ?_;refine Wz [64,23,19,89,138,40,19] ?_
  have hl3:(els [x.Tick,x.Seed,((els x.Scores).length:Int)]).length=3:=rfl
  refine AL.weak (Wk.sbrow (q:=1) (es:=els [x.Tick,x.Seed,((els x.Scores).length:Int)]) J J (Gqz J)) ?_;refine AL.weak (st':=(⟨_,[(1,Aqf 0),(17,Aqg 1),(19,L x.Scores)],[.box (Aqi x),.row 1 (els [x.Tick,x.Seed,((els x.Scores).length:Int)])]⟩:St)) (X3 [0,1] Aqb) ?_;refine M_app J J J J J J J J J J (Yj _) (Yh _) Aqa Aqa  ?_;refine Wz [2,34,117,97] ?_
  have hini:els (([x.Tick,x.Seed,(x.Scores.length:Int)]++x.Scores)++(x.Bodies.take 0).flatMap bodyInts)=els [x.Tick,x.Seed,((els x.Scores).length:Int)]++els x.Scores:=by rw[List.take_zero,List.flatMap_nil,Gq1,els_app,hls]
  refine Xh (fun m st=>∃ k:Nat,k+m=x.Bodies.length∧(True)∧st=(⟨_,[(1,Aqf 0),(3,Aqg 1),(22,L x.Bodies),(23,I (els x.Bodies).length),(24,I k)],[.box (Aqi x),.row 1 (els (([x.Tick,x.Seed,(x.Scores.length:Int)]++x.Scores)++(x.Bodies.take k).flatMap bodyInts))]⟩:St)) (x.Bodies.length) ⟨(fun k:Nat=>(⟨_,[(1,Aqf 0),(3,Aqg 1),(22,L x.Bodies),(23,I (els x.Bodies).length),(24,I k)],[.box (Aqi x),.row 1 (els (([x.Tick,x.Seed,(x.Scores.length:Int)]++x.Scores)++(x.Bodies.take k).flatMap bodyInts))]⟩:St)) 0,⟨0,Aqa,trivial,J⟩,X4 [0,1] Aqc J (row2b hini) (.c J (.c J (.c J (.c J (.c J (.nil))))))⟩ ?_
  rintro m_A _ ⟨k,hk_A,hp_A,rfl⟩
  have hla:=Yi (([x.Tick,x.Seed,(x.Scores.length:Int)]++x.Scores)++(x.Bodies.take k).flatMap bodyInts)
  have hfl:=flat_len x.Bodies k Aqa 
  have hlc:(([x.Tick,x.Seed,(x.Scores.length:Int)]++x.Scores)++(x.Bodies.take k).flatMap bodyInts).length=3+x.Scores.length+9*k:=by
   rw[Gqp,Gqp,hfl]; rfl
  refine Wz [3,38,17] ?_
  refine Xb J (fun h => ?_) (fun h => ?_)
  ·have h3:k<x.Bodies.length:=by have:=Gqc h; omega
   have hat:=Yg h3
   have hlb9:(els (bodyInts x.Bodies[k])).length=9:=rfl
   refine Wz [7,3,46,36,48,94,37] ?_;refine M1 (Zs J J (I_bodyInts x.Bodies[k]) J J J) J J ?_;refine M_app J J J J J J J J J J (Yj _) (Yh _) Aqa Aqa  ?_;refine Wz [32,85,50,57,18,0,6] ?_
   exact⟨x.Bodies.length-(k+1),Aqa,(fun k:Nat=>(⟨_,[(1,Aqf 0),(3,Aqg 1),(22,L x.Bodies),(23,I (els x.Bodies).length),(24,I k)],[.box (Aqi x),.row 1 (els (([x.Tick,x.Seed,(x.Scores.length:Int)]++x.Scores)++(x.Bodies.take k).flatMap bodyInts))]⟩:St)) (k+1),⟨k+1,Aqa,trivial,J⟩,X4 [0,1] Aqc J (row2b (by rw[flat_snoc h3,←Gq5,els_app _ (bodyInts x.Bodies[k])])) (.c J (.c J (.c J (.c J (.c J (.nil))))))⟩
  ·have h3:¬k<x.Bodies.length:=by have:=Gqd h; omega
   have hk:x.Bodies.take k=x.Bodies:=Gqh Aqa 
   rw[hk] at hlc hla ⊢
   have hgi:Enc.gd (([x.Tick,x.Seed,(x.Scores.length:Int)]++x.Scores)++x.Bodies.flatMap bodyInts):=⟨Aqa,fun y hy=>by
    rcases Gqs.1 hy with hy | hy
    ·rcases Gqs.1 hy with hy | hy
     ·simp only[List.mem_cons,Gxs,or_false] at hy
      rcases hy with rfl | rfl | rfl
      ·exact gT
      ·exact gS
      ·exact⟨Aqa,Aqa⟩
     ·exact gSc.2 y hy
    ·exact flat_gd gB.2 y hy⟩
   have hp:=I_PackInts (([x.Tick,x.Seed,(x.Scores.length:Int)]++x.Scores)++x.Bodies.flatMap bodyInts) hgi Aqa 
   refine Wz [20,10] ?_;refine zx (Qj J J (hp) J) J ?_;refine Wz [53] ?_
   exact Xl J J (X1 [] Aqc J J J)
theorem S_WorldBytes (x:TWorld) (hg:Enc.gd x):Con Tryz.prog 257 [] [ag x] [] (S (worldBytes x)):=by
 have hc:=S_WorldOk x hg
 obtain⟨gL,gT,gS,gSc,gB⟩:=hg
 cases ho:worldOk x with
 |false =>
  rw[ho] at hc
  rw[show worldBytes x=⟨#[]⟩ by rw[worldBytes,ho]; exact if_neg Aqc]
  refine Con.of Tryz.func257 J Tryz.ntmps257 J (fun E => ?_)
  refine Wz [21,107,37] ?_;refine zx (Qj J J (hc) J) J ?_;refine Wz [5,26] ?_
  exact Xl J J (X1 [] Aqc J J J)
 | true =>
  rw[ho] at hc
  rw[show worldBytes x=packInts (worldInts x) by rw[worldBytes,ho]; exact if_pos rfl]
  obtain⟨_,_,_,hn,_,hb,_⟩:=Kv ho
  have hls:=Yi x.Scores
  have hlb:=Yi x.Bodies
  refine Con.of Tryz.func257 J Tryz.ntmps257 J (fun E => ?_)
  refine Wz [21,107,37] ?_;refine zx (Qj J J (hc) J) J ?_;refine Wz [64,23,19,89,138,19] ?_
  have hl3:(els [x.Tick,x.Seed,((els x.Scores).length:Int)]).length=3:=rfl
  refine AL.weak (Wk.sbrow (q:=1) (es:=els [x.Tick,x.Seed,((els x.Scores).length:Int)]) J J (Gqz J)) ?_;refine AL.weak (st':=(⟨_,[(1,Aqf 0),(16,Aqg 1),(18,L x.Scores)],[.box (Aqi x),.row 1 (els [x.Tick,x.Seed,((els x.Scores).length:Int)])]⟩:St)) (X3 [0,1] Aqb) ?_;refine M_app J J J J J J J J J J (Yj _) (Yh _) Aqa Aqa  ?_;refine Wz [2,11] ?_
  have hini:els (([x.Tick,x.Seed,(x.Scores.length:Int)]++x.Scores)++(x.Bodies.take 0).flatMap bodyInts)=els [x.Tick,x.Seed,((els x.Scores).length:Int)]++els x.Scores:=by rw[List.take_zero,List.flatMap_nil,Gq1,els_app,hls]
  refine Xh (fun m st=>∃ k:Nat,k+m=x.Bodies.length∧(True)∧st=(⟨_,[(1,Aqf 0),(3,Aqg 1),(4,I k)],[.box (Aqi x),.row 1 (els (([x.Tick,x.Seed,(x.Scores.length:Int)]++x.Scores)++(x.Bodies.take k).flatMap bodyInts))]⟩:St)) (x.Bodies.length) ⟨(fun k:Nat=>(⟨_,[(1,Aqf 0),(3,Aqg 1),(4,I k)],[.box (Aqi x),.row 1 (els (([x.Tick,x.Seed,(x.Scores.length:Int)]++x.Scores)++(x.Bodies.take k).flatMap bodyInts))]⟩:St)) 0,⟨0,Aqa,trivial,J⟩,X4 [0,1] Aqc J (row2b hini) (.c J (.c J (.c J (.nil))))⟩ ?_
  rintro m_A _ ⟨k,hk_A,hp_A,rfl⟩
  have hla:=Yi (([x.Tick,x.Seed,(x.Scores.length:Int)]++x.Scores)++(x.Bodies.take k).flatMap bodyInts)
  have hfl:=flat_len x.Bodies k Aqa 
  have hlc:(([x.Tick,x.Seed,(x.Scores.length:Int)]++x.Scores)++(x.Bodies.take k).flatMap bodyInts).length=3+x.Scores.length+9*k:=by
   rw[Gqp,Gqp,hfl]; rfl
  refine Wz [56,89,38] ?_
  refine Xb J (fun h => ?_) (fun h => ?_)
  ·have h3:k<x.Bodies.length:=by have:=Gqc h; omega
   have hat:=Yg h3
   have hlb9:(els (bodyInts x.Bodies[k])).length=9:=rfl
   refine Wz [7,75,46,36,48,94,19,19,19,19,19,19,19,19,19,138,211,87] ?_
   exact⟨x.Bodies.length-(k+1),Aqa,(fun k:Nat=>(⟨_,[(1,Aqf 0),(3,Aqg 1),(4,I k)],[.box (Aqi x),.row 1 (els (([x.Tick,x.Seed,(x.Scores.length:Int)]++x.Scores)++(x.Bodies.take k).flatMap bodyInts))]⟩:St)) (k+1),⟨k+1,Aqa,trivial,J⟩,X4 [0,1] Aqc J (row2b (by rw[flat_snoc h3,←Gq5,els_app _ (bodyInts x.Bodies[k])]; rfl)) (.c J (.c J (.c J (.nil))))⟩
  ·have h3:¬k<x.Bodies.length:=by have:=Gqd h; omega
   have hk:x.Bodies.take k=x.Bodies:=Gqh Aqa 
   rw[hk] at hlc hla ⊢
   have hgi:Enc.gd (([x.Tick,x.Seed,(x.Scores.length:Int)]++x.Scores)++x.Bodies.flatMap bodyInts):=⟨Aqa,fun y hy=>by
    rcases Gqs.1 hy with hy | hy
    ·rcases Gqs.1 hy with hy | hy
     ·simp only[List.mem_cons,Gxs,or_false] at hy
      rcases hy with rfl | rfl | rfl
      ·exact gT
      ·exact gS
      ·exact⟨Aqa,Aqa⟩
     ·exact gSc.2 y hy
    ·exact flat_gd gB.2 y hy⟩
   have hp:=S_PackInts (([x.Tick,x.Seed,(x.Scores.length:Int)]++x.Scores)++x.Bodies.flatMap bodyInts) hgi Aqa 
   refine Wz [20,10] ?_;refine zx (Qj J J (hp) J) J ?_;refine Wz [53] ?_
   exact Xl J J (X1 [] Aqc J J J)
end
section
open Go.RowKit
end
section
open Go.RowKit

inductive Den1:V1→V1→Prop
 |same (x:V1):Den1 x x
 |nil (qs:List Nat) (k:Nat):Den1 (.rd qs (.v (.slice none 0 0))) (.rd qs (.sl k []))
inductive DenL:List V1→List V1→Prop
 |nil:DenL [] []
 |cons {x y:V1} {xs ys:List V1} (h:Den1 x y) (t:DenL xs ys):DenL (x::xs) (y::ys)
inductive Den2:V2→V2→Prop
 |same (x:V2):Den2 x x
 |ag {xs ys:List V1} (h:DenL xs ys):Den2 (.ag xs) (.ag ys)
inductive DenA:List V2→List V2→Prop
 |nil:DenA [] []
 |cons {x y:V2} {xs ys:List V2} (h:Den2 x y) (t:DenA xs ys):DenA (x::xs) (y::ys)
section
variable {w:World} {H:Hs} {F:Nat→Prop}
theorem Den1.r {x y:V1} (h:Den1 x y) {v:Value} (hx:R1 w H F x v):R1 w H F y v:=by
 cases h with
 |same=>exact hx
 |nil qs k=>obtain⟨rfl,_⟩:=RO.plain hx; exact .nil _ _ _ Aqd 
theorem DenL.r:∀ {xs ys:List V1},DenL xs ys→xs.length=ys.length∧∀ (i:Nat) (y:V1),ys[i]? = some y→∃ x,xs[i]? = some x∧Den1 x y
 |_,_,.nil=>⟨rfl,fun i y h=>by simp at h⟩
 |_,_,.cons (x:=x) h t=>by
  obtain⟨h1,h2⟩:=DenL.r t
  refine⟨by simp[h1],fun i y hy => ?_⟩
  cases i with
  |zero=>simp at hy; subst hy; exact⟨x,rfl,h⟩
  |succ i=>simpa using h2 i y (by simpa using hy)
theorem Den2.r {x y:V2} (h:Den2 x y) {v:Value} (hx:R2 w H F x v):R2 w H F y v:=by
 cases h with
 |same=>exact hx
 |ag h =>
  obtain⟨h1,h2⟩:=h.r
  obtain⟨us,e,hl,hr⟩:=hx
  refine⟨us,e,Aqa,fun i y u h3 h4 => ?_⟩
  obtain⟨x,h5,h6⟩:=h2 i y h3
  exact h6.r (hr i x u h5 h4)
theorem DenA.r:∀ {xs ys:List V2},DenA xs ys→xs.length=ys.length∧∀ (i:Nat) (y:V2),ys[i]? = some y→∃ x,xs[i]? = some x∧Den2 x y
 |_,_,.nil=>⟨rfl,fun i y h=>by simp at h⟩
 |_,_,.cons (x:=x) h t=>by
  obtain⟨h1,h2⟩:=DenA.r t
  refine⟨by simp[h1],fun i y hy => ?_⟩
  cases i with
  |zero=>simp at hy; subst hy; exact⟨x,rfl,h⟩
  |succ i=>simpa using h2 i y (by simpa using hy)
end
theorem I_copyLevel (x:TLevel) (hg:Enc.gd x) (hL:x.Rows.length≤1048576):Con Tryz.prog 97 [] [ag x] [.row 1 (els x.Rows)] (.o (.ag [.ref 0])):=by
 have hlx:=Yi x.Rows
 have hg1:=hg.1
 refine Con.of Tryz.func97 J Tryz.ntmps97 J (fun E => ?_)
 refine Wz [76,52,23] ?_;refine M_appnil J J J J J J J J (Yj _) (Yh _) Aqa Aqa  ?_;refine Wz [185,48,49] ?_
 exact Xk J J J J (X1 [2] Aqc J J J)
theorem S_copyLevel (x:TLevel) (hg:Enc.gd x) (hL:x.Rows.length≤1048576):Con Tryz.prog 117 [] [ag x] [.row 1 (els x.Rows)] (.o (.ag [.ref 0])):=by
 have hlx:=Yi x.Rows
 have hg1:=hg.1
 have h00:([]:List (List T)).length=0:=rfl
 refine Con.of Tryz.func117 J Tryz.ntmps117 J (fun E => ?_)
 refine Wz [76,52,3,161,19] ?_;refine M_app J J J J J J J J J J (Yj _) (Yh _) Aqa Aqa  ?_;refine Wz [185,48,49] ?_
 exact Xk J J J J (X1 [2] Aqc J J J)
end
section
open Go.RowKit

def zeroWorld:TWorld:=⟨⟨[]⟩,0,0,[],[]⟩
end
section
open Go.RowKit

def colF (q:Int→Bool) (row:ByteArray):Nat→Option Nat
 |0=>none
 |c+1=>match colF q row c with
  |some x=>some x
  |none=>if q (byteAt row c)=true then some c else none
def tileF (q:Int→Bool) (rows:List ByteArray):Nat→Option (Nat×Nat)
 |0=>none
 | r+1=>match tileF q rows r with
  |some x=>some x
  |none=>match rows[r]? with
   |none=>none
   |some row=>(colF q row row.size).map fun c=>(r,c)
def isOpen (t:Int):Bool:=decide (t≠35)
def isDig (p:Int) (t:Int):Bool:=decide (t=49+p)
def spX:Option (Nat×Nat)→Int
 |none => -1
 |some (_,c)=>16*c+2
def spY:Option (Nat×Nat)→Int
 |none => -1
 |some (r,_)=>16*r+2
def startT (l:TLevel) (p:Int):Option (Nat×Nat):=match tileF (isDig p) l.Rows l.Rows.length with
 |some x=>some x
 |none=>tileF isOpen l.Rows l.Rows.length
theorem colF_some {q:Int→Bool} {row:ByteArray}:∀ {n c:Nat},colF q row n=some c→c<n∧q (byteAt row c)=true
 |0,c,h=>by cases h
 | n+1,c,h=>by
  rw[colF] at h
  cases h1:colF q row n with
  |some x=>rw[h1] at h; cases h; have:=colF_some h1; exact⟨Aqa,this.2⟩
  |none =>
   rw[h1] at h
   by_cases h2:q (byteAt row n)=true
   ·rw[if_pos h2] at h; cases h; exact⟨Aqa,h2⟩
   ·rw[if_neg h2] at h; cases h
theorem colF_none {q:Int→Bool} {row:ByteArray}:∀ {n:Nat},colF q row n=none→∀ c,c<n→q (byteAt row c)=false
 |0,h,c,hc=>by omega
 | n+1,h,c,hc=>by
  rw[colF] at h
  cases h1:colF q row n with
  |some x=>rw[h1] at h; cases h
  | none =>
   rw[h1] at h
   by_cases h2:q (byteAt row n)=true
   ·rw[if_pos h2] at h; cases h
   ·by_cases e:c=n
    ·subst e; simpa using h2
    ·exact colF_none h1 c Aqa 
theorem tileF_some {q:Int→Bool} {rows:List ByteArray}:∀ {n r c:Nat},tileF q rows n=some (r,c)→∃ h:r<rows.length,r<n∧c<rows[r].size∧q (byteAt rows[r] c)=true
 |0,r,c,h=>by cases h
 | n+1,r,c,h=>by
  rw[tileF] at h
  cases h1:tileF q rows n with
  |some x=>rw[h1] at h; cases h; obtain⟨a,b,d⟩:=tileF_some h1; exact⟨a,Aqa,d⟩
  | none =>
   rw[h1] at h
   cases h2:rows[n]? with
   |none=>rw[h2] at h; cases h
   |some row =>
    rw[h2] at h
    simp only[Option.map_eq_some_iff,Prod.mk.injEq] at h
    obtain⟨c',h3,rfl,rfl⟩:=h
    have hn:=(Gqo.1 h2).1
    have he:=(Gqo.1 h2).2
    have:=colF_some h3
    exact⟨hn,Aqa,by rw[he]; exact this.1,by rw[he]; exact this.2⟩
theorem tileF_none {q:Int→Bool} {rows:List ByteArray}:∀ {n:Nat},tileF q rows n=none→∀ r (h:r<rows.length),r<n→∀ c,c<rows[r].size→q (byteAt rows[r] c)=false
 |0,h,r,hr,hn,c,hc=>by omega
 | n+1,h,r,hr,hn,c,hc=>by
  rw[tileF] at h
  cases h1:tileF q rows n with
  |some x=>rw[h1] at h; cases h
  | none =>
   rw[h1] at h
   by_cases e:r=n
   ·subst e
    rw[Gqf hr] at h
    simp only[Option.map_eq_none_iff] at h
    exact colF_none h c hc
   ·exact tileF_none h1 r hr Aqa c hc
theorem tileM_open {e:Bool} {t:Int} {s s':Seen×Bool} (h:tileM e t s=some s') (ho:s'.2=true):s.2=true∨t≠35:=by
 by_cases ht:t=35
 ·rw[tileM,if_pos ht] at h; cases h; exact .inl ho
 ·exact .inr ht
theorem cols_open {row:ByteArray} {er:Bool} {w:Nat} {s:Seen×Bool}:∀ {n:Nat} {s':Seen×Bool},colsM row er w s n=some s'→s'.2=true→s.2=true∨∃ c,c<n∧byteAt row c≠35
 |0,s',h,ho=>by cases h; exact .inl ho
 | n+1,s',h,ho=>by
  rw[colsM] at h
  cases h1:colsM row er w s n with
  |none=>rw[h1] at h; cases h
  | some s1 =>
   rw[h1] at h
   rcases tileM_open h ho with h2 | h2
   ·rcases cols_open h1 h2 with h3 | ⟨c,hc,h3⟩
    ·exact .inl h3
    ·exact .inr ⟨c,Aqa,h3⟩
   ·exact .inr ⟨n,Aqa,h2⟩
theorem rows_open {rows:List ByteArray} {w:Nat}:∀ {n:Nat} {s:Seen×Bool},rowsM rows w n=some s→s.2=true→∃ r c,∃ h:r<rows.length,r<n∧c<rows[r].size∧byteAt rows[r] c≠35
 |0,s,h,ho=>by cases h; cases ho
 | n+1,s,h,ho=>by
  rw[rowsM] at h
  cases h1:rowsM rows w n with
  |none=>rw[h1] at h; cases h
  | some s1 =>
   rw[h1] at h
   cases h2:rows[n]? with
   |none=>rw[h2] at h; cases h
   | some row =>
    rw[h2] at h
    simp only at h
    split at h
    ·rename_i hw
     have hn:=(Gqo.1 h2).1
     have he:=(Gqo.1 h2).2
     rcases cols_open h ho with h3 | ⟨c,hc,h3⟩
     ·obtain⟨r,c,a,b,d⟩:=rows_open h1 h3
      exact⟨r,c,a,Aqa,d⟩
     ·exact⟨n,c,hn,Aqa,by rw[he]; omega,by rw[he]; exact h3⟩
    ·cases h
theorem level_open {l:TLevel} (h:levelOk l=true):∃ r c,∃ h:r<l.Rows.length,c<(l.Rows[r]).size∧byteAt (l.Rows[r]) c≠35:=by
 unfold levelOk at h
 simp only[Gqi] at h
 obtain⟨_,h5⟩:=h
 split at h5
 ·rename_i s hs
  obtain⟨r,c,a,b,d⟩:=rows_open hs h5
  exact⟨r,c,a,d⟩
 ·cases h5
theorem start_some {l:TLevel} (hl:levelOk l=true) {p:Int} (hp:0≤p∧p≤3):∃ r c,startT l p=some (r,c)∧∃ h:r<l.Rows.length,c<(l.Rows[r]).size∧byteAt (l.Rows[r]) c≠35:=by
 unfold startT
 cases h1:tileF (isDig p) l.Rows l.Rows.length with
 |some x =>
  obtain⟨r,c⟩:=x
  obtain⟨a,b,d,e⟩:=tileF_some h1
  refine⟨r,c,J,a,d,?_⟩
  have:=Gqc e
  omega
 | none =>
  cases h2:tileF isOpen l.Rows l.Rows.length with
  |some x =>
   obtain⟨r,c⟩:=x
   obtain⟨a,b,d,e⟩:=tileF_some h2
   exact⟨r,c,J,a,d,Gqc e⟩
  |none =>
   obtain⟨r,c,a,d,e⟩:=level_open hl
   have:=tileF_none h2 r a a c d
   exact absurd e (Gqd this)
def fresh (l:TLevel) (p:Int):TBody:=⟨0,p,spX (startT l p),spY (startT l p),0,0,1,3,0⟩
theorem fresh_free {l:TLevel} (hl:levelOk l=true) {p:Int} (hp:0≤p∧p≤3):solidM l (fresh l p).X (fresh l p).Y 12=false∧(0≤(fresh l p).X∧(fresh l p).X≤400)∧(0≤(fresh l p).Y∧(fresh l p).Y≤400):=by
 obtain⟨r,c,h1,hr,hc,hb⟩:=start_some hl hp
 obtain⟨l3,l12,w,w4,w20,hw⟩:=Yz hl
 have hwr:=hw r hr
 rw[fresh,h1]
 refine⟨solidM_F ?_,by simp only[spX]; omega,by simp only[spY]; omega⟩
 rintro⟨r',c',a1,a2,a3,a4,hwall⟩
 simp only[spX,spY] at a1 a2 a3 a4
 have e1:r'=r:=Aqa
 have e2:c'=c:=Aqa
 subst e1 e2
 exact no_wall hr hc hb hwall
def newWorld (l:TLevel) (n:Nat) (seed:Int):TWorld:=⟨l,0,seed,List.replicate n 0,(List.range n).map fun (k:Nat)=>fresh l (k:Int)⟩
theorem flat_length (bs:List TBody):(bs.flatMap bodyInts).length=9*bs.length:=by
 have:=flat_len bs bs.length (Gqk _)
 rwa[List.take_length] at this
end
section
open Go.RowKit

def nextR (s:Int):Int:=if 0≤s∧s≤65535 then (s*25173+13849)%65536 else 0
def belowR (s n:Int):Int:=nextR s/16%n
theorem Y9 (s:Int):0≤nextR s∧nextR s≤65535:=by
 unfold nextR
 split <;> omega
def pressed (i k:Int):Bool:=decide (((i.toNat &&& k.toNat:Nat):Int)≠0)
noncomputable def steer (l:TLevel) (b:TBody) (i:Int):TBody×Bool :=
 (⟨b.Kind,b.Owner,b.X,b.Y,
  if (pressed i 1 && !pressed i 2)=true then -3 else if (pressed i 2 && !pressed i 1)=true then 3 else 0,
  if (pressed i 4&&solidM l b.X (b.Y+1) 12)=true then -9 else min (b.VY+1) 8,
  if (pressed i 1 && !pressed i 2)=true then -1 else if (pressed i 2 && !pressed i 1)=true then 1 else b.Aim,
  b.Life,
  if (pressed i 8&&decide ((if 0<b.Timer then b.Timer-1 else b.Timer)=0))=true then 12 else (if 0<b.Timer then b.Timer-1 else b.Timer)⟩,
  pressed i 8&&decide ((if 0<b.Timer then b.Timer-1 else b.Timer)=0))
def slide (hit:Int→Bool) (step:Int):Nat→Int→Int×Bool
 |0,x=>(x,false)
 |n+1,x=>if hit (x+step)=true then (x,true) else slide hit step n (x+step)
def dirOf (v:Int):Int:=if v<0 then -1 else 1
noncomputable def moveX (l:TLevel) (b:TBody):Int×Bool:=slide (fun x=>solidM l x b.Y (sizeOf b.Kind)) (dirOf b.VX) b.VX.natAbs b.X
noncomputable def moveY (l:TLevel) (b:TBody):Int×Bool:=slide (fun y=>solidM l (moveX l b).1 y (sizeOf b.Kind)) (dirOf b.VY) b.VY.natAbs b.Y
noncomputable def moveM (l:TLevel) (b:TBody):TBody×Bool :=
 (⟨b.Kind,b.Owner,(moveX l b).1,(moveY l b).1,if (moveX l b).2=true then 0 else b.VX,if (moveY l b).2=true then 0 else b.VY,b.Aim,b.Life,b.Timer⟩,(moveX l b).2 || (moveY l b).2)
def shotOf (b:TBody):TBody:=⟨1,b.Owner,b.X+4,b.Y+4,6*b.Aim,0,0,0,25⟩
def meetM (a b:TBody):Bool :=
 ((decide (a.X<b.X+sizeOf b.Kind)&&decide (b.X<a.X+sizeOf a.Kind))&&decide (a.Y<b.Y+sizeOf b.Kind))&&decide (b.Y<a.Y+sizeOf a.Kind)
structure Placed (b:TBody):Prop where
 k:0≤b.Kind∧b.Kind≤2
 x:0≤b.X∧b.X≤1000
 y:0≤b.Y∧b.Y≤1000
theorem size_pos {k:Int} (h:0≤k∧k≤2):4≤sizeOf k∧sizeOf k≤12:=by
 unfold sizeOf
 split
 ·omega
 ·split
  ·omega
  ·split <;> omega
def colSp (row:ByteArray) (r:Nat):Nat→List (List Int)
 |0 => []
 |c+1=>if byteAt row c=111 then colSp row r c ++ [[(c:Int)*16+4,(r:Int)*16+4]] else colSp row r c
def rowSp (rows:List ByteArray):Nat→List (List Int)
 |0 => []
 |r+1=>match rows[r]? with
  |none=>rowSp rows r
  |some row=>rowSp rows r++colSp row r row.size
end
section
open Go.RowKit

section
variable {P:Program} {E:Env} {ops:Array Oper} {o:Oper} {st:St} {n:Nat} {y:Operand}
theorem Qz {p i:Nat} (ho:o.op = .nilCheck y) (hg:o.guard=none) (hy:st.ev y = .o (.c (.ptr p i))):Qt P ops o st (.o (.c (.ptr p i))) [] n :=
 .pure hg fun a w H F hr=>by
  obtain⟨g,tt,vs,e1,e2⟩:=hr.v1 hy
  exact⟨.pointer (some ⟨g,i,none⟩),by simp[execOp,ho,e2],g,tt,vs,e1,J⟩
end
structure Mid (st':St) (e:Exit) (st:St):Prop where
 h:e = .normal∧Wk st st'
section
variable {P:Program} {E:Env} {st st':St}
theorem Mid.n (h:Wk st st'):Mid st' .normal st:=⟨rfl,h⟩
theorem A_join {c d:Code} {Q Q':Exit→St→Prop} (st':St) (h1:AWP P E c (Mid st') st) (h2:AWP P E d Q' st'):AWP P E c (thn (AWP P E d Q') Q) st :=
 AWP.mono (fun e s h=>by obtain⟨rfl,hw⟩:=h.h; exact⟨AWP.weak hw h2⟩) h1
end
end
section
open Go.RowKit
end
section
open Go.RowKit
end
section
open Go.RowKit

theorem I_NextRandom (s:Int) (h:0≤s∧s≤65535):Con Tryz.prog 202 [] [ai s] [] (I (nextR s)):=by
 have f1:decide (s<0)=false:=Gqa Aqa 
 have f2:decide (65535<s)=false:=Gqa Aqa 
 refine Con.of Tryz.func202 J Tryz.ntmps202 J (fun E => ?_)
 refine Wz [125,134,28,160,22,33,10,155,18,170,53] ?_
 exact Xl J J (X1 [] Aqc J J (Xq (by rw[nextR,if_pos h])))
theorem and_64k (n:Int) (h:0≤n):((n.toNat &&& (65535:Int).toNat:Nat):Int)=n%65536:=by
 have:=Nat.and_two_pow_sub_one_eq_mod n.toNat 16
 rw[show (65535:Int).toNat=2 ^ 16-1 from rfl,this]
 omega
theorem S_NextRandom (s:Int) (h:0≤s∧s≤65535):Con Tryz.prog 293 [] [ai s] [] (I (nextR s)):=by
 have hc:=X0 s 0 65535
 rw[Yx.2 h] at hc
 refine Con.of Tryz.func293 J Tryz.ntmps293 J (fun E => ?_)
 refine Wz [125] ?_;refine zx (Qj J J (hc) J) J ?_;refine Wz [64,10,155,18] ?_;refine zx (q_band J J J J Aqa) J ?_;refine Wz [53] ?_
 exact Xl J J (X1 [] Aqc J J (Xq (by rw[nextR,if_pos h,and_64k _ Aqa])))
theorem Xn (s n:Int) (h:0≤s∧s≤65535) (hn:1≤n∧n≤4096):Con Tryz.prog 204 [] [ai s,ai n] [] (.tu [.c (jn (nextR s)),.c (jn (belowR s n))]):=by
 have f1:decide (s<0)=false:=Gqa Aqa 
 have f2:decide (65535<s)=false:=Gqa Aqa 
 have f3:decide (n<1)=false:=Gqa Aqa 
 have f4:decide (4096<n)=false:=Gqa Aqa 
 have hc:=I_NextRandom s h
 have hr:=Y9 s
 refine Con.of Tryz.func204 J Tryz.ntmps204 J (fun E => ?_)
 refine Wz [3,32,119,28,160,22,28,134,22,28,160,22,33,10] ?_;refine zx (Qj J J (hc) J) J ?_;refine Wz [2,17] ?_;refine Xg u8_31 [[],[],[24],[],[24,25,26],[23],[4,23,24,25,26,27]] [[24,25,26,27],[4,23,26],[4,23,26],[4,23,24,25],[4,23],[24,25,26,27],[]] J ?_;refine Wz [4,4] ?_;refine DR.s (q_quo J J J J Aqa) J J (DR.s (Qa J J J) J J (DR.s (q_rem J J J J Aqa) J J ?_));refine Wz [156,156,13,6,49] ?_
 exact E_tmp2 J J J (X1 [] Aqc J J J)
theorem Xz (s n:Int) (h:0≤s∧s≤65535) (hn:1≤n∧n≤4096):Con Tryz.prog 216 [] [ai s,ai n] [] (.tu [.c (jn (nextR s)),.c (jn (belowR s n))]):=by
 have c1:=X0 s 0 65535
 have c2:=X0 n 1 4096
 rw[Yx.2 h] at c1
 rw[Yx.2 hn] at c2
 have hc:=S_NextRandom s h
 have hr:=Y9 s
 refine Con.of Tryz.func216 J Tryz.ntmps216 J (fun E => ?_)
 refine Wz [3,32,73] ?_;refine zx (Qj J J (c1) J) J ?_;refine Wz [5,28] ?_;refine zx (Qj J J (c2) J) J ?_;refine Wz [1,5,22,33,10] ?_;refine zx (Qj J J (hc) J) J ?_;refine Wz [2,17] ?_;refine Xg u8_31 [[],[],[18],[],[18,19,20],[17],[4,17,18,19,20,21]] [[18,19,20,21],[4,17,20],[4,17,20],[4,17,18,19],[4,17],[18,19,20,21],[]] J ?_;refine Wz [4,4] ?_;refine DR.s (q_quo J J J J Aqa) J J (DR.s (Qa J J J) J J (DR.s (q_rem J J J J Aqa) J J ?_));refine Wz [156,156,13,6,49] ?_
 exact E_tmp2 J J J (X1 [] Aqc J J J)
end
section
open Go.RowKit

theorem place_rng {l:TLevel} {x y s:Int} (hl:levelOk l=true) (h1:1≤s∧s≤16) (h:solidM l x y s=false):(0≤x∧x≤400)∧(0≤y∧y≤400):=by
 obtain⟨l3,l12,w,w4,w20,hw⟩:=Yz hl
 have hn:¬hits l x y s:=fun hh=>by rw[Ko hh] at h; cases h
 have:¬(x<0∨y<0∨(w:Int)*16-s<x∨(l.Rows.length:Int)*16-s<y):=fun q=>hn (out_hits hw h1.1 q)
 omega
end
section
open Go.RowKit

theorem slide_free {hit:Int→Bool} {step:Int}:∀ (n:Nat) (x:Int),hit x=false→hit (slide hit step n x).1=false
 |0,x,h=>h
 |n+1,x,h=>by
  rw[slide]
  split
  ·exact h
  ·exact slide_free n (x+step) (by rename_i q; simpa using q)
section
variable {P:Program} {E:Env} {st st':St}
end
end
section
open Go.RowKit

def metC (bs:List TBody) (b:TBody) (o:Int) (k:Nat):Bool:=match bs[k]? with
 |none=>false
 |some p=>(decide ((k:Int)≠o)&&decide (0<p.Life))&&meetM p b
def metF (bs:List TBody) (b:TBody) (o:Int):Nat→Option Nat
 |0=>none
 |n+1=>match metF bs b o n with
  |some k=>some k
  |none=>if metC bs b o n=true then some n else none
section
variable {bs:List TBody} {b p:TBody} {o:Int} {k n:Nat}
theorem metF_lt:∀ {n:Nat},metF bs b o n=some k→k<n∧metC bs b o k=true
 |0,h=>by cases h
 | n+1,h=>by
  rw[metF] at h
  cases hm:metF bs b o n with
  |some j =>
   rw[hm] at h
   cases h
   have:=metF_lt hm
   exact⟨Aqa,this.2⟩
  |none =>
   rw[hm] at h
   simp only at h
   split at h
   ·cases h; rename_i hc; exact⟨Aqa,hc⟩
   ·cases h
theorem metC_life (h:metC bs b o k=true):∃ p,bs[k]? = some p∧0<p.Life∧(k:Int)≠o∧meetM p b=true:=by
 unfold metC at h
 split at h
 ·cases h
 ·rename_i p hp
  simp only[Gqi,decide_eq_true_eq] at h
  exact⟨p,hp,h.1.2,h.1.1,h.2⟩
end
theorem some_sm {α:Type} {xs:List α} {i:Nat} (h:i<xs.length):∃ x,xs[i]? = some x:=⟨xs[i],Gqf h⟩
def addM (ss:List Int) (k:Nat):List Int:=match ss[k]? with
 |none=>ss
 |some s=>ss.set k (min (s+1) 1000000)
end
section
open Go.RowKit

def spotsM (l:TLevel):List (List Int):=rowSp l.Rows l.Rows.length
theorem colSp_at {row:ByteArray} {r:Nat}:∀ {n:Nat} {s:List Int},s∈colSp row r n→∃ c:Nat,c<n∧byteAt row c=111∧s = [(c:Int)*16+4,(r:Int)*16+4]
 |0,s,h=>by simp[colSp] at h
 | n+1,s,h=>by
  rw[colSp] at h
  split at h
  ·rename_i hb
   rcases Gqs.1 h with h | h
   ·obtain⟨c,h1,h2⟩:=colSp_at h; exact⟨c,Aqa,h2⟩
   ·exact⟨n,Aqa,hb,by simpa using h⟩
  ·obtain⟨c,h1,h2⟩:=colSp_at h; exact⟨c,Aqa,h2⟩
theorem rowSp_at {rows:List ByteArray}:∀ {n:Nat} {s:List Int},s∈rowSp rows n→∃ (r c:Nat) (row:ByteArray),r<n∧rows[r]? = some row∧c<row.size∧byteAt row c=111∧s = [(c:Int)*16+4,(r:Int)*16+4]
 |0,s,h=>by simp[rowSp] at h
 | n+1,s,h=>by
  rw[rowSp] at h
  cases hr:rows[n]? with
  |none=>rw[hr] at h; obtain⟨r,c,row,h1,h2⟩:=rowSp_at h; exact⟨r,c,row,Aqa,h2⟩
  |some row =>
   rw[hr] at h
   rcases Gqs.1 h with h | h
   ·obtain⟨r,c,row,h1,h2⟩:=rowSp_at h; exact⟨r,c,row,Aqa,h2⟩
   ·obtain⟨c,h1,h2⟩:=colSp_at h; exact⟨n,c,row,Aqa,hr,h1,h2⟩
end
section
open Go.RowKit

def tick1 (b:TBody):TBody:=⟨b.Kind,b.Owner,b.X,b.Y,b.VX,b.VY,b.Aim,b.Life,b.Timer-1⟩
noncomputable def plOne (l:TLevel) (i:Int) (k:Nat) (bs:List TBody) (b:TBody):List TBody :=
 if b.Life=0 then bs.set k (if b.Timer-1=0 then fresh l k else tick1 b)
 else if (steer l b i).2=true∧bs.length<24 then bs.set k (steer l b i).1 ++ [shotOf (steer l b i).1] else bs.set k (steer l b i).1
noncomputable def plM (l:TLevel) (row:List Int) (bs:List TBody):Nat→List TBody
 |0=>bs
 |k+1=>match (plM l row bs k)[k]? with
  |none=>plM l row bs k
  |some b=>plOne l (row.getD k 0) k (plM l row bs k) b
structure BM (l:TLevel) (n:Nat) (b:TBody):Prop where
 k:0≤b.Kind∧b.Kind≤2
 o:0≤b.Owner∧b.Owner<n
 p:solidM l b.X b.Y (sizeOf b.Kind)=false
 vx : -15≤b.VX∧b.VX≤15
 vy : -15≤b.VY∧b.VY≤15
 f:0≤b.Life∧b.Life≤3
structure LM (l:TLevel) (n:Nat) (bs:List TBody):Prop where
 len:n≤bs.length∧bs.length≤24
 at_:∀ k b,bs[k]? = some b→BM l n b∧(b.Kind=0↔k<n)
structure PlI (l:TLevel) (n k:Nat) (b:TBody):Prop where
 kd:b.Kind=0
 ow:b.Owner=k
 am:b.Aim=1∨b.Aim = -1
 tm:0≤b.Timer∧b.Timer≤20
 dd:b.Life=0→1≤b.Timer
 bm:bodyM l (b.Owner+1) b=true
theorem body_facts {l:TLevel} {n k:Nat} {b:TBody} (h:bodyAt l n k b=true):BM l n b∧(b.Kind=0↔k<n)∧(0≤b.Timer∧b.Timer≤25)∧(k<n→PlI l n k b):=by
 unfold bodyAt at h
 rw[Gqi] at h
 obtain⟨h1,h2⟩:=h
 have h1':=h1
 simp only[bodyM,Gqi,Gq8,Yx] at h1
 obtain⟨hk,ho,hp,hvx,hvy,ht⟩:=h1
 have hbm:bodyM l (b.Owner+1) b=true:=by
  simp only[bodyM,Gqi,Gq8,Yx]
  exact⟨hk,⟨ho.1,Aqa⟩,hp,hvx,hvy,ht⟩
 unfold tailM at ht
 by_cases hkn:k<n
 ·rw[if_pos hkn,decide_eq_true_eq] at h2
  rw[if_pos h2.1,Gqi,Gqi,decide_eq_true_eq,Yx] at ht
  obtain⟨⟨ha,hf⟩,htm⟩:=ht
  have htt:(0≤b.Timer∧b.Timer≤20)∧(b.Life=0→1≤b.Timer):=by
   split at htm
   ·have:=Yx.1 htm; exact⟨Aqa,fun _=>this.1⟩
   ·have:=Yx.1 htm; exact⟨Aqa,fun h=>absurd h Aqe⟩
  exact⟨⟨hk,⟨ho.1,Aqa⟩,hp,hvx,hvy,hf⟩,⟨fun _=>hkn,fun _=>h2.1⟩,Aqa,fun _=>⟨h2.1,h2.2,ha,htt.1,htt.2,hbm⟩⟩
 ·rw[if_neg hkn,decide_eq_true_eq] at h2
  rw[if_neg h2] at ht
  have htt:(0≤b.Life∧b.Life≤3)∧(0≤b.Timer∧b.Timer≤25):=by
   split at ht
   ·rw[Gqi,decide_eq_true_eq,Yx] at ht; omega
   ·rw[decide_eq_true_eq] at ht; omega
  exact⟨⟨hk,⟨ho.1,Aqa⟩,hp,hvx,hvy,htt.1⟩,⟨fun h=>absurd h h2,fun h=>absurd h hkn⟩,htt.2,fun h=>absurd h hkn⟩
theorem LM.set {l:TLevel} {n k:Nat} {bs:List TBody} {b b':TBody} (h:LM l n bs) (hb:bs[k]? = some b) (h1:BM l n b') (h2:b'.Kind=b.Kind):LM l n (bs.set k b'):=by
 refine⟨by rw[Gqx]; exact h.len,fun j c hc => ?_⟩
 rw[List.getElem?_set] at hc
 split at hc
 ·rename_i e
  subst e
  split at hc
  ·cases hc; exact⟨h1,by rw[h2]; exact (h.at_ _ _ hb).2⟩
  ·cases hc
 ·exact h.at_ _ _ hc
theorem LM.app {l:TLevel} {n:Nat} {bs:List TBody} {c:TBody} (h:LM l n bs) (hl:bs.length<24) (h1:BM l n c) (h2:c.Kind≠0):LM l n (bs ++ [c]):=by
 have:=h.len
 refine⟨by rw[Gqp]; simp; omega,fun j d hd => ?_⟩
 rw[List.getElem?_append] at hd
 split at hd
 ·exact h.at_ _ _ hd
 ·rename_i hj
  have hj2:=Yu hd
  simp only[List.length_singleton] at hj2
  have:j=bs.length:=Aqa
  subst this
  simp only[Nat.sub_self,Gxc,Option.some.injEq] at hd
  subst hd
  exact⟨h1,fun h=>absurd h h2,fun h=>by omega⟩
theorem shot_free {l:TLevel} {x y:Int} (h:solidM l x y 12=false):solidM l (x+4) (y+4) 4=false:=by
 refine solidM_F fun ⟨r,c,h1,h2,h3,h4,hw⟩ => ?_
 have:hits l x y 12:=⟨r,c,Aqa,Aqa,Aqa,Aqa,hw⟩
 rw[Ko this] at h
 cases h
theorem steer_aim {l:TLevel} {b:TBody} {i:Int} (h:b.Aim=1∨b.Aim = -1):(steer l b i).1.Aim=1∨(steer l b i).1.Aim = -1:=by
 simp only[steer]
 split
 ·exact .inr rfl
 ·split
  ·exact .inl rfl
  ·exact h
theorem steer_time {l:TLevel} {b:TBody} {i:Int} (h:0≤b.Timer∧b.Timer≤20):0≤(steer l b i).1.Timer∧(steer l b i).1.Timer≤20:=by
 simp only[steer]
 split
 ·omega
 ·split <;> omega
theorem BM.steer {l:TLevel} {n:Nat} {b:TBody} (h:BM l n b) (i:Int):BM l n (steer l b i).1:=by
 obtain⟨hk,ho,hp,hvx,hvy,hf⟩:=h
 refine⟨hk,ho,hp,?_,?_,hf⟩
 ·simp only[Go.Proofs.YtfklmiijhcajdaaGreat.steer]
  split
  ·omega
  ·split <;> omega
 ·simp only[Go.Proofs.YtfklmiijhcajdaaGreat.steer]
  split
  ·omega
  ·rw[Int.min_def]; split <;> omega
theorem BM.shot {l:TLevel} {n:Nat} {b:TBody} (h:BM l n b) (hk:b.Kind=0) (ha:b.Aim=1∨b.Aim = -1):BM l n (shotOf b) :=
 ⟨by simp[shotOf],h.o,by have:=h.p; rw[hk] at this; exact shot_free this,by simp only[shotOf]; omega,by simp[shotOf],by simp[shotOf]⟩
theorem BM.fresh {l:TLevel} (hl:levelOk l=true) {n k:Nat} (hk:k<n) (hn:n≤4):BM l n (fresh l k):=by
 obtain⟨h1,h2,h3⟩:=fresh_free hl (p:=(k:Int)) ⟨Aqa,Aqa⟩
 exact⟨by simp[Go.Proofs.YtfklmiijhcajdaaGreat.fresh],by simp only[Go.Proofs.YtfklmiijhcajdaaGreat.fresh]; omega,h1,by simp[Go.Proofs.YtfklmiijhcajdaaGreat.fresh],by simp[Go.Proofs.YtfklmiijhcajdaaGreat.fresh],by simp[Go.Proofs.YtfklmiijhcajdaaGreat.fresh]⟩
theorem BM.placed {l:TLevel} (hl:levelOk l=true) {n:Nat} {b:TBody} (h:BM l n b):Placed b∧(b.X≤400∧b.Y≤400):=by
 have hs:=size_pos h.k
 have:=place_rng hl ⟨Aqa,Aqa⟩ h.p
 exact⟨⟨h.k,Aqa,Aqa⟩,Aqa⟩
structure P1 (l:TLevel) (n:Nat) (bs0 bs:List TBody) (k:Nat):Prop where
 lm:LM l n bs
 old:∀ j,k≤j→j<n→bs[j]? = bs0[j]?
 tm:∀ b∈bs,0≤b.Timer∧b.Timer≤25
theorem P1.start {l:TLevel} {n:Nat} {bs:List TBody} (h1:n≤bs.length∧bs.length≤24) (h:bodiesOk l n bs):P1 l n bs bs 0:=by
 have hat:∀ k b,bs[k]? = some b→bodyAt l n k b=true:=fun k b hb=>by
  obtain⟨h2,rfl⟩:=Gqo.1 hb
  exact h k h2
 refine⟨⟨h1,fun k b hb => ?_⟩,fun _ _ _=>rfl,fun b hb => ?_⟩
 ·have:=body_facts (hat k b hb); exact⟨this.1,this.2.1⟩
 ·obtain⟨k,hk⟩:=List.getElem?_of_mem hb
  exact (body_facts (hat k b hk)).2.2.1
theorem old_at {l:TLevel} {n k:Nat} {bs:List TBody} {b:TBody} (h:bodiesOk l n bs) (hb:bs[k]? = some b) (hk:k<n):PlI l n k b:=by
 obtain⟨h2,rfl⟩:=Gqo.1 hb
 exact (body_facts (h k h2)).2.2.2 hk
section
variable {l:TLevel} {n k:Nat} {bs0 bs:List TBody} {b b':TBody}
theorem P1.set (h:P1 l n bs0 bs k) (hb:bs[k]? = some b) (h1:BM l n b') (h2:b'.Kind=b.Kind) (ht:0≤b'.Timer∧b'.Timer≤25):P1 l n bs0 (bs.set k b') (k+1) :=
 ⟨h.lm.set hb h1 h2,fun j hj hn=>by rw[Gq9 Aqa]; exact h.old j Aqa hn,fun c hc=>by
  rcases Gxi hc with h3 | h3
  ·exact h.tm c h3
  ·subst h3; exact ht⟩
theorem P1.app (h:P1 l n bs0 bs k) (hl:bs.length<24) {c:TBody} (h1:BM l n c) (h2:c.Kind≠0) (ht:0≤c.Timer∧c.Timer≤25):P1 l n bs0 (bs ++ [c]) k :=
 ⟨h.lm.app hl h1 h2,fun j hj hn=>by have:=h.lm.len; rw[Gqw Aqa]; exact h.old j hj hn,fun d hd=>by
  rcases Gqs.1 hd with h3 | h3
  ·exact h.tm d h3
  ·rw[Gxj] at h3; subst h3; exact ht⟩
end
theorem P1.one {l:TLevel} (hl:levelOk l=true) {n k:Nat} (hn:n≤4) {bs0 bs:List TBody} {b:TBody} (h:P1 l n bs0 bs k) (hk:k<n) (hb:bs[k]? = some b) (hI:PlI l n k b) (i:Int):P1 l n bs0 (plOne l i k bs b) (k+1):=by
 have hB:=(h.lm.at_ k b hb).1
 unfold plOne
 split
 ·split
  ·exact h.set hb (BM.fresh hl hk hn) (by rw[hI.kd]; rfl) (by simp[fresh])
  ·rename_i hf ht
   have:=hI.dd hf
   have:=hI.tm
   exact h.set hb ⟨hB.k,hB.o,hB.p,hB.vx,hB.vy,hB.f⟩ J (by simp only[tick1]; omega)
 ·have hs:=steer_time (l:=l) (i:=i) hI.tm
  have h1:=h.set hb (hB.steer i) (by rfl) ⟨hs.1,Aqa⟩
  split
  ·rename_i hc
   exact h1.app (by rw[Gqx]; exact hc.2) ((hB.steer i).shot hI.kd (steer_aim hI.am)) (by simp[shotOf]) (by simp[shotOf])
  ·exact h1
theorem P1.all {l:TLevel} (hl:levelOk l=true) {n:Nat} (hn:n≤4) {bs:List TBody} (h1:n≤bs.length∧bs.length≤24) (h:bodiesOk l n bs) (row:List Int):∀ k,k≤n→P1 l n bs (plM l row bs k) k
 |0,_=>P1.start h1 h
 |k+1,hk=>by
  have hp:=P1.all hl hn h1 h row k Aqa 
  have hlk:k<(plM l row bs k).length:=by have:=hp.lm.len; omega
  obtain⟨b,hb⟩:=some_sm hlk
  have ho:=hp.old k (Gqk _) Aqa 
  rw[plM,hb]
  exact hp.one hl hn Aqa hb (old_at h (by rw[←ho]; exact hb) Aqa) _

/-! ### Moving -/
noncomputable def mvOne (l:TLevel) (b:TBody):Option TBody :=
 if b.Kind=0∧0<b.Life then some (moveM l b).1
 else if b.Kind=1 then if (moveM l b).2=true∨b.Timer-1=0 then none else some (tick1 (moveM l b).1)
 else some b
noncomputable def mvM (l:TLevel) (bs:List TBody):List TBody:=bs.filterMap (mvOne l)
theorem BM.move {l:TLevel} {n:Nat} {b:TBody} (h:BM l n b):BM l n (moveM l b).1:=by
 obtain⟨hk,ho,hp,hvx,hvy,hf⟩:=h
 have h1:solidM l (moveX l b).1 b.Y (sizeOf b.Kind)=false:=slide_free (hit:=fun x=>solidM l x b.Y (sizeOf b.Kind)) _ _ hp
 have h2:solidM l (moveX l b).1 (moveY l b).1 (sizeOf b.Kind)=false:=slide_free (hit:=fun y=>solidM l (moveX l b).1 y (sizeOf b.Kind)) _ _ h1
 refine⟨hk,ho,h2,?_,?_,hf⟩
 ·simp only[moveM]; split <;> omega
 ·simp only[moveM]; split <;> omega
theorem mvOne_ok {l:TLevel} {n:Nat} {b c:TBody} (h:BM l n b) (hc:mvOne l b=some c):BM l n c∧c.Kind=b.Kind:=by
 unfold mvOne at hc
 split at hc
 ·cases hc; exact⟨h.move,rfl⟩
 ·split at hc
  ·split at hc
   ·cases hc
   ·cases hc
    have:=h.move
    exact⟨⟨this.k,this.o,this.p,this.vx,this.vy,this.f⟩,J⟩
  ·cases hc; exact⟨h,rfl⟩
theorem mvOne_pl {l:TLevel} {b:TBody} (h:b.Kind=0):∃ c,mvOne l b=some c:=by
 unfold mvOne
 split
 ·exact⟨_,rfl⟩
 ·rw[if_neg Aqa]; exact⟨_,rfl⟩
theorem fmap_len {α β:Type} {f:α→Option β}:∀ (xs:List α),(∀ x∈xs,∃ y,f x=some y)→(xs.filterMap f).length=xs.length
 | [],_=>rfl
 |x::xs,h=>by
  obtain⟨y,hy⟩:=h x Aqd 
  rw[List.filterMap_cons,hy]
  simp only[Gq3]
  rw[fmap_len xs fun z hz=>h z (by simp[hz])]
theorem LM.move {l:TLevel} {n:Nat} {bs:List TBody} (h:LM l n bs):LM l n (mvM l bs):=by
 have hlen:=h.len
 have hA:∀ a∈bs.take n,BM l n a∧a.Kind=0:=fun a ha=>by
  obtain⟨j,hj⟩:=List.getElem?_of_mem ha
  rw[Gxf] at hj
  split at hj
  ·have:=h.at_ _ _ hj; exact⟨this.1,this.2.2 Aqe⟩
  ·cases hj
 have hB:∀ a∈bs.drop n,BM l n a∧a.Kind≠0:=fun a ha=>by
  obtain⟨j,hj⟩:=List.getElem?_of_mem ha
  rw[Gxh] at hj
  have:=h.at_ _ _ hj
  exact⟨this.1,fun e=>by have:=this.2.1 e; omega⟩
 have hs:mvM l bs=(bs.take n).filterMap (mvOne l)++(bs.drop n).filterMap (mvOne l):=by
  rw[mvM,←List.filterMap_append,Gxg]
 have hl1:((bs.take n).filterMap (mvOne l)).length=n:=by
  rw[fmap_len _ fun a ha=>mvOne_pl (hA a ha).2,Gq4]; omega
 have hl2:=List.length_filterMap_le (mvOne l) (bs.drop n)
 rw[List.length_drop] at hl2
 rw[hs]
 refine⟨by rw[Gqp,hl1]; omega,fun k b hb => ?_⟩
 rw[List.getElem?_append,hl1] at hb
 split at hb
 ·obtain⟨a,ha,hab⟩:=List.mem_filterMap.1 (Gqm hb)
  have h1:=hA a ha
  have h2:=mvOne_ok h1.1 hab
  exact⟨h2.1,fun _=>by assumption,fun _=>by rw[h2.2,h1.2]⟩
 ·obtain⟨a,ha,hab⟩:=List.mem_filterMap.1 (Gqm hb)
  have h1:=hB a ha
  have h2:=mvOne_ok h1.1 hab
  exact⟨h2.1,fun e=>absurd (by rw[←h2.2]; exact e) h1.2,fun e=>absurd e Aqe⟩
end
section
open Go.RowKit

theorem metF_congr {bs bs':List TBody} {b:TBody} {o:Int}:∀ {n:Nat},(∀ k,k<n→bs[k]? = bs'[k]?)→metF bs b o n=metF bs' b o n
 |0,_=>rfl
 |n+1,h=>by
  have h1:metC bs b o n=metC bs' b o n:=by simp only[metC,h n Aqa]
  rw[metF,metF,metF_congr (fun k hk=>h k Aqa),h1]
def hitB (p:TBody):TBody:=⟨p.Kind,p.Owner,p.X,p.Y,if p.Life-1=0 then 0 else p.VX,if p.Life-1=0 then 0 else p.VY,p.Aim,p.Life-1,if p.Life-1=0 then 20 else p.Timer⟩
def shGone (n:Nat) (bs:List TBody) (b:TBody):Bool:=decide (b.Kind=1)&&(metF bs b b.Owner n).isSome
def shOne (n:Nat) (s:List TBody×List Int) (b:TBody):List TBody×List Int :=
 if b.Kind=1 then match metF s.1 b b.Owner n with
  |none=>s
  |some k=>match s.1[k]? with
   |none=>s
   |some p=>(s.1.set k (hitB p),if p.Life-1=0 then addM s.2 b.Owner.toNat else s.2)
 else s
def shS (n:Nat) (t:List TBody) (s:List TBody×List Int):Nat→List TBody×List Int
 |0=>s
 |j+1=>match t[j]? with
  |none=>shS n t s j
  |some b=>shOne n (shS n t s j) b
def shF (n:Nat) (t:List TBody) (s:List TBody×List Int) (j:Nat):Bool:=match t[j]? with
 |none=>false
 |some b=>shGone n (shS n t s j).1 b
def shL (n:Nat) (t:List TBody) (s:List TBody×List Int):Nat→List TBody
 |0 => []
 |j+1=>match t[j]? with
  |none=>shL n t s j
  |some b=>if shGone n (shS n t s j).1 b=true then shL n t s j else shL n t s j ++ [b]
def itHit (n:Nat) (bs:List TBody) (b:TBody):Bool:=decide (b.Kind=2)&&(metF bs b (-1) n).isSome
def itOne (n:Nat) (bs:List TBody) (ss:List Int) (b:TBody):List Int :=
 if b.Kind=2 then match metF bs b (-1) n with
  |none=>ss
  |some k=>addM ss k
 else ss
def itS (n:Nat) (bs t:List TBody) (ss:List Int) (j:Nat):List Int:=(t.take j).foldl (itOne n bs) ss
def itL (n:Nat) (bs t:List TBody) (j:Nat):List TBody:=(t.take j).filter fun b => !itHit n bs b
def keepR (n:Nat) (t:List TBody) (s:List TBody×List Int) (bs:List TBody):Nat→List TBody
 |0 => []
 |j+1=>match t[j]? with
  |none=>keepR n t s bs j
  |some b=>if (shF n t s j || itHit n bs b)=true then keepR n t s bs j else keepR n t s bs j ++ [b]
section
variable {l:TLevel} {n k j:Nat} {t bs bs0 lf:List TBody} {ss ss0:List Int} {s:List TBody×List Int} {b p:TBody}
theorem shL_le:∀ j,(shL n t s j).length≤j
 |0=>Gqk _
 | j+1=>by
  have:=shL_le j
  rw[shL]
  split
  ·omega
  ·split
   ·omega
   ·rw[Gqp]; simp; omega
theorem shL_sub:∀ j,∀ b∈shL n t s j,b∈t
 |0,b,hb=>by cases hb
 | j+1,b,hb=>by
  rw[shL] at hb
  split at hb
  ·exact shL_sub j b hb
  ·rename_i c hc
   split at hb
   ·exact shL_sub j b hb
   ·rcases Gqs.1 hb with h | h
    ·exact shL_sub j b h
    ·rw[Gxj] at h; subst h; exact Gqm hc
theorem addM_len {ss:List Int} {k:Nat}:(addM ss k).length=ss.length:=by unfold addM; split <;> simp
theorem addM_rng {ss:List Int} {k:Nat} (h:∀ x∈ss,0≤x∧x≤1000000):∀ x∈addM ss k,0≤x∧x≤1000000:=by
 intro x hx
 unfold addM at hx
 split at hx
 ·exact h x hx
 ·rename_i s hs
  rcases Gxi hx with h1 | h1
  ·exact h x h1
  ·have:=h s (Gqm hs); omega
theorem BM.hit (h:BM l n p) (hl:0<p.Life):BM l n (hitB p):=by
 obtain⟨hk,ho,hp,hvx,hvy,hf⟩:=h
 refine⟨hk,ho,hp,?_,?_,?_⟩
 ·simp only[hitB]; split <;> omega
 ·simp only[hitB]; split <;> omega
 ·simp only[hitB]; omega
structure SI (l:TLevel) (n:Nat) (bs0:List TBody) (s:List TBody×List Int):Prop where
 lm:LM l n s.1
 len:s.1.length=bs0.length
 tl:∀ k,n≤k→s.1[k]? = bs0[k]?
 sl:s.2.length=n
 sc:∀ x∈s.2,0≤x∧x≤1000000
theorem SI.one (h:SI l n bs0 s) (b:TBody):SI l n bs0 (shOne n s b):=by
 unfold shOne
 split
 ·split
  ·exact h
  ·rename_i k hk
   obtain⟨h1,h2⟩:=metF_lt hk
   obtain⟨p,hp,hlf,_,_⟩:=metC_life h2
   rw[hp]
   have hB:=h.lm.at_ k p hp
   refine⟨h.lm.set hp (hB.1.hit hlf) J,by simp[h.len],fun j hj=>by simp only; rw[Gq9 Aqa]; exact h.tl j hj,?_,?_⟩
   ·simp only
    split
    ·rw[addM_len]; exact h.sl
    ·exact h.sl
   ·simp only
    split
    ·exact addM_rng h.sc
    ·exact h.sc
 ·exact h
theorem SI.all (h:SI l n bs0 s) (t:List TBody):∀ j,SI l n bs0 (shS n t s j)
 |0=>h
 |j+1=>by
  rw[shS]
  split
  ·exact SI.all h t j
  ·exact (SI.all h t j).one _
theorem SI.start (h:LM l n bs) (h1:ss.length=n) (h2:∀ x∈ss,0≤x∧x≤1000000):SI l n bs (bs,ss):=⟨h,rfl,fun _ _=>rfl,h1,h2⟩
theorem LM.cut {c:List TBody} (h:LM l n bs) (hc:∀ b∈c,b∈bs.drop n) (hl:n+c.length≤24):LM l n (bs.take n++c):=by
 have hlen:=h.len
 refine⟨by rw[Gqp,Gq4]; omega,fun k b hb => ?_⟩
 rw[List.getElem?_append,Gq4,Nat.min_eq_left hlen.1] at hb
 split at hb
 ·rename_i hk
  rw[List.getElem?_take_of_lt hk] at hb
  have:=h.at_ k b hb
  exact⟨this.1,this.2⟩
 ·rename_i hk
  obtain⟨j,hj⟩:=List.getElem?_of_mem (hc b (Gqm hb))
  rw[Gxh] at hj
  have:=h.at_ _ _ hj
  exact⟨this.1,fun e=>by have:=this.2.1 e; omega,fun e=>absurd e hk⟩
theorem itOne_ok (h1:ss.length=n) (h2:∀ x∈ss,0≤x∧x≤1000000) (b:TBody):(itOne n bs ss b).length=n∧∀ x∈itOne n bs ss b,0≤x∧x≤1000000:=by
 unfold itOne
 split
 ·split
  ·exact⟨h1,h2⟩
  ·exact⟨by rw[addM_len]; exact h1,addM_rng h2⟩
 ·exact⟨h1,h2⟩
theorem itF_ok:∀ (t:List TBody) {ss:List Int},ss.length=n→(∀ x∈ss,0≤x∧x≤1000000)→(t.foldl (itOne n bs) ss).length=n∧∀ x∈t.foldl (itOne n bs) ss,0≤x∧x≤1000000
 | [],_,h1,h2=>⟨h1,h2⟩
 |b::t,_,h1,h2=>by
  have:=itOne_ok (bs:=bs) h1 h2 b
  exact itF_ok t this.1 this.2
theorem itS_ok (h1:ss.length=n) (h2:∀ x∈ss,0≤x∧x≤1000000):(itS n bs t ss j).length=n∧∀ x∈itS n bs t ss j,0≤x∧x≤1000000:=itF_ok _ h1 h2
theorem itL_le:(itL n bs t j).length≤j:=by
 have:=List.length_filter_le (fun b => !itHit n bs b) (t.take j)
 rw[itL]
 rw[Gq4] at this
 omega
theorem keep_eq:∀ j,(shL n t s j).filter (fun b => !itHit n bs b)=keepR n t s bs j
 |0=>rfl
 | j+1=>by
  have ih:=keep_eq j
  rw[shL,keepR,shF]
  cases t[j]? with
  |none=>exact ih
  | some b =>
   simp only
   by_cases hg:shGone n (shS n t s j).1 b=true
   ·rw[if_pos hg,if_pos (by rw[hg]; rfl),ih]
   ·have hg':shGone n (shS n t s j).1 b=false:=by simpa using hg
    have hc:(shGone n (shS n t s j).1 b || itHit n bs b)=itHit n bs b:=by rw[hg',Bool.false_or]
    by_cases h:itHit n bs b=true
    ·rw[if_neg hg,if_pos (by rw[hc]; exact h),List.filter_append,ih]
     simp[h]
    ·rw[if_neg hg,if_neg (by rw[hc]; exact h),List.filter_append,ih]
     simp[h]
theorem fold_eq:∀ j,(shL n t s j).foldl (itOne n bs) ss=(t.take j).foldl (itOne n bs) ss
 |0=>rfl
 | j+1=>by
  rw[shL]
  cases h:t[j]? with
  |none =>
   simp only
   have:=List.getElem?_eq_none_iff.1 h
   rw[fold_eq j,Gqh Aqa,Gqh Aqa]
  | some b =>
   obtain⟨hj,rfl⟩:=Gqo.1 h
   simp only
   rw[Gxk hj,List.foldl_append]
   cases hg:shGone n (shS n t s j).1 t[j] with
   |true =>
    rw[if_pos rfl,fold_eq j]
    have hk:t[j].Kind=1:=by rw[shGone,Gqi,decide_eq_true_eq] at hg; exact hg.1
    simp only[List.foldl_cons,List.foldl_nil,itOne]
    rw[if_neg Aqa]
   |false=>rw[if_neg Aqd,List.foldl_append,fold_eq j]
end
def hitsP (n:Nat) (bs:List TBody) (ss:List Int):List TBody×List Int :=
 let s:=shS n (bs.drop n) (bs,ss) (bs.drop n).length
 let b:=s.1.take n++shL n (bs.drop n) (bs,ss) (bs.drop n).length
 (b.take n++itL n b (b.drop n) (b.drop n).length,itS n b (b.drop n) s.2 (b.drop n).length)
def hitsR (n:Nat) (bs:List TBody) (ss:List Int):List TBody×List Int :=
 let t:=bs.drop n
 let s:=shS n t (bs,ss) t.length
 (s.1.take n++keepR n t (bs,ss) s.1 t.length,itS n s.1 t s.2 t.length)
theorem hits_eq {l:TLevel} {n:Nat} {bs:List TBody} {ss:List Int} (h:LM l n bs) (h1:ss.length=n) (h2:∀ x∈ss,0≤x∧x≤1000000):hitsP n bs ss=hitsR n bs ss:=by
 have hS:=(SI.start h h1 h2).all (bs.drop n) (bs.drop n).length
 obtain⟨s,hs⟩:∃ s,s=shS n (bs.drop n) (bs,ss) (bs.drop n).length:=⟨_,rfl⟩
 obtain⟨c,hc⟩:∃ c,c=shL n (bs.drop n) (bs,ss) (bs.drop n).length:=⟨_,rfl⟩
 rw[←hs] at hS
 have hlen:=hS.lm.len
 have e1:(s.1.take n++c).take n=s.1.take n:=by
  rw[List.take_append_of_le_length (by rw[Gq4]; omega),List.take_take,Nat.min_self]
 have e2:(s.1.take n++c).drop n=c:=by
  rw[List.drop_append_of_le_length (by rw[Gq4]; omega),List.drop_of_length_le (by rw[Gq4]; omega),List.nil_append]
 have e3:∀ b o,metF (s.1.take n++c) b o n=metF s.1 b o n:=fun b o=>metF_congr fun k hk=>by
  rw[Gqw (by rw[Gq4]; omega),List.getElem?_take_of_lt hk]
 have e4:itHit n (s.1.take n++c)=itHit n s.1:=by
  funext b
  rw[itHit,itHit,e3]
 have e5:itOne n (s.1.take n++c)=itOne n s.1:=by
  funext ss b
  rw[itOne,itOne,e3]
 simp only[hitsP,hitsR,←hs,←hc,e1,e2,itL,itS,List.take_length,e4,e5]
 congr 1
 ·congr 1
  rw[hc,keep_eq]
 ·rw[hc,fold_eq,List.take_length]
end
section
open Go.RowKit

structure PH (w:TWorld) (row:List Int):Prop where
 hg:Enc.gd w.Level
 gb:∀ b∈w.Bodies,Enc.gd b
 hl:levelOk w.Level=true
 n4:1≤w.Scores.length∧w.Scores.length≤4
 len:w.Scores.length≤w.Bodies.length∧w.Bodies.length≤24
 bs:bodiesOk w.Level w.Scores.length w.Bodies
 rl:row.length=w.Scores.length
 ri:∀ i∈row,0≤i∧i≤15
end
end Go.Proofs.YtfklmiijhcajdaaGreat
