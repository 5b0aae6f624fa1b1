/-
  Rules, data and contracts of functions: part 25 of the proof.
  Conditions: those that each theorem names.
-/
import Derived.Test.YtalaljeokcpfnaaGreatDDPlayRowk23
set_option linter.unusedSimpArgs false
set_option linter.unusedVariables false
set_option maxRecDepth 8000
set_option maxHeartbeats 8000000
namespace Go.Proofs.YtalaljeokcpfnaaGreat
section
open Tryz
open Go.RowKit

theorem W_pre {st st':St} {f:List (Nat×V)→St} (h:Wk st st') (k:∃ l,Wk st' (f l)):∃ l,Wk st (f l):=k.imp fun _ hl=>h.trans hl
theorem row2b {k:Nat} {o:Ob} {a b:List (List T)} (h:a=b) : [o,Ob.row k a] = [o,Ob.row k b]:=by rw[h]
def bodyInts (b:TBody):List Int := [b.Kind,b.Owner,b.X,b.Y,b.VX,b.VY,b.Aim,b.Life,b.Timer]
def worldInts (w:TWorld):List Int:=([w.Tick,w.Seed,(w.Scores.length:Int)]++w.Scores)++w.Bodies.flatMap bodyInts
noncomputable def worldBytes (w:TWorld):ByteArray:=if worldOk w=true then packInts (worldInts w) else ⟨#[]⟩
theorem Y3 {α:Type} [Enc α] (xs ys:List α):els (xs++ys)=els xs++els ys:=List.map_append
theorem flat_snoc {bs:List TBody} {k:Nat} (h:k<bs.length):(bs.take (k+1)).flatMap bodyInts=(bs.take k).flatMap bodyInts++bodyInts bs[k]:=by
 rw[Gxb h,List.flatMap_append]
 simp
theorem flat_len (bs:List TBody):∀ k,k≤bs.length→((bs.take k).flatMap bodyInts).length=9*k
 |0,_=>by simp
 |k+1,h=>by
  rw[flat_snoc Aqa,Gql,flat_len bs k Aqa]
  simp[bodyInts]
  omega
theorem flat_gd {bs:List TBody} (hg:∀ b∈bs,Enc.gd b):∀ x∈bs.flatMap bodyInts,I64 x:=fun x hx=>by
 obtain⟨b,hb,hx⟩:=List.mem_flatMap.1 hx
 obtain⟨b1,b2,b3,b4,b5,b6,b7,b8,b9⟩:=hg b hb
 simp only[bodyInts,List.mem_cons,Gx3,or_false] at hx
 rcases hx with rfl | rfl | rfl | rfl | rfl | rfl | rfl | rfl | rfl <;> assumption
theorem I_bodyInts (b:TBody):Co 216 [] [ag b] [.row 1 (els (bodyInts b))] (Aqg 0):=by
 refine Con.o func216 ntmps216 fun E=>?_;refine Wz [96,173,31,31,31,31,31,31,31,116,36] ?_
 exact Xp J J (W_pre (Wk.sbrow (q:=1) J J (Gqx J)) (Yh [1] Aqc J J J))
theorem Xw (x:TWorld) (hg:Enc.gd x):Co 167 [] [ag x] [] (S (worldBytes x)):=by
 have hc:=Xx x hg
 obtain⟨gL,gT,gS,gSc,gB⟩:=hg
 cases ho:worldOk x with
 |false =>
  rw[ho] at hc
  rw[show worldBytes x=⟨#[]⟩ by rw[worldBytes,ho]; exact if_neg Aqc]
  refine Con.o func167 ntmps167 fun E=>?_;refine Wz [43,16,7] ?_;refine kc0 hc ?_;refine Wz [6,115] ?_
  exact Bzh
 | true =>
  rw[ho] at hc
  rw[show worldBytes x=packInts (worldInts x) by rw[worldBytes,ho]; exact if_pos rfl]
  obtain⟨_,_,_,hn,_,hb,_⟩:=Uj ho
  have hls:=Y7 x.Scores
  have hlb:=Y7 x.Bodies
  refine Con.o func167 ntmps167 fun E=>?_;refine Wz [43,16,7] ?_;refine kc0 hc ?_;refine Wz [6,28,173,105,116,44,31] ?_
  have hl3:(els [x.Tick,x.Seed,((els x.Scores).length:Int)]).length=3:=rfl
  refine AL.weak (Wk.sbrow (q:=1) (es:=els [x.Tick,x.Seed,((els x.Scores).length:Int)]) J J (Gqx J)) ?_;refine AL.kp [1,1,19,0] [(17,Aqg 1)] 2 [(0,.box (Aqi x))] ?_;refine M_app J J J J J J J J J J (Y8 _) (Y6 _) Aqa Aqa  ?_;refine Wz [16,109,138,34] ?_
  have hini:els (([x.Tick,x.Seed,(x.Scores.length:Int)]++x.Scores)++(x.Bodies.take 0).flatMap bodyInts)=els [x.Tick,x.Seed,((els x.Scores).length:Int)]++els x.Scores:=by rw[List.take_zero,List.flatMap_nil,Gqy,Y3,hls]
  refine A_lt x.Bodies.length (fun k => [(1,Aqf 0),(3,Aqg 1),(22,L x.Bodies),(23,I (els x.Bodies).length),(24,I k)]) (fun k => [.box (Aqi x),.row 1 (els (([x.Tick,x.Seed,(x.Scores.length:Int)]++x.Scores)++(x.Bodies.take k).flatMap bodyInts))]) (Yk [0,1] Aqc J (row2b hini) (.c J (.c J (.c J (.c J (.c J (.nil))))))) ?_
  intro m_A k hk_A
  have hla:=Y7 (([x.Tick,x.Seed,(x.Scores.length:Int)]++x.Scores)++(x.Bodies.take k).flatMap bodyInts)
  have hfl:=flat_len x.Bodies k Aqa 
  have hlc:(([x.Tick,x.Seed,(x.Scores.length:Int)]++x.Scores)++(x.Bodies.take k).flatMap bodyInts).length=3+x.Scores.length+9*k:=by
   rw[Gql,Gql,hfl]; rfl
  refine Wz [3,58,4] ?_
  refine Xb J (fun h=>?_) (fun h=>?_)
  ·have h3:k<x.Bodies.length:=Bqx
   have hat:=Y4 h3
   have hlb9:(els (bodyInts x.Bodies[k])).length=9:=rfl
   refine Wz [9,3,78,91,27,85] ?_;refine kc1 (I_bodyInts x.Bodies[k]) ?_;refine M_app J J J J J J J J J J (Y8 _) (Y6 _) Aqa Aqa  ?_;refine Wz [26,53,104] ?_
   exact .t (k+1) (Yk [0,1] Aqc J (row2b (by rw[flat_snoc h3,←Gqz,Y3 _ (bodyInts x.Bodies[k])])) (.c J (.c J (.c J (.c J (.c J (.nil)))))))
  ·have h3:¬k<x.Bodies.length:=Bq5
   have hk:x.Bodies.take k=x.Bodies:=Gqj Aqa 
   rw[hk] at hlc hla ⊢
   have hgi:Enc.gd (([x.Tick,x.Seed,(x.Scores.length:Int)]++x.Scores)++x.Bodies.flatMap bodyInts):=⟨Aqa,fun y hy=>by
    rcases Gqs.1 hy with hy | hy
    ·rcases Gqs.1 hy with hy | hy
     ·simp only[List.mem_cons,Gx3,or_false] at hy
      rcases hy with rfl | rfl | rfl
      ·exact gT
      ·exact gS
      ·exact⟨Aqa,Aqa⟩
     ·exact gSc.2 y hy
    ·exact flat_gd gB.2 y hy⟩
   have hp:=I_PackInts (([x.Tick,x.Seed,(x.Scores.length:Int)]++x.Scores)++x.Bodies.flatMap bodyInts) hgi Aqa 
   refine Wz [223] ?_;refine kc0 hp ?_;refine Wz [36] ?_
   exact Bzh
theorem Ye (x:TWorld) (hg:Enc.gd x):Co 139 [] [ag x] [] (S (worldBytes x)):=by
 have hc:=S_WorldOk x hg
 obtain⟨gL,gT,gS,gSc,gB⟩:=hg
 cases ho:worldOk x with
 |false =>
  rw[ho] at hc
  rw[show worldBytes x=⟨#[]⟩ by rw[worldBytes,ho]; exact if_neg Aqc]
  refine Con.o func139 ntmps139 fun E=>?_;refine Wz [43,16,7] ?_;refine kc0 hc ?_;refine Wz [6,115] ?_
  exact Bzh
 | true =>
  rw[ho] at hc
  rw[show worldBytes x=packInts (worldInts x) by rw[worldBytes,ho]; exact if_pos rfl]
  obtain⟨_,_,_,hn,_,hb,_⟩:=Uj ho
  have hls:=Y7 x.Scores
  have hlb:=Y7 x.Bodies
  refine Con.o func139 ntmps139 fun E=>?_;refine Wz [43,16,7] ?_;refine kc0 hc ?_;refine Wz [6,28,173,105,116,31] ?_
  have hl3:(els [x.Tick,x.Seed,((els x.Scores).length:Int)]).length=3:=rfl
  refine AL.weak (Wk.sbrow (q:=1) (es:=els [x.Tick,x.Seed,((els x.Scores).length:Int)]) J J (Gqx J)) ?_;refine AL.kp [1,1,18,0] [(16,Aqg 1)] 2 [(0,.box (Aqi x))] ?_;refine M_app J J J J J J J J J J (Y8 _) (Y6 _) Aqa Aqa  ?_;refine Wz [16,51] ?_
  have hini:els (([x.Tick,x.Seed,(x.Scores.length:Int)]++x.Scores)++(x.Bodies.take 0).flatMap bodyInts)=els [x.Tick,x.Seed,((els x.Scores).length:Int)]++els x.Scores:=by rw[List.take_zero,List.flatMap_nil,Gqy,Y3,hls]
  refine A_lt x.Bodies.length (fun k => [(1,Aqf 0),(3,Aqg 1),(4,I k)]) (fun k => [.box (Aqi x),.row 1 (els (([x.Tick,x.Seed,(x.Scores.length:Int)]++x.Scores)++(x.Bodies.take k).flatMap bodyInts))]) (Yk [0,1] Aqc J (row2b hini) (.c J (.c J (.c J (.nil))))) ?_
  intro m_A k hk_A
  have hla:=Y7 (([x.Tick,x.Seed,(x.Scores.length:Int)]++x.Scores)++(x.Bodies.take k).flatMap bodyInts)
  have hfl:=flat_len x.Bodies k Aqa 
  have hlc:(([x.Tick,x.Seed,(x.Scores.length:Int)]++x.Scores)++(x.Bodies.take k).flatMap bodyInts).length=3+x.Scores.length+9*k:=by
   rw[Gql,Gql,hfl]; rfl
  refine Wz [41,105,58] ?_
  refine Xb J (fun h=>?_) (fun h=>?_)
  ·have h3:k<x.Bodies.length:=Bqx
   have hat:=Y4 h3
   have hlb9:(els (bodyInts x.Bodies[k])).length=9:=rfl
   refine Wz [9,65,78,91,27,31,31,31,31,31,31,31,31,31,116,183,110] ?_
   exact .t (k+1) (Yk [0,1] Aqc J (row2b (by rw[flat_snoc h3,←Gqz,Y3 _ (bodyInts x.Bodies[k])]; rfl)) (.c J (.c J (.c J (.nil)))))
  ·have h3:¬k<x.Bodies.length:=Bq5
   have hk:x.Bodies.take k=x.Bodies:=Gqj Aqa 
   rw[hk] at hlc hla ⊢
   have hgi:Enc.gd (([x.Tick,x.Seed,(x.Scores.length:Int)]++x.Scores)++x.Bodies.flatMap bodyInts):=⟨Aqa,fun y hy=>by
    rcases Gqs.1 hy with hy | hy
    ·rcases Gqs.1 hy with hy | hy
     ·simp only[List.mem_cons,Gx3,or_false] at hy
      rcases hy with rfl | rfl | rfl
      ·exact gT
      ·exact gS
      ·exact⟨Aqa,Aqa⟩
     ·exact gSc.2 y hy
    ·exact flat_gd gB.2 y hy⟩
   have hp:=S_PackInts (([x.Tick,x.Seed,(x.Scores.length:Int)]++x.Scores)++x.Bodies.flatMap bodyInts) hgi Aqa 
   refine Wz [223] ?_;refine kc0 hp ?_;refine Wz [36] ?_
   exact Bzh
end
section
open Go.RowKit
end
section
open Tryz
open Go.RowKit

inductive Den1:V1→V1→Prop
 |same (x:V1):Den1 x x
 |nil (qs:List Nat) (k:Nat):Den1 (.rd qs (.v (.slice none 0 0))) (.rd qs (.sl k []))
inductive DenL:List V1→List V1→Prop
 |nil:DenL [] []
 |cons {x y:V1} {xs ys:List V1} (h:Den1 x y) (t:DenL xs ys):DenL (x::xs) (y::ys)
inductive Den2:V2→V2→Prop
 |same (x:V2):Den2 x x
 |ag {xs ys:List V1} (h:DenL xs ys):Den2 (.ag xs) (.ag ys)
inductive DenA:List V2→List V2→Prop
 |nil:DenA [] []
 |cons {x y:V2} {xs ys:List V2} (h:Den2 x y) (t:DenA xs ys):DenA (x::xs) (y::ys)
section
variable {w:World} {H:Hs} {F:Nat→Prop}
end
def nilV:V1 := .rd [] (.v (.slice none 0 0))
theorem I_copyLevel (x:TLevel) (hg:Enc.gd x) (hL:x.Rows.length≤1048576):Co 88 [] [ag x] [.row 1 (els x.Rows)] (.o (.ag [Aqk 0])):=by
 have hlx:=Y7 x.Rows
 have hg1:=hg.1
 refine Con.o func88 ntmps88 fun E=>?_;refine Wz [59,1,18] ?_;refine M_appnil J J J J J J J J (Y8 _) (Y6 _) Aqa Aqa  ?_;refine Wz [137,39,73] ?_
 exact Bzy
theorem S_copyLevel (x:TLevel) (hg:Enc.gd x) (hL:x.Rows.length≤1048576):Co 65 [] [ag x] [.row 1 (els x.Rows)] (.o (.ag [Aqk 0])):=by
 have hlx:=Y7 x.Rows
 have hg1:=hg.1
 have h00:([]:List (List T)).length=0:=rfl
 refine Con.o func65 ntmps65 fun E=>?_;refine Wz [59,1,3,184,31] ?_;refine M_app J J J J J J J J J J (Y8 _) (Y6 _) Aqa Aqa  ?_;refine Wz [137,39,73] ?_
 exact Bzy
end
section
open Tryz
open Go.RowKit

theorem Clone_ints (xs:List Int) (hne:0<xs.length) (hL:xs.length≤1099511627776):Co 237 [] [al xs] [.row 1 (els xs)] (Aqg 0):=by
 have hlx:=Y7 xs
 have hlp:0<(els xs).length:=Aqa
 refine Con.o func237 ntmps237 fun E=>?_
 have h00:([]:List (List T)).length=0:=rfl
 refine Wz [95] ?_;refine zx (q_slnil J J J J hlp) J ?_;refine Wz [28,3,184,0] ?_;refine M_app J J J J J J J J J J (Y8 _) (Y6 _) Aqa Aqa  ?_;refine Wz [36] ?_
 exact E_w [0] J J
@[reducible] def jv (n:Int):V1:=(Aqh n)
def bodyOf (l:List Int):TBody:=⟨l.getD 0 0,l.getD 1 0,l.getD 2 0,l.getD 3 0,l.getD 4 0,l.getD 5 0,l.getD 6 0,l.getD 7 0,l.getD 8 0⟩
def bodiesOf (l:List Int) (n:Nat):List TBody:=(List.range n).map fun k=>bodyOf (l.drop (9*k))
def zeroWorld:TWorld:=⟨⟨[]⟩,0,0,[],[]⟩
def worldOf (lv:TLevel) (l:List Int):TWorld:=⟨lv,l.getD 0 0,l.getD 1 0,(l.drop 3).take (l.getD 2 0).toNat,bodiesOf (l.drop (3+(l.getD 2 0).toNat)) ((l.length-3-(l.getD 2 0).toNat)/9)⟩
def formOk (l:List Int):Prop:=3≤l.length∧(1≤l.getD 2 0∧l.getD 2 0≤4)∧3+l.getD 2 0≤l.length∧((l.length:Int)-3-l.getD 2 0)%9=0
noncomputable def readWorld (lv:TLevel) (s:ByteArray):Option TWorld:=match unpackInts s 0 with
 |none=>none
 |some (l,pos)=>@ite _ (pos=s.size∧formOk l∧worldOk (worldOf lv l)=true) (Classical.propDecidable _) (some (worldOf lv l)) none
theorem Vu {lv:TLevel} {s:ByteArray} (h:unpackInts s 0=none):readWorld lv s=none:=by rw[readWorld,h]
theorem Vv {lv:TLevel} {s:ByteArray} {l:List Int} {pos:Nat} (h:unpackInts s 0=some (l,pos)) (hp:pos=s.size∧formOk l∧worldOk (worldOf lv l)=true):readWorld lv s=some (worldOf lv l):=by
 rw[readWorld,h]
 exact @if_pos _ (Classical.propDecidable _) hp _ _ _
theorem Vt {lv:TLevel} {s:ByteArray} {l:List Int} {pos:Nat} (h:unpackInts s 0=some (l,pos)) (hp:¬(pos=s.size∧formOk l∧worldOk (worldOf lv l)=true)):readWorld lv s=none:=by
 rw[readWorld,h]
 exact @if_neg _ (Classical.propDecidable _) hp _ _ _
@[reducible] def rwW (r:Option TWorld):TWorld:=r.getD zeroWorld
@[reducible] def rwB (r:Option TWorld):Bool:=r.isSome
theorem Yu (l:List Int) (n:Nat):(bodiesOf l n).length=n:=by simp[bodiesOf]
theorem bodiesOf_snoc (l:List Int) (n:Nat):bodiesOf l (n+1)=bodiesOf l n ++ [bodyOf (l.drop (9*n))]:=by
 rw[bodiesOf,List.range_succ,List.map_append]
 rfl
theorem bodyOf_ints {l:List Int} (h:9≤l.length):bodyInts (bodyOf l)=l.take 9:=by
 match l,h with
 |a::b::c::d::e::f::g::i::j::r,_=>rfl
theorem bodiesOf_ints:∀ (n:Nat) (l:List Int),9*n≤l.length→(bodiesOf l n).flatMap bodyInts=l.take (9*n)
 |0,l,_=>by simp[bodiesOf]
 |n+1,l,h=>by
  rw[bodiesOf_snoc,List.flatMap_append,bodiesOf_ints n l Aqa,List.flatMap_singleton,bodyOf_ints Bqz,Nat.mul_succ,List.take_add]
theorem bodyOf_gd {l:List Int} (h:∀ x∈l,I64 x):Enc.gd (bodyOf l):=by
 have hd:∀ i,I64 (l.getD i 0):=fun i=>by
  rw[Gqf]
  cases hi:l[i]? with
  |none=>exact⟨Aqc,Aqc⟩
  |some x=>exact h x (Gqn hi)
 exact⟨hd 0,hd 1,hd 2,hd 3,hd 4,hd 5,hd 6,hd 7,hd 8⟩
theorem worldOf_gd {lv:TLevel} {l:List Int} (hlv:Enc.gd lv) (h:∀ x∈l,I64 x) (hL:l.length≤1099511627776):Enc.gd (worldOf lv l):=by
 have hd:∀ i,I64 (l.getD i 0):=fun i=>by
  rw[Gqf]
  cases hi:l[i]? with
  |none=>exact⟨Aqc,Aqc⟩
  |some x=>exact h x (Gqn hi)
 refine⟨hlv,hd 0,hd 1,⟨?_,fun x hx=>h x (Gxj (Gxt hx))⟩,⟨?_,fun b hb=>?_⟩⟩
 ·show ((l.drop 3).take (l.getD 2 0).toNat).length≤_
  simp; omega
 ·show (bodiesOf _ _).length≤_
  rw[Yu]
  have:(l.length-3-(l.getD 2 0).toNat)/9≤l.length:=Aqa
  omega
 ·obtain⟨k,hk,rfl⟩:=Gqv.1 (show b∈(List.range _).map _ from hb)
  exact bodyOf_gd fun x hx=>h x (Gxj (Gxj hx))
theorem worldOf_ints {lv:TLevel} {l:List Int} (h:formOk l):worldInts (worldOf lv l)=l:=by
 obtain⟨h3,h4,h5,h6⟩:=h
 obtain⟨p,hp⟩:∃ p:Nat,l.getD 2 0=p:=⟨(l.getD 2 0).toNat,Aqa⟩
 match l,h3 with
 | a::b::c::r,_ =>
  have hc:c=p:=by simpa using hp
  subst hc
  simp only[Gqw] at h5 h6
  simp only[List.getD_cons_succ,List.getD_cons_zero] at h4 h5 h6
  have hl:((r.take p).length:Int)=p:=Bqz
  show ([a,b,((((a::b::(p:Int)::r).drop 3).take ((p:Int)).toNat).length:Int)]++((a::b::(p:Int)::r).drop 3).take ((p:Int)).toNat)++(bodiesOf ((a::b::(p:Int)::r).drop (3+((p:Int)).toNat)) (((a::b::(p:Int)::r).length-3-((p:Int)).toNat)/9)).flatMap bodyInts=_
  rw[Int.toNat_natCast]
  have hdr:(a::b::(p:Int)::r).drop (3+p)=r.drop p:=by
   rw[←List.drop_drop]; rfl
  have hd3:(a::b::(p:Int)::r).drop 3=r:=rfl
  have hlen:(a::b::(p:Int)::r).length-3-p=(r.drop p).length:=Aqd
  have h9:9*((r.drop p).length/9)=(r.drop p).length:=by
   have:(r.drop p).length=r.length-p:=Aqd
   omega
  rw[hdr,hd3,hlen,bodiesOf_ints _ _ Aqa,h9,Gxs,hl]
  simp
theorem row7 {a b c d e f:Ob} {k:Nat} {x y:List (List T)} (h:x=y) : [a,b,c,d,e,f,Ob.row k x] = [a,b,c,d,e,f,Ob.row k y]:=by rw[h]
theorem rdE {ps:List Nat} {k:Nat} {a b:List (List T)} (h:a=b):V.o (.c (.rd ps (.sl k a)))=V.o (.c (.rd ps (.sl k b))):=by rw[h]
theorem Zd {α:Type} [Enc α] (xs:List α) (n:Nat):els (xs.take n)=(els xs).take n:=List.map_take
theorem els_dropE {α:Type} [Enc α] (xs:List α) (n:Nat):els (xs.drop n)=(els xs).drop n:=List.map_drop
theorem Y0 {rest:List Int} {m:Nat} (h:9*m+9≤rest.length) {j:Nat} (hj:j<9) (a b:Int) (ha:a=9*m+9) (hb:b=9*m) (i:Int) (hi:i=j):(((els rest).take a.toNat).drop b.toNat)[i.toNat]? = some [.v (.int .i64 ((rest.drop (9*m)).getD j 0))]:=by
 subst ha hb hi
 rw[show ((9:Int)*(m:Int)+9).toNat=9*m+9 by omega,show ((9:Int)*(m:Int)).toNat=9*m by omega,Int.toNat_natCast,Gq7,Gxh,if_pos Aqa,Gqf,Gq7,els,Gqk,Gqg Aqa]
 rfl
theorem Y5 {l:List Int} {j:Nat} (h:j<l.length) (i:Int) (hi:i=j):(els l)[i.toNat]? = some [.v (.int .i64 (l.getD j 0))]:=by
 subst hi
 rw[Int.toNat_natCast,Gqf,els,Gqk,Gqg h]
 rfl
end
section
open Go.RowKit

def colF (q:Int→Bool) (row:ByteArray):Nat→Option Nat
 |0=>none
 |c+1=>match colF q row c with
  |some x=>some x
  |none=>if q (byteAt row c)=true then some c else none
def tileF (q:Int→Bool) (rows:List ByteArray):Nat→Option (Nat×Nat)
 |0=>none
 | r+1=>match tileF q rows r with
  |some x=>some x
  |none=>match rows[r]? with
   |none=>none
   |some row=>(colF q row row.size).map fun c=>(r,c)
def isOpen (t:Int):Bool:=decide (t≠35)
def isDig (p:Int) (t:Int):Bool:=decide (t=49+p)
def spX:Option (Nat×Nat)→Int
 |none => -1
 |some (_,c)=>16*c+2
def spY:Option (Nat×Nat)→Int
 |none => -1
 |some (r,_)=>16*r+2
def startT (l:TLevel) (p:Int):Option (Nat×Nat):=match tileF (isDig p) l.Rows l.Rows.length with
 |some x=>some x
 |none=>tileF isOpen l.Rows l.Rows.length
theorem colF_some {q:Int→Bool} {row:ByteArray}:∀ {n c:Nat},colF q row n=some c→c<n∧q (byteAt row c)=true
 |0,c,h=>by cases h
 | n+1,c,h=>by
  rw[colF] at h
  cases h1:colF q row n with
  |some x=>rw[h1] at h; cases h; have:=colF_some h1; exact⟨Aqa,this.2⟩
  |none =>
   rw[h1] at h
   by_cases h2:q (byteAt row n)=true
   ·rw[if_pos h2] at h; cases h; exact⟨Aqa,h2⟩
   ·rw[if_neg h2] at h; cases h
theorem colF_none {q:Int→Bool} {row:ByteArray}:∀ {n:Nat},colF q row n=none→∀ c,c<n→q (byteAt row c)=false
 |0,h,c,hc=>by omega
 | n+1,h,c,hc=>by
  rw[colF] at h
  cases h1:colF q row n with
  |some x=>rw[h1] at h; cases h
  | none =>
   rw[h1] at h
   by_cases h2:q (byteAt row n)=true
   ·rw[if_pos h2] at h; cases h
   ·by_cases e:c=n
    ·subst e; simpa using h2
    ·exact colF_none h1 c Aqa 
theorem tileF_some {q:Int→Bool} {rows:List ByteArray}:∀ {n r c:Nat},tileF q rows n=some (r,c)→∃ h:r<rows.length,r<n∧c<rows[r].size∧q (byteAt rows[r] c)=true
 |0,r,c,h=>by cases h
 | n+1,r,c,h=>by
  rw[tileF] at h
  cases h1:tileF q rows n with
  |some x=>rw[h1] at h; cases h; obtain⟨a,b,d⟩:=tileF_some h1; exact⟨a,Aqa,d⟩
  | none =>
   rw[h1] at h
   cases h2:rows[n]? with
   |none=>rw[h2] at h; cases h
   |some row =>
    rw[h2] at h
    simp only[Option.map_eq_some_iff,Prod.mk.injEq] at h
    obtain⟨c',h3,rfl,rfl⟩:=h
    have hn:=(Gqo.1 h2).1
    have he:=(Gqo.1 h2).2
    have:=colF_some h3
    exact⟨hn,Aqa,by rw[he]; exact this.1,by rw[he]; exact this.2⟩
theorem tileF_none {q:Int→Bool} {rows:List ByteArray}:∀ {n:Nat},tileF q rows n=none→∀ r (h:r<rows.length),r<n→∀ c,c<rows[r].size→q (byteAt rows[r] c)=false
 |0,h,r,hr,hn,c,hc=>by omega
 | n+1,h,r,hr,hn,c,hc=>by
  rw[tileF] at h
  cases h1:tileF q rows n with
  |some x=>rw[h1] at h; cases h
  | none =>
   rw[h1] at h
   by_cases e:r=n
   ·subst e
    rw[Gqg hr] at h
    simp only[Option.map_eq_none_iff] at h
    exact colF_none h c hc
   ·exact tileF_none h1 r hr Aqa c hc
theorem tileM_open {e:Bool} {t:Int} {s s':Seen×Bool} (h:tileM e t s=some s') (ho:s'.2=true):s.2=true∨t≠35:=by
 by_cases ht:t=35
 ·rw[tileM,if_pos ht] at h; cases h; exact .inl ho
 ·exact .inr ht
theorem cols_open {row:ByteArray} {er:Bool} {w:Nat} {s:Seen×Bool}:∀ {n:Nat} {s':Seen×Bool},colsM row er w s n=some s'→s'.2=true→s.2=true∨∃ c,c<n∧byteAt row c≠35
 |0,s',h,ho=>by cases h; exact .inl ho
 | n+1,s',h,ho=>by
  rw[colsM] at h
  cases h1:colsM row er w s n with
  |none=>rw[h1] at h; cases h
  | some s1 =>
   rw[h1] at h
   rcases tileM_open h ho with h2 | h2
   ·rcases cols_open h1 h2 with h3 | ⟨c,hc,h3⟩
    ·exact .inl h3
    ·exact .inr ⟨c,Aqa,h3⟩
   ·exact .inr ⟨n,Aqa,h2⟩
theorem rows_open {rows:List ByteArray} {w:Nat}:∀ {n:Nat} {s:Seen×Bool},rowsM rows w n=some s→s.2=true→∃ r c,∃ h:r<rows.length,r<n∧c<rows[r].size∧byteAt rows[r] c≠35
 |0,s,h,ho=>by cases h; cases ho
 | n+1,s,h,ho=>by
  rw[rowsM] at h
  cases h1:rowsM rows w n with
  |none=>rw[h1] at h; cases h
  | some s1 =>
   rw[h1] at h
   cases h2:rows[n]? with
   |none=>rw[h2] at h; cases h
   | some row =>
    rw[h2] at h
    simp only at h
    split at h
    ·rename_i hw
     have hn:=(Gqo.1 h2).1
     have he:=(Gqo.1 h2).2
     rcases cols_open h ho with h3 | ⟨c,hc,h3⟩
     ·obtain⟨r,c,a,b,d⟩:=rows_open h1 h3
      exact⟨r,c,a,Aqa,d⟩
     ·exact⟨n,c,hn,Aqa,by rw[he]; omega,by rw[he]; exact h3⟩
    ·cases h
theorem level_open {l:TLevel} (h:levelOk l=true):∃ r c,∃ h:r<l.Rows.length,c<(l.Rows[r]).size∧byteAt (l.Rows[r]) c≠35:=by
 unfold levelOk at h
 simp only[Gqh] at h
 obtain⟨_,h5⟩:=h
 split at h5
 ·rename_i s hs
  obtain⟨r,c,a,b,d⟩:=rows_open hs h5
  exact⟨r,c,a,d⟩
 ·cases h5
theorem start_some {l:TLevel} (hl:levelOk l=true) {p:Int} (hp:0≤p∧p≤3):∃ r c,startT l p=some (r,c)∧∃ h:r<l.Rows.length,c<(l.Rows[r]).size∧byteAt (l.Rows[r]) c≠35:=by
 unfold startT
 cases h1:tileF (isDig p) l.Rows l.Rows.length with
 |some x =>
  obtain⟨r,c⟩:=x
  obtain⟨a,b,d,e⟩:=tileF_some h1
  refine⟨r,c,J,a,d,?_⟩
  have:=Gqc e
  omega
 | none =>
  cases h2:tileF isOpen l.Rows l.Rows.length with
  |some x =>
   obtain⟨r,c⟩:=x
   obtain⟨a,b,d,e⟩:=tileF_some h2
   exact⟨r,c,J,a,d,Gqc e⟩
  |none =>
   obtain⟨r,c,a,d,e⟩:=level_open hl
   have:=tileF_none h2 r a a c d
   exact absurd e (Gqd this)
def openF (rows:List ByteArray) (row:ByteArray) (r c:Nat):Option (Nat×Nat):=match tileF isOpen rows r with
 |some x=>some x
 |none=>(colF isOpen row c).map fun c=>(r,c)
theorem openF_zero {rows:List ByteArray} {row:ByteArray} {r:Nat}:openF rows row r 0=tileF isOpen rows r:=by
 unfold openF
 cases tileF isOpen rows r <;> rfl
theorem openF_end {rows:List ByteArray} {row:ByteArray} {r:Nat} (h:rows[r]? = some row):openF rows row r row.size=tileF isOpen rows (r+1):=by
 rw[openF,tileF,h]
theorem Z5 {rows:List ByteArray} {row:ByteArray} {r c:Nat} {x:Nat×Nat} (h:openF rows row r c=some x):openF rows row r (c+1)=some x:=by
 unfold openF at h ⊢
 cases h1:tileF isOpen rows r with
 |some y=>rw[h1] at h; exact h
 |none =>
  rw[h1] at h
  simp only[Option.map_eq_some_iff] at h ⊢
  obtain⟨a,h2,h3⟩:=h
  exact⟨a,by rw[colF,h2],h3⟩
theorem Z6 {rows:List ByteArray} {row:ByteArray} {r c:Nat} (h:openF rows row r c=none):openF rows row r (c+1)=if byteAt row c=35 then none else some (r,c):=by
 unfold openF at h ⊢
 cases h1:tileF isOpen rows r with
 |some y=>rw[h1] at h; cases h
 |none =>
  rw[h1] at h
  simp only[Option.map_eq_none_iff] at h
  simp only[colF,h]
  by_cases h2:byteAt row c=35
  ·rw[if_pos h2,if_neg (show ¬isOpen (byteAt row c)=true from fun q=>Gqc q h2)]; rfl
  ·rw[if_neg h2,if_pos (show isOpen (byteAt row c)=true from Gqb h2)]; rfl
theorem colF_step {q:Int→Bool} {row:ByteArray} {c:Nat} (h:colF q row c=none) (hq:q (byteAt row c)=false):colF q row (c+1)=none:=by rw[colF,h]; simp[hq]
theorem colF_hit {q:Int→Bool} {row:ByteArray} {c:Nat} (h:colF q row c=none) (hq:q (byteAt row c)=true):∀ {n:Nat},c<n→colF q row n=some c
 |0,hn=>by omega
 |n+1,hn=>by
  rw[colF]
  by_cases e:c=n
  ·subst e; rw[h]; simp[hq]
  ·rw[colF_hit h hq Aqa]
theorem tileF_step {q:Int→Bool} {rows:List ByteArray} {row:ByteArray} {r:Nat} (h:tileF q rows r=none) (hr:rows[r]? = some row) (hc:colF q row row.size=none):tileF q rows (r+1)=none:=by rw[tileF,h,hr]; simp[hc]
theorem tileF_hit {q:Int→Bool} {rows:List ByteArray} {row:ByteArray} {r c:Nat} (h:tileF q rows r=none) (hr:rows[r]? = some row) (hc:colF q row row.size=some c):∀ {n:Nat},r<n→tileF q rows n=some (r,c)
 |0,hn=>by omega
 |n+1,hn=>by
  rw[tileF]
  by_cases e:r=n
  ·subst e; rw[h,hr]; simp[hc]
  ·rw[tileF_hit h hr hc Aqa]
theorem start_dig {l:TLevel} {p:Int} {row:ByteArray} {r c:Nat} (h:tileF (isDig p) l.Rows r=none) (hr:l.Rows[r]? = some row) (hc:colF (isDig p) row c=none) (hcs:c<row.size) (hb:byteAt row c=49+p):startT l p=some (r,c):=by
 have h1:=colF_hit hc (show isDig p (byteAt row c)=true from Gqb hb) hcs
 rw[startT,tileF_hit h hr h1 (Gqo.1 hr).1]
theorem start_open {l:TLevel} {p:Int} {n:Nat} (h:tileF (isDig p) l.Rows n=none) (hn:n=l.Rows.length):startT l p=tileF isOpen l.Rows n:=by
 subst hn
 rw[startT,h]
theorem spX_neg {o:Option (Nat×Nat)}:spX o<0↔o=none:=by
 cases o with
 |none=>simp[spX]
 |some x=>obtain⟨r,c⟩:=x; simp[spX]; omega
def fresh (l:TLevel) (p:Int):TBody:=⟨0,p,spX (startT l p),spY (startT l p),0,0,1,3,0⟩
theorem fresh_free {l:TLevel} (hl:levelOk l=true) {p:Int} (hp:0≤p∧p≤3):solidM l (fresh l p).X (fresh l p).Y 12=false∧(0≤(fresh l p).X∧(fresh l p).X≤400)∧(0≤(fresh l p).Y∧(fresh l p).Y≤400):=by
 obtain⟨r,c,h1,hr,hc,hb⟩:=start_some hl hp
 obtain⟨l3,l12,w,w4,w20,hw⟩:=Zp hl
 have hwr:=hw r hr
 rw[fresh,h1]
 refine⟨solidM_F ?_,by simp only[spX]; omega,by simp only[spY]; omega⟩
 rintro⟨r',c',a1,a2,a3,a4,hwall⟩
 simp only[spX,spY] at a1 a2 a3 a4
 have e1:r'=r:=Aqa
 have e2:c'=c:=Aqa
 subst e1 e2
 exact no_wall hr hc hb hwall
def newWorld (l:TLevel) (n:Nat) (seed:Int):TWorld:=⟨l,0,seed,List.replicate n 0,(List.range n).map fun (k:Nat)=>fresh l (k:Int)⟩
theorem flat_length (bs:List TBody):(bs.flatMap bodyInts).length=9*bs.length:=by
 have:=flat_len bs bs.length (Gqi _)
 rwa[Gxs] at this
end
section
open Go.RowKit

def nextR (s:Int):Int:=if 0≤s∧s≤65535 then (s*25173+13849)%65536 else 0
def belowR (s n:Int):Int:=nextR s/16%n
theorem Zz (s:Int):0≤nextR s∧nextR s≤65535:=by
 unfold nextR
 split <;> omega
def pressed (i k:Int):Bool:=decide (((i.toNat &&& k.toNat:Nat):Int)≠0)
noncomputable def steer (l:TLevel) (b:TBody) (i:Int):TBody×Bool :=
 (⟨b.Kind,b.Owner,b.X,b.Y,
  if (pressed i 1 && !pressed i 2)=true then -3 else if (pressed i 2 && !pressed i 1)=true then 3 else 0,
  if (pressed i 4&&solidM l b.X (b.Y+1) 12)=true then -9 else min (b.VY+1) 8,
  if (pressed i 1 && !pressed i 2)=true then -1 else if (pressed i 2 && !pressed i 1)=true then 1 else b.Aim,
  b.Life,
  if (pressed i 8&&decide ((if 0<b.Timer then b.Timer-1 else b.Timer)=0))=true then 12 else (if 0<b.Timer then b.Timer-1 else b.Timer)⟩,
  pressed i 8&&decide ((if 0<b.Timer then b.Timer-1 else b.Timer)=0))
def slide (hit:Int→Bool) (step:Int):Nat→Int→Int×Bool
 |0,x=>(x,false)
 |n+1,x=>if hit (x+step)=true then (x,true) else slide hit step n (x+step)
theorem slide_hit {hit:Int→Bool} {step x:Int} {n:Nat} (h:hit (x+step)=true):slide hit step (n+1) x=(x,true):=by rw[slide,if_pos h]
theorem slide_go {hit:Int→Bool} {step x:Int} {n:Nat} (h:hit (x+step)=false):slide hit step (n+1) x=slide hit step n (x+step):=by rw[slide,if_neg (by rw[h]; simp)]
def dirOf (v:Int):Int:=if v<0 then -1 else 1
noncomputable def moveX (l:TLevel) (b:TBody):Int×Bool:=slide (fun x=>solidM l x b.Y (sizeOf b.Kind)) (dirOf b.VX) b.VX.natAbs b.X
noncomputable def moveY (l:TLevel) (b:TBody):Int×Bool:=slide (fun y=>solidM l (moveX l b).1 y (sizeOf b.Kind)) (dirOf b.VY) b.VY.natAbs b.Y
noncomputable def moveM (l:TLevel) (b:TBody):TBody×Bool :=
 (⟨b.Kind,b.Owner,(moveX l b).1,(moveY l b).1,if (moveX l b).2=true then 0 else b.VX,if (moveY l b).2=true then 0 else b.VY,b.Aim,b.Life,b.Timer⟩,(moveX l b).2 || (moveY l b).2)
def shotOf (b:TBody):TBody:=⟨1,b.Owner,b.X+4,b.Y+4,6*b.Aim,0,0,0,25⟩
def meetM (a b:TBody):Bool :=
 ((decide (a.X<b.X+sizeOf b.Kind)&&decide (b.X<a.X+sizeOf a.Kind))&&decide (a.Y<b.Y+sizeOf b.Kind))&&decide (b.Y<a.Y+sizeOf a.Kind)
structure Placed (b:TBody):Prop where
 k:0≤b.Kind∧b.Kind≤2
 x:0≤b.X∧b.X≤1000
 y:0≤b.Y∧b.Y≤1000
theorem size_pos {k:Int} (h:0≤k∧k≤2):4≤sizeOf k∧sizeOf k≤12:=by
 unfold sizeOf
 split
 ·omega
 ·split
  ·omega
  ·split <;> omega
def colSp (row:ByteArray) (r:Nat):Nat→List (List Int)
 |0 => []
 |c+1=>if byteAt row c=111 then colSp row r c ++ [[(c:Int)*16+4,(r:Int)*16+4]] else colSp row r c
def rowSp (rows:List ByteArray):Nat→List (List Int)
 |0 => []
 |r+1=>match rows[r]? with
  |none=>rowSp rows r
  |some row=>rowSp rows r++colSp row r row.size
end
section
open Go.RowKit

section
variable {P:Program} {E:Env} {ops:Array Oper} {o:Oper} {st:St} {n:Nat} {y:Operand}
theorem Qz {p i:Nat} (ho:o.op = .nilCheck y) (hg:o.guard=none) (hy:st.ev y = .o (.c (.ptr p i))):Qt P ops o st (.o (.c (.ptr p i))) [] n :=
 .pure hg fun a w H F hr=>by
  obtain⟨g,tt,vs,e1,e2⟩:=hr.v1 hy
  exact⟨.pointer (some ⟨g,i,none⟩),by simp[execOp,ho,e2],g,tt,vs,e1,J⟩
theorem q_nile {p k i j:Nat} (ho:o.op = .nilCheck y) (hg:o.guard=none) (hy:st.ev y = .o (.c (.el p k i j))):Qt P ops o st (.o (.c (.el p k i j))) [] n :=
 .pure hg fun a w H F hr=>by
  obtain⟨b,o',m',c,x,fp,e1,e2⟩:=hr.v1 hy
  exact⟨.pointer (some ⟨b,o'+i*k+j,none⟩),by simp[execOp,ho,e2],b,o',m',c,x,fp,e1,J⟩
end
structure Mid (st':St) (e:Exit) (st:St):Prop where
 h:e = .normal∧Wk st st'
section
variable {P:Program} {E:Env} {st st':St}
theorem Mid.n (h:Wk st st'):Mid st' .normal st:=⟨rfl,h⟩
theorem A_join {c d:Code} {Q Q':Exit→St→Prop} (st':St) (h1:AWP P E c (Mid st') st) (h2:AWP P E d Q' st'):AWP P E c (thn (AWP P E d Q') Q) st :=
 AWP.mono (fun e s h=>by obtain⟨rfl,hw⟩:=h.h; exact⟨AWP.weak hw h2⟩) h1
end
end
section
open Tryz
open Go.RowKit

theorem openF_35 {rows:List ByteArray} {row:ByteArray} {r c:Nat} (h:byteAt row c=35):openF rows row r c=openF rows row r (c+1):=by
 cases ho:openF rows row r c with
 |some x=>rw[Z5 ho]
 |none=>rw[Z6 ho,if_pos h]
theorem tu2 {x y x' y':Int} (h1:x=x') (h2:y=y'):V.tu [.c (jn x),.c (jn y)]=V.tu [.c (jn x'),.c (jn y')]:=by rw[h1,h2]
theorem I_StartOf (l:TLevel) (p:Int) (hg:Enc.gd l) (hl:levelOk l=true) (hp:0≤p∧p≤3):Co 272 [] [ag l,ai p] [] (.tu [.c (jn (spX (startT l p))),.c (jn (spY (startT l p)))]):=by
 have hc:=Xv l hg
 rw[hl] at hc
 have hlr:=Y7 l.Rows
 have hx:l.Rows.length≤9223372036854775807:=hg.1
 obtain⟨l3,l12,w,w4,w20,hw⟩:=Zp hl
 have b1:decide (p<0)=false:=Gqa Aqa 
 have b2:decide (p≥4)=false:=Gqa Aqa 
 refine Con.o func272 ntmps272 fun E=>?_;refine Wz [43,26,143,14,169,5,21,85,2] ?_;refine kc0 hc ?_;refine Wz [2,6,5,28,23,23,4,109,138,34] ?_;refine A_lp l.Rows.length (fun r=>tileF (isDig p) l.Rows r=none) (fun r => [(1,I p),(2,Aqf 0),(6,I (spX (tileF isOpen l.Rows r))),(7,I (spY (tileF isOpen l.Rows r))),(23,L l.Rows),(24,I (els l.Rows).length),(25,I r)]) (fun r => [.box (Aqi l)]) J (Yj [0] Aqb) ?_
 intro m_A r hk_A hp_A
 refine Wz [3,58,4] ?_
 refine Xb J (fun h=>?_) (fun h=>?_)
 ·have h3:r<l.Rows.length:=Bqx
  have hat:=Y4 h3
  have hwr:=hw r h3
  have hrow:=Gqg h3
  generalize l.Rows[r]=row at hat hwr hrow
  refine Wz [9,11,100,26,8,51] ?_;refine A_lp row.size (fun c=>colF (isDig p) row c=none) (fun c => [(1,I p),(2,Aqf 0),(6,I (spX (openF l.Rows row r c))),(7,I (spY (openF l.Rows row r c))),(8,I r),(9,S row),(10,I c),(23,L l.Rows),(24,I (els l.Rows).length),(25,I r)]) (fun c => [.box (Aqi l)]) J (Yk [0] Aqc J Aqb (.c J (.c J (.cons (X0 (by rw[openF_zero])) (.cons (X0 (by rw[openF_zero])) (.c J (.c J (.c J (.c J (.c J (.c J (.nil)))))))))))) ?_
  intro m_D c hk_D hp_D
  refine Wz [15,38,58] ?_
  refine Xb J (fun h4=>?_) (fun h4=>?_)
  ·have h4:c<row.size:=by have:=Gqc h4; omega
   have hbt:=Yy row c
   have hbt2:=Yy row (c:Int).toNat
   by_cases hd:byteAt row c=49+p
   ·have hb:decide (byteAt row (c:Int).toNat=49+p)=true:=Gqb hd
    rw[start_dig hp_A hrow hp_D h4 hd]
    clear hd
    refine Wz [9,15,172,0,13,238,20,32,11,144,13,0,144,13,26,155,93,161,57] ?_
    exact Xq J J J (Yh [] Aqc J J (tu2 (show (c:Int)*16+2=16*(c:Int)+2 by omega) (show (r:Int)*16+2=16*(r:Int)+2 by omega)))
   have hb:decide (byteAt row (c:Int).toNat=49+p)=false:=Gqa hd
   have hnd:=colF_step hp_D (show isDig p (byteAt row c)=false from Gqa hd)
   by_cases h35:byteAt row c=35
   ·have hb3:decide (byteAt row (c:Int).toNat≠35)=false:=Gqa (fun q=>q h35)
    have hnx:spX (openF l.Rows row r c)=spX (openF l.Rows row r (c+1)):=by rw[openF_35 h35]
    have hny:spY (openF l.Rows row r c)=spY (openF l.Rows row r (c+1)):=by rw[openF_35 h35]
    clear h35
    refine Wz [9,15,172,0,13,238,20,28,10,172,22,0,87,5,81] ?_
    exact Bje
   have hb3:decide (byteAt row (c:Int).toNat≠35)=true:=Gqb h35
   have h35':=h35
   cases ho:openF l.Rows row r c with
   |some x =>
    have hlt:decide (spX (openF l.Rows row r c)<0)=false:=Gqa (by rw[spX_neg,ho]; simp)
    have hnx:spX (some x)=spX (openF l.Rows row r (c+1)):=by rw[Z5 ho]
    have hny:spY (some x)=spY (openF l.Rows row r (c+1)):=by rw[Z5 ho]
    rw[ho] at hlt
    refine Wz [9,15,172,0,13,238,20,28,10,172,22,14,19,46,81] ?_
    exact Bje
   |none =>
    have hlt:decide (spX none<0)=true:=rfl
    have hnx:(c:Int)*16+2=spX (openF l.Rows row r (c+1)):=by rw[Z6 ho,if_neg h35']; show (c:Int)*16+2=16*(c:Int)+2; omega
    have hny:(r:Int)*16+2=spY (openF l.Rows row r (c+1)):=by rw[Z6 ho,if_neg h35']; show (r:Int)*16+2=16*(r:Int)+2; omega
    refine Wz [9,15,172,0,13,238,20,28,10,172,22,14,19,83,11,144,49,27,144,13,110] ?_
    exact Bje
  ·have h4:c=row.size:=by have:=Gqd h4; omega
   subst h4
   refine Wz [180,181,104] ?_
   exact .n (r+1) (tileF_step hp_A hrow hp_D) (Yk [0] Aqc J Aqb (.c J (.c J (.cons (X0 (by rw[←openF_end hrow])) (.cons (X0 (by rw[←openF_end hrow])) (.c J (.c J (.c J (.nil)))))))))
 ·have h3:r=l.Rows.length:=Bq5
  rw[start_open hp_A h3]
  refine Wz [30,10,26,36] ?_
  exact Bzj
theorem S_StartOf (l:TLevel) (p:Int) (hg:Enc.gd l) (hl:levelOk l=true) (hp:0≤p∧p≤3):Co 269 [] [ag l,ai p] [] (.tu [.c (jn (spX (startT l p))),.c (jn (spY (startT l p)))]):=by
 have hc:=S_LevelOk l hg
 rw[hl] at hc
 have hlr:=Y7 l.Rows
 have hx:l.Rows.length≤9223372036854775807:=hg.1
 obtain⟨l3,l12,w,w4,w20,hw⟩:=Zp hl
 have hci:=Yg p 0 3
 rw[Zm.2 hp] at hci
 refine Con.o func269 ntmps269 fun E=>?_;refine Wz [43,26,8,23,23,4,7] ?_;refine kc0 hc ?_;refine Wz [6,14] ?_;refine kc0 hci ?_;refine Wz [2,6,5,135,51] ?_;refine A_lp l.Rows.length (fun r=>tileF (isDig p) l.Rows r=none) (fun r => [(1,I p),(2,Aqf 0),(6,I (spX (tileF isOpen l.Rows r))),(7,I (spY (tileF isOpen l.Rows r))),(8,I r)]) (fun r => [.box (Aqi l)]) J (Yj [0] Aqb) ?_
 intro m_A r hk_A hp_A
 refine Wz [41,105,58] ?_
 refine Xb J (fun h=>?_) (fun h=>?_)
 ·have h3:r<l.Rows.length:=Bqx
  have hat:=Y4 h3
  have hwr:=hw r h3
  have hrow:=Gqg h3
  generalize l.Rows[r]=row at hat hwr hrow
  refine Wz [9,51] ?_;refine A_lp row.size (fun c=>colF (isDig p) row c=none) (fun c => [(1,I p),(2,Aqf 0),(6,I (spX (openF l.Rows row r c))),(7,I (spY (openF l.Rows row r c))),(8,I r),(9,I c)]) (fun c => [.box (Aqi l)]) J (Yk [0] Aqc J Aqb (.c J (.c J (.cons (X0 (by rw[openF_zero])) (.cons (X0 (by rw[openF_zero])) (.c J (.c J (.nil)))))))) ?_
  intro m_D c hk_D hp_D
  refine Wz [41,68,100,38,58] ?_
  refine Xb J (fun h4=>?_) (fun h4=>?_)
  ·have h4:c<row.size:=by have:=Gqc h4; omega
   have hbt:=Yy row c
   have hbt2:=Yy row (c:Int).toNat
   by_cases hd:byteAt row c=49+p
   ·have hb:decide (byteAt row (c:Int).toNat-49=p)=true:=Gqb (by show byteAt row c-49=p; omega)
    have hb3:decide (byteAt row (c:Int).toNat≠35)=true:=Gqb (by show byteAt row c≠35; omega)
    rw[start_dig hp_A hrow hp_D h4 hd]
    clear hd
    cases ho:openF l.Rows row r c with
    |some x =>
     have hlt:decide (spX (openF l.Rows row r c)<0)=false:=Gqa (by rw[spX_neg,ho]; simp)
     rw[ho] at hlt
     refine Wz [9,65,158,48,172,40,22,14,19,46,14,189,2,29,2,21,20,5,32,11,144,49,27,144,49,11,189,29,0,20,32,10,26,155,215,57] ?_
     exact Bzj
    |none =>
     have hlt:decide (spX none<0)=true:=rfl
     refine Wz [9,65,158,48,172,40,22,14,19,46,55,80,83,11,144,49,27,144,49,11,189,29,0,20,32,10,26,155,215,57] ?_
     exact Bzj
   have hb:decide (byteAt row (c:Int).toNat-49=p)=false:=Gqa (by show ¬byteAt row c-49=p; omega)
   have hnd:=colF_step hp_D (show isDig p (byteAt row c)=false from Gqa hd)
   by_cases h35:byteAt row c=35
   ·have hb3:decide (byteAt row (c:Int).toNat≠35)=false:=Gqa (fun q=>q h35)
    have hnx:spX (openF l.Rows row r c)=spX (openF l.Rows row r (c+1)):=by rw[openF_35 h35]
    have hny:spY (openF l.Rows row r c)=spY (openF l.Rows row r (c+1)):=by rw[openF_35 h35]
    clear h35
    refine Wz [9,65,158,48,172,40,22,0,87,5,14,189,2,29,2,21,20,5,97,189,29,0,20,81] ?_
    exact Bjf
   have hb3:decide (byteAt row (c:Int).toNat≠35)=true:=Gqb h35
   have h35':=h35
   cases ho:openF l.Rows row r c with
   |some x =>
    have hlt:decide (spX (openF l.Rows row r c)<0)=false:=Gqa (by rw[spX_neg,ho]; simp)
    have hnx:spX (some x)=spX (openF l.Rows row r (c+1)):=by rw[Z5 ho]
    have hny:spY (some x)=spY (openF l.Rows row r (c+1)):=by rw[Z5 ho]
    rw[ho] at hlt
    refine Wz [9,65,158,48,172,40,22,14,19,46,14,189,2,29,2,21,20,5,97,189,29,0,20,81] ?_
    exact Bjf
   |none =>
    have hlt:decide (spX none<0)=true:=rfl
    have hnx:16*(c:Int)+2=spX (openF l.Rows row r (c+1)):=by rw[Z6 ho,if_neg h35']; rfl
    have hny:16*(r:Int)+2=spY (openF l.Rows row r (c+1)):=by rw[Z6 ho,if_neg h35']; rfl
    refine Wz [9,65,158,48,172,40,22,14,19,46,55,80,83,11,144,49,27,144,49,11,189,29,0,20,81] ?_
    exact Bjf
  ·have h4:c=row.size:=by have:=Gqd h4; omega
   subst h4
   refine Wz [180,181,226] ?_
   exact .n (r+1) (tileF_step hp_A hrow hp_D) (Yk [0] Aqc J Aqb (.c J (.c J (.cons (X0 (by rw[←openF_end hrow])) (.cons (X0 (by rw[←openF_end hrow])) (.c J (.nil)))))))
 ·have h3:r=l.Rows.length:=Bq5
  rw[start_open hp_A h3]
  refine Wz [30,10,26,36] ?_
  exact Bzj
end
section
open Tryz
open Go.RowKit

theorem I_fresh (l:TLevel) (p:Int) (hg:Enc.gd l) (hl:levelOk l=true) (hp:0≤p∧p≤3):Co 262 [] [ag l,ai p] [] (.o (.ag ((Enc.e (fresh l p)).map (V1.rd [])))):=by
 have hc:=I_StartOf l p hg hl hp
 refine Con.o func262 ntmps262 fun E=>?_;refine Wz [59,1,7,0] ?_;refine kc1 hc ?_;refine Wz [120,26,8,50,137,39,73] ?_
 exact Bzx
theorem S_fresh (l:TLevel) (p:Int) (hg:Enc.gd l) (hl:levelOk l=true) (hp:0≤p∧p≤3):Co 251 [] [ag l,ai p] [] (.o (.ag ((Enc.e (fresh l p)).map (V1.rd [])))):=by
 have hc:=S_StartOf l p hg hl hp
 refine Con.o func251 ntmps251 fun E=>?_;refine Wz [59,1,7,0] ?_;refine kc1 hc ?_;refine Wz [120,26,8,50,137,39,73] ?_
 exact Bzx
end
end Go.Proofs.YtalaljeokcpfnaaGreat
