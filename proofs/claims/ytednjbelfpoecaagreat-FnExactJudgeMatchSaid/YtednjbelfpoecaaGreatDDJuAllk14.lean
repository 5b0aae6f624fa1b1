/-
  Rules, data and contracts of functions: part 15 of the proof.
  Conditions: those that each theorem names.
-/
import Derived.ProofKit
import Derived.Deep.Slices
import Derived.Test.YtednjbelfpoecaaGreatDDJuAllk12
import Derived.Test.YtednjbelfpoecaaGreatDDJuAllk13
set_option linter.unusedVariables false
set_option linter.unusedSimpArgs false
set_option maxRecDepth 4096
set_option maxHeartbeats 8000000
namespace Go.Proofs.YtednjbelfpoecaaGreat
section
open Go.RowKit Go.ChangeShapes Go.WideShapes Go.Deep

def I64 (x:Int):Prop := -9223372036854775808≤x∧x≤9223372036854775807

class Enc (α:Type) where
 k:Nat
 pos:0<k
 e:α→List T
 len:∀ x,(e x).length=k
 gd:α→Prop
 wt:α→Nat
instance:Enc Int:=⟨1,by omega,fun x => [.v (.int .i64 x)],fun _=>rfl,I64,fun _=>0⟩
instance:Enc Bool:=⟨1,by omega,fun x => [.v (.bool x)],fun _=>rfl,fun _=>True,fun _=>0⟩
instance:Enc ByteArray:=⟨1,by omega,fun x => [.v (.string x)],fun _=>rfl,fun x=>x.size≤9223372036854775807,fun x=>x.size⟩
def wts {α:Type} [Enc α]:List α→Nat
 | []=>0
 |x::xs=>Enc.wt x+wts xs
@[reducible] def els {α:Type} [Enc α] (xs:List α):List (List T):=xs.map Enc.e
instance {α:Type} [Enc α]:Enc (List α):=⟨1,by omega,fun xs => [.sl (Enc.k α) (els xs)],fun _=>rfl,fun xs=>xs.length≤9223372036854775807∧∀ x∈xs,Enc.gd x,fun xs=>xs.length+wts xs⟩

@[reducible] def sl {α:Type} [Enc α] (xs:List α):T := .sl (Enc.k α) (els xs)
@[reducible] def ai (n:Int):V2 := .c (.rd [] (.v (.int .i64 n)))
@[reducible] def al {α:Type} [Enc α] (xs:List α):V2 := .c (.rd [] (sl xs))
@[reducible] def ag {α:Type} [Enc α] (x:α):V2 := .ag ((Enc.e x).map (V1.rd []))
@[reducible] def L {α:Type} [Enc α] (xs:List α):V := .o (al xs)

class PlainE (α:Type) [Enc α]:Prop where
 plain:∀ (x:α) (t:T),t∈Enc.e x→∃ u,t = .v u
instance:PlainE Int:=⟨fun x t h=>by simp[Enc.e] at h; exact⟨_,h⟩⟩
instance:PlainE Bool:=⟨fun x t h=>by simp[Enc.e] at h; exact⟨_,h⟩⟩
instance:PlainE ByteArray:=⟨fun x t h=>by simp[Enc.e] at h; exact⟨_,h⟩⟩
theorem Yb {α:Type} [Enc α] [PlainE α] (xs:List α):plainT (els xs):=fun e he t ht=>by
 obtain⟨x,_,rfl⟩:=Gqs.1 he
 exact PlainE.plain x t ht
theorem els_k {α:Type} [Enc α] (xs:List α):∀ e∈els xs,e.length=Enc.k α:=fun e he=>by
 obtain⟨x,_,rfl⟩:=Gqs.1 he
 exact Enc.len x
@[reducible] def bs (l:List UInt8):ByteArray:=⟨l.toArray⟩
theorem X9 {α:Type} [Enc α] {xs:List α} {k:Nat} (h:k<xs.length):(els xs)[(k:Int).toNat]? = some (Enc.e xs[k]):=by simp[els,h]
theorem Ya {α:Type} [Enc α] (xs:List α):(els xs).length=xs.length:=by simp[els]
theorem Kh {α:Type} [Enc α]:∀ (xs:List α) (k:Nat) (h:k<xs.length),wts (xs.take (k+1))=wts (xs.take k)+Enc.wt xs[k]
 |x::xs,0,_=>by simp[wts]
 |x::xs,k+1,h=>by
  have:=Kh xs k (by simpa using h)
  simp only[List.take_succ_cons,wts,List.getElem_cons_succ,this]
  omega
theorem Kg {α:Type} [Enc α]:∀ (xs:List α) (x:α),x∈xs→Enc.wt x≤wts xs
 |y::xs,x,h=>by
  simp only[wts]
  rcases List.mem_cons.1 h with rfl | h
  ·omega
  ·have:=Kg xs x h; omega
theorem Ki {α:Type} [Enc α]:∀ (xs:List α) (k:Nat),wts (xs.take k)≤wts xs
 | [],k=>by simp[wts]
 |x::xs,0=>by simp[wts]
 |x::xs,k+1=>by
  have:=Ki xs k
  simp only[List.take_succ_cons,wts]
  omega

/-! ### Readings -/
theorem list_of_each {α:Type} {p:Nat→α→Prop}:∀ n:Nat,(∀ i,i<n→∃ y,p i y)→∃ ys:List α,ys.length=n∧∀ (i:Nat) (y:α),ys[i]? = some y→p i y
 |0,_=>⟨[],rfl,fun _ _ h=>by simp at h⟩
 | n+1,h=>by
  obtain⟨ys,h1,h2⟩:=list_of_each n fun i hi=>h i (by omega)
  obtain⟨y,hy⟩:=h n (by omega)
  refine⟨ys ++ [y],by simp[h1],fun i z hz => ?_⟩
  rcases Gqn i ys.length with hi | hi
  ·rw[Gqt hi] at hz
   exact h2 i z hz
  ·rw[Gqx hi] at hz
   have hi0:i-ys.length=0:=by
    rcases Nat.eq_zero_or_pos (i-ys.length) with h0 | h0
    ·exact h0
    ·rw[List.getElem?_eq_none (by simp; omega)] at hz
     cases hz
   rw[hi0] at hz
   simp only[Gq7,Option.some.injEq] at hz
   subst hz
   have:i=n:=by omega
   subst this
   exact hy

def Reads {α:Type} [Enc α] (w:World) (x:α) (cs:List Value):Prop:=cs.length=Enc.k α∧∀ (j:Nat) (t:T) (u:Value),(Enc.e x)[j]? = some t→cs[j]? = some u→RO w (fun _=>True) t u

class RdOf (P:Program) (t:TypeId) (α:outParam Type) [Enc α]:Prop where
 size:P.cellsOf t=Enc.k α
 of:∀ {H:Type} {enc:TypeId×Value→H} {w:World} {spare:Nat→Bool} {held:Bool} {fuel:Nat} {cs:List Value} {x:DataW H×List MemPlace},
  DataW.trod enc P w 0 spare held fuel t cs=some x→∃ y:α,Enc.gd y∧Reads w y cs

theorem i64_of_wf {n:Int} (h:(Lit.int .i64 n).wf=true):I64 n:=by
 simp[Lit.wf,IntKind.min,IntKind.max,IntKind.signed,IntKind.bits] at h
 exact⟨by omega,by omega⟩
theorem reads_one {α:Type} [Enc α] {w:World} {x:α} {t:T} {u:Value} (he:Enc.e x = [t]) (h:RO w (fun _=>True) t u):Reads w x [u]:=by
 refine⟨by rw[←Enc.len x,he]; rfl,fun j t' u' h1 h2 => ?_⟩
 rw[he] at h1
 cases j with
 |zero=>simp at h1 h2; subst h1 h2; exact h
 |succ j=>simp at h1
theorem rdOf_int {P:Program} {t:TypeId} (ht:P.underlying t=some (.int .i64)) (hs:P.cellsOf t=1):RdOf P t Int where
 size:=hs
 of h:=by
  obtain⟨n,rfl,_,h3⟩:=DataW.trod_int ht h
  exact⟨n,i64_of_wf h3,reads_one J (.v _ J)⟩
theorem rdOf_string {P:Program} {t:TypeId} (ht:P.underlying t=some .string) (hs:P.cellsOf t=1):RdOf P t ByteArray where
 size:=hs
 of h:=by
  obtain⟨s,rfl,_,h3⟩:=DataW.trod_string ht h
  exact⟨s,by simpa[maxLen,Enc.gd] using h3,reads_one J (.v _ J)⟩
theorem Zv {P:Program} {t e:TypeId} {α:Type} [Enc α] [hα:RdOf P e α] (ht:P.underlying t=some (.slice e)) (hs:P.cellsOf t=1):RdOf P t (List α) where
 size:=hs
 of {H enc w spare held fuel cs x} h:=by
  rcases open_slice ht h with ⟨rfl,_⟩ | ⟨a,len,cap,m,n,D,Pl,rfl,_,hl,hm,hmm,_,hi⟩
  ·exact⟨[],⟨by simp,by simp⟩,reads_one rfl (.nil _ _ _ (by simp[maxLen]))⟩
  ·have hlm:len≤m:=by rw[hmm]; split <;> omega
   obtain⟨ys,h1,h2⟩:=list_of_each (p:=fun i y=>∃ es,w.cells? 0 (a.add (i*P.cellsOf e)) (P.cellsOf e)=some es∧Enc.gd (α:=α) y∧Reads w y es) len fun i hi'=>by
    obtain⟨es,h3,h4⟩:=hi i (by omega)
    obtain⟨y,hy⟩:=hα.of h4
    exact⟨y,es,h3,hy⟩
   subst h1
   refine⟨ys,⟨by simp[maxLen] at hm; omega,fun y hy => ?_⟩,?_⟩
   ·obtain⟨i,hi'⟩:=List.getElem?_of_mem hy
    obtain⟨es,_,hg,_⟩:=h2 i y hi'
    exact hg
   refine reads_one J ?_
   rcases Nat.eq_zero_or_pos ys.length with h0 | h0
   ·have:=List.eq_nil_of_length_eq_zero h0
    subst this
    exact .nil _ _ _ hm
   ·have hsp:a.spot=none:=by
     obtain⟨es,h3,_⟩:=h2 0 _ (Gqf h0)
     obtain⟨_,hcl,hat⟩:=World.cells?_some h3
     have hp:0<P.cellsOf e:=by rw[hα.size]; exact Enc.pos
     have:=hat 0 hp
     rw[Gqf (by omega)] at this
     have h5:=World.cell?_spot this
     simpa[Addr.add] using h5
    obtain⟨b,o,sp⟩:=a
    simp only at hsp
    subst hsp
    have hel:∀ i,i<ys.length→∃ es,w.cells? 0 ((⟨b,o,none⟩:Addr).add (i*P.cellsOf e)) (P.cellsOf e)=some es:=fun i hi'=>by
     obtain⟨es,h3,_⟩:=h2 i _ (Gqf hi')
     exact⟨es,h3⟩
    have hlen:ys.length=(els ys).length:=(Ya ys).symm
    rw[hlen]
    refine .sl (els ys) b o (Enc.k α) cap (fun i j=>((w.cells? 0 ((⟨b,o,none⟩:Addr).add (i*P.cellsOf e)) (P.cellsOf e)).getD []).getD j undef) trivial (by rw[Ya]; exact hl) hm Enc.pos (fun e' he => ?_) (fun i j hi' hj => ?_) fun i j e' t' h3 h4 => ?_
    ·obtain⟨y,_,rfl⟩:=Gqs.1 he
     exact Enc.len y
    ·rw[Ya] at hi'
     obtain⟨es,h3⟩:=hel i hi'
     obtain⟨_,hcl,hat⟩:=World.cells?_some h3
     rw[hα.size] at hcl
     have h5:=hat j (by rw[hα.size]; exact hj)
     rw[add_lit,add_lit,hα.size,Gqf (by omega)] at h5
     rw[h3]
     simp only[Option.getD_some]
     rw[h5,Gqe,Gqf (by omega)]
     rfl
    ·rw[Gqi] at h3
     obtain⟨y,hy,rfl⟩:=Option.map_eq_some_iff.1 h3
     obtain⟨es,h5,_,h6⟩:=h2 i y hy
     have hj:j<es.length:=by rw[h6.1,←Enc.len y]; exact Yl h4
     show RO w _ t' (((w.cells? 0 ((⟨b,o,none⟩:Addr).add (i*P.cellsOf e)) (P.cellsOf e)).getD []).getD j undef)
     rw[h5]
     simp only[Option.getD_some]
     rw[Yk (Gqf hj)]
     exact h6.2 j t' _ h4 (Gqf hj)

theorem reads_of_Trod {P:Program} {t:TypeId} {α:Type} [Enc α] [hα:RdOf P t α] {H:Type} {enc:TypeId×Value→H} {w:World} {spare:Nat→Bool} {held:Bool} {v:Value} {d:DataW H} {p:List MemPlace}
  (h:DataW.Trod enc P w 0 spare held t v d p):∃ y:α,Enc.gd y∧Reads w y v.cells.toList:=by
 obtain⟨fuel,hf⟩:=h
 exact hα.of hf

theorem r2_agg {α:Type} [Enc α] {w:World} {H:Hs} {x:α} {cs:List Value} (h:Reads w x cs):R2 w H (fun b=>b<w.heap.size) (ag x) (.agg cs.toArray):=by
 refine⟨cs,J,by simp[h.1,Enc.len],fun i c u h1 h2 => ?_⟩
 rw[Gqi] at h1
 obtain⟨t,h3,rfl⟩:=Option.map_eq_some_iff.1 h1
 exact RO.weak (h.2 i t u h3 h2) fun b _ hb => .inl hb
theorem r2_int {w:World} {H:Hs} {F:Nat→Prop} (n:Int):R2 w H F (ai n) (.int .i64 n):=RO.v _ rfl
theorem law_calls {P:Program} {f:FuncId} {args:List V2} (hc:Con P f [] args [] (B true)) (w:World) (vs:List Value) (hl:vs.length=args.length) (hr:∀ (i:Nat) (x:V2) (v:Value),args[i]? = some x→vs[i]? = some v→R2 w (fun _ => .nil) (fun b=>b<w.heap.size) x v) :
  Calls P f vs.toArray w fun e w'=>e = .returned (.bool true)∧Below w.heap.size w w':=by
 refine (hc w (fun _ => .nil) (fun b=>b<w.heap.size) vs ⟨fun _=>trivial,fun _=>by simp[Pc.fp],fun p q b h=>by simp[Pc.fp] at h,fun p b h=>by simp[Pc.fp] at h,fun _ h=>h⟩ (fun p=>by simp[RB]) hl hr).mono ?_
 rintro e w' ⟨H',F',rv,rfl,hs,_,_,hv⟩
 refine⟨by rw[(RO.plain (show RO w' _ (.v (.bool true)) rv from hv)).1],hs.os,hs.tape,hs.output,hs.size,fun b hb=>hs.keep b hb fun p=>by simp[Pc.fp]⟩
end
section
open Go.RowKit

theorem Xs {a b:Int} (h:a=b):I a=I b:=by rw[h]
theorem Xk {a b:Bool} (h:a=b):B a=B b:=by rw[h]
def szr (n:Nat) (left:Int):Int:=if left<n then -1 else left-n
theorem Z9 {n:Nat} {left:Int} (h:left<n):szr n left = -1:=if_pos h
theorem V3 {n:Nat} {left:Int} (h:left<n:=by omega):szr n left = -1:=Z9 h
theorem Ka {n:Nat} {left:Int} (h:(n:Int)≤left):szr n left=left-n:=if_neg (by omega)
theorem V4 {n:Nat} {left:Int} (h:(n:Int)≤left:=by omega):szr n left=left-n:=Ka h
theorem wts_int:∀ xs:List Int,wts xs=0
 | []=>rfl
 |x::xs=>by simp[wts,wts_int xs,Enc.wt]
theorem Yg {α:Type} [DecidableEq α] {xs ys:List α} {j:Nat} (h1:j<xs.length) (h2:j<ys.length) (h:¬xs[j]=ys[j]):decide (xs=ys)=false:=by
 rw[decide_eq_false_iff_not]
 intro e
 subst e
 exact h J
theorem Ye {α:Type} [DecidableEq α] {xs ys:List α} {j:Nat} (h1:xs.length≤j) (h2:xs.length=ys.length) (h:xs.take j=ys.take j):decide (xs=ys)=true:=by
 rw[Gq0 h1,Gq0 (by omega)] at h
 simp[h]
theorem V9 {α:Type} [DecidableEq α] {xs ys:List α} {j:Nat} (h2:xs.length=ys.length) (h:xs.take j=ys.take j) (h1:xs.length≤j:=by omega):decide (xs=ys)=true:=Ye h1 h2 h
theorem Yf {α:Type} [DecidableEq α] {xs ys:List α} (h:xs.length≠ys.length):decide (xs=ys)=false:=by
 rw[decide_eq_false_iff_not]
 intro e
 subst e
 exact h J
theorem Yh {α:Type} {xs ys:List α} {j:Nat} (h1:j<xs.length) (h2:j<ys.length) (h:xs.take j=ys.take j) (e:xs[j]=ys[j]):xs.take (j+1)=ys.take (j+1):=by
 rw[Gq8 h1,Gq8 h2,h,e]

/-! ### Counting -/
theorem sz_IntS (xs:List Int) (left:Int) (hg:Enc.gd xs) (h0:0≤left) (h1:left≤1048576):Con Tryz.prog 81 [] [al xs,ai left] [] (I (szr (Enc.wt xs) left)):=by
 have hlen:=Ya xs
 have hx:=hg.1
 have hw:Enc.wt xs=xs.length:=by simp[Enc.wt,wts_int]
 refine Con.of Tryz.func81 J Tryz.ntmps81 J (fun E => ?_)
 refine Wz [31,3,161,45,42,66] ?_
 refine Xb J (fun h => ?_) (fun h => ?_)
 ·refine Wz [55] ?_
  have h2:=Gqc (p:=_) (by simpa using h)
  exact Vz J (V0 [] J J (Xs (by rw[V3])))
 ·refine Wz [22,3,4] ?_
  refine Wz [84] ?_
  have h2:=Gqd h
  exact Vz J (V0 [] J J (Xs (by rw[V4]; omega)))
theorem sz_StringS (xs:List ByteArray) (left:Int) (hg:Enc.gd xs) (h0:0≤left) (h1:left≤1048576):Con Tryz.prog 80 [] [al xs,ai left] [] (I (szr (Enc.wt xs) left)):=by
 have hlen:=Ya xs
 have hx:=hg.1
 have hw:Enc.wt xs=xs.length+wts xs:=rfl
 refine Con.of Tryz.func80 J Tryz.ntmps80 J (fun E => ?_)
 refine Wz [31,3,161,45,42,66] ?_
 refine Xb J (fun h => ?_) (fun h => ?_)
 ·refine Wz [55] ?_
  have h2:=Gqc h
  exact Vz J (V0 [] J J (Xs (by rw[V3])))
 have h2:¬(left-((els xs).length:Int)<0):=Gqd h
 refine Wz [22,32] ?_
 refine Xj (fun m st=>∃ k:Nat,k+m=xs.length∧(((xs.length:Int)+wts (xs.take k)≤left))∧st=(⟨_,[(0,L xs),(1,I (left-(xs.length+wts (xs.take k)))),(5,I k)],[]⟩:St)) (xs.length) ⟨(fun k:Nat=>(⟨_,[(0,L xs),(1,I (left-(xs.length+wts (xs.take k)))),(5,I k)],[]⟩:St)) 0,⟨0,by omega,by simp[wts]; omega,J⟩,Vy [] J (by kernel_rfl) (.c J (.cons (Xs (by simp[els,wts])) (.c J (.nil))))⟩ ?_
 rintro m_A _ ⟨k,hk_A,hp_A,rfl⟩
 refine Wz [75] ?_
 refine Xb J (fun h => ?_) (fun h => ?_)
 ·have h3:k<xs.length:=by have:=Gqc h; omega
  have hat:=X9 h3
  have hstep:=Kh xs k h3
  have hle:=Ki xs (k+1)
  have hws:Enc.wt xs[k]=xs[k].size:=rfl
  have hgd:xs[k].size≤9223372036854775807:=hg.2 _ (Gqg h3)
  by_cases h4:left-((xs.length:Int)+wts (xs.take k))-xs[k].size<0
  ·have hb:decide (left-((xs.length:Int)+wts (xs.take k))-xs[k].size<0)=true:=Gqb h4
   refine Wz [25,44,52,134,45,48,5,64] ?_
   exact Vz J (V0 [] J J (Xs (by rw[V3])))
  ·have hb:decide (left-((xs.length:Int)+wts (xs.take k))-xs[k].size<0)=false:=Gqa h4
   refine Wz [25,44,52,134,45,48,5,49] ?_
   exact⟨xs.length-(k+1),by omega,(fun k:Nat=>(⟨_,[(0,L xs),(1,I (left-(xs.length+wts (xs.take k)))),(5,I k)],[]⟩:St)) (k+1),⟨k+1,by omega,by omega,J⟩,Vy [] J (by kernel_rfl) (.c J (.cons (Xs (by rw[hstep]; omega)) (.c J (.nil))))⟩
 ·have h3:¬((k:Int)<(els xs).length):=Gqd h
  have hk:wts (xs.take k)=wts xs:=by rw[Gq0 (by omega)]
  refine Wz [35,81] ?_
  exact Vz J (V0 [] J J (Xs (by rw[V4]; omega)))
theorem sz_IntSS (xs:List (List Int)) (left:Int) (hg:Enc.gd xs) (h0:0≤left) (h1:left≤1048576):Con Tryz.prog 21 [] [al xs,ai left] [] (I (szr (Enc.wt xs) left)):=by
 have hlen:=Ya xs
 have hx:=hg.1
 have hw:Enc.wt xs=xs.length+wts xs:=rfl
 refine Con.of Tryz.func21 J Tryz.ntmps21 J (fun E => ?_)
 refine Wz [31,3,161,45,42,66] ?_
 refine Xb J (fun h => ?_) (fun h => ?_)
 ·refine Wz [55] ?_
  have h2:=Gqc h
  exact Vz J (V0 [] J J (Xs (by rw[V3])))
 have h2:¬(left-((els xs).length:Int)<0):=Gqd h
 refine Wz [22,32] ?_
 refine Xj (fun m st=>∃ k:Nat,k+m=xs.length∧(((xs.length:Int)+wts (xs.take k)≤left))∧st=(⟨_,[(0,L xs),(1,I (left-(xs.length+wts (xs.take k)))),(5,I k)],[]⟩:St)) (xs.length) ⟨(fun k:Nat=>(⟨_,[(0,L xs),(1,I (left-(xs.length+wts (xs.take k)))),(5,I k)],[]⟩:St)) 0,⟨0,by omega,by simp[wts]; omega,J⟩,Vy [] J (by kernel_rfl) (.c J (.cons (Xs (by simp[els,wts])) (.c J (.nil))))⟩ ?_
 rintro m_A _ ⟨k,hk_A,hp_A,rfl⟩
 refine Wz [75] ?_
 refine Xb J (fun h => ?_) (fun h => ?_)
 ·have h3:k<xs.length:=by have:=Gqc h; omega
  have hat:=X9 h3
  have hstep:=Kh xs k h3
  have hle:=Ki xs (k+1)
  have hc:=sz_IntS xs[k] (left-((xs.length:Int)+wts (xs.take k))) (hg.2 _ (Gqg h3)) (by omega) (by omega)
  by_cases h4:left-((xs.length:Int)+wts (xs.take k))<Enc.wt xs[k]
  ·rw[Z9 h4] at hc
   have hb:decide ((-1:Int)<0)=true:=rfl
   refine Wz [25,0,52,0] ?_;refine zx (Qj J J (hc) J) J ?_;refine Wz [48,5,64] ?_
   exact Vz J (V0 [] J J (Xs (by rw[V3])))
  ·rw[V4] at hc
   have hb:decide (left-((xs.length:Int)+wts (xs.take k))-Enc.wt xs[k]<0)=false:=Gqa (by omega)
   refine Wz [25,0,52,0] ?_;refine zx (Qj J J (hc) J) J ?_;refine Wz [48,5,49] ?_
   exact⟨xs.length-(k+1),by omega,(fun k:Nat=>(⟨_,[(0,L xs),(1,I (left-(xs.length+wts (xs.take k)))),(5,I k)],[]⟩:St)) (k+1),⟨k+1,by omega,by omega,J⟩,Vy [] J (by kernel_rfl) (.c J (.cons (Xs (by rw[hstep]; omega)) (.c J (.nil))))⟩
 ·have h3:¬((k:Int)<(els xs).length):=Gqd h
  have hk:wts (xs.take k)=wts xs:=by rw[Gq0 (by omega)]
  refine Wz [35,81] ?_
  exact Vz J (V0 [] J J (Xs (by rw[V4]; omega)))

/-! ### Copying -/
def part {α:Type} [Enc α] (xs:List α) (z:List T) (k:Nat):List (List T):=els (xs.take k)++List.replicate (xs.length-k) z
theorem Yz {α:Type} [Enc α] (xs:List α) (z:List T) {k:Nat} (h:k≤xs.length):(part xs z k).length=xs.length:=by simp[part,els]; omega
theorem V5 {α:Type} [Enc α] {k:Nat} (xs:List α) (z:List T) (h:k≤xs.length:=by omega):(part xs z k).length=xs.length:=Yz xs z h
theorem Y2 {α:Type} [Enc α] (xs:List α) (z:List T):part xs z 0=List.replicate (((els xs).length:Int)).toNat z:=by simp[part,els]
theorem Yx {α:Type} [Enc α] (xs:List α) (z:List T) {k:Nat} (h:xs.length≤k):part xs z k=els xs:=by
 unfold part
 rw[Gq0 h,show xs.length-k=0 by omega]
 simp
theorem V6 {α:Type} [Enc α] {k:Nat} (xs:List α) (z:List T) (h:xs.length≤k:=by omega):part xs z k=els xs:=Yx xs z h
theorem Yy {α:Type} [Enc α] (xs:List α) (z:List T) {k:Nat} (h:k<xs.length):(part xs z k)[(k:Int).toNat]? = some z:=by
 have h1:(els (xs.take k)).length=k:=by simp[els]; omega
 unfold part
 rw[Int.toNat_natCast,Gqx (by omega),h1,Nat.sub_self,List.getElem?_replicate,if_pos (by omega)]
theorem Y0 {α:Type} [Enc α] (xs:List α) (z:List T) {k:Nat} (h:k<xs.length) (ts:List T) (ht:ts=Enc.e xs[k]) (hz:z.length=ts.length):(part xs z k).set (k:Int).toNat (splice z 0 ts)=part xs z (k+1):=by
 have h1:(els (xs.take k)).length=k:=by simp[els]; omega
 have h2:splice z 0 ts=ts:=by simp[splice,hz]
 subst ht
 unfold part
 rw[h2,Int.toNat_natCast,List.set_append_right _ _ (by omega),h1,Nat.sub_self,show xs.length-k=(xs.length-(k+1))+1 by omega,List.replicate_succ,List.set_cons_zero]
 have h3:els (xs.take (k+1))=els (xs.take k) ++ [Enc.e xs[k]]:=by
  rw[Gq8 h]
  simp only[els,List.map_append,List.map_cons,List.map_nil]
 rw[h3,Gxc]
 rfl
theorem Zy {k:Nat} {a b:List (List T)} (h:a=b) : [Ob.row k a] = [Ob.row k b]:=by rw[h]

theorem to_IntS (xs:List Int) (hg:Enc.wt xs≤1048576):Con Tryz.prog 89 [] [al xs] [.row (Enc.k Int) (els xs)] (.o (.c (.ref 0))):=by
 have hlen:=Ya xs
 have hw:Enc.wt xs=xs.length+wts xs:=rfl
 refine Con.of Tryz.func89 J Tryz.ntmps89 J (fun E => ?_)
 refine Wz [31,3,11,233,4,32] ?_;refine Xj (fun m st=>∃ k:Nat,k+m=xs.length∧(True)∧st=(⟨_,[(0,L xs),(3,.o (.c (.ref 0))),(4,I k)],[.row 1 (part xs [(.v (.int .i64 0))] k)]⟩:St)) (xs.length) ⟨(fun k:Nat=>(⟨_,[(0,L xs),(3,.o (.c (.ref 0))),(4,I k)],[.row 1 (part xs [(.v (.int .i64 0))] k)]⟩:St)) 0,⟨0,by omega,trivial,J⟩,Vy [0] J (Zy (Y2 xs _)) (.c J (.c J (.c J (.nil))))⟩ ?_
 rintro m_A _ ⟨k,hk_A,hp_A,rfl⟩
 refine Wz [75] ?_
 refine Xb J (fun h => ?_) (fun h => ?_)
 ·have h3:k<xs.length:=by have:=Gqc h; omega
  have hat:=X9 h3
  have hz:=Yy xs [(.v (.int .i64 0))] h3
  have hpl:(k:Int)<(part xs [(.v (.int .i64 0))] k).length:=by rw[V5 xs _]; omega
  have hwt:Enc.wt xs[k]≤wts xs:=Kg xs _ (Gqg h3)
  refine Wz [21,33,44,44,52,173,142,73] ?_
  exact⟨xs.length-(k+1),by omega,(fun k:Nat=>(⟨_,[(0,L xs),(3,.o (.c (.ref 0))),(4,I k)],[.row 1 (part xs [(.v (.int .i64 0))] k)]⟩:St)) (k+1),⟨k+1,by omega,trivial,J⟩,Vy [0] J (Zy (Y0 xs [(.v (.int .i64 0))] h3 _ (by rfl) (by rfl)).symm) (.c J (.c J (.c J (.nil))))⟩
 ·have h3:¬((k:Int)<(els xs).length):=Gqd h
  refine Wz [35,81] ?_
  exact Vz J (V0 [0] J (Zy (V6 xs _).symm) J)
theorem to_StringS (xs:List ByteArray) (hg:Enc.wt xs≤1048576):Con Tryz.prog 88 [] [al xs] [.row (Enc.k ByteArray) (els xs)] (.o (.c (.ref 0))):=by
 have hlen:=Ya xs
 have hw:Enc.wt xs=xs.length+wts xs:=rfl
 refine Con.of Tryz.func88 J Tryz.ntmps88 J (fun E => ?_)
 refine Wz [31,3,11,233,4,32] ?_;refine Xj (fun m st=>∃ k:Nat,k+m=xs.length∧(True)∧st=(⟨_,[(0,L xs),(3,.o (.c (.ref 0))),(4,I k)],[.row 1 (part xs [(.v (.string ⟨#[]⟩))] k)]⟩:St)) (xs.length) ⟨(fun k:Nat=>(⟨_,[(0,L xs),(3,.o (.c (.ref 0))),(4,I k)],[.row 1 (part xs [(.v (.string ⟨#[]⟩))] k)]⟩:St)) 0,⟨0,by omega,trivial,J⟩,Vy [0] J (Zy (Y2 xs _)) (.c J (.c J (.c J (.nil))))⟩ ?_
 rintro m_A _ ⟨k,hk_A,hp_A,rfl⟩
 refine Wz [75] ?_
 refine Xb J (fun h => ?_) (fun h => ?_)
 ·have h3:k<xs.length:=by have:=Gqc h; omega
  have hat:=X9 h3
  have hz:=Yy xs [(.v (.string ⟨#[]⟩))] h3
  have hpl:(k:Int)<(part xs [(.v (.string ⟨#[]⟩))] k).length:=by rw[V5 xs _]; omega
  have hwt:Enc.wt xs[k]≤wts xs:=Kg xs _ (Gqg h3)
  refine Wz [21,33,44,44,52,173,142,73] ?_
  exact⟨xs.length-(k+1),by omega,(fun k:Nat=>(⟨_,[(0,L xs),(3,.o (.c (.ref 0))),(4,I k)],[.row 1 (part xs [(.v (.string ⟨#[]⟩))] k)]⟩:St)) (k+1),⟨k+1,by omega,trivial,J⟩,Vy [0] J (Zy (Y0 xs [(.v (.string ⟨#[]⟩))] h3 _ (by rfl) (by rfl)).symm) (.c J (.c J (.c J (.nil))))⟩
 ·have h3:¬((k:Int)<(els xs).length):=Gqd h
  refine Wz [35,81] ?_
  exact Vz J (V0 [0] J (Zy (V6 xs _).symm) J)
theorem to_IntSS (xs:List (List Int)) (hg:Enc.wt xs≤1048576):Con Tryz.prog 26 [] [al xs] [.row (Enc.k (List Int)) (els xs)] (.o (.c (.ref 0))):=by
 have hlen:=Ya xs
 have hw:Enc.wt xs=xs.length+wts xs:=rfl
 refine Con.of Tryz.func26 J Tryz.ntmps26 J (fun E => ?_)
 refine Wz [31,3,11,234,4,32] ?_;refine Xj (fun m st=>∃ k:Nat,k+m=xs.length∧(True)∧st=(⟨_,[(0,L xs),(3,.o (.c (.ref 0))),(4,I k)],[.row 1 (part xs [(.sl 1 [])] k)]⟩:St)) (xs.length) ⟨(fun k:Nat=>(⟨_,[(0,L xs),(3,.o (.c (.ref 0))),(4,I k)],[.row 1 (part xs [(.sl 1 [])] k)]⟩:St)) 0,⟨0,by omega,trivial,J⟩,Vy [0] J (Zy (Y2 xs _)) (.c J (.c J (.c J (.nil))))⟩ ?_
 rintro m_A _ ⟨k,hk_A,hp_A,rfl⟩
 refine Wz [75] ?_
 refine Xb J (fun h => ?_) (fun h => ?_)
 ·have h3:k<xs.length:=by have:=Gqc h; omega
  have hat:=X9 h3
  have hz:=Yy xs [(.sl 1 [])] h3
  have hpl:(k:Int)<(part xs [(.sl 1 [])] k).length:=by rw[V5 xs _]; omega
  have hwt:Enc.wt xs[k]≤wts xs:=Kg xs _ (Gqg h3)
  refine Wz [21,33,44,44,52] ?_;refine M1 (Za J J (to_IntS _ (by omega)) J J J) J J ?_;refine Wz [173,142,73] ?_
  exact⟨xs.length-(k+1),by omega,(fun k:Nat=>(⟨_,[(0,L xs),(3,.o (.c (.ref 0))),(4,I k)],[.row 1 (part xs [(.sl 1 [])] k)]⟩:St)) (k+1),⟨k+1,by omega,trivial,J⟩,Vy [0] J (Zy (Y0 xs [(.sl 1 [])] h3 _ (by rfl) (by rfl)).symm) (.c J (.c J (.c J (.nil))))⟩
 ·have h3:¬((k:Int)<(els xs).length):=Gqd h
  refine Wz [35,81] ?_
  exact Vz J (V0 [0] J (Zy (V6 xs _).symm) J)

/-! ### Comparing -/
theorem eq_IntS (xs ys:List Int) (hn:Enc.gd xs):Con Tryz.prog 103 [] [al xs,al ys] [] (B (decide (xs=ys))):=by
 have hn1:=hn.1
 have hlx:=Ya xs
 have hly:=Ya ys
 by_cases hl:xs.length=ys.length
 ·have hb:decide (((els xs).length:Int)≠((els ys).length:Int))=false:=by rw[hlx,hly,hl]; simp
  refine Con.of Tryz.func103 J Tryz.ntmps103 J (fun E => ?_)
  refine Wz [96,29,56,32] ?_;refine Xj (fun m st=>∃ k:Nat,k+m=xs.length∧(xs.take k=ys.take k)∧st=(⟨_,[(0,L xs),(1,L ys),(5,I k)],[]⟩:St)) (xs.length) ⟨_,⟨0,by omega,by simp,J⟩,V8 []⟩ ?_
  rintro m_A _ ⟨k,hk_A,hp_A,rfl⟩
  refine Wz [75] ?_
  refine Xb J (fun h => ?_) (fun h => ?_)
  ·have h3:k<xs.length:=by have:=Gqc h; omega
   have h4:k<ys.length:=by omega
   have hat:=X9 h3
   have hat2:=X9 h4
   by_cases he:xs[k]=ys[k]
   ·have hk:decide (xs[k]≠ys[k])=false:=by simp[he]
    refine Wz [72,235,106,46,106,46,143,10,49] ?_
    exact⟨xs.length-(k+1),by omega,_,⟨k+1,by omega,Yh h3 h4 hp_A he,J⟩,V8 []⟩
   ·have hk:decide (xs[k]≠ys[k])=true:=by simp[he]
    refine Wz [72,235,106,46,106,46,143,10,64] ?_
    exact Vz J (V0 [] J J (Xk (Yg h3 h4 he).symm))
  ·have h3:¬((k:Int)<(els xs).length):=Gqd h
   refine Wz [101] ?_
   exact Vz J (V0 [] J J (Xk (V9 hl hp_A).symm))
 ·have hb:decide (((els xs).length:Int)≠((els ys).length:Int))=true:=by rw[hlx,hly]; simp; omega
  refine Con.of Tryz.func103 J Tryz.ntmps103 J (fun E => ?_)
  refine Wz [96,41] ?_
  exact Vz J (V0 [] J J (Xk (Yf hl).symm))
theorem eq_StringS (xs ys:List ByteArray) (hn:Enc.gd xs):Con Tryz.prog 102 [] [al xs,al ys] [] (B (decide (xs=ys))):=by
 have hn1:=hn.1
 have hlx:=Ya xs
 have hly:=Ya ys
 by_cases hl:xs.length=ys.length
 ·have hb:decide (((els xs).length:Int)≠((els ys).length:Int))=false:=by rw[hlx,hly,hl]; simp
  refine Con.of Tryz.func102 J Tryz.ntmps102 J (fun E => ?_)
  refine Wz [96,29,56,32] ?_;refine Xj (fun m st=>∃ k:Nat,k+m=xs.length∧(xs.take k=ys.take k)∧st=(⟨_,[(0,L xs),(1,L ys),(5,I k)],[]⟩:St)) (xs.length) ⟨_,⟨0,by omega,by simp,J⟩,V8 []⟩ ?_
  rintro m_A _ ⟨k,hk_A,hp_A,rfl⟩
  refine Wz [75] ?_
  refine Xb J (fun h => ?_) (fun h => ?_)
  ·have h3:k<xs.length:=by have:=Gqc h; omega
   have h4:k<ys.length:=by omega
   have hat:=X9 h3
   have hat2:=X9 h4
   by_cases he:xs[k]=ys[k]
   ·have hk:decide (xs[k]≠ys[k])=false:=by simp[he]
    refine Wz [72,235,106,46,106,46,236,10,49] ?_
    exact⟨xs.length-(k+1),by omega,_,⟨k+1,by omega,Yh h3 h4 hp_A he,J⟩,V8 []⟩
   ·have hk:decide (xs[k]≠ys[k])=true:=by simp[he]
    refine Wz [72,235,106,46,106,46,236,10,64] ?_
    exact Vz J (V0 [] J J (Xk (Yg h3 h4 he).symm))
  ·have h3:¬((k:Int)<(els xs).length):=Gqd h
   refine Wz [101] ?_
   exact Vz J (V0 [] J J (Xk (V9 hl hp_A).symm))
 ·have hb:decide (((els xs).length:Int)≠((els ys).length:Int))=true:=by rw[hlx,hly]; simp; omega
  refine Con.of Tryz.func102 J Tryz.ntmps102 J (fun E => ?_)
  refine Wz [96,41] ?_
  exact Vz J (V0 [] J J (Xk (Yf hl).symm))
theorem eq_IntSS (xs ys:List (List Int)) (hn:Enc.gd xs):Con Tryz.prog 32 [] [al xs,al ys] [] (B (decide (xs=ys))):=by
 have hn1:=hn.1
 have hlx:=Ya xs
 have hly:=Ya ys
 by_cases hl:xs.length=ys.length
 ·have hb:decide (((els xs).length:Int)≠((els ys).length:Int))=false:=by rw[hlx,hly,hl]; simp
  refine Con.of Tryz.func32 J Tryz.ntmps32 J (fun E => ?_)
  refine Wz [96,29,56,32] ?_;refine Xj (fun m st=>∃ k:Nat,k+m=xs.length∧(xs.take k=ys.take k)∧st=(⟨_,[(0,L xs),(1,L ys),(5,I k)],[]⟩:St)) (xs.length) ⟨_,⟨0,by omega,by simp,J⟩,V8 []⟩ ?_
  rintro m_A _ ⟨k,hk_A,hp_A,rfl⟩
  refine Wz [75] ?_
  refine Xb J (fun h => ?_) (fun h => ?_)
  ·have h3:k<xs.length:=by have:=Gqc h; omega
   have h4:k<ys.length:=by omega
   have hat:=X9 h3
   have hat2:=X9 h4
   by_cases he:xs[k]=ys[k]
   ·have hc:=eq_IntS xs[k] ys[k] (hn.2 _ (Gqg h3))
    rw[Gqb he] at hc
    refine Wz [72,130,106,46,106,46] ?_;refine Kk (Qj J J (hc) J) J ?_;refine Wz [76,10,49] ?_
    exact⟨xs.length-(k+1),by omega,_,⟨k+1,by omega,Yh h3 h4 hp_A he,J⟩,V8 []⟩
   ·have hc:=eq_IntS xs[k] ys[k] (hn.2 _ (Gqg h3))
    rw[Gqa he] at hc
    refine Wz [72,130,106,46,106,46] ?_;refine Kk (Qj J J (hc) J) J ?_;refine Wz [76,10,64] ?_
    exact Vz J (V0 [] J J (Xk (Yg h3 h4 he).symm))
  ·have h3:¬((k:Int)<(els xs).length):=Gqd h
   refine Wz [101] ?_
   exact Vz J (V0 [] J J (Xk (V9 hl hp_A).symm))
 ·have hb:decide (((els xs).length:Int)≠((els ys).length:Int))=true:=by rw[hlx,hly]; simp; omega
  refine Con.of Tryz.func32 J Tryz.ntmps32 J (fun E => ?_)
  refine Wz [96,41] ?_
  exact Vz J (V0 [] J J (Xk (Yf hl).symm))
end
section
open Go.RowKit

def ownO:List T→List Ob
 | [] => []
 | .v _::ts=>ownO ts
 | .sl k es::ts => .row k es::ownO ts
 | .un::ts=>ownO ts
def ownV:Nat→List T→List V1
 |_,[] => []
 |n,.v x::ts => .rd [] (.v x)::ownV n ts
 |n,.sl _ _::ts => .ref n::ownV (n+1) ts
 |n,.un::ts => .un::ownV n ts

structure TLevel where
 Rows:(List ByteArray)
 deriving DecidableEq
instance:Enc TLevel:=⟨1,by omega,fun x => [sl x.Rows],fun _=>rfl,fun x=>Enc.gd x.Rows,fun x=>Enc.wt x.Rows⟩
theorem TLevel.same {x y:TLevel} (h0:x.Rows=y.Rows):x=y:=by cases x; cases y; simp_all
structure TReplay where
 Level:TLevel
 Players:Int
 Seed:Int
 Every:Int
 Rows:(List (List Int))
 Keys:(List ByteArray)
 deriving DecidableEq
instance:Enc TReplay:=⟨6,by omega,fun x => [sl x.Level.Rows,.v (.int .i64 x.Players),.v (.int .i64 x.Seed),.v (.int .i64 x.Every),sl x.Rows,sl x.Keys],fun _=>rfl,fun x=>Enc.gd x.Level∧Enc.gd x.Players∧Enc.gd x.Seed∧Enc.gd x.Every∧Enc.gd x.Rows∧Enc.gd x.Keys,fun x=>Enc.wt x.Level+Enc.wt x.Rows+Enc.wt x.Keys⟩
theorem TReplay.same {x y:TReplay} (h0:x.Level=y.Level) (h1:x.Players=y.Players) (h2:x.Seed=y.Seed) (h3:x.Every=y.Every) (h4:x.Rows=y.Rows) (h5:x.Keys=y.Keys):x=y:=by cases x; cases y; simp_all

theorem sz_Level (x:TLevel) (left:Int) (hg:Enc.gd x) (h0:0≤left) (h1:left≤1048576):Con Tryz.prog 20 [] [ag x,ai left] [] (I (szr (Enc.wt x) left)):=by
 have g_Rows:Enc.gd x.Rows:=hg
 have hw:Enc.wt x=Enc.wt x.Rows:=rfl
 have hm1:decide ((-1:Int)<0)=true:=rfl
 have hc_Rows:=sz_StringS x.Rows (left) g_Rows (by omega) (by omega)
 by_cases n_Rows:left<Enc.wt x.Rows
 ·rw[Z9 n_Rows] at hc_Rows
  refine Con.of Tryz.func20 J Tryz.ntmps20 J (fun E => ?_)
  refine Wz [26,82] ?_;refine zx (Qj J J (hc_Rows) J) J ?_;refine Wz [116,28] ?_
  exact Vz J (V0 [] J J (Xs (by rw[V3])))
 rw[V4] at hc_Rows
 have hb_Rows:decide (left-Enc.wt x.Rows<0)=false:=Gqa (by omega)
 refine Con.of Tryz.func20 J Tryz.ntmps20 J (fun E => ?_)
 refine Wz [26,82] ?_;refine zx (Qj J J (hc_Rows) J) J ?_;refine Wz [125,81] ?_
 exact Vz J (V0 [] J J (Xs (by rw[V4]; omega)))
theorem to_Level (x:TLevel) (hg:Enc.wt x≤1048576):Con Tryz.prog 25 [] [ag x] (ownO (Enc.e x)) (.o (.ag (ownV 0 (Enc.e x)))):=by
 have hw:Enc.wt x=Enc.wt x.Rows:=rfl
 refine Con.of Tryz.func25 J Tryz.ntmps25 J (fun E => ?_)
 refine Wz [74,62,2,62,23] ?_;refine M1 (Za J J (to_StringS x.Rows (by omega)) J J J) J J ?_;refine Wz [50,15,39,84] ?_
 exact Xm J J J J (V0 [3] J J J)
theorem eq_Level (x y:TLevel) (hg:Enc.gd x):Con Tryz.prog 31 [] [ag x,ag y] [] (B (decide (x=y))):=by
 have g_Rows:Enc.gd x.Rows:=hg
 by_cases e_Rows:¬x.Rows=y.Rows
 ·have hc:=eq_StringS x.Rows y.Rows g_Rows
  rw[Gqa e_Rows] at hc
  refine Con.of Tryz.func31 J Tryz.ntmps31 J (fun E => ?_)
  refine Wz [38] ?_;refine zx (Qj J J (hc) J) J ?_;refine Wz [8,28] ?_
  exact Vz J (V0 [] J J (Xk (Gqa fun e=>e_Rows (by rw[e])).symm))
 have e_Rows:=Classical.not_not.1 e_Rows
 have hc_Rows:=eq_StringS x.Rows y.Rows g_Rows
 rw[Gqb e_Rows] at hc_Rows
 refine Con.of Tryz.func31 J Tryz.ntmps31 J (fun E => ?_)
 refine Wz [38] ?_;refine zx (Qj J J (hc_Rows) J) J ?_;refine Wz [102,156] ?_
 exact Vz J (V0 [] J J (Xk (Gqb (TLevel.same e_Rows)).symm))
end
section
open Go.RowKit

theorem els_set {α:Type} [Enc α] (xs:List α) (i:Nat) (x:α):els (xs.set i x)=(els xs).set i (Enc.e x):=by simp[els,List.map_set]
end
section
open Go.RowKit

theorem flat_one {fps:List (List (List Nat))} {i j:Nat} {G:List (List Nat)} {f:List Nat} (hi:fps[i]? = some G) (hj:G[j]? = some f):∃ X Z:List Nat,fps.flatten.flatten=X++f++Z∧∀ f':List Nat,(fps.set i (splice G j [f'])).flatten.flatten=X++f'++Z:=by
 obtain⟨hlt,he⟩:=Gql.1 hi
 obtain⟨hlj,hf⟩:=Gql.1 hj
 refine⟨(fps.take i).flatten.flatten++(G.take j).flatten,(G.drop (j+1)).flatten++(fps.drop (i+1)).flatten.flatten,?_,fun f' => ?_⟩
 ·conv=>lhs; rw[←Gxf i fps,Gxr hlt,he]
  have hG:G.flatten=(G.take j).flatten++f++(G.drop (j+1)).flatten:=by
   conv=>lhs; rw[←Gxf j G,Gxr hlj,hf]
   simp[Gxc]
  rw[Gqo,List.flatten_cons,Gqo,Gqo,hG]
  simp[Gxc]
 ·rw[List.set_eq_take_append_cons_drop,if_pos hlt]
  rw[Gqo,List.flatten_cons,Gqo,Gqo,splice,Gqo,Gqo]
  simp[Gxc]

theorem sep_list {l:List (List Nat)} (hn:l.flatten.Nodup) {i j:Nat} {f g:List Nat} (hi:l[i]? = some f) (hj:l[j]? = some g) (hij:i≠j) {x:Nat} (hx:x∈f) (hy:x∈g):False:=by
 obtain⟨hp,hq⟩:=List.pairwise_flatten.1 hn
 obtain⟨h1,rfl⟩:=Gql.1 hi
 obtain⟨h2,rfl⟩:=Gql.1 hj
 rcases Nat.lt_or_gt_of_ne hij with h | h
 ·exact (List.pairwise_iff_getElem.1 hq i j h1 h2 h) x hx x hy rfl
 ·exact (List.pairwise_iff_getElem.1 hq j i h2 h1 h) x hy x hx rfl
theorem sep_elems {fps:List (List (List Nat))} (hn:fps.flatten.flatten.Nodup) {i i' j j':Nat} {G G':List (List Nat)} {f g:List Nat} (hi:fps[i]? = some G) (hi':fps[i']? = some G') (hii:i≠i') (hf:G[j]? = some f) (hg:G'[j']? = some g) {x:Nat} (hx:x∈f) (hy:x∈g):False:=by
 have h1:(fps.map List.flatten).flatten=fps.flatten.flatten:=by simp[List.flatten_flatten]
 rw[←h1] at hn
 exact sep_list hn (i:=i) (j:=i') (f:=G.flatten) (g:=G'.flatten) (by simp[hi]) (by simp[hi']) hii (List.mem_flatten.2 ⟨f,Ym hf,hx⟩) (List.mem_flatten.2 ⟨g,Ym hg,hy⟩)
theorem sep_cells {fps:List (List (List Nat))} (hn:fps.flatten.flatten.Nodup) {i j j':Nat} {G:List (List Nat)} {f g:List Nat} (hi:fps[i]? = some G) (hf:G[j]? = some f) (hg:G[j']? = some g) (hjj:j≠j') {x:Nat} (hx:x∈f) (hy:x∈g):False:=by
 have h1:(fps.map List.flatten).flatten=fps.flatten.flatten:=by simp[List.flatten_flatten]
 rw[←h1] at hn
 obtain⟨hp,_⟩:=List.pairwise_flatten.1 hn
 exact sep_list (hp G.flatten (Gqs.2 ⟨G,Ym hi,J⟩)) hf hg hjj hx hy

theorem OW.inner {w:World} {k:Nat} {es:List (List T)} {v:Value} {fp:List Nat} (h:OW w (.sl k es) v fp) (hnd:fp.Nodup) {i j:Nat} {e:List T} {t0:T} (hi:es[i]? = some e) (hj:e[j]? = some t0) :
  ∃ b o c u f,v = .slice (some ⟨b,o,none⟩) es.length c∧b∈fp∧w.cell? ⟨b,o+i*k+j,none⟩=some u∧OW w t0 u f∧f.Nodup∧(∀ x∈f,x∈fp) ∧
   ∀ (w':World) (t1:T) (f':List Nat),(∀ x∈fp,x∉f→w'.heap[x]? = w.heap[x]?)→OW w' t1 u f'→f'.Nodup→(∀ x∈f',x∈f∨x∉fp) →
    ∃ fp',OW w' (.sl k (es.set i (splice e j [t1]))) v fp'∧fp'.Nodup∧∀ x∈fp',(x∈fp∧x∉f)∨x∈f':=by
 rcases h.open_ with ⟨rfl,rfl,rfl⟩ | ⟨b,o,c,tid,cur,fz,val,fps,rfl,rfl,hg,hz,hc,hcm,hcs,hp,hk,hff,hfk,hv,ht⟩
 ·simp at hi
 have hil:=Yl hi
 have hek:e.length=k:=hk e (Ym hi)
 have hjl:=Yl hj
 rw[hek] at hjl
 have hfi:fps[i]? = some fps[i]:=Gqf (by omega)
 have hfik:(fps[i]'(by omega)).length=k:=hfk _ (Gqg _)
 obtain⟨G,hG⟩:∃ G,G=fps[i]'(by omega):=⟨_,rfl⟩
 rw[←hG] at hfi hfik
 obtain⟨f,hf⟩:∃ f,G[j]? = some f:=⟨_,Gqf (by omega)⟩
 obtain⟨X,Z,e1,e2⟩:=flat_one hfi hf
 have hndc:=Gq6.1 hnd
 have hndf:=hndc.2
 rw[e1] at hndf
 obtain⟨n1,n2,n3⟩:=List.nodup_append.1 hndf
 obtain⟨n4,n5,n6⟩:=List.nodup_append.1 n1
 have hbf:b∉f:=fun hb=>hndc.1 (mem_ff hfi hf hb)
 refine⟨b,o,c,val i j,f,J,by simp,?_,ht i j e _ G f hi hj hfi hf,n5,fun x hx=>Gq3 _ (mem_ff hfi hf hx),fun w' t1 f' hw hO hn' hf' => ?_⟩
 ·rw[cell_of_row w b _ cur tid fz hg]
  exact hv i j hil hjl
 have hset:(es.set i (splice e j [t1])).length=es.length:=by simp
 have hfr:∀ (i' j':Nat) (e':List T) (t:T) (fs:List (List Nat)) (g:List Nat),es[i']? = some e'→e'[j']? = some t→fps[i']? = some fs→fs[j']? = some g→(∀ x∈g,x∉f)→OW w' t (val i' j') g:=fun i' j' e' t fs g g1 g2 g3 g4 hd =>
  (ht i' j' e' t fs g g1 g2 g3 g4).frame fun x hx=>hw x (Gq3 _ (mem_ff g3 g4 hx)) (hd x hx)
 have hold:∀ x∈X++f++Z,x∈b::fps.flatten.flatten:=fun x hx=>Gq3 _ (by rw[e1]; exact hx)
 have hdX:∀ x∈X,x∉f':=fun x hx hx'=>by
  rcases hf' x hx' with h1 | h1
  ·exact n6 x hx x h1 rfl
  ·exact h1 (hold x (by simp[hx]))
 have hdZ:∀ x∈Z,x∉f':=fun x hx hx'=>by
  rcases hf' x hx' with h1 | h1
  ·exact n3 x (by simp[h1]) x hx rfl
  ·exact h1 (hold x (by simp[hx]))
 refine⟨b::(fps.set i (splice G j [f'])).flatten.flatten,?_,?_,?_⟩
 ·rw[←hset]
  refine .sl _ b o k c tid cur fz val _ (by rw[hw b (by simp) hbf]; exact hg) hz (by rw[hset]; exact hc) hcm hcs hp ?_ (by simp[hff]) ?_ (fun i' j' hi' hj'=>hv i' j' (by rw[←hset]; exact hi') hj') fun i' j' e' t' fs' g' g1 g2 g3 g4 => ?_
  ·intro e' he'
   rcases Gxg he' with he' | rfl
   ·exact hk e' he'
   ·rw[splice_len (by simp; omega),hek]
  ·intro g hg'
   rcases Gxg hg' with hg' | rfl
   ·exact hfk g hg'
   ·rw[splice_len (by simp; omega),hfik]
  ·rw[List.getElem?_set] at g1 g3
   by_cases hii:i=i'
   ·subst hii
    simp only[hil,if_true,Option.some.injEq] at g1
    rw[if_pos rfl,if_pos (by omega)] at g3
    simp only[Option.some.injEq] at g3
    subst g1 g3
    rw[splice_at (by simp; omega)] at g2 g4
    by_cases hcond:j≤j'∧j'<j+1
    ·have hjj:j'=j:=by omega
     subst hjj
     rw[if_pos (by simp)] at g2 g4
     simp at g2 g4
     subst g2 g4
     exact hO
    ·rw[if_neg (by simpa using hcond)] at g2 g4
     refine hfr i j' e t' G g' hi g2 hfi g4 fun x hx hxf => ?_
     -- two cells of one element own different blocks
     obtain⟨X2,Z2,e3,e4⟩:=flat_one hfi g4
     exact sep_cells hndc.2 hfi hf g4 (fun e=>hcond ⟨by omega,by omega⟩) hxf hx
   ·rw[if_neg hii] at g1 g3
    refine hfr i' j' e' t' fs' g' g1 g2 g3 g4 fun x hx hxf => ?_
    exact sep_elems hndc.2 hfi g3 hii hf g4 hxf hx
 ·rw[e2]
  refine Gq6.2 ⟨fun hb => ?_,List.nodup_append.2 ⟨List.nodup_append.2 ⟨n4,hn',fun x hx y hy e=>hdX x hx (e▸hy)⟩,n2,fun x hx y hy e => ?_⟩⟩
  ·rcases Gqr.1 hb with hb | hb
   ·rcases Gqr.1 hb with hb | hb
    ·exact hndc.1 (by rw[e1]; simp[hb])
    ·rcases hf' b hb with h1 | h1
     ·exact hbf h1
     ·exact h1 (by simp)
   ·exact hndc.1 (by rw[e1]; simp[hb])
  ·rcases Gqr.1 hx with hx | hx
   ·exact n3 x (by simp[hx]) y hy e
   ·exact hdZ y hy (e▸hx)
 ·rw[e2,e1]
  intro x hx
  rcases List.mem_cons.1 hx with rfl | hx
  ·exact .inl ⟨by simp,hbf⟩
  ·rcases Gqr.1 hx with hx | hx
   ·rcases Gqr.1 hx with hx | hx
    ·exact .inl ⟨by simp[hx],fun h=>n6 x hx x h rfl⟩
    ·exact .inr hx
   ·exact .inl ⟨by simp[hx],fun h=>n3 x (by simp[h]) x hx rfl⟩

section
variable {P:Program} {E:Env} {ops:Array Oper} {o:Oper} {st:St} {rest:List Oper} {QQ:Exit→St→Prop} {w:World} {H:Hs} {F:Nat→Prop} {a:Act} {t:TypeId} {y:Operand} {n:Nat}
end
end
section
open Go.RowKit

section
variable {P:Program} {ops:Array Oper} {o:Oper} {st:St} {m:Nat} {t t':TypeId} {y z:Operand} {ps qs:List Nat}
theorem Q8 {xs:List V2} (ho:o.op = .move y) (hg:o.guard=none) (hy:st.ev y = .tu xs):Qt P ops o st (.tu xs) [] m :=
 .pure hg fun a w H F hr=>⟨a.eval y,by simp[execOp,ho],by rw[←hy]; exact hr.ev y⟩
end
end
section
open Go.RowKit

def tot (xs:List (List Int)):Nat:=(xs.map List.length).sum
end
end Go.Proofs.YtednjbelfpoecaaGreat
