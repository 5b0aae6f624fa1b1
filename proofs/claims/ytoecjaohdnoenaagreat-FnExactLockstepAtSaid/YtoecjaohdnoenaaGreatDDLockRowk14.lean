/-
  Rules, data and contracts of functions: part 15 of the proof.
  Conditions: those that each theorem names.
-/
import Derived.ProofKit
import Derived.Deep.Slices
import Derived.Test.YtoecjaohdnoenaaGreatDDLockRowk12
import Derived.Test.YtoecjaohdnoenaaGreatDDLockRowk13
set_option linter.unusedVariables false
set_option linter.unusedSimpArgs false
set_option maxRecDepth 4096
set_option maxHeartbeats 8000000
namespace Go.Proofs.YtoecjaohdnoenaaGreat
section
open Go.RowKit Go.ChangeShapes Go.WideShapes Go.Deep

def I64 (x:Int):Prop := -9223372036854775808≤x∧x≤9223372036854775807

class Enc (α:Type) where
 k:Nat
 pos:0<k
 e:α→List T
 len:∀ x,(e x).length=k
 gd:α→Prop
 wt:α→Nat
instance:Enc Int:=⟨1,by omega,fun x => [.v (.int .i64 x)],fun _=>rfl,I64,fun _=>0⟩
instance:Enc Bool:=⟨1,by omega,fun x => [.v (.bool x)],fun _=>rfl,fun _=>True,fun _=>0⟩
instance:Enc ByteArray:=⟨1,by omega,fun x => [.v (.string x)],fun _=>rfl,fun x=>x.size≤9223372036854775807,fun x=>x.size⟩
def wts {α:Type} [Enc α]:List α→Nat
 | []=>0
 |x::xs=>Enc.wt x+wts xs
@[reducible] def els {α:Type} [Enc α] (xs:List α):List (List T):=xs.map Enc.e
instance {α:Type} [Enc α]:Enc (List α):=⟨1,by omega,fun xs => [.sl (Enc.k α) (els xs)],fun _=>rfl,fun xs=>xs.length≤9223372036854775807∧∀ x∈xs,Enc.gd x,fun xs=>xs.length+wts xs⟩

@[reducible] def sl {α:Type} [Enc α] (xs:List α):T := .sl (Enc.k α) (els xs)
@[reducible] def ai (n:Int):V2 := .c (.rd [] (.v (.int .i64 n)))
@[reducible] def al {α:Type} [Enc α] (xs:List α):V2 := .c (.rd [] (sl xs))
@[reducible] def ag {α:Type} [Enc α] (x:α):V2 := .ag ((Enc.e x).map (V1.rd []))
@[reducible] def L {α:Type} [Enc α] (xs:List α):V := .o (al xs)

class PlainE (α:Type) [Enc α]:Prop where
 plain:∀ (x:α) (t:T),t∈Enc.e x→∃ u,t = .v u
instance:PlainE Int:=⟨fun x t h=>by simp[Enc.e] at h; exact⟨_,h⟩⟩
instance:PlainE Bool:=⟨fun x t h=>by simp[Enc.e] at h; exact⟨_,h⟩⟩
instance:PlainE ByteArray:=⟨fun x t h=>by simp[Enc.e] at h; exact⟨_,h⟩⟩
theorem Yd {α:Type} [Enc α] [PlainE α] (xs:List α):plainT (els xs):=fun e he t ht=>by
 obtain⟨x,_,rfl⟩:=Gqx.1 he
 exact PlainE.plain x t ht
theorem els_k {α:Type} [Enc α] (xs:List α):∀ e∈els xs,e.length=Enc.k α:=fun e he=>by
 obtain⟨x,_,rfl⟩:=Gqx.1 he
 exact Enc.len x
@[reducible] def bs (l:List UInt8):ByteArray:=⟨l.toArray⟩
theorem bs_app (a b:List UInt8):bs a++bs b=bs (a++b):=by
 apply ByteArray.ext
 rw[ByteArray.data_append]
 simp[bs]
theorem bs_size (l:List UInt8):(bs l).size=l.length:=by simp[bs,ByteArray.size]
theorem cat_size (a b:ByteArray):(a++b).size=a.size+b.size:=by simp[ByteArray.size_append]
theorem S_eq {a b:ByteArray} (h:a=b):S a=S b:=by rw[h]
theorem Yb {α:Type} [Enc α] {xs:List α} {k:Nat} (h:k<xs.length):(els xs)[(k:Int).toNat]? = some (Enc.e xs[k]):=by simp[els,h]
theorem Yc {α:Type} [Enc α] (xs:List α):(els xs).length=xs.length:=by simp[els]
theorem Kt {α:Type} [Enc α]:∀ (xs:List α) (k:Nat) (h:k<xs.length),wts (xs.take (k+1))=wts (xs.take k)+Enc.wt xs[k]
 |x::xs,0,_=>by simp[wts]
 |x::xs,k+1,h=>by
  have:=Kt xs k (by simpa using h)
  simp only[List.take_succ_cons,wts,List.getElem_cons_succ,this]
  omega
theorem Ks {α:Type} [Enc α]:∀ (xs:List α) (x:α),x∈xs→Enc.wt x≤wts xs
 |y::xs,x,h=>by
  simp only[wts]
  rcases List.mem_cons.1 h with rfl | h
  ·omega
  ·have:=Ks xs x h; omega
theorem Ku {α:Type} [Enc α]:∀ (xs:List α) (k:Nat),wts (xs.take k)≤wts xs
 | [],k=>by simp[wts]
 |x::xs,0=>by simp[wts]
 |x::xs,k+1=>by
  have:=Ku xs k
  simp only[List.take_succ_cons,wts]
  omega

/-! ### Readings -/
theorem list_of_each {α:Type} {p:Nat→α→Prop}:∀ n:Nat,(∀ i,i<n→∃ y,p i y)→∃ ys:List α,ys.length=n∧∀ (i:Nat) (y:α),ys[i]? = some y→p i y
 |0,_=>⟨[],rfl,fun _ _ h=>by simp at h⟩
 | n+1,h=>by
  obtain⟨ys,h1,h2⟩:=list_of_each n fun i hi=>h i (by omega)
  obtain⟨y,hy⟩:=h n (by omega)
  refine⟨ys ++ [y],by simp[h1],fun i z hz => ?_⟩
  rcases Gqp i ys.length with hi | hi
  ·rw[Gqy hi] at hz
   exact h2 i z hz
  ·rw[Gq1 hi] at hz
   have hi0:i-ys.length=0:=by
    rcases Nat.eq_zero_or_pos (i-ys.length) with h0 | h0
    ·exact h0
    ·rw[List.getElem?_eq_none (by simp; omega)] at hz
     cases hz
   rw[hi0] at hz
   simp only[Gxc,Option.some.injEq] at hz
   subst hz
   have:i=n:=by omega
   subst this
   exact hy

def Reads {α:Type} [Enc α] (w:World) (x:α) (cs:List Value):Prop:=cs.length=Enc.k α∧∀ (j:Nat) (t:T) (u:Value),(Enc.e x)[j]? = some t→cs[j]? = some u→RO w (fun _=>True) t u

class RdOf (P:Program) (t:TypeId) (α:outParam Type) [Enc α]:Prop where
 size:P.cellsOf t=Enc.k α
 of:∀ {H:Type} {enc:TypeId×Value→H} {w:World} {spare:Nat→Bool} {held:Bool} {fuel:Nat} {cs:List Value} {x:DataW H×List MemPlace},
  DataW.trod enc P w 0 spare held fuel t cs=some x→∃ y:α,Enc.gd y∧Reads w y cs

theorem i64_of_wf {n:Int} (h:(Lit.int .i64 n).wf=true):I64 n:=by
 simp[Lit.wf,IntKind.min,IntKind.max,IntKind.signed,IntKind.bits] at h
 exact⟨by omega,by omega⟩
theorem reads_one {α:Type} [Enc α] {w:World} {x:α} {t:T} {u:Value} (he:Enc.e x = [t]) (h:RO w (fun _=>True) t u):Reads w x [u]:=by
 refine⟨by rw[←Enc.len x,he]; rfl,fun j t' u' h1 h2 => ?_⟩
 rw[he] at h1
 cases j with
 |zero=>simp at h1 h2; subst h1 h2; exact h
 |succ j=>simp at h1
theorem rdOf_int {P:Program} {t:TypeId} (ht:P.underlying t=some (.int .i64)) (hs:P.cellsOf t=1):RdOf P t Int where
 size:=hs
 of h:=by
  obtain⟨n,rfl,_,h3⟩:=DataW.trod_int ht h
  exact⟨n,i64_of_wf h3,reads_one J (.v _ J)⟩
theorem rdOf_string {P:Program} {t:TypeId} (ht:P.underlying t=some .string) (hs:P.cellsOf t=1):RdOf P t ByteArray where
 size:=hs
 of h:=by
  obtain⟨s,rfl,_,h3⟩:=DataW.trod_string ht h
  exact⟨s,by simpa[maxLen,Enc.gd] using h3,reads_one J (.v _ J)⟩
theorem Z8 {P:Program} {t e:TypeId} {α:Type} [Enc α] [hα:RdOf P e α] (ht:P.underlying t=some (.slice e)) (hs:P.cellsOf t=1):RdOf P t (List α) where
 size:=hs
 of {H enc w spare held fuel cs x} h:=by
  rcases open_slice ht h with ⟨rfl,_⟩ | ⟨a,len,cap,m,n,D,Pl,rfl,_,hl,hm,hmm,_,hi⟩
  ·exact⟨[],⟨by simp,by simp⟩,reads_one rfl (.nil _ _ _ (by simp[maxLen]))⟩
  ·have hlm:len≤m:=by rw[hmm]; split <;> omega
   obtain⟨ys,h1,h2⟩:=list_of_each (p:=fun i y=>∃ es,w.cells? 0 (a.add (i*P.cellsOf e)) (P.cellsOf e)=some es∧Enc.gd (α:=α) y∧Reads w y es) len fun i hi'=>by
    obtain⟨es,h3,h4⟩:=hi i (by omega)
    obtain⟨y,hy⟩:=hα.of h4
    exact⟨y,es,h3,hy⟩
   subst h1
   refine⟨ys,⟨by simp[maxLen] at hm; omega,fun y hy => ?_⟩,?_⟩
   ·obtain⟨i,hi'⟩:=List.getElem?_of_mem hy
    obtain⟨es,_,hg,_⟩:=h2 i y hi'
    exact hg
   refine reads_one J ?_
   rcases Nat.eq_zero_or_pos ys.length with h0 | h0
   ·have:=List.eq_nil_of_length_eq_zero h0
    subst this
    exact .nil _ _ _ hm
   ·have hsp:a.spot=none:=by
     obtain⟨es,h3,_⟩:=h2 0 _ (Gqf h0)
     obtain⟨_,hcl,hat⟩:=World.cells?_some h3
     have hp:0<P.cellsOf e:=by rw[hα.size]; exact Enc.pos
     have:=hat 0 hp
     rw[Gqf (by omega)] at this
     have h5:=World.cell?_spot this
     simpa[Addr.add] using h5
    obtain⟨b,o,sp⟩:=a
    simp only at hsp
    subst hsp
    have hel:∀ i,i<ys.length→∃ es,w.cells? 0 ((⟨b,o,none⟩:Addr).add (i*P.cellsOf e)) (P.cellsOf e)=some es:=fun i hi'=>by
     obtain⟨es,h3,_⟩:=h2 i _ (Gqf hi')
     exact⟨es,h3⟩
    have hlen:ys.length=(els ys).length:=(Yc ys).symm
    rw[hlen]
    refine .sl (els ys) b o (Enc.k α) cap (fun i j=>((w.cells? 0 ((⟨b,o,none⟩:Addr).add (i*P.cellsOf e)) (P.cellsOf e)).getD []).getD j undef) trivial (by rw[Yc]; exact hl) hm Enc.pos (fun e' he => ?_) (fun i j hi' hj => ?_) fun i j e' t' h3 h4 => ?_
    ·obtain⟨y,_,rfl⟩:=Gqx.1 he
     exact Enc.len y
    ·rw[Yc] at hi'
     obtain⟨es,h3⟩:=hel i hi'
     obtain⟨_,hcl,hat⟩:=World.cells?_some h3
     rw[hα.size] at hcl
     have h5:=hat j (by rw[hα.size]; exact hj)
     rw[add_lit,add_lit,hα.size,Gqf (by omega)] at h5
     rw[h3]
     simp only[Option.getD_some]
     rw[h5,Gqe,Gqf (by omega)]
     rfl
    ·rw[Gqj] at h3
     obtain⟨y,hy,rfl⟩:=Option.map_eq_some_iff.1 h3
     obtain⟨es,h5,_,h6⟩:=h2 i y hy
     have hj:j<es.length:=by rw[h6.1,←Enc.len y]; exact Yn h4
     show RO w _ t' (((w.cells? 0 ((⟨b,o,none⟩:Addr).add (i*P.cellsOf e)) (P.cellsOf e)).getD []).getD j undef)
     rw[h5]
     simp only[Option.getD_some]
     rw[Ym (Gqf hj)]
     exact h6.2 j t' _ h4 (Gqf hj)

theorem reads_of_Trod {P:Program} {t:TypeId} {α:Type} [Enc α] [hα:RdOf P t α] {H:Type} {enc:TypeId×Value→H} {w:World} {spare:Nat→Bool} {held:Bool} {v:Value} {d:DataW H} {p:List MemPlace}
  (h:DataW.Trod enc P w 0 spare held t v d p):∃ y:α,Enc.gd y∧Reads w y v.cells.toList:=by
 obtain⟨fuel,hf⟩:=h
 exact hα.of hf

theorem r2_agg {α:Type} [Enc α] {w:World} {H:Hs} {x:α} {cs:List Value} (h:Reads w x cs):R2 w H (fun b=>b<w.heap.size) (ag x) (.agg cs.toArray):=by
 refine⟨cs,J,by simp[h.1,Enc.len],fun i c u h1 h2 => ?_⟩
 rw[Gqj] at h1
 obtain⟨t,h3,rfl⟩:=Option.map_eq_some_iff.1 h1
 exact RO.weak (h.2 i t u h3 h2) fun b _ hb => .inl hb
theorem r2_int {w:World} {H:Hs} {F:Nat→Prop} (n:Int):R2 w H F (ai n) (.int .i64 n):=RO.v _ rfl
theorem law_calls {P:Program} {f:FuncId} {args:List V2} (hc:Con P f [] args [] (B true)) (w:World) (vs:List Value) (hl:vs.length=args.length) (hr:∀ (i:Nat) (x:V2) (v:Value),args[i]? = some x→vs[i]? = some v→R2 w (fun _ => .nil) (fun b=>b<w.heap.size) x v) :
  Calls P f vs.toArray w fun e w'=>e = .returned (.bool true)∧Below w.heap.size w w':=by
 refine (hc w (fun _ => .nil) (fun b=>b<w.heap.size) vs ⟨fun _=>trivial,fun _=>by simp[Pc.fp],fun p q b h=>by simp[Pc.fp] at h,fun p b h=>by simp[Pc.fp] at h,fun _ h=>h⟩ (fun p=>by simp[RB]) hl hr).mono ?_
 rintro e w' ⟨H',F',rv,rfl,hs,_,_,hv⟩
 refine⟨by rw[(RO.plain (show RO w' _ (.v (.bool true)) rv from hv)).1],hs.os,hs.tape,hs.output,hs.size,fun b hb=>hs.keep b hb fun p=>by simp[Pc.fp]⟩
end
section
open Go.RowKit

theorem Xs {a b:Int} (h:a=b):I a=I b:=by rw[h]
theorem Xk {a b:Bool} (h:a=b):B a=B b:=by rw[h]
def szr (n:Nat) (left:Int):Int:=if left<n then -1 else left-n
theorem Kl {n:Nat} {left:Int} (h:left<n):szr n left = -1:=if_pos h
theorem Us {n:Nat} {left:Int} (h:left<n:=by omega):szr n left = -1:=Kl h
theorem Km {n:Nat} {left:Int} (h:(n:Int)≤left):szr n left=left-n:=if_neg (by omega)
theorem Ut {n:Nat} {left:Int} (h:(n:Int)≤left:=by omega):szr n left=left-n:=Km h
theorem wts_int:∀ xs:List Int,wts xs=0
 | []=>rfl
 |x::xs=>by simp[wts,wts_int xs,Enc.wt]
theorem eq_ne {α:Type} [DecidableEq α] {xs ys:List α} {j:Nat} (h1:j<xs.length) (h2:j<ys.length) (h:¬xs[j]=ys[j]):decide (xs=ys)=false:=by
 rw[decide_eq_false_iff_not]
 intro e
 subst e
 exact h J
theorem Yh {α:Type} [DecidableEq α] {xs ys:List α} {j:Nat} (h1:xs.length≤j) (h2:xs.length=ys.length) (h:xs.take j=ys.take j):decide (xs=ys)=true:=by
 rw[Gqk h1,Gqk (by omega)] at h
 simp[h]
theorem Yi {α:Type} [DecidableEq α] {xs ys:List α} (h:xs.length≠ys.length):decide (xs=ys)=false:=by
 rw[decide_eq_false_iff_not]
 intro e
 subst e
 exact h J
theorem Yj {α:Type} {xs ys:List α} {j:Nat} (h1:j<xs.length) (h2:j<ys.length) (h:xs.take j=ys.take j) (e:xs[j]=ys[j]):xs.take (j+1)=ys.take (j+1):=by
 rw[Gq4 h1,Gq4 h2,h,e]

/-! ### Counting -/
theorem sz_IntS (xs:List Int) (left:Int) (hg:Enc.gd xs) (h0:0≤left) (h1:left≤1048576):Con Tryz.prog 54 [] [al xs,ai left] [] (I (szr (Enc.wt xs) left)):=by
 have hlen:=Yc xs
 have hx:=hg.1
 have hw:Enc.wt xs=xs.length:=by simp[Enc.wt,wts_int]
 refine Con.of Tryz.func54 J Tryz.ntmps54 J (fun E => ?_)
 refine Wz [22,17,10,51,66,63] ?_
 refine Xb J (fun h => ?_) (fun h => ?_)
 ·refine Wz [52] ?_
  have h2:=Gqc (p:=_) (by simpa using h)
  exact Uq J (Ur [] J J (Xs (by rw[Us])))
 ·refine Wz [25,18,4] ?_
  refine Wz [94] ?_
  have h2:=Gqd h
  exact Uq J (Ur [] J J (Xs (by rw[Ut]; omega)))
theorem sz_StringS (xs:List ByteArray) (left:Int) (hg:Enc.gd xs) (h0:0≤left) (h1:left≤1048576):Con Tryz.prog 53 [] [al xs,ai left] [] (I (szr (Enc.wt xs) left)):=by
 have hlen:=Yc xs
 have hx:=hg.1
 have hw:Enc.wt xs=xs.length+wts xs:=rfl
 refine Con.of Tryz.func53 J Tryz.ntmps53 J (fun E => ?_)
 refine Wz [22,17,10,51,66,63] ?_
 refine Xb J (fun h => ?_) (fun h => ?_)
 ·refine Wz [52] ?_
  have h2:=Gqc h
  exact Uq J (Ur [] J J (Xs (by rw[Us])))
 have h2:¬(left-((els xs).length:Int)<0):=Gqd h
 refine Wz [25,26] ?_
 refine Xj (fun m st=>∃ k:Nat,k+m=xs.length∧(((xs.length:Int)+wts (xs.take k)≤left))∧st=(⟨_,[(0,L xs),(1,I (left-(xs.length+wts (xs.take k)))),(5,I k)],[]⟩:St)) (xs.length) ⟨(fun k:Nat=>(⟨_,[(0,L xs),(1,I (left-(xs.length+wts (xs.take k)))),(5,I k)],[]⟩:St)) 0,⟨0,by omega,by simp[wts]; omega,J⟩,Up [] J (by kernel_rfl) (.c J (.cons (Xs (by simp[els,wts])) (.c J (.nil))))⟩ ?_
 rintro m_A _ ⟨k,hk_A,hp_A,rfl⟩
 refine Wz [71] ?_
 refine Xb J (fun h => ?_) (fun h => ?_)
 ·have h3:k<xs.length:=by have:=Gqc h; omega
  have hat:=Yb h3
  have hstep:=Kt xs k h3
  have hle:=Ku xs (k+1)
  have hws:Enc.wt xs[k]=xs[k].size:=rfl
  have hgd:xs[k].size≤9223372036854775807:=hg.2 _ (Gqg h3)
  by_cases h4:left-((xs.length:Int)+wts (xs.take k))-xs[k].size<0
  ·have hb:decide (left-((xs.length:Int)+wts (xs.take k))-xs[k].size<0)=true:=Gqb h4
   refine Wz [8,139,47,137,51,83,59,67] ?_
   exact Uq J (Ur [] J J (Xs (by rw[Us])))
  ·have hb:decide (left-((xs.length:Int)+wts (xs.take k))-xs[k].size<0)=false:=Gqa h4
   refine Wz [8,139,47,137,51,83,15,53] ?_
   exact⟨xs.length-(k+1),by omega,(fun k:Nat=>(⟨_,[(0,L xs),(1,I (left-(xs.length+wts (xs.take k)))),(5,I k)],[]⟩:St)) (k+1),⟨k+1,by omega,by omega,J⟩,Up [] J (by kernel_rfl) (.c J (.cons (Xs (by rw[hstep]; omega)) (.c J (.nil))))⟩
 ·have h3:¬((k:Int)<(els xs).length):=Gqd h
  have hk:wts (xs.take k)=wts xs:=by rw[Gqk (by omega)]
  refine Wz [54] ?_
  exact Uq J (Ur [] J J (Xs (by rw[Ut]; omega)))
theorem sz_IntSS (xs:List (List Int)) (left:Int) (hg:Enc.gd xs) (h0:0≤left) (h1:left≤1048576):Con Tryz.prog 10 [] [al xs,ai left] [] (I (szr (Enc.wt xs) left)):=by
 have hlen:=Yc xs
 have hx:=hg.1
 have hw:Enc.wt xs=xs.length+wts xs:=rfl
 refine Con.of Tryz.func10 J Tryz.ntmps10 J (fun E => ?_)
 refine Wz [22,17,10,51,66,63] ?_
 refine Xb J (fun h => ?_) (fun h => ?_)
 ·refine Wz [52] ?_
  have h2:=Gqc h
  exact Uq J (Ur [] J J (Xs (by rw[Us])))
 have h2:¬(left-((els xs).length:Int)<0):=Gqd h
 refine Wz [25,26] ?_
 refine Xj (fun m st=>∃ k:Nat,k+m=xs.length∧(((xs.length:Int)+wts (xs.take k)≤left))∧st=(⟨_,[(0,L xs),(1,I (left-(xs.length+wts (xs.take k)))),(5,I k)],[]⟩:St)) (xs.length) ⟨(fun k:Nat=>(⟨_,[(0,L xs),(1,I (left-(xs.length+wts (xs.take k)))),(5,I k)],[]⟩:St)) 0,⟨0,by omega,by simp[wts]; omega,J⟩,Up [] J (by kernel_rfl) (.c J (.cons (Xs (by simp[els,wts])) (.c J (.nil))))⟩ ?_
 rintro m_A _ ⟨k,hk_A,hp_A,rfl⟩
 refine Wz [71] ?_
 refine Xb J (fun h => ?_) (fun h => ?_)
 ·have h3:k<xs.length:=by have:=Gqc h; omega
  have hat:=Yb h3
  have hstep:=Kt xs k h3
  have hle:=Ku xs (k+1)
  have hc:=sz_IntS xs[k] (left-((xs.length:Int)+wts (xs.take k))) (hg.2 _ (Gqg h3)) (by omega) (by omega)
  by_cases h4:left-((xs.length:Int)+wts (xs.take k))<Enc.wt xs[k]
  ·rw[Kl h4] at hc
   have hb:decide ((-1:Int)<0)=true:=rfl
   refine Wz [8,17,47,0] ?_;refine zx (Qj J J (hc) J) J ?_;refine Wz [83,59,67] ?_
   exact Uq J (Ur [] J J (Xs (by rw[Us])))
  ·rw[Ut] at hc
   have hb:decide (left-((xs.length:Int)+wts (xs.take k))-Enc.wt xs[k]<0)=false:=Gqa (by omega)
   refine Wz [8,17,47,0] ?_;refine zx (Qj J J (hc) J) J ?_;refine Wz [83,15,53] ?_
   exact⟨xs.length-(k+1),by omega,(fun k:Nat=>(⟨_,[(0,L xs),(1,I (left-(xs.length+wts (xs.take k)))),(5,I k)],[]⟩:St)) (k+1),⟨k+1,by omega,by omega,J⟩,Up [] J (by kernel_rfl) (.c J (.cons (Xs (by rw[hstep]; omega)) (.c J (.nil))))⟩
 ·have h3:¬((k:Int)<(els xs).length):=Gqd h
  have hk:wts (xs.take k)=wts xs:=by rw[Gqk (by omega)]
  refine Wz [54] ?_
  exact Uq J (Ur [] J J (Xs (by rw[Ut]; omega)))

/-! ### Copying -/
def part {α:Type} [Enc α] (xs:List α) (z:List T) (k:Nat):List (List T):=els (xs.take k)++List.replicate (xs.length-k) z
theorem Za {α:Type} [Enc α] (xs:List α) (z:List T) {k:Nat} (h:k≤xs.length):(part xs z k).length=xs.length:=by simp[part,els]; omega
theorem Uu {α:Type} [Enc α] {k:Nat} (xs:List α) (z:List T) (h:k≤xs.length:=by omega):(part xs z k).length=xs.length:=Za xs z h
theorem Zc {α:Type} [Enc α] (xs:List α) (z:List T):part xs z 0=List.replicate (((els xs).length:Int)).toNat z:=by simp[part,els]
theorem Y8 {α:Type} [Enc α] (xs:List α) (z:List T) {k:Nat} (h:xs.length≤k):part xs z k=els xs:=by
 unfold part
 rw[Gqk h,show xs.length-k=0 by omega]
 simp
theorem Uv {α:Type} [Enc α] {k:Nat} (xs:List α) (z:List T) (h:xs.length≤k:=by omega):part xs z k=els xs:=Y8 xs z h
theorem Y9 {α:Type} [Enc α] (xs:List α) (z:List T) {k:Nat} (h:k<xs.length):(part xs z k)[(k:Int).toNat]? = some z:=by
 have h1:(els (xs.take k)).length=k:=by simp[els]; omega
 unfold part
 rw[Int.toNat_natCast,Gq1 (by omega),h1,Nat.sub_self,List.getElem?_replicate,if_pos (by omega)]
theorem Zb {α:Type} [Enc α] (xs:List α) (z:List T) {k:Nat} (h:k<xs.length) (ts:List T) (ht:ts=Enc.e xs[k]) (hz:z.length=ts.length):(part xs z k).set (k:Int).toNat (splice z 0 ts)=part xs z (k+1):=by
 have h1:(els (xs.take k)).length=k:=by simp[els]; omega
 have h2:splice z 0 ts=ts:=by simp[splice,hz]
 subst ht
 unfold part
 rw[h2,Int.toNat_natCast,List.set_append_right _ _ (by omega),h1,Nat.sub_self,show xs.length-k=(xs.length-(k+1))+1 by omega,List.replicate_succ,List.set_cons_zero]
 have h3:els (xs.take (k+1))=els (xs.take k) ++ [Enc.e xs[k]]:=by
  rw[Gq4 h]
  simp only[els,List.map_append,List.map_cons,List.map_nil]
 rw[h3,Gq6]
 rfl
theorem Kb {k:Nat} {a b:List (List T)} (h:a=b) : [Ob.row k a] = [Ob.row k b]:=by rw[h]

theorem to_IntS (xs:List Int) (hg:Enc.wt xs≤1048576):Con Tryz.prog 62 [] [al xs] [.row (Enc.k Int) (els xs)] (.o (.c (.ref 0))):=by
 have hlen:=Yc xs
 have hw:Enc.wt xs=xs.length+wts xs:=rfl
 refine Con.of Tryz.func62 J Tryz.ntmps62 J (fun E => ?_)
 refine Wz [22,18,10,232,4,26] ?_;refine Xj (fun m st=>∃ k:Nat,k+m=xs.length∧(True)∧st=(⟨_,[(0,L xs),(3,.o (.c (.ref 0))),(4,I k)],[.row 1 (part xs [(.v (.int .i64 0))] k)]⟩:St)) (xs.length) ⟨(fun k:Nat=>(⟨_,[(0,L xs),(3,.o (.c (.ref 0))),(4,I k)],[.row 1 (part xs [(.v (.int .i64 0))] k)]⟩:St)) 0,⟨0,by omega,trivial,J⟩,Up [0] J (Kb (Zc xs _)) (.c J (.c J (.c J (.nil))))⟩ ?_
 rintro m_A _ ⟨k,hk_A,hp_A,rfl⟩
 refine Wz [71] ?_
 refine Xb J (fun h => ?_) (fun h => ?_)
 ·have h3:k<xs.length:=by have:=Gqc h; omega
  have hat:=Yb h3
  have hz:=Y9 xs [(.v (.int .i64 0))] h3
  have hpl:(k:Int)<(part xs [(.v (.int .i64 0))] k).length:=by rw[Uu xs _]; omega
  have hwt:Enc.wt xs[k]≤wts xs:=Ks xs _ (Gqg h3)
  refine Wz [8,23,43,43,47,172,112,121] ?_
  exact⟨xs.length-(k+1),by omega,(fun k:Nat=>(⟨_,[(0,L xs),(3,.o (.c (.ref 0))),(4,I k)],[.row 1 (part xs [(.v (.int .i64 0))] k)]⟩:St)) (k+1),⟨k+1,by omega,trivial,J⟩,Up [0] J (Kb (Zb xs [(.v (.int .i64 0))] h3 _ (by rfl) (by rfl)).symm) (.c J (.c J (.c J (.nil))))⟩
 ·have h3:¬((k:Int)<(els xs).length):=Gqd h
  refine Wz [54] ?_
  exact Uq J (Ur [0] J (Kb (Uv xs _).symm) J)
theorem to_StringS (xs:List ByteArray) (hg:Enc.wt xs≤1048576):Con Tryz.prog 61 [] [al xs] [.row (Enc.k ByteArray) (els xs)] (.o (.c (.ref 0))):=by
 have hlen:=Yc xs
 have hw:Enc.wt xs=xs.length+wts xs:=rfl
 refine Con.of Tryz.func61 J Tryz.ntmps61 J (fun E => ?_)
 refine Wz [22,18,10,232,4,26] ?_;refine Xj (fun m st=>∃ k:Nat,k+m=xs.length∧(True)∧st=(⟨_,[(0,L xs),(3,.o (.c (.ref 0))),(4,I k)],[.row 1 (part xs [(.v (.string ⟨#[]⟩))] k)]⟩:St)) (xs.length) ⟨(fun k:Nat=>(⟨_,[(0,L xs),(3,.o (.c (.ref 0))),(4,I k)],[.row 1 (part xs [(.v (.string ⟨#[]⟩))] k)]⟩:St)) 0,⟨0,by omega,trivial,J⟩,Up [0] J (Kb (Zc xs _)) (.c J (.c J (.c J (.nil))))⟩ ?_
 rintro m_A _ ⟨k,hk_A,hp_A,rfl⟩
 refine Wz [71] ?_
 refine Xb J (fun h => ?_) (fun h => ?_)
 ·have h3:k<xs.length:=by have:=Gqc h; omega
  have hat:=Yb h3
  have hz:=Y9 xs [(.v (.string ⟨#[]⟩))] h3
  have hpl:(k:Int)<(part xs [(.v (.string ⟨#[]⟩))] k).length:=by rw[Uu xs _]; omega
  have hwt:Enc.wt xs[k]≤wts xs:=Ks xs _ (Gqg h3)
  refine Wz [8,23,43,43,47,172,112,121] ?_
  exact⟨xs.length-(k+1),by omega,(fun k:Nat=>(⟨_,[(0,L xs),(3,.o (.c (.ref 0))),(4,I k)],[.row 1 (part xs [(.v (.string ⟨#[]⟩))] k)]⟩:St)) (k+1),⟨k+1,by omega,trivial,J⟩,Up [0] J (Kb (Zb xs [(.v (.string ⟨#[]⟩))] h3 _ (by rfl) (by rfl)).symm) (.c J (.c J (.c J (.nil))))⟩
 ·have h3:¬((k:Int)<(els xs).length):=Gqd h
  refine Wz [54] ?_
  exact Uq J (Ur [0] J (Kb (Uv xs _).symm) J)
theorem to_IntSS (xs:List (List Int)) (hg:Enc.wt xs≤1048576):Con Tryz.prog 15 [] [al xs] [.row (Enc.k (List Int)) (els xs)] (.o (.c (.ref 0))):=by
 have hlen:=Yc xs
 have hw:Enc.wt xs=xs.length+wts xs:=rfl
 refine Con.of Tryz.func15 J Tryz.ntmps15 J (fun E => ?_)
 refine Wz [22,18,10,233,4,26] ?_;refine Xj (fun m st=>∃ k:Nat,k+m=xs.length∧(True)∧st=(⟨_,[(0,L xs),(3,.o (.c (.ref 0))),(4,I k)],[.row 1 (part xs [(.sl 1 [])] k)]⟩:St)) (xs.length) ⟨(fun k:Nat=>(⟨_,[(0,L xs),(3,.o (.c (.ref 0))),(4,I k)],[.row 1 (part xs [(.sl 1 [])] k)]⟩:St)) 0,⟨0,by omega,trivial,J⟩,Up [0] J (Kb (Zc xs _)) (.c J (.c J (.c J (.nil))))⟩ ?_
 rintro m_A _ ⟨k,hk_A,hp_A,rfl⟩
 refine Wz [71] ?_
 refine Xb J (fun h => ?_) (fun h => ?_)
 ·have h3:k<xs.length:=by have:=Gqc h; omega
  have hat:=Yb h3
  have hz:=Y9 xs [(.sl 1 [])] h3
  have hpl:(k:Int)<(part xs [(.sl 1 [])] k).length:=by rw[Uu xs _]; omega
  have hwt:Enc.wt xs[k]≤wts xs:=Ks xs _ (Gqg h3)
  refine Wz [8,23,43,43,47] ?_;refine M1 (Zl J J (to_IntS _ (by omega)) J J J) J J ?_;refine Wz [172,112,121] ?_
  exact⟨xs.length-(k+1),by omega,(fun k:Nat=>(⟨_,[(0,L xs),(3,.o (.c (.ref 0))),(4,I k)],[.row 1 (part xs [(.sl 1 [])] k)]⟩:St)) (k+1),⟨k+1,by omega,trivial,J⟩,Up [0] J (Kb (Zb xs [(.sl 1 [])] h3 _ (by rfl) (by rfl)).symm) (.c J (.c J (.c J (.nil))))⟩
 ·have h3:¬((k:Int)<(els xs).length):=Gqd h
  refine Wz [54] ?_
  exact Uq J (Ur [0] J (Kb (Uv xs _).symm) J)

/-! ### Comparing -/
theorem eq_IntS (xs ys:List Int) (hn:Enc.gd xs):Con Tryz.prog 76 [] [al xs,al ys] [] (B (decide (xs=ys))):=by
 have hn1:=hn.1
 have hlx:=Yc xs
 have hly:=Yc ys
 by_cases hl:xs.length=ys.length
 ·have hb:decide (((els xs).length:Int)≠((els ys).length:Int))=false:=by rw[hlx,hly,hl]; simp
  refine Con.of Tryz.func76 J Tryz.ntmps76 J (fun E => ?_)
  refine Wz [57,97,10,49,9,26] ?_;refine Xj (fun m st=>∃ k:Nat,k+m=xs.length∧(xs.take k=ys.take k)∧st=(⟨_,[(0,L xs),(1,L ys),(5,I k)],[]⟩:St)) (xs.length) ⟨_,⟨0,by omega,by simp,J⟩,Ux []⟩ ?_
  rintro m_A _ ⟨k,hk_A,hp_A,rfl⟩
  refine Wz [71] ?_
  refine Xb J (fun h => ?_) (fun h => ?_)
  ·have h3:k<xs.length:=by have:=Gqc h; omega
   have h4:k<ys.length:=by omega
   have hat:=Yb h3
   have hat2:=Yb h4
   by_cases he:xs[k]=ys[k]
   ·have hk:decide (xs[k]≠ys[k])=false:=by simp[he]
    refine Wz [81,266,122,64,122,64,159,16,53] ?_
    exact⟨xs.length-(k+1),by omega,_,⟨k+1,by omega,Yj h3 h4 hp_A he,J⟩,Ux []⟩
   ·have hk:decide (xs[k]≠ys[k])=true:=by simp[he]
    refine Wz [81,266,122,64,122,64,159,16,11,67] ?_
    exact Uq J (Ur [] J J (Xk (eq_ne h3 h4 he).symm))
  ·have h3:¬((k:Int)<(els xs).length):=Gqd h
   refine Wz [38,72] ?_
   exact Uq J (Ur [] J J (Xk (Yh (by omega) hl hp_A).symm))
 ·have hb:decide (((els xs).length:Int)≠((els ys).length:Int))=true:=by rw[hlx,hly]; simp; omega
  refine Con.of Tryz.func76 J Tryz.ntmps76 J (fun E => ?_)
  refine Wz [57,97,10,44] ?_
  exact Uq J (Ur [] J J (Xk (Yi hl).symm))
theorem eq_StringS (xs ys:List ByteArray) (hn:Enc.gd xs):Con Tryz.prog 75 [] [al xs,al ys] [] (B (decide (xs=ys))):=by
 have hn1:=hn.1
 have hlx:=Yc xs
 have hly:=Yc ys
 by_cases hl:xs.length=ys.length
 ·have hb:decide (((els xs).length:Int)≠((els ys).length:Int))=false:=by rw[hlx,hly,hl]; simp
  refine Con.of Tryz.func75 J Tryz.ntmps75 J (fun E => ?_)
  refine Wz [57,97,10,49,9,26] ?_;refine Xj (fun m st=>∃ k:Nat,k+m=xs.length∧(xs.take k=ys.take k)∧st=(⟨_,[(0,L xs),(1,L ys),(5,I k)],[]⟩:St)) (xs.length) ⟨_,⟨0,by omega,by simp,J⟩,Ux []⟩ ?_
  rintro m_A _ ⟨k,hk_A,hp_A,rfl⟩
  refine Wz [71] ?_
  refine Xb J (fun h => ?_) (fun h => ?_)
  ·have h3:k<xs.length:=by have:=Gqc h; omega
   have h4:k<ys.length:=by omega
   have hat:=Yb h3
   have hat2:=Yb h4
   by_cases he:xs[k]=ys[k]
   ·have hk:decide (xs[k]≠ys[k])=false:=by simp[he]
    refine Wz [81,266,122,64,122,64,226,16,53] ?_
    exact⟨xs.length-(k+1),by omega,_,⟨k+1,by omega,Yj h3 h4 hp_A he,J⟩,Ux []⟩
   ·have hk:decide (xs[k]≠ys[k])=true:=by simp[he]
    refine Wz [81,266,122,64,122,64,226,16,11,67] ?_
    exact Uq J (Ur [] J J (Xk (eq_ne h3 h4 he).symm))
  ·have h3:¬((k:Int)<(els xs).length):=Gqd h
   refine Wz [38,72] ?_
   exact Uq J (Ur [] J J (Xk (Yh (by omega) hl hp_A).symm))
 ·have hb:decide (((els xs).length:Int)≠((els ys).length:Int))=true:=by rw[hlx,hly]; simp; omega
  refine Con.of Tryz.func75 J Tryz.ntmps75 J (fun E => ?_)
  refine Wz [57,97,10,44] ?_
  exact Uq J (Ur [] J J (Xk (Yi hl).symm))
theorem eq_IntSS (xs ys:List (List Int)) (hn:Enc.gd xs):Con Tryz.prog 21 [] [al xs,al ys] [] (B (decide (xs=ys))):=by
 have hn1:=hn.1
 have hlx:=Yc xs
 have hly:=Yc ys
 by_cases hl:xs.length=ys.length
 ·have hb:decide (((els xs).length:Int)≠((els ys).length:Int))=false:=by rw[hlx,hly,hl]; simp
  refine Con.of Tryz.func21 J Tryz.ntmps21 J (fun E => ?_)
  refine Wz [57,97,10,49,9,26] ?_;refine Xj (fun m st=>∃ k:Nat,k+m=xs.length∧(xs.take k=ys.take k)∧st=(⟨_,[(0,L xs),(1,L ys),(5,I k)],[]⟩:St)) (xs.length) ⟨_,⟨0,by omega,by simp,J⟩,Ux []⟩ ?_
  rintro m_A _ ⟨k,hk_A,hp_A,rfl⟩
  refine Wz [71] ?_
  refine Xb J (fun h => ?_) (fun h => ?_)
  ·have h3:k<xs.length:=by have:=Gqc h; omega
   have h4:k<ys.length:=by omega
   have hat:=Yb h3
   have hat2:=Yb h4
   by_cases he:xs[k]=ys[k]
   ·have hc:=eq_IntS xs[k] ys[k] (hn.2 _ (Gqg h3))
    rw[Gqb he] at hc
    refine Wz [81,129,122,64,122,64] ?_;refine Kw (Qj J J (hc) J) J ?_;refine Wz [84,16,53] ?_
    exact⟨xs.length-(k+1),by omega,_,⟨k+1,by omega,Yj h3 h4 hp_A he,J⟩,Ux []⟩
   ·have hc:=eq_IntS xs[k] ys[k] (hn.2 _ (Gqg h3))
    rw[Gqa he] at hc
    refine Wz [81,129,122,64,122,64] ?_;refine Kw (Qj J J (hc) J) J ?_;refine Wz [84,16,11,67] ?_
    exact Uq J (Ur [] J J (Xk (eq_ne h3 h4 he).symm))
  ·have h3:¬((k:Int)<(els xs).length):=Gqd h
   refine Wz [38,72] ?_
   exact Uq J (Ur [] J J (Xk (Yh (by omega) hl hp_A).symm))
 ·have hb:decide (((els xs).length:Int)≠((els ys).length:Int))=true:=by rw[hlx,hly]; simp; omega
  refine Con.of Tryz.func21 J Tryz.ntmps21 J (fun E => ?_)
  refine Wz [57,97,10,44] ?_
  exact Uq J (Ur [] J J (Xk (Yi hl).symm))
end
section
open Go.RowKit

def ownO:List T→List Ob
 | [] => []
 | .v _::ts=>ownO ts
 | .sl k es::ts => .row k es::ownO ts
 | .un::ts=>ownO ts
def ownV:Nat→List T→List V1
 |_,[] => []
 |n,.v x::ts => .rd [] (.v x)::ownV n ts
 |n,.sl _ _::ts => .ref n::ownV (n+1) ts
 |n,.un::ts => .un::ownV n ts

structure TLevel where
 Rows:(List ByteArray)
 deriving DecidableEq
instance:Enc TLevel:=⟨1,by omega,fun x => [sl x.Rows],fun _=>rfl,fun x=>Enc.gd x.Rows,fun x=>Enc.wt x.Rows⟩
theorem TLevel.same {x y:TLevel} (h0:x.Rows=y.Rows):x=y:=by cases x; cases y; simp_all
structure TReplay where
 Level:TLevel
 Players:Int
 Seed:Int
 Every:Int
 Rows:(List (List Int))
 Keys:(List ByteArray)
 deriving DecidableEq
instance:Enc TReplay:=⟨6,by omega,fun x => [sl x.Level.Rows,.v (.int .i64 x.Players),.v (.int .i64 x.Seed),.v (.int .i64 x.Every),sl x.Rows,sl x.Keys],fun _=>rfl,fun x=>Enc.gd x.Level∧Enc.gd x.Players∧Enc.gd x.Seed∧Enc.gd x.Every∧Enc.gd x.Rows∧Enc.gd x.Keys,fun x=>Enc.wt x.Level+Enc.wt x.Rows+Enc.wt x.Keys⟩
theorem TReplay.same {x y:TReplay} (h0:x.Level=y.Level) (h1:x.Players=y.Players) (h2:x.Seed=y.Seed) (h3:x.Every=y.Every) (h4:x.Rows=y.Rows) (h5:x.Keys=y.Keys):x=y:=by cases x; cases y; simp_all

theorem sz_Level (x:TLevel) (left:Int) (hg:Enc.gd x) (h0:0≤left) (h1:left≤1048576):Con Tryz.prog 9 [] [ag x,ai left] [] (I (szr (Enc.wt x) left)):=by
 have g_Rows:Enc.gd x.Rows:=hg
 have hw:Enc.wt x=Enc.wt x.Rows:=rfl
 have hm1:decide ((-1:Int)<0)=true:=rfl
 have hc_Rows:=sz_StringS x.Rows (left) g_Rows (by omega) (by omega)
 by_cases n_Rows:left<Enc.wt x.Rows
 ·rw[Kl n_Rows] at hc_Rows
  refine Con.of Tryz.func9 J Tryz.ntmps9 J (fun E => ?_)
  refine Wz [36,62] ?_;refine zx (Qj J J (hc_Rows) J) J ?_;refine Wz [113,39] ?_
  exact Uq J (Ur [] J J (Xs (by rw[Us])))
 rw[Ut] at hc_Rows
 have hb_Rows:decide (left-Enc.wt x.Rows<0)=false:=Gqa (by omega)
 refine Con.of Tryz.func9 J Tryz.ntmps9 J (fun E => ?_)
 refine Wz [36,62] ?_;refine zx (Qj J J (hc_Rows) J) J ?_;refine Wz [118,160] ?_
 exact Uq J (Ur [] J J (Xs (by rw[Ut]; omega)))
theorem to_Level (x:TLevel) (hg:Enc.wt x≤1048576):Con Tryz.prog 14 [] [ag x] (ownO (Enc.e x)) (.o (.ag (ownV 0 (Enc.e x)))):=by
 have hw:Enc.wt x=Enc.wt x.Rows:=rfl
 refine Con.of Tryz.func14 J Tryz.ntmps14 J (fun E => ?_)
 refine Wz [98,60,5,60,29] ?_;refine M1 (Zl J J (to_StringS x.Rows (by omega)) J J J) J J ?_;refine Wz [48,30,20,94] ?_
 exact Xm J J J J (Ur [3] J J J)
theorem eq_Level (x y:TLevel) (hg:Enc.gd x):Con Tryz.prog 20 [] [ag x,ag y] [] (B (decide (x=y))):=by
 have g_Rows:Enc.gd x.Rows:=hg
 by_cases e_Rows:¬x.Rows=y.Rows
 ·have hc:=eq_StringS x.Rows y.Rows g_Rows
  rw[Gqa e_Rows] at hc
  refine Con.of Tryz.func20 J Tryz.ntmps20 J (fun E => ?_)
  refine Wz [45] ?_;refine zx (Qj J J (hc) J) J ?_;refine Wz [2,39] ?_
  exact Uq J (Ur [] J J (Xk (Gqa fun e=>e_Rows (by rw[e])).symm))
 have e_Rows:=Classical.not_not.1 e_Rows
 have hc_Rows:=eq_StringS x.Rows y.Rows g_Rows
 rw[Gqb e_Rows] at hc_Rows
 refine Con.of Tryz.func20 J Tryz.ntmps20 J (fun E => ?_)
 refine Wz [45] ?_;refine zx (Qj J J (hc_Rows) J) J ?_;refine Wz [2,9,72] ?_
 exact Uq J (Ur [] J J (Xk (Gqb (TLevel.same e_Rows)).symm))
end
section
open Go.RowKit

def dig:Nat→Int→List UInt8→List UInt8
 |0,_,out=>out
 |n+1,k,out=>if 0<k then dig n (k/10) ([UInt8.ofNat (48+k%10).toNat]++out) else out
def mtext (k:Int):ByteArray:=bs (if k≤0 then [109,48] else 109::dig 19 k [])
theorem dig_end {n:Nat} {k:Int} {out:List UInt8} (h:¬0<k):dig n k out=out:=by
 cases n with
 |zero=>rfl
 |succ n=>rw[dig,if_neg h]
theorem Xt (k:Int) (hk:k≤1099511627776):Con Tryz.prog 172 [] [ai k] [] (S (mtext k)):=by
 refine Con.of Tryz.func172 J Tryz.ntmps172 J (fun E => ?_)
 refine Wz [57,211,6] ?_
 refine Xb J (fun h => ?_) (fun h => ?_)
 ·have h:=Gqc h
  refine Wz [52] ?_
  exact Uq J (Ur [] J J (S_eq (by rw[mtext,if_pos h])))
 have h:=Gqd h
 rw[mtext,if_neg h]
 refine Wz [25,22,212] ?_;refine Xj (fun m__ st=>∃ (j:Int) (out:List UInt8),j.toNat=m__∧(∃ n,0≤j∧j≤1099511627776∧j<10 ^ n∧out.length+n=19∧dig n j out=dig 19 k [])∧st=(⟨_,[(0,I j),(3,S (bs out))],[]⟩:St)) _ ⟨_,⟨k,[],J,⟨19,by omega,hk,by omega,J,J⟩,J⟩,Ux []⟩ ?_
 rintro m_A _ ⟨j,out,hk_A,hp_A,rfl⟩
 obtain⟨n,a0,a1,a2,a3,a4⟩:=hp_A
 refine Wz [75,234,6] ?_
 refine Xb J (fun h => ?_) (fun h => ?_)
 ·have h:=Gqc h
  have hl:=bs_size out
  refine Wz [25,76,18,184,123,255,125] ?_;refine zx (q_bstrb J J J J J) J (z0 J ?_)
  refine M0 (q_cat J J J J (by simp only[bs_size,cat_size,Gxf,List.length_nil,Gqv]; omega)) J J ?_
  refine Wz [4,23,0,203,87,89,185,186] ?_
  obtain⟨n,rfl⟩:∃ n',n=n'+1:=⟨n-1,by have:n≠0:=fun e=>by { subst e; simp at a2; omega }; omega⟩
  rw[dig,if_pos h] at a4
  rw[Int.pow_succ] at a2
  refine⟨_,(by omega),(fun (j:Int) (out:List UInt8)=>(⟨_,[(0,I j),(3,S (bs out))],[]⟩:St)) (j/10) ([UInt8.ofNat (48+j%10).toNat]++out),⟨j/10,[UInt8.ofNat (48+j%10).toNat]++out,J,⟨n,by omega,by omega,by omega,by simp only[Gqv,Gxf,List.length_nil]; omega,a4⟩,J⟩,Up [] J (by kernel_rfl) (.c J (.cons (S_eq (bs_app [_] _)) (.nil)))⟩
 ·have h:=Gqd h
  have hl:=bs_size out
  rw[dig_end h] at a4
  refine Wz [38,18] ?_
  refine M0 (q_cat J J J J (by simp only[bs_size,cat_size,Gxf,List.length_nil,Gqv]; omega)) J J ?_
  refine Wz [85] ?_
  exact Uq J (Ur [] J J (S_eq (by rw[←a4]; exact bs_app [_] _)))

def markS (xs:List ByteArray) (k:Int):List ByteArray:=(List.range xs.length).map fun (i:Nat)=>mtext (k+i)
theorem Yu (xs:List ByteArray) (k:Int):(markS xs k).length=xs.length:=by simp[markS]
theorem row2 {k:Nat} {a b:List (List T)} {g:Ob} (h:a=b) : [Ob.row k a,g] = [Ob.row k b,g]:=by rw[h]
theorem Ye {α:Type} [Enc α] (xs:List α) (i:Nat) (x:α):els (xs.set i x)=(els xs).set i (Enc.e x):=by simp[els,List.map_set]
theorem mark_next {xs:List ByteArray} {k:Int} {i:Nat} {e:List T} (h:i<xs.length) (he:e.length=1:=by rfl):els ((markS xs k).take (i+1)++xs.drop (i+1))=(els ((markS xs k).take i++xs.drop i)).set i (splice e 0 [.v (.string (mtext (k+i)))]):=by
 have h1:splice e 0 [T.v (.string (mtext (k+i)))]=Enc.e (mtext (k+i)):=by
  match e,he with
  | [t],_=>rfl
 have h2:i<(markS xs k).length:=by rw[Yu]; exact h
 have h3:(markS xs k)[i]=mtext (k+i):=by simp[markS]
 rw[h1,←Ye]
 congr 1
 rw[Gq4 h2,h3,List.set_append_right _ _ (by simp[Yu]; omega)]
 have:i-((markS xs k).take i).length=0:=by simp[Yu]; omega
 rw[this,Gxi h,List.set_cons_zero,Gq6]
 rfl
theorem L_markStringS (xs:List ByteArray) (k:Int) (hL:xs.length≤1048576) (h0:0<k) (hk:k≤4294967296):Con Tryz.prog 79 [.row 1 (els xs),.gh 0 (.c (.ref 0))] [.c (.ref 0),ai k] [.row 1 (els (markS xs k)),.gh 0 (.c (.ref 0))] (I (k+xs.length)):=by
 have hlx:=Yc xs
 refine Con.of Tryz.func79 J Tryz.ntmps79 J (fun E => ?_)
 refine Wz [22,26] ?_;refine Xj (fun m st=>∃ i:Nat,i+m=xs.length∧(True)∧st=(⟨_,[(0,.o (.c (.ref 0))),(1,I (k+i)),(5,I i)],[.row 1 (els ((markS xs k).take i++xs.drop i)),.gh 0 (.c (.ref 0))]⟩:St)) (xs.length) ⟨(fun i:Nat=>(⟨_,[(0,.o (.c (.ref 0))),(1,I (k+i)),(5,I i)],[.row 1 (els ((markS xs k).take i++xs.drop i)),.gh 0 (.c (.ref 0))]⟩:St)) 0,⟨0,by omega,trivial,J⟩,Up [0,1] J (by kernel_rfl) (.c J (.cons (Xs (by omega)) (.c J (.nil))))⟩ ?_
 rintro m_A _ ⟨i,hk_A,hp_A,rfl⟩
 have hl2:(els ((markS xs k).take i++xs.drop i)).length=xs.length:=by rw[Yc]; simp[Yu]; omega
 refine Wz [13,33,63] ?_
 refine Xb J (fun h => ?_) (fun h => ?_)
 ·have h3:i<xs.length:=by have:=Gqc h; omega
  have hi:i<((markS xs k).take i++xs.drop i).length:=by simp[Yu]; omega
  have hat:=Yb hi
  refine Wz [8,139] ?_;refine zx (Qj J J (Xt (k+i) (by omega)) J) J ?_;refine Wz [68,112,6,23,95,99] ?_
  exact⟨xs.length-(i+1),by omega,(fun i:Nat=>(⟨_,[(0,.o (.c (.ref 0))),(1,I (k+i)),(5,I i)],[.row 1 (els ((markS xs k).take i++xs.drop i)),.gh 0 (.c (.ref 0))]⟩:St)) (i+1),⟨i+1,by omega,trivial,J⟩,Up [0,1] J (row2 (mark_next h3)) (.c J (.cons (Xs (by omega)) (.c J (.nil))))⟩
 ·have h3:¬((i:Int)<(els ((markS xs k).take i++xs.drop i)).length):=Gqd h
  have hi:i=xs.length:=by omega
  have hm:(markS xs k).take i++xs.drop i=markS xs k:=by rw[Gqk (by rw[Yu]; omega),List.drop_of_length_le (by omega),Gqw]
  refine Wz [54] ?_
  exact Uq J (Ur [0,1] J (row2 (by rw[hm])) (Xs (by omega)))
theorem L_heldStringS (xs:List ByteArray) (k:Int) (hL:xs.length≤1048576) (h0:0<k) (hk:k≤4294967296):Con Tryz.prog 114 [] [al (markS xs k),ai k] [] (I (k+xs.length)):=by
 have hlx:=Yc (markS xs k)
 rw[Yu] at hlx
 refine Con.of Tryz.func114 J Tryz.ntmps114 J (fun E => ?_)
 refine Wz [22,26] ?_;refine Xj (fun m st=>∃ i:Nat,i+m=xs.length∧(True)∧st=(⟨_,[(0,L (markS xs k)),(1,I (k+i)),(5,I i)],[]⟩:St)) (xs.length) ⟨(fun i:Nat=>(⟨_,[(0,L (markS xs k)),(1,I (k+i)),(5,I i)],[]⟩:St)) 0,⟨0,by omega,trivial,J⟩,Up [] J (by kernel_rfl) (.c J (.cons (Xs (by omega)) (.c J (.nil))))⟩ ?_
 rintro m_A _ ⟨i,hk_A,hp_A,rfl⟩
 refine Wz [71] ?_
 refine Xb J (fun h => ?_) (fun h => ?_)
 ·have h3:i<xs.length:=by have:=Gqc h; omega
  have hi:i<(markS xs k).length:=by rw[Yu]; exact h3
  have hat:=Yb hi
  have hx:(markS xs k)[i]=mtext (k+i):=by simp[markS]
  rw[hx] at hat
  have hne:decide (mtext (k+i)≠mtext (k+i))=false:=by simp
  refine Wz [81,14] ?_;refine Xi [[],[],[0,1],[0,1,2],[],[4],(u9 6)] [[],[],[12,13],[12,13,14],[],[16],[12,13,14,15,16,17]] [[13,16,17],[12,16,17],[16,17],[16,17],[12,13,14,15],[12,13,14,15],[]] J ?_;refine Wz [122,64,1] ?_;refine Kw (Qj J J (Xt (k+i) (by omega)) J) J ?_;refine Wz [226,16,9,23,95,99] ?_
  exact⟨xs.length-(i+1),by omega,(fun i:Nat=>(⟨_,[(0,L (markS xs k)),(1,I (k+i)),(5,I i)],[]⟩:St)) (i+1),⟨i+1,by omega,trivial,J⟩,Up [] J (by kernel_rfl) (.c J (.cons (Xs (by omega)) (.c J (.nil))))⟩
 ·have h3:¬((i:Int)<(els (markS xs k)).length):=Gqd h
  refine Wz [54] ?_
  exact Uq J (Ur [] J J (Xs (by omega)))
theorem L_markLevel (xs:List ByteArray) (k:Int) (hL:xs.length≤1048576) (h0:0<k) (hk:k≤4294967296):Con Tryz.prog 24 [.row 1 (els xs),.gh 0 (.ag [.ref 0])] [.ag [.ref 0],ai k] [.row 1 (els (markS xs k)),.gh 0 (.ag [.ref 0])] (I (k+xs.length)):=by
 refine Con.of Tryz.func24 J Tryz.ntmps24 J (fun E => ?_)
 refine Wz [36,62] ?_;refine Xd (lo := [_]) (gs := [(0,.c (.ref 0))]) (lo' := [_]) (new := []) [0] [(0,0,.ref 0)] (L_markStringS xs k hL h0 hk) J J J J J J J J J J J J J J J J J ?_;refine Wz [4,160] ?_
 exact Uq J (Ur [0,1] J J J)
theorem L_heldLevel (xs:List ByteArray) (k:Int) (hL:xs.length≤1048576) (h0:0<k) (hk:k≤4294967296):Con Tryz.prog 88 [] [ag (⟨markS xs k⟩:TLevel),ai k] [] (I (k+xs.length)):=by
 have hn:decide (k+(xs.length:Int)<0)=false:=Gqa (by omega)
 refine Con.of Tryz.func88 J Tryz.ntmps88 J (fun E => ?_)
 refine Wz [36,62] ?_;refine zx (Qj J J (L_heldStringS xs k hL h0 hk) J) J ?_;refine Wz [118,160] ?_
 exact Uq J (Ur [] J J J)
end
end Go.Proofs.YtoecjaohdnoenaaGreat
