/-
  Rules, data and contracts of functions: part 15 of the proof.
  Conditions: those that each theorem names.
-/
import Derived.ProofKit
import Derived.Deep.Slices
import Derived.Test.YtoecjaohdnoenaaGreatDDRecRowk12
import Derived.Test.YtoecjaohdnoenaaGreatDDRecRowk13
set_option linter.unusedVariables false
set_option linter.unusedSimpArgs false
set_option maxRecDepth 4096
set_option maxHeartbeats 8000000
namespace Go.Proofs.YtoecjaohdnoenaaGreat
section
open Go.RowKit Go.ChangeShapes Go.WideShapes Go.Deep

def I64 (x:Int):Prop := -9223372036854775808≤x∧x≤9223372036854775807

class Enc (α:Type) where
 k:Nat
 pos:0<k
 e:α→List T
 len:∀ x,(e x).length=k
 gd:α→Prop
 wt:α→Nat
instance:Enc Int:=⟨1,by omega,fun x => [.v (.int .i64 x)],fun _=>rfl,I64,fun _=>0⟩
instance:Enc Bool:=⟨1,by omega,fun x => [.v (.bool x)],fun _=>rfl,fun _=>True,fun _=>0⟩
instance:Enc ByteArray:=⟨1,by omega,fun x => [.v (.string x)],fun _=>rfl,fun x=>x.size≤9223372036854775807,fun x=>x.size⟩
def wts {α:Type} [Enc α]:List α→Nat
 | []=>0
 |x::xs=>Enc.wt x+wts xs
@[reducible] def els {α:Type} [Enc α] (xs:List α):List (List T):=xs.map Enc.e
instance {α:Type} [Enc α]:Enc (List α):=⟨1,by omega,fun xs => [.sl (Enc.k α) (els xs)],fun _=>rfl,fun xs=>xs.length≤9223372036854775807∧∀ x∈xs,Enc.gd x,fun xs=>xs.length+wts xs⟩

@[reducible] def sl {α:Type} [Enc α] (xs:List α):T := .sl (Enc.k α) (els xs)
@[reducible] def ai (n:Int):V2 := .c (.rd [] (.v (.int .i64 n)))
@[reducible] def astr (s:ByteArray):V2 := .c (.rd [] (.v (.string s)))
@[reducible] def al {α:Type} [Enc α] (xs:List α):V2 := .c (.rd [] (sl xs))
@[reducible] def ag {α:Type} [Enc α] (x:α):V2 := .ag ((Enc.e x).map (V1.rd []))
@[reducible] def L {α:Type} [Enc α] (xs:List α):V := .o (al xs)

class PlainE (α:Type) [Enc α]:Prop where
 plain:∀ (x:α) (t:T),t∈Enc.e x→∃ u,t = .v u
instance:PlainE Int:=⟨fun x t h=>by simp[Enc.e] at h; exact⟨_,h⟩⟩
instance:PlainE Bool:=⟨fun x t h=>by simp[Enc.e] at h; exact⟨_,h⟩⟩
instance:PlainE ByteArray:=⟨fun x t h=>by simp[Enc.e] at h; exact⟨_,h⟩⟩
theorem Yy {α:Type} [Enc α] [PlainE α] (xs:List α):plainT (els xs):=fun e he t ht=>by
 obtain⟨x,_,rfl⟩:=Gqt.1 he
 exact PlainE.plain x t ht
theorem els_k {α:Type} [Enc α] (xs:List α):∀ e∈els xs,e.length=Enc.k α:=fun e he=>by
 obtain⟨x,_,rfl⟩:=Gqt.1 he
 exact Enc.len x
@[reducible] def bs (l:List UInt8):ByteArray:=⟨l.toArray⟩
theorem Yn (a b:List UInt8):bs a++bs b=bs (a++b):=by
 apply ByteArray.ext
 rw[ByteArray.data_append]
 simp[bs]
theorem Yp (l:List UInt8):(bs l).size=l.length:=by simp[bs,ByteArray.size]
theorem cat_size (a b:ByteArray):(a++b).size=a.size+b.size:=by simp[ByteArray.size_append]
theorem Yo (l:List UInt8):(bs l).data.toList=l:=by simp[bs]
theorem bs_of (s:ByteArray):bs s.data.toList=s:=by simp[bs]
theorem bs_inj {a b:List UInt8}:bs a=bs b↔a=b:=⟨fun h=>by have:=congrArg (·.data.toList) h; simpa[Yo] using this,fun h=>by rw[h]⟩
theorem S_eq {a b:ByteArray} (h:a=b):S a=S b:=by rw[h]
theorem Yk (a b:List UInt8):bE a++bE b=bE (a++b):=by simp[bE]
theorem bE_snoc (a:List UInt8) (n:Int) (h:0≤n∧n≤255):bE a ++ [[.v (.int .u8 n)]]=bE (a ++ [UInt8.ofNat n.toNat]):=by
 have h1:((UInt8.ofNat n.toNat).toNat:Int)=n:=by
  rw[UInt8.toNat_ofNat']
  omega
 unfold bE
 rw[List.map_append,List.map_cons,List.map_nil,h1]

theorem Yv {α:Type} [Enc α] {xs:List α} {k:Nat} (h:k<xs.length):(els xs)[(k:Int).toNat]? = some (Enc.e xs[k]):=by simp[els,h]
theorem Yx {α:Type} [Enc α] (xs:List α):(els xs).length=xs.length:=by simp[els]
theorem wts_take {α:Type} [Enc α]:∀ (xs:List α) (k:Nat) (h:k<xs.length),wts (xs.take (k+1))=wts (xs.take k)+Enc.wt xs[k]
 |x::xs,0,_=>by simp[wts]
 |x::xs,k+1,h=>by
  have:=wts_take xs k (by simpa using h)
  simp only[List.take_succ_cons,wts,List.getElem_cons_succ,this]
  omega
theorem wts_le {α:Type} [Enc α]:∀ (xs:List α) (x:α),x∈xs→Enc.wt x≤wts xs
 |y::xs,x,h=>by
  simp only[wts]
  rcases List.mem_cons.1 h with rfl | h
  ·omega
  ·have:=wts_le xs x h; omega
theorem Vi {α:Type} [Enc α]:∀ (xs:List α) (k:Nat),wts (xs.take k)≤wts xs
 | [],k=>by simp[wts]
 |x::xs,0=>by simp[wts]
 |x::xs,k+1=>by
  have:=Vi xs k
  simp only[List.take_succ_cons,wts]
  omega

/-! ### Readings -/
theorem list_of_each {α:Type} {p:Nat→α→Prop}:∀ n:Nat,(∀ i,i<n→∃ y,p i y)→∃ ys:List α,ys.length=n∧∀ (i:Nat) (y:α),ys[i]? = some y→p i y
 |0,_=>⟨[],rfl,fun _ _ h=>by simp at h⟩
 | n+1,h=>by
  obtain⟨ys,h1,h2⟩:=list_of_each n fun i hi=>h i (by omega)
  obtain⟨y,hy⟩:=h n (by omega)
  refine⟨ys ++ [y],by simp[h1],fun i z hz => ?_⟩
  rcases Gqo i ys.length with hi | hi
  ·rw[Gqy hi] at hz
   exact h2 i z hz
  ·rw[Gq2 hi] at hz
   have hi0:i-ys.length=0:=by
    rcases Nat.eq_zero_or_pos (i-ys.length) with h0 | h0
    ·exact h0
    ·rw[List.getElem?_eq_none (by simp; omega)] at hz
     cases hz
   rw[hi0] at hz
   simp only[Gq8,Option.some.injEq] at hz
   subst hz
   have:i=n:=by omega
   subst this
   exact hy

def Reads {α:Type} [Enc α] (w:World) (x:α) (cs:List Value):Prop:=cs.length=Enc.k α∧∀ (j:Nat) (t:T) (u:Value),(Enc.e x)[j]? = some t→cs[j]? = some u→RO w (fun _=>True) t u

class RdOf (P:Program) (t:TypeId) (α:outParam Type) [Enc α]:Prop where
 size:P.cellsOf t=Enc.k α
 of:∀ {H:Type} {enc:TypeId×Value→H} {w:World} {spare:Nat→Bool} {held:Bool} {fuel:Nat} {cs:List Value} {x:DataW H×List MemPlace},
  DataW.trod enc P w 0 spare held fuel t cs=some x→∃ y:α,Enc.gd y∧Reads w y cs

theorem i64_of_wf {n:Int} (h:(Lit.int .i64 n).wf=true):I64 n:=by
 simp[Lit.wf,IntKind.min,IntKind.max,IntKind.signed,IntKind.bits] at h
 exact⟨by omega,by omega⟩
theorem reads_one {α:Type} [Enc α] {w:World} {x:α} {t:T} {u:Value} (he:Enc.e x = [t]) (h:RO w (fun _=>True) t u):Reads w x [u]:=by
 refine⟨by rw[←Enc.len x,he]; rfl,fun j t' u' h1 h2 => ?_⟩
 rw[he] at h1
 cases j with
 |zero=>simp at h1 h2; subst h1 h2; exact h
 |succ j=>simp at h1
theorem rdOf_int {P:Program} {t:TypeId} (ht:P.underlying t=some (.int .i64)) (hs:P.cellsOf t=1):RdOf P t Int where
 size:=hs
 of h:=by
  obtain⟨n,rfl,_,h3⟩:=DataW.trod_int ht h
  exact⟨n,i64_of_wf h3,reads_one J (.v _ J)⟩
theorem rdOf_string {P:Program} {t:TypeId} (ht:P.underlying t=some .string) (hs:P.cellsOf t=1):RdOf P t ByteArray where
 size:=hs
 of h:=by
  obtain⟨s,rfl,_,h3⟩:=DataW.trod_string ht h
  exact⟨s,by simpa[maxLen,Enc.gd] using h3,reads_one J (.v _ J)⟩
theorem Kq {P:Program} {t e:TypeId} {α:Type} [Enc α] [hα:RdOf P e α] (ht:P.underlying t=some (.slice e)) (hs:P.cellsOf t=1):RdOf P t (List α) where
 size:=hs
 of {H enc w spare held fuel cs x} h:=by
  rcases open_slice ht h with ⟨rfl,_⟩ | ⟨a,len,cap,m,n,D,Pl,rfl,_,hl,hm,hmm,_,hi⟩
  ·exact⟨[],⟨by simp,by simp⟩,reads_one rfl (.nil _ _ _ (by simp[maxLen]))⟩
  ·have hlm:len≤m:=by rw[hmm]; split <;> omega
   obtain⟨ys,h1,h2⟩:=list_of_each (p:=fun i y=>∃ es,w.cells? 0 (a.add (i*P.cellsOf e)) (P.cellsOf e)=some es∧Enc.gd (α:=α) y∧Reads w y es) len fun i hi'=>by
    obtain⟨es,h3,h4⟩:=hi i (by omega)
    obtain⟨y,hy⟩:=hα.of h4
    exact⟨y,es,h3,hy⟩
   subst h1
   refine⟨ys,⟨by simp[maxLen] at hm; omega,fun y hy => ?_⟩,?_⟩
   ·obtain⟨i,hi'⟩:=List.getElem?_of_mem hy
    obtain⟨es,_,hg,_⟩:=h2 i y hi'
    exact hg
   refine reads_one J ?_
   rcases Nat.eq_zero_or_pos ys.length with h0 | h0
   ·have:=List.eq_nil_of_length_eq_zero h0
    subst this
    exact .nil _ _ _ hm
   ·have hsp:a.spot=none:=by
     obtain⟨es,h3,_⟩:=h2 0 _ (Gqd h0)
     obtain⟨_,hcl,hat⟩:=World.cells?_some h3
     have hp:0<P.cellsOf e:=by rw[hα.size]; exact Enc.pos
     have:=hat 0 hp
     rw[Gqd (by omega)] at this
     have h5:=World.cell?_spot this
     simpa[Addr.add] using h5
    obtain⟨b,o,sp⟩:=a
    simp only at hsp
    subst hsp
    have hel:∀ i,i<ys.length→∃ es,w.cells? 0 ((⟨b,o,none⟩:Addr).add (i*P.cellsOf e)) (P.cellsOf e)=some es:=fun i hi'=>by
     obtain⟨es,h3,_⟩:=h2 i _ (Gqd hi')
     exact⟨es,h3⟩
    have hlen:ys.length=(els ys).length:=(Yx ys).symm
    rw[hlen]
    refine .sl (els ys) b o (Enc.k α) cap (fun i j=>((w.cells? 0 ((⟨b,o,none⟩:Addr).add (i*P.cellsOf e)) (P.cellsOf e)).getD []).getD j undef) trivial (by rw[Yx]; exact hl) hm Enc.pos (fun e' he => ?_) (fun i j hi' hj => ?_) fun i j e' t' h3 h4 => ?_
    ·obtain⟨y,_,rfl⟩:=Gqt.1 he
     exact Enc.len y
    ·rw[Yx] at hi'
     obtain⟨es,h3⟩:=hel i hi'
     obtain⟨_,hcl,hat⟩:=World.cells?_some h3
     rw[hα.size] at hcl
     have h5:=hat j (by rw[hα.size]; exact hj)
     rw[add_lit,add_lit,hα.size,Gqd (by omega)] at h5
     rw[h3]
     simp only[Option.getD_some]
     rw[h5,Gqc,Gqd (by omega)]
     rfl
    ·rw[Gqh] at h3
     obtain⟨y,hy,rfl⟩:=Option.map_eq_some_iff.1 h3
     obtain⟨es,h5,_,h6⟩:=h2 i y hy
     have hj:j<es.length:=by rw[h6.1,←Enc.len y]; exact Y7 h4
     show RO w _ t' (((w.cells? 0 ((⟨b,o,none⟩:Addr).add (i*P.cellsOf e)) (P.cellsOf e)).getD []).getD j undef)
     rw[h5]
     simp only[Option.getD_some]
     rw[Y6 (Gqd hj)]
     exact h6.2 j t' _ h4 (Gqd hj)

theorem reads_of_Trod {P:Program} {t:TypeId} {α:Type} [Enc α] [hα:RdOf P t α] {H:Type} {enc:TypeId×Value→H} {w:World} {spare:Nat→Bool} {held:Bool} {v:Value} {d:DataW H} {p:List MemPlace}
  (h:DataW.Trod enc P w 0 spare held t v d p):∃ y:α,Enc.gd y∧Reads w y v.cells.toList:=by
 obtain⟨fuel,hf⟩:=h
 exact hα.of hf

theorem r2_agg {α:Type} [Enc α] {w:World} {H:Hs} {x:α} {cs:List Value} (h:Reads w x cs):R2 w H (fun b=>b<w.heap.size) (ag x) (.agg cs.toArray):=by
 refine⟨cs,J,by simp[h.1,Enc.len],fun i c u h1 h2 => ?_⟩
 rw[Gqh] at h1
 obtain⟨t,h3,rfl⟩:=Option.map_eq_some_iff.1 h1
 exact RO.weak (h.2 i t u h3 h2) fun b _ hb => .inl hb
theorem r2_int {w:World} {H:Hs} {F:Nat→Prop} (n:Int):R2 w H F (ai n) (.int .i64 n):=RO.v _ rfl
theorem law_calls {P:Program} {f:FuncId} {args:List V2} (hc:Con P f [] args [] (B true)) (w:World) (vs:List Value) (hl:vs.length=args.length) (hr:∀ (i:Nat) (x:V2) (v:Value),args[i]? = some x→vs[i]? = some v→R2 w (fun _ => .nil) (fun b=>b<w.heap.size) x v) :
  Calls P f vs.toArray w fun e w'=>e = .returned (.bool true)∧Below w.heap.size w w':=by
 refine (hc w (fun _ => .nil) (fun b=>b<w.heap.size) vs ⟨fun _=>trivial,fun _=>by simp[Pc.fp],fun p q b h=>by simp[Pc.fp] at h,fun p b h=>by simp[Pc.fp] at h,fun _ h=>h⟩ (fun p=>by simp[RB]) hl hr).mono ?_
 rintro e w' ⟨H',F',rv,rfl,hs,_,_,hv⟩
 refine⟨by rw[(RO.plain (show RO w' _ (.v (.bool true)) rv from hv)).1],hs.os,hs.tape,hs.output,hs.size,fun b hb=>hs.keep b hb fun p=>by simp[Pc.fp]⟩
end
section
open Go.RowKit

theorem Xz {a b:Int} (h:a=b):I a=I b:=by rw[h]
theorem Xk {a b:Bool} (h:a=b):B a=B b:=by rw[h]
def szr (n:Nat) (left:Int):Int:=if left<n then -1 else left-n
theorem K7 {n:Nat} {left:Int} (h:left<n):szr n left = -1:=if_pos h
theorem Gd {n:Nat} {left:Int} (h:left<n:=by omega):szr n left = -1:=K7 h
theorem K8 {n:Nat} {left:Int} (h:(n:Int)≤left):szr n left=left-n:=if_neg (by omega)
theorem Ge {n:Nat} {left:Int} (h:(n:Int)≤left:=by omega):szr n left=left-n:=K8 h
theorem wts_int:∀ xs:List Int,wts xs=0
 | []=>rfl
 |x::xs=>by simp[wts,wts_int xs,Enc.wt]
theorem eq_ne {α:Type} [DecidableEq α] {xs ys:List α} {j:Nat} (h1:j<xs.length) (h2:j<ys.length) (h:¬xs[j]=ys[j]):decide (xs=ys)=false:=by
 rw[decide_eq_false_iff_not]
 intro e
 subst e
 exact h J
theorem eq_all {α:Type} [DecidableEq α] {xs ys:List α} {j:Nat} (h1:xs.length≤j) (h2:xs.length=ys.length) (h:xs.take j=ys.take j):decide (xs=ys)=true:=by
 rw[Gq3 h1,Gq3 (by omega)] at h
 simp[h]
theorem eq_len {α:Type} [DecidableEq α] {xs ys:List α} (h:xs.length≠ys.length):decide (xs=ys)=false:=by
 rw[decide_eq_false_iff_not]
 intro e
 subst e
 exact h J
theorem eq_next {α:Type} {xs ys:List α} {j:Nat} (h1:j<xs.length) (h2:j<ys.length) (h:xs.take j=ys.take j) (e:xs[j]=ys[j]):xs.take (j+1)=ys.take (j+1):=by
 rw[Gq1 h1,Gq1 h2,h,e]

/-! ### Counting -/
theorem sz_IntS (xs:List Int) (left:Int) (hg:Enc.gd xs) (h0:0≤left) (h1:left≤1048576):Con Tryz.prog 54 [] [al xs,ai left] [] (I (szr (Enc.wt xs) left)):=by
 have hlen:=Yx xs
 have hx:=hg.1
 have hw:Enc.wt xs=xs.length:=by simp[Enc.wt,wts_int]
 refine Con.of Tryz.func54 J Tryz.ntmps54 J (fun E => ?_)
 refine Wz [32,13,7,65,78,37] ?_
 refine Xb J (fun h => ?_) (fun h => ?_)
 ·refine Wz [98] ?_
  have h2:=Gqe (p:=_) (by simpa using h)
  exact Gb J (Gc [] J J (Xz (by rw[Gd])))
 ·refine Wz [22,10,2] ?_
  refine Wz [74,48] ?_
  have h2:=Gqf h
  exact Gb J (Gc [] J J (Xz (by rw[Ge]; omega)))
theorem sz_StringS (xs:List ByteArray) (left:Int) (hg:Enc.gd xs) (h0:0≤left) (h1:left≤1048576):Con Tryz.prog 53 [] [al xs,ai left] [] (I (szr (Enc.wt xs) left)):=by
 have hlen:=Yx xs
 have hx:=hg.1
 have hw:Enc.wt xs=xs.length+wts xs:=rfl
 refine Con.of Tryz.func53 J Tryz.ntmps53 J (fun E => ?_)
 refine Wz [32,13,7,65,78,37] ?_
 refine Xb J (fun h => ?_) (fun h => ?_)
 ·refine Wz [98] ?_
  have h2:=Gqe h
  exact Gb J (Gc [] J J (Xz (by rw[Gd])))
 have h2:¬(left-((els xs).length:Int)<0):=Gqf h
 refine Wz [22,46] ?_
 refine Xj (fun m st=>∃ k:Nat,k+m=xs.length∧(((xs.length:Int)+wts (xs.take k)≤left))∧st=(⟨_,[(0,L xs),(1,I (left-(xs.length+wts (xs.take k)))),(5,I k)],[]⟩:St)) (xs.length) ⟨(fun k:Nat=>(⟨_,[(0,L xs),(1,I (left-(xs.length+wts (xs.take k)))),(5,I k)],[]⟩:St)) 0,⟨0,by omega,by simp[wts]; omega,J⟩,Ga [] J (by kernel_rfl) (.c J (.cons (Xz (by simp[els,wts])) (.c J (.nil))))⟩ ?_
 rintro m_A _ ⟨k,hk_A,hp_A,rfl⟩
 refine Wz [20,7,37] ?_
 refine Xb J (fun h => ?_) (fun h => ?_)
 ·have h3:k<xs.length:=by have:=Gqe h; omega
  have hat:=Yv h3
  have hstep:=wts_take xs k h3
  have hle:=Vi xs (k+1)
  have hws:Enc.wt xs[k]=xs[k].size:=rfl
  have hgd:xs[k].size≤9223372036854775807:=hg.2 _ (Gqj h3)
  by_cases h4:left-((xs.length:Int)+wts (xs.take k))-xs[k].size<0
  ·have hb:decide (left-((xs.length:Int)+wts (xs.take k))-xs[k].size<0)=true:=Gqb h4
   refine Wz [11,99,59,72,65,49,75,26,69] ?_
   exact Gb J (Gc [] J J (Xz (by rw[Gd])))
  ·have hb:decide (left-((xs.length:Int)+wts (xs.take k))-xs[k].size<0)=false:=Gqa h4
   refine Wz [11,99,59,72,65,49,12,100] ?_
   exact⟨xs.length-(k+1),by omega,(fun k:Nat=>(⟨_,[(0,L xs),(1,I (left-(xs.length+wts (xs.take k)))),(5,I k)],[]⟩:St)) (k+1),⟨k+1,by omega,by omega,J⟩,Ga [] J (by kernel_rfl) (.c J (.cons (Xz (by rw[hstep]; omega)) (.c J (.nil))))⟩
 ·have h3:¬((k:Int)<(els xs).length):=Gqf h
  have hk:wts (xs.take k)=wts xs:=by rw[Gq3 (by omega)]
  refine Wz [89,17] ?_
  exact Gb J (Gc [] J J (Xz (by rw[Ge]; omega)))
theorem sz_IntSS (xs:List (List Int)) (left:Int) (hg:Enc.gd xs) (h0:0≤left) (h1:left≤1048576):Con Tryz.prog 10 [] [al xs,ai left] [] (I (szr (Enc.wt xs) left)):=by
 have hlen:=Yx xs
 have hx:=hg.1
 have hw:Enc.wt xs=xs.length+wts xs:=rfl
 refine Con.of Tryz.func10 J Tryz.ntmps10 J (fun E => ?_)
 refine Wz [32,13,7,65,78,37] ?_
 refine Xb J (fun h => ?_) (fun h => ?_)
 ·refine Wz [98] ?_
  have h2:=Gqe h
  exact Gb J (Gc [] J J (Xz (by rw[Gd])))
 have h2:¬(left-((els xs).length:Int)<0):=Gqf h
 refine Wz [22,46] ?_
 refine Xj (fun m st=>∃ k:Nat,k+m=xs.length∧(((xs.length:Int)+wts (xs.take k)≤left))∧st=(⟨_,[(0,L xs),(1,I (left-(xs.length+wts (xs.take k)))),(5,I k)],[]⟩:St)) (xs.length) ⟨(fun k:Nat=>(⟨_,[(0,L xs),(1,I (left-(xs.length+wts (xs.take k)))),(5,I k)],[]⟩:St)) 0,⟨0,by omega,by simp[wts]; omega,J⟩,Ga [] J (by kernel_rfl) (.c J (.cons (Xz (by simp[els,wts])) (.c J (.nil))))⟩ ?_
 rintro m_A _ ⟨k,hk_A,hp_A,rfl⟩
 refine Wz [20,7,37] ?_
 refine Xb J (fun h => ?_) (fun h => ?_)
 ·have h3:k<xs.length:=by have:=Gqe h; omega
  have hat:=Yv h3
  have hstep:=wts_take xs k h3
  have hle:=Vi xs (k+1)
  have hc:=sz_IntS xs[k] (left-((xs.length:Int)+wts (xs.take k))) (hg.2 _ (Gqj h3)) (by omega) (by omega)
  by_cases h4:left-((xs.length:Int)+wts (xs.take k))<Enc.wt xs[k]
  ·rw[K7 h4] at hc
   have hb:decide ((-1:Int)<0)=true:=rfl
   refine Wz [11,13,59,0] ?_;refine zx (Qj J J (hc) J) J ?_;refine Wz [49,75,26,69] ?_
   exact Gb J (Gc [] J J (Xz (by rw[Gd])))
  ·rw[Ge] at hc
   have hb:decide (left-((xs.length:Int)+wts (xs.take k))-Enc.wt xs[k]<0)=false:=Gqa (by omega)
   refine Wz [11,13,59,0] ?_;refine zx (Qj J J (hc) J) J ?_;refine Wz [49,12,100] ?_
   exact⟨xs.length-(k+1),by omega,(fun k:Nat=>(⟨_,[(0,L xs),(1,I (left-(xs.length+wts (xs.take k)))),(5,I k)],[]⟩:St)) (k+1),⟨k+1,by omega,by omega,J⟩,Ga [] J (by kernel_rfl) (.c J (.cons (Xz (by rw[hstep]; omega)) (.c J (.nil))))⟩
 ·have h3:¬((k:Int)<(els xs).length):=Gqf h
  have hk:wts (xs.take k)=wts xs:=by rw[Gq3 (by omega)]
  refine Wz [89,17] ?_
  exact Gb J (Gc [] J J (Xz (by rw[Ge]; omega)))

/-! ### Copying -/
def part {α:Type} [Enc α] (xs:List α) (z:List T) (k:Nat):List (List T):=els (xs.take k)++List.replicate (xs.length-k) z
theorem part_len {α:Type} [Enc α] (xs:List α) (z:List T) {k:Nat} (h:k≤xs.length):(part xs z k).length=xs.length:=by simp[part,els]; omega
theorem Zr {α:Type} [Enc α] (xs:List α) (z:List T):part xs z 0=List.replicate (((els xs).length:Int)).toNat z:=by simp[part,els]
theorem part_all {α:Type} [Enc α] (xs:List α) (z:List T) {k:Nat} (h:xs.length≤k):part xs z k=els xs:=by
 unfold part
 rw[Gq3 h,show xs.length-k=0 by omega]
 simp
theorem part_at {α:Type} [Enc α] (xs:List α) (z:List T) {k:Nat} (h:k<xs.length):(part xs z k)[(k:Int).toNat]? = some z:=by
 have h1:(els (xs.take k)).length=k:=by simp[els]; omega
 unfold part
 rw[Int.toNat_natCast,Gq2 (by omega),h1,Nat.sub_self,List.getElem?_replicate,if_pos (by omega)]
theorem part_set {α:Type} [Enc α] (xs:List α) (z:List T) {k:Nat} (h:k<xs.length) (ts:List T) (ht:ts=Enc.e xs[k]) (hz:z.length=ts.length):(part xs z k).set (k:Int).toNat (splice z 0 ts)=part xs z (k+1):=by
 have h1:(els (xs.take k)).length=k:=by simp[els]; omega
 have h2:splice z 0 ts=ts:=by simp[splice,hz]
 subst ht
 unfold part
 rw[h2,Int.toNat_natCast,List.set_append_right _ _ (by omega),h1,Nat.sub_self,show xs.length-k=(xs.length-(k+1))+1 by omega,List.replicate_succ,List.set_cons_zero]
 have h3:els (xs.take (k+1))=els (xs.take k) ++ [Enc.e xs[k]]:=by
  rw[Gq1 h]
  simp only[els,List.map_append,List.map_cons,List.map_nil]
 rw[h3,Gqu]
 rfl
theorem Kw {k:Nat} {a b:List (List T)} (h:a=b) : [Ob.row k a] = [Ob.row k b]:=by rw[h]

theorem to_IntS (xs:List Int) (hg:Enc.wt xs≤1048576):Con Tryz.prog 62 [] [al xs] [.row (Enc.k Int) (els xs)] (.o (.c (.ref 0))):=by
 have hlen:=Yx xs
 have hw:Enc.wt xs=xs.length+wts xs:=rfl
 refine Con.of Tryz.func62 J Tryz.ntmps62 J (fun E => ?_)
 refine Wz [32,10,7,253,2,46] ?_;refine Xj (fun m st=>∃ k:Nat,k+m=xs.length∧(True)∧st=(⟨_,[(0,L xs),(3,.o (.c (.ref 0))),(4,I k)],[.row 1 (part xs [(.v (.int .i64 0))] k)]⟩:St)) (xs.length) ⟨(fun k:Nat=>(⟨_,[(0,L xs),(3,.o (.c (.ref 0))),(4,I k)],[.row 1 (part xs [(.v (.int .i64 0))] k)]⟩:St)) 0,⟨0,by omega,trivial,J⟩,Ga [0] J (Kw (Zr xs _)) (.c J (.c J (.c J (.nil))))⟩ ?_
 rintro m_A _ ⟨k,hk_A,hp_A,rfl⟩
 refine Wz [20,7,37] ?_
 refine Xb J (fun h => ?_) (fun h => ?_)
 ·have h3:k<xs.length:=by have:=Gqe h; omega
  have hat:=Yv h3
  have hz:=part_at xs [(.v (.int .i64 0))] h3
  have hpl:(k:Int)<(part xs [(.v (.int .i64 0))] k).length:=by rw[part_len xs _ (by omega)]; omega
  have hwt:Enc.wt xs[k]≤wts xs:=wts_le xs _ (Gqj h3)
  refine Wz [11,33,132,0,59,233,125,51,129] ?_
  exact⟨xs.length-(k+1),by omega,(fun k:Nat=>(⟨_,[(0,L xs),(3,.o (.c (.ref 0))),(4,I k)],[.row 1 (part xs [(.v (.int .i64 0))] k)]⟩:St)) (k+1),⟨k+1,by omega,trivial,J⟩,Ga [0] J (Kw (part_set xs [(.v (.int .i64 0))] h3 _ (by rfl) (by rfl)).symm) (.c J (.c J (.c J (.nil))))⟩
 ·have h3:¬((k:Int)<(els xs).length):=Gqf h
  refine Wz [89,17] ?_
  exact Gb J (Gc [0] J (Kw (part_all xs _ (by omega)).symm) J)
theorem to_StringS (xs:List ByteArray) (hg:Enc.wt xs≤1048576):Con Tryz.prog 61 [] [al xs] [.row (Enc.k ByteArray) (els xs)] (.o (.c (.ref 0))):=by
 have hlen:=Yx xs
 have hw:Enc.wt xs=xs.length+wts xs:=rfl
 refine Con.of Tryz.func61 J Tryz.ntmps61 J (fun E => ?_)
 refine Wz [32,10,7,253,2,46] ?_;refine Xj (fun m st=>∃ k:Nat,k+m=xs.length∧(True)∧st=(⟨_,[(0,L xs),(3,.o (.c (.ref 0))),(4,I k)],[.row 1 (part xs [(.v (.string ⟨#[]⟩))] k)]⟩:St)) (xs.length) ⟨(fun k:Nat=>(⟨_,[(0,L xs),(3,.o (.c (.ref 0))),(4,I k)],[.row 1 (part xs [(.v (.string ⟨#[]⟩))] k)]⟩:St)) 0,⟨0,by omega,trivial,J⟩,Ga [0] J (Kw (Zr xs _)) (.c J (.c J (.c J (.nil))))⟩ ?_
 rintro m_A _ ⟨k,hk_A,hp_A,rfl⟩
 refine Wz [20,7,37] ?_
 refine Xb J (fun h => ?_) (fun h => ?_)
 ·have h3:k<xs.length:=by have:=Gqe h; omega
  have hat:=Yv h3
  have hz:=part_at xs [(.v (.string ⟨#[]⟩))] h3
  have hpl:(k:Int)<(part xs [(.v (.string ⟨#[]⟩))] k).length:=by rw[part_len xs _ (by omega)]; omega
  have hwt:Enc.wt xs[k]≤wts xs:=wts_le xs _ (Gqj h3)
  refine Wz [11,33,132,0,59,233,125,51,129] ?_
  exact⟨xs.length-(k+1),by omega,(fun k:Nat=>(⟨_,[(0,L xs),(3,.o (.c (.ref 0))),(4,I k)],[.row 1 (part xs [(.v (.string ⟨#[]⟩))] k)]⟩:St)) (k+1),⟨k+1,by omega,trivial,J⟩,Ga [0] J (Kw (part_set xs [(.v (.string ⟨#[]⟩))] h3 _ (by rfl) (by rfl)).symm) (.c J (.c J (.c J (.nil))))⟩
 ·have h3:¬((k:Int)<(els xs).length):=Gqf h
  refine Wz [89,17] ?_
  exact Gb J (Gc [0] J (Kw (part_all xs _ (by omega)).symm) J)
theorem to_IntSS (xs:List (List Int)) (hg:Enc.wt xs≤1048576):Con Tryz.prog 15 [] [al xs] [.row (Enc.k (List Int)) (els xs)] (.o (.c (.ref 0))):=by
 have hlen:=Yx xs
 have hw:Enc.wt xs=xs.length+wts xs:=rfl
 refine Con.of Tryz.func15 J Tryz.ntmps15 J (fun E => ?_)
 refine Wz [32,10,7,293,2,46] ?_;refine Xj (fun m st=>∃ k:Nat,k+m=xs.length∧(True)∧st=(⟨_,[(0,L xs),(3,.o (.c (.ref 0))),(4,I k)],[.row 1 (part xs [(.sl 1 [])] k)]⟩:St)) (xs.length) ⟨(fun k:Nat=>(⟨_,[(0,L xs),(3,.o (.c (.ref 0))),(4,I k)],[.row 1 (part xs [(.sl 1 [])] k)]⟩:St)) 0,⟨0,by omega,trivial,J⟩,Ga [0] J (Kw (Zr xs _)) (.c J (.c J (.c J (.nil))))⟩ ?_
 rintro m_A _ ⟨k,hk_A,hp_A,rfl⟩
 refine Wz [20,7,37] ?_
 refine Xb J (fun h => ?_) (fun h => ?_)
 ·have h3:k<xs.length:=by have:=Gqe h; omega
  have hat:=Yv h3
  have hz:=part_at xs [(.sl 1 [])] h3
  have hpl:(k:Int)<(part xs [(.sl 1 [])] k).length:=by rw[part_len xs _ (by omega)]; omega
  have hwt:Enc.wt xs[k]≤wts xs:=wts_le xs _ (Gqj h3)
  refine Wz [11,33,132,0,59] ?_;refine M1 (Z3 J J (to_IntS _ (by omega)) J J J) J J ?_;refine Wz [233,125,51,129] ?_
  exact⟨xs.length-(k+1),by omega,(fun k:Nat=>(⟨_,[(0,L xs),(3,.o (.c (.ref 0))),(4,I k)],[.row 1 (part xs [(.sl 1 [])] k)]⟩:St)) (k+1),⟨k+1,by omega,trivial,J⟩,Ga [0] J (Kw (part_set xs [(.sl 1 [])] h3 _ (by rfl) (by rfl)).symm) (.c J (.c J (.c J (.nil))))⟩
 ·have h3:¬((k:Int)<(els xs).length):=Gqf h
  refine Wz [89,17] ?_
  exact Gb J (Gc [0] J (Kw (part_all xs _ (by omega)).symm) J)

/-! ### Comparing -/
theorem eq_IntS (xs ys:List Int) (hn:Enc.gd xs):Con Tryz.prog 76 [] [al xs,al ys] [] (B (decide (xs=ys))):=by
 have hn1:=hn.1
 have hlx:=Yx xs
 have hly:=Yx ys
 by_cases hl:xs.length=ys.length
 ·have hb:decide (((els xs).length:Int)≠((els ys).length:Int))=false:=by rw[hlx,hly,hl]; simp
  refine Con.of Tryz.func76 J Tryz.ntmps76 J (fun E => ?_)
  refine Wz [87,7,0,7,24,41,46] ?_;refine Xj (fun m st=>∃ k:Nat,k+m=xs.length∧(xs.take k=ys.take k)∧st=(⟨_,[(0,L xs),(1,L ys),(5,I k)],[]⟩:St)) (xs.length) ⟨_,⟨0,by omega,by simp,J⟩,Gi []⟩ ?_
  rintro m_A _ ⟨k,hk_A,hp_A,rfl⟩
  refine Wz [20,7,37] ?_
  refine Xb J (fun h => ?_) (fun h => ?_)
  ·have h3:k<xs.length:=by have:=Gqe h; omega
   have h4:k<ys.length:=by omega
   have hat:=Yv h3
   have hat2:=Yv h4
   by_cases he:xs[k]=ys[k]
   ·have hk:decide (xs[k]≠ys[k])=false:=by simp[he]
    refine Wz [11,8,272,34,85,34,85,166,21,100] ?_
    exact⟨xs.length-(k+1),by omega,_,⟨k+1,by omega,eq_next h3 h4 hp_A he,J⟩,Gi []⟩
   ·have hk:decide (xs[k]≠ys[k])=true:=by simp[he]
    refine Wz [11,8,272,34,85,34,85,166,21,29,26,69] ?_
    exact Gb J (Gc [] J J (Xk (eq_ne h3 h4 he).symm))
  ·have h3:¬((k:Int)<(els xs).length):=Gqf h
   refine Wz [27,26,48] ?_
   exact Gb J (Gc [] J J (Xk (eq_all (by omega) hl hp_A).symm))
 ·have hb:decide (((els xs).length:Int)≠((els ys).length:Int))=true:=by rw[hlx,hly]; simp; omega
  refine Con.of Tryz.func76 J Tryz.ntmps76 J (fun E => ?_)
  refine Wz [87,7,0,7,24,39] ?_
  exact Gb J (Gc [] J J (Xk (eq_len hl).symm))
theorem eq_StringS (xs ys:List ByteArray) (hn:Enc.gd xs):Con Tryz.prog 75 [] [al xs,al ys] [] (B (decide (xs=ys))):=by
 have hn1:=hn.1
 have hlx:=Yx xs
 have hly:=Yx ys
 by_cases hl:xs.length=ys.length
 ·have hb:decide (((els xs).length:Int)≠((els ys).length:Int))=false:=by rw[hlx,hly,hl]; simp
  refine Con.of Tryz.func75 J Tryz.ntmps75 J (fun E => ?_)
  refine Wz [87,7,0,7,24,41,46] ?_;refine Xj (fun m st=>∃ k:Nat,k+m=xs.length∧(xs.take k=ys.take k)∧st=(⟨_,[(0,L xs),(1,L ys),(5,I k)],[]⟩:St)) (xs.length) ⟨_,⟨0,by omega,by simp,J⟩,Gi []⟩ ?_
  rintro m_A _ ⟨k,hk_A,hp_A,rfl⟩
  refine Wz [20,7,37] ?_
  refine Xb J (fun h => ?_) (fun h => ?_)
  ·have h3:k<xs.length:=by have:=Gqe h; omega
   have h4:k<ys.length:=by omega
   have hat:=Yv h3
   have hat2:=Yv h4
   by_cases he:xs[k]=ys[k]
   ·have hk:decide (xs[k]≠ys[k])=false:=by simp[he]
    refine Wz [11,8,272,34,85,34,85,207,21,100] ?_
    exact⟨xs.length-(k+1),by omega,_,⟨k+1,by omega,eq_next h3 h4 hp_A he,J⟩,Gi []⟩
   ·have hk:decide (xs[k]≠ys[k])=true:=by simp[he]
    refine Wz [11,8,272,34,85,34,85,207,21,29,26,69] ?_
    exact Gb J (Gc [] J J (Xk (eq_ne h3 h4 he).symm))
  ·have h3:¬((k:Int)<(els xs).length):=Gqf h
   refine Wz [27,26,48] ?_
   exact Gb J (Gc [] J J (Xk (eq_all (by omega) hl hp_A).symm))
 ·have hb:decide (((els xs).length:Int)≠((els ys).length:Int))=true:=by rw[hlx,hly]; simp; omega
  refine Con.of Tryz.func75 J Tryz.ntmps75 J (fun E => ?_)
  refine Wz [87,7,0,7,24,39] ?_
  exact Gb J (Gc [] J J (Xk (eq_len hl).symm))
theorem eq_IntSS (xs ys:List (List Int)) (hn:Enc.gd xs):Con Tryz.prog 21 [] [al xs,al ys] [] (B (decide (xs=ys))):=by
 have hn1:=hn.1
 have hlx:=Yx xs
 have hly:=Yx ys
 by_cases hl:xs.length=ys.length
 ·have hb:decide (((els xs).length:Int)≠((els ys).length:Int))=false:=by rw[hlx,hly,hl]; simp
  refine Con.of Tryz.func21 J Tryz.ntmps21 J (fun E => ?_)
  refine Wz [87,7,0,7,24,41,46] ?_;refine Xj (fun m st=>∃ k:Nat,k+m=xs.length∧(xs.take k=ys.take k)∧st=(⟨_,[(0,L xs),(1,L ys),(5,I k)],[]⟩:St)) (xs.length) ⟨_,⟨0,by omega,by simp,J⟩,Gi []⟩ ?_
  rintro m_A _ ⟨k,hk_A,hp_A,rfl⟩
  refine Wz [20,7,37] ?_
  refine Xb J (fun h => ?_) (fun h => ?_)
  ·have h3:k<xs.length:=by have:=Gqe h; omega
   have h4:k<ys.length:=by omega
   have hat:=Yv h3
   have hat2:=Yv h4
   by_cases he:xs[k]=ys[k]
   ·have hc:=eq_IntS xs[k] ys[k] (hn.2 _ (Gqj h3))
    rw[Gqb he] at hc
    refine Wz [11,8,213,34,85,34,85] ?_;refine Vk (Qj J J (hc) J) J ?_;refine Wz [147,21,100] ?_
    exact⟨xs.length-(k+1),by omega,_,⟨k+1,by omega,eq_next h3 h4 hp_A he,J⟩,Gi []⟩
   ·have hc:=eq_IntS xs[k] ys[k] (hn.2 _ (Gqj h3))
    rw[Gqa he] at hc
    refine Wz [11,8,213,34,85,34,85] ?_;refine Vk (Qj J J (hc) J) J ?_;refine Wz [147,21,29,26,69] ?_
    exact Gb J (Gc [] J J (Xk (eq_ne h3 h4 he).symm))
  ·have h3:¬((k:Int)<(els xs).length):=Gqf h
   refine Wz [27,26,48] ?_
   exact Gb J (Gc [] J J (Xk (eq_all (by omega) hl hp_A).symm))
 ·have hb:decide (((els xs).length:Int)≠((els ys).length:Int))=true:=by rw[hlx,hly]; simp; omega
  refine Con.of Tryz.func21 J Tryz.ntmps21 J (fun E => ?_)
  refine Wz [87,7,0,7,24,39] ?_
  exact Gb J (Gc [] J J (Xk (eq_len hl).symm))
end
section
open Go.RowKit

def ownO:List T→List Ob
 | [] => []
 | .v _::ts=>ownO ts
 | .sl k es::ts => .row k es::ownO ts
 | .un::ts=>ownO ts
def ownV:Nat→List T→List V1
 |_,[] => []
 |n,.v x::ts => .rd [] (.v x)::ownV n ts
 |n,.sl _ _::ts => .ref n::ownV (n+1) ts
 |n,.un::ts => .un::ownV n ts

structure TLevel where
 Rows:(List ByteArray)
 deriving DecidableEq
instance:Enc TLevel:=⟨1,by omega,fun x => [sl x.Rows],fun _=>rfl,fun x=>Enc.gd x.Rows,fun x=>Enc.wt x.Rows⟩
theorem TLevel.same {x y:TLevel} (h0:x.Rows=y.Rows):x=y:=by cases x; cases y; simp_all
structure TReplay where
 Level:TLevel
 Players:Int
 Seed:Int
 Every:Int
 Rows:(List (List Int))
 Keys:(List ByteArray)
 deriving DecidableEq
instance:Enc TReplay:=⟨6,by omega,fun x => [sl x.Level.Rows,.v (.int .i64 x.Players),.v (.int .i64 x.Seed),.v (.int .i64 x.Every),sl x.Rows,sl x.Keys],fun _=>rfl,fun x=>Enc.gd x.Level∧Enc.gd x.Players∧Enc.gd x.Seed∧Enc.gd x.Every∧Enc.gd x.Rows∧Enc.gd x.Keys,fun x=>Enc.wt x.Level+Enc.wt x.Rows+Enc.wt x.Keys⟩
theorem TReplay.same {x y:TReplay} (h0:x.Level=y.Level) (h1:x.Players=y.Players) (h2:x.Seed=y.Seed) (h3:x.Every=y.Every) (h4:x.Rows=y.Rows) (h5:x.Keys=y.Keys):x=y:=by cases x; cases y; simp_all

theorem sz_Level (x:TLevel) (left:Int) (hg:Enc.gd x) (h0:0≤left) (h1:left≤1048576):Con Tryz.prog 9 [] [ag x,ai left] [] (I (szr (Enc.wt x) left)):=by
 have g_Rows:Enc.gd x.Rows:=hg
 have hw:Enc.wt x=Enc.wt x.Rows:=rfl
 have hm1:decide ((-1:Int)<0)=true:=rfl
 have hc_Rows:=sz_StringS x.Rows (left) g_Rows (by omega) (by omega)
 by_cases n_Rows:left<Enc.wt x.Rows
 ·rw[K7 n_Rows] at hc_Rows
  refine Con.of Tryz.func9 J Tryz.ntmps9 J (fun E => ?_)
  refine Wz [82,52] ?_;refine zx (Qj J J (hc_Rows) J) J ?_;refine Wz [148,39] ?_
  exact Gb J (Gc [] J J (Xz (by rw[Gd])))
 rw[Ge] at hc_Rows
 have hb_Rows:decide (left-Enc.wt x.Rows<0)=false:=Gqa (by omega)
 refine Con.of Tryz.func9 J Tryz.ntmps9 J (fun E => ?_)
 refine Wz [82,52] ?_;refine zx (Qj J J (hc_Rows) J) J ?_;refine Wz [91,10,17] ?_
 exact Gb J (Gc [] J J (Xz (by rw[Ge]; omega)))
theorem to_Level (x:TLevel) (hg:Enc.wt x≤1048576):Con Tryz.prog 14 [] [ag x] (ownO (Enc.e x)) (.o (.ag (ownV 0 (Enc.e x)))):=by
 have hw:Enc.wt x=Enc.wt x.Rows:=rfl
 refine Con.of Tryz.func14 J Tryz.ntmps14 J (fun E => ?_)
 refine Wz [53,3,4,66,3,23] ?_;refine M1 (Z3 J J (to_StringS x.Rows (by omega)) J J J) J J ?_;refine Wz [30,14,56,74,48] ?_
 exact Xm J J J J (Gc [3] J J J)
theorem eq_Level (x y:TLevel) (hg:Enc.gd x):Con Tryz.prog 20 [] [ag x,ag y] [] (B (decide (x=y))):=by
 have g_Rows:Enc.gd x.Rows:=hg
 by_cases e_Rows:¬x.Rows=y.Rows
 ·have hc:=eq_StringS x.Rows y.Rows g_Rows
  rw[Gqa e_Rows] at hc
  refine Con.of Tryz.func20 J Tryz.ntmps20 J (fun E => ?_)
  refine Wz [115] ?_;refine zx (Qj J J (hc) J) J ?_;refine Wz [9,39] ?_
  exact Gb J (Gc [] J J (Xk (Gqa fun e=>e_Rows (by rw[e])).symm))
 have e_Rows:=Classical.not_not.1 e_Rows
 have hc_Rows:=eq_StringS x.Rows y.Rows g_Rows
 rw[Gqb e_Rows] at hc_Rows
 refine Con.of Tryz.func20 J Tryz.ntmps20 J (fun E => ?_)
 refine Wz [115] ?_;refine zx (Qj J J (hc_Rows) J) J ?_;refine Wz [73,26,48] ?_
 exact Gb J (Gc [] J J (Xk (Gqb (TLevel.same e_Rows)).symm))
theorem eq_Replay (x y:TReplay) (hg:Enc.gd x):Con Tryz.prog 34 [] [ag x,ag y] [] (B (decide (x=y))):=by
 obtain⟨g_Level,g_Players,g_Seed,g_Every,g_Rows,g_Keys⟩:=hg
 by_cases e_Level:¬x.Level=y.Level
 ·have hc:=eq_Level x.Level y.Level g_Level
  rw[Gqa e_Level] at hc
  refine Con.of Tryz.func34 J Tryz.ntmps34 J (fun E => ?_)
  refine Wz [130,119] ?_;refine zx (Qj J J (hc) J) J ?_;refine Wz [9,39] ?_
  exact Gb J (Gc [] J J (Xk (Gqa fun e=>e_Level (by rw[e])).symm))
 have e_Level:=Classical.not_not.1 e_Level
 have hc_Level:=eq_Level x.Level y.Level g_Level
 rw[Gqb e_Level] at hc_Level
 by_cases e_Players:¬x.Players=y.Players
 ·have hk:decide (x.Players≠y.Players)=true:=by simp[e_Players]
  refine Con.of Tryz.func34 J Tryz.ntmps34 J (fun E => ?_)
  refine Wz [130,119] ?_;refine zx (Qj J J (hc_Level) J) J ?_;refine Wz [109,24,39] ?_
  exact Gb J (Gc [] J J (Xk (Gqa fun e=>e_Players (by rw[e])).symm))
 have e_Players:=Classical.not_not.1 e_Players
 have k_Players:decide (x.Players≠y.Players)=false:=by simp[e_Players]
 by_cases e_Seed:¬x.Seed=y.Seed
 ·have hk:decide (x.Seed≠y.Seed)=true:=by simp[e_Seed]
  refine Con.of Tryz.func34 J Tryz.ntmps34 J (fun E => ?_)
  refine Wz [130,119] ?_;refine zx (Qj J J (hc_Level) J) J ?_;refine Wz [109,167,24,39] ?_
  exact Gb J (Gc [] J J (Xk (Gqa fun e=>e_Seed (by rw[e])).symm))
 have e_Seed:=Classical.not_not.1 e_Seed
 have k_Seed:decide (x.Seed≠y.Seed)=false:=by simp[e_Seed]
 by_cases e_Every:¬x.Every=y.Every
 ·have hk:decide (x.Every≠y.Every)=true:=by simp[e_Every]
  refine Con.of Tryz.func34 J Tryz.ntmps34 J (fun E => ?_)
  refine Wz [130,119] ?_;refine zx (Qj J J (hc_Level) J) J ?_;refine Wz [109,67,24,39] ?_
  exact Gb J (Gc [] J J (Xk (Gqa fun e=>e_Every (by rw[e])).symm))
 have e_Every:=Classical.not_not.1 e_Every
 have k_Every:decide (x.Every≠y.Every)=false:=by simp[e_Every]
 by_cases e_Rows:¬x.Rows=y.Rows
 ·have hc:=eq_IntSS x.Rows y.Rows g_Rows
  rw[Gqa e_Rows] at hc
  refine Con.of Tryz.func34 J Tryz.ntmps34 J (fun E => ?_)
  refine Wz [130,119] ?_;refine zx (Qj J J (hc_Level) J) J ?_;refine Wz [109,67,167] ?_;refine zx (Qj J J (hc) J) J ?_;refine Wz [9,39] ?_
  exact Gb J (Gc [] J J (Xk (Gqa fun e=>e_Rows (by rw[e])).symm))
 have e_Rows:=Classical.not_not.1 e_Rows
 have hc_Rows:=eq_IntSS x.Rows y.Rows g_Rows
 rw[Gqb e_Rows] at hc_Rows
 by_cases e_Keys:¬x.Keys=y.Keys
 ·have hc:=eq_StringS x.Keys y.Keys g_Keys
  rw[Gqa e_Keys] at hc
  refine Con.of Tryz.func34 J Tryz.ntmps34 J (fun E => ?_)
  refine Wz [130,119] ?_;refine zx (Qj J J (hc_Level) J) J ?_;refine Wz [109,67,167] ?_;refine zx (Qj J J (hc_Rows) J) J ?_;refine Wz [109] ?_;refine zx (Qj J J (hc) J) J ?_;refine Wz [9,39] ?_
  exact Gb J (Gc [] J J (Xk (Gqa fun e=>e_Keys (by rw[e])).symm))
 have e_Keys:=Classical.not_not.1 e_Keys
 have hc_Keys:=eq_StringS x.Keys y.Keys g_Keys
 rw[Gqb e_Keys] at hc_Keys
 refine Con.of Tryz.func34 J Tryz.ntmps34 J (fun E => ?_)
 refine Wz [130,119] ?_;refine zx (Qj J J (hc_Level) J) J ?_;refine Wz [109,67,167] ?_;refine zx (Qj J J (hc_Rows) J) J ?_;refine Wz [109] ?_;refine zx (Qj J J (hc_Keys) J) J ?_;refine Wz [73,26,48] ?_
 exact Gb J (Gc [] J J (Xk (Gqb (TReplay.same e_Level e_Players e_Seed e_Every e_Rows e_Keys)).symm))
end
section
open Go.RowKit

def dig:Nat→Int→List UInt8→List UInt8
 |0,_,out=>out
 |n+1,k,out=>if 0<k then dig n (k/10) ([UInt8.ofNat (48+k%10).toNat]++out) else out
def mtext (k:Int):ByteArray:=bs (if k≤0 then [109,48] else 109::dig 19 k [])
theorem dig_end {n:Nat} {k:Int} {out:List UInt8} (h:¬0<k):dig n k out=out:=by
 cases n with
 |zero=>rfl
 |succ n=>rw[dig,if_neg h]
theorem L_markText (k:Int) (hk:k≤1099511627776):Con Tryz.prog 172 [] [ai k] [] (S (mtext k)):=by
 refine Con.of Tryz.func172 J Tryz.ntmps172 J (fun E => ?_)
 refine Wz [87,214,3] ?_
 refine Xb J (fun h => ?_) (fun h => ?_)
 ·have h:=Gqe h
  refine Wz [98] ?_
  exact Gb J (Gc [] J J (S_eq (by rw[mtext,if_pos h])))
 have h:=Gqf h
 rw[mtext,if_neg h]
 refine Wz [22,32,155] ?_;refine Xj (fun m__ st=>∃ (j:Int) (out:List UInt8),j.toNat=m__∧(∃ n,0≤j∧j≤1099511627776∧j<10 ^ n∧out.length+n=19∧dig n j out=dig 19 k [])∧st=(⟨_,[(0,I j),(3,S (bs out))],[]⟩:St)) _ ⟨_,⟨k,[],J,⟨19,by omega,hk,by omega,J,J⟩,J⟩,Gi []⟩ ?_
 rintro m_A _ ⟨j,out,hk_A,hp_A,rfl⟩
 obtain⟨n,a0,a1,a2,a3,a4⟩:=hp_A
 refine Wz [40,254,3] ?_
 refine Xb J (fun h => ?_) (fun h => ?_)
 ·have h:=Gqe h
  have hl:=Yp out
  refine Wz [22,44,10,149,18,208,101] ?_;refine zx (q_bstrb J J J J J) J (z0 J ?_)
  refine M0 (q_cat J J J J (by simp only[Yp,cat_size,Gqx,List.length_nil,Gqg]; omega)) J J ?_
  refine Wz [2,33,179,141,122] ?_
  obtain⟨n,rfl⟩:∃ n',n=n'+1:=⟨n-1,by have:n≠0:=fun e=>by { subst e; simp at a2; omega }; omega⟩
  rw[dig,if_pos h] at a4
  rw[Int.pow_succ] at a2
  refine⟨_,(by omega),(fun (j:Int) (out:List UInt8)=>(⟨_,[(0,I j),(3,S (bs out))],[]⟩:St)) (j/10) ([UInt8.ofNat (48+j%10).toNat]++out),⟨j/10,[UInt8.ofNat (48+j%10).toNat]++out,J,⟨n,by omega,by omega,by omega,by simp only[Gqg,Gqx,List.length_nil]; omega,a4⟩,J⟩,Ga [] J (by kernel_rfl) (.c J (.cons (S_eq (Yn [_] _)) (.nil)))⟩
 ·have h:=Gqf h
  have hl:=Yp out
  rw[dig_end h] at a4
  refine Wz [89] ?_
  refine M0 (q_cat J J J J (by simp only[Yp,cat_size,Gqx,List.length_nil,Gqg]; omega)) J J ?_
  refine Wz [17] ?_
  exact Gb J (Gc [] J J (S_eq (by rw[←a4]; exact Yn [_] _)))

def markS (xs:List ByteArray) (k:Int):List ByteArray:=(List.range xs.length).map fun (i:Nat)=>mtext (k+i)
theorem Zi (xs:List ByteArray) (k:Int):(markS xs k).length=xs.length:=by simp[markS]
theorem row2 {k:Nat} {a b:List (List T)} {g:Ob} (h:a=b) : [Ob.row k a,g] = [Ob.row k b,g]:=by rw[h]
theorem els_set {α:Type} [Enc α] (xs:List α) (i:Nat) (x:α):els (xs.set i x)=(els xs).set i (Enc.e x):=by simp[els,List.map_set]
theorem mark_next {xs:List ByteArray} {k:Int} {i:Nat} {e:List T} (h:i<xs.length) (he:e.length=1:=by rfl):els ((markS xs k).take (i+1)++xs.drop (i+1))=(els ((markS xs k).take i++xs.drop i)).set i (splice e 0 [.v (.string (mtext (k+i)))]):=by
 have h1:splice e 0 [T.v (.string (mtext (k+i)))]=Enc.e (mtext (k+i)):=by
  match e,he with
  | [t],_=>rfl
 have h2:i<(markS xs k).length:=by rw[Zi]; exact h
 have h3:(markS xs k)[i]=mtext (k+i):=by simp[markS]
 rw[h1,←els_set]
 congr 1
 rw[Gq1 h2,h3,List.set_append_right _ _ (by simp[Zi]; omega)]
 have:i-((markS xs k).take i).length=0:=by simp[Zi]; omega
 rw[this,Gxu h,List.set_cons_zero,Gqu]
 rfl
theorem L_markStringS (xs:List ByteArray) (k:Int) (hL:xs.length≤1048576) (h0:0<k) (hk:k≤4294967296):Con Tryz.prog 79 [.row 1 (els xs),.gh 0 (.c (.ref 0))] [.c (.ref 0),ai k] [.row 1 (els (markS xs k)),.gh 0 (.c (.ref 0))] (I (k+xs.length)):=by
 have hlx:=Yx xs
 refine Con.of Tryz.func79 J Tryz.ntmps79 J (fun E => ?_)
 refine Wz [32,46] ?_;refine Xj (fun m st=>∃ i:Nat,i+m=xs.length∧(True)∧st=(⟨_,[(0,.o (.c (.ref 0))),(1,I (k+i)),(5,I i)],[.row 1 (els ((markS xs k).take i++xs.drop i)),.gh 0 (.c (.ref 0))]⟩:St)) (xs.length) ⟨(fun i:Nat=>(⟨_,[(0,.o (.c (.ref 0))),(1,I (k+i)),(5,I i)],[.row 1 (els ((markS xs k).take i++xs.drop i)),.gh 0 (.c (.ref 0))]⟩:St)) 0,⟨0,by omega,trivial,J⟩,Ga [0,1] J (by kernel_rfl) (.c J (.cons (Xz (by omega)) (.c J (.nil))))⟩ ?_
 rintro m_A _ ⟨i,hk_A,hp_A,rfl⟩
 have hl2:(els ((markS xs k).take i++xs.drop i)).length=xs.length:=by rw[Yx]; simp[Zi]; omega
 refine Wz [20,102,37] ?_
 refine Xb J (fun h => ?_) (fun h => ?_)
 ·have h3:i<xs.length:=by have:=Gqe h; omega
  have hi:i<((markS xs k).take i++xs.drop i).length:=by simp[Zi]; omega
  have hat:=Yv hi
  refine Wz [11,99] ?_;refine zx (Qj J J (L_markText (k+i) (by omega)) J) J ?_;refine Wz [47,125,3,33,18,104] ?_
  exact⟨xs.length-(i+1),by omega,(fun i:Nat=>(⟨_,[(0,.o (.c (.ref 0))),(1,I (k+i)),(5,I i)],[.row 1 (els ((markS xs k).take i++xs.drop i)),.gh 0 (.c (.ref 0))]⟩:St)) (i+1),⟨i+1,by omega,trivial,J⟩,Ga [0,1] J (row2 (mark_next h3)) (.c J (.cons (Xz (by omega)) (.c J (.nil))))⟩
 ·have h3:¬((i:Int)<(els ((markS xs k).take i++xs.drop i)).length):=Gqf h
  have hi:i=xs.length:=by omega
  have hm:(markS xs k).take i++xs.drop i=markS xs k:=by rw[Gq3 (by rw[Zi]; omega),List.drop_of_length_le (by omega),Gxi]
  refine Wz [89,17] ?_
  exact Gb J (Gc [0,1] J (row2 (by rw[hm])) (Xz (by omega)))
theorem L_heldStringS (xs:List ByteArray) (k:Int) (hL:xs.length≤1048576) (h0:0<k) (hk:k≤4294967296):Con Tryz.prog 114 [] [al (markS xs k),ai k] [] (I (k+xs.length)):=by
 have hlx:=Yx (markS xs k)
 rw[Zi] at hlx
 refine Con.of Tryz.func114 J Tryz.ntmps114 J (fun E => ?_)
 refine Wz [32,46] ?_;refine Xj (fun m st=>∃ i:Nat,i+m=xs.length∧(True)∧st=(⟨_,[(0,L (markS xs k)),(1,I (k+i)),(5,I i)],[]⟩:St)) (xs.length) ⟨(fun i:Nat=>(⟨_,[(0,L (markS xs k)),(1,I (k+i)),(5,I i)],[]⟩:St)) 0,⟨0,by omega,trivial,J⟩,Ga [] J (by kernel_rfl) (.c J (.cons (Xz (by omega)) (.c J (.nil))))⟩ ?_
 rintro m_A _ ⟨i,hk_A,hp_A,rfl⟩
 refine Wz [20,7,37] ?_
 refine Xb J (fun h => ?_) (fun h => ?_)
 ·have h3:i<xs.length:=by have:=Gqe h; omega
  have hi:i<(markS xs k).length:=by rw[Zi]; exact h3
  have hat:=Yv hi
  have hx:(markS xs k)[i]=mtext (k+i):=by simp[markS]
  rw[hx] at hat
  have hne:decide (mtext (k+i)≠mtext (k+i))=false:=by simp
  refine Wz [11,8,8] ?_;refine Xi [[],[],[0,1],[0,1,2],[],[4],(u9 6)] [[],[],[12,13],[12,13,14],[],[16],[12,13,14,15,16,17]] [[13,16,17],[12,16,17],[16,17],[16,17],[12,13,14,15],[12,13,14,15],[]] J ?_;refine Wz [34,85,5] ?_;refine Vk (Qj J J (L_markText (k+i) (by omega)) J) J ?_;refine Wz [207,21,41,33,18,104] ?_
  exact⟨xs.length-(i+1),by omega,(fun i:Nat=>(⟨_,[(0,L (markS xs k)),(1,I (k+i)),(5,I i)],[]⟩:St)) (i+1),⟨i+1,by omega,trivial,J⟩,Ga [] J (by kernel_rfl) (.c J (.cons (Xz (by omega)) (.c J (.nil))))⟩
 ·have h3:¬((i:Int)<(els (markS xs k)).length):=Gqf h
  refine Wz [89,17] ?_
  exact Gb J (Gc [] J J (Xz (by omega)))
theorem L_markLevel (xs:List ByteArray) (k:Int) (hL:xs.length≤1048576) (h0:0<k) (hk:k≤4294967296):Con Tryz.prog 24 [.row 1 (els xs),.gh 0 (.ag [.ref 0])] [.ag [.ref 0],ai k] [.row 1 (els (markS xs k)),.gh 0 (.ag [.ref 0])] (I (k+xs.length)):=by
 refine Con.of Tryz.func24 J Tryz.ntmps24 J (fun E => ?_)
 refine Wz [82,52] ?_;refine Xd (lo := [_]) (gs := [(0,.c (.ref 0))]) (lo' := [_]) (new := []) [0] [(0,0,.ref 0)] (L_markStringS xs k hL h0 hk) J J J J J J J J J J J J J J J J J ?_;refine Wz [49,17] ?_
 exact Gb J (Gc [0,1] J J J)
theorem L_heldLevel (xs:List ByteArray) (k:Int) (hL:xs.length≤1048576) (h0:0<k) (hk:k≤4294967296):Con Tryz.prog 88 [] [ag (⟨markS xs k⟩:TLevel),ai k] [] (I (k+xs.length)):=by
 have hn:decide (k+(xs.length:Int)<0)=false:=Gqa (by omega)
 refine Con.of Tryz.func88 J Tryz.ntmps88 J (fun E => ?_)
 refine Wz [82,52] ?_;refine zx (Qj J J (L_heldStringS xs k hL h0 hk) J) J ?_;refine Wz [91,10,17] ?_
 exact Gb J (Gc [] J J J)
end
end Go.Proofs.YtoecjaohdnoenaaGreat
