/-
  Rules, data and contracts of functions: part 15 of the proof.
  Conditions: those that each theorem names.
-/
import Derived.ProofKit
import Derived.Deep.Slices
import Derived.Test.YtfklmiijhcajdaaGreatDDTellRowk12
import Derived.Test.YtfklmiijhcajdaaGreatDDTellRowk13
set_option linter.unusedVariables false
set_option linter.unusedSimpArgs false
set_option maxRecDepth 4096
set_option maxHeartbeats 8000000
namespace Go.Proofs.YtfklmiijhcajdaaGreat
section
open Go.RowKit Go.ChangeShapes Go.WideShapes Go.Deep

def I64 (x:Int):Prop := -9223372036854775808≤x∧x≤9223372036854775807

class Enc (α:Type) where
 k:Nat
 pos:0<k
 e:α→List T
 len:∀ x,(e x).length=k
 gd:α→Prop
 wt:α→Nat
instance:Enc Int:=⟨1,Aqa,fun x => [.v (.int .i64 x)],fun _=>rfl,I64,fun _=>0⟩
instance:Enc Bool:=⟨1,Aqa,fun x => [.v (.bool x)],fun _=>rfl,fun _=>True,fun _=>0⟩
instance:Enc ByteArray:=⟨1,Aqa,fun x => [.v (.string x)],fun _=>rfl,fun x=>x.size≤9223372036854775807,fun x=>x.size⟩
def wts {α:Type} [Enc α]:List α→Nat
 | []=>0
 |x::xs=>Enc.wt x+wts xs
@[reducible] def els {α:Type} [Enc α] (xs:List α):List (List T):=xs.map Enc.e
instance {α:Type} [Enc α]:Enc (List α):=⟨1,Aqa,fun xs => [.sl (Enc.k α) (els xs)],fun _=>rfl,fun xs=>xs.length≤9223372036854775807∧∀ x∈xs,Enc.gd x,fun xs=>xs.length+wts xs⟩

@[reducible] def sl {α:Type} [Enc α] (xs:List α):T := .sl (Enc.k α) (els xs)
@[reducible] def ac (x:T):V2 := .c (.rd [] x)
@[reducible] def ai (n:Int):V2 := .c (.rd [] (.v (.int .i64 n)))
@[reducible] def astr (s:ByteArray):V2 := .c (.rd [] (.v (.string s)))
@[reducible] def al {α:Type} [Enc α] (xs:List α):V2 := .c (.rd [] (sl xs))
@[reducible] def ag {α:Type} [Enc α] (x:α):V2 := .ag ((Enc.e x).map (V1.rd []))
@[reducible] def L {α:Type} [Enc α] (xs:List α):V := .o (al xs)

class PlainE (α:Type) [Enc α]:Prop where
 plain:∀ (x:α) (t:T),t∈Enc.e x→∃ u,t = .v u
instance:PlainE Int:=⟨fun x t h=>by simp[Enc.e] at h; exact⟨_,h⟩⟩
instance:PlainE Bool:=⟨fun x t h=>by simp[Enc.e] at h; exact⟨_,h⟩⟩
instance:PlainE ByteArray:=⟨fun x t h=>by simp[Enc.e] at h; exact⟨_,h⟩⟩
theorem Yj {α:Type} [Enc α] [PlainE α] (xs:List α):plainT (els xs):=fun e he t ht=>by
 obtain⟨x,_,rfl⟩:=Gqv.1 he
 exact PlainE.plain x t ht
theorem Yh {α:Type} [Enc α] (xs:List α):∀ e∈els xs,e.length=Enc.k α:=fun e he=>by
 obtain⟨x,_,rfl⟩:=Gqv.1 he
 exact Enc.len x
@[reducible] def bs (l:List UInt8):ByteArray:=⟨l.toArray⟩
theorem bs_app (a b:List UInt8):bs a++bs b=bs (a++b):=by
 apply ByteArray.ext
 rw[ByteArray.data_append]
 simp[bs]
theorem Ye (l:List UInt8):(bs l).size=l.length:=by simp[bs,ByteArray.size]
theorem Yf (a b:ByteArray):(a++b).size=a.size+b.size:=by simp[ByteArray.size_append]
theorem bs_list (l:List UInt8):(bs l).data.toList=l:=by simp[bs]
theorem S_eq {a b:ByteArray} (h:a=b):S a=S b:=by rw[h]
theorem bE_app (a b:List UInt8):bE a++bE b=bE (a++b):=by simp[bE]
theorem bE_snoc (a:List UInt8) (n:Int) (h:0≤n∧n≤255):bE a ++ [[.v (.int .u8 n)]]=bE (a ++ [UInt8.ofNat n.toNat]):=by
 have h1:((UInt8.ofNat n.toNat).toNat:Int)=n:=by
  rw[UInt8.toNat_ofNat']
  omega
 unfold bE
 rw[List.map_append,List.map_cons,List.map_nil,h1]

theorem Yg {α:Type} [Enc α] {xs:List α} {k:Nat} (h:k<xs.length):(els xs)[(k:Int).toNat]? = some (Enc.e xs[k]):=by simp[els,h]
theorem Yi {α:Type} [Enc α] (xs:List α):(els xs).length=xs.length:=by simp[els]
theorem Ky {α:Type} [Enc α]:∀ (xs:List α) (k:Nat) (h:k<xs.length),wts (xs.take (k+1))=wts (xs.take k)+Enc.wt xs[k]
 |x::xs,0,_=>by simp[wts]
 |x::xs,k+1,h=>by
  have:=Ky xs k (by simpa using h)
  simp only[List.take_succ_cons,wts,List.getElem_cons_succ,this]
  omega
theorem Kx {α:Type} [Enc α]:∀ (xs:List α) (x:α),x∈xs→Enc.wt x≤wts xs
 |y::xs,x,h=>by
  simp only[wts]
  rcases List.mem_cons.1 h with rfl | h
  ·omega
  ·have:=Kx xs x h; omega
theorem Kz {α:Type} [Enc α]:∀ (xs:List α) (k:Nat),wts (xs.take k)≤wts xs
 | [],k=>by simp[wts]
 |x::xs,0=>by simp[wts]
 |x::xs,k+1=>by
  have:=Kz xs k
  simp only[List.take_succ_cons,wts]
  omega

/-! ### Readings -/
theorem list_of_each {α:Type} {p:Nat→α→Prop}:∀ n:Nat,(∀ i,i<n→∃ y,p i y)→∃ ys:List α,ys.length=n∧∀ (i:Nat) (y:α),ys[i]? = some y→p i y
 |0,_=>⟨[],rfl,fun _ _ h=>by simp at h⟩
 | n+1,h=>by
  obtain⟨ys,h1,h2⟩:=list_of_each n fun i hi=>h i Aqa 
  obtain⟨y,hy⟩:=h n Aqa 
  refine⟨ys ++ [y],by simp[h1],fun i z hz => ?_⟩
  rcases Gqq i ys.length with hi | hi
  ·rw[Gqw hi] at hz
   exact h2 i z hz
  ·rw[Gqy hi] at hz
   have hi0:i-ys.length=0:=by
    rcases Nat.eq_zero_or_pos (i-ys.length) with h0 | h0
    ·exact h0
    ·rw[List.getElem?_eq_none (by simp; omega)] at hz
     cases hz
   rw[hi0] at hz
   simp only[Gxc,Option.some.injEq] at hz
   subst hz
   have:i=n:=Aqa
   subst this
   exact hy

def Reads {α:Type} [Enc α] (w:World) (x:α) (cs:List Value):Prop:=cs.length=Enc.k α∧∀ (j:Nat) (t:T) (u:Value),(Enc.e x)[j]? = some t→cs[j]? = some u→RO w (fun _=>True) t u

class RdOf (P:Program) (t:TypeId) (α:outParam Type) [Enc α]:Prop where
 size:P.cellsOf t=Enc.k α
 of:∀ {H:Type} {enc:TypeId×Value→H} {w:World} {spare:Nat→Bool} {held:Bool} {fuel:Nat} {cs:List Value} {x:DataW H×List MemPlace},
  DataW.trod enc P w 0 spare held fuel t cs=some x→∃ y:α,Enc.gd y∧Reads w y cs

theorem i64_of_wf {n:Int} (h:(Lit.int .i64 n).wf=true):I64 n:=by
 simp[Lit.wf,IntKind.min,IntKind.max,IntKind.signed,IntKind.bits] at h
 exact⟨Aqa,Aqa⟩
theorem reads_one {α:Type} [Enc α] {w:World} {x:α} {t:T} {u:Value} (he:Enc.e x = [t]) (h:RO w (fun _=>True) t u):Reads w x [u]:=by
 refine⟨by rw[←Enc.len x,he]; rfl,fun j t' u' h1 h2 => ?_⟩
 rw[he] at h1
 cases j with
 |zero=>simp at h1 h2; subst h1 h2; exact h
 |succ j=>simp at h1
theorem rdOf_int {P:Program} {t:TypeId} (ht:P.underlying t=some (.int .i64)) (hs:P.cellsOf t=1):RdOf P t Int where
 size:=hs
 of h:=by
  obtain⟨n,rfl,_,h3⟩:=DataW.trod_int ht h
  exact⟨n,i64_of_wf h3,reads_one J (.v _ J)⟩
theorem rdOf_string {P:Program} {t:TypeId} (ht:P.underlying t=some .string) (hs:P.cellsOf t=1):RdOf P t ByteArray where
 size:=hs
 of h:=by
  obtain⟨s,rfl,_,h3⟩:=DataW.trod_string ht h
  exact⟨s,by simpa[maxLen,Enc.gd] using h3,reads_one J (.v _ J)⟩
theorem Kg {P:Program} {t e:TypeId} {α:Type} [Enc α] [hα:RdOf P e α] (ht:P.underlying t=some (.slice e)) (hs:P.cellsOf t=1):RdOf P t (List α) where
 size:=hs
 of {H enc w spare held fuel cs x} h:=by
  rcases open_slice ht h with ⟨rfl,_⟩ | ⟨a,len,cap,m,n,D,Pl,rfl,_,hl,hm,hmm,_,hi⟩
  ·exact⟨[],⟨Aqd,Aqd⟩,reads_one rfl (.nil _ _ _ (by simp[maxLen]))⟩
  ·have hlm:len≤m:=by rw[hmm]; split <;> omega
   obtain⟨ys,h1,h2⟩:=list_of_each (p:=fun i y=>∃ es,w.cells? 0 (a.add (i*P.cellsOf e)) (P.cellsOf e)=some es∧Enc.gd (α:=α) y∧Reads w y es) len fun i hi'=>by
    obtain⟨es,h3,h4⟩:=hi i Aqa 
    obtain⟨y,hy⟩:=hα.of h4
    exact⟨y,es,h3,hy⟩
   subst h1
   refine⟨ys,⟨by simp[maxLen] at hm; omega,fun y hy => ?_⟩,?_⟩
   ·obtain⟨i,hi'⟩:=List.getElem?_of_mem hy
    obtain⟨es,_,hg,_⟩:=h2 i y hi'
    exact hg
   refine reads_one J ?_
   rcases Nat.eq_zero_or_pos ys.length with h0 | h0
   ·have:=List.eq_nil_of_length_eq_zero h0
    subst this
    exact .nil _ _ _ hm
   ·have hsp:a.spot=none:=by
     obtain⟨es,h3,_⟩:=h2 0 _ (Gqf h0)
     obtain⟨_,hcl,hat⟩:=World.cells?_some h3
     have hp:0<P.cellsOf e:=by rw[hα.size]; exact Enc.pos
     have:=hat 0 hp
     rw[Gqf Aqa] at this
     have h5:=World.cell?_spot this
     simpa[Addr.add] using h5
    obtain⟨b,o,sp⟩:=a
    simp only at hsp
    subst hsp
    have hel:∀ i,i<ys.length→∃ es,w.cells? 0 ((⟨b,o,none⟩:Addr).add (i*P.cellsOf e)) (P.cellsOf e)=some es:=fun i hi'=>by
     obtain⟨es,h3,_⟩:=h2 i _ (Gqf hi')
     exact⟨es,h3⟩
    have hlen:ys.length=(els ys).length:=(Yi ys).symm
    rw[hlen]
    refine .sl (els ys) b o (Enc.k α) cap (fun i j=>((w.cells? 0 ((⟨b,o,none⟩:Addr).add (i*P.cellsOf e)) (P.cellsOf e)).getD []).getD j undef) trivial (by rw[Yi]; exact hl) hm Enc.pos (fun e' he => ?_) (fun i j hi' hj => ?_) fun i j e' t' h3 h4 => ?_
    ·obtain⟨y,_,rfl⟩:=Gqv.1 he
     exact Enc.len y
    ·rw[Yi] at hi'
     obtain⟨es,h3⟩:=hel i hi'
     obtain⟨_,hcl,hat⟩:=World.cells?_some h3
     rw[hα.size] at hcl
     have h5:=hat j (by rw[hα.size]; exact hj)
     rw[add_lit,add_lit,hα.size,Gqf Aqa] at h5
     rw[h3]
     simp only[Option.getD_some]
     rw[h5,Gqg,Gqf Aqa]
     rfl
    ·rw[Gqj] at h3
     obtain⟨y,hy,rfl⟩:=Option.map_eq_some_iff.1 h3
     obtain⟨es,h5,_,h6⟩:=h2 i y hy
     have hj:j<es.length:=by rw[h6.1,←Enc.len y]; exact Yu h4
     show RO w _ t' (((w.cells? 0 ((⟨b,o,none⟩:Addr).add (i*P.cellsOf e)) (P.cellsOf e)).getD []).getD j undef)
     rw[h5]
     simp only[Option.getD_some]
     rw[Yt (Gqf hj)]
     exact h6.2 j t' _ h4 (Gqf hj)

theorem reads_of_Trod {P:Program} {t:TypeId} {α:Type} [Enc α] [hα:RdOf P t α] {H:Type} {enc:TypeId×Value→H} {w:World} {spare:Nat→Bool} {held:Bool} {v:Value} {d:DataW H} {p:List MemPlace}
  (h:DataW.Trod enc P w 0 spare held t v d p):∃ y:α,Enc.gd y∧Reads w y v.cells.toList:=by
 obtain⟨fuel,hf⟩:=h
 exact hα.of hf

theorem r2_agg {α:Type} [Enc α] {w:World} {H:Hs} {x:α} {cs:List Value} (h:Reads w x cs):R2 w H (fun b=>b<w.heap.size) (ag x) (.agg cs.toArray):=by
 refine⟨cs,J,by simp[h.1,Enc.len],fun i c u h1 h2 => ?_⟩
 rw[Gqj] at h1
 obtain⟨t,h3,rfl⟩:=Option.map_eq_some_iff.1 h1
 exact RO.weak (h.2 i t u h3 h2) fun b _ hb => .inl hb
theorem r2_int {w:World} {H:Hs} {F:Nat→Prop} (n:Int):R2 w H F (ai n) (.int .i64 n):=RO.v _ rfl
theorem law_calls {P:Program} {f:FuncId} {args:List V2} (hc:Con P f [] args [] (B true)) (w:World) (vs:List Value) (hl:vs.length=args.length) (hr:∀ (i:Nat) (x:V2) (v:Value),args[i]? = some x→vs[i]? = some v→R2 w (fun _ => .nil) (fun b=>b<w.heap.size) x v) :
  Calls P f vs.toArray w fun e w'=>e = .returned (.bool true)∧Below w.heap.size w w':=by
 refine (hc w (fun _ => .nil) (fun b=>b<w.heap.size) vs ⟨fun _=>trivial,fun _=>by simp[Pc.fp],fun p q b h=>by simp[Pc.fp] at h,fun p b h=>by simp[Pc.fp] at h,fun _ h=>h⟩ (fun p=>by simp[RB]) hl hr).mono ?_
 rintro e w' ⟨H',F',rv,rfl,hs,_,_,hv⟩
 refine⟨by rw[(RO.plain (show RO w' _ (.v (.bool true)) rv from hv)).1],hs.os,hs.tape,hs.output,hs.size,fun b hb=>hs.keep b hb fun p=>by simp[Pc.fp]⟩

@[reducible] def Aqf (n:Nat):V := .o (.c (.ptr n 0))
@[reducible] def Aqg (n:Nat):V := .o (.c (.ref n))
@[reducible] def Aqh (n:Int):V1 := .rd [] (.v (.int .i64 n))
@[reducible] def Aqi {α:Type} [Enc α] (x:α):List V1:=(Enc.e x).map (V1.rd [])
@[reducible] def Aqj:V1 := .rd [] (.v (.slice none 0 0))
end
section
open Go.RowKit

theorem Xq {a b:Int} (h:a=b):I a=I b:=by rw[h]
theorem Xi {a b:Bool} (h:a=b):B a=B b:=by rw[h]
def szr (n:Nat) (left:Int):Int:=if left<n then -1 else left-n
theorem Kq {n:Nat} {left:Int} (h:left<n):szr n left = -1:=if_pos h
theorem Kr {n:Nat} {left:Int} (h:(n:Int)≤left):szr n left=left-n:=if_neg Aqa 
theorem wts_int:∀ xs:List Int,wts xs=0
 | []=>rfl
 |x::xs=>by simp[wts,wts_int xs,Enc.wt]
theorem eq_ne {α:Type} [DecidableEq α] {xs ys:List α} {j:Nat} (h1:j<xs.length) (h2:j<ys.length) (h:¬xs[j]=ys[j]):decide (xs=ys)=false:=by
 rw[decide_eq_false_iff_not]
 intro e
 subst e
 exact h J
theorem Yn {α:Type} [DecidableEq α] {xs ys:List α} {j:Nat} (h1:xs.length≤j) (h2:xs.length=ys.length) (h:xs.take j=ys.take j):decide (xs=ys)=true:=by
 rw[Gqh h1,Gqh Aqa] at h
 simp[h]
theorem Yo {α:Type} [DecidableEq α] {xs ys:List α} (h:xs.length≠ys.length):decide (xs=ys)=false:=by
 rw[decide_eq_false_iff_not]
 intro e
 subst e
 exact h J
theorem Yp {α:Type} {xs ys:List α} {j:Nat} (h1:j<xs.length) (h2:j<ys.length) (h:xs.take j=ys.take j) (e:xs[j]=ys[j]):xs.take (j+1)=ys.take (j+1):=by
 rw[Gxk h1,Gxk h2,h,e]

/-! ### Counting -/
theorem sz_IntS (xs:List Int) (left:Int) (hg:Enc.gd xs) (h0:0≤left) (h1:left≤1048576):Con Tryz.prog 111 [] [al xs,ai left] [] (I (szr (Enc.wt xs) left)):=by
 have hlen:=Yi xs
 have hx:=hg.1
 have hw:Enc.wt xs=xs.length:=by simp[Enc.wt,wts_int]
 refine Con.of Tryz.func111 J Tryz.ntmps111 J (fun E => ?_)
 refine Wz [12,9,14,84,73,38] ?_
 refine Xb J (fun h => ?_) (fun h => ?_)
 ·refine Wz [39] ?_
  have h2:=Gqc (p:=_) (by simpa using h)
  exact Xl J J (X1 [] Aqc J J (Xq (by rw[Kq Aqa])))
 ·refine Wz [15,10,2] ?_
  refine Wz [49] ?_
  have h2:=Gqd h
  exact Xl J J (X1 [] Aqc J J (Xq (by rw[Kr Aqa]; omega)))
theorem sz_StringS (xs:List ByteArray) (left:Int) (hg:Enc.gd xs) (h0:0≤left) (h1:left≤1048576):Con Tryz.prog 110 [] [al xs,ai left] [] (I (szr (Enc.wt xs) left)):=by
 have hlen:=Yi xs
 have hx:=hg.1
 have hw:Enc.wt xs=xs.length+wts xs:=rfl
 refine Con.of Tryz.func110 J Tryz.ntmps110 J (fun E => ?_)
 refine Wz [12,9,14,84,73,38] ?_
 refine Xb J (fun h => ?_) (fun h => ?_)
 ·refine Wz [39] ?_
  have h2:=Gqc h
  exact Xl J J (X1 [] Aqc J J (Xq (by rw[Kq Aqa])))
 have h2:¬(left-((els xs).length:Int)<0):=Gqd h
 refine Wz [15,11] ?_
 refine Xh (fun m st=>∃ k:Nat,k+m=xs.length∧(((xs.length:Int)+wts (xs.take k)≤left))∧st=(⟨_,[(0,L xs),(1,I (left-(xs.length+wts (xs.take k)))),(5,I k)],[]⟩:St)) (xs.length) ⟨(fun k:Nat=>(⟨_,[(0,L xs),(1,I (left-(xs.length+wts (xs.take k)))),(5,I k)],[]⟩:St)) 0,⟨0,Aqa,by simp[wts]; omega,J⟩,X4 [] Aqc J Aqb (.c J (.cons (Xq (by simp[els,wts])) (.c J (.nil))))⟩ ?_
 rintro m_A _ ⟨k,hk_A,hp_A,rfl⟩
 refine Wz [59] ?_
 refine Xb J (fun h => ?_) (fun h => ?_)
 ·have h3:k<xs.length:=by have:=Gqc h; omega
  have hat:=Yg h3
  have hstep:=Ky xs k h3
  have hle:=Kz xs (k+1)
  have hws:Enc.wt xs[k]=xs[k].size:=rfl
  have hgd:xs[k].size≤9223372036854775807:=hg.2 _ (Gqe h3)
  by_cases h4:left-((xs.length:Int)+wts (xs.take k))-xs[k].size<0
  ·have hb:decide (left-((xs.length:Int)+wts (xs.take k))-xs[k].size<0)=true:=Gqb h4
   refine Wz [7,169,80,116,84,40,177,54] ?_
   exact Xl J J (X1 [] Aqc J J (Xq (by rw[Kq Aqa])))
  ·have hb:decide (left-((xs.length:Int)+wts (xs.take k))-xs[k].size<0)=false:=Gqa h4
   refine Wz [7,169,80,116,84,40,44,62] ?_
   exact⟨xs.length-(k+1),Aqa,(fun k:Nat=>(⟨_,[(0,L xs),(1,I (left-(xs.length+wts (xs.take k)))),(5,I k)],[]⟩:St)) (k+1),⟨k+1,Aqa,Aqa,J⟩,X4 [] Aqc J Aqb (.c J (.cons (Xq (by rw[hstep]; omega)) (.c J (.nil))))⟩
 ·have h3:¬((k:Int)<(els xs).length):=Gqd h
  have hk:wts (xs.take k)=wts xs:=by rw[Gqh Aqa]
  refine Wz [31] ?_
  exact Xl J J (X1 [] Aqc J J (Xq (by rw[Kr Aqa]; omega)))
theorem sz_IntSS (xs:List (List Int)) (left:Int) (hg:Enc.gd xs) (h0:0≤left) (h1:left≤1048576):Con Tryz.prog 37 [] [al xs,ai left] [] (I (szr (Enc.wt xs) left)):=by
 have hlen:=Yi xs
 have hx:=hg.1
 have hw:Enc.wt xs=xs.length+wts xs:=rfl
 refine Con.of Tryz.func37 J Tryz.ntmps37 J (fun E => ?_)
 refine Wz [12,9,14,84,73,38] ?_
 refine Xb J (fun h => ?_) (fun h => ?_)
 ·refine Wz [39] ?_
  have h2:=Gqc h
  exact Xl J J (X1 [] Aqc J J (Xq (by rw[Kq Aqa])))
 have h2:¬(left-((els xs).length:Int)<0):=Gqd h
 refine Wz [15,11] ?_
 refine Xh (fun m st=>∃ k:Nat,k+m=xs.length∧(((xs.length:Int)+wts (xs.take k)≤left))∧st=(⟨_,[(0,L xs),(1,I (left-(xs.length+wts (xs.take k)))),(5,I k)],[]⟩:St)) (xs.length) ⟨(fun k:Nat=>(⟨_,[(0,L xs),(1,I (left-(xs.length+wts (xs.take k)))),(5,I k)],[]⟩:St)) 0,⟨0,Aqa,by simp[wts]; omega,J⟩,X4 [] Aqc J Aqb (.c J (.cons (Xq (by simp[els,wts])) (.c J (.nil))))⟩ ?_
 rintro m_A _ ⟨k,hk_A,hp_A,rfl⟩
 refine Wz [59] ?_
 refine Xb J (fun h => ?_) (fun h => ?_)
 ·have h3:k<xs.length:=by have:=Gqc h; omega
  have hat:=Yg h3
  have hstep:=Ky xs k h3
  have hle:=Kz xs (k+1)
  have hc:=sz_IntS xs[k] (left-((xs.length:Int)+wts (xs.take k))) (hg.2 _ (Gqe h3)) Aqa Aqa 
  by_cases h4:left-((xs.length:Int)+wts (xs.take k))<Enc.wt xs[k]
  ·rw[Kq h4] at hc
   have hb:decide ((-1:Int)<0)=true:=rfl
   refine Wz [7,9,133,114] ?_;refine zx (Qj J J (hc) J) J ?_;refine Wz [40,177,54] ?_
   exact Xl J J (X1 [] Aqc J J (Xq (by rw[Kq Aqa])))
  ·rw[Kr Aqa] at hc
   have hb:decide (left-((xs.length:Int)+wts (xs.take k))-Enc.wt xs[k]<0)=false:=Gqa Aqa 
   refine Wz [7,9,133,114] ?_;refine zx (Qj J J (hc) J) J ?_;refine Wz [40,44,62] ?_
   exact⟨xs.length-(k+1),Aqa,(fun k:Nat=>(⟨_,[(0,L xs),(1,I (left-(xs.length+wts (xs.take k)))),(5,I k)],[]⟩:St)) (k+1),⟨k+1,Aqa,Aqa,J⟩,X4 [] Aqc J Aqb (.c J (.cons (Xq (by rw[hstep]; omega)) (.c J (.nil))))⟩
 ·have h3:¬((k:Int)<(els xs).length):=Gqd h
  have hk:wts (xs.take k)=wts xs:=by rw[Gqh Aqa]
  refine Wz [31] ?_
  exact Xl J J (X1 [] Aqc J J (Xq (by rw[Kr Aqa]; omega)))

/-! ### Copying -/
def part {α:Type} [Enc α] (xs:List α) (z:List T) (k:Nat):List (List T):=els (xs.take k)++List.replicate (xs.length-k) z
theorem Zi {α:Type} [Enc α] (xs:List α) (z:List T) {k:Nat} (h:k≤xs.length):(part xs z k).length=xs.length:=by simp[part,els]; omega
theorem Zk {α:Type} [Enc α] (xs:List α) (z:List T):part xs z 0=List.replicate (((els xs).length:Int)).toNat z:=by simp[part,els]
theorem Zg {α:Type} [Enc α] (xs:List α) (z:List T) {k:Nat} (h:xs.length≤k):part xs z k=els xs:=by
 unfold part
 rw[Gqh h,show xs.length-k=0 by omega]
 simp
theorem Zh {α:Type} [Enc α] (xs:List α) (z:List T) {k:Nat} (h:k<xs.length):(part xs z k)[(k:Int).toNat]? = some z:=by
 have h1:(els (xs.take k)).length=k:=by simp[els]; omega
 unfold part
 rw[Int.toNat_natCast,Gqy Aqa,h1,Nat.sub_self,List.getElem?_replicate,if_pos Aqa]
theorem Zj {α:Type} [Enc α] (xs:List α) (z:List T) {k:Nat} (h:k<xs.length) (ts:List T) (ht:ts=Enc.e xs[k]) (hz:z.length=ts.length):(part xs z k).set (k:Int).toNat (splice z 0 ts)=part xs z (k+1):=by
 have h1:(els (xs.take k)).length=k:=by simp[els]; omega
 have h2:splice z 0 ts=ts:=by simp[splice,hz]
 subst ht
 unfold part
 rw[h2,Int.toNat_natCast,List.set_append_right _ _ Aqa,h1,Nat.sub_self,show xs.length-k=(xs.length-(k+1))+1 by omega,List.replicate_succ,List.set_cons_zero]
 have h3:els (xs.take (k+1))=els (xs.take k) ++ [Enc.e xs[k]]:=by
  rw[Gxk h]
  simp only[els,List.map_append,List.map_cons,List.map_nil]
 rw[h3,Gq5]
 rfl
theorem Kj {k:Nat} {a b:List (List T)} (h:a=b) : [Ob.row k a] = [Ob.row k b]:=by rw[h]

theorem to_IntS (xs:List Int) (hg:Enc.wt xs≤1048576):Con Tryz.prog 126 [] [al xs] [.row (Enc.k Int) (els xs)] (Aqg 0):=by
 have hlen:=Yi xs
 have hw:Enc.wt xs=xs.length+wts xs:=rfl
 refine Con.of Tryz.func126 J Tryz.ntmps126 J (fun E => ?_)
 refine Wz [12,10,14,214,2,11] ?_;refine Xh (fun m st=>∃ k:Nat,k+m=xs.length∧(True)∧st=(⟨_,[(0,L xs),(3,Aqg 0),(4,I k)],[.row 1 (part xs [(.v (.int .i64 0))] k)]⟩:St)) (xs.length) ⟨(fun k:Nat=>(⟨_,[(0,L xs),(3,Aqg 0),(4,I k)],[.row 1 (part xs [(.v (.int .i64 0))] k)]⟩:St)) 0,⟨0,Aqa,trivial,J⟩,X4 [0] Aqc J (Kj (Zk xs _)) (.c J (.c J (.c J (.nil))))⟩ ?_
 rintro m_A _ ⟨k,hk_A,hp_A,rfl⟩
 refine Wz [59] ?_
 refine Xb J (fun h => ?_) (fun h => ?_)
 ·have h3:k<xs.length:=by have:=Gqc h; omega
  have hat:=Yg h3
  have hz:=Zh xs [(.v (.int .i64 0))] h3
  have hpl:(k:Int)<(part xs [(.v (.int .i64 0))] k).length:=by rw[Zi xs _ Aqa]; omega
  have hwt:Enc.wt xs[k]≤wts xs:=Kx xs _ (Gqe h3)
  refine Wz [7,63,127,80,163,204,99] ?_
  exact⟨xs.length-(k+1),Aqa,(fun k:Nat=>(⟨_,[(0,L xs),(3,Aqg 0),(4,I k)],[.row 1 (part xs [(.v (.int .i64 0))] k)]⟩:St)) (k+1),⟨k+1,Aqa,trivial,J⟩,X4 [0] Aqc J (Kj (Zj xs [(.v (.int .i64 0))] h3 _ (by rfl) (by rfl)).symm) (.c J (.c J (.c J (.nil))))⟩
 ·have h3:¬((k:Int)<(els xs).length):=Gqd h
  refine Wz [31] ?_
  exact Xl J J (X1 [0] Aqc J (Kj (Zg xs _ Aqa).symm) J)
theorem to_StringS (xs:List ByteArray) (hg:Enc.wt xs≤1048576):Con Tryz.prog 125 [] [al xs] [.row (Enc.k ByteArray) (els xs)] (Aqg 0):=by
 have hlen:=Yi xs
 have hw:Enc.wt xs=xs.length+wts xs:=rfl
 refine Con.of Tryz.func125 J Tryz.ntmps125 J (fun E => ?_)
 refine Wz [12,10,14,214,2,11] ?_;refine Xh (fun m st=>∃ k:Nat,k+m=xs.length∧(True)∧st=(⟨_,[(0,L xs),(3,Aqg 0),(4,I k)],[.row 1 (part xs [(.v (.string ⟨#[]⟩))] k)]⟩:St)) (xs.length) ⟨(fun k:Nat=>(⟨_,[(0,L xs),(3,Aqg 0),(4,I k)],[.row 1 (part xs [(.v (.string ⟨#[]⟩))] k)]⟩:St)) 0,⟨0,Aqa,trivial,J⟩,X4 [0] Aqc J (Kj (Zk xs _)) (.c J (.c J (.c J (.nil))))⟩ ?_
 rintro m_A _ ⟨k,hk_A,hp_A,rfl⟩
 refine Wz [59] ?_
 refine Xb J (fun h => ?_) (fun h => ?_)
 ·have h3:k<xs.length:=by have:=Gqc h; omega
  have hat:=Yg h3
  have hz:=Zh xs [(.v (.string ⟨#[]⟩))] h3
  have hpl:(k:Int)<(part xs [(.v (.string ⟨#[]⟩))] k).length:=by rw[Zi xs _ Aqa]; omega
  have hwt:Enc.wt xs[k]≤wts xs:=Kx xs _ (Gqe h3)
  refine Wz [7,63,127,80,163,204,99] ?_
  exact⟨xs.length-(k+1),Aqa,(fun k:Nat=>(⟨_,[(0,L xs),(3,Aqg 0),(4,I k)],[.row 1 (part xs [(.v (.string ⟨#[]⟩))] k)]⟩:St)) (k+1),⟨k+1,Aqa,trivial,J⟩,X4 [0] Aqc J (Kj (Zj xs [(.v (.string ⟨#[]⟩))] h3 _ (by rfl) (by rfl)).symm) (.c J (.c J (.c J (.nil))))⟩
 ·have h3:¬((k:Int)<(els xs).length):=Gqd h
  refine Wz [31] ?_
  exact Xl J J (X1 [0] Aqc J (Kj (Zg xs _ Aqa).symm) J)
theorem to_IntSS (xs:List (List Int)) (hg:Enc.wt xs≤1048576):Con Tryz.prog 48 [] [al xs] [.row (Enc.k (List Int)) (els xs)] (Aqg 0):=by
 have hlen:=Yi xs
 have hw:Enc.wt xs=xs.length+wts xs:=rfl
 refine Con.of Tryz.func48 J Tryz.ntmps48 J (fun E => ?_)
 refine Wz [12,10,14,229,2,11] ?_;refine Xh (fun m st=>∃ k:Nat,k+m=xs.length∧(True)∧st=(⟨_,[(0,L xs),(3,Aqg 0),(4,I k)],[.row 1 (part xs [(.sl 1 [])] k)]⟩:St)) (xs.length) ⟨(fun k:Nat=>(⟨_,[(0,L xs),(3,Aqg 0),(4,I k)],[.row 1 (part xs [(.sl 1 [])] k)]⟩:St)) 0,⟨0,Aqa,trivial,J⟩,X4 [0] Aqc J (Kj (Zk xs _)) (.c J (.c J (.c J (.nil))))⟩ ?_
 rintro m_A _ ⟨k,hk_A,hp_A,rfl⟩
 refine Wz [59] ?_
 refine Xb J (fun h => ?_) (fun h => ?_)
 ·have h3:k<xs.length:=by have:=Gqc h; omega
  have hat:=Yg h3
  have hz:=Zh xs [(.sl 1 [])] h3
  have hpl:(k:Int)<(part xs [(.sl 1 [])] k).length:=by rw[Zi xs _ Aqa]; omega
  have hwt:Enc.wt xs[k]≤wts xs:=Kx xs _ (Gqe h3)
  refine Wz [7,63,127,80] ?_;refine M1 (Zs J J (to_IntS _ Aqa) J J J) J J ?_;refine Wz [163,204,99] ?_
  exact⟨xs.length-(k+1),Aqa,(fun k:Nat=>(⟨_,[(0,L xs),(3,Aqg 0),(4,I k)],[.row 1 (part xs [(.sl 1 [])] k)]⟩:St)) (k+1),⟨k+1,Aqa,trivial,J⟩,X4 [0] Aqc J (Kj (Zj xs [(.sl 1 [])] h3 _ (by rfl) (by rfl)).symm) (.c J (.c J (.c J (.nil))))⟩
 ·have h3:¬((k:Int)<(els xs).length):=Gqd h
  refine Wz [31] ?_
  exact Xl J J (X1 [0] Aqc J (Kj (Zg xs _ Aqa).symm) J)

/-! ### Comparing -/
theorem eq_IntS (xs ys:List Int) (hn:Enc.gd xs):Con Tryz.prog 144 [] [al xs,al ys] [] (B (decide (xs=ys))):=by
 have hn1:=hn.1
 have hlx:=Yi xs
 have hly:=Yi ys
 by_cases hl:xs.length=ys.length
 ·have hb:decide (((els xs).length:Int)≠((els ys).length:Int))=false:=by rw[hlx,hly,hl]; simp
  refine Con.of Tryz.func144 J Tryz.ntmps144 J (fun E => ?_)
  refine Wz [105,14,118,33,11] ?_;refine Xh (fun m st=>∃ k:Nat,k+m=xs.length∧(xs.take k=ys.take k)∧st=(⟨_,[(0,L xs),(1,L ys),(5,I k)],[]⟩:St)) (xs.length) ⟨_,⟨0,Aqa,Aqd,J⟩,X3 [] Aqb⟩ ?_
  rintro m_A _ ⟨k,hk_A,hp_A,rfl⟩
  refine Wz [59] ?_
  refine Xb J (fun h => ?_) (fun h => ?_)
  ·have h3:k<xs.length:=by have:=Gqc h; omega
   have h4:k<ys.length:=Aqa
   have hat:=Yg h3
   have hat2:=Yg h4
   by_cases he:xs[k]=ys[k]
   ·have hk:decide (xs[k]≠ys[k])=false:=by simp[he]
    refine Wz [88,240,120,29,120,29] ?_;refine DR.s (Qw J J J J Aqe) J J ?_;refine Wz [13,81,62] ?_
    exact⟨xs.length-(k+1),Aqa,_,⟨k+1,Aqa,Yp h3 h4 hp_A he,J⟩,X3 [] Aqb⟩
   ·have hk:decide (xs[k]≠ys[k])=true:=by simp[he]
    refine Wz [88,240,120,29,120,29] ?_;refine DR.s (Qw J J J J Aqe) J J ?_;refine Wz [13,24,54] ?_
    exact Xl J J (X1 [] Aqc J J (Xi (eq_ne h3 h4 he).symm))
  ·have h3:¬((k:Int)<(els xs).length):=Gqd h
   refine Wz [20,67] ?_
   exact Xl J J (X1 [] Aqc J J (Xi (Yn Aqa hl hp_A).symm))
 ·have hb:decide (((els xs).length:Int)≠((els ys).length:Int))=true:=by rw[hlx,hly]; simp; omega
  refine Con.of Tryz.func144 J Tryz.ntmps144 J (fun E => ?_)
  refine Wz [105,14,41] ?_
  exact Xl J J (X1 [] Aqc J J (Xi (Yo hl).symm))
theorem eq_StringS (xs ys:List ByteArray) (hn:Enc.gd xs):Con Tryz.prog 143 [] [al xs,al ys] [] (B (decide (xs=ys))):=by
 have hn1:=hn.1
 have hlx:=Yi xs
 have hly:=Yi ys
 by_cases hl:xs.length=ys.length
 ·have hb:decide (((els xs).length:Int)≠((els ys).length:Int))=false:=by rw[hlx,hly,hl]; simp
  refine Con.of Tryz.func143 J Tryz.ntmps143 J (fun E => ?_)
  refine Wz [105,14,118,33,11] ?_;refine Xh (fun m st=>∃ k:Nat,k+m=xs.length∧(xs.take k=ys.take k)∧st=(⟨_,[(0,L xs),(1,L ys),(5,I k)],[]⟩:St)) (xs.length) ⟨_,⟨0,Aqa,Aqd,J⟩,X3 [] Aqb⟩ ?_
  rintro m_A _ ⟨k,hk_A,hp_A,rfl⟩
  refine Wz [59] ?_
  refine Xb J (fun h => ?_) (fun h => ?_)
  ·have h3:k<xs.length:=by have:=Gqc h; omega
   have h4:k<ys.length:=Aqa
   have hat:=Yg h3
   have hat2:=Yg h4
   by_cases he:xs[k]=ys[k]
   ·have hk:decide (xs[k]≠ys[k])=false:=by simp[he]
    refine Wz [88,240,120,29,120,29,187,13,81,62] ?_
    exact⟨xs.length-(k+1),Aqa,_,⟨k+1,Aqa,Yp h3 h4 hp_A he,J⟩,X3 [] Aqb⟩
   ·have hk:decide (xs[k]≠ys[k])=true:=by simp[he]
    refine Wz [88,240,120,29,120,29,187,13,24,54] ?_
    exact Xl J J (X1 [] Aqc J J (Xi (eq_ne h3 h4 he).symm))
  ·have h3:¬((k:Int)<(els xs).length):=Gqd h
   refine Wz [20,67] ?_
   exact Xl J J (X1 [] Aqc J J (Xi (Yn Aqa hl hp_A).symm))
 ·have hb:decide (((els xs).length:Int)≠((els ys).length:Int))=true:=by rw[hlx,hly]; simp; omega
  refine Con.of Tryz.func143 J Tryz.ntmps143 J (fun E => ?_)
  refine Wz [105,14,41] ?_
  exact Xl J J (X1 [] Aqc J J (Xi (Yo hl).symm))
theorem eq_IntSS (xs ys:List (List Int)) (hn:Enc.gd xs):Con Tryz.prog 60 [] [al xs,al ys] [] (B (decide (xs=ys))):=by
 have hn1:=hn.1
 have hlx:=Yi xs
 have hly:=Yi ys
 by_cases hl:xs.length=ys.length
 ·have hb:decide (((els xs).length:Int)≠((els ys).length:Int))=false:=by rw[hlx,hly,hl]; simp
  refine Con.of Tryz.func60 J Tryz.ntmps60 J (fun E => ?_)
  refine Wz [105,14,118,33,11] ?_;refine Xh (fun m st=>∃ k:Nat,k+m=xs.length∧(xs.take k=ys.take k)∧st=(⟨_,[(0,L xs),(1,L ys),(5,I k)],[]⟩:St)) (xs.length) ⟨_,⟨0,Aqa,Aqd,J⟩,X3 [] Aqb⟩ ?_
  rintro m_A _ ⟨k,hk_A,hp_A,rfl⟩
  refine Wz [59] ?_
  refine Xb J (fun h => ?_) (fun h => ?_)
  ·have h3:k<xs.length:=by have:=Gqc h; omega
   have h4:k<ys.length:=Aqa
   have hat:=Yg h3
   have hat2:=Yg h4
   by_cases he:xs[k]=ys[k]
   ·have hc:=eq_IntS xs[k] ys[k] (hn.2 _ (Gqe h3))
    rw[Gqb he] at hc
    refine Wz [88,128,120,29,120,29] ?_;refine DR.s (Qj J J (hc) J) J J ?_;refine Wz [74,13,81,62] ?_
    exact⟨xs.length-(k+1),Aqa,_,⟨k+1,Aqa,Yp h3 h4 hp_A he,J⟩,X3 [] Aqb⟩
   ·have hc:=eq_IntS xs[k] ys[k] (hn.2 _ (Gqe h3))
    rw[Gqa he] at hc
    refine Wz [88,128,120,29,120,29] ?_;refine DR.s (Qj J J (hc) J) J J ?_;refine Wz [74,13,24,54] ?_
    exact Xl J J (X1 [] Aqc J J (Xi (eq_ne h3 h4 he).symm))
  ·have h3:¬((k:Int)<(els xs).length):=Gqd h
   refine Wz [20,67] ?_
   exact Xl J J (X1 [] Aqc J J (Xi (Yn Aqa hl hp_A).symm))
 ·have hb:decide (((els xs).length:Int)≠((els ys).length:Int))=true:=by rw[hlx,hly]; simp; omega
  refine Con.of Tryz.func60 J Tryz.ntmps60 J (fun E => ?_)
  refine Wz [105,14,41] ?_
  exact Xl J J (X1 [] Aqc J J (Xi (Yo hl).symm))
end
section
open Go.RowKit

def ownO:List T→List Ob
 | [] => []
 | .v _::ts=>ownO ts
 | .sl k es::ts => .row k es::ownO ts
 | .un::ts=>ownO ts
def ownV:Nat→List T→List V1
 |_,[] => []
 |n,.v x::ts => .rd [] (.v x)::ownV n ts
 |n,.sl _ _::ts => .ref n::ownV (n+1) ts
 |n,.un::ts => .un::ownV n ts

structure TLevel where
 Rows:(List ByteArray)
 deriving DecidableEq
instance:Enc TLevel:=⟨1,Aqa,fun x => [sl x.Rows],fun _=>rfl,fun x=>Enc.gd x.Rows,fun x=>Enc.wt x.Rows⟩
theorem TLevel.same {x y:TLevel} (h0:x.Rows=y.Rows):x=y:=by cases x; cases y; simp_all
structure TReplay where
 Level:TLevel
 Players:Int
 Seed:Int
 Every:Int
 Rows:(List (List Int))
 Keys:(List ByteArray)
 deriving DecidableEq
instance:Enc TReplay:=⟨6,Aqa,fun x => [sl x.Level.Rows,.v (.int .i64 x.Players),.v (.int .i64 x.Seed),.v (.int .i64 x.Every),sl x.Rows,sl x.Keys],fun _=>rfl,fun x=>Enc.gd x.Level∧Enc.gd x.Players∧Enc.gd x.Seed∧Enc.gd x.Every∧Enc.gd x.Rows∧Enc.gd x.Keys,fun x=>Enc.wt x.Level+Enc.wt x.Rows+Enc.wt x.Keys⟩
theorem TReplay.same {x y:TReplay} (h0:x.Level=y.Level) (h1:x.Players=y.Players) (h2:x.Seed=y.Seed) (h3:x.Every=y.Every) (h4:x.Rows=y.Rows) (h5:x.Keys=y.Keys):x=y:=by cases x; cases y; simp_all

theorem sz_Level (x:TLevel) (left:Int) (hg:Enc.gd x) (h0:0≤left) (h1:left≤1048576):Con Tryz.prog 36 [] [ag x,ai left] [] (I (szr (Enc.wt x) left)):=by
 have g_Rows:Enc.gd x.Rows:=hg
 have hw:Enc.wt x=Enc.wt x.Rows:=rfl
 have hm1:decide ((-1:Int)<0)=true:=rfl
 have hc_Rows:=sz_StringS x.Rows (left) g_Rows Aqa Aqa 
 by_cases n_Rows:left<Enc.wt x.Rows
 ·rw[Kq n_Rows] at hc_Rows
  refine Con.of Tryz.func36 J Tryz.ntmps36 J (fun E => ?_)
  refine Wz [21,75] ?_;refine zx (Qj J J (hc_Rows) J) J ?_;refine Wz [119,26] ?_
  exact Xl J J (X1 [] Aqc J J (Xq (by rw[Kq Aqa])))
 rw[Kr Aqa] at hc_Rows
 have hb_Rows:decide (left-Enc.wt x.Rows<0)=false:=Gqa Aqa 
 refine Con.of Tryz.func36 J Tryz.ntmps36 J (fun E => ?_)
 refine Wz [21,75] ?_;refine zx (Qj J J (hc_Rows) J) J ?_;refine Wz [83,164] ?_
 exact Xl J J (X1 [] Aqc J J (Xq (by rw[Kr Aqa]; omega)))
theorem to_Level (x:TLevel) (hg:Enc.wt x≤1048576):Con Tryz.prog 47 [] [ag x] (ownO (Enc.e x)) (.o (.ag (ownV 0 (Enc.e x)))):=by
 have hw:Enc.wt x=Enc.wt x.Rows:=rfl
 refine Con.of Tryz.func47 J Tryz.ntmps47 J (fun E => ?_)
 refine Wz [76,52,3,52,23] ?_;refine M1 (Zs J J (to_StringS x.Rows Aqa) J J J) J J ?_;refine Wz [30,100,49] ?_
 exact Xk J J J J (X1 [3] Aqc J J J)
theorem eq_Level (x y:TLevel) (hg:Enc.gd x):Con Tryz.prog 59 [] [ag x,ag y] [] (B (decide (x=y))):=by
 have g_Rows:Enc.gd x.Rows:=hg
 by_cases e_Rows:¬x.Rows=y.Rows
 ·have hc:=eq_StringS x.Rows y.Rows g_Rows
  rw[Gqa e_Rows] at hc
  refine Con.of Tryz.func59 J Tryz.ntmps59 J (fun E => ?_)
  refine Wz [42] ?_;refine zx (Qj J J (hc) J) J ?_;refine Wz [5,26] ?_
  exact Xl J J (X1 [] Aqc J J (Xi (Gqa fun e=>e_Rows (by rw[e])).symm))
 have e_Rows:=Classical.not_not.1 e_Rows
 have hc_Rows:=eq_StringS x.Rows y.Rows g_Rows
 rw[Gqb e_Rows] at hc_Rows
 refine Con.of Tryz.func59 J Tryz.ntmps59 J (fun E => ?_)
 refine Wz [42] ?_;refine zx (Qj J J (hc_Rows) J) J ?_;refine Wz [64,67] ?_
 exact Xl J J (X1 [] Aqc J J (Xi (Gqb (TLevel.same e_Rows)).symm))
end
section
open Go.RowKit

def dig:Nat→Int→List UInt8→List UInt8
 |0,_,out=>out
 |n+1,k,out=>if 0<k then dig n (k/10) ([UInt8.ofNat (48+k%10).toNat]++out) else out
def mtext (k:Int):ByteArray:=bs (if k≤0 then [109,48] else 109::dig 19 k [])
theorem dig_end {n:Nat} {k:Int} {out:List UInt8} (h:¬0<k):dig n k out=out:=by
 cases n with
 |zero=>rfl
 |succ n=>rw[dig,if_neg h]
theorem Xt (k:Int) (hk:k≤1099511627776):Con Tryz.prog 248 [] [ai k] [] (S (mtext k)):=by
 refine Con.of Tryz.func248 J Tryz.ntmps248 J (fun E => ?_)
 refine Wz [125,193,6] ?_
 refine Xb J (fun h => ?_) (fun h => ?_)
 ·have h:=Gqc h
  refine Wz [39] ?_
  exact Xl J J (X1 [] Aqc J J (S_eq (by rw[mtext,if_pos h])))
 have h:=Gqd h
 rw[mtext,if_neg h]
 refine Wz [15,12,205] ?_;refine Xh (fun m__ st=>∃ (j:Int) (out:List UInt8),j.toNat=m__∧(∃ n,0≤j∧j≤1099511627776∧j<10 ^ n∧out.length+n=19∧dig n j out=dig 19 k [])∧st=(⟨_,[(0,I j),(3,S (bs out))],[]⟩:St)) _ ⟨_,⟨k,[],J,⟨19,Aqa,hk,Aqa,J,J⟩,J⟩,X3 [] Aqb⟩ ?_
 rintro m_A _ ⟨j,out,hk_A,hp_A,rfl⟩
 obtain⟨n,a0,a1,a2,a3,a4⟩:=hp_A
 refine Wz [56,206,6] ?_
 refine Xb J (fun h => ?_) (fun h => ?_)
 ·have h:=Gqc h
  have hl:=Ye out
  refine Wz [15,178,10,170,18,174,138,266,0] ?_
  refine M0 (q_cat J J J J (by simp only[Ye,Yf,Gq3,List.length_nil,Gqp]; omega)) J J ?_
  refine Wz [2,94,171,32,85,50] ?_
  obtain⟨n,rfl⟩:∃ n',n=n'+1:=⟨n-1,by have:n≠0:=fun e=>by { subst e; simp at a2; omega }; omega⟩
  rw[dig,if_pos h] at a4
  rw[Int.pow_succ] at a2
  refine⟨_, Aqa,(fun (j:Int) (out:List UInt8)=>(⟨_,[(0,I j),(3,S (bs out))],[]⟩:St)) (j/10) ([UInt8.ofNat (48+j%10).toNat]++out),⟨j/10,[UInt8.ofNat (48+j%10).toNat]++out,J,⟨n,Aqa,Aqa,Aqa,by simp only[Gqp,Gq3,List.length_nil]; omega,a4⟩,J⟩,X4 [] Aqc J Aqb (.c J (.cons (S_eq (bs_app [_] _)) (.nil)))⟩
 ·have h:=Gqd h
  have hl:=Ye out
  rw[dig_end h] at a4
  refine Wz [20,10] ?_
  refine M0 (q_cat J J J J (by simp only[Ye,Yf,Gq3,List.length_nil,Gqp]; omega)) J J ?_
  refine Wz [53] ?_
  exact Xl J J (X1 [] Aqc J J (S_eq (by rw[←a4]; exact bs_app [_] _)))

theorem row2 {k:Nat} {a b:List (List T)} {g:Ob} (h:a=b) : [Ob.row k a,g] = [Ob.row k b,g]:=by rw[h]
theorem els_set {α:Type} [Enc α] (xs:List α) (i:Nat) (x:α):els (xs.set i x)=(els xs).set i (Enc.e x):=by simp[els,List.map_set]
end
section
open Go.RowKit

theorem flat_one {fps:List (List (List Nat))} {i j:Nat} {G:List (List Nat)} {f:List Nat} (hi:fps[i]? = some G) (hj:G[j]? = some f):∃ X Z:List Nat,fps.flatten.flatten=X++f++Z∧∀ f':List Nat,(fps.set i (splice G j [f'])).flatten.flatten=X++f'++Z:=by
 obtain⟨hlt,he⟩:=Gqo.1 hi
 obtain⟨hlj,hf⟩:=Gqo.1 hj
 refine⟨(fps.take i).flatten.flatten++(G.take j).flatten,(G.drop (j+1)).flatten++(fps.drop (i+1)).flatten.flatten,?_,fun f' => ?_⟩
 ·conv=>lhs; rw[←Gxg i fps,Gxm hlt,he]
  have hG:G.flatten=(G.take j).flatten++f++(G.drop (j+1)).flatten:=by
   conv=>lhs; rw[←Gxg j G,Gxm hlj,hf]
   simp[Gq5]
  rw[Gqt,List.flatten_cons,Gqt,Gqt,hG]
  simp[Gq5]
 ·rw[List.set_eq_take_append_cons_drop,if_pos hlt]
  rw[Gqt,List.flatten_cons,Gqt,Gqt,splice,Gqt,Gqt]
  simp[Gq5]

theorem sep_list {l:List (List Nat)} (hn:l.flatten.Nodup) {i j:Nat} {f g:List Nat} (hi:l[i]? = some f) (hj:l[j]? = some g) (hij:i≠j) {x:Nat} (hx:x∈f) (hy:x∈g):False:=by
 obtain⟨hp,hq⟩:=List.pairwise_flatten.1 hn
 obtain⟨h1,rfl⟩:=Gqo.1 hi
 obtain⟨h2,rfl⟩:=Gqo.1 hj
 rcases Nat.lt_or_gt_of_ne hij with h | h
 ·exact (List.pairwise_iff_getElem.1 hq i j h1 h2 h) x hx x hy rfl
 ·exact (List.pairwise_iff_getElem.1 hq j i h2 h1 h) x hy x hx rfl
theorem sep_elems {fps:List (List (List Nat))} (hn:fps.flatten.flatten.Nodup) {i i' j j':Nat} {G G':List (List Nat)} {f g:List Nat} (hi:fps[i]? = some G) (hi':fps[i']? = some G') (hii:i≠i') (hf:G[j]? = some f) (hg:G'[j']? = some g) {x:Nat} (hx:x∈f) (hy:x∈g):False:=by
 have h1:(fps.map List.flatten).flatten=fps.flatten.flatten:=by simp[List.flatten_flatten]
 rw[←h1] at hn
 exact sep_list hn (i:=i) (j:=i') (f:=G.flatten) (g:=G'.flatten) (by simp[hi]) (by simp[hi']) hii (Gxe.2 ⟨f,Yv hf,hx⟩) (Gxe.2 ⟨g,Yv hg,hy⟩)
theorem sep_cells {fps:List (List (List Nat))} (hn:fps.flatten.flatten.Nodup) {i j j':Nat} {G:List (List Nat)} {f g:List Nat} (hi:fps[i]? = some G) (hf:G[j]? = some f) (hg:G[j']? = some g) (hjj:j≠j') {x:Nat} (hx:x∈f) (hy:x∈g):False:=by
 have h1:(fps.map List.flatten).flatten=fps.flatten.flatten:=by simp[List.flatten_flatten]
 rw[←h1] at hn
 obtain⟨hp,_⟩:=List.pairwise_flatten.1 hn
 exact sep_list (hp G.flatten (Gqv.2 ⟨G,Yv hi,J⟩)) hf hg hjj hx hy

theorem OW.inner {w:World} {k:Nat} {es:List (List T)} {v:Value} {fp:List Nat} (h:OW w (.sl k es) v fp) (hnd:fp.Nodup) {i j:Nat} {e:List T} {t0:T} (hi:es[i]? = some e) (hj:e[j]? = some t0) :
  ∃ b o c u f,v = .slice (some ⟨b,o,none⟩) es.length c∧b∈fp∧w.cell? ⟨b,o+i*k+j,none⟩=some u∧OW w t0 u f∧f.Nodup∧(∀ x∈f,x∈fp) ∧
   ∀ (w':World) (t1:T) (f':List Nat),(∀ x∈fp,x∉f→w'.heap[x]? = w.heap[x]?)→OW w' t1 u f'→f'.Nodup→(∀ x∈f',x∈f∨x∉fp) →
    ∃ fp',OW w' (.sl k (es.set i (splice e j [t1]))) v fp'∧fp'.Nodup∧∀ x∈fp',(x∈fp∧x∉f)∨x∈f':=by
 rcases h.open_ with ⟨rfl,rfl,rfl⟩ | ⟨b,o,c,tid,cur,fz,val,fps,rfl,rfl,hg,hz,hc,hcm,hcs,hp,hk,hff,hfk,hv,ht⟩
 ·simp at hi
 have hil:=Yu hi
 have hek:e.length=k:=hk e (Yv hi)
 have hjl:=Yu hj
 rw[hek] at hjl
 have hfi:fps[i]? = some fps[i]:=Gqf Aqa 
 have hfik:(fps[i]' Aqa).length=k:=hfk _ (Gqe _)
 obtain⟨G,hG⟩:∃ G,G=fps[i]' Aqa:=⟨_,rfl⟩
 rw[←hG] at hfi hfik
 obtain⟨f,hf⟩:∃ f,G[j]? = some f:=⟨_,Gqf Aqa⟩
 obtain⟨X,Z,e1,e2⟩:=flat_one hfi hf
 have hndc:=Gxb.1 hnd
 have hndf:=hndc.2
 rw[e1] at hndf
 obtain⟨n1,n2,n3⟩:=List.nodup_append.1 hndf
 obtain⟨n4,n5,n6⟩:=List.nodup_append.1 n1
 have hbf:b∉f:=fun hb=>hndc.1 (mem_ff hfi hf hb)
 refine⟨b,o,c,val i j,f,J,Aqd,?_,ht i j e _ G f hi hj hfi hf,n5,fun x hx=>Gq7 _ (mem_ff hfi hf hx),fun w' t1 f' hw hO hn' hf' => ?_⟩
 ·rw[cell_of_row w b _ cur tid fz hg]
  exact hv i j hil hjl
 have hset:(es.set i (splice e j [t1])).length=es.length:=Aqd
 have hfr:∀ (i' j':Nat) (e':List T) (t:T) (fs:List (List Nat)) (g:List Nat),es[i']? = some e'→e'[j']? = some t→fps[i']? = some fs→fs[j']? = some g→(∀ x∈g,x∉f)→OW w' t (val i' j') g:=fun i' j' e' t fs g g1 g2 g3 g4 hd =>
  (ht i' j' e' t fs g g1 g2 g3 g4).frame fun x hx=>hw x (Gq7 _ (mem_ff g3 g4 hx)) (hd x hx)
 have hold:∀ x∈X++f++Z,x∈b::fps.flatten.flatten:=fun x hx=>Gq7 _ (by rw[e1]; exact hx)
 have hdX:∀ x∈X,x∉f':=fun x hx hx'=>by
  rcases hf' x hx' with h1 | h1
  ·exact n6 x hx x h1 rfl
  ·exact h1 (hold x (by simp[hx]))
 have hdZ:∀ x∈Z,x∉f':=fun x hx hx'=>by
  rcases hf' x hx' with h1 | h1
  ·exact n3 x (by simp[h1]) x hx rfl
  ·exact h1 (hold x (by simp[hx]))
 refine⟨b::(fps.set i (splice G j [f'])).flatten.flatten,?_,?_,?_⟩
 ·rw[←hset]
  refine .sl _ b o k c tid cur fz val _ (by rw[hw b Aqd hbf]; exact hg) hz (by rw[hset]; exact hc) hcm hcs hp ?_ (by simp[hff]) ?_ (fun i' j' hi' hj'=>hv i' j' (by rw[←hset]; exact hi') hj') fun i' j' e' t' fs' g' g1 g2 g3 g4 => ?_
  ·intro e' he'
   rcases Gxi he' with he' | rfl
   ·exact hk e' he'
   ·rw[splice_len (by simp; omega),hek]
  ·intro g hg'
   rcases Gxi hg' with hg' | rfl
   ·exact hfk g hg'
   ·rw[splice_len (by simp; omega),hfik]
  ·rw[List.getElem?_set] at g1 g3
   by_cases hii:i=i'
   ·subst hii
    simp only[hil,if_true,Option.some.injEq] at g1
    rw[if_pos rfl,if_pos Aqa] at g3
    simp only[Option.some.injEq] at g3
    subst g1 g3
    rw[splice_at (by simp; omega)] at g2 g4
    by_cases hcond:j≤j'∧j'<j+1
    ·have hjj:j'=j:=Aqa
     subst hjj
     rw[if_pos Aqd] at g2 g4
     simp at g2 g4
     subst g2 g4
     exact hO
    ·rw[if_neg (by simpa using hcond)] at g2 g4
     refine hfr i j' e t' G g' hi g2 hfi g4 fun x hx hxf => ?_
     -- two cells of one element own different blocks
     obtain⟨X2,Z2,e3,e4⟩:=flat_one hfi g4
     exact sep_cells hndc.2 hfi hf g4 (fun e=>hcond ⟨Aqa,Aqa⟩) hxf hx
   ·rw[if_neg hii] at g1 g3
    refine hfr i' j' e' t' fs' g' g1 g2 g3 g4 fun x hx hxf => ?_
    exact sep_elems hndc.2 hfi g3 hii hf g4 hxf hx
 ·rw[e2]
  refine Gxb.2 ⟨fun hb => ?_,List.nodup_append.2 ⟨List.nodup_append.2 ⟨n4,hn',fun x hx y hy e=>hdX x hx (e▸hy)⟩,n2,fun x hx y hy e => ?_⟩⟩
  ·rcases Gqs.1 hb with hb | hb
   ·rcases Gqs.1 hb with hb | hb
    ·exact hndc.1 (by rw[e1]; simp[hb])
    ·rcases hf' b hb with h1 | h1
     ·exact hbf h1
     ·exact h1 Aqd 
   ·exact hndc.1 (by rw[e1]; simp[hb])
  ·rcases Gqs.1 hx with hx | hx
   ·exact n3 x (by simp[hx]) y hy e
   ·exact hdZ y hy (e▸hx)
 ·rw[e2,e1]
  intro x hx
  rcases List.mem_cons.1 hx with rfl | hx
  ·exact .inl ⟨Aqd,hbf⟩
  ·rcases Gqs.1 hx with hx | hx
   ·rcases Gqs.1 hx with hx | hx
    ·exact .inl ⟨by simp[hx],fun h=>n6 x hx x h rfl⟩
    ·exact .inr hx
   ·exact .inl ⟨by simp[hx],fun h=>n3 x (by simp[h]) x hx rfl⟩

def lendx1 (objs:List Ob) (p:Nat) (x:V1):V1:=match lendw1 objs [p] x with
 | .rd [] y => .rd [] y
 |_ => .un
def lendx (objs:List Ob) (p:Nat):V→V2
 | .o (.c x) => .c (lendx1 objs p x)
 | .o (.ag xs) => .ag (xs.map (lendx1 objs p))
 |_ => .c .un
section
variable {P:Program} {E:Env} {ops:Array Oper} {o:Oper} {st:St} {rest:List Oper} {QQ:Exit→St→Prop} {w:World} {H:Hs} {F:Nat→Prop} {a:Act} {t:TypeId} {y:Operand} {n:Nat}
theorem lendx1_ok {p:Nat} {H1:Hs} {F1:Nat→Prop} (h:R0 w H F st a) (hF:∀ b,b<w.heap.size→b∉(H p).fp→F1 b) {x:V1} {v:Value} (hx:R1 w H F x v):R1 w H1 F1 (lendx1 st.objs p x) v:=by
 have h1:=lendw1_ok (ρ := [p]) (H1:=fun q=>if q=0 then H p else .nil) (F1:=F1) h (fun q r hq=>by
  cases q with
  |zero=>simp at hq; subst hq; rfl
  |succ q=>simp at hq) (fun b h1 h2=>hF b h1 (h2 p Aqd)) hx
 unfold lendx1
 split
 ·rename_i y hy
  rw[hy] at h1
  exact RO.weak h1 fun b hb _ => .inl (by
   rcases hb with hb | ⟨q,hq,_⟩
   ·exact hb
   ·simp at hq)
 ·trivial
theorem q_lee {p kk i j:Nat} {es:List (List T)} {e:List T} {x:T} [TyOne P t] (ho:o.op = .load t y) (hg:o.guard=none) (hy:st.ev y = .o (.c (.el p kk i j))) (hp:st.objs[p]? = some (.row kk es)) (he:es[i]? = some e) (hx:e[j]? = some x):Qt P ops o st (.o (.c (.le p kk i j))) [] n :=
 .pure hg fun a w H F hr=>by
  obtain⟨b,o',e1,hc⟩:=el_cells hr hy hp he
  obtain⟨u,h1,h2⟩:=hc 0 x (by simpa using hx)
  refine⟨u,Yr ho e1 (Kl t b o' u h1),?_⟩
  obtain⟨b2,o2,n2,c2,x2,fp2,k1,k2⟩:=hr.v1 hy
  obtain⟨v,fp,k3,k4⟩:=hr.ow hp
  rw[k1] at k3
  simp only[Pc.ow.injEq] at k3
  obtain⟨_,rfl,rfl⟩:=k3
  rw[e1] at k2
  simp only[Value.pointer.injEq,Option.some.injEq,Addr.mk.injEq] at k2
  obtain⟨rfl,rfl,_⟩:=k2
  refine⟨b,o2,n2,c2,x2,fp2,k1,?_,RO.one h2,by simpa using h1⟩
  rcases k4.open_ with ⟨k5,_⟩ | ⟨b',o',c',tid,cur,fz,val,fps,k5,k6,_⟩
  ·cases k5
  ·simp only[Value.slice.injEq,Option.some.injEq,Addr.mk.injEq] at k5
   rw[k6,k5.1.1]; simp

theorem L_inner {f:FuncId} [hf:FunOk P f] {ass:Array Operand} {tys:Array TypeId} {y0:Operand} {ys:List Operand} {args':List V2} {p kk k' i j:Nat} {es es0 es1:List (List T)} {e:List T} {wv:Value} {ps:List Nat}
  (hc:Con P f [.row k' es0,.gh 0 (.c (.ref 0))] (.c (.ref 0)::args') [.row k' es1,.gh 0 (.c (.ref 0))] (.o (.c (.rd ps (.v wv))))) (ho:o.op = .call { callee := .value (.func f),args:=ass,argTypes:=tys }) (hg:o.guard=none) (has:ass.toList=y0::ys)
  (hy:st.ev y0 = .o (.c (.le p kk i j))) (hp:st.objs[p]? = some (.row kk es)) (he:es[i]? = some e) (hx:e[j]? = some (.sl k' es0)) (ha:ys.map (fun y=>lendx st.objs p (st.ev y))=args') (hd:dstOk st.n o.dst=true)
  (h:AL P E ops QQ rest ⟨st.n,setT (st.tmps.map fun e=>(e.1,e.2.mapk (V1.killw [p] [p]))) o.dst (.o (.c (.rd [] (.v wv)))),(st.objs.map (Ob.mapk (V1.killw [p] [p]))).set p (.row kk (es.set i (splice e j [.sl k' es1])))⟩):AL P E ops QQ (o::rest) st:=by
 refine⟨fun a w ⟨H,F,hr,hsince⟩ => ?_⟩
 have hrun:(execOp a.eval o).run P w = .ok (.enter f (ass.toList.map a.eval).toArray) w:=by
  unfold execOp
  simp only[ho,resolve,Act.eval,Deferred.ofValue,Sem.run_bind,Sem.run_pure,Result.andThen_ok,invoke]
  rw[show (#[]++ass.map a.eval++#[])=(ass.toList.map a.eval).toArray by
   apply Array.ext'
   simp]
  exact run_callFunc _
 refine wpList_step fun K hK => ?_
 rw[if_pos (by unfold Region.wanted; rw[hg])]
 unfold Oper.wp
 rw[hrun]
 obtain⟨v,fp,e1,e2⟩:=hr.ow hp
 have hnd:=hr.ok.nodup p
 rw[e1] at hnd
 obtain⟨b,o',c,u,f0,hv,hbfp,hcell,hOW0,hn0,hsub,hback⟩:=e2.inner hnd he hx
 obtain⟨b',o'',n',c',x',fp',e3,_,_,hcell'⟩:=hr.v1 hy
 have hu:a.eval y0=u:=by
  rw[e1] at e3
  simp only[Pc.ow.injEq] at e3
  have h3:=e3.2.1
  rw[hv] at h3
  simp only[Value.slice.injEq,Option.some.injEq,Addr.mk.injEq] at h3
  rw[←h3.1.1,←h3.1.2.1,hcell] at hcell'
  exact (Option.some.inj hcell').symm
 obtain⟨vs,hvs⟩:∃ vs,vs=ass.toList.map a.eval:=⟨_,rfl⟩
 have hvs2:vs=u::ys.map a.eval:=by rw[hvs,has,List.map_cons,hu]
 obtain⟨H1,hH0,hH1,hH2⟩:∃ H1:Hs,H1 0 = .ow (.sl k' es0) u f0∧H1 1 = .gh 0 u∧∀ q,2≤q→H1 q = .nil:=⟨fun q=>match q with | 0 => .ow (.sl k' es0) u f0 | 1 => .gh 0 u | _ => .nil,rfl,rfl,fun q hq=>by
  match q,hq with
  |q+2,_=>rfl⟩
 obtain⟨F1,hF1⟩:∃ F1:Nat→Prop,F1=fun b=>b<w.heap.size∧b∉fp:=⟨_,rfl⟩
 have hfp:(H p).fp=fp:=by rw[e1]; rfl
 have a3:∀ q x,x∈(H1 q).fp→q=0∧x∈f0:=fun q x hq=>by
  match q with
  |0=>rw[hH0] at hq; exact⟨rfl,hq⟩
  |1=>rw[hH1] at hq; simp[Pc.fp] at hq
  |q+2=>rw[hH2 (q+2) Aqa] at hq; simp[Pc.fp] at hq
 have hok1:Ok w H1 F1:=by
  refine⟨fun q => ?_,fun q => ?_,fun q r x h1 h2 => ?_,fun q x h1 h2 => ?_,fun x hb=>by rw[hF1] at hb; exact hb.1⟩
  ·match q with
   |0=>rw[hH0]; exact hOW0
   |1=>rw[hH1]; trivial
   |q+2=>rw[hH2 (q+2) Aqa]; trivial
  ·match q with
   |0=>rw[hH0]; exact hn0
   |1=>rw[hH1]; simp[Pc.fp]
   |q+2=>rw[hH2 (q+2) Aqa]; simp[Pc.fp]
  ·rw[(a3 q x h1).1,(a3 r x h2).1]
  ·rw[hF1] at h2; exact h2.2 (hsub x (a3 q x h1).2)
 have hobs1:∀ q,RB w H1 F1 q ([Ob.row k' es0,.gh 0 (.c (.ref 0))].getD q .gone):=fun q=>by
  match q with
  |0=>exact⟨u,f0,hH0⟩
  |1=>exact⟨u,hH1,_,_,hH0⟩
  |q+2=>exact hH2 (q+2) Aqa 
 have hargs1:∀ (i:Nat) (x:V2) (v:Value),(V2.c (.ref 0)::args')[i]? = some x→vs[i]? = some v→R2 w H1 F1 x v:=by
  intro i x v hi hv
  rw[hvs2] at hv
  cases i with
  |zero=>simp at hi hv; subst hi hv; exact⟨_,_,hH0⟩
  | succ i =>
   rw[Gxl] at hi hv
   rw[←ha,Gqj] at hi
   obtain⟨y,h1,rfl⟩:=Option.map_eq_some_iff.1 hi
   rw[Gqj,h1] at hv
   simp only[Gq2,Option.some.injEq] at hv
   subst hv
   have h2:=hr.ev y
   have hl1:∀ {x:V1} {v:Value},R1 w H F x v→R1 w H1 F1 (lendx1 st.objs p x) v:=fun hx=>lendx1_ok hr (fun b h1 h2=>by rw[hF1]; exact⟨h1,by rw[←hfp]; exact h2⟩) hx
   cases he:st.ev y with
   | o x =>
    rw[he] at h2
    cases x with
    |c x=>exact hl1 h2
    |ag xs =>
     obtain⟨us,e,hl,hcs⟩:=h2
     refine⟨us,e,by simpa using hl,fun i x u hi hu => ?_⟩
     rw[Gqj] at hi
     obtain⟨c,h3,rfl⟩:=Option.map_eq_some_iff.1 hi
     exact hl1 (hcs i c u h3 hu)
   |tu xs=>trivial
   |iff cs x=>trivial
 rw[←hvs]
 refine (hc w H1 F1 vs hok1 hobs1 (by rw[hvs2,←ha]; simp) hargs1).mono ?_
 rintro ex w' ⟨H2,F2,rv,rfl,hsi,hok2,hobs2,hres⟩
 obtain⟨v2,f2,e5⟩:∃ v2 f2,H2 0 = .ow (.sl k' es1) v2 f2:=hobs2 0
 obtain⟨v3,e6,x3,f3,e7⟩:∃ v3,H2 1 = .gh 0 v3∧∃ x3 f3,H2 0 = .ow x3 v3 f3:=hobs2 1
 have e8:v3=u:=by
  obtain⟨q,hq⟩:∃ q,H1 q = .gh 0 v3:=hsi.gh 1 0 v3 e6
  match q with
  |0=>rw[hH0] at hq; cases hq
  |1=>rw[hH1] at hq; simp only[Pc.gh.injEq] at hq; exact hq.2.symm
  |q+2=>rw[hH2 (q+2) Aqa] at hq; cases hq
 have e9:v2=u:=by
  rw[e5] at e7
  simp only[Pc.ow.injEq] at e7
  rw[e7.2.1,e8]
 subst e9
 have hO:=hok2.says 0
 rw[e5] at hO
 have hn2:=hok2.nodup 0
 rw[e5] at hn2
 have hkeepb:∀ x,x<w.heap.size→x∉f0→w'.heap[x]? = w.heap[x]? := fun x h1 h2=>hsi.keep x h1 fun q hq=>h2 (a3 q x hq).2
 have hlt:∀ x∈fp,x<w.heap.size:=fun x hx=>hr.ok.lt (p:=p) (by rw[hfp]; exact hx)
 obtain⟨fp2,h7,h8,h9'⟩:=hback w' (.sl k' es1) f2 (fun x h1 h2=>hkeepb x (hlt x h1) h2) hO hn2 (fun x hx=>by
  rcases hsi.org 0 x (by rw[e5]; exact hx) with ⟨q,hq⟩ | hq
  ·exact .inl (a3 q x hq).2
  ·exact .inr fun h=>Nat.not_le_of_lt (hlt x h) hq)
 have h9:∀ x∈fp2,x∈fp∨w.heap.size≤x:=fun x hx=>by
  rcases h9' x hx with h | h
  ·exact .inl h.1
  ·rcases hsi.org 0 x (by rw[e5]; exact h) with ⟨q,hq⟩ | hq
   ·exact .inl (hsub x (a3 q x hq).2)
   ·exact .inr hq
 have hkeep:Keeps w w' fp:=⟨hsi.os,hsi.tape,hsi.output,hsi.size,fun x h1 h2=>hkeepb x h1 fun h3=>h2 (hsub x h3)⟩
 obtain⟨hok,htn⟩:=hr.ok.turn (p:=p) (fp:=fp) hfp hkeep (.ow (.sl kk (es.set i (splice e j [.sl k' es1]))) v fp2) h7 h8 trivial h9
 have hplace:∀ q ∈ [p],Place (H q) (H.put p (.ow (.sl kk (es.set i (splice e j [.sl k' es1]))) v fp2) q):=fun q hq=>by
  have:q=p:=by simpa using hq
  subst this
  exact .inl ⟨_,_,_,_,_,e1,Hs.put_self _ _ _⟩
 obtain⟨hplt,_⟩:=Gqo.1 hp
 have hR:=hr.mapk (V1.killw [p] [p]) (fun x v hx=>R1.killw hr.ok htn hplace hx) hok ((st.objs.map (Ob.mapk (V1.killw [p] [p]))).set p (.row kk (es.set i (splice e j [.sl k' es1])))) (fun q => ?_)
 ·have hR2:=hR.put (x := .o (.c (.rd [] (.v wv)))) o.dst hd (v:=rv) (by
   have h1:R1 w' H2 F2 (.rd ps (.v wv)) rv:=hres
   obtain⟨rfl,h2⟩:=RO.plain h1
   exact RO.v _ h2)
  exact hK _ _ (h.h _ _ ⟨_,F,hR2,hsince.turn htn⟩)
 ·by_cases hqp:q=p
  ·subst hqp
   rw[Yt (x := .row kk (es.set i (splice e j [.sl k' es1]))) (by simp[hplt])]
   exact⟨_,_,Hs.put_self _ _ _⟩
  ·rw[Gqg,Gq9 (Ne.symm hqp),Gqj]
   have h2:=hr.obs q
   rw[Gqg] at h2
   have h3:H.put p (.ow (.sl kk (es.set i (splice e j [.sl k' es1]))) v fp2) q=H q:=Hs.put_ne _ _ hqp
   cases ho:st.objs[q]? with
   |none=>rw[ho] at h2; exact h3.trans h2
   |some ob=>rw[ho] at h2; exact RB.mapk (fun x v hx=>R1.killw hr.ok htn hplace hx) h3 h2
theorem M_inner {ts:List (Nat×V)} {obs:List Ob} {d:Nat} {f:FuncId} [hf:FunOk P f] {ass:Array Operand} {tys:Array TypeId} {y0:Operand} {ys:List Operand} {args':List V2} {p kk k' i j:Nat} {es es0 es1:List (List T)} {e:List T} {wv:Value} {ps:List Nat}
  (hc:Con P f [.row k' es0,.gh 0 (.c (.ref 0))] (.c (.ref 0)::args') [.row k' es1,.gh 0 (.c (.ref 0))] (.o (.c (.rd ps (.v wv))))) (ho:o.op = .call { callee := .value (.func f),args:=ass,argTypes:=tys }) (hg:o.guard=none) (hd:o.dst=some d) (hl:Nat.blt d n=true) (has:ass.toList=y0::ys)
  (hy:St.ev ⟨n,ts,obs⟩ y0 = .o (.c (.le p kk i j))) (hp:obs[p]? = some (.row kk es)) (ha:ys.map (fun y=>lendx obs p (St.ev ⟨n,ts,obs⟩ y))=args') (he:es[i]? = some e) (hx:e[j]? = some (.sl k' es0))
  (h:AL P E ops QQ rest ⟨n,(d,.o (.c (.rd [] (.v wv))))::(ts.map fun e=>(e.1,e.2.mapk (V1.killw [p] [p]))),(obs.map (Ob.mapk (V1.killw [p] [p]))).set p (.row kk (es.set i (splice e j [.sl k' es1])))⟩):AL P E ops QQ (o::rest) ⟨n,ts,obs⟩ :=
 L_inner (st:=⟨n,ts,obs⟩) hc ho hg has hy hp he hx ha (by rw[hd]; exact hl) (by rw[hd]; exact h)
end
end
section
open Go.RowKit

section
variable {P:Program} {ops:Array Oper} {o:Oper} {st:St} {m:Nat} {t t':TypeId} {y z:Operand} {ps qs:List Nat}
theorem Kc {k:IntKind} {u:Int} (ho:o.op = .binOp .neq t y z t') (hg:o.guard=none) (hy:st.ev y = .o (.c (.rd ps (.v (.int k u))))) (hz:st.ev z = .o (.c (.rd qs (.v (.int k u))))):Qt P ops o st (B false) [] m :=
 Qw ho hg hy hz Aqd 
theorem Q8 {xs:List V2} (ho:o.op = .move y) (hg:o.guard=none) (hy:st.ev y = .tu xs):Qt P ops o st (.tu xs) [] m :=
 .pure hg fun a w H F hr=>⟨a.eval y,by simp[execOp,ho],by rw[←hy]; exact hr.ev y⟩
end
end
section
open Go.RowKit

def tot (xs:List (List Int)):Nat:=(xs.map List.length).sum
end
end Go.Proofs.YtfklmiijhcajdaaGreat
