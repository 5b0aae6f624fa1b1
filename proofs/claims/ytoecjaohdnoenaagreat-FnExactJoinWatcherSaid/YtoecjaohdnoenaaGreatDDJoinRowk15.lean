/-
  Rules, data and contracts of functions: part 16 of the proof.
  Conditions: those that each theorem names.
-/
import Derived.ProofKit
import Derived.Deep.Slices
import Derived.Test.YtoecjaohdnoenaaGreatDDJoinRowk13
import Derived.Test.YtoecjaohdnoenaaGreatDDJoinRowk14
set_option linter.unusedVariables false
set_option linter.unusedSimpArgs false
set_option maxRecDepth 8000
set_option maxHeartbeats 8000000
namespace Go.Proofs.YtoecjaohdnoenaaGreat
section
open Go.RowKit Go.ChangeShapes Go.WideShapes Go.Deep

def I64 (x:Int):Prop := -9223372036854775808≤x∧x≤9223372036854775807

class Enc (α:Type) where
 k:Nat
 pos:0<k
 e:α→List T
 len:∀ x,(e x).length=k
 gd:α→Prop
 wt:α→Nat
instance:Enc Int:=⟨1,by omega,fun x => [.v (.int .i64 x)],fun _=>rfl,I64,fun _=>0⟩
instance:Enc Bool:=⟨1,by omega,fun x => [.v (.bool x)],fun _=>rfl,fun _=>True,fun _=>0⟩
instance:Enc ByteArray:=⟨1,by omega,fun x => [.v (.string x)],fun _=>rfl,fun x=>x.size≤9223372036854775807,fun x=>x.size⟩
def wts {α:Type} [Enc α]:List α→Nat
 | []=>0
 |x::xs=>Enc.wt x+wts xs
@[reducible] def els {α:Type} [Enc α] (xs:List α):List (List T):=xs.map Enc.e
instance {α:Type} [Enc α]:Enc (List α):=⟨1,by omega,fun xs => [.sl (Enc.k α) (els xs)],fun _=>rfl,fun xs=>xs.length≤9223372036854775807∧∀ x∈xs,Enc.gd x,fun xs=>xs.length+wts xs⟩

@[reducible] def sl {α:Type} [Enc α] (xs:List α):T := .sl (Enc.k α) (els xs)
@[reducible] def ai (n:Int):V2 := .c (.rd [] (.v (.int .i64 n)))
@[reducible] def astr (s:ByteArray):V2 := .c (.rd [] (.v (.string s)))
@[reducible] def al {α:Type} [Enc α] (xs:List α):V2 := .c (.rd [] (sl xs))
@[reducible] def ag {α:Type} [Enc α] (x:α):V2 := .ag ((Enc.e x).map (V1.rd []))
@[reducible] def L {α:Type} [Enc α] (xs:List α):V := .o (al xs)

class PlainE (α:Type) [Enc α]:Prop where
 plain:∀ (x:α) (t:T),t∈Enc.e x→∃ u,t = .v u
instance:PlainE Int:=⟨fun x t h=>by simp[Enc.e] at h; exact⟨_,h⟩⟩
instance:PlainE Bool:=⟨fun x t h=>by simp[Enc.e] at h; exact⟨_,h⟩⟩
instance:PlainE ByteArray:=⟨fun x t h=>by simp[Enc.e] at h; exact⟨_,h⟩⟩
theorem Yg {α:Type} [Enc α] [PlainE α] (xs:List α):plainT (els xs):=fun e he t ht=>by
 obtain⟨x,_,rfl⟩:=Gqt.1 he
 exact PlainE.plain x t ht
theorem Ye {α:Type} [Enc α] (xs:List α):∀ e∈els xs,e.length=Enc.k α:=fun e he=>by
 obtain⟨x,_,rfl⟩:=Gqt.1 he
 exact Enc.len x
@[reducible] def bs (l:List UInt8):ByteArray:=⟨l.toArray⟩
theorem bs_app (a b:List UInt8):bs a++bs b=bs (a++b):=by
 apply ByteArray.ext
 rw[ByteArray.data_append]
 simp[bs]
theorem X8 (l:List UInt8):(bs l).size=l.length:=by simp[bs,ByteArray.size]
theorem cat_size (a b:ByteArray):(a++b).size=a.size+b.size:=by simp[ByteArray.size_append]
theorem bs_list (l:List UInt8):(bs l).data.toList=l:=by simp[bs]
theorem bs_of (s:ByteArray):bs s.data.toList=s:=by simp[bs]
theorem bs_inj {a b:List UInt8}:bs a=bs b↔a=b:=⟨fun h=>by have:=congrArg (·.data.toList) h; simpa[bs_list] using this,fun h=>by rw[h]⟩
theorem S_eq {a b:ByteArray} (h:a=b):S a=S b:=by rw[h]
theorem bE_app (a b:List UInt8):bE a++bE b=bE (a++b):=by simp[bE]
theorem bE_snoc (a:List UInt8) (n:Int) (h:0≤n∧n≤255):bE a ++ [[.v (.int .u8 n)]]=bE (a ++ [UInt8.ofNat n.toNat]):=by
 have h1:((UInt8.ofNat n.toNat).toNat:Int)=n:=by
  rw[UInt8.toNat_ofNat']
  omega
 unfold bE
 rw[List.map_append,List.map_cons,List.map_nil,h1]

theorem Yc {α:Type} [Enc α] {xs:List α} {k:Nat} (h:k<xs.length):(els xs)[(k:Int).toNat]? = some (Enc.e xs[k]):=by simp[els,h]
theorem Yf {α:Type} [Enc α] (xs:List α):(els xs).length=xs.length:=by simp[els]
theorem Kv {α:Type} [Enc α]:∀ (xs:List α) (k:Nat) (h:k<xs.length),wts (xs.take (k+1))=wts (xs.take k)+Enc.wt xs[k]
 |x::xs,0,_=>by simp[wts]
 |x::xs,k+1,h=>by
  have:=Kv xs k (by simpa using h)
  simp only[List.take_succ_cons,wts,List.getElem_cons_succ,this]
  omega
theorem Ku {α:Type} [Enc α]:∀ (xs:List α) (x:α),x∈xs→Enc.wt x≤wts xs
 |y::xs,x,h=>by
  simp only[wts]
  rcases List.mem_cons.1 h with rfl | h
  ·omega
  ·have:=Ku xs x h; omega
theorem Kw {α:Type} [Enc α]:∀ (xs:List α) (k:Nat),wts (xs.take k)≤wts xs
 | [],k=>by simp[wts]
 |x::xs,0=>by simp[wts]
 |x::xs,k+1=>by
  have:=Kw xs k
  simp only[List.take_succ_cons,wts]
  omega

/-! ### Readings -/
theorem list_of_each {α:Type} {p:Nat→α→Prop}:∀ n:Nat,(∀ i,i<n→∃ y,p i y)→∃ ys:List α,ys.length=n∧∀ (i:Nat) (y:α),ys[i]? = some y→p i y
 |0,_=>⟨[],rfl,fun _ _ h=>by simp at h⟩
 | n+1,h=>by
  obtain⟨ys,h1,h2⟩:=list_of_each n fun i hi=>h i (by omega)
  obtain⟨y,hy⟩:=h n (by omega)
  refine⟨ys ++ [y],by simp[h1],fun i z hz => ?_⟩
  rcases Gqq i ys.length with hi | hi
  ·rw[Gq1 hi] at hz
   exact h2 i z hz
  ·rw[Gqv hi] at hz
   have hi0:i-ys.length=0:=by
    rcases Nat.eq_zero_or_pos (i-ys.length) with h0 | h0
    ·exact h0
    ·rw[List.getElem?_eq_none (by simp; omega)] at hz
     cases hz
   rw[hi0] at hz
   simp only[Gq7,Option.some.injEq] at hz
   subst hz
   have:i=n:=by omega
   subst this
   exact hy

def Reads {α:Type} [Enc α] (w:World) (x:α) (cs:List Value):Prop:=cs.length=Enc.k α∧∀ (j:Nat) (t:T) (u:Value),(Enc.e x)[j]? = some t→cs[j]? = some u→RO w (fun _=>True) t u

class RdOf (P:Program) (t:TypeId) (α:outParam Type) [Enc α]:Prop where
 size:P.cellsOf t=Enc.k α
 of:∀ {H:Type} {enc:TypeId×Value→H} {w:World} {spare:Nat→Bool} {held:Bool} {fuel:Nat} {cs:List Value} {x:DataW H×List MemPlace},
  DataW.trod enc P w 0 spare held fuel t cs=some x→∃ y:α,Enc.gd y∧Reads w y cs

theorem i64_of_wf {n:Int} (h:(Lit.int .i64 n).wf=true):I64 n:=by
 simp[Lit.wf,IntKind.min,IntKind.max,IntKind.signed,IntKind.bits] at h
 exact⟨by omega,by omega⟩
theorem reads_one {α:Type} [Enc α] {w:World} {x:α} {t:T} {u:Value} (he:Enc.e x = [t]) (h:RO w (fun _=>True) t u):Reads w x [u]:=by
 refine⟨by rw[←Enc.len x,he]; rfl,fun j t' u' h1 h2 => ?_⟩
 rw[he] at h1
 cases j with
 |zero=>simp at h1 h2; subst h1 h2; exact h
 |succ j=>simp at h1
theorem rdOf_int {P:Program} {t:TypeId} (ht:P.underlying t=some (.int .i64)) (hs:P.cellsOf t=1):RdOf P t Int where
 size:=hs
 of h:=by
  obtain⟨n,rfl,_,h3⟩:=DataW.trod_int ht h
  exact⟨n,i64_of_wf h3,reads_one J (.v _ J)⟩
theorem rdOf_string {P:Program} {t:TypeId} (ht:P.underlying t=some .string) (hs:P.cellsOf t=1):RdOf P t ByteArray where
 size:=hs
 of h:=by
  obtain⟨s,rfl,_,h3⟩:=DataW.trod_string ht h
  exact⟨s,by simpa[maxLen,Enc.gd] using h3,reads_one J (.v _ J)⟩
theorem Z9 {P:Program} {t e:TypeId} {α:Type} [Enc α] [hα:RdOf P e α] (ht:P.underlying t=some (.slice e)) (hs:P.cellsOf t=1):RdOf P t (List α) where
 size:=hs
 of {H enc w spare held fuel cs x} h:=by
  rcases open_slice ht h with ⟨rfl,_⟩ | ⟨a,len,cap,m,n,D,Pl,rfl,_,hl,hm,hmm,_,hi⟩
  ·exact⟨[],⟨by simp,by simp⟩,reads_one rfl (.nil _ _ _ (by simp[maxLen]))⟩
  ·have hlm:len≤m:=by rw[hmm]; split <;> omega
   obtain⟨ys,h1,h2⟩:=list_of_each (p:=fun i y=>∃ es,w.cells? 0 (a.add (i*P.cellsOf e)) (P.cellsOf e)=some es∧Enc.gd (α:=α) y∧Reads w y es) len fun i hi'=>by
    obtain⟨es,h3,h4⟩:=hi i (by omega)
    obtain⟨y,hy⟩:=hα.of h4
    exact⟨y,es,h3,hy⟩
   subst h1
   refine⟨ys,⟨by simp[maxLen] at hm; omega,fun y hy => ?_⟩,?_⟩
   ·obtain⟨i,hi'⟩:=List.getElem?_of_mem hy
    obtain⟨es,_,hg,_⟩:=h2 i y hi'
    exact hg
   refine reads_one J ?_
   rcases Nat.eq_zero_or_pos ys.length with h0 | h0
   ·have:=List.eq_nil_of_length_eq_zero h0
    subst this
    exact .nil _ _ _ hm
   ·have hsp:a.spot=none:=by
     obtain⟨es,h3,_⟩:=h2 0 _ (Gqg h0)
     obtain⟨_,hcl,hat⟩:=World.cells?_some h3
     have hp:0<P.cellsOf e:=by rw[hα.size]; exact Enc.pos
     have:=hat 0 hp
     rw[Gqg (by omega)] at this
     have h5:=World.cell?_spot this
     simpa[Addr.add] using h5
    obtain⟨b,o,sp⟩:=a
    simp only at hsp
    subst hsp
    have hel:∀ i,i<ys.length→∃ es,w.cells? 0 ((⟨b,o,none⟩:Addr).add (i*P.cellsOf e)) (P.cellsOf e)=some es:=fun i hi'=>by
     obtain⟨es,h3,_⟩:=h2 i _ (Gqg hi')
     exact⟨es,h3⟩
    have hlen:ys.length=(els ys).length:=(Yf ys).symm
    rw[hlen]
    refine .sl (els ys) b o (Enc.k α) cap (fun i j=>((w.cells? 0 ((⟨b,o,none⟩:Addr).add (i*P.cellsOf e)) (P.cellsOf e)).getD []).getD j undef) trivial (by rw[Yf]; exact hl) hm Enc.pos (fun e' he => ?_) (fun i j hi' hj => ?_) fun i j e' t' h3 h4 => ?_
    ·obtain⟨y,_,rfl⟩:=Gqt.1 he
     exact Enc.len y
    ·rw[Yf] at hi'
     obtain⟨es,h3⟩:=hel i hi'
     obtain⟨_,hcl,hat⟩:=World.cells?_some h3
     rw[hα.size] at hcl
     have h5:=hat j (by rw[hα.size]; exact hj)
     rw[add_lit,add_lit,hα.size,Gqg (by omega)] at h5
     rw[h3]
     simp only[Option.getD_some]
     rw[h5,Gqf,Gqg (by omega)]
     rfl
    ·rw[Gqi] at h3
     obtain⟨y,hy,rfl⟩:=Option.map_eq_some_iff.1 h3
     obtain⟨es,h5,_,h6⟩:=h2 i y hy
     have hj:j<es.length:=by rw[h6.1,←Enc.len y]; exact Yr h4
     show RO w _ t' (((w.cells? 0 ((⟨b,o,none⟩:Addr).add (i*P.cellsOf e)) (P.cellsOf e)).getD []).getD j undef)
     rw[h5]
     simp only[Option.getD_some]
     rw[Yq (Gqg hj)]
     exact h6.2 j t' _ h4 (Gqg hj)

theorem reads_of_Trod {P:Program} {t:TypeId} {α:Type} [Enc α] [hα:RdOf P t α] {H:Type} {enc:TypeId×Value→H} {w:World} {spare:Nat→Bool} {held:Bool} {v:Value} {d:DataW H} {p:List MemPlace}
  (h:DataW.Trod enc P w 0 spare held t v d p):∃ y:α,Enc.gd y∧Reads w y v.cells.toList:=by
 obtain⟨fuel,hf⟩:=h
 exact hα.of hf

theorem r2_agg {α:Type} [Enc α] {w:World} {H:Hs} {x:α} {cs:List Value} (h:Reads w x cs):R2 w H (fun b=>b<w.heap.size) (ag x) (.agg cs.toArray):=by
 refine⟨cs,J,by simp[h.1,Enc.len],fun i c u h1 h2 => ?_⟩
 rw[Gqi] at h1
 obtain⟨t,h3,rfl⟩:=Option.map_eq_some_iff.1 h1
 exact RO.weak (h.2 i t u h3 h2) fun b _ hb => .inl hb
theorem law_calls {P:Program} {f:FuncId} {args:List V2} (hc:Con P f [] args [] (B true)) (w:World) (vs:List Value) (hl:vs.length=args.length) (hr:∀ (i:Nat) (x:V2) (v:Value),args[i]? = some x→vs[i]? = some v→R2 w (fun _ => .nil) (fun b=>b<w.heap.size) x v) :
  Calls P f vs.toArray w fun e w'=>e = .returned (.bool true)∧Below w.heap.size w w':=by
 refine (hc w (fun _ => .nil) (fun b=>b<w.heap.size) vs ⟨fun _=>trivial,fun _=>by simp[Pc.fp],fun p q b h=>by simp[Pc.fp] at h,fun p b h=>by simp[Pc.fp] at h,fun _ h=>h⟩ (fun p=>by simp[RB]) hl hr).mono ?_
 rintro e w' ⟨H',F',rv,rfl,hs,_,_,hv⟩
 refine⟨by rw[(RO.plain (show RO w' _ (.v (.bool true)) rv from hv)).1],hs.os,hs.tape,hs.output,hs.size,fun b hb=>hs.keep b hb fun p=>by simp[Pc.fp]⟩
end
section
open Go.RowKit

theorem Xn {a b:Int} (h:a=b):I a=I b:=by rw[h]
theorem Xg {a b:Bool} (h:a=b):B a=B b:=by rw[h]
def szr (n:Nat) (left:Int):Int:=if left<n then -1 else left-n
theorem Kl {n:Nat} {left:Int} (h:left<n):szr n left = -1:=if_pos h
theorem Km {n:Nat} {left:Int} (h:(n:Int)≤left):szr n left=left-n:=if_neg (by omega)
theorem wts_int:∀ xs:List Int,wts xs=0
 | []=>rfl
 |x::xs=>by simp[wts,wts_int xs,Enc.wt]
theorem eq_ne {α:Type} [DecidableEq α] {xs ys:List α} {j:Nat} (h1:j<xs.length) (h2:j<ys.length) (h:¬xs[j]=ys[j]):decide (xs=ys)=false:=by
 rw[decide_eq_false_iff_not]
 intro e
 subst e
 exact h J
theorem Yk {α:Type} [DecidableEq α] {xs ys:List α} {j:Nat} (h1:xs.length≤j) (h2:xs.length=ys.length) (h:xs.take j=ys.take j):decide (xs=ys)=true:=by
 rw[Gqh h1,Gqh (by omega)] at h
 simp[h]
theorem Yl {α:Type} [DecidableEq α] {xs ys:List α} (h:xs.length≠ys.length):decide (xs=ys)=false:=by
 rw[decide_eq_false_iff_not]
 intro e
 subst e
 exact h J
theorem Ym {α:Type} {xs ys:List α} {j:Nat} (h1:j<xs.length) (h2:j<ys.length) (h:xs.take j=ys.take j) (e:xs[j]=ys[j]):xs.take (j+1)=ys.take (j+1):=by
 rw[Gxn h1,Gxn h2,h,e]

/-! ### Counting -/
theorem sz_IntS (xs:List Int) (left:Int) (hg:Enc.gd xs) (h0:0≤left) (h1:left≤1048576):Con Tryz.prog 54 [] [al xs,ai left] [] (I (szr (Enc.wt xs) left)):=by
 have hlen:=Yf xs
 have hx:=hg.1
 have hw:Enc.wt xs=xs.length:=by simp[Enc.wt,wts_int]
 refine Con.of Tryz.func54 J Tryz.ntmps54 J (fun E => ?_)
 refine Wz [1,5,7,14,74,46,38] ?_
 refine Q9 J (fun h => ?_) (fun h => ?_)
 ·refine Wz [35] ?_
  have h2:=Gqc (p:=_) (by simpa using h)
  exact Xk J J (Xw [] (by decide) J J (Xn (by rw[Kl (by omega)])))
 ·refine Wz [64,9,5] ?_
  refine Wz [99] ?_
  have h2:=Gqe h
  exact Xk J J (Xw [] (by decide) J J (Xn (by rw[Km (by omega)]; omega)))
theorem sz_StringS (xs:List ByteArray) (left:Int) (hg:Enc.gd xs) (h0:0≤left) (h1:left≤1048576):Con Tryz.prog 53 [] [al xs,ai left] [] (I (szr (Enc.wt xs) left)):=by
 have hlen:=Yf xs
 have hx:=hg.1
 have hw:Enc.wt xs=xs.length+wts xs:=rfl
 refine Con.of Tryz.func53 J Tryz.ntmps53 J (fun E => ?_)
 refine Wz [1,5,7,14,74,46,38] ?_
 refine Q9 J (fun h => ?_) (fun h => ?_)
 ·refine Wz [35] ?_
  have h2:=Gqc h
  exact Xk J J (Xw [] (by decide) J J (Xn (by rw[Kl (by omega)])))
 have h2:¬(left-((els xs).length:Int)<0):=Gqe h
 refine Wz [48,44] ?_
 refine Xf (fun m st=>∃ k:Nat,k+m=xs.length∧(((xs.length:Int)+wts (xs.take k)≤left))∧st=(⟨_,[(0,L xs),(1,I (left-(xs.length+wts (xs.take k)))),(5,I k)],[]⟩:St)) (xs.length) ⟨(fun k:Nat=>(⟨_,[(0,L xs),(1,I (left-(xs.length+wts (xs.take k)))),(5,I k)],[]⟩:St)) 0,⟨0,by omega,by simp[wts]; omega,J⟩,Xz [] (by decide) J (by kernel_rfl) (.c J (.cons (Xn (by simp[els,wts])) (.c J (.nil))))⟩ ?_
 rintro m_A _ ⟨k,hk_A,hp_A,rfl⟩
 refine Wz [57] ?_
 refine Q9 J (fun h => ?_) (fun h => ?_)
 ·have h3:k<xs.length:=by have:=Gqc h; omega
  have hat:=Yc h3
  have hstep:=Kv xs k h3
  have hle:=Kw xs (k+1)
  have hws:Enc.wt xs[k]=xs[k].size:=rfl
  have hgd:xs[k].size≤9223372036854775807:=hg.2 _ (Gqd h3)
  by_cases h4:left-((xs.length:Int)+wts (xs.take k))-xs[k].size<0
  ·have hb:decide (left-((xs.length:Int)+wts (xs.take k))-xs[k].size<0)=true:=Gqb h4
   refine Wz [6,157,92,126,74,19,170,51] ?_
   exact Xk J J (Xw [] (by decide) J J (Xn (by rw[Kl (by omega)])))
  ·have hb:decide (left-((xs.length:Int)+wts (xs.take k))-xs[k].size<0)=false:=Gqa h4
   refine Wz [6,157,92,126,74,19,32,58] ?_
   exact⟨xs.length-(k+1),by omega,(fun k:Nat=>(⟨_,[(0,L xs),(1,I (left-(xs.length+wts (xs.take k)))),(5,I k)],[]⟩:St)) (k+1),⟨k+1,by omega,by omega,J⟩,Xz [] (by decide) J (by kernel_rfl) (.c J (.cons (Xn (by rw[hstep]; omega)) (.c J (.nil))))⟩
 ·have h3:¬((k:Int)<(els xs).length):=Gqe h
  have hk:wts (xs.take k)=wts xs:=by rw[Gqh (by omega)]
  refine Wz [27] ?_
  exact Xk J J (Xw [] (by decide) J J (Xn (by rw[Km (by omega)]; omega)))
theorem sz_IntSS (xs:List (List Int)) (left:Int) (hg:Enc.gd xs) (h0:0≤left) (h1:left≤1048576):Con Tryz.prog 10 [] [al xs,ai left] [] (I (szr (Enc.wt xs) left)):=by
 have hlen:=Yf xs
 have hx:=hg.1
 have hw:Enc.wt xs=xs.length+wts xs:=rfl
 refine Con.of Tryz.func10 J Tryz.ntmps10 J (fun E => ?_)
 refine Wz [1,5,7,14,74,46,38] ?_
 refine Q9 J (fun h => ?_) (fun h => ?_)
 ·refine Wz [35] ?_
  have h2:=Gqc h
  exact Xk J J (Xw [] (by decide) J J (Xn (by rw[Kl (by omega)])))
 have h2:¬(left-((els xs).length:Int)<0):=Gqe h
 refine Wz [48,44] ?_
 refine Xf (fun m st=>∃ k:Nat,k+m=xs.length∧(((xs.length:Int)+wts (xs.take k)≤left))∧st=(⟨_,[(0,L xs),(1,I (left-(xs.length+wts (xs.take k)))),(5,I k)],[]⟩:St)) (xs.length) ⟨(fun k:Nat=>(⟨_,[(0,L xs),(1,I (left-(xs.length+wts (xs.take k)))),(5,I k)],[]⟩:St)) 0,⟨0,by omega,by simp[wts]; omega,J⟩,Xz [] (by decide) J (by kernel_rfl) (.c J (.cons (Xn (by simp[els,wts])) (.c J (.nil))))⟩ ?_
 rintro m_A _ ⟨k,hk_A,hp_A,rfl⟩
 refine Wz [57] ?_
 refine Q9 J (fun h => ?_) (fun h => ?_)
 ·have h3:k<xs.length:=by have:=Gqc h; omega
  have hat:=Yc h3
  have hstep:=Kv xs k h3
  have hle:=Kw xs (k+1)
  have hc:=sz_IntS xs[k] (left-((xs.length:Int)+wts (xs.take k))) (hg.2 _ (Gqd h3)) (by omega) (by omega)
  by_cases h4:left-((xs.length:Int)+wts (xs.take k))<Enc.wt xs[k]
  ·rw[Kl h4] at hc
   have hb:decide ((-1:Int)<0)=true:=rfl
   refine Wz [6,7,148,117] ?_;refine zx (Qj J J (hc) J) J ?_;refine Wz [19,170,51] ?_
   exact Xk J J (Xw [] (by decide) J J (Xn (by rw[Kl (by omega)])))
  ·rw[Km (by omega)] at hc
   have hb:decide (left-((xs.length:Int)+wts (xs.take k))-Enc.wt xs[k]<0)=false:=Gqa (by omega)
   refine Wz [6,7,148,117] ?_;refine zx (Qj J J (hc) J) J ?_;refine Wz [19,32,58] ?_
   exact⟨xs.length-(k+1),by omega,(fun k:Nat=>(⟨_,[(0,L xs),(1,I (left-(xs.length+wts (xs.take k)))),(5,I k)],[]⟩:St)) (k+1),⟨k+1,by omega,by omega,J⟩,Xz [] (by decide) J (by kernel_rfl) (.c J (.cons (Xn (by rw[hstep]; omega)) (.c J (.nil))))⟩
 ·have h3:¬((k:Int)<(els xs).length):=Gqe h
  have hk:wts (xs.take k)=wts xs:=by rw[Gqh (by omega)]
  refine Wz [27] ?_
  exact Xk J J (Xw [] (by decide) J J (Xn (by rw[Km (by omega)]; omega)))

/-! ### Copying -/
def part {α:Type} [Enc α] (xs:List α) (z:List T) (k:Nat):List (List T):=els (xs.take k)++List.replicate (xs.length-k) z
theorem Zb {α:Type} [Enc α] (xs:List α) (z:List T) {k:Nat} (h:k≤xs.length):(part xs z k).length=xs.length:=by simp[part,els]; omega
theorem Zd {α:Type} [Enc α] (xs:List α) (z:List T):part xs z 0=List.replicate (((els xs).length:Int)).toNat z:=by simp[part,els]
theorem Y9 {α:Type} [Enc α] (xs:List α) (z:List T) {k:Nat} (h:xs.length≤k):part xs z k=els xs:=by
 unfold part
 rw[Gqh h,show xs.length-k=0 by omega]
 simp
theorem Za {α:Type} [Enc α] (xs:List α) (z:List T) {k:Nat} (h:k<xs.length):(part xs z k)[(k:Int).toNat]? = some z:=by
 have h1:(els (xs.take k)).length=k:=by simp[els]; omega
 unfold part
 rw[Int.toNat_natCast,Gqv (by omega),h1,Gxr,List.getElem?_replicate,if_pos (by omega)]
theorem Zc {α:Type} [Enc α] (xs:List α) (z:List T) {k:Nat} (h:k<xs.length) (ts:List T) (ht:ts=Enc.e xs[k]) (hz:z.length=ts.length):(part xs z k).set (k:Int).toNat (splice z 0 ts)=part xs z (k+1):=by
 have h1:(els (xs.take k)).length=k:=by simp[els]; omega
 have h2:splice z 0 ts=ts:=by simp[splice,hz]
 subst ht
 unfold part
 rw[h2,Int.toNat_natCast,List.set_append_right _ _ (by omega),h1,Gxr,show xs.length-k=(xs.length-(k+1))+1 by omega,List.replicate_succ,List.set_cons_zero]
 have h3:els (xs.take (k+1))=els (xs.take k) ++ [Enc.e xs[k]]:=by
  rw[Gxn h]
  simp only[els,List.map_append,List.map_cons,List.map_nil]
 rw[h3,Gq9]
 rfl
theorem Kf {k:Nat} {a b:List (List T)} (h:a=b) : [Ob.row k a] = [Ob.row k b]:=by rw[h]

theorem to_IntS (xs:List Int) (hg:Enc.wt xs≤1048576):Con Tryz.prog 62 [] [al xs] [.row (Enc.k Int) (els xs)] (.o (.c (.ref 0))):=by
 have hlen:=Yf xs
 have hw:Enc.wt xs=xs.length+wts xs:=rfl
 refine Con.of Tryz.func62 J Tryz.ntmps62 J (fun E => ?_)
 refine Wz [1,19,14,219,130] ?_;refine Xf (fun m st=>∃ k:Nat,k+m=xs.length∧(True)∧st=(⟨_,[(0,L xs),(3,.o (.c (.ref 0))),(4,I k)],[.row 1 (part xs [(.v (.int .i64 0))] k)]⟩:St)) (xs.length) ⟨(fun k:Nat=>(⟨_,[(0,L xs),(3,.o (.c (.ref 0))),(4,I k)],[.row 1 (part xs [(.v (.int .i64 0))] k)]⟩:St)) 0,⟨0,by omega,trivial,J⟩,Xz [0] (by decide) J (Kf (Zd xs _)) (.c J (.c J (.c J (.nil))))⟩ ?_
 rintro m_A _ ⟨k,hk_A,hp_A,rfl⟩
 refine Wz [57] ?_
 refine Q9 J (fun h => ?_) (fun h => ?_)
 ·have h3:k<xs.length:=by have:=Gqc h; omega
  have hat:=Yc h3
  have hz:=Za xs [(.v (.int .i64 0))] h3
  have hpl:(k:Int)<(part xs [(.v (.int .i64 0))] k).length:=by rw[Zb xs _ (by omega)]; omega
  have hwt:Enc.wt xs[k]≤wts xs:=Ku xs _ (Gqd h3)
  refine Wz [6,78,131,92,165,231,93] ?_
  exact⟨xs.length-(k+1),by omega,(fun k:Nat=>(⟨_,[(0,L xs),(3,.o (.c (.ref 0))),(4,I k)],[.row 1 (part xs [(.v (.int .i64 0))] k)]⟩:St)) (k+1),⟨k+1,by omega,trivial,J⟩,Xz [0] (by decide) J (Kf (Zc xs [(.v (.int .i64 0))] h3 _ (by rfl) (by rfl)).symm) (.c J (.c J (.c J (.nil))))⟩
 ·have h3:¬((k:Int)<(els xs).length):=Gqe h
  refine Wz [27] ?_
  exact Xk J J (Xw [0] (by decide) J (Kf (Y9 xs _ (by omega)).symm) J)
theorem to_StringS (xs:List ByteArray) (hg:Enc.wt xs≤1048576):Con Tryz.prog 61 [] [al xs] [.row (Enc.k ByteArray) (els xs)] (.o (.c (.ref 0))):=by
 have hlen:=Yf xs
 have hw:Enc.wt xs=xs.length+wts xs:=rfl
 refine Con.of Tryz.func61 J Tryz.ntmps61 J (fun E => ?_)
 refine Wz [1,19,14,219,130] ?_;refine Xf (fun m st=>∃ k:Nat,k+m=xs.length∧(True)∧st=(⟨_,[(0,L xs),(3,.o (.c (.ref 0))),(4,I k)],[.row 1 (part xs [(.v (.string ⟨#[]⟩))] k)]⟩:St)) (xs.length) ⟨(fun k:Nat=>(⟨_,[(0,L xs),(3,.o (.c (.ref 0))),(4,I k)],[.row 1 (part xs [(.v (.string ⟨#[]⟩))] k)]⟩:St)) 0,⟨0,by omega,trivial,J⟩,Xz [0] (by decide) J (Kf (Zd xs _)) (.c J (.c J (.c J (.nil))))⟩ ?_
 rintro m_A _ ⟨k,hk_A,hp_A,rfl⟩
 refine Wz [57] ?_
 refine Q9 J (fun h => ?_) (fun h => ?_)
 ·have h3:k<xs.length:=by have:=Gqc h; omega
  have hat:=Yc h3
  have hz:=Za xs [(.v (.string ⟨#[]⟩))] h3
  have hpl:(k:Int)<(part xs [(.v (.string ⟨#[]⟩))] k).length:=by rw[Zb xs _ (by omega)]; omega
  have hwt:Enc.wt xs[k]≤wts xs:=Ku xs _ (Gqd h3)
  refine Wz [6,78,131,92,165,231,93] ?_
  exact⟨xs.length-(k+1),by omega,(fun k:Nat=>(⟨_,[(0,L xs),(3,.o (.c (.ref 0))),(4,I k)],[.row 1 (part xs [(.v (.string ⟨#[]⟩))] k)]⟩:St)) (k+1),⟨k+1,by omega,trivial,J⟩,Xz [0] (by decide) J (Kf (Zc xs [(.v (.string ⟨#[]⟩))] h3 _ (by rfl) (by rfl)).symm) (.c J (.c J (.c J (.nil))))⟩
 ·have h3:¬((k:Int)<(els xs).length):=Gqe h
  refine Wz [27] ?_
  exact Xk J J (Xw [0] (by decide) J (Kf (Y9 xs _ (by omega)).symm) J)
theorem to_IntSS (xs:List (List Int)) (hg:Enc.wt xs≤1048576):Con Tryz.prog 15 [] [al xs] [.row (Enc.k (List Int)) (els xs)] (.o (.c (.ref 0))):=by
 have hlen:=Yf xs
 have hw:Enc.wt xs=xs.length+wts xs:=rfl
 refine Con.of Tryz.func15 J Tryz.ntmps15 J (fun E => ?_)
 refine Wz [1,19,14,232,130] ?_;refine Xf (fun m st=>∃ k:Nat,k+m=xs.length∧(True)∧st=(⟨_,[(0,L xs),(3,.o (.c (.ref 0))),(4,I k)],[.row 1 (part xs [(.sl 1 [])] k)]⟩:St)) (xs.length) ⟨(fun k:Nat=>(⟨_,[(0,L xs),(3,.o (.c (.ref 0))),(4,I k)],[.row 1 (part xs [(.sl 1 [])] k)]⟩:St)) 0,⟨0,by omega,trivial,J⟩,Xz [0] (by decide) J (Kf (Zd xs _)) (.c J (.c J (.c J (.nil))))⟩ ?_
 rintro m_A _ ⟨k,hk_A,hp_A,rfl⟩
 refine Wz [57] ?_
 refine Q9 J (fun h => ?_) (fun h => ?_)
 ·have h3:k<xs.length:=by have:=Gqc h; omega
  have hat:=Yc h3
  have hz:=Za xs [(.sl 1 [])] h3
  have hpl:(k:Int)<(part xs [(.sl 1 [])] k).length:=by rw[Zb xs _ (by omega)]; omega
  have hwt:Enc.wt xs[k]≤wts xs:=Ku xs _ (Gqd h3)
  refine Wz [6,78,131,92] ?_;refine M1 (Zm J J (to_IntS _ (by omega)) J J J) J J ?_;refine Wz [165,231,93] ?_
  exact⟨xs.length-(k+1),by omega,(fun k:Nat=>(⟨_,[(0,L xs),(3,.o (.c (.ref 0))),(4,I k)],[.row 1 (part xs [(.sl 1 [])] k)]⟩:St)) (k+1),⟨k+1,by omega,trivial,J⟩,Xz [0] (by decide) J (Kf (Zc xs [(.sl 1 [])] h3 _ (by rfl) (by rfl)).symm) (.c J (.c J (.c J (.nil))))⟩
 ·have h3:¬((k:Int)<(els xs).length):=Gqe h
  refine Wz [27] ?_
  exact Xk J J (Xw [0] (by decide) J (Kf (Y9 xs _ (by omega)).symm) J)

/-! ### Comparing -/
theorem eq_IntS (xs ys:List Int) (hn:Enc.gd xs):Con Tryz.prog 76 [] [al xs,al ys] [] (B (decide (xs=ys))):=by
 have hn1:=hn.1
 have hlx:=Yf xs
 have hly:=Yf ys
 by_cases hl:xs.length=ys.length
 ·have hb:decide (((els xs).length:Int)≠((els ys).length:Int))=false:=by rw[hlx,hly,hl]; simp
  refine Con.of Tryz.func76 J Tryz.ntmps76 J (fun E => ?_)
  refine Wz [100,14,83,39,44] ?_;refine Xf (fun m st=>∃ k:Nat,k+m=xs.length∧(xs.take k=ys.take k)∧st=(⟨_,[(0,L xs),(1,L ys),(5,I k)],[]⟩:St)) (xs.length) ⟨_,⟨0,by omega,by simp,J⟩,Xy [] (by kernel_rfl)⟩ ?_
  rintro m_A _ ⟨k,hk_A,hp_A,rfl⟩
  refine Wz [57] ?_
  refine Q9 J (fun h => ?_) (fun h => ?_)
  ·have h3:k<xs.length:=by have:=Gqc h; omega
   have h4:k<ys.length:=by omega
   have hat:=Yc h3
   have hat2:=Yc h4
   by_cases he:xs[k]=ys[k]
   ·have hk:decide (xs[k]≠ys[k])=false:=by simp[he]
    refine Wz [84,251,120,21,120,21] ?_;refine DR.s (Qw J J J J (by assumption)) J J ?_;refine Wz [12,79,58] ?_
    exact⟨xs.length-(k+1),by omega,_,⟨k+1,by omega,Ym h3 h4 hp_A he,J⟩,Xy [] (by kernel_rfl)⟩
   ·have hk:decide (xs[k]≠ys[k])=true:=by simp[he]
    refine Wz [84,251,120,21,120,21] ?_;refine DR.s (Qw J J J J (by assumption)) J J ?_;refine Wz [12,17,51] ?_
    exact Xk J J (Xw [] (by decide) J J (Xg (eq_ne h3 h4 he).symm))
  ·have h3:¬((k:Int)<(els xs).length):=Gqe h
   refine Wz [16,61] ?_
   exact Xk J J (Xw [] (by decide) J J (Xg (Yk (by omega) hl hp_A).symm))
 ·have hb:decide (((els xs).length:Int)≠((els ys).length:Int))=true:=by rw[hlx,hly]; simp; omega
  refine Con.of Tryz.func76 J Tryz.ntmps76 J (fun E => ?_)
  refine Wz [100,14,33] ?_
  exact Xk J J (Xw [] (by decide) J J (Xg (Yl hl).symm))
theorem eq_StringS (xs ys:List ByteArray) (hn:Enc.gd xs):Con Tryz.prog 75 [] [al xs,al ys] [] (B (decide (xs=ys))):=by
 have hn1:=hn.1
 have hlx:=Yf xs
 have hly:=Yf ys
 by_cases hl:xs.length=ys.length
 ·have hb:decide (((els xs).length:Int)≠((els ys).length:Int))=false:=by rw[hlx,hly,hl]; simp
  refine Con.of Tryz.func75 J Tryz.ntmps75 J (fun E => ?_)
  refine Wz [100,14,83,39,44] ?_;refine Xf (fun m st=>∃ k:Nat,k+m=xs.length∧(xs.take k=ys.take k)∧st=(⟨_,[(0,L xs),(1,L ys),(5,I k)],[]⟩:St)) (xs.length) ⟨_,⟨0,by omega,by simp,J⟩,Xy [] (by kernel_rfl)⟩ ?_
  rintro m_A _ ⟨k,hk_A,hp_A,rfl⟩
  refine Wz [57] ?_
  refine Q9 J (fun h => ?_) (fun h => ?_)
  ·have h3:k<xs.length:=by have:=Gqc h; omega
   have h4:k<ys.length:=by omega
   have hat:=Yc h3
   have hat2:=Yc h4
   by_cases he:xs[k]=ys[k]
   ·have hk:decide (xs[k]≠ys[k])=false:=by simp[he]
    refine Wz [84,251,120,21,120,21,181,12,79,58] ?_
    exact⟨xs.length-(k+1),by omega,_,⟨k+1,by omega,Ym h3 h4 hp_A he,J⟩,Xy [] (by kernel_rfl)⟩
   ·have hk:decide (xs[k]≠ys[k])=true:=by simp[he]
    refine Wz [84,251,120,21,120,21,181,12,17,51] ?_
    exact Xk J J (Xw [] (by decide) J J (Xg (eq_ne h3 h4 he).symm))
  ·have h3:¬((k:Int)<(els xs).length):=Gqe h
   refine Wz [16,61] ?_
   exact Xk J J (Xw [] (by decide) J J (Xg (Yk (by omega) hl hp_A).symm))
 ·have hb:decide (((els xs).length:Int)≠((els ys).length:Int))=true:=by rw[hlx,hly]; simp; omega
  refine Con.of Tryz.func75 J Tryz.ntmps75 J (fun E => ?_)
  refine Wz [100,14,33] ?_
  exact Xk J J (Xw [] (by decide) J J (Xg (Yl hl).symm))
theorem eq_IntSS (xs ys:List (List Int)) (hn:Enc.gd xs):Con Tryz.prog 21 [] [al xs,al ys] [] (B (decide (xs=ys))):=by
 have hn1:=hn.1
 have hlx:=Yf xs
 have hly:=Yf ys
 by_cases hl:xs.length=ys.length
 ·have hb:decide (((els xs).length:Int)≠((els ys).length:Int))=false:=by rw[hlx,hly,hl]; simp
  refine Con.of Tryz.func21 J Tryz.ntmps21 J (fun E => ?_)
  refine Wz [100,14,83,39,44] ?_;refine Xf (fun m st=>∃ k:Nat,k+m=xs.length∧(xs.take k=ys.take k)∧st=(⟨_,[(0,L xs),(1,L ys),(5,I k)],[]⟩:St)) (xs.length) ⟨_,⟨0,by omega,by simp,J⟩,Xy [] (by kernel_rfl)⟩ ?_
  rintro m_A _ ⟨k,hk_A,hp_A,rfl⟩
  refine Wz [57] ?_
  refine Q9 J (fun h => ?_) (fun h => ?_)
  ·have h3:k<xs.length:=by have:=Gqc h; omega
   have h4:k<ys.length:=by omega
   have hat:=Yc h3
   have hat2:=Yc h4
   by_cases he:xs[k]=ys[k]
   ·have hc:=eq_IntS xs[k] ys[k] (hn.2 _ (Gqd h3))
    rw[Gqb he] at hc
    refine Wz [84,132,120,21,120,21] ?_;refine DR.s (Qj J J (hc) J) J J ?_;refine Wz [65,12,79,58] ?_
    exact⟨xs.length-(k+1),by omega,_,⟨k+1,by omega,Ym h3 h4 hp_A he,J⟩,Xy [] (by kernel_rfl)⟩
   ·have hc:=eq_IntS xs[k] ys[k] (hn.2 _ (Gqd h3))
    rw[Gqa he] at hc
    refine Wz [84,132,120,21,120,21] ?_;refine DR.s (Qj J J (hc) J) J J ?_;refine Wz [65,12,17,51] ?_
    exact Xk J J (Xw [] (by decide) J J (Xg (eq_ne h3 h4 he).symm))
  ·have h3:¬((k:Int)<(els xs).length):=Gqe h
   refine Wz [16,61] ?_
   exact Xk J J (Xw [] (by decide) J J (Xg (Yk (by omega) hl hp_A).symm))
 ·have hb:decide (((els xs).length:Int)≠((els ys).length:Int))=true:=by rw[hlx,hly]; simp; omega
  refine Con.of Tryz.func21 J Tryz.ntmps21 J (fun E => ?_)
  refine Wz [100,14,33] ?_
  exact Xk J J (Xw [] (by decide) J J (Xg (Yl hl).symm))
end
section
open Go.RowKit

def ownO:List T→List Ob
 | [] => []
 | .v _::ts=>ownO ts
 | .sl k es::ts => .row k es::ownO ts
 | .un::ts=>ownO ts
def ownV:Nat→List T→List V1
 |_,[] => []
 |n,.v x::ts => .rd [] (.v x)::ownV n ts
 |n,.sl _ _::ts => .ref n::ownV (n+1) ts
 |n,.un::ts => .un::ownV n ts

structure TLevel where
 Rows:(List ByteArray)
 deriving DecidableEq
instance:Enc TLevel:=⟨1,by omega,fun x => [sl x.Rows],fun _=>rfl,fun x=>Enc.gd x.Rows,fun x=>Enc.wt x.Rows⟩
theorem TLevel.same {x y:TLevel} (h0:x.Rows=y.Rows):x=y:=by cases x; cases y; simp_all
structure TReplay where
 Level:TLevel
 Players:Int
 Seed:Int
 Every:Int
 Rows:(List (List Int))
 Keys:(List ByteArray)
 deriving DecidableEq
instance:Enc TReplay:=⟨6,by omega,fun x => [sl x.Level.Rows,.v (.int .i64 x.Players),.v (.int .i64 x.Seed),.v (.int .i64 x.Every),sl x.Rows,sl x.Keys],fun _=>rfl,fun x=>Enc.gd x.Level∧Enc.gd x.Players∧Enc.gd x.Seed∧Enc.gd x.Every∧Enc.gd x.Rows∧Enc.gd x.Keys,fun x=>Enc.wt x.Level+Enc.wt x.Rows+Enc.wt x.Keys⟩
theorem TReplay.same {x y:TReplay} (h0:x.Level=y.Level) (h1:x.Players=y.Players) (h2:x.Seed=y.Seed) (h3:x.Every=y.Every) (h4:x.Rows=y.Rows) (h5:x.Keys=y.Keys):x=y:=by cases x; cases y; simp_all

theorem sz_Level (x:TLevel) (left:Int) (hg:Enc.gd x) (h0:0≤left) (h1:left≤1048576):Con Tryz.prog 9 [] [ag x,ai left] [] (I (szr (Enc.wt x) left)):=by
 have g_Rows:Enc.gd x.Rows:=hg
 have hw:Enc.wt x=Enc.wt x.Rows:=rfl
 have hm1:decide ((-1:Int)<0)=true:=rfl
 have hc_Rows:=sz_StringS x.Rows (left) g_Rows (by omega) (by omega)
 by_cases n_Rows:left<Enc.wt x.Rows
 ·rw[Kl n_Rows] at hc_Rows
  refine Con.of Tryz.func9 J Tryz.ntmps9 J (fun E => ?_)
  refine Wz [47,71] ?_;refine zx (Qj J J (hc_Rows) J) J ?_;refine Wz [80,23] ?_
  exact Xk J J (Xw [] (by decide) J J (Xn (by rw[Kl (by omega)])))
 rw[Km (by omega)] at hc_Rows
 have hb_Rows:decide (left-Enc.wt x.Rows<0)=false:=Gqa (by omega)
 refine Con.of Tryz.func9 J Tryz.ntmps9 J (fun E => ?_)
 refine Wz [47,71] ?_;refine zx (Qj J J (hc_Rows) J) J ?_;refine Wz [101,166] ?_
 exact Xk J J (Xw [] (by decide) J J (Xn (by rw[Km (by omega)]; omega)))
theorem to_Level (x:TLevel) (hg:Enc.wt x≤1048576):Con Tryz.prog 14 [] [ag x] (ownO (Enc.e x)) (.o (.ag (ownV 0 (Enc.e x)))):=by
 have hw:Enc.wt x=Enc.wt x.Rows:=rfl
 refine Con.of Tryz.func14 J Tryz.ntmps14 J (fun E => ?_)
 refine Wz [85,4,1,40,4,41] ?_;refine M1 (Zm J J (to_StringS x.Rows (by omega)) J J J) J J ?_;refine Wz [86,45,30,99] ?_
 exact Xi J J J J (Xw [3] (by decide) J J J)
theorem eq_Level (x y:TLevel) (hg:Enc.gd x):Con Tryz.prog 20 [] [ag x,ag y] [] (B (decide (x=y))):=by
 have g_Rows:Enc.gd x.Rows:=hg
 by_cases e_Rows:¬x.Rows=y.Rows
 ·have hc:=eq_StringS x.Rows y.Rows g_Rows
  rw[Gqa e_Rows] at hc
  refine Con.of Tryz.func20 J Tryz.ntmps20 J (fun E => ?_)
  refine Wz [34] ?_;refine zx (Qj J J (hc) J) J ?_;refine Wz [3,23] ?_
  exact Xk J J (Xw [] (by decide) J J (Xg (Gqa fun e=>e_Rows (by rw[e])).symm))
 have e_Rows:=Classical.not_not.1 e_Rows
 have hc_Rows:=eq_StringS x.Rows y.Rows g_Rows
 rw[Gqb e_Rows] at hc_Rows
 refine Con.of Tryz.func20 J Tryz.ntmps20 J (fun E => ?_)
 refine Wz [34] ?_;refine zx (Qj J J (hc_Rows) J) J ?_;refine Wz [3,54,61] ?_
 exact Xk J J (Xw [] (by decide) J J (Xg (Gqb (TLevel.same e_Rows)).symm))
end
section
open Go.RowKit

def dig:Nat→Int→List UInt8→List UInt8
 |0,_,out=>out
 |n+1,k,out=>if 0<k then dig n (k/10) ([UInt8.ofNat (48+k%10).toNat]++out) else out
def mtext (k:Int):ByteArray:=bs (if k≤0 then [109,48] else 109::dig 19 k [])
theorem dig_end {n:Nat} {k:Int} {out:List UInt8} (h:¬0<k):dig n k out=out:=by
 cases n with
 |zero=>rfl
 |succ n=>rw[dig,if_neg h]
theorem Xp (k:Int) (hk:k≤1099511627776):Con Tryz.prog 172 [] [ai k] [] (S (mtext k)):=by
 refine Con.of Tryz.func172 J Tryz.ntmps172 J (fun E => ?_)
 refine Wz [138,199,4] ?_
 refine Q9 J (fun h => ?_) (fun h => ?_)
 ·have h:=Gqc h
  refine Wz [35] ?_
  exact Xk J J (Xw [] (by decide) J J (S_eq (by rw[mtext,if_pos h])))
 have h:=Gqe h
 rw[mtext,if_neg h]
 refine Wz [64,1,5,20,210] ?_;refine Xf (fun m__ st=>∃ (j:Int) (out:List UInt8),j.toNat=m__∧(∃ n,0≤j∧j≤1099511627776∧j<10 ^ n∧out.length+n=19∧dig n j out=dig 19 k [])∧st=(⟨_,[(0,I j),(3,S (bs out))],[]⟩:St)) _ ⟨_,⟨k,[],J,⟨19,by omega,hk,by omega,J,J⟩,J⟩,Xy [] (by kernel_rfl)⟩ ?_
 rintro m_A _ ⟨j,out,hk_A,hp_A,rfl⟩
 obtain⟨n,a0,a1,a2,a3,a4⟩:=hp_A
 refine Wz [69,233,4] ?_
 refine Q9 J (fun h => ?_) (fun h => ?_)
 ·have h:=Gqc h
  have hl:=X8 out
  refine Wz [64,210,9,211,8,234,136] ?_;refine zx (q_bstrb J J J J J) J (z0 J ?_)
  refine M0 (q_cat J J J J (by simp only[X8,cat_size,Gq4,List.length_nil,Gqr]; omega)) J J ?_
  refine Wz [5,106,173,149,127,59] ?_
  obtain⟨n,rfl⟩:∃ n',n=n'+1:=⟨n-1,by have:n≠0:=fun e=>by { subst e; simp at a2; omega }; omega⟩
  rw[dig,if_pos h] at a4
  rw[Int.pow_succ] at a2
  refine⟨_,(by omega),(fun (j:Int) (out:List UInt8)=>(⟨_,[(0,I j),(3,S (bs out))],[]⟩:St)) (j/10) ([UInt8.ofNat (48+j%10).toNat]++out),⟨j/10,[UInt8.ofNat (48+j%10).toNat]++out,J,⟨n,by omega,by omega,by omega,by simp only[Gqr,Gq4,List.length_nil]; omega,a4⟩,J⟩,Xz [] (by decide) J (by kernel_rfl) (.c J (.cons (S_eq (bs_app [_] _)) (.nil)))⟩
 ·have h:=Gqe h
  have hl:=X8 out
  rw[dig_end h] at a4
  refine Wz [16,9] ?_
  refine M0 (q_cat J J J J (by simp only[X8,cat_size,Gq4,List.length_nil,Gqr]; omega)) J J ?_
  refine Wz [52] ?_
  exact Xk J J (Xw [] (by decide) J J (S_eq (by rw[←a4]; exact bs_app [_] _)))

theorem row2 {k:Nat} {a b:List (List T)} {g:Ob} (h:a=b) : [Ob.row k a,g] = [Ob.row k b,g]:=by rw[h]
end
section
open Go.RowKit

section
variable {P:Program} {ops:Array Oper} {o:Oper} {st:St} {m:Nat} {t t':TypeId} {y z:Operand} {ps qs:List Nat}
theorem q_bneqR {u:Bool} [TyBool P t] (ho:o.op = .binOp .neq t y z t') (hg:o.guard=none) (hy:st.ev y = .o (.c (.rd ps (.v (.bool u))))) (hz:st.ev z = .o (.c (.rd qs (.v (.bool u))))):Qt P ops o st (B false) [] m:=by
 have h:=q_bneq (m:=m) (P:=P) (ops:=ops) ho hg hy hz
 rwa[beq_self_eq_true] at h
theorem Z5 {k:IntKind} {u:Int} (ho:o.op = .binOp .neq t y z t') (hg:o.guard=none) (hy:st.ev y = .o (.c (.rd ps (.v (.int k u))))) (hz:st.ev z = .o (.c (.rd qs (.v (.int k u))))):Qt P ops o st (B false) [] m :=
 Qw ho hg hy hz (by simp)
theorem Q6 {xs:List V2} (ho:o.op = .move y) (hg:o.guard=none) (hy:st.ev y = .tu xs):Qt P ops o st (.tu xs) [] m :=
 .pure hg fun a w H F hr=>⟨a.eval y,by simp[execOp,ho],by rw[←hy]; exact hr.ev y⟩
end
end
section
open Go.RowKit

def tot (xs:List (List Int)):Nat:=(xs.map List.length).sum
end
section
open Go.RowKit

structure TBody where
 Kind:Int
 Owner:Int
 X:Int
 Y:Int
 VX:Int
 VY:Int
 Aim:Int
 Life:Int
 Timer:Int
 deriving DecidableEq
instance:Enc TBody:=⟨9,by omega,fun x => [.v (.int .i64 x.Kind),.v (.int .i64 x.Owner),.v (.int .i64 x.X),.v (.int .i64 x.Y),.v (.int .i64 x.VX),.v (.int .i64 x.VY),.v (.int .i64 x.Aim),.v (.int .i64 x.Life),.v (.int .i64 x.Timer)],fun _=>rfl,fun x=>Enc.gd x.Kind∧Enc.gd x.Owner∧Enc.gd x.X∧Enc.gd x.Y∧Enc.gd x.VX∧Enc.gd x.VY∧Enc.gd x.Aim∧Enc.gd x.Life∧Enc.gd x.Timer,fun x=>0⟩
theorem TBody.same {x y:TBody} (h0:x.Kind=y.Kind) (h1:x.Owner=y.Owner) (h2:x.X=y.X) (h3:x.Y=y.Y) (h4:x.VX=y.VX) (h5:x.VY=y.VY) (h6:x.Aim=y.Aim) (h7:x.Life=y.Life) (h8:x.Timer=y.Timer):x=y:=by cases x; cases y; simp_all
structure TWorld where
 Level:TLevel
 Tick:Int
 Seed:Int
 Scores:(List Int)
 Bodies:(List TBody)
 deriving DecidableEq
instance:Enc TWorld:=⟨5,by omega,fun x => [sl x.Level.Rows,.v (.int .i64 x.Tick),.v (.int .i64 x.Seed),sl x.Scores,sl x.Bodies],fun _=>rfl,fun x=>Enc.gd x.Level∧Enc.gd x.Tick∧Enc.gd x.Seed∧Enc.gd x.Scores∧Enc.gd x.Bodies,fun x=>Enc.wt x.Level+Enc.wt x.Scores+Enc.wt x.Bodies⟩
theorem TWorld.same {x y:TWorld} (h0:x.Level=y.Level) (h1:x.Tick=y.Tick) (h2:x.Seed=y.Seed) (h3:x.Scores=y.Scores) (h4:x.Bodies=y.Bodies):x=y:=by cases x; cases y; simp_all
structure TSpectator where
 World:TWorld
 Gaps:Int
 deriving DecidableEq
instance:Enc TSpectator:=⟨6,by omega,fun x => [sl x.World.Level.Rows,.v (.int .i64 x.World.Tick),.v (.int .i64 x.World.Seed),sl x.World.Scores,sl x.World.Bodies,.v (.int .i64 x.Gaps)],fun _=>rfl,fun x=>Enc.gd x.World∧Enc.gd x.Gaps,fun x=>Enc.wt x.World⟩
theorem TSpectator.same {x y:TSpectator} (h0:x.World=y.World) (h1:x.Gaps=y.Gaps):x=y:=by cases x; cases y; simp_all

theorem to_Body (x:TBody) (hg:Enc.wt x≤1048576):Con Tryz.prog 236 [] [ag x] (ownO (Enc.e x)) (.o (.ag (ownV 0 (Enc.e x)))):=by
 refine Con.of Tryz.func236 J Tryz.ntmps236 J (fun E => ?_)
 refine Wz [85,4,1,40,4,41,42,42,42,42,42,42,42,42,86,45,30,99] ?_
 exact Xi J J J J (Xw [] (by decide) J J J)
theorem eq_Body (x y:TBody) (hg:Enc.gd x):Con Tryz.prog 218 [] [ag x,ag y] [] (B (decide (x=y))):=by
 obtain⟨g_Kind,g_Owner,g_X,g_Y,g_VX,g_VY,g_Aim,g_Life,g_Timer⟩:=hg
 by_cases e_Kind:¬x.Kind=y.Kind
 ·have hk:decide (x.Kind≠y.Kind)=true:=by simp[e_Kind]
  refine Con.of Tryz.func218 J Tryz.ntmps218 J (fun E => ?_)
  refine Wz [34,33] ?_
  exact Xk J J (Xw [] (by decide) J J (Xg (Gqa fun e=>e_Kind (by rw[e])).symm))
 have e_Kind:=Classical.not_not.1 e_Kind
 have k_Kind:decide (x.Kind≠y.Kind)=false:=by simp[e_Kind]
 by_cases e_Owner:¬x.Owner=y.Owner
 ·have hk:decide (x.Owner≠y.Owner)=true:=by simp[e_Owner]
  refine Con.of Tryz.func218 J Tryz.ntmps218 J (fun E => ?_)
  refine Wz [34,107,33] ?_
  exact Xk J J (Xw [] (by decide) J J (Xg (Gqa fun e=>e_Owner (by rw[e])).symm))
 have e_Owner:=Classical.not_not.1 e_Owner
 have k_Owner:decide (x.Owner≠y.Owner)=false:=by simp[e_Owner]
 by_cases e_X:¬x.X=y.X
 ·have hk:decide (x.X≠y.X)=true:=by simp[e_X]
  refine Con.of Tryz.func218 J Tryz.ntmps218 J (fun E => ?_)
  refine Wz [34,114,33] ?_
  exact Xk J J (Xw [] (by decide) J J (Xg (Gqa fun e=>e_X (by rw[e])).symm))
 have e_X:=Classical.not_not.1 e_X
 have k_X:decide (x.X≠y.X)=false:=by simp[e_X]
 by_cases e_Y:¬x.Y=y.Y
 ·have hk:decide (x.Y≠y.Y)=true:=by simp[e_Y]
  refine Con.of Tryz.func218 J Tryz.ntmps218 J (fun E => ?_)
  refine Wz [34,114,107,33] ?_
  exact Xk J J (Xw [] (by decide) J J (Xg (Gqa fun e=>e_Y (by rw[e])).symm))
 have e_Y:=Classical.not_not.1 e_Y
 have k_Y:decide (x.Y≠y.Y)=false:=by simp[e_Y]
 by_cases e_VX:¬x.VX=y.VX
 ·have hk:decide (x.VX≠y.VX)=true:=by simp[e_VX]
  refine Con.of Tryz.func218 J Tryz.ntmps218 J (fun E => ?_)
  refine Wz [34,121,33] ?_
  exact Xk J J (Xw [] (by decide) J J (Xg (Gqa fun e=>e_VX (by rw[e])).symm))
 have e_VX:=Classical.not_not.1 e_VX
 have k_VX:decide (x.VX≠y.VX)=false:=by simp[e_VX]
 by_cases e_VY:¬x.VY=y.VY
 ·have hk:decide (x.VY≠y.VY)=true:=by simp[e_VY]
  refine Con.of Tryz.func218 J Tryz.ntmps218 J (fun E => ?_)
  refine Wz [34,121,107,33] ?_
  exact Xk J J (Xw [] (by decide) J J (Xg (Gqa fun e=>e_VY (by rw[e])).symm))
 have e_VY:=Classical.not_not.1 e_VY
 have k_VY:decide (x.VY≠y.VY)=false:=by simp[e_VY]
 by_cases e_Aim:¬x.Aim=y.Aim
 ·have hk:decide (x.Aim≠y.Aim)=true:=by simp[e_Aim]
  refine Con.of Tryz.func218 J Tryz.ntmps218 J (fun E => ?_)
  refine Wz [34,121,114,33] ?_
  exact Xk J J (Xw [] (by decide) J J (Xg (Gqa fun e=>e_Aim (by rw[e])).symm))
 have e_Aim:=Classical.not_not.1 e_Aim
 have k_Aim:decide (x.Aim≠y.Aim)=false:=by simp[e_Aim]
 by_cases e_Life:¬x.Life=y.Life
 ·have hk:decide (x.Life≠y.Life)=true:=by simp[e_Life]
  refine Con.of Tryz.func218 J Tryz.ntmps218 J (fun E => ?_)
  refine Wz [34,121,114,107,33] ?_
  exact Xk J J (Xw [] (by decide) J J (Xg (Gqa fun e=>e_Life (by rw[e])).symm))
 have e_Life:=Classical.not_not.1 e_Life
 have k_Life:decide (x.Life≠y.Life)=false:=by simp[e_Life]
 by_cases e_Timer:¬x.Timer=y.Timer
 ·have hk:decide (x.Timer≠y.Timer)=true:=by simp[e_Timer]
  refine Con.of Tryz.func218 J Tryz.ntmps218 J (fun E => ?_)
  refine Wz [34,121,121,33] ?_
  exact Xk J J (Xw [] (by decide) J J (Xg (Gqa fun e=>e_Timer (by rw[e])).symm))
 have e_Timer:=Classical.not_not.1 e_Timer
 have k_Timer:decide (x.Timer≠y.Timer)=false:=by simp[e_Timer]
 refine Con.of Tryz.func218 J Tryz.ntmps218 J (fun E => ?_)
 refine Wz [34,121,121,83,54,61] ?_
 exact Xk J J (Xw [] (by decide) J J (Xg (Gqb (TBody.same e_Kind e_Owner e_X e_Y e_VX e_VY e_Aim e_Life e_Timer)).symm))
theorem eq_BodyS (xs ys:List TBody) (hn:Enc.gd xs):Con Tryz.prog 141 [] [al xs,al ys] [] (B (decide (xs=ys))):=by
 have hn1:=hn.1
 have hlx:=Yf xs
 have hly:=Yf ys
 by_cases hl:xs.length=ys.length
 ·have hb:decide (((els xs).length:Int)≠((els ys).length:Int))=false:=by rw[hlx,hly,hl]; simp
  refine Con.of Tryz.func141 J Tryz.ntmps141 J (fun E => ?_)
  refine Wz [100,14,83,39,44] ?_;refine Xf (fun m st=>∃ k:Nat,k+m=xs.length∧(xs.take k=ys.take k)∧st=(⟨_,[(0,L xs),(1,L ys),(5,I k)],[]⟩:St)) (xs.length) ⟨_,⟨0,by omega,by simp,J⟩,Xy [] (by kernel_rfl)⟩ ?_
  rintro m_A _ ⟨k,hk_A,hp_A,rfl⟩
  refine Wz [57] ?_
  refine Q9 J (fun h => ?_) (fun h => ?_)
  ·have h3:k<xs.length:=by have:=Gqc h; omega
   have h4:k<ys.length:=by omega
   have hat:=Yc h3
   have hat2:=Yc h4
   have hc:=eq_Body xs[k] ys[k] (hn.2 _ (Gqd h3))
   by_cases he:xs[k]=ys[k]
   ·rw[Gqb he] at hc
    refine Wz [84,132,90,90] ?_;refine DR.s (Qj J J (hc) J) J J ?_;refine Wz [65,12,79,58] ?_
    exact⟨xs.length-(k+1),by omega,_,⟨k+1,by omega,Ym h3 h4 hp_A he,J⟩,Xy [] (by kernel_rfl)⟩
   ·rw[Gqa he] at hc
    refine Wz [84,132,90,90] ?_;refine DR.s (Qj J J (hc) J) J J ?_;refine Wz [65,12,17,51] ?_
    exact Xk J J (Xw [] (by decide) J J (Xg (eq_ne h3 h4 he).symm))
  ·have h3:¬((k:Int)<(els xs).length):=Gqe h
   refine Wz [16,61] ?_
   exact Xk J J (Xw [] (by decide) J J (Xg (Yk (by omega) hl hp_A).symm))
 ·have hb:decide (((els xs).length:Int)≠((els ys).length:Int))=true:=by rw[hlx,hly]; simp; omega
  refine Con.of Tryz.func141 J Tryz.ntmps141 J (fun E => ?_)
  refine Wz [100,14,33] ?_
  exact Xk J J (Xw [] (by decide) J J (Xg (Yl hl).symm))
theorem wts_body:∀ xs:List TBody,wts xs=0
 | []=>rfl
 |x::xs=>by simp[wts,wts_body xs,Enc.wt]
theorem sz_BodyS (xs:List TBody) (left:Int) (hg:Enc.gd xs) (h0:0≤left) (h1:left≤1048576):Con Tryz.prog 179 [] [al xs,ai left] [] (I (szr (Enc.wt xs) left)):=by
 have hlen:=Yf xs
 have hx:=hg.1
 have hw:Enc.wt xs=xs.length:=by simp[Enc.wt,wts_body]
 refine Con.of Tryz.func179 J Tryz.ntmps179 J (fun E => ?_)
 refine Wz [1,5,7,14,74,46,38] ?_
 refine Q9 J (fun h => ?_) (fun h => ?_)
 ·refine Wz [35] ?_
  have h2:=Gqc (p:=_) (by simpa using h)
  exact Xk J J (Xw [] (by decide) J J (Xn (by rw[Kl (by omega)])))
 ·refine Wz [64,9,5] ?_
  refine Wz [99] ?_
  have h2:=Gqe h
  exact Xk J J (Xw [] (by decide) J J (Xn (by rw[Km (by omega)]; omega)))
def zBody:List T := [.v (.int .i64 0),.v (.int .i64 0),.v (.int .i64 0),.v (.int .i64 0),.v (.int .i64 0),.v (.int .i64 0),.v (.int .i64 0),.v (.int .i64 0),.v (.int .i64 0)]
theorem to_BodyS (xs:List TBody) (hg:Enc.wt xs≤1048576):Con Tryz.prog 190 [] [al xs] [.row 9 (els xs)] (.o (.c (.ref 0))):=by
 have hlen:=Yf xs
 have hw:Enc.wt xs=xs.length+wts xs:=rfl
 have hw2:=wts_body xs
 refine Con.of Tryz.func190 J Tryz.ntmps190 J (fun E => ?_)
 refine Wz [1,19,14,219,130] ?_;refine Xf (fun m st=>∃ k:Nat,k+m=xs.length∧(True)∧st=(⟨_,[(0,L xs),(3,.o (.c (.ref 0))),(4,I k)],[.row 9 (part xs zBody k)]⟩:St)) (xs.length) ⟨(fun k:Nat=>(⟨_,[(0,L xs),(3,.o (.c (.ref 0))),(4,I k)],[.row 9 (part xs zBody k)]⟩:St)) 0,⟨0,by omega,trivial,J⟩,Xz [0] (by decide) J (Kf (Zd xs _)) (.c J (.c J (.c J (.nil))))⟩ ?_
 rintro m_A _ ⟨k,hk_A,hp_A,rfl⟩
 refine Wz [57] ?_
 refine Q9 J (fun h => ?_) (fun h => ?_)
 ·have h3:k<xs.length:=by have:=Gqc h; omega
  have hat:=Yc h3
  have hz:=Za xs zBody h3
  have hpl:(k:Int)<(part xs zBody k).length:=by rw[Zb xs _ (by omega)]; omega
  have hc:=to_Body xs[k] (by show (0:Nat)≤_; omega)
  refine Wz [6,78,131,37] ?_;refine M1 (Zm J J (hc) J J J) J J ?_;refine Wz [165,193,93] ?_
  exact⟨xs.length-(k+1),by omega,(fun k:Nat=>(⟨_,[(0,L xs),(3,.o (.c (.ref 0))),(4,I k)],[.row 9 (part xs zBody k)]⟩:St)) (k+1),⟨k+1,by omega,trivial,J⟩,Xz [0] (by decide) J (Kf (Zc xs zBody h3 _ (by rfl) (by rfl)).symm) (.c J (.c J (.c J (.nil))))⟩
 ·have h3:¬((k:Int)<(els xs).length):=Gqe h
  refine Wz [27] ?_
  exact Xk J J (Xw [0] (by decide) J (Kf (Y9 xs _ (by omega)).symm) J)
theorem sz_World (x:TWorld) (left:Int) (hg:Enc.gd x) (h0:0≤left) (h1:left≤1048576):Con Tryz.prog 97 [] [ag x,ai left] [] (I (szr (Enc.wt x) left)):=by
 obtain⟨g_Level,g_Tick,g_Seed,g_Scores,g_Bodies⟩:=hg
 have hw:Enc.wt x=Enc.wt x.Level+Enc.wt x.Scores+Enc.wt x.Bodies:=rfl
 have hm1:decide ((-1:Int)<0)=true:=rfl
 have hc_Level:=sz_Level x.Level (left) g_Level (by omega) (by omega)
 by_cases n_Level:left<Enc.wt x.Level
 ·rw[Kl n_Level] at hc_Level
  refine Con.of Tryz.func97 J Tryz.ntmps97 J (fun E => ?_)
  refine Wz [47,94] ?_;refine zx (Qj J J (hc_Level) J) J ?_;refine Wz [80,23] ?_
  exact Xk J J (Xw [] (by decide) J J (Xn (by rw[Kl (by omega)])))
 rw[Km (by omega)] at hc_Level
 have hb_Level:decide (left-Enc.wt x.Level<0)=false:=Gqa (by omega)
 have hc_Scores:=sz_IntS x.Scores (left-Enc.wt x.Level) g_Scores (by omega) (by omega)
 by_cases n_Scores:left-Enc.wt x.Level<Enc.wt x.Scores
 ·rw[Kl n_Scores] at hc_Scores
  refine Con.of Tryz.func97 J Tryz.ntmps97 J (fun E => ?_)
  refine Wz [47,94] ?_;refine zx (Qj J J (hc_Level) J) J ?_;refine Wz [24] ?_;refine zx (Qj J J (hc_Scores) J) J ?_;refine Wz [80,23] ?_
  exact Xk J J (Xw [] (by decide) J J (Xn (by rw[Kl (by omega)])))
 rw[Km (by omega)] at hc_Scores
 have hb_Scores:decide (left-Enc.wt x.Level-Enc.wt x.Scores<0)=false:=Gqa (by omega)
 have hc_Bodies:=sz_BodyS x.Bodies (left-Enc.wt x.Level-Enc.wt x.Scores) g_Bodies (by omega) (by omega)
 by_cases n_Bodies:left-Enc.wt x.Level-Enc.wt x.Scores<Enc.wt x.Bodies
 ·rw[Kl n_Bodies] at hc_Bodies
  refine Con.of Tryz.func97 J Tryz.ntmps97 J (fun E => ?_)
  refine Wz [47,94] ?_;refine zx (Qj J J (hc_Level) J) J ?_;refine Wz [24] ?_;refine zx (Qj J J (hc_Scores) J) J ?_;refine Wz [24] ?_;refine zx (Qj J J (hc_Bodies) J) J ?_;refine Wz [80,23] ?_
  exact Xk J J (Xw [] (by decide) J J (Xn (by rw[Kl (by omega)])))
 rw[Km (by omega)] at hc_Bodies
 have hb_Bodies:decide (left-Enc.wt x.Level-Enc.wt x.Scores-Enc.wt x.Bodies<0)=false:=Gqa (by omega)
 refine Con.of Tryz.func97 J Tryz.ntmps97 J (fun E => ?_)
 refine Wz [47,94] ?_;refine zx (Qj J J (hc_Level) J) J ?_;refine Wz [24] ?_;refine zx (Qj J J (hc_Scores) J) J ?_;refine Wz [24] ?_;refine zx (Qj J J (hc_Bodies) J) J ?_;refine Wz [101,166] ?_
 exact Xk J J (Xw [] (by decide) J J (Xn (by rw[Km (by omega)]; omega)))
theorem to_World (x:TWorld) (hg:Enc.wt x≤1048576):Con Tryz.prog 104 [] [ag x] (ownO (Enc.e x)) (.o (.ag (ownV 0 (Enc.e x)))):=by
 have hw:Enc.wt x=Enc.wt x.Level+Enc.wt x.Scores+Enc.wt x.Bodies:=rfl
 refine Con.of Tryz.func104 J Tryz.ntmps104 J (fun E => ?_)
 refine Wz [85,4,1,40,4,162] ?_;refine M1 (Zm J J (to_Level x.Level (by omega)) J J J) J J ?_;refine Wz [81,30,41,42,42] ?_;refine M1 (Zm J J (to_IntS x.Scores (by omega)) J J J) J J ?_;refine Wz [42] ?_;refine M1 (Zm J J (to_BodyS x.Bodies (by omega)) J J J) J J ?_;refine Wz [86,45,30,99] ?_
 exact Xi J J J J (Xw [3,4,5] (by decide) J J J)
theorem eq_World (x y:TWorld) (hg:Enc.gd x):Con Tryz.prog 48 [] [ag x,ag y] [] (B (decide (x=y))):=by
 obtain⟨g_Level,g_Tick,g_Seed,g_Scores,g_Bodies⟩:=hg
 by_cases e_Level:¬x.Level=y.Level
 ·have hc:=eq_Level x.Level y.Level g_Level
  rw[Gqa e_Level] at hc
  refine Con.of Tryz.func48 J Tryz.ntmps48 J (fun E => ?_)
  refine Wz [122,55] ?_;refine zx (Qj J J (hc) J) J ?_;refine Wz [3,23] ?_
  exact Xk J J (Xw [] (by decide) J J (Xg (Gqa fun e=>e_Level (by rw[e])).symm))
 have e_Level:=Classical.not_not.1 e_Level
 have hc_Level:=eq_Level x.Level y.Level g_Level
 rw[Gqb e_Level] at hc_Level
 by_cases e_Tick:¬x.Tick=y.Tick
 ·have hk:decide (x.Tick≠y.Tick)=true:=by simp[e_Tick]
  refine Con.of Tryz.func48 J Tryz.ntmps48 J (fun E => ?_)
  refine Wz [122,55] ?_;refine zx (Qj J J (hc_Level) J) J ?_;refine Wz [10,33] ?_
  exact Xk J J (Xw [] (by decide) J J (Xg (Gqa fun e=>e_Tick (by rw[e])).symm))
 have e_Tick:=Classical.not_not.1 e_Tick
 have k_Tick:decide (x.Tick≠y.Tick)=false:=by simp[e_Tick]
 by_cases e_Seed:¬x.Seed=y.Seed
 ·have hk:decide (x.Seed≠y.Seed)=true:=by simp[e_Seed]
  refine Con.of Tryz.func48 J Tryz.ntmps48 J (fun E => ?_)
  refine Wz [122,55] ?_;refine zx (Qj J J (hc_Level) J) J ?_;refine Wz [10,107,33] ?_
  exact Xk J J (Xw [] (by decide) J J (Xg (Gqa fun e=>e_Seed (by rw[e])).symm))
 have e_Seed:=Classical.not_not.1 e_Seed
 have k_Seed:decide (x.Seed≠y.Seed)=false:=by simp[e_Seed]
 by_cases e_Scores:¬x.Scores=y.Scores
 ·have hc:=eq_IntS x.Scores y.Scores g_Scores
  rw[Gqa e_Scores] at hc
  refine Con.of Tryz.func48 J Tryz.ntmps48 J (fun E => ?_)
  refine Wz [122,55] ?_;refine zx (Qj J J (hc_Level) J) J ?_;refine Wz [10,114] ?_;refine zx (Qj J J (hc) J) J ?_;refine Wz [3,23] ?_
  exact Xk J J (Xw [] (by decide) J J (Xg (Gqa fun e=>e_Scores (by rw[e])).symm))
 have e_Scores:=Classical.not_not.1 e_Scores
 have hc_Scores:=eq_IntS x.Scores y.Scores g_Scores
 rw[Gqb e_Scores] at hc_Scores
 by_cases e_Bodies:¬x.Bodies=y.Bodies
 ·have hc:=eq_BodyS x.Bodies y.Bodies g_Bodies
  rw[Gqa e_Bodies] at hc
  refine Con.of Tryz.func48 J Tryz.ntmps48 J (fun E => ?_)
  refine Wz [122,55] ?_;refine zx (Qj J J (hc_Level) J) J ?_;refine Wz [10,114] ?_;refine zx (Qj J J (hc_Scores) J) J ?_;refine Wz [10] ?_;refine zx (Qj J J (hc) J) J ?_;refine Wz [3,23] ?_
  exact Xk J J (Xw [] (by decide) J J (Xg (Gqa fun e=>e_Bodies (by rw[e])).symm))
 have e_Bodies:=Classical.not_not.1 e_Bodies
 have hc_Bodies:=eq_BodyS x.Bodies y.Bodies g_Bodies
 rw[Gqb e_Bodies] at hc_Bodies
 refine Con.of Tryz.func48 J Tryz.ntmps48 J (fun E => ?_)
 refine Wz [122,55] ?_;refine zx (Qj J J (hc_Level) J) J ?_;refine Wz [10,114] ?_;refine zx (Qj J J (hc_Scores) J) J ?_;refine Wz [10] ?_;refine zx (Qj J J (hc_Bodies) J) J ?_;refine Wz [3,54,61] ?_
 exact Xk J J (Xw [] (by decide) J J (Xg (Gqb (TWorld.same e_Level e_Tick e_Seed e_Scores e_Bodies)).symm))
theorem sz_Spectator (x:TSpectator) (left:Int) (hg:Enc.gd x) (h0:0≤left) (h1:left≤1048576):Con Tryz.prog 205 [] [ag x,ai left] [] (I (szr (Enc.wt x) left)):=by
 obtain⟨g_World,g_Gaps⟩:=hg
 have hw:Enc.wt x=Enc.wt x.World:=rfl
 have hm1:decide ((-1:Int)<0)=true:=rfl
 have hc_World:=sz_World x.World (left) g_World (by omega) (by omega)
 by_cases n_World:left<Enc.wt x.World
 ·rw[Kl n_World] at hc_World
  refine Con.of Tryz.func205 J Tryz.ntmps205 J (fun E => ?_)
  refine Wz [47,94] ?_;refine zx (Qj J J (hc_World) J) J ?_;refine Wz [80,23] ?_
  exact Xk J J (Xw [] (by decide) J J (Xn (by rw[Kl (by omega)])))
 rw[Km (by omega)] at hc_World
 have hb_World:decide (left-Enc.wt x.World<0)=false:=Gqa (by omega)
 refine Con.of Tryz.func205 J Tryz.ntmps205 J (fun E => ?_)
 refine Wz [47,94] ?_;refine zx (Qj J J (hc_World) J) J ?_;refine Wz [101,166] ?_
 exact Xk J J (Xw [] (by decide) J J (Xn (by rw[Km (by omega)]; omega)))
theorem to_Spectator (x:TSpectator) (hg:Enc.wt x≤1048576):Con Tryz.prog 209 [] [ag x] (ownO (Enc.e x)) (.o (.ag (ownV 0 (Enc.e x)))):=by
 have hw:Enc.wt x=Enc.wt x.World:=rfl
 refine Con.of Tryz.func209 J Tryz.ntmps209 J (fun E => ?_)
 refine Wz [85,4,1,40,4,162] ?_;refine M1 (Zm J J (to_World x.World (by omega)) J J J) J J ?_;refine Wz [81,30,41,86,45,30,99] ?_
 exact Xi J J J J (Xw [3,4,5] (by decide) J J J)
theorem eq_Spectator (x y:TSpectator) (hg:Enc.gd x):Con Tryz.prog 169 [] [ag x,ag y] [] (B (decide (x=y))):=by
 obtain⟨g_World,g_Gaps⟩:=hg
 by_cases e_World:¬x.World=y.World
 ·have hc:=eq_World x.World y.World g_World
  rw[Gqa e_World] at hc
  refine Con.of Tryz.func169 J Tryz.ntmps169 J (fun E => ?_)
  refine Wz [122,55] ?_;refine zx (Qj J J (hc) J) J ?_;refine Wz [3,23] ?_
  exact Xk J J (Xw [] (by decide) J J (Xg (Gqa fun e=>e_World (by rw[e])).symm))
 have e_World:=Classical.not_not.1 e_World
 have hc_World:=eq_World x.World y.World g_World
 rw[Gqb e_World] at hc_World
 by_cases e_Gaps:¬x.Gaps=y.Gaps
 ·have hk:decide (x.Gaps≠y.Gaps)=true:=by simp[e_Gaps]
  refine Con.of Tryz.func169 J Tryz.ntmps169 J (fun E => ?_)
  refine Wz [122,55] ?_;refine zx (Qj J J (hc_World) J) J ?_;refine Wz [10,33] ?_
  exact Xk J J (Xw [] (by decide) J J (Xg (Gqa fun e=>e_Gaps (by rw[e])).symm))
 have e_Gaps:=Classical.not_not.1 e_Gaps
 have k_Gaps:decide (x.Gaps≠y.Gaps)=false:=by simp[e_Gaps]
 refine Con.of Tryz.func169 J Tryz.ntmps169 J (fun E => ?_)
 refine Wz [122,55] ?_;refine zx (Qj J J (hc_World) J) J ?_;refine Wz [10,83,54,61] ?_
 exact Xk J J (Xw [] (by decide) J J (Xg (Gqb (TSpectator.same e_World e_Gaps)).symm))

/-! ### Marks -/
end
end Go.Proofs.YtoecjaohdnoenaaGreat
