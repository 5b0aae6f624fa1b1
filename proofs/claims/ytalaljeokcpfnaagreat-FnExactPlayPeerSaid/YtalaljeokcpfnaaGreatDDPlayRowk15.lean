/-
  Rules, data and contracts of functions: part 16 of the proof.
  Conditions: those that each theorem names.
-/
import Derived.ProofKit
import Derived.Deep.Slices
import Derived.Test.YtalaljeokcpfnaaGreatDDPlayRowk13
import Derived.Test.YtalaljeokcpfnaaGreatDDPlayRowk14
set_option linter.unusedVariables false
set_option linter.unusedSimpArgs false
set_option maxRecDepth 4096
set_option maxHeartbeats 8000000
namespace Go.Proofs.YtalaljeokcpfnaaGreat
section
open Go.RowKit Go.ChangeShapes Go.WideShapes Go.Deep

def I64 (x:Int):Prop := -9223372036854775808≤x∧x≤9223372036854775807

class Enc (α:Type) where
 k:Nat
 pos:0<k
 e:α→List T
 len:∀ x,(e x).length=k
 gd:α→Prop
 wt:α→Nat
instance:Enc Int:=⟨1,Aqa,fun x => [.v (.int .i64 x)],fun _=>rfl,I64,fun _=>0⟩
instance:Enc Bool:=⟨1,Aqa,fun x => [.v (.bool x)],fun _=>rfl,fun _=>True,fun _=>0⟩
instance:Enc ByteArray:=⟨1,Aqa,fun x => [.v (.string x)],fun _=>rfl,fun x=>x.size≤9223372036854775807,fun x=>x.size⟩
def wts {α:Type} [Enc α]:List α→Nat
 | []=>0
 |x::xs=>Enc.wt x+wts xs
@[reducible] def els {α:Type} [Enc α] (xs:List α):List (List T):=xs.map Enc.e
instance {α:Type} [Enc α]:Enc (List α):=⟨1,Aqa,fun xs => [.sl (Enc.k α) (els xs)],fun _=>rfl,fun xs=>xs.length≤9223372036854775807∧∀ x∈xs,Enc.gd x,fun xs=>xs.length+wts xs⟩

@[reducible] def sl {α:Type} [Enc α] (xs:List α):T := .sl (Enc.k α) (els xs)
@[reducible] def ac (x:T):V2 := .c (.rd [] x)
@[reducible] def ai (n:Int):V2 := .c (.rd [] (.v (.int .i64 n)))
@[reducible] def astr (s:ByteArray):V2 := .c (.rd [] (.v (.string s)))
@[reducible] def al {α:Type} [Enc α] (xs:List α):V2 := .c (.rd [] (sl xs))
@[reducible] def ag {α:Type} [Enc α] (x:α):V2 := .ag ((Enc.e x).map (V1.rd []))
@[reducible] def L {α:Type} [Enc α] (xs:List α):V := .o (al xs)

class PlainE (α:Type) [Enc α]:Prop where
 plain:∀ (x:α) (t:T),t∈Enc.e x→∃ u,t = .v u
instance:PlainE Int:=⟨fun x t h=>by simp[Enc.e] at h; exact⟨_,h⟩⟩
instance:PlainE Bool:=⟨fun x t h=>by simp[Enc.e] at h; exact⟨_,h⟩⟩
instance:PlainE ByteArray:=⟨fun x t h=>by simp[Enc.e] at h; exact⟨_,h⟩⟩
theorem Y8 {α:Type} [Enc α] [PlainE α] (xs:List α):plainT (els xs):=fun e he t ht=>by
 obtain⟨x,_,rfl⟩:=Gqv.1 he
 exact PlainE.plain x t ht
theorem Y6 {α:Type} [Enc α] (xs:List α):∀ e∈els xs,e.length=Enc.k α:=fun e he=>by
 obtain⟨x,_,rfl⟩:=Gqv.1 he
 exact Enc.len x
@[reducible] def bs (l:List UInt8):ByteArray:=⟨l.toArray⟩
theorem Yv (a b:List UInt8):bs a++bs b=bs (a++b):=by
 apply ByteArray.ext
 rw[ByteArray.data_append]
 simp[bs]
theorem Yx (l:List UInt8):(bs l).size=l.length:=by simp[bs,ByteArray.size]
theorem cat_size (a b:ByteArray):(a++b).size=a.size+b.size:=by simp[ByteArray.size_append]
theorem Yw (l:List UInt8):(bs l).data.toList=l:=by simp[bs]
theorem bs_of (s:ByteArray):bs s.data.toList=s:=by simp[bs]
theorem bs_inj {a b:List UInt8}:bs a=bs b↔a=b:=⟨fun h=>by have:=congrArg (·.data.toList) h; simpa[Yw] using this,fun h=>by rw[h]⟩
theorem S_eq {a b:ByteArray} (h:a=b):S a=S b:=by rw[h]
theorem Ys (a b:List UInt8):bE a++bE b=bE (a++b):=by simp[bE]
theorem bE_snoc (a:List UInt8) (n:Int) (h:0≤n∧n≤255):bE a ++ [[.v (.int .u8 n)]]=bE (a ++ [UInt8.ofNat n.toNat]):=by
 have h1:((UInt8.ofNat n.toNat).toNat:Int)=n:=by
  rw[UInt8.toNat_ofNat']
  omega
 unfold bE
 rw[List.map_append,List.map_cons,List.map_nil,h1]

theorem Y4 {α:Type} [Enc α] {xs:List α} {k:Nat} (h:k<xs.length):(els xs)[(k:Int).toNat]? = some (Enc.e xs[k]):=by simp[els,h]
theorem Y7 {α:Type} [Enc α] (xs:List α):(els xs).length=xs.length:=by simp[els]
theorem Un {α:Type} [Enc α]:∀ (xs:List α) (k:Nat) (h:k<xs.length),wts (xs.take (k+1))=wts (xs.take k)+Enc.wt xs[k]
 |x::xs,0,_=>by simp[wts]
 |x::xs,k+1,h=>by
  have:=Un xs k (by simpa using h)
  simp only[List.take_succ_cons,wts,List.getElem_cons_succ,this]
  omega
theorem Um {α:Type} [Enc α]:∀ (xs:List α) (x:α),x∈xs→Enc.wt x≤wts xs
 |y::xs,x,h=>by
  simp only[wts]
  rcases List.mem_cons.1 h with rfl | h
  ·omega
  ·have:=Um xs x h; omega
theorem Uo {α:Type} [Enc α]:∀ (xs:List α) (k:Nat),wts (xs.take k)≤wts xs
 | [],k=>by simp[wts]
 |x::xs,0=>by simp[wts]
 |x::xs,k+1=>by
  have:=Uo xs k
  simp only[List.take_succ_cons,wts]
  omega

/-! ### Readings -/
theorem list_of_each {α:Type} {p:Nat→α→Prop}:∀ n:Nat,(∀ i,i<n→∃ y,p i y)→∃ ys:List α,ys.length=n∧∀ (i:Nat) (y:α),ys[i]? = some y→p i y
 |0,_=>⟨[],rfl,fun _ _ h=>by simp at h⟩
 | n+1,h=>by
  obtain⟨ys,h1,h2⟩:=list_of_each n fun i hi=>h i Aqa 
  obtain⟨y,hy⟩:=h n Aqa 
  refine⟨ys ++ [y],by simp[h1],fun i z hz=>?_⟩
  rcases Gqr i ys.length with hi | hi
  ·rw[Gq2 hi] at hz
   exact h2 i z hz
  ·rw[Gq3 hi] at hz
   have hi0:i-ys.length=0:=by
    rcases Nat.eq_zero_or_pos (i-ys.length) with h0 | h0
    ·exact h0
    ·rw[List.getElem?_eq_none Bqz] at hz
     cases hz
   rw[hi0] at hz
   simp only[Gxf,Option.some.injEq] at hz
   subst hz
   have:i=n:=Aqa
   subst this
   exact hy

def Reads {α:Type} [Enc α] (w:World) (x:α) (cs:List Value):Prop:=cs.length=Enc.k α∧∀ (j:Nat) (t:T) (u:Value),(Enc.e x)[j]? = some t→cs[j]? = some u→RO w (fun _=>True) t u

class RdOf (P:Program) (t:TypeId) (α:outParam Type) [Enc α]:Prop where
 size:P.cellsOf t=Enc.k α
 of:∀ {H:Type} {enc:TypeId×Value→H} {w:World} {spare:Nat→Bool} {held:Bool} {fuel:Nat} {cs:List Value} {x:DataW H×List MemPlace},
  DataW.trod enc P w 0 spare held fuel t cs=some x→∃ y:α,Enc.gd y∧Reads w y cs

theorem i64_of_wf {n:Int} (h:(Lit.int .i64 n).wf=true):I64 n:=by
 simp[Lit.wf,IntKind.min,IntKind.max,IntKind.signed,IntKind.bits] at h
 exact⟨Aqa,Aqa⟩
theorem reads_one {α:Type} [Enc α] {w:World} {x:α} {t:T} {u:Value} (he:Enc.e x = [t]) (h:RO w (fun _=>True) t u):Reads w x [u]:=by
 refine⟨by rw[←Enc.len x,he]; rfl,fun j t' u' h1 h2 => ?_⟩
 rw[he] at h1
 cases j with
 |zero=>simp at h1 h2; subst h1 h2; exact h
 |succ j=>simp at h1
theorem rdOf_int {P:Program} {t:TypeId} (ht:P.underlying t=some (.int .i64)) (hs:P.cellsOf t=1):RdOf P t Int where
 size:=hs
 of h:=by
  obtain⟨n,rfl,_,h3⟩:=DataW.trod_int ht h
  exact⟨n,i64_of_wf h3,reads_one J (.v _ J)⟩
theorem rdOf_string {P:Program} {t:TypeId} (ht:P.underlying t=some .string) (hs:P.cellsOf t=1):RdOf P t ByteArray where
 size:=hs
 of h:=by
  obtain⟨s,rfl,_,h3⟩:=DataW.trod_string ht h
  exact⟨s,by simpa[maxLen,Enc.gd] using h3,reads_one J (.v _ J)⟩
theorem Vs {P:Program} {t e:TypeId} {α:Type} [Enc α] [hα:RdOf P e α] (ht:P.underlying t=some (.slice e)) (hs:P.cellsOf t=1):RdOf P t (List α) where
 size:=hs
 of {H enc w spare held fuel cs x} h:=by
  rcases open_slice ht h with ⟨rfl,_⟩ | ⟨a,len,cap,m,n,D,Pl,rfl,_,hl,hm,hmm,_,hi⟩
  ·exact⟨[],⟨Aqd,Aqd⟩,reads_one rfl (.nil _ _ _ (by simp[maxLen]))⟩
  ·have hlm:len≤m:=by rw[hmm]; split <;> omega
   obtain⟨ys,h1,h2⟩:=list_of_each (p:=fun i y=>∃ es,w.cells? 0 (a.add (i*P.cellsOf e)) (P.cellsOf e)=some es∧Enc.gd (α:=α) y∧Reads w y es) len fun i hi'=>by
    obtain⟨es,h3,h4⟩:=hi i Aqa 
    obtain⟨y,hy⟩:=hα.of h4
    exact⟨y,es,h3,hy⟩
   subst h1
   refine⟨ys,⟨by simp[maxLen] at hm; omega,fun y hy=>?_⟩,?_⟩
   ·obtain⟨i,hi'⟩:=List.getElem?_of_mem hy
    obtain⟨es,_,hg,_⟩:=h2 i y hi'
    exact hg
   refine reads_one J ?_
   rcases Nat.eq_zero_or_pos ys.length with h0 | h0
   ·have:=List.eq_nil_of_length_eq_zero h0
    subst this
    exact .nil _ _ _ hm
   ·have hsp:a.spot=none:=by
     obtain⟨es,h3,_⟩:=h2 0 _ (Gqg h0)
     obtain⟨_,hcl,hat⟩:=World.cells?_some h3
     have hp:0<P.cellsOf e:=by rw[hα.size]; exact Enc.pos
     have:=hat 0 hp
     rw[Gqg Aqa] at this
     have h5:=World.cell?_spot this
     simpa[Addr.add] using h5
    obtain⟨b,o,sp⟩:=a
    simp only at hsp
    subst hsp
    have hel:∀ i,i<ys.length→∃ es,w.cells? 0 ((⟨b,o,none⟩:Addr).add (i*P.cellsOf e)) (P.cellsOf e)=some es:=fun i hi'=>by
     obtain⟨es,h3,_⟩:=h2 i _ (Gqg hi')
     exact⟨es,h3⟩
    have hlen:ys.length=(els ys).length:=(Y7 ys).symm
    rw[hlen]
    refine .sl (els ys) b o (Enc.k α) cap (fun i j=>((w.cells? 0 ((⟨b,o,none⟩:Addr).add (i*P.cellsOf e)) (P.cellsOf e)).getD []).getD j undef) trivial (by rw[Y7]; exact hl) hm Enc.pos (fun e' he => ?_) (fun i j hi' hj => ?_) fun i j e' t' h3 h4 => ?_
    ·obtain⟨y,_,rfl⟩:=Gqv.1 he
     exact Enc.len y
    ·rw[Y7] at hi'
     obtain⟨es,h3⟩:=hel i hi'
     obtain⟨_,hcl,hat⟩:=World.cells?_some h3
     rw[hα.size] at hcl
     have h5:=hat j (by rw[hα.size]; exact hj)
     rw[add_lit,add_lit,hα.size,Gqg Aqa] at h5
     rw[h3]
     simp only[Option.getD_some]
     rw[h5,Gqf,Gqg Aqa]
     rfl
    ·rw[Gqk] at h3
     obtain⟨y,hy,rfl⟩:=Option.map_eq_some_iff.1 h3
     obtain⟨es,h5,_,h6⟩:=h2 i y hy
     have hj:j<es.length:=by rw[h6.1,←Enc.len y]; exact Zj h4
     show RO w _ t' (((w.cells? 0 ((⟨b,o,none⟩:Addr).add (i*P.cellsOf e)) (P.cellsOf e)).getD []).getD j undef)
     rw[h5]
     simp only[Option.getD_some]
     rw[Zi (Gqg hj)]
     exact h6.2 j t' _ h4 (Gqg hj)

theorem reads_of_Trod {P:Program} {t:TypeId} {α:Type} [Enc α] [hα:RdOf P t α] {H:Type} {enc:TypeId×Value→H} {w:World} {spare:Nat→Bool} {held:Bool} {v:Value} {d:DataW H} {p:List MemPlace}
  (h:DataW.Trod enc P w 0 spare held t v d p):∃ y:α,Enc.gd y∧Reads w y v.cells.toList:=by
 obtain⟨fuel,hf⟩:=h
 exact hα.of hf

theorem r2_agg {α:Type} [Enc α] {w:World} {H:Hs} {x:α} {cs:List Value} (h:Reads w x cs):R2 w H (fun b=>b<w.heap.size) (ag x) (.agg cs.toArray):=by
 refine⟨cs,J,by simp[h.1,Enc.len],fun i c u h1 h2=>?_⟩
 rw[Gqk] at h1
 obtain⟨t,h3,rfl⟩:=Option.map_eq_some_iff.1 h1
 exact RO.weak (h.2 i t u h3 h2) fun b _ hb => .inl hb
theorem r2_int {w:World} {H:Hs} {F:Nat→Prop} (n:Int):R2 w H F (ai n) (.int .i64 n):=RO.v _ rfl
theorem law_calls {P:Program} {f:FuncId} {args:List V2} (hc:Con P f [] args [] (B true)) (w:World) (vs:List Value) (hl:vs.length=args.length) (hr:∀ (i:Nat) (x:V2) (v:Value),args[i]? = some x→vs[i]? = some v→R2 w (fun _ => .nil) (fun b=>b<w.heap.size) x v) :
  Calls P f vs.toArray w fun e w'=>e = .returned (.bool true)∧Below w.heap.size w w':=by
 refine (hc w (fun _ => .nil) (fun b=>b<w.heap.size) vs ⟨fun _=>trivial,fun _=>by simp[Pc.fp],fun p q b h=>by simp[Pc.fp] at h,fun p b h=>by simp[Pc.fp] at h,fun _ h=>h⟩ (fun p=>by simp[RB]) hl hr).mono ?_
 rintro e w' ⟨H',F',rv,rfl,hs,_,_,hv⟩
 refine⟨by rw[(RO.plain (show RO w' _ (.v (.bool true)) rv from hv)).1],hs.os,hs.tape,hs.output,hs.size,fun b hb=>hs.keep b hb fun p=>by simp[Pc.fp]⟩

@[reducible] def Aqf (n:Nat):V := .o (.c (.ptr n 0))
@[reducible] def Aqg (n:Nat):V := .o (.c (.ref n))
@[reducible] def Aqh (n:Int):V1 := .rd [] (.v (.int .i64 n))
@[reducible] def Aqi {α:Type} [Enc α] (x:α):List V1:=(Enc.e x).map (V1.rd [])
@[reducible] def Aqj:V1 := .rd [] (.v (.slice none 0 0))
@[reducible] def Aqk (n:Nat):V1 := .ref n
end
section
open Tryz
open Go.RowKit

theorem X0 {a b:Int} (h:a=b):I a=I b:=by rw[h]
theorem Xk {a b:Bool} (h:a=b):B a=B b:=by rw[h]
def szr (n:Nat) (left:Int):Int:=if left<n then -1 else left-n
theorem Ub {n:Nat} {left:Int} (h:left<n):szr n left = -1:=if_pos h
theorem Uc {n:Nat} {left:Int} (h:(n:Int)≤left):szr n left=left-n:=if_neg Aqa 
theorem wts_int:∀ xs:List Int,wts xs=0
 | []=>rfl
 |x::xs=>by simp[wts,wts_int xs,Enc.wt]
theorem eq_ne {α:Type} [DecidableEq α] {xs ys:List α} {j:Nat} (h1:j<xs.length) (h2:j<ys.length) (h:¬xs[j]=ys[j]):decide (xs=ys)=false:=by
 rw[decide_eq_false_iff_not]
 intro e
 subst e
 exact h J
theorem eq_all {α:Type} [DecidableEq α] {xs ys:List α} {j:Nat} (h1:xs.length≤j) (h2:xs.length=ys.length) (h:xs.take j=ys.take j):decide (xs=ys)=true:=by
 rw[Gqj h1,Gqj Aqa] at h
 simp[h]
theorem eq_len {α:Type} [DecidableEq α] {xs ys:List α} (h:xs.length≠ys.length):decide (xs=ys)=false:=by
 rw[decide_eq_false_iff_not]
 intro e
 subst e
 exact h J
theorem eq_next {α:Type} {xs ys:List α} {j:Nat} (h1:j<xs.length) (h2:j<ys.length) (h:xs.take j=ys.take j) (e:xs[j]=ys[j]):xs.take (j+1)=ys.take (j+1):=by
 rw[Gxb h1,Gxb h2,h,e]

/-! ### Counting -/
theorem sz_IntS (xs:List Int) (left:Int) (hg:Enc.gd xs) (h0:0≤left) (h1:left≤1048576):Co 59 [] [al xs,ai left] [] (I (szr (Enc.wt xs) left)):=by
 have va_:=@wts_int; have vb_:=@func59; have vc_:=@ntmps59; exact Bqa
theorem sz_StringS (xs:List ByteArray) (left:Int) (hg:Enc.gd xs) (h0:0≤left) (h1:left≤1048576):Co 58 [] [al xs,ai left] [] (I (szr (Enc.wt xs) left)):=by
 have hlen:=Y7 xs
 have hx:=hg.1
 have hw:Enc.wt xs=xs.length+wts xs:=rfl
 refine Con.o func58 ntmps58 fun E=>?_;refine Wz [23,10,25,29,40,58] ?_
 refine Xb J (fun h=>?_) (fun h=>?_)
 ·refine Wz [69] ?_
  have h2:=Gqc h
  exact Bzi
 have h2:¬(left-((els xs).length:Int)<0):=Gqd h
 refine Wz [108,51] ?_
 refine A_lp xs.length (fun k=>(xs.length:Int)+wts (xs.take k)≤left) (fun k => [(0,L xs),(1,I (left-(xs.length+wts (xs.take k)))),(5,I k)]) (fun k => []) (by simp[wts]; omega) (Yk [] Aqc J Aqb (.c J (.cons (X0 (by simp[els,wts])) (.c J (.nil))))) ?_
 intro m_A k hk_A hp_A
 refine Wz [114] ?_
 refine Xb J (fun h=>?_) (fun h=>?_)
 ·have h3:k<xs.length:=Bqx
  have hat:=Y4 h3
  have hstep:=Un xs k h3
  have hle:=Uo xs (k+1)
  have hws:Enc.wt xs[k]=xs[k].size:=rfl
  have hgd:xs[k].size≤9223372036854775807:=hg.2 _ (Gqe h3)
  by_cases h4:left-((xs.length:Int)+wts (xs.take k))-xs[k].size<0
  ·have hb:decide (left-((xs.length:Int)+wts (xs.take k))-xs[k].size<0)=true:=Gqb h4
   refine Wz [9,50,100,38,29,44,157,45,57] ?_
   exact Bzi
  ·have hb:decide (left-((xs.length:Int)+wts (xs.take k))-xs[k].size<0)=false:=Gqa h4
   refine Wz [9,50,100,38,29,44,19,81] ?_
   exact .n (k+1) Aqa (Yk [] Aqc J Aqb (.c J (.cons (X0 (by rw[hstep]; omega)) (.c J (.nil)))))
 ·have h3:¬((k:Int)<(els xs).length):=Gqd h
  have hk:wts (xs.take k)=wts xs:=by rw[Gqj Aqa]
  refine Wz [74] ?_
  exact E_w [] J (X0 Bxb)
theorem sz_IntSS (xs:List (List Int)) (left:Int) (hg:Enc.gd xs) (h0:0≤left) (h1:left≤1048576):Co 12 [] [al xs,ai left] [] (I (szr (Enc.wt xs) left)):=by
 have va_:=@func12; have vb_:=@ntmps12; have vc_:=@sz_IntS; have vd_:=fun{R G:Prop}=>@Wz R G [9,10,158,48]; exact Bqb
/-! ### Copying -/
def part {α:Type} [Enc α] (xs:List α) (z:List T) (k:Nat):List (List T):=els (xs.take k)++List.replicate (xs.length-k) z
theorem Kb {α:Type} [Enc α] (xs:List α) (z:List T) {k:Nat} (h:k≤xs.length):(part xs z k).length=xs.length:=by simp[part,els]; omega
theorem Kd {α:Type} [Enc α] (xs:List α) (z:List T):part xs z 0=List.replicate (((els xs).length:Int)).toNat z:=by simp[part,els]
theorem Z9 {α:Type} [Enc α] (xs:List α) (z:List T) {k:Nat} (h:xs.length≤k):part xs z k=els xs:=by
 unfold part
 rw[Gqj h,show xs.length-k=0 by omega]
 simp
theorem Ka {α:Type} [Enc α] (xs:List α) (z:List T) {k:Nat} (h:k<xs.length):(part xs z k)[(k:Int).toNat]? = some z:=by
 have h1:(els (xs.take k)).length=k:=by simp[els]; omega
 unfold part
 rw[Int.toNat_natCast,Gq3 Aqa,h1,Gx8,List.getElem?_replicate,if_pos Aqa]
theorem Kc {α:Type} [Enc α] (xs:List α) (z:List T) {k:Nat} (h:k<xs.length) (ts:List T) (ht:ts=Enc.e xs[k]) (hz:z.length=ts.length):(part xs z k).set (k:Int).toNat (splice z 0 ts)=part xs z (k+1):=by
 have h1:(els (xs.take k)).length=k:=by simp[els]; omega
 have h2:splice z 0 ts=ts:=by simp[splice,hz]
 subst ht
 unfold part
 rw[h2,Int.toNat_natCast,List.set_append_right _ _ Aqa,h1,Gx8,show xs.length-k=(xs.length-(k+1))+1 by omega,List.replicate_succ,List.set_cons_zero]
 have h3:els (xs.take (k+1))=els (xs.take k) ++ [Enc.e xs[k]]:=by
  rw[Gxb h]
  simp only[els,List.map_append,List.map_cons,List.map_nil]
 rw[h3,Gqz]
 rfl
theorem Vy {k:Nat} {a b:List (List T)} (h:a=b) : [Ob.row k a] = [Ob.row k b]:=by rw[h]

theorem to_IntS (xs:List Int) (hg:Enc.wt xs≤1048576):Co 82 [] [al xs] [.row (Enc.k Int) (els xs)] (Aqg 0):=by
 have hlen:=Y7 xs
 have hw:Enc.wt xs=xs.length+wts xs:=rfl
 refine Con.o func82 ntmps82 fun E=>?_;refine Wz [23,11,25,251,16,51] ?_;refine A_lt xs.length (fun k => [(0,L xs),(3,Aqg 0),(4,I k)]) (fun k => [.row 1 (part xs [(.v (.int .i64 0))] k)]) (Yk [0] Aqc J (Vy (Kd xs _)) (.c J (.c J (.c J (.nil))))) ?_
 intro m_A k hk_A
 refine Wz [114] ?_
 refine Xb J (fun h=>?_) (fun h=>?_)
 ·have h3:k<xs.length:=Bqx
  have hat:=Y4 h3
  have hz:=Ka xs [(.v (.int .i64 0))] h3
  have hpl:(k:Int)<(part xs [(.v (.int .i64 0))] k).length:=Bxr
  have hwt:Enc.wt xs[k]≤wts xs:=Um xs _ (Gqe h3)
  refine Wz [9,27,141,0,100,204,170,130] ?_
  exact .t (k+1) (Yk [0] Aqc J (Vy (Kc xs [(.v (.int .i64 0))] h3 _ (by rfl) (by rfl)).symm) (.c J (.c J (.c J (.nil)))))
 ·have h3:¬((k:Int)<(els xs).length):=Gqd h
  refine Wz [74] ?_
  exact Bz7
theorem to_StringS (xs:List ByteArray) (hg:Enc.wt xs≤1048576):Co 81 [] [al xs] [.row (Enc.k ByteArray) (els xs)] (Aqg 0):=by
 have hlen:=Y7 xs
 have hw:Enc.wt xs=xs.length+wts xs:=rfl
 refine Con.o func81 ntmps81 fun E=>?_;refine Wz [23,11,25,251,16,51] ?_;refine A_lt xs.length (fun k => [(0,L xs),(3,Aqg 0),(4,I k)]) (fun k => [.row 1 (part xs [(.v (.string ⟨#[]⟩))] k)]) (Yk [0] Aqc J (Vy (Kd xs _)) (.c J (.c J (.c J (.nil))))) ?_
 intro m_A k hk_A
 refine Wz [114] ?_
 refine Xb J (fun h=>?_) (fun h=>?_)
 ·have h3:k<xs.length:=Bqx
  have hat:=Y4 h3
  have hz:=Ka xs [(.v (.string ⟨#[]⟩))] h3
  have hpl:(k:Int)<(part xs [(.v (.string ⟨#[]⟩))] k).length:=Bxr
  have hwt:Enc.wt xs[k]≤wts xs:=Um xs _ (Gqe h3)
  refine Wz [9,27,141,0,100,204,170,130] ?_
  exact .t (k+1) (Yk [0] Aqc J (Vy (Kc xs [(.v (.string ⟨#[]⟩))] h3 _ (by rfl) (by rfl)).symm) (.c J (.c J (.c J (.nil)))))
 ·have h3:¬((k:Int)<(els xs).length):=Gqd h
  refine Wz [74] ?_
  exact Bz7
theorem to_IntSS (xs:List (List Int)) (hg:Enc.wt xs≤1048576):Co 24 [] [al xs] [.row (Enc.k (List Int)) (els xs)] (Aqg 0):=by
 have hlen:=Y7 xs
 have hw:Enc.wt xs=xs.length+wts xs:=rfl
 refine Con.o func24 ntmps24 fun E=>?_;refine Wz [23,11,25,258,16,51] ?_;refine A_lt xs.length (fun k => [(0,L xs),(3,Aqg 0),(4,I k)]) (fun k => [.row 1 (part xs [(.sl 1 [])] k)]) (Yk [0] Aqc J (Vy (Kd xs _)) (.c J (.c J (.c J (.nil))))) ?_
 intro m_A k hk_A
 refine Wz [114] ?_
 refine Xb J (fun h=>?_) (fun h=>?_)
 ·have h3:k<xs.length:=Bqx
  have hat:=Y4 h3
  have hz:=Ka xs [(.sl 1 [])] h3
  have hpl:(k:Int)<(part xs [(.sl 1 [])] k).length:=Bxr
  have hwt:Enc.wt xs[k]≤wts xs:=Um xs _ (Gqe h3)
  refine Wz [9,27,141,0,100] ?_;refine M1 (Kr J J (to_IntS _ Aqa) J J J) J J ?_;refine Wz [204,170,130] ?_
  exact .t (k+1) (Yk [0] Aqc J (Vy (Kc xs [(.sl 1 [])] h3 _ (by rfl) (by rfl)).symm) (.c J (.c J (.c J (.nil)))))
 ·have h3:¬((k:Int)<(els xs).length):=Gqd h
  refine Wz [74] ?_
  exact Bz7

/-! ### Comparing -/
theorem eq_IntS (xs ys:List Int) (hn:Enc.gd xs):Co 105 [] [al xs,al ys] [] (B (decide (xs=ys))):=by
 have va_:=@func105; have vb_:=@ntmps105; have vc_:=fun{R G:Prop}=>@Wz R G [9,4,259,35,64,35,64,176,12,81]; have vd_:=fun{R G:Prop}=>@Wz R G [9,4,259,35,64,35,64,176,12,32,45,57]; exact Bqc
theorem eq_StringS (xs ys:List ByteArray) (hn:Enc.gd xs):Co 104 [] [al xs,al ys] [] (B (decide (xs=ys))):=by
 have va_:=@func104; have vb_:=@ntmps104; have vc_:=fun{R G:Prop}=>@Wz R G [9,4,259,35,64,35,64,230,12,81]; have vd_:=fun{R G:Prop}=>@Wz R G [9,4,259,35,64,35,64,230,12,32,45,57]; exact Bqc
theorem eq_IntSS (xs ys:List (List Int)) (hn:Enc.gd xs):Co 35 [] [al xs,al ys] [] (B (decide (xs=ys))):=by
 have hn1:=hn.1
 have hlx:=Y7 xs
 have hly:=Y7 ys
 by_cases hl:xs.length=ys.length
 ·have hb:decide (((els xs).length:Int)≠((els ys).length:Int))=false:=by rw[hlx,hly,hl]; simp
  refine Con.o func35 ntmps35 fun E=>?_;refine Wz [95,25,0,25,22,135,51] ?_;refine A_lp xs.length (fun k=>xs.take k=ys.take k) (fun k => [(0,L xs),(1,L ys),(5,I k)]) (fun k => []) Aqd (Yj [] Aqb) ?_
  intro m_A k hk_A hp_A
  refine Wz [114] ?_
  refine Xb J (fun h=>?_) (fun h=>?_)
  ·have h3:k<xs.length:=Bqx
   have h4:k<ys.length:=Aqa
   have hat:=Y4 h3
   have hat2:=Y4 h4
   by_cases he:xs[k]=ys[k]
   ·have hc:=eq_IntS xs[k] ys[k] (hn.2 _ (Gqe h3))
    rw[Gqb he] at hc
    refine Wz [9,4,214,35,64,35,64] ?_;refine Uq (Qj J J (hc) J) J ?_;refine Wz [142,12,81] ?_
    exact .n (k+1) (eq_next h3 h4 hp_A he) (Yj [] Aqb)
   ·have hc:=eq_IntS xs[k] ys[k] (hn.2 _ (Gqe h3))
    rw[Gqa he] at hc
    refine Wz [9,4,214,35,64,35,64] ?_;refine Uq (Qj J J (hc) J) J ?_;refine Wz [142,12,32,45,57] ?_
    exact Bz5
  ·have h3:¬((k:Int)<(els xs).length):=Gqd h
   refine Wz [30,101] ?_
   exact Bz6
 ·have hb:decide (((els xs).length:Int)≠((els ys).length:Int))=true:=Bxz
  refine Con.o func35 ntmps35 fun E=>?_;refine Wz [95,25,0,25,22,115] ?_
  exact E_w [] J (Xk (eq_len hl).symm)
end
section
open Tryz
open Go.RowKit

def ownO:List T→List Ob
 | [] => []
 | .v _::ts=>ownO ts
 | .sl k es::ts => .row k es::ownO ts
 | .un::ts=>ownO ts
def ownV:Nat→List T→List V1
 |_,[] => []
 |n,.v x::ts => .rd [] (.v x)::ownV n ts
 |n,.sl _ _::ts => .ref n::ownV (n+1) ts
 |n,.un::ts => .un::ownV n ts

structure TLevel where
 Rows:(List ByteArray)
 deriving DecidableEq
instance:Enc TLevel:=⟨1,Aqa,fun x => [sl x.Rows],fun _=>rfl,fun x=>Enc.gd x.Rows,fun x=>Enc.wt x.Rows⟩
structure TReplay where
 Level:TLevel
 Players:Int
 Seed:Int
 Every:Int
 Rows:(List (List Int))
 Keys:(List ByteArray)
 deriving DecidableEq
instance:Enc TReplay:=⟨6,Aqa,fun x => [sl x.Level.Rows,.v (.int .i64 x.Players),.v (.int .i64 x.Seed),.v (.int .i64 x.Every),sl x.Rows,sl x.Keys],fun _=>rfl,fun x=>Enc.gd x.Level∧Enc.gd x.Players∧Enc.gd x.Seed∧Enc.gd x.Every∧Enc.gd x.Rows∧Enc.gd x.Keys,fun x=>Enc.wt x.Level+Enc.wt x.Rows+Enc.wt x.Keys⟩
theorem sz_Level (x:TLevel) (left:Int) (hg:Enc.gd x) (h0:0≤left) (h1:left≤1048576):Co 11 [] [ag x,ai left] [] (I (szr (Enc.wt x) left)):=by
 have g_Rows:Enc.gd x.Rows:=hg
 have hw:Enc.wt x=Enc.wt x.Rows:=rfl
 have hm1:decide ((-1:Int)<0)=true:=rfl
 have hc_Rows:=sz_StringS x.Rows (left) g_Rows Aqa Aqa 
 by_cases n_Rows:left<Enc.wt x.Rows
 ·rw[Ub n_Rows] at hc_Rows
  refine Con.o func11 ntmps11 fun E=>?_;refine Wz [96,65] ?_;refine kc0 hc_Rows ?_;refine Wz [143,115] ?_
  exact Bzi
 rw[Uc Aqa] at hc_Rows
 have hb_Rows:decide (left-Enc.wt x.Rows<0)=false:=Gqa Aqa 
 refine Con.o func11 ntmps11 fun E=>?_;refine Wz [96,65] ?_;refine kc0 hc_Rows ?_;refine Wz [126,11,36] ?_
 exact E_w [] J (X0 Bxb)
theorem to_Level (x:TLevel) (hg:Enc.wt x≤1048576):Co 23 [] [ag x] (ownO (Enc.e x)) (.o (.ag (ownV 0 (Enc.e x)))):=by
 have hw:Enc.wt x=Enc.wt x.Rows:=rfl
 refine Con.o func23 ntmps23 fun E=>?_;refine Wz [59,1,3,82,1,18] ?_;refine kc1 (to_StringS x.Rows Aqa) ?_;refine Wz [52,7,39,73] ?_
 exact Xm J J J J (Yh [3] Aqc J J J)
theorem eq_Level (x y:TLevel) (hg:Enc.gd x) (e:x=y:=by rfl):Co 34 [] [ag x,ag y] [] (B (decide (x=y))):=by
 subst e
 have g_Rows:Enc.gd x.Rows:=hg
 have hc_Rows:=eq_StringS x.Rows x.Rows g_Rows
 rw[Gqb rfl] at hc_Rows
 refine Con.o func34 ntmps34 fun E=>?_;refine Wz [43,131,16,173] ?_;refine kc0 hc_Rows ?_;refine Wz [6,28,101] ?_
 exact Bzl
end
section
open Tryz
open Go.RowKit

def dig:Nat→Int→List UInt8→List UInt8
 |0,_,out=>out
 |n+1,k,out=>if 0<k then dig n (k/10) ([UInt8.ofNat (48+k%10).toNat]++out) else out
def mtext (k:Int):ByteArray:=bs (if k≤0 then [109,48] else 109::dig 19 k [])
theorem dig_end {n:Nat} {k:Int} {out:List UInt8} (h:¬0<k):dig n k out=out:=by
 cases n with
 |zero=>rfl
 |succ n=>rw[dig,if_neg h]
theorem X4 (k:Int) (hk:k≤1099511627776):Co 179 [] [ai k] [] (S (mtext k)):=by
 refine Con.o func179 ntmps179 fun E=>?_;refine Wz [95,237,1] ?_
 refine Xb J (fun h=>?_) (fun h=>?_)
 ·have h:=Gqc h
  refine Wz [69] ?_
  exact E_w [] J (S_eq (by rw[mtext,if_pos h]))
 have h:=Gqd h
 rw[mtext,if_neg h]
 refine Wz [42,23,4,34] ?_;refine Xj (fun m__ st=>∃ (j:Int) (out:List UInt8),j.toNat=m__∧(∃ n,0≤j∧j≤1099511627776∧j<10 ^ n∧out.length+n=19∧dig n j out=dig 19 k [])∧st=(⟨_,[(0,I j),(3,S (bs out))],[]⟩:St)) _ ⟨_,⟨k,[],J,⟨19,Aqa,hk,Aqa,J,J⟩,J⟩,Yj [] Aqb⟩ ?_
 rintro m_A _ ⟨j,out,hk_A,hp_A,rfl⟩
 obtain⟨n,a0,a1,a2,a3,a4⟩:=hp_A
 refine Wz [41,222,1] ?_
 refine Xb J (fun h=>?_) (fun h=>?_)
 ·have h:=Gqc h
  have hl:=Yx out
  refine Wz [42,34,11,167,13,238,116] ?_;refine zx (q_bstrb J J J J J) J (z0 J ?_)
  refine M0 (q_cat J J J J Bxy) J J ?_
  refine Wz [8,27,205,26,53,133] ?_
  obtain⟨n,rfl⟩:∃ n',n=n'+1:=⟨n-1,by have:n≠0:=fun e=>by { subst e; simp at a2; omega }; omega⟩
  rw[dig,if_pos h] at a4
  rw[Int.pow_succ] at a2
  refine⟨_, Aqa,(fun (j:Int) (out:List UInt8)=>(⟨_,[(0,I j),(3,S (bs out))],[]⟩:St)) (j/10) ([UInt8.ofNat (48+j%10).toNat]++out),⟨j/10,[UInt8.ofNat (48+j%10).toNat]++out,J,⟨n,Aqa,Aqa,Aqa,by simp only[Gql,Gqw,List.length_nil]; omega,a4⟩,J⟩,Yk [] Aqc J Aqb (.c J (.cons (S_eq (Yv [_] _)) (.nil)))⟩
 ·have h:=Gqd h
  have hl:=Yx out
  rw[dig_end h] at a4
  refine Wz [223] ?_
  refine M0 (q_cat J J J J Bxy) J J ?_
  refine Wz [36] ?_
  exact E_w [] J (S_eq (by rw[←a4]; exact Yv [_] _))

theorem row2 {k:Nat} {a b:List (List T)} {g:Ob} (h:a=b) : [Ob.row k a,g] = [Ob.row k b,g]:=by rw[h]
theorem Y9 {α:Type} [Enc α] (xs:List α) (i:Nat) (x:α):els (xs.set i x)=(els xs).set i (Enc.e x):=by simp[els,List.map_set]
end
end Go.Proofs.YtalaljeokcpfnaaGreat
