/-
  Rules, data and contracts of functions: part 14 of the proof.
  Conditions: those that each theorem names.
-/
import Derived.ProofKit
import Derived.Deep.Slices
import Derived.Test.YtpmacgnmlmmojaaGreatDoorDDRBRowk0
import Derived.Test.YtpmacgnmlmmojaaGreatDoorDDRBRowk12
set_option linter.unusedVariables false
set_option linter.unusedSimpArgs false
set_option maxRecDepth 8000
set_option maxHeartbeats 8000000
namespace Go.Proofs.YtpmacgnmlmmojaaGreatDoor
section
open Go.RowKit Go.ChangeShapes Go.WideShapes Go.Deep

def I64 (x:Int):Prop := -9223372036854775808≤x∧x≤9223372036854775807

class Enc (α:Type) where
 k:Nat
 pos:0<k
 e:α→List T
 len:∀ x,(e x).length=k
 gd:α→Prop
 wt:α→Nat
instance:Enc Int:=⟨1,by omega,fun x => [.v (.int .i64 x)],fun _=>rfl,I64,fun _=>0⟩
instance:Enc Bool:=⟨1,by omega,fun x => [.v (.bool x)],fun _=>rfl,fun _=>True,fun _=>0⟩
instance:Enc ByteArray:=⟨1,by omega,fun x => [.v (.string x)],fun _=>rfl,fun x=>x.size≤9223372036854775807,fun x=>x.size⟩
def wts {α:Type} [Enc α]:List α→Nat
 | []=>0
 |x::xs=>Enc.wt x+wts xs
@[reducible] def els {α:Type} [Enc α] (xs:List α):List (List T):=xs.map Enc.e
instance {α:Type} [Enc α]:Enc (List α):=⟨1,by omega,fun xs => [.sl (Enc.k α) (els xs)],fun _=>rfl,fun xs=>xs.length≤9223372036854775807∧∀ x∈xs,Enc.gd x,fun xs=>xs.length+wts xs⟩

@[reducible] def sl {α:Type} [Enc α] (xs:List α):T := .sl (Enc.k α) (els xs)
@[reducible] def ai (n:Int):V2 := .c (.rd [] (.v (.int .i64 n)))
@[reducible] def astr (s:ByteArray):V2 := .c (.rd [] (.v (.string s)))
@[reducible] def al {α:Type} [Enc α] (xs:List α):V2 := .c (.rd [] (sl xs))
@[reducible] def ag {α:Type} [Enc α] (x:α):V2 := .ag ((Enc.e x).map (V1.rd []))
@[reducible] def L {α:Type} [Enc α] (xs:List α):V := .o (al xs)

class PlainE (α:Type) [Enc α]:Prop where
 plain:∀ (x:α) (t:T),t∈Enc.e x→∃ u,t = .v u
instance:PlainE Int:=⟨fun x t h=>by simp[Enc.e] at h; exact⟨_,h⟩⟩
instance:PlainE Bool:=⟨fun x t h=>by simp[Enc.e] at h; exact⟨_,h⟩⟩
instance:PlainE ByteArray:=⟨fun x t h=>by simp[Enc.e] at h; exact⟨_,h⟩⟩
theorem Za {α:Type} [Enc α] [PlainE α] (xs:List α):plainT (els xs):=fun e he t ht=>by
 obtain⟨x,_,rfl⟩:=Gqr.1 he
 exact PlainE.plain x t ht
theorem els_k {α:Type} [Enc α] (xs:List α):∀ e∈els xs,e.length=Enc.k α:=fun e he=>by
 obtain⟨x,_,rfl⟩:=Gqr.1 he
 exact Enc.len x
@[reducible] def bs (l:List UInt8):ByteArray:=⟨l.toArray⟩
theorem Yq (a b:List UInt8):bs a++bs b=bs (a++b):=by
 apply ByteArray.ext
 rw[Gxo]
 simp[bs]
theorem Ys (l:List UInt8):(bs l).size=l.length:=by simp[bs,ByteArray.size]
theorem Yy (a b:ByteArray):(a++b).size=a.size+b.size:=by simp[ByteArray.size_append]
theorem Yr (l:List UInt8):(bs l).data.toList=l:=by simp[bs]
theorem bs_of (s:ByteArray):bs s.data.toList=s:=by simp[bs]
theorem bs_inj {a b:List UInt8}:bs a=bs b↔a=b:=⟨fun h=>by have:=congrArg (·.data.toList) h; simpa[Yr] using this,fun h=>by rw[h]⟩
theorem S_eq {a b:ByteArray} (h:a=b):S a=S b:=by rw[h]
theorem Yl (a b:List UInt8):bE a++bE b=bE (a++b):=by simp[bE]
theorem bE_snoc (a:List UInt8) (n:Int) (h:0≤n∧n≤255):bE a ++ [[.v (.int .u8 n)]]=bE (a ++ [UInt8.ofNat n.toNat]):=by
 have h1:((UInt8.ofNat n.toNat).toNat:Int)=n:=by
  rw[UInt8.toNat_ofNat']
  omega
 unfold bE
 rw[List.map_append,List.map_cons,List.map_nil,h1]

theorem Y7 {α:Type} [Enc α] {xs:List α} {k:Nat} (h:k<xs.length):(els xs)[(k:Int).toNat]? = some (Enc.e xs[k]):=by simp[els,h]
theorem Y9 {α:Type} [Enc α] (xs:List α):(els xs).length=xs.length:=by simp[els]
theorem wts_take {α:Type} [Enc α]:∀ (xs:List α) (k:Nat) (h:k<xs.length),wts (xs.take (k+1))=wts (xs.take k)+Enc.wt xs[k]
 |x::xs,0,_=>by simp[wts]
 |x::xs,k+1,h=>by
  have:=wts_take xs k (by simpa using h)
  simp only[List.take_succ_cons,wts,List.getElem_cons_succ,this]
  omega
theorem wts_le {α:Type} [Enc α]:∀ (xs:List α) (x:α),x∈xs→Enc.wt x≤wts xs
 |y::xs,x,h=>by
  simp only[wts]
  rcases List.mem_cons.1 h with rfl | h
  ·omega
  ·have:=wts_le xs x h; omega
/-! ### Readings -/
theorem list_of_each {α:Type} {p:Nat→α→Prop}:∀ n:Nat,(∀ i,i<n→∃ y,p i y)→∃ ys:List α,ys.length=n∧∀ (i:Nat) (y:α),ys[i]? = some y→p i y
 |0,_=>⟨[],rfl,fun _ _ h=>by simp at h⟩
 | n+1,h=>by
  obtain⟨ys,h1,h2⟩:=list_of_each n fun i hi=>h i (by omega)
  obtain⟨y,hy⟩:=h n (by omega)
  refine⟨ys ++ [y],by simp[h1],fun i z hz => ?_⟩
  rcases Gqp i ys.length with hi | hi
  ·rw[Gqz hi] at hz
   exact h2 i z hz
  ·rw[Gq4 hi] at hz
   have hi0:i-ys.length=0:=by
    rcases Nat.eq_zero_or_pos (i-ys.length) with h0 | h0
    ·exact h0
    ·rw[List.getElem?_eq_none (by simp; omega)] at hz
     cases hz
   rw[hi0] at hz
   simp only[Gxa,Option.some.injEq] at hz
   subst hz
   have:i=n:=by omega
   subst this
   exact hy

def Reads {α:Type} [Enc α] (w:World) (x:α) (cs:List Value):Prop:=cs.length=Enc.k α∧∀ (j:Nat) (t:T) (u:Value),(Enc.e x)[j]? = some t→cs[j]? = some u→RO w (fun _=>True) t u

class RdOf (P:Program) (t:TypeId) (α:outParam Type) [Enc α]:Prop where
 size:P.cellsOf t=Enc.k α
 of:∀ {H:Type} {enc:TypeId×Value→H} {w:World} {spare:Nat→Bool} {held:Bool} {fuel:Nat} {cs:List Value} {x:DataW H×List MemPlace},
  DataW.trod enc P w 0 spare held fuel t cs=some x→∃ y:α,Enc.gd y∧Reads w y cs

theorem i64_of_wf {n:Int} (h:(Lit.int .i64 n).wf=true):I64 n:=by
 simp[Lit.wf,IntKind.min,IntKind.max,IntKind.signed,IntKind.bits] at h
 exact⟨by omega,by omega⟩
theorem reads_one {α:Type} [Enc α] {w:World} {x:α} {t:T} {u:Value} (he:Enc.e x = [t]) (h:RO w (fun _=>True) t u):Reads w x [u]:=by
 refine⟨by rw[←Enc.len x,he]; rfl,fun j t' u' h1 h2 => ?_⟩
 rw[he] at h1
 cases j with
 |zero=>simp at h1 h2; subst h1 h2; exact h
 |succ j=>simp at h1
theorem rdOf_int {P:Program} {t:TypeId} (ht:P.underlying t=some (.int .i64)) (hs:P.cellsOf t=1):RdOf P t Int where
 size:=hs
 of h:=by
  obtain⟨n,rfl,_,h3⟩:=DataW.trod_int ht h
  exact⟨n,i64_of_wf h3,reads_one J (.v _ J)⟩
theorem rdOf_string {P:Program} {t:TypeId} (ht:P.underlying t=some .string) (hs:P.cellsOf t=1):RdOf P t ByteArray where
 size:=hs
 of h:=by
  obtain⟨s,rfl,_,h3⟩:=DataW.trod_string ht h
  exact⟨s,by simpa[maxLen,Enc.gd] using h3,reads_one J (.v _ J)⟩
theorem rdOf_slice {P:Program} {t e:TypeId} {α:Type} [Enc α] [hα:RdOf P e α] (ht:P.underlying t=some (.slice e)) (hs:P.cellsOf t=1):RdOf P t (List α) where
 size:=hs
 of {H enc w spare held fuel cs x} h:=by
  rcases open_slice ht h with ⟨rfl,_⟩ | ⟨a,len,cap,m,n,D,Pl,rfl,_,hl,hm,hmm,_,hi⟩
  ·exact⟨[],⟨by simp,by simp⟩,reads_one rfl (.nil _ _ _ (by simp[maxLen]))⟩
  ·have hlm:len≤m:=by rw[hmm]; split <;> omega
   obtain⟨ys,h1,h2⟩:=list_of_each (p:=fun i y=>∃ es,w.cells? 0 (a.add (i*P.cellsOf e)) (P.cellsOf e)=some es∧Enc.gd (α:=α) y∧Reads w y es) len fun i hi'=>by
    obtain⟨es,h3,h4⟩:=hi i (by omega)
    obtain⟨y,hy⟩:=hα.of h4
    exact⟨y,es,h3,hy⟩
   subst h1
   refine⟨ys,⟨by simp[maxLen] at hm; omega,fun y hy => ?_⟩,?_⟩
   ·obtain⟨i,hi'⟩:=List.getElem?_of_mem hy
    obtain⟨es,_,hg,_⟩:=h2 i y hi'
    exact hg
   refine reads_one J ?_
   rcases Nat.eq_zero_or_pos ys.length with h0 | h0
   ·have:=List.eq_nil_of_length_eq_zero h0
    subst this
    exact .nil _ _ _ hm
   ·have hsp:a.spot=none:=by
     obtain⟨es,h3,_⟩:=h2 0 _ (Gqd h0)
     obtain⟨_,hcl,hat⟩:=World.cells?_some h3
     have hp:0<P.cellsOf e:=by rw[hα.size]; exact Enc.pos
     have:=hat 0 hp
     rw[Gqd (by omega)] at this
     have h5:=World.cell?_spot this
     simpa[Addr.add] using h5
    obtain⟨b,o,sp⟩:=a
    simp only at hsp
    subst hsp
    have hel:∀ i,i<ys.length→∃ es,w.cells? 0 ((⟨b,o,none⟩:Addr).add (i*P.cellsOf e)) (P.cellsOf e)=some es:=fun i hi'=>by
     obtain⟨es,h3,_⟩:=h2 i _ (Gqd hi')
     exact⟨es,h3⟩
    have hlen:ys.length=(els ys).length:=(Y9 ys).symm
    rw[hlen]
    refine .sl (els ys) b o (Enc.k α) cap (fun i j=>((w.cells? 0 ((⟨b,o,none⟩:Addr).add (i*P.cellsOf e)) (P.cellsOf e)).getD []).getD j undef) trivial (by rw[Y9]; exact hl) hm Enc.pos (fun e' he => ?_) (fun i j hi' hj => ?_) fun i j e' t' h3 h4 => ?_
    ·obtain⟨y,_,rfl⟩:=Gqr.1 he
     exact Enc.len y
    ·rw[Y9] at hi'
     obtain⟨es,h3⟩:=hel i hi'
     obtain⟨_,hcl,hat⟩:=World.cells?_some h3
     rw[hα.size] at hcl
     have h5:=hat j (by rw[hα.size]; exact hj)
     rw[add_lit,add_lit,hα.size,Gqd (by omega)] at h5
     rw[h3]
     simp only[Option.getD_some]
     rw[h5,Gqc,Gqd (by omega)]
     rfl
    ·rw[Gqh] at h3
     obtain⟨y,hy,rfl⟩:=Option.map_eq_some_iff.1 h3
     obtain⟨es,h5,_,h6⟩:=h2 i y hy
     have hj:j<es.length:=by rw[h6.1,←Enc.len y]; exact Zk h4
     show RO w _ t' (((w.cells? 0 ((⟨b,o,none⟩:Addr).add (i*P.cellsOf e)) (P.cellsOf e)).getD []).getD j undef)
     rw[h5]
     simp only[Option.getD_some]
     rw[Zj (Gqd hj)]
     exact h6.2 j t' _ h4 (Gqd hj)

theorem reads_of_Trod {P:Program} {t:TypeId} {α:Type} [Enc α] [hα:RdOf P t α] {H:Type} {enc:TypeId×Value→H} {w:World} {spare:Nat→Bool} {held:Bool} {v:Value} {d:DataW H} {p:List MemPlace}
  (h:DataW.Trod enc P w 0 spare held t v d p):∃ y:α,Enc.gd y∧Reads w y v.cells.toList:=by
 obtain⟨fuel,hf⟩:=h
 exact hα.of hf

theorem r2_slice {α:Type} [Enc α] {w:World} {H:Hs} {xs:List α} {v:Value} (h:Reads w xs [v]):R2 w H (fun b=>b<w.heap.size) (al xs) v :=
 RO.weak (h.2 0 _ v J J) fun b _ hb => .inl hb
end
section
open Go.RowKit

theorem Xz {a b:Int} (h:a=b):I a=I b:=by rw[h]
theorem Xj {a b:Bool} (h:a=b):B a=B b:=by rw[h]
theorem eq_ne {α:Type} [DecidableEq α] {xs ys:List α} {j:Nat} (h1:j<xs.length) (h2:j<ys.length) (h:¬xs[j]=ys[j]):decide (xs=ys)=false:=by
 rw[decide_eq_false_iff_not]
 intro e
 subst e
 exact h J
theorem eq_all {α:Type} [DecidableEq α] {xs ys:List α} {j:Nat} (h1:xs.length≤j) (h2:xs.length=ys.length) (h:xs.take j=ys.take j):decide (xs=ys)=true:=by
 rw[Gxk h1,Gxk (by omega)] at h
 simp[h]
theorem eq_len {α:Type} [DecidableEq α] {xs ys:List α} (h:xs.length≠ys.length):decide (xs=ys)=false:=by
 rw[decide_eq_false_iff_not]
 intro e
 subst e
 exact h J
theorem eq_next {α:Type} {xs ys:List α} {j:Nat} (h1:j<xs.length) (h2:j<ys.length) (h:xs.take j=ys.take j) (e:xs[j]=ys[j]):xs.take (j+1)=ys.take (j+1):=by
 rw[Gxd h1,Gxd h2,h,e]

/-! ### Counting -/
/-! ### Copying -/
def part {α:Type} [Enc α] (xs:List α) (z:List T) (k:Nat):List (List T):=els (xs.take k)++List.replicate (xs.length-k) z
theorem K7 {k:Nat} {a b:List (List T)} (h:a=b) : [Ob.row k a] = [Ob.row k b]:=by rw[h]

/-! ### Comparing -/
end
section
open Go.RowKit

def ownO:List T→List Ob
 | [] => []
 | .v _::ts=>ownO ts
 | .sl k es::ts => .row k es::ownO ts
 | .un::ts=>ownO ts
 | .bl _ _ _::ts=>ownO ts
def ownV:Nat→List T→List V1
 |_,[] => []
 |n,.v x::ts => .rd [] (.v x)::ownV n ts
 |n,.sl _ _::ts => .ref n::ownV (n+1) ts
 |n,.un::ts => .un::ownV n ts
 |n,.bl _ _ _::ts => .un::ownV n ts

structure TLevel where
 Rows:(List ByteArray)
 deriving DecidableEq
instance:Enc TLevel:=⟨1,by omega,fun x => [sl x.Rows],fun _=>rfl,fun x=>Enc.gd x.Rows,fun x=>Enc.wt x.Rows⟩
theorem TLevel.same {x y:TLevel} (h0:x.Rows=y.Rows):x=y:=by cases x; cases y; simp_all
structure TReplay where
 Level:TLevel
 Players:Int
 Seed:Int
 Every:Int
 Rows:(List (List Int))
 Keys:(List ByteArray)
 deriving DecidableEq
instance:Enc TReplay:=⟨6,by omega,fun x => [sl x.Level.Rows,.v (.int .i64 x.Players),.v (.int .i64 x.Seed),.v (.int .i64 x.Every),sl x.Rows,sl x.Keys],fun _=>rfl,fun x=>Enc.gd x.Level∧Enc.gd x.Players∧Enc.gd x.Seed∧Enc.gd x.Every∧Enc.gd x.Rows∧Enc.gd x.Keys,fun x=>Enc.wt x.Level+Enc.wt x.Rows+Enc.wt x.Keys⟩
theorem TReplay.same {x y:TReplay} (h0:x.Level=y.Level) (h1:x.Players=y.Players) (h2:x.Seed=y.Seed) (h3:x.Every=y.Every) (h4:x.Rows=y.Rows) (h5:x.Keys=y.Keys):x=y:=by cases x; cases y; simp_all
end
section
open Go.RowKit

theorem Con.kit {P:Program} {f:FuncId} {args:List V2} {x:Value} (hx:x.oneCell'=true)
  (h:∀ (w:World) (H:Hs) (F:Nat→Prop) (vs:List Value),Ok w H F→(∀ p,H p = .nil)→vs.length=args.length→(∀ (i:Nat) (x:V2) (v:Value),args[i]? = some x→vs[i]? = some v→R2 w H F x v)→Calls P f vs.toArray w fun e w'=>e = .returned x∧Below w.heap.size w w') :
  Con P f [] args [] (.o (.c (.rd [] (.v x)))):=by
 intro w H F vs hok hob hlen hargs
 have hnil:∀ p,H p = .nil:=fun p=>by simpa[RB] using hob p
 refine (h w H F vs hok hnil hlen hargs).mono ?_
 rintro e w' ⟨rfl,hb⟩
 refine⟨H,F,x,J,⟨hb.os,hb.tape,hb.output,hb.size,fun b h1 _=>hb.block b h1,fun _ h=>h,fun _ h => .inl h,fun p b hb => .inl ⟨p,hb⟩,fun p i v h=>⟨p,h⟩⟩,⟨fun p => ?_,hok.nodup,hok.disj,hok.free,fun b h=>Gxv (hok.flt b h) hb.size⟩,fun p => ?_,RO.v _ hx⟩
 ·rw[hnil p]; trivial
 ·show RB w' H F p .gone
  exact hnil p
end
section
open Go.RowKit

def inR (n lo hi:Int):Bool:=decide (lo≤n)&&decide (n≤hi)
theorem Zn {n lo hi:Int}:inR n lo hi=true↔lo≤n∧n≤hi:=by simp[inR]
theorem Xx (n lo hi:Int):Con Tryz.prog 40 [] [ai n,ai lo,ai hi] [] (B (inR n lo hi)):=by
 refine Con.of Tryz.func40 J Tryz.ntmps40 J (fun E => ?_)
 refine Wz [36,37,209,0,154,219] ?_;refine zx (Qt.grdT J J J (.hit (.hit .stop)) (fun hgrd=>q_leq J J J J)) J ?_;refine Wz [84,19] ?_
 exact Gq J (Gr [] J J J)
theorem S_in (n lo hi:Int):Con Tryz.prog 164 [] [ai n,ai lo,ai hi] [] (B (inR n lo hi)):=by
 refine Con.of Tryz.func164 J Tryz.ntmps164 J (fun E => ?_)
 refine Wz [36,37,209,0,154,219] ?_;refine zx (Qt.grdT J J J (.hit (.hit .stop)) (fun hgrd=>q_leq J J J J)) J ?_;refine Wz [84,19] ?_
 exact Gq J (Gr [] J J J)

section
variable {α:Type} {p:α→Bool} {xs:List α} {k:Nat}
theorem Yj (h:(xs.take k).all p=true) (hk:k<xs.length) (hp:p xs[k]=true):(xs.take (k+1)).all p=true:=by
 rw[Gxd hk,List.all_append,h]
 simp[hp]
theorem all_no (hk:k<xs.length) (hp:p xs[k]=false):xs.all p=false:=by
 rw[List.all_eq_false]
 exact⟨_,Gql hk,by simp[hp]⟩
theorem all_end (h:(xs.take k).all p=true) (hk:xs.length≤k):xs.all p=true:=by rwa[Gxk hk] at h
end
def inOk (xs:List Int):Bool:=xs.all fun n=>inR n 0 15
def rowOk (xs:List Int) (n:Int):Bool:=decide ((xs.length:Int)=n)&&inOk xs

theorem I_inputsOk (xs:List Int) (hn:Enc.gd xs):Con Tryz.prog 142 [] [al xs] [] (B (inOk xs)):=by
 have hn1:=hn.1
 have hlx:=Y9 xs
 refine Con.of Tryz.func142 J Tryz.ntmps142 J (fun E => ?_)
 refine Wz [94,21,131,33] ?_;refine Xi (fun m st=>∃ k:Nat,k+m=xs.length∧((xs.take k).all (fun n=>inR n 0 15)=true)∧st=(⟨_,[(5,L xs),(6,I (els xs).length),(7,I k)],[]⟩:St)) (xs.length) ⟨_,⟨0,by omega,by simp,J⟩,Gs []⟩ ?_
 rintro m_A _ ⟨k,hk_A,hp_A,rfl⟩
 refine Wz [1,100,39] ?_
 refine Xb J (fun h => ?_) (fun h => ?_)
 ·have h3:k<xs.length:=by have:=Gqi h; omega
  have hat:=Y7 h3
  refine Wz [26,1,49,32] ?_;refine zx (Qj J J (Xx xs[k] 0 15) J) J ?_;refine Wz [16,2] ?_
  refine Xb J (fun h4 => ?_) (fun h4 => ?_)
  ·refine Wz [1,88,142] ?_
   refine Wz [73] ?_
   exact Gq J (Gr [] J J (Xj (all_no h3 (by simpa using h4)).symm))
  ·refine Wz [158,299,0,159] ?_
   refine Q0 ?_
   exact⟨xs.length-(k+1),by omega,_,⟨k+1,by omega,Yj hp_A h3 (by simpa using h4),J⟩,Gs []⟩
 ·have h3:¬((k:Int)<(els xs).length):=Gqj h
  refine Wz [40,1,19] ?_
  exact Gq J (Gr [] J J (Xj (all_end hp_A (by omega)).symm))
theorem I_rowOk (xs:List Int) (n:Int) (hn:Enc.gd xs):Con Tryz.prog 123 [] [al xs,ai n] [] (B (rowOk xs n)):=by
 have hlx:=Y9 xs
 refine Con.of Tryz.func123 J Tryz.ntmps123 J (fun E => ?_)
 refine Wz [36,10,21,0,186,0,154] ?_;refine zx (Qt.grdT J J J (.hit .stop) (fun hgrd=>Qj J J (I_inputsOk xs hn) J)) J ?_;refine Wz [84,19] ?_
 exact Gq J (Gr [] J J (Xj (by rw[hlx]; rfl)))
theorem S_rowOk (xs:List Int) (n:Int) (hn:Enc.gd xs):Con Tryz.prog 165 [] [al xs,ai n] [] (B (rowOk xs n)):=by
 have hn1:=hn.1
 have hlx:=Y9 xs
 refine Con.of Tryz.func165 J Tryz.ntmps165 J (fun E => ?_)
 refine Wz [36,12,63] ?_;refine Xi (fun m st=>∃ k:Nat,k+m=xs.length∧((xs.take k).all (fun n=>inR n 0 15)=true)∧st=(⟨_,[(0,L xs),(1,I n),(5,I k)],[]⟩:St)) (xs.length) ⟨_,⟨0,by omega,by simp,J⟩,Gs []⟩ ?_
 rintro m_A _ ⟨k,hk_A,hp_A,rfl⟩
 refine Wz [24,21,119] ?_
 refine Xb J (fun h => ?_) (fun h => ?_)
 ·have h3:k<xs.length:=by have:=Gqi h; omega
  have hat:=Y7 h3
  refine Wz [123,49] ?_;refine zx (Qj J J (S_in xs[k] 0 15) J) J ?_;refine Wz [16,2] ?_
  refine Xb J (fun h4 => ?_) (fun h4 => ?_)
  ·refine Wz [1,88,142] ?_
   refine Wz [73] ?_
   exact Gq J (Gr [] J J (Xj (by unfold rowOk inOk; rw[all_no h3 (by simpa using h4)]; simp)))
  ·refine Wz [158,22,35] ?_
   refine Wz [11] ?_
   exact⟨xs.length-(k+1),by omega,_,⟨k+1,by omega,Yj hp_A h3 (by simpa using h4),J⟩,Gs []⟩
 ·have h3:¬((k:Int)<(els xs).length):=Gqj h
  refine Wz [40,10,21,0,186,19] ?_
  exact Gq J (Gr [] J J (Xj (by unfold rowOk inOk; rw[all_end hp_A (by omega),hlx]; simp)))
end
section
open Go.RowKit
end
end Go.Proofs.YtpmacgnmlmmojaaGreatDoor
