/-
  Rules, data and contracts of functions: part 28 of the proof.
  Conditions: those that each theorem names.
-/
import Derived.Test.YtpmacgnmlmmojaaGreatDoorDDDiagRowk18
import Derived.Test.YtpmacgnmlmmojaaGreatDoorDDDiagRowk26
set_option linter.unusedVariables false
set_option linter.unusedSimpArgs false
set_option maxRecDepth 8000
set_option maxHeartbeats 8000000
namespace Go.Proofs.YtpmacgnmlmmojaaGreatDoor
section
open Go.RowKit

theorem Con.kit {P:Program} {f:FuncId} {args:List V2} {x:Value} (hx:x.oneCell'=true)
  (h:∀ (w:World) (H:Hs) (F:Nat→Prop) (vs:List Value),Ok w H F→(∀ p,H p = .nil)→vs.length=args.length→(∀ (i:Nat) (x:V2) (v:Value),args[i]? = some x→vs[i]? = some v→R2 w H F x v)→Calls P f vs.toArray w fun e w'=>e = .returned x∧Below w.heap.size w w') :
  Con P f [] args [] (.o (.c (.rd [] (.v x)))):=by
 intro w H F vs hok hob hlen hargs
 have hnil:∀ p,H p = .nil:=fun p=>by simpa[RB] using hob p
 refine (h w H F vs hok hnil hlen hargs).mono ?_
 rintro e w' ⟨rfl,hb⟩
 refine⟨H,F,x,J,⟨hb.os,hb.tape,hb.output,hb.size,fun b h1 _=>hb.block b h1,fun _ h=>h,fun _ h => .inl h,fun p b hb => .inl ⟨p,hb⟩,fun p i v h=>⟨p,h⟩⟩,⟨fun p => ?_,hok.nodup,hok.disj,hok.free,fun b h=>Gxm (hok.flt b h) hb.size⟩,fun p => ?_,RO.v _ hx⟩
 ·rw[hnil p]; trivial
 ·show RB w' H F p .gone
  exact hnil p
end
section
open Go.RowKit

def fmtN (k:Nat):ByteArray:=bs (Lib.decDigits k)
def decG (m:Nat):List UInt8:=if m=0 then [] else Lib.decDigits m
theorem decG_step {m:Nat} (h:m≠0):decG m=decG (m/10) ++ [UInt8.ofNat (48+m%10)]:=by
 rw[decG,if_neg h]
 by_cases h1:m<10
 ·rw[Lib.decDigits_one h1,decG,if_pos (by omega),Nat.mod_eq_of_lt h1]; rfl
 ·rw[Lib.decDigits,dif_neg h1,decG,if_neg (by omega)]
theorem dec_len (m:Nat):(Lib.decDigits m).length≤m+1:=by
 induction m using Nat.strongRecOn with
 | ind m ih =>
  by_cases h:m<10
  ·rw[Lib.decDigits_one h]; simp
  ·rw[Lib.decDigits,dif_neg h,Gqj]
   have:=ih (m/10) (by omega)
   simp only[Gqr,List.length_nil]
   omega
theorem Ym (k:Nat):(fmtN k).size≤k+1:=by rw[fmtN,X9]; exact dec_len k
theorem I_Itoa (k:Nat) (h:k<100):Con Tryz.prog 204 [] [ai k] [] (S (fmtN k)):=by
 refine Con.kit J fun w H F vs hok hnil hlen hargs => ?_
 match vs,hlen with
 | [v],_ =>
  obtain⟨rfl,_⟩:v = .int .i64 k∧_:=RO.plain (hargs 0 _ v rfl rfl)
  exact (Tryz.strconv_Itoa_small k h w).mono fun e w' ⟨he,hw⟩=>⟨he,hw▸Below.refl _ _⟩
theorem Xr (k:Nat) (h:k<100):Con Tryz.prog 141 [] [ai k] [] (S (fmtN k)):=by
 have hc:=I_Itoa k h
 refine Con.of Tryz.func141 J Tryz.ntmps141 J (fun E => ?_)
 refine Wz [34,6] ?_;refine zx (Qj J J (hc) J) J ?_;refine Wz [48] ?_
 exact V3 J (V4 [] J J J)
theorem Gt (k:Nat) (h:k<100:=by omega):Con Tryz.prog 141 [] [ai k] [] (S (fmtN k)):=Xr k h
theorem S_l01Figure (d:Int) (h0:0≤d) (h:d<10):Con Tryz.prog 60 [] [ai d] [] (VI .u8 (48+d)):=by
 have hb:decide (d<10)=true:=Gqb h
 refine Con.of Tryz.func60 J Tryz.ntmps60 J (fun E => ?_)
 refine Wz [1,113,22,6,30,232,116] ?_
 exact V3 J (V4 [] J J J)
theorem S_FormatInt (n:Nat) (hn:n≤1099511627776):Con Tryz.prog 17 [] [ai n] [] (S (fmtN n)):=by
 by_cases h0:n=0
 ·subst h0
  have hb0:decide (((0:Nat):Int)=0)=true:=Gqb rfl
  refine Con.of Tryz.func17 J Tryz.ntmps17 J (fun E => ?_)
  refine Wz [74,8,57] ?_
  exact V3 J (V4 [] J J (S_eq (by rw[fmtN,Lib.decDigits_one (by decide)]; rfl)))
 have hb0:decide ((n:Int)=0)=false:=Gqa (by omega)
 have hb1:decide ((n:Int)<0)=false:=Gqa (by omega)
 have hdl:=dec_len n
 refine Con.of Tryz.func17 J Tryz.ntmps17 J (fun E => ?_)
 refine Wz [74,8,47,6,13,2,34,170] ?_;refine Xj (fun m__ st=>∃ (m:Nat) (acc:List UInt8),m=m__∧(decG m++acc=Lib.decDigits n∧m≤n)∧st=(⟨_,[(0,I m),(3,B false),(4,S (bs acc))],[]⟩:St)) _ ⟨_,⟨n,[],J,⟨by rw[decG,if_neg h0,Gxk],Gqk _⟩,J⟩,Ua []⟩ ?_
 rintro m_A _ ⟨m,acc,hk_A,hp_A,rfl⟩
 obtain⟨hp1,hp2⟩:=hp_A
 have hal:acc.length≤n+1:=by rw[←hp1,Gqj] at hdl; omega
 refine Wz [36,142,3] ?_
 refine Xb J (fun h => ?_) (fun h => ?_)
 ·have h3:m≠0:=by have:=Gqd h; omega
  have hb2:decide ((m:Int)%10<0)=false:=Gqa (by omega)
  have hc:=S_l01Figure ((m:Int)%10) (by omega) (by omega)
  have hsz:=X9 acc
  have hs1:(bs [UInt8.ofNat (48+(m:Int)%10).toNat]).size=1:=X9 _
  have hnx:decG (m/10)++([UInt8.ofNat (48+(m:Int)%10).toNat]++acc)=Lib.decDigits n:=by rw[←hp1,decG_step h3,Gq1]; congr 3
  refine Wz [27,64,6,191,59,6] ?_;refine zx (Qj J J (hc) J) J ?_;refine M1 (Y8 J J J J J J) J J (zx (q_bstrb J J J J J) J (z0 J ?_))
  refine M0 (q_cat J J J J (by simp only[X9,Yb,Gqr,List.length_nil,Gqj]; omega)) J J ?_
  refine Wz [2,65,185,149,150] ?_
  refine⟨_,(by omega),(fun (m:Nat) (acc:List UInt8)=>(⟨_,[(0,I m),(3,B false),(4,S (bs acc))],[]⟩:St)) (m/10) ([UInt8.ofNat (48+(m:Int)%10).toNat]++acc),⟨m/10,[UInt8.ofNat (48+(m:Int)%10).toNat]++acc,J,⟨hnx,by omega⟩,J⟩,V0 [] J (by kernel_rfl) (.cons (Xv (by omega)) (.c J (.cons (S_eq (bs_app _ _)) (.nil))))⟩
 ·have h3:m=0:=by have:=Gqf h; omega
  subst h3
  refine Wz [29,36,47,224] ?_
  exact V3 J (V4 [] J J (S_eq (by rw[fmtN,←hp1]; rfl)))
end
section
open Go.RowKit

theorem row2p {k:Nat} {o:Ob} {a b:List (List T)} (h:a=b) : [o,Ob.row k a] = [o,Ob.row k b]:=by rw[h]
def seedB:ByteArray:=bs [115,101,101,100]
def scoreN (k:Nat):ByteArray:=bs [115,99,111,114,101,32]++fmtN k
def bodyN (k:Nat):ByteArray:=bs [98,111,100,121,32]++fmtN k
def partsTo (n m:Nat):List ByteArray:=(seedB::(List.range n).map scoreN)++(List.range m).map bodyN
noncomputable def partsOf (w:TWorld):List ByteArray:=if worldOk w=true then partsTo w.Scores.length w.Bodies.length else []
theorem Y3 (n m:Nat):(partsTo n m).length=1+n+m:=by simp[partsTo]; omega
theorem partsTo_n (n:Nat):partsTo (n+1) 0=partsTo n 0 ++ [scoreN n]:=by simp[partsTo,List.range_succ]
theorem partsTo_m (n m:Nat):partsTo n (m+1)=partsTo n m ++ [bodyN m]:=by simp[partsTo,List.range_succ]
theorem parts_next {n m:Nat} {l:List ByteArray} {x:ByteArray} (h:l=partsTo n m ++ [x]):els l=els (partsTo n m) ++ [Enc.e x]:=by rw[h]; simp[els]
theorem S_PartsOf (x:TWorld) (hg:Enc.gd x):Con Tryz.prog 173 [] [ag x] [.row 1 (els (partsOf x))] (.o (.c (.ref 0))):=by
 have hc:=Xy x hg
 cases ho:worldOk x with
 |false =>
  rw[ho] at hc
  rw[show partsOf x = [] by rw[partsOf,ho]; exact if_neg (by decide)]
  refine Con.of Tryz.func173 J Tryz.ntmps173 J (fun E => ?_)
  refine Wz [44,1,193,2,31] ?_;refine zx (Qj J J (hc) J) J ?_;refine Wz [15,22,6,116] ?_
  exact V3 J (V4 [1] J J J)
 | true =>
  rw[ho] at hc
  rw[show partsOf x=partsTo x.Scores.length x.Bodies.length by rw[partsOf,ho]; exact if_pos rfl]
  obtain⟨_,_,_,hn,_,hb,_⟩:=Kd ho
  have hls:=Ye x.Scores
  have hlb:=Ye x.Bodies
  refine Con.of Tryz.func173 J Tryz.ntmps173 J (fun E => ?_)
  refine Wz [44,1,193,2,31] ?_;refine zx (Qj J J (hc) J) J ?_;refine Wz [76,6,53] ?_;refine Xx J J J J J J J J J J (by decide) (by decide) ?_;refine Wz [2,42] ?_;refine Xj (fun m st=>∃ k:Nat,k+m=x.Scores.length∧(True)∧st=(⟨_,[(1,.o (.c (.ptr 0 0))),(3,.o (.c (.ref 1))),(4,I k)],[.box ((Enc.e x).map (V1.rd [])),.row 1 (els (partsTo k 0))]⟩:St)) (x.Scores.length) ⟨_,⟨0,by omega,trivial,J⟩,Ua [0,1]⟩ ?_
  rintro m_A _ ⟨k,hk_A,hp_A,rfl⟩
  have hpl:=Y3 k 0
  have hle:=Ye (partsTo k 0)
  refine Wz [36,10,87] ?_
  refine Xb J (fun h => ?_) (fun h => ?_)
  ·have h3:k<x.Scores.length:=by have:=Gqd h; omega
   have hf:=S_FormatInt k (by omega)
   have hfs:=Ym k
   refine Wz [16,81] ?_;refine zx (Qj J J (hf) J) J ?_
   refine M0 (q_cat J J J J (by simp only[X9,Yb,Gqr,List.length_nil,Gqj]; omega)) J J ?_
   refine Wz [53,153,82] ?_
   exact⟨x.Scores.length-(k+1),by omega,(fun k:Nat=>(⟨_,[(1,.o (.c (.ptr 0 0))),(3,.o (.c (.ref 1))),(4,I k)],[.box ((Enc.e x).map (V1.rd [])),.row 1 (els (partsTo k 0))]⟩:St)) (k+1),⟨k+1,by omega,trivial,J⟩,V0 [0,1] J (row2p (parts_next (partsTo_n k))) (.c J (.c J (.c J (.nil))))⟩
  ·have h3:¬k<x.Scores.length:=by have:=Gqf h; omega
   have hk:k=x.Scores.length:=by omega
   rw[hk]
   refine Wz [29,42] ?_;refine Xj (fun m st=>∃ j:Nat,j+m=x.Bodies.length∧(True)∧st=(⟨_,[(1,.o (.c (.ptr 0 0))),(3,.o (.c (.ref 1))),(5,I j)],[.box ((Enc.e x).map (V1.rd [])),.row 1 (els (partsTo x.Scores.length j))]⟩:St)) (x.Bodies.length) ⟨_,⟨0,by omega,trivial,J⟩,Ua [0,1]⟩ ?_
   rintro m_B _ ⟨j,hk_B,hp_B,rfl⟩
   have hpl2:=Y3 x.Scores.length j
   have hle2:=Ye (partsTo x.Scores.length j)
   refine Wz [36,10,87] ?_
   refine Xb J (fun h => ?_) (fun h => ?_)
   ·have h3:j<x.Bodies.length:=by have:=Gqd h; omega
    have hf:=S_FormatInt j (by omega)
    have hfs:=Ym j
    refine Wz [16,81] ?_;refine zx (Qj J J (hf) J) J ?_
    refine M0 (q_cat J J J J (by simp only[X9,Yb,Gqr,List.length_nil,Gqj]; omega)) J J ?_
    refine Wz [53,153,82] ?_
    exact⟨x.Bodies.length-(j+1),by omega,(fun j:Nat=>(⟨_,[(1,.o (.c (.ptr 0 0))),(3,.o (.c (.ref 1))),(5,I j)],[.box ((Enc.e x).map (V1.rd [])),.row 1 (els (partsTo x.Scores.length j))]⟩:St)) (j+1),⟨j+1,by omega,trivial,J⟩,V0 [0,1] J (row2p (parts_next (partsTo_m x.Scores.length j))) (.c J (.c J (.c J (.nil))))⟩
   ·have h3:¬j<x.Bodies.length:=by have:=Gqf h; omega
    have hm:j=x.Bodies.length:=by omega
    rw[hm]
    refine Wz [111] ?_
    exact V3 J (V4 [1] J J J)
end
section
open Go.RowKit

def zB:TBody:=⟨0,0,0,0,0,0,0,0,0⟩
def partAt (x:TWorld) (k:Nat):List Int:=if k=0 then [x.Seed] else if k≤x.Scores.length then [x.Scores.getD (k-1) 0] else bodyInts (x.Bodies.getD (k-1-x.Scores.length) zB)
noncomputable def partInts (x:TWorld) (s:ByteArray):List Int:=match (partsOf x).findIdx? (fun t=>decide (t=s)) with
 |none => []
 |some k=>partAt x k
theorem part_none {x:TWorld} {s:ByteArray} {k:Nat} (hk:(partsOf x).length≤k) (h:∀ j (hj:j<(partsOf x).length),j<k→(partsOf x)[j]≠s):partInts x s = []:=by
 have h1:(partsOf x).findIdx? (fun t=>decide (t=s))=none:=by
  rw[List.findIdx?_eq_none_iff]
  intro t ht
  obtain⟨j,hj,rfl⟩:=List.getElem_of_mem ht
  exact Gqa (h j hj (by omega))
 rw[partInts,h1]
theorem part_hit {x:TWorld} {s:ByteArray} {k:Nat} (hk:k<(partsOf x).length) (h:∀ j (hj:j<(partsOf x).length),j<k→(partsOf x)[j]≠s) (he:(partsOf x)[k]=s):partInts x s=partAt x k:=by
 have h1:(partsOf x).findIdx? (fun t=>decide (t=s))=some k:=by
  rw[List.findIdx?_eq_some_iff_getElem]
  exact⟨hk,Gqb he,fun j hj=>by simpa using h j (by omega) hj⟩
 rw[partInts,h1]
theorem part_next {y:List ByteArray} {s:ByteArray} {k:Nat} (hk:k<y.length) (h:∀ j (hj:j<y.length),j<k→y[j]≠s) (he:¬y[k]=s):∀ j (hj:j<y.length),j<k+1→y[j]≠s:=fun j hj hl=>by
 by_cases e:j=k
 ·subst e; exact he
 ·exact h j hj (by omega)
theorem parts_at {x:TWorld} {k:Nat} (hk:k<(partsOf x).length):worldOk x=true∧k<1+x.Scores.length+x.Bodies.length:=by
 unfold partsOf at hk
 split at hk
 ·rename_i h
  exact⟨h,by rwa[Y3] at hk⟩
 ·simp at hk
theorem parts_29 (x:TWorld):(partsOf x).length≤29:=by
 unfold partsOf
 split
 ·rename_i h
  obtain⟨_,_,_,hn,_,hb,_⟩:=Kd h
  rw[Y3]; omega
 ·simp
theorem at_int {α:Type} [Enc α] {xs:List α} {i:Int} {k:Nat} (e:i=k) (h:k<xs.length):(els xs)[i.toNat]? = some (Enc.e xs[k]):=by
 subst e; exact Yd h
theorem partAt_0 (x:TWorld):partAt x 0 = [x.Seed]:=if_pos rfl
theorem partAt_s {x:TWorld} {k:Nat} (h0:k≠0) (h:k-1<x.Scores.length):partAt x k = [x.Scores[k-1]]:=by
 rw[partAt,if_neg h0,if_pos (by omega),Gqc,Gqe h]; rfl
theorem partAt_b {x:TWorld} {k:Nat} (h0:k≠0) (h1:¬k≤x.Scores.length) (h:k-1-x.Scores.length<x.Bodies.length):partAt x k=bodyInts x.Bodies[k-1-x.Scores.length]:=by
 rw[partAt,if_neg h0,if_neg h1,Gqc,Gqe h]; rfl
theorem bodyi_gd {b:TBody} (h:Enc.gd b):Enc.gd (bodyInts b):=⟨by show (9:Nat)≤_; decide,fun x hx=>by
 have:=flat_gd (bs := [b]) (fun c hc=>by simp at hc; subst hc; exact h) x (by simpa using hx)
 exact this⟩
theorem S_l06Body (b:TBody):Con Tryz.prog 216 [] [ag b] [.row 1 (els (bodyInts b))] (.o (.c (.ref 0))):=by
 refine Con.of Tryz.func216 J Tryz.ntmps216 J (fun E => ?_)
 refine Wz [44,14,10,10,10,10,10,10,10,10,53,48] ?_
 exact V3 J (W_pre (Wk.sbrow (q:=1) J J (Gqw J)) (V4 [1] J J J))
theorem S_l06Part (x:TWorld) (s:ByteArray) (hg:Enc.gd x):Con Tryz.prog 175 [] [ag x,astr s] [.row 1 (els (partInts x s))] (.o (.c (.ref 0))):=by
 have hp:=S_PartsOf x hg
 have hly:=Ye (partsOf x)
 have hpl:=parts_29 x
 have hls:=Ye x.Scores
 have hlb:=Ye x.Bodies
 refine Con.of Tryz.func175 J Tryz.ntmps175 J (fun E => ?_)
 refine Wz [44,79] ?_;refine M1 (Zc J J (hp) J J J) J J ?_;refine Wz [2,42] ?_;refine Xj (fun m st=>∃ k:Nat,k+m=(partsOf x).length∧((∀ j (hj:j<(partsOf x).length),j<k→(partsOf x)[j]≠s))∧st=(⟨_,[(1,S s),(2,.o (.c (.ptr 0 0))),(5,.o (.c (.ref 1))),(6,I k)],[.box ((Enc.e x).map (V1.rd [])),.row 1 (els (partsOf x))]⟩:St)) ((partsOf x).length) ⟨_,⟨0,by omega,fun j hj h=>absurd h (Nat.not_lt_zero _),J⟩,Ua [0,1]⟩ ?_
 rintro m_A _ ⟨k,hk_A,hp_A,rfl⟩
 refine Wz [18,41,67] ?_
 refine Xb J (fun h => ?_) (fun h => ?_)
 ·have h3:k<(partsOf x).length:=by have:=Gqd h; omega
  have hat:=Yd h3
  by_cases he:(partsOf x)[k]=s
  ·have hb:decide ((partsOf x)[k]≠s)=false:=Gqa (fun h=>h he)
   rw[part_hit h3 hp_A he]
   obtain⟨hok,hkl⟩:=parts_at h3
   by_cases k0:k=0
   ·have hb0:decide ((k:Int)=0)=true:=Gqb (by omega)
    subst k0
    rw[partAt_0]
    refine Wz [16,18,99,128,0,233,47,14,12,2,170,6,8,2,51,14,53,182,177,94,157,83] ?_
    exact V3 J (W_pre (Wk.sbrow (q:=2) J J (Gqw J)) (V4 [2] J J J))
   ·have hb0:decide ((k:Int)=0)=false:=Gqa (by omega)
    by_cases k1:k≤x.Scores.length
    ·have hb1:decide ((k:Int)≤(els x.Scores).length)=true:=Gqb (by omega)
     have hat2:=at_int (xs:=x.Scores) (i:=(k:Int)-1) (k:=k-1) (by omega) (by omega)
     rw[partAt_s k0 (by omega)]
     refine Wz [16,18,99,128,0,233,47,14,12,2,170,6,8,70,23,237,2,51,32,35,63,53,182,177,94,157,83] ?_
     exact V3 J (W_pre (Wk.sbrow (q:=2) J J (Gqw J)) (V4 [2] J J J))
    ·have hb1:decide ((k:Int)≤(els x.Scores).length)=false:=Gqa (by omega)
     have hjb:k-1-x.Scores.length<x.Bodies.length:=by omega
     have hat2:=at_int (xs:=x.Bodies) (i:=(k:Int)-1-(els x.Scores).length) (k:=k-1-x.Scores.length) (by omega) hjb
     rw[partAt_b k0 k1 hjb]
     generalize x.Bodies[k-1-x.Scores.length]=b at hat2
     have hc1:=S_l06Body b
     refine Wz [16,18,99,128,0,233,47,14,12,2,170,6,8,70,23,237,70,144,150,32,35,0,35,119] ?_;refine M1 (Zc J J (hc1) J J J) J J ?_;refine Wz [182,40] ?_
     exact V3 J (V4 [2] J J J)
  ·have hb:decide ((partsOf x)[k]≠s)=true:=Gqb he
   refine Wz [16,18,99,128,0,233,22,160,161,65,129] ?_
   exact⟨(partsOf x).length-(k+1),by omega,_,⟨k+1,by omega,part_next h3 hp_A he,J⟩,Ua [0,1]⟩
 ·have h3:¬((k:Int)<(els (partsOf x)).length):=Gqf h
  rw[part_none (by omega) hp_A]
  refine Wz [29,98] ?_
  exact V3 J (W_fill [1] [2] J J (by decide) J J J)
end
section
open Go.RowKit

def dSeed (a b:TWorld):List ByteArray:=if a.Seed≠b.Seed then [seedB] else []
def scDiff (a b:TWorld) (k:Nat):Bool:=decide (b.Scores.length≤k) || decide (a.Scores.getD k 0≠b.Scores.getD k 0)
def boDiff (a b:TWorld) (k:Nat):Bool:=decide (b.Bodies.length≤k) || decide (bodyInts (a.Bodies.getD k zB)≠bodyInts (b.Bodies.getD k zB))
def dS (a b:TWorld) (n:Nat):List ByteArray:=dSeed a b++((List.range n).filter (scDiff a b)).map scoreN
def dB (a b:TWorld) (m:Nat):List ByteArray:=dS a b a.Scores.length++((List.range m).filter (boDiff a b)).map bodyN
def dC (a b:TWorld) (j:Nat):List ByteArray:=dB a b a.Bodies.length++(List.range' a.Scores.length j).map scoreN
def dD (a b:TWorld) (j:Nat):List ByteArray:=dC a b (b.Scores.length-a.Scores.length)++(List.range' a.Bodies.length j).map bodyN
noncomputable def differ (a b:TWorld):List ByteArray:=if worldOk a=true∧worldOk b=true then dD a b (b.Bodies.length-a.Bodies.length) else []
theorem Yk {α:Type} {p:Nat→Bool} {f:Nat→α} {n:Nat} (l:List α) (h:p n=true):l++((List.range (n+1)).filter p).map f=(l++((List.range n).filter p).map f) ++ [f n]:=by
 rw[List.range_succ,List.filter_append,List.map_append,Gq1]
 simp[h]
theorem filt_no {α:Type} {p:Nat→Bool} {f:Nat→α} {n:Nat} (l:List α) (h:p n=false):l++((List.range (n+1)).filter p).map f=l++((List.range n).filter p).map f:=by
 rw[List.range_succ,List.filter_append,List.map_append]
 simp[h]
theorem rng_snoc {α:Type} {f:Nat→α} {a j:Nat} (l:List α):l++(List.range' a (j+1)).map f=(l++(List.range' a j).map f) ++ [f (a+j)]:=by
 rw[List.range'_1_concat,List.map_append,Gq1]
 rfl
theorem rng_filt (a:Nat):∀ n,(List.range n).filter (fun k=>decide (a≤k))=List.range' a (n-a)
 |0=>by simp
 | n+1=>by
  rw[List.range_succ,List.filter_append,rng_filt a n]
  by_cases h:a≤n
  ·rw[show n+1-a=(n-a)+1 by omega,List.range'_1_concat]
   simp[h,show a+(n-a)=n by omega]
  ·rw[show n+1-a=0 by omega,show n-a=0 by omega]
   simp[h]
theorem dec_inj {i j:Nat} (hi:i<100) (hj:j<100) (h:Lib.decDigits i=Lib.decDigits j):i=j:=by
 have u:∀ {x y:Nat},x<256→y<256→UInt8.ofNat x=UInt8.ofNat y→x=y:=fun {x y} hx hy e=>by
  have:=congrArg UInt8.toNat e
  rwa[UInt8.toNat_ofNat',UInt8.toNat_ofNat',Nat.mod_eq_of_lt hx,Nat.mod_eq_of_lt hy] at this
 by_cases h1:i<10
 ·rw[Lib.decDigits_one h1] at h
  by_cases h2:j<10
  ·rw[Lib.decDigits_one h2] at h
   have:=u (by omega) (by omega) (List.cons.inj h).1
   omega
  ·rw[Lib.decDigits_two h2 hj] at h
   have:=congrArg List.length h
   simp at this
 ·rw[Lib.decDigits_two h1 hi] at h
  by_cases h2:j<10
  ·rw[Lib.decDigits_one h2] at h
   have:=congrArg List.length h
   simp at this
  ·rw[Lib.decDigits_two h2 hj] at h
   have e1:=u (by omega) (by omega) (List.cons.inj h).1
   have e2:=u (by omega) (by omega) (List.cons.inj (List.cons.inj h).2).1
   omega
theorem scoreN_eq (k:Nat):scoreN k=bs ([115,99,111,114,101,32]++Lib.decDigits k):=bs_app _ _
theorem bodyN_eq (k:Nat):bodyN k=bs ([98,111,100,121,32]++Lib.decDigits k):=bs_app _ _
theorem score_inj {i j:Nat} (hi:i<100) (hj:j<100) (h:scoreN i=scoreN j):i=j:=by
 rw[scoreN_eq,scoreN_eq,bs_inj] at h
 exact dec_inj hi hj (List.append_cancel_left h)
theorem body_inj {i j:Nat} (hi:i<100) (hj:j<100) (h:bodyN i=bodyN j):i=j:=by
 rw[bodyN_eq,bodyN_eq,bs_inj] at h
 exact dec_inj hi hj (List.append_cancel_left h)
theorem score_body (i j:Nat):scoreN i≠bodyN j:=fun h=>by
 rw[scoreN_eq,bodyN_eq,bs_inj] at h
 exact absurd (List.cons.inj h).1 (by decide)
theorem seed_score (i:Nat):seedB≠scoreN i:=fun h=>by
 rw[scoreN_eq,seedB,bs_inj] at h
 exact absurd (List.cons.inj (List.cons.inj h).2).1 (by decide)
theorem seed_body (i:Nat):seedB≠bodyN i:=fun h=>by
 rw[bodyN_eq,seedB,bs_inj] at h
 exact absurd (List.cons.inj h).1 (by decide)
theorem to_0 {n m:Nat} {h:0<(partsTo n m).length}:(partsTo n m)[0]=seedB:=rfl
theorem to_s {n m k:Nat} (hk:k<n) {h:k+1<(partsTo n m).length}:(partsTo n m)[k+1]=scoreN k:=by
 simp only[partsTo]
 rw[List.getElem_append_left (by simp; omega),List.getElem_cons_succ]
 simp
theorem to_b {n m k:Nat} (hk:k<m) {h:k+1+n<(partsTo n m).length}:(partsTo n m)[k+1+n]=bodyN k:=by
 simp only[partsTo]
 rw[List.getElem_append_right (by simp; omega)]
 simp[show k+1+n-(n+1)=k by omega]
section
variable {x:TWorld} (ho:worldOk x=true)
include ho
theorem parts_is:partsOf x=partsTo x.Scores.length x.Bodies.length:=by rw[partsOf,ho]; exact if_pos rfl
theorem pI_seed:partInts x seedB = [x.Seed]:=by
 have hp:=parts_is ho
 have hl:=Y3 x.Scores.length x.Bodies.length
 rw[←partAt_0 x]
 refine part_hit (k:=0) (by rw[hp]; omega) (fun j hj h=>absurd h (Nat.not_lt_zero _)) ?_
 simp only[hp]
 rfl
theorem pI_score (k:Nat) (hk:k<100):partInts x (scoreN k)=if k<x.Scores.length then [x.Scores.getD k 0] else []:=by
 have hp:=parts_is ho
 have hl:=Y3 x.Scores.length x.Bodies.length
 obtain⟨_,_,_,hn,_,hb,_⟩:=Kd ho
 have hne:∀ j (hj:j<(partsOf x).length),j≠k+1∨¬k<x.Scores.length→(partsOf x)[j]≠scoreN k:=fun j hj hc=>by
  have hj2:j<(partsTo x.Scores.length x.Bodies.length).length:=by rw[←hp]; exact hj
  rw[List.getElem_of_eq hp hj]
  rcases j with _ | j
  ·rw[to_0]; exact seed_score k
  ·by_cases h1:j<x.Scores.length
   ·rw[to_s h1]
    intro e
    have:=score_inj (by omega) hk e
    omega
   ·obtain⟨i,rfl⟩:∃ i,j=i+x.Scores.length:=⟨j-x.Scores.length,by omega⟩
    have h2:=to_b (n:=x.Scores.length) (m:=x.Bodies.length) (k:=i) (by omega) (h:=by omega)
    have h3:(partsTo x.Scores.length x.Bodies.length)[i+x.Scores.length+1]=bodyN i:=by
     rw[←h2]; congr 1; omega
    rw[h3]
    exact fun e=>score_body k i e.symm
 by_cases h:k<x.Scores.length
 ·rw[if_pos h]
  have h2:=part_hit (x:=x) (s:=scoreN k) (k:=k+1) (by rw[hp]; omega) (fun j hj hjk=>hne j hj (by omega)) (by rw[List.getElem_of_eq hp]; exact to_s h)
  rw[h2,partAt,if_neg (by omega),if_pos (by omega)]
  rfl
 ·rw[if_neg h]
  exact part_none (k:=(partsOf x).length) (Gqk _) (fun j hj _=>hne j hj (.inr h))
theorem pI_body (k:Nat) (hk:k<100):partInts x (bodyN k)=if k<x.Bodies.length then bodyInts (x.Bodies.getD k zB) else []:=by
 have hp:=parts_is ho
 have hl:=Y3 x.Scores.length x.Bodies.length
 obtain⟨_,_,_,hn,_,hb,_⟩:=Kd ho
 have hne:∀ j (hj:j<(partsOf x).length),j≠k+1+x.Scores.length∨¬k<x.Bodies.length→(partsOf x)[j]≠bodyN k:=fun j hj hc=>by
  have hj2:j<(partsTo x.Scores.length x.Bodies.length).length:=by rw[←hp]; exact hj
  rw[List.getElem_of_eq hp hj]
  rcases j with _ | j
  ·rw[to_0]; exact seed_body k
  ·by_cases h1:j<x.Scores.length
   ·rw[to_s h1]; exact score_body j k
   ·obtain⟨i,rfl⟩:∃ i,j=i+x.Scores.length:=⟨j-x.Scores.length,by omega⟩
    have h2:=to_b (n:=x.Scores.length) (m:=x.Bodies.length) (k:=i) (by omega) (h:=by omega)
    have h3:(partsTo x.Scores.length x.Bodies.length)[i+x.Scores.length+1]=bodyN i:=by
     rw[←h2]; congr 1; omega
    rw[h3]
    intro e
    have:=body_inj (by omega) hk e
    omega
 by_cases h:k<x.Bodies.length
 ·rw[if_pos h]
  have h2:=part_hit (x:=x) (s:=bodyN k) (k:=k+1+x.Scores.length) (by rw[hp]; omega) (fun j hj hjk=>hne j hj (by omega)) (by rw[List.getElem_of_eq hp]; exact to_b h)
  rw[h2,partAt,if_neg (by omega),if_neg (by omega),show k+1+x.Scores.length-1-x.Scores.length=k by omega]
 ·rw[if_neg h]
  exact part_none (k:=(partsOf x).length) (Gqk _) (fun j hj _=>hne j hj (.inr h))
end
noncomputable def fA (a b:TWorld) (s:ByteArray):Bool := !decide (partInts a s=partInts b s)
noncomputable def fB (a:TWorld) (s:ByteArray):Bool:=decide (partInts a s = [])
theorem filt_map {p:ByteArray→Bool} {q:Nat→Bool} {f:Nat→ByteArray} {n:Nat} (h:∀ k,k<n→p (f k)=q k):((List.range n).map f).filter p=((List.range n).filter q).map f:=by
 rw[List.filter_map]
 congr 1
 exact List.filter_congr fun k hk=>h k (List.mem_range.1 hk)
theorem bodyInts_ne (b:TBody):bodyInts b ≠ []:=by simp[bodyInts]
theorem differ_eq {a b:TWorld} (ha:worldOk a=true) (hb:worldOk b=true):(partsOf a).filter (fA a b)++(partsOf b).filter (fB a)=differ a b:=by
 rw[differ,if_pos ⟨ha,hb⟩,parts_is ha,parts_is hb]
 obtain⟨_,_,_,hn,_,hm,_⟩:=Kd ha
 obtain⟨_,_,_,hn2,_,hm2,_⟩:=Kd hb
 have e1:(partsTo a.Scores.length a.Bodies.length).filter (fA a b)=dB a b a.Bodies.length:=by
  rw[partsTo,List.filter_append,dB,dS]
  congr 1
  ·rw[List.filter_cons,filt_map (q:=scDiff a b) (fun k hk => ?_)]
   ·rw[fA,pI_seed ha,pI_seed hb,dSeed]
    by_cases e:a.Seed=b.Seed <;> simp[e]
   ·rw[fA,pI_score ha k (by omega),pI_score hb k (by omega),if_pos hk,scDiff]
    by_cases h:k<b.Scores.length
    ·rw[if_pos h,Gqa (by omega:¬b.Scores.length≤k),Bool.false_or]
     by_cases e:a.Scores.getD k 0=b.Scores.getD k 0 <;> simp[e]
    ·rw[if_neg h,Gqb (by omega:b.Scores.length≤k)]
     simp
  ·refine filt_map (fun k hk => ?_)
   rw[fA,pI_body ha k (by omega),pI_body hb k (by omega),if_pos hk,boDiff]
   by_cases h:k<b.Bodies.length
   ·rw[if_pos h,Gqa (by omega:¬b.Bodies.length≤k),Bool.false_or]
    by_cases e:bodyInts (a.Bodies.getD k zB)=bodyInts (b.Bodies.getD k zB) <;> simp[e]
   ·rw[if_neg h,Gqb (by omega:b.Bodies.length≤k)]
    simp[bodyInts_ne]
 have e2:(partsTo b.Scores.length b.Bodies.length).filter (fB a)=(List.range' a.Scores.length (b.Scores.length-a.Scores.length)).map scoreN++(List.range' a.Bodies.length (b.Bodies.length-a.Bodies.length)).map bodyN:=by
  rw[partsTo,List.filter_append,List.filter_cons,filt_map (q:=fun k=>decide (a.Scores.length≤k)) (fun k hk => ?_),filt_map (q:=fun k=>decide (a.Bodies.length≤k)) (fun k hk => ?_),rng_filt,rng_filt]
  ·rw[fB,pI_seed ha]; simp
  ·rw[fB,pI_body ha k (by omega)]
   by_cases h:k<a.Bodies.length
   ·rw[if_pos h,Gqa (bodyInts_ne _),Gqa (by omega)]
   ·rw[if_neg h,Gqb rfl,Gqb (by omega)]
  ·rw[fB,pI_score ha k (by omega)]
   by_cases h:k<a.Scores.length
   ·rw[if_pos h,Gqa (by simp),Gqa (by omega)]
   ·rw[if_neg h,Gqb rfl,Gqb (by omega)]
 rw[e1,e2,dD,dC,Gq1]
end
end Go.Proofs.YtpmacgnmlmmojaaGreatDoor
