/-
  Rules, data and contracts of functions: part 36 of the proof.
  Conditions: those that each theorem names.
-/
import Derived.Test.YtalaljeokcpfnaaGreatDDPlayRowk30
import Derived.Test.YtalaljeokcpfnaaGreatDDPlayRowk33
import Derived.Test.YtalaljeokcpfnaaGreatDDPlayRowk34
set_option linter.unusedSimpArgs false
set_option linter.unusedVariables false
set_option maxRecDepth 8000
set_option maxHeartbeats 8000000
namespace Go.Proofs.YtalaljeokcpfnaaGreat
section
open Go.RowKit

section
variable {P:Program} {E:Env} {ops:Array Oper} {o:Oper} {n:Nat} {ts:List (Nat×V)} {obs:List Ob} {rest:List Oper} {Q:Exit→St→Prop} {t:TypeId} {y z:Operand} {p kk i j:Nat} {es:List (List T)} {e:List T}
end
end
section
open Go.RowKit

theorem els_at' {α:Type} [Enc α] {xs:List α} {k:Nat} {u:α} (h:xs[k]? = some u):(els xs)[k]? = some (Enc.e u):=by rw[els,Gqk,h]; rfl
end
section
open Tryz
open Go.RowKit

def faultS (f:TFault) (w:TWorld):TWorld:=⟨w.Level,w.Tick,w.Seed,w.Scores.set f.Player.toNat (min (w.Scores.getD f.Player.toNat 0+f.Add) 1000000),w.Bodies⟩
def faultD (f:TFault) (w v:TWorld):Prop:=faultOk f w.Scores.length=true∧v.Tick=f.Tick∧w.Tick<v.Tick
noncomputable instance (f:TFault) (w v:TWorld):Decidable (faultD f w v):=Classical.propDecidable _
noncomputable def stepF (w:TWorld) (row:List Int) (f:TFault):TWorld:=if faultD f w (stepW w row) then faultS f (stepW w row) else stepW w row
theorem I_FaultyStep (w:TWorld) (row:List Int) (f:TFault) (hg:Enc.gd w) (gr:Enc.gd row) (gf:Enc.gd f) (h1:w.Level.Rows.length≤1048576) (h2:w.Scores.length≤1048576) (h3:w.Bodies.length≤1048576) (hl:(stepW w row).Scores.length=w.Scores.length) (hs:∀ x∈(stepW w row).Scores,0≤x∧x≤1000000) (hlv:(stepW w row).Level=w.Level):Co 168 [] [ag w,al row,ag f] (wR (stepF w row f) []) (.o (.ag [Aqk 0,jn (stepF w row f).Tick,jn (stepF w row f).Seed,Aqk 1,Aqk 2])):=by
 have cs:=I_StepWorld w row hg gr h1 h2 h3
 have hls:=Y7 w.Scores
 have cf:=I_FaultOk f (els w.Scores).length Aqa 
 rw[←hlv] at cs
 rw[show faultOk f ((els w.Scores).length:Int)=faultOk f w.Scores.length by rw[hls]] at cf
 obtain⟨_,gt,_,_,_⟩:=hg
 obtain⟨ft,fp,fa⟩:=gf
 unfold stepF
 obtain⟨v,hv⟩:∃ v,stepW w row=v:=⟨_,rfl⟩
 rw[hv] at cs hl hs ⊢
 by_cases hd:faultD f w v
 case neg =>
  rw[if_neg hd]
  by_cases k1:faultOk f w.Scores.length=true
  case neg =>
   have k1:faultOk f w.Scores.length=false:=by simpa using k1
   rw[k1] at cf
   refine Con.o func168 ntmps168 fun E=>?_;refine Wz [43,131,82,1,7,0,250,91,4,7,105] ?_;refine kc0 cf ?_;refine Wz [6,55,80,46,55,80,83,7,39,177,89] ?_
   exact Bzr
  rw[k1] at cf
  by_cases k2:v.Tick=f.Tick
  case neg =>
   have k2':decide (v.Tick≠f.Tick)=true:=Gqb k2
   refine Con.o func168 ntmps168 fun E=>?_;refine Wz [43,131,82,1,7,0,250,91,4,7,105] ?_;refine kc0 cf ?_;refine Wz [6,71,112,22,5,55,80,83,7,39,177,89] ?_
   exact Bzr
  have k2':decide (v.Tick≠f.Tick)=false:=Gqa (fun h=>h k2)
  have k3:decide (v.Tick≤w.Tick)=true:=Gqb (by
   refine Int.not_lt.1 fun h=>hd ⟨k1,k2,h⟩)
  refine Con.o func168 ntmps168 fun E=>?_;refine Wz [43,131,82,1,7,0,250,91,4,7,105] ?_;refine kc0 cf ?_;refine Wz [6,71,112,22,5,71,112] ?_;refine z9b J Aqe ?_;refine Wz [5,32,7,39,177,89] ?_
  exact Bzr
 rw[if_pos hd]
 obtain⟨k1,k2,k3⟩:=hd
 have hfo:=k1
 unfold faultOk at hfo
 simp only[Gqh,decide_eq_true_eq,Zm] at hfo
 obtain⟨⟨⟨_,p0⟩,p1⟩,a1⟩:=hfo
 obtain⟨q,hq⟩:∃ q:Nat,f.Player=q:=⟨f.Player.toNat,Aqa⟩
 obtain⟨s,hsq⟩:=Ua (xs:=v.Scores) (i:=q) Aqa 
 have he:=Za hsq
 have hlv2:=Y7 v.Scores
 have hs0:=hs s (Gqn hsq)
 have hS:(faultS f v).Scores=v.Scores.set q (min (s+f.Add) 1000000):=by
  unfold faultS
  rw[hq]
  simp only[Int.toNat_natCast,Gqf,hsq,Option.getD_some]
 have hE:els (faultS f v).Scores=(els v.Scores).set (f.Player).toNat (splice (Enc.e s) 0 [.v (.int .i64 (min (s+f.Add) 1000000))]):=by
  rw[hS,Y9,hq]; rfl
 have hP:wR (faultS f v) [] = [.row 1 (els v.Level.Rows),.row 1 ((els v.Scores).set (f.Player).toNat (splice (Enc.e s) 0 [.v (.int .i64 (min (s+f.Add) 1000000))])),.row 9 (els v.Bodies)]:=by rw[←hE]; rfl
 rw[hP]
 rw[k1] at cf
 have k2':decide (v.Tick≠f.Tick)=false:=Gqa (fun h=>h k2)
 have k3:decide (v.Tick≤w.Tick)=false:=Gqa Aqa 
 refine Con.o func168 ntmps168 fun E=>?_;refine Wz [43,131,82,1,7,0,250,91,4,7,105] ?_;refine kc0 cf ?_;refine Wz [6,71,112,22,5,71,112] ?_;refine z9b J Aqe ?_;refine Wz [5,135] ?_;refine AWP.kp [3,1,5,2,6,3,7,7] [] 7 [(0,.box (wD w)),(1,.box [jn f.Tick,jn f.Player,jn f.Add]),(2,.box [nv,jn 0,jn 0,nv,nv]),(6,.box [Aqk 3,jn v.Tick,jn v.Seed,Aqk 4,Aqk 5])] ?_
 rw[←hq] at he
 refine Xi u8_75 (tt [[],[32,1],[],[34,1],[],[36,1],[],[38,1],[36,4],[36,5],[],[42,1],[36,8],[36,9],[32,14],[32,15]]) (tt [[34,12],[34,12],[32,2,36,10],[32,2,36,10],[32,4,38,2,42,2],[32,4,38,2,42,2],[32,6,42,2],[32,6,42,2],[32,4,42,2],[32,4,42,2],[32,10],[32,10],[32,4],[32,4],[],[]]) J ?_;refine Wz [37,37,37,37,129,163,37,187] ?_;refine Uq (q_min J J J J) J ?_;refine Wz [129,12,170,1,7,39,73] ?_
 exact Bzr
end
section
open Go.RowKit

def zeroB (b:UInt8):Bool:=b == 0
def someB (b:UInt8):Bool := !(b == 0)
def packZ (l:List UInt8):List UInt8:=match l with
 | [] => []
 |x::r=>encVar (((x::r).takeWhile zeroB).length:Nat)++(encVar ((((x::r).dropWhile zeroB).takeWhile someB).length:Nat)++((x::r).dropWhile zeroB).takeWhile someB)++packZ (((x::r).dropWhile zeroB).dropWhile someB)
termination_by l.length
decreasing_by
 by_cases h:zeroB x=true
 ·rw[List.dropWhile_cons,if_pos h]
  have h1:=(List.dropWhile_sublist someB (l:=r.dropWhile zeroB)).length_le
  have h2:=(List.dropWhile_sublist zeroB (l:=r)).length_le
  simp only[Gqw]; omega
 ·rw[List.dropWhile_cons,if_neg h,List.dropWhile_cons,if_pos (by simpa[zeroB,someB] using h)]
  have h1:=(List.dropWhile_sublist someB (l:=r)).length_le
  simp only[Gqw]; omega
theorem packZ_ne (x:UInt8) (r:List UInt8):¬(((x::r).takeWhile zeroB).length=0∧(((x::r).dropWhile zeroB).takeWhile someB).length=0):=by
 intro ⟨h1,h2⟩
 by_cases h:zeroB x=true
 ·rw[List.takeWhile_cons,if_pos h] at h1; simp at h1
 ·rw[List.dropWhile_cons,if_neg h,List.takeWhile_cons,if_pos (by simpa[zeroB,someB] using h)] at h2; simp at h2
def uzGo (s:ByteArray) (strict:Bool):Nat→Nat→List UInt8→Option (List UInt8)
 |0,pos,out=>if pos<s.size then none else some out
 | f+1,pos,out=>if pos<s.size then (match decVar s pos with
  |none=>none
  |some (n,j)=>match unpackText s ((pos:Int)+(j:Int)) with
   |none=>none
   |some (t,k)=>if (20000:Int)-out.length<n+t.size then none else if strict=true∧n=0∧t.size=0 then none else uzGo s strict f (pos+j+k) (out++List.replicate n.toNat 0++t.data.toList)) else some out
def unpackZ (strict:Bool) (s:ByteArray):Option ByteArray:=match uzGo s strict s.size 0 [] with
 |none=>none
 |some out=>if bs (packZ out)=s then some (bs out) else none
theorem unpackText_enc {s:ByteArray} {p:Nat} {t r:List UInt8} (hL:s.size≤1099511627775) (hs:s.data.toList.drop p=(encVar (t.length:Nat)++t)++r):unpackText s p=some (bs t,(encVar (t.length:Nat)).length+t.length):=by
 have e:s.data.toList.length=s.size:=Aqd
 have hlen:(s.data.toList.drop p).length=((encVar (t.length:Nat)++t)++r).length:=by rw[hs]
 simp only[Gq9,Gql] at hlen
 rw[Gqz] at hs
 by_cases ht:(t.length:Int)≤1099511627775
 ·have h1:=decVar_enc Aqa ht hs
  have hne:1≤(encVar (t.length:Nat)).length:=by rw[encVar,if_pos ⟨Aqa,ht⟩]; exact (varN_len _).1
  rw[unpackText,h1]
  have hp:p+(encVar (t.length:Nat)).length+t.length≤s.size:=Aqa
  simp only
  rw[if_neg Aqa]
  congr 2
  have hd:s.data.toList.drop (p+(encVar (t.length:Nat)).length)=t++r:=by
   have:=congrArg (List.drop (encVar (t.length:Nat)).length) hs
   rwa[List.drop_drop,List.drop_left] at this
  rw[show ((p:Int)+((encVar (t.length:Nat)).length:Nat)).toNat=p+(encVar (t.length:Nat)).length by omega,show ((p:Int)+((encVar (t.length:Nat)).length:Nat)+((t.length:Nat):Int)).toNat=p+(encVar (t.length:Nat)).length+t.length by omega,extract_bytes,bytesL,hd,List.take_left]
 ·omega
theorem uz_mono (s:ByteArray):∀ (f pos:Nat) (out r:List UInt8),uzGo s true f pos out=some r→uzGo s false f pos out=some r
 |0,pos,out,r,h=>h
 | f+1,pos,out,r,h=>by
  rw[uzGo] at h ⊢
  by_cases hp:pos<s.size
  ·rw[if_pos hp] at h ⊢
   cases hd:decVar s pos with
   |none=>rw[hd] at h; cases h
   | some x =>
    obtain⟨n,j⟩:=x
    rw[hd] at h
    simp only at h ⊢
    cases hu:unpackText s ((pos:Int)+(j:Int)) with
    |none=>rw[hu] at h; cases h
    | some y =>
     obtain⟨t,k⟩:=y
     rw[hu] at h
     simp only at h ⊢
     split at h
     ·cases h
     ·rename_i hb
      rw[if_neg hb,if_neg Aqd]
      split at h
      ·cases h
      ·exact uz_mono s f _ _ _ h
  ·rw[if_neg hp] at h ⊢; exact h
theorem uz_canon (s:ByteArray) (hL:s.size≤1099511627775):∀ (f pos:Nat) (out l:List UInt8),l.length≤1099511627775→s.data.toList.drop pos=packZ l→uzGo s true f pos out=uzGo s false f pos out
 |0,pos,out,l,_,h=>rfl
 | f+1,pos,out,l,hl,h=>by
  rw[uzGo,uzGo]
  by_cases hp:pos<s.size
  ·rw[if_pos hp,if_pos hp]
   have e:s.data.toList.length=s.size:=Aqd
   cases l with
   |nil =>
    rw[packZ] at h
    have:=congrArg List.length h
    simp only[Gq9,List.length_nil] at this
    omega
   | cons x r =>
    have hne:=packZ_ne x r
    rw[packZ,Gqz] at h
    have hl1:=(List.takeWhile_sublist zeroB (l:=x::r)).length_le
    have hl2:=(List.dropWhile_sublist someB (l:=(x::r).dropWhile zeroB)).length_le
    have hl3:=(List.dropWhile_sublist zeroB (l:=x::r)).length_le
    generalize ((x::r).takeWhile zeroB).length=z at h hne hl1
    generalize ((x::r).dropWhile zeroB).takeWhile someB=t at h hne
    generalize ((x::r).dropWhile zeroB).dropWhile someB=q at h hl2
    have hlen:(s.data.toList.drop pos).length=(encVar (z:Nat)++((encVar (t.length:Nat)++t)++packZ q)).length:=by rw[h]
    by_cases hz:(z:Int)≤1099511627775
    ·have h1:=decVar_enc (s:=s) (p:=pos) (n:=(z:Int)) Aqa hz h
     have hd:s.data.toList.drop (pos+(encVar (z:Nat)).length)=(encVar (t.length:Nat)++t)++packZ q:=by
      have:=congrArg (List.drop (encVar (z:Nat)).length) h
      rwa[List.drop_drop,List.drop_left] at this
     have h2:=unpackText_enc hL hd
     have hd2:s.data.toList.drop (pos+(encVar (z:Nat)).length+((encVar (t.length:Nat)).length+t.length))=packZ q:=by
      have:=congrArg (List.drop (encVar (t.length:Nat)++t).length) hd
      rw[List.drop_drop,List.drop_left,Gql] at this
      exact this
     rw[h1]
     simp only
     rw[show (pos:Int)+((encVar (z:Nat)).length:Nat)=((pos+(encVar (z:Nat)).length:Nat):Int) by omega,h2]
     simp only
     split
     ·rfl
     ·rw[if_neg (by rw[Yx]; intro ⟨_,h3,h4⟩; exact hne ⟨Aqa,h4⟩),if_neg Aqd]
      exact uz_canon s hL f _ _ q Aqa hd2
    ·omega
  ·rw[if_neg hp,if_neg hp]
theorem uz_len (s:ByteArray) (b:Bool):∀ (f pos:Nat) (out r:List UInt8),out.length≤20000→uzGo s b f pos out=some r→r.length≤20000
 |0,pos,out,r,hl,h=>by
  rw[uzGo] at h
  split at h
  ·cases h
  ·cases h; exact hl
 | f+1,pos,out,r,hl,h=>by
  rw[uzGo] at h
  by_cases hp:pos<s.size
  ·rw[if_pos hp] at h
   cases hd:decVar s pos with
   |none=>rw[hd] at h; cases h
   | some x =>
    obtain⟨n,j⟩:=x
    rw[hd] at h
    simp only at h
    have hn:=Y2 hd
    cases hu:unpackText s ((pos:Int)+(j:Int)) with
    |none=>rw[hu] at h; cases h
    | some y =>
     obtain⟨t,k⟩:=y
     rw[hu] at h
     simp only at h
     split at h
     ·cases h
     ·rename_i hb
      split at h
      ·cases h
      ·have e:t.data.toList.length=t.size:=Aqd
       exact uz_len s b f _ _ _ (by simp only[Gql,Gx4]; omega) h
  ·rw[if_neg hp] at h; cases h; exact hl
theorem unpackZ_eq (s:ByteArray) (hL:s.size≤1099511627775):unpackZ true s=unpackZ false s:=by
 unfold unpackZ
 cases h:uzGo s false s.size 0 [] with
 |none =>
  cases h2:uzGo s true s.size 0 [] with
  |none=>rfl
  |some r=>rw[uz_mono s _ _ _ _ h2] at h; cases h
 | some r =>
  by_cases hr:bs (packZ r)=s
  ·have hc:=uz_canon s hL s.size 0 [] r (by have:=uz_len s false _ _ _ _ Aqd h; omega) (by rw[List.drop_zero,←hr,Yw])
   rw[hc,h]
  ·simp only[if_neg hr]
   cases h2:uzGo s true s.size 0 [] with
   |none=>rfl
   |some r' =>
    have:=uz_mono s _ _ _ _ h2
    rw[h] at this
    cases this
    simp only[if_neg hr]
theorem tw_gen {q:UInt8→Bool}:∀ {xs:List UInt8} {n:Nat},(∀ j,j<n→∃ y,xs[j]? = some y∧q y=true)→(∀ y,xs[n]? = some y→q y=false)→xs.takeWhile q=xs.take n∧xs.dropWhile q=xs.drop n
 | [],n,_,_=>by simp
 |x::xs,0,_,h2=>by
  have:=h2 x Aqd 
  rw[List.takeWhile_cons,List.dropWhile_cons,this]
  simp
 |x::xs,n+1,h1,h2=>by
  obtain⟨y,hy,hq⟩:=h1 0 Aqa 
  simp at hy
  subst hy
  obtain⟨a,b⟩:=tw_gen (q:=q) (xs:=xs) (n:=n) (fun j hj=>by have:=h1 (j+1) Aqa; simpa using this) (fun y hy=>h2 y (by simpa using hy))
  rw[List.takeWhile_cons,List.dropWhile_cons,hq]
  simp[a,b]
theorem byte_some {s:ByteArray} {a j:Nat} {b:UInt8} (h:(s.data.toList.drop a)[j]? = some b):a+j<s.size∧byteAt s (a+j)=(b.toNat:Int):=by
 rw[Gq7] at h
 have hl:=(Gqo.1 h).1
 have e:s.data.toList.length=s.size:=Aqd
 obtain⟨b',h1,h2⟩:=byteAt_list (s:=s) (i:=a+j) Aqa 
 rw[h] at h1
 cases h1
 exact⟨Aqa,h2⟩
theorem zero_iff {b:UInt8}:zeroB b=true↔(b.toNat:Int)=0:=by
 simp only[zeroB,beq_iff_eq]
 constructor
 ·intro h; subst h; rfl
 ·intro h; exact UInt8.toNat_inj.1 (by simpa using h)
theorem text_list (t:ByteArray):(packText t).data.toList=encVar (t.size:Nat)++t.data.toList:=by simp[packText,ByteArray.append,bs]
theorem Z8 {s:ByteArray} {a m i:Nat} (h1:a≤m) (h2:m≤i) (h3:i≤s.size) (hlt:a<i) (hz:∀ j,a≤j→j<m→byteAt s j=0) (hm:m<s.size→byteAt s m≠0) (hn:∀ j,m≤j→j<i→byteAt s j≠0) (hi:i<s.size→byteAt s i=0) :
  packZ (s.data.toList.drop a)=encVar ((m-a:Nat):Int)++(packText (s.extract m i)).data.toList++packZ (s.data.toList.drop i):=by
 have e:s.data.toList.length=s.size:=Aqd
 have ht1:=tw_gen (q:=zeroB) (xs:=s.data.toList.drop a) (n:=m-a) (fun j hj=>by
  obtain⟨y,hy⟩:∃ y,(s.data.toList.drop a)[j]? = some y:=⟨_,Gqg Bqz⟩
  exact⟨y,hy,zero_iff.2 (by rw[←(byte_some hy).2]; exact hz _ Aqa Aqa)⟩) (fun y hy=>by
  have:=byte_some hy
  rw[show a+(m-a)=m by omega] at this
  rw[←Gxu,zero_iff,←this.2]
  exact hm this.1)
 rw[List.drop_drop,show a+(m-a)=m by omega] at ht1
 have ht2:=tw_gen (q:=someB) (xs:=s.data.toList.drop m) (n:=i-m) (fun j hj=>by
  obtain⟨y,hy⟩:∃ y,(s.data.toList.drop m)[j]? = some y:=⟨_,Gqg Bqz⟩
  refine⟨y,hy,?_⟩
  have h4:¬zeroB y=true:=by rw[zero_iff,←(byte_some hy).2]; exact hn _ Aqa Aqa 
  simpa[zeroB,someB] using h4) (fun y hy=>by
  have:=byte_some hy
  rw[show m+(i-m)=i by omega] at this
  have h4:zeroB y=true:=by rw[zero_iff,←this.2]; exact hi this.1
  simpa[zeroB,someB] using h4)
 rw[List.drop_drop,show m+(i-m)=i by omega] at ht2
 have hne:s.data.toList.drop a ≠ []:=by
  intro h
  have:=congrArg List.length h
  simp only[Gq9,List.length_nil] at this
  omega
 have hx:(s.extract m i).data.toList=(s.data.toList.drop m).take (i-m):=extract_list s m i
 have hsz:(s.extract m i).size=i-m:=Bxl
 rw[text_list,hx,hsz]
 cases hd:s.data.toList.drop a with
 |nil=>exact absurd hd hne
 |cons x r =>
  rw[packZ,←hd,ht1.1,ht1.2,ht2.1,ht2.2,Gq4,Gq4,Gq9,Gq9,show min (m-a) (s.data.toList.length-a)=m-a by omega,show min (i-m) (s.data.toList.length-m)=i-m by omega]
theorem packZ_nil:packZ [] = []:=by rw[packZ]
end
section
open Go.RowKit

def zeroS (k:Nat):ByteArray:=⟨Array.replicate k 0⟩
theorem zeroS_list (k:Nat):(zeroS k).data.toList=List.replicate k 0:=by simp[zeroS]
theorem zeroS_size (k:Nat):(zeroS k).size=k:=by simp[zeroS,ByteArray.size]
theorem zeroS_cells (k:Nat):(byteCells (zeroS k)).toArray=Builtin.zeroCells #[.int .u8 0] k:=by
 apply Array.ext'
 apply List.ext_getElem
 ·simp[byteCells,zeroS,Builtin.zeroCells]
 ·intro i h1 h2
  simp[byteCells,zeroS,Builtin.zeroCells,Nat.mod_one]
theorem append_zeros_run {P:Program} (w:World) (t tn ts ty e:TypeId) (i:TypeInfo) {kn:IntKind} (ht:P.underlying t=some (.slice e)) (htn:P.underlying tn=some (.int kn)) (hts:P.underlying ts=some .string) (hi:P.info? e=some i) {z:Value} (hz:i.zero=some z) (hzc:z.cells=#[.int .u8 0]) (hsz:i.size=1) (hb:i.bytes=1)
  (base:Option Addr) (sLen sCap k:Nat) (hcap:sLen≤sCap) (hk:sLen+k≤140737488355328) :
  (Builtin.append_ #[t,tn] ty #[.slice base sLen sCap,.int .i64 k]).run P w=(Builtin.append_ #[t,ts] ty #[.slice base sLen sCap,.string (zeroS k)]).run P w:=by
 have hs:=Src.ofString (P:=P) w hts (zeroS k)
 have hc:=zeroS_cells k
 rw[zeroS_size] at hs
 obtain⟨_,hl,hcells,hcellsD,_,_⟩:=hs
 have hcA:∀ w':World,(Builtin.firstCells 1 k (.string (zeroS k))).run P w' = .ok (byteCells (zeroS k)).toArray w':=fun w'=>by
  have:=firstCells_string (P:=P) (zeroS k) w'
  rwa[zeroS_size] at this
 have hw:IntKind.i64.wrap (k:Int)=k:=by rw[IntKind.wrap_i64]; omega
 have hw0:IntKind.i64.wrap (0:Int)=0:=by rw[IntKind.wrap_i64]; omega
 have hneg:¬((k:Int)<0):=Aqa
 have h48i:¬(281474976710656<(k:Int)):=Aqa
 have h63':¬(9223372036854775807<((sLen:Int)+(k:Int))):=Aqa
 by_cases hroom:sLen+k≤sCap
 ·by_cases h0:k=0
  ·subst h0
   have hc0:(byteCells (zeroS 0)).toArray=#[]:=rfl
   simp[Builtin.append_,run_underlying ht,run_underlying htn,run_underlying hts,Go.sizeOf,typeInfo,zeroValue,hi,hz,hsz,hb,asInt,asIntOf,hw0,hl,hcA,hc0] at hroom ⊢
   simp[hroom]
  ·simp[Builtin.append_,run_underlying ht,run_underlying htn,run_underlying hts,Go.sizeOf,typeInfo,zeroValue,hi,hz,hsz,hb,asInt,asIntOf,hw,hneg,h0,h48i,hl,hroom,hcA,hc,hzc]
 ·by_cases h0:k=0
  ·omega
  ·have hfit:=growslice_fits (need:=sLen+k) (old:=sCap) (bytes:=1) Aqa Aqa 
   have h48':¬(281474976710656<Builtin.nextslicecap (sLen+k) sCap):=Aqa
   simp[h48',Builtin.append_,run_underlying ht,run_underlying htn,run_underlying hts,Go.sizeOf,typeInfo,zeroValue,hi,hz,hsz,hb,asInt,asIntOf,hw,hneg,h0,h48i,h63',hl,hroom,hcA,hc,hzc]
theorem append_zs {P:Program} {w:World} {t tn ts ty e:TypeId} {kn:IntKind} [hm:TyMake P t e [.int .u8 0] 1] [hn:TyInt P tn kn] [hts:TyStr P ts] {es:List (List T)} {v:Value} {fp:List Nat} (hw:OW w (.sl 1 es) v fp) (k:Nat) (hk:es.length+k≤140737488355328) :
  (Builtin.append_ #[t,tn] ty #[v,.int .i64 k]).run P w=(Builtin.append_ #[t,ts] ty #[v,.string (zeroS k)]).run P w:=by
 obtain⟨i,hi,hzz⟩:=Option.map_eq_some_iff.1 hm.info
 simp only[Prod.mk.injEq] at hzz
 obtain⟨hz1,hs,hb1⟩:=hzz
 obtain⟨z,hz2,hz3⟩:=Option.map_eq_some_iff.1 hz1
 have hzc:z.cells=#[.int .u8 0]:=Array.ext' hz3
 rcases hw.open_ with ⟨rfl,rfl,rfl⟩ | ⟨b,o,c,tid,cur,fz,val,fps,rfl,_,_,_,hc,_⟩
 ·exact append_zeros_run w t tn ts ty e i hm.slice hn.int hts.str hi hz2 hzc hs hb1 none 0 0 k (Gqi _) (by simpa using hk)
 ·exact append_zeros_run w t tn ts ty e i hm.slice hn.int hts.str hi hz2 hzc hs hb1 _ es.length c k hc hk
section
variable {P:Program} {E:Env} {ops:Array Oper} {rest:List Oper} {o:Oper} {QQ:Exit→St→Prop} {st:St} {t:TypeId} {y z:Operand} {qs:List Nat}
theorem L_appz {p:Nat} {tn:TypeId} (ts:TypeId) {kn:IntKind} {k:Nat} {es:List (List T)} {e:TypeId} [hm:TyMake P t e [.int .u8 0] 1] [hn:TyInt P tn kn] [hts:TyStr P ts] (ho:o.op = .call { callee := .builtin .append,args:=#[y,z],argTypes:=#[t,tn] }) (hg:o.guard=none) (hy:st.ev y = .o (.c (.ref p))) (hp:st.objs[p]? = some (.row 1 es)) (hz:st.ev z = .o (.c (.rd qs (.v (.int .i64 (k:Int))))))
  (hb:es.length+k≤140737488355328)
  (hd:dstOk st.n o.dst=true) (h:AL P E ops QQ rest ⟨st.n,setT (st.tmps.map fun e=>(e.1,e.2.kill [p])) o.dst (.o (.c (.ref p))),(st.objs.map (Ob.kill [p])).set p (.row 1 (es++bE (List.replicate k 0)))⟩):AL P E ops QQ (o::rest) st:=by
 refine⟨fun a w ⟨H,F,h1,h2⟩ => ?_⟩
 obtain⟨v,fp,e1,e2⟩:=h1.ow hp
 obtain⟨x',fp',e3⟩:=h1.v1 hy
 rw[e1] at e3
 simp only[Pc.ow.injEq] at e3
 obtain⟨_,hv,_⟩:=e3
 have hnd:=h1.ok.nodup p
 rw[e1] at hnd
 have hlen:(bE (zeroS k).data.toList).length=k:=by rw[Yt,zeroS_list,Gx4]
 obtain⟨v',w',fp'',hr,h3,h4,h5,h6⟩:=append_src (P:=P) (o:=o) (t:=t) (kk:=1) e2 hnd rfl Aqd (bE_src (tx:=ts) (zeroS k)) (bE_plain _) (bE_one _) (by rw[hlen]; omega) (by rw[hlen]; omega)
 rw[←append_zs (tn:=tn) e2 k hb] at hr
 rw[zeroS_list] at h3
 obtain⟨hok,htn⟩:=h1.ok.turn (p:=p) (fp:=fp) Bxe h6 (.ow (.sl 1 (es++bE (List.replicate k 0))) v' fp'') h3 h4 trivial h5
 obtain⟨hplt,_⟩:=Gqo.1 hp
 have hR:=h1.turn htn hok ((st.objs.map (Ob.kill [p])).set p (.row 1 (es++bE (List.replicate k 0)))) (fun q hq=>?_) (fun q hq=>?_)
 ·have hR2:=hR.put (x := .o (.c (.ref p))) o.dst hd (v:=v') ⟨_,_,Hs.put_self _ _ _⟩
  refine wpList_step fun K hK=>?_
  rw[if_pos Bq6]
  unfold Oper.wp
  rw[Zf ho (by rw[←hv,h1.plain hz]; exact hr)]
  exact Bz0
 ·have hqp:q≠p:=Bxd
  rw[Gqf,Gxa (Ne.symm hqp),Gqk,Gqf]
  cases st.objs[q]? <;> rfl
 ·have hqp:q=p:=Bxd
  subst hqp
  rw[Zi (x := .row 1 (es++bE (List.replicate k 0))) (by simp[hplt])]
  exact Bzs
theorem M_appz {n d p:Nat} {ts':List (Nat×V)} {obs:List Ob} {tn:TypeId} (ts:TypeId) {kn:IntKind} {k:Nat} {es:List (List T)} {e:TypeId} [hm:TyMake P t e [.int .u8 0] 1] [hn:TyInt P tn kn] [hts:TyStr P ts] (ho:o.op = .call { callee := .builtin .append,args:=#[y,z],argTypes:=#[t,tn] }) (hg:o.guard=none) (hy:St.ev ⟨n,ts',obs⟩ y = .o (.c (.ref p))) (hp:obs[p]? = some (.row 1 es)) (hz:St.ev ⟨n,ts',obs⟩ z = .o (.c (.rd qs (.v (.int .i64 (k:Int))))))
  (hd:o.dst=some d) (hl:Nat.blt d n=true) (hb:es.length+k≤140737488355328)
  (h:AL P E ops QQ rest ⟨n,(d,.o (.c (.ref p)))::(ts'.map fun e=>(e.1,e.2.kill [p])),(obs.map (Ob.kill [p])).set p (.row 1 (es++bE (List.replicate k 0)))⟩):AL P E ops QQ (o::rest) ⟨n,ts',obs⟩ :=
 L_appz (st:=⟨n,ts',obs⟩) ts ho hg hy hp hz hb Bq8 Bq9
end
end
end Go.Proofs.YtalaljeokcpfnaaGreat
