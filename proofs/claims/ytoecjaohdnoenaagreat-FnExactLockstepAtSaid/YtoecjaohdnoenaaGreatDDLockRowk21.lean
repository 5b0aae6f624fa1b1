/-
  Rules, data and contracts of functions: part 22 of the proof.
  Conditions: those that each theorem names.
-/
import Derived.Test.YtoecjaohdnoenaaGreatDDLockRowk20
set_option linter.unusedSimpArgs false
set_option linter.unusedVariables false
set_option maxRecDepth 8000
set_option maxHeartbeats 8000000
namespace Go.Proofs.YtoecjaohdnoenaaGreat
section
open Go.RowKit

def bodyInts (b:TBody):List Int := [b.Kind,b.Owner,b.X,b.Y,b.VX,b.VY,b.Aim,b.Life,b.Timer]
def worldInts (w:TWorld):List Int:=([w.Tick,w.Seed,(w.Scores.length:Int)]++w.Scores)++w.Bodies.flatMap bodyInts
noncomputable def worldBytes (w:TWorld):ByteArray:=if worldOk w=true then packInts (worldInts w) else ⟨#[]⟩
theorem Ya {α:Type} [Enc α] (xs ys:List α):els (xs++ys)=els xs++els ys:=List.map_append
end
section
open Go.RowKit

def dvGo (s:ByteArray) (p:Nat) (n:Int) (k:Nat):Nat→Option (Int×Nat)
 |0=>none
 | f+1=>if p+k<s.size then
   (if 128≤byteAt s (p+k) then dvGo s p (n+byteAt s (p+k)%128*2 ^ (7*k)) (k+1) f
    else if (byteAt s (p+k)=0∧0<k)∨1099511627775<n+byteAt s (p+k)%128*2 ^ (7*k) then none
    else some (n+byteAt s (p+k)%128*2 ^ (7*k),k+1)) else none
def decVar (s:ByteArray) (p:Int):Option (Int×Nat):=if 0≤p∧p<s.size then dvGo s p.toNat 0 0 6 else none
@[reducible] def bv (b:Bool):V1 := .rd [] (.v (.bool b))
@[reducible] def jn (n:Int):V1 := .rd [] (.v (.int .i64 n))
end
section
open Go.RowKit

def signed (n:Int):Int:=if 0≤n∧n≤1099511627775 then (if n%2=0 then n/2 else -((n+1)/2)) else 0
/-! ### Lists -/
/-! ### Texts -/
def unpackText (s:ByteArray) (p:Int):Option (ByteArray×Nat):=match decVar s p with
 |none=>none
 |some (n,k)=>if (s.size:Int)-p-k<n then none else some (s.extract (p+k).toNat (p+k+n).toNat,k+n.toNat)
end
section
open Go.RowKit
end
section
open Go.RowKit
end
section
open Go.RowKit
end
section
open Go.RowKit

/-! ### Numbers -/
/-! ### Lists -/
/-! ### Texts -/
/-! ### Columns -/
/-! ### DecodeStream -/
end
section
open Go.RowKit

theorem els_takeE2 {α:Type} [Enc α] (xs:List α) (n:Nat):els (xs.take n)=(els xs).take n:=List.map_take
end
section
open Go.RowKit

theorem els_snoc {α:Type} [Enc α] {xs:List α} {k:Nat} (h:k<xs.length):els (xs.take (k+1))=els (xs.take k) ++ [Enc.e xs[k]]:=by
 rw[Gq4 h]
 exact List.map_append
section
variable {P:Program} {ops:Array Oper} {o:Oper} {st:St} {m:Nat} {t e:TypeId} {y z:Operand} {zs:List Value} {by_:Nat}
end
end
section
open Go.RowKit
end
section
open Go.RowKit

def colF (q:Int→Bool) (row:ByteArray):Nat→Option Nat
 |0=>none
 |c+1=>match colF q row c with
  |some x=>some x
  |none=>if q (byteAt row c)=true then some c else none
def tileF (q:Int→Bool) (rows:List ByteArray):Nat→Option (Nat×Nat)
 |0=>none
 | r+1=>match tileF q rows r with
  |some x=>some x
  |none=>match rows[r]? with
   |none=>none
   |some row=>(colF q row row.size).map fun c=>(r,c)
def isOpen (t:Int):Bool:=decide (t≠35)
def isDig (p:Int) (t:Int):Bool:=decide (t=49+p)
def spX:Option (Nat×Nat)→Int
 |none => -1
 |some (_,c)=>16*c+2
def spY:Option (Nat×Nat)→Int
 |none => -1
 |some (r,_)=>16*r+2
def startT (l:TLevel) (p:Int):Option (Nat×Nat):=match tileF (isDig p) l.Rows l.Rows.length with
 |some x=>some x
 |none=>tileF isOpen l.Rows l.Rows.length
theorem colF_some {q:Int→Bool} {row:ByteArray}:∀ {n c:Nat},colF q row n=some c→c<n∧q (byteAt row c)=true
 |0,c,h=>by cases h
 | n+1,c,h=>by
  rw[colF] at h
  cases h1:colF q row n with
  |some x=>rw[h1] at h; cases h; have:=colF_some h1; exact⟨by omega,this.2⟩
  |none =>
   rw[h1] at h
   by_cases h2:q (byteAt row n)=true
   ·rw[if_pos h2] at h; cases h; exact⟨by omega,h2⟩
   ·rw[if_neg h2] at h; cases h
theorem colF_none {q:Int→Bool} {row:ByteArray}:∀ {n:Nat},colF q row n=none→∀ c,c<n→q (byteAt row c)=false
 |0,h,c,hc=>by omega
 | n+1,h,c,hc=>by
  rw[colF] at h
  cases h1:colF q row n with
  |some x=>rw[h1] at h; cases h
  | none =>
   rw[h1] at h
   by_cases h2:q (byteAt row n)=true
   ·rw[if_pos h2] at h; cases h
   ·by_cases e:c=n
    ·subst e; simpa using h2
    ·exact colF_none h1 c (by omega)
theorem tileF_some {q:Int→Bool} {rows:List ByteArray}:∀ {n r c:Nat},tileF q rows n=some (r,c)→∃ h:r<rows.length,r<n∧c<rows[r].size∧q (byteAt rows[r] c)=true
 |0,r,c,h=>by cases h
 | n+1,r,c,h=>by
  rw[tileF] at h
  cases h1:tileF q rows n with
  |some x=>rw[h1] at h; cases h; obtain⟨a,b,d⟩:=tileF_some h1; exact⟨a,by omega,d⟩
  | none =>
   rw[h1] at h
   cases h2:rows[n]? with
   |none=>rw[h2] at h; cases h
   |some row =>
    rw[h2] at h
    simp only[Option.map_eq_some_iff,Prod.mk.injEq] at h
    obtain⟨c',h3,rfl,rfl⟩:=h
    have hn:=(Gql.1 h2).1
    have he:=(Gql.1 h2).2
    have:=colF_some h3
    exact⟨hn,by omega,by rw[he]; exact this.1,by rw[he]; exact this.2⟩
theorem tileF_none {q:Int→Bool} {rows:List ByteArray}:∀ {n:Nat},tileF q rows n=none→∀ r (h:r<rows.length),r<n→∀ c,c<rows[r].size→q (byteAt rows[r] c)=false
 |0,h,r,hr,hn,c,hc=>by omega
 | n+1,h,r,hr,hn,c,hc=>by
  rw[tileF] at h
  cases h1:tileF q rows n with
  |some x=>rw[h1] at h; cases h
  | none =>
   rw[h1] at h
   by_cases e:r=n
   ·subst e
    rw[Gqf hr] at h
    simp only[Option.map_eq_none_iff] at h
    exact colF_none h c hc
   ·exact tileF_none h1 r hr (by omega) c hc
theorem tileM_open {e:Bool} {t:Int} {s s':Seen×Bool} (h:tileM e t s=some s') (ho:s'.2=true):s.2=true∨t≠35:=by
 by_cases ht:t=35
 ·rw[tileM,if_pos ht] at h; cases h; exact .inl ho
 ·exact .inr ht
theorem cols_open {row:ByteArray} {er:Bool} {w:Nat} {s:Seen×Bool}:∀ {n:Nat} {s':Seen×Bool},colsM row er w s n=some s'→s'.2=true→s.2=true∨∃ c,c<n∧byteAt row c≠35
 |0,s',h,ho=>by cases h; exact .inl ho
 | n+1,s',h,ho=>by
  rw[colsM] at h
  cases h1:colsM row er w s n with
  |none=>rw[h1] at h; cases h
  | some s1 =>
   rw[h1] at h
   rcases tileM_open h ho with h2 | h2
   ·rcases cols_open h1 h2 with h3 | ⟨c,hc,h3⟩
    ·exact .inl h3
    ·exact .inr ⟨c,by omega,h3⟩
   ·exact .inr ⟨n,by omega,h2⟩
theorem rows_open {rows:List ByteArray} {w:Nat}:∀ {n:Nat} {s:Seen×Bool},rowsM rows w n=some s→s.2=true→∃ r c,∃ h:r<rows.length,r<n∧c<rows[r].size∧byteAt rows[r] c≠35
 |0,s,h,ho=>by cases h; cases ho
 | n+1,s,h,ho=>by
  rw[rowsM] at h
  cases h1:rowsM rows w n with
  |none=>rw[h1] at h; cases h
  | some s1 =>
   rw[h1] at h
   cases h2:rows[n]? with
   |none=>rw[h2] at h; cases h
   | some row =>
    rw[h2] at h
    simp only at h
    split at h
    ·rename_i hw
     have hn:=(Gql.1 h2).1
     have he:=(Gql.1 h2).2
     rcases cols_open h ho with h3 | ⟨c,hc,h3⟩
     ·obtain⟨r,c,a,b,d⟩:=rows_open h1 h3
      exact⟨r,c,a,by omega,d⟩
     ·exact⟨n,c,hn,by omega,by rw[he]; omega,by rw[he]; exact h3⟩
    ·cases h
theorem level_open {l:TLevel} (h:levelOk l=true):∃ r c,∃ h:r<l.Rows.length,c<(l.Rows[r]).size∧byteAt (l.Rows[r]) c≠35:=by
 unfold levelOk at h
 simp only[Gqh] at h
 obtain⟨_,h5⟩:=h
 split at h5
 ·rename_i s hs
  obtain⟨r,c,a,b,d⟩:=rows_open hs h5
  exact⟨r,c,a,d⟩
 ·cases h5
theorem start_some {l:TLevel} (hl:levelOk l=true) {p:Int} (hp:0≤p∧p≤3):∃ r c,startT l p=some (r,c)∧∃ h:r<l.Rows.length,c<(l.Rows[r]).size∧byteAt (l.Rows[r]) c≠35:=by
 unfold startT
 cases h1:tileF (isDig p) l.Rows l.Rows.length with
 |some x =>
  obtain⟨r,c⟩:=x
  obtain⟨a,b,d,e⟩:=tileF_some h1
  refine⟨r,c,J,a,d,?_⟩
  have:=Gqc e
  omega
 | none =>
  cases h2:tileF isOpen l.Rows l.Rows.length with
  |some x =>
   obtain⟨r,c⟩:=x
   obtain⟨a,b,d,e⟩:=tileF_some h2
   exact⟨r,c,J,a,d,Gqc e⟩
  |none =>
   obtain⟨r,c,a,d,e⟩:=level_open hl
   have:=tileF_none h2 r a a c d
   exact absurd e (Gqd this)
def openF (rows:List ByteArray) (row:ByteArray) (r c:Nat):Option (Nat×Nat):=match tileF isOpen rows r with
 |some x=>some x
 |none=>(colF isOpen row c).map fun c=>(r,c)
theorem openF_zero {rows:List ByteArray} {row:ByteArray} {r:Nat}:openF rows row r 0=tileF isOpen rows r:=by
 unfold openF
 cases tileF isOpen rows r <;> rfl
theorem openF_end {rows:List ByteArray} {row:ByteArray} {r:Nat} (h:rows[r]? = some row):openF rows row r row.size=tileF isOpen rows (r+1):=by
 rw[openF,tileF,h]
theorem Y6 {rows:List ByteArray} {row:ByteArray} {r c:Nat} {x:Nat×Nat} (h:openF rows row r c=some x):openF rows row r (c+1)=some x:=by
 unfold openF at h ⊢
 cases h1:tileF isOpen rows r with
 |some y=>rw[h1] at h; exact h
 |none =>
  rw[h1] at h
  simp only[Option.map_eq_some_iff] at h ⊢
  obtain⟨a,h2,h3⟩:=h
  exact⟨a,by rw[colF,h2],h3⟩
theorem Y7 {rows:List ByteArray} {row:ByteArray} {r c:Nat} (h:openF rows row r c=none):openF rows row r (c+1)=if byteAt row c=35 then none else some (r,c):=by
 unfold openF at h ⊢
 cases h1:tileF isOpen rows r with
 |some y=>rw[h1] at h; cases h
 |none =>
  rw[h1] at h
  simp only[Option.map_eq_none_iff] at h
  simp only[colF,h]
  by_cases h2:byteAt row c=35
  ·rw[if_pos h2,if_neg (show ¬isOpen (byteAt row c)=true from fun q=>Gqc q h2)]; rfl
  ·rw[if_neg h2,if_pos (show isOpen (byteAt row c)=true from Gqb h2)]; rfl
theorem colF_step {q:Int→Bool} {row:ByteArray} {c:Nat} (h:colF q row c=none) (hq:q (byteAt row c)=false):colF q row (c+1)=none:=by rw[colF,h]; simp[hq]
theorem colF_hit {q:Int→Bool} {row:ByteArray} {c:Nat} (h:colF q row c=none) (hq:q (byteAt row c)=true):∀ {n:Nat},c<n→colF q row n=some c
 |0,hn=>by omega
 |n+1,hn=>by
  rw[colF]
  by_cases e:c=n
  ·subst e; rw[h]; simp[hq]
  ·rw[colF_hit h hq (by omega)]
theorem tileF_step {q:Int→Bool} {rows:List ByteArray} {row:ByteArray} {r:Nat} (h:tileF q rows r=none) (hr:rows[r]? = some row) (hc:colF q row row.size=none):tileF q rows (r+1)=none:=by rw[tileF,h,hr]; simp[hc]
theorem tileF_hit {q:Int→Bool} {rows:List ByteArray} {row:ByteArray} {r c:Nat} (h:tileF q rows r=none) (hr:rows[r]? = some row) (hc:colF q row row.size=some c):∀ {n:Nat},r<n→tileF q rows n=some (r,c)
 |0,hn=>by omega
 |n+1,hn=>by
  rw[tileF]
  by_cases e:r=n
  ·subst e; rw[h,hr]; simp[hc]
  ·rw[tileF_hit h hr hc (by omega)]
theorem start_dig {l:TLevel} {p:Int} {row:ByteArray} {r c:Nat} (h:tileF (isDig p) l.Rows r=none) (hr:l.Rows[r]? = some row) (hc:colF (isDig p) row c=none) (hcs:c<row.size) (hb:byteAt row c=49+p):startT l p=some (r,c):=by
 have h1:=colF_hit hc (show isDig p (byteAt row c)=true from Gqb hb) hcs
 rw[startT,tileF_hit h hr h1 (Gql.1 hr).1]
theorem start_open {l:TLevel} {p:Int} {n:Nat} (h:tileF (isDig p) l.Rows n=none) (hn:n=l.Rows.length):startT l p=tileF isOpen l.Rows n:=by
 subst hn
 rw[startT,h]
theorem spX_neg {o:Option (Nat×Nat)}:spX o<0↔o=none:=by
 cases o with
 |none=>simp[spX]
 |some x=>obtain⟨r,c⟩:=x; simp[spX]; omega
def fresh (l:TLevel) (p:Int):TBody:=⟨0,p,spX (startT l p),spY (startT l p),0,0,1,3,0⟩
theorem fresh_free {l:TLevel} (hl:levelOk l=true) {p:Int} (hp:0≤p∧p≤3):solidM l (fresh l p).X (fresh l p).Y 12=false∧(0≤(fresh l p).X∧(fresh l p).X≤400)∧(0≤(fresh l p).Y∧(fresh l p).Y≤400):=by
 obtain⟨r,c,h1,hr,hc,hb⟩:=start_some hl hp
 obtain⟨l3,l12,w,w4,w20,hw⟩:=Yr hl
 have hwr:=hw r hr
 rw[fresh,h1]
 refine⟨solidM_F ?_,by simp only[spX]; omega,by simp only[spY]; omega⟩
 rintro⟨r',c',a1,a2,a3,a4,hwall⟩
 simp only[spX,spY] at a1 a2 a3 a4
 have e1:r'=r:=by omega
 have e2:c'=c:=by omega
 subst e1 e2
 exact no_wall hr hc hb hwall
def newWorld (l:TLevel) (n:Nat) (seed:Int):TWorld:=⟨l,0,seed,List.replicate n 0,(List.range n).map fun (k:Nat)=>fresh l (k:Int)⟩
theorem newWorld_ok {l:TLevel} {n:Nat} {seed:Int} (hl:levelOk l=true) (hn:1≤n∧n≤4) (hs:inR seed 0 65535=true):worldOk (newWorld l n seed)=true:=by
 refine worldOk_T ⟨hl,J,hs,by simpa[newWorld] using hn,?_,by simp[newWorld]; omega,?_⟩
 ·simp only[newWorld,scoresOk,List.all_replicate]
  simp[inR]
 ·intro k hk
  have hk4:k<n:=by simpa[newWorld] using hk
  have hlen:(newWorld l n seed).Scores.length=n:=by simp[newWorld]
  have hb:(newWorld l n seed).Bodies[k]=fresh l k:=by simp[newWorld]
  rw[hlen,hb]
  obtain⟨h1,h2,h3⟩:=fresh_free hl (p:=(k:Int)) (by omega)
  show bodyAt l n k (fresh l k)=true
  rw[bodyAt,if_pos hk4,Gqh]
  refine⟨?_,Gqb ⟨J,J⟩⟩
  rw[bodyM,show sizeOf (fresh l k).Kind=12 from rfl,h1]
  have e1:inR (fresh l (k:Int)).Kind 0 2=true:=rfl
  have e2:inR (fresh l (k:Int)).Owner 0 ((n:Int)-1)=true:=Yq.2 ⟨by show (0:Int)≤k; omega,by show (k:Int)≤n-1; omega⟩
  have e3:inR (fresh l (k:Int)).VX (-15) 15=true:=rfl
  have e4:inR (fresh l (k:Int)).VY (-15) 15=true:=rfl
  have e5:tailM (fresh l (k:Int))=true:=rfl
  rw[e1,e2,e3,e4,e5]
  rfl
end
section
open Go.RowKit

def nextR (s:Int):Int:=if 0≤s∧s≤65535 then (s*25173+13849)%65536 else 0
def belowR (s n:Int):Int:=nextR s/16%n
theorem Y2 (s:Int):0≤nextR s∧nextR s≤65535:=by
 unfold nextR
 split <;> omega
def pressed (i k:Int):Bool:=decide (((i.toNat &&& k.toNat:Nat):Int)≠0)
noncomputable def steer (l:TLevel) (b:TBody) (i:Int):TBody×Bool :=
 (⟨b.Kind,b.Owner,b.X,b.Y,
  if (pressed i 1 && !pressed i 2)=true then -3 else if (pressed i 2 && !pressed i 1)=true then 3 else 0,
  if (pressed i 4&&solidM l b.X (b.Y+1) 12)=true then -9 else min (b.VY+1) 8,
  if (pressed i 1 && !pressed i 2)=true then -1 else if (pressed i 2 && !pressed i 1)=true then 1 else b.Aim,
  b.Life,
  if (pressed i 8&&decide ((if 0<b.Timer then b.Timer-1 else b.Timer)=0))=true then 12 else (if 0<b.Timer then b.Timer-1 else b.Timer)⟩,
  pressed i 8&&decide ((if 0<b.Timer then b.Timer-1 else b.Timer)=0))
def slide (hit:Int→Bool) (step:Int):Nat→Int→Int×Bool
 |0,x=>(x,false)
 |n+1,x=>if hit (x+step)=true then (x,true) else slide hit step n (x+step)
theorem slide_hit {hit:Int→Bool} {step x:Int} {n:Nat} (h:hit (x+step)=true):slide hit step (n+1) x=(x,true):=by rw[slide,if_pos h]
theorem slide_go {hit:Int→Bool} {step x:Int} {n:Nat} (h:hit (x+step)=false):slide hit step (n+1) x=slide hit step n (x+step):=by rw[slide,if_neg (by rw[h]; simp)]
def dirOf (v:Int):Int:=if v<0 then -1 else 1
noncomputable def moveX (l:TLevel) (b:TBody):Int×Bool:=slide (fun x=>solidM l x b.Y (sizeOf b.Kind)) (dirOf b.VX) b.VX.natAbs b.X
noncomputable def moveY (l:TLevel) (b:TBody):Int×Bool:=slide (fun y=>solidM l (moveX l b).1 y (sizeOf b.Kind)) (dirOf b.VY) b.VY.natAbs b.Y
noncomputable def moveM (l:TLevel) (b:TBody):TBody×Bool :=
 (⟨b.Kind,b.Owner,(moveX l b).1,(moveY l b).1,if (moveX l b).2=true then 0 else b.VX,if (moveY l b).2=true then 0 else b.VY,b.Aim,b.Life,b.Timer⟩,(moveX l b).2 || (moveY l b).2)
def shotOf (b:TBody):TBody:=⟨1,b.Owner,b.X+4,b.Y+4,6*b.Aim,0,0,0,25⟩
def meetM (a b:TBody):Bool :=
 ((decide (a.X<b.X+sizeOf b.Kind)&&decide (b.X<a.X+sizeOf a.Kind))&&decide (a.Y<b.Y+sizeOf b.Kind))&&decide (b.Y<a.Y+sizeOf a.Kind)
structure Placed (b:TBody):Prop where
 k:0≤b.Kind∧b.Kind≤2
 x:0≤b.X∧b.X≤1000
 y:0≤b.Y∧b.Y≤1000
theorem size_pos {k:Int} (h:0≤k∧k≤2):4≤sizeOf k∧sizeOf k≤12:=by
 unfold sizeOf
 split
 ·omega
 ·split
  ·omega
  ·split <;> omega
def colSp (row:ByteArray) (r:Nat):Nat→List (List Int)
 |0 => []
 |c+1=>if byteAt row c=111 then colSp row r c ++ [[(c:Int)*16+4,(r:Int)*16+4]] else colSp row r c
def rowSp (rows:List ByteArray):Nat→List (List Int)
 |0 => []
 |r+1=>match rows[r]? with
  |none=>rowSp rows r
  |some row=>rowSp rows r++colSp row r row.size
end
section
open Go.RowKit

section
variable {P:Program} {E:Env} {ops:Array Oper} {o:Oper} {st:St} {n:Nat} {y:Operand}
theorem Qz {p i:Nat} (ho:o.op = .nilCheck y) (hg:o.guard=none) (hy:st.ev y = .o (.c (.ptr p i))):Qt P ops o st (.o (.c (.ptr p i))) [] n :=
 .pure hg fun a w H F hr=>by
  obtain⟨g,tt,vs,e1,e2⟩:=hr.v1 hy
  exact⟨.pointer (some ⟨g,i,none⟩),by simp[execOp,ho,e2],g,tt,vs,e1,J⟩
theorem q_nile {p k i j:Nat} (ho:o.op = .nilCheck y) (hg:o.guard=none) (hy:st.ev y = .o (.c (.el p k i j))):Qt P ops o st (.o (.c (.el p k i j))) [] n :=
 .pure hg fun a w H F hr=>by
  obtain⟨b,o',m',c,x,fp,e1,e2⟩:=hr.v1 hy
  exact⟨.pointer (some ⟨b,o'+i*k+j,none⟩),by simp[execOp,ho,e2],b,o',m',c,x,fp,e1,J⟩
end
structure Mid (st':St) (e:Exit) (st:St):Prop where
 h:e = .normal∧Wk st st'
section
variable {P:Program} {E:Env} {st st':St}
theorem Mid.n (h:Wk st st'):Mid st' .normal st:=⟨rfl,h⟩
theorem A_join {c d:Code} {Q Q':Exit→St→Prop} (st':St) (h1:AWP P E c (Mid st') st) (h2:AWP P E d Q' st'):AWP P E c (thn (AWP P E d Q') Q) st :=
 AWP.mono (fun e s h=>by obtain⟨rfl,hw⟩:=h.h; exact⟨AWP.weak hw h2⟩) h1
end
end
section
open Go.RowKit

theorem openF_35 {rows:List ByteArray} {row:ByteArray} {r c:Nat} (h:byteAt row c=35):openF rows row r c=openF rows row r (c+1):=by
 cases ho:openF rows row r c with
 |some x=>rw[Y6 ho]
 |none=>rw[Y7 ho,if_pos h]
theorem tu2 {x y x' y':Int} (h1:x=x') (h2:y=y'):V.tu [.c (jn x),.c (jn y)]=V.tu [.c (jn x'),.c (jn y')]:=by rw[h1,h2]
theorem I_StartOf (l:TLevel) (p:Int) (hg:Enc.gd l) (hl:levelOk l=true) (hp:0≤p∧p≤3):Con Tryz.prog 249 [] [ag l,ai p] [] (.tu [.c (jn (spX (startT l p))),.c (jn (spY (startT l p)))]):=by
 have hc:=Xq l hg
 rw[hl] at hc
 have hlr:=Yc l.Rows
 have hx:l.Rows.length≤9223372036854775807:=hg.1
 obtain⟨l3,l12,w,w4,w20,hw⟩:=Yr hl
 have b1:decide (p<0)=false:=Gqa (by omega)
 have b2:decide (p≥4)=false:=Gqa (by omega)
 refine Con.of Tryz.func249 J Tryz.ntmps249 J (fun E => ?_)
 refine Wz [98,87,113,28,162,7,79,92,3] ?_;refine zx (Qj J J (hc) J) J ?_;refine Wz [3,2,7,9,22,22,31,10,133,76] ?_;refine Xj (fun m st=>∃ r:Nat,r+m=l.Rows.length∧(tileF (isDig p) l.Rows r=none)∧st=(⟨_,[(1,I p),(2,.o (.c (.ptr 0 0))),(6,I (spX (tileF isOpen l.Rows r))),(7,I (spY (tileF isOpen l.Rows r))),(23,L l.Rows),(24,I (els l.Rows).length),(25,I r)],[.box ((Enc.e l).map (V1.rd []))]⟩:St)) (l.Rows.length) ⟨_,⟨0,by omega,J,J⟩,Ux [0]⟩ ?_
 rintro m_A _ ⟨r,hk_A,hp_A,rfl⟩
 refine Wz [5,63,14] ?_
 refine Xb J (fun h => ?_) (fun h => ?_)
 ·have h3:r<l.Rows.length:=by have:=Gqc h; omega
  have hat:=Yb h3
  have hwr:=hw r h3
  have hrow:=Gqf h3
  generalize l.Rows[r]=row at hat hwr hrow
  refine Wz [105,47,87,4,22,76] ?_;refine Xj (fun m st=>∃ c:Nat,c+m=row.size∧(colF (isDig p) row c=none)∧st=(⟨_,[(1,I p),(2,.o (.c (.ptr 0 0))),(6,I (spX (openF l.Rows row r c))),(7,I (spY (openF l.Rows row r c))),(8,I r),(9,S row),(10,I c),(23,L l.Rows),(24,I (els l.Rows).length),(25,I r)],[.box ((Enc.e l).map (V1.rd []))]⟩:St)) (row.size) ⟨(fun c:Nat=>(⟨_,[(1,I p),(2,.o (.c (.ptr 0 0))),(6,I (spX (openF l.Rows row r c))),(7,I (spY (openF l.Rows row r c))),(8,I r),(9,S row),(10,I c),(23,L l.Rows),(24,I (els l.Rows).length),(25,I r)],[.box ((Enc.e l).map (V1.rd []))]⟩:St)) 0,⟨0,by omega,J,J⟩,Up [0] J (by kernel_rfl) (.c J (.c J (.cons (Xs (by rw[openF_zero])) (.cons (Xs (by rw[openF_zero])) (.c J (.c J (.c J (.c J (.c J (.c J (.nil)))))))))))⟩ ?_
  rintro m_D _ ⟨c,hk_D,hp_D,rfl⟩
  refine Wz [13,137,63] ?_
  refine Xb J (fun h4 => ?_) (fun h4 => ?_)
  ·have h4:c<row.size:=by have:=Gqc h4; omega
   have hbt:=X9 row c
   have hbt2:=X9 row (c:Int).toNat
   by_cases hd:byteAt row c=49+p
   ·have hb:decide (byteAt row (c:Int).toNat=49+p)=true:=Gqb hd
    rw[start_dig hp_A hrow hp_D h4 hd]
    clear hd
    refine Wz [8,13,163,95,255,12,11,18,143,123,0,143,123,87,4,88,108,142,119] ?_
    exact E_tmp2 J J J (Ur [] J J (tu2 (show (c:Int)*16+2=16*(c:Int)+2 by omega) (show (r:Int)*16+2=16*(r:Int)+2 by omega)))
   have hb:decide (byteAt row (c:Int).toNat=49+p)=false:=Gqa hd
   have hnd:=colF_step hp_D (show isDig p (byteAt row c)=false from Gqa hd)
   by_cases h35:byteAt row c=35
   ·have hb3:decide (byteAt row (c:Int).toNat≠35)=false:=Gqa (fun q=>q h35)
    have hnx:spX (openF l.Rows row r c)=spX (openF l.Rows row r (c+1)):=by rw[openF_35 h35]
    have hny:spY (openF l.Rows row r c)=spY (openF l.Rows row r (c+1)):=by rw[openF_35 h35]
    clear h35
    refine Wz [8,13,163,95,255,12,9,17,163,49,40,7,53] ?_
    exact⟨row.size-(c+1),by omega,(fun c:Nat=>(⟨_,[(1,I p),(2,.o (.c (.ptr 0 0))),(6,I (spX (openF l.Rows row r c))),(7,I (spY (openF l.Rows row r c))),(8,I r),(9,S row),(10,I c),(23,L l.Rows),(24,I (els l.Rows).length),(25,I r)],[.box ((Enc.e l).map (V1.rd []))]⟩:St)) (c+1),⟨c+1,by omega,hnd,J⟩,Up [0] J (by kernel_rfl) (.c J (.c J (.cons (Xs hnx) (.cons (Xs hny) (.c J (.c J (.c J (.c J (.c J (.c J (.nil)))))))))))⟩
   have hb3:decide (byteAt row (c:Int).toNat≠35)=true:=Gqb h35
   have h35':=h35
   cases ho:openF l.Rows row r c with
   |some x =>
    have hlt:decide (spX (openF l.Rows row r c)<0)=false:=Gqa (by rw[spX_neg,ho]; simp)
    have hnx:spX (some x)=spX (openF l.Rows row r (c+1)):=by rw[Y6 ho]
    have hny:spY (some x)=spY (openF l.Rows row r (c+1)):=by rw[Y6 ho]
    rw[ho] at hlt
    refine Wz [8,13,163,95,255,12,9,17,163,49,28,15,24,53] ?_
    exact⟨row.size-(c+1),by omega,(fun c:Nat=>(⟨_,[(1,I p),(2,.o (.c (.ptr 0 0))),(6,I (spX (openF l.Rows row r c))),(7,I (spY (openF l.Rows row r c))),(8,I r),(9,S row),(10,I c),(23,L l.Rows),(24,I (els l.Rows).length),(25,I r)],[.box ((Enc.e l).map (V1.rd []))]⟩:St)) (c+1),⟨c+1,by omega,hnd,J⟩,Up [0] J (by kernel_rfl) (.c J (.c J (.cons (Xs hnx) (.cons (Xs hny) (.c J (.c J (.c J (.c J (.c J (.c J (.nil)))))))))))⟩
   |none =>
    have hlt:decide (spX none<0)=true:=rfl
    have hnx:(c:Int)*16+2=spX (openF l.Rows row r (c+1)):=by rw[Y7 ho,if_neg h35']; show (c:Int)*16+2=16*(c:Int)+2; omega
    have hny:(r:Int)*16+2=spY (openF l.Rows row r (c+1)):=by rw[Y7 ho,if_neg h35']; show (r:Int)*16+2=16*(r:Int)+2; omega
    refine Wz [8,13,163,95,255,12,9,17,163,49,28,15,24,11,18,143,130,23,0,143,123,99] ?_
    exact⟨row.size-(c+1),by omega,(fun c:Nat=>(⟨_,[(1,I p),(2,.o (.c (.ptr 0 0))),(6,I (spX (openF l.Rows row r c))),(7,I (spY (openF l.Rows row r c))),(8,I r),(9,S row),(10,I c),(23,L l.Rows),(24,I (els l.Rows).length),(25,I r)],[.box ((Enc.e l).map (V1.rd []))]⟩:St)) (c+1),⟨c+1,by omega,hnd,J⟩,Up [0] J (by kernel_rfl) (.c J (.c J (.cons (Xs hnx) (.cons (Xs hny) (.c J (.c J (.c J (.c J (.c J (.c J (.nil)))))))))))⟩
  ·have h4:c=row.size:=by have:=Gqd h4; omega
   subst h4
   refine Wz [150,100] ?_
   exact⟨l.Rows.length-(r+1),by omega,(fun r:Nat=>(⟨_,[(1,I p),(2,.o (.c (.ptr 0 0))),(6,I (spX (tileF isOpen l.Rows r))),(7,I (spY (tileF isOpen l.Rows r))),(23,L l.Rows),(24,I (els l.Rows).length),(25,I r)],[.box ((Enc.e l).map (V1.rd []))]⟩:St)) (r+1),⟨r+1,by omega,tileF_step hp_A hrow hp_D,J⟩,Up [0] J (by kernel_rfl) (.c J (.c J (.cons (Xs (by rw[←openF_end hrow])) (.cons (Xs (by rw[←openF_end hrow])) (.c J (.c J (.c J (.nil))))))))⟩
 ·have h3:r=l.Rows.length:=by have:=Gqd h; omega
  rw[start_open hp_A h3]
  refine Wz [38,17,87,85] ?_
  exact E_tmp2 J J J (Ur [] J J J)
theorem S_StartOf (l:TLevel) (p:Int) (hg:Enc.gd l) (hl:levelOk l=true) (hp:0≤p∧p≤3):Con Tryz.prog 247 [] [ag l,ai p] [] (.tu [.c (jn (spX (startT l p))),.c (jn (spY (startT l p)))]):=by
 have hc:=S_LevelOk l hg
 rw[hl] at hc
 have hlr:=Yc l.Rows
 have hx:l.Rows.length≤9223372036854775807:=hg.1
 obtain⟨l3,l12,w,w4,w20,hw⟩:=Yr hl
 have hci:=Xy p 0 3
 rw[Yq.2 hp] at hci
 refine Con.of Tryz.func247 J Tryz.ntmps247 J (fun E => ?_)
 refine Wz [98,87,4,22,22,93] ?_;refine zx (Qj J J (hc) J) J ?_;refine Wz [2,28] ?_;refine zx (Qj J J (hci) J) J ?_;refine Wz [3,2,7,9,26] ?_;refine Xj (fun m st=>∃ r:Nat,r+m=l.Rows.length∧(tileF (isDig p) l.Rows r=none)∧st=(⟨_,[(1,I p),(2,.o (.c (.ptr 0 0))),(6,I (spX (tileF isOpen l.Rows r))),(7,I (spY (tileF isOpen l.Rows r))),(8,I r)],[.box ((Enc.e l).map (V1.rd []))]⟩:St)) (l.Rows.length) ⟨_,⟨0,by omega,J,J⟩,Ux [0]⟩ ?_
 rintro m_A _ ⟨r,hk_A,hp_A,rfl⟩
 refine Wz [75,21,238] ?_
 refine Xb J (fun h => ?_) (fun h => ?_)
 ·have h3:r<l.Rows.length:=by have:=Gqc h; omega
  have hat:=Yb h3
  have hwr:=hw r h3
  have hrow:=Gqf h3
  generalize l.Rows[r]=row at hat hwr hrow
  refine Wz [8,22,76] ?_;refine Xj (fun m st=>∃ c:Nat,c+m=row.size∧(colF (isDig p) row c=none)∧st=(⟨_,[(1,I p),(2,.o (.c (.ptr 0 0))),(6,I (spX (openF l.Rows row r c))),(7,I (spY (openF l.Rows row r c))),(8,I r),(9,I c)],[.box ((Enc.e l).map (V1.rd []))]⟩:St)) (row.size) ⟨(fun c:Nat=>(⟨_,[(1,I p),(2,.o (.c (.ptr 0 0))),(6,I (spX (openF l.Rows row r c))),(7,I (spY (openF l.Rows row r c))),(8,I r),(9,I c)],[.box ((Enc.e l).map (V1.rd []))]⟩:St)) 0,⟨0,by omega,J,J⟩,Up [0] J (by kernel_rfl) (.c J (.c J (.cons (Xs (by rw[openF_zero])) (.cons (Xs (by rw[openF_zero])) (.c J (.c J (.nil)))))))⟩ ?_
  rintro m_D _ ⟨c,hk_D,hp_D,rfl⟩
  refine Wz [75,21,0,47,137,63] ?_
  refine Xb J (fun h4 => ?_) (fun h4 => ?_)
  ·have h4:c<row.size:=by have:=Gqc h4; omega
   have hbt:=X9 row c
   have hbt2:=X9 row (c:Int).toNat
   by_cases hd:byteAt row c=49+p
   ·have hb:decide (byteAt row (c:Int).toNat-49=p)=true:=Gqb (by show byteAt row c-49=p; omega)
    have hb3:decide (byteAt row (c:Int).toNat≠35)=true:=Gqb (by show byteAt row c≠35; omega)
    rw[start_dig hp_A hrow hp_D h4 hd]
    clear hd
    cases ho:openF l.Rows row r c with
    |some x =>
     have hlt:decide (spX (openF l.Rows row r c)<0)=false:=Gqa (by rw[spX_neg,ho]; simp)
     rw[ho] at hlt
     refine Wz [8,62,47,0,163,66,49,28,15,24,28,218,3,51,3,79,12,7,11,18,143,130,23,0,143,130,18,218,51,0,12,11,17,87,4,88,179,119] ?_
     exact E_tmp2 J J J (Ur [] J J J)
    |none =>
     have hlt:decide (spX none<0)=true:=rfl
     refine Wz [8,62,47,0,163,66,49,28,15,24,40,56,101,24,11,18,143,130,23,0,143,130,18,218,51,0,12,11,17,87,4,88,179,119] ?_
     exact E_tmp2 J J J (Ur [] J J J)
   have hb:decide (byteAt row (c:Int).toNat-49=p)=false:=Gqa (by show ¬byteAt row c-49=p; omega)
   have hnd:=colF_step hp_D (show isDig p (byteAt row c)=false from Gqa hd)
   by_cases h35:byteAt row c=35
   ·have hb3:decide (byteAt row (c:Int).toNat≠35)=false:=Gqa (fun q=>q h35)
    have hnx:spX (openF l.Rows row r c)=spX (openF l.Rows row r (c+1)):=by rw[openF_35 h35]
    have hny:spY (openF l.Rows row r c)=spY (openF l.Rows row r (c+1)):=by rw[openF_35 h35]
    clear h35
    refine Wz [8,62,47,0,163,66,49,40,7,28,218,3,51,3,79,12,7,9,18,218,51,0,12,53] ?_
    exact⟨row.size-(c+1),by omega,(fun c:Nat=>(⟨_,[(1,I p),(2,.o (.c (.ptr 0 0))),(6,I (spX (openF l.Rows row r c))),(7,I (spY (openF l.Rows row r c))),(8,I r),(9,I c)],[.box ((Enc.e l).map (V1.rd []))]⟩:St)) (c+1),⟨c+1,by omega,hnd,J⟩,Up [0] J (by kernel_rfl) (.c J (.c J (.cons (Xs hnx) (.cons (Xs hny) (.c J (.c J (.nil)))))))⟩
   have hb3:decide (byteAt row (c:Int).toNat≠35)=true:=Gqb h35
   have h35':=h35
   cases ho:openF l.Rows row r c with
   |some x =>
    have hlt:decide (spX (openF l.Rows row r c)<0)=false:=Gqa (by rw[spX_neg,ho]; simp)
    have hnx:spX (some x)=spX (openF l.Rows row r (c+1)):=by rw[Y6 ho]
    have hny:spY (some x)=spY (openF l.Rows row r (c+1)):=by rw[Y6 ho]
    rw[ho] at hlt
    refine Wz [8,62,47,0,163,66,49,28,15,24,28,218,3,51,3,79,12,7,9,18,218,51,0,12,53] ?_
    exact⟨row.size-(c+1),by omega,(fun c:Nat=>(⟨_,[(1,I p),(2,.o (.c (.ptr 0 0))),(6,I (spX (openF l.Rows row r c))),(7,I (spY (openF l.Rows row r c))),(8,I r),(9,I c)],[.box ((Enc.e l).map (V1.rd []))]⟩:St)) (c+1),⟨c+1,by omega,hnd,J⟩,Up [0] J (by kernel_rfl) (.c J (.c J (.cons (Xs hnx) (.cons (Xs hny) (.c J (.c J (.nil)))))))⟩
   |none =>
    have hlt:decide (spX none<0)=true:=rfl
    have hnx:16*(c:Int)+2=spX (openF l.Rows row r (c+1)):=by rw[Y7 ho,if_neg h35']; rfl
    have hny:16*(r:Int)+2=spY (openF l.Rows row r (c+1)):=by rw[Y7 ho,if_neg h35']; rfl
    refine Wz [8,62,47,0,163,66,49,28,15,24,40,56,101,24,11,18,143,130,23,0,143,130,18,218,51,0,12,53] ?_
    exact⟨row.size-(c+1),by omega,(fun c:Nat=>(⟨_,[(1,I p),(2,.o (.c (.ptr 0 0))),(6,I (spX (openF l.Rows row r c))),(7,I (spY (openF l.Rows row r c))),(8,I r),(9,I c)],[.box ((Enc.e l).map (V1.rd []))]⟩:St)) (c+1),⟨c+1,by omega,hnd,J⟩,Up [0] J (by kernel_rfl) (.c J (.c J (.cons (Xs hnx) (.cons (Xs hny) (.c J (.c J (.nil)))))))⟩
  ·have h4:c=row.size:=by have:=Gqd h4; omega
   subst h4
   refine Wz [150,194] ?_
   exact⟨l.Rows.length-(r+1),by omega,(fun r:Nat=>(⟨_,[(1,I p),(2,.o (.c (.ptr 0 0))),(6,I (spX (tileF isOpen l.Rows r))),(7,I (spY (tileF isOpen l.Rows r))),(8,I r)],[.box ((Enc.e l).map (V1.rd []))]⟩:St)) (r+1),⟨r+1,by omega,tileF_step hp_A hrow hp_D,J⟩,Up [0] J (by kernel_rfl) (.c J (.c J (.cons (Xs (by rw[←openF_end hrow])) (.cons (Xs (by rw[←openF_end hrow])) (.c J (.nil))))))⟩
 ·have h3:r=l.Rows.length:=by have:=Gqd h; omega
  rw[start_open hp_A h3]
  refine Wz [38,17,87,85] ?_
  exact E_tmp2 J J J (Ur [] J J J)
end
section
open Go.RowKit

theorem I_fresh (l:TLevel) (p:Int) (hg:Enc.gd l) (hl:levelOk l=true) (hp:0≤p∧p≤3):Con Tryz.prog 215 [] [ag l,ai p] [] (.o (.ag ((Enc.e (fresh l p)).map (V1.rd [])))):=by
 have hc:=I_StartOf l p hg hl hp
 refine Con.of Tryz.func215 J Tryz.ntmps215 J (fun E => ?_)
 refine Wz [98,60,30,0] ?_;refine M1 (Zl J J (hc) J J J) J J ?_;refine Wz [219,165,165,87,4,139,175,20,94] ?_
 exact Xm J J J J (Ur [] J J J)
theorem S_fresh (l:TLevel) (p:Int) (hg:Enc.gd l) (hl:levelOk l=true) (hp:0≤p∧p≤3):Con Tryz.prog 213 [] [ag l,ai p] [] (.o (.ag ((Enc.e (fresh l p)).map (V1.rd [])))):=by
 have hc:=S_StartOf l p hg hl hp
 refine Con.of Tryz.func213 J Tryz.ntmps213 J (fun E => ?_)
 refine Wz [98,60,30,0] ?_;refine M1 (Zl J J (hc) J J J) J J ?_;refine Wz [219,165,165,87,4,139,175,20,94] ?_
 exact Xm J J J J (Ur [] J J J)
theorem row6w {a b c d e:Ob} {k:Nat} {x y:List (List T)} (h:x=y) : [a,b,c,d,e,Ob.row k x] = [a,b,c,d,e,Ob.row k y]:=by rw[h]
def freshs (l:TLevel) (k:Nat):List TBody:=(List.range k).map fun (k:Nat)=>fresh l (k:Int)
theorem freshs_succ (l:TLevel) (k:Nat):freshs l (k+1)=freshs l k ++ [fresh l k]:=by simp[freshs,List.range_succ]
theorem freshs_len (l:TLevel) (k:Nat):(freshs l k).length=k:=by simp[freshs]
theorem zeros_els (n:Nat):els (List.replicate n (0:Int))=List.replicate n [.v (.int .i64 0)]:=by simp[els,Enc.e]
theorem newWorld_gd {l:TLevel} {n:Nat} {seed:Int} (hg:Enc.gd l) (hl:levelOk l=true) (hn:1≤n∧n≤4) (hs:inR seed 0 65535=true):Enc.gd (newWorld l n seed):=by
 have h0:I64 0:=⟨by decide,by decide⟩
 have hsd:=Yq.1 hs
 refine⟨hg,h0,⟨by show (-9223372036854775808:Int)≤seed; omega,by show seed≤9223372036854775807; omega⟩,⟨by simp[newWorld]; omega,fun x hx => ?_⟩,⟨by simp[newWorld]; omega,fun b hb => ?_⟩⟩
 ·have:x=0:=by simpa[newWorld] using List.eq_of_mem_replicate hx
  rw[this]; exact h0
 ·simp only[newWorld,Gqx,List.mem_range] at hb
  obtain⟨k,hk,rfl⟩:=hb
  obtain⟨_,h3,h4⟩:=fresh_free hl (p:=(k:Int)) (by omega)
  exact⟨h0,⟨by show (-9223372036854775808:Int)≤(k:Int); omega,by show (k:Int)≤9223372036854775807; omega⟩,⟨by omega,by omega⟩,⟨by omega,by omega⟩,h0,h0,⟨by simp only[fresh]; omega,by simp only[fresh]; omega⟩,⟨by simp only[fresh]; omega,by simp only[fresh]; omega⟩,h0⟩
theorem I_NewWorld (l:TLevel) (n:Nat) (seed:Int) (hg:Enc.gd l) (hL:l.Rows.length≤1048576) (hl:levelOk l=true) (hn:1≤n∧n≤4) (hs:inR seed 0 65535=true):Con Tryz.prog 138 [] [ag l,ai n,ai seed] (ownO (Enc.e (newWorld l n seed))) (.tu [.ag (ownV 0 (Enc.e (newWorld l n seed))),.c (bv true)]):=by
 have c1:=Xq l hg
 have c2:=Xr n 1 4
 have c3:=Xr seed 0 65535
 rw[hl] at c1
 rw[Yq.2 (by omega)] at c2
 rw[hs] at c3
 have hwk:=I_WorldOk (newWorld l n seed) (newWorld_gd hg hl hn hs)
 rw[newWorld_ok hl hn hs] at hwk
 have hcl:=I_copyLevel l hg hL
 refine Con.of Tryz.func138 J Tryz.ntmps138 J (fun E => ?_)
 refine Wz [98,46,4,93] ?_;refine zx (Qj J J (c1) J) J ?_;refine Wz [2,28] ?_;refine zx (Qj J J (c2) J) J ?_;refine Wz [3,2,7,28] ?_;refine zx (Qj J J (c3) J) J ?_;refine Wz [3,2,7,9,14] ?_
 refine AWP.pre (st':=(⟨_,[(1,I n),(2,I seed),(3,.o (.c (.ptr 0 0))),(6,.o (.c (.ptr 1 0)))],[.box ((Enc.e l).map (V1.rd [])),.box [nilV,jn 0,jn 0,nilV,nilV]]⟩:St)) ?_ (Ux [0,1])
 skip
 refine Xi [[],[0],[],[],[3],(u9 5),[],(u9 7)] [[],[24],[],[],[27],[24,25,26,27,28],[],[8,24,25,26,27,28,29]] [[8,26,27,28],[8,26,27,28],[8,24,25,27,28],[8,24,25,26],[8,24,25,26],[8],[24,25,26,27,28,29],[]] J (Kw (Qu J J J J J J) J ?_);refine Kw (Zl J J (hcl) J J J) J ?_;refine Wz [1,1] ?_;refine Kw (Z1 0 J J J J (by omega) (by omega) (by omega) J (by decide)) J ?_;refine Kw (Zj J J J J J) J ?_;refine Wz [208,16] ?_
 refine AL.weak (st':=(⟨_,[(1,I n),(3,.o (.c (.ptr 0 0))),(6,.o (.c (.ptr 1 0))),(8,.o (.c (.ptr 4 0))),(29,.o (.ag [.ref 2,jn 0,jn seed,.ref 3,nilV]))],[.box ((Enc.e l).map (V1.rd [])),.box [nilV,jn 0,jn 0,nilV,nilV],.row 1 (els l.Rows),.row 1 (els (List.replicate n (0:Int))),.box [nilV,jn 0,jn 0,nilV,nilV]]⟩:St)) (by rw[zeros_els]; exact Ux [0,1,2,3,4]) ?_
 refine Wz [20,26] ?_
 refine AWP.pre (st':=(⟨_,[(1,I n),(3,.o (.c (.ptr 0 0))),(6,.o (.c (.ptr 1 0))),(8,.o (.c (.ptr 4 0))),(9,I 0)],[.box ((Enc.e l).map (V1.rd [])),.box [nilV,jn 0,jn 0,nilV,nilV],.row 1 (els l.Rows),.row 1 (els (List.replicate n (0:Int))),.box [.ref 2,jn 0,jn seed,.ref 3,nilV]]⟩:St)) ?_ (Ux [0,1,2,3,4])
 refine AWP.pre ?_ (Wk.nilbox (p:=4) (i:=4) 9 J J)
 refine Xj (fun m st=>∃ k:Nat,k+m=n∧(True)∧st=(⟨_,[(1,I n),(3,.o (.c (.ptr 0 0))),(6,.o (.c (.ptr 1 0))),(8,.o (.c (.ptr 4 0))),(9,I k)],[.box ((Enc.e l).map (V1.rd [])),.box [nilV,jn 0,jn 0,nilV,nilV],.row 1 (els l.Rows),.row 1 (els (List.replicate n (0:Int))),.box [.ref 2,jn 0,jn seed,.ref 3,.ref 5],.row 9 (els (freshs l k))]⟩:St)) (n) ⟨_,⟨0,by omega,trivial,J⟩,Ux [0,1,2,3,4,5]⟩ ?_
 rintro m_A _ ⟨k,hk_A,hp_A,rfl⟩
 have hlk:=Yc (freshs l k)
 have hlk2:=freshs_len l k
 refine Wz [13,63] ?_
 refine Xb J (fun h => ?_) (fun h => ?_)
 ·have h3:k<n:=by have:=Gqc h; omega
  have hf:=I_fresh l k hg hl (by omega)
  refine Wz [8] ?_;refine Xi u8_12 [[],[35],[],[],[37,38],[37,38,39],[35,36,37,38,39,40],[35,36,37,38,39,40,41],[35,36,37,38,39,40,41,42]] [[37,38,39,40],[37,38,39,40],[35,36,38],[35,36,37],[35,36],[35,36],[],[],[]] J ?_;refine Wz [32,116,1] ?_;refine Kw (Zl J J (hf) J J J) J ?_;refine Wz [258,16] ?_;refine AL.weak (st':=(⟨_,[(1,I n),(3,.o (.c (.ptr 0 0))),(6,.o (.c (.ptr 1 0))),(8,.o (.c (.ptr 4 0))),(9,I k),(36,.o (.c (.ref 5))),(40,.o (.c (.sb 6 1 9)))],[.box ((Enc.e l).map (V1.rd [])),.box [nilV,jn 0,jn 0,nilV,nilV],.row 1 (els l.Rows),.row 1 (els (List.replicate n (0:Int))),.box [.ref 2,jn 0,jn seed,.ref 3,.ref 5],.row 9 (els (freshs l k)),.box [jn 0,jn (k:Int),jn (spX (startT l k)),jn (spY (startT l k)),jn 0,jn 0,jn 1,jn 3,jn 0]]⟩:St)) (Ux [0,1,2,3,4,5,6]) ?_;refine Wz [135,151,121] ?_
  exact⟨n-(k+1),by omega,(fun k:Nat=>(⟨_,[(1,I n),(3,.o (.c (.ptr 0 0))),(6,.o (.c (.ptr 1 0))),(8,.o (.c (.ptr 4 0))),(9,I k)],[.box ((Enc.e l).map (V1.rd [])),.box [nilV,jn 0,jn 0,nilV,nilV],.row 1 (els l.Rows),.row 1 (els (List.replicate n (0:Int))),.box [.ref 2,jn 0,jn seed,.ref 3,.ref 5],.row 9 (els (freshs l k))]⟩:St)) (k+1),⟨k+1,by omega,trivial,J⟩,Up [0,1,2,3,4,5] J (row6w (by rw[freshs_succ]; simp[els]; rfl)) (.c J (.c J (.c J (.c J (.c J (.nil))))))⟩
 have h3:k=n:=by have:=Gqd h; omega
 subst h3
 refine Wz [38,93] ?_;refine zx (Qj J J (hwk) J) J ?_;refine Wz [2,9,30,110,85] ?_
 exact Xn J J J J J (Ur [2,3,5] J J J)
theorem reps_succ (k:Nat):els (List.replicate k (0:Int)) ++ [[.v (.int .i64 0)]]=els (List.replicate (k+1) (0:Int)):=by rw[List.replicate_succ']; simp[els,Enc.e]
theorem row65 {a b c d e:Ob} {k:Nat} {x y:List (List T)} (h:x=y) : [a,b,c,d,Ob.row k x,e] = [a,b,c,d,Ob.row k y,e]:=by rw[h]
theorem S_NewWorld (l:TLevel) (n:Nat) (seed:Int) (hg:Enc.gd l) (hL:l.Rows.length≤1048576) (hl:levelOk l=true) (hn:1≤n∧n≤4) (hs:inR seed 0 65535=true):Con Tryz.prog 134 [] [ag l,ai n,ai seed] (ownO (Enc.e (newWorld l n seed))) (.tu [.ag (ownV 0 (Enc.e (newWorld l n seed))),.c (bv true)]):=by
 have hwk:=S_WorldOk (newWorld l n seed) (newWorld_gd hg hl hn hs)
 rw[newWorld_ok hl hn hs] at hwk
 have hcl:=S_copyLevel l hg hL
 refine Con.of Tryz.func134 J Tryz.ntmps134 J (fun E => ?_)
 refine Wz [98,46,4,30] ?_;refine M1 (Zl J J (hcl) J J J) J J ?_;refine Wz [0,175,46,20,26] ?_
 refine AWP.pre (st':=(⟨_,[(1,I n),(3,.o (.c (.ptr 0 0))),(6,.o (.c (.ptr 1 0))),(8,.o (.c (.ptr 3 0))),(9,I 0)],[.box ((Enc.e l).map (V1.rd [])),.box [nilV,jn 0,jn 0,nilV,nilV],.row 1 (els l.Rows),.box [.ref 2,jn 0,jn seed,nilV,nilV]]⟩:St)) ?_ (Ux [0,1,2,3])
 refine AWP.pre ?_ (Wk.nilbox (p:=3) (i:=3) 1 J J)
 refine AWP.pre ?_ (Wk.nilbox (p:=3) (i:=4) 9 J J)
 refine Xj (fun m st=>∃ k:Nat,k+m=n∧(True)∧st=(⟨_,[(1,I n),(3,.o (.c (.ptr 0 0))),(6,.o (.c (.ptr 1 0))),(8,.o (.c (.ptr 3 0))),(9,I k)],[.box ((Enc.e l).map (V1.rd [])),.box [nilV,jn 0,jn 0,nilV,nilV],.row 1 (els l.Rows),.box [.ref 2,jn 0,jn seed,.ref 4,.ref 5],.row 1 (els (List.replicate k (0:Int))),.row 9 (els (freshs l k))]⟩:St)) (n) ⟨_,⟨0,by omega,trivial,J⟩,Ux [0,1,2,3,4,5]⟩ ?_
 rintro m_A _ ⟨k,hk_A,hp_A,rfl⟩
 have hlk:=Yc (freshs l k)
 have hlk2:=freshs_len l k
 have hl0:(els (List.replicate k (0:Int))).length=k:=by rw[Yc,List.length_replicate]
 have f2:decide ((k:Int)≤4)=true:=Gqb (by omega)
 by_cases h3:k<n
 ·have f1:decide ((k:Int)<n)=true:=Gqb (by omega)
  have hf:=S_fresh l k hg hl (by omega)
  refine Wz [13,15,28,272,24,11,8,29,125,298,48] ?_
  refine AWP.pre (st':=(⟨_,[(1,I n),(3,.o (.c (.ptr 0 0))),(6,.o (.c (.ptr 1 0))),(8,.o (.c (.ptr 3 0))),(9,I k)],[.box ((Enc.e l).map (V1.rd [])),.box [nilV,jn 0,jn 0,nilV,nilV],.row 1 (els l.Rows),.box [.ref 2,jn 0,jn seed,.ref 4,.ref 5],.row 1 (els (List.replicate (k+1) (0:Int))),.row 9 (els (freshs l k))]⟩:St)) ?_ (Up [0,1,2,3,4,5] J ((row65 (reps_succ k).symm)) (.c J (.c J (.c J (.c J (.c J (.nil)))))))
  refine Xi u8_12 [[],[28],[],[],[30,31],[30,31,32],[28,29,30,31,32,33],[28,29,30,31,32,33,34],[28,29,30,31,32,33,34,35]] [[30,31,32,33],[30,31,32,33],[28,29,31],[28,29,30],[28,29],[28,29],[],[],[]] J ?_;refine Wz [32,116,1] ?_;refine Kw (Zl J J (hf) J J J) J ?_;refine Wz [258,16] ?_;refine AL.weak (st':=(⟨_,[(1,I n),(3,.o (.c (.ptr 0 0))),(6,.o (.c (.ptr 1 0))),(8,.o (.c (.ptr 3 0))),(9,I k),(29,.o (.c (.ref 5))),(33,.o (.c (.sb 6 1 9)))],[.box ((Enc.e l).map (V1.rd [])),.box [nilV,jn 0,jn 0,nilV,nilV],.row 1 (els l.Rows),.box [.ref 2,jn 0,jn seed,.ref 4,.ref 5],.row 1 (els (List.replicate (k+1) (0:Int))),.row 9 (els (freshs l k)),.box [jn 0,jn (k:Int),jn (spX (startT l k)),jn (spY (startT l k)),jn 0,jn 0,jn 1,jn 3,jn 0]]⟩:St)) (Ux [0,1,2,3,4,5,6]) ?_;refine Wz [135,151,121] ?_
  exact⟨n-(k+1),by omega,(fun k:Nat=>(⟨_,[(1,I n),(3,.o (.c (.ptr 0 0))),(6,.o (.c (.ptr 1 0))),(8,.o (.c (.ptr 3 0))),(9,I k)],[.box ((Enc.e l).map (V1.rd [])),.box [nilV,jn 0,jn 0,nilV,nilV],.row 1 (els l.Rows),.box [.ref 2,jn 0,jn seed,.ref 4,.ref 5],.row 1 (els (List.replicate k (0:Int))),.row 9 (els (freshs l k))]⟩:St)) (k+1),⟨k+1,by omega,trivial,J⟩,Up [0,1,2,3,4,5] J (row6w (by rw[freshs_succ]; simp[els]; rfl)) (.c J (.c J (.c J (.c J (.c J (.nil))))))⟩
 have f1:decide ((k:Int)<n)=false:=Gqa (by omega)
 have h3:k=n:=by omega
 subst h3
 refine Wz [13,15,40,7,102,38,93] ?_;refine zx (Qj J J (hwk) J) J ?_;refine Wz [2,9,30,110,85] ?_
 exact Xn J J J J J (Ur [2,4,5] J J J)
end
section
open Go.RowKit

theorem I_NextRandom (s:Int) (h:0≤s∧s≤65535):Con Tryz.prog 254 [] [ai s] [] (I (nextR s)):=by
 have f1:decide (s<0)=false:=Gqa (by omega)
 have f2:decide (65535<s)=false:=Gqa (by omega)
 refine Con.of Tryz.func254 J Tryz.ntmps254 J (fun E => ?_)
 refine Wz [57,15,28,126,7,9,18,143,123,184,85] ?_
 exact Uq J (Ur [] J J (Xs (by rw[nextR,if_pos h])))
theorem and_64k (n:Int) (h:0≤n):((n.toNat &&& (65535:Int).toNat:Nat):Int)=n%65536:=by
 have:=Nat.and_two_pow_sub_one_eq_mod n.toNat 16
 rw[show (65535:Int).toNat=2 ^ 16-1 from rfl,this]
 omega
theorem S_NextRandom (s:Int) (h:0≤s∧s≤65535):Con Tryz.prog 283 [] [ai s] [] (I (nextR s)):=by
 have hc:=Xy s 0 65535
 rw[Yq.2 h] at hc
 refine Con.of Tryz.func283 J Tryz.ntmps283 J (fun E => ?_)
 refine Wz [57] ?_;refine zx (Qj J J (hc) J) J ?_;refine Wz [2,9,18,143,123,195,85] ?_
 exact Uq J (Ur [] J J (Xs (by rw[nextR,if_pos h,and_64k _ (by omega)])))
theorem I_RandomBelow (s n:Int) (h:0≤s∧s≤65535) (hn:1≤n∧n≤4096):Con Tryz.prog 256 [] [ai s,ai n] [] (.tu [.c (jn (nextR s)),.c (jn (belowR s n))]):=by
 have f1:decide (s<0)=false:=Gqa (by omega)
 have f2:decide (65535<s)=false:=Gqa (by omega)
 have f3:decide (n<1)=false:=Gqa (by omega)
 have f4:decide (4096<n)=false:=Gqa (by omega)
 have hc:=I_NextRandom s h
 have hr:=Y2 s
 refine Con.of Tryz.func256 J Tryz.ntmps256 J (fun E => ?_)
 refine Wz [5,87,113,28,126,7,28,15,7,28,126,7,9,18] ?_;refine zx (Qj J J (hc) J) J ?_;refine Wz [4,14] ?_;refine Xi u8_13 [[],[],[24],[],[24,25,26],[23],[4,23,24,25,26,27]] [[24,25,26,27],[4,23,26],[4,23,26],[4,23,24,25],[4,23],[24,25,26,27],[]] J ?_;refine Wz [1,1] ?_;refine Kw (q_quo J J J J (by omega)) J (Kw (Qa J J J) J (Kw (q_rem J J J J (by omega)) J ?_));refine Wz [200,200,16,6,94] ?_
 exact E_tmp2 J J J (Ur [] J J J)
theorem S_RandomBelow (s n:Int) (h:0≤s∧s≤65535) (hn:1≤n∧n≤4096):Con Tryz.prog 285 [] [ai s,ai n] [] (.tu [.c (jn (nextR s)),.c (jn (belowR s n))]):=by
 have c1:=Xy s 0 65535
 have c2:=Xy n 1 4096
 rw[Yq.2 h] at c1
 rw[Yq.2 hn] at c2
 have hc:=S_NextRandom s h
 have hr:=Y2 s
 refine Con.of Tryz.func285 J Tryz.ntmps285 J (fun E => ?_)
 refine Wz [5,87,66] ?_;refine zx (Qj J J (c1) J) J ?_;refine Wz [2,28] ?_;refine zx (Qj J J (c2) J) J ?_;refine Wz [3,2,7,9,18] ?_;refine zx (Qj J J (hc) J) J ?_;refine Wz [4,14] ?_;refine Xi u8_13 [[],[],[18],[],[18,19,20],[17],[4,17,18,19,20,21]] [[18,19,20,21],[4,17,20],[4,17,20],[4,17,18,19],[4,17],[18,19,20,21],[]] J ?_;refine Wz [1,1] ?_;refine Kw (q_quo J J J J (by omega)) J (Kw (Qa J J J) J (Kw (q_rem J J J J (by omega)) J ?_));refine Wz [200,200,16,6,94] ?_
 exact E_tmp2 J J J (Ur [] J J J)
theorem I_ShotOf (b:TBody) (hx:0≤b.X∧b.X≤1000) (hy:0≤b.Y∧b.Y≤1000) (ha : -1≤b.Aim∧b.Aim≤1):Con Tryz.prog 287 [] [ag b] [] (.o (.ag ((Enc.e (shotOf b)).map (V1.rd [])))):=by
 have c1:=Xr b.X 0 1000
 have c2:=Xr b.Y 0 1000
 have c3:=Xr b.Aim (-1) 1
 rw[Yq.2 hx] at c1
 rw[Yq.2 hy] at c2
 rw[Yq.2 ha] at c3
 refine Con.of Tryz.func287 J Tryz.ntmps287 J (fun E => ?_)
 refine Wz [98,60,31] ?_;refine zx (Qj J J (c1) J) J ?_;refine Wz [2,58] ?_;refine zx (Qj J J (c2) J) J ?_;refine Wz [3,2,7,58] ?_;refine zx (Qj J J (c3) J) J ?_;refine Wz [3,2,7,9,29,21,123,21,123,21,143,175,20,94] ?_
 exact Xm J J J J (Ur [] J J J)
theorem S_ShotOf (b:TBody) (hx:0≤b.X∧b.X≤1000) (hy:0≤b.Y∧b.Y≤1000) (ha : -1≤b.Aim∧b.Aim≤1):Con Tryz.prog 280 [] [ag b] [] (.o (.ag ((Enc.e (shotOf b)).map (V1.rd [])))):=by
 have c1:=Xy b.X 0 1000
 have c2:=Xy b.Y 0 1000
 have c3:=Xy b.Aim (-1) 1
 rw[Yq.2 hx] at c1
 rw[Yq.2 hy] at c2
 rw[Yq.2 ha] at c3
 refine Con.of Tryz.func280 J Tryz.ntmps280 J (fun E => ?_)
 refine Wz [98,60,31] ?_;refine zx (Qj J J (c1) J) J ?_;refine Wz [2,58] ?_;refine zx (Qj J J (c2) J) J ?_;refine Wz [3,2,7,58] ?_;refine zx (Qj J J (c3) J) J ?_;refine Wz [3,2,7,9,29,21,123,21,123,21,143,175,20,94] ?_
 exact Xm J J J J (Ur [] J J J)
theorem I_direction (v:Int) (h : -15≤v∧v≤15):Con Tryz.prog 304 [] [ai v] [] (.tu [.c (jn (dirOf v)),.c (jn v.natAbs)]):=by
 by_cases hv:v<0
 ·have f1:decide (v<0)=true:=Gqb hv
  refine Con.of Tryz.func304 J Tryz.ntmps304 J (fun E => ?_)
  refine Wz [5,87,113,11,18,299,87,4,88,55] ?_
  exact E_tmp2 J J J (Ur [] J J (tu2 (by rw[dirOf,if_pos hv]) (by omega)))
 ·have f1:decide (v<0)=false:=Gqa hv
  refine Con.of Tryz.func304 J Tryz.ntmps304 J (fun E => ?_)
  refine Wz [5,87,118,18,87,85] ?_
  exact E_tmp2 J J J (Ur [] J J (tu2 (by rw[dirOf,if_neg hv]) (by omega)))
theorem I_BodiesMeet (a b:TBody) (ha:Placed a) (hb:Placed b):Con Tryz.prog 305 [] [ag a,ag b] [] (B (meetM a b)):=by
 have sa:=size_pos ha.k
 have sb:=size_pos hb.k
 obtain⟨ax1,ax2⟩:=ha.x
 obtain⟨ay1,ay2⟩:=ha.y
 obtain⟨bx1,bx2⟩:=hb.x
 obtain⟨by1,by2⟩:=hb.y
 have c1:=I_SizeOf a.Kind
 have c2:=I_SizeOf b.Kind
 have f1:decide (sizeOf a.Kind=0)=false:=Gqa (by omega)
 have f2:decide (sizeOf b.Kind=0)=false:=Gqa (by omega)
 have x1:decide (a.X<0)=false:=Gqa (by omega)
 have x2:decide (1000<a.X)=false:=Gqa (by omega)
 have x3:decide (a.Y<0)=false:=Gqa (by omega)
 have x4:decide (1000<a.Y)=false:=Gqa (by omega)
 have x5:decide (b.X<0)=false:=Gqa (by omega)
 have x6:decide (1000<b.X)=false:=Gqa (by omega)
 have x7:decide (b.Y<0)=false:=Gqa (by omega)
 have x8:decide (1000<b.Y)=false:=Gqa (by omega)
 refine Con.of Tryz.func305 J Tryz.ntmps305 J (fun E => ?_)
 refine Wz [90,29] ?_;refine zx (Qj J J (c1) J) J ?_;refine Wz [4,29] ?_;refine zx (Qj J J (c2) J) J ?_;refine Wz [66,12,28,12,7,304,21,21,125] ?_;refine zx (q_lensb J J J) J ?_;refine Wz [133,76] ?_;refine Xj (fun m st=>∃ k:Nat,k+m=4∧(True)∧st=(⟨_,[(2,.o (.c (.ptr 0 0))),(3,.o (.c (.ptr 1 0))),(5,I (sizeOf a.Kind)),(6,I (sizeOf b.Kind)),(29,.o (.c (.sb 2 4 1))),(30,I 4),(31,I k)],[.box ((Enc.e a).map (V1.rd [])),.box ((Enc.e b).map (V1.rd [])),.box [jn a.X,jn a.Y,jn b.X,jn b.Y]]⟩:St)) (4) ⟨_,⟨0,by omega,trivial,J⟩,Ux [0,1,2]⟩ ?_
 rintro m_A _ ⟨k,hk_A,hp_A,rfl⟩
 have hk:k=0∨k=1∨k=2∨k=3∨k=4:=by omega
 rcases hk with hk | hk | hk | hk | hk
 ·subst hk
  refine Wz [5,259,6,14,82,8,5,189,188,83,15,28,126,7,132,100] ?_
  exact⟨4-(0+1),by omega,_,⟨0+1,by omega,trivial,J⟩,Ux [0,1,2]⟩
 ·subst hk
  refine Wz [5,259,6,14,82,8,5,189,188,83,15,28,126,7,132,100] ?_
  exact⟨4-(1+1),by omega,_,⟨1+1,by omega,trivial,J⟩,Ux [0,1,2]⟩
 ·subst hk
  refine Wz [5,259,6,14,82,8,5,189,188,83,15,28,126,7,132,100] ?_
  exact⟨4-(2+1),by omega,_,⟨2+1,by omega,trivial,J⟩,Ux [0,1,2]⟩
 ·subst hk
  refine Wz [5,259,6,14,82,8,5,189,188,83,15,28,126,7,132,100] ?_
  exact⟨4-(3+1),by omega,_,⟨3+1,by omega,trivial,J⟩,Ux [0,1,2]⟩
 ·subst hk
  refine Wz [5] ?_;refine zx (Qr (b:=false) J J J J (by decide)) J ?_;refine Wz [6,14,166,38,29,21,95,180,80,241,242,243,244,245,42,80,241,242,243,244,245,42,80,241,242,243,244,245,42,85] ?_
  exact Uq J (Ur [] J J J)
theorem S_BodiesMeet (a b:TBody) (ha:Placed a) (hb:Placed b):Con Tryz.prog 308 [] [ag a,ag b] [] (B (meetM a b)):=by
 have sa:=size_pos ha.k
 have sb:=size_pos hb.k
 obtain⟨ax1,ax2⟩:=ha.x
 obtain⟨ay1,ay2⟩:=ha.y
 obtain⟨bx1,bx2⟩:=hb.x
 obtain⟨by1,by2⟩:=hb.y
 have c1:=S_SizeOf a.Kind
 have c2:=S_SizeOf b.Kind
 have c3:=Xy a.X 0 1000
 have c4:=Xy a.Y 0 1000
 have c5:=Xy b.X 0 1000
 have c6:=Xy b.Y 0 1000
 rw[Yq.2 ha.x] at c3
 rw[Yq.2 ha.y] at c4
 rw[Yq.2 hb.x] at c5
 rw[Yq.2 hb.y] at c6
 have f1:decide (sizeOf a.Kind=0)=false:=Gqa (by omega)
 have f2:decide (sizeOf b.Kind=0)=false:=Gqa (by omega)
 refine Con.of Tryz.func308 J Tryz.ntmps308 J (fun E => ?_)
 refine Wz [90,29] ?_;refine zx (Qj J J (c1) J) J ?_;refine Wz [4,29] ?_;refine zx (Qj J J (c2) J) J ?_;refine Wz [66,12,28,12,7,58] ?_;refine zx (Qj J J (c3) J) J ?_;refine Wz [3,2,7,58] ?_;refine zx (Qj J J (c4) J) J ?_;refine Wz [3,2,7,58] ?_;refine zx (Qj J J (c5) J) J ?_;refine Wz [3,2,7,58] ?_;refine zx (Qj J J (c6) J) J ?_;refine Wz [3,2,7,9,29,21,95,180,80,241,242,243,244,245,42,80,241,242,243,244,245,42,80,241,242,243,244,245,42,85] ?_
 exact Uq J (Ur [] J J J)
end
end Go.Proofs.YtoecjaohdnoenaaGreat
