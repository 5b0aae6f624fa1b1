/-
  Rules, data and contracts of functions: part 20 of the proof.
  Conditions: those that each theorem names.
-/
import Derived.Test.YtoecjaohdnoenaaGreatDDSmAllk17
import Derived.Test.YtoecjaohdnoenaaGreatDDSmAllk18
set_option linter.unusedSimpArgs false
set_option linter.unusedVariables false
set_option maxRecDepth 8000
set_option maxHeartbeats 8000000
namespace Go.Proofs.YtoecjaohdnoenaaGreat
section
open Go.RowKit
end
section
open Go.RowKit

def signed (n:Int):Int:=if 0≤n∧n≤1099511627775 then (if n%2=0 then n/2 else -((n+1)/2)) else 0
/-! ### Lists -/
/-! ### Texts -/
end
section
open Go.RowKit

theorem S_inputsOk (xs:List Int) (hn:Enc.gd xs):Con Tryz.prog 224 [] [al xs] [] (B (inOk xs)):=by
 have hn1:=hn.1
 have hlx:=X6 xs
 refine Con.of Tryz.func224 J Tryz.ntmps224 J (fun E => ?_)
 refine Wz [99] ?_;refine Xe (fun m st=>∃ k:Nat,k+m=xs.length∧((xs.take k).all (fun n=>inR n 0 15)=true)∧st=(⟨_,[(0,L xs),(3,I k)],[]⟩:St)) (xs.length) ⟨_,⟨0,by omega,by simp,J⟩,Xu [] (by kernel_rfl)⟩ ?_
 rintro m_A _ ⟨k,hk_A,hp_A,rfl⟩
 refine Wz [52] ?_
 refine Q8 J (fun h => ?_) (fun h => ?_)
 ·have h3:k<xs.length:=by have:=Gqc h; omega
  have hat:=X4 h3
  refine Wz [5,9,93] ?_;refine zx (Qj J J (Xs xs[k] 0 15) J) J ?_;refine Wz [10,1] ?_
  refine Q8 J (fun h4 => ?_) (fun h4 => ?_)
  ·refine Wz [61,160] ?_
   refine Wz [107] ?_
   exact Xi J J (Xt [] (by decide) J J (Xf (all_no h3 (by simpa using h4)).symm))
  ·refine Wz [113,241,36] ?_
   refine Wz [7] ?_
   exact⟨xs.length-(k+1),by omega,_,⟨k+1,by omega,X0 hp_A h3 (by simpa using h4),J⟩,Xu [] (by kernel_rfl)⟩
 ·have h3:¬((k:Int)<(els xs).length):=Gqe h
  refine Wz [20,47] ?_
  exact Xi J J (Xt [] (by decide) J J (Xf (Xz hp_A (by omega)).symm))
end
section
open Go.RowKit
end
section
open Go.RowKit
end
section
open Go.RowKit
end
section
open Go.RowKit

/-! ### Numbers -/
/-! ### Lists -/
/-! ### Texts -/
/-! ### Columns -/
/-! ### DecodeStream -/
end
section
open Go.RowKit
end
section
open Go.RowKit

theorem X8 {α:Type} [Enc α] {xs:List α} {k:Nat} (h:k<xs.length):els (xs.take (k+1))=els (xs.take k) ++ [Enc.e xs[k]]:=by
 rw[Gxn h]
 exact List.map_append
theorem I_copyInts (xs:List Int) (hL:xs.length≤1048576):Con Tryz.prog 160 [] [al xs] [.row 1 (els xs)] (.o (.c (.ref 0))):=by
 have hlx:=X6 xs
 refine Con.of Tryz.func160 J Tryz.ntmps160 J (fun E => ?_)
 refine Wz [28,8] ?_;refine M_appnil J J J J J J J J (X7 _) (X5 _) (by omega) (by omega) ?_;refine Wz [110] ?_
 exact Xi J J (Xt [0] (by decide) J J J)
theorem I_copyRows (xs:List (List Int)) (hg:Enc.gd xs) (hL:xs.length≤1048576) (hr:∀ r∈xs,r.length≤1048576):Con Tryz.prog 66 [] [al xs] [.row 1 (els xs)] (.o (.c (.ref 0))):=by
 have hlx:=X6 xs
 refine Con.of Tryz.func66 J Tryz.ntmps66 J (fun E => ?_)
 refine Wz [28,84,80] ?_
 refine AWP.pre ?_ (W_nil 3 1 J)
 refine Xe (fun m st=>∃ k:Nat,k+m=xs.length∧(True)∧st=(⟨_,[(3,.o (.c (.ref 0))),(6,L xs),(7,I (els xs).length),(8,I k)],[.row 1 (els (xs.take k))]⟩:St)) (xs.length) ⟨_,⟨0,by omega,trivial,J⟩,Xu [0] (by kernel_rfl)⟩ ?_
 rintro m_A _ ⟨k,hk_A,hp_A,rfl⟩
 have hl2:(els (xs.take k)).length=k:=by rw[X6]; simp; omega
 refine Wz [4,40,17] ?_
 refine Q8 J (fun h => ?_) (fun h => ?_)
 ·have h3:k<xs.length:=by have:=Gqc h; omega
  have hat:=X4 h3
  refine Wz [5,4,93,7,16,41] ?_;refine M1 (Za J J (I_copyInts xs[k] (hr _ (Gqd h3))) J J J) J J ?_;refine Wz [191,121,138,118,94,36,0,1] ?_
  exact⟨xs.length-(k+1),by omega,(fun k:Nat=>(⟨_,[(3,.o (.c (.ref 0))),(6,L xs),(7,I (els xs).length),(8,I k)],[.row 1 (els (xs.take k))]⟩:St)) (k+1),⟨k+1,by omega,trivial,J⟩,Xv [0] (by decide) J (Zx (X8 h3)) (.c J (.c J (.c J (.c J (.nil)))))⟩
 ·have h3:¬((k:Int)<(els xs).length):=Gqe h
  have hk:xs.take k=xs:=Gqh (by omega)
  refine Wz [24] ?_
  exact Xi J J (Xt [0] (by decide) J (Zx (by rw[hk])) J)
section
variable {P:Program} {ops:Array Oper} {o:Oper} {st:St} {m:Nat} {t e:TypeId} {y z:Operand} {zs:List Value} {by_:Nat}
theorem q_appz0 {ps:List Nat} {q kk:Nat} [hm:TyMake P t e zs by_] (ho:o.op = .call { callee := .builtin .append,args:=#[y,z],argTypes:=#[t,t] }) (hg:o.guard=none) (hy:st.ev y = .o (.c (.sb q 0 kk))) (hz:st.ev z = .o (.c (.rd ps (.sl kk [])))) (hkz:kk=zs.length) (hz0:zs.isEmpty=false):Qt P ops o st (.o (.c (.sb q 0 kk))) [] m :=
 .pure hg fun a w H F hr=>by
  have hzn:zs ≠ []:=by intro e; rw[e] at hz0; cases hz0
  subst hkz
  obtain⟨g,tt,vs,b1,b2,b3,b4⟩:=hr.v1 hy
  have h7:=src_any (P:=P) (t:=t) (e:=e) (by_:=by_) (kk:=zs.length) hr rfl hzn (hr.v1 hz) (es' := []) rfl (fun e he=>by simp at he) (fun e he=>by simp at he)
  obtain⟨i,hi,hzz⟩:=Option.map_eq_some_iff.1 hm.info
  simp only[Prod.mk.injEq] at hzz
  have h8:Src P i.size t (a.eval z) 0 [] w:=by rw[hzz.2.1]; simpa[flatV] using h7
  refine⟨a.eval y,Yd ho ?_,hr.v1 hy⟩
  rw[b4]
  exact run_append_room_src (P:=P) w t t o.type e i hm.slice hi g 0 0 0 (a.eval z) 0 [] h8 (Gqj _) (by simp) (by simp)
end
end
section
open Go.RowKit
end
section
open Go.RowKit

def colF (q:Int→Bool) (row:ByteArray):Nat→Option Nat
 |0=>none
 |c+1=>match colF q row c with
  |some x=>some x
  |none=>if q (byteAt row c)=true then some c else none
def tileF (q:Int→Bool) (rows:List ByteArray):Nat→Option (Nat×Nat)
 |0=>none
 | r+1=>match tileF q rows r with
  |some x=>some x
  |none=>match rows[r]? with
   |none=>none
   |some row=>(colF q row row.size).map fun c=>(r,c)
def isOpen (t:Int):Bool:=decide (t≠35)
def isDig (p:Int) (t:Int):Bool:=decide (t=49+p)
def spX:Option (Nat×Nat)→Int
 |none => -1
 |some (_,c)=>16*c+2
def spY:Option (Nat×Nat)→Int
 |none => -1
 |some (r,_)=>16*r+2
def startT (l:TLevel) (p:Int):Option (Nat×Nat):=match tileF (isDig p) l.Rows l.Rows.length with
 |some x=>some x
 |none=>tileF isOpen l.Rows l.Rows.length
theorem colF_some {q:Int→Bool} {row:ByteArray}:∀ {n c:Nat},colF q row n=some c→c<n∧q (byteAt row c)=true
 |0,c,h=>by cases h
 | n+1,c,h=>by
  rw[colF] at h
  cases h1:colF q row n with
  |some x=>rw[h1] at h; cases h; have:=colF_some h1; exact⟨by omega,this.2⟩
  |none =>
   rw[h1] at h
   by_cases h2:q (byteAt row n)=true
   ·rw[if_pos h2] at h; cases h; exact⟨by omega,h2⟩
   ·rw[if_neg h2] at h; cases h
theorem colF_none {q:Int→Bool} {row:ByteArray}:∀ {n:Nat},colF q row n=none→∀ c,c<n→q (byteAt row c)=false
 |0,h,c,hc=>by omega
 | n+1,h,c,hc=>by
  rw[colF] at h
  cases h1:colF q row n with
  |some x=>rw[h1] at h; cases h
  | none =>
   rw[h1] at h
   by_cases h2:q (byteAt row n)=true
   ·rw[if_pos h2] at h; cases h
   ·by_cases e:c=n
    ·subst e; simpa using h2
    ·exact colF_none h1 c (by omega)
theorem tileF_some {q:Int→Bool} {rows:List ByteArray}:∀ {n r c:Nat},tileF q rows n=some (r,c)→∃ h:r<rows.length,r<n∧c<rows[r].size∧q (byteAt rows[r] c)=true
 |0,r,c,h=>by cases h
 | n+1,r,c,h=>by
  rw[tileF] at h
  cases h1:tileF q rows n with
  |some x=>rw[h1] at h; cases h; obtain⟨a,b,d⟩:=tileF_some h1; exact⟨a,by omega,d⟩
  | none =>
   rw[h1] at h
   cases h2:rows[n]? with
   |none=>rw[h2] at h; cases h
   |some row =>
    rw[h2] at h
    simp only[Option.map_eq_some_iff,Prod.mk.injEq] at h
    obtain⟨c',h3,rfl,rfl⟩:=h
    have hn:=(Gqn.1 h2).1
    have he:=(Gqn.1 h2).2
    have:=colF_some h3
    exact⟨hn,by omega,by rw[he]; exact this.1,by rw[he]; exact this.2⟩
theorem tileF_none {q:Int→Bool} {rows:List ByteArray}:∀ {n:Nat},tileF q rows n=none→∀ r (h:r<rows.length),r<n→∀ c,c<rows[r].size→q (byteAt rows[r] c)=false
 |0,h,r,hr,hn,c,hc=>by omega
 | n+1,h,r,hr,hn,c,hc=>by
  rw[tileF] at h
  cases h1:tileF q rows n with
  |some x=>rw[h1] at h; cases h
  | none =>
   rw[h1] at h
   by_cases e:r=n
   ·subst e
    rw[Gqg hr] at h
    simp only[Option.map_eq_none_iff] at h
    exact colF_none h c hc
   ·exact tileF_none h1 r hr (by omega) c hc
theorem tileM_open {e:Bool} {t:Int} {s s':Seen×Bool} (h:tileM e t s=some s') (ho:s'.2=true):s.2=true∨t≠35:=by
 by_cases ht:t=35
 ·rw[tileM,if_pos ht] at h; cases h; exact .inl ho
 ·exact .inr ht
theorem cols_open {row:ByteArray} {er:Bool} {w:Nat} {s:Seen×Bool}:∀ {n:Nat} {s':Seen×Bool},colsM row er w s n=some s'→s'.2=true→s.2=true∨∃ c,c<n∧byteAt row c≠35
 |0,s',h,ho=>by cases h; exact .inl ho
 | n+1,s',h,ho=>by
  rw[colsM] at h
  cases h1:colsM row er w s n with
  |none=>rw[h1] at h; cases h
  | some s1 =>
   rw[h1] at h
   rcases tileM_open h ho with h2 | h2
   ·rcases cols_open h1 h2 with h3 | ⟨c,hc,h3⟩
    ·exact .inl h3
    ·exact .inr ⟨c,by omega,h3⟩
   ·exact .inr ⟨n,by omega,h2⟩
theorem rows_open {rows:List ByteArray} {w:Nat}:∀ {n:Nat} {s:Seen×Bool},rowsM rows w n=some s→s.2=true→∃ r c,∃ h:r<rows.length,r<n∧c<rows[r].size∧byteAt rows[r] c≠35
 |0,s,h,ho=>by cases h; cases ho
 | n+1,s,h,ho=>by
  rw[rowsM] at h
  cases h1:rowsM rows w n with
  |none=>rw[h1] at h; cases h
  | some s1 =>
   rw[h1] at h
   cases h2:rows[n]? with
   |none=>rw[h2] at h; cases h
   | some row =>
    rw[h2] at h
    simp only at h
    split at h
    ·rename_i hw
     have hn:=(Gqn.1 h2).1
     have he:=(Gqn.1 h2).2
     rcases cols_open h ho with h3 | ⟨c,hc,h3⟩
     ·obtain⟨r,c,a,b,d⟩:=rows_open h1 h3
      exact⟨r,c,a,by omega,d⟩
     ·exact⟨n,c,hn,by omega,by rw[he]; omega,by rw[he]; exact h3⟩
    ·cases h
theorem level_open {l:TLevel} (h:levelOk l=true):∃ r c,∃ h:r<l.Rows.length,c<(l.Rows[r]).size∧byteAt (l.Rows[r]) c≠35:=by
 unfold levelOk at h
 simp only[Gqk] at h
 obtain⟨_,h5⟩:=h
 split at h5
 ·rename_i s hs
  obtain⟨r,c,a,b,d⟩:=rows_open hs h5
  exact⟨r,c,a,d⟩
 ·cases h5
theorem start_some {l:TLevel} (hl:levelOk l=true) {p:Int} (hp:0≤p∧p≤3):∃ r c,startT l p=some (r,c)∧∃ h:r<l.Rows.length,c<(l.Rows[r]).size∧byteAt (l.Rows[r]) c≠35:=by
 unfold startT
 cases h1:tileF (isDig p) l.Rows l.Rows.length with
 |some x =>
  obtain⟨r,c⟩:=x
  obtain⟨a,b,d,e⟩:=tileF_some h1
  refine⟨r,c,J,a,d,?_⟩
  have:=Gqc e
  omega
 | none =>
  cases h2:tileF isOpen l.Rows l.Rows.length with
  |some x =>
   obtain⟨r,c⟩:=x
   obtain⟨a,b,d,e⟩:=tileF_some h2
   exact⟨r,c,J,a,d,Gqc e⟩
  |none =>
   obtain⟨r,c,a,d,e⟩:=level_open hl
   have:=tileF_none h2 r a a c d
   exact absurd e (Gqe this)
def fresh (l:TLevel) (p:Int):TBody:=⟨0,p,spX (startT l p),spY (startT l p),0,0,1,3,0⟩
theorem fresh_free {l:TLevel} (hl:levelOk l=true) {p:Int} (hp:0≤p∧p≤3):solidM l (fresh l p).X (fresh l p).Y 12=false∧(0≤(fresh l p).X∧(fresh l p).X≤400)∧(0≤(fresh l p).Y∧(fresh l p).Y≤400):=by
 obtain⟨r,c,h1,hr,hc,hb⟩:=start_some hl hp
 obtain⟨l3,l12,w,w4,w20,hw⟩:=level_facts hl
 have hwr:=hw r hr
 rw[fresh,h1]
 refine⟨solidM_F ?_,by simp only[spX]; omega,by simp only[spY]; omega⟩
 rintro⟨r',c',a1,a2,a3,a4,hwall⟩
 simp only[spX,spY] at a1 a2 a3 a4
 have e1:r'=r:=by omega
 have e2:c'=c:=by omega
 subst e1 e2
 exact no_wall hr hc hb hwall
end
section
open Go.RowKit

def pressed (i k:Int):Bool:=decide (((i.toNat &&& k.toNat:Nat):Int)≠0)
noncomputable def steer (l:TLevel) (b:TBody) (i:Int):TBody×Bool :=
 (⟨b.Kind,b.Owner,b.X,b.Y,
  if (pressed i 1 && !pressed i 2)=true then -3 else if (pressed i 2 && !pressed i 1)=true then 3 else 0,
  if (pressed i 4&&solidM l b.X (b.Y+1) 12)=true then -9 else min (b.VY+1) 8,
  if (pressed i 1 && !pressed i 2)=true then -1 else if (pressed i 2 && !pressed i 1)=true then 1 else b.Aim,
  b.Life,
  if (pressed i 8&&decide ((if 0<b.Timer then b.Timer-1 else b.Timer)=0))=true then 12 else (if 0<b.Timer then b.Timer-1 else b.Timer)⟩,
  pressed i 8&&decide ((if 0<b.Timer then b.Timer-1 else b.Timer)=0))
def slide (hit:Int→Bool) (step:Int):Nat→Int→Int×Bool
 |0,x=>(x,false)
 |n+1,x=>if hit (x+step)=true then (x,true) else slide hit step n (x+step)
def dirOf (v:Int):Int:=if v<0 then -1 else 1
noncomputable def moveX (l:TLevel) (b:TBody):Int×Bool:=slide (fun x=>solidM l x b.Y (sizeOf b.Kind)) (dirOf b.VX) b.VX.natAbs b.X
noncomputable def moveY (l:TLevel) (b:TBody):Int×Bool:=slide (fun y=>solidM l (moveX l b).1 y (sizeOf b.Kind)) (dirOf b.VY) b.VY.natAbs b.Y
noncomputable def moveM (l:TLevel) (b:TBody):TBody×Bool :=
 (⟨b.Kind,b.Owner,(moveX l b).1,(moveY l b).1,if (moveX l b).2=true then 0 else b.VX,if (moveY l b).2=true then 0 else b.VY,b.Aim,b.Life,b.Timer⟩,(moveX l b).2 || (moveY l b).2)
def shotOf (b:TBody):TBody:=⟨1,b.Owner,b.X+4,b.Y+4,6*b.Aim,0,0,0,25⟩
def meetM (a b:TBody):Bool :=
 ((decide (a.X<b.X+sizeOf b.Kind)&&decide (b.X<a.X+sizeOf a.Kind))&&decide (a.Y<b.Y+sizeOf b.Kind))&&decide (b.Y<a.Y+sizeOf a.Kind)
structure Placed (b:TBody):Prop where
 k:0≤b.Kind∧b.Kind≤2
 x:0≤b.X∧b.X≤1000
 y:0≤b.Y∧b.Y≤1000
end
section
open Go.RowKit

section
variable {P:Program} {E:Env} {ops:Array Oper} {o:Oper} {st:St} {n:Nat} {y:Operand}
theorem Zq {p k i j:Nat} (ho:o.op = .nilCheck y) (hg:o.guard=none) (hy:st.ev y = .o (.c (.el p k i j))):Qt P ops o st (.o (.c (.el p k i j))) [] n :=
 .pure hg fun a w H F hr=>by
  obtain⟨b,o',m',c,x,fp,e1,e2⟩:=hr.v1 hy
  exact⟨.pointer (some ⟨b,o'+i*k+j,none⟩),by simp[execOp,ho,e2],b,o',m',c,x,fp,e1,J⟩
end
structure Mid (st':St) (e:Exit) (st:St):Prop where
 h:e = .normal∧Wk st st'
section
variable {P:Program} {E:Env} {st st':St}
theorem Mid.n (h:Wk st st'):Mid st' .normal st:=⟨rfl,h⟩
end
end
section
open Go.RowKit
end
section
open Go.RowKit
end
section
open Go.RowKit
end
section
open Go.RowKit
end
section
open Go.RowKit

theorem slide_free {hit:Int→Bool} {step:Int}:∀ (n:Nat) (x:Int),hit x=false→hit (slide hit step n x).1=false
 |0,x,h=>h
 |n+1,x,h=>by
  rw[slide]
  split
  ·exact h
  ·exact slide_free n (x+step) (by rename_i q; simpa using q)
section
variable {P:Program} {E:Env} {st st':St}
end
end
section
open Go.RowKit

def metC (bs:List TBody) (b:TBody) (o:Int) (k:Nat):Bool:=match bs[k]? with
 |none=>false
 |some p=>(decide ((k:Int)≠o)&&decide (0<p.Life))&&meetM p b
def metF (bs:List TBody) (b:TBody) (o:Int):Nat→Option Nat
 |0=>none
 |n+1=>match metF bs b o n with
  |some k=>some k
  |none=>if metC bs b o n=true then some n else none
section
variable {bs:List TBody} {b p:TBody} {o:Int} {k n:Nat}
theorem metF_lt:∀ {n:Nat},metF bs b o n=some k→k<n∧metC bs b o k=true
 |0,h=>by cases h
 | n+1,h=>by
  rw[metF] at h
  cases hm:metF bs b o n with
  |some j =>
   rw[hm] at h
   cases h
   have:=metF_lt hm
   exact⟨by omega,this.2⟩
  |none =>
   rw[hm] at h
   simp only at h
   split at h
   ·cases h; rename_i hc; exact⟨by omega,hc⟩
   ·cases h
theorem metC_life (h:metC bs b o k=true):∃ p,bs[k]? = some p∧0<p.Life∧(k:Int)≠o∧meetM p b=true:=by
 unfold metC at h
 split at h
 ·cases h
 ·rename_i p hp
  simp only[Gqk,decide_eq_true_eq] at h
  exact⟨p,hp,h.1.2,h.1.1,h.2⟩
end
theorem some_sm {α:Type} {xs:List α} {i:Nat} (h:i<xs.length):∃ x,xs[i]? = some x:=⟨xs[i],Gqg h⟩
def addM (ss:List Int) (k:Nat):List Int:=match ss[k]? with
 |none=>ss
 |some s=>ss.set k (min (s+1) 1000000)
end
section
open Go.RowKit
end
section
open Go.RowKit

def tick1 (b:TBody):TBody:=⟨b.Kind,b.Owner,b.X,b.Y,b.VX,b.VY,b.Aim,b.Life,b.Timer-1⟩
noncomputable def plOne (l:TLevel) (i:Int) (k:Nat) (bs:List TBody) (b:TBody):List TBody :=
 if b.Life=0 then bs.set k (if b.Timer-1=0 then fresh l k else tick1 b)
 else if (steer l b i).2=true∧bs.length<24 then bs.set k (steer l b i).1 ++ [shotOf (steer l b i).1] else bs.set k (steer l b i).1
noncomputable def plM (l:TLevel) (row:List Int) (bs:List TBody):Nat→List TBody
 |0=>bs
 |k+1=>match (plM l row bs k)[k]? with
  |none=>plM l row bs k
  |some b=>plOne l (row.getD k 0) k (plM l row bs k) b
structure BM (l:TLevel) (n:Nat) (b:TBody):Prop where
 k:0≤b.Kind∧b.Kind≤2
 o:0≤b.Owner∧b.Owner<n
 p:solidM l b.X b.Y (sizeOf b.Kind)=false
 vx : -15≤b.VX∧b.VX≤15
 vy : -15≤b.VY∧b.VY≤15
 f:0≤b.Life∧b.Life≤3
structure LM (l:TLevel) (n:Nat) (bs:List TBody):Prop where
 len:n≤bs.length∧bs.length≤24
 at_:∀ k b,bs[k]? = some b→BM l n b∧(b.Kind=0↔k<n)
structure PlI (l:TLevel) (n k:Nat) (b:TBody):Prop where
 kd:b.Kind=0
 ow:b.Owner=k
 am:b.Aim=1∨b.Aim = -1
 tm:0≤b.Timer∧b.Timer≤20
 dd:b.Life=0→1≤b.Timer
 bm:bodyM l (b.Owner+1) b=true
theorem body_facts {l:TLevel} {n k:Nat} {b:TBody} (h:bodyAt l n k b=true):BM l n b∧(b.Kind=0↔k<n)∧(0≤b.Timer∧b.Timer≤25)∧(k<n→PlI l n k b):=by
 unfold bodyAt at h
 rw[Gqk] at h
 obtain⟨h1,h2⟩:=h
 have h1':=h1
 simp only[bodyM,Gqk,Gxa,Yk] at h1
 obtain⟨hk,ho,hp,hvx,hvy,ht⟩:=h1
 have hbm:bodyM l (b.Owner+1) b=true:=by
  simp only[bodyM,Gqk,Gxa,Yk]
  exact⟨hk,⟨ho.1,by omega⟩,hp,hvx,hvy,ht⟩
 unfold tailM at ht
 by_cases hkn:k<n
 ·rw[if_pos hkn,decide_eq_true_eq] at h2
  rw[if_pos h2.1,Gqk,Gqk,decide_eq_true_eq,Yk] at ht
  obtain⟨⟨ha,hf⟩,htm⟩:=ht
  have htt:(0≤b.Timer∧b.Timer≤20)∧(b.Life=0→1≤b.Timer):=by
   split at htm
   ·have:=Yk.1 htm; exact⟨by omega,fun _=>this.1⟩
   ·have:=Yk.1 htm; exact⟨by omega,fun h=>absurd h (by assumption)⟩
  exact⟨⟨hk,⟨ho.1,by omega⟩,hp,hvx,hvy,hf⟩,⟨fun _=>hkn,fun _=>h2.1⟩,by omega,fun _=>⟨h2.1,h2.2,ha,htt.1,htt.2,hbm⟩⟩
 ·rw[if_neg hkn,decide_eq_true_eq] at h2
  rw[if_neg h2] at ht
  have htt:(0≤b.Life∧b.Life≤3)∧(0≤b.Timer∧b.Timer≤25):=by
   split at ht
   ·rw[Gqk,decide_eq_true_eq,Yk] at ht; omega
   ·rw[decide_eq_true_eq] at ht; omega
  exact⟨⟨hk,⟨ho.1,by omega⟩,hp,hvx,hvy,htt.1⟩,⟨fun h=>absurd h h2,fun h=>absurd h hkn⟩,htt.2,fun h=>absurd h hkn⟩
theorem LM.set {l:TLevel} {n k:Nat} {bs:List TBody} {b b':TBody} (h:LM l n bs) (hb:bs[k]? = some b) (h1:BM l n b') (h2:b'.Kind=b.Kind):LM l n (bs.set k b'):=by
 refine⟨by rw[Gqs]; exact h.len,fun j c hc => ?_⟩
 rw[List.getElem?_set] at hc
 split at hc
 ·rename_i e
  subst e
  split at hc
  ·cases hc; exact⟨h1,by rw[h2]; exact (h.at_ _ _ hb).2⟩
  ·cases hc
 ·exact h.at_ _ _ hc
theorem LM.app {l:TLevel} {n:Nat} {bs:List TBody} {c:TBody} (h:LM l n bs) (hl:bs.length<24) (h1:BM l n c) (h2:c.Kind≠0):LM l n (bs ++ [c]):=by
 have:=h.len
 refine⟨by rw[Gq0]; simp; omega,fun j d hd => ?_⟩
 rw[List.getElem?_append] at hd
 split at hd
 ·exact h.at_ _ _ hd
 ·rename_i hj
  have hj2:=Yh hd
  simp only[List.length_singleton] at hj2
  have:j=bs.length:=by omega
  subst this
  simp only[Nat.sub_self,Gq5,Option.some.injEq] at hd
  subst hd
  exact⟨h1,fun h=>absurd h h2,fun h=>by omega⟩
theorem shot_free {l:TLevel} {x y:Int} (h:solidM l x y 12=false):solidM l (x+4) (y+4) 4=false:=by
 refine solidM_F fun ⟨r,c,h1,h2,h3,h4,hw⟩ => ?_
 have:hits l x y 12:=⟨r,c,by omega,by omega,by omega,by omega,hw⟩
 rw[solidM_T this] at h
 cases h
theorem steer_aim {l:TLevel} {b:TBody} {i:Int} (h:b.Aim=1∨b.Aim = -1):(steer l b i).1.Aim=1∨(steer l b i).1.Aim = -1:=by
 simp only[steer]
 split
 ·exact .inr rfl
 ·split
  ·exact .inl rfl
  ·exact h
theorem steer_time {l:TLevel} {b:TBody} {i:Int} (h:0≤b.Timer∧b.Timer≤20):0≤(steer l b i).1.Timer∧(steer l b i).1.Timer≤20:=by
 simp only[steer]
 split
 ·omega
 ·split <;> omega
theorem BM.steer {l:TLevel} {n:Nat} {b:TBody} (h:BM l n b) (i:Int):BM l n (steer l b i).1:=by
 obtain⟨hk,ho,hp,hvx,hvy,hf⟩:=h
 refine⟨hk,ho,hp,?_,?_,hf⟩
 ·simp only[Go.Proofs.YtoecjaohdnoenaaGreat.steer]
  split
  ·omega
  ·split <;> omega
 ·simp only[Go.Proofs.YtoecjaohdnoenaaGreat.steer]
  split
  ·omega
  ·rw[Int.min_def]; split <;> omega
theorem BM.shot {l:TLevel} {n:Nat} {b:TBody} (h:BM l n b) (hk:b.Kind=0) (ha:b.Aim=1∨b.Aim = -1):BM l n (shotOf b) :=
 ⟨by simp[shotOf],h.o,by have:=h.p; rw[hk] at this; exact shot_free this,by simp only[shotOf]; omega,by simp[shotOf],by simp[shotOf]⟩
theorem BM.fresh {l:TLevel} (hl:levelOk l=true) {n k:Nat} (hk:k<n) (hn:n≤4):BM l n (fresh l k):=by
 obtain⟨h1,h2,h3⟩:=fresh_free hl (p:=(k:Int)) ⟨by omega,by omega⟩
 exact⟨by simp[Go.Proofs.YtoecjaohdnoenaaGreat.fresh],by simp only[Go.Proofs.YtoecjaohdnoenaaGreat.fresh]; omega,h1,by simp[Go.Proofs.YtoecjaohdnoenaaGreat.fresh],by simp[Go.Proofs.YtoecjaohdnoenaaGreat.fresh],by simp[Go.Proofs.YtoecjaohdnoenaaGreat.fresh]⟩
structure P1 (l:TLevel) (n:Nat) (bs0 bs:List TBody) (k:Nat):Prop where
 lm:LM l n bs
 old:∀ j,k≤j→j<n→bs[j]? = bs0[j]?
 tm:∀ b∈bs,0≤b.Timer∧b.Timer≤25
theorem P1.start {l:TLevel} {n:Nat} {bs:List TBody} (h1:n≤bs.length∧bs.length≤24) (h:bodiesOk l n bs):P1 l n bs bs 0:=by
 have hat:∀ k b,bs[k]? = some b→bodyAt l n k b=true:=fun k b hb=>by
  obtain⟨h2,rfl⟩:=Gqn.1 hb
  exact h k h2
 refine⟨⟨h1,fun k b hb => ?_⟩,fun _ _ _=>rfl,fun b hb => ?_⟩
 ·have:=body_facts (hat k b hb); exact⟨this.1,this.2.1⟩
 ·obtain⟨k,hk⟩:=List.getElem?_of_mem hb
  exact (body_facts (hat k b hk)).2.2.1
theorem old_at {l:TLevel} {n k:Nat} {bs:List TBody} {b:TBody} (h:bodiesOk l n bs) (hb:bs[k]? = some b) (hk:k<n):PlI l n k b:=by
 obtain⟨h2,rfl⟩:=Gqn.1 hb
 exact (body_facts (h k h2)).2.2.2 hk
section
variable {l:TLevel} {n k:Nat} {bs0 bs:List TBody} {b b':TBody}
theorem P1.set (h:P1 l n bs0 bs k) (hb:bs[k]? = some b) (h1:BM l n b') (h2:b'.Kind=b.Kind) (ht:0≤b'.Timer∧b'.Timer≤25):P1 l n bs0 (bs.set k b') (k+1) :=
 ⟨h.lm.set hb h1 h2,fun j hj hn=>by rw[Gq7 (by omega)]; exact h.old j (by omega) hn,fun c hc=>by
  rcases List.mem_or_eq_of_mem_set hc with h3 | h3
  ·exact h.tm c h3
  ·subst h3; exact ht⟩
theorem P1.app (h:P1 l n bs0 bs k) (hl:bs.length<24) {c:TBody} (h1:BM l n c) (h2:c.Kind≠0) (ht:0≤c.Timer∧c.Timer≤25):P1 l n bs0 (bs ++ [c]) k :=
 ⟨h.lm.app hl h1 h2,fun j hj hn=>by have:=h.lm.len; rw[Gqu (by omega)]; exact h.old j hj hn,fun d hd=>by
  rcases Gqz.1 hd with h3 | h3
  ·exact h.tm d h3
  ·rw[List.mem_singleton] at h3; subst h3; exact ht⟩
end
theorem P1.one {l:TLevel} (hl:levelOk l=true) {n k:Nat} (hn:n≤4) {bs0 bs:List TBody} {b:TBody} (h:P1 l n bs0 bs k) (hk:k<n) (hb:bs[k]? = some b) (hI:PlI l n k b) (i:Int):P1 l n bs0 (plOne l i k bs b) (k+1):=by
 have hB:=(h.lm.at_ k b hb).1
 unfold plOne
 split
 ·split
  ·exact h.set hb (BM.fresh hl hk hn) (by rw[hI.kd]; rfl) (by simp[fresh])
  ·rename_i hf ht
   have:=hI.dd hf
   have:=hI.tm
   exact h.set hb ⟨hB.k,hB.o,hB.p,hB.vx,hB.vy,hB.f⟩ J (by simp only[tick1]; omega)
 ·have hs:=steer_time (l:=l) (i:=i) hI.tm
  have h1:=h.set hb (hB.steer i) (by rfl) ⟨hs.1,by omega⟩
  split
  ·rename_i hc
   exact h1.app (by rw[Gqs]; exact hc.2) ((hB.steer i).shot hI.kd (steer_aim hI.am)) (by simp[shotOf]) (by simp[shotOf])
  ·exact h1
theorem P1.all {l:TLevel} (hl:levelOk l=true) {n:Nat} (hn:n≤4) {bs:List TBody} (h1:n≤bs.length∧bs.length≤24) (h:bodiesOk l n bs) (row:List Int):∀ k,k≤n→P1 l n bs (plM l row bs k) k
 |0,_=>P1.start h1 h
 |k+1,hk=>by
  have hp:=P1.all hl hn h1 h row k (by omega)
  have hlk:k<(plM l row bs k).length:=by have:=hp.lm.len; omega
  obtain⟨b,hb⟩:=some_sm hlk
  have ho:=hp.old k (Gqj _) (by omega)
  rw[plM,hb]
  exact hp.one hl hn (by omega) hb (old_at h (by rw[←ho]; exact hb) (by omega)) _

/-! ### Moving -/
noncomputable def mvOne (l:TLevel) (b:TBody):Option TBody :=
 if b.Kind=0∧0<b.Life then some (moveM l b).1
 else if b.Kind=1 then if (moveM l b).2=true∨b.Timer-1=0 then none else some (tick1 (moveM l b).1)
 else some b
noncomputable def mvM (l:TLevel) (bs:List TBody):List TBody:=bs.filterMap (mvOne l)
theorem BM.move {l:TLevel} {n:Nat} {b:TBody} (h:BM l n b):BM l n (moveM l b).1:=by
 obtain⟨hk,ho,hp,hvx,hvy,hf⟩:=h
 have h1:solidM l (moveX l b).1 b.Y (sizeOf b.Kind)=false:=slide_free (hit:=fun x=>solidM l x b.Y (sizeOf b.Kind)) _ _ hp
 have h2:solidM l (moveX l b).1 (moveY l b).1 (sizeOf b.Kind)=false:=slide_free (hit:=fun y=>solidM l (moveX l b).1 y (sizeOf b.Kind)) _ _ h1
 refine⟨hk,ho,h2,?_,?_,hf⟩
 ·simp only[moveM]; split <;> omega
 ·simp only[moveM]; split <;> omega
theorem mvOne_ok {l:TLevel} {n:Nat} {b c:TBody} (h:BM l n b) (hc:mvOne l b=some c):BM l n c∧c.Kind=b.Kind:=by
 unfold mvOne at hc
 split at hc
 ·cases hc; exact⟨h.move,rfl⟩
 ·split at hc
  ·split at hc
   ·cases hc
   ·cases hc
    have:=h.move
    exact⟨⟨this.k,this.o,this.p,this.vx,this.vy,this.f⟩,J⟩
  ·cases hc; exact⟨h,rfl⟩
theorem mvOne_pl {l:TLevel} {b:TBody} (h:b.Kind=0):∃ c,mvOne l b=some c:=by
 unfold mvOne
 split
 ·exact⟨_,rfl⟩
 ·rw[if_neg (by omega)]; exact⟨_,rfl⟩
theorem fmap_len {α β:Type} {f:α→Option β}:∀ (xs:List α),(∀ x∈xs,∃ y,f x=some y)→(xs.filterMap f).length=xs.length
 | [],_=>rfl
 |x::xs,h=>by
  obtain⟨y,hy⟩:=h x (by simp)
  rw[List.filterMap_cons,hy]
  simp only[Gxd]
  rw[fmap_len xs fun z hz=>h z (by simp[hz])]
theorem LM.move {l:TLevel} {n:Nat} {bs:List TBody} (h:LM l n bs):LM l n (mvM l bs):=by
 have hlen:=h.len
 have hA:∀ a∈bs.take n,BM l n a∧a.Kind=0:=fun a ha=>by
  obtain⟨j,hj⟩:=List.getElem?_of_mem ha
  rw[Gq9] at hj
  split at hj
  ·have:=h.at_ _ _ hj; exact⟨this.1,this.2.2 (by assumption)⟩
  ·cases hj
 have hB:∀ a∈bs.drop n,BM l n a∧a.Kind≠0:=fun a ha=>by
  obtain⟨j,hj⟩:=List.getElem?_of_mem ha
  rw[List.getElem?_drop] at hj
  have:=h.at_ _ _ hj
  exact⟨this.1,fun e=>by have:=this.2.1 e; omega⟩
 have hs:mvM l bs=(bs.take n).filterMap (mvOne l)++(bs.drop n).filterMap (mvOne l):=by
  rw[mvM,←List.filterMap_append,Gxc]
 have hl1:((bs.take n).filterMap (mvOne l)).length=n:=by
  rw[fmap_len _ fun a ha=>mvOne_pl (hA a ha).2,List.length_take]; omega
 have hl2:=List.length_filterMap_le (mvOne l) (bs.drop n)
 rw[List.length_drop] at hl2
 rw[hs]
 refine⟨by rw[Gq0,hl1]; omega,fun k b hb => ?_⟩
 rw[List.getElem?_append,hl1] at hb
 split at hb
 ·obtain⟨a,ha,hab⟩:=List.mem_filterMap.1 (Gq1 hb)
  have h1:=hA a ha
  have h2:=mvOne_ok h1.1 hab
  exact⟨h2.1,fun _=>by assumption,fun _=>by rw[h2.2,h1.2]⟩
 ·obtain⟨a,ha,hab⟩:=List.mem_filterMap.1 (Gq1 hb)
  have h1:=hB a ha
  have h2:=mvOne_ok h1.1 hab
  exact⟨h2.1,fun e=>absurd (by rw[←h2.2]; exact e) h1.2,fun e=>absurd e (by assumption)⟩
end
section
open Go.RowKit

structure PH (w:TWorld) (row:List Int):Prop where
 hg:Enc.gd w.Level
 gb:∀ b∈w.Bodies,Enc.gd b
 hl:levelOk w.Level=true
 n4:1≤w.Scores.length∧w.Scores.length≤4
 len:w.Scores.length≤w.Bodies.length∧w.Bodies.length≤24
 bs:bodiesOk w.Level w.Scores.length w.Bodies
 rl:row.length=w.Scores.length
 ri:∀ i∈row,0≤i∧i≤15
end
section
open Go.RowKit
end
section
open Go.RowKit

def hitB (p:TBody):TBody:=⟨p.Kind,p.Owner,p.X,p.Y,if p.Life-1=0 then 0 else p.VX,if p.Life-1=0 then 0 else p.VY,p.Aim,p.Life-1,if p.Life-1=0 then 20 else p.Timer⟩
def shOne (n:Nat) (s:List TBody×List Int) (b:TBody):List TBody×List Int :=
 if b.Kind=1 then match metF s.1 b b.Owner n with
  |none=>s
  |some k=>match s.1[k]? with
   |none=>s
   |some p=>(s.1.set k (hitB p),if p.Life-1=0 then addM s.2 b.Owner.toNat else s.2)
 else s
def shS (n:Nat) (t:List TBody) (s:List TBody×List Int):Nat→List TBody×List Int
 |0=>s
 |j+1=>match t[j]? with
  |none=>shS n t s j
  |some b=>shOne n (shS n t s j) b
section
variable {l:TLevel} {n k j:Nat} {t bs bs0 lf:List TBody} {ss ss0:List Int} {s:List TBody×List Int} {b p:TBody}
theorem addM_len {ss:List Int} {k:Nat}:(addM ss k).length=ss.length:=by unfold addM; split <;> simp
theorem addM_rng {ss:List Int} {k:Nat} (h:∀ x∈ss,0≤x∧x≤1000000):∀ x∈addM ss k,0≤x∧x≤1000000:=by
 intro x hx
 unfold addM at hx
 split at hx
 ·exact h x hx
 ·rename_i s hs
  rcases List.mem_or_eq_of_mem_set hx with h1 | h1
  ·exact h x h1
  ·have:=h s (Gq1 hs); omega
theorem BM.hit (h:BM l n p) (hl:0<p.Life):BM l n (hitB p):=by
 obtain⟨hk,ho,hp,hvx,hvy,hf⟩:=h
 refine⟨hk,ho,hp,?_,?_,?_⟩
 ·simp only[hitB]; split <;> omega
 ·simp only[hitB]; split <;> omega
 ·simp only[hitB]; omega
structure SI (l:TLevel) (n:Nat) (bs0:List TBody) (s:List TBody×List Int):Prop where
 lm:LM l n s.1
 len:s.1.length=bs0.length
 tl:∀ k,n≤k→s.1[k]? = bs0[k]?
 sl:s.2.length=n
 sc:∀ x∈s.2,0≤x∧x≤1000000
theorem SI.one (h:SI l n bs0 s) (b:TBody):SI l n bs0 (shOne n s b):=by
 unfold shOne
 split
 ·split
  ·exact h
  ·rename_i k hk
   obtain⟨h1,h2⟩:=metF_lt hk
   obtain⟨p,hp,hlf,_,_⟩:=metC_life h2
   rw[hp]
   have hB:=h.lm.at_ k p hp
   refine⟨h.lm.set hp (hB.1.hit hlf) J,by simp[h.len],fun j hj=>by simp only; rw[Gq7 (by omega)]; exact h.tl j hj,?_,?_⟩
   ·simp only
    split
    ·rw[addM_len]; exact h.sl
    ·exact h.sl
   ·simp only
    split
    ·exact addM_rng h.sc
    ·exact h.sc
 ·exact h
theorem SI.all (h:SI l n bs0 s) (t:List TBody):∀ j,SI l n bs0 (shS n t s j)
 |0=>h
 |j+1=>by
  rw[shS]
  split
  ·exact SI.all h t j
  ·exact (SI.all h t j).one _
theorem SI.start (h:LM l n bs) (h1:ss.length=n) (h2:∀ x∈ss,0≤x∧x≤1000000):SI l n bs (bs,ss):=⟨h,rfl,fun _ _=>rfl,h1,h2⟩
end
end
section
open Go.RowKit

section
variable {P:Program} {ops:Array Oper} {o:Oper} {st:St} {t:TypeId} {y z u:Operand} {rs qs:List Nat} {i j:Int} {m n:Nat} {k:IntKind}
end
end
section
open Go.RowKit

theorem els_pl9 (bs:List TBody):plainT (els bs):=fun e he t ht=>by
 obtain⟨x,_,rfl⟩:=List.mem_map.1 he
 simp only[Enc.e] at ht
 revert ht
 simp only[List.mem_cons,List.not_mem_nil,or_false]
 rintro (rfl | rfl | rfl | rfl | rfl | rfl | rfl | rfl | rfl) <;> exact⟨_,rfl⟩
end
section
open Go.RowKit

section
variable {P:Program} {w:World}
theorem run_copy_src (t tx ty e:TypeId) (i:TypeInfo) (ht:P.underlying t=some (.slice e)) (hi:P.info? e=some i) (b o c n:Nat) (x:Value) (news:List Value) (hs:Src P i.size tx x n news w) (hc:∀ j,j<news.length→(w.cell? ⟨b,o+j,none⟩).isSome=true) (hf:∀ j,j<news.length→w.frozen? ⟨b,o+j,none⟩=false) :
  (Builtin.copy_ #[t,tx] ty #[.slice (some ⟨b,o,none⟩) n c,x]).run P w = .ok (.int .i64 n) (w.setCells b o news):=by
 have hst:=run_storeCells_cells (P:=P) b o news 0 w (by simpa using hc) (by simpa using hf) hs.one
 simp only[Nat.add_zero] at hst
 simp[Builtin.copy_,run_underlying ht,Go.sizeOf,typeInfo,hi,hs.len,hs.cells,hst,goInt]
theorem OW.fill {k:Nat} {es es':List (List T)} {v:Value} {fp:List Nat} {t tx ty e:TypeId} {zs:List Value} {by_:Nat} [hm:TyMake P t e zs by_] (h:OW w (.sl k es) v fp) (hnd:fp.Nodup) (hkz:k=zs.length) {x:Value} (hl:es'.length=es.length) (h0:0<es.length) (hpl:plainT es') (hkk:∀ e∈es',e.length=k)
  (hsrc:Src P k tx x es'.length (flatV (plainV' es') es'.length k) w) :
  ∃ w' fp',(Builtin.copy_ #[t,tx] ty #[v,x]).run P w = .ok (.int .i64 es.length) w'∧OW w' (.sl k es') v fp'∧fp'.Nodup∧(∀ b∈fp',b∈fp)∧Keeps w w' fp:=by
 obtain⟨i,hi,hzz⟩:=Option.map_eq_some_iff.1 hm.info
 simp only[Prod.mk.injEq] at hzz
 obtain⟨hz1,hs,hb1⟩:=hzz
 have hsk:i.size=k:=by rw[hs,hkz]
 have hsrc2:Src P i.size tx x es.length (flatV (plainV' es') es'.length k) w:=by rw[hsk,←hl]; exact hsrc
 rcases h.open_ with ⟨rfl,rfl,rfl⟩ | ⟨b,o,c,tid,cur,fz,val,fps,rfl,rfl,hg,hzf,hc,hcm,hcs,hp,hk,hf,hfk,hv,ht⟩
 ·simp at h0
 ·have hmul:es'.length*k≤c*k:=Gxh _ (by omega)
  have hr:=run_copy_src (P:=P) (w:=w) t tx ty e i hm.slice hi b o c es.length x _ hsrc2 (fun j hj=>by
   rw[cell_of_row w b _ cur tid fz hg]
   rw[Yf] at hj
   simp
   omega) (fun j hj=>by
   rw[Yf] at hj
   exact frozen_fz hg hzf (by omega))
  obtain⟨cur',k1,k2,k3,k4⟩:=Yj b tid fz (flatV (plainV' es') es'.length k) o w cur hg (by rw[Yf]; omega)
  obtain⟨s1,s2,s3,s4,s5⟩:=Z1 w b (flatV (plainV' es') es'.length k) o
  have hnil:(es'.map fun e=>e.map fun _=>([]:List Nat)).flatten.flatten = []:=by
   rw[List.flatten_eq_nil_iff]
   intro l hl
   rw[List.mem_flatten] at hl
   obtain⟨f,hf,hl⟩:=hl
   obtain⟨e,_,rfl⟩:=List.mem_map.1 hf
   obtain⟨_,_,rfl⟩:=List.mem_map.1 hl
   rfl
  refine⟨_,b::(es'.map fun e=>e.map fun _=>([]:List Nat)).flatten.flatten,hr,?_,by rw[hnil]; simp,fun x hx => ?_,s1,s2,s3,by omega,fun b'' _ hb''=>s5 b'' fun e=>hb'' (by simp[e])⟩
  ·rw[←hl]
   refine .sl es' b o k c tid cur' fz (plainV' es') (es'.map fun e=>e.map fun _ => []) k1 (by rw[k2]; exact hzf) (by omega) hcm (by rw[k2]; exact hcs) hp hkk (by simp) (fun f hf => ?_) (fun i j hi hj => ?_) fun i j e t fs f h6 h7 h8 h9 => ?_
   ·obtain⟨e,h6,rfl⟩:=List.mem_map.1 hf
    simpa using hkk e h6
   ·have h1:=ij_lt hi hj
    rw[Nat.add_assoc,k3 _ (by rw[Yf]; exact h1)]
    exact flatV_at hi hj
   ·rw[Gqi,h6] at h8
    simp only[Gqw,Option.some.injEq] at h8
    subst h8
    rw[Gqi,h7] at h9
    simp only[Gqw,Option.some.injEq] at h9
    subst h9
    obtain⟨u,rfl⟩:=hpl e (Yi h6) t (Yi h7)
    rw[plainV'_at h6 h7]
    refine .v u ?_
    have hi:=Yh h6
    have hj:j<k:=by rw[←hkk e (Yi h6)]; exact Yh h7
    have:=hsrc.one _ (Yi (flatV_at (val:=plainV' es') hi hj))
    rwa[plainV'_at h6 h7] at this
  ·rw[hnil] at hx
   rcases List.mem_cons.1 hx with rfl | hx
   ·simp
   ·cases hx
end
section
variable {P:Program} {E:Env} {ops:Array Oper} {o:Oper} {st:St} {n:Nat} {rest:List Oper} {QQ:Exit→St→Prop} {t:TypeId} {y z:Operand}
end
end
section
open Go.RowKit
end
section
open Go.RowKit

theorem PH.of {w:TWorld} {row:List Int} (hg:Enc.gd w) (ho:worldOk w=true) (hr:rowOk row w.Scores.length=true):PH w row:=by
 obtain⟨gL,gT,gS,gSc,gB⟩:=hg
 obtain⟨hl,ht,hs,hn,hsc,hlen,hbo⟩:=worldOk_spec ho
 rw[rowOk,Gqk,decide_eq_true_eq] at hr
 refine⟨gL,gB.2,hl,hn,hlen,hbo,by omega,fun i hi => ?_⟩
 have:=Gqm.1 hr.2 i hi
 exact Yk.1 this
section
variable {w:TWorld} {row:List Int}
theorem PH.pl (h:PH w row):P1 w.Level w.Scores.length w.Bodies (plM w.Level row w.Bodies w.Scores.length) w.Scores.length:=P1.all h.hl h.n4.2 h.len h.bs row _ (Gqj _)
end
section
variable {l:TLevel} {n:Nat} {bs:List TBody} {ss:List Int}
theorem SI.drop {bs0:List TBody} {s:List TBody×List Int} (h:SI l n bs0 s):s.1.drop n=bs0.drop n:=by
 apply List.ext_getElem?
 intro i
 rw[List.getElem?_drop,List.getElem?_drop]
 exact h.tl _ (by omega)
end
/-! ### What fits -/
structure Fits (w:TWorld) (n:Nat):Prop where
 gd:Enc.gd w
 sl:w.Scores.length=n
 bl:w.Bodies.length≤24
end
section
open Go.RowKit

instance:PlainE TBody:=⟨fun x t h=>els_pl9 [x] (Enc.e x) (by simp[els]) t h⟩
theorem I_copyWorld (w:TWorld) (hg:Enc.gd w) (h1:w.Level.Rows.length≤1048576) (h2:w.Scores.length≤1048576) (h3:w.Bodies.length≤1048576):Con Tryz.prog 161 [] [ag w] [.row 1 (els w.Level.Rows),.row 1 (els w.Scores),.row 9 (els w.Bodies)] (.o (.ag [.ref 0,jn w.Tick,jn w.Seed,.ref 1,.ref 2])):=by
 have hls:=X6 w.Scores
 have hlb:=X6 w.Bodies
 refine Con.of Tryz.func161 J Tryz.ntmps161 J (fun E => ?_)
 refine Wz [101,60,151] ?_;refine M1 (Za J J (I_copyLevel w.Level hg.1 h1) J J J) J J ?_;refine Wz [66,22,35] ?_;refine M_appnil J J J J J J J J (X7 _) (X5 _) (by omega) (by omega) ?_;refine Wz [43] ?_;refine M_appnil J J J J J J J J (X7 _) (X5 _) (by omega) (by omega) ?_;refine Wz [75,25,22,68] ?_
 exact Xh J J J J (Xt [2,3,4] (by decide) J J J)
theorem S_copyWorld (w:TWorld) (hg:Enc.gd w) (h1:w.Level.Rows.length≤1048576) (h2:w.Scores.length≤1048576) (h3:w.Bodies.length≤1048576):Con Tryz.prog 152 [] [ag w] [.row 1 (els w.Level.Rows),.row 1 (els w.Scores),.row 9 (els w.Bodies)] (.o (.ag [.ref 0,jn w.Tick,jn w.Seed,.ref 1,.ref 2])):=by
 have hls:=X6 w.Scores
 have hlb:=X6 w.Bodies
 have h00:([]:List (List T)).length=0:=rfl
 refine Con.of Tryz.func152 J Tryz.ntmps152 J (fun E => ?_)
 refine Wz [101,60,151] ?_;refine M1 (Za J J (S_copyLevel w.Level hg.1 h1) J J J) J J ?_;refine Wz [66,22,4,173,14] ?_;refine M_app J J J J J J J J J J (X7 _) (X5 _) (by omega) (by omega) ?_;refine Wz [75,4,173,14] ?_;refine M_app J J J J J J J J J J (X7 _) (X5 _) (by omega) (by omega) ?_;refine Wz [75,25,22,68] ?_
 exact Xh J J J J (Xt [2,3,4] (by decide) J J J)
end
end Go.Proofs.YtoecjaohdnoenaaGreat
