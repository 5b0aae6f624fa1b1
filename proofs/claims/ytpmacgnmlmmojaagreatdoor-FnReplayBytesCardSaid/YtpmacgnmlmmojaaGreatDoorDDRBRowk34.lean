/-
  Rules, data and contracts of functions: part 35 of the proof.
  Conditions: those that each theorem names.
-/
import Derived.Test.YtpmacgnmlmmojaaGreatDoorDDRBRowk33
set_option linter.unusedSimpArgs false
set_option linter.unusedVariables false
set_option maxRecDepth 20000
set_option maxHeartbeats 8000000
namespace Go.Proofs.YtpmacgnmlmmojaaGreatDoor
section
open Go.RowKit

section
variable {P:Program} {E:Env} {l:List Oper} {Q:Exit→St→Prop} {st:St} {a:Act} {w:World}
structure DAL (P:Program) (E:Env) (l:List Oper) (Q:Exit→St→Prop) (f:Nat) (listed:Array Bool) (st:St):Prop where
 h:∀ a w,Rel E st a w→wpAny P .any l.toArray (fun e a' w'=>∃ st',Q e st'∧Rel E st' a' w') f listed a w
theorem Vs {K:St→Prop} {K':Act→World→Prop} {i:Nat} {o:Oper} (h:wpList P l.toArray (fun e a' w'=>∃ st',thn K Q e st'∧Rel E st' a' w') [o] a w) (hi:l[i]? = some o) (hK:∀ st a' w',K st→Rel E st a' w'→K' a' w') :
  wpOp P l.toArray (fun e a' w'=>∃ st',Q e st'∧Rel E st' a' w') i K' a w:=by
 have hoi:l.toArray[i]? = some o:=by simpa using hi
 unfold wpOp
 simp only[hoi]
 have hn:∀ a' w',wpList P l.toArray (fun e a' w'=>∃ st',thn K Q e st'∧Rel E st' a' w') [] a' w'→K' a' w':=fun a' w' h'=>by
  obtain⟨st',h1,h2⟩:=h'
  exact hK st' a' w' h1.h h2
 unfold wpList at h
 split
 ·rename_i hw
  rw[if_pos hw] at h
  rcases h with h | ⟨h,a1,w1,st1,h1,h2⟩
  ·left
   unfold Oper.wp at h ⊢
   generalize (execOp a.eval o).run P w=r at h ⊢
   cases r with
   | ok n w' =>
    cases n <;> simp only[Oper.upon] at h ⊢ <;>
     first
      |exact hn _ _ h
      | exact Calls.mono h (fun e w'' he=>by
        cases e
        ·exact hn _ _ he
        ·obtain⟨st',h1,h2⟩:=he; exact⟨st',h1.h,h2⟩
        ·obtain⟨a1,w1,st',h1,h2⟩:=he; exact⟨a1,w1,st',h1.h,h2⟩)
      |exact Rows.mono h (fun _ _ he=>hn _ _ he)
   | halt x w' =>
    cases x <;> simp only[Oper.upon] at h ⊢ <;>
     first
      |exact h
      |(obtain⟨st',h1,h2⟩:=h; exact⟨st',h1.h,h2⟩)
      |(obtain⟨a1,w1,st',h1,h2⟩:=h; exact⟨a1,w1,st',h1.h,h2⟩)
  ·exact .inr ⟨h,a1,w1,st1,h1.h,h2⟩
 ·rename_i hw
  rw[if_neg hw] at h
  exact hn _ _ h
theorem DAL.nil {listed:Array Bool} (hr:Region.ready .any l.toArray listed = []) (h:Q .normal st):DAL P E l Q 0 listed st:=⟨fun a w hR=>⟨hr,st,h,hR⟩⟩
theorem DAL.weak {f:Nat} {listed:Array Bool} {st':St} (hw:Wk st st') (h:DAL P E l Q f listed st'):DAL P E l Q f listed st:=⟨fun a w hr=>h.h a w (hr.weak hw)⟩
theorem DAL.one {f:Nat} {listed:Array Bool} (i:Nat) {o:Oper} (hr:Region.ready .any l.toArray listed = [i]) (ho:l[i]? = some o) (h:AL P E l.toArray (thn (DAL P E l Q f (listed.setIfInBounds i true)) Q) [o] st):DAL P E l Q (f+1) listed st :=
 ⟨fun a w hR=>⟨fun e=>(List.cons_ne_nil _ _ (hr.symm.trans e)).elim,fun j hj=>by
  rw[hr,Gq7] at hj
  subst hj
  exact Vs (h.h a w hR) ho fun st' a' w' h1 h2=>h1.h a' w' h2⟩⟩
theorem Ga {f:Nat} {listed:Array Bool} {o:Oper} (i:Nat) (ho:l[i]? = some o) (h:AL P E l.toArray (thn (DAL P E l Q f (listed.setIfInBounds i true)) Q) [o] st) (hr:Region.ready .any l.toArray listed = [i]:=by kernel_rfl):DAL P E l Q (f+1) listed st:=DAL.one i hr ho h
theorem DAL.two {f:Nat} {listed:Array Bool} (i k:Nat) {o p:Oper} (hr:Region.ready .any l.toArray listed = [i,k]) (ho:l[i]? = some o) (hp:l[k]? = some p) (h:AL P E l.toArray (thn (DAL P E l Q f (listed.setIfInBounds i true)) Q) [o] st) (h2:AL P E l.toArray (thn (DAL P E l Q f (listed.setIfInBounds k true)) Q) [p] st):DAL P E l Q (f+1) listed st :=
 ⟨fun a w hR=>⟨fun e=>(List.cons_ne_nil _ _ (hr.symm.trans e)).elim,fun j hj=>by
  rw[hr] at hj
  simp only[List.mem_cons,Gxp,or_false] at hj
  rcases hj with rfl | rfl
  ·exact Vs (h.h a w hR) ho fun st' a' w' h1 h2=>h1.h a' w' h2
  ·exact Vs (h2.h a w hR) hp fun st' a' w' h1 h2=>h1.h a' w' h2⟩⟩
def src2:Op→Option Nat
 | .fieldAddr _ (.tmp t) _=>some t
 |o=>srcO o
theorem src2_exec {o:Oper} {t:Nat} (h:src2 o.op=some t):∀ r r':Operand→Value,r (.tmp t)=r' (.tmp t)→execOp r o=execOp r' o:=fun r r' e=>by
 unfold src2 at h
 split at h
 ·rename_i ho
  cases h
  simp only[execOp,ho,e]
 ·exact srcO_exec h r r' e
def late2 (ops:List Oper) (A:List (List Nat)) (m:Nat):Bool:=match ops[m]? with
 | some o=>match src2 o.op,o.dst with
  |some t,some d=>o.guard.isNone && !Nat.beq t d&&allB ops.length fun j=>Nat.beq j m || match ops[j]? with
   |some oj=>oj.guard.isNone&&(oj.dst != some t || memN (A.getD m []) j)&&oj.dst != some d&&(memN (A.getD j []) m || blindO d oj.op)
   |none=>true
  |_,_=>false
 |none=>false
theorem late2_spec {A:List (List Nat)} {m:Nat} (h:late2 l A m=true):∃ o t d,l[m]? = some o∧src2 o.op=some t∧o.dst=some d∧o.guard=none∧t≠d ∧
  ∀ j oj,j≠m→l[j]? = some oj→oj.guard=none∧(oj.dst≠some t∨j∈A.getD m [])∧oj.dst≠some d∧(m∈A.getD j []∨blindO d oj.op=true):=by
 unfold late2 at h
 split at h
 ·rename_i o hl
  split at h
  ·rename_i t d ho hd
   simp only[Gqg] at h
   obtain⟨⟨h1,h3⟩,h4⟩:=h
   refine⟨o,t,d,hl,ho,hd,by simpa using h1,fun e => ?_,fun j oj hj hoj => ?_⟩
   ·subst e
    rw[show Nat.beq t t=true from Gxy t] at h3
    cases h3
   ·have h5:=Yh h4 (Zk hoj)
    rw[hoj,Gqs] at h5
    rcases h5 with h5 | h5
    ·exact absurd (Gxf h5) hj
    ·simp only[Gqg] at h5
     obtain⟨⟨⟨h6,h7⟩,h8⟩,h9⟩:=h5
     refine⟨by simpa using h6,?_,by simpa using h8,?_⟩
     ·rw[Gqs] at h7
      exact h7.imp (fun h=>by simpa using h) (Zx _ _).1
     ·rw[Gqs] at h9
      exact h9.imp (Zx _ _).1 id
  ·cases h
 ·cases h
def cloB (l:List Oper) (listed:Array Bool):Bool:=allB l.length fun i => !listed.getD i false || (preAt l i).all fun k=>listed.getD k false
def hoB (l:List Oper) (A S M:List (List Nat)) (m:Nat) (listed:Array Bool):Bool :=
 drawB l A S M l.length&&late2 l A m&&cloB l listed && !listed.getD m false&&((preAt l m).all fun k=>listed.getD k false)&&Nat.beq listed.size l.length
theorem DAL.hoist [hnp:NP Q] {f:Nat} {listed:Array Bool} {A S M:List (List Nat)} {m t d:Nat} {n:Nat} {ts:List (Nat×V)} {obs:List Ob} {o:Oper} {x:V} (hc:hoB l A S M m listed=true) (ho:l[m]? = some o) (hs:src2 o.op=some t) (hdd:o.dst=some d) (hd:Nat.blt d n=true)
  (hx:∀ a w H F,R0 w H F ⟨n,ts,obs⟩ a→∃ u,(∀ w2,(execOp a.eval o).run P w2 = .ok (.value u) w2)∧RV w H F x u)
  (h:DAL P E l Q f (listed.setIfInBounds m true) ⟨n,(d,x)::ts,obs⟩):DAL P E l Q (f+1) listed ⟨n,ts,obs⟩:=by
 unfold hoB at hc
 simp only[Gqg] at hc
 obtain⟨⟨⟨⟨⟨c1,c2⟩,c3⟩,c4⟩,c5⟩,c6⟩:=hc
 have hk:=drawB_spec c1
 obtain⟨o',t0,d0,l1,l2,l3,l4,l5,l6⟩:=late2_spec c2
 rw[ho] at l1
 cases l1
 rw[hs] at l2
 cases l2
 rw[hdd] at l3
 cases l3
 have hsz:listed.size=l.length:=Gxf c6
 have hcl:Clo l listed:=fun i hi k hkk=>by
  have hi':i<l.length:=by
   rw[←hsz]
   unfold Lst at hi
   refine Nat.lt_of_not_le fun hge => ?_
   rw[Gq3,Gzd hge] at hi
   cases hi
  have h1:=Yh c3 hi'
  rw[show listed.getD i false=true from hi] at h1
  rw[Bool.not_true,Bool.false_or] at h1
  exact Gqk.1 h1 k hkk
 refine⟨fun a w hR => ?_⟩
 obtain⟨H,F,h1,h2⟩:=hR
 obtain⟨u,hu,hv⟩:=hx a w H F h1
 refine Go.Proofs.YtpmacgnmlmmojaaGreatDoor.hoist hk ho (src2_exec hs) hdd l4 l6 (fun c a w ⟨st',hq,_⟩=>hnp.no c st' hq) f listed a w u hu hsz hcl (fun hh => ?_) (fun k hkk=>Gqk.1 c5 k hkk) ?_
 ·rw[show listed.getD m false=true from hh] at c4
  cases c4
 ·refine h.h _ w ⟨H,F,?_,h2⟩
  exact h1.put (x:=x) (some d) (by simpa[dstOk] using hd) hv
theorem DAL.mv [hnp:NP Q] {f:Nat} {listed:Array Bool} (A S M:List (List Nat)) (m t d:Nat) {n:Nat} {ts:List (Nat×V)} {obs:List Ob} {o:Oper} (hc:hoB l A S M m listed=true) (ho:l[m]? = some o) (hop:o.op = .move (.tmp t)) (hdd:o.dst=some d) (hd:Nat.blt d n=true) (h:DAL P E l Q f (listed.setIfInBounds m true) ⟨n,(d,look ts t)::ts,obs⟩):DAL P E l Q (f+1) listed ⟨n,ts,obs⟩ :=
 DAL.hoist hc ho (by rw[hop]; rfl) hdd hd (fun a w H F hR=>⟨a.eval (.tmp t),fun w2=>by simp[execOp,hop],hR.tmp t⟩) h
theorem DAL.fld [hnp:NP Q] {f:Nat} {listed:Array Bool} (A S M:List (List Nat)) (m t d:Nat) {n:Nat} {ts:List (Nat×V)} {obs:List Ob} {o:Oper} {ty:TypeId} {p q ff off sz:Nat} {pl:List (Nat×Nat)} [hpl:TyPl P ty pl] (hc:hoB l A S M m listed=true) (ho:l[m]? = some o) (hop:o.op = .fieldAddr ty (.tmp t) ff) (hdd:o.dst=some d) (hd:Nat.blt d n=true) (hy:look ts t = .o (.c (.ptr p q))) (hf:pl[ff]? = some (off,sz)) (hsz:sz≠0) (h:DAL P E l Q f (listed.setIfInBounds m true) ⟨n,(d,.o (.c (.ptr p (q+off))))::ts,obs⟩):DAL P E l Q (f+1) listed ⟨n,ts,obs⟩ :=
 DAL.hoist hc ho (by rw[hop]; rfl) hdd hd (fun a w H F hR=>by
  obtain⟨g,tt,vs,e1,e2⟩:=hR.v1 (y := .tmp t) hy
  refine⟨.pointer (some ⟨g,q+off,none⟩),fun w2 => ?_,g,tt,vs,e1,J⟩
  simp only[execOp,hop,e2,Sem.run_bind,run_fieldAt (P:=P) (w:=w2) ty g q ff hf hsz,Result.andThen_ok]
  rfl) h
theorem DAL.three {f:Nat} {listed:Array Bool} (i k m:Nat) {o p r:Oper} (hr:Region.ready .any l.toArray listed = [i,k,m]) (ho:l[i]? = some o) (hp:l[k]? = some p) (hq:l[m]? = some r) (h:AL P E l.toArray (thn (DAL P E l Q f (listed.setIfInBounds i true)) Q) [o] st) (h2:AL P E l.toArray (thn (DAL P E l Q f (listed.setIfInBounds k true)) Q) [p] st) (h3:AL P E l.toArray (thn (DAL P E l Q f (listed.setIfInBounds m true)) Q) [r] st):DAL P E l Q (f+1) listed st :=
 ⟨fun a w hR=>⟨fun e=>(List.cons_ne_nil _ _ (hr.symm.trans e)).elim,fun j hj=>by
  rw[hr] at hj
  simp only[List.mem_cons,Gxp,or_false] at hj
  rcases hj with rfl | rfl | rfl
  ·exact Vs (h.h a w hR) ho fun st' a' w' h1 h2=>h1.h a' w' h2
  ·exact Vs (h2.h a w hR) hp fun st' a' w' h1 h2=>h1.h a' w' h2
  ·exact Vs (h3.h a w hR) hq fun st' a' w' h1 h2=>h1.h a' w' h2⟩⟩
theorem DAL.ext [hnp:NP Q] {f:Nat} {listed:Array Bool} (A S M:List (List Nat)) (m t d:Nat) {n:Nat} {ts:List (Nat×V)} {obs:List Ob} {o:Oper} {i:Nat} {xs:List V2} {y:V2} (hc:hoB l A S M m listed=true) (ho:l[m]? = some o) (hop:o.op = .extract (.tmp t) i) (hdd:o.dst=some d) (hd:Nat.blt d n=true) (hy:look ts t = .tu xs) (hi:xs[i]? = some y) (h:DAL P E l Q f (listed.setIfInBounds m true) ⟨n,(d,.o y)::ts,obs⟩):DAL P E l Q (f+1) listed ⟨n,ts,obs⟩ :=
 DAL.hoist hc ho (by rw[hop]; rfl) hdd hd (fun a w H F hR=>by
  have h1:=hR.tmp t
  rw[show look (St.tmps ⟨n,ts,obs⟩) t = .tu xs from hy] at h1
  obtain⟨us,e,hl,hr⟩:=h1
  have hlt:i<us.length:=by rw[hl]; exact Zk hi
  refine⟨us[i],fun w2 => ?_,hr i y _ hi (Gqd hlt)⟩
  have e2:a.eval (.tmp t) = .tuple us.toArray:=e
  simp[execOp,hop,Instr.extract,e2,hlt]) h
theorem DAL.four {f:Nat} {listed:Array Bool} (i k m q:Nat) {o p r u:Oper} (hr:Region.ready .any l.toArray listed = [i,k,m,q]) (ho:l[i]? = some o) (hp:l[k]? = some p) (hq:l[m]? = some r) (hu:l[q]? = some u) (h:AL P E l.toArray (thn (DAL P E l Q f (listed.setIfInBounds i true)) Q) [o] st) (h2:AL P E l.toArray (thn (DAL P E l Q f (listed.setIfInBounds k true)) Q) [p] st) (h3:AL P E l.toArray (thn (DAL P E l Q f (listed.setIfInBounds m true)) Q) [r] st) (h4:AL P E l.toArray (thn (DAL P E l Q f (listed.setIfInBounds q true)) Q) [u] st):DAL P E l Q (f+1) listed st :=
 ⟨fun a w hR=>⟨fun e=>(List.cons_ne_nil _ _ (hr.symm.trans e)).elim,fun j hj=>by
  rw[hr] at hj
  simp only[List.mem_cons,Gxp,or_false] at hj
  rcases hj with rfl | rfl | rfl | rfl
  ·exact Vs (h.h a w hR) ho fun st' a' w' h1 h2=>h1.h a' w' h2
  ·exact Vs (h2.h a w hR) hp fun st' a' w' h1 h2=>h1.h a' w' h2
  ·exact Vs (h3.h a w hR) hq fun st' a' w' h1 h2=>h1.h a' w' h2
  ·exact Vs (h4.h a w hR) hu fun st' a' w' h1 h2=>h1.h a' w' h2⟩⟩
theorem DAL.have_ {f0:Nat} {l0:Array Bool} {s0:St} (f:Nat) (listed:Array Bool) (st:St) (h:DAL P E l Q f listed st) (k:DAL P E l Q f listed st→DAL P E l Q f0 l0 s0):DAL P E l Q f0 l0 s0:=k h
theorem DAL.join {f:Nat} {listed listed':Array Bool} {st':St} (he:listed=listed') (hw:Wk st st') (h:DAL P E l Q f listed' st'):DAL P E l Q f listed st:=by subst he; exact DAL.weak hw h
theorem ye {f:Nat} {listed listed':Array Bool} {st':St} (hw:Wk st st') (h:DAL P E l Q f listed' st') (he:listed=listed':=by kernel_rfl):DAL P E l Q f listed st:=DAL.join he hw h
def ms (n m:Nat):Array Bool:=((List.range n).map fun i=>Nat.testBit m i).toArray
theorem A_seqW {x y:Code} {st:St} (st0:St) (hx:AWP P E x (thn (fun st=>Wk st st0) Q) st) (hy:AWP P E y Q st0):AWP P E x (thn (AWP P E y Q) Q) st:=AWP.mono (fun e st h=>by
 have h1:=h.h
 refine⟨?_⟩
 cases e with
 |normal=>exact AWP.weak h1 hy
 |_=>exact h1) hx
theorem A_drawn {id:Nat} {f:Nat} (hm:P.follows .mixedOrders=true) (hf:f=l.length) (h:DAL P E l Q f (Array.replicate f false) st):AWP P E (.region id l.toArray true) Q st:=by
 refine⟨fun a w ⟨H,F,hr,hsi⟩=>wp_region_any hm ?_⟩
 have hgr:Grow w H F { w with drawn:=w.drawn+1 } H F:=⟨(Below.refl _ _).drew,fun _ _=>rfl,fun _ h=>h,fun _ h => .inl h,fun p hp b hb=>by rw[hp] at hb; simp[Pc.fp] at hb,fun p i v h=>⟨p,h⟩⟩
 have hok:Ok { w with drawn:=w.drawn+1 } H F:=⟨fun p=>Pc.frame (w:=w) (fun _ _=>rfl) (hr.ok.says p),hr.ok.nodup,hr.ok.disj,hr.ok.free,hr.ok.flt⟩
 have hR:R0 { w with drawn:=w.drawn+1 } H F st a:=⟨hok,fun p=>rb_grow hgr (fun h=>h) (hr.obs p),fun d=>hgr.rv (hr.tmp d),hr.size,hr.defers⟩
 have:=h.h a { w with drawn:=w.drawn+1 } ⟨H,F,hR,hsi.grow hgr⟩
 subst hf
 simpa using this
end
end
section
open Go.RowKit

instance:Enc UInt8:=⟨1,by omega,fun b => [.v (.int .u8 (b.toNat:Int))],fun _=>rfl,fun _=>True,fun _=>0⟩
structure Cu where
 i:Nat
 h:Int
@[reducible] def cub (b:List UInt8) (c:Cu):Ob := .box [.rd [] (sl b),jn c.i,jn c.h]
def nextH (h:Int):Int:=IntKind.i64.wrap (IntKind.i64.wrap (h*6364136223846793005)+1442695040888963407)
def rawX (h:Int):Int:=andI (xorI (h.fdiv (2 ^ (33:Int).toNat)) (h.fdiv (2 ^ (45:Int).toNat))) 255
def addX (x:Int) (y:UInt8):Int:=(((x+(y.toNat:Int)).toNat &&& (255:Int).toNat:Nat):Int)
def byteC (b:List UInt8) (c:Cu):Int×Cu:=match b[c.i]? with
 |some y=>(addX (rawX (nextH c.h)) y,⟨c.i+1,nextH c.h⟩)
 |none=>(rawX (nextH c.h),⟨c.i,nextH c.h⟩)
theorem rawX_rng (h:Int):0≤rawX h∧rawX h≤255:=andI_rng (by omega)
theorem addX_rng (x:Int) (y:UInt8):0≤addX x y∧addX x y≤255:=by
 unfold addX
 have:(x+(y.toNat:Int)).toNat &&& (255:Int).toNat≤(255:Int).toNat:=Nat.and_le_right
 omega
theorem byteC_rng (b:List UInt8) (c:Cu):0≤(byteC b c).1∧(byteC b c).1≤255:=by
 unfold byteC
 split
 ·exact addX_rng _ _
 ·exact rawX_rng _
theorem Yv {b:List UInt8} {c:Cu} (h:c.i≤b.length):(byteC b c).2.i≤b.length:=by
 unfold byteC
 split
 ·rename_i y hy; have:=Zk hy; simp only; omega
 ·exact h
theorem byte_at {b:List UInt8} {i:Nat} {y:UInt8} (h:b[i]? = some y):(els b)[(i:Int).toNat]? = some (Enc.e y):=by
 rw[Int.toNat_natCast,Gqh,h]
 rfl
theorem S_l01Byte (b:List UInt8) (c:Cu) (hb:b.length≤1048576) (hc:c.i≤b.length):Con Tryz.prog 112 [cub b c,.gh 0 (.c (.ptr 0 0))] [.c (.ptr 0 0)] [cub b (byteC b c).2,.gh 0 (.c (.ptr 0 0))] (I (byteC b c).1):=by
 have hl:=Y9 b
 have hx:=rawX_rng (nextH c.h)
 cases h:b[c.i]? with
 |none =>
  have e:byteC b c=(rawX (nextH c.h),⟨c.i,nextH c.h⟩):=by rw[byteC,h]
  rw[e]
  have hge:=List.getElem?_eq_none_iff.1 h
  have f1:decide ((c.i:Int)<(els b).length)=false:=Gqa (by omega)
  refine Con.of Tryz.func112 J Tryz.ntmps112 J (fun E => ?_)
  refine Wz [36,37,44] ?_;refine zx (q_mulW J J J J) J (zx (q_addW J J J J) J ?_);refine Wz [178,103,39] ?_
  refine AWP.pre (st':=(⟨_,[(0,.o (.c (.ptr 0 0)))],[.box [.rd [] (sl b),jn c.i,jn (nextH c.h)],.gh 0 (.c (.ptr 0 0))]⟩:St)) ?_ (Gs [0,1])
  skip
  refine Xh u8_41 u8_42 u8_43 J ?_;refine Wz [4,104] ?_;refine Vx (q_shrW J J J J ⟨by omega,by decide⟩) J ?_;refine Wz [4,104] ?_;refine Vx (q_shrW J J J J ⟨by omega,by decide⟩) J (Vx (q_xorW J J J J) J (Vx (q_andW J J J J) J ?_));refine Wz [150,17,2] ?_
  refine AWP.pre (st':=(⟨_,[(0,.o (.c (.ptr 0 0))),(3,I (rawX (nextH c.h)))],[.box [.rd [] (sl b),jn c.i,jn (nextH c.h)],.gh 0 (.c (.ptr 0 0))]⟩:St)) ?_ (Gs [0,1])
  refine Wz [12,12] ?_;refine Xh u8_44 u8_45 u8_46 J ?_;refine Wz [4,104,4,104,197,222,17,2] ?_
  refine AWP.pre (st':=(⟨_,[(0,.o (.c (.ptr 0 0))),(3,I (rawX (nextH c.h))),(34,B false)],[.box [.rd [] (sl b),jn c.i,jn (nextH c.h)],.gh 0 (.c (.ptr 0 0))]⟩:St)) ?_ (Gs [0,1])
  refine Wz [175,54,10,19] ?_
  exact Gq J (Gr [0,1] J J J)
 |some y =>
  have e:byteC b c=(addX (rawX (nextH c.h)) y,⟨c.i+1,nextH c.h⟩):=by rw[byteC,h]
  rw[e]
  have hlt:=Zk h
  have hy:(y.toNat:Int)≤255:=by have:=y.toNat_lt; omega
  have hy0:0≤(y.toNat:Int):=by omega
  have f1:decide ((c.i:Int)<(els b).length)=true:=Gqb (by omega)
  refine Con.of Tryz.func112 J Tryz.ntmps112 J (fun E => ?_)
  refine Wz [36,37,44] ?_;refine zx (q_mulW J J J J) J (zx (q_addW J J J J) J ?_);refine Wz [178,103,39] ?_
  refine AWP.pre (st':=(⟨_,[(0,.o (.c (.ptr 0 0)))],[.box [.rd [] (sl b),jn c.i,jn (nextH c.h)],.gh 0 (.c (.ptr 0 0))]⟩:St)) ?_ (Gs [0,1])
  skip
  refine Xh u8_41 u8_42 u8_43 J ?_;refine Wz [4,104] ?_;refine Vx (q_shrW J J J J ⟨by omega,by decide⟩) J ?_;refine Wz [4,104] ?_;refine Vx (q_shrW J J J J ⟨by omega,by decide⟩) J (Vx (q_xorW J J J J) J (Vx (q_andW J J J J) J ?_));refine Wz [150,17,2] ?_
  refine AWP.pre (st':=(⟨_,[(0,.o (.c (.ptr 0 0))),(3,I (rawX (nextH c.h)))],[.box [.rd [] (sl b),jn c.i,jn (nextH c.h)],.gh 0 (.c (.ptr 0 0))]⟩:St)) ?_ (Gs [0,1])
  refine Wz [12,12] ?_;refine Xh u8_44 u8_45 u8_46 J ?_;refine Wz [4,104,4,104,197,222,17,2] ?_
  refine AWP.pre (st':=(⟨_,[(0,.o (.c (.ptr 0 0))),(3,I (rawX (nextH c.h))),(34,B true)],[.box [.rd [] (sl b),jn c.i,jn (nextH c.h)],.gh 0 (.c (.ptr 0 0))]⟩:St)) ?_ (Gs [0,1])
  refine Wz [65,12] ?_
  have he:=byte_at h
  skip
  refine Xh [[],[],[1],[1,2],[1,2,3],[],[5],[5,6],[5,6,7],[1,2,3,4,5,6,7,8],[1,2,3,4,5,6,7,8,9],[1,2,3,4,5,6,7,8,9,10],(u9 12),(u9 13),(u9 14)] [[],[],[36],[36,37],[36,37,38],[],[40],[40,41],[40,41,42],[36,37,38,39,40,41,42,43],[36,37,38,39,40,41,42,43,44],[36,37,38,39,40,41,42,43,44,45],[35,36,37,38,39,40,41,42,43,44,45,46],[35,36,37,38,39,40,41,42,43,44,45,46,47],[35,36,37,38,39,40,41,42,43,44,45,46,47,48]] [[36,37,38,39,40,41,42,43,44,45,46],[35,40,41,42,43],[35,40,41,42,43],[35,40,41,42,43],[35,40,41,42,43],[35,36,37,38,39],[35,36,37,38,39],[35,36,37,38,39],[35,36,37,38,39],[35],[35],[35],[],[],[]] J ?_;refine Wz [29,104,4,104,121] ?_;refine Vx (Ki J J J J (Vt (by omega))) J ?_;refine Wz [164,226,150,17,2] ?_
  refine AWP.pre (st':=(⟨_,[(0,.o (.c (.ptr 0 0))),(3,I (addX (rawX (nextH c.h)) y))],[.box [.rd [] (sl b),jn c.i,jn (nextH c.h)],.gh 0 (.c (.ptr 0 0))]⟩:St)) ?_ (Gs [0,1])
  refine Wz [22,0,44,35,178,60,10,19] ?_
  exact Gq J (Gr [0,1] J J J)
def belowC (b:List UInt8) (n:Int) (c:Cu):Int×Cu :=
 if n≤0 then (0,c) else if n≤256 then ((byteC b c).1%n,(byteC b c).2)
 else ((((byteC b c).1*16777216+(byteC b (byteC b c).2).1*65536)+(byteC b (byteC b (byteC b c).2).2).1*256+(byteC b (byteC b (byteC b (byteC b c).2).2).2).1)%n,(byteC b (byteC b (byteC b (byteC b c).2).2).2).2)
theorem Yo {b:List UInt8} {n:Int} {c:Cu} (h:0<n):0≤(belowC b n c).1∧(belowC b n c).1<n:=by
 unfold belowC
 rw[if_neg (by omega)]
 split
 ·exact⟨Int.emod_nonneg _ (by omega),Int.emod_lt_of_pos _ h⟩
 ·exact⟨Int.emod_nonneg _ (by omega),Int.emod_lt_of_pos _ h⟩
theorem Yn {b:List UInt8} {n:Int} {c:Cu} (h:c.i≤b.length):(belowC b n c).2.i≤b.length:=by
 unfold belowC
 split
 ·exact h
 ·split
  ·exact Yv h
  ·exact Yv (Yv (Yv (Yv h)))
theorem Yc (b:List UInt8) (n:Int) (c:Cu) (hb:b.length≤1048576) (hc:c.i≤b.length) (hn:n≤1099511627776):Con Tryz.prog 36 [cub b c,.gh 0 (.c (.ptr 0 0))] [.c (.ptr 0 0),ai n] [cub b (belowC b n c).2,.gh 0 (.c (.ptr 0 0))] (I (belowC b n c).1):=by
 by_cases h0:n≤0
 ·have e:belowC b n c=(0,c):=by rw[belowC,if_pos h0]
  rw[e]
  have f0:decide (n≤0)=true:=Gqb h0
  refine Con.of Tryz.func36 J Tryz.ntmps36 J (fun E => ?_)
  refine Wz [94,195,28,31] ?_
  exact Gq J (Gr [0,1] J J J)
 have f0:decide (n≤0)=false:=Gqa h0
 by_cases h1:n≤256
 ·have e:belowC b n c=((byteC b c).1%n,(byteC b c).2):=by rw[belowC,if_neg h0,if_pos h1]
  rw[e]
  have f1:decide (n≤256)=true:=Gqb h1
  have k1:=S_l01Byte b c hb hc
  have r1:=byteC_rng b c
  generalize byteC b c=p1 at k1 r1
  obtain⟨x1,c1⟩:=p1
  simp only at k1 r1
  refine Con.of Tryz.func36 J Tryz.ntmps36 J (fun E => ?_)
  refine Wz [94,195,38,25,195,15,10] ?_;refine X6 (lo := [_]) (gs := [(0,.c (.ptr 0 0))]) (lo' := [_]) (new := []) [0] [(0,0,.ptr 0 0)] (k1) J J J J J J J J J J J J J J J J J ?_;refine Wz [0,111,31] ?_
  exact Gq J (Gr [0,1] J J J)
 ·have f1:decide (n≤256)=false:=Gqa h1
  have e:belowC b n c=((((byteC b c).1*16777216+(byteC b (byteC b c).2).1*65536)+(byteC b (byteC b (byteC b c).2).2).1*256+(byteC b (byteC b (byteC b (byteC b c).2).2).2).1)%n,(byteC b (byteC b (byteC b (byteC b c).2).2).2).2):=by rw[belowC,if_neg h0,if_neg h1]
  rw[e]
  have k1:=S_l01Byte b c hb hc
  have k2:=S_l01Byte b (byteC b c).2 hb (Yv hc)
  have k3:=S_l01Byte b (byteC b (byteC b c).2).2 hb (Yv (Yv hc))
  have k4:=S_l01Byte b (byteC b (byteC b (byteC b c).2).2).2 hb (Yv (Yv (Yv hc)))
  have r1:=byteC_rng b c
  have r2:=byteC_rng b (byteC b c).2
  have r3:=byteC_rng b (byteC b (byteC b c).2).2
  have r4:=byteC_rng b (byteC b (byteC b (byteC b c).2).2).2
  generalize byteC b (byteC b (byteC b (byteC b c).2).2).2=p4 at k4 r4
  generalize byteC b (byteC b (byteC b c).2).2=p3 at k3 r3 k4
  generalize byteC b (byteC b c).2=p2 at k2 r2 k3
  generalize byteC b c=p1 at k1 r1 k2
  obtain⟨x1,c1⟩:=p1
  obtain⟨x2,c2⟩:=p2
  obtain⟨x3,c3⟩:=p3
  obtain⟨x4,c4⟩:=p4
  simp only at k1 k2 k3 k4 r1 r2 r3 r4
  refine Con.of Tryz.func36 J Tryz.ntmps36 J (fun E => ?_)
  refine Wz [94,195,38,25,195,76] ?_;refine X6 (lo := [_]) (gs := [(0,.c (.ptr 0 0))]) (lo' := [_]) (new := []) [0] [(0,0,.ptr 0 0)] (k1) J J J J J J J J J J J J J J J J J ?_;refine Wz [32] ?_;refine X6 (lo := [_]) (gs := [(0,.c (.ptr 0 0))]) (lo' := [_]) (new := []) [0] [(0,0,.ptr 0 0)] (k2) J J J J J J J J J J J J J J J J J ?_;refine Wz [32] ?_;refine X6 (lo := [_]) (gs := [(0,.c (.ptr 0 0))]) (lo' := [_]) (new := []) [0] [(0,0,.ptr 0 0)] (k3) J J J J J J J J J J J J J J J J J ?_;refine Wz [32] ?_;refine X6 (lo := [_]) (gs := [(0,.c (.ptr 0 0))]) (lo' := [_]) (new := []) [0] [(0,0,.ptr 0 0)] (k4) J J J J J J J J J J J J J J J J J ?_;refine Wz [32,67,0,67,35,0,67,35,46,0,111,19] ?_
  exact Gq J (Gr [0,1] J J J)
def pickC_ (b:List UInt8) (xs:List Int) (c:Cu):Int×Cu:=(xs.getD (belowC b xs.length c).1.toNat 0,(belowC b xs.length c).2)
theorem S_l01PickInt (b:List UInt8) (xs:List Int) (c:Cu) (hb:b.length≤1048576) (hc:c.i≤b.length) (hx:0<xs.length) (hx2:xs.length≤1000):Con Tryz.prog 144 [cub b c,.gh 0 (.c (.ptr 0 0))] [.c (.ptr 0 0),al xs] [cub b (pickC_ b xs c).2,.gh 0 (.c (.ptr 0 0))] (I (pickC_ b xs c).1):=by
 have hl:=Y9 xs
 have k1:=Yc b xs.length c hb hc (by omega)
 have r1:=Yo (b:=b) (n:=xs.length) (c:=c) (by omega)
 rw[pickC_]
 generalize belowC b xs.length c=p1 at k1 r1
 obtain⟨x1,c1⟩:=p1
 simp only at k1 r1
 rw[←hl] at k1
 obtain⟨i,rfl⟩:∃ i:Nat,x1=i:=⟨x1.toNat,by omega⟩
 have hi:i<xs.length:=by omega
 have he:(els xs)[(i:Int).toNat]? = some (Enc.e xs[i]):=by rw[Int.toNat_natCast,Gqh,Gqd hi]; rfl
 rw[show xs.getD ((i:Int),c1).1.toNat 0=xs[i] by simp[Gqc,hi]]
 refine Con.of Tryz.func144 J Tryz.ntmps144 J (fun E => ?_)
 refine Wz [36,37,0,21] ?_;refine X6 (lo := [_]) (gs := [(0,.c (.ptr 0 0))]) (lo' := [_]) (new := []) [0] [(0,0,.ptr 0 0)] (k1) J J J J J J J J J J J J J J J J J ?_;refine Wz [49,19] ?_
 exact Gq J (Gr [0,1] J J J)
end
section
open Go.RowKit

def inputC (b:List UInt8) (c:Cu):Int×Cu:=pickC_ b [0,1,2,2,6,8,10,12,9,(belowC b 16 c).1] (belowC b 16 c).2
theorem pickC_ok {b:List UInt8} {xs:List Int} {c:Cu} (h:c.i≤b.length):(pickC_ b xs c).2.i≤b.length:=Yn h
theorem inputC_ok {b:List UInt8} {c:Cu} (h:c.i≤b.length):(inputC b c).2.i≤b.length:=pickC_ok (Yn h)
theorem pickC_all {b:List UInt8} {xs:List Int} {c:Cu} {q:Int→Prop} (h0:0<xs.length) (h:∀ x∈xs,q x):q (pickC_ b xs c).1:=by
 have r:=Yo (b:=b) (n:=xs.length) (c:=c) (by omega)
 have hi:(belowC b xs.length c).1.toNat<xs.length:=by omega
 simp only[pickC_,Gqc,Gqd hi,Option.getD_some]
 exact h _ (Gql hi)
theorem inputC_rng (b:List UInt8) (c:Cu):0≤(inputC b c).1∧(inputC b c).1≤15:=by
 have r:=Yo (b:=b) (n:=16) (c:=c) (by omega)
 refine pickC_all (q:=fun x=>0≤x∧x≤15) (by simp) fun x hx => ?_
 simp only[List.mem_cons,Gxp,or_false] at hx
 omega
def rowC (b:List UInt8):Nat→Cu→List Int×Cu
 |0,c=>([],c)
 |n+1,c=>((rowC b n c).1 ++ [(inputC b (rowC b n c).2).1],(inputC b (rowC b n c).2).2)
theorem rowC_ok {b:List UInt8} {c:Cu} (h:c.i≤b.length):∀ n,(rowC b n c).2.i≤b.length
 |0=>h
 |n+1=>inputC_ok (rowC_ok h n)
theorem rowC_len {b:List UInt8} {c:Cu}:∀ n,(rowC b n c).1.length=n
 |0=>rfl
 |n+1=>by rw[rowC,Gqe,rowC_len n]; rfl
theorem rowC_rng {b:List UInt8} {c:Cu}:∀ n,∀ x∈(rowC b n c).1,0≤x∧x≤15
 |0,x,hx=>by cases hx
 |n+1,x,hx=>by
  rw[rowC] at hx
  rcases Gqm.1 hx with h | h
  ·exact rowC_rng n x h
  ·rw[Gq7] at h; subst h; exact inputC_rng _ _
def rowsC (b:List UInt8) (n:Nat):Nat→Cu→List (List Int)×Cu
 |0,c=>([],c)
 |k+1,c=>((rowsC b n k c).1++List.replicate ((belowC b 4 (rowC b n (rowsC b n k c).2).2).1.toNat+1) (rowC b n (rowsC b n k c).2).1,(belowC b 4 (rowC b n (rowsC b n k c).2).2).2)
theorem rowsC_ok {b:List UInt8} {n:Nat} {c:Cu} (h:c.i≤b.length):∀ k,(rowsC b n k c).2.i≤b.length
 |0=>h
 |k+1=>Yn (rowC_ok (rowsC_ok h k) n)
theorem rowsC_all {b:List UInt8} {n:Nat} {c:Cu}:∀ k,∀ r∈(rowsC b n k c).1,r.length=n∧∀ x∈r,0≤x∧x≤15
 |0,r,hr=>by cases hr
 | k+1,r,hr=>by
  rw[rowsC] at hr
  rcases Gqm.1 hr with h | h
  ·exact rowsC_all k r h
  ·rw[Gx5 h]
   exact⟨rowC_len n,rowC_rng n⟩
theorem rowsC_len {b:List UInt8} {n:Nat} {c:Cu}:∀ k,(rowsC b n k c).1.length≤4*k
 |0=>by simp[rowsC]
 |k+1=>by
  have h:=rowsC_len (b:=b) (n:=n) (c:=c) k
  have r:=Yo (b:=b) (n:=4) (c:=(rowC b n (rowsC b n k c).2).2) (by omega)
  rw[rowsC,Gqe,Gxs]
  omega
def drawRows (b:List UInt8) (n:Nat) (most:Int) (c:Cu):List (List Int)×Cu:=rowsC b n (belowC b most c).1.toNat (belowC b most c).2
theorem S_l02Input (b:List UInt8) (c:Cu) (hb:b.length≤1048576) (hc:c.i≤b.length):Con Tryz.prog 190 [cub b c,.gh 0 (.c (.ptr 0 0))] [.c (.ptr 0 0)] [cub b (inputC b c).2,.gh 0 (.c (.ptr 0 0))] (I (inputC b c).1):=by
 have k1:=Yc b 16 c hb hc (by omega)
 have k2:=S_l01PickInt b [0,1,2,2,6,8,10,12,9,(belowC b 16 c).1] (belowC b 16 c).2 hb (Yn hc) (by simp) (by simp)
 rw[inputC]
 generalize belowC b 16 c=p1 at k1 k2
 obtain⟨x1,c1⟩:=p1
 simp only at k1 k2
 generalize pickC_ b [0,1,2,2,6,8,10,12,9,x1] c1=p2 at k2
 obtain⟨x2,c2⟩:=p2
 simp only at k2
 refine Con.of Tryz.func190 J Tryz.ntmps190 J (fun E => ?_)
 refine Wz [36,37] ?_;refine X6 (lo := [_]) (gs := [(0,.c (.ptr 0 0))]) (lo' := [_]) (new := []) [0] [(0,0,.ptr 0 0)] (k1) J J J J J J J J J J J J J J J J J ?_;refine V6 (Kb J J J J J J) J ?_;refine AL.weak (Wk.sbrow (q:=2) J J (Gqq J)) ?_;refine AL.freeze (p:=2) J ?_;refine AL.weak (st':=(⟨_,[(3,.o (.c (.ptr 0 0))),(6,.o (.c (.rd [] (sl [0,1,2,2,6,8,10,12,9,x1]))))],[cub b c1,.gh 0 (.c (.ptr 0 0))]⟩:St)) (Gs [0,1]) ?_;refine X6 (lo := [_]) (gs := [(0,.c (.ptr 0 0))]) (lo' := [_]) (new := []) [0] [(0,0,.ptr 0 0)] (k2) J J J J J J J J J J J J J J J J J ?_;refine Wz [19] ?_
 exact Gq J (Gr [0,1] J J J)
theorem S_l02Row (b:List UInt8) (n:Nat) (c:Cu) (hb:b.length≤1048576) (hc:c.i≤b.length) (hn:n≤1000):Con Tryz.prog 116 [cub b c,.gh 0 (.c (.ptr 0 0))] [.c (.ptr 0 0),ai n] [cub b (rowC b n c).2,.gh 0 (.c (.ptr 0 0)),.row 1 (els (rowC b n c).1)] (.o (.c (.ref 2))):=by
 refine Con.of Tryz.func116 J Tryz.ntmps116 J (fun E => ?_)
 refine Wz [36,1,179,23,33] ?_;refine Xi (fun m st=>∃ k:Nat,k+m=n∧(True)∧st=(⟨_,[(0,.o (.c (.ptr 0 0))),(1,I n),(5,.o (.c (.ref 2)))],[cub b (rowC b k c).2,.gh 0 (.c (.ptr 0 0)),.row 1 (els (rowC b k c).1)]⟩:St)) (n) ⟨_,⟨0,by omega,trivial,J⟩,Gs [0,1,2]⟩ ?_
 rintro m_A _ ⟨k,hk_A,hp_A,rfl⟩
 have hl:=Y9 (rowC b k c).1
 have hl2:=rowC_len (b:=b) (c:=c) k
 by_cases hlt:k<n
 ·have f0:decide (((els (rowC b k c).1).length:Int)<n)=true:=Gqb (by omega)
  have k1:=S_l02Input b (rowC b k c).2 hb (rowC_ok hc k)
  refine Wz [25,98,0,57,124,22,0] ?_;refine X6 (lo := [_]) (gs := [(0,.c (.ptr 0 0))]) (lo' := [_]) (new := []) [0] [(0,0,.ptr 0 0)] (k1) J J J J J J J J J J J J J J J J J ?_;refine Wz [45,148,127] ?_
  exact⟨n-(k+1),by omega,_,⟨k+1,by omega,trivial,J⟩,(by rw[rowC,Y6]; exact Gs [0,1,2])⟩
 ·have f0:decide (((els (rowC b k c).1).length:Int)<n)=false:=Gqa (by omega)
  have hk:k=n:=by omega
  subst hk
  refine Wz [25,98,0,5,61,10,19] ?_
  exact Gq J (Gr [0,1,2] J J J)
theorem rw3s {a b:Ob} {x y:List T} (h:x=y) : [a,b,Ob.shr x] = [a,b,Ob.shr y]:=by rw[h]
theorem S_l02Rows (b:List UInt8) (n:Nat) (most:Int) (c:Cu) (hb:b.length≤1048576) (hc:c.i≤b.length) (hn:n≤1000) (hm:1≤most∧most≤256):Con Tryz.prog 38 [cub b c,.gh 0 (.c (.ptr 0 0))] [.c (.ptr 0 0),ai n,ai most] [cub b (drawRows b n most c).2,.gh 0 (.c (.ptr 0 0))] (.o (.c (.rd [] (sl (drawRows b n most c).1)))):=by
 have k1:=Yc b most c hb hc (by omega)
 have r1:=Yo (b:=b) (n:=most) (c:=c) (by omega)
 have o1:=Yn (n:=most) hc
 rw[drawRows]
 generalize belowC b most c=p1 at k1 r1 o1
 obtain⟨x1,c1⟩:=p1
 simp only at k1 r1 o1
 obtain⟨N0,rfl⟩:∃ N0:Nat,x1=N0:=⟨x1.toNat,by omega⟩
 simp only[Int.toNat_natCast]
 refine Con.of Tryz.func38 J Tryz.ntmps38 J (fun E => ?_)
 refine Wz [36,1,179,52,0] ?_;refine AL.weak (Wk.toshr (p:=2) J) ?_;refine AL.weak (st':=(⟨_,[(0,.o (.c (.ptr 0 0))),(1,I n),(2,I most),(7,.o (.c (.ref 2))),(12,.o (.c (.ptr 0 0))),(13,I most)],[cub b c,.gh 0 (.c (.ptr 0 0)),.shr []]⟩:St)) (Gs [0,1,2]) ?_;refine X6 (lo := [_]) (gs := [(0,.c (.ptr 0 0))]) (lo' := [_]) (new := []) [0] [(0,0,.ptr 0 0)] (k1) J J J J J J J J J J J J J J J J J ?_;refine Wz [11,33] ?_;refine Xi (fun m st=>∃ k:Nat,k+m=N0∧(True)∧st=(⟨_,[(0,.o (.c (.ptr 0 0))),(1,I n),(7,.o (.c (.ref 2))),(8,I ((N0:Int)-k))],[cub b (rowsC b n k c1).2,.gh 0 (.c (.ptr 0 0)),.shr ((rowsC b n k c1).1.map sl)]⟩:St)) (N0) ⟨(fun k:Nat=>(⟨_,[(0,.o (.c (.ptr 0 0))),(1,I n),(7,.o (.c (.ref 2))),(8,I ((N0:Int)-k))],[cub b (rowsC b n k c1).2,.gh 0 (.c (.ptr 0 0)),.shr ((rowsC b n k c1).1.map sl)]⟩:St)) 0,⟨0,by omega,trivial,J⟩,Gp [0,1,2] J (.c J (.c J (.c J (.cons (Xz (by omega)) (.nil)))))⟩ ?_
 rintro m_A _ ⟨k,hk_A,hp_A,rfl⟩
 by_cases hlt:k<N0
 ·have f0:decide ((N0:Int)-k>0)=true:=Gqb (by omega)
  have f1:decide (0<(N0:Int)-k)=true:=Gqb (by omega)
  have k2:=S_l02Row b n (rowsC b n k c1).2 hb (rowsC_ok o1 k) hn
  have k3:=Yc b 4 (rowC b n (rowsC b n k c1).2).2 hb (rowC_ok (rowsC_ok o1 k) n) (by omega)
  have r3:=Yo (b:=b) (n:=4) (c:=(rowC b n (rowsC b n k c1).2).2) (by omega)
  have hnext:rowsC b n (k+1) c1=((rowsC b n k c1).1++List.replicate ((belowC b 4 (rowC b n (rowsC b n k c1).2).2).1.toNat+1) (rowC b n (rowsC b n k c1).2).1,(belowC b 4 (rowC b n (rowsC b n k c1).2).2).2):=rfl
  have hlk:=rowsC_len (b:=b) (n:=n) (c:=c1) k
  generalize belowC b 4 (rowC b n (rowsC b n k c1).2).2=p3 at k3 r3 hnext
  obtain⟨x3,c3⟩:=p3
  generalize rowC b n (rowsC b n k c1).2=p2 at k2 k3 hnext
  obtain⟨row,c2⟩:=p2
  simp only at k2 k3 r3 hnext
  obtain⟨q,rfl⟩:∃ q:Nat,x3=q:=⟨x3.toNat,by omega⟩
  simp only[Int.toNat_natCast] at hnext
  refine Wz [25,172,15,123] ?_;refine X6 (lo := [_]) (gs := [(0,.c (.ptr 0 0))]) (lo' := [_]) (new := [_]) [0] [(0,0,.ptr 0 0)] (k2) J J J J J J J J J J J J J J J J J ?_;refine Wz [32] ?_;refine AL.freeze (p:=3) J ?_;refine AL.weak (st':=(⟨_,[(0,.o (.c (.ptr 0 0))),(22,.o (.c (.ptr 0 0))),(1,I n),(7,.o (.c (.ref 2))),(8,I ((N0:Int)-k)),(9,.o (.c (.rd [] (sl row))))],[cub b c2,.gh 0 (.c (.ptr 0 0)),.shr ((rowsC b n k c1).1.map sl)]⟩:St)) (Gs [0,1,2]) ?_;refine X6 (lo := [_]) (gs := [(0,.c (.ptr 0 0))]) (lo' := [_]) (new := []) [0] [(0,0,.ptr 0 0)] (k3) J J J J J J J J J J J J J J J J J ?_;refine Wz [11,33] ?_;refine Xi (fun m st=>∃ i:Nat,i+m=(q+1)∧(True)∧st=(⟨_,[(0,.o (.c (.ptr 0 0))),(1,I n),(7,.o (.c (.ref 2))),(8,I ((N0:Int)-k)),(9,.o (.c (.rd [] (sl row)))),(10,I ((q:Int)-i))],[cub b c3,.gh 0 (.c (.ptr 0 0)),.shr ((rowsC b n k c1).1.map sl++List.replicate i (sl row))]⟩:St)) ((q+1)) ⟨(fun i:Nat=>(⟨_,[(0,.o (.c (.ptr 0 0))),(1,I n),(7,.o (.c (.ref 2))),(8,I ((N0:Int)-k)),(9,.o (.c (.rd [] (sl row)))),(10,I ((q:Int)-i))],[cub b c3,.gh 0 (.c (.ptr 0 0)),.shr ((rowsC b n k c1).1.map sl++List.replicate i (sl row))]⟩:St)) 0,⟨0,by omega,trivial,J⟩,Yg [0,1,2] (by decide) J (rw3s (by simp)) (.c J (.c J (.c J (.c J (.c J (.cons (Xz (by omega)) (.nil)))))))⟩ ?_
  rintro m_B _ ⟨i,hk_B,hp_B,rfl⟩
  by_cases hli:i<q+1
  ·have g0:decide ((q:Int)-i≥0)=true:=Gqb (by omega)
   have g1:decide (0≤(q:Int)-i)=true:=Gqb (by omega)
   have hll:((rowsC b n k c1).1.map sl++List.replicate i (sl row)).length=(rowsC b n k c1).1.length+i:=by simp
   refine Wz [25,132,15,26,22,0,45] ?_;refine L_appshr J J J J J J (by omega) (by omega) J ?_;refine Wz [127,22,71,11] ?_
   exact⟨(q+1)-(i+1),by omega,(fun i:Nat=>(⟨_,[(0,.o (.c (.ptr 0 0))),(1,I n),(7,.o (.c (.ref 2))),(8,I ((N0:Int)-k)),(9,.o (.c (.rd [] (sl row)))),(10,I ((q:Int)-i))],[cub b c3,.gh 0 (.c (.ptr 0 0)),.shr ((rowsC b n k c1).1.map sl++List.replicate i (sl row))]⟩:St)) (i+1),⟨i+1,by omega,trivial,J⟩,Yg [0,1,2] (by decide) J (rw3s (by rw[Gqn,←List.replicate_succ'])) (.c J (.c J (.c J (.c J (.c J (.cons (Xz (by omega)) (.nil)))))))⟩
  ·have g0:decide ((q:Int)-i≥0)=false:=Gqa (by omega)
   have g1:decide (0≤(q:Int)-i)=false:=Gqa (by omega)
   have hi:i=q+1:=by omega
   subst hi
   refine Wz [25,132,97,162,163,204,22,71,11] ?_
   exact⟨N0-(k+1),by omega,(fun k:Nat=>(⟨_,[(0,.o (.c (.ptr 0 0))),(1,I n),(7,.o (.c (.ref 2))),(8,I ((N0:Int)-k))],[cub b (rowsC b n k c1).2,.gh 0 (.c (.ptr 0 0)),.shr ((rowsC b n k c1).1.map sl)]⟩:St)) (k+1),⟨k+1,by omega,trivial,J⟩,Yg [0,1,2] (by decide) J ((by rw[hnext,List.map_append,List.map_replicate]; rfl)) (.c J (.c J (.c J (.cons (Xz (by omega)) (.nil)))))⟩
 ·have f0:decide ((N0:Int)-k>0)=false:=Gqa (by omega)
  have f1:decide (0<(N0:Int)-k)=false:=Gqa (by omega)
  have hk:k=N0:=by omega
  subst hk
  have hsl:T.sl 1 (((rowsC b n k c1).1.map sl).map fun t => [t])=sl (rowsC b n k c1).1:=by rw[List.map_map]; rfl
  refine AWP.freezeS (p:=2) J ?_
  rw[hsl]
  refine AWP.pre (st':=(⟨_,[(0,.o (.c (.ptr 0 0))),(7,.o (.c (.rd [] (sl (rowsC b n k c1).1)))),(8,I ((k:Int)-k))],[cub b (rowsC b n k c1).2,.gh 0 (.c (.ptr 0 0))]⟩:St)) ?_ (Gs [0,1])
  refine Wz [25,172,61,10,19] ?_
  exact Gq J (Gr [0,1] J J J)
end
section
open Go.RowKit

/-! ### The cursor's start -/
def hashK (b:List UInt8):Nat→Int
 |0=>33153+(b.length:Int)
 |k+1=>(((hashK b k*131+((b.getD k 0).toNat:Int)+7).toNat &&& (1073741823:Int).toNat:Nat):Int)
theorem hashK_rng {b:List UInt8} (hb:b.length≤1048576):∀ k,0≤hashK b k∧hashK b k≤1073741823
 |0=>by simp only[hashK]; omega
 |k+1=>by
  have:(hashK b k*131+((b.getD k 0).toNat:Int)+7).toNat &&& (1073741823:Int).toNat≤(1073741823:Int).toNat:=Nat.and_le_right
  simp only[hashK]
  omega
def newCu (b:List UInt8):Cu:=⟨0,hashK b (min b.length 4000)⟩
theorem S_l01New (b:List UInt8) (hb:b.length≤1048576):Con Tryz.prog 34 [] [al b] [cub b (newCu b)] (.o (.c (.ptr 0 0))):=by
 have hl:=Y9 b
 refine Con.of Tryz.func34 J Tryz.ntmps34 J (fun E => ?_)
 refine Wz [36,10,21,136,12,63] ?_
 refine Xi (fun m st=>∃ k:Nat,k+m=(min b.length 4000)∧(True)∧st=(⟨_,[(0,L b),(3,I (hashK b k)),(4,I k)],[]⟩:St)) ((min b.length 4000)) ⟨(fun k:Nat=>(⟨_,[(0,L b),(3,I (hashK b k)),(4,I k)],[]⟩:St)) 0,⟨0,by omega,trivial,J⟩,Gp [] J (.c J (.cons (Xz (by rw[hl]; rfl)) (.c J (.nil))))⟩ ?_
 rintro m_A _ ⟨k,hk_A,hp_A,rfl⟩
 have hr:=hashK_rng hb k
 by_cases h1:k<b.length
 ·have f1:decide ((k:Int)<(els b).length)=true:=Gqb (by omega)
  by_cases h2:k<4000
  ·have f2:decide ((k:Int)<4000)=true:=Gqb (by omega)
   have hy:b[k]? = some (b.getD k 0):=by rw[Gqc,Gqd h1]; rfl
   have he:=byte_at hy
   have hy1:((b.getD k 0).toNat:Int)≤255:=by have:=(b.getD k 0).toNat_lt; omega
   have hy0:0≤((b.getD k 0).toNat:Int):=by omega
   refine Wz [24,21,5,8,5,9,15,26,22,67,144,49,166,35,35,193,105] ?_
   exact⟨(min b.length 4000)-(k+1),by omega,(fun k:Nat=>(⟨_,[(0,L b),(3,I (hashK b k)),(4,I k)],[]⟩:St)) (k+1),⟨k+1,by omega,trivial,J⟩,Gp [] J (.c J (.cons (Xz (by rw[hashK])) (.c J (.nil))))⟩
  ·have f2:decide ((k:Int)<4000)=false:=Gqa (by omega)
   have hk:k=min b.length 4000:=by omega
   refine Wz [24,21,5,8,5,9,61,37,151,129,19] ?_
   exact Gq J (Gr [0] J (by rw[newCu,←hk]; rfl) J)
 ·have f1:decide ((k:Int)<(els b).length)=false:=Gqa (by omega)
  have hk:k=min b.length 4000:=by omega
  refine Wz [24,21,5,91,7,61,37,151,129,19] ?_
  exact Gq J (Gr [0] J (by rw[newCu,←hk]; rfl) J)
/-! ### Levels from texts -/
def splitG (s:ByteArray):Nat→List ByteArray×Nat
 |0=>([],0)
 |k+1=>if k=s.size∨byteAt s k=47 then ((splitG s k).1 ++ [s.extract (splitG s k).2 k],k+1) else splitG s k
def parseL (s:ByteArray):TLevel:=⟨(splitG s (s.size+1)).1⟩
theorem splitG_le {s:ByteArray}:∀ k,(splitG s k).2≤k
 |0=>Gqf _
 |k+1=>by
  have:=splitG_le (s:=s) k
  rw[splitG]
  split
  ·exact Gqf _
  ·omega
theorem splitG_len {s:ByteArray}:∀ k,(splitG s k).1.length≤k
 |0=>Gqf _
 |k+1=>by
  have:=splitG_len (s:=s) k
  rw[splitG]
  split
  ·rw[Gqe]; simp; omega
  ·omega
theorem splitG_size {s:ByteArray}:∀ k,∀ r∈(splitG s k).1,r.size≤s.size
 |0,r,hr=>by cases hr
 | k+1,r,hr=>by
  rw[splitG] at hr
  split at hr
  ·rcases Gqm.1 hr with h | h
   ·exact splitG_size k r h
   ·rw[Gq7] at h; subst h; rw[Gxe]; omega
  ·exact splitG_size k r hr
theorem splitG_hit {s:ByteArray} {k:Nat} (h:k=s.size∨byteAt s k=47):splitG s (k+1)=((splitG s k).1 ++ [s.extract (splitG s k).2 k],k+1):=by rw[splitG,if_pos h]
theorem splitG_no {s:ByteArray} {k:Nat} (h:¬(k=s.size∨byteAt s k=47)):splitG s (k+1)=splitG s k:=by rw[splitG,if_neg h]
def pl7A:List (List Nat) := [[],[0],[],[],[],[2,3,4],[2,3,4,5],[0,1,2,3,4,5,6],[0,1,2,3,4,5,6,7],[0,1,2,3,4,5,6,7,8]]
def pl7M:List (List Nat) := [[24,25,26,27,28,29,30,31,32],[24,25,26,27,28,29,30,31,32],[24,25,26,27,28,29,30,31,32],[24,25,26,27,28,29,30,31,32],[24,25,26,27,28,29,30,31,32],[24,25,26,27,28,29,30,31,32],[24,25,26,27,28,29,30,31,32],[24,25,26,27,28,29,30,31,32],[24,25,26,27,28,29,30,31,32],[24,25,26,27,28,29,30,31,32]]
theorem S_ParseLevel (s:ByteArray) (hs:s.size≤1000) (hok:levelOk (parseL s)=true):Con Tryz.prog 110 [] [astr s] [.row 1 (els (parseL s).Rows)] (.tu [.ag [.ref 0],.c (bv true)]):=by
 have hgl:Enc.gd (parseL s):=⟨by have:=splitG_len (s:=s) (s.size+1); show (splitG s (s.size+1)).1.length≤_; omega,fun r hr=>by have:=splitG_size (s:=s) (s.size+1) r hr; show r.size≤_; omega⟩
 have co:=S_LevelOk (parseL s) hgl
 rw[hok] at co
 refine Con.of Tryz.func110 J Tryz.ntmps110 J (fun E => ?_)
 refine Wz [1,90,11,1,151,75,36,12,63] ?_;refine AWP.weak (Wk.nilbox (p:=1) (i:=0) 1 J J) ?_;refine Xi (fun m st=>∃ k:Nat,k+m=(s.size+1)∧(True)∧st=(⟨_,[(0,S s),(2,.o (.c (.ptr 0 0))),(4,.o (.c (.ptr 1 0))),(5,I (splitG s k).2),(6,I k)],[.box [nilV],.box [.ref 2],.row 1 (els (splitG s k).1)]⟩:St)) ((s.size+1)) ⟨_,⟨0,by omega,trivial,J⟩,Gs [0,1,2]⟩ ?_
 rintro m_A _ ⟨k,hk_A,hp_A,rfl⟩
 have hle:=splitG_le (s:=s) k
 have hln:=splitG_len (s:=s) k
 have hll:=Y9 (splitG s k).1
 by_cases hlt:k<s.size+1
 ·have f0:decide ((k:Int)≤s.size)=true:=Gqb (by omega)
  by_cases h1:k=s.size
  ·have f1:decide ((k:Int)=s.size)=true:=Gqb (by omega)
   have hn:=splitG_hit (s:=s) (k:=k) (.inl h1)
   have hm:=congrArg (fun p=>((p.2:Nat):Int)) hn
   refine Wz [50,195,15,123,143,13,20,9,15,12] ?_
   refine A_seqW ⟨40,[(0,S s),(2,.o (.c (.ptr 0 0))),(4,.o (.c (.ptr 1 0))),(5,I (splitG s k).2),(6,I k)],[.box [nilV],.box [.ref 2],.row 1 (els (splitG s k).1++els [s.extract (splitG s k).2 k])]⟩ ?_ ?_
   ·
    refine A_drawn (f:=10) J J ?_;refine DAL.fld pl7A [] pl7M 0 _ 24 (by kernel_rfl) J J J J J J (by decide) ?_;refine DAL.mv pl7A [] pl7M 2 _ 26 (by kernel_rfl) J J J J ?_;refine DAL.mv pl7A [] pl7M 3 _ 27 (by kernel_rfl) J J J J ?_;refine DAL.mv pl7A [] pl7M 4 _ 28 (by kernel_rfl) J J J J ?_
    refine DAL.two 1 5 (by kernel_rfl) J J ?_ ?_
    ·
     refine Wz [160,2,298,200,2,285,45,2,246,148,2] ?_;refine DAL.fld pl7A [] pl7M 8 _ 32 (by kernel_rfl) J J J J J J (by decide) ?_;refine Wz [247,180,2] ?_
     refine DAL.nil (by kernel_rfl) (Q0 ?_)
     exact Gs [0,1,2]
    ·
     refine Wz [200,2] ?_
     refine DAL.two 1 6 (by kernel_rfl) J J ?_ ?_
     ·
      refine Wz [160,2,285,45,2,246,148,2] ?_;refine DAL.fld pl7A [] pl7M 8 _ 32 (by kernel_rfl) J J J J J J (by decide) ?_;refine Wz [247,180,2] ?_
      refine DAL.nil (by kernel_rfl) (Q0 ?_)
      exact Gs [0,1,2]
     ·
      refine Wz [45,2] ?_;refine Ga 1 J ?_;refine Wz [160,2,246,148,2] ?_;refine DAL.fld pl7A [] pl7M 8 _ 32 (by kernel_rfl) J J J J J J (by decide) ?_;refine Wz [247,180,2] ?_
      refine DAL.nil (by kernel_rfl) (Q0 ?_)
      exact Gs [0,1,2]
   refine Wz [22,35,105] ?_
   exact⟨(s.size+1)-(k+1),by omega,(fun k:Nat=>(⟨_,[(0,S s),(2,.o (.c (.ptr 0 0))),(4,.o (.c (.ptr 1 0))),(5,I (splitG s k).2),(6,I k)],[.box [nilV],.box [.ref 2],.row 1 (els (splitG s k).1)]⟩:St)) (k+1),⟨k+1,by omega,trivial,J⟩,Yg [0,1,2] (by decide) J ((by rw[hn,Y6]; rfl)) (.c J (.c J (.c J (.cons (Xz hm.symm) (.c J (.nil))))))⟩
  ·have f1:decide ((k:Int)=s.size)=false:=Gqa (by omega)
   by_cases h2:byteAt s k=47
   ·have f2:decide (byteAt s k=47)=true:=Gqb h2
    have hn:=splitG_hit (s:=s) (k:=k) (.inr h2)
    have hm:=congrArg (fun p=>((p.2:Nat):Int)) hn
    refine Wz [50,195,15,123,143,13,69,139,3,236,7,15,12] ?_
    refine A_seqW ⟨40,[(0,S s),(2,.o (.c (.ptr 0 0))),(4,.o (.c (.ptr 1 0))),(5,I (splitG s k).2),(6,I k)],[.box [nilV],.box [.ref 2],.row 1 (els (splitG s k).1++els [s.extract (splitG s k).2 k])]⟩ ?_ ?_
    ·
     refine A_drawn (f:=10) J J ?_;refine DAL.fld pl7A [] pl7M 0 _ 24 (by kernel_rfl) J J J J J J (by decide) ?_;refine DAL.mv pl7A [] pl7M 2 _ 26 (by kernel_rfl) J J J J ?_;refine DAL.mv pl7A [] pl7M 3 _ 27 (by kernel_rfl) J J J J ?_;refine DAL.mv pl7A [] pl7M 4 _ 28 (by kernel_rfl) J J J J ?_
     refine DAL.two 1 5 (by kernel_rfl) J J ?_ ?_
     ·
      refine Wz [160,2,298,200,2,285,45,2,246,148,2] ?_;refine DAL.fld pl7A [] pl7M 8 _ 32 (by kernel_rfl) J J J J J J (by decide) ?_;refine Wz [247,180,2] ?_
      refine DAL.nil (by kernel_rfl) (Q0 ?_)
      exact Gs [0,1,2]
     ·
      refine Wz [200,2] ?_
      refine DAL.two 1 6 (by kernel_rfl) J J ?_ ?_
      ·
       refine Wz [160,2,285,45,2,246,148,2] ?_;refine DAL.fld pl7A [] pl7M 8 _ 32 (by kernel_rfl) J J J J J J (by decide) ?_;refine Wz [247,180,2] ?_
       refine DAL.nil (by kernel_rfl) (Q0 ?_)
       exact Gs [0,1,2]
      ·
       refine Wz [45,2] ?_;refine Ga 1 J ?_;refine Wz [160,2,246,148,2] ?_;refine DAL.fld pl7A [] pl7M 8 _ 32 (by kernel_rfl) J J J J J J (by decide) ?_;refine Wz [247,180,2] ?_
       refine DAL.nil (by kernel_rfl) (Q0 ?_)
       exact Gs [0,1,2]
    refine Wz [22,35,105] ?_
    exact⟨(s.size+1)-(k+1),by omega,(fun k:Nat=>(⟨_,[(0,S s),(2,.o (.c (.ptr 0 0))),(4,.o (.c (.ptr 1 0))),(5,I (splitG s k).2),(6,I k)],[.box [nilV],.box [.ref 2],.row 1 (els (splitG s k).1)]⟩:St)) (k+1),⟨k+1,by omega,trivial,J⟩,Yg [0,1,2] (by decide) J ((by rw[hn,Y6]; rfl)) (.c J (.c J (.c J (.cons (Xz hm.symm) (.c J (.nil))))))⟩
   ·have f2:decide (byteAt s k=47)=false:=Gqa h2
    have hn:=splitG_no (s:=s) (k:=k) (by rintro (h | h); exact h1 h; exact h2 h)
    have hm:=congrArg (fun p=>((p.2:Nat):Int)) hn
    refine Wz [50,195,15,123,143,13,69,137,3,13,7,62,43] ?_
    exact⟨(s.size+1)-(k+1),by omega,(fun k:Nat=>(⟨_,[(0,S s),(2,.o (.c (.ptr 0 0))),(4,.o (.c (.ptr 1 0))),(5,I (splitG s k).2),(6,I k)],[.box [nilV],.box [.ref 2],.row 1 (els (splitG s k).1)]⟩:St)) (k+1),⟨k+1,by omega,trivial,J⟩,Yg [0,1,2] (by decide) J ((by rw[hn]; rfl)) (.c J (.c J (.c J (.cons (Xz hm.symm) (.c J (.nil))))))⟩
 ·have f0:decide ((k:Int)≤s.size)=false:=Gqa (by omega)
  have hk:k=s.size+1:=by omega
  subst hk
  refine Wz [50,195,61,102] ?_;refine zx (Qj J J (co) J) J ?_;refine Wz [16,38,6,115] ?_
  exact G4 J J (Gr [2] J J J)
end
section
open Go.RowKit

/-! ### The levels of a draw -/
def lvS:List ByteArray := [⟨#[35,35,35,35,35,35,47,35,49,46,111,50,35,47,35,46,35,35,46,35,47,35,111,46,46,111,35,47,35,35,35,35,35,35]⟩,⟨#[35,35,35,35,35,35,35,35,35,35,47,35,49,46,46,111,46,46,46,50,35,47,35,46,46,35,35,46,35,35,46,35,47,35,111,46,46,51,46,46,111,52,35,47,35,35,35,35,35,35,35,35,35,35]⟩,⟨#[35,35,35,35,47,35,46,46,35,47,35,35,35,35]⟩,⟨#[35,35,35,35,35,35,35,35,47,35,49,46,50,46,111,111,35,47,35,35,35,35,35,35,35,35]⟩,⟨#[35,35,35,35,35,35,35,47,35,46,46,111,46,46,35,47,35,46,35,35,35,46,35,47,35,46,49,46,50,46,35,47,35,35,35,35,35,35,35]⟩]
def lvT (i:Nat):ByteArray:=lvS.getD i ⟨#[]⟩
theorem lv_ok:∀ i,i<5→levelOk (parseL (lvT i))=true∧(lvT i).size≤1000:=by
 intro i hi
 match i,hi with
 |0,_=>exact⟨by kernel_rfl,by decide⟩
 |1,_=>exact⟨by kernel_rfl,by decide⟩
 |2,_=>exact⟨by kernel_rfl,by decide⟩
 |3,_=>exact⟨by kernel_rfl,by decide⟩
 |4,_=>exact⟨by kernel_rfl,by decide⟩
theorem S_l02Levels:Con Tryz.prog 111 [] [] [.row 1 (els lvS)] (.o (.c (.ref 0))):=by
 refine Con.of Tryz.func111 J Tryz.ntmps111 J (fun E => ?_)
 refine Wz [36,1,45,19] ?_
 exact Gq J (W_pre (Wk.sbrow (q:=0) J J (Gqq J)) (Gr [0] J J J))
def levelC (b:List UInt8) (c:Cu):TLevel×Cu:=(parseL (lvT (belowC b 5 c).1.toNat),(belowC b 5 c).2)
theorem S_l02Level (b:List UInt8) (c:Cu) (hb:b.length≤1048576) (hc:c.i≤b.length):Con Tryz.prog 35 [cub b c,.gh 0 (.c (.ptr 0 0))] [.c (.ptr 0 0)] [cub b (levelC b c).2,.gh 0 (.c (.ptr 0 0)),.row 1 (els (levelC b c).1.Rows)] (.o (.ag [.ref 2])):=by
 have k1:=Yc b 5 c hb hc (by omega)
 have r1:=Yo (b:=b) (n:=5) (c:=c) (by omega)
 have hl:=lv_ok (belowC b 5 c).1.toNat (by omega)
 have k2:=S_ParseLevel (lvT (belowC b 5 c).1.toNat) hl.2 hl.1
 have k3:=S_l02Levels
 rw[levelC]
 generalize belowC b 5 c=p1 at k1 r1 hl k2
 obtain⟨x1,c1⟩:=p1
 simp only at k1 r1 hl k2
 obtain⟨i,rfl⟩:∃ i:Nat,x1=i:=⟨x1.toNat,by omega⟩
 have hi:i<lvS.length:=by show i<5; omega
 have he:(els lvS)[(i:Int).toNat]? = some [.v (.string (lvT i))]:=by
  rw[Int.toNat_natCast,Gqh,Gqd hi,lvT,Gqc,Gqd hi]; rfl
 rw[Int.toNat_natCast] at k2
 have hll:(els lvS).length=5:=rfl
 refine Con.of Tryz.func35 J Tryz.ntmps35 J (fun E => ?_)
 refine Wz [1,90,2,1] ?_;refine V6 (Kh J J (k3) J J J) J ?_;refine z0 J ?_;refine X6 (lo := [_]) (gs := [(0,.c (.ptr 0 0))]) (lo' := [_]) (new := []) [0] [(0,0,.ptr 0 0)] (k1) J J J J J J J J J J J J J J J J J ?_;refine Wz [41,70] ?_;refine V6 (Kh J J (k2) J J J) J ?_;refine Wz [228,11,6,126,145] ?_
 exact Xl J J J J (Gr [0,1,4] J J J)
/-! ### Plays -/
theorem splitG_ok {s:ByteArray} (h:s.size≤1000):Enc.gd (parseL s)∧(parseL s).Rows.length≤1001:=by
 have h1:=splitG_len (s:=s) (s.size+1)
 exact⟨⟨by show (splitG s (s.size+1)).1.length≤_; omega,fun r hr=>by have:=splitG_size (s:=s) (s.size+1) r hr; show r.size≤_; omega⟩,by show (splitG s (s.size+1)).1.length≤_; omega⟩
end
section
open Go.RowKit

theorem L_big (b:List UInt8):Con Tryz.prog 6 [] [al b] [] (B (decide (b.length>1048576))):=by
 have hl:=Y9 b
 refine Con.of Tryz.func6 J Tryz.ntmps6 J (fun E => ?_)
 refine Wz [36,10,21,248,19] ?_
 exact Gq J (Gr [] J J (Xj (by rw[hl]; exact decide_eq_decide.2 (by omega))))
def atM (b:List UInt8) (i:Int):Int:=if b.length=0 then 0 else ((b.getD ((i*5+1)%(b.length:Int)).toNat 0).toNat:Int)
theorem atM_rng (b:List UInt8) (i:Int):0≤atM b i∧atM b i≤255:=by
 unfold atM
 split
 ·omega
 ·have:=(b.getD ((i*5+1)%(b.length:Int)).toNat 0).toNat_lt; omega
theorem L_at (b:List UInt8) (i:Int) (hi:0≤i∧i≤1000000) (hb:b.length≤1048576):Con Tryz.prog 8 [] [al b,ai i] [] (I (atM b i)):=by
 have hl:=Y9 b
 by_cases h0:b.length=0
 ·have f0:decide (((els b).length:Int)=0)=true:=Gqb (by omega)
  rw[atM,if_pos h0]
  refine Con.of Tryz.func8 J Tryz.ntmps8 J (fun E => ?_)
  refine Wz [94,21,13,28,31] ?_
  exact Gq J (Gr [] J J J)
 ·have f0:decide (((els b).length:Int)=0)=false:=Gqa (by omega)
  have hm:0≤(i*5+1)%((els b).length:Int)∧(i*5+1)%((els b).length:Int)<((els b).length:Int):=⟨Int.emod_nonneg _ (by omega),Int.emod_lt_of_pos _ (by omega)⟩
  rw[atM,if_neg h0]
  rw[hl] at hm
  have hk:((i*5+1)%(b.length:Int)).toNat<b.length:=by omega
  have hy:b[((i*5+1)%(b.length:Int)).toNat]? = some (b.getD ((i*5+1)%(b.length:Int)).toNat 0):=by rw[Gqc,Gqd hk]; rfl
  have he:=byte_at hy
  rw[Int.toNat_natCast,←hl] at he
  rw[←hl] at hm ⊢
  generalize b.getD ((i*5+1)%((els b).length:Int)).toNat 0=y at he ⊢
  have hy1:(y.toNat:Int)≤255:=by have:=y.toNat_lt; omega
  have hy0:0≤(y.toNat:Int):=by omega
  refine Con.of Tryz.func8 J Tryz.ntmps8 J (fun E => ?_)
  refine Wz [94,21,13,86,67,35,0,21,111,49,166,19] ?_
  exact Gq J (Gr [] J J J)
theorem gd_rows {rows:List (List Int)} {n:Nat} (hL:rows.length≤1000) (hn:n≤1000) (h:∀ r∈rows,r.length=n∧∀ x∈r,0≤x∧x≤15):Enc.gd rows:=by
 refine⟨by omega,fun r hr => ?_⟩
 obtain⟨h1,h2⟩:=h r hr
 exact⟨by omega,fun x hx=>by have:=h2 x hx; exact⟨by omega,by omega⟩⟩
/-! ### Lockstep worlds -/
section
variable {l:TLevel} {n:Nat} {seed:Int} {e:Nat} {rows:List (List Int)}
end
end
end Go.Proofs.YtpmacgnmlmmojaaGreatDoor
