/-
  Rules, data and contracts of functions: part 13 of the proof.
  Conditions: those that each theorem names.
-/
import Derived.Laws.IdiomStrings
import Derived.Test.YtalaljeokcpfnaaGreatDDPlayRowk11
set_option linter.unusedSimpArgs false
set_option linter.unusedVariables false
namespace Go.Proofs.YtalaljeokcpfnaaGreat
section
open Go.RowKit

def byteAt (s:ByteArray) (i:Nat):Int:=((s[i]?).map fun b=>(b.toNat:Int)).getD 0
theorem Yy (s:ByteArray) (i:Nat):0≤byteAt s i∧byteAt s i≤255:=by
 unfold byteAt
 cases s[i]? with
 |none=>simp
 |some b=>have:=b.toNat_lt; simp; omega

section
variable {P:Program} {E:Env} {ops:Array Oper} {o:Oper} {st:St} {n:Nat} {rest:List Oper} {QQ:Exit→St→Prop} {y z u:Operand} {t t':TypeId} {k:IntKind} {i j:Int} {ps qs rs:List Nat} {s:ByteArray}

theorem Kp [hs:TyStr P t] (ho:o.op = .index t y z) (hg:o.guard=none) (hy:st.ev y = .o (.c (.rd ps (.v (.string s))))) (hz:st.ev z = .o (.c (.rd qs (.v (.int k i))))) (h0:0≤i∧i<s.size):Qt P ops o st (VI .u8 (byteAt s i.toNat)) [] n:=by
 have h1:i.toNat<s.size:=Aqa
 have h2:s[i.toNat]? = some s[i.toNat]:=by simp[h1]
 have h3:byteAt s i.toNat=(s[i.toNat].toNat:Int):=by simp[byteAt,h2]
 rw[h3]
 exact q_index ho hg hy hz h0.1 h2
theorem Kq {b:Int} [hs:TyStr P t] (ho:o.op = .index t y z) (hg:o.guard=none) (hy:st.ev y = .o (.c (.rd ps (.v (.string s))))) (hz:st.ev z = .o (.c (.rd qs (.v (.int k i))))) (hb:byteAt s i.toNat=b) (h0:0≤i∧i<s.size):Qt P ops o st (VI .u8 b) [] n:=hb▸Kp ho hg hy hz h0

/-! ### Parts of strings -/
theorem Vp [hs:TyStr P t] (ho:o.op = .slice t y (some z) (some u) none) (hg:o.guard=none) (hy:st.ev y = .o (.c (.rd ps (.v (.string s))))) (hz:st.ev z = .o (.c (.rd qs (.v (.int .i64 i))))) (hu:st.ev u = .o (.c (.rd rs (.v (.int .i64 j))))) (h0:0≤i∧i≤j∧j≤s.size) :
  Qt P ops o st (S (s.extract i.toNat j.toNat)) [] n :=
 .pure hg fun a w H F hr=>⟨.string (s.extract i.toNat j.toNat),by
  have h1:=hr.plain hy
  have h2:=hr.plain hz
  have h3:=hr.plain hu
  have h4:0≤j∧j≤(s.size:Int):=Aqa
  have h5:0≤i∧i≤(j.toNat:Int):=Aqa
  simp[execOp,ho,h1,h2,h3,Instr.sliceAt,Instr.slice,Instr.sliceBounds,Instr.sliceBound,asIntOf,run_underlying hs.str,h4,h5] <;> (intro h9; omega),plainV _ rfl⟩
theorem Vq [hs:TyStr P t] (ho:o.op = .slice t y (some z) none none) (hg:o.guard=none) (hy:st.ev y = .o (.c (.rd ps (.v (.string s))))) (hz:st.ev z = .o (.c (.rd qs (.v (.int .i64 i))))) (h0:0≤i∧i≤s.size) :
  Qt P ops o st (S (s.extract i.toNat s.size)) [] n :=
 .pure hg fun a w H F hr=>⟨.string (s.extract i.toNat s.size),by
  have h1:=hr.plain hy
  have h2:=hr.plain hz
  simp[execOp,ho,h1,h2,Instr.sliceAt,Instr.slice,Instr.sliceBounds,Instr.sliceBound,asIntOf,run_underlying hs.str,h0],plainV _ rfl⟩

/-! ### Parts of slices -/
theorem RO.part {w:World} {F:Nat→Prop} {kk:Nat} {es:List (List T)} {A:Option Addr} {m c l h:Nat} (hr:RO w F (.sl kk es) (.slice A m c)) (hl:l≤h) (hh:h≤m):RO w F (.sl kk ((es.take h).drop l)) (.slice (if c=l then A else A.map (·.add (l*kk))) (h-l) (c-l)):=by
 cases hr with
 |nil _ _ _ hm =>
  have h0:h=0:=by simpa using hh
  have l0:l=0:=Aqa
  subst h0 l0
  simpa using RO.nil (F:=F) (if c=0 then A else A.map (·.add (0*kk))) kk c hm
 | sl _ b o _ _ val hF hc hm hp hk hv ht =>
  have hlen:((es.take h).drop l).length=h-l:=Bqz
  by_cases he:h-l=0
  ·have h1:(es.take h).drop l = []:=List.eq_nil_of_length_eq_zero Aqa 
   rw[h1,he]
   exact .nil _ _ _ Aqa 
  ·have hcl:¬c=l:=Aqa
   have hm':=RO.sl (w:=w) (F:=F) ((es.take h).drop l) b (o+l*kk) kk (c-l) (fun i j=>val (l+i) j) hF (by rw[hlen]; omega) Aqa hp (fun e he=>hk e (Gxt (Gxj he))) (fun i j hi hj=>?_) (fun i j e t h1 h2=>?_)
   ·rw[hlen] at hm'
    rw[if_neg hcl]
    simp only[Gq1,add_lit]
    exact hm'
   ·rw[hlen] at hi
    have:=hv (l+i) j Aqa hj
    rwa[show o+(l+i)*kk+j=o+l*kk+i*kk+j by rw[Nat.add_mul]; omega] at this
   ·rw[Gq7,Gxh] at h1
    split at h1
    ·exact ht (l+i) j e t h1 h2
    ·cases h1

def loIs:Option Int→Nat→Prop
 |some i,l=>0≤i∧i.toNat=l
 |none,l=>l=0
def hiIs:Option Int→Nat→Nat→Prop
 |some j,_,h=>0≤j∧j.toNat=h
 |none,m,h=>h=m
theorem run_slice {P:Program} {w:World} {t e:TypeId} {zs:List Value} {by_:Nat} [hm:TyMake P t e zs by_] {A:Option Addr} {m c:Nat} (lo hi:Option Int) (l h:Nat) (hl:loIs lo l) (hh:hiIs hi m h) (h1:l≤h) (h2:h≤c) :
  (Instr.sliceAt t (.slice A m c) (lo.map (Value.int .i64)) (hi.map (Value.int .i64)) none).run P w = .ok (.slice (if c=l then A else A.map (·.add (l*zs.length))) (h-l) (c-l)) w:=by
 obtain⟨inf,hi',hzz⟩:=Option.map_eq_some_iff.1 hm.info
 simp only[Prod.mk.injEq] at hzz
 obtain⟨hz1,hs,hb1⟩:=hzz
 cases lo with
 | none =>
  have hl:l=0:=hl
  subst hl
  cases hi with
  |none =>
   have hh:h=m:=hh
   subst hh
   simp[Instr.sliceAt,Instr.slice,Instr.sliceBounds,run_underlying hm.slice,sizeOf,typeInfo,hi',hs]
  |some j =>
   obtain⟨g1,g2⟩:=hh
   have g3:0≤j∧j≤(c:Int):=Aqa
   simp[Instr.sliceAt,Instr.slice,Instr.sliceBounds,Instr.sliceBound,asIntOf,run_underlying hm.slice,sizeOf,typeInfo,hi',hs,g3,g2]
 | some i =>
  obtain⟨f1,f2⟩:=hl
  cases hi with
  |none =>
   have hh:h=m:=hh
   subst hh
   have g3:0≤i∧i≤(h:Int):=Aqa
   simp[Instr.sliceAt,Instr.slice,Instr.sliceBounds,Instr.sliceBound,asIntOf,run_underlying hm.slice,sizeOf,typeInfo,hi',hs,g3,f2]
  |some j =>
   obtain⟨g1,g2⟩:=hh
   have g3:0≤j∧j≤(c:Int):=Aqa
   have g4:0≤i∧i≤(j.toNat:Int):=Aqa
   simp[Instr.sliceAt,Instr.slice,Instr.sliceBounds,Instr.sliceBound,asIntOf,run_underlying hm.slice,sizeOf,typeInfo,hi',hs,g3,g4,g2,f2] <;> (intro h9; omega)

section
variable {kk:Nat} {es:List (List T)} {e:TypeId} {zs:List Value} {by_:Nat}
theorem part_run [hm:TyMake P t e zs by_] {lo hi:Option Operand} {vlo vhi:Option Int} {a:Act} {w:World} {H:Hs} {F G:Nat→Prop} (hr:R0 w H F st a) (ho:o.op = .slice t y lo hi none) (hlo:lo.map a.eval=vlo.map (Value.int .i64)) (hhi:hi.map a.eval=vhi.map (Value.int .i64))
  (hy:RO w G (.sl kk es) (a.eval y)) (hkz:kk=zs.length) (l h:Nat) (hl:loIs vlo l) (hh:hiIs vhi es.length h) (h1:l≤h) (h2:h≤es.length) :
  ∃ v,(execOp a.eval o).run P w = .ok (.value v) w∧RO w G (.sl kk ((es.take h).drop l)) v:=by
 obtain⟨A,c,hv,hc,_⟩:=hy.form
 rw[hv] at hy
 refine⟨_,?_,RO.part hy h1 h2⟩
 have hrun:=run_slice (P:=P) (w:=w) (t:=t) (e:=e) (zs:=zs) (by_:=by_) (A:=A) vlo vhi l h hl hh h1 (show h≤c by omega)
 rw[←hkz] at hrun
 unfold execOp
 simp only[ho,hlo,hhi,hv,Option.map_none,Sem.run_bind,hrun,Result.andThen_ok]
 rfl
theorem q_part [hm:TyMake P t e zs by_] (ho:o.op = .slice t y (some z) (some u) none) (hg:o.guard=none) (hy:st.ev y = .o (.c (.rd ps (.sl kk es)))) (hz:st.ev z = .o (.c (.rd qs (.v (.int .i64 i))))) (hu:st.ev u = .o (.c (.rd rs (.v (.int .i64 j))))) (hkz:kk=zs.length) (h0:0≤i∧i≤j∧j≤es.length) :
  Qt P ops o st (.o (.c (.rd ps (.sl kk ((es.take j.toNat).drop i.toNat))))) [] n :=
 .pure hg fun a w H F hr=>part_run (vlo:=some i) (vhi:=some j) hr ho (by simp[hr.plain hz]) (by simp[hr.plain hu]) (hr.v1 hy) hkz i.toNat j.toNat ⟨Aqa,rfl⟩ ⟨Aqa,rfl⟩ Aqa Aqa 
theorem q_part0 [hm:TyMake P t e zs by_] (ho:o.op = .slice t y none (some u) none) (hg:o.guard=none) (hy:st.ev y = .o (.c (.rd ps (.sl kk es)))) (hu:st.ev u = .o (.c (.rd rs (.v (.int .i64 j))))) (hkz:kk=zs.length) (h0:0≤j∧j≤es.length) :
  Qt P ops o st (.o (.c (.rd ps (.sl kk (es.take j.toNat))))) [] n :=
 .pure hg fun a w H F hr=>part_run (vlo:=none) (vhi:=some j) hr ho rfl (by simp[hr.plain hu]) (hr.v1 hy) hkz 0 j.toNat rfl ⟨Aqa,rfl⟩ Aqa Aqa 
theorem own_ro {p:Nat} {a:Act} {w:World} {H:Hs} {F:Nat→Prop} (hr:R0 w H F st a) (hy:st.ev y = .o (.c (.ref p))) (hp:st.objs[p]? = some (.row kk es)):RO w (inP H F [p]) (.sl kk es) (a.eval y):=by
 obtain⟨v,fp,e1,e2⟩:=hr.ow hp
 obtain⟨x,fp',e3⟩:=hr.v1 hy
 rw[e1] at e3
 simp only[Pc.ow.injEq] at e3
 rw[←e3.2.1]
 exact e2.ro.weak fun b hb _ => .inr ⟨p,Aqd,_,_,_,e1,hb⟩
theorem q_partr {p:Nat} [hm:TyMake P t e zs by_] (ho:o.op = .slice t y (some z) (some u) none) (hg:o.guard=none) (hy:st.ev y = .o (.c (.ref p))) (hp:st.objs[p]? = some (.row kk es)) (hz:st.ev z = .o (.c (.rd qs (.v (.int .i64 i))))) (hu:st.ev u = .o (.c (.rd rs (.v (.int .i64 j))))) (hkz:kk=zs.length) (h0:0≤i∧i≤j∧j≤es.length) :
  Qt P ops o st (.o (.c (.rd [p] (.sl kk ((es.take j.toNat).drop i.toNat))))) [] n :=
 .pure hg fun a w H F hr=>part_run (vlo:=some i) (vhi:=some j) hr ho (by simp[hr.plain hz]) (by simp[hr.plain hu]) (own_ro hr hy hp) hkz i.toNat j.toNat ⟨Aqa,rfl⟩ ⟨Aqa,rfl⟩ Aqa Aqa 
theorem q_partr0 {p:Nat} [hm:TyMake P t e zs by_] (ho:o.op = .slice t y none (some u) none) (hg:o.guard=none) (hy:st.ev y = .o (.c (.ref p))) (hp:st.objs[p]? = some (.row kk es)) (hu:st.ev u = .o (.c (.rd rs (.v (.int .i64 j))))) (hkz:kk=zs.length) (h0:0≤j∧j≤es.length) :
  Qt P ops o st (.o (.c (.rd [p] (.sl kk (es.take j.toNat))))) [] n :=
 .pure hg fun a w H F hr=>part_run (vlo:=none) (vhi:=some j) hr ho rfl (by simp[hr.plain hu]) (own_ro hr hy hp) hkz 0 j.toNat rfl ⟨Aqa,rfl⟩ Aqa Aqa 
theorem q_partr1 {p:Nat} [hm:TyMake P t e zs by_] (ho:o.op = .slice t y (some z) none none) (hg:o.guard=none) (hy:st.ev y = .o (.c (.ref p))) (hp:st.objs[p]? = some (.row kk es)) (hz:st.ev z = .o (.c (.rd qs (.v (.int .i64 i))))) (hkz:kk=zs.length) (h0:0≤i∧i≤es.length) :
  Qt P ops o st (.o (.c (.rd [p] (.sl kk (es.drop i.toNat))))) [] n :=
 .pure hg fun a w H F hr=>by
  have:=part_run (P:=P) (vlo:=some i) (vhi:=none) hr ho (by simp[hr.plain hz]) rfl (own_ro hr hy hp) hkz i.toNat es.length ⟨Aqa,rfl⟩ rfl Aqa Aqa 
  rw[Gxs] at this
  exact this
end

/-! ### Arrays and literal slices -/
theorem run_indexAt_arr {P:Program} {w:World} (t:TypeId) (b o m kk:Nat) (k:IntKind) (i:Int) [ha:TyArr P t m kk] (h0:0≤i) (h1:i<m) :
  (Instr.indexAt t (.pointer (some ⟨b,o,none⟩)) (.int k i)).run P w = .ok (.pointer (some ⟨b,o+i.toNat*kk,none⟩)) w:=by
 have h:=ha.arr
 split at h
 ·rename_i n' e hu
  obtain⟨inf,h2,h3⟩:=Option.map_eq_some_iff.1 h
  simp only[Prod.mk.injEq] at h3
  obtain⟨rfl,h4⟩:=h3
  have hc:(0≤i∧i<(n':Int)):=⟨h0,h1⟩
  simp only[Instr.indexAt,asIntOf,Sem.run_bind,Sem.run_pure,Result.andThen_ok,run_underlying hu,Instr.sureAddr]
  rw[if_pos hc]
  simp[sizeOf,typeInfo,h2,h4,add_lit]
 ·cases h
theorem q_aidx {p m N kk:Nat} [TyArr P t N kk] (ho:o.op = .indexAddr t y z) (hg:o.guard=none) (hy:st.ev y = .o (.c (.ptr p m))) (hz:st.ev z = .o (.c (.rd qs (.v (.int k i))))) (h0:0≤i∧i<N):Qt P ops o st (.o (.c (.ptr p (m+i.toNat*kk)))) [] n :=
 .pure hg fun a w H F hr=>by
  obtain⟨g,tt,vs,e1,e2⟩:=hr.v1 hy
  have h2:=hr.plain hz
  refine⟨.pointer (some ⟨g,m+i.toNat*kk,none⟩),?_,g,tt,vs,e1,J⟩
  simp only[execOp,ho,e2,h2,Sem.run_bind,run_indexAt_arr (P:=P) (w:=w) t g m N kk k i h0.1 h0.2,Result.andThen_ok]
  rfl
theorem q_sbat {p N kk:Nat} {e:TypeId} {zs:List Value} {by_:Nat} [hm:TyMake P t e zs by_] (ho:o.op = .indexAddr t y z) (hg:o.guard=none) (hy:st.ev y = .o (.c (.sb p N kk))) (hz:st.ev z = .o (.c (.rd qs (.v (.int k i))))) (h0:0≤i∧i<N):Qt P ops o st (.o (.c (.ptr p (i.toNat*zs.length)))) [] n :=
 .pure hg fun a w H F hr=>by
  obtain⟨g,tt,vs,e1,e2,e3,e4⟩:=hr.v1 hy
  have h2:=hr.plain hz
  refine⟨.pointer (some ⟨g,i.toNat*zs.length,none⟩),?_,g,tt,vs,e1,J⟩
  have:=Vz (P:=P) (w:=w) t g 0 N N k i (zs:=zs) h0.1 h0.2
  rw[Gx1] at this
  simp only[execOp,ho,e4,h2,Sem.run_bind,this,Result.andThen_ok]
  rfl
theorem q_lensb {p N kk:Nat} {e:TypeId} {zs:List Value} {by_:Nat} [hm:TyMake P t e zs by_] (ho:o.op = .call { callee := .builtin .len,args:=#[y],argTypes:=#[t] }) (hg:o.guard=none) (hy:st.ev y = .o (.c (.sb p N kk))):Qt P ops o st (I N) [] n :=
 .pure hg fun a w H F hr=>⟨.int .i64 N,by
  obtain⟨g,tt,vs,e1,e2,e3,e4⟩:=hr.v1 hy
  exact len_run ho e4,plainV _ J⟩
/-! ### Numbers -/
theorem q_neg (ho:o.op = .unOp .neg t y) (hg:o.guard=none) (hy:st.ev y = .o (.c (.rd ps (.v (.int .i64 i))))) (hb : -9223372036854775807≤i∧i≤9223372036854775807):Qt P ops o st (I (-i)) [] n :=
 .pure hg fun a w H F hr=>⟨.int .i64 (-i),by
  have h1:=hr.plain hy
  have h2:IntKind.i64.wrap (0-i) = -i:=by rw[IntWalk.i64_in _ Aqa]; omega
  simp only[execOp,ho,h1,Op.unary,Op.intArith,h2]
  rfl,plainV _ rfl⟩
theorem q_min (ho:o.op = .call { callee := .builtin .min,args:=#[y,z],argTypes:=#[t,t'] }) (hg:o.guard=none) (hy:st.ev y = .o (.c (.rd ps (.v (.int k i))))) (hz:st.ev z = .o (.c (.rd qs (.v (.int k j))))):Qt P ops o st (VI k (min i j)) [] n :=
 .pure hg fun a w H F hr=>⟨.int k (min i j),by
  have h1:=hr.plain hy
  have h2:=hr.plain hz
  have h3:(if j<i then j else i)=min i j:=by simp only[Int.min_def]; split <;> split <;> omega
  simp[execOp,ho,resolve,h1,h2,invoke,builtin,Builtin.min_,Builtin.min2,h3],plainV _ rfl⟩
theorem wrap_u8 (i:Int):IntKind.u8.wrap i=i%256:=by simp[IntKind.wrap,IntKind.signed,IntKind.bits]
theorem Vr (ho:o.op = .binOp .sub t y z t') (hg:o.guard=none) (hy:st.ev y = .o (.c (.rd ps (.v (.int .u8 i))))) (hz:st.ev z = .o (.c (.rd qs (.v (.int .u8 j)))))
  (hb:0≤i-j∧i-j≤255):Qt P ops o st (VI .u8 (i-j)) [] n :=
 Kj ho hg hy hz fun w=>by simp[binOp,Op.intArith,wrap_u8,Int.emod_eq_of_lt hb.1 (show i-j<256 by omega)]
theorem Ks {k':IntKind} [hk:TyInt P t' k'] (hs:(P.underlying t).isSome=true) (ho:o.op = .convert t t' y) (hg:o.guard=none) (hy:st.ev y = .o (.c (.rd ps (.v (.int k i))))) (hw:k'.wrap i=i):Qt P ops o st (VI k' i) [] n:=by
 have:=q_conv (n:=n) (P:=P) (ops:=ops) hs ho hg hy (hk:=hk)
 rwa[hw] at this
theorem Uk {i:Int} (h : -9223372036854775808≤i∧i≤9223372036854775807):IntKind.i64.wrap i=i:=IntWalk.i64_in _ h
theorem Ul {i:Int} (h:0≤i∧i≤255):IntKind.u8.wrap i=i:=by rw[wrap_u8,Int.emod_eq_of_lt h.1 Aqa]
theorem q_shl (ho:o.op = .binOp .shl t y z t') (hg:o.guard=none) {k':IntKind} (hy:st.ev y = .o (.c (.rd ps (.v (.int .i64 i))))) (hz:st.ev z = .o (.c (.rd qs (.v (.int k' j))))) (h0:0≤j∧j≤63) (hb : -9223372036854775808≤i*2 ^ j.toNat∧i*2 ^ j.toNat≤9223372036854775807):Qt P ops o st (I (i*2 ^ j.toNat)) [] n :=
 .pure hg fun a w H F hr=>⟨.int .i64 (i*2 ^ j.toNat),by
  have h1:=hr.plain hy
  have h2:=hr.plain hz
  have h3:¬j<0:=Aqa
  have h4:min j.toNat 64=j.toNat:=Aqa
  have h5:IntKind.i64.bits=64:=rfl
  simp[execOp,ho,h1,h2,eqGuard,binOp,Op.shift,h3,h5,h4,Uk hb],plainV _ rfl⟩
theorem q_shr {k':IntKind} (ho:o.op = .binOp .shr t y z t') (hg:o.guard=none) (hy:st.ev y = .o (.c (.rd ps (.v (.int k i))))) (hz:st.ev z = .o (.c (.rd qs (.v (.int k' j))))) (h0:0≤i∧0≤j∧j≤k.bits):Qt P ops o st (VI k (i/2 ^ j.toNat)) [] n :=
 .pure hg fun a w H F hr=>⟨.int k (i/2 ^ j.toNat),by
  have h1:=hr.plain hy
  have h2:=hr.plain hz
  have h3:¬j<0:=Aqa
  have h4:min j.toNat k.bits=j.toNat:=Aqa
  have h6:i.fdiv (2 ^ j.toNat)=i/2 ^ j.toNat:=Int.fdiv_eq_ediv_of_nonneg _ (by exact Int.le_of_lt (Int.pow_pos Aqc))
  simp[execOp,ho,h1,h2,eqGuard,binOp,Op.shift,h3,h4,h6],plainV _ rfl⟩
theorem bits_in {m:Nat} {i:Int} (h:0≤i∧i<2 ^ m):(BitVec.ofInt m i).toNat=i.toNat:=by
 rw[BitVec.toNat_ofInt,Int.emod_eq_of_lt h.1 (by simpa using h.2)]
theorem Kk (ho:o.op = .binOp .and t y z t') (hg:o.guard=none) (hy:st.ev y = .o (.c (.rd ps (.v (.int .i64 i))))) (hz:st.ev z = .o (.c (.rd qs (.v (.int .i64 j))))) (h0:0≤i∧i≤9223372036854775807∧0≤j∧j≤9223372036854775807):Qt P ops o st (I ((i.toNat &&& j.toNat:Nat):Int)) [] n :=
 Kj ho hg hy hz fun w=>by
  have h1:(BitVec.ofInt IntKind.i64.bits i).toNat=i.toNat:=bits_in (m:=64) ⟨Aqa,Aqa⟩
  have h2:(BitVec.ofInt IntKind.i64.bits j).toNat=j.toNat:=bits_in (m:=64) ⟨Aqa,Aqa⟩
  have h3:i.toNat &&& j.toNat≤i.toNat:=Nat.and_le_left
  have h5:IntKind.i64.wrap ((i.toNat &&& j.toNat:Nat):Int)=((i.toNat &&& j.toNat:Nat):Int):=Uk Aqa 
  simp only[binOp,Op.intBits,BitVec.toNat_and,h1,h2,h5,ne_eq,not_true_eq_false,if_false]
  rfl
theorem q_band8 (ho:o.op = .binOp .and t y z t') (hg:o.guard=none) (hy:st.ev y = .o (.c (.rd ps (.v (.int .u8 i))))) (hz:st.ev z = .o (.c (.rd qs (.v (.int .u8 j))))) (h0:0≤i∧i≤255∧0≤j∧j≤255):Qt P ops o st (VI .u8 ((i.toNat &&& j.toNat:Nat):Int)) [] n :=
 Kj ho hg hy hz fun w=>by
  have h1:(BitVec.ofInt IntKind.u8.bits i).toNat=i.toNat:=bits_in (m:=8) ⟨Aqa,Aqa⟩
  have h2:(BitVec.ofInt IntKind.u8.bits j).toNat=j.toNat:=bits_in (m:=8) ⟨Aqa,Aqa⟩
  have h3:i.toNat &&& j.toNat≤i.toNat:=Nat.and_le_left
  have h5:IntKind.u8.wrap ((i.toNat &&& j.toNat:Nat):Int)=((i.toNat &&& j.toNat:Nat):Int):=Ul Aqa 
  simp only[binOp,Op.intBits,BitVec.toNat_and,h1,h2,h5,ne_eq,not_true_eq_false,if_false]
  rfl
theorem q_bor (ho:o.op = .binOp .or t y z t') (hg:o.guard=none) (hy:st.ev y = .o (.c (.rd ps (.v (.int .i64 i))))) (hz:st.ev z = .o (.c (.rd qs (.v (.int .i64 j))))) (h0:0≤i∧i≤9223372036854775807∧0≤j∧j≤9223372036854775807):Qt P ops o st (I ((i.toNat ||| j.toNat:Nat):Int)) [] n :=
 Kj ho hg hy hz fun w=>by
  have h1:(BitVec.ofInt IntKind.i64.bits i).toNat=i.toNat:=bits_in (m:=64) ⟨Aqa,Aqa⟩
  have h2:(BitVec.ofInt IntKind.i64.bits j).toNat=j.toNat:=bits_in (m:=64) ⟨Aqa,Aqa⟩
  have h3:i.toNat ||| j.toNat<2 ^ 63:=Nat.or_lt_two_pow Aqa Aqa 
  have h5:IntKind.i64.wrap ((i.toNat ||| j.toNat:Nat):Int)=((i.toNat ||| j.toNat:Nat):Int):=Uk Aqa 
  simp only[binOp,Op.intBits,BitVec.toNat_or,h1,h2,h5,ne_eq,not_true_eq_false,if_false]
  rfl
theorem q_bxor8 (ho:o.op = .binOp .xor t y z t') (hg:o.guard=none) (hy:st.ev y = .o (.c (.rd ps (.v (.int .u8 i))))) (hz:st.ev z = .o (.c (.rd qs (.v (.int .u8 j))))) (h0:0≤i∧i≤255∧0≤j∧j≤255):Qt P ops o st (VI .u8 ((i.toNat^^^j.toNat:Nat):Int)) [] n :=
 Kj ho hg hy hz fun w=>by
  have h1:(BitVec.ofInt IntKind.u8.bits i).toNat=i.toNat:=bits_in (m:=8) ⟨Aqa,Aqa⟩
  have h2:(BitVec.ofInt IntKind.u8.bits j).toNat=j.toNat:=bits_in (m:=8) ⟨Aqa,Aqa⟩
  have h3:i.toNat^^^j.toNat<2 ^ 8:=Nat.xor_lt_two_pow Aqa Aqa 
  have h5:IntKind.u8.wrap ((i.toNat^^^j.toNat:Nat):Int)=((i.toNat^^^j.toNat:Nat):Int):=Ul Aqa 
  simp only[binOp,Op.intBits,BitVec.toNat_xor,h1,h2,h5,ne_eq,not_true_eq_false,if_false]
  rfl

theorem q_bandK {r:Nat} (ho:o.op = .binOp .and t y z t') (hg:o.guard=none) (hy:st.ev y = .o (.c (.rd ps (.v (.int .i64 i))))) (hz:st.ev z = .o (.c (.rd qs (.v (.int .i64 j))))) (hb:i.toNat &&& j.toNat=r) (h0:0≤i∧i≤9223372036854775807∧0≤j∧j≤9223372036854775807):Qt P ops o st (I (r:Int)) [] n:=hb▸Kk ho hg hy hz h0
theorem q_borK {r:Nat} (ho:o.op = .binOp .or t y z t') (hg:o.guard=none) (hy:st.ev y = .o (.c (.rd ps (.v (.int .i64 i))))) (hz:st.ev z = .o (.c (.rd qs (.v (.int .i64 j))))) (hb:i.toNat ||| j.toNat=r) (h0:0≤i∧i≤9223372036854775807∧0≤j∧j≤9223372036854775807):Qt P ops o st (I (r:Int)) [] n:=hb▸q_bor ho hg hy hz h0
theorem q_band8K {r:Nat} (ho:o.op = .binOp .and t y z t') (hg:o.guard=none) (hy:st.ev y = .o (.c (.rd ps (.v (.int .u8 i))))) (hz:st.ev z = .o (.c (.rd qs (.v (.int .u8 j))))) (hb:i.toNat &&& j.toNat=r) (h0:0≤i∧i≤255∧0≤j∧j≤255):Qt P ops o st (VI .u8 (r:Int)) [] n:=hb▸q_band8 ho hg hy hz h0
theorem q_shrK {k':IntKind} {r:Int} (ho:o.op = .binOp .shr t y z t') (hg:o.guard=none) (hy:st.ev y = .o (.c (.rd ps (.v (.int k i))))) (hz:st.ev z = .o (.c (.rd qs (.v (.int k' j))))) (hb:i/2 ^ j.toNat=r) (h0:0≤i∧0≤j∧j≤k.bits):Qt P ops o st (VI k r) [] n:=hb▸q_shr ho hg hy hz h0
theorem q_shlK {k':IntKind} {r:Int} (ho:o.op = .binOp .shl t y z t') (hg:o.guard=none) (hy:st.ev y = .o (.c (.rd ps (.v (.int .i64 i))))) (hz:st.ev z = .o (.c (.rd qs (.v (.int k' j))))) (hr:i*2 ^ j.toNat=r) (h0:0≤j∧j≤63) (hb : -9223372036854775808≤r∧r≤9223372036854775807):Qt P ops o st (I r) [] n:=by
 subst hr
 exact q_shl ho hg hy hz h0 hb

/-! ### Bytes -/
class IsB (es:List (List T)) (l:outParam (List UInt8)):Prop where
 len:es.length=l.length
 at_:∀ (i:Nat) (e:List T),es[i]? = some e→∃ n:Int,e = [.v (.int .u8 n)]∧l[i]? = some (UInt8.ofNat n.toNat)
instance (l:List UInt8):IsB (bE l) l:=⟨Yt l,fun i e h=>by
 unfold bE at h
 rw[Gqk] at h
 obtain⟨b,h1,rfl⟩:=Option.map_eq_some_iff.1 h
 exact⟨b.toNat,J,by rw[h1]; simp⟩⟩
instance {es es':List (List T)} {l l':List UInt8} [h:IsB es l] [h':IsB es' l']:IsB (es++es') (l++l'):=⟨by simp[h.len,h'.len],fun i e hi=>by
 rcases Gqr i es.length with h1 | h1
 ·rw[Gq2 h1] at hi
  rw[Gq2 (by rw[←h.len]; exact h1)]
  exact h.at_ i e hi
 ·rw[Gq3 h1] at hi
  rw[Gq3 (by rw[←h.len]; exact h1),←h.len]
  exact h'.at_ _ e hi⟩
instance:IsB [] []:=⟨rfl,fun i e h=>by simp at h⟩
instance {n:Int} {es:List (List T)} {l:List UInt8} [h:IsB es l]:IsB ([.v (.int .u8 n)]::es) (UInt8.ofNat n.toNat::l):=⟨by simp[h.len],fun i e hi=>by
 cases i with
 |zero=>simp at hi; exact⟨n,hi.symm,rfl⟩
 |succ i=>exact h.at_ i e Bxi⟩

class TyBytes (P:Program) (t:TypeId):Prop where
 bytes:(match P.underlying t with | some (.slice e)=>(match P.underlying e with | some (.int .u8)=>true | _=>false) | _=>false)=true
theorem TyBytes.of {P:Program} {t:TypeId} [h:TyBytes P t]:∃ e,P.underlying t=some (.slice e)∧P.underlying e=some (.int .u8):=by
 have h1:=h.bytes
 split at h1
 ·rename_i e he
  split at h1
  ·exact⟨e,he,Aqe⟩
  ·cases h1
 ·cases h1
theorem foldl_bytes:∀ (ns:List Int) (r:ByteArray),ns.foldl (fun r n=>r.push (UInt8.ofNat n.toNat)) r=⟨r.data++(ns.map fun n=>UInt8.ofNat n.toNat).toArray⟩
 | [],r=>by simp
 |n::ns,r=>by
  rw[List.foldl_cons,foldl_bytes ns]
  simp[ByteArray.push]
def numOf:Option (List T)→Int
 |some [.v (.int .u8 n)]=>n
 |_=>0
theorem bstr_run [hb:TyBytes P t] [hs:TyStr P t'] {a:Act} {w:World} {G:Nat→Prop} {kk:Nat} {es:List (List T)} {l:List UInt8} [hl:IsB es l] (ho:o.op = .convert t t' y) (hy:RO w G (.sl kk es) (a.eval y)):(execOp a.eval o).run P w = .ok (.value (.string ⟨l.toArray⟩)) w:=by
 obtain⟨e,h1,h2⟩:=TyBytes.of (P:=P) (t:=t)
 obtain⟨A,c,hv,hc,_⟩:=hy.form
 have key:(convert t t' (a.eval y)).run P w = .ok (.string ⟨l.toArray⟩) w:=by
  rw[hv,run_convert_bytes_string w t t' e A es.length c h1 h2 hs.str]
  cases he:es with
  |nil =>
   subst he
   have hl0:l = []:=List.eq_nil_of_length_eq_zero (by rw[←hl.len]; rfl)
   subst hl0
   cases A with
   |none=>simp[Conv.bytesToString]; rfl
   |some b=>simp[Conv.bytesToString,loadCells,loadCellsFrom]; rfl
  | cons e0 es0 =>
   rw[←he]
   obtain⟨b,o',c',hv',_,_,_,_⟩:=hy.at_ (i:=0) (e:=e0) (by rw[he]; rfl)
   rw[hv] at hv'
   simp only[Value.slice.injEq] at hv'
   obtain⟨rfl,_,rfl⟩:=hv'
   -- the numbers
   have hns:∀ i (hi:i<es.length),∃ n:Int,es[i]? = some [.v (.int .u8 n)]∧l[i]? = some (UInt8.ofNat n.toNat)∧w.cell? ⟨b,o'+i,none⟩=some (.int .u8 n):=by
    intro i hi
    obtain⟨n,e1,e2⟩:=hl.at_ i _ (Gqg hi)
    refine⟨n,by rw[Gqg hi,e1],e2,?_⟩
    obtain⟨b',o'',c'',g1,_,g3,g4,g5⟩:=hy.at_ (Gqg hi)
    rw[hv] at g1
    simp only[Value.slice.injEq,Option.some.injEq,Addr.mk.injEq] at g1
    obtain⟨⟨rfl,rfl,_⟩,_,_⟩:=g1
    have hk:kk=1:=by rw[←g4,e1]; rfl
    subst hk
    obtain⟨u,g6,g7⟩:=g5 0 (.v (.int .u8 n)) Bxe
    rw[(RO.plain g7).1] at g6
    simpa using g6
   let ns:List Int:=(List.range es.length).map fun i=>numOf es[i]?
   have hnl:ns.length=es.length:=by simp[ns]
   have hn:∀ i (hi:i<es.length) (n:Int),es[i]? = some [.v (.int .u8 n)]→ns[i]? = some n:=by
    intro i hi n h
    simp only[ns,Gqk,List.getElem?_range hi,Gq1,h,numOf]
   have hld:=run_loadCells_list (P:=P) w ⟨b,o',none⟩ (ns.map (Value.int .u8)) (fun j v hj=>by
    have hj':j<es.length:=by have:=Zj hj; simpa[hnl] using this
    obtain⟨n,e1,_,e3⟩:=hns j hj'
    rw[Gqk,hn j hj' n e1] at hj
    simp only[Gq1,Option.some.injEq] at hj
    rw[add_lit,e3,hj])
   simp only[List.length_map,hnl] at hld
   rw[run_bytesToString w ⟨b,o',none⟩ es.length c ns hld,foldl_bytes]
   have:ns.map (fun n=>UInt8.ofNat n.toNat)=l:=by
    apply List.ext_getElem?
    intro i
    by_cases hi:i<es.length
    ·obtain⟨n,e1,e2,_⟩:=hns i hi
     rw[Gqk,hn i hi n e1,e2]
     rfl
    ·rw[List.getElem?_eq_none (by simp[hnl]; omega),List.getElem?_eq_none (by rw[←hl.len]; omega)]
   rw[this]
   have he0:ByteArray.empty.data=#[]:=rfl
   rw[he0]
   simp
 unfold execOp
 simp only[ho,Sem.run_bind,key,Result.andThen_ok]
 rfl
section
variable {kk p:Nat} {es:List (List T)} {l:List UInt8}
theorem q_bstr [hb:TyBytes P t] [hs:TyStr P t'] [hl:IsB es l] (ho:o.op = .convert t t' y) (hg:o.guard=none) (hy:st.ev y = .o (.c (.ref p))) (hp:st.objs[p]? = some (.row kk es)):Qt P ops o st (S ⟨l.toArray⟩) [] n :=
 .pure hg fun a w H F hr=>⟨_,bstr_run ho (own_ro hr hy hp),plainV _ rfl⟩
theorem q_bstrb {N:Nat} {cs:List V1} [hb:TyBytes P t] [hs:TyStr P t'] (ho:o.op = .convert t t' y) (hg:o.guard=none) (hy:st.ev y = .o (.c (.sb p N 1))) (hp:st.objs[p]? = some (.box cs)) (hsb:sbE cs=some es) [hl:IsB es l]:Qt P ops o st (S ⟨l.toArray⟩) [] n :=
 .pure hg fun a w H F hr=>⟨_,by
  have h1:=lend_ok (H1:=H) hr (hr.v1 hy)
  simp only[lend,Zi hp,sbA_of _ _ hsb] at h1
  exact bstr_run (kk:=1) ho h1,plainV _ J⟩
theorem q_strb [hb:TyBytes P t'] [hs:TyStr P t] (ho:o.op = .convert t t' y) (hg:o.guard=none) (hy:st.ev y = .o (.c (.rd ps (.v (.string s))))) (hn63:s.size≤9223372036854775807):Qt P ops o st (.o (.c (.ref n))) [.row 1 (bE s.data.toList)] n :=
 .new hg fun a w H F hr hn=>by
  obtain⟨e,h1,h2⟩:=TyBytes.of (P:=P) (t:=t')
  have hrun:=run_bytes_of_string (P:=P) w t t' e s hs.str h1 h2
  have hge:=grownCap_ge w s.size 0 e
  have hsz:s.data.size=s.size:=rfl
  have hlen:(bE s.data.toList).length=s.size:=by rw[Yt]; exact Array.length_toList
  have hbs:(bytesRow s (grownCap w s.size 0 e)).size=grownCap w s.size 0 e:=by simp[bytesRow,hsz]; omega
  have hcap:=grownCap_le_maxLen w s.size 0 e (by simpa[maxLen] using hn63)
  refine⟨_,w.drew.alloc (.cells (bytesRow s (grownCap w s.size 0 e)) e ((bytesRow s (grownCap w s.size 0 e)).size,(bytesRow s (grownCap w s.size 0 e)).size+1)),.ow (.sl 1 (bE s.data.toList)) (.slice (some ⟨w.heap.size,0,none⟩) s.size (grownCap w s.size 0 e)) (w.heap.size::((bE s.data.toList).map fun _ => [[]]).flatten.flatten),?_,(Below.drew (Below.refl _ _)).alloc (Gqi _) _,?_,?_,?_,fun H' hgr hq=>⟨⟨_,_,hq⟩,_,_,hq⟩⟩
  ·unfold execOp
   simp only[ho,hr.plain hy,Sem.run_bind,hrun,Result.andThen_ok]
   rfl
  ·have:=OW.sl (w:=w.drew.alloc (.cells (bytesRow s (grownCap w s.size 0 e)) e ((bytesRow s (grownCap w s.size 0 e)).size,(bytesRow s (grownCap w s.size 0 e)).size+1))) (bE s.data.toList) w.heap.size 0 1 (grownCap w s.size 0 e) e (bytesRow s (grownCap w s.size 0 e)) _ (fun i _=>plainV' (bE s.data.toList) i 0) ((bE s.data.toList).map fun _ => [[]]) (heap_alloc_new w.drew _) (.inr (Gqi _))
    (by rw[hlen]; exact hge) hcap (by rw[hbs]; omega) Aqa (bE_one _) Aqd (fun f hf=>by obtain⟨_,_,rfl⟩:=Gqv.1 hf; rfl) (fun i j hi hj=>?_) (fun i j e' t'' fs f h3 h4 h5 h6 => ?_)
   ·rw[hlen] at this; exact this
   ·have hj0:j=0:=Aqa
    subst hj0
    rw[Yt] at hi
    have h3:(bE s.data.toList)[i]? = some [.v (.int .u8 ((s.data.toList[i]).toNat:Int))]:=by unfold bE; rw[Gqk,Gqg hi]; rfl
    rw[plainV'_at h3 rfl]
    have hi':i<s.data.size:=Bxi
    rw[show 0+i*1+0=i by omega,bytesRow,Array.getElem?_append_left (by simpa using hi'),Array.getElem?_map,Gxe hi']
    simp
   ·have hp:=bE_plain _ e' (Zk h3) t'' (Zk h4)
    obtain⟨u,rfl⟩:=hp
    have hj0:j=0:=by have:=Zj h4; rw[bE_one _ e' (Zk h3)] at this; omega
    subst hj0
    rw[plainV'_at h3 h4]
    rw[Gqk] at h5
    obtain⟨_,_,rfl⟩:=Option.map_eq_some_iff.1 h5
    simp at h6
    subst h6
    obtain⟨b,_,rfl⟩:=Gqv.1 (Zk h3)
    simp at h4
    subst h4
    exact .v _ J
  ·have:((bE s.data.toList).map fun _=>([[]]:List (List Nat))).flatten.flatten = []:=by
    rw[List.flatten_eq_nil_iff]
    intro l hl
    obtain⟨f,hf,hl⟩:=Gxn.1 hl
    obtain⟨_,_,rfl⟩:=Gqv.1 hf
    simpa using hl
   refine⟨?_,trivial⟩
   show (w.heap.size::_).Nodup
   rw[this]
   simp
  ·intro b hb
   have:((bE s.data.toList).map fun _=>([[]]:List (List Nat))).flatten.flatten = []:=by
    rw[List.flatten_eq_nil_iff]
    intro l hl
    obtain⟨f,hf,hl⟩:=Gxn.1 hl
    obtain⟨_,_,rfl⟩:=Gqv.1 hf
    simpa using hl
   simp only[Pc.fp,this,Gxd] at hb
   omega
end
end
end
section
open Go.RowKit

section
variable {P:Program} {E:Env} {ops:Array Oper} {rest:List Oper} {Q:Exit→St→Prop} {d:Option Tmp} {st:St} {t':TypeId} {p':String} {af:Array Edge} {g:Nat×Bool} {l:List Oper} {A S M:List (List Nat)} {N:Nat} {ts:List (Nat×V)} {obs:List Ob} {aS mS:List (List Nat)} {done:List Hd} {k c:Nat}
variable {x y z:Operand} {t u:TypeId} {parts:Array (Nat×Operand)} {i n:Nat} {a b e:Option Operand} {bo:BinOp} {uo:UnOp} {cl:Call} {op:Op} {v:V} {m:Nat} {ob1:List Ob}
theorem K_assign (h:AL P E ops Q (⟨d,(.assign x),t',p',af,none⟩::rest) st):AL P E ops Q (⟨d,(.assign x),t',p',af,none⟩::rest) st:=h
theorem K_alloc (h:AL P E ops Q (⟨d,(.alloc t),t',p',af,none⟩::rest) st):AL P E ops Q (⟨d,(.alloc t),t',p',af,none⟩::rest) st:=h
theorem Xf (h:AL P E ops Q (⟨d,(.load t x),t',p',af,none⟩::rest) st):AL P E ops Q (⟨d,(.load t x),t',p',af,none⟩::rest) st:=h
theorem Xe (h:AL P E ops Q (⟨d,(.store t x y),t',p',af,none⟩::rest) st):AL P E ops Q (⟨d,(.store t x y),t',p',af,none⟩::rest) st:=h
/-! ### Append, continued -/
theorem sbE_plain:∀ (cs:List V1) (es:List (List T)),sbE cs=some es→plainT es∧∀ e∈es,e.length=1:=fun cs es h=>by
 obtain⟨h1,h2⟩:=sbE_ok cs es h
 refine⟨fun e he t ht=>?_,fun e he=>?_⟩
 ·obtain⟨i,hi⟩:=List.getElem?_of_mem he
  obtain⟨_,u,_,h3⟩:=h2 i e hi
  subst h3
  simp at ht
  exact⟨u,ht⟩
 ·obtain⟨i,hi⟩:=List.getElem?_of_mem he
  obtain⟨_,u,_,h3⟩:=h2 i e hi
  rw[h3]; rfl
section
variable {o:Oper} {dd:Nat} {qs rs:List Nat} {p q NN by_:Nat} {es es':List (List T)} {cs:List V1} {z0:Value} {ee tx:TypeId} {s:ByteArray}
theorem X7 [hm:TyMake P t ee [z0] by_] (ho:o.op = .call { callee := .builtin .append,args:=#[y,z],argTypes:=#[t,t] }) (hg:o.guard=none) (hd:o.dst=some dd) (hl:Nat.blt dd N=true) (hy:St.ev ⟨N,ts,obs⟩ y = .o (.c (.ref p))) (hp:obs[p]? = some (.row 1 es)) (hz:St.ev ⟨N,ts,obs⟩ z = .o (.c (.sb q NN 1))) (hq:obs[q]? = some (.box cs)) (hc:cs.length=NN) (hs:sbE cs=some es')
  (hb:(es.length+NN)*by_≤140737488355328) (h63:es.length+NN≤9223372036854775807)
  (h:AL P E ops Q rest ⟨N,(dd,.o (.c (.ref p)))::(ts.map fun e=>(e.1,e.2.kill [p])),(obs.map (Ob.kill [p])).set p (.row 1 (es++es'))⟩):AL P E ops Q (o::rest) ⟨N,ts,obs⟩:=by
 have h1:=sbE_plain cs es' hs
 have h2:=(sbE_ok cs es' hs).1
 exact L_app (kk:=1) (zs := [z0]) ho hg hy hp hz (by simp only[srcOf,Zi hq]; exact hs) J Aqd h1.1 h1.2 (by rw[h2,hc]; exact hb) (by rw[h2,hc]; exact h63) Bq8 Bq9
theorem X8 [hm:TyMake P t ee [z0] by_] [TyStr P tx] (ho:o.op = .call { callee := .builtin .append,args:=#[y,z],argTypes:=#[t,tx] }) (hg:o.guard=none) (hd:o.dst=some dd) (hl:Nat.blt dd N=true) (hy:St.ev ⟨N,ts,obs⟩ y = .o (.c (.ref p))) (hp:obs[p]? = some (.row 1 es)) (hz:St.ev ⟨N,ts,obs⟩ z = .o (.c (.rd qs (.v (.string s)))))
  (hb:(es.length+s.size)*by_≤140737488355328) (h63:es.length+s.size≤9223372036854775807)
  (h:AL P E ops Q rest ⟨N,(dd,.o (.c (.ref p)))::(ts.map fun e=>(e.1,e.2.kill [p])),(obs.map (Ob.kill [p])).set p (.row 1 (es++bE s.data.toList))⟩):AL P E ops Q (o::rest) ⟨N,ts,obs⟩ :=
 L_appstr (st:=⟨N,ts,obs⟩) (by exact ho) hg hy hp hz Bq8 hb h63 Bq9
theorem Km {zs:List Value} [hm:TyMake P t ee zs by_] (ho:o.op = .buildSlice t 0 #[]) (hg:o.guard=none) (hz0:zs.isEmpty=false):Qt P ops o st (.o (.c (.ref m))) [.row zs.length []] m :=
 .new hg fun a w H F hr hn=>by
  obtain⟨inf,hi,hzz⟩:=Option.map_eq_some_iff.1 hm.info
  have hzp:0<zs.length:=Gxy.2 (by intro e; rw[e] at hz0; cases hz0)
  refine⟨.slice (some ⟨w.heap.size,0,none⟩) 0 0,w.alloc (.cells #[] ee),.ow (.sl zs.length []) (.slice (some ⟨w.heap.size,0,none⟩) 0 0) [w.heap.size],?_,(Below.refl _ _).alloc (Gqi _) _,?_,by simp[Pc.fp,Pc.ng],fun b hb=>by simp[Pc.fp] at hb; omega,fun H' hgr hq=>⟨⟨_,_,hq⟩,_,_,hq⟩⟩
  ·unfold execOp
   simp[ho,Instr.buildSlice,run_underlying hm.slice,sizeOf,typeInfo,hi,Instr.fill,newRow]
   rw[show (Array.range 0).map (fun _:Nat=>(default:Value))=#[] from Array.eq_empty_of_size_eq_zero Aqd]
  ·exact OW.sl (w:=w.alloc (.cells #[] ee)) [] w.heap.size 0 zs.length 0 ee #[] (0,0) (fun _ _=>undef) [] (heap_alloc_new w _) (.inl rfl) (Gqi _) (Gxm _) Aqd hzp (fun e he=>by simp at he) rfl (fun f hf=>by simp at hf) (fun i j hi=>by simp at hi) (fun i j e t fs f h=>by simp at h)
end

theorem Qj {f:FuncId} [hf:FunOk P f] {o:Oper} {ass:Array Operand} {tys:Array TypeId} {args:List V2} {w:Value} {ps:List Nat} (ho:o.op = .call { callee := .value (.func f),args:=ass,argTypes:=tys }) (hg:o.guard=none)
  (hc:Con P f [] args [] (.o (.c (.rd ps (.v w))))) (ha:ass.toList.map (fun y=>lend2 st.objs (st.ev y))=args):Qt P ops o st (.o (.c (.rd [] (.v w)))) [] m:=by
 have h:=Kr (n:=m) (P:=P) (ops:=ops) (o:=o) ho hg hc ha J J
 refine⟨fun a w' H F Q K hr hfree hK=>h.h a w' H F Q K hr hfree fun v w'' H' F' hgr hok hob hno hv=>hK v w'' H' F' hgr hok hob hno ?_⟩
 have h1:R1 w'' H' F' (.rd (ps.map (m+·)) (.v w)) v:=hv
 obtain⟨rfl,h2⟩:=RO.plain h1
 exact RO.v _ h2
end
theorem kc0 {P:Program} {E:Env} {ops:Array Oper} {Q:Exit→St→Prop} {o:Oper} {rest:List Oper} {n d:Nat} {ts:List (Nat×V)} {obs:List Ob} {f:FuncId} [hf:FunOk P f] {ac:Array Operand} {tys:Array TypeId} {args:List V2} {w:Value} {ps:List Nat} (hc:Con P f [] args [] (.o (.c (.rd ps (.v w))))) (r:AL P E ops Q rest ⟨n,(d,.o (.c (.rd [] (.v w))))::ts,obs⟩) (h:(o.op,o.guard,ac.toList.map (fun y=>lend2 obs (St.ev ⟨n,ts,obs⟩ y)),o.dst,Nat.blt d n)=(.call { callee := .value (.func f),args:=ac,argTypes:=tys },none,args,some d,true):=by rfl):AL P E ops Q (o::rest) ⟨n,ts,obs⟩:=by
 simp only[Prod.mk.injEq] at h
 exact M0 (Qj h.1 h.2.1 hc h.2.2.1) h.2.2.2.1 h.2.2.2.2 r
theorem kc1 {P:Program} {E:Env} {ops:Array Oper} {Q:Exit→St→Prop} {o:Oper} {rest:List Oper} {n d:Nat} {ts:List (Nat×V)} {obs:List Ob} {f:FuncId} [hf:FunOk P f] {ac:Array Operand} {tys:Array TypeId} {args:List V2} {objs':List Ob} {res:V} (hc:Con P f [] args objs' res) (r:AL P E ops Q rest ⟨n,(d,res.ren (obs.length+·))::ts,obs++objs'.map (Ob.ren (obs.length+·))⟩) (h:(o.op,o.guard,ac.toList.map (fun y=>lend2 obs (St.ev ⟨n,ts,obs⟩ y)),res.closed,objs'.all Ob.closed,o.dst,Nat.blt d n)=(.call { callee := .value (.func f),args:=ac,argTypes:=tys },none,args,true,true,some d,true):=by rfl):AL P E ops Q (o::rest) ⟨n,ts,obs⟩:=by
 simp only[Prod.mk.injEq] at h
 exact M1 (Kr h.1 h.2.1 hc h.2.2.1 h.2.2.2.1 h.2.2.2.2.1) h.2.2.2.2.2.1 h.2.2.2.2.2.2 r
end
end Go.Proofs.YtalaljeokcpfnaaGreat
