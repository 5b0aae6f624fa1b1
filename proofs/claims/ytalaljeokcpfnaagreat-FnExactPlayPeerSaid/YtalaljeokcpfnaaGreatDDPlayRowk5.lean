/-
  Rules for operations that make new memory, and for those that write to a call's own. No statement of the program is proved here.
  Conditions: none.
-/
import Derived.Test.YtalaljeokcpfnaaGreatDDPlayRowk4
set_option linter.unusedSimpArgs false
set_option linter.unusedVariables false
namespace Go.Proofs.YtalaljeokcpfnaaGreat
section
open Go.RowKit

def V1.known:V1→Bool
 | .un=>false
 |_=>true
theorem V1.known_ne {x:V1} (h:x.known=true):x ≠ .un:=by cases x <;> simp[V1.known] at h ⊢
def zV (v:Value):V1 := .rd [] (.v v)

section
variable {P:Program} {E:Env} {ops:Array Oper} {o:Oper} {st:St} {n:Nat} {rest:List Oper} {QQ:Exit→St→Prop} {w w':World} {H H':Hs} {F:Nat→Prop} {a:Act}

theorem Ok.add (h:Ok w H F) (hb:Below w.heap.size w w') {p:Nat} (hp:H p = .nil) (q:Pc) (hs:q.says w') (hn:q.fp.Nodup) (hng:q.ng) (hf:∀ b∈q.fp,w.heap.size≤b):Ok w' (H.put p q) F∧Grow w H F w' (H.put p q) F:=by
 have hne:∀ r,r≠p→H.put p q r=H r:=fun r hr=>Hs.put_ne H q hr
 refine⟨⟨fun r=>?_,fun r=>?_,fun r s b h1 h2=>?_,fun r b h1 h2=>?_,fun b hb'=>Gx2 (h.flt b hb') hb.size⟩,hb,fun r hr=>hne r fun e=>hr (e▸hp),fun _ h=>h,fun _ h => .inl h,fun r hr b hb' => ?_,fun r i v hr=>?_⟩
 ·by_cases e:r=p
  ·subst e; rw[Hs.put_self]; exact hs
  ·rw[hne r e]; exact Pc.frame (fun b hb'=>hb.block b (h.lt hb')) (h.says r)
 ·by_cases e:r=p
  ·subst e; rw[Hs.put_self]; exact hn
  ·rw[hne r e]; exact h.nodup r
 ·by_cases e:r=p
  ·by_cases e':s=p
   ·rw[e,e']
   ·rw[e,Hs.put_self] at h1
    rw[hne s e'] at h2
    have:=hf b h1
    have:=h.lt h2
    omega
  ·rw[hne r e] at h1
   by_cases e':s=p
   ·rw[e',Hs.put_self] at h2
    have:=hf b h2
    have:=h.lt h1
    omega
   ·rw[hne s e'] at h2
    exact h.disj r s b h1 h2
 ·by_cases e:r=p
  ·rw[e,Hs.put_self] at h1
   have:=hf b h1
   have:=h.flt b h2
   omega
  ·rw[hne r e] at h1
   exact h.free r b h1 h2
 ·by_cases e:r=p
  ·rw[e,Hs.put_self] at hb'; exact hf b hb'
  ·rw[hne r e,hr] at hb'
   simp[Pc.fp] at hb'
 ·by_cases e:r=p
  ·rw[e,Hs.put_self] at hr
   rw[hr] at hng
   exact hng.elim
  ·exact⟨r,by rw[←hne r e]; exact hr⟩

theorem Qt.new {x:V} {ob:Ob} (hg:o.guard=none) (h:∀ a w H F,R0 w H F st a→H n = .nil→∃ v w' q,(execOp a.eval o).run P w = .ok (.value v) w'∧Below w.heap.size w w'∧q.says w'∧(q.fp.Nodup∧q.ng)∧(∀ b∈q.fp,w.heap.size≤b) ∧
  (∀ H',Grow w H F w' H' F→H' n=q→RB w' H' F n ob∧RV w' H' F x v)):Qt P ops o st x [ob] n:=by
 refine⟨fun a w H F Q K hr hfree hK=>?_⟩
 have hn:H n = .nil:=by simpa using hfree 0 Aqd 
 obtain⟨v,w',q,h1,h2,h3,h4,h5,h6⟩:=h a w H F hr hn
 obtain⟨hok,hgr⟩:=hr.ok.add h2 hn q h3 h4.1 h4.2 h5
 obtain⟨h7,h8⟩:=h6 _ hgr (Hs.put_self H n q)
 rw[if_pos Bq6]
 unfold Oper.wp
 rw[h1]
 refine hK v w' _ F hgr hok (fun i ob' hi => ?_) (fun p hp hh=>?_) h8
 ·cases i with
  |zero=>simp at hi; subst hi; exact h7
  |succ i=>simp at hi
 ·rw[Hs.put_ne H q (by simp only[Gqw,List.length_nil] at hh; omega),hp]

section
variable {y z:Operand} {t t':TypeId} {k:IntKind} {i j:Int} {ps qs:List Nat}

theorem Qq {xs:List V1} (ho:o.op = .box t y) (hg:o.guard=none) (hy:st.ev y = .o (.ag xs)) (hk:xs.all V1.known=true):Qt P ops o st (.o (.c (.ptr n 0))) [.box xs] n :=
 .new hg fun a w H F hr hn=>by
  have h1:=hr.ev y
  rw[hy] at h1
  obtain⟨us,e,hl,hc⟩:=h1
  refine⟨.pointer (some ⟨w.heap.size,0,none⟩),w.alloc (.cells us.toArray t),.box w.heap.size t us,?_,(Below.refl _ _).alloc (Gqi _) _,heap_alloc_new w _,by simp[Pc.fp,Pc.ng],fun b hb=>by simp[Pc.fp] at hb; omega,fun H' hgr hq=>⟨⟨_,_,_,hq,hl,fun i c u hi hu=>⟨hgr.r1 (hc i c u hi hu),?_⟩⟩,_,_,_,hq,J⟩⟩
  ·unfold execOp
   simp only[ho,e]
   rfl
  ·exact R1.one (V1.known_ne (Gqp.1 hk c (Zk hi))) hr.ok (hc i c u hi hu)
theorem Qx {zs:List Value} [hz:TyZero P t zs] (ho:o.op = .alloc t) (hg:o.guard=none) (h1:zs.all (·.oneCell')=true):Qt P ops o st (.o (.c (.ptr n 0))) [.box (zs.map zV)] n :=
 .new hg fun a w H F hr hn=>by
  obtain⟨zv,hzv,hzc⟩:=run_zeroValue (P:=P) (w:=w) t (zs:=zs)
  refine⟨.pointer (some ⟨w.heap.size,0,none⟩),w.alloc (.cells zs.toArray t),.box w.heap.size t zs,?_,(Below.refl _ _).alloc (Gqi _) _,heap_alloc_new w _,by simp[Pc.fp,Pc.ng],fun b hb=>by simp[Pc.fp] at hb; omega,fun H' hgr hq=>⟨⟨_,_,_,hq,Aqd,fun i c u hi hu=>?_⟩,_,_,_,hq,J⟩⟩
  ·unfold execOp
   simp only[ho,Instr.alloc,Sem.run_bind,hzv,Result.andThen_ok,newVar,newRow,hzc]
   rfl
  ·rw[Gqk] at hi
   obtain⟨z,h2,rfl⟩:=Option.map_eq_some_iff.1 hi
   rw[h2] at hu
   simp only[Option.some.injEq] at hu
   subst hu
   have h3:=Gqp.1 h1 z (Zk h2)
   exact⟨RO.v _ h3,h3⟩

def zT (k:Nat):Value→T
 | .slice none 0 0 => .sl k []
 |v => .v v
theorem ow_zT {w:World} {k:Nat} {v:Value} (h:v.oneCell'=true):OW w (zT k v) v []:=by
 unfold zT
 split
 ·exact .nil k
 ·exact .v _ h
theorem q_makec {e:TypeId} {zs:List Value} {by_:Nat} [hm:TyMake P t e zs by_] {k':IntKind} (kk:Nat) (ho:o.op = .makeSlice t y z) (hg:o.guard=none) (hy:st.ev y = .o (.c (.rd ps (.v (.int k i))))) (hz:st.ev z = .o (.c (.rd qs (.v (.int k' j)))))
  (h0:0≤i) (hij:i≤j) (hb:(by_:Int)*j≤281474976710656) (h63:j≤9223372036854775807) (h1:zs.all (·.oneCell')=true) (hz0:zs ≠ []):Qt P ops o st (.o (.c (.ref n))) [.row zs.length (List.replicate i.toNat (zs.map (zT kk)))] n :=
 .new hg fun a w H F hr hn=>by
  obtain⟨inf,hi,hzz⟩:=Option.map_eq_some_iff.1 hm.info
  simp only[Prod.mk.injEq] at hzz
  obtain⟨hz1,hs,hb1⟩:=hzz
  obtain⟨zv,hz2,hz3⟩:=Option.map_eq_some_iff.1 hz1
  have hr':=run_make (P:=P) w t e inf zv hm.slice hi hz2 k k' i j h0 hij (by rw[hb1]; exact hb) h63
  have hzp:0<zs.length:=Gxy.2 hz0
  have hzc:zv.cells.size=zs.length:=by rw[←hz3]; simp
  have hlen:(List.replicate i.toNat (zs.map (zT kk))).length=i.toNat:=Aqd
  have hnt:i.toNat≤j.toNat:=Aqa
  have hnm:i.toNat*zs.length≤j.toNat*zs.length:=Gx0 _ hnt
  refine⟨.slice (some ⟨w.heap.size,0,none⟩) i.toNat j.toNat,w.alloc (.cells (madeCells zv.cells (j.toNat*inf.size)) e),.ow (.sl zs.length (List.replicate i.toNat (zs.map (zT kk)))) (.slice (some ⟨w.heap.size,0,none⟩) i.toNat j.toNat) (w.heap.size::(List.replicate i.toNat (List.replicate zs.length [])).flatten.flatten),?_,(Below.refl _ _).alloc (Gqi _) _,?_,?_,?_,fun H' hgr hq=>⟨⟨_,_,hq⟩,_,_,hq⟩⟩
  ·unfold execOp
   simp only[ho,hr.plain hy,hr.plain hz,Sem.run_bind,hr',Result.andThen_ok]
   rfl
  ·have:=OW.sl (w:=w.alloc (.cells (madeCells zv.cells (j.toNat*inf.size)) e)) (List.replicate i.toNat (zs.map (zT kk))) w.heap.size 0 zs.length j.toNat e (madeCells zv.cells (j.toNat*inf.size)) (0,0) (fun _ j=>zs.getD j undef) (List.replicate i.toNat (List.replicate zs.length [])) (heap_alloc_new w _) (.inl rfl)
    Bqz (by simp[maxLen]; omega) (by rw[size_madeCells,hs]; omega) hzp (fun e he=>by rw[(List.mem_replicate.1 he).2]; simp) Aqd (fun f hf=>by rw[(List.mem_replicate.1 hf).2]; simp) (fun p q hp hq=>?_) (fun p q e' t fs f h3 h4 h5 h6 => ?_)
   ·rw[hlen] at this; exact this
   ·rw[hlen] at hp
    have h3:p*zs.length+q<j.toNat*zs.length:=Gx2 (ij_lt hp hq) hnm
    have h4:=ij_div (i:=p) hq
    have h5:zv.cells[q]? = zs[q]? := by rw[←hz3]; simp
    simp only[madeCells,Gx1,hs,hzc]
    rw[Array.getElem?_map,Array.getElem?_range,if_pos h3]
    simp only[Gq1,h4.2,Gqf,Gqg hq,Option.getD_some]
    rw[Gqg hq] at h5
    exact congrArg some (by rw[getElem!_def,h5])
   ·rw[(List.mem_replicate.1 (Zk h3)).2] at h4
    rw[(List.mem_replicate.1 (Zk h5)).2] at h6
    rw[Gqk] at h4
    obtain⟨u,h7,rfl⟩:=Option.map_eq_some_iff.1 h4
    have h8:=(List.mem_replicate.1 (Zk h6)).2
    subst h8
    rw[Zi h7]
    exact ow_zT (Gqp.1 h1 u (Zk h7))
  ·have:(List.replicate i.toNat (List.replicate zs.length ([]:List Nat))).flatten.flatten = []:=Aqd
   refine⟨?_,trivial⟩
   show (w.heap.size::_).Nodup
   rw[this]
   simp
  ·intro b hb
   have:(List.replicate i.toNat (List.replicate zs.length ([]:List Nat))).flatten.flatten = []:=Aqd
   simp only[Pc.fp,this,Gxd] at hb
   omega
theorem Vi {e:TypeId} {zs:List Value} {by_:Nat} [hm:TyMake P t e zs by_] {k':IntKind} (kk:Nat) (ho:o.op = .makeSlice t y z) (hg:o.guard=none) (hy:st.ev y = .o (.c (.rd ps (.v (.int k i))))) (hz:st.ev z = .o (.c (.rd qs (.v (.int k' i)))))
  (h0:0≤i) (hb:(by_:Int)*i≤281474976710656) (h63:i≤9223372036854775807) (h1:zs.all (·.oneCell')=true) (hz0:zs ≠ []):Qt P ops o st (.o (.c (.ref n))) [.row zs.length (List.replicate i.toNat (zs.map (zT kk)))] n :=
 q_makec kk ho hg hy hz h0 (Int.le_refl _) hb h63 h1 hz0
end

/-! ### Calls -/
class FunOk (P:Program) (f:FuncId):Prop where
 ok : (P.funcs[f]?).map (fun fn => !(fn.name == "runtime.NumGoroutine") && fn.body.isSome) = some true
theorem run_callFunc {f:FuncId} [hf:FunOk P f] (args:Array Value):(callFunc f args).run P w = .ok (.enter f args) w:=by
 obtain⟨fn,h1,h2⟩:=Option.map_eq_some_iff.1 hf.ok
 simp only[Gqh,Gq6] at h2
 obtain⟨h3,h4⟩:=h2
 obtain⟨c,h5⟩:=Option.isSome_iff_exists.1 h4
 have h6 : ¬ fn.name = "runtime.NumGoroutine" := by simpa using h3
 simp[callFunc,h1,h6,h5]

def sbE:List V1→Option (List (List T))
 | []=>some []
 | .rd _ (.v u)::r=>match sbE r with
  |some es=>some ([.v u]::es)
  |none=>none
 |_=>none
theorem sbE_ok:∀ (cs:List V1) (es:List (List T)),sbE cs=some es→es.length=cs.length∧∀ (i:Nat) (e:List T),es[i]? = some e→∃ ps u,cs[i]? = some (.rd ps (.v u))∧e = [.v u]
 | [],es,h=>by simp[sbE] at h; subst h; exact⟨rfl,fun i e hi=>by simp at hi⟩
 | c::cs,es,h=>by
  unfold sbE at h
  split at h
  ·rename_i e; cases e
  ·rename_i ps u r e
   simp only[List.cons.injEq] at e
   obtain⟨rfl,rfl⟩:=e
   split at h
   ·rename_i es' h1
    simp only[Option.some.injEq] at h
    subst h
    obtain⟨h2,h3⟩:=sbE_ok cs es' h1
    refine⟨by simp[h2],fun i e hi=>?_⟩
    cases i with
    |zero=>simp at hi; exact⟨ps,u,rfl,hi.symm⟩
    |succ i=>exact h3 i e Bxi
   ·cases h
  ·cases h
def sbA:List V1→Option (List (List T))
 | []=>some []
 | .rd _ t::r=>match sbA r with
  |some es=>some ([t]::es)
  |none=>none
 |_=>none
theorem sbA_ok:∀ (cs:List V1) (es:List (List T)),sbA cs=some es→es.length=cs.length∧∀ (i:Nat) (e:List T),es[i]? = some e→∃ ps t,cs[i]? = some (.rd ps t)∧e = [t]
 | [],es,h=>by simp[sbA] at h; subst h; exact⟨rfl,fun i e hi=>by simp at hi⟩
 | c::cs,es,h=>by
  unfold sbA at h
  split at h
  ·rename_i e; cases e
  ·rename_i ps u r e
   simp only[List.cons.injEq] at e
   obtain⟨rfl,rfl⟩:=e
   split at h
   ·rename_i es' h1
    simp only[Option.some.injEq] at h
    subst h
    obtain⟨h2,h3⟩:=sbA_ok cs es' h1
    refine⟨by simp[h2],fun i e hi=>?_⟩
    cases i with
    |zero=>simp at hi; exact⟨ps,u,rfl,hi.symm⟩
    |succ i=>exact h3 i e Bxi
   ·cases h
  ·cases h
theorem sbA_of:∀ (cs:List V1) (es:List (List T)),sbE cs=some es→sbA cs=some es
 | [],es,h=>h
 | c::cs,es,h=>by
  unfold sbE at h
  split at h
  ·rename_i e; cases e
  ·rename_i ps u r e
   simp only[List.cons.injEq] at e
   obtain⟨rfl,rfl⟩:=e
   split at h
   ·rename_i es' h1
    rw[sbA,sbA_of cs es' h1]
    exact h
   ·cases h
  ·cases h
def lend (objs:List Ob):V1→V1
 | .rd _ x => .rd [] x
 | .ref p=>match objs.getD p .gone with
  | .row k es => .rd [] (.sl k es)
  |_ => .un
 | .sb p _ 1=>match objs.getD p .gone with
  | .box cs=>match sbA cs with
   |some es => .rd [] (.sl 1 es)
   |none => .un
  |_ => .un
 |_ => .un
def lend2 (objs:List Ob):V→V2
 | .o (.c x) => .c (lend objs x)
 | .o (.ag xs) => .ag (xs.map (lend objs))
 | .tu _ => .c .un
 | .iff _ _ => .c .un
def V1.closed:V1→Bool
 | .rd _ (.sl _ _)=>false
 | .rp _ _=>false
 | .un=>true
 |_=>true
def V2.closed:V2→Bool
 | .c x=>x.closed
 | .ag xs=>xs.all V1.closed
def V.closed:V→Bool
 | .o x=>x.closed
 | .tu xs=>xs.all V2.closed
 | .iff _ x=>x.closed
def Ob.closed:Ob→Bool
 | .box cs=>cs.all V1.closed
 | .gh _ _=>false
 | .lk _ _=>false
 |_=>true

def sub (H H1:Hs) (n m:Nat):Hs:=fun p=>if n≤p∧p<n+m then H1 (p-n) else H p

theorem lend_ok {H1:Hs} (h:R0 w H F st a) {x:V1} {v:Value} (hx:R1 w H F x v):R1 w H1 (fun b=>b<w.heap.size) (lend st.objs x) v:=by
 cases x with
 |rd ps x=>exact RO.weak hx fun b _ hb => .inl hb
 | ref p =>
  have h1:=h.obs p
  simp only[lend]
  cases ho:st.objs.getD p .gone with
  |row k es =>
   rw[ho] at h1
   obtain⟨u,fp,e⟩:=h1
   obtain⟨x,fp',e'⟩:=hx
   have h2:=h.ok.says p
   rw[e] at h2 e'
   simp only[Pc.ow.injEq] at e'
   obtain⟨_,rfl,_⟩:=e'
   exact RO.weak (OW.ro h2) fun b _ hb => .inl hb
  |gone=>trivial
  |hole=>trivial
  |box cs=>trivial
  |gh i x=>trivial
  |lk x y=>trivial
 |ptr=>trivial
 | sb p n' k =>
  unfold lend
  split
  ·rename_i e; cases e
  ·rename_i e; cases e
  ·rename_i p' n'' e
   simp only[V1.sb.injEq] at e
   obtain⟨rfl,rfl,rfl⟩:=e
   split
   ·rename_i cs ho
    split
    ·rename_i es hs
     obtain⟨g,t,vs,e1,e2,e3,rfl⟩:=hx
     have h1:=h.obs p
     rw[ho] at h1
     obtain⟨g',t',vs',e4,hl,hr⟩:=h1
     rw[e1] at e4
     simp only[Pc.box.injEq] at e4
     obtain⟨rfl,rfl,rfl⟩:=e4
     have hsay:=h.ok.says p
     rw[e1] at hsay
     obtain⟨k1,k2⟩:=sbA_ok _ _ hs
     have hlen:es.length=n':=by rw[k1,←hl,e2,Nat.mul_one]
     rw[←hlen]
     refine .sl es g 0 1 es.length (fun i _=>vs.getD i undef) (.inl ?_) (Gqi _) (by rw[hlen]; exact e3) Aqa (fun e he=>?_) (fun i j hi hj=>?_) fun i j e t' hi hj => ?_
     ·exact (Array.getElem?_eq_some_iff.1 hsay).1
     ·obtain⟨i,hi⟩:=List.getElem?_of_mem he
      obtain⟨_,_,_,k4⟩:=k2 i e hi
      rw[k4]; rfl
     ·have hj0:j=0:=Aqa
      subst hj0
      have hlt:i<vs.length:=by rw[hl,←k1]; exact hi
      rw[cell_of_row w g _ vs.toArray t (0,0) hsay]
      simp[Gqf,hlt]
     ·obtain⟨ps,u,k3,k4⟩:=k2 i e hi
      subst k4
      cases j with
      |succ j=>simp at hj
      |zero =>
       simp only[Gxf,Option.some.injEq] at hj
       subst hj
       have hlt:i<vs.length:=by rw[hl]; exact Zj k3
       obtain⟨k5,k6⟩:=hr i _ _ k3 (Gqg hlt)
       rw[Zi (Gqg hlt)]
       exact RO.weak k5 fun b _ hb => .inl hb
    ·trivial
   ·trivial
  ·trivial
 |el=>trivial
 |rp=>trivial
 |le=>trivial
 |hd=>trivial
 |tl=>trivial
 |un=>trivial
theorem lend2_ok {H1:Hs} (h:R0 w H F st a) {x:V} {v:Value} (hx:RV w H F x v):R2 w H1 (fun b=>b<w.heap.size) (lend2 st.objs x) v:=by
 cases x with
 | o x=>cases x with
  |c x=>exact lend_ok h hx
  |ag xs =>
   obtain⟨us,e,hl,hc⟩:=hx
   refine⟨us,e,by simpa using hl,fun i x u hi hu=>?_⟩
   rw[Gqk] at hi
   obtain⟨c,h1,rfl⟩:=Option.map_eq_some_iff.1 hi
   exact lend_ok h (hc i c u h1 hu)
 |tu=>trivial
 |iff=>trivial

section
variable {H1:Hs} {F1:Nat→Prop} {m:Nat}
theorem sub_in {q:Nat} (hq:q<m):sub H H1 n m (n+q)=H1 q:=by
 unfold sub
 rw[if_pos Aqa]
 congr 1
 omega
theorem plant1 (hm:∀ q,m≤q→H1 q = .nil) {x:V1} {v:Value} (hc:x.closed=true) (hx:R1 w H1 F1 x v):R1 w (sub H H1 n m) F (x.ren (n+·)) v:=by
 have hlt:∀ q,H1 q ≠ .nil→q<m:=fun q hq=>(Gqr q m).resolve_right fun h=>hq (hm q h)
 cases x with
 |rd ps x =>
  cases x with
  |v x=>obtain⟨rfl,h⟩:=RO.plain hx; exact RO.v _ h
  |sl k es=>simp[V1.closed] at hc
  |un=>exact RO.un _ (RO.one hx)
 |ref q=>obtain⟨x,fp,e⟩:=hx; exact⟨x,fp,by rw[sub_in (hlt q Bqy),e]⟩
 |ptr q i=>obtain⟨g,t,vs,e,hv⟩:=hx; exact⟨g,t,vs,by rw[sub_in (hlt q Bqy),e],hv⟩
 |sb q i j=>obtain⟨g,t,vs,e,hv⟩:=hx; exact⟨g,t,vs,by rw[sub_in (hlt q Bqy),e],hv⟩
 |el q k i j=>obtain⟨b,o,n',c,x,fp,e,hv⟩:=hx; exact⟨b,o,n',c,x,fp,by rw[sub_in (hlt q Bqy),e],hv⟩
 |rp=>simp[V1.closed] at hc
 |le q k i j=>obtain⟨b,o,n',c,x,fp,e,hv⟩:=hx; exact⟨b,o,n',c,x,fp,by rw[sub_in (hlt q Bqy),e],hv⟩
 |hd q i=>obtain⟨A,m',c,x,fp,e,hv⟩:=hx; exact⟨A,m',c,x,fp,by rw[sub_in (hlt q Bqy),e],hv⟩
 |tl q k i=>obtain⟨A,A',m',c,x,fp,e,hv⟩:=hx; exact⟨A,A',m',c,x,fp,by rw[sub_in (hlt q Bqy),e],hv⟩
 |un=>trivial
theorem plant2 (hm:∀ q,m≤q→H1 q = .nil) {x:V2} {v:Value} (hc:x.closed=true) (hx:R2 w H1 F1 x v):R2 w (sub H H1 n m) F (x.ren (n+·)) v:=by
 cases x with
 |c x=>exact plant1 hm hc hx
 |ag xs =>
  obtain⟨us,e,hl,hr⟩:=hx
  refine⟨us,e,by simpa using hl,fun i x u hi hu=>?_⟩
  rw[Gqk] at hi
  obtain⟨c,h1,rfl⟩:=Option.map_eq_some_iff.1 hi
  exact plant1 hm (Gqp.1 hc c (Zk h1)) (hr i c u h1 hu)
theorem plantV (hm:∀ q,m≤q→H1 q = .nil) {x:V} {v:Value} (hc:x.closed=true) (hx:RV w H1 F1 x v):RV w (sub H H1 n m) F (x.ren (n+·)) v:=by
 cases x with
 |o x=>exact plant2 hm hc hx
 |tu xs =>
  obtain⟨us,e,hl,hr⟩:=hx
  refine⟨us,e,by simpa using hl,fun i x u hi hu=>?_⟩
  rw[Gqk] at hi
  obtain⟨c,h1,rfl⟩:=Option.map_eq_some_iff.1 hi
  exact plant2 hm (Gqp.1 hc c (Zk h1)) (hr i c u h1 hu)
 |iff cs x=>exact⟨fun h=>plant2 hm hc (hx.1 h),hx.2⟩
theorem plantB (hm:∀ q,m≤q→H1 q = .nil) {ob:Ob} {q:Nat} (hq:q<m) (hc:ob.closed=true) (hx:RB w H1 F1 q ob):RB w (sub H H1 n m) F (n+q) (ob.ren (n+·)):=by
 cases ob with
 |gone=>exact (sub_in hq).trans hx
 |hole=>trivial
 |box cs =>
  obtain⟨g,t,vs,e,hl,hr⟩:=hx
  refine⟨g,t,vs,(sub_in hq).trans e,by simpa using hl,fun i c u hi hu=>?_⟩
  rw[Gqk] at hi
  obtain⟨c',h1,rfl⟩:=Option.map_eq_some_iff.1 hi
  exact⟨plant1 hm (Gqp.1 hc c' (Zk h1)) (hr i c' u h1 hu).1,(hr i c' u h1 hu).2⟩
 |row k es=>obtain⟨v,fp,e⟩:=hx; exact⟨v,fp,(sub_in hq).trans e⟩
 |gh i x=>simp[Ob.closed] at hc
 |lk x y=>simp[Ob.closed] at hc
end

theorem call_at {f:FuncId} [hf:FunOk P f] {ass:Array Operand} {ts:Array TypeId} {args:List V2} {objs':List Ob} {res:V} {a:Act} {w:World} {H:Hs} {F:Nat→Prop} {Q:Exit→Act→World→Prop} {K:Act→World→Prop} (ho:o.op = .call { callee := .value (.func f),args:=ass,argTypes:=ts }) (hg:o.guard=none)
  (hc:ConAt P f [] args objs' res w) (ha:ass.toList.map (fun y=>lend2 st.objs (st.ev y))=args) (hcl:res.closed=true) (hob:objs'.all Ob.closed=true) (hr:R0 w H F st a) (hfree:∀ i,i<(objs'.map (Ob.ren (n+·))).length→H (n+i) = .nil)
  (hK:∀ v w' H' F',Grow w H F w' H' F'→Ok w' H' F'→(∀ i ob,(objs'.map (Ob.ren (n+·)))[i]? = some ob→RB w' H' F' (n+i) ob)→(∀ p,H p = .nil→(p<n∨n+(objs'.map (Ob.ren (n+·))).length≤p)→H' p = .nil)→RV w' H' F' (res.ren (n+·)) v→K (a.put o.dst v) w') :
  if Region.wanted o (yielded ops a.tmps)=true then o.wp P a w K Q else K (a.put o.dst undef) w:=by
 rw[if_pos Bq6]
 have hrun:(execOp a.eval o).run P w = .ok (.enter f (ass.toList.map a.eval).toArray) w:=by
  unfold execOp
  simp only[ho,resolve,Act.eval,Deferred.ofValue,Sem.run_bind,Sem.run_pure,Result.andThen_ok,invoke]
  rw[show (#[]++ass.map a.eval++#[])=(ass.toList.map a.eval).toArray by
   apply Array.ext'
   simp]
  exact run_callFunc _
 unfold Oper.wp
 rw[hrun]
 have hok1:Ok w (fun _=>Pc.nil) (fun b=>b<w.heap.size):=⟨fun _=>trivial,fun _=>by simp[Pc.fp],fun p q b h=>by simp[Pc.fp] at h,fun p b h=>by simp[Pc.fp] at h,fun _ h=>h⟩
 refine (hc (fun _ => .nil) (fun b=>b<w.heap.size) (ass.toList.map a.eval) hok1 (fun p=>by simp[RB]) (by rw[←ha]; simp) fun i x v hx hv=>?_).mono ?_
 ·rw[←ha,Gqk] at hx
  obtain⟨y,h1,rfl⟩:=Option.map_eq_some_iff.1 hx
  rw[Gqk,h1] at hv
  simp only[Gq1,Option.some.injEq] at hv
  subst hv
  exact lend2_ok hr (hr.ev y)
 ·rintro e w' ⟨H1,F1,rv,rfl,hsi,hok,hobs,hres⟩
  have hbel:Below w.heap.size w w':=⟨hsi.os,hsi.tape,hsi.output,hsi.size,fun b hb=>hsi.keep b hb fun p=>by simp[Pc.fp]⟩
  have hnew:∀ q b,b∈(H1 q).fp→w.heap.size≤b:=fun q b hb=>by
   rcases hsi.org q b hb with ⟨q',h⟩ | h
   ·simp[Pc.fp] at h
   ·exact h
  have hm:∀ q,objs'.length≤q→H1 q = .nil:=fun q hq=>by
   have:=hobs q
   simpa[Gqf,hq,RB] using this
  have hst:∀ p,(n≤p∧p<n+objs'.length)→H p = .nil:=fun p hp=>by
   have:=hfree (p-n) Bqz
   rwa[show n+(p-n)=p by omega] at this
  have hcase:∀ p,(n≤p∧p<n+objs'.length)∧sub H H1 n objs'.length p=H1 (p-n)∨¬(n≤p∧p<n+objs'.length)∧sub H H1 n objs'.length p=H p:=fun p=>by
   unfold sub
   by_cases h:n≤p∧p<n+objs'.length
   ·rw[if_pos h]; exact .inl ⟨h,rfl⟩
   ·rw[if_neg h]; exact .inr ⟨h,rfl⟩
  refine hK rv w' (sub H H1 n objs'.length) F ⟨hbel,fun p hp=>?_,fun _ h=>h,fun _ h => .inl h,fun p hp b hb=>?_,fun p i v hp=>?_⟩ ⟨fun p=>?_,fun p=>?_,fun p q b h1 h2=>?_,fun p b h1 h2=>?_,fun b hb=>Gx2 (hr.ok.flt b hb) hsi.size⟩ (fun i ob hi=>?_) (fun p hp hh=>?_) (plantV hm hcl hres)
  ·rcases hcase p with ⟨h,e⟩ | ⟨h,e⟩
   ·exact absurd (hst p h) hp
   ·exact e
  ·rcases hcase p with ⟨h,e⟩ | ⟨h,e⟩
   ·rw[e] at hb; exact hnew _ b hb
   ·rw[e,hp] at hb; simp[Pc.fp] at hb
  ·rcases hcase p with ⟨h,e⟩ | ⟨h,e⟩
   ·obtain⟨q,hq⟩:=hsi.gh _ i v (e▸hp); cases hq
   ·exact⟨p,e▸hp⟩
  ·rcases hcase p with ⟨h,e⟩ | ⟨h,e⟩
   ·rw[e]; exact hok.says _
   ·rw[e]; exact Pc.frame (fun b hb=>hbel.block b (hr.ok.lt hb)) (hr.ok.says p)
  ·rcases hcase p with ⟨h,e⟩ | ⟨h,e⟩
   ·rw[e]; exact hok.nodup _
   ·rw[e]; exact hr.ok.nodup p
  ·rcases hcase p with ⟨h,e⟩ | ⟨h,e⟩ <;> rcases hcase q with ⟨h',e'⟩ | ⟨h',e'⟩ <;> rw[e] at h1 <;> rw[e'] at h2
   ·have:=hok.disj _ _ b h1 h2; omega
   ·have:=hnew _ b h1; have:=hr.ok.lt h2; omega
   ·have:=hnew _ b h2; have:=hr.ok.lt h1; omega
   ·exact hr.ok.disj p q b h1 h2
  ·rcases hcase p with ⟨h,e⟩ | ⟨h,e⟩ <;> rw[e] at h1
   ·have:=hnew _ b h1; have:=hr.ok.flt b h2; omega
   ·exact hr.ok.free p b h1 h2
  ·rw[Gqk] at hi
   obtain⟨ob',h1,rfl⟩:=Option.map_eq_some_iff.1 hi
   have h2:=hobs i
   rw[Zi h1] at h2
   exact plantB hm (Zj h1) (Gqp.1 hob ob' (Zk h1)) h2
  ·rcases hcase p with ⟨h,e⟩ | ⟨h,e⟩
   ·simp only[List.length_map] at hh; omega
   ·rw[e,hp]
theorem Kr {f:FuncId} [hf:FunOk P f] {ass:Array Operand} {ts:Array TypeId} {args:List V2} {objs':List Ob} {res:V} (ho:o.op = .call { callee := .value (.func f),args:=ass,argTypes:=ts }) (hg:o.guard=none)
  (hc:Con P f [] args objs' res) (ha:ass.toList.map (fun y=>lend2 st.objs (st.ev y))=args) (hcl:res.closed=true) (hob:objs'.all Ob.closed=true):Qt P ops o st (res.ren (n+·)) (objs'.map (Ob.ren (n+·))) n :=
 ⟨fun a w H F Q K hr hfree hK=>call_at ho hg (hc w) ha hcl hob hr hfree hK⟩
end
end
end Go.Proofs.YtalaljeokcpfnaaGreat
