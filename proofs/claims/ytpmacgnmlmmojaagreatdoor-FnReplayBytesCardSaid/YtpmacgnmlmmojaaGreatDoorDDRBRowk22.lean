/-
  Rules, data and contracts of functions: part 23 of the proof.
  Conditions: those that each theorem names.
-/
import Derived.Test.YtpmacgnmlmmojaaGreatDoorDDRBRowk18
import Derived.Test.YtpmacgnmlmmojaaGreatDoorDDRBRowk21
set_option linter.unusedSimpArgs false
set_option linter.unusedVariables false
set_option maxRecDepth 8000
set_option maxHeartbeats 8000000
namespace Go.Proofs.YtpmacgnmlmmojaaGreatDoor
section
open Go.RowKit

section
variable {P:Program} {E:Env} {ops:Array Oper} {o:Oper} {st:St} {n:Nat} {rest:List Oper} {QQ:Exit→St→Prop} {w w':World} {H H':Hs} {F F':Nat→Prop} {a:Act}
theorem inP.moreF (hF:∀ b,F b→F' b) {ps:List Nat} {b:Nat} (h:inP H F ps b):inP H F' ps b:=by
 rcases h with h | h
 ·exact .inl (hF b h)
 ·exact .inr h
theorem R1.moreF (hF:∀ b,F b→F' b) {x:V1} {v:Value} (h:R1 w H F x v):R1 w H F' x v:=by
 cases x with
 |rd ps x=>exact RO.weak h fun b hb _=>hb.moreF hF
 |rp ps xs =>
  obtain⟨b,o,e,hb,hr⟩:=h
  exact⟨b,o,e,hb.moreF hF,fun j t hj=>by obtain⟨u,h1,h2⟩:=hr j t hj; exact⟨u,h1,h2.weak fun b hb _=>hb.moreF hF⟩⟩
 |_=>exact h
theorem R0.mapkF (h:R0 w H F st a) (k:V1→V1) (hk:∀ x v,R1 w H F x v→R1 w' H' F' (k x) v) (hok:Ok w' H' F') (objs':List Ob) (hob:∀ p,RB w' H' F' p (objs'.getD p .gone)) :
  R0 w' H' F' ⟨st.n,st.tmps.map fun e=>(e.1,e.2.mapk k),objs'⟩ a:=by
 refine⟨hok,hob,fun d => ?_,h.size,h.defers⟩
 have hl:∀ l:List (Nat×V),RV w H F (look l d) (a.tmps.getD d undef)→RV w' H' F' (look (l.map fun e=>(e.1,e.2.mapk k)) d) (a.tmps.getD d undef):=by
  intro l
  induction l with
  |nil=>intro _; trivial
  |cons e l ih =>
   obtain⟨e1,e2⟩:=e
   rw[List.map_cons,Zu,Zu]
   split
   ·exact RV.mapk hk
   ·exact ih
 exact hl _ (h.tmp d)
def lendF1 (ρ:List Nat):V1→V1
 | .rd [] x => .rd [] x
 | .rd _ (.v u) => .rd [] (.v u)
 | .ptr p i=>match idxN ρ p 0 with
  |some q => .ptr q i
  |none => .un
 | .ref p=>match idxN ρ p 0 with
  |some q => .ref q
  |none => .un
 |_ => .un
def lendF (ρ:List Nat):V→V2
 | .o (.c x) => .c (lendF1 ρ x)
 | .o (.ag xs) => .ag (xs.map (lendF1 ρ))
 |_ => .c .un
theorem lendF1_ok {ρ:List Nat} {H1:Hs} (a1:∀ q p,ρ[q]? = some p→H1 q=H p) {x:V1} {v:Value} (hx:R1 w H F x v):R1 w H1 F (lendF1 ρ x) v:=by
 unfold lendF1
 split
 ·exact RO.weak hx fun b hb _=>by
   rcases hb with h | ⟨p,hp,_⟩
   ·exact .inl h
   ·cases hp
 ·obtain⟨rfl,h⟩:=RO.plain hx
  exact RO.v _ h
 ·split
  ·rename_i p i _ q hq
   obtain⟨g,t,vs,e,hv⟩:=hx
   have h1:=(idxN_ok ρ p 0 q hq).2
   rw[Gx7] at h1
   exact⟨g,t,vs,by rw[a1 q p h1,e],hv⟩
  ·trivial
 ·split
  ·rename_i p _ q hq
   obtain⟨x,fp,e⟩:=hx
   have h1:=(idxN_ok ρ p 0 q hq).2
   rw[Gx7] at h1
   exact⟨x,fp,by rw[a1 q p h1,e]⟩
  ·trivial
 ·trivial
def V1.clF:V1→Bool
 | .rd [] _=>true
 | .rd _ (.sl _ _)=>false
 | .rp _ _=>false
 |_=>true
def V2.clF:V2→Bool
 | .c x=>x.clF
 | .ag xs=>xs.all V1.clF
def V.clF:V→Bool
 | .o x=>x.clF
 | .tu xs=>xs.all V2.clF
 | .iff _ x=>x.clF
def Ob.bkF:Ob→Bool
 | .box cs=>cs.all V1.clF
 | .row _ _=>true
 | .bl _ _ _=>true
 |_=>false
section
variable {H2:Hs} {F2:Nat→Prop} {φ:Nat→Nat}
theorem plantw1F (hpl:∀ q,H2 q ≠ .nil→(∀ i v,H2 q ≠ .gh i v)→H' (φ q)=H2 q) {x:V1} {v:Value} (hc:x.clF=true) (hx:R1 w H2 F2 x v):R1 w H' F2 (x.ren φ) v:=by
 cases x with
 | rd ps x =>
  cases ps with
  | nil =>
   exact RO.weak hx fun b hb _=>by
    rcases hb with h | ⟨p,hp,_⟩
    ·exact .inl h
    ·cases hp
  |cons p ps =>
   cases x with
   |v x=>obtain⟨rfl,h⟩:=RO.plain hx; exact RO.v _ h
   |sl k es=>simp[V1.clF] at hc
   |un=>exact RO.un _ (RO.one hx)
   |bl=>exact RO.bl _ _ _ _ (RO.one hx)
 |rp=>simp[V1.clF] at hc
 |ref q=>exact plantw1 hpl (x := .ref q) rfl hx
 |ptr q i=>exact plantw1 hpl (x := .ptr q i) rfl hx
 |sb q i j=>exact plantw1 hpl (x := .sb q i j) rfl hx
 |el q k i j=>exact plantw1 hpl (x := .el q k i j) rfl hx
 |le q k i j=>exact plantw1 hpl (x := .le q k i j) rfl hx
 |hd q i=>exact plantw1 hpl (x := .hd q i) rfl hx
 |tl q k i=>exact plantw1 hpl (x := .tl q k i) rfl hx
 |un=>trivial
theorem plantw2F (hpl:∀ q,H2 q ≠ .nil→(∀ i v,H2 q ≠ .gh i v)→H' (φ q)=H2 q) {x:V2} {v:Value} (hc:x.clF=true) (hx:R2 w H2 F2 x v):R2 w H' F2 (x.ren φ) v:=by
 cases x with
 |c x=>exact plantw1F hpl hc hx
 |ag xs =>
  obtain⟨us,e,hl,hr⟩:=hx
  refine⟨us,e,by simpa using hl,fun i x u hi hu => ?_⟩
  rw[Gqh] at hi
  obtain⟨c,h1,rfl⟩:=Option.map_eq_some_iff.1 hi
  exact plantw1F hpl (Gqk.1 hc c (Zl h1)) (hr i c u h1 hu)
theorem plantwVF (hpl:∀ q,H2 q ≠ .nil→(∀ i v,H2 q ≠ .gh i v)→H' (φ q)=H2 q) {x:V} {v:Value} (hc:x.clF=true) (hx:RV w H2 F2 x v):RV w H' F2 (x.ren φ) v:=by
 cases x with
 |o x=>exact plantw2F hpl hc hx
 |tu xs =>
  obtain⟨us,e,hl,hr⟩:=hx
  refine⟨us,e,by simpa using hl,fun i x u hi hu => ?_⟩
  rw[Gqh] at hi
  obtain⟨c,h1,rfl⟩:=Option.map_eq_some_iff.1 hi
  exact plantw2F hpl (Gqk.1 hc c (Zl h1)) (hr i c u h1 hu)
 |iff cs x=>exact⟨fun h=>plantw2F hpl hc (hx.1 h),hx.2⟩
theorem bkF_ng {q:Nat} {ob:Ob} (hb:ob.bkF=true) (h:RB w H2 F2 q ob):H2 q ≠ .nil∧∀ i v,H2 q ≠ .gh i v:=by
 cases ob with
 |box cs=>obtain⟨g,t,vs,e,_⟩:=h; rw[e]; simp
 |row k es=>obtain⟨v,fp,e⟩:=h; rw[e]; simp
 |bl=>obtain⟨v,fp,e⟩:=h; rw[e]; simp
 |_=>cases hb
theorem plantwBF (hpl:∀ q,H2 q ≠ .nil→(∀ i v,H2 q ≠ .gh i v)→H' (φ q)=H2 q) {q p:Nat} {ob:Ob} (hp:H' p=H2 q) (hb:ob.bkF=true) (h:RB w H2 F2 q ob):RB w H' F2 p (ob.ren φ):=by
 cases ob with
 |box cs =>
  obtain⟨g,t,vs,e,hl,hr⟩:=h
  refine⟨g,t,vs,hp.trans e,by simpa using hl,fun i c u hi hu => ?_⟩
  rw[Gqh] at hi
  obtain⟨c',h1,rfl⟩:=Option.map_eq_some_iff.1 hi
  exact⟨plantw1F hpl (Gqk.1 hb c' (Zl h1)) (hr i c' u h1 hu).1,(hr i c' u h1 hu).2⟩
 |row k es=>obtain⟨v,fp,e⟩:=h; exact⟨v,fp,hp.trans e⟩
 |bl=>obtain⟨v,fp,e⟩:=h; exact⟨v,fp,hp.trans e⟩
 |_=>cases hb
end
theorem L_lentF {f:FuncId} [hf:FunOk P f] {ass:Array Operand} {tys:Array TypeId} {args:List V2} {lo lo' new:List Ob} {gs gs':List (Nat×V2)} {res:V} (ρ:List Nat) (kq:List (Nat×Nat×V1)) (ho:o.op = .call { callee := .value (.func f),args:=ass,argTypes:=tys }) (hg:o.guard=none)
  (hc:Con P f (lo++gs.map gh1) args (lo'++(gs'.map gh1++new)) res) (hρ:nodupB ρ=true) (hlt:ρ.all (fun p=>Nat.blt p st.objs.length)=true) (hl1:lo.length=ρ.length) (hl2:lo'.length=ρ.length) (hl3:gs'.length=gs.length)
  (hlo:lo.map (Ob.ren (rho ρ st.objs.length))=ρ.map fun p=>st.objs.getD p .gone) (hgn:ρ.all (fun p=>(st.objs.getD p .gone).back || (match st.objs.getD p .gone with | .box _=>true | _=>false))=true) (ha:ass.toList.map (fun y=>lendF ρ (st.ev y))=args)
  (hgs:gs.map (fun g=>gsrc args lo g.1)=gs.map (fun g=>some g.2)) (hk1:kq.map (fun k=>gs[k.1]?.bind fun g=>pickC g.2 k.2.1)=kq.map (fun k=>some k.2.2)) (hk2:kq.map (fun k=>gs'[k.1]?)=kq.map (fun k=>gs[k.1]?)) (hk3:kq.all (fun k=>match plc k.2.2 with | some q=>Nat.blt q ρ.length | none=>false)=true)
  (hcl:res.clF=true) (hb1:lo'.all Ob.bkF=true) (hb2:new.all Ob.bkF=true) (hd:dstOk st.n o.dst=true)
  (h:AL P E ops QQ rest ⟨st.n,setT (st.tmps.map fun e=>(e.1,e.2.mapk (V1.killw (ρ++(List.range new.length).map (st.objs.length+·)) (kq.map fun k=>ρ.getD ((plc k.2.2).getD 0) 0)))) o.dst (res.ren (phi ρ gs.length st.objs.length)),
   setL (st.objs.map (Ob.mapk (V1.killw (ρ++(List.range new.length).map (st.objs.length+·)) (kq.map fun k=>ρ.getD ((plc k.2.2).getD 0) 0)))) ρ (lo'.map (Ob.ren (phi ρ gs.length st.objs.length)))++new.map (Ob.ren (phi ρ gs.length st.objs.length))⟩):AL P E ops QQ (o::rest) st:=by
 refine⟨fun a w ⟨H,F,hr,hsince⟩ => ?_⟩
 have hrun:(execOp a.eval o).run P w = .ok (.enter f (ass.toList.map a.eval).toArray) w:=by
  unfold execOp
  simp only[ho,resolve,Act.eval,Deferred.ofValue,Sem.run_bind,Sem.run_pure,Result.andThen_ok,invoke]
  rw[show (#[]++ass.map a.eval++#[])=(ass.toList.map a.eval).toArray by
   apply Array.ext'
   simp]
  exact run_callFunc _
 refine wpList_step fun K hK => ?_
 rw[if_pos (by unfold Region.wanted; rw[hg])]
 unfold Oper.wp
 rw[hrun]
 have hnd:ρ.Nodup:=Z0 hρ
 have hltN:∀ p∈ρ,p<st.objs.length:=fun p hp=>Gqq (Gqk.1 hlt p hp)
 have hnilN:∀ p,st.objs.length≤p→H p = .nil:=fun p hp=>by
  have:=hr.obs p
  simpa[Gqc,hp,RB] using this
 have hinj:∀ (i j p:Nat),ρ[i]? = some p→ρ[j]? = some p→i=j:=fun i j p h1 h2=>by
  obtain⟨a1,e1⟩:=Gqo.1 h1
  obtain⟨a2,e2⟩:=Gqo.1 h2
  rcases Nat.lt_trichotomy i j with hij | hij | hij
  ·exact absurd (e1.trans e2.symm) (List.pairwise_iff_getElem.1 hnd i j a1 a2 hij)
  ·exact hij
  ·exact absurd (e2.trans e1.symm) (List.pairwise_iff_getElem.1 hnd j i a2 a1 hij)
 obtain⟨vs,hvs⟩:∃ vs,vs=ass.toList.map a.eval:=⟨_,rfl⟩
 obtain⟨gv,hgv⟩:∃ gv:Nat→Value,gv=fun i=>match args[i]? with | some _=>vs.getD i undef | none=>pcV (H (ρ.getD (i-args.length) 0)):=⟨_,rfl⟩
 obtain⟨H1,hH1⟩:∃ H1:Hs,H1=fun q=>match ρ[q]? with | some p=>H p | none=>match gs[q-ρ.length]? with | some g=>if ρ.length≤q then .gh g.1 (gv g.1) else .nil | none => .nil:=⟨_,rfl⟩
 have a1:∀ q p,ρ[q]? = some p→H1 q=H p:=fun q p hq=>by rw[hH1]; simp only[hq]
 have a2:∀ j g,gs[j]? = some g→H1 (ρ.length+j) = .gh g.1 (gv g.1):=fun j g hj=>by
  rw[hH1]
  have:ρ[ρ.length+j]? = none:=List.getElem?_eq_none (by omega)
  simp only[this,Nat.add_sub_cancel_left,hj]
  rw[if_pos (by omega)]
 have a3:∀ q b,b∈(H1 q).fp→∃ p,ρ[q]? = some p∧b∈(H p).fp:=fun q b hb=>by
  cases hq:ρ[q]? with
  |some p=>rw[a1 q p hq] at hb; exact⟨p,rfl,hb⟩
  |none =>
   rw[hH1] at hb
   simp only[hq] at hb
   split at hb
   ·split at hb <;> simp[Pc.fp] at hb
   ·simp[Pc.fp] at hb
 have a4:∀ q i v,H1 q = .gh i v→(∃ p,ρ[q]? = some p∧H p = .gh i v)∨v=gv i:=fun q i v hq=>by
  cases hp:ρ[q]? with
  |some p=>rw[a1 q p hp] at hq; exact .inl ⟨p,rfl,hq⟩
  | none =>
   rw[hH1] at hq
   simp only[hp] at hq
   split at hq
   ·split at hq
    ·simp only[Pc.gh.injEq] at hq
     exact .inr (by rw[←hq.2,hq.1])
    ·cases hq
   ·cases hq
 obtain⟨F1,hF1⟩:∃ F1:Nat→Prop,F1=F:=⟨_,rfl⟩
 have hFF:∀ b,F b→F1 b:=fun b hb=>by rw[hF1]; exact hb
 have hsubH:∀ q,H (rho ρ st.objs.length q) ≠ .nil→H1 q=H (rho ρ st.objs.length q):=fun q hq=>by
  cases hp:ρ[q]? with
  |some p=>rw[a1 q p hp]; simp[rho,Gqc,hp]
  |none=>exact absurd (hnilN _ (by simp[rho,Gqc,hp])) hq
 have hgok:∀ p∈ρ,H p ≠ .nil∧∀ i v,H p ≠ .gh i v:=fun p hp=>by
  have h1:=Gqk.1 hgn p hp
  have h2:=hr.obs p
  cases ho:st.objs.getD p .gone with
  |box cs=>rw[ho] at h2; obtain⟨g,t,us,e,_⟩:=h2; rw[e]; simp
  |row k es=>rw[ho] at h2; obtain⟨v,fp,e⟩:=h2; rw[e]; simp
  |gone=>rw[ho] at h1; cases h1
  |hole=>rw[ho] at h1; cases h1
  |gh=>rw[ho] at h1; cases h1
  |shr=>rw[ho] at h1; cases h1
  |bl=>rw[ho] at h2; obtain⟨v,fp,e⟩:=h2; rw[e]; simp
 have hok1:Ok w H1 F1:=by
  refine⟨fun q => ?_,fun q => ?_,fun q r b h1 h2 => ?_,fun q b h1 h2 => ?_,fun b hb=>by rw[hF1] at hb; exact hr.ok.flt b hb⟩
  ·cases hp:ρ[q]? with
   |some p=>rw[a1 q p hp]; exact hr.ok.says p
   |none =>
    rw[hH1]
    simp only[hp]
    split
    ·split <;> trivial
    ·trivial
  ·cases hp:ρ[q]? with
   |some p=>rw[a1 q p hp]; exact hr.ok.nodup p
   |none =>
    rw[hH1]
    simp only[hp]
    split
    ·split <;> simp[Pc.fp]
    ·simp[Pc.fp]
  ·obtain⟨p,e1,e2⟩:=a3 q b h1
   obtain⟨p',e3,e4⟩:=a3 r b h2
   have:=hr.ok.disj p p' b e2 e4
   subst this
   exact hinj q r p e1 e3
  ·obtain⟨p,e1,e2⟩:=a3 q b h1
   rw[hF1] at h2
   exact hr.ok.free p b e2 h2
 have hargs1:∀ (i:Nat) (x:V2) (v:Value),args[i]? = some x→vs[i]? = some v→R2 w H1 F1 x v:=by
  intro i x v hx hv
  rw[←ha,Gqh] at hx
  obtain⟨y,h1,rfl⟩:=Option.map_eq_some_iff.1 hx
  rw[hvs,Gqh,h1] at hv
  simp only[Gqy,Option.some.injEq] at hv
  subst hv
  have h2:=hr.ev y
  have hl1:∀ {x:V1} {v:Value},R1 w H F x v→R1 w H1 F1 (lendF1 ρ x) v:=fun hx=>by rw[hF1]; exact lendF1_ok a1 hx
  cases he:st.ev y with
  | o x =>
   rw[he] at h2
   cases x with
   |c x=>exact hl1 h2
   |ag xs =>
    obtain⟨us,e,hl,hcs⟩:=h2
    refine⟨us,e,by simpa using hl,fun i x u hi hu => ?_⟩
    rw[Gqh] at hi
    obtain⟨c,h3,rfl⟩:=Option.map_eq_some_iff.1 hi
    exact hl1 (hcs i c u h3 hu)
  |tu xs=>trivial
  |iff cs x=>trivial
 have hgsat:∀ (j:Nat) (g:Nat×V2),gs[j]? = some g→gsrc args lo g.1=some g.2:=fun j g hj=>by
  have:=congrArg (·[j]?) hgs
  simpa[hj] using this
 have hvl:vs.length=args.length:=by rw[hvs,←ha]; simp
 have hvat:∀ (i:Nat) (x:V2),args[i]? = some x→vs[i]? = some (vs.getD i undef):=fun i x hx=>by
  have:i<vs.length:=by rw[hvl]; exact Zk hx
  simp[Gqc,this]
 have hobsL:∀ q (hq:q<ρ.length) (hq':q<lo.length),RB w H1 F1 q lo[q]:=by
  intro q hq hq'
  have hp:ρ[q]? = some ρ[q]:=Gqd hq
  have hlq:lo[q]? = some (lo[q]'(by omega)):=Gqd (by omega)
  have h1:=congrArg (·[q]?) hlo
  simp only[Gqh,hlq,hp,Gqy,Option.some.injEq] at h1
  have h2:=hr.obs ρ[q]
  rw[←h1] at h2
  have hf:rho ρ st.objs.length q=ρ[q]:=by simp[rho,Gqc,hq]
  have h3:RB w (fun p=>H (rho ρ st.objs.length p)) F q (lo[q]'(by omega)):=RB.ren (f:=rho ρ st.objs.length) (by rw[hf]; exact h2)
  exact RB.sub (H:=fun p=>H (rho ρ st.objs.length p)) hsubH hFF (by simp only[hf]; exact (hgok _ (Gql hq)).1) h3
 have hgat:∀ (j:Nat) (g:Nat×V2),gs[j]? = some g→R2 w H1 F1 g.2 (gv g.1):=fun j g hj=>by
  have h1:=hgsat j g hj
  unfold gsrc at h1
  rw[hgv]
  cases ha1:args[g.1]? with
  |some x =>
   rw[ha1] at h1
   simp only[Option.some.injEq] at h1
   subst h1
   simp only[ha1]
   exact hargs1 _ _ _ ha1 (hvat _ _ ha1)
  | none =>
   rw[ha1] at h1
   simp only[ha1]
   simp only at h1
   split at h1
   ·rename_i k es hlo1
    have hq:=Zk hlo1
    have hq1:g.1-args.length<ρ.length:=by omega
    have h2:=hobsL _ hq1 hq
    rw[(Gqo.1 hlo1).2] at h2
    obtain⟨v,fp,e⟩:=h2
    have h3:=a1 (g.1-args.length) (ρ[g.1-args.length]) (Gqd hq1)
    rw[show ρ.getD (g.1-args.length) 0=ρ[g.1-args.length] by simp[Gqc,hq1],←h3,e]
    simp only[Option.some.injEq] at h1
    rw[←h1]
    exact⟨_,_,e⟩
   ·cases h1
 have hobs1:∀ q,RB w H1 F1 q ((lo++gs.map gh1).getD q .gone):=by
  intro q
  rcases Gqp q ρ.length with hq | hq
  ·rw[show (lo++gs.map gh1).getD q .gone=lo[q]'(by omega) by simp[Gqc,Gqz (show q<lo.length by omega),hl1,hq]]
   exact hobsL q hq (by omega)
  ·cases hj:gs[q-ρ.length]? with
   |some g =>
    rw[show (lo++gs.map gh1).getD q .gone=gh1 g by simp[Gqc,Gq4 (show lo.length≤q by omega),hl1,hj]]
    have h1:=a2 _ g hj
    rw[show ρ.length+(q-ρ.length)=q by omega] at h1
    exact⟨_,h1,hgat _ g hj⟩
   |none =>
    rw[show (lo++gs.map gh1).getD q .gone = .gone by simp[Gqc,Gq4 (show lo.length≤q by omega),hl1,hj]]
    show H1 q = .nil
    rw[hH1]
    have:ρ[q]? = none:=List.getElem?_eq_none (by omega)
    simp only[this,hj]
 rw[←hvs]
 refine (hc w H1 F1 vs hok1 hobs1 hvl hargs1).mono ?_
 rintro e w' ⟨H2,F2,rv,rfl,hsi,hok2,hobs2,hres⟩
 -- the pieces that come back
 have hoL:∀ q,q<ρ.length→∃ ob,lo'[q]? = some ob∧ob.bkF=true∧RB w' H2 F2 q ob:=fun q hq=>by
  have hlq:lo'[q]? = some (lo'[q]'(by omega)):=Gqd (by omega)
  have h1:=hobs2 q
  rw[show (lo'++(gs'.map gh1++new)).getD q .gone=lo'[q]'(by omega) by simp[Gqc,Gqz (show q<lo'.length by omega),hl2,hq]] at h1
  exact⟨_,hlq,Gqk.1 hb1 _ (Gql _),h1⟩
 have hoG:∀ (j:Nat) (g:Nat×V2),gs'[j]? = some g→∃ v,H2 (ρ.length+j) = .gh g.1 v∧R2 w' H2 F2 g.2 v:=fun j g hj=>by
  have h1:=hobs2 (ρ.length+j)
  rw[show (lo'++(gs'.map gh1++new)).getD (ρ.length+j) .gone=gh1 g by
   have:j<(gs'.map gh1).length:=by simpa using Zk hj
   simp[Gqc,Gq4 (show lo'.length≤ρ.length+j by omega),hl2,Gqz this,hj]] at h1
  exact h1
 have hoN:∀ r ob,new[r]? = some ob→RB w' H2 F2 (ρ.length+gs.length+r) ob:=fun r ob hj=>by
  have h1:=hobs2 (ρ.length+gs.length+r)
  rw[show (lo'++(gs'.map gh1++new)).getD (ρ.length+gs.length+r) .gone=ob by
   simp[Gqc,Gq4 (show lo'.length≤ρ.length+gs.length+r by omega),hl2,Gq4 (show (gs'.map gh1).length≤gs.length+r by simp[hl3]),show ρ.length+gs.length+r-ρ.length=gs.length+r by omega,hl3,hj]] at h1
  exact h1
 have hoX:∀ q,ρ.length+gs.length+new.length≤q→H2 q = .nil:=fun q hq=>by
  have h1:=hobs2 q
  rw[show (lo'++(gs'.map gh1++new)).getD q .gone = .gone by rw[Gqc,List.getElem?_eq_none (by simp; omega)]; rfl] at h1
  exact h1
 obtain⟨H',hH'⟩:∃ H':Hs,H'=fun p=>match idxN ρ p 0 with | some q=>H2 q | none=>if st.objs.length≤p then H2 (ρ.length+gs.length+(p-st.objs.length)) else H p:=⟨_,rfl⟩
 have b1:∀ q p,ρ[q]? = some p→H' p=H2 q:=fun q p hq=>by
  rw[hH']
  cases hi:idxN ρ p 0 with
  |some q' =>
   obtain⟨_,h2⟩:=idxN_ok ρ p 0 q' hi
   rw[Gx7] at h2
   simp only[hi]
   rw[hinj q q' p hq h2]
  |none=>exact absurd (Zl hq) (idxN_none ρ p 0 hi)
 have bn:∀ p,p∉ρ→idxN ρ p 0=none:=fun p hp=>by
  cases hi:idxN ρ p 0 with
  |none=>rfl
  |some q'=>exact absurd (Zl (idxN_ok ρ p 0 q' hi).2) hp
 have b2:∀ p,p∉ρ→p<st.objs.length→H' p=H p:=fun p hp hlt=>by
  rw[hH']
  simp only[bn p hp]
  rw[if_neg (by omega)]
 have b3:∀ r,H' (st.objs.length+r)=H2 (ρ.length+gs.length+r):=fun r=>by
  have hp:st.objs.length+r∉ρ:=fun hm=>by have:=hltN _ hm; omega
  rw[hH']
  simp only[bn _ hp]
  rw[if_pos (by omega),Nat.add_sub_cancel_left]
 -- where each piece comes from
 have hcase:∀ p,(∃ q,H' p=H2 q∧(ρ[q]? = some p∨(st.objs.length≤p∧q=ρ.length+gs.length+(p-st.objs.length))))∨(p∉ρ∧p<st.objs.length∧H' p=H p):=fun p=>by
  by_cases hp:p∈ρ
  ·obtain⟨q,hq⟩:=List.getElem?_of_mem hp
   exact .inl ⟨q,b1 q p hq,.inl hq⟩
  ·rcases Gqp p st.objs.length with h1 | h1
   ·exact .inr ⟨hp,h1,b2 p hp h1⟩
   ·have h2:=b3 (p-st.objs.length)
    rw[show st.objs.length+(p-st.objs.length)=p by omega] at h2
    exact .inl ⟨_,h2,.inr ⟨h1,J⟩⟩
 have hfp2:∀ q b,b∈(H2 q).fp→(∃ p∈ρ,b∈(H p).fp)∨w.heap.size≤b:=fun q b hb=>by
  rcases hsi.org q b hb with ⟨q',h1⟩ | h1
  ·obtain⟨p,e1,e2⟩:=a3 q' b h1
   exact .inl ⟨p,Zl e1,e2⟩
  ·exact .inr h1
 have hblk:∀ b,b<w.heap.size→(∀ p∈ρ,b∉(H p).fp)→w'.heap[b]? = w.heap[b]? := fun b h1 h2=>hsi.keep b h1 fun q hq=>by
  obtain⟨p,e1,e2⟩:=a3 q b hq
  exact h2 p (Zl e1) e2
 have hold:∀ p b,p∉ρ→b∈(H p).fp→w'.heap[b]? = w.heap[b]? := fun p b hp hb=>hblk b (hr.ok.lt hb) fun r hr' hb'=>hp (hr.ok.disj p r b hb hb'▸hr')
 have hok':Ok w' H' F:=by
  refine⟨fun p => ?_,fun p => ?_,fun p r b h1 h2 => ?_,fun p b h1 h2 => ?_,fun b hb=>Gxv (hr.ok.flt b hb) hsi.size⟩
  ·rcases hcase p with ⟨q,e,_⟩ | ⟨h1,_,e⟩
   ·rw[e]; exact hok2.says q
   ·rw[e]; exact Pc.frame (fun b hb=>hold p b h1 hb) (hr.ok.says p)
  ·rcases hcase p with ⟨q,e,_⟩ | ⟨_,_,e⟩
   ·rw[e]; exact hok2.nodup q
   ·rw[e]; exact hr.ok.nodup p
  ·rcases hcase p with ⟨q,e,hq⟩ | ⟨n1,l1,e⟩ <;> rcases hcase r with ⟨q',e',hq'⟩ | ⟨n2,l2,e'⟩ <;> rw[e] at h1 <;> rw[e'] at h2
   ·have:=hok2.disj q q' b h1 h2
    subst this
    rcases hq with hq | ⟨hq,hq2⟩ <;> rcases hq' with hq' | ⟨hq',hq2'⟩
    ·rw[hq] at hq'; exact Option.some.inj hq'
    ·have:=Zk hq; omega
    ·have:=Zk hq'; omega
    ·omega
   ·rcases hfp2 q b h1 with ⟨p',hp',hb'⟩ | hb'
    ·have:=hr.ok.disj p' r b hb' h2
     exact absurd (this▸hp') n2
    ·have:=hr.ok.lt h2; omega
   ·rcases hfp2 q' b h2 with ⟨p',hp',hb'⟩ | hb'
    ·have:=hr.ok.disj p' p b hb' h1
     exact absurd (this▸hp') n1
    ·have:=hr.ok.lt h1; omega
   ·exact hr.ok.disj p r b h1 h2
  ·rcases hcase p with ⟨q,e,_⟩ | ⟨_,_,e⟩ <;> rw[e] at h1
   ·rcases hfp2 q b h1 with ⟨p',hp',hb'⟩ | hb'
    ·exact hr.ok.free p' b hb' h2
    ·have:=hr.ok.flt b h2; omega
   ·exact hr.ok.free p b h1 h2
 have hng:∀ q,(q<ρ.length∨ρ.length+gs.length≤q)→∀ i v,H2 q ≠ .gh i v:=fun q hq i v e=>by
  rcases hq with hq | hq
  ·obtain⟨ob,_,h2,h3⟩:=hoL q hq
   exact (bkF_ng h2 h3).2 i v e
  ·rcases Gqp (q-(ρ.length+gs.length)) new.length with h1 | h1
   ·have h2:=hoN _ _ (Gqd h1)
    rw[show ρ.length+gs.length+(q-(ρ.length+gs.length))=q by omega] at h2
    exact (bkF_ng (Gqk.1 hb2 _ (Gql h1)) h2).2 i v e
   ·rw[hoX q (by omega)] at e; cases e
 have htn:Turn w H w' H' (ρ++(List.range new.length).map (st.objs.length+·)):=by
  refine⟨hsi.os,hsi.tape,hsi.output,hsi.size,fun b h1 h2=>hblk b h1 fun p hp=>h2 p (by simp[hp]),fun p hp => ?_,fun p b hb => ?_,fun p i v hp => ?_⟩
  ·simp only[Gqm,Gqr,List.mem_range,not_or] at hp
   rcases hcase p with ⟨q,e,hq⟩ | ⟨_,_,e⟩
   ·rcases hq with hq | ⟨hq,hq2⟩
    ·exact absurd (Zl hq) hp.1
    ·have h1:¬p-st.objs.length<new.length:=fun h=>hp.2 ⟨_,h,by omega⟩
     rw[e,hoX q (by omega),hnilN p hq]
   ·exact e
  ·rcases hcase p with ⟨q,e,_⟩ | ⟨_,_,e⟩ <;> rw[e] at hb
   ·rcases hfp2 q b hb with ⟨p',_,hb'⟩ | hb'
    ·exact .inl ⟨p',hb'⟩
    ·exact .inr hb'
   ·exact .inl ⟨p,hb⟩
  ·rcases hcase p with ⟨q,e,hq⟩ | ⟨_,_,e⟩ <;> rw[e] at hp
   ·refine absurd hp (hng q ?_ i v)
    rcases hq with hq | ⟨_,hq⟩
    ·exact .inl (Zk hq)
    ·exact .inr (by omega)
   ·exact⟨p,hp⟩
 have hplace:∀ p∈kq.map (fun k=>ρ.getD ((plc k.2.2).getD 0) 0),Place (H p) (H' p):=by
  intro p hp
  obtain⟨k,hk,rfl⟩:=Gqr.1 hp
  obtain⟨jj,hjj⟩:=List.getElem?_of_mem hk
  have e1:=congrArg (·[jj]?) hk1
  have e2:=congrArg (·[jj]?) hk2
  have e3:=Gqk.1 hk3 k hk
  simp only[Gqh,hjj,Gqy,Option.some.injEq] at e1 e2
  obtain⟨g,g1,g2⟩:=Option.bind_eq_some_iff.1 e1
  rw[g1] at e2
  obtain⟨v,v1,v2⟩:=hoG k.1 g e2
  have hv:v=gv g.1:=by
   obtain⟨q',hq'⟩:=hsi.gh _ g.1 v v1
   rcases a4 q' g.1 v hq' with ⟨p',h1,h2⟩ | h1
   ·exact absurd h2 ((hgok p' (Zl h1)).2 _ _)
   ·exact h1
  have hent:=hgat _ g g1
  rw[←hv] at hent
  have hent:=R2.cell hent g2
  have v2:=R2.cell v2 g2
  cases hpl:plc k.2.2 with
  |none=>rw[hpl] at e3; cases e3
  | some q =>
   rw[hpl] at e3
   have hq:q<ρ.length:=Gqq e3
   have hqp:ρ[q]? = some (ρ.getD q 0):=by simp[Gqc,hq]
   simp only[Option.getD_some]
   rw[b1 q _ hqp,←a1 q _ hqp]
   cases hx:k.2.2 with
   |ref q' =>
    rw[hx] at hpl hent v2
    simp only[plc,Option.some.injEq] at hpl
    subst hpl
    obtain⟨x1,f1,k1⟩:=hent
    obtain⟨x2,f2,k2⟩:=v2
    exact .inl ⟨_,_,_,_,_,k1,k2⟩
   |ptr q' i =>
    rw[hx] at hpl hent v2
    simp only[plc,Option.some.injEq] at hpl
    subst hpl
    obtain⟨g3,t3,vs3,k1,k2⟩:=hent
    obtain⟨g4,t4,vs4,k3,k4⟩:=v2
    rw[k2] at k4
    simp only[Value.pointer.injEq,Option.some.injEq,Addr.mk.injEq] at k4
    obtain⟨rfl,_⟩:=k4
    exact .inr ⟨_,_,_,_,_,k1,k3⟩
   |_=>rw[hx] at hpl; cases hpl
 have hpl:∀ q,H2 q ≠ .nil→(∀ i v,H2 q ≠ .gh i v)→H' (phi ρ gs.length st.objs.length q)=H2 q:=fun q h1 h2=>by
  unfold phi
  split
  ·rename_i hq
   have hq:=Gqq hq
   exact b1 q _ (by simp[Gqc,show q<ρ.length by omega])
  ·rename_i hq
   have hq:ρ.length≤q:=Nat.le_of_not_lt fun hlt=>by rw[show Nat.blt q ρ.length=true from Nat.ble_eq_true_of_le hlt] at hq; cases hq
   have hq2:ρ.length+gs.length≤q:=by
    refine Nat.le_of_not_lt fun hlt => ?_
    have hj:q-ρ.length<gs'.length:=by omega
    obtain⟨v,v1,_⟩:=hoG (q-ρ.length) _ (Gqd hj)
    rw[show ρ.length+(q-ρ.length)=q by omega] at v1
    exact h2 _ _ v1
   rw[b3,show ρ.length+gs.length+(q-(ρ.length+gs.length))=q by omega]
 have hF2:∀ b,F b→F2 b:=fun b hb=>hsi.fF b (hFF b hb)
 have hF3:∀ b,F2 b→F b∨w.heap.size≤b∨∃ p∈ρ,b∈(H p).fp:=fun b hb=>by
  rcases hsi.fF' b hb with h1 | h1 | ⟨q,h1⟩
  ·rw[hF1] at h1; exact .inl h1
  ·exact .inr (.inl h1)
  ·obtain⟨p,e1,e2⟩:=a3 q b h1
   exact .inr (.inr ⟨p,Zl e1,e2⟩)
 have hok2':Ok w' H' F2:=by
  refine⟨hok'.says,hok'.nodup,hok'.disj,fun p b h1 h2 => ?_,hok2.flt⟩
  rcases hcase p with ⟨q,e,_⟩ | ⟨n1,_,e⟩ <;> rw[e] at h1
  ·exact hok2.free q b h1 h2
  ·rcases hF3 b h2 with h3 | h3 | ⟨p',hp',h3⟩
   ·exact hr.ok.free p b h1 h3
   ·have:=hr.ok.lt h1; omega
   ·exact n1 (hr.ok.disj p' p b h3 h1▸hp')
 have hS2:Since E w' H' F2:=by
  have hs:=hsince.turn htn
  refine⟨hs.os,hs.tape,hs.output,hs.size,hs.keep,fun b hb=>hF2 b (hsince.fF b hb),fun b hb => ?_,hs.org,hs.gh⟩
  rcases hF3 b hb with h3 | h3 | ⟨p',_,h3⟩
  ·exact hsince.fF' b h3
  ·exact .inr (.inl (Gq8 hsince.size h3))
  ·rcases hsince.org p' b h3 with h4 | h4
   ·exact .inr (.inr h4)
   ·exact .inr (.inl h4)
 have hR:=hr.mapkF (V1.killw (ρ++(List.range new.length).map (st.objs.length+·)) (kq.map fun k=>ρ.getD ((plc k.2.2).getD 0) 0)) (fun x v hx=>R1.moreF hF2 (R1.killw hr.ok htn hplace hx)) hok2'
  (setL (st.objs.map (Ob.mapk (V1.killw (ρ++(List.range new.length).map (st.objs.length+·)) (kq.map fun k=>ρ.getD ((plc k.2.2).getD 0) 0)))) ρ (lo'.map (Ob.ren (phi ρ gs.length st.objs.length)))++new.map (Ob.ren (phi ρ gs.length st.objs.length))) (fun p => ?_)
 ·have hR2:=hR.put (x:=res.ren (phi ρ gs.length st.objs.length)) o.dst hd (v:=rv) (plantwVF hpl hcl hres)
  exact hK _ _ (h.h _ _ ⟨_,F2,hR2,hS2⟩)
 ·have hsl:(setL (st.objs.map (Ob.mapk (V1.killw (ρ++(List.range new.length).map (st.objs.length+·)) (kq.map fun k=>ρ.getD ((plc k.2.2).getD 0) 0)))) ρ (lo'.map (Ob.ren (phi ρ gs.length st.objs.length)))).length=st.objs.length:=by rw[setL_len]; simp
  rcases Gqp p st.objs.length with h1 | h1
  ·rw[Gqc,Gqz (by rw[hsl]; exact h1),←Gqc]
   by_cases hp:p∈ρ
   ·obtain⟨q,hq⟩:=List.getElem?_of_mem hp
    obtain⟨ob,k1,k2,k3⟩:=hoL q (Zk hq)
    rw[setL_in ρ _ _ q p (ob.ren (phi ρ gs.length st.objs.length)) hnd (fun r hr'=>by simpa using hltN r hr') hq (by rw[Gqh,k1]; rfl)]
    exact plantwBF hpl (b1 q p hq) k2 k3
   ·rw[setL_out ρ _ _ p hp,Gqc,Gqh,Gqd h1]
    have h2:=hr.obs p
    rw[Gqc,Gqd h1] at h2
    exact RB.mapk (fun x v hx=>R1.moreF hF2 (R1.killw hr.ok htn hplace hx)) (b2 p hp h1) h2
  ·rw[Gqc,Gq4 (by rw[hsl]; exact h1),hsl,Gqh]
   have h2:=b3 (p-st.objs.length)
   rw[show st.objs.length+(p-st.objs.length)=p by omega] at h2
   cases hn:new[p-st.objs.length]? with
   |none=>exact h2.trans (hoX _ (by have:=List.getElem?_eq_none_iff.1 hn; omega))
   |some ob=>exact plantwBF hpl h2 (Gqk.1 hb2 ob (Zl hn)) (hoN _ ob hn)
theorem X6 {ts:List (Nat×V)} {obs:List Ob} {d:Nat} {f:FuncId} [hf:FunOk P f] {ass:Array Operand} {tys:Array TypeId} {args:List V2} {lo lo' new:List Ob} {gs:List (Nat×V2)} {res:V} (ρ:List Nat) (kq:List (Nat×Nat×V1)) (hc:Con P f (lo++gs.map gh1) args (lo'++(gs.map gh1++new)) res) (ho:o.op = .call { callee := .value (.func f),args:=ass,argTypes:=tys }) (hg:o.guard=none)
  (hd:o.dst=some d) (hl:Nat.blt d n=true) (hρ:nodupB ρ=true) (hlt:ρ.all (fun p=>Nat.blt p obs.length)=true) (hl1:lo.length=ρ.length) (hl2:lo'.length=ρ.length)
  (hlo:lo.map (Ob.ren (rho ρ obs.length))=ρ.map fun p=>obs.getD p .gone) (hgn:ρ.all (fun p=>(obs.getD p .gone).back || (match obs.getD p .gone with | .box _=>true | _=>false))=true) (ha:ass.toList.map (fun y=>lendF ρ (St.ev ⟨n,ts,obs⟩ y))=args)
  (hgs:gs.map (fun g=>gsrc args lo g.1)=gs.map (fun g=>some g.2)) (hk1:kq.map (fun k=>gs[k.1]?.bind fun g=>pickC g.2 k.2.1)=kq.map (fun k=>some k.2.2)) (hk3:kq.all (fun k=>match plc k.2.2 with | some q=>Nat.blt q ρ.length | none=>false)=true)
  (hcl:res.clF=true) (hb1:lo'.all Ob.bkF=true) (hb2:new.all Ob.bkF=true)
  (h:AL P E ops QQ rest ⟨n,(d,res.ren (phi ρ gs.length obs.length))::(ts.map fun e=>(e.1,e.2.mapk (V1.killw (ρ++(List.range new.length).map (obs.length+·)) (kq.map fun k=>ρ.getD ((plc k.2.2).getD 0) 0)))),
   setL (obs.map (Ob.mapk (V1.killw (ρ++(List.range new.length).map (obs.length+·)) (kq.map fun k=>ρ.getD ((plc k.2.2).getD 0) 0)))) ρ (lo'.map (Ob.ren (phi ρ gs.length obs.length)))++new.map (Ob.ren (phi ρ gs.length obs.length))⟩):AL P E ops QQ (o::rest) ⟨n,ts,obs⟩:=by
 have hk2:kq.map (fun k=>gs[k.1]?)=kq.map (fun k=>gs[k.1]?):=rfl
 exact L_lentF (st:=⟨n,ts,obs⟩) ρ kq ho hg hc hρ hlt hl1 hl2 J hlo hgn ha hgs hk1 hk2 hk3 hcl hb1 hb2 (by rw[hd]; exact hl) (by rw[hd]; exact h)
end
end
section
open Go.RowKit

theorem OW.take {w:World} {k:Nat} {es:List (List T)} {v:Value} {fp:List Nat} (h:OW w (.sl k es) v fp) (hnd:fp.Nodup) {n:Nat} (hn:n≤es.length):∃ A c fp',v = .slice A es.length c∧es.length≤c∧OW w (.sl k (es.take n)) (.slice (if c=0 then A else A.map (·.add (0*k))) (n-0) (c-0)) fp'∧(∀ b∈fp',b∈fp)∧fp'.Nodup:=by
 cases h with
 |nil =>
  have:n=0:=by simpa using hn
  subst this
  exact⟨none,0,[],J,Gqf _,by simpa using OW.nil (w:=w) k,by simp,by simp⟩
 | sl _ b o _ c tid cur fz val fps hg hz hc hm hs hp hk hf hfk hv ht =>
  have hA:(if c=0 then some (⟨b,o,none⟩:Addr) else (some (⟨b,o,none⟩:Addr)).map (·.add (0*k)))=some ⟨b,o,none⟩:=by
   split
   ·rfl
   ·simp[Addr.add]
  have hl:(es.take n).length=n:=by simp; omega
  have hfl:fps.flatten.flatten=(fps.take n).flatten.flatten++(fps.drop n).flatten.flatten:=by
   rw[←Gqw,←Gqw,Gx1]
  refine⟨some ⟨b,o,none⟩,c,b::(fps.take n).flatten.flatten,J,hc,?_,fun x hx => ?_,?_⟩
  ·rw[hA]
   have h1:=OW.sl (w:=w) (es.take n) b o k c tid cur fz val (fps.take n) hg hz (by omega) hm hs hp (fun e he=>hk e (Gxc he)) (by simp[hf]) (fun f hf'=>hfk f (Gxc hf'))
    (fun i j hi hj=>hv i j (by omega) hj) (fun i j e t fs f g1 g2 g3 g4=>by
     have hi:=Zk g1
     rw[hl] at hi
     rw[Gxi,if_pos hi] at g1 g3
     exact ht i j e t fs f g1 g2 g3 g4)
   rw[hl] at h1
   simpa using h1
  ·rcases List.mem_cons.1 hx with rfl | hx
   ·simp
   ·exact Gq6 _ (by rw[hfl]; exact List.mem_append_left _ hx)
  ·rw[hfl,←List.cons_append] at hnd
   exact (List.nodup_append.1 hnd).1

def V1.tohd (p n:Nat):V1→V1
 | .hd q m=>match Nat.beq q p with
  |true=>match Nat.beq m n with
   |true => .ref p
   |false => .un
  |false => .hd q m
 |x=>x.kill [p]
theorem Wk.head0 {st:St} {p k:Nat} {es:List (List T)} (n:Nat) (hp:st.objs[p]? = some (.row k es)) (hn:n≤es.length):Wk st ⟨st.n,st.tmps.map fun e=>(e.1,e.2.mapk (V1.tohd p n)),(st.objs.map (Ob.mapk (V1.tohd p n))).set p (.row k (es.take n))⟩:=by
 intro w H F a h1
 obtain⟨v,fp,e1,e2⟩:=h1.ow hp
 have hnd:=h1.ok.nodup p
 rw[e1] at hnd
 obtain⟨A,c,fp'',hvA,hc,h3,h5,h4⟩:=e2.take hnd hn
 have hA:(if c=0 then A else A.map (·.add (0*k)))=A:=by
  split
  ·rfl
  ·cases A <;> simp[Addr.add]
 rw[hA,Gx7,Gx7] at h3
 have hkeep:Keeps w w fp:=⟨rfl,rfl,rfl,Gqf _,fun _ _ _=>rfl⟩
 obtain⟨hok,htn⟩:=h1.ok.turn (p:=p) (fp:=fp) (by rw[e1]; rfl) hkeep (.ow (.sl k (es.take n)) _ fp'') h3 h4 trivial (fun b hb => .inl (h5 b hb))
 have hone:∀ x v,R1 w H F x v→R1 w (H.put p (.ow (.sl k (es.take n)) (.slice A n c) fp'')) F (V1.tohd p n x) v:=fun x u hx=>by
  cases x with
  | hd q m =>
   simp only[V1.tohd]
   obtain⟨A',m',c',x,fp',e3,rfl⟩:=hx
   split
   ·rename_i hq
    have hqp:=Gxf hq
    subst hqp
    split
    ·rename_i hm
     have:=Gxf hm
     subst this
     rw[e1] at e3
     simp only[Pc.ow.injEq] at e3
     obtain⟨_,e4,_⟩:=e3
     rw[hvA] at e4
     simp only[Value.slice.injEq] at e4
     obtain⟨rfl,_,rfl⟩:=e4
     exact⟨_,_,Hs.put_self _ _ _⟩
    ·trivial
   ·rename_i hq
    have hqp:q≠p:=fun e=>by rw[e,show Nat.beq p p=true from Gxy p] at hq; cases hq
    exact⟨A',m',c',x,fp',by rw[Hs.put_ne _ _ hqp,e3],J⟩
  |_=>exact R1.killed h1.ok htn hx
 obtain⟨hplt,_⟩:=Gqo.1 hp
 refine⟨_,h1.mapk (V1.tohd p n) hone hok ((st.objs.map (Ob.mapk (V1.tohd p n))).set p (.row k (es.take n))) (fun q => ?_),fun q b hb => ?_,htn.gh⟩
 ·by_cases hqp:q=p
  ·subst hqp
   rw[Zj (x := .row k (es.take n)) (by simp[hplt])]
   exact⟨_,_,Hs.put_self _ _ _⟩
  ·rw[Gqc,Gxb (Ne.symm hqp),Gqh]
   have h2:=h1.obs q
   rw[Gqc] at h2
   have h3:H.put p (.ow (.sl k (es.take n)) (.slice A n c) fp'') q=H q:=Hs.put_ne _ _ hqp
   cases ho:st.objs[q]? with
   |none=>rw[ho] at h2; exact h3.trans h2
   |some ob=>rw[ho] at h2; exact RB.mapk hone h3 h2
 ·by_cases hqp:q=p
  ·subst hqp
   rw[Hs.put_self] at hb
   exact⟨q,by rw[e1]; exact h5 b hb⟩
  ·exact⟨q,by rw[←Hs.put_ne H _ hqp]; exact hb⟩
def allP {α:Type} (f:α→Prop):List α→Prop
 | []=>True
 |x::l=>f x∧allP f l
theorem Yi {α β:Type} {f:α→Prop} {g h:α→β} (hgh:∀ x,f x→g x=h x):∀ {l:List α},allP f l→l.map g=l.map h
 | [],_=>rfl
 |x::l,hl=>by rw[List.map_cons,List.map_cons,hgh x hl.1,Yi hgh hl.2]
def V1.hdok (p n:Nat):V1→Prop
 | .hd q m=>match Nat.beq q p with
  |true=>m=n
  |false=>True
 |_=>True
def V2.hdok (p n:Nat):V2→Prop
 | .c x=>x.hdok p n
 | .ag xs=>allP (V1.hdok p n) xs
def V.hdok (p n:Nat):V→Prop
 | .o x=>x.hdok p n
 | .tu xs=>allP (V2.hdok p n) xs
 | .iff _ x=>x.hdok p n
def Ob.hdok (p n:Nat):Ob→Prop
 | .box cs=>allP (V1.hdok p n) cs
 | .gh _ x=>x.hdok p n
 |_=>True
def V1.tohe (p:Nat):V1→V1
 | .hd q m=>match Nat.beq q p with
  |true => .ref p
  |false => .hd q m
 |x=>x.kill [p]
theorem V1.tohe_eq {p n:Nat} (x:V1) (h:x.hdok p n):x.tohd p n=x.tohe p:=by
 cases x with
 | hd q m =>
  simp only[V1.tohd,V1.tohe]
  cases hq:Nat.beq q p with
  |true =>
   simp only[V1.hdok,hq] at h
   subst h
   simp only[show Nat.beq m m=true from Gxy m]
  |false=>rfl
 |_=>rfl
theorem V2.tohe_eq {p n:Nat} (x:V2) (h:x.hdok p n):x.mapk (V1.tohd p n)=x.mapk (V1.tohe p):=by
 cases x with
 |c x=>exact congrArg V2.c (V1.tohe_eq x h)
 |ag xs=>exact congrArg V2.ag (Yi (fun x hx=>V1.tohe_eq x hx) h)
theorem V.tohe_eq {p n:Nat} (x:V) (h:x.hdok p n):x.mapk (V1.tohd p n)=x.mapk (V1.tohe p):=by
 cases x with
 |o x=>exact congrArg V.o (V2.tohe_eq x h)
 |tu xs=>exact congrArg V.tu (Yi (fun x hx=>V2.tohe_eq x hx) h)
 |iff cs x=>exact congrArg (V.iff cs) (V2.tohe_eq x h)
theorem Ob.tohe_eq {p n:Nat} (x:Ob) (h:x.hdok p n):x.mapk (V1.tohd p n)=x.mapk (V1.tohe p):=by
 cases x with
 |box cs=>exact congrArg Ob.box (Yi (fun x hx=>V1.tohe_eq x hx) h)
 |gh i x=>exact congrArg (Ob.gh i) (V2.tohe_eq x h)
 |_=>rfl
theorem Wk.head {st:St} {p k:Nat} {es:List (List T)} (n:Nat) (hp:st.objs[p]? = some (.row k es)) (hn:n≤es.length) (ht:allP (fun e:Nat×V=>e.2.hdok p n) st.tmps) (ho:allP (Ob.hdok p n) st.objs):Wk st ⟨st.n,st.tmps.map fun e=>(e.1,e.2.mapk (V1.tohe p)),(st.objs.map (Ob.mapk (V1.tohe p))).set p (.row k (es.take n))⟩:=by
 have h:=Wk.head0 n hp hn
 rw[Yi (g:=fun e:Nat×V=>(e.1,e.2.mapk (V1.tohd p n))) (h:=fun e:Nat×V=>(e.1,e.2.mapk (V1.tohe p))) (fun e he=>by rw[V.tohe_eq e.2 he]) ht,Yi (fun x hx=>Ob.tohe_eq x hx) ho] at h
 exact h
section
variable {P:Program} {E:Env} {ops:Array Oper} {o:Oper} {st:St} {rest:List Oper} {QQ:Exit→St→Prop} {t:TypeId} {y u:Operand} {rs:List Nat} {j:Int} {m:Nat}
theorem q_hd {p kk:Nat} {es:List (List T)} {e:TypeId} {zs:List Value} {by_:Nat} [hm:TyMake P t e zs by_] (ho:o.op = .slice t y none (some u) none) (hg:o.guard=none) (hy:st.ev y = .o (.c (.ref p))) (hp:st.objs[p]? = some (.row kk es)) (hu:st.ev u = .o (.c (.rd rs (.v (.int .i64 j))))) (hkz:kk=zs.length) (h0:0≤j∧j≤es.length):Qt P ops o st (.o (.c (.hd p j.toNat))) [] m :=
 .pure hg fun a w H F h1=>by
  obtain⟨v,fp,e1,e2⟩:=h1.ow hp
  obtain⟨x',fp',e3⟩:=h1.v1 hy
  rw[e1] at e3
  simp only[Pc.ow.injEq] at e3
  obtain⟨_,hv,_⟩:=e3
  have hnd:=h1.ok.nodup p
  rw[e1] at hnd
  obtain⟨A,c,fp'',hvA,hc,h3,h5,h4⟩:=e2.take hnd (n:=j.toNat) (by omega)
  have hA:(if c=0 then A else A.map (·.add (0*kk)))=A:=by
   split
   ·rfl
   ·cases A <;> simp[Addr.add]
  have hrun:=run_slice (P:=P) (w:=w) (t:=t) (e:=e) (zs:=zs) (by_:=by_) (A:=A) (m:=es.length) (c:=c) none (some j) 0 j.toNat rfl ⟨h0.1,rfl⟩ (Gq2 _) (by omega)
  rw[←hkz,hA,Gx7,Gx7] at hrun
  refine⟨.slice A j.toNat c,?_,?_⟩
  ·have hu1:=h1.plain hu
   have hvy:a.eval y = .slice A es.length c:=by rw[←hv,hvA]
   unfold execOp
   simp only[ho,Option.map_none,Gqy,hu1,hvy,Sem.run_bind]
   simp only[Option.map_none,Gqy] at hrun
   rw[hrun]
   rfl
  ·exact⟨A,es.length,c,_,_,by rw[e1,hvA],rfl⟩
end
section
variable {P:Program} {E:Env} {ops:Array Oper} {o:Oper} {st:St} {rest:List Oper} {QQ:Exit→St→Prop} {t:TypeId} {y u:Operand} {rs:List Nat} {j:Int}
end
end
section
open Go.RowKit

theorem Wk.nilbox {st:St} {p i:Nat} (k:Nat) {cs:List V1} {qs:List Nat} (hp:st.objs[p]? = some (.box cs)) (hc:cs[i]? = some (.rd qs (.v (.slice none 0 0)))):Wk st ⟨st.n,st.tmps,(st.objs.set p (.box (cs.set i (.ref st.objs.length)))) ++ [.row k []]⟩:=by
 intro w H F a h
 have hnil:H st.objs.length = .nil:=by
  have:=h.obs st.objs.length
  simpa[Gqc,RB] using this
 have hlt:=Zk hp
 obtain⟨H',hH'⟩:∃ H':Hs,H'=H.put st.objs.length (.ow (.sl k []) (.slice none 0 0) []):=⟨_,rfl⟩
 have hin:H' st.objs.length = .ow (.sl k []) (.slice none 0 0) []:=by rw[hH']; exact Hs.put_self _ _ _
 have hout:∀ q,q≠st.objs.length→H' q=H q:=fun q hq=>by rw[hH']; exact Hs.put_ne _ _ hq
 have hfp:∀ q,(H' q).fp=(H q).fp:=fun q=>by
  by_cases e:q=st.objs.length
  ·rw[e,hin,hnil]; rfl
  ·rw[hout q e]
 have hgh:∀ q i v,H' q = .gh i v→∃ r,H r = .gh i v:=fun q i v hq=>by
  by_cases e:q=st.objs.length
  ·rw[e,hin] at hq; cases hq
  ·exact⟨q,by rw[←hout q e]; exact hq⟩
 have hgr:Grow w H F w H' F:=⟨Below.refl _ _,fun q hq=>hout q fun e=>hq (by rw[e]; exact hnil),fun _ h=>h,fun _ h => .inl h,fun q hq b hb=>by rw[hfp,hq] at hb; simp[Pc.fp] at hb,hgh⟩
 refine⟨H',⟨⟨fun q => ?_,fun q=>by rw[hfp]; exact h.ok.nodup q,fun q r b h1 h2=>by rw[hfp] at h1 h2; exact h.ok.disj q r b h1 h2,fun q b h1=>by rw[hfp] at h1; exact h.ok.free q b h1,h.ok.flt⟩,fun q => ?_,fun e=>hgr.rv (h.tmp e),h.size,h.defers⟩,fun q b hb=>⟨q,by rw[←hfp]; exact hb⟩,hgh⟩
 ·by_cases e:q=st.objs.length
  ·rw[e,hin]; exact OW.nil _
  ·rw[hout q e]; exact h.ok.says q
 ·show RB w H' F q ((st.objs.set p (.box (cs.set i (.ref st.objs.length))) ++ [Ob.row k []]).getD q .gone)
  by_cases e:q=st.objs.length
  ·rw[show (st.objs.set p (.box (cs.set i (.ref st.objs.length))) ++ [Ob.row k []]).getD q .gone = .row k [] by simp[Gqc,e]]
   exact⟨_,_,by rw[e]; exact hin⟩
  ·rcases Gqp q st.objs.length with h1 | h1
   ·by_cases hqp:q=p
    ·subst hqp
     rw[show (st.objs.set q (.box (cs.set i (.ref st.objs.length))) ++ [Ob.row k []]).getD q .gone = .box (cs.set i (.ref st.objs.length)) by simp[Gqc,Gqz,h1]]
     obtain⟨g,t,vs,e1,e2,e3,e4⟩:=h.bx hp
     have hb:=h.obs q
     rw[Zj hp] at hb
     obtain⟨g,t,vs,k1,k2,k3⟩:=hb
     refine⟨g,t,vs,(hout q e).trans k1,by simpa using k2,fun j c u h4 h5 => ?_⟩
     rw[List.getElem?_set] at h4
     split at h4
     ·rename_i hij
      subst hij
      split at h4
      ·simp only[Option.some.injEq] at h4
       subst h4
       have h6:=k3 i _ u hc h5
       obtain⟨h7,_⟩:=RO.plain h6.1
       exact⟨⟨_,_,by rw[hin,←h7]⟩,h6.2⟩
      ·cases h4
     ·have h6:=k3 j c u h4 h5
      exact⟨hgr.r1 h6.1,h6.2⟩
    ·rw[show (st.objs.set p (.box (cs.set i (.ref st.objs.length))) ++ [Ob.row k []]).getD q .gone=st.objs.getD q .gone by
      rw[Gqc,Gqz (by simpa using h1),Gxb (Ne.symm hqp),Gqc]]
     by_cases hn:H q = .nil
     ·have h2:=h.obs q
      have h3:H' q = .nil:=(hout q e).trans hn
      cases ho:st.objs.getD q .gone with
      |gone=>exact h3
      |hole=>trivial
      |box cs=>rw[ho] at h2; obtain⟨a,t,vs,e,_⟩:=h2; rw[hn] at e; cases e
      |row k es=>rw[ho] at h2; obtain⟨v,fp,e⟩:=h2; rw[hn] at e; cases e
      |gh i x=>rw[ho] at h2; obtain⟨v,e,_⟩:=h2; rw[hn] at e; cases e
      |shr es=>rw[ho] at h2; obtain⟨us,v,fp,e,_⟩:=h2; rw[hn] at e; cases e
      |bl=>rw[ho] at h2; obtain⟨v,fp,e⟩:=h2; rw[hn] at e; cases e
     ·exact hgr.rb hn (h.obs q)
   ·rw[show (st.objs.set p (.box (cs.set i (.ref st.objs.length))) ++ [Ob.row k []]).getD q .gone=Ob.gone by
     rw[Gqc,List.getElem?_eq_none (by simp; omega)]; rfl]
    refine (hout q e).trans ?_
    have:=h.obs q
    simpa[Gqc,RB,h1] using this
section
variable {P:Program} {ops:Array Oper} {o:Oper} {st:St} {m:Nat} {t e:TypeId} {y z:Operand} {zs:List Value} {by_:Nat}
theorem Kd [hm:TyMake P t e zs by_] (ho:o.op = .buildSlice t 0 #[]) (hg:o.guard=none) (hz0:zs.isEmpty=false):Qt P ops o st (.o (.c (.sb m 0 zs.length))) [.box []] m :=
 .new hg fun a w H F hr hn=>by
  obtain⟨inf,hi,hzz⟩:=Option.map_eq_some_iff.1 hm.info
  refine⟨.slice (some ⟨w.heap.size,0,none⟩) 0 0,w.alloc (.cells #[] e),.box w.heap.size e [],?_,(Below.refl _ _).alloc (Gqf _) _,heap_alloc_new w _,by simp[Pc.fp,Pc.ng],fun b hb=>by simp[Pc.fp] at hb; omega,fun H' hgr hq=>⟨⟨_,_,_,hq,J,fun i c u h4 h5=>by simp at h4⟩,_,_,_,hq,by simp,Gq2 _,J⟩⟩
  unfold execOp
  simp[ho,Instr.buildSlice,run_underlying hm.slice,Go.sizeOf,typeInfo,hi,Instr.fill,newRow]
  rw[show (Array.range 0).map (fun _:Nat=>(default:Value))=#[] from Array.eq_empty_of_size_eq_zero (by simp)]
theorem run_append_z {tx ty:TypeId} [hm:TyMake P t e zs by_] {w:World} (A:Option Addr) {x:Value} {n:Nat} {news:List Value} (hsrc:Src P zs.length tx x n news w) (hn:0<n) (hb:n*by_≤140737488355328) (h63:n≤9223372036854775807) :
  (Builtin.append_ #[t,tx] ty #[.slice A 0 0,x]).run P w=(Builtin.append_ #[t,tx] ty #[.slice none 0 0,x]).run P w:=by
 obtain⟨i,hi,hzz⟩:=Option.map_eq_some_iff.1 hm.info
 simp only[Prod.mk.injEq] at hzz
 obtain⟨hz1,hs,hb1⟩:=hzz
 obtain⟨z,hz2,hz3⟩:=Option.map_eq_some_iff.1 hz1
 have hsrc:Src P i.size tx x n news w:=by rw[hs]; exact hsrc
 have h0:((0+n:Nat):Int)≤9223372036854775807:=by omega
 rw[run_append_grow_src (P:=P) (w:=w) t tx ty e i z hm.slice hi hz2 A 0 0 [] (by cases A <;> simp[Builtin.firstCells,loadCells,loadCellsFrom]) x n news hsrc (by omega) h0 (growslice_fits (by omega) (by rw[hb1]; simpa using hb)),
  run_append_grow_src (P:=P) (w:=w) t tx ty e i z hm.slice hi hz2 none 0 0 [] (by simp[Builtin.firstCells]) x n news hsrc (by omega) h0 (growslice_fits (by omega) (by rw[hb1]; simpa using hb))]
theorem src_any [hm:TyMake P t e zs by_] {w:World} {H:Hs} {F:Nat→Prop} {a:Act} (h:R0 w H F st a) {es':List (List T)} {x:V1} {u:Value} {kk:Nat} (hkz:kk=zs.length) (hz0:zs ≠ []) (hx:R1 w H F x u) (hs:srcOf st.objs x=some es') (hpl:plainT es') (hkk:∀ e∈es',e.length=kk):Src P kk t u es'.length (flatV (plainV' es') es'.length kk) w:=by
 obtain⟨A,c,rfl,hsrc⟩:=src_form h hx hs
 have hcell:∀ i j (hi:i<es'.length) (hj:j<kk),∃ b o',A=some ⟨b,o',none⟩∧w.cell? ⟨b,o'+i*kk+j,none⟩=some (plainV' es' i j)∧(plainV' es' i j).oneCell'=true:=by
  intro i j hi hj
  have h6:=Gqd hi
  obtain⟨b,o',k,hA,hp,hk,hc⟩:=hsrc i _ h6
  have h7:k=kk:=by rw[←hk,hkk _ (Gql hi)]
  subst h7
  have h8:j<(es'[i]).length:=by omega
  obtain⟨u',h9,h10⟩:=hc j _ (Gqd h8)
  obtain⟨u'',h11⟩:=hpl _ (Gql hi) _ (Gql h8)
  rw[h11] at h10
  obtain⟨rfl,h12⟩:=RO.plain h10
  rw[plainV'_at h6 (by rw[Gqd h8,h11])]
  exact⟨b,o',hA,h9,h12⟩
 refine src_slice (zs:=zs) es' (plainV' es') A c (fun hne => ?_) fun i j hi hj=>by obtain⟨_,_,_,_,h⟩:=hcell i j hi hj; exact h
 have hl:0<es'.length:=Gze.2 hne
 have hk0:0<kk:=by rw[hkz]; exact Gze.2 hz0
 obtain⟨b,o',hA,_⟩:=hcell 0 0 hl hk0
 refine⟨b,o',hA,fun i j hi hj => ?_⟩
 obtain⟨b',o'',hA',h1,_⟩:=hcell i j hi hj
 rw[hA] at hA'
 simp only[Option.some.injEq,Addr.mk.injEq] at hA'
 obtain⟨rfl,rfl,_⟩:=hA'
 exact h1

theorem q_appz {ps:List Nat} {q kk:Nat} {es':List (List T)} [hm:TyMake P t e zs by_] (ho:o.op = .call { callee := .builtin .append,args:=#[y,z],argTypes:=#[t,t] }) (hg:o.guard=none) (hy:st.ev y = .o (.c (.sb q 0 kk))) (hz:st.ev z = .o (.c (.rd ps (.sl kk es')))) (hkz:kk=zs.length) (hz0:zs.isEmpty=false)
  (hpl:plainT es') (hkk:∀ e∈es',e.length=kk) (hpos:0<es'.length) (hb:es'.length*by_≤140737488355328) (h63:es'.length≤9223372036854775807):Qt P ops o st (.o (.c (.ref m))) [.row kk es'] m :=
 .new hg fun a w H F hr hn=>by
  have hzn:zs ≠ []:=by intro e; rw[e] at hz0; cases hz0
  subst hkz
  obtain⟨g,tt,vs,b1,b2,b3,b4⟩:=hr.v1 hy
  obtain⟨w1,hw1⟩:∃ w1,w1=w:=⟨_,rfl⟩
  have hs:srcOf st.objs (.rd ps (.sl zs.length es'))=some es':=rfl
  obtain⟨v',w',fp'',hr1,h3,h4,h5,h6⟩:=append_plain (P:=P) (o:=o) (t:=t) (kk:=zs.length) (es := []) hr (OW.nil _) List.nodup_nil rfl hzn (hr.v1 hz) hs hpl hkk (by simpa using hb) (by simpa using h63)
  have hbel:Below w.heap.size w w':=⟨h6.os,h6.tape,h6.output,h6.size,fun b hb=>h6.block b hb (by simp)⟩
  refine⟨v',w',.ow (.sl zs.length es') v' fp'',?_,hbel,h3,⟨h4,trivial⟩,fun b hb=>(h5 b hb).resolve_left (by simp),fun H' hgr hq=>⟨⟨_,_,hq⟩,_,_,hq⟩⟩
  refine Ze ho ?_
  have h7:=src_any (P:=P) (t:=t) (e:=e) (by_:=by_) (kk:=zs.length) hr rfl hzn (hr.v1 hz) hs hpl hkk
  rw[b4,run_append_z (P:=P) (some ⟨g,0,none⟩) h7 hpos hb h63]
  exact hr1
end
end
section
open Go.RowKit

section
variable {P:Program} {ops:Array Oper} {o:Oper} {st:St} {m:Nat} {t t':TypeId} {y z:Operand} {ps qs:List Nat}
theorem Q8 {xs:List V2} (ho:o.op = .move y) (hg:o.guard=none) (hy:st.ev y = .tu xs):Qt P ops o st (.tu xs) [] m :=
 .pure hg fun a w H F hr=>⟨a.eval y,by simp[execOp,ho],by rw[←hy]; exact hr.ev y⟩
end
end
section
open Go.RowKit

def parseLv (s:ByteArray):TLevel:=⟨(splitC 47 s.data.toList).map bs⟩
def pvL (s:ByteArray):TLevel:=if levelOk (parseLv s)=true then parseLv s else ⟨[]⟩
theorem pvL_gd {s:ByteArray} (hs:s.size≤16777216):Enc.gd (parseLv s)∧(parseLv s).Rows.length≤s.size+1:=by
 have h1:=splitC_len 47 s.data.toList
 have h2:=splitC_mem 47 s.data.toList
 rw[←Lib.size_eq] at h1
 have hl:(parseLv s).Rows.length≤s.size+1:=by show ((splitC 47 s.data.toList).map bs).length≤_; rw[List.length_map]; exact h1
 refine⟨⟨by show (parseLv s).Rows.length≤_; omega,fun x hx => ?_⟩,hl⟩
 obtain⟨y,hy,rfl⟩:=Gqr.1 (show x∈(splitC 47 s.data.toList).map bs from hx)
 have h3:=h2 y hy
 rw[←Lib.size_eq] at h3
 show (bs y).size≤_
 rw[Ys]; omega
theorem join_split (c:UInt8):∀ l:List UInt8,Lib.join (splitC c l) [c]=l
 | []=>by rw[splitC,Lib.join_one]
 | b::l=>by
  have ih:=join_split c l
  obtain⟨h,t,e⟩:=splitC_ne c l
  rw[e] at ih
  rw[splitC,e]
  by_cases hb:b=c
  ·subst hb
   rw[if_pos rfl,Lib.join_cons]
   rw[Lib.join_cons] at ih
   rw[←ih]
   simp[Lib.joinTail]
  ·rw[if_neg hb]
   show Lib.join (([b]++h)::t) [c]=_
   rw[Lib.join_cons]
   rw[Lib.join_cons] at ih
   rw[←ih]
   simp
theorem joinB_parse (s:ByteArray):joinB (parseLv s).Rows slashB=s:=by
 have h:((parseLv s).Rows).map (·.data.toList)=splitC 47 s.data.toList:=by
  show ((splitC 47 s.data.toList).map bs).map (·.data.toList)=_
  rw[List.map_map]
  have:((fun x:ByteArray=>x.data.toList) ∘ bs)=id:=funext fun x=>Yr x
  rw[this,List.map_id]
 rw[joinB,h,show slashB.data.toList = [47] from rfl,join_split]
theorem I_ParseLevel (s:ByteArray) (hs:s.size≤16777216):ConP MaxW Tryz.prog 72 [astr s] [.row 1 (els (pvL s).Rows)] (.tu [.ag [.ref 0],.c (.rd [] (.v (.bool (levelOk (parseLv s)))))]):=by
 have hsp:=I_SplitC 47 s (by omega)
 obtain⟨hgd,hpl⟩:=pvL_gd hs
 have co:=Xt (parseLv s) hgd
 rw[show (splitC 47 s.data.toList).map bs=(parseLv s).Rows from rfl] at hsp
 unfold pvL
 cases ho:levelOk (parseLv s) with
 |false =>
  rw[ho] at co
  rw[if_neg (by decide)]
  refine ConP.of Tryz.func72 J Tryz.ntmps72 J (fun E hE hT => ?_)
  refine Wz [1,90,32] ?_;refine X5 Zw hE hT (hsp) J J J J J J J ?_;refine Wz [151,75,102] ?_;refine zx (Qj J J (co) J) J ?_;refine Wz [16,93] ?_
  exact G4 J J (Ye [1] [3] J J (by decide) J J J)
 |true =>
  rw[ho] at co
  rw[if_pos rfl]
  refine ConP.of Tryz.func72 J Tryz.ntmps72 J (fun E hE hT => ?_)
  refine Wz [1,90,32] ?_;refine X5 Zw hE hT (hsp) J J J J J J J ?_;refine Wz [151,75,102] ?_;refine zx (Qj J J (co) J) J ?_;refine Wz [16,38,6,115] ?_
  exact G4 J J (Gr [1] J J J)
end
end Go.Proofs.YtpmacgnmlmmojaaGreatDoor
