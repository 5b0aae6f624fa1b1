/-
  Rules, data and contracts of functions: part 32 of the proof.
  Conditions: those that each theorem names.
-/
import Derived.Test.YtalaljeokcpfnaaGreatDDPlayRowk20
import Derived.Test.YtalaljeokcpfnaaGreatDDPlayRowk29
set_option linter.unusedSimpArgs false
set_option linter.unusedVariables false
set_option maxRecDepth 8000
set_option maxHeartbeats 8000000
namespace Go.Proofs.YtalaljeokcpfnaaGreat
section
open Go.RowKit

def V1.tolel (p m:Nat):V1→V1
 | .le q k a b=>match Nat.beq q p with
  |true => .ref m
  |false=>(V1.le q k a b).killw [p,m,m+1] [p]
 |x=>x.killw [p,m,m+1] [p]
def V1.tole1 (p m kk i j:Nat):V1→V1
 | .le q k a b=>match Nat.beq q p with
  |true=>if k=kk∧a=i∧b=j then .ref m else .un
  |false=>(V1.le q k a b).killw [p,m,m+1] [p]
 |x=>x.killw [p,m,m+1] [p]
theorem V1.tolel_eq {p m kk i j:Nat} (x:V1) (hx:x.leok p kk i j):x.tole1 p m kk i j=x.tolel p m:=by
 cases x with
 | le q k a b =>
  simp only[V1.tole1,V1.tolel]
  simp only[V1.leok] at hx
  split
  ·rename_i hq
   rw[hq] at hx
   exact if_pos hx
  ·rfl
 |_=>rfl
theorem Wk.splitl0 {st:St} {p kk i j k':Nat} {es es0:List (List T)} {e:List T} (hp:st.objs[p]? = some (.row kk es)) (he:es[i]? = some e) (hx:e[j]? = some (.sl k' es0)) :
  Wk st ⟨st.n,st.tmps.map fun t=>(t.1,t.2.mapk (V1.tole1 p st.objs.length kk i j)),((st.objs.map (Ob.mapk (V1.tole1 p st.objs.length kk i j))).set p (.row kk (es.set i (splice e j [.un])))) ++ [.row k' es0,.lk (.le p kk i j) (.ref st.objs.length)]⟩:=by
 intro w H F a h1
 obtain⟨v,fp,e1,e2⟩:=h1.ow hp
 have hnd:=h1.ok.nodup p
 rw[e1] at hnd
 have hnil:H st.objs.length = .nil:=by
  have:=h1.obs st.objs.length
  simpa[Gqf,RB] using this
 have hnil2:H (st.objs.length+1) = .nil:=by
  have:=h1.obs (st.objs.length+1)
  simpa[Gqf,RB] using this
 have hplt:=Zj hp
 obtain⟨b,o,c,u,f,rfl,hbf,hcell,hO,hfn,hsub,hback⟩:=e2.inner hnd he hx
 have hlt:∀ x∈fp,x<w.heap.size:=fun x hx=>h1.ok.lt (p:=p) (by rw[e1]; exact hx)
 have hu1:u.oneCell'=true:=OW.one hO
 obtain⟨fp',g1,g2,g3⟩:=hback w .un [] (fun _ _ _=>rfl) (.un u hu1) List.nodup_nil (fun x hx=>by simp at hx)
 have g4:∀ x∈fp',x∈fp∧x∉f:=fun x hx=>(g3 x hx).resolve_right Aqd 
 obtain⟨N,hN⟩:∃ N,N=st.objs.length:=⟨_,rfl⟩
 rw[←hN] at hnil hnil2 ⊢
 have hNp:N≠p:=Aqa
 obtain⟨H',hH'⟩:∃ H':Hs,H'=fun q=>if q=N then .ow (.sl k' es0) u f else if q=N+1 then .lk u else if q=p then .ow (.sl kk (es.set i (splice e j [.un]))) (.slice (some ⟨b,o,none⟩) es.length c) fp' else H q:=⟨_,rfl⟩
 have hHN:H' N = .ow (.sl k' es0) u f:=by rw[hH']; exact if_pos rfl
 have hHL:H' (N+1) = .lk u:=by rw[hH']; simp
 have hNp1:N+1≠p:=Aqa
 have hHp:H' p = .ow (.sl kk (es.set i (splice e j [.un]))) (.slice (some ⟨b,o,none⟩) es.length c) fp':=by rw[hH']; simp[Ne.symm hNp,Ne.symm hNp1]
 have hHo:∀ q,q≠N→q≠N+1→q≠p→H' q=H q:=fun q h1 h3 h2=>by rw[hH']; simp only; rw[if_neg h1,if_neg h3,if_neg h2]
 have hin:∀ q x,x∈(H' q).fp→(q=N∧x∈f)∨(q=p∧x∈fp∧x∉f)∨(q≠N∧q≠p∧x∈(H q).fp):=fun q x hx=>by
  by_cases hq:q=N
  ·subst hq; rw[hHN] at hx; exact .inl ⟨rfl,hx⟩
  ·by_cases hqp:q=p
   ·subst hqp; rw[hHp] at hx; exact .inr (.inl ⟨rfl,g4 x hx⟩)
   ·by_cases hqL:q=N+1
    ·subst hqL; rw[hHL] at hx; simp[Pc.fp] at hx
    ·rw[hHo q hq hqL hqp] at hx; exact .inr (.inr ⟨hq,hqp,hx⟩)
 have hpf:∀ x,x∈fp→x∈(H p).fp:=fun x hx=>by rw[e1]; exact hx
 have hok:Ok w H' F:=by
  refine⟨fun q=>?_,fun q=>?_,fun q r x h2 h3=>?_,fun q x h2=>?_,h1.ok.flt⟩
  ·by_cases hq:q=N
   ·subst hq; rw[hHN]; exact hO
   ·by_cases hqp:q=p
    ·subst hqp; rw[hHp]; exact g1
    ·by_cases hqL:q=N+1
     ·subst hqL; rw[hHL]; trivial
     ·rw[hHo q hq hqL hqp]; exact h1.ok.says q
  ·by_cases hq:q=N
   ·subst hq; rw[hHN]; exact hfn
   ·by_cases hqp:q=p
    ·subst hqp; rw[hHp]; exact g2
    ·by_cases hqL:q=N+1
     ·subst hqL; rw[hHL]; simp[Pc.fp]
     ·rw[hHo q hq hqL hqp]; exact h1.ok.nodup q
  ·rcases hin q x h2 with ⟨rfl,k1⟩ | ⟨rfl,k1,k2⟩ | ⟨k1,k2,k3⟩ <;> rcases hin r x h3 with ⟨e5,m1⟩ | ⟨e5,m1,m2⟩ | ⟨m1,m2,m3⟩
   ·exact e5.symm
   ·exact absurd k1 m2
   ·exact absurd (h1.ok.disj r p x m3 (hpf x (hsub x k1))) m2
   ·exact absurd m1 k2
   ·exact e5.symm
   ·exact absurd (h1.ok.disj r q x m3 (hpf x k1)) m2
   ·exact absurd (h1.ok.disj q p x k3 (hpf x (hsub x m1))) k2
   ·exact absurd (h1.ok.disj q p x k3 (hpf x m1)) k2
   ·exact h1.ok.disj q r x k3 m3
  ·rcases hin q x h2 with ⟨rfl,k1⟩ | ⟨rfl,k1,k2⟩ | ⟨k1,k2,k3⟩
   ·exact h1.ok.free p x (hpf x (hsub x k1))
   ·exact h1.ok.free q x (hpf x k1)
   ·exact h1.ok.free q x k3
 have hfpo:∀ q x,x∈(H' q).fp→∃ r,x∈(H r).fp:=fun q x hx=>by
  rcases hin q x hx with ⟨rfl,k1⟩ | ⟨rfl,k1,k2⟩ | ⟨k1,k2,k3⟩
  ·exact⟨p,hpf x (hsub x k1)⟩
  ·exact⟨q,hpf x k1⟩
  ·exact⟨q,k3⟩
 have hghs:∀ q i v,H' q = .gh i v→∃ r,H r = .gh i v:=fun q i v hq=>by
  by_cases hqN:q=N
  ·subst hqN; rw[hHN] at hq; cases hq
  ·by_cases hqp:q=p
   ·subst hqp; rw[hHp] at hq; cases hq
   ·by_cases hqL:q=N+1
    ·subst hqL; rw[hHL] at hq; cases hq
    ·exact⟨q,by rw[←hHo q hqN hqL hqp]; exact hq⟩
 have htn:Turn w H w H' [p,N,N+1]:=⟨rfl,rfl,rfl,Gqi _,fun _ _ _=>rfl,fun q hq=>hHo q (fun e=>hq (by simp[e])) (fun e=>hq (by simp[e])) (fun e=>hq (by simp[e])),fun q x hx => .inl (hfpo q x hx),hghs⟩
 have hplace:∀ q ∈ [p],Place (H q) (H' q):=fun q hq=>by
  have:q=p:=Bxd
  subst this
  exact .inl ⟨_,_,_,_,_,e1,hHp⟩
 have hone:∀ x v,R1 w H F x v→R1 w H' F (V1.tole1 p N kk i j x) v:=fun x v hx=>by
  cases x with
  | le q k a b' =>
   simp only[V1.tole1]
   split
   ·rename_i hq
    have hqp:=Gq8 hq
    subst hqp
    split
    ·rename_i hc
     rw[hc.1,hc.2.1,hc.2.2] at hx
     obtain⟨b2,o2,n2,c2,x2,fp2,k1,k2,k3,k4⟩:=hx
     rw[e1] at k1
     simp only[Pc.ow.injEq,Value.slice.injEq,Option.some.injEq,Addr.mk.injEq] at k1
     obtain⟨_,⟨⟨rfl,rfl,_⟩,_,_⟩,_⟩:=k1
     rw[hcell] at k4
     simp only[Option.some.injEq] at k4
     subst k4
     exact⟨_,_,hHN⟩
    ·trivial
   ·exact R1.killw h1.ok htn hplace hx
  |_=>exact R1.killw h1.ok htn hplace hx
 refine⟨H',h1.mapk (V1.tole1 p N kk i j) hone hok _ (fun q=>?_),hfpo,hghs⟩
 by_cases hqN:q=N
 ·subst hqN
  rw[Zi (x := .row k' es0) (by rw[Gq3 (by simp; omega)]; simp[hN])]
  exact⟨_,_,hHN⟩
 by_cases hqL:q=N+1
 ·subst hqL
  rw[Zi (x := .lk (.le p kk i j) (.ref N)) (by rw[Gq3 (by simp; omega)]; simp[hN])]
  refine⟨u,hHL,⟨b,o,es.length,c,_,fp',hHp,?_,hu1,hcell⟩,⟨_,_,hHN⟩⟩
  rcases g1.open_ with ⟨k5,_⟩ | ⟨b',o',c',tid,cur,fz,val,fps,k5,k6,_⟩
  ·cases k5
  ·simp only[Value.slice.injEq,Option.some.injEq,Addr.mk.injEq] at k5
   rw[k6,k5.1.1]; simp
 by_cases hqp:q=p
 ·subst hqp
  rw[Zi (x := .row kk (es.set i (splice e j [.un]))) (by rw[Gq2 (by simpa using hplt)]; simp[hplt])]
  exact⟨_,_,hHp⟩
 ·rcases Gqr q st.objs.length with hlt2 | hge
  ·rw[Gqf,Gq2 (by simpa using hlt2),Gxa (Ne.symm hqp),Gqk]
   have h2:=h1.obs q
   rw[Gqf] at h2
   have h3:H' q=H q:=hHo q hqN hqL hqp
   cases ho:st.objs[q]? with
   |none=>rw[ho] at h2; exact h3.trans h2
   |some ob=>rw[ho] at h2; exact RB.mapk hone h3 h2
  ·rw[Gqf,List.getElem?_eq_none Bqz]
   have h2:=h1.obs q
   rw[Gqf,List.getElem?_eq_none hge] at h2
   exact (hHo q hqN hqL hqp).trans h2
theorem Wk.splitl {st:St} {p kk i j k':Nat} {es es0:List (List T)} {e:List T} (hp:st.objs[p]? = some (.row kk es)) (he:es[i]? = some e) (hx:e[j]? = some (.sl k' es0)) (ht:allP (fun t:Nat×V=>t.2.allk (V1.leok p kk i j)) st.tmps) (ho:allP (Ob.allk (V1.leok p kk i j)) st.objs) :
  Wk st ⟨st.n,st.tmps.map fun t=>(t.1,t.2.mapk (V1.tolel p st.objs.length)),((st.objs.map (Ob.mapk (V1.tolel p st.objs.length))).set p (.row kk (es.set i (splice e j [.un])))) ++ [.row k' es0,.lk (.le p kk i j) (.ref st.objs.length)]⟩:=by
 have h:=Wk.splitl0 hp he hx
 rw[Ym (g:=fun e:Nat×V=>(e.1,e.2.mapk (V1.tole1 p st.objs.length kk i j))) (h:=fun e:Nat×V=>(e.1,e.2.mapk (V1.tolel p st.objs.length))) (fun e he=>by rw[V.allk_eq V1.tolel_eq e.2 he]) ht,Ym (fun x hx=>Ob.allk_eq V1.tolel_eq x hx) ho] at h
 exact h
section
variable {P:Program} {ops:Array Oper} {o:Oper} {st:St} {t:TypeId} {y:Operand} {n:Nat}
theorem q_lel {p kk i j N:Nat} (L:Nat) [TyOne P t] (ho:o.op = .load t y) (hg:o.guard=none) (hy:st.ev y = .o (.c (.el p kk i j))) (hL:st.objs[L]? = some (.lk (.le p kk i j) (.ref N))):Qt P ops o st (.o (.c (.ref N))) [] n :=
 .pure hg fun a w H F hr=>by
  have hb:=hr.obs L
  rw[Zi hL] at hb
  obtain⟨u,e5,⟨b',o',n',c',x',fp',e6,e7,e8,e9⟩,h2⟩:=hb
  obtain⟨b2,o2,n2,c2,x2,fp2,k1,k2⟩:=hr.v1 hy
  rw[k1] at e6
  simp only[Pc.ow.injEq,Value.slice.injEq,Option.some.injEq,Addr.mk.injEq] at e6
  obtain⟨_,⟨⟨rfl,rfl,_⟩,_,_⟩,_⟩:=e6
  exact⟨u,Zg ho k2 (V0 t _ _ u e9),h2⟩
end
end
section
open Go.RowKit

section
variable {P:Program} {ops:Array Oper} {o:Oper} {st:St} {t:TypeId} {y:Operand} {n:Nat}
end
section
variable {P:Program} {ops:Array Oper} {o:Oper} {st:St} {n:Nat}
end
end
section
open Go.RowKit

@[reducible] def mX (x:TMatch) (a b c d e f g h i:V1):List V1 := [a,jn x.Seed,jn x.Delay,b,c,d,e,f,jn x.Clock,g,h,i,jn x.Bad]
@[reducible] def mC (x:TMatch) (n:Nat):List V1:=mX x (.ref n) (.ref (n+1)) (.ref (n+2)) (.ref (n+3)) (.ref (n+4)) (.ref (n+5)) (.ref (n+6)) (.ref (n+7)) (.ref (n+8))
@[reducible] def mR (x:TMatch) (l:List Ob):List Ob := .row 1 (els x.Level.Rows) :: .row 1 (els x.Scripts) :: .row 23 (els x.Peers) :: .row 1 (els x.Wires) :: .row 1 (els x.Paces) :: .row 1 (els x.Acks) :: .row 6 (els x.Watchers) :: .row 10 (els x.Lines) :: .row 2 (els x.Alarms)::l
end
section
open Tryz
open Go.RowKit

theorem Zb {α:Type} [Enc α] {xs:List α} {k:Nat} (h:k<xs.length):els (xs.take (k+1))=els (xs.take k) ++ [Enc.e xs[k]]:=by
 rw[Gxb h]
 exact List.map_append
theorem I_copyInts (xs:List Int) (hL:xs.length≤1048576):Co 152 [] [al xs] [.row 1 (els xs)] (Aqg 0):=by
 have hlx:=Y7 xs
 refine Con.o func152 ntmps152 fun E=>?_;refine Wz [23,11] ?_;refine M_appnil J J J J J J J J (Y8 _) (Y6 _) Aqa Aqa  ?_;refine Wz [36] ?_
 exact E_w [0] J J
theorem I_copyRows (xs:List (List Int)) (hg:Enc.gd xs) (hL:xs.length≤1048576) (hr:∀ r∈xs,r.length≤1048576):Co 89 [] [al xs] [.row 1 (els xs)] (Aqg 0):=by
 have va_:=@func89; have vb_:=@ntmps89; have vc_:=fun{R G:Prop}=>@Wz R G [9,3,100,8,27,0]; have vd_:=@I_copyInts; exact Bqn
section
variable {P:Program} {ops:Array Oper} {o:Oper} {st:St} {m:Nat} {t e:TypeId} {y z:Operand} {zs:List Value} {by_:Nat}
theorem q_appz0 {ps:List Nat} {q kk:Nat} [hm:TyMake P t e zs by_] (ho:o.op = .call { callee := .builtin .append,args:=#[y,z],argTypes:=#[t,t] }) (hg:o.guard=none) (hy:st.ev y = .o (.c (.sb q 0 kk))) (hz:st.ev z = .o (.c (.rd ps (.sl kk [])))) (hkz:kk=zs.length) (hz0:zs.isEmpty=false):Qt P ops o st (.o (.c (.sb q 0 kk))) [] m :=
 .pure hg fun a w H F hr=>by
  have hzn:zs ≠ []:=by intro e; rw[e] at hz0; cases hz0
  subst hkz
  obtain⟨g,tt,vs,b1,b2,b3,b4⟩:=hr.v1 hy
  have h7:=src_any (P:=P) (t:=t) (e:=e) (by_:=by_) (kk:=zs.length) hr rfl hzn (hr.v1 hz) (es' := []) rfl (fun e he=>by simp at he) (fun e he=>by simp at he)
  obtain⟨i,hi,hzz⟩:=Option.map_eq_some_iff.1 hm.info
  simp only[Prod.mk.injEq] at hzz
  have h8:Src P i.size t (a.eval z) 0 [] w:=by rw[hzz.2.1]; simpa[flatV] using h7
  refine⟨a.eval y,Zf ho ?_,hr.v1 hy⟩
  rw[b4]
  exact run_append_room_src (P:=P) w t t o.type e i hm.slice hi g 0 0 0 (a.eval z) 0 [] h8 (Gqi _) Aqd Aqd 
end
end
section
open Tryz
open Go.RowKit


@[reducible] def pX (x:TPeer) (a b c d e f g h i j:V1):List V1 := [jn x.Me,jn x.Delay,jn x.Ahead,jn x.Seed,a,b,jn x.Base.Tick,jn x.Base.Seed,c,d,e,jn x.Now.Tick,jn x.Now.Seed,f,g,h,i,j,jn x.Fault.Tick,jn x.Fault.Player,jn x.Fault.Add,jn x.Rolls,jn x.Again]
@[reducible] def pC (x:TPeer) (a b c d e f g h i j:Nat):List V1:=pX x (.ref a) (.ref b) (.ref c) (.ref d) (.ref e) (.ref f) (.ref g) (.ref h) (.ref i) (.ref j)
@[reducible] def pS (x:TPeer):=pC x 2 3 4 5 6 7 8 9 10 11
@[reducible] def wR (w:TWorld) (l:List Ob):List Ob := .row 1 (els w.Level.Rows) :: .row 1 (els w.Scores) :: .row 9 (els w.Bodies)::l
@[reducible] def pR (x:TPeer) (l:List Ob):List Ob := .row 1 (els x.Tracks)::wR x.Base (wR x.Now (.row 1 (els x.Used) :: .row 2 (els x.Saves) :: .row 1 (els x.Sums)::l))
@[reducible] def sr {α:Type} [Enc α] (xs:List α):V1 := .rd [] (sl xs)
@[reducible] def pD (x:TPeer):List V1:=pX x (sr x.Tracks) (sr x.Base.Level.Rows) (sr x.Base.Scores) (sr x.Base.Bodies) (sr x.Now.Level.Rows) (sr x.Now.Scores) (sr x.Now.Bodies) (sr x.Used) (sr x.Saves) (sr x.Sums)
@[reducible] def wD (w:TWorld):List V1 := [sr w.Level.Rows,jn w.Tick,jn w.Seed,sr w.Scores,sr w.Bodies]
@[reducible] def nv:V1 := .rd [] (.v (.slice none 0 0))
structure PeerIn (x:TPeer):Prop where
 gd:Enc.gd x
 tr:x.Tracks.length≤1048576∧∀ t∈x.Tracks,t.Inputs.length≤1048576
 bw:x.Base.Level.Rows.length≤1048576∧x.Base.Scores.length≤1048576∧x.Base.Bodies.length≤1048576
 nw:x.Now.Level.Rows.length≤1048576∧x.Now.Scores.length≤1048576∧x.Now.Bodies.length≤1048576
 us:x.Used.length≤1048576∧∀ r∈x.Used,r.length≤1048576
 sv:x.Saves.length≤1048576
 sm:x.Sums.length≤1048576
instance:PlainE TSave:=⟨fun x t h=>by
 have h2:t ∈ [T.v (.int .i64 x.Tick),T.v (.string x.Delta)]:=h
 simp only[List.mem_cons,Gx3,or_false] at h2
 rcases h2 with rfl | rfl <;> exact⟨_,rfl⟩⟩
theorem I_copyTrack (t:TTrack) (hL:t.Inputs.length≤1048576):Co 203 [] [ag t] [.row 1 (els t.Inputs)] (.o (.ag [Aqk 0])):=by
 refine Con.o func203 ntmps203 fun E=>?_;refine Wz [59,1,18] ?_;refine kc1 (I_copyInts t.Inputs hL) ?_;refine Wz [137,39,73] ?_
 exact Bzy
theorem I_copyTracks (xs:List TTrack) (hL:xs.length≤1048576) (hr:∀ t∈xs,t.Inputs.length≤1048576):Co 153 [] [al xs] [.row 1 (els xs)] (Aqg 0):=by
 have va_:=@func153; have vb_:=@ntmps153; have vc_:=fun{R G:Prop}=>@Wz R G [9,3,78,91,27,85]; have vd_:=@I_copyTrack; exact Bqn
@[reducible] def zP:List V1 := [jn 0,jn 0,jn 0,jn 0,nv,nv,jn 0,jn 0,nv,nv,nv,jn 0,jn 0,nv,nv,nv,nv,nv,jn 0,jn 0,jn 0,jn 0,jn 0]
theorem I_copyPeer (x:TPeer) (h:PeerIn x):Co 90 [] [ag x] (pR x []) (.o (.ag (pC x 0 1 2 3 4 5 6 7 8 9))):=by
 obtain⟨_,_,_,_,gT,gB,gN,gU,gS,gM,gF,_,_⟩:=h.gd
 have hls:=Y7 x.Saves
 have hsv:=h.sv
 have c1:=I_copyTracks x.Tracks h.tr.1 h.tr.2
 have c2:=Xz x.Base gB h.bw.1 h.bw.2.1 h.bw.2.2
 have c3:=Xz x.Now gN h.nw.1 h.nw.2.1 h.nw.2.2
 have c4:=I_copyRows x.Used gU (by have:=h.us.1; omega) h.us.2
 have c5:=I_copyInts x.Sums h.sm
 refine Con.o func90 ntmps90 fun E=>?_;refine Wz [59,1,18] ?_;refine AL.kp [1,1,2,2,4,0] [] 2 [(0,.box (pX x (sr x.Tracks) (sr x.Base.Level.Rows) (sr x.Base.Scores) (sr x.Base.Bodies) (sr x.Now.Level.Rows) (sr x.Now.Scores) (sr x.Now.Bodies) (sr x.Used) (sr x.Saves) (sr x.Sums))),(1,.box zP)] ?_;refine kc1 c1 ?_;refine Wz [52,56] ?_;refine AL.kp [1,1,2,2] [(8,.o (.ag (wD x.Base)))] 3 [(0,.box (pX x (Aqk 2) (sr x.Base.Level.Rows) (sr x.Base.Scores) (sr x.Base.Bodies) (sr x.Now.Level.Rows) (sr x.Now.Scores) (sr x.Now.Bodies) (sr x.Used) (sr x.Saves) (sr x.Sums))),(1,.box zP)] ?_;refine kc1 c2 ?_;refine Wz [79,39,56] ?_;refine AL.kp [1,1,2,2] [(12,.o (.ag (wD x.Now)))] 6 [(0,.box (pX x (Aqk 2) (Aqk 3) (Aqk 4) (Aqk 5) (sr x.Now.Level.Rows) (sr x.Now.Scores) (sr x.Now.Bodies) (sr x.Used) (sr x.Saves) (sr x.Sums))),(1,.box zP)] ?_;refine kc1 c3 ?_;refine Wz [79,39,18] ?_;refine AL.kp [1,1,2,2,16,0] [] 9 [(0,.box (pX x (Aqk 2) (Aqk 3) (Aqk 4) (Aqk 5) (Aqk 6) (Aqk 7) (Aqk 8) (sr x.Used) (sr x.Saves) (sr x.Sums))),(1,.box zP)] ?_;refine kc1 c4 ?_;refine Wz [98] ?_;refine M_appnil J J J J J J J J (Y8 _) (Y6 _) Aqa Aqa  ?_;refine Wz [98] ?_;refine AL.kp [1,1,2,2,24,0] [] 11 [(0,.box (pX x (Aqk 2) (Aqk 3) (Aqk 4) (Aqk 5) (Aqk 6) (Aqk 7) (Aqk 8) (Aqk 9) (Aqk 10) (sr x.Sums))),(1,.box zP)] ?_;refine kc1 c5 ?_;refine AL.kp [1,1,2,2] [(25,Aqg 11)] 12 [(0,.box (pX x (Aqk 2) (Aqk 3) (Aqk 4) (Aqk 5) (Aqk 6) (Aqk 7) (Aqk 8) (Aqk 9) (Aqk 10) (sr x.Sums))),(1,.box (zP))] ?_;refine Wz [52,3] ?_;refine AL.kp [1,1,2,2] [] 12 [(0,.box (pX x (Aqk 2) (Aqk 3) (Aqk 4) (Aqk 5) (Aqk 6) (Aqk 7) (Aqk 8) (Aqk 9) (Aqk 10) (Aqk 11))),(1,.box (zP))] ?_;refine z4 J J J ?_;refine AL.kp [1,1,2,2] [(27,.o (.ag (pS x)))] 12 [(0,.box (pX x (Aqk 2) (Aqk 3) (Aqk 4) (Aqk 5) (Aqk 6) (Aqk 7) (Aqk 8) (Aqk 9) (Aqk 10) (Aqk 11))),(1,.box (zP))] ?_;refine Qy J J J J J J J J J ?_;refine AL.kp [1,1,2,2] [] 12 [(0,.box (pX x (Aqk 2) (Aqk 3) (Aqk 4) (Aqk 5) (Aqk 6) (Aqk 7) (Aqk 8) (Aqk 9) (Aqk 10) (Aqk 11))),(1,.box (pS x))] ?_;refine Wz [1,73] ?_
 exact Xm (cs:=pS x) J J J J (Yh [2,3,4,5,6,7,8,9,10,11] Aqc J Aqb Aqb)
end
section
open Tryz
open Go.RowKit

section
variable {P:Program} {ops:Array Oper} {o:Oper} {st:St} {m:Nat} {t e:TypeId} {y z:Operand} {zs:List Value} {by_:Nat}
theorem q_appn {ps qs:List Nat} {kk:Nat} {es':List (List T)} [hm:TyMake P t e zs by_] (ho:o.op = .call { callee := .builtin .append,args:=#[y,z],argTypes:=#[t,t] }) (hg:o.guard=none) (hy:st.ev y = .o (.c (.rd qs (.v (.slice none 0 0))))) (hz:st.ev z = .o (.c (.rd ps (.sl kk es')))) (hkz:kk=zs.length) (hz0:zs.isEmpty=false)
  (hpl:plainT es') (hkk:∀ e∈es',e.length=kk) (hb:es'.length*by_≤140737488355328) (h63:es'.length≤9223372036854775807):Qt P ops o st (.o (.c (.ref m))) [.row kk es'] m :=
 .new hg fun a w H F hr hn=>by
  have hzn:zs ≠ []:=by intro e; rw[e] at hz0; cases hz0
  subst hkz
  have hv:=hr.plain hy
  have hs:srcOf st.objs (.rd ps (.sl zs.length es'))=some es':=rfl
  obtain⟨v',w',fp'',hr1,h3,h4,h5,h6⟩:=Yr (P:=P) (o:=o) (t:=t) (kk:=zs.length) (es := []) hr (OW.nil _) List.nodup_nil rfl hzn (hr.v1 hz) hs hpl hkk (by simpa using hb) (by simpa using h63)
  have hbel:Below w.heap.size w w':=⟨h6.os,h6.tape,h6.output,h6.size,fun b hb=>h6.block b hb Aqd⟩
  refine⟨v',w',.ow (.sl zs.length es') v' fp'',?_,hbel,h3,⟨h4,trivial⟩,fun b hb=>(h5 b hb).resolve_left Aqd,fun H' hgr hq=>⟨⟨_,_,hq⟩,_,_,hq⟩⟩
  exact Zf ho (by rw[hv]; exact hr1)
end
instance:PlainE TFlight:=⟨fun x t h=>by
 have h2:t ∈ [T.v (.int .i64 x.At),T.v (.string x.Data)]:=h
 simp only[List.mem_cons,Gx3,or_false] at h2
 rcases h2 with rfl | rfl <;> exact⟨_,rfl⟩⟩
instance:PlainE TPace:=⟨fun x t h=>by
 have h2:t ∈ [T.v (.int .i64 x.Newest),T.v (.int .i64 x.Their),T.v (.int .i64 x.At),T.v (.int .i64 x.Trip),T.v (.int .i64 x.Samples)]:=h
 simp only[List.mem_cons,Gx3,or_false] at h2
 rcases h2 with rfl | rfl | rfl | rfl | rfl <;> exact⟨_,rfl⟩⟩
@[reducible] def mD (x:TMatch):List V1:=mX x (sr x.Level.Rows) (sr x.Scripts) (sr x.Peers) (sr x.Wires) (sr x.Paces) (sr x.Acks) (sr x.Watchers) (sr x.Lines) (sr x.Alarms)
@[reducible] def zM:List V1 := [nv,jn 0,jn 0,nv,nv,nv,nv,nv,jn 0,nv,nv,nv,jn 0]
@[reducible] def wX (w:TWire) (a:V1):List V1 := [jn w.Seed,jn w.Delay,jn w.Jitter,jn w.Loss,jn w.Copies,jn w.Damage,jn w.Now,a,jn w.Sent,jn w.Lost]
theorem sp_in {s:TSpectator} (h:Enc.wt s≤1048576):s.World.Level.Rows.length≤1048576∧s.World.Scores.length≤1048576∧s.World.Bodies.length≤1048576:=by
 have hw:Enc.wt s=(s.World.Level.Rows.length+wts s.World.Level.Rows)+(s.World.Scores.length+wts s.World.Scores)+(s.World.Bodies.length+wts s.World.Bodies):=rfl
 omega
structure MatchIn (x:TMatch):Prop where
 gd:Enc.gd x
 wt:Enc.wt x≤1048576
theorem Zo {α:Type} [Enc α] {xs:List α} {n:Nat} (h:Enc.wt xs≤n):xs.length≤n∧∀ x∈xs,Enc.wt x≤n:=by
 have hw:Enc.wt xs=xs.length+wts xs:=rfl
 exact⟨Aqa,fun x hx=>by have:=Um xs x hx; omega⟩
structure MatchLe (x:TMatch):Prop where
 L:Enc.wt x.Level.Rows≤1048576
 S:Enc.wt x.Scripts≤1048576
 P:Enc.wt x.Peers≤1048576
 W:Enc.wt x.Wires≤1048576
 Q:Enc.wt x.Paces≤1048576
 A:Enc.wt x.Acks≤1048576
 V:Enc.wt x.Watchers≤1048576
 K:Enc.wt x.Lines≤1048576
 B:Enc.wt x.Alarms≤1048576
theorem MatchIn.le {x:TMatch} (h:MatchIn x):MatchLe x:=by
 have hw:Enc.wt x=Enc.wt x.Level.Rows+Enc.wt x.Scripts+Enc.wt x.Peers+Enc.wt x.Wires+Enc.wt x.Paces+Enc.wt x.Acks+Enc.wt x.Watchers+Enc.wt x.Lines+Enc.wt x.Alarms:=rfl
 have:=h.wt
 exact⟨Aqa,Aqa,Aqa,Aqa,Aqa,Aqa,Aqa,Aqa,Aqa⟩
theorem rows_in {xs:List (List Int)} (h:Enc.wt xs≤1048576):xs.length≤1048576∧∀ r∈xs,r.length≤1048576:=by
 obtain⟨a,b⟩:=Zo h
 exact⟨a,fun r hr=>(Zo (b r hr)).1⟩
theorem peer_in2 {x:TPeer} (g:Enc.gd x) (h:Enc.wt x≤1048576):PeerIn x:=by
 have hw:Enc.wt x=Enc.wt x.Tracks+(Enc.wt x.Base.Level.Rows+Enc.wt x.Base.Scores+Enc.wt x.Base.Bodies)+(Enc.wt x.Now.Level.Rows+Enc.wt x.Now.Scores+Enc.wt x.Now.Bodies)+Enc.wt x.Used+Enc.wt x.Saves+Enc.wt x.Sums+Enc.wt x.Fault:=rfl
 have a1:=Zo (xs:=x.Tracks) (n:=1048576) Aqa 
 have a2:=Zo (xs:=x.Base.Level.Rows) (n:=1048576) Aqa 
 have a3:=Zo (xs:=x.Base.Scores) (n:=1048576) Aqa 
 have a4:=Zo (xs:=x.Base.Bodies) (n:=1048576) Aqa 
 have a5:=Zo (xs:=x.Now.Level.Rows) (n:=1048576) Aqa 
 have a6:=Zo (xs:=x.Now.Scores) (n:=1048576) Aqa 
 have a7:=Zo (xs:=x.Now.Bodies) (n:=1048576) Aqa 
 have a8:=rows_in (xs:=x.Used) Aqa 
 have a9:=Zo (xs:=x.Saves) (n:=1048576) Aqa 
 have a10:=Zo (xs:=x.Sums) (n:=1048576) Aqa 
 exact⟨g,⟨a1.1,fun t ht=>(Zo (xs:=t.Inputs) (a1.2 t ht)).1⟩,⟨a2.1,a3.1,a4.1⟩,⟨a5.1,a6.1,a7.1⟩,a8,a9.1,a10.1⟩
theorem I_copyWire (w:TWire) (hL:Enc.wt w≤1048576):Co 154 [] [ag w] [.row 2 (els w.Flights)] (.o (.ag (wX w (Aqk 0)))):=by
 have hl:=Y7 w.Flights
 have hw:Enc.wt w=w.Flights.length+wts w.Flights:=rfl
 refine Con.o func154 ntmps154 fun E=>?_;refine Wz [59,1,18] ?_;refine M_appnil J J J J J J J J (Y8 _) (Y6 _) Aqa Aqa  ?_;refine Wz [52,7,39,73] ?_
 exact Bzy
theorem I_copyWires (xs:List TWire) (hL:Enc.wt xs≤1048576):Co 91 [] [al xs] [.row 10 (els xs)] (Aqg 0):=by
 have hlx:=Y7 xs
 obtain⟨l1,l2⟩:=Zo hL
 refine Con.o func91 ntmps91 fun E=>?_;refine Wz [23,95,25,138,34] ?_
 refine AWP.pre ?_ (W_nil 3 10 J)
 refine A_lt xs.length (fun k => [(3,Aqg 0),(6,L xs),(7,I (els xs).length),(8,I k)]) (fun k => [.row 10 (els (xs.take k))]) (Yj [0] Aqb) ?_
 intro m_A k hk_A
 have hl2:(els (xs.take k)).length=k:=Bq4
 by_cases h3:k<xs.length
 ·have f3:decide ((k:Int)<((els xs).length:Int))=true:=Gqb Aqa 
  have hat:=Y4 h3
  have hc:=I_copyWire xs[k] (l2 _ (Gqe h3))
  refine Wz [3,19,1,4,117,9,3,78,91,27,85] ?_;refine kc1 hc ?_;refine Wz [116,122,26,53,104] ?_
  exact .t (k+1) (Yk [0] Aqc J (Vy (Zb h3)) (.c J (.c J (.c J (.c J (.nil))))))
 ·have f3:decide ((k:Int)<((els xs).length:Int))=false:=Gqa Aqa 
  have hk:xs.take k=xs:=Gqj Aqa 
  refine Wz [3,19,1,4,90,74] ?_
  exact Xp J J (Yh [0] Aqc J (Vy Bq2) J)
theorem I_copyMatch (x:TMatch) (h:MatchIn x):Co 31 [] [ag x] (mR x []) (.o (.ag (mC x 0))):=by
 obtain⟨gL,_,_,gS,gP,gW,gQ,gA,_,gV,gK,gB,_⟩:=h.gd
 have hle:=h.le
 have c1:=I_copyLevel x.Level gL (Zo hle.L).1
 have c2:=I_copyRows x.Scripts gS (rows_in hle.S).1 (rows_in hle.S).2
 have c3:=I_copyRows x.Acks gA (rows_in hle.A).1 (rows_in hle.A).2
 have cK:=I_copyWires x.Lines hle.K
 obtain⟨lP,wP⟩:=Zo hle.P
 obtain⟨lW,wW⟩:=Zo hle.W
 obtain⟨lQ,wQ⟩:=Zo hle.Q
 obtain⟨lV,wV⟩:=Zo hle.V
 obtain⟨lB,wB⟩:=Zo hle.B
 have eP:=Y7 x.Peers
 have eW:=Y7 x.Wires
 have eQ:=Y7 x.Paces
 have eV:=Y7 x.Watchers
 have eB:=Y7 x.Alarms
 refine Con.o func31 ntmps31 fun E=>?_;refine Wz [59,1,7,91,56] ?_;refine AL.kp [1,1,2,2,3,3] [(16,.o (.ag [sr x.Level.Rows]))] 3 [(0,.box (mD x)),(1,.box zM),(2,.box (mD x))] ?_;refine kc1 c1 ?_;refine Wz [79,39,18] ?_;refine AL.kp [1,1,2,2,3,3,20,0] [] 4 [(0,.box (mD x)),(1,.box zM),(2,.box (mX x (Aqk 3) (sr x.Scripts) (sr x.Peers) (sr x.Wires) (sr x.Paces) (sr x.Acks) (sr x.Watchers) (sr x.Lines) (sr x.Alarms)))] ?_;refine kc1 c2 ?_;refine Wz [98] ?_;refine AL.kp [1,1,2,2,3,3,24,0] [] 5 [(0,.box (mD x)),(1,.box zM),(2,.box (mX x (Aqk 3) (Aqk 4) (sr x.Peers) (sr x.Wires) (sr x.Paces) (sr x.Acks) (sr x.Watchers) (sr x.Lines) (sr x.Alarms)))] ?_;refine kc1 c3 ?_;refine Wz [52,3,52,4,109,138,34] ?_
 refine AWP.pre ?_ (Wk.nilbox (p:=2) (i:=4) 23 J J)
 refine A_lt x.Peers.length (fun k => [(1,Aqf 0),(2,Aqf 1),(3,Aqf 2),(29,L x.Peers),(30,I (els x.Peers).length),(31,I k)]) (fun k => [.box (mD x),.box zM,.box (mX x (Aqk 3) (Aqk 4) (Aqk 6) (sr x.Wires) (sr x.Paces) (Aqk 5) (sr x.Watchers) (sr x.Lines) (sr x.Alarms)),.row 1 (els x.Level.Rows),.row 1 (els x.Scripts),.row 1 (els x.Acks),.row 23 (els (x.Peers.take k))]) (Yj [0,1,2,3,4,5,6] Aqb) ?_
 intro m_A k hk_A
 have hl2:(els (x.Peers.take k)).length=k:=Bq4
 refine Wz [3,58,4] ?_
 refine Xb J (fun h=>?_) (fun h=>?_)
 ·have h3:k<x.Peers.length:=Bqx
  have hat:=Y4 h3
  have hm:=Gqe h3
  have hsn:=Zb h3
  generalize x.Peers[k]=u at hat hm hsn
  repeat (first | refine Qd ?_ | refine Qh ?_ | refine Qk ?_ | refine Q0 ?_)
  refine Wz [94,78] ?_;refine AL.weak (st':=(⟨120,[(1,Aqf 0),(2,Aqf 1),(3,Aqf 2),(29,L x.Peers),(30,I (els x.Peers).length),(31,I k),(34,.o (.ag (Aqi u)))],[.box (mD x),.box zM,.box (mX x (Aqk 3) (Aqk 4) (Aqk 6) (sr x.Wires) (sr x.Paces) (Aqk 5) (sr x.Watchers) (sr x.Lines) (sr x.Alarms)),.row 1 (els x.Level.Rows),.row 1 (els x.Scripts),.row 1 (els x.Acks),.row 23 (els (x.Peers.take k))]⟩:St)) (Yk [0,1,2,3,4,5,6] Aqc J Aqb (.c J (.c J (.c J (.c J (.c J (.c J (.cons Aqb (.nil))))))))) ?_;refine Wz [82,47] ?_;refine AL.kp [1,1,2,2,3,3,29,0,30,0,31,0,5,8] [] 8 [(0,.box (mD x)),(1,.box zM),(2,.box (mX x (Aqk 3) (Aqk 4) (Aqk 6) (sr x.Wires) (sr x.Paces) (Aqk 5) (sr x.Watchers) (sr x.Lines) (sr x.Alarms))),(7,.box (Aqi u))] ?_
  have cP:=I_copyPeer u (peer_in2 (gP.2 u hm) (wP u hm))
  refine Wz [1] ?_;refine AWP.kp [1,1,2,2,3,3,29,0,30,0,31,0,5,8] [] 8 [(0,.box (mD x)),(1,.box zM),(2,.box (mX x (Aqk 3) (Aqk 4) (Aqk 6) (sr x.Wires) (sr x.Paces) (Aqk 5) (sr x.Watchers) (sr x.Lines) (sr x.Alarms))),(7,.box (Aqi u))] ?_;refine Xi u8_55 (tt [[],[35,1],[],[37,1],[37,2],[35,5],[35,6],[35,7]]) (tt [[37,3],[37,3],[35,2],[35,2],[35,2],[],[],[]]) J ?_;refine Wz [37,136] ?_;refine Uq (Kr J J (cP) J J J) J ?_;refine Wz [153,12] ?_;refine AL.kr [1,1,2,2,3,3,29,0,30,0,31,0] [(36,Aqg 6),(39,.o (.c (.sb 17 1 23)))] [0,1,2,3,4,5,6,8,9,10,11,12,13,14,15,16,17,18] [(0,.box (mD x)),(1,.box zM),(2,.box (mX x (Aqk 3) (Aqk 4) (Aqk 6) (sr x.Wires) (sr x.Paces) (Aqk 5) (sr x.Watchers) (sr x.Lines) (sr x.Alarms))),(18,.box (pC u 7 8 9 10 11 12 13 14 15 16))] ?_;refine X6 J J J J J J J J J J J J J J Aqa Aqa  ?_;refine AL.kp [1,1,2,2,3,3,29,0,30,0,31,0] [(40,Aqg 6)] 7 [(0,.box (mD x)),(1,.box zM),(2,.box (mX x (Aqk 3) (Aqk 4) .un (sr x.Wires) (sr x.Paces) (Aqk 5) (sr x.Watchers) (sr x.Lines) (sr x.Alarms)))] ?_;refine Wz [121,53,104] ?_
  exact .t (k+1) (by rw[hsn]; exact Yj [0,1,2,3,4,5,6] Aqb)
 have h3:¬k<x.Peers.length:=Bq5
 have hk:x.Peers.take k=x.Peers:=Gqj Aqa 
 rw[hk]
 clear hl2 h3 h hk
 refine Wz [30,3,52,4,109,138,34] ?_
 refine AWP.pre ?_ (Wk.nilbox (p:=2) (i:=5) 1 J J)
 refine A_lt x.Wires.length (fun k => [(1,Aqf 0),(2,Aqf 1),(3,Aqf 2),(45,L x.Wires),(46,I (els x.Wires).length),(47,I k)]) (fun k => [.box (mD x),.box zM,.box (mX x (Aqk 3) (Aqk 4) (Aqk 6) (Aqk 7) (sr x.Paces) (Aqk 5) (sr x.Watchers) (sr x.Lines) (sr x.Alarms)),.row 1 (els x.Level.Rows),.row 1 (els x.Scripts),.row 1 (els x.Acks),.row 23 (els x.Peers),.row 1 (els (x.Wires.take k))]) (Yj [0,1,2,3,4,5,6,7] Aqb) ?_
 intro m_B k hk_B
 have hl2:(els (x.Wires.take k)).length=k:=Bq4
 refine Wz [3,58,4] ?_
 refine Xb J (fun h=>?_) (fun h=>?_)
 ·have h3:k<x.Wires.length:=Bqx
  have hat:=Y4 h3
  have hm:=Gqe h3
  have hsn:=Zb h3
  generalize x.Wires[k]=u at hat hm hsn
  have cW:=I_copyWires u (wW u hm)
  refine Wz [9,3,100,8] ?_;refine AWP.kp [1,1,2,2,3,3,45,0,46,0,47,0,7,0] [] 8 [(0,.box (mD x)),(1,.box zM),(2,.box (mX x (Aqk 3) (Aqk 4) (Aqk 6) (Aqk 7) (sr x.Paces) (Aqk 5) (sr x.Watchers) (sr x.Lines) (sr x.Alarms)))] ?_;refine Xi u8_55 (tt [[],[51,1],[],[53,1],[53,2],[51,5],[51,6],[51,7]]) (tt [[53,3],[53,3],[51,2],[51,2],[51,2],[],[],[]]) J ?_;refine Wz [67] ?_;refine Uq (Kr J J (cW) J J J) J ?_;refine Wz [153,12,122,121,53,104] ?_
  exact .t (k+1) Bzb
 have h3:¬k<x.Wires.length:=Bq5
 have hk:x.Wires.take k=x.Wires:=Gqj Aqa 
 rw[hk]
 clear hl2 h3 h hk
 refine Wz [30,18] ?_;refine kc1 cK ?_;refine Wz [52,3,52,4,109,138,34] ?_
 refine AWP.pre ?_ (Wk.nilbox (p:=2) (i:=6) 1 J J)
 refine A_lt x.Paces.length (fun k => [(1,Aqf 0),(2,Aqf 1),(3,Aqf 2),(65,L x.Paces),(66,I (els x.Paces).length),(67,I k)]) (fun k => [.box (mD x),.box zM,.box (mX x (Aqk 3) (Aqk 4) (Aqk 6) (Aqk 7) (Aqk 9) (Aqk 5) (sr x.Watchers) (Aqk 8) (sr x.Alarms)),.row 1 (els x.Level.Rows),.row 1 (els x.Scripts),.row 1 (els x.Acks),.row 23 (els x.Peers),.row 1 (els x.Wires),.row 10 (els x.Lines),.row 1 (els (x.Paces.take k))]) (Yj [0,1,2,3,4,5,6,7,8,9] Aqb) ?_
 intro m_C k hk_C
 have hl2:(els (x.Paces.take k)).length=k:=Bq4
 refine Wz [3,58,4] ?_
 refine Xb J (fun h=>?_) (fun h=>?_)
 ·have h3:k<x.Paces.length:=Bqx
  have hat:=Y4 h3
  have hm:=Gqe h3
  have hsn:=Zb h3
  generalize x.Paces[k]=u at hat hm hsn
  have hlu:=Y7 u
  have hwu:=(Zo (wQ u hm)).1
  refine Wz [9,3,100,8] ?_;refine AWP.kp [1,1,2,2,3,3,65,0,66,0,67,0,9,0] [] 10 [(0,.box (mD x)),(1,.box zM),(2,.box (mX x (Aqk 3) (Aqk 4) (Aqk 6) (Aqk 7) (Aqk 9) (Aqk 5) (sr x.Watchers) (Aqk 8) (sr x.Alarms)))] ?_;refine Xi u8_55 (tt [[],[71,1],[],[73,1],[73,2],[71,5],[71,6],[71,7]]) (tt [[73,3],[73,3],[71,2],[71,2],[71,2],[],[],[]]) J ?_;refine Wz [67] ?_;refine Uq (q_appn J J J J J J (Y8 _) (Y6 _) Aqa Aqa) J ?_;refine Wz [153,12,122,121,53,104] ?_
  exact .t (k+1) (by rw[hsn]; exact Yj [0,1,2,3,4,5,6,7,8,9] Aqb)
 have h3:¬k<x.Paces.length:=Bq5
 have hk:x.Paces.take k=x.Paces:=Gqj Aqa 
 rw[hk]
 clear hl2 h3 h hk
 refine Wz [30,3,52,4,109,138,34] ?_
 refine AWP.pre ?_ (Wk.nilbox (p:=2) (i:=9) 6 J J)
 refine A_lt x.Watchers.length (fun k => [(1,Aqf 0),(2,Aqf 1),(3,Aqf 2),(81,L x.Watchers),(82,I (els x.Watchers).length),(83,I k)]) (fun k => [.box (mD x),.box zM,.box (mX x (Aqk 3) (Aqk 4) (Aqk 6) (Aqk 7) (Aqk 9) (Aqk 5) (Aqk 10) (Aqk 8) (sr x.Alarms)),.row 1 (els x.Level.Rows),.row 1 (els x.Scripts),.row 1 (els x.Acks),.row 23 (els x.Peers),.row 1 (els x.Wires),.row 10 (els x.Lines),.row 1 (els x.Paces),.row 6 (els (x.Watchers.take k))]) (Yj [0,1,2,3,4,5,6,7,8,9,10] Aqb) ?_
 intro m_D k hk_D
 have hl2:(els (x.Watchers.take k)).length=k:=Bq4
 refine Wz [3,58,4] ?_
 refine Xb J (fun h=>?_) (fun h=>?_)
 ·have h3:k<x.Watchers.length:=Bqx
  have hat:=Y4 h3
  have hm:=Gqe h3
  have hsn:=Zb h3
  generalize x.Watchers[k]=u at hat hm hsn
  repeat (first | refine Qd ?_ | refine Qh ?_ | refine Qk ?_ | refine Q0 ?_)
  refine Wz [94,78] ?_;refine AL.weak (st':=(⟨120,[(1,Aqf 0),(2,Aqf 1),(3,Aqf 2),(81,L x.Watchers),(82,I (els x.Watchers).length),(83,I k),(86,.o (.ag (Aqi u)))],[.box (mD x),.box zM,.box (mX x (Aqk 3) (Aqk 4) (Aqk 6) (Aqk 7) (Aqk 9) (Aqk 5) (Aqk 10) (Aqk 8) (sr x.Alarms)),.row 1 (els x.Level.Rows),.row 1 (els x.Scripts),.row 1 (els x.Acks),.row 23 (els x.Peers),.row 1 (els x.Wires),.row 10 (els x.Lines),.row 1 (els x.Paces),.row 6 (els (x.Watchers.take k))]⟩:St)) (Yk [0,1,2,3,4,5,6,7,8,9,10] Aqc J Aqb (.c J (.c J (.c J (.c J (.c J (.c J (.cons Aqb (.nil))))))))) ?_;refine Wz [82,47] ?_;refine AL.kp [1,1,2,2,3,3,81,0,82,0,83,0,11,12] [] 12 [(0,.box (mD x)),(1,.box zM),(2,.box (mX x (Aqk 3) (Aqk 4) (Aqk 6) (Aqk 7) (Aqk 9) (Aqk 5) (Aqk 10) (Aqk 8) (sr x.Alarms))),(11,.box (Aqi u))] ?_
  have cV:=Xz u.World (gV.2 u hm).1 (sp_in (wV u hm)).1 (sp_in (wV u hm)).2.1 (sp_in (wV u hm)).2.2
  refine Wz [1] ?_;refine AWP.kp [1,1,2,2,3,3,81,0,82,0,83,0,11,12] [] 12 [(0,.box (mD x)),(1,.box zM),(2,.box (mX x (Aqk 3) (Aqk 4) (Aqk 6) (Aqk 7) (Aqk 9) (Aqk 5) (Aqk 10) (Aqk 8) (sr x.Alarms))),(11,.box (Aqi u))] ?_;refine Xi [[],[0],[],[2],[2,3],[],[5],[2,3,4,5,6],(gg [2,6]),(u9 9),(u9 10),(u9 11)] (tt [[],[87,1],[],[89,1],[89,2],[],[92,1],[89,5],[89,6],[87,9],[87,10],[87,11]]) (tt [[89,7],[89,7],[87,2,92,2],[87,2,92,2],[87,2,92,2],[87,5],[87,5],[87,2],[87,2],[],[],[]]) J ?_;refine Wz [37,145,136] ?_;refine Uq (Kr J J (cV) J J J) J ?_;refine Wz [37,257,153,12,122,121,53,104] ?_
  exact .t (k+1) Bx4
 have h3:¬k<x.Watchers.length:=Bq5
 have hk:x.Watchers.take k=x.Watchers:=Gqj Aqa 
 rw[hk]
 clear hl2 h3 h hk
 refine Wz [30,3,52,4,109,138,34] ?_
 refine AWP.pre ?_ (Wk.nilbox (p:=2) (i:=11) 2 J J)
 refine A_lt x.Alarms.length (fun k => [(1,Aqf 0),(2,Aqf 1),(3,Aqf 2),(101,L x.Alarms),(102,I (els x.Alarms).length),(103,I k)]) (fun k => [.box (mD x),.box zM,.box (mX x (Aqk 3) (Aqk 4) (Aqk 6) (Aqk 7) (Aqk 9) (Aqk 5) (Aqk 10) (Aqk 8) (Aqk 11)),.row 1 (els x.Level.Rows),.row 1 (els x.Scripts),.row 1 (els x.Acks),.row 23 (els x.Peers),.row 1 (els x.Wires),.row 10 (els x.Lines),.row 1 (els x.Paces),.row 6 (els x.Watchers),.row 2 (els (x.Alarms.take k))]) (Yj [0,1,2,3,4,5,6,7,8,9,10,11] Aqb) ?_
 intro m_G k hk_G
 have hl2:(els (x.Alarms.take k)).length=k:=Bq4
 refine Wz [3,58,4] ?_
 refine Xb J (fun h=>?_) (fun h=>?_)
 ·have h3:k<x.Alarms.length:=Bqx
  have hat:=Y4 h3
  have hm:=Gqe h3
  have hsn:=Zb h3
  generalize x.Alarms[k]=u at hat hm hsn
  repeat (first | refine Qd ?_ | refine Qh ?_ | refine Qk ?_ | refine Q0 ?_)
  refine Wz [94,78] ?_;refine AL.weak (st':=(⟨120,[(1,Aqf 0),(2,Aqf 1),(3,Aqf 2),(101,L x.Alarms),(102,I (els x.Alarms).length),(103,I k),(106,.o (.ag (Aqi u)))],[.box (mD x),.box zM,.box (mX x (Aqk 3) (Aqk 4) (Aqk 6) (Aqk 7) (Aqk 9) (Aqk 5) (Aqk 10) (Aqk 8) (Aqk 11)),.row 1 (els x.Level.Rows),.row 1 (els x.Scripts),.row 1 (els x.Acks),.row 23 (els x.Peers),.row 1 (els x.Wires),.row 10 (els x.Lines),.row 1 (els x.Paces),.row 6 (els x.Watchers),.row 2 (els (x.Alarms.take k))]⟩:St)) (Yk [0,1,2,3,4,5,6,7,8,9,10,11] Aqc J Aqb (.c J (.c J (.c J (.c J (.c J (.c J (.cons Aqb (.nil))))))))) ?_;refine Wz [82,47] ?_;refine AL.kp [1,1,2,2,3,3,101,0,102,0,103,0,13,13] [] 13 [(0,.box (mD x)),(1,.box zM),(2,.box (mX x (Aqk 3) (Aqk 4) (Aqk 6) (Aqk 7) (Aqk 9) (Aqk 5) (Aqk 10) (Aqk 8) (Aqk 11))),(12,.box (Aqi u))] ?_
  have hlu:=Y7 u.Parts
  have hwu:=(Zo (xs:=u.Parts) (wB u hm)).1
  refine Wz [1] ?_;refine AWP.kp [1,1,2,2,3,3,101,0,102,0,103,0,13,13] [] 13 [(0,.box (mD x)),(1,.box zM),(2,.box (mX x (Aqk 3) (Aqk 4) (Aqk 6) (Aqk 7) (Aqk 9) (Aqk 5) (Aqk 10) (Aqk 8) (Aqk 11))),(12,.box (Aqi u))] ?_;refine Xi [[],[0],[],[2],[],[4],[4,5],[2,3,4,5,6],(gg [2,6]),(u9 9),(u9 10),(u9 11)] (tt [[],[107,1],[],[109,1],[],[111,1],[111,2],[109,5],[109,6],[107,9],[107,10],[107,11]]) (tt [[109,7],[109,7],[107,2,111,3],[107,2,111,3],[107,4],[107,4],[107,4],[107,2],[107,2],[],[],[]]) J ?_;refine Wz [37,37,37] ?_;refine Uq (q_appn J J J J J J (Y8 _) (Y6 _) Aqa Aqa) J ?_;refine Wz [257,153,12,122,121,53,104] ?_
  exact .t (k+1) Bzc
 have h3:¬k<x.Alarms.length:=Bq5
 have hk:x.Alarms.take k=x.Alarms:=Gqj Aqa 
 rw[hk]
 clear hl2 h3 h hk
 refine Wz [30,7,39,73] ?_
 exact Xm J J J J (Yh [3,4,6,7,9,5,10,8,11] Aqc J J J)
end
end Go.Proofs.YtalaljeokcpfnaaGreat
