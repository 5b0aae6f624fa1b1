/-
  Rules, data and contracts of functions: part 25 of the proof.
  Conditions: those that each theorem names.
-/
import Derived.Test.YtpmacgnmlmmojaaGreatDoorDDRBRowk23
set_option linter.unusedSimpArgs false
set_option linter.unusedVariables false
set_option maxRecDepth 8000
set_option maxHeartbeats 8000000
namespace Go.Proofs.YtpmacgnmlmmojaaGreatDoor
section
open Go.RowKit

def V2.allk (f:V1→Prop):V2→Prop
 | .c x=>f x
 | .ag xs=>allP f xs
def V.allk (f:V1→Prop):V→Prop
 | .o x=>x.allk f
 | .tu xs=>allP (V2.allk f) xs
 | .iff _ x=>x.allk f
def Ob.allk (f:V1→Prop):Ob→Prop
 | .box cs=>allP f cs
 | .gh _ x=>x.allk f
 |_=>True
section
variable {f:V1→Prop} {g h:V1→V1} (hgh:∀ x,f x→g x=h x)
include hgh
theorem V2.allk_eq (x:V2) (hx:x.allk f):x.mapk g=x.mapk h:=by
 cases x with
 |c x=>exact congrArg V2.c (hgh x hx)
 |ag xs=>exact congrArg V2.ag (Yi hgh hx)
theorem V.allk_eq (x:V) (hx:x.allk f):x.mapk g=x.mapk h:=by
 cases x with
 |o x=>exact congrArg V.o (V2.allk_eq hgh x hx)
 |tu xs=>exact congrArg V.tu (Yi (V2.allk_eq hgh) hx)
 |iff cs x=>exact congrArg (V.iff cs) (V2.allk_eq hgh x hx)
theorem Ob.allk_eq (x:Ob) (hx:x.allk f):x.mapk g=x.mapk h:=by
 cases x with
 |box cs=>exact congrArg Ob.box (Yi hgh hx)
 |gh i x=>exact congrArg (Ob.gh i) (V2.allk_eq hgh x hx)
 |_=>rfl
end
def V1.leok (p kk i j:Nat):V1→Prop
 | .le q k a b=>match Nat.beq q p with
  |true=>k=kk∧a=i∧b=j
  |false=>True
 |_=>True
def V1.tole (p m:Nat):V1→V1
 | .le q k a b=>match Nat.beq q p with
  |true => .ref m
  |false=>(V1.le q k a b).killw [p,m] [p]
 |x=>x.killw [p,m] [p]
def V1.tole0 (p m kk i j:Nat):V1→V1
 | .le q k a b=>match Nat.beq q p with
  |true=>if k=kk∧a=i∧b=j then .ref m else .un
  |false=>(V1.le q k a b).killw [p,m] [p]
 |x=>x.killw [p,m] [p]
theorem V1.tole_eq {p m kk i j:Nat} (x:V1) (hx:x.leok p kk i j):x.tole0 p m kk i j=x.tole p m:=by
 cases x with
 | le q k a b =>
  simp only[V1.tole0,V1.tole]
  simp only[V1.leok] at hx
  split
  ·rename_i hq
   rw[hq] at hx
   exact if_pos hx
  ·rfl
 |_=>rfl
theorem Wk.split0 {st:St} {p kk i j k':Nat} {es es0:List (List T)} {e:List T} (hp:st.objs[p]? = some (.row kk es)) (he:es[i]? = some e) (hx:e[j]? = some (.sl k' es0)) :
  Wk st ⟨st.n,st.tmps.map fun t=>(t.1,t.2.mapk (V1.tole0 p st.objs.length kk i j)),((st.objs.map (Ob.mapk (V1.tole0 p st.objs.length kk i j))).set p (.row kk (es.set i (splice e j [.un])))) ++ [.row k' es0]⟩:=by
 intro w H F a h1
 obtain⟨v,fp,e1,e2⟩:=h1.ow hp
 have hnd:=h1.ok.nodup p
 rw[e1] at hnd
 have hnil:H st.objs.length = .nil:=by
  have:=h1.obs st.objs.length
  simpa[Gqc,RB] using this
 have hplt:=Zk hp
 obtain⟨b,o,c,u,f,rfl,hbf,hcell,hO,hfn,hsub,hback⟩:=e2.inner hnd he hx
 have hlt:∀ x∈fp,x<w.heap.size:=fun x hx=>h1.ok.lt (p:=p) (by rw[e1]; exact hx)
 have hu1:u.oneCell'=true:=OW.one hO
 obtain⟨fp',g1,g2,g3⟩:=hback w .un [] (fun _ _ _=>rfl) (.un u hu1) List.nodup_nil (fun x hx=>by simp at hx) hlt
 have g4:∀ x∈fp',x∈fp∧x∉f:=fun x hx=>(g3 x hx).resolve_right (by simp)
 obtain⟨N,hN⟩:∃ N,N=st.objs.length:=⟨_,rfl⟩
 rw[←hN] at hnil ⊢
 have hNp:N≠p:=by omega
 obtain⟨H',hH'⟩:∃ H':Hs,H'=fun q=>if q=N then .ow (.sl k' es0) u f else if q=p then .ow (.sl kk (es.set i (splice e j [.un]))) (.slice (some ⟨b,o,none⟩) es.length c) fp' else H q:=⟨_,rfl⟩
 have hHN:H' N = .ow (.sl k' es0) u f:=by rw[hH']; exact if_pos rfl
 have hHp:H' p = .ow (.sl kk (es.set i (splice e j [.un]))) (.slice (some ⟨b,o,none⟩) es.length c) fp':=by rw[hH']; simp[Ne.symm hNp]
 have hHo:∀ q,q≠N→q≠p→H' q=H q:=fun q h1 h2=>by rw[hH']; simp only; rw[if_neg h1,if_neg h2]
 have hin:∀ q x,x∈(H' q).fp→(q=N∧x∈f)∨(q=p∧x∈fp∧x∉f)∨(q≠N∧q≠p∧x∈(H q).fp):=fun q x hx=>by
  by_cases hq:q=N
  ·subst hq; rw[hHN] at hx; exact .inl ⟨rfl,hx⟩
  ·by_cases hqp:q=p
   ·subst hqp; rw[hHp] at hx; exact .inr (.inl ⟨rfl,g4 x hx⟩)
   ·rw[hHo q hq hqp] at hx; exact .inr (.inr ⟨hq,hqp,hx⟩)
 have hpf:∀ x,x∈fp→x∈(H p).fp:=fun x hx=>by rw[e1]; exact hx
 have hok:Ok w H' F:=by
  refine⟨fun q => ?_,fun q => ?_,fun q r x h2 h3 => ?_,fun q x h2 => ?_,h1.ok.flt⟩
  ·by_cases hq:q=N
   ·subst hq; rw[hHN]; exact hO
   ·by_cases hqp:q=p
    ·subst hqp; rw[hHp]; exact g1
    ·rw[hHo q hq hqp]; exact h1.ok.says q
  ·by_cases hq:q=N
   ·subst hq; rw[hHN]; exact hfn
   ·by_cases hqp:q=p
    ·subst hqp; rw[hHp]; exact g2
    ·rw[hHo q hq hqp]; exact h1.ok.nodup q
  ·rcases hin q x h2 with ⟨rfl,k1⟩ | ⟨rfl,k1,k2⟩ | ⟨k1,k2,k3⟩ <;> rcases hin r x h3 with ⟨e5,m1⟩ | ⟨e5,m1,m2⟩ | ⟨m1,m2,m3⟩
   ·exact e5.symm
   ·exact absurd k1 m2
   ·exact absurd (h1.ok.disj r p x m3 (hpf x (hsub x k1))) m2
   ·exact absurd m1 k2
   ·exact e5.symm
   ·exact absurd (h1.ok.disj r q x m3 (hpf x k1)) m2
   ·exact absurd (h1.ok.disj q p x k3 (hpf x (hsub x m1))) k2
   ·exact absurd (h1.ok.disj q p x k3 (hpf x m1)) k2
   ·exact h1.ok.disj q r x k3 m3
  ·rcases hin q x h2 with ⟨rfl,k1⟩ | ⟨rfl,k1,k2⟩ | ⟨k1,k2,k3⟩
   ·exact h1.ok.free p x (hpf x (hsub x k1))
   ·exact h1.ok.free q x (hpf x k1)
   ·exact h1.ok.free q x k3
 have hfpo:∀ q x,x∈(H' q).fp→∃ r,x∈(H r).fp:=fun q x hx=>by
  rcases hin q x hx with ⟨rfl,k1⟩ | ⟨rfl,k1,k2⟩ | ⟨k1,k2,k3⟩
  ·exact⟨p,hpf x (hsub x k1)⟩
  ·exact⟨q,hpf x k1⟩
  ·exact⟨q,k3⟩
 have hghs:∀ q i v,H' q = .gh i v→∃ r,H r = .gh i v:=fun q i v hq=>by
  by_cases hqN:q=N
  ·subst hqN; rw[hHN] at hq; cases hq
  ·by_cases hqp:q=p
   ·subst hqp; rw[hHp] at hq; cases hq
   ·exact⟨q,by rw[←hHo q hqN hqp]; exact hq⟩
 have htn:Turn w H w H' [p,N]:=⟨rfl,rfl,rfl,Gqf _,fun _ _ _=>rfl,fun q hq=>hHo q (fun e=>hq (by simp[e])) (fun e=>hq (by simp[e])),fun q x hx => .inl (hfpo q x hx),hghs⟩
 have hplace:∀ q ∈ [p],Place (H q) (H' q):=fun q hq=>by
  have:q=p:=by simpa using hq
  subst this
  exact .inl ⟨_,_,_,_,_,e1,hHp⟩
 have hone:∀ x v,R1 w H F x v→R1 w H' F (V1.tole0 p N kk i j x) v:=fun x v hx=>by
  cases x with
  | le q k a b' =>
   simp only[V1.tole0]
   split
   ·rename_i hq
    have hqp:=Gxf hq
    subst hqp
    split
    ·rename_i hc
     rw[hc.1,hc.2.1,hc.2.2] at hx
     obtain⟨b2,o2,n2,c2,x2,fp2,k1,k2,k3,k4⟩:=hx
     rw[e1] at k1
     simp only[Pc.ow.injEq,Value.slice.injEq,Option.some.injEq,Addr.mk.injEq] at k1
     obtain⟨_,⟨⟨rfl,rfl,_⟩,_,_⟩,_⟩:=k1
     rw[hcell] at k4
     simp only[Option.some.injEq] at k4
     subst k4
     exact⟨_,_,hHN⟩
    ·trivial
   ·exact R1.killw h1.ok htn hplace hx
  |_=>exact R1.killw h1.ok htn hplace hx
 refine⟨H',h1.mapk (V1.tole0 p N kk i j) hone hok _ (fun q => ?_),hfpo,hghs⟩
 by_cases hqN:q=N
 ·subst hqN
  rw[Zj (x := .row k' es0) (by rw[Gq4 (by simp; omega)]; simp[hN])]
  exact⟨_,_,hHN⟩
 by_cases hqp:q=p
 ·subst hqp
  rw[Zj (x := .row kk (es.set i (splice e j [.un]))) (by rw[Gqz (by simpa using hplt)]; simp[hplt])]
  exact⟨_,_,hHp⟩
 ·rcases Gqp q st.objs.length with hlt2 | hge
  ·rw[Gqc,Gqz (by simpa using hlt2),Gxb (Ne.symm hqp),Gqh]
   have h2:=h1.obs q
   rw[Gqc] at h2
   have h3:H' q=H q:=hHo q hqN hqp
   cases ho:st.objs[q]? with
   |none=>rw[ho] at h2; exact h3.trans h2
   |some ob=>rw[ho] at h2; exact RB.mapk hone h3 h2
  ·rw[Gqc,List.getElem?_eq_none (by simp; omega)]
   have h2:=h1.obs q
   rw[Gqc,List.getElem?_eq_none hge] at h2
   exact (hHo q hqN hqp).trans h2
theorem Wk.split {st:St} {p kk i j k':Nat} {es es0:List (List T)} {e:List T} (hp:st.objs[p]? = some (.row kk es)) (he:es[i]? = some e) (hx:e[j]? = some (.sl k' es0)) (ht:allP (fun t:Nat×V=>t.2.allk (V1.leok p kk i j)) st.tmps) (ho:allP (Ob.allk (V1.leok p kk i j)) st.objs) :
  Wk st ⟨st.n,st.tmps.map fun t=>(t.1,t.2.mapk (V1.tole p st.objs.length)),((st.objs.map (Ob.mapk (V1.tole p st.objs.length))).set p (.row kk (es.set i (splice e j [.un])))) ++ [.row k' es0]⟩:=by
 have h:=Wk.split0 hp he hx
 rw[Yi (g:=fun e:Nat×V=>(e.1,e.2.mapk (V1.tole0 p st.objs.length kk i j))) (h:=fun e:Nat×V=>(e.1,e.2.mapk (V1.tole p st.objs.length))) (fun e he=>by rw[V.allk_eq V1.tole_eq e.2 he]) ht,Yi (fun x hx=>Ob.allk_eq V1.tole_eq x hx) ho] at h
 exact h
end
section
open Go.RowKit

theorem row2 {k:Nat} {a b:List (List T)} {g:Ob} (h:a=b) : [Ob.row k a,g] = [Ob.row k b,g]:=by rw[h]
theorem els_set {α:Type} [Enc α] (xs:List α) (i:Nat) (x:α):els (xs.set i x)=(els xs).set i (Enc.e x):=by simp[els,List.map_set]
end
section
open Go.RowKit

theorem mk_next {α:Type} [Enc α] {ms xs:List α} (hl:ms.length=xs.length) {i:Nat} (h:i<xs.length) {c:T} {e:List T} (hc:Enc.e (ms[i]'(by omega)) = [c]) (he:e.length=1:=by rfl):els (ms.take (i+1)++xs.drop (i+1))=(els (ms.take i++xs.drop i)).set i (splice e 0 [c]):=by
 have h1:splice e 0 [c]=Enc.e (ms[i]'(by omega)):=by
  rw[hc]
  match e,he with
  | [t],_=>rfl
 have h2:i<ms.length:=by omega
 rw[h1,←els_set]
 congr 1
 have hi:(ms.take i).length=i:=by simp; omega
 rw[Gxd h2,List.set_append_right _ _ (by omega)]
 have:i-(ms.take i).length=0:=by omega
 rw[this,Gza h,List.set_cons_zero,Gqn]
 rfl
theorem mk_at {α:Type} {ms xs:List α} (hl:ms.length=xs.length) {i:Nat} (h:i<xs.length) (h':i<(ms.take i++xs.drop i).length:=by simp; omega):(ms.take i++xs.drop i)[i]=xs[i]:=by
 have hi:(ms.take i).length=i:=by simp; omega
 rw[List.getElem_append_right (by omega)]
 simp[hi]
theorem mk_len {α:Type} {ms xs:List α} (hl:ms.length=xs.length) {i:Nat} (h:i≤xs.length):(ms.take i++xs.drop i).length=xs.length:=by simp; omega
theorem mk_end {α:Type} {ms xs:List α} (hl:ms.length=xs.length) {i:Nat} (h:xs.length≤i):ms.take i++xs.drop i=ms:=by rw[Gxk (by omega),List.drop_of_length_le h,Gxg]

def tot (xs:List (List Int)):Nat:=(xs.map List.length).sum
end
section
open Go.RowKit

def snocs (rows:List (List Int)) (l:List Int):List (List Int):=List.zipWith (fun r x=>r ++ [x]) rows l
def colsGo (s:ByteArray) (n:Nat):Nat→Nat→List (List Int)→Option (List (List Int)×Nat)
 |0,pos,rows=>some (rows,pos)
 | c+1,pos,rows=>match unpackText s (pos:Int) with
  |none=>none
  |some (t,k)=>match unpackTrack t with
   |none=>none
   |some l=>if l.length=n then colsGo s n c (pos+k) (snocs rows l) else none
@[reducible] def ucO:Option (List (List Int)×Nat)→List Ob
 |none => [.row 1 []]
 |some (l,_) => [.row 1 (els l)]
@[reducible] def ucR (p:Nat):Option (List (List Int)×Nat)→V
 |none => .tu [.c (.ref 0),.c (jn 0),.c (bv false)]
 |some (_,e) => .tu [.c (.ref 0),.c (jn ((e:Int)-p)),.c (bv true)]
theorem utGo_some (s:ByteArray):∀ (f pos:Nat) (acc l:List Int),acc.length≤400→(∀ x∈acc,I64 x)→utGo s f pos acc=some l→l.length≤400∧∀ x∈l,I64 x:=by
 intro f
 induction f with
 |zero=>intro pos acc l h1 h2 h; simp only[utGo,Option.some.injEq] at h; subst h; exact⟨h1,h2⟩
 | succ f ih =>
  intro pos acc l h1 h2 h
  rw[utGo] at h
  split at h
  ·split at h
   ·cases h
   ·rename_i n k hd
    have hm:=Y3 hd
    split at h
    ·cases h
    ·refine ih _ _ l (by simp; omega) (fun x hx => ?_) h
     rcases Gqm.1 hx with hx | hx
     ·exact h2 x hx
     ·have:=Gx5 hx
      exact⟨by omega,by omega⟩
  ·simp only[Option.some.injEq] at h; subst h; exact⟨h1,h2⟩
theorem Vn {s:ByteArray} {l:List Int} (h:unpackTrack s=some l):packTrack l=s∧l.length≤400∧∀ x∈l,I64 x:=by
 unfold unpackTrack at h
 split at h
 ·cases h
 ·rename_i l' hl
  split at h
  ·simp only[Option.some.injEq] at h
   subst h
   rename_i hp
   exact⟨hp,utGo_some s _ _ _ _ (by simp) (fun x hx=>by simp at hx) hl⟩
  ·cases h
theorem unpackTrack_nil:unpackTrack ⟨#[]⟩=some []:=by
 have h1:packTrack []=⟨#[]⟩:=by rw[packTrack,if_pos ⟨by simp,by simp[inOk]⟩,packRuns]
 rw[unpackTrack,show utGo ⟨#[]⟩ (ByteArray.mk #[]).size 0 []=some [] from rfl]
 exact if_pos h1
theorem snocs_len {rows:List (List Int)} {l:List Int} (h:l.length=rows.length):(snocs rows l).length=rows.length:=by simp[snocs,h]
theorem snocs_at {rows:List (List Int)} {l:List Int} {i:Nat} (h1:i<rows.length) (h2:i<l.length) (h:i<(snocs rows l).length):(snocs rows l)[i]=rows[i] ++ [l[i]]:=by simp[snocs]
theorem make_rows (n:Nat):List.replicate (n:Int).toNat ([Value.slice none 0 0].map (zT 1))=els (List.replicate n ([]:List Int)):=by
 rw[els,List.map_replicate]
 rfl
theorem app_next {ms rows:List (List Int)} (hl:ms.length=rows.length) {i:Nat} (h:i<rows.length) {x:Int} (hm:ms[i]'(by omega)=rows[i] ++ [x]) :
  els (ms.take (i+1)++rows.drop (i+1))=((els (ms.take i++rows.drop i)).set i (splice [T.sl 1 (els rows[i])] 0 [.un])).set i (splice (splice [T.sl 1 (els rows[i])] 0 [.un]) 0 [.sl 1 (els rows[i] ++ [[.v (.int .i64 x)]])]):=by
 rw[List.set_set]
 exact mk_next (e := [T.sl 1 (els rows[i])]) hl h (c := .sl 1 (els rows[i] ++ [[.v (.int .i64 x)]])) (by rw[hm,←els_snocI]; rfl)
theorem I_unpackColumns (s:ByteArray) (p c n:Nat) (hs:s.size≤1099511627776) (hp:p≤s.size) (hc:c≤4) (hn:n≤400) :
  Con Tryz.prog 74 [] [astr s,ai p,ai c,ai n] (ucO (colsGo s n c p (List.replicate n []))) (ucR p (colsGo s n c p (List.replicate n []))):=by
 refine Con.of Tryz.func74 J Tryz.ntmps74 J (fun E => ?_)
 refine Wz [1,68,32] ?_;refine V6 (q_make 1 J J J J (by omega) (by omega) (by omega) J (by simp)) J ?_;refine Wz [32,23,63] ?_
 refine Xi (fun m__ st=>∃ (k:Nat) (pos:Nat) (rows:List (List Int)),c-k=m__∧(k≤c∧rows.length=n∧(∀ r∈rows,r.length≤k)∧p≤pos∧pos≤s.size∧colsGo s n (c-k) pos rows=colsGo s n c p (List.replicate n []))∧st=(⟨_,[(0,S s),(1,I p),(2,I c),(3,I n),(11,.o (.c (.ref 0))),(12,I pos),(13,I k)],[.row 1 (els rows)]⟩:St)) _ ⟨(fun (k:Nat) (pos:Nat) (rows:List (List Int))=>(⟨_,[(0,S s),(1,I p),(2,I c),(3,I n),(11,.o (.c (.ref 0))),(12,I pos),(13,I k)],[.row 1 (els rows)]⟩:St)) (0) (p) (List.replicate n []),⟨0,p,List.replicate n [],J,⟨by omega,by simp,fun r hr=>by rw[Gx5 hr]; simp,by omega,by omega,J⟩,J⟩,Yg [0] (by decide) J (K7 (make_rows n).symm) (.c J (.c J (.c J (.c J (.c J (.c J (.c J (.nil))))))))⟩ ?_
 rintro m_A _ ⟨k,pos,rows,hk_A,hp_A,rfl⟩
 obtain⟨hkc,hrl,hrk,hpp,hps,hgo⟩:=hp_A
 rw[←hgo]
 by_cases hlt:(k:Int)<c
 ·have hb:decide ((k:Int)<c)=true:=Gqb hlt
  obtain⟨f,hf⟩:∃ f,c-k=f+1:=⟨c-k-1,by omega⟩
  rw[hf]
  have hut:=Xw s (pos:Int) hs ⟨by omega,by omega⟩
  cases hv:unpackText s (pos:Int) with
  |none =>
   rw[hv] at hut
   rw[show colsGo s n (f+1) pos rows=none by rw[colsGo,hv]]
   refine Wz [24,57,123] ?_;refine V6 (Kh J J (hut) J J J) J ?_;refine Wz [78,28,68,85,53] ?_
   exact Xq J J J J (Ye [1] [1] J J (by decide) J J J)
  | some r =>
   obtain⟨t,m⟩:=r
   rw[hv] at hut
   have hm:=Vm hv
   have htr:=I_UnpackTrack t (by omega)
   cases hw:unpackTrack t with
   |none =>
    rw[hw] at htr
    rw[show colsGo s n (f+1) pos rows=none by rw[colsGo,hv]; simp only[]; rw[hw]]
    refine Wz [24,57,123] ?_;refine V6 (Kh J J (hut) J J J) J ?_;refine Wz [78,76] ?_;refine V6 (Kh J J (htr) J J J) J ?_;refine Wz [118,130,20,9,28,68,85,53] ?_
    exact Xq J J J J (Ye [1] [2] J J (by decide) J J J)
   | some l =>
    rw[hw] at htr
    have hlw:=Vn hw
    have hll:=Y9 l
    by_cases hne:((els l).length:Int)≠n
    ·have hb2:decide (((els l).length:Int)≠n)=true:=Gqb hne
     rw[show colsGo s n (f+1) pos rows=none by rw[colsGo,hv]; simp only[]; rw[hw]; simp only[]; rw[if_neg (by omega)]]
     refine Wz [24,57,123] ?_;refine V6 (Kh J J (hut) J J J) J ?_;refine Wz [78,76] ?_;refine V6 (Kh J J (htr) J J J) J ?_;refine Wz [118,130,8,58,18,116,28,68,85,53] ?_
     exact Xq J J J J (Ye [1] [2] J J (by decide) J J J)
    have hb2:decide (((els l).length:Int)≠n)=false:=Gqa hne
    have hne:=Classical.not_not.1 hne
    have hsl:=snocs_len (rows:=rows) (l:=l) (by omega)
    have hgo2:colsGo s n (f+1) pos rows=colsGo s n f (pos+m) (snocs rows l):=by rw[colsGo,hv]; simp only[]; rw[hw]; simp only[]; rw[if_pos (by omega)]
    refine Wz [24,57,123] ?_;refine V6 (Kh J J (hut) J J J) J ?_;refine Wz [78,76] ?_;refine V6 (Kh J J (htr) J J J) J ?_;refine Wz [118,130,8,58,18,116,38,25,98,131,33] ?_;refine Xi (fun m__ st=>∃ (i:Nat),n-i=m__∧(i≤n)∧st=(⟨_,[(0,S s),(1,I p),(2,I c),(3,I n),(11,.o (.c (.ref 0))),(12,I pos),(13,I k),(15,I m),(50,.o (.c (.ref 1))),(51,I (els l).length),(52,I i)],[.row 1 (els ((snocs rows l).take i++rows.drop i)),.row 1 (els l)]⟩:St)) _ ⟨_,⟨0,J,Gq2 _,J⟩,Gs [0,1]⟩ ?_
    rintro m_B _ ⟨i,hk_B,hp_B,rfl⟩
    refine Wz [1,100,39] ?_
    refine Xb J (fun h => ?_) (fun h => ?_)
    ·have h:=Gqi h
     have hin:i<l.length:=by omega
     have hir:i<rows.length:=by omega
     have hatl:=Y7 hin
     have hil:i<((snocs rows l).take i++rows.drop i).length:=by rw[mk_len hsl (by omega)]; exact hir
     have hat:=Y7 hil
     rw[mk_at hsl hir] at hat
     have hrr:=hrk _ (Gql hir)
     have hlr:=Y9 rows[i]
     have hln:(els ((snocs rows l).take i++rows.drop i)).length=n:=by rw[Y9,mk_len hsl (by omega)]; omega
     have hat2:((els ((snocs rows l).take i++rows.drop i)).set (i:Int).toNat (splice (Enc.e rows[i]) 0 [.un]))[(i:Int).toNat]? = some (splice (Enc.e rows[i]) 0 [.un]):=by
      rw[Gxl]
      rw[hln]; omega
     have hln2:((els ((snocs rows l).take i++rows.drop i)).set (i:Int).toNat (splice (Enc.e rows[i]) 0 [.un])).length=n:=by rw[Gxm]; exact hln
     refine Wz [77] ?_;refine zx (Q3 J J J J J (by omega) (by assumption)) J ?_;refine Wz [70,34,11,22,144,0,41] ?_;refine zx (q_lee (p:=0) J J J J (by assumption) J) J ?_;refine Wz [0,45] ?_
     refine AL.weak (Wk.split (p:=0) J hat J (by repeat' (first | exact trivial | exact⟨J,J,J⟩ | refine And.intro ?_ ?_)) (by repeat' (first | exact trivial | exact⟨J,J,J⟩ | refine And.intro ?_ ?_))) ?_
     refine Wz [148,41,173,74,64] ?_
     refine⟨_,(by omega),(fun (i:Nat)=>(⟨_,[(0,S s),(1,I p),(2,I c),(3,I n),(11,.o (.c (.ref 0))),(12,I pos),(13,I k),(15,I m),(50,.o (.c (.ref 1))),(51,I (els l).length),(52,I i)],[.row 1 (els ((snocs rows l).take i++rows.drop i)),.row 1 (els l)]⟩:St)) (i+1),⟨i+1,J,by omega,J⟩,Yg [0,1] (by decide) J (row2 (app_next hsl hir (snocs_at hir hin _))) (.c J (.c J (.c J (.c J (.c J (.c J (.c J (.c J (.c J (.c J (.c J (.nil))))))))))))⟩
    ·have h:=Gqj h
     refine Wz [40,22,46,105] ?_
     have hsn:∀ r∈snocs rows l,r.length≤k+1:=fun r hr=>by
      obtain⟨q,hq,rfl⟩:=List.getElem_of_mem hr
      rw[snocs_at (by omega) (by omega)]
      have:=hrk _ (Gql (show q<rows.length by omega))
      simp; omega
     have hend:=mk_end (i:=i) hsl (by omega)
     refine⟨_,(by omega),_,⟨k+1,pos+m,snocs rows l,J,⟨by omega,by omega,hsn,by omega,by omega,by rw[hgo2,show c-(k+1)=f by omega]⟩,J⟩,(by rw[hend]; exact Gs [0])⟩
 ·have hb:decide ((k:Int)<c)=false:=Gqa hlt
  have hkk:k=c:=by omega
  subst hkk
  rw[show colsGo s n (k-k) pos rows=some (rows,pos) by rw[Gx9]; rfl]
  refine Wz [24,5,61,37,0,71,68,19] ?_
  exact Xq J J J J (Gr [0] J J J)
end
section
open Go.RowKit

/-! ### Numbers -/
theorem bytesL_len {s:ByteArray} {q k:Nat} (h:q+k≤s.size):(bytesL s q k).length=k:=by
 have:s.data.toList.length=s.size:=by simp
 simp[bytesL]; omega
theorem dvGo_canon (s:ByteArray) (q:Nat):∀ (f k:Nat) (m:Int) (j:Nat),q+k≤s.size→(∀ a∈bytesL s q k,128≤a.toNat)→dvGo s q (dval (bytesL s q k):Nat) k f=some (m,j)→encVar m=bytesL s q j:=by
 intro f
 induction f with
 |zero=>intro k m j _ _ h; simp[dvGo] at h
 | succ f ih =>
  intro k m j hqk hall h
  have hlen:=bytesL_len hqk
  rw[dvGo] at h
  split at h
  ·rename_i hlt
   obtain⟨b,hb,hcb⟩:=bytesL_succ hlt
   have hval:(dval (bytesL s q k):Int)+byteAt s (q+k)%128*2 ^ (7*k)=((dval (bytesL s q (k+1)):Nat):Int):=by
    rw[hb,dval_snoc,hlen,hcb]
    push_cast
    rfl
   rw[hval] at h
   split at h
   ·rename_i h128
    refine ih (k+1) m j (by omega) (fun a ha => ?_) h
    rw[hb] at ha
    rcases Gqm.1 ha with ha | ha
    ·exact hall a ha
    ·simp only[Gq7] at ha
     rw[ha]; omega
   ·rename_i h128
    split at h
    ·cases h
    ·rename_i hbad
     simp only[Option.some.injEq,Prod.mk.injEq] at h
     obtain⟨rfl,rfl⟩:=h
     have hcan:=canon (b:=b) (by omega) (bytesL s q k) hall
     have hnil:bytesL s q k = []↔k=0:=by rw[←List.length_eq_zero_iff,hlen]
     rw[←hb,hnil] at hcan
     rw[encVar,if_pos (by omega),show ((dval (bytesL s q (k+1)):Nat):Int).toNat=dval (bytesL s q (k+1)) by omega]
     exact hcan.2 (by omega)
  ·cases h
theorem decVar_canon {s:ByteArray} {p m:Int} {j:Nat} (h:decVar s p=some (m,j)):encVar m=bytesL s p.toNat j:=by
 unfold decVar at h
 split at h
 ·exact dvGo_canon s p.toNat 6 0 m j (by omega) (by simp[bytesL]) (by simpa[bytesL,dval] using h)
 ·cases h
theorem signless_signed {u:Int} (h:0≤u∧u≤1099511627775):signless (signed u)=u:=by
 unfold signed
 rw[if_pos h]
 split
 ·rw[signless,if_pos (by omega),if_pos (by omega)]; omega
 ·rw[signless,if_pos (by omega),if_neg (by omega)]; omega
/-! ### Lists -/
theorem Yw {s:ByteArray} {q j k:Nat}:bytesL s q j++bytesL s (q+j) k=bytesL s q (j+k):=by
 unfold bytesL
 rw[←Gxn,List.take_add]
def packB (l:List Int):List UInt8:=l.flatMap fun x=>encVar (signless x)
theorem uiGo_canon (s:ByteArray) (p:Nat):∀ (c pos:Nat) (l:List Int) (j:Nat),uiGo s p c pos=some (l,j)→pos≤j∧packB l=bytesL s (p+pos) (j-pos)∧∀ x∈l,0≤signless x:=by
 intro c
 induction c with
 |zero =>
  intro pos l j h
  simp only[uiGo,Option.some.injEq,Prod.mk.injEq] at h
  obtain⟨rfl,rfl⟩:=h
  exact⟨Gqf _,by simp[packB,bytesL],fun x hx=>by simp at hx⟩
 | succ c ih =>
  intro pos l j h
  rw[uiGo] at h
  split at h
  ·cases h
  ·rename_i v m hd
   obtain⟨r,h1,h2⟩:=Option.map_eq_some_iff.1 h
   simp only[Prod.mk.injEq] at h2
   obtain⟨rfl,rfl⟩:=h2
   have hm:=Y3 hd
   have hcn:=decVar_canon hd
   obtain⟨a1,a2,a3⟩:=ih (pos+m) r.1 r.2 h1
   have hsg:=signless_signed (u:=v) (by omega)
   refine⟨by omega,?_,fun x hx => ?_⟩
   ·rw[packB,List.flatMap_cons,hsg,hcn,show ((p:Int)+(pos:Int)).toNat=p+pos by omega]
    show bytesL s (p+pos) m++packB r.1=_
    rw[a2,show p+(pos+m)=p+pos+m by omega,Yw]
    congr 1
    omega
   ·rcases List.mem_cons.1 hx with rfl | hx
    ·rw[hsg]; omega
    ·exact a3 x hx
theorem unpackInts_canon {s:ByteArray} {p:Int} {l:List Int} {j:Nat} (h:unpackInts s p=some (l,j)):packInts l=bs (bytesL s p.toNat j):=by
 unfold unpackInts at h
 split at h
 ·cases h
 ·rename_i n k hd
  have hm:=Y3 hd
  have hcn:=decVar_canon hd
  obtain⟨a1,a2,a3⟩:=uiGo_canon s _ _ _ _ _ h
  obtain⟨b1,b2,b3,b4⟩:=uiGo_some s _ _ _ _ _ h
  have hall:(l.all fun x=>decide (0≤signless x))=true:=Gqk.2 fun x hx=>Gqb (a3 x hx)
  rw[packInts,if_pos hall,packK,Gq1,show (l.length:Int)=n by omega,hcn]
  show bs (bytesL s p.toNat k++packB l)=_
  rw[a2,Yw]
  congr 2
  omega
/-! ### Texts -/
theorem Vk {s t:ByteArray} {p:Int} {j:Nat} (h:unpackText s p=some (t,j)):packText t=bs (bytesL s p.toNat j):=by
 unfold unpackText at h
 split at h
 ·cases h
 ·rename_i n k hd
  have hm:=Y3 hd
  have hcn:=decVar_canon hd
  split at h
  ·cases h
  ·simp only[Option.some.injEq,Prod.mk.injEq] at h
   obtain⟨rfl,rfl⟩:=h
   have hsz:(s.extract (p+k).toNat (p+k+n).toNat).size=n.toNat:=by
    rw[Gxe]; omega
   rw[packText,hsz,show ((n.toNat:Nat):Int)=n by omega,hcn,show (p+k+n).toNat=(p+k).toNat+n.toNat by omega,Zg,Yq,show (p+k).toNat=p.toNat+k by omega,Yw]
theorem unpackTrack_ok {t:ByteArray} {l:List Int} (h:unpackTrack t=some l) (hl:0<l.length):inOk l=true:=by
 obtain⟨h1,h2,_⟩:=Vn h
 cases ho:inOk l with
 |true=>rfl
 |false =>
  rw[packTrack,if_neg (by rw[ho]; simp)] at h1
  subst h1
  rw[show unpackTrack (bs [])=some [] from unpackTrack_nil] at h
  simp only[Option.some.injEq] at h
  rw[←h] at hl
  simp at hl
/-! ### Columns -/
theorem colM_snocs {rows:List (List Int)} {l:List Int} {k:Nat} (hl:l.length=rows.length) (hk:∀ r∈rows,r.length=k):colM (snocs rows l) k=l∧∀ i,i<k→colM (snocs rows l) i=colM rows i:=by
 have hlen:=snocs_len hl
 refine⟨List.ext_getElem (by rw[Y0,hlen,hl]) fun q h1 h2 => ?_,fun i hi=>List.ext_getElem (by rw[Y0,Y0,hlen]) fun q h1 h2 => ?_⟩
 ·have h3:q<rows.length:=by omega
  simp only[colM,List.getElem_map]
  rw[snocs_at h3 h2]
  have:=hk _ (Gql h3)
  simp[Gqc,this]
 ·rw[Y0] at h2
  simp only[colM,List.getElem_map]
  rw[snocs_at h2 (by omega)]
  have:=hk _ (Gql h2)
  simp[Gqc,Gqz,this,hi]
theorem snocs_lens {rows:List (List Int)} {l:List Int} {k:Nat} (hl:l.length=rows.length) (hk:∀ r∈rows,r.length=k):∀ r∈snocs rows l,r.length=k+1:=fun r hr=>by
 obtain⟨q,hq,rfl⟩:=List.getElem_of_mem hr
 have h3:q<rows.length:=by rw[snocs_len hl] at hq; exact hq
 rw[snocs_at h3 (by omega)]
 have:=hk _ (Gql h3)
 simp[this]
theorem colsB_eq {a b:List (List Int)}:∀ k,(∀ i,i<k→colM a i=colM b i)→colsB a k=colsB b k
 |0,_=>rfl
 |k+1,h=>by rw[colsB,colsB,h k (by omega),colsB_eq k fun i hi=>h i (by omega)]
theorem colsGo_canon (s:ByteArray) (n:Nat) (hn:0<n):∀ (c pos:Nat) (rows:List (List Int)) (k:Nat) (R:List (List Int)) (e:Nat),pos≤s.size→rows.length=n→(∀ r∈rows,r.length=k)→(∀ i,i<k→inOk (colM rows i)=true)→colsGo s n c pos rows=some (R,e) →
  R.length=n∧pos≤e∧e≤s.size∧(∀ r∈R,r.length=k+c)∧(∀ i,i<k+c→inOk (colM R i)=true)∧colsB R (k+c)=colsB rows k++bs (bytesL s pos (e-pos)):=by
 intro c
 induction c with
 |zero =>
  intro pos rows k R e hp h1 h2 h3 h
  simp only[colsGo,Option.some.injEq,Prod.mk.injEq] at h
  obtain⟨rfl,rfl⟩:=h
  exact⟨h1,Gqf _,hp,h2,h3,by rw[Gx9,show bytesL s pos 0 = [] by simp[bytesL],app_nil]; rfl⟩
 | succ c ih =>
  intro pos rows k R e hp h1 h2 h3 h
  rw[colsGo] at h
  split at h
  ·cases h
  ·rename_i t m hv
   have hm:=Vm hv
   have hcn:=Vk hv
   split at h
   ·cases h
   ·rename_i l hw
    split at h
    ·rename_i hl
     have hl':l.length=rows.length:=by omega
     obtain⟨c1,c2⟩:=colM_snocs hl' h2
     have hin:=unpackTrack_ok hw (by omega)
     obtain⟨g1,g2,g3,g4,g5,g6⟩:=ih (pos+m) (snocs rows l) (k+1) R e (by omega) (by rw[snocs_len hl']; exact h1) (snocs_lens hl' h2) (fun i hi=>by
      by_cases hik:i=k
      ·rw[hik,c1]; exact hin
      ·rw[c2 i (by omega)]; exact h3 i (by omega)) h
     refine⟨g1,by omega,g3,by rw[show k+(c+1)=k+1+c by omega]; exact g4,by rw[show k+(c+1)=k+1+c by omega]; exact g5,?_⟩
     rw[show k+(c+1)=k+1+c by omega,g6,colsB,c1,colsB_eq k c2,(Vn hw).1,hcn,ByteArray.append_assoc,show (pos:Int).toNat=pos by omega,Yq (bytesL s pos m),Yw,show m+(e-(pos+m))=e-pos by omega]
    ·cases h
/-! ### DecodeStream -/
theorem bytesL_all (s:ByteArray) (k:Nat) (h:k≤s.size):bs (bytesL s 0 k)=s↔k=s.size:=by
 constructor
 ·intro e
  have:=congrArg ByteArray.size e
  rw[Ys,bytesL_len (by omega)] at this
  exact this
 ·intro e
  subst e
  unfold bytesL
  rw[Gx8,show s.size=s.data.toList.length by simp,Gq1,bs_of]
end
section
open Go.RowKit

def keysGo (s:ByteArray):Nat→Nat→List ByteArray→Option (List ByteArray×Nat)
 |0,pos,acc=>some (acc,pos)
 |c+1,pos,acc=>match unpackText s pos with
  |none=>none
  |some (t,m)=>keysGo s c (pos+m) (acc ++ [t])
def headOk (h0 h2 h3:Int):Prop:=(1≤h0∧h0≤4)∧(1≤h2∧h2≤100)∧(0≤h3∧h3≤400)
instance (h0 h2 h3:Int):Decidable (headOk h0 h2 h3):=by unfold headOk; infer_instance
def drBody (s:ByteArray):Option (TReplay×Nat):=match unpackText s 0 with
 |none=>none
 | some (tx,a)=>if levelOk (parseLv tx)=true then match unpackInts s a with
  | some ([h0,h1,h2,h3],b)=>if headOk h0 h2 h3 then (match colsGo s h3.toNat h0.toNat (a+b) (List.replicate h3.toNat []) with
   |none=>none
   |some (rows,e)=>match keysGo s (h3/h2).toNat e [] with
    |none=>none
    |some (keys,e')=>some (⟨parseLv tx,h0,h1,h2,rows,keys⟩,e')) else none
  |_=>none
  else none
noncomputable def drI (t:ByteArray):Option TReplay:=match openText t with
 |none=>none
 |some s=>match drBody s with
  |none=>none
  |some (r,e)=>if e=s.size∧replayOk r=true then some r else none
noncomputable def drS (t:ByteArray):Option TReplay:=match openText t with
 |none=>none
 |some s=>match drBody s with
  |none=>none
  |some (r,e)=>if encodeReplay r=t then some r else none
theorem keysB_pre {a b:List ByteArray}:∀ k,k≤a.length→keysB (a++b) k=keysB a k
 |0,_=>rfl
 |k+1,h=>by
  have h1:(a++b).getD k ⟨#[]⟩=a.getD k ⟨#[]⟩:=by simp[Gqc,Gqz,show k<a.length by omega]
  rw[keysB,keysB,keysB_pre k (by omega),h1]
theorem keysB_snoc (a:List ByteArray) (t:ByteArray):keysB (a ++ [t]) (a ++ [t]).length=keysB a a.length++packText t:=by
 rw[Gqe,show [t].length=1 from rfl,keysB,keysB_pre _ (Gqf _)]
 simp[Gqc]
theorem keysGo_canon (s:ByteArray):∀ (c pos:Nat) (acc ks:List ByteArray) (e:Nat),pos≤s.size→(∀ x∈acc,x.size≤s.size)→keysGo s c pos acc=some (ks,e) →
  pos≤e∧e≤s.size∧ks.length=acc.length+c∧(∀ x∈ks,x.size≤s.size)∧keysB ks ks.length=keysB acc acc.length++bs (bytesL s pos (e-pos)):=by
 intro c
 induction c with
 |zero =>
  intro pos acc ks e hp hx h
  simp only[keysGo,Option.some.injEq,Prod.mk.injEq] at h
  obtain⟨rfl,rfl⟩:=h
  exact⟨Gqf _,hp,J,hx,by rw[Gx9,show bytesL s pos 0 = [] by simp[bytesL],app_nilB]⟩
 | succ c ih =>
  intro pos acc ks e hp hx h
  rw[keysGo] at h
  split at h
  ·cases h
  ·rename_i t m hv
   have hm:=Vm hv
   have hcn:=Vk hv
   obtain⟨g1,g2,g3,g4,g5⟩:=ih (pos+m) (acc ++ [t]) ks e (by omega) (fun x hx'=>by
    rcases Gqm.1 hx' with h1 | h1
    ·exact hx x h1
    ·simp at h1; rw[h1]; omega) h
   refine⟨by omega,g2,by rw[g3,Gqe]; simp; omega,g4,?_⟩
   rw[g5,keysB_snoc,hcn,ByteArray.append_assoc,show (pos:Int).toNat=pos by omega,Yq (bytesL s pos m),Yw,show m+(e-(pos+m))=e-pos by omega]
theorem snocs_nil (l:List Int):snocs [] l = []:=rfl
theorem colsGo_canon0 (s:ByteArray):∀ (c pos k:Nat) (R:List (List Int)) (e:Nat),pos≤s.size→colsGo s 0 c pos []=some (R,e) →
  R = []∧pos≤e∧e≤s.size∧colsB [] (k+c)=colsB [] k++bs (bytesL s pos (e-pos)):=by
 intro c
 induction c with
 |zero =>
  intro pos k R e hp h
  simp only[colsGo,Option.some.injEq,Prod.mk.injEq] at h
  obtain⟨rfl,rfl⟩:=h
  exact⟨J,Gqf _,hp,by rw[Gx9,show bytesL s pos 0 = [] by simp[bytesL],app_nilB]; rfl⟩
 | succ c ih =>
  intro pos k R e hp h
  rw[colsGo] at h
  split at h
  ·cases h
  ·rename_i t m hv
   have hm:=Vm hv
   have hcn:=Vk hv
   split at h
   ·cases h
   ·rename_i l hw
    split at h
    ·rename_i hl
     have hl0:l = []:=List.length_eq_zero_iff.1 (by omega)
     subst hl0
     rw[snocs_nil] at h
     obtain⟨g1,g2,g3,g4⟩:=ih (pos+m) (k+1) R e (by omega) h
     refine⟨g1,by omega,g3,?_⟩
     rw[show k+(c+1)=k+1+c by omega,g4,colsB,show colM [] k = [] from rfl,(Vn hw).1,hcn,ByteArray.append_assoc,show (pos:Int).toNat=pos by omega,Yq (bytesL s pos m),Yw,show m+(e-(pos+m))=e-pos by omega]
    ·cases h
structure DR_ (s:ByteArray) (r:TReplay) (e:Nat):Prop where
 le:e≤s.size
 enc:encB r=bs (bytesL s 0 e)
 lv:levelOk r.Level=true
 lr:r.Level.Rows.length≤s.size+1
 lg:s.size≤16777216→Enc.gd r.Level
 pl:1≤r.Players∧r.Players≤4
 sd:I64 r.Seed
 ev:1≤r.Every∧r.Every≤100
 rl:r.Rows.length≤400
 rw_:∀ x∈r.Rows,(x.length:Int)=r.Players∧∀ y∈x,0≤y∧y≤15
 kl:r.Keys.length≤400
 ks:∀ x∈r.Keys,x.size≤s.size
theorem cols_el {R:List (List Int)} {c:Nat} (h4:∀ r∈R,r.length=c) (h5:∀ i,i<c→inOk (colM R i)=true):∀ r∈R,∀ x∈r,0≤x∧x≤15:=fun r hr x hx=>by
 obtain⟨j,hj,rfl⟩:=List.getElem_of_mem hx
 have hjc:j<c:=by rw[←h4 r hr]; exact hj
 have h6:=h5 j hjc
 have h7:r.getD j 0∈colM R j:=Gqr.2 ⟨r,hr,rfl⟩
 have h8:=Zn.1 (Gqk.1 h6 _ h7)
 rw[Gqc,Gqd hj] at h8
 exact h8
theorem drBody_ok {s:ByteArray} {r:TReplay} {e:Nat} (h:drBody s=some (r,e)):DR_ s r e:=by
 unfold drBody at h
 split at h
 ·cases h
 rename_i tx a hu
 have hus:=Vm hu
 have huc:=Vk hu
 split at h
 case isFalse=>cases h
 rename_i hlv
 split at h
 case h_2=>cases h
 rename_i h0 h1 h2 h3 b hi
 have his:=Vj hi
 have hic:=unpackInts_canon hi
 split at h
 case isFalse=>cases h
 rename_i hh
 obtain⟨⟨p1,p2⟩,⟨e1,e2⟩,⟨n1,n2⟩⟩:=hh
 split at h
 ·cases h
 rename_i rows e0 hc
 split at h
 ·cases h
 rename_i keys e' hk
 simp only[Option.some.injEq,Prod.mk.injEq] at h
 obtain⟨rfl,rfl⟩:=h
 have hR:rows.length=h3.toNat∧a+b≤e0∧e0≤s.size∧(∀ x∈rows,x.length=h0.toNat∧∀ y∈x,0≤y∧y≤15)∧colsB rows h0.toNat=bs (bytesL s (a+b) (e0-(a+b))):=by
  by_cases hz:h3.toNat=0
  ·rw[hz] at hc
   obtain⟨g1,g2,g3,g4⟩:=colsGo_canon0 s h0.toNat (a+b) 0 rows e0 (by omega) hc
   subst g1
   rw[Gxj] at g4
   exact⟨hz.symm,g2,g3,(fun x hx=>nomatch hx),by rw[g4]; exact ByteArray.empty_append⟩
  ·obtain⟨g1,g2,g3,g4,g5,g6⟩:=colsGo_canon s h3.toNat (by omega) h0.toNat (a+b) (List.replicate h3.toNat []) 0 rows e0 (by omega) (by simp) (fun x hx=>by rw[Gx5 hx]; rfl) (fun i hi=>absurd hi (Nat.not_lt_zero _)) hc
   rw[Gxj] at g4 g5 g6
   have hel:=cols_el g4 g5
   exact⟨g1,g2,g3,fun x hx=>⟨g4 x hx,hel x hx⟩,by rw[g6]; exact ByteArray.empty_append⟩
 obtain⟨r1,r2,r3,r4,r5⟩:=hR
 obtain⟨k1,k2,k3,k4,k5⟩:=keysGo_canon s (h3/h2).toNat e0 [] keys e' r3 (fun x hx=>by cases hx) hk
 have htx:tx.size≤s.size:=by omega
 have hd:h3/h2≤h3:=Int.ediv_le_self _ n1
 refine⟨k2,?_,hlv,?_,fun hs=>(pvL_gd (s:=tx) (by omega)).1,⟨p1,p2⟩,his.2.2.2.2 h1 (by simp),⟨e1,e2⟩,by show rows.length≤400; omega,fun x hx=>⟨?_,(r4 x hx).2⟩,?_,k4⟩
 ·show packText (joinB (parseLv tx).Rows slashB)++packInts [h0,h1,h2,(rows.length:Int)]++colsB rows h0.toNat++keysB keys keys.length=_
  have hr3:(rows.length:Int)=h3:=by omega
  rw[joinB_parse,hr3,huc,hic,r5,k5,show keysB [] [].length=bs [] from rfl]
  have e0':(0:Int).toNat=0:=rfl
  have ea:(a:Int).toNat=a:=by omega
  rw[e0',ea]
  have c1:bs (bytesL s 0 a)++bs (bytesL s a b)=bs (bytesL s 0 (a+b)):=by
   have:=Yw (s:=s) (q:=0) (j:=a) (k:=b)
   rw[Gxj] at this
   rw[Yq,this]
  have c2:bs (bytesL s 0 (a+b))++bs (bytesL s (a+b) (e0-(a+b)))=bs (bytesL s 0 e0):=by
   have:=Yw (s:=s) (q:=0) (j:=a+b) (k:=e0-(a+b))
   rw[Gxj,show a+b+(e0-(a+b))=e0 by omega] at this
   rw[Yq,this]
  have c3:bs (bytesL s 0 e0)++(bs []++bs (bytesL s e0 (e'-e0)))=bs (bytesL s 0 e'):=by
   have:=Yw (s:=s) (q:=0) (j:=e0) (k:=e'-e0)
   rw[Gxj,show e0+(e'-e0)=e' by omega] at this
   rw[Yq,Yq,List.nil_append,this]
  rw[c1,c2,c3]
 ·have h1:=splitC_len 47 tx.data.toList
  rw[←Lib.size_eq] at h1
  show ((splitC 47 tx.data.toList).map bs).length≤_
  rw[List.length_map]; omega
 ·show (x.length:Int)=h0
  have:=(r4 x hx).1
  omega
 ·show keys.length≤400
  rw[k3]
  show 0+_≤_
  omega
end
section
open Go.RowKit

theorem byte_drop {s:ByteArray} {q:Nat} {b:UInt8} {r:List UInt8} (h:s.data.toList.drop q=b::r):q<s.size∧byteAt s q=(b.toNat:Int):=by
 have hl:q<s.data.toList.length:=by
  rcases Gqp q s.data.toList.length with h1 | h1
  ·exact h1
  ·rw[List.drop_eq_nil_of_le h1] at h; cases h
 have hs:s.data.toList.length=s.size:=by simp
 obtain⟨b',h1,h2⟩:=Yt (s:=s) (i:=q) (by omega)
 rw[Gza hl] at h
 rw[Gqd hl] at h1
 simp only[Option.some.injEq] at h1
 simp only[List.cons.injEq] at h
 exact⟨by omega,by rw[h2,←h1,h.1]⟩
theorem dvGo_enc (s:ByteArray) (p:Nat) (r:List UInt8):∀ (f N k:Nat) (acc:Int),0≤acc→s.data.toList.drop (p+k)=varN N++r→acc+N*2 ^ (7*k)≤1099511627775→(0<k→N≠0)→(varN N).length≤f→dvGo s p acc k f=some (acc+N*2 ^ (7*k),k+(varN N).length):=by
 intro f
 induction f with
 |zero=>intro N k acc _ _ _ _ h; have:=(varN_len N).1; omega
 | succ f ih =>
  intro N k acc h0 hd hb hk hf
  rw[dvGo]
  by_cases hN:N<128
  ·rw[Vo hN] at hd ⊢
   obtain⟨h1,h2⟩:=byte_drop hd
   have e:((UInt8.ofNat N).toNat:Int)=N:=by rw[UInt8.toNat_ofNat']; omega
   rw[e] at h2
   rw[if_pos h1,h2,if_neg (by omega),show (N:Int)%128=N by omega,if_neg (by omega)]
   rfl
  ·rw[varN_big hN] at hd hf ⊢
   have e:((UInt8.ofNat (N%128+128)).toNat:Int)=N%128+128:=by rw[UInt8.toNat_ofNat']; omega
   obtain⟨h1,h2⟩:=byte_drop hd
   rw[e] at h2
   have hd2:s.data.toList.drop (p+(k+1))=varN (N/128)++r:=by
    have:=congrArg (List.drop 1) hd
    rw[Gxn] at this
    rw[show p+(k+1)=p+k+1 by omega,this]
    rfl
   have hv:acc+(N:Int)%128*2 ^ (7*k)+((N/128:Nat):Int)*2 ^ (7*(k+1))=acc+N*2 ^ (7*k):=by
    have e2:(2:Int) ^ (7*(k+1))=128*2 ^ (7*k):=by rw[show 7*(k+1)=7*k+7 by omega,Int.pow_add]; omega
    have e3:(N:Int)=128*((N/128:Nat):Int)+(N:Int)%128:=by omega
    rw[e2]
    generalize (2:Int) ^ (7*k)=M
    generalize ((N/128:Nat):Int)=q at e3 ⊢
    generalize (N:Int)%128=d at e3 ⊢
    rw[e3]
    grind
   have hM:(0:Int)≤(N:Int)%128*2 ^ (7*k):=Int.mul_nonneg (by omega) (Int.le_of_lt (Int.pow_pos (by omega)))
   have hi:=ih (N/128) (k+1) (acc+(N:Int)%128*2 ^ (7*k)) (by omega) hd2 (by omega) (fun _=>by omega) (by simp at hf; omega)
   rw[hv] at hi
   rw[if_pos h1,h2,if_pos (by omega),show ((N:Int)%128+128)%128=(N:Int)%128 by omega,hi]
   simp only[Gqt]
   congr 2
   omega
theorem Y2 {s:ByteArray} {p:Nat} {n:Int} {r:List UInt8} (h0:0≤n) (h1:n≤1099511627775) (hs:s.data.toList.drop p=encVar n++r):decVar s p=some (n,(encVar n).length):=by
 have hl:=Zd n
 rw[encVar,if_pos ⟨h0,h1⟩] at hs hl ⊢
 have hne:=(varN_len n.toNat).1
 have hp:p<s.size:=by
  have:(s.data.toList.drop p).length=(varN n.toNat++r).length:=by rw[hs]
  have e:s.data.toList.length=s.size:=by simp
  simp only[Gq0,Gqe] at this
  omega
 rw[decVar,if_pos (by omega)]
 have:=dvGo_enc s p r 6 n.toNat 0 0 (by omega) (by simpa using hs) (by simp; omega) (by omega) hl
 simp at this
 rw[show ((p:Int)).toNat=p by omega,this]
 simp
 omega
theorem signed_signless {x:Int} (h:0≤signless x):signed (signless x)=x:=by
 unfold signless at h ⊢
 split at h
 ·rename_i hx
  rw[if_pos hx]
  split
  ·rw[signed,if_pos (by omega),if_pos (by omega)]; omega
  ·rw[signed,if_pos (by omega),if_neg (by omega)]; omega
 ·omega
theorem signless_le (x:Int):signless x≤1099511627775:=by
 unfold signless
 split
 ·split <;> omega
 ·omega
theorem uiGo_enc (s:ByteArray) (p:Nat) (r:List UInt8):∀ (l:List Int) (pos:Nat),(∀ x∈l,0≤signless x)→s.data.toList.drop (p+pos)=(l.flatMap fun x=>encVar (signless x))++r→uiGo s p l.length pos=some (l,pos+(l.flatMap fun x=>encVar (signless x)).length)
 | [],pos,_,_=>rfl
 | x::l,pos,hx,hs=>by
  have h0:=hx x (by simp)
  rw[List.flatMap_cons,Gqn] at hs
  have h1:=Y2 h0 (signless_le x) hs
  have hd:s.data.toList.drop (p+(pos+(encVar (signless x)).length))=(l.flatMap fun x=>encVar (signless x))++r:=by
   have:=congrArg (List.drop (encVar (signless x)).length) hs
   rw[Gxn,List.drop_left] at this
   rw[←this]
   congr 1
   omega
  have h2:=uiGo_enc s p r l (pos+(encVar (signless x)).length) (fun y hy=>hx y (by simp[hy])) hd
  rw[Gqt,uiGo,show (p:Int)+(pos:Int)=((p+pos:Nat):Int) by omega,h1]
  simp only[h2,Gqy,signed_signless h0,List.flatMap_cons,Gqe]
  congr 2
  omega
theorem unpackInts_enc {xs:List Int} (hx:∀ x∈xs,0≤signless x) (hL:xs.length≤1073741824):unpackInts (packInts xs) 0=some (xs,(packInts xs).size):=by
 have hall:xs.all (fun x=>decide (0≤signless x))=true:=by simpa using hx
 have hp:packInts xs=bs (encVar xs.length++xs.flatMap fun x=>encVar (signless x)):=by
  rw[packInts,if_pos hall,packK,Gq1]
 have hl:(packInts xs).data.toList=encVar xs.length++((xs.flatMap fun x=>encVar (signless x)) ++ []):=by rw[hp,Yr,Gxg]
 have h1:decVar (packInts xs) ((0:Nat):Int)=_:=Y2 (n:=(xs.length:Int)) (by omega) (by omega) (by rw[Gx8]; exact hl)
 have h2:=uiGo_enc (packInts xs) 0 [] xs (encVar (xs.length:Int)).length hx (by
  have:=congrArg (List.drop (encVar (xs.length:Int)).length) hl
  rw[List.drop_left] at this
  rw[Gxj]; exact this)
 rw[unpackInts,show (0:Int)=((0:Nat):Int) from rfl,h1]
 simp only[Int.toNat_natCast,h2]
 congr 2
 rw[hp,Ys,Gqe]
end
section
open Go.RowKit

structure TBody where
 Kind:Int
 Owner:Int
 X:Int
 Y:Int
 VX:Int
 VY:Int
 Aim:Int
 Life:Int
 Timer:Int
 deriving DecidableEq
instance:Enc TBody:=⟨9,by omega,fun x => [.v (.int .i64 x.Kind),.v (.int .i64 x.Owner),.v (.int .i64 x.X),.v (.int .i64 x.Y),.v (.int .i64 x.VX),.v (.int .i64 x.VY),.v (.int .i64 x.Aim),.v (.int .i64 x.Life),.v (.int .i64 x.Timer)],fun _=>rfl,fun x=>Enc.gd x.Kind∧Enc.gd x.Owner∧Enc.gd x.X∧Enc.gd x.Y∧Enc.gd x.VX∧Enc.gd x.VY∧Enc.gd x.Aim∧Enc.gd x.Life∧Enc.gd x.Timer,fun x=>0⟩
theorem TBody.same {x y:TBody} (h0:x.Kind=y.Kind) (h1:x.Owner=y.Owner) (h2:x.X=y.X) (h3:x.Y=y.Y) (h4:x.VX=y.VX) (h5:x.VY=y.VY) (h6:x.Aim=y.Aim) (h7:x.Life=y.Life) (h8:x.Timer=y.Timer):x=y:=by cases x; cases y; simp_all
structure TWorld where
 Level:TLevel
 Tick:Int
 Seed:Int
 Scores:(List Int)
 Bodies:(List TBody)
 deriving DecidableEq
instance:Enc TWorld:=⟨5,by omega,fun x => [sl x.Level.Rows,.v (.int .i64 x.Tick),.v (.int .i64 x.Seed),sl x.Scores,sl x.Bodies],fun _=>rfl,fun x=>Enc.gd x.Level∧Enc.gd x.Tick∧Enc.gd x.Seed∧Enc.gd x.Scores∧Enc.gd x.Bodies,fun x=>Enc.wt x.Level+Enc.wt x.Scores+Enc.wt x.Bodies⟩
theorem TWorld.same {x y:TWorld} (h0:x.Level=y.Level) (h1:x.Tick=y.Tick) (h2:x.Seed=y.Seed) (h3:x.Scores=y.Scores) (h4:x.Bodies=y.Bodies):x=y:=by cases x; cases y; simp_all
structure TSpectator where
 World:TWorld
 Gaps:Int
 deriving DecidableEq
instance:Enc TSpectator:=⟨6,by omega,fun x => [sl x.World.Level.Rows,.v (.int .i64 x.World.Tick),.v (.int .i64 x.World.Seed),sl x.World.Scores,sl x.World.Bodies,.v (.int .i64 x.Gaps)],fun _=>rfl,fun x=>Enc.gd x.World∧Enc.gd x.Gaps,fun x=>Enc.wt x.World⟩
theorem TSpectator.same {x y:TSpectator} (h0:x.World=y.World) (h1:x.Gaps=y.Gaps):x=y:=by cases x; cases y; simp_all

/-! ### Marks -/
end
end Go.Proofs.YtpmacgnmlmmojaaGreatDoor
