/-
  Rules, data and contracts of functions: part 8 of the proof.
  Conditions: those that each theorem names.
-/
import Derived.Test.YtalaljeokcpfnaaGreatDDPlayRowk6
set_option linter.unusedSimpArgs false
set_option linter.unusedVariables false
namespace Go.Proofs.YtalaljeokcpfnaaGreat
section
open Go.RowKit

/-! ### nil ass a slice of one's own -/
def V1.isNil:V1→Bool
 | .rd _ (.v (.slice none 0 0))=>true
 |_=>false
def fill1:Nat→List V1→List V1
 |_,[] => []
 |n,x::xs=>if x.isNil then .ref n::fill1 (n+1) xs else x::fill1 n xs
def cnt1:List V1→Nat
 | []=>0
 |x::xs=>if x.isNil then cnt1 xs+1 else cnt1 xs
def V2.fill (n:Nat):V2→V2
 | .c x=>if x.isNil then .c (.ref n) else .c x
 | .ag xs => .ag (fill1 n xs)
def V2.cnt:V2→Nat
 | .c x=>if x.isNil then 1 else 0
 | .ag xs=>cnt1 xs
def fillL:Nat→List V2→List V2
 |_,[] => []
 |n,x::xs=>x.fill n::fillL (n+x.cnt) xs
def cntL:List V2→Nat
 | []=>0
 |x::xs=>x.cnt+cntL xs
def V.fill (n:Nat):V→V
 | .o x => .o (x.fill n)
 | .tu xs => .tu (fillL n xs)
 | .iff cs x => .iff cs x
def V.cnt:V→Nat
 | .o x=>x.cnt
 | .tu xs=>cntL xs
 | .iff _ _=>0

section
variable {w:World} {H H':Hs} {F:Nat→Prop} {N m:Nat}
theorem nil_val {x:V1} {v:Value} (hx:x.isNil=true) (h:R1 w H F x v):v = .slice none 0 0:=by
 unfold V1.isNil at hx
 split at hx
 ·exact (RO.plain h).1
 ·cases hx
theorem fill1_ok (hg:∀ {x:V1} {v:Value},R1 w H F x v→R1 w H' F x v) (hn:∀ p,N≤p→p<N+m→∃ k,H' p = .ow (.sl k []) (.slice none 0 0) []) :
  ∀ (xs:List V1) (us:List Value) (n:Nat),N≤n→n+cnt1 xs≤N+m→us.length=xs.length→(∀ (i:Nat) (x:V1) (u:Value),xs[i]? = some x→us[i]? = some u→R1 w H F x u) →
   (fill1 n xs).length=xs.length∧∀ (i:Nat) (x:V1) (u:Value),(fill1 n xs)[i]? = some x→us[i]? = some u→R1 w H' F x u
 | [],us,n,_,_,_,_=>⟨rfl,fun i x u h=>by simp[fill1] at h⟩
 |x::xs,[],n,_,_,hl,_=>by simp at hl
 | x::xs,u::us,n,h1,h2,hl,hr=>by
  have h0:=hr 0 x u J J
  have hr':∀ (i:Nat) (x:V1) (u:Value),xs[i]? = some x→us[i]? = some u→R1 w H F x u:=fun i x u h3 h4=>hr (i+1) x u (by simpa using h3) Bxn
  simp only[fill1,cnt1] at h2 ⊢
  split
  ·rename_i hx
   rw[if_pos hx] at h2
   obtain⟨h3,h4⟩:=fill1_ok hg hn xs us (n+1) Aqa Aqa  Bxs hr'
   refine⟨by simp[h3],fun i y v hi hv=>?_⟩
   cases i with
   |zero =>
    simp only[Gxf,Option.some.injEq] at hi hv
    subst hi hv
    obtain⟨k,e⟩:=hn n h1 Aqa 
    exact⟨_,_,by rw[e,nil_val hx h0]⟩
   |succ i=>exact h4 i y v Bxi (by simpa using hv)
  ·rename_i hx
   rw[if_neg hx] at h2
   obtain⟨h3,h4⟩:=fill1_ok hg hn xs us n h1 h2 Bxs hr'
   refine⟨by simp[h3],fun i y v hi hv=>?_⟩
   cases i with
   |zero =>
    simp only[Gxf,Option.some.injEq] at hi hv
    subst hi hv
    exact hg h0
   |succ i=>exact h4 i y v Bxi (by simpa using hv)
theorem fill2_ok (hg:∀ {x:V1} {v:Value},R1 w H F x v→R1 w H' F x v) (hn:∀ p,N≤p→p<N+m→∃ k,H' p = .ow (.sl k []) (.slice none 0 0) []) {x:V2} {v:Value} {n:Nat} (h1:N≤n) (h2:n+x.cnt≤N+m) (h:R2 w H F x v):R2 w H' F (x.fill n) v:=by
 cases x with
 | c x =>
  simp only[V2.fill,V2.cnt] at h2 ⊢
  split
  ·rename_i hx
   rw[if_pos hx] at h2
   obtain⟨k,e⟩:=hn n h1 Aqa 
   exact⟨_,_,by rw[e,nil_val hx h]⟩
  ·exact hg h
 |ag xs =>
  obtain⟨us,e,hl,hr⟩:=h
  obtain⟨h3,h4⟩:=fill1_ok hg hn xs us n h1 h2 hl hr
  exact⟨us,e,by rw[hl]; exact h3.symm,h4⟩
theorem fillL_ok (hg:∀ {x:V1} {v:Value},R1 w H F x v→R1 w H' F x v) (hn:∀ p,N≤p→p<N+m→∃ k,H' p = .ow (.sl k []) (.slice none 0 0) []) :
  ∀ (xs:List V2) (us:List Value) (n:Nat),N≤n→n+cntL xs≤N+m→us.length=xs.length→(∀ (i:Nat) (x:V2) (u:Value),xs[i]? = some x→us[i]? = some u→R2 w H F x u) →
   (fillL n xs).length=xs.length∧∀ (i:Nat) (x:V2) (u:Value),(fillL n xs)[i]? = some x→us[i]? = some u→R2 w H' F x u
 | [],us,n,_,_,_,_=>⟨rfl,fun i x u h=>by simp[fillL] at h⟩
 |x::xs,[],n,_,_,hl,_=>by simp at hl
 | x::xs,u::us,n,h1,h2,hl,hr=>by
  have h0:=hr 0 x u J J
  simp only[fillL,cntL] at h2 ⊢
  obtain⟨h3,h4⟩:=fillL_ok hg hn xs us (n+x.cnt) Aqa Aqa  Bxs fun i x u h3 h4=>hr (i+1) x u (by simpa using h3) Bxn
  refine⟨by simp[h3],fun i y v hi hv=>?_⟩
  cases i with
  |zero =>
   simp only[Gxf,Option.some.injEq] at hi hv
   subst hi hv
   exact fill2_ok hg hn h1 Aqa h0
  |succ i=>exact h4 i y v Bxi (by simpa using hv)
theorem fillV_ok (hg:∀ {x:V1} {v:Value},R1 w H F x v→R1 w H' F x v) (hn:∀ p,N≤p→p<N+m→∃ k,H' p = .ow (.sl k []) (.slice none 0 0) []) {x:V} {v:Value} (h2:x.cnt≤m) (h:RV w H F x v):RV w H' F (x.fill N) v:=by
 cases x with
 |o x=>exact fill2_ok hg hn (Gqi _) (by simp only[V.cnt] at h2; omega) h
 |tu xs =>
  obtain⟨us,e,hl,hr⟩:=h
  obtain⟨h3,h4⟩:=fillL_ok hg hn xs us N (Gqi _) (by simp only[V.cnt] at h2; omega) hl hr
  exact⟨us,e,by rw[hl]; exact h3.symm,h4⟩
 |iff cs x =>
  refine⟨fun hc=>?_,h.2⟩
  cases x with
  |c x=>exact hg (h.1 hc)
  |ag xs=>obtain⟨us,e,hl,hr⟩:=h.1 hc; exact⟨us,e,hl,fun i x u h1 h2=>hg (hr i x u h1 h2)⟩
end

theorem Wk.nils {st:St} (d:Nat) (ks:List Nat) {x:V} (hx:look st.tmps d=x) (hk:x.cnt=ks.length):Wk st ⟨st.n,(d,x.fill st.objs.length)::st.tmps,st.objs++ks.map fun k => .row k []⟩:=by
 intro w H F a h
 have hnil:∀ p,st.objs.length≤p→H p = .nil:=fun p hp=>by
  have:=h.obs p
  simpa[Gqf,RB,hp] using this
 obtain⟨H',hH'⟩:∃ H':Hs,H'=fun p=>if st.objs.length≤p∧p<st.objs.length+ks.length then .ow (.sl (ks.getD (p-st.objs.length) 0) []) (.slice none 0 0) [] else H p:=⟨_,rfl⟩
 have hin:∀ p,st.objs.length≤p→p<st.objs.length+ks.length→H' p = .ow (.sl (ks.getD (p-st.objs.length) 0) []) (.slice none 0 0) []:=fun p h1 h2=>by rw[hH']; exact if_pos ⟨h1,h2⟩
 have hout:∀ p,¬(st.objs.length≤p∧p<st.objs.length+ks.length)→H' p=H p:=fun p h1=>by rw[hH']; exact if_neg h1
 have hfp:∀ p,(H' p).fp=(H p).fp:=fun p=>by
  by_cases e:st.objs.length≤p∧p<st.objs.length+ks.length
  ·rw[hin p e.1 e.2,hnil p e.1]; rfl
  ·rw[hout p e]
 have hgh:∀ p i v,H' p = .gh i v→∃ q,H q = .gh i v:=fun p i v hp=>by
  by_cases e:st.objs.length≤p∧p<st.objs.length+ks.length
  ·rw[hin p e.1 e.2] at hp; cases hp
  ·exact⟨p,by rw[←hout p e]; exact hp⟩
 have hgr:Grow w H F w H' F:=⟨Below.refl _ _,fun p hp=>hout p fun e=>hp (hnil p e.1),fun _ h=>h,fun _ h => .inl h,fun p hp b hb=>by rw[hfp,hp] at hb; simp[Pc.fp] at hb,hgh⟩
 refine⟨H',⟨⟨fun p=>?_,fun p=>by rw[hfp]; exact h.ok.nodup p,fun p q b h1 h2=>by rw[hfp] at h1 h2; exact h.ok.disj p q b h1 h2,fun p b h1=>by rw[hfp] at h1; exact h.ok.free p b h1,h.ok.flt⟩,fun p=>?_,fun e=>?_,h.size,h.defers⟩,fun p b hb=>⟨p,by rw[←hfp]; exact hb⟩,hgh⟩
 ·by_cases e:st.objs.length≤p∧p<st.objs.length+ks.length
  ·rw[hin p e.1 e.2]; exact OW.nil _
  ·rw[hout p e]; exact h.ok.says p
 ·show RB w H' F p ((st.objs++ks.map fun k=>Ob.row k []).getD p .gone)
  rcases Gqr p st.objs.length with h1 | h1
  ·rw[show (st.objs++ks.map fun k=>Ob.row k []).getD p .gone=st.objs.getD p .gone by simp[Gqf,Gq2 h1]]
   by_cases hn:H p = .nil
   ·have h2:=h.obs p
    have h3:H' p = .nil:=(hout p Aqa).trans hn
    cases ho:st.objs.getD p .gone with
    |gone=>exact h3
    |hole=>trivial
    |box cs=>rw[ho] at h2; obtain⟨a,t,vs,e,_⟩:=h2; rw[hn] at e; cases e
    |row k es=>rw[ho] at h2; obtain⟨v,fp,e⟩:=h2; rw[hn] at e; cases e
    |gh i x=>rw[ho] at h2; obtain⟨v,e,_⟩:=h2; rw[hn] at e; cases e
    |lk x y=>rw[ho] at h2; obtain⟨v,e,_⟩:=h2; rw[hn] at e; cases e
   ·exact hgr.rb hn (h.obs p)
  ·rcases Gqr p (st.objs.length+ks.length) with h2 | h2
   ·have h3:p-st.objs.length<ks.length:=Aqa
    rw[show (st.objs++ks.map fun k=>Ob.row k []).getD p .gone = .row (ks.getD (p-st.objs.length) 0) [] by simp[Gqf,Gq3 h1,h3]]
    exact⟨_,_,hin p h1 h2⟩
   ·rw[show (st.objs++ks.map fun k=>Ob.row k []).getD p .gone=Ob.gone by
     rw[Gqf,List.getElem?_eq_none Bqz]; rfl]
    exact (hout p Aqa).trans (hnil p h1)
 ·show RV w H' F (look ((d,x.fill st.objs.length)::st.tmps) e) _
  rw[Zq]
  split
  ·rename_i e0
   subst e0
   subst hx
   exact fillV_ok (fun h=>hgr.r1 h) (fun p h1 h2=>⟨_,hin p h1 h2⟩) (Nat.le_of_eq hk) (h.tmp d)
  ·exact hgr.rv (h.tmp e)

/-! ### Results -/
def argT:Nat→List V2→List (Nat×V)
 |_,[] => []
 |k,x::xs=>(k,.o x)::argT (k+1) xs
structure Ends (P:Program) (fn:Func) (objs':List Ob) (res:V) (st:St):Prop where
 mk' ::
 h:∀ (w:World) (H:Hs) (F:Nat→Prop) (a:Act),R0 w H F st a→∃ H' rv,(results fn a.tmps).run P w = .ok rv w∧Ok w H' F∧(∀ p,RB w H' F p (objs'.getD p .gone))∧RV w H' F res rv∧(∀ p b,b∈(H' p).fp→∃ q,b∈(H q).fp)∧∀ p i v,H' p = .gh i v→∃ q,H q = .gh i v
def Fin0 (P:Program) (fn:Func) (objs':List Ob) (res:V):Exit→St→Prop
 | .ret,st=>Ends P fn objs' res st
 | .normal,st=>Ends P fn objs' res st
 |_,_=>False

structure Fin (P:Program) (fn:Func) (objs':List Ob) (res:V) (e:Exit) (st:St):Prop where
 h:Fin0 P fn objs' res e st

section
variable {P:Program} {fn:Func} {objs objs':List Ob} {res x:V} {st:St} {args:List V2} {f:FuncId} {c:Code}

theorem argT_look:∀ (args:List V2) (k d:Nat),look (argT k args) d=if k≤d then ((args[d-k]?).map V.o).getD U else U
 | [],k,d=>by simp[argT,look]
 | x::xs,k,d=>by
  rw[argT,Zq,argT_look xs (k+1) d]
  by_cases h1:k=d
  ·subst h1; simp
  ·rw[if_neg h1]
   by_cases h2:k+1≤d
   ·rw[if_pos h2,if_pos Aqa,show d-k=(d-(k+1))+1 by omega,Gxw]
   ·rw[if_neg h2,if_neg Aqa]
theorem ConAt.of {nt:Nat} {w:World} (hf:P.funcs[f]? = some fn) (hb:fn.body=some c) (hn:fn.ntmps=nt) (hle:Nat.ble args.length nt=true) (h:∀ (H:Hs) (F:Nat→Prop),(∀ p,RB w H F p (objs.getD p .gone))→AWP P ⟨w,H,F⟩ c (Fin P fn objs' res) ⟨nt,argT 0 args,objs⟩):ConAt P f objs args objs' res w:=by
 intro H F vs hok hob hlen hargs
 refine calls_of_wp hf hb (wp_mono ((h H F hob).h _ w ⟨H,F,⟨hok,hob,fun d=>?_,?_,J⟩,Since.refl w H F⟩) ?_)
 ·show RV w H F (look (argT 0 args) d) _
  rw[argT_look,if_pos (Gxm _),Gx6]
  cases h1:args[d]? with
  |none=>trivial
  | some z =>
   have hd:d<vs.length:=by rw[hlen]; exact Zj h1
   have h2:=hargs d z vs[d] h1 (Gqg hd)
   have h3:(vs.toArray++Array.replicate (fn.ntmps-vs.toArray.size) undef).getD d undef=vs[d]:=by
    simp[Gq5,Array.getElem?_append,hd]
   rw[h3]
   exact h2
 ·have hle':=Gqx hle
  simp only[Array.size_append,Array.size_replicate,List.size_toArray,hlen,hn]
  omega
 ·rintro e a' w' ⟨st',hq,H',F',h1,h2⟩
  have hend:∀ (hE:Ends P fn objs' res st'),a'.defers = []∧∃ v,(results fn a'.tmps).run P w' = .ok v w'∧∃ H'' F'' rv,Ending.returned v = .returned rv∧Since ⟨w,H,F⟩ w' H'' F''∧Ok w' H'' F''∧(∀ p,RB w' H'' F'' p (objs'.getD p .gone))∧RV w' H'' F'' res rv:=fun hE=>by
   obtain⟨H'',rv,h3,h4,h5,h6,h7,g7⟩:=hE.h w' H' F' a' h1
   exact⟨h1.defers,rv,h3,H'',F',rv,rfl,⟨h2.os,h2.tape,h2.output,h2.size,h2.keep,h2.fF,h2.fF',fun p b hb=>by obtain⟨q,hq⟩:=h7 p b hb; exact h2.org q b hq,fun p i v hp=>by obtain⟨q,hq⟩:=g7 p i v hp; exact h2.gh q i v hq⟩,h4,h5,h6⟩
  have hq:=hq.h
  cases e with
  |normal=>exact hend hq
  |ret=>exact hend hq
  |_=>exact hq.elim
theorem Con.of {nt:Nat} (hf:P.funcs[f]? = some fn) (hb:fn.body=some c) (hn:fn.ntmps=nt) (hle:Nat.ble args.length nt=true) (h:∀ E,AWP P E c (Fin P fn objs' res) ⟨nt,argT 0 args,objs⟩):Con P f objs args objs' res :=
 fun w=>ConAt.of hf hb hn hle fun H F _=>h ⟨w,H,F⟩

theorem Ends.of {rs:V} (hr:∀ (w:World) (H:Hs) (F:Nat→Prop) (a:Act),R0 w H F st a→∃ rv,(results fn a.tmps).run P w = .ok rv w∧RV w H F rs rv) (hw:∃ l,Wk ⟨1,[(0,rs)],st.objs⟩ ⟨1,(0,res)::l,objs'⟩):Ends P fn objs' res st:=by
 refine⟨fun w H F a h=>?_⟩
 obtain⟨rv,h1,h2⟩:=hr w H F a h
 obtain⟨l,hw⟩:=hw
 obtain⟨H',h3,h4⟩:=hw w H F ⟨#[rv],[]⟩ ⟨h.ok,h.obs,fun d=>by
  show RV w H F (look [(0,rs)] d) _
  rw[Zq]
  split
  ·rename_i e0; subst e0; exact h2
  ·trivial,rfl,rfl⟩
 exact⟨H',rv,h1,h3.ok,h3.obs,h3.tmp 0,h4⟩

theorem cell_res {w:World} {H:Hs} {F:Nat→Prop} {a:Act} (h:R0 w H F st a) {c p n:Nat} {t:TypeId} {cs:List V1} [TyRow P t n] (hc:look st.tmps c = .o (.c (.ptr p 0))) (hp:st.objs[p]? = some (.box cs)) (hl:cs.length=n) :
  ∃ (us:List Value) (g:Nat),a.tmps.getD c undef = .pointer (some ⟨g,0,none⟩)∧(loadVar t ⟨g,0,none⟩).run P w = .ok (.agg us.toArray) w∧R2 w H F (.ag cs) (.agg us.toArray):=by
 have h1:=h.at_ c
 rw[hc] at h1
 obtain⟨g,tt,vs,e1,e2⟩:=h1
 obtain⟨g',t',vs',e3,e4,hl',hcs⟩:=h.bx hp
 rw[e1] at e3
 simp only[Pc.box.injEq] at e3
 obtain⟨rfl,rfl,rfl⟩:=e3
 have hcells:=box_cells e4 0 n
 rw[List.drop_zero,Gqj Aqa] at hcells
 have hld:=V3 (P:=P) (w:=w) t g 0 n vs hcells Aqa 
 simp only[Instr.loadAt,Instr.sureAddr,Sem.run_bind,Sem.run_pure,Result.andThen_ok] at hld
 exact⟨vs,g,e2,hld,vs,J,hl',fun i x u h5 h6=>(hcs i x u h5 h6).1⟩

theorem Xp {t:Tmp} {x:V2} (hf:fn.results=#[.tmp t]) (hx:look st.tmps t = .o x) (hw:∃ l,Wk ⟨1,[(0,.o x)],st.objs⟩ ⟨1,(0,res)::l,objs'⟩):Ends P fn objs' res st :=
 .of (fun w H F a h=>⟨a.tmps.getD t undef,results_tmp hf _ _ _,by have:=h.at_ t; rwa[hx] at this⟩) hw
theorem Xo (hf:fn.results=#[]) (hw:∃ l,Wk ⟨1,[(0,.tu [])],st.objs⟩ ⟨1,(0,res)::l,objs'⟩):Ends P fn objs' res st :=
 .of (rs := .tu []) (fun w H F a h=>⟨.tuple #[],results_none hf _ _ _,[],rfl,rfl,fun i x u h=>by simp at h⟩) hw
theorem Xq {t u:Tmp} {x y:V2} (hf:fn.results=#[.tmp t,.tmp u]) (hx:look st.tmps t = .o x) (hy:look st.tmps u = .o y) (hw:∃ l,Wk ⟨1,[(0,.tu [x,y])],st.objs⟩ ⟨1,(0,res)::l,objs'⟩):Ends P fn objs' res st :=
 .of (rs := .tu [x,y]) (fun w H F a h=>⟨_,results_tmp2 hf _ _ _,[a.tmps.getD t undef,a.tmps.getD u undef],rfl,rfl,fun i z v h1 h2=>by
  have h3:=h.at_ t
  have h4:=h.at_ u
  rw[hx] at h3
  rw[hy] at h4
  match i with
  |0=>simp only[Gxf,Option.some.injEq] at h1 h2; subst h1 h2; exact h3
  |1=>simp only[Gxw,Gxf,Option.some.injEq] at h1 h2; subst h1 h2; exact h4
  |i+2=>simp at h1⟩) hw
theorem Xr {t u r:Tmp} {x y z:V2} (hf:fn.results=#[.tmp t,.tmp u,.tmp r]) (hx:look st.tmps t = .o x) (hy:look st.tmps u = .o y) (hz:look st.tmps r = .o z) (hw:∃ l,Wk ⟨1,[(0,.tu [x,y,z])],st.objs⟩ ⟨1,(0,res)::l,objs'⟩):Ends P fn objs' res st :=
 .of (rs := .tu [x,y,z]) (fun w H F a h=>⟨.tuple #[a.tmps.getD t undef,a.tmps.getD u undef,a.tmps.getD r undef],by simp[results,hf],[a.tmps.getD t undef,a.tmps.getD u undef,a.tmps.getD r undef],rfl,rfl,fun i q v h1 h2=>by
  have h3:=h.at_ t
  have h4:=h.at_ u
  have h5:=h.at_ r
  rw[hx] at h3
  rw[hy] at h4
  rw[hz] at h5
  match i with
  |0=>simp only[Gxf,Option.some.injEq] at h1 h2; subst h1 h2; exact h3
  |1=>simp only[Gxw,Gxf,Option.some.injEq] at h1 h2; subst h1 h2; exact h4
  |2=>simp only[Gxw,Gxf,Option.some.injEq] at h1 h2; subst h1 h2; exact h5
  |i+3=>simp at h1⟩) hw
theorem Xm {c p n:Nat} {t:TypeId} {cs:List V1} [TyRow P t n] (hf:fn.results=#[.cell c t]) (hc:look st.tmps c = .o (.c (.ptr p 0))) (hp:st.objs[p]? = some (.box cs)) (hl:cs.length=n) (hw:∃ l,Wk ⟨1,[(0,.o (.ag cs))],st.objs⟩ ⟨1,(0,res)::l,objs'⟩):Ends P fn objs' res st :=
 .of (fun w H F a h=>by
  obtain⟨us,g,h2,h3,h4⟩:=cell_res (P:=P) (t:=t) h hc hp hl
  rw[Gq5] at h2
  exact⟨.agg us.toArray,by simp[results,hf,h2,asAddr,h3],h4⟩) hw
theorem Xn {c p n:Nat} {t:TypeId} {u:Tmp} {y:V2} {cs:List V1} [TyRow P t n] (hf:fn.results=#[.cell c t,.tmp u]) (hc:look st.tmps c = .o (.c (.ptr p 0))) (hp:st.objs[p]? = some (.box cs)) (hl:cs.length=n) (hy:look st.tmps u = .o y)
  (hw:∃ l,Wk ⟨1,[(0,.tu [.ag cs,y])],st.objs⟩ ⟨1,(0,res)::l,objs'⟩):Ends P fn objs' res st :=
 .of (rs := .tu [.ag cs,y]) (fun w H F a h=>by
  obtain⟨us,g,h2,h3,h4⟩:=cell_res (P:=P) (t:=t) h hc hp hl
  have h5:=h.at_ u
  rw[hy] at h5
  rw[Gq5] at h2
  refine⟨.tuple #[.agg us.toArray,a.tmps.getD u undef],by simp[results,hf,h2,asAddr,h3],[.agg us.toArray,a.tmps.getD u undef],J,J,fun i z v h6 h7=>?_⟩
  match i with
  |0=>simp only[Gxf,Option.some.injEq] at h6 h7; subst h6 h7; exact h4
  |1=>simp only[Gxw,Gxf,Option.some.injEq] at h6 h7; subst h6 h7; exact h5
  |i+2=>simp at h6) hw
end
end
section
open Go.RowKit

section
variable {P:Program} {E:Env} {ops:Array Oper} {o:Oper} {n:Nat} {ts:List (Nat×V)} {obs:List Ob} {rest:List Oper} {Q:Exit→St→Prop} {d:Nat} {fn:Func} {objs':List Ob} {res x:V} {st:St}

theorem F_r (h:Ends P fn objs' res st):Fin P fn objs' res .ret st:=⟨h⟩
theorem F_n (h:Ends P fn objs' res st):Fin P fn objs' res .normal st:=⟨h⟩

theorem M0 (hq:Qt P ops o ⟨n,ts,obs⟩ x [] obs.length) (hd:o.dst=some d) (hl:Nat.blt d n=true) (h:AL P E ops Q rest ⟨n,(d,x)::ts,obs⟩):AL P E ops Q (o::rest) ⟨n,ts,obs⟩ :=
 L_q0 hq Bq8 Bq9
theorem M1 {obs1:List Ob} (hq:Qt P ops o ⟨n,ts,obs⟩ x obs1 obs.length) (hd:o.dst=some d) (hl:Nat.blt d n=true) (h:AL P E ops Q rest ⟨n,(d,x)::ts,obs++obs1⟩):AL P E ops Q (o::rest) ⟨n,ts,obs⟩ :=
 L_q hq Bq8 Bq9
theorem Qi {j e:Nat} {b:Bool} {ps:List Nat} (hg:o.guard=some (j,b)) (hj:(ops[j]?).bind (·.dst)=some e) (hy:look ts e = .o (.c (.rd ps (.v (.bool b)))))
  (h:AL P E ops Q (⟨o.dst,o.op,o.type,o.pos,o.after,none⟩::rest) ⟨n,ts,obs⟩):AL P E ops Q (o::rest) ⟨n,ts,obs⟩:=L_yes hg hj hy h
theorem Qp {j e:Nat} {b y:Bool} {ps:List Nat} (hg:o.guard=some (j,b)) (hj:(ops[j]?).bind (·.dst)=some e) (hy:look ts e = .o (.c (.rd ps (.v (.bool y))))) (hne:(y != b)=true) (hd:o.dst=some d) (hl:Nat.blt d n=true)
  (h:AL P E ops Q rest ⟨n,(d,NO)::ts,obs⟩):AL P E ops Q (o::rest) ⟨n,ts,obs⟩:=L_no hg hj hy hne Bq8 Bq9
section
variable {y z:Operand} {t t':TypeId} {k:IntKind} {i j:Int} {qs:List Nat}
theorem Q5 {p m:Nat} {cs:List V1} {c:V1} [TyOne P t] (ho:o.op = .store t y z) (hg:o.guard=none) (hd:o.dst=none) (hy:St.ev ⟨n,ts,obs⟩ y = .o (.c (.ptr p m))) (hz:St.ev ⟨n,ts,obs⟩ z = .o (.c c)) (hp:obs[p]? = some (.box cs)) (hm:Nat.blt m cs.length=true) (hk:c.known=true)
  (h:AL P E ops Q rest ⟨n,ts,obs.set p (.box (cs.set m c))⟩):AL P E ops Q (o::rest) ⟨n,ts,obs⟩:=L_st1 ho hg hd hy hz hp (Gqx hm) hk h
theorem Qy {p m n':Nat} {cs ds:List V1} [hr:TyRow P t n'] (ho:o.op = .store t y z) (hg:o.guard=none) (hd:o.dst=none) (hy:St.ev ⟨n,ts,obs⟩ y = .o (.c (.ptr p m))) (hz:St.ev ⟨n,ts,obs⟩ z = .o (.ag ds)) (hp:obs[p]? = some (.box cs)) (hl:ds.length=n') (hm:Nat.ble (m+ds.length) cs.length=true) (hk:ds.all V1.known=true)
  (h:AL P E ops Q rest ⟨n,ts,obs.set p (.box (setFrom cs m ds))⟩):AL P E ops Q (o::rest) ⟨n,ts,obs⟩:=L_stN ho hg hd hy hz hp hl (Gqx hm) hk h
theorem M_app {p kk:Nat} {es es':List (List T)} {x:V1} {e:TypeId} {zs:List Value} {by_:Nat} [hm:TyMake P t e zs by_] (ho:o.op = .call { callee := .builtin .append,args:=#[y,z],argTypes:=#[t,t] }) (hg:o.guard=none) (hy:St.ev ⟨n,ts,obs⟩ y = .o (.c (.ref p))) (hp:obs[p]? = some (.row kk es)) (hz:St.ev ⟨n,ts,obs⟩ z = .o (.c x)) (hs:srcOf obs x=some es')
  (hkz:kk=zs.length) (hz0:zs.isEmpty=false) (hd:o.dst=some d) (hl:Nat.blt d n=true) (hpl:plainT es') (hkk:∀ e∈es',e.length=kk) (hb:(es.length+es'.length)*by_≤140737488355328) (h63:es.length+es'.length≤9223372036854775807)
  (h:AL P E ops Q rest ⟨n,(d,.o (.c (.ref p)))::(ts.map fun e=>(e.1,e.2.kill [p])),(obs.map (Ob.kill [p])).set p (.row kk (es++es'))⟩):AL P E ops Q (o::rest) ⟨n,ts,obs⟩ :=
 L_app ho hg hy hp hz hs hkz (by intro e; rw[e] at hz0; cases hz0) hpl hkk hb h63 Bq8 Bq9
theorem M_appnil {es':List (List T)} {x:V1} {e:TypeId} {zs:List Value} {by_:Nat} [hm:TyMake P t e zs by_] (ho:o.op = .call { callee := .builtin .append,args:=#[y,z],argTypes:=#[t,t] }) (hg:o.guard=none) (hy:St.ev ⟨n,ts,obs⟩ y = .o (.c (.rd qs (.v (.slice none 0 0))))) (hz:St.ev ⟨n,ts,obs⟩ z = .o (.c x)) (hs:srcOf obs x=some es')
  (hz0:zs.isEmpty=false) (hd:o.dst=some d) (hl:Nat.blt d n=true) (hpl:plainT es') (hkk:∀ e∈es',e.length=zs.length) (hb:es'.length*by_≤140737488355328) (h63:es'.length≤9223372036854775807)
  (h:AL P E ops Q rest ⟨n,(d,.o (.c (.ref obs.length)))::ts,obs ++ [.row zs.length es']⟩):AL P E ops Q (o::rest) ⟨n,ts,obs⟩ :=
 L_appnil ho hg hy hz hs (by intro e; rw[e] at hz0; cases hz0) hpl hkk hb h63 Bq8 Bq9
end

/-! ### Tests whose outcome is known -/
section
variable {y z:Operand} {t t':TypeId} {k:IntKind} {i j:Int} {ps qs:List Nat} {b:Bool} {st:St} {m:Nat}
theorem Qr (ho:o.op = .binOp .lss t y z t') (hg:o.guard=none) (hy:st.ev y = .o (.c (.rd ps (.v (.int k i))))) (hz:st.ev z = .o (.c (.rd qs (.v (.int k j))))) (hb:decide (i<j)=b):Qt P ops o st (B b) [] m:=hb▸Vh ho hg hy hz
theorem Ve (ho:o.op = .binOp .leq t y z t') (hg:o.guard=none) (hy:st.ev y = .o (.c (.rd ps (.v (.int k i))))) (hz:st.ev z = .o (.c (.rd qs (.v (.int k j))))) (hb:decide (i≤j)=b):Qt P ops o st (B b) [] m:=hb▸q_leq ho hg hy hz
theorem K0 (ho:o.op = .binOp .gtr t y z t') (hg:o.guard=none) (hy:st.ev y = .o (.c (.rd ps (.v (.int k i))))) (hz:st.ev z = .o (.c (.rd qs (.v (.int k j))))) (hb:decide (j<i)=b):Qt P ops o st (B b) [] m:=hb▸Kz ho hg hy hz
theorem Ky (ho:o.op = .binOp .geq t y z t') (hg:o.guard=none) (hy:st.ev y = .o (.c (.rd ps (.v (.int k i))))) (hz:st.ev z = .o (.c (.rd qs (.v (.int k j))))) (hb:decide (j≤i)=b):Qt P ops o st (B b) [] m:=hb▸Kx ho hg hy hz
theorem Qv (ho:o.op = .binOp .eql t y z t') (hg:o.guard=none) (hy:st.ev y = .o (.c (.rd ps (.v (.int k i))))) (hz:st.ev z = .o (.c (.rd qs (.v (.int k j))))) (hb:decide (i=j)=b):Qt P ops o st (B b) [] m:=hb▸Kt ho hg hy hz
theorem Vo {s u:ByteArray} (ho:o.op = .binOp .neq t y z t') (hg:o.guard=none) (hy:st.ev y = .o (.c (.rd ps (.v (.string s))))) (hz:st.ev z = .o (.c (.rd qs (.v (.string u))))) (hb:decide (s≠u)=b):Qt P ops o st (B b) [] m:=hb▸q_sneq ho hg hy hz
theorem Qw (ho:o.op = .binOp .neq t y z t') (hg:o.guard=none) (hy:st.ev y = .o (.c (.rd ps (.v (.int k i))))) (hz:st.ev z = .o (.c (.rd qs (.v (.int k j))))) (hb:decide (i≠j)=b):Qt P ops o st (B b) [] m:=hb▸Vk ho hg hy hz
end

/-! ### Ends -/
theorem Yh {v:V} (ρ:List Nat) (hnd:ρ.Nodup) (hl:objs'.length=ρ.length) (ho:objs'.map (Ob.ren (rho ρ obs.length))=ρ.map fun p=>obs.getD p .gone) (hv:v=res.ren (rho ρ obs.length)):∃ l,Wk ⟨1,[(0,v)],obs⟩ ⟨1,(0,res)::l,objs'⟩ :=
 ⟨[],Wk.ren (st:=⟨1,[(0,v)],obs⟩) ρ objs' [(0,res)] hnd hl ho (.cons hv .nil)⟩
theorem Yi {v v':V} (ks ρ:List Nat) (hk:v.cnt=ks.length) (hf:v.fill obs.length=v') (hnd:ρ.Nodup) (hl:objs'.length=ρ.length) (ho:objs'.map (Ob.ren (rho ρ (obs++ks.map fun k=>Ob.row k []).length))=ρ.map fun p=>(obs++ks.map fun k=>Ob.row k []).getD p .gone)
  (hv:v'=res.ren (rho ρ (obs++ks.map fun k=>Ob.row k []).length)):∃ l,Wk ⟨1,[(0,v)],obs⟩ ⟨1,(0,res)::l,objs'⟩ :=
 ⟨[],(Wk.nils (st:=⟨1,[(0,v)],obs⟩) 0 ks rfl hk).trans (Wk.ren (st:=⟨1,(0,v.fill obs.length) :: [(0,v)],obs++ks.map fun k=>Ob.row k []⟩) ρ objs' [(0,res)] hnd hl ho (.cons (hf.trans hv) .nil))⟩
end
theorem zz {P:Program} {E:Env} {ops:Array Oper} {Q:Exit→St→Prop} {K:St→Prop} {st:St} (h:K st):AL P E ops (thn K Q) [] st:=Qe (Q0 h)
theorem zy {P:Program} {E:Env} {Q:Exit→St→Prop} {st:St} {id:Nat} {l:List Oper} {y:Code} (h:AL P E l.toArray (thn (AWP P E y Q) Q) l st):AWP P E (.seq (.region id l.toArray false) y) Q st:=Qd (Qc h)
theorem zx {P:Program} {E:Env} {ops:Array Oper} {o:Oper} {n d:Nat} {ts:List (Nat×V)} {obs:List Ob} {rest:List Oper} {Q:Exit→St→Prop} {x:V} (hq:Qt P ops o ⟨n,ts,obs⟩ x [] obs.length) (h:(o.dst,Nat.blt d n)=(some d,true)) (r:AL P E ops Q rest ⟨n,(d,x)::ts,obs⟩):AL P E ops Q (o::rest) ⟨n,ts,obs⟩:=by
 simp only[Prod.mk.injEq] at h
 exact M0 hq h.1 h.2 r
section
variable {P:Program} {E:Env} {ops:Array Oper} {o:Oper} {n d p i' f off sz m j e:Nat} {ts:List (Nat×V)} {obs:List Ob} {rest:List Oper} {Q:Exit→St→Prop} {v:V1} {cs ds:List V1} {a c y z:Operand} {t t':TypeId} {k:IntKind} {i l:Int} {ps qs:List Nat} {b b':Bool} {xs:List V2} {w:V2}
theorem z0 (h:(o.op,o.guard,St.ev ⟨n,ts,obs⟩ y,o.dst,Nat.blt d n)=(.move y,none,V.o (.c (v)),some d,true)) (r:AL P E ops Q rest ⟨n,(d,V.o (.c (v)))::ts,obs⟩):AL P E ops Q (o::rest) ⟨n,ts,obs⟩:=by
 simp only[Prod.mk.injEq] at h
 exact M0 (Qa h.1 h.2.1 h.2.2.1) h.2.2.2.1 h.2.2.2.2 r
theorem z1 (h:(o.op,o.guard,St.ev ⟨n,ts,obs⟩ y,o.dst,Nat.blt d n)=(.assign y,none,V.o (.c (v)),some d,true)) (r:AL P E ops Q rest ⟨n,(d,V.o (.c (v)))::ts,obs⟩):AL P E ops Q (o::rest) ⟨n,ts,obs⟩:=by
 simp only[Prod.mk.injEq] at h
 exact M0 (Qb h.1 h.2.1 h.2.2.1) h.2.2.2.1 h.2.2.2.2 r
theorem z2 {pl:List (Nat×Nat)} [hpl:TyPl P t pl] (h:(o.op,o.guard,St.ev ⟨n,ts,obs⟩ y,o.dst,Nat.blt d n)=(.fieldAddr t y f,none,V.o (.c (.ptr p m)),some d,true)) (hf:pl[f]? = some (off,sz)) (hs:Nat.beq sz 0=false) (r:AL P E ops Q rest ⟨n,(d,V.o (.c (.ptr p (m+off))))::ts,obs⟩):AL P E ops Q (o::rest) ⟨n,ts,obs⟩:=by
 simp only[Prod.mk.injEq] at h
 exact M0 (Qf h.1 h.2.1 h.2.2.1 hf (by intro e; rw[e] at hs; cases hs)) h.2.2.2.1 h.2.2.2.2 r
theorem z3 [TyOne P t] (h:(o.op,o.guard,St.ev ⟨n,ts,obs⟩ y,obs[p]?,cs[i']?,o.dst,Nat.blt d n)=(.load t y,none,V.o (.c (.ptr p i')),some (.box cs),some v,some d,true)) (r:AL P E ops Q rest ⟨n,(d,V.o (.c (v)))::ts,obs⟩):AL P E ops Q (o::rest) ⟨n,ts,obs⟩:=by
 simp only[Prod.mk.injEq] at h
 exact M0 (Qg h.1 h.2.1 h.2.2.1 h.2.2.2.1 h.2.2.2.2.1) h.2.2.2.2.2.1 h.2.2.2.2.2.2 r
theorem z4 [TyRow P t m] (h:(o.op,o.guard,St.ev ⟨n,ts,obs⟩ y,obs[p]?,o.dst,Nat.blt d n)=(.load t y,none,V.o (.c (.ptr p i')),some (.box cs),some d,true)) (hd:(cs.drop i').take m=ds) (hl:ds.length=m) (r:AL P E ops Q rest ⟨n,(d,V.o (.ag ds))::ts,obs⟩):AL P E ops Q (o::rest) ⟨n,ts,obs⟩:=by
 simp only[Prod.mk.injEq] at h
 exact M0 (Qu h.1 h.2.1 h.2.2.1 h.2.2.2.1 hd hl) h.2.2.2.2.1 h.2.2.2.2.2 r
theorem z5 (h:(o.guard,(ops[j]?).bind (·.dst),look ts e)=(some (j,b),some e,V.o (.c (.rd ps (.v (.bool b)))))) (r:AL P E ops Q (⟨o.dst,o.op,o.type,o.pos,o.after,none⟩::rest) ⟨n,ts,obs⟩):AL P E ops Q (o::rest) ⟨n,ts,obs⟩:=by
 simp only[Prod.mk.injEq] at h
 exact Qi h.1 h.2.1 h.2.2 r
theorem z6 (h:(o.guard,(ops[j]?).bind (·.dst),look ts e,(b' != b),o.dst,Nat.blt d n)=(some (j,b),some e,V.o (.c (.rd ps (.v (.bool b')))),true,some d,true)) (r:AL P E ops Q rest ⟨n,(d,NO)::ts,obs⟩):AL P E ops Q (o::rest) ⟨n,ts,obs⟩:=by
 simp only[Prod.mk.injEq] at h
 exact Qp h.1 h.2.1 h.2.2.1 h.2.2.2.1 h.2.2.2.2.1 h.2.2.2.2.2 r
theorem z7 (h:(o.op,o.guard,St.ev ⟨n,ts,obs⟩ y,St.ev ⟨n,ts,obs⟩ z,o.dst,Nat.blt d n)=(.binOp .add t y z t',none,V.o (.c (.rd ps (.v (.int .i64 i)))),V.o (.c (.rd qs (.v (.int .i64 l)))),some d,true)) (hb : -9223372036854775808≤i+l∧i+l≤9223372036854775807) (r:AL P E ops Q rest ⟨n,(d,I (i+l))::ts,obs⟩):AL P E ops Q (o::rest) ⟨n,ts,obs⟩:=by
 simp only[Prod.mk.injEq] at h
 exact M0 (Qs h.1 h.2.1 h.2.2.1 h.2.2.2.1 hb) h.2.2.2.2.1 h.2.2.2.2.2 r
theorem z8 (h:(o.op,o.guard,St.ev ⟨n,ts,obs⟩ y,St.ev ⟨n,ts,obs⟩ z,o.dst,Nat.blt d n)=(.binOp .sub t y z t',none,V.o (.c (.rd ps (.v (.int .i64 i)))),V.o (.c (.rd qs (.v (.int .i64 l)))),some d,true)) (hb : -9223372036854775808≤i-l∧i-l≤9223372036854775807) (r:AL P E ops Q rest ⟨n,(d,I (i-l))::ts,obs⟩):AL P E ops Q (o::rest) ⟨n,ts,obs⟩:=by
 simp only[Prod.mk.injEq] at h
 exact M0 (Xc h.1 h.2.1 h.2.2.1 h.2.2.2.1 hb) h.2.2.2.2.1 h.2.2.2.2.2 r
theorem z9a (h:(o.op,o.guard,St.ev ⟨n,ts,obs⟩ y,St.ev ⟨n,ts,obs⟩ z,o.dst,Nat.blt d n)=(.binOp .lss t y z t',none,V.o (.c (.rd ps (.v (.int k i)))),V.o (.c (.rd qs (.v (.int k l)))),some d,true)) (hb:decide (i<l)=b) (r:AL P E ops Q rest ⟨n,(d,B b)::ts,obs⟩):AL P E ops Q (o::rest) ⟨n,ts,obs⟩:=by
 simp only[Prod.mk.injEq] at h
 exact M0 (Qr h.1 h.2.1 h.2.2.1 h.2.2.2.1 hb) h.2.2.2.2.1 h.2.2.2.2.2 r
theorem z9b (h:(o.op,o.guard,St.ev ⟨n,ts,obs⟩ y,St.ev ⟨n,ts,obs⟩ z,o.dst,Nat.blt d n)=(.binOp .leq t y z t',none,V.o (.c (.rd ps (.v (.int k i)))),V.o (.c (.rd qs (.v (.int k l)))),some d,true)) (hb:decide (i≤l)=b) (r:AL P E ops Q rest ⟨n,(d,B b)::ts,obs⟩):AL P E ops Q (o::rest) ⟨n,ts,obs⟩:=by
 simp only[Prod.mk.injEq] at h
 exact M0 (Ve h.1 h.2.1 h.2.2.1 h.2.2.2.1 hb) h.2.2.2.2.1 h.2.2.2.2.2 r
theorem z9c (h:(o.op,o.guard,St.ev ⟨n,ts,obs⟩ y,St.ev ⟨n,ts,obs⟩ z,o.dst,Nat.blt d n)=(.binOp .gtr t y z t',none,V.o (.c (.rd ps (.v (.int k i)))),V.o (.c (.rd qs (.v (.int k l)))),some d,true)) (hb:decide (l<i)=b) (r:AL P E ops Q rest ⟨n,(d,B b)::ts,obs⟩):AL P E ops Q (o::rest) ⟨n,ts,obs⟩:=by
 simp only[Prod.mk.injEq] at h
 exact M0 (K0 h.1 h.2.1 h.2.2.1 h.2.2.2.1 hb) h.2.2.2.2.1 h.2.2.2.2.2 r
theorem z9d (h:(o.op,o.guard,St.ev ⟨n,ts,obs⟩ y,St.ev ⟨n,ts,obs⟩ z,o.dst,Nat.blt d n)=(.binOp .geq t y z t',none,V.o (.c (.rd ps (.v (.int k i)))),V.o (.c (.rd qs (.v (.int k l)))),some d,true)) (hb:decide (l≤i)=b) (r:AL P E ops Q rest ⟨n,(d,B b)::ts,obs⟩):AL P E ops Q (o::rest) ⟨n,ts,obs⟩:=by
 simp only[Prod.mk.injEq] at h
 exact M0 (Ky h.1 h.2.1 h.2.2.1 h.2.2.2.1 hb) h.2.2.2.2.1 h.2.2.2.2.2 r
theorem z9e (h:(o.op,o.guard,St.ev ⟨n,ts,obs⟩ y,St.ev ⟨n,ts,obs⟩ z,o.dst,Nat.blt d n)=(.binOp .eql t y z t',none,V.o (.c (.rd ps (.v (.int k i)))),V.o (.c (.rd qs (.v (.int k l)))),some d,true)) (hb:decide (i=l)=b) (r:AL P E ops Q rest ⟨n,(d,B b)::ts,obs⟩):AL P E ops Q (o::rest) ⟨n,ts,obs⟩:=by
 simp only[Prod.mk.injEq] at h
 exact M0 (Qv h.1 h.2.1 h.2.2.1 h.2.2.2.1 hb) h.2.2.2.2.1 h.2.2.2.2.2 r
theorem z9f (h:(o.op,o.guard,St.ev ⟨n,ts,obs⟩ y,St.ev ⟨n,ts,obs⟩ z,o.dst,Nat.blt d n)=(.binOp .neq t y z t',none,V.o (.c (.rd ps (.v (.int k i)))),V.o (.c (.rd qs (.v (.int k l)))),some d,true)) (hb:decide (i≠l)=b) (r:AL P E ops Q rest ⟨n,(d,B b)::ts,obs⟩):AL P E ops Q (o::rest) ⟨n,ts,obs⟩:=by
 simp only[Prod.mk.injEq] at h
 exact M0 (Qw h.1 h.2.1 h.2.2.1 h.2.2.2.1 hb) h.2.2.2.2.1 h.2.2.2.2.2 r
theorem zpT (h:(o.op,o.guard,St.ev ⟨n,ts,obs⟩ c,St.ev ⟨n,ts,obs⟩ y,o.dst,Nat.blt d n)=(.pick c y z,none,V.o (.c (.rd ps (.v (.bool true)))),V.o (.c (v)),some d,true)) (r:AL P E ops Q rest ⟨n,(d,V.o (.c (v)))::ts,obs⟩):AL P E ops Q (o::rest) ⟨n,ts,obs⟩:=by
 simp only[Prod.mk.injEq] at h
 exact M0 (Qo h.1 h.2.1 h.2.2.1 h.2.2.2.1) h.2.2.2.2.1 h.2.2.2.2.2 r
theorem zpF (h:(o.op,o.guard,St.ev ⟨n,ts,obs⟩ c,St.ev ⟨n,ts,obs⟩ z,o.dst,Nat.blt d n)=(.pick c y z,none,V.o (.c (.rd ps (.v (.bool false)))),V.o (.c (v)),some d,true)) (r:AL P E ops Q rest ⟨n,(d,V.o (.c (v)))::ts,obs⟩):AL P E ops Q (o::rest) ⟨n,ts,obs⟩:=by
 simp only[Prod.mk.injEq] at h
 exact M0 (Qn h.1 h.2.1 h.2.2.1 h.2.2.2.1) h.2.2.2.2.1 h.2.2.2.2.2 r
theorem zn (h:(o.op,o.guard,St.ev ⟨n,ts,obs⟩ y,o.dst,Nat.blt d n)=(.unOp .not t y,none,V.o (.c (.rd ps (.v (.bool b)))),some d,true)) (r:AL P E ops Q rest ⟨n,(d,B (!b))::ts,obs⟩):AL P E ops Q (o::rest) ⟨n,ts,obs⟩:=by
 simp only[Prod.mk.injEq] at h
 exact M0 (Q4 h.1 h.2.1 h.2.2.1) h.2.2.2.1 h.2.2.2.2 r
theorem ze (h:(o.op,o.guard,St.ev ⟨n,ts,obs⟩ y,xs[i']?,o.dst,Nat.blt d n)=(Op.extract y i',none,.tu xs,some w,some d,true)) (r:AL P E ops Q rest ⟨n,(d,V.o w)::ts,obs⟩):AL P E ops Q (o::rest) ⟨n,ts,obs⟩:=by
 simp only[Prod.mk.injEq] at h
 exact M0 (Ku h.1 h.2.1 h.2.2.1 h.2.2.2.1) h.2.2.2.2.1 h.2.2.2.2.2 r
end
end
section
open Go.RowKit

class NP (Q:Exit→St→Prop):Prop where
 no:∀ c st,¬Q (.panic c) st
instance {K:St→Prop} {Q:Exit→St→Prop} [h:NP Q]:NP (thn K Q):=⟨fun c st hq=>h.no c st hq.h⟩
instance {id:Nat} {Q:Exit→St→Prop} [h:NP Q]:NP (blk id Q):=⟨fun c st hq=>h.no c st hq.h⟩
instance {P:Program} {fn:Func} {objs':List Ob} {res:V}:NP (Fin P fn objs' res):=⟨fun c st hq=>hq.h⟩

def offd (d:Nat):Operand→Bool
 | .tmp t => !Nat.beq t d
 |_=>true
def blindC (d:Nat):Callee→Bool
 | .builtin _=>true
 | .value f=>offd d f
 |_=>false
def blindO (d:Nat):Op→Bool
 | .move x=>offd d x
 | .assign x=>offd d x
 | .pick c x y=>offd d c&&offd d x&&offd d y
 | .alloc _=>true
 | .box _ x=>offd d x
 | .buildSlice _ _ ps=>ps.toList.all fun p=>offd d p.2
 | .load _ x=>offd d x
 | .store _ x y=>offd d x&&offd d y
 | .binOp _ _ x y _=>offd d x&&offd d y
 | .unOp _ _ x=>offd d x
 | .convert _ _ x=>offd d x
 | .fieldAddr _ x _=>offd d x
 | .indexAddr _ x y=>offd d x&&offd d y
 | .index _ x y=>offd d x&&offd d y
 | .extract x _=>offd d x
 | .nilCheck x=>offd d x
 | .build _ ps=>ps.toList.all fun p=>offd d p.2
 | .slice _ x lo hi mx=>offd d x&&lo.all (offd d)&&hi.all (offd d)&&mx.all (offd d)
 | .call c=>blindC d c.callee&&c.args.toList.all (offd d)
 |_=>false
theorem arr_map_congr {α β:Type} {f g:α→β} {xs:Array α} (h:∀ x∈xs.toList,f x=g x):xs.map f=xs.map g:=by
 apply Array.ext'
 rw[Array.toList_map,Array.toList_map]
 exact List.map_congr_left h
theorem exec_blind {d:Nat} {o:Oper} {r1 r2:Operand→Value} (hb:blindO d o.op=true) (h:∀ x,offd d x=true→r1 x=r2 x):execOp r1 o=execOp r2 o:=by
 unfold execOp
 revert hb
 cases ho:o.op with
 |buildSlice t n ps =>
  intro hb
  have:(ps.map fun p=>(p.1,r1 p.2))=ps.map fun p=>(p.1,r2 p.2):=arr_map_congr fun p hp=>by rw[h p.2 (Gqp.1 hb p hp)]
  simp only[this]
 | call c =>
  intro hb
  simp only[blindO,Gqh] at hb
  have:c.args.map r1=c.args.map r2:=arr_map_congr fun x hx=>h x (Gqp.1 hb.2 x hx)
  simp only[resolve,this]
  cases hc:c.callee with
  |builtin b=>rfl
  |value f =>
   have h1:=hb.1
   rw[hc] at h1
   simp only[h f h1]
  |invoke x n=>rw[hc] at hb; simp[blindC] at hb
 |move x=>intro hb; simp only[h _ (show offd d x=true from hb)]
 |assign x=>intro hb; simp only[h _ (show offd d x=true from hb)]
 |box t x=>intro hb; simp only[h _ (show offd d x=true from hb)]
 |load t x=>intro hb; simp only[h _ (show offd d x=true from hb)]
 |unOp u t x=>intro hb; simp only[h _ (show offd d x=true from hb)]
 |convert t u x=>intro hb; simp only[h _ (show offd d x=true from hb)]
 |fieldAddr t x f=>intro hb; simp only[h _ (show offd d x=true from hb)]
 |extract x i=>intro hb; simp only[h _ (show offd d x=true from hb)]
 |nilCheck x=>intro hb; simp only[h _ (show offd d x=true from hb)]
 |build t ps =>
  intro hb
  have:(ps.map fun p=>(p.1,r1 p.2))=ps.map fun p=>(p.1,r2 p.2):=arr_map_congr fun p hp=>by rw[h p.2 (Gqp.1 hb p hp)]
  simp only[this]
 | slice t x lo hi mx =>
  intro hb
  simp only[blindO,Gqh] at hb
  have hm:∀ y:Option Operand,y.all (offd d)=true→y.map r1=y.map r2:=fun y hy=>by
   cases y with
   |none=>rfl
   |some y=>simp only[Gq1,h y hy]
  simp only[h x hb.1.1.1,hm lo hb.1.1.2,hm hi hb.1.2,hm mx hb.2]
 |store t x y=>intro hb; simp only[blindO,Gqh] at hb; simp only[h x hb.1,h y hb.2]
 |binOp b t x y u=>intro hb; simp only[blindO,Gqh] at hb; simp only[h x hb.1,h y hb.2]
 |indexAddr t x y=>intro hb; simp only[blindO,Gqh] at hb; simp only[h x hb.1,h y hb.2]
 |index t x y=>intro hb; simp only[blindO,Gqh] at hb; simp only[h x hb.1,h y hb.2]
 |alloc t=>intro hb; rfl
 |pick c x y=>intro hb; simp only[blindO,Gqh] at hb; simp only[h c hb.1.1,h x hb.1.2,h y hb.2]
 |_=>intro hb; exact absurd hb Gx7
theorem put_comm {a:Act} {d e:Nat} {u v:Value} (h:e≠d):(a.put (some d) u).put (some e) v=(a.put (some e) v).put (some d) u:=by
 simp only[Act.put]
 congr 1
 apply Array.ext_getElem?
 intro i
 simp only[Array.getElem?_setIfInBounds,Array.size_setIfInBounds]
 by_cases h1:e=i
 ·subst h1
  simp[h,Ne.symm h]
 ·simp[h1]
theorem put_comm' {a:Act} {d:Nat} {e:Option Nat} {u v:Value} (h:e≠some d):(a.put (some d) u).put e v=(a.put e v).put (some d) u:=by
 cases e with
 |none=>rfl
 |some e=>exact put_comm fun hh=>h (by rw[hh])
theorem eval_put {a:Act} {d:Nat} {u:Value} {x:Operand} (h:offd d x=true):(a.put (some d) u).eval x=a.eval x:=by
 cases x with
 | tmp t =>
  have hne:t≠d:=fun e=>by
   subst e
   rw[offd,show Nat.beq t t=true from Gxz t] at h
   cases h
  show (a.tmps.setIfInBounds d u).getD t undef=a.tmps.getD t undef
  rw[Gq5,Gq5,Array.getElem?_setIfInBounds_ne (Ne.symm hne)]
 |_=>rfl
theorem eval_put_tmp {a:Act} {t:Nat} {e:Option Nat} {v:Value} (h:e≠some t):(a.put e v).eval (.tmp t)=a.eval (.tmp t):=by
 cases e with
 |none=>rfl
 |some e =>
  refine eval_put ?_
  rw[offd,Gq6]
  cases hb:Nat.beq t e with
  |false=>rfl
  |true=>exact absurd (by rw[Gq8 hb]) h

section
variable {P:Program} {l:List Oper} {Q:Exit→Act→World→Prop}
theorem wp_blind {o:Oper} {d:Nat} {u:Value} (hQ:∀ c a w,¬Q (.panic c) a w) (hb:blindO d o.op=true) (hd:o.dst≠some d) {a:Act} {w:World} {K K':Act→World→Prop} (hK:∀ v D w,K ({ (a.put (some d) u) with defers:=D }.put o.dst v) w→K' ({ a with defers:=D }.put o.dst v) w)
  (h:o.wp P (a.put (some d) u) w K Q):o.wp P a w K' Q:=by
 have he:execOp (a.put (some d) u).eval o=execOp a.eval o:=exec_blind hb fun x hx=>eval_put hx
 unfold Oper.wp at h ⊢
 rw[he] at h
 generalize (execOp a.eval o).run P w=r at h ⊢
 have hv:∀ v w,K ((a.put (some d) u).put o.dst v) w→K' (a.put o.dst v) w:=fun v w hk=>hK v a.defers w hk
 cases r with
 | ok n w' =>
  cases n <;> simp only[Oper.upon] at h ⊢ <;>
   first
    |exact hv _ _ h
    |exact hK _ _ _ h
    |exact Calls.mono h (fun e w'' he=>by cases e <;> first | exact hv _ _ he | exact absurd he (hQ _ _ _) | exact he)
    |exact Rows.mono h (fun _ _ he=>hv _ _ he)
 |halt x w'=>cases x <;> simp only[Oper.upon] at h ⊢ <;> exact absurd h (hQ _ _ _)
end
end
end Go.Proofs.YtalaljeokcpfnaaGreat
