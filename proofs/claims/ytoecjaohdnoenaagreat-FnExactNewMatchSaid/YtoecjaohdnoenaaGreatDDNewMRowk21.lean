/-
  Rules, data and contracts of functions: part 22 of the proof.
  Conditions: those that each theorem names.
-/
import Derived.Test.YtoecjaohdnoenaaGreatDDNewMRowk20
set_option linter.unusedSimpArgs false
set_option linter.unusedVariables false
set_option maxRecDepth 8000
set_option maxHeartbeats 8000000
namespace Go.Proofs.YtoecjaohdnoenaaGreat
section
open Go.RowKit

section
variable {P:Program} {ops:Array Oper} {o:Oper} {st:St} {t:TypeId} {y z u:Operand} {rs qs:List Nat} {i j:Int} {m n:Nat} {k:IntKind}
end
end
section
open Go.RowKit

theorem els_pl9 (bs:List TBody):plainT (els bs):=fun e he t ht=>by
 obtain⟨x,_,rfl⟩:=Gqs.1 he
 simp only[Enc.e] at ht
 revert ht
 simp only[List.mem_cons,Gxq,or_false]
 rintro (rfl | rfl | rfl | rfl | rfl | rfl | rfl | rfl | rfl) <;> exact⟨_,rfl⟩
end
section
open Go.RowKit

section
variable {P:Program} {w:World}
theorem run_copy_src (t tx ty e:TypeId) (i:TypeInfo) (ht:P.underlying t=some (.slice e)) (hi:P.info? e=some i) (b o c n:Nat) (x:Value) (news:List Value) (hs:Src P i.size tx x n news w) (hc:∀ j,j<news.length→(w.cell? ⟨b,o+j,none⟩).isSome=true) (hf:∀ j,j<news.length→w.frozen? ⟨b,o+j,none⟩=false) :
  (Builtin.copy_ #[t,tx] ty #[.slice (some ⟨b,o,none⟩) n c,x]).run P w = .ok (.int .i64 n) (w.setCells b o news):=by
 have hst:=run_storeCells_cells (P:=P) b o news 0 w (by simpa using hc) (by simpa using hf) hs.one
 simp only[Nat.add_zero] at hst
 simp[Builtin.copy_,run_underlying ht,Go.sizeOf,typeInfo,hi,hs.len,hs.cells,hst,goInt]
theorem OW.fill {k:Nat} {es es':List (List T)} {v:Value} {fp:List Nat} {t tx ty e:TypeId} {zs:List Value} {by_:Nat} [hm:TyMake P t e zs by_] (h:OW w (.sl k es) v fp) (hnd:fp.Nodup) (hkz:k=zs.length) {x:Value} (hl:es'.length=es.length) (h0:0<es.length) (hpl:plainT es') (hkk:∀ e∈es',e.length=k)
  (hsrc:Src P k tx x es'.length (flatV (plainV' es') es'.length k) w) :
  ∃ w' fp',(Builtin.copy_ #[t,tx] ty #[v,x]).run P w = .ok (.int .i64 es.length) w'∧OW w' (.sl k es') v fp'∧fp'.Nodup∧(∀ b∈fp',b∈fp)∧Keeps w w' fp:=by
 obtain⟨i,hi,hzz⟩:=Option.map_eq_some_iff.1 hm.info
 simp only[Prod.mk.injEq] at hzz
 obtain⟨hz1,hs,hb1⟩:=hzz
 have hsk:i.size=k:=by rw[hs,hkz]
 have hsrc2:Src P i.size tx x es.length (flatV (plainV' es') es'.length k) w:=by rw[hsk,←hl]; exact hsrc
 rcases h.open_ with ⟨rfl,rfl,rfl⟩ | ⟨b,o,c,tid,cur,fz,val,fps,rfl,rfl,hg,hzf,hc,hcm,hcs,hp,hk,hf,hfk,hv,ht⟩
 ·simp at h0
 ·have hmul:es'.length*k≤c*k:=Gxg _ (by omega)
  have hr:=run_copy_src (P:=P) (w:=w) t tx ty e i hm.slice hi b o c es.length x _ hsrc2 (fun j hj=>by
   rw[cell_of_row w b _ cur tid fz hg]
   rw[Yf] at hj
   simp
   omega) (fun j hj=>by
   rw[Yf] at hj
   exact frozen_fz hg hzf (by omega))
  obtain⟨cur',k1,k2,k3,k4⟩:=Yj b tid fz (flatV (plainV' es') es'.length k) o w cur hg (by rw[Yf]; omega)
  obtain⟨s1,s2,s3,s4,s5⟩:=Z3 w b (flatV (plainV' es') es'.length k) o
  have hnil:(es'.map fun e=>e.map fun _=>([]:List Nat)).flatten.flatten = []:=by
   rw[List.flatten_eq_nil_iff]
   intro l hl
   rw[Gxa] at hl
   obtain⟨f,hf,hl⟩:=hl
   obtain⟨e,_,rfl⟩:=Gqs.1 hf
   obtain⟨_,_,rfl⟩:=Gqs.1 hl
   rfl
  refine⟨_,b::(es'.map fun e=>e.map fun _=>([]:List Nat)).flatten.flatten,hr,?_,by rw[hnil]; simp,fun x hx => ?_,s1,s2,s3,by omega,fun b'' _ hb''=>s5 b'' fun e=>hb'' (by simp[e])⟩
  ·rw[←hl]
   refine .sl es' b o k c tid cur' fz (plainV' es') (es'.map fun e=>e.map fun _ => []) k1 (by rw[k2]; exact hzf) (by omega) hcm (by rw[k2]; exact hcs) hp hkk (by simp) (fun f hf => ?_) (fun i j hi hj => ?_) fun i j e t fs f h6 h7 h8 h9 => ?_
   ·obtain⟨e,h6,rfl⟩:=Gqs.1 hf
    simpa using hkk e h6
   ·have h1:=ij_lt hi hj
    rw[Nat.add_assoc,k3 _ (by rw[Yf]; exact h1)]
    exact flatV_at hi hj
   ·rw[Gqh,h6] at h8
    simp only[Gq0,Option.some.injEq] at h8
    subst h8
    rw[Gqh,h7] at h9
    simp only[Gq0,Option.some.injEq] at h9
    subst h9
    obtain⟨u,rfl⟩:=hpl e (Yi h6) t (Yi h7)
    rw[plainV'_at h6 h7]
    refine .v u ?_
    have hi:=Yh h6
    have hj:j<k:=by rw[←hkk e (Yi h6)]; exact Yh h7
    have:=hsrc.one _ (Yi (flatV_at (val:=plainV' es') hi hj))
    rwa[plainV'_at h6 h7] at this
  ·rw[hnil] at hx
   rcases List.mem_cons.1 hx with rfl | hx
   ·simp
   ·cases hx
end
section
variable {P:Program} {E:Env} {ops:Array Oper} {o:Oper} {st:St} {n:Nat} {rest:List Oper} {QQ:Exit→St→Prop} {t:TypeId} {y z:Operand}
end
end
section
open Go.RowKit
end
section
open Go.RowKit

theorem PH.of {w:TWorld} {row:List Int} (hg:Enc.gd w) (ho:worldOk w=true) (hr:rowOk row w.Scores.length=true):PH w row:=by
 obtain⟨gL,gT,gS,gSc,gB⟩:=hg
 obtain⟨hl,ht,hs,hn,hsc,hlen,hbo⟩:=Ka ho
 rw[rowOk,Gqj,decide_eq_true_eq] at hr
 refine⟨gL,gB.2,hl,hn,hlen,hbo,by omega,fun i hi => ?_⟩
 have:=Gqm.1 hr.2 i hi
 exact Yk.1 this
section
variable {w:TWorld} {row:List Int}
theorem PH.pl (h:PH w row):P1 w.Level w.Scores.length w.Bodies (plM w.Level row w.Bodies w.Scores.length) w.Scores.length:=P1.all h.hl h.n4.2 h.len h.bs row _ (Gqi _)
end
section
variable {l:TLevel} {n:Nat} {bs:List TBody} {ss:List Int}
theorem SI.drop {bs0:List TBody} {s:List TBody×List Int} (h:SI l n bs0 s):s.1.drop n=bs0.drop n:=by
 apply List.ext_getElem?
 intro i
 rw[List.getElem?_drop,List.getElem?_drop]
 exact h.tl _ (by omega)
end
/-! ### What fits -/
structure Fits (w:TWorld) (n:Nat):Prop where
 gd:Enc.gd w
 sl:w.Scores.length=n
 bl:w.Bodies.length≤24
end
section
open Go.RowKit

instance:PlainE TBody:=⟨fun x t h=>els_pl9 [x] (Enc.e x) (by simp[els]) t h⟩
theorem I_copyWorld (w:TWorld) (hg:Enc.gd w) (h1:w.Level.Rows.length≤1048576) (h2:w.Scores.length≤1048576) (h3:w.Bodies.length≤1048576):Con Tryz.prog 161 [] [ag w] [.row 1 (els w.Level.Rows),.row 1 (els w.Scores),.row 9 (els w.Bodies)] (.o (.ag [.ref 0,jn w.Tick,jn w.Seed,.ref 1,.ref 2])):=by
 have hls:=X6 w.Scores
 have hlb:=X6 w.Bodies
 refine Con.of Tryz.func161 J Tryz.ntmps161 J (fun E => ?_)
 refine Wz [113,22,2,7,148] ?_;refine M1 (Y8 J J (I_copyLevel w.Level hg.1 h1) J J J) J J ?_;refine Wz [102,49,24] ?_;refine M_appnil J J J J J J J J (X8 _) (els_k _) (by omega) (by omega) ?_;refine Wz [95,24] ?_;refine M_appnil J J J J J J J J (X8 _) (els_k _) (by omega) (by omega) ?_;refine Wz [95,40,49,116,117] ?_
 exact E_cell J J J J (Xt [2,3,4] (by decide) J J J)
theorem S_copyWorld (w:TWorld) (hg:Enc.gd w) (h1:w.Level.Rows.length≤1048576) (h2:w.Scores.length≤1048576) (h3:w.Bodies.length≤1048576):Con Tryz.prog 152 [] [ag w] [.row 1 (els w.Level.Rows),.row 1 (els w.Scores),.row 9 (els w.Bodies)] (.o (.ag [.ref 0,jn w.Tick,jn w.Seed,.ref 1,.ref 2])):=by
 have hls:=X6 w.Scores
 have hlb:=X6 w.Bodies
 have h00:([]:List (List T)).length=0:=rfl
 refine Con.of Tryz.func152 J Tryz.ntmps152 J (fun E => ?_)
 refine Wz [113,22,2,7,148] ?_;refine M1 (Y8 J J (S_copyLevel w.Level hg.1 h1) J J J) J J ?_;refine Wz [102,49,7,202,13] ?_;refine M_app J J J J J J J J J J (X8 _) (els_k _) (by omega) (by omega) ?_;refine Wz [95,7,202,13] ?_;refine M_app J J J J J J J J J J (X8 _) (els_k _) (by omega) (by omega) ?_;refine Wz [95,40,49,116,117] ?_
 exact E_cell J J J J (Xt [2,3,4] (by decide) J J J)
end
section
open Go.RowKit


@[reducible] def pX (x:TPeer) (a b c d e f g h i j:V1):List V1 := [jn x.Me,jn x.Delay,jn x.Ahead,jn x.Seed,a,b,jn x.Base.Tick,jn x.Base.Seed,c,d,e,jn x.Now.Tick,jn x.Now.Seed,f,g,h,i,j,jn x.Fault.Tick,jn x.Fault.Player,jn x.Fault.Add,jn x.Rolls,jn x.Again]
@[reducible] def pC (x:TPeer) (a b c d e f g h i j:Nat):List V1:=pX x (.ref a) (.ref b) (.ref c) (.ref d) (.ref e) (.ref f) (.ref g) (.ref h) (.ref i) (.ref j)
@[reducible] def wR (w:TWorld) (l:List Ob):List Ob := .row 1 (els w.Level.Rows) :: .row 1 (els w.Scores) :: .row 9 (els w.Bodies)::l
@[reducible] def pR (x:TPeer) (l:List Ob):List Ob := .row 1 (els x.Tracks)::wR x.Base (wR x.Now (.row 1 (els x.Used) :: .row 2 (els x.Saves) :: .row 1 (els x.Sums)::l))
@[reducible] def sr {α:Type} [Enc α] (xs:List α):V1 := .rd [] (sl xs)
@[reducible] def nv:V1 := .rd [] (.v (.slice none 0 0))
structure PeerIn (x:TPeer):Prop where
 gd:Enc.gd x
 tr:x.Tracks.length≤1048576∧∀ t∈x.Tracks,t.Inputs.length≤1048576
 bw:x.Base.Level.Rows.length≤1048576∧x.Base.Scores.length≤1048576∧x.Base.Bodies.length≤1048576
 nw:x.Now.Level.Rows.length≤1048576∧x.Now.Scores.length≤1048576∧x.Now.Bodies.length≤1048576
 us:x.Used.length≤1048576∧∀ r∈x.Used,r.length≤1048576
 sv:x.Saves.length≤1048576
 sm:x.Sums.length≤1048576
instance:PlainE TSave:=⟨fun x t h=>by
 have h2:t ∈ [T.v (.int .i64 x.Tick),T.v (.string x.Delta)]:=h
 simp only[List.mem_cons,Gxq,or_false] at h2
 rcases h2 with rfl | rfl <;> exact⟨_,rfl⟩⟩
@[reducible] def zP:List V1 := [jn 0,jn 0,jn 0,jn 0,nv,nv,jn 0,jn 0,nv,nv,nv,jn 0,jn 0,nv,nv,nv,nv,nv,jn 0,jn 0,jn 0,jn 0,jn 0]
end
section
open Go.RowKit

def nwB (l:TLevel) (seed:Int):Bool:=levelOk l&&inR seed 0 65535
noncomputable def nwV (l:TLevel) (n:Nat) (seed:Int):TWorld:=if nwB l seed=true then newWorld l n seed else zeroWorld
def frs (fr:Nat→TBody) (k:Nat):List TBody:=(List.range k).map fr
theorem frs_succ (fr:Nat→TBody) (k:Nat):frs fr (k+1)=frs fr k ++ [fr k]:=by simp[frs,List.range_succ]
theorem frs_len (fr:Nat→TBody) (k:Nat):(frs fr k).length=k:=by simp[frs]
def genW (l:TLevel) (n:Nat) (seed:Int) (fr:Nat→TBody):TWorld:=⟨l,0,seed,List.replicate n 0,frs fr n⟩
theorem I_NewWorldF (l:TLevel) (n:Nat) (seed:Int) (hg:Enc.gd l) (hL:l.Rows.length≤1048576) (hn:1≤n∧n≤4):Con Tryz.prog 138 [] [ag l,ai n,ai seed] (wR (nwV l n seed) []) (.tu [.ag [.ref 0,jn (nwV l n seed).Tick,jn (nwV l n seed).Seed,.ref 1,.ref 2],.c (bv (nwB l seed))]):=by
 cases h:nwB l seed with
 |true =>
  have h2:=h
  simp only[nwB,Gqj] at h2
  rw[show nwV l n seed=newWorld l n seed by rw[nwV,h]; rfl]
  exact I_NewWorld l n seed hg hL h2.1 hn h2.2
 | false =>
  rw[show nwV l n seed=zeroWorld by rw[nwV,h]; rfl]
  have c1:=Xj l hg
  have c2:=Xk n 1 4
  have c3:=Xk seed 0 65535
  rw[Yk.2 (by omega)] at c2
  cases hl:levelOk l with
  |false =>
   rw[hl] at c1
   refine Con.of Tryz.func138 J Tryz.ntmps138 J (fun E => ?_)
   refine Wz [113,22,3,112,38] ?_;refine zx (Qj J J (c1) J) J ?_;refine Wz [5,65,125,29,65,125,29,101,7,115,110,109,47] ?_
   exact Xh J J J J J (Xu [1,1,9] [2,3,4] J J (by decide) J J J)
  |true =>
   rw[hl] at c1
   have hs:inR seed 0 65535=false:=by rw[nwB,hl] at h; exact h
   rw[hs] at c3
   refine Con.of Tryz.func138 J Tryz.ntmps138 J (fun E => ?_)
   refine Wz [113,22,3,112,38] ?_;refine zx (Qj J J (c1) J) J ?_;refine Wz [5,20] ?_;refine zx (Qj J J (c2) J) J ?_;refine Wz [1,5,15,20] ?_;refine zx (Qj J J (c3) J) J ?_;refine Wz [1,5,15,101,7,115,110,109,47] ?_
   exact Xh J J J J J (Xu [1,1,9] [2,3,4] J J (by decide) J J J)
theorem S_NewWorldG (l:TLevel) (n:Nat) (seed:Int) (fr:Nat→TBody) (hg:Enc.gd l) (hL:l.Rows.length≤1048576) (hn:1≤n∧n≤4) (hfr:∀ k:Nat,k<n→Con Tryz.prog 213 [] [ag l,ai k] [] (.o (.ag ((Enc.e (fr k)).map (V1.rd []))))) (hgw:Enc.gd (genW l n seed fr)) (b:Bool) (hb:worldOk (genW l n seed fr)=b) (y:TWorld) (hy:y=if b=true then genW l n seed fr else zeroWorld) :
  Con Tryz.prog 134 [] [ag l,ai n,ai seed] (wR y []) (.tu [.ag [.ref 0,jn y.Tick,jn y.Seed,.ref 1,.ref 2],.c (bv b)]):=by
 have hwk:=S_WorldOk (genW l n seed fr) hgw
 rw[hb] at hwk
 have hcl:=S_copyLevel l hg hL
 refine Con.of Tryz.func134 J Tryz.ntmps134 J (fun E => ?_)
 refine Wz [113,22,3,40] ?_;refine M1 (Y8 J J (hcl) J J J) J J ?_;refine Wz [0,115,22,49,39] ?_
 refine AWP.pre (st':=(⟨_,[(1,I n),(3,.o (.c (.ptr 0 0))),(6,.o (.c (.ptr 1 0))),(8,.o (.c (.ptr 3 0))),(9,I 0)],[.box ((Enc.e l).map (V1.rd [])),.box [nilV,jn 0,jn 0,nilV,nilV],.row 1 (els l.Rows),.box [.ref 2,jn 0,jn seed,nilV,nilV]]⟩:St)) ?_ (Xv [0,1,2,3] (by kernel_rfl))
 refine AWP.pre ?_ (Wk.nilbox (p:=3) (i:=3) 1 J J)
 refine AWP.pre ?_ (Wk.nilbox (p:=3) (i:=4) 9 J J)
 refine Xe (fun m st=>∃ k:Nat,k+m=n∧(True)∧st=(⟨_,[(1,I n),(3,.o (.c (.ptr 0 0))),(6,.o (.c (.ptr 1 0))),(8,.o (.c (.ptr 3 0))),(9,I k)],[.box ((Enc.e l).map (V1.rd [])),.box [nilV,jn 0,jn 0,nilV,nilV],.row 1 (els l.Rows),.box [.ref 2,jn 0,jn seed,.ref 4,.ref 5],.row 1 (els (List.replicate k (0:Int))),.row 9 (els (frs fr k))]⟩:St)) (n) ⟨_,⟨0,by omega,trivial,J⟩,Xv [0,1,2,3,4,5] (by kernel_rfl)⟩ ?_
 rintro m_A _ ⟨k,hk_A,hp_A,rfl⟩
 have hlk:=X6 (frs fr k)
 have hlk2:=frs_len fr k
 have hl0:(els (List.replicate k (0:Int))).length=k:=by rw[X6,Gxr]
 have f2:decide ((k:Int)≤4)=true:=Gqb (by omega)
 by_cases h3:k<n
 ·have f1:decide ((k:Int)<n)=true:=Gqb (by omega)
  have hf:=hfr k h3
  refine Wz [28,67,20] ?_;refine z9b J (by assumption) ?_;refine Wz [29,101,9,24,107,201,95] ?_
  refine AWP.pre (st':=(⟨_,[(1,I n),(3,.o (.c (.ptr 0 0))),(6,.o (.c (.ptr 1 0))),(8,.o (.c (.ptr 3 0))),(9,I k)],[.box ((Enc.e l).map (V1.rd [])),.box [nilV,jn 0,jn 0,nilV,nilV],.row 1 (els l.Rows),.box [.ref 2,jn 0,jn seed,.ref 4,.ref 5],.row 1 (els (List.replicate (k+1) (0:Int))),.row 9 (els (frs fr k))]⟩:St)) ?_ (Xw [0,1,2,3,4,5] (by decide) J ((row65 (reps_succ k).symm)) (.c J (.c J (.c J (.c J (.c J (.nil)))))))
  refine Xd u8_12 [[],[28],[],[],[30,31],[30,31,32],[28,29,30,31,32,33],[28,29,30,31,32,33,34],[28,29,30,31,32,33,34,35]] [[30,31,32,33],[30,31,32,33],[28,29,31],[28,29,30],[28,29],[28,29],[],[],[]] J ?_;refine Wz [32,147,8] ?_;refine DR.s (Y8 J J (hf) J J J) J J ?_;refine Wz [184,30] ?_;refine AL.weak (st':=(⟨_,[(1,I n),(3,.o (.c (.ptr 0 0))),(6,.o (.c (.ptr 1 0))),(8,.o (.c (.ptr 3 0))),(9,I k),(29,.o (.c (.ref 5))),(33,.o (.c (.sb 6 1 9)))],[.box ((Enc.e l).map (V1.rd [])),.box [nilV,jn 0,jn 0,nilV,nilV],.row 1 (els l.Rows),.box [.ref 2,jn 0,jn seed,.ref 4,.ref 5],.row 1 (els (List.replicate (k+1) (0:Int))),.row 9 (els (frs fr k)),.box [jn (fr k).Kind,jn (fr k).Owner,jn (fr k).X,jn (fr k).Y,jn (fr k).VX,jn (fr k).VY,jn (fr k).Aim,jn (fr k).Life,jn (fr k).Timer]]⟩:St)) (Xv [0,1,2,3,4,5,6] (by kernel_rfl)) ?_;refine Wz [203,185,137] ?_
  exact⟨n-(k+1),by omega,(fun k:Nat=>(⟨_,[(1,I n),(3,.o (.c (.ptr 0 0))),(6,.o (.c (.ptr 1 0))),(8,.o (.c (.ptr 3 0))),(9,I k)],[.box ((Enc.e l).map (V1.rd [])),.box [nilV,jn 0,jn 0,nilV,nilV],.row 1 (els l.Rows),.box [.ref 2,jn 0,jn seed,.ref 4,.ref 5],.row 1 (els (List.replicate k (0:Int))),.row 9 (els (frs fr k))]⟩:St)) (k+1),⟨k+1,by omega,trivial,J⟩,Xw [0,1,2,3,4,5] (by decide) J (row6w (by rw[frs_succ,show els (frs fr k ++ [fr k])=els (frs fr k) ++ [Enc.e (fr k)] from List.map_append]; rfl)) (.c J (.c J (.c J (.c J (.c J (.nil))))))⟩
 have f1:decide ((k:Int)<n)=false:=Gqa (by omega)
 have h3:k=n:=by omega
 subst h3
 cases b with
 |true =>
  subst hy
  refine Wz [28,67,65,15,260,68,112,38] ?_;refine zx (Qj J J (hwk) J) J ?_;refine Wz [53,40,110,46] ?_
  exact Xh J J J J J (Xt [2,4,5] (by decide) J J J)
 |false =>
  subst hy
  refine Wz [28,67,65,15,260,68,112,38] ?_;refine zx (Qj J J (hwk) J) J ?_;refine Wz [5,101,7,115,110,109,47] ?_
  exact Xh J J J J J (Xu [1,1,9] [6,7,8] J J (by decide) J J J)
def badF (p:Nat):TBody:=⟨0,p,-1,-1,0,0,1,3,0⟩
theorem S_StartBad (l:TLevel) (p:Int) (hg:Enc.gd l) (hl:levelOk l=false):Con Tryz.prog 247 [] [ag l,ai p] [] (.tu [.c (jn (-1)),.c (jn (-1))]):=by
 have hc:=S_LevelOk l hg
 rw[hl] at hc
 refine Con.of Tryz.func247 J Tryz.ntmps247 J (fun E => ?_)
 refine Wz [113,96,3,33,33,112,38] ?_;refine zx (Qj J J (hc) J) J ?_;refine Wz [5,65,125,29,101,7,96,109,47] ?_
 exact E_tmp2 J J J (Xt [] (by decide) J J J)
theorem S_freshBad (l:TLevel) (p:Nat) (hg:Enc.gd l) (hl:levelOk l=false):Con Tryz.prog 213 [] [ag l,ai p] [] (.o (.ag ((Enc.e (badF p)).map (V1.rd [])))):=by
 have hc:=S_StartBad l p hg hl
 refine Con.of Tryz.func213 J Tryz.ntmps213 J (fun E => ?_)
 refine Wz [113,22,2,40,0] ?_;refine M1 (Y8 J J (hc) J J J) J J ?_;refine Wz [195,149,149,96,3,156,115,49,116,117] ?_
 exact E_cell J J J J (Xt [] (by decide) J J J)
theorem wl_ok {w:TWorld} (h:worldOk w=true):levelOk w.Level=true∧inR w.Seed 0 65535=true:=⟨(Ka h).1,(Ka h).2.2.1⟩
theorem S_NewWorldF (l:TLevel) (n:Nat) (seed:Int) (hg:Enc.gd l) (gs:I64 seed) (hL:l.Rows.length≤1048576) (hn:1≤n∧n≤4):Con Tryz.prog 134 [] [ag l,ai n,ai seed] (wR (nwV l n seed) []) (.tu [.ag [.ref 0,jn (nwV l n seed).Tick,jn (nwV l n seed).Seed,.ref 1,.ref 2],.c (bv (nwB l seed))]):=by
 have h0:I64 0:=⟨by decide,by decide⟩
 have h1:I64 1:=⟨by decide,by decide⟩
 have h3:I64 3:=⟨by decide,by decide⟩
 have hm1:I64 (-1):=⟨by decide,by decide⟩
 cases hl:levelOk l with
 | false =>
  have hb:nwB l seed=false:=by rw[nwB,hl]; rfl
  have hgw:Enc.gd (genW l n seed badF):=⟨hg,h0,gs,⟨by simp[genW]; omega,fun x hx=>by rw[Gxo hx]; exact h0⟩,⟨by simp[genW,frs]; omega,fun b hb=>by
   simp only[genW,frs,Gqs,List.mem_range] at hb
   obtain⟨k,hk,rfl⟩:=hb
   exact⟨h0,⟨by show (-9223372036854775808:Int)≤(k:Int); omega,by show (k:Int)≤9223372036854775807; omega⟩,hm1,hm1,h0,h0,h1,h3,h0⟩⟩⟩
  refine S_NewWorldG l n seed badF hg hL hn (fun k hk=>S_freshBad l k hg hl) hgw _ ?_ _ ?_
  ·rw[hb]
   cases hw:worldOk (genW l n seed badF) with
   |false=>rfl
   |true=>have:=(wl_ok hw).1; rw[show (genW l n seed badF).Level=l from rfl,hl] at this; cases this
  ·rw[nwV,hb]; rfl
 | true =>
  have hgw:Enc.gd (genW l n seed fun k=>fresh l k):=⟨hg,h0,gs,⟨by simp[genW]; omega,fun x hx=>by rw[Gxo hx]; exact h0⟩,⟨by simp[genW,frs]; omega,fun b hb=>by
   simp only[genW,frs,Gqs,List.mem_range] at hb
   obtain⟨k,hk,rfl⟩:=hb
   obtain⟨_,h5,h4⟩:=fresh_free hl (p:=(k:Int)) (by omega)
   exact⟨h0,⟨by show (-9223372036854775808:Int)≤(k:Int); omega,by show (k:Int)≤9223372036854775807; omega⟩,⟨by omega,by omega⟩,⟨by omega,by omega⟩,h0,h0,h1,h3,h0⟩⟩⟩
  refine S_NewWorldG l n seed (fun k=>fresh l k) hg hL hn (fun k hk=>S_fresh l k hg hl (by omega)) hgw _ ?_ _ ?_
  ·have hb:nwB l seed=inR seed 0 65535:=by rw[nwB,hl]; rfl
   rw[hb]
   cases hs:inR seed 0 65535 with
   |true=>exact newWorld_ok hl hn hs
   |false =>
    cases hw:worldOk (genW l n seed fun k=>fresh l k) with
    |false=>rfl
    |true=>have:=(wl_ok hw).2; rw[show (genW l n seed fun k=>fresh l k).Seed=seed from rfl,hs] at this; cases this
  ·rw[nwV]; rfl
end
section
open Go.RowKit

def trackOk (t:TTrack):Bool:=decide ((t.Inputs.length:Int)≤400)&&inOk t.Inputs
def tracksOk (l:List TTrack):Bool:=(decide (1≤l.length)&&decide (l.length≤4))&&l.all trackOk
theorem tracks_no {l:List TTrack} (h:l.length<1∨4<l.length):tracksOk l=false:=by
 rw[tracksOk]
 rcases h with h | h
 ·rw[Gqa (by omega:¬1≤l.length)]; rfl
 ·rw[Gqa (by omega:¬l.length≤4),Bool.and_false]; rfl
theorem tracks_bad {l:List TTrack} (h:l.all trackOk=false):tracksOk l=false:=by rw[tracksOk,h,Bool.and_false]
theorem tracks_yes {l:List TTrack} (h1:1≤l.length) (h2:l.length≤4) (h:l.all trackOk=true):tracksOk l=true:=by rw[tracksOk,h,Gqb h1,Gqb h2]; rfl
theorem Z7 {l:List TTrack} (h:tracksOk l=true):1≤l.length∧l.length≤4:=by
 simp only[tracksOk,Gqj,decide_eq_true_eq] at h
 exact h.1
def lenAt (l:List TTrack) (k:Nat):Nat:=(l.getD k ⟨[]⟩).Inputs.length
def leastK (l:List TTrack):Nat→Nat
 |0=>lenAt l 0
 |k+1=>min (leastK l k) (lenAt l k)
def knownTicks (l:List TTrack):Nat:=if tracksOk l=true then leastK l l.length else 0
theorem lenAt_is {l:List TTrack} {k:Nat} (h:k<l.length):lenAt l k=l[k].Inputs.length:=by simp[lenAt,Gqd,h]
theorem least_0 (l:List TTrack):leastK l 0=lenAt l 0:=rfl
theorem least_1 (l:List TTrack):leastK l 1=lenAt l 0:=Nat.min_self _
def faultOk (f:TFault) (n:Int):Bool:=((inR f.Tick 0 400&&decide (0≤f.Player))&&decide (f.Player<n))&&inR f.Add 0 9
theorem fault_S (f:TFault) (n:Int):(((decide (0<n)&&inR f.Tick 0 400)&&inR f.Player 0 (n-1))&&inR f.Add 0 9)=faultOk f n:=by
 rw[faultOk,Bool.eq_iff_iff]
 simp only[Gqj,decide_eq_true_eq,Yk]
 omega
def PeerP (p:TPeer):Prop :=
 (tracksOk p.Tracks=true∧worldOk p.Base=true∧worldOk p.Now=true∧p.Base.Level=p.Now.Level) ∧
 (p.Base.Scores.length=p.Tracks.length∧p.Now.Scores.length=p.Tracks.length∧faultOk p.Fault p.Tracks.length=true) ∧
 ((0≤p.Me∧p.Me≤(p.Tracks.length:Int)-1)∧(0≤p.Delay∧p.Delay≤5)∧(1≤p.Ahead∧p.Ahead≤8)) ∧
 ((0≤p.Seed∧p.Seed≤65535)∧(0≤p.Rolls∧p.Rolls≤1000000)∧(0≤p.Again∧p.Again≤1000000)) ∧
 ((0≤p.Now.Tick-p.Base.Tick∧p.Now.Tick-p.Base.Tick≤p.Ahead)∧(p.Used.length:Int)=p.Now.Tick-p.Base.Tick∧(p.Saves.length:Int)=p.Now.Tick-p.Base.Tick) ∧
 ((p.Used.all fun row=>rowOk row p.Tracks.length)=true∧∀ k (h:k<p.Saves.length),p.Saves[k].Tick=p.Base.Tick+k) ∧
 p.Base.Tick≤knownTicks p.Tracks∧p.Now.Tick≤lenAt p.Tracks p.Me.toNat∧(p.Sums.length:Int)=p.Base.Tick+1
noncomputable def peerOk (p:TPeer):Bool:=@decide (PeerP p) (Classical.propDecidable _)
theorem peer_T {p:TPeer} (h:PeerP p):peerOk p=true:=@decide_eq_true _ (Classical.propDecidable _) h
theorem peer_F {p:TPeer} (h:¬PeerP p):peerOk p=false:=@decide_eq_false _ (Classical.propDecidable _) h
theorem peer_spec {p:TPeer} (h:peerOk p=true):PeerP p:=@of_decide_eq_true _ (Classical.propDecidable _) h
end
section
open Go.RowKit

theorem slEqS (xs ys:List ByteArray) (hn:Enc.gd xs):Con Tryz.prog 239 [] [al xs,al ys] [] (B (decide (xs=ys))):=by
 have hn1:=hn.1
 have hlx:=X6 xs
 have hly:=X6 ys
 by_cases hl:xs.length=ys.length
 ·have hb:decide (((els xs).length:Int)≠((els ys).length:Int))=false:=by rw[hlx,hly,hl]; simp
  refine Con.of Tryz.func239 J Tryz.ntmps239 J (fun E => ?_)
  refine Wz [79,62,26,111,104,2,50] ?_;refine Xe (fun m st=>∃ k:Nat,k+m=xs.length∧(xs.take k=ys.take k)∧st=(⟨_,[(0,L xs),(1,L ys),(12,I (els xs).length),(13,I k)],[]⟩:St)) (xs.length) ⟨_,⟨0,by omega,by simp,J⟩,Xv [] (by kernel_rfl)⟩ ?_
  rintro m_A _ ⟨k,hk_A,hp_A,rfl⟩
  refine Wz [7,12,16] ?_
  refine Q8 J (fun h => ?_) (fun h => ?_)
  ·have h3:k<xs.length:=by have:=Gqc h; omega
   have h4:k<ys.length:=by omega
   have hat:=X5 h3
   have hat2:=X5 h4
   by_cases he:xs[k]=ys[k]
   ·have hk:decide (xs[k]≠ys[k])=false:=by simp[he]
    refine Wz [9,4,3,16] ?_;refine Xd u8_0 u8_13 u8_14 J ?_;refine Wz [93,34,93,34,165,30,183,60,100,14,0,2] ?_
    exact⟨xs.length-(k+1),by omega,_,⟨k+1,by omega,Yd h3 h4 hp_A he,J⟩,Xv [] (by kernel_rfl)⟩
   ·have hk:decide (xs[k]≠ys[k])=true:=by simp[he]
    refine Wz [9,4,3,16] ?_;refine Xd u8_0 u8_13 u8_14 J ?_;refine Wz [93,34,93,34,165,30,74] ?_
    exact Xi J J (Xt [] (by decide) J J (Xf (eq_ne h3 h4 he).symm))
  ·have h3:¬((k:Int)<(els xs).length):=Gqg h
   refine Wz [94] ?_
   exact Xi J J (Xt [] (by decide) J J (Xf (Yb (by omega) hl hp_A).symm))
 ·have hb:decide (((els xs).length:Int)≠((els ys).length:Int))=true:=by rw[hlx,hly]; simp; omega
  refine Con.of Tryz.func239 J Tryz.ntmps239 J (fun E => ?_)
  refine Wz [79,18] ?_
  exact Xi J J (Xt [] (by decide) J J (Xf (Yc hl).symm))
theorem I_sameLevel (x y:TLevel) (hg:Enc.gd x):Con Tryz.prog 194 [] [ag x,ag y] [] (B (decide (x=y))):=by
 have h:decide (x.Rows=y.Rows)=decide (x=y):=by cases x; cases y; simp
 refine Con.of Tryz.func194 J Tryz.ntmps194 J (fun E => ?_)
 refine Wz [51,24,13] ?_;refine zx (Qj J J (slEqS x.Rows y.Rows hg) J) J ?_;refine Wz [46] ?_
 exact Xi J J (Xt [] (by decide) J J (Xf h))
end
section
open Go.RowKit

theorem S_sameLevel (x y:TLevel) (hg:Enc.gd x):Con Tryz.prog 156 [] [ag x,ag y] [] (B (decide (x=y))):=by
 have he:decide (x.Rows=y.Rows)=decide (x=y):=by cases x; cases y; simp
 rw[←he]
 clear he
 obtain⟨xs⟩:=x
 obtain⟨ys⟩:=y
 have hn:Enc.gd xs:=hg
 have hn1:=hn.1
 show Con _ _ _ _ _ (B (decide (xs=ys)))
 have hlx:=X6 xs
 have hly:=X6 ys
 by_cases hl:xs.length=ys.length
 ·have hb:decide (((els xs).length:Int)≠((els ys).length:Int))=false:=by rw[hlx,hly,hl]; simp
  refine Con.of Tryz.func156 J Tryz.ntmps156 J (fun E => ?_)
  refine Wz [51,27,21,13,21,62,26,39] ?_;refine Xe (fun m st=>∃ k:Nat,k+m=xs.length∧(xs.take k=ys.take k)∧st=(⟨_,[(2,.o (.c (.ptr 0 0))),(3,.o (.c (.ptr 1 0))),(5,I k)],[.box [.rd [] (sl xs)],.box [.rd [] (sl ys)]]⟩:St)) (xs.length) ⟨_,⟨0,by omega,by simp,J⟩,Xv [0,1] (by kernel_rfl)⟩ ?_
  rintro m_A _ ⟨k,hk_A,hp_A,rfl⟩
  refine Wz [111,13,21,12] ?_
  refine Q8 J (fun h => ?_) (fun h => ?_)
  ·have h3:k<xs.length:=by have:=Gqc h; omega
   have h4:k<ys.length:=by omega
   have hat:=X5 h3
   have hat2:=X5 h4
   by_cases he:xs[k]=ys[k]
   ·have hk:decide (xs[k]≠ys[k])=false:=by simp[he]
    refine Wz [45] ?_;refine Xd u8_15 u8_16 u8_17 J ?_;refine Wz [32,8,106,34,32,8,106,34,165,30,57] ?_
    exact⟨xs.length-(k+1),by omega,_,⟨k+1,by omega,Yd h3 h4 hp_A he,J⟩,Xv [0,1] (by kernel_rfl)⟩
   ·have hk:decide (xs[k]≠ys[k])=true:=by simp[he]
    refine Wz [45] ?_;refine Xd u8_15 u8_16 u8_17 J ?_;refine Wz [32,8,106,34,32,8,106,34,165,30,74] ?_
    exact Xi J J (Xt [] (by decide) J J (Xf (eq_ne h3 h4 he).symm))
  ·have h3:¬((k:Int)<(els xs).length):=Gqg h
   refine Wz [94] ?_
   exact Xi J J (Xt [] (by decide) J J (Xf (Yb (by omega) hl hp_A).symm))
 ·have hb:decide (((els xs).length:Int)≠((els ys).length:Int))=true:=by rw[hlx,hly]; simp; omega
  refine Con.of Tryz.func156 J Tryz.ntmps156 J (fun E => ?_)
  refine Wz [51,27,21,13,21,18] ?_
  exact Xi J J (Xt [] (by decide) J J (Xf (Yc hl).symm))
end
section
open Go.RowKit

theorem I_TrackOk (t:TTrack) (g:Enc.gd t):Con Tryz.prog 237 [] [ag t] [] (B (trackOk t)):=by
 have hl:=X6 t.Inputs
 refine Con.of Tryz.func237 J Tryz.ntmps237 J (fun E => ?_)
 refine Wz [58,24,21,174,82] ?_;refine zx (Qt.grdT J J J (.hit (.hit .stop)) (fun hgrd=>Qj J J (I_inputsOk t.Inputs g) J)) J ?_;refine Wz [42,46] ?_
 exact Xi J J (Xt [] (by decide) J J (Xf (by rw[hl]; rfl)))
theorem S_TrackOk (t:TTrack) (g:Enc.gd t):Con Tryz.prog 231 [] [ag t] [] (B (trackOk t)):=by
 have hl:=X6 t.Inputs
 refine Con.of Tryz.func231 J Tryz.ntmps231 J (fun E => ?_)
 refine Wz [58,24,21,174,82] ?_;refine zx (Qt.grdT J J J (.hit (.hit .stop)) (fun hgrd=>Qj J J (S_inputsOk t.Inputs g) J)) J ?_;refine Wz [42,46] ?_
 exact Xi J J (Xt [] (by decide) J J (Xf (by rw[hl]; rfl)))
theorem I_TracksOk (xs:List TTrack) (g:Enc.gd xs):Con Tryz.prog 192 [] [al xs] [] (B (tracksOk xs)):=by
 have hl:=X6 xs
 refine Con.of Tryz.func192 J Tryz.ntmps192 J (fun E => ?_)
 refine Wz [129,21,152,0,70] ?_;refine zx (Qt.grdF J J J (.hit .stop) (fun hgrd=>Zh J J J)) J ?_;refine zx (Qt.grdF J J J (.hit (.hit .stop)) (fun hgrd=>Zf J J J J)) J ?_;refine Wz [25] ?_
 refine Q8 J (fun h => ?_) (fun h => ?_)
 ·simp only[Gqo,decide_eq_true_eq] at h
  rw[tracks_no (by omega)]
  refine Wz [35] ?_
  exact Xi J J (Xt [] (by decide) J J J)
 simp only[Gql,decide_eq_false_iff_not] at h
 refine Wz [11,111,104,2,50] ?_;refine Xe (fun m st=>∃ k:Nat,k+m=xs.length∧((xs.take k).all trackOk=true)∧st=(⟨_,[(13,L xs),(14,I (els xs).length),(15,I k)],[]⟩:St)) (xs.length) ⟨_,⟨0,by omega,by simp,J⟩,Xv [] (by kernel_rfl)⟩ ?_
 rintro m_A _ ⟨k,hk_A,hp_A,rfl⟩
 refine Wz [7,12,16] ?_
 refine Q8 J (fun h => ?_) (fun h => ?_)
 ·have h3:k<xs.length:=by have:=Gqc h; omega
  have hat:=X5 h3
  have hc:=I_TrackOk xs[k] (g.2 _ (Gqf h3))
  cases ho:trackOk xs[k] with
  |false =>
   rw[ho] at hc
   rw[tracks_bad (all_no h3 ho)]
   refine Wz [9,7,89,22,49,40] ?_;refine zx (Qj J J (hc) J) J ?_;refine Wz [5,74] ?_
   exact Xi J J (Xt [] (by decide) J J J)
  |true =>
   rw[ho] at hc
   refine Wz [9,7,89,22,49,40] ?_;refine zx (Qj J J (hc) J) J ?_;refine Wz [5,183,60,100,14,0,2] ?_
   exact⟨xs.length-(k+1),by omega,_,⟨k+1,by omega,Xz hp_A h3 ho,J⟩,Xv [] (by kernel_rfl)⟩
 ·have h3:¬((k:Int)<(els xs).length):=Gqg h
  rw[tracks_yes (by omega) (by omega) (Xy hp_A (by omega))]
  refine Wz [94] ?_
  exact Xi J J (Xt [] (by decide) J J J)
theorem S_TracksOk (xs:List TTrack) (g:Enc.gd xs):Con Tryz.prog 181 [] [al xs] [] (B (tracksOk xs)):=by
 have hl:=X6 xs
 have hg1:=g.1
 refine Con.of Tryz.func181 J Tryz.ntmps181 J (fun E => ?_)
 refine Wz [69] ?_;refine Xe (fun m st=>∃ k:Nat,k+m=xs.length∧((xs.take k).all trackOk=true)∧st=(⟨_,[(0,L xs),(3,I k)],[]⟩:St)) (xs.length) ⟨_,⟨0,by omega,by simp,J⟩,Xv [] (by kernel_rfl)⟩ ?_
 rintro m_A _ ⟨k,hk_A,hp_A,rfl⟩
 refine Wz [23,12] ?_
 refine Q8 J (fun h => ?_) (fun h => ?_)
 ·have h3:k<xs.length:=by have:=Gqc h; omega
  have hat:=X5 h3
  have hc:=S_TrackOk xs[k] (g.2 _ (Gqf h3))
  cases ho:trackOk xs[k] with
  |false =>
   rw[ho] at hc
   rw[tracks_bad (all_no h3 ho)]
   refine Wz [9,10,89] ?_;refine zx (Qj J J (hc) J) J ?_;refine Wz [5,74] ?_
   exact Xi J J (Xt [] (by decide) J J J)
  |true =>
   rw[ho] at hc
   refine Wz [9,10,89] ?_;refine zx (Qj J J (hc) J) J ?_;refine Wz [5,57] ?_
   exact⟨xs.length-(k+1),by omega,_,⟨k+1,by omega,Xz hp_A h3 ho,J⟩,Xv [] (by kernel_rfl)⟩
 ·have h3:¬((k:Int)<(els xs).length):=Gqg h
  have hall:=Xy hp_A (by omega)
  refine Wz [68,4,21] ?_;refine zx (Qj J J (Xs (els xs).length 1 4) J) J ?_;refine Wz [46] ?_
  exact Xi J J (Xt [] (by decide) J J (Xf (by
   rw[hl]
   by_cases h4:1≤xs.length∧xs.length≤4
   ·rw[tracks_yes h4.1 h4.2 hall,Yk.2 (by omega)]
   ·rw[tracks_no (by omega),←Gxn,Yk]; omega)))
theorem least_next {l:List TTrack} {k:Nat} (h:k<l.length):((leastK l (k+1):Nat):Int)=min ((leastK l k:Nat):Int) ((els l[k].Inputs).length:Int):=by
 rw[leastK,lenAt_is h,X6]
 omega
theorem I_KnownTicks (xs:List TTrack) (g:Enc.gd xs):Con Tryz.prog 197 [] [al xs] [] (I (knownTicks xs:Nat)):=by
 have hl:=X6 xs
 have hc:=I_TracksOk xs g
 cases ho:tracksOk xs with
 |false =>
  rw[ho] at hc
  rw[show knownTicks xs=0 from if_neg (by rw[ho]; decide)]
  refine Con.of Tryz.func197 J Tryz.ntmps197 J (fun E => ?_)
  refine Wz [129] ?_;refine zx (Qj J J (hc) J) J ?_;refine Wz [5,37] ?_
  exact Xi J J (Xt [] (by decide) J J J)
 | true =>
  rw[ho] at hc
  rw[show knownTicks xs=leastK xs xs.length from if_pos ho]
  obtain⟨h1,h4⟩:=Z7 ho
  have h0:0<xs.length:=by omega
  have hat0:(els xs)[(0:Int).toNat]? = some (Enc.e xs[0]):=X5 h0
  refine Con.of Tryz.func197 J Tryz.ntmps197 J (fun E => ?_)
  refine Wz [129] ?_;refine zx (Qj J J (hc) J) J ?_;refine Wz [53,4,121,169,21,98,104,2,50] ?_;refine Xe (fun m st=>∃ k:Nat,k+m=xs.length∧(True)∧st=(⟨_,[(3,I (leastK xs k:Nat)),(14,L xs),(15,I (els xs).length),(16,I k)],[]⟩:St)) (xs.length) ⟨(fun k:Nat=>(⟨_,[(3,I (leastK xs k:Nat)),(14,L xs),(15,I (els xs).length),(16,I k)],[]⟩:St)) 0,⟨0,by omega,trivial,J⟩,Xw [] (by decide) J (by kernel_rfl) (.cons (Xl (by rw[least_0,lenAt_is h0,X6])) (.c J (.c J (.c J (.nil)))))⟩ ?_
  rintro m_A _ ⟨k,hk_A,hp_A,rfl⟩
  refine Wz [7,12,16] ?_
  refine Q8 J (fun h => ?_) (fun h => ?_)
  ·have h3:k<xs.length:=by have:=Gqc h; omega
   have hat:=X5 h3
   refine Wz [9,7,89,22,49,75,13,21] ?_;refine zx (q_min J J J J) J ?_;refine Wz [96,134,60,100,14,0,2] ?_
   exact⟨xs.length-(k+1),by omega,(fun k:Nat=>(⟨_,[(3,I (leastK xs k:Nat)),(14,L xs),(15,I (els xs).length),(16,I k)],[]⟩:St)) (k+1),⟨k+1,by omega,trivial,J⟩,Xw [] (by decide) J (by kernel_rfl) (.cons (Xl (least_next h3).symm) (.c J (.c J (.c J (.nil)))))⟩
  ·have h3:¬((k:Int)<(els xs).length):=Gqg h
   have hk:k=xs.length:=by omega
   rw[hk]
   refine Wz [43] ?_
   exact Xi J J (Xt [] (by decide) J J J)
theorem S_KnownTicks (xs:List TTrack) (g:Enc.gd xs):Con Tryz.prog 184 [] [al xs] [] (I (knownTicks xs:Nat)):=by
 have hl:=X6 xs
 have hc:=S_TracksOk xs g
 cases ho:tracksOk xs with
 |false =>
  rw[ho] at hc
  rw[show knownTicks xs=0 from if_neg (by rw[ho]; decide)]
  refine Con.of Tryz.func184 J Tryz.ntmps184 J (fun E => ?_)
  refine Wz [129] ?_;refine zx (Qj J J (hc) J) J ?_;refine Wz [5,37] ?_
  exact Xi J J (Xt [] (by decide) J J J)
 | true =>
  rw[ho] at hc
  rw[show knownTicks xs=leastK xs xs.length from if_pos ho]
  obtain⟨h1,h4⟩:=Z7 ho
  have h0:0<xs.length:=by omega
  have hat0:(els xs)[(0:Int).toNat]? = some (Enc.e xs[0]):=X5 h0
  refine Con.of Tryz.func184 J Tryz.ntmps184 J (fun E => ?_)
  refine Wz [129] ?_;refine zx (Qj J J (hc) J) J ?_;refine Wz [53,4,121,169,21,3,39] ?_;refine Xe (fun m__ st=>∃ (k:Nat),xs.length-k=m__∧(1≤k∧k≤xs.length)∧st=(⟨_,[(0,L xs),(3,I (leastK xs k:Nat)),(4,I k)],[]⟩:St)) _ ⟨(fun (k:Nat)=>(⟨_,[(0,L xs),(3,I (leastK xs k:Nat)),(4,I k)],[]⟩:St)) (1),⟨1,J,⟨by omega,by omega⟩,J⟩,Xw [] (by decide) J (by kernel_rfl) (.c J (.cons (Xl (by rw[least_1,lenAt_is h0,X6])) (.c J (.nil))))⟩ ?_
  rintro m_A _ ⟨k,hk_A,hp_A,rfl⟩
  refine Wz [23,12] ?_
  refine Q8 J (fun h => ?_) (fun h => ?_)
  ·have h3:k<xs.length:=by have:=Gqc h; omega
   have hat:=X5 h3
   refine Wz [9,92,0,121,169,21] ?_;refine zx (q_min J J J J) J ?_;refine Wz [56] ?_
   refine⟨_,(by omega),(fun (k:Nat)=>(⟨_,[(0,L xs),(3,I (leastK xs k:Nat)),(4,I k)],[]⟩:St)) (k+1),⟨k+1,J,⟨by omega,by omega⟩,J⟩,Xw [] (by decide) J (by kernel_rfl) (.c J (.cons (Xl (least_next h3).symm) (.c J (.nil))))⟩
  ·have h3:¬((k:Int)<(els xs).length):=Gqg h
   have hk:k=xs.length:=by omega
   rw[hk]
   refine Wz [43] ?_
   exact Xi J J (Xt [] (by decide) J J J)
theorem I_FaultOk (f:TFault) (n:Int) (hn:0≤n):Con Tryz.prog 195 [] [ag f,ai n] [] (B (faultOk f n)):=by
 refine Con.of Tryz.func195 J Tryz.ntmps195 J (fun E => ?_)
 refine Wz [58,24] ?_;refine zx (Qj J J (Xk f.Tick 0 400) J) J ?_;refine Wz [82] ?_;refine zx (Qt.grdT J J J (.hit (.hit .stop)) (fun hgrd=>q_geq J J J J)) J ?_;refine Wz [42,82,261] ?_;refine zx (Qt.grdT J J J (.hit (.hit (.hit .stop))) (fun hgrd=>Zn J J J J)) J ?_;refine Wz [42,82] ?_;refine zx (Qt.grdT J J J (.hit (.hit .stop)) (fun hgrd=>Qj J J (Xk f.Add 0 9) J)) J ?_;refine Wz [42,46] ?_
 exact Xi J J (Xt [] (by decide) J J J)
theorem S_FaultOk (f:TFault) (n:Int) (hn:0≤n) (hn2:n≤9223372036854775807):Con Tryz.prog 182 [] [ag f,ai n] [] (B (faultOk f n)):=by
 refine Con.of Tryz.func182 J Tryz.ntmps182 J (fun E => ?_)
 refine Wz [58,4,212,82] ?_;refine zx (Qt.grdT J J J (.hit (.hit .stop)) (fun hgrd=>Qj J J (Xs f.Tick 0 400) J)) J ?_;refine Wz [42,82,261] ?_;refine zx (Qt.grdT J J J (.hit (.hit (.hit .stop))) (fun hgrd=>Q9 J J J J (by omega))) J ?_;refine zx (Qt.grdT J J J (.hit (.hit (.hit (.hit .stop)))) (fun hgrd=>Qj J J (Xs f.Player 0 (n-1)) J)) J ?_;refine Wz [42,82] ?_;refine zx (Qt.grdT J J J (.hit (.hit .stop)) (fun hgrd=>Qj J J (Xs f.Add 0 9) J)) J ?_;refine Wz [42,46] ?_
 exact Xi J J (Xt [] (by decide) J J (Xf (fault_S f n)))
end
section
open Go.RowKit

theorem at_nat {α:Type} [Enc α] {xs:List α} {i:Int} (h:i.toNat<xs.length):(els xs)[i.toNat]? = some (Enc.e (xs[i.toNat]'h)):=by simp[els,h]
theorem world_ticks {w:TWorld} (h:worldOk w=true):0≤w.Tick∧w.Tick≤100000:=by
 have h2:=(Ka h).2.1
 rwa[Yk] at h2
section
variable {p:TPeer}
theorem no1 (h:(((!tracksOk p.Tracks || !worldOk p.Base) || !worldOk p.Now) || !decide (p.Base.Level=p.Now.Level))=true):¬PeerP p:=fun ⟨⟨q1,q2,q3,q4⟩,_⟩=>by
 rw[q1,q2,q3,Gqb q4] at h; exact absurd h (by decide)
theorem no2 (h:((decide ((p.Base.Scores.length:Int)≠p.Tracks.length) || decide ((p.Now.Scores.length:Int)≠p.Tracks.length)) || !faultOk p.Fault p.Tracks.length)=true):¬PeerP p:=fun ⟨_,⟨q1,q2,q3⟩,_⟩=>by
 rw[q3,Gqa (by omega),Gqa (by omega)] at h; exact absurd h (by decide)
theorem no3 (h:((!inR p.Me 0 ((p.Tracks.length:Int)-1) || !inR p.Delay 0 5) || !inR p.Ahead 1 8)=true):¬PeerP p:=fun ⟨_,_,⟨q1,q2,q3⟩,_⟩=>by
 rw[Yk.2 q1,Yk.2 q2,Yk.2 q3] at h; exact absurd h (by decide)
theorem no4 (h:((!inR p.Seed 0 65535 || !inR p.Rolls 0 1000000) || !inR p.Again 0 1000000)=true):¬PeerP p:=fun ⟨_,_,_,⟨q1,q2,q3⟩,_⟩=>by
 rw[Yk.2 q1,Yk.2 q2,Yk.2 q3] at h; exact absurd h (by decide)
theorem no5 (h:((!inR (p.Now.Tick-p.Base.Tick) 0 p.Ahead || decide ((p.Used.length:Int)≠p.Now.Tick-p.Base.Tick)) || decide ((p.Saves.length:Int)≠p.Now.Tick-p.Base.Tick))=true):¬PeerP p:=fun ⟨_,_,_,_,⟨q1,q2,q3⟩,_⟩=>by
 rw[Yk.2 q1,Gqa (by omega),Gqa (by omega)] at h; exact absurd h (by decide)
theorem fin_eq (h1:tracksOk p.Tracks=true∧worldOk p.Base=true∧worldOk p.Now=true∧p.Base.Level=p.Now.Level)
  (h2:p.Base.Scores.length=p.Tracks.length∧p.Now.Scores.length=p.Tracks.length∧faultOk p.Fault p.Tracks.length=true)
  (h3:(0≤p.Me∧p.Me≤(p.Tracks.length:Int)-1)∧(0≤p.Delay∧p.Delay≤5)∧(1≤p.Ahead∧p.Ahead≤8))
  (h4:(0≤p.Seed∧p.Seed≤65535)∧(0≤p.Rolls∧p.Rolls≤1000000)∧(0≤p.Again∧p.Again≤1000000))
  (h5:(0≤p.Now.Tick-p.Base.Tick∧p.Now.Tick-p.Base.Tick≤p.Ahead)∧(p.Used.length:Int)=p.Now.Tick-p.Base.Tick∧(p.Saves.length:Int)=p.Now.Tick-p.Base.Tick)
  (h6:(p.Used.all fun row=>rowOk row p.Tracks.length)=true∧∀ k (h:k<p.Saves.length),p.Saves[k].Tick=p.Base.Tick+k) :
  ((decide (p.Base.Tick≤(knownTicks p.Tracks:Nat))&&decide (p.Now.Tick≤(lenAt p.Tracks p.Me.toNat:Nat)))&&decide ((p.Sums.length:Int)=p.Base.Tick+1))=peerOk p:=by
 by_cases h7:p.Base.Tick≤knownTicks p.Tracks∧p.Now.Tick≤lenAt p.Tracks p.Me.toNat∧(p.Sums.length:Int)=p.Base.Tick+1
 ·rw[peer_T ⟨h1,h2,h3,h4,h5,h6,h7⟩,Gqb h7.1,Gqb h7.2.1,Gqb h7.2.2]; rfl
 ·rw[peer_F fun ⟨_,_,_,_,_,_,h8⟩=>h7 h8]
  rw[←Gxn]
  simp only[Gqj,decide_eq_true_eq]
  exact fun ⟨⟨a,b⟩,c⟩=>h7 ⟨a,b,c⟩
end
theorem I_PeerOk (x:TPeer) (hg:Enc.gd x):Con Tryz.prog 106 [] [ag x] [] (B (peerOk x)):=by
 obtain⟨gMe,gDe,gAh,gSe,gTr,gBa,gNo,gUs,gSa,gSu,gFa,gRo,gAg⟩:=hg
 have hlt:=X6 x.Tracks
 have hlu:=X6 x.Used
 have hls:=X6 x.Saves
 have hlm:=X6 x.Sums
 have hlb:=X6 x.Base.Scores
 have hln:=X6 x.Now.Scores
 have c1:=I_TracksOk x.Tracks gTr
 have c2:=I_WorldOk x.Base gBa
 have c3:=I_WorldOk x.Now gNo
 have c4:=I_sameLevel x.Base.Level x.Now.Level gBa.1
 have c5:=I_FaultOk x.Fault (els x.Tracks).length (by omega)
 have c6:=I_KnownTicks x.Tracks gTr
 refine Con.of Tryz.func106 J Tryz.ntmps106 J (fun E => ?_)
 refine Wz [58,24,21,3,27] ?_;refine zx (Qj J J (c1) J) J ?_;refine Wz [5,150,197] ?_;refine zx (Qt.grdF J J J (.hit (.hit .stop)) (fun hgrd=>Qj J J (c2) J)) J ?_;refine Wz [77,76,150,197] ?_;refine zx (Qt.grdF J J J (.hit (.hit .stop)) (fun hgrd=>Qj J J (c3) J)) J ?_;refine Wz [77,76,150,163,246,204,247] ?_;refine zx (Qt.grdF J J J (.hit (.hit (.hit (.hit (.hit .stop))))) (fun hgrd=>Qu J J J J J J)) J ?_;refine zx (Qt.grdF J J J (.hit (.hit (.hit (.hit (.hit (.hit .stop)))))) (fun hgrd=>Qj J J (c4) J)) J ?_;refine zx (Qt.grdF J J J (.hit (.hit (.hit (.hit (.hit (.hit (.hit .stop))))))) (fun hgrd=>Q3 J J J)) J ?_;refine Wz [25] ?_
 refine Q8 J (fun h1 => ?_) (fun h1 => ?_)
 ·rw[peer_F (no1 h1)]
  refine Wz [35] ?_
  exact Xi J J (Xt [] (by decide) J J J)
 simp only[Gql,Gqv,decide_eq_true_eq] at h1
 obtain⟨⟨⟨q1,q2⟩,q3⟩,q4⟩:=h1
 have tB:=world_ticks q2
 have tN:=world_ticks q3
 have tL:=Z7 q1
 refine AWP.pre (st':=(⟨_,[(1,.o (.c (.ptr 0 0))),(3,I (els x.Tracks).length)],[.box ((Enc.e x).map (V1.rd []))]⟩:St)) ?_ (Xv [0] (by kernel_rfl))
 refine Wz [11,112,102,13,104,139,150,163,193,199,248,249,76,150,197,145] ?_;refine zx (Qt.grdF J J J (.hit (.hit (.hit .stop))) (fun hgrd=>Qj J J (c5) J)) J ?_;refine Wz [229,25] ?_
 refine Q8 J (fun h2 => ?_) (fun h2 => ?_)
 ·rw[hlt,hlb,hln] at h2
  rw[peer_F (no2 h2)]
  refine Wz [35] ?_
  exact Xi J J (Xt [] (by decide) J J J)
 rw[hlt,hlb,hln] at h2
 simp only[Gql,Gqv,decide_eq_false_iff_not,Classical.not_not] at h2
 obtain⟨⟨q5,q6⟩,q7⟩:=h2
 refine AWP.pre (st':=(⟨_,[(1,.o (.c (.ptr 0 0))),(3,I (els x.Tracks).length)],[.box ((Enc.e x).map (V1.rd []))]⟩:St)) ?_ (Xv [0] (by kernel_rfl))
 refine Wz [11,27,0,97] ?_;refine zx (Qj J J (Xk x.Me 0 (((els x.Tracks).length:Int)-1)) J) J ?_;refine Wz [5,80] ?_;refine zx (Qt.grdF J J J (.hit (.hit .stop)) (fun hgrd=>Qj J J (Xk x.Delay 0 5) J)) J ?_;refine Wz [77,72] ?_;refine zx (Qt.grdF J J J (.hit (.hit .stop)) (fun hgrd=>Qj J J (Xk x.Ahead 1 8) J)) J ?_;refine Wz [77,25] ?_
 refine Q8 J (fun h3 => ?_) (fun h3 => ?_)
 ·rw[hlt] at h3
  rw[peer_F (no3 h3)]
  refine Wz [35] ?_
  exact Xi J J (Xt [] (by decide) J J J)
 rw[hlt] at h3
 simp only[Gql,Gqv,Yk] at h3
 obtain⟨⟨q8,q9⟩,q10⟩:=h3
 refine AWP.pre (st':=(⟨_,[(1,.o (.c (.ptr 0 0))),(3,I (els x.Tracks).length)],[.box ((Enc.e x).map (V1.rd []))]⟩:St)) ?_ (Xv [0] (by kernel_rfl))
 refine Wz [11,27] ?_;refine zx (Qj J J (Xk x.Seed 0 65535) J) J ?_;refine Wz [5,80] ?_;refine zx (Qt.grdF J J J (.hit (.hit .stop)) (fun hgrd=>Qj J J (Xk x.Rolls 0 1000000) J)) J ?_;refine Wz [77,72] ?_;refine zx (Qt.grdF J J J (.hit (.hit .stop)) (fun hgrd=>Qj J J (Xk x.Again 0 1000000) J)) J ?_;refine Wz [77,25] ?_
 refine Q8 J (fun h4 => ?_) (fun h4 => ?_)
 ·rw[peer_F (no4 h4)]
  refine Wz [35] ?_
  exact Xi J J (Xt [] (by decide) J J J)
 simp only[Gql,Gqv,Yk] at h4
 obtain⟨⟨q11,q12⟩,q13⟩:=h4
 refine AWP.pre (st':=(⟨_,[(1,.o (.c (.ptr 0 0))),(3,I (els x.Tracks).length)],[.box ((Enc.e x).map (V1.rd []))]⟩:St)) ?_ (Xv [0] (by kernel_rfl))
 refine Wz [11,7,102,13,102,13,97,98,13] ?_;refine zx (Qj J J (Xk (x.Now.Tick-x.Base.Tick) 0 x.Ahead) J) J ?_;refine Wz [5,80,130,158,143,72,130,158,143,25] ?_
 refine Q8 J (fun h5 => ?_) (fun h5 => ?_)
 ·rw[hlu,hls] at h5
  rw[peer_F (no5 h5)]
  refine Wz [35] ?_
  exact Xi J J (Xt [] (by decide) J J J)
 rw[hlu,hls] at h5
 simp only[Gql,Gqv,decide_eq_false_iff_not,Classical.not_not,Yk] at h5
 obtain⟨⟨q14,q15⟩,q16⟩:=h5
 refine AWP.pre (st':=(⟨_,[(1,.o (.c (.ptr 0 0))),(3,I (els x.Tracks).length)],[.box ((Enc.e x).map (V1.rd []))]⟩:St)) ?_ (Xv [0] (by kernel_rfl))
 refine Wz [11,27,104,2,50] ?_;refine Xe (fun m st=>∃ k:Nat,k+m=x.Used.length∧((x.Used.take k).all (fun row=>rowOk row x.Tracks.length)=true)∧st=(⟨_,[(1,.o (.c (.ptr 0 0))),(3,I (els x.Tracks).length),(120,L x.Used),(121,I (els x.Used).length),(122,I k)],[.box ((Enc.e x).map (V1.rd []))]⟩:St)) (x.Used.length) ⟨_,⟨0,by omega,by simp,J⟩,Xv [0] (by kernel_rfl)⟩ ?_
 rintro m_A _ ⟨k,hk_A,hp_A,rfl⟩
 refine Wz [7,12,16] ?_
 refine Q8 J (fun h => ?_) (fun h => ?_)
 ·have h3:k<x.Used.length:=by have:=Gqc h; omega
  have hat:=X5 h3
  have hc:=I_rowOk x.Used[k] (els x.Tracks).length (gUs.2 _ (Gqf h3))
  rw[hlt] at hc
  cases ho:rowOk x.Used[k] x.Tracks.length with
  |false =>
   rw[ho,←hlt] at hc
   rw[peer_F (fun hp=>by have:=hp.2.2.2.2.2.1.1; rw[all_no h3 ho] at this; cases this)]
   refine Wz [9,7,84,3,10] ?_;refine zx (Qj J J (hc) J) J ?_;refine Wz [5,74] ?_
   exact Xi J J (Xt [] (by decide) J J J)
  |true =>
   rw[ho,←hlt] at hc
   refine Wz [9,7,84,3,10] ?_;refine zx (Qj J J (hc) J) J ?_;refine Wz [5,183,60,100,14,0,2] ?_
   exact⟨x.Used.length-(k+1),by omega,_,⟨k+1,by omega,Xz hp_A h3 ho,J⟩,Xv [0] (by kernel_rfl)⟩
 have h3:¬((k:Int)<(els x.Used).length):=Gqg h
 have hall:=Xy hp_A (by omega)
 refine Wz [68,27,104,2,50] ?_;refine Xe (fun m st=>∃ j:Nat,j+m=x.Saves.length∧((∀ i (h:i<x.Saves.length),i<j→x.Saves[i].Tick=x.Base.Tick+i))∧st=(⟨_,[(1,.o (.c (.ptr 0 0))),(3,I (els x.Tracks).length),(132,L x.Saves),(133,I (els x.Saves).length),(134,I j)],[.box ((Enc.e x).map (V1.rd []))]⟩:St)) (x.Saves.length) ⟨_,⟨0,by omega,fun i _ hi=>absurd hi (Nat.not_lt_zero _),J⟩,Xv [0] (by kernel_rfl)⟩ ?_
 rintro m_D _ ⟨j,hk_D,hp_D,rfl⟩
 refine Wz [7,12,16] ?_
 refine Q8 J (fun h => ?_) (fun h => ?_)
 ·have h4:j<x.Saves.length:=by have:=Gqc h; omega
  have hat:=X5 h4
  by_cases ho:x.Saves[j].Tick=x.Base.Tick+j
  ·have hb:decide (x.Saves[j].Tick≠x.Base.Tick+j)=false:=Gqa (fun h=>h ho)
   refine Wz [9,4,89,22,96,49,24,102,13,0,14,62,183,60,100,14,0,2] ?_
   exact⟨x.Saves.length-(j+1),by omega,_,⟨j+1,by omega,fun i hi hij=>by by_cases e:i=j; subst e; exact ho; exact hp_D i hi (by omega),J⟩,Xv [0] (by kernel_rfl)⟩
  ·have hb:decide (x.Saves[j].Tick≠x.Base.Tick+j)=true:=Gqb ho
   rw[peer_F (fun hp=>ho (hp.2.2.2.2.2.1.2 j h4))]
   refine Wz [9,4,89,22,96,49,24,102,13,0,14,62,74] ?_
   exact Xi J J (Xt [] (by decide) J J J)
 have h4:¬((j:Int)<(els x.Saves).length):=Gqg h
 have hme:x.Me.toNat<x.Tracks.length:=by omega
 have hat:=at_nat (xs:=x.Tracks) hme
 have hti:=X6 x.Tracks[x.Me.toNat].Inputs
 have hla:=lenAt_is hme
 rw[←fin_eq ⟨q1,q2,q3,q4⟩ ⟨by omega,by omega,q7⟩ ⟨q8,q9,q10⟩ ⟨q11,q12,q13⟩ ⟨q14,q15,q16⟩ ⟨hall,fun i hi=>hp_D i hi (by omega)⟩,←hlm]
 by_cases k1:x.Base.Tick≤(knownTicks x.Tracks:Nat)
 ·have hb1:decide (x.Base.Tick≤((knownTicks x.Tracks:Nat):Int))=true:=Gqb k1
  by_cases k2:x.Now.Tick≤(lenAt x.Tracks x.Me.toNat:Nat)
  ·have hb2:decide (x.Now.Tick≤((els x.Tracks[x.Me.toNat].Inputs).length:Int))=true:=Gqb (by omega)
   rw[hb1,Gqb k2]
   refine Wz [68,16,250,205,32,32] ?_;refine DR.s (Qj J J (c6) J) J J ?_;refine Wz [206,8,17,17,127,164,135,186,187,17,230,126,8,17,186,187,17,231] ?_;refine DR.s (Qt.yes J J J (Za J J J J)) J J ?_;refine Wz [126,207,30,2,116,117] ?_
   exact Xi J J (Xt [] (by decide) J J J)
  ·have hb2:decide (x.Now.Tick≤((els x.Tracks[x.Me.toNat].Inputs).length:Int))=false:=Gqa (by omega)
   rw[hb1,Gqa k2]
   refine Wz [68,16,250,205,32,32] ?_;refine DR.s (Qj J J (c6) J) J J ?_;refine Wz [206,8,17,17,127,164,135,186,187,17,230,126,8,52,52,71,207,30,2,116,117] ?_
   exact Xi J J (Xt [] (by decide) J J J)
 ·have hb1:decide (x.Base.Tick≤((knownTicks x.Tracks:Nat):Int))=false:=Gqa k1
  rw[hb1]
  refine Wz [68,16,250,205,32,32] ?_;refine DR.s (Qj J J (c6) J) J J ?_;refine Wz [206,8,52,52,52,71,8,52,52,71,207,30,2,116,117] ?_
  exact Xi J J (Xt [] (by decide) J J J)
end
end Go.Proofs.YtoecjaohdnoenaaGreat
