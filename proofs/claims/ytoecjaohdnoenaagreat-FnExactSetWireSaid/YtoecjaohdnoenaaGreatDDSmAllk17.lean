/-
  Rules, data and contracts of functions: part 18 of the proof.
  Conditions: those that each theorem names.
-/
import Derived.Test.YtoecjaohdnoenaaGreatDDSmAllk16
set_option linter.unusedSimpArgs false
set_option linter.unusedVariables false
set_option maxRecDepth 8000
set_option maxHeartbeats 8000000
namespace Go.Proofs.YtoecjaohdnoenaaGreat
section
open Go.RowKit

inductive Den1:V1→V1→Prop
 |same (x:V1):Den1 x x
 |nil (qs:List Nat) (k:Nat):Den1 (.rd qs (.v (.slice none 0 0))) (.rd qs (.sl k []))
inductive DenL:List V1→List V1→Prop
 |nil:DenL [] []
 |cons {x y:V1} {xs ys:List V1} (h:Den1 x y) (t:DenL xs ys):DenL (x::xs) (y::ys)
inductive Den2:V2→V2→Prop
 |same (x:V2):Den2 x x
 |ag {xs ys:List V1} (h:DenL xs ys):Den2 (.ag xs) (.ag ys)
inductive DenA:List V2→List V2→Prop
 |nil:DenA [] []
 |cons {x y:V2} {xs ys:List V2} (h:Den2 x y) (t:DenA xs ys):DenA (x::xs) (y::ys)
section
variable {w:World} {H:Hs} {F:Nat→Prop}
theorem Den1.r {x y:V1} (h:Den1 x y) {v:Value} (hx:R1 w H F x v):R1 w H F y v:=by
 cases h with
 |same=>exact hx
 |nil qs k=>obtain⟨rfl,_⟩:=RO.plain hx; exact .nil _ _ _ (by simp)
theorem DenL.r:∀ {xs ys:List V1},DenL xs ys→xs.length=ys.length∧∀ (i:Nat) (y:V1),ys[i]? = some y→∃ x,xs[i]? = some x∧Den1 x y
 |_,_,.nil=>⟨rfl,fun i y h=>by simp at h⟩
 |_,_,.cons (x:=x) h t=>by
  obtain⟨h1,h2⟩:=DenL.r t
  refine⟨by simp[h1],fun i y hy => ?_⟩
  cases i with
  |zero=>simp at hy; subst hy; exact⟨x,rfl,h⟩
  |succ i=>simpa using h2 i y (by simpa using hy)
theorem Den2.r {x y:V2} (h:Den2 x y) {v:Value} (hx:R2 w H F x v):R2 w H F y v:=by
 cases h with
 |same=>exact hx
 |ag h =>
  obtain⟨h1,h2⟩:=h.r
  obtain⟨us,e,hl,hr⟩:=hx
  refine⟨us,e,by omega,fun i y u h3 h4 => ?_⟩
  obtain⟨x,h5,h6⟩:=h2 i y h3
  exact h6.r (hr i x u h5 h4)
theorem DenA.r:∀ {xs ys:List V2},DenA xs ys→xs.length=ys.length∧∀ (i:Nat) (y:V2),ys[i]? = some y→∃ x,xs[i]? = some x∧Den2 x y
 |_,_,.nil=>⟨rfl,fun i y h=>by simp at h⟩
 |_,_,.cons (x:=x) h t=>by
  obtain⟨h1,h2⟩:=DenA.r t
  refine⟨by simp[h1],fun i y hy => ?_⟩
  cases i with
  |zero=>simp at hy; subst hy; exact⟨x,rfl,h⟩
  |succ i=>simpa using h2 i y (by simpa using hy)
end
theorem I_copyLevel (x:TLevel) (hg:Enc.gd x) (hL:x.Rows.length≤1048576):Con Tryz.prog 65 [] [ag x] [.row 1 (els x.Rows)] (.o (.ag [.ref 0])):=by
 have hlx:=X6 x.Rows
 have hg1:=hg.1
 refine Con.of Tryz.func65 J Tryz.ntmps65 J (fun E => ?_)
 refine Wz [101,60,35] ?_;refine M_appnil J J J J J J J J (X7 _) (X5 _) (by omega) (by omega) ?_;refine Wz [224,22,68] ?_
 exact Xh J J J J (Xt [2] (by decide) J J J)
theorem S_copyLevel (x:TLevel) (hg:Enc.gd x) (hL:x.Rows.length≤1048576):Con Tryz.prog 56 [] [ag x] [.row 1 (els x.Rows)] (.o (.ag [.ref 0])):=by
 have hlx:=X6 x.Rows
 have hg1:=hg.1
 have h00:([]:List (List T)).length=0:=rfl
 refine Con.of Tryz.func56 J Tryz.ntmps56 J (fun E => ?_)
 refine Wz [101,60,4,173,14] ?_;refine M_app J J J J J J J J J J (X7 _) (X5 _) (by omega) (by omega) ?_;refine Wz [224,22,68] ?_
 exact Xh J J J J (Xt [2] (by decide) J J J)
end
section
open Go.RowKit

theorem rowsM_size {rows:List ByteArray} {w:Nat}:∀ n s,rowsM rows w n=some s→∀ r,r<n→∃ row,rows[r]? = some row∧row.size=w
 |0,s,_=>fun r hr=>by omega
 | n+1,s,h=>fun r hr=>by
  rw[rowsM] at h
  split at h
  ·cases h
  ·rename_i s1 h1
   split at h
   ·cases h
   ·rename_i row hrow
    split at h
    ·rename_i hw
     by_cases e:r=n
     ·subst e; exact⟨row,hrow,hw⟩
     ·exact rowsM_size n s1 h1 r (by omega)
    ·cases h
theorem level_facts {l:TLevel} (h:levelOk l=true):3≤l.Rows.length∧l.Rows.length≤12∧∃ w,4≤w∧w≤20∧∀ (r:Nat) (hr:r<l.Rows.length),(l.Rows[r]).size=w:=by
 unfold levelOk at h
 simp only[Gqk,decide_eq_true_eq] at h
 obtain⟨⟨⟨⟨h1,h2⟩,h3⟩,h4⟩,h5⟩:=h
 refine⟨h1,h2,widthM l.Rows,h3,h4,fun r hr => ?_⟩
 split at h5
 ·rename_i s hs
  obtain⟨row,h6,h7⟩:=rowsM_size _ s hs r hr
  rw[Gqg hr] at h6
  simp only[Option.some.injEq] at h6
  rw[h6]; exact h7
 ·cases h5
def sizeOf (k:Int):Int:=if k=0 then 12 else if k=1 then 4 else if k=2 then 8 else 0
theorem I_SizeOf (k:Int):Con Tryz.prog 271 [] [ai k] [] (I (sizeOf k)):=by
 by_cases h0:k=0
 ·have hb:decide (k=0)=true:=Gqb h0
  rw[show sizeOf k=12 by rw[sizeOf,if_pos h0]]
  refine Con.of Tryz.func271 J Tryz.ntmps271 J (fun E => ?_)
  refine Wz [142,80,4,70,7,120,61,162,107] ?_
  exact Xi J J (Xt [] (by decide) J J J)
 have hb0:decide (k=0)=false:=Gqa h0
 by_cases h1:k=1
 ·have hb:decide (k=1)=true:=Gqb h1
  rw[show sizeOf k=4 by rw[sizeOf,if_neg h0,if_pos h1]]
  refine Con.of Tryz.func271 J Tryz.ntmps271 J (fun E => ?_)
  refine Wz [142,80,4,70,100,4,70,7,120,61,162,107] ?_
  exact Xi J J (Xt [] (by decide) J J J)
 have hb1:decide (k=1)=false:=Gqa h1
 by_cases h2:k=2
 ·have hb:decide (k=2)=true:=Gqb h2
  rw[show sizeOf k=8 by rw[sizeOf,if_neg h0,if_neg h1,if_pos h2]]
  refine Con.of Tryz.func271 J Tryz.ntmps271 J (fun E => ?_)
  refine Wz [142,80,4,70,100,4,70,100,4,70,7,120,61,162,107] ?_
  exact Xi J J (Xt [] (by decide) J J J)
 have hb2:decide (k=2)=false:=Gqa h2
 rw[show sizeOf k=0 by rw[sizeOf,if_neg h0,if_neg h1,if_neg h2]]
 refine Con.of Tryz.func271 J Tryz.ntmps271 J (fun E => ?_)
 refine Wz [142,80,4,70,100,4,70,100,4,70,100,113,155,47] ?_
 exact Xi J J (Xt [] (by decide) J J J)
theorem S_SizeOf (k:Int):Con Tryz.prog 264 [] [ai k] [] (I (sizeOf k)):=by
 by_cases h0:k=0
 ·have hb:decide (k=0)=true:=Gqb h0
  rw[show sizeOf k=12 by rw[sizeOf,if_pos h0]]
  refine Con.of Tryz.func264 J Tryz.ntmps264 J (fun E => ?_)
  refine Wz [142,80,4,70,7,120,61,162,107] ?_
  exact Xi J J (Xt [] (by decide) J J J)
 have hb0:decide (k=0)=false:=Gqa h0
 by_cases h1:k=1
 ·have hb:decide (k=1)=true:=Gqb h1
  rw[show sizeOf k=4 by rw[sizeOf,if_neg h0,if_pos h1]]
  refine Con.of Tryz.func264 J Tryz.ntmps264 J (fun E => ?_)
  refine Wz [142,80,4,70,100,4,70,7,120,61,162,107] ?_
  exact Xi J J (Xt [] (by decide) J J J)
 have hb1:decide (k=1)=false:=Gqa h1
 by_cases h2:k=2
 ·have hb:decide (k=2)=true:=Gqb h2
  rw[show sizeOf k=8 by rw[sizeOf,if_neg h0,if_neg h1,if_pos h2]]
  refine Con.of Tryz.func264 J Tryz.ntmps264 J (fun E => ?_)
  refine Wz [142,80,4,70,100,4,70,100,4,70,7,120,61,162,107] ?_
  exact Xi J J (Xt [] (by decide) J J J)
 have hb2:decide (k=2)=false:=Gqa h2
 rw[show sizeOf k=0 by rw[sizeOf,if_neg h0,if_neg h1,if_neg h2]]
 refine Con.of Tryz.func264 J Tryz.ntmps264 J (fun E => ?_)
 refine Wz [142,80,4,70,100,4,70,100,4,70,100,113,155,47] ?_
 exact Xi J J (Xt [] (by decide) J J J)
def wallAt (l:TLevel) (r c:Int):Prop:=∀ (q:Nat) (hq:q<l.Rows.length),r=q→0≤c→c<(l.Rows[q]).size→byteAt (l.Rows[q]) c.toNat=35
def hits (l:TLevel) (x y s:Int):Prop:=∃ r c:Int,y/16≤r∧r≤(y+s-1)/16∧x/16≤c∧c≤(x+s-1)/16∧wallAt l r c
noncomputable def solidM (l:TLevel) (x y s:Int):Bool:=@decide (hits l x y s) (Classical.propDecidable _)
theorem solidM_T {l:TLevel} {x y s:Int} (h:hits l x y s):solidM l x y s=true:=@decide_eq_true _ (Classical.propDecidable _) h
theorem solidM_F {l:TLevel} {x y s:Int} (h:¬hits l x y s):solidM l x y s=false:=@decide_eq_false _ (Classical.propDecidable _) h
theorem wall_tile {l:TLevel} {r c:Nat} (hr:r<l.Rows.length) (h:byteAt (l.Rows[r]) c=35):wallAt l r c:=fun q hq e h0 h1=>by
 have:q=r:=by omega
 subst this
 exact h
theorem no_wall {l:TLevel} {r c:Nat} (hr:r<l.Rows.length) (hc:c<(l.Rows[r]).size) (h:byteAt (l.Rows[r]) c≠35):¬wallAt l r c:=fun hw=>h (hw r hr rfl (by omega) (by omega))
theorem out_hits {l:TLevel} {x y s:Int} {w:Nat} (hw:∀ (r:Nat) (hr:r<l.Rows.length),(l.Rows[r]).size=w) (h1:1≤s) (h:x<0∨y<0∨(w:Int)*16-s<x∨(l.Rows.length:Int)*16-s<y):hits l x y s:=by
 by_cases hx:x<0
 ·exact⟨y/16,x/16,by omega,by omega,by omega,by omega,fun q hq e h0 h1=>by omega⟩
 by_cases hy:y<0
 ·exact⟨y/16,x/16,by omega,by omega,by omega,by omega,fun q hq e h0 h1=>by omega⟩
 by_cases hx2:(w:Int)*16-s<x
 ·exact⟨y/16,(x+s-1)/16,by omega,by omega,by omega,by omega,fun q hq e h0 h1=>by have:=hw q hq; omega⟩
 ·exact⟨(y+s-1)/16,x/16,by omega,by omega,by omega,by omega,fun q hq e h0 h1=>by omega⟩
def freeR (l:TLevel) (x s:Int) (a b:Int):Prop:=∀ r c:Int,a≤r→r<b→x/16≤c→c≤(x+s-1)/16→¬wallAt l r c
def freeC (l:TLevel) (r:Int) (a b:Int):Prop:=∀ c:Int,a≤c→c<b→¬wallAt l r c
theorem free_all {l:TLevel} {x y s b:Int} (h:freeR l x s (y/16) b) (hb:(y+s-1)/16<b):¬hits l x y s:=fun ⟨r,c,h1,h2,h3,h4,h5⟩=>h r c h1 (by omega) h3 h4 h5
theorem free_row {l:TLevel} {x s a b e:Int} (h:freeR l x s a b) (hc:freeC l b (x/16) e) (he:(x+s-1)/16<e):freeR l x s a (b+1):=fun r c h1 h2 h3 h4=>by
 by_cases hr:r<b
 ·exact h r c h1 hr h3 h4
 ·have:r=b:=by omega
  subst this
  exact hc c h3 (by omega)
theorem free_col {l:TLevel} {r a b:Int} (h:freeC l r a b) (hn:¬wallAt l r b):freeC l r a (b+1):=fun c h1 h2=>by
 by_cases hc:c<b
 ·exact h c h1 hc
 ·have:c=b:=by omega
  subst this
  exact hn
theorem I_solid (l:TLevel) (x y s:Int) (hl:levelOk l=true) (hx:I64 x) (hy:I64 y) (h1:1≤s) (h16:s≤16):Con Tryz.prog 299 [] [ag l,ai x,ai y,ai s] [] (B (solidM l x y s)):=by
 obtain⟨hx1,hx2⟩:=hx
 obtain⟨hy1,hy2⟩:=hy
 obtain⟨f3,f12,w,w4,w20,hw⟩:=level_facts hl
 have hlx:=X6 l.Rows
 have h0:0<l.Rows.length:=by omega
 have hat0:(els l.Rows)[(0:Int).toNat]? = some (Enc.e l.Rows[0]):=X4 h0
 have hw0:=hw 0 h0
 refine Con.of Tryz.func299 J Tryz.ntmps299 J (fun E => ?_)
 refine Wz [19,35,93,146] ?_;refine zx (q_mul J J J J (by omega)) J ?_;refine Wz [7,35,3] ?_;refine zx (q_mul J J J J (by omega)) J ?_;refine Wz [112,161,0,108] ?_;refine zx (Qt.grdF J J J (.hit .stop) (fun hgrd=>Zm J J J J)) J ?_;refine Wz [91,0,108,199,140] ?_;refine zx (Qt.grdF J J J (.hit (.hit (.hit .stop))) (fun hgrd=>Q9 J J J J (by omega))) J ?_;refine zx (Qt.grdF J J J (.hit (.hit (.hit (.hit .stop)))) (fun hgrd=>q_gtr J J J J)) J ?_;refine Wz [91,0,108,199,140] ?_;refine zx (Qt.grdF J J J (.hit (.hit (.hit .stop))) (fun hgrd=>Q9 J J J J (by omega))) J ?_;refine zx (Qt.grdF J J J (.hit (.hit (.hit (.hit .stop)))) (fun hgrd=>q_gtr J J J J)) J ?_;refine Wz [44] ?_
 refine Q8 J (fun h => ?_) (fun h => ?_)
 ·simp only[Gqq,decide_eq_true_eq] at h
  rw[solidM_T (out_hits hw h1 (by omega))]
  refine Wz [38] ?_
  exact Xi J J (Xt [] (by decide) J J J)
 simp only[Gql,decide_eq_false_iff_not] at h
 refine Wz [13,63,170,225] ?_;refine Xe (fun m__ st=>∃ (r:Nat),((y+s-1)/16+1).toNat-r=m__∧(y/16≤r∧(r:Int)≤(y+s-1)/16+1∧freeR l x s (y/16) r)∧st=(⟨_,[(1,I x),(2,I y),(3,I s),(4,.o (.c (.ptr 0 0))),(11,I r)],[.box ((Enc.e l).map (V1.rd []))]⟩:St)) _ ⟨(fun (r:Nat)=>(⟨_,[(1,I x),(2,I y),(3,I s),(4,.o (.c (.ptr 0 0))),(11,I r)],[.box ((Enc.e l).map (V1.rd []))]⟩:St)) ((y/16).toNat),⟨(y/16).toNat,J,⟨by omega,by omega,fun r c h1 h2=>by omega⟩,J⟩,Xv [0] (by decide) J (by kernel_rfl) (.c J (.c J (.c J (.c J (.cons (Xk (by omega)) (.nil))))))⟩ ?_
 rintro m_A _ ⟨r,hk_A,hp_A,rfl⟩
 obtain⟨hr1,hr2,hfr⟩:=hp_A
 refine Wz [33,0,36,103,170,178,1] ?_
 refine Q8 J (fun h5 => ?_) (fun h5 => ?_)
 ·have h5:=Gqc h5
  have hrl:r<l.Rows.length:=by omega
  have hat:=X4 hrl
  have hwr:=hw r hrl
  refine Wz [5,8,170,225] ?_;refine Xe (fun m__ st=>∃ (c:Nat),((x+s-1)/16+1).toNat-c=m__∧(x/16≤c∧(c:Int)≤(x+s-1)/16+1∧freeC l r (x/16) c)∧st=(⟨_,[(1,I x),(2,I y),(3,I s),(4,.o (.c (.ptr 0 0))),(11,I r),(12,I c)],[.box ((Enc.e l).map (V1.rd []))]⟩:St)) _ ⟨(fun (c:Nat)=>(⟨_,[(1,I x),(2,I y),(3,I s),(4,.o (.c (.ptr 0 0))),(11,I r),(12,I c)],[.box ((Enc.e l).map (V1.rd []))]⟩:St)) ((x/16).toNat),⟨(x/16).toNat,J,⟨by omega,by omega,fun c h1 h2=>by omega⟩,J⟩,Xv [0] (by decide) J (by kernel_rfl) (.c J (.c J (.c J (.c J (.c J (.cons (Xk (by omega)) (.nil)))))))⟩ ?_
  rintro m_B _ ⟨c,hk_B,hp_B,rfl⟩
  obtain⟨hc1,hc2,hfc⟩:=hp_B
  refine Wz [33,0,36,103,170,178,1] ?_
  refine Q8 J (fun h6 => ?_) (fun h6 => ?_)
  ·have h6:=Gqc h6
   refine Wz [5,54,129,104] ?_;refine zx (q_byte J J J J (by omega)) J ?_;refine Wz [172,1] ?_
   refine Q8 J (fun h7 => ?_) (fun h7 => ?_)
   ·have h7:=Gqc h7
    rw[solidM_T ⟨(r:Int),(c:Int),hr1,by omega,hc1,by omega,wall_tile hrl h7⟩]
    refine Wz [61,160,122] ?_
    exact Xi J J (Xt [] (by decide) J J J)
   ·have h7:=Gqe h7
    refine Wz [49] ?_
    refine⟨_,(by omega),_,⟨c+1,J,⟨by omega,by omega,free_col hfc (no_wall hrl (by omega) h7)⟩,J⟩,Xu [0] (by kernel_rfl)⟩
  ·have h6:=Gqe h6
   refine Wz [182,200] ?_
   refine⟨_,(by omega),_,⟨r+1,J,⟨by omega,by omega,free_row hfr hfc (by omega)⟩,J⟩,Xu [0] (by kernel_rfl)⟩
 ·have h5:=Gqe h5
  rw[solidM_F (free_all hfr (by omega))]
  refine Wz [20,47] ?_
  exact Xi J J (Xt [] (by decide) J J J)
theorem S_l02Solid (l:TLevel) (x y s:Int) (hl:levelOk l=true) (hx:I64 x) (hy:I64 y) (h1:1≤s) (h16:s≤16):Con Tryz.prog 263 [] [ag l,ai x,ai y,ai s] [] (B (solidM l x y s)):=by
 obtain⟨hx1,hx2⟩:=hx
 obtain⟨hy1,hy2⟩:=hy
 obtain⟨f3,f12,w,w4,w20,hw⟩:=level_facts hl
 have hlx:=X6 l.Rows
 refine Con.of Tryz.func263 J Tryz.ntmps263 J (fun E => ?_)
 refine Wz [101,112] ?_;refine zx (Qj J J (Xs x 0 1000) J) J ?_;refine Wz [10,0,108] ?_;refine zx (Qt.grdF J J J (.hit .stop) (fun hgrd=>Qj J J (Xs y 0 1000) J)) J ?_;refine Wz [152,44] ?_
 refine Q8 J (fun h => ?_) (fun h => ?_)
 ·have h:¬(0≤x∧x≤1000)∨¬(0≤y∧y≤1000):=by
   rw[←Yk,←Yk]
   simpa using h
  rw[solidM_T (out_hits hw h1 (by omega))]
  refine Wz [38] ?_
  exact Xi J J (Xt [] (by decide) J J J)
 have h:(0≤x∧x≤1000)∧(0≤y∧y≤1000):=by
  rw[←Yk,←Yk]
  simpa using h
 refine Wz [13,63,170,225] ?_;refine Xe (fun m__ st=>∃ (r:Nat),((y+s-1)/16+1).toNat-r=m__∧(y/16≤r∧(r:Int)≤(y+s-1)/16+1∧freeR l x s (y/16) r)∧st=(⟨_,[(1,I x),(2,I y),(3,I s),(4,.o (.c (.ptr 0 0))),(9,I r)],[.box ((Enc.e l).map (V1.rd []))]⟩:St)) _ ⟨(fun (r:Nat)=>(⟨_,[(1,I x),(2,I y),(3,I s),(4,.o (.c (.ptr 0 0))),(9,I r)],[.box ((Enc.e l).map (V1.rd []))]⟩:St)) ((y/16).toNat),⟨(y/16).toNat,J,⟨by omega,by omega,fun r c h1 h2=>by omega⟩,J⟩,Xv [0] (by decide) J (by kernel_rfl) (.c J (.c J (.c J (.c J (.cons (Xk (by omega)) (.nil))))))⟩ ?_
 rintro m_A _ ⟨r,hk_A,hp_A,rfl⟩
 obtain⟨hr1,hr2,hfr⟩:=hp_A
 refine Wz [33,0,36,103,170,178,1] ?_
 refine Q8 J (fun h5 => ?_) (fun h5 => ?_)
 ·have h5:=Gqc h5
  refine Wz [5,8,170,225] ?_;refine Xe (fun m__ st=>∃ (c:Nat),((x+s-1)/16+1).toNat-c=m__∧(x/16≤c∧(c:Int)≤(x+s-1)/16+1∧freeC l r (x/16) c)∧st=(⟨_,[(1,I x),(2,I y),(3,I s),(4,.o (.c (.ptr 0 0))),(9,I r),(10,I c)],[.box ((Enc.e l).map (V1.rd []))]⟩:St)) _ ⟨(fun (c:Nat)=>(⟨_,[(1,I x),(2,I y),(3,I s),(4,.o (.c (.ptr 0 0))),(9,I r),(10,I c)],[.box ((Enc.e l).map (V1.rd []))]⟩:St)) ((x/16).toNat),⟨(x/16).toNat,J,⟨by omega,by omega,fun c h1 h2=>by omega⟩,J⟩,Xv [0] (by decide) J (by kernel_rfl) (.c J (.c J (.c J (.c J (.c J (.cons (Xk (by omega)) (.nil)))))))⟩ ?_
  rintro m_B _ ⟨c,hk_B,hp_B,rfl⟩
  obtain⟨hc1,hc2,hfc⟩:=hp_B
  refine Wz [33,0,36,103,170,178,1] ?_
  refine Q8 J (fun h6 => ?_) (fun h6 => ?_)
  ·have h6:=Gqc h6
   by_cases hrl:r<l.Rows.length
   ·have hat:=X4 hrl
    have hb:decide (((els l.Rows).length:Int)≤r)=false:=Gqa (by omega)
    by_cases hcl:c<(l.Rows[r]).size
    ·have hb2:decide (((l.Rows[r]).size:Int)≤c)=false:=Gqa (by omega)
     by_cases h7:byteAt (l.Rows[r]) c=35
     ·have hb3:decide (byteAt (l.Rows[r]) (c:Int).toNat=35)=true:=Gqb h7
      rw[solidM_T ⟨(r:Int),(c:Int),hr1,by omega,hc1,by omega,wall_tile hrl h7⟩]
      refine Wz [5,8,14,3,163,55,66,2,117,2,62,129,2,174,2,146,2,163,37,62,66,2,117,2,62,129,2,174,2,62,243,2] ?_;refine zx (Qv (b:=true) J J J J (by decide)) J ?_;refine Wz [37,42,61,160,122] ?_
      exact Xi J J (Xt [] (by decide) J J J)
     ·have hb3:decide (byteAt (l.Rows[r]) (c:Int).toNat=35)=false:=Gqa h7
      refine Wz [5,8,14,3,163,55,66,2,117,2,62,129,2,174,2,146,2,163,37,62,66,2,117,2,62,129,2,174,2,62] ?_;refine zx (q_byte J J J J (by omega)) J ?_;refine Wz [2,70,37,88,49] ?_
      refine⟨_,(by omega),_,⟨c+1,J,⟨by omega,by omega,free_col hfc (no_wall hrl hcl h7)⟩,J⟩,Xu [0] (by kernel_rfl)⟩
    ·have hb2:decide (((l.Rows[r]).size:Int)≤c)=true:=Gqb (by omega)
     rw[solidM_T ⟨(r:Int),(c:Int),hr1,by omega,hc1,by omega,fun q hq e g0 g1=>by have:q=r:=(by omega); subst this; omega⟩]
     refine Wz [5,8,14,3,163,55,66,2,117,2,62,129,2,174,2,146,2,163,37,0,46,46,46,46,67,42,61,160,122] ?_
     exact Xi J J (Xt [] (by decide) J J J)
   ·have hb:decide (((els l.Rows).length:Int)≤r)=true:=Gqb (by omega)
    rw[solidM_T ⟨(r:Int),(c:Int),hr1,by omega,hc1,by omega,fun q hq e g0 g1=>by omega⟩]
    refine Wz [5,8,14,3,163,0,46,46,46,46,67,0,46,46,46,46,67,42,61,160,122] ?_
    exact Xi J J (Xt [] (by decide) J J J)
  ·have h6:=Gqe h6
   refine Wz [182,200] ?_
   refine⟨_,(by omega),_,⟨r+1,J,⟨by omega,by omega,free_row hfr hfc (by omega)⟩,J⟩,Xu [0] (by kernel_rfl)⟩
 ·have h5:=Gqe h5
  rw[solidM_F (free_all hfr (by omega))]
  refine Wz [20,47] ?_
  exact Xi J J (Xt [] (by decide) J J J)
noncomputable def solidAt (l:TLevel) (x y s:Int):Bool:=(!inR s 1 16 || !levelOk l) || solidM l x y s
theorem I_SolidAt (l:TLevel) (x y s:Int) (hg:Enc.gd l) (hx:I64 x) (hy:I64 y):Con Tryz.prog 270 [] [ag l,ai x,ai y,ai s] [] (B (solidAt l x y s)):=by
 have hc:=I_LevelOk l hg
 by_cases hs:¬(1≤s∧s≤16)
 ·have hf:inR s 1 16=false:=by rw[←Gxl,Yk]; exact hs
  rw[show solidAt l x y s=true by rw[solidAt,hf]; rfl]
  refine Con.of Tryz.func270 J Tryz.ntmps270 J (fun E => ?_)
  refine Wz [101,112,161,0,108,242,91,0,175] ?_;refine zx (Qt.grdF J J J (.hit .stop) (fun hgrd=>Qj J J (hc) J)) J ?_;refine Wz [152,44] ?_
  refine Q8 J (fun h => ?_) (fun h => ?_)
  ·refine Wz [38] ?_
   exact Xi J J (Xt [] (by decide) J J J)
  ·simp only[Gql,decide_eq_false_iff_not] at h
   omega
 have hs:=Classical.not_not.1 hs
 have hb1:decide (s<1)=false:=Gqa (by omega)
 have hb2:decide (16<s)=false:=Gqa (by omega)
 cases ho:levelOk l with
 |false =>
  rw[ho] at hc
  rw[show solidAt l x y s=true by rw[solidAt,ho]; simp]
  refine Con.of Tryz.func270 J Tryz.ntmps270 J (fun E => ?_)
  refine Wz [101,106,55,183,37,62,71,2] ?_;refine zx (Qj J J (hc) J) J ?_;refine Wz [2,10,37,21] ?_
  exact Xi J J (Xt [] (by decide) J J J)
 |true =>
  rw[ho] at hc
  rw[show solidAt l x y s=solidM l x y s by rw[solidAt,ho,Yk.2 hs]; rfl]
  have hd:=I_solid l x y s ho hx hy hs.1 hs.2
  refine Con.of Tryz.func270 J Tryz.ntmps270 J (fun E => ?_)
  refine Wz [101,106,55,183,37,62,71,2] ?_;refine zx (Qj J J (hc) J) J ?_;refine Wz [2,10,37,53,25,41,0] ?_;refine zx (Qj J J (hd) J) J ?_;refine Wz [110] ?_
  exact Xi J J (Xt [] (by decide) J J J)
end
section
open Go.RowKit

def tailM (b:TBody):Bool :=
 if b.Kind=0 then (decide (b.Aim=1∨b.Aim = -1)&&inR b.Life 0 3)&&(if b.Life=0 then inR b.Timer 1 20 else inR b.Timer 0 12)
 else if b.Kind=1 then decide (b.Aim=0∧b.Life=0)&&inR b.Timer 1 25
 else decide (b.Owner=0∧b.Aim=0∧b.Life=0∧b.Timer=0)
noncomputable def bodyM (l:TLevel) (n:Int) (b:TBody):Bool :=
 inR b.Kind 0 2&&(inR b.Owner 0 (n-1)&&(!solidM l b.X b.Y (sizeOf b.Kind)&&(inR b.VX (-15) 15&&(inR b.VY (-15) 15&&tailM b))))
theorem size_in {k:Int} (h:inR k 0 2=true):1≤sizeOf k∧sizeOf k≤16:=by
 have:=Yk.1 h
 unfold sizeOf
 split
 ·omega
 ·split
  ·omega
  ·split <;> omega
theorem S_l02Body (l:TLevel) (n:Int) (b:TBody) (hg:Enc.gd l) (hl:levelOk l=true) (hb:Enc.gd b) (hn:0≤n∧n≤1099511627776):Con Tryz.prog 225 [] [ag l,ai n,ag b] [] (B (bodyM l n b)):=by
 obtain⟨b1,b2,b3,b4,b5,b6,b7,b8,b9⟩:=hb
 have h1:=Xs b.Kind 0 2
 have hsz:=S_SizeOf b.Kind
 have h2:=Xs b.Owner 0 (n-1)
 have h4:=Xs b.VX (-15) 15
 have h5:=Xs b.VY (-15) 15
 cases e1:inR b.Kind 0 2 with
 |false =>
  rw[e1] at h1
  rw[show bodyM l n b=false by rw[bodyM,e1]; rfl]
  refine Con.of Tryz.func225 J Tryz.ntmps225 J (fun E => ?_)
  refine Wz [64,17,17,185,12] ?_;refine DR.s (Qj J J (h1) J) J J ?_;refine Wz [50,15,58,261,126,15,58,58,226,126,15,58,126,15,58,126,11,21] ?_
  exact Xi J J (Xt [] (by decide) J J J)
 | true =>
  rw[e1] at h1
  cases e2:inR b.Owner 0 (n-1) with
  |false =>
   rw[e2] at h2
   rw[show bodyM l n b=false by rw[bodyM,e1,e2]; rfl]
   refine Con.of Tryz.func225 J Tryz.ntmps225 J (fun E => ?_)
   refine Wz [64,17,17,185,12] ?_;refine DR.s (Qj J J (h1) J) J J ?_;refine Wz [50,15,26,115,192] ?_;refine DR.s (Qt.yes J J J (Qj J J (h2) J)) J J ?_;refine Wz [123,81,15,58,58,226,126,15,58,126,15,58,126,11,21] ?_
   exact Xi J J (Xt [] (by decide) J J J)
  | true =>
   rw[e2] at h2
   have hs16:=size_in e1
   have h3:=S_l02Solid l b.X b.Y (sizeOf b.Kind) hl b3 b4 hs16.1 hs16.2
   cases e3:solidM l b.X b.Y (sizeOf b.Kind) with
   |true =>
    rw[e3] at h3
    rw[show bodyM l n b=false by rw[bodyM,e1,e2,e3]; rfl]
    refine Con.of Tryz.func225 J Tryz.ntmps225 J (fun E => ?_)
    refine Wz [64,17,17,185,12] ?_;refine DR.s (Qj J J (h1) J) J J ?_;refine Wz [50,15,26,115,192] ?_;refine DR.s (Qt.yes J J J (Qj J J (h2) J)) J J ?_;refine Wz [123,81,15,201,26,26,26] ?_;refine DR.s (Qt.yes J J J (Qj J J (hsz) J)) J J ?_;refine DR.s (Qt.yes J J J (Qj J J (h3) J)) J J ?_;refine Wz [81,15,58,126,15,58,126,11,21] ?_
    exact Xi J J (Xt [] (by decide) J J J)
   | false =>
    rw[e3] at h3
    cases e4:inR b.VX (-15) 15 with
    |false =>
     rw[e4] at h4
     rw[show bodyM l n b=false by rw[bodyM,e1,e2,e3,e4]; rfl]
     refine Con.of Tryz.func225 J Tryz.ntmps225 J (fun E => ?_)
     refine Wz [64,17,17,185,12] ?_;refine DR.s (Qj J J (h1) J) J J ?_;refine Wz [50,15,26,115,192] ?_;refine DR.s (Qt.yes J J J (Qj J J (h2) J)) J J ?_;refine Wz [123,81,15,201,26,26,26] ?_;refine DR.s (Qt.yes J J J (Qj J J (hsz) J)) J J ?_;refine DR.s (Qt.yes J J J (Qj J J (h3) J)) J J ?_;refine Wz [81,15,26] ?_;refine DR.s (Qt.yes J J J (Qj J J (h4) J)) J J ?_;refine Wz [123,81,15,58,126,11,21] ?_
     exact Xi J J (Xt [] (by decide) J J J)
    | true =>
     rw[e4] at h4
     cases e5:inR b.VY (-15) 15 with
     |false =>
      rw[e5] at h5
      rw[show bodyM l n b=false by rw[bodyM,e1,e2,e3,e4,e5]; rfl]
      refine Con.of Tryz.func225 J Tryz.ntmps225 J (fun E => ?_)
      refine Wz [64,17,17,185,12] ?_;refine DR.s (Qj J J (h1) J) J J ?_;refine Wz [50,15,26,115,192] ?_;refine DR.s (Qt.yes J J J (Qj J J (h2) J)) J J ?_;refine Wz [123,81,15,201,26,26,26] ?_;refine DR.s (Qt.yes J J J (Qj J J (hsz) J)) J J ?_;refine DR.s (Qt.yes J J J (Qj J J (h3) J)) J J ?_;refine Wz [81,15,26] ?_;refine DR.s (Qt.yes J J J (Qj J J (h4) J)) J J ?_;refine Wz [123,81,15,26] ?_;refine DR.s (Qt.yes J J J (Qj J J (h5) J)) J J ?_;refine Wz [123,81,11,21] ?_
      exact Xi J J (Xt [] (by decide) J J J)
     | true =>
      rw[e5] at h5
      rw[show bodyM l n b=tailM b by rw[bodyM,e1,e2,e3,e4,e5]; rfl]
      by_cases k0:b.Kind=0
      ·have hk:decide (b.Kind=0)=true:=Gqb k0
       refine Con.of Tryz.func225 J Tryz.ntmps225 J (fun E => ?_)
       refine Wz [64,17,17,185,12] ?_;refine DR.s (Qj J J (h1) J) J J ?_;refine Wz [50,15,26,115,192] ?_;refine DR.s (Qt.yes J J J (Qj J J (h2) J)) J J ?_;refine Wz [123,81,15,201,26,26,26] ?_;refine DR.s (Qt.yes J J J (Qj J J (hsz) J)) J J ?_;refine DR.s (Qt.yes J J J (Qj J J (h3) J)) J J ?_;refine Wz [81,15,26] ?_;refine DR.s (Qt.yes J J J (Qj J J (h4) J)) J J ?_;refine Wz [123,81,15,26] ?_;refine DR.s (Qt.yes J J J (Qj J J (h5) J)) J J ?_;refine Wz [123,81,11,53,32,80,4,70,7,120,32,143,97,244,39,95] ?_;refine zx (Qt.grdF J J J (.hit (.hit .stop)) (fun hgrd=>Qj J J (Xs b.Life 0 3) J)) J ?_;refine Wz [87,44] ?_
       refine Q8 J (fun h => ?_) (fun h => ?_)
       ·rw[show tailM b=false by
         rw[tailM,if_pos k0]
         simp only[Gqq,Gqk,decide_eq_true_eq,Gxa] at h
         rcases h with h | h
         ·rw[Gqa (by omega)]; rfl
         ·rw[h]; simp]
        refine Wz [61,90,107] ?_
        exact Xi J J (Xt [] (by decide) J J J)
       simp only[Gql,Gxi,decide_eq_false_iff_not,Gqt] at h
       have ht:tailM b=if b.Life=0 then inR b.Timer 1 20 else inR b.Timer 0 12:=by
        rw[tailM,if_pos k0,Gqb (by omega),h.2]; rfl
       by_cases l0:b.Life=0
       ·have hk2:decide (b.Life=0)=true:=Gqb l0
        rw[ht,if_pos l0]
        refine Wz [13,32,70,42,35] ?_;refine zx (Qj J J (Xs b.Timer 1 20) J) J ?_;refine Wz [7,166,90,107] ?_
        exact Xi J J (Xt [] (by decide) J J J)
       ·have hk2:decide (b.Life=0)=false:=Gqa l0
        rw[ht,if_neg l0]
        refine Wz [13,32,70,53,35] ?_;refine zx (Qj J J (Xs b.Timer 0 12) J) J ?_;refine Wz [7,166,162,107] ?_
        exact Xi J J (Xt [] (by decide) J J J)
      have hk:decide (b.Kind=0)=false:=Gqa k0
      by_cases k1:b.Kind=1
      ·have hk1:decide (b.Kind=1)=true:=Gqb k1
       refine Con.of Tryz.func225 J Tryz.ntmps225 J (fun E => ?_)
       refine Wz [64,17,17,185,12] ?_;refine DR.s (Qj J J (h1) J) J J ?_;refine Wz [50,15,26,115,192] ?_;refine DR.s (Qt.yes J J J (Qj J J (h2) J)) J J ?_;refine Wz [123,81,15,201,26,26,26] ?_;refine DR.s (Qt.yes J J J (Qj J J (hsz) J)) J J ?_;refine DR.s (Qt.yes J J J (Qj J J (h3) J)) J J ?_;refine Wz [81,15,26] ?_;refine DR.s (Qt.yes J J J (Qj J J (h4) J)) J J ?_;refine Wz [123,81,15,26] ?_;refine DR.s (Qt.yes J J J (Qj J J (h5) J)) J J ?_;refine Wz [123,81,11,53,32,80,4,70,100,4,70,7,120,35,172,97,227,39,97] ?_;refine zx (Qt.grdT J J J (.hit (.hit .stop)) (fun hgrd=>Qj J J (Xs b.Timer 1 25) J)) J ?_;refine Wz [39,7,166,162,107] ?_
       exact Xi J J (Xt [] (by decide) J J (Xf (by rw[tailM,if_neg k0,if_pos k1,←Bool.decide_and])))
      ·have hk1:decide (b.Kind=1)=false:=Gqa k1
       refine Con.of Tryz.func225 J Tryz.ntmps225 J (fun E => ?_)
       refine Wz [64,17,17,185,12] ?_;refine DR.s (Qj J J (h1) J) J J ?_;refine Wz [50,15,26,115,192] ?_;refine DR.s (Qt.yes J J J (Qj J J (h2) J)) J J ?_;refine Wz [123,81,15,201,26,26,26] ?_;refine DR.s (Qt.yes J J J (Qj J J (hsz) J)) J J ?_;refine DR.s (Qt.yes J J J (Qj J J (h3) J)) J J ?_;refine Wz [81,15,26] ?_;refine DR.s (Qt.yes J J J (Qj J J (h4) J)) J J ?_;refine Wz [123,81,15,26] ?_;refine DR.s (Qt.yes J J J (Qj J J (h5) J)) J J ?_;refine Wz [123,81,11,53,32,80,4,70,100,4,70,100,113,155,35,172,97,227,39,97,227,39,97,227,39,110] ?_
       exact Xi J J (Xt [] (by decide) J J (Xf (by rw[tailM,if_neg k0,if_neg k1]; simp only[Bool.decide_and,Bool.and_assoc])))
theorem I_BodyOk (l:TLevel) (n:Int) (b:TBody) (hg:Enc.gd l) (hb:Enc.gd b) (hn:0≤n∧n≤1099511627776):Con Tryz.prog 238 [] [ag l,ai n,ag b] [] (B (levelOk l&&bodyM l n b)):=by
 obtain⟨b1,b2,b3,b4,b5,b6,b7,b8,b9⟩:=hb
 have hc:=I_LevelOk l hg
 cases hl:levelOk l with
 |false =>
  rw[hl] at hc
  rw[Bool.false_and]
  refine Con.of Tryz.func238 J Tryz.ntmps238 J (fun E => ?_)
  refine Wz [64,156,71] ?_;refine zx (Qj J J (hc) J) J ?_;refine Wz [10,0,46,144,67,0,46,144,67,21] ?_
  exact Xi J J (Xt [] (by decide) J J J)
 | true =>
  rw[hl] at hc
  rw[Bool.true_and]
  refine Con.of Tryz.func238 J Tryz.ntmps238 J (fun E => ?_)
  refine Wz [64,156,71] ?_;refine zx (Qj J J (hc) J) J ?_;refine Wz [10,62,66,2,117,2,161,37,95] ?_;refine zx (Qt.grdF J J J (.hit (.hit .stop)) (fun hgrd=>q_gtr J J J J)) J ?_;refine Wz [44] ?_
  refine Q8 J (fun h => ?_) (fun h => ?_)
  ·simp only[Gqq,decide_eq_true_eq] at h
   have e1:inR b.Kind 0 2=false:=by rw[←Gxl,Yk]; omega
   rw[show bodyM l n b=false by rw[bodyM,e1]; rfl]
   refine Wz [38] ?_
   exact Xi J J (Xt [] (by decide) J J J)
  simp only[Gql,decide_eq_false_iff_not] at h
  have e1:inR b.Kind 0 2=true:=Yk.2 (by omega)
  have hs16:=size_in e1
  refine Wz [13,32,161,95,140] ?_;refine zx (Qt.grdF J J J (.hit (.hit (.hit .stop))) (fun hgrd=>q_geq J J J J)) J ?_;refine Wz [82] ?_;refine zx (Qt.grdF J J J (.hit (.hit .stop)) (fun hgrd=>Zb J J J J)) J ?_;refine zx (Qt.grdF J J J (.hit (.hit (.hit .stop))) (fun hgrd=>Qa J J J)) J ?_;refine zx (Qt.grd2T J J J (.hit1 (.hit1 (.hit1 (.hit1 .stop)))) (fun hgrd hgrd2=>Qf J J J J (by decide))) J ?_;refine zx (Qt.grd2T J J J (.hit (.hit1 (.hit1 (.hit1 (.hit1 .stop))))) (fun hgrd hgrd2=>Qg J J J J J)) J ?_;refine zx (Qt.grd2T J J J (.hit (.hit (.hit1 (.hit1 (.hit1 (.hit1 .stop)))))) (fun hgrd hgrd2=>Zo J J J J)) J ?_;refine zx (Qt.grdF J J J (.part (.part (.part (.hit (.hit (.hit (.hit .stop))))))) (fun hgrd=>Y4 J J J J)) J ?_;refine Wz [44] ?_
  refine Q8 J (fun h2 => ?_) (fun h2 => ?_)
  ·simp only[Gqq,Gqk,decide_eq_true_eq] at h2
   rw[show bodyM l n b=false by
    by_cases ho:0≤b.Owner∧b.Owner≤n-1
    ·have hk:b.Kind=2∧b.Owner≠0:=by omega
     have ht:tailM b=false:=by rw[tailM,if_neg (by omega),if_neg (by omega),Gqa (fun hh=>hk.2 hh.1)]
     rw[bodyM,ht]; simp
    ·have e2:inR b.Owner 0 (n-1)=false:=by rw[←Gxl,Yk]; exact ho
     rw[bodyM,e2]; simp]
   refine Wz [38] ?_
   exact Xi J J (Xt [] (by decide) J J J)
  simp only[Gql,Gxi,decide_eq_false_iff_not] at h2
  have e2:inR b.Owner 0 (n-1)=true:=Yk.2 (by omega)
  have hsz:=I_SizeOf b.Kind
  have h3:=I_SolidAt l b.X b.Y (sizeOf b.Kind) hg b3 b4
  rw[show solidAt l b.X b.Y (sizeOf b.Kind)=solidM l b.X b.Y (sizeOf b.Kind) by rw[solidAt,hl,Yk.2 hs16]; rfl] at h3
  cases e3:solidM l b.X b.Y (sizeOf b.Kind) with
  |true =>
   rw[e3] at h3
   rw[show bodyM l n b=false by rw[bodyM,e1,e2,e3]; rfl]
   refine Wz [211,17] ?_;refine Xd u8_9 u8_10 u8_11 J ?_;refine Wz [153,12,12,12] ?_;refine DR.s (Qj J J (hsz) J) J J ?_;refine DR.s (Qj J J (h3) J) J J ?_;refine Wz [11,21] ?_
   exact Xi J J (Xt [] (by decide) J J J)
  | false =>
   rw[e3] at h3
   refine Wz [211,17] ?_;refine Xd u8_9 u8_10 u8_11 J ?_;refine Wz [153,12,12,12] ?_;refine DR.s (Qj J J (hsz) J) J J ?_;refine DR.s (Qj J J (h3) J) J J ?_;refine Wz [11,53,32] ?_;refine zx (Qj J J (Xj b.VX (-15) 15) J) J ?_;refine Wz [10,95] ?_;refine zx (Qt.grdF J J J (.hit (.hit .stop)) (fun hgrd=>Qj J J (Xj b.VY (-15) 15) J)) J ?_;refine Wz [87,44] ?_
   refine Q8 J (fun h4 => ?_) (fun h4 => ?_)
   ·simp only[Gqq,Gxa] at h4
    rw[show bodyM l n b=false by rw[bodyM]; rcases h4 with h4 | h4 <;> rw[h4] <;> simp]
    refine Wz [38] ?_
    exact Xi J J (Xt [] (by decide) J J J)
   simp only[Gql,Gqt] at h4
   rw[show bodyM l n b=tailM b by rw[bodyM,e1,e2,e3,h4.1,h4.2]; rfl]
   by_cases k0:b.Kind=0
   ·have hk:decide (b.Kind=0)=true:=Gqb k0
    refine Wz [13,32,70,42,32,143,97,244,39,95] ?_;refine zx (Qt.grdF J J J (.hit (.hit .stop)) (fun hgrd=>Qj J J (Xj b.Life 0 3) J)) J ?_;refine Wz [87,44] ?_
    refine Q8 J (fun h => ?_) (fun h => ?_)
    ·rw[show tailM b=false by
      rw[tailM,if_pos k0]
      simp only[Gqq,Gqk,decide_eq_true_eq,Gxa] at h
      rcases h with h | h
      ·rw[Gqa (by omega)]; rfl
      ·rw[h]; simp]
     refine Wz [61,223,107] ?_
     exact Xi J J (Xt [] (by decide) J J J)
    simp only[Gql,Gxi,decide_eq_false_iff_not,Gqt] at h
    have hlf:=Yk.1 h.2
    have ht:tailM b=if b.Life=0 then inR b.Timer 1 20 else inR b.Timer 0 12:=by
     rw[tailM,if_pos k0,Gqb (by omega),h.2]; rfl
    by_cases l0:b.Life=0
    ·have hk2:decide (0<b.Life)=false:=Gqa (by omega)
     rw[ht,if_pos l0]
     refine Wz [13,32,183,53,35] ?_;refine zx (Qj J J (Xj b.Timer 1 20) J) J ?_;refine Wz [7,166,107] ?_
     exact Xi J J (Xt [] (by decide) J J J)
    ·have hk2:decide (0<b.Life)=true:=Gqb (by omega)
     rw[ht,if_neg l0]
     refine Wz [13,32,183,42,35] ?_;refine zx (Qj J J (Xj b.Timer 0 12) J) J ?_;refine Wz [7,166,223,107] ?_
     exact Xi J J (Xt [] (by decide) J J J)
   have hk:decide (b.Kind=0)=false:=Gqa k0
   refine Wz [13,32,70,53,32,143,95] ?_;refine zx (Qt.grdF J J J (.hit (.hit .stop)) (fun hgrd=>Zo J J J J)) J ?_;refine Wz [44] ?_
   refine Q8 J (fun h5 => ?_) (fun h5 => ?_)
   ·simp only[Gqq,decide_eq_true_eq] at h5
    rw[show tailM b=false by
     rw[tailM,if_neg k0]
     split
     ·rw[Gqa (by omega)]; rfl
     ·exact Gqa (by omega)]
    refine Wz [38] ?_
    exact Xi J J (Xt [] (by decide) J J J)
   simp only[Gql,decide_eq_false_iff_not] at h5
   by_cases k1:b.Kind=1
   ·have hk1:decide (b.Kind=1)=true:=Gqb k1
    rw[show tailM b=inR b.Timer 1 25 by rw[tailM,if_neg k0,if_pos k1,Gqb (by omega)]; rfl]
    refine Wz [13,32,70,42,35] ?_;refine zx (Qj J J (Xj b.Timer 1 25) J) J ?_;refine Wz [7,166,107] ?_
    exact Xi J J (Xt [] (by decide) J J J)
   ·have hk1:decide (b.Kind=1)=false:=Gqa k1
    rw[show tailM b=decide (b.Timer=0) by rw[tailM,if_neg k0,if_neg k1]; exact decide_eq_decide.2 (by omega)]
    refine Wz [13,32,70,53,35,172,110] ?_
    exact Xi J J (Xt [] (by decide) J J J)
end
section
open Go.RowKit

noncomputable def bodyAt (l:TLevel) (n k:Nat) (b:TBody):Bool:=bodyM l n b&&(if k<n then decide (b.Kind=0∧b.Owner=k) else decide (b.Kind≠0))
def bodiesOk (l:TLevel) (n:Nat) (bs:List TBody):Prop:=∀ (k:Nat) (hk:k<bs.length),bodyAt l n k bs[k]=true
def scoresOk (ss:List Int):Bool:=ss.all fun x=>inR x 0 1000000
noncomputable def worldOk (w:TWorld):Bool:=@decide (levelOk w.Level=true∧inR w.Tick 0 100000=true∧inR w.Seed 0 65535=true∧(1≤w.Scores.length∧w.Scores.length≤4)∧scoresOk w.Scores=true∧(w.Scores.length≤w.Bodies.length∧w.Bodies.length≤24)∧bodiesOk w.Level w.Scores.length w.Bodies) (Classical.propDecidable _)
theorem worldOk_T {w:TWorld} (h:levelOk w.Level=true∧inR w.Tick 0 100000=true∧inR w.Seed 0 65535=true∧(1≤w.Scores.length∧w.Scores.length≤4)∧scoresOk w.Scores=true∧(w.Scores.length≤w.Bodies.length∧w.Bodies.length≤24)∧bodiesOk w.Level w.Scores.length w.Bodies):worldOk w=true:=@decide_eq_true _ (Classical.propDecidable _) h
theorem Z7 {w:TWorld} (h:¬(levelOk w.Level=true∧inR w.Tick 0 100000=true∧inR w.Seed 0 65535=true∧(1≤w.Scores.length∧w.Scores.length≤4)∧scoresOk w.Scores=true∧(w.Scores.length≤w.Bodies.length∧w.Bodies.length≤24)∧bodiesOk w.Level w.Scores.length w.Bodies)):worldOk w=false:=@decide_eq_false _ (Classical.propDecidable _) h
theorem worldOk_spec {w:TWorld} (h:worldOk w=true):levelOk w.Level=true∧inR w.Tick 0 100000=true∧inR w.Seed 0 65535=true∧(1≤w.Scores.length∧w.Scores.length≤4)∧scoresOk w.Scores=true∧(w.Scores.length≤w.Bodies.length∧w.Bodies.length≤24)∧bodiesOk w.Level w.Scores.length w.Bodies:=@of_decide_eq_true _ (Classical.propDecidable _) h
theorem score_no {ss:List Int} {k:Nat} (h:k<ss.length) (hn:inR ss[k] 0 1000000=false):scoresOk ss=false:=by
 rw[scoresOk,←Gxl,Gqm]
 intro hh
 rw[hh _ (Gqd h)] at hn
 cases hn
theorem I_WorldOk (x:TWorld) (hg:Enc.gd x):Con Tryz.prog 193 [] [ag x] [] (B (worldOk x)):=by
 obtain⟨gL,gT,gS,gSc,gB⟩:=hg
 have g1:=gSc.1
 have g2:=gB.1
 have hls:=X6 x.Scores
 have hlb:=X6 x.Bodies
 have hc:=I_LevelOk x.Level gL
 refine Con.of Tryz.func193 J Tryz.ntmps193 J (fun E => ?_)
 refine Wz [19,176] ?_;refine zx (Qj J J (hc) J) J ?_;refine Wz [10,95] ?_;refine zx (Qt.grdF J J J (.hit (.hit .stop)) (fun hgrd=>Qj J J (Xj x.Tick 0 100000) J)) J ?_;refine Wz [87,82] ?_;refine zx (Qt.grdF J J J (.hit (.hit .stop)) (fun hgrd=>Qj J J (Xj x.Seed 0 65535) J)) J ?_;refine Wz [87,44] ?_
 refine Q8 J (fun h => ?_) (fun h => ?_)
 ·simp only[Gqq,Gxa] at h
  rw[Z7 (fun hh=>by rcases h with (h | h) | h; rw[hh.1] at h; cases h; rw[hh.2.1] at h; cases h; rw[hh.2.2.1] at h; cases h)]
  refine Wz [38] ?_
  exact Xi J J (Xt [] (by decide) J J J)
 simp only[Gql,Gqt] at h
 obtain⟨⟨hL,hT⟩,hS⟩:=h
 refine Wz [13,35,3,112,161,0,108,242,44] ?_
 refine Q8 J (fun h => ?_) (fun h => ?_)
 ·simp only[Gqq,decide_eq_true_eq] at h
  rw[Z7 (fun hh=>by have:=hh.2.2.2.1; omega)]
  refine Wz [38] ?_
  exact Xi J J (Xt [] (by decide) J J J)
 simp only[Gql,decide_eq_false_iff_not] at h
 refine Wz [13,32,114,80] ?_;refine Xe (fun m st=>∃ k:Nat,k+m=x.Scores.length∧((x.Scores.take k).all (fun y=>inR y 0 1000000)=true)∧st=(⟨_,[(1,.o (.c (.ptr 0 0))),(3,I (els x.Scores).length),(34,L x.Scores),(35,I (els x.Scores).length),(36,I k)],[.box ((Enc.e x).map (V1.rd []))]⟩:St)) (x.Scores.length) ⟨_,⟨0,by omega,by simp,J⟩,Xu [0] (by kernel_rfl)⟩ ?_
 rintro m_A _ ⟨k,hk_A,hp_A,rfl⟩
 refine Wz [4,40,17] ?_
 refine Q8 J (fun h3 => ?_) (fun h3 => ?_)
 ·have h3:k<x.Scores.length:=by have:=Gqc h3; omega
  have hat:=X4 h3
  cases e:inR x.Scores[k] 0 1000000 with
  |false =>
   have hb:=Xj x.Scores[k] 0 1000000
   rw[e] at hb
   rw[Z7 (fun hh=>by have h9:=hh.2.2.2.2.1; rw[score_no h3 e] at h9; cases h9)]
   refine Wz [5,4,93,74] ?_;refine zx (Qj J J (hb) J) J ?_;refine Wz [10,42,45] ?_
   exact Xi J J (Xt [] (by decide) J J J)
  |true =>
   have hb:=Xj x.Scores[k] 0 1000000
   rw[e] at hb
   refine Wz [5,4,93,74] ?_;refine zx (Qj J J (hb) J) J ?_;refine Wz [10,88,113,94,36,0,1] ?_
   exact⟨x.Scores.length-(k+1),by omega,_,⟨k+1,by omega,X0 hp_A h3 e,J⟩,Xu [0] (by kernel_rfl)⟩
 have h3:¬k<x.Scores.length:=by have:=Gqe h3; omega
 have hall:scoresOk x.Scores=true:=Xz hp_A (by omega)
 refine Wz [20,32,114,161,95,130,221,44] ?_
 refine Q8 J (fun h5 => ?_) (fun h5 => ?_)
 ·simp only[Gqq,decide_eq_true_eq] at h5
  rw[Z7 (fun hh=>by have:=hh.2.2.2.2.2.1; omega)]
  refine Wz [38] ?_
  exact Xi J J (Xt [] (by decide) J J J)
 simp only[Gql,decide_eq_false_iff_not] at h5
 refine Wz [13,32,114,80] ?_;refine Xe (fun m st=>∃ k:Nat,k+m=x.Bodies.length∧((∀ (j:Nat) (hj:j<x.Bodies.length),j<k→bodyAt x.Level x.Scores.length j x.Bodies[j]=true))∧st=(⟨_,[(1,.o (.c (.ptr 0 0))),(3,I (els x.Scores).length),(56,L x.Bodies),(57,I (els x.Bodies).length),(58,I k)],[.box ((Enc.e x).map (V1.rd []))]⟩:St)) (x.Bodies.length) ⟨_,⟨0,by omega,fun j hj h0=>by omega,J⟩,Xu [0] (by kernel_rfl)⟩ ?_
 rintro m_C _ ⟨k,hk_C,hp_C,rfl⟩
 refine Wz [4,40,17] ?_
 refine Q8 J (fun h6 => ?_) (fun h6 => ?_)
 ·have h6:k<x.Bodies.length:=by have:=Gqc h6; omega
  have hat:=X4 h6
  have gb:=gB.2 _ (Gqd h6)
  have hb:=I_BodyOk x.Level (els x.Scores).length x.Bodies[k] gL gb (by omega)
  rw[hL,Bool.true_and] at hb
  have hlen:((els x.Scores).length:Int)=(x.Scores.length:Int):=by rw[hls]
  cases e:bodyM x.Level (els x.Scores).length x.Bodies[k] with
  |false =>
   rw[e] at hb
   rw[Z7 (fun hh=>by have h9:=hh.2.2.2.2.2.2 k h6; rw[bodyAt,←hlen,e] at h9; cases h9)]
   refine Wz [5,8,34,56,138,22,176,0,71] ?_;refine zx (Qj J J (hb) J) J ?_;refine Wz [10,42,61,90,131,107] ?_
   exact Xi J J (Xt [] (by decide) J J J)
  | true =>
   rw[e] at hb
   rw[hlen] at e
   by_cases hkn:(k:Int)<(els x.Scores).length
   ·have hd:decide ((k:Int)<(els x.Scores).length)=true:=Gqb hkn
    have hd2:decide (((els x.Scores).length:Int)≤k)=false:=Gqa (by omega)
    refine Wz [5,8,34,56,138,22,176,0,71] ?_;refine zx (Qj J J (hb) J) J ?_;refine Wz [85,33,119,62,66,2,117,2,143,2,95,140,245,2,91,67,1] ?_
    refine Q8 J (fun h7 => ?_) (fun h7 => ?_)
    ·simp only[Gqq,decide_eq_true_eq] at h7
     rw[Z7 (fun hh=>by have h9:=hh.2.2.2.2.2.2 k h6; rw[bodyAt,e,if_pos (by omega)] at h9; have:=Gqc h9; omega)]
     refine Wz [61,90,131,107] ?_
     exact Xi J J (Xt [] (by decide) J J J)
    ·simp only[Gql,decide_eq_false_iff_not] at h7
     refine Wz [13,9,163,0,46,144,37,88,113,94,36,0,1] ?_
     exact⟨x.Bodies.length-(k+1),by omega,_,⟨k+1,by omega,fun j hj h0=>by by_cases hjk:j=k; subst hjk; rw[bodyAt,e,if_pos (by omega)]; exact Gqb (by omega); exact hp_C j hj (by omega),J⟩,Xu [0] (by kernel_rfl)⟩
   ·have hd:decide ((k:Int)<(els x.Scores).length)=false:=Gqa hkn
    have hd2:decide (((els x.Scores).length:Int)≤k)=true:=Gqb (by omega)
    by_cases k0:x.Bodies[k].Kind=0
    ·have hd3:decide (x.Bodies[k].Kind=0)=true:=Gqb k0
     rw[Z7 (fun hh=>by have h9:=hh.2.2.2.2.2.2 k h6; rw[bodyAt,e,if_neg (by omega)] at h9; have:=Gqc h9; omega)]
     refine Wz [5,8,34,56,138,22,176,0,71] ?_;refine zx (Qj J J (hb) J) J ?_;refine Wz [85,33,119,0,46,46,96,96,96,96,144,37,53,9,163,62,66,2,117,2,70,67,42,45] ?_
     exact Xi J J (Xt [] (by decide) J J J)
    ·have hd3:decide (x.Bodies[k].Kind=0)=false:=Gqa k0
     refine Wz [5,8,34,56,138,22,176,0,71] ?_;refine zx (Qj J J (hb) J) J ?_;refine Wz [85,33,119,0,46,46,96,96,96,96,144,37,53,9,163,62,66,2,117,2,70,67,88,113,94,36,0,1] ?_
     exact⟨x.Bodies.length-(k+1),by omega,_,⟨k+1,by omega,fun j hj h0=>by by_cases hjk:j=k; subst hjk; rw[bodyAt,e,if_neg (by omega)]; exact Gqb k0; exact hp_C j hj (by omega),J⟩,Xu [0] (by kernel_rfl)⟩
 have h6:¬k<x.Bodies.length:=by have:=Gqe h6; omega
 rw[worldOk_T ⟨hL,hT,hS,by omega,hall,by omega,fun j hj=>hp_C j hj (by omega)⟩]
 refine Wz [20,47] ?_
 exact Xi J J (Xt [] (by decide) J J J)
theorem S_WorldOk (x:TWorld) (hg:Enc.gd x):Con Tryz.prog 157 [] [ag x] [] (B (worldOk x)):=by
 obtain⟨gL,gT,gS,gSc,gB⟩:=hg
 have g1:=gSc.1
 have g2:=gB.1
 have hls:=X6 x.Scores
 have hlb:=X6 x.Bodies
 have hc:=S_LevelOk x.Level gL
 refine Con.of Tryz.func157 J Tryz.ntmps157 J (fun E => ?_)
 refine Wz [19,35,3,7,176] ?_;refine zx (Qj J J (hc) J) J ?_;refine Wz [10,95] ?_;refine zx (Qt.grdF J J J (.hit (.hit .stop)) (fun hgrd=>Qj J J (Xs x.Tick 0 100000) J)) J ?_;refine Wz [87,82] ?_;refine zx (Qt.grdF J J J (.hit (.hit .stop)) (fun hgrd=>Qj J J (Xs x.Seed 0 65535) J)) J ?_;refine Wz [87,91,0,108] ?_;refine zx (Qt.grdF J J J (.hit .stop) (fun hgrd=>Qj J J (Xs (els x.Scores).length 1 4) J)) J ?_;refine Wz [152,82,130,157] ?_;refine zx (Qt.grdF J J J (.hit (.hit (.hit (.hit .stop)))) (fun hgrd=>Qj J J (Xs (els x.Bodies).length (els x.Scores).length 24) J)) J ?_;refine zx (Qt.grdF J J J (.hit (.hit (.hit (.hit (.hit .stop))))) (fun hgrd=>Q3 J J J)) J ?_;refine Wz [44] ?_
 refine Q8 J (fun h => ?_) (fun h => ?_)
 ·simp only[Gqq,Gxa] at h
  rw[Z7 (fun hh=>by rcases h with (((h | h) | h) | h) | h; rw[hh.1] at h; cases h; rw[hh.2.1] at h; cases h; rw[hh.2.2.1] at h; cases h; rw[←Gxl,Yk] at h; have:=hh.2.2.2.1; omega; rw[←Gxl,Yk] at h; have:=hh.2.2.2.2.2.1; omega)]
  refine Wz [38] ?_
  exact Xi J J (Xt [] (by decide) J J J)
 simp only[Gql,Gqt] at h
 obtain⟨⟨⟨⟨hL,hT⟩,hS⟩,hN⟩,hB⟩:=h
 have hN:=Yk.1 hN
 have hB:=Yk.1 hB
 refine Wz [13,23] ?_;refine Xe (fun m st=>∃ k:Nat,k+m=x.Scores.length∧((x.Scores.take k).all (fun y=>inR y 0 1000000)=true)∧st=(⟨_,[(1,.o (.c (.ptr 0 0))),(3,I (els x.Scores).length),(4,I k)],[.box ((Enc.e x).map (V1.rd []))]⟩:St)) (x.Scores.length) ⟨_,⟨0,by omega,by simp,J⟩,Xu [0] (by kernel_rfl)⟩ ?_
 rintro m_A _ ⟨k,hk_A,hp_A,rfl⟩
 refine Wz [33,40] ?_
 refine Q8 J (fun h3 => ?_) (fun h3 => ?_)
 ·have h3:k<x.Scores.length:=by have:=Gqc h3; omega
  have hat:=X4 h3
  have hb:=Xs x.Scores[k] 0 1000000
  cases e:inR x.Scores[k] 0 1000000 with
  |false =>
   rw[e] at hb
   rw[Z7 (fun hh=>by have h9:=hh.2.2.2.2.1; rw[score_no h3 e] at h9; cases h9)]
   refine Wz [5,54,93] ?_;refine zx (Qj J J (hb) J) J ?_;refine Wz [10,42,45] ?_
   exact Xi J J (Xt [] (by decide) J J J)
  |true =>
   rw[e] at hb
   refine Wz [5,54,93] ?_;refine zx (Qj J J (hb) J) J ?_;refine Wz [10,88,49] ?_
   exact⟨x.Scores.length-(k+1),by omega,_,⟨k+1,by omega,X0 hp_A h3 e,J⟩,Xu [0] (by kernel_rfl)⟩
 have h3:¬k<x.Scores.length:=by have:=Gqe h3; omega
 have hall:scoresOk x.Scores=true:=Xz hp_A (by omega)
 refine Wz [20,23] ?_;refine Xe (fun m st=>∃ k:Nat,k+m=x.Bodies.length∧((∀ (j:Nat) (hj:j<x.Bodies.length),j<k→bodyAt x.Level x.Scores.length j x.Bodies[j]=true))∧st=(⟨_,[(1,.o (.c (.ptr 0 0))),(3,I (els x.Scores).length),(5,I k)],[.box ((Enc.e x).map (V1.rd []))]⟩:St)) (x.Bodies.length) ⟨_,⟨0,by omega,fun j hj h0=>by omega,J⟩,Xu [0] (by kernel_rfl)⟩ ?_
 rintro m_C _ ⟨k,hk_C,hp_C,rfl⟩
 refine Wz [63,14,3,40] ?_
 refine Q8 J (fun h6 => ?_) (fun h6 => ?_)
 ·have h6:k<x.Bodies.length:=by have:=Gqc h6; omega
  have hat:=X4 h6
  have gb:=gB.2 _ (Gqd h6)
  have hb:=S_l02Body x.Level (els x.Scores).length x.Bodies[k] gL hL gb (by omega)
  have hlen:((els x.Scores).length:Int)=(x.Scores.length:Int):=by rw[hls]
  cases e:bodyM x.Level (els x.Scores).length x.Bodies[k] with
  |false =>
   rw[e] at hb
   rw[Z7 (fun hh=>by have h9:=hh.2.2.2.2.2.2 k h6; rw[bodyAt,←hlen,e] at h9; cases h9)]
   refine Wz [5,54,34,56,22,79,71] ?_;refine zx (Qj J J (hb) J) J ?_;refine Wz [10,0,46,46,46,144,67,0,46,46,96,96,96,96,144,67,42,45] ?_
   exact Xi J J (Xt [] (by decide) J J J)
  | true =>
   rw[e] at hb
   rw[hlen] at e
   by_cases hkn:(k:Int)<(els x.Scores).length
   ·have hd:decide ((k:Int)<(els x.Scores).length)=true:=Gqb hkn
    by_cases k0:x.Bodies[k].Kind=0
    ·have hd3:decide (x.Bodies[k].Kind=0)=true:=Gqb k0
     by_cases ho:x.Bodies[k].Owner≠(k:Int)
     ·have hd4:decide (x.Bodies[k].Owner≠(k:Int))=true:=Gqb ho
      rw[Z7 (fun hh=>by have h9:=hh.2.2.2.2.2.2 k h6; rw[bodyAt,e,if_pos (by omega)] at h9; have:=Gqc h9; omega)]
      refine Wz [5,54,34,56,22,79,71] ?_;refine zx (Qj J J (hb) J) J ?_;refine Wz [10,62,66,2,117,2,70,2,55,119,2,212,37,55,62,119,2,62,66,2,117,2,62,105,2,67,37,42,45] ?_
      exact Xi J J (Xt [] (by decide) J J J)
     ·have hd4:decide (x.Bodies[k].Owner≠(k:Int))=false:=Gqa ho
      refine Wz [5,54,34,56,22,79,71] ?_;refine zx (Qj J J (hb) J) J ?_;refine Wz [10,62,66,2,117,2,70,2,55,119,2,212,37,55,62,119,2,62,66,2,117,2,62,105,2,67,37,88,49] ?_
      exact⟨x.Bodies.length-(k+1),by omega,_,⟨k+1,by omega,fun j hj h0=>by by_cases hjk:j=k; subst hjk; rw[bodyAt,e,if_pos (by omega)]; exact Gqb (by omega); exact hp_C j hj (by omega),J⟩,Xu [0] (by kernel_rfl)⟩
    ·have hd3:decide (x.Bodies[k].Kind=0)=false:=Gqa k0
     rw[Z7 (fun hh=>by have h9:=hh.2.2.2.2.2.2 k h6; rw[bodyAt,e,if_pos (by omega)] at h9; have:=Gqc h9; omega)]
     refine Wz [5,54,34,56,22,79,71] ?_;refine zx (Qj J J (hb) J) J ?_;refine Wz [10,62,66,2,117,2,70,2,55,119,2,212,37,0,46,46,96,96,96,96,144,67,42,45] ?_
     exact Xi J J (Xt [] (by decide) J J J)
   ·have hd:decide ((k:Int)<(els x.Scores).length)=false:=Gqa hkn
    by_cases k0:x.Bodies[k].Kind=0
    ·have hd3:decide (x.Bodies[k].Kind=0)=true:=Gqb k0
     rw[Z7 (fun hh=>by have h9:=hh.2.2.2.2.2.2 k h6; rw[bodyAt,e,if_neg (by omega)] at h9; have:=Gqc h9; omega)]
     refine Wz [5,54,34,56,22,79,71] ?_;refine zx (Qj J J (hb) J) J ?_;refine Wz [10,62,66,2,117,2,70,2,55,119,2,212,37,0,46,46,96,96,96,96,144,67,42,45] ?_
     exact Xi J J (Xt [] (by decide) J J J)
    ·have hd3:decide (x.Bodies[k].Kind=0)=false:=Gqa k0
     refine Wz [5,54,34,56,22,79,71] ?_;refine zx (Qj J J (hb) J) J ?_;refine Wz [10,62,66,2,117,2,70,2,55,119,2,212,37,55,62,119,2,0,46,46,2,37,37,88,49] ?_
     exact⟨x.Bodies.length-(k+1),by omega,_,⟨k+1,by omega,fun j hj h0=>by by_cases hjk:j=k; subst hjk; rw[bodyAt,e,if_neg (by omega)]; exact Gqb k0; exact hp_C j hj (by omega),J⟩,Xu [0] (by kernel_rfl)⟩
 have h6:¬k<x.Bodies.length:=by have:=Gqe h6; omega
 rw[worldOk_T ⟨hL,hT,hS,by omega,hall,by omega,fun j hj=>hp_C j hj (by omega)⟩]
 refine Wz [20,47] ?_
 exact Xi J J (Xt [] (by decide) J J J)
end
end Go.Proofs.YtoecjaohdnoenaaGreat
