/-
  Rules, data and contracts of functions: part 17 of the proof.
  Conditions: those that each theorem names.
-/
import Derived.Test.YtoecjaohdnoenaaGreatDDNewMRowk15
set_option linter.unusedSimpArgs false
set_option linter.unusedVariables false
set_option maxRecDepth 8000
set_option maxHeartbeats 8000000
namespace Go.Proofs.YtoecjaohdnoenaaGreat
section
open Go.RowKit

theorem rowsM_size {rows:List ByteArray} {w:Nat}:∀ n s,rowsM rows w n=some s→∀ r,r<n→∃ row,rows[r]? = some row∧row.size=w
 |0,s,_=>fun r hr=>by omega
 | n+1,s,h=>fun r hr=>by
  rw[rowsM] at h
  split at h
  ·cases h
  ·rename_i s1 h1
   split at h
   ·cases h
   ·rename_i row hrow
    split at h
    ·rename_i hw
     by_cases e:r=n
     ·subst e; exact⟨row,hrow,hw⟩
     ·exact rowsM_size n s1 h1 r (by omega)
    ·cases h
theorem Yl {l:TLevel} (h:levelOk l=true):3≤l.Rows.length∧l.Rows.length≤12∧∃ w,4≤w∧w≤20∧∀ (r:Nat) (hr:r<l.Rows.length),(l.Rows[r]).size=w:=by
 unfold levelOk at h
 simp only[Gqj,decide_eq_true_eq] at h
 obtain⟨⟨⟨⟨h1,h2⟩,h3⟩,h4⟩,h5⟩:=h
 refine⟨h1,h2,widthM l.Rows,h3,h4,fun r hr => ?_⟩
 split at h5
 ·rename_i s hs
  obtain⟨row,h6,h7⟩:=rowsM_size _ s hs r hr
  rw[Gqe hr] at h6
  simp only[Option.some.injEq] at h6
  rw[h6]; exact h7
 ·cases h5
def sizeOf (k:Int):Int:=if k=0 then 12 else if k=1 then 4 else if k=2 then 8 else 0
theorem I_SizeOf (k:Int):Con Tryz.prog 271 [] [ai k] [] (I (sizeOf k)):=by
 by_cases h0:k=0
 ·have hb:decide (k=0)=true:=Gqb h0
  rw[show sizeOf k=12 by rw[sizeOf,if_pos h0]]
  refine Con.of Tryz.func271 J Tryz.ntmps271 J (fun E => ?_)
  refine Wz [129,2,50,7,31,3,132,55,153,47] ?_
  exact Xi J J (Xt [] (by decide) J J J)
 have hb0:decide (k=0)=false:=Gqa h0
 by_cases h1:k=1
 ·have hb:decide (k=1)=true:=Gqb h1
  rw[show sizeOf k=4 by rw[sizeOf,if_neg h0,if_pos h1]]
  refine Con.of Tryz.func271 J Tryz.ntmps271 J (fun E => ?_)
  refine Wz [129,2,50,7,31,86,7,31,3,132,55,153,47] ?_
  exact Xi J J (Xt [] (by decide) J J J)
 have hb1:decide (k=1)=false:=Gqa h1
 by_cases h2:k=2
 ·have hb:decide (k=2)=true:=Gqb h2
  rw[show sizeOf k=8 by rw[sizeOf,if_neg h0,if_neg h1,if_pos h2]]
  refine Con.of Tryz.func271 J Tryz.ntmps271 J (fun E => ?_)
  refine Wz [129,2,50,7,31,86,7,31,86,7,31,3,132,55,153,47] ?_
  exact Xi J J (Xt [] (by decide) J J J)
 have hb2:decide (k=2)=false:=Gqa h2
 rw[show sizeOf k=0 by rw[sizeOf,if_neg h0,if_neg h1,if_neg h2]]
 refine Con.of Tryz.func271 J Tryz.ntmps271 J (fun E => ?_)
 refine Wz [129,2,50,7,31,86,7,31,86,7,31,86,124,60,138] ?_
 exact Xi J J (Xt [] (by decide) J J J)
theorem S_SizeOf (k:Int):Con Tryz.prog 264 [] [ai k] [] (I (sizeOf k)):=by
 by_cases h0:k=0
 ·have hb:decide (k=0)=true:=Gqb h0
  rw[show sizeOf k=12 by rw[sizeOf,if_pos h0]]
  refine Con.of Tryz.func264 J Tryz.ntmps264 J (fun E => ?_)
  refine Wz [129,2,50,7,31,3,132,55,153,47] ?_
  exact Xi J J (Xt [] (by decide) J J J)
 have hb0:decide (k=0)=false:=Gqa h0
 by_cases h1:k=1
 ·have hb:decide (k=1)=true:=Gqb h1
  rw[show sizeOf k=4 by rw[sizeOf,if_neg h0,if_pos h1]]
  refine Con.of Tryz.func264 J Tryz.ntmps264 J (fun E => ?_)
  refine Wz [129,2,50,7,31,86,7,31,3,132,55,153,47] ?_
  exact Xi J J (Xt [] (by decide) J J J)
 have hb1:decide (k=1)=false:=Gqa h1
 by_cases h2:k=2
 ·have hb:decide (k=2)=true:=Gqb h2
  rw[show sizeOf k=8 by rw[sizeOf,if_neg h0,if_neg h1,if_pos h2]]
  refine Con.of Tryz.func264 J Tryz.ntmps264 J (fun E => ?_)
  refine Wz [129,2,50,7,31,86,7,31,86,7,31,3,132,55,153,47] ?_
  exact Xi J J (Xt [] (by decide) J J J)
 have hb2:decide (k=2)=false:=Gqa h2
 rw[show sizeOf k=0 by rw[sizeOf,if_neg h0,if_neg h1,if_neg h2]]
 refine Con.of Tryz.func264 J Tryz.ntmps264 J (fun E => ?_)
 refine Wz [129,2,50,7,31,86,7,31,86,7,31,86,124,60,138] ?_
 exact Xi J J (Xt [] (by decide) J J J)
def wallAt (l:TLevel) (r c:Int):Prop:=∀ (q:Nat) (hq:q<l.Rows.length),r=q→0≤c→c<(l.Rows[q]).size→byteAt (l.Rows[q]) c.toNat=35
def hits (l:TLevel) (x y s:Int):Prop:=∃ r c:Int,y/16≤r∧r≤(y+s-1)/16∧x/16≤c∧c≤(x+s-1)/16∧wallAt l r c
noncomputable def solidM (l:TLevel) (x y s:Int):Bool:=@decide (hits l x y s) (Classical.propDecidable _)
theorem solidM_T {l:TLevel} {x y s:Int} (h:hits l x y s):solidM l x y s=true:=@decide_eq_true _ (Classical.propDecidable _) h
theorem solidM_F {l:TLevel} {x y s:Int} (h:¬hits l x y s):solidM l x y s=false:=@decide_eq_false _ (Classical.propDecidable _) h
theorem wall_tile {l:TLevel} {r c:Nat} (hr:r<l.Rows.length) (h:byteAt (l.Rows[r]) c=35):wallAt l r c:=fun q hq e h0 h1=>by
 have:q=r:=by omega
 subst this
 exact h
theorem no_wall {l:TLevel} {r c:Nat} (hr:r<l.Rows.length) (hc:c<(l.Rows[r]).size) (h:byteAt (l.Rows[r]) c≠35):¬wallAt l r c:=fun hw=>h (hw r hr rfl (by omega) (by omega))
theorem out_hits {l:TLevel} {x y s:Int} {w:Nat} (hw:∀ (r:Nat) (hr:r<l.Rows.length),(l.Rows[r]).size=w) (h1:1≤s) (h:x<0∨y<0∨(w:Int)*16-s<x∨(l.Rows.length:Int)*16-s<y):hits l x y s:=by
 by_cases hx:x<0
 ·exact⟨y/16,x/16,by omega,by omega,by omega,by omega,fun q hq e h0 h1=>by omega⟩
 by_cases hy:y<0
 ·exact⟨y/16,x/16,by omega,by omega,by omega,by omega,fun q hq e h0 h1=>by omega⟩
 by_cases hx2:(w:Int)*16-s<x
 ·exact⟨y/16,(x+s-1)/16,by omega,by omega,by omega,by omega,fun q hq e h0 h1=>by have:=hw q hq; omega⟩
 ·exact⟨(y+s-1)/16,x/16,by omega,by omega,by omega,by omega,fun q hq e h0 h1=>by omega⟩
def freeR (l:TLevel) (x s:Int) (a b:Int):Prop:=∀ r c:Int,a≤r→r<b→x/16≤c→c≤(x+s-1)/16→¬wallAt l r c
def freeC (l:TLevel) (r:Int) (a b:Int):Prop:=∀ c:Int,a≤c→c<b→¬wallAt l r c
theorem free_all {l:TLevel} {x y s b:Int} (h:freeR l x s (y/16) b) (hb:(y+s-1)/16<b):¬hits l x y s:=fun ⟨r,c,h1,h2,h3,h4,h5⟩=>h r c h1 (by omega) h3 h4 h5
theorem free_row {l:TLevel} {x s a b e:Int} (h:freeR l x s a b) (hc:freeC l b (x/16) e) (he:(x+s-1)/16<e):freeR l x s a (b+1):=fun r c h1 h2 h3 h4=>by
 by_cases hr:r<b
 ·exact h r c h1 hr h3 h4
 ·have:r=b:=by omega
  subst this
  exact hc c h3 (by omega)
theorem free_col {l:TLevel} {r a b:Int} (h:freeC l r a b) (hn:¬wallAt l r b):freeC l r a (b+1):=fun c h1 h2=>by
 by_cases hc:c<b
 ·exact h c h1 hc
 ·have:c=b:=by omega
  subst this
  exact hn
theorem I_solid (l:TLevel) (x y s:Int) (hl:levelOk l=true) (hx:I64 x) (hy:I64 y) (h1:1≤s) (h16:s≤16):Con Tryz.prog 299 [] [ag l,ai x,ai y,ai s] [] (B (solidM l x y s)):=by
 obtain⟨hx1,hx2⟩:=hx
 obtain⟨hy1,hy2⟩:=hy
 obtain⟨f3,f12,w,w4,w20,hw⟩:=Yl hl
 have hlx:=X6 l.Rows
 have h0:0<l.Rows.length:=by omega
 have hat0:(els l.Rows)[(0:Int).toNat]? = some (Enc.e l.Rows[0]):=X5 h0
 have hw0:=hw 0 h0
 refine Con.of Tryz.func299 J Tryz.ntmps299 J (fun E => ?_)
 refine Wz [58,24,84,136,114,3,24,21,114,98,152,0,70,242,76,0,70,223,145] ?_;refine zx (Qt.grdF J J J (.hit (.hit (.hit .stop))) (fun hgrd=>Q9 J J J J (by omega))) J ?_;refine zx (Qt.grdF J J J (.hit (.hit (.hit (.hit .stop)))) (fun hgrd=>Zf J J J J)) J ?_;refine Wz [76,0,70,223,145] ?_;refine zx (Qt.grdF J J J (.hit (.hit (.hit .stop))) (fun hgrd=>Q9 J J J J (by omega))) J ?_;refine zx (Qt.grdF J J J (.hit (.hit (.hit (.hit .stop)))) (fun hgrd=>Zf J J J J)) J ?_;refine Wz [25] ?_
 refine Q8 J (fun h => ?_) (fun h => ?_)
 ·simp only[Gqo,decide_eq_true_eq] at h
  rw[solidM_T (out_hits hw h1 (by omega))]
  refine Wz [35] ?_
  exact Xi J J (Xt [] (by decide) J J J)
 simp only[Gql,decide_eq_false_iff_not] at h
 refine Wz [11,111,162,225] ?_;refine Xe (fun m__ st=>∃ (r:Nat),((y+s-1)/16+1).toNat-r=m__∧(y/16≤r∧(r:Int)≤(y+s-1)/16+1∧freeR l x s (y/16) r)∧st=(⟨_,[(1,I x),(2,I y),(3,I s),(4,.o (.c (.ptr 0 0))),(11,I r)],[.box ((Enc.e l).map (V1.rd []))]⟩:St)) _ ⟨(fun (r:Nat)=>(⟨_,[(1,I x),(2,I y),(3,I s),(4,.o (.c (.ptr 0 0))),(11,I r)],[.box ((Enc.e l).map (V1.rd []))]⟩:St)) ((y/16).toNat),⟨(y/16).toNat,J,⟨by omega,by omega,fun r c h1 h2=>by omega⟩,J⟩,Xw [0] (by decide) J (by kernel_rfl) (.c J (.c J (.c J (.c J (.cons (Xl (by omega)) (.nil))))))⟩ ?_
 rintro m_A _ ⟨r,hk_A,hp_A,rfl⟩
 obtain⟨hr1,hr2,hfr⟩:=hp_A
 refine Wz [28,0,14,97,162,174,2] ?_
 refine Q8 J (fun h5 => ?_) (fun h5 => ?_)
 ·have h5:=Gqc h5
  have hrl:r<l.Rows.length:=by omega
  have hat:=X5 hrl
  have hwr:=hw r hrl
  refine Wz [9,4,162,225] ?_;refine Xe (fun m__ st=>∃ (c:Nat),((x+s-1)/16+1).toNat-c=m__∧(x/16≤c∧(c:Int)≤(x+s-1)/16+1∧freeC l r (x/16) c)∧st=(⟨_,[(1,I x),(2,I y),(3,I s),(4,.o (.c (.ptr 0 0))),(11,I r),(12,I c)],[.box ((Enc.e l).map (V1.rd []))]⟩:St)) _ ⟨(fun (c:Nat)=>(⟨_,[(1,I x),(2,I y),(3,I s),(4,.o (.c (.ptr 0 0))),(11,I r),(12,I c)],[.box ((Enc.e l).map (V1.rd []))]⟩:St)) ((x/16).toNat),⟨(x/16).toNat,J,⟨by omega,by omega,fun c h1 h2=>by omega⟩,J⟩,Xw [0] (by decide) J (by kernel_rfl) (.c J (.c J (.c J (.c J (.c J (.cons (Xl (by omega)) (.nil)))))))⟩ ?_
  rintro m_B _ ⟨c,hk_B,hp_B,rfl⟩
  obtain⟨hc1,hc2,hfc⟩:=hp_B
  refine Wz [28,0,14,97,162,174,2] ?_
  refine Q8 J (fun h6 => ?_) (fun h6 => ?_)
  ·have h6:=Gqc h6
   refine Wz [9,36,128,91,146,167,2] ?_
   refine Q8 J (fun h7 => ?_) (fun h7 => ?_)
   ·have h7:=Gqc h7
    rw[solidM_T ⟨(r:Int),(c:Int),hr1,by omega,hc1,by omega,wall_tile hrl h7⟩]
    refine Wz [55,151,88] ?_
    exact Xi J J (Xt [] (by decide) J J J)
   ·have h7:=Gqg h7
    refine Wz [124,168] ?_
    refine⟨_,(by omega),_,⟨c+1,J,⟨by omega,by omega,free_col hfc (no_wall hrl (by omega) h7)⟩,J⟩,Xv [0] (by kernel_rfl)⟩
  ·have h6:=Gqg h6
   refine Wz [178,168] ?_
   refine⟨_,(by omega),_,⟨r+1,J,⟨by omega,by omega,free_row hfr hfc (by omega)⟩,J⟩,Xv [0] (by kernel_rfl)⟩
 ·have h5:=Gqg h5
  rw[solidM_F (free_all hfr (by omega))]
  refine Wz [94] ?_
  exact Xi J J (Xt [] (by decide) J J J)
theorem S_l02Solid (l:TLevel) (x y s:Int) (hl:levelOk l=true) (hx:I64 x) (hy:I64 y) (h1:1≤s) (h16:s≤16):Con Tryz.prog 263 [] [ag l,ai x,ai y,ai s] [] (B (solidM l x y s)):=by
 obtain⟨hx1,hx2⟩:=hx
 obtain⟨hy1,hy2⟩:=hy
 obtain⟨f3,f12,w,w4,w20,hw⟩:=Yl hl
 have hlx:=X6 l.Rows
 refine Con.of Tryz.func263 J Tryz.ntmps263 J (fun E => ?_)
 refine Wz [113,98] ?_;refine zx (Qj J J (Xs x 0 1000) J) J ?_;refine Wz [5,0,70] ?_;refine zx (Qt.grdF J J J (.hit .stop) (fun hgrd=>Qj J J (Xs y 0 1000) J)) J ?_;refine Wz [154,25] ?_
 refine Q8 J (fun h => ?_) (fun h => ?_)
 ·have h:¬(0≤x∧x≤1000)∨¬(0≤y∧y≤1000):=by
   rw[←Yk,←Yk]
   simpa using h
  rw[solidM_T (out_hits hw h1 (by omega))]
  refine Wz [35] ?_
  exact Xi J J (Xt [] (by decide) J J J)
 have h:(0≤x∧x≤1000)∧(0≤y∧y≤1000):=by
  rw[←Yk,←Yk]
  simpa using h
 refine Wz [11,111,162,225] ?_;refine Xe (fun m__ st=>∃ (r:Nat),((y+s-1)/16+1).toNat-r=m__∧(y/16≤r∧(r:Int)≤(y+s-1)/16+1∧freeR l x s (y/16) r)∧st=(⟨_,[(1,I x),(2,I y),(3,I s),(4,.o (.c (.ptr 0 0))),(9,I r)],[.box ((Enc.e l).map (V1.rd []))]⟩:St)) _ ⟨(fun (r:Nat)=>(⟨_,[(1,I x),(2,I y),(3,I s),(4,.o (.c (.ptr 0 0))),(9,I r)],[.box ((Enc.e l).map (V1.rd []))]⟩:St)) ((y/16).toNat),⟨(y/16).toNat,J,⟨by omega,by omega,fun r c h1 h2=>by omega⟩,J⟩,Xw [0] (by decide) J (by kernel_rfl) (.c J (.c J (.c J (.c J (.cons (Xl (by omega)) (.nil))))))⟩ ?_
 rintro m_A _ ⟨r,hk_A,hp_A,rfl⟩
 obtain⟨hr1,hr2,hfr⟩:=hp_A
 refine Wz [28,0,14,97,162,174,2] ?_
 refine Q8 J (fun h5 => ?_) (fun h5 => ?_)
 ·have h5:=Gqc h5
  refine Wz [9,4,162,225] ?_;refine Xe (fun m__ st=>∃ (c:Nat),((x+s-1)/16+1).toNat-c=m__∧(x/16≤c∧(c:Int)≤(x+s-1)/16+1∧freeC l r (x/16) c)∧st=(⟨_,[(1,I x),(2,I y),(3,I s),(4,.o (.c (.ptr 0 0))),(9,I r),(10,I c)],[.box ((Enc.e l).map (V1.rd []))]⟩:St)) _ ⟨(fun (c:Nat)=>(⟨_,[(1,I x),(2,I y),(3,I s),(4,.o (.c (.ptr 0 0))),(9,I r),(10,I c)],[.box ((Enc.e l).map (V1.rd []))]⟩:St)) ((x/16).toNat),⟨(x/16).toNat,J,⟨by omega,by omega,fun c h1 h2=>by omega⟩,J⟩,Xw [0] (by decide) J (by kernel_rfl) (.c J (.c J (.c J (.c J (.c J (.cons (Xl (by omega)) (.nil)))))))⟩ ?_
  rintro m_B _ ⟨c,hk_B,hp_B,rfl⟩
  obtain⟨hc1,hc2,hfc⟩:=hp_B
  refine Wz [28,0,14,97,162,174,2] ?_
  refine Q8 J (fun h6 => ?_) (fun h6 => ?_)
  ·have h6:=Gqc h6
   by_cases hrl:r<l.Rows.length
   ·have hat:=X5 hrl
    have hb:decide (((els l.Rows).length:Int)≤r)=false:=Gqa (by omega)
    by_cases hcl:c<(l.Rows[r]).size
    ·have hb2:decide (((l.Rows[r]).size:Int)≤c)=false:=Gqa (by omega)
     by_cases h7:byteAt (l.Rows[r]) c=35
     ·have hb3:decide (byteAt (l.Rows[r]) (c:Int).toNat=35)=true:=Gqb h7
      rw[solidM_T ⟨(r:Int),(c:Int),hr1,by omega,hc1,by omega,wall_tile hrl h7⟩]
      refine Wz [9,4,13,21,157,20,102,1,108,1,44,128,1,169,1,136,1,157,15,44,102,1,108,1,44,128,1,169,1,44,192,1] ?_;refine zx (Qv (b:=true) J J J J (by decide)) J ?_;refine Wz [15,181,151,88] ?_
      exact Xi J J (Xt [] (by decide) J J J)
     ·have hb3:decide (byteAt (l.Rows[r]) (c:Int).toNat=35)=false:=Gqa h7
      refine Wz [9,4,13,21,157,20,102,1,108,1,44,128,1,169,1,136,1,157,15,44,102,1,108,1,44,128,1,169,1,44,146,1,31,15,57] ?_
      refine⟨_,(by omega),_,⟨c+1,J,⟨by omega,by omega,free_col hfc (no_wall hrl hcl h7)⟩,J⟩,Xv [0] (by kernel_rfl)⟩
    ·have hb2:decide (((l.Rows[r]).size:Int)≤c)=true:=Gqb (by omega)
     rw[solidM_T ⟨(r:Int),(c:Int),hr1,by omega,hc1,by omega,fun q hq e g0 g1=>by have:q=r:=(by omega); subst this; omega⟩]
     refine Wz [9,4,13,21,157,20,102,1,108,1,44,128,1,169,1,136,1,157,15,65,119,119,119,29,181,151,88] ?_
     exact Xi J J (Xt [] (by decide) J J J)
   ·have hb:decide (((els l.Rows).length:Int)≤r)=true:=Gqb (by omega)
    rw[solidM_T ⟨(r:Int),(c:Int),hr1,by omega,hc1,by omega,fun q hq e g0 g1=>by omega⟩]
    refine Wz [9,4,13,21,157,65,119,119,119,29,65,119,119,119,29,181,151,88] ?_
    exact Xi J J (Xt [] (by decide) J J J)
  ·have h6:=Gqg h6
   refine Wz [178,168] ?_
   refine⟨_,(by omega),_,⟨r+1,J,⟨by omega,by omega,free_row hfr hfc (by omega)⟩,J⟩,Xv [0] (by kernel_rfl)⟩
 ·have h5:=Gqg h5
  rw[solidM_F (free_all hfr (by omega))]
  refine Wz [94] ?_
  exact Xi J J (Xt [] (by decide) J J J)
noncomputable def solidAt (l:TLevel) (x y s:Int):Bool:=(!inR s 1 16 || !levelOk l) || solidM l x y s
theorem I_SolidAt (l:TLevel) (x y s:Int) (hg:Enc.gd l) (hx:I64 x) (hy:I64 y):Con Tryz.prog 270 [] [ag l,ai x,ai y,ai s] [] (B (solidAt l x y s)):=by
 have hc:=Xj l hg
 by_cases hs:¬(1≤s∧s≤16)
 ·have hf:inR s 1 16=false:=by rw[←Gxn,Yk]; exact hs
  rw[show solidAt l x y s=true by rw[solidAt,hf]; rfl]
  refine Con.of Tryz.func270 J Tryz.ntmps270 J (fun E => ?_)
  refine Wz [113,98,152,0,70,191,76,0,213] ?_;refine zx (Qt.grdF J J J (.hit .stop) (fun hgrd=>Qj J J (hc) J)) J ?_;refine Wz [154,25] ?_
  refine Q8 J (fun h => ?_) (fun h => ?_)
  ·refine Wz [35] ?_
   exact Xi J J (Xt [] (by decide) J J J)
  ·simp only[Gql,decide_eq_false_iff_not] at h
   omega
 have hs:=Classical.not_not.1 hs
 have hb1:decide (s<1)=false:=Gqa (by omega)
 have hb2:decide (16<s)=false:=Gqa (by omega)
 cases ho:levelOk l with
 |false =>
  rw[ho] at hc
  rw[show solidAt l x y s=true by rw[solidAt,ho]; simp]
  refine Con.of Tryz.func270 J Tryz.ntmps270 J (fun E => ?_)
  refine Wz [113,189,20,179,15,44,38,1] ?_;refine zx (Qj J J (hc) J) J ?_;refine Wz [1,5,15,37] ?_
  exact Xi J J (Xt [] (by decide) J J J)
 |true =>
  rw[ho] at hc
  rw[show solidAt l x y s=solidM l x y s by rw[solidAt,ho,Yk.2 hs]; rfl]
  have hd:=I_solid l x y s ho hx hy hs.1 hs.2
  refine Con.of Tryz.func270 J Tryz.ntmps270 J (fun E => ?_)
  refine Wz [113,189,20,179,15,44,38,1] ?_;refine zx (Qj J J (hc) J) J ?_;refine Wz [1,5,15,26,40,144,0] ?_;refine zx (Qj J J (hd) J) J ?_;refine Wz [46] ?_
  exact Xi J J (Xt [] (by decide) J J J)
end
section
open Go.RowKit

def tailM (b:TBody):Bool :=
 if b.Kind=0 then (decide (b.Aim=1∨b.Aim = -1)&&inR b.Life 0 3)&&(if b.Life=0 then inR b.Timer 1 20 else inR b.Timer 0 12)
 else if b.Kind=1 then decide (b.Aim=0∧b.Life=0)&&inR b.Timer 1 25
 else decide (b.Owner=0∧b.Aim=0∧b.Life=0∧b.Timer=0)
noncomputable def bodyM (l:TLevel) (n:Int) (b:TBody):Bool :=
 inR b.Kind 0 2&&(inR b.Owner 0 (n-1)&&(!solidM l b.X b.Y (sizeOf b.Kind)&&(inR b.VX (-15) 15&&(inR b.VY (-15) 15&&tailM b))))
theorem size_in {k:Int} (h:inR k 0 2=true):1≤sizeOf k∧sizeOf k≤16:=by
 have:=Yk.1 h
 unfold sizeOf
 split
 ·omega
 ·split
  ·omega
  ·split <;> omega
theorem S_l02Body (l:TLevel) (n:Int) (b:TBody) (hg:Enc.gd l) (hl:levelOk l=true) (hb:Enc.gd b) (hn:0≤n∧n≤1099511627776):Con Tryz.prog 225 [] [ag l,ai n,ag b] [] (B (bodyM l n b)):=by
 obtain⟨b1,b2,b3,b4,b5,b6,b7,b8,b9⟩:=hb
 have h1:=Xs b.Kind 0 2
 have hsz:=S_SizeOf b.Kind
 have h2:=Xs b.Owner 0 (n-1)
 have h4:=Xs b.VX (-15) 15
 have h5:=Xs b.VY (-15) 15
 cases e1:inR b.Kind 0 2 with
 |false =>
  rw[e1] at h1
  rw[show bodyM l n b=false by rw[bodyM,e1]; rfl]
  refine Con.of Tryz.func225 J Tryz.ntmps225 J (fun E => ?_)
  refine Wz [51,16,16,182,32] ?_;refine DR.s (Qj J J (h1) J) J J ?_;refine Wz [141,8,52,259,126,8,52,52,226,126,8,52,126,8,52,126,30,37] ?_
  exact Xi J J (Xt [] (by decide) J J J)
 | true =>
  rw[e1] at h1
  cases e2:inR b.Owner 0 (n-1) with
  |false =>
   rw[e2] at h2
   rw[show bodyM l n b=false by rw[bodyM,e1,e2]; rfl]
   refine Con.of Tryz.func225 J Tryz.ntmps225 J (fun E => ?_)
   refine Wz [51,16,16,182,32] ?_;refine DR.s (Qj J J (h1) J) J J ?_;refine Wz [141,8,17,105,194] ?_;refine DR.s (Qt.yes J J J (Qj J J (h2) J)) J J ?_;refine Wz [120,71,8,52,52,226,126,8,52,126,8,52,126,30,37] ?_
   exact Xi J J (Xt [] (by decide) J J J)
  | true =>
   rw[e2] at h2
   have hs16:=size_in e1
   have h3:=S_l02Solid l b.X b.Y (sizeOf b.Kind) hl b3 b4 hs16.1 hs16.2
   cases e3:solidM l b.X b.Y (sizeOf b.Kind) with
   |true =>
    rw[e3] at h3
    rw[show bodyM l n b=false by rw[bodyM,e1,e2,e3]; rfl]
    refine Con.of Tryz.func225 J Tryz.ntmps225 J (fun E => ?_)
    refine Wz [51,16,16,182,32] ?_;refine DR.s (Qj J J (h1) J) J J ?_;refine Wz [141,8,17,105,194] ?_;refine DR.s (Qt.yes J J J (Qj J J (h2) J)) J J ?_;refine Wz [120,71,8,200,17,17,17] ?_;refine DR.s (Qt.yes J J J (Qj J J (hsz) J)) J J ?_;refine DR.s (Qt.yes J J J (Qj J J (h3) J)) J J ?_;refine Wz [71,8,52,126,8,52,126,30,37] ?_
    exact Xi J J (Xt [] (by decide) J J J)
   | false =>
    rw[e3] at h3
    cases e4:inR b.VX (-15) 15 with
    |false =>
     rw[e4] at h4
     rw[show bodyM l n b=false by rw[bodyM,e1,e2,e3,e4]; rfl]
     refine Con.of Tryz.func225 J Tryz.ntmps225 J (fun E => ?_)
     refine Wz [51,16,16,182,32] ?_;refine DR.s (Qj J J (h1) J) J J ?_;refine Wz [141,8,17,105,194] ?_;refine DR.s (Qt.yes J J J (Qj J J (h2) J)) J J ?_;refine Wz [120,71,8,200,17,17,17] ?_;refine DR.s (Qt.yes J J J (Qj J J (hsz) J)) J J ?_;refine DR.s (Qt.yes J J J (Qj J J (h3) J)) J J ?_;refine Wz [71,8,17] ?_;refine DR.s (Qt.yes J J J (Qj J J (h4) J)) J J ?_;refine Wz [120,71,8,52,126,30,37] ?_
     exact Xi J J (Xt [] (by decide) J J J)
    | true =>
     rw[e4] at h4
     cases e5:inR b.VY (-15) 15 with
     |false =>
      rw[e5] at h5
      rw[show bodyM l n b=false by rw[bodyM,e1,e2,e3,e4,e5]; rfl]
      refine Con.of Tryz.func225 J Tryz.ntmps225 J (fun E => ?_)
      refine Wz [51,16,16,182,32] ?_;refine DR.s (Qj J J (h1) J) J J ?_;refine Wz [141,8,17,105,194] ?_;refine DR.s (Qt.yes J J J (Qj J J (h2) J)) J J ?_;refine Wz [120,71,8,200,17,17,17] ?_;refine DR.s (Qt.yes J J J (Qj J J (hsz) J)) J J ?_;refine DR.s (Qt.yes J J J (Qj J J (h3) J)) J J ?_;refine Wz [71,8,17] ?_;refine DR.s (Qt.yes J J J (Qj J J (h4) J)) J J ?_;refine Wz [120,71,8,17] ?_;refine DR.s (Qt.yes J J J (Qj J J (h5) J)) J J ?_;refine Wz [120,71,30,37] ?_
      exact Xi J J (Xt [] (by decide) J J J)
     | true =>
      rw[e5] at h5
      rw[show bodyM l n b=tailM b by rw[bodyM,e1,e2,e3,e4,e5]; rfl]
      by_cases k0:b.Kind=0
      ·have hk:decide (b.Kind=0)=true:=Gqb k0
       refine Con.of Tryz.func225 J Tryz.ntmps225 J (fun E => ?_)
       refine Wz [51,16,16,182,32] ?_;refine DR.s (Qj J J (h1) J) J J ?_;refine Wz [141,8,17,105,194] ?_;refine DR.s (Qt.yes J J J (Qj J J (h2) J)) J J ?_;refine Wz [120,71,8,200,17,17,17] ?_;refine DR.s (Qt.yes J J J (Qj J J (hsz) J)) J J ?_;refine DR.s (Qt.yes J J J (Qj J J (h3) J)) J J ?_;refine Wz [71,8,17] ?_;refine DR.s (Qt.yes J J J (Qj J J (h4) J)) J J ?_;refine Wz [120,71,8,17] ?_;refine DR.s (Qt.yes J J J (Qj J J (h5) J)) J J ?_;refine Wz [120,71,30,26,27,2,50,7,31,3,132,27,139,82] ?_;refine zx (Qt.grdT J J J (.hit (.hit .stop)) (fun hgrd=>Zp J J J J)) J ?_;refine Wz [42,80] ?_;refine zx (Qt.grdF J J J (.hit (.hit .stop)) (fun hgrd=>Qj J J (Xs b.Life 0 3) J)) J ?_;refine Wz [77,25] ?_
       refine Q8 J (fun h => ?_) (fun h => ?_)
       ·rw[show tailM b=false by
         rw[tailM,if_pos k0]
         simp only[Gqo,Gqj,decide_eq_true_eq,Gxd] at h
         rcases h with h | h
         ·rw[Gqa (by omega)]; rfl
         ·rw[h]; simp]
        refine Wz [55,63,47] ?_
        exact Xi J J (Xt [] (by decide) J J J)
       simp only[Gql,Gxi,decide_eq_false_iff_not,Gqv] at h
       have ht:tailM b=if b.Life=0 then inR b.Timer 1 20 else inR b.Timer 0 12:=by
        rw[tailM,if_pos k0,Gqb (by omega),h.2]; rfl
       by_cases l0:b.Life=0
       ·have hk2:decide (b.Life=0)=true:=Gqb l0
        rw[ht,if_pos l0]
        refine Wz [11,27,31,101,24] ?_;refine zx (Qj J J (Xs b.Timer 1 20) J) J ?_;refine Wz [109,63,47] ?_
        exact Xi J J (Xt [] (by decide) J J J)
       ·have hk2:decide (b.Life=0)=false:=Gqa l0
        rw[ht,if_neg l0]
        refine Wz [11,27,31,26,24] ?_;refine zx (Qj J J (Xs b.Timer 0 12) J) J ?_;refine Wz [109,153,47] ?_
        exact Xi J J (Xt [] (by decide) J J J)
      have hk:decide (b.Kind=0)=false:=Gqa k0
      by_cases k1:b.Kind=1
      ·have hk1:decide (b.Kind=1)=true:=Gqb k1
       refine Con.of Tryz.func225 J Tryz.ntmps225 J (fun E => ?_)
       refine Wz [51,16,16,182,32] ?_;refine DR.s (Qj J J (h1) J) J J ?_;refine Wz [141,8,17,105,194] ?_;refine DR.s (Qt.yes J J J (Qj J J (h2) J)) J J ?_;refine Wz [120,71,8,200,17,17,17] ?_;refine DR.s (Qt.yes J J J (Qj J J (hsz) J)) J J ?_;refine DR.s (Qt.yes J J J (Qj J J (h3) J)) J J ?_;refine Wz [71,8,17] ?_;refine DR.s (Qt.yes J J J (Qj J J (h4) J)) J J ?_;refine Wz [120,71,8,17] ?_;refine DR.s (Qt.yes J J J (Qj J J (h5) J)) J J ?_;refine Wz [120,71,30,26,27,2,50,7,31,86,7,31,3,132,24,167,82,227,42,82] ?_;refine zx (Qt.grdT J J J (.hit (.hit .stop)) (fun hgrd=>Qj J J (Xs b.Timer 1 25) J)) J ?_;refine Wz [42,109,153,47] ?_
       exact Xi J J (Xt [] (by decide) J J (Xf (by rw[tailM,if_neg k0,if_pos k1,←Bool.decide_and])))
      ·have hk1:decide (b.Kind=1)=false:=Gqa k1
       refine Con.of Tryz.func225 J Tryz.ntmps225 J (fun E => ?_)
       refine Wz [51,16,16,182,32] ?_;refine DR.s (Qj J J (h1) J) J J ?_;refine Wz [141,8,17,105,194] ?_;refine DR.s (Qt.yes J J J (Qj J J (h2) J)) J J ?_;refine Wz [120,71,8,200,17,17,17] ?_;refine DR.s (Qt.yes J J J (Qj J J (hsz) J)) J J ?_;refine DR.s (Qt.yes J J J (Qj J J (h3) J)) J J ?_;refine Wz [71,8,17] ?_;refine DR.s (Qt.yes J J J (Qj J J (h4) J)) J J ?_;refine Wz [120,71,8,17] ?_;refine DR.s (Qt.yes J J J (Qj J J (h5) J)) J J ?_;refine Wz [120,71,30,26,27,2,50,7,31,86,7,31,86,124,60,24,167,82,227,42,82,227,42,82,227,42,46] ?_
       exact Xi J J (Xt [] (by decide) J J (Xf (by rw[tailM,if_neg k0,if_neg k1]; simp only[Bool.decide_and,Bool.and_assoc])))
theorem I_BodyOk (l:TLevel) (n:Int) (b:TBody) (hg:Enc.gd l) (hb:Enc.gd b) (hn:0≤n∧n≤1099511627776):Con Tryz.prog 238 [] [ag l,ai n,ag b] [] (B (levelOk l&&bodyM l n b)):=by
 obtain⟨b1,b2,b3,b4,b5,b6,b7,b8,b9⟩:=hb
 have hc:=Xj l hg
 cases hl:levelOk l with
 |false =>
  rw[hl] at hc
  rw[Bool.false_and]
  refine Con.of Tryz.func238 J Tryz.ntmps238 J (fun E => ?_)
  refine Wz [51,112,38] ?_;refine zx (Qj J J (hc) J) J ?_;refine Wz [5,65,125,29,65,125,29,37] ?_
  exact Xi J J (Xt [] (by decide) J J J)
 | true =>
  rw[hl] at hc
  rw[Bool.true_and]
  refine Con.of Tryz.func238 J Tryz.ntmps238 J (fun E => ?_)
  refine Wz [51,112,38] ?_;refine zx (Qj J J (hc) J) J ?_;refine Wz [5,44,102,1,108,1,152,15,80] ?_;refine zx (Qt.grdF J J J (.hit (.hit .stop)) (fun hgrd=>Zf J J J J)) J ?_;refine Wz [25] ?_
  refine Q8 J (fun h => ?_) (fun h => ?_)
  ·simp only[Gqo,decide_eq_true_eq] at h
   have e1:inR b.Kind 0 2=false:=by rw[←Gxn,Yk]; omega
   rw[show bodyM l n b=false by rw[bodyM,e1]; rfl]
   refine Wz [35] ?_
   exact Xi J J (Xt [] (by decide) J J J)
  simp only[Gql,decide_eq_false_iff_not] at h
  have e1:inR b.Kind 0 2=true:=Yk.2 (by omega)
  have hs16:=size_in e1
  refine Wz [11,27,152,80,145] ?_;refine zx (Qt.grdF J J J (.hit (.hit (.hit .stop))) (fun hgrd=>q_geq J J J J)) J ?_;refine Wz [72] ?_;refine zx (Qt.grdF J J J (.hit (.hit .stop)) (fun hgrd=>Za J J J J)) J ?_;refine zx (Qt.grdF J J J (.hit (.hit (.hit .stop))) (fun hgrd=>Qa J J J)) J ?_;refine zx (Qt.grd2T J J J (.hit1 (.hit1 (.hit1 (.hit1 .stop)))) (fun hgrd hgrd2=>Qf J J J J (by decide))) J ?_;refine zx (Qt.grd2T J J J (.hit (.hit1 (.hit1 (.hit1 (.hit1 .stop))))) (fun hgrd hgrd2=>Qg J J J J J)) J ?_;refine zx (Qt.grd2T J J J (.hit (.hit (.hit1 (.hit1 (.hit1 (.hit1 .stop)))))) (fun hgrd hgrd2=>Zp J J J J)) J ?_;refine zx (Qt.grdF J J J (.part (.part (.part (.hit (.hit (.hit (.hit .stop))))))) (fun hgrd=>Y2 J J J J)) J ?_;refine Wz [25] ?_
  refine Q8 J (fun h2 => ?_) (fun h2 => ?_)
  ·simp only[Gqo,Gqj,decide_eq_true_eq] at h2
   rw[show bodyM l n b=false by
    by_cases ho:0≤b.Owner∧b.Owner≤n-1
    ·have hk:b.Kind=2∧b.Owner≠0:=by omega
     have ht:tailM b=false:=by rw[tailM,if_neg (by omega),if_neg (by omega),Gqa (fun hh=>hk.2 hh.1)]
     rw[bodyM,ht]; simp
    ·have e2:inR b.Owner 0 (n-1)=false:=by rw[←Gxn,Yk]; exact ho
     rw[bodyM,e2]; simp]
   refine Wz [35] ?_
   exact Xi J J (Xt [] (by decide) J J J)
  simp only[Gql,Gxi,decide_eq_false_iff_not] at h2
  have e2:inR b.Owner 0 (n-1)=true:=Yk.2 (by omega)
  have hsz:=I_SizeOf b.Kind
  have h3:=I_SolidAt l b.X b.Y (sizeOf b.Kind) hg b3 b4
  rw[show solidAt l b.X b.Y (sizeOf b.Kind)=solidM l b.X b.Y (sizeOf b.Kind) by rw[solidAt,hl,Yk.2 hs16]; rfl] at h3
  cases e3:solidM l b.X b.Y (sizeOf b.Kind) with
  |true =>
   rw[e3] at h3
   rw[show bodyM l n b=false by rw[bodyM,e1,e2,e3]; rfl]
   refine Wz [214,16] ?_;refine Xd u8_9 u8_10 u8_11 J ?_;refine Wz [147,32,32,32] ?_;refine DR.s (Qj J J (hsz) J) J J ?_;refine DR.s (Qj J J (h3) J) J J ?_;refine Wz [30,37] ?_
   exact Xi J J (Xt [] (by decide) J J J)
  | false =>
   rw[e3] at h3
   refine Wz [214,16] ?_;refine Xd u8_9 u8_10 u8_11 J ?_;refine Wz [147,32,32,32] ?_;refine DR.s (Qj J J (hsz) J) J J ?_;refine DR.s (Qj J J (h3) J) J J ?_;refine Wz [30,26,27] ?_;refine zx (Qj J J (Xk b.VX (-15) 15) J) J ?_;refine Wz [5,80] ?_;refine zx (Qt.grdF J J J (.hit (.hit .stop)) (fun hgrd=>Qj J J (Xk b.VY (-15) 15) J)) J ?_;refine Wz [77,25] ?_
   refine Q8 J (fun h4 => ?_) (fun h4 => ?_)
   ·simp only[Gqo,Gxd] at h4
    rw[show bodyM l n b=false by rw[bodyM]; rcases h4 with h4 | h4 <;> rw[h4] <;> simp]
    refine Wz [35] ?_
    exact Xi J J (Xt [] (by decide) J J J)
   simp only[Gql,Gqv] at h4
   rw[show bodyM l n b=tailM b by rw[bodyM,e1,e2,e3,h4.1,h4.2]; rfl]
   by_cases k0:b.Kind=0
   ·have hk:decide (b.Kind=0)=true:=Gqb k0
    refine Wz [11,27,31,101,27,139,82] ?_;refine zx (Qt.grdT J J J (.hit (.hit .stop)) (fun hgrd=>Zp J J J J)) J ?_;refine Wz [42,80] ?_;refine zx (Qt.grdF J J J (.hit (.hit .stop)) (fun hgrd=>Qj J J (Xk b.Life 0 3) J)) J ?_;refine Wz [77,25] ?_
    refine Q8 J (fun h => ?_) (fun h => ?_)
    ·rw[show tailM b=false by
      rw[tailM,if_pos k0]
      simp only[Gqo,Gqj,decide_eq_true_eq,Gxd] at h
      rcases h with h | h
      ·rw[Gqa (by omega)]; rfl
      ·rw[h]; simp]
     refine Wz [55,177,47] ?_
     exact Xi J J (Xt [] (by decide) J J J)
    simp only[Gql,Gxi,decide_eq_false_iff_not,Gqv] at h
    have hlf:=Yk.1 h.2
    have ht:tailM b=if b.Life=0 then inR b.Timer 1 20 else inR b.Timer 0 12:=by
     rw[tailM,if_pos k0,Gqb (by omega),h.2]; rfl
    by_cases l0:b.Life=0
    ·have hk2:decide (0<b.Life)=false:=Gqa (by omega)
     rw[ht,if_pos l0]
     refine Wz [11,27,179,26,24] ?_;refine zx (Qj J J (Xk b.Timer 1 20) J) J ?_;refine Wz [109,47] ?_
     exact Xi J J (Xt [] (by decide) J J J)
    ·have hk2:decide (0<b.Life)=true:=Gqb (by omega)
     rw[ht,if_neg l0]
     refine Wz [11,27,179,101,24] ?_;refine zx (Qj J J (Xk b.Timer 0 12) J) J ?_;refine Wz [109,177,47] ?_
     exact Xi J J (Xt [] (by decide) J J J)
   have hk:decide (b.Kind=0)=false:=Gqa k0
   refine Wz [11,27,31,26,27,139,80] ?_;refine zx (Qt.grdF J J J (.hit (.hit .stop)) (fun hgrd=>Zp J J J J)) J ?_;refine Wz [25] ?_
   refine Q8 J (fun h5 => ?_) (fun h5 => ?_)
   ·simp only[Gqo,decide_eq_true_eq] at h5
    rw[show tailM b=false by
     rw[tailM,if_neg k0]
     split
     ·rw[Gqa (by omega)]; rfl
     ·exact Gqa (by omega)]
    refine Wz [35] ?_
    exact Xi J J (Xt [] (by decide) J J J)
   simp only[Gql,decide_eq_false_iff_not] at h5
   by_cases k1:b.Kind=1
   ·have hk1:decide (b.Kind=1)=true:=Gqb k1
    rw[show tailM b=inR b.Timer 1 25 by rw[tailM,if_neg k0,if_pos k1,Gqb (by omega)]; rfl]
    refine Wz [11,27,31,101,24] ?_;refine zx (Qj J J (Xk b.Timer 1 25) J) J ?_;refine Wz [109,47] ?_
    exact Xi J J (Xt [] (by decide) J J J)
   ·have hk1:decide (b.Kind=1)=false:=Gqa k1
    rw[show tailM b=decide (b.Timer=0) by rw[tailM,if_neg k0,if_neg k1]; exact decide_eq_decide.2 (by omega)]
    refine Wz [11,27,31,26,24,167,46] ?_
    exact Xi J J (Xt [] (by decide) J J J)
end
section
open Go.RowKit

noncomputable def bodyAt (l:TLevel) (n k:Nat) (b:TBody):Bool:=bodyM l n b&&(if k<n then decide (b.Kind=0∧b.Owner=k) else decide (b.Kind≠0))
def bodiesOk (l:TLevel) (n:Nat) (bs:List TBody):Prop:=∀ (k:Nat) (hk:k<bs.length),bodyAt l n k bs[k]=true
def scoresOk (ss:List Int):Bool:=ss.all fun x=>inR x 0 1000000
noncomputable def worldOk (w:TWorld):Bool:=@decide (levelOk w.Level=true∧inR w.Tick 0 100000=true∧inR w.Seed 0 65535=true∧(1≤w.Scores.length∧w.Scores.length≤4)∧scoresOk w.Scores=true∧(w.Scores.length≤w.Bodies.length∧w.Bodies.length≤24)∧bodiesOk w.Level w.Scores.length w.Bodies) (Classical.propDecidable _)
theorem worldOk_T {w:TWorld} (h:levelOk w.Level=true∧inR w.Tick 0 100000=true∧inR w.Seed 0 65535=true∧(1≤w.Scores.length∧w.Scores.length≤4)∧scoresOk w.Scores=true∧(w.Scores.length≤w.Bodies.length∧w.Bodies.length≤24)∧bodiesOk w.Level w.Scores.length w.Bodies):worldOk w=true:=@decide_eq_true _ (Classical.propDecidable _) h
theorem Z9 {w:TWorld} (h:¬(levelOk w.Level=true∧inR w.Tick 0 100000=true∧inR w.Seed 0 65535=true∧(1≤w.Scores.length∧w.Scores.length≤4)∧scoresOk w.Scores=true∧(w.Scores.length≤w.Bodies.length∧w.Bodies.length≤24)∧bodiesOk w.Level w.Scores.length w.Bodies)):worldOk w=false:=@decide_eq_false _ (Classical.propDecidable _) h
theorem Ka {w:TWorld} (h:worldOk w=true):levelOk w.Level=true∧inR w.Tick 0 100000=true∧inR w.Seed 0 65535=true∧(1≤w.Scores.length∧w.Scores.length≤4)∧scoresOk w.Scores=true∧(w.Scores.length≤w.Bodies.length∧w.Bodies.length≤24)∧bodiesOk w.Level w.Scores.length w.Bodies:=@of_decide_eq_true _ (Classical.propDecidable _) h
theorem score_no {ss:List Int} {k:Nat} (h:k<ss.length) (hn:inR ss[k] 0 1000000=false):scoresOk ss=false:=by
 rw[scoresOk,←Gxn,Gqm]
 intro hh
 rw[hh _ (Gqf h)] at hn
 cases hn
theorem I_WorldOk (x:TWorld) (hg:Enc.gd x):Con Tryz.prog 193 [] [ag x] [] (B (worldOk x)):=by
 obtain⟨gL,gT,gS,gSc,gB⟩:=hg
 have g1:=gSc.1
 have g2:=gB.1
 have hls:=X6 x.Scores
 have hlb:=X6 x.Bodies
 have hc:=Xj x.Level gL
 refine Con.of Tryz.func193 J Tryz.ntmps193 J (fun E => ?_)
 refine Wz [58,170] ?_;refine zx (Qj J J (hc) J) J ?_;refine Wz [5,80] ?_;refine zx (Qt.grdF J J J (.hit (.hit .stop)) (fun hgrd=>Qj J J (Xk x.Tick 0 100000) J)) J ?_;refine Wz [77,72] ?_;refine zx (Qt.grdF J J J (.hit (.hit .stop)) (fun hgrd=>Qj J J (Xk x.Seed 0 65535) J)) J ?_;refine Wz [77,25] ?_
 refine Q8 J (fun h => ?_) (fun h => ?_)
 ·simp only[Gqo,Gxd] at h
  rw[Z9 (fun hh=>by rcases h with (h | h) | h; rw[hh.1] at h; cases h; rw[hh.2.1] at h; cases h; rw[hh.2.2.1] at h; cases h)]
  refine Wz [35] ?_
  exact Xi J J (Xt [] (by decide) J J J)
 simp only[Gql,Gqv] at h
 obtain⟨⟨hL,hT⟩,hS⟩:=h
 refine Wz [11,24,21,98,152,0,70,191,25] ?_
 refine Q8 J (fun h => ?_) (fun h => ?_)
 ·simp only[Gqo,decide_eq_true_eq] at h
  rw[Z9 (fun hh=>by have:=hh.2.2.2.1; omega)]
  refine Wz [35] ?_
  exact Xi J J (Xt [] (by decide) J J J)
 simp only[Gql,decide_eq_false_iff_not] at h
 refine Wz [11,27,104,2,50] ?_;refine Xe (fun m st=>∃ k:Nat,k+m=x.Scores.length∧((x.Scores.take k).all (fun y=>inR y 0 1000000)=true)∧st=(⟨_,[(1,.o (.c (.ptr 0 0))),(3,I (els x.Scores).length),(34,L x.Scores),(35,I (els x.Scores).length),(36,I k)],[.box ((Enc.e x).map (V1.rd []))]⟩:St)) (x.Scores.length) ⟨_,⟨0,by omega,by simp,J⟩,Xv [0] (by kernel_rfl)⟩ ?_
 rintro m_A _ ⟨k,hk_A,hp_A,rfl⟩
 refine Wz [7,12,16] ?_
 refine Q8 J (fun h3 => ?_) (fun h3 => ?_)
 ·have h3:k<x.Scores.length:=by have:=Gqc h3; omega
  have hat:=X5 h3
  cases e:inR x.Scores[k] 0 1000000 with
  |false =>
   have hb:=Xk x.Scores[k] 0 1000000
   rw[e] at hb
   rw[Z9 (fun hh=>by have h9:=hh.2.2.2.2.1; rw[score_no h3 e] at h9; cases h9)]
   refine Wz [9,7,84,3,4] ?_;refine zx (Qj J J (hb) J) J ?_;refine Wz [5,74] ?_
   exact Xi J J (Xt [] (by decide) J J J)
  |true =>
   have hb:=Xk x.Scores[k] 0 1000000
   rw[e] at hb
   refine Wz [9,7,84,3,4] ?_;refine zx (Qj J J (hb) J) J ?_;refine Wz [5,183,60,100,14,0,2] ?_
   exact⟨x.Scores.length-(k+1),by omega,_,⟨k+1,by omega,Xz hp_A h3 e,J⟩,Xv [0] (by kernel_rfl)⟩
 have h3:¬k<x.Scores.length:=by have:=Gqg h3; omega
 have hall:scoresOk x.Scores=true:=Xy hp_A (by omega)
 refine Wz [68,27,104,152,80,130,222,25] ?_
 refine Q8 J (fun h5 => ?_) (fun h5 => ?_)
 ·simp only[Gqo,decide_eq_true_eq] at h5
  rw[Z9 (fun hh=>by have:=hh.2.2.2.2.2.1; omega)]
  refine Wz [35] ?_
  exact Xi J J (Xt [] (by decide) J J J)
 simp only[Gql,decide_eq_false_iff_not] at h5
 refine Wz [11,27,104,2,50] ?_;refine Xe (fun m st=>∃ k:Nat,k+m=x.Bodies.length∧((∀ (j:Nat) (hj:j<x.Bodies.length),j<k→bodyAt x.Level x.Scores.length j x.Bodies[j]=true))∧st=(⟨_,[(1,.o (.c (.ptr 0 0))),(3,I (els x.Scores).length),(56,L x.Bodies),(57,I (els x.Bodies).length),(58,I k)],[.box ((Enc.e x).map (V1.rd []))]⟩:St)) (x.Bodies.length) ⟨_,⟨0,by omega,fun j hj h0=>by omega,J⟩,Xv [0] (by kernel_rfl)⟩ ?_
 rintro m_C _ ⟨k,hk_C,hp_C,rfl⟩
 refine Wz [7,12,16] ?_
 refine Q8 J (fun h6 => ?_) (fun h6 => ?_)
 ·have h6:k<x.Bodies.length:=by have:=Gqc h6; omega
  have hat:=X5 h6
  have gb:=gB.2 _ (Gqf h6)
  have hb:=I_BodyOk x.Level (els x.Scores).length x.Bodies[k] gL gb (by omega)
  rw[hL,Bool.true_and] at hb
  have hlen:((els x.Scores).length:Int)=(x.Scores.length:Int):=by rw[hls]
  cases e:bodyM x.Level (els x.Scores).length x.Bodies[k] with
  |false =>
   rw[e] at hb
   rw[Z9 (fun hh=>by have h9:=hh.2.2.2.2.2.2 k h6; rw[bodyAt,←hlen,e] at h9; cases h9)]
   refine Wz [9,4,89,22,96,49,170,0,38] ?_;refine zx (Qj J J (hb) J) J ?_;refine Wz [5,181,63,118,47] ?_
   exact Xi J J (Xt [] (by decide) J J J)
  | true =>
   rw[e] at hb
   rw[hlen] at e
   by_cases hkn:(k:Int)<(els x.Scores).length
   ·have hd:decide ((k:Int)<(els x.Scores).length)=true:=Gqb hkn
    have hd2:decide (((els x.Scores).length:Int)≤k)=false:=Gqa (by omega)
    refine Wz [9,4,89,22,96,49,170,0,38] ?_;refine zx (Qj J J (hb) J) J ?_;refine Wz [53,28,67,44,102,1,108,1,139,1,80,145,243,1,76,29,2] ?_
    refine Q8 J (fun h7 => ?_) (fun h7 => ?_)
    ·simp only[Gqo,decide_eq_true_eq] at h7
     rw[Z9 (fun hh=>by have h9:=hh.2.2.2.2.2.2 k h6; rw[bodyAt,e,if_pos (by omega)] at h9; have:=Gqc h9; omega)]
     refine Wz [55,63,118,47] ?_
     exact Xi J J (Xt [] (by decide) J J J)
    ·simp only[Gql,decide_eq_false_iff_not] at h7
     refine Wz [11,10,157,65,125,15,183,60,100,14,0,2] ?_
     exact⟨x.Bodies.length-(k+1),by omega,_,⟨k+1,by omega,fun j hj h0=>by by_cases hjk:j=k; subst hjk; rw[bodyAt,e,if_pos (by omega)]; exact Gqb (by omega); exact hp_C j hj (by omega),J⟩,Xv [0] (by kernel_rfl)⟩
   ·have hd:decide ((k:Int)<(els x.Scores).length)=false:=Gqa hkn
    have hd2:decide (((els x.Scores).length:Int)≤k)=true:=Gqb (by omega)
    by_cases k0:x.Bodies[k].Kind=0
    ·have hd3:decide (x.Bodies[k].Kind=0)=true:=Gqb k0
     rw[Z9 (fun hh=>by have h9:=hh.2.2.2.2.2.2 k h6; rw[bodyAt,e,if_neg (by omega)] at h9; have:=Gqc h9; omega)]
     refine Wz [9,4,89,22,96,49,170,0,38] ?_;refine zx (Qj J J (hb) J) J ?_;refine Wz [53,28,67,65,119,81,81,81,81,125,15,26,10,157,44,102,1,108,1,31,29,74] ?_
     exact Xi J J (Xt [] (by decide) J J J)
    ·have hd3:decide (x.Bodies[k].Kind=0)=false:=Gqa k0
     refine Wz [9,4,89,22,96,49,170,0,38] ?_;refine zx (Qj J J (hb) J) J ?_;refine Wz [53,28,67,65,119,81,81,81,81,125,15,26,10,157,44,102,1,108,1,31,29,183,60,100,14,0,2] ?_
     exact⟨x.Bodies.length-(k+1),by omega,_,⟨k+1,by omega,fun j hj h0=>by by_cases hjk:j=k; subst hjk; rw[bodyAt,e,if_neg (by omega)]; exact Gqb k0; exact hp_C j hj (by omega),J⟩,Xv [0] (by kernel_rfl)⟩
 have h6:¬k<x.Bodies.length:=by have:=Gqg h6; omega
 rw[worldOk_T ⟨hL,hT,hS,by omega,hall,by omega,fun j hj=>hp_C j hj (by omega)⟩]
 refine Wz [94] ?_
 exact Xi J J (Xt [] (by decide) J J J)
theorem S_WorldOk (x:TWorld) (hg:Enc.gd x):Con Tryz.prog 157 [] [ag x] [] (B (worldOk x)):=by
 obtain⟨gL,gT,gS,gSc,gB⟩:=hg
 have g1:=gSc.1
 have g2:=gB.1
 have hls:=X6 x.Scores
 have hlb:=X6 x.Bodies
 have hc:=S_LevelOk x.Level gL
 refine Con.of Tryz.func157 J Tryz.ntmps157 J (fun E => ?_)
 refine Wz [58,24,21,3,170] ?_;refine zx (Qj J J (hc) J) J ?_;refine Wz [5,80] ?_;refine zx (Qt.grdF J J J (.hit (.hit .stop)) (fun hgrd=>Qj J J (Xs x.Tick 0 100000) J)) J ?_;refine Wz [77,72] ?_;refine zx (Qt.grdF J J J (.hit (.hit .stop)) (fun hgrd=>Qj J J (Xs x.Seed 0 65535) J)) J ?_;refine Wz [77,76,0,70] ?_;refine zx (Qt.grdF J J J (.hit .stop) (fun hgrd=>Qj J J (Xs (els x.Scores).length 1 4) J)) J ?_;refine Wz [154,72,130,158] ?_;refine zx (Qt.grdF J J J (.hit (.hit (.hit (.hit .stop)))) (fun hgrd=>Qj J J (Xs (els x.Bodies).length (els x.Scores).length 24) J)) J ?_;refine zx (Qt.grdF J J J (.hit (.hit (.hit (.hit (.hit .stop))))) (fun hgrd=>Q3 J J J)) J ?_;refine Wz [25] ?_
 refine Q8 J (fun h => ?_) (fun h => ?_)
 ·simp only[Gqo,Gxd] at h
  rw[Z9 (fun hh=>by rcases h with (((h | h) | h) | h) | h; rw[hh.1] at h; cases h; rw[hh.2.1] at h; cases h; rw[hh.2.2.1] at h; cases h; rw[←Gxn,Yk] at h; have:=hh.2.2.2.1; omega; rw[←Gxn,Yk] at h; have:=hh.2.2.2.2.2.1; omega)]
  refine Wz [35] ?_
  exact Xi J J (Xt [] (by decide) J J J)
 simp only[Gql,Gqv] at h
 obtain⟨⟨⟨⟨hL,hT⟩,hS⟩,hN⟩,hB⟩:=h
 have hN:=Yk.1 hN
 have hB:=Yk.1 hB
 refine Wz [11,39] ?_;refine Xe (fun m st=>∃ k:Nat,k+m=x.Scores.length∧((x.Scores.take k).all (fun y=>inR y 0 1000000)=true)∧st=(⟨_,[(1,.o (.c (.ptr 0 0))),(3,I (els x.Scores).length),(4,I k)],[.box ((Enc.e x).map (V1.rd []))]⟩:St)) (x.Scores.length) ⟨_,⟨0,by omega,by simp,J⟩,Xv [0] (by kernel_rfl)⟩ ?_
 rintro m_A _ ⟨k,hk_A,hp_A,rfl⟩
 refine Wz [28,12] ?_
 refine Q8 J (fun h3 => ?_) (fun h3 => ?_)
 ·have h3:k<x.Scores.length:=by have:=Gqc h3; omega
  have hat:=X5 h3
  have hb:=Xs x.Scores[k] 0 1000000
  cases e:inR x.Scores[k] 0 1000000 with
  |false =>
   rw[e] at hb
   rw[Z9 (fun hh=>by have h9:=hh.2.2.2.2.1; rw[score_no h3 e] at h9; cases h9)]
   refine Wz [9,36,84] ?_;refine zx (Qj J J (hb) J) J ?_;refine Wz [5,74] ?_
   exact Xi J J (Xt [] (by decide) J J J)
  |true =>
   rw[e] at hb
   refine Wz [9,36,84] ?_;refine zx (Qj J J (hb) J) J ?_;refine Wz [5,57] ?_
   exact⟨x.Scores.length-(k+1),by omega,_,⟨k+1,by omega,Xz hp_A h3 e,J⟩,Xv [0] (by kernel_rfl)⟩
 have h3:¬k<x.Scores.length:=by have:=Gqg h3; omega
 have hall:scoresOk x.Scores=true:=Xy hp_A (by omega)
 refine Wz [68,39] ?_;refine Xe (fun m st=>∃ k:Nat,k+m=x.Bodies.length∧((∀ (j:Nat) (hj:j<x.Bodies.length),j<k→bodyAt x.Level x.Scores.length j x.Bodies[j]=true))∧st=(⟨_,[(1,.o (.c (.ptr 0 0))),(3,I (els x.Scores).length),(5,I k)],[.box ((Enc.e x).map (V1.rd []))]⟩:St)) (x.Bodies.length) ⟨_,⟨0,by omega,fun j hj h0=>by omega,J⟩,Xv [0] (by kernel_rfl)⟩ ?_
 rintro m_C _ ⟨k,hk_C,hp_C,rfl⟩
 refine Wz [111,13,21,12] ?_
 refine Q8 J (fun h6 => ?_) (fun h6 => ?_)
 ·have h6:k<x.Bodies.length:=by have:=Gqc h6; omega
  have hat:=X5 h6
  have gb:=gB.2 _ (Gqf h6)
  have hb:=S_l02Body x.Level (els x.Scores).length x.Bodies[k] gL hL gb (by omega)
  have hlen:((els x.Scores).length:Int)=(x.Scores.length:Int):=by rw[hls]
  cases e:bodyM x.Level (els x.Scores).length x.Bodies[k] with
  |false =>
   rw[e] at hb
   rw[Z9 (fun hh=>by have h9:=hh.2.2.2.2.2.2 k h6; rw[bodyAt,←hlen,e] at h9; cases h9)]
   refine Wz [9,36,89,22,49,7,148,0,38] ?_;refine zx (Qj J J (hb) J) J ?_;refine Wz [5,65,119,119,125,29,65,119,81,81,81,81,125,29,74] ?_
   exact Xi J J (Xt [] (by decide) J J J)
  | true =>
   rw[e] at hb
   rw[hlen] at e
   by_cases hkn:(k:Int)<(els x.Scores).length
   ·have hd:decide ((k:Int)<(els x.Scores).length)=true:=Gqb hkn
    by_cases k0:x.Bodies[k].Kind=0
    ·have hd3:decide (x.Bodies[k].Kind=0)=true:=Gqb k0
     by_cases ho:x.Bodies[k].Owner≠(k:Int)
     ·have hd4:decide (x.Bodies[k].Owner≠(k:Int))=true:=Gqb ho
      rw[Z9 (fun hh=>by have h9:=hh.2.2.2.2.2.2 k h6; rw[bodyAt,e,if_pos (by omega)] at h9; have:=Gqc h9; omega)]
      refine Wz [9,36,89,22,49,7,148,0,38] ?_;refine zx (Qj J J (hb) J) J ?_;refine Wz [5,44,102,1,108,1,31,1,20,67,1,215,15,20,44,67,1,44,102,1,108,1,44,62,1,29,15,74] ?_
      exact Xi J J (Xt [] (by decide) J J J)
     ·have hd4:decide (x.Bodies[k].Owner≠(k:Int))=false:=Gqa ho
      refine Wz [9,36,89,22,49,7,148,0,38] ?_;refine zx (Qj J J (hb) J) J ?_;refine Wz [5,44,102,1,108,1,31,1,20,67,1,215,15,20,44,67,1,44,102,1,108,1,44,62,1,29,15,57] ?_
      exact⟨x.Bodies.length-(k+1),by omega,_,⟨k+1,by omega,fun j hj h0=>by by_cases hjk:j=k; subst hjk; rw[bodyAt,e,if_pos (by omega)]; exact Gqb (by omega); exact hp_C j hj (by omega),J⟩,Xv [0] (by kernel_rfl)⟩
    ·have hd3:decide (x.Bodies[k].Kind=0)=false:=Gqa k0
     rw[Z9 (fun hh=>by have h9:=hh.2.2.2.2.2.2 k h6; rw[bodyAt,e,if_pos (by omega)] at h9; have:=Gqc h9; omega)]
     refine Wz [9,36,89,22,49,7,148,0,38] ?_;refine zx (Qj J J (hb) J) J ?_;refine Wz [5,44,102,1,108,1,31,1,20,67,1,215,15,65,119,81,81,81,81,125,29,74] ?_
     exact Xi J J (Xt [] (by decide) J J J)
   ·have hd:decide ((k:Int)<(els x.Scores).length)=false:=Gqa hkn
    by_cases k0:x.Bodies[k].Kind=0
    ·have hd3:decide (x.Bodies[k].Kind=0)=true:=Gqb k0
     rw[Z9 (fun hh=>by have h9:=hh.2.2.2.2.2.2 k h6; rw[bodyAt,e,if_neg (by omega)] at h9; have:=Gqc h9; omega)]
     refine Wz [9,36,89,22,49,7,148,0,38] ?_;refine zx (Qj J J (hb) J) J ?_;refine Wz [5,44,102,1,108,1,31,1,20,67,1,215,15,65,119,81,81,81,81,125,29,74] ?_
     exact Xi J J (Xt [] (by decide) J J J)
    ·have hd3:decide (x.Bodies[k].Kind=0)=false:=Gqa k0
     refine Wz [9,36,89,22,49,7,148,0,38] ?_;refine zx (Qj J J (hb) J) J ?_;refine Wz [5,44,102,1,108,1,31,1,20,67,1,215,15,20,44,67,1,65,119,1,15,15,57] ?_
     exact⟨x.Bodies.length-(k+1),by omega,_,⟨k+1,by omega,fun j hj h0=>by by_cases hjk:j=k; subst hjk; rw[bodyAt,e,if_neg (by omega)]; exact Gqb k0; exact hp_C j hj (by omega),J⟩,Xv [0] (by kernel_rfl)⟩
 have h6:¬k<x.Bodies.length:=by have:=Gqg h6; omega
 rw[worldOk_T ⟨hL,hT,hS,by omega,hall,by omega,fun j hj=>hp_C j hj (by omega)⟩]
 refine Wz [94] ?_
 exact Xi J J (Xt [] (by decide) J J J)
end
section
open Go.RowKit

theorem OW.take {w:World} {k:Nat} {es:List (List T)} {v:Value} {fp:List Nat} (h:OW w (.sl k es) v fp) (hnd:fp.Nodup) {n:Nat} (hn:n≤es.length):∃ A c fp',v = .slice A es.length c∧es.length≤c∧OW w (.sl k (es.take n)) (.slice (if c=0 then A else A.map (·.add (0*k))) (n-0) (c-0)) fp'∧(∀ b∈fp',b∈fp)∧fp'.Nodup:=by
 cases h with
 |nil =>
  have:n=0:=by simpa using hn
  subst this
  exact⟨none,0,[],J,Gqi _,by simpa using OW.nil (w:=w) k,by simp,by simp⟩
 | sl _ b o _ c tid cur fz val fps hg hz hc hm hs hp hk hf hfk hv ht =>
  have hA:(if c=0 then some (⟨b,o,none⟩:Addr) else (some (⟨b,o,none⟩:Addr)).map (·.add (0*k)))=some ⟨b,o,none⟩:=by
   split
   ·rfl
   ·simp[Addr.add]
  have hl:(es.take n).length=n:=by simp; omega
  have hfl:fps.flatten.flatten=(fps.take n).flatten.flatten++(fps.drop n).flatten.flatten:=by
   rw[←Gqp,←Gqp,Gxe]
  refine⟨some ⟨b,o,none⟩,c,b::(fps.take n).flatten.flatten,J,hc,?_,fun x hx => ?_,?_⟩
  ·rw[hA]
   have h1:=OW.sl (w:=w) (es.take n) b o k c tid cur fz val (fps.take n) hg hz (by omega) hm hs hp (fun e he=>hk e (List.mem_of_mem_take he)) (by simp[hf]) (fun f hf'=>hfk f (List.mem_of_mem_take hf'))
    (fun i j hi hj=>hv i j (by omega) hj) (fun i j e t fs f g1 g2 g3 g4=>by
     have hi:=Yh g1
     rw[hl] at hi
     rw[Gxf,if_pos hi] at g1 g3
     exact ht i j e t fs f g1 g2 g3 g4)
   rw[hl] at h1
   simpa using h1
  ·rcases List.mem_cons.1 hx with rfl | hx
   ·simp
   ·exact Gq4 _ (by rw[hfl]; exact List.mem_append_left _ hx)
  ·rw[hfl,←List.cons_append] at hnd
   exact (List.nodup_append.1 hnd).1

def allP {α:Type} (f:α→Prop):List α→Prop
 | []=>True
 |x::l=>f x∧allP f l
theorem allP_map {α β:Type} {f:α→Prop} {g h:α→β} (hgh:∀ x,f x→g x=h x):∀ {l:List α},allP f l→l.map g=l.map h
 | [],_=>rfl
 |x::l,hl=>by rw[List.map_cons,List.map_cons,hgh x hl.1,allP_map hgh hl.2]
section
variable {P:Program} {E:Env} {ops:Array Oper} {o:Oper} {st:St} {rest:List Oper} {QQ:Exit→St→Prop} {t:TypeId} {y u:Operand} {rs:List Nat} {j:Int} {m:Nat}
end
section
variable {P:Program} {E:Env} {ops:Array Oper} {o:Oper} {st:St} {rest:List Oper} {QQ:Exit→St→Prop} {t:TypeId} {y u:Operand} {rs:List Nat} {j:Int}
end
end
section
open Go.RowKit

def V2.allk (f:V1→Prop):V2→Prop
 | .c x=>f x
 | .ag xs=>allP f xs
def V.allk (f:V1→Prop):V→Prop
 | .o x=>x.allk f
 | .tu xs=>allP (V2.allk f) xs
 | .iff _ x=>x.allk f
def Ob.allk (f:V1→Prop):Ob→Prop
 | .box cs=>allP f cs
 | .gh _ x=>x.allk f
 | .lk x y=>f x∧f y
 |_=>True
section
variable {f:V1→Prop} {g h:V1→V1} (hgh:∀ x,f x→g x=h x)
include hgh
theorem V2.allk_eq (x:V2) (hx:x.allk f):x.mapk g=x.mapk h:=by
 cases x with
 |c x=>exact congrArg V2.c (hgh x hx)
 |ag xs=>exact congrArg V2.ag (allP_map hgh hx)
theorem V.allk_eq (x:V) (hx:x.allk f):x.mapk g=x.mapk h:=by
 cases x with
 |o x=>exact congrArg V.o (V2.allk_eq hgh x hx)
 |tu xs=>exact congrArg V.tu (allP_map (V2.allk_eq hgh) hx)
 |iff cs x=>exact congrArg (V.iff cs) (V2.allk_eq hgh x hx)
theorem Ob.allk_eq (x:Ob) (hx:x.allk f):x.mapk g=x.mapk h:=by
 cases x with
 |box cs=>exact congrArg Ob.box (allP_map hgh hx)
 |gh i x=>exact congrArg (Ob.gh i) (V2.allk_eq hgh x hx)
 |lk x y=>exact show Ob.lk _ _=Ob.lk _ _ by rw[hgh x hx.1,hgh y hx.2]
 |_=>rfl
end
def V1.leok (p kk i j:Nat):V1→Prop
 | .le q k a b=>match Nat.beq q p with
  |true=>k=kk∧a=i∧b=j
  |false=>True
 |_=>True
def V1.tole (p m:Nat):V1→V1
 | .le q k a b=>match Nat.beq q p with
  |true => .ref m
  |false=>(V1.le q k a b).killw [p,m] [p]
 |x=>x.killw [p,m] [p]
def V1.tole0 (p m kk i j:Nat):V1→V1
 | .le q k a b=>match Nat.beq q p with
  |true=>if k=kk∧a=i∧b=j then .ref m else .un
  |false=>(V1.le q k a b).killw [p,m] [p]
 |x=>x.killw [p,m] [p]
theorem V1.tole_eq {p m kk i j:Nat} (x:V1) (hx:x.leok p kk i j):x.tole0 p m kk i j=x.tole p m:=by
 cases x with
 | le q k a b =>
  simp only[V1.tole0,V1.tole]
  simp only[V1.leok] at hx
  split
  ·rename_i hq
   rw[hq] at hx
   exact if_pos hx
  ·rfl
 |_=>rfl
theorem Wk.split0 {st:St} {p kk i j k':Nat} {es es0:List (List T)} {e:List T} (hp:st.objs[p]? = some (.row kk es)) (he:es[i]? = some e) (hx:e[j]? = some (.sl k' es0)) :
  Wk st ⟨st.n,st.tmps.map fun t=>(t.1,t.2.mapk (V1.tole0 p st.objs.length kk i j)),((st.objs.map (Ob.mapk (V1.tole0 p st.objs.length kk i j))).set p (.row kk (es.set i (splice e j [.un])))) ++ [.row k' es0]⟩:=by
 intro w H F a h1
 obtain⟨v,fp,e1,e2⟩:=h1.ow hp
 have hnd:=h1.ok.nodup p
 rw[e1] at hnd
 have hnil:H st.objs.length = .nil:=by
  have:=h1.obs st.objs.length
  simpa[Gqd,RB] using this
 have hplt:=Yh hp
 obtain⟨b,o,c,u,f,rfl,hbf,hcell,hO,hfn,hsub,hback⟩:=e2.inner hnd he hx
 have hlt:∀ x∈fp,x<w.heap.size:=fun x hx=>h1.ok.lt (p:=p) (by rw[e1]; exact hx)
 have hu1:u.oneCell'=true:=OW.one hO
 obtain⟨fp',g1,g2,g3⟩:=hback w .un [] (fun _ _ _=>rfl) (.un u hu1) List.nodup_nil (fun x hx=>by simp at hx)
 have g4:∀ x∈fp',x∈fp∧x∉f:=fun x hx=>(g3 x hx).resolve_right (by simp)
 obtain⟨N,hN⟩:∃ N,N=st.objs.length:=⟨_,rfl⟩
 rw[←hN] at hnil ⊢
 have hNp:N≠p:=by omega
 obtain⟨H',hH'⟩:∃ H':Hs,H'=fun q=>if q=N then .ow (.sl k' es0) u f else if q=p then .ow (.sl kk (es.set i (splice e j [.un]))) (.slice (some ⟨b,o,none⟩) es.length c) fp' else H q:=⟨_,rfl⟩
 have hHN:H' N = .ow (.sl k' es0) u f:=by rw[hH']; exact if_pos rfl
 have hHp:H' p = .ow (.sl kk (es.set i (splice e j [.un]))) (.slice (some ⟨b,o,none⟩) es.length c) fp':=by rw[hH']; simp[Ne.symm hNp]
 have hHo:∀ q,q≠N→q≠p→H' q=H q:=fun q h1 h2=>by rw[hH']; simp only; rw[if_neg h1,if_neg h2]
 have hin:∀ q x,x∈(H' q).fp→(q=N∧x∈f)∨(q=p∧x∈fp∧x∉f)∨(q≠N∧q≠p∧x∈(H q).fp):=fun q x hx=>by
  by_cases hq:q=N
  ·subst hq; rw[hHN] at hx; exact .inl ⟨rfl,hx⟩
  ·by_cases hqp:q=p
   ·subst hqp; rw[hHp] at hx; exact .inr (.inl ⟨rfl,g4 x hx⟩)
   ·rw[hHo q hq hqp] at hx; exact .inr (.inr ⟨hq,hqp,hx⟩)
 have hpf:∀ x,x∈fp→x∈(H p).fp:=fun x hx=>by rw[e1]; exact hx
 have hok:Ok w H' F:=by
  refine⟨fun q => ?_,fun q => ?_,fun q r x h2 h3 => ?_,fun q x h2 => ?_,h1.ok.flt⟩
  ·by_cases hq:q=N
   ·subst hq; rw[hHN]; exact hO
   ·by_cases hqp:q=p
    ·subst hqp; rw[hHp]; exact g1
    ·rw[hHo q hq hqp]; exact h1.ok.says q
  ·by_cases hq:q=N
   ·subst hq; rw[hHN]; exact hfn
   ·by_cases hqp:q=p
    ·subst hqp; rw[hHp]; exact g2
    ·rw[hHo q hq hqp]; exact h1.ok.nodup q
  ·rcases hin q x h2 with ⟨rfl,k1⟩ | ⟨rfl,k1,k2⟩ | ⟨k1,k2,k3⟩ <;> rcases hin r x h3 with ⟨e5,m1⟩ | ⟨e5,m1,m2⟩ | ⟨m1,m2,m3⟩
   ·exact e5.symm
   ·exact absurd k1 m2
   ·exact absurd (h1.ok.disj r p x m3 (hpf x (hsub x k1))) m2
   ·exact absurd m1 k2
   ·exact e5.symm
   ·exact absurd (h1.ok.disj r q x m3 (hpf x k1)) m2
   ·exact absurd (h1.ok.disj q p x k3 (hpf x (hsub x m1))) k2
   ·exact absurd (h1.ok.disj q p x k3 (hpf x m1)) k2
   ·exact h1.ok.disj q r x k3 m3
  ·rcases hin q x h2 with ⟨rfl,k1⟩ | ⟨rfl,k1,k2⟩ | ⟨k1,k2,k3⟩
   ·exact h1.ok.free p x (hpf x (hsub x k1))
   ·exact h1.ok.free q x (hpf x k1)
   ·exact h1.ok.free q x k3
 have hfpo:∀ q x,x∈(H' q).fp→∃ r,x∈(H r).fp:=fun q x hx=>by
  rcases hin q x hx with ⟨rfl,k1⟩ | ⟨rfl,k1,k2⟩ | ⟨k1,k2,k3⟩
  ·exact⟨p,hpf x (hsub x k1)⟩
  ·exact⟨q,hpf x k1⟩
  ·exact⟨q,k3⟩
 have hghs:∀ q i v,H' q = .gh i v→∃ r,H r = .gh i v:=fun q i v hq=>by
  by_cases hqN:q=N
  ·subst hqN; rw[hHN] at hq; cases hq
  ·by_cases hqp:q=p
   ·subst hqp; rw[hHp] at hq; cases hq
   ·exact⟨q,by rw[←hHo q hqN hqp]; exact hq⟩
 have htn:Turn w H w H' [p,N]:=⟨rfl,rfl,rfl,Gqi _,fun _ _ _=>rfl,fun q hq=>hHo q (fun e=>hq (by simp[e])) (fun e=>hq (by simp[e])),fun q x hx => .inl (hfpo q x hx),hghs⟩
 have hplace:∀ q ∈ [p],Place (H q) (H' q):=fun q hq=>by
  have:q=p:=by simpa using hq
  subst this
  exact .inl ⟨_,_,_,_,_,e1,hHp⟩
 have hone:∀ x v,R1 w H F x v→R1 w H' F (V1.tole0 p N kk i j x) v:=fun x v hx=>by
  cases x with
  | le q k a b' =>
   simp only[V1.tole0]
   split
   ·rename_i hq
    have hqp:=Gxb hq
    subst hqp
    split
    ·rename_i hc
     rw[hc.1,hc.2.1,hc.2.2] at hx
     obtain⟨b2,o2,n2,c2,x2,fp2,k1,k2,k3,k4⟩:=hx
     rw[e1] at k1
     simp only[Pc.ow.injEq,Value.slice.injEq,Option.some.injEq,Addr.mk.injEq] at k1
     obtain⟨_,⟨⟨rfl,rfl,_⟩,_,_⟩,_⟩:=k1
     rw[hcell] at k4
     simp only[Option.some.injEq] at k4
     subst k4
     exact⟨_,_,hHN⟩
    ·trivial
   ·exact R1.killw h1.ok htn hplace hx
  |_=>exact R1.killw h1.ok htn hplace hx
 refine⟨H',h1.mapk (V1.tole0 p N kk i j) hone hok _ (fun q => ?_),hfpo,hghs⟩
 by_cases hqN:q=N
 ·subst hqN
  rw[Yg (x := .row k' es0) (by rw[Gqx (by simp; omega)]; simp[hN])]
  exact⟨_,_,hHN⟩
 by_cases hqp:q=p
 ·subst hqp
  rw[Yg (x := .row kk (es.set i (splice e j [.un]))) (by rw[Gq1 (by simpa using hplt)]; simp[hplt])]
  exact⟨_,_,hHp⟩
 ·rcases Gqq q st.objs.length with hlt2 | hge
  ·rw[Gqd,Gq1 (by simpa using hlt2),Gq8 (Ne.symm hqp),Gqh]
   have h2:=h1.obs q
   rw[Gqd] at h2
   have h3:H' q=H q:=hHo q hqN hqp
   cases ho:st.objs[q]? with
   |none=>rw[ho] at h2; exact h3.trans h2
   |some ob=>rw[ho] at h2; exact RB.mapk hone h3 h2
  ·rw[Gqd,List.getElem?_eq_none (by simp; omega)]
   have h2:=h1.obs q
   rw[Gqd,List.getElem?_eq_none hge] at h2
   exact (hHo q hqN hqp).trans h2
theorem Wk.split {st:St} {p kk i j k':Nat} {es es0:List (List T)} {e:List T} (hp:st.objs[p]? = some (.row kk es)) (he:es[i]? = some e) (hx:e[j]? = some (.sl k' es0)) (ht:allP (fun t:Nat×V=>t.2.allk (V1.leok p kk i j)) st.tmps) (ho:allP (Ob.allk (V1.leok p kk i j)) st.objs) :
  Wk st ⟨st.n,st.tmps.map fun t=>(t.1,t.2.mapk (V1.tole p st.objs.length)),((st.objs.map (Ob.mapk (V1.tole p st.objs.length))).set p (.row kk (es.set i (splice e j [.un])))) ++ [.row k' es0]⟩:=by
 have h:=Wk.split0 hp he hx
 rw[allP_map (g:=fun e:Nat×V=>(e.1,e.2.mapk (V1.tole0 p st.objs.length kk i j))) (h:=fun e:Nat×V=>(e.1,e.2.mapk (V1.tole p st.objs.length))) (fun e he=>by rw[V.allk_eq V1.tole_eq e.2 he]) ht,allP_map (fun x hx=>Ob.allk_eq V1.tole_eq x hx) ho] at h
 exact h
end
end Go.Proofs.YtoecjaohdnoenaaGreat
