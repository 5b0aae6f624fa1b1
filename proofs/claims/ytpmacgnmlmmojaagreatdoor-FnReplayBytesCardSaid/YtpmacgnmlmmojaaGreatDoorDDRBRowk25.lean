/-
  Rules, data and contracts of functions: part 26 of the proof.
  Conditions: those that each theorem names.
-/
import Derived.Test.YtpmacgnmlmmojaaGreatDoorDDRBRowk24
set_option linter.unusedSimpArgs false
set_option linter.unusedVariables false
set_option maxRecDepth 8000
set_option maxHeartbeats 8000000
namespace Go.Proofs.YtpmacgnmlmmojaaGreatDoor
section
open Go.RowKit

theorem rowsM_size {rows:List ByteArray} {w:Nat}:∀ n s,rowsM rows w n=some s→∀ r,r<n→∃ row,rows[r]? = some row∧row.size=w
 |0,s,_=>fun r hr=>by omega
 | n+1,s,h=>fun r hr=>by
  rw[rowsM] at h
  split at h
  ·cases h
  ·rename_i s1 h1
   split at h
   ·cases h
   ·rename_i row hrow
    split at h
    ·rename_i hw
     by_cases e:r=n
     ·subst e; exact⟨row,hrow,hw⟩
     ·exact rowsM_size n s1 h1 r (by omega)
    ·cases h
theorem Zt {l:TLevel} (h:levelOk l=true):3≤l.Rows.length∧l.Rows.length≤12∧∃ w,4≤w∧w≤20∧∀ (r:Nat) (hr:r<l.Rows.length),(l.Rows[r]).size=w:=by
 unfold levelOk at h
 simp only[Gqg,decide_eq_true_eq] at h
 obtain⟨⟨⟨⟨h1,h2⟩,h3⟩,h4⟩,h5⟩:=h
 refine⟨h1,h2,widthM l.Rows,h3,h4,fun r hr => ?_⟩
 split at h5
 ·rename_i s hs
  obtain⟨row,h6,h7⟩:=rowsM_size _ s hs r hr
  rw[Gqd hr] at h6
  simp only[Option.some.injEq] at h6
  rw[h6]; exact h7
 ·cases h5
def sizeOf (k:Int):Int:=if k=0 then 12 else if k=1 then 4 else if k=2 then 8 else 0
theorem I_SizeOf (k:Int):Con Tryz.prog 223 [] [ai k] [] (I (sizeOf k)):=by
 by_cases h0:k=0
 ·have hb:decide (k=0)=true:=Gqb h0
  rw[show sizeOf k=12 by rw[sizeOf,if_pos h0]]
  refine Con.of Tryz.func223 J Tryz.ntmps223 J (fun E => ?_)
  refine Wz [94,2,33,1,13,11,65,1,88,73] ?_
  exact Gq J (Gr [] J J J)
 have hb0:decide (k=0)=false:=Gqa h0
 by_cases h1:k=1
 ·have hb:decide (k=1)=true:=Gqb h1
  rw[show sizeOf k=4 by rw[sizeOf,if_neg h0,if_pos h1]]
  refine Con.of Tryz.func223 J Tryz.ntmps223 J (fun E => ?_)
  refine Wz [94,2,33,1,13,92,1,13,11,65,1,88,73] ?_
  exact Gq J (Gr [] J J J)
 have hb1:decide (k=1)=false:=Gqa h1
 by_cases h2:k=2
 ·have hb:decide (k=2)=true:=Gqb h2
  rw[show sizeOf k=8 by rw[sizeOf,if_neg h0,if_neg h1,if_pos h2]]
  refine Con.of Tryz.func223 J Tryz.ntmps223 J (fun E => ?_)
  refine Wz [94,2,33,1,13,92,1,13,92,1,13,11,65,1,88,73] ?_
  exact Gq J (Gr [] J J J)
 have hb2:decide (k=2)=false:=Gqa h2
 rw[show sizeOf k=0 by rw[sizeOf,if_neg h0,if_neg h1,if_neg h2]]
 refine Con.of Tryz.func223 J Tryz.ntmps223 J (fun E => ?_)
 refine Wz [94,2,33,1,13,92,1,13,92,1,13,92,158,1,19] ?_
 exact Gq J (Gr [] J J J)
theorem S_SizeOf (k:Int):Con Tryz.prog 221 [] [ai k] [] (I (sizeOf k)):=by
 by_cases h0:k=0
 ·have hb:decide (k=0)=true:=Gqb h0
  rw[show sizeOf k=12 by rw[sizeOf,if_pos h0]]
  refine Con.of Tryz.func221 J Tryz.ntmps221 J (fun E => ?_)
  refine Wz [94,2,33,1,13,11,65,1,88,73] ?_
  exact Gq J (Gr [] J J J)
 have hb0:decide (k=0)=false:=Gqa h0
 by_cases h1:k=1
 ·have hb:decide (k=1)=true:=Gqb h1
  rw[show sizeOf k=4 by rw[sizeOf,if_neg h0,if_pos h1]]
  refine Con.of Tryz.func221 J Tryz.ntmps221 J (fun E => ?_)
  refine Wz [94,2,33,1,13,92,1,13,11,65,1,88,73] ?_
  exact Gq J (Gr [] J J J)
 have hb1:decide (k=1)=false:=Gqa h1
 by_cases h2:k=2
 ·have hb:decide (k=2)=true:=Gqb h2
  rw[show sizeOf k=8 by rw[sizeOf,if_neg h0,if_neg h1,if_pos h2]]
  refine Con.of Tryz.func221 J Tryz.ntmps221 J (fun E => ?_)
  refine Wz [94,2,33,1,13,92,1,13,92,1,13,11,65,1,88,73] ?_
  exact Gq J (Gr [] J J J)
 have hb2:decide (k=2)=false:=Gqa h2
 rw[show sizeOf k=0 by rw[sizeOf,if_neg h0,if_neg h1,if_neg h2]]
 refine Con.of Tryz.func221 J Tryz.ntmps221 J (fun E => ?_)
 refine Wz [94,2,33,1,13,92,1,13,92,1,13,92,158,1,19] ?_
 exact Gq J (Gr [] J J J)
def wallAt (l:TLevel) (r c:Int):Prop:=∀ (q:Nat) (hq:q<l.Rows.length),r=q→0≤c→c<(l.Rows[q]).size→byteAt (l.Rows[q]) c.toNat=35
def hits (l:TLevel) (x y s:Int):Prop:=∃ r c:Int,y/16≤r∧r≤(y+s-1)/16∧x/16≤c∧c≤(x+s-1)/16∧wallAt l r c
noncomputable def solidM (l:TLevel) (x y s:Int):Bool:=@decide (hits l x y s) (Classical.propDecidable _)
theorem Ve {l:TLevel} {x y s:Int} (h:hits l x y s):solidM l x y s=true:=@decide_eq_true _ (Classical.propDecidable _) h
theorem solidM_F {l:TLevel} {x y s:Int} (h:¬hits l x y s):solidM l x y s=false:=@decide_eq_false _ (Classical.propDecidable _) h
theorem wall_tile {l:TLevel} {r c:Nat} (hr:r<l.Rows.length) (h:byteAt (l.Rows[r]) c=35):wallAt l r c:=fun q hq e h0 h1=>by
 have:q=r:=by omega
 subst this
 exact h
theorem no_wall {l:TLevel} {r c:Nat} (hr:r<l.Rows.length) (hc:c<(l.Rows[r]).size) (h:byteAt (l.Rows[r]) c≠35):¬wallAt l r c:=fun hw=>h (hw r hr rfl (by omega) (by omega))
theorem out_hits {l:TLevel} {x y s:Int} {w:Nat} (hw:∀ (r:Nat) (hr:r<l.Rows.length),(l.Rows[r]).size=w) (h1:1≤s) (h:x<0∨y<0∨(w:Int)*16-s<x∨(l.Rows.length:Int)*16-s<y):hits l x y s:=by
 by_cases hx:x<0
 ·exact⟨y/16,x/16,by omega,by omega,by omega,by omega,fun q hq e h0 h1=>by omega⟩
 by_cases hy:y<0
 ·exact⟨y/16,x/16,by omega,by omega,by omega,by omega,fun q hq e h0 h1=>by omega⟩
 by_cases hx2:(w:Int)*16-s<x
 ·exact⟨y/16,(x+s-1)/16,by omega,by omega,by omega,by omega,fun q hq e h0 h1=>by have:=hw q hq; omega⟩
 ·exact⟨(y+s-1)/16,x/16,by omega,by omega,by omega,by omega,fun q hq e h0 h1=>by omega⟩
def freeR (l:TLevel) (x s:Int) (a b:Int):Prop:=∀ r c:Int,a≤r→r<b→x/16≤c→c≤(x+s-1)/16→¬wallAt l r c
def freeC (l:TLevel) (r:Int) (a b:Int):Prop:=∀ c:Int,a≤c→c<b→¬wallAt l r c
theorem free_all {l:TLevel} {x y s b:Int} (h:freeR l x s (y/16) b) (hb:(y+s-1)/16<b):¬hits l x y s:=fun ⟨r,c,h1,h2,h3,h4,h5⟩=>h r c h1 (by omega) h3 h4 h5
theorem free_row {l:TLevel} {x s a b e:Int} (h:freeR l x s a b) (hc:freeC l b (x/16) e) (he:(x+s-1)/16<e):freeR l x s a (b+1):=fun r c h1 h2 h3 h4=>by
 by_cases hr:r<b
 ·exact h r c h1 hr h3 h4
 ·have:r=b:=by omega
  subst this
  exact hc c h3 (by omega)
theorem free_col {l:TLevel} {r a b:Int} (h:freeC l r a b) (hn:¬wallAt l r b):freeC l r a (b+1):=fun c h1 h2=>by
 by_cases hc:c<b
 ·exact h c h1 hc
 ·have:c=b:=by omega
  subst this
  exact hn
theorem I_solid (l:TLevel) (x y s:Int) (hl:levelOk l=true) (hx:I64 x) (hy:I64 y) (h1:1≤s) (h16:s≤16):Con Tryz.prog 241 [] [ag l,ai x,ai y,ai s] [] (B (solidM l x y s)):=by
 obtain⟨hx1,hx2⟩:=hx
 obtain⟨hy1,hy2⟩:=hy
 obtain⟨f3,f12,w,w4,w20,hw⟩:=Zt hl
 have hlx:=Y9 l.Rows
 have h0:0<l.Rows.length:=by omega
 have hat0:(els l.Rows)[(0:Int).toNat]? = some (Enc.e l.Rows[0]):=Y7 h0
 have hw0:=hw 0 h0
 refine Con.of Tryz.func241 J Tryz.ntmps241 J (fun E => ?_)
 refine Wz [55,11,14,49,143,67,11,14,21,67,52,100,89,292,120,89,252,270] ?_;refine zx (Uk J (.hit (.hit (.hit .stop))) (fun hgrd=>Xc J J J J (by omega))) J ?_;refine Wz [293,120,89,252,270] ?_;refine zx (Uk J (.hit (.hit (.hit .stop))) (fun hgrd=>Xc J J J J (by omega))) J ?_;refine Wz [293,110] ?_
 refine Xb J (fun h => ?_) (fun h => ?_)
 ·simp only[Gqs,decide_eq_true_eq] at h
  rw[Ve (out_hits hw h1 (by omega))]
  refine Wz [1,31] ?_
  exact Gq J (Gr [] J J J)
 simp only[Gqv,decide_eq_false_iff_not] at h
 refine Wz [54,25,155,11,33] ?_;refine Xi (fun m__ st=>∃ (r:Nat),((y+s-1)/16+1).toNat-r=m__∧(y/16≤r∧(r:Int)≤(y+s-1)/16+1∧freeR l x s (y/16) r)∧st=(⟨_,[(1,I x),(2,I y),(3,I s),(4,.o (.c (.ptr 0 0))),(11,I r)],[.box ((Enc.e l).map (V1.rd []))]⟩:St)) _ ⟨(fun (r:Nat)=>(⟨_,[(1,I x),(2,I y),(3,I s),(4,.o (.c (.ptr 0 0))),(11,I r)],[.box ((Enc.e l).map (V1.rd []))]⟩:St)) ((y/16).toNat),⟨(y/16).toNat,J,⟨by omega,by omega,fun r c h1 h2=>by omega⟩,J⟩,Gp [0] J (.c J (.c J (.c J (.c J (.cons (Xz (by omega)) (.nil))))))⟩ ?_
 rintro m_A _ ⟨r,hk_A,hp_A,rfl⟩
 obtain⟨hr1,hr2,hfr⟩:=hp_A
 refine Wz [24,46,71,155,256,2] ?_
 refine Xb J (fun h5 => ?_) (fun h5 => ?_)
 ·have h5:=Gqi h5
  have hrl:r<l.Rows.length:=by omega
  have hat:=Y7 hrl
  have hwr:=hw r hrl
  refine Wz [77,155,11,33] ?_;refine Xi (fun m__ st=>∃ (c:Nat),((x+s-1)/16+1).toNat-c=m__∧(x/16≤c∧(c:Int)≤(x+s-1)/16+1∧freeC l r (x/16) c)∧st=(⟨_,[(1,I x),(2,I y),(3,I s),(4,.o (.c (.ptr 0 0))),(11,I r),(12,I c)],[.box ((Enc.e l).map (V1.rd []))]⟩:St)) _ ⟨(fun (c:Nat)=>(⟨_,[(1,I x),(2,I y),(3,I s),(4,.o (.c (.ptr 0 0))),(11,I r),(12,I c)],[.box ((Enc.e l).map (V1.rd []))]⟩:St)) ((x/16).toNat),⟨(x/16).toNat,J,⟨by omega,by omega,fun c h1 h2=>by omega⟩,J⟩,Gp [0] J (.c J (.c J (.c J (.c J (.c J (.cons (Xz (by omega)) (.nil)))))))⟩ ?_
  rintro m_B _ ⟨c,hk_B,hp_B,rfl⟩
  obtain⟨hc1,hc2,hfc⟩:=hp_B
  refine Wz [24,46,71,155,256,2] ?_
  refine Xb J (fun h6 => ?_) (fun h6 => ?_)
  ·have h6:=Gqi h6
   refine Wz [26,14,0,49,0,137,186,2] ?_
   refine Xb J (fun h7 => ?_) (fun h7 => ?_)
   ·have h7:=Gqi h7
    rw[Ve ⟨(r:Int),(c:Int),hr1,by omega,hc1,by omega,wall_tile hrl h7⟩]
    refine Wz [1,88,142,133,53] ?_
    exact Gq J (Gr [] J J J)
   ·have h7:=Gqj h7
    refine Wz [158,43] ?_
    refine⟨_,(by omega),_,⟨c+1,J,⟨by omega,by omega,free_col hfc (no_wall hrl (by omega) h7)⟩,J⟩,Gs [0]⟩
  ·have h6:=Gqj h6
   refine Wz [162,163,204,43] ?_
   refine⟨_,(by omega),_,⟨r+1,J,⟨by omega,by omega,free_row hfr hfc (by omega)⟩,J⟩,Gs [0]⟩
 ·have h5:=Gqj h5
  rw[solidM_F (free_all hfr (by omega))]
  refine Wz [40,1,19] ?_
  exact Gq J (Gr [] J J J)
theorem S_l02Solid (l:TLevel) (x y s:Int) (hl:levelOk l=true) (hx:I64 x) (hy:I64 y) (h1:1≤s) (h16:s≤16):Con Tryz.prog 220 [] [ag l,ai x,ai y,ai s] [] (B (solidM l x y s)):=by
 obtain⟨hx1,hx2⟩:=hx
 obtain⟨hy1,hy2⟩:=hy
 obtain⟨f3,f12,w,w4,w20,hw⟩:=Zt hl
 have hlx:=Y9 l.Rows
 refine Con.of Tryz.func220 J Tryz.ntmps220 J (fun E => ?_)
 refine Wz [55,52] ?_;refine zx (Qj J J (S_in x 0 1000) J) J ?_;refine Wz [16,89] ?_;refine zx (Uk J (.hit .stop) (fun hgrd=>Qj J J (S_in y 0 1000) J)) J ?_;refine Wz [249,110] ?_
 refine Xb J (fun h => ?_) (fun h => ?_)
 ·have h:¬(0≤x∧x≤1000)∨¬(0≤y∧y≤1000):=by
   rw[←Zn,←Zn]
   simpa using h
  rw[Ve (out_hits hw h1 (by omega))]
  refine Wz [1,31] ?_
  exact Gq J (Gr [] J J J)
 have h:(0≤x∧x≤1000)∧(0≤y∧y≤1000):=by
  rw[←Zn,←Zn]
  simpa using h
 refine Wz [54,25,155,11,33] ?_;refine Xi (fun m__ st=>∃ (r:Nat),((y+s-1)/16+1).toNat-r=m__∧(y/16≤r∧(r:Int)≤(y+s-1)/16+1∧freeR l x s (y/16) r)∧st=(⟨_,[(1,I x),(2,I y),(3,I s),(4,.o (.c (.ptr 0 0))),(9,I r)],[.box ((Enc.e l).map (V1.rd []))]⟩:St)) _ ⟨(fun (r:Nat)=>(⟨_,[(1,I x),(2,I y),(3,I s),(4,.o (.c (.ptr 0 0))),(9,I r)],[.box ((Enc.e l).map (V1.rd []))]⟩:St)) ((y/16).toNat),⟨(y/16).toNat,J,⟨by omega,by omega,fun r c h1 h2=>by omega⟩,J⟩,Gp [0] J (.c J (.c J (.c J (.c J (.cons (Xz (by omega)) (.nil))))))⟩ ?_
 rintro m_A _ ⟨r,hk_A,hp_A,rfl⟩
 obtain⟨hr1,hr2,hfr⟩:=hp_A
 refine Wz [24,46,71,155,256,2] ?_
 refine Xb J (fun h5 => ?_) (fun h5 => ?_)
 ·have h5:=Gqi h5
  refine Wz [77,155,11,33] ?_;refine Xi (fun m__ st=>∃ (c:Nat),((x+s-1)/16+1).toNat-c=m__∧(x/16≤c∧(c:Int)≤(x+s-1)/16+1∧freeC l r (x/16) c)∧st=(⟨_,[(1,I x),(2,I y),(3,I s),(4,.o (.c (.ptr 0 0))),(9,I r),(10,I c)],[.box ((Enc.e l).map (V1.rd []))]⟩:St)) _ ⟨(fun (c:Nat)=>(⟨_,[(1,I x),(2,I y),(3,I s),(4,.o (.c (.ptr 0 0))),(9,I r),(10,I c)],[.box ((Enc.e l).map (V1.rd []))]⟩:St)) ((x/16).toNat),⟨(x/16).toNat,J,⟨by omega,by omega,fun c h1 h2=>by omega⟩,J⟩,Gp [0] J (.c J (.c J (.c J (.c J (.c J (.cons (Xz (by omega)) (.nil)))))))⟩ ?_
  rintro m_B _ ⟨c,hk_B,hp_B,rfl⟩
  obtain⟨hc1,hc2,hfc⟩:=hp_B
  refine Wz [24,46,71,155,256,2] ?_
  refine Xb J (fun h6 => ?_) (fun h6 => ?_)
  ·have h6:=Gqi h6
   by_cases hrl:r<l.Rows.length
   ·have hat:=Y7 hrl
    have hb:decide (((els l.Rows).length:Int)≤r)=false:=Gqa (by omega)
    by_cases hcl:c<(l.Rows[r]).size
    ·have hb2:decide (((l.Rows[r]).size:Int)≤c)=false:=Gqa (by omega)
     by_cases h7:byteAt (l.Rows[r]) c=35
     ·have hb3:decide (byteAt (l.Rows[r]) (c:Int).toNat=35)=true:=Gqb h7
      rw[Ve ⟨(r:Int),(c:Int),hr1,by omega,hc1,by omega,wall_tile hrl h7⟩]
      refine Wz [77,30,21,132,8,59,18,169,3,257,3,106,132,7,27,18,169,3,257,3,18,139,3,236,7,28,88,142,133,53] ?_
      exact Gq J (Gr [] J J J)
     ·have hb3:decide (byteAt (l.Rows[r]) (c:Int).toNat=35)=false:=Gqa h7
      refine Wz [77,30,21,132,8,59,18,169,3,257,3,106,132,7,27,18,169,3,257,3,18,137,3,13,7,62,43] ?_
      refine⟨_,(by omega),_,⟨c+1,J,⟨by omega,by omega,free_col hfc (no_wall hrl hcl h7)⟩,J⟩,Gs [0]⟩
    ·have hb2:decide (((l.Rows[r]).size:Int)≤c)=true:=Gqb (by omega)
     rw[Ve ⟨(r:Int),(c:Int),hr1,by omega,hc1,by omega,fun q hq e g0 g1=>by have:q=r:=(by omega); subst this; omega⟩]
     refine Wz [77,30,21,132,8,59,18,169,3,257,3,106,132,7,20,165,9,28,88,142,133,53] ?_
     exact Gq J (Gr [] J J J)
   ·have hb:decide (((els l.Rows).length:Int)≤r)=true:=Gqb (by omega)
    rw[Ve ⟨(r:Int),(c:Int),hr1,by omega,hc1,by omega,fun q hq e g0 g1=>by omega⟩]
    refine Wz [77,30,21,132,20,165,9,20,165,9,28,88,142,133,53] ?_
    exact Gq J (Gr [] J J J)
  ·have h6:=Gqj h6
   refine Wz [162,163,204,43] ?_
   refine⟨_,(by omega),_,⟨r+1,J,⟨by omega,by omega,free_row hfr hfc (by omega)⟩,J⟩,Gs [0]⟩
 ·have h5:=Gqj h5
  rw[solidM_F (free_all hfr (by omega))]
  refine Wz [40,1,19] ?_
  exact Gq J (Gr [] J J J)
noncomputable def solidAt (l:TLevel) (x y s:Int):Bool:=(!inR s 1 16 || !levelOk l) || solidM l x y s
theorem I_SolidAt (l:TLevel) (x y s:Int) (hg:Enc.gd l) (hx:I64 x) (hy:I64 y):Con Tryz.prog 222 [] [ag l,ai x,ai y,ai s] [] (B (solidAt l x y s)):=by
 have hc:=Xt l hg
 by_cases hs:¬(1≤s∧s≤16)
 ·have hf:inR s 1 16=false:=by rw[←Gx6,Zn]; exact hs
  rw[show solidAt l x y s=true by rw[solidAt,hf]; rfl]
  refine Con.of Tryz.func222 J Tryz.ntmps222 J (fun E => ?_)
  refine Wz [55,52,100,89,220,120,0] ?_;refine zx (Qt.grdF J J J .stop (fun hgrd=>Qu J J J J J J)) J ?_;refine zx (Uk J (.hit .stop) (fun hgrd=>Qj J J (hc) J)) J ?_;refine Wz [249,110] ?_
  refine Xb J (fun h => ?_) (fun h => ?_)
  ·refine Wz [1,31] ?_
   exact Gq J (Gr [] J J J)
  ·simp only[Gqv,decide_eq_false_iff_not] at h
   omega
 have hs:=Classical.not_not.1 hs
 have hb1:decide (s<1)=false:=Gqa (by omega)
 have hb2:decide (16<s)=false:=Gqa (by omega)
 cases ho:levelOk l with
 |false =>
  rw[ho] at hc
  rw[show solidAt l x y s=true by rw[solidAt,ho]; simp]
  refine Con.of Tryz.func222 J Tryz.ntmps222 J (fun E => ?_)
  refine Wz [55,52,5,8,113,18,48,3] ?_;refine zx (Qj J J (hc) J) J ?_;refine Wz [83,28,31] ?_
  exact Gq J (Gr [] J J J)
 |true =>
  rw[ho] at hc
  rw[show solidAt l x y s=solidM l x y s by rw[solidAt,ho,Zn.2 hs]; rfl]
  have hd:=I_solid l x y s ho hx hy hs.1 hs.2
  refine Con.of Tryz.func222 J Tryz.ntmps222 J (fun E => ?_)
  refine Wz [55,52,5,8,113,18,48,3] ?_;refine zx (Qj J J (hc) J) J ?_;refine Wz [83,38,6,144,0] ?_;refine zx (Qj J J (hd) J) J ?_;refine Wz [19] ?_
  exact Gq J (Gr [] J J J)
end
section
open Go.RowKit

def tailM (b:TBody):Bool :=
 if b.Kind=0 then (decide (b.Aim=1∨b.Aim = -1)&&inR b.Life 0 3)&&(if b.Life=0 then inR b.Timer 1 20 else inR b.Timer 0 12)
 else if b.Kind=1 then decide (b.Aim=0∧b.Life=0)&&inR b.Timer 1 25
 else decide (b.Owner=0∧b.Aim=0∧b.Life=0∧b.Timer=0)
noncomputable def bodyM (l:TLevel) (n:Int) (b:TBody):Bool :=
 inR b.Kind 0 2&&(inR b.Owner 0 (n-1)&&(!solidM l b.X b.Y (sizeOf b.Kind)&&(inR b.VX (-15) 15&&(inR b.VY (-15) 15&&tailM b))))
theorem size_in {k:Int} (h:inR k 0 2=true):1≤sizeOf k∧sizeOf k≤16:=by
 have:=Zn.1 h
 unfold sizeOf
 split
 ·omega
 ·split
  ·omega
  ·split <;> omega
theorem S_l02Body (l:TLevel) (n:Int) (b:TBody) (hg:Enc.gd l) (hl:levelOk l=true) (hb:Enc.gd b) (hn:0≤n∧n≤1099511627776):Con Tryz.prog 189 [] [ag l,ai n,ag b] [] (B (bodyM l n b)):=by
 obtain⟨b1,b2,b3,b4,b5,b6,b7,b8,b9⟩:=hb
 have h1:=S_in b.Kind 0 2
 have hsz:=S_SizeOf b.Kind
 have h2:=S_in b.Owner 0 (n-1)
 have h4:=S_in b.VX (-15) 15
 have h5:=S_in b.VY (-15) 15
 cases e1:inR b.Kind 0 2 with
 |false =>
  rw[e1] at h1
  rw[show bodyM l n b=false by rw[bodyM,e1]; rfl]
  refine Con.of Tryz.func189 J Tryz.ntmps189 J (fun E => ?_)
  refine Wz [55,129,23,12,216,66] ?_;refine Vx (Qj J J (h1) J) J ?_;refine Wz [206,4,80,258,112,4,80,80,188,112,4,80,112,4,80,112,17,28,31] ?_
  exact Gq J (Gr [] J J J)
 | true =>
  rw[e1] at h1
  cases e2:inR b.Owner 0 (n-1) with
  |false =>
   rw[e2] at h2
   rw[show bodyM l n b=false by rw[bodyM,e1,e2]; rfl]
   refine Con.of Tryz.func189 J Tryz.ntmps189 J (fun E => ?_)
   refine Wz [55,129,23,12,216,66] ?_;refine Vx (Qj J J (h1) J) J ?_;refine Wz [206,4,42,47,225] ?_;refine Vx (Qt.yes J J J (Qj J J (h2) J)) J ?_;refine Wz [174,101,4,80,80,188,112,4,80,112,4,80,112,17,28,31] ?_
   exact Gq J (Gr [] J J J)
  | true =>
   rw[e2] at h2
   have hs16:=size_in e1
   have h3:=S_l02Solid l b.X b.Y (sizeOf b.Kind) hl b3 b4 hs16.1 hs16.2
   cases e3:solidM l b.X b.Y (sizeOf b.Kind) with
   |true =>
    rw[e3] at h3
    rw[show bodyM l n b=false by rw[bodyM,e1,e2,e3]; rfl]
    refine Con.of Tryz.func189 J Tryz.ntmps189 J (fun E => ?_)
    refine Wz [55,129,23,12,216,66] ?_;refine Vx (Qj J J (h1) J) J ?_;refine Wz [206,4,42,47,225] ?_;refine Vx (Qt.yes J J J (Qj J J (h2) J)) J ?_;refine Wz [174,101,4,183,42,42,42] ?_;refine Vx (Qt.yes J J J (Qj J J (hsz) J)) J ?_;refine Vx (Qt.yes J J J (Qj J J (h3) J)) J ?_;refine Wz [101,4,80,112,4,80,112,17,28,31] ?_
    exact Gq J (Gr [] J J J)
   | false =>
    rw[e3] at h3
    cases e4:inR b.VX (-15) 15 with
    |false =>
     rw[e4] at h4
     rw[show bodyM l n b=false by rw[bodyM,e1,e2,e3,e4]; rfl]
     refine Con.of Tryz.func189 J Tryz.ntmps189 J (fun E => ?_)
     refine Wz [55,129,23,12,216,66] ?_;refine Vx (Qj J J (h1) J) J ?_;refine Wz [206,4,42,47,225] ?_;refine Vx (Qt.yes J J J (Qj J J (h2) J)) J ?_;refine Wz [174,101,4,183,42,42,42] ?_;refine Vx (Qt.yes J J J (Qj J J (hsz) J)) J ?_;refine Vx (Qt.yes J J J (Qj J J (h3) J)) J ?_;refine Wz [101,4,42] ?_;refine Vx (Qt.yes J J J (Qj J J (h4) J)) J ?_;refine Wz [174,101,4,80,112,17,28,31] ?_
     exact Gq J (Gr [] J J J)
    | true =>
     rw[e4] at h4
     cases e5:inR b.VY (-15) 15 with
     |false =>
      rw[e5] at h5
      rw[show bodyM l n b=false by rw[bodyM,e1,e2,e3,e4,e5]; rfl]
      refine Con.of Tryz.func189 J Tryz.ntmps189 J (fun E => ?_)
      refine Wz [55,129,23,12,216,66] ?_;refine Vx (Qj J J (h1) J) J ?_;refine Wz [206,4,42,47,225] ?_;refine Vx (Qt.yes J J J (Qj J J (h2) J)) J ?_;refine Wz [174,101,4,183,42,42,42] ?_;refine Vx (Qt.yes J J J (Qj J J (hsz) J)) J ?_;refine Vx (Qt.yes J J J (Qj J J (h3) J)) J ?_;refine Wz [101,4,42] ?_;refine Vx (Qt.yes J J J (Qj J J (h4) J)) J ?_;refine Wz [174,101,4,42] ?_;refine Vx (Qt.yes J J J (Qj J J (h5) J)) J ?_;refine Wz [174,101,17,28,31] ?_
      exact Gq J (Gr [] J J J)
     | true =>
      rw[e5] at h5
      rw[show bodyM l n b=tailM b by rw[bodyM,e1,e2,e3,e4,e5]; rfl]
      by_cases k0:b.Kind=0
      ·have hk:decide (b.Kind=0)=true:=Gqb k0
       refine Con.of Tryz.func189 J Tryz.ntmps189 J (fun E => ?_)
       refine Wz [55,129,23,12,216,66] ?_;refine Vx (Qj J J (h1) J) J ?_;refine Wz [206,4,42,47,225] ?_;refine Vx (Qt.yes J J J (Qj J J (h2) J)) J ?_;refine Wz [174,101,4,183,42,42,42] ?_;refine Vx (Qt.yes J J J (Qj J J (hsz) J)) J ?_;refine Vx (Qt.yes J J J (Qj J J (h3) J)) J ?_;refine Wz [101,4,42] ?_;refine Vx (Qt.yes J J J (Qj J J (h4) J)) J ?_;refine Wz [174,101,4,42] ?_;refine Vx (Qt.yes J J J (Qj J J (h5) J)) J ?_;refine Wz [174,101,17,97,72,14,2,33,1,13,11,65,12,14,149,0,156,157] ?_;refine zx (Qt.grdT J J J (.hit (.hit .stop)) (fun hgrd=>Kw J J J J)) J ?_;refine Wz [84,0,140,141] ?_;refine zx (Uk J (.hit (.hit .stop)) (fun hgrd=>Qj J J (S_in b.Life 0 3) J)) J ?_;refine Wz [190,110] ?_
       refine Xb J (fun h => ?_) (fun h => ?_)
       ·rw[show tailM b=false by
         rw[tailM,if_pos k0]
         simp only[Gqs,Gqg,decide_eq_true_eq,Gq9] at h
         rcases h with h | h
         ·rw[Gqa (by omega)]; rfl
         ·rw[h]; simp]
        refine Wz [1,85,73] ?_
        exact Gq J (Gr [] J J J)
       simp only[Gqv,Gxu,decide_eq_false_iff_not,Gxr] at h
       have ht:tailM b=if b.Life=0 then inR b.Timer 1 20 else inR b.Timer 0 12:=by
        rw[tailM,if_pos k0,Gqb (by omega),h.2]; rfl
       by_cases l0:b.Life=0
       ·have hk2:decide (b.Life=0)=true:=Gqb l0
        rw[ht,if_pos l0]
        refine Wz [72,107,15,14] ?_;refine zx (Qj J J (S_in b.Timer 1 20) J) J ?_;refine Wz [85,73] ?_
        exact Gq J (Gr [] J J J)
       ·have hk2:decide (b.Life=0)=false:=Gqa l0
        rw[ht,if_neg l0]
        refine Wz [72,107,38,14] ?_;refine zx (Qj J J (S_in b.Timer 0 12) J) J ?_;refine Wz [88,73] ?_
        exact Gq J (Gr [] J J J)
      have hk:decide (b.Kind=0)=false:=Gqa k0
      by_cases k1:b.Kind=1
      ·have hk1:decide (b.Kind=1)=true:=Gqb k1
       refine Con.of Tryz.func189 J Tryz.ntmps189 J (fun E => ?_)
       refine Wz [55,129,23,12,216,66] ?_;refine Vx (Qj J J (h1) J) J ?_;refine Wz [206,4,42,47,225] ?_;refine Vx (Qt.yes J J J (Qj J J (h2) J)) J ?_;refine Wz [174,101,4,183,42,42,42] ?_;refine Vx (Qt.yes J J J (Qj J J (hsz) J)) J ?_;refine Vx (Qt.yes J J J (Qj J J (h3) J)) J ?_;refine Wz [101,4,42] ?_;refine Vx (Qt.yes J J J (Qj J J (h4) J)) J ?_;refine Wz [174,101,4,42] ?_;refine Vx (Qt.yes J J J (Qj J J (h5) J)) J ?_;refine Wz [174,101,17,97,72,14,2,33,1,13,92,1,13,11,65,14,186,0,156,157,191,84,0,156,157] ?_;refine zx (Qt.grdT J J J (.hit (.hit .stop)) (fun hgrd=>Qj J J (S_in b.Timer 1 25) J)) J ?_;refine Wz [84,88,73] ?_
       exact Gq J (Gr [] J J (Xj (by rw[tailM,if_neg k0,if_pos k1,←Bool.decide_and])))
      ·have hk1:decide (b.Kind=1)=false:=Gqa k1
       refine Con.of Tryz.func189 J Tryz.ntmps189 J (fun E => ?_)
       refine Wz [55,129,23,12,216,66] ?_;refine Vx (Qj J J (h1) J) J ?_;refine Wz [206,4,42,47,225] ?_;refine Vx (Qt.yes J J J (Qj J J (h2) J)) J ?_;refine Wz [174,101,4,183,42,42,42] ?_;refine Vx (Qt.yes J J J (Qj J J (hsz) J)) J ?_;refine Vx (Qt.yes J J J (Qj J J (h3) J)) J ?_;refine Wz [101,4,42] ?_;refine Vx (Qt.yes J J J (Qj J J (h4) J)) J ?_;refine Wz [174,101,4,42] ?_;refine Vx (Qt.yes J J J (Qj J J (h5) J)) J ?_;refine Wz [174,101,17,97,72,14,2,33,1,13,92,1,13,92,158,14,186,0,156,157,191,84,0,156,157,191,84,0,156,157,191,84,19] ?_
       exact Gq J (Gr [] J J (Xj (by rw[tailM,if_neg k0,if_neg k1]; simp only[Bool.decide_and,Bool.and_assoc])))
theorem I_BodyOk (l:TLevel) (n:Int) (b:TBody) (hg:Enc.gd l) (hb:Enc.gd b) (hn:0≤n∧n≤1099511627776):Con Tryz.prog 192 [] [ag l,ai n,ag b] [] (B (levelOk l&&bodyM l n b)):=by
 obtain⟨b1,b2,b3,b4,b5,b6,b7,b8,b9⟩:=hb
 have hc:=Xt l hg
 cases hl:levelOk l with
 |false =>
  rw[hl] at hc
  rw[Bool.false_and]
  refine Con.of Tryz.func192 J Tryz.ntmps192 J (fun E => ?_)
  refine Wz [55,129,23,6] ?_;refine zx (Qj J J (hc) J) J ?_;refine Wz [16,91,56,91,56,28,31] ?_
  exact Gq J (Gr [] J J J)
 | true =>
  rw[hl] at hc
  rw[Bool.true_and]
  refine Con.of Tryz.func192 J Tryz.ntmps192 J (fun E => ?_)
  refine Wz [55,129,23,6] ?_;refine zx (Qj J J (hc) J) J ?_;refine Wz [16,27,100,7,0,140,141] ?_;refine zx (Uk J (.hit (.hit .stop)) (fun hgrd=>Kn J J J J)) J ?_;refine Wz [110] ?_
  refine Xb J (fun h => ?_) (fun h => ?_)
  ·simp only[Gqs,decide_eq_true_eq] at h
   have e1:inR b.Kind 0 2=false:=by rw[←Gx6,Zn]; omega
   rw[show bodyM l n b=false by rw[bodyM,e1]; rfl]
   refine Wz [1,31] ?_
   exact Gq J (Gr [] J J J)
  simp only[Gqv,decide_eq_false_iff_not] at h
  have e1:inR b.Kind 0 2=true:=Zn.2 (by omega)
  have hs16:=size_in e1
  refine Wz [72,14,100,0,140,141,270] ?_;refine zx (Uk J (.hit (.hit (.hit .stop))) (fun hgrd=>q_geq J J J J)) J ?_;refine Wz [120,0,140,141] ?_;refine zx (Uk J (.hit (.hit .stop)) (fun hgrd=>Kj J J J J)) J ?_;refine zx (Uk J (.hit (.hit (.hit .stop))) (fun hgrd=>Qa J J J)) J ?_;refine zx (Qt.grd2T J J J (.hit1 (.hit1 (.hit1 (.hit1 .stop)))) (fun hgrd hgrd2=>Qf J J J J (by decide))) J ?_;refine zx (Qt.grd2T J J J (.hit (.hit1 (.hit1 (.hit1 (.hit1 .stop))))) (fun hgrd hgrd2=>Qg J J J J J)) J ?_;refine zx (Qt.grd2T J J J (.hit (.hit (.hit1 (.hit1 (.hit1 (.hit1 .stop)))))) (fun hgrd hgrd2=>Kw J J J J)) J ?_;refine zx (Uk J (.part (.part (.part (.hit (.hit (.hit (.hit .stop))))))) (fun hgrd=>Z8 J J J J)) J ?_;refine Wz [110] ?_
  refine Xb J (fun h2 => ?_) (fun h2 => ?_)
  ·simp only[Gqs,Gqg,decide_eq_true_eq] at h2
   rw[show bodyM l n b=false by
    by_cases ho:0≤b.Owner∧b.Owner≤n-1
    ·have hk:b.Kind=2∧b.Owner≠0:=by omega
     have ht:tailM b=false:=by rw[tailM,if_neg (by omega),if_neg (by omega),Gqa (fun hh=>hk.2 hh.1)]
     rw[bodyM,ht]; simp
    ·have e2:inR b.Owner 0 (n-1)=false:=by rw[←Gx6,Zn]; exact ho
     rw[bodyM,e2]; simp]
   refine Wz [1,31] ?_
   exact Gq J (Gr [] J J J)
  simp only[Gqv,Gxu,decide_eq_false_iff_not] at h2
  have e2:inR b.Owner 0 (n-1)=true:=Zn.2 (by omega)
  have hsz:=I_SizeOf b.Kind
  have h3:=I_SolidAt l b.X b.Y (sizeOf b.Kind) hg b3 b4
  rw[show solidAt l b.X b.Y (sizeOf b.Kind)=solidM l b.X b.Y (sizeOf b.Kind) by rw[solidAt,hl,Zn.2 hs16]; rfl] at h3
  cases e3:solidM l b.X b.Y (sizeOf b.Kind) with
  |true =>
   rw[e3] at h3
   rw[show bodyM l n b=false by rw[bodyM,e1,e2,e3]; rfl]
   refine Wz [72,12] ?_;refine Xh u8_10 u8_11 u8_12 J ?_;refine Wz [99,66,66,66] ?_;refine Vx (Qj J J (hsz) J) J ?_;refine Vx (Qj J J (h3) J) J ?_;refine Wz [17,28,31] ?_
   exact Gq J (Gr [] J J J)
  | false =>
   rw[e3] at h3
   refine Wz [72,12] ?_;refine Xh u8_10 u8_11 u8_12 J ?_;refine Wz [99,66,66,66] ?_;refine Vx (Qj J J (hsz) J) J ?_;refine Vx (Qj J J (h3) J) J ?_;refine Wz [17,97,72,14] ?_;refine zx (Qj J J (Xx b.VX (-15) 15) J) J ?_;refine Wz [16,0,140,141] ?_;refine zx (Uk J (.hit (.hit .stop)) (fun hgrd=>Qj J J (Xx b.VY (-15) 15) J)) J ?_;refine Wz [190,110] ?_
   refine Xb J (fun h4 => ?_) (fun h4 => ?_)
   ·simp only[Gqs,Gq9] at h4
    rw[show bodyM l n b=false by rw[bodyM]; rcases h4 with h4 | h4 <;> rw[h4] <;> simp]
    refine Wz [1,31] ?_
    exact Gq J (Gr [] J J J)
   simp only[Gqv,Gxr] at h4
   rw[show bodyM l n b=tailM b by rw[bodyM,e1,e2,e3,h4.1,h4.2]; rfl]
   by_cases k0:b.Kind=0
   ·have hk:decide (b.Kind=0)=true:=Gqb k0
    refine Wz [72,107,15,12,14,149,0,156,157] ?_;refine zx (Qt.grdT J J J (.hit (.hit .stop)) (fun hgrd=>Kw J J J J)) J ?_;refine Wz [84,0,140,141] ?_;refine zx (Uk J (.hit (.hit .stop)) (fun hgrd=>Qj J J (Xx b.Life 0 3) J)) J ?_;refine Wz [190,110] ?_
    refine Xb J (fun h => ?_) (fun h => ?_)
    ·rw[show tailM b=false by
      rw[tailM,if_pos k0]
      simp only[Gqs,Gqg,decide_eq_true_eq,Gq9] at h
      rcases h with h | h
      ·rw[Gqa (by omega)]; rfl
      ·rw[h]; simp]
     refine Wz [1,300,211,73] ?_
     exact Gq J (Gr [] J J J)
    simp only[Gqv,Gxu,decide_eq_false_iff_not,Gxr] at h
    have hlf:=Zn.1 h.2
    have ht:tailM b=if b.Life=0 then inR b.Timer 1 20 else inR b.Timer 0 12:=by
     rw[tailM,if_pos k0,Gqb (by omega),h.2]; rfl
    by_cases l0:b.Life=0
    ·have hk2:decide (0<b.Life)=false:=Gqa (by omega)
     rw[ht,if_pos l0]
     refine Wz [72,14,172,38,14] ?_;refine zx (Qj J J (Xx b.Timer 1 20) J) J ?_;refine Wz [31] ?_
     exact Gq J (Gr [] J J J)
    ·have hk2:decide (0<b.Life)=true:=Gqb (by omega)
     rw[ht,if_neg l0]
     refine Wz [72,14,172,15,14] ?_;refine zx (Qj J J (Xx b.Timer 0 12) J) J ?_;refine Wz [300,211,73] ?_
     exact Gq J (Gr [] J J J)
   have hk:decide (b.Kind=0)=false:=Gqa k0
   refine Wz [72,107,97,72,14,149,0,140,141] ?_;refine zx (Uk J (.hit (.hit .stop)) (fun hgrd=>Kw J J J J)) J ?_;refine Wz [110] ?_
   refine Xb J (fun h5 => ?_) (fun h5 => ?_)
   ·simp only[Gqs,decide_eq_true_eq] at h5
    rw[show tailM b=false by
     rw[tailM,if_neg k0]
     split
     ·rw[Gqa (by omega)]; rfl
     ·exact Gqa (by omega)]
    refine Wz [1,31] ?_
    exact Gq J (Gr [] J J J)
   simp only[Gqv,decide_eq_false_iff_not] at h5
   by_cases k1:b.Kind=1
   ·have hk1:decide (b.Kind=1)=true:=Gqb k1
    rw[show tailM b=inR b.Timer 1 25 by rw[tailM,if_neg k0,if_pos k1,Gqb (by omega)]; rfl]
    refine Wz [72,107,15,14] ?_;refine zx (Qj J J (Xx b.Timer 1 25) J) J ?_;refine Wz [31] ?_
    exact Gq J (Gr [] J J J)
   ·have hk1:decide (b.Kind=1)=false:=Gqa k1
    rw[show tailM b=decide (b.Timer=0) by rw[tailM,if_neg k0,if_neg k1]; exact decide_eq_decide.2 (by omega)]
    refine Wz [72,107,38,14,186,19] ?_
    exact Gq J (Gr [] J J J)
end
section
open Go.RowKit

noncomputable def bodyAt (l:TLevel) (n k:Nat) (b:TBody):Bool:=bodyM l n b&&(if k<n then decide (b.Kind=0∧b.Owner=k) else decide (b.Kind≠0))
def bodiesOk (l:TLevel) (n:Nat) (bs:List TBody):Prop:=∀ (k:Nat) (hk:k<bs.length),bodyAt l n k bs[k]=true
def scoresOk (ss:List Int):Bool:=ss.all fun x=>inR x 0 1000000
noncomputable def worldOk (w:TWorld):Bool:=@decide (levelOk w.Level=true∧inR w.Tick 0 100000=true∧inR w.Seed 0 65535=true∧(1≤w.Scores.length∧w.Scores.length≤4)∧scoresOk w.Scores=true∧(w.Scores.length≤w.Bodies.length∧w.Bodies.length≤24)∧bodiesOk w.Level w.Scores.length w.Bodies) (Classical.propDecidable _)
theorem worldOk_T {w:TWorld} (h:levelOk w.Level=true∧inR w.Tick 0 100000=true∧inR w.Seed 0 65535=true∧(1≤w.Scores.length∧w.Scores.length≤4)∧scoresOk w.Scores=true∧(w.Scores.length≤w.Bodies.length∧w.Bodies.length≤24)∧bodiesOk w.Level w.Scores.length w.Bodies):worldOk w=true:=@decide_eq_true _ (Classical.propDecidable _) h
theorem Vq {w:TWorld} (h:¬(levelOk w.Level=true∧inR w.Tick 0 100000=true∧inR w.Seed 0 65535=true∧(1≤w.Scores.length∧w.Scores.length≤4)∧scoresOk w.Scores=true∧(w.Scores.length≤w.Bodies.length∧w.Bodies.length≤24)∧bodiesOk w.Level w.Scores.length w.Bodies)):worldOk w=false:=@decide_eq_false _ (Classical.propDecidable _) h
theorem Vr {w:TWorld} (h:worldOk w=true):levelOk w.Level=true∧inR w.Tick 0 100000=true∧inR w.Seed 0 65535=true∧(1≤w.Scores.length∧w.Scores.length≤4)∧scoresOk w.Scores=true∧(w.Scores.length≤w.Bodies.length∧w.Bodies.length≤24)∧bodiesOk w.Level w.Scores.length w.Bodies:=@of_decide_eq_true _ (Classical.propDecidable _) h
theorem score_no {ss:List Int} {k:Nat} (h:k<ss.length) (hn:inR ss[k] 0 1000000=false):scoresOk ss=false:=by
 rw[scoresOk,←Gx6,Gqk]
 intro hh
 rw[hh _ (Gql h)] at hn
 cases hn
theorem I_WorldOk (x:TWorld) (hg:Enc.gd x):Con Tryz.prog 119 [] [ag x] [] (B (worldOk x)):=by
 obtain⟨gL,gT,gS,gSc,gB⟩:=hg
 have g1:=gSc.1
 have g2:=gB.1
 have hls:=Y9 x.Scores
 have hlb:=Y9 x.Bodies
 have hc:=Xt x.Level gL
 refine Con.of Tryz.func119 J Tryz.ntmps119 J (fun E => ?_)
 refine Wz [55,23,82] ?_;refine zx (Qj J J (hc) J) J ?_;refine Wz [16,0,140,141] ?_;refine zx (Uk J (.hit (.hit .stop)) (fun hgrd=>Qj J J (Xx x.Tick 0 100000) J)) J ?_;refine Wz [190,120,0,140,141] ?_;refine zx (Uk J (.hit (.hit .stop)) (fun hgrd=>Qj J J (Xx x.Seed 0 65535) J)) J ?_;refine Wz [190,110] ?_
 refine Xb J (fun h => ?_) (fun h => ?_)
 ·simp only[Gqs,Gq9] at h
  rw[Vq (fun hh=>by rcases h with (h | h) | h; rw[hh.1] at h; cases h; rw[hh.2.1] at h; cases h; rw[hh.2.2.1] at h; cases h)]
  refine Wz [1,31] ?_
  exact Gq J (Gr [] J J J)
 simp only[Gqv,Gxr] at h
 obtain⟨⟨hL,hT⟩,hS⟩:=h
 refine Wz [54,14,21,52,100,89,220,110] ?_
 refine Xb J (fun h => ?_) (fun h => ?_)
 ·simp only[Gqs,decide_eq_true_eq] at h
  rw[Vq (fun hh=>by have:=hh.2.2.2.1; omega)]
  refine Wz [1,31] ?_
  exact Gq J (Gr [] J J J)
 simp only[Gqv,decide_eq_false_iff_not] at h
 refine Wz [72,14,21,131,33] ?_;refine Xi (fun m st=>∃ k:Nat,k+m=x.Scores.length∧((x.Scores.take k).all (fun y=>inR y 0 1000000)=true)∧st=(⟨_,[(1,.o (.c (.ptr 0 0))),(3,I (els x.Scores).length),(34,L x.Scores),(35,I (els x.Scores).length),(36,I k)],[.box ((Enc.e x).map (V1.rd []))]⟩:St)) (x.Scores.length) ⟨_,⟨0,by omega,by simp,J⟩,Gs [0]⟩ ?_
 rintro m_A _ ⟨k,hk_A,hp_A,rfl⟩
 refine Wz [1,100,39] ?_
 refine Xb J (fun h3 => ?_) (fun h3 => ?_)
 ·have h3:k<x.Scores.length:=by have:=Gqi h3; omega
  have hat:=Y7 h3
  cases e:inR x.Scores[k] 0 1000000 with
  |false =>
   have hb:=Xx x.Scores[k] 0 1000000
   rw[e] at hb
   rw[Vq (fun hh=>by have h9:=hh.2.2.2.2.1; rw[score_no h3 e] at h9; cases h9)]
   refine Wz [26,1,49,32] ?_;refine zx (Qj J J (hb) J) J ?_;refine Wz [16,28,88,53] ?_
   exact Gq J (Gr [] J J J)
  |true =>
   have hb:=Xx x.Scores[k] 0 1000000
   rw[e] at hb
   refine Wz [26,1,49,32] ?_;refine zx (Qj J J (hb) J) J ?_;refine Wz [16,62,64] ?_
   exact⟨x.Scores.length-(k+1),by omega,_,⟨k+1,by omega,Yj hp_A h3 e,J⟩,Gs [0]⟩
 have h3:¬k<x.Scores.length:=by have:=Gqj h3; omega
 have hall:scoresOk x.Scores=true:=all_end hp_A (by omega)
 refine Wz [40,12,14,21,0,100,0,140,141,250,251,110] ?_
 refine Xb J (fun h5 => ?_) (fun h5 => ?_)
 ·simp only[Gqs,decide_eq_true_eq] at h5
  rw[Vq (fun hh=>by have:=hh.2.2.2.2.2.1; omega)]
  refine Wz [1,31] ?_
  exact Gq J (Gr [] J J J)
 simp only[Gqv,decide_eq_false_iff_not] at h5
 refine Wz [72,14,21,131,33] ?_;refine Xi (fun m st=>∃ k:Nat,k+m=x.Bodies.length∧((∀ (j:Nat) (hj:j<x.Bodies.length),j<k→bodyAt x.Level x.Scores.length j x.Bodies[j]=true))∧st=(⟨_,[(1,.o (.c (.ptr 0 0))),(3,I (els x.Scores).length),(56,L x.Bodies),(57,I (els x.Bodies).length),(58,I k)],[.box ((Enc.e x).map (V1.rd []))]⟩:St)) (x.Bodies.length) ⟨_,⟨0,by omega,fun j hj h0=>by omega,J⟩,Gs [0]⟩ ?_
 rintro m_C _ ⟨k,hk_C,hp_C,rfl⟩
 refine Wz [1,100,39] ?_
 refine Xb J (fun h6 => ?_) (fun h6 => ?_)
 ·have h6:k<x.Bodies.length:=by have:=Gqi h6; omega
  have hat:=Y7 h6
  have gb:=gB.2 _ (Gql h6)
  have hb:=I_BodyOk x.Level (els x.Scores).length x.Bodies[k] gL gb (by omega)
  rw[hL,Bool.true_and] at hb
  have hlen:((els x.Scores).length:Int)=(x.Scores.length:Int):=by rw[hls]
  cases e:bodyM x.Level (els x.Scores).length x.Bodies[k] with
  |false =>
   rw[e] at hb
   rw[Vq (fun hh=>by have h9:=hh.2.2.2.2.2.2 k h6; rw[bodyAt,←hlen,e] at h9; cases h9)]
   refine Wz [77,169,192,90,34,138,12,82,0,48] ?_;refine zx (Qj J J (hb) J) J ?_;refine Wz [16,28,85,53] ?_
   exact Gq J (Gr [] J J J)
  | true =>
   rw[e] at hb
   rw[hlen] at e
   by_cases hkn:(k:Int)<(els x.Scores).length
   ·have hd:decide ((k:Int)<(els x.Scores).length)=true:=Gqb hkn
    have hd2:decide (((els x.Scores).length:Int)≤k)=false:=Gqa (by omega)
    refine Wz [77,169,192,90,34,138,12,82,0,48] ?_;refine zx (Qj J J (hb) J) J ?_;refine Wz [16,38,24,5,27,149,3,0,140,141,270] ?_;refine zx (Uk J (.hit (.hit (.hit .stop))) (fun hgrd=>Kw J J J J)) J ?_;refine Wz [3,120,9,2] ?_
    refine Xb J (fun h7 => ?_) (fun h7 => ?_)
    ·simp only[Gqs,decide_eq_true_eq] at h7
     rw[Vq (fun hh=>by have h9:=hh.2.2.2.2.2.2 k h6; rw[bodyAt,e,if_pos (by omega)] at h9; have:=Gqi h9; omega)]
     refine Wz [1,85,53] ?_
     exact Gq J (Gr [] J J J)
    ·simp only[Gqv,decide_eq_false_iff_not] at h7
     refine Wz [54,37,132,91,114,7,62,64] ?_
     exact⟨x.Bodies.length-(k+1),by omega,_,⟨k+1,by omega,fun j hj h0=>by by_cases hjk:j=k; subst hjk; rw[bodyAt,e,if_pos (by omega)]; exact Gqb (by omega); exact hp_C j hj (by omega),J⟩,Gs [0]⟩
   ·have hd:decide ((k:Int)<(els x.Scores).length)=false:=Gqa hkn
    have hd2:decide (((els x.Scores).length:Int)≤k)=true:=Gqb (by omega)
    by_cases k0:x.Bodies[k].Kind=0
    ·have hd3:decide (x.Bodies[k].Kind=0)=true:=Gqb k0
     rw[Vq (fun hh=>by have h9:=hh.2.2.2.2.2.2 k h6; rw[bodyAt,e,if_neg (by omega)] at h9; have:=Gqi h9; omega)]
     refine Wz [77,169,192,90,34,138,12,82,0,48] ?_;refine zx (Qj J J (hb) J) J ?_;refine Wz [16,38,24,5,20,95,95,95,95,114,7,86,132,27,13,9,28,88,53] ?_
     exact Gq J (Gr [] J J J)
    ·have hd3:decide (x.Bodies[k].Kind=0)=false:=Gqa k0
     refine Wz [77,169,192,90,34,138,12,82,0,48] ?_;refine zx (Qj J J (hb) J) J ?_;refine Wz [16,38,24,5,20,95,95,95,95,114,7,86,132,27,13,9,62,64] ?_
     exact⟨x.Bodies.length-(k+1),by omega,_,⟨k+1,by omega,fun j hj h0=>by by_cases hjk:j=k; subst hjk; rw[bodyAt,e,if_neg (by omega)]; exact Gqb k0; exact hp_C j hj (by omega),J⟩,Gs [0]⟩
 have h6:¬k<x.Bodies.length:=by have:=Gqj h6; omega
 rw[worldOk_T ⟨hL,hT,hS,by omega,hall,by omega,fun j hj=>hp_C j hj (by omega)⟩]
 refine Wz [40,1,19] ?_
 exact Gq J (Gr [] J J J)
theorem S_WorldOk (x:TWorld) (hg:Enc.gd x):Con Tryz.prog 115 [] [ag x] [] (B (worldOk x)):=by
 obtain⟨gL,gT,gS,gSc,gB⟩:=hg
 have g1:=gSc.1
 have g2:=gB.1
 have hls:=Y9 x.Scores
 have hlb:=Y9 x.Bodies
 have hc:=S_LevelOk x.Level gL
 refine Con.of Tryz.func115 J Tryz.ntmps115 J (fun E => ?_)
 refine Wz [55,11,14,21,23,82] ?_;refine zx (Qj J J (hc) J) J ?_;refine Wz [16,0,140,141] ?_;refine zx (Uk J (.hit (.hit .stop)) (fun hgrd=>Qj J J (S_in x.Tick 0 100000) J)) J ?_;refine Wz [190,120,0,140,141] ?_;refine zx (Uk J (.hit (.hit .stop)) (fun hgrd=>Qj J J (S_in x.Seed 0 65535) J)) J ?_;refine Wz [190,120,89] ?_;refine zx (Uk J (.hit .stop) (fun hgrd=>Qj J J (S_in (els x.Scores).length 1 4) J)) J ?_;refine Wz [249,120,0,140,141,250] ?_;refine zx (Uk J (.hit (.hit (.hit .stop))) (fun hgrd=>Qa J J J)) J ?_;refine zx (Uk J (.hit (.hit (.hit (.hit .stop)))) (fun hgrd=>Qj J J (S_in (els x.Bodies).length (els x.Scores).length 24) J)) J ?_;refine zx (Uk J (.hit (.hit (.hit (.hit (.hit .stop))))) (fun hgrd=>Q4 J J J)) J ?_;refine Wz [110] ?_
 refine Xb J (fun h => ?_) (fun h => ?_)
 ·simp only[Gqs,Gq9] at h
  rw[Vq (fun hh=>by rcases h with (((h | h) | h) | h) | h; rw[hh.1] at h; cases h; rw[hh.2.1] at h; cases h; rw[hh.2.2.1] at h; cases h; rw[←Gx6,Zn] at h; have:=hh.2.2.2.1; omega; rw[←Gx6,Zn] at h; have:=hh.2.2.2.2.2.1; omega)]
  refine Wz [1,31] ?_
  exact Gq J (Gr [] J J J)
 simp only[Gqv,Gxr] at h
 obtain⟨⟨⟨⟨hL,hT⟩,hS⟩,hN⟩,hB⟩:=h
 have hN:=Zn.1 hN
 have hB:=Zn.1 hB
 refine Wz [72,63] ?_;refine Xi (fun m st=>∃ k:Nat,k+m=x.Scores.length∧((x.Scores.take k).all (fun y=>inR y 0 1000000)=true)∧st=(⟨_,[(1,.o (.c (.ptr 0 0))),(3,I (els x.Scores).length),(4,I k)],[.box ((Enc.e x).map (V1.rd []))]⟩:St)) (x.Scores.length) ⟨_,⟨0,by omega,by simp,J⟩,Gs [0]⟩ ?_
 rintro m_A _ ⟨k,hk_A,hp_A,rfl⟩
 refine Wz [24,119] ?_
 refine Xb J (fun h3 => ?_) (fun h3 => ?_)
 ·have h3:k<x.Scores.length:=by have:=Gqi h3; omega
  have hat:=Y7 h3
  have hb:=S_in x.Scores[k] 0 1000000
  cases e:inR x.Scores[k] 0 1000000 with
  |false =>
   rw[e] at hb
   rw[Vq (fun hh=>by have h9:=hh.2.2.2.2.1; rw[score_no h3 e] at h9; cases h9)]
   refine Wz [26,14,0,49] ?_;refine zx (Qj J J (hb) J) J ?_;refine Wz [16,28,88,53] ?_
   exact Gq J (Gr [] J J J)
  |true =>
   rw[e] at hb
   refine Wz [26,14,0,49] ?_;refine zx (Qj J J (hb) J) J ?_;refine Wz [16,62,43] ?_
   exact⟨x.Scores.length-(k+1),by omega,_,⟨k+1,by omega,Yj hp_A h3 e,J⟩,Gs [0]⟩
 have h3:¬k<x.Scores.length:=by have:=Gqj h3; omega
 have hall:scoresOk x.Scores=true:=all_end hp_A (by omega)
 refine Wz [40,12,63] ?_;refine Xi (fun m st=>∃ k:Nat,k+m=x.Bodies.length∧((∀ (j:Nat) (hj:j<x.Bodies.length),j<k→bodyAt x.Level x.Scores.length j x.Bodies[j]=true))∧st=(⟨_,[(1,.o (.c (.ptr 0 0))),(3,I (els x.Scores).length),(5,I k)],[.box ((Enc.e x).map (V1.rd []))]⟩:St)) (x.Bodies.length) ⟨_,⟨0,by omega,fun j hj h0=>by omega,J⟩,Gs [0]⟩ ?_
 rintro m_C _ ⟨k,hk_C,hp_C,rfl⟩
 refine Wz [25,30,21,119] ?_
 refine Xb J (fun h6 => ?_) (fun h6 => ?_)
 ·have h6:k<x.Bodies.length:=by have:=Gqi h6; omega
  have hat:=Y7 h6
  have gb:=gB.2 _ (Gql h6)
  have hb:=S_l02Body x.Level (els x.Scores).length x.Bodies[k] gL hL gb (by omega)
  have hlen:((els x.Scores).length:Int)=(x.Scores.length:Int):=by rw[hls]
  cases e:bodyM x.Level (els x.Scores).length x.Bodies[k] with
  |false =>
   rw[e] at hb
   rw[Vq (fun hh=>by have h9:=hh.2.2.2.2.2.2 k h6; rw[bodyAt,←hlen,e] at h9; cases h9)]
   refine Wz [26,14,0,169,192,75,82,0,48] ?_;refine zx (Qj J J (hb) J) J ?_;refine Wz [16,20,135,56,20,95,95,95,95,56,28,88,53] ?_
   exact Gq J (Gr [] J J J)
  | true =>
   rw[e] at hb
   rw[hlen] at e
   by_cases hkn:(k:Int)<(els x.Scores).length
   ·have hd:decide ((k:Int)<(els x.Scores).length)=true:=Gqb hkn
    by_cases k0:x.Bodies[k].Kind=0
    ·have hd3:decide (x.Bodies[k].Kind=0)=true:=Gqb k0
     by_cases ho:x.Bodies[k].Owner≠(k:Int)
     ·have hd4:decide (x.Bodies[k].Owner≠(k:Int))=true:=Gqb ho
      rw[Vq (fun hh=>by have h9:=hh.2.2.2.2.2.2 k h6; rw[bodyAt,e,if_pos (by omega)] at h9; have:=Gqi h9; omega)]
      refine Wz [26,14,0,169,192,75,82,0,48] ?_;refine zx (Qj J J (hb) J) J ?_;refine Wz [16,27,13,3,8,5,3,259,7,69,5,3,27,18,81,3,9,7,28,88,53] ?_
      exact Gq J (Gr [] J J J)
     ·have hd4:decide (x.Bodies[k].Owner≠(k:Int))=false:=Gqa ho
      refine Wz [26,14,0,169,192,75,82,0,48] ?_;refine zx (Qj J J (hb) J) J ?_;refine Wz [16,27,13,3,8,5,3,259,7,69,5,3,27,18,81,3,9,7,62,43] ?_
      exact⟨x.Bodies.length-(k+1),by omega,_,⟨k+1,by omega,fun j hj h0=>by by_cases hjk:j=k; subst hjk; rw[bodyAt,e,if_pos (by omega)]; exact Gqb (by omega); exact hp_C j hj (by omega),J⟩,Gs [0]⟩
    ·have hd3:decide (x.Bodies[k].Kind=0)=false:=Gqa k0
     rw[Vq (fun hh=>by have h9:=hh.2.2.2.2.2.2 k h6; rw[bodyAt,e,if_pos (by omega)] at h9; have:=Gqi h9; omega)]
     refine Wz [26,14,0,169,192,75,82,0,48] ?_;refine zx (Qj J J (hb) J) J ?_;refine Wz [16,27,13,3,8,5,3,259,7,20,95,95,95,95,56,28,88,53] ?_
     exact Gq J (Gr [] J J J)
   ·have hd:decide ((k:Int)<(els x.Scores).length)=false:=Gqa hkn
    by_cases k0:x.Bodies[k].Kind=0
    ·have hd3:decide (x.Bodies[k].Kind=0)=true:=Gqb k0
     rw[Vq (fun hh=>by have h9:=hh.2.2.2.2.2.2 k h6; rw[bodyAt,e,if_neg (by omega)] at h9; have:=Gqi h9; omega)]
     refine Wz [26,14,0,169,192,75,82,0,48] ?_;refine zx (Qj J J (hb) J) J ?_;refine Wz [16,27,13,3,8,5,3,259,7,20,95,95,95,95,56,28,88,53] ?_
     exact Gq J (Gr [] J J J)
    ·have hd3:decide (x.Bodies[k].Kind=0)=false:=Gqa k0
     refine Wz [26,14,0,169,192,75,82,0,48] ?_;refine zx (Qj J J (hb) J) J ?_;refine Wz [16,27,13,3,8,5,3,259,7,69,5,3,20,3,7,7,62,43] ?_
     exact⟨x.Bodies.length-(k+1),by omega,_,⟨k+1,by omega,fun j hj h0=>by by_cases hjk:j=k; subst hjk; rw[bodyAt,e,if_neg (by omega)]; exact Gqb k0; exact hp_C j hj (by omega),J⟩,Gs [0]⟩
 have h6:¬k<x.Bodies.length:=by have:=Gqj h6; omega
 rw[worldOk_T ⟨hL,hT,hS,by omega,hall,by omega,fun j hj=>hp_C j hj (by omega)⟩]
 refine Wz [40,1,19] ?_
 exact Gq J (Gr [] J J J)
end
end Go.Proofs.YtpmacgnmlmmojaaGreatDoor
