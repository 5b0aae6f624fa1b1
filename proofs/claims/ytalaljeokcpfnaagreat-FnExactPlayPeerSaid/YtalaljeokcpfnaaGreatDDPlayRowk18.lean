/-
  Rules, data and contracts of functions: part 19 of the proof.
  Conditions: those that each theorem names.
-/
import Derived.Test.YtalaljeokcpfnaaGreatDDPlayRowk17
set_option linter.unusedSimpArgs false
set_option linter.unusedVariables false
set_option maxRecDepth 8000
set_option maxHeartbeats 8000000
namespace Go.Proofs.YtalaljeokcpfnaaGreat
section
open Tryz
open Go.RowKit

def tailM (b:TBody):Bool :=
 if b.Kind=0 then (decide (b.Aim=1∨b.Aim = -1)&&inR b.Life 0 3)&&(if b.Life=0 then inR b.Timer 1 20 else inR b.Timer 0 12)
 else if b.Kind=1 then decide (b.Aim=0∧b.Life=0)&&inR b.Timer 1 25
 else decide (b.Owner=0∧b.Aim=0∧b.Life=0∧b.Timer=0)
noncomputable def bodyM (l:TLevel) (n:Int) (b:TBody):Bool :=
 inR b.Kind 0 2&&(inR b.Owner 0 (n-1)&&(!solidM l b.X b.Y (sizeOf b.Kind)&&(inR b.VX (-15) 15&&(inR b.VY (-15) 15&&tailM b))))
theorem size_in {k:Int} (h:inR k 0 2=true):1≤sizeOf k∧sizeOf k≤16:=by
 have:=Zm.1 h
 unfold sizeOf
 split
 ·omega
 ·split
  ·omega
  ·split <;> omega
theorem S_l02Body (l:TLevel) (n:Int) (b:TBody) (hg:Enc.gd l) (hl:levelOk l=true) (hb:Enc.gd b) (hn:0≤n∧n≤1099511627776):Co 135 [] [ag l,ai n,ag b] [] (B (bodyM l n b)):=by
 obtain⟨b1,b2,b3,b4,b5,b6,b7,b8,b9⟩:=hb
 have h1:=Yg b.Kind 0 2
 have hsz:=S_SizeOf b.Kind
 have h2:=Yg b.Owner 0 (n-1)
 have h4:=Yg b.VX (-15) 15
 have h5:=Yg b.VY (-15) 15
 cases e1:inR b.Kind 0 2 with
 |false =>
  rw[e1] at h1
  rw[show bodyM l n b=false by rw[bodyM,e1]; rfl]
  refine Con.o func135 ntmps135 fun E=>?_;refine Wz [43,131,16,4,245,37] ?_;refine Uq (Qj J J (h1) J) J ?_;refine Wz [142,118,199,88,118,127,188,88,118,88,118,88,12,115] ?_
  exact Bzh
 | true =>
  rw[e1] at h1
  cases e2:inR b.Owner 0 (n-1) with
  |false =>
   rw[e2] at h2
   rw[show bodyM l n b=false by rw[bodyM,e1,e2]; rfl]
   refine Con.o func135 ntmps135 fun E=>?_;refine Wz [43,131,16,4,245,37] ?_;refine Uq (Qj J J (h1) J) J ?_;refine Wz [142,17,24,62,253] ?_;refine Uq (Qt.yes J J J (Qj J J (h2) J)) J ?_;refine Wz [174,84,118,127,188,88,118,88,118,88,12,115] ?_
   exact Bzh
  | true =>
   rw[e2] at h2
   have hs16:=size_in e1
   have h3:=S_l02Solid l b.X b.Y (sizeOf b.Kind) hl b3 b4 hs16.1 hs16.2
   cases e3:solidM l b.X b.Y (sizeOf b.Kind) with
   |true =>
    rw[e3] at h3
    rw[show bodyM l n b=false by rw[bodyM,e1,e2,e3]; rfl]
    refine Con.o func135 ntmps135 fun E=>?_;refine Wz [43,131,16,4,245,37] ?_;refine Uq (Qj J J (h1) J) J ?_;refine Wz [142,17,24,62,253] ?_;refine Uq (Qt.yes J J J (Qj J J (h2) J)) J ?_;refine Wz [174,84,17,210,24,24,24] ?_;refine Uq (Qt.yes J J J (Qj J J (hsz) J)) J ?_;refine Uq (Qt.yes J J J (Qj J J (h3) J)) J ?_;refine Wz [84,118,88,118,88,12,115] ?_
    exact Bzh
   | false =>
    rw[e3] at h3
    cases e4:inR b.VX (-15) 15 with
    |false =>
     rw[e4] at h4
     rw[show bodyM l n b=false by rw[bodyM,e1,e2,e3,e4]; rfl]
     refine Con.o func135 ntmps135 fun E=>?_;refine Wz [43,131,16,4,245,37] ?_;refine Uq (Qj J J (h1) J) J ?_;refine Wz [142,17,24,62,253] ?_;refine Uq (Qt.yes J J J (Qj J J (h2) J)) J ?_;refine Wz [174,84,17,210,24,24,24] ?_;refine Uq (Qt.yes J J J (Qj J J (hsz) J)) J ?_;refine Uq (Qt.yes J J J (Qj J J (h3) J)) J ?_;refine Wz [84,17,24] ?_;refine Uq (Qt.yes J J J (Qj J J (h4) J)) J ?_;refine Wz [174,84,118,88,12,115] ?_
     exact Bzh
    | true =>
     rw[e4] at h4
     cases e5:inR b.VY (-15) 15 with
     |false =>
      rw[e5] at h5
      rw[show bodyM l n b=false by rw[bodyM,e1,e2,e3,e4,e5]; rfl]
      refine Con.o func135 ntmps135 fun E=>?_;refine Wz [43,131,16,4,245,37] ?_;refine Uq (Qj J J (h1) J) J ?_;refine Wz [142,17,24,62,253] ?_;refine Uq (Qt.yes J J J (Qj J J (h2) J)) J ?_;refine Wz [174,84,17,210,24,24,24] ?_;refine Uq (Qt.yes J J J (Qj J J (hsz) J)) J ?_;refine Uq (Qt.yes J J J (Qj J J (h3) J)) J ?_;refine Wz [84,17,24] ?_;refine Uq (Qt.yes J J J (Qj J J (h4) J)) J ?_;refine Wz [174,84,17,24] ?_;refine Uq (Qt.yes J J J (Qj J J (h5) J)) J ?_;refine Wz [174,84,12,115] ?_
      exact Bzh
     | true =>
      rw[e5] at h5
      rw[show bodyM l n b=tailM b by rw[bodyM,e1,e2,e3,e4,e5]; rfl]
      by_cases k0:b.Kind=0
      ·have hk:decide (b.Kind=0)=true:=Gqb k0
       refine Con.o func135 ntmps135 fun E=>?_;refine Wz [43,131,16,4,245,37] ?_;refine Uq (Qj J J (h1) J) J ?_;refine Wz [142,17,24,62,253] ?_;refine Uq (Qt.yes J J J (Qj J J (h2) J)) J ?_;refine Wz [174,84,17,210,24,24,24] ?_;refine Uq (Qt.yes J J J (Qj J J (hsz) J)) J ?_;refine Uq (Qt.yes J J J (Qj J J (h3) J)) J ?_;refine Wz [84,17,24] ?_;refine Uq (Qt.yes J J J (Qj J J (h4) J)) J ?_;refine Wz [174,84,17,24] ?_;refine Uq (Qt.yes J J J (Qj J J (h5) J)) J ?_;refine Wz [174,84,12,135,18,1,34,3,20,8,117,4,18,150,125] ?_;refine zx (Qt.grdT J J J (.hit (.hit .stop)) (fun hgrd=>Vk J J J J)) J ?_;refine Wz [66,60] ?_;refine zx (Qt.grdF J J J (.hit (.hit .stop)) (fun hgrd=>Qj J J (Yg b.Life 0 3) J)) J ?_;refine Wz [140,75] ?_
       refine Xb J (fun h=>?_) (fun h=>?_)
       ·rw[show tailM b=false by
         rw[tailM,if_pos k0]
         simp only[Gqq,Gqh,decide_eq_true_eq,Gq6] at h
         rcases h with h | h
         ·rw[Gqa Aqa]; rfl
         ·rw[h]; simp]
        refine Wz [45,93,89] ?_
        exact Bzh
       simp only[Gqm,Gxp,decide_eq_false_iff_not,Gq0] at h
       have ht:tailM b=if b.Life=0 then inR b.Timer 1 20 else inR b.Timer 0 12:=by
        rw[tailM,if_pos k0,Gqb Aqa,h.2]; rfl
       by_cases l0:b.Life=0
       ·have hk2:decide (b.Life=0)=true:=Gqb l0
        rw[ht,if_pos l0]
        refine Wz [108,18,20,32,18] ?_;refine kc0 (Yg b.Timer 1 20) ?_;refine Wz [155,93,89] ?_
        exact Bzh
       ·have hk2:decide (b.Life=0)=false:=Gqa l0
        rw[ht,if_neg l0]
        refine Wz [108,18,20,28,18] ?_;refine kc0 (Yg b.Timer 0 12) ?_;refine Wz [155,198,89] ?_
        exact Bzh
      have hk:decide (b.Kind=0)=false:=Gqa k0
      by_cases k1:b.Kind=1
      ·have hk1:decide (b.Kind=1)=true:=Gqb k1
       refine Con.o func135 ntmps135 fun E=>?_;refine Wz [43,131,16,4,245,37] ?_;refine Uq (Qj J J (h1) J) J ?_;refine Wz [142,17,24,62,253] ?_;refine Uq (Qt.yes J J J (Qj J J (h2) J)) J ?_;refine Wz [174,84,17,210,24,24,24] ?_;refine Uq (Qt.yes J J J (Qj J J (hsz) J)) J ?_;refine Uq (Qt.yes J J J (Qj J J (h3) J)) J ?_;refine Wz [84,17,24] ?_;refine Uq (Qt.yes J J J (Qj J J (h4) J)) J ?_;refine Wz [174,84,17,24] ?_;refine Uq (Qt.yes J J J (Qj J J (h5) J)) J ?_;refine Wz [174,84,12,135,18,1,34,3,20,8,90,3,20,8,117,18,216,125,227,66,125] ?_;refine zx (Qt.grdT J J J (.hit (.hit .stop)) (fun hgrd=>Qj J J (Yg b.Timer 1 25) J)) J ?_;refine Wz [66,155,198,89] ?_
       exact E_w [] J (Xk (by rw[tailM,if_neg k0,if_pos k1,←Bool.decide_and]))
      ·have hk1:decide (b.Kind=1)=false:=Gqa k1
       refine Con.o func135 ntmps135 fun E=>?_;refine Wz [43,131,16,4,245,37] ?_;refine Uq (Qj J J (h1) J) J ?_;refine Wz [142,17,24,62,253] ?_;refine Uq (Qt.yes J J J (Qj J J (h2) J)) J ?_;refine Wz [174,84,17,210,24,24,24] ?_;refine Uq (Qt.yes J J J (Qj J J (hsz) J)) J ?_;refine Uq (Qt.yes J J J (Qj J J (h3) J)) J ?_;refine Wz [84,17,24] ?_;refine Uq (Qt.yes J J J (Qj J J (h4) J)) J ?_;refine Wz [174,84,17,24] ?_;refine Uq (Qt.yes J J J (Qj J J (h5) J)) J ?_;refine Wz [174,84,12,135,18,1,34,3,20,8,90,3,20,8,90,149,133,18,216,125,227,66,125,227,66,125,227,66,36] ?_
       exact E_w [] J (Xk (by rw[tailM,if_neg k0,if_neg k1]; simp only[Bool.decide_and,Bool.and_assoc]))
theorem I_BodyOk (l:TLevel) (n:Int) (b:TBody) (hg:Enc.gd l) (hb:Enc.gd b) (hn:0≤n∧n≤1099511627776):Co 208 [] [ag l,ai n,ag b] [] (B (levelOk l&&bodyM l n b)):=by
 obtain⟨b1,b2,b3,b4,b5,b6,b7,b8,b9⟩:=hb
 have hc:=Xv l hg
 cases hl:levelOk l with
 |false =>
  rw[hl] at hc
  rw[Bool.false_and]
  refine Con.o func208 ntmps208 fun E=>?_;refine Wz [43,131,16,7] ?_;refine kc0 hc ?_;refine Wz [6,0,87,80,46,0,87,80,83,69] ?_
  exact Bzh
 | true =>
  rw[hl] at hc
  rw[Bool.true_and]
  refine Con.o func208 ntmps208 fun E=>?_;refine Wz [43,131,16,7] ?_;refine kc0 hc ?_;refine Wz [6,71,160,5,60] ?_;refine zx (Qt.grdF J J J (.hit (.hit .stop)) (fun hgrd=>Kz J J J J)) J ?_;refine Wz [75] ?_
  refine Xb J (fun h=>?_) (fun h=>?_)
  ·simp only[Gqq,decide_eq_true_eq] at h
   have e1:inR b.Kind 0 2=false:=by rw[←Gxu,Zm]; omega
   rw[show bodyM l n b=false by rw[bodyM,e1]; rfl]
   refine Wz [69] ?_
   exact Bzh
  simp only[Gqm,decide_eq_false_iff_not] at h
  have e1:inR b.Kind 0 2=true:=Zm.2 Aqa 
  have hs16:=size_in e1
  refine Wz [108,18,160,60,208] ?_;refine zx (Qt.grdF J J J (.hit (.hit (.hit .stop))) (fun hgrd=>Kx J J J J)) J ?_;refine Wz [54,60,283,218] ?_;refine zx (Qt.grd2T J J J (.hit1 (.hit1 (.hit1 (.hit1 .stop)))) (fun hgrd hgrd2=>Qf J J J J Aqc)) J ?_;refine zx (Qt.grd2T J J J (.hit (.hit1 (.hit1 (.hit1 (.hit1 .stop))))) (fun hgrd hgrd2=>Qg J J J J J)) J ?_;refine zx (Qt.grd2T J J J (.hit (.hit (.hit1 (.hit1 (.hit1 (.hit1 .stop)))))) (fun hgrd hgrd2=>Vk J J J J)) J ?_;refine zx (Qt.grdF J J J (.part (.part (.part (.hit (.hit (.hit (.hit .stop))))))) (fun hgrd=>Kh J J J J)) J ?_;refine Wz [75] ?_
  refine Xb J (fun h2=>?_) (fun h2=>?_)
  ·simp only[Gqq,Gqh,decide_eq_true_eq] at h2
   rw[show bodyM l n b=false by
    by_cases ho:0≤b.Owner∧b.Owner≤n-1
    ·have hk:b.Kind=2∧b.Owner≠0:=Aqa
     have ht:tailM b=false:=by rw[tailM,if_neg Aqa,if_neg Aqa,Gqa (fun hh=>hk.2 hh.1)]
     rw[bodyM,ht]; simp
    ·have e2:inR b.Owner 0 (n-1)=false:=by rw[←Gxu,Zm]; exact ho
     rw[bodyM,e2]; simp]
   refine Wz [69] ?_
   exact Bzh
  simp only[Gqm,Gxp,decide_eq_false_iff_not] at h2
  have e2:inR b.Owner 0 (n-1)=true:=Zm.2 Aqa 
  have hsz:=I_SizeOf b.Kind
  have h3:=I_SolidAt l b.X b.Y (sizeOf b.Kind) hg b3 b4
  rw[show solidAt l b.X b.Y (sizeOf b.Kind)=solidM l b.X b.Y (sizeOf b.Kind) by rw[solidAt,hl,Zm.2 hs16]; rfl] at h3
  cases e3:solidM l b.X b.Y (sizeOf b.Kind) with
  |true =>
   rw[e3] at h3
   rw[show bodyM l n b=false by rw[bodyM,e1,e2,e3]; rfl]
   refine Wz [108,4] ?_;refine Xi u8_9 u8_10 u8_11 J ?_;refine Wz [136,37,37,37] ?_;refine Uq (Qj J J (hsz) J) J ?_;refine Uq (Qj J J (h3) J) J ?_;refine Wz [12,115] ?_
   exact Bzh
  | false =>
   rw[e3] at h3
   refine Wz [108,4] ?_;refine Xi u8_9 u8_10 u8_11 J ?_;refine Wz [136,37,37,37] ?_;refine Uq (Qj J J (hsz) J) J ?_;refine Uq (Qj J J (h3) J) J ?_;refine Wz [12,135,18] ?_;refine kc0 (Xy b.VX (-15) 15) ?_;refine Wz [6,60] ?_;refine zx (Qt.grdF J J J (.hit (.hit .stop)) (fun hgrd=>Qj J J (Xy b.VY (-15) 15) J)) J ?_;refine Wz [140,75] ?_
   refine Xb J (fun h4=>?_) (fun h4=>?_)
   ·simp only[Gqq,Gq6] at h4
    rw[show bodyM l n b=false by rw[bodyM]; rcases h4 with h4 | h4 <;> rw[h4] <;> simp]
    refine Wz [69] ?_
    exact Bzh
   simp only[Gqm,Gq0] at h4
   rw[show bodyM l n b=tailM b by rw[bodyM,e1,e2,e3,h4.1,h4.2]; rfl]
   by_cases k0:b.Kind=0
   ·have hk:decide (b.Kind=0)=true:=Gqb k0
    refine Wz [108,18,20,32,4,18,150,125] ?_;refine zx (Qt.grdT J J J (.hit (.hit .stop)) (fun hgrd=>Vk J J J J)) J ?_;refine Wz [66,60] ?_;refine zx (Qt.grdF J J J (.hit (.hit .stop)) (fun hgrd=>Qj J J (Xy b.Life 0 3) J)) J ?_;refine Wz [140,75] ?_
    refine Xb J (fun h=>?_) (fun h=>?_)
    ·rw[show tailM b=false by
      rw[tailM,if_pos k0]
      simp only[Gqq,Gqh,decide_eq_true_eq,Gq6] at h
      rcases h with h | h
      ·rw[Gqa Aqa]; rfl
      ·rw[h]; simp]
     refine Wz [45,235,89] ?_
     exact Bzh
    simp only[Gqm,Gxp,decide_eq_false_iff_not,Gq0] at h
    have hlf:=Zm.1 h.2
    have ht:tailM b=if b.Life=0 then inR b.Timer 1 20 else inR b.Timer 0 12:=by
     rw[tailM,if_pos k0,Gqb Aqa,h.2]; rfl
    by_cases l0:b.Life=0
    ·have hk2:decide (0<b.Life)=false:=Gqa Aqa 
     rw[ht,if_pos l0]
     refine Wz [108,18,111,28,18] ?_;refine kc0 (Xy b.Timer 1 20) ?_;refine Wz [76] ?_
     exact Bzh
    ·have hk2:decide (0<b.Life)=true:=Gqb Aqa 
     rw[ht,if_neg l0]
     refine Wz [108,18,111,32,18] ?_;refine kc0 (Xy b.Timer 0 12) ?_;refine Wz [155,235,89] ?_
     exact Bzh
   have hk:decide (b.Kind=0)=false:=Gqa k0
   refine Wz [108,18,20,135,18,150,60] ?_;refine zx (Qt.grdF J J J (.hit (.hit .stop)) (fun hgrd=>Vk J J J J)) J ?_;refine Wz [75] ?_
   refine Xb J (fun h5=>?_) (fun h5=>?_)
   ·simp only[Gqq,decide_eq_true_eq] at h5
    rw[show tailM b=false by
     rw[tailM,if_neg k0]
     split
     ·rw[Gqa Aqa]; rfl
     ·exact Gqa Aqa]
    refine Wz [69] ?_
    exact Bzh
   simp only[Gqm,decide_eq_false_iff_not] at h5
   by_cases k1:b.Kind=1
   ·have hk1:decide (b.Kind=1)=true:=Gqb k1
    rw[show tailM b=inR b.Timer 1 25 by rw[tailM,if_neg k0,if_pos k1,Gqb Aqa]; rfl]
    refine Wz [108,18,20,32,18] ?_;refine kc0 (Xy b.Timer 1 25) ?_;refine Wz [76] ?_
    exact Bzh
   ·have hk1:decide (b.Kind=1)=false:=Gqa k1
    rw[show tailM b=decide (b.Timer=0) by rw[tailM,if_neg k0,if_neg k1]; exact decide_eq_decide.2 Aqa]
    refine Wz [108,18,20,28,18,216,36] ?_
    exact Bzh
end
section
open Tryz
open Go.RowKit

noncomputable def bodyAt (l:TLevel) (n k:Nat) (b:TBody):Bool:=bodyM l n b&&(if k<n then decide (b.Kind=0∧b.Owner=k) else decide (b.Kind≠0))
def bodiesOk (l:TLevel) (n:Nat) (bs:List TBody):Prop:=∀ (k:Nat) (hk:k<bs.length),bodyAt l n k bs[k]=true
def scoresOk (ss:List Int):Bool:=ss.all fun x=>inR x 0 1000000
noncomputable def worldOk (w:TWorld):Bool:=@decide (levelOk w.Level=true∧inR w.Tick 0 100000=true∧inR w.Seed 0 65535=true∧(1≤w.Scores.length∧w.Scores.length≤4)∧scoresOk w.Scores=true∧(w.Scores.length≤w.Bodies.length∧w.Bodies.length≤24)∧bodiesOk w.Level w.Scores.length w.Bodies) (Classical.propDecidable _)
theorem worldOk_T {w:TWorld} (h:levelOk w.Level=true∧inR w.Tick 0 100000=true∧inR w.Seed 0 65535=true∧(1≤w.Scores.length∧w.Scores.length≤4)∧scoresOk w.Scores=true∧(w.Scores.length≤w.Bodies.length∧w.Bodies.length≤24)∧bodiesOk w.Level w.Scores.length w.Bodies):worldOk w=true:=@decide_eq_true _ (Classical.propDecidable _) h
theorem Ui {w:TWorld} (h:¬(levelOk w.Level=true∧inR w.Tick 0 100000=true∧inR w.Seed 0 65535=true∧(1≤w.Scores.length∧w.Scores.length≤4)∧scoresOk w.Scores=true∧(w.Scores.length≤w.Bodies.length∧w.Bodies.length≤24)∧bodiesOk w.Level w.Scores.length w.Bodies)):worldOk w=false:=@decide_eq_false _ (Classical.propDecidable _) h
theorem Uj {w:TWorld} (h:worldOk w=true):levelOk w.Level=true∧inR w.Tick 0 100000=true∧inR w.Seed 0 65535=true∧(1≤w.Scores.length∧w.Scores.length≤4)∧scoresOk w.Scores=true∧(w.Scores.length≤w.Bodies.length∧w.Bodies.length≤24)∧bodiesOk w.Level w.Scores.length w.Bodies:=@of_decide_eq_true _ (Classical.propDecidable _) h
theorem score_no {ss:List Int} {k:Nat} (h:k<ss.length) (hn:inR ss[k] 0 1000000=false):scoresOk ss=false:=by
 rw[scoresOk,←Gxu,Gqp]
 intro hh
 rw[hh _ (Gqe h)] at hn
 cases hn
theorem Xx (x:TWorld) (hg:Enc.gd x):Co 160 [] [ag x] [] (B (worldOk x)):=by
 obtain⟨gL,gT,gS,gSc,gB⟩:=hg
 have g1:=gSc.1
 have g2:=gB.1
 have hls:=Y7 x.Scores
 have hlb:=Y7 x.Bodies
 have hc:=Xv x.Level gL
 refine Con.o func160 ntmps160 fun E=>?_;refine Wz [43,16,56] ?_;refine kc0 hc ?_;refine Wz [6,60] ?_;refine zx (Qt.grdF J J J (.hit (.hit .stop)) (fun hgrd=>Qj J J (Xy x.Tick 0 100000) J)) J ?_;refine Wz [140,54,60] ?_;refine zx (Qt.grdF J J J (.hit (.hit .stop)) (fun hgrd=>Qj J J (Xy x.Seed 0 65535) J)) J ?_;refine Wz [140,75] ?_
 refine Xb J (fun h=>?_) (fun h=>?_)
 ·simp only[Gqq,Gq6] at h
  rw[Ui (fun hh=>by rcases h with (h | h) | h; rw[hh.1] at h; cases h; rw[hh.2.1] at h; cases h; rw[hh.2.2.1] at h; cases h)]
  refine Wz [69] ?_
  exact Bzh
 simp only[Gqm,Gq0] at h
 obtain⟨⟨hL,hT⟩,hS⟩:=h
 refine Wz [42,109,40,160,103,239,75] ?_
 refine Xb J (fun h=>?_) (fun h=>?_)
 ·simp only[Gqq,decide_eq_true_eq] at h
  rw[Ui (fun hh=>by have:=hh.2.2.2.1; omega)]
  refine Wz [69] ?_
  exact Bzh
 simp only[Gqm,decide_eq_false_iff_not] at h
 refine Wz [108,109,138,34] ?_;refine A_lp x.Scores.length (fun k=>(x.Scores.take k).all (fun y=>inR y 0 1000000)=true) (fun k => [(1,Aqf 0),(3,I (els x.Scores).length),(34,L x.Scores),(35,I (els x.Scores).length),(36,I k)]) (fun k => [.box (Aqi x)]) Aqd (Yj [0] Aqb) ?_
 intro m_A k hk_A hp_A
 refine Wz [3,58,4] ?_
 refine Xb J (fun h3=>?_) (fun h3=>?_)
 ·have h3:k<x.Scores.length:=by have:=Gqc h3; omega
  have hat:=Y4 h3
  cases e:inR x.Scores[k] 0 1000000 with
  |false =>
   have hb:=Xy x.Scores[k] 0 1000000
   rw[e] at hb
   rw[Ui (fun hh=>by have h9:=hh.2.2.2.2.1; rw[score_no h3 e] at h9; cases h9)]
   refine Wz [9,3,100,44] ?_;refine kc0 hb ?_;refine Wz [6,32,45,57] ?_
   exact Bzh
  |true =>
   have hb:=Xy x.Scores[k] 0 1000000
   rw[e] at hb
   refine Wz [9,3,100,44] ?_;refine kc0 hb ?_;refine Wz [6,151,104] ?_
   exact .n (k+1) (Yo hp_A h3 e) (Yj [0] Aqb)
 have h3:¬k<x.Scores.length:=by have:=Gqd h3; omega
 have hall:scoresOk x.Scores=true:=Yn hp_A Aqa 
 refine Wz [30,4,109,0,160,60,179,280,75] ?_
 refine Xb J (fun h5=>?_) (fun h5=>?_)
 ·simp only[Gqq,decide_eq_true_eq] at h5
  rw[Ui (fun hh=>by have:=hh.2.2.2.2.2.1; omega)]
  refine Wz [69] ?_
  exact Bzh
 simp only[Gqm,decide_eq_false_iff_not] at h5
 refine Wz [108,109,138,34] ?_;refine A_lp x.Bodies.length (fun k=>∀ (j:Nat) (hj:j<x.Bodies.length),j<k→bodyAt x.Level x.Scores.length j x.Bodies[j]=true) (fun k => [(1,Aqf 0),(3,I (els x.Scores).length),(56,L x.Bodies),(57,I (els x.Bodies).length),(58,I k)]) (fun k => [.box (Aqi x)]) (fun j hj h0=>by omega) (Yj [0] Aqb) ?_
 intro m_C k hk_C hp_C
 refine Wz [3,58,4] ?_
 refine Xb J (fun h6=>?_) (fun h6=>?_)
 ·have h6:k<x.Bodies.length:=by have:=Gqc h6; omega
  have hat:=Y4 h6
  have gb:=gB.2 _ (Gqe h6)
  have hb:=I_BodyOk x.Level (els x.Scores).length x.Bodies[k] gL gb Aqa 
  rw[hL,Bool.true_and] at hb
  have hlen:((els x.Scores).length:Int)=(x.Scores.length:Int):=by rw[hls]
  cases e:bodyM x.Level (els x.Scores).length x.Bodies[k] with
  |false =>
   rw[e] at hb
   rw[Ui (fun hh=>by have h9:=hh.2.2.2.2.2.2 k h6; rw[bodyAt,←hlen,e] at h9; cases h9)]
   refine Wz [9,11,78,82,26,39,4,56,0,85] ?_;refine kc0 hb ?_;refine Wz [6,32,45,93,161,89] ?_
   exact Bzh
  | true =>
   rw[e] at hb
   rw[hlen] at e
   by_cases hkn:(k:Int)<(els x.Scores).length
   ·have hd:decide ((k:Int)<(els x.Scores).length)=true:=Gqb hkn
    have hd2:decide (((els x.Scores).length:Int)≤k)=false:=Gqa Aqa 
    refine Wz [9,11,78,82,26,39,4,56,0,85] ?_;refine kc0 hb ?_;refine Wz [6,28,15,19,71,150,2,60,208] ?_;refine zx (Qt.grdF J J J (.hit (.hit (.hit .stop))) (fun hgrd=>Vk J J J J)) J ?_;refine Wz [2,54,46,1] ?_
    refine Xb J (fun h7=>?_) (fun h7=>?_)
    ·simp only[Gqq,decide_eq_true_eq] at h7
     rw[Ui (fun hh=>by have h9:=hh.2.2.2.2.2.2 k h6; rw[bodyAt,e,if_pos Aqa] at h9; have:=Gqc h9; omega)]
     refine Wz [45,93,161,89] ?_
     exact Bzh
    ·simp only[Gqm,decide_eq_false_iff_not] at h7
     refine Wz [42,10,169,0,87,80,5,151,104] ?_
     exact .n (k+1) (fun j hj h0=>by by_cases hjk:j=k; subst hjk; rw[bodyAt,e,if_pos Aqa]; exact Gqb Aqa; exact hp_C j hj Aqa) (Yj [0] Aqb)
   ·have hd:decide ((k:Int)<(els x.Scores).length)=false:=Gqa hkn
    have hd2:decide (((els x.Scores).length:Int)≤k)=true:=Gqb Aqa 
    by_cases k0:x.Bodies[k].Kind=0
    ·have hd3:decide (x.Bodies[k].Kind=0)=true:=Gqb k0
     rw[Ui (fun hh=>by have h9:=hh.2.2.2.2.2.2 k h6; rw[bodyAt,e,if_neg Aqa] at h9; have:=Gqc h9; omega)]
     refine Wz [9,11,78,82,26,39,4,56,0,85] ?_;refine kc0 hb ?_;refine Wz [6,28,15,19,55,139,139,139,139,80,5,28,10,169,71,20,83,45,57] ?_
     exact Bzh
    ·have hd3:decide (x.Bodies[k].Kind=0)=false:=Gqa k0
     refine Wz [9,11,78,82,26,39,4,56,0,85] ?_;refine kc0 hb ?_;refine Wz [6,28,15,19,55,139,139,139,139,80,5,28,10,169,71,20,46,151,104] ?_
     exact .n (k+1) (fun j hj h0=>by by_cases hjk:j=k; subst hjk; rw[bodyAt,e,if_neg Aqa]; exact Gqb k0; exact hp_C j hj Aqa) (Yj [0] Aqb)
 have h6:¬k<x.Bodies.length:=by have:=Gqd h6; omega
 rw[worldOk_T ⟨hL,hT,hS,Aqa,hall,Aqa,fun j hj=>hp_C j hj Aqa⟩]
 refine Wz [30,101] ?_
 exact Bzh
theorem S_WorldOk (x:TWorld) (hg:Enc.gd x):Co 74 [] [ag x] [] (B (worldOk x)):=by
 obtain⟨gL,gT,gS,gSc,gB⟩:=hg
 have g1:=gSc.1
 have g2:=gB.1
 have hls:=Y7 x.Scores
 have hlb:=Y7 x.Bodies
 have hc:=S_LevelOk x.Level gL
 refine Con.o func74 ntmps74 fun E=>?_;refine Wz [96,109,16,56] ?_;refine kc0 hc ?_;refine Wz [6,60] ?_;refine zx (Qt.grdF J J J (.hit (.hit .stop)) (fun hgrd=>Qj J J (Yg x.Tick 0 100000) J)) J ?_;refine Wz [140,54,60] ?_;refine zx (Qt.grdF J J J (.hit (.hit .stop)) (fun hgrd=>Qj J J (Yg x.Seed 0 65535) J)) J ?_;refine Wz [140,54,103] ?_;refine zx (Qt.grdF J J J (.hit .stop) (fun hgrd=>Qj J J (Yg (els x.Scores).length 1 4) J)) J ?_;refine Wz [207,54,60,179,218] ?_;refine zx (Qt.grdF J J J (.hit (.hit (.hit (.hit .stop)))) (fun hgrd=>Qj J J (Yg (els x.Bodies).length (els x.Scores).length 24) J)) J ?_;refine zx (Qt.grdF J J J (.hit (.hit (.hit (.hit (.hit .stop))))) (fun hgrd=>Q4 J J J)) J ?_;refine Wz [75] ?_
 refine Xb J (fun h=>?_) (fun h=>?_)
 ·simp only[Gqq,Gq6] at h
  rw[Ui (fun hh=>by rcases h with (((h | h) | h) | h) | h; rw[hh.1] at h; cases h; rw[hh.2.1] at h; cases h; rw[hh.2.2.1] at h; cases h; rw[←Gxu,Zm] at h; have:=hh.2.2.2.1; omega; rw[←Gxu,Zm] at h; have:=hh.2.2.2.2.2.1; omega)]
  refine Wz [69] ?_
  exact Bzh
 simp only[Gqm,Gq0] at h
 obtain⟨⟨⟨⟨hL,hT⟩,hS⟩,hN⟩,hB⟩:=h
 have hN:=Zm.1 hN
 have hB:=Zm.1 hB
 refine Wz [108,51] ?_;refine A_lp x.Scores.length (fun k=>(x.Scores.take k).all (fun y=>inR y 0 1000000)=true) (fun k => [(1,Aqf 0),(3,I (els x.Scores).length),(4,I k)]) (fun k => [.box (Aqi x)]) Aqd (Yj [0] Aqb) ?_
 intro m_A k hk_A hp_A
 refine Wz [15,58] ?_
 refine Xb J (fun h3=>?_) (fun h3=>?_)
 ·have h3:k<x.Scores.length:=by have:=Gqc h3; omega
  have hat:=Y4 h3
  have hb:=Yg x.Scores[k] 0 1000000
  cases e:inR x.Scores[k] 0 1000000 with
  |false =>
   rw[e] at hb
   rw[Ui (fun hh=>by have h9:=hh.2.2.2.2.1; rw[score_no h3 e] at h9; cases h9)]
   refine Wz [9,65,100] ?_;refine kc0 hb ?_;refine Wz [6,32,45,57] ?_
   exact Bzh
  |true =>
   rw[e] at hb
   refine Wz [9,65,100] ?_;refine kc0 hb ?_;refine Wz [6,81] ?_
   exact .n (k+1) (Yo hp_A h3 e) (Yj [0] Aqb)
 have h3:¬k<x.Scores.length:=by have:=Gqd h3; omega
 have hall:scoresOk x.Scores=true:=Yn hp_A Aqa 
 refine Wz [30,107] ?_;refine A_lp x.Bodies.length (fun k=>∀ (j:Nat) (hj:j<x.Bodies.length),j<k→bodyAt x.Level x.Scores.length j x.Bodies[j]=true) (fun k => [(1,Aqf 0),(3,I (els x.Scores).length),(5,I k)]) (fun k => [.box (Aqi x)]) (fun j hj h0=>by omega) (Yj [0] Aqb) ?_
 intro m_C k hk_C hp_C
 refine Wz [41,105,58] ?_
 refine Xb J (fun h6=>?_) (fun h6=>?_)
 ·have h6:k<x.Bodies.length:=by have:=Gqc h6; omega
  have hat:=Y4 h6
  have gb:=gB.2 _ (Gqe h6)
  have hb:=S_l02Body x.Level (els x.Scores).length x.Bodies[k] gL hL gb Aqa 
  have hlen:((els x.Scores).length:Int)=(x.Scores.length:Int):=by rw[hls]
  cases e:bodyM x.Level (els x.Scores).length x.Bodies[k] with
  |false =>
   rw[e] at hb
   rw[Ui (fun hh=>by have h9:=hh.2.2.2.2.2.2 k h6; rw[bodyAt,←hlen,e] at h9; cases h9)]
   refine Wz [9,65,78,91,56,0,85] ?_;refine kc0 hb ?_;refine Wz [6,55,87,80,46,55,139,139,139,139,80,83,45,57] ?_
   exact Bzh
  | true =>
   rw[e] at hb
   rw[hlen] at e
   by_cases hkn:(k:Int)<(els x.Scores).length
   ·have hd:decide ((k:Int)<(els x.Scores).length)=true:=Gqb hkn
    by_cases k0:x.Bodies[k].Kind=0
    ·have hd3:decide (x.Bodies[k].Kind=0)=true:=Gqb k0
     by_cases ho:x.Bodies[k].Owner≠(k:Int)
     ·have hd4:decide (x.Bodies[k].Owner≠(k:Int))=true:=Gqb ho
      rw[Ui (fun hh=>by have h9:=hh.2.2.2.2.2.2 k h6; rw[bodyAt,e,if_pos Aqa] at h9; have:=Gqc h9; omega)]
      refine Wz [9,65,78,91,56,0,85] ?_;refine kc0 hb ?_;refine Wz [6,71,20,2,14,19,2,284,5,14,21,19,2,71,21,22,2,46,5,32,45,57] ?_
      exact Bzh
     ·have hd4:decide (x.Bodies[k].Owner≠(k:Int))=false:=Gqa ho
      refine Wz [9,65,78,91,56,0,85] ?_;refine kc0 hb ?_;refine Wz [6,71,20,2,14,19,2,284,5,14,21,19,2,71,21,22,2,46,5,81] ?_
      exact .n (k+1) (fun j hj h0=>by by_cases hjk:j=k; subst hjk; rw[bodyAt,e,if_pos Aqa]; exact Gqb Aqa; exact hp_C j hj Aqa) (Yj [0] Aqb)
    ·have hd3:decide (x.Bodies[k].Kind=0)=false:=Gqa k0
     rw[Ui (fun hh=>by have h9:=hh.2.2.2.2.2.2 k h6; rw[bodyAt,e,if_pos Aqa] at h9; have:=Gqc h9; omega)]
     refine Wz [9,65,78,91,56,0,85] ?_;refine kc0 hb ?_;refine Wz [6,71,20,2,14,19,2,284,5,55,139,139,139,139,80,83,45,57] ?_
     exact Bzh
   ·have hd:decide ((k:Int)<(els x.Scores).length)=false:=Gqa hkn
    by_cases k0:x.Bodies[k].Kind=0
    ·have hd3:decide (x.Bodies[k].Kind=0)=true:=Gqb k0
     rw[Ui (fun hh=>by have h9:=hh.2.2.2.2.2.2 k h6; rw[bodyAt,e,if_neg Aqa] at h9; have:=Gqc h9; omega)]
     refine Wz [9,65,78,91,56,0,85] ?_;refine kc0 hb ?_;refine Wz [6,71,20,2,14,19,2,284,5,55,139,139,139,139,80,83,45,57] ?_
     exact Bzh
    ·have hd3:decide (x.Bodies[k].Kind=0)=false:=Gqa k0
     refine Wz [9,65,78,91,56,0,85] ?_;refine kc0 hb ?_;refine Wz [6,71,20,2,14,19,2,284,5,14,21,19,2,55,2,5,5,81] ?_
     exact .n (k+1) (fun j hj h0=>by by_cases hjk:j=k; subst hjk; rw[bodyAt,e,if_neg Aqa]; exact Gqb k0; exact hp_C j hj Aqa) (Yj [0] Aqb)
 have h6:¬k<x.Bodies.length:=by have:=Gqd h6; omega
 rw[worldOk_T ⟨hL,hT,hS,Aqa,hall,Aqa,fun j hj=>hp_C j hj Aqa⟩]
 refine Wz [30,101] ?_
 exact Bzh
end
section
open Go.RowKit

def trackOk (t:TTrack):Bool:=decide ((t.Inputs.length:Int)≤400)&&inOk t.Inputs
def tracksOk (l:List TTrack):Bool:=(decide (1≤l.length)&&decide (l.length≤4))&&l.all trackOk
theorem tracks_no {l:List TTrack} (h:l.length<1∨4<l.length):tracksOk l=false:=by
 rw[tracksOk]
 rcases h with h | h
 ·rw[Gqa (by omega:¬1≤l.length)]; rfl
 ·rw[Gqa (by omega:¬l.length≤4),Gxk]; rfl
theorem tracks_bad {l:List TTrack} (h:l.all trackOk=false):tracksOk l=false:=by rw[tracksOk,h,Gxk]
theorem tracks_yes {l:List TTrack} (h1:1≤l.length) (h2:l.length≤4) (h:l.all trackOk=true):tracksOk l=true:=by rw[tracksOk,h,Gqb h1,Gqb h2]; rfl
theorem Ue {l:List TTrack} (h:tracksOk l=true):1≤l.length∧l.length≤4:=by
 simp only[tracksOk,Gqh,decide_eq_true_eq] at h
 exact h.1
def lenAt (l:List TTrack) (k:Nat):Nat:=(l.getD k ⟨[]⟩).Inputs.length
def leastK (l:List TTrack):Nat→Nat
 |0=>lenAt l 0
 |k+1=>min (leastK l k) (lenAt l k)
def knownTicks (l:List TTrack):Nat:=if tracksOk l=true then leastK l l.length else 0
theorem Zn {l:List TTrack} {k:Nat} (h:k<l.length):lenAt l k=l[k].Inputs.length:=by simp[lenAt,Gqf,h]
theorem least_0 (l:List TTrack):leastK l 0=lenAt l 0:=rfl
theorem least_1 (l:List TTrack):leastK l 1=lenAt l 0:=Nat.min_self _
def faultOk (f:TFault) (n:Int):Bool:=((inR f.Tick 0 400&&decide (0≤f.Player))&&decide (f.Player<n))&&inR f.Add 0 9
theorem fault_S (f:TFault) (n:Int):(((decide (0<n)&&inR f.Tick 0 400)&&inR f.Player 0 (n-1))&&inR f.Add 0 9)=faultOk f n:=by
 rw[faultOk,Bool.eq_iff_iff]
 simp only[Gqh,decide_eq_true_eq,Zm]
 omega
def PeerP (p:TPeer):Prop :=
 (tracksOk p.Tracks=true∧worldOk p.Base=true∧worldOk p.Now=true∧p.Base.Level=p.Now.Level) ∧
 (p.Base.Scores.length=p.Tracks.length∧p.Now.Scores.length=p.Tracks.length∧faultOk p.Fault p.Tracks.length=true) ∧
 ((0≤p.Me∧p.Me≤(p.Tracks.length:Int)-1)∧(0≤p.Delay∧p.Delay≤5)∧(1≤p.Ahead∧p.Ahead≤8)) ∧
 ((0≤p.Seed∧p.Seed≤65535)∧(0≤p.Rolls∧p.Rolls≤1000000)∧(0≤p.Again∧p.Again≤1000000)) ∧
 ((0≤p.Now.Tick-p.Base.Tick∧p.Now.Tick-p.Base.Tick≤p.Ahead)∧(p.Used.length:Int)=p.Now.Tick-p.Base.Tick∧(p.Saves.length:Int)=p.Now.Tick-p.Base.Tick) ∧
 ((p.Used.all fun row=>rowOk row p.Tracks.length)=true∧∀ k (h:k<p.Saves.length),p.Saves[k].Tick=p.Base.Tick+k) ∧
 p.Base.Tick≤knownTicks p.Tracks∧p.Now.Tick≤lenAt p.Tracks p.Me.toNat∧(p.Sums.length:Int)=p.Base.Tick+1
noncomputable def peerOk (p:TPeer):Bool:=@decide (PeerP p) (Classical.propDecidable _)
theorem peer_T {p:TPeer} (h:PeerP p):peerOk p=true:=@decide_eq_true _ (Classical.propDecidable _) h
theorem peer_F {p:TPeer} (h:¬PeerP p):peerOk p=false:=@decide_eq_false _ (Classical.propDecidable _) h
theorem Kf {p:TPeer} (h:peerOk p=true):PeerP p:=@of_decide_eq_true _ (Classical.propDecidable _) h
end
section
open Tryz
open Go.RowKit

def varN (n:Nat):List UInt8:=if n<128 then [UInt8.ofNat n] else UInt8.ofNat (n%128+128)::varN (n/128)
termination_by n
decreasing_by omega
def encVar (n:Int):List UInt8:=if 0≤n∧n≤1099511627775 then varN n.toNat else []
theorem Uh {n:Nat} (h:n<128):varN n = [UInt8.ofNat n]:=by rw[varN,if_pos h]
theorem varN_big {n:Nat} (h:¬n<128):varN n=UInt8.ofNat (n%128+128)::varN (n/128):=by rw[varN,if_neg h]
theorem varN_len (n:Nat):1≤(varN n).length∧(varN n).length≤n+1:=by
 induction n using Nat.strongRecOn with
 | ind n ih =>
  by_cases h:n<128
  ·rw[Uh h]; simp
  ·rw[varN_big h]
   have:=ih (n/128) Aqa 
   simp only[Gqw]
   omega
theorem varN_step {acc:List UInt8} {m:Nat} {l:List UInt8} (h:acc++varN m=l) (hm:¬m<128) {x:UInt8} (hx:x=UInt8.ofNat (m%128+128)):(acc ++ [x])++varN (m/128)=l:=by
 rw[←h,varN_big hm,hx]; simp
theorem varN_end {acc:List UInt8} {m:Nat} {l:List UInt8} (h:acc++varN m=l) (hm:m<128) {x:UInt8} (hx:x=UInt8.ofNat m):acc ++ [x]=l:=by
 rw[←h,Uh hm,hx]

theorem Xu (n:Int):Co 213 [] [ai n] [] (S (bs (encVar n))):=by
 refine Con.o func213 ntmps213 fun E=>?_;refine Wz [95,160,103,239,75] ?_
 refine Xb J (fun h=>?_) (fun h=>?_)
 ·simp only[Gqq,decide_eq_true_eq] at h
  refine Wz [69] ?_
  exact E_w [] J (S_eq (by rw[encVar,if_neg Aqa]))
 simp only[Gqm,decide_eq_false_iff_not] at h
 have he:encVar n=varN n.toNat:=by rw[encVar,if_pos Aqa]
 rw[he]
 refine Wz [42,23,4,34] ?_
 refine AWP.pre ?_ (W_nil 3 1 J)
 refine Xj (fun m__ st=>∃ (m:Nat) (acc:List UInt8),m=m__∧(acc++varN m=varN n.toNat∧acc.length+m≤1099511627775)∧st=(⟨_,[(0,I m),(3,Aqg 0)],[.row 1 (bE acc)]⟩:St)) _ ⟨(fun (m:Nat) (acc:List UInt8)=>(⟨_,[(0,I m),(3,Aqg 0)],[.row 1 (bE acc)]⟩:St)) (n.toNat) ([]),⟨n.toNat,[],J,⟨J,by simp <;> omega⟩,J⟩,Yk [0] Aqc J Aqb (.cons (X0 Aqa) (.c J (.nil)))⟩ ?_
 rintro m_A _ ⟨m,acc,hk_A,hp_A,rfl⟩
 refine Wz [41,224,1] ?_
 refine Xb J (fun h5=>?_) (fun h5=>?_)
 ·have h5:¬m<128:=Bxv
  have hl:=Yt acc
  refine Wz [42,34,10,167,13,238,116,183,8,27,205,26,53,133] ?_
  refine⟨_, Aqa,(fun (m:Nat) (acc:List UInt8)=>(⟨_,[(0,I m),(3,Aqg 0)],[.row 1 (bE acc)]⟩:St)) (m/128) (acc ++ [UInt8.ofNat ((m:Int)%128+128).toNat]),⟨m/128,acc ++ [UInt8.ofNat ((m:Int)%128+128).toNat],J,⟨varN_step hp_A.1 h5 (by congr 1 <;> omega),by have:=hp_A.2; simp <;> omega⟩,J⟩,Yk [0] Aqc J (Vy (bE_snoc _ _ Aqa).symm) (.cons (X0 Aqa) (.c J (.nil)))⟩
 ·have h5:m<128:=Bxw
  have hl:=Yt acc
  have hb:=hp_A.2
  refine Wz [30,10,238,116,183,44,236,36] ?_
  exact E_w [] J (S_eq (congrArg bs (varN_end hp_A.1 h5 (by congr 1))))
theorem Yc (n:Int):Co 193 [] [ai n] [] (S (bs (encVar n))):=by
 refine Con.o func193 ntmps193 fun E=>?_;refine Wz [95] ?_;refine kc0 (Yg n 0 1099511627775) ?_;refine Wz [6,1] ?_
 refine Xb J (fun h=>?_) (fun h=>?_)
 ·have h:¬(0≤n∧n≤1099511627775):=Bxx
  refine Wz [69] ?_
  exact E_w [] J (S_eq (by rw[encVar,if_neg h]))
 have h:0≤n∧n≤1099511627775:=Bxx
 have he:encVar n=varN n.toNat:=by rw[encVar,if_pos h]
 rw[he]
 refine Wz [42,3,184,16,34] ?_
 refine Xj (fun m__ st=>∃ (m:Nat) (acc:List UInt8),m=m__∧(acc++varN m=varN n.toNat∧acc.length+m≤1099511627775)∧st=(⟨_,[(0,I m),(3,Aqg 0)],[.row 1 (bE acc)]⟩:St)) _ ⟨(fun (m:Nat) (acc:List UInt8)=>(⟨_,[(0,I m),(3,Aqg 0)],[.row 1 (bE acc)]⟩:St)) (n.toNat) ([]),⟨n.toNat,[],J,⟨J,by simp <;> omega⟩,J⟩,Yk [0] Aqc J Aqb (.cons (X0 Aqa) (.c J (.nil)))⟩ ?_
 rintro m_A _ ⟨m,acc,hk_A,hp_A,rfl⟩
 refine Wz [41,222,1] ?_
 refine Xb J (fun h5=>?_) (fun h5=>?_)
 ·have h5:¬m<128:=Bxv
  have hl:=Yt acc
  have hb:=hp_A.2
  have hb1:(m:Int).toNat &&& (127:Int).toNat=m%128:=Gx9 m 7
  have hb2:((m%128:Nat):Int).toNat ||| (128:Int).toNat=m%128+128:=by
   have:=Nat.two_pow_add_eq_or_of_lt (i:=7) (b:=m%128) Aqa 1
   rw[Nat.or_comm]
   show 128 ||| m%128=_
   rw[←this]; omega
  have hb3:(m:Int)/2 ^ (7:Int).toNat=(m/128:Nat):=by
   show (m:Int)/128=_
   omega
  refine Wz [42,34,10] ?_;refine zx (q_bandK J J J J Aqe Aqa) J (zx (q_borK J J J J Aqe Aqa) J ?_);refine Wz [238,116,183,8,27] ?_;refine zx (q_shrK J J J J Aqe ⟨Aqa,Aqa,Aqc⟩) J ?_;refine Wz [26,53,133] ?_
  refine⟨_, Aqa,(fun (m:Nat) (acc:List UInt8)=>(⟨_,[(0,I m),(3,Aqg 0)],[.row 1 (bE acc)]⟩:St)) (m/128) (acc ++ [UInt8.ofNat ((m%128+128:Nat):Int).toNat]),⟨m/128,acc ++ [UInt8.ofNat ((m%128+128:Nat):Int).toNat],J,⟨varN_step hp_A.1 h5 (by congr 1),by simp <;> omega⟩,J⟩,Yk [0] Aqc J (Vy (bE_snoc _ _ Aqa).symm) (.c J (.c J (.nil)))⟩
 ·have h5:m<128:=Bxw
  have hl:=Yt acc
  have hb:=hp_A.2
  refine Wz [30,10,238,116,183,236,36] ?_
  exact E_w [] J (S_eq (congrArg bs (varN_end hp_A.1 h5 (by congr 1))))

theorem varN_pow:∀ (j n:Nat),n<128 ^ (j+1)→(varN n).length≤j+1
 |0,n,h=>by rw[Uh Aqa]; simp
 | j+1,n,h=>by
  by_cases hn:n<128
  ·rw[Uh hn]; simp
  ·rw[varN_big hn,Gqw]
   have:=varN_pow j (n/128) (by rw[Nat.pow_succ] at h; omega)
   omega
theorem Ze (n:Int):(encVar n).length≤6:=by
 unfold encVar
 split
 ·exact varN_pow 5 _ Aqa 
 ·simp
def signless (n:Int):Int:=if -549755813888≤n∧n≤549755813887 then (if 0≤n then 2*n else -2*n-1) else -1
theorem I_Signless (n:Int) (hn:I64 n):Co 239 [] [ai n] [] (I (signless n)):=by
 obtain⟨hn1,hn2⟩:=hn
 refine Con.o func239 ntmps239 fun E=>?_;refine Wz [95,160,103,239,75] ?_
 refine Xb J (fun h=>?_) (fun h=>?_)
 ·simp only[Gqq,decide_eq_true_eq] at h
  refine Wz [69] ?_
  exact E_w [] J (X0 (by rw[signless,if_neg Aqa]))
 simp only[Gqm,decide_eq_false_iff_not] at h
 refine Wz [42,41,224,1] ?_
 refine Xb J (fun h1=>?_) (fun h1=>?_)
 ·have h1:=Gqc h1
  refine Wz [11,144,76] ?_
  exact E_w [] J (X0 (by rw[signless,if_pos Aqa,if_pos Aqa]))
 ·have h1:=Gqd h1
  refine Wz [42,11,144,29,36] ?_
  exact E_w [] J (X0 (by rw[signless,if_pos Aqa,if_neg Aqa]))
theorem S_Signless (n:Int) (hn:I64 n):Co 225 [] [ai n] [] (I (signless n)):=by
 obtain⟨hn1,hn2⟩:=hn
 refine Con.o func225 ntmps225 fun E=>?_;refine Wz [95] ?_;refine kc0 (Yg n (-549755813888) 549755813887) ?_;refine Wz [6,1] ?_
 refine Xb J (fun h=>?_) (fun h=>?_)
 ·have h:¬(-549755813888≤n∧n≤549755813887):=Bxx
  refine Wz [69] ?_
  exact E_w [] J (X0 (by rw[signless,if_neg Aqa]))
 have h : -549755813888≤n∧n≤549755813887:=Bxx
 refine Wz [42,41,224,1] ?_
 refine Xb J (fun h1=>?_) (fun h1=>?_)
 ·have h1:=Gqc h1
  refine Wz [11,144,76] ?_
  exact E_w [] J (X0 (by rw[signless,if_pos Aqa,if_pos Aqa]))
 ·have h1:=Gqd h1
  refine Wz [42,11,144,29,36] ?_
  exact E_w [] J (X0 (by rw[signless,if_pos Aqa,if_neg Aqa]))
def packText (s:ByteArray):ByteArray:=bs (encVar s.size)++s
theorem Z7 (s:ByteArray):(packText s).size≤s.size+6:=by
 unfold packText
 rw[cat_size,Yx]
 have:=Ze s.size
 omega
theorem I_PackText (s:ByteArray) (hs:s.size≤1099511627776):Co 238 [] [astr s] [] (S (packText s)):=by
 have h1:=Yx (encVar s.size)
 have h2:=Ze s.size
 refine Con.o func238 ntmps238 fun E=>?_;refine Wz [23,11,38] ?_;refine kc0 (Xu s.size) ?_;refine Wz [0,254,36] ?_
 exact Bzh
theorem S_PackText (s:ByteArray) (hs:s.size≤1099511627776):Co 228 [] [astr s] [] (S (packText s)):=by
 have h1:=Yx (encVar s.size)
 have h2:=Ze s.size
 refine Con.o func228 ntmps228 fun E=>?_;refine Wz [23,11,38] ?_;refine kc0 (Yc s.size) ?_;refine Wz [0,254,36] ?_
 exact Bzh
def packK (xs:List Int) (k:Nat):List UInt8:=encVar xs.length++(xs.take k).flatMap fun x=>encVar (signless x)
def packInts (xs:List Int):ByteArray:=if xs.all (fun x=>decide (0≤signless x)) then bs (packK xs xs.length) else bs []
theorem packK_succ {xs:List Int} {k:Nat} (h:k<xs.length):packK xs (k+1)=packK xs k++encVar (signless xs[k]):=by
 unfold packK
 rw[Gxb h,List.flatMap_append,Gqz]
 simp
theorem packK_len (xs:List Int):∀ k,k≤xs.length→(packK xs k).length≤6*k+6
 |0,_=>by simp[packK]; exact Ze _
 |k+1,h=>by
  rw[packK_succ Aqa,Gql]
  have:=packK_len xs k Aqa 
  have:=Ze (signless xs[k])
  omega
theorem packInts_size (xs:List Int):(packInts xs).size≤6*xs.length+6:=by
 unfold packInts
 split
 ·rw[Yx]; exact packK_len xs _ (Gqi _)
 ·rw[Yx]; simp
theorem I_PackInts (xs:List Int) (hg:Enc.gd xs) (hL:xs.length≤1073741824):Co 217 [] [al xs] [] (S (packInts xs)):=by
 have hlx:=Y7 xs
 have h1:=Yx (encVar (els xs).length)
 have h2:=Ze (els xs).length
 refine Con.o func217 ntmps217 fun E=>?_;refine Wz [23,11,25] ?_;refine kc0 (Xu (els xs).length) ?_;refine M1 (q_strb J J J Aqa) J J ?_;refine Wz [40,25,138,34] ?_
 refine A_lp xs.length (fun k=>(xs.take k).all (fun x=>decide (0≤signless x))=true) (fun k => [(3,Aqg 0),(11,L xs),(12,I (els xs).length),(13,I k)]) (fun k => [.row 1 (bE (packK xs k))]) Aqd (Yk [0] Aqc J (Vy (by rw[Yw,hlx]; simp[packK])) (.c J (.c J (.c J (.c J (.nil)))))) ?_
 intro m_A k hk_A hp_A
 refine Wz [3,58,4] ?_
 refine Xb J (fun h=>?_) (fun h=>?_)
 ·have h3:k<xs.length:=Bqx
  have hat:=Y4 h3
  have hb1:=Yt (packK xs k)
  have hb2:=packK_len xs k Aqa 
  have hb3:=Yx (encVar (signless xs[k]))
  have hb4:=Ze (signless xs[k])
  refine Wz [9,3,100,44] ?_;refine zx (Qj J J (I_Signless xs[k] (hg.2 _ (Gqe h3))) J) J ?_;refine Wz [40,58] ?_
  refine Xb J (fun h4=>?_) (fun h4=>?_)
  ·refine Wz [45,93,235,235] ?_
   refine Wz [198,89] ?_
   exact E_w [] J (S_eq (by rw[packInts,Yp h3 (by simpa using h4)]; rfl))
  ·refine Wz [42,27,0] ?_
   refine kc0 (Xu (signless xs[k])) ?_;refine Wz [285,26,53,104] ?_
   exact .n (k+1) (Yo hp_A h3 Bxn) (by rw[Yw,Ys,packK_succ h3]; exact Yj [0] Aqb)
 ·have h3:¬((k:Int)<(els xs).length):=Gqd h
  have hk:k=xs.length:=Aqa
  refine Wz [223,236,36] ?_
  exact E_w [] J (S_eq (by rw[packInts,Yn hp_A Aqa,hk]; rfl))
theorem S_PackInts (xs:List Int) (hg:Enc.gd xs) (hL:xs.length≤1073741824):Co 189 [] [al xs] [] (S (packInts xs)):=by
 have hlx:=Y7 xs
 refine Con.o func189 ntmps189 fun E=>?_;refine Wz [23,11,25] ?_;refine kc0 (Yc (els xs).length) ?_;refine Wz [16,51] ?_
 refine A_lp xs.length (fun k=>(xs.take k).all (fun x=>decide (0≤signless x))=true) (fun k => [(0,L xs),(3,S (bs (packK xs k))),(4,I k)]) (fun k => []) Aqd (Yk [] Aqc J Aqb (.c J (.cons (S_eq (by rw[hlx]; simp[packK])) (.c J (.nil))))) ?_
 intro m_A k hk_A hp_A
 refine Wz [114] ?_
 refine Xb J (fun h=>?_) (fun h=>?_)
 ·have h3:k<xs.length:=Bqx
  have hat:=Y4 h3
  have hb1:=Yx (packK xs k)
  have hb2:=packK_len xs k Aqa 
  have hb3:=Yx (encVar (signless xs[k]))
  have hb4:=Ze (signless xs[k])
  have hc:=S_Signless xs[k] (hg.2 _ (Gqe h3))
  refine Wz [9,15,100] ?_;refine kc0 hc ?_;refine Wz [58] ?_
  refine Xb J (fun h4=>?_) (fun h4=>?_)
  ·refine Wz [45,93,235,235] ?_
   refine Wz [198,89] ?_
   exact E_w [] J (S_eq (by rw[packInts,Yp h3 (by simpa using h4)]; rfl))
  ·refine Wz [42,27,141] ?_
   refine Wz [100] ?_;refine kc0 hc ?_;refine kc0 (Yc (signless xs[k])) ?_;refine Wz [254,110] ?_
   exact .n (k+1) (Yo hp_A h3 Bxn) (Yk [] Aqc J Aqb (.c J (.cons (S_eq (by rw[Yv,packK_succ h3])) (.c J (.nil)))))
 ·have h3:¬((k:Int)<(els xs).length):=Gqd h
  have hk:k=xs.length:=Aqa
  refine Wz [74] ?_
  exact E_w [] J (S_eq (by rw[packInts,Yn hp_A Aqa,hk]; rfl))

def sumA (s:ByteArray):Nat→Int
 |0=>0
 |k+1=>(sumA s k+byteAt s k)%65521
def sumB (s:ByteArray):Nat→Int
 |0=>0
 |k+1=>(sumB s k+byteAt s k*(((k:Int)+1)%65521))%65521
def checksum (s:ByteArray):Int:=sumA s s.size+65536*sumB s s.size
theorem sumA_lt (s:ByteArray):∀ k,0≤sumA s k∧sumA s k<65521
 |0=>by simp[sumA]
 |k+1=>by simp only[sumA]; omega
theorem sumB_lt (s:ByteArray):∀ k,0≤sumB s k∧sumB s k<65521
 |0=>by simp[sumB]
 |k+1=>by simp only[sumB]; omega
theorem checksum_lt (s:ByteArray):0≤checksum s∧checksum s<4294967296:=by
 have:=sumA_lt s s.size
 have:=sumB_lt s s.size
 unfold checksum
 omega
theorem I_Checksum (s:ByteArray) (hs:s.size≤1099511627776):Co 220 [] [astr s] [] (I (checksum s)):=by
 have va_:=@func220; have vb_:=@ntmps220; exact Bqh
theorem S_Checksum (s:ByteArray) (hs:s.size≤1099511627776):Co 198 [] [astr s] [] (I (checksum s)):=by
 have va_:=@func198; have vb_:=@ntmps198; exact Bqh
end
end Go.Proofs.YtalaljeokcpfnaaGreat
