/-
  Rules, data and contracts of functions: part 20 of the proof.
  Conditions: those that each theorem names.
-/
import Derived.Test.YtoecjaohdnoenaaGreatDDJoinRowk18
set_option linter.unusedSimpArgs false
set_option linter.unusedVariables false
set_option maxRecDepth 8000
set_option maxHeartbeats 8000000
namespace Go.Proofs.YtoecjaohdnoenaaGreat
section
open Go.RowKit

def tailM (b:TBody):Bool :=
 if b.Kind=0 then (decide (b.Aim=1∨b.Aim = -1)&&inR b.Life 0 3)&&(if b.Life=0 then inR b.Timer 1 20 else inR b.Timer 0 12)
 else if b.Kind=1 then decide (b.Aim=0∧b.Life=0)&&inR b.Timer 1 25
 else decide (b.Owner=0∧b.Aim=0∧b.Life=0∧b.Timer=0)
noncomputable def bodyM (l:TLevel) (n:Int) (b:TBody):Bool :=
 inR b.Kind 0 2&&(inR b.Owner 0 (n-1)&&(!solidM l b.X b.Y (sizeOf b.Kind)&&(inR b.VX (-15) 15&&(inR b.VY (-15) 15&&tailM b))))
theorem size_in {k:Int} (h:inR k 0 2=true):1≤sizeOf k∧sizeOf k≤16:=by
 have:=Yu.1 h
 unfold sizeOf
 split
 ·omega
 ·split
  ·omega
  ·split <;> omega
theorem S_l02Body (l:TLevel) (n:Int) (b:TBody) (hg:Enc.gd l) (hl:levelOk l=true) (hb:Enc.gd b) (hn:0≤n∧n≤1099511627776):Con Tryz.prog 225 [] [ag l,ai n,ag b] [] (B (bodyM l n b)):=by
 obtain⟨b1,b2,b3,b4,b5,b6,b7,b8,b9⟩:=hb
 have h1:=Xv b.Kind 0 2
 have hsz:=S_SizeOf b.Kind
 have h2:=Xv b.Owner 0 (n-1)
 have h4:=Xv b.VX (-15) 15
 have h5:=Xv b.VY (-15) 15
 cases e1:inR b.Kind 0 2 with
 |false =>
  rw[e1] at h1
  rw[show bodyM l n b=false by rw[bodyM,e1]; rfl]
  refine Con.of Tryz.func225 J Tryz.ntmps225 J (fun E => ?_)
  refine Wz [196,5,20,20,206,13] ?_;refine DR.s (Qj J J (h1) J) J J ?_;refine Wz [65,11,70,284,145,11,70,70,255,145,11,70,145,11,70,145,12,23] ?_
  exact Xk J J (Xw [] (by decide) J J J)
 | true =>
  rw[e1] at h1
  cases e2:inR b.Owner 0 (n-1) with
  |false =>
   rw[e2] at h2
   rw[show bodyM l n b=false by rw[bodyM,e1,e2]; rfl]
   refine Con.of Tryz.func225 J Tryz.ntmps225 J (fun E => ?_)
   refine Wz [196,5,20,20,206,13] ?_;refine DR.s (Qj J J (h1) J) J J ?_;refine Wz [65,11,29,129,215] ?_;refine DR.s (Qt.yes J J J (Qj J J (h2) J)) J J ?_;refine Wz [141,96,11,70,70,255,145,11,70,145,11,70,145,12,23] ?_
   exact Xk J J (Xw [] (by decide) J J J)
  | true =>
   rw[e2] at h2
   have hs16:=size_in e1
   have h3:=S_l02Solid l b.X b.Y (sizeOf b.Kind) hl b3 b4 hs16.1 hs16.2
   cases e3:solidM l b.X b.Y (sizeOf b.Kind) with
   |true =>
    rw[e3] at h3
    rw[show bodyM l n b=false by rw[bodyM,e1,e2,e3]; rfl]
    refine Con.of Tryz.func225 J Tryz.ntmps225 J (fun E => ?_)
    refine Wz [196,5,20,20,206,13] ?_;refine DR.s (Qj J J (h1) J) J J ?_;refine Wz [65,11,29,129,215] ?_;refine DR.s (Qt.yes J J J (Qj J J (h2) J)) J J ?_;refine Wz [141,96,11,225,29,29,29] ?_;refine DR.s (Qt.yes J J J (Qj J J (hsz) J)) J J ?_;refine DR.s (Qt.yes J J J (Qj J J (h3) J)) J J ?_;refine Wz [96,11,70,145,11,70,145,12,23] ?_
    exact Xk J J (Xw [] (by decide) J J J)
   | false =>
    rw[e3] at h3
    cases e4:inR b.VX (-15) 15 with
    |false =>
     rw[e4] at h4
     rw[show bodyM l n b=false by rw[bodyM,e1,e2,e3,e4]; rfl]
     refine Con.of Tryz.func225 J Tryz.ntmps225 J (fun E => ?_)
     refine Wz [196,5,20,20,206,13] ?_;refine DR.s (Qj J J (h1) J) J J ?_;refine Wz [65,11,29,129,215] ?_;refine DR.s (Qt.yes J J J (Qj J J (h2) J)) J J ?_;refine Wz [141,96,11,225,29,29,29] ?_;refine DR.s (Qt.yes J J J (Qj J J (hsz) J)) J J ?_;refine DR.s (Qt.yes J J J (Qj J J (h3) J)) J J ?_;refine Wz [96,11,29] ?_;refine DR.s (Qt.yes J J J (Qj J J (h4) J)) J J ?_;refine Wz [141,96,11,70,145,12,23] ?_
     exact Xk J J (Xw [] (by decide) J J J)
    | true =>
     rw[e4] at h4
     cases e5:inR b.VY (-15) 15 with
     |false =>
      rw[e5] at h5
      rw[show bodyM l n b=false by rw[bodyM,e1,e2,e3,e4,e5]; rfl]
      refine Con.of Tryz.func225 J Tryz.ntmps225 J (fun E => ?_)
      refine Wz [196,5,20,20,206,13] ?_;refine DR.s (Qj J J (h1) J) J J ?_;refine Wz [65,11,29,129,215] ?_;refine DR.s (Qt.yes J J J (Qj J J (h2) J)) J J ?_;refine Wz [141,96,11,225,29,29,29] ?_;refine DR.s (Qt.yes J J J (Qj J J (hsz) J)) J J ?_;refine DR.s (Qt.yes J J J (Qj J J (h3) J)) J J ?_;refine Wz [96,11,29] ?_;refine DR.s (Qt.yes J J J (Qj J J (h4) J)) J J ?_;refine Wz [141,96,11,29] ?_;refine DR.s (Qt.yes J J J (Qj J J (h5) J)) J J ?_;refine Wz [141,96,12,23] ?_
      exact Xk J J (Xw [] (by decide) J J J)
     | true =>
      rw[e5] at h5
      rw[show bodyM l n b=tailM b by rw[bodyM,e1,e2,e3,e4,e5]; rfl]
      by_cases k0:b.Kind=0
      ·have hk:decide (b.Kind=0)=true:=Gqb k0
       refine Con.of Tryz.func225 J Tryz.ntmps225 J (fun E => ?_)
       refine Wz [196,5,20,20,206,13] ?_;refine DR.s (Qj J J (h1) J) J J ?_;refine Wz [65,11,29,129,215] ?_;refine DR.s (Qt.yes J J J (Qj J J (h2) J)) J J ?_;refine Wz [141,96,11,225,29,29,29] ?_;refine DR.s (Qt.yes J J J (Qj J J (hsz) J)) J J ?_;refine DR.s (Qt.yes J J J (Qj J J (h3) J)) J J ?_;refine Wz [96,11,29] ?_;refine DR.s (Qt.yes J J J (Qj J J (h4) J)) J J ?_;refine Wz [141,96,11,29] ?_;refine DR.s (Qt.yes J J J (Qj J J (h5) J)) J J ?_;refine Wz [141,96,12,39,18,102,1,88,5,151,87,18,160,0,112,113] ?_;refine zx (Qt.grdT J J J (.hit (.hit .stop)) (fun hgrd=>Z4 J J J J)) J ?_;refine Wz [49,110] ?_;refine zx (Qt.grdF J J J (.hit (.hit .stop)) (fun hgrd=>Qj J J (Xv b.Life 0 3) J)) J ?_;refine Wz [105,43] ?_
       refine Q9 J (fun h => ?_) (fun h => ?_)
       ·rw[show tailM b=false by
         rw[tailM,if_pos k0]
         simp only[Gqo,Gqk,decide_eq_true_eq,Gxd] at h
         rcases h with h | h
         ·rw[Gqa (by omega)]; rfl
         ·rw[h]; simp]
        refine Wz [66,82,31] ?_
        exact Xk J J (Xw [] (by decide) J J J)
       simp only[Gql,Gxf,decide_eq_false_iff_not,Gqy] at h
       have ht:tailM b=if b.Life=0 then inR b.Timer 1 20 else inR b.Timer 0 12:=by
        rw[tailM,if_pos k0,Gqb (by omega),h.2]; rfl
       by_cases l0:b.Life=0
       ·have hk2:decide (b.Life=0)=true:=Gqb l0
        rw[ht,if_pos l0]
        refine Wz [48,18,88,17,41] ?_;refine zx (Qj J J (Xv b.Timer 1 20) J) J ?_;refine Wz [72,82,31] ?_
        exact Xk J J (Xw [] (by decide) J J J)
       ·have hk2:decide (b.Life=0)=false:=Gqa l0
        rw[ht,if_neg l0]
        refine Wz [48,18,88,54,41] ?_;refine zx (Qj J J (Xv b.Timer 0 12) J) J ?_;refine Wz [72,172,31] ?_
        exact Xk J J (Xw [] (by decide) J J J)
      have hk:decide (b.Kind=0)=false:=Gqa k0
      by_cases k1:b.Kind=1
      ·have hk1:decide (b.Kind=1)=true:=Gqb k1
       refine Con.of Tryz.func225 J Tryz.ntmps225 J (fun E => ?_)
       refine Wz [196,5,20,20,206,13] ?_;refine DR.s (Qj J J (h1) J) J J ?_;refine Wz [65,11,29,129,215] ?_;refine DR.s (Qt.yes J J J (Qj J J (h2) J)) J J ?_;refine Wz [141,96,11,225,29,29,29] ?_;refine DR.s (Qt.yes J J J (Qj J J (hsz) J)) J J ?_;refine DR.s (Qt.yes J J J (Qj J J (h3) J)) J J ?_;refine Wz [96,11,29] ?_;refine DR.s (Qt.yes J J J (Qj J J (h4) J)) J J ?_;refine Wz [141,96,11,29] ?_;refine DR.s (Qt.yes J J J (Qj J J (h5) J)) J J ?_;refine Wz [141,96,12,39,18,102,1,88,5,109,1,88,5,151,41,174,0,112,113,256,49,0,112,113] ?_;refine zx (Qt.grdT J J J (.hit (.hit .stop)) (fun hgrd=>Qj J J (Xv b.Timer 1 25) J)) J ?_;refine Wz [49,72,172,31] ?_
       exact Xk J J (Xw [] (by decide) J J (Xg (by rw[tailM,if_neg k0,if_pos k1,←Bool.decide_and])))
      ·have hk1:decide (b.Kind=1)=false:=Gqa k1
       refine Con.of Tryz.func225 J Tryz.ntmps225 J (fun E => ?_)
       refine Wz [196,5,20,20,206,13] ?_;refine DR.s (Qj J J (h1) J) J J ?_;refine Wz [65,11,29,129,215] ?_;refine DR.s (Qt.yes J J J (Qj J J (h2) J)) J J ?_;refine Wz [141,96,11,225,29,29,29] ?_;refine DR.s (Qt.yes J J J (Qj J J (hsz) J)) J J ?_;refine DR.s (Qt.yes J J J (Qj J J (h3) J)) J J ?_;refine Wz [96,11,29] ?_;refine DR.s (Qt.yes J J J (Qj J J (h4) J)) J J ?_;refine Wz [141,96,11,29] ?_;refine DR.s (Qt.yes J J J (Qj J J (h5) J)) J J ?_;refine Wz [141,96,12,39,18,102,1,88,5,109,1,88,5,109,128,59,41,174,0,112,113,256,49,0,112,113,256,49,0,112,113,256,49,52] ?_
       exact Xk J J (Xw [] (by decide) J J (Xg (by rw[tailM,if_neg k0,if_neg k1]; simp only[Bool.decide_and,Bool.and_assoc])))
theorem I_BodyOk (l:TLevel) (n:Int) (b:TBody) (hg:Enc.gd l) (hb:Enc.gd b) (hn:0≤n∧n≤1099511627776):Con Tryz.prog 238 [] [ag l,ai n,ag b] [] (B (levelOk l&&bodyM l n b)):=by
 obtain⟨b1,b2,b3,b4,b5,b6,b7,b8,b9⟩:=hb
 have hc:=I_LevelOk l hg
 cases hl:levelOk l with
 |false =>
  rw[hl] at hc
  rw[Bool.false_and]
  refine Con.of Tryz.func238 J Tryz.ntmps238 J (fun E => ?_)
  refine Wz [122,53] ?_;refine zx (Qj J J (hc) J) J ?_;refine Wz [3,0,118,104,28,0,118,104,28,23] ?_
  exact Xk J J (Xw [] (by decide) J J J)
 | true =>
  rw[hl] at hc
  rw[Bool.true_and]
  refine Con.of Tryz.func238 J Tryz.ntmps238 J (fun E => ?_)
  refine Wz [122,53] ?_;refine zx (Qj J J (hc) J) J ?_;refine Wz [3,26,81,2,133,2,153,15,110] ?_;refine zx (Qt.grdF J J J (.hit (.hit .stop)) (fun hgrd=>Zt J J J J)) J ?_;refine Wz [43] ?_
  refine Q9 J (fun h => ?_) (fun h => ?_)
  ·simp only[Gqo,decide_eq_true_eq] at h
   have e1:inR b.Kind 0 2=false:=by rw[←Gxo,Yu]; omega
   rw[show bodyM l n b=false by rw[bodyM,e1]; rfl]
   refine Wz [35] ?_
   exact Xk J J (Xw [] (by decide) J J J)
  simp only[Gql,decide_eq_false_iff_not] at h
  have e1:inR b.Kind 0 2=true:=Yu.2 (by omega)
  have hs16:=size_in e1
  refine Wz [48,18,153,110,168] ?_;refine zx (Qt.grdF J J J (.hit (.hit (.hit .stop))) (fun hgrd=>q_geq J J J J)) J ?_;refine Wz [97] ?_;refine zx (Qt.grdF J J J (.hit (.hit .stop)) (fun hgrd=>Zo J J J J)) J ?_;refine zx (Qt.grdF J J J (.hit (.hit (.hit .stop))) (fun hgrd=>Qa J J J)) J ?_;refine zx (Qt.grd2T J J J (.hit1 (.hit1 (.hit1 (.hit1 .stop)))) (fun hgrd hgrd2=>Qf J J J J (by decide))) J ?_;refine zx (Qt.grd2T J J J (.hit (.hit1 (.hit1 (.hit1 (.hit1 .stop))))) (fun hgrd hgrd2=>Qg J J J J J)) J ?_;refine zx (Qt.grd2T J J J (.hit (.hit (.hit1 (.hit1 (.hit1 (.hit1 .stop)))))) (fun hgrd hgrd2=>Z4 J J J J)) J ?_;refine zx (Qt.grdF J J J (.part (.part (.part (.hit (.hit (.hit (.hit .stop))))))) (fun hgrd=>Ze J J J J)) J ?_;refine Wz [43] ?_
  refine Q9 J (fun h2 => ?_) (fun h2 => ?_)
  ·simp only[Gqo,Gqk,decide_eq_true_eq] at h2
   rw[show bodyM l n b=false by
    by_cases ho:0≤b.Owner∧b.Owner≤n-1
    ·have hk:b.Kind=2∧b.Owner≠0:=by omega
     have ht:tailM b=false:=by rw[tailM,if_neg (by omega),if_neg (by omega),Gqa (fun hh=>hk.2 hh.1)]
     rw[bodyM,ht]; simp
    ·have e2:inR b.Owner 0 (n-1)=false:=by rw[←Gxo,Yu]; exact ho
     rw[bodyM,e2]; simp]
   refine Wz [35] ?_
   exact Xk J J (Xw [] (by decide) J J J)
  simp only[Gql,Gxf,decide_eq_false_iff_not] at h2
  have e2:inR b.Owner 0 (n-1)=true:=Yu.2 (by omega)
  have hsz:=I_SizeOf b.Kind
  have h3:=I_SolidAt l b.X b.Y (sizeOf b.Kind) hg b3 b4
  rw[show solidAt l b.X b.Y (sizeOf b.Kind)=solidM l b.X b.Y (sizeOf b.Kind) by rw[solidAt,hl,Yu.2 hs16]; rfl] at h3
  cases e3:solidM l b.X b.Y (sizeOf b.Kind) with
  |true =>
   rw[e3] at h3
   rw[show bodyM l n b=false by rw[bodyM,e1,e2,e3]; rfl]
   refine Wz [242,20] ?_;refine Xe u8_12 u8_13 u8_14 J ?_;refine Wz [197,13,13,13] ?_;refine DR.s (Qj J J (hsz) J) J J ?_;refine DR.s (Qj J J (h3) J) J J ?_;refine Wz [12,23] ?_
   exact Xk J J (Xw [] (by decide) J J J)
  | false =>
   rw[e3] at h3
   refine Wz [242,20] ?_;refine Xe u8_12 u8_13 u8_14 J ?_;refine Wz [197,13,13,13] ?_;refine DR.s (Qj J J (hsz) J) J J ?_;refine DR.s (Qj J J (h3) J) J J ?_;refine Wz [12,39,18] ?_;refine zx (Qj J J (Xm b.VX (-15) 15) J) J ?_;refine Wz [3,110] ?_;refine zx (Qt.grdF J J J (.hit (.hit .stop)) (fun hgrd=>Qj J J (Xm b.VY (-15) 15) J)) J ?_;refine Wz [105,43] ?_
   refine Q9 J (fun h4 => ?_) (fun h4 => ?_)
   ·simp only[Gqo,Gxd] at h4
    rw[show bodyM l n b=false by rw[bodyM]; rcases h4 with h4 | h4 <;> rw[h4] <;> simp]
    refine Wz [35] ?_
    exact Xk J J (Xw [] (by decide) J J J)
   simp only[Gql,Gqy] at h4
   rw[show bodyM l n b=tailM b by rw[bodyM,e1,e2,e3,h4.1,h4.2]; rfl]
   by_cases k0:b.Kind=0
   ·have hk:decide (b.Kind=0)=true:=Gqb k0
    refine Wz [48,18,88,17,87,18,160,0,112,113] ?_;refine zx (Qt.grdT J J J (.hit (.hit .stop)) (fun hgrd=>Z4 J J J J)) J ?_;refine Wz [49,110] ?_;refine zx (Qt.grdF J J J (.hit (.hit .stop)) (fun hgrd=>Qj J J (Xm b.Life 0 3) J)) J ?_;refine Wz [105,43] ?_
    refine Q9 J (fun h => ?_) (fun h => ?_)
    ·rw[show tailM b=false by
      rw[tailM,if_pos k0]
      simp only[Gqo,Gqk,decide_eq_true_eq,Gxd] at h
      rcases h with h | h
      ·rw[Gqa (by omega)]; rfl
      ·rw[h]; simp]
     refine Wz [66,201,31] ?_
     exact Xk J J (Xw [] (by decide) J J J)
    simp only[Gql,Gxf,decide_eq_false_iff_not,Gqy] at h
    have hlf:=Yu.1 h.2
    have ht:tailM b=if b.Life=0 then inR b.Timer 1 20 else inR b.Timer 0 12:=by
     rw[tailM,if_pos k0,Gqb (by omega),h.2]; rfl
    by_cases l0:b.Life=0
    ·have hk2:decide (0<b.Life)=false:=Gqa (by omega)
     rw[ht,if_pos l0]
     refine Wz [48,18,190,54,41] ?_;refine zx (Qj J J (Xm b.Timer 1 20) J) J ?_;refine Wz [72,31] ?_
     exact Xk J J (Xw [] (by decide) J J J)
    ·have hk2:decide (0<b.Life)=true:=Gqb (by omega)
     rw[ht,if_neg l0]
     refine Wz [48,18,190,17,41] ?_;refine zx (Qj J J (Xm b.Timer 0 12) J) J ?_;refine Wz [72,201,31] ?_
     exact Xk J J (Xw [] (by decide) J J J)
   have hk:decide (b.Kind=0)=false:=Gqa k0
   refine Wz [48,18,88,39,18,160,110] ?_;refine zx (Qt.grdF J J J (.hit (.hit .stop)) (fun hgrd=>Z4 J J J J)) J ?_;refine Wz [43] ?_
   refine Q9 J (fun h5 => ?_) (fun h5 => ?_)
   ·simp only[Gqo,decide_eq_true_eq] at h5
    rw[show tailM b=false by
     rw[tailM,if_neg k0]
     split
     ·rw[Gqa (by omega)]; rfl
     ·exact Gqa (by omega)]
    refine Wz [35] ?_
    exact Xk J J (Xw [] (by decide) J J J)
   simp only[Gql,decide_eq_false_iff_not] at h5
   by_cases k1:b.Kind=1
   ·have hk1:decide (b.Kind=1)=true:=Gqb k1
    rw[show tailM b=inR b.Timer 1 25 by rw[tailM,if_neg k0,if_pos k1,Gqb (by omega)]; rfl]
    refine Wz [48,18,88,17,41] ?_;refine zx (Qj J J (Xm b.Timer 1 25) J) J ?_;refine Wz [72,31] ?_
    exact Xk J J (Xw [] (by decide) J J J)
   ·have hk1:decide (b.Kind=1)=false:=Gqa k1
    rw[show tailM b=decide (b.Timer=0) by rw[tailM,if_neg k0,if_neg k1]; exact decide_eq_decide.2 (by omega)]
    refine Wz [48,18,88,54,41,174,52] ?_
    exact Xk J J (Xw [] (by decide) J J J)
end
section
open Go.RowKit

noncomputable def bodyAt (l:TLevel) (n k:Nat) (b:TBody):Bool:=bodyM l n b&&(if k<n then decide (b.Kind=0∧b.Owner=k) else decide (b.Kind≠0))
def bodiesOk (l:TLevel) (n:Nat) (bs:List TBody):Prop:=∀ (k:Nat) (hk:k<bs.length),bodyAt l n k bs[k]=true
def scoresOk (ss:List Int):Bool:=ss.all fun x=>inR x 0 1000000
noncomputable def worldOk (w:TWorld):Bool:=@decide (levelOk w.Level=true∧inR w.Tick 0 100000=true∧inR w.Seed 0 65535=true∧(1≤w.Scores.length∧w.Scores.length≤4)∧scoresOk w.Scores=true∧(w.Scores.length≤w.Bodies.length∧w.Bodies.length≤24)∧bodiesOk w.Level w.Scores.length w.Bodies) (Classical.propDecidable _)
theorem worldOk_T {w:TWorld} (h:levelOk w.Level=true∧inR w.Tick 0 100000=true∧inR w.Seed 0 65535=true∧(1≤w.Scores.length∧w.Scores.length≤4)∧scoresOk w.Scores=true∧(w.Scores.length≤w.Bodies.length∧w.Bodies.length≤24)∧bodiesOk w.Level w.Scores.length w.Bodies):worldOk w=true:=@decide_eq_true _ (Classical.propDecidable _) h
theorem Kq {w:TWorld} (h:¬(levelOk w.Level=true∧inR w.Tick 0 100000=true∧inR w.Seed 0 65535=true∧(1≤w.Scores.length∧w.Scores.length≤4)∧scoresOk w.Scores=true∧(w.Scores.length≤w.Bodies.length∧w.Bodies.length≤24)∧bodiesOk w.Level w.Scores.length w.Bodies)):worldOk w=false:=@decide_eq_false _ (Classical.propDecidable _) h
theorem Kr {w:TWorld} (h:worldOk w=true):levelOk w.Level=true∧inR w.Tick 0 100000=true∧inR w.Seed 0 65535=true∧(1≤w.Scores.length∧w.Scores.length≤4)∧scoresOk w.Scores=true∧(w.Scores.length≤w.Bodies.length∧w.Bodies.length≤24)∧bodiesOk w.Level w.Scores.length w.Bodies:=@of_decide_eq_true _ (Classical.propDecidable _) h
theorem score_no {ss:List Int} {k:Nat} (h:k<ss.length) (hn:inR ss[k] 0 1000000=false):scoresOk ss=false:=by
 rw[scoresOk,←Gxo,Gqn]
 intro hh
 rw[hh _ (Gqd h)] at hn
 cases hn
theorem I_WorldOk (x:TWorld) (hg:Enc.gd x):Con Tryz.prog 193 [] [ag x] [] (B (worldOk x)):=by
 obtain⟨gL,gT,gS,gSc,gB⟩:=hg
 have g1:=gSc.1
 have g2:=gB.1
 have hls:=Yf x.Scores
 have hlb:=Yf x.Bodies
 have hc:=I_LevelOk x.Level gL
 refine Con.of Tryz.func193 J Tryz.ntmps193 J (fun E => ?_)
 refine Wz [124,36,198] ?_;refine zx (Qj J J (hc) J) J ?_;refine Wz [3,110] ?_;refine zx (Qt.grdF J J J (.hit (.hit .stop)) (fun hgrd=>Qj J J (Xm x.Tick 0 100000) J)) J ?_;refine Wz [105,97] ?_;refine zx (Qt.grdF J J J (.hit (.hit .stop)) (fun hgrd=>Qj J J (Xm x.Seed 0 65535) J)) J ?_;refine Wz [105,43] ?_
 refine Q9 J (fun h => ?_) (fun h => ?_)
 ·simp only[Gqo,Gxd] at h
  rw[Kq (fun hh=>by rcases h with (h | h) | h; rw[hh.1] at h; cases h; rw[hh.2.1] at h; cases h; rw[hh.2.2.1] at h; cases h)]
  refine Wz [35] ?_
  exact Xk J J (Xw [] (by decide) J J J)
 simp only[Gql,Gqy] at h
 obtain⟨⟨hL,hT⟩,hS⟩:=h
 refine Wz [64,41,14,46,153,0,95,213,43] ?_
 refine Q9 J (fun h => ?_) (fun h => ?_)
 ·simp only[Gqo,decide_eq_true_eq] at h
  rw[Kq (fun hh=>by have:=hh.2.2.2.1; omega)]
  refine Wz [35] ?_
  exact Xk J J (Xw [] (by decide) J J J)
 simp only[Gql,decide_eq_false_iff_not] at h
 refine Wz [48,18,123,102] ?_;refine Xf (fun m st=>∃ k:Nat,k+m=x.Scores.length∧((x.Scores.take k).all (fun y=>inR y 0 1000000)=true)∧st=(⟨_,[(1,.o (.c (.ptr 0 0))),(3,I (els x.Scores).length),(34,L x.Scores),(35,I (els x.Scores).length),(36,I k)],[.box ((Enc.e x).map (V1.rd []))]⟩:St)) (x.Scores.length) ⟨_,⟨0,by omega,by simp,J⟩,Xy [0] (by kernel_rfl)⟩ ?_
 rintro m_A _ ⟨k,hk_A,hp_A,rfl⟩
 refine Wz [1,38,20] ?_
 refine Q9 J (fun h3 => ?_) (fun h3 => ?_)
 ·have h3:k<x.Scores.length:=by have:=Gqc h3; omega
  have hat:=Yc h3
  cases e:inR x.Scores[k] 0 1000000 with
  |false =>
   have hb:=Xm x.Scores[k] 0 1000000
   rw[e] at hb
   rw[Kq (fun hh=>by have h9:=hh.2.2.2.2.1; rw[score_no h3 e] at h9; cases h9)]
   refine Wz [6,1,92,19] ?_;refine zx (Qj J J (hb) J) J ?_;refine Wz [3,17,51] ?_
   exact Xk J J (Xw [] (by decide) J J J)
  |true =>
   have hb:=Xm x.Scores[k] 0 1000000
   rw[e] at hb
   refine Wz [6,1,92,19] ?_;refine zx (Qj J J (hb) J) J ?_;refine Wz [3,79,128,59,75,8,0,4] ?_
   exact⟨x.Scores.length-(k+1),by omega,_,⟨k+1,by omega,X3 hp_A h3 e,J⟩,Xy [0] (by kernel_rfl)⟩
 have h3:¬k<x.Scores.length:=by have:=Gqe h3; omega
 have hall:scoresOk x.Scores=true:=X1 hp_A (by omega)
 refine Wz [16,87,18,123,153,110,150,240,43] ?_
 refine Q9 J (fun h5 => ?_) (fun h5 => ?_)
 ·simp only[Gqo,decide_eq_true_eq] at h5
  rw[Kq (fun hh=>by have:=hh.2.2.2.2.2.1; omega)]
  refine Wz [35] ?_
  exact Xk J J (Xw [] (by decide) J J J)
 simp only[Gql,decide_eq_false_iff_not] at h5
 refine Wz [48,18,123,102] ?_;refine Xf (fun m st=>∃ k:Nat,k+m=x.Bodies.length∧((∀ (j:Nat) (hj:j<x.Bodies.length),j<k→bodyAt x.Level x.Scores.length j x.Bodies[j]=true))∧st=(⟨_,[(1,.o (.c (.ptr 0 0))),(3,I (els x.Scores).length),(56,L x.Bodies),(57,I (els x.Bodies).length),(58,I k)],[.box ((Enc.e x).map (V1.rd []))]⟩:St)) (x.Bodies.length) ⟨_,⟨0,by omega,fun j hj h0=>by omega,J⟩,Xy [0] (by kernel_rfl)⟩ ?_
 rintro m_C _ ⟨k,hk_C,hp_C,rfl⟩
 refine Wz [1,38,20] ?_
 refine Q9 J (fun h6 => ?_) (fun h6 => ?_)
 ·have h6:k<x.Bodies.length:=by have:=Gqc h6; omega
  have hat:=Yc h6
  have gb:=gB.2 _ (Gqd h6)
  have hb:=I_BodyOk x.Level (els x.Scores).length x.Bodies[k] gL gb (by omega)
  rw[hL,Bool.true_and] at hb
  have hlen:((els x.Scores).length:Int)=(x.Scores.length:Int):=by rw[hls]
  cases e:bodyM x.Level (els x.Scores).length x.Bodies[k] with
  |false =>
   rw[e] at hb
   rw[Kq (fun hh=>by have h9:=hh.2.2.2.2.2.2 k h6; rw[bodyAt,←hlen,e] at h9; cases h9)]
   refine Wz [6,9,37,40,149,30,87,198,0,53] ?_;refine zx (Qj J J (hb) J) J ?_;refine Wz [3,17,66,82,139,31] ?_
   exact Xk J J (Xw [] (by decide) J J J)
  | true =>
   rw[e] at hb
   rw[hlen] at e
   by_cases hkn:(k:Int)<(els x.Scores).length
   ·have hd:decide ((k:Int)<(els x.Scores).length)=true:=Gqb hkn
    have hd2:decide (((els x.Scores).length:Int)≤k)=false:=Gqa (by omega)
    refine Wz [6,9,37,40,149,30,87,198,0,53] ?_;refine zx (Qj J J (hb) J) J ?_;refine Wz [3,39,131,108,26,81,2,133,2,160,2,110,168,271,2,115,28,4] ?_
    refine Q9 J (fun h7 => ?_) (fun h7 => ?_)
    ·simp only[Gqo,decide_eq_true_eq] at h7
     rw[Kq (fun hh=>by have h9:=hh.2.2.2.2.2.2 k h6; rw[bodyAt,e,if_pos (by omega)] at h9; have:=Gqc h9; omega)]
     refine Wz [66,82,139,31] ?_
     exact Xk J J (Xw [] (by decide) J J J)
    ·simp only[Gql,decide_eq_false_iff_not] at h7
     refine Wz [64,7,167,0,118,104,15,79,128,59,75,8,0,4] ?_
     exact⟨x.Bodies.length-(k+1),by omega,_,⟨k+1,by omega,fun j hj h0=>by by_cases hjk:j=k; subst hjk; rw[bodyAt,e,if_pos (by omega)]; exact Gqb (by omega); exact hp_C j hj (by omega),J⟩,Xy [0] (by kernel_rfl)⟩
   ·have hd:decide ((k:Int)<(els x.Scores).length)=false:=Gqa hkn
    have hd2:decide (((els x.Scores).length:Int)≤k)=true:=Gqb (by omega)
    by_cases k0:x.Bodies[k].Kind=0
    ·have hd3:decide (x.Bodies[k].Kind=0)=true:=Gqb k0
     rw[Kq (fun hh=>by have h9:=hh.2.2.2.2.2.2 k h6; rw[bodyAt,e,if_neg (by omega)] at h9; have:=Gqc h9; omega)]
     refine Wz [6,9,37,40,149,30,87,198,0,53] ?_;refine zx (Qj J J (hb) J) J ?_;refine Wz [3,39,131,108,0,91,111,111,111,111,104,15,54,7,167,26,81,2,133,2,88,28,17,51] ?_
     exact Xk J J (Xw [] (by decide) J J J)
    ·have hd3:decide (x.Bodies[k].Kind=0)=false:=Gqa k0
     refine Wz [6,9,37,40,149,30,87,198,0,53] ?_;refine zx (Qj J J (hb) J) J ?_;refine Wz [3,39,131,108,0,91,111,111,111,111,104,15,54,7,167,26,81,2,133,2,88,28,79,128,59,75,8,0,4] ?_
     exact⟨x.Bodies.length-(k+1),by omega,_,⟨k+1,by omega,fun j hj h0=>by by_cases hjk:j=k; subst hjk; rw[bodyAt,e,if_neg (by omega)]; exact Gqb k0; exact hp_C j hj (by omega),J⟩,Xy [0] (by kernel_rfl)⟩
 have h6:¬k<x.Bodies.length:=by have:=Gqe h6; omega
 rw[worldOk_T ⟨hL,hT,hS,by omega,hall,by omega,fun j hj=>hp_C j hj (by omega)⟩]
 refine Wz [16,61] ?_
 exact Xk J J (Xw [] (by decide) J J J)
theorem S_WorldOk (x:TWorld) (hg:Enc.gd x):Con Tryz.prog 157 [] [ag x] [] (B (worldOk x)):=by
 obtain⟨gL,gT,gS,gSc,gB⟩:=hg
 have g1:=gSc.1
 have g2:=gB.1
 have hls:=Yf x.Scores
 have hlb:=Yf x.Bodies
 have hc:=S_LevelOk x.Level gL
 refine Con.of Tryz.func157 J Tryz.ntmps157 J (fun E => ?_)
 refine Wz [47,41,14,36,198] ?_;refine zx (Qj J J (hc) J) J ?_;refine Wz [3,110] ?_;refine zx (Qt.grdF J J J (.hit (.hit .stop)) (fun hgrd=>Qj J J (Xv x.Tick 0 100000) J)) J ?_;refine Wz [105,97] ?_;refine zx (Qt.grdF J J J (.hit (.hit .stop)) (fun hgrd=>Qj J J (Xv x.Seed 0 65535) J)) J ?_;refine Wz [105,115,0,95] ?_;refine zx (Qt.grdF J J J (.hit .stop) (fun hgrd=>Qj J J (Xv (els x.Scores).length 1 4) J)) J ?_;refine Wz [194,97,150,176] ?_;refine zx (Qt.grdF J J J (.hit (.hit (.hit (.hit .stop)))) (fun hgrd=>Qj J J (Xv (els x.Bodies).length (els x.Scores).length 24) J)) J ?_;refine zx (Qt.grdF J J J (.hit (.hit (.hit (.hit (.hit .stop))))) (fun hgrd=>Q3 J J J)) J ?_;refine Wz [43] ?_
 refine Q9 J (fun h => ?_) (fun h => ?_)
 ·simp only[Gqo,Gxd] at h
  rw[Kq (fun hh=>by rcases h with (((h | h) | h) | h) | h; rw[hh.1] at h; cases h; rw[hh.2.1] at h; cases h; rw[hh.2.2.1] at h; cases h; rw[←Gxo,Yu] at h; have:=hh.2.2.2.1; omega; rw[←Gxo,Yu] at h; have:=hh.2.2.2.2.2.1; omega)]
  refine Wz [35] ?_
  exact Xk J J (Xw [] (by decide) J J J)
 simp only[Gql,Gqy] at h
 obtain⟨⟨⟨⟨hL,hT⟩,hS⟩,hN⟩,hB⟩:=h
 have hN:=Yu.1 hN
 have hB:=Yu.1 hB
 refine Wz [48,44] ?_;refine Xf (fun m st=>∃ k:Nat,k+m=x.Scores.length∧((x.Scores.take k).all (fun y=>inR y 0 1000000)=true)∧st=(⟨_,[(1,.o (.c (.ptr 0 0))),(3,I (els x.Scores).length),(4,I k)],[.box ((Enc.e x).map (V1.rd []))]⟩:St)) (x.Scores.length) ⟨_,⟨0,by omega,by simp,J⟩,Xy [0] (by kernel_rfl)⟩ ?_
 rintro m_A _ ⟨k,hk_A,hp_A,rfl⟩
 refine Wz [25,38] ?_
 refine Q9 J (fun h3 => ?_) (fun h3 => ?_)
 ·have h3:k<x.Scores.length:=by have:=Gqc h3; omega
  have hat:=Yc h3
  have hb:=Xv x.Scores[k] 0 1000000
  cases e:inR x.Scores[k] 0 1000000 with
  |false =>
   rw[e] at hb
   rw[Kq (fun hh=>by have h9:=hh.2.2.2.2.1; rw[score_no h3 e] at h9; cases h9)]
   refine Wz [6,71,92] ?_;refine zx (Qj J J (hb) J) J ?_;refine Wz [3,17,51] ?_
   exact Xk J J (Xw [] (by decide) J J J)
  |true =>
   rw[e] at hb
   refine Wz [6,71,92] ?_;refine zx (Qj J J (hb) J) J ?_;refine Wz [3,79,58] ?_
   exact⟨x.Scores.length-(k+1),by omega,_,⟨k+1,by omega,X3 hp_A h3 e,J⟩,Xy [0] (by kernel_rfl)⟩
 have h3:¬k<x.Scores.length:=by have:=Gqe h3; omega
 have hall:scoresOk x.Scores=true:=X1 hp_A (by omega)
 refine Wz [16,87,44] ?_;refine Xf (fun m st=>∃ k:Nat,k+m=x.Bodies.length∧((∀ (j:Nat) (hj:j<x.Bodies.length),j<k→bodyAt x.Level x.Scores.length j x.Bodies[j]=true))∧st=(⟨_,[(1,.o (.c (.ptr 0 0))),(3,I (els x.Scores).length),(5,I k)],[.box ((Enc.e x).map (V1.rd []))]⟩:St)) (x.Bodies.length) ⟨_,⟨0,by omega,fun j hj h0=>by omega,J⟩,Xy [0] (by kernel_rfl)⟩ ?_
 rintro m_C _ ⟨k,hk_C,hp_C,rfl⟩
 refine Wz [69,67,38] ?_
 refine Q9 J (fun h6 => ?_) (fun h6 => ?_)
 ·have h6:k<x.Bodies.length:=by have:=Gqc h6; omega
  have hat:=Yc h6
  have gb:=gB.2 _ (Gqd h6)
  have hb:=S_l02Body x.Level (els x.Scores).length x.Bodies[k] gL hL gb (by omega)
  have hlen:((els x.Scores).length:Int)=(x.Scores.length:Int):=by rw[hls]
  cases e:bodyM x.Level (els x.Scores).length x.Bodies[k] with
  |false =>
   rw[e] at hb
   rw[Kq (fun hh=>by have h9:=hh.2.2.2.2.2.2 k h6; rw[bodyAt,←hlen,e] at h9; cases h9)]
   refine Wz [6,71,37,40,30,94,53] ?_;refine zx (Qj J J (hb) J) J ?_;refine Wz [3,0,91,118,104,28,0,91,111,111,111,111,104,28,17,51] ?_
   exact Xk J J (Xw [] (by decide) J J J)
  | true =>
   rw[e] at hb
   rw[hlen] at e
   by_cases hkn:(k:Int)<(els x.Scores).length
   ·have hd:decide ((k:Int)<(els x.Scores).length)=true:=Gqb hkn
    by_cases k0:x.Bodies[k].Kind=0
    ·have hd3:decide (x.Bodies[k].Kind=0)=true:=Gqb k0
     by_cases ho:x.Bodies[k].Owner≠(k:Int)
     ·have hd4:decide (x.Bodies[k].Owner≠(k:Int))=true:=Gqb ho
      rw[Kq (fun hh=>by have h9:=hh.2.2.2.2.2.2 k h6; rw[bodyAt,e,if_pos (by omega)] at h9; have:=Gqc h9; omega)]
      refine Wz [6,71,37,40,30,94,53] ?_;refine zx (Qj J J (hb) J) J ?_;refine Wz [3,26,81,2,133,2,88,2,22,108,2,243,15,22,26,108,2,26,81,2,133,2,26,83,2,28,15,17,51] ?_
      exact Xk J J (Xw [] (by decide) J J J)
     ·have hd4:decide (x.Bodies[k].Owner≠(k:Int))=false:=Gqa ho
      refine Wz [6,71,37,40,30,94,53] ?_;refine zx (Qj J J (hb) J) J ?_;refine Wz [3,26,81,2,133,2,88,2,22,108,2,243,15,22,26,108,2,26,81,2,133,2,26,83,2,28,15,79,58] ?_
      exact⟨x.Bodies.length-(k+1),by omega,_,⟨k+1,by omega,fun j hj h0=>by by_cases hjk:j=k; subst hjk; rw[bodyAt,e,if_pos (by omega)]; exact Gqb (by omega); exact hp_C j hj (by omega),J⟩,Xy [0] (by kernel_rfl)⟩
    ·have hd3:decide (x.Bodies[k].Kind=0)=false:=Gqa k0
     rw[Kq (fun hh=>by have h9:=hh.2.2.2.2.2.2 k h6; rw[bodyAt,e,if_pos (by omega)] at h9; have:=Gqc h9; omega)]
     refine Wz [6,71,37,40,30,94,53] ?_;refine zx (Qj J J (hb) J) J ?_;refine Wz [3,26,81,2,133,2,88,2,22,108,2,243,15,0,91,111,111,111,111,104,28,17,51] ?_
     exact Xk J J (Xw [] (by decide) J J J)
   ·have hd:decide ((k:Int)<(els x.Scores).length)=false:=Gqa hkn
    by_cases k0:x.Bodies[k].Kind=0
    ·have hd3:decide (x.Bodies[k].Kind=0)=true:=Gqb k0
     rw[Kq (fun hh=>by have h9:=hh.2.2.2.2.2.2 k h6; rw[bodyAt,e,if_neg (by omega)] at h9; have:=Gqc h9; omega)]
     refine Wz [6,71,37,40,30,94,53] ?_;refine zx (Qj J J (hb) J) J ?_;refine Wz [3,26,81,2,133,2,88,2,22,108,2,243,15,0,91,111,111,111,111,104,28,17,51] ?_
     exact Xk J J (Xw [] (by decide) J J J)
    ·have hd3:decide (x.Bodies[k].Kind=0)=false:=Gqa k0
     refine Wz [6,71,37,40,30,94,53] ?_;refine zx (Qj J J (hb) J) J ?_;refine Wz [3,26,81,2,133,2,88,2,22,108,2,243,15,22,26,108,2,0,91,2,15,15,79,58] ?_
     exact⟨x.Bodies.length-(k+1),by omega,_,⟨k+1,by omega,fun j hj h0=>by by_cases hjk:j=k; subst hjk; rw[bodyAt,e,if_neg (by omega)]; exact Gqb k0; exact hp_C j hj (by omega),J⟩,Xy [0] (by kernel_rfl)⟩
 have h6:¬k<x.Bodies.length:=by have:=Gqe h6; omega
 rw[worldOk_T ⟨hL,hT,hS,by omega,hall,by omega,fun j hj=>hp_C j hj (by omega)⟩]
 refine Wz [16,61] ?_
 exact Xk J J (Xw [] (by decide) J J J)
end
end Go.Proofs.YtoecjaohdnoenaaGreat
