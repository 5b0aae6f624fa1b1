/-
  Rules, data and contracts of functions: part 38 of the proof.
  Conditions: those that each theorem names.
-/
import Derived.Test.YtpmacgnmlmmojaaGreatDoorDDRBRowk36
set_option linter.unusedSimpArgs false
set_option linter.unusedVariables false
set_option maxRecDepth 8000
set_option maxHeartbeats 8000000
namespace Go.Proofs.YtpmacgnmlmmojaaGreatDoor
section
open Go.RowKit

def keyText (s:ByteArray) (keys:List ByteArray):Nat→Option ByteArray
 |0=>some s
 | n+1=>match keyText s keys n with
  |none=>none
  |some t=>match keys[n]? with
   |none=>none
   |some d=>applyD t d
theorem keyText_none {s:ByteArray} {keys:List ByteArray} {i:Nat} (h:keyText s keys i=none):∀ {n:Nat},i≤n→keyText s keys n=none
 |0,hn=>by have:i=0:=(by omega); subst this; exact h
 |n+1,hn=>by
  by_cases e:i=n+1
  ·subst e; exact h
  ·rw[keyText,keyText_none h (by omega)]
theorem keyText_step {s t d:ByteArray} {keys:List ByteArray} {n:Nat} (h:keyText s keys n=some t) (hk:keys[n]? = some d):keyText s keys (n+1)=applyD t d:=by rw[keyText,h]; simp only[hk]
theorem keyText_len {s:ByteArray} {keys:List ByteArray} (hs:s.size≤20000):∀ {n:Nat} {t:ByteArray},keyText s keys n=some t→t.size≤20000
 |0,t,h=>by cases h; exact hs
 | n+1,t,h=>by
  rw[keyText] at h
  split at h
  ·cases h
  ·split at h
   ·cases h
   ·exact applyD_len h
structure ROk (r:TReplay):Prop where
 l:levelOk r.Level=true
 p:1≤r.Players∧r.Players≤4
 s:inR r.Seed 0 65535=true
 e:1≤r.Every∧r.Every≤100
 k:r.Keys.length≤400
theorem rok {r:TReplay} (h:replayOk r=true):ROk r:=by
 unfold replayOk at h
 simp only[Gqg,decide_eq_true_eq,Zn] at h
 obtain⟨⟨⟨⟨⟨⟨h1,h2⟩,h3⟩,h4⟩,h5⟩,h6⟩,h7⟩:=h
 refine⟨h1,h2,Zn.2 h3,h4,?_⟩
 have:(r.Rows.length:Int)/r.Every≤r.Rows.length:=Int.ediv_le_self _ (by omega)
 omega
noncomputable def keyWorld (r:TReplay) (k:Nat):Option TWorld:=match keyText (worldBytes (newWorld r.Level r.Players.toNat r.Seed)) r.Keys k with
 |none=>none
 |some s=>match readWorld r.Level s with
  |none=>none
  |some w=>if w.Tick=(k:Int)*r.Every∧(w.Scores.length:Int)=r.Players then some w else none
noncomputable def keyAt (r:TReplay) (k:Int):Option TWorld:=if replayOk r=true ∧ -1≤k∧k<r.Keys.length then (if k<0 then some (newWorld r.Level r.Players.toNat r.Seed) else keyWorld r (k+1).toNat) else none
theorem keyWorld_0 (r:TReplay) (hl:levelOk r.Level=true) (hp:1≤r.Players∧r.Players≤4) (hs:inR r.Seed 0 65535=true):keyWorld r 0=some (newWorld r.Level r.Players.toNat r.Seed):=by
 rw[keyWorld,keyText]
 simp only[newWorld_back hl (n:=r.Players.toNat) (by omega) hs]
 rw[if_pos]
 constructor
 ·show (0:Int)=((0:Nat):Int)*r.Every; simp
 ·simp only[newWorld,Gxs]; omega
theorem Yx (w:TWorld):(worldBytes w).size≤20000:=by
 unfold worldBytes
 split
 ·rename_i h
  have hw:=Vr h
  have h1:=packInts_size (worldInts w)
  have h2:=flat_length w.Bodies
  have h3:(worldInts w).length=3+w.Scores.length+9*w.Bodies.length:=by
   simp only[worldInts,Gqe,Gqt,List.length_nil]; omega
  have h4:=hw.2.2.2.1
  have h5:=hw.2.2.2.2.2.1
  omega
 ·decide
theorem keyAt_bad {r:TReplay} {k:Int} (h:¬(replayOk r=true ∧ -1≤k∧k<r.Keys.length)):keyAt r k=none:=if_neg h
theorem keyAt_neg {r:TReplay} {k:Int} (h:replayOk r=true ∧ -1≤k∧k<r.Keys.length) (hk:k<0):keyAt r k=some (newWorld r.Level r.Players.toNat r.Seed):=by rw[keyAt,if_pos h,if_pos hk]
theorem keyAt_pos {r:TReplay} {k:Int} (h:replayOk r=true ∧ -1≤k∧k<r.Keys.length) (hk:¬k<0):keyAt r k=keyWorld r (k+1).toNat:=by rw[keyAt,if_pos h,if_neg hk]
theorem keyAt_all {r:TReplay} {k:Int} (h:replayOk r=true ∧ -1≤k∧k<r.Keys.length):keyAt r k=keyWorld r (k+1).toNat:=by
 by_cases hk:k<0
 ·have hr:=rok h.1
  rw[keyAt_neg h hk,show (k+1).toNat=0 by omega,keyWorld_0 r hr.l hr.p hr.s]
 ·exact keyAt_pos h hk
section
variable {r:TReplay} {n:Nat} {s:ByteArray} {w:TWorld}
theorem Zp (h:keyText (worldBytes (newWorld r.Level r.Players.toNat r.Seed)) r.Keys n=none):keyWorld r n=none:=by rw[keyWorld,h]
variable (h:keyText (worldBytes (newWorld r.Level r.Players.toNat r.Seed)) r.Keys n=some s)
include h
theorem Zq (h2:readWorld r.Level s=none):keyWorld r n=none:=by rw[keyWorld,h]; simp only[h2]
theorem Zo (h2:readWorld r.Level s=some w) (hn:¬(w.Tick=(n:Int)*r.Every∧(w.Scores.length:Int)=r.Players)):keyWorld r n=none:=by rw[keyWorld,h]; simp only[h2]; rw[if_neg hn]
theorem Zr (h2:readWorld r.Level s=some w) (hn:w.Tick=(n:Int)*r.Every∧(w.Scores.length:Int)=r.Players):keyWorld r n=some w:=by rw[keyWorld,h]; simp only[h2]; rw[if_pos hn]
end
theorem keyAt_in {r:TReplay} {k:Int} (hr:RepIn r):WorIn (rwW (keyAt r k)):=by
 by_cases hv:replayOk r=true ∧ -1≤k∧k<r.Keys.length
 ·rw[keyAt_all hv]
  cases ht:keyText (worldBytes (newWorld r.Level r.Players.toNat r.Seed)) r.Keys (k+1).toNat with
  |none=>rw[Zp ht]; exact Vp
  | some s =>
   have hl:=keyText_len (Yx _) ht
   cases hw:readWorld r.Level s with
   |none=>rw[Zq ht hw]; exact Vp
   | some w =>
    by_cases hc:w.Tick=((k+1).toNat:Int)*r.Every∧(w.Scores.length:Int)=r.Players
    ·have:=read_in (lv:=r.Level) (s:=s) hr.gd.1 hr.h1 (by omega)
     rw[hw] at this
     rw[Zr ht hw hc]
     exact this
    ·rw[Zo ht hw hc]; exact Vp
 ·rw[keyAt_bad hv]; exact Vp
theorem key_mul {k e:Int} (h0:0≤k) (h1:k≤400) (h2:1≤e) (h3:e≤100):0≤k*e∧k*e≤40000:=⟨Int.mul_nonneg h0 (by omega),by
 have:=Int.mul_le_mul h1 h3 (by omega) (by omega)
 omega⟩
theorem I_KeyAt (r:TReplay) (k:Int) (hg:Enc.gd r) (hk:I64 k) (ir:RepIn r) (hks:∀ x∈r.Keys,x.size≤1048576):Con Tryz.prog 154 [] [ag r,ai k] (ownO (Enc.e (rwW (keyAt r k)))) (.tu [.ag (ownV 0 (Enc.e (rwW (keyAt r k)))),.c (bv (rwB (keyAt r k)))]):=by
 have cr:=Xv r hg
 have hlk:=Y9 r.Keys
 obtain⟨hk1,hk2⟩:=hk
 have hL:=ir.h1
 refine Con.of Tryz.func154 J Tryz.ntmps154 J (fun E => ?_)
 refine Wz [51,23,6] ?_;refine zx (Qj J J (cr) J) J ?_;refine Wz [16,89,292,120,89,230,231,232] ?_;refine zx (Uk J (.hit (.hit (.hit (.hit .stop)))) (fun hgrd=>q_geq J J J J)) J ?_;refine Wz [110] ?_
 refine Xb J (fun h => ?_) (fun h => ?_)
 ·rw[keyAt_bad (fun ⟨q1,q2,q3⟩=>by rw[q1] at h; simp at h; omega)]
  refine Wz [1,229] ?_
  exact G4 J J (Ye [1,1,9] [2,3,4] J J (by decide) J J J)
 simp only[Gqv,Gxr,decide_eq_false_iff_not] at h
 have hv:replayOk r=true ∧ -1≤k∧k<r.Keys.length:=⟨h.1.1,by omega,by omega⟩
 have hr:=rok hv.1
 obtain⟨hp1,hp2⟩:=hr.p
 have hnw:=I_NewWorld r.Level r.Players.toNat r.Seed hg.1 hL hr.l (by omega) hr.s
 rw[show ((r.Players.toNat:Nat):Int)=r.Players by omega] at hnw
 have hgn:=Zy (n:=r.Players.toNat) hg.1 hr.l (by omega) hr.s
 have hwb:=I_WorldBytes _ hgn
 have hbl:=Yx (newWorld r.Level r.Players.toNat r.Seed)
 refine AWP.pre (st':=(⟨_,[(1,I k),(2,.o (.c (.ptr 0 0))),(4,.o (.c (.ptr 1 0)))],[.box ((Enc.e r).map (V1.rd [])),.box [nilV,jn 0,jn 0,nilV,nilV]]⟩:St)) ?_ (Gs [0,1])
 by_cases hk0:k<0
 ·have e0:decide (k<0)=true:=Gqb hk0
  rw[keyAt_neg hv hk0]
  refine Wz [54,82,146] ?_;refine V6 (Kh J J (hnw) J J J) J ?_;refine Wz [117,8,5,7,15,6,0,152] ?_
  exact G4 J J (Gr [2,3,4] J J J)
 have e0:decide (k<0)=false:=Gqa hk0
 rw[keyAt_pos hv hk0]
 obtain⟨s0,hs0⟩:∃ s0,s0=worldBytes (newWorld r.Level r.Players.toNat r.Seed):=⟨_,rfl⟩
 rw[←hs0] at hwb hbl
 obtain⟨K,hK⟩:∃ K:Nat,k+1=K:=⟨(k+1).toNat,by omega⟩
 have hKl:K≤r.Keys.length:=by omega
 have htl:((els r.Keys).take (k+1).toNat).length=K:=by rw[Gqx]; omega
 have hkk:=hr.k
 rw[show (k+1).toNat=K by omega]
 refine Wz [54,82,146] ?_;refine V6 (Kh J J (hnw) J J J) J ?_;refine Wz [117,8,5,7,38,6] ?_;refine zx (Qj J J (hwb) J) J ?_;refine Wz [23,14,46] ?_;refine zx (q_part0 J J J J J (by omega)) J ?_;refine Wz [21,131,33] ?_;refine Xi (fun m st=>∃ (i:Nat) (t:ByteArray),i+m=K∧(keyText s0 r.Keys i=some t)∧st=(⟨_,[(1,I k),(2,.o (.c (.ptr 0 0))),(4,.o (.c (.ptr 1 0))),(8,S t),(53,.o (.c (.rd [] (.sl 1 ((els r.Keys).take (k+1).toNat))))),(54,I K),(55,I i)],[.box ((Enc.e r).map (V1.rd [])),.box [nilV,jn 0,jn 0,nilV,nilV]]⟩:St)) (K) ⟨(fun (i:Nat) (t:ByteArray)=>(⟨_,[(1,I k),(2,.o (.c (.ptr 0 0))),(4,.o (.c (.ptr 1 0))),(8,S t),(53,.o (.c (.rd [] (.sl 1 ((els r.Keys).take (k+1).toNat))))),(54,I K),(55,I i)],[.box ((Enc.e r).map (V1.rd [])),.box [nilV,jn 0,jn 0,nilV,nilV]]⟩:St)) 0 (s0),⟨0,s0,by omega,J,J⟩,Gp [0,1] J (.c J (.c J (.c J (.c J (.c J (.cons (Xz (by rw[htl])) (.c J (.nil))))))))⟩ ?_
 rintro m_A _ ⟨i,t,hk_A,hp_A,rfl⟩
 have htz:=keyText_len hbl hp_A
 refine Wz [1,100,39] ?_
 refine Xb J (fun h3 => ?_) (fun h3 => ?_)
 ·have h3:i<K:=by have:=Gqi h3; omega
  have hil:i<r.Keys.length:=by omega
  have hki:=Gqd hil
  have hat:((els r.Keys).take (k+1).toNat)[(i:Int).toNat]? = some (Enc.e (r.Keys[i])):=by
   rw[Gxi,if_pos (by omega)]
   exact Y7 hil
  have hdz:=hks _ (Gql hil)
  generalize r.Keys[i]=d at hki hat hdz
  have hap:=I_ApplyDelta t d (by omega) (by omega)
  have hst:=keyText_step hp_A hki
  cases hx:applyD t d with
  |none =>
   rw[hx] at hap hst
   rw[Zp (by rw[←hs0]; exact keyText_none hst (by omega))]
   refine Wz [26,1,49,96] ?_;refine V6 (Kh J J (hap) J J J) J ?_;refine Wz [118,130,28,151,170,85,53] ?_
   exact G4 J J (Ye [1,1,9] [2,3,4] J J (by decide) J J J)
  |some t' =>
   rw[hx] at hap hst
   refine Wz [26,1,49,96] ?_;refine V6 (Kh J J (hap) J J J) J ?_;refine Wz [118,130,38,22,127,64] ?_
   exact⟨K-(i+1),by omega,_,⟨i+1,t',by omega,hst,J⟩,Gs [0,1]⟩
 have h3:i=K:=by have:=Gqj h3; omega
 subst h3
 have hrw:=I_ReadWorld r.Level t hg.1 hL (by omega)
 have hkt:keyText (worldBytes (newWorld r.Level r.Players.toNat r.Seed)) r.Keys i=some t:=by rw[←hs0]; exact hp_A
 have hmul:=key_mul (k:=k+1) (e:=r.Every) (by omega) (by omega) hr.e.1 hr.e.2
 cases hw:readWorld r.Level t with
 |none =>
  rw[hw] at hrw
  rw[Zq hkt hw]
  refine Wz [40,82,0] ?_;refine V6 (Kh J J (hrw) J J J) J ?_;refine Wz [117,20,165,9,20,135,9,93] ?_
  exact G4 J J (Ye [1,1,9] [6,7,8] J J (by decide) J J J)
 | some w =>
  rw[hw] at hrw
  have hls:=Y9 w.Scores
  by_cases c1:w.Tick=(k+1)*r.Every
  ·have e1:decide (w.Tick≠(k+1)*r.Every)=false:=Gqa (fun q=>q c1)
   by_cases c2:(w.Scores.length:Int)=r.Players
   ·have e2:decide (((els w.Scores).length:Int)≠r.Players)=false:=Gqa (by rw[hls]; exact fun q=>q c2)
    rw[Zr hkt hw ⟨by rw[←hK]; exact c1,c2⟩]
    refine Wz [40,82,0] ?_;refine V6 (Kh J J (hrw) J J J) J ?_;refine Wz [117,27,18,35,3,59,67,3,116,27,58,59,116,38,6,115] ?_
    exact G4 J J (Gr [2,3,4] J J J)
   ·have e2:decide (((els w.Scores).length:Int)≠r.Players)=true:=Gqb (by rw[hls]; exact c2)
    rw[Zo hkt hw (fun q=>c2 q.2)]
    refine Wz [40,82,0] ?_;refine V6 (Kh J J (hrw) J J J) J ?_;refine Wz [117,27,18,35,3,59,67,3,116,27,58,59,116,93] ?_
    exact G4 J J (Ye [1,1,9] [6,7,8] J J (by decide) J J J)
  ·have e1:decide (w.Tick≠(k+1)*r.Every)=true:=Gqb c1
   rw[Zo hkt hw (fun q=>c1 (by rw[hK]; exact q.1))]
   refine Wz [40,82,0] ?_;refine V6 (Kh J J (hrw) J J J) J ?_;refine Wz [117,27,18,35,3,59,67,3,116,20,135,9,93] ?_
   exact G4 J J (Ye [1,1,9] [6,7,8] J J (by decide) J J J)
theorem S_KeyAt (r:TReplay) (k:Int) (hg:Enc.gd r) (hk:I64 k) (ir:RepIn r) (hks:∀ x∈r.Keys,x.size≤1048576):Con Tryz.prog 231 [] [ag r,ai k] (ownO (Enc.e (rwW (keyAt r k)))) (.tu [.ag (ownV 0 (Enc.e (rwW (keyAt r k)))),.c (bv (rwB (keyAt r k)))]):=by
 have cr:=X9 r hg
 have hlk:=Y9 r.Keys
 have hgk:=ir.h2
 obtain⟨hk1,hk2⟩:=hk
 have hL:=ir.h1
 have ci:=S_in k (-1) (((els r.Keys).length:Int)-1)
 refine Con.of Tryz.func231 J Tryz.ntmps231 J (fun E => ?_)
 refine Wz [51,23,6] ?_;refine zx (Qj J J (cr) J) J ?_;refine Wz [16,89,230,231,232,290] ?_;refine zx (Uk J (.hit (.hit (.hit (.hit (.hit .stop))))) (fun hgrd=>Qj J J (ci) J)) J ?_;refine zx (Uk J (.hit (.hit (.hit (.hit (.hit (.hit .stop)))))) (fun hgrd=>Q4 J J J)) J ?_;refine Wz [110] ?_
 refine Xb J (fun h => ?_) (fun h => ?_)
 ·rw[keyAt_bad (fun ⟨q1,q2,q3⟩=>by rw[q1,Zn.2 (by omega)] at h; exact absurd h (by decide))]
  refine Wz [1,229] ?_
  exact G4 J J (Ye [1,1,9] [2,3,4] J J (by decide) J J J)
 simp only[Gqv,Gxr,Zn] at h
 have hv:replayOk r=true ∧ -1≤k∧k<r.Keys.length:=⟨h.1,by omega,by omega⟩
 have hr:=rok hv.1
 obtain⟨hp1,hp2⟩:=hr.p
 have hnw:=S_NewWorld r.Level r.Players.toNat r.Seed hg.1 hL hr.l (by omega) hr.s
 rw[show ((r.Players.toNat:Nat):Int)=r.Players by omega] at hnw
 have hgn:=Zy (n:=r.Players.toNat) hg.1 hr.l (by omega) hr.s
 have hwb:=Ya _ hgn
 have hbl:=Yx (newWorld r.Level r.Players.toNat r.Seed)
 refine AWP.pre (st':=(⟨_,[(1,I k),(2,.o (.c (.ptr 0 0))),(4,.o (.c (.ptr 1 0)))],[.box ((Enc.e r).map (V1.rd [])),.box [nilV,jn 0,jn 0,nilV,nilV]]⟩:St)) ?_ (Gs [0,1])
 rw[keyAt_all hv]
 obtain⟨s0,hs0⟩:∃ s0,s0=worldBytes (newWorld r.Level r.Players.toNat r.Seed):=⟨_,rfl⟩
 rw[←hs0] at hwb hbl
 obtain⟨K,hK⟩:∃ K:Nat,k+1=K:=⟨(k+1).toNat,by omega⟩
 have hKl:K≤r.Keys.length:=by omega
 have hkk:=hr.k
 rw[show (k+1).toNat=K by omega]
 refine Wz [54,82,146] ?_;refine V6 (Kh J J (hnw) J J J) J ?_;refine Wz [228,11,6] ?_;refine zx (Qj J J (hwb) J) J ?_;refine Wz [23,63] ?_;refine Xi (fun m st=>∃ (i:Nat) (t:ByteArray),i+m=K∧(keyText s0 r.Keys i=some t)∧st=(⟨_,[(1,I k),(2,.o (.c (.ptr 0 0))),(4,.o (.c (.ptr 1 0))),(8,S t),(9,I i)],[.box ((Enc.e r).map (V1.rd [])),.box [nilV,jn 0,jn 0,nilV,nilV]]⟩:St)) (K) ⟨_,⟨0,s0,by omega,J,J⟩,Gs [0,1]⟩ ?_
 rintro m_A _ ⟨i,t,hk_A,hp_A,rfl⟩
 have htz:=keyText_len hbl hp_A
 refine Wz [24,256,2] ?_
 refine Xb J (fun h3 => ?_) (fun h3 => ?_)
 ·have h3:i<K:=by have:=Gqi h3; omega
  have hil:i<r.Keys.length:=by omega
  have hki:=Gqd hil
  have hat:=Y7 hil
  have hdz:=hks _ (Gql hil)
  generalize r.Keys[i]=d at hki hat hdz
  have hap:=S_ApplyDelta t d (by omega) (by omega)
  have hst:=keyText_step hp_A hki
  cases hx:applyD t d with
  |none =>
   rw[hx] at hap hst
   rw[Zp (by rw[←hs0]; exact keyText_none hst (by omega))]
   refine Wz [77,30,0,49] ?_;refine V6 (Kh J J (hap) J J J) J ?_;refine Wz [118,130,28,151,170,85,53] ?_
   exact G4 J J (Ye [1,1,9] [2,3,4] J J (by decide) J J J)
  |some t' =>
   rw[hx] at hap hst
   refine Wz [77,30,0,49] ?_;refine V6 (Kh J J (hap) J J J) J ?_;refine Wz [118,130,38,22,105] ?_
   exact⟨K-(i+1),by omega,_,⟨i+1,t',by omega,hst,J⟩,Gs [0,1]⟩
 have h3:i=K:=by have:=Gqj h3; omega
 subst h3
 have hrw:=S_ReadWorld r.Level t hg.1 hL (by omega)
 have hkt:keyText (worldBytes (newWorld r.Level r.Players.toNat r.Seed)) r.Keys i=some t:=by rw[←hs0]; exact hp_A
 have hmul:=key_mul (k:=k+1) (e:=r.Every) (by omega) (by omega) hr.e.1 hr.e.2
 cases hw:readWorld r.Level t with
 |none =>
  rw[hw] at hrw
  rw[Zq hkt hw]
  refine Wz [40,82,0] ?_;refine V6 (Kh J J (hrw) J J J) J ?_;refine Wz [117,20,165,9,20,135,9,93] ?_
  exact G4 J J (Ye [1,1,9] [6,7,8] J J (by decide) J J J)
 | some w =>
  rw[hw] at hrw
  have hls:=Y9 w.Scores
  by_cases c1:w.Tick=(k+1)*r.Every
  ·have e1:decide (w.Tick≠(k+1)*r.Every)=false:=Gqa (fun q=>q c1)
   by_cases c2:(w.Scores.length:Int)=r.Players
   ·have e2:decide (((els w.Scores).length:Int)≠r.Players)=false:=Gqa (by rw[hls]; exact fun q=>q c2)
    rw[Zr hkt hw ⟨by rw[←hK]; exact c1,c2⟩]
    refine Wz [40,82,0] ?_;refine V6 (Kh J J (hrw) J J J) J ?_;refine Wz [117,27,18,35,3,59,67,3,116,27,58,59,116,38,6,115] ?_
    exact G4 J J (Gr [2,3,4] J J J)
   ·have e2:decide (((els w.Scores).length:Int)≠r.Players)=true:=Gqb (by rw[hls]; exact c2)
    rw[Zo hkt hw (fun q=>c2 q.2)]
    refine Wz [40,82,0] ?_;refine V6 (Kh J J (hrw) J J J) J ?_;refine Wz [117,27,18,35,3,59,67,3,116,27,58,59,116,93] ?_
    exact G4 J J (Ye [1,1,9] [6,7,8] J J (by decide) J J J)
  ·have e1:decide (w.Tick≠(k+1)*r.Every)=true:=Gqb c1
   rw[Zo hkt hw (fun q=>c1 (by rw[hK]; exact q.1))]
   refine Wz [40,82,0] ?_;refine V6 (Kh J J (hrw) J J J) J ?_;refine Wz [117,27,18,35,3,59,67,3,116,20,135,9,93] ?_
   exact G4 J J (Ye [1,1,9] [6,7,8] J J (by decide) J J J)
end
section
open Go.RowKit

theorem new_in {r:TReplay} (ir:RepIn r) (h:replayOk r=true):WorIn (newWorld r.Level r.Players.toNat r.Seed):=by
 have hr:=rok h
 have hp:=hr.p
 refine⟨Zy (n:=r.Players.toNat) ir.gd.1 hr.l (by omega) hr.s,ir.h1,?_,?_⟩
 ·simp only[newWorld,Gxs]; omega
 ·simp only[newWorld,List.length_map,List.length_range]; omega
end
section
open Go.RowKit

noncomputable def seekM (r:TReplay) (t:Int):Option TWorld :=
 if replayOk r=true∧0≤t∧t≤r.Rows.length then
  (match keyAt r (t/r.Every-1) with
  |none=>none
  |some w=>some (runM w ((r.Rows.take t.toNat).drop (t/r.Every*r.Every).toNat)))
 else none
theorem seek_no {r:TReplay} {t:Int} (h:¬(replayOk r=true∧0≤t∧t≤r.Rows.length)):seekM r t=none:=if_neg h
theorem seek_none {r:TReplay} {t:Int} (h:replayOk r=true∧0≤t∧t≤r.Rows.length) (hk:keyAt r (t/r.Every-1)=none):seekM r t=none:=by rw[seekM,if_pos h,hk]
theorem seek_some {r:TReplay} {t:Int} {w:TWorld} (h:replayOk r=true∧0≤t∧t≤r.Rows.length) (hk:keyAt r (t/r.Every-1)=some w):seekM r t=some (runM w ((r.Rows.take t.toNat).drop (t/r.Every*r.Every).toNat)):=by rw[seekM,if_pos h,hk]
theorem seek_in {r:TReplay} {t:Int} (ir:RepIn r):WorIn (rwW (seekM r t)):=by
 by_cases h:replayOk r=true∧0≤t∧t≤r.Rows.length
 ·have hi:=keyAt_in (k:=t/r.Every-1) ir
  cases hk:keyAt r (t/r.Every-1) with
  |none=>rw[seek_none h hk]; exact Vp
  |some w =>
   rw[hk] at hi
   rw[seek_some h hk]
   exact ran_in _ hi
 ·rw[seek_no h]; exact Vp
theorem seek_els {xs:List (List Int)} {a b:Nat}:((els xs).take a).drop b=els ((xs.take a).drop b):=by rw[els,els,List.map_drop,List.map_take]
theorem gd_part {xs:List (List Int)} (h:Enc.gd xs) (a b:Nat):Enc.gd ((xs.take a).drop b):=⟨by have:=h.1; rw[Gq0,Gqx]; omega,fun x hx=>h.2 x (Gxc (Gxw hx))⟩
theorem I_SeekReplay (r:TReplay) (t:Int) (hg:Enc.gd r) (ht:I64 t) (ir:RepIn r) (hks:∀ x∈r.Keys,x.size≤1048576):Con Tryz.prog 155 [] [ag r,ai t] (ownO (Enc.e (rwW (seekM r t)))) (.tu [.ag (ownV 0 (Enc.e (rwW (seekM r t)))),.c (bv (rwB (seekM r t)))]):=by
 have cr:=Xv r hg
 have hlk:=Y9 r.Rows
 have hrl:=ir.h3
 obtain⟨hk1,hk2⟩:=ht
 refine Con.of Tryz.func155 J Tryz.ntmps155 J (fun E => ?_)
 refine Wz [51,23,6] ?_;refine zx (Qj J J (cr) J) J ?_;refine Wz [16,89,292,120,89,230,231,232,293,110] ?_
 refine Xb J (fun h => ?_) (fun h => ?_)
 ·rw[seek_no (fun ⟨q1,q2,q3⟩=>by rw[q1] at h; simp at h; omega)]
  refine Wz [1,229] ?_
  exact G4 J J (Ye [1,1,9] [2,3,4] J J (by decide) J J J)
 simp only[Gqv,Gxr,decide_eq_false_iff_not] at h
 have hv:replayOk r=true∧0≤t∧t≤r.Rows.length:=⟨h.1.1,by omega,by omega⟩
 have hr:=rok hv.1
 obtain⟨he1,he2⟩:=hr.e
 obtain⟨K,hK⟩:∃ K,K=t/r.Every:=⟨_,rfl⟩
 have hK0:0≤K:=by rw[hK]; exact Int.ediv_nonneg hv.2.1 (by omega)
 have hKt:K≤t:=by rw[hK]; exact Int.ediv_le_self _ hv.2.1
 have hm0:0≤K*r.Every:=Int.mul_nonneg hK0 (by omega)
 have hmt:K*r.Every≤t:=by rw[hK]; exact Int.ediv_mul_le t (by omega)
 have hm1:(K-1+1)*r.Every=K*r.Every:=by rw[Int.sub_add_cancel]
 have hka:=I_KeyAt r (K-1) hg ⟨by omega,by omega⟩ ir hks
 have hin:=keyAt_in (k:=K-1) ir
 refine Wz [54,10,30,155,71,11,6,0] ?_;refine AL.weak (st':=(⟨_,[(1,I t),(2,.o (.c (.ptr 0 0))),(4,.o (.c (.ptr 1 0))),(6,I (K-1)),(30,.o (.ag ((Enc.e r).map (V1.rd [])))),(31,I (K-1))],[.box ((Enc.e r).map (V1.rd [])),.box [nilV,jn 0,jn 0,nilV,nilV]]⟩:St)) (Gp [0,1] J (.c J (.c J (.c J (.cons (Xz (by rw[hK])) (.c J (.cons (Xz (by rw[hK])) (.nil)))))))) ?_
 cases hk:keyAt r (K-1) with
 |none =>
  rw[hk] at hka
  rw[seek_none hv (by rw[←hK]; exact hk)]
  refine V6 (Kh J J (hka) J J J) J ?_;refine Wz [117,93] ?_
  exact G4 J J (Ye [1,1,9] [6,7,8] J J (by decide) J J J)
 |some w =>
  rw[hk] at hka hin
  rw[seek_some hv (by rw[←hK]; exact hk),←hK]
  have iw:WorIn w:=hin
  have hrw:=I_RunWorld w ((r.Rows.take t.toNat).drop (K*r.Every).toNat) iw (gd_part hg.2.2.2.2.1 _ _)
  have hrw:Con Tryz.prog 211 [] [ag w,.c (.rd [] (.sl (Enc.k (List Int)) (((els r.Rows).take t.toNat).drop ((K-1+1)*r.Every).toNat)))] (ownO (Enc.e (runM w ((r.Rows.take t.toNat).drop (K*r.Every).toNat)))) (.o (.ag (ownV 0 (Enc.e (runM w ((r.Rows.take t.toNat).drop (K*r.Every).toNat)))))):=by rw[hm1,seek_els]; exact hrw
  generalize runM w ((r.Rows.take t.toNat).drop (K*r.Every).toNat)=z at hrw
  have hq:(0:Int)≤(K-1+1)*r.Every∧(K-1+1)*r.Every≤t∧t≤((els r.Rows).length:Nat):=by omega
  refine V6 (Kh J J (hka) J J J) J ?_;refine Wz [117,97,72] ?_;refine Xh [[],[],[1],[],[3],[],[5],[3,4,5,6],[],[1,2,3,4,5,6,7,8],(u9 10),(u9 11),(u9 12)] [[],[],[39],[],[41],[],[43],[41,42,43,44],[],[39,40,41,42,43,44,45,46],[38,39,40,41,42,43,44,45,46,47],[38,39,40,41,42,43,44,45,46,47,48],[38,39,40,41,42,43,44,45,46,47,48]] [[39,40,41,42,43,44,45,46,47],[38,41,42,43,44,45,46],[38,41,42,43,44,45,46],[38,39,40,43,44,46],[38,39,40,43,44,46],[38,39,40,41,42,46],[38,39,40,41,42,46],[38,39,40,46],[38,39,40,41,42,43,44,45],[38],[],[],[]] J ?_;refine Wz [99,66,4,164,66] ?_;refine Vx (Kv J J J J (by omega)) J (Vx (Qa J J J) J (Vx (q_part J J J J J J hq) J ?_));refine Vx (Kh J J (hrw) J J J) J ?_;refine Wz [17,115] ?_
  exact G4 J J (Gr [6,7,8] J J J)
theorem S_SeekReplay (r:TReplay) (t:Int) (hg:Enc.gd r) (ht:I64 t) (ir:RepIn r) (hks:∀ x∈r.Keys,x.size≤1048576):Con Tryz.prog 230 [] [ag r,ai t] (ownO (Enc.e (rwW (seekM r t)))) (.tu [.ag (ownV 0 (Enc.e (rwW (seekM r t)))),.c (bv (rwB (seekM r t)))]):=by
 have cr:=X9 r hg
 have hlk:=Y9 r.Rows
 have hrl:=ir.h3
 obtain⟨hk1,hk2⟩:=ht
 have ci:=S_in t 0 ((els r.Rows).length:Int)
 refine Con.of Tryz.func230 J Tryz.ntmps230 J (fun E => ?_)
 refine Wz [51,23,6] ?_;refine zx (Qj J J (cr) J) J ?_;refine Wz [16,89,230,231,232] ?_;refine zx (Uk J (.hit (.hit (.hit (.hit .stop)))) (fun hgrd=>Qj J J (ci) J)) J ?_;refine zx (Uk J (.hit (.hit (.hit (.hit (.hit .stop))))) (fun hgrd=>Q4 J J J)) J ?_;refine Wz [110] ?_
 refine Xb J (fun h => ?_) (fun h => ?_)
 ·rw[seek_no (fun ⟨q1,q2,q3⟩=>by rw[q1,Zn.2 (by omega)] at h; exact absurd h (by decide))]
  refine Wz [1,229] ?_
  exact G4 J J (Ye [1,1,9] [2,3,4] J J (by decide) J J J)
 simp only[Gqv,Gxr,Zn] at h
 have hv:replayOk r=true∧0≤t∧t≤r.Rows.length:=⟨h.1,by omega,by omega⟩
 have hr:=rok hv.1
 obtain⟨he1,he2⟩:=hr.e
 obtain⟨K,hK⟩:∃ K,K=t/r.Every:=⟨_,rfl⟩
 have hK0:0≤K:=by rw[hK]; exact Int.ediv_nonneg hv.2.1 (by omega)
 have hKt:K≤t:=by rw[hK]; exact Int.ediv_le_self _ hv.2.1
 have hm0:0≤K*r.Every:=Int.mul_nonneg hK0 (by omega)
 have hmt:K*r.Every≤t:=by rw[hK]; exact Int.ediv_mul_le t (by omega)
 have hka:=S_KeyAt r (K-1) hg ⟨by omega,by omega⟩ ir hks
 have hin:=keyAt_in (k:=K-1) ir
 refine Wz [54,10,30,155,11,6,0,71] ?_;refine AL.weak (st':=(⟨_,[(1,I t),(2,.o (.c (.ptr 0 0))),(4,.o (.c (.ptr 1 0))),(6,I K),(26,.o (.ag ((Enc.e r).map (V1.rd [])))),(28,I (K-1))],[.box ((Enc.e r).map (V1.rd [])),.box [nilV,jn 0,jn 0,nilV,nilV]]⟩:St)) (Gp [0,1] J (.c J (.c J (.c J (.cons (Xz (by rw[hK])) (.c J (.cons (Xz (by rw[hK])) (.nil)))))))) ?_
 cases hk:keyAt r (K-1) with
 |none =>
  rw[hk] at hka
  rw[seek_none hv (by rw[←hK]; exact hk)]
  refine V6 (Kh J J (hka) J J J) J ?_;refine Wz [117,93] ?_
  exact G4 J J (Ye [1,1,9] [6,7,8] J J (by decide) J J J)
 |some w =>
  rw[hk] at hka hin
  rw[seek_some hv (by rw[←hK]; exact hk),←hK]
  have iw:WorIn w:=hin
  have hrw:=S_RunWorld w ((r.Rows.take t.toNat).drop (K*r.Every).toNat) iw (gd_part hg.2.2.2.2.1 _ _)
  have hrw:Con Tryz.prog 245 [] [ag w,.c (.rd [] (.sl (Enc.k (List Int)) (((els r.Rows).take t.toNat).drop (K*r.Every).toNat)))] (ownO (Enc.e (runM w ((r.Rows.take t.toNat).drop (K*r.Every).toNat)))) (.o (.ag (ownV 0 (Enc.e (runM w ((r.Rows.take t.toNat).drop (K*r.Every).toNat)))))):=by rw[seek_els]; exact hrw
  generalize runM w ((r.Rows.take t.toNat).drop (K*r.Every).toNat)=z at hrw
  have hq:(0:Int)≤K*r.Every∧K*r.Every≤t∧t≤((els r.Rows).length:Nat):=by omega
  refine V6 (Kh J J (hka) J J J) J ?_;refine Wz [117,97,72] ?_;refine Xh [[],[],[1],[],[],[4],[3,4,5],[],[1,2,3,4,5,6,7],(u9 9),(u9 10),(u9 11)] [[],[],[36],[],[],[39],[38,39,40],[],[36,37,38,39,40,41,42],[35,36,37,38,39,40,41,42,43],[35,36,37,38,39,40,41,42,43,44],[35,36,37,38,39,40,41,42,43,44]] [[36,37,38,39,40,41,42,43],[35,38,39,40,41,42],[35,38,39,40,41,42],[35,36,37,39,40,42],[35,36,37,38,42],[35,36,37,38,42],[35,36,37,42],[35,36,37,38,39,40,41],[35],[],[],[]] J ?_;refine Wz [99,66,4,66] ?_;refine Vx (Kv J J J J (by omega)) J (Vx (Qa J J J) J (Vx (q_part J J J J J J hq) J ?_));refine Vx (Kh J J (hrw) J J J) J ?_;refine Wz [17,115] ?_
  exact G4 J J (Gr [6,7,8] J J J)
end
section
open Go.RowKit

theorem slEqS (xs ys:List ByteArray) (hn:Enc.gd xs):Con Tryz.prog 80 [] [al xs,al ys] [] (B (decide (xs=ys))):=by
 have hn1:=hn.1
 have hlx:=Y9 xs
 have hly:=Y9 ys
 by_cases hl:xs.length=ys.length
 ·have hb:decide (((els xs).length:Int)≠((els ys).length:Int))=false:=by rw[hlx,hly,hl]; simp
  refine Con.of Tryz.func80 J Tryz.ntmps80 J (fun E => ?_)
  refine Wz [94,21,0,21,81,38,25,21,131,33] ?_;refine Xi (fun m st=>∃ k:Nat,k+m=xs.length∧(xs.take k=ys.take k)∧st=(⟨_,[(0,L xs),(1,L ys),(12,I (els xs).length),(13,I k)],[]⟩:St)) (xs.length) ⟨_,⟨0,by omega,by simp,J⟩,Gs []⟩ ?_
  rintro m_A _ ⟨k,hk_A,hp_A,rfl⟩
  refine Wz [1,100,39] ?_
  refine Xb J (fun h => ?_) (fun h => ?_)
  ·have h3:k<xs.length:=by have:=Gqi h; omega
   have h4:k<ys.length:=by omega
   have hat:=Y7 h3
   have hat2:=Y7 h4
   by_cases he:xs[k]=ys[k]
   ·have hk:decide (xs[k]≠ys[k])=false:=by simp[he]
    refine Wz [77,23,287,29,121,29,121,269,17,62,64] ?_
    exact⟨xs.length-(k+1),by omega,_,⟨k+1,by omega,eq_next h3 h4 hp_A he,J⟩,Gs []⟩
   ·have hk:decide (xs[k]≠ys[k])=true:=by simp[he]
    refine Wz [77,23,287,29,121,29,121,269,17,28,88,53] ?_
    exact Gq J (Gr [] J J (Xj (eq_ne h3 h4 he).symm))
  ·have h3:¬((k:Int)<(els xs).length):=Gqj h
   refine Wz [40,1,19] ?_
   exact Gq J (Gr [] J J (Xj (eq_all (by omega) hl hp_A).symm))
 ·have hb:decide (((els xs).length:Int)≠((els ys).length:Int))=true:=by rw[hlx,hly]; simp; omega
  refine Con.of Tryz.func80 J Tryz.ntmps80 J (fun E => ?_)
  refine Wz [94,21,0,21,81,28,31] ?_
  exact Gq J (Gr [] J J (Xj (eq_len hl).symm))
theorem slEqI (xs ys:List Int) (hn:Enc.gd xs):Con Tryz.prog 135 [] [al xs,al ys] [] (B (decide (xs=ys))):=by
 have hn1:=hn.1
 have hlx:=Y9 xs
 have hly:=Y9 ys
 by_cases hl:xs.length=ys.length
 ·have hb:decide (((els xs).length:Int)≠((els ys).length:Int))=false:=by rw[hlx,hly,hl]; simp
  refine Con.of Tryz.func135 J Tryz.ntmps135 J (fun E => ?_)
  refine Wz [94,21,0,21,81,38,25,21,131,33] ?_;refine Xi (fun m st=>∃ k:Nat,k+m=xs.length∧(xs.take k=ys.take k)∧st=(⟨_,[(0,L xs),(1,L ys),(12,I (els xs).length),(13,I k)],[]⟩:St)) (xs.length) ⟨_,⟨0,by omega,by simp,J⟩,Gs []⟩ ?_
  rintro m_A _ ⟨k,hk_A,hp_A,rfl⟩
  refine Wz [1,100,39] ?_
  refine Xb J (fun h => ?_) (fun h => ?_)
  ·have h3:k<xs.length:=by have:=Gqi h; omega
   have h4:k<ys.length:=by omega
   have hat:=Y7 h3
   have hat2:=Y7 h4
   by_cases he:xs[k]=ys[k]
   ·have hk:decide (xs[k]≠ys[k])=false:=by simp[he]
    refine Wz [77,23,287,29,121,29,121,176,17,62,64] ?_
    exact⟨xs.length-(k+1),by omega,_,⟨k+1,by omega,eq_next h3 h4 hp_A he,J⟩,Gs []⟩
   ·have hk:decide (xs[k]≠ys[k])=true:=by simp[he]
    refine Wz [77,23,287,29,121,29,121,176,17,28,88,53] ?_
    exact Gq J (Gr [] J J (Xj (eq_ne h3 h4 he).symm))
  ·have h3:¬((k:Int)<(els xs).length):=Gqj h
   refine Wz [40,1,19] ?_
   exact Gq J (Gr [] J J (Xj (eq_all (by omega) hl hp_A).symm))
 ·have hb:decide (((els xs).length:Int)≠((els ys).length:Int))=true:=by rw[hlx,hly]; simp; omega
  refine Con.of Tryz.func135 J Tryz.ntmps135 J (fun E => ?_)
  refine Wz [94,21,0,21,81,28,31] ?_
  exact Gq J (Gr [] J J (Xj (eq_len hl).symm))
theorem slEqF (xs ys:List (List Int)) (hn:Enc.gd xs):Con Tryz.prog 156 [] [al xs,al ys,.c (.rd [] (.v (.func (.func 135) #[] #[])))] [] (B (decide (xs=ys))):=by
 have hn1:=hn.1
 have hlx:=Y9 xs
 have hly:=Y9 ys
 by_cases hl:xs.length=ys.length
 ·have hb:decide (((els xs).length:Int)≠((els ys).length:Int))=false:=by rw[hlx,hly,hl]; simp
  refine Con.of Tryz.func156 J Tryz.ntmps156 J (fun E => ?_)
  refine Wz [94,21,0,21,81,38,25,21,131,33] ?_;refine Xi (fun m st=>∃ k:Nat,k+m=xs.length∧(xs.take k=ys.take k)∧st=(⟨_,[(1,L ys),(2,.o (.c (.rd [] (.v (.func (.func 135) #[] #[]))))),(15,L xs),(16,I (els xs).length),(17,I k)],[]⟩:St)) (xs.length) ⟨_,⟨0,by omega,by simp,J⟩,Gs []⟩ ?_
  rintro m_A _ ⟨k,hk_A,hp_A,rfl⟩
  refine Wz [1,100,39] ?_
  refine Xb J (fun h => ?_) (fun h => ?_)
  ·have h3:k<xs.length:=by have:=Gqi h; omega
   have h4:k<ys.length:=by omega
   have hat:=Y7 h3
   have hat2:=Y7 h4
   have hc:=slEqI xs[k] ys[k] (hn.2 _ (Gql h3))
   by_cases he:xs[k]=ys[k]
   ·rw[Gqb he] at hc
    refine Wz [77,49,34,96,49,96,0] ?_;refine V6 (q_callv J J J (hc) J J J) J ?_;refine Wz [16,62,64] ?_
    exact⟨xs.length-(k+1),by omega,_,⟨k+1,by omega,eq_next h3 h4 hp_A he,J⟩,Gs []⟩
   ·rw[Gqa he] at hc
    refine Wz [77,49,34,96,49,96,0] ?_;refine V6 (q_callv J J J (hc) J J J) J ?_;refine Wz [16,28,88,53] ?_
    exact Gq J (Gr [] J J (Xj (eq_ne h3 h4 he).symm))
  ·have h3:¬((k:Int)<(els xs).length):=Gqj h
   refine Wz [40,1,19] ?_
   exact Gq J (Gr [] J J (Xj (eq_all (by omega) hl hp_A).symm))
 ·have hb:decide (((els xs).length:Int)≠((els ys).length:Int))=true:=by rw[hlx,hly]; simp; omega
  refine Con.of Tryz.func156 J Tryz.ntmps156 J (fun E => ?_)
  refine Wz [94,21,0,21,81,28,31] ?_
  exact Gq J (Gr [] J J (Xj (eq_len hl).symm))
theorem I_sameRows (xs ys:List (List Int)) (hn:Enc.gd xs):Con Tryz.prog 79 [] [al xs,al ys] [] (B (decide (xs=ys))):=by
 refine Con.of Tryz.func79 J Tryz.ntmps79 J (fun E => ?_)
 refine Wz [36,37] ?_;refine zx (Qj J J (slEqF _ _ hn) J) J ?_;refine Wz [19] ?_
 exact Gq J (Gr [] J J J)
theorem I_sameLevel (x y:TLevel) (hg:Enc.gd x):Con Tryz.prog 78 [] [ag x,ag y] [] (B (decide (x=y))):=by
 have h:decide (x.Rows=y.Rows)=decide (x=y):=by cases x; cases y; simp
 refine Con.of Tryz.func78 J Tryz.ntmps78 J (fun E => ?_)
 refine Wz [55,129,11,14,30] ?_;refine zx (Qj J J (slEqS x.Rows y.Rows hg) J) J ?_;refine Wz [19] ?_
 exact Gq J (Gr [] J J (Xj h))
end
section
open Go.RowKit

theorem I_SameReplay (x y:TReplay) (hg:Enc.gd x):Con Tryz.prog 25 [] [ag x,ag y] [] (B (decide (x=y))):=by
 obtain⟨g_Level,g_Players,g_Seed,g_Every,g_Rows,g_Keys⟩:=hg
 by_cases e_Level:¬x.Level=y.Level
 ·have hc:=I_sameLevel x.Level y.Level g_Level
  rw[Gqa e_Level] at hc
  refine Con.of Tryz.func25 J Tryz.ntmps25 J (fun E => ?_)
  refine Wz [55,129,11,82,208] ?_;refine zx (Qj J J (hc) J) J ?_;refine Wz [20,114,7,20,114,7,20,114,7,20,114,7,20,114,7,19] ?_
  exact Gq J (Gr [] J J (Xj (Gqa fun e=>e_Level (by rw[e])).symm))
 have e_Level:=Classical.not_not.1 e_Level
 have hc_Level:=I_sameLevel x.Level y.Level g_Level
 rw[Gqb e_Level] at hc_Level
 by_cases e_Players:¬x.Players=y.Players
 ·have hk:decide (x.Players=y.Players)=false:=by simp[e_Players]
  refine Con.of Tryz.func25 J Tryz.ntmps25 J (fun E => ?_)
  refine Wz [55,129,11,82,208] ?_;refine zx (Qj J J (hc_Level) J) J ?_;refine Wz [27,59,13,9,20,114,7,20,114,7,20,114,7,20,114,7,19] ?_
  exact Gq J (Gr [] J J (Xj (Gqa fun e=>e_Players (by rw[e])).symm))
 have e_Players:=Classical.not_not.1 e_Players
 have k_Players:decide (x.Players=y.Players)=true:=by simp[e_Players]
 by_cases e_Seed:¬x.Seed=y.Seed
 ·have hk:decide (x.Seed=y.Seed)=false:=by simp[e_Seed]
  refine Con.of Tryz.func25 J Tryz.ntmps25 J (fun E => ?_)
  refine Wz [55,129,11,82,208] ?_;refine zx (Qj J J (hc_Level) J) J ?_;refine Wz [27,59,13,9,27,59,13,9,20,114,7,20,114,7,20,114,7,19] ?_
  exact Gq J (Gr [] J J (Xj (Gqa fun e=>e_Seed (by rw[e])).symm))
 have e_Seed:=Classical.not_not.1 e_Seed
 have k_Seed:decide (x.Seed=y.Seed)=true:=by simp[e_Seed]
 by_cases e_Every:¬x.Every=y.Every
 ·have hk:decide (x.Every=y.Every)=false:=by simp[e_Every]
  refine Con.of Tryz.func25 J Tryz.ntmps25 J (fun E => ?_)
  refine Wz [55,129,11,82,208] ?_;refine zx (Qj J J (hc_Level) J) J ?_;refine Wz [27,59,13,9,27,59,13,9,27,59,13,9,20,114,7,20,114,7,19] ?_
  exact Gq J (Gr [] J J (Xj (Gqa fun e=>e_Every (by rw[e])).symm))
 have e_Every:=Classical.not_not.1 e_Every
 have k_Every:decide (x.Every=y.Every)=true:=by simp[e_Every]
 by_cases e_Rows:¬x.Rows=y.Rows
 ·have hc:=I_sameRows x.Rows y.Rows g_Rows
  rw[Gqa e_Rows] at hc
  refine Con.of Tryz.func25 J Tryz.ntmps25 J (fun E => ?_)
  refine Wz [55,129,11,82,208] ?_;refine zx (Qj J J (hc_Level) J) J ?_;refine Wz [27,59,13,9,27,59,13,9,27,59,13,9,27,59] ?_;refine zx (Qj J J (hc) J) J ?_;refine Wz [9,20,114,7,19] ?_
  exact Gq J (Gr [] J J (Xj (Gqa fun e=>e_Rows (by rw[e])).symm))
 have e_Rows:=Classical.not_not.1 e_Rows
 have hc_Rows:=I_sameRows x.Rows y.Rows g_Rows
 rw[Gqb e_Rows] at hc_Rows
 by_cases e_Keys:¬x.Keys=y.Keys
 ·have hc:=slEqS x.Keys y.Keys g_Keys
  rw[Gqa e_Keys] at hc
  refine Con.of Tryz.func25 J Tryz.ntmps25 J (fun E => ?_)
  refine Wz [55,129,11,82,208] ?_;refine zx (Qj J J (hc_Level) J) J ?_;refine Wz [27,59,13,9,27,59,13,9,27,59,13,9,27,59] ?_;refine zx (Qj J J (hc_Rows) J) J ?_;refine Wz [9,27,59] ?_;refine zx (Qj J J (hc) J) J ?_;refine Wz [9,19] ?_
  exact Gq J (Gr [] J J (Xj (Gqa fun e=>e_Keys (by rw[e])).symm))
 have e_Keys:=Classical.not_not.1 e_Keys
 have hc_Keys:=slEqS x.Keys y.Keys g_Keys
 rw[Gqb e_Keys] at hc_Keys
 refine Con.of Tryz.func25 J Tryz.ntmps25 J (fun E => ?_)
 refine Wz [55,129,11,82,208] ?_;refine zx (Qj J J (hc_Level) J) J ?_;refine Wz [27,59,13,9,27,59,13,9,27,59,13,9,27,59] ?_;refine zx (Qj J J (hc_Rows) J) J ?_;refine Wz [9,27,59] ?_;refine zx (Qj J J (hc_Keys) J) J ?_;refine Wz [9,19] ?_
 exact Gq J (Gr [] J J (Xj (Gqb (by cases x; cases y; simp_all)).symm))
end
end Go.Proofs.YtpmacgnmlmmojaaGreatDoor
