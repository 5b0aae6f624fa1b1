/-
  Rules, data and contracts of functions: part 23 of the proof.
  Conditions: those that each theorem names.
-/
import Derived.Test.YtoecjaohdnoenaaGreatDDNewMRowk21
set_option linter.unusedSimpArgs false
set_option linter.unusedVariables false
set_option maxRecDepth 8000
set_option maxHeartbeats 8000000
namespace Go.Proofs.YtoecjaohdnoenaaGreat
section
open Go.RowKit

section
variable {p:TPeer}
theorem noS1 (h:((((((!worldOk p.Base || !worldOk p.Now) || !decide (p.Base.Level=p.Now.Level)) || decide ((p.Base.Scores.length:Int)≠p.Tracks.length)) || decide ((p.Now.Scores.length:Int)≠p.Tracks.length)) || !tracksOk p.Tracks) || !faultOk p.Fault p.Tracks.length)=true):¬PeerP p:=fun ⟨⟨q1,q2,q3,q4⟩,⟨q5,q6,q7⟩,_⟩=>by
 rw[q1,q2,q3,Gqb q4,q7,Gqa (by omega),Gqa (by omega)] at h; exact absurd h (by decide)
theorem noS2 (h:((((((((!inR p.Me 0 ((p.Tracks.length:Int)-1) || !inR p.Delay 0 5) || !inR p.Ahead 1 8) || !inR p.Seed 0 65535) || !inR p.Rolls 0 1000000) || !inR p.Again 0 1000000) || !inR (p.Now.Tick-p.Base.Tick) 0 p.Ahead) || decide ((p.Used.length:Int)≠p.Now.Tick-p.Base.Tick)) || decide ((p.Saves.length:Int)≠p.Now.Tick-p.Base.Tick))=true):¬PeerP p:=fun ⟨_,_,⟨q1,q2,q3⟩,⟨q4,q5,q6⟩,⟨q7,q8,q9⟩,_⟩=>by
 rw[Yk.2 q1,Yk.2 q2,Yk.2 q3,Yk.2 q4,Yk.2 q5,Yk.2 q6,Yk.2 q7,Gqa (by omega),Gqa (by omega)] at h; exact absurd h (by decide)
end
theorem S_PeerOk (x:TPeer) (hg:Enc.gd x):Con Tryz.prog 99 [] [ag x] [] (B (peerOk x)):=by
 obtain⟨gMe,gDe,gAh,gSe,gTr,gBa,gNo,gUs,gSa,gSu,gFa,gRo,gAg⟩:=hg
 have hlt:=X6 x.Tracks
 have hlu:=X6 x.Used
 have hls:=X6 x.Saves
 have hlm:=X6 x.Sums
 have hlb:=X6 x.Base.Scores
 have hln:=X6 x.Now.Scores
 have c1:=S_TracksOk x.Tracks gTr
 have c2:=S_WorldOk x.Base gBa
 have c3:=S_WorldOk x.Now gNo
 have c4:=S_sameLevel x.Base.Level x.Now.Level gBa.1
 have c5:=S_FaultOk x.Fault (els x.Tracks).length (by omega) (by have:=gTr.1; omega)
 have c6:=S_KnownTicks x.Tracks gTr
 refine Con.of Tryz.func99 J Tryz.ntmps99 J (fun E => ?_)
 refine Wz [58,24,21,3,170] ?_;refine zx (Qj J J (c2) J) J ?_;refine Wz [5,150,197] ?_;refine zx (Qt.grdF J J J (.hit (.hit .stop)) (fun hgrd=>Qj J J (c3) J)) J ?_;refine Wz [77,76,150,163,246,204,247] ?_;refine zx (Qt.grdF J J J (.hit (.hit (.hit (.hit (.hit .stop))))) (fun hgrd=>Qu J J J J J J)) J ?_;refine zx (Qt.grdF J J J (.hit (.hit (.hit (.hit (.hit (.hit .stop)))))) (fun hgrd=>Qj J J (c4) J)) J ?_;refine zx (Qt.grdF J J J (.hit (.hit (.hit (.hit (.hit (.hit (.hit .stop))))))) (fun hgrd=>Q3 J J J)) J ?_;refine Wz [76,150,163,193,199,248,249,76,150,163,193,199,248,249,72] ?_;refine zx (Qt.grdF J J J (.hit (.hit .stop)) (fun hgrd=>Qj J J (c1) J)) J ?_;refine Wz [77,76,150,197,145] ?_;refine zx (Qt.grdF J J J (.hit (.hit (.hit .stop))) (fun hgrd=>Qj J J (c5) J)) J ?_;refine Wz [229,25] ?_
 refine Q8 J (fun h1 => ?_) (fun h1 => ?_)
 ·rw[hlt,hlb,hln] at h1
  rw[peer_F (noS1 h1)]
  refine Wz [35] ?_
  exact Xi J J (Xt [] (by decide) J J J)
 rw[hlt,hlb,hln] at h1
 simp only[Gql,Gqv,decide_eq_true_eq,decide_eq_false_iff_not,Classical.not_not] at h1
 obtain⟨⟨⟨⟨⟨⟨q2,q3⟩,q4⟩,q5⟩,q6⟩,q1⟩,q7⟩:=h1
 have tB:=world_ticks q2
 have tN:=world_ticks q3
 have tL:=Z7 q1
 refine AWP.pre (st':=(⟨_,[(1,.o (.c (.ptr 0 0))),(3,I (els x.Tracks).length)],[.box ((Enc.e x).map (V1.rd []))]⟩:St)) ?_ (Xv [0] (by kernel_rfl))
 refine Wz [11,7,102,13,102,13,97,3,27,0,97] ?_;refine zx (Qj J J (Xs x.Me 0 (((els x.Tracks).length:Int)-1)) J) J ?_;refine Wz [5,80] ?_;refine zx (Qt.grdF J J J (.hit (.hit .stop)) (fun hgrd=>Qj J J (Xs x.Delay 0 5) J)) J ?_;refine Wz [77,72] ?_;refine zx (Qt.grdF J J J (.hit (.hit .stop)) (fun hgrd=>Qj J J (Xs x.Ahead 1 8) J)) J ?_;refine Wz [77,72] ?_;refine zx (Qt.grdF J J J (.hit (.hit .stop)) (fun hgrd=>Qj J J (Xs x.Seed 0 65535) J)) J ?_;refine Wz [77,72] ?_;refine zx (Qt.grdF J J J (.hit (.hit .stop)) (fun hgrd=>Qj J J (Xs x.Rolls 0 1000000) J)) J ?_;refine Wz [77,72] ?_;refine zx (Qt.grdF J J J (.hit (.hit .stop)) (fun hgrd=>Qj J J (Xs x.Again 0 1000000) J)) J ?_;refine Wz [77,76,0,70,163,193] ?_;refine zx (Qt.grdF J J J (.hit (.hit (.hit .stop))) (fun hgrd=>Qj J J (Xs (x.Now.Tick-x.Base.Tick) 0 x.Ahead) J)) J ?_;refine Wz [229,72,130,158,143,72,130,158,143,25] ?_
 refine Q8 J (fun h2 => ?_) (fun h2 => ?_)
 ·rw[hlt,hlu,hls] at h2
  rw[peer_F (noS2 h2)]
  refine Wz [35] ?_
  exact Xi J J (Xt [] (by decide) J J J)
 rw[hlt,hlu,hls] at h2
 simp only[Gql,Gqv,decide_eq_false_iff_not,Classical.not_not,Yk] at h2
 obtain⟨⟨⟨⟨⟨⟨⟨⟨q8,q9⟩,q10⟩,q11⟩,q12⟩,q13⟩,q14⟩,q15⟩,q16⟩:=h2
 refine AWP.pre (st':=(⟨_,[(1,.o (.c (.ptr 0 0))),(3,I (els x.Tracks).length),(4,I (x.Now.Tick-x.Base.Tick))],[.box ((Enc.e x).map (V1.rd []))]⟩:St)) ?_ (Xv [0] (by kernel_rfl))
 refine Wz [11,39] ?_;refine Xe (fun m st=>∃ k:Nat,k+m=x.Used.length∧((x.Used.take k).all (fun row=>rowOk row x.Tracks.length)=true∧(∀ i (h:i<x.Saves.length),i<k→x.Saves[i].Tick=x.Base.Tick+i))∧st=(⟨_,[(1,.o (.c (.ptr 0 0))),(3,I (els x.Tracks).length),(4,I (x.Now.Tick-x.Base.Tick)),(5,I k)],[.box ((Enc.e x).map (V1.rd []))]⟩:St)) (x.Used.length) ⟨_,⟨0,by omega,⟨by simp,fun i _ hi=>absurd hi (Nat.not_lt_zero _)⟩,J⟩,Xv [0] (by kernel_rfl)⟩ ?_
 rintro m_A _ ⟨k,hk_A,hp_A,rfl⟩
 obtain⟨hpa,hpb⟩:=hp_A
 refine Wz [28,12] ?_
 refine Q8 J (fun h => ?_) (fun h => ?_)
 ·have h3:k<x.Used.length:=by have:=Gqc h; omega
  have h4:k<x.Saves.length:=by omega
  have hat:=X5 h3
  have hat2:=X5 h4
  have hc:=S_rowOk x.Used[k] (els x.Tracks).length (gUs.2 _ (Gqf h3))
  rw[hlt] at hc
  cases ho:rowOk x.Used[k] x.Tracks.length with
  |false =>
   rw[ho,←hlt] at hc
   rw[peer_F (fun hp=>by have:=hp.2.2.2.2.2.1.1; rw[all_no h3 ho] at this; cases this)]
   refine Wz [45,251,32,8,106,34,8] ?_;refine DR.s (Qj J J (hc) J) J J ?_;refine Wz [141,8,52,52,52,126,30,74] ?_
   exact Xi J J (Xt [] (by decide) J J J)
  | true =>
   rw[ho,←hlt] at hc
   by_cases hs:x.Saves[k].Tick=x.Base.Tick+k
   ·have hb:decide (x.Saves[k].Tick≠x.Base.Tick+k)=false:=Gqa (fun h=>h hs)
    refine Wz [45,251,32,8,106,34,8] ?_;refine DR.s (Qj J J (hc) J) J J ?_;refine Wz [141,8,17,105,127,164,135,187,17,105,231] ?_;refine DR.s (Qt.yes J J J (Qw J J J J (by assumption))) J J ?_;refine Wz [71,30,57] ?_
    exact⟨x.Used.length-(k+1),by omega,_,⟨k+1,by omega,⟨Xz hpa h3 ho,fun i hi hij=>by by_cases e:i=k; subst e; exact hs; exact hpb i hi (by omega)⟩,J⟩,Xv [0] (by kernel_rfl)⟩
   ·have hb:decide (x.Saves[k].Tick≠x.Base.Tick+k)=true:=Gqb hs
    rw[peer_F (fun hp=>hs (hp.2.2.2.2.2.1.2 k h4))]
    refine Wz [45,251,32,8,106,34,8] ?_;refine DR.s (Qj J J (hc) J) J J ?_;refine Wz [141,8,17,105,127,164,135,187,17,105,231] ?_;refine DR.s (Qt.yes J J J (Qw J J J J (by assumption))) J J ?_;refine Wz [71,30,74] ?_
    exact Xi J J (Xt [] (by decide) J J J)
 have h3:¬k<x.Used.length:=by have:=Gqg h; omega
 have hall:=Xy hpa (by omega)
 have hme:x.Me.toNat<x.Tracks.length:=by omega
 have hat:=at_nat (xs:=x.Tracks) hme
 have hti:=X6 x.Tracks[x.Me.toNat].Inputs
 have hla:=lenAt_is hme
 rw[←fin_eq ⟨q1,q2,q3,q4⟩ ⟨by omega,by omega,q7⟩ ⟨q8,q9,q10⟩ ⟨q11,q12,q13⟩ ⟨q14,q15,q16⟩ ⟨hall,fun i hi=>hpb i hi (by omega)⟩,←hlm]
 by_cases k1:x.Base.Tick≤(knownTicks x.Tracks:Nat)
 ·have hb1:decide (x.Base.Tick≤((knownTicks x.Tracks:Nat):Int))=true:=Gqb k1
  by_cases k2:x.Now.Tick≤(lenAt x.Tracks x.Me.toNat:Nat)
  ·have hb2:decide (x.Now.Tick≤((els x.Tracks[x.Me.toNat].Inputs).length:Int))=true:=Gqb (by omega)
   rw[hb1,Gqb k2]
   refine Wz [68,16,252,205,32,32] ?_;refine DR.s (Qj J J (c6) J) J J ?_;refine Wz [206,8,17,17,127,164,135,186,187,17,230,126,8,17,186,187,17,231] ?_;refine DR.s (Qt.yes J J J (Za J J J J)) J J ?_;refine Wz [126,207,30,2,116,117] ?_
   exact Xi J J (Xt [] (by decide) J J J)
  ·have hb2:decide (x.Now.Tick≤((els x.Tracks[x.Me.toNat].Inputs).length:Int))=false:=Gqa (by omega)
   rw[hb1,Gqa k2]
   refine Wz [68,16,252,205,32,32] ?_;refine DR.s (Qj J J (c6) J) J J ?_;refine Wz [206,8,17,17,127,164,135,186,187,17,230,126,8,52,52,71,207,30,2,116,117] ?_
   exact Xi J J (Xt [] (by decide) J J J)
 ·have hb1:decide (x.Base.Tick≤((knownTicks x.Tracks:Nat):Int))=false:=Gqa k1
  rw[hb1]
  refine Wz [68,16,252,205,32,32] ?_;refine DR.s (Qj J J (c6) J) J J ?_;refine Wz [206,8,52,52,52,71,8,52,52,71,207,30,2,116,117] ?_
  exact Xi J J (Xt [] (by decide) J J J)
end
section
open Go.RowKit

def zeroB (b:UInt8):Bool:=b == 0
def someB (b:UInt8):Bool := !(b == 0)
def packZ (l:List UInt8):List UInt8:=match l with
 | [] => []
 |x::r=>encVar (((x::r).takeWhile zeroB).length:Nat)++(encVar ((((x::r).dropWhile zeroB).takeWhile someB).length:Nat)++((x::r).dropWhile zeroB).takeWhile someB)++packZ (((x::r).dropWhile zeroB).dropWhile someB)
termination_by l.length
decreasing_by
 by_cases h:zeroB x=true
 ·rw[List.dropWhile_cons,if_pos h]
  have h1:=(List.dropWhile_sublist someB (l:=r.dropWhile zeroB)).length_le
  have h2:=(List.dropWhile_sublist zeroB (l:=r)).length_le
  simp only[Gq7]; omega
 ·rw[List.dropWhile_cons,if_neg h,List.dropWhile_cons,if_pos (by simpa[zeroB,someB] using h)]
  have h1:=(List.dropWhile_sublist someB (l:=r)).length_le
  simp only[Gq7]; omega
def uzGo (s:ByteArray) (strict:Bool):Nat→Nat→List UInt8→Option (List UInt8)
 |0,pos,out=>if pos<s.size then none else some out
 | f+1,pos,out=>if pos<s.size then (match decVar s pos with
  |none=>none
  |some (n,j)=>match unpackText s ((pos:Int)+(j:Int)) with
   |none=>none
   |some (t,k)=>if (20000:Int)-out.length<n+t.size then none else if strict=true∧n=0∧t.size=0 then none else uzGo s strict f (pos+j+k) (out++List.replicate n.toNat 0++t.data.toList)) else some out
def unpackZ (strict:Bool) (s:ByteArray):Option ByteArray:=match uzGo s strict s.size 0 [] with
 |none=>none
 |some out=>if bs (packZ out)=s then some (bs out) else none
end
section
open Go.RowKit

section
variable {P:Program} {E:Env} {ops:Array Oper} {rest:List Oper} {o:Oper} {QQ:Exit→St→Prop} {st:St} {t:TypeId} {y z:Operand} {qs:List Nat}
end
end
section
open Go.RowKit
end
section
open Go.RowKit

def xorB (a:ByteArray) (i:Nat) (x:UInt8):UInt8:=if i<a.size then UInt8.ofNat (x.toNat^^^(byteAt a i).toNat) else x
def xorL (a b:ByteArray):List UInt8:=(List.range b.size).map fun i=>xorB a i (b.data.toList.getD i 0)
def xorText (a b:ByteArray):ByteArray:=bs (xorL a b)
end
section
open Go.RowKit

section
variable {s:ByteArray} {b:Bool} {pos f j k:Nat} {acc:List UInt8} {n:Int} {t:ByteArray} (hp:pos<s.size)
include hp
end
def applyD (base delta:ByteArray):Option ByteArray:=match decVar delta 0 with
 |none=>none
 |some (n,j)=>match unpackZ true (delta.extract j delta.size) with
  |none=>none
  |some x=>if (x.size:Int)=n then some (xorText base x) else none
end
section
open Go.RowKit
end
section
open Go.RowKit
end
section
open Go.RowKit

structure RepIn (y:TReplay):Prop where
 gd:Enc.gd y
 h1:y.Level.Rows.length≤1048576
 h2:y.Keys.length≤1048576
 h3:y.Rows.length≤1048576
 h4:tot y.Rows≤1048576
structure WorIn (w:TWorld):Prop where
 gd:Enc.gd w
 h1:w.Level.Rows.length≤1048576
 h2:w.Scores.length≤1048576
 h3:w.Bodies.length≤1048576
theorem wor_zero:WorIn zeroWorld:=⟨⟨⟨by simp[zeroWorld],fun x hx=>by simp[zeroWorld] at hx⟩,⟨by decide,by decide⟩,⟨by decide,by decide⟩,⟨by simp[zeroWorld],fun x hx=>by simp[zeroWorld] at hx⟩,⟨by simp[zeroWorld],fun x hx=>by simp[zeroWorld] at hx⟩⟩,by simp[zeroWorld],by simp[zeroWorld],by simp[zeroWorld]⟩
end
section
open Go.RowKit

def keyText (s:ByteArray) (keys:List ByteArray):Nat→Option ByteArray
 |0=>some s
 | n+1=>match keyText s keys n with
  |none=>none
  |some t=>match keys[n]? with
   |none=>none
   |some d=>applyD t d
structure ROk (r:TReplay):Prop where
 l:levelOk r.Level=true
 p:1≤r.Players∧r.Players≤4
 s:inR r.Seed 0 65535=true
 e:1≤r.Every∧r.Every≤100
 k:r.Keys.length≤400
theorem bytes_len (w:TWorld):(worldBytes w).size≤20000:=by
 unfold worldBytes
 split
 ·rename_i h
  have hw:=Ka h
  have h1:=packInts_size (worldInts w)
  have h2:=flat_length w.Bodies
  have h3:(worldInts w).length=3+w.Scores.length+9*w.Bodies.length:=by
   simp only[worldInts,Gqu,Gq7,List.length_nil]; omega
  have h4:=hw.2.2.2.1
  have h5:=hw.2.2.2.2.2.1
  omega
 ·decide
section
variable {r:TReplay} {n:Nat} {s:ByteArray} {w:TWorld}
variable (h:keyText (worldBytes (newWorld r.Level r.Players.toNat r.Seed)) r.Keys n=some s)
include h
end
end
section
open Go.RowKit

noncomputable def wsm (w:TWorld):Int:=checksum (worldBytes w)
theorem wsm_64 (w:TWorld):I64 (wsm w):=by
 have h1:=sumA_lt (worldBytes w) (worldBytes w).size
 have h2:=sumB_lt (worldBytes w) (worldBytes w).size
 have h3:wsm w=sumA (worldBytes w) (worldBytes w).size+65536*sumB (worldBytes w) (worldBytes w).size:=rfl
 exact⟨by omega,by omega⟩
theorem I_wsm (w:TWorld) (g:Enc.gd w):Con Tryz.prog 162 [] [ag w] [] (I (wsm w)):=by
 have c1:=I_WorldBytes w g
 have c2:=I_Checksum (worldBytes w) (by have:=bytes_len w; omega)
 refine Con.of Tryz.func162 J Tryz.ntmps162 J (fun E => ?_)
 refine Wz [58,40] ?_;refine zx (Qj J J (c1) J) J ?_;refine zx (Qj J J (c2) J) J ?_;refine Wz [46] ?_
 exact Xi J J (Xt [] (by decide) J J J)
theorem S_wsm (w:TWorld) (g:Enc.gd w):Con Tryz.prog 153 [] [ag w] [] (I (wsm w)):=by
 have c1:=S_WorldBytes w g
 have c2:=S_Checksum (worldBytes w) (by have:=bytes_len w; omega)
 refine Con.of Tryz.func153 J Tryz.ntmps153 J (fun E => ?_)
 refine Wz [58,40] ?_;refine zx (Qj J J (c1) J) J ?_;refine zx (Qj J J (c2) J) J ?_;refine Wz [46] ?_
 exact Xi J J (Xt [] (by decide) J J J)
theorem nwV_in {l:TLevel} {n:Nat} {seed:Int} (hg:Enc.gd l) (hL:l.Rows.length≤1048576) (hn:1≤n∧n≤4):WorIn (nwV l n seed):=by
 rw[nwV]
 split
 ·rename_i h
  simp only[nwB,Gqj] at h
  exact⟨newWorld_gd hg h.1 hn h.2,hL,by simp[newWorld]; omega,by simp[newWorld]; omega⟩
 ·exact wor_zero
def trD (n d:Nat):List TTrack:=List.replicate n ⟨List.replicate d 0⟩
theorem trD_next (k d:Nat):els (trD (k+1) d)=els (trD k d) ++ [[.sl 1 (List.replicate d ([Value.int .i64 0].map (zT 1)))]]:=by
 rw[trD,List.replicate_succ',show els (List.replicate k (⟨List.replicate d 0⟩:TTrack) ++ [⟨List.replicate d 0⟩])=els (trD k d) ++ [Enc.e (⟨List.replicate d 0⟩:TTrack)] from List.map_append,show Enc.e (⟨List.replicate d 0⟩:TTrack) = [T.sl 1 (els (List.replicate d (0:Int)))] from rfl,zeros_els]
 rfl
noncomputable def newPg (w:TWorld) (n:Nat) (me d ah seed:Int) (f:TFault):TPeer:=⟨me,d,ah,seed,trD n d.toNat,w,w,[],[],[wsm w],f,0,0⟩
def zPe:TPeer:=⟨0,0,0,0,[],zeroWorld,zeroWorld,[],[],[],⟨0,0,0⟩,0,0⟩
noncomputable def peB (l:TLevel) (n:Nat) (seed me d ah:Int) (f:TFault):Bool:=(nwB l seed&&inR d 0 5)&&peerOk (newPg (nwV l n seed) n me d ah seed f)
noncomputable def peV (l:TLevel) (n:Nat) (seed me d ah:Int) (f:TFault):TPeer:=if peB l n seed me d ah f=true then newPg (nwV l n seed) n me d ah seed f else zPe
theorem newPg_gd {w:TWorld} {n:Nat} {me d ah seed:Int} {f:TFault} (hw:WorIn w) (hn:n≤4) (hd:inR d 0 5=true) (gm:I64 me) (ga:I64 ah) (gs:I64 seed) (gf:Enc.gd f):Enc.gd (newPg w n me d ah seed f):=by
 have h0:I64 0:=⟨by decide,by decide⟩
 have hdd:=Yk.1 hd
 refine⟨gm,⟨by show (-9223372036854775808:Int)≤d; omega,by show d≤9223372036854775807; omega⟩,ga,gs,⟨by simp[newPg,trD]; omega,fun t ht => ?_⟩,hw.gd,hw.gd,⟨Gqr _,fun x hx=>by cases hx⟩,⟨Gqr _,fun x hx=>by cases hx⟩,⟨by simp[newPg],fun x hx => ?_⟩,gf,h0,h0⟩
 ·rw[Gxo ht]
  exact⟨by simp; omega,fun x hx=>by rw[Gxo hx]; exact h0⟩
 ·rw[List.mem_singleton.1 hx]
  exact wsm_64 w
theorem I_NewPeerA (l:TLevel) (n:Nat) (seed me d ah:Int) (f:TFault) (hg:Enc.gd l) (hL:l.Rows.length≤1048576) (hn:1≤n∧n≤4) (gs:I64 seed) (gm:I64 me) (ga:I64 ah) (gf:Enc.gd f) :
  Con Tryz.prog 67 [] [ag l,ai n,ai seed,ai me,ai d,ai ah,ag f] (pR (peV l n seed me d ah f) []) (.tu [.ag (pC (peV l n seed me d ah f) 0 1 2 3 4 5 6 7 8 9),.c (bv (peB l n seed me d ah f))]):=by
 have c1:=I_NewWorldF l n seed hg hL hn
 have c2:=Xk d 0 5
 have hi:WorIn (nwV l n seed):=nwV_in hg hL hn
 have hpe:∀ w,nwV l n seed=w→peB l n seed me d ah f=((nwB l seed&&inR d 0 5)&&peerOk (newPg w n me d ah seed f)):=fun w hw=>by rw[←hw]; rfl
 have hpv:∀ w,nwV l n seed=w→peV l n seed me d ah f=if peB l n seed me d ah f=true then newPg w n me d ah seed f else zPe:=fun w hw=>by rw[←hw]; rfl
 generalize hw:nwV l n seed=w at c1 hi
 replace hpe:=hpe w hw
 replace hpv:=hpv w hw
 have c3:=I_copyWorld w hi.gd hi.h1 hi.h2 hi.h3
 have c4:=I_wsm w hi.gd
 refine Con.of Tryz.func67 J Tryz.ntmps67 J (fun E => ?_)
 refine Wz [232,22,3,40,144] ?_;refine M1 (Y8 J J (c1) J J J) J J ?_;refine Wz [195,149,149,22,110,98,5,0,70] ?_;refine zx (Qt.grdF J J J (.hit .stop) (fun hgrd=>Qj J J (c2) J)) J ?_;refine Wz [154,25] ?_
 refine Q8 J (fun h => ?_) (fun h => ?_)
 ·have hB:(nwB l seed&&inR d 0 5)=false:=by cases h1:nwB l seed <;> cases h2:inR d 0 5 <;> rw[h1,h2] at h <;> first | rfl | exact absurd h (by decide)
  refine AWP.pre (st':=(⟨66,[(14,.o (.c (.ptr 0 0))),(15,B false)],[.box zP]⟩:St)) ?_ (Xw [2] (by decide) J ((by kernel_rfl)) (.c J (.c J (.nil))))
  rw[show peB l n seed me d ah f=false by rw[peB,hB]; rfl,show peV l n seed me d ah f=zPe by rw[peV,peB,hB]; rfl]
  refine Wz [7,115,110,109,47] ?_
  exact Xh (cs:=zP) J J J J J (Xu (v' := .tu [.ag (pC zPe 1 2 3 4 5 6 7 8 9 10),.c (bv false)]) [1,1,1,9,1,1,9,1,2,1] [1,2,3,4,5,6,7,8,9,10] (by kernel_rfl) (by kernel_rfl) (by decide) J (by kernel_rfl) (by kernel_rfl))
 have hBB:nwB l seed=true∧inR d 0 5=true:=by cases h1:nwB l seed <;> cases h2:inR d 0 5 <;> rw[h1,h2] at h <;> first | exact⟨rfl,rfl⟩ | exact absurd h (by decide)
 have hd:=Yk.1 hBB.2
 refine AWP.pre (st':=(⟨66,[(1,I n),(2,I seed),(3,I me),(4,I d),(5,I ah),(7,.o (.c (.ptr 0 0))),(13,.o (.c (.ptr 1 0))),(14,.o (.c (.ptr 2 0))),(15,B false),(16,.o (.c (.ptr 6 0)))],[.box [sr l.Rows],.box [jn f.Tick,jn f.Player,jn f.Add],.box zP,.row 1 (els w.Level.Rows),.row 1 (els w.Scores),.row 9 (els w.Bodies),.box [.ref 3,jn w.Tick,jn w.Seed,.ref 4,.ref 5]]⟩:St)) ?_ (Xw [0,1,2,3,4,5,6] (by decide) J ((by kernel_rfl)) (.c J (.c J (.c J (.c J (.c J (.c J (.c J (.c J (.c J (.c J (.nil))))))))))))
 refine Wz [214] ?_
 refine AWP.pre (st':=(⟨66,[(1,I n),(2,I seed),(3,I me),(4,I d),(5,I ah),(7,.o (.c (.ptr 0 0))),(13,.o (.c (.ptr 1 0))),(14,.o (.c (.ptr 2 0))),(15,B false),(16,.o (.c (.ptr 6 0)))],[.box [sr l.Rows],.box [jn f.Tick,jn f.Player,jn f.Add],.box zP,.row 1 (els w.Level.Rows),.row 1 (els w.Scores),.row 9 (els w.Bodies),.box [.ref 3,jn w.Tick,jn w.Seed,.ref 4,.ref 5]]⟩:St)) ?_ (Xw [0,1,2,3,4,5,6] (by decide) J ((by kernel_rfl)) (.c J (.c J (.c J (.c J (.c J (.c J (.c J (.c J (.c J (.c J (.nil))))))))))))
 refine Xd u8_26 [[],[],[],[],[],[],[40],[],[35,36,37,38,39,40,41,42],[],[18,35,36,37,38,39,40,41,42,43]] [[18,36,37,38,39,40,41,42],[18,35,37,38,39,40,41,42],[18,35,36,38,39,40,41,42],[18,35,36,37,39,40,41,42],[18,35,36,37,38,40,41,42],[18,35,36,37,38,39,42],[18,35,36,37,38,39,42],[18,35,36,37,38,39,40,41],[18],[35,36,37,38,39,40,41,42,43],[]] J ?_;refine Wz [142,142,147,147] ?_;refine DR.s (Y8 J J (c3) J J J) J J ?_;refine DR.s (Qu J J J J J J) J J ?_;refine DR.s (x := .o (.ag [jn me,jn d,jn ah,jn seed,nv,.ref 3,jn w.Tick,jn w.Seed,.ref 4,.ref 5,.ref 7,jn w.Tick,jn w.Seed,.ref 8,.ref 9,nv,nv,nv,jn f.Tick,jn f.Player,jn f.Add,jn 0,jn 0])) (Y6 J J J J (by kernel_rfl)) J J ?_;refine Wz [196,30] ?_;refine AL.weak (st':=(⟨66,[(1,I n),(4,I d),(14,.o (.c (.ptr 2 0))),(15,B false),(16,.o (.c (.ptr 6 0))),(18,.o (.c (.ptr 10 0))),(43,.o (.ag [jn me,jn d,jn ah,jn seed,nv,.ref 3,jn w.Tick,jn w.Seed,.ref 4,.ref 5,.ref 7,jn w.Tick,jn w.Seed,.ref 8,.ref 9,nv,nv,nv,jn f.Tick,jn f.Player,jn f.Add,jn 0,jn 0]))],[.box [sr l.Rows],.box [jn f.Tick,jn f.Player,jn f.Add],.box zP,.row 1 (els w.Level.Rows),.row 1 (els w.Scores),.row 9 (els w.Bodies),.box [.ref 3,jn w.Tick,jn w.Seed,.ref 4,.ref 5],.row 1 (els w.Level.Rows),.row 1 (els w.Scores),.row 9 (els w.Bodies),.box zP]⟩:St)) (Xw [0,1,2,3,4,5,6,7,8,9,10] (by decide) J ((by kernel_rfl)) (.c J (.c J (.c J (.c J (.c J (.c J (.c J (.nil))))))))) ?_;refine Wz [49] ?_
 refine AWP.pre (st':=(⟨66,[(1,I n),(4,I d),(14,.o (.c (.ptr 2 0))),(15,B false),(16,.o (.c (.ptr 6 0))),(18,.o (.c (.ptr 10 0)))],[.box [sr l.Rows],.box [jn f.Tick,jn f.Player,jn f.Add],.box zP,.row 1 (els w.Level.Rows),.row 1 (els w.Scores),.row 9 (els w.Bodies),.box [.ref 3,jn w.Tick,jn w.Seed,.ref 4,.ref 5],.row 1 (els w.Level.Rows),.row 1 (els w.Scores),.row 9 (els w.Bodies),.box (pX (newPg w n me d ah seed f) nv (.ref 3) (.ref 4) (.ref 5) (.ref 7) (.ref 8) (.ref 9) nv nv nv)]⟩:St)) ?_ (Xw [0,1,2,3,4,5,6,7,8,9,10] (by decide) J ((by kernel_rfl)) (.c J (.c J (.c J (.c J (.c J (.c J (.nil))))))))
 refine Wz [39] ?_
 refine AWP.pre ?_ (Wk.nilbox (p:=10) (i:=4) 1 J J)
 refine Xe (fun m st=>∃ k:Nat,k+m=n∧(True)∧st=(⟨66,[(1,I n),(4,I d),(14,.o (.c (.ptr 2 0))),(15,B false),(16,.o (.c (.ptr 6 0))),(18,.o (.c (.ptr 10 0))),(19,I k)],[.box [sr l.Rows],.box [jn f.Tick,jn f.Player,jn f.Add],.box zP,.row 1 (els w.Level.Rows),.row 1 (els w.Scores),.row 9 (els w.Bodies),.box [.ref 3,jn w.Tick,jn w.Seed,.ref 4,.ref 5],.row 1 (els w.Level.Rows),.row 1 (els w.Scores),.row 9 (els w.Bodies),.box (pX (newPg w n me d ah seed f) (.ref 11) (.ref 3) (.ref 4) (.ref 5) (.ref 7) (.ref 8) (.ref 9) nv nv nv),.row 1 (els (trD k d.toNat))]⟩:St)) (n) ⟨_,⟨0,by omega,trivial,J⟩,Xv [0,1,2,3,4,5,6,7,8,9,10,11] (by kernel_rfl)⟩ ?_
 rintro m_A _ ⟨k,hk_A,hp_A,rfl⟩
 have hlk:(els (trD k d.toNat)).length=k:=by rw[X6]; simp[trD]
 by_cases h3:k<n
 ·have f3:decide ((k:Int)<(n:Int))=true:=Gqb (by omega)
  refine Wz [28,83] ?_;refine Xd u8_27 u8_28 u8_29 J ?_;refine Wz [32,8,233,245,184,30] ?_;refine AL.weak (st':=(⟨66,[(1,I n),(4,I d),(14,.o (.c (.ptr 2 0))),(15,B false),(16,.o (.c (.ptr 6 0))),(18,.o (.c (.ptr 10 0))),(19,I k),(50,.o (.c (.ref 11))),(54,.o (.c (.sb 13 1 1)))],[.box [sr l.Rows],.box [jn f.Tick,jn f.Player,jn f.Add],.box zP,.row 1 (els w.Level.Rows),.row 1 (els w.Scores),.row 9 (els w.Bodies),.box [.ref 3,jn w.Tick,jn w.Seed,.ref 4,.ref 5],.row 1 (els w.Level.Rows),.row 1 (els w.Scores),.row 9 (els w.Bodies),.box (pX (newPg w n me d ah seed f) (.ref 11) (.ref 3) (.ref 4) (.ref 5) (.ref 7) (.ref 8) (.ref 9) nv nv nv),.row 1 (els (trD k d.toNat)),.row 1 (List.replicate d.toNat ([Value.int .i64 0].map (zT 1))),.box [.ref 12]]⟩:St)) (Xw [0,1,2,3,4,5,6,7,8,9,10,11,12,13] (by decide) J ((by kernel_rfl)) (.c J (.c J (.c J (.c J (.c J (.c J (.c J (.c J (.c J (.nil))))))))))) ?_;refine Xp J J J J J J J J J J J J J J (by omega) (by omega) ?_
  refine AL.weak (st':=(⟨66,[(1,I n),(4,I d),(14,.o (.c (.ptr 2 0))),(15,B false),(16,.o (.c (.ptr 6 0))),(18,.o (.c (.ptr 10 0))),(19,I k),(55,.o (.c (.ref 11)))],[.box [sr l.Rows],.box [jn f.Tick,jn f.Player,jn f.Add],.box zP,.row 1 (els w.Level.Rows),.row 1 (els w.Scores),.row 9 (els w.Bodies),.box [.ref 3,jn w.Tick,jn w.Seed,.ref 4,.ref 5],.row 1 (els w.Level.Rows),.row 1 (els w.Scores),.row 9 (els w.Bodies),.box (pX (newPg w n me d ah seed f) .un (.ref 3) (.ref 4) (.ref 5) (.ref 7) (.ref 8) (.ref 9) nv nv nv),.row 1 (els (trD (k+1) d.toNat))]⟩:St)) (Xw [0,1,2,3,4,5,6,7,8,9,10,11] (by decide) J ((by rw[trD_next]; kernel_rfl)) (.c J (.c J (.c J (.c J (.c J (.c J (.c J (.c J (.nil)))))))))) ?_
  refine Wz [185] ?_;refine AL.weak (st':=(⟨66,[(1,I n),(4,I d),(14,.o (.c (.ptr 2 0))),(15,B false),(16,.o (.c (.ptr 6 0))),(18,.o (.c (.ptr 10 0))),(19,I k)],[.box [sr l.Rows],.box [jn f.Tick,jn f.Player,jn f.Add],.box zP,.row 1 (els w.Level.Rows),.row 1 (els w.Scores),.row 9 (els w.Bodies),.box [.ref 3,jn w.Tick,jn w.Seed,.ref 4,.ref 5],.row 1 (els w.Level.Rows),.row 1 (els w.Scores),.row 9 (els w.Bodies),.box (pX (newPg w n me d ah seed f) (.ref 11) (.ref 3) (.ref 4) (.ref 5) (.ref 7) (.ref 8) (.ref 9) nv nv nv),.row 1 (els (trD (k+1) d.toNat))]⟩:St)) (Xw [0,1,2,3,4,5,6,7,8,9,10,11] (by decide) J ((by kernel_rfl)) (.c J (.c J (.c J (.c J (.c J (.c J (.c J (.nil))))))))) ?_;refine Wz [137] ?_
  exact⟨n-(k+1),by omega,_,⟨k+1,by omega,trivial,J⟩,Xv [0,1,2,3,4,5,6,7,8,9,10,11] (by kernel_rfl)⟩
 have f3:decide ((k:Int)<(n:Int))=false:=Gqa (by omega)
 have hkn:k=n:=by omega
 subst hkn
 refine Wz [28,73,68,40] ?_;refine AL.weak (st':=(⟨66,[(14,.o (.c (.ptr 2 0))),(15,B false),(18,.o (.c (.ptr 10 0))),(57,.o (.ag [.ref 3,jn w.Tick,jn w.Seed,.ref 4,.ref 5]))],[.box [sr l.Rows],.box [jn f.Tick,jn f.Player,jn f.Add],.box zP,.row 1 (els w.Level.Rows),.row 1 (els w.Scores),.row 9 (els w.Bodies),.box [.ref 3,jn w.Tick,jn w.Seed,.ref 4,.ref 5],.row 1 (els w.Level.Rows),.row 1 (els w.Scores),.row 9 (els w.Bodies),.box (pX (newPg w k me d ah seed f) (.ref 11) (.ref 3) (.ref 4) (.ref 5) (.ref 7) (.ref 8) (.ref 9) nv nv nv),.row 1 (els (trD k d.toNat))]⟩:St)) (Xw [0,1,2,3,4,5,6,7,8,9,10,11] (by decide) J ((by kernel_rfl)) (.c J (.c J (.c J (.c J (.nil)))))) ?_;refine zx (Qj J J (c4) J) J ?_;refine Wz [107,185] ?_;refine AL.weak (st':=(⟨66,[(14,.o (.c (.ptr 2 0))),(15,B false),(18,.o (.c (.ptr 10 0)))],[.box [sr l.Rows],.box [jn f.Tick,jn f.Player,jn f.Add],.box zP,.row 1 (els w.Level.Rows),.row 1 (els w.Scores),.row 9 (els w.Bodies),.box [.ref 3,jn w.Tick,jn w.Seed,.ref 4,.ref 5],.row 1 (els w.Level.Rows),.row 1 (els w.Scores),.row 9 (els w.Bodies),.box (pX (newPg w k me d ah seed f) (.ref 11) (.ref 3) (.ref 4) (.ref 5) (.ref 7) (.ref 8) (.ref 9) nv nv (.sb 12 1 1)),.row 1 (els (trD k d.toNat)),.box [jn (wsm w)]]⟩:St)) (Xw [0,1,2,3,4,5,6,7,8,9,10,11,12] (by decide) J ((by kernel_rfl)) (.c J (.c J (.c J (.nil))))) ?_;refine AL.weak (Wk.sbrow (q:=12) (es:=els [wsm w]) J J (Gqt J)) ?_;refine AL.weak (Wk.nilbox (p:=10) (i:=15) 1 J J) ?_;refine AL.weak (Wk.nilbox (p:=10) (i:=16) 2 J J) ?_;refine AL.weak (st':=(⟨66,[(14,.o (.c (.ptr 2 0))),(15,B false),(18,.o (.c (.ptr 10 0)))],[.box [sr l.Rows],.box [jn f.Tick,jn f.Player,jn f.Add],.box zP,.row 1 (els w.Level.Rows),.row 1 (els w.Scores),.row 9 (els w.Bodies),.box [.ref 3,jn w.Tick,jn w.Seed,.ref 4,.ref 5],.row 1 (els w.Level.Rows),.row 1 (els w.Scores),.row 9 (els w.Bodies),.box (pX (newPg w k me d ah seed f) (.ref 11) (.ref 3) (.ref 4) (.ref 5) (.ref 7) (.ref 8) (.ref 9) (.ref 13) (.ref 14) (.ref 12)),.row 1 (els (trD k d.toNat)),.row 1 (els [wsm w]),.row 1 [],.row 2 []]⟩:St)) (Xw [0,1,2,3,4,5,6,7,8,9,10,11,12,13,14] (by decide) J ((by kernel_rfl)) (.c J (.c J (.c J (.nil))))) ?_;refine Wz [2,112,38] ?_;refine AL.weak (st':=(⟨66,[(14,.o (.c (.ptr 2 0))),(15,B false),(18,.o (.c (.ptr 10 0))),(61,.o (.ag (pX (newPg w k me d ah seed f) (.ref 11) (.ref 3) (.ref 4) (.ref 5) (.ref 7) (.ref 8) (.ref 9) (.ref 13) (.ref 14) (.ref 12))))],[.box [sr l.Rows],.box [jn f.Tick,jn f.Player,jn f.Add],.box zP,.row 1 (els w.Level.Rows),.row 1 (els w.Scores),.row 9 (els w.Bodies),.box [.ref 3,jn w.Tick,jn w.Seed,.ref 4,.ref 5],.row 1 (els w.Level.Rows),.row 1 (els w.Scores),.row 9 (els w.Bodies),.box (pX (newPg w k me d ah seed f) (.ref 11) (.ref 3) (.ref 4) (.ref 5) (.ref 7) (.ref 8) (.ref 9) (.ref 13) (.ref 14) (.ref 12)),.row 1 (els (trD k d.toNat)),.row 1 (els [wsm w]),.row 1 [],.row 2 []]⟩:St)) (Xw [0,1,2,3,4,5,6,7,8,9,10,11,12,13,14] (by decide) J ((by kernel_rfl)) (.c J (.c J (.c J (.c J (.nil)))))) ?_
 have c5:=I_PeerOk (newPg w k me d ah seed f) (newPg_gd hi hn.2 hBB.2 gm ga gs gf)
 rw[hpv,hpe,hBB.1,hBB.2]
 simp only[Bool.true_and]
 cases ok:peerOk (newPg w k me d ah seed f) with
 |false =>
  rw[ok] at c5
  refine zx (Qj J J (c5) J) J ?_;refine AL.weak (st':=(⟨66,[(14,.o (.c (.ptr 0 0))),(15,B false),(62,B false)],[.box zP]⟩:St)) (Xw [2] (by decide) J ((by kernel_rfl)) (.c J (.c J (.c J (.nil))))) ?_;refine Wz [5,101,7,115,110,109,47] ?_
  exact Xh (cs:=zP) J J J J J (Xu (v' := .tu [.ag (pC zPe 1 2 3 4 5 6 7 8 9 10),.c (bv false)]) [1,1,1,9,1,1,9,1,2,1] [1,2,3,4,5,6,7,8,9,10] (by kernel_rfl) (by kernel_rfl) (by decide) J (by kernel_rfl) (by kernel_rfl))
 |true =>
  rw[ok] at c5
  refine zx (Qj J J (c5) J) J ?_;refine AL.weak (st':=(⟨66,[(14,.o (.c (.ptr 2 0))),(15,B false),(18,.o (.c (.ptr 10 0))),(62,B true)],[.box [sr l.Rows],.box [jn f.Tick,jn f.Player,jn f.Add],.box zP,.row 1 (els w.Level.Rows),.row 1 (els w.Scores),.row 9 (els w.Bodies),.box [.ref 3,jn w.Tick,jn w.Seed,.ref 4,.ref 5],.row 1 (els w.Level.Rows),.row 1 (els w.Scores),.row 9 (els w.Bodies),.box (pX (newPg w k me d ah seed f) (.ref 11) (.ref 3) (.ref 4) (.ref 5) (.ref 7) (.ref 8) (.ref 9) (.ref 13) (.ref 14) (.ref 12)),.row 1 (els (trD k d.toNat)),.row 1 (els [wsm w]),.row 1 [],.row 2 []]⟩:St)) (Xw [0,1,2,3,4,5,6,7,8,9,10,11,12,13,14] (by decide) J ((by kernel_rfl)) (.c J (.c J (.c J (.c J (.nil)))))) ?_
  refine zn J ?_; repeat (first | refine Qe ?_ | refine Qz ?_ | refine Qd ?_ | refine Ql J ?_ | refine Qh ?_ | refine Qc ?_)
  refine z4 J J J ?_;refine AL.weak (st':=(⟨66,[(14,.o (.c (.ptr 2 0))),(15,B false),(65,.o (.ag (pX (newPg w k me d ah seed f) (.ref 11) (.ref 3) (.ref 4) (.ref 5) (.ref 7) (.ref 8) (.ref 9) (.ref 13) (.ref 14) (.ref 12))))],[.box [sr l.Rows],.box [jn f.Tick,jn f.Player,jn f.Add],.box zP,.row 1 (els w.Level.Rows),.row 1 (els w.Scores),.row 9 (els w.Bodies),.box [.ref 3,jn w.Tick,jn w.Seed,.ref 4,.ref 5],.row 1 (els w.Level.Rows),.row 1 (els w.Scores),.row 9 (els w.Bodies),.box (pX (newPg w k me d ah seed f) (.ref 11) (.ref 3) (.ref 4) (.ref 5) (.ref 7) (.ref 8) (.ref 9) (.ref 13) (.ref 14) (.ref 12)),.row 1 (els (trD k d.toNat)),.row 1 (els [wsm w]),.row 1 [],.row 2 []]⟩:St)) (Xw [0,1,2,3,4,5,6,7,8,9,10,11,12,13,14] (by decide) J ((by kernel_rfl)) (.c J (.c J (.c J (.nil))))) ?_;refine Qy J J J J J J J J J ?_;refine AL.weak (st':=(⟨66,[(14,.o (.c (.ptr 2 0))),(15,B false)],[.box [sr l.Rows],.box [jn f.Tick,jn f.Player,jn f.Add],.box (pX (newPg w k me d ah seed f) (.ref 11) (.ref 3) (.ref 4) (.ref 5) (.ref 7) (.ref 8) (.ref 9) (.ref 13) (.ref 14) (.ref 12)),.row 1 (els w.Level.Rows),.row 1 (els w.Scores),.row 9 (els w.Bodies),.box [.ref 3,jn w.Tick,jn w.Seed,.ref 4,.ref 5],.row 1 (els w.Level.Rows),.row 1 (els w.Scores),.row 9 (els w.Bodies),.box (pX (newPg w k me d ah seed f) (.ref 11) (.ref 3) (.ref 4) (.ref 5) (.ref 7) (.ref 8) (.ref 9) (.ref 13) (.ref 14) (.ref 12)),.row 1 (els (trD k d.toNat)),.row 1 (els [wsm w]),.row 1 [],.row 2 []]⟩:St)) (Xw [0,1,2,3,4,5,6,7,8,9,10,11,12,13,14] (by decide) J ((by kernel_rfl)) (.c J (.c J (.nil)))) ?_;refine Wz [46] ?_
  exact Xh (cs:=pX (newPg w k me d ah seed f) (.ref 11) (.ref 3) (.ref 4) (.ref 5) (.ref 7) (.ref 8) (.ref 9) (.ref 13) (.ref 14) (.ref 12)) J J J J J (Xt [11,3,4,5,7,8,9,13,14,12] (by decide) J (by kernel_rfl) (by kernel_rfl))
theorem S_NewPeerA (l:TLevel) (n:Nat) (seed me d ah:Int) (f:TFault) (hg:Enc.gd l) (hL:l.Rows.length≤1048576) (hn:1≤n∧n≤4) (gs:I64 seed) (gm:I64 me) (ga:I64 ah) (gf:Enc.gd f) :
  Con Tryz.prog 58 [] [ag l,ai n,ai seed,ai me,ai d,ai ah,ag f] (pR (peV l n seed me d ah f) []) (.tu [.ag (pC (peV l n seed me d ah f) 0 1 2 3 4 5 6 7 8 9),.c (bv (peB l n seed me d ah f))]):=by
 have c1:=S_NewWorldF l n seed hg gs hL hn
 have c2:=Xs d 0 5
 have hi:WorIn (nwV l n seed):=nwV_in hg hL hn
 have hpe:∀ w,nwV l n seed=w→peB l n seed me d ah f=((nwB l seed&&inR d 0 5)&&peerOk (newPg w n me d ah seed f)):=fun w hw=>by rw[←hw]; rfl
 have hpv:∀ w,nwV l n seed=w→peV l n seed me d ah f=if peB l n seed me d ah f=true then newPg w n me d ah seed f else zPe:=fun w hw=>by rw[←hw]; rfl
 generalize hw:nwV l n seed=w at c1 hi
 replace hpe:=hpe w hw
 replace hpv:=hpv w hw
 have c3:=S_copyWorld w hi.gd hi.h1 hi.h2 hi.h3
 have c4:=S_wsm w hi.gd
 refine Con.of Tryz.func58 J Tryz.ntmps58 J (fun E => ?_)
 refine Wz [232,22,3,40,144] ?_;refine M1 (Y8 J J (c1) J J J) J J ?_;refine Wz [195,149,149,22,110,3,16] ?_
 refine AWP.pre (st':=(⟨66,[(1,I n),(2,I seed),(3,I me),(4,I d),(5,I ah),(7,.o (.c (.ptr 0 0))),(13,.o (.c (.ptr 1 0))),(14,.o (.c (.ptr 2 0))),(15,B false),(16,.o (.c (.ptr 6 0))),(17,B (nwB l seed))],[.box [sr l.Rows],.box [jn f.Tick,jn f.Player,jn f.Add],.box zP,.row 1 (els w.Level.Rows),.row 1 (els w.Scores),.row 9 (els w.Bodies),.box [.ref 3,jn w.Tick,jn w.Seed,.ref 4,.ref 5]]⟩:St)) ?_ (Xw [0,1,2,3,4,5,6] (by decide) J ((by kernel_rfl)) (.c J (.c J (.c J (.c J (.c J (.c J (.c J (.c J (.c J (.c J (.c J (.nil)))))))))))))
 refine Xd u8_26 [[],[],[],[],[],[],[32],[],[27,28,29,30,31,32,33,34],[],[18,27,28,29,30,31,32,33,34,35]] [[18,28,29,30,31,32,33,34],[18,27,29,30,31,32,33,34],[18,27,28,30,31,32,33,34],[18,27,28,29,31,32,33,34],[18,27,28,29,30,32,33,34],[18,27,28,29,30,31,34],[18,27,28,29,30,31,34],[18,27,28,29,30,31,32,33],[18],[27,28,29,30,31,32,33,34,35],[]] J ?_;refine Wz [142,142,147,147] ?_;refine DR.s (Y8 J J (c3) J J J) J J ?_;refine DR.s (Qu J J J J J J) J J ?_;refine DR.s (x := .o (.ag [jn me,jn d,jn ah,jn seed,nv,.ref 3,jn w.Tick,jn w.Seed,.ref 4,.ref 5,.ref 7,jn w.Tick,jn w.Seed,.ref 8,.ref 9,nv,nv,nv,jn f.Tick,jn f.Player,jn f.Add,jn 0,jn 0])) (Y6 J J J J (by kernel_rfl)) J J ?_;refine Wz [196,30] ?_;refine AL.weak (st':=(⟨66,[(1,I n),(4,I d),(14,.o (.c (.ptr 2 0))),(15,B false),(16,.o (.c (.ptr 6 0))),(18,.o (.c (.ptr 10 0))),(17,B (nwB l seed)),(35,.o (.ag [jn me,jn d,jn ah,jn seed,nv,.ref 3,jn w.Tick,jn w.Seed,.ref 4,.ref 5,.ref 7,jn w.Tick,jn w.Seed,.ref 8,.ref 9,nv,nv,nv,jn f.Tick,jn f.Player,jn f.Add,jn 0,jn 0]))],[.box [sr l.Rows],.box [jn f.Tick,jn f.Player,jn f.Add],.box zP,.row 1 (els w.Level.Rows),.row 1 (els w.Scores),.row 9 (els w.Bodies),.box [.ref 3,jn w.Tick,jn w.Seed,.ref 4,.ref 5],.row 1 (els w.Level.Rows),.row 1 (els w.Scores),.row 9 (els w.Bodies),.box zP]⟩:St)) (Xw [0,1,2,3,4,5,6,7,8,9,10] (by decide) J ((by kernel_rfl)) (.c J (.c J (.c J (.c J (.c J (.c J (.c J (.c J (.nil)))))))))) ?_;refine Wz [49] ?_
 refine AWP.pre (st':=(⟨66,[(1,I n),(4,I d),(14,.o (.c (.ptr 2 0))),(15,B false),(16,.o (.c (.ptr 6 0))),(18,.o (.c (.ptr 10 0))),(17,B (nwB l seed))],[.box [sr l.Rows],.box [jn f.Tick,jn f.Player,jn f.Add],.box zP,.row 1 (els w.Level.Rows),.row 1 (els w.Scores),.row 9 (els w.Bodies),.box [.ref 3,jn w.Tick,jn w.Seed,.ref 4,.ref 5],.row 1 (els w.Level.Rows),.row 1 (els w.Scores),.row 9 (els w.Bodies),.box (pX (newPg w n me d ah seed f) nv (.ref 3) (.ref 4) (.ref 5) (.ref 7) (.ref 8) (.ref 9) nv nv nv)]⟩:St)) ?_ (Xw [0,1,2,3,4,5,6,7,8,9,10] (by decide) J ((by kernel_rfl)) (.c J (.c J (.c J (.c J (.c J (.c J (.c J (.nil)))))))))
 refine Wz [111,5,0,70] ?_;refine zx (Qt.grdF J J J (.hit .stop) (fun hgrd=>Qj J J (c2) J)) J ?_;refine Wz [154,25] ?_
 refine Q8 J (fun h => ?_) (fun h => ?_)
 ·have hB:(nwB l seed&&inR d 0 5)=false:=by cases h1:nwB l seed <;> cases h2:inR d 0 5 <;> rw[h1,h2] at h <;> first | rfl | exact absurd h (by decide)
  refine AWP.pre (st':=(⟨66,[(14,.o (.c (.ptr 0 0))),(15,B false)],[.box zP]⟩:St)) ?_ (Xw [2] (by decide) J ((by kernel_rfl)) (.c J (.c J (.nil))))
  rw[show peB l n seed me d ah f=false by rw[peB,hB]; rfl,show peV l n seed me d ah f=zPe by rw[peV,peB,hB]; rfl]
  refine Wz [7,115,110,109,47] ?_
  exact Xh (cs:=zP) J J J J J (Xu (v' := .tu [.ag (pC zPe 1 2 3 4 5 6 7 8 9 10),.c (bv false)]) [1,1,1,9,1,1,9,1,2,1] [1,2,3,4,5,6,7,8,9,10] (by kernel_rfl) (by kernel_rfl) (by decide) J (by kernel_rfl) (by kernel_rfl))
 have hBB:nwB l seed=true∧inR d 0 5=true:=by cases h1:nwB l seed <;> cases h2:inR d 0 5 <;> rw[h1,h2] at h <;> first | exact⟨rfl,rfl⟩ | exact absurd h (by decide)
 have hd:=Yk.1 hBB.2
 refine AWP.pre (st':=(⟨66,[(1,I n),(4,I d),(14,.o (.c (.ptr 2 0))),(15,B false),(16,.o (.c (.ptr 6 0))),(18,.o (.c (.ptr 10 0)))],[.box [sr l.Rows],.box [jn f.Tick,jn f.Player,jn f.Add],.box zP,.row 1 (els w.Level.Rows),.row 1 (els w.Scores),.row 9 (els w.Bodies),.box [.ref 3,jn w.Tick,jn w.Seed,.ref 4,.ref 5],.row 1 (els w.Level.Rows),.row 1 (els w.Scores),.row 9 (els w.Bodies),.box (pX (newPg w n me d ah seed f) nv (.ref 3) (.ref 4) (.ref 5) (.ref 7) (.ref 8) (.ref 9) nv nv nv)]⟩:St)) ?_ (Xw [0,1,2,3,4,5,6,7,8,9,10] (by decide) J ((by kernel_rfl)) (.c J (.c J (.c J (.c J (.c J (.c J (.nil))))))))
 refine Wz [11,39] ?_
 refine AWP.pre ?_ (Wk.nilbox (p:=10) (i:=4) 1 J J)
 refine Xe (fun m st=>∃ k:Nat,k+m=n∧(True)∧st=(⟨66,[(1,I n),(4,I d),(14,.o (.c (.ptr 2 0))),(15,B false),(16,.o (.c (.ptr 6 0))),(18,.o (.c (.ptr 10 0))),(19,I k)],[.box [sr l.Rows],.box [jn f.Tick,jn f.Player,jn f.Add],.box zP,.row 1 (els w.Level.Rows),.row 1 (els w.Scores),.row 9 (els w.Bodies),.box [.ref 3,jn w.Tick,jn w.Seed,.ref 4,.ref 5],.row 1 (els w.Level.Rows),.row 1 (els w.Scores),.row 9 (els w.Bodies),.box (pX (newPg w n me d ah seed f) (.ref 11) (.ref 3) (.ref 4) (.ref 5) (.ref 7) (.ref 8) (.ref 9) nv nv nv),.row 1 (els (trD k d.toNat))]⟩:St)) (n) ⟨_,⟨0,by omega,trivial,J⟩,Xv [0,1,2,3,4,5,6,7,8,9,10,11] (by kernel_rfl)⟩ ?_
 rintro m_A _ ⟨k,hk_A,hp_A,rfl⟩
 have hlk:(els (trD k d.toNat)).length=k:=by rw[X6]; simp[trD]
 by_cases h3:k<n
 ·have f3:decide ((k:Int)<(n:Int))=true:=Gqb (by omega)
  refine Wz [28,83] ?_;refine Xd u8_27 u8_28 u8_29 J ?_;refine Wz [32,8,233,245,184,30] ?_;refine AL.weak (st':=(⟨66,[(1,I n),(4,I d),(14,.o (.c (.ptr 2 0))),(15,B false),(16,.o (.c (.ptr 6 0))),(18,.o (.c (.ptr 10 0))),(19,I k),(50,.o (.c (.ref 11))),(54,.o (.c (.sb 13 1 1)))],[.box [sr l.Rows],.box [jn f.Tick,jn f.Player,jn f.Add],.box zP,.row 1 (els w.Level.Rows),.row 1 (els w.Scores),.row 9 (els w.Bodies),.box [.ref 3,jn w.Tick,jn w.Seed,.ref 4,.ref 5],.row 1 (els w.Level.Rows),.row 1 (els w.Scores),.row 9 (els w.Bodies),.box (pX (newPg w n me d ah seed f) (.ref 11) (.ref 3) (.ref 4) (.ref 5) (.ref 7) (.ref 8) (.ref 9) nv nv nv),.row 1 (els (trD k d.toNat)),.row 1 (List.replicate d.toNat ([Value.int .i64 0].map (zT 1))),.box [.ref 12]]⟩:St)) (Xw [0,1,2,3,4,5,6,7,8,9,10,11,12,13] (by decide) J ((by kernel_rfl)) (.c J (.c J (.c J (.c J (.c J (.c J (.c J (.c J (.c J (.nil))))))))))) ?_;refine Xp J J J J J J J J J J J J J J (by omega) (by omega) ?_
  refine AL.weak (st':=(⟨66,[(1,I n),(4,I d),(14,.o (.c (.ptr 2 0))),(15,B false),(16,.o (.c (.ptr 6 0))),(18,.o (.c (.ptr 10 0))),(19,I k),(55,.o (.c (.ref 11)))],[.box [sr l.Rows],.box [jn f.Tick,jn f.Player,jn f.Add],.box zP,.row 1 (els w.Level.Rows),.row 1 (els w.Scores),.row 9 (els w.Bodies),.box [.ref 3,jn w.Tick,jn w.Seed,.ref 4,.ref 5],.row 1 (els w.Level.Rows),.row 1 (els w.Scores),.row 9 (els w.Bodies),.box (pX (newPg w n me d ah seed f) .un (.ref 3) (.ref 4) (.ref 5) (.ref 7) (.ref 8) (.ref 9) nv nv nv),.row 1 (els (trD (k+1) d.toNat))]⟩:St)) (Xw [0,1,2,3,4,5,6,7,8,9,10,11] (by decide) J ((by rw[trD_next]; kernel_rfl)) (.c J (.c J (.c J (.c J (.c J (.c J (.c J (.c J (.nil)))))))))) ?_
  refine Wz [185] ?_;refine AL.weak (st':=(⟨66,[(1,I n),(4,I d),(14,.o (.c (.ptr 2 0))),(15,B false),(16,.o (.c (.ptr 6 0))),(18,.o (.c (.ptr 10 0))),(19,I k)],[.box [sr l.Rows],.box [jn f.Tick,jn f.Player,jn f.Add],.box zP,.row 1 (els w.Level.Rows),.row 1 (els w.Scores),.row 9 (els w.Bodies),.box [.ref 3,jn w.Tick,jn w.Seed,.ref 4,.ref 5],.row 1 (els w.Level.Rows),.row 1 (els w.Scores),.row 9 (els w.Bodies),.box (pX (newPg w n me d ah seed f) (.ref 11) (.ref 3) (.ref 4) (.ref 5) (.ref 7) (.ref 8) (.ref 9) nv nv nv),.row 1 (els (trD (k+1) d.toNat))]⟩:St)) (Xw [0,1,2,3,4,5,6,7,8,9,10,11] (by decide) J ((by kernel_rfl)) (.c J (.c J (.c J (.c J (.c J (.c J (.c J (.nil))))))))) ?_;refine Wz [137] ?_
  exact⟨n-(k+1),by omega,_,⟨k+1,by omega,trivial,J⟩,Xv [0,1,2,3,4,5,6,7,8,9,10,11] (by kernel_rfl)⟩
 have f3:decide ((k:Int)<(n:Int))=false:=Gqa (by omega)
 have hkn:k=n:=by omega
 subst hkn
 refine Wz [28,73,68,40] ?_;refine AL.weak (st':=(⟨66,[(14,.o (.c (.ptr 2 0))),(15,B false),(18,.o (.c (.ptr 10 0))),(57,.o (.ag [.ref 3,jn w.Tick,jn w.Seed,.ref 4,.ref 5]))],[.box [sr l.Rows],.box [jn f.Tick,jn f.Player,jn f.Add],.box zP,.row 1 (els w.Level.Rows),.row 1 (els w.Scores),.row 9 (els w.Bodies),.box [.ref 3,jn w.Tick,jn w.Seed,.ref 4,.ref 5],.row 1 (els w.Level.Rows),.row 1 (els w.Scores),.row 9 (els w.Bodies),.box (pX (newPg w k me d ah seed f) (.ref 11) (.ref 3) (.ref 4) (.ref 5) (.ref 7) (.ref 8) (.ref 9) nv nv nv),.row 1 (els (trD k d.toNat))]⟩:St)) (Xw [0,1,2,3,4,5,6,7,8,9,10,11] (by decide) J ((by kernel_rfl)) (.c J (.c J (.c J (.c J (.nil)))))) ?_;refine zx (Qj J J (c4) J) J ?_;refine Wz [107,185] ?_;refine AL.weak (st':=(⟨66,[(14,.o (.c (.ptr 2 0))),(15,B false),(18,.o (.c (.ptr 10 0)))],[.box [sr l.Rows],.box [jn f.Tick,jn f.Player,jn f.Add],.box zP,.row 1 (els w.Level.Rows),.row 1 (els w.Scores),.row 9 (els w.Bodies),.box [.ref 3,jn w.Tick,jn w.Seed,.ref 4,.ref 5],.row 1 (els w.Level.Rows),.row 1 (els w.Scores),.row 9 (els w.Bodies),.box (pX (newPg w k me d ah seed f) (.ref 11) (.ref 3) (.ref 4) (.ref 5) (.ref 7) (.ref 8) (.ref 9) nv nv (.sb 12 1 1)),.row 1 (els (trD k d.toNat)),.box [jn (wsm w)]]⟩:St)) (Xw [0,1,2,3,4,5,6,7,8,9,10,11,12] (by decide) J ((by kernel_rfl)) (.c J (.c J (.c J (.nil))))) ?_;refine AL.weak (Wk.sbrow (q:=12) (es:=els [wsm w]) J J (Gqt J)) ?_;refine AL.weak (Wk.nilbox (p:=10) (i:=15) 1 J J) ?_;refine AL.weak (Wk.nilbox (p:=10) (i:=16) 2 J J) ?_;refine AL.weak (st':=(⟨66,[(14,.o (.c (.ptr 2 0))),(15,B false),(18,.o (.c (.ptr 10 0)))],[.box [sr l.Rows],.box [jn f.Tick,jn f.Player,jn f.Add],.box zP,.row 1 (els w.Level.Rows),.row 1 (els w.Scores),.row 9 (els w.Bodies),.box [.ref 3,jn w.Tick,jn w.Seed,.ref 4,.ref 5],.row 1 (els w.Level.Rows),.row 1 (els w.Scores),.row 9 (els w.Bodies),.box (pX (newPg w k me d ah seed f) (.ref 11) (.ref 3) (.ref 4) (.ref 5) (.ref 7) (.ref 8) (.ref 9) (.ref 13) (.ref 14) (.ref 12)),.row 1 (els (trD k d.toNat)),.row 1 (els [wsm w]),.row 1 [],.row 2 []]⟩:St)) (Xw [0,1,2,3,4,5,6,7,8,9,10,11,12,13,14] (by decide) J ((by kernel_rfl)) (.c J (.c J (.c J (.nil))))) ?_;refine Wz [2,112,38] ?_;refine AL.weak (st':=(⟨66,[(14,.o (.c (.ptr 2 0))),(15,B false),(18,.o (.c (.ptr 10 0))),(61,.o (.ag (pX (newPg w k me d ah seed f) (.ref 11) (.ref 3) (.ref 4) (.ref 5) (.ref 7) (.ref 8) (.ref 9) (.ref 13) (.ref 14) (.ref 12))))],[.box [sr l.Rows],.box [jn f.Tick,jn f.Player,jn f.Add],.box zP,.row 1 (els w.Level.Rows),.row 1 (els w.Scores),.row 9 (els w.Bodies),.box [.ref 3,jn w.Tick,jn w.Seed,.ref 4,.ref 5],.row 1 (els w.Level.Rows),.row 1 (els w.Scores),.row 9 (els w.Bodies),.box (pX (newPg w k me d ah seed f) (.ref 11) (.ref 3) (.ref 4) (.ref 5) (.ref 7) (.ref 8) (.ref 9) (.ref 13) (.ref 14) (.ref 12)),.row 1 (els (trD k d.toNat)),.row 1 (els [wsm w]),.row 1 [],.row 2 []]⟩:St)) (Xw [0,1,2,3,4,5,6,7,8,9,10,11,12,13,14] (by decide) J ((by kernel_rfl)) (.c J (.c J (.c J (.c J (.nil)))))) ?_
 have c5:=S_PeerOk (newPg w k me d ah seed f) (newPg_gd hi hn.2 hBB.2 gm ga gs gf)
 rw[hpv,hpe,hBB.1,hBB.2]
 simp only[Bool.true_and]
 cases ok:peerOk (newPg w k me d ah seed f) with
 |false =>
  rw[ok] at c5
  refine zx (Qj J J (c5) J) J ?_;refine AL.weak (st':=(⟨66,[(14,.o (.c (.ptr 0 0))),(15,B false),(62,B false)],[.box zP]⟩:St)) (Xw [2] (by decide) J ((by kernel_rfl)) (.c J (.c J (.c J (.nil))))) ?_;refine Wz [5,101,7,115,110,109,47] ?_
  exact Xh (cs:=zP) J J J J J (Xu (v' := .tu [.ag (pC zPe 1 2 3 4 5 6 7 8 9 10),.c (bv false)]) [1,1,1,9,1,1,9,1,2,1] [1,2,3,4,5,6,7,8,9,10] (by kernel_rfl) (by kernel_rfl) (by decide) J (by kernel_rfl) (by kernel_rfl))
 |true =>
  rw[ok] at c5
  refine zx (Qj J J (c5) J) J ?_;refine AL.weak (st':=(⟨66,[(14,.o (.c (.ptr 2 0))),(15,B false),(18,.o (.c (.ptr 10 0))),(62,B true)],[.box [sr l.Rows],.box [jn f.Tick,jn f.Player,jn f.Add],.box zP,.row 1 (els w.Level.Rows),.row 1 (els w.Scores),.row 9 (els w.Bodies),.box [.ref 3,jn w.Tick,jn w.Seed,.ref 4,.ref 5],.row 1 (els w.Level.Rows),.row 1 (els w.Scores),.row 9 (els w.Bodies),.box (pX (newPg w k me d ah seed f) (.ref 11) (.ref 3) (.ref 4) (.ref 5) (.ref 7) (.ref 8) (.ref 9) (.ref 13) (.ref 14) (.ref 12)),.row 1 (els (trD k d.toNat)),.row 1 (els [wsm w]),.row 1 [],.row 2 []]⟩:St)) (Xw [0,1,2,3,4,5,6,7,8,9,10,11,12,13,14] (by decide) J ((by kernel_rfl)) (.c J (.c J (.c J (.c J (.nil)))))) ?_
  refine zn J ?_; repeat (first | refine Qe ?_ | refine Qz ?_ | refine Qd ?_ | refine Ql J ?_ | refine Qh ?_ | refine Qc ?_)
  refine z4 J J J ?_;refine AL.weak (st':=(⟨66,[(14,.o (.c (.ptr 2 0))),(15,B false),(65,.o (.ag (pX (newPg w k me d ah seed f) (.ref 11) (.ref 3) (.ref 4) (.ref 5) (.ref 7) (.ref 8) (.ref 9) (.ref 13) (.ref 14) (.ref 12))))],[.box [sr l.Rows],.box [jn f.Tick,jn f.Player,jn f.Add],.box zP,.row 1 (els w.Level.Rows),.row 1 (els w.Scores),.row 9 (els w.Bodies),.box [.ref 3,jn w.Tick,jn w.Seed,.ref 4,.ref 5],.row 1 (els w.Level.Rows),.row 1 (els w.Scores),.row 9 (els w.Bodies),.box (pX (newPg w k me d ah seed f) (.ref 11) (.ref 3) (.ref 4) (.ref 5) (.ref 7) (.ref 8) (.ref 9) (.ref 13) (.ref 14) (.ref 12)),.row 1 (els (trD k d.toNat)),.row 1 (els [wsm w]),.row 1 [],.row 2 []]⟩:St)) (Xw [0,1,2,3,4,5,6,7,8,9,10,11,12,13,14] (by decide) J ((by kernel_rfl)) (.c J (.c J (.c J (.nil))))) ?_;refine Qy J J J J J J J J J ?_;refine AL.weak (st':=(⟨66,[(14,.o (.c (.ptr 2 0))),(15,B false)],[.box [sr l.Rows],.box [jn f.Tick,jn f.Player,jn f.Add],.box (pX (newPg w k me d ah seed f) (.ref 11) (.ref 3) (.ref 4) (.ref 5) (.ref 7) (.ref 8) (.ref 9) (.ref 13) (.ref 14) (.ref 12)),.row 1 (els w.Level.Rows),.row 1 (els w.Scores),.row 9 (els w.Bodies),.box [.ref 3,jn w.Tick,jn w.Seed,.ref 4,.ref 5],.row 1 (els w.Level.Rows),.row 1 (els w.Scores),.row 9 (els w.Bodies),.box (pX (newPg w k me d ah seed f) (.ref 11) (.ref 3) (.ref 4) (.ref 5) (.ref 7) (.ref 8) (.ref 9) (.ref 13) (.ref 14) (.ref 12)),.row 1 (els (trD k d.toNat)),.row 1 (els [wsm w]),.row 1 [],.row 2 []]⟩:St)) (Xw [0,1,2,3,4,5,6,7,8,9,10,11,12,13,14] (by decide) J ((by kernel_rfl)) (.c J (.c J (.nil)))) ?_;refine Wz [46] ?_
  exact Xh (cs:=pX (newPg w k me d ah seed f) (.ref 11) (.ref 3) (.ref 4) (.ref 5) (.ref 7) (.ref 8) (.ref 9) (.ref 13) (.ref 14) (.ref 12)) J J J J J (Xt [11,3,4,5,7,8,9,13,14,12] (by decide) J (by kernel_rfl) (by kernel_rfl))
end
end Go.Proofs.YtoecjaohdnoenaaGreat
