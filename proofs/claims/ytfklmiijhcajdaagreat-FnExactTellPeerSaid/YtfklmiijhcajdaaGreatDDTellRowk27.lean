/-
  Rules, data and contracts of functions: part 28 of the proof.
  Conditions: those that each theorem names.
-/
import Derived.Test.YtfklmiijhcajdaaGreatDDTellRowk25
import Derived.Test.YtfklmiijhcajdaaGreatDDTellRowk26
set_option linter.unusedSimpArgs false
set_option linter.unusedVariables false
set_option maxRecDepth 8000
set_option maxHeartbeats 8000000
namespace Go.Proofs.YtfklmiijhcajdaaGreat
section
open Go.RowKit

section
variable {P:Program} {E:Env} {ops:Array Oper} {o:Oper} {n:Nat} {ts:List (Nat×V)} {obs:List Ob} {rest:List Oper} {Q:Exit→St→Prop} {t:TypeId} {y z:Operand} {p kk i j:Nat} {es:List (List T)} {e:List T}
end
end
section
open Go.RowKit

def twB (x:TMatch) (i j:Int):Bool:=decide (i≠j)&&(decide (0≤i)&&(decide (0≤j)&&(decide (i<x.Peers.length)&&decide (j<x.Peers.length))))
theorem twB_iff {x:TMatch} {i j:Int}:twB x i j=true↔i≠j∧0≤i∧0≤j∧i<x.Peers.length∧j<x.Peers.length:=by simp[twB]
theorem I_two (x:TMatch) (i j:Int) (hg:Enc.gd x):Con Tryz.prog 57 [] [ag x,ai i,ai j] [] (B (twB x i j)):=by
 have eP:=Yi x.Peers
 refine Con.of Tryz.func57 J Tryz.ntmps57 J (fun E => ?_)
 refine Wz [21,9,158,0,146] ?_;refine zx (Qt.grdT J J J (.hit .stop) (fun hgrd=>q_geq J J J J)) J ?_;refine Wz [25,0,146] ?_;refine zx (Qt.grdT J J J (.hit .stop) (fun hgrd=>q_geq J J J J)) J ?_;refine Wz [25,0,146,258,259,260] ?_;refine zx (Qt.grdT J J J (.hit (.hit (.hit (.hit .stop)))) (fun hgrd=>Z9 J J J J)) J ?_;refine Wz [25,0,146,258,259,260] ?_;refine zx (Qt.grdT J J J (.hit (.hit (.hit (.hit .stop)))) (fun hgrd=>Z9 J J J J)) J ?_;refine Wz [25,53] ?_
 exact Xl J J (X1 [] Aqc J J (Xi (by rw[twB,eP]; simp only[ne_eq,decide_not,ge_iff_le,Bool.and_assoc])))
theorem S_two (x:TMatch) (i j:Int) (hg:Enc.gd x):Con Tryz.prog 45 [] [ag x,ai i,ai j] [] (B (matchOk x&&twB x i j)):=by
 have eP:=Yi x.Peers
 have lP:=hg.2.2.2.2.1.1
 have cO:=S_MatchOk x hg
 have c1:=X0 i 0 ((els x.Peers).length-1)
 have c2:=X0 j 0 ((els x.Peers).length-1)
 refine Con.of Tryz.func45 J Tryz.ntmps45 J (fun E => ?_)
 refine Wz [21,90] ?_;refine zx (Qj J J (cO) J) J ?_;refine Wz [0,146,258,259,260] ?_;refine zx (Qt.grdT J J J (.hit (.hit (.hit (.hit .stop)))) (fun hgrd=>Xc J J J J Aqa)) J ?_;refine zx (Qt.grdT J J J (.hit (.hit (.hit (.hit (.hit .stop))))) (fun hgrd=>Qj J J (c1) J)) J ?_;refine Wz [25,0,146,258,259,260] ?_;refine zx (Qt.grdT J J J (.hit (.hit (.hit (.hit .stop)))) (fun hgrd=>Xc J J J J Aqa)) J ?_;refine zx (Qt.grdT J J J (.hit (.hit (.hit (.hit (.hit .stop))))) (fun hgrd=>Qj J J (c2) J)) J ?_;refine Wz [25,0,146,267,271,25,53] ?_
 exact Xl J J (X1 [] Aqc J J (Xi (by
  rw[Bool.and_assoc,Bool.and_assoc]
  congr 1
  rw[Bool.eq_iff_iff,twB_iff]
  simp only[Gqi,Yx,decide_eq_true_eq,eP]
  omega)))
theorem els_at' {α:Type} [Enc α] {xs:List α} {k:Nat} {u:α} (h:xs[k]? = some u):(els xs)[k]? = some (Enc.e u):=by rw[els,Gqj,h]; rfl
theorem els_setL {u:List TWire} {b:Nat} {v:TWire}:Enc.e (u.set b v) = [T.sl 10 ((els u).set b (Enc.e v))]:=by rw[←els_set]; rfl
end
section
open Go.RowKit

def faultS (f:TFault) (w:TWorld):TWorld:=⟨w.Level,w.Tick,w.Seed,w.Scores.set f.Player.toNat (min (w.Scores.getD f.Player.toNat 0+f.Add) 1000000),w.Bodies⟩
def faultD (f:TFault) (w v:TWorld):Prop:=faultOk f w.Scores.length=true∧v.Tick=f.Tick∧w.Tick<v.Tick
noncomputable instance (f:TFault) (w v:TWorld):Decidable (faultD f w v):=Classical.propDecidable _
noncomputable def stepF (w:TWorld) (row:List Int) (f:TFault):TWorld:=if faultD f w (stepW w row) then faultS f (stepW w row) else stepW w row
end
section
open Go.RowKit

def zeroB (b:UInt8):Bool:=b == 0
def someB (b:UInt8):Bool := !(b == 0)
def packZ (l:List UInt8):List UInt8:=match l with
 | [] => []
 |x::r=>encVar (((x::r).takeWhile zeroB).length:Nat)++(encVar ((((x::r).dropWhile zeroB).takeWhile someB).length:Nat)++((x::r).dropWhile zeroB).takeWhile someB)++packZ (((x::r).dropWhile zeroB).dropWhile someB)
termination_by l.length
decreasing_by
 by_cases h:zeroB x=true
 ·rw[List.dropWhile_cons,if_pos h]
  have h1:=(List.dropWhile_sublist someB (l:=r.dropWhile zeroB)).length_le
  have h2:=(List.dropWhile_sublist zeroB (l:=r)).length_le
  simp only[Gq3]; omega
 ·rw[List.dropWhile_cons,if_neg h,List.dropWhile_cons,if_pos (by simpa[zeroB,someB] using h)]
  have h1:=(List.dropWhile_sublist someB (l:=r)).length_le
  simp only[Gq3]; omega
def uzGo (s:ByteArray) (strict:Bool):Nat→Nat→List UInt8→Option (List UInt8)
 |0,pos,out=>if pos<s.size then none else some out
 | f+1,pos,out=>if pos<s.size then (match decVar s pos with
  |none=>none
  |some (n,j)=>match unpackText s ((pos:Int)+(j:Int)) with
   |none=>none
   |some (t,k)=>if (20000:Int)-out.length<n+t.size then none else if strict=true∧n=0∧t.size=0 then none else uzGo s strict f (pos+j+k) (out++List.replicate n.toNat 0++t.data.toList)) else some out
def unpackZ (strict:Bool) (s:ByteArray):Option ByteArray:=match uzGo s strict s.size 0 [] with
 |none=>none
 |some out=>if bs (packZ out)=s then some (bs out) else none
end
section
open Go.RowKit

section
variable {P:Program} {E:Env} {ops:Array Oper} {rest:List Oper} {o:Oper} {QQ:Exit→St→Prop} {st:St} {t:TypeId} {y z:Operand} {qs:List Nat}
end
end
section
open Go.RowKit
end
section
open Go.RowKit

section
variable {s:ByteArray} {b:Bool} {pos f j k:Nat} {acc:List UInt8} {n:Int} {t:ByteArray} (hp:pos<s.size)
include hp
end
def applyD (base delta:ByteArray):Option ByteArray:=match decVar delta 0 with
 |none=>none
 |some (n,j)=>match unpackZ true (delta.extract j delta.size) with
  |none=>none
  |some x=>if (x.size:Int)=n then some (xorText base x) else none
end
section
open Go.RowKit
end
section
open Go.RowKit
end
section
open Go.RowKit

def keyText (s:ByteArray) (keys:List ByteArray):Nat→Option ByteArray
 |0=>some s
 | n+1=>match keyText s keys n with
  |none=>none
  |some t=>match keys[n]? with
   |none=>none
   |some d=>applyD t d
structure ROk (r:TReplay):Prop where
 l:levelOk r.Level=true
 p:1≤r.Players∧r.Players≤4
 s:inR r.Seed 0 65535=true
 e:1≤r.Every∧r.Every≤100
 k:r.Keys.length≤400
theorem bytes_len (w:TWorld):(worldBytes w).size≤20000:=by
 unfold worldBytes
 split
 ·rename_i h
  have hw:=Kv h
  have h1:=Ze (worldInts w)
  have h2:=flat_length w.Bodies
  have h3:(worldInts w).length=3+w.Scores.length+9*w.Bodies.length:=by
   simp only[worldInts,Gqp,Gq3,List.length_nil]; omega
  have h4:=hw.2.2.2.1
  have h5:=hw.2.2.2.2.2.1
  omega
 ·decide
section
variable {r:TReplay} {n:Nat} {s:ByteArray} {w:TWorld}
variable (h:keyText (worldBytes (newWorld r.Level r.Players.toNat r.Seed)) r.Keys n=some s)
include h
end
end
section
open Go.RowKit

def inAt (t:Nat) (x:TTrack):Int:=x.Inputs.getD t 0
def rowAt (l:List TTrack) (t:Nat):List Int:=l.map (inAt t)
theorem all_at {l:List TTrack} (h:tracksOk l=true) {k:Nat} (hk:k<l.length):trackOk l[k]=true:=by
 unfold tracksOk at h
 rw[Gqi] at h
 exact Gqn.1 h.2 _ (Gqe hk)
end
section
open Go.RowKit

structure RunIn (W:Nat→TWorld) (l:List TTrack) (f:TFault) (t:Nat):Prop where
 wi:∀ k,k≤t→WorIn (W k)
 st:∀ k,k<t→W (k+1)=stepF (W k) (rowAt l k) f
 sl_:∀ k,k<t→(stepW (W k) (rowAt l k)).Scores.length=(W k).Scores.length
 ss:∀ k,k<t→∀ s∈(stepW (W k) (rowAt l k)).Scores,0≤s∧s≤1000000
 lv:∀ k,k<t→(stepW (W k) (rowAt l k)).Level=(W k).Level
 gr:∀ k,k<t→Enc.gd (rowAt l k)
 kn:∀ k,k<t→∀ x∈l,k<x.Inputs.length
end
section
open Go.RowKit

theorem faultS_len {f:TFault} {w:TWorld}:(faultS f w).Scores.length=w.Scores.length:=Gqx
theorem fault_fit {w:TWorld} {f:TFault} (hw:WorIn w) (ho:worldOk w=true) (hf:0≤f.Add):worldOk (faultS f w)=true∧WorIn (faultS f w):=by
 have hs:=scores_rng ho
 obtain⟨g1,g2,g3,g4,g5,g6,g7⟩:=Kv ho
 have hl:=faultS_len (f:=f) (w:=w)
 have hg0:0≤w.Scores.getD f.Player.toNat 0:=by
  rw[Gqg]
  cases hx:w.Scores[f.Player.toNat]? with
  |none=>simp
  |some x=>exact (hs x (Gqm hx)).1
 have hm:∀ x∈(faultS f w).Scores,0≤x∧x≤1000000:=fun x hx=>by
  rcases Gxi hx with h1 | h1
  ·exact hs x h1
  ·rw[h1]; omega
 refine⟨worldOk_T ⟨g1,g2,g3,by rw[hl]; exact g4,Gqn.2 fun x hx=>Yx.2 (hm x hx),by rw[hl]; exact g6,by rw[hl]; exact g7⟩,?_⟩
 obtain⟨⟨a1,a2,a3,a4,a5⟩,b1,b2,b3⟩:=hw
 exact⟨⟨a1,a2,a3,⟨by rw[hl]; exact a4.1,fun x hx=>by have:=hm x hx; exact⟨Aqa,Aqa⟩⟩,a5⟩,b1,by rw[hl]; exact b2,b3⟩
structure Fit (n:Nat) (l:TLevel) (w:TWorld):Prop where
 wi:WorIn w
 ok:worldOk w=true
 sn:w.Scores.length=n
 lv:w.Level=l
theorem Fit.step {n:Nat} {l:TLevel} {w:TWorld} (h:Fit n l w) (row:List Int):Fit n l (stepW w row) :=
 ⟨step_in h.wi,stepW_ok h.wi.gd h.ok,(stepW_fits h.wi.gd).2.1.trans h.sn,by rw[stepW_level]; exact h.lv⟩
theorem Fit.stepF {n:Nat} {l:TLevel} {w:TWorld} (h:Fit n l w) (row:List Int) (f:TFault):Fit n l (Go.Proofs.YtfklmiijhcajdaaGreat.stepF w row f):=by
 have h1:=h.step row
 unfold Go.Proofs.YtfklmiijhcajdaaGreat.stepF
 split
 ·rename_i hd
  obtain⟨k1,_,_⟩:=hd
  unfold faultOk at k1
  simp only[Gqi,Yx] at k1
  have h2:=fault_fit h1.wi h1.ok (f:=f) Aqa 
  exact⟨h2.2,h2.1,faultS_len.trans h1.sn,h1.lv⟩
 ·exact h1
end
section
open Go.RowKit

theorem gd_snc {α:Type} [Enc α] {xs:List α} {s:α} (h:Enc.gd xs) (hs:Enc.gd s) (hl:xs.length≤1048576):Enc.gd (xs ++ [s]):=⟨by rw[Gqp]; simp; omega,fun x hx=>by
 rcases Gqs.1 hx with h' | h'
 ·exact h.2 _ h'
 ·rw[Gxj.1 h']; exact hs⟩
section
variable {x:TTrack} {t:Nat}
theorem track_in (ho:trackOk x=true):x.Inputs.length≤400∧∀ v∈x.Inputs,0≤v∧v≤15:=by
 simp only[trackOk,Gqi,decide_eq_true_eq] at ho
 exact⟨Aqa,fun v hv=>by have:=Gqn.1 ho.2 v hv; simpa[Yx] using this⟩
end
end
section
open Go.RowKit

def zPr:TPeer:=⟨0,0,0,0,[],zeroWorld,zeroWorld,[],[],[],⟨0,0,0⟩,0,0⟩
def zWi:TWire:=⟨0,0,0,0,0,0,0,[],0,0⟩
noncomputable def pkM (x:TMatch) (i j:Nat):TPacket:=pkOf (x.Peers.getD i zPr) ((x.Acks.getD i []).getD j 0).toNat
noncomputable def datM (x:TMatch) (i j:Nat):ByteArray:=encP (stampP (pkM x i j) ((x.Paces.getD i []).getD j ⟨0,0,0,0,0⟩) x.Clock)
noncomputable def tellS (x:TMatch) (i j:Nat):TMatch:=if packetOk (pkM x i j)=true then { x with Wires:=x.Wires.set i ((x.Wires.getD i []).set j (sendW ((x.Wires.getD i []).getD j zWi) (datM x i j))) } else x
noncomputable def tellV (x:TMatch) (i j:Int):TMatch:=if (matchOk x&&twB x i j)=true then tellS x i.toNat j.toNat else x
theorem getD_is {α:Type} {xs:List α} {i:Nat} {y d:α} (h:xs[i]? = some y):xs.getD i d=y:=by rw[Gqg,h]; rfl
structure PairAt (x:TMatch) (i j:Nat) (p:TPeer) (u:List TWire) (v:TWire) (pc:List TPace) (q:TPace) (ac:List Int) (a:Nat):Prop where
 hp:x.Peers[i]? = some p
 hu:x.Wires[i]? = some u
 hv:u[j]? = some v
 hpc:x.Paces[i]? = some pc
 hq:pc[j]? = some q
 hac:x.Acks[i]? = some ac
 ha:ac[j]? = some (a:Int)
 ok:peerOk p=true
 me:p.Me=i
 ml:i<p.Tracks.length
 al:a≤(p.Tracks[i]'ml).Inputs.length
 il:(p.Tracks[i]'ml).Inputs.length≤400
 wo:wireOk v=true
 qo:paceOk q=true
 ul:u.length=x.Peers.length
theorem pair_at {x:TMatch} (hm:matchOk x=true) {i j:Nat} (hi:i<x.Peers.length) (hj:j<x.Peers.length):∃ p u v pc q ac a,PairAt x i j p u v pc q ac a:=by
 have hM:MatchP x:=dS hm
 obtain⟨_,⟨s1,s2⟩,_,⟨hP1,hP2⟩,⟨⟨l1,l2,l3⟩,hr⟩,_⟩:=hM
 have e1:=Gqf hi
 have e2:=Gqf (show i<x.Wires.length by omega)
 have e3:=Gqf (show i<x.Paces.length by omega)
 have e4:=Gqf (show i<x.Acks.length by omega)
 obtain⟨n1,n2,n3⟩:=(hr i hi).1 _ _ _ e2 e3 e4
 have e5:=Gqf (show j<(x.Wires[i]' Aqa).length by omega)
 have e6:=Gqf (show j<(x.Paces[i]' Aqa).length by omega)
 have e7:=Gqf (show j<(x.Acks[i]' Aqa).length by omega)
 obtain⟨w1,w2,w3⟩:=(hr i hi).2 j hj _ _ _ _ _ _ _ e2 e3 e4 e1 e5 e6 e7
 have hp:=hP2 i _ e1
 rw[peerIn] at hp
 simp only[Gqi,decide_eq_true_eq] at hp
 obtain⟨⟨⟨ok,me⟩,ml⟩,_⟩:=hp
 have hml:i<(x.Peers[i]).Tracks.length:=Aqa
 rw[Yx,lenAt_is hml] at w3
 refine⟨_,_,_,_,_,_,((x.Acks[i]' Aqa)[j]' Aqa).toNat,e1,e2,e5,e3,e6,e4,?_,ok,me,hml,Aqa,?_,w1,w2,n1⟩
 ·rw[e7]; congr 1; omega
 ·exact (track_in (all_at (Zl ok).1.1 hml)).1
section
variable {x:TMatch} {i j:Nat} {p:TPeer} {u:List TWire} {v:TWire} {pc:List TPace} {q:TPace} {ac:List Int} {a:Nat} (h:PairAt x i j p u v pc q ac a)
include h
theorem pkM_is:pkM x i j=pkOf p a:=by rw[pkM,getD_is h.hp,getD_is h.hac,getD_is h.ha]; rfl
theorem tellS_no (hp:packetOk (pkOf p a)=false):tellS x i j=x:=by rw[tellS,pkM_is h,hp]; rfl
theorem tellS_yes (hp:packetOk (pkOf p a)=true):tellS x i j={ x with Wires:=x.Wires.set i (u.set j (sendW v (encP (stampP (pkOf p a) q x.Clock)))) }:=by
 rw[tellS,if_pos (by rw[pkM_is h]; exact hp),datM,pkM_is h,getD_is h.hu,getD_is h.hv,getD_is h.hpc,getD_is h.hq]
end
end
section
open Go.RowKit
end
section
open Go.RowKit

structure MarkIn (x:TPeer):Prop where
 tr:x.Tracks.length≤1048576∧tot (x.Tracks.map (·.Inputs))≤1048576
 bw:x.Base.Level.Rows.length≤1048576∧x.Base.Scores.length≤1048576∧x.Base.Bodies.length≤1048576
 nw:x.Now.Level.Rows.length≤1048576∧x.Now.Scores.length≤1048576∧x.Now.Bodies.length≤1048576
 us:x.Used.length≤1048576∧tot x.Used≤1048576
 sv:x.Saves.length≤1048576
 sm:x.Sums.length≤1048576
end
section
open Go.RowKit
end
section
open Go.RowKit

@[reducible] def kC (x:TPacket) (a b:V1):List V1 := [jn x.From,jn x.Tick,jn x.First,a,b,jn x.SumTick,jn x.Sum,jn x.Time,jn x.Echo]
@[reducible] def kZ:List V1 := [jn 0,jn 0,jn 0,nv,nv,jn 0,jn 0,jn 0,jn 0]
theorem ins_len {l:List TTrack} {m a:Nat}:(els (ins40 l m a)).length≤40:=by rw[Yi,ins40,Gq4]; omega
theorem ins_at {l:List TTrack} {m a:Nat} (hm:m<l.length):ins40 l m a=(l[m].Inputs.drop a).take 40:=by rw[ins40,Gqg,Gqf hm]; rfl
theorem I_MkP (l:List TTrack) (mi a:Nat) (g:Enc.gd l) (ho:tracksOk l=true) (hm:mi<l.length) (ha:a≤l[mi].Inputs.length) (h4:l[mi].Inputs.length≤400):Con Tryz.prog 233 [] [al l,ai mi,ai a] [.row 1 (els (ins40 l mi a)),.row 1 (els (lens l))] (.tu [.ag (kC (mkP l mi a) (.ref 0) (.ref 1)),.c (bv true)]):=by
 have c1:=I_TracksOk l g
 rw[ho] at c1
 have hl:=Yi l
 have h4:=Ks ho
 have hat:=Yg hm
 have hli:=Yi l[mi].Inputs
 have f1:decide ((mi:Int)<0)=false:=Gqa Aqa 
 have f2:decide (((els l).length:Int)≤(mi:Int))=false:=Gqa Aqa 
 have f3:decide ((a:Int)<0)=false:=Gqa Aqa 
 have f4:decide (((els l[mi].Inputs).length:Int)<(a:Int))=false:=Gqa Aqa 
 have hi40:=ins_len (l:=l) (m:=mi) (a:=a)
 have hz:V.o (.c (.rd [] (T.sl (Enc.k Int) (List.drop ((a:Int)).toNat (List.take (min ((els l[mi].Inputs).length:Int) ((a:Int)+40)).toNat (els l[mi].Inputs))))))=V.o (.c (.rd [] (T.sl 1 (els (ins40 l mi a))))):=by
  rw[part40 _ _ ha,ins_at hm]; rfl
 refine Con.of Tryz.func233 J Tryz.ntmps233 J (fun E => ?_)
 refine Wz [3,36,73] ?_;refine zx (Qj J J (c1) J) J ?_;refine Wz [5,28,134,22,28,70,14,1,165,22,28,134,22,28,28,133,1,137,1,167,1,14,1,160,22,33,9,185,36,48,9,130,167,2,17] ?_
 refine AWP.pre (st':=(⟨76,[(0,L l),(2,I a),(6,Aqf 0),(7,B false),(8,Aqf 1),(9,L l[mi].Inputs)],[.box kZ,.box [jn mi,jn 0,jn a,nv,nv,jn 0,jn 0,jn 0,jn 0]]⟩:St)) ?_ (X4 [0,1] Aqc J ( Aqb) (.c J (.c J (.c J (.c J (.c J (.c J (.nil))))))))
 refine Xg [[],[0],[],[],[],[4],[],[6],[4,5,6,7],[2,3,4,5,6,7,8],(u9 10),(u9 11),(u9 12)] [[],[48],[],[],[],[52],[],[54],[52,53,54,55],[50,51,52,53,54,55,56],[48,49,50,51,52,53,54,55,56,57],[48,49,50,51,52,53,54,55,56,57,58],[48,49,50,51,52,53,54,55,56,57,58,59]] [[50,51,52,53,54,55,56,57],[50,51,52,53,54,55,56,57],[48,49,51,52,53,54,55,56],[48,49,50,52,53,54,55,56],[48,49,50,51,54,55],[48,49,50,51,54,55],[48,49,50,51,52,53],[48,49,50,51,52,53],[48,49,50,51],[48,49],[],[],[],[2,3]] J ?_;refine Wz [8,4,4,4,183,4,251] ?_;refine DR.s (q_min J J J J) J J (DR.s (q_part J J J J J J Aqa) J J (DR.stop Aqb Aqb  ?_));refine AL.weak (st':=(⟨76,[(0,L l),(6,Aqf 0),(7,B false),(8,Aqf 1),(49,.o (.c nv)),(57,.o (.c (.rd [] (.sl 1 (els (ins40 l mi a))))))],[.box kZ,.box [jn mi,jn 0,jn a,nv,nv,jn 0,jn 0,jn 0,jn 0]]⟩:St)) (X4 [0,1] Aqc J Aqb (.c J (.c J (.c J (.c J (.c J (.cons (by exact hz) (.nil)))))))) ?_;refine M_appnil J J J J J J J J (Yj _) (Yh _) Aqa Aqa  ?_;refine Wz [30,56,117,97] ?_
 refine AWP.pre ?_ (Wk.nilbox (p:=1) (i:=4) 1 J J)
 refine Xh (fun m st=>∃ k:Nat,k+m=l.length∧(True)∧st=(⟨76,[(0,L l),(6,Aqf 0),(7,B false),(8,Aqf 1),(60,L l),(61,I (els l).length),(62,I k)],[.box kZ,.box [jn mi,jn 0,jn a,.ref 2,.ref 3,jn 0,jn 0,jn 0,jn 0],.row 1 (els (ins40 l mi a)),.row 1 (els ((lens l).take k))]⟩:St)) (l.length) ⟨_,⟨0,Aqa,trivial,J⟩,X3 [0,1,2,3] Aqb⟩ ?_
 rintro m_A _ ⟨k,hk_A,hp_A,rfl⟩
 have hla:(els ((lens l).take k)).length=k:=by rw[Yi,Gq4,lens_len]; omega
 by_cases h3:k<l.length
 ·have f5:decide ((k:Int)<((els l).length:Int))=true:=Gqb Aqa 
  have hak:=Yg h3
  have hlk:=Yi l[k].Inputs
  have hnx:els ((lens l).take (k+1))=els ((lens l).take k) ++ [[.v (.int .i64 ((els l[k].Inputs).length:Int))]]:=by rw[lens_next h3,hlk]
  refine Wz [3,134,6,17,144,7,3,46,36,48,57,19,89,138,211,132,85,50,57,18,0,6] ?_
  exact⟨l.length-(k+1),Aqa,_,⟨k+1,Aqa,trivial,J⟩,(by rw[hnx]; exact X3 [0,1,2,3] Aqb)⟩
 have f5:decide ((k:Int)<((els l).length:Int))=false:=Gqa Aqa 
 have hkl:(lens l).take k=lens l:=Gqh (by rw[lens_len]; omega)
 rw[hkl]
 refine Wz [3,134,6,17,106,20,90,136,53] ?_
 exact E_cellt J J J J J (X1 [2,3] Aqc J J J)
theorem S_MkP (l:List TTrack) (mi a:Nat) (g:Enc.gd l) (ho:tracksOk l=true) (hm:mi<l.length) (ha:a≤l[mi].Inputs.length) (h4:l[mi].Inputs.length≤400):Con Tryz.prog 185 [] [al l,ai mi,ai a] [.row 1 (els (ins40 l mi a)),.row 1 (els (lens l))] (.tu [.ag (kC (mkP l mi a) (.ref 0) (.ref 1)),.c (bv true)]):=by
 have c1:=S_TracksOk l g
 rw[ho] at c1
 have hl:=Yi l
 have h4:=Ks ho
 have hat:=Yg hm
 have hli:=Yi l[mi].Inputs
 have c2:=X0 (mi:Int) 0 (((els l).length:Int)-1)
 rw[Yx.2 Aqa] at c2
 have c3:=X0 (a:Int) 0 ((els l[mi].Inputs).length:Int)
 rw[Yx.2 Aqa] at c3
 have hi40:=ins_len (l:=l) (m:=mi) (a:=a)
 have h00:([]:List (List T)).length=0:=rfl
 have hz:V.o (.c (.rd [] (T.sl (Enc.k Int) (List.drop ((a:Int)).toNat (List.take ((a:Int)+min 40 (((els l[mi].Inputs).length:Int)-(a:Int))).toNat (els l[mi].Inputs))))))=V.o (.c (.rd [] (T.sl 1 (els (ins40 l mi a))))):=by
  rw[show (a:Int)+min 40 (((els l[mi].Inputs).length:Int)-(a:Int))=min ((els l[mi].Inputs).length:Int) ((a:Int)+40) by omega,part40 _ _ ha,ins_at hm]; rfl
 refine Con.of Tryz.func185 J Tryz.ntmps185 J (fun E => ?_)
 refine Wz [3,36,73] ?_;refine zx (Qj J J (c1) J) J ?_;refine Wz [5,28,70,14,1,84,1] ?_;refine zx (Qj J J (c2) J) J ?_;refine Wz [1,5,22,28,28,133,1,137,1,167,1,14,1] ?_;refine zx (Qj J J (c3) J) J ?_;refine Wz [1,5,22,33,9,185,36,48,9,130,167,117,84,180,2,3,161,127,130,167,127,0,18] ?_;refine zx (q_part J J J J J J Aqa) J ?_;refine AL.weak (st':=(⟨77,[(0,L l),(6,Aqf 0),(7,B false),(8,Aqf 1),(46,Aqg 2),(56,.o (.c (.rd [] (.sl 1 (els (ins40 l mi a))))))],[.box kZ,.box [jn mi,jn 0,jn a,nv,nv,jn 0,jn 0,jn 0,jn 0],.row 1 []]⟩:St)) (X4 [0,1,2] Aqc J Aqb (.c J (.c J (.c J (.c J (.c J (.cons (by exact hz) (.nil)))))))) ?_;refine M_app J J J J J J J J J J (Yj _) (Yh _) Aqa Aqa  ?_;refine Wz [30,11] ?_
 refine AWP.pre ?_ (Wk.nilbox (p:=1) (i:=4) 1 J J)
 refine Xh (fun m st=>∃ k:Nat,k+m=l.length∧(True)∧st=(⟨77,[(0,L l),(6,Aqf 0),(7,B false),(8,Aqf 1),(10,I k)],[.box kZ,.box [jn mi,jn 0,jn a,.ref 2,.ref 3,jn 0,jn 0,jn 0,jn 0],.row 1 (els (ins40 l mi a)),.row 1 (els ((lens l).take k))]⟩:St)) (l.length) ⟨_,⟨0,Aqa,trivial,J⟩,X3 [0,1,2,3] Aqb⟩ ?_
 rintro m_A _ ⟨k,hk_A,hp_A,rfl⟩
 have hla:(els ((lens l).take k)).length=k:=by rw[Yi,Gq4,lens_len]; omega
 by_cases h3:k<l.length
 ·have f5:decide ((k:Int)<((els l).length:Int))=true:=Gqb Aqa 
  have hak:=Yg h3
  have hlk:=Yi l[k].Inputs
  have hnx:els ((lens l).take (k+1))=els ((lens l).take k) ++ [[.v (.int .i64 ((els l[k].Inputs).length:Int))]]:=by rw[lens_next h3,hlk]
  refine Wz [112,82] ?_;refine Xg [[],[0],[],[],[2,3],[2,3,4],[2,3,4,5],[2,3,4,5,6],[2,3,4,5,6,7],(u9 9),(u9 10),(u9 11)] [[],[65],[],[],[67,68],[67,68,69],[67,68,69,70],[67,68,69,70,71],[67,68,69,70,71,72],[65,66,67,68,69,70,71,72,73],[65,66,67,68,69,70,71,72,73,74],[65,66,67,68,69,70,71,72,73,74,75]] [[67,68,69,70,71,72,73],[67,68,69,70,71,72,73],[65,66,68],[65,66,67],[65,66],[65,66],[65,66],[65,66],[65,66],[],[],[]] J ?_;refine Wz [8,120,173,29,183,145,13,211,132,99] ?_
  exact⟨l.length-(k+1),Aqa,_,⟨k+1,Aqa,trivial,J⟩,(by rw[hnx]; exact X3 [0,1,2,3] Aqb)⟩
 have f5:decide ((k:Int)<((els l).length:Int))=false:=Gqa Aqa 
 have hkl:(lens l).take k=lens l:=Gqh (by rw[lens_len]; omega)
 rw[hkl]
 refine Wz [112,44,20,90,136,53] ?_
 exact E_cellt J J J J J (X1 [2,3] Aqc J J J)
/-! ### Tell -/
theorem i64z:I64 0:=⟨Aqc,Aqc⟩
theorem pk_gd {x:TPeer} (g:Enc.gd x) (ok:peerOk x=true) {a:Nat} (ha:a≤400):Enc.gd (pkOf x a):=by
 obtain⟨g1,g2,g3,g4,g5,g6,g7,g8,g9,g10,g11,g12,g13⟩:=g
 have ⟨⟨o1,o2,o3,_⟩,_⟩:=Zl ok
 have hs:=checksum_lt (worldBytes x.Base)
 have ht:=Ks o1
 refine⟨g1,g7.2.1,⟨by show _≤(a:Int); omega,by show (a:Int)≤_; omega⟩,⟨?_,fun v hv => ?_⟩,⟨by rw[show (pkOf x a).Acks=lens x.Tracks from J,lens_len]; omega,fun v hv => ?_⟩,g6.2.1,⟨by show _≤wsum x.Base; unfold wsum; omega,by show wsum x.Base≤_; unfold wsum; omega⟩,i64z,i64z⟩
 ·show (ins40 x.Tracks x.Me.toNat a).length≤_
  rw[ins40,Gq4]; omega
 ·have h1:v∈(x.Tracks.getD x.Me.toNat ⟨[]⟩).Inputs:=List.mem_of_mem_drop (List.mem_of_mem_take hv)
  rw[Gqg] at h1
  cases hx:x.Tracks[x.Me.toNat]? with
  |none=>rw[hx] at h1; cases h1
  |some y=>rw[hx] at h1; exact (g5.2 y (Gqm hx)).2 v h1
 ·obtain⟨y,hy,rfl⟩:=Gqv.1 hv
  have:=(g5.2 y hy).1
  exact⟨Aqa,Aqa⟩
theorem I_wsu (w:TWorld) (g:Enc.gd w):Con Tryz.prog 234 [] [ag w] [] (I (wsum w)):=by
 have c1:=I_WorldBytes w g
 have c2:=I_Checksum (worldBytes w) (by have:=bytes_len w; omega)
 refine Con.of Tryz.func234 J Tryz.ntmps234 J (fun E => ?_)
 refine Wz [21,90] ?_;refine zx (Qj J J (c1) J) J ?_;refine zx (Qj J J (c2) J) J ?_;refine Wz [53] ?_
 exact Xl J J (X1 [] Aqc J J J)
theorem S_wsu (w:TWorld) (g:Enc.gd w):Con Tryz.prog 213 [] [ag w] [] (I (wsum w)):=by
 have c1:=S_WorldBytes w g
 have c2:=S_Checksum (worldBytes w) (by have:=bytes_len w; omega)
 refine Con.of Tryz.func213 J Tryz.ntmps213 J (fun E => ?_)
 refine Wz [21,90] ?_;refine zx (Qj J J (c1) J) J ?_;refine zx (Qj J J (c2) J) J ?_;refine Wz [53] ?_
 exact Xl J J (X1 [] Aqc J J J)
theorem I_TellY (x:TPeer) (mi a:Nat) (g:Enc.gd x) (ok:peerOk x=true) (hme:x.Me=mi) (hm:mi<x.Tracks.length) (ha:a≤x.Tracks[mi].Inputs.length) (h4:x.Tracks[mi].Inputs.length≤400) (hp:packetOk (pkOf x a)=true):Con Tryz.prog 139 [] [ag x,ai a] [.row 1 (els (pkOf x a).Inputs),.row 1 (els (pkOf x a).Acks)] (.tu [.ag (kC (pkOf x a) (.ref 0) (.ref 1)),.c (bv true)]):=by
 have c1:=I_PeerOk x g
 rw[ok] at c1
 have o1:=(Zl ok).1.1
 obtain⟨_,_,_,_,gT,gB,_⟩:=id g
 have hmt:x.Me.toNat=mi:=Aqa
 have c2:=I_MkP x.Tracks mi a gT o1 hm ha h4
 rw[←hme] at c2
 have c3:=I_wsu x.Base gB
 have c4:=I_PacketOk (pkOf x a) (pk_gd g ok Aqa)
 rw[hp] at c4
 have hpk:pkOf x a=⟨mi,x.Now.Tick,a,ins40 x.Tracks mi a,lens x.Tracks,x.Base.Tick,wsum x.Base,0,0⟩:=by rw[pkOf,hmt,hme]
 rw[hpk] at c4
 rw[hpk]
 clear hpk hp
 refine Con.of Tryz.func139 J Tryz.ntmps139 J (fun E => ?_)
 refine Wz [76,36,2,107,37] ?_;refine zx (Qj J J (c1) J) J ?_;refine Wz [64,23,19,0] ?_;refine M1 (Zs J J (c2) J J J) J J ?_;refine Wz [139,71,71,36,136,73,64,3,55,19,30,3,55,19,30,152] ?_;refine zx (Qj J J (c3) J) J ?_;refine Wz [30,107,37] ?_;refine zx (Qj J J (c4) J) J ?_;refine Wz [64,90,136,53] ?_

 exact E_cellt J J J J J (X1 [2,3] Aqc J J J)
theorem I_TellN (x:TPeer) (mi a:Nat) (g:Enc.gd x) (ok:peerOk x=true) (hme:x.Me=mi) (hm:mi<x.Tracks.length) (ha:a≤x.Tracks[mi].Inputs.length) (h4:x.Tracks[mi].Inputs.length≤400) (hp:packetOk (pkOf x a)=false):Con Tryz.prog 139 [] [ag x,ai a] [] (.tu [.ag kZ,.c (bv false)]):=by
 have c1:=I_PeerOk x g
 rw[ok] at c1
 have o1:=(Zl ok).1.1
 obtain⟨_,_,_,_,gT,gB,_⟩:=id g
 have hmt:x.Me.toNat=mi:=Aqa
 have c2:=I_MkP x.Tracks mi a gT o1 hm ha h4
 rw[←hme] at c2
 have c3:=I_wsu x.Base gB
 have c4:=I_PacketOk (pkOf x a) (pk_gd g ok Aqa)
 rw[hp] at c4
 have hpk:pkOf x a=⟨mi,x.Now.Tick,a,ins40 x.Tracks mi a,lens x.Tracks,x.Base.Tick,wsum x.Base,0,0⟩:=by rw[pkOf,hmt,hme]
 rw[hpk] at c4
 clear hpk hp
 refine Con.of Tryz.func139 J Tryz.ntmps139 J (fun E => ?_)
 refine Wz [76,36,2,107,37] ?_;refine zx (Qj J J (c1) J) J ?_;refine Wz [64,23,19,0] ?_;refine M1 (Zs J J (c2) J J J) J J ?_;refine Wz [139,71,71,36,136,73,64,3,55,19,30,3,55,19,30,152] ?_;refine zx (Qj J J (c3) J) J ?_;refine Wz [30,107,37] ?_;refine zx (Qj J J (c4) J) J ?_;refine Wz [5,24,3,185,136,2,135,69] ?_
 exact E_cellt J J J J J (X1 [] Aqc J J J)
theorem S_TellY (x:TPeer) (mi a:Nat) (g:Enc.gd x) (ok:peerOk x=true) (hme:x.Me=mi) (hm:mi<x.Tracks.length) (ha:a≤x.Tracks[mi].Inputs.length) (h4:x.Tracks[mi].Inputs.length≤400) (hp:packetOk (pkOf x a)=true):Con Tryz.prog 121 [] [ag x,ai a] [.row 1 (els (pkOf x a).Inputs),.row 1 (els (pkOf x a).Acks)] (.tu [.ag (kC (pkOf x a) (.ref 0) (.ref 1)),.c (bv true)]):=by
 have c1:=S_PeerOk x g
 rw[ok] at c1
 have o1:=(Zl ok).1.1
 obtain⟨_,_,_,_,gT,gB,_⟩:=id g
 have hmt:x.Me.toNat=mi:=Aqa
 have c2:=S_MkP x.Tracks mi a gT o1 hm ha h4
 rw[←hme] at c2
 have c3:=S_wsu x.Base gB
 have c4:=S_PacketOk (pkOf x a) (pk_gd g ok Aqa)
 rw[hp] at c4
 have hpk:pkOf x a=⟨mi,x.Now.Tick,a,ins40 x.Tracks mi a,lens x.Tracks,x.Base.Tick,wsum x.Base,0,0⟩:=by rw[pkOf,hmt,hme]
 rw[hpk] at c4
 rw[hpk]
 clear hpk hp
 refine Con.of Tryz.func121 J Tryz.ntmps121 J (fun E => ?_)
 refine Wz [76,36,2,107,37] ?_;refine zx (Qj J J (c1) J) J ?_;refine Wz [64,23,19,0] ?_;refine M1 (Zs J J (c2) J J J) J J ?_;refine Wz [139,71,71,36,136,2,3,55,19,30,3,55,19,30,152] ?_;refine zx (Qj J J (c3) J) J ?_;refine Wz [30,56,5,70,37,1] ?_;refine zx (Qj J J (c4) J) J ?_;refine Wz [1,5,22,33,90,136,53] ?_

 exact E_cellt J J J J J (X1 [2,3] Aqc J J J)
theorem S_TellN (x:TPeer) (mi a:Nat) (g:Enc.gd x) (ok:peerOk x=true) (hme:x.Me=mi) (hm:mi<x.Tracks.length) (ha:a≤x.Tracks[mi].Inputs.length) (h4:x.Tracks[mi].Inputs.length≤400) (hp:packetOk (pkOf x a)=false):Con Tryz.prog 121 [] [ag x,ai a] [] (.tu [.ag kZ,.c (bv false)]):=by
 have c1:=S_PeerOk x g
 rw[ok] at c1
 have o1:=(Zl ok).1.1
 obtain⟨_,_,_,_,gT,gB,_⟩:=id g
 have hmt:x.Me.toNat=mi:=Aqa
 have c2:=S_MkP x.Tracks mi a gT o1 hm ha h4
 rw[←hme] at c2
 have c3:=S_wsu x.Base gB
 have c4:=S_PacketOk (pkOf x a) (pk_gd g ok Aqa)
 rw[hp] at c4
 have hpk:pkOf x a=⟨mi,x.Now.Tick,a,ins40 x.Tracks mi a,lens x.Tracks,x.Base.Tick,wsum x.Base,0,0⟩:=by rw[pkOf,hmt,hme]
 rw[hpk] at c4
 clear hpk hp
 refine Con.of Tryz.func121 J Tryz.ntmps121 J (fun E => ?_)
 refine Wz [76,36,2,107,37] ?_;refine zx (Qj J J (c1) J) J ?_;refine Wz [64,23,19,0] ?_;refine M1 (Zs J J (c2) J J J) J J ?_;refine Wz [139,71,71,36,136,2,3,55,19,30,3,55,19,30,152] ?_;refine zx (Qj J J (c3) J) J ?_;refine Wz [30,56,5,70,37,1] ?_;refine zx (Qj J J (c4) J) J ?_;refine Wz [1,5,22,24,3,185,136,2,135,69] ?_
 exact E_cellt J J J J J (X1 [] Aqc J J J)
/-! ### The stamp -/
theorem I_copyPacket (x:TPacket) (h1:x.Inputs.length≤1048576) (h2:x.Acks.length≤1048576):Con Tryz.prog 236 [] [ag x] [.row 1 (els x.Inputs),.row 1 (els x.Acks)] (.o (.ag (kC x (.ref 0) (.ref 1)))):=by
 have c1:=Xp x.Inputs h1
 have c2:=Xp x.Acks h2
 refine Con.of Tryz.func236 J Tryz.ntmps236 J (fun E => ?_)
 refine Wz [76,52,23] ?_;refine M1 (Zs J J (c1) J J J) J J ?_;refine Wz [45] ?_;refine M1 (Zs J J (c2) J J J) J J ?_;refine Wz [30,100,49] ?_
 exact Xk J J J J (X1 [2,3] Aqc J J J)
theorem I_StampPacket (x:TPacket) (q:TPace) (n:Int) (h1:x.Inputs.length≤1048576) (h2:x.Acks.length≤1048576):Con Tryz.prog 140 [] [ag x,ag q,ai n] [.row 1 (els x.Inputs),.row 1 (els x.Acks)] (.o (.ag (kC (stampP x q n) (.ref 0) (.ref 1)))):=by
 have c1:=I_copyPacket x h1 h2
 have c2:=I_PaceOk q
 have c3:=Xo n 0 1000000
 cases hb:stampB q n with
 |true =>
  rw[show stampP x q n={ x with Time:=n,Echo:=q.Newest } by rw[stampP,hb]; rfl]
  simp only[stampB,Gqi,decide_eq_true_eq] at hb
  obtain⟨b1,b2,b3⟩:=hb
  rw[b1] at c2
  rw[b3] at c3
  have f1:decide (1000000<q.Newest)=false:=Gqa Aqa 
  refine Con.of Tryz.func140 J Tryz.ntmps140 J (fun E => ?_)
  refine Wz [261,52,90] ?_;refine M1 (Zs J J (c1) J J J) J J ?_;refine Wz [36,48,107,37] ?_;refine zx (Qj J J (c2) J) J ?_;refine Wz [5,70,55,1,124,1,160,22,28] ?_;refine zx (Qj J J (c3) J) J ?_;refine Wz [1,5,22,33,10,45,30,100,49] ?_
  exact Xk J J J J (X1 [3,4] Aqc J J J)
 | false =>
  rw[show stampP x q n=x by rw[stampP,hb]; rfl]
  refine Con.of Tryz.func140 J Tryz.ntmps140 J (fun E => ?_)
  refine Wz [261,52,90] ?_;refine M1 (Zs J J (c1) J J J) J J ?_;refine Wz [36,48,107,37] ?_;refine zx (Qj J J (c2) J) J ?_;refine Wz [5,102,272,110,0,109] ?_;refine zx (Qt.grdF J J J (.hit .stop) (fun hgrd=>Qj J J (c3) J)) J ?_;refine Wz [175,51] ?_
  refine Xb J (fun h => ?_) (fun h => ?_)
  ·refine Wz [100,135] ?_
   refine Wz [69] ?_
   exact Xk J J J J (X1 [3,4] Aqc J J J)
  ·exfalso
   simp only[Gql,Gqu,decide_eq_false_iff_not] at h
   rw[stampB,h.1.1,h.2,Gqb Aqa] at hb
   cases hb
theorem S_StampPacket (x:TPacket) (q:TPace) (n:Int) (h1:x.Inputs.length≤1048576) (h2:x.Acks.length≤1048576):Con Tryz.prog 124 [] [ag x,ag q,ai n] [.row 1 (els x.Inputs),.row 1 (els x.Acks)] (.o (.ag (kC (stampP x q n) (.ref 0) (.ref 1)))):=by
 have c2:=S_PaceOk q
 have c3:=X0 n 0 1000000
 have hl1:=Yi x.Inputs
 have hl2:=Yi x.Acks
 have h00:([]:List (List T)).length=0:=rfl
 cases hb:stampB q n with
 |true =>
  rw[show stampP x q n={ x with Time:=n,Echo:=q.Newest } by rw[stampP,hb]; rfl]
  simp only[stampB,Gqi,decide_eq_true_eq] at hb
  obtain⟨b1,b2,b3⟩:=hb
  rw[b1] at c2
  rw[b3] at c3
  have f1:decide (q.Newest≤1000000)=true:=Gqb Aqa 
  refine Con.of Tryz.func124 J Tryz.ntmps124 J (fun E => ?_)
  refine Wz [261,52,3,161,19] ?_;refine M_app J J J J J J J J J J (Yj _) (Yh _) Aqa Aqa  ?_;refine Wz [30,3,161,19] ?_;refine M_app J J J J J J J J J J (Yj _) (Yh _) Aqa Aqa  ?_;refine Wz [30,107,37] ?_;refine zx (Qj J J (c2) J) J ?_;refine Wz [70,55,1,124,1] ?_;refine z9b J Aqe ?_;refine Wz [60,28] ?_;refine zx (Qj J J (c3) J) J ?_;refine Wz [60,24,10,30,57,19,30,100,49] ?_
  exact Xk J J J J (X1 [3,4] Aqc J J J)
 | false =>
  rw[show stampP x q n=x by rw[stampP,hb]; rfl]
  refine Con.of Tryz.func124 J Tryz.ntmps124 J (fun E => ?_)
  refine Wz [261,52,3,161,19] ?_;refine M_app J J J J J J J J J J (Yj _) (Yh _) Aqa Aqa  ?_;refine Wz [30,3,161,19] ?_;refine M_app J J J J J J J J J J (Yj _) (Yh _) Aqa Aqa  ?_;refine Wz [30,107,37] ?_;refine zx (Qj J J (c2) J) J ?_;refine Wz [58,242,25,0,146] ?_;refine zx (Qt.grdT J J J (.hit .stop) (fun hgrd=>Qj J J (c3) J)) J ?_;refine Wz [25,6] ?_
  refine Xb J (fun h => ?_) (fun h => ?_)
  ·exfalso
   simp only[Gqi,decide_eq_true_eq] at h
   rw[stampB,h.1.1,h.2,Gqb Aqa] at hb
   cases hb
  ·refine Wz [15,90,136,85] ?_
   refine Wz [291,49] ?_
   exact Xk J J J J (X1 [3,4] Aqc J J J)
/-! ### The bytes -/
theorem head_gd {p:TPacket} (g:Enc.gd p):Enc.gd [p.From,p.Tick,p.First,p.SumTick,p.Sum,p.Time,p.Echo]:=by
 obtain⟨a,b,c,_,_,d,e,f,h⟩:=g
 refine⟨Aqd,fun x hx => ?_⟩
 simp only[List.mem_cons,Gxs,or_false] at hx
 rcases hx with rfl | rfl | rfl | rfl | rfl | rfl | rfl <;> assumption
theorem I_EncodePacket (p:TPacket) (g:Enc.gd p):Con Tryz.prog 142 [] [ag p] [] (S (encP p)):=by
 have c1:=I_PacketOk p g
 rw[encP]
 cases hp:packetOk p with
 |false =>
  rw[hp] at c1
  refine Con.of Tryz.func142 J Tryz.ntmps142 J (fun E => ?_)
  refine Wz [21,107,37] ?_;refine zx (Qj J J (c1) J) J ?_;refine Wz [5,26] ?_
  exact Xl J J (X1 [] Aqc J J J)
 |true =>
  rw[hp] at c1
  obtain⟨k1,k2,k3,k4,k5,k6⟩:=packet_spec hp
  obtain⟨_,_,_,gi,ga,_⟩:=id g
  have c2:=I_PackInts [p.From,p.Tick,p.First,p.SumTick,p.Sum,p.Time,p.Echo] (head_gd g) Aqd 
  have c3:=I_PackInts p.Acks ga Aqa 
  have c4:=I_PackTrack p.Inputs gi
  have s1:=Ze [p.From,p.Tick,p.First,p.SumTick,p.Sum,p.Time,p.Echo]
  have s2:=Ze p.Acks
  have s3:=Zf p.Inputs
  have c5:=I_PackText (packTrack p.Inputs) Aqa 
  have s4:=packText_size (packTrack p.Inputs)
  simp only[Gq3,List.length_nil] at s1
  have c6:=I_SealText ((packInts [p.From,p.Tick,p.First,p.SumTick,p.Sum,p.Time,p.Echo]++packInts p.Acks)++packText (packTrack p.Inputs)) (by simp only[Yf]; omega)
  generalize packText (packTrack p.Inputs)=t3 at c5 c6 s4 ⊢
  generalize packTrack p.Inputs=t4 at c4 c5 s3 s4
  generalize packInts [p.From,p.Tick,p.First,p.SumTick,p.Sum,p.Time,p.Echo]=t1 at c2 c6 s1 ⊢
  generalize packInts p.Acks=t2 at c3 c6 s2 ⊢
  have hcat:(t1++t2).size=t1.size+t2.size:=Yf _ _
  refine Con.of Tryz.func142 J Tryz.ntmps142 J (fun E => ?_)
  refine Wz [21,107,37] ?_;refine zx (Qj J J (c1) J) J ?_;refine Wz [64,23,19,19,19,19,19,19,138] ?_;refine zx (Qj J J (c2) J) J ?_;refine Wz [2,17] ?_;refine Xg [[],[],[1],[1,2],(u9 4),[],[5],[1,2,3,5,6],[1,2,3,5,6,7],(u9 9),(u9 10),(u9 11)] [[],[],[24],[24,25],[23,24,25,26],[],[28],[24,25,26,28,29],[24,25,26,28,29,30],[23,24,25,26,27,28,29,30,31],[23,24,25,26,27,28,29,30,31,32],[23,24,25,26,27,28,29,30,31,32,33]] [[24,25,26,28,29,30,31],[23,28,29],[23,28,29],[23,28,29],[28,29,30,31],[23,24,25,26,27],[23,24,25,26,27],[23,27],[23,27],[],[],[]] J ?_;refine Wz [4,8] ?_;refine DR.s (Qj J J (c3) J) J J ?_;refine Wz [292,8] ?_;refine DR.s (Qj J J (c4) J) J J ?_;refine DR.s (Qj J J (c5) J) J J ?_;refine DR.s (q_cat J J J J Aqa) J J ?_;refine DR.s (Qj J J (c6) J) J J ?_;refine Wz [156,13,6,49] ?_
  exact Xl J J (X1 [] Aqc J J J)
theorem S_EncodePacket (p:TPacket) (g:Enc.gd p):Con Tryz.prog 123 [] [ag p] [] (S (encP p)):=by
 have c1:=S_PacketOk p g
 rw[encP]
 cases hp:packetOk p with
 |false =>
  rw[hp] at c1
  refine Con.of Tryz.func123 J Tryz.ntmps123 J (fun E => ?_)
  refine Wz [21,107,37] ?_;refine zx (Qj J J (c1) J) J ?_;refine Wz [5,26] ?_
  exact Xl J J (X1 [] Aqc J J J)
 |true =>
  rw[hp] at c1
  obtain⟨k1,k2,k3,k4,k5,k6⟩:=packet_spec hp
  obtain⟨_,_,_,gi,ga,_⟩:=id g
  have c2:=S_PackInts [p.From,p.Tick,p.First,p.SumTick,p.Sum,p.Time,p.Echo] (head_gd g) Aqd 
  have c3:=S_PackInts p.Acks ga Aqa 
  have c4:=S_PackTrack p.Inputs gi
  have s1:=Ze [p.From,p.Tick,p.First,p.SumTick,p.Sum,p.Time,p.Echo]
  have s2:=Ze p.Acks
  have s3:=Zf p.Inputs
  have c5:=S_PackText (packTrack p.Inputs) Aqa 
  have s4:=packText_size (packTrack p.Inputs)
  simp only[Gq3,List.length_nil] at s1
  have c6:=S_SealText ((packInts [p.From,p.Tick,p.First,p.SumTick,p.Sum,p.Time,p.Echo]++packInts p.Acks)++packText (packTrack p.Inputs)) (by simp only[Yf]; omega)
  generalize packText (packTrack p.Inputs)=t3 at c5 c6 s4 ⊢
  generalize packTrack p.Inputs=t4 at c4 c5 s3 s4
  generalize packInts [p.From,p.Tick,p.First,p.SumTick,p.Sum,p.Time,p.Echo]=t1 at c2 c6 s1 ⊢
  generalize packInts p.Acks=t2 at c3 c6 s2 ⊢
  have hcat:(t1++t2).size=t1.size+t2.size:=Yf _ _
  refine Con.of Tryz.func123 J Tryz.ntmps123 J (fun E => ?_)
  refine Wz [21,107,37] ?_;refine zx (Qj J J (c1) J) J ?_;refine Wz [64,17] ?_;refine Xg [[],[0],[],[2],[],[4],[],[6],[],[8],[],[10],[],[12],(u9 14),(u9 15),[],[16],(u9 18),(u9 19),[],[20],[0,1,2,3,4,5,6,7,8,9,10,11,12,13,14,15,16,17,18,20,21],[0,1,2,3,4,5,6,7,8,9,10,11,12,13,14,15,16,17,18,20,21,22],(u9 24),(u9 25)] [[],[7],[],[9],[],[11],[],[13],[],[15],[],[17],[],[19],[7,8,9,10,11,12,13,14,15,16,17,18,19,20],[7,8,9,10,11,12,13,14,15,16,17,18,19,20,21],[],[23],[7,8,9,10,11,12,13,14,15,16,17,18,19,20,21,22,23,24],[7,8,9,10,11,12,13,14,15,16,17,18,19,20,21,22,23,24,25],[],[27],[7,8,9,10,11,12,13,14,15,16,17,18,19,20,21,22,23,24,25,27,28],[7,8,9,10,11,12,13,14,15,16,17,18,19,20,21,22,23,24,25,27,28,29],[7,8,9,10,11,12,13,14,15,16,17,18,19,20,21,22,23,24,25,26,27,28,29,30],[7,8,9,10,11,12,13,14,15,16,17,18,19,20,21,22,23,24,25,26,27,28,29,30,31]] [[9,10,11,12,13,14,15,16,17,18,19,20,23,24,27,28],[9,10,11,12,13,14,15,16,17,18,19,20,23,24,27,28],[7,8,11,12,13,14,15,16,17,18,19,20,23,24,27,28],[7,8,11,12,13,14,15,16,17,18,19,20,23,24,27,28],[7,8,9,10,13,14,15,16,17,18,19,20,23,24,27,28],[7,8,9,10,13,14,15,16,17,18,19,20,23,24,27,28],[7,8,9,10,11,12,15,16,17,18,19,20,23,24,27,28],[7,8,9,10,11,12,15,16,17,18,19,20,23,24,27,28],[7,8,9,10,11,12,13,14,17,18,19,20,23,24,27,28],[7,8,9,10,11,12,13,14,17,18,19,20,23,24,27,28],[7,8,9,10,11,12,13,14,15,16,19,20,23,24,27,28],[7,8,9,10,11,12,13,14,15,16,19,20,23,24,27,28],[7,8,9,10,11,12,13,14,15,16,17,18,23,24,27,28],[7,8,9,10,11,12,13,14,15,16,17,18,23,24,27,28],[23,24,27,28],[23,24,27,28],[7,8,9,10,11,12,13,14,15,16,17,18,19,20,21,22,27,28],[7,8,9,10,11,12,13,14,15,16,17,18,19,20,21,22,27,28],[27,28],[27,28,29,30],[7,8,9,10,11,12,13,14,15,16,17,18,19,20,21,22,23,24,25,26],[7,8,9,10,11,12,13,14,15,16,17,18,19,20,21,22,23,24,25,26],[26],[26],[],[]] J ?_;refine Wz [8,8,8,8,8,8,8,145] ?_;refine DR.s (Qj J J (c2) J) J J ?_;refine Wz [8] ?_;refine DR.s (Qj J J (c3) J) J J ?_;refine Wz [292,8] ?_;refine DR.s (Qj J J (c4) J) J J ?_;refine DR.s (Qj J J (c5) J) J J ?_;refine Wz [292,156,13,6,10] ?_;refine zx (Qj J J (c6) J) J ?_;refine Wz [53] ?_
  exact Xl J J (X1 [] Aqc J J J)
end
end Go.Proofs.YtfklmiijhcajdaaGreat
