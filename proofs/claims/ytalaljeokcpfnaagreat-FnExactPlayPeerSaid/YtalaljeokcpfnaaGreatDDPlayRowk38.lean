/-
  Rules, data and contracts of functions: part 39 of the proof.
  Conditions: those that each theorem names.
-/
import Derived.Test.YtalaljeokcpfnaaGreatDDPlayRowk37
set_option linter.unusedSimpArgs false
set_option linter.unusedVariables false
set_option maxRecDepth 8000
set_option maxHeartbeats 8000000
namespace Go.Proofs.YtalaljeokcpfnaaGreat
section
open Tryz
open Go.RowKit

theorem gd_snc {α:Type} [Enc α] {xs:List α} {s:α} (h:Enc.gd xs) (hs:Enc.gd s) (hl:xs.length≤1048576):Enc.gd (xs ++ [s]):=⟨by rw[Gql]; simp; omega,fun x hx=>by
 rcases Gqs.1 hx with h' | h'
 ·exact h.2 _ h'
 ·rw[Gxd.1 h']; exact hs⟩
def predT (t:Nat) (x:TTrack):Int:=if t<x.Inputs.length then x.Inputs.getD t 0 else if x.Inputs.length=0 then 0 else (((x.Inputs.getD (x.Inputs.length-1) 0).toNat &&& (3:Int).toNat:Nat):Int)
def rowP (l:List TTrack) (t:Nat):List Int:=l.map (predT t)
def kall (l:List TTrack) (t k:Nat):Bool:=(l.take k).all fun y=>decide (t<y.Inputs.length)
section
variable {x:TTrack} {t:Nat}
theorem getD_lt {xs:List Int} {i:Nat} (h:i<xs.length):xs.getD i 0=xs[i]:=by rw[Gqf,Gqg h]; rfl
theorem pred_1 (h:t<x.Inputs.length):predT t x=x.Inputs[t]:=by rw[predT,if_pos h,getD_lt h]
theorem pred_0 (h:x.Inputs.length=0):predT t x=0:=by rw[predT,if_neg Aqa,if_pos h]
theorem pred_2 (h:¬t<x.Inputs.length) (h2:¬x.Inputs.length=0):predT t x=(((x.Inputs[x.Inputs.length-1]' Aqa).toNat &&& (3:Int).toNat:Nat):Int):=by rw[predT,if_neg h,if_neg h2,getD_lt Aqa]
theorem track_in (ho:trackOk x=true):x.Inputs.length≤400∧∀ v∈x.Inputs,0≤v∧v≤15:=by
 simp only[trackOk,Gqh,decide_eq_true_eq] at ho
 exact⟨Aqa,fun v hv=>by have:=Gqp.1 ho.2 v hv; simpa[Zm] using this⟩
theorem pred_rng (ho:trackOk x=true):0≤predT t x∧predT t x≤15:=by
 have h2:=(track_in ho).2
 by_cases h:t<x.Inputs.length
 ·rw[pred_1 h]; exact h2 _ (Gqe h)
 ·by_cases h3:x.Inputs.length=0
  ·rw[pred_0 h3]; omega
  ·rw[pred_2 h h3]
   have:(x.Inputs[x.Inputs.length-1]' Aqa).toNat &&& (3:Int).toNat≤(3:Int).toNat:=Nat.and_le_right
   omega
end
theorem rowP_next {l:List TTrack} {t k:Nat} (h:k<l.length):els ((rowP l t).take (k+1))=els ((rowP l t).take k) ++ [Enc.e (predT t l[k])]:=by
 rw[Zb (by simpa[rowP] using h)]
 simp[rowP]
theorem rowP_len {l:List TTrack} {t:Nat}:(rowP l t).length=l.length:=by simp[rowP]
theorem rowP_in {l:List TTrack} {t:Nat} (ho:tracksOk l=true):∀ v∈rowP l t,0≤v∧v≤15:=fun v hv=>by
 obtain⟨y,hy,rfl⟩:=Gqv.1 hv
 obtain⟨k,hk,rfl⟩:=List.getElem_of_mem hy
 exact pred_rng (all_at ho hk)
theorem rowP_gd {l:List TTrack} {t:Nat} (ho:tracksOk l=true):Enc.gd (rowP l t):=by
 have h1:=Ue ho
 exact⟨by rw[rowP_len]; omega,fun v hv=>by have:=rowP_in ho v hv; exact⟨Aqa,Aqa⟩⟩
theorem kall_next {l:List TTrack} {t k:Nat} (h:k<l.length):kall l t (k+1)=(kall l t k&&decide (t<l[k].Inputs.length)):=by
 rw[kall,kall,Gxb h,List.all_append]
 simp
theorem least_lt {l:List TTrack} {t:Nat}:∀ k,k≤l.length→1≤l.length→(decide (t<leastK l k)=(decide (t<lenAt l 0)&&kall l t k))
 |0,_,_=>by rw[show kall l t 0=true from rfl,Bool.and_true]; rfl
 |k+1,h,h1=>by
  rw[kall_next Aqa,←Bool.and_assoc,←least_lt k Aqa h1]
  rw[leastK,←Zn Aqa,Bool.eq_iff_iff]
  simp only[decide_eq_true_eq,Gqh]
  omega
theorem kall_end {l:List TTrack} {t:Nat} (ho:tracksOk l=true):kall l t l.length=decide ((t:Int)<((knownTicks l:Nat):Int)):=by
 have h1:=Ue ho
 have h2:=least_lt (l:=l) (t:=t) l.length (Gqi _) h1.1
 have h3:kall l t l.length=(decide (t<lenAt l 0)&&kall l t l.length):=by
  cases hk:kall l t l.length with
  |false=>simp
  |true =>
   rw[kall,Gxs] at hk
   have:=Gqp.1 hk _ (Gqe (show 0<l.length by omega))
   rw[Zn Aqa,this]; rfl
 rw[h3,←h2,knownTicks,if_pos ho]
 rw[Bool.eq_iff_iff]
 simp only[decide_eq_true_eq]
 omega
theorem I_PredA (x:TTrack) (t:Nat) (g:Enc.gd x) (ho:trackOk x=true):Co 212 [] [ag x,ai t] [] (I (predT t x)):=by
 have hl:=Y7 x.Inputs
 have c1:=I_TrackOk x g
 have hin:=track_in ho
 have hin1:=hin.1
 rw[ho] at c1
 have f1:decide ((t:Int)<0)=false:=Gqa Aqa 
 by_cases h1:t<x.Inputs.length
 ·have hat:=Y4 h1
  have f2:decide ((t:Int)<((els x.Inputs).length:Int))=true:=Gqb Aqa 
  rw[pred_1 h1]
  refine Con.o func212 ntmps212 fun E=>?_;refine Wz [43,16,7] ?_;refine kc0 c1 ?_;refine Wz [6,14,19,5,28,109,40,0,157,65,100,76] ?_
  exact Bzh
 have f2:decide ((t:Int)<((els x.Inputs).length:Int))=false:=Gqa Aqa 
 by_cases h2:x.Inputs.length=0
 ·have f3:decide (((els x.Inputs).length:Int)=0)=true:=Gqb Aqa 
  rw[pred_0 h2]
  refine Con.o func212 ntmps212 fun E=>?_;refine Wz [43,16,7] ?_;refine kc0 c1 ?_;refine Wz [6,14,19,5,28,109,40,0,19,28,41,20,115] ?_
  exact Bzh
 have f3:decide (((els x.Inputs).length:Int)=0)=false:=Gqa Aqa 
 have h3:x.Inputs.length-1<x.Inputs.length:=Aqa
 have hat:(els x.Inputs)[(((els x.Inputs).length:Int)-1).toNat]? = some (Enc.e x.Inputs[x.Inputs.length-1]):=by
  rw[hl,show ((x.Inputs.length:Int)-1).toNat=x.Inputs.length-1 by omega]
  have:=Y4 h3
  rwa[Int.toNat_natCast] at this
 have hr:=hin.2 _ (Gqe h3)
 rw[pred_2 h1 h2]
 generalize x.Inputs[x.Inputs.length-1]=v at hat hr
 refine Con.o func212 ntmps212 fun E=>?_;refine Wz [43,16,7] ?_;refine kc0 c1 ?_;refine Wz [6,14,19,5,28,109,40,0,19,28,41,20,28,65,29,100,219,36] ?_
 exact Bzh
theorem S_PredA (x:TTrack) (t:Nat) (g:Enc.gd x) (ho:trackOk x=true):Co 192 [] [ag x,ai t] [] (I (predT t x)):=by
 have hl:=Y7 x.Inputs
 have c1:=S_TrackOk x g
 have hin:=track_in ho
 have hin1:=hin.1
 rw[ho] at c1
 have f1:decide ((t:Int)<0)=false:=Gqa Aqa 
 by_cases h1:t<x.Inputs.length
 ·have hat:=Y4 h1
  have f2:decide ((t:Int)<((els x.Inputs).length:Int))=true:=Gqb Aqa 
  rw[pred_1 h1]
  refine Con.o func192 ntmps192 fun E=>?_;refine Wz [96,109,16,34,7] ?_;refine kc0 c1 ?_;refine Wz [6,14,19,5,8,90,10,19,8,117,65,100,155,198,89] ?_
  exact Bzh
 have f2:decide ((t:Int)<((els x.Inputs).length:Int))=false:=Gqa Aqa 
 by_cases h2:x.Inputs.length=0
 ·have f3:decide (((els x.Inputs).length:Int)=0)=true:=Gqb Aqa 
  rw[pred_0 h2]
  refine Con.o func192 ntmps192 fun E=>?_;refine Wz [96,109,16,34,7] ?_;refine kc0 c1 ?_;refine Wz [6,14,19,5,8,90,10,19,8,90,11,20,8,117,45,198,89] ?_
  exact Bzh
 have f3:decide (((els x.Inputs).length:Int)=0)=false:=Gqa Aqa 
 have h3:x.Inputs.length-1<x.Inputs.length:=Aqa
 have hat:(els x.Inputs)[(((els x.Inputs).length:Int)-1).toNat]? = some (Enc.e x.Inputs[x.Inputs.length-1]):=by
  rw[hl,show ((x.Inputs.length:Int)-1).toNat=x.Inputs.length-1 by omega]
  have:=Y4 h3
  rwa[Int.toNat_natCast] at this
 have hr:=hin.2 _ (Gqe h3)
 rw[pred_2 h1 h2]
 generalize x.Inputs[x.Inputs.length-1]=v at hat hr
 refine Con.o func192 ntmps192 fun E=>?_;refine Wz [96,109,16,34,7] ?_;refine kc0 c1 ?_;refine Wz [6,14,19,5,8,90,10,19,8,90,11,20,8,90,149,133,65,29,100,219,36] ?_
 exact Bzh
theorem I_RowAtA (l:List TTrack) (t:Nat) (g:Enc.gd l) (ho:tracksOk l=true):Co 165 [] [al l,ai t] [.row 1 (els (rowP l t))] (.tu [.c (Aqk 0),.c (bv (decide ((t:Int)<((knownTicks l:Nat):Int))))]):=by
 have hl:=Y7 l
 have c1:=I_TracksOk l g
 rw[ho] at c1
 rw[←kall_end ho]
 have h4:=Ue ho
 have f1:decide ((t:Int)<0)=false:=Gqa Aqa 
 have hrl:=rowP_len (l:=l) (t:=t)
 refine Con.o func165 ntmps165 fun E=>?_;refine Wz [3,26,40] ?_;refine kc0 c1 ?_;refine Wz [6,14,19,5,97,25] ?_;refine M1 (q_makec 1 J J J J Aqa Aqa Aqa Aqa  J Aqd) J J ?_;refine Wz [8,95,25,138,34] ?_;refine A_lt l.length (fun k => [(1,I t),(6,Aqg 0),(7,B (kall l t k)),(20,L l),(21,I (els l).length),(22,I k)]) (fun k => [.row 1 (els ((rowP l t).take k))]) (Yj [0] Aqb) ?_
 intro m_A k hk_A
 have hl2:(els ((rowP l t).take k)).length=k:=Bq4
 by_cases h3:k<l.length
 ·have f2:decide ((k:Int)<((els l).length:Int))=true:=Gqb Aqa 
  have hat:=Y4 h3
  have hm:=Gqe h3
  have hli:=Y7 l[k].Inputs
  have c2:=I_PredA l[k] t (g.2 _ hm) (all_at ho h3)
  have hk1:=kall_next (t:=t) h3
  by_cases htk:t<l[k].Inputs.length
  ·have f3:decide (((els l[k].Inputs).length:Int)≤(t:Int))=false:=Gqa Aqa 
   have hkn:kall l t k=kall l t (k+1):=by rw[hk1,Gqb htk,Bool.and_true]
   refine Wz [3,19,1,4,117,9,3,78,91,11,85,0] ?_;refine kc0 c2 ?_;refine Wz [116,183,44,105,169,151,104] ?_
   exact Bjr
  ·have f3:decide (((els l[k].Inputs).length:Int)≤(t:Int))=true:=Gqb Aqa 
   have hkn:false=kall l t (k+1):=by rw[hk1,Gqa htk,Gxk]
   refine Wz [3,19,1,4,117,9,3,78,91,11,85,0] ?_;refine kc0 c2 ?_;refine Wz [116,183,44,105,169,32,94,26,53,104] ?_
   exact Bjr
 have f2:decide ((k:Int)<((els l).length:Int))=false:=Gqa Aqa 
 have hke:k=l.length:=Aqa
 subst hke
 have hk:(rowP l t).take l.length=rowP l t:=Gqj Aqa 
 rw[hk]
 refine Wz [3,19,1,4,90,30,10,26,36] ?_
 exact Xq J J J (Yh [0] Aqc J J J)
theorem S_RowAtA (l:List TTrack) (t:Nat) (g:Enc.gd l) (ho:tracksOk l=true):Co 141 [] [al l,ai t] [.row 1 (els (rowP l t))] (.tu [.c (Aqk 0),.c (bv (decide ((t:Int)<((knownTicks l:Nat):Int))))]):=by
 have hl:=Y7 l
 have c1:=S_TracksOk l g
 have c3:=Yd l g
 rw[ho] at c1
 have h4:=Ue ho
 have f1:decide ((t:Int)<0)=false:=Gqa Aqa 
 have hrl:=rowP_len (l:=l) (t:=t)
 refine Con.o func141 ntmps141 fun E=>?_;refine Wz [3,26,8,3,184,40] ?_;refine kc0 c1 ?_;refine Wz [6,14,19,5,135,51] ?_;refine A_lt l.length (fun k => [(0,L l),(1,I t),(6,Aqg 0),(7,I k)]) (fun k => [.row 1 (els ((rowP l t).take k))]) (Yj [0] Aqb) ?_
 intro m_A k hk_A
 have hl2:(els ((rowP l t).take k)).length=k:=Bq4
 by_cases h3:k<l.length
 ·have f2:decide ((k:Int)<((els l).length:Int))=true:=Gqb Aqa 
  have hat:=Y4 h3
  have hm:=Gqe h3
  have c2:=S_PredA l[k] t (g.2 _ hm) (all_at ho h3)
  refine Wz [147,77,27,141,78,0] ?_;refine kc0 c2 ?_;refine Wz [116,183,110] ?_
  exact .t (k+1) (Yk [0] Aqc J (Vy (rowP_next h3)) (.c J (.c J (.c J (.c J (.nil))))))
 have f2:decide ((k:Int)<((els l).length:Int))=false:=Gqa Aqa 
 have hk:(rowP l t).take k=rowP l t:=Gqj Aqa 
 rw[hk]
 refine Wz [147,92,30,50] ?_;refine kc0 c3 ?_;refine Wz [160,26,36] ?_
 exact Xq J J J (Yh [0] Aqc J J J)
end
section
open Go.RowKit

def zPr:TPeer:=⟨0,0,0,0,[],zeroWorld,zeroWorld,[],[],[],⟨0,0,0⟩,0,0⟩
theorem getD_is {α:Type} {xs:List α} {i:Nat} {y d:α} (h:xs[i]? = some y):xs.getD i d=y:=by rw[Gqf,h]; rfl
structure PairAt (x:TMatch) (i j:Nat) (p:TPeer) (u:List TWire) (v:TWire) (pc:List TPace) (q:TPace) (ac:List Int) (a:Nat):Prop where
 hp:x.Peers[i]? = some p
 hu:x.Wires[i]? = some u
 hv:u[j]? = some v
 hpc:x.Paces[i]? = some pc
 hq:pc[j]? = some q
 hac:x.Acks[i]? = some ac
 ha:ac[j]? = some (a:Int)
 ok:peerOk p=true
 me:p.Me=i
 ml:i<p.Tracks.length
 al:a≤(p.Tracks[i]'ml).Inputs.length
 il:(p.Tracks[i]'ml).Inputs.length≤400
 wo:wireOk v=true
 qo:paceOk q=true
 ul:u.length=x.Peers.length
section
variable {x:TMatch} {i j:Nat} {p:TPeer} {u:List TWire} {v:TWire} {pc:List TPace} {q:TPace} {ac:List Int} {a:Nat} (h:PairAt x i j p u v pc q ac a)
include h
end
end
section
open Tryz
open Go.RowKit

def guessB (q:TPace) (n:Int):Bool:=paceOk q&&(!decide (q.Newest=0)&&inR n q.At 1000000)
def guessT (q:TPace) (n:Int):Int:=if guessB q n=true then q.Their+n-q.At+q.Trip/2 else 0
def advOf (q:TPace) (t n:Int):Int:=if (guessB q n&&inR t 0 400)=true then t-guessT q n else 0
def waitB (l:List TPace) (t n:Int):Bool := !l.all fun q=>decide (advOf q t n<2)
theorem guess_in {q:TPace} {n:Int} (h:guessB q n=true):((0≤q.Their∧q.Their≤1000001)∧0≤q.Trip∧q.Trip≤1000001)∧(0≤q.At∧q.At≤n∧n≤1000000)∧paceOk q=true∧q.Newest≠0:=by
 simp only[guessB,Gqh,Gq6,decide_eq_false_iff_not,Zm] at h
 have h1:=h.1
 simp only[paceOk,Gqh,Zm] at h1
 exact⟨⟨h1.1.1.1.2,h1.1.2⟩,⟨h1.1.1.2.1,h.2.2⟩,h.1,h.2.1⟩
theorem guess_no {q:TPace} {n:Int} (h:¬guessB q n=true):guessT q n=0:=if_neg h
theorem guess_yes {q:TPace} {n:Int} (h:guessB q n=true):guessT q n=q.Their+n-q.At+q.Trip/2:=if_pos h
theorem adv_no {q:TPace} {t n:Int} (h:¬(guessB q n&&inR t 0 400)=true):advOf q t n=0:=if_neg h
theorem adv_yes {q:TPace} {t n:Int} (h:guessB q n=true) (h2:inR t 0 400=true):advOf q t n=t-guessT q n:=if_pos (by rw[h,h2]; rfl)
theorem guess_rng (q:TPace) (n:Int):0≤guessT q n∧guessT q n≤3000003:=by
 rw[guessT]
 split
 ·rename_i h
  have:=guess_in h
  omega
 ·omega
theorem I_GuessTick (q:TPace) (n:Int):Co 209 [] [ag q,ai n] [] (I (guessT q n)):=by
 have c2:=I_PaceOk q
 have c3:=Xy n q.At 1000000
 refine Con.o func209 ntmps209 fun E=>?_;refine Wz [43,16,7] ?_;refine kc0 c2 ?_;refine Wz [6,60,283,54,103,195,217] ?_;refine zx (Qt.grdF J J J (.hit (.hit (.hit .stop))) (fun hgrd=>Vh J J J J)) J ?_;refine Wz [54,103,239,75] ?_
 refine Xb J (fun h=>?_) (fun h=>?_)
 ·rw[guess_no fun hb=>by
   obtain⟨_,⟨_,h4,h5⟩,h2,h3⟩:=guess_in hb
   simp only[h2,h3,Gqa (show ¬n<q.At by omega),Gqa (show ¬1000000<n by omega),Zm.2 ⟨h4,h5⟩,decide_false] at h
   cases h]
  refine Wz [69] ?_
  exact Bzh
 ·have hb:guessB q n=true:=by
   simp only[Gqm,Gq0,decide_eq_false_iff_not] at h
   rw[guessB]
   simp only[Gqh,Gq6,decide_eq_false_iff_not,Zm] at h ⊢
   refine⟨by simp only[h],Aqa,Aqa⟩
  have:=guess_in hb
  rw[guess_yes hb]
  refine Wz [42,65,13,31,29,31,205,49,73] ?_
  exact Bzh
theorem S_GuessTick (q:TPace) (n:Int):Co 188 [] [ag q,ai n] [] (I (guessT q n)):=by
 have c2:=S_PaceOk q
 have c3:=Yg n q.At 1000000
 refine Con.o func188 ntmps188 fun E=>?_;refine Wz [43,16,7] ?_;refine kc0 c2 ?_;refine Wz [6,60,283,54,103,195,217] ?_;refine zx (Qt.grdF J J J (.hit (.hit (.hit .stop))) (fun hgrd=>Qj J J (c3) J)) J ?_;refine Wz [262,75] ?_
 refine Xb J (fun h=>?_) (fun h=>?_)
 ·rw[guess_no fun hb=>by
   obtain⟨_,⟨_,h4,h5⟩,h2,h3⟩:=guess_in hb
   simp only[h2,h3,Gqa (show ¬n<q.At by omega),Gqa (show ¬1000000<n by omega),Zm.2 ⟨h4,h5⟩,decide_false] at h
   cases h]
  refine Wz [69] ?_
  exact Bzh
 ·have hb:guessB q n=true:=by
   simp only[Gqm,Gq0,decide_eq_false_iff_not] at h
   rw[guessB]
   simp only[Gqh,Gq6,decide_eq_false_iff_not,Zm] at h ⊢
   refine⟨by simp only[h],Aqa,Aqa⟩
  have:=guess_in hb
  rw[guess_yes hb]
  refine Wz [42,65,13,31,29,31,205,49,73] ?_
  exact Bzh
theorem I_AdvantageOf (q:TPace) (t n:Int):Co 161 [] [ag q,ai t,ai n] [] (I (advOf q t n)):=by
 have c2:=I_PaceOk q
 have c3:=Xy n q.At 1000000
 have c4:=Xy t 0 400
 have c5:=I_GuessTick q n
 have hr:=guess_rng q n
 refine Con.o func161 ntmps161 fun E=>?_;refine Wz [43,16,7] ?_;refine kc0 c2 ?_;refine Wz [6,60,283,54,103,195,217] ?_;refine zx (Qt.grdF J J J (.hit (.hit (.hit .stop))) (fun hgrd=>Vh J J J J)) J ?_;refine Wz [54,103,239,54,103] ?_;refine zx (Qt.grdF J J J (.hit .stop) (fun hgrd=>Qj J J (c4) J)) J ?_;refine Wz [207,75] ?_
 refine Xb J (fun h=>?_) (fun h=>?_)
 ·rw[adv_no fun hb=>by
   rw[Gqh] at hb
   obtain⟨hb,h6⟩:=hb
   obtain⟨_,⟨_,h4,h5⟩,h2,h3⟩:=guess_in hb
   simp only[h2,h3,h6,Gqa (show ¬n<q.At by omega),Gqa (show ¬1000000<n by omega),Zm.2 ⟨h4,h5⟩,decide_false] at h
   cases h]
  refine Wz [69] ?_
  exact Bzh
 ·have hb:guessB q n=true∧inR t 0 400=true:=by
   simp only[Gqm,Gq0,decide_eq_false_iff_not] at h
   rw[guessB]
   simp only[Gqh,Gq6,decide_eq_false_iff_not,Zm] at h ⊢
   refine⟨⟨by simp only[h],Aqa,Aqa⟩,Aqa⟩
  have ht:=Zm.1 hb.2
  rw[adv_yes hb.1 hb.2]
  refine Wz [42,11,85,0] ?_;refine kc0 c5 ?_;refine Wz [29,36] ?_
  exact Bzh
theorem S_AdvantageOf (q:TPace) (t n:Int):Co 137 [] [ag q,ai t,ai n] [] (I (advOf q t n)):=by
 have c2:=S_PaceOk q
 have c3:=Yg n q.At 1000000
 have c4:=Yg t 0 400
 have c5:=S_GuessTick q n
 have hr:=guess_rng q n
 refine Con.o func137 ntmps137 fun E=>?_;refine Wz [43,16,7] ?_;refine kc0 c2 ?_;refine Wz [6,60,283,54,103,195,217] ?_;refine zx (Qt.grdF J J J (.hit (.hit (.hit .stop))) (fun hgrd=>Qj J J (c3) J)) J ?_;refine Wz [262,54,103] ?_;refine zx (Qt.grdF J J J (.hit .stop) (fun hgrd=>Qj J J (c4) J)) J ?_;refine Wz [207,75] ?_
 refine Xb J (fun h=>?_) (fun h=>?_)
 ·rw[adv_no fun hb=>by
   rw[Gqh] at hb
   obtain⟨hb,h6⟩:=hb
   obtain⟨_,⟨_,h4,h5⟩,h2,h3⟩:=guess_in hb
   simp only[h2,h3,h6,Gqa (show ¬n<q.At by omega),Gqa (show ¬1000000<n by omega),Zm.2 ⟨h4,h5⟩,decide_false] at h
   cases h]
  refine Wz [69] ?_
  exact Bzh
 ·have hb:guessB q n=true∧inR t 0 400=true:=by
   simp only[Gqm,Gq0,decide_eq_false_iff_not] at h
   rw[guessB]
   simp only[Gqh,Gq6,decide_eq_false_iff_not,Zm] at h ⊢
   refine⟨⟨by simp only[h],Aqa,Aqa⟩,Aqa⟩
  have ht:=Zm.1 hb.2
  rw[adv_yes hb.1 hb.2]
  refine Wz [42,11,85,0] ?_;refine kc0 c5 ?_;refine Wz [29,36] ?_
  exact Bzh
theorem I_ShouldWait (xs:List TPace) (t n:Int) (g:Enc.gd xs):Co 99 [] [al xs,ai t,ai n] [] (B (waitB xs t n)):=by
 have hl:=Y7 xs
 have hg1:=g.1
 refine Con.o func99 ntmps99 fun E=>?_;refine Wz [95,25,138,34] ?_;refine A_lp xs.length (fun k=>(xs.take k).all (fun q=>decide (advOf q t n<2))=true) (fun k => [(1,I t),(2,I n),(9,L xs),(10,I (els xs).length),(11,I k)]) (fun k => []) Aqd (Yj [] Aqb) ?_
 intro m_A k hk_A hp_A
 refine Wz [3,58,4] ?_
 refine Xb J (fun h=>?_) (fun h=>?_)
 ·have h3:k<xs.length:=Bqx
  have hat:=Y4 h3
  have hc:=I_AdvantageOf xs[k] t n
  refine Wz [9,3,78,91,7,141] ?_;refine kc0 hc ?_;refine Wz [224,1] ?_
  refine Xb J (fun h5=>?_) (fun h5=>?_)
  ·have h6:=Gqc h5
   rw[show waitB xs t n=true by rw[waitB,Yp h3 (Gqa Aqa)]; rfl]
   refine Wz [45,57] ?_
   exact Bzh
  ·have h6:=Gqd h5
   refine Wz [149,104] ?_
   exact .n (k+1) (Yo hp_A h3 (Gqb Aqa)) (Yj [] Aqb)
 ·have h3:¬((k:Int)<(els xs).length):=Gqd h
  rw[show waitB xs t n=false by rw[waitB,Yn hp_A Aqa]; rfl]
  refine Wz [30,101] ?_
  exact Bzh
theorem S_ShouldWait (xs:List TPace) (t n:Int) (g:Enc.gd xs):Co 76 [] [al xs,ai t,ai n] [] (B (waitB xs t n)):=by
 have hl:=Y7 xs
 have hg1:=g.1
 refine Con.o func76 ntmps76 fun E=>?_;refine Wz [23,107] ?_;refine A_lp xs.length (fun k=>(xs.take k).all (fun q=>decide (advOf q t n<2))=true) (fun k => [(0,L xs),(1,I t),(2,I n),(7,I k)]) (fun k => []) Aqd (Yj [] Aqb) ?_
 intro m_A k hk_A hp_A
 refine Wz [114] ?_
 refine Xb J (fun h=>?_) (fun h=>?_)
 ·have h3:k<xs.length:=Bqx
  have hat:=Y4 h3
  have hc:=S_AdvantageOf xs[k] t n
  refine Wz [9,10,78,141] ?_;refine kc0 hc ?_;refine Wz [224,1] ?_
  refine Xb J (fun h5=>?_) (fun h5=>?_)
  ·have h6:=Gqc h5
   rw[show waitB xs t n=true by rw[waitB,Yp h3 (Gqa Aqa)]; rfl]
   refine Wz [45,57] ?_
   exact Bzh
  ·have h6:=Gqd h5
   refine Wz [149,226] ?_
   exact .n (k+1) (Yo hp_A h3 (Gqb Aqa)) (Yj [] Aqb)
 ·have h3:¬((k:Int)<(els xs).length):=Gqd h
  rw[show waitB xs t n=false by rw[waitB,Yn hp_A Aqa]; rfl]
  refine Wz [30,101] ?_
  exact Bzh
end
section
open Go.RowKit
end
section
open Go.RowKit

structure MarkIn (x:TPeer):Prop where
 tr:x.Tracks.length≤1048576∧tot (x.Tracks.map (·.Inputs))≤1048576
 bw:x.Base.Level.Rows.length≤1048576∧x.Base.Scores.length≤1048576∧x.Base.Bodies.length≤1048576
 nw:x.Now.Level.Rows.length≤1048576∧x.Now.Scores.length≤1048576∧x.Now.Bodies.length≤1048576
 us:x.Used.length≤1048576∧tot x.Used≤1048576
 sv:x.Saves.length≤1048576
 sm:x.Sums.length≤1048576
end
section
open Go.RowKit

theorem wt_World (w:TWorld):Enc.wt w=(w.Level.Rows.length+wts w.Level.Rows)+(w.Scores.length+wts w.Scores)+(w.Bodies.length+wts w.Bodies):=rfl
theorem wt_Peer (x:TPeer):Enc.wt x=(x.Tracks.length+wts x.Tracks)+Enc.wt x.Base+Enc.wt x.Now+(x.Used.length+wts x.Used)+(x.Saves.length+wts x.Saves)+(x.Sums.length+wts x.Sums)+Enc.wt x.Fault:=rfl
end
section
open Tryz
open Go.RowKit

theorem split_len (l:List UInt8):(l.takeWhile zeroB).length+((l.dropWhile zeroB).takeWhile someB).length+((l.dropWhile zeroB).dropWhile someB).length=l.length:=by
 have h1:=congrArg List.length (List.takeWhile_append_dropWhile (p:=zeroB) (l:=l))
 have h2:=congrArg List.length (List.takeWhile_append_dropWhile (p:=someB) (l:=l.dropWhile zeroB))
 rw[Gql] at h1 h2
 omega
theorem packZ_len:∀ (n:Nat) (l:List UInt8),l.length≤n→(packZ l).length≤13*l.length
 |0,l,h=>by
  have:l = []:=List.eq_nil_of_length_eq_zero Aqa 
  subst this
  rw[packZ_nil]
  simp
 |n+1,[],h=>by rw[packZ_nil]; simp
 |n+1,x::r,h=>by
  have h1:=packZ_ne x r
  have h2:=split_len (x::r)
  have h3:=Ze (((x::r).takeWhile zeroB).length:Nat)
  have h4:=Ze ((((x::r).dropWhile zeroB).takeWhile someB).length:Nat)
  have h5:=packZ_len n (((x::r).dropWhile zeroB).dropWhile someB) Aqa 
  rw[packZ]
  simp only[Gql]
  omega
def deltaT (a b:ByteArray):ByteArray:=bs (encVar b.size)++bs (packZ (xorText a b).data.toList)
theorem deltaT_size (a b:ByteArray):(deltaT a b).size≤6+13*b.size:=by
 have h1:=Ze (b.size:Int)
 have h2:=packZ_len _ (xorText a b).data.toList (Gqi _)
 have h3:(xorText a b).data.toList.length=b.size:=by
  have:=xorL_len a b
  have h4:b.data.toList.length=b.size:=Aqd
  show ((xorL a b).toArray).toList.length=b.size
  simp
  omega
 rw[deltaT,ByteArray.size_append]
 show ((encVar b.size).toArray).size+((packZ (xorText a b).data.toList).toArray).size≤_
 simp
 omega
theorem I_DeltaText (a b:ByteArray) (ha:a.size≤1048576) (hb:b.size≤1048576):Co 166 [] [astr a,astr b] [] (S (deltaT a b)):=by
 have va_:=@Xu; have vb_:=@I_XorText; have vc_:=@I_PackZeros; have vd_:=@func166; have ve_:=@ntmps166; exact Bqr
theorem S_DeltaText (a b:ByteArray) (ha:a.size≤1048576) (hb:b.size≤1048576):Co 142 [] [astr a,astr b] [] (S (deltaT a b)):=by
 have va_:=@Yc; have vb_:=@S_XorText; have vc_:=@S_PackZeros; have vd_:=@func142; have ve_:=@ntmps142; exact Bqr
end
section
open Go.RowKit

structure PeerD (x:TPeer):Prop where
 inn:PeerIn x
 dl:∀ s∈x.Saves,s.Delta.size≤1048576
theorem peer_d {x:TPeer} (g:Enc.gd x) (h:Enc.wt x≤1048576):PeerD x:=by
 refine⟨peer_in2 g h,fun s hs=>?_⟩
 have h1:=Um x.Saves s hs
 have h2:Enc.wt s=s.Delta.size:=rfl
 rw[wt_Peer] at h
 omega
def delts (x:TPeer):List ByteArray:=x.Saves.map (·.Delta)
noncomputable def saveW (x:TPeer) (k:Nat):Option TWorld:=match keyText (worldBytes x.Base) (delts x) (k+1) with
 |none=>none
 |some s=>match readWorld x.Base.Level s with
  |none=>none
  |some w=>if w.Tick=x.Base.Tick+k∧w.Scores.length=x.Tracks.length then some w else none
noncomputable def saveAt (x:TPeer) (t:Int):Option TWorld:=if peerOk x=true∧x.Base.Tick≤t∧t<x.Base.Tick+x.Saves.length then saveW x (t-x.Base.Tick).toNat else none
section
variable {x:TPeer} {n:Nat} {s:ByteArray} {w:TWorld}
theorem V4 {t:Int} (h:¬(peerOk x=true∧x.Base.Tick≤t∧t<x.Base.Tick+x.Saves.length)):saveAt x t=none:=if_neg h
theorem saveAt_yes {t:Int} (h:peerOk x=true∧x.Base.Tick≤t∧t<x.Base.Tick+x.Saves.length):saveAt x t=saveW x (t-x.Base.Tick).toNat:=if_pos h
theorem saveW_none1 (h:keyText (worldBytes x.Base) (delts x) (n+1)=none):saveW x n=none:=by rw[saveW,h]
variable (h:keyText (worldBytes x.Base) (delts x) (n+1)=some s)
include h
theorem saveW_none2 (h2:readWorld x.Base.Level s=none):saveW x n=none:=by rw[saveW,h]; simp only[h2]
theorem saveW_no (h2:readWorld x.Base.Level s=some w) (hn:¬(w.Tick=x.Base.Tick+n∧w.Scores.length=x.Tracks.length)):saveW x n=none:=by rw[saveW,h]; simp only[h2]; rw[if_neg hn]
theorem saveW_yes (h2:readWorld x.Base.Level s=some w) (hn:w.Tick=x.Base.Tick+n∧w.Scores.length=x.Tracks.length):saveW x n=some w:=by rw[saveW,h]; simp only[h2]; rw[if_pos hn]
end
structure Goes (x:TPeer) (w:TWorld):Prop where
 wi:WorIn w
 ok:worldOk w=true
 lv:w.Level=x.Base.Level
 sn:w.Scores.length=x.Tracks.length
theorem save_goes {x:TPeer} (hx:PeerIn x) {t:Int} {w:TWorld} (h:saveAt x t=some w):Goes x w∧w.Tick=t:=by
 by_cases hc:peerOk x=true∧x.Base.Tick≤t∧t<x.Base.Tick+x.Saves.length
 ·rw[saveAt_yes hc] at h
  cases hk:keyText (worldBytes x.Base) (delts x) ((t-x.Base.Tick).toNat+1) with
  |none=>rw[saveW_none1 hk] at h; cases h
  | some s =>
   have hs:=keyText_len (Yz _) hk
   cases hr:readWorld x.Base.Level s with
   |none=>rw[saveW_none2 hk hr] at h; cases h
   | some v =>
    by_cases hn:v.Tick=x.Base.Tick+((t-x.Base.Tick).toNat:Nat)∧v.Scores.length=x.Tracks.length
    ·rw[saveW_yes hk hr hn] at h
     cases h
     have h1:=read_in (s:=s) hx.gd.2.2.2.2.2.1.1 hx.bw.1 Aqa 
     rw[hr] at h1
     have h2:worldOk w=true∧w.Level=x.Base.Level:=by
      cases hu:unpackInts s 0 with
      |none=>rw[Vu hu] at hr; cases hr
      |some q =>
       obtain⟨l,pos⟩:=q
       by_cases hp:pos=s.size∧formOk l∧worldOk (worldOf x.Base.Level l)=true
       ·rw[Vv hu hp] at hr; cases hr; exact⟨hp.2.2,rfl⟩
       ·rw[Vt hu hp] at hr; cases hr
     exact⟨⟨h1,h2.1,h2.2,hn.2⟩,by rw[hn.1]; omega⟩
    ·rw[saveW_no hk hr hn] at h; cases h
 ·rw[V4 hc] at h; cases h
/-! ### Playing -/
noncomputable def pressB (x:TPeer) (n:Int):Bool:=peerOk x&&(inR n 0 15&&(decide ((lenAt x.Tracks x.Me.toNat:Int)=x.Now.Tick+x.Delay)&&decide (lenAt x.Tracks x.Me.toNat<400)))
noncomputable def pressV (x:TPeer) (n:Int):TPeer:=if pressB x n=true then { x with Tracks:=x.Tracks.set x.Me.toNat ⟨(x.Tracks.getD x.Me.toNat ⟨[]⟩).Inputs ++ [n]⟩ } else x
noncomputable def canAdv (x:TPeer):Bool:=peerOk x&&(decide ((x.Used.length:Int)<x.Ahead)&&decide (x.Now.Tick<(lenAt x.Tracks x.Me.toNat:Int)))
noncomputable def lastW (x:TPeer):Option TWorld:=match x.Saves.getLast? with
 |none=>some x.Base
 |some s=>saveAt x s.Tick
noncomputable def advB (x:TPeer):Bool:=canAdv x&&(lastW x).isSome
noncomputable def advF (x:TPeer) (w:TWorld):TPeer:={ x with Saves:=x.Saves ++ [⟨x.Now.Tick,deltaT (worldBytes w) (worldBytes x.Now)⟩],Used:=x.Used ++ [rowP x.Tracks x.Now.Tick.toNat],Now:=stepF x.Now (rowP x.Tracks x.Now.Tick.toNat) x.Fault }
noncomputable def advV (x:TPeer):TPeer:=if advB x=true then advF x (rwW (lastW x)) else x
theorem me_at {x:TPeer} (ok:peerOk x=true):∃ m:Nat,x.Me=m∧m<x.Tracks.length:=by
 have ⟨_,_,⟨⟨h1,h2⟩,_⟩,_⟩:=Kf ok
 grind
theorem now_fit {x:TPeer} (hx:PeerIn x) (ok:peerOk x=true):Fit x.Tracks.length x.Now.Level x.Now:=by
 have ⟨⟨_,_,h3,_⟩,⟨_,h5,_⟩,_⟩:=Kf ok
 exact⟨⟨hx.gd.2.2.2.2.2.2.1,hx.nw.1,hx.nw.2.1,hx.nw.2.2⟩,h3,h5,J⟩
theorem base_goes {x:TPeer} (hx:PeerIn x) (ok:peerOk x=true):Goes x x.Base:=by
 have ⟨⟨_,h2,_,_⟩,⟨h4,_,_⟩,_⟩:=Kf ok
 exact⟨⟨hx.gd.2.2.2.2.2.1,hx.bw.1,hx.bw.2.1,hx.bw.2.2⟩,h2,J,h4⟩
theorem now_goes {x:TPeer} (hx:PeerIn x) (ok:peerOk x=true):Goes x x.Now:=by
 have ⟨⟨_,_,h3,h3'⟩,⟨_,h5,_⟩,_⟩:=Kf ok
 exact⟨⟨hx.gd.2.2.2.2.2.2.1,hx.nw.1,hx.nw.2.1,hx.nw.2.2⟩,h3,h3'.symm,h5⟩
theorem last_goes {x:TPeer} (hx:PeerIn x) (ok:peerOk x=true) {w:TWorld} (h:lastW x=some w):Goes x w:=by
 unfold lastW at h
 split at h
 ·cases h; exact base_goes hx ok
 ·exact (save_goes hx h).1
structure Small (x:TPeer):Prop where
 tr:x.Tracks.length≤4∧∀ t∈x.Tracks,t.Inputs.length≤400
 us:x.Used.length≤8
 sv:x.Saves.length≤8
 bt:0≤x.Base.Tick∧x.Base.Tick≤400
 nt:0≤x.Now.Tick∧x.Now.Tick≤408
 sm:x.Sums.length≤401
theorem known400 {l:List TTrack} (h:tracksOk l=true):knownTicks l≤400:=by
 have hts:=Ue h
 refine Nat.le_of_not_lt fun hc=>?_
 have h1:=known_all (l:=l) (k:=400) hc _ (Gqe (show 0<l.length by omega))
 have h2:=(track_in (all_at h (show 0<l.length by omega))).1
 omega
theorem Ke {x:TPeer} (ok:peerOk x=true):Small x:=by
 have ⟨⟨o1,o2,_⟩,_,⟨_,_,a1,a2⟩,_,⟨⟨l1,l2⟩,u,s⟩,_,q1,_,q3⟩:=Kf ok
 have hk:=known400 o1
 have hb:=Zm.1 (Uj o2).2.1
 refine⟨⟨(Ue o1).2,fun t ht=>?_⟩,Aqa,Aqa,Aqa,Aqa,Aqa⟩
 obtain⟨k,hk,rfl⟩:=List.getElem_of_mem ht
 exact (track_in (all_at o1 hk)).1
theorem delta_ok (a b:TWorld):(deltaT (worldBytes a) (worldBytes b)).size≤1048576:=by
 have h1:=deltaT_size (worldBytes a) (worldBytes b)
 have h2:=Yz b
 omega
theorem press_d {x:TPeer} {n:Int} (hx:PeerD x):PeerD (pressV x n):=by
 rw[pressV]
 split
 ·rename_i hb
  simp only[pressB,Gqh,decide_eq_true_eq,Zm] at hb
  obtain⟨ok,hn,_,h4⟩:=hb
  obtain⟨m,hm,hml⟩:=me_at ok
  have hs:=Ke ok
  have hmt:x.Me.toNat=m:=Aqa
  rw[hmt] at h4 ⊢
  rw[Zn hml] at h4
  have hgd:x.Tracks.getD m ⟨[]⟩=x.Tracks[m]:=by rw[Gqf,Gqg hml]; rfl
  rw[hgd]
  obtain⟨a1,a2,a3,a4,a5,a6⟩:=hx.inn.gd
  have hmem:∀ t∈x.Tracks.set m ⟨x.Tracks[m].Inputs ++ [n]⟩,Enc.gd t∧t.Inputs.length≤400:=fun t ht=>by
   rcases Gxv ht with h | h
   ·exact⟨a5.2 t h,hs.tr.2 t h⟩
   ·rw[h]
    exact⟨gd_snc (a5.2 _ (Gqe hml)) ⟨Aqa,Aqa⟩ Aqa,by simp; omega⟩
  exact⟨⟨⟨a1,a2,a3,a4,⟨by rw[Gqu]; exact a5.1,fun t ht=>(hmem t ht).1⟩,a6⟩,⟨by rw[Gqu]; exact hx.inn.tr.1,fun t ht=>Gxo (hmem t ht).2 Aqc⟩,hx.inn.bw,hx.inn.nw,hx.inn.us,hx.inn.sv,hx.inn.sm⟩,hx.dl⟩
 ·exact hx
theorem adv_d {x:TPeer} (hx:PeerD x):PeerD (advV x):=by
 rw[advV]
 split
 ·rename_i hb
  simp only[advB,canAdv,Gqh,decide_eq_true_eq] at hb
  obtain⟨⟨ok,_⟩,hl⟩:=hb
  have hs:=Ke ok
  have o1:=(Kf ok).1.1
  have hf:=(now_fit hx.inn ok).stepF (rowP x.Tracks x.Now.Tick.toNat) x.Fault
  obtain⟨a1,a2,a3,a4,a5,a6,a7,a8,a9,a10,a11⟩:=hx.inn.gd
  have hd:=delta_ok (rwW (lastW x)) x.Now
  refine⟨⟨⟨a1,a2,a3,a4,a5,a6,hf.wi.gd,gd_snc a8 (rowP_gd o1) (by have:=hs.us; omega),gd_snc a9 ⟨a7.2.1,by show (deltaT (worldBytes (rwW (lastW x))) (worldBytes x.Now)).size≤9223372036854775807; omega⟩ (by have:=hs.sv; omega),a10,a11⟩,hx.inn.tr,hx.inn.bw,⟨hf.wi.h1,hf.wi.h2,hf.wi.h3⟩,⟨?_,fun r hr=>?_⟩,?_,hx.inn.sm⟩,fun s hm=>?_⟩
  ·show (x.Used ++ [_]).length≤_; have:=hs.us; simp; omega
  ·rcases Gqs.1 hr with h | h
   ·exact hx.inn.us.2 r h
   ·rw[Gxd.1 h,rowP_len]; exact hx.inn.tr.1
  ·show (x.Saves ++ [_]).length≤_; have:=hs.sv; simp; omega
  ·rcases Gqs.1 hm with h | h
   ·exact hx.dl s h
   ·grind
 ·exact hx
/-! ### What was wrong, and confirming -/
def fwGo (l:List TTrack):Nat→List (List Int)→Int
 |_,[] => -1
 |b,u::r=>if rowP l b=u then fwGo l (b+1) r else b
theorem fwGo_next {l:List TTrack} {us:List (List Int)} {b k:Nat} (h:k<us.length) (he:rowP l (b+k)=us[k]):fwGo l (b+k) (us.drop k)=fwGo l (b+(k+1)) (us.drop (k+1)):=by
 rw[Gxr h,fwGo,if_pos he]; rfl
theorem fwGo_stop {l:List TTrack} {us:List (List Int)} {b k:Nat} (h:k<us.length) (he:¬rowP l (b+k)=us[k]):fwGo l (b+k) (us.drop k)=((b+k:Nat):Int):=by
 rw[Gxr h,fwGo,if_neg he]
theorem fwGo_end {l:List TTrack} {us:List (List Int)} {b k:Nat} (h:us.length≤k):fwGo l (b+k) (us.drop k) = -1:=by
 rw[List.drop_of_length_le h,fwGo]
noncomputable def firstWrong (x:TPeer):Int:=if peerOk x=true then fwGo x.Tracks x.Base.Tick.toNat x.Used else -1
noncomputable def nextC (x:TPeer):Option TWorld:=if x.Base.Tick+1=x.Now.Tick then some x.Now else saveAt x (x.Base.Tick+1)
noncomputable def fixD (w:TWorld):List TSave→List TSave
 | [] => []
 |s::r=>⟨s.Tick,deltaT (worldBytes w) (worldBytes w)⟩::r
noncomputable def conS (x:TPeer) (w:TWorld):TPeer:={ x with Base:=w,Sums:=x.Sums ++ [wsum w],Used:=x.Used.drop 1,Saves:=fixD w (x.Saves.drop 1) }
def ConC (x:TPeer):Prop:=x.Base.Tick<x.Now.Tick∧x.Base.Tick<(knownTicks x.Tracks:Int)
noncomputable def conW (x:TPeer):Option TWorld:=@ite _ (ConC x∧firstWrong x≠x.Base.Tick) (Classical.propDecidable _) (nextC x) none
noncomputable def conN:Nat→TPeer→TPeer
 |0,x=>x
 |n+1,x=>match conW x with
  |none=>x
  |some w=>conN n (conS x w)
noncomputable def confP (x:TPeer):TPeer:=if peerOk x=true then conN (x.Now.Tick-x.Base.Tick).toNat x else x
theorem conW_no {x:TPeer} (h:¬(ConC x∧firstWrong x≠x.Base.Tick)):conW x=none:=@if_neg _ (Classical.propDecidable _) h _ _ _
theorem conW_yes {x:TPeer} (h:ConC x) (h2:firstWrong x≠x.Base.Tick):conW x=nextC x:=@if_pos _ (Classical.propDecidable _) ⟨h,h2⟩ _ _ _
theorem conN_stop {x:TPeer} (h:conW x=none):∀ n,conN n x=x
 |0=>rfl
 |n+1=>by rw[conN,h]
theorem conN_next {x:TPeer} {w:TWorld} (h:conW x=some w) (n:Nat):conN (n+1) x=conN n (conS x w):=by rw[conN,h]
theorem next_goes {x:TPeer} (hx:PeerIn x) (ok:peerOk x=true) {w:TWorld} (h:nextC x=some w):Goes x w∧w.Tick=x.Base.Tick+1:=by
 unfold nextC at h
 split at h
 ·rename_i e; cases h; exact⟨now_goes hx ok,e.symm⟩
 ·exact save_goes hx h
theorem fixD_len {w:TWorld} {l:List TSave}:(fixD w l).length=l.length:=by cases l <;> rfl
theorem fixD_tick {w:TWorld} {l:List TSave} {k:Nat} (h:k<(fixD w l).length):(fixD w l)[k].Tick=(l[k]'(by rw[fixD_len] at h; exact h)).Tick:=by
 cases l with
 |nil=>cases h
 |cons s r=>cases k <;> rfl
theorem fixD_mem {w:TWorld} {l:List TSave} {s:TSave} (h:s∈fixD w l):s∈l∨(s.Delta=deltaT (worldBytes w) (worldBytes w)∧∃ y∈l,s.Tick=y.Tick):=by
 cases l with
 |nil=>cases h
 |cons y r =>
  rcases List.mem_cons.1 h with h | h
  ·grind
  ·exact .inl (Gxc _ h)
theorem con_ok {x:TPeer} (hx:PeerD x) (ok:peerOk x=true) (hc:ConC x) {w:TWorld} (hw:nextC x=some w):peerOk (conS x w)=true∧PeerD (conS x w):=by
 obtain⟨⟨wi,wo,wl,wn⟩,wt⟩:=next_goes hx.inn ok hw
 have hs:=Ke ok
 obtain⟨⟨o1,o2,o3,o4⟩,⟨o5,o6,o7⟩,⟨m,d,a⟩,p4,⟨⟨l1,l2⟩,u,s⟩,⟨ru,st⟩,q1,q2,q3⟩:=Kf ok
 obtain⟨c1,c2⟩:=hc
 have hul:(x.Used.drop 1).length=x.Used.length-1:=Aqd
 have hsl:(fixD w (x.Saves.drop 1)).length=x.Saves.length-1:=by rw[fixD_len]; simp
 have hu1:1≤x.Used.length:=Aqa
 have hsm:(x.Sums ++ [wsum w]).length=x.Sums.length+1:=Aqd
 refine⟨peer_T ⟨⟨o1,wo,o3,wl.trans o4⟩,⟨wn,o6,o7⟩,⟨m,d,a⟩,p4,⟨⟨by show 0≤x.Now.Tick-w.Tick; omega,by show x.Now.Tick-w.Tick≤x.Ahead; omega⟩,by show ((x.Used.drop 1).length:Int)=x.Now.Tick-w.Tick; omega,by show ((fixD w (x.Saves.drop 1)).length:Int)=x.Now.Tick-w.Tick; omega⟩,⟨?_,fun k hk=>?_⟩,by show w.Tick≤(knownTicks x.Tracks:Int); omega,q2,by show ((x.Sums ++ [wsum w]).length:Int)=w.Tick+1; omega⟩,?_⟩
 ·exact Gqp.2 fun r hr=>Gqp.1 ru r (Gxj hr)
 ·have hk':k<(fixD w (x.Saves.drop 1)).length:=hk
  show (fixD w (x.Saves.drop 1))[k].Tick=w.Tick+k
  rw[fixD_tick hk',List.getElem_drop,st (1+k) Aqa,wt]
  omega
 ·obtain⟨a1,a2,a3,a4,a5,a6,a7,a8,a9,a10,a11⟩:=hx.inn.gd
  have hsum:=checksum_lt (worldBytes w)
  have hmem:∀ s∈fixD w (x.Saves.drop 1),Enc.gd s∧s.Delta.size≤1048576:=fun s hm=>by
   rcases fixD_mem hm with h | ⟨h1,y,h2,h3⟩
   ·have:=Gxj h
    exact⟨a9.2 s this,hx.dl s this⟩
   ·have hd:=delta_ok w w
    have hg:=a9.2 y (Gxj h2)
    exact⟨⟨by rw[h3]; exact hg.1,by rw[h1]; show _≤9223372036854775807; omega⟩,by rw[h1]; exact hd⟩
  refine⟨⟨⟨a1,a2,a3,a4,a5,wi.gd,a7,⟨by show (x.Used.drop 1).length≤_; have:=a8.1; omega,fun r hr=>a8.2 r (Gxj hr)⟩,⟨by show (fixD w (x.Saves.drop 1)).length≤_; have:=hs.sv; omega,fun s hm=>(hmem s hm).1⟩,gd_snc a10 ⟨by show _≤wsum w; unfold wsum; omega,by unfold wsum; omega⟩ hx.inn.sm,a11⟩,hx.inn.tr,⟨wi.h1,wi.h2,wi.h3⟩,hx.inn.nw,⟨?_,fun r hr=>hx.inn.us.2 r (Gxj hr)⟩,?_,?_⟩,fun s hm=>(hmem s hm).2⟩
  ·show (x.Used.drop 1).length≤_; have:=hs.us; omega
  ·show (fixD w (x.Saves.drop 1)).length≤_; have:=hs.sv; omega
  ·show (x.Sums ++ [wsum w]).length≤_; have:=hs.sm; omega
theorem con_len {x:TPeer} {w:TWorld} (hx:PeerIn x) (ok:peerOk x=true) (hc:ConC x) (hw:nextC x=some w):(x.Now.Tick-x.Base.Tick).toNat=((conS x w).Now.Tick-(conS x w).Base.Tick).toNat+1:=by
 have h1:=(next_goes hx ok hw).2
 obtain⟨c1,_⟩:=hc
 show _=(x.Now.Tick-w.Tick).toNat+1
 omega
end
end Go.Proofs.YtalaljeokcpfnaaGreat
