/-
  Rules, data and contracts of functions: part 20 of the proof.
  Conditions: those that each theorem names.
-/
import Derived.Test.YtalaljeokcpfnaaGreatDDPlayRowk18
set_option linter.unusedSimpArgs false
set_option linter.unusedVariables false
set_option maxRecDepth 8000
set_option maxHeartbeats 8000000
namespace Go.Proofs.YtalaljeokcpfnaaGreat
section
open Tryz
open Go.RowKit

theorem S_inputsOk (xs:List Int) (hn:Enc.gd xs):Co 130 [] [al xs] [] (B (inOk xs)):=by
 have hn1:=hn.1
 have hlx:=Y7 xs
 refine Con.o func130 ntmps130 fun E=>?_;refine Wz [23,107] ?_;refine A_lp xs.length (fun k=>(xs.take k).all (fun n=>inR n 0 15)=true) (fun k => [(0,L xs),(3,I k)]) (fun k => []) Aqd (Yj [] Aqb) ?_
 intro m_A k hk_A hp_A
 refine Wz [114] ?_
 refine Xb J (fun h=>?_) (fun h=>?_)
 ·have h3:k<xs.length:=Bqx
  have hat:=Y4 h3
  refine Wz [9,10,100] ?_;refine kc0 (Yg xs[k] 0 15) ?_;refine Wz [6,1] ?_
  refine Xb J (fun h4=>?_) (fun h4=>?_)
  ·refine Wz [45,215] ?_
   refine Wz [89] ?_
   exact E_w [] J (Xk (Yp h3 Bxn).symm)
  ·refine Wz [149,194,13] ?_
   refine Wz [8] ?_
   exact Bjd
 ·have h3:¬((k:Int)<(els xs).length):=Gqd h
  refine Wz [30,101] ?_
  exact E_w [] J (Xk (Yn hp_A Aqa).symm)
end
section
open Tryz
open Go.RowKit

theorem slEqS (xs ys:List ByteArray) (hn:Enc.gd xs):Co 207 [] [al xs,al ys] [] (B (decide (xs=ys))):=by
 have va_:=@func207; have vb_:=@ntmps207; have vc_:=fun{R G:Prop}=>@Wz R G [35,64,35,64,230,12,151,104]; have vd_:=fun{R G:Prop}=>@Wz R G [35,64,35,64,230,12,32,45,57]; exact Bqi
theorem slEqI (xs ys:List Int) (hn:Enc.gd xs):Co 219 [] [al xs,al ys] [] (B (decide (xs=ys))):=by
 have va_:=@func219; have vb_:=@ntmps219; have vc_:=fun{R G:Prop}=>@Wz R G [35,64,35,64,176,12,151,104]; have vd_:=fun{R G:Prop}=>@Wz R G [35,64,35,64,176,12,32,45,57]; exact Bqi
theorem S_ints (xs ys:List Int) (hn:Enc.gd xs):Co 197 [] [al xs,al ys] [] (B (decide (xs=ys))):=by
 have va_:=@func197; have vb_:=@ntmps197; have vc_:=fun{R G:Prop}=>@Wz R G [9,4,259,35,64,35,64,176,12,81]; have vd_:=fun{R G:Prop}=>@Wz R G [9,4,259,35,64,35,64,176,12,32,45,57]; exact Bqc
theorem I_sameLevel (x y:TLevel) (hg:Enc.gd x):Co 157 [] [ag x,ag y] [] (B (decide (x=y))):=by
 have h:decide (x.Rows=y.Rows)=decide (x=y):=by cases x; cases y; simp
 refine Con.o func157 ntmps157 fun E=>?_;refine Wz [43,131,8,173] ?_;refine kc0 (slEqS x.Rows y.Rows hg) ?_;refine Wz [36] ?_
 exact E_w [] J (Xk h)
end
section
open Tryz
open Go.RowKit

theorem S_sameLevel (x y:TLevel) (hg:Enc.gd x):Co 72 [] [ag x,ag y] [] (B (decide (x=y))):=by
 have he:decide (x.Rows=y.Rows)=decide (x=y):=by cases x; cases y; simp
 rw[←he]
 clear he
 obtain⟨xs⟩:=x
 obtain⟨ys⟩:=y
 have hn:Enc.gd xs:=hg
 have hn1:=hn.1
 show Con _ _ _ _ _ (B (decide (xs=ys)))
 have hlx:=Y7 xs
 have hly:=Y7 ys
 by_cases hl:xs.length=ys.length
 ·have hb:decide (((els xs).length:Int)≠((els ys).length:Int))=false:=by rw[hlx,hly,hl]; simp
  refine Con.o func72 ntmps72 fun E=>?_;refine Wz [43,131,16,109,105,22,135,51] ?_;refine A_lp xs.length (fun k=>xs.take k=ys.take k) (fun k => [(2,Aqf 0),(3,Aqf 1),(5,I k)]) (fun k => [.box [.rd [] (sl xs)],.box [.rd [] (sl ys)]]) Aqd (Yj [0,1] Aqb) ?_
  intro m_A k hk_A hp_A
  refine Wz [41,105,58] ?_
  refine Xb J (fun h=>?_) (fun h=>?_)
  ·have h3:k<xs.length:=Bqx
   have h4:k<ys.length:=Aqa
   have hat:=Y4 h3
   have hat2:=Y4 h4
   by_cases he:xs[k]=ys[k]
   ·have hk:decide (xs[k]≠ys[k])=false:=by simp[he]
    refine Wz [9,4] ?_;refine Xi u8_14 u8_15 u8_16 J ?_;refine Wz [67,64,67,64,230,12,81] ?_
    exact .n (k+1) (eq_next h3 h4 hp_A he) (Yj [0,1] Aqb)
   ·have hk:decide (xs[k]≠ys[k])=true:=by simp[he]
    refine Wz [9,4] ?_;refine Xi u8_14 u8_15 u8_16 J ?_;refine Wz [67,64,67,64,230,12,32,45,57] ?_
    exact Bz5
  ·have h3:¬((k:Int)<(els xs).length):=Gqd h
   refine Wz [30,101] ?_
   exact Bz6
 ·have hb:decide (((els xs).length:Int)≠((els ys).length:Int))=true:=Bxz
  refine Con.o func72 ntmps72 fun E=>?_;refine Wz [43,131,16,109,105,22,115] ?_
  exact E_w [] J (Xk (eq_len hl).symm)
end
section
open Tryz
open Go.RowKit

theorem I_TrackOk (t:TTrack) (g:Enc.gd t):Co 231 [] [ag t] [] (B (trackOk t)):=by
 have va_:=@func231; have vb_:=@ntmps231; have vc_:=@I_inputsOk; exact Bqj
theorem S_TrackOk (t:TTrack) (g:Enc.gd t):Co 185 [] [ag t] [] (B (trackOk t)):=by
 have va_:=@func185; have vb_:=@ntmps185; have vc_:=@S_inputsOk; exact Bqj
theorem I_TracksOk (xs:List TTrack) (g:Enc.gd xs):Co 204 [] [al xs] [] (B (tracksOk xs)):=by
 have hl:=Y7 xs
 refine Con.o func204 ntmps204 fun E=>?_;refine Wz [95,25,160,103] ?_;refine zx (Qt.grdF J J J (.hit .stop) (fun hgrd=>Vb J J J)) J ?_;refine zx (Qt.grdF J J J (.hit (.hit .stop)) (fun hgrd=>Kz J J J J)) J ?_;refine Wz [75] ?_
 refine Xb J (fun h=>?_) (fun h=>?_)
 ·simp only[Gqq,decide_eq_true_eq] at h
  rw[tracks_no Aqa]
  refine Wz [69] ?_
  exact Bzh
 simp only[Gqm,decide_eq_false_iff_not] at h
 refine Wz [42,41,25,138,34] ?_;refine A_lp xs.length (fun k=>(xs.take k).all trackOk=true) (fun k => [(13,L xs),(14,I (els xs).length),(15,I k)]) (fun k => []) Aqd (Yj [] Aqb) ?_
 intro m_A k hk_A hp_A
 refine Wz [3,58,4] ?_
 refine Xb J (fun h=>?_) (fun h=>?_)
 ·have h3:k<xs.length:=Bqx
  have hat:=Y4 h3
  have hc:=I_TrackOk xs[k] (g.2 _ (Gqe h3))
  cases ho:trackOk xs[k] with
  |false =>
   rw[ho] at hc
   rw[tracks_bad (Yp h3 ho)]
   refine Wz [9,3,78,91,7] ?_;refine kc0 hc ?_;refine Wz [6,32,45,57] ?_
   exact Bzh
  |true =>
   rw[ho] at hc
   refine Wz [9,3,78,91,7] ?_;refine kc0 hc ?_;refine Wz [6,151,104] ?_
   exact .n (k+1) (Yo hp_A h3 ho) (Yj [] Aqb)
 ·have h3:¬((k:Int)<(els xs).length):=Gqd h
  rw[tracks_yes Aqa Aqa  (Yn hp_A Aqa)]
  refine Wz [30,101] ?_
  exact Bzh
theorem S_TracksOk (xs:List TTrack) (g:Enc.gd xs):Co 131 [] [al xs] [] (B (tracksOk xs)):=by
 have hl:=Y7 xs
 have hg1:=g.1
 refine Con.o func131 ntmps131 fun E=>?_;refine Wz [23,107] ?_;refine A_lp xs.length (fun k=>(xs.take k).all trackOk=true) (fun k => [(0,L xs),(3,I k)]) (fun k => []) Aqd (Yj [] Aqb) ?_
 intro m_A k hk_A hp_A
 refine Wz [114] ?_
 refine Xb J (fun h=>?_) (fun h=>?_)
 ·have h3:k<xs.length:=Bqx
  have hat:=Y4 h3
  have hc:=S_TrackOk xs[k] (g.2 _ (Gqe h3))
  cases ho:trackOk xs[k] with
  |false =>
   rw[ho] at hc
   rw[tracks_bad (Yp h3 ho)]
   refine Wz [9,10,78] ?_;refine kc0 hc ?_;refine Wz [6,32,45,57] ?_
   exact Bzh
  |true =>
   rw[ho] at hc
   refine Wz [9,10,78] ?_;refine kc0 hc ?_;refine Wz [6,81] ?_
   exact .n (k+1) (Yo hp_A h3 ho) (Yj [] Aqb)
 ·have h3:¬((k:Int)<(els xs).length):=Gqd h
  have hall:=Yn hp_A Aqa 
  refine Wz [223,25] ?_;refine kc0 (Yg (els xs).length 1 4) ?_;refine Wz [36] ?_
  exact E_w [] J (Xk (by
   rw[hl]
   by_cases h4:1≤xs.length∧xs.length≤4
   ·rw[tracks_yes h4.1 h4.2 hall,Zm.2 Aqa]
   ·rw[tracks_no Aqa,←Gxu,Zm]; omega))
theorem least_next {l:List TTrack} {k:Nat} (h:k<l.length):((leastK l (k+1):Nat):Int)=min ((leastK l k:Nat):Int) ((els l[k].Inputs).length:Int):=by
 rw[leastK,Zn h,Y7]
 omega
theorem I_KnownTicks (xs:List TTrack) (g:Enc.gd xs):Co 169 [] [al xs] [] (I (knownTicks xs:Nat)):=by
 have hl:=Y7 xs
 have hc:=I_TracksOk xs g
 cases ho:tracksOk xs with
 |false =>
  rw[ho] at hc
  rw[show knownTicks xs=0 from if_neg (by rw[ho]; decide)]
  refine Con.o func169 ntmps169 fun E=>?_;refine Wz [95] ?_;refine kc0 hc ?_;refine Wz [6,115] ?_
  exact Bzh
 | true =>
  rw[ho] at hc
  rw[show knownTicks xs=leastK xs xs.length from if_pos ho]
  obtain⟨h1,h4⟩:=Ue ho
  have h0:0<xs.length:=Aqa
  have hat0:(els xs)[(0:Int).toNat]? = some (Enc.e xs[0]):=Y4 h0
  refine Con.o func169 ntmps169 fun E=>?_;refine Wz [95] ?_;refine kc0 hc ?_;refine Wz [6,97,63,209,25,40,25,138,34] ?_;refine A_lt xs.length (fun k => [(3,I (leastK xs k:Nat)),(14,L xs),(15,I (els xs).length),(16,I k)]) (fun k => []) (Yk [] Aqc J Aqb (.cons (X0 (by rw[least_0,Zn h0,Y7])) (.c J (.c J (.c J (.nil)))))) ?_
  intro m_A k hk_A
  refine Wz [3,58,4] ?_
  refine Xb J (fun h=>?_) (fun h=>?_)
  ·have h3:k<xs.length:=Bqx
   have hat:=Y4 h3
   refine Wz [9,3,78,91,27,105,261,26,53,104] ?_
   exact .t (k+1) (Yk [] Aqc J Aqb (.cons (X0 (least_next h3).symm) (.c J (.c J (.c J (.nil))))))
  ·have h3:¬((k:Int)<(els xs).length):=Gqd h
   have hk:k=xs.length:=Aqa
   rw[hk]
   refine Wz [74] ?_
   exact Bzh
theorem Yd (xs:List TTrack) (g:Enc.gd xs):Co 134 [] [al xs] [] (I (knownTicks xs:Nat)):=by
 have hl:=Y7 xs
 have hc:=S_TracksOk xs g
 cases ho:tracksOk xs with
 |false =>
  rw[ho] at hc
  rw[show knownTicks xs=0 from if_neg (by rw[ho]; decide)]
  refine Con.o func134 ntmps134 fun E=>?_;refine Wz [95] ?_;refine kc0 hc ?_;refine Wz [6,115] ?_
  exact Bzh
 | true =>
  rw[ho] at hc
  rw[show knownTicks xs=leastK xs xs.length from if_pos ho]
  obtain⟨h1,h4⟩:=Ue ho
  have h0:0<xs.length:=Aqa
  have hat0:(els xs)[(0:Int).toNat]? = some (Enc.e xs[0]):=Y4 h0
  refine Con.o func134 ntmps134 fun E=>?_;refine Wz [95] ?_;refine kc0 hc ?_;refine Wz [6,97,63,209,25,16,51] ?_;refine Xj (fun m__ st=>∃ (k:Nat),xs.length-k=m__∧(1≤k∧k≤xs.length)∧st=(⟨_,[(0,L xs),(3,I (leastK xs k:Nat)),(4,I k)],[]⟩:St)) _ ⟨(fun (k:Nat)=>(⟨_,[(0,L xs),(3,I (leastK xs k:Nat)),(4,I k)],[]⟩:St)) (1),⟨1,J,⟨Aqa,Aqa⟩,J⟩,Yk [] Aqc J Aqb (.c J (.cons (X0 (by rw[least_1,Zn h0,Y7])) (.c J (.nil))))⟩ ?_
  rintro m_A _ ⟨k,hk_A,hp_A,rfl⟩
  refine Wz [114] ?_
  refine Xb J (fun h=>?_) (fun h=>?_)
  ·have h3:k<xs.length:=Bqx
   have hat:=Y4 h3
   refine Wz [9,27,141,63,209,25,261,110] ?_
   refine⟨_, Aqa,(fun (k:Nat)=>(⟨_,[(0,L xs),(3,I (leastK xs k:Nat)),(4,I k)],[]⟩:St)) (k+1),⟨k+1,J,⟨Aqa,Aqa⟩,J⟩,Yk [] Aqc J Aqb (.c J (.cons (X0 (least_next h3).symm) (.c J (.nil))))⟩
  ·have h3:¬((k:Int)<(els xs).length):=Gqd h
   have hk:k=xs.length:=Aqa
   rw[hk]
   refine Wz [74] ?_
   exact Bzh
theorem I_FaultOk (f:TFault) (n:Int) (hn:0≤n):Co 205 [] [ag f,ai n] [] (B (faultOk f n)):=by
 refine Con.o func205 ntmps205 fun E=>?_;refine Wz [96,18] ?_;refine kc0 (Xy f.Tick 0 400) ?_;refine Wz [125] ?_;refine zx (Qt.grdT J J J (.hit (.hit .stop)) (fun hgrd=>Kx J J J J)) J ?_;refine Wz [66,125] ?_;refine zx (Qt.grdT J J J (.hit (.hit .stop)) (fun hgrd=>Qa J J J)) J ?_;refine zx (Qt.grdT J J J (.hit (.hit (.hit .stop))) (fun hgrd=>Vh J J J J)) J ?_;refine Wz [66,125] ?_;refine zx (Qt.grdT J J J (.hit (.hit .stop)) (fun hgrd=>Qj J J (Xy f.Add 0 9) J)) J ?_;refine Wz [66,36] ?_
 exact Bzh
theorem S_FaultOk (f:TFault) (n:Int) (hn:0≤n) (hn2:n≤9223372036854775807):Co 132 [] [ag f,ai n] [] (B (faultOk f n)):=by
 refine Con.o func132 ntmps132 fun E=>?_;refine Wz [43,44,222,125] ?_;refine zx (Qt.grdT J J J (.hit (.hit .stop)) (fun hgrd=>Qj J J (Yg f.Tick 0 400) J)) J ?_;refine Wz [66,125] ?_;refine zx (Qt.grdT J J J (.hit (.hit .stop)) (fun hgrd=>Qa J J J)) J ?_;refine zx (Qt.grdT J J J (.hit (.hit (.hit .stop))) (fun hgrd=>Xc J J J J Aqa)) J ?_;refine zx (Qt.grdT J J J (.hit (.hit (.hit (.hit .stop)))) (fun hgrd=>Qj J J (Yg f.Player 0 (n-1)) J)) J ?_;refine Wz [66,125] ?_;refine zx (Qt.grdT J J J (.hit (.hit .stop)) (fun hgrd=>Qj J J (Yg f.Add 0 9) J)) J ?_;refine Wz [66,36] ?_
 exact E_w [] J (Xk (fault_S f n))
end
section
open Tryz
open Go.RowKit

theorem at_nat {α:Type} [Enc α] {xs:List α} {i:Int} (h:i.toNat<xs.length):(els xs)[i.toNat]? = some (Enc.e (xs[i.toNat]'h)):=by simp[els,h]
theorem world_ticks {w:TWorld} (h:worldOk w=true):0≤w.Tick∧w.Tick≤100000:=by
 have h2:=(Uj h).2.1
 rwa[Zm] at h2
section
variable {p:TPeer}
theorem no1 (h:(((!tracksOk p.Tracks || !worldOk p.Base) || !worldOk p.Now) || !decide (p.Base.Level=p.Now.Level))=true):¬PeerP p:=fun ⟨⟨q1,q2,q3,q4⟩,_⟩=>by
 rw[q1,q2,q3,Gqb q4] at h; exact absurd h Aqc 
theorem no2 (h:((decide ((p.Base.Scores.length:Int)≠p.Tracks.length) || decide ((p.Now.Scores.length:Int)≠p.Tracks.length)) || !faultOk p.Fault p.Tracks.length)=true):¬PeerP p:=fun ⟨_,⟨q1,q2,q3⟩,_⟩=>by
 rw[q3,Gqa Aqa,Gqa Aqa] at h; exact absurd h Aqc 
theorem no3 (h:((!inR p.Me 0 ((p.Tracks.length:Int)-1) || !inR p.Delay 0 5) || !inR p.Ahead 1 8)=true):¬PeerP p:=fun ⟨_,_,⟨q1,q2,q3⟩,_⟩=>by
 rw[Zm.2 q1,Zm.2 q2,Zm.2 q3] at h; exact absurd h Aqc 
theorem no4 (h:((!inR p.Seed 0 65535 || !inR p.Rolls 0 1000000) || !inR p.Again 0 1000000)=true):¬PeerP p:=fun ⟨_,_,_,⟨q1,q2,q3⟩,_⟩=>by
 rw[Zm.2 q1,Zm.2 q2,Zm.2 q3] at h; exact absurd h Aqc 
theorem no5 (h:((!inR (p.Now.Tick-p.Base.Tick) 0 p.Ahead || decide ((p.Used.length:Int)≠p.Now.Tick-p.Base.Tick)) || decide ((p.Saves.length:Int)≠p.Now.Tick-p.Base.Tick))=true):¬PeerP p:=fun ⟨_,_,_,_,⟨q1,q2,q3⟩,_⟩=>by
 rw[Zm.2 q1,Gqa Aqa,Gqa Aqa] at h; exact absurd h Aqc 
theorem fin_eq (h1:tracksOk p.Tracks=true∧worldOk p.Base=true∧worldOk p.Now=true∧p.Base.Level=p.Now.Level)
  (h2:p.Base.Scores.length=p.Tracks.length∧p.Now.Scores.length=p.Tracks.length∧faultOk p.Fault p.Tracks.length=true)
  (h3:(0≤p.Me∧p.Me≤(p.Tracks.length:Int)-1)∧(0≤p.Delay∧p.Delay≤5)∧(1≤p.Ahead∧p.Ahead≤8))
  (h4:(0≤p.Seed∧p.Seed≤65535)∧(0≤p.Rolls∧p.Rolls≤1000000)∧(0≤p.Again∧p.Again≤1000000))
  (h5:(0≤p.Now.Tick-p.Base.Tick∧p.Now.Tick-p.Base.Tick≤p.Ahead)∧(p.Used.length:Int)=p.Now.Tick-p.Base.Tick∧(p.Saves.length:Int)=p.Now.Tick-p.Base.Tick)
  (h6:(p.Used.all fun row=>rowOk row p.Tracks.length)=true∧∀ k (h:k<p.Saves.length),p.Saves[k].Tick=p.Base.Tick+k) :
  ((decide (p.Base.Tick≤(knownTicks p.Tracks:Nat))&&decide (p.Now.Tick≤(lenAt p.Tracks p.Me.toNat:Nat)))&&decide ((p.Sums.length:Int)=p.Base.Tick+1))=peerOk p:=by
 by_cases h7:p.Base.Tick≤knownTicks p.Tracks∧p.Now.Tick≤lenAt p.Tracks p.Me.toNat∧(p.Sums.length:Int)=p.Base.Tick+1
 ·rw[peer_T ⟨h1,h2,h3,h4,h5,h6,h7⟩,Gqb h7.1,Gqb h7.2.1,Gqb h7.2.2]; rfl
 ·rw[peer_F fun ⟨_,_,_,_,_,_,h8⟩=>h7 h8]
  rw[←Gxu]
  simp only[Gqh,decide_eq_true_eq]
  exact fun ⟨⟨a,b⟩,c⟩=>h7 ⟨a,b,c⟩
end
theorem I_PeerOk (x:TPeer) (hg:Enc.gd x):Co 156 [] [ag x] [] (B (peerOk x)):=by
 obtain⟨gMe,gDe,gAh,gSe,gTr,gBa,gNo,gUs,gSa,gSu,gFa,gRo,gAg⟩:=hg
 have hlt:=Y7 x.Tracks
 have hlu:=Y7 x.Used
 have hls:=Y7 x.Saves
 have hlm:=Y7 x.Sums
 have hlb:=Y7 x.Base.Scores
 have hln:=Y7 x.Now.Scores
 have c1:=I_TracksOk x.Tracks gTr
 have c2:=Xx x.Base gBa
 have c3:=Xx x.Now gNo
 have c4:=I_sameLevel x.Base.Level x.Now.Level gBa.1
 have c5:=I_FaultOk x.Fault (els x.Tracks).length Aqa 
 have c6:=I_KnownTicks x.Tracks gTr
 refine Con.o func156 ntmps156 fun E=>?_;refine Wz [96,109,16,18] ?_;refine kc0 c1 ?_;refine Wz [6,211,255] ?_;refine zx (Qt.grdF J J J (.hit (.hit .stop)) (fun hgrd=>Qj J J (c2) J)) J ?_;refine Wz [140,54,211,255] ?_;refine zx (Qt.grdF J J J (.hit (.hit .stop)) (fun hgrd=>Qj J J (c3) J)) J ?_;refine Wz [140,54,211,195] ?_;refine zx (Qt.grdF J J J (.hit (.hit .stop)) (fun hgrd=>Qu J J J J J J)) J ?_;refine zx (Qt.grdF J J J (.hit (.hit (.hit .stop))) (fun hgrd=>Qf J J J J Aqc)) J ?_;refine zx (Qt.grdF J J J (.hit (.hit (.hit (.hit .stop)))) (fun hgrd=>Qf J J J J Aqc)) J ?_;refine zx (Qt.grdF J J J (.hit (.hit (.hit (.hit (.hit .stop))))) (fun hgrd=>Qu J J J J J J)) J ?_;refine zx (Qt.grdF J J J (.hit (.hit (.hit (.hit (.hit (.hit .stop)))))) (fun hgrd=>Qj J J (c4) J)) J ?_;refine zx (Qt.grdF J J J (.hit (.hit (.hit (.hit (.hit (.hit (.hit .stop))))))) (fun hgrd=>Q4 J J J)) J ?_;refine Wz [75] ?_
 refine Xb J (fun h1=>?_) (fun h1=>?_)
 ·rw[peer_F (no1 h1)]
  refine Wz [69] ?_
  exact Bzh
 simp only[Gqm,Gq0,decide_eq_true_eq] at h1
 obtain⟨⟨⟨q1,q2⟩,q3⟩,q4⟩:=h1
 have tB:=world_ticks q2
 have tN:=world_ticks q3
 have tL:=Ue q1
 refine AWP.kp [1,1,3,0] [] 1 [(0,.box (Aqi x))] ?_;refine Wz [108,3,79,105,0,150,211,195,217,241] ?_;refine zx (Qt.grdF J J J (.hit (.hit (.hit (.hit .stop)))) (fun hgrd=>Qa J J J)) J ?_;refine zx (Qt.grdF J J J (.hit (.hit (.hit (.hit (.hit .stop))))) (fun hgrd=>Vk J J J J)) J ?_;refine Wz [54,211,255,208] ?_;refine zx (Qt.grdF J J J (.hit (.hit (.hit .stop))) (fun hgrd=>Qj J J (c5) J)) J ?_;refine Wz [262,75] ?_
 refine Xb J (fun h2=>?_) (fun h2=>?_)
 ·rw[hlt,hlb,hln] at h2
  rw[peer_F (no2 h2)]
  refine Wz [69] ?_
  exact Bzh
 rw[hlt,hlb,hln] at h2
 simp only[Gqm,Gq0,decide_eq_false_iff_not,Classical.not_not] at h2
 obtain⟨⟨q5,q6⟩,q7⟩:=h2
 refine AWP.kp [1,1,3,0] [] 1 [(0,.box (Aqi x))] ?_;refine Wz [108,65,29] ?_;refine kc0 (Xy x.Me 0 (((els x.Tracks).length:Int)-1)) ?_;refine Wz [6,60] ?_;refine zx (Qt.grdF J J J (.hit (.hit .stop)) (fun hgrd=>Qj J J (Xy x.Delay 0 5) J)) J ?_;refine Wz [140,54,60] ?_;refine zx (Qt.grdF J J J (.hit (.hit .stop)) (fun hgrd=>Qj J J (Xy x.Ahead 1 8) J)) J ?_;refine Wz [140,75] ?_
 refine Xb J (fun h3=>?_) (fun h3=>?_)
 ·rw[hlt] at h3
  rw[peer_F (no3 h3)]
  refine Wz [69] ?_
  exact Bzh
 rw[hlt] at h3
 simp only[Gqm,Gq0,Zm] at h3
 obtain⟨⟨q8,q9⟩,q10⟩:=h3
 refine AWP.kp [1,1,3,0] [] 1 [(0,.box (Aqi x))] ?_;refine Wz [108,18] ?_;refine kc0 (Xy x.Seed 0 65535) ?_;refine Wz [6,60] ?_;refine zx (Qt.grdF J J J (.hit (.hit .stop)) (fun hgrd=>Qj J J (Xy x.Rolls 0 1000000) J)) J ?_;refine Wz [140,54,60] ?_;refine zx (Qt.grdF J J J (.hit (.hit .stop)) (fun hgrd=>Qj J J (Xy x.Again 0 1000000) J)) J ?_;refine Wz [140,75] ?_
 refine Xb J (fun h4=>?_) (fun h4=>?_)
 ·rw[peer_F (no4 h4)]
  refine Wz [69] ?_
  exact Bzh
 simp only[Gqm,Gq0,Zm] at h4
 obtain⟨⟨q11,q12⟩,q13⟩:=h4
 refine AWP.kp [1,1,3,0] [] 1 [(0,.box (Aqi x))] ?_;refine Wz [42,3,79,31,79,31,29,40,31] ?_;refine kc0 (Xy (x.Now.Tick-x.Base.Tick) 0 x.Ahead) ?_;refine Wz [6,60,179,218,202,54,60,179,218,202,75] ?_
 refine Xb J (fun h5=>?_) (fun h5=>?_)
 ·rw[hlu,hls] at h5
  rw[peer_F (no5 h5)]
  refine Wz [69] ?_
  exact Bzh
 rw[hlu,hls] at h5
 simp only[Gqm,Gq0,decide_eq_false_iff_not,Classical.not_not,Zm] at h5
 obtain⟨⟨q14,q15⟩,q16⟩:=h5
 refine AWP.kp [1,1,3,0] [] 1 [(0,.box (Aqi x))] ?_;refine Wz [108,109,138,34] ?_;refine A_lp x.Used.length (fun k=>(x.Used.take k).all (fun row=>rowOk row x.Tracks.length)=true) (fun k => [(1,Aqf 0),(3,I (els x.Tracks).length),(120,L x.Used),(121,I (els x.Used).length),(122,I k)]) (fun k => [.box (Aqi x)]) Aqd (Yj [0] Aqb) ?_
 intro m_A k hk_A hp_A
 refine Wz [3,58,4] ?_
 refine Xb J (fun h=>?_) (fun h=>?_)
 ·have h3:k<x.Used.length:=Bqx
  have hat:=Y4 h3
  have hc:=I_rowOk x.Used[k] (els x.Tracks).length (gUs.2 _ (Gqe h3))
  rw[hlt] at hc
  cases ho:rowOk x.Used[k] x.Tracks.length with
  |false =>
   rw[ho,←hlt] at hc
   rw[peer_F (fun hp=>by have:=hp.2.2.2.2.2.1.1; rw[Yp h3 ho] at this; cases this)]
   refine Wz [9,3,100,8,10] ?_;refine kc0 hc ?_;refine Wz [6,32,45,57] ?_
   exact Bzh
  |true =>
   rw[ho,←hlt] at hc
   refine Wz [9,3,100,8,10] ?_;refine kc0 hc ?_;refine Wz [6,151,104] ?_
   exact .n (k+1) (Yo hp_A h3 ho) (Yj [0] Aqb)
 have h3:¬((k:Int)<(els x.Used).length):=Gqd h
 have hall:=Yn hp_A Aqa 
 refine Wz [30,4,109,138,34] ?_;refine A_lp x.Saves.length (fun j=>∀ i (h:i<x.Saves.length),i<j→x.Saves[i].Tick=x.Base.Tick+i) (fun j => [(1,Aqf 0),(3,I (els x.Tracks).length),(132,L x.Saves),(133,I (els x.Saves).length),(134,I j)]) (fun j => [.box (Aqi x)]) (fun i _ hi=>absurd hi (Nat.not_lt_zero _)) (Yj [0] Aqb) ?_
 intro m_D j hk_D hp_D
 refine Wz [3,58,4] ?_
 refine Xb J (fun h=>?_) (fun h=>?_)
 ·have h4:j<x.Saves.length:=Bqx
  have hat:=Y4 h4
  by_cases ho:x.Saves[j].Tick=x.Base.Tick+j
  ·have hb:decide (x.Saves[j].Tick≠x.Base.Tick+j)=false:=Gqa (fun h=>h ho)
   refine Wz [9,11,78,82,26,39,18,79,68,13,22,151,104] ?_
   exact .n (j+1) (fun i hi hij=>by by_cases e:i=j; subst e; exact ho; exact hp_D i hi Aqa) (Yj [0] Aqb)
  ·have hb:decide (x.Saves[j].Tick≠x.Base.Tick+j)=true:=Gqb ho
   rw[peer_F (fun hp=>ho (hp.2.2.2.2.2.1.2 j h4))]
   refine Wz [9,11,78,82,26,39,18,79,68,13,22,32,45,57] ?_
   exact Bzh
 have h4:¬((j:Int)<(els x.Saves).length):=Gqd h
 have hme:x.Me.toNat<x.Tracks.length:=Aqa
 have hat:=at_nat (xs:=x.Tracks) hme
 have hti:=Y7 x.Tracks[x.Me.toNat].Inputs
 have hla:=Zn hme
 rw[←fin_eq ⟨q1,q2,q3,q4⟩ ⟨Aqa,Aqa,q7⟩ ⟨q8,q9,q10⟩ ⟨q11,q12,q13⟩ ⟨q14,q15,q16⟩ ⟨hall,fun i hi=>hp_D i hi Aqa⟩,←hlm]
 by_cases k1:x.Base.Tick≤(knownTicks x.Tracks:Nat)
 ·have hb1:decide (x.Base.Tick≤((knownTicks x.Tracks:Nat):Int))=true:=Gqb k1
  by_cases k2:x.Now.Tick≤(lenAt x.Tracks x.Me.toNat:Nat)
  ·have hb2:decide (x.Now.Tick≤((els x.Tracks[x.Me.toNat].Inputs).length:Int))=true:=Gqb Aqa 
   rw[hb1,Gqb k2]
   refine Wz [30,4] ?_;refine Xi u8_17 u8_18 u8_19 J ?_;refine Wz [145,37,37] ?_;refine Uq (Qj J J (c6) J) J ?_;refine Wz [263,17,24,24,156,228,164,212,152,24] ?_;refine Uq (Qt.yes J J J (Ky J J J J Aqe)) J ?_;refine Wz [88,17,24,212,152,24,246] ?_;refine Uq (Qt.yes J J J (Kt J J J J)) J ?_;refine Wz [88,162,12,1,73] ?_
   exact Bzh
  ·have hb2:decide (x.Now.Tick≤((els x.Tracks[x.Me.toNat].Inputs).length:Int))=false:=Gqa Aqa 
   rw[hb1,Gqa k2]
   refine Wz [30,4] ?_;refine Xi u8_17 u8_18 u8_19 J ?_;refine Wz [145,37,37] ?_;refine Uq (Qj J J (c6) J) J ?_;refine Wz [263,17,24,24,156,228,164,212,152,24] ?_;refine Uq (Qt.yes J J J (Ky J J J J Aqe)) J ?_;refine Wz [88,118,127,84,162,12,1,73] ?_
   exact Bzh
 ·have hb1:decide (x.Base.Tick≤((knownTicks x.Tracks:Nat):Int))=false:=Gqa k1
  rw[hb1]
  refine Wz [30,4] ?_;refine Xi u8_17 u8_18 u8_19 J ?_;refine Wz [145,37,37] ?_;refine Uq (Qj J J (c6) J) J ?_;refine Wz [263,118,127,127,84,118,127,84,162,12,1,73] ?_
  exact Bzh
end
section
open Tryz
open Go.RowKit

section
variable {p:TPeer}
theorem noS1 (h:((((((!worldOk p.Base || !worldOk p.Now) || !decide (p.Base.Level=p.Now.Level)) || decide ((p.Base.Scores.length:Int)≠p.Tracks.length)) || decide ((p.Now.Scores.length:Int)≠p.Tracks.length)) || !tracksOk p.Tracks) || !faultOk p.Fault p.Tracks.length)=true):¬PeerP p:=fun ⟨⟨q1,q2,q3,q4⟩,⟨q5,q6,q7⟩,_⟩=>by
 rw[q1,q2,q3,Gqb q4,q7,Gqa Aqa,Gqa Aqa] at h; exact absurd h Aqc 
theorem noS2 (h:((((((((!inR p.Me 0 ((p.Tracks.length:Int)-1) || !inR p.Delay 0 5) || !inR p.Ahead 1 8) || !inR p.Seed 0 65535) || !inR p.Rolls 0 1000000) || !inR p.Again 0 1000000) || !inR (p.Now.Tick-p.Base.Tick) 0 p.Ahead) || decide ((p.Used.length:Int)≠p.Now.Tick-p.Base.Tick)) || decide ((p.Saves.length:Int)≠p.Now.Tick-p.Base.Tick))=true):¬PeerP p:=fun ⟨_,_,⟨q1,q2,q3⟩,⟨q4,q5,q6⟩,⟨q7,q8,q9⟩,_⟩=>by
 rw[Zm.2 q1,Zm.2 q2,Zm.2 q3,Zm.2 q4,Zm.2 q5,Zm.2 q6,Zm.2 q7,Gqa Aqa,Gqa Aqa] at h; exact absurd h Aqc 
end
theorem S_PeerOk (x:TPeer) (hg:Enc.gd x):Co 71 [] [ag x] [] (B (peerOk x)):=by
 obtain⟨gMe,gDe,gAh,gSe,gTr,gBa,gNo,gUs,gSa,gSu,gFa,gRo,gAg⟩:=hg
 have hlt:=Y7 x.Tracks
 have hlu:=Y7 x.Used
 have hls:=Y7 x.Saves
 have hlm:=Y7 x.Sums
 have hlb:=Y7 x.Base.Scores
 have hln:=Y7 x.Now.Scores
 have c1:=S_TracksOk x.Tracks gTr
 have c2:=S_WorldOk x.Base gBa
 have c3:=S_WorldOk x.Now gNo
 have c4:=S_sameLevel x.Base.Level x.Now.Level gBa.1
 have c5:=S_FaultOk x.Fault (els x.Tracks).length Aqa (by have:=gTr.1; omega)
 have c6:=Yd x.Tracks gTr
 refine Con.o func71 ntmps71 fun E=>?_;refine Wz [96,109,16,56] ?_;refine kc0 c2 ?_;refine Wz [6,211,255] ?_;refine zx (Qt.grdF J J J (.hit (.hit .stop)) (fun hgrd=>Qj J J (c3) J)) J ?_;refine Wz [140,54,211,195] ?_;refine zx (Qt.grdF J J J (.hit (.hit .stop)) (fun hgrd=>Qu J J J J J J)) J ?_;refine zx (Qt.grdF J J J (.hit (.hit (.hit .stop))) (fun hgrd=>Qf J J J J Aqc)) J ?_;refine zx (Qt.grdF J J J (.hit (.hit (.hit (.hit .stop)))) (fun hgrd=>Qf J J J J Aqc)) J ?_;refine zx (Qt.grdF J J J (.hit (.hit (.hit (.hit (.hit .stop))))) (fun hgrd=>Qu J J J J J J)) J ?_;refine zx (Qt.grdF J J J (.hit (.hit (.hit (.hit (.hit (.hit .stop)))))) (fun hgrd=>Qj J J (c4) J)) J ?_;refine zx (Qt.grdF J J J (.hit (.hit (.hit (.hit (.hit (.hit (.hit .stop))))))) (fun hgrd=>Q4 J J J)) J ?_;refine Wz [54,211,195,217,241] ?_;refine zx (Qt.grdF J J J (.hit (.hit (.hit (.hit .stop)))) (fun hgrd=>Qa J J J)) J ?_;refine zx (Qt.grdF J J J (.hit (.hit (.hit (.hit (.hit .stop))))) (fun hgrd=>Vk J J J J)) J ?_;refine Wz [54,211,195,217,241] ?_;refine zx (Qt.grdF J J J (.hit (.hit (.hit (.hit .stop)))) (fun hgrd=>Qa J J J)) J ?_;refine zx (Qt.grdF J J J (.hit (.hit (.hit (.hit (.hit .stop))))) (fun hgrd=>Vk J J J J)) J ?_;refine Wz [54,60] ?_;refine zx (Qt.grdF J J J (.hit (.hit .stop)) (fun hgrd=>Qj J J (c1) J)) J ?_;refine Wz [140,54,211,255,208] ?_;refine zx (Qt.grdF J J J (.hit (.hit (.hit .stop))) (fun hgrd=>Qj J J (c5) J)) J ?_;refine Wz [262,75] ?_
 refine Xb J (fun h1=>?_) (fun h1=>?_)
 ·rw[hlt,hlb,hln] at h1
  rw[peer_F (noS1 h1)]
  refine Wz [69] ?_
  exact Bzh
 rw[hlt,hlb,hln] at h1
 simp only[Gqm,Gq0,decide_eq_true_eq,decide_eq_false_iff_not,Classical.not_not] at h1
 obtain⟨⟨⟨⟨⟨⟨q2,q3⟩,q4⟩,q5⟩,q6⟩,q1⟩,q7⟩:=h1
 have tB:=world_ticks q2
 have tN:=world_ticks q3
 have tL:=Ue q1
 refine AWP.kp [1,1,3,0] [] 1 [(0,.box (Aqi x))] ?_;refine Wz [42,3,79,31,79,31,29,16,65,29] ?_;refine kc0 (Yg x.Me 0 (((els x.Tracks).length:Int)-1)) ?_;refine Wz [6,60] ?_;refine zx (Qt.grdF J J J (.hit (.hit .stop)) (fun hgrd=>Qj J J (Yg x.Delay 0 5) J)) J ?_;refine Wz [140,54,60] ?_;refine zx (Qt.grdF J J J (.hit (.hit .stop)) (fun hgrd=>Qj J J (Yg x.Ahead 1 8) J)) J ?_;refine Wz [140,54,60] ?_;refine zx (Qt.grdF J J J (.hit (.hit .stop)) (fun hgrd=>Qj J J (Yg x.Seed 0 65535) J)) J ?_;refine Wz [140,54,60] ?_;refine zx (Qt.grdF J J J (.hit (.hit .stop)) (fun hgrd=>Qj J J (Yg x.Rolls 0 1000000) J)) J ?_;refine Wz [140,54,60] ?_;refine zx (Qt.grdF J J J (.hit (.hit .stop)) (fun hgrd=>Qj J J (Yg x.Again 0 1000000) J)) J ?_;refine Wz [140,54,103,195,217] ?_;refine zx (Qt.grdF J J J (.hit (.hit (.hit .stop))) (fun hgrd=>Qj J J (Yg (x.Now.Tick-x.Base.Tick) 0 x.Ahead) J)) J ?_;refine Wz [262,54,60,179,218,202,54,60,179,218,202,75] ?_
 refine Xb J (fun h2=>?_) (fun h2=>?_)
 ·rw[hlt,hlu,hls] at h2
  rw[peer_F (noS2 h2)]
  refine Wz [69] ?_
  exact Bzh
 rw[hlt,hlu,hls] at h2
 simp only[Gqm,Gq0,decide_eq_false_iff_not,Classical.not_not,Zm] at h2
 obtain⟨⟨⟨⟨⟨⟨⟨⟨q8,q9⟩,q10⟩,q11⟩,q12⟩,q13⟩,q14⟩,q15⟩,q16⟩:=h2
 refine AWP.kp [1,1,3,0,4,0] [] 1 [(0,.box (Aqi x))] ?_;refine Wz [108,51] ?_;refine A_lp x.Used.length (fun k=>(x.Used.take k).all (fun row=>rowOk row x.Tracks.length)=true∧(∀ i (h:i<x.Saves.length),i<k→x.Saves[i].Tick=x.Base.Tick+i)) (fun k => [(1,Aqf 0),(3,I (els x.Tracks).length),(4,I (x.Now.Tick-x.Base.Tick)),(5,I k)]) (fun k => [.box (Aqi x)]) (⟨Aqd,fun i _ hi=>absurd hi (Nat.not_lt_zero _)⟩) (Yj [0] Aqb) ?_
 intro m_A k hk_A hp_A
 obtain⟨hpa,hpb⟩:=hp_A
 refine Wz [15,58] ?_
 refine Xb J (fun h=>?_) (fun h=>?_)
 ·have h3:k<x.Used.length:=Bqx
  have h4:k<x.Saves.length:=Aqa
  have hat:=Y4 h3
  have hat2:=Y4 h4
  have hc:=S_rowOk x.Used[k] (els x.Tracks).length (gUs.2 _ (Gqe h3))
  rw[hlt] at hc
  cases ho:rowOk x.Used[k] x.Tracks.length with
  |false =>
   rw[ho,←hlt] at hc
   rw[peer_F (fun hp=>by have:=hp.2.2.2.2.2.1.1; rw[Yp h3 ho] at this; cases this)]
   refine Wz [9,4] ?_;refine Xi u8_20 u8_21 u8_22 J ?_;refine Wz [67,64,17] ?_;refine Uq (Qj J J (hc) J) J ?_;refine Wz [142,118,127,127,88,12,32,45,57] ?_
   exact Bzh
  | true =>
   rw[ho,←hlt] at hc
   by_cases hs:x.Saves[k].Tick=x.Base.Tick+k
   ·have hb:decide (x.Saves[k].Tick≠x.Base.Tick+k)=false:=Gqa (fun h=>h hs)
    refine Wz [9,4] ?_;refine Xi u8_20 u8_21 u8_22 J ?_;refine Wz [67,64,17] ?_;refine Uq (Qj J J (hc) J) J ?_;refine Wz [142,17,24,62,156,228,164,152,24,62,246,264,84,12,81] ?_
    exact .n (k+1) (⟨Yo hpa h3 ho,fun i hi hij=>by by_cases e:i=k; subst e; exact hs; exact hpb i hi Aqa⟩) (Yj [0] Aqb)
   ·have hb:decide (x.Saves[k].Tick≠x.Base.Tick+k)=true:=Gqb hs
    rw[peer_F (fun hp=>hs (hp.2.2.2.2.2.1.2 k h4))]
    refine Wz [9,4] ?_;refine Xi u8_20 u8_21 u8_22 J ?_;refine Wz [67,64,17] ?_;refine Uq (Qj J J (hc) J) J ?_;refine Wz [142,17,24,62,156,228,164,152,24,62,246,264,84,12,32,45,57] ?_
    exact Bzh
 have h3:¬k<x.Used.length:=Bq5
 have hall:=Yn hpa Aqa 
 have hme:x.Me.toNat<x.Tracks.length:=Aqa
 have hat:=at_nat (xs:=x.Tracks) hme
 have hti:=Y7 x.Tracks[x.Me.toNat].Inputs
 have hla:=Zn hme
 rw[←fin_eq ⟨q1,q2,q3,q4⟩ ⟨Aqa,Aqa,q7⟩ ⟨q8,q9,q10⟩ ⟨q11,q12,q13⟩ ⟨q14,q15,q16⟩ ⟨hall,fun i hi=>hpb i hi Aqa⟩,←hlm]
 by_cases k1:x.Base.Tick≤(knownTicks x.Tracks:Nat)
 ·have hb1:decide (x.Base.Tick≤((knownTicks x.Tracks:Nat):Int))=true:=Gqb k1
  by_cases k2:x.Now.Tick≤(lenAt x.Tracks x.Me.toNat:Nat)
  ·have hb2:decide (x.Now.Tick≤((els x.Tracks[x.Me.toNat].Inputs).length:Int))=true:=Gqb Aqa 
   rw[hb1,Gqb k2]
   refine Wz [30,4] ?_;refine Xi u8_17 u8_23 u8_24 J ?_;refine Wz [145,37,37] ?_;refine Uq (Qj J J (c6) J) J ?_;refine Wz [263,17,24,24,156,228,164,212,152,24] ?_;refine Uq (Qt.yes J J J (Ky J J J J Aqe)) J ?_;refine Wz [88,17,24,212,152,24,246] ?_;refine Uq (Qt.yes J J J (Kt J J J J)) J ?_;refine Wz [88,162,12,1,73] ?_
   exact Bzh
  ·have hb2:decide (x.Now.Tick≤((els x.Tracks[x.Me.toNat].Inputs).length:Int))=false:=Gqa Aqa 
   rw[hb1,Gqa k2]
   refine Wz [30,4] ?_;refine Xi u8_17 u8_23 u8_24 J ?_;refine Wz [145,37,37] ?_;refine Uq (Qj J J (c6) J) J ?_;refine Wz [263,17,24,24,156,228,164,212,152,24] ?_;refine Uq (Qt.yes J J J (Ky J J J J Aqe)) J ?_;refine Wz [88,118,127,84,162,12,1,73] ?_
   exact Bzh
 ·have hb1:decide (x.Base.Tick≤((knownTicks x.Tracks:Nat):Int))=false:=Gqa k1
  rw[hb1]
  refine Wz [30,4] ?_;refine Xi u8_17 u8_23 u8_24 J ?_;refine Wz [145,37,37] ?_;refine Uq (Qj J J (c6) J) J ?_;refine Wz [263,118,127,127,84,118,127,84,162,12,1,73] ?_
  exact Bzh
end
section
open Go.RowKit
end
end Go.Proofs.YtalaljeokcpfnaaGreat
