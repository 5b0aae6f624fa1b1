/-
  Rules, data and contracts of functions: part 31 of the proof.
  Conditions: those that each theorem names.
-/
import Derived.Test.YtoecjaohdnoenaaGreatDDNewMRowk28
import Derived.Test.YtoecjaohdnoenaaGreatDDNewMRowk29
set_option linter.unusedVariables false
set_option linter.unusedSimpArgs false
set_option maxRecDepth 8000
set_option maxHeartbeats 8000000
namespace Go.Proofs.YtoecjaohdnoenaaGreat
section
open Go.RowKit

theorem eq_PeerS (xs ys:List TPeer) (hn:Enc.gd xs):Con Tryz.prog 69 [] [al xs,al ys] [] (B (decide (xs=ys))):=by
 have hn1:=hn.1
 have hlx:=X6 xs
 have hly:=X6 ys
 by_cases hl:xs.length=ys.length
 ·have hb:decide (((els xs).length:Int)≠((els ys).length:Int))=false:=by rw[hlx,hly,hl]; simp
  refine Con.of Tryz.func69 J Tryz.ntmps69 J (fun E => ?_)
  refine Wz [79,62,26,39] ?_;refine Xe (fun m st=>∃ k:Nat,k+m=xs.length∧(xs.take k=ys.take k)∧st=(⟨_,[(0,L xs),(1,L ys),(5,I k)],[]⟩:St)) (xs.length) ⟨_,⟨0,by omega,by simp,J⟩,Xv [] (by kernel_rfl)⟩ ?_
  rintro m_A _ ⟨k,hk_A,hp_A,rfl⟩
  refine Wz [23,12] ?_
  refine Q8 J (fun h => ?_) (fun h => ?_)
  ·have h3:k<xs.length:=by have:=Gqc h; omega
   have h4:k<ys.length:=by omega
   have hat:=X5 h3
   have hat2:=X5 h4
   have hc:=eq_Peer xs[k] ys[k] (hn.2 _ (Gqf h3))
   by_cases he:xs[k]=ys[k]
   ·rw[Gqb he] at hc
    refine Wz [45,103,54,54] ?_;refine DR.s (Qj J J (hc) J) J J ?_;refine Wz [87,57] ?_
    exact⟨xs.length-(k+1),by omega,_,⟨k+1,by omega,Yd h3 h4 hp_A he,J⟩,Xv [] (by kernel_rfl)⟩
   ·rw[Gqa he] at hc
    refine Wz [45,103,54,54] ?_;refine DR.s (Qj J J (hc) J) J J ?_;refine Wz [87,74] ?_
    exact Xi J J (Xt [] (by decide) J J (Xf (eq_ne h3 h4 he).symm))
  ·have h3:¬((k:Int)<(els xs).length):=Gqg h
   refine Wz [94] ?_
   exact Xi J J (Xt [] (by decide) J J (Xf (Yb (by omega) hl hp_A).symm))
 ·have hb:decide (((els xs).length:Int)≠((els ys).length:Int))=true:=by rw[hlx,hly]; simp; omega
  refine Con.of Tryz.func69 J Tryz.ntmps69 J (fun E => ?_)
  refine Wz [79,18] ?_
  exact Xi J J (Xt [] (by decide) J J (Xf (Yc hl).symm))
end
section
open Go.RowKit

theorem eq_Match (x y:TMatch) (hg:Enc.gd x):Con Tryz.prog 19 [] [ag x,ag y] [] (B (decide (x=y))):=by
 obtain⟨g_Level,g_Seed,g_Delay,g_Scripts,g_Peers,g_Wires,g_Paces,g_Acks,g_Clock,g_Watchers,g_Lines,g_Alarms,g_Bad⟩:=hg
 by_cases e_Level:¬x.Level=y.Level
 ·have hc:=eq_Level x.Level y.Level g_Level
  rw[Gqa e_Level] at hc
  refine Con.of Tryz.func19 J Tryz.ntmps19 J (fun E => ?_)
  refine Wz [51,41] ?_;refine zx (Qj J J (hc) J) J ?_;refine Wz [5,37] ?_
  exact Xi J J (Xt [] (by decide) J J (Xf (Gqa fun e=>e_Level (by rw[e])).symm))
 have e_Level:=Classical.not_not.1 e_Level
 have hc_Level:=eq_Level x.Level y.Level g_Level
 rw[Gqb e_Level] at hc_Level
 by_cases e_Seed:¬x.Seed=y.Seed
 ·have hk:decide (x.Seed≠y.Seed)=true:=by simp[e_Seed]
  refine Con.of Tryz.func19 J Tryz.ntmps19 J (fun E => ?_)
  refine Wz [51,41] ?_;refine zx (Qj J J (hc_Level) J) J ?_;refine Wz [6,18] ?_
  exact Xi J J (Xt [] (by decide) J J (Xf (Gqa fun e=>e_Seed (by rw[e])).symm))
 have e_Seed:=Classical.not_not.1 e_Seed
 have k_Seed:decide (x.Seed≠y.Seed)=false:=by simp[e_Seed]
 by_cases e_Delay:¬x.Delay=y.Delay
 ·have hk:decide (x.Delay≠y.Delay)=true:=by simp[e_Delay]
  refine Con.of Tryz.func19 J Tryz.ntmps19 J (fun E => ?_)
  refine Wz [51,41] ?_;refine zx (Qj J J (hc_Level) J) J ?_;refine Wz [6,78,18] ?_
  exact Xi J J (Xt [] (by decide) J J (Xf (Gqa fun e=>e_Delay (by rw[e])).symm))
 have e_Delay:=Classical.not_not.1 e_Delay
 have k_Delay:decide (x.Delay≠y.Delay)=false:=by simp[e_Delay]
 by_cases e_Scripts:¬x.Scripts=y.Scripts
 ·have hc:=eq_IntSS x.Scripts y.Scripts g_Scripts
  rw[Gqa e_Scripts] at hc
  refine Con.of Tryz.func19 J Tryz.ntmps19 J (fun E => ?_)
  refine Wz [51,41] ?_;refine zx (Qj J J (hc_Level) J) J ?_;refine Wz [6,85] ?_;refine zx (Qj J J (hc) J) J ?_;refine Wz [5,37] ?_
  exact Xi J J (Xt [] (by decide) J J (Xf (Gqa fun e=>e_Scripts (by rw[e])).symm))
 have e_Scripts:=Classical.not_not.1 e_Scripts
 have hc_Scripts:=eq_IntSS x.Scripts y.Scripts g_Scripts
 rw[Gqb e_Scripts] at hc_Scripts
 by_cases e_Peers:¬x.Peers=y.Peers
 ·have hc:=eq_PeerS x.Peers y.Peers g_Peers
  rw[Gqa e_Peers] at hc
  refine Con.of Tryz.func19 J Tryz.ntmps19 J (fun E => ?_)
  refine Wz [51,41] ?_;refine zx (Qj J J (hc_Level) J) J ?_;refine Wz [6,85] ?_;refine zx (Qj J J (hc_Scripts) J) J ?_;refine Wz [6] ?_;refine zx (Qj J J (hc) J) J ?_;refine Wz [5,37] ?_
  exact Xi J J (Xt [] (by decide) J J (Xf (Gqa fun e=>e_Peers (by rw[e])).symm))
 have e_Peers:=Classical.not_not.1 e_Peers
 have hc_Peers:=eq_PeerS x.Peers y.Peers g_Peers
 rw[Gqb e_Peers] at hc_Peers
 by_cases e_Wires:¬x.Wires=y.Wires
 ·have hc:=eq_WireSS x.Wires y.Wires g_Wires
  rw[Gqa e_Wires] at hc
  refine Con.of Tryz.func19 J Tryz.ntmps19 J (fun E => ?_)
  refine Wz [51,41] ?_;refine zx (Qj J J (hc_Level) J) J ?_;refine Wz [6,85] ?_;refine zx (Qj J J (hc_Scripts) J) J ?_;refine Wz [6] ?_;refine zx (Qj J J (hc_Peers) J) J ?_;refine Wz [6] ?_;refine zx (Qj J J (hc) J) J ?_;refine Wz [5,37] ?_
  exact Xi J J (Xt [] (by decide) J J (Xf (Gqa fun e=>e_Wires (by rw[e])).symm))
 have e_Wires:=Classical.not_not.1 e_Wires
 have hc_Wires:=eq_WireSS x.Wires y.Wires g_Wires
 rw[Gqb e_Wires] at hc_Wires
 by_cases e_Paces:¬x.Paces=y.Paces
 ·have hc:=eq_PaceSS x.Paces y.Paces g_Paces
  rw[Gqa e_Paces] at hc
  refine Con.of Tryz.func19 J Tryz.ntmps19 J (fun E => ?_)
  refine Wz [51,41] ?_;refine zx (Qj J J (hc_Level) J) J ?_;refine Wz [6,85] ?_;refine zx (Qj J J (hc_Scripts) J) J ?_;refine Wz [6] ?_;refine zx (Qj J J (hc_Peers) J) J ?_;refine Wz [6] ?_;refine zx (Qj J J (hc_Wires) J) J ?_;refine Wz [6] ?_;refine zx (Qj J J (hc) J) J ?_;refine Wz [5,37] ?_
  exact Xi J J (Xt [] (by decide) J J (Xf (Gqa fun e=>e_Paces (by rw[e])).symm))
 have e_Paces:=Classical.not_not.1 e_Paces
 have hc_Paces:=eq_PaceSS x.Paces y.Paces g_Paces
 rw[Gqb e_Paces] at hc_Paces
 by_cases e_Acks:¬x.Acks=y.Acks
 ·have hc:=eq_IntSS x.Acks y.Acks g_Acks
  rw[Gqa e_Acks] at hc
  refine Con.of Tryz.func19 J Tryz.ntmps19 J (fun E => ?_)
  refine Wz [51,41] ?_;refine zx (Qj J J (hc_Level) J) J ?_;refine Wz [6,85] ?_;refine zx (Qj J J (hc_Scripts) J) J ?_;refine Wz [6] ?_;refine zx (Qj J J (hc_Peers) J) J ?_;refine Wz [6] ?_;refine zx (Qj J J (hc_Wires) J) J ?_;refine Wz [6] ?_;refine zx (Qj J J (hc_Paces) J) J ?_;refine Wz [6] ?_;refine zx (Qj J J (hc) J) J ?_;refine Wz [5,37] ?_
  exact Xi J J (Xt [] (by decide) J J (Xf (Gqa fun e=>e_Acks (by rw[e])).symm))
 have e_Acks:=Classical.not_not.1 e_Acks
 have hc_Acks:=eq_IntSS x.Acks y.Acks g_Acks
 rw[Gqb e_Acks] at hc_Acks
 by_cases e_Clock:¬x.Clock=y.Clock
 ·have hk:decide (x.Clock≠y.Clock)=true:=by simp[e_Clock]
  refine Con.of Tryz.func19 J Tryz.ntmps19 J (fun E => ?_)
  refine Wz [51,41] ?_;refine zx (Qj J J (hc_Level) J) J ?_;refine Wz [6,85] ?_;refine zx (Qj J J (hc_Scripts) J) J ?_;refine Wz [6] ?_;refine zx (Qj J J (hc_Peers) J) J ?_;refine Wz [6] ?_;refine zx (Qj J J (hc_Wires) J) J ?_;refine Wz [6] ?_;refine zx (Qj J J (hc_Paces) J) J ?_;refine Wz [6] ?_;refine zx (Qj J J (hc_Acks) J) J ?_;refine Wz [6,18] ?_
  exact Xi J J (Xt [] (by decide) J J (Xf (Gqa fun e=>e_Clock (by rw[e])).symm))
 have e_Clock:=Classical.not_not.1 e_Clock
 have k_Clock:decide (x.Clock≠y.Clock)=false:=by simp[e_Clock]
 by_cases e_Watchers:¬x.Watchers=y.Watchers
 ·have hc:=eq_SpectatorS x.Watchers y.Watchers g_Watchers
  rw[Gqa e_Watchers] at hc
  refine Con.of Tryz.func19 J Tryz.ntmps19 J (fun E => ?_)
  refine Wz [51,41] ?_;refine zx (Qj J J (hc_Level) J) J ?_;refine Wz [6,85] ?_;refine zx (Qj J J (hc_Scripts) J) J ?_;refine Wz [6] ?_;refine zx (Qj J J (hc_Peers) J) J ?_;refine Wz [6] ?_;refine zx (Qj J J (hc_Wires) J) J ?_;refine Wz [6] ?_;refine zx (Qj J J (hc_Paces) J) J ?_;refine Wz [6] ?_;refine zx (Qj J J (hc_Acks) J) J ?_;refine Wz [6,78] ?_;refine zx (Qj J J (hc) J) J ?_;refine Wz [5,37] ?_
  exact Xi J J (Xt [] (by decide) J J (Xf (Gqa fun e=>e_Watchers (by rw[e])).symm))
 have e_Watchers:=Classical.not_not.1 e_Watchers
 have hc_Watchers:=eq_SpectatorS x.Watchers y.Watchers g_Watchers
 rw[Gqb e_Watchers] at hc_Watchers
 by_cases e_Lines:¬x.Lines=y.Lines
 ·have hc:=eq_WireS x.Lines y.Lines g_Lines
  rw[Gqa e_Lines] at hc
  refine Con.of Tryz.func19 J Tryz.ntmps19 J (fun E => ?_)
  refine Wz [51,41] ?_;refine zx (Qj J J (hc_Level) J) J ?_;refine Wz [6,85] ?_;refine zx (Qj J J (hc_Scripts) J) J ?_;refine Wz [6] ?_;refine zx (Qj J J (hc_Peers) J) J ?_;refine Wz [6] ?_;refine zx (Qj J J (hc_Wires) J) J ?_;refine Wz [6] ?_;refine zx (Qj J J (hc_Paces) J) J ?_;refine Wz [6] ?_;refine zx (Qj J J (hc_Acks) J) J ?_;refine Wz [6,78] ?_;refine zx (Qj J J (hc_Watchers) J) J ?_;refine Wz [6] ?_;refine zx (Qj J J (hc) J) J ?_;refine Wz [5,37] ?_
  exact Xi J J (Xt [] (by decide) J J (Xf (Gqa fun e=>e_Lines (by rw[e])).symm))
 have e_Lines:=Classical.not_not.1 e_Lines
 have hc_Lines:=eq_WireS x.Lines y.Lines g_Lines
 rw[Gqb e_Lines] at hc_Lines
 by_cases e_Alarms:¬x.Alarms=y.Alarms
 ·have hc:=eq_AlarmS x.Alarms y.Alarms g_Alarms
  rw[Gqa e_Alarms] at hc
  refine Con.of Tryz.func19 J Tryz.ntmps19 J (fun E => ?_)
  refine Wz [51,41] ?_;refine zx (Qj J J (hc_Level) J) J ?_;refine Wz [6,85] ?_;refine zx (Qj J J (hc_Scripts) J) J ?_;refine Wz [6] ?_;refine zx (Qj J J (hc_Peers) J) J ?_;refine Wz [6] ?_;refine zx (Qj J J (hc_Wires) J) J ?_;refine Wz [6] ?_;refine zx (Qj J J (hc_Paces) J) J ?_;refine Wz [6] ?_;refine zx (Qj J J (hc_Acks) J) J ?_;refine Wz [6,78] ?_;refine zx (Qj J J (hc_Watchers) J) J ?_;refine Wz [6] ?_;refine zx (Qj J J (hc_Lines) J) J ?_;refine Wz [6] ?_;refine zx (Qj J J (hc) J) J ?_;refine Wz [5,37] ?_
  exact Xi J J (Xt [] (by decide) J J (Xf (Gqa fun e=>e_Alarms (by rw[e])).symm))
 have e_Alarms:=Classical.not_not.1 e_Alarms
 have hc_Alarms:=eq_AlarmS x.Alarms y.Alarms g_Alarms
 rw[Gqb e_Alarms] at hc_Alarms
 by_cases e_Bad:¬x.Bad=y.Bad
 ·have hk:decide (x.Bad≠y.Bad)=true:=by simp[e_Bad]
  refine Con.of Tryz.func19 J Tryz.ntmps19 J (fun E => ?_)
  refine Wz [51,41] ?_;refine zx (Qj J J (hc_Level) J) J ?_;refine Wz [6,85] ?_;refine zx (Qj J J (hc_Scripts) J) J ?_;refine Wz [6] ?_;refine zx (Qj J J (hc_Peers) J) J ?_;refine Wz [6] ?_;refine zx (Qj J J (hc_Wires) J) J ?_;refine Wz [6] ?_;refine zx (Qj J J (hc_Paces) J) J ?_;refine Wz [6] ?_;refine zx (Qj J J (hc_Acks) J) J ?_;refine Wz [6,78] ?_;refine zx (Qj J J (hc_Watchers) J) J ?_;refine Wz [6] ?_;refine zx (Qj J J (hc_Lines) J) J ?_;refine Wz [6] ?_;refine zx (Qj J J (hc_Alarms) J) J ?_;refine Wz [6,18] ?_
  exact Xi J J (Xt [] (by decide) J J (Xf (Gqa fun e=>e_Bad (by rw[e])).symm))
 have e_Bad:=Classical.not_not.1 e_Bad
 have k_Bad:decide (x.Bad≠y.Bad)=false:=by simp[e_Bad]
 refine Con.of Tryz.func19 J Tryz.ntmps19 J (fun E => ?_)
 refine Wz [51,41] ?_;refine zx (Qj J J (hc_Level) J) J ?_;refine Wz [6,85] ?_;refine zx (Qj J J (hc_Scripts) J) J ?_;refine Wz [6] ?_;refine zx (Qj J J (hc_Peers) J) J ?_;refine Wz [6] ?_;refine zx (Qj J J (hc_Wires) J) J ?_;refine Wz [6] ?_;refine zx (Qj J J (hc_Paces) J) J ?_;refine Wz [6] ?_;refine zx (Qj J J (hc_Acks) J) J ?_;refine Wz [6,78] ?_;refine zx (Qj J J (hc_Watchers) J) J ?_;refine Wz [6] ?_;refine zx (Qj J J (hc_Lines) J) J ?_;refine Wz [6] ?_;refine zx (Qj J J (hc_Alarms) J) J ?_;refine Wz [6,62,26,138] ?_
 exact Xi J J (Xt [] (by decide) J J (Xf (Gqb (TMatch.same e_Level e_Seed e_Delay e_Scripts e_Peers e_Wires e_Paces e_Acks e_Clock e_Watchers e_Lines e_Alarms e_Bad)).symm))
end
section
open Go.RowKit

theorem L_mkWire (w:TWire) (k:Int) (g:Enc.gd w) (h0:0<k) (hb:nkEs (els w.Flights) k≤1073741823):Con Tryz.prog 27 [.row 2 (els w.Flights),.gh 0 (.ag (wX w (.ref 0)))] [.ag (wX w (.ref 0)),ai k] [.row 2 (mkEs (els w.Flights) k),.gh 0 (.ag (wX w (.ref 0)))] (I (nkEs (els w.Flights) k)):=by
 have cF:=L_mkFlightS w.Flights k g.2.2.2.2.2.2.2.1 h0 hb
 refine Con.of Tryz.func27 J Tryz.ntmps27 J (fun E => ?_)
 refine Wz [58,36] ?_;refine Xa (lo := [_]) (gs := [(0,.c (.ref 0))]) (lo' := [_]) (new := []) [0] [(0,0,.ref 0)] (cF) J J J J J J J J J J J J J J J J J ?_;refine Wz [3,173] ?_
 exact Xi J J (Xt [0,1] (by decide) J (by kernel_rfl) (by kernel_rfl))
theorem wts_mapR {α:Type} [Enc α] {f:Nat→α} {b:Nat} (h:∀ i,Enc.wt (f i)≤b):∀ k,wts (mapR f k)≤k*b
 |0=>by simp[mapR,wts]
 | k+1=>by
  have e:wts (mapR f (k+1))=wts (mapR f k)+Enc.wt (f k):=by
   have h2:∀ (xs:List α) (x:α),wts (xs ++ [x])=wts xs+Enc.wt x:=fun xs x=>by
    induction xs with
    |nil=>simp[wts]
    |cons y ys ih=>simp only[List.cons_append,wts,ih]; omega
   rw[mapR,List.range_succ,List.map_append]
   exact h2 _ _
  have:=wts_mapR h k
  have:=h k
  rw[e,Nat.succ_mul]
  omega
theorem wt_mapR {α:Type} [Enc α] {f:Nat→α} {b k:Nat} (h:∀ i,Enc.wt (f i)≤b) (hk:k≤4):Enc.wt (mapR f k)≤4+4*b:=by
 have h1:=wts_mapR h k
 have h2:k*b≤4*b:=Gxg b hk
 show (mapR f k).length+wts (mapR f k)≤_
 rw[Yo]
 omega
theorem wt_rep {α:Type} [Enc α] {a:α} (h:Enc.wt a=0):∀ k:Nat,Enc.wt (List.replicate k a)=k:=fun k=>by
 have h2:wts (List.replicate k a)=0:=by
  induction k with
  |zero=>rfl
  |succ k ih=>rw[List.replicate_succ]; simp only[wts,ih,h]
 show (List.replicate k a).length+wts (List.replicate k a)=k
 rw[Gxr,h2,Nat.add_zero]
theorem nwV_wt {l:TLevel} {n:Nat} {seed:Int} (hn:n≤4) (hw:Enc.wt l≤1048576):Enc.wt (nwV l n seed)≤1048584:=by
 rw[nwV]
 split
 ·have e:Enc.wt (newWorld l n seed)=Enc.wt l+((List.replicate n (0:Int)).length+wts (List.replicate n (0:Int)))+((freshs l n).length+wts (freshs l n)):=rfl
  rw[e,wts_int,wts_body,Gxr,freshs_len]
  omega
 ·show (0:Nat)≤_; omega
theorem pAt_wt {l:TLevel} {n:Nat} {seed d ah:Int} {fs:List TFault} (hn:n≤4) (hw:Enc.wt l≤1048576) (i:Nat):Enc.wt (pAt l n seed d ah fs i)≤2097200:=by
 rw[pAt,peV]
 split
 ·rename_i h
  rw[peB,Gqj,Gqj] at h
  have hd:=Yk.1 h.1.2
  have e:∀ (W:TWorld) (f:TFault),Enc.wt (newPg W n i d ah seed f)=Enc.wt (trD n d.toNat)+Enc.wt W+Enc.wt W+Enc.wt ([]:List (List Int))+Enc.wt ([]:List TSave)+Enc.wt [wsm W]+Enc.wt f:=fun W f=>rfl
  rw[e]
  have h1:=nwV_wt (l:=l) (seed:=seed) hn hw
  have h2:Enc.wt (trD n d.toNat)≤24:=by
   have h3:wts (trD n d.toNat)≤n*5:=by
    have h4:∀ m,wts (trD m d.toNat)=m*d.toNat:=fun m=>by
     induction m with
     |zero=>simp[trD,wts]
     |succ m ih =>
      have e2:trD (m+1) d.toNat=⟨List.replicate d.toNat 0⟩::trD m d.toNat:=rfl
      have e3:Enc.wt (⟨List.replicate d.toNat 0⟩:TTrack)=d.toNat:=wt_rep (a:=(0:Int)) rfl d.toNat
      rw[e2,wts,e3,ih,Nat.succ_mul]
      omega
    rw[h4]
    exact Nat.mul_le_mul_left n (by omega)
   show (trD n d.toNat).length+wts (trD n d.toNat)≤24
   rw[trD,Gxr,←trD]
   omega
  have h5:Enc.wt ([]:List (List Int))=0:=rfl
  have h6:Enc.wt ([]:List TSave)=0:=rfl
  have h7:Enc.wt [wsm (nwV l n seed)]=1:=rfl
  have h8:∀ f:TFault,Enc.wt f=0:=fun f=>rfl
  rw[h8]
  omega
 ·show (0:Nat)≤_; omega
theorem nmV_in {l:TLevel} {sc:List (List Int)} {seed d ah:Int} {fs:List TFault} {w:TWire} (hg:Enc.gd l) (wl:Enc.wt l≤1048576) (hL:l.Rows.length≤1048576) (gsc:Enc.gd sc) (wsc:Enc.wt sc≤1048576) (gs:I64 seed) (gd:I64 d) (ga:I64 ah) (gf:Enc.gd fs) (gw:Enc.gd w):Enc.gd (nmV l sc seed d ah fs w)∧Enc.wt (nmV l sc seed d ah fs w)≤16777216:=by
 have h0:I64 0:=⟨by decide,by decide⟩
 rw[nmV]
 split
 ·rename_i h
  rw[nmB,Gqj] at h
  have hn:=newN_n h.2
  refine⟨newN_gd hg hL hn.2 gsc gs gd ga gf gw,?_⟩
  have e:Enc.wt (newN l sc seed d ah fs w)=Enc.wt l+Enc.wt sc+Enc.wt (mapR (pAt l sc.length seed d ah fs) sc.length)+Enc.wt (mapR (fun i=>mapR (mkW w i) sc.length) sc.length)+Enc.wt (mapR (fun _:Nat=>List.replicate sc.length (⟨0,0,0,0,0⟩:TPace)) sc.length)+Enc.wt (mapR (fun _:Nat=>List.replicate sc.length d) sc.length)+0+0+0:=rfl
  rw[e]
  have a1:=wt_mapR (f:=pAt l sc.length seed d ah fs) (fun i=>pAt_wt hn.2 wl i) hn.2
  have a2:=wt_mapR (f:=fun i=>mapR (mkW w i) sc.length) (fun i=>wt_mapR (f:=mkW w i) (b:=0) (fun j=>Gqi _) hn.2) hn.2
  have a3:=wt_mapR (f:=fun _:Nat=>List.replicate sc.length (⟨0,0,0,0,0⟩:TPace)) (b:=4) (fun i=>by rw[wt_rep rfl]; exact hn.2) hn.2
  have a4:=wt_mapR (f:=fun _:Nat=>List.replicate sc.length d) (b:=4) (fun i=>by rw[wt_rep rfl]; exact hn.2) hn.2
  omega
 ·exact⟨⟨⟨Gqr _,fun x hx=>by cases hx⟩,h0,h0,⟨Gqr _,fun x hx=>by cases hx⟩,⟨Gqr _,fun x hx=>by cases hx⟩,⟨Gqr _,fun x hx=>by cases hx⟩,⟨Gqr _,fun x hx=>by cases hx⟩,⟨Gqr _,fun x hx=>by cases hx⟩,h0,⟨Gqr _,fun x hx=>by cases hx⟩,⟨Gqr _,fun x hx=>by cases hx⟩,⟨Gqr _,fun x hx=>by cases hx⟩,h0⟩,by show (0:Nat)≤_; omega⟩
instance:Mkb TFault:=⟨fun x k=>by
 show k+1+1+1≤_
 omega⟩
theorem law_NewMatch (l:TLevel) (sc:List (List Int)) (seed d ah:Int) (fs:List TFault) (w:TWire) (g_l:Enc.gd l) (g_sc:Enc.gd sc) (g_s:Enc.gd seed) (g_d:Enc.gd d) (g_a:Enc.gd ah) (g_f:Enc.gd fs) (g_w:Enc.gd w):Con Tryz.prog 3 [] [ag l,al sc,ai seed,ai d,ai ah,al fs,ag w] [] (B true):=by
 have hz1:=sz_Level l (1048576) g_l (by omega) (by omega)
 by_cases n1:(1048576:Int)<Enc.wt l
 ·rw[Z5 n1] at hz1
  refine Con.of Tryz.func3 J Tryz.ntmps3 J (fun E => ?_)
  refine Wz [51,33,40,0] ?_;refine zx (Qj J J (hz1) J) J ?_;refine Wz [98] ?_;refine zx (Qr (b:=true) J J J J (by decide)) J ?_;refine Wz [37] ?_
  exact Xi J J (Xt [] (by decide) J J J)
 rw[Z6 (by omega)] at hz1
 have b_n1:decide ((1048576:Int)-Enc.wt l<0)=false:=Gqa (by omega)
 have hz2:=sz_IntSS sc (1048576-Enc.wt l) g_sc (by omega) (by omega)
 by_cases n2:(1048576-Enc.wt l:Int)<Enc.wt sc
 ·rw[Z5 n2] at hz2
  refine Con.of Tryz.func3 J Tryz.ntmps3 J (fun E => ?_)
  refine Wz [51,33,40,0] ?_;refine zx (Qj J J (hz1) J) J ?_;refine Wz [59,10] ?_;refine zx (Qj J J (hz2) J) J ?_;refine Wz [98] ?_;refine zx (Qr (b:=true) J J J J (by decide)) J ?_;refine Wz [37] ?_
  exact Xi J J (Xt [] (by decide) J J J)
 rw[Z6 (by omega)] at hz2
 have b_n2:decide ((1048576-Enc.wt l:Int)-Enc.wt sc<0)=false:=Gqa (by omega)
 have hz3:=sz_FaultS fs (1048576-Enc.wt l-Enc.wt sc) g_f (by omega) (by omega)
 by_cases n3:(1048576-Enc.wt l-Enc.wt sc:Int)<Enc.wt fs
 ·rw[Z5 n3] at hz3
  refine Con.of Tryz.func3 J Tryz.ntmps3 J (fun E => ?_)
  refine Wz [51,33,40,0] ?_;refine zx (Qj J J (hz1) J) J ?_;refine Wz [59,10] ?_;refine zx (Qj J J (hz2) J) J ?_;refine Wz [59,10] ?_;refine zx (Qj J J (hz3) J) J ?_;refine Wz [98] ?_;refine zx (Qr (b:=true) J J J J (by decide)) J ?_;refine Wz [37] ?_
  exact Xi J J (Xt [] (by decide) J J J)
 rw[Z6 (by omega)] at hz3
 have b_n3:decide ((1048576-Enc.wt l-Enc.wt sc:Int)-Enc.wt fs<0)=false:=Gqa (by omega)
 have hz4:=sz_Wire w (1048576-Enc.wt l-Enc.wt sc-Enc.wt fs) g_w (by omega) (by omega)
 by_cases n4:(1048576-Enc.wt l-Enc.wt sc-Enc.wt fs:Int)<Enc.wt w
 ·rw[Z5 n4] at hz4
  refine Con.of Tryz.func3 J Tryz.ntmps3 J (fun E => ?_)
  refine Wz [51,33,40,0] ?_;refine zx (Qj J J (hz1) J) J ?_;refine Wz [59,10] ?_;refine zx (Qj J J (hz2) J) J ?_;refine Wz [59,10] ?_;refine zx (Qj J J (hz3) J) J ?_;refine Wz [59,40,0] ?_;refine zx (Qj J J (hz4) J) J ?_;refine Wz [98] ?_;refine zx (Qr (b:=true) J J J J (by decide)) J ?_;refine Wz [37] ?_
  exact Xi J J (Xt [] (by decide) J J J)
 rw[Z6 (by omega)] at hz4
 have b_n4:decide ((1048576-Enc.wt l-Enc.wt sc-Enc.wt fs:Int)-Enc.wt w<0)=false:=Gqa (by omega)
 have htL:=to_Level l (by omega)
 have htS:=to_IntSS sc (by omega)
 have htF:=to_FaultS fs (by omega)
 have htw:=to_Wire w (by omega)
 have hqL:=eq_Level l l g_l
 rw[Gqb rfl] at hqL
 have hqS:=eq_IntSS sc sc g_sc
 rw[Gqb rfl] at hqS
 have hqF:=eq_FaultS fs fs g_f
 rw[Gqb rfl] at hqF
 have hqw:=eq_Wire w w g_w
 rw[Gqb rfl] at hqw
 have e1:Enc.wt l=l.Rows.length+wts l.Rows:=rfl
 have e2:Enc.wt sc=sc.length+wts sc:=rfl
 have e3:Enc.wt fs=fs.length+wts fs:=rfl
 have e4:Enc.wt w=w.Flights.length+wts w.Flights:=rfl
 have hsp:=S_NewMatch l sc seed d ah fs w g_l (by omega) g_sc (by omega) g_s g_d g_a g_f g_w
 have hip:=I_NewMatch l sc seed d ah fs w g_l (by omega) g_sc (by omega) g_s g_d g_a g_f g_w
 obtain⟨g_y,w_y⟩:=nmV_in (seed:=seed) (d:=d) (ah:=ah) (fs:=fs) (w:=w) g_l (by omega) (by omega) g_sc (by omega) g_s g_d g_a g_f g_w
 generalize nmV l sc seed d ah fs w=y at hsp hip g_y w_y
 generalize nmB l sc seed d ah fs w=b at hsp hip
 have hq1:=eq_Match y y g_y
 rw[Gqb rfl] at hq1
 have m1:=Yx (els l.Rows) 1
 have q1:=Yq l.Rows 1
 have hmL:=L_mkLevel l.Rows 1 g_l (by omega) (by omega)
 generalize nkEs (els l.Rows) 1=K1 at m1 q1 hmL
 have m2:=Yx (els sc) K1
 have q2:=Yq sc K1
 have hmS:=L_mkIntSS sc K1 g_sc (by omega) (by omega)
 generalize nkEs (els sc) K1=K2 at m2 q2 hmS
 have m3:=Yx (els fs) K2
 have q3:=Yq fs K2
 have hmF:=L_mkFaultS fs K2 g_f (by omega) (by omega)
 generalize nkEs (els fs) K2=K3 at m3 q3 hmF
 have m4:=Yx (els w.Flights) K3
 have q4:=Yq w.Flights K3
 have hmw:=L_mkWire w K3 g_w (by omega) (by omega)
 generalize nkEs (els w.Flights) K3=K4 at m4 q4 hmw
 obtain⟨k3,k4⟩:=nM_le y 1
 have hm_y:=L_mkMatch y 1 g_y (by omega) (by omega)
 have hh:=L_hdMatch y 1 g_y (by omega) (by omega)
 have hk1:decide (K4<0)=false:=Gqa (by omega)
 have hk2:decide (n9M y 1<0)=false:=Gqa (by omega)
 refine Con.of Tryz.func3 J Tryz.ntmps3 J (fun E => ?_)
 refine Wz [51,33,40,0] ?_;refine zx (Qj J J (hz1) J) J ?_;refine Wz [59,10] ?_;refine zx (Qj J J (hz2) J) J ?_;refine Wz [59,10] ?_;refine zx (Qj J J (hz3) J) J ?_;refine Wz [59,40,0] ?_;refine zx (Qj J J (hz4) J) J ?_;refine Wz [59,16] ?_
 refine AWP.pre (st':=(⟨180,[(1,L sc),(2,I seed),(3,I d),(4,I ah),(5,L fs),(7,.o (.c (.ptr 0 0))),(13,.o (.c (.ptr 1 0)))],[.box ((Enc.e l).map (V1.rd [])),.box ((Enc.e w).map (V1.rd []))]⟩:St)) ?_ (Xw [0,1] (by decide) J ((by kernel_rfl)) (.c J (.c J (.c J (.c J (.c J (.c J (.c J (.nil)))))))))
 refine Xd u8_44 [[],[50],[],[50,51,52],[],[],[],[],[50,51,52,53,57],[],[50,51,52,53,57,58,59],[50,51,52,53,54,55,56,57,58,59,60],[50,51,52,53,54,55,56,57,58,59,60,61],[49,50,51,52,53,54,55,56,57,58,59,60,61],[49,50,51,52,53,54,55,56,57,58,59,60,61],[],[16,49,50,51,52,53,54,55,56,57,58,59,60,61,62],[16,49,50,51,52,53,54,55,56,57,58,59,60,61,62,63]] [[16,52,54,55,56,57,59],[16,52,54,55,56,57,59],[16,50,51,54,55,56,57,59],[16,54,55,56,57,59],[16,50,51,52,53,55,56,57,58,59,60],[16,50,51,52,53,54,56,57,58,59,60],[16,50,51,52,53,54,55,57,58,59,60],[16,50,51,52,53,54,55,56,59],[16,54,55,56,59],[16,50,51,52,53,54,55,56,57,58],[16,54,55,56],[16],[16],[16,63],[16,62],[49,50,51,52,53,54,55,56,57,58,59,60,61,62,63],[63],[],[14]] J (DR.s (Qu J J J J J J) J J ?_);refine DR.s (Y8 J J (htL) J J J) J J ?_;refine DR.s (Qa J J J) J J ?_;refine DR.s (Y8 J J (htS) J J J) J J ?_;refine Wz [142,142] ?_;refine DR.s (Y8 J J (htF) J J J) J J ?_;refine DR.s (Qu J J J J J J) J J ?_;refine DR.s (Y8 J J (htw) J J J) J J ?_;refine DR.s (Y8 J J (hsp) J J J) J J ?_;refine Wz [237,188,188,196,30] ?_;refine AL.weak (st':=(⟨180,[(1,L sc),(2,I seed),(3,I d),(4,I ah),(5,L fs),(7,.o (.c (.ptr 0 0))),(13,.o (.c (.ptr 1 0))),(16,.o (.c (.ptr 11 0))),(62,.o (.ag (mC y 2))),(63,B b)],[.box ((Enc.e l).map (V1.rd [])),.box ((Enc.e w).map (V1.rd [])),.row 1 (els y.Level.Rows),.row 1 (els y.Scripts),.row 23 (els y.Peers),.row 1 (els y.Wires),.row 1 (els y.Paces),.row 1 (els y.Acks),.row 6 (els y.Watchers),.row 10 (els y.Lines),.row 2 (els y.Alarms),.box zM]⟩:St)) (Xw [0,1,6,7,8,9,10,11,12,13,14,15] (by decide) J ((by kernel_rfl)) (.c J (.c J (.c J (.c J (.c J (.c J (.c J (.c J (.c J (.c J (.nil)))))))))))) ?_;refine Qy J J J J J J J J J ?_;refine AL.weak (st':=(⟨180,[(1,L sc),(2,I seed),(3,I d),(4,I ah),(5,L fs),(7,.o (.c (.ptr 0 0))),(13,.o (.c (.ptr 1 0))),(16,.o (.c (.ptr 11 0))),(63,B b)],[.box ((Enc.e l).map (V1.rd [])),.box ((Enc.e w).map (V1.rd [])),.row 1 (els y.Level.Rows),.row 1 (els y.Scripts),.row 23 (els y.Peers),.row 1 (els y.Wires),.row 1 (els y.Paces),.row 1 (els y.Acks),.row 6 (els y.Watchers),.row 10 (els y.Lines),.row 2 (els y.Alarms),.box (mC y 2)]⟩:St)) (Xw [0,1,2,3,4,5,6,7,8,9,10,11] (by decide) J ((by kernel_rfl)) (.c J (.c J (.c J (.c J (.c J (.c J (.c J (.c J (.c J (.nil))))))))))) ?_;refine Wz [3,40] ?_;refine M1 (Y8 J J (htL) J J J) J J ?_;refine AL.weak (st':=(⟨180,[(1,L sc),(2,I seed),(3,I d),(4,I ah),(5,L fs),(7,.o (.c (.ptr 0 0))),(13,.o (.c (.ptr 1 0))),(16,.o (.c (.ptr 11 0))),(17,B b),(65,.o (.ag [.ref 12]))],[.box ((Enc.e l).map (V1.rd [])),.box ((Enc.e w).map (V1.rd [])),.row 1 (els y.Level.Rows),.row 1 (els y.Scripts),.row 23 (els y.Peers),.row 1 (els y.Wires),.row 1 (els y.Paces),.row 1 (els y.Acks),.row 6 (els y.Watchers),.row 10 (els y.Lines),.row 2 (els y.Alarms),.box (mC y 2),.row 1 (els l.Rows)]⟩:St)) (Xw [0,1,2,3,4,5,6,7,8,9,10,11,12] (by decide) J ((by kernel_rfl)) (.c J (.c J (.c J (.c J (.c J (.c J (.c J (.c J (.c J (.c J (.nil)))))))))))) ?_;refine Wz [22,49,4] ?_;refine AL.weak (st':=(⟨180,[(1,L sc),(2,I seed),(3,I d),(4,I ah),(5,L fs),(7,.o (.c (.ptr 0 0))),(13,.o (.c (.ptr 1 0))),(16,.o (.c (.ptr 11 0))),(17,B b),(18,.o (.c (.ptr 13 0))),(66,L sc)],[.box ((Enc.e l).map (V1.rd [])),.box ((Enc.e w).map (V1.rd [])),.row 1 (els y.Level.Rows),.row 1 (els y.Scripts),.row 23 (els y.Peers),.row 1 (els y.Wires),.row 1 (els y.Paces),.row 1 (els y.Acks),.row 6 (els y.Watchers),.row 10 (els y.Lines),.row 2 (els y.Alarms),.box (mC y 2),.row 1 (els l.Rows),.box [.ref 12]]⟩:St)) (Xw [0,1,2,3,4,5,6,7,8,9,10,11,12,13] (by decide) J ((by kernel_rfl)) (.c J (.c J (.c J (.c J (.c J (.c J (.c J (.c J (.c J (.c J (.c J (.nil))))))))))))) ?_;refine M1 (Y8 J J (htS) J J J) J J ?_;refine AL.weak (st':=(⟨180,[(1,L sc),(2,I seed),(3,I d),(4,I ah),(5,L fs),(7,.o (.c (.ptr 0 0))),(13,.o (.c (.ptr 1 0))),(16,.o (.c (.ptr 11 0))),(17,B b),(18,.o (.c (.ptr 13 0))),(67,.o (.c (.ref 14)))],[.box ((Enc.e l).map (V1.rd [])),.box ((Enc.e w).map (V1.rd [])),.row 1 (els y.Level.Rows),.row 1 (els y.Scripts),.row 23 (els y.Peers),.row 1 (els y.Wires),.row 1 (els y.Paces),.row 1 (els y.Acks),.row 6 (els y.Watchers),.row 10 (els y.Lines),.row 2 (els y.Alarms),.box (mC y 2),.row 1 (els l.Rows),.box [.ref 12],.row 1 (els sc)]⟩:St)) (Xw [0,1,2,3,4,5,6,7,8,9,10,11,12,13,14] (by decide) J ((by kernel_rfl)) (.c J (.c J (.c J (.c J (.c J (.c J (.c J (.c J (.c J (.c J (.c J (.nil))))))))))))) ?_;refine Wz [3,4] ?_;refine AL.weak (st':=(⟨180,[(1,L sc),(2,I seed),(3,I d),(4,I ah),(5,L fs),(7,.o (.c (.ptr 0 0))),(13,.o (.c (.ptr 1 0))),(16,.o (.c (.ptr 11 0))),(17,B b),(18,.o (.c (.ptr 13 0))),(19,.o (.c (.ref 14))),(68,L fs)],[.box ((Enc.e l).map (V1.rd [])),.box ((Enc.e w).map (V1.rd [])),.row 1 (els y.Level.Rows),.row 1 (els y.Scripts),.row 23 (els y.Peers),.row 1 (els y.Wires),.row 1 (els y.Paces),.row 1 (els y.Acks),.row 6 (els y.Watchers),.row 10 (els y.Lines),.row 2 (els y.Alarms),.box (mC y 2),.row 1 (els l.Rows),.box [.ref 12],.row 1 (els sc)]⟩:St)) (Xw [0,1,2,3,4,5,6,7,8,9,10,11,12,13,14] (by decide) J ((by kernel_rfl)) (.c J (.c J (.c J (.c J (.c J (.c J (.c J (.c J (.c J (.c J (.c J (.c J (.nil)))))))))))))) ?_;refine M1 (Y8 J J (htF) J J J) J J ?_;refine AL.weak (st':=(⟨180,[(1,L sc),(2,I seed),(3,I d),(4,I ah),(5,L fs),(7,.o (.c (.ptr 0 0))),(13,.o (.c (.ptr 1 0))),(16,.o (.c (.ptr 11 0))),(17,B b),(18,.o (.c (.ptr 13 0))),(19,.o (.c (.ref 14))),(69,.o (.c (.ref 15)))],[.box ((Enc.e l).map (V1.rd [])),.box ((Enc.e w).map (V1.rd [])),.row 1 (els y.Level.Rows),.row 1 (els y.Scripts),.row 23 (els y.Peers),.row 1 (els y.Wires),.row 1 (els y.Paces),.row 1 (els y.Acks),.row 6 (els y.Watchers),.row 10 (els y.Lines),.row 2 (els y.Alarms),.box (mC y 2),.row 1 (els l.Rows),.box [.ref 12],.row 1 (els sc),.row 3 (els fs)]⟩:St)) (Xw [0,1,2,3,4,5,6,7,8,9,10,11,12,13,14,15] (by decide) J ((by kernel_rfl)) (.c J (.c J (.c J (.c J (.c J (.c J (.c J (.c J (.c J (.c J (.c J (.c J (.nil)))))))))))))) ?_;refine Wz [3,40] ?_;refine AL.weak (st':=(⟨180,[(1,L sc),(2,I seed),(3,I d),(4,I ah),(5,L fs),(7,.o (.c (.ptr 0 0))),(13,.o (.c (.ptr 1 0))),(16,.o (.c (.ptr 11 0))),(17,B b),(18,.o (.c (.ptr 13 0))),(19,.o (.c (.ref 14))),(20,.o (.c (.ref 15))),(70,.o (.ag ((Enc.e w).map (V1.rd []))))],[.box ((Enc.e l).map (V1.rd [])),.box ((Enc.e w).map (V1.rd [])),.row 1 (els y.Level.Rows),.row 1 (els y.Scripts),.row 23 (els y.Peers),.row 1 (els y.Wires),.row 1 (els y.Paces),.row 1 (els y.Acks),.row 6 (els y.Watchers),.row 10 (els y.Lines),.row 2 (els y.Alarms),.box (mC y 2),.row 1 (els l.Rows),.box [.ref 12],.row 1 (els sc),.row 3 (els fs)]⟩:St)) (Xw [0,1,2,3,4,5,6,7,8,9,10,11,12,13,14,15] (by decide) J ((by kernel_rfl)) (.c J (.c J (.c J (.c J (.c J (.c J (.c J (.c J (.c J (.c J (.c J (.c J (.c J (.nil))))))))))))))) ?_;refine M1 (Y8 J J (htw) J J J) J J ?_;refine AL.weak (st':=(⟨180,[(1,L sc),(2,I seed),(3,I d),(4,I ah),(5,L fs),(7,.o (.c (.ptr 0 0))),(13,.o (.c (.ptr 1 0))),(16,.o (.c (.ptr 11 0))),(17,B b),(18,.o (.c (.ptr 13 0))),(19,.o (.c (.ref 14))),(20,.o (.c (.ref 15))),(71,.o (.ag (wX w (.ref 16))))],[.box ((Enc.e l).map (V1.rd [])),.box ((Enc.e w).map (V1.rd [])),.row 1 (els y.Level.Rows),.row 1 (els y.Scripts),.row 23 (els y.Peers),.row 1 (els y.Wires),.row 1 (els y.Paces),.row 1 (els y.Acks),.row 6 (els y.Watchers),.row 10 (els y.Lines),.row 2 (els y.Alarms),.box (mC y 2),.row 1 (els l.Rows),.box [.ref 12],.row 1 (els sc),.row 3 (els fs),.row 2 (els w.Flights)]⟩:St)) (Xw [0,1,2,3,4,5,6,7,8,9,10,11,12,13,14,15,16] (by decide) J ((by kernel_rfl)) (.c J (.c J (.c J (.c J (.c J (.c J (.c J (.c J (.c J (.c J (.c J (.c J (.c J (.nil))))))))))))))) ?_;refine Wz [22,110] ?_;refine AL.weak (st':=(⟨180,[(1,L sc),(2,I seed),(3,I d),(4,I ah),(5,L fs),(7,.o (.c (.ptr 0 0))),(13,.o (.c (.ptr 1 0))),(16,.o (.c (.ptr 11 0))),(17,B b),(18,.o (.c (.ptr 13 0))),(19,.o (.c (.ref 14))),(20,.o (.c (.ref 15))),(21,.o (.c (.ptr 17 0)))],[.box ((Enc.e l).map (V1.rd [])),.box ((Enc.e w).map (V1.rd [])),.row 1 (els y.Level.Rows),.row 1 (els y.Scripts),.row 23 (els y.Peers),.row 1 (els y.Wires),.row 1 (els y.Paces),.row 1 (els y.Acks),.row 6 (els y.Watchers),.row 10 (els y.Lines),.row 2 (els y.Alarms),.box (mC y 2),.row 1 (els l.Rows),.box [.ref 12],.row 1 (els sc),.row 3 (els fs),.row 2 (els w.Flights),.box (wX w (.ref 16))]⟩:St)) (Xw [0,1,2,3,4,5,6,7,8,9,10,11,12,13,14,15,16,17] (by decide) J ((by kernel_rfl)) (.c J (.c J (.c J (.c J (.c J (.c J (.c J (.c J (.c J (.c J (.c J (.c J (.c J (.nil))))))))))))))) ?_;refine Wz [2,40,144,144,0,38] ?_;refine M1 (Y8 J J (hip) J J J) J J ?_;refine AL.weak (st':=(⟨180,[(1,L sc),(2,I seed),(3,I d),(4,I ah),(5,L fs),(7,.o (.c (.ptr 0 0))),(13,.o (.c (.ptr 1 0))),(16,.o (.c (.ptr 11 0))),(17,B b),(18,.o (.c (.ptr 13 0))),(19,.o (.c (.ref 14))),(20,.o (.c (.ref 15))),(21,.o (.c (.ptr 17 0))),(80,.tu [.ag (mC y 18),.c (bv b)])],[.box ((Enc.e l).map (V1.rd [])),.box ((Enc.e w).map (V1.rd [])),.row 1 (els y.Level.Rows),.row 1 (els y.Scripts),.row 23 (els y.Peers),.row 1 (els y.Wires),.row 1 (els y.Paces),.row 1 (els y.Acks),.row 6 (els y.Watchers),.row 10 (els y.Lines),.row 2 (els y.Alarms),.box (mC y 2),.row 1 (els l.Rows),.box [.ref 12],.row 1 (els sc),.row 3 (els fs),.row 2 (els w.Flights),.box (wX w (.ref 16)),.row 1 (els y.Level.Rows),.row 1 (els y.Scripts),.row 23 (els y.Peers),.row 1 (els y.Wires),.row 1 (els y.Paces),.row 1 (els y.Acks),.row 6 (els y.Watchers),.row 10 (els y.Lines),.row 2 (els y.Alarms)]⟩:St)) (Xw [0,1,2,3,4,5,6,7,8,9,10,11,12,13,14,15,16,17,18,19,20,21,22,23,24,25,26] (by decide) J ((by kernel_rfl)) (.c J (.c J (.c J (.c J (.c J (.c J (.c J (.c J (.c J (.c J (.c J (.c J (.c J (.c J (.nil)))))))))))))))) ?_;refine Wz [195,149,149,22,110,3,112,38,38] ?_;refine AL.weak (st':=(⟨180,[(1,L sc),(2,I seed),(3,I d),(4,I ah),(5,L fs),(7,.o (.c (.ptr 0 0))),(13,.o (.c (.ptr 1 0))),(16,.o (.c (.ptr 11 0))),(17,B b),(18,.o (.c (.ptr 13 0))),(19,.o (.c (.ref 14))),(20,.o (.c (.ref 15))),(21,.o (.c (.ptr 17 0))),(22,.o (.c (.ptr 27 0))),(23,B b),(83,.o (.ag (mC y 18))),(84,.o (.ag (mC y 2)))],[.box ((Enc.e l).map (V1.rd [])),.box ((Enc.e w).map (V1.rd [])),.row 1 (els y.Level.Rows),.row 1 (els y.Scripts),.row 23 (els y.Peers),.row 1 (els y.Wires),.row 1 (els y.Paces),.row 1 (els y.Acks),.row 6 (els y.Watchers),.row 10 (els y.Lines),.row 2 (els y.Alarms),.box (mC y 2),.row 1 (els l.Rows),.box [.ref 12],.row 1 (els sc),.row 3 (els fs),.row 2 (els w.Flights),.box (wX w (.ref 16)),.row 1 (els y.Level.Rows),.row 1 (els y.Scripts),.row 23 (els y.Peers),.row 1 (els y.Wires),.row 1 (els y.Paces),.row 1 (els y.Acks),.row 6 (els y.Watchers),.row 10 (els y.Lines),.row 2 (els y.Alarms),.box (mC y 18)]⟩:St)) (Xw [0,1,2,3,4,5,6,7,8,9,10,11,12,13,14,15,16,17,18,19,20,21,22,23,24,25,26,27] (by decide) J ((by kernel_rfl)) (.c J (.c J (.c J (.c J (.c J (.c J (.c J (.c J (.c J (.c J (.c J (.c J (.c J (.c J (.c J (.c J (.c J (.nil))))))))))))))))))) ?_;refine zx (Qj J J (hq1) J) J ?_;refine Wz [5,20,44,257,15,26,16,16] ?_
 refine AWP.pre (st':=(⟨180,[(1,L sc),(2,I seed),(3,I d),(4,I ah),(5,L fs),(7,.o (.c (.ptr 0 0))),(13,.o (.c (.ptr 1 0))),(16,.o (.c (.ptr 11 0))),(17,B b),(18,.o (.c (.ptr 13 0))),(19,.o (.c (.ref 14))),(20,.o (.c (.ref 15))),(21,.o (.c (.ptr 17 0))),(22,.o (.c (.ptr 27 0))),(23,B b)],[.box ((Enc.e l).map (V1.rd [])),.box ((Enc.e w).map (V1.rd [])),.row 1 (els y.Level.Rows),.row 1 (els y.Scripts),.row 23 (els y.Peers),.row 1 (els y.Wires),.row 1 (els y.Paces),.row 1 (els y.Acks),.row 6 (els y.Watchers),.row 10 (els y.Lines),.row 2 (els y.Alarms),.box (mC y 2),.row 1 (els l.Rows),.box [.ref 12],.row 1 (els sc),.row 3 (els fs),.row 2 (els w.Flights),.box (wX w (.ref 16)),.row 1 (els y.Level.Rows),.row 1 (els y.Scripts),.row 23 (els y.Peers),.row 1 (els y.Wires),.row 1 (els y.Paces),.row 1 (els y.Acks),.row 6 (els y.Watchers),.row 10 (els y.Lines),.row 2 (els y.Alarms),.box (mC y 18)]⟩:St)) ?_ (Xw [0,1,2,3,4,5,6,7,8,9,10,11,12,13,14,15,16,17,18,19,20,21,22,23,24,25,26,27] (by decide) J ((by kernel_rfl)) (.c J (.c J (.c J (.c J (.c J (.c J (.c J (.c J (.c J (.c J (.c J (.c J (.c J (.c J (.c J (.nil)))))))))))))))))
 refine Xd u8_45 [[],[],[93],[92,93,94],[92,93,94,95]] [[93,94],[92],[92],[],[]] J ?_;refine Wz [147,147] ?_;refine DR.s (Y8 J J (htL) J J J) J J ?_;refine DR.s (Qj J J (hqL) J) J J ?_;refine Wz [87,2] ?_
 refine AWP.pre (st':=(⟨180,[(1,L sc),(2,I seed),(3,I d),(4,I ah),(5,L fs),(7,.o (.c (.ptr 0 0))),(13,.o (.c (.ptr 1 0))),(16,.o (.c (.ptr 11 0))),(17,B b),(18,.o (.c (.ptr 13 0))),(19,.o (.c (.ref 14))),(20,.o (.c (.ref 15))),(21,.o (.c (.ptr 17 0))),(22,.o (.c (.ptr 27 0))),(23,B b),(96,B false)],[.box ((Enc.e l).map (V1.rd [])),.box ((Enc.e w).map (V1.rd [])),.row 1 (els y.Level.Rows),.row 1 (els y.Scripts),.row 23 (els y.Peers),.row 1 (els y.Wires),.row 1 (els y.Paces),.row 1 (els y.Acks),.row 6 (els y.Watchers),.row 10 (els y.Lines),.row 2 (els y.Alarms),.box (mC y 2),.row 1 (els l.Rows),.box [.ref 12],.row 1 (els sc),.row 3 (els fs),.row 2 (els w.Flights),.box (wX w (.ref 16)),.row 1 (els y.Level.Rows),.row 1 (els y.Scripts),.row 23 (els y.Peers),.row 1 (els y.Wires),.row 1 (els y.Paces),.row 1 (els y.Acks),.row 6 (els y.Watchers),.row 10 (els y.Lines),.row 2 (els y.Alarms),.box (mC y 18)]⟩:St)) ?_ (Xw [0,1,2,3,4,5,6,7,8,9,10,11,12,13,14,15,16,17,18,19,20,21,22,23,24,25,26,27] (by decide) J ((by kernel_rfl)) (.c J (.c J (.c J (.c J (.c J (.c J (.c J (.c J (.c J (.c J (.c J (.c J (.c J (.c J (.c J (.c J (.nil))))))))))))))))))
 refine Wz [262,11,28] ?_;refine M1 (Y8 J J (htS) J J J) J J ?_;refine zx (Qj J J (hqS) J) J ?_;refine Wz [53,28] ?_;refine M1 (Y8 J J (htF) J J J) J J ?_;refine zx (Qj J J (hqF) J) J ?_;refine Wz [53,16,16] ?_
 refine AWP.pre (st':=(⟨180,[(1,L sc),(2,I seed),(3,I d),(4,I ah),(5,L fs),(7,.o (.c (.ptr 0 0))),(13,.o (.c (.ptr 1 0))),(16,.o (.c (.ptr 11 0))),(17,B b),(18,.o (.c (.ptr 13 0))),(19,.o (.c (.ref 14))),(20,.o (.c (.ref 15))),(21,.o (.c (.ptr 17 0))),(22,.o (.c (.ptr 27 0))),(23,B b)],[.box ((Enc.e l).map (V1.rd [])),.box ((Enc.e w).map (V1.rd [])),.row 1 (els y.Level.Rows),.row 1 (els y.Scripts),.row 23 (els y.Peers),.row 1 (els y.Wires),.row 1 (els y.Paces),.row 1 (els y.Acks),.row 6 (els y.Watchers),.row 10 (els y.Lines),.row 2 (els y.Alarms),.box (mC y 2),.row 1 (els l.Rows),.box [.ref 12],.row 1 (els sc),.row 3 (els fs),.row 2 (els w.Flights),.box (wX w (.ref 16)),.row 1 (els y.Level.Rows),.row 1 (els y.Scripts),.row 23 (els y.Peers),.row 1 (els y.Wires),.row 1 (els y.Paces),.row 1 (els y.Acks),.row 6 (els y.Watchers),.row 10 (els y.Lines),.row 2 (els y.Alarms),.box (mC y 18)]⟩:St)) ?_ (Xw [0,1,2,3,4,5,6,7,8,9,10,11,12,13,14,15,16,17,18,19,20,21,22,23,24,25,26,27] (by decide) J ((by kernel_rfl)) (.c J (.c J (.c J (.c J (.c J (.c J (.c J (.c J (.c J (.c J (.c J (.c J (.c J (.c J (.c J (.nil)))))))))))))))))
 refine Xd u8_45 [[],[],[108],[107,108,109],[107,108,109,110]] [[108,109],[107],[107],[],[]] J ?_;refine Wz [147,147] ?_;refine DR.s (Y8 J J (htw) J J J) J J ?_;refine DR.s (Qj J J (hqw) J) J J ?_;refine Wz [87,2] ?_
 refine AWP.pre (st':=(⟨180,[(1,L sc),(2,I seed),(3,I d),(4,I ah),(5,L fs),(7,.o (.c (.ptr 0 0))),(13,.o (.c (.ptr 1 0))),(16,.o (.c (.ptr 11 0))),(17,B b),(18,.o (.c (.ptr 13 0))),(19,.o (.c (.ref 14))),(20,.o (.c (.ref 15))),(21,.o (.c (.ptr 17 0))),(22,.o (.c (.ptr 27 0))),(23,B b),(111,B false)],[.box ((Enc.e l).map (V1.rd [])),.box ((Enc.e w).map (V1.rd [])),.row 1 (els y.Level.Rows),.row 1 (els y.Scripts),.row 23 (els y.Peers),.row 1 (els y.Wires),.row 1 (els y.Paces),.row 1 (els y.Acks),.row 6 (els y.Watchers),.row 10 (els y.Lines),.row 2 (els y.Alarms),.box (mC y 2),.row 1 (els l.Rows),.box [.ref 12],.row 1 (els sc),.row 3 (els fs),.row 2 (els w.Flights),.box (wX w (.ref 16)),.row 1 (els y.Level.Rows),.row 1 (els y.Scripts),.row 23 (els y.Peers),.row 1 (els y.Wires),.row 1 (els y.Paces),.row 1 (els y.Acks),.row 6 (els y.Watchers),.row 10 (els y.Lines),.row 2 (els y.Alarms),.box (mC y 18)]⟩:St)) ?_ (Xw [0,1,2,3,4,5,6,7,8,9,10,11,12,13,14,15,16,17,18,19,20,21,22,23,24,25,26,27] (by decide) J ((by kernel_rfl)) (.c J (.c J (.c J (.c J (.c J (.c J (.c J (.c J (.c J (.c J (.c J (.c J (.c J (.c J (.c J (.c J (.nil))))))))))))))))))
 refine Wz [262,11,33,40,0] ?_;refine Xa (lo := [_]) (gs := [(0,.ag [.ref 0])]) (lo' := [_]) (new := []) [12] [(0,0,.ref 0)] (hmL) J J J J J J J J J J J J J J J J J ?_;refine AL.weak (st':=(⟨180,[(1,L sc),(2,I seed),(3,I d),(4,I ah),(5,L fs),(7,.o (.c (.ptr 0 0))),(13,.o (.c (.ptr 1 0))),(16,.o (.c (.ptr 11 0))),(17,B b),(19,.o (.c (.ref 12))),(20,.o (.c (.ref 13))),(21,.o (.c (.ptr 15 0))),(22,.o (.c (.ptr 25 0))),(23,B b),(114,I K1)],[.box ((Enc.e l).map (V1.rd [])),.box ((Enc.e w).map (V1.rd [])),.row 1 (els y.Level.Rows),.row 1 (els y.Scripts),.row 23 (els y.Peers),.row 1 (els y.Wires),.row 1 (els y.Paces),.row 1 (els y.Acks),.row 6 (els y.Watchers),.row 10 (els y.Lines),.row 2 (els y.Alarms),.box (mC y 2),.row 1 (els sc),.row 3 (els fs),.row 2 (els w.Flights),.box (wX w (.ref 14)),.row 1 (els y.Level.Rows),.row 1 (els y.Scripts),.row 23 (els y.Peers),.row 1 (els y.Wires),.row 1 (els y.Paces),.row 1 (els y.Acks),.row 6 (els y.Watchers),.row 10 (els y.Lines),.row 2 (els y.Alarms),.box (mC y 16)]⟩:St)) (Xw [0,1,2,3,4,5,6,7,8,9,10,11,14,15,16,17,18,19,20,21,22,23,24,25,26,27] (by decide) J ((by kernel_rfl)) (.c J (.c J (.c J (.c J (.c J (.c J (.c J (.c J (.c J (.c J (.c J (.c J (.c J (.c J (.c J (.nil))))))))))))))))) ?_;refine Wz [3,10] ?_;refine Xa (lo := [_]) (gs := [(0,.c (.ref 0))]) (lo' := [_]) (new := []) [12] [(0,0,.ref 0)] (hmS) J J J J J J J J J J J J J J J J J ?_;refine AL.weak (st':=(⟨180,[(1,L sc),(2,I seed),(3,I d),(4,I ah),(5,L fs),(7,.o (.c (.ptr 0 0))),(13,.o (.c (.ptr 1 0))),(16,.o (.c (.ptr 11 0))),(17,B b),(20,.o (.c (.ref 12))),(21,.o (.c (.ptr 14 0))),(22,.o (.c (.ptr 24 0))),(23,B b),(117,I K2)],[.box ((Enc.e l).map (V1.rd [])),.box ((Enc.e w).map (V1.rd [])),.row 1 (els y.Level.Rows),.row 1 (els y.Scripts),.row 23 (els y.Peers),.row 1 (els y.Wires),.row 1 (els y.Paces),.row 1 (els y.Acks),.row 6 (els y.Watchers),.row 10 (els y.Lines),.row 2 (els y.Alarms),.box (mC y 2),.row 3 (els fs),.row 2 (els w.Flights),.box (wX w (.ref 13)),.row 1 (els y.Level.Rows),.row 1 (els y.Scripts),.row 23 (els y.Peers),.row 1 (els y.Wires),.row 1 (els y.Paces),.row 1 (els y.Acks),.row 6 (els y.Watchers),.row 10 (els y.Lines),.row 2 (els y.Alarms),.box (mC y 15)]⟩:St)) (Xw [0,1,2,3,4,5,6,7,8,9,10,11,13,14,15,16,17,18,19,20,21,22,23,24,25] (by decide) J ((by kernel_rfl)) (.c J (.c J (.c J (.c J (.c J (.c J (.c J (.c J (.c J (.c J (.c J (.c J (.c J (.c J (.nil)))))))))))))))) ?_;refine Wz [3,10] ?_;refine Xa (lo := [_]) (gs := [(0,.c (.ref 0))]) (lo' := [_]) (new := []) [12] [(0,0,.ref 0)] (hmF) J J J J J J J J J J J J J J J J J ?_;refine AL.weak (st':=(⟨180,[(1,L sc),(2,I seed),(3,I d),(4,I ah),(5,L fs),(7,.o (.c (.ptr 0 0))),(13,.o (.c (.ptr 1 0))),(16,.o (.c (.ptr 11 0))),(17,B b),(21,.o (.c (.ptr 13 0))),(22,.o (.c (.ptr 23 0))),(23,B b),(120,I K3)],[.box ((Enc.e l).map (V1.rd [])),.box ((Enc.e w).map (V1.rd [])),.row 1 (els y.Level.Rows),.row 1 (els y.Scripts),.row 23 (els y.Peers),.row 1 (els y.Wires),.row 1 (els y.Paces),.row 1 (els y.Acks),.row 6 (els y.Watchers),.row 10 (els y.Lines),.row 2 (els y.Alarms),.box (mC y 2),.row 2 (els w.Flights),.box (wX w (.ref 12)),.row 1 (els y.Level.Rows),.row 1 (els y.Scripts),.row 23 (els y.Peers),.row 1 (els y.Wires),.row 1 (els y.Paces),.row 1 (els y.Acks),.row 6 (els y.Watchers),.row 10 (els y.Lines),.row 2 (els y.Alarms),.box (mC y 14)]⟩:St)) (Xw [0,1,2,3,4,5,6,7,8,9,10,11,13,14,15,16,17,18,19,20,21,22,23,24] (by decide) J ((by kernel_rfl)) (.c J (.c J (.c J (.c J (.c J (.c J (.c J (.c J (.c J (.c J (.c J (.c J (.c J (.nil))))))))))))))) ?_;refine Wz [3,40,0] ?_;refine Xa (lo := [_]) (gs := [(0,.ag (wX w (.ref 0)))]) (lo' := [_]) (new := []) [12] [(0,7,.ref 0)] (hmw) J J J J J J J J J J J J J J J J J ?_;refine AL.weak (st':=(⟨180,[(1,L sc),(2,I seed),(3,I d),(4,I ah),(5,L fs),(7,.o (.c (.ptr 0 0))),(13,.o (.c (.ptr 1 0))),(16,.o (.c (.ptr 11 0))),(17,B b),(22,.o (.c (.ptr 21 0))),(23,B b),(123,I K4)],[.box ((Enc.e l).map (V1.rd [])),.box ((Enc.e w).map (V1.rd [])),.row 1 (els y.Level.Rows),.row 1 (els y.Scripts),.row 23 (els y.Peers),.row 1 (els y.Wires),.row 1 (els y.Paces),.row 1 (els y.Acks),.row 6 (els y.Watchers),.row 10 (els y.Lines),.row 2 (els y.Alarms),.box (mC y 2),.row 1 (els y.Level.Rows),.row 1 (els y.Scripts),.row 23 (els y.Peers),.row 1 (els y.Wires),.row 1 (els y.Paces),.row 1 (els y.Acks),.row 6 (els y.Watchers),.row 10 (els y.Lines),.row 2 (els y.Alarms),.box (mC y 12)]⟩:St)) (Xw [0,1,2,3,4,5,6,7,8,9,10,11,14,15,16,17,18,19,20,21,22,23] (by decide) J ((by kernel_rfl)) (.c J (.c J (.c J (.c J (.c J (.c J (.c J (.c J (.c J (.c J (.c J (.c J (.nil)))))))))))))) ?_;refine Wz [189,44,38,1,38,1] ?_;refine zx (Qj J J (hq1) J) J ?_;refine Wz [1,5,15,20,44,257,15,26,33,40,0] ?_;refine Xa (lo := [_,_,_,_,_,_,_,_,_]) (gs := [(0,.ag (mC y 0))]) (lo' := [_,_,_,_,_,_,_,_,_]) (new := []) [12,13,14,15,16,17,18,19,20] [(0,0,.ref 0),(0,3,.ref 1),(0,4,.ref 2),(0,5,.ref 3),(0,6,.ref 4),(0,7,.ref 5),(0,9,.ref 6),(0,10,.ref 7),(0,11,.ref 8)] (hm_y) J J J J J J J J J J J J J J J J J ?_;refine AL.weak (st':=(⟨180,[(1,L sc),(2,I seed),(3,I d),(4,I ah),(5,L fs),(7,.o (.c (.ptr 0 0))),(13,.o (.c (.ptr 1 0))),(16,.o (.c (.ptr 11 0))),(17,B b),(22,.o (.c (.ptr 21 0))),(23,B b),(139,I (n9M y 1))],[.box ((Enc.e l).map (V1.rd [])),.box ((Enc.e w).map (V1.rd [])),.row 1 (els y.Level.Rows),.row 1 (els y.Scripts),.row 23 (els y.Peers),.row 1 (els y.Wires),.row 1 (els y.Paces),.row 1 (els y.Acks),.row 6 (els y.Watchers),.row 10 (els y.Lines),.row 2 (els y.Alarms),.box (mC y 2),.row 1 (mkEs (els y.Level.Rows) 1),.row 1 (mkEs (els y.Scripts) (n1M y 1)),.row 23 (mkEs (els y.Peers) (n2M y 1)),.row 1 (mkEs (els y.Wires) (n3M y 1)),.row 1 (mkEs (els y.Paces) (n4M y 1)),.row 1 (mkEs (els y.Acks) (n5M y 1)),.row 6 (mkEs (els y.Watchers) (n6M y 1)),.row 10 (mkEs (els y.Lines) (n7M y 1)),.row 2 (mkEs (els y.Alarms) (n8M y 1)),.box (mC y 12)]⟩:St)) (Xw [0,1,2,3,4,5,6,7,8,9,10,11,12,13,14,15,16,17,18,19,20,21] (by decide) J ((by kernel_rfl)) (.c J (.c J (.c J (.c J (.c J (.c J (.c J (.c J (.c J (.c J (.c J (.c J (.nil)))))))))))))) ?_;refine Wz [3,33,40,0] ?_;refine zx (Qj J J (hh) J) J ?_;refine Wz [59,28,263,16] ?_
 refine AWP.pre (st':=(⟨180,[(1,L sc),(2,I seed),(3,I d),(4,I ah),(5,L fs),(7,.o (.c (.ptr 0 0))),(13,.o (.c (.ptr 1 0))),(16,.o (.c (.ptr 11 0))),(17,B b),(22,.o (.c (.ptr 21 0))),(23,B b),(25,I (n9M y 1))],[.box ((Enc.e l).map (V1.rd [])),.box ((Enc.e w).map (V1.rd [])),.row 1 (els y.Level.Rows),.row 1 (els y.Scripts),.row 23 (els y.Peers),.row 1 (els y.Wires),.row 1 (els y.Paces),.row 1 (els y.Acks),.row 6 (els y.Watchers),.row 10 (els y.Lines),.row 2 (els y.Alarms),.box (mC y 2),.row 1 (mkEs (els y.Level.Rows) 1),.row 1 (mkEs (els y.Scripts) (n1M y 1)),.row 23 (mkEs (els y.Peers) (n2M y 1)),.row 1 (mkEs (els y.Wires) (n3M y 1)),.row 1 (mkEs (els y.Paces) (n4M y 1)),.row 1 (mkEs (els y.Acks) (n5M y 1)),.row 6 (mkEs (els y.Watchers) (n6M y 1)),.row 10 (mkEs (els y.Lines) (n7M y 1)),.row 2 (mkEs (els y.Alarms) (n8M y 1)),.box (mC y 12)]⟩:St)) ?_ (Xw [0,1,2,3,4,5,6,7,8,9,10,11,12,13,14,15,16,17,18,19,20,21] (by decide) J ((by kernel_rfl)) (.c J (.c J (.c J (.c J (.c J (.c J (.c J (.c J (.c J (.c J (.c J (.c J (.nil))))))))))))))
 refine Xd u8_44 [[],[149],[],[149,150,151],[],[],[],[],[149,150,151,152,156],[],[149,150,151,152,156,157,158],[149,150,151,152,153,154,155,156,157,158,159],[149,150,151,152,153,154,155,156,157,158,159,160],[148,149,150,151,152,153,154,155,156,157,158,159,160],[148,149,150,151,152,153,154,155,156,157,158,159,160],[],[27,148,149,150,151,152,153,154,155,156,157,158,159,160,161],[27,148,149,150,151,152,153,154,155,156,157,158,159,160,161,162]] [[27,151,153,154,155,156,158],[27,151,153,154,155,156,158],[27,149,150,153,154,155,156,158],[27,153,154,155,156,158],[27,149,150,151,152,154,155,156,157,158,159],[27,149,150,151,152,153,155,156,157,158,159],[27,149,150,151,152,153,154,156,157,158,159],[27,149,150,151,152,153,154,155,158],[27,153,154,155,158],[27,149,150,151,152,153,154,155,156,157],[27,153,154,155],[27],[27],[27,162],[27,161],[148,149,150,151,152,153,154,155,156,157,158,159,160,161,162],[162],[],[14]] J (DR.s (Qu J J J J J J) J J ?_);refine DR.s (Y8 J J (htL) J J J) J J ?_;refine DR.s (Qa J J J) J J ?_;refine DR.s (Y8 J J (htS) J J J) J J ?_;refine Wz [142,142] ?_;refine DR.s (Y8 J J (htF) J J J) J J ?_;refine DR.s (Qu J J J J J J) J J ?_;refine DR.s (Y8 J J (htw) J J J) J J ?_;refine DR.s (Y8 J J (hip) J J J) J J ?_;refine Wz [237,188,188,196,30] ?_;refine AL.weak (st':=(⟨180,[(1,L sc),(2,I seed),(3,I d),(4,I ah),(5,L fs),(7,.o (.c (.ptr 0 0))),(13,.o (.c (.ptr 1 0))),(16,.o (.c (.ptr 11 0))),(17,B b),(22,.o (.c (.ptr 21 0))),(23,B b),(25,I (n9M y 1)),(27,.o (.c (.ptr 31 0))),(161,.o (.ag (mC y 22))),(162,B b)],[.box ((Enc.e l).map (V1.rd [])),.box ((Enc.e w).map (V1.rd [])),.row 1 (els y.Level.Rows),.row 1 (els y.Scripts),.row 23 (els y.Peers),.row 1 (els y.Wires),.row 1 (els y.Paces),.row 1 (els y.Acks),.row 6 (els y.Watchers),.row 10 (els y.Lines),.row 2 (els y.Alarms),.box (mC y 2),.row 1 (mkEs (els y.Level.Rows) 1),.row 1 (mkEs (els y.Scripts) (n1M y 1)),.row 23 (mkEs (els y.Peers) (n2M y 1)),.row 1 (mkEs (els y.Wires) (n3M y 1)),.row 1 (mkEs (els y.Paces) (n4M y 1)),.row 1 (mkEs (els y.Acks) (n5M y 1)),.row 6 (mkEs (els y.Watchers) (n6M y 1)),.row 10 (mkEs (els y.Lines) (n7M y 1)),.row 2 (mkEs (els y.Alarms) (n8M y 1)),.box (mC y 12),.row 1 (els y.Level.Rows),.row 1 (els y.Scripts),.row 23 (els y.Peers),.row 1 (els y.Wires),.row 1 (els y.Paces),.row 1 (els y.Acks),.row 6 (els y.Watchers),.row 10 (els y.Lines),.row 2 (els y.Alarms),.box zM]⟩:St)) (Xw [0,1,2,3,4,5,6,7,8,9,10,11,12,13,14,15,16,17,18,19,20,21,26,27,28,29,30,31,32,33,34,35] (by decide) J ((by kernel_rfl)) (.c J (.c J (.c J (.c J (.c J (.c J (.c J (.c J (.c J (.c J (.c J (.c J (.c J (.c J (.c J (.nil))))))))))))))))) ?_;refine Qy J J J J J J J J J ?_;refine AL.weak (st':=(⟨180,[(1,L sc),(2,I seed),(3,I d),(4,I ah),(5,L fs),(7,.o (.c (.ptr 0 0))),(13,.o (.c (.ptr 1 0))),(16,.o (.c (.ptr 11 0))),(17,B b),(22,.o (.c (.ptr 21 0))),(23,B b),(25,I (n9M y 1)),(27,.o (.c (.ptr 31 0))),(162,B b)],[.box ((Enc.e l).map (V1.rd [])),.box ((Enc.e w).map (V1.rd [])),.row 1 (els y.Level.Rows),.row 1 (els y.Scripts),.row 23 (els y.Peers),.row 1 (els y.Wires),.row 1 (els y.Paces),.row 1 (els y.Acks),.row 6 (els y.Watchers),.row 10 (els y.Lines),.row 2 (els y.Alarms),.box (mC y 2),.row 1 (mkEs (els y.Level.Rows) 1),.row 1 (mkEs (els y.Scripts) (n1M y 1)),.row 23 (mkEs (els y.Peers) (n2M y 1)),.row 1 (mkEs (els y.Wires) (n3M y 1)),.row 1 (mkEs (els y.Paces) (n4M y 1)),.row 1 (mkEs (els y.Acks) (n5M y 1)),.row 6 (mkEs (els y.Watchers) (n6M y 1)),.row 10 (mkEs (els y.Lines) (n7M y 1)),.row 2 (mkEs (els y.Alarms) (n8M y 1)),.box (mC y 12),.row 1 (els y.Level.Rows),.row 1 (els y.Scripts),.row 23 (els y.Peers),.row 1 (els y.Wires),.row 1 (els y.Paces),.row 1 (els y.Acks),.row 6 (els y.Watchers),.row 10 (els y.Lines),.row 2 (els y.Alarms),.box (mC y 22)]⟩:St)) (Xw [0,1,2,3,4,5,6,7,8,9,10,11,12,13,14,15,16,17,18,19,20,21,22,23,24,25,26,27,28,29,30,31] (by decide) J ((by kernel_rfl)) (.c J (.c J (.c J (.c J (.c J (.c J (.c J (.c J (.c J (.c J (.c J (.c J (.c J (.c J (.nil)))))))))))))))) ?_;refine Wz [3,112,38,38] ?_;refine zx (Qj J J (hq1) J) J ?_;refine Wz [5,20,44,257,15,26,33,40,0] ?_;refine zx (Qj J J (hh) J) J ?_;refine Wz [59,28,263,138] ?_
 exact Xi J J (Xt [] (by decide) J J J)
end
section
open Go.ChangeShapes Go.WideShapes Go.ChangeAt Go.RowKit

def RL (w:World) (ts:List T) (cs:List Value):Prop:=∀ (j:Nat) (t:T) (u:Value),ts[j]? = some t→cs[j]? = some u→RO w (fun _=>True) t u
theorem RL.nil {w:World} {cs:List Value}:RL w [] cs:=fun _ _ _ h=>by simp at h
theorem RL.app {w:World} {ts us:List T} {cs:List Value} {o n:Nat} (h1:RL w ts ((cs.drop o).take n)) (hn:ts.length=n) (h2:RL w us (cs.drop (o+n))):RL w (ts++us) (cs.drop o):=fun j t u h3 h4=>by
 rcases Gqq j ts.length with hj | hj
 ·rw[Gq1 hj] at h3
  exact h1 j t u h3 (by rw[Gxf,if_pos (by omega)]; exact h4)
 ·rw[Gqx hj] at h3
  refine h2 (j-ts.length) t u h3 ?_
  rw[List.getElem?_drop] at h4 ⊢
  rw[←h4]
  congr 1
  omega
theorem Zv {P:Program} {t tt:TypeId} {fs:Array Field} {f:Field} {α:Type} [Enc α] {H:Type} {enc:TypeId×Value→H} {w:World} {spare:Nat→Bool} {held:Bool} {fuel:Nat} {cs:List Value} {x:DataW H×List MemPlace}
  (ht:P.underlying t=some (.struct fs)) (h:DataW.trod enc P w 0 spare held fuel t cs=some x) (i:Nat) (hf:fs[i]? = some f) (hty:f.type=tt) [hα:RdOf P tt α] {o:Nat} (ho:f.offset=o) :
  ∃ y:α,Enc.gd y∧RL w (Enc.e y) ((cs.drop o).take (Enc.k α)):=by
 obtain⟨xs,n,_,_,hl,hlen,hfs⟩:=DataW.trod_struct ht h
 have h1:=hfs i f hf
 have hi:i<fs.size:=by
  rcases Gqq i fs.size with h2 | h2
  ·exact h2
  ·rw[Array.getElem?_eq_none h2] at hf; cases hf
 rw[Gqe (by omega),hty,ho,hα.size] at h1
 obtain⟨y,hg,hr⟩:=hα.of h1
 exact⟨y,hg,hr.2⟩
theorem Zw {P:Program} {t:TypeId} {fs:Array Field} {H:Type} {enc:TypeId×Value→H} {w:World} {spare:Nat→Bool} {held:Bool} {fuel:Nat} {cs:List Value} {x:DataW H×List MemPlace}
  (ht:P.underlying t=some (.struct fs)) (h:DataW.trod enc P w 0 spare held fuel t cs=some x):cs.length=P.cellsOf t:=by
 obtain⟨xs,n,_,_,hl,_⟩:=DataW.trod_struct ht h
 exact hl

instance:RdOf Tryz.prog 3 Int:=rdOf_int Tryz.underlying3 (by kernel_rfl)
instance:RdOf Tryz.prog 9 ByteArray:=rdOf_string Tryz.underlying9 (by kernel_rfl)
instance:RdOf Tryz.prog 64 (List Int):=Zu Tryz.underlying64 (by kernel_rfl)
instance:RdOf Tryz.prog 22 (List ByteArray):=Zu Tryz.underlying22 (by kernel_rfl)
instance:RdOf Tryz.prog 25 (List (List Int)):=Zu Tryz.underlying25 (by kernel_rfl)
instance:RdOf Tryz.prog 24 TLevel where
 size:=by kernel_rfl
 of {H enc w spare held fuel cs x} h:=by
  obtain⟨y0,g0,r0⟩:=Zv (α:=(List ByteArray)) (tt:=22) Tryz.underlying24 h 0 rfl rfl rfl
  refine⟨⟨y0⟩,g0,?_,?_⟩
  ·rw[Zw Tryz.underlying24 h]; kernel_rfl
  ·exact (RL.app (o:=0) (n:=1) r0 rfl (RL.nil):RL w _ (cs.drop 0))
end
section
open Go.ChangeShapes Go.WideShapes Go.ChangeAt Go.RowKit

instance:RdOf Tryz.prog 261 TBody where
 size:=by kernel_rfl
 of {H enc w spare held fuel cs x} h:=by
  obtain⟨y0,g0,r0⟩:=Zv (α:=Int) (tt:=3) Tryz.underlying261 h 0 rfl rfl rfl
  obtain⟨y1,g1,r1⟩:=Zv (α:=Int) (tt:=3) Tryz.underlying261 h 1 rfl rfl rfl
  obtain⟨y2,g2,r2⟩:=Zv (α:=Int) (tt:=3) Tryz.underlying261 h 2 rfl rfl rfl
  obtain⟨y3,g3,r3⟩:=Zv (α:=Int) (tt:=3) Tryz.underlying261 h 3 rfl rfl rfl
  obtain⟨y4,g4,r4⟩:=Zv (α:=Int) (tt:=3) Tryz.underlying261 h 4 rfl rfl rfl
  obtain⟨y5,g5,r5⟩:=Zv (α:=Int) (tt:=3) Tryz.underlying261 h 5 rfl rfl rfl
  obtain⟨y6,g6,r6⟩:=Zv (α:=Int) (tt:=3) Tryz.underlying261 h 6 rfl rfl rfl
  obtain⟨y7,g7,r7⟩:=Zv (α:=Int) (tt:=3) Tryz.underlying261 h 7 rfl rfl rfl
  obtain⟨y8,g8,r8⟩:=Zv (α:=Int) (tt:=3) Tryz.underlying261 h 8 rfl rfl rfl
  refine⟨⟨y0,y1,y2,y3,y4,y5,y6,y7,y8⟩,⟨g0,g1,g2,g3,g4,g5,g6,g7,g8⟩,?_,?_⟩
  ·rw[Zw Tryz.underlying261 h]; kernel_rfl
  ·exact (RL.app (o:=0) (n:=1) r0 rfl (RL.app (o:=1) (n:=1) r1 rfl (RL.app (o:=2) (n:=1) r2 rfl (RL.app (o:=3) (n:=1) r3 rfl (RL.app (o:=4) (n:=1) r4 rfl (RL.app (o:=5) (n:=1) r5 rfl (RL.app (o:=6) (n:=1) r6 rfl (RL.app (o:=7) (n:=1) r7 rfl (RL.app (o:=8) (n:=1) r8 rfl (RL.nil))))))))):RL w _ (cs.drop 0))
instance:RdOf Tryz.prog 65 (List TBody):=Zu Tryz.underlying65 (by kernel_rfl)
instance:RdOf Tryz.prog 67 TWorld where
 size:=by kernel_rfl
 of {H enc w spare held fuel cs x} h:=by
  obtain⟨y0,g0,r0⟩:=Zv (α:=TLevel) (tt:=24) Tryz.underlying67 h 0 rfl rfl rfl
  obtain⟨y1,g1,r1⟩:=Zv (α:=Int) (tt:=3) Tryz.underlying67 h 1 rfl rfl rfl
  obtain⟨y2,g2,r2⟩:=Zv (α:=Int) (tt:=3) Tryz.underlying67 h 2 rfl rfl rfl
  obtain⟨y3,g3,r3⟩:=Zv (α:=(List Int)) (tt:=64) Tryz.underlying67 h 3 rfl rfl rfl
  obtain⟨y4,g4,r4⟩:=Zv (α:=(List TBody)) (tt:=65) Tryz.underlying67 h 4 rfl rfl rfl
  refine⟨⟨y0,y1,y2,y3,y4⟩,⟨g0,g1,g2,g3,g4⟩,?_,?_⟩
  ·rw[Zw Tryz.underlying67 h]; kernel_rfl
  ·exact (RL.app (o:=0) (n:=1) r0 rfl (RL.app (o:=1) (n:=1) r1 rfl (RL.app (o:=2) (n:=1) r2 rfl (RL.app (o:=3) (n:=1) r3 rfl (RL.app (o:=4) (n:=1) r4 rfl (RL.nil))))):RL w _ (cs.drop 0))
end
end Go.Proofs.YtoecjaohdnoenaaGreat
