/-
  Rules, data and contracts of functions: part 32 of the proof.
  Conditions: those that each theorem names.
-/
import Derived.Test.YtoecjaohdnoenaaGreatDDRecRowk30
set_option linter.unusedSimpArgs false
set_option linter.unusedVariables false
set_option maxRecDepth 8000
set_option maxHeartbeats 8000000
namespace Go.Proofs.YtoecjaohdnoenaaGreat
section
open Go.RowKit

theorem tot_le4:∀ (xs:List (List Int)),(∀ x∈xs,x.length≤4)→tot xs≤4*xs.length
 | [],_=>by simp[tot]
 |y::ys,h=>by
  have h1:=tot_le4 ys fun x hx=>h x (by simp[hx])
  have h2:tot (y::ys)=y.length+tot ys:=by simp[tot]
  have h3:=h y (by simp)
  simp only[Gqx]
  omega
theorem ok_in {y:TReplay} (gy:Enc.gd y) (h1:y.Level.Rows.length≤1048576) (h:replayOk y=true):RepIn y:=by
 have hr:=rok h
 unfold replayOk at h
 simp only[Gqi,decide_eq_true_eq,Za] at h
 obtain⟨⟨⟨⟨⟨⟨_,h2⟩,_⟩,_⟩,h5⟩,h6⟩,_⟩:=h
 have h7:=tot_le4 y.Rows fun x hx=>by
  have h8:=Gqm.1 h6 x hx
  rw[rowOk,Gqi,decide_eq_true_eq] at h8
  omega
 exact⟨gy,h1,Gxg hr.k (by decide),Gxg h5 (by decide),by omega⟩
def KeysIn (y:TReplay):Prop:=∀ s∈y.Keys,s.size≤1048576
theorem add_both {x:TReplay} {row:List Int} (ix:RepIn x) (gr:Enc.gd row) (hk:KeysIn x):RepIn (addRow x row).1∧KeysIn (addRow x row).1:=by
 have hbad:∀ p:TReplay×Bool,p=(x,false)→RepIn p.1∧KeysIn p.1:=fun p hp=>by rw[hp]; exact⟨ix,hk⟩
 cases h1:keyAt x ((x.Keys.length:Int)-1) with
 |none=>exact hbad _ (add_key h1)
 | some last =>
  cases hs:seekM x x.Rows.length with
  |none=>exact hbad _ (add_seek hs)
  | some w =>
   cases ho:replayOk (addOne x row last w) with
   |false=>exact hbad _ (add_no h1 hs ho)
   | true =>
    rw[add_yes h1 hs ho]
    refine⟨ok_in (add_gd ix.gd gr ix.h2 ix.h3) ix.h1 ho,fun s hm => ?_⟩
    simp only[addOne] at hm
    split at hm
    ·rcases Gqp.1 hm with h | h
     ·exact hk s h
     ·rw[Gxf] at h
      subst h
      have h5:=deltaT_size (worldBytes last) (worldBytes (stepW w row))
      have h6:=Yr (stepW w row)
      omega
    ·exact hk s hm
noncomputable def addsG (r:TReplay) (rows:List (List Int)):Nat→Option TReplay
 |0=>some r
 | k+1=>match addsG r rows k with
  |none=>none
  |some x=>match rows[k]? with
   |none=>some x
   |some row=>if (addRow x row).2=true then some (addRow x row).1 else none
theorem adds_go {r x:TReplay} {rows:List (List Int)} {row:List Int} {k:Nat} (h:addsG r rows k=some x) (hr:rows[k]? = some row) (hb:(addRow x row).2=true):addsG r rows (k+1)=some (addRow x row).1:=by
 rw[addsG,h]
 simp only[hr]
 exact if_pos hb
theorem adds_no {r x:TReplay} {rows:List (List Int)} {row:List Int} {k:Nat} (h:addsG r rows k=some x) (hr:rows[k]? = some row) (hb:(addRow x row).2=false):∀ {n:Nat},k<n→addsG r rows n=none
 | n+1,hlt=>by
  rcases Gqo k n with h1 | h1
  ·rw[addsG,adds_no h hr hb h1]
  ·have:k=n:=by omega
   subst this
   rw[addsG,h]
   simp only[hr]
   exact if_neg (by rw[hb]; exact Gxt)
noncomputable def addsM (r:TReplay) (rows:List (List Int)):TReplay×Bool:=match addsG r rows rows.length with
 |none=>(r,false)
 |some x=>(x,true)
theorem adds_F {r:TReplay} {rows:List (List Int)} (h:addsG r rows rows.length=none):addsM r rows=(r,false):=by rw[addsM,h]
theorem adds_T {r x:TReplay} {rows:List (List Int)} (h:addsG r rows rows.length=some x):addsM r rows=(x,true):=by rw[addsM,h]
theorem I_AddRows (r:TReplay) (rows:List (List Int)) (gr:Enc.gd rows) (ir:RepIn r) (hw:∀ row∈rows,row.length≤1048576) (hks:KeysIn r):Con Tryz.prog 108 [] [ag r,al rows] (ownO (Enc.e (addsM r rows).1)) (.tu [.ag (ownV 0 (Enc.e (addsM r rows).1)),.c (bv (addsM r rows).2)]):=by
 have cc:=I_copyReplay r ir.gd ir.h1 ir.h2 ir.h3 (rows_tot ir.h4)
 have hlr:=Yx rows
 have hlg:=gr.1
 refine Con.of Tryz.func108 J Tryz.ntmps108 J (fun E => ?_)
 refine Wz [53,2,14] ?_;refine M1 (Z3 J J (cc) J J J) J J ?_;refine Wz [94,40,7,142,44] ?_
 refine AWP.pre (st':=(⟨_,[(1,L rows),(2,.o (.c (.ptr 0 0))),(4,.o (.c (.ptr 1 0))),(6,.o (.c (.ptr 2 0))),(13,L rows),(14,I (els rows).length),(15,I 0)],[.box ((Enc.e r).map (V1.rd [])),.box [nilV,jn 0,jn 0,jn 0,nilV,nilV],.box [.ref 3,jn r.Players,jn r.Seed,jn r.Every,.ref 4,.ref 5],.row 1 (els r.Level.Rows),.row 1 (els r.Rows),.row 1 (els r.Keys)]⟩:St)) ?_ (Gi [0,1,5,2,3,4])
 refine Xj (fun m st=>∃ (k:Nat) (x:TReplay),k+m=rows.length∧(addsG r rows k=some x∧RepIn x∧KeysIn x)∧st=(⟨_,[(1,L rows),(2,.o (.c (.ptr 0 0))),(4,.o (.c (.ptr 1 0))),(6,.o (.c (.ptr 2 0))),(13,L rows),(14,I (els rows).length),(15,I k)],[.box ((Enc.e r).map (V1.rd [])),.box [nilV,jn 0,jn 0,jn 0,nilV,nilV],.box [.ref 3,jn x.Players,jn x.Seed,jn x.Every,.ref 4,.ref 5],.row 1 (els x.Level.Rows),.row 1 (els x.Rows),.row 1 (els x.Keys)]⟩:St)) (rows.length) ⟨_,⟨0,r,by omega,⟨J,ir,hks⟩,J⟩,Gi [0,1,2,3,4,5]⟩ ?_
 rintro m_A _ ⟨k,x,hk_A,hp_A,rfl⟩
 obtain⟨hx,ix,kx⟩:=hp_A
 by_cases hlt:k<rows.length
 ·have hb0:decide ((k:Int)<(els rows).length)=true:=Gqb (by omega)
  obtain⟨row,hr⟩:=K4 hlt
  have hm:=Gqq hr
  have her:=Yz hr
  have ca:=I_AddRow x row ix.gd (gr.2 row hm) ix (hw row hm) kx
  have hin:=add_both ix (gr.2 row hm) kx
  cases hb:(addRow x row).2 with
  |false =>
   rw[hb] at ca
   rw[adds_F (adds_no hx hr hb hlt)]
   generalize (addRow x row).1=z at ca
   refine Wz [4,12,3,8,83,11,4,59,2,14,0] ?_;refine M1 (Z3 J J (ca) J J J) J J ?_;refine Wz [71,66,36,88,29,14] ?_;refine M1 (Z3 J J (cc) J J J) J J ?_;refine Wz [36,135,62,145,64] ?_
   exact qo J J (Gc [10,11,12] J J J)
  |true =>
   have hgo:=adds_go hx hr hb
   rw[hb] at ca
   generalize (addRow x row).1=z at ca hin hgo
   refine Wz [4,12,3,8,83,11,4,59,2,14,0] ?_;refine M1 (Z3 J J (ca) J J J) J J ?_;refine Wz [71,66,36,88,41,138,92,36,51,93] ?_
   exact⟨rows.length-(k+1),by omega,_,⟨k+1,z,by omega,⟨hgo,hin.1,hin.2⟩,J⟩,Gi [0,1,2,6,7,8]⟩
 ·have hb0:decide ((k:Int)<(els rows).length)=false:=Gqa (by omega)
  have hk:k=rows.length:=by omega
  rw[hk] at hx
  rw[adds_T hx]
  refine Wz [4,12,3,8,172,27,14,36,17] ?_
  exact qo J J (Gc [3,4,5] J J J)
theorem S_AddRows (r:TReplay) (rows:List (List Int)) (gr:Enc.gd rows) (ir:RepIn r) (hw:∀ row∈rows,row.length≤1048576) (hks:KeysIn r):Con Tryz.prog 101 [] [ag r,al rows] (ownO (Enc.e (addsM r rows).1)) (.tu [.ag (ownV 0 (Enc.e (addsM r rows).1)),.c (bv (addsM r rows).2)]):=by
 have cc:=S_copyReplayE r ir.gd ir.h1 ir.h2 ir.h3 (rows_tot ir.h4)
 have hlr:=Yx rows
 have hlg:=gr.1
 refine Con.of Tryz.func101 J Tryz.ntmps101 J (fun E => ?_)
 refine Wz [53,2,14] ?_;refine M1 (Z3 J J (cc) J J J) J J ?_;refine Wz [94,46] ?_
 refine AWP.pre (st':=(⟨_,[(1,L rows),(2,.o (.c (.ptr 0 0))),(4,.o (.c (.ptr 1 0))),(6,.o (.c (.ptr 2 0))),(7,I 0)],[.box ((Enc.e r).map (V1.rd [])),.box [nilV,jn 0,jn 0,jn 0,nilV,nilV],.box [.ref 3,jn r.Players,jn r.Seed,jn r.Every,.ref 4,.ref 5],.row 1 (els r.Level.Rows),.row 1 (els r.Rows),.row 1 (els r.Keys)]⟩:St)) ?_ (Gi [0,1,5,2,3,4])
 refine Xj (fun m st=>∃ (k:Nat) (x:TReplay),k+m=rows.length∧(addsG r rows k=some x∧RepIn x∧KeysIn x)∧st=(⟨_,[(1,L rows),(2,.o (.c (.ptr 0 0))),(4,.o (.c (.ptr 1 0))),(6,.o (.c (.ptr 2 0))),(7,I k)],[.box ((Enc.e r).map (V1.rd [])),.box [nilV,jn 0,jn 0,jn 0,nilV,nilV],.box [.ref 3,jn x.Players,jn x.Seed,jn x.Every,.ref 4,.ref 5],.row 1 (els x.Level.Rows),.row 1 (els x.Rows),.row 1 (els x.Keys)]⟩:St)) (rows.length) ⟨_,⟨0,r,by omega,⟨J,ir,hks⟩,J⟩,Gi [0,1,2,3,4,5]⟩ ?_
 rintro m_A _ ⟨k,x,hk_A,hp_A,rfl⟩
 obtain⟨hx,ix,kx⟩:=hp_A
 by_cases hlt:k<rows.length
 ·have hb0:decide ((k:Int)<(els rows).length)=true:=Gqb (by omega)
  obtain⟨row,hr⟩:=K4 hlt
  have hm:=Gqq hr
  have her:=Yz hr
  have ca:=S_AddRow x row ix.gd (gr.2 row hm) ix (hw row hm) kx
  have hin:=add_both ix (gr.2 row hm) kx
  cases hb:(addRow x row).2 with
  |false =>
   rw[hb] at ca
   rw[adds_F (adds_no hx hr hb hlt)]
   generalize (addRow x row).1=z at ca
   refine Wz [20,7,75,11,8] ?_;refine Xi u8_52 u8_53 u8_54 J ?_;refine Wz [114,34,85] ?_;refine Vk (Z3 J J (ca) J J J) J ?_;refine Wz [205,154,154,195,21,36,88,29,14] ?_;refine M1 (Z3 J J (cc) J J J) J J ?_;refine Wz [36,135,62,145,64] ?_
   exact qo J J (Gc [10,11,12] J J J)
  |true =>
   have hgo:=adds_go hx hr hb
   rw[hb] at ca
   generalize (addRow x row).1=z at ca hin hgo
   refine Wz [20,7,75,11,8] ?_;refine Xi u8_52 u8_53 u8_54 J ?_;refine Wz [114,34,85] ?_;refine Vk (Z3 J J (ca) J J J) J ?_;refine Wz [205,154,154,195,21,36,88,41,138,92,36,51,129] ?_
   exact⟨rows.length-(k+1),by omega,_,⟨k+1,z,by omega,⟨hgo,hin.1,hin.2⟩,J⟩,Gi [0,1,2,6,7,8]⟩
 ·have hb0:decide ((k:Int)<(els rows).length)=false:=Gqa (by omega)
  have hk:k=rows.length:=by omega
  rw[hk] at hx
  rw[adds_T hx]
  refine Wz [20,7,12,76,27,14,36,17] ?_
  exact qo J J (Gc [3,4,5] J J J)
end
section
open Go.RowKit

structure TTrack where
 Inputs:(List Int)
 deriving DecidableEq
instance:Enc TTrack:=⟨1,by omega,fun x => [sl x.Inputs],fun _=>rfl,fun x=>Enc.gd x.Inputs,fun x=>Enc.wt x.Inputs⟩
theorem TTrack.same {x y:TTrack} (h0:x.Inputs=y.Inputs):x=y:=by cases x; cases y; simp_all
structure TSave where
 Tick:Int
 Delta:ByteArray
 deriving DecidableEq
instance:Enc TSave:=⟨2,by omega,fun x => [.v (.int .i64 x.Tick),.v (.string x.Delta)],fun _=>rfl,fun x=>Enc.gd x.Tick∧Enc.gd x.Delta,fun x=>Enc.wt x.Delta⟩
theorem TSave.same {x y:TSave} (h0:x.Tick=y.Tick) (h1:x.Delta=y.Delta):x=y:=by cases x; cases y; simp_all
structure TFault where
 Tick:Int
 Player:Int
 Add:Int
 deriving DecidableEq
instance:Enc TFault:=⟨3,by omega,fun x => [.v (.int .i64 x.Tick),.v (.int .i64 x.Player),.v (.int .i64 x.Add)],fun _=>rfl,fun x=>Enc.gd x.Tick∧Enc.gd x.Player∧Enc.gd x.Add,fun x=>0⟩
theorem TFault.same {x y:TFault} (h0:x.Tick=y.Tick) (h1:x.Player=y.Player) (h2:x.Add=y.Add):x=y:=by cases x; cases y; simp_all
structure TPacket where
 From:Int
 Tick:Int
 First:Int
 Inputs:(List Int)
 Acks:(List Int)
 SumTick:Int
 Sum:Int
 Time:Int
 Echo:Int
 deriving DecidableEq
instance:Enc TPacket:=⟨9,by omega,fun x => [.v (.int .i64 x.From),.v (.int .i64 x.Tick),.v (.int .i64 x.First),sl x.Inputs,sl x.Acks,.v (.int .i64 x.SumTick),.v (.int .i64 x.Sum),.v (.int .i64 x.Time),.v (.int .i64 x.Echo)],fun _=>rfl,fun x=>Enc.gd x.From∧Enc.gd x.Tick∧Enc.gd x.First∧Enc.gd x.Inputs∧Enc.gd x.Acks∧Enc.gd x.SumTick∧Enc.gd x.Sum∧Enc.gd x.Time∧Enc.gd x.Echo,fun x=>Enc.wt x.Inputs+Enc.wt x.Acks⟩
theorem TPacket.same {x y:TPacket} (h0:x.From=y.From) (h1:x.Tick=y.Tick) (h2:x.First=y.First) (h3:x.Inputs=y.Inputs) (h4:x.Acks=y.Acks) (h5:x.SumTick=y.SumTick) (h6:x.Sum=y.Sum) (h7:x.Time=y.Time) (h8:x.Echo=y.Echo):x=y:=by cases x; cases y; simp_all
structure TPeer where
 Me:Int
 Delay:Int
 Ahead:Int
 Seed:Int
 Tracks:(List TTrack)
 Base:TWorld
 Now:TWorld
 Used:(List (List Int))
 Saves:(List TSave)
 Sums:(List Int)
 Fault:TFault
 Rolls:Int
 Again:Int
 deriving DecidableEq
instance:Enc TPeer:=⟨23,by omega,fun x => [.v (.int .i64 x.Me),.v (.int .i64 x.Delay),.v (.int .i64 x.Ahead),.v (.int .i64 x.Seed),sl x.Tracks,sl x.Base.Level.Rows,.v (.int .i64 x.Base.Tick),.v (.int .i64 x.Base.Seed),sl x.Base.Scores,sl x.Base.Bodies,sl x.Now.Level.Rows,.v (.int .i64 x.Now.Tick),.v (.int .i64 x.Now.Seed),sl x.Now.Scores,sl x.Now.Bodies,sl x.Used,sl x.Saves,sl x.Sums,.v (.int .i64 x.Fault.Tick),.v (.int .i64 x.Fault.Player),.v (.int .i64 x.Fault.Add),.v (.int .i64 x.Rolls),.v (.int .i64 x.Again)],fun _=>rfl,fun x=>Enc.gd x.Me∧Enc.gd x.Delay∧Enc.gd x.Ahead∧Enc.gd x.Seed∧Enc.gd x.Tracks∧Enc.gd x.Base∧Enc.gd x.Now∧Enc.gd x.Used∧Enc.gd x.Saves∧Enc.gd x.Sums∧Enc.gd x.Fault∧Enc.gd x.Rolls∧Enc.gd x.Again,fun x=>Enc.wt x.Tracks+Enc.wt x.Base+Enc.wt x.Now+Enc.wt x.Used+Enc.wt x.Saves+Enc.wt x.Sums+Enc.wt x.Fault⟩
theorem TPeer.same {x y:TPeer} (h0:x.Me=y.Me) (h1:x.Delay=y.Delay) (h2:x.Ahead=y.Ahead) (h3:x.Seed=y.Seed) (h4:x.Tracks=y.Tracks) (h5:x.Base=y.Base) (h6:x.Now=y.Now) (h7:x.Used=y.Used) (h8:x.Saves=y.Saves) (h9:x.Sums=y.Sums) (h10:x.Fault=y.Fault) (h11:x.Rolls=y.Rolls) (h12:x.Again=y.Again):x=y:=by cases x; cases y; simp_all

theorem sz_Track (x:TTrack) (left:Int) (hg:Enc.gd x) (h0:0≤left) (h1:left≤1048576):Con Tryz.prog 178 [] [ag x,ai left] [] (I (szr (Enc.wt x) left)):=by
 have g_Inputs:Enc.gd x.Inputs:=hg
 have hw:Enc.wt x=Enc.wt x.Inputs:=rfl
 have hm1:decide ((-1:Int)<0)=true:=rfl
 have hc_Inputs:=sz_IntS x.Inputs (left) g_Inputs (by omega) (by omega)
 by_cases n_Inputs:left<Enc.wt x.Inputs
 ·rw[K7 n_Inputs] at hc_Inputs
  refine Con.of Tryz.func178 J Tryz.ntmps178 J (fun E => ?_)
  refine Wz [82,52] ?_;refine zx (Qj J J (hc_Inputs) J) J ?_;refine Wz [148,39] ?_
  exact Gb J (Gc [] J J (Xz (by rw[Gd])))
 rw[Ge] at hc_Inputs
 have hb_Inputs:decide (left-Enc.wt x.Inputs<0)=false:=Gqa (by omega)
 refine Con.of Tryz.func178 J Tryz.ntmps178 J (fun E => ?_)
 refine Wz [82,52] ?_;refine zx (Qj J J (hc_Inputs) J) J ?_;refine Wz [91,10,17] ?_
 exact Gb J (Gc [] J J (Xz (by rw[Ge]; omega)))
theorem to_Track (x:TTrack) (hg:Enc.wt x≤1048576):Con Tryz.prog 189 [] [ag x] (ownO (Enc.e x)) (.o (.ag (ownV 0 (Enc.e x)))):=by
 have hw:Enc.wt x=Enc.wt x.Inputs:=rfl
 refine Con.of Tryz.func189 J Tryz.ntmps189 J (fun E => ?_)
 refine Wz [53,3,4,66,3,23] ?_;refine M1 (Z3 J J (to_IntS x.Inputs (by omega)) J J J) J J ?_;refine Wz [30,14,56,74,48] ?_
 exact Xm J J J J (Gc [3] J J J)
theorem eq_Track (x y:TTrack) (hg:Enc.gd x):Con Tryz.prog 202 [] [ag x,ag y] [] (B (decide (x=y))):=by
 have g_Inputs:Enc.gd x.Inputs:=hg
 by_cases e_Inputs:¬x.Inputs=y.Inputs
 ·have hc:=eq_IntS x.Inputs y.Inputs g_Inputs
  rw[Gqa e_Inputs] at hc
  refine Con.of Tryz.func202 J Tryz.ntmps202 J (fun E => ?_)
  refine Wz [115] ?_;refine zx (Qj J J (hc) J) J ?_;refine Wz [9,39] ?_
  exact Gb J (Gc [] J J (Xk (Gqa fun e=>e_Inputs (by rw[e])).symm))
 have e_Inputs:=Classical.not_not.1 e_Inputs
 have hc_Inputs:=eq_IntS x.Inputs y.Inputs g_Inputs
 rw[Gqb e_Inputs] at hc_Inputs
 refine Con.of Tryz.func202 J Tryz.ntmps202 J (fun E => ?_)
 refine Wz [115] ?_;refine zx (Qj J J (hc_Inputs) J) J ?_;refine Wz [73,26,48] ?_
 exact Gb J (Gc [] J J (Xk (Gqb (TTrack.same e_Inputs)).symm))
theorem sz_Save (x:TSave) (left:Int) (hg:Enc.gd x) (h0:0≤left) (h1:left≤1048576):Con Tryz.prog 180 [] [ag x,ai left] [] (I (szr (Enc.wt x) left)):=by
 obtain⟨g_Tick,g_Delta⟩:=hg
 have hw:Enc.wt x=Enc.wt x.Delta:=rfl
 have hm1:decide ((-1:Int)<0)=true:=rfl
 have hgd_Delta:x.Delta.size≤9223372036854775807:=g_Delta
 have hs_Delta:Enc.wt x.Delta=x.Delta.size:=rfl
 by_cases n_Delta:left-(x.Delta.size:Int)<0
 ·have hb:decide (left-(x.Delta.size:Int)<0)=true:=Gqb n_Delta
  refine Con.of Tryz.func180 J Tryz.ntmps180 J (fun E => ?_)
  refine Wz [203,49,16,72,65,148,39] ?_
  exact Gb J (Gc [] J J (Xz (by rw[Gd])))
 have hb_Delta:decide (left-(x.Delta.size:Int)<0)=false:=Gqa n_Delta
 refine Con.of Tryz.func180 J Tryz.ntmps180 J (fun E => ?_)
 refine Wz [203,49,16,72,65,91,10,17] ?_
 exact Gb J (Gc [] J J (Xz (by rw[Ge]; omega)))
theorem to_Save (x:TSave) (hg:Enc.wt x≤1048576):Con Tryz.prog 191 [] [ag x] (ownO (Enc.e x)) (.o (.ag (ownV 0 (Enc.e x)))):=by
 have hw:Enc.wt x=Enc.wt x.Delta:=rfl
 refine Con.of Tryz.func191 J Tryz.ntmps191 J (fun E => ?_)
 refine Wz [53,3,4,66,3,23,30,23,30,14,56,74,48] ?_
 exact Xm J J J J (Gc [] J J J)
theorem eq_Save (x y:TSave) (hg:Enc.gd x):Con Tryz.prog 203 [] [ag x,ag y] [] (B (decide (x=y))):=by
 obtain⟨g_Tick,g_Delta⟩:=hg
 by_cases e_Tick:¬x.Tick=y.Tick
 ·have hk:decide (x.Tick≠y.Tick)=true:=by simp[e_Tick]
  refine Con.of Tryz.func203 J Tryz.ntmps203 J (fun E => ?_)
  refine Wz [115,24,39] ?_
  exact Gb J (Gc [] J J (Xk (Gqa fun e=>e_Tick (by rw[e])).symm))
 have e_Tick:=Classical.not_not.1 e_Tick
 have k_Tick:decide (x.Tick≠y.Tick)=false:=by simp[e_Tick]
 by_cases e_Delta:¬x.Delta=y.Delta
 ·have hk:decide (x.Delta≠y.Delta)=true:=by simp[e_Delta]
  refine Con.of Tryz.func203 J Tryz.ntmps203 J (fun E => ?_)
  refine Wz [115,167,226,39] ?_
  exact Gb J (Gc [] J J (Xk (Gqa fun e=>e_Delta (by rw[e])).symm))
 have e_Delta:=Classical.not_not.1 e_Delta
 have k_Delta:decide (x.Delta≠y.Delta)=false:=by simp[e_Delta]
 refine Con.of Tryz.func203 J Tryz.ntmps203 J (fun E => ?_)
 refine Wz [115,167,226,41,26,48] ?_
 exact Gb J (Gc [] J J (Xk (Gqb (TSave.same e_Tick e_Delta)).symm))
theorem to_Fault (x:TFault) (hg:Enc.wt x≤1048576):Con Tryz.prog 46 [] [ag x] (ownO (Enc.e x)) (.o (.ag (ownV 0 (Enc.e x)))):=by
 refine Con.of Tryz.func46 J Tryz.ntmps46 J (fun E => ?_)
 refine Wz [53,3,4,66,3,23,30,23,30,23,30,14,56,74,48] ?_
 exact Xm J J J J (Gc [] J J J)
theorem eq_Fault (x y:TFault) (hg:Enc.gd x):Con Tryz.prog 77 [] [ag x,ag y] [] (B (decide (x=y))):=by
 obtain⟨g_Tick,g_Player,g_Add⟩:=hg
 by_cases e_Tick:¬x.Tick=y.Tick
 ·have hk:decide (x.Tick≠y.Tick)=true:=by simp[e_Tick]
  refine Con.of Tryz.func77 J Tryz.ntmps77 J (fun E => ?_)
  refine Wz [115,24,39] ?_
  exact Gb J (Gc [] J J (Xk (Gqa fun e=>e_Tick (by rw[e])).symm))
 have e_Tick:=Classical.not_not.1 e_Tick
 have k_Tick:decide (x.Tick≠y.Tick)=false:=by simp[e_Tick]
 by_cases e_Player:¬x.Player=y.Player
 ·have hk:decide (x.Player≠y.Player)=true:=by simp[e_Player]
  refine Con.of Tryz.func77 J Tryz.ntmps77 J (fun E => ?_)
  refine Wz [115,167,24,39] ?_
  exact Gb J (Gc [] J J (Xk (Gqa fun e=>e_Player (by rw[e])).symm))
 have e_Player:=Classical.not_not.1 e_Player
 have k_Player:decide (x.Player≠y.Player)=false:=by simp[e_Player]
 by_cases e_Add:¬x.Add=y.Add
 ·have hk:decide (x.Add≠y.Add)=true:=by simp[e_Add]
  refine Con.of Tryz.func77 J Tryz.ntmps77 J (fun E => ?_)
  refine Wz [115,67,24,39] ?_
  exact Gb J (Gc [] J J (Xk (Gqa fun e=>e_Add (by rw[e])).symm))
 have e_Add:=Classical.not_not.1 e_Add
 have k_Add:decide (x.Add≠y.Add)=false:=by simp[e_Add]
 refine Con.of Tryz.func77 J Tryz.ntmps77 J (fun E => ?_)
 refine Wz [115,67,24,41,26,48] ?_
 exact Gb J (Gc [] J J (Xk (Gqb (TFault.same e_Tick e_Player e_Add)).symm))
theorem sz_TrackS (xs:List TTrack) (left:Int) (hg:Enc.gd xs) (h0:0≤left) (h1:left≤1048576):Con Tryz.prog 96 [] [al xs,ai left] [] (I (szr (Enc.wt xs) left)):=by
 have hlen:=Yx xs
 have hx:=hg.1
 have hw:Enc.wt xs=xs.length+wts xs:=rfl
 refine Con.of Tryz.func96 J Tryz.ntmps96 J (fun E => ?_)
 refine Wz [32,13,7,65,78,37] ?_
 refine Xb J (fun h => ?_) (fun h => ?_)
 ·refine Wz [98] ?_
  have h2:=Gqe h
  exact Gb J (Gc [] J J (Xz (by rw[Gd])))
 have h2:¬(left-((els xs).length:Int)<0):=Gqf h
 refine Wz [22,46] ?_
 refine Xj (fun m st=>∃ k:Nat,k+m=xs.length∧(((xs.length:Int)+wts (xs.take k)≤left))∧st=(⟨_,[(0,L xs),(1,I (left-(xs.length+wts (xs.take k)))),(5,I k)],[]⟩:St)) (xs.length) ⟨(fun k:Nat=>(⟨_,[(0,L xs),(1,I (left-(xs.length+wts (xs.take k)))),(5,I k)],[]⟩:St)) 0,⟨0,by omega,by simp[wts]; omega,J⟩,Ga [] J (by kernel_rfl) (.c J (.cons (Xz (by simp[els,wts])) (.c J (.nil))))⟩ ?_
 rintro m_A _ ⟨k,hk_A,hp_A,rfl⟩
 refine Wz [20,7,37] ?_
 refine Xb J (fun h => ?_) (fun h => ?_)
 ·have h3:k<xs.length:=by have:=Gqe h; omega
  have hat:=Yv h3
  have hstep:=wts_take xs k h3
  have hle:=Vi xs (k+1)
  have hc:=sz_Track xs[k] (left-((xs.length:Int)+wts (xs.take k))) (hg.2 _ (Gqj h3)) (by omega) (by omega)
  by_cases h4:left-((xs.length:Int)+wts (xs.take k))<Enc.wt xs[k]
  ·rw[K7 h4] at hc
   have hb:decide ((-1:Int)<0)=true:=rfl
   refine Wz [11,13,110,131,0] ?_;refine zx (Qj J J (hc) J) J ?_;refine Wz [49,75,26,69] ?_
   exact Gb J (Gc [] J J (Xz (by rw[Gd])))
  ·rw[Ge] at hc
   have hb:decide (left-((xs.length:Int)+wts (xs.take k))-Enc.wt xs[k]<0)=false:=Gqa (by omega)
   refine Wz [11,13,110,131,0] ?_;refine zx (Qj J J (hc) J) J ?_;refine Wz [49,12,100] ?_
   exact⟨xs.length-(k+1),by omega,(fun k:Nat=>(⟨_,[(0,L xs),(1,I (left-(xs.length+wts (xs.take k)))),(5,I k)],[]⟩:St)) (k+1),⟨k+1,by omega,by omega,J⟩,Ga [] J (by kernel_rfl) (.c J (.cons (Xz (by rw[hstep]; omega)) (.c J (.nil))))⟩
 ·have h3:¬((k:Int)<(els xs).length):=Gqf h
  have hk:wts (xs.take k)=wts xs:=by rw[Gq3 (by omega)]
  refine Wz [89,17] ?_
  exact Gb J (Gc [] J J (Xz (by rw[Ge]; omega)))
theorem sz_SaveS (xs:List TSave) (left:Int) (hg:Enc.gd xs) (h0:0≤left) (h1:left≤1048576):Con Tryz.prog 98 [] [al xs,ai left] [] (I (szr (Enc.wt xs) left)):=by
 have hlen:=Yx xs
 have hx:=hg.1
 have hw:Enc.wt xs=xs.length+wts xs:=rfl
 refine Con.of Tryz.func98 J Tryz.ntmps98 J (fun E => ?_)
 refine Wz [32,13,7,65,78,37] ?_
 refine Xb J (fun h => ?_) (fun h => ?_)
 ·refine Wz [98] ?_
  have h2:=Gqe h
  exact Gb J (Gc [] J J (Xz (by rw[Gd])))
 have h2:¬(left-((els xs).length:Int)<0):=Gqf h
 refine Wz [22,46] ?_
 refine Xj (fun m st=>∃ k:Nat,k+m=xs.length∧(((xs.length:Int)+wts (xs.take k)≤left))∧st=(⟨_,[(0,L xs),(1,I (left-(xs.length+wts (xs.take k)))),(5,I k)],[]⟩:St)) (xs.length) ⟨(fun k:Nat=>(⟨_,[(0,L xs),(1,I (left-(xs.length+wts (xs.take k)))),(5,I k)],[]⟩:St)) 0,⟨0,by omega,by simp[wts]; omega,J⟩,Ga [] J (by kernel_rfl) (.c J (.cons (Xz (by simp[els,wts])) (.c J (.nil))))⟩ ?_
 rintro m_A _ ⟨k,hk_A,hp_A,rfl⟩
 refine Wz [20,7,37] ?_
 refine Xb J (fun h => ?_) (fun h => ?_)
 ·have h3:k<xs.length:=by have:=Gqe h; omega
  have hat:=Yv h3
  have hstep:=wts_take xs k h3
  have hle:=Vi xs (k+1)
  have hc:=sz_Save xs[k] (left-((xs.length:Int)+wts (xs.take k))) (hg.2 _ (Gqj h3)) (by omega) (by omega)
  by_cases h4:left-((xs.length:Int)+wts (xs.take k))<Enc.wt xs[k]
  ·rw[K7 h4] at hc
   have hb:decide ((-1:Int)<0)=true:=rfl
   refine Wz [11,13,110,131,0] ?_;refine zx (Qj J J (hc) J) J ?_;refine Wz [49,75,26,69] ?_
   exact Gb J (Gc [] J J (Xz (by rw[Gd])))
  ·rw[Ge] at hc
   have hb:decide (left-((xs.length:Int)+wts (xs.take k))-Enc.wt xs[k]<0)=false:=Gqa (by omega)
   refine Wz [11,13,110,131,0] ?_;refine zx (Qj J J (hc) J) J ?_;refine Wz [49,12,100] ?_
   exact⟨xs.length-(k+1),by omega,(fun k:Nat=>(⟨_,[(0,L xs),(1,I (left-(xs.length+wts (xs.take k)))),(5,I k)],[]⟩:St)) (k+1),⟨k+1,by omega,by omega,J⟩,Ga [] J (by kernel_rfl) (.c J (.cons (Xz (by rw[hstep]; omega)) (.c J (.nil))))⟩
 ·have h3:¬((k:Int)<(els xs).length):=Gqf h
  have hk:wts (xs.take k)=wts xs:=by rw[Gq3 (by omega)]
  refine Wz [89,17] ?_
  exact Gb J (Gc [] J J (Xz (by rw[Ge]; omega)))
def zSave:List T := [.v (.int .i64 0),.v (.string ⟨#[]⟩)]
def zTrack:List T := [.sl 1 []]
theorem to_TrackS (xs:List TTrack) (hg:Enc.wt xs≤1048576):Con Tryz.prog 103 [] [al xs] [.row 1 (els xs)] (.o (.c (.ref 0))):=by
 have hlen:=Yx xs
 have hw:Enc.wt xs=xs.length+wts xs:=rfl
 refine Con.of Tryz.func103 J Tryz.ntmps103 J (fun E => ?_)
 refine Wz [32,10,7,293,2,46] ?_;refine Xj (fun m st=>∃ k:Nat,k+m=xs.length∧(True)∧st=(⟨_,[(0,L xs),(3,.o (.c (.ref 0))),(4,I k)],[.row 1 (part xs zTrack k)]⟩:St)) (xs.length) ⟨(fun k:Nat=>(⟨_,[(0,L xs),(3,.o (.c (.ref 0))),(4,I k)],[.row 1 (part xs zTrack k)]⟩:St)) 0,⟨0,by omega,trivial,J⟩,Ga [0] J (Kw (Zr xs _)) (.c J (.c J (.c J (.nil))))⟩ ?_
 rintro m_A _ ⟨k,hk_A,hp_A,rfl⟩
 refine Wz [20,7,37] ?_
 refine Xb J (fun h => ?_) (fun h => ?_)
 ·have h3:k<xs.length:=by have:=Gqe h; omega
  have hat:=Yv h3
  have hz:=part_at xs zTrack h3
  have hpl:(k:Int)<(part xs zTrack k).length:=by rw[part_len xs _ (by omega)]; omega
  have hwt:Enc.wt xs[k]≤wts xs:=wts_le xs _ (Gqj h3)
  have hc:=to_Track xs[k] (by omega)
  refine Wz [11,33,132,0,110,131] ?_;refine M1 (Z3 J J (hc) J J J) J J ?_;refine Wz [233,215,51,129] ?_
  exact⟨xs.length-(k+1),by omega,(fun k:Nat=>(⟨_,[(0,L xs),(3,.o (.c (.ref 0))),(4,I k)],[.row 1 (part xs zTrack k)]⟩:St)) (k+1),⟨k+1,by omega,trivial,J⟩,Ga [0] J (Kw (part_set xs zTrack h3 _ (by rfl) (by rfl)).symm) (.c J (.c J (.c J (.nil))))⟩
 ·have h3:¬((k:Int)<(els xs).length):=Gqf h
  refine Wz [89,17] ?_
  exact Gb J (Gc [0] J (Kw (part_all xs _ (by omega)).symm) J)
theorem to_SaveS (xs:List TSave) (hg:Enc.wt xs≤1048576):Con Tryz.prog 105 [] [al xs] [.row 2 (els xs)] (.o (.c (.ref 0))):=by
 have hlen:=Yx xs
 have hw:Enc.wt xs=xs.length+wts xs:=rfl
 refine Con.of Tryz.func105 J Tryz.ntmps105 J (fun E => ?_)
 refine Wz [32,10,7,253,2,46] ?_;refine Xj (fun m st=>∃ k:Nat,k+m=xs.length∧(True)∧st=(⟨_,[(0,L xs),(3,.o (.c (.ref 0))),(4,I k)],[.row 2 (part xs zSave k)]⟩:St)) (xs.length) ⟨(fun k:Nat=>(⟨_,[(0,L xs),(3,.o (.c (.ref 0))),(4,I k)],[.row 2 (part xs zSave k)]⟩:St)) 0,⟨0,by omega,trivial,J⟩,Ga [0] J (Kw (Zr xs _)) (.c J (.c J (.c J (.nil))))⟩ ?_
 rintro m_A _ ⟨k,hk_A,hp_A,rfl⟩
 refine Wz [20,7,37] ?_
 refine Xb J (fun h => ?_) (fun h => ?_)
 ·have h3:k<xs.length:=by have:=Gqe h; omega
  have hat:=Yv h3
  have hz:=part_at xs zSave h3
  have hpl:(k:Int)<(part xs zSave k).length:=by rw[part_len xs _ (by omega)]; omega
  have hwt:Enc.wt xs[k]≤wts xs:=wts_le xs _ (Gqj h3)
  have hc:=to_Save xs[k] (by omega)
  refine Wz [11,33,132,0,110,131] ?_;refine M1 (Z3 J J (hc) J J J) J J ?_;refine Wz [233,215,51,129] ?_
  exact⟨xs.length-(k+1),by omega,(fun k:Nat=>(⟨_,[(0,L xs),(3,.o (.c (.ref 0))),(4,I k)],[.row 2 (part xs zSave k)]⟩:St)) (k+1),⟨k+1,by omega,trivial,J⟩,Ga [0] J (Kw (part_set xs zSave h3 _ (by rfl) (by rfl)).symm) (.c J (.c J (.c J (.nil))))⟩
 ·have h3:¬((k:Int)<(els xs).length):=Gqf h
  refine Wz [89,17] ?_
  exact Gb J (Gc [0] J (Kw (part_all xs _ (by omega)).symm) J)
theorem eq_TrackS (xs ys:List TTrack) (hn:Enc.gd xs):Con Tryz.prog 110 [] [al xs,al ys] [] (B (decide (xs=ys))):=by
 have hn1:=hn.1
 have hlx:=Yx xs
 have hly:=Yx ys
 by_cases hl:xs.length=ys.length
 ·have hb:decide (((els xs).length:Int)≠((els ys).length:Int))=false:=by rw[hlx,hly,hl]; simp
  refine Con.of Tryz.func110 J Tryz.ntmps110 J (fun E => ?_)
  refine Wz [87,7,0,7,24,41,46] ?_;refine Xj (fun m st=>∃ k:Nat,k+m=xs.length∧(xs.take k=ys.take k)∧st=(⟨_,[(0,L xs),(1,L ys),(5,I k)],[]⟩:St)) (xs.length) ⟨_,⟨0,by omega,by simp,J⟩,Gi []⟩ ?_
  rintro m_A _ ⟨k,hk_A,hp_A,rfl⟩
  refine Wz [20,7,37] ?_
  refine Xb J (fun h => ?_) (fun h => ?_)
  ·have h3:k<xs.length:=by have:=Gqe h; omega
   have h4:k<ys.length:=by omega
   have hat:=Yv h3
   have hat2:=Yv h4
   have hc:=eq_Track xs[k] ys[k] (hn.2 _ (Gqj h3))
   by_cases he:xs[k]=ys[k]
   ·rw[Gqb he] at hc
    refine Wz [11,8,213,34,183,184,34,183,184] ?_;refine Vk (Qj J J (hc) J) J ?_;refine Wz [147,21,100] ?_
    exact⟨xs.length-(k+1),by omega,_,⟨k+1,by omega,eq_next h3 h4 hp_A he,J⟩,Gi []⟩
   ·rw[Gqa he] at hc
    refine Wz [11,8,213,34,183,184,34,183,184] ?_;refine Vk (Qj J J (hc) J) J ?_;refine Wz [147,21,29,26,69] ?_
    exact Gb J (Gc [] J J (Xk (eq_ne h3 h4 he).symm))
  ·have h3:¬((k:Int)<(els xs).length):=Gqf h
   refine Wz [27,26,48] ?_
   exact Gb J (Gc [] J J (Xk (eq_all (by omega) hl hp_A).symm))
 ·have hb:decide (((els xs).length:Int)≠((els ys).length:Int))=true:=by rw[hlx,hly]; simp; omega
  refine Con.of Tryz.func110 J Tryz.ntmps110 J (fun E => ?_)
  refine Wz [87,7,0,7,24,39] ?_
  exact Gb J (Gc [] J J (Xk (eq_len hl).symm))
theorem eq_SaveS (xs ys:List TSave) (hn:Enc.gd xs):Con Tryz.prog 111 [] [al xs,al ys] [] (B (decide (xs=ys))):=by
 have hn1:=hn.1
 have hlx:=Yx xs
 have hly:=Yx ys
 by_cases hl:xs.length=ys.length
 ·have hb:decide (((els xs).length:Int)≠((els ys).length:Int))=false:=by rw[hlx,hly,hl]; simp
  refine Con.of Tryz.func111 J Tryz.ntmps111 J (fun E => ?_)
  refine Wz [87,7,0,7,24,41,46] ?_;refine Xj (fun m st=>∃ k:Nat,k+m=xs.length∧(xs.take k=ys.take k)∧st=(⟨_,[(0,L xs),(1,L ys),(5,I k)],[]⟩:St)) (xs.length) ⟨_,⟨0,by omega,by simp,J⟩,Gi []⟩ ?_
  rintro m_A _ ⟨k,hk_A,hp_A,rfl⟩
  refine Wz [20,7,37] ?_
  refine Xb J (fun h => ?_) (fun h => ?_)
  ·have h3:k<xs.length:=by have:=Gqe h; omega
   have h4:k<ys.length:=by omega
   have hat:=Yv h3
   have hat2:=Yv h4
   have hc:=eq_Save xs[k] ys[k] (hn.2 _ (Gqj h3))
   by_cases he:xs[k]=ys[k]
   ·rw[Gqb he] at hc
    refine Wz [11,8,213,34,183,184,34,183,184] ?_;refine Vk (Qj J J (hc) J) J ?_;refine Wz [147,21,100] ?_
    exact⟨xs.length-(k+1),by omega,_,⟨k+1,by omega,eq_next h3 h4 hp_A he,J⟩,Gi []⟩
   ·rw[Gqa he] at hc
    refine Wz [11,8,213,34,183,184,34,183,184] ?_;refine Vk (Qj J J (hc) J) J ?_;refine Wz [147,21,29,26,69] ?_
    exact Gb J (Gc [] J J (Xk (eq_ne h3 h4 he).symm))
  ·have h3:¬((k:Int)<(els xs).length):=Gqf h
   refine Wz [27,26,48] ?_
   exact Gb J (Gc [] J J (Xk (eq_all (by omega) hl hp_A).symm))
 ·have hb:decide (((els xs).length:Int)≠((els ys).length:Int))=true:=by rw[hlx,hly]; simp; omega
  refine Con.of Tryz.func111 J Tryz.ntmps111 J (fun E => ?_)
  refine Wz [87,7,0,7,24,39] ?_
  exact Gb J (Gc [] J J (Xk (eq_len hl).symm))
end
section
open Go.RowKit


structure PeerIn (x:TPeer):Prop where
 gd:Enc.gd x
 tr:x.Tracks.length≤1048576∧∀ t∈x.Tracks,t.Inputs.length≤1048576
 bw:x.Base.Level.Rows.length≤1048576∧x.Base.Scores.length≤1048576∧x.Base.Bodies.length≤1048576
 nw:x.Now.Level.Rows.length≤1048576∧x.Now.Scores.length≤1048576∧x.Now.Bodies.length≤1048576
 us:x.Used.length≤1048576∧∀ r∈x.Used,r.length≤1048576
 sv:x.Saves.length≤1048576
 sm:x.Sums.length≤1048576
instance:PlainE TSave:=⟨fun x t h=>by
 have h2:t ∈ [T.v (.int .i64 x.Tick),T.v (.string x.Delta)]:=h
 simp only[List.mem_cons,Gx7,or_false] at h2
 rcases h2 with rfl | rfl <;> exact⟨_,rfl⟩⟩
end
section
open Go.RowKit

def trackOk (t:TTrack):Bool:=decide ((t.Inputs.length:Int)≤400)&&inOk t.Inputs
def tracksOk (l:List TTrack):Bool:=(decide (1≤l.length)&&decide (l.length≤4))&&l.all trackOk
theorem tracks_no {l:List TTrack} (h:l.length<1∨4<l.length):tracksOk l=false:=by
 rw[tracksOk]
 rcases h with h | h
 ·rw[Gqa (by omega:¬1≤l.length)]; rfl
 ·rw[Gqa (by omega:¬l.length≤4),Gx4]; rfl
theorem tracks_bad {l:List TTrack} (h:l.all trackOk=false):tracksOk l=false:=by rw[tracksOk,h,Gx4]
theorem tracks_yes {l:List TTrack} (h1:1≤l.length) (h2:l.length≤4) (h:l.all trackOk=true):tracksOk l=true:=by rw[tracksOk,h,Gqb h1,Gqb h2]; rfl
theorem Va {l:List TTrack} (h:tracksOk l=true):1≤l.length∧l.length≤4:=by
 simp only[tracksOk,Gqi,decide_eq_true_eq] at h
 exact h.1
def lenAt (l:List TTrack) (k:Nat):Nat:=(l.getD k ⟨[]⟩).Inputs.length
def leastK (l:List TTrack):Nat→Nat
 |0=>lenAt l 0
 |k+1=>min (leastK l k) (lenAt l k)
def knownTicks (l:List TTrack):Nat:=if tracksOk l=true then leastK l l.length else 0
theorem lenAt_is {l:List TTrack} {k:Nat} (h:k<l.length):lenAt l k=l[k].Inputs.length:=by simp[lenAt,Gqc,h]
theorem least_0 (l:List TTrack):leastK l 0=lenAt l 0:=rfl
theorem least_1 (l:List TTrack):leastK l 1=lenAt l 0:=Nat.min_self _
def faultOk (f:TFault) (n:Int):Bool:=((inR f.Tick 0 400&&decide (0≤f.Player))&&decide (f.Player<n))&&inR f.Add 0 9
theorem fault_S (f:TFault) (n:Int):(((decide (0<n)&&inR f.Tick 0 400)&&inR f.Player 0 (n-1))&&inR f.Add 0 9)=faultOk f n:=by
 rw[faultOk,Bool.eq_iff_iff]
 simp only[Gqi,decide_eq_true_eq,Za]
 omega
def PeerP (p:TPeer):Prop :=
 (tracksOk p.Tracks=true∧worldOk p.Base=true∧worldOk p.Now=true∧p.Base.Level=p.Now.Level) ∧
 (p.Base.Scores.length=p.Tracks.length∧p.Now.Scores.length=p.Tracks.length∧faultOk p.Fault p.Tracks.length=true) ∧
 ((0≤p.Me∧p.Me≤(p.Tracks.length:Int)-1)∧(0≤p.Delay∧p.Delay≤5)∧(1≤p.Ahead∧p.Ahead≤8)) ∧
 ((0≤p.Seed∧p.Seed≤65535)∧(0≤p.Rolls∧p.Rolls≤1000000)∧(0≤p.Again∧p.Again≤1000000)) ∧
 ((0≤p.Now.Tick-p.Base.Tick∧p.Now.Tick-p.Base.Tick≤p.Ahead)∧(p.Used.length:Int)=p.Now.Tick-p.Base.Tick∧(p.Saves.length:Int)=p.Now.Tick-p.Base.Tick) ∧
 ((p.Used.all fun row=>rowOk row p.Tracks.length)=true∧∀ k (h:k<p.Saves.length),p.Saves[k].Tick=p.Base.Tick+k) ∧
 p.Base.Tick≤knownTicks p.Tracks∧p.Now.Tick≤lenAt p.Tracks p.Me.toNat∧(p.Sums.length:Int)=p.Base.Tick+1
noncomputable def peerOk (p:TPeer):Bool:=@decide (PeerP p) (Classical.propDecidable _)
theorem peer_T {p:TPeer} (h:PeerP p):peerOk p=true:=@decide_eq_true _ (Classical.propDecidable _) h
theorem peer_F {p:TPeer} (h:¬PeerP p):peerOk p=false:=@decide_eq_false _ (Classical.propDecidable _) h
theorem peer_spec {p:TPeer} (h:peerOk p=true):PeerP p:=@of_decide_eq_true _ (Classical.propDecidable _) h
end
section
open Go.RowKit

theorem slEqS (xs ys:List ByteArray) (hn:Enc.gd xs):Con Tryz.prog 239 [] [al xs,al ys] [] (B (decide (xs=ys))):=by
 have hn1:=hn.1
 have hlx:=Yx xs
 have hly:=Yx ys
 by_cases hl:xs.length=ys.length
 ·have hb:decide (((els xs).length:Int)≠((els ys).length:Int))=false:=by rw[hlx,hly,hl]; simp
  refine Con.of Tryz.func239 J Tryz.ntmps239 J (fun E => ?_)
  refine Wz [87,7,0,7,24,41,40,7,142,44] ?_;refine Xj (fun m st=>∃ k:Nat,k+m=xs.length∧(xs.take k=ys.take k)∧st=(⟨_,[(0,L xs),(1,L ys),(12,I (els xs).length),(13,I k)],[]⟩:St)) (xs.length) ⟨_,⟨0,by omega,by simp,J⟩,Gi []⟩ ?_
  rintro m_A _ ⟨k,hk_A,hp_A,rfl⟩
  refine Wz [4,37,8] ?_
  refine Xb J (fun h => ?_) (fun h => ?_)
  ·have h3:k<xs.length:=by have:=Gqe h; omega
   have h4:k<ys.length:=by omega
   have hat:=Yv h3
   have hat2:=Yv h4
   by_cases he:xs[k]=ys[k]
   ·have hk:decide (xs[k]≠ys[k])=false:=by simp[he]
    refine Wz [107,2,8] ?_;refine Xi u8_0 u8_55 u8_56 J ?_;refine Wz [34,85,34,85,207,21,140,93] ?_
    exact⟨xs.length-(k+1),by omega,_,⟨k+1,by omega,eq_next h3 h4 hp_A he,J⟩,Gi []⟩
   ·have hk:decide (xs[k]≠ys[k])=true:=by simp[he]
    refine Wz [107,2,8] ?_;refine Xi u8_0 u8_55 u8_56 J ?_;refine Wz [34,85,34,85,207,21,29,26,69] ?_
    exact Gb J (Gc [] J J (Xk (eq_ne h3 h4 he).symm))
  ·have h3:¬((k:Int)<(els xs).length):=Gqf h
   refine Wz [27,26,48] ?_
   exact Gb J (Gc [] J J (Xk (eq_all (by omega) hl hp_A).symm))
 ·have hb:decide (((els xs).length:Int)≠((els ys).length:Int))=true:=by rw[hlx,hly]; simp; omega
  refine Con.of Tryz.func239 J Tryz.ntmps239 J (fun E => ?_)
  refine Wz [87,7,0,7,24,39] ?_
  exact Gb J (Gc [] J J (Xk (eq_len hl).symm))
theorem I_sameLevel (x y:TLevel) (hg:Enc.gd x):Con Tryz.prog 194 [] [ag x,ag y] [] (B (decide (x=y))):=by
 have h:decide (x.Rows=y.Rows)=decide (x=y):=by cases x; cases y; simp
 refine Con.of Tryz.func194 J Tryz.ntmps194 J (fun E => ?_)
 refine Wz [130,23,16] ?_;refine zx (Qj J J (slEqS x.Rows y.Rows hg) J) J ?_;refine Wz [17] ?_
 exact Gb J (Gc [] J J (Xk h))
end
section
open Go.RowKit

theorem S_sameLevel (x y:TLevel) (hg:Enc.gd x):Con Tryz.prog 156 [] [ag x,ag y] [] (B (decide (x=y))):=by
 have he:decide (x.Rows=y.Rows)=decide (x=y):=by cases x; cases y; simp
 rw[←he]
 clear he
 obtain⟨xs⟩:=x
 obtain⟨ys⟩:=y
 have hn:Enc.gd xs:=hg
 have hn1:=hn.1
 show Con _ _ _ _ _ (B (decide (xs=ys)))
 have hlx:=Yx xs
 have hly:=Yx ys
 by_cases hl:xs.length=ys.length
 ·have hb:decide (((els xs).length:Int)≠((els ys).length:Int))=false:=by rw[hlx,hly,hl]; simp
  refine Con.of Tryz.func156 J Tryz.ntmps156 J (fun E => ?_)
  refine Wz [130,42,7,16,7,24,41,46] ?_;refine Xj (fun m st=>∃ k:Nat,k+m=xs.length∧(xs.take k=ys.take k)∧st=(⟨_,[(2,.o (.c (.ptr 0 0))),(3,.o (.c (.ptr 1 0))),(5,I k)],[.box [.rd [] (sl xs)],.box [.rd [] (sl ys)]]⟩:St)) (xs.length) ⟨_,⟨0,by omega,by simp,J⟩,Gi [0,1]⟩ ?_
  rintro m_A _ ⟨k,hk_A,hp_A,rfl⟩
  refine Wz [40,16,7,37] ?_
  refine Xb J (fun h => ?_) (fun h => ?_)
  ·have h3:k<xs.length:=by have:=Gqe h; omega
   have h4:k<ys.length:=by omega
   have hat:=Yv h3
   have hat2:=Yv h4
   by_cases he:xs[k]=ys[k]
   ·have hk:decide (xs[k]≠ys[k])=false:=by simp[he]
    refine Wz [11,8] ?_;refine Xi u8_57 u8_58 u8_59 J ?_;refine Wz [28,5,85,28,5,85,207,21,100] ?_
    exact⟨xs.length-(k+1),by omega,_,⟨k+1,by omega,eq_next h3 h4 hp_A he,J⟩,Gi [0,1]⟩
   ·have hk:decide (xs[k]≠ys[k])=true:=by simp[he]
    refine Wz [11,8] ?_;refine Xi u8_57 u8_58 u8_59 J ?_;refine Wz [28,5,85,28,5,85,207,21,29,26,69] ?_
    exact Gb J (Gc [] J J (Xk (eq_ne h3 h4 he).symm))
  ·have h3:¬((k:Int)<(els xs).length):=Gqf h
   refine Wz [27,26,48] ?_
   exact Gb J (Gc [] J J (Xk (eq_all (by omega) hl hp_A).symm))
 ·have hb:decide (((els xs).length:Int)≠((els ys).length:Int))=true:=by rw[hlx,hly]; simp; omega
  refine Con.of Tryz.func156 J Tryz.ntmps156 J (fun E => ?_)
  refine Wz [130,42,7,16,7,24,39] ?_
  exact Gb J (Gc [] J J (Xk (eq_len hl).symm))
end
section
open Go.RowKit

theorem I_TrackOk (t:TTrack) (g:Enc.gd t):Con Tryz.prog 237 [] [ag t] [] (B (trackOk t)):=by
 have hl:=Yx t.Inputs
 refine Con.of Tryz.func237 J Tryz.ntmps237 J (fun E => ?_)
 refine Wz [82,23,7,214,0,133,134] ?_;refine zx (Qt.grdT J J J (.hit (.hit .stop)) (fun hgrd=>Qj J J (I_inputsOk t.Inputs g) J)) J ?_;refine Wz [79,17] ?_
 exact Gb J (Gc [] J J (Xk (by rw[hl]; rfl)))
theorem S_TrackOk (t:TTrack) (g:Enc.gd t):Con Tryz.prog 231 [] [ag t] [] (B (trackOk t)):=by
 have hl:=Yx t.Inputs
 refine Con.of Tryz.func231 J Tryz.ntmps231 J (fun E => ?_)
 refine Wz [82,23,7,214,0,133,134] ?_;refine zx (Qt.grdT J J J (.hit (.hit .stop)) (fun hgrd=>Qj J J (S_inputsOk t.Inputs g) J)) J ?_;refine Wz [79,17] ?_
 exact Gb J (Gc [] J J (Xk (by rw[hl]; rfl)))
theorem I_TracksOk (xs:List TTrack) (g:Enc.gd xs):Con Tryz.prog 192 [] [al xs] [] (B (tracksOk xs)):=by
 have hl:=Yx xs
 refine Con.of Tryz.func192 J Tryz.ntmps192 J (fun E => ?_)
 refine Wz [87,7,152,106] ?_;refine zx (Vz J (.hit .stop) (fun hgrd=>Kb J J J)) J ?_;refine zx (Vz J (.hit (.hit .stop)) (fun hgrd=>Z9 J J J J)) J ?_;refine Wz [103] ?_
 refine Xb J (fun h => ?_) (fun h => ?_)
 ·simp only[Gqr,decide_eq_true_eq] at h
  rw[tracks_no (by omega)]
  refine Wz [98] ?_
  exact Gb J (Gc [] J J J)
 simp only[Gqn,decide_eq_false_iff_not] at h
 refine Wz [22,40,7,142,44] ?_;refine Xj (fun m st=>∃ k:Nat,k+m=xs.length∧((xs.take k).all trackOk=true)∧st=(⟨_,[(13,L xs),(14,I (els xs).length),(15,I k)],[]⟩:St)) (xs.length) ⟨_,⟨0,by omega,by simp,J⟩,Gi []⟩ ?_
 rintro m_A _ ⟨k,hk_A,hp_A,rfl⟩
 refine Wz [4,37,8] ?_
 refine Xb J (fun h => ?_) (fun h => ?_)
 ·have h3:k<xs.length:=by have:=Gqe h; omega
  have hat:=Yv h3
  have hc:=I_TrackOk xs[k] (g.2 _ (Gqj h3))
  cases ho:trackOk xs[k] with
  |false =>
   rw[ho] at hc
   rw[tracks_bad (all_no h3 ho)]
   refine Wz [11,4,110,131,94,14] ?_;refine zx (Qj J J (hc) J) J ?_;refine Wz [9,29,26,69] ?_
   exact Gb J (Gc [] J J J)
  |true =>
   rw[ho] at hc
   refine Wz [11,4,110,131,94,14] ?_;refine zx (Qj J J (hc) J) J ?_;refine Wz [9,140,93] ?_
   exact⟨xs.length-(k+1),by omega,_,⟨k+1,by omega,Yi hp_A h3 ho,J⟩,Gi []⟩
 ·have h3:¬((k:Int)<(els xs).length):=Gqf h
  rw[tracks_yes (by omega) (by omega) (G4 hp_A)]
  refine Wz [27,26,48] ?_
  exact Gb J (Gc [] J J J)
theorem S_TracksOk (xs:List TTrack) (g:Enc.gd xs):Con Tryz.prog 181 [] [al xs] [] (B (tracksOk xs)):=by
 have hl:=Yx xs
 have hg1:=g.1
 refine Con.of Tryz.func181 J Tryz.ntmps181 J (fun E => ?_)
 refine Wz [32,46] ?_;refine Xj (fun m st=>∃ k:Nat,k+m=xs.length∧((xs.take k).all trackOk=true)∧st=(⟨_,[(0,L xs),(3,I k)],[]⟩:St)) (xs.length) ⟨_,⟨0,by omega,by simp,J⟩,Gi []⟩ ?_
 rintro m_A _ ⟨k,hk_A,hp_A,rfl⟩
 refine Wz [20,7,37] ?_
 refine Xb J (fun h => ?_) (fun h => ?_)
 ·have h3:k<xs.length:=by have:=Gqe h; omega
  have hat:=Yv h3
  have hc:=S_TrackOk xs[k] (g.2 _ (Gqj h3))
  cases ho:trackOk xs[k] with
  |false =>
   rw[ho] at hc
   rw[tracks_bad (all_no h3 ho)]
   refine Wz [11,13,110,131] ?_;refine zx (Qj J J (hc) J) J ?_;refine Wz [9,29,26,69] ?_
   exact Gb J (Gc [] J J J)
  |true =>
   rw[ho] at hc
   refine Wz [11,13,110,131] ?_;refine zx (Qj J J (hc) J) J ?_;refine Wz [9,100] ?_
   exact⟨xs.length-(k+1),by omega,_,⟨k+1,by omega,Yi hp_A h3 ho,J⟩,Gi []⟩
 ·have h3:¬((k:Int)<(els xs).length):=Gqf h
  have hall:=G4 hp_A
  refine Wz [89,7] ?_;refine zx (Qj J J (Ya (els xs).length 1 4) J) J ?_;refine Wz [17] ?_
  exact Gb J (Gc [] J J (Xk (by
   rw[hl]
   by_cases h4:1≤xs.length∧xs.length≤4
   ·rw[tracks_yes h4.1 h4.2 hall,Za.2 (by omega)]
   ·rw[tracks_no (by omega),←Gxp,Za]; omega)))
theorem least_next {l:List TTrack} {k:Nat} (h:k<l.length):((leastK l (k+1):Nat):Int)=min ((leastK l k:Nat):Int) ((els l[k].Inputs).length:Int):=by
 rw[leastK,lenAt_is h,Yx]
 omega
theorem I_KnownTicks (xs:List TTrack) (g:Enc.gd xs):Con Tryz.prog 197 [] [al xs] [] (I (knownTicks xs:Nat)):=by
 have hl:=Yx xs
 have hc:=I_TracksOk xs g
 cases ho:tracksOk xs with
 |false =>
  rw[ho] at hc
  rw[show knownTicks xs=0 from if_neg (by rw[ho]; decide)]
  refine Con.of Tryz.func197 J Tryz.ntmps197 J (fun E => ?_)
  refine Wz [87] ?_;refine zx (Qj J J (hc) J) J ?_;refine Wz [9,39] ?_
  exact Gb J (Gc [] J J J)
 | true =>
  rw[ho] at hc
  rw[show knownTicks xs=leastK xs xs.length from if_pos ho]
  obtain⟨h1,h4⟩:=Va ho
  have h0:0<xs.length:=by omega
  have hat0:(els xs)[(0:Int).toNat]? = some (Enc.e xs[0]):=Yv h0
  refine Con.of Tryz.func197 J Tryz.ntmps197 J (fun E => ?_)
  refine Wz [87] ?_;refine zx (Qj J J (hc) J) J ?_;refine Wz [73,10,110] ?_;refine zx (q_fldr J J J J (by decide)) J ?_;refine Wz [221,7,78,7,142,44] ?_;refine Xj (fun m st=>∃ k:Nat,k+m=xs.length∧(True)∧st=(⟨_,[(3,I (leastK xs k:Nat)),(14,L xs),(15,I (els xs).length),(16,I k)],[]⟩:St)) (xs.length) ⟨(fun k:Nat=>(⟨_,[(3,I (leastK xs k:Nat)),(14,L xs),(15,I (els xs).length),(16,I k)],[]⟩:St)) 0,⟨0,by omega,trivial,J⟩,Ga [] J (by kernel_rfl) (.cons (Xz (by rw[least_0,lenAt_is h0,Yx])) (.c J (.c J (.c J (.nil)))))⟩ ?_
  rintro m_A _ ⟨k,hk_A,hp_A,rfl⟩
  refine Wz [4,37,8] ?_
  refine Xb J (fun h => ?_) (fun h => ?_)
  ·have h3:k<xs.length:=by have:=Gqe h; omega
   have hat:=Yv h3
   refine Wz [11,4,110,131,94,33,16,7,244,141,93] ?_
   exact⟨xs.length-(k+1),by omega,(fun k:Nat=>(⟨_,[(3,I (leastK xs k:Nat)),(14,L xs),(15,I (els xs).length),(16,I k)],[]⟩:St)) (k+1),⟨k+1,by omega,trivial,J⟩,Ga [] J (by kernel_rfl) (.cons (Xz (least_next h3).symm) (.c J (.c J (.c J (.nil)))))⟩
  ·have h3:¬((k:Int)<(els xs).length):=Gqf h
   have hk:k=xs.length:=by omega
   rw[hk]
   refine Wz [89,17] ?_
   exact Gb J (Gc [] J J J)
theorem S_KnownTicks (xs:List TTrack) (g:Enc.gd xs):Con Tryz.prog 184 [] [al xs] [] (I (knownTicks xs:Nat)):=by
 have hl:=Yx xs
 have hc:=S_TracksOk xs g
 cases ho:tracksOk xs with
 |false =>
  rw[ho] at hc
  rw[show knownTicks xs=0 from if_neg (by rw[ho]; decide)]
  refine Con.of Tryz.func184 J Tryz.ntmps184 J (fun E => ?_)
  refine Wz [87] ?_;refine zx (Qj J J (hc) J) J ?_;refine Wz [9,39] ?_
  exact Gb J (Gc [] J J J)
 | true =>
  rw[ho] at hc
  rw[show knownTicks xs=leastK xs xs.length from if_pos ho]
  obtain⟨h1,h4⟩:=Va ho
  have h0:0<xs.length:=by omega
  have hat0:(els xs)[(0:Int).toNat]? = some (Enc.e xs[0]):=Yv h0
  refine Con.of Tryz.func184 J Tryz.ntmps184 J (fun E => ?_)
  refine Wz [87] ?_;refine zx (Qj J J (hc) J) J ?_;refine Wz [73,10,110] ?_;refine zx (q_fldr J J J J (by decide)) J ?_;refine Wz [221,7,2,46] ?_;refine Xj (fun m__ st=>∃ (k:Nat),xs.length-k=m__∧(1≤k∧k≤xs.length)∧st=(⟨_,[(0,L xs),(3,I (leastK xs k:Nat)),(4,I k)],[]⟩:St)) _ ⟨(fun (k:Nat)=>(⟨_,[(0,L xs),(3,I (leastK xs k:Nat)),(4,I k)],[]⟩:St)) (1),⟨1,J,⟨by omega,by omega⟩,J⟩,Ga [] J (by kernel_rfl) (.c J (.cons (Xz (by rw[least_1,lenAt_is h0,Yx])) (.c J (.nil))))⟩ ?_
  rintro m_A _ ⟨k,hk_A,hp_A,rfl⟩
  refine Wz [20,7,37] ?_
  refine Xb J (fun h => ?_) (fun h => ?_)
  ·have h3:k<xs.length:=by have:=Gqe h; omega
   have hat:=Yv h3
   refine Wz [11,33,132,110] ?_;refine zx (q_fldr J J J J (by decide)) J ?_;refine Wz [221,7,244,104] ?_
   refine⟨_,(by omega),(fun (k:Nat)=>(⟨_,[(0,L xs),(3,I (leastK xs k:Nat)),(4,I k)],[]⟩:St)) (k+1),⟨k+1,J,⟨by omega,by omega⟩,J⟩,Ga [] J (by kernel_rfl) (.c J (.cons (Xz (least_next h3).symm) (.c J (.nil))))⟩
  ·have h3:¬((k:Int)<(els xs).length):=Gqf h
   have hk:k=xs.length:=by omega
   rw[hk]
   refine Wz [89,17] ?_
   exact Gb J (Gc [] J J J)
theorem I_FaultOk (f:TFault) (n:Int) (hn:0≤n):Con Tryz.prog 195 [] [ag f,ai n] [] (B (faultOk f n)):=by
 refine Con.of Tryz.func195 J Tryz.ntmps195 J (fun E => ?_)
 refine Wz [82,23] ?_;refine zx (Qj J J (Xx f.Tick 0 400) J) J ?_;refine Wz [0,133,134] ?_;refine zx (Qt.grdT J J J (.hit (.hit .stop)) (fun hgrd=>q_geq J J J J)) J ?_;refine Wz [79,0,133,134,300] ?_;refine zx (Qt.grdT J J J (.hit (.hit (.hit .stop))) (fun hgrd=>Kh J J J J)) J ?_;refine Wz [79,0,133,134] ?_;refine zx (Qt.grdT J J J (.hit (.hit .stop)) (fun hgrd=>Qj J J (Xx f.Add 0 9) J)) J ?_;refine Wz [79,17] ?_
 exact Gb J (Gc [] J J J)
theorem S_FaultOk (f:TFault) (n:Int) (hn:0≤n) (hn2:n≤9223372036854775807):Con Tryz.prog 182 [] [ag f,ai n] [] (B (faultOk f n)):=by
 refine Con.of Tryz.func182 J Tryz.ntmps182 J (fun E => ?_)
 refine Wz [203,49,254,0,133,134] ?_;refine zx (Qt.grdT J J J (.hit (.hit .stop)) (fun hgrd=>Qj J J (Ya f.Tick 0 400) J)) J ?_;refine Wz [79,0,133,134,300] ?_;refine zx (Qt.grdT J J J (.hit (.hit (.hit .stop))) (fun hgrd=>Xc J J J J (by omega))) J ?_;refine zx (Qt.grdT J J J (.hit (.hit (.hit (.hit .stop)))) (fun hgrd=>Qj J J (Ya f.Player 0 (n-1)) J)) J ?_;refine Wz [79,0,133,134] ?_;refine zx (Qt.grdT J J J (.hit (.hit .stop)) (fun hgrd=>Qj J J (Ya f.Add 0 9) J)) J ?_;refine Wz [79,17] ?_
 exact Gb J (Gc [] J J (Xk (fault_S f n)))
end
section
open Go.RowKit

def faultS (f:TFault) (w:TWorld):TWorld:=⟨w.Level,w.Tick,w.Seed,w.Scores.set f.Player.toNat (min (w.Scores.getD f.Player.toNat 0+f.Add) 1000000),w.Bodies⟩
def faultD (f:TFault) (w v:TWorld):Prop:=faultOk f w.Scores.length=true∧v.Tick=f.Tick∧w.Tick<v.Tick
noncomputable instance (f:TFault) (w v:TWorld):Decidable (faultD f w v):=Classical.propDecidable _
noncomputable def stepF (w:TWorld) (row:List Int) (f:TFault):TWorld:=if faultD f w (stepW w row) then faultS f (stepW w row) else stepW w row
end
end Go.Proofs.YtoecjaohdnoenaaGreat
