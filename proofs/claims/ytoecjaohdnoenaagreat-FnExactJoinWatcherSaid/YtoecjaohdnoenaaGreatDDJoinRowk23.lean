/-
  Rules, data and contracts of functions: part 24 of the proof.
  Conditions: those that each theorem names.
-/
import Derived.Test.YtoecjaohdnoenaaGreatDDJoinRowk22
set_option linter.unusedSimpArgs false
set_option linter.unusedVariables false
set_option maxRecDepth 8000
set_option maxHeartbeats 8000000
namespace Go.Proofs.YtoecjaohdnoenaaGreat
section
open Go.RowKit

section
variable {P:Program} {ops:Array Oper} {o:Oper} {st:St} {m:Nat} {t e:TypeId} {y z:Operand} {zs:List Value} {by_:Nat}
theorem q_appn {ps qs:List Nat} {kk:Nat} {es':List (List T)} [hm:TyMake P t e zs by_] (ho:o.op = .call { callee := .builtin .append,args:=#[y,z],argTypes:=#[t,t] }) (hg:o.guard=none) (hy:st.ev y = .o (.c (.rd qs (.v (.slice none 0 0))))) (hz:st.ev z = .o (.c (.rd ps (.sl kk es')))) (hkz:kk=zs.length) (hz0:zs.isEmpty=false)
  (hpl:plainT es') (hkk:∀ e∈es',e.length=kk) (hb:es'.length*by_≤140737488355328) (h63:es'.length≤9223372036854775807):Qt P ops o st (.o (.c (.ref m))) [.row kk es'] m :=
 .new hg fun a w H F hr hn=>by
  have hzn:zs ≠ []:=by intro e; rw[e] at hz0; cases hz0
  subst hkz
  have hv:=hr.plain hy
  have hs:srcOf st.objs (.rd ps (.sl zs.length es'))=some es':=rfl
  obtain⟨v',w',fp'',hr1,h3,h4,h5,h6⟩:=X5 (P:=P) (o:=o) (t:=t) (kk:=zs.length) (es := []) hr (OW.nil _) List.nodup_nil rfl hzn (hr.v1 hz) hs hpl hkk (by simpa using hb) (by simpa using h63)
  have hbel:Below w.heap.size w w':=⟨h6.os,h6.tape,h6.output,h6.size,fun b hb=>h6.block b hb (by simp)⟩
  refine⟨v',w',.ow (.sl zs.length es') v' fp'',?_,hbel,h3,⟨h4,trivial⟩,fun b hb=>(h5 b hb).resolve_left (by simp),fun H' hgr hq=>⟨⟨_,_,hq⟩,_,_,hq⟩⟩
  exact Yn ho (by rw[hv]; exact hr1)
end
instance:PlainE TFlight:=⟨fun x t h=>by
 have h2:t ∈ [T.v (.int .i64 x.At),T.v (.string x.Data)]:=h
 simp only[List.mem_cons,Gxs,or_false] at h2
 rcases h2 with rfl | rfl <;> exact⟨_,rfl⟩⟩
instance:PlainE TPace:=⟨fun x t h=>by
 have h2:t ∈ [T.v (.int .i64 x.Newest),T.v (.int .i64 x.Their),T.v (.int .i64 x.At),T.v (.int .i64 x.Trip),T.v (.int .i64 x.Samples)]:=h
 simp only[List.mem_cons,Gxs,or_false] at h2
 rcases h2 with rfl | rfl | rfl | rfl | rfl <;> exact⟨_,rfl⟩⟩
@[reducible] def mD (x:TMatch):List V1:=mX x (sr x.Level.Rows) (sr x.Scripts) (sr x.Peers) (sr x.Wires) (sr x.Paces) (sr x.Acks) (sr x.Watchers) (sr x.Lines) (sr x.Alarms)
@[reducible] def zM:List V1 := [nv,jn 0,jn 0,nv,nv,nv,nv,nv,jn 0,nv,nv,nv,jn 0]
@[reducible] def wX (w:TWire) (a:V1):List V1 := [jn w.Seed,jn w.Delay,jn w.Jitter,jn w.Loss,jn w.Copies,jn w.Damage,jn w.Now,a,jn w.Sent,jn w.Lost]
theorem sp_in {s:TSpectator} (h:Enc.wt s≤1048576):s.World.Level.Rows.length≤1048576∧s.World.Scores.length≤1048576∧s.World.Bodies.length≤1048576:=by
 have hw:Enc.wt s=(s.World.Level.Rows.length+wts s.World.Level.Rows)+(s.World.Scores.length+wts s.World.Scores)+(s.World.Bodies.length+wts s.World.Bodies):=rfl
 omega
structure MatchIn (x:TMatch):Prop where
 gd:Enc.gd x
 wt:Enc.wt x≤1048576
theorem Yv {α:Type} [Enc α] {xs:List α} {n:Nat} (h:Enc.wt xs≤n):xs.length≤n∧∀ x∈xs,Enc.wt x≤n:=by
 have hw:Enc.wt xs=xs.length+wts xs:=rfl
 exact⟨by omega,fun x hx=>by have:=Ku xs x hx; omega⟩
structure MatchLe (x:TMatch):Prop where
 L:Enc.wt x.Level.Rows≤1048576
 S:Enc.wt x.Scripts≤1048576
 P:Enc.wt x.Peers≤1048576
 W:Enc.wt x.Wires≤1048576
 Q:Enc.wt x.Paces≤1048576
 A:Enc.wt x.Acks≤1048576
 V:Enc.wt x.Watchers≤1048576
 K:Enc.wt x.Lines≤1048576
 B:Enc.wt x.Alarms≤1048576
theorem MatchIn.le {x:TMatch} (h:MatchIn x):MatchLe x:=by
 have hw:Enc.wt x=Enc.wt x.Level.Rows+Enc.wt x.Scripts+Enc.wt x.Peers+Enc.wt x.Wires+Enc.wt x.Paces+Enc.wt x.Acks+Enc.wt x.Watchers+Enc.wt x.Lines+Enc.wt x.Alarms:=rfl
 have:=h.wt
 exact⟨by omega,by omega,by omega,by omega,by omega,by omega,by omega,by omega,by omega⟩
theorem rows_in {xs:List (List Int)} (h:Enc.wt xs≤1048576):xs.length≤1048576∧∀ r∈xs,r.length≤1048576:=by
 obtain⟨a,b⟩:=Yv h
 exact⟨a,fun r hr=>(Yv (b r hr)).1⟩
theorem peer_in2 {x:TPeer} (g:Enc.gd x) (h:Enc.wt x≤1048576):PeerIn x:=by
 have hw:Enc.wt x=Enc.wt x.Tracks+(Enc.wt x.Base.Level.Rows+Enc.wt x.Base.Scores+Enc.wt x.Base.Bodies)+(Enc.wt x.Now.Level.Rows+Enc.wt x.Now.Scores+Enc.wt x.Now.Bodies)+Enc.wt x.Used+Enc.wt x.Saves+Enc.wt x.Sums+Enc.wt x.Fault:=rfl
 have a1:=Yv (xs:=x.Tracks) (n:=1048576) (by omega)
 have a2:=Yv (xs:=x.Base.Level.Rows) (n:=1048576) (by omega)
 have a3:=Yv (xs:=x.Base.Scores) (n:=1048576) (by omega)
 have a4:=Yv (xs:=x.Base.Bodies) (n:=1048576) (by omega)
 have a5:=Yv (xs:=x.Now.Level.Rows) (n:=1048576) (by omega)
 have a6:=Yv (xs:=x.Now.Scores) (n:=1048576) (by omega)
 have a7:=Yv (xs:=x.Now.Bodies) (n:=1048576) (by omega)
 have a8:=rows_in (xs:=x.Used) (by omega)
 have a9:=Yv (xs:=x.Saves) (n:=1048576) (by omega)
 have a10:=Yv (xs:=x.Sums) (n:=1048576) (by omega)
 exact⟨g,⟨a1.1,fun t ht=>(Yv (xs:=t.Inputs) (a1.2 t ht)).1⟩,⟨a2.1,a3.1,a4.1⟩,⟨a5.1,a6.1,a7.1⟩,a8,a9.1,a10.1⟩
theorem I_copyWire (w:TWire) (hL:Enc.wt w≤1048576):Con Tryz.prog 150 [] [ag w] [.row 2 (els w.Flights)] (.o (.ag (wX w (.ref 0)))):=by
 have hl:=Yf w.Flights
 have hw:Enc.wt w=w.Flights.length+wts w.Flights:=rfl
 refine Con.of Tryz.func150 J Tryz.ntmps150 J (fun E => ?_)
 refine Wz [85,4,41] ?_;refine M_appnil J J J J J J J J (Yg _) (Ye _) (by omega) (by omega) ?_;refine Wz [86,45,30,99] ?_
 exact Xi J J J J (Xw [2] (by decide) J J J)
theorem I_copyWires (xs:List TWire) (hL:Enc.wt xs≤1048576):Con Tryz.prog 212 [] [al xs] [.row 10 (els xs)] (.o (.c (.ref 0))):=by
 have hlx:=Yf xs
 obtain⟨l1,l2⟩:=Yv hL
 refine Con.of Tryz.func212 J Tryz.ntmps212 J (fun E => ?_)
 refine Wz [1,5,100,102] ?_
 refine AWP.pre ?_ (W_nil 3 10 J)
 refine Xf (fun m st=>∃ k:Nat,k+m=xs.length∧(True)∧st=(⟨_,[(3,.o (.c (.ref 0))),(6,L xs),(7,I (els xs).length),(8,I k)],[.row 10 (els (xs.take k))]⟩:St)) (xs.length) ⟨_,⟨0,by omega,trivial,J⟩,Xy [0] (by kernel_rfl)⟩ ?_
 rintro m_A _ ⟨k,hk_A,hp_A,rfl⟩
 have hl2:(els (xs.take k)).length=k:=by rw[Yf]; simp; omega
 by_cases h3:k<xs.length
 ·have f3:decide ((k:Int)<((els xs).length:Int))=true:=Gqb (by omega)
  have hat:=Yc h3
  have hc:=I_copyWire xs[k] (l2 _ (Gqd h3))
  refine Wz [1,108,4,20,151,6,1,37,40,30,106,53] ?_;refine M1 (Zm J J (hc) J J J) J J ?_;refine Wz [136,125,149,127,59,75,8,0,4] ?_
  exact⟨xs.length-(k+1),by omega,(fun k:Nat=>(⟨_,[(3,.o (.c (.ref 0))),(6,L xs),(7,I (els xs).length),(8,I k)],[.row 10 (els (xs.take k))]⟩:St)) (k+1),⟨k+1,by omega,trivial,J⟩,Xz [0] (by decide) J (Kf (Yh h3)) (.c J (.c J (.c J (.c J (.nil)))))⟩
 ·have f3:decide ((k:Int)<((els xs).length:Int))=false:=Gqa (by omega)
  have hk:xs.take k=xs:=Gqh (by omega)
  refine Wz [1,108,4,20,109,27] ?_
  exact Xk J J (Xw [0] (by decide) J (Kf (by rw[hk])) J)
theorem I_copyMatch (x:TMatch) (h:MatchIn x):Con Tryz.prog 129 [] [ag x] (mR x []) (.o (.ag (mC x 0))):=by
 obtain⟨gL,_,_,gS,gP,gW,gQ,gA,_,gV,gK,gB,_⟩:=h.gd
 have hle:=h.le
 have c1:=I_copyLevel x.Level gL (Yv hle.L).1
 have c2:=I_copyRows x.Scripts gS (rows_in hle.S).1 (rows_in hle.S).2
 have c3:=I_copyRows x.Acks gA (rows_in hle.A).1 (rows_in hle.A).2
 have cK:=I_copyWires x.Lines hle.K
 obtain⟨lP,wP⟩:=Yv hle.P
 obtain⟨lW,wW⟩:=Yv hle.W
 obtain⟨lQ,wQ⟩:=Yv hle.Q
 obtain⟨lV,wV⟩:=Yv hle.V
 obtain⟨lB,wB⟩:=Yv hle.B
 have eP:=Yf x.Peers
 have eW:=Yf x.Wires
 have eQ:=Yf x.Paces
 have eV:=Yf x.Watchers
 have eB:=Yf x.Alarms
 refine Con.of Tryz.func129 J Tryz.ntmps129 J (fun E => ?_)
 refine Wz [85,4,45,40,30,162] ?_;refine AL.weak (st':=(⟨120,[(1,.o (.c (.ptr 0 0))),(2,.o (.c (.ptr 1 0))),(3,.o (.c (.ptr 2 0))),(16,.o (.ag [sr x.Level.Rows]))],[.box (mD x),.box zM,.box (mD x)]⟩:St)) (Xz [0,1,2] (by decide) J ((by kernel_rfl)) (.c J (.c J (.c J (.c J (.nil)))))) ?_;refine M1 (Zm J J (c1) J J J) J J ?_;refine Wz [81,30,41] ?_;refine AL.weak (st':=(⟨120,[(1,.o (.c (.ptr 0 0))),(2,.o (.c (.ptr 1 0))),(3,.o (.c (.ptr 2 0))),(20,L x.Scripts)],[.box (mD x),.box zM,.box (mX x (.ref 3) (sr x.Scripts) (sr x.Peers) (sr x.Wires) (sr x.Paces) (sr x.Acks) (sr x.Watchers) (sr x.Lines) (sr x.Alarms)),.row 1 (els x.Level.Rows)]⟩:St)) (Xz [0,1,2,3] (by decide) J ((by kernel_rfl)) (.c J (.c J (.c J (.c J (.nil)))))) ?_;refine M1 (Zm J J (c2) J J J) J J ?_;refine Wz [42] ?_;refine AL.weak (st':=(⟨120,[(1,.o (.c (.ptr 0 0))),(2,.o (.c (.ptr 1 0))),(3,.o (.c (.ptr 2 0))),(24,L x.Acks)],[.box (mD x),.box zM,.box (mX x (.ref 3) (.ref 4) (sr x.Peers) (sr x.Wires) (sr x.Paces) (sr x.Acks) (sr x.Watchers) (sr x.Lines) (sr x.Alarms)),.row 1 (els x.Level.Rows),.row 1 (els x.Scripts)]⟩:St)) (Xz [0,1,2,3,4] (by decide) J ((by kernel_rfl)) (.c J (.c J (.c J (.c J (.nil)))))) ?_;refine M1 (Zm J J (c3) J J J) J J ?_;refine Wz [86,1,86,87,18,123,102] ?_
 refine AWP.pre ?_ (Wk.nilbox (p:=2) (i:=4) 23 J J)
 refine Xf (fun m st=>∃ k:Nat,k+m=x.Peers.length∧(True)∧st=(⟨120,[(1,.o (.c (.ptr 0 0))),(2,.o (.c (.ptr 1 0))),(3,.o (.c (.ptr 2 0))),(29,L x.Peers),(30,I (els x.Peers).length),(31,I k)],[.box (mD x),.box zM,.box (mX x (.ref 3) (.ref 4) (.ref 6) (sr x.Wires) (sr x.Paces) (.ref 5) (sr x.Watchers) (sr x.Lines) (sr x.Alarms)),.row 1 (els x.Level.Rows),.row 1 (els x.Scripts),.row 1 (els x.Acks),.row 23 (els (x.Peers.take k))]⟩:St)) (x.Peers.length) ⟨_,⟨0,by omega,trivial,J⟩,Xy [0,1,2,3,4,5,6] (by kernel_rfl)⟩ ?_
 rintro m_A _ ⟨k,hk_A,hp_A,rfl⟩
 have hl2:(els (x.Peers.take k)).length=k:=by rw[Yf]; simp; omega
 refine Wz [1,38,20] ?_
 refine Q9 J (fun h => ?_) (fun h => ?_)
 ·have h3:k<x.Peers.length:=by have:=Gqc h; omega
  have hat:=Yc h3
  have hm:=Gqd h3
  have hsn:=Yh h3
  generalize x.Peers[k]=u at hat hm hsn
  repeat (first | refine Qd ?_ | refine Qh ?_ | refine Qk ?_ | refine Qz ?_)
  refine Wz [75,37] ?_;refine AL.weak (st':=(⟨120,[(1,.o (.c (.ptr 0 0))),(2,.o (.c (.ptr 1 0))),(3,.o (.c (.ptr 2 0))),(29,L x.Peers),(30,I (els x.Peers).length),(31,I k),(34,.o (.ag ((Enc.e u).map (V1.rd []))))],[.box (mD x),.box zM,.box (mX x (.ref 3) (.ref 4) (.ref 6) (sr x.Wires) (sr x.Paces) (.ref 5) (sr x.Watchers) (sr x.Lines) (sr x.Alarms)),.row 1 (els x.Level.Rows),.row 1 (els x.Scripts),.row 1 (els x.Acks),.row 23 (els (x.Peers.take k))]⟩:St)) (Xz [0,1,2,3,4,5,6] (by decide) J (by kernel_rfl) (.c J (.c J (.c J (.c J (.c J (.c J (.cons (by kernel_rfl) (.nil))))))))) ?_;refine Wz [40,77] ?_;refine AL.weak (st':=(⟨120,[(1,.o (.c (.ptr 0 0))),(2,.o (.c (.ptr 1 0))),(3,.o (.c (.ptr 2 0))),(29,L x.Peers),(30,I (els x.Peers).length),(31,I k),(5,.o (.c (.ptr 7 0)))],[.box (mD x),.box zM,.box (mX x (.ref 3) (.ref 4) (.ref 6) (sr x.Wires) (sr x.Paces) (.ref 5) (sr x.Watchers) (sr x.Lines) (sr x.Alarms)),.row 1 (els x.Level.Rows),.row 1 (els x.Scripts),.row 1 (els x.Acks),.row 23 (els (x.Peers.take k)),.box ((Enc.e u).map (V1.rd []))]⟩:St)) (Xz [0,1,2,3,4,5,6,7] (by decide) J ((by kernel_rfl)) (.c J (.c J (.c J (.c J (.c J (.c J (.c J (.nil))))))))) ?_
  have cP:=I_copyPeer u (peer_in2 (gP.2 u hm) (wP u hm))
  refine Wz [4] ?_
  refine AWP.pre (st':=(⟨120,[(1,.o (.c (.ptr 0 0))),(2,.o (.c (.ptr 1 0))),(3,.o (.c (.ptr 2 0))),(29,L x.Peers),(30,I (els x.Peers).length),(31,I k),(5,.o (.c (.ptr 7 0)))],[.box (mD x),.box zM,.box (mX x (.ref 3) (.ref 4) (.ref 6) (sr x.Wires) (sr x.Paces) (.ref 5) (sr x.Watchers) (sr x.Lines) (sr x.Alarms)),.row 1 (els x.Level.Rows),.row 1 (els x.Scripts),.row 1 (els x.Acks),.row 23 (els (x.Peers.take k)),.box ((Enc.e u).map (V1.rd []))]⟩:St)) ?_ (Xz [0,1,2,3,4,5,6,7] (by decide) J ((by kernel_rfl)) (.c J (.c J (.c J (.c J (.c J (.c J (.c J (.nil)))))))))
  refine Xe u8_15 [[],[35],[],[37],[37,38],[35,36,37,38,39],[35,36,37,38,39,40],[35,36,37,38,39,40,41]] [[37,38,39],[37,38,39],[35,36],[35,36],[35,36],[],[],[]] J ?_;refine Wz [13,197] ?_;refine DR.s (Zm J J (cP) J J J) J J ?_;refine Wz [146,12] ?_;refine AL.weak (st':=(⟨120,[(1,.o (.c (.ptr 0 0))),(2,.o (.c (.ptr 1 0))),(3,.o (.c (.ptr 2 0))),(29,L x.Peers),(30,I (els x.Peers).length),(31,I k),(36,.o (.c (.ref 6))),(39,.o (.c (.sb 17 1 23)))],[.box (mD x),.box zM,.box (mX x (.ref 3) (.ref 4) (.ref 6) (sr x.Wires) (sr x.Paces) (.ref 5) (sr x.Watchers) (sr x.Lines) (sr x.Alarms)),.row 1 (els x.Level.Rows),.row 1 (els x.Scripts),.row 1 (els x.Acks),.row 23 (els (x.Peers.take k)),.row 1 (els u.Tracks),.row 1 (els u.Base.Level.Rows),.row 1 (els u.Base.Scores),.row 9 (els u.Base.Bodies),.row 1 (els u.Now.Level.Rows),.row 1 (els u.Now.Scores),.row 9 (els u.Now.Bodies),.row 1 (els u.Used),.row 2 (els u.Saves),.row 1 (els u.Sums),.box (pC u 7 8 9 10 11 12 13 14 15 16)]⟩:St)) (Xz [0,1,2,3,4,5,6,8,9,10,11,12,13,14,15,16,17,18] (by decide) J ((by kernel_rfl)) (.c J (.c J (.c J (.c J (.c J (.c J (.c J (.c J (.nil)))))))))) ?_;refine Xr J J J J J J J J J J J J J J (by omega) (by omega) ?_;refine AL.weak (st':=(⟨120,[(1,.o (.c (.ptr 0 0))),(2,.o (.c (.ptr 1 0))),(3,.o (.c (.ptr 2 0))),(29,L x.Peers),(30,I (els x.Peers).length),(31,I k),(40,.o (.c (.ref 6)))],[.box (mD x),.box zM,.box (mX x (.ref 3) (.ref 4) .un (sr x.Wires) (sr x.Paces) (.ref 5) (sr x.Watchers) (sr x.Lines) (sr x.Alarms)),.row 1 (els x.Level.Rows),.row 1 (els x.Scripts),.row 1 (els x.Acks),.row 23 (els (x.Peers.take k) ++ [Enc.e u])]⟩:St)) (Xz [0,1,2,3,4,5,6] (by decide) J ((by kernel_rfl)) (.c J (.c J (.c J (.c J (.c J (.c J (.c J (.nil))))))))) ?_;refine Wz [140,127,59,75,8,0,4] ?_
  exact⟨x.Peers.length-(k+1),by omega,_,⟨k+1,by omega,trivial,J⟩,(by rw[hsn]; exact Xy [0,1,2,3,4,5,6] (by kernel_rfl))⟩
 have h3:¬k<x.Peers.length:=by have:=Gqe h; omega
 have hk:x.Peers.take k=x.Peers:=Gqh (by omega)
 rw[hk]
 clear hl2 h3 h hk
 refine Wz [16,1,86,87,18,123,102] ?_
 refine AWP.pre ?_ (Wk.nilbox (p:=2) (i:=5) 1 J J)
 refine Xf (fun m st=>∃ k:Nat,k+m=x.Wires.length∧(True)∧st=(⟨120,[(1,.o (.c (.ptr 0 0))),(2,.o (.c (.ptr 1 0))),(3,.o (.c (.ptr 2 0))),(45,L x.Wires),(46,I (els x.Wires).length),(47,I k)],[.box (mD x),.box zM,.box (mX x (.ref 3) (.ref 4) (.ref 6) (.ref 7) (sr x.Paces) (.ref 5) (sr x.Watchers) (sr x.Lines) (sr x.Alarms)),.row 1 (els x.Level.Rows),.row 1 (els x.Scripts),.row 1 (els x.Acks),.row 23 (els x.Peers),.row 1 (els (x.Wires.take k))]⟩:St)) (x.Wires.length) ⟨_,⟨0,by omega,trivial,J⟩,Xy [0,1,2,3,4,5,6,7] (by kernel_rfl)⟩ ?_
 rintro m_B _ ⟨k,hk_B,hp_B,rfl⟩
 have hl2:(els (x.Wires.take k)).length=k:=by rw[Yf]; simp; omega
 refine Wz [1,38,20] ?_
 refine Q9 J (fun h => ?_) (fun h => ?_)
 ·have h3:k<x.Wires.length:=by have:=Gqc h; omega
  have hat:=Yc h3
  have hm:=Gqd h3
  have hsn:=Yh h3
  generalize x.Wires[k]=u at hat hm hsn
  have cW:=I_copyWires u (wW u hm)
  refine Wz [6,1,92,5] ?_
  refine AWP.pre (st':=(⟨120,[(1,.o (.c (.ptr 0 0))),(2,.o (.c (.ptr 1 0))),(3,.o (.c (.ptr 2 0))),(45,L x.Wires),(46,I (els x.Wires).length),(47,I k),(7,L u)],[.box (mD x),.box zM,.box (mX x (.ref 3) (.ref 4) (.ref 6) (.ref 7) (sr x.Paces) (.ref 5) (sr x.Watchers) (sr x.Lines) (sr x.Alarms)),.row 1 (els x.Level.Rows),.row 1 (els x.Scripts),.row 1 (els x.Acks),.row 23 (els x.Peers),.row 1 (els (x.Wires.take k))]⟩:St)) ?_ (Xz [0,1,2,3,4,5,6,7] (by decide) J ((by kernel_rfl)) (.c J (.c J (.c J (.c J (.c J (.c J (.c J (.nil)))))))))
  refine Xe u8_15 [[],[51],[],[53],[53,54],[51,52,53,54,55],[51,52,53,54,55,56],[51,52,53,54,55,56,57]] [[53,54,55],[53,54,55],[51,52],[51,52],[51,52],[],[],[]] J ?_;refine Wz [13,11] ?_;refine DR.s (Zm J J (cW) J J J) J J ?_;refine Wz [146,12,125,140,127,59,75,8,0,4] ?_
  exact⟨x.Wires.length-(k+1),by omega,_,⟨k+1,by omega,trivial,J⟩,(by rw[hsn]; exact Xy [0,1,2,3,4,5,6,7] (by kernel_rfl))⟩
 have h3:¬k<x.Wires.length:=by have:=Gqe h; omega
 have hk:x.Wires.take k=x.Wires:=Gqh (by omega)
 rw[hk]
 clear hl2 h3 h hk
 refine Wz [16,41] ?_;refine M1 (Zm J J (cK) J J J) J J ?_;refine Wz [86,1,86,87,18,123,102] ?_
 refine AWP.pre ?_ (Wk.nilbox (p:=2) (i:=6) 1 J J)
 refine Xf (fun m st=>∃ k:Nat,k+m=x.Paces.length∧(True)∧st=(⟨120,[(1,.o (.c (.ptr 0 0))),(2,.o (.c (.ptr 1 0))),(3,.o (.c (.ptr 2 0))),(65,L x.Paces),(66,I (els x.Paces).length),(67,I k)],[.box (mD x),.box zM,.box (mX x (.ref 3) (.ref 4) (.ref 6) (.ref 7) (.ref 9) (.ref 5) (sr x.Watchers) (.ref 8) (sr x.Alarms)),.row 1 (els x.Level.Rows),.row 1 (els x.Scripts),.row 1 (els x.Acks),.row 23 (els x.Peers),.row 1 (els x.Wires),.row 10 (els x.Lines),.row 1 (els (x.Paces.take k))]⟩:St)) (x.Paces.length) ⟨_,⟨0,by omega,trivial,J⟩,Xy [0,1,2,3,4,5,6,7,8,9] (by kernel_rfl)⟩ ?_
 rintro m_C _ ⟨k,hk_C,hp_C,rfl⟩
 have hl2:(els (x.Paces.take k)).length=k:=by rw[Yf]; simp; omega
 refine Wz [1,38,20] ?_
 refine Q9 J (fun h => ?_) (fun h => ?_)
 ·have h3:k<x.Paces.length:=by have:=Gqc h; omega
  have hat:=Yc h3
  have hm:=Gqd h3
  have hsn:=Yh h3
  generalize x.Paces[k]=u at hat hm hsn
  have hlu:=Yf u
  have hwu:=(Yv (wQ u hm)).1
  refine Wz [6,1,92,5] ?_
  refine AWP.pre (st':=(⟨120,[(1,.o (.c (.ptr 0 0))),(2,.o (.c (.ptr 1 0))),(3,.o (.c (.ptr 2 0))),(65,L x.Paces),(66,I (els x.Paces).length),(67,I k),(9,L u)],[.box (mD x),.box zM,.box (mX x (.ref 3) (.ref 4) (.ref 6) (.ref 7) (.ref 9) (.ref 5) (sr x.Watchers) (.ref 8) (sr x.Alarms)),.row 1 (els x.Level.Rows),.row 1 (els x.Scripts),.row 1 (els x.Acks),.row 23 (els x.Peers),.row 1 (els x.Wires),.row 10 (els x.Lines),.row 1 (els (x.Paces.take k))]⟩:St)) ?_ (Xz [0,1,2,3,4,5,6,7,8,9] (by decide) J ((by kernel_rfl)) (.c J (.c J (.c J (.c J (.c J (.c J (.c J (.nil)))))))))
  refine Xe u8_15 [[],[71],[],[73],[73,74],[71,72,73,74,75],[71,72,73,74,75,76],[71,72,73,74,75,76,77]] [[73,74,75],[73,74,75],[71,72],[71,72],[71,72],[],[],[]] J ?_;refine Wz [13,11] ?_;refine DR.s (q_appn J J J J J J (Yg _) (Ye _) (by omega) (by omega)) J J ?_;refine Wz [146,12,125,140,127,59,75,8,0,4] ?_
  exact⟨x.Paces.length-(k+1),by omega,_,⟨k+1,by omega,trivial,J⟩,(by rw[hsn]; exact Xy [0,1,2,3,4,5,6,7,8,9] (by kernel_rfl))⟩
 have h3:¬k<x.Paces.length:=by have:=Gqe h; omega
 have hk:x.Paces.take k=x.Paces:=Gqh (by omega)
 rw[hk]
 clear hl2 h3 h hk
 refine Wz [16,1,86,87,18,123,102] ?_
 refine AWP.pre ?_ (Wk.nilbox (p:=2) (i:=9) 6 J J)
 refine Xf (fun m st=>∃ k:Nat,k+m=x.Watchers.length∧(True)∧st=(⟨120,[(1,.o (.c (.ptr 0 0))),(2,.o (.c (.ptr 1 0))),(3,.o (.c (.ptr 2 0))),(81,L x.Watchers),(82,I (els x.Watchers).length),(83,I k)],[.box (mD x),.box zM,.box (mX x (.ref 3) (.ref 4) (.ref 6) (.ref 7) (.ref 9) (.ref 5) (.ref 10) (.ref 8) (sr x.Alarms)),.row 1 (els x.Level.Rows),.row 1 (els x.Scripts),.row 1 (els x.Acks),.row 23 (els x.Peers),.row 1 (els x.Wires),.row 10 (els x.Lines),.row 1 (els x.Paces),.row 6 (els (x.Watchers.take k))]⟩:St)) (x.Watchers.length) ⟨_,⟨0,by omega,trivial,J⟩,Xy [0,1,2,3,4,5,6,7,8,9,10] (by kernel_rfl)⟩ ?_
 rintro m_D _ ⟨k,hk_D,hp_D,rfl⟩
 have hl2:(els (x.Watchers.take k)).length=k:=by rw[Yf]; simp; omega
 refine Wz [1,38,20] ?_
 refine Q9 J (fun h => ?_) (fun h => ?_)
 ·have h3:k<x.Watchers.length:=by have:=Gqc h; omega
  have hat:=Yc h3
  have hm:=Gqd h3
  have hsn:=Yh h3
  generalize x.Watchers[k]=u at hat hm hsn
  repeat (first | refine Qd ?_ | refine Qh ?_ | refine Qk ?_ | refine Qz ?_)
  refine Wz [75,37] ?_;refine AL.weak (st':=(⟨120,[(1,.o (.c (.ptr 0 0))),(2,.o (.c (.ptr 1 0))),(3,.o (.c (.ptr 2 0))),(81,L x.Watchers),(82,I (els x.Watchers).length),(83,I k),(86,.o (.ag ((Enc.e u).map (V1.rd []))))],[.box (mD x),.box zM,.box (mX x (.ref 3) (.ref 4) (.ref 6) (.ref 7) (.ref 9) (.ref 5) (.ref 10) (.ref 8) (sr x.Alarms)),.row 1 (els x.Level.Rows),.row 1 (els x.Scripts),.row 1 (els x.Acks),.row 23 (els x.Peers),.row 1 (els x.Wires),.row 10 (els x.Lines),.row 1 (els x.Paces),.row 6 (els (x.Watchers.take k))]⟩:St)) (Xz [0,1,2,3,4,5,6,7,8,9,10] (by decide) J (by kernel_rfl) (.c J (.c J (.c J (.c J (.c J (.c J (.cons (by kernel_rfl) (.nil))))))))) ?_;refine Wz [40,77] ?_;refine AL.weak (st':=(⟨120,[(1,.o (.c (.ptr 0 0))),(2,.o (.c (.ptr 1 0))),(3,.o (.c (.ptr 2 0))),(81,L x.Watchers),(82,I (els x.Watchers).length),(83,I k),(11,.o (.c (.ptr 11 0)))],[.box (mD x),.box zM,.box (mX x (.ref 3) (.ref 4) (.ref 6) (.ref 7) (.ref 9) (.ref 5) (.ref 10) (.ref 8) (sr x.Alarms)),.row 1 (els x.Level.Rows),.row 1 (els x.Scripts),.row 1 (els x.Acks),.row 23 (els x.Peers),.row 1 (els x.Wires),.row 10 (els x.Lines),.row 1 (els x.Paces),.row 6 (els (x.Watchers.take k)),.box ((Enc.e u).map (V1.rd []))]⟩:St)) (Xz [0,1,2,3,4,5,6,7,8,9,10,11] (by decide) J ((by kernel_rfl)) (.c J (.c J (.c J (.c J (.c J (.c J (.c J (.nil))))))))) ?_
  have cV:=I_copyWorld u.World (gV.2 u hm).1 (sp_in (wV u hm)).1 (sp_in (wV u hm)).2.1 (sp_in (wV u hm)).2.2
  refine Wz [4] ?_
  refine AWP.pre (st':=(⟨120,[(1,.o (.c (.ptr 0 0))),(2,.o (.c (.ptr 1 0))),(3,.o (.c (.ptr 2 0))),(81,L x.Watchers),(82,I (els x.Watchers).length),(83,I k),(11,.o (.c (.ptr 11 0)))],[.box (mD x),.box zM,.box (mX x (.ref 3) (.ref 4) (.ref 6) (.ref 7) (.ref 9) (.ref 5) (.ref 10) (.ref 8) (sr x.Alarms)),.row 1 (els x.Level.Rows),.row 1 (els x.Scripts),.row 1 (els x.Acks),.row 23 (els x.Peers),.row 1 (els x.Wires),.row 10 (els x.Lines),.row 1 (els x.Paces),.row 6 (els (x.Watchers.take k)),.box ((Enc.e u).map (V1.rd []))]⟩:St)) ?_ (Xz [0,1,2,3,4,5,6,7,8,9,10,11] (by decide) J ((by kernel_rfl)) (.c J (.c J (.c J (.c J (.c J (.c J (.c J (.nil)))))))))
  refine Xe [[],[0],[],[2],[2,3],[],[5],[2,3,4,5,6],[2,3,4,5,6,7],(u9 9),(u9 10),(u9 11)] [[],[87],[],[89],[89,90],[],[92],[89,90,91,92,93],[89,90,91,92,93,94],[87,88,89,90,91,92,93,94,95],[87,88,89,90,91,92,93,94,95,96],[87,88,89,90,91,92,93,94,95,96,97]] [[89,90,91,92,93,94,95],[89,90,91,92,93,94,95],[87,88,92,93],[87,88,92,93],[87,88,92,93],[87,88,89,90,91],[87,88,89,90,91],[87,88],[87,88],[],[],[]] J ?_;refine Wz [13,191,197] ?_;refine DR.s (Zm J J (cV) J J J) J J ?_;refine Wz [13,245,146,12,125,140,127,59,75,8,0,4] ?_
  exact⟨x.Watchers.length-(k+1),by omega,_,⟨k+1,by omega,trivial,J⟩,(by rw[hsn]; exact Xy [0,1,2,3,4,5,6,7,8,9,10] (by kernel_rfl))⟩
 have h3:¬k<x.Watchers.length:=by have:=Gqe h; omega
 have hk:x.Watchers.take k=x.Watchers:=Gqh (by omega)
 rw[hk]
 clear hl2 h3 h hk
 refine Wz [16,1,86,87,18,123,102] ?_
 refine AWP.pre ?_ (Wk.nilbox (p:=2) (i:=11) 2 J J)
 refine Xf (fun m st=>∃ k:Nat,k+m=x.Alarms.length∧(True)∧st=(⟨120,[(1,.o (.c (.ptr 0 0))),(2,.o (.c (.ptr 1 0))),(3,.o (.c (.ptr 2 0))),(101,L x.Alarms),(102,I (els x.Alarms).length),(103,I k)],[.box (mD x),.box zM,.box (mX x (.ref 3) (.ref 4) (.ref 6) (.ref 7) (.ref 9) (.ref 5) (.ref 10) (.ref 8) (.ref 11)),.row 1 (els x.Level.Rows),.row 1 (els x.Scripts),.row 1 (els x.Acks),.row 23 (els x.Peers),.row 1 (els x.Wires),.row 10 (els x.Lines),.row 1 (els x.Paces),.row 6 (els x.Watchers),.row 2 (els (x.Alarms.take k))]⟩:St)) (x.Alarms.length) ⟨_,⟨0,by omega,trivial,J⟩,Xy [0,1,2,3,4,5,6,7,8,9,10,11] (by kernel_rfl)⟩ ?_
 rintro m_G _ ⟨k,hk_G,hp_G,rfl⟩
 have hl2:(els (x.Alarms.take k)).length=k:=by rw[Yf]; simp; omega
 refine Wz [1,38,20] ?_
 refine Q9 J (fun h => ?_) (fun h => ?_)
 ·have h3:k<x.Alarms.length:=by have:=Gqc h; omega
  have hat:=Yc h3
  have hm:=Gqd h3
  have hsn:=Yh h3
  generalize x.Alarms[k]=u at hat hm hsn
  repeat (first | refine Qd ?_ | refine Qh ?_ | refine Qk ?_ | refine Qz ?_)
  refine Wz [75,37] ?_;refine AL.weak (st':=(⟨120,[(1,.o (.c (.ptr 0 0))),(2,.o (.c (.ptr 1 0))),(3,.o (.c (.ptr 2 0))),(101,L x.Alarms),(102,I (els x.Alarms).length),(103,I k),(106,.o (.ag ((Enc.e u).map (V1.rd []))))],[.box (mD x),.box zM,.box (mX x (.ref 3) (.ref 4) (.ref 6) (.ref 7) (.ref 9) (.ref 5) (.ref 10) (.ref 8) (.ref 11)),.row 1 (els x.Level.Rows),.row 1 (els x.Scripts),.row 1 (els x.Acks),.row 23 (els x.Peers),.row 1 (els x.Wires),.row 10 (els x.Lines),.row 1 (els x.Paces),.row 6 (els x.Watchers),.row 2 (els (x.Alarms.take k))]⟩:St)) (Xz [0,1,2,3,4,5,6,7,8,9,10,11] (by decide) J (by kernel_rfl) (.c J (.c J (.c J (.c J (.c J (.c J (.cons (by kernel_rfl) (.nil))))))))) ?_;refine Wz [40,77] ?_;refine AL.weak (st':=(⟨120,[(1,.o (.c (.ptr 0 0))),(2,.o (.c (.ptr 1 0))),(3,.o (.c (.ptr 2 0))),(101,L x.Alarms),(102,I (els x.Alarms).length),(103,I k),(13,.o (.c (.ptr 12 0)))],[.box (mD x),.box zM,.box (mX x (.ref 3) (.ref 4) (.ref 6) (.ref 7) (.ref 9) (.ref 5) (.ref 10) (.ref 8) (.ref 11)),.row 1 (els x.Level.Rows),.row 1 (els x.Scripts),.row 1 (els x.Acks),.row 23 (els x.Peers),.row 1 (els x.Wires),.row 10 (els x.Lines),.row 1 (els x.Paces),.row 6 (els x.Watchers),.row 2 (els (x.Alarms.take k)),.box ((Enc.e u).map (V1.rd []))]⟩:St)) (Xz [0,1,2,3,4,5,6,7,8,9,10,11,12] (by decide) J ((by kernel_rfl)) (.c J (.c J (.c J (.c J (.c J (.c J (.c J (.nil))))))))) ?_
  have hlu:=Yf u.Parts
  have hwu:=(Yv (xs:=u.Parts) (wB u hm)).1
  refine Wz [4] ?_
  refine AWP.pre (st':=(⟨120,[(1,.o (.c (.ptr 0 0))),(2,.o (.c (.ptr 1 0))),(3,.o (.c (.ptr 2 0))),(101,L x.Alarms),(102,I (els x.Alarms).length),(103,I k),(13,.o (.c (.ptr 12 0)))],[.box (mD x),.box zM,.box (mX x (.ref 3) (.ref 4) (.ref 6) (.ref 7) (.ref 9) (.ref 5) (.ref 10) (.ref 8) (.ref 11)),.row 1 (els x.Level.Rows),.row 1 (els x.Scripts),.row 1 (els x.Acks),.row 23 (els x.Peers),.row 1 (els x.Wires),.row 10 (els x.Lines),.row 1 (els x.Paces),.row 6 (els x.Watchers),.row 2 (els (x.Alarms.take k)),.box ((Enc.e u).map (V1.rd []))]⟩:St)) ?_ (Xz [0,1,2,3,4,5,6,7,8,9,10,11,12] (by decide) J ((by kernel_rfl)) (.c J (.c J (.c J (.c J (.c J (.c J (.c J (.nil)))))))))
  refine Xe [[],[0],[],[2],[],[4],[4,5],[2,3,4,5,6],[2,3,4,5,6,7],(u9 9),(u9 10),(u9 11)] [[],[107],[],[109],[],[111],[111,112],[109,110,111,112,113],[109,110,111,112,113,114],[107,108,109,110,111,112,113,114,115],[107,108,109,110,111,112,113,114,115,116],[107,108,109,110,111,112,113,114,115,116,117]] [[109,110,111,112,113,114,115],[109,110,111,112,113,114,115],[107,108,111,112,113],[107,108,111,112,113],[107,108,109,110],[107,108,109,110],[107,108,109,110],[107,108],[107,108],[],[],[]] J ?_;refine Wz [13,13,13] ?_;refine DR.s (q_appn J J J J J J (Yg _) (Ye _) (by omega) (by omega)) J J ?_;refine Wz [245,146,12,125,140,127,59,75,8,0,4] ?_
  exact⟨x.Alarms.length-(k+1),by omega,_,⟨k+1,by omega,trivial,J⟩,(by rw[hsn]; exact Xy [0,1,2,3,4,5,6,7,8,9,10,11] (by kernel_rfl))⟩
 have h3:¬k<x.Alarms.length:=by have:=Gqe h; omega
 have hk:x.Alarms.take k=x.Alarms:=Gqh (by omega)
 rw[hk]
 clear hl2 h3 h hk
 refine Wz [16,45,30,99] ?_
 exact Xi J J J J (Xw [3,4,6,7,9,5,10,8,11] (by decide) J J J)
end
section
open Go.RowKit

theorem S_l03Copy (t:TTrack) (hL:t.Inputs.length≤1048576):Con Tryz.prog 277 [] [ag t] [.row 1 (els t.Inputs)] (.o (.ag [.ref 0])):=by
 have hl:=Yf t.Inputs
 have h00:([]:List (List T)).length=0:=rfl
 refine Con.of Tryz.func277 J Tryz.ntmps277 J (fun E => ?_)
 refine Wz [85,4,1,159,18] ?_;refine M_app J J J J J J J J J J (Yg _) (Ye _) (by omega) (by omega) ?_;refine Wz [144,30,99] ?_
 exact Xi J J J J (Xw [2] (by decide) J J J)
theorem S_l03CopyAll (xs:List TTrack) (hL:xs.length≤1048576) (hr:∀ t∈xs,t.Inputs.length≤1048576):Con Tryz.prog 244 [] [al xs] [.row 1 (els xs)] (.o (.c (.ref 0))):=by
 have hlx:=Yf xs
 refine Con.of Tryz.func244 J Tryz.ntmps244 J (fun E => ?_)
 refine Wz [1,5,1,159,130] ?_;refine Xf (fun m st=>∃ k:Nat,k+m=xs.length∧(True)∧st=(⟨21,[(0,L xs),(3,.o (.c (.ref 0))),(4,I k)],[.row 1 (els (xs.take k))]⟩:St)) (xs.length) ⟨_,⟨0,by omega,trivial,J⟩,Xy [0] (by kernel_rfl)⟩ ?_
 rintro m_A _ ⟨k,hk_A,hp_A,rfl⟩
 have hl2:(els (xs.take k)).length=k:=by rw[Yf]; simp; omega
 by_cases h3:k<xs.length
 ·have f3:decide ((k:Int)<((els xs).length:Int))=true:=Gqb (by omega)
  have hat:=Yc h3
  have hc:=S_l03Copy xs[k] (hr _ (Gqd h3))
  refine Wz [116,73,78,0,37] ?_;refine M1 (Zm J J (hc) J J J) J J ?_;refine Wz [136,125,76] ?_
  exact⟨xs.length-(k+1),by omega,(fun k:Nat=>(⟨21,[(0,L xs),(3,.o (.c (.ref 0))),(4,I k)],[.row 1 (els (xs.take k))]⟩:St)) (k+1),⟨k+1,by omega,trivial,J⟩,Xz [0] (by decide) J (Kf (Yh h3)) (.c J (.c J (.c J (.nil))))⟩
 ·have f3:decide ((k:Int)<((els xs).length:Int))=false:=Gqa (by omega)
  have hk:xs.take k=xs:=Gqh (by omega)
  refine Wz [116,32,27] ?_
  exact Xk J J (Xw [0] (by decide) J (Kf (by rw[hk])) J)
theorem S_l05Copy (w:TWire) (hL:Enc.wt w≤1048576):Con Tryz.prog 147 [] [ag w] [.row 2 (els w.Flights)] (.o (.ag (wX w (.ref 0)))):=by
 have hl:=Yf w.Flights
 have hw:Enc.wt w=w.Flights.length+wts w.Flights:=rfl
 have h00:([]:List (List T)).length=0:=rfl
 refine Con.of Tryz.func147 J Tryz.ntmps147 J (fun E => ?_)
 refine Wz [85,4,1,159,18] ?_;refine M_app J J J J J J J J J J (Yg _) (Ye _) (by omega) (by omega) ?_;refine Wz [86,45,30,99] ?_
 exact Xi J J J J (Xw [2] (by decide) J J J)
theorem S_l04Copy (x:TPeer) (h:PeerIn x):Con Tryz.prog 207 [] [ag x] (pR x []) (.o (.ag (pC x 0 1 2 3 4 5 6 7 8 9))):=by
 obtain⟨_,_,_,_,gT,gB,gN,gU,gS,gM,gF,_,_⟩:=h.gd
 have hlu:=Yf x.Used
 have hsv:=h.sv
 have hsm:=h.sm
 have hus:=h.us.1
 have wU:=h.us.2
 have h00:([]:List (List T)).length=0:=rfl
 have c1:=S_l03CopyAll x.Tracks h.tr.1 h.tr.2
 have c2:=S_copyWorld x.Base gB h.bw.1 h.bw.2.1 h.bw.2.2
 have c3:=S_copyWorld x.Now gN h.nw.1 h.nw.2.1 h.nw.2.2
 refine Con.of Tryz.func207 J Tryz.ntmps207 J (fun E => ?_)
 repeat (first | refine Qd ?_ | refine Qh ?_ | refine Qk ?_ | refine Qz ?_)
 refine Wz [75,285,40] ?_;refine AL.weak (st':=(⟨49,[(1,.o (.c (.ptr 0 0))),(2,.o (.c (.ptr 1 0)))],[.box (pD x),.box zP]⟩:St)) (Xz [0,1] (by decide) J ((by kernel_rfl)) (.c J (.c J (.nil)))) ?_;refine Wz [4] ?_
 repeat (first | refine Qd ?_ | refine Qh ?_ | refine Qk ?_ | refine Qz ?_)
 refine Wz [75,53] ?_;refine AL.weak (st':=(⟨49,[(1,.o (.c (.ptr 0 0))),(2,.o (.c (.ptr 1 0))),(5,.o (.ag (pD x)))],[.box (pD x),.box zP]⟩:St)) (Xz [0,1] (by decide) J ((by kernel_rfl)) (.c J (.c J (.c J (.nil))))) ?_;refine Wz [40,77] ?_;refine AL.weak (st':=(⟨49,[(1,.o (.c (.ptr 0 0))),(2,.o (.c (.ptr 1 0))),(3,.o (.c (.ptr 2 0)))],[.box (pD x),.box zP,.box (pX x (sr x.Tracks) (sr x.Base.Level.Rows) (sr x.Base.Scores) (sr x.Base.Bodies) (sr x.Now.Level.Rows) (sr x.Now.Scores) (sr x.Now.Bodies) (sr x.Used) (sr x.Saves) (sr x.Sums))]⟩:St)) (Xz [0,1,2] (by decide) J ((by kernel_rfl)) (.c J (.c J (.c J (.nil))))) ?_;refine Wz [4,41] ?_;refine AL.weak (st':=(⟨49,[(1,.o (.c (.ptr 0 0))),(2,.o (.c (.ptr 1 0))),(3,.o (.c (.ptr 2 0))),(7,L x.Tracks)],[.box (pD x),.box zP,.box (pX x (sr x.Tracks) (sr x.Base.Level.Rows) (sr x.Base.Scores) (sr x.Base.Bodies) (sr x.Now.Level.Rows) (sr x.Now.Scores) (sr x.Now.Bodies) (sr x.Used) (sr x.Saves) (sr x.Sums))]⟩:St)) (Xz [0,1,2] (by decide) J ((by kernel_rfl)) (.c J (.c J (.c J (.c J (.nil)))))) ?_;refine M1 (Zm J J (c1) J J J) J J ?_;refine Wz [86,162] ?_;refine AL.weak (st':=(⟨49,[(1,.o (.c (.ptr 0 0))),(2,.o (.c (.ptr 1 0))),(3,.o (.c (.ptr 2 0))),(11,.o (.ag (wD x.Base)))],[.box (pD x),.box zP,.box (pX x (.ref 3) (sr x.Base.Level.Rows) (sr x.Base.Scores) (sr x.Base.Bodies) (sr x.Now.Level.Rows) (sr x.Now.Scores) (sr x.Now.Bodies) (sr x.Used) (sr x.Saves) (sr x.Sums)),.row 1 (els x.Tracks)]⟩:St)) (Xz [0,1,2,3] (by decide) J ((by kernel_rfl)) (.c J (.c J (.c J (.c J (.nil)))))) ?_;refine M1 (Zm J J (c2) J J J) J J ?_;refine Wz [81,30,162] ?_;refine AL.weak (st':=(⟨49,[(1,.o (.c (.ptr 0 0))),(2,.o (.c (.ptr 1 0))),(3,.o (.c (.ptr 2 0))),(15,.o (.ag (wD x.Now)))],[.box (pD x),.box zP,.box (pX x (.ref 3) (.ref 4) (.ref 5) (.ref 6) (sr x.Now.Level.Rows) (sr x.Now.Scores) (sr x.Now.Bodies) (sr x.Used) (sr x.Saves) (sr x.Sums)),.row 1 (els x.Tracks),.row 1 (els x.Base.Level.Rows),.row 1 (els x.Base.Scores),.row 9 (els x.Base.Bodies)]⟩:St)) (Xz [0,1,2,3,4,5,6] (by decide) J ((by kernel_rfl)) (.c J (.c J (.c J (.c J (.nil)))))) ?_;refine M1 (Zm J J (c3) J J J) J J ?_;refine Wz [81,30,1,86,87,44] ?_
 refine AWP.pre ?_ (Wk.nilbox (p:=2) (i:=15) 1 J J)
 refine Xf (fun m st=>∃ k:Nat,k+m=x.Used.length∧(True)∧st=(⟨49,[(1,.o (.c (.ptr 0 0))),(2,.o (.c (.ptr 1 0))),(3,.o (.c (.ptr 2 0))),(4,I k)],[.box (pD x),.box zP,.box (pX x (.ref 3) (.ref 4) (.ref 5) (.ref 6) (.ref 7) (.ref 8) (.ref 9) (.ref 10) (sr x.Saves) (sr x.Sums)),.row 1 (els x.Tracks),.row 1 (els x.Base.Level.Rows),.row 1 (els x.Base.Scores),.row 9 (els x.Base.Bodies),.row 1 (els x.Now.Level.Rows),.row 1 (els x.Now.Scores),.row 9 (els x.Now.Bodies),.row 1 (els (x.Used.take k))]⟩:St)) (x.Used.length) ⟨_,⟨0,by omega,trivial,J⟩,Xy [0,1,2,3,4,5,6,7,8,9,10] (by kernel_rfl)⟩ ?_
 rintro m_A _ ⟨k,hk_A,hp_A,rfl⟩
 have hl2:(els (x.Used.take k)).length=k:=by rw[Yf]; simp; omega
 by_cases h3:k<x.Used.length
 ·have f3:decide ((k:Int)<((els x.Used).length:Int))=true:=Gqb (by omega)
  have hat:=Yc h3
  have hrk:=wU _ (Gqd h3)
  have hsn:=Yh h3
  generalize x.Used[k]=r at hat hrk hsn
  have hlk:=Yf r
  refine Wz [69,67,73] ?_
  refine AWP.pre (st':=(⟨49,[(1,.o (.c (.ptr 0 0))),(2,.o (.c (.ptr 1 0))),(3,.o (.c (.ptr 2 0))),(4,I k)],[.box (pD x),.box zP,.box (pX x (.ref 3) (.ref 4) (.ref 5) (.ref 6) (.ref 7) (.ref 8) (.ref 9) (.ref 10) (sr x.Saves) (sr x.Sums)),.row 1 (els x.Tracks),.row 1 (els x.Base.Level.Rows),.row 1 (els x.Base.Scores),.row 9 (els x.Base.Bodies),.row 1 (els x.Now.Level.Rows),.row 1 (els x.Now.Scores),.row 9 (els x.Now.Bodies),.row 1 (els (x.Used.take k))]⟩:St)) ?_ (Xz [0,1,2,3,4,5,6,7,8,9,10] (by decide) J ((by kernel_rfl)) (.c J (.c J (.c J (.c J (.nil))))))
  cases r with
  |nil =>
   refine Xe u8_16 u8_17 u8_18 J ?_;refine Wz [13,185,13,50,21,246,146,12] ?_;refine AL.weak (Wk.sbrow (q:=11) (es := []) J J (Gqw J)) ?_;refine Wz [125,140,93] ?_
   exact⟨x.Used.length-(k+1),by omega,_,⟨k+1,by omega,trivial,J⟩,(by rw[hsn]; exact Xy [0,1,2,3,4,5,6,7,8,9,10] (by kernel_rfl))⟩
  |cons a rs =>
   have hpos:0<(els (a::rs)).length:=by rw[Yf]; simp
   refine Xe u8_16 u8_17 u8_18 J ?_;refine Wz [13,185,13,50,21] ?_;refine DR.s (q_appz J J J J J J (Yg _) (Ye _) hpos (by omega) (by omega)) J J ?_;refine Wz [146,12,125,140,93] ?_
   exact⟨x.Used.length-(k+1),by omega,_,⟨k+1,by omega,trivial,J⟩,(by rw[hsn]; exact Xy [0,1,2,3,4,5,6,7,8,9,10] (by kernel_rfl))⟩
 have f3:decide ((k:Int)<((els x.Used).length:Int))=false:=Gqa (by omega)
 have hk:x.Used.take k=x.Used:=Gqh (by omega)
 rw[hk]
 clear hl2 h3 hk
 refine Wz [69,67,32,16,1,159,18] ?_;refine AL.weak (st':=(⟨49,[(1,.o (.c (.ptr 0 0))),(2,.o (.c (.ptr 1 0))),(3,.o (.c (.ptr 2 0))),(38,.o (.c (.ref 11))),(40,L x.Saves)],[.box (pD x),.box zP,.box (pX x (.ref 3) (.ref 4) (.ref 5) (.ref 6) (.ref 7) (.ref 8) (.ref 9) (.ref 10) (sr x.Saves) (sr x.Sums)),.row 1 (els x.Tracks),.row 1 (els x.Base.Level.Rows),.row 1 (els x.Base.Scores),.row 9 (els x.Base.Bodies),.row 1 (els x.Now.Level.Rows),.row 1 (els x.Now.Scores),.row 9 (els x.Now.Bodies),.row 1 (els x.Used),.row 2 []]⟩:St)) (Xz [0,1,2,3,4,5,6,7,8,9,10,11] (by decide) J ((by kernel_rfl)) (.c J (.c J (.c J (.c J (.c J (.nil))))))) ?_
 have hls:=Yf x.Saves
 refine M_app J J J J J J J J J J (Yg _) (Ye _) (by omega) (by omega) ?_;refine AL.weak (st':=(⟨49,[(1,.o (.c (.ptr 0 0))),(2,.o (.c (.ptr 1 0))),(3,.o (.c (.ptr 2 0))),(41,.o (.c (.ref 11)))],[.box (pD x),.box zP,.box (pX x (.ref 3) (.ref 4) (.ref 5) (.ref 6) (.ref 7) (.ref 8) (.ref 9) (.ref 10) (sr x.Saves) (sr x.Sums)),.row 1 (els x.Tracks),.row 1 (els x.Base.Level.Rows),.row 1 (els x.Base.Scores),.row 9 (els x.Base.Bodies),.row 1 (els x.Now.Level.Rows),.row 1 (els x.Now.Scores),.row 9 (els x.Now.Bodies),.row 1 (els x.Used),.row 2 (els x.Saves)]⟩:St)) (Xz [0,1,2,3,4,5,6,7,8,9,10,11] (by decide) J ((by kernel_rfl)) (.c J (.c J (.c J (.c J (.nil)))))) ?_;refine Wz [86,1,159,18] ?_;refine AL.weak (st':=(⟨49,[(1,.o (.c (.ptr 0 0))),(2,.o (.c (.ptr 1 0))),(3,.o (.c (.ptr 2 0))),(43,.o (.c (.ref 12))),(45,L x.Sums)],[.box (pD x),.box zP,.box (pX x (.ref 3) (.ref 4) (.ref 5) (.ref 6) (.ref 7) (.ref 8) (.ref 9) (.ref 10) (.ref 11) (sr x.Sums)),.row 1 (els x.Tracks),.row 1 (els x.Base.Level.Rows),.row 1 (els x.Base.Scores),.row 9 (els x.Base.Bodies),.row 1 (els x.Now.Level.Rows),.row 1 (els x.Now.Scores),.row 9 (els x.Now.Bodies),.row 1 (els x.Used),.row 2 (els x.Saves),.row 1 []]⟩:St)) (Xz [0,1,2,3,4,5,6,7,8,9,10,11,12] (by decide) J ((by kernel_rfl)) (.c J (.c J (.c J (.c J (.c J (.nil))))))) ?_
 have hlm:=Yf x.Sums
 refine M_app J J J J J J J J J J (Yg _) (Ye _) (by omega) (by omega) ?_;refine AL.weak (st':=(⟨49,[(1,.o (.c (.ptr 0 0))),(2,.o (.c (.ptr 1 0))),(3,.o (.c (.ptr 2 0))),(46,.o (.c (.ref 12)))],[.box (pD x),.box zP,.box (pX x (.ref 3) (.ref 4) (.ref 5) (.ref 6) (.ref 7) (.ref 8) (.ref 9) (.ref 10) (.ref 11) (sr x.Sums)),.row 1 (els x.Tracks),.row 1 (els x.Base.Level.Rows),.row 1 (els x.Base.Scores),.row 9 (els x.Base.Bodies),.row 1 (els x.Now.Level.Rows),.row 1 (els x.Now.Scores),.row 9 (els x.Now.Bodies),.row 1 (els x.Used),.row 2 (els x.Saves),.row 1 (els x.Sums)]⟩:St)) (Xz [0,1,2,3,4,5,6,7,8,9,10,11,12] (by decide) J ((by kernel_rfl)) (.c J (.c J (.c J (.c J (.nil)))))) ?_;refine Wz [140] ?_;refine AL.weak (st':=(⟨49,[(1,.o (.c (.ptr 0 0))),(2,.o (.c (.ptr 1 0))),(3,.o (.c (.ptr 2 0)))],[.box (pD x),.box zP,.box (pX x (.ref 3) (.ref 4) (.ref 5) (.ref 6) (.ref 7) (.ref 8) (.ref 9) (.ref 10) (.ref 11) (.ref 12)),.row 1 (els x.Tracks),.row 1 (els x.Base.Level.Rows),.row 1 (els x.Base.Scores),.row 9 (els x.Base.Bodies),.row 1 (els x.Now.Level.Rows),.row 1 (els x.Now.Scores),.row 9 (els x.Now.Bodies),.row 1 (els x.Used),.row 2 (els x.Saves),.row 1 (els x.Sums)]⟩:St)) (Xz [0,1,2,3,4,5,6,7,8,9,10,11,12] (by decide) J ((by kernel_rfl)) (.c J (.c J (.c J (.nil))))) ?_;refine Wz [4] ?_
 repeat (first | refine Qd ?_ | refine Qh ?_ | refine Qk ?_ | refine Qz ?_)
 refine Wz [75,53] ?_;refine AL.weak (st':=(⟨49,[(1,.o (.c (.ptr 0 0))),(2,.o (.c (.ptr 1 0))),(3,.o (.c (.ptr 2 0))),(48,.o (.ag (pX x (.ref 3) (.ref 4) (.ref 5) (.ref 6) (.ref 7) (.ref 8) (.ref 9) (.ref 10) (.ref 11) (.ref 12))))],[.box (pD x),.box zP,.box (pX x (.ref 3) (.ref 4) (.ref 5) (.ref 6) (.ref 7) (.ref 8) (.ref 9) (.ref 10) (.ref 11) (.ref 12)),.row 1 (els x.Tracks),.row 1 (els x.Base.Level.Rows),.row 1 (els x.Base.Scores),.row 9 (els x.Base.Bodies),.row 1 (els x.Now.Level.Rows),.row 1 (els x.Now.Scores),.row 9 (els x.Now.Bodies),.row 1 (els x.Used),.row 2 (els x.Saves),.row 1 (els x.Sums)]⟩:St)) (Xz [0,1,2,3,4,5,6,7,8,9,10,11,12] (by decide) J ((by kernel_rfl)) (.c J (.c J (.c J (.c J (.nil)))))) ?_;refine Qy J J J J J J J J J ?_;refine AL.weak (st':=(⟨49,[(1,.o (.c (.ptr 0 0))),(2,.o (.c (.ptr 1 0)))],[.box (pD x),.box (pX x (.ref 2) (.ref 3) (.ref 4) (.ref 5) (.ref 6) (.ref 7) (.ref 8) (.ref 9) (.ref 10) (.ref 11)),.row 1 (els x.Tracks),.row 1 (els x.Base.Level.Rows),.row 1 (els x.Base.Scores),.row 9 (els x.Base.Bodies),.row 1 (els x.Now.Level.Rows),.row 1 (els x.Now.Scores),.row 9 (els x.Now.Bodies),.row 1 (els x.Used),.row 2 (els x.Saves),.row 1 (els x.Sums)]⟩:St)) (Xz [0,1,3,4,5,6,7,8,9,10,11,12] (by decide) J ((by kernel_rfl)) (.c J (.c J (.nil)))) ?_;refine Wz [4,99] ?_
 exact Xi (cs:=pC x 2 3 4 5 6 7 8 9 10 11) J J J J (Xw [2,3,4,5,6,7,8,9,10,11] (by decide) J (by kernel_rfl) (by kernel_rfl))
end
end Go.Proofs.YtoecjaohdnoenaaGreat
