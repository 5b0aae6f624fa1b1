/-
  JoinWatcher, in the program and in the reference.
  Conditions: matches of at most 2^20 elements in all.
-/
import Derived.Test.YtoecjaohdnoenaaGreatDDJoinRowk28
set_option linter.unusedSimpArgs false
set_option linter.unusedVariables false
set_option maxRecDepth 8000
set_option maxHeartbeats 8000000
namespace Go.Proofs.YtoecjaohdnoenaaGreat
section
open Go.RowKit

theorem gd_snoc {α:Type} [Enc α] {xs:List α} {s:α} (h:Enc.gd xs) (hs:Enc.gd s) (hl:xs.length≤1048576):Enc.gd (xs ++ [s]):=⟨by rw[Gqr]; simp; omega,fun x hx=>by
 rcases Gqs.1 hx with h' | h'
 ·exact h.2 _ h'
 ·rw[List.mem_singleton.1 h']; exact hs⟩
theorem wt_snoc {α:Type} [Enc α] (xs:List α) (s:α):Enc.wt (xs ++ [s])=Enc.wt xs+1+Enc.wt s:=by
 show (xs ++ [s]).length+wts (xs ++ [s])=xs.length+wts xs+1+Enc.wt s
 have h:∀ ys:List α,wts (ys ++ [s])=wts ys+Enc.wt s:=fun ys=>by
  induction ys with
  |nil=>simp[wts]
  |cons y ys ih=>simp only[List.cons_append,wts,ih]; omega
 rw[h,Gqr]
 simp
 omega
def zP0:TPeer:=⟨0,0,0,0,[],zeroWorld,zeroWorld,[],[],[],⟨0,0,0⟩,0,0⟩
noncomputable def joinR (x:TMatch):Option TWorld:=readWorld x.Level (snapshotOf (x.Peers.getD 0 zP0))
noncomputable def joinL (x:TMatch):TWire:={ ((x.Wires.getD 0 []).getD (x.Peers.length-1) ⟨0,0,0,0,0,0,0,[],0,0⟩) with Flights := [],Seed:=7*((x.Watchers.length:Int)+1) }
noncomputable def joinN (x:TMatch):TMatch:={ x with Watchers:=x.Watchers ++ [⟨rwW (joinR x),0⟩],Lines:=x.Lines ++ [joinL x] }
noncomputable def joinB (x:TMatch):Bool:=matchOk x&&matchOk (joinN x)
noncomputable def joinV (x:TMatch):TMatch:=if joinB x=true then joinN x else x
theorem join_no {x:TMatch} (h:rwB (joinR x)=false):matchOk (joinN x)=false:=by
 cases hm:matchOk (joinN x) with
 |false=>rfl
 | true =>
  exfalso
  obtain⟨⟨hl,_⟩,_,_,_,_,⟨_,h2⟩,h3⟩:=(dS hm:MatchP (joinN x))
  have e1:(joinN x).Watchers[x.Watchers.length]? = some ⟨rwW (joinR x),0⟩:=by
   show (x.Watchers ++ [_])[x.Watchers.length]? = _
   rw[Gqv (Gqj _),Gxr]; rfl
  have hlt:x.Watchers.length<(joinN x).Lines.length:=by rw[h2]; exact (Gqm.1 e1).1
  have h4:=h3 _ _ _ e1 (Gqg hlt)
  rw[watcherIn] at h4
  simp only[Gqk,decide_eq_true_eq] at h4
  have h5:=h4.2.1
  have h6:rwW (joinR x)=zeroWorld:=by
   have h7:joinR x=none:=by
    cases hr:joinR x with
    |none=>rfl
    |some w=>rw[hr] at h; cases h
   rw[h7]; rfl
  rw[h6] at h5
  rw[←h5] at hl
  exact absurd hl (by decide)
theorem join_at {x:TMatch} (h:matchOk x=true):∃ p u v,x.Peers[0]? = some p∧x.Peers.getD 0 zP0=p∧x.Wires[0]? = some u∧u[x.Peers.length-1]? = some v∧joinL x={ v with Flights := [],Seed:=7*((x.Watchers.length:Int)+1) }∧1≤x.Peers.length∧x.Peers.length≤4∧x.Watchers.length≤3∧x.Lines.length=x.Watchers.length:=by
 obtain⟨_,hs,_,⟨hP,_⟩,⟨⟨l1,l2,l3⟩,hr⟩,⟨hw,_⟩⟩:=(dS h:MatchP x)
 have h0:0<x.Peers.length:=by omega
 have h1:0<x.Wires.length:=by omega
 have hb:x.Peers.length-1<x.Wires[0].length:=by
  have:=((hr 0 (by omega)).1 _ _ _ (Gqg h1) (Gqg (by omega)) (Gqg (by omega))).1
  omega
 refine⟨x.Peers[0],x.Wires[0],x.Wires[0][x.Peers.length-1],Gqg h0,?_,Gqg h1,Gqg hb,?_,by omega,by omega,hw.1,hw.2⟩
 ·rw[Gqf,Gqg h0]; rfl
 ·have e1:x.Wires.getD 0 []=x.Wires[0]:=by rw[Gqf,Gqg h1]; rfl
  have e2:x.Wires[0].getD (x.Peers.length-1) ⟨0,0,0,0,0,0,0,[],0,0⟩=x.Wires[0][x.Peers.length-1]:=by rw[Gqf,Gqg hb]; rfl
  rw[joinL,e1,e2]
theorem snap_len (p:TPeer):(snapshotOf p).size≤1099511627776:=by
 rw[snapshotOf]
 split
 ·have:=bytes_len p.Base; omega
 ·decide
theorem i64_z:I64 0:=⟨by decide,by decide⟩
theorem lev_inJ {x:TMatch} (h:Enc.wt x≤1048576):x.Level.Rows.length≤1048576:=by
 have hw:Enc.wt x=Enc.wt x.Level.Rows+Enc.wt x.Scripts+Enc.wt x.Peers+Enc.wt x.Wires+Enc.wt x.Paces+Enc.wt x.Acks+Enc.wt x.Watchers+Enc.wt x.Lines+Enc.wt x.Alarms:=rfl
 have h2:Enc.wt x.Level.Rows=x.Level.Rows.length+wts x.Level.Rows:=rfl
 omega
theorem joinN_gd {x:TMatch} (g:Enc.gd x) (hw:Enc.wt x≤1048576) (h:matchOk x=true):Enc.gd (joinN x):=by
 obtain⟨p,u,v,hp,he,hu,hv,hL,n1,n4,w3,k3⟩:=join_at h
 have wr:WorIn (rwW (joinR x)):=read_in g.1 (lev_inJ hw) (snap_len _)
 have gu:Enc.gd u:=g.2.2.2.2.2.1.2 u (Gqu hu)
 have gv:Enc.gd v:=gu.2 v (Gqu hv)
 refine⟨g.1,g.2.1,g.2.2.1,g.2.2.2.1,g.2.2.2.2.1,g.2.2.2.2.2.1,g.2.2.2.2.2.2.1,g.2.2.2.2.2.2.2.1,g.2.2.2.2.2.2.2.2.1,gd_snoc g.2.2.2.2.2.2.2.2.2.1 ⟨wr.gd,i64_z⟩ (by omega),gd_snoc g.2.2.2.2.2.2.2.2.2.2.1 ?_ (by omega),g.2.2.2.2.2.2.2.2.2.2.2⟩
 rw[hL]
 exact⟨⟨by show -9223372036854775808≤7*((x.Watchers.length:Int)+1); omega,by show 7*((x.Watchers.length:Int)+1)≤9223372036854775807; omega⟩,gv.2.1,gv.2.2.1,gv.2.2.2.1,gv.2.2.2.2.1,gv.2.2.2.2.2.1,gv.2.2.2.2.2.2.1,⟨Gxh _,fun x hx=>by cases hx⟩,gv.2.2.2.2.2.2.2.2⟩
theorem els_at' {α:Type} [Enc α] {xs:List α} {k:Nat} {u:α} (h:xs[k]? = some u):(els xs)[k]? = some (Enc.e u):=by rw[els,Gqi,h]; rfl
theorem I_JoinWatcher (x:TMatch) (h:MatchIn x):Con Tryz.prog 52 [] [ag x] (mR (joinV x) []) (.tu [.ag (mC (joinV x) 0),.c (bv (joinB x))]):=by
 have cM:=I_copyMatch x h
 have cO:=I_MatchOk x h.gd
 have eP:=Yf x.Peers
 have eW:=Yf x.Wires
 have eV:=Yf x.Watchers
 have eK:=Yf x.Lines
 refine Con.of Tryz.func52 J Tryz.ntmps52 J (fun E => ?_)
 refine Wz [85,36,53] ?_;refine AL.weak (st':=(⟨65,[(1,.o (.c (.ptr 0 0))),(2,.o (.c (.ptr 1 0))),(3,B false),(8,.o (.ag (mD x)))],[.box (mD x),.box zM]⟩:St)) (Xz [0,1] (by decide) J ((by kernel_rfl)) (.c J (.c J (.c J (.c J (.nil)))))) ?_
 cases hm:matchOk x with
 |false =>
  rw[hm] at cO
  have hB:joinB x=false:=by rw[joinB,hm]; rfl
  rw[show joinV x=x by rw[joinV,hB]; rfl,hB]
  refine zx (Qj J J (cO) J) J ?_;refine Wz [3,17,45] ?_;refine M1 (Zm J J (cM) J J J) J J ?_;refine Wz [77,72,31] ?_
  exact Xj J J J J J (Xw [2,3,4,5,6,7,8,9,10] (by decide) J J J)
 | true =>
  rw[hm] at cO
  refine zx (Qj J J (cO) J) J ?_;refine Wz [3,54,20] ?_
  obtain⟨p,u,v,hp,he,hu,hv,hL,n1,n4,w3,k3⟩:=join_at hm
  have gp:Enc.gd p:=h.gd.2.2.2.2.1.2 p (Gqu hp)
  have wv:Enc.wt v≤1048576:=(Yv ((Yv h.le.W).2 u (Gqu hu))).2 v (Gqu hv)
  have cS:=I_SnapshotOf p gp
  have cN:=I_NewSpectator x.Level (snapshotOf p) h.gd.1 (lev_inJ h.wt) (snap_len p)
  have cw:=I_copyWire v wv
  have gN:=joinN_gd h.gd h.wt hm
  have cO2:=I_MatchOk (joinN x) gN
  have hjr:joinR x=readWorld x.Level (snapshotOf p):=by rw[joinR,he]
  rw[←hjr] at cN
  have hno:=join_no (x:=x)
  have hN:joinN x={ x with Watchers:=x.Watchers ++ [⟨rwW (joinR x),0⟩],Lines:=x.Lines ++ [joinL x] }:=rfl
  obtain⟨s,hs⟩:∃ s:TSpectator,s=⟨rwW (joinR x),0⟩:=⟨_,rfl⟩
  obtain⟨l,hl⟩:∃ l,l=joinL x:=⟨_,rfl⟩
  rw[←hs] at cN hN
  rw[←hl] at hN hL
  have hls:l.Seed=7*((x.Watchers.length:Int)+1):=by rw[hL]
  have hle:Enc.e l = [.v (.int .i64 l.Seed),.v (.int .i64 v.Delay),.v (.int .i64 v.Jitter),.v (.int .i64 v.Loss),.v (.int .i64 v.Copies),.v (.int .i64 v.Damage),.v (.int .i64 v.Now),.sl 2 [],.v (.int .i64 v.Sent),.v (.int .i64 v.Lost)]:=by rw[hL]; rfl
  have hlw:l.Seed=7*((els (x.Watchers ++ [s])).length:Int):=by rw[hls,Yf,Gqr]; simp
  rw[hlw] at hle
  have hsnL:els (x.Lines ++ [l])=els x.Lines ++ [[.v (.int .i64 (7*((els (x.Watchers ++ [s])).length:Int))),.v (.int .i64 v.Delay),.v (.int .i64 v.Jitter),.v (.int .i64 v.Loss),.v (.int .i64 v.Copies),.v (.int .i64 v.Damage),.v (.int .i64 v.Now),.sl 2 [],.v (.int .i64 v.Sent),.v (.int .i64 v.Lost)]]:=by rw[Yb,←hle]; rfl
  have hsnW:els (x.Watchers ++ [s])=els x.Watchers ++ [Enc.e s]:=Yb _ _
  have hBx:joinB x=matchOk (joinN x):=by rw[joinB,hm,Bool.true_and]
  have hVx:joinV x=if matchOk (joinN x)=true then joinN x else x:=by rw[joinV,hBx]
  rw[hBx,hVx]
  rw[hN] at cO2 hno ⊢
  generalize hok:rwB (joinR x)=ok at cN hno
  have hatP:(els x.Peers)[(0:Int).toNat]? = some (Enc.e p):=els_at' hp
  have hatW:(els x.Wires)[(0:Int).toNat]? = some (Enc.e u):=els_at' hu
  have eu:=Yf u
  have hatv:(els u)[(((els x.Peers).length:Int)-1).toNat]? = some (Enc.e v):=by rw[eP,show ((x.Peers.length:Int)-1).toNat=x.Peers.length-1 by omega]; exact els_at' hv
  have lu:x.Peers.length-1<u.length:=(Gqm.1 hv).1
  clear hs hl hL hle hBx hVx hN hjr he hok gN cO gp hp hu hv
  refine AWP.pre (st':=(⟨65,[(1,.o (.c (.ptr 0 0))),(2,.o (.c (.ptr 1 0))),(3,B false)],[.box (mD x),.box zM]⟩:St)) ?_ (Xz [0,1] (by decide) J ((by kernel_rfl)) (.c J (.c J (.c J (.nil)))))
  refine Xe u8_48 [[],[14],[],[16],[16,17],[16,17,18],[16,17,18,19],[14,15,16,17,18,19,20],[14,15,16,17,18,19,20,21],[13,14,15,16,17,18,19,20,21],[13,14,15,16,17,18,19,20,21],[],[4,13,14,15,16,17,18,19,20,21,22],[4,13,14,15,16,17,18,19,20,21,22,23]] [[4,16,17,18,19,20],[4,16,17,18,19,20],[4,14,15],[4,14,15],[4,14,15],[4,14,15],[4,14,15],[4],[4],[4,23],[4,22],[13,14,15,16,17,18,19,20,21,22,23],[23],[],[10]] J ?_;refine Wz [191,197,13,230,186] ?_;refine DR.s (Qj J J (cS) J) J J ?_;refine DR.s (Zm J J (cN) J J J) J J ?_;refine DR.s (Q6 J J J) J J ?_;refine Wz [264,264,216,12] ?_;refine AL.weak (st':=(⟨65,[(1,.o (.c (.ptr 0 0))),(2,.o (.c (.ptr 1 0))),(3,B false),(4,.o (.c (.ptr 5 0))),(22,.o (.ag [.ref 2,jn s.World.Tick,jn s.World.Seed,.ref 3,.ref 4,jn s.Gaps])),(23,B ok)],[.box (mD x),.box zM,.row 1 (els s.World.Level.Rows),.row 1 (els s.World.Scores),.row 9 (els s.World.Bodies),.box [nv,jn 0,jn 0,nv,nv,jn 0]]⟩:St)) (Xz [0,1,2,3,4,5] (by decide) J ((by kernel_rfl)) (.c J (.c J (.c J (.c J (.c J (.c J (.nil)))))))) ?_;refine Qy J J J J J J J J J ?_;refine AL.weak (st':=(⟨65,[(1,.o (.c (.ptr 0 0))),(2,.o (.c (.ptr 1 0))),(3,B false),(4,.o (.c (.ptr 5 0))),(23,B ok)],[.box (mD x),.box zM,.row 1 (els s.World.Level.Rows),.row 1 (els s.World.Scores),.row 9 (els s.World.Bodies),.box [.ref 2,jn s.World.Tick,jn s.World.Seed,.ref 3,.ref 4,jn s.Gaps]]⟩:St)) (Xz [0,1,2,3,4,5] (by decide) J ((by kernel_rfl)) (.c J (.c J (.c J (.c J (.c J (.nil))))))) ?_
  cases ok with
  |false =>
   rw[hno rfl]
   refine Wz [46,3,17,45] ?_;refine M1 (Zm J J (cM) J J J) J J ?_;refine Wz [77,72,31] ?_
   exact Xj J J J J J (Xw [6,7,8,9,10,11,12,13,14] (by decide) J J J)
  | true =>
   refine Wz [46,3,54,45] ?_;refine M1 (Zm J J (cM) J J J) J J ?_;refine AL.weak (st':=(⟨65,[(1,.o (.c (.ptr 0 0))),(2,.o (.c (.ptr 1 0))),(3,B false),(4,.o (.c (.ptr 5 0))),(29,.o (.ag (mC x 6)))],[.box (mD x),.box zM,.row 1 (els s.World.Level.Rows),.row 1 (els s.World.Scores),.row 9 (els s.World.Bodies),.box [.ref 2,jn s.World.Tick,jn s.World.Seed,.ref 3,.ref 4,jn s.Gaps],.row 1 (els x.Level.Rows),.row 1 (els x.Scripts),.row 23 (els x.Peers),.row 1 (els x.Wires),.row 1 (els x.Paces),.row 1 (els x.Acks),.row 6 (els x.Watchers),.row 10 (els x.Lines),.row 2 (els x.Alarms)]⟩:St)) (Xz [0,1,2,3,4,5,6,7,8,9,10,11,12,13,14] (by decide) J ((by kernel_rfl)) (.c J (.c J (.c J (.c J (.c J (.nil))))))) ?_;refine Wz [40,77] ?_;refine AL.weak (st':=(⟨65,[(1,.o (.c (.ptr 0 0))),(2,.o (.c (.ptr 1 0))),(3,B false),(4,.o (.c (.ptr 5 0))),(6,.o (.c (.ptr 15 0)))],[.box (mD x),.box zM,.row 1 (els s.World.Level.Rows),.row 1 (els s.World.Scores),.row 9 (els s.World.Bodies),.box [.ref 2,jn s.World.Tick,jn s.World.Seed,.ref 3,.ref 4,jn s.Gaps],.row 1 (els x.Level.Rows),.row 1 (els x.Scripts),.row 23 (els x.Peers),.row 1 (els x.Wires),.row 1 (els x.Paces),.row 1 (els x.Acks),.row 6 (els x.Watchers),.row 10 (els x.Lines),.row 2 (els x.Alarms),.box (mC x 6)]⟩:St)) (Xz [0,1,2,3,4,5,6,7,8,9,10,11,12,13,14,15] (by decide) J ((by kernel_rfl)) (.c J (.c J (.c J (.c J (.c J (.nil))))))) ?_;refine Wz [4,41,53,136,125,86,20] ?_
   refine AWP.pre (st':=(⟨65,[(1,.o (.c (.ptr 0 0))),(2,.o (.c (.ptr 1 0))),(3,B false),(6,.o (.c (.ptr 11 0)))],[.box (mD x),.box zM,.row 1 (els x.Level.Rows),.row 1 (els x.Scripts),.row 23 (els x.Peers),.row 1 (els x.Wires),.row 1 (els x.Paces),.row 1 (els x.Acks),.row 6 (els (x.Watchers ++ [s])),.row 10 (els x.Lines),.row 2 (els x.Alarms),.box (mC x 2)]⟩:St)) ?_ (by rw[hsnW]; exact Xy [0,1,6,7,8,9,10,11,12,13,14,15] (by kernel_rfl))
   refine Xe u8_49 [[],[36],[36,37],[36,37,38],[],[40],[40,41],[40,41,42],[36,37,38,39,40,41,42,43],[36,37,38,39,40,41,42,43,44],[36,37,38,39,40,41,42,43,44,45],[],[7,36,37,38,39,40,41,42,43,44,45,46]] [[7,40,41,42,43],[7,40,41,42,43],[7,40,41,42,43],[7,40,41,42,43],[7,36,37,38,39],[7,36,37,38,39],[7,36,37,38,39],[7,36,37,38,39],[7],[7],[7],[36,37,38,39,40,41,42,43,44,45,46],[]] J ?_;refine Wz [13,230,21,13,262] ?_;refine DR.s (Xa J J J J (by omega)) J J ?_;refine Wz [230,186] ?_;refine DR.s (Zm J J (cw) J J J) J J ?_;refine Wz [216,12] ?_;refine AL.weak (st':=(⟨65,[(1,.o (.c (.ptr 0 0))),(2,.o (.c (.ptr 1 0))),(3,B false),(6,.o (.c (.ptr 11 0))),(7,.o (.c (.ptr 13 0))),(46,.o (.ag (wX v (.ref 12))))],[.box (mD x),.box zM,.row 1 (els x.Level.Rows),.row 1 (els x.Scripts),.row 23 (els x.Peers),.row 1 (els x.Wires),.row 1 (els x.Paces),.row 1 (els x.Acks),.row 6 (els (x.Watchers ++ [s])),.row 10 (els x.Lines),.row 2 (els x.Alarms),.box (mC x 2),.row 2 (els v.Flights),.box [jn 0,jn 0,jn 0,jn 0,jn 0,jn 0,jn 0,nv,jn 0,jn 0]]⟩:St)) (Xz [0,1,2,3,4,5,6,7,8,9,10,11,12,13] (by decide) J ((by kernel_rfl)) (.c J (.c J (.c J (.c J (.c J (.c J (.nil)))))))) ?_;refine Qy J J J J J J J J J ?_;refine AL.weak (st':=(⟨65,[(1,.o (.c (.ptr 0 0))),(2,.o (.c (.ptr 1 0))),(3,B false),(6,.o (.c (.ptr 11 0))),(7,.o (.c (.ptr 13 0)))],[.box (mD x),.box zM,.row 1 (els x.Level.Rows),.row 1 (els x.Scripts),.row 23 (els x.Peers),.row 1 (els x.Wires),.row 1 (els x.Paces),.row 1 (els x.Acks),.row 6 (els (x.Watchers ++ [s])),.row 10 (els x.Lines),.row 2 (els x.Alarms),.box (mC x 2),.row 2 (els v.Flights),.box (wX v (.ref 12))]⟩:St)) (Xz [0,1,2,3,4,5,6,7,8,9,10,11,12,13] (by decide) J ((by kernel_rfl)) (.c J (.c J (.c J (.c J (.c J (.nil))))))) ?_;refine Wz [4,1,42,62,171,42,53,136] ?_;refine AL.weak (st':=(⟨65,[(1,.o (.c (.ptr 0 0))),(2,.o (.c (.ptr 1 0))),(3,B false),(6,.o (.c (.ptr 11 0))),(54,.o (.c (.ref 9))),(56,.o (.c (.sb 12 1 10)))],[.box (mD x),.box zM,.row 1 (els x.Level.Rows),.row 1 (els x.Scripts),.row 23 (els x.Peers),.row 1 (els x.Wires),.row 1 (els x.Paces),.row 1 (els x.Acks),.row 6 (els (x.Watchers ++ [s])),.row 10 (els x.Lines),.row 2 (els x.Alarms),.box (mC x 2),.box [jn (7*((els (x.Watchers ++ [s])).length:Int)),jn v.Delay,jn v.Jitter,jn v.Loss,jn v.Copies,jn v.Damage,jn v.Now,nv,jn v.Sent,jn v.Lost]]⟩:St)) (Xz [0,1,2,3,4,5,6,7,8,9,10,11,14] (by decide) J ((by kernel_rfl)) (.c J (.c J (.c J (.c J (.c J (.c J (.nil)))))))) ?_;refine AL.weak (Wk.nilbox (p:=12) (i:=7) 2 J J) ?_;refine Xr J J J J J J J J J J J J J J (by omega) (by omega) ?_
   refine AL.weak (st':=(⟨65,[(1,.o (.c (.ptr 0 0))),(2,.o (.c (.ptr 1 0))),(3,B false),(6,.o (.c (.ptr 11 0))),(57,.o (.c (.ref 9)))],[.box (mD x),.box zM,.row 1 (els x.Level.Rows),.row 1 (els x.Scripts),.row 23 (els x.Peers),.row 1 (els x.Wires),.row 1 (els x.Paces),.row 1 (els x.Acks),.row 6 (els (x.Watchers ++ [s])),.row 10 (els (x.Lines ++ [l])),.row 2 (els x.Alarms),.box (mX x (.ref 2) (.ref 3) (.ref 4) (.ref 5) (.ref 6) (.ref 7) (.ref 8) .un (.ref 10))]⟩:St)) (by rw[hsnL]; exact Xy [0,1,2,3,4,5,6,7,8,9,10,11] (by kernel_rfl)) ?_
   refine Wz [86,87,53] ?_;refine AL.weak (st':=(⟨65,[(1,.o (.c (.ptr 0 0))),(2,.o (.c (.ptr 1 0))),(3,B false),(6,.o (.c (.ptr 11 0))),(59,.o (.ag (mC x 2)))],[.box (mD x),.box zM,.row 1 (els x.Level.Rows),.row 1 (els x.Scripts),.row 23 (els x.Peers),.row 1 (els x.Wires),.row 1 (els x.Paces),.row 1 (els x.Acks),.row 6 (els (x.Watchers ++ [s])),.row 10 (els (x.Lines ++ [l])),.row 2 (els x.Alarms),.box (mC x 2)]⟩:St)) (Xz [0,1,2,3,4,5,6,7,8,9,10,11] (by decide) J ((by kernel_rfl)) (.c J (.c J (.c J (.c J (.c J (.nil))))))) ?_
   cases hm2:matchOk { x with Watchers:=x.Watchers ++ [s],Lines:=x.Lines ++ [l] } with
   |false =>
    rw[hm2] at cO2
    refine zx (Qj J J (cO2) J) J ?_;refine Wz [3,17,45] ?_;refine M1 (Zm J J (cM) J J J) J J ?_;refine Wz [77,72,31] ?_
    exact Xj J J J J J (Xw [12,13,14,15,16,17,18,19,20] (by decide) J J J)
   |true =>
    rw[hm2] at cO2
    refine zx (Qj J J (cO2) J) J ?_;refine Wz [3,54,45,77,52] ?_
    exact Xj J J J J J (Xw [2,3,4,5,6,7,8,9,10] (by decide) J J J)
theorem S_JoinWatcher (x:TMatch) (h:MatchIn x):Con Tryz.prog 51 [] [ag x] (mR (joinV x) []) (.tu [.ag (mC (joinV x) 0),.c (bv (joinB x))]):=by
 have cM:=S_l08Copy x h
 have cO:=S_MatchOk x h.gd
 have eP:=Yf x.Peers
 have eW:=Yf x.Wires
 have eV:=Yf x.Watchers
 have eK:=Yf x.Lines
 refine Con.of Tryz.func51 J Tryz.ntmps51 J (fun E => ?_)
 refine Wz [85,5,45] ?_;refine M1 (Zm J J (cM) J J J) J J ?_;refine Wz [40,30,87,53] ?_;refine AL.weak (st':=(⟨60,[(1,.o (.c (.ptr 0 0))),(2,.o (.c (.ptr 1 0))),(3,B false),(4,.o (.c (.ptr 11 0))),(10,.o (.ag (mD x)))],[.box (mD x),.box zM,.row 1 (els x.Level.Rows),.row 1 (els x.Scripts),.row 23 (els x.Peers),.row 1 (els x.Wires),.row 1 (els x.Paces),.row 1 (els x.Acks),.row 6 (els x.Watchers),.row 10 (els x.Lines),.row 2 (els x.Alarms),.box (mC x 2)]⟩:St)) (Xz [0,1,2,3,4,5,6,7,8,9,10,11] (by decide) J ((by kernel_rfl)) (.c J (.c J (.c J (.c J (.c J (.nil))))))) ?_
 cases hm:matchOk x with
 |false =>
  rw[hm] at cO
  have hB:joinB x=false:=by rw[joinB,hm]; rfl
  rw[show joinV x=x by rw[joinV,hB]; rfl,hB]
  refine zx (Qj J J (cO) J) J ?_;refine Wz [3,17,45,77,72,31] ?_
  exact Xj J J J J J (Xw [2,3,4,5,6,7,8,9,10] (by decide) J J J)
 | true =>
  rw[hm] at cO
  refine zx (Qj J J (cO) J) J ?_;refine Wz [3,54,20] ?_
  obtain⟨p,u,v,hp,he,hu,hv,hL,n1,n4,w3,k3⟩:=join_at hm
  have gp:Enc.gd p:=h.gd.2.2.2.2.1.2 p (Gqu hp)
  have wv:Enc.wt v≤1048576:=(Yv ((Yv h.le.W).2 u (Gqu hu))).2 v (Gqu hv)
  have cS:=S_SnapshotOf p gp
  have cN:=S_NewSpectator x.Level (snapshotOf p) h.gd.1 (lev_inJ h.wt) (snap_len p)
  have cw:=S_l05Copy v wv
  have gN:=joinN_gd h.gd h.wt hm
  have cO2:=S_MatchOk (joinN x) gN
  have hjr:joinR x=readWorld x.Level (snapshotOf p):=by rw[joinR,he]
  rw[←hjr] at cN
  have hno:=join_no (x:=x)
  have hN:joinN x={ x with Watchers:=x.Watchers ++ [⟨rwW (joinR x),0⟩],Lines:=x.Lines ++ [joinL x] }:=rfl
  obtain⟨s,hs⟩:∃ s:TSpectator,s=⟨rwW (joinR x),0⟩:=⟨_,rfl⟩
  obtain⟨l,hl⟩:∃ l,l=joinL x:=⟨_,rfl⟩
  rw[←hs] at cN hN
  rw[←hl] at hN hL
  have hls:l.Seed=7*((x.Watchers.length:Int)+1):=by rw[hL]
  have hle:Enc.e l = [.v (.int .i64 l.Seed),.v (.int .i64 v.Delay),.v (.int .i64 v.Jitter),.v (.int .i64 v.Loss),.v (.int .i64 v.Copies),.v (.int .i64 v.Damage),.v (.int .i64 v.Now),.sl 2 [],.v (.int .i64 v.Sent),.v (.int .i64 v.Lost)]:=by rw[hL]; rfl
  have hlw:l.Seed=7*((els (x.Watchers ++ [s])).length:Int):=by rw[hls,Yf,Gqr]; simp
  rw[hlw] at hle
  have hsnL:els (x.Lines ++ [l])=els x.Lines ++ [[.v (.int .i64 (7*((els (x.Watchers ++ [s])).length:Int))),.v (.int .i64 v.Delay),.v (.int .i64 v.Jitter),.v (.int .i64 v.Loss),.v (.int .i64 v.Copies),.v (.int .i64 v.Damage),.v (.int .i64 v.Now),.sl 2 [],.v (.int .i64 v.Sent),.v (.int .i64 v.Lost)]]:=by rw[Yb,←hle]; rfl
  have hsnW:els (x.Watchers ++ [s])=els x.Watchers ++ [Enc.e s]:=Yb _ _
  have hBx:joinB x=matchOk (joinN x):=by rw[joinB,hm,Bool.true_and]
  have hVx:joinV x=if matchOk (joinN x)=true then joinN x else x:=by rw[joinV,hBx]
  rw[hBx,hVx]
  rw[hN] at cO2 hno ⊢
  generalize hok:rwB (joinR x)=ok at cN hno
  have hatP:(els x.Peers)[(0:Int).toNat]? = some (Enc.e p):=els_at' hp
  have hatW:(els x.Wires)[(0:Int).toNat]? = some (Enc.e u):=els_at' hu
  have eu:=Yf u
  have hatv:(els u)[(((els x.Peers).length:Int)-1).toNat]? = some (Enc.e v):=by rw[eP,show ((x.Peers.length:Int)-1).toNat=x.Peers.length-1 by omega]; exact els_at' hv
  have lu:x.Peers.length-1<u.length:=(Gqm.1 hv).1
  clear hs hl hL hle hBx hVx hN hjr he hok gN cO gp hp hu hv
  refine AWP.pre (st':=(⟨60,[(1,.o (.c (.ptr 0 0))),(2,.o (.c (.ptr 1 0))),(3,B false),(4,.o (.c (.ptr 11 0)))],[.box (mD x),.box zM,.row 1 (els x.Level.Rows),.row 1 (els x.Scripts),.row 23 (els x.Peers),.row 1 (els x.Wires),.row 1 (els x.Paces),.row 1 (els x.Acks),.row 6 (els x.Watchers),.row 10 (els x.Lines),.row 2 (els x.Alarms),.box (mC x 2)]⟩:St)) ?_ (Xz [0,1,2,3,4,5,6,7,8,9,10,11] (by decide) J ((by kernel_rfl)) (.c J (.c J (.c J (.c J (.nil))))))
  refine Xe u8_48 [[],[15],[],[17],[17,18],[17,18,19],[17,18,19,20],[15,16,17,18,19,20,21],[15,16,17,18,19,20,21,22],[14,15,16,17,18,19,20,21,22],[14,15,16,17,18,19,20,21,22],[],[5,14,15,16,17,18,19,20,21,22,23],[5,14,15,16,17,18,19,20,21,22,23,24]] [[5,17,18,19,20,21],[5,17,18,19,20,21],[5,15,16],[5,15,16],[5,15,16],[5,15,16],[5,15,16],[5],[5],[5,24],[5,23],[14,15,16,17,18,19,20,21,22,23,24],[24],[],[10]] J ?_;refine Wz [191,197,13,230,186] ?_;refine DR.s (Qj J J (cS) J) J J ?_;refine DR.s (Zm J J (cN) J J J) J J ?_;refine DR.s (Q6 J J J) J J ?_;refine Wz [264,264,216,12] ?_;refine AL.weak (st':=(⟨60,[(1,.o (.c (.ptr 0 0))),(2,.o (.c (.ptr 1 0))),(3,B false),(4,.o (.c (.ptr 11 0))),(5,.o (.c (.ptr 15 0))),(23,.o (.ag [.ref 12,jn s.World.Tick,jn s.World.Seed,.ref 13,.ref 14,jn s.Gaps])),(24,B ok)],[.box (mD x),.box zM,.row 1 (els x.Level.Rows),.row 1 (els x.Scripts),.row 23 (els x.Peers),.row 1 (els x.Wires),.row 1 (els x.Paces),.row 1 (els x.Acks),.row 6 (els x.Watchers),.row 10 (els x.Lines),.row 2 (els x.Alarms),.box (mC x 2),.row 1 (els s.World.Level.Rows),.row 1 (els s.World.Scores),.row 9 (els s.World.Bodies),.box [nv,jn 0,jn 0,nv,nv,jn 0]]⟩:St)) (Xz [0,1,2,3,4,5,6,7,8,9,10,11,12,13,14,15] (by decide) J ((by kernel_rfl)) (.c J (.c J (.c J (.c J (.c J (.c J (.c J (.nil))))))))) ?_;refine Qy J J J J J J J J J ?_;refine AL.weak (st':=(⟨60,[(1,.o (.c (.ptr 0 0))),(2,.o (.c (.ptr 1 0))),(3,B false),(4,.o (.c (.ptr 11 0))),(5,.o (.c (.ptr 15 0))),(24,B ok)],[.box (mD x),.box zM,.row 1 (els x.Level.Rows),.row 1 (els x.Scripts),.row 23 (els x.Peers),.row 1 (els x.Wires),.row 1 (els x.Paces),.row 1 (els x.Acks),.row 6 (els x.Watchers),.row 10 (els x.Lines),.row 2 (els x.Alarms),.box (mC x 2),.row 1 (els s.World.Level.Rows),.row 1 (els s.World.Scores),.row 9 (els s.World.Bodies),.box [.ref 12,jn s.World.Tick,jn s.World.Seed,.ref 13,.ref 14,jn s.Gaps]]⟩:St)) (Xz [0,1,2,3,4,5,6,7,8,9,10,11,12,13,14,15] (by decide) J ((by kernel_rfl)) (.c J (.c J (.c J (.c J (.c J (.c J (.nil)))))))) ?_;refine Wz [5,41,53,136,125,86,20] ?_
  refine AWP.pre (st':=(⟨60,[(1,.o (.c (.ptr 0 0))),(2,.o (.c (.ptr 1 0))),(3,B false),(4,.o (.c (.ptr 11 0)))],[.box (mD x),.box zM,.row 1 (els x.Level.Rows),.row 1 (els x.Scripts),.row 23 (els x.Peers),.row 1 (els x.Wires),.row 1 (els x.Paces),.row 1 (els x.Acks),.row 6 (els (x.Watchers ++ [s])),.row 10 (els x.Lines),.row 2 (els x.Alarms),.box (mC x 2)]⟩:St)) ?_ (by rw[hsnW]; exact Xy [0,1,2,3,4,5,6,7,8,9,10,11] (by kernel_rfl))
  refine Xe u8_49 [[],[31],[31,32],[31,32,33],[],[35],[35,36],[35,36,37],[31,32,33,34,35,36,37,38],[31,32,33,34,35,36,37,38,39],[31,32,33,34,35,36,37,38,39,40],[],[7,31,32,33,34,35,36,37,38,39,40,41]] [[7,35,36,37,38],[7,35,36,37,38],[7,35,36,37,38],[7,35,36,37,38],[7,31,32,33,34],[7,31,32,33,34],[7,31,32,33,34],[7,31,32,33,34],[7],[7],[7],[31,32,33,34,35,36,37,38,39,40,41],[]] J ?_;refine Wz [13,230,21,13,262] ?_;refine DR.s (Xa J J J J (by omega)) J J ?_;refine Wz [230,186] ?_;refine DR.s (Zm J J (cw) J J J) J J ?_;refine Wz [216,12] ?_;refine AL.weak (st':=(⟨60,[(1,.o (.c (.ptr 0 0))),(2,.o (.c (.ptr 1 0))),(3,B false),(4,.o (.c (.ptr 11 0))),(7,.o (.c (.ptr 13 0))),(41,.o (.ag (wX v (.ref 12))))],[.box (mD x),.box zM,.row 1 (els x.Level.Rows),.row 1 (els x.Scripts),.row 23 (els x.Peers),.row 1 (els x.Wires),.row 1 (els x.Paces),.row 1 (els x.Acks),.row 6 (els (x.Watchers ++ [s])),.row 10 (els x.Lines),.row 2 (els x.Alarms),.box (mC x 2),.row 2 (els v.Flights),.box [jn 0,jn 0,jn 0,jn 0,jn 0,jn 0,jn 0,nv,jn 0,jn 0]]⟩:St)) (Xz [0,1,2,3,4,5,6,7,8,9,10,11,12,13] (by decide) J ((by kernel_rfl)) (.c J (.c J (.c J (.c J (.c J (.c J (.nil)))))))) ?_;refine Qy J J J J J J J J J ?_;refine AL.weak (st':=(⟨60,[(1,.o (.c (.ptr 0 0))),(2,.o (.c (.ptr 1 0))),(3,B false),(4,.o (.c (.ptr 11 0))),(7,.o (.c (.ptr 13 0)))],[.box (mD x),.box zM,.row 1 (els x.Level.Rows),.row 1 (els x.Scripts),.row 23 (els x.Peers),.row 1 (els x.Wires),.row 1 (els x.Paces),.row 1 (els x.Acks),.row 6 (els (x.Watchers ++ [s])),.row 10 (els x.Lines),.row 2 (els x.Alarms),.box (mC x 2),.row 2 (els v.Flights),.box (wX v (.ref 12))]⟩:St)) (Xz [0,1,2,3,4,5,6,7,8,9,10,11,12,13] (by decide) J ((by kernel_rfl)) (.c J (.c J (.c J (.c J (.c J (.nil))))))) ?_;refine Wz [4,1,42,62,171,42,53,136] ?_;refine AL.weak (st':=(⟨60,[(1,.o (.c (.ptr 0 0))),(2,.o (.c (.ptr 1 0))),(3,B false),(4,.o (.c (.ptr 11 0))),(49,.o (.c (.ref 9))),(51,.o (.c (.sb 12 1 10)))],[.box (mD x),.box zM,.row 1 (els x.Level.Rows),.row 1 (els x.Scripts),.row 23 (els x.Peers),.row 1 (els x.Wires),.row 1 (els x.Paces),.row 1 (els x.Acks),.row 6 (els (x.Watchers ++ [s])),.row 10 (els x.Lines),.row 2 (els x.Alarms),.box (mC x 2),.box [jn (7*((els (x.Watchers ++ [s])).length:Int)),jn v.Delay,jn v.Jitter,jn v.Loss,jn v.Copies,jn v.Damage,jn v.Now,nv,jn v.Sent,jn v.Lost]]⟩:St)) (Xz [0,1,2,3,4,5,6,7,8,9,10,11,14] (by decide) J ((by kernel_rfl)) (.c J (.c J (.c J (.c J (.c J (.c J (.nil)))))))) ?_;refine AL.weak (Wk.nilbox (p:=12) (i:=7) 2 J J) ?_;refine Xr J J J J J J J J J J J J J J (by omega) (by omega) ?_
  refine AL.weak (st':=(⟨60,[(1,.o (.c (.ptr 0 0))),(2,.o (.c (.ptr 1 0))),(3,B false),(4,.o (.c (.ptr 11 0))),(52,.o (.c (.ref 9)))],[.box (mD x),.box zM,.row 1 (els x.Level.Rows),.row 1 (els x.Scripts),.row 23 (els x.Peers),.row 1 (els x.Wires),.row 1 (els x.Paces),.row 1 (els x.Acks),.row 6 (els (x.Watchers ++ [s])),.row 10 (els (x.Lines ++ [l])),.row 2 (els x.Alarms),.box (mX x (.ref 2) (.ref 3) (.ref 4) (.ref 5) (.ref 6) (.ref 7) (.ref 8) .un (.ref 10))]⟩:St)) (by rw[hsnL]; exact Xy [0,1,2,3,4,5,6,7,8,9,10,11] (by kernel_rfl)) ?_
  refine Wz [86,87,53] ?_;refine AL.weak (st':=(⟨60,[(1,.o (.c (.ptr 0 0))),(2,.o (.c (.ptr 1 0))),(3,B false),(4,.o (.c (.ptr 11 0))),(54,.o (.ag (mC x 2)))],[.box (mD x),.box zM,.row 1 (els x.Level.Rows),.row 1 (els x.Scripts),.row 23 (els x.Peers),.row 1 (els x.Wires),.row 1 (els x.Paces),.row 1 (els x.Acks),.row 6 (els (x.Watchers ++ [s])),.row 10 (els (x.Lines ++ [l])),.row 2 (els x.Alarms),.box (mC x 2)]⟩:St)) (Xz [0,1,2,3,4,5,6,7,8,9,10,11] (by decide) J ((by kernel_rfl)) (.c J (.c J (.c J (.c J (.c J (.nil))))))) ?_
  cases hm2:matchOk { x with Watchers:=x.Watchers ++ [s],Lines:=x.Lines ++ [l] } with
  |false =>
   rw[hm2] at cO2
   refine zx (Qj J J (cO2) J) J ?_;refine Wz [3,17,45] ?_;refine M1 (Zm J J (cM) J J J) J J ?_;refine Wz [77,72,31] ?_
   exact Xj J J J J J (Xw [12,13,14,15,16,17,18,19,20] (by decide) J J J)
  |true =>
   rw[hm2] at cO2
   refine zx (Qj J J (cO2) J) J ?_;refine Wz [3,54,45,77,52] ?_
   exact Xj J J J J J (Xw [2,3,4,5,6,7,8,9,10] (by decide) J J J)
end
end Go.Proofs.YtoecjaohdnoenaaGreat
