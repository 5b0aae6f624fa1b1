/-
  Rules, data and contracts of functions: part 21 of the proof.
  Conditions: those that each theorem names.
-/
import Derived.Test.YtoecjaohdnoenaaGreatDDSmAllk19
set_option linter.unusedSimpArgs false
set_option linter.unusedVariables false
set_option maxRecDepth 8000
set_option maxHeartbeats 8000000
namespace Go.Proofs.YtoecjaohdnoenaaGreat
section
open Go.RowKit


@[reducible] def pX (x:TPeer) (a b c d e f g h i j:V1):List V1 := [jn x.Me,jn x.Delay,jn x.Ahead,jn x.Seed,a,b,jn x.Base.Tick,jn x.Base.Seed,c,d,e,jn x.Now.Tick,jn x.Now.Seed,f,g,h,i,j,jn x.Fault.Tick,jn x.Fault.Player,jn x.Fault.Add,jn x.Rolls,jn x.Again]
@[reducible] def pC (x:TPeer) (a b c d e f g h i j:Nat):List V1:=pX x (.ref a) (.ref b) (.ref c) (.ref d) (.ref e) (.ref f) (.ref g) (.ref h) (.ref i) (.ref j)
@[reducible] def wR (w:TWorld) (l:List Ob):List Ob := .row 1 (els w.Level.Rows) :: .row 1 (els w.Scores) :: .row 9 (els w.Bodies)::l
@[reducible] def pR (x:TPeer) (l:List Ob):List Ob := .row 1 (els x.Tracks)::wR x.Base (wR x.Now (.row 1 (els x.Used) :: .row 2 (els x.Saves) :: .row 1 (els x.Sums)::l))
@[reducible] def sr {α:Type} [Enc α] (xs:List α):V1 := .rd [] (sl xs)
@[reducible] def pD (x:TPeer):List V1:=pX x (sr x.Tracks) (sr x.Base.Level.Rows) (sr x.Base.Scores) (sr x.Base.Bodies) (sr x.Now.Level.Rows) (sr x.Now.Scores) (sr x.Now.Bodies) (sr x.Used) (sr x.Saves) (sr x.Sums)
@[reducible] def wD (w:TWorld):List V1 := [sr w.Level.Rows,jn w.Tick,jn w.Seed,sr w.Scores,sr w.Bodies]
@[reducible] def nv:V1 := .rd [] (.v (.slice none 0 0))
structure PeerIn (x:TPeer):Prop where
 gd:Enc.gd x
 tr:x.Tracks.length≤1048576∧∀ t∈x.Tracks,t.Inputs.length≤1048576
 bw:x.Base.Level.Rows.length≤1048576∧x.Base.Scores.length≤1048576∧x.Base.Bodies.length≤1048576
 nw:x.Now.Level.Rows.length≤1048576∧x.Now.Scores.length≤1048576∧x.Now.Bodies.length≤1048576
 us:x.Used.length≤1048576∧∀ r∈x.Used,r.length≤1048576
 sv:x.Saves.length≤1048576
 sm:x.Sums.length≤1048576
instance:PlainE TSave:=⟨fun x t h=>by
 have h2:t ∈ [T.v (.int .i64 x.Tick),T.v (.string x.Delta)]:=h
 simp only[List.mem_cons,List.not_mem_nil,or_false] at h2
 rcases h2 with rfl | rfl <;> exact⟨_,rfl⟩⟩
theorem I_copyTrack (t:TTrack) (hL:t.Inputs.length≤1048576):Con Tryz.prog 278 [] [ag t] [.row 1 (els t.Inputs)] (.o (.ag [.ref 0])):=by
 refine Con.of Tryz.func278 J Tryz.ntmps278 J (fun E => ?_)
 refine Wz [101,60,35] ?_;refine M1 (Za J J (I_copyInts t.Inputs hL) J J J) J J ?_;refine Wz [224,22,68] ?_
 exact Xh J J J J (Xt [2] (by decide) J J J)
theorem I_copyTracks (xs:List TTrack) (hL:xs.length≤1048576) (hr:∀ t∈xs,t.Inputs.length≤1048576):Con Tryz.prog 246 [] [al xs] [.row 1 (els xs)] (.o (.c (.ref 0))):=by
 have hlx:=X6 xs
 refine Con.of Tryz.func246 J Tryz.ntmps246 J (fun E => ?_)
 refine Wz [28,84,80] ?_
 refine AWP.pre ?_ (W_nil 3 1 J)
 refine Xe (fun m st=>∃ k:Nat,k+m=xs.length∧(True)∧st=(⟨_,[(3,.o (.c (.ref 0))),(6,L xs),(7,I (els xs).length),(8,I k)],[.row 1 (els (xs.take k))]⟩:St)) (xs.length) ⟨_,⟨0,by omega,trivial,J⟩,Xu [0] (by kernel_rfl)⟩ ?_
 rintro m_A _ ⟨k,hk_A,hp_A,rfl⟩
 have hl2:(els (xs.take k)).length=k:=by rw[X6]; simp; omega
 refine Wz [4,40,17] ?_
 refine Q8 J (fun h => ?_) (fun h => ?_)
 ·have h3:k<xs.length:=by have:=Gqc h; omega
  have hat:=X4 h3
  refine Wz [5,4,34,56,22,16,0,71] ?_;refine M1 (Za J J (I_copyTrack xs[k] (hr _ (Gqd h3))) J J J) J J ?_;refine Wz [191,121,138,118,94,36,0,1] ?_
  exact⟨xs.length-(k+1),by omega,(fun k:Nat=>(⟨_,[(3,.o (.c (.ref 0))),(6,L xs),(7,I (els xs).length),(8,I k)],[.row 1 (els (xs.take k))]⟩:St)) (k+1),⟨k+1,by omega,trivial,J⟩,Xv [0] (by decide) J (Zx (X8 h3)) (.c J (.c J (.c J (.c J (.nil)))))⟩
 ·have h3:¬((k:Int)<(els xs).length):=Gqe h
  have hk:xs.take k=xs:=Gqh (by omega)
  refine Wz [24] ?_
  exact Xi J J (Xt [0] (by decide) J (Zx (by rw[hk])) J)
@[reducible] def zP:List V1 := [jn 0,jn 0,jn 0,jn 0,nv,nv,jn 0,jn 0,nv,nv,nv,jn 0,jn 0,nv,nv,nv,nv,nv,jn 0,jn 0,jn 0,jn 0,jn 0]
theorem I_copyPeer (x:TPeer) (h:PeerIn x):Con Tryz.prog 211 [] [ag x] (pR x []) (.o (.ag (pC x 0 1 2 3 4 5 6 7 8 9))):=by
 obtain⟨_,_,_,_,gT,gB,gN,gU,gS,gM,gF,_,_⟩:=h.gd
 have hls:=X6 x.Saves
 have hsv:=h.sv
 have c1:=I_copyTracks x.Tracks h.tr.1 h.tr.2
 have c2:=I_copyWorld x.Base gB h.bw.1 h.bw.2.1 h.bw.2.2
 have c3:=I_copyWorld x.Now gN h.nw.1 h.nw.2.1 h.nw.2.2
 have c4:=I_copyRows x.Used gU (by have:=h.us.1; omega) h.us.2
 have c5:=I_copyInts x.Sums h.sm
 refine Con.of Tryz.func211 J Tryz.ntmps211 J (fun E => ?_)
 refine Wz [101,60,35] ?_;refine AL.weak (st':=(⟨_,[(1,.o (.c (.ptr 0 0))),(2,.o (.c (.ptr 1 0))),(4,L x.Tracks)],[.box (pX x (sr x.Tracks) (sr x.Base.Level.Rows) (sr x.Base.Scores) (sr x.Base.Bodies) (sr x.Now.Level.Rows) (sr x.Now.Scores) (sr x.Now.Bodies) (sr x.Used) (sr x.Saves) (sr x.Sums)),.box zP]⟩:St)) (Xv [0,1] (by decide) J ((by kernel_rfl)) (.c J (.c J (.c J (.nil))))) ?_;refine M1 (Za J J (c1) J J J) J J ?_;refine Wz [75,151] ?_;refine AL.weak (st':=(⟨_,[(1,.o (.c (.ptr 0 0))),(2,.o (.c (.ptr 1 0))),(8,.o (.ag (wD x.Base)))],[.box (pX x (.ref 2) (sr x.Base.Level.Rows) (sr x.Base.Scores) (sr x.Base.Bodies) (sr x.Now.Level.Rows) (sr x.Now.Scores) (sr x.Now.Bodies) (sr x.Used) (sr x.Saves) (sr x.Sums)),.box zP,.row 1 (els x.Tracks)]⟩:St)) (Xv [0,1,2] (by decide) J ((by kernel_rfl)) (.c J (.c J (.c J (.nil))))) ?_;refine M1 (Za J J (c2) J J J) J J ?_;refine Wz [66,22,151] ?_;refine AL.weak (st':=(⟨_,[(1,.o (.c (.ptr 0 0))),(2,.o (.c (.ptr 1 0))),(12,.o (.ag (wD x.Now)))],[.box (pX x (.ref 2) (.ref 3) (.ref 4) (.ref 5) (sr x.Now.Level.Rows) (sr x.Now.Scores) (sr x.Now.Bodies) (sr x.Used) (sr x.Saves) (sr x.Sums)),.box zP,.row 1 (els x.Tracks),.row 1 (els x.Base.Level.Rows),.row 1 (els x.Base.Scores),.row 9 (els x.Base.Bodies)]⟩:St)) (Xv [0,1,2,3,4,5] (by decide) J ((by kernel_rfl)) (.c J (.c J (.c J (.nil))))) ?_;refine M1 (Za J J (c3) J J J) J J ?_;refine Wz [66,22,35] ?_;refine AL.weak (st':=(⟨_,[(1,.o (.c (.ptr 0 0))),(2,.o (.c (.ptr 1 0))),(16,L x.Used)],[.box (pX x (.ref 2) (.ref 3) (.ref 4) (.ref 5) (.ref 6) (.ref 7) (.ref 8) (sr x.Used) (sr x.Saves) (sr x.Sums)),.box zP,.row 1 (els x.Tracks),.row 1 (els x.Base.Level.Rows),.row 1 (els x.Base.Scores),.row 9 (els x.Base.Bodies),.row 1 (els x.Now.Level.Rows),.row 1 (els x.Now.Scores),.row 9 (els x.Now.Bodies)]⟩:St)) (Xv [0,1,2,3,4,5,6,7,8] (by decide) J ((by kernel_rfl)) (.c J (.c J (.c J (.nil))))) ?_;refine M1 (Za J J (c4) J J J) J J ?_;refine Wz [43] ?_;refine M_appnil J J J J J J J J (X7 _) (X5 _) (by omega) (by omega) ?_;refine Wz [43] ?_;refine AL.weak (st':=(⟨_,[(1,.o (.c (.ptr 0 0))),(2,.o (.c (.ptr 1 0))),(24,L x.Sums)],[.box (pX x (.ref 2) (.ref 3) (.ref 4) (.ref 5) (.ref 6) (.ref 7) (.ref 8) (.ref 9) (.ref 10) (sr x.Sums)),.box zP,.row 1 (els x.Tracks),.row 1 (els x.Base.Level.Rows),.row 1 (els x.Base.Scores),.row 9 (els x.Base.Bodies),.row 1 (els x.Now.Level.Rows),.row 1 (els x.Now.Scores),.row 9 (els x.Now.Bodies),.row 1 (els x.Used),.row 2 (els x.Saves)]⟩:St)) (Xv [0,1,2,3,4,5,6,7,8,9,10] (by decide) J ((by kernel_rfl)) (.c J (.c J (.c J (.nil))))) ?_;refine M1 (Za J J (c5) J J J) J J ?_;refine AL.weak (st':=(⟨_,[(1,.o (.c (.ptr 0 0))),(2,.o (.c (.ptr 1 0))),(25,.o (.c (.ref 11)))],[.box (pX x (.ref 2) (.ref 3) (.ref 4) (.ref 5) (.ref 6) (.ref 7) (.ref 8) (.ref 9) (.ref 10) (sr x.Sums)),.box (zP),.row 1 (els x.Tracks),.row 1 (els x.Base.Level.Rows),.row 1 (els x.Base.Scores),.row 9 (els x.Base.Bodies),.row 1 (els x.Now.Level.Rows),.row 1 (els x.Now.Scores),.row 9 (els x.Now.Bodies),.row 1 (els x.Used),.row 2 (els x.Saves),.row 1 (els x.Sums)]⟩:St)) (Xv [0,1,2,3,4,5,6,7,8,9,10,11] (by decide) J ((by kernel_rfl)) (.c J (.c J (.c J (.nil))))) ?_;refine Wz [75,4] ?_;refine AL.weak (st':=(⟨_,[(1,.o (.c (.ptr 0 0))),(2,.o (.c (.ptr 1 0)))],[.box (pX x (.ref 2) (.ref 3) (.ref 4) (.ref 5) (.ref 6) (.ref 7) (.ref 8) (.ref 9) (.ref 10) (.ref 11)),.box (zP),.row 1 (els x.Tracks),.row 1 (els x.Base.Level.Rows),.row 1 (els x.Base.Scores),.row 9 (els x.Base.Bodies),.row 1 (els x.Now.Level.Rows),.row 1 (els x.Now.Scores),.row 9 (els x.Now.Bodies),.row 1 (els x.Used),.row 2 (els x.Saves),.row 1 (els x.Sums)]⟩:St)) (Xv [0,1,2,3,4,5,6,7,8,9,10,11] (by decide) J ((by kernel_rfl)) (.c J (.c J (.nil)))) ?_;refine z4 J J J ?_;refine AL.weak (st':=(⟨_,[(1,.o (.c (.ptr 0 0))),(2,.o (.c (.ptr 1 0))),(27,.o (.ag (pC x 2 3 4 5 6 7 8 9 10 11)))],[.box (pX x (.ref 2) (.ref 3) (.ref 4) (.ref 5) (.ref 6) (.ref 7) (.ref 8) (.ref 9) (.ref 10) (.ref 11)),.box (zP),.row 1 (els x.Tracks),.row 1 (els x.Base.Level.Rows),.row 1 (els x.Base.Scores),.row 9 (els x.Base.Bodies),.row 1 (els x.Now.Level.Rows),.row 1 (els x.Now.Scores),.row 9 (els x.Now.Bodies),.row 1 (els x.Used),.row 2 (els x.Saves),.row 1 (els x.Sums)]⟩:St)) (Xv [0,1,2,3,4,5,6,7,8,9,10,11] (by decide) J ((by kernel_rfl)) (.c J (.c J (.c J (.nil))))) ?_;refine Qy J J J J J J J J J ?_;refine AL.weak (st':=(⟨_,[(1,.o (.c (.ptr 0 0))),(2,.o (.c (.ptr 1 0)))],[.box (pX x (.ref 2) (.ref 3) (.ref 4) (.ref 5) (.ref 6) (.ref 7) (.ref 8) (.ref 9) (.ref 10) (.ref 11)),.box (pC x 2 3 4 5 6 7 8 9 10 11),.row 1 (els x.Tracks),.row 1 (els x.Base.Level.Rows),.row 1 (els x.Base.Scores),.row 9 (els x.Base.Bodies),.row 1 (els x.Now.Level.Rows),.row 1 (els x.Now.Scores),.row 9 (els x.Now.Bodies),.row 1 (els x.Used),.row 2 (els x.Saves),.row 1 (els x.Sums)]⟩:St)) (Xv [0,1,2,3,4,5,6,7,8,9,10,11] (by decide) J ((by kernel_rfl)) (.c J (.c J (.nil)))) ?_;refine Wz [1,68] ?_
 exact Xh (cs:=pC x 2 3 4 5 6 7 8 9 10 11) J J J J (Xt [2,3,4,5,6,7,8,9,10,11] (by decide) J (by kernel_rfl) (by kernel_rfl))
end
section
open Go.RowKit

section
variable {P:Program} {ops:Array Oper} {o:Oper} {st:St} {m:Nat} {t e:TypeId} {y z:Operand} {zs:List Value} {by_:Nat}
theorem q_appn {ps qs:List Nat} {kk:Nat} {es':List (List T)} [hm:TyMake P t e zs by_] (ho:o.op = .call { callee := .builtin .append,args:=#[y,z],argTypes:=#[t,t] }) (hg:o.guard=none) (hy:st.ev y = .o (.c (.rd qs (.v (.slice none 0 0))))) (hz:st.ev z = .o (.c (.rd ps (.sl kk es')))) (hkz:kk=zs.length) (hz0:zs.isEmpty=false)
  (hpl:plainT es') (hkk:∀ e∈es',e.length=kk) (hb:es'.length*by_≤140737488355328) (h63:es'.length≤9223372036854775807):Qt P ops o st (.o (.c (.ref m))) [.row kk es'] m :=
 .new hg fun a w H F hr hn=>by
  have hzn:zs ≠ []:=by intro e; rw[e] at hz0; cases hz0
  subst hkz
  have hv:=hr.plain hy
  have hs:srcOf st.objs (.rd ps (.sl zs.length es'))=some es':=rfl
  obtain⟨v',w',fp'',hr1,h3,h4,h5,h6⟩:=X3 (P:=P) (o:=o) (t:=t) (kk:=zs.length) (es := []) hr (OW.nil _) List.nodup_nil rfl hzn (hr.v1 hz) hs hpl hkk (by simpa using hb) (by simpa using h63)
  have hbel:Below w.heap.size w w':=⟨h6.os,h6.tape,h6.output,h6.size,fun b hb=>h6.block b hb (by simp)⟩
  refine⟨v',w',.ow (.sl zs.length es') v' fp'',?_,hbel,h3,⟨h4,trivial⟩,fun b hb=>(h5 b hb).resolve_left (by simp),fun H' hgr hq=>⟨⟨_,_,hq⟩,_,_,hq⟩⟩
  exact Yd ho (by rw[hv]; exact hr1)
end
instance:PlainE TFlight:=⟨fun x t h=>by
 have h2:t ∈ [T.v (.int .i64 x.At),T.v (.string x.Data)]:=h
 simp only[List.mem_cons,List.not_mem_nil,or_false] at h2
 rcases h2 with rfl | rfl <;> exact⟨_,rfl⟩⟩
instance:PlainE TPace:=⟨fun x t h=>by
 have h2:t ∈ [T.v (.int .i64 x.Newest),T.v (.int .i64 x.Their),T.v (.int .i64 x.At),T.v (.int .i64 x.Trip),T.v (.int .i64 x.Samples)]:=h
 simp only[List.mem_cons,List.not_mem_nil,or_false] at h2
 rcases h2 with rfl | rfl | rfl | rfl | rfl <;> exact⟨_,rfl⟩⟩
@[reducible] def mD (x:TMatch):List V1:=mX x (sr x.Level.Rows) (sr x.Scripts) (sr x.Peers) (sr x.Wires) (sr x.Paces) (sr x.Acks) (sr x.Watchers) (sr x.Lines) (sr x.Alarms)
@[reducible] def zM:List V1 := [nv,jn 0,jn 0,nv,nv,nv,nv,nv,jn 0,nv,nv,nv,jn 0]
@[reducible] def wX (w:TWire) (a:V1):List V1 := [jn w.Seed,jn w.Delay,jn w.Jitter,jn w.Loss,jn w.Copies,jn w.Damage,jn w.Now,a,jn w.Sent,jn w.Lost]
theorem sp_in {s:TSpectator} (h:Enc.wt s≤1048576):s.World.Level.Rows.length≤1048576∧s.World.Scores.length≤1048576∧s.World.Bodies.length≤1048576:=by
 have hw:Enc.wt s=(s.World.Level.Rows.length+wts s.World.Level.Rows)+(s.World.Scores.length+wts s.World.Scores)+(s.World.Bodies.length+wts s.World.Bodies):=rfl
 omega
structure MatchIn (x:TMatch):Prop where
 gd:Enc.gd x
 wt:Enc.wt x≤1048576
theorem Yl {α:Type} [Enc α] {xs:List α} {n:Nat} (h:Enc.wt xs≤n):xs.length≤n∧∀ x∈xs,Enc.wt x≤n:=by
 have hw:Enc.wt xs=xs.length+wts xs:=rfl
 exact⟨by omega,fun x hx=>by have:=Z8 xs x hx; omega⟩
structure MatchLe (x:TMatch):Prop where
 L:Enc.wt x.Level.Rows≤1048576
 S:Enc.wt x.Scripts≤1048576
 P:Enc.wt x.Peers≤1048576
 W:Enc.wt x.Wires≤1048576
 Q:Enc.wt x.Paces≤1048576
 A:Enc.wt x.Acks≤1048576
 V:Enc.wt x.Watchers≤1048576
 K:Enc.wt x.Lines≤1048576
 B:Enc.wt x.Alarms≤1048576
theorem MatchIn.le {x:TMatch} (h:MatchIn x):MatchLe x:=by
 have hw:Enc.wt x=Enc.wt x.Level.Rows+Enc.wt x.Scripts+Enc.wt x.Peers+Enc.wt x.Wires+Enc.wt x.Paces+Enc.wt x.Acks+Enc.wt x.Watchers+Enc.wt x.Lines+Enc.wt x.Alarms:=rfl
 have:=h.wt
 exact⟨by omega,by omega,by omega,by omega,by omega,by omega,by omega,by omega,by omega⟩
theorem rows_in {xs:List (List Int)} (h:Enc.wt xs≤1048576):xs.length≤1048576∧∀ r∈xs,r.length≤1048576:=by
 obtain⟨a,b⟩:=Yl h
 exact⟨a,fun r hr=>(Yl (b r hr)).1⟩
theorem peer_in2 {x:TPeer} (g:Enc.gd x) (h:Enc.wt x≤1048576):PeerIn x:=by
 have hw:Enc.wt x=Enc.wt x.Tracks+(Enc.wt x.Base.Level.Rows+Enc.wt x.Base.Scores+Enc.wt x.Base.Bodies)+(Enc.wt x.Now.Level.Rows+Enc.wt x.Now.Scores+Enc.wt x.Now.Bodies)+Enc.wt x.Used+Enc.wt x.Saves+Enc.wt x.Sums+Enc.wt x.Fault:=rfl
 have a1:=Yl (xs:=x.Tracks) (n:=1048576) (by omega)
 have a2:=Yl (xs:=x.Base.Level.Rows) (n:=1048576) (by omega)
 have a3:=Yl (xs:=x.Base.Scores) (n:=1048576) (by omega)
 have a4:=Yl (xs:=x.Base.Bodies) (n:=1048576) (by omega)
 have a5:=Yl (xs:=x.Now.Level.Rows) (n:=1048576) (by omega)
 have a6:=Yl (xs:=x.Now.Scores) (n:=1048576) (by omega)
 have a7:=Yl (xs:=x.Now.Bodies) (n:=1048576) (by omega)
 have a8:=rows_in (xs:=x.Used) (by omega)
 have a9:=Yl (xs:=x.Saves) (n:=1048576) (by omega)
 have a10:=Yl (xs:=x.Sums) (n:=1048576) (by omega)
 exact⟨g,⟨a1.1,fun t ht=>(Yl (xs:=t.Inputs) (a1.2 t ht)).1⟩,⟨a2.1,a3.1,a4.1⟩,⟨a5.1,a6.1,a7.1⟩,a8,a9.1,a10.1⟩
theorem I_copyWire (w:TWire) (hL:Enc.wt w≤1048576):Con Tryz.prog 150 [] [ag w] [.row 2 (els w.Flights)] (.o (.ag (wX w (.ref 0)))):=by
 have hl:=X6 w.Flights
 have hw:Enc.wt w=w.Flights.length+wts w.Flights:=rfl
 refine Con.of Tryz.func150 J Tryz.ntmps150 J (fun E => ?_)
 refine Wz [101,60,35] ?_;refine M_appnil J J J J J J J J (X7 _) (X5 _) (by omega) (by omega) ?_;refine Wz [75,25,22,68] ?_
 exact Xh J J J J (Xt [2] (by decide) J J J)
theorem I_copyWires (xs:List TWire) (hL:Enc.wt xs≤1048576):Con Tryz.prog 212 [] [al xs] [.row 10 (els xs)] (.o (.c (.ref 0))):=by
 have hlx:=X6 xs
 obtain⟨l1,l2⟩:=Yl hL
 refine Con.of Tryz.func212 J Tryz.ntmps212 J (fun E => ?_)
 refine Wz [28,84,80] ?_
 refine AWP.pre ?_ (W_nil 3 10 J)
 refine Xe (fun m st=>∃ k:Nat,k+m=xs.length∧(True)∧st=(⟨_,[(3,.o (.c (.ref 0))),(6,L xs),(7,I (els xs).length),(8,I k)],[.row 10 (els (xs.take k))]⟩:St)) (xs.length) ⟨_,⟨0,by omega,trivial,J⟩,Xu [0] (by kernel_rfl)⟩ ?_
 rintro m_A _ ⟨k,hk_A,hp_A,rfl⟩
 have hl2:(els (xs.take k)).length=k:=by rw[X6]; simp; omega
 by_cases h3:k<xs.length
 ·have f3:decide ((k:Int)<((els xs).length:Int))=true:=Gqb (by omega)
  have hat:=X4 h3
  have hc:=I_copyWire xs[k] (l2 _ (Gqd h3))
  refine Wz [4,119,1,17,120,5,4,34,56,22,16,0,71] ?_;refine M1 (Za J J (hc) J J J) J J ?_;refine Wz [191,121,138,118,94,36,0,1] ?_
  exact⟨xs.length-(k+1),by omega,(fun k:Nat=>(⟨_,[(3,.o (.c (.ref 0))),(6,L xs),(7,I (els xs).length),(8,I k)],[.row 10 (els (xs.take k))]⟩:St)) (k+1),⟨k+1,by omega,trivial,J⟩,Xv [0] (by decide) J (Zx (X8 h3)) (.c J (.c J (.c J (.c J (.nil)))))⟩
 ·have f3:decide ((k:Int)<((els xs).length:Int))=false:=Gqa (by omega)
  have hk:xs.take k=xs:=Gqh (by omega)
  refine Wz [4,119,1,17,193,24] ?_
  exact Xi J J (Xt [0] (by decide) J (Zx (by rw[hk])) J)
theorem I_copyMatch (x:TMatch) (h:MatchIn x):Con Tryz.prog 129 [] [ag x] (mR x []) (.o (.ag (mC x 0))):=by
 obtain⟨gL,_,_,gS,gP,gW,gQ,gA,_,gV,gK,gB,_⟩:=h.gd
 have hle:=h.le
 have c1:=I_copyLevel x.Level gL (Yl hle.L).1
 have c2:=I_copyRows x.Scripts gS (rows_in hle.S).1 (rows_in hle.S).2
 have c3:=I_copyRows x.Acks gA (rows_in hle.A).1 (rows_in hle.A).2
 have cK:=I_copyWires x.Lines hle.K
 obtain⟨lP,wP⟩:=Yl hle.P
 obtain⟨lW,wW⟩:=Yl hle.W
 obtain⟨lQ,wQ⟩:=Yl hle.Q
 obtain⟨lV,wV⟩:=Yl hle.V
 obtain⟨lB,wB⟩:=Yl hle.B
 have eP:=X6 x.Peers
 have eW:=X6 x.Wires
 have eQ:=X6 x.Paces
 have eV:=X6 x.Watchers
 have eB:=X6 x.Alarms
 refine Con.of Tryz.func129 J Tryz.ntmps129 J (fun E => ?_)
 refine Wz [101,60,25,56,22,151] ?_;refine AL.weak (st':=(⟨120,[(1,.o (.c (.ptr 0 0))),(2,.o (.c (.ptr 1 0))),(3,.o (.c (.ptr 2 0))),(16,.o (.ag [sr x.Level.Rows]))],[.box (mD x),.box zM,.box (mD x)]⟩:St)) (Xv [0,1,2] (by decide) J ((by kernel_rfl)) (.c J (.c J (.c J (.c J (.nil)))))) ?_;refine M1 (Za J J (c1) J J J) J J ?_;refine Wz [66,22,35] ?_;refine AL.weak (st':=(⟨120,[(1,.o (.c (.ptr 0 0))),(2,.o (.c (.ptr 1 0))),(3,.o (.c (.ptr 2 0))),(20,L x.Scripts)],[.box (mD x),.box zM,.box (mX x (.ref 3) (sr x.Scripts) (sr x.Peers) (sr x.Wires) (sr x.Paces) (sr x.Acks) (sr x.Watchers) (sr x.Lines) (sr x.Alarms)),.row 1 (els x.Level.Rows)]⟩:St)) (Xv [0,1,2,3] (by decide) J ((by kernel_rfl)) (.c J (.c J (.c J (.c J (.nil)))))) ?_;refine M1 (Za J J (c2) J J J) J J ?_;refine Wz [43] ?_;refine AL.weak (st':=(⟨120,[(1,.o (.c (.ptr 0 0))),(2,.o (.c (.ptr 1 0))),(3,.o (.c (.ptr 2 0))),(24,L x.Acks)],[.box (mD x),.box zM,.box (mX x (.ref 3) (.ref 4) (sr x.Peers) (sr x.Wires) (sr x.Paces) (sr x.Acks) (sr x.Watchers) (sr x.Lines) (sr x.Alarms)),.row 1 (els x.Level.Rows),.row 1 (els x.Scripts)]⟩:St)) (Xv [0,1,2,3,4] (by decide) J ((by kernel_rfl)) (.c J (.c J (.c J (.c J (.nil)))))) ?_;refine M1 (Za J J (c3) J J J) J J ?_;refine Wz [75,4,75,32,114,80] ?_
 refine AWP.pre ?_ (Wk.nilbox (p:=2) (i:=4) 23 J J)
 refine Xe (fun m st=>∃ k:Nat,k+m=x.Peers.length∧(True)∧st=(⟨120,[(1,.o (.c (.ptr 0 0))),(2,.o (.c (.ptr 1 0))),(3,.o (.c (.ptr 2 0))),(29,L x.Peers),(30,I (els x.Peers).length),(31,I k)],[.box (mD x),.box zM,.box (mX x (.ref 3) (.ref 4) (.ref 6) (sr x.Wires) (sr x.Paces) (.ref 5) (sr x.Watchers) (sr x.Lines) (sr x.Alarms)),.row 1 (els x.Level.Rows),.row 1 (els x.Scripts),.row 1 (els x.Acks),.row 23 (els (x.Peers.take k))]⟩:St)) (x.Peers.length) ⟨_,⟨0,by omega,trivial,J⟩,Xu [0,1,2,3,4,5,6] (by kernel_rfl)⟩ ?_
 rintro m_A _ ⟨k,hk_A,hp_A,rfl⟩
 have hl2:(els (x.Peers.take k)).length=k:=by rw[X6]; simp; omega
 refine Wz [4,40,17] ?_
 refine Q8 J (fun h => ?_) (fun h => ?_)
 ·have h3:k<x.Peers.length:=by have:=Gqc h; omega
  have hat:=X4 h3
  have hm:=Gqd h3
  have hsn:=X8 h3
  generalize x.Peers[k]=u at hat hm hsn
  repeat (first | refine Qd ?_ | refine Qh ?_ | refine Qk ?_ | refine Qz ?_)
  refine Wz [16,34] ?_;refine AL.weak (st':=(⟨120,[(1,.o (.c (.ptr 0 0))),(2,.o (.c (.ptr 1 0))),(3,.o (.c (.ptr 2 0))),(29,L x.Peers),(30,I (els x.Peers).length),(31,I k),(34,.o (.ag ((Enc.e u).map (V1.rd []))))],[.box (mD x),.box zM,.box (mX x (.ref 3) (.ref 4) (.ref 6) (sr x.Wires) (sr x.Paces) (.ref 5) (sr x.Watchers) (sr x.Lines) (sr x.Alarms)),.row 1 (els x.Level.Rows),.row 1 (els x.Scripts),.row 1 (els x.Acks),.row 23 (els (x.Peers.take k))]⟩:St)) (Xv [0,1,2,3,4,5,6] (by decide) J (by kernel_rfl) (.c J (.c J (.c J (.c J (.c J (.c J (.cons (by kernel_rfl) (.nil))))))))) ?_;refine Wz [56,136] ?_;refine AL.weak (st':=(⟨120,[(1,.o (.c (.ptr 0 0))),(2,.o (.c (.ptr 1 0))),(3,.o (.c (.ptr 2 0))),(29,L x.Peers),(30,I (els x.Peers).length),(31,I k),(5,.o (.c (.ptr 7 0)))],[.box (mD x),.box zM,.box (mX x (.ref 3) (.ref 4) (.ref 6) (sr x.Wires) (sr x.Paces) (.ref 5) (sr x.Watchers) (sr x.Lines) (sr x.Alarms)),.row 1 (els x.Level.Rows),.row 1 (els x.Scripts),.row 1 (els x.Acks),.row 23 (els (x.Peers.take k)),.box ((Enc.e u).map (V1.rd []))]⟩:St)) (Xv [0,1,2,3,4,5,6,7] (by decide) J ((by kernel_rfl)) (.c J (.c J (.c J (.c J (.c J (.c J (.c J (.nil))))))))) ?_
  have cP:=I_copyPeer u (peer_in2 (gP.2 u hm) (wP u hm))
  refine Wz [1] ?_
  refine AWP.pre (st':=(⟨120,[(1,.o (.c (.ptr 0 0))),(2,.o (.c (.ptr 1 0))),(3,.o (.c (.ptr 2 0))),(29,L x.Peers),(30,I (els x.Peers).length),(31,I k),(5,.o (.c (.ptr 7 0)))],[.box (mD x),.box zM,.box (mX x (.ref 3) (.ref 4) (.ref 6) (sr x.Wires) (sr x.Paces) (.ref 5) (sr x.Watchers) (sr x.Lines) (sr x.Alarms)),.row 1 (els x.Level.Rows),.row 1 (els x.Scripts),.row 1 (els x.Acks),.row 23 (els (x.Peers.take k)),.box ((Enc.e u).map (V1.rd []))]⟩:St)) ?_ (Xv [0,1,2,3,4,5,6,7] (by decide) J ((by kernel_rfl)) (.c J (.c J (.c J (.c J (.c J (.c J (.c J (.nil)))))))))
  refine Xd u8_12 [[],[35],[],[37],[37,38],[35,36,37,38,39],[35,36,37,38,39,40],[35,36,37,38,39,40,41]] [[37,38,39],[37,38,39],[35,36],[35,36],[35,36],[],[],[]] J ?_;refine Wz [12,153] ?_;refine DR.s (Za J J (cP) J J J) J J ?_;refine Wz [134,11] ?_;refine AL.weak (st':=(⟨120,[(1,.o (.c (.ptr 0 0))),(2,.o (.c (.ptr 1 0))),(3,.o (.c (.ptr 2 0))),(29,L x.Peers),(30,I (els x.Peers).length),(31,I k),(36,.o (.c (.ref 6))),(39,.o (.c (.sb 17 1 23)))],[.box (mD x),.box zM,.box (mX x (.ref 3) (.ref 4) (.ref 6) (sr x.Wires) (sr x.Paces) (.ref 5) (sr x.Watchers) (sr x.Lines) (sr x.Alarms)),.row 1 (els x.Level.Rows),.row 1 (els x.Scripts),.row 1 (els x.Acks),.row 23 (els (x.Peers.take k)),.row 1 (els u.Tracks),.row 1 (els u.Base.Level.Rows),.row 1 (els u.Base.Scores),.row 9 (els u.Base.Bodies),.row 1 (els u.Now.Level.Rows),.row 1 (els u.Now.Scores),.row 9 (els u.Now.Bodies),.row 1 (els u.Used),.row 2 (els u.Saves),.row 1 (els u.Sums),.box (pC u 7 8 9 10 11 12 13 14 15 16)]⟩:St)) (Xv [0,1,2,3,4,5,6,8,9,10,11,12,13,14,15,16,17,18] (by decide) J ((by kernel_rfl)) (.c J (.c J (.c J (.c J (.c J (.c J (.c J (.c J (.nil)))))))))) ?_;refine Xo J J J J J J J J J J J J J J (by omega) (by omega) ?_;refine AL.weak (st':=(⟨120,[(1,.o (.c (.ptr 0 0))),(2,.o (.c (.ptr 1 0))),(3,.o (.c (.ptr 2 0))),(29,L x.Peers),(30,I (els x.Peers).length),(31,I k),(40,.o (.c (.ref 6)))],[.box (mD x),.box zM,.box (mX x (.ref 3) (.ref 4) .un (sr x.Wires) (sr x.Paces) (.ref 5) (sr x.Watchers) (sr x.Lines) (sr x.Alarms)),.row 1 (els x.Level.Rows),.row 1 (els x.Scripts),.row 1 (els x.Acks),.row 23 (els (x.Peers.take k) ++ [Enc.e u])]⟩:St)) (Xv [0,1,2,3,4,5,6] (by decide) J ((by kernel_rfl)) (.c J (.c J (.c J (.c J (.c J (.c J (.c J (.nil))))))))) ?_;refine Wz [127,118,94,36,0,1] ?_
  exact⟨x.Peers.length-(k+1),by omega,_,⟨k+1,by omega,trivial,J⟩,(by rw[hsn]; exact Xu [0,1,2,3,4,5,6] (by kernel_rfl))⟩
 have h3:¬k<x.Peers.length:=by have:=Gqe h; omega
 have hk:x.Peers.take k=x.Peers:=Gqh (by omega)
 rw[hk]
 clear hl2 h3 h hk
 refine Wz [20,4,75,32,114,80] ?_
 refine AWP.pre ?_ (Wk.nilbox (p:=2) (i:=5) 1 J J)
 refine Xe (fun m st=>∃ k:Nat,k+m=x.Wires.length∧(True)∧st=(⟨120,[(1,.o (.c (.ptr 0 0))),(2,.o (.c (.ptr 1 0))),(3,.o (.c (.ptr 2 0))),(45,L x.Wires),(46,I (els x.Wires).length),(47,I k)],[.box (mD x),.box zM,.box (mX x (.ref 3) (.ref 4) (.ref 6) (.ref 7) (sr x.Paces) (.ref 5) (sr x.Watchers) (sr x.Lines) (sr x.Alarms)),.row 1 (els x.Level.Rows),.row 1 (els x.Scripts),.row 1 (els x.Acks),.row 23 (els x.Peers),.row 1 (els (x.Wires.take k))]⟩:St)) (x.Wires.length) ⟨_,⟨0,by omega,trivial,J⟩,Xu [0,1,2,3,4,5,6,7] (by kernel_rfl)⟩ ?_
 rintro m_B _ ⟨k,hk_B,hp_B,rfl⟩
 have hl2:(els (x.Wires.take k)).length=k:=by rw[X6]; simp; omega
 refine Wz [4,40,17] ?_
 refine Q8 J (fun h => ?_) (fun h => ?_)
 ·have h3:k<x.Wires.length:=by have:=Gqc h; omega
  have hat:=X4 h3
  have hm:=Gqd h3
  have hsn:=X8 h3
  generalize x.Wires[k]=u at hat hm hsn
  have cW:=I_copyWires u (wW u hm)
  refine Wz [5,4,93,7] ?_
  refine AWP.pre (st':=(⟨120,[(1,.o (.c (.ptr 0 0))),(2,.o (.c (.ptr 1 0))),(3,.o (.c (.ptr 2 0))),(45,L x.Wires),(46,I (els x.Wires).length),(47,I k),(7,L u)],[.box (mD x),.box zM,.box (mX x (.ref 3) (.ref 4) (.ref 6) (.ref 7) (sr x.Paces) (.ref 5) (sr x.Watchers) (sr x.Lines) (sr x.Alarms)),.row 1 (els x.Level.Rows),.row 1 (els x.Scripts),.row 1 (els x.Acks),.row 23 (els x.Peers),.row 1 (els (x.Wires.take k))]⟩:St)) ?_ (Xv [0,1,2,3,4,5,6,7] (by decide) J ((by kernel_rfl)) (.c J (.c J (.c J (.c J (.c J (.c J (.c J (.nil)))))))))
  refine Xd u8_12 [[],[51],[],[53],[53,54],[51,52,53,54,55],[51,52,53,54,55,56],[51,52,53,54,55,56,57]] [[53,54,55],[53,54,55],[51,52],[51,52],[51,52],[],[],[]] J ?_;refine Wz [12,15] ?_;refine DR.s (Za J J (cW) J J J) J J ?_;refine Wz [134,11,121,127,118,94,36,0,1] ?_
  exact⟨x.Wires.length-(k+1),by omega,_,⟨k+1,by omega,trivial,J⟩,(by rw[hsn]; exact Xu [0,1,2,3,4,5,6,7] (by kernel_rfl))⟩
 have h3:¬k<x.Wires.length:=by have:=Gqe h; omega
 have hk:x.Wires.take k=x.Wires:=Gqh (by omega)
 rw[hk]
 clear hl2 h3 h hk
 refine Wz [20,35] ?_;refine M1 (Za J J (cK) J J J) J J ?_;refine Wz [75,4,75,32,114,80] ?_
 refine AWP.pre ?_ (Wk.nilbox (p:=2) (i:=6) 1 J J)
 refine Xe (fun m st=>∃ k:Nat,k+m=x.Paces.length∧(True)∧st=(⟨120,[(1,.o (.c (.ptr 0 0))),(2,.o (.c (.ptr 1 0))),(3,.o (.c (.ptr 2 0))),(65,L x.Paces),(66,I (els x.Paces).length),(67,I k)],[.box (mD x),.box zM,.box (mX x (.ref 3) (.ref 4) (.ref 6) (.ref 7) (.ref 9) (.ref 5) (sr x.Watchers) (.ref 8) (sr x.Alarms)),.row 1 (els x.Level.Rows),.row 1 (els x.Scripts),.row 1 (els x.Acks),.row 23 (els x.Peers),.row 1 (els x.Wires),.row 10 (els x.Lines),.row 1 (els (x.Paces.take k))]⟩:St)) (x.Paces.length) ⟨_,⟨0,by omega,trivial,J⟩,Xu [0,1,2,3,4,5,6,7,8,9] (by kernel_rfl)⟩ ?_
 rintro m_C _ ⟨k,hk_C,hp_C,rfl⟩
 have hl2:(els (x.Paces.take k)).length=k:=by rw[X6]; simp; omega
 refine Wz [4,40,17] ?_
 refine Q8 J (fun h => ?_) (fun h => ?_)
 ·have h3:k<x.Paces.length:=by have:=Gqc h; omega
  have hat:=X4 h3
  have hm:=Gqd h3
  have hsn:=X8 h3
  generalize x.Paces[k]=u at hat hm hsn
  have hlu:=X6 u
  have hwu:=(Yl (wQ u hm)).1
  refine Wz [5,4,93,7] ?_
  refine AWP.pre (st':=(⟨120,[(1,.o (.c (.ptr 0 0))),(2,.o (.c (.ptr 1 0))),(3,.o (.c (.ptr 2 0))),(65,L x.Paces),(66,I (els x.Paces).length),(67,I k),(9,L u)],[.box (mD x),.box zM,.box (mX x (.ref 3) (.ref 4) (.ref 6) (.ref 7) (.ref 9) (.ref 5) (sr x.Watchers) (.ref 8) (sr x.Alarms)),.row 1 (els x.Level.Rows),.row 1 (els x.Scripts),.row 1 (els x.Acks),.row 23 (els x.Peers),.row 1 (els x.Wires),.row 10 (els x.Lines),.row 1 (els (x.Paces.take k))]⟩:St)) ?_ (Xv [0,1,2,3,4,5,6,7,8,9] (by decide) J ((by kernel_rfl)) (.c J (.c J (.c J (.c J (.c J (.c J (.c J (.nil)))))))))
  refine Xd u8_12 [[],[71],[],[73],[73,74],[71,72,73,74,75],[71,72,73,74,75,76],[71,72,73,74,75,76,77]] [[73,74,75],[73,74,75],[71,72],[71,72],[71,72],[],[],[]] J ?_;refine Wz [12,15] ?_;refine DR.s (q_appn J J J J J J (X7 _) (X5 _) (by omega) (by omega)) J J ?_;refine Wz [134,11,121,127,118,94,36,0,1] ?_
  exact⟨x.Paces.length-(k+1),by omega,_,⟨k+1,by omega,trivial,J⟩,(by rw[hsn]; exact Xu [0,1,2,3,4,5,6,7,8,9] (by kernel_rfl))⟩
 have h3:¬k<x.Paces.length:=by have:=Gqe h; omega
 have hk:x.Paces.take k=x.Paces:=Gqh (by omega)
 rw[hk]
 clear hl2 h3 h hk
 refine Wz [20,4,75,32,114,80] ?_
 refine AWP.pre ?_ (Wk.nilbox (p:=2) (i:=9) 6 J J)
 refine Xe (fun m st=>∃ k:Nat,k+m=x.Watchers.length∧(True)∧st=(⟨120,[(1,.o (.c (.ptr 0 0))),(2,.o (.c (.ptr 1 0))),(3,.o (.c (.ptr 2 0))),(81,L x.Watchers),(82,I (els x.Watchers).length),(83,I k)],[.box (mD x),.box zM,.box (mX x (.ref 3) (.ref 4) (.ref 6) (.ref 7) (.ref 9) (.ref 5) (.ref 10) (.ref 8) (sr x.Alarms)),.row 1 (els x.Level.Rows),.row 1 (els x.Scripts),.row 1 (els x.Acks),.row 23 (els x.Peers),.row 1 (els x.Wires),.row 10 (els x.Lines),.row 1 (els x.Paces),.row 6 (els (x.Watchers.take k))]⟩:St)) (x.Watchers.length) ⟨_,⟨0,by omega,trivial,J⟩,Xu [0,1,2,3,4,5,6,7,8,9,10] (by kernel_rfl)⟩ ?_
 rintro m_D _ ⟨k,hk_D,hp_D,rfl⟩
 have hl2:(els (x.Watchers.take k)).length=k:=by rw[X6]; simp; omega
 refine Wz [4,40,17] ?_
 refine Q8 J (fun h => ?_) (fun h => ?_)
 ·have h3:k<x.Watchers.length:=by have:=Gqc h; omega
  have hat:=X4 h3
  have hm:=Gqd h3
  have hsn:=X8 h3
  generalize x.Watchers[k]=u at hat hm hsn
  repeat (first | refine Qd ?_ | refine Qh ?_ | refine Qk ?_ | refine Qz ?_)
  refine Wz [16,34] ?_;refine AL.weak (st':=(⟨120,[(1,.o (.c (.ptr 0 0))),(2,.o (.c (.ptr 1 0))),(3,.o (.c (.ptr 2 0))),(81,L x.Watchers),(82,I (els x.Watchers).length),(83,I k),(86,.o (.ag ((Enc.e u).map (V1.rd []))))],[.box (mD x),.box zM,.box (mX x (.ref 3) (.ref 4) (.ref 6) (.ref 7) (.ref 9) (.ref 5) (.ref 10) (.ref 8) (sr x.Alarms)),.row 1 (els x.Level.Rows),.row 1 (els x.Scripts),.row 1 (els x.Acks),.row 23 (els x.Peers),.row 1 (els x.Wires),.row 10 (els x.Lines),.row 1 (els x.Paces),.row 6 (els (x.Watchers.take k))]⟩:St)) (Xv [0,1,2,3,4,5,6,7,8,9,10] (by decide) J (by kernel_rfl) (.c J (.c J (.c J (.c J (.c J (.c J (.cons (by kernel_rfl) (.nil))))))))) ?_;refine Wz [56,136] ?_;refine AL.weak (st':=(⟨120,[(1,.o (.c (.ptr 0 0))),(2,.o (.c (.ptr 1 0))),(3,.o (.c (.ptr 2 0))),(81,L x.Watchers),(82,I (els x.Watchers).length),(83,I k),(11,.o (.c (.ptr 11 0)))],[.box (mD x),.box zM,.box (mX x (.ref 3) (.ref 4) (.ref 6) (.ref 7) (.ref 9) (.ref 5) (.ref 10) (.ref 8) (sr x.Alarms)),.row 1 (els x.Level.Rows),.row 1 (els x.Scripts),.row 1 (els x.Acks),.row 23 (els x.Peers),.row 1 (els x.Wires),.row 10 (els x.Lines),.row 1 (els x.Paces),.row 6 (els (x.Watchers.take k)),.box ((Enc.e u).map (V1.rd []))]⟩:St)) (Xv [0,1,2,3,4,5,6,7,8,9,10,11] (by decide) J ((by kernel_rfl)) (.c J (.c J (.c J (.c J (.c J (.c J (.c J (.nil))))))))) ?_
  have cV:=I_copyWorld u.World (gV.2 u hm).1 (sp_in (wV u hm)).1 (sp_in (wV u hm)).2.1 (sp_in (wV u hm)).2.2
  refine Wz [1] ?_
  refine AWP.pre (st':=(⟨120,[(1,.o (.c (.ptr 0 0))),(2,.o (.c (.ptr 1 0))),(3,.o (.c (.ptr 2 0))),(81,L x.Watchers),(82,I (els x.Watchers).length),(83,I k),(11,.o (.c (.ptr 11 0)))],[.box (mD x),.box zM,.box (mX x (.ref 3) (.ref 4) (.ref 6) (.ref 7) (.ref 9) (.ref 5) (.ref 10) (.ref 8) (sr x.Alarms)),.row 1 (els x.Level.Rows),.row 1 (els x.Scripts),.row 1 (els x.Acks),.row 23 (els x.Peers),.row 1 (els x.Wires),.row 10 (els x.Lines),.row 1 (els x.Paces),.row 6 (els (x.Watchers.take k)),.box ((Enc.e u).map (V1.rd []))]⟩:St)) ?_ (Xv [0,1,2,3,4,5,6,7,8,9,10,11] (by decide) J ((by kernel_rfl)) (.c J (.c J (.c J (.c J (.c J (.c J (.c J (.nil)))))))))
  refine Xd [[],[0],[],[2],[2,3],[],[5],[2,3,4,5,6],[2,3,4,5,6,7],(u9 9),(u9 10),(u9 11)] [[],[87],[],[89],[89,90],[],[92],[89,90,91,92,93],[89,90,91,92,93,94],[87,88,89,90,91,92,93,94,95],[87,88,89,90,91,92,93,94,95,96],[87,88,89,90,91,92,93,94,95,96,97]] [[89,90,91,92,93,94,95],[89,90,91,92,93,94,95],[87,88,92,93],[87,88,92,93],[87,88,92,93],[87,88,89,90,91],[87,88,89,90,91],[87,88],[87,88],[],[],[]] J ?_;refine Wz [12,186,153] ?_;refine DR.s (Za J J (cV) J J J) J J ?_;refine Wz [12,246,134,11,121,127,118,94,36,0,1] ?_
  exact⟨x.Watchers.length-(k+1),by omega,_,⟨k+1,by omega,trivial,J⟩,(by rw[hsn]; exact Xu [0,1,2,3,4,5,6,7,8,9,10] (by kernel_rfl))⟩
 have h3:¬k<x.Watchers.length:=by have:=Gqe h; omega
 have hk:x.Watchers.take k=x.Watchers:=Gqh (by omega)
 rw[hk]
 clear hl2 h3 h hk
 refine Wz [20,4,75,32,114,80] ?_
 refine AWP.pre ?_ (Wk.nilbox (p:=2) (i:=11) 2 J J)
 refine Xe (fun m st=>∃ k:Nat,k+m=x.Alarms.length∧(True)∧st=(⟨120,[(1,.o (.c (.ptr 0 0))),(2,.o (.c (.ptr 1 0))),(3,.o (.c (.ptr 2 0))),(101,L x.Alarms),(102,I (els x.Alarms).length),(103,I k)],[.box (mD x),.box zM,.box (mX x (.ref 3) (.ref 4) (.ref 6) (.ref 7) (.ref 9) (.ref 5) (.ref 10) (.ref 8) (.ref 11)),.row 1 (els x.Level.Rows),.row 1 (els x.Scripts),.row 1 (els x.Acks),.row 23 (els x.Peers),.row 1 (els x.Wires),.row 10 (els x.Lines),.row 1 (els x.Paces),.row 6 (els x.Watchers),.row 2 (els (x.Alarms.take k))]⟩:St)) (x.Alarms.length) ⟨_,⟨0,by omega,trivial,J⟩,Xu [0,1,2,3,4,5,6,7,8,9,10,11] (by kernel_rfl)⟩ ?_
 rintro m_G _ ⟨k,hk_G,hp_G,rfl⟩
 have hl2:(els (x.Alarms.take k)).length=k:=by rw[X6]; simp; omega
 refine Wz [4,40,17] ?_
 refine Q8 J (fun h => ?_) (fun h => ?_)
 ·have h3:k<x.Alarms.length:=by have:=Gqc h; omega
  have hat:=X4 h3
  have hm:=Gqd h3
  have hsn:=X8 h3
  generalize x.Alarms[k]=u at hat hm hsn
  repeat (first | refine Qd ?_ | refine Qh ?_ | refine Qk ?_ | refine Qz ?_)
  refine Wz [16,34] ?_;refine AL.weak (st':=(⟨120,[(1,.o (.c (.ptr 0 0))),(2,.o (.c (.ptr 1 0))),(3,.o (.c (.ptr 2 0))),(101,L x.Alarms),(102,I (els x.Alarms).length),(103,I k),(106,.o (.ag ((Enc.e u).map (V1.rd []))))],[.box (mD x),.box zM,.box (mX x (.ref 3) (.ref 4) (.ref 6) (.ref 7) (.ref 9) (.ref 5) (.ref 10) (.ref 8) (.ref 11)),.row 1 (els x.Level.Rows),.row 1 (els x.Scripts),.row 1 (els x.Acks),.row 23 (els x.Peers),.row 1 (els x.Wires),.row 10 (els x.Lines),.row 1 (els x.Paces),.row 6 (els x.Watchers),.row 2 (els (x.Alarms.take k))]⟩:St)) (Xv [0,1,2,3,4,5,6,7,8,9,10,11] (by decide) J (by kernel_rfl) (.c J (.c J (.c J (.c J (.c J (.c J (.cons (by kernel_rfl) (.nil))))))))) ?_;refine Wz [56,136] ?_;refine AL.weak (st':=(⟨120,[(1,.o (.c (.ptr 0 0))),(2,.o (.c (.ptr 1 0))),(3,.o (.c (.ptr 2 0))),(101,L x.Alarms),(102,I (els x.Alarms).length),(103,I k),(13,.o (.c (.ptr 12 0)))],[.box (mD x),.box zM,.box (mX x (.ref 3) (.ref 4) (.ref 6) (.ref 7) (.ref 9) (.ref 5) (.ref 10) (.ref 8) (.ref 11)),.row 1 (els x.Level.Rows),.row 1 (els x.Scripts),.row 1 (els x.Acks),.row 23 (els x.Peers),.row 1 (els x.Wires),.row 10 (els x.Lines),.row 1 (els x.Paces),.row 6 (els x.Watchers),.row 2 (els (x.Alarms.take k)),.box ((Enc.e u).map (V1.rd []))]⟩:St)) (Xv [0,1,2,3,4,5,6,7,8,9,10,11,12] (by decide) J ((by kernel_rfl)) (.c J (.c J (.c J (.c J (.c J (.c J (.c J (.nil))))))))) ?_
  have hlu:=X6 u.Parts
  have hwu:=(Yl (xs:=u.Parts) (wB u hm)).1
  refine Wz [1] ?_
  refine AWP.pre (st':=(⟨120,[(1,.o (.c (.ptr 0 0))),(2,.o (.c (.ptr 1 0))),(3,.o (.c (.ptr 2 0))),(101,L x.Alarms),(102,I (els x.Alarms).length),(103,I k),(13,.o (.c (.ptr 12 0)))],[.box (mD x),.box zM,.box (mX x (.ref 3) (.ref 4) (.ref 6) (.ref 7) (.ref 9) (.ref 5) (.ref 10) (.ref 8) (.ref 11)),.row 1 (els x.Level.Rows),.row 1 (els x.Scripts),.row 1 (els x.Acks),.row 23 (els x.Peers),.row 1 (els x.Wires),.row 10 (els x.Lines),.row 1 (els x.Paces),.row 6 (els x.Watchers),.row 2 (els (x.Alarms.take k)),.box ((Enc.e u).map (V1.rd []))]⟩:St)) ?_ (Xv [0,1,2,3,4,5,6,7,8,9,10,11,12] (by decide) J ((by kernel_rfl)) (.c J (.c J (.c J (.c J (.c J (.c J (.c J (.nil)))))))))
  refine Xd [[],[0],[],[2],[],[4],[4,5],[2,3,4,5,6],[2,3,4,5,6,7],(u9 9),(u9 10),(u9 11)] [[],[107],[],[109],[],[111],[111,112],[109,110,111,112,113],[109,110,111,112,113,114],[107,108,109,110,111,112,113,114,115],[107,108,109,110,111,112,113,114,115,116],[107,108,109,110,111,112,113,114,115,116,117]] [[109,110,111,112,113,114,115],[109,110,111,112,113,114,115],[107,108,111,112,113],[107,108,111,112,113],[107,108,109,110],[107,108,109,110],[107,108,109,110],[107,108],[107,108],[],[],[]] J ?_;refine Wz [12,12,12] ?_;refine DR.s (q_appn J J J J J J (X7 _) (X5 _) (by omega) (by omega)) J J ?_;refine Wz [246,134,11,121,127,118,94,36,0,1] ?_
  exact⟨x.Alarms.length-(k+1),by omega,_,⟨k+1,by omega,trivial,J⟩,(by rw[hsn]; exact Xu [0,1,2,3,4,5,6,7,8,9,10,11] (by kernel_rfl))⟩
 have h3:¬k<x.Alarms.length:=by have:=Gqe h; omega
 have hk:x.Alarms.take k=x.Alarms:=Gqh (by omega)
 rw[hk]
 clear hl2 h3 h hk
 refine Wz [20,25,22,68] ?_
 exact Xh J J J J (Xt [3,4,6,7,9,5,10,8,11] (by decide) J J J)
end
section
open Go.RowKit

theorem S_l03Copy (t:TTrack) (hL:t.Inputs.length≤1048576):Con Tryz.prog 277 [] [ag t] [.row 1 (els t.Inputs)] (.o (.ag [.ref 0])):=by
 have hl:=X6 t.Inputs
 have h00:([]:List (List T)).length=0:=rfl
 refine Con.of Tryz.func277 J Tryz.ntmps277 J (fun E => ?_)
 refine Wz [101,60,4,173,14] ?_;refine M_app J J J J J J J J J J (X7 _) (X5 _) (by omega) (by omega) ?_;refine Wz [224,22,68] ?_
 exact Xh J J J J (Xt [2] (by decide) J J J)
theorem S_l03CopyAll (xs:List TTrack) (hL:xs.length≤1048576) (hr:∀ t∈xs,t.Inputs.length≤1048576):Con Tryz.prog 244 [] [al xs] [.row 1 (els xs)] (.o (.c (.ref 0))):=by
 have hlx:=X6 xs
 refine Con.of Tryz.func244 J Tryz.ntmps244 J (fun E => ?_)
 refine Wz [28,4,173,7,23] ?_;refine Xe (fun m st=>∃ k:Nat,k+m=xs.length∧(True)∧st=(⟨21,[(0,L xs),(3,.o (.c (.ref 0))),(4,I k)],[.row 1 (els (xs.take k))]⟩:St)) (xs.length) ⟨_,⟨0,by omega,trivial,J⟩,Xu [0] (by kernel_rfl)⟩ ?_
 rintro m_A _ ⟨k,hk_A,hp_A,rfl⟩
 have hl2:(els (xs.take k)).length=k:=by rw[X6]; simp; omega
 by_cases h3:k<xs.length
 ·have f3:decide ((k:Int)<((els xs).length:Int))=true:=Gqb (by omega)
  have hat:=X4 h3
  have hc:=S_l03Copy xs[k] (hr _ (Gqd h3))
  refine Wz [102,59,16,41,0,34] ?_;refine M1 (Za J J (hc) J J J) J J ?_;refine Wz [191,121,86] ?_
  exact⟨xs.length-(k+1),by omega,(fun k:Nat=>(⟨21,[(0,L xs),(3,.o (.c (.ref 0))),(4,I k)],[.row 1 (els (xs.take k))]⟩:St)) (k+1),⟨k+1,by omega,trivial,J⟩,Xv [0] (by decide) J (Zx (X8 h3)) (.c J (.c J (.c J (.nil))))⟩
 ·have f3:decide ((k:Int)<((els xs).length:Int))=false:=Gqa (by omega)
  have hk:xs.take k=xs:=Gqh (by omega)
  refine Wz [102,31,24] ?_
  exact Xi J J (Xt [0] (by decide) J (Zx (by rw[hk])) J)
theorem S_l05Copy (w:TWire) (hL:Enc.wt w≤1048576):Con Tryz.prog 147 [] [ag w] [.row 2 (els w.Flights)] (.o (.ag (wX w (.ref 0)))):=by
 have hl:=X6 w.Flights
 have hw:Enc.wt w=w.Flights.length+wts w.Flights:=rfl
 have h00:([]:List (List T)).length=0:=rfl
 refine Con.of Tryz.func147 J Tryz.ntmps147 J (fun E => ?_)
 refine Wz [101,60,4,173,14] ?_;refine M_app J J J J J J J J J J (X7 _) (X5 _) (by omega) (by omega) ?_;refine Wz [75,25,22,68] ?_
 exact Xh J J J J (Xt [2] (by decide) J J J)
theorem S_l04Copy (x:TPeer) (h:PeerIn x):Con Tryz.prog 207 [] [ag x] (pR x []) (.o (.ag (pC x 0 1 2 3 4 5 6 7 8 9))):=by
 obtain⟨_,_,_,_,gT,gB,gN,gU,gS,gM,gF,_,_⟩:=h.gd
 have hlu:=X6 x.Used
 have hsv:=h.sv
 have hsm:=h.sm
 have hus:=h.us.1
 have wU:=h.us.2
 have h00:([]:List (List T)).length=0:=rfl
 have c1:=S_l03CopyAll x.Tracks h.tr.1 h.tr.2
 have c2:=S_copyWorld x.Base gB h.bw.1 h.bw.2.1 h.bw.2.2
 have c3:=S_copyWorld x.Now gN h.nw.1 h.nw.2.1 h.nw.2.2
 refine Con.of Tryz.func207 J Tryz.ntmps207 J (fun E => ?_)
 repeat (first | refine Qd ?_ | refine Qh ?_ | refine Qk ?_ | refine Qz ?_)
 refine Wz [16,262,56] ?_;refine AL.weak (st':=(⟨49,[(1,.o (.c (.ptr 0 0))),(2,.o (.c (.ptr 1 0)))],[.box (pD x),.box zP]⟩:St)) (Xv [0,1] (by decide) J ((by kernel_rfl)) (.c J (.c J (.nil)))) ?_;refine Wz [1] ?_
 repeat (first | refine Qd ?_ | refine Qh ?_ | refine Qk ?_ | refine Qz ?_)
 refine Wz [16,71] ?_;refine AL.weak (st':=(⟨49,[(1,.o (.c (.ptr 0 0))),(2,.o (.c (.ptr 1 0))),(5,.o (.ag (pD x)))],[.box (pD x),.box zP]⟩:St)) (Xv [0,1] (by decide) J ((by kernel_rfl)) (.c J (.c J (.c J (.nil))))) ?_;refine Wz [56,136] ?_;refine AL.weak (st':=(⟨49,[(1,.o (.c (.ptr 0 0))),(2,.o (.c (.ptr 1 0))),(3,.o (.c (.ptr 2 0)))],[.box (pD x),.box zP,.box (pX x (sr x.Tracks) (sr x.Base.Level.Rows) (sr x.Base.Scores) (sr x.Base.Bodies) (sr x.Now.Level.Rows) (sr x.Now.Scores) (sr x.Now.Bodies) (sr x.Used) (sr x.Saves) (sr x.Sums))]⟩:St)) (Xv [0,1,2] (by decide) J ((by kernel_rfl)) (.c J (.c J (.c J (.nil))))) ?_;refine Wz [1,35] ?_;refine AL.weak (st':=(⟨49,[(1,.o (.c (.ptr 0 0))),(2,.o (.c (.ptr 1 0))),(3,.o (.c (.ptr 2 0))),(7,L x.Tracks)],[.box (pD x),.box zP,.box (pX x (sr x.Tracks) (sr x.Base.Level.Rows) (sr x.Base.Scores) (sr x.Base.Bodies) (sr x.Now.Level.Rows) (sr x.Now.Scores) (sr x.Now.Bodies) (sr x.Used) (sr x.Saves) (sr x.Sums))]⟩:St)) (Xv [0,1,2] (by decide) J ((by kernel_rfl)) (.c J (.c J (.c J (.c J (.nil)))))) ?_;refine M1 (Za J J (c1) J J J) J J ?_;refine Wz [75,151] ?_;refine AL.weak (st':=(⟨49,[(1,.o (.c (.ptr 0 0))),(2,.o (.c (.ptr 1 0))),(3,.o (.c (.ptr 2 0))),(11,.o (.ag (wD x.Base)))],[.box (pD x),.box zP,.box (pX x (.ref 3) (sr x.Base.Level.Rows) (sr x.Base.Scores) (sr x.Base.Bodies) (sr x.Now.Level.Rows) (sr x.Now.Scores) (sr x.Now.Bodies) (sr x.Used) (sr x.Saves) (sr x.Sums)),.row 1 (els x.Tracks)]⟩:St)) (Xv [0,1,2,3] (by decide) J ((by kernel_rfl)) (.c J (.c J (.c J (.c J (.nil)))))) ?_;refine M1 (Za J J (c2) J J J) J J ?_;refine Wz [66,22,151] ?_;refine AL.weak (st':=(⟨49,[(1,.o (.c (.ptr 0 0))),(2,.o (.c (.ptr 1 0))),(3,.o (.c (.ptr 2 0))),(15,.o (.ag (wD x.Now)))],[.box (pD x),.box zP,.box (pX x (.ref 3) (.ref 4) (.ref 5) (.ref 6) (sr x.Now.Level.Rows) (sr x.Now.Scores) (sr x.Now.Bodies) (sr x.Used) (sr x.Saves) (sr x.Sums)),.row 1 (els x.Tracks),.row 1 (els x.Base.Level.Rows),.row 1 (els x.Base.Scores),.row 9 (els x.Base.Bodies)]⟩:St)) (Xv [0,1,2,3,4,5,6] (by decide) J ((by kernel_rfl)) (.c J (.c J (.c J (.c J (.nil)))))) ?_;refine M1 (Za J J (c3) J J J) J J ?_;refine Wz [66,22,4,75,23] ?_
 refine AWP.pre ?_ (Wk.nilbox (p:=2) (i:=15) 1 J J)
 refine Xe (fun m st=>∃ k:Nat,k+m=x.Used.length∧(True)∧st=(⟨49,[(1,.o (.c (.ptr 0 0))),(2,.o (.c (.ptr 1 0))),(3,.o (.c (.ptr 2 0))),(4,I k)],[.box (pD x),.box zP,.box (pX x (.ref 3) (.ref 4) (.ref 5) (.ref 6) (.ref 7) (.ref 8) (.ref 9) (.ref 10) (sr x.Saves) (sr x.Sums)),.row 1 (els x.Tracks),.row 1 (els x.Base.Level.Rows),.row 1 (els x.Base.Scores),.row 9 (els x.Base.Bodies),.row 1 (els x.Now.Level.Rows),.row 1 (els x.Now.Scores),.row 9 (els x.Now.Bodies),.row 1 (els (x.Used.take k))]⟩:St)) (x.Used.length) ⟨_,⟨0,by omega,trivial,J⟩,Xu [0,1,2,3,4,5,6,7,8,9,10] (by kernel_rfl)⟩ ?_
 rintro m_A _ ⟨k,hk_A,hp_A,rfl⟩
 have hl2:(els (x.Used.take k)).length=k:=by rw[X6]; simp; omega
 by_cases h3:k<x.Used.length
 ·have f3:decide ((k:Int)<((els x.Used).length:Int))=true:=Gqb (by omega)
  have hat:=X4 h3
  have hrk:=wU _ (Gqd h3)
  have hsn:=X8 h3
  generalize x.Used[k]=r at hat hrk hsn
  have hlk:=X6 r
  refine Wz [63,14,3,59] ?_
  refine AWP.pre (st':=(⟨49,[(1,.o (.c (.ptr 0 0))),(2,.o (.c (.ptr 1 0))),(3,.o (.c (.ptr 2 0))),(4,I k)],[.box (pD x),.box zP,.box (pX x (.ref 3) (.ref 4) (.ref 5) (.ref 6) (.ref 7) (.ref 8) (.ref 9) (.ref 10) (sr x.Saves) (sr x.Sums)),.row 1 (els x.Tracks),.row 1 (els x.Base.Level.Rows),.row 1 (els x.Base.Scores),.row 9 (els x.Base.Bodies),.row 1 (els x.Now.Level.Rows),.row 1 (els x.Now.Scores),.row 9 (els x.Now.Bodies),.row 1 (els (x.Used.take k))]⟩:St)) ?_ (Xv [0,1,2,3,4,5,6,7,8,9,10] (by decide) J ((by kernel_rfl)) (.c J (.c J (.c J (.c J (.nil))))))
  cases r with
  |nil =>
   refine Xd u8_13 u8_14 u8_15 J ?_;refine Wz [12,167,12,65,27,213,134,11] ?_;refine AL.weak (Wk.sbrow (q:=11) (es := []) J J (Gqx J)) ?_;refine Wz [121,127,78] ?_
   exact⟨x.Used.length-(k+1),by omega,_,⟨k+1,by omega,trivial,J⟩,(by rw[hsn]; exact Xu [0,1,2,3,4,5,6,7,8,9,10] (by kernel_rfl))⟩
  |cons a rs =>
   have hpos:0<(els (a::rs)).length:=by rw[X6]; simp
   refine Xd u8_13 u8_14 u8_15 J ?_;refine Wz [12,167,12,65,27] ?_;refine DR.s (q_appz J J J J J J (X7 _) (X5 _) hpos (by omega) (by omega)) J J ?_;refine Wz [134,11,121,127,78] ?_
   exact⟨x.Used.length-(k+1),by omega,_,⟨k+1,by omega,trivial,J⟩,(by rw[hsn]; exact Xu [0,1,2,3,4,5,6,7,8,9,10] (by kernel_rfl))⟩
 have f3:decide ((k:Int)<((els x.Used).length:Int))=false:=Gqa (by omega)
 have hk:x.Used.take k=x.Used:=Gqh (by omega)
 rw[hk]
 clear hl2 h3 hk
 refine Wz [63,14,3,31,20,4,173,14] ?_;refine AL.weak (st':=(⟨49,[(1,.o (.c (.ptr 0 0))),(2,.o (.c (.ptr 1 0))),(3,.o (.c (.ptr 2 0))),(38,.o (.c (.ref 11))),(40,L x.Saves)],[.box (pD x),.box zP,.box (pX x (.ref 3) (.ref 4) (.ref 5) (.ref 6) (.ref 7) (.ref 8) (.ref 9) (.ref 10) (sr x.Saves) (sr x.Sums)),.row 1 (els x.Tracks),.row 1 (els x.Base.Level.Rows),.row 1 (els x.Base.Scores),.row 9 (els x.Base.Bodies),.row 1 (els x.Now.Level.Rows),.row 1 (els x.Now.Scores),.row 9 (els x.Now.Bodies),.row 1 (els x.Used),.row 2 []]⟩:St)) (Xv [0,1,2,3,4,5,6,7,8,9,10,11] (by decide) J ((by kernel_rfl)) (.c J (.c J (.c J (.c J (.c J (.nil))))))) ?_
 have hls:=X6 x.Saves
 refine M_app J J J J J J J J J J (X7 _) (X5 _) (by omega) (by omega) ?_;refine AL.weak (st':=(⟨49,[(1,.o (.c (.ptr 0 0))),(2,.o (.c (.ptr 1 0))),(3,.o (.c (.ptr 2 0))),(41,.o (.c (.ref 11)))],[.box (pD x),.box zP,.box (pX x (.ref 3) (.ref 4) (.ref 5) (.ref 6) (.ref 7) (.ref 8) (.ref 9) (.ref 10) (sr x.Saves) (sr x.Sums)),.row 1 (els x.Tracks),.row 1 (els x.Base.Level.Rows),.row 1 (els x.Base.Scores),.row 9 (els x.Base.Bodies),.row 1 (els x.Now.Level.Rows),.row 1 (els x.Now.Scores),.row 9 (els x.Now.Bodies),.row 1 (els x.Used),.row 2 (els x.Saves)]⟩:St)) (Xv [0,1,2,3,4,5,6,7,8,9,10,11] (by decide) J ((by kernel_rfl)) (.c J (.c J (.c J (.c J (.nil)))))) ?_;refine Wz [75,4,173,14] ?_;refine AL.weak (st':=(⟨49,[(1,.o (.c (.ptr 0 0))),(2,.o (.c (.ptr 1 0))),(3,.o (.c (.ptr 2 0))),(43,.o (.c (.ref 12))),(45,L x.Sums)],[.box (pD x),.box zP,.box (pX x (.ref 3) (.ref 4) (.ref 5) (.ref 6) (.ref 7) (.ref 8) (.ref 9) (.ref 10) (.ref 11) (sr x.Sums)),.row 1 (els x.Tracks),.row 1 (els x.Base.Level.Rows),.row 1 (els x.Base.Scores),.row 9 (els x.Base.Bodies),.row 1 (els x.Now.Level.Rows),.row 1 (els x.Now.Scores),.row 9 (els x.Now.Bodies),.row 1 (els x.Used),.row 2 (els x.Saves),.row 1 []]⟩:St)) (Xv [0,1,2,3,4,5,6,7,8,9,10,11,12] (by decide) J ((by kernel_rfl)) (.c J (.c J (.c J (.c J (.c J (.nil))))))) ?_
 have hlm:=X6 x.Sums
 refine M_app J J J J J J J J J J (X7 _) (X5 _) (by omega) (by omega) ?_;refine AL.weak (st':=(⟨49,[(1,.o (.c (.ptr 0 0))),(2,.o (.c (.ptr 1 0))),(3,.o (.c (.ptr 2 0))),(46,.o (.c (.ref 12)))],[.box (pD x),.box zP,.box (pX x (.ref 3) (.ref 4) (.ref 5) (.ref 6) (.ref 7) (.ref 8) (.ref 9) (.ref 10) (.ref 11) (sr x.Sums)),.row 1 (els x.Tracks),.row 1 (els x.Base.Level.Rows),.row 1 (els x.Base.Scores),.row 9 (els x.Base.Bodies),.row 1 (els x.Now.Level.Rows),.row 1 (els x.Now.Scores),.row 9 (els x.Now.Bodies),.row 1 (els x.Used),.row 2 (els x.Saves),.row 1 (els x.Sums)]⟩:St)) (Xv [0,1,2,3,4,5,6,7,8,9,10,11,12] (by decide) J ((by kernel_rfl)) (.c J (.c J (.c J (.c J (.nil)))))) ?_;refine Wz [127] ?_;refine AL.weak (st':=(⟨49,[(1,.o (.c (.ptr 0 0))),(2,.o (.c (.ptr 1 0))),(3,.o (.c (.ptr 2 0)))],[.box (pD x),.box zP,.box (pX x (.ref 3) (.ref 4) (.ref 5) (.ref 6) (.ref 7) (.ref 8) (.ref 9) (.ref 10) (.ref 11) (.ref 12)),.row 1 (els x.Tracks),.row 1 (els x.Base.Level.Rows),.row 1 (els x.Base.Scores),.row 9 (els x.Base.Bodies),.row 1 (els x.Now.Level.Rows),.row 1 (els x.Now.Scores),.row 9 (els x.Now.Bodies),.row 1 (els x.Used),.row 2 (els x.Saves),.row 1 (els x.Sums)]⟩:St)) (Xv [0,1,2,3,4,5,6,7,8,9,10,11,12] (by decide) J ((by kernel_rfl)) (.c J (.c J (.c J (.nil))))) ?_;refine Wz [1] ?_
 repeat (first | refine Qd ?_ | refine Qh ?_ | refine Qk ?_ | refine Qz ?_)
 refine Wz [16,71] ?_;refine AL.weak (st':=(⟨49,[(1,.o (.c (.ptr 0 0))),(2,.o (.c (.ptr 1 0))),(3,.o (.c (.ptr 2 0))),(48,.o (.ag (pX x (.ref 3) (.ref 4) (.ref 5) (.ref 6) (.ref 7) (.ref 8) (.ref 9) (.ref 10) (.ref 11) (.ref 12))))],[.box (pD x),.box zP,.box (pX x (.ref 3) (.ref 4) (.ref 5) (.ref 6) (.ref 7) (.ref 8) (.ref 9) (.ref 10) (.ref 11) (.ref 12)),.row 1 (els x.Tracks),.row 1 (els x.Base.Level.Rows),.row 1 (els x.Base.Scores),.row 9 (els x.Base.Bodies),.row 1 (els x.Now.Level.Rows),.row 1 (els x.Now.Scores),.row 9 (els x.Now.Bodies),.row 1 (els x.Used),.row 2 (els x.Saves),.row 1 (els x.Sums)]⟩:St)) (Xv [0,1,2,3,4,5,6,7,8,9,10,11,12] (by decide) J ((by kernel_rfl)) (.c J (.c J (.c J (.c J (.nil)))))) ?_;refine Qy J J J J J J J J J ?_;refine AL.weak (st':=(⟨49,[(1,.o (.c (.ptr 0 0))),(2,.o (.c (.ptr 1 0)))],[.box (pD x),.box (pX x (.ref 2) (.ref 3) (.ref 4) (.ref 5) (.ref 6) (.ref 7) (.ref 8) (.ref 9) (.ref 10) (.ref 11)),.row 1 (els x.Tracks),.row 1 (els x.Base.Level.Rows),.row 1 (els x.Base.Scores),.row 9 (els x.Base.Bodies),.row 1 (els x.Now.Level.Rows),.row 1 (els x.Now.Scores),.row 9 (els x.Now.Bodies),.row 1 (els x.Used),.row 2 (els x.Saves),.row 1 (els x.Sums)]⟩:St)) (Xv [0,1,3,4,5,6,7,8,9,10,11,12] (by decide) J ((by kernel_rfl)) (.c J (.c J (.nil)))) ?_;refine Wz [1,68] ?_
 exact Xh (cs:=pC x 2 3 4 5 6 7 8 9 10 11) J J J J (Xt [2,3,4,5,6,7,8,9,10,11] (by decide) J (by kernel_rfl) (by kernel_rfl))
end
end Go.Proofs.YtoecjaohdnoenaaGreat
