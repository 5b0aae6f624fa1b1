/-
  Rules, data and contracts of functions: part 24 of the proof.
  Conditions: those that each theorem names.
-/
import Derived.Test.YtfklmiijhcajdaaGreatDDTellRowk22
set_option linter.unusedSimpArgs false
set_option linter.unusedVariables false
set_option maxRecDepth 8000
set_option maxHeartbeats 8000000
namespace Go.Proofs.YtfklmiijhcajdaaGreat
section
open Go.RowKit

theorem Yk {α:Type} [Enc α] {xs:List α} {k:Nat} (h:k<xs.length):els (xs.take (k+1))=els (xs.take k) ++ [Enc.e xs[k]]:=by
 rw[Gxk h]
 exact List.map_append
theorem Xp (xs:List Int) (hL:xs.length≤1048576):Con Tryz.prog 191 [] [al xs] [.row 1 (els xs)] (Aqg 0):=by
 have hlx:=Yi xs
 refine Con.of Tryz.func191 J Tryz.ntmps191 J (fun E => ?_)
 refine Wz [12,10] ?_;refine M_appnil J J J J J J J J (Yj _) (Yh _) Aqa Aqa  ?_;refine Wz [53] ?_
 exact Xl J J (X1 [0] Aqc J J J)
theorem I_copyRows (xs:List (List Int)) (hg:Enc.gd xs) (hL:xs.length≤1048576) (hr:∀ r∈xs,r.length≤1048576):Con Tryz.prog 132 [] [al xs] [.row 1 (els xs)] (Aqg 0):=by
 have hlx:=Yi xs
 refine Con.of Tryz.func132 J Tryz.ntmps132 J (fun E => ?_)
 refine Wz [12,105,97] ?_
 refine AWP.pre ?_ (W_nil 3 1 J)
 refine Xh (fun m st=>∃ k:Nat,k+m=xs.length∧(True)∧st=(⟨_,[(3,Aqg 0),(6,L xs),(7,I (els xs).length),(8,I k)],[.row 1 (els (xs.take k))]⟩:St)) (xs.length) ⟨_,⟨0,Aqa,trivial,J⟩,X3 [0] Aqb⟩ ?_
 rintro m_A _ ⟨k,hk_A,hp_A,rfl⟩
 have hl2:(els (xs.take k)).length=k:=by rw[Yi]; simp; omega
 refine Wz [3,38,17] ?_
 refine Xb J (fun h => ?_) (fun h => ?_)
 ·have h3:k<xs.length:=by have:=Gqc h; omega
  have hat:=Yg h3
  refine Wz [7,3,80,2,63] ?_;refine M1 (Zs J J (Xp xs[k] (hr _ (Gqe h3))) J J J) J J ?_;refine Wz [138,131,32,85,50,57,18,0,6] ?_
  exact⟨xs.length-(k+1),Aqa,(fun k:Nat=>(⟨_,[(3,Aqg 0),(6,L xs),(7,I (els xs).length),(8,I k)],[.row 1 (els (xs.take k))]⟩:St)) (k+1),⟨k+1,Aqa,trivial,J⟩,X4 [0] Aqc J (Kj (Yk h3)) (.c J (.c J (.c J (.c J (.nil)))))⟩
 ·have h3:¬((k:Int)<(els xs).length):=Gqd h
  have hk:xs.take k=xs:=Gqh Aqa 
  refine Wz [31] ?_
  exact Xl J J (X1 [0] Aqc J (Kj (by rw[hk])) J)
section
variable {P:Program} {ops:Array Oper} {o:Oper} {st:St} {m:Nat} {t e:TypeId} {y z:Operand} {zs:List Value} {by_:Nat}
theorem q_appz0 {ps:List Nat} {q kk:Nat} [hm:TyMake P t e zs by_] (ho:o.op = .call { callee := .builtin .append,args:=#[y,z],argTypes:=#[t,t] }) (hg:o.guard=none) (hy:st.ev y = .o (.c (.sb q 0 kk))) (hz:st.ev z = .o (.c (.rd ps (.sl kk [])))) (hkz:kk=zs.length) (hz0:zs.isEmpty=false):Qt P ops o st (.o (.c (.sb q 0 kk))) [] m :=
 .pure hg fun a w H F hr=>by
  have hzn:zs ≠ []:=by intro e; rw[e] at hz0; cases hz0
  subst hkz
  obtain⟨g,tt,vs,b1,b2,b3,b4⟩:=hr.v1 hy
  have h7:=src_any (P:=P) (t:=t) (e:=e) (by_:=by_) (kk:=zs.length) hr rfl hzn (hr.v1 hz) (es' := []) rfl (fun e he=>by simp at he) (fun e he=>by simp at he)
  obtain⟨i,hi,hzz⟩:=Option.map_eq_some_iff.1 hm.info
  simp only[Prod.mk.injEq] at hzz
  have h8:Src P i.size t (a.eval z) 0 [] w:=by rw[hzz.2.1]; simpa[flatV] using h7
  refine⟨a.eval y,Yq ho ?_,hr.v1 hy⟩
  rw[b4]
  exact run_append_room_src (P:=P) w t t o.type e i hm.slice hi g 0 0 0 (a.eval z) 0 [] h8 (Gqk _) Aqd Aqd 
end
end
section
open Go.RowKit


@[reducible] def pX (x:TPeer) (a b c d e f g h i j:V1):List V1 := [jn x.Me,jn x.Delay,jn x.Ahead,jn x.Seed,a,b,jn x.Base.Tick,jn x.Base.Seed,c,d,e,jn x.Now.Tick,jn x.Now.Seed,f,g,h,i,j,jn x.Fault.Tick,jn x.Fault.Player,jn x.Fault.Add,jn x.Rolls,jn x.Again]
@[reducible] def pC (x:TPeer) (a b c d e f g h i j:Nat):List V1:=pX x (.ref a) (.ref b) (.ref c) (.ref d) (.ref e) (.ref f) (.ref g) (.ref h) (.ref i) (.ref j)
@[reducible] def wR (w:TWorld) (l:List Ob):List Ob := .row 1 (els w.Level.Rows) :: .row 1 (els w.Scores) :: .row 9 (els w.Bodies)::l
@[reducible] def pR (x:TPeer) (l:List Ob):List Ob := .row 1 (els x.Tracks)::wR x.Base (wR x.Now (.row 1 (els x.Used) :: .row 2 (els x.Saves) :: .row 1 (els x.Sums)::l))
@[reducible] def sr {α:Type} [Enc α] (xs:List α):V1 := .rd [] (sl xs)
@[reducible] def pD (x:TPeer):List V1:=pX x (sr x.Tracks) (sr x.Base.Level.Rows) (sr x.Base.Scores) (sr x.Base.Bodies) (sr x.Now.Level.Rows) (sr x.Now.Scores) (sr x.Now.Bodies) (sr x.Used) (sr x.Saves) (sr x.Sums)
@[reducible] def wD (w:TWorld):List V1 := [sr w.Level.Rows,jn w.Tick,jn w.Seed,sr w.Scores,sr w.Bodies]
@[reducible] def nv:V1 := .rd [] (.v (.slice none 0 0))
structure PeerIn (x:TPeer):Prop where
 gd:Enc.gd x
 tr:x.Tracks.length≤1048576∧∀ t∈x.Tracks,t.Inputs.length≤1048576
 bw:x.Base.Level.Rows.length≤1048576∧x.Base.Scores.length≤1048576∧x.Base.Bodies.length≤1048576
 nw:x.Now.Level.Rows.length≤1048576∧x.Now.Scores.length≤1048576∧x.Now.Bodies.length≤1048576
 us:x.Used.length≤1048576∧∀ r∈x.Used,r.length≤1048576
 sv:x.Saves.length≤1048576
 sm:x.Sums.length≤1048576
instance:PlainE TSave:=⟨fun x t h=>by
 have h2:t ∈ [T.v (.int .i64 x.Tick),T.v (.string x.Delta)]:=h
 simp only[List.mem_cons,Gxs,or_false] at h2
 rcases h2 with rfl | rfl <;> exact⟨_,rfl⟩⟩
theorem I_copyTrack (t:TTrack) (hL:t.Inputs.length≤1048576):Con Tryz.prog 300 [] [ag t] [.row 1 (els t.Inputs)] (.o (.ag [.ref 0])):=by
 refine Con.of Tryz.func300 J Tryz.ntmps300 J (fun E => ?_)
 refine Wz [76,52,23] ?_;refine M1 (Zs J J (Xp t.Inputs hL) J J J) J J ?_;refine Wz [185,48,49] ?_
 exact Xk J J J J (X1 [2] Aqc J J J)
theorem I_copyTracks (xs:List TTrack) (hL:xs.length≤1048576) (hr:∀ t∈xs,t.Inputs.length≤1048576):Con Tryz.prog 229 [] [al xs] [.row 1 (els xs)] (Aqg 0):=by
 have hlx:=Yi xs
 refine Con.of Tryz.func229 J Tryz.ntmps229 J (fun E => ?_)
 refine Wz [12,105,97] ?_
 refine AWP.pre ?_ (W_nil 3 1 J)
 refine Xh (fun m st=>∃ k:Nat,k+m=xs.length∧(True)∧st=(⟨_,[(3,Aqg 0),(6,L xs),(7,I (els xs).length),(8,I k)],[.row 1 (els (xs.take k))]⟩:St)) (xs.length) ⟨_,⟨0,Aqa,trivial,J⟩,X3 [0] Aqb⟩ ?_
 rintro m_A _ ⟨k,hk_A,hp_A,rfl⟩
 have hl2:(els (xs.take k)).length=k:=by rw[Yi]; simp; omega
 refine Wz [3,38,17] ?_
 refine Xb J (fun h => ?_) (fun h => ?_)
 ·have h3:k<xs.length:=by have:=Gqc h; omega
  have hat:=Yg h3
  refine Wz [7,3,46,36,48,94,37] ?_;refine M1 (Zs J J (I_copyTrack xs[k] (hr _ (Gqe h3))) J J J) J J ?_;refine Wz [138,131,32,85,50,57,18,0,6] ?_
  exact⟨xs.length-(k+1),Aqa,(fun k:Nat=>(⟨_,[(3,Aqg 0),(6,L xs),(7,I (els xs).length),(8,I k)],[.row 1 (els (xs.take k))]⟩:St)) (k+1),⟨k+1,Aqa,trivial,J⟩,X4 [0] Aqc J (Kj (Yk h3)) (.c J (.c J (.c J (.c J (.nil)))))⟩
 ·have h3:¬((k:Int)<(els xs).length):=Gqd h
  have hk:xs.take k=xs:=Gqh Aqa 
  refine Wz [31] ?_
  exact Xl J J (X1 [0] Aqc J (Kj (by rw[hk])) J)
@[reducible] def zP:List V1 := [jn 0,jn 0,jn 0,jn 0,nv,nv,jn 0,jn 0,nv,nv,nv,jn 0,jn 0,nv,nv,nv,nv,nv,jn 0,jn 0,jn 0,jn 0,jn 0]
theorem I_copyPeer (x:TPeer) (h:PeerIn x):Con Tryz.prog 133 [] [ag x] (pR x []) (.o (.ag (pC x 0 1 2 3 4 5 6 7 8 9))):=by
 obtain⟨_,_,_,_,gT,gB,gN,gU,gS,gM,gF,_,_⟩:=h.gd
 have hls:=Yi x.Saves
 have hsv:=h.sv
 have c1:=I_copyTracks x.Tracks h.tr.1 h.tr.2
 have c2:=I_copyWorld x.Base gB h.bw.1 h.bw.2.1 h.bw.2.2
 have c3:=I_copyWorld x.Now gN h.nw.1 h.nw.2.1 h.nw.2.2
 have c4:=I_copyRows x.Used gU (by have:=h.us.1; omega) h.us.2
 have c5:=Xp x.Sums h.sm
 refine Con.of Tryz.func133 J Tryz.ntmps133 J (fun E => ?_)
 refine Wz [76,52,23] ?_;refine AL.weak (st':=(⟨_,[(1,Aqf 0),(2,Aqf 1),(4,L x.Tracks)],[.box (pX x (sr x.Tracks) (sr x.Base.Level.Rows) (sr x.Base.Scores) (sr x.Base.Bodies) (sr x.Now.Level.Rows) (sr x.Now.Scores) (sr x.Now.Bodies) (sr x.Used) (sr x.Saves) (sr x.Sums)),.box zP]⟩:St)) (X4 [0,1] Aqc J ( Aqb) (.c J (.c J (.c J (.nil))))) ?_;refine M1 (Zs J J (c1) J J J) J J ?_;refine Wz [30,152] ?_;refine AL.weak (st':=(⟨_,[(1,Aqf 0),(2,Aqf 1),(8,.o (.ag (wD x.Base)))],[.box (pX x (.ref 2) (sr x.Base.Level.Rows) (sr x.Base.Scores) (sr x.Base.Bodies) (sr x.Now.Level.Rows) (sr x.Now.Scores) (sr x.Now.Bodies) (sr x.Used) (sr x.Saves) (sr x.Sums)),.box zP,.row 1 (els x.Tracks)]⟩:St)) (X4 [0,1,2] Aqc J ( Aqb) (.c J (.c J (.c J (.nil))))) ?_;refine M1 (Zs J J (c2) J J J) J J ?_;refine Wz [55,48,152] ?_;refine AL.weak (st':=(⟨_,[(1,Aqf 0),(2,Aqf 1),(12,.o (.ag (wD x.Now)))],[.box (pX x (.ref 2) (.ref 3) (.ref 4) (.ref 5) (sr x.Now.Level.Rows) (sr x.Now.Scores) (sr x.Now.Bodies) (sr x.Used) (sr x.Saves) (sr x.Sums)),.box zP,.row 1 (els x.Tracks),.row 1 (els x.Base.Level.Rows),.row 1 (els x.Base.Scores),.row 9 (els x.Base.Bodies)]⟩:St)) (X4 [0,1,2,3,4,5] Aqc J ( Aqb) (.c J (.c J (.c J (.nil))))) ?_;refine M1 (Zs J J (c3) J J J) J J ?_;refine Wz [55,48,23] ?_;refine AL.weak (st':=(⟨_,[(1,Aqf 0),(2,Aqf 1),(16,L x.Used)],[.box (pX x (.ref 2) (.ref 3) (.ref 4) (.ref 5) (.ref 6) (.ref 7) (.ref 8) (sr x.Used) (sr x.Saves) (sr x.Sums)),.box zP,.row 1 (els x.Tracks),.row 1 (els x.Base.Level.Rows),.row 1 (els x.Base.Scores),.row 9 (els x.Base.Bodies),.row 1 (els x.Now.Level.Rows),.row 1 (els x.Now.Scores),.row 9 (els x.Now.Bodies)]⟩:St)) (X4 [0,1,2,3,4,5,6,7,8] Aqc J ( Aqb) (.c J (.c J (.c J (.nil))))) ?_;refine M1 (Zs J J (c4) J J J) J J ?_;refine Wz [45] ?_;refine M_appnil J J J J J J J J (Yj _) (Yh _) Aqa Aqa  ?_;refine Wz [45] ?_;refine AL.weak (st':=(⟨_,[(1,Aqf 0),(2,Aqf 1),(24,L x.Sums)],[.box (pX x (.ref 2) (.ref 3) (.ref 4) (.ref 5) (.ref 6) (.ref 7) (.ref 8) (.ref 9) (.ref 10) (sr x.Sums)),.box zP,.row 1 (els x.Tracks),.row 1 (els x.Base.Level.Rows),.row 1 (els x.Base.Scores),.row 9 (els x.Base.Bodies),.row 1 (els x.Now.Level.Rows),.row 1 (els x.Now.Scores),.row 9 (els x.Now.Bodies),.row 1 (els x.Used),.row 2 (els x.Saves)]⟩:St)) (X4 [0,1,2,3,4,5,6,7,8,9,10] Aqc J ( Aqb) (.c J (.c J (.c J (.nil))))) ?_;refine M1 (Zs J J (c5) J J J) J J ?_;refine AL.weak (st':=(⟨_,[(1,Aqf 0),(2,Aqf 1),(25,Aqg 11)],[.box (pX x (.ref 2) (.ref 3) (.ref 4) (.ref 5) (.ref 6) (.ref 7) (.ref 8) (.ref 9) (.ref 10) (sr x.Sums)),.box (zP),.row 1 (els x.Tracks),.row 1 (els x.Base.Level.Rows),.row 1 (els x.Base.Scores),.row 9 (els x.Base.Bodies),.row 1 (els x.Now.Level.Rows),.row 1 (els x.Now.Scores),.row 9 (els x.Now.Bodies),.row 1 (els x.Used),.row 2 (els x.Saves),.row 1 (els x.Sums)]⟩:St)) (X4 [0,1,2,3,4,5,6,7,8,9,10,11] Aqc J ( Aqb) (.c J (.c J (.c J (.nil))))) ?_;refine Wz [30,3] ?_;refine AL.weak (st':=(⟨_,[(1,Aqf 0),(2,Aqf 1)],[.box (pX x (.ref 2) (.ref 3) (.ref 4) (.ref 5) (.ref 6) (.ref 7) (.ref 8) (.ref 9) (.ref 10) (.ref 11)),.box (zP),.row 1 (els x.Tracks),.row 1 (els x.Base.Level.Rows),.row 1 (els x.Base.Scores),.row 9 (els x.Base.Bodies),.row 1 (els x.Now.Level.Rows),.row 1 (els x.Now.Scores),.row 9 (els x.Now.Bodies),.row 1 (els x.Used),.row 2 (els x.Saves),.row 1 (els x.Sums)]⟩:St)) (X4 [0,1,2,3,4,5,6,7,8,9,10,11] Aqc J ( Aqb) (.c J (.c J (.nil)))) ?_;refine z4 J J J ?_;refine AL.weak (st':=(⟨_,[(1,Aqf 0),(2,Aqf 1),(27,.o (.ag (pC x 2 3 4 5 6 7 8 9 10 11)))],[.box (pX x (.ref 2) (.ref 3) (.ref 4) (.ref 5) (.ref 6) (.ref 7) (.ref 8) (.ref 9) (.ref 10) (.ref 11)),.box (zP),.row 1 (els x.Tracks),.row 1 (els x.Base.Level.Rows),.row 1 (els x.Base.Scores),.row 9 (els x.Base.Bodies),.row 1 (els x.Now.Level.Rows),.row 1 (els x.Now.Scores),.row 9 (els x.Now.Bodies),.row 1 (els x.Used),.row 2 (els x.Saves),.row 1 (els x.Sums)]⟩:St)) (X4 [0,1,2,3,4,5,6,7,8,9,10,11] Aqc J ( Aqb) (.c J (.c J (.c J (.nil))))) ?_;refine Qy J J J J J J J J J ?_;refine AL.weak (st':=(⟨_,[(1,Aqf 0),(2,Aqf 1)],[.box (pX x (.ref 2) (.ref 3) (.ref 4) (.ref 5) (.ref 6) (.ref 7) (.ref 8) (.ref 9) (.ref 10) (.ref 11)),.box (pC x 2 3 4 5 6 7 8 9 10 11),.row 1 (els x.Tracks),.row 1 (els x.Base.Level.Rows),.row 1 (els x.Base.Scores),.row 9 (els x.Base.Bodies),.row 1 (els x.Now.Level.Rows),.row 1 (els x.Now.Scores),.row 9 (els x.Now.Bodies),.row 1 (els x.Used),.row 2 (els x.Saves),.row 1 (els x.Sums)]⟩:St)) (X4 [0,1,2,3,4,5,6,7,8,9,10,11] Aqc J ( Aqb) (.c J (.c J (.nil)))) ?_;refine Wz [6,49] ?_
 exact Xk (cs:=pC x 2 3 4 5 6 7 8 9 10 11) J J J J (X1 [2,3,4,5,6,7,8,9,10,11] Aqc J Aqb Aqb)
end
section
open Go.RowKit

section
variable {P:Program} {ops:Array Oper} {o:Oper} {st:St} {m:Nat} {t e:TypeId} {y z:Operand} {zs:List Value} {by_:Nat}
theorem q_appn {ps qs:List Nat} {kk:Nat} {es':List (List T)} [hm:TyMake P t e zs by_] (ho:o.op = .call { callee := .builtin .append,args:=#[y,z],argTypes:=#[t,t] }) (hg:o.guard=none) (hy:st.ev y = .o (.c (.rd qs (.v (.slice none 0 0))))) (hz:st.ev z = .o (.c (.rd ps (.sl kk es')))) (hkz:kk=zs.length) (hz0:zs.isEmpty=false)
  (hpl:plainT es') (hkk:∀ e∈es',e.length=kk) (hb:es'.length*by_≤140737488355328) (h63:es'.length≤9223372036854775807):Qt P ops o st (.o (.c (.ref m))) [.row kk es'] m :=
 .new hg fun a w H F hr hn=>by
  have hzn:zs ≠ []:=by intro e; rw[e] at hz0; cases hz0
  subst hkz
  have hv:=hr.plain hy
  have hs:srcOf st.objs (.rd ps (.sl zs.length es'))=some es':=rfl
  obtain⟨v',w',fp'',hr1,h3,h4,h5,h6⟩:=Yb (P:=P) (o:=o) (t:=t) (kk:=zs.length) (es := []) hr (OW.nil _) List.nodup_nil rfl hzn (hr.v1 hz) hs hpl hkk (by simpa using hb) (by simpa using h63)
  have hbel:Below w.heap.size w w':=⟨h6.os,h6.tape,h6.output,h6.size,fun b hb=>h6.block b hb Aqd⟩
  refine⟨v',w',.ow (.sl zs.length es') v' fp'',?_,hbel,h3,⟨h4,trivial⟩,fun b hb=>(h5 b hb).resolve_left Aqd,fun H' hgr hq=>⟨⟨_,_,hq⟩,_,_,hq⟩⟩
  exact Yq ho (by rw[hv]; exact hr1)
end
instance:PlainE TFlight:=⟨fun x t h=>by
 have h2:t ∈ [T.v (.int .i64 x.At),T.v (.string x.Data)]:=h
 simp only[List.mem_cons,Gxs,or_false] at h2
 rcases h2 with rfl | rfl <;> exact⟨_,rfl⟩⟩
instance:PlainE TPace:=⟨fun x t h=>by
 have h2:t ∈ [T.v (.int .i64 x.Newest),T.v (.int .i64 x.Their),T.v (.int .i64 x.At),T.v (.int .i64 x.Trip),T.v (.int .i64 x.Samples)]:=h
 simp only[List.mem_cons,Gxs,or_false] at h2
 rcases h2 with rfl | rfl | rfl | rfl | rfl <;> exact⟨_,rfl⟩⟩
@[reducible] def mD (x:TMatch):List V1:=mX x (sr x.Level.Rows) (sr x.Scripts) (sr x.Peers) (sr x.Wires) (sr x.Paces) (sr x.Acks) (sr x.Watchers) (sr x.Lines) (sr x.Alarms)
@[reducible] def zM:List V1 := [nv,jn 0,jn 0,nv,nv,nv,nv,nv,jn 0,nv,nv,nv,jn 0]
@[reducible] def wX (w:TWire) (a:V1):List V1 := [jn w.Seed,jn w.Delay,jn w.Jitter,jn w.Loss,jn w.Copies,jn w.Damage,jn w.Now,a,jn w.Sent,jn w.Lost]
theorem sp_in {s:TSpectator} (h:Enc.wt s≤1048576):s.World.Level.Rows.length≤1048576∧s.World.Scores.length≤1048576∧s.World.Bodies.length≤1048576:=by
 have hw:Enc.wt s=(s.World.Level.Rows.length+wts s.World.Level.Rows)+(s.World.Scores.length+wts s.World.Scores)+(s.World.Bodies.length+wts s.World.Bodies):=rfl
 omega
structure MatchIn (x:TMatch):Prop where
 gd:Enc.gd x
 wt:Enc.wt x≤1048576
theorem Yy {α:Type} [Enc α] {xs:List α} {n:Nat} (h:Enc.wt xs≤n):xs.length≤n∧∀ x∈xs,Enc.wt x≤n:=by
 have hw:Enc.wt xs=xs.length+wts xs:=rfl
 exact⟨Aqa,fun x hx=>by have:=Kx xs x hx; omega⟩
structure MatchLe (x:TMatch):Prop where
 L:Enc.wt x.Level.Rows≤1048576
 S:Enc.wt x.Scripts≤1048576
 P:Enc.wt x.Peers≤1048576
 W:Enc.wt x.Wires≤1048576
 Q:Enc.wt x.Paces≤1048576
 A:Enc.wt x.Acks≤1048576
 V:Enc.wt x.Watchers≤1048576
 K:Enc.wt x.Lines≤1048576
 B:Enc.wt x.Alarms≤1048576
theorem MatchIn.le {x:TMatch} (h:MatchIn x):MatchLe x:=by
 have hw:Enc.wt x=Enc.wt x.Level.Rows+Enc.wt x.Scripts+Enc.wt x.Peers+Enc.wt x.Wires+Enc.wt x.Paces+Enc.wt x.Acks+Enc.wt x.Watchers+Enc.wt x.Lines+Enc.wt x.Alarms:=rfl
 have:=h.wt
 exact⟨Aqa,Aqa,Aqa,Aqa,Aqa,Aqa,Aqa,Aqa,Aqa⟩
theorem rows_in {xs:List (List Int)} (h:Enc.wt xs≤1048576):xs.length≤1048576∧∀ r∈xs,r.length≤1048576:=by
 obtain⟨a,b⟩:=Yy h
 exact⟨a,fun r hr=>(Yy (b r hr)).1⟩
theorem peer_in2 {x:TPeer} (g:Enc.gd x) (h:Enc.wt x≤1048576):PeerIn x:=by
 have hw:Enc.wt x=Enc.wt x.Tracks+(Enc.wt x.Base.Level.Rows+Enc.wt x.Base.Scores+Enc.wt x.Base.Bodies)+(Enc.wt x.Now.Level.Rows+Enc.wt x.Now.Scores+Enc.wt x.Now.Bodies)+Enc.wt x.Used+Enc.wt x.Saves+Enc.wt x.Sums+Enc.wt x.Fault:=rfl
 have a1:=Yy (xs:=x.Tracks) (n:=1048576) Aqa 
 have a2:=Yy (xs:=x.Base.Level.Rows) (n:=1048576) Aqa 
 have a3:=Yy (xs:=x.Base.Scores) (n:=1048576) Aqa 
 have a4:=Yy (xs:=x.Base.Bodies) (n:=1048576) Aqa 
 have a5:=Yy (xs:=x.Now.Level.Rows) (n:=1048576) Aqa 
 have a6:=Yy (xs:=x.Now.Scores) (n:=1048576) Aqa 
 have a7:=Yy (xs:=x.Now.Bodies) (n:=1048576) Aqa 
 have a8:=rows_in (xs:=x.Used) Aqa 
 have a9:=Yy (xs:=x.Saves) (n:=1048576) Aqa 
 have a10:=Yy (xs:=x.Sums) (n:=1048576) Aqa 
 exact⟨g,⟨a1.1,fun t ht=>(Yy (xs:=t.Inputs) (a1.2 t ht)).1⟩,⟨a2.1,a3.1,a4.1⟩,⟨a5.1,a6.1,a7.1⟩,a8,a9.1,a10.1⟩
theorem I_copyWire (w:TWire) (hL:Enc.wt w≤1048576):Con Tryz.prog 230 [] [ag w] [.row 2 (els w.Flights)] (.o (.ag (wX w (.ref 0)))):=by
 have hl:=Yi w.Flights
 have hw:Enc.wt w=w.Flights.length+wts w.Flights:=rfl
 refine Con.of Tryz.func230 J Tryz.ntmps230 J (fun E => ?_)
 refine Wz [76,52,23] ?_;refine M_appnil J J J J J J J J (Yj _) (Yh _) Aqa Aqa  ?_;refine Wz [30,100,49] ?_
 exact Xk J J J J (X1 [2] Aqc J J J)
theorem I_copyWires (xs:List TWire) (hL:Enc.wt xs≤1048576):Con Tryz.prog 134 [] [al xs] [.row 10 (els xs)] (Aqg 0):=by
 have hlx:=Yi xs
 obtain⟨l1,l2⟩:=Yy hL
 refine Con.of Tryz.func134 J Tryz.ntmps134 J (fun E => ?_)
 refine Wz [12,105,97] ?_
 refine AWP.pre ?_ (W_nil 3 10 J)
 refine Xh (fun m st=>∃ k:Nat,k+m=xs.length∧(True)∧st=(⟨_,[(3,Aqg 0),(6,L xs),(7,I (els xs).length),(8,I k)],[.row 10 (els (xs.take k))]⟩:St)) (xs.length) ⟨_,⟨0,Aqa,trivial,J⟩,X3 [0] Aqb⟩ ?_
 rintro m_A _ ⟨k,hk_A,hp_A,rfl⟩
 have hl2:(els (xs.take k)).length=k:=by rw[Yi]; simp; omega
 by_cases h3:k<xs.length
 ·have f3:decide ((k:Int)<((els xs).length:Int))=true:=Gqb Aqa 
  have hat:=Yg h3
  have hc:=I_copyWire xs[k] (l2 _ (Gqe h3))
  refine Wz [3,134,6,17,144,7,3,46,36,48,94,37] ?_;refine M1 (Zs J J (hc) J J J) J J ?_;refine Wz [138,131,32,85,50,57,18,0,6] ?_
  exact⟨xs.length-(k+1),Aqa,(fun k:Nat=>(⟨_,[(3,Aqg 0),(6,L xs),(7,I (els xs).length),(8,I k)],[.row 10 (els (xs.take k))]⟩:St)) (k+1),⟨k+1,Aqa,trivial,J⟩,X4 [0] Aqc J (Kj (Yk h3)) (.c J (.c J (.c J (.c J (.nil)))))⟩
 ·have f3:decide ((k:Int)<((els xs).length:Int))=false:=Gqa Aqa 
  have hk:xs.take k=xs:=Gqh Aqa 
  refine Wz [3,134,6,17,106,31] ?_
  exact Xl J J (X1 [0] Aqc J (Kj (by rw[hk])) J)
theorem I_copyMatch (x:TMatch) (h:MatchIn x):Con Tryz.prog 55 [] [ag x] (mR x []) (.o (.ag (mC x 0))):=by
 obtain⟨gL,_,_,gS,gP,gW,gQ,gA,_,gV,gK,gB,_⟩:=h.gd
 have hle:=h.le
 have c1:=I_copyLevel x.Level gL (Yy hle.L).1
 have c2:=I_copyRows x.Scripts gS (rows_in hle.S).1 (rows_in hle.S).2
 have c3:=I_copyRows x.Acks gA (rows_in hle.A).1 (rows_in hle.A).2
 have cK:=I_copyWires x.Lines hle.K
 obtain⟨lP,wP⟩:=Yy hle.P
 obtain⟨lW,wW⟩:=Yy hle.W
 obtain⟨lQ,wQ⟩:=Yy hle.Q
 obtain⟨lV,wV⟩:=Yy hle.V
 obtain⟨lB,wB⟩:=Yy hle.B
 have eP:=Yi x.Peers
 have eW:=Yi x.Wires
 have eQ:=Yi x.Paces
 have eV:=Yi x.Watchers
 have eB:=Yi x.Alarms
 refine Con.of Tryz.func55 J Tryz.ntmps55 J (fun E => ?_)
 refine Wz [76,52,90,36,48,152] ?_;refine AL.weak (st':=(⟨120,[(1,Aqf 0),(2,Aqf 1),(3,Aqf 2),(16,.o (.ag [sr x.Level.Rows]))],[.box (mD x),.box zM,.box (mD x)]⟩:St)) (X4 [0,1,2] Aqc J ( Aqb) (.c J (.c J (.c J (.c J (.nil)))))) ?_;refine M1 (Zs J J (c1) J J J) J J ?_;refine Wz [55,48,23] ?_;refine AL.weak (st':=(⟨120,[(1,Aqf 0),(2,Aqf 1),(3,Aqf 2),(20,L x.Scripts)],[.box (mD x),.box zM,.box (mX x (.ref 3) (sr x.Scripts) (sr x.Peers) (sr x.Wires) (sr x.Paces) (sr x.Acks) (sr x.Watchers) (sr x.Lines) (sr x.Alarms)),.row 1 (els x.Level.Rows)]⟩:St)) (X4 [0,1,2,3] Aqc J ( Aqb) (.c J (.c J (.c J (.c J (.nil)))))) ?_;refine M1 (Zs J J (c2) J J J) J J ?_;refine Wz [45] ?_;refine AL.weak (st':=(⟨120,[(1,Aqf 0),(2,Aqf 1),(3,Aqf 2),(24,L x.Acks)],[.box (mD x),.box zM,.box (mX x (.ref 3) (.ref 4) (sr x.Peers) (sr x.Wires) (sr x.Paces) (sr x.Acks) (sr x.Watchers) (sr x.Lines) (sr x.Alarms)),.row 1 (els x.Level.Rows),.row 1 (els x.Scripts)]⟩:St)) (X4 [0,1,2,3,4] Aqc J ( Aqb) (.c J (.c J (.c J (.c J (.nil)))))) ?_;refine M1 (Zs J J (c3) J J J) J J ?_;refine Wz [30,3,30,34,117,97] ?_
 refine AWP.pre ?_ (Wk.nilbox (p:=2) (i:=4) 23 J J)
 refine Xh (fun m st=>∃ k:Nat,k+m=x.Peers.length∧(True)∧st=(⟨120,[(1,Aqf 0),(2,Aqf 1),(3,Aqf 2),(29,L x.Peers),(30,I (els x.Peers).length),(31,I k)],[.box (mD x),.box zM,.box (mX x (.ref 3) (.ref 4) (.ref 6) (sr x.Wires) (sr x.Paces) (.ref 5) (sr x.Watchers) (sr x.Lines) (sr x.Alarms)),.row 1 (els x.Level.Rows),.row 1 (els x.Scripts),.row 1 (els x.Acks),.row 23 (els (x.Peers.take k))]⟩:St)) (x.Peers.length) ⟨_,⟨0,Aqa,trivial,J⟩,X3 [0,1,2,3,4,5,6] Aqb⟩ ?_
 rintro m_A _ ⟨k,hk_A,hp_A,rfl⟩
 have hl2:(els (x.Peers.take k)).length=k:=by rw[Yi]; simp; omega
 refine Wz [3,38,17] ?_
 refine Xb J (fun h => ?_) (fun h => ?_)
 ·have h3:k<x.Peers.length:=by have:=Gqc h; omega
  have hat:=Yg h3
  have hm:=Gqe h3
  have hsn:=Yk h3
  generalize x.Peers[k]=u at hat hm hsn
  repeat (first | refine Qd ?_ | refine Qh ?_ | refine Qk ?_ | refine Q0 ?_)
  refine Wz [57,46] ?_;refine AL.weak (st':=(⟨120,[(1,Aqf 0),(2,Aqf 1),(3,Aqf 2),(29,L x.Peers),(30,I (els x.Peers).length),(31,I k),(34,.o (.ag (Aqi u)))],[.box (mD x),.box zM,.box (mX x (.ref 3) (.ref 4) (.ref 6) (sr x.Wires) (sr x.Paces) (.ref 5) (sr x.Watchers) (sr x.Lines) (sr x.Alarms)),.row 1 (els x.Level.Rows),.row 1 (els x.Scripts),.row 1 (els x.Acks),.row 23 (els (x.Peers.take k))]⟩:St)) (X4 [0,1,2,3,4,5,6] Aqc J Aqb (.c J (.c J (.c J (.c J (.c J (.c J (.cons Aqb (.nil))))))))) ?_;refine Wz [36,136] ?_;refine AL.weak (st':=(⟨120,[(1,Aqf 0),(2,Aqf 1),(3,Aqf 2),(29,L x.Peers),(30,I (els x.Peers).length),(31,I k),(5,Aqf 7)],[.box (mD x),.box zM,.box (mX x (.ref 3) (.ref 4) (.ref 6) (sr x.Wires) (sr x.Paces) (.ref 5) (sr x.Watchers) (sr x.Lines) (sr x.Alarms)),.row 1 (els x.Level.Rows),.row 1 (els x.Scripts),.row 1 (els x.Acks),.row 23 (els (x.Peers.take k)),.box (Aqi u)]⟩:St)) (X4 [0,1,2,3,4,5,6,7] Aqc J ( Aqb) (.c J (.c J (.c J (.c J (.c J (.c J (.c J (.nil))))))))) ?_
  have cP:=I_copyPeer u (peer_in2 (gP.2 u hm) (wP u hm))
  refine Wz [6] ?_
  refine AWP.pre (st':=(⟨120,[(1,Aqf 0),(2,Aqf 1),(3,Aqf 2),(29,L x.Peers),(30,I (els x.Peers).length),(31,I k),(5,Aqf 7)],[.box (mD x),.box zM,.box (mX x (.ref 3) (.ref 4) (.ref 6) (sr x.Wires) (sr x.Paces) (.ref 5) (sr x.Watchers) (sr x.Lines) (sr x.Alarms)),.row 1 (els x.Level.Rows),.row 1 (els x.Scripts),.row 1 (els x.Acks),.row 23 (els (x.Peers.take k)),.box (Aqi u)]⟩:St)) ?_ (X4 [0,1,2,3,4,5,6,7] Aqc J ( Aqb) (.c J (.c J (.c J (.c J (.c J (.c J (.c J (.nil)))))))))
  refine Xg u8_32 [[],[35],[],[37],[37,38],[35,36,37,38,39],[35,36,37,38,39,40],[35,36,37,38,39,40,41]] [[37,38,39],[37,38,39],[35,36],[35,36],[35,36],[],[],[]] J ?_;refine Wz [8,190] ?_;refine DR.s (Zs J J (cP) J J J) J J ?_;refine Wz [145,13] ?_;refine AL.weak (st':=(⟨120,[(1,Aqf 0),(2,Aqf 1),(3,Aqf 2),(29,L x.Peers),(30,I (els x.Peers).length),(31,I k),(36,Aqg 6),(39,.o (.c (.sb 17 1 23)))],[.box (mD x),.box zM,.box (mX x (.ref 3) (.ref 4) (.ref 6) (sr x.Wires) (sr x.Paces) (.ref 5) (sr x.Watchers) (sr x.Lines) (sr x.Alarms)),.row 1 (els x.Level.Rows),.row 1 (els x.Scripts),.row 1 (els x.Acks),.row 23 (els (x.Peers.take k)),.row 1 (els u.Tracks),.row 1 (els u.Base.Level.Rows),.row 1 (els u.Base.Scores),.row 9 (els u.Base.Bodies),.row 1 (els u.Now.Level.Rows),.row 1 (els u.Now.Scores),.row 9 (els u.Now.Bodies),.row 1 (els u.Used),.row 2 (els u.Saves),.row 1 (els u.Sums),.box (pC u 7 8 9 10 11 12 13 14 15 16)]⟩:St)) (X4 [0,1,2,3,4,5,6,8,9,10,11,12,13,14,15,16,17,18] Aqc J ( Aqb) (.c J (.c J (.c J (.c J (.c J (.c J (.c J (.c J (.nil)))))))))) ?_;refine Xv J J J J J J J J J J J J J J Aqa Aqa  ?_;refine AL.weak (st':=(⟨120,[(1,Aqf 0),(2,Aqf 1),(3,Aqf 2),(29,L x.Peers),(30,I (els x.Peers).length),(31,I k),(40,Aqg 6)],[.box (mD x),.box zM,.box (mX x (.ref 3) (.ref 4) .un (sr x.Wires) (sr x.Paces) (.ref 5) (sr x.Watchers) (sr x.Lines) (sr x.Alarms)),.row 1 (els x.Level.Rows),.row 1 (els x.Scripts),.row 1 (els x.Acks),.row 23 (els (x.Peers.take k) ++ [Enc.e u])]⟩:St)) (X4 [0,1,2,3,4,5,6] Aqc J ( Aqb) (.c J (.c J (.c J (.c J (.c J (.c J (.c J (.nil))))))))) ?_;refine Wz [132,85,50,57,18,0,6] ?_
  exact⟨x.Peers.length-(k+1),Aqa,_,⟨k+1,Aqa,trivial,J⟩,(by rw[hsn]; exact X3 [0,1,2,3,4,5,6] Aqb)⟩
 have h3:¬k<x.Peers.length:=by have:=Gqd h; omega
 have hk:x.Peers.take k=x.Peers:=Gqh Aqa 
 rw[hk]
 clear hl2 h3 h hk
 refine Wz [20,3,30,34,117,97] ?_
 refine AWP.pre ?_ (Wk.nilbox (p:=2) (i:=5) 1 J J)
 refine Xh (fun m st=>∃ k:Nat,k+m=x.Wires.length∧(True)∧st=(⟨120,[(1,Aqf 0),(2,Aqf 1),(3,Aqf 2),(45,L x.Wires),(46,I (els x.Wires).length),(47,I k)],[.box (mD x),.box zM,.box (mX x (.ref 3) (.ref 4) (.ref 6) (.ref 7) (sr x.Paces) (.ref 5) (sr x.Watchers) (sr x.Lines) (sr x.Alarms)),.row 1 (els x.Level.Rows),.row 1 (els x.Scripts),.row 1 (els x.Acks),.row 23 (els x.Peers),.row 1 (els (x.Wires.take k))]⟩:St)) (x.Wires.length) ⟨_,⟨0,Aqa,trivial,J⟩,X3 [0,1,2,3,4,5,6,7] Aqb⟩ ?_
 rintro m_B _ ⟨k,hk_B,hp_B,rfl⟩
 have hl2:(els (x.Wires.take k)).length=k:=by rw[Yi]; simp; omega
 refine Wz [3,38,17] ?_
 refine Xb J (fun h => ?_) (fun h => ?_)
 ·have h3:k<x.Wires.length:=by have:=Gqc h; omega
  have hat:=Yg h3
  have hm:=Gqe h3
  have hsn:=Yk h3
  generalize x.Wires[k]=u at hat hm hsn
  have cW:=I_copyWires u (wW u hm)
  refine Wz [7,3,80,2] ?_
  refine AWP.pre (st':=(⟨120,[(1,Aqf 0),(2,Aqf 1),(3,Aqf 2),(45,L x.Wires),(46,I (els x.Wires).length),(47,I k),(7,L u)],[.box (mD x),.box zM,.box (mX x (.ref 3) (.ref 4) (.ref 6) (.ref 7) (sr x.Paces) (.ref 5) (sr x.Watchers) (sr x.Lines) (sr x.Alarms)),.row 1 (els x.Level.Rows),.row 1 (els x.Scripts),.row 1 (els x.Acks),.row 23 (els x.Peers),.row 1 (els (x.Wires.take k))]⟩:St)) ?_ (X4 [0,1,2,3,4,5,6,7] Aqc J ( Aqb) (.c J (.c J (.c J (.c J (.c J (.c J (.c J (.nil)))))))))
  refine Xg u8_32 [[],[51],[],[53],[53,54],[51,52,53,54,55],[51,52,53,54,55,56],[51,52,53,54,55,56,57]] [[53,54,55],[53,54,55],[51,52],[51,52],[51,52],[],[],[]] J ?_;refine Wz [8,4] ?_;refine DR.s (Zs J J (cW) J J J) J J ?_;refine Wz [145,13,131,132,85,50,57,18,0,6] ?_
  exact⟨x.Wires.length-(k+1),Aqa,_,⟨k+1,Aqa,trivial,J⟩,(by rw[hsn]; exact X3 [0,1,2,3,4,5,6,7] Aqb)⟩
 have h3:¬k<x.Wires.length:=by have:=Gqd h; omega
 have hk:x.Wires.take k=x.Wires:=Gqh Aqa 
 rw[hk]
 clear hl2 h3 h hk
 refine Wz [20,23] ?_;refine M1 (Zs J J (cK) J J J) J J ?_;refine Wz [30,3,30,34,117,97] ?_
 refine AWP.pre ?_ (Wk.nilbox (p:=2) (i:=6) 1 J J)
 refine Xh (fun m st=>∃ k:Nat,k+m=x.Paces.length∧(True)∧st=(⟨120,[(1,Aqf 0),(2,Aqf 1),(3,Aqf 2),(65,L x.Paces),(66,I (els x.Paces).length),(67,I k)],[.box (mD x),.box zM,.box (mX x (.ref 3) (.ref 4) (.ref 6) (.ref 7) (.ref 9) (.ref 5) (sr x.Watchers) (.ref 8) (sr x.Alarms)),.row 1 (els x.Level.Rows),.row 1 (els x.Scripts),.row 1 (els x.Acks),.row 23 (els x.Peers),.row 1 (els x.Wires),.row 10 (els x.Lines),.row 1 (els (x.Paces.take k))]⟩:St)) (x.Paces.length) ⟨_,⟨0,Aqa,trivial,J⟩,X3 [0,1,2,3,4,5,6,7,8,9] Aqb⟩ ?_
 rintro m_C _ ⟨k,hk_C,hp_C,rfl⟩
 have hl2:(els (x.Paces.take k)).length=k:=by rw[Yi]; simp; omega
 refine Wz [3,38,17] ?_
 refine Xb J (fun h => ?_) (fun h => ?_)
 ·have h3:k<x.Paces.length:=by have:=Gqc h; omega
  have hat:=Yg h3
  have hm:=Gqe h3
  have hsn:=Yk h3
  generalize x.Paces[k]=u at hat hm hsn
  have hlu:=Yi u
  have hwu:=(Yy (wQ u hm)).1
  refine Wz [7,3,80,2] ?_
  refine AWP.pre (st':=(⟨120,[(1,Aqf 0),(2,Aqf 1),(3,Aqf 2),(65,L x.Paces),(66,I (els x.Paces).length),(67,I k),(9,L u)],[.box (mD x),.box zM,.box (mX x (.ref 3) (.ref 4) (.ref 6) (.ref 7) (.ref 9) (.ref 5) (sr x.Watchers) (.ref 8) (sr x.Alarms)),.row 1 (els x.Level.Rows),.row 1 (els x.Scripts),.row 1 (els x.Acks),.row 23 (els x.Peers),.row 1 (els x.Wires),.row 10 (els x.Lines),.row 1 (els (x.Paces.take k))]⟩:St)) ?_ (X4 [0,1,2,3,4,5,6,7,8,9] Aqc J ( Aqb) (.c J (.c J (.c J (.c J (.c J (.c J (.c J (.nil)))))))))
  refine Xg u8_32 [[],[71],[],[73],[73,74],[71,72,73,74,75],[71,72,73,74,75,76],[71,72,73,74,75,76,77]] [[73,74,75],[73,74,75],[71,72],[71,72],[71,72],[],[],[]] J ?_;refine Wz [8,4] ?_;refine DR.s (q_appn J J J J J J (Yj _) (Yh _) Aqa Aqa) J J ?_;refine Wz [145,13,131,132,85,50,57,18,0,6] ?_
  exact⟨x.Paces.length-(k+1),Aqa,_,⟨k+1,Aqa,trivial,J⟩,(by rw[hsn]; exact X3 [0,1,2,3,4,5,6,7,8,9] Aqb)⟩
 have h3:¬k<x.Paces.length:=by have:=Gqd h; omega
 have hk:x.Paces.take k=x.Paces:=Gqh Aqa 
 rw[hk]
 clear hl2 h3 h hk
 refine Wz [20,3,30,34,117,97] ?_
 refine AWP.pre ?_ (Wk.nilbox (p:=2) (i:=9) 6 J J)
 refine Xh (fun m st=>∃ k:Nat,k+m=x.Watchers.length∧(True)∧st=(⟨120,[(1,Aqf 0),(2,Aqf 1),(3,Aqf 2),(81,L x.Watchers),(82,I (els x.Watchers).length),(83,I k)],[.box (mD x),.box zM,.box (mX x (.ref 3) (.ref 4) (.ref 6) (.ref 7) (.ref 9) (.ref 5) (.ref 10) (.ref 8) (sr x.Alarms)),.row 1 (els x.Level.Rows),.row 1 (els x.Scripts),.row 1 (els x.Acks),.row 23 (els x.Peers),.row 1 (els x.Wires),.row 10 (els x.Lines),.row 1 (els x.Paces),.row 6 (els (x.Watchers.take k))]⟩:St)) (x.Watchers.length) ⟨_,⟨0,Aqa,trivial,J⟩,X3 [0,1,2,3,4,5,6,7,8,9,10] Aqb⟩ ?_
 rintro m_D _ ⟨k,hk_D,hp_D,rfl⟩
 have hl2:(els (x.Watchers.take k)).length=k:=by rw[Yi]; simp; omega
 refine Wz [3,38,17] ?_
 refine Xb J (fun h => ?_) (fun h => ?_)
 ·have h3:k<x.Watchers.length:=by have:=Gqc h; omega
  have hat:=Yg h3
  have hm:=Gqe h3
  have hsn:=Yk h3
  generalize x.Watchers[k]=u at hat hm hsn
  repeat (first | refine Qd ?_ | refine Qh ?_ | refine Qk ?_ | refine Q0 ?_)
  refine Wz [57,46] ?_;refine AL.weak (st':=(⟨120,[(1,Aqf 0),(2,Aqf 1),(3,Aqf 2),(81,L x.Watchers),(82,I (els x.Watchers).length),(83,I k),(86,.o (.ag (Aqi u)))],[.box (mD x),.box zM,.box (mX x (.ref 3) (.ref 4) (.ref 6) (.ref 7) (.ref 9) (.ref 5) (.ref 10) (.ref 8) (sr x.Alarms)),.row 1 (els x.Level.Rows),.row 1 (els x.Scripts),.row 1 (els x.Acks),.row 23 (els x.Peers),.row 1 (els x.Wires),.row 10 (els x.Lines),.row 1 (els x.Paces),.row 6 (els (x.Watchers.take k))]⟩:St)) (X4 [0,1,2,3,4,5,6,7,8,9,10] Aqc J Aqb (.c J (.c J (.c J (.c J (.c J (.c J (.cons Aqb (.nil))))))))) ?_;refine Wz [36,136] ?_;refine AL.weak (st':=(⟨120,[(1,Aqf 0),(2,Aqf 1),(3,Aqf 2),(81,L x.Watchers),(82,I (els x.Watchers).length),(83,I k),(11,Aqf 11)],[.box (mD x),.box zM,.box (mX x (.ref 3) (.ref 4) (.ref 6) (.ref 7) (.ref 9) (.ref 5) (.ref 10) (.ref 8) (sr x.Alarms)),.row 1 (els x.Level.Rows),.row 1 (els x.Scripts),.row 1 (els x.Acks),.row 23 (els x.Peers),.row 1 (els x.Wires),.row 10 (els x.Lines),.row 1 (els x.Paces),.row 6 (els (x.Watchers.take k)),.box (Aqi u)]⟩:St)) (X4 [0,1,2,3,4,5,6,7,8,9,10,11] Aqc J ( Aqb) (.c J (.c J (.c J (.c J (.c J (.c J (.c J (.nil))))))))) ?_
  have cV:=I_copyWorld u.World (gV.2 u hm).1 (sp_in (wV u hm)).1 (sp_in (wV u hm)).2.1 (sp_in (wV u hm)).2.2
  refine Wz [6] ?_
  refine AWP.pre (st':=(⟨120,[(1,Aqf 0),(2,Aqf 1),(3,Aqf 2),(81,L x.Watchers),(82,I (els x.Watchers).length),(83,I k),(11,Aqf 11)],[.box (mD x),.box zM,.box (mX x (.ref 3) (.ref 4) (.ref 6) (.ref 7) (.ref 9) (.ref 5) (.ref 10) (.ref 8) (sr x.Alarms)),.row 1 (els x.Level.Rows),.row 1 (els x.Scripts),.row 1 (els x.Acks),.row 23 (els x.Peers),.row 1 (els x.Wires),.row 10 (els x.Lines),.row 1 (els x.Paces),.row 6 (els (x.Watchers.take k)),.box (Aqi u)]⟩:St)) ?_ (X4 [0,1,2,3,4,5,6,7,8,9,10,11] Aqc J ( Aqb) (.c J (.c J (.c J (.c J (.c J (.c J (.c J (.nil)))))))))
  refine Xg [[],[0],[],[2],[2,3],[],[5],[2,3,4,5,6],[2,3,4,5,6,7],(u9 9),(u9 10),(u9 11)] [[],[87],[],[89],[89,90],[],[92],[89,90,91,92,93],[89,90,91,92,93,94],[87,88,89,90,91,92,93,94,95],[87,88,89,90,91,92,93,94,95,96],[87,88,89,90,91,92,93,94,95,96,97]] [[89,90,91,92,93,94,95],[89,90,91,92,93,94,95],[87,88,92,93],[87,88,92,93],[87,88,92,93],[87,88,89,90,91],[87,88,89,90,91],[87,88],[87,88],[],[],[]] J ?_;refine Wz [8,200,190] ?_;refine DR.s (Zs J J (cV) J J J) J J ?_;refine Wz [8,287,145,13,131,132,85,50,57,18,0,6] ?_
  exact⟨x.Watchers.length-(k+1),Aqa,_,⟨k+1,Aqa,trivial,J⟩,(by rw[hsn]; exact X3 [0,1,2,3,4,5,6,7,8,9,10] Aqb)⟩
 have h3:¬k<x.Watchers.length:=by have:=Gqd h; omega
 have hk:x.Watchers.take k=x.Watchers:=Gqh Aqa 
 rw[hk]
 clear hl2 h3 h hk
 refine Wz [20,3,30,34,117,97] ?_
 refine AWP.pre ?_ (Wk.nilbox (p:=2) (i:=11) 2 J J)
 refine Xh (fun m st=>∃ k:Nat,k+m=x.Alarms.length∧(True)∧st=(⟨120,[(1,Aqf 0),(2,Aqf 1),(3,Aqf 2),(101,L x.Alarms),(102,I (els x.Alarms).length),(103,I k)],[.box (mD x),.box zM,.box (mX x (.ref 3) (.ref 4) (.ref 6) (.ref 7) (.ref 9) (.ref 5) (.ref 10) (.ref 8) (.ref 11)),.row 1 (els x.Level.Rows),.row 1 (els x.Scripts),.row 1 (els x.Acks),.row 23 (els x.Peers),.row 1 (els x.Wires),.row 10 (els x.Lines),.row 1 (els x.Paces),.row 6 (els x.Watchers),.row 2 (els (x.Alarms.take k))]⟩:St)) (x.Alarms.length) ⟨_,⟨0,Aqa,trivial,J⟩,X3 [0,1,2,3,4,5,6,7,8,9,10,11] Aqb⟩ ?_
 rintro m_G _ ⟨k,hk_G,hp_G,rfl⟩
 have hl2:(els (x.Alarms.take k)).length=k:=by rw[Yi]; simp; omega
 refine Wz [3,38,17] ?_
 refine Xb J (fun h => ?_) (fun h => ?_)
 ·have h3:k<x.Alarms.length:=by have:=Gqc h; omega
  have hat:=Yg h3
  have hm:=Gqe h3
  have hsn:=Yk h3
  generalize x.Alarms[k]=u at hat hm hsn
  repeat (first | refine Qd ?_ | refine Qh ?_ | refine Qk ?_ | refine Q0 ?_)
  refine Wz [57,46] ?_;refine AL.weak (st':=(⟨120,[(1,Aqf 0),(2,Aqf 1),(3,Aqf 2),(101,L x.Alarms),(102,I (els x.Alarms).length),(103,I k),(106,.o (.ag (Aqi u)))],[.box (mD x),.box zM,.box (mX x (.ref 3) (.ref 4) (.ref 6) (.ref 7) (.ref 9) (.ref 5) (.ref 10) (.ref 8) (.ref 11)),.row 1 (els x.Level.Rows),.row 1 (els x.Scripts),.row 1 (els x.Acks),.row 23 (els x.Peers),.row 1 (els x.Wires),.row 10 (els x.Lines),.row 1 (els x.Paces),.row 6 (els x.Watchers),.row 2 (els (x.Alarms.take k))]⟩:St)) (X4 [0,1,2,3,4,5,6,7,8,9,10,11] Aqc J Aqb (.c J (.c J (.c J (.c J (.c J (.c J (.cons Aqb (.nil))))))))) ?_;refine Wz [36,136] ?_;refine AL.weak (st':=(⟨120,[(1,Aqf 0),(2,Aqf 1),(3,Aqf 2),(101,L x.Alarms),(102,I (els x.Alarms).length),(103,I k),(13,Aqf 12)],[.box (mD x),.box zM,.box (mX x (.ref 3) (.ref 4) (.ref 6) (.ref 7) (.ref 9) (.ref 5) (.ref 10) (.ref 8) (.ref 11)),.row 1 (els x.Level.Rows),.row 1 (els x.Scripts),.row 1 (els x.Acks),.row 23 (els x.Peers),.row 1 (els x.Wires),.row 10 (els x.Lines),.row 1 (els x.Paces),.row 6 (els x.Watchers),.row 2 (els (x.Alarms.take k)),.box (Aqi u)]⟩:St)) (X4 [0,1,2,3,4,5,6,7,8,9,10,11,12] Aqc J ( Aqb) (.c J (.c J (.c J (.c J (.c J (.c J (.c J (.nil))))))))) ?_
  have hlu:=Yi u.Parts
  have hwu:=(Yy (xs:=u.Parts) (wB u hm)).1
  refine Wz [6] ?_
  refine AWP.pre (st':=(⟨120,[(1,Aqf 0),(2,Aqf 1),(3,Aqf 2),(101,L x.Alarms),(102,I (els x.Alarms).length),(103,I k),(13,Aqf 12)],[.box (mD x),.box zM,.box (mX x (.ref 3) (.ref 4) (.ref 6) (.ref 7) (.ref 9) (.ref 5) (.ref 10) (.ref 8) (.ref 11)),.row 1 (els x.Level.Rows),.row 1 (els x.Scripts),.row 1 (els x.Acks),.row 23 (els x.Peers),.row 1 (els x.Wires),.row 10 (els x.Lines),.row 1 (els x.Paces),.row 6 (els x.Watchers),.row 2 (els (x.Alarms.take k)),.box (Aqi u)]⟩:St)) ?_ (X4 [0,1,2,3,4,5,6,7,8,9,10,11,12] Aqc J ( Aqb) (.c J (.c J (.c J (.c J (.c J (.c J (.c J (.nil)))))))))
  refine Xg [[],[0],[],[2],[],[4],[4,5],[2,3,4,5,6],[2,3,4,5,6,7],(u9 9),(u9 10),(u9 11)] [[],[107],[],[109],[],[111],[111,112],[109,110,111,112,113],[109,110,111,112,113,114],[107,108,109,110,111,112,113,114,115],[107,108,109,110,111,112,113,114,115,116],[107,108,109,110,111,112,113,114,115,116,117]] [[109,110,111,112,113,114,115],[109,110,111,112,113,114,115],[107,108,111,112,113],[107,108,111,112,113],[107,108,109,110],[107,108,109,110],[107,108,109,110],[107,108],[107,108],[],[],[]] J ?_;refine Wz [8,8,8] ?_;refine DR.s (q_appn J J J J J J (Yj _) (Yh _) Aqa Aqa) J J ?_;refine Wz [287,145,13,131,132,85,50,57,18,0,6] ?_
  exact⟨x.Alarms.length-(k+1),Aqa,_,⟨k+1,Aqa,trivial,J⟩,(by rw[hsn]; exact X3 [0,1,2,3,4,5,6,7,8,9,10,11] Aqb)⟩
 have h3:¬k<x.Alarms.length:=by have:=Gqd h; omega
 have hk:x.Alarms.take k=x.Alarms:=Gqh Aqa 
 rw[hk]
 clear hl2 h3 h hk
 refine Wz [20,100,49] ?_
 exact Xk J J J J (X1 [3,4,6,7,9,5,10,8,11] Aqc J J J)
end
section
open Go.RowKit

theorem S_l03Copy (t:TTrack) (hL:t.Inputs.length≤1048576):Con Tryz.prog 291 [] [ag t] [.row 1 (els t.Inputs)] (.o (.ag [.ref 0])):=by
 have hl:=Yi t.Inputs
 have h00:([]:List (List T)).length=0:=rfl
 refine Con.of Tryz.func291 J Tryz.ntmps291 J (fun E => ?_)
 refine Wz [76,52,3,161,19] ?_;refine M_app J J J J J J J J J J (Yj _) (Yh _) Aqa Aqa  ?_;refine Wz [185,48,49] ?_
 exact Xk J J J J (X1 [2] Aqc J J J)
theorem S_l03CopyAll (xs:List TTrack) (hL:xs.length≤1048576) (hr:∀ t∈xs,t.Inputs.length≤1048576):Con Tryz.prog 212 [] [al xs] [.row 1 (els xs)] (Aqg 0):=by
 have hlx:=Yi xs
 refine Con.of Tryz.func212 J Tryz.ntmps212 J (fun E => ?_)
 refine Wz [12,3,161,2,11] ?_;refine Xh (fun m st=>∃ k:Nat,k+m=xs.length∧(True)∧st=(⟨21,[(0,L xs),(3,Aqg 0),(4,I k)],[.row 1 (els (xs.take k))]⟩:St)) (xs.length) ⟨_,⟨0,Aqa,trivial,J⟩,X3 [0] Aqb⟩ ?_
 rintro m_A _ ⟨k,hk_A,hp_A,rfl⟩
 have hl2:(els (xs.take k)).length=k:=by rw[Yi]; simp; omega
 by_cases h3:k<xs.length
 ·have f3:decide ((k:Int)<((els xs).length:Int))=true:=Gqb Aqa 
  have hat:=Yg h3
  have hc:=S_l03Copy xs[k] (hr _ (Gqe h3))
  refine Wz [112,82,63,0,46] ?_;refine M1 (Zs J J (hc) J J J) J J ?_;refine Wz [138,131,87] ?_
  exact⟨xs.length-(k+1),Aqa,(fun k:Nat=>(⟨21,[(0,L xs),(3,Aqg 0),(4,I k)],[.row 1 (els (xs.take k))]⟩:St)) (k+1),⟨k+1,Aqa,trivial,J⟩,X4 [0] Aqc J (Kj (Yk h3)) (.c J (.c J (.c J (.nil))))⟩
 ·have f3:decide ((k:Int)<((els xs).length:Int))=false:=Gqa Aqa 
  have hk:xs.take k=xs:=Gqh Aqa 
  refine Wz [112,44,31] ?_
  exact Xl J J (X1 [0] Aqc J (Kj (by rw[hk])) J)
theorem S_l05Copy (w:TWire) (hL:Enc.wt w≤1048576):Con Tryz.prog 119 [] [ag w] [.row 2 (els w.Flights)] (.o (.ag (wX w (.ref 0)))):=by
 have hl:=Yi w.Flights
 have hw:Enc.wt w=w.Flights.length+wts w.Flights:=rfl
 have h00:([]:List (List T)).length=0:=rfl
 refine Con.of Tryz.func119 J Tryz.ntmps119 J (fun E => ?_)
 refine Wz [76,52,3,161,19] ?_;refine M_app J J J J J J J J J J (Yj _) (Yh _) Aqa Aqa  ?_;refine Wz [30,100,49] ?_
 exact Xk J J J J (X1 [2] Aqc J J J)
theorem S_l04Copy (x:TPeer) (h:PeerIn x):Con Tryz.prog 118 [] [ag x] (pR x []) (.o (.ag (pC x 0 1 2 3 4 5 6 7 8 9))):=by
 obtain⟨_,_,_,_,gT,gB,gN,gU,gS,gM,gF,_,_⟩:=h.gd
 have hlu:=Yi x.Used
 have hsv:=h.sv
 have hsm:=h.sm
 have hus:=h.us.1
 have wU:=h.us.2
 have h00:([]:List (List T)).length=0:=rfl
 have c1:=S_l03CopyAll x.Tracks h.tr.1 h.tr.2
 have c2:=S_copyWorld x.Base gB h.bw.1 h.bw.2.1 h.bw.2.2
 have c3:=S_copyWorld x.Now gN h.nw.1 h.nw.2.1 h.nw.2.2
 refine Con.of Tryz.func118 J Tryz.ntmps118 J (fun E => ?_)
 repeat (first | refine Qd ?_ | refine Qh ?_ | refine Qk ?_ | refine Q0 ?_)
 refine Wz [57,295,36] ?_;refine AL.weak (st':=(⟨49,[(1,Aqf 0),(2,Aqf 1)],[.box (pD x),.box zP]⟩:St)) (X4 [0,1] Aqc J ( Aqb) (.c J (.c J (.nil)))) ?_;refine Wz [6] ?_
 repeat (first | refine Qd ?_ | refine Qh ?_ | refine Qk ?_ | refine Q0 ?_)
 refine Wz [57,37] ?_;refine AL.weak (st':=(⟨49,[(1,Aqf 0),(2,Aqf 1),(5,.o (.ag (pD x)))],[.box (pD x),.box zP]⟩:St)) (X4 [0,1] Aqc J ( Aqb) (.c J (.c J (.c J (.nil))))) ?_;refine Wz [36,136] ?_;refine AL.weak (st':=(⟨49,[(1,Aqf 0),(2,Aqf 1),(3,Aqf 2)],[.box (pD x),.box zP,.box (pX x (sr x.Tracks) (sr x.Base.Level.Rows) (sr x.Base.Scores) (sr x.Base.Bodies) (sr x.Now.Level.Rows) (sr x.Now.Scores) (sr x.Now.Bodies) (sr x.Used) (sr x.Saves) (sr x.Sums))]⟩:St)) (X4 [0,1,2] Aqc J ( Aqb) (.c J (.c J (.c J (.nil))))) ?_;refine Wz [6,23] ?_;refine AL.weak (st':=(⟨49,[(1,Aqf 0),(2,Aqf 1),(3,Aqf 2),(7,L x.Tracks)],[.box (pD x),.box zP,.box (pX x (sr x.Tracks) (sr x.Base.Level.Rows) (sr x.Base.Scores) (sr x.Base.Bodies) (sr x.Now.Level.Rows) (sr x.Now.Scores) (sr x.Now.Bodies) (sr x.Used) (sr x.Saves) (sr x.Sums))]⟩:St)) (X4 [0,1,2] Aqc J ( Aqb) (.c J (.c J (.c J (.c J (.nil)))))) ?_;refine M1 (Zs J J (c1) J J J) J J ?_;refine Wz [30,152] ?_;refine AL.weak (st':=(⟨49,[(1,Aqf 0),(2,Aqf 1),(3,Aqf 2),(11,.o (.ag (wD x.Base)))],[.box (pD x),.box zP,.box (pX x (.ref 3) (sr x.Base.Level.Rows) (sr x.Base.Scores) (sr x.Base.Bodies) (sr x.Now.Level.Rows) (sr x.Now.Scores) (sr x.Now.Bodies) (sr x.Used) (sr x.Saves) (sr x.Sums)),.row 1 (els x.Tracks)]⟩:St)) (X4 [0,1,2,3] Aqc J ( Aqb) (.c J (.c J (.c J (.c J (.nil)))))) ?_;refine M1 (Zs J J (c2) J J J) J J ?_;refine Wz [55,48,152] ?_;refine AL.weak (st':=(⟨49,[(1,Aqf 0),(2,Aqf 1),(3,Aqf 2),(15,.o (.ag (wD x.Now)))],[.box (pD x),.box zP,.box (pX x (.ref 3) (.ref 4) (.ref 5) (.ref 6) (sr x.Now.Level.Rows) (sr x.Now.Scores) (sr x.Now.Bodies) (sr x.Used) (sr x.Saves) (sr x.Sums)),.row 1 (els x.Tracks),.row 1 (els x.Base.Level.Rows),.row 1 (els x.Base.Scores),.row 9 (els x.Base.Bodies)]⟩:St)) (X4 [0,1,2,3,4,5,6] Aqc J ( Aqb) (.c J (.c J (.c J (.c J (.nil)))))) ?_;refine M1 (Zs J J (c3) J J J) J J ?_;refine Wz [55,48,3,30,11] ?_
 refine AWP.pre ?_ (Wk.nilbox (p:=2) (i:=15) 1 J J)
 refine Xh (fun m st=>∃ k:Nat,k+m=x.Used.length∧(True)∧st=(⟨49,[(1,Aqf 0),(2,Aqf 1),(3,Aqf 2),(4,I k)],[.box (pD x),.box zP,.box (pX x (.ref 3) (.ref 4) (.ref 5) (.ref 6) (.ref 7) (.ref 8) (.ref 9) (.ref 10) (sr x.Saves) (sr x.Sums)),.row 1 (els x.Tracks),.row 1 (els x.Base.Level.Rows),.row 1 (els x.Base.Scores),.row 9 (els x.Base.Bodies),.row 1 (els x.Now.Level.Rows),.row 1 (els x.Now.Scores),.row 9 (els x.Now.Bodies),.row 1 (els (x.Used.take k))]⟩:St)) (x.Used.length) ⟨_,⟨0,Aqa,trivial,J⟩,X3 [0,1,2,3,4,5,6,7,8,9,10] Aqb⟩ ?_
 rintro m_A _ ⟨k,hk_A,hp_A,rfl⟩
 have hl2:(els (x.Used.take k)).length=k:=by rw[Yi]; simp; omega
 by_cases h3:k<x.Used.length
 ·have f3:decide ((k:Int)<((els x.Used).length:Int))=true:=Gqb Aqa 
  have hat:=Yg h3
  have hrk:=wU _ (Gqe h3)
  have hsn:=Yk h3
  generalize x.Used[k]=r at hat hrk hsn
  have hlk:=Yi r
  refine Wz [56,89,82] ?_
  refine AWP.pre (st':=(⟨49,[(1,Aqf 0),(2,Aqf 1),(3,Aqf 2),(4,I k)],[.box (pD x),.box zP,.box (pX x (.ref 3) (.ref 4) (.ref 5) (.ref 6) (.ref 7) (.ref 8) (.ref 9) (.ref 10) (sr x.Saves) (sr x.Sums)),.row 1 (els x.Tracks),.row 1 (els x.Base.Level.Rows),.row 1 (els x.Base.Scores),.row 9 (els x.Base.Bodies),.row 1 (els x.Now.Level.Rows),.row 1 (els x.Now.Scores),.row 9 (els x.Now.Bodies),.row 1 (els (x.Used.take k))]⟩:St)) ?_ (X4 [0,1,2,3,4,5,6,7,8,9,10] Aqc J ( Aqb) (.c J (.c J (.c J (.c J (.nil))))))
  cases r with
  |nil =>
   refine Xg u8_33 u8_34 u8_35 J ?_;refine Wz [8,186,8,66,29,234,145,13] ?_;refine AL.weak (Wk.sbrow (q:=11) (es := []) J J (Gqz J)) ?_;refine Wz [131,132,99] ?_
   exact⟨x.Used.length-(k+1),Aqa,_,⟨k+1,Aqa,trivial,J⟩,(by rw[hsn]; exact X3 [0,1,2,3,4,5,6,7,8,9,10] Aqb)⟩
  |cons a rs =>
   have hpos:0<(els (a::rs)).length:=by rw[Yi]; simp
   refine Xg u8_33 u8_34 u8_35 J ?_;refine Wz [8,186,8,66,29] ?_;refine DR.s (q_appz J J J J J J (Yj _) (Yh _) hpos Aqa Aqa) J J ?_;refine Wz [145,13,131,132,99] ?_
   exact⟨x.Used.length-(k+1),Aqa,_,⟨k+1,Aqa,trivial,J⟩,(by rw[hsn]; exact X3 [0,1,2,3,4,5,6,7,8,9,10] Aqb)⟩
 have f3:decide ((k:Int)<((els x.Used).length:Int))=false:=Gqa Aqa 
 have hk:x.Used.take k=x.Used:=Gqh Aqa 
 rw[hk]
 clear hl2 h3 hk
 refine Wz [56,89,44,20,3,161,19] ?_;refine AL.weak (st':=(⟨49,[(1,Aqf 0),(2,Aqf 1),(3,Aqf 2),(38,Aqg 11),(40,L x.Saves)],[.box (pD x),.box zP,.box (pX x (.ref 3) (.ref 4) (.ref 5) (.ref 6) (.ref 7) (.ref 8) (.ref 9) (.ref 10) (sr x.Saves) (sr x.Sums)),.row 1 (els x.Tracks),.row 1 (els x.Base.Level.Rows),.row 1 (els x.Base.Scores),.row 9 (els x.Base.Bodies),.row 1 (els x.Now.Level.Rows),.row 1 (els x.Now.Scores),.row 9 (els x.Now.Bodies),.row 1 (els x.Used),.row 2 []]⟩:St)) (X4 [0,1,2,3,4,5,6,7,8,9,10,11] Aqc J ( Aqb) (.c J (.c J (.c J (.c J (.c J (.nil))))))) ?_
 have hls:=Yi x.Saves
 refine M_app J J J J J J J J J J (Yj _) (Yh _) Aqa Aqa  ?_;refine AL.weak (st':=(⟨49,[(1,Aqf 0),(2,Aqf 1),(3,Aqf 2),(41,Aqg 11)],[.box (pD x),.box zP,.box (pX x (.ref 3) (.ref 4) (.ref 5) (.ref 6) (.ref 7) (.ref 8) (.ref 9) (.ref 10) (sr x.Saves) (sr x.Sums)),.row 1 (els x.Tracks),.row 1 (els x.Base.Level.Rows),.row 1 (els x.Base.Scores),.row 9 (els x.Base.Bodies),.row 1 (els x.Now.Level.Rows),.row 1 (els x.Now.Scores),.row 9 (els x.Now.Bodies),.row 1 (els x.Used),.row 2 (els x.Saves)]⟩:St)) (X4 [0,1,2,3,4,5,6,7,8,9,10,11] Aqc J ( Aqb) (.c J (.c J (.c J (.c J (.nil)))))) ?_;refine Wz [30,3,161,19] ?_;refine AL.weak (st':=(⟨49,[(1,Aqf 0),(2,Aqf 1),(3,Aqf 2),(43,Aqg 12),(45,L x.Sums)],[.box (pD x),.box zP,.box (pX x (.ref 3) (.ref 4) (.ref 5) (.ref 6) (.ref 7) (.ref 8) (.ref 9) (.ref 10) (.ref 11) (sr x.Sums)),.row 1 (els x.Tracks),.row 1 (els x.Base.Level.Rows),.row 1 (els x.Base.Scores),.row 9 (els x.Base.Bodies),.row 1 (els x.Now.Level.Rows),.row 1 (els x.Now.Scores),.row 9 (els x.Now.Bodies),.row 1 (els x.Used),.row 2 (els x.Saves),.row 1 []]⟩:St)) (X4 [0,1,2,3,4,5,6,7,8,9,10,11,12] Aqc J ( Aqb) (.c J (.c J (.c J (.c J (.c J (.nil))))))) ?_
 have hlm:=Yi x.Sums
 refine M_app J J J J J J J J J J (Yj _) (Yh _) Aqa Aqa  ?_;refine AL.weak (st':=(⟨49,[(1,Aqf 0),(2,Aqf 1),(3,Aqf 2),(46,Aqg 12)],[.box (pD x),.box zP,.box (pX x (.ref 3) (.ref 4) (.ref 5) (.ref 6) (.ref 7) (.ref 8) (.ref 9) (.ref 10) (.ref 11) (sr x.Sums)),.row 1 (els x.Tracks),.row 1 (els x.Base.Level.Rows),.row 1 (els x.Base.Scores),.row 9 (els x.Base.Bodies),.row 1 (els x.Now.Level.Rows),.row 1 (els x.Now.Scores),.row 9 (els x.Now.Bodies),.row 1 (els x.Used),.row 2 (els x.Saves),.row 1 (els x.Sums)]⟩:St)) (X4 [0,1,2,3,4,5,6,7,8,9,10,11,12] Aqc J ( Aqb) (.c J (.c J (.c J (.c J (.nil)))))) ?_;refine Wz [132] ?_;refine AL.weak (st':=(⟨49,[(1,Aqf 0),(2,Aqf 1),(3,Aqf 2)],[.box (pD x),.box zP,.box (pX x (.ref 3) (.ref 4) (.ref 5) (.ref 6) (.ref 7) (.ref 8) (.ref 9) (.ref 10) (.ref 11) (.ref 12)),.row 1 (els x.Tracks),.row 1 (els x.Base.Level.Rows),.row 1 (els x.Base.Scores),.row 9 (els x.Base.Bodies),.row 1 (els x.Now.Level.Rows),.row 1 (els x.Now.Scores),.row 9 (els x.Now.Bodies),.row 1 (els x.Used),.row 2 (els x.Saves),.row 1 (els x.Sums)]⟩:St)) (X4 [0,1,2,3,4,5,6,7,8,9,10,11,12] Aqc J ( Aqb) (.c J (.c J (.c J (.nil))))) ?_;refine Wz [6] ?_
 repeat (first | refine Qd ?_ | refine Qh ?_ | refine Qk ?_ | refine Q0 ?_)
 refine Wz [57,37] ?_;refine AL.weak (st':=(⟨49,[(1,Aqf 0),(2,Aqf 1),(3,Aqf 2),(48,.o (.ag (pX x (.ref 3) (.ref 4) (.ref 5) (.ref 6) (.ref 7) (.ref 8) (.ref 9) (.ref 10) (.ref 11) (.ref 12))))],[.box (pD x),.box zP,.box (pX x (.ref 3) (.ref 4) (.ref 5) (.ref 6) (.ref 7) (.ref 8) (.ref 9) (.ref 10) (.ref 11) (.ref 12)),.row 1 (els x.Tracks),.row 1 (els x.Base.Level.Rows),.row 1 (els x.Base.Scores),.row 9 (els x.Base.Bodies),.row 1 (els x.Now.Level.Rows),.row 1 (els x.Now.Scores),.row 9 (els x.Now.Bodies),.row 1 (els x.Used),.row 2 (els x.Saves),.row 1 (els x.Sums)]⟩:St)) (X4 [0,1,2,3,4,5,6,7,8,9,10,11,12] Aqc J ( Aqb) (.c J (.c J (.c J (.c J (.nil)))))) ?_;refine Qy J J J J J J J J J ?_;refine AL.weak (st':=(⟨49,[(1,Aqf 0),(2,Aqf 1)],[.box (pD x),.box (pX x (.ref 2) (.ref 3) (.ref 4) (.ref 5) (.ref 6) (.ref 7) (.ref 8) (.ref 9) (.ref 10) (.ref 11)),.row 1 (els x.Tracks),.row 1 (els x.Base.Level.Rows),.row 1 (els x.Base.Scores),.row 9 (els x.Base.Bodies),.row 1 (els x.Now.Level.Rows),.row 1 (els x.Now.Scores),.row 9 (els x.Now.Bodies),.row 1 (els x.Used),.row 2 (els x.Saves),.row 1 (els x.Sums)]⟩:St)) (X4 [0,1,3,4,5,6,7,8,9,10,11,12] Aqc J ( Aqb) (.c J (.c J (.nil)))) ?_;refine Wz [6,49] ?_
 exact Xk (cs:=pC x 2 3 4 5 6 7 8 9 10 11) J J J J (X1 [2,3,4,5,6,7,8,9,10,11] Aqc J Aqb Aqb)
end
end Go.Proofs.YtfklmiijhcajdaaGreat
