/-
  Rules, data and contracts of functions: part 42 of the proof.
  Conditions: those that each theorem names.
-/
import Derived.Test.YtalaljeokcpfnaaGreatDDPlayRowk40
set_option linter.unusedSimpArgs false
set_option linter.unusedVariables false
set_option maxRecDepth 8000
set_option maxHeartbeats 8000000
namespace Go.Proofs.YtalaljeokcpfnaaGreat
section
open Tryz
open Go.RowKit

theorem I_Press (x:TPeer) (n:Int) (hx:PeerD x) (hn:I64 n):Co 100 [] [ag x,ai n] (pR (pressV x n) []) (.tu [.ag (pC (pressV x n) 0 1 2 3 4 5 6 7 8 9),.c (bv (pressB x n))]):=by
 have c1:=I_copyPeer x hx.inn
 have c2:=I_PeerOk x hx.inn.gd
 have cI:=Xy n 0 15
 have hlt:=Y7 x.Tracks
 generalize hb1:peerOk x=b1 at c2
 generalize hb2:inR n 0 15=b2 at cI
 refine Con.o func100 ntmps100 fun E=>?_;refine Wz [59,8,7] ?_;refine AL.kp [1,0,2,1,4,2,5,0] [(9,.o (.ag (pD x)))] 2 [(0,.box (pD x)),(1,.box zP)] ?_;refine kc1 c1 ?_;refine AL.kp [1,0,2,1,4,2,5,0] [(10,.o (.ag (pS x)))] 12 [(0,.box (pD x)),(1,.box zP)] ?_;refine Wz [91,4,7] ?_;refine AL.kp [1,0,2,1,4,2,5,0,6,13] [(11,.o (.ag (pD x)))] 13 [(0,.box (pD x)),(1,.box zP),(12,.box (pS x))] ?_;refine kc0 c2 ?_;refine Wz [6,103] ?_;refine zx (Qt.grdF J J J (.hit .stop) (fun hgrd=>Qj J J (cI) J)) J ?_;refine Wz [207,75] ?_
 refine Xb J (fun h=>?_) (fun h=>?_)
 ·have hb:pressB x n=false:=by
   rw[pressB,hb1,hb2]
   cases b1
   ·rfl
   ·cases b2
    ·rfl
    ·cases h
  rw[show pressV x n=x by rw[pressV,hb]; rfl,hb]
  repeat (first | refine Qd ?_ | refine Qh ?_ | refine Qk ?_ | refine Q0 ?_)
  refine Qc ?_;refine AL.kp [1,0,2,1,4,2,5,0,6,13] [] 13 [(0,.box (pD x)),(1,.box zP),(12,.box (pS x))] ?_;refine z4 J J J ?_;refine AL.kp [2,1,4,2,5,0] [(19,.o (.ag (pS x)))] 13 [(0,.box (pD x)),(1,.box zP),(12,.box (pS x))] ?_;refine Qy J J J J J J J J J ?_;refine AL.kp [2,1,4,2,5,0] [] 13 [(0,.box (pD x)),(1,.box (pS x)),(12,.box (pS x))] ?_;refine Wz [76] ?_
  exact Bzw
 have hb12:b1=true∧b2=true:=by
  cases b1
  ·cases h
  ·cases b2
   ·cases h
   ·exact⟨rfl,rfl⟩
 obtain⟨rfl,rfl⟩:=hb12
 have hs:=Ke hb1
 obtain⟨m,hm,hml⟩:=me_at hb1
 have hmt:x.Me.toNat=m:=Aqa
 have hat:(els x.Tracks)[x.Me.toNat]? = some (Enc.e x.Tracks[m]):=by rw[hmt]; exact Y4 hml
 have hil:=hs.tr.2 _ (Gqe hml)
 have hla:lenAt x.Tracks x.Me.toNat=x.Tracks[m].Inputs.length:=by rw[hmt,Zn hml]
 have hgt:x.Tracks.getD x.Me.toNat ⟨[]⟩=x.Tracks[m]:=by rw[hmt,Gqf,Gqg hml]; rfl
 have ⟨_,_,⟨_,⟨d0,d5⟩,_⟩,_⟩:=Kf hb1
 obtain⟨n0,n4⟩:=hs.nt
 generalize x.Tracks[m]=tr at hat hil hla hgt
 have hli:=Y7 tr.Inputs
 refine Wz [42,173,63,209,25,40,79,31,31,13,150,103] ?_;refine zx (Qt.grdF J J J (.hit .stop) (fun hgrd=>Kx J J J J)) J ?_;refine Wz [75] ?_
 refine Xb J (fun h5=>?_) (fun h5=>?_)
 ·have hb:pressB x n=false:=by
   simp only[Gqq,decide_eq_true_eq] at h5
   cases hp:pressB x n with
   |false=>rfl
   |true =>
    simp only[pressB,Gqh,decide_eq_true_eq] at hp
    omega
  rw[show pressV x n=x by rw[pressV,hb]; rfl,hb]
  repeat (first | refine Qd ?_ | refine Qh ?_ | refine Qk ?_ | refine Q0 ?_)
  refine Qc ?_;refine AL.kp [1,0,2,1,4,2,5,0,6,13] [] 13 [(0,.box (pD x)),(1,.box zP),(12,.box (pS x))] ?_;refine z4 J J J ?_;refine AL.kp [2,1,4,2,5,0] [(40,.o (.ag (pS x)))] 13 [(0,.box (pD x)),(1,.box zP),(12,.box (pS x))] ?_;refine Qy J J J J J J J J J ?_;refine AL.kp [2,1,4,2,5,0] [] 13 [(0,.box (pD x)),(1,.box (pS x)),(12,.box (pS x))] ?_;refine Wz [76] ?_
  exact Bzw
 have hb:pressB x n=true:=by
  simp only[Gqm,decide_eq_false_iff_not] at h5
  rw[pressB,hb1,hb2,hla,Gqb (show (tr.Inputs.length:Int)=x.Now.Tick+x.Delay by omega),Gqb Aqa]
  rfl
 rw[show pressV x n={ x with Tracks:=x.Tracks.set x.Me.toNat ⟨tr.Inputs ++ [n]⟩ } by rw[pressV,hb,hgt]; rfl,hb]
 have hsn:els (tr.Inputs ++ [n])=els tr.Inputs ++ [[.v (.int .i64 n)]]:=Y3 _ _
 have hset:els (x.Tracks.set x.Me.toNat ⟨tr.Inputs ++ [n]⟩)=((els x.Tracks).set x.Me.toNat [.un]).set x.Me.toNat [.sl 1 (els tr.Inputs ++ [[.v (.int .i64 n)]])]:=by
  rw[List.set_set,Y9,←hsn]; rfl
 have hl2:((els x.Tracks).set x.Me.toNat [.un]).length=x.Tracks.length:=by rw[Gqu]; exact hlt
 refine AWP.kp [1,0,2,1,4,2,5,0,6,13] [] 13 [(0,.box (pD x)),(1,.box zP),(12,.box (pS x))] ?_
 refine AWP.pre ?_ (Wk.splitl (p:=2) (i:=x.Me.toNat) (j:=0) (k':=1) (es0:=els tr.Inputs) J hat J (by repeat' (first | exact trivial | exact⟨J,J,J⟩ | refine And.intro ?_ ?_)) (by repeat' (first | exact trivial | exact⟨J,J,J⟩ | refine And.intro ?_ ?_)))
 refine AWP.kp [1,0,2,1,4,2,5,0,6,13] [] 15 [(0,.box (pD x)),(1,.box zP),(2,.row 1 ((els x.Tracks).set x.Me.toNat [.un])),(12,.box (pS x)),(14,.lk (.le 2 1 x.Me.toNat 0) (Aqk 13))] ?_
 clear hat
 refine Wz [42,173,106,8,10,248,123] ?_;refine zx (q_lel 14 J J J J) J ?_;refine Wz [0,116,183,248,123] ?_
 have hat2:((els x.Tracks).set x.Me.toNat [.un])[x.Me.toNat]? = some [.un]:=Gxg Aqa 
 refine Xh J J J J J J J J J hat2 J J ?_
 refine AL.weak (st':=(⟨57,[(1,I n),(2,Aqf 0),(4,Aqf 1),(5,B false),(6,Aqf 12)],[.box (pD x),.box zP,.row 1 (els (x.Tracks.set x.Me.toNat ⟨tr.Inputs ++ [n]⟩)),.row 1 (els x.Base.Level.Rows),.row 1 (els x.Base.Scores),.row 9 (els x.Base.Bodies),.row 1 (els x.Now.Level.Rows),.row 1 (els x.Now.Scores),.row 9 (els x.Now.Bodies),.row 1 (els x.Used),.row 2 (els x.Saves),.row 1 (els x.Sums),.box (pS x)]⟩:St)) (by rw[hset]; exact Yj [0,1,2,3,4,5,6,7,8,9,10,11,12] Aqb) ?_
 refine Wz [1] ?_
 repeat (first | refine Qd ?_ | refine Qh ?_ | refine Qk ?_ | refine Q0 ?_)
 refine Qc ?_;refine AL.kp [1,0,2,1,4,2,5,0,6,13] [] 13 [(0,.box (pD x)),(1,.box zP),(2,.row 1 (els (x.Tracks.set x.Me.toNat ⟨tr.Inputs ++ [n]⟩))),(12,.box (pS x))] ?_;refine z4 J J J ?_;refine AL.kp [2,1,4,2,5,0] [(56,.o (.ag (pC ({ x with Tracks:=x.Tracks.set x.Me.toNat ⟨tr.Inputs ++ [n]⟩ }:TPeer) 2 3 4 5 6 7 8 9 10 11)))] 13 [(0,.box (pD x)),(1,.box zP),(2,.row 1 (els (x.Tracks.set x.Me.toNat ⟨tr.Inputs ++ [n]⟩))),(12,.box (pS x))] ?_;refine Qy J J J J J J J J J ?_;refine AL.kp [2,1,4,2,5,0] [] 13 [(0,.box (pD x)),(1,.box (pC ({ x with Tracks:=x.Tracks.set x.Me.toNat ⟨tr.Inputs ++ [n]⟩ }:TPeer) 2 3 4 5 6 7 8 9 10 11)),(2,.row 1 (els (x.Tracks.set x.Me.toNat ⟨tr.Inputs ++ [n]⟩))),(12,.box (pS x))] ?_;refine Wz [36] ?_
 exact Bjt
theorem S_Press (x:TPeer) (n:Int) (hx:PeerD x) (hn:I64 n):Co 77 [] [ag x,ai n] (pR (pressV x n) []) (.tu [.ag (pC (pressV x n) 0 1 2 3 4 5 6 7 8 9),.c (bv (pressB x n))]):=by
 have c1:=S_l04Copy x hx.inn
 have c2:=S_PeerOk x hx.inn.gd
 have cI:=Yg n 0 15
 have hlt:=Y7 x.Tracks
 generalize hb1:peerOk x=b1 at c2
 generalize hb2:inR n 0 15=b2 at cI
 refine Con.o func77 ntmps77 fun E=>?_;refine Wz [59,8,7] ?_;refine AL.kp [1,0,2,1,4,2,5,0] [(8,.o (.ag (pD x)))] 2 [(0,.box (pD x)),(1,.box zP)] ?_;refine kc1 c1 ?_;refine AL.kp [1,0,2,1,4,2,5,0] [(9,.o (.ag (pS x)))] 12 [(0,.box (pD x)),(1,.box zP)] ?_;refine Wz [91,4,7] ?_;refine AL.kp [1,0,2,1,4,2,5,0,6,13] [(10,.o (.ag (pD x)))] 13 [(0,.box (pD x)),(1,.box zP),(12,.box (pS x))] ?_;refine kc0 c2 ?_;refine Wz [6,103] ?_;refine zx (Qt.grdF J J J (.hit .stop) (fun hgrd=>Qj J J (cI) J)) J ?_;refine Wz [207,75] ?_
 refine Xb J (fun h=>?_) (fun h=>?_)
 ·have hb:pressB x n=false:=by
   rw[pressB,hb1,hb2]
   cases b1
   ·rfl
   ·cases b2
    ·rfl
    ·cases h
  rw[show pressV x n=x by rw[pressV,hb]; rfl,hb]
  repeat (first | refine Qd ?_ | refine Qh ?_ | refine Qk ?_ | refine Q0 ?_)
  refine Qc ?_;refine AL.kp [1,0,2,1,4,2,5,0,6,13] [] 13 [(0,.box (pD x)),(1,.box zP),(12,.box (pS x))] ?_;refine z4 J J J ?_;refine AL.kp [2,1,4,2,5,0] [(18,.o (.ag (pS x)))] 13 [(0,.box (pD x)),(1,.box zP),(12,.box (pS x))] ?_;refine Qy J J J J J J J J J ?_;refine AL.kp [2,1,4,2,5,0] [] 13 [(0,.box (pD x)),(1,.box (pS x)),(12,.box (pS x))] ?_;refine Wz [76] ?_
  exact Bzw
 have hb12:b1=true∧b2=true:=by
  cases b1
  ·cases h
  ·cases b2
   ·cases h
   ·exact⟨rfl,rfl⟩
 obtain⟨rfl,rfl⟩:=hb12
 have hs:=Ke hb1
 obtain⟨m,hm,hml⟩:=me_at hb1
 have hmt:x.Me.toNat=m:=Aqa
 have hat:(els x.Tracks)[x.Me.toNat]? = some (Enc.e x.Tracks[m]):=by rw[hmt]; exact Y4 hml
 have hil:=hs.tr.2 _ (Gqe hml)
 have hla:lenAt x.Tracks x.Me.toNat=x.Tracks[m].Inputs.length:=by rw[hmt,Zn hml]
 have hgt:x.Tracks.getD x.Me.toNat ⟨[]⟩=x.Tracks[m]:=by rw[hmt,Gqf,Gqg hml]; rfl
 have ⟨_,_,⟨_,⟨d0,d5⟩,_⟩,_⟩:=Kf hb1
 obtain⟨n0,n4⟩:=hs.nt
 generalize x.Tracks[m]=tr at hat hil hla hgt
 have hli:=Y7 tr.Inputs
 refine Wz [42,173,63,209,25,40,79,31,31,13,150,103] ?_;refine zx (Qt.grdF J J J (.hit .stop) (fun hgrd=>Kx J J J J)) J ?_;refine Wz [75] ?_
 refine Xb J (fun h5=>?_) (fun h5=>?_)
 ·have hb:pressB x n=false:=by
   simp only[Gqq,decide_eq_true_eq] at h5
   cases hp:pressB x n with
   |false=>rfl
   |true =>
    simp only[pressB,Gqh,decide_eq_true_eq] at hp
    omega
  rw[show pressV x n=x by rw[pressV,hb]; rfl,hb]
  repeat (first | refine Qd ?_ | refine Qh ?_ | refine Qk ?_ | refine Q0 ?_)
  refine Qc ?_;refine AL.kp [1,0,2,1,4,2,5,0,6,13] [] 13 [(0,.box (pD x)),(1,.box zP),(12,.box (pS x))] ?_;refine z4 J J J ?_;refine AL.kp [2,1,4,2,5,0] [(39,.o (.ag (pS x)))] 13 [(0,.box (pD x)),(1,.box zP),(12,.box (pS x))] ?_;refine Qy J J J J J J J J J ?_;refine AL.kp [2,1,4,2,5,0] [] 13 [(0,.box (pD x)),(1,.box (pS x)),(12,.box (pS x))] ?_;refine Wz [76] ?_
  exact Bzw
 have hb:pressB x n=true:=by
  simp only[Gqm,decide_eq_false_iff_not] at h5
  rw[pressB,hb1,hb2,hla,Gqb (show (tr.Inputs.length:Int)=x.Now.Tick+x.Delay by omega),Gqb Aqa]
  rfl
 rw[show pressV x n={ x with Tracks:=x.Tracks.set x.Me.toNat ⟨tr.Inputs ++ [n]⟩ } by rw[pressV,hb,hgt]; rfl,hb]
 have hsn:els (tr.Inputs ++ [n])=els tr.Inputs ++ [[.v (.int .i64 n)]]:=Y3 _ _
 have hset:els (x.Tracks.set x.Me.toNat ⟨tr.Inputs ++ [n]⟩)=((els x.Tracks).set x.Me.toNat [.un]).set x.Me.toNat [.sl 1 (els tr.Inputs ++ [[.v (.int .i64 n)]])]:=by
  rw[List.set_set,Y9,←hsn]; rfl
 have hl2:((els x.Tracks).set x.Me.toNat [.un]).length=x.Tracks.length:=by rw[Gqu]; exact hlt
 refine Wz [108] ?_;refine AWP.kp [1,0,2,1,4,2,5,0,6,13] [] 13 [(0,.box (pD x)),(1,.box zP),(12,.box (pS x))] ?_
 refine AWP.pre ?_ (Wk.splitl (p:=2) (i:=x.Me.toNat) (j:=0) (k':=1) (es0:=els tr.Inputs) J hat J (by repeat' (first | exact trivial | exact⟨J,J,J⟩ | refine And.intro ?_ ?_)) (by repeat' (first | exact trivial | exact⟨J,J,J⟩ | refine And.intro ?_ ?_)))
 refine AWP.kp [1,0,2,1,4,2,5,0,6,13] [] 15 [(0,.box (pD x)),(1,.box zP),(2,.row 1 ((els x.Tracks).set x.Me.toNat [.un])),(12,.box (pS x)),(14,.lk (.le 2 1 x.Me.toNat 0) (Aqk 13))] ?_
 clear hat
 have hat2:((els x.Tracks).set x.Me.toNat [.un])[x.Me.toNat]? = some [.un]:=Gxg Aqa 
 repeat (first | refine Qd ?_ | refine Qh ?_ | refine Qk ?_ | refine Q0 ?_)
 refine A_seqW ⟨57,[(1,I n),(2,Aqf 0),(4,Aqf 1),(5,B false),(6,Aqf 12)],[.box (pD x),.box zP,.row 1 (els (x.Tracks.set x.Me.toNat ⟨tr.Inputs ++ [n]⟩)),.row 1 (els x.Base.Level.Rows),.row 1 (els x.Base.Scores),.row 9 (els x.Base.Bodies),.row 1 (els x.Now.Level.Rows),.row 1 (els x.Now.Scores),.row 9 (els x.Now.Bodies),.row 1 (els x.Used),.row 2 (els x.Saves),.row 1 (els x.Sums),.box (pS x)]⟩ ?_ ?_
 ·refine Xi (tt [[],[0,1],[],[2,1],[],[4,1],[],[6,1],[4,4],[4,5],[4,6],[],[11,1],[4,9],[0,14],[0,15],[0,16]]) (tt [[],[40,1],[],[42,1],[],[44,1],[],[46,1],[44,4],[44,5],[44,6],[],[51,1],[44,9],[40,14],[40,15],[40,16]]) (tt [[42,12],[42,12],[40,2,44,10],[40,2,44,10],[40,4,46,2,51,2],[40,4,46,2,51,2],[40,6,51,2],[40,6,51,2],[40,4,51,2],[40,4,51,2],[40,4,51,2],[40,11],[40,11],[40,4],[],[],[],[0,1,2,1]]) rfl ?_
  refine DR.stepL (ql_fldp J J J J Aqc) J J (Uq (Qg J J J J J) J (DR.stepL (ql_fldp J J J J Aqc) J J (Uq (Qg J J J J J) J (DR.stepL (ql_fldp J J J J Aqc) J J (Uq (Qg J J J J J) J (DR.stepL (ql_fldp J J J J Aqc) J J ?_))))));refine Wz [304,129,249] ?_;refine Uq (q_lel 14 J J J J) J ?_;refine Wz [17,153] ?_;refine DR.late [1,3] Aqb Aqb  ?_
  refine late_have 3 (ms 17 16383) ⟨57,[(1,I n),(2,Aqf 0),(4,Aqf 1),(5,B false),(6,Aqf 12),(41,Aqg 2),(43,I x.Me),(53,Aqg 13)],[.box (pD x),.box zP,.row 1 ((els x.Tracks).set x.Me.toNat [.un]),.row 1 (els x.Base.Level.Rows),.row 1 (els x.Base.Scores),.row 9 (els x.Base.Bodies),.row 1 (els x.Now.Level.Rows),.row 1 (els x.Now.Scores),.row 9 (els x.Now.Bodies),.row 1 (els x.Used),.row 2 (els x.Saves),.row 1 (els x.Sums),.box (pS x),.row 1 (els tr.Inputs ++ [[.v (.int .i64 n)]])]⟩ ?_ fun h0=>?_
  ·refine DAL.one 14 Aqb rfl ?_
   refine Wz [106,1] ?_;refine DAL.one 15 Aqb J ?_;refine Wz [123,1] ?_;refine DAL.one 16 Aqb J ?_;refine Xh J J J J J J J J J hat2 J J ?_;refine Wz [1] ?_
   refine DAL.nil Aqb (Q0 ?_)
   rw[hset]
   exact Yk [0,1,2,3,4,5,6,7,8,9,10,11,12] Aqc J Aqb (.c J (.c J (.c J (.c J (.c J (.nil))))))
  refine late_have 4 (ms 17 16381) ⟨57,[(1,I n),(2,Aqf 0),(4,Aqf 1),(5,B false),(6,Aqf 12),(40,.o (.c (.ptr 12 4))),(43,I x.Me),(53,Aqg 13)],[.box (pD x),.box zP,.row 1 ((els x.Tracks).set x.Me.toNat [.un]),.row 1 (els x.Base.Level.Rows),.row 1 (els x.Base.Scores),.row 9 (els x.Base.Bodies),.row 1 (els x.Now.Level.Rows),.row 1 (els x.Now.Scores),.row 9 (els x.Now.Bodies),.row 1 (els x.Used),.row 2 (els x.Saves),.row 1 (els x.Sums),.box (pS x),.row 1 (els tr.Inputs ++ [[.v (.int .i64 n)]])]⟩ ?_ fun h1=>?_
  ·refine DAL.one 1 Aqb rfl ?_
   refine Wz [197,1] ?_
   exact Bjh
  refine late_have 4 (ms 17 16375) ⟨57,[(1,I n),(2,Aqf 0),(4,Aqf 1),(5,B false),(6,Aqf 12),(41,Aqg 2),(42,Aqf 0),(53,Aqg 13)],[.box (pD x),.box zP,.row 1 ((els x.Tracks).set x.Me.toNat [.un]),.row 1 (els x.Base.Level.Rows),.row 1 (els x.Base.Scores),.row 9 (els x.Base.Bodies),.row 1 (els x.Now.Level.Rows),.row 1 (els x.Now.Scores),.row 9 (els x.Now.Bodies),.row 1 (els x.Used),.row 2 (els x.Saves),.row 1 (els x.Sums),.box (pS x),.row 1 (els tr.Inputs ++ [[.v (.int .i64 n)]])]⟩ ?_ fun h3=>?_
  ·refine DAL.one 3 Aqb rfl ?_
   refine Wz [197,1] ?_
   exact Bjh
  refine late_have 5 (ms 17 16373) ⟨57,[(1,I n),(2,Aqf 0),(4,Aqf 1),(5,B false),(6,Aqf 12),(40,.o (.c (.ptr 12 4))),(42,Aqf 0),(53,Aqg 13)],[.box (pD x),.box zP,.row 1 ((els x.Tracks).set x.Me.toNat [.un]),.row 1 (els x.Base.Level.Rows),.row 1 (els x.Base.Scores),.row 9 (els x.Base.Bodies),.row 1 (els x.Now.Level.Rows),.row 1 (els x.Now.Scores),.row 9 (els x.Now.Bodies),.row 1 (els x.Used),.row 2 (els x.Saves),.row 1 (els x.Sums),.box (pS x),.row 1 (els tr.Inputs ++ [[.v (.int .i64 n)]])]⟩ ?_ fun h13=>?_
  ·refine DAL.two 1 3 Aqb J J ?_ ?_
   ·refine Wz [197,1] ?_
    exact Bju
   ·refine Wz [197,1] ?_
    exact Bjv
  refine⟨?_,?_,?_,?_,trivial⟩
  ·refine Wz [183,1] ?_
   exact Bjh
  ·refine Wz [183,1] ?_
   exact Bju
  ·refine Wz [183,1] ?_
   exact Bjv
  ·refine Wz [183,1] ?_
   exact DAL.to J Aqb (Yk [0,1,2,3,4,5,6,7,8,9,10,11,12,13] Aqc J Aqb (.c J (.c J (.c J (.c J (.c J (.c J (.c J (.c J (.nil)))))))))) h13
 repeat (first | refine Qd ?_ | refine Qh ?_ | refine Qk ?_ | refine Q0 ?_)
 refine Qc ?_;refine AL.kp [1,0,2,1,4,2,5,0,6,13] [] 13 [(0,.box (pD x)),(1,.box zP),(2,.row 1 (els (x.Tracks.set x.Me.toNat ⟨tr.Inputs ++ [n]⟩))),(12,.box (pS x))] ?_;refine z4 J J J ?_;refine AL.kp [2,1,4,2,5,0] [(56,.o (.ag (pC ({ x with Tracks:=x.Tracks.set x.Me.toNat ⟨tr.Inputs ++ [n]⟩ }:TPeer) 2 3 4 5 6 7 8 9 10 11)))] 13 [(0,.box (pD x)),(1,.box zP),(2,.row 1 (els (x.Tracks.set x.Me.toNat ⟨tr.Inputs ++ [n]⟩))),(12,.box (pS x))] ?_;refine Qy J J J J J J J J J ?_;refine AL.kp [2,1,4,2,5,0] [] 13 [(0,.box (pD x)),(1,.box (pC ({ x with Tracks:=x.Tracks.set x.Me.toNat ⟨tr.Inputs ++ [n]⟩ }:TPeer) 2 3 4 5 6 7 8 9 10 11)),(2,.row 1 (els (x.Tracks.set x.Me.toNat ⟨tr.Inputs ++ [n]⟩))),(12,.box (pS x))] ?_;refine Wz [36] ?_
 exact Bjt
end
section
open Tryz
open Go.RowKit

theorem I_FirstW (x:TPeer) (hx:PeerD x):Co 170 [] [ag x] [] (I (firstWrong x)):=by
 have c1:=I_PeerOk x hx.inn.gd
 have hlu:=Y7 x.Used
 rw[firstWrong]
 cases ok:peerOk x with
 |false =>
  rw[ok] at c1
  refine Con.o func170 ntmps170 fun E=>?_;refine Wz [43,16,7] ?_;refine kc0 c1 ?_;refine Wz [6,115] ?_
  exact Bzh
 |true =>
 rw[ok] at c1
 rw[if_pos rfl]
 have hs:=Ke ok
 obtain⟨b0,b4⟩:=hs.bt
 have hu8:=hs.us
 obtain⟨b,hb⟩:∃ b:Nat,x.Base.Tick=b:=⟨x.Base.Tick.toNat,Aqa⟩
 have hbt:x.Base.Tick.toNat=b:=Aqa
 rw[hbt]
 obtain⟨_,_,_,_,gT,gB,gN,gU,gS,gM,gF,_,_⟩:=hx.inn.gd
 have o1:=(Kf ok).1.1
 refine Con.o func170 ntmps170 fun E=>?_;refine Wz [43,16,7] ?_;refine kc0 c1 ?_;refine Wz [6,135,109,138,34] ?_;refine A_lp x.Used.length (fun k=>fwGo x.Tracks b x.Used=fwGo x.Tracks (b+k) (x.Used.drop k)) (fun k => [(1,Aqf 0),(11,L x.Used),(12,I (els x.Used).length),(13,I k)]) (fun k => [.box (pD x)]) J (Yj [0] Aqb) ?_
 intro m_A k hk_A hp_A
 by_cases h3:k<x.Used.length
 ·have f2:decide ((k:Int)<((els x.Used).length:Int))=true:=Gqb Aqa 
  have hat:=Y4 h3
  have c2:=I_RowAtA x.Tracks (b+k) gT o1
  rw[show ((b+k:Nat):Int)=x.Base.Tick+k by omega] at c2
  have gr:=rowP_gd (t:=b+k) o1
  have c3:=slEqI (rowP x.Tracks (b+k)) x.Used[k] gr
  have hn:=fwGo_next (l:=x.Tracks) (b:=b) h3
  have hst:=fwGo_stop (l:=x.Tracks) (b:=b) h3
  generalize x.Used[k]=u at hat c3 hn hst
  generalize rowP x.Tracks (b+k)=row at c2 c3 hn hst gr
  by_cases he:row=u
  ·rw[Gqb he] at c3
   have hnx:=hp_A.trans (hn he)
   refine Wz [3,19,1,4,117,9,11,100,26,8,18,79,68,13] ?_;refine kc1 c2 ?_;refine Wz [120,26,8,10] ?_;refine kc0 c3 ?_;refine Wz [6,151,104] ?_
   exact .n (k+1) hnx (Yj [0] Aqb)
  ·rw[Gqa he] at c3
   rw[hp_A,hst he]
   refine Wz [3,19,1,4,117,9,11,100,26,8,18,79,68,13] ?_;refine kc1 c2 ?_;refine Wz [120,26,8,10] ?_;refine kc0 c3 ?_;refine Wz [6,32,3,79,68,49,177,57] ?_
   exact E_w [] J (X0 Aqa)
 have f2:decide ((k:Int)<((els x.Used).length:Int))=false:=Gqa Aqa 
 rw[hp_A,fwGo_end Aqa]
 refine Wz [3,19,1,4,90,30,101] ?_
 exact Bzh
theorem S_FirstW (x:TPeer) (hx:PeerD x):Co 144 [] [ag x] [] (I (firstWrong x)):=by
 have c1:=S_PeerOk x hx.inn.gd
 have hlu:=Y7 x.Used
 rw[firstWrong]
 cases ok:peerOk x with
 |false =>
  rw[ok] at c1
  refine Con.o func144 ntmps144 fun E=>?_;refine Wz [43,16,7] ?_;refine kc0 c1 ?_;refine Wz [6,115] ?_
  exact Bzh
 |true =>
 rw[ok] at c1
 rw[if_pos rfl]
 have hs:=Ke ok
 obtain⟨b0,b4⟩:=hs.bt
 have hu8:=hs.us
 obtain⟨b,hb⟩:∃ b:Nat,x.Base.Tick=b:=⟨x.Base.Tick.toNat,Aqa⟩
 have hbt:x.Base.Tick.toNat=b:=Aqa
 rw[hbt]
 obtain⟨_,_,_,_,gT,gB,gN,gU,gS,gM,gF,_,_⟩:=hx.inn.gd
 have o1:=(Kf ok).1.1
 refine Con.o func144 ntmps144 fun E=>?_;refine Wz [43,16,7] ?_;refine kc0 c1 ?_;refine Wz [6,135,51] ?_;refine A_lp x.Used.length (fun k=>fwGo x.Tracks b x.Used=fwGo x.Tracks (b+k) (x.Used.drop k)) (fun k => [(1,Aqf 0),(3,I k)]) (fun k => [.box (pD x)]) J (Yj [0] Aqb) ?_
 intro m_A k hk_A hp_A
 by_cases h3:k<x.Used.length
 ·have f2:decide ((k:Int)<((els x.Used).length:Int))=true:=Gqb Aqa 
  have hat:=Y4 h3
  have c2:=S_RowAtA x.Tracks (b+k) gT o1
  rw[show ((b+k:Nat):Int)=x.Base.Tick+k by omega] at c2
  have gr:=rowP_gd (t:=b+k) o1
  have c3:=S_ints (rowP x.Tracks (b+k)) x.Used[k] gr
  have hn:=fwGo_next (l:=x.Tracks) (b:=b) h3
  have hst:=fwGo_stop (l:=x.Tracks) (b:=b) h3
  generalize x.Used[k]=u at hat c3 hn hst
  generalize rowP x.Tracks (b+k)=row at c2 c3 hn hst gr
  by_cases he:row=u
  ·rw[Gqb he] at c3
   have hnx:=hp_A.trans (hn he)
   refine Wz [41,105,77,18,79,68,13] ?_;refine kc1 c2 ?_;refine Wz [120,26,44,68,100] ?_;refine kc0 c3 ?_;refine Wz [6,81] ?_
   exact .n (k+1) hnx (Yj [0] Aqb)
  ·rw[Gqa he] at c3
   rw[hp_A,hst he]
   refine Wz [41,105,77,18,79,68,13] ?_;refine kc1 c2 ?_;refine Wz [120,26,44,68,100] ?_;refine kc0 c3 ?_;refine Wz [6,32,3,79,68,49,177,57] ?_
   exact E_w [] J (X0 Aqa)
 have f2:decide ((k:Int)<((els x.Used).length:Int))=false:=Gqa Aqa 
 rw[hp_A,fwGo_end Aqa]
 refine Wz [41,105,92,30,101] ?_
 exact Bzh
theorem I_nextC (x:TPeer) (hx:PeerD x) (ok:peerOk x=true):Co 171 [] [ag x] (wR (rwW (nextC x)) []) (.tu [.ag (wC (rwW (nextC x)) 0),.c (bv (rwB (nextC x)))]):=by
 have hs:=Ke ok
 obtain⟨b0,b4⟩:=hs.bt
 obtain⟨_,_,_,_,gT,gB,gN,gU,gS,gM,gF,_,_⟩:=hx.inn.gd
 by_cases h:x.Base.Tick+1=x.Now.Tick
 ·have c1:=Xz x.Now gN hx.inn.nw.1 hx.inn.nw.2.1 hx.inn.nw.2.2
  have f1:decide (x.Base.Tick+1=x.Now.Tick)=true:=Gqb h
  rw[show nextC x=some x.Now from if_pos h]
  refine Con.o func171 ntmps171 fun E=>?_;refine Wz [59,16,3,79,31,13,79,31,20,32,56] ?_;refine kc1 c1 ?_;refine Wz [47,76] ?_
  exact Bz8
 ·have c1:=I_SaveAt x (x.Base.Tick+1) hx ⟨Aqa,Aqa⟩
  have f1:decide (x.Base.Tick+1=x.Now.Tick)=false:=Gqa h
  rw[show nextC x=saveAt x (x.Base.Tick+1) from if_neg h]
  generalize rwW (saveAt x (x.Base.Tick+1))=w at c1 ⊢
  generalize rwB (saveAt x (x.Base.Tick+1))=b at c1 ⊢
  refine Con.o func171 ntmps171 fun E=>?_;refine Wz [59,16,3,79,31,13,79,31,20,28,7,79,31,13] ?_;refine kc1 c1 ?_;refine Wz [305,47,36] ?_
  exact Bz8
end
section
open Tryz
open Go.RowKit

/-! ### Tell -/
theorem I_wsu (w:TWorld) (g:Enc.gd w):Co 172 [] [ag w] [] (I (wsum w)):=by
 have c1:=Xw w g
 have c2:=I_Checksum (worldBytes w) (by have:=Yz w; omega)
 refine Con.o func172 ntmps172 fun E=>?_;refine Wz [96,7] ?_;refine kc0 c1 ?_;refine kc0 c2 ?_;refine Wz [36] ?_
 exact Bzh
theorem S_wsu (w:TWorld) (g:Enc.gd w):Co 145 [] [ag w] [] (I (wsum w)):=by
 have c1:=Ye w g
 have c2:=S_Checksum (worldBytes w) (by have:=Yz w; omega)
 refine Con.o func145 ntmps145 fun E=>?_;refine Wz [96,7] ?_;refine kc0 c1 ?_;refine kc0 c2 ?_;refine Wz [36] ?_
 exact Bzh
/-! ### The stamp -/
/-! ### The bytes -/
end
end Go.Proofs.YtalaljeokcpfnaaGreat
