/-
  Rules, data and contracts of functions: part 30 of the proof.
  Conditions: those that each theorem names.
-/
import Derived.Test.YtpmacgnmlmmojaaGreatDoorDDDiagRowk28
set_option linter.unusedSimpArgs false
set_option linter.unusedVariables false
set_option maxRecDepth 8000
set_option maxHeartbeats 8000000
namespace Go.Proofs.YtpmacgnmlmmojaaGreatDoor
section
open Go.RowKit

theorem els_tr (xs:List TTrack):els xs=els (xs.map (·.Inputs)):=by
 rw[els,els,List.map_map]
 rfl
theorem L_markTrackS (xs:List (List Int)) (k:Int) (hL:xs.length≤1073741824) (ht:tot xs≤1073741824) (h0:0<k) (hk:k≤2147483648):Con Tryz.prog 103 [.row 1 (els xs),.gh 0 (.c (.ref 0))] [.c (.ref 0),ai k] [.row 1 (els (markII xs k)),.gh 0 (.c (.ref 0))] (I (k+tot xs)):=by
 have hml:=markII_len xs k
 refine Con.of Tryz.func103 J Tryz.ntmps103 J (fun E => ?_)
 refine Wz [34,42] ?_;refine Xj (fun m st=>∃ i:Nat,i+m=xs.length∧(True)∧st=(⟨_,[(0,.o (.c (.ref 0))),(1,I (k+tot (xs.take i))),(5,I i)],[.row 1 (els ((markII xs k).take i++xs.drop i)),.gh 0 (.c (.ref 0))]⟩:St)) (xs.length) ⟨(fun i:Nat=>(⟨_,[(0,.o (.c (.ref 0))),(1,I (k+tot (xs.take i))),(5,I i)],[.row 1 (els ((markII xs k).take i++xs.drop i)),.gh 0 (.c (.ref 0))]⟩:St)) 0,⟨0,by omega,trivial,J⟩,V0 [0,1] J (by kernel_rfl) (.c J (.cons (Xv (by simp[tot])) (.c J (.nil))))⟩ ?_
 rintro m_A _ ⟨i,hk_A,hp_A,rfl⟩
 have hl2:(els ((markII xs k).take i++xs.drop i)).length=xs.length:=by rw[Ye,mk_len hml (by omega)]
 refine Wz [18,41,67] ?_
 refine Xb J (fun h => ?_) (fun h => ?_)
 ·have h3:i<xs.length:=by have:=Gqd h; omega
  have hi:i<((markII xs k).take i++xs.drop i).length:=by rw[mk_len hml (by omega)]; exact h3
  have hat:=Yd hi
  rw[mk_at hml h3] at hat
  have ht1:=tot_at h3
  have hc:=L_markIntS xs[i] (k+tot (xs.take i)) (by omega) (by omega) (by omega)
  refine Wz [16,81,122] ?_;refine zx (q_lee J J J J (by assumption) J) J (z0 J ?_);refine M_inner hc J J J J J J J J (by assumption) J ?_;refine Wz [82] ?_
  exact⟨xs.length-(i+1),by omega,(fun i:Nat=>(⟨_,[(0,.o (.c (.ref 0))),(1,I (k+tot (xs.take i))),(5,I i)],[.row 1 (els ((markII xs k).take i++xs.drop i)),.gh 0 (.c (.ref 0))]⟩:St)) (i+1),⟨i+1,by omega,trivial,J⟩,V0 [0,1] J (row2 (mk_next hml h3 (by rw[markII_at h3]; rfl))) (.c J (.cons (Xv (by rw[tot_next h3]; omega)) (.c J (.nil))))⟩
 ·have h3:¬((i:Int)<(els ((markII xs k).take i++xs.drop i)).length):=Gqf h
  have ht1:=tot_end (show xs.length≤i by omega)
  refine Wz [111] ?_
  exact V3 J (V4 [0,1] J (row2 (by rw[mk_end hml (by omega)])) (Xv (by rw[ht1])))
def markV (xs:List TSave) (k:Int):List TSave:=(List.range xs.length).map fun (i:Nat)=>⟨k+2*i,mtext (k+2*i+1)⟩
theorem markV_len (xs:List TSave) (k:Int):(markV xs k).length=xs.length:=by simp[markV]
theorem markV_at {xs:List TSave} {k:Int} {i:Nat} (h:i<(markV xs k).length):(markV xs k)[i]=⟨k+2*i,mtext (k+2*i+1)⟩:=by simp[markV]
theorem L_markSaveS (xs:List TSave) (k:Int) (hL:xs.length≤1048576) (h0:0<k) (hk:k≤4294967296):Con Tryz.prog 106 [.row 2 (els xs),.gh 0 (.c (.ref 0))] [.c (.ref 0),ai k] [.row 2 (els (markV xs k)),.gh 0 (.c (.ref 0))] (I (k+2*xs.length)):=by
 have hml:=markV_len xs k
 refine Con.of Tryz.func106 J Tryz.ntmps106 J (fun E => ?_)
 refine Wz [34,42] ?_;refine Xj (fun m st=>∃ i:Nat,i+m=xs.length∧(True)∧st=(⟨_,[(0,.o (.c (.ref 0))),(1,I (k+2*i)),(5,I i)],[.row 2 (els ((markV xs k).take i++xs.drop i)),.gh 0 (.c (.ref 0))]⟩:St)) (xs.length) ⟨(fun i:Nat=>(⟨_,[(0,.o (.c (.ref 0))),(1,I (k+2*i)),(5,I i)],[.row 2 (els ((markV xs k).take i++xs.drop i)),.gh 0 (.c (.ref 0))]⟩:St)) 0,⟨0,by omega,trivial,J⟩,V0 [0,1] J (by kernel_rfl) (.c J (.cons (Xv (by simp)) (.c J (.nil))))⟩ ?_
 rintro m_A _ ⟨i,hk_A,hp_A,rfl⟩
 have hll:(els ((markV xs k).take i++xs.drop i)).length=xs.length:=by rw[Ye,mk_len hml (by omega)]
 refine Wz [18,41,67] ?_
 refine Xb J (fun h => ?_) (fun h => ?_)
 ·have h3:i<xs.length:=by have:=Gqd h; omega
  have hi:i<((markV xs k).take i++xs.drop i).length:=by rw[mk_len hml (by omega)]; exact h3
  have hat:=Yd hi
  rw[mk_at hml h3] at hat
  obtain⟨es0,hes0⟩:∃ es0,es0=els ((markV xs k).take i++xs.drop i):=⟨_,rfl⟩
  rw[←hes0] at hll hat
  have hq:(i:Int).toNat<es0.length:=by omega
  have hset:∀ L:List T,(es0.set (i:Int).toNat L)[(i:Int).toNat]? = some L:=fun L=>Gxd hq
  have hsln:∀ L:List T,(es0.set (i:Int).toNat L).length=xs.length:=fun L=>by rw[Gq7]; exact hll
  have ct:=L_markText ((k+2*(i:Int))+1) (by omega)
  rw[hes0.symm]
  refine Wz [16,23,0,122,91,3,6,129,23,0] ?_;refine zx (Qj J J (ct) J) J ?_
  have hat0:=hset [.v (.int .i64 (k+2*(i:Int))),.v (.string xs[i].Delta)]
  have hln0:=hsln [.v (.int .i64 (k+2*(i:Int))),.v (.string xs[i].Delta)]
  refine AL.weak (st':=(⟨_,[(0,.o (.c (.ref 0))),(1,I ((k+2*(i:Int))+1)),(5,I i),(19,.o (.c (.ref 0))),(20,I i),(22,S (mtext ((k+2*(i:Int))+1)))],[.row 2 (es0.set (i:Int).toNat [.v (.int .i64 (k+2*(i:Int))),.v (.string xs[i].Delta)]),.gh 0 (.c (.ref 0))]⟩:St)) (V0 [0,1] J (row2 J) (.c J (.c J (.c J (.c J (.c J (.c J (.nil)))))))) ?_;refine Wz [122,91,3,65,30,82] ?_
  have hend:els ((markV xs k).take (i+1)++xs.drop (i+1))=es0.set (i:Int).toNat [.v (.int .i64 (k+2*(i:Int))),.v (.string (mtext ((k+2*(i:Int))+1)))]:=by
   rw[mk_nextE hml h3,markV_at,hes0]
   rfl
  exact⟨xs.length-(i+1),by omega,(fun i:Nat=>(⟨_,[(0,.o (.c (.ref 0))),(1,I (k+2*i)),(5,I i)],[.row 2 (els ((markV xs k).take i++xs.drop i)),.gh 0 (.c (.ref 0))]⟩:St)) (i+1),⟨i+1,by omega,trivial,J⟩,V0 [0,1] J (row2 (hend.trans (List.set_set _).symm)) (.c J (.cons (Xv (by omega)) (.c J (.nil))))⟩
 ·have h3:¬i<xs.length:=by have:=Gqf h; omega
  have hk2:i=xs.length:=by omega
  subst hk2
  refine Wz [111] ?_
  exact V3 J (V4 [0,1] J (row2 (by rw[mk_end hml (Gqk _)])) J)
def cntP (x:TPeer) (k:Int):Int:=cntW x.Now (cntW x.Base (k+tot (x.Tracks.map (·.Inputs))))+tot x.Used+2*x.Saves.length+x.Sums.length
structure MarkIn (x:TPeer):Prop where
 tr:x.Tracks.length≤1048576∧tot (x.Tracks.map (·.Inputs))≤1048576
 bw:x.Base.Level.Rows.length≤1048576∧x.Base.Scores.length≤1048576∧x.Base.Bodies.length≤1048576
 nw:x.Now.Level.Rows.length≤1048576∧x.Now.Scores.length≤1048576∧x.Now.Bodies.length≤1048576
 us:x.Used.length≤1048576∧tot x.Used≤1048576
 sv:x.Saves.length≤1048576
 sm:x.Sums.length≤1048576
@[reducible] def pO (x:TPeer):List Ob := [.row 1 (els x.Tracks),.row 1 (els x.Base.Level.Rows),.row 1 (els x.Base.Scores),.row 9 (els x.Base.Bodies),.row 1 (els x.Now.Level.Rows),.row 1 (els x.Now.Scores),.row 9 (els x.Now.Bodies),.row 1 (els x.Used),.row 2 (els x.Saves),.row 1 (els x.Sums)]
@[reducible] def iw (n:Int):V1 := .rd [] (.v (.int .i64 n))
@[reducible] def pV (p:TPeer) (a b c d e f g h i j:Nat):List V1 := [iw p.Me,iw p.Delay,iw p.Ahead,iw p.Seed,.ref a,.ref b,iw p.Base.Tick,iw p.Base.Seed,.ref c,.ref d,.ref e,iw p.Now.Tick,iw p.Now.Seed,.ref f,.ref g,.ref h,.ref i,.ref j,iw p.Fault.Tick,iw p.Fault.Player,iw p.Fault.Add,iw p.Rolls,iw p.Again]
def k1P (x:TPeer) (k:Int):Int:=k+tot (x.Tracks.map (·.Inputs))
def k2P (x:TPeer) (k:Int):Int:=cntW x.Now (cntW x.Base (k1P x k))
@[reducible] def pM (x:TPeer) (k:Int):List Ob := [.row 1 (els (markII (x.Tracks.map (·.Inputs)) k)),.row 1 (els (markW x.Base (k1P x k)).Level.Rows),.row 1 (els (markW x.Base (k1P x k)).Scores),.row 9 (els (markW x.Base (k1P x k)).Bodies),.row 1 (els (markW x.Now (cntW x.Base (k1P x k))).Level.Rows),.row 1 (els (markW x.Now (cntW x.Base (k1P x k))).Scores),.row 9 (els (markW x.Now (cntW x.Base (k1P x k))).Bodies),.row 1 (els (markII x.Used (k2P x k))),.row 2 (els (markV x.Saves (k2P x k+tot x.Used))),.row 1 (els (markI x.Sums (k2P x k+tot x.Used+2*x.Saves.length)))]
theorem L_markPeer (x:TPeer) (k:Int) (h:MarkIn x) (h0:0<k) (hk:k≤134217728):Con Tryz.prog 31 (pO x ++ [.gh 0 (.ag (pV x 0 1 2 3 4 5 6 7 8 9))]) [.ag (pV x 0 1 2 3 4 5 6 7 8 9),ai k] (pM x k ++ [.gh 0 (.ag (pV x 0 1 2 3 4 5 6 7 8 9))]) (I (cntP x k)):=by
 obtain⟨⟨a1,a2⟩,⟨b1,b2,b3⟩,⟨c1,c2,c3⟩,⟨d1,d2⟩,e1,f1⟩:=h
 have q1:0<k1P x k∧k1P x k≤135266304:=by unfold k1P; omega
 have q2:0<cntW x.Base (k1P x k)∧cntW x.Base (k1P x k)≤146800640:=by unfold cntW; omega
 have q3:0<k2P x k∧k2P x k≤158334976:=by unfold k2P cntW at *; omega
 have cT:=L_markTrackS (x.Tracks.map (·.Inputs)) k (by rw[List.length_map]; omega) (by omega) h0 (by omega)
 rw[←els_tr] at cT
 have cB:=L_markWorld x.Base (k1P x k) b1 b2 b3 q1.1 (by omega)
 have cN:=L_markWorld x.Now (cntW x.Base (k1P x k)) c1 c2 c3 q2.1 (by omega)
 have cU:=L_markIntSS x.Used (k2P x k) (by omega) (by omega) q3.1 (by omega)
 have cV:=L_markSaveS x.Saves (k2P x k+tot x.Used) e1 (by omega) (by omega)
 have cS:=L_markIntS x.Sums (k2P x k+tot x.Used+2*x.Saves.length) (by omega) (by omega) (by omega)
 have hr:cntP x k=k2P x k+tot x.Used+2*x.Saves.length+x.Sums.length:=rfl
 rw[hr]
 refine Con.of Tryz.func31 J Tryz.ntmps31 J (fun E => ?_)
 refine Wz [44,32] ?_;refine Xd (lo := [_]) (gs := [(0,.c (.ref 0))]) (lo' := [_]) (new := []) [0] [(0,0,.ref 0)] (cT) J J J J J J J J J J J J J J J J J ?_;refine AL.weak (st':=(⟨30,[(2,.o (.c (.ptr 11 0))),(8,I (k1P x k))],[.row 1 (els (markII (x.Tracks.map (·.Inputs)) k)),.row 1 (els x.Base.Level.Rows),.row 1 (els x.Base.Scores),.row 9 (els x.Base.Bodies),.row 1 (els x.Now.Level.Rows),.row 1 (els x.Now.Scores),.row 9 (els x.Now.Bodies),.row 1 (els x.Used),.row 2 (els x.Saves),.row 1 (els x.Sums),.gh 0 (.ag (pV x 0 1 2 3 4 5 6 7 8 9)),.box (pV x 0 1 2 3 4 5 6 7 8 9)]⟩:St)) (V0 [0,1,2,3,4,5,6,7,8,9,10,11] J ((by kernel_rfl)) (.c J (.c J (.nil)))) ?_;refine Wz [2,93,0] ?_;refine Xd (lo := [_,_,_]) (gs := [(0,.ag (ownV 0 (Enc.e x.Base)))]) (lo' := [_,_,_]) (new := []) [1,2,3] [(0,0,.ref 0),(0,3,.ref 1),(0,4,.ref 2)] (cB) J J J J J J J J J J J J J J J J J ?_;refine AL.weak (st':=(⟨30,[(2,.o (.c (.ptr 11 0))),(12,I (cntW x.Base (k1P x k)))],[.row 1 (els (markII (x.Tracks.map (·.Inputs)) k)),.row 1 (els (markW x.Base (k1P x k)).Level.Rows),.row 1 (els (markW x.Base (k1P x k)).Scores),.row 9 (els (markW x.Base (k1P x k)).Bodies),.row 1 (els x.Now.Level.Rows),.row 1 (els x.Now.Scores),.row 9 (els x.Now.Bodies),.row 1 (els x.Used),.row 2 (els x.Saves),.row 1 (els x.Sums),.gh 0 (.ag (pV x 0 1 2 3 4 5 6 7 8 9)),.box (pV x 0 1 2 3 4 5 6 7 8 9)]⟩:St)) (V0 [0,1,2,3,4,5,6,7,8,9,10,11] J ((by kernel_rfl)) (.c J (.c J (.nil)))) ?_;refine Wz [2,93,0] ?_;refine Xd (lo := [_,_,_]) (gs := [(0,.ag (ownV 0 (Enc.e x.Now)))]) (lo' := [_,_,_]) (new := []) [4,5,6] [(0,0,.ref 0),(0,3,.ref 1),(0,4,.ref 2)] (cN) J J J J J J J J J J J J J J J J J ?_;refine AL.weak (st':=(⟨30,[(2,.o (.c (.ptr 11 0))),(16,I (k2P x k))],[.row 1 (els (markII (x.Tracks.map (·.Inputs)) k)),.row 1 (els (markW x.Base (k1P x k)).Level.Rows),.row 1 (els (markW x.Base (k1P x k)).Scores),.row 9 (els (markW x.Base (k1P x k)).Bodies),.row 1 (els (markW x.Now (cntW x.Base (k1P x k))).Level.Rows),.row 1 (els (markW x.Now (cntW x.Base (k1P x k))).Scores),.row 9 (els (markW x.Now (cntW x.Base (k1P x k))).Bodies),.row 1 (els x.Used),.row 2 (els x.Saves),.row 1 (els x.Sums),.gh 0 (.ag (pV x 0 1 2 3 4 5 6 7 8 9)),.box (pV x 0 1 2 3 4 5 6 7 8 9)]⟩:St)) (V0 [0,1,2,3,4,5,6,7,8,9,10,11] J ((by kernel_rfl)) (.c J (.c J (.nil)))) ?_;refine Wz [2,32] ?_;refine Xd (lo := [_]) (gs := [(0,.c (.ref 0))]) (lo' := [_]) (new := []) [7] [(0,0,.ref 0)] (cU) J J J J J J J J J J J J J J J J J ?_;refine AL.weak (st':=(⟨30,[(2,.o (.c (.ptr 11 0))),(20,I (k2P x k+tot x.Used))],[.row 1 (els (markII (x.Tracks.map (·.Inputs)) k)),.row 1 (els (markW x.Base (k1P x k)).Level.Rows),.row 1 (els (markW x.Base (k1P x k)).Scores),.row 9 (els (markW x.Base (k1P x k)).Bodies),.row 1 (els (markW x.Now (cntW x.Base (k1P x k))).Level.Rows),.row 1 (els (markW x.Now (cntW x.Base (k1P x k))).Scores),.row 9 (els (markW x.Now (cntW x.Base (k1P x k))).Bodies),.row 1 (els (markII x.Used (k2P x k))),.row 2 (els x.Saves),.row 1 (els x.Sums),.gh 0 (.ag (pV x 0 1 2 3 4 5 6 7 8 9)),.box (pV x 0 1 2 3 4 5 6 7 8 9)]⟩:St)) (V0 [0,1,2,3,4,5,6,7,8,9,10,11] J ((by kernel_rfl)) (.c J (.c J (.nil)))) ?_;refine Wz [2,32] ?_;refine Xd (lo := [_]) (gs := [(0,.c (.ref 0))]) (lo' := [_]) (new := []) [8] [(0,0,.ref 0)] (cV) J J J J J J J J J J J J J J J J J ?_;refine AL.weak (st':=(⟨30,[(2,.o (.c (.ptr 11 0))),(24,I (k2P x k+tot x.Used+2*x.Saves.length))],[.row 1 (els (markII (x.Tracks.map (·.Inputs)) k)),.row 1 (els (markW x.Base (k1P x k)).Level.Rows),.row 1 (els (markW x.Base (k1P x k)).Scores),.row 9 (els (markW x.Base (k1P x k)).Bodies),.row 1 (els (markW x.Now (cntW x.Base (k1P x k))).Level.Rows),.row 1 (els (markW x.Now (cntW x.Base (k1P x k))).Scores),.row 9 (els (markW x.Now (cntW x.Base (k1P x k))).Bodies),.row 1 (els (markII x.Used (k2P x k))),.row 2 (els (markV x.Saves (k2P x k+tot x.Used))),.row 1 (els x.Sums),.gh 0 (.ag (pV x 0 1 2 3 4 5 6 7 8 9)),.box (pV x 0 1 2 3 4 5 6 7 8 9)]⟩:St)) (V0 [0,1,2,3,4,5,6,7,8,9,10,11] J ((by kernel_rfl)) (.c J (.c J (.nil)))) ?_;refine Wz [2,32] ?_;refine Xd (lo := [_]) (gs := [(0,.c (.ref 0))]) (lo' := [_]) (new := []) [9] [(0,0,.ref 0)] (cS) J J J J J J J J J J J J J J J J J ?_;refine AL.weak (st':=(⟨30,[(2,.o (.c (.ptr 11 0))),(28,I (k2P x k+tot x.Used+2*x.Saves.length+x.Sums.length))],[.row 1 (els (markII (x.Tracks.map (·.Inputs)) k)),.row 1 (els (markW x.Base (k1P x k)).Level.Rows),.row 1 (els (markW x.Base (k1P x k)).Scores),.row 9 (els (markW x.Base (k1P x k)).Bodies),.row 1 (els (markW x.Now (cntW x.Base (k1P x k))).Level.Rows),.row 1 (els (markW x.Now (cntW x.Base (k1P x k))).Scores),.row 9 (els (markW x.Now (cntW x.Base (k1P x k))).Bodies),.row 1 (els (markII x.Used (k2P x k))),.row 2 (els (markV x.Saves (k2P x k+tot x.Used))),.row 1 (els (markI x.Sums (k2P x k+tot x.Used+2*x.Saves.length))),.gh 0 (.ag (pV x 0 1 2 3 4 5 6 7 8 9)),.box (pV x 0 1 2 3 4 5 6 7 8 9)]⟩:St)) (V0 [0,1,2,3,4,5,6,7,8,9,10,11] J ((by kernel_rfl)) (.c J (.c J (.nil)))) ?_;refine Wz [73,48] ?_
 exact V3 J (V4 [0,1,2,3,4,5,6,7,8,9,10] J J J)
end
section
open Go.RowKit

theorem tot_trs:∀ xs:List TTrack,tot (xs.map (·.Inputs))≤wts xs
 | []=>Gqk _
 |x::xs=>by
  have h1:=tot_trs xs
  have h2:tot ((x::xs).map (·.Inputs))=x.Inputs.length+tot (xs.map (·.Inputs)):=by simp[tot]
  have h3:wts (x::xs)=(x.Inputs.length+wts x.Inputs)+wts xs:=rfl
  omega
theorem wt_World (w:TWorld):Enc.wt w=(w.Level.Rows.length+wts w.Level.Rows)+(w.Scores.length+wts w.Scores)+(w.Bodies.length+wts w.Bodies):=rfl
theorem wt_Peer (x:TPeer):Enc.wt x=(x.Tracks.length+wts x.Tracks)+Enc.wt x.Base+Enc.wt x.Now+(x.Used.length+wts x.Used)+(x.Saves.length+wts x.Saves)+(x.Sums.length+wts x.Sums)+Enc.wt x.Fault:=rfl
theorem mark_in {x:TPeer} (hw:Enc.wt x≤1048576):MarkIn x:=by
 rw[wt_Peer,wt_World,wt_World] at hw
 have h1:=tot_wts x.Used
 have h2:=tot_trs x.Tracks
 exact⟨⟨by omega,by omega⟩,⟨by omega,by omega,by omega⟩,⟨by omega,by omega,by omega⟩,⟨by omega,by omega⟩,by omega,by omega⟩
theorem cnt_in {x:TPeer} (h:MarkIn x) (k:Int) (h0:0<k):0<cntP x k∧cntP x k≤k+33554432:=by
 obtain⟨⟨a1,a2⟩,⟨b1,b2,b3⟩,⟨c1,c2,c3⟩,⟨d1,d2⟩,e1,f1⟩:=h
 unfold cntP cntW
 omega
theorem peer_in {x:TPeer} (g:Enc.gd x) (hw:Enc.wt x≤1048576) (ho:peerOk x=true):PeerIn x:=by
 have ⟨⟨o1,o2,o3,o4⟩,⟨o5,o6,o7⟩,⟨o8,o9,o10⟩,_,⟨u1,u2,u3⟩,_⟩:=Y4 ho
 have h1:=Kb o1
 rw[wt_Peer,wt_World,wt_World] at hw
 refine⟨g,⟨by omega,fun t ht => ?_⟩,⟨by omega,by omega,by omega⟩,⟨by omega,by omega,by omega⟩,⟨by omega,fun r hr => ?_⟩,by omega,by omega⟩
 ·have h2:=wts_le x.Tracks t ht
  have h3:Enc.wt t=t.Inputs.length+wts t.Inputs:=rfl
  omega
 ·have h2:=wts_le x.Used r hr
  have h3:Enc.wt r=r.length+wts r:=rfl
  omega
theorem parts_mem (x:TWorld):∀ s∈partsOf x,s.size≤1099511627776:=fun s hs=>by
 unfold partsOf at hs
 split at hs
 ·rename_i h
  obtain⟨_,_,_,hn,_,hb,_⟩:=Kd h
  simp only[partsTo,Gqq,List.mem_cons,Gqx,List.mem_range] at hs
  rcases hs with (rfl | ⟨k,hk,rfl⟩) | ⟨k,hk,rfl⟩
  ·decide
  ·have:=Ym k
   rw[scoreN,Yb,X9]; simp; omega
  ·have:=Ym k
   rw[bodyN,Yb,X9]; simp; omega
 ·simp at hs
theorem differ_gd (a b:TWorld):(differ a b).length≤58∧∀ s∈differ a b,s.size≤1099511627776:=by
 by_cases h:worldOk a=true∧worldOk b=true
 ·rw[←oB_all h.1 h.2]
  refine⟨oB_len a b _,fun s hs => ?_⟩
  rw[oB,oA,List.nil_append,Gqq] at hs
  rcases hs with hs | hs
  ·exact parts_mem a s (Gxh (List.mem_filter.1 hs).1)
  ·exact parts_mem b s (Gxh (List.mem_filter.1 hs).1)
 ·rw[differ_no h]; simp
theorem diag_gd (x y:TPeer):Enc.gd (diagV x y)∧(diagV x y).Parts.length≤1048576:=by
 have hz:Enc.gd (⟨0,[]⟩:TAlarm)∧(⟨0,[]⟩:TAlarm).Parts.length≤1048576:=⟨⟨⟨by show (-9223372036854775808:Int)≤0; omega,by show (0:Int)≤9223372036854775807; omega⟩,⟨by show (0:Nat)≤_; omega,fun x hx=>by cases hx⟩⟩,by show (0:Nat)≤_; omega⟩
 rw[diagV]
 split
 ·rename_i hd
  have hs:startH x.Sums y.Sums=true∧peerOk x=true:=by
   rw[diagB] at hd
   simp only[Gqg] at hd
   exact⟨hd.2,hd.1.1⟩
  obtain⟨F,hF,hFx,hFy⟩:=hunted_yes hs.1
  have h4:=(Z8 hs.2 hFx).2
  obtain⟨h1,h2⟩:=differ_gd (runP x (hunted x.Sums y.Sums).1.toNat) (runP y (hunted x.Sums y.Sums).1.toNat)
  refine⟨⟨⟨?_,?_⟩,⟨by show (differ _ _).length≤_; omega,fun s hs=>by have:=h2 s hs; show s.size≤_; omega⟩⟩,by show (differ _ _).length≤_; omega⟩
  ·rw[hF]; show (-9223372036854775808:Int)≤F; omega
  ·rw[hF]; show (F:Int)≤9223372036854775807; omega
 ·exact hz
end
section
open Go.RowKit

theorem L_markAlarm (t:Int) (xs:List ByteArray) (k:Int) (hL:xs.length≤1048577) (h0:0<k) (hk:k≤1073741823) (hL2:xs.length≤1048576):Con Tryz.prog 32 [.row 1 (els xs),.gh 0 (.ag [jn t,.ref 0])] [.ag [jn t,.ref 0],ai k] [.row 1 (els (markS xs k)),.gh 0 (.ag [jn t,.ref 0])] (I (k+xs.length)):=by
 refine Con.of Tryz.func32 J Tryz.ntmps32 J (fun E => ?_)
 refine Wz [44,32] ?_;refine Xd (lo := [_]) (gs := [(0,.c (.ref 0))]) (lo' := [_]) (new := []) [0] [(0,0,.ref 0)] (L_markStringS xs k hL2 h0 (by omega)) J J J J J J J J J J J J J J J J J ?_;refine Wz [73,48] ?_
 exact V3 J (V4 [0,1] J J J)
theorem L_heldAlarm (t:Int) (xs:List ByteArray) (k:Int) (hL:xs.length≤1048576) (h0:0<k) (hk:k≤1073741823):Con Tryz.prog 33 [] [ag (⟨t,markS xs k⟩:TAlarm),ai k] [] (I (k+xs.length)):=by
 have hn:decide (k+(xs.length:Int)<0)=false:=Gqa (by omega)
 refine Con.of Tryz.func33 J Tryz.ntmps33 J (fun E => ?_)
 refine Wz [44,32] ?_;refine zx (Qj J J (L_heldStringS xs k hL h0 (by omega)) J) J ?_;refine Wz [59,224] ?_
 exact V3 J (V4 [] J J J)
end
section
open Go.RowKit

theorem to_Peer (x:TPeer) (hg:Enc.wt x≤1048576):Con Tryz.prog 28 [] [ag x] [.row 1 (els x.Tracks),.row 1 (els x.Base.Level.Rows),.row 1 (els x.Base.Scores),.row 9 (els x.Base.Bodies),.row 1 (els x.Now.Level.Rows),.row 1 (els x.Now.Scores),.row 9 (els x.Now.Bodies),.row 1 (els x.Used),.row 2 (els x.Saves),.row 1 (els x.Sums)] (.o (.ag [.rd [] (.v (.int .i64 x.Me)),.rd [] (.v (.int .i64 x.Delay)),.rd [] (.v (.int .i64 x.Ahead)),.rd [] (.v (.int .i64 x.Seed)),.ref 0,.ref 1,.rd [] (.v (.int .i64 x.Base.Tick)),.rd [] (.v (.int .i64 x.Base.Seed)),.ref 2,.ref 3,.ref 4,.rd [] (.v (.int .i64 x.Now.Tick)),.rd [] (.v (.int .i64 x.Now.Seed)),.ref 5,.ref 6,.ref 7,.ref 8,.ref 9,.rd [] (.v (.int .i64 x.Fault.Tick)),.rd [] (.v (.int .i64 x.Fault.Player)),.rd [] (.v (.int .i64 x.Fault.Add)),.rd [] (.v (.int .i64 x.Rolls)),.rd [] (.v (.int .i64 x.Again))])):=by
 have hw:Enc.wt x=Enc.wt x.Tracks+Enc.wt x.Base+Enc.wt x.Now+Enc.wt x.Used+Enc.wt x.Saves+Enc.wt x.Sums+Enc.wt x.Fault:=rfl
 refine Con.of Tryz.func28 J Tryz.ntmps28 J (fun E => ?_)
 refine Wz [118,1,163,14,20,14,20,14,20,14,20,14] ?_;refine AL.weak (st':=(⟨_,[(1,.o (.c (.ptr 0 0))),(2,.o (.c (.ptr 1 0))),(3,.o (.c (.ptr 2 0))),(17,L x.Tracks)],[.box ((Enc.e x).map (V1.rd [])),.box [.rd [] (.v (.int .i64 0)),.rd [] (.v (.int .i64 0)),.rd [] (.v (.int .i64 0)),.rd [] (.v (.int .i64 0)),.rd [] (.v (.slice none 0 0)),.rd [] (.v (.slice none 0 0)),.rd [] (.v (.int .i64 0)),.rd [] (.v (.int .i64 0)),.rd [] (.v (.slice none 0 0)),.rd [] (.v (.slice none 0 0)),.rd [] (.v (.slice none 0 0)),.rd [] (.v (.int .i64 0)),.rd [] (.v (.int .i64 0)),.rd [] (.v (.slice none 0 0)),.rd [] (.v (.slice none 0 0)),.rd [] (.v (.slice none 0 0)),.rd [] (.v (.slice none 0 0)),.rd [] (.v (.slice none 0 0)),.rd [] (.v (.int .i64 0)),.rd [] (.v (.int .i64 0)),.rd [] (.v (.int .i64 0)),.rd [] (.v (.int .i64 0)),.rd [] (.v (.int .i64 0))],.box [.rd [] (.v (.int .i64 x.Me)),.rd [] (.v (.int .i64 x.Delay)),.rd [] (.v (.int .i64 x.Ahead)),.rd [] (.v (.int .i64 x.Seed)),.rd [] (.v (.slice none 0 0)),.rd [] (.v (.slice none 0 0)),.rd [] (.v (.int .i64 0)),.rd [] (.v (.int .i64 0)),.rd [] (.v (.slice none 0 0)),.rd [] (.v (.slice none 0 0)),.rd [] (.v (.slice none 0 0)),.rd [] (.v (.int .i64 0)),.rd [] (.v (.int .i64 0)),.rd [] (.v (.slice none 0 0)),.rd [] (.v (.slice none 0 0)),.rd [] (.v (.slice none 0 0)),.rd [] (.v (.slice none 0 0)),.rd [] (.v (.slice none 0 0)),.rd [] (.v (.int .i64 0)),.rd [] (.v (.int .i64 0)),.rd [] (.v (.int .i64 0)),.rd [] (.v (.int .i64 0)),.rd [] (.v (.int .i64 0))]]⟩:St)) (Ua [0,1,2]) ?_;refine M1 (Zc J J (to_TrackS x.Tracks (by omega)) J J J) J J ?_;refine Wz [20,93] ?_;refine AL.weak (st':=(⟨_,[(1,.o (.c (.ptr 0 0))),(2,.o (.c (.ptr 1 0))),(3,.o (.c (.ptr 2 0))),(21,.o (.ag ((Enc.e x.Base).map (V1.rd []))))],[.box ((Enc.e x).map (V1.rd [])),.box [.rd [] (.v (.int .i64 0)),.rd [] (.v (.int .i64 0)),.rd [] (.v (.int .i64 0)),.rd [] (.v (.int .i64 0)),.rd [] (.v (.slice none 0 0)),.rd [] (.v (.slice none 0 0)),.rd [] (.v (.int .i64 0)),.rd [] (.v (.int .i64 0)),.rd [] (.v (.slice none 0 0)),.rd [] (.v (.slice none 0 0)),.rd [] (.v (.slice none 0 0)),.rd [] (.v (.int .i64 0)),.rd [] (.v (.int .i64 0)),.rd [] (.v (.slice none 0 0)),.rd [] (.v (.slice none 0 0)),.rd [] (.v (.slice none 0 0)),.rd [] (.v (.slice none 0 0)),.rd [] (.v (.slice none 0 0)),.rd [] (.v (.int .i64 0)),.rd [] (.v (.int .i64 0)),.rd [] (.v (.int .i64 0)),.rd [] (.v (.int .i64 0)),.rd [] (.v (.int .i64 0))],.box [.rd [] (.v (.int .i64 x.Me)),.rd [] (.v (.int .i64 x.Delay)),.rd [] (.v (.int .i64 x.Ahead)),.rd [] (.v (.int .i64 x.Seed)),.ref 3,.rd [] (.v (.slice none 0 0)),.rd [] (.v (.int .i64 0)),.rd [] (.v (.int .i64 0)),.rd [] (.v (.slice none 0 0)),.rd [] (.v (.slice none 0 0)),.rd [] (.v (.slice none 0 0)),.rd [] (.v (.int .i64 0)),.rd [] (.v (.int .i64 0)),.rd [] (.v (.slice none 0 0)),.rd [] (.v (.slice none 0 0)),.rd [] (.v (.slice none 0 0)),.rd [] (.v (.slice none 0 0)),.rd [] (.v (.slice none 0 0)),.rd [] (.v (.int .i64 0)),.rd [] (.v (.int .i64 0)),.rd [] (.v (.int .i64 0)),.rd [] (.v (.int .i64 0)),.rd [] (.v (.int .i64 0))],.row 1 (els x.Tracks)]⟩:St)) (Ua [0,1,2,3]) ?_;refine M1 (Zc J J (to_World x.Base (by omega)) J J J) J J ?_;refine Wz [171,120,93] ?_;refine AL.weak (st':=(⟨_,[(1,.o (.c (.ptr 0 0))),(2,.o (.c (.ptr 1 0))),(3,.o (.c (.ptr 2 0))),(25,.o (.ag ((Enc.e x.Now).map (V1.rd []))))],[.box ((Enc.e x).map (V1.rd [])),.box [.rd [] (.v (.int .i64 0)),.rd [] (.v (.int .i64 0)),.rd [] (.v (.int .i64 0)),.rd [] (.v (.int .i64 0)),.rd [] (.v (.slice none 0 0)),.rd [] (.v (.slice none 0 0)),.rd [] (.v (.int .i64 0)),.rd [] (.v (.int .i64 0)),.rd [] (.v (.slice none 0 0)),.rd [] (.v (.slice none 0 0)),.rd [] (.v (.slice none 0 0)),.rd [] (.v (.int .i64 0)),.rd [] (.v (.int .i64 0)),.rd [] (.v (.slice none 0 0)),.rd [] (.v (.slice none 0 0)),.rd [] (.v (.slice none 0 0)),.rd [] (.v (.slice none 0 0)),.rd [] (.v (.slice none 0 0)),.rd [] (.v (.int .i64 0)),.rd [] (.v (.int .i64 0)),.rd [] (.v (.int .i64 0)),.rd [] (.v (.int .i64 0)),.rd [] (.v (.int .i64 0))],.box [.rd [] (.v (.int .i64 x.Me)),.rd [] (.v (.int .i64 x.Delay)),.rd [] (.v (.int .i64 x.Ahead)),.rd [] (.v (.int .i64 x.Seed)),.ref 3,.ref 4,.rd [] (.v (.int .i64 x.Base.Tick)),.rd [] (.v (.int .i64 x.Base.Seed)),.ref 5,.ref 6,.rd [] (.v (.slice none 0 0)),.rd [] (.v (.int .i64 0)),.rd [] (.v (.int .i64 0)),.rd [] (.v (.slice none 0 0)),.rd [] (.v (.slice none 0 0)),.rd [] (.v (.slice none 0 0)),.rd [] (.v (.slice none 0 0)),.rd [] (.v (.slice none 0 0)),.rd [] (.v (.int .i64 0)),.rd [] (.v (.int .i64 0)),.rd [] (.v (.int .i64 0)),.rd [] (.v (.int .i64 0)),.rd [] (.v (.int .i64 0))],.row 1 (els x.Tracks),.row 1 (els x.Base.Level.Rows),.row 1 (els x.Base.Scores),.row 9 (els x.Base.Bodies)]⟩:St)) (Ua [0,1,2,3,4,5,6]) ?_;refine M1 (Zc J J (to_World x.Now (by omega)) J J J) J J ?_;refine Wz [171,120,14] ?_;refine AL.weak (st':=(⟨_,[(1,.o (.c (.ptr 0 0))),(2,.o (.c (.ptr 1 0))),(3,.o (.c (.ptr 2 0))),(29,L x.Used)],[.box ((Enc.e x).map (V1.rd [])),.box [.rd [] (.v (.int .i64 0)),.rd [] (.v (.int .i64 0)),.rd [] (.v (.int .i64 0)),.rd [] (.v (.int .i64 0)),.rd [] (.v (.slice none 0 0)),.rd [] (.v (.slice none 0 0)),.rd [] (.v (.int .i64 0)),.rd [] (.v (.int .i64 0)),.rd [] (.v (.slice none 0 0)),.rd [] (.v (.slice none 0 0)),.rd [] (.v (.slice none 0 0)),.rd [] (.v (.int .i64 0)),.rd [] (.v (.int .i64 0)),.rd [] (.v (.slice none 0 0)),.rd [] (.v (.slice none 0 0)),.rd [] (.v (.slice none 0 0)),.rd [] (.v (.slice none 0 0)),.rd [] (.v (.slice none 0 0)),.rd [] (.v (.int .i64 0)),.rd [] (.v (.int .i64 0)),.rd [] (.v (.int .i64 0)),.rd [] (.v (.int .i64 0)),.rd [] (.v (.int .i64 0))],.box [.rd [] (.v (.int .i64 x.Me)),.rd [] (.v (.int .i64 x.Delay)),.rd [] (.v (.int .i64 x.Ahead)),.rd [] (.v (.int .i64 x.Seed)),.ref 3,.ref 4,.rd [] (.v (.int .i64 x.Base.Tick)),.rd [] (.v (.int .i64 x.Base.Seed)),.ref 5,.ref 6,.ref 7,.rd [] (.v (.int .i64 x.Now.Tick)),.rd [] (.v (.int .i64 x.Now.Seed)),.ref 8,.ref 9,.rd [] (.v (.slice none 0 0)),.rd [] (.v (.slice none 0 0)),.rd [] (.v (.slice none 0 0)),.rd [] (.v (.int .i64 0)),.rd [] (.v (.int .i64 0)),.rd [] (.v (.int .i64 0)),.rd [] (.v (.int .i64 0)),.rd [] (.v (.int .i64 0))],.row 1 (els x.Tracks),.row 1 (els x.Base.Level.Rows),.row 1 (els x.Base.Scores),.row 9 (els x.Base.Bodies),.row 1 (els x.Now.Level.Rows),.row 1 (els x.Now.Scores),.row 9 (els x.Now.Bodies)]⟩:St)) (Ua [0,1,2,3,4,5,6,7,8,9]) ?_;refine M1 (Zc J J (to_IntSS x.Used (by omega)) J J J) J J ?_;refine Wz [20,14] ?_;refine AL.weak (st':=(⟨_,[(1,.o (.c (.ptr 0 0))),(2,.o (.c (.ptr 1 0))),(3,.o (.c (.ptr 2 0))),(33,L x.Saves)],[.box ((Enc.e x).map (V1.rd [])),.box [.rd [] (.v (.int .i64 0)),.rd [] (.v (.int .i64 0)),.rd [] (.v (.int .i64 0)),.rd [] (.v (.int .i64 0)),.rd [] (.v (.slice none 0 0)),.rd [] (.v (.slice none 0 0)),.rd [] (.v (.int .i64 0)),.rd [] (.v (.int .i64 0)),.rd [] (.v (.slice none 0 0)),.rd [] (.v (.slice none 0 0)),.rd [] (.v (.slice none 0 0)),.rd [] (.v (.int .i64 0)),.rd [] (.v (.int .i64 0)),.rd [] (.v (.slice none 0 0)),.rd [] (.v (.slice none 0 0)),.rd [] (.v (.slice none 0 0)),.rd [] (.v (.slice none 0 0)),.rd [] (.v (.slice none 0 0)),.rd [] (.v (.int .i64 0)),.rd [] (.v (.int .i64 0)),.rd [] (.v (.int .i64 0)),.rd [] (.v (.int .i64 0)),.rd [] (.v (.int .i64 0))],.box [.rd [] (.v (.int .i64 x.Me)),.rd [] (.v (.int .i64 x.Delay)),.rd [] (.v (.int .i64 x.Ahead)),.rd [] (.v (.int .i64 x.Seed)),.ref 3,.ref 4,.rd [] (.v (.int .i64 x.Base.Tick)),.rd [] (.v (.int .i64 x.Base.Seed)),.ref 5,.ref 6,.ref 7,.rd [] (.v (.int .i64 x.Now.Tick)),.rd [] (.v (.int .i64 x.Now.Seed)),.ref 8,.ref 9,.ref 10,.rd [] (.v (.slice none 0 0)),.rd [] (.v (.slice none 0 0)),.rd [] (.v (.int .i64 0)),.rd [] (.v (.int .i64 0)),.rd [] (.v (.int .i64 0)),.rd [] (.v (.int .i64 0)),.rd [] (.v (.int .i64 0))],.row 1 (els x.Tracks),.row 1 (els x.Base.Level.Rows),.row 1 (els x.Base.Scores),.row 9 (els x.Base.Bodies),.row 1 (els x.Now.Level.Rows),.row 1 (els x.Now.Scores),.row 9 (els x.Now.Bodies),.row 1 (els x.Used)]⟩:St)) (Ua [0,1,2,3,4,5,6,7,8,9,10]) ?_;refine M1 (Zc J J (to_SaveS x.Saves (by omega)) J J J) J J ?_;refine Wz [20,14] ?_;refine AL.weak (st':=(⟨_,[(1,.o (.c (.ptr 0 0))),(2,.o (.c (.ptr 1 0))),(3,.o (.c (.ptr 2 0))),(37,L x.Sums)],[.box ((Enc.e x).map (V1.rd [])),.box [.rd [] (.v (.int .i64 0)),.rd [] (.v (.int .i64 0)),.rd [] (.v (.int .i64 0)),.rd [] (.v (.int .i64 0)),.rd [] (.v (.slice none 0 0)),.rd [] (.v (.slice none 0 0)),.rd [] (.v (.int .i64 0)),.rd [] (.v (.int .i64 0)),.rd [] (.v (.slice none 0 0)),.rd [] (.v (.slice none 0 0)),.rd [] (.v (.slice none 0 0)),.rd [] (.v (.int .i64 0)),.rd [] (.v (.int .i64 0)),.rd [] (.v (.slice none 0 0)),.rd [] (.v (.slice none 0 0)),.rd [] (.v (.slice none 0 0)),.rd [] (.v (.slice none 0 0)),.rd [] (.v (.slice none 0 0)),.rd [] (.v (.int .i64 0)),.rd [] (.v (.int .i64 0)),.rd [] (.v (.int .i64 0)),.rd [] (.v (.int .i64 0)),.rd [] (.v (.int .i64 0))],.box [.rd [] (.v (.int .i64 x.Me)),.rd [] (.v (.int .i64 x.Delay)),.rd [] (.v (.int .i64 x.Ahead)),.rd [] (.v (.int .i64 x.Seed)),.ref 3,.ref 4,.rd [] (.v (.int .i64 x.Base.Tick)),.rd [] (.v (.int .i64 x.Base.Seed)),.ref 5,.ref 6,.ref 7,.rd [] (.v (.int .i64 x.Now.Tick)),.rd [] (.v (.int .i64 x.Now.Seed)),.ref 8,.ref 9,.ref 10,.ref 11,.rd [] (.v (.slice none 0 0)),.rd [] (.v (.int .i64 0)),.rd [] (.v (.int .i64 0)),.rd [] (.v (.int .i64 0)),.rd [] (.v (.int .i64 0)),.rd [] (.v (.int .i64 0))],.row 1 (els x.Tracks),.row 1 (els x.Base.Level.Rows),.row 1 (els x.Base.Scores),.row 9 (els x.Base.Bodies),.row 1 (els x.Now.Level.Rows),.row 1 (els x.Now.Scores),.row 9 (els x.Now.Bodies),.row 1 (els x.Used),.row 2 (els x.Saves)]⟩:St)) (Ua [0,1,2,3,4,5,6,7,8,9,10,11]) ?_;refine M1 (Zc J J (to_IntS x.Sums (by omega)) J J J) J J ?_;refine Wz [20,93] ?_;refine AL.weak (st':=(⟨_,[(1,.o (.c (.ptr 0 0))),(2,.o (.c (.ptr 1 0))),(3,.o (.c (.ptr 2 0))),(41,.o (.ag ((Enc.e x.Fault).map (V1.rd []))))],[.box ((Enc.e x).map (V1.rd [])),.box [.rd [] (.v (.int .i64 0)),.rd [] (.v (.int .i64 0)),.rd [] (.v (.int .i64 0)),.rd [] (.v (.int .i64 0)),.rd [] (.v (.slice none 0 0)),.rd [] (.v (.slice none 0 0)),.rd [] (.v (.int .i64 0)),.rd [] (.v (.int .i64 0)),.rd [] (.v (.slice none 0 0)),.rd [] (.v (.slice none 0 0)),.rd [] (.v (.slice none 0 0)),.rd [] (.v (.int .i64 0)),.rd [] (.v (.int .i64 0)),.rd [] (.v (.slice none 0 0)),.rd [] (.v (.slice none 0 0)),.rd [] (.v (.slice none 0 0)),.rd [] (.v (.slice none 0 0)),.rd [] (.v (.slice none 0 0)),.rd [] (.v (.int .i64 0)),.rd [] (.v (.int .i64 0)),.rd [] (.v (.int .i64 0)),.rd [] (.v (.int .i64 0)),.rd [] (.v (.int .i64 0))],.box [.rd [] (.v (.int .i64 x.Me)),.rd [] (.v (.int .i64 x.Delay)),.rd [] (.v (.int .i64 x.Ahead)),.rd [] (.v (.int .i64 x.Seed)),.ref 3,.ref 4,.rd [] (.v (.int .i64 x.Base.Tick)),.rd [] (.v (.int .i64 x.Base.Seed)),.ref 5,.ref 6,.ref 7,.rd [] (.v (.int .i64 x.Now.Tick)),.rd [] (.v (.int .i64 x.Now.Seed)),.ref 8,.ref 9,.ref 10,.ref 11,.ref 12,.rd [] (.v (.int .i64 0)),.rd [] (.v (.int .i64 0)),.rd [] (.v (.int .i64 0)),.rd [] (.v (.int .i64 0)),.rd [] (.v (.int .i64 0))],.row 1 (els x.Tracks),.row 1 (els x.Base.Level.Rows),.row 1 (els x.Base.Scores),.row 9 (els x.Base.Bodies),.row 1 (els x.Now.Level.Rows),.row 1 (els x.Now.Scores),.row 9 (els x.Now.Bodies),.row 1 (els x.Used),.row 2 (els x.Saves),.row 1 (els x.Sums)]⟩:St)) (Ua [0,1,2,3,4,5,6,7,8,9,10,11,12]) ?_;refine M1 (Zc J J (to_Fault x.Fault (by omega)) J J J) J J ?_;refine AL.weak (st':=(⟨_,[(1,.o (.c (.ptr 0 0))),(2,.o (.c (.ptr 1 0))),(3,.o (.c (.ptr 2 0))),(42,.o (.ag ((Enc.e x.Fault).map (V1.rd []))))],[.box ((Enc.e x).map (V1.rd [])),.box [.rd [] (.v (.int .i64 0)),.rd [] (.v (.int .i64 0)),.rd [] (.v (.int .i64 0)),.rd [] (.v (.int .i64 0)),.rd [] (.v (.slice none 0 0)),.rd [] (.v (.slice none 0 0)),.rd [] (.v (.int .i64 0)),.rd [] (.v (.int .i64 0)),.rd [] (.v (.slice none 0 0)),.rd [] (.v (.slice none 0 0)),.rd [] (.v (.slice none 0 0)),.rd [] (.v (.int .i64 0)),.rd [] (.v (.int .i64 0)),.rd [] (.v (.slice none 0 0)),.rd [] (.v (.slice none 0 0)),.rd [] (.v (.slice none 0 0)),.rd [] (.v (.slice none 0 0)),.rd [] (.v (.slice none 0 0)),.rd [] (.v (.int .i64 0)),.rd [] (.v (.int .i64 0)),.rd [] (.v (.int .i64 0)),.rd [] (.v (.int .i64 0)),.rd [] (.v (.int .i64 0))],.box [.rd [] (.v (.int .i64 x.Me)),.rd [] (.v (.int .i64 x.Delay)),.rd [] (.v (.int .i64 x.Ahead)),.rd [] (.v (.int .i64 x.Seed)),.ref 3,.ref 4,.rd [] (.v (.int .i64 x.Base.Tick)),.rd [] (.v (.int .i64 x.Base.Seed)),.ref 5,.ref 6,.ref 7,.rd [] (.v (.int .i64 x.Now.Tick)),.rd [] (.v (.int .i64 x.Now.Seed)),.ref 8,.ref 9,.ref 10,.ref 11,.ref 12,.rd [] (.v (.int .i64 0)),.rd [] (.v (.int .i64 0)),.rd [] (.v (.int .i64 0)),.rd [] (.v (.int .i64 0)),.rd [] (.v (.int .i64 0))],.row 1 (els x.Tracks),.row 1 (els x.Base.Level.Rows),.row 1 (els x.Base.Scores),.row 9 (els x.Base.Bodies),.row 1 (els x.Now.Level.Rows),.row 1 (els x.Now.Scores),.row 9 (els x.Now.Bodies),.row 1 (els x.Used),.row 2 (els x.Saves),.row 1 (els x.Sums)]⟩:St)) (Ua [0,1,2,3,4,5,6,7,8,9,10,11,12]) ?_;refine Wz [171,120,14,20,14,20,1] ?_;refine AL.weak (st':=(⟨_,[(2,.o (.c (.ptr 1 0))),(3,.o (.c (.ptr 2 0)))],[.box ((Enc.e x).map (V1.rd [])),.box [.rd [] (.v (.int .i64 0)),.rd [] (.v (.int .i64 0)),.rd [] (.v (.int .i64 0)),.rd [] (.v (.int .i64 0)),.rd [] (.v (.slice none 0 0)),.rd [] (.v (.slice none 0 0)),.rd [] (.v (.int .i64 0)),.rd [] (.v (.int .i64 0)),.rd [] (.v (.slice none 0 0)),.rd [] (.v (.slice none 0 0)),.rd [] (.v (.slice none 0 0)),.rd [] (.v (.int .i64 0)),.rd [] (.v (.int .i64 0)),.rd [] (.v (.slice none 0 0)),.rd [] (.v (.slice none 0 0)),.rd [] (.v (.slice none 0 0)),.rd [] (.v (.slice none 0 0)),.rd [] (.v (.slice none 0 0)),.rd [] (.v (.int .i64 0)),.rd [] (.v (.int .i64 0)),.rd [] (.v (.int .i64 0)),.rd [] (.v (.int .i64 0)),.rd [] (.v (.int .i64 0))],.box [.rd [] (.v (.int .i64 x.Me)),.rd [] (.v (.int .i64 x.Delay)),.rd [] (.v (.int .i64 x.Ahead)),.rd [] (.v (.int .i64 x.Seed)),.ref 3,.ref 4,.rd [] (.v (.int .i64 x.Base.Tick)),.rd [] (.v (.int .i64 x.Base.Seed)),.ref 5,.ref 6,.ref 7,.rd [] (.v (.int .i64 x.Now.Tick)),.rd [] (.v (.int .i64 x.Now.Seed)),.ref 8,.ref 9,.ref 10,.ref 11,.ref 12,.rd [] (.v (.int .i64 x.Fault.Tick)),.rd [] (.v (.int .i64 x.Fault.Player)),.rd [] (.v (.int .i64 x.Fault.Add)),.rd [] (.v (.int .i64 x.Rolls)),.rd [] (.v (.int .i64 x.Again))],.row 1 (els x.Tracks),.row 1 (els x.Base.Level.Rows),.row 1 (els x.Base.Scores),.row 9 (els x.Base.Bodies),.row 1 (els x.Now.Level.Rows),.row 1 (els x.Now.Scores),.row 9 (els x.Now.Bodies),.row 1 (els x.Used),.row 2 (els x.Saves),.row 1 (els x.Sums)]⟩:St)) (Ua [0,1,2,3,4,5,6,7,8,9,10,11,12]) ?_;refine z4 J J J ?_;refine AL.weak (st':=(⟨_,[(2,.o (.c (.ptr 1 0))),(50,.o (.ag [.rd [] (.v (.int .i64 x.Me)),.rd [] (.v (.int .i64 x.Delay)),.rd [] (.v (.int .i64 x.Ahead)),.rd [] (.v (.int .i64 x.Seed)),.ref 3,.ref 4,.rd [] (.v (.int .i64 x.Base.Tick)),.rd [] (.v (.int .i64 x.Base.Seed)),.ref 5,.ref 6,.ref 7,.rd [] (.v (.int .i64 x.Now.Tick)),.rd [] (.v (.int .i64 x.Now.Seed)),.ref 8,.ref 9,.ref 10,.ref 11,.ref 12,.rd [] (.v (.int .i64 x.Fault.Tick)),.rd [] (.v (.int .i64 x.Fault.Player)),.rd [] (.v (.int .i64 x.Fault.Add)),.rd [] (.v (.int .i64 x.Rolls)),.rd [] (.v (.int .i64 x.Again))]))],[.box ((Enc.e x).map (V1.rd [])),.box [.rd [] (.v (.int .i64 0)),.rd [] (.v (.int .i64 0)),.rd [] (.v (.int .i64 0)),.rd [] (.v (.int .i64 0)),.rd [] (.v (.slice none 0 0)),.rd [] (.v (.slice none 0 0)),.rd [] (.v (.int .i64 0)),.rd [] (.v (.int .i64 0)),.rd [] (.v (.slice none 0 0)),.rd [] (.v (.slice none 0 0)),.rd [] (.v (.slice none 0 0)),.rd [] (.v (.int .i64 0)),.rd [] (.v (.int .i64 0)),.rd [] (.v (.slice none 0 0)),.rd [] (.v (.slice none 0 0)),.rd [] (.v (.slice none 0 0)),.rd [] (.v (.slice none 0 0)),.rd [] (.v (.slice none 0 0)),.rd [] (.v (.int .i64 0)),.rd [] (.v (.int .i64 0)),.rd [] (.v (.int .i64 0)),.rd [] (.v (.int .i64 0)),.rd [] (.v (.int .i64 0))],.box [.rd [] (.v (.int .i64 x.Me)),.rd [] (.v (.int .i64 x.Delay)),.rd [] (.v (.int .i64 x.Ahead)),.rd [] (.v (.int .i64 x.Seed)),.ref 3,.ref 4,.rd [] (.v (.int .i64 x.Base.Tick)),.rd [] (.v (.int .i64 x.Base.Seed)),.ref 5,.ref 6,.ref 7,.rd [] (.v (.int .i64 x.Now.Tick)),.rd [] (.v (.int .i64 x.Now.Seed)),.ref 8,.ref 9,.ref 10,.ref 11,.ref 12,.rd [] (.v (.int .i64 x.Fault.Tick)),.rd [] (.v (.int .i64 x.Fault.Player)),.rd [] (.v (.int .i64 x.Fault.Add)),.rd [] (.v (.int .i64 x.Rolls)),.rd [] (.v (.int .i64 x.Again))],.row 1 (els x.Tracks),.row 1 (els x.Base.Level.Rows),.row 1 (els x.Base.Scores),.row 9 (els x.Base.Bodies),.row 1 (els x.Now.Level.Rows),.row 1 (els x.Now.Scores),.row 9 (els x.Now.Bodies),.row 1 (els x.Used),.row 2 (els x.Saves),.row 1 (els x.Sums)]⟩:St)) (Ua [0,1,2,3,4,5,6,7,8,9,10,11,12]) ?_;refine Qy J J J J J J J J J ?_;refine AL.weak (st':=(⟨_,[(2,.o (.c (.ptr 1 0)))],[.box ((Enc.e x).map (V1.rd [])),.box [.rd [] (.v (.int .i64 x.Me)),.rd [] (.v (.int .i64 x.Delay)),.rd [] (.v (.int .i64 x.Ahead)),.rd [] (.v (.int .i64 x.Seed)),.ref 3,.ref 4,.rd [] (.v (.int .i64 x.Base.Tick)),.rd [] (.v (.int .i64 x.Base.Seed)),.ref 5,.ref 6,.ref 7,.rd [] (.v (.int .i64 x.Now.Tick)),.rd [] (.v (.int .i64 x.Now.Seed)),.ref 8,.ref 9,.ref 10,.ref 11,.ref 12,.rd [] (.v (.int .i64 x.Fault.Tick)),.rd [] (.v (.int .i64 x.Fault.Player)),.rd [] (.v (.int .i64 x.Fault.Add)),.rd [] (.v (.int .i64 x.Rolls)),.rd [] (.v (.int .i64 x.Again))],.box [.rd [] (.v (.int .i64 x.Me)),.rd [] (.v (.int .i64 x.Delay)),.rd [] (.v (.int .i64 x.Ahead)),.rd [] (.v (.int .i64 x.Seed)),.ref 3,.ref 4,.rd [] (.v (.int .i64 x.Base.Tick)),.rd [] (.v (.int .i64 x.Base.Seed)),.ref 5,.ref 6,.ref 7,.rd [] (.v (.int .i64 x.Now.Tick)),.rd [] (.v (.int .i64 x.Now.Seed)),.ref 8,.ref 9,.ref 10,.ref 11,.ref 12,.rd [] (.v (.int .i64 x.Fault.Tick)),.rd [] (.v (.int .i64 x.Fault.Player)),.rd [] (.v (.int .i64 x.Fault.Add)),.rd [] (.v (.int .i64 x.Rolls)),.rd [] (.v (.int .i64 x.Again))],.row 1 (els x.Tracks),.row 1 (els x.Base.Level.Rows),.row 1 (els x.Base.Scores),.row 9 (els x.Base.Bodies),.row 1 (els x.Now.Level.Rows),.row 1 (els x.Now.Scores),.row 9 (els x.Now.Bodies),.row 1 (els x.Used),.row 2 (els x.Saves),.row 1 (els x.Sums)]⟩:St)) (V0 [0,1,2,3,4,5,6,7,8,9,10,11,12] J ((by kernel_rfl)) (.c J (.nil))) ?_;refine Wz [3,68] ?_;refine Xm (cs := [.rd [] (.v (.int .i64 x.Me)),.rd [] (.v (.int .i64 x.Delay)),.rd [] (.v (.int .i64 x.Ahead)),.rd [] (.v (.int .i64 x.Seed)),.ref 3,.ref 4,.rd [] (.v (.int .i64 x.Base.Tick)),.rd [] (.v (.int .i64 x.Base.Seed)),.ref 5,.ref 6,.ref 7,.rd [] (.v (.int .i64 x.Now.Tick)),.rd [] (.v (.int .i64 x.Now.Seed)),.ref 8,.ref 9,.ref 10,.ref 11,.ref 12,.rd [] (.v (.int .i64 x.Fault.Tick)),.rd [] (.v (.int .i64 x.Fault.Player)),.rd [] (.v (.int .i64 x.Fault.Add)),.rd [] (.v (.int .i64 x.Rolls)),.rd [] (.v (.int .i64 x.Again))]) J J J J ?_
 exact V4 [3,4,5,6,7,8,9,10,11,12] J (by kernel_rfl) (by kernel_rfl)
theorem sz_Peer (x:TPeer) (left:Int) (hg:Enc.gd x) (h0:0≤left) (h1:left≤1048576):Con Tryz.prog 26 [] [ag x,ai left] [] (I (szr (Enc.wt x) left)):=by
 obtain⟨g_Me,g_Delay,g_Ahead,g_Seed,g_Tracks,g_Base,g_Now,g_Used,g_Saves,g_Sums,g_Fault,g_Rolls,g_Again⟩:=hg
 have hw:Enc.wt x=Enc.wt x.Tracks+Enc.wt x.Base+Enc.wt x.Now+Enc.wt x.Used+Enc.wt x.Saves+Enc.wt x.Sums+Enc.wt x.Fault:=rfl
 have hm1:decide ((-1:Int)<0)=true:=rfl
 have hz_Fault:Enc.wt x.Fault=0:=rfl
 have hc_Tracks:=sz_TrackS x.Tracks (left) g_Tracks (by omega) (by omega)
 by_cases n_Tracks:left<Enc.wt x.Tracks
 ·rw[Z9 n_Tracks] at hc_Tracks
  refine Con.of Tryz.func26 J Tryz.ntmps26 J (fun E => ?_)
  refine Wz [44,32] ?_;refine zx (Qj J J (hc_Tracks) J) J ?_;refine Wz [113,57] ?_
  exact V3 J (V4 [] J J (Xv (by rw[V5])))
 rw[V6] at hc_Tracks
 have hb_Tracks:decide (left-Enc.wt x.Tracks<0)=false:=Gqa (by omega)
 have hc_Base:=sz_World x.Base (left-Enc.wt x.Tracks) g_Base (by omega) (by omega)
 by_cases n_Base:left-Enc.wt x.Tracks<Enc.wt x.Base
 ·rw[Z9 n_Base] at hc_Base
  refine Con.of Tryz.func26 J Tryz.ntmps26 J (fun E => ?_)
  refine Wz [44,32] ?_;refine zx (Qj J J (hc_Tracks) J) J ?_;refine Wz [59,93,0] ?_;refine zx (Qj J J (hc_Base) J) J ?_;refine Wz [113,57] ?_
  exact V3 J (V4 [] J J (Xv (by rw[V5])))
 rw[V6] at hc_Base
 have hb_Base:decide (left-Enc.wt x.Tracks-Enc.wt x.Base<0)=false:=Gqa (by omega)
 have hc_Now:=sz_World x.Now (left-Enc.wt x.Tracks-Enc.wt x.Base) g_Now (by omega) (by omega)
 by_cases n_Now:left-Enc.wt x.Tracks-Enc.wt x.Base<Enc.wt x.Now
 ·rw[Z9 n_Now] at hc_Now
  refine Con.of Tryz.func26 J Tryz.ntmps26 J (fun E => ?_)
  refine Wz [44,32] ?_;refine zx (Qj J J (hc_Tracks) J) J ?_;refine Wz [59,93,0] ?_;refine zx (Qj J J (hc_Base) J) J ?_;refine Wz [59,93,0] ?_;refine zx (Qj J J (hc_Now) J) J ?_;refine Wz [113,57] ?_
  exact V3 J (V4 [] J J (Xv (by rw[V5])))
 rw[V6] at hc_Now
 have hb_Now:decide (left-Enc.wt x.Tracks-Enc.wt x.Base-Enc.wt x.Now<0)=false:=Gqa (by omega)
 have hc_Used:=sz_IntSS x.Used (left-Enc.wt x.Tracks-Enc.wt x.Base-Enc.wt x.Now) g_Used (by omega) (by omega)
 by_cases n_Used:left-Enc.wt x.Tracks-Enc.wt x.Base-Enc.wt x.Now<Enc.wt x.Used
 ·rw[Z9 n_Used] at hc_Used
  refine Con.of Tryz.func26 J Tryz.ntmps26 J (fun E => ?_)
  refine Wz [44,32] ?_;refine zx (Qj J J (hc_Tracks) J) J ?_;refine Wz [59,93,0] ?_;refine zx (Qj J J (hc_Base) J) J ?_;refine Wz [59,93,0] ?_;refine zx (Qj J J (hc_Now) J) J ?_;refine Wz [59,32] ?_;refine zx (Qj J J (hc_Used) J) J ?_;refine Wz [113,57] ?_
  exact V3 J (V4 [] J J (Xv (by rw[V5])))
 rw[V6] at hc_Used
 have hb_Used:decide (left-Enc.wt x.Tracks-Enc.wt x.Base-Enc.wt x.Now-Enc.wt x.Used<0)=false:=Gqa (by omega)
 have hc_Saves:=sz_SaveS x.Saves (left-Enc.wt x.Tracks-Enc.wt x.Base-Enc.wt x.Now-Enc.wt x.Used) g_Saves (by omega) (by omega)
 by_cases n_Saves:left-Enc.wt x.Tracks-Enc.wt x.Base-Enc.wt x.Now-Enc.wt x.Used<Enc.wt x.Saves
 ·rw[Z9 n_Saves] at hc_Saves
  refine Con.of Tryz.func26 J Tryz.ntmps26 J (fun E => ?_)
  refine Wz [44,32] ?_;refine zx (Qj J J (hc_Tracks) J) J ?_;refine Wz [59,93,0] ?_;refine zx (Qj J J (hc_Base) J) J ?_;refine Wz [59,93,0] ?_;refine zx (Qj J J (hc_Now) J) J ?_;refine Wz [59,32] ?_;refine zx (Qj J J (hc_Used) J) J ?_;refine Wz [59,32] ?_;refine zx (Qj J J (hc_Saves) J) J ?_;refine Wz [113,57] ?_
  exact V3 J (V4 [] J J (Xv (by rw[V5])))
 rw[V6] at hc_Saves
 have hb_Saves:decide (left-Enc.wt x.Tracks-Enc.wt x.Base-Enc.wt x.Now-Enc.wt x.Used-Enc.wt x.Saves<0)=false:=Gqa (by omega)
 have hc_Sums:=sz_IntS x.Sums (left-Enc.wt x.Tracks-Enc.wt x.Base-Enc.wt x.Now-Enc.wt x.Used-Enc.wt x.Saves) g_Sums (by omega) (by omega)
 by_cases n_Sums:left-Enc.wt x.Tracks-Enc.wt x.Base-Enc.wt x.Now-Enc.wt x.Used-Enc.wt x.Saves<Enc.wt x.Sums
 ·rw[Z9 n_Sums] at hc_Sums
  refine Con.of Tryz.func26 J Tryz.ntmps26 J (fun E => ?_)
  refine Wz [44,32] ?_;refine zx (Qj J J (hc_Tracks) J) J ?_;refine Wz [59,93,0] ?_;refine zx (Qj J J (hc_Base) J) J ?_;refine Wz [59,93,0] ?_;refine zx (Qj J J (hc_Now) J) J ?_;refine Wz [59,32] ?_;refine zx (Qj J J (hc_Used) J) J ?_;refine Wz [59,32] ?_;refine zx (Qj J J (hc_Saves) J) J ?_;refine Wz [59,32] ?_;refine zx (Qj J J (hc_Sums) J) J ?_;refine Wz [113,57] ?_
  exact V3 J (V4 [] J J (Xv (by rw[V5])))
 rw[V6] at hc_Sums
 have hb_Sums:decide (left-Enc.wt x.Tracks-Enc.wt x.Base-Enc.wt x.Now-Enc.wt x.Used-Enc.wt x.Saves-Enc.wt x.Sums<0)=false:=Gqa (by omega)
 refine Con.of Tryz.func26 J Tryz.ntmps26 J (fun E => ?_)
 refine Wz [44,32] ?_;refine zx (Qj J J (hc_Tracks) J) J ?_;refine Wz [59,93,0] ?_;refine zx (Qj J J (hc_Base) J) J ?_;refine Wz [59,93,0] ?_;refine zx (Qj J J (hc_Now) J) J ?_;refine Wz [59,32] ?_;refine zx (Qj J J (hc_Used) J) J ?_;refine Wz [59,32] ?_;refine zx (Qj J J (hc_Saves) J) J ?_;refine Wz [59,32] ?_;refine zx (Qj J J (hc_Sums) J) J ?_;refine Wz [59,224] ?_
 exact V3 J (V4 [] J J (Xv (by rw[V6]; omega)))
theorem eq_Peer (x y:TPeer) (hg:Enc.gd x):Con Tryz.prog 30 [] [ag x,ag y] [] (B (decide (x=y))):=by
 obtain⟨g_Me,g_Delay,g_Ahead,g_Seed,g_Tracks,g_Base,g_Now,g_Used,g_Saves,g_Sums,g_Fault,g_Rolls,g_Again⟩:=hg
 by_cases e_Me:¬x.Me=y.Me
 ·have hk:decide (x.Me≠y.Me)=true:=by simp[e_Me]
  refine Con.of Tryz.func30 J Tryz.ntmps30 J (fun E => ?_)
  refine Wz [75,92] ?_
  exact V3 J (V4 [] J J (Xk (Gqa fun e=>e_Me (by rw[e])).symm))
 have e_Me:=Classical.not_not.1 e_Me
 have k_Me:decide (x.Me≠y.Me)=false:=by simp[e_Me]
 by_cases e_Delay:¬x.Delay=y.Delay
 ·have hk:decide (x.Delay≠y.Delay)=true:=by simp[e_Delay]
  refine Con.of Tryz.func30 J Tryz.ntmps30 J (fun E => ?_)
  refine Wz [75,176,92] ?_
  exact V3 J (V4 [] J J (Xk (Gqa fun e=>e_Delay (by rw[e])).symm))
 have e_Delay:=Classical.not_not.1 e_Delay
 have k_Delay:decide (x.Delay≠y.Delay)=false:=by simp[e_Delay]
 by_cases e_Ahead:¬x.Ahead=y.Ahead
 ·have hk:decide (x.Ahead≠y.Ahead)=true:=by simp[e_Ahead]
  refine Con.of Tryz.func30 J Tryz.ntmps30 J (fun E => ?_)
  refine Wz [75,49,92] ?_
  exact V3 J (V4 [] J J (Xk (Gqa fun e=>e_Ahead (by rw[e])).symm))
 have e_Ahead:=Classical.not_not.1 e_Ahead
 have k_Ahead:decide (x.Ahead≠y.Ahead)=false:=by simp[e_Ahead]
 by_cases e_Seed:¬x.Seed=y.Seed
 ·have hk:decide (x.Seed≠y.Seed)=true:=by simp[e_Seed]
  refine Con.of Tryz.func30 J Tryz.ntmps30 J (fun E => ?_)
  refine Wz [75,49,176,92] ?_
  exact V3 J (V4 [] J J (Xk (Gqa fun e=>e_Seed (by rw[e])).symm))
 have e_Seed:=Classical.not_not.1 e_Seed
 have k_Seed:decide (x.Seed≠y.Seed)=false:=by simp[e_Seed]
 by_cases e_Tracks:¬x.Tracks=y.Tracks
 ·have hc:=eq_TrackS x.Tracks y.Tracks g_Tracks
  rw[Gqa e_Tracks] at hc
  refine Con.of Tryz.func30 J Tryz.ntmps30 J (fun E => ?_)
  refine Wz [75,49,49] ?_;refine zx (Qj J J (hc) J) J ?_;refine Wz [15,57] ?_
  exact V3 J (V4 [] J J (Xk (Gqa fun e=>e_Tracks (by rw[e])).symm))
 have e_Tracks:=Classical.not_not.1 e_Tracks
 have hc_Tracks:=eq_TrackS x.Tracks y.Tracks g_Tracks
 rw[Gqb e_Tracks] at hc_Tracks
 by_cases e_Base:¬x.Base=y.Base
 ·have hc:=eq_World x.Base y.Base g_Base
  rw[Gqa e_Base] at hc
  refine Con.of Tryz.func30 J Tryz.ntmps30 J (fun E => ?_)
  refine Wz [75,49,49] ?_;refine zx (Qj J J (hc_Tracks) J) J ?_;refine Wz [76,121] ?_;refine zx (Qj J J (hc) J) J ?_;refine Wz [15,57] ?_
  exact V3 J (V4 [] J J (Xk (Gqa fun e=>e_Base (by rw[e])).symm))
 have e_Base:=Classical.not_not.1 e_Base
 have hc_Base:=eq_World x.Base y.Base g_Base
 rw[Gqb e_Base] at hc_Base
 by_cases e_Now:¬x.Now=y.Now
 ·have hc:=eq_World x.Now y.Now g_Now
  rw[Gqa e_Now] at hc
  refine Con.of Tryz.func30 J Tryz.ntmps30 J (fun E => ?_)
  refine Wz [75,49,49] ?_;refine zx (Qj J J (hc_Tracks) J) J ?_;refine Wz [76,121] ?_;refine zx (Qj J J (hc_Base) J) J ?_;refine Wz [76,121] ?_;refine zx (Qj J J (hc) J) J ?_;refine Wz [15,57] ?_
  exact V3 J (V4 [] J J (Xk (Gqa fun e=>e_Now (by rw[e])).symm))
 have e_Now:=Classical.not_not.1 e_Now
 have hc_Now:=eq_World x.Now y.Now g_Now
 rw[Gqb e_Now] at hc_Now
 by_cases e_Used:¬x.Used=y.Used
 ·have hc:=eq_IntSS x.Used y.Used g_Used
  rw[Gqa e_Used] at hc
  refine Con.of Tryz.func30 J Tryz.ntmps30 J (fun E => ?_)
  refine Wz [75,49,49] ?_;refine zx (Qj J J (hc_Tracks) J) J ?_;refine Wz [76,121] ?_;refine zx (Qj J J (hc_Base) J) J ?_;refine Wz [76,121] ?_;refine zx (Qj J J (hc_Now) J) J ?_;refine Wz [114] ?_;refine zx (Qj J J (hc) J) J ?_;refine Wz [15,57] ?_
  exact V3 J (V4 [] J J (Xk (Gqa fun e=>e_Used (by rw[e])).symm))
 have e_Used:=Classical.not_not.1 e_Used
 have hc_Used:=eq_IntSS x.Used y.Used g_Used
 rw[Gqb e_Used] at hc_Used
 by_cases e_Saves:¬x.Saves=y.Saves
 ·have hc:=eq_SaveS x.Saves y.Saves g_Saves
  rw[Gqa e_Saves] at hc
  refine Con.of Tryz.func30 J Tryz.ntmps30 J (fun E => ?_)
  refine Wz [75,49,49] ?_;refine zx (Qj J J (hc_Tracks) J) J ?_;refine Wz [76,121] ?_;refine zx (Qj J J (hc_Base) J) J ?_;refine Wz [76,121] ?_;refine zx (Qj J J (hc_Now) J) J ?_;refine Wz [114] ?_;refine zx (Qj J J (hc_Used) J) J ?_;refine Wz [114] ?_;refine zx (Qj J J (hc) J) J ?_;refine Wz [15,57] ?_
  exact V3 J (V4 [] J J (Xk (Gqa fun e=>e_Saves (by rw[e])).symm))
 have e_Saves:=Classical.not_not.1 e_Saves
 have hc_Saves:=eq_SaveS x.Saves y.Saves g_Saves
 rw[Gqb e_Saves] at hc_Saves
 by_cases e_Sums:¬x.Sums=y.Sums
 ·have hc:=eq_IntS x.Sums y.Sums g_Sums
  rw[Gqa e_Sums] at hc
  refine Con.of Tryz.func30 J Tryz.ntmps30 J (fun E => ?_)
  refine Wz [75,49,49] ?_;refine zx (Qj J J (hc_Tracks) J) J ?_;refine Wz [76,121] ?_;refine zx (Qj J J (hc_Base) J) J ?_;refine Wz [76,121] ?_;refine zx (Qj J J (hc_Now) J) J ?_;refine Wz [114] ?_;refine zx (Qj J J (hc_Used) J) J ?_;refine Wz [114] ?_;refine zx (Qj J J (hc_Saves) J) J ?_;refine Wz [114] ?_;refine zx (Qj J J (hc) J) J ?_;refine Wz [15,57] ?_
  exact V3 J (V4 [] J J (Xk (Gqa fun e=>e_Sums (by rw[e])).symm))
 have e_Sums:=Classical.not_not.1 e_Sums
 have hc_Sums:=eq_IntS x.Sums y.Sums g_Sums
 rw[Gqb e_Sums] at hc_Sums
 by_cases e_Fault:¬x.Fault=y.Fault
 ·have hc:=eq_Fault x.Fault y.Fault g_Fault
  rw[Gqa e_Fault] at hc
  refine Con.of Tryz.func30 J Tryz.ntmps30 J (fun E => ?_)
  refine Wz [75,49,49] ?_;refine zx (Qj J J (hc_Tracks) J) J ?_;refine Wz [76,121] ?_;refine zx (Qj J J (hc_Base) J) J ?_;refine Wz [76,121] ?_;refine zx (Qj J J (hc_Now) J) J ?_;refine Wz [114] ?_;refine zx (Qj J J (hc_Used) J) J ?_;refine Wz [114] ?_;refine zx (Qj J J (hc_Saves) J) J ?_;refine Wz [114] ?_;refine zx (Qj J J (hc_Sums) J) J ?_;refine Wz [76,121] ?_;refine zx (Qj J J (hc) J) J ?_;refine Wz [15,57] ?_
  exact V3 J (V4 [] J J (Xk (Gqa fun e=>e_Fault (by rw[e])).symm))
 have e_Fault:=Classical.not_not.1 e_Fault
 have hc_Fault:=eq_Fault x.Fault y.Fault g_Fault
 rw[Gqb e_Fault] at hc_Fault
 by_cases e_Rolls:¬x.Rolls=y.Rolls
 ·have hk:decide (x.Rolls≠y.Rolls)=true:=by simp[e_Rolls]
  refine Con.of Tryz.func30 J Tryz.ntmps30 J (fun E => ?_)
  refine Wz [75,49,49] ?_;refine zx (Qj J J (hc_Tracks) J) J ?_;refine Wz [76,121] ?_;refine zx (Qj J J (hc_Base) J) J ?_;refine Wz [76,121] ?_;refine zx (Qj J J (hc_Now) J) J ?_;refine Wz [114] ?_;refine zx (Qj J J (hc_Used) J) J ?_;refine Wz [114] ?_;refine zx (Qj J J (hc_Saves) J) J ?_;refine Wz [114] ?_;refine zx (Qj J J (hc_Sums) J) J ?_;refine Wz [76,121] ?_;refine zx (Qj J J (hc_Fault) J) J ?_;refine Wz [114,92] ?_
  exact V3 J (V4 [] J J (Xk (Gqa fun e=>e_Rolls (by rw[e])).symm))
 have e_Rolls:=Classical.not_not.1 e_Rolls
 have k_Rolls:decide (x.Rolls≠y.Rolls)=false:=by simp[e_Rolls]
 by_cases e_Again:¬x.Again=y.Again
 ·have hk:decide (x.Again≠y.Again)=true:=by simp[e_Again]
  refine Con.of Tryz.func30 J Tryz.ntmps30 J (fun E => ?_)
  refine Wz [75,49,49] ?_;refine zx (Qj J J (hc_Tracks) J) J ?_;refine Wz [76,121] ?_;refine zx (Qj J J (hc_Base) J) J ?_;refine Wz [76,121] ?_;refine zx (Qj J J (hc_Now) J) J ?_;refine Wz [114] ?_;refine zx (Qj J J (hc_Used) J) J ?_;refine Wz [114] ?_;refine zx (Qj J J (hc_Saves) J) J ?_;refine Wz [114] ?_;refine zx (Qj J J (hc_Sums) J) J ?_;refine Wz [76,121] ?_;refine zx (Qj J J (hc_Fault) J) J ?_;refine Wz [114,176,92] ?_
  exact V3 J (V4 [] J J (Xk (Gqa fun e=>e_Again (by rw[e])).symm))
 have e_Again:=Classical.not_not.1 e_Again
 have k_Again:decide (x.Again≠y.Again)=false:=by simp[e_Again]
 refine Con.of Tryz.func30 J Tryz.ntmps30 J (fun E => ?_)
 refine Wz [75,49,49] ?_;refine zx (Qj J J (hc_Tracks) J) J ?_;refine Wz [76,121] ?_;refine zx (Qj J J (hc_Base) J) J ?_;refine Wz [76,121] ?_;refine zx (Qj J J (hc_Now) J) J ?_;refine Wz [114] ?_;refine zx (Qj J J (hc_Used) J) J ?_;refine Wz [114] ?_;refine zx (Qj J J (hc_Saves) J) J ?_;refine Wz [114] ?_;refine zx (Qj J J (hc_Sums) J) J ?_;refine Wz [76,121] ?_;refine zx (Qj J J (hc_Fault) J) J ?_;refine Wz [114,176,58,47,98] ?_
 exact V3 J (V4 [] J J (Xk (Gqb (TPeer.same e_Me e_Delay e_Ahead e_Seed e_Tracks e_Base e_Now e_Used e_Saves e_Sums e_Fault e_Rolls e_Again)).symm))
end
end Go.Proofs.YtpmacgnmlmmojaaGreatDoor
