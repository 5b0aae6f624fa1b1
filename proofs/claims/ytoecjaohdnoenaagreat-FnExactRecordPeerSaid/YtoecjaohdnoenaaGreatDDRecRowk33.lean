/-
  Rules, data and contracts of functions: part 34 of the proof.
  Conditions: those that each theorem names.
-/
import Derived.Test.YtoecjaohdnoenaaGreatDDRecRowk32
set_option linter.unusedSimpArgs false
set_option linter.unusedVariables false
set_option maxRecDepth 8000
set_option maxHeartbeats 8000000
namespace Go.Proofs.YtoecjaohdnoenaaGreat
section
open Go.RowKit

theorem els_tr (xs:List TTrack):els xs=els (xs.map (·.Inputs)):=by
 rw[els,els,List.map_map]
 rfl
theorem L_markTrackS (xs:List (List Int)) (k:Int) (hL:xs.length≤1073741824) (ht:tot xs≤1073741824) (h0:0<k) (hk:k≤2147483648):Con Tryz.prog 112 [.row 1 (els xs),.gh 0 (.c (.ref 0))] [.c (.ref 0),ai k] [.row 1 (els (markII xs k)),.gh 0 (.c (.ref 0))] (I (k+tot xs)):=by
 have hml:=Zh xs k
 refine Con.of Tryz.func112 J Tryz.ntmps112 J (fun E => ?_)
 refine Wz [32,46] ?_;refine Xj (fun m st=>∃ i:Nat,i+m=xs.length∧(True)∧st=(⟨_,[(0,.o (.c (.ref 0))),(1,I (k+tot (xs.take i))),(5,I i)],[.row 1 (els ((markII xs k).take i++xs.drop i)),.gh 0 (.c (.ref 0))]⟩:St)) (xs.length) ⟨(fun i:Nat=>(⟨_,[(0,.o (.c (.ref 0))),(1,I (k+tot (xs.take i))),(5,I i)],[.row 1 (els ((markII xs k).take i++xs.drop i)),.gh 0 (.c (.ref 0))]⟩:St)) 0,⟨0,by omega,trivial,J⟩,Ga [0,1] J (by kernel_rfl) (.c J (.cons (Xz (by simp[tot])) (.c J (.nil))))⟩ ?_
 rintro m_A _ ⟨i,hk_A,hp_A,rfl⟩
 have hl2:(els ((markII xs k).take i++xs.drop i)).length=xs.length:=by rw[Yx,Zk hml (by omega)]
 refine Wz [20,102,37] ?_
 refine Xb J (fun h => ?_) (fun h => ?_)
 ·have h3:i<xs.length:=by have:=Gqe h; omega
  have hi:i<((markII xs k).take i++xs.drop i).length:=by rw[Zk hml (by omega)]; exact h3
  have hat:=Yv hi
  rw[mk_at hml h3] at hat
  have ht1:=tot_at h3
  have hc:=L_markIntS xs[i] (k+tot (xs.take i)) (by omega) (by omega) (by omega)
  refine Wz [11,33,0,47,123] ?_;refine zx (q_lee J J J J (by assumption) J) J (z0 J ?_);refine M_inner hc J J J J J J J J (by assumption) J ?_;refine Wz [104] ?_
  exact⟨xs.length-(i+1),by omega,(fun i:Nat=>(⟨_,[(0,.o (.c (.ref 0))),(1,I (k+tot (xs.take i))),(5,I i)],[.row 1 (els ((markII xs k).take i++xs.drop i)),.gh 0 (.c (.ref 0))]⟩:St)) (i+1),⟨i+1,by omega,trivial,J⟩,Ga [0,1] J (row2 (mk_next hml h3 (by rw[markII_at h3]; rfl))) (.c J (.cons (Xz (by rw[tot_next h3]; omega)) (.c J (.nil))))⟩
 ·have h3:¬((i:Int)<(els ((markII xs k).take i++xs.drop i)).length):=Gqf h
  have ht1:=tot_end (show xs.length≤i by omega)
  refine Wz [89,17] ?_
  exact Gb J (Gc [0,1] J (row2 (by rw[mk_end hml (by omega)])) (Xz (by rw[ht1])))
def markV (xs:List TSave) (k:Int):List TSave:=(List.range xs.length).map fun (i:Nat)=>⟨k+2*i,mtext (k+2*i+1)⟩
theorem markV_len (xs:List TSave) (k:Int):(markV xs k).length=xs.length:=by simp[markV]
theorem markV_at {xs:List TSave} {k:Int} {i:Nat} (h:i<(markV xs k).length):(markV xs k)[i]=⟨k+2*i,mtext (k+2*i+1)⟩:=by simp[markV]
theorem L_markSaveS (xs:List TSave) (k:Int) (hL:xs.length≤1048576) (h0:0<k) (hk:k≤4294967296):Con Tryz.prog 113 [.row 2 (els xs),.gh 0 (.c (.ref 0))] [.c (.ref 0),ai k] [.row 2 (els (markV xs k)),.gh 0 (.c (.ref 0))] (I (k+2*xs.length)):=by
 have hml:=markV_len xs k
 refine Con.of Tryz.func113 J Tryz.ntmps113 J (fun E => ?_)
 refine Wz [32,46] ?_;refine Xj (fun m st=>∃ i:Nat,i+m=xs.length∧(True)∧st=(⟨_,[(0,.o (.c (.ref 0))),(1,I (k+2*i)),(5,I i)],[.row 2 (els ((markV xs k).take i++xs.drop i)),.gh 0 (.c (.ref 0))]⟩:St)) (xs.length) ⟨(fun i:Nat=>(⟨_,[(0,.o (.c (.ref 0))),(1,I (k+2*i)),(5,I i)],[.row 2 (els ((markV xs k).take i++xs.drop i)),.gh 0 (.c (.ref 0))]⟩:St)) 0,⟨0,by omega,trivial,J⟩,Ga [0,1] J (by kernel_rfl) (.c J (.cons (Xz (by simp)) (.c J (.nil))))⟩ ?_
 rintro m_A _ ⟨i,hk_A,hp_A,rfl⟩
 have hll:(els ((markV xs k).take i++xs.drop i)).length=xs.length:=by rw[Yx,Zk hml (by omega)]
 refine Wz [20,102,37] ?_
 refine Xb J (fun h => ?_) (fun h => ?_)
 ·have h3:i<xs.length:=by have:=Gqe h; omega
  have hi:i<((markV xs k).take i++xs.drop i).length:=by rw[Zk hml (by omega)]; exact h3
  have hat:=Yv hi
  rw[mk_at hml h3] at hat
  obtain⟨es0,hes0⟩:∃ es0,es0=els ((markV xs k).take i++xs.drop i):=⟨_,rfl⟩
  rw[←hes0] at hll hat
  have hq:(i:Int).toNat<es0.length:=by omega
  have hset:∀ L:List T,(es0.set (i:Int).toNat L)[(i:Int).toNat]? = some L:=fun L=>Gxo hq
  have hsln:∀ L:List T,(es0.set (i:Int).toNat L).length=xs.length:=fun L=>by rw[Gxe]; exact hll
  have ct:=L_markText ((k+2*(i:Int))+1) (by omega)
  rw[hes0.symm]
  refine Wz [11,99,47,123,125,3,10,105,99] ?_;refine zx (Qj J J (ct) J) J ?_
  have hat0:=hset [.v (.int .i64 (k+2*(i:Int))),.v (.string xs[i].Delta)]
  have hln0:=hsln [.v (.int .i64 (k+2*(i:Int))),.v (.string xs[i].Delta)]
  refine AL.weak (st':=(⟨_,[(0,.o (.c (.ref 0))),(1,I ((k+2*(i:Int))+1)),(5,I i),(19,.o (.c (.ref 0))),(20,I i),(22,S (mtext ((k+2*(i:Int))+1)))],[.row 2 (es0.set (i:Int).toNat [.v (.int .i64 (k+2*(i:Int))),.v (.string xs[i].Delta)]),.gh 0 (.c (.ref 0))]⟩:St)) (Ga [0,1] J (row2 J) (.c J (.c J (.c J (.c J (.c J (.c J (.nil)))))))) ?_;refine Wz [47,123,125,3,33,18,104] ?_
  have hend:els ((markV xs k).take (i+1)++xs.drop (i+1))=es0.set (i:Int).toNat [.v (.int .i64 (k+2*(i:Int))),.v (.string (mtext ((k+2*(i:Int))+1)))]:=by
   rw[mk_nextE hml h3,markV_at,hes0]
   rfl
  exact⟨xs.length-(i+1),by omega,(fun i:Nat=>(⟨_,[(0,.o (.c (.ref 0))),(1,I (k+2*i)),(5,I i)],[.row 2 (els ((markV xs k).take i++xs.drop i)),.gh 0 (.c (.ref 0))]⟩:St)) (i+1),⟨i+1,by omega,trivial,J⟩,Ga [0,1] J (row2 (hend.trans (List.set_set _).symm)) (.c J (.cons (Xz (by omega)) (.c J (.nil))))⟩
 ·have h3:¬i<xs.length:=by have:=Gqf h; omega
  have hk2:i=xs.length:=by omega
  subst hk2
  refine Wz [89,17] ?_
  exact Gb J (Gc [0,1] J (row2 (by rw[mk_end hml (Gqk _)])) J)
def cntP (x:TPeer) (k:Int):Int:=cntW x.Now (cntW x.Base (k+tot (x.Tracks.map (·.Inputs))))+tot x.Used+2*x.Saves.length+x.Sums.length
structure MarkIn (x:TPeer):Prop where
 tr:x.Tracks.length≤1048576∧tot (x.Tracks.map (·.Inputs))≤1048576
 bw:x.Base.Level.Rows.length≤1048576∧x.Base.Scores.length≤1048576∧x.Base.Bodies.length≤1048576
 nw:x.Now.Level.Rows.length≤1048576∧x.Now.Scores.length≤1048576∧x.Now.Bodies.length≤1048576
 us:x.Used.length≤1048576∧tot x.Used≤1048576
 sv:x.Saves.length≤1048576
 sm:x.Sums.length≤1048576
@[reducible] def pO (x:TPeer):List Ob := [.row 1 (els x.Tracks),.row 1 (els x.Base.Level.Rows),.row 1 (els x.Base.Scores),.row 9 (els x.Base.Bodies),.row 1 (els x.Now.Level.Rows),.row 1 (els x.Now.Scores),.row 9 (els x.Now.Bodies),.row 1 (els x.Used),.row 2 (els x.Saves),.row 1 (els x.Sums)]
@[reducible] def iw (n:Int):V1 := .rd [] (.v (.int .i64 n))
@[reducible] def pV (p:TPeer) (a b c d e f g h i j:Nat):List V1 := [iw p.Me,iw p.Delay,iw p.Ahead,iw p.Seed,.ref a,.ref b,iw p.Base.Tick,iw p.Base.Seed,.ref c,.ref d,.ref e,iw p.Now.Tick,iw p.Now.Seed,.ref f,.ref g,.ref h,.ref i,.ref j,iw p.Fault.Tick,iw p.Fault.Player,iw p.Fault.Add,iw p.Rolls,iw p.Again]
def k1P (x:TPeer) (k:Int):Int:=k+tot (x.Tracks.map (·.Inputs))
def k2P (x:TPeer) (k:Int):Int:=cntW x.Now (cntW x.Base (k1P x k))
@[reducible] def pM (x:TPeer) (k:Int):List Ob := [.row 1 (els (markII (x.Tracks.map (·.Inputs)) k)),.row 1 (els (markW x.Base (k1P x k)).Level.Rows),.row 1 (els (markW x.Base (k1P x k)).Scores),.row 9 (els (markW x.Base (k1P x k)).Bodies),.row 1 (els (markW x.Now (cntW x.Base (k1P x k))).Level.Rows),.row 1 (els (markW x.Now (cntW x.Base (k1P x k))).Scores),.row 9 (els (markW x.Now (cntW x.Base (k1P x k))).Bodies),.row 1 (els (markII x.Used (k2P x k))),.row 2 (els (markV x.Saves (k2P x k+tot x.Used))),.row 1 (els (markI x.Sums (k2P x k+tot x.Used+2*x.Saves.length)))]
theorem L_markPeer (x:TPeer) (k:Int) (h:MarkIn x) (h0:0<k) (hk:k≤134217728):Con Tryz.prog 36 (pO x ++ [.gh 0 (.ag (pV x 0 1 2 3 4 5 6 7 8 9))]) [.ag (pV x 0 1 2 3 4 5 6 7 8 9),ai k] (pM x k ++ [.gh 0 (.ag (pV x 0 1 2 3 4 5 6 7 8 9))]) (I (cntP x k)):=by
 obtain⟨⟨a1,a2⟩,⟨b1,b2,b3⟩,⟨c1,c2,c3⟩,⟨d1,d2⟩,e1,f1⟩:=h
 have q1:0<k1P x k∧k1P x k≤135266304:=by unfold k1P; omega
 have q2:0<cntW x.Base (k1P x k)∧cntW x.Base (k1P x k)≤146800640:=by unfold cntW; omega
 have q3:0<k2P x k∧k2P x k≤158334976:=by unfold k2P cntW at *; omega
 have cT:=L_markTrackS (x.Tracks.map (·.Inputs)) k (by rw[List.length_map]; omega) (by omega) h0 (by omega)
 rw[←els_tr] at cT
 have cB:=L_markWorld x.Base (k1P x k) b1 b2 b3 q1.1 (by omega)
 have cN:=L_markWorld x.Now (cntW x.Base (k1P x k)) c1 c2 c3 q2.1 (by omega)
 have cU:=L_markIntSS x.Used (k2P x k) (by omega) (by omega) q3.1 (by omega)
 have cV:=L_markSaveS x.Saves (k2P x k+tot x.Used) e1 (by omega) (by omega)
 have cS:=L_markIntS x.Sums (k2P x k+tot x.Used+2*x.Saves.length) (by omega) (by omega) (by omega)
 have hr:cntP x k=k2P x k+tot x.Used+2*x.Saves.length+x.Sums.length:=rfl
 rw[hr]
 refine Con.of Tryz.func36 J Tryz.ntmps36 J (fun E => ?_)
 refine Wz [82,52] ?_;refine Xd (lo := [_]) (gs := [(0,.c (.ref 0))]) (lo' := [_]) (new := []) [0] [(0,0,.ref 0)] (cT) J J J J J J J J J J J J J J J J J ?_;refine AL.weak (st':=(⟨30,[(2,.o (.c (.ptr 11 0))),(8,I (k1P x k))],[.row 1 (els (markII (x.Tracks.map (·.Inputs)) k)),.row 1 (els x.Base.Level.Rows),.row 1 (els x.Base.Scores),.row 9 (els x.Base.Bodies),.row 1 (els x.Now.Level.Rows),.row 1 (els x.Now.Scores),.row 9 (els x.Now.Bodies),.row 1 (els x.Used),.row 2 (els x.Saves),.row 1 (els x.Sums),.gh 0 (.ag (pV x 0 1 2 3 4 5 6 7 8 9)),.box (pV x 0 1 2 3 4 5 6 7 8 9)]⟩:St)) (Ga [0,1,2,3,4,5,6,7,8,9,10,11] J ((by kernel_rfl)) (.c J (.c J (.nil)))) ?_;refine Wz [2,120] ?_;refine Xd (lo := [_,_,_]) (gs := [(0,.ag (ownV 0 (Enc.e x.Base)))]) (lo' := [_,_,_]) (new := []) [1,2,3] [(0,0,.ref 0),(0,3,.ref 1),(0,4,.ref 2)] (cB) J J J J J J J J J J J J J J J J J ?_;refine AL.weak (st':=(⟨30,[(2,.o (.c (.ptr 11 0))),(12,I (cntW x.Base (k1P x k)))],[.row 1 (els (markII (x.Tracks.map (·.Inputs)) k)),.row 1 (els (markW x.Base (k1P x k)).Level.Rows),.row 1 (els (markW x.Base (k1P x k)).Scores),.row 9 (els (markW x.Base (k1P x k)).Bodies),.row 1 (els x.Now.Level.Rows),.row 1 (els x.Now.Scores),.row 9 (els x.Now.Bodies),.row 1 (els x.Used),.row 2 (els x.Saves),.row 1 (els x.Sums),.gh 0 (.ag (pV x 0 1 2 3 4 5 6 7 8 9)),.box (pV x 0 1 2 3 4 5 6 7 8 9)]⟩:St)) (Ga [0,1,2,3,4,5,6,7,8,9,10,11] J ((by kernel_rfl)) (.c J (.c J (.nil)))) ?_;refine Wz [2,120] ?_;refine Xd (lo := [_,_,_]) (gs := [(0,.ag (ownV 0 (Enc.e x.Now)))]) (lo' := [_,_,_]) (new := []) [4,5,6] [(0,0,.ref 0),(0,3,.ref 1),(0,4,.ref 2)] (cN) J J J J J J J J J J J J J J J J J ?_;refine AL.weak (st':=(⟨30,[(2,.o (.c (.ptr 11 0))),(16,I (k2P x k))],[.row 1 (els (markII (x.Tracks.map (·.Inputs)) k)),.row 1 (els (markW x.Base (k1P x k)).Level.Rows),.row 1 (els (markW x.Base (k1P x k)).Scores),.row 9 (els (markW x.Base (k1P x k)).Bodies),.row 1 (els (markW x.Now (cntW x.Base (k1P x k))).Level.Rows),.row 1 (els (markW x.Now (cntW x.Base (k1P x k))).Scores),.row 9 (els (markW x.Now (cntW x.Base (k1P x k))).Bodies),.row 1 (els x.Used),.row 2 (els x.Saves),.row 1 (els x.Sums),.gh 0 (.ag (pV x 0 1 2 3 4 5 6 7 8 9)),.box (pV x 0 1 2 3 4 5 6 7 8 9)]⟩:St)) (Ga [0,1,2,3,4,5,6,7,8,9,10,11] J ((by kernel_rfl)) (.c J (.c J (.nil)))) ?_;refine Wz [2,52] ?_;refine Xd (lo := [_]) (gs := [(0,.c (.ref 0))]) (lo' := [_]) (new := []) [7] [(0,0,.ref 0)] (cU) J J J J J J J J J J J J J J J J J ?_;refine AL.weak (st':=(⟨30,[(2,.o (.c (.ptr 11 0))),(20,I (k2P x k+tot x.Used))],[.row 1 (els (markII (x.Tracks.map (·.Inputs)) k)),.row 1 (els (markW x.Base (k1P x k)).Level.Rows),.row 1 (els (markW x.Base (k1P x k)).Scores),.row 9 (els (markW x.Base (k1P x k)).Bodies),.row 1 (els (markW x.Now (cntW x.Base (k1P x k))).Level.Rows),.row 1 (els (markW x.Now (cntW x.Base (k1P x k))).Scores),.row 9 (els (markW x.Now (cntW x.Base (k1P x k))).Bodies),.row 1 (els (markII x.Used (k2P x k))),.row 2 (els x.Saves),.row 1 (els x.Sums),.gh 0 (.ag (pV x 0 1 2 3 4 5 6 7 8 9)),.box (pV x 0 1 2 3 4 5 6 7 8 9)]⟩:St)) (Ga [0,1,2,3,4,5,6,7,8,9,10,11] J ((by kernel_rfl)) (.c J (.c J (.nil)))) ?_;refine Wz [2,52] ?_;refine Xd (lo := [_]) (gs := [(0,.c (.ref 0))]) (lo' := [_]) (new := []) [8] [(0,0,.ref 0)] (cV) J J J J J J J J J J J J J J J J J ?_;refine AL.weak (st':=(⟨30,[(2,.o (.c (.ptr 11 0))),(24,I (k2P x k+tot x.Used+2*x.Saves.length))],[.row 1 (els (markII (x.Tracks.map (·.Inputs)) k)),.row 1 (els (markW x.Base (k1P x k)).Level.Rows),.row 1 (els (markW x.Base (k1P x k)).Scores),.row 9 (els (markW x.Base (k1P x k)).Bodies),.row 1 (els (markW x.Now (cntW x.Base (k1P x k))).Level.Rows),.row 1 (els (markW x.Now (cntW x.Base (k1P x k))).Scores),.row 9 (els (markW x.Now (cntW x.Base (k1P x k))).Bodies),.row 1 (els (markII x.Used (k2P x k))),.row 2 (els (markV x.Saves (k2P x k+tot x.Used))),.row 1 (els x.Sums),.gh 0 (.ag (pV x 0 1 2 3 4 5 6 7 8 9)),.box (pV x 0 1 2 3 4 5 6 7 8 9)]⟩:St)) (Ga [0,1,2,3,4,5,6,7,8,9,10,11] J ((by kernel_rfl)) (.c J (.c J (.nil)))) ?_;refine Wz [2,52] ?_;refine Xd (lo := [_]) (gs := [(0,.c (.ref 0))]) (lo' := [_]) (new := []) [9] [(0,0,.ref 0)] (cS) J J J J J J J J J J J J J J J J J ?_;refine AL.weak (st':=(⟨30,[(2,.o (.c (.ptr 11 0))),(28,I (k2P x k+tot x.Used+2*x.Saves.length+x.Sums.length))],[.row 1 (els (markII (x.Tracks.map (·.Inputs)) k)),.row 1 (els (markW x.Base (k1P x k)).Level.Rows),.row 1 (els (markW x.Base (k1P x k)).Scores),.row 9 (els (markW x.Base (k1P x k)).Bodies),.row 1 (els (markW x.Now (cntW x.Base (k1P x k))).Level.Rows),.row 1 (els (markW x.Now (cntW x.Base (k1P x k))).Scores),.row 9 (els (markW x.Now (cntW x.Base (k1P x k))).Bodies),.row 1 (els (markII x.Used (k2P x k))),.row 2 (els (markV x.Saves (k2P x k+tot x.Used))),.row 1 (els (markI x.Sums (k2P x k+tot x.Used+2*x.Saves.length))),.gh 0 (.ag (pV x 0 1 2 3 4 5 6 7 8 9)),.box (pV x 0 1 2 3 4 5 6 7 8 9)]⟩:St)) (Ga [0,1,2,3,4,5,6,7,8,9,10,11] J ((by kernel_rfl)) (.c J (.c J (.nil)))) ?_;refine Wz [49,17] ?_
 exact Gb J (Gc [0,1,2,3,4,5,6,7,8,9,10] J J J)
end
section
open Go.RowKit

theorem tot_trs:∀ xs:List TTrack,tot (xs.map (·.Inputs))≤wts xs
 | []=>Gqk _
 |x::xs=>by
  have h1:=tot_trs xs
  have h2:tot ((x::xs).map (·.Inputs))=x.Inputs.length+tot (xs.map (·.Inputs)):=by simp[tot]
  have h3:wts (x::xs)=(x.Inputs.length+wts x.Inputs)+wts xs:=rfl
  omega
theorem wt_World (w:TWorld):Enc.wt w=(w.Level.Rows.length+wts w.Level.Rows)+(w.Scores.length+wts w.Scores)+(w.Bodies.length+wts w.Bodies):=rfl
theorem wt_Peer (x:TPeer):Enc.wt x=(x.Tracks.length+wts x.Tracks)+Enc.wt x.Base+Enc.wt x.Now+(x.Used.length+wts x.Used)+(x.Saves.length+wts x.Saves)+(x.Sums.length+wts x.Sums)+Enc.wt x.Fault:=rfl
theorem mark_in {x:TPeer} (hw:Enc.wt x≤1048576):MarkIn x:=by
 rw[wt_Peer,wt_World,wt_World] at hw
 have h1:=tot_wts x.Used
 have h2:=tot_trs x.Tracks
 exact⟨⟨by omega,by omega⟩,⟨by omega,by omega,by omega⟩,⟨by omega,by omega,by omega⟩,⟨by omega,by omega⟩,by omega,by omega⟩
theorem cnt_in {x:TPeer} (h:MarkIn x) (k:Int) (h0:0<k):0<cntP x k∧cntP x k≤k+33554432:=by
 obtain⟨⟨a1,a2⟩,⟨b1,b2,b3⟩,⟨c1,c2,c3⟩,⟨d1,d2⟩,e1,f1⟩:=h
 unfold cntP cntW
 omega
theorem peer_in {x:TPeer} (g:Enc.gd x) (hw:Enc.wt x≤1048576) (ho:peerOk x=true):PeerIn x:=by
 have ⟨⟨o1,o2,o3,o4⟩,⟨o5,o6,o7⟩,⟨o8,o9,o10⟩,_,⟨u1,u2,u3⟩,_⟩:=peer_spec ho
 have h1:=Va o1
 rw[wt_Peer,wt_World,wt_World] at hw
 refine⟨g,⟨by omega,fun t ht => ?_⟩,⟨by omega,by omega,by omega⟩,⟨by omega,by omega,by omega⟩,⟨by omega,fun r hr => ?_⟩,by omega,by omega⟩
 ·have h2:=wts_le x.Tracks t ht
  have h3:Enc.wt t=t.Inputs.length+wts t.Inputs:=rfl
  omega
 ·have h2:=wts_le x.Used r hr
  have h3:Enc.wt r=r.length+wts r:=rfl
  omega
end
section
open Go.RowKit

theorem S_RowsOf (l:List TTrack) (t:Nat) (g:Enc.gd l) (ho:tracksOk l=true) (ht:t≤knownTicks l) (h1000:t≤1000):Con Tryz.prog 102 [] [al l,ai 0,ai t] [.row 1 (els (rowsOf l t))] (.o (.c (.ref 0))):=by
 have c1:=S_TracksOk l g
 rw[ho] at c1
 have c2:=S_KnownTicks l g
 have f1:decide ((0:Int)<0)=false:=rfl
 have f2:decide (((knownTicks l:Nat):Int)<(t:Int))=false:=Gqa (by omega)
 refine Con.of Tryz.func102 J Tryz.ntmps102 J (fun E => ?_)
 refine Wz [32,4,175,78] ?_;refine zx (Qj J J (c1) J) J ?_;refine Wz [9,19,12,6,81] ?_;refine zx (Qj J J (c2) J) J ?_;refine Wz [1,86,60,40,192] ?_;refine Xj (fun m st=>∃ k:Nat,k+m=t∧(True)∧st=(⟨_,[(0,L l),(2,I t),(7,.o (.c (.ref 0))),(8,I k)],[.row 1 (els (rowsOf l k))]⟩:St)) (t) ⟨_,⟨0,by omega,trivial,J⟩,Gi [0]⟩ ?_
 rintro m_A _ ⟨k,hk_A,hp_A,rfl⟩
 have hl2:(els (rowsOf l k)).length=k:=by rw[Yx]; simp[rowsOf]
 by_cases h3:k<t
 ·have f3:decide ((k:Int)<(t:Int))=true:=Gqb (by omega)
  have c3:=S_RowAt l k g ho (by omega) (by omega)
  refine Wz [20,75,11,13] ?_;refine M1 (Z3 J J (c3) J J J) J J ?_;refine Wz [71,38,2,33,0,101,121,104] ?_
  exact⟨t-(k+1),by omega,(fun k:Nat=>(⟨_,[(0,L l),(2,I t),(7,.o (.c (.ref 0))),(8,I k)],[.row 1 (els (rowsOf l k))]⟩:St)) (k+1),⟨k+1,by omega,trivial,J⟩,Ga [0] J (Kw rowsOf_next) (.c J (.c J (.c J (.c J (.nil)))))⟩
 have f3:decide ((k:Int)<(t:Int))=false:=Gqa (by omega)
 have hkt:k=t:=by omega
 subst hkt
 refine Wz [20,12,76,89,17] ?_
 exact Gb J (Gc [0] J J J)
noncomputable def recQ (x:TPeer) (e:Int):TReplay×Bool:=addsM (newReplay x.Base.Level x.Tracks.length x.Seed e) (rowsOf x.Tracks x.Base.Tick.toNat)
noncomputable def recB (x:TPeer) (e:Int):Bool:=peerOk x&&(replayOk ⟨x.Base.Level,x.Tracks.length,x.Seed,e,[],[]⟩&&(recQ x e).2)
noncomputable def recM (x:TPeer) (e:Int):TReplay:=if recB x e=true then (recQ x e).1 else zeroReplay
theorem known_le400 {l:List TTrack} (h:tracksOk l=true):knownTicks l≤400:=by
 have hts:=Va h
 refine Nat.le_of_not_lt fun hc => ?_
 have h1:=known_all (l:=l) (k:=400) hc _ (Gqj (show 0<l.length by omega))
 have h2:=all_at h (show 0<l.length by omega)
 simp only[trackOk,Gqi,decide_eq_true_eq] at h2
 omega
structure RecIn (x:TPeer) (t:Nat):Prop where
 tk:x.Base.Tick=t
 ot:tracksOk x.Tracks=true
 kt:t≤knownTicks x.Tracks
 t4:t≤400
 kn:∀ k<t,∀ y∈x.Tracks,k<y.Inputs.length
theorem rec_in {x:TPeer} (ok:peerOk x=true):RecIn x x.Base.Tick.toNat:=by
 have ⟨⟨o1,o2,_⟩,_,_,_,_,_,q1,_⟩:=peer_spec ok
 have h3:=known_le400 o1
 have h4:=Za.1 (Vf o2).2.1
 exact⟨by omega,o1,by omega,by omega,fun k hk y hy=>known_all (l:=x.Tracks) (k:=k) (by omega) y hy⟩
theorem newr_in {x:TPeer} {e:Int} (h:PeerIn x) (he:I64 e):RepIn (newReplay x.Base.Level x.Tracks.length x.Seed e)∧KeysIn (newReplay x.Base.Level x.Tracks.length x.Seed e):=by
 rw[newReplay]
 split
 ·exact⟨⟨⟨h.gd.2.2.2.2.2.1.1,⟨by have:=h.tr.1; show (-9223372036854775808:Int)≤(x.Tracks.length:Int); omega,by have:=h.tr.1; show (x.Tracks.length:Int)≤9223372036854775807; omega⟩,h.gd.2.2.2.1,he,⟨by simp,fun x hx=>by simp at hx⟩,⟨by simp,fun x hx=>by simp at hx⟩⟩,h.bw.1,by simp,by simp,by simp[tot]⟩,fun s hs=>by simp at hs⟩
 ·exact⟨rep_zero,fun s hs=>by simp[zeroReplay] at hs⟩
theorem rows_gd {l:List TTrack} {t:Nat} (ho:tracksOk l=true) (g:Enc.gd l) (h:t≤400):Enc.gd (rowsOf l t)∧∀ row∈rowsOf l t,row.length≤1048576:=by
 have hts:=Va ho
 refine⟨⟨by simp[rowsOf]; omega,fun r hr => ?_⟩,fun r hr => ?_⟩
 ·obtain⟨k,_,rfl⟩:=Gqt.1 hr
  exact rowAt_gd g k
 ·obtain⟨k,_,rfl⟩:=Gqt.1 hr
  simp only[rowAt,List.length_map]
  have:=hts.2
  omega
theorem adds_inR {r:TReplay} {rows:List (List Int)} (gr:Enc.gd rows) (ir:RepIn r) (hk:KeysIn r):RepIn (addsM r rows).1:=by
 have key:∀ n x,addsG r rows n=some x→RepIn x∧KeysIn x:=by
  intro n
  induction n with
  |zero=>intro x h; cases h; exact⟨ir,hk⟩
  | succ n ih =>
   intro x h
   rw[addsG] at h
   cases hn:addsG r rows n with
   |none=>rw[hn] at h; cases h
   | some z =>
    rw[hn] at h
    simp only at h
    cases hr:rows[n]? with
    |none=>rw[hr] at h; cases h; exact ih _ hn
    | some row =>
     rw[hr] at h
     simp only at h
     split at h
     ·cases h
      have:=ih z hn
      exact add_both this.1 (gr.2 row (Gqq hr)) this.2
     ·cases h
 cases h:addsG r rows rows.length with
 |none=>rw[adds_F h]; exact ir
 |some x=>rw[adds_T h]; exact (key _ x h).1
theorem rec_y {x:TPeer} {e:Int} (g:Enc.gd x) (hw:Enc.wt x≤1048576) (he:I64 e):RepIn (recM x e):=by
 rw[recM]
 split
 ·rename_i hb
  simp only[recB,Gqi] at hb
  have h:=peer_in g hw hb.1
  obtain⟨a,b⟩:=newr_in h he
  have hr:=rec_in hb.1
  exact adds_inR (rows_gd hr.ot h.gd.2.2.2.2.1 hr.t4).1 a b
 ·exact rep_zero
theorem I_RecordPeer (x:TPeer) (e:Int) (g:Enc.gd x) (hw:Enc.wt x≤1048576) (he:I64 e):Con Tryz.prog 33 [] [ag x,ai e] (ownO (Enc.e (recM x e))) (.tu [.ag (ownV 0 (Enc.e (recM x e))),.c (bv (recB x e))]):=by
 have c1:=I_PeerOk x g
 cases ok:peerOk x with
 |false =>
  have hb:recB x e=false:=by rw[recB,ok]; rfl
  rw[show recM x e=zeroReplay by rw[recM,hb]; rfl,hb]
  rw[ok] at c1
  refine Con.of Tryz.func33 J Tryz.ntmps33 J (fun E => ?_)
  refine Wz [53,2,55] ?_;refine zx (Qj J J (c1) J) J ?_;refine Wz [9,50,77,63] ?_
  exact qo J J (Yc [1,1,1] [2,3,4] J J (by decide) J J J)
 |true =>
 rw[ok] at c1
 have h:=peer_in g hw ok
 have hr:=rec_in ok
 have hlt:=Yx x.Tracks
 have c2:=I_NewReplay x.Base.Level x.Tracks.length x.Seed e h.gd.2.2.2.2.2.1.1 h.bw.1 ⟨by have:=h.tr.1; omega,by have:=h.tr.1; omega⟩ h.gd.2.2.2.1 he
 have c3:=I_RowsOf x.Tracks x.Base.Tick.toNat h.gd.2.2.2.2.1 hr.ot hr.kt (by have:=hr.t4; omega) hr.kn
 obtain⟨ny,nk⟩:=newr_in h he
 obtain⟨rg,rl⟩:=rows_gd hr.ot h.gd.2.2.2.2.1 hr.t4
 have c4:=I_AddRows _ _ rg ny rl nk
 have hB:recB x e=(replayOk ⟨x.Base.Level,x.Tracks.length,x.Seed,e,[],[]⟩&&(addsM (newReplay x.Base.Level x.Tracks.length x.Seed e) (rowsOf x.Tracks x.Base.Tick.toNat)).2):=by rw[recB,ok]; rfl
 have hM:recM x e=if recB x e=true then (addsM (newReplay x.Base.Level x.Tracks.length x.Seed e) (rowsOf x.Tracks x.Base.Tick.toNat)).1 else zeroReplay:=rfl
 generalize newReplay x.Base.Level x.Tracks.length x.Seed e=r0 at c2 c4 hB hM
 generalize rowsOf x.Tracks x.Base.Tick.toNat=rs at c3 c4 hB hM
 generalize (addsM r0 rs).1=r1 at c4 hM
 generalize (addsM r0 rs).2=b1 at c4 hB
 generalize replayOk ⟨x.Base.Level,x.Tracks.length,x.Seed,e,[],[]⟩=b0 at c2 hB
 rw[←hr.tk] at c3
 rw[←hlt] at c2
 rw[hM,hB]
 clear hM hB ny nk rg rl hr hw
 cases b0 with
 |false =>
  refine Con.of Tryz.func33 J Tryz.ntmps33 J (fun E => ?_)
  refine Wz [53,2,55] ?_;refine zx (Qj J J (c1) J) J ?_;refine Wz [73,4,159,267,16,7,58] ?_;refine M1 (Z3 J J (c2) J J J) J J ?_;refine Wz [71,66,36,88,50,77,63] ?_
  exact qo J J (Yc [1,1,1] [6,7,8] J J (by decide) J J J)
 |true =>
 refine Con.of Tryz.func33 J Tryz.ntmps33 J (fun E => ?_)
 refine Wz [53,2,55] ?_;refine zx (Qj J J (c1) J) J ?_;refine Wz [73,4,159,267,16,7,58] ?_;refine M1 (Z3 J J (c2) J J J) J J ?_;refine Wz [71,66,36,88,41,8] ?_
 refine AWP.pre (st':=(⟨43,[(1,I e),(2,.o (.c (.ptr 0 0))),(4,.o (.c (.ptr 1 0))),(6,.o (.c (.ptr 5 0))),(7,B true)],[.box ((Enc.e x).map (V1.rd [])),.box [nilV,jn 0,jn 0,jn 0,nilV,nilV],.row 1 (els r0.Level.Rows),.row 1 (els r0.Rows),.row 1 (els r0.Keys),.box [.ref 2,jn r0.Players,jn r0.Seed,jn r0.Every,.ref 3,.ref 4]]⟩:St)) ?_ (Ga [0,1,2,3,4,5] J ((by kernel_rfl)) (.c J (.c J (.c J (.c J (.c J (.nil)))))))
 refine Xi [[],[],[1],[],[3],[3,4],[1,2,3,4,5],(u9 7),(u9 8),(u9 9),(u9 9),(u9 10),(u9 12)] [[],[],[30],[],[32],[32,33],[30,31,32,33,34],[29,30,31,32,33,34,35],[29,30,31,32,33,34,35,36],[28,29,30,31,32,33,34,35,36],[28,29,30,31,32,33,34,35,36],[28,29,30,31,32,33,34,35,36,37],[28,29,30,31,32,33,34,35,36,37,38]] [[30,31,32,33,34,35],[29,32,33,34],[29,32,33,34],[29,30,31],[29,30,31],[29,30,31],[29],[],[],[38],[37],[38],[],[10]] J ?_;refine Wz [114,28,178,28] ?_;refine Vk (Z3 J J (c3) J J J) J ?_;refine Vk (Z3 J J (c4) J J J) J ?_;refine Wz [205,154,154,21] ?_;refine AL.weak (st':=(⟨43,[(4,.o (.c (.ptr 0 0))),(6,.o (.c (.ptr 4 0))),(37,.o (.ag [.ref 5,jn r1.Players,jn r1.Seed,jn r1.Every,.ref 6,.ref 7])),(38,B b1)],[.box [nilV,jn 0,jn 0,jn 0,nilV,nilV],.row 1 (els r0.Level.Rows),.row 1 (els r0.Rows),.row 1 (els r0.Keys),.box [.ref 1,jn r0.Players,jn r0.Seed,jn r0.Every,.ref 2,.ref 3],.row 1 (els r1.Level.Rows),.row 1 (els r1.Rows),.row 1 (els r1.Keys)]⟩:St)) (Ga [1,2,3,4,5,7,8,9] J ((by kernel_rfl)) (.c J (.c J (.c J (.c J (.nil)))))) ?_
 cases b1 with
 |false =>
  refine Wz [36,88,50,77,63] ?_
  exact qo J J (Yc [1,1,1] [8,9,10] J J (by decide) J J J)
 |true =>
  refine Wz [36,88,41,14,36,17] ?_
  exact qo J J (Gc [5,6,7] J J J)
theorem S_RecordPeer (x:TPeer) (e:Int) (g:Enc.gd x) (hw:Enc.wt x≤1048576) (he:I64 e):Con Tryz.prog 31 [] [ag x,ai e] (ownO (Enc.e (recM x e))) (.tu [.ag (ownV 0 (Enc.e (recM x e))),.c (bv (recB x e))]):=by
 have c1:=S_PeerOk x g
 cases ok:peerOk x with
 |false =>
  have hb:recB x e=false:=by rw[recB,ok]; rfl
  rw[show recM x e=zeroReplay by rw[recM,hb]; rfl,hb]
  rw[ok] at c1
  refine Con.of Tryz.func31 J Tryz.ntmps31 J (fun E => ?_)
  refine Wz [53,2,55] ?_;refine zx (Qj J J (c1) J) J ?_;refine Wz [9,50,77,63] ?_
  exact qo J J (Yc [1,1,1] [2,3,4] J J (by decide) J J J)
 |true =>
 rw[ok] at c1
 have h:=peer_in g hw ok
 have hr:=rec_in ok
 have hlt:=Yx x.Tracks
 have c2:=S_NewReplay x.Base.Level x.Tracks.length x.Seed e h.gd.2.2.2.2.2.1.1 h.bw.1 ⟨by have:=h.tr.1; omega,by have:=h.tr.1; omega⟩ h.gd.2.2.2.1 he
 have c3:=S_RowsOf x.Tracks x.Base.Tick.toNat h.gd.2.2.2.2.1 hr.ot hr.kt (by have:=hr.t4; omega)
 obtain⟨ny,nk⟩:=newr_in h he
 obtain⟨rg,rl⟩:=rows_gd hr.ot h.gd.2.2.2.2.1 hr.t4
 have c4:=S_AddRows _ _ rg ny rl nk
 have hB:recB x e=(replayOk ⟨x.Base.Level,x.Tracks.length,x.Seed,e,[],[]⟩&&(addsM (newReplay x.Base.Level x.Tracks.length x.Seed e) (rowsOf x.Tracks x.Base.Tick.toNat)).2):=by rw[recB,ok]; rfl
 have hM:recM x e=if recB x e=true then (addsM (newReplay x.Base.Level x.Tracks.length x.Seed e) (rowsOf x.Tracks x.Base.Tick.toNat)).1 else zeroReplay:=rfl
 generalize newReplay x.Base.Level x.Tracks.length x.Seed e=r0 at c2 c4 hB hM
 generalize rowsOf x.Tracks x.Base.Tick.toNat=rs at c3 c4 hB hM
 generalize (addsM r0 rs).1=r1 at c4 hM
 generalize (addsM r0 rs).2=b1 at c4 hB
 generalize replayOk ⟨x.Base.Level,x.Tracks.length,x.Seed,e,[],[]⟩=b0 at c2 hB
 rw[←hr.tk] at c3
 rw[←hlt] at c2
 rw[hM,hB]
 clear hM hB ny nk rg rl hr hw
 refine Con.of Tryz.func31 J Tryz.ntmps31 J (fun E => ?_)
 refine Wz [53,2,55] ?_;refine zx (Qj J J (c1) J) J ?_;refine Wz [73,4,159,267,16,7,58] ?_;refine M1 (Z3 J J (c2) J J J) J J ?_;refine Wz [71,66,36,2,8] ?_
 refine AWP.pre (st':=(⟨46,[(1,I e),(2,.o (.c (.ptr 0 0))),(4,.o (.c (.ptr 1 0))),(6,.o (.c (.ptr 5 0))),(7,B b0)],[.box ((Enc.e x).map (V1.rd [])),.box [nilV,jn 0,jn 0,jn 0,nilV,nilV],.row 1 (els r0.Level.Rows),.row 1 (els r0.Rows),.row 1 (els r0.Keys),.box [.ref 2,jn r0.Players,jn r0.Seed,jn r0.Every,.ref 3,.ref 4]]⟩:St)) ?_ (Ga [0,1,2,3,4,5] J ((by kernel_rfl)) (.c J (.c J (.c J (.c J (.c J (.nil)))))))
 refine Xi [[],[],[1],[],[3],[3,4],[1,2,3,4,5],(u9 7),(u9 8),(u9 9),(u9 9),[],[0,1,2,3,4,5,6,7,8,9,11],(u9 13)] [[],[],[29],[],[31],[31,32],[29,30,31,32,33],[28,29,30,31,32,33,34],[28,29,30,31,32,33,34,35],[27,28,29,30,31,32,33,34,35],[27,28,29,30,31,32,33,34,35],[],[8,27,28,29,30,31,32,33,34,35,36],[8,27,28,29,30,31,32,33,34,35,36,37]] [[8,29,30,31,32,33,34],[8,28,31,32,33],[8,28,31,32,33],[8,28,29,30],[8,28,29,30],[8,28,29,30],[8,28],[8],[8],[8,37],[8,36],[27,28,29,30,31,32,33,34,35,36,37],[37],[],[10]] J ?_;refine Wz [114,28,178,28] ?_;refine Vk (Z3 J J (c3) J J J) J ?_;refine Vk (Z3 J J (c4) J J J) J ?_;refine Wz [205,154,154,195,21] ?_;refine AL.weak (st':=(⟨46,[(4,.o (.c (.ptr 0 0))),(7,B b0),(8,.o (.c (.ptr 1 0))),(36,.o (.ag [.ref 2,jn r1.Players,jn r1.Seed,jn r1.Every,.ref 3,.ref 4])),(37,B b1)],[.box [nilV,jn 0,jn 0,jn 0,nilV,nilV],.box [nilV,jn 0,jn 0,jn 0,nilV,nilV],.row 1 (els r1.Level.Rows),.row 1 (els r1.Rows),.row 1 (els r1.Keys)]⟩:St)) (Ga [1,10,7,8,9] J ((by kernel_rfl)) (.c J (.c J (.c J (.c J (.c J (.nil))))))) ?_
 cases b0 with
 |false =>
  refine Wz [36,88,0,57,25,50,77,63] ?_
  exact qo J J (Yc [1,1,1] [5,6,7] J J (by decide) J J J)
 |true =>
 cases b1 with
 |false =>
  refine Wz [36,88,19,9,6,50,77,63] ?_
  exact qo J J (Yc [1,1,1] [5,6,7] J J (by decide) J J J)
 |true =>
  refine Wz [36,88,19,9,60,14,36,17] ?_
  exact qo J J (Gc [2,3,4] J J J)
end
end Go.Proofs.YtoecjaohdnoenaaGreat
