/-
  NewMatch in the program.
  Conditions: levels and lists of at most 2^20 elements.
-/
import Derived.Test.YtoecjaohdnoenaaGreatDDNewMRowk24
set_option linter.unusedSimpArgs false
set_option linter.unusedVariables false
set_option maxRecDepth 8000
set_option maxHeartbeats 8000000
namespace Go.Proofs.YtoecjaohdnoenaaGreat
section
open Go.RowKit

def mapR {α:Type} (f:Nat→α) (k:Nat):List α:=(List.range k).map f
theorem Yo {α:Type} (f:Nat→α) (k:Nat):(mapR f k).length=k:=by simp[mapR]
theorem mapR_at {α:Type} (f:Nat→α) {k i:Nat} (h:i<k):(mapR f k)[i]? = some (f i):=by simp[mapR,h]
theorem X7 {α:Type} [Enc α] (f:Nat→α) (k:Nat):els (mapR f (k+1))=els (mapR f k) ++ [Enc.e (f k)]:=by
 rw[mapR,List.range_succ,List.map_append]
 exact List.map_append
theorem reps_d (d:Int) (k:Nat):els (List.replicate (k+1) d)=els (List.replicate k d) ++ [[.v (.int .i64 d)]]:=by
 rw[List.replicate_succ']
 exact List.map_append
def mkW (w:TWire) (i j:Nat):TWire:=⟨(w.Seed+100*(i:Int)+(j:Int))%65536,w.Delay,w.Jitter,w.Loss,w.Copies,w.Damage,0,[],0,0⟩
noncomputable def pAt (l:TLevel) (n:Nat) (seed d ah:Int) (fs:List TFault) (i:Nat):TPeer:=peV l n seed i d ah (fs.getD i ⟨0,0,0⟩)
noncomputable def bAt (l:TLevel) (n:Nat) (seed d ah:Int) (fs:List TFault) (i:Nat):Bool:=peB l n seed i d ah (fs.getD i ⟨0,0,0⟩)
noncomputable def newN (l:TLevel) (sc:List (List Int)) (seed d ah:Int) (fs:List TFault) (w:TWire):TMatch :=
 ⟨l,seed,d,sc,mapR (pAt l sc.length seed d ah fs) sc.length,mapR (fun i=>mapR (mkW w i) sc.length) sc.length,mapR (fun _=>List.replicate sc.length ⟨0,0,0,0,0⟩) sc.length,mapR (fun _=>List.replicate sc.length d) sc.length,0,[],[],[],0⟩
def zMt:TMatch:=⟨⟨[]⟩,0,0,[],[],[],[],[],0,[],[],[],0⟩
noncomputable def nmB (l:TLevel) (sc:List (List Int)) (seed d ah:Int) (fs:List TFault) (w:TWire):Bool:=(decide (fs.length=sc.length)&&wireOk w)&&matchOk (newN l sc seed d ah fs w)
noncomputable def nmV (l:TLevel) (sc:List (List Int)) (seed d ah:Int) (fs:List TFault) (w:TWire):TMatch:=if nmB l sc seed d ah fs w=true then newN l sc seed d ah fs w else zMt
theorem zpaces (n:Nat):Enc.e (List.replicate n (⟨0,0,0,0,0⟩:TPace)) = [T.sl 5 (List.replicate n ([Value.int .i64 0,Value.int .i64 0,Value.int .i64 0,Value.int .i64 0,Value.int .i64 0].map (zT 1)))]:=by
 show [T.sl 5 (els (List.replicate n (⟨0,0,0,0,0⟩:TPace)))]=_
 rw[show els (List.replicate n (⟨0,0,0,0,0⟩:TPace))=List.replicate n (Enc.e (⟨0,0,0,0,0⟩:TPace)) from List.map_replicate]
 rfl
theorem wire_seed {w:TWire} (h:wireOk w=true):0≤w.Seed∧w.Seed≤65535:=Yk.1 (Gqc h).1.1
theorem newN_no {l:TLevel} {sc:List (List Int)} {seed d ah:Int} {fs:List TFault} {w:TWire} {i:Nat} (hi:i<sc.length) (h:bAt l sc.length seed d ah fs i=false):matchOk (newN l sc seed d ah fs w)=false:=by
 cases hm:matchOk (newN l sc seed d ah fs w) with
 |false=>rfl
 |true =>
  exfalso
  obtain⟨_,_,_,⟨_,hp⟩,_⟩:=(dS hm:MatchP (newN l sc seed d ah fs w))
  have h1:=hp i (pAt l sc.length seed d ah fs i) (mapR_at _ hi)
  rw[pAt,peV,show peB l sc.length seed i d ah (fs.getD i ⟨0,0,0⟩)=false from h,peerIn] at h1
  simp only[Gqj] at h1
  have h2:peerOk zPe=true:=h1.1.1.1
  exact Nat.not_succ_le_zero 0 (Z7 (peer_spec h2).1.1).1
theorem newN_n {l:TLevel} {sc:List (List Int)} {seed d ah:Int} {fs:List TFault} {w:TWire} (h:matchOk (newN l sc seed d ah fs w)=true):1≤sc.length∧sc.length≤4:=(dS h:MatchP (newN l sc seed d ah fs w)).2.1
theorem pAt_gd {l:TLevel} {n:Nat} {seed d ah:Int} {fs:List TFault} (i:Nat) (hi:i<4) (hg:Enc.gd l) (hL:l.Rows.length≤1048576) (hn:1≤n∧n≤4) (gs:I64 seed) (ga:I64 ah) (gf:Enc.gd fs):Enc.gd (pAt l n seed d ah fs i):=by
 have h0:I64 0:=⟨by decide,by decide⟩
 rw[pAt,peV]
 split
 ·rename_i h
  rw[peB,Gqj,Gqj] at h
  refine newPg_gd (nwV_in hg hL hn) hn.2 h.1.2 ⟨by omega,by omega⟩ ga gs ?_
  rw[Gqd]
  cases he:fs[i]? with
  |none=>exact⟨h0,h0,h0⟩
  |some f=>exact gf.2 f (Gq5 he)
 ·exact⟨h0,h0,h0,h0,⟨Gqr _,fun x hx=>by cases hx⟩,wor_zero.gd,wor_zero.gd,⟨Gqr _,fun x hx=>by cases hx⟩,⟨Gqr _,fun x hx=>by cases hx⟩,⟨Gqr _,fun x hx=>by cases hx⟩,⟨h0,h0,h0⟩,h0,h0⟩
theorem gd_mapR {α:Type} [Enc α] {f:Nat→α} {k:Nat} (hk:k≤4) (h:∀ i,i<k→Enc.gd (f i)):Enc.gd (mapR f k):=⟨by rw[Yo]; omega,fun x hx=>by
 simp only[mapR,Gqs,List.mem_range] at hx
 obtain⟨i,hi,rfl⟩:=hx
 exact h i hi⟩
theorem gd_rep {α:Type} [Enc α] {a:α} {k:Nat} (hk:k≤4) (h:Enc.gd a):Enc.gd (List.replicate k a):=⟨by rw[Gxr]; omega,fun x hx=>by rw[Gxo hx]; exact h⟩
theorem newN_gd {l:TLevel} {sc:List (List Int)} {seed d ah:Int} {fs:List TFault} {w:TWire} (hg:Enc.gd l) (hL:l.Rows.length≤1048576) (hn:sc.length≤4) (gsc:Enc.gd sc) (gs:I64 seed) (gd:I64 d) (ga:I64 ah) (gf:Enc.gd fs) (gw:Enc.gd w):Enc.gd (newN l sc seed d ah fs w):=by
 have h0:I64 0:=⟨by decide,by decide⟩
 refine⟨hg,gs,gd,gsc,gd_mapR hn fun i hi=>pAt_gd i (by omega) hg hL ⟨by omega,hn⟩ gs ga gf,gd_mapR hn fun i hi=>gd_mapR hn fun j hj=>⟨⟨by show (-9223372036854775808:Int)≤(w.Seed+100*(i:Int)+(j:Int))%65536; omega,by show (w.Seed+100*(i:Int)+(j:Int))%65536≤9223372036854775807; omega⟩,gw.2.1,gw.2.2.1,gw.2.2.2.1,gw.2.2.2.2.1,gw.2.2.2.2.2.1,h0,⟨Gqr _,fun x hx=>by cases hx⟩,h0,h0⟩,gd_mapR hn fun i hi=>gd_rep hn ⟨h0,h0,h0,h0,h0⟩,gd_mapR hn fun i hi=>gd_rep hn gd,h0,⟨Gqr _,fun x hx=>by cases hx⟩,⟨Gqr _,fun x hx=>by cases hx⟩,⟨Gqr _,fun x hx=>by cases hx⟩,h0⟩
theorem I_NewMatch (l:TLevel) (sc:List (List Int)) (seed d ah:Int) (fs:List TFault) (w:TWire) (hg:Enc.gd l) (hL:l.Rows.length≤1048576) (gsc:Enc.gd sc) (wsc:Enc.wt sc≤1048576) (gs:I64 seed) (gd:I64 d) (ga:I64 ah) (gf:Enc.gd fs) (gw:Enc.gd w) :
  Con Tryz.prog 18 [] [ag l,al sc,ai seed,ai d,ai ah,al fs,ag w] (mR (nmV l sc seed d ah fs w) []) (.tu [.ag (mC (nmV l sc seed d ah fs w) 0),.c (bv (nmB l sc seed d ah fs w))]):=by
 have eS:=X6 sc
 have eF:=X6 fs
 have cL:=I_copyLevel l hg hL
 have cS:=I_copyRows sc gsc (rows_in wsc).1 (rows_in wsc).2
 have cW:=I_WireOk w gw
 refine Con.of Tryz.func18 J Tryz.ntmps18 J (fun E => ?_)
 refine Wz [232,22,3,4,21,98,104,139,0,70,242,76,0,70,191,76,0,213] ?_;refine zx (Qt.grdF J J J (.hit .stop) (fun hgrd=>Qj J J (cW) J)) J ?_;refine Wz [154,25] ?_
 refine Q8 J (fun h => ?_) (fun h => ?_)
 ·have hB:nmB l sc seed d ah fs w=false:=by
   rw[nmB]
   cases hm:matchOk (newN l sc seed d ah fs w) with
   |false=>rw[Bool.and_false]
   | true =>
    have hn:=newN_n hm
    cases hw:wireOk w with
    |false=>rw[Bool.and_false]; rfl
    | true =>
     by_cases hf:fs.length=sc.length
     ·exfalso
      rw[hw] at h
      simp only[Gqo,decide_eq_true_eq,Bool.not_true,Bool.false_eq_true,or_false,eF,eS,ne_eq] at h
      omega
     ·rw[Gqa hf]; rfl
  rw[show nmV l sc seed d ah fs w=zMt by rw[nmV,hB]; rfl,hB]
  refine AWP.pre (st':=(⟨134,[(14,.o (.c (.ptr 0 0))),(15,B false)],[.box zM]⟩:St)) ?_ (Xw [2] (by decide) J ((by kernel_rfl)) (.c J (.c J (.nil))))
  refine Wz [7,115,110,109,47] ?_
  exact Xh (cs:=zM) J J J J J (Xu (v' := .tu [.ag (mC zMt 1),.c (bv false)]) [1,1,23,1,1,1,6,10,2] [1,2,3,4,5,6,7,8,9] (by kernel_rfl) (by kernel_rfl) (by decide) J (by kernel_rfl) (by kernel_rfl))
 have hG:fs.length=sc.length∧1≤sc.length∧sc.length≤4∧wireOk w=true:=by
  simp only[Gql,decide_eq_false_iff_not,Gqv,eF,eS,ne_eq,Decidable.not_not] at h
  exact⟨by omega,by omega,by omega,h.2⟩
 obtain⟨hf,n1,n4,hw⟩:=hG
 have hBx:nmB l sc seed d ah fs w=matchOk (newN l sc seed d ah fs w):=by rw[nmB,Gqb hf,hw]; rfl
 have hVx:nmV l sc seed d ah fs w=if matchOk (newN l sc seed d ah fs w)=true then newN l sc seed d ah fs w else zMt:=by rw[nmV,hBx]
 rw[hBx,hVx]
 have cM:=I_MatchOk _ (newN_gd (w:=w) hg hL n4 gsc gs gd ga gf gw)
 have hws:=wire_seed hw
 clear h
 refine AWP.pre (st':=(⟨134,[(1,L sc),(2,I seed),(3,I d),(4,I ah),(5,L fs),(7,.o (.c (.ptr 0 0))),(13,.o (.c (.ptr 1 0))),(14,.o (.c (.ptr 2 0))),(15,B false),(16,I sc.length)],[.box [sr l.Rows],.box (wX w (sr w.Flights)),.box zM]⟩:St)) ?_ (Xw [0,1,2] (by decide) J ((by kernel_rfl)) (.c J (.c J (.c J (.c J (.c J (.c J (.c J (.c J (.c J (.cons (Xl (by rw[eS])) (.nil))))))))))))
 refine Wz [11,40] ?_;refine M1 (Y8 J J (cL) J J J) J J ?_;refine Wz [144,0] ?_;refine M1 (Y8 J J (cS) J J J) J J ?_;refine Wz [115,22,49,39] ?_
 refine AWP.pre (st':=(⟨134,[(2,I seed),(3,I d),(4,I ah),(5,L fs),(7,.o (.c (.ptr 0 0))),(13,.o (.c (.ptr 1 0))),(14,.o (.c (.ptr 2 0))),(15,B false),(16,I sc.length),(17,.o (.c (.ptr 5 0))),(18,I 0)],[.box [sr l.Rows],.box (wX w (sr w.Flights)),.box zM,.row 1 (els l.Rows),.row 1 (els sc),.box (mX (newN l sc seed d ah fs w) (.ref 3) (.ref 4) nv nv nv nv nv nv nv)]⟩:St)) ?_ (Xw [0,1,2,3,4,5] (by decide) J ((by kernel_rfl)) (.c J (.c J (.c J (.c J (.c J (.c J (.c J (.c J (.c J (.c J (.c J (.nil)))))))))))))
 refine AWP.pre ?_ (Wk.nilbox (p:=5) (i:=4) 23 J J)
 refine AWP.pre ?_ (Wk.nilbox (p:=5) (i:=5) 1 J J)
 refine AWP.pre ?_ (Wk.nilbox (p:=5) (i:=6) 1 J J)
 refine AWP.pre ?_ (Wk.nilbox (p:=5) (i:=7) 1 J J)
 refine Xe (fun m st=>∃ k:Nat,k+m=sc.length∧(∀ i,i<k→bAt l sc.length seed d ah fs i=true)∧st=(⟨134,[(2,I seed),(3,I d),(4,I ah),(5,L fs),(7,.o (.c (.ptr 0 0))),(13,.o (.c (.ptr 1 0))),(14,.o (.c (.ptr 2 0))),(15,B false),(16,I sc.length),(17,.o (.c (.ptr 5 0))),(18,I k)],[.box [sr l.Rows],.box (wX w (sr w.Flights)),.box zM,.row 1 (els l.Rows),.row 1 (els sc),.box (mX (newN l sc seed d ah fs w) (.ref 3) (.ref 4) (.ref 6) (.ref 7) (.ref 8) (.ref 9) nv nv nv),.row 23 (els (mapR (pAt l sc.length seed d ah fs) k)),.row 1 (els (mapR (fun i=>mapR (mkW w i) sc.length) k)),.row 1 (els (mapR (fun _=>List.replicate sc.length (⟨0,0,0,0,0⟩:TPace)) k)),.row 1 (els (mapR (fun _=>List.replicate sc.length d) k))]⟩:St)) (sc.length) ⟨_,⟨0,by omega,(fun i hi=>absurd hi (Nat.not_lt_zero i)),J⟩,Xv [0,1,2,3,4,5,6,7,8,9] (by kernel_rfl)⟩ ?_
 rintro m_A _ ⟨k,hk_A,hp_A,rfl⟩
 have lP:(els (mapR (pAt l sc.length seed d ah fs) k)).length=k:=by rw[X6,Yo]
 have lW:(els (mapR (fun i=>mapR (mkW w i) sc.length) k)).length=k:=by rw[X6,Yo]
 have lQ:(els (mapR (fun _=>List.replicate sc.length (⟨0,0,0,0,0⟩:TPace)) k)).length=k:=by rw[X6,Yo]
 have lA:(els (mapR (fun _=>List.replicate sc.length d) k)).length=k:=by rw[X6,Yo]
 by_cases h3:k<sc.length
 ·have f3:decide ((k:Int)<(sc.length:Int))=true:=Gqb (by omega)
  have hkf:k<fs.length:=by omega
  have hat:=X5 hkf
  have hfk:fs.getD k ⟨0,0,0⟩=fs[k]:=by rw[Gqd,Gqe hkf]; rfl
  have cP:=I_NewPeerA l sc.length seed k d ah fs[k] hg hL ⟨n1,n4⟩ gs ⟨by omega,by omega⟩ ga (gf.2 _ (Gqf hkf))
  have ep:peV l sc.length seed k d ah fs[k]=pAt l sc.length seed d ah fs k:=by rw[pAt,hfk]
  have eb:peB l sc.length seed k d ah fs[k]=bAt l sc.length seed d ah fs k:=by rw[bAt,hfk]
  rw[ep,eb] at cP
  have hsn:=X7 (pAt l sc.length seed d ah fs) k
  have hsW:=X7 (fun i=>mapR (mkW w i) sc.length) k
  have hsQ:=X7 (fun _:Nat=>List.replicate sc.length (⟨0,0,0,0,0⟩:TPace)) k
  have hsA:=X7 (fun _:Nat=>List.replicate sc.length d) k
  have hnn:=newN_no (l:=l) (sc:=sc) (seed:=seed) (d:=d) (ah:=ah) (fs:=fs) (w:=w) h3
  have hnx:bAt l sc.length seed d ah fs k=true→∀ i,i<k+1→bAt l sc.length seed d ah fs i=true:=fun hb i hi=>by
   by_cases e:i=k
   ·rw[e]; exact hb
   ·exact hp_A i (by omega)
  generalize pAt l sc.length seed d ah fs k=p at cP hsn
  generalize bAt l sc.length seed d ah fs k=b at cP hnn hnx
  generalize fs[k]=f at cP hat
  clear ep eb hfk
  refine Wz [28,256,45] ?_
  refine AWP.pre (st':=(⟨134,[(2,I seed),(3,I d),(4,I ah),(5,L fs),(7,.o (.c (.ptr 0 0))),(13,.o (.c (.ptr 1 0))),(14,.o (.c (.ptr 2 0))),(15,B false),(16,I sc.length),(17,.o (.c (.ptr 5 0))),(18,I k)],[.box [sr l.Rows],.box (wX w (sr w.Flights)),.box zM,.row 1 (els l.Rows),.row 1 (els sc),.box (mX (newN l sc seed d ah fs w) (.ref 3) (.ref 4) (.ref 6) (.ref 7) (.ref 8) (.ref 9) nv nv nv),.row 23 (els (mapR (pAt l sc.length seed d ah fs) k)),.row 1 (els (mapR (fun i=>mapR (mkW w i) sc.length) k)),.row 1 (els (mapR (fun _=>List.replicate sc.length (⟨0,0,0,0,0⟩:TPace)) k)),.row 1 (els (mapR (fun _=>List.replicate sc.length d) k))]⟩:St)) ?_ (Xw [0,1,2,3,4,5,6,7,8,9] (by decide) J ((by kernel_rfl)) (.c J (.c J (.c J (.c J (.c J (.c J (.c J (.c J (.c J (.c J (.c J (.nil)))))))))))))
  refine Xd u8_36 [[],[],[],[],[],[],[],[],[63,64],[63,64,65],[57,58,59,60,61,62,63,64,65,66],[57,58,59,60,61,62,63,64,65,66,67],[56,57,58,59,60,61,62,63,64,65,66,67],[56,57,58,59,60,61,62,63,64,65,66,67],[],[19,56,57,58,59,60,61,62,63,64,65,66,67,68],[19,56,57,58,59,60,61,62,63,64,65,66,67,68,69]] [[19,58,59,60,61,62,63,64,65,66],[19,57,59,60,61,62,63,64,65,66],[19,57,58,60,61,62,63,64,65,66],[19,57,58,59,61,62,63,64,65,66],[19,57,58,59,60,62,63,64,65,66],[19,57,58,59,60,61,63,64,65,66],[19,57,58,59,60,61,62,64],[19,57,58,59,60,61,62,63],[19,57,58,59,60,61,62],[19,57,58,59,60,61,62],[19],[19],[19,69],[19,68],[56,57,58,59,60,61,62,63,64,65,66,67,68,69],[69],[],[13]] J ?_;refine Wz [147,142,142,142,8,106,210] ?_;refine DR.s (Y8 J J (cP) J J J) J J ?_;refine Wz [237,188,188,196,30] ?_;refine AL.weak (st':=(⟨134,[(2,I seed),(3,I d),(4,I ah),(5,L fs),(7,.o (.c (.ptr 0 0))),(13,.o (.c (.ptr 1 0))),(14,.o (.c (.ptr 2 0))),(15,B false),(16,I sc.length),(17,.o (.c (.ptr 5 0))),(18,I k),(19,.o (.c (.ptr 20 0))),(68,.o (.ag (pC p 10 11 12 13 14 15 16 17 18 19))),(69,B b)],[.box [sr l.Rows],.box (wX w (sr w.Flights)),.box zM,.row 1 (els l.Rows),.row 1 (els sc),.box (mX (newN l sc seed d ah fs w) (.ref 3) (.ref 4) (.ref 6) (.ref 7) (.ref 8) (.ref 9) nv nv nv),.row 23 (els (mapR (pAt l sc.length seed d ah fs) k)),.row 1 (els (mapR (fun i=>mapR (mkW w i) sc.length) k)),.row 1 (els (mapR (fun _=>List.replicate sc.length (⟨0,0,0,0,0⟩:TPace)) k)),.row 1 (els (mapR (fun _=>List.replicate sc.length d) k)),.row 1 (els p.Tracks),.row 1 (els p.Base.Level.Rows),.row 1 (els p.Base.Scores),.row 9 (els p.Base.Bodies),.row 1 (els p.Now.Level.Rows),.row 1 (els p.Now.Scores),.row 9 (els p.Now.Bodies),.row 1 (els p.Used),.row 2 (els p.Saves),.row 1 (els p.Sums),.box zP]⟩:St)) (Xw [0,1,2,3,4,5,6,7,8,9,10,11,12,13,14,15,16,17,18,19,20] (by decide) J ((by kernel_rfl)) (.c J (.c J (.c J (.c J (.c J (.c J (.c J (.c J (.c J (.c J (.c J (.c J (.c J (.c J (.nil)))))))))))))))) ?_;refine Qy J J J J J J J J J ?_;refine AL.weak (st':=(⟨134,[(2,I seed),(3,I d),(4,I ah),(5,L fs),(7,.o (.c (.ptr 0 0))),(13,.o (.c (.ptr 1 0))),(14,.o (.c (.ptr 2 0))),(15,B false),(16,I sc.length),(17,.o (.c (.ptr 5 0))),(18,I k),(19,.o (.c (.ptr 20 0))),(69,B b)],[.box [sr l.Rows],.box (wX w (sr w.Flights)),.box zM,.row 1 (els l.Rows),.row 1 (els sc),.box (mX (newN l sc seed d ah fs w) (.ref 3) (.ref 4) (.ref 6) (.ref 7) (.ref 8) (.ref 9) nv nv nv),.row 23 (els (mapR (pAt l sc.length seed d ah fs) k)),.row 1 (els (mapR (fun i=>mapR (mkW w i) sc.length) k)),.row 1 (els (mapR (fun _=>List.replicate sc.length (⟨0,0,0,0,0⟩:TPace)) k)),.row 1 (els (mapR (fun _=>List.replicate sc.length d) k)),.row 1 (els p.Tracks),.row 1 (els p.Base.Level.Rows),.row 1 (els p.Base.Scores),.row 9 (els p.Base.Bodies),.row 1 (els p.Now.Level.Rows),.row 1 (els p.Now.Scores),.row 9 (els p.Now.Bodies),.row 1 (els p.Used),.row 2 (els p.Saves),.row 1 (els p.Sums),.box (pC p 10 11 12 13 14 15 16 17 18 19)]⟩:St)) (Xw [0,1,2,3,4,5,6,7,8,9,10,11,12,13,14,15,16,17,18,19,20] (by decide) J ((by kernel_rfl)) (.c J (.c J (.c J (.c J (.c J (.c J (.c J (.c J (.c J (.c J (.c J (.c J (.c J (.nil))))))))))))))) ?_
  cases b with
  |false =>
   rw[hnn rfl]
   refine AL.weak (st':=(⟨134,[(14,.o (.c (.ptr 0 0))),(15,B false),(69,B false)],[.box zM]⟩:St)) (Xw [2] (by decide) J ((by kernel_rfl)) (.c J (.c J (.c J (.nil))))) ?_;refine Wz [98,5,101,7,115,110,109,63,118,47] ?_
   exact Xh (cs:=zM) J J J J J (Xu (v' := .tu [.ag (mC zMt 1),.c (bv false)]) [1,1,23,1,1,1,6,10,2] [1,2,3,4,5,6,7,8,9] (by kernel_rfl) (by kernel_rfl) (by decide) J (by kernel_rfl) (by kernel_rfl))
  | true =>
   refine Wz [98,53,24,38,107] ?_;refine AL.weak (st':=(⟨134,[(2,I seed),(3,I d),(4,I ah),(5,L fs),(7,.o (.c (.ptr 0 0))),(13,.o (.c (.ptr 1 0))),(14,.o (.c (.ptr 2 0))),(15,B false),(16,I sc.length),(17,.o (.c (.ptr 5 0))),(18,I k),(74,.o (.c (.ref 6))),(76,.o (.c (.sb 20 1 23)))],[.box [sr l.Rows],.box (wX w (sr w.Flights)),.box zM,.row 1 (els l.Rows),.row 1 (els sc),.box (mX (newN l sc seed d ah fs w) (.ref 3) (.ref 4) (.ref 6) (.ref 7) (.ref 8) (.ref 9) nv nv nv),.row 23 (els (mapR (pAt l sc.length seed d ah fs) k)),.row 1 (els (mapR (fun i=>mapR (mkW w i) sc.length) k)),.row 1 (els (mapR (fun _=>List.replicate sc.length (⟨0,0,0,0,0⟩:TPace)) k)),.row 1 (els (mapR (fun _=>List.replicate sc.length d) k)),.row 1 (els p.Tracks),.row 1 (els p.Base.Level.Rows),.row 1 (els p.Base.Scores),.row 9 (els p.Base.Bodies),.row 1 (els p.Now.Level.Rows),.row 1 (els p.Now.Scores),.row 9 (els p.Now.Bodies),.row 1 (els p.Used),.row 2 (els p.Saves),.row 1 (els p.Sums),.box (pC p 10 11 12 13 14 15 16 17 18 19)]⟩:St)) (Xw [0,1,2,3,4,5,6,7,8,9,10,11,12,13,14,15,16,17,18,19,21] (by decide) J ((by kernel_rfl)) (.c J (.c J (.c J (.c J (.c J (.c J (.c J (.c J (.c J (.c J (.c J (.c J (.c J (.nil))))))))))))))) ?_;refine Xp J J J J J J J J J J J J J J (by omega) (by omega) ?_
   refine AL.weak (st':=(⟨134,[(2,I seed),(3,I d),(4,I ah),(5,L fs),(7,.o (.c (.ptr 0 0))),(13,.o (.c (.ptr 1 0))),(14,.o (.c (.ptr 2 0))),(15,B false),(16,I sc.length),(17,.o (.c (.ptr 5 0))),(18,I k),(77,.o (.c (.ref 6)))],[.box [sr l.Rows],.box (wX w (sr w.Flights)),.box zM,.row 1 (els l.Rows),.row 1 (els sc),.box (mX (newN l sc seed d ah fs w) (.ref 3) (.ref 4) .un (.ref 7) (.ref 8) (.ref 9) nv nv nv),.row 23 (els (mapR (pAt l sc.length seed d ah fs) (k+1))),.row 1 (els (mapR (fun i=>mapR (mkW w i) sc.length) k)),.row 1 (els (mapR (fun _=>List.replicate sc.length (⟨0,0,0,0,0⟩:TPace)) k)),.row 1 (els (mapR (fun _=>List.replicate sc.length d) k))]⟩:St)) (Xw [0,1,2,3,4,5,6,7,8,9] (by decide) J ((by rw[hsn]; kernel_rfl)) (.c J (.c J (.c J (.c J (.c J (.c J (.c J (.c J (.c J (.c J (.c J (.c J (.nil)))))))))))))) ?_
   refine Wz [95,33,69] ?_
   refine AWP.pre (st':=(⟨134,[(2,I seed),(3,I d),(4,I ah),(5,L fs),(7,.o (.c (.ptr 0 0))),(13,.o (.c (.ptr 1 0))),(14,.o (.c (.ptr 2 0))),(15,B false),(16,I sc.length),(17,.o (.c (.ptr 5 0))),(18,I k),(21,.o (.c nv)),(22,.o (.c nv)),(23,I 0)],[.box [sr l.Rows],.box (wX w (sr w.Flights)),.box zM,.row 1 (els l.Rows),.row 1 (els sc),.box (mX (newN l sc seed d ah fs w) (.ref 3) (.ref 4) (.ref 6) (.ref 7) (.ref 8) (.ref 9) nv nv nv),.row 23 (els (mapR (pAt l sc.length seed d ah fs) (k+1))),.row 1 (els (mapR (fun i=>mapR (mkW w i) sc.length) k)),.row 1 (els (mapR (fun _=>List.replicate sc.length (⟨0,0,0,0,0⟩:TPace)) k)),.row 1 (els (mapR (fun _=>List.replicate sc.length d) k))]⟩:St)) ?_ (Xw [0,1,2,3,4,5,6,7,8,9] (by decide) J ((by kernel_rfl)) (.c J (.c J (.c J (.c J (.c J (.c J (.c J (.c J (.c J (.c J (.c J (.c J (.c J (.c J (.nil))))))))))))))))
   refine AWP.pre ?_ (W_nil 21 10 J)
   refine AWP.pre ?_ (W_nil 22 1 J)
   refine Xe (fun m st=>∃ j:Nat,j+m=sc.length∧(True)∧st=(⟨134,[(2,I seed),(3,I d),(4,I ah),(5,L fs),(7,.o (.c (.ptr 0 0))),(13,.o (.c (.ptr 1 0))),(14,.o (.c (.ptr 2 0))),(15,B false),(16,I sc.length),(17,.o (.c (.ptr 5 0))),(18,I k),(21,.o (.c (.ref 10))),(22,.o (.c (.ref 11))),(23,I j)],[.box [sr l.Rows],.box (wX w (sr w.Flights)),.box zM,.row 1 (els l.Rows),.row 1 (els sc),.box (mX (newN l sc seed d ah fs w) (.ref 3) (.ref 4) (.ref 6) (.ref 7) (.ref 8) (.ref 9) nv nv nv),.row 23 (els (mapR (pAt l sc.length seed d ah fs) (k+1))),.row 1 (els (mapR (fun i=>mapR (mkW w i) sc.length) k)),.row 1 (els (mapR (fun _=>List.replicate sc.length (⟨0,0,0,0,0⟩:TPace)) k)),.row 1 (els (mapR (fun _=>List.replicate sc.length d) k)),.row 10 (els (mapR (mkW w k) j)),.row 1 (els (List.replicate j d))]⟩:St)) (sc.length) ⟨_,⟨0,by omega,trivial,J⟩,Xv [0,1,2,3,4,5,6,7,8,9,10,11] (by kernel_rfl)⟩ ?_
   rintro m_J _ ⟨j,hk_J,hp_J,rfl⟩
   have lj:(els (mapR (mkW w k) j)).length=j:=by rw[X6,Yo]
   have lr:(els (List.replicate j d)).length=j:=by rw[X6,Gxr]
   by_cases h5:j<sc.length
   ·have f5:decide ((j:Int)<(sc.length:Int))=true:=Gqb (by omega)
    have hs1:=X7 (mkW w k) j
    have hs2:=reps_d d j
    refine Wz [28,83,4,13,0,114,14,0,14,161,13,13,13,13,13,115,107] ?_;refine AL.weak (st':=(⟨134,[(2,I seed),(3,I d),(4,I ah),(5,L fs),(7,.o (.c (.ptr 0 0))),(13,.o (.c (.ptr 1 0))),(14,.o (.c (.ptr 2 0))),(15,B false),(16,I sc.length),(17,.o (.c (.ptr 5 0))),(18,I k),(21,.o (.c (.ref 10))),(22,.o (.c (.ref 11))),(23,I j),(84,.o (.c (.ref 10))),(104,.o (.c (.sb 12 1 10)))],[.box [sr l.Rows],.box (wX w (sr w.Flights)),.box zM,.row 1 (els l.Rows),.row 1 (els sc),.box (mX (newN l sc seed d ah fs w) (.ref 3) (.ref 4) (.ref 6) (.ref 7) (.ref 8) (.ref 9) nv nv nv),.row 23 (els (mapR (pAt l sc.length seed d ah fs) (k+1))),.row 1 (els (mapR (fun i=>mapR (mkW w i) sc.length) k)),.row 1 (els (mapR (fun _=>List.replicate sc.length (⟨0,0,0,0,0⟩:TPace)) k)),.row 1 (els (mapR (fun _=>List.replicate sc.length d) k)),.row 10 (els (mapR (mkW w k) j)),.row 1 (els (List.replicate j d)),.box [jn ((w.Seed+100*(k:Int)+(j:Int))%65536),jn w.Delay,jn w.Jitter,jn w.Loss,jn w.Copies,jn w.Damage,jn 0,nv,jn 0,jn 0]]⟩:St)) (Xw [0,1,2,3,4,5,6,7,8,9,10,11,12] (by decide) J ((by kernel_rfl)) (.c J (.c J (.c J (.c J (.c J (.c J (.c J (.c J (.c J (.c J (.c J (.c J (.c J (.c J (.c J (.c J (.nil)))))))))))))))))) ?_;refine AL.weak (Wk.nilbox (p:=12) (i:=7) 2 J J) ?_;refine Xp J J J J J J J J J J J J J J (by omega) (by omega) ?_
    refine AL.weak (st':=(⟨134,[(2,I seed),(3,I d),(4,I ah),(5,L fs),(7,.o (.c (.ptr 0 0))),(13,.o (.c (.ptr 1 0))),(14,.o (.c (.ptr 2 0))),(15,B false),(16,I sc.length),(17,.o (.c (.ptr 5 0))),(18,I k),(22,.o (.c (.ref 11))),(23,I j),(105,.o (.c (.ref 10)))],[.box [sr l.Rows],.box (wX w (sr w.Flights)),.box zM,.row 1 (els l.Rows),.row 1 (els sc),.box (mX (newN l sc seed d ah fs w) (.ref 3) (.ref 4) (.ref 6) (.ref 7) (.ref 8) (.ref 9) nv nv nv),.row 23 (els (mapR (pAt l sc.length seed d ah fs) (k+1))),.row 1 (els (mapR (fun i=>mapR (mkW w i) sc.length) k)),.row 1 (els (mapR (fun _=>List.replicate sc.length (⟨0,0,0,0,0⟩:TPace)) k)),.row 1 (els (mapR (fun _=>List.replicate sc.length d) k)),.row 10 (els (mapR (mkW w k) (j+1))),.row 1 (els (List.replicate j d))]⟩:St)) (Xw [0,1,2,3,4,5,6,7,8,9,10,11] (by decide) J ((by rw[hs1]; kernel_rfl)) (.c J (.c J (.c J (.c J (.c J (.c J (.c J (.c J (.c J (.c J (.c J (.c J (.c J (.c J (.nil)))))))))))))))) ?_
    refine Wz [3,92,107,203,56] ?_
    exact⟨sc.length-(j+1),by omega,_,⟨j+1,by omega,trivial,J⟩,(by rw[hs2]; exact Xv [0,1,2,3,4,5,6,7,8,9,10,11] (by kernel_rfl))⟩
   have f5:decide ((j:Int)<(sc.length:Int))=false:=Gqa (by omega)
   have hjn:j=sc.length:=by omega
   rw[hjn] at f5 ⊢
   clear lj lr h5 hk_J hp_J
   refine Wz [28,73,68,36,107] ?_;refine AL.weak (st':=(⟨134,[(2,I seed),(3,I d),(4,I ah),(5,L fs),(7,.o (.c (.ptr 0 0))),(13,.o (.c (.ptr 1 0))),(14,.o (.c (.ptr 2 0))),(15,B false),(16,I sc.length),(17,.o (.c (.ptr 5 0))),(18,I k),(22,.o (.c (.ref 11))),(111,.o (.c (.ref 7))),(113,.o (.c (.sb 12 1 1)))],[.box [sr l.Rows],.box (wX w (sr w.Flights)),.box zM,.row 1 (els l.Rows),.row 1 (els sc),.box (mX (newN l sc seed d ah fs w) (.ref 3) (.ref 4) (.ref 6) (.ref 7) (.ref 8) (.ref 9) nv nv nv),.row 23 (els (mapR (pAt l sc.length seed d ah fs) (k+1))),.row 1 (els (mapR (fun i=>mapR (mkW w i) sc.length) k)),.row 1 (els (mapR (fun _=>List.replicate sc.length (⟨0,0,0,0,0⟩:TPace)) k)),.row 1 (els (mapR (fun _=>List.replicate sc.length d) k)),.row 10 (els (mapR (mkW w k) sc.length)),.row 1 (els (List.replicate sc.length d)),.box [.ref 10]]⟩:St)) (Xw [0,1,2,3,4,5,6,7,8,9,10,11,12] (by decide) J ((by kernel_rfl)) (.c J (.c J (.c J (.c J (.c J (.c J (.c J (.c J (.c J (.c J (.c J (.c J (.c J (.c J (.nil)))))))))))))))) ?_;refine Xp J J J J J J J J J J J J J J (by omega) (by omega) ?_
   refine AL.weak (st':=(⟨134,[(2,I seed),(3,I d),(4,I ah),(5,L fs),(7,.o (.c (.ptr 0 0))),(13,.o (.c (.ptr 1 0))),(14,.o (.c (.ptr 2 0))),(15,B false),(16,I sc.length),(17,.o (.c (.ptr 5 0))),(18,I k),(22,.o (.c (.ref 10))),(114,.o (.c (.ref 7)))],[.box [sr l.Rows],.box (wX w (sr w.Flights)),.box zM,.row 1 (els l.Rows),.row 1 (els sc),.box (mX (newN l sc seed d ah fs w) (.ref 3) (.ref 4) (.ref 6) .un (.ref 8) (.ref 9) nv nv nv),.row 23 (els (mapR (pAt l sc.length seed d ah fs) (k+1))),.row 1 (els (mapR (fun i=>mapR (mkW w i) sc.length) (k+1))),.row 1 (els (mapR (fun _=>List.replicate sc.length (⟨0,0,0,0,0⟩:TPace)) k)),.row 1 (els (mapR (fun _=>List.replicate sc.length d) k)),.row 1 (els (List.replicate sc.length d))]⟩:St)) (Xw [0,1,2,3,4,5,6,7,8,9,11] (by decide) J ((by rw[hsW]; kernel_rfl)) (.c J (.c J (.c J (.c J (.c J (.c J (.c J (.c J (.c J (.c J (.c J (.c J (.c J (.nil))))))))))))))) ?_
   refine Wz [95,16] ?_
   refine AWP.pre (st':=(⟨134,[(2,I seed),(3,I d),(4,I ah),(5,L fs),(7,.o (.c (.ptr 0 0))),(13,.o (.c (.ptr 1 0))),(14,.o (.c (.ptr 2 0))),(15,B false),(16,I sc.length),(17,.o (.c (.ptr 5 0))),(18,I k),(22,.o (.c (.ref 10)))],[.box [sr l.Rows],.box (wX w (sr w.Flights)),.box zM,.row 1 (els l.Rows),.row 1 (els sc),.box (mX (newN l sc seed d ah fs w) (.ref 3) (.ref 4) (.ref 6) (.ref 7) (.ref 8) (.ref 9) nv nv nv),.row 23 (els (mapR (pAt l sc.length seed d ah fs) (k+1))),.row 1 (els (mapR (fun i=>mapR (mkW w i) sc.length) (k+1))),.row 1 (els (mapR (fun _=>List.replicate sc.length (⟨0,0,0,0,0⟩:TPace)) k)),.row 1 (els (mapR (fun _=>List.replicate sc.length d) k)),.row 1 (els (List.replicate sc.length d))]⟩:St)) ?_ (Xw [0,1,2,3,4,5,6,7,8,9,10] (by decide) J ((by kernel_rfl)) (.c J (.c J (.c J (.c J (.c J (.c J (.c J (.c J (.c J (.c J (.c J (.c J (.nil))))))))))))))
   refine Xd u8_37 [[],[116],[],[118],[118,119],[116,117,118,119,120],[116,117,118,119,120,121],[116,117,118,119,120,121,122]] [[118,119,120],[118,119,120],[116,117],[116,117],[116,117],[],[],[]] J ?_;refine Wz [32,8,233,184,30] ?_;refine AL.weak (st':=(⟨134,[(2,I seed),(3,I d),(4,I ah),(5,L fs),(7,.o (.c (.ptr 0 0))),(13,.o (.c (.ptr 1 0))),(14,.o (.c (.ptr 2 0))),(15,B false),(16,I sc.length),(17,.o (.c (.ptr 5 0))),(18,I k),(22,.o (.c (.ref 10))),(117,.o (.c (.ref 8))),(120,.o (.c (.sb 12 1 1)))],[.box [sr l.Rows],.box (wX w (sr w.Flights)),.box zM,.row 1 (els l.Rows),.row 1 (els sc),.box (mX (newN l sc seed d ah fs w) (.ref 3) (.ref 4) (.ref 6) (.ref 7) (.ref 8) (.ref 9) nv nv nv),.row 23 (els (mapR (pAt l sc.length seed d ah fs) (k+1))),.row 1 (els (mapR (fun i=>mapR (mkW w i) sc.length) (k+1))),.row 1 (els (mapR (fun _=>List.replicate sc.length (⟨0,0,0,0,0⟩:TPace)) k)),.row 1 (els (mapR (fun _=>List.replicate sc.length d) k)),.row 1 (els (List.replicate sc.length d)),.row 5 (List.replicate sc.length ([Value.int .i64 0,Value.int .i64 0,Value.int .i64 0,Value.int .i64 0,Value.int .i64 0].map (zT 1))),.box [.ref 11]]⟩:St)) (Xw [0,1,2,3,4,5,6,7,8,9,10,11,12] (by decide) J ((by kernel_rfl)) (.c J (.c J (.c J (.c J (.c J (.c J (.c J (.c J (.c J (.c J (.c J (.c J (.c J (.c J (.nil)))))))))))))))) ?_;refine Xp J J J J J J J J J J J J J J (by omega) (by omega) ?_
   refine AL.weak (st':=(⟨134,[(2,I seed),(3,I d),(4,I ah),(5,L fs),(7,.o (.c (.ptr 0 0))),(13,.o (.c (.ptr 1 0))),(14,.o (.c (.ptr 2 0))),(15,B false),(16,I sc.length),(17,.o (.c (.ptr 5 0))),(18,I k),(22,.o (.c (.ref 10))),(121,.o (.c (.ref 8)))],[.box [sr l.Rows],.box (wX w (sr w.Flights)),.box zM,.row 1 (els l.Rows),.row 1 (els sc),.box (mX (newN l sc seed d ah fs w) (.ref 3) (.ref 4) (.ref 6) (.ref 7) .un (.ref 9) nv nv nv),.row 23 (els (mapR (pAt l sc.length seed d ah fs) (k+1))),.row 1 (els (mapR (fun i=>mapR (mkW w i) sc.length) (k+1))),.row 1 (els (mapR (fun _=>List.replicate sc.length (⟨0,0,0,0,0⟩:TPace)) (k+1))),.row 1 (els (mapR (fun _=>List.replicate sc.length d) k)),.row 1 (els (List.replicate sc.length d))]⟩:St)) (Xw [0,1,2,3,4,5,6,7,8,9,10] (by decide) J ((by rw[hsQ,zpaces]; kernel_rfl)) (.c J (.c J (.c J (.c J (.c J (.c J (.c J (.c J (.c J (.c J (.c J (.c J (.c J (.nil))))))))))))))) ?_
   refine Wz [95,100,13,0,107] ?_;refine AL.weak (st':=(⟨134,[(2,I seed),(3,I d),(4,I ah),(5,L fs),(7,.o (.c (.ptr 0 0))),(13,.o (.c (.ptr 1 0))),(14,.o (.c (.ptr 2 0))),(15,B false),(16,I sc.length),(17,.o (.c (.ptr 5 0))),(18,I k),(124,.o (.c (.ref 9))),(126,.o (.c (.sb 11 1 1)))],[.box [sr l.Rows],.box (wX w (sr w.Flights)),.box zM,.row 1 (els l.Rows),.row 1 (els sc),.box (mX (newN l sc seed d ah fs w) (.ref 3) (.ref 4) (.ref 6) (.ref 7) (.ref 8) (.ref 9) nv nv nv),.row 23 (els (mapR (pAt l sc.length seed d ah fs) (k+1))),.row 1 (els (mapR (fun i=>mapR (mkW w i) sc.length) (k+1))),.row 1 (els (mapR (fun _=>List.replicate sc.length (⟨0,0,0,0,0⟩:TPace)) (k+1))),.row 1 (els (mapR (fun _=>List.replicate sc.length d) k)),.row 1 (els (List.replicate sc.length d)),.box [.ref 10]]⟩:St)) (Xw [0,1,2,3,4,5,6,7,8,9,10,11] (by decide) J ((by kernel_rfl)) (.c J (.c J (.c J (.c J (.c J (.c J (.c J (.c J (.c J (.c J (.c J (.c J (.c J (.nil))))))))))))))) ?_;refine Xp J J J J J J J J J J J J J J (by omega) (by omega) ?_
   refine AL.weak (st':=(⟨134,[(2,I seed),(3,I d),(4,I ah),(5,L fs),(7,.o (.c (.ptr 0 0))),(13,.o (.c (.ptr 1 0))),(14,.o (.c (.ptr 2 0))),(15,B false),(16,I sc.length),(17,.o (.c (.ptr 5 0))),(18,I k),(127,.o (.c (.ref 9)))],[.box [sr l.Rows],.box (wX w (sr w.Flights)),.box zM,.row 1 (els l.Rows),.row 1 (els sc),.box (mX (newN l sc seed d ah fs w) (.ref 3) (.ref 4) (.ref 6) (.ref 7) (.ref 8) .un nv nv nv),.row 23 (els (mapR (pAt l sc.length seed d ah fs) (k+1))),.row 1 (els (mapR (fun i=>mapR (mkW w i) sc.length) (k+1))),.row 1 (els (mapR (fun _=>List.replicate sc.length (⟨0,0,0,0,0⟩:TPace)) (k+1))),.row 1 (els (mapR (fun _=>List.replicate sc.length d) (k+1)))]⟩:St)) (Xw [0,1,2,3,4,5,6,7,8,9] (by decide) J ((by rw[hsA]; kernel_rfl)) (.c J (.c J (.c J (.c J (.c J (.c J (.c J (.c J (.c J (.c J (.c J (.c J (.nil)))))))))))))) ?_
   refine Wz [185,137] ?_
   exact⟨sc.length-(k+1),by omega,_,⟨k+1,by omega,hnx J,J⟩,Xv [0,1,2,3,4,5,6,7,8,9] (by kernel_rfl)⟩
 have f3:decide ((k:Int)<(sc.length:Int))=false:=Gqa (by omega)
 have hkn:k=sc.length:=by omega
 rw[hkn] at f3 ⊢
 refine AWP.pre ?_ (Wk.nilbox (p:=5) (i:=9) 6 J J)
 refine AWP.pre ?_ (Wk.nilbox (p:=5) (i:=10) 10 J J)
 refine AWP.pre ?_ (Wk.nilbox (p:=5) (i:=11) 2 J J)
 refine Wz [28,73,68,112,38] ?_;refine AL.weak (st':=(⟨134,[(14,.o (.c (.ptr 2 0))),(15,B false),(17,.o (.c (.ptr 5 0))),(129,.o (.ag (mX (newN l sc seed d ah fs w) (.ref 3) (.ref 4) (.ref 6) (.ref 7) (.ref 8) (.ref 9) (.ref 10) (.ref 11) (.ref 12))))],[.box [sr l.Rows],.box (wX w (sr w.Flights)),.box zM,.row 1 (els l.Rows),.row 1 (els sc),.box (mX (newN l sc seed d ah fs w) (.ref 3) (.ref 4) (.ref 6) (.ref 7) (.ref 8) (.ref 9) (.ref 10) (.ref 11) (.ref 12)),.row 23 (els (mapR (pAt l sc.length seed d ah fs) sc.length)),.row 1 (els (mapR (fun i=>mapR (mkW w i) sc.length) sc.length)),.row 1 (els (mapR (fun _=>List.replicate sc.length (⟨0,0,0,0,0⟩:TPace)) sc.length)),.row 1 (els (mapR (fun _=>List.replicate sc.length d) sc.length)),.row 6 [],.row 10 [],.row 2 []]⟩:St)) (Xw [0,1,2,3,4,5,6,7,8,9,10,11,12] (by decide) J ((by kernel_rfl)) (.c J (.c J (.c J (.c J (.nil)))))) ?_
 cases hm:matchOk (newN l sc seed d ah fs w) with
 |false =>
  rw[hm] at cM
  refine zx (Qj J J (cM) J) J ?_;refine AL.weak (st':=(⟨134,[(14,.o (.c (.ptr 0 0))),(15,B false),(130,B false)],[.box zM]⟩:St)) (Xw [2] (by decide) J ((by kernel_rfl)) (.c J (.c J (.c J (.nil))))) ?_;refine Wz [5,101,7,115,110,109,47] ?_
  exact Xh (cs:=zM) J J J J J (Xu (v' := .tu [.ag (mC zMt 1),.c (bv false)]) [1,1,23,1,1,1,6,10,2] [1,2,3,4,5,6,7,8,9] (by kernel_rfl) (by kernel_rfl) (by decide) J (by kernel_rfl) (by kernel_rfl))
 |true =>
  rw[hm] at cM
  refine zx (Qj J J (cM) J) J ?_;refine Wz [53,40,110,46] ?_
  exact Xh J J J J J (Xt [3,4,6,7,8,9,10,11,12] (by decide) J J J)
end
end Go.Proofs.YtoecjaohdnoenaaGreat
