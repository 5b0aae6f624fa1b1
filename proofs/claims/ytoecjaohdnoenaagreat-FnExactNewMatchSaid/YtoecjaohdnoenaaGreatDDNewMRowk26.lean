/-
  Rules, data and contracts of functions: part 27 of the proof.
  Conditions: those that each theorem names.
-/
import Derived.Test.YtoecjaohdnoenaaGreatDDNewMRowk25
set_option linter.unusedSimpArgs false
set_option linter.unusedVariables false
set_option maxRecDepth 8000
set_option maxHeartbeats 8000000
namespace Go.Proofs.YtoecjaohdnoenaaGreat
section
open Go.RowKit

section
variable {P:Program} {E:Env} {Q:Exit→St→Prop}
theorem A_seqN {x y:Code} {st:St} (st0:St) (hx:AWP P E x (thn (fun st=>Wk st st0) Q) st) (hy:AWP P E y Q st0):AWP P E x (thn (AWP P E y Q) Q) st:=AWP.mono (fun e st h=>by
 have h1:=h.h
 refine⟨?_⟩
 cases e with
 |normal=>exact AWP.weak h1 hy
 |_=>exact h1) hx
end
theorem S_NewWire (s a b c d e:Int) (g:Enc.gd (⟨s,a,b,c,d,e,0,[],0,0⟩:TWire)) (ok:wireOk ⟨s,a,b,c,d,e,0,[],0,0⟩=true):Con Tryz.prog 59 [] [ai s,ai a,ai b,ai c,ai d,ai e] [.row 2 []] (.tu [.ag [jn s,jn a,jn b,jn c,jn d,jn e,jn 0,.ref 0,jn 0,jn 0],.c (bv true)]):=by
 have cW:=S_WireOk ⟨s,a,b,c,d,e,0,[],0,0⟩ g
 rw[ok] at cW
 refine Con.of Tryz.func59 J Tryz.ntmps59 J (fun E => ?_)
 refine Wz [7,22,3,10,144,144,115,22,49,112,38] ?_;refine AL.weak (Wk.nils 22 [2] J J) ?_;refine zx (Qj J J (cW) J) J ?_;refine Wz [53,40,110,46] ?_
 exact Xh J J J J J (Xu [2] [3] J J (by decide) J J J)
theorem wire_mk {w:TWire} (h:wireOk w=true) (i j:Nat):wireOk (mkW w i j)=true:=by
 have h1:WireP w:=Gqc h
 obtain⟨⟨_,a2,a3⟩,b,_,_,_⟩:=h1
 refine Gqb ⟨⟨Yk.2 ?_,a2,a3⟩,b,⟨J,J,J⟩,Gqr _,J⟩
 show 0≤(w.Seed+100*(i:Int)+(j:Int))%65536∧(w.Seed+100*(i:Int)+(j:Int))%65536≤65535
 omega
theorem and_mask {x:Int} (h:0≤x):x.toNat &&& (65535:Int).toNat=(x%65536).toNat:=by
 have e:x.toNat &&& (65535:Int).toNat=x.toNat%65536:=Nat.and_two_pow_sub_one_eq_mod x.toNat 16
 rw[e]
 omega
theorem S_NewMatch (l:TLevel) (sc:List (List Int)) (seed d ah:Int) (fs:List TFault) (w:TWire) (hg:Enc.gd l) (hL:l.Rows.length≤1048576) (gsc:Enc.gd sc) (wsc:Enc.wt sc≤1048576) (gs:I64 seed) (gd:I64 d) (ga:I64 ah) (gf:Enc.gd fs) (gw:Enc.gd w) :
  Con Tryz.prog 13 [] [ag l,al sc,ai seed,ai d,ai ah,al fs,ag w] (mR (nmV l sc seed d ah fs w) []) (.tu [.ag (mC (nmV l sc seed d ah fs w) 0),.c (bv (nmB l sc seed d ah fs w))]):=by
 have eS:=X6 sc
 have eF:=X6 fs
 have cL:=S_copyLevel l hg hL
 have cW:=S_WireOk w gw
 have hrs:=rows_in wsc
 have h00:([]:List (List T)).length=0:=rfl
 refine Con.of Tryz.func13 J Tryz.ntmps13 J (fun E => ?_)
 refine Wz [232,22,3,4,21,3,40] ?_;refine M1 (Y8 J J (cL) J J J) J J ?_;refine Wz [144,115,22,49,111,104,139,0,70,191,76,0,213] ?_;refine zx (Qt.grdF J J J (.hit .stop) (fun hgrd=>Qj J J (cW) J)) J ?_;refine Wz [154,25] ?_
 refine Q8 J (fun h => ?_) (fun h => ?_)
 ·have hB:nmB l sc seed d ah fs w=false:=by
   rw[nmB]
   cases hm:matchOk (newN l sc seed d ah fs w) with
   |false=>rw[Bool.and_false]
   | true =>
    have hn:=newN_n hm
    cases hw:wireOk w with
    |false=>rw[Bool.and_false]; rfl
    | true =>
     by_cases hf:fs.length=sc.length
     ·exfalso
      rw[hw] at h
      simp only[Gqo,decide_eq_true_eq,Bool.not_true,Bool.false_eq_true,or_false,eF,eS,ne_eq] at h
      omega
     ·rw[Gqa hf]; rfl
  rw[show nmV l sc seed d ah fs w=zMt by rw[nmV,hB]; rfl,hB]
  refine AWP.pre (st':=(⟨144,[(14,.o (.c (.ptr 0 0))),(15,B false)],[.box zM]⟩:St)) ?_ (Xw [2] (by decide) J ((by kernel_rfl)) (.c J (.c J (.nil))))
  refine Wz [7,115,110,109,47] ?_
  exact Xh (cs:=zM) J J J J J (Xu (v' := .tu [.ag (mC zMt 1),.c (bv false)]) [1,1,23,1,1,1,6,10,2] [1,2,3,4,5,6,7,8,9] (by kernel_rfl) (by kernel_rfl) (by decide) J (by kernel_rfl) (by kernel_rfl))
 have hG:fs.length=sc.length∧sc.length≤4∧wireOk w=true:=by
  simp only[Gql,decide_eq_false_iff_not,Gqv,eF,eS,ne_eq,Decidable.not_not] at h
  exact⟨by omega,by omega,h.2⟩
 obtain⟨hf,n4,hw⟩:=hG
 have hBx:nmB l sc seed d ah fs w=matchOk (newN l sc seed d ah fs w):=by rw[nmB,Gqb hf,hw]; rfl
 have hVx:nmV l sc seed d ah fs w=if matchOk (newN l sc seed d ah fs w)=true then newN l sc seed d ah fs w else zMt:=by rw[nmV,hBx]
 rw[hBx,hVx]
 have cM:=S_MatchOk _ (newN_gd (w:=w) hg hL n4 gsc gs gd ga gf gw)
 have hws:=wire_seed hw
 have hwm:=wire_mk hw
 have i0:I64 0:=⟨by decide,by decide⟩
 have gwm:∀ i j:Nat,Enc.gd (mkW w i j):=fun i j=>⟨⟨by show (-9223372036854775808:Int)≤(w.Seed+100*(i:Int)+(j:Int))%65536; omega,by show (w.Seed+100*(i:Int)+(j:Int))%65536≤9223372036854775807; omega⟩,gw.2.1,gw.2.2.1,gw.2.2.2.1,gw.2.2.2.2.1,gw.2.2.2.2.2.1,i0,⟨Gqr _,fun x hx=>by cases hx⟩,i0,i0⟩
 clear h
 refine AWP.pre (st':=(⟨144,[(1,L sc),(2,I seed),(3,I d),(4,I ah),(5,L fs),(7,.o (.c (.ptr 0 0))),(13,.o (.c (.ptr 1 0))),(14,.o (.c (.ptr 2 0))),(15,B false),(16,I sc.length),(17,.o (.c (.ptr 4 0)))],[.box [sr l.Rows],.box (wX w (sr w.Flights)),.box zM,.row 1 (els l.Rows),.box (mX (newN l sc seed d ah fs w) (.ref 3) nv nv nv nv nv nv nv nv)]⟩:St)) ?_ (Xw [0,1,2,3,4] (by decide) J ((by kernel_rfl)) (.c J (.c J (.c J (.c J (.c J (.c J (.c J (.c J (.c J (.cons (Xl (by rw[eS])) (.c J (.nil)))))))))))))
 refine Wz [11,39] ?_
 refine AWP.pre (st':=(⟨144,[(1,L sc),(2,I seed),(3,I d),(4,I ah),(5,L fs),(7,.o (.c (.ptr 0 0))),(13,.o (.c (.ptr 1 0))),(14,.o (.c (.ptr 2 0))),(15,B false),(16,I sc.length),(17,.o (.c (.ptr 4 0))),(18,I 0)],[.box [sr l.Rows],.box (wX w (sr w.Flights)),.box zM,.row 1 (els l.Rows),.box (mX (newN l sc seed d ah fs w) (.ref 3) nv nv nv nv nv nv nv nv)]⟩:St)) ?_ (Xw [0,1,2,3,4] (by decide) J ((by kernel_rfl)) (.c J (.c J (.c J (.c J (.c J (.c J (.c J (.c J (.c J (.c J (.c J (.c J (.nil))))))))))))))
 refine AWP.pre ?_ (Wk.nilbox (p:=4) (i:=3) 1 J J)
 refine AWP.pre ?_ (Wk.nilbox (p:=4) (i:=4) 23 J J)
 refine AWP.pre ?_ (Wk.nilbox (p:=4) (i:=5) 1 J J)
 refine AWP.pre ?_ (Wk.nilbox (p:=4) (i:=6) 1 J J)
 refine AWP.pre ?_ (Wk.nilbox (p:=4) (i:=7) 1 J J)
 refine Xe (fun m st=>∃ k:Nat,k+m=sc.length∧(True)∧st=(⟨144,[(1,L sc),(2,I seed),(3,I d),(4,I ah),(5,L fs),(7,.o (.c (.ptr 0 0))),(13,.o (.c (.ptr 1 0))),(14,.o (.c (.ptr 2 0))),(15,B false),(16,I sc.length),(17,.o (.c (.ptr 4 0))),(18,I k)],[.box [sr l.Rows],.box (wX w (sr w.Flights)),.box zM,.row 1 (els l.Rows),.box (mX (newN l sc seed d ah fs w) (.ref 3) (.ref 5) (.ref 6) (.ref 7) (.ref 8) (.ref 9) nv nv nv),.row 1 (els (sc.take k)),.row 23 (els (mapR (pAt l sc.length seed d ah fs) k)),.row 1 (els (mapR (fun i=>mapR (mkW w i) sc.length) k)),.row 1 (els (mapR (fun _=>List.replicate sc.length (⟨0,0,0,0,0⟩:TPace)) k)),.row 1 (els (mapR (fun _=>List.replicate sc.length d) k))]⟩:St)) (sc.length) ⟨_,⟨0,by omega,trivial,J⟩,Xv [0,1,2,3,4,5,6,7,8,9] (by kernel_rfl)⟩ ?_
 rintro m_A _ ⟨k,hk_A,hp_A,rfl⟩
 have lS:(els (sc.take k)).length=k:=by rw[X6]; simp; omega
 have lP:(els (mapR (pAt l sc.length seed d ah fs) k)).length=k:=by rw[X6,Yo]
 have lW:(els (mapR (fun i=>mapR (mkW w i) sc.length) k)).length=k:=by rw[X6,Yo]
 have lQ:(els (mapR (fun _=>List.replicate sc.length (⟨0,0,0,0,0⟩:TPace)) k)).length=k:=by rw[X6,Yo]
 have lA:(els (mapR (fun _=>List.replicate sc.length d) k)).length=k:=by rw[X6,Yo]
 by_cases h3:k<sc.length
 ·have f3:decide ((k:Int)<(sc.length:Int))=true:=Gqb (by omega)
  have hkf:k<fs.length:=by omega
  have hat:=X5 hkf
  have hfk:fs.getD k ⟨0,0,0⟩=fs[k]:=by rw[Gqd,Gqe hkf]; rfl
  have cP:=S_NewPeerA l sc.length seed k d ah fs[k] hg hL ⟨by omega,n4⟩ gs ⟨by omega,by omega⟩ ga (gf.2 _ (Gqf hkf))
  have ep:peV l sc.length seed k d ah fs[k]=pAt l sc.length seed d ah fs k:=by rw[pAt,hfk]
  rw[ep] at cP
  have hsn:=X7 (pAt l sc.length seed d ah fs) k
  have hsW:=X7 (fun i=>mapR (mkW w i) sc.length) k
  have hsQ:=X7 (fun _:Nat=>List.replicate sc.length (⟨0,0,0,0,0⟩:TPace)) k
  have hsA:=X7 (fun _:Nat=>List.replicate sc.length d) k
  have hsS:=els_snoc h3
  have hatS:=X5 h3
  have hru:=hrs.2 _ (Gqf h3)
  generalize pAt l sc.length seed d ah fs k=p at cP hsn
  generalize peB l sc.length seed k d ah fs[k]=b at cP
  generalize fs[k]=f at cP hat
  generalize sc[k]=u at hsS hatS hru
  have hlu:=X6 u
  clear ep hfk
  refine Wz [28,256,45] ?_
  refine AWP.pre (st':=(⟨144,[(1,L sc),(2,I seed),(3,I d),(4,I ah),(5,L fs),(7,.o (.c (.ptr 0 0))),(13,.o (.c (.ptr 1 0))),(14,.o (.c (.ptr 2 0))),(15,B false),(16,I sc.length),(17,.o (.c (.ptr 4 0))),(18,I k)],[.box [sr l.Rows],.box (wX w (sr w.Flights)),.box zM,.row 1 (els l.Rows),.box (mX (newN l sc seed d ah fs w) (.ref 3) (.ref 5) (.ref 6) (.ref 7) (.ref 8) (.ref 9) nv nv nv),.row 1 (els (sc.take k)),.row 23 (els (mapR (pAt l sc.length seed d ah fs) k)),.row 1 (els (mapR (fun i=>mapR (mkW w i) sc.length) k)),.row 1 (els (mapR (fun _=>List.replicate sc.length (⟨0,0,0,0,0⟩:TPace)) k)),.row 1 (els (mapR (fun _=>List.replicate sc.length d) k))]⟩:St)) ?_ (Xw [0,1,2,3,4,5,6,7,8,9] (by decide) J ((by kernel_rfl)) (.c J (.c J (.c J (.c J (.c J (.c J (.c J (.c J (.c J (.c J (.c J (.c J (.nil))))))))))))))
  refine Xd u8_36 [[],[],[],[],[],[],[],[],[59,60],[59,60,61],[53,54,55,56,57,58,59,60,61,62],[53,54,55,56,57,58,59,60,61,62,63],[52,53,54,55,56,57,58,59,60,61,62,63],[52,53,54,55,56,57,58,59,60,61,62,63],[],[19,52,53,54,55,56,57,58,59,60,61,62,63,64],[19,52,53,54,55,56,57,58,59,60,61,62,63,64,65]] [[19,54,55,56,57,58,59,60,61,62],[19,53,55,56,57,58,59,60,61,62],[19,53,54,56,57,58,59,60,61,62],[19,53,54,55,57,58,59,60,61,62],[19,53,54,55,56,58,59,60,61,62],[19,53,54,55,56,57,59,60,61,62],[19,53,54,55,56,57,58,60],[19,53,54,55,56,57,58,59],[19,53,54,55,56,57,58],[19,53,54,55,56,57,58],[19],[19],[19,65],[19,64],[52,53,54,55,56,57,58,59,60,61,62,63,64,65],[65],[],[13]] J ?_;refine Wz [147,142,142,142,8,106,210] ?_;refine DR.s (Y8 J J (cP) J J J) J J ?_;refine Wz [237,188,188,196,30] ?_;refine AL.weak (st':=(⟨144,[(1,L sc),(2,I seed),(3,I d),(4,I ah),(5,L fs),(7,.o (.c (.ptr 0 0))),(13,.o (.c (.ptr 1 0))),(14,.o (.c (.ptr 2 0))),(15,B false),(16,I sc.length),(17,.o (.c (.ptr 4 0))),(18,I k),(19,.o (.c (.ptr 20 0))),(64,.o (.ag (pC p 10 11 12 13 14 15 16 17 18 19))),(65,B b)],[.box [sr l.Rows],.box (wX w (sr w.Flights)),.box zM,.row 1 (els l.Rows),.box (mX (newN l sc seed d ah fs w) (.ref 3) (.ref 5) (.ref 6) (.ref 7) (.ref 8) (.ref 9) nv nv nv),.row 1 (els (sc.take k)),.row 23 (els (mapR (pAt l sc.length seed d ah fs) k)),.row 1 (els (mapR (fun i=>mapR (mkW w i) sc.length) k)),.row 1 (els (mapR (fun _=>List.replicate sc.length (⟨0,0,0,0,0⟩:TPace)) k)),.row 1 (els (mapR (fun _=>List.replicate sc.length d) k)),.row 1 (els p.Tracks),.row 1 (els p.Base.Level.Rows),.row 1 (els p.Base.Scores),.row 9 (els p.Base.Bodies),.row 1 (els p.Now.Level.Rows),.row 1 (els p.Now.Scores),.row 9 (els p.Now.Bodies),.row 1 (els p.Used),.row 2 (els p.Saves),.row 1 (els p.Sums),.box zP]⟩:St)) (Xw [0,1,2,3,4,5,6,7,8,9,10,11,12,13,14,15,16,17,18,19,20] (by decide) J ((by kernel_rfl)) (.c J (.c J (.c J (.c J (.c J (.c J (.c J (.c J (.c J (.c J (.c J (.c J (.c J (.c J (.c J (.nil))))))))))))))))) ?_;refine Qy J J J J J J J J J ?_;refine AL.weak (st':=(⟨144,[(1,L sc),(2,I seed),(3,I d),(4,I ah),(5,L fs),(7,.o (.c (.ptr 0 0))),(13,.o (.c (.ptr 1 0))),(14,.o (.c (.ptr 2 0))),(15,B false),(16,I sc.length),(17,.o (.c (.ptr 4 0))),(18,I k),(19,.o (.c (.ptr 20 0))),(65,B b)],[.box [sr l.Rows],.box (wX w (sr w.Flights)),.box zM,.row 1 (els l.Rows),.box (mX (newN l sc seed d ah fs w) (.ref 3) (.ref 5) (.ref 6) (.ref 7) (.ref 8) (.ref 9) nv nv nv),.row 1 (els (sc.take k)),.row 23 (els (mapR (pAt l sc.length seed d ah fs) k)),.row 1 (els (mapR (fun i=>mapR (mkW w i) sc.length) k)),.row 1 (els (mapR (fun _=>List.replicate sc.length (⟨0,0,0,0,0⟩:TPace)) k)),.row 1 (els (mapR (fun _=>List.replicate sc.length d) k)),.row 1 (els p.Tracks),.row 1 (els p.Base.Level.Rows),.row 1 (els p.Base.Scores),.row 9 (els p.Base.Bodies),.row 1 (els p.Now.Level.Rows),.row 1 (els p.Now.Scores),.row 9 (els p.Now.Bodies),.row 1 (els p.Used),.row 2 (els p.Saves),.row 1 (els p.Sums),.box (pC p 10 11 12 13 14 15 16 17 18 19)]⟩:St)) (Xw [0,1,2,3,4,5,6,7,8,9,10,11,12,13,14,15,16,17,18,19,20] (by decide) J ((by kernel_rfl)) (.c J (.c J (.c J (.c J (.c J (.c J (.c J (.c J (.c J (.c J (.c J (.c J (.c J (.c J (.nil)))))))))))))))) ?_;refine Wz [3,16] ?_
  refine AWP.pre (st':=(⟨144,[(1,L sc),(2,I seed),(3,I d),(4,I ah),(5,L fs),(7,.o (.c (.ptr 0 0))),(13,.o (.c (.ptr 1 0))),(14,.o (.c (.ptr 2 0))),(15,B false),(16,I sc.length),(17,.o (.c (.ptr 4 0))),(18,I k),(19,.o (.c (.ptr 20 0)))],[.box [sr l.Rows],.box (wX w (sr w.Flights)),.box zM,.row 1 (els l.Rows),.box (mX (newN l sc seed d ah fs w) (.ref 3) (.ref 5) (.ref 6) (.ref 7) (.ref 8) (.ref 9) nv nv nv),.row 1 (els (sc.take k)),.row 23 (els (mapR (pAt l sc.length seed d ah fs) k)),.row 1 (els (mapR (fun i=>mapR (mkW w i) sc.length) k)),.row 1 (els (mapR (fun _=>List.replicate sc.length (⟨0,0,0,0,0⟩:TPace)) k)),.row 1 (els (mapR (fun _=>List.replicate sc.length d) k)),.row 1 (els p.Tracks),.row 1 (els p.Base.Level.Rows),.row 1 (els p.Base.Scores),.row 9 (els p.Base.Bodies),.row 1 (els p.Now.Level.Rows),.row 1 (els p.Now.Scores),.row 9 (els p.Now.Bodies),.row 1 (els p.Used),.row 2 (els p.Saves),.row 1 (els p.Sums),.box (pC p 10 11 12 13 14 15 16 17 18 19)]⟩:St)) ?_ (Xw [0,1,2,3,4,5,6,7,8,9,10,11,12,13,14,15,16,17,18,19,20] (by decide) J ((by kernel_rfl)) (.c J (.c J (.c J (.c J (.c J (.c J (.c J (.c J (.c J (.c J (.c J (.c J (.c J (.nil)))))))))))))))
  refine A_seqN (⟨144,[(1,L sc),(2,I seed),(3,I d),(4,I ah),(5,L fs),(7,.o (.c (.ptr 0 0))),(13,.o (.c (.ptr 1 0))),(14,.o (.c (.ptr 2 0))),(15,B false),(16,I sc.length),(17,.o (.c (.ptr 4 0))),(18,I k),(19,.o (.c (.ptr 20 0)))],[.box [sr l.Rows],.box (wX w (sr w.Flights)),.box zM,.row 1 (els l.Rows),.box (mX (newN l sc seed d ah fs w) (.ref 3) (.ref 5) (.ref 6) (.ref 7) (.ref 8) (.ref 9) nv nv nv),.row 1 (els (sc.take (k+1))),.row 23 (els (mapR (pAt l sc.length seed d ah fs) k)),.row 1 (els (mapR (fun i=>mapR (mkW w i) sc.length) k)),.row 1 (els (mapR (fun _=>List.replicate sc.length (⟨0,0,0,0,0⟩:TPace)) k)),.row 1 (els (mapR (fun _=>List.replicate sc.length d) k)),.row 1 (els p.Tracks),.row 1 (els p.Base.Level.Rows),.row 1 (els p.Base.Scores),.row 9 (els p.Base.Bodies),.row 1 (els p.Now.Level.Rows),.row 1 (els p.Now.Scores),.row 9 (els p.Now.Bodies),.row 1 (els p.Used),.row 2 (els p.Saves),.row 1 (els p.Sums),.box (pC p 10 11 12 13 14 15 16 17 18 19)]⟩:St) ?_ ?_
  ·cases u with
   |nil =>
    refine Xd u8_38 u8_39 u8_40 J ?_;refine Wz [32] ?_;refine DR.s (q_bslicez J J J) J J ?_;refine Wz [93,34] ?_;refine DR.s (q_appz0 J J J J J J) J J ?_;refine Wz [184,30] ?_;refine AL.weak (Wk.sbnil (q:=21) 1 J J) ?_;refine Xp J J J J J J J J J J J J J J (by omega) (by omega) ?_
    refine AL.weak (st':=(⟨144,[(1,L sc),(2,I seed),(3,I d),(4,I ah),(5,L fs),(7,.o (.c (.ptr 0 0))),(13,.o (.c (.ptr 1 0))),(14,.o (.c (.ptr 2 0))),(15,B false),(16,I sc.length),(17,.o (.c (.ptr 4 0))),(18,I k),(19,.o (.c (.ptr 20 0))),(75,.o (.c (.ref 5)))],[.box [sr l.Rows],.box (wX w (sr w.Flights)),.box zM,.row 1 (els l.Rows),.box (mX (newN l sc seed d ah fs w) (.ref 3) .un (.ref 6) (.ref 7) (.ref 8) (.ref 9) nv nv nv),.row 1 (els (sc.take (k+1))),.row 23 (els (mapR (pAt l sc.length seed d ah fs) k)),.row 1 (els (mapR (fun i=>mapR (mkW w i) sc.length) k)),.row 1 (els (mapR (fun _=>List.replicate sc.length (⟨0,0,0,0,0⟩:TPace)) k)),.row 1 (els (mapR (fun _=>List.replicate sc.length d) k)),.row 1 (els p.Tracks),.row 1 (els p.Base.Level.Rows),.row 1 (els p.Base.Scores),.row 9 (els p.Base.Bodies),.row 1 (els p.Now.Level.Rows),.row 1 (els p.Now.Scores),.row 9 (els p.Now.Bodies),.row 1 (els p.Used),.row 2 (els p.Saves),.row 1 (els p.Sums),.box (pC p 10 11 12 13 14 15 16 17 18 19)]⟩:St)) (Xw [0,1,2,3,4,5,6,7,8,9,10,11,12,13,14,15,16,17,18,19,20] (by decide) J ((by rw[hsS]; kernel_rfl)) (.c J (.c J (.c J (.c J (.c J (.c J (.c J (.c J (.c J (.c J (.c J (.c J (.c J (.c J (.nil)))))))))))))))) ?_
    refine Wz [95] ?_
    show Wk _ _
    exact Xv [0,1,2,3,4,5,6,7,8,9,10,11,12,13,14,15,16,17,18,19,20] (by kernel_rfl)
   |cons a rs =>
    have hpos:0<(els (a::rs)).length:=by rw[X6]; simp
    refine Xd u8_38 u8_39 u8_40 J ?_;refine Wz [32] ?_;refine DR.s (q_bslicez J J J) J J ?_;refine Wz [93,34] ?_;refine DR.s (q_appz J J J J J J (X8 _) (els_k _) hpos (by omega) (by omega)) J J ?_;refine Wz [184,30,203] ?_
    refine AL.weak (st':=(⟨144,[(1,L sc),(2,I seed),(3,I d),(4,I ah),(5,L fs),(7,.o (.c (.ptr 0 0))),(13,.o (.c (.ptr 1 0))),(14,.o (.c (.ptr 2 0))),(15,B false),(16,I sc.length),(17,.o (.c (.ptr 4 0))),(18,I k),(19,.o (.c (.ptr 20 0))),(75,.o (.c (.ref 5)))],[.box [sr l.Rows],.box (wX w (sr w.Flights)),.box zM,.row 1 (els l.Rows),.box (mX (newN l sc seed d ah fs w) (.ref 3) .un (.ref 6) (.ref 7) (.ref 8) (.ref 9) nv nv nv),.row 1 (els (sc.take (k+1))),.row 23 (els (mapR (pAt l sc.length seed d ah fs) k)),.row 1 (els (mapR (fun i=>mapR (mkW w i) sc.length) k)),.row 1 (els (mapR (fun _=>List.replicate sc.length (⟨0,0,0,0,0⟩:TPace)) k)),.row 1 (els (mapR (fun _=>List.replicate sc.length d) k)),.row 1 (els p.Tracks),.row 1 (els p.Base.Level.Rows),.row 1 (els p.Base.Scores),.row 9 (els p.Base.Bodies),.row 1 (els p.Now.Level.Rows),.row 1 (els p.Now.Scores),.row 9 (els p.Now.Bodies),.row 1 (els p.Used),.row 2 (els p.Saves),.row 1 (els p.Sums),.box (pC p 10 11 12 13 14 15 16 17 18 19)]⟩:St)) (Xw [0,1,2,3,4,5,6,7,8,9,10,11,12,13,14,15,16,17,18,19,20] (by decide) J ((by rw[hsS]; kernel_rfl)) (.c J (.c J (.c J (.c J (.c J (.c J (.c J (.c J (.c J (.c J (.c J (.c J (.c J (.c J (.nil)))))))))))))))) ?_
    refine Wz [95] ?_
    show Wk _ _
    exact Xv [0,1,2,3,4,5,6,7,8,9,10,11,12,13,14,15,16,17,18,19,20] (by kernel_rfl)
  refine Wz [24,38,107] ?_;refine AL.weak (st':=(⟨144,[(1,L sc),(2,I seed),(3,I d),(4,I ah),(5,L fs),(7,.o (.c (.ptr 0 0))),(13,.o (.c (.ptr 1 0))),(14,.o (.c (.ptr 2 0))),(15,B false),(16,I sc.length),(17,.o (.c (.ptr 4 0))),(18,I k),(78,.o (.c (.ref 6))),(80,.o (.c (.sb 20 1 23)))],[.box [sr l.Rows],.box (wX w (sr w.Flights)),.box zM,.row 1 (els l.Rows),.box (mX (newN l sc seed d ah fs w) (.ref 3) (.ref 5) (.ref 6) (.ref 7) (.ref 8) (.ref 9) nv nv nv),.row 1 (els (sc.take (k+1))),.row 23 (els (mapR (pAt l sc.length seed d ah fs) k)),.row 1 (els (mapR (fun i=>mapR (mkW w i) sc.length) k)),.row 1 (els (mapR (fun _=>List.replicate sc.length (⟨0,0,0,0,0⟩:TPace)) k)),.row 1 (els (mapR (fun _=>List.replicate sc.length d) k)),.row 1 (els p.Tracks),.row 1 (els p.Base.Level.Rows),.row 1 (els p.Base.Scores),.row 9 (els p.Base.Bodies),.row 1 (els p.Now.Level.Rows),.row 1 (els p.Now.Scores),.row 9 (els p.Now.Bodies),.row 1 (els p.Used),.row 2 (els p.Saves),.row 1 (els p.Sums),.box (pC p 10 11 12 13 14 15 16 17 18 19)]⟩:St)) (Xw [0,1,2,3,4,5,6,7,8,9,10,11,12,13,14,15,16,17,18,19,21] (by decide) J ((by kernel_rfl)) (.c J (.c J (.c J (.c J (.c J (.c J (.c J (.c J (.c J (.c J (.c J (.c J (.c J (.c J (.nil)))))))))))))))) ?_;refine Xp J J J J J J J J J J J J J J (by omega) (by omega) ?_
  refine AL.weak (st':=(⟨144,[(1,L sc),(2,I seed),(3,I d),(4,I ah),(5,L fs),(7,.o (.c (.ptr 0 0))),(13,.o (.c (.ptr 1 0))),(14,.o (.c (.ptr 2 0))),(15,B false),(16,I sc.length),(17,.o (.c (.ptr 4 0))),(18,I k),(81,.o (.c (.ref 6)))],[.box [sr l.Rows],.box (wX w (sr w.Flights)),.box zM,.row 1 (els l.Rows),.box (mX (newN l sc seed d ah fs w) (.ref 3) (.ref 5) .un (.ref 7) (.ref 8) (.ref 9) nv nv nv),.row 1 (els (sc.take (k+1))),.row 23 (els (mapR (pAt l sc.length seed d ah fs) (k+1))),.row 1 (els (mapR (fun i=>mapR (mkW w i) sc.length) k)),.row 1 (els (mapR (fun _=>List.replicate sc.length (⟨0,0,0,0,0⟩:TPace)) k)),.row 1 (els (mapR (fun _=>List.replicate sc.length d) k))]⟩:St)) (Xw [0,1,2,3,4,5,6,7,8,9] (by decide) J ((by rw[hsn]; kernel_rfl)) (.c J (.c J (.c J (.c J (.c J (.c J (.c J (.c J (.c J (.c J (.c J (.c J (.c J (.nil))))))))))))))) ?_
  refine Wz [95,7,202,3,7,202,3,39] ?_;refine Xe (fun m st=>∃ j:Nat,j+m=sc.length∧(True)∧st=(⟨144,[(1,L sc),(2,I seed),(3,I d),(4,I ah),(5,L fs),(7,.o (.c (.ptr 0 0))),(13,.o (.c (.ptr 1 0))),(14,.o (.c (.ptr 2 0))),(15,B false),(16,I sc.length),(17,.o (.c (.ptr 4 0))),(18,I k),(21,.o (.c (.ref 10))),(22,.o (.c (.ref 11))),(23,I j)],[.box [sr l.Rows],.box (wX w (sr w.Flights)),.box zM,.row 1 (els l.Rows),.box (mX (newN l sc seed d ah fs w) (.ref 3) (.ref 5) (.ref 6) (.ref 7) (.ref 8) (.ref 9) nv nv nv),.row 1 (els (sc.take (k+1))),.row 23 (els (mapR (pAt l sc.length seed d ah fs) (k+1))),.row 1 (els (mapR (fun i=>mapR (mkW w i) sc.length) k)),.row 1 (els (mapR (fun _=>List.replicate sc.length (⟨0,0,0,0,0⟩:TPace)) k)),.row 1 (els (mapR (fun _=>List.replicate sc.length d) k)),.row 10 (els (mapR (mkW w k) j)),.row 1 (els (List.replicate j d))]⟩:St)) (sc.length) ⟨_,⟨0,by omega,trivial,J⟩,Xv [0,1,2,3,4,5,6,7,8,9,10,11] (by kernel_rfl)⟩ ?_
  rintro m_J _ ⟨j,hk_J,hp_J,rfl⟩
  have lj:(els (mapR (mkW w k) j)).length=j:=by rw[X6,Yo]
  have lr:(els (List.replicate j d)).length=j:=by rw[X6,Gxr]
  by_cases h5:j<sc.length
  ·have f5:decide ((j:Int)<(sc.length:Int))=true:=Gqb (by omega)
   have hs1:=X7 (mkW w k) j
   have hs2:=reps_d d j
   have hbk:=and_mask (x:=w.Seed+100*(k:Int)+(j:Int)) (by omega)
   obtain⟨q,hq⟩:∃ q:Nat,q=((w.Seed+100*(k:Int)+(j:Int))%65536).toNat:=⟨_,rfl⟩
   rw[←hq] at hbk
   have hqm:mkW w k j=⟨(q:Int),w.Delay,w.Jitter,w.Loss,w.Copies,w.Damage,0,[],0,0⟩:=by rw[mkW,hq,Int.toNat_of_nonneg (by omega)]
   have cN:=S_NewWire (q:Int) w.Delay w.Jitter w.Loss w.Copies w.Damage (by rw[←hqm]; exact gwm k j) (by rw[←hqm]; exact hwm k j)
   rw[hqm] at hs1
   clear hqm hq
   refine Wz [28,83,36,114,14,0,14] ?_;refine zx (q_bandK J J J J (by assumption) (by omega)) J ?_;refine Wz [13,13,13,13,13] ?_;refine M1 (Y8 J J (cN) J J J) J J ?_;refine Wz [195,149,149,22,110,3,4,38,107] ?_;refine AL.weak (st':=(⟨144,[(1,L sc),(2,I seed),(3,I d),(4,I ah),(5,L fs),(7,.o (.c (.ptr 0 0))),(13,.o (.c (.ptr 1 0))),(14,.o (.c (.ptr 2 0))),(15,B false),(16,I sc.length),(17,.o (.c (.ptr 4 0))),(18,I k),(21,.o (.c (.ref 10))),(22,.o (.c (.ref 11))),(23,I j),(112,.o (.c (.ref 10))),(114,.o (.c (.sb 13 1 10)))],[.box [sr l.Rows],.box (wX w (sr w.Flights)),.box zM,.row 1 (els l.Rows),.box (mX (newN l sc seed d ah fs w) (.ref 3) (.ref 5) (.ref 6) (.ref 7) (.ref 8) (.ref 9) nv nv nv),.row 1 (els (sc.take (k+1))),.row 23 (els (mapR (pAt l sc.length seed d ah fs) (k+1))),.row 1 (els (mapR (fun i=>mapR (mkW w i) sc.length) k)),.row 1 (els (mapR (fun _=>List.replicate sc.length (⟨0,0,0,0,0⟩:TPace)) k)),.row 1 (els (mapR (fun _=>List.replicate sc.length d) k)),.row 10 (els (mapR (mkW w k) j)),.row 1 (els (List.replicate j d)),.row 2 [],.box [jn (q:Int),jn w.Delay,jn w.Jitter,jn w.Loss,jn w.Copies,jn w.Damage,jn 0,.ref 12,jn 0,jn 0]]⟩:St)) (Xw [0,1,2,3,4,5,6,7,8,9,10,11,12,14] (by decide) J ((by kernel_rfl)) (.c J (.c J (.c J (.c J (.c J (.c J (.c J (.c J (.c J (.c J (.c J (.c J (.c J (.c J (.c J (.c J (.c J (.nil))))))))))))))))))) ?_;refine Xp J J J J J J J J J J J J J J (by omega) (by omega) ?_
   refine AL.weak (st':=(⟨144,[(1,L sc),(2,I seed),(3,I d),(4,I ah),(5,L fs),(7,.o (.c (.ptr 0 0))),(13,.o (.c (.ptr 1 0))),(14,.o (.c (.ptr 2 0))),(15,B false),(16,I sc.length),(17,.o (.c (.ptr 4 0))),(18,I k),(22,.o (.c (.ref 11))),(23,I j),(115,.o (.c (.ref 10)))],[.box [sr l.Rows],.box (wX w (sr w.Flights)),.box zM,.row 1 (els l.Rows),.box (mX (newN l sc seed d ah fs w) (.ref 3) (.ref 5) (.ref 6) (.ref 7) (.ref 8) (.ref 9) nv nv nv),.row 1 (els (sc.take (k+1))),.row 23 (els (mapR (pAt l sc.length seed d ah fs) (k+1))),.row 1 (els (mapR (fun i=>mapR (mkW w i) sc.length) k)),.row 1 (els (mapR (fun _=>List.replicate sc.length (⟨0,0,0,0,0⟩:TPace)) k)),.row 1 (els (mapR (fun _=>List.replicate sc.length d) k)),.row 10 (els (mapR (mkW w k) (j+1))),.row 1 (els (List.replicate j d))]⟩:St)) (Xw [0,1,2,3,4,5,6,7,8,9,10,11] (by decide) J ((by rw[hs1]; kernel_rfl)) (.c J (.c J (.c J (.c J (.c J (.c J (.c J (.c J (.c J (.c J (.c J (.c J (.c J (.c J (.c J (.nil))))))))))))))))) ?_
   refine Wz [3,92,107,203,56] ?_
   exact⟨sc.length-(j+1),by omega,_,⟨j+1,by omega,trivial,J⟩,(by rw[hs2]; exact Xv [0,1,2,3,4,5,6,7,8,9,10,11] (by kernel_rfl))⟩
  have f5:decide ((j:Int)<(sc.length:Int))=false:=Gqa (by omega)
  have hjn:j=sc.length:=by omega
  rw[hjn] at f5 ⊢
  clear lj lr h5 hk_J hp_J
  refine Wz [28,73,68,36,107] ?_;refine AL.weak (st':=(⟨144,[(1,L sc),(2,I seed),(3,I d),(4,I ah),(5,L fs),(7,.o (.c (.ptr 0 0))),(13,.o (.c (.ptr 1 0))),(14,.o (.c (.ptr 2 0))),(15,B false),(16,I sc.length),(17,.o (.c (.ptr 4 0))),(18,I k),(22,.o (.c (.ref 11))),(121,.o (.c (.ref 7))),(123,.o (.c (.sb 12 1 1)))],[.box [sr l.Rows],.box (wX w (sr w.Flights)),.box zM,.row 1 (els l.Rows),.box (mX (newN l sc seed d ah fs w) (.ref 3) (.ref 5) (.ref 6) (.ref 7) (.ref 8) (.ref 9) nv nv nv),.row 1 (els (sc.take (k+1))),.row 23 (els (mapR (pAt l sc.length seed d ah fs) (k+1))),.row 1 (els (mapR (fun i=>mapR (mkW w i) sc.length) k)),.row 1 (els (mapR (fun _=>List.replicate sc.length (⟨0,0,0,0,0⟩:TPace)) k)),.row 1 (els (mapR (fun _=>List.replicate sc.length d) k)),.row 10 (els (mapR (mkW w k) sc.length)),.row 1 (els (List.replicate sc.length d)),.box [.ref 10]]⟩:St)) (Xw [0,1,2,3,4,5,6,7,8,9,10,11,12] (by decide) J ((by kernel_rfl)) (.c J (.c J (.c J (.c J (.c J (.c J (.c J (.c J (.c J (.c J (.c J (.c J (.c J (.c J (.c J (.nil))))))))))))))))) ?_;refine Xp J J J J J J J J J J J J J J (by omega) (by omega) ?_
  refine AL.weak (st':=(⟨144,[(1,L sc),(2,I seed),(3,I d),(4,I ah),(5,L fs),(7,.o (.c (.ptr 0 0))),(13,.o (.c (.ptr 1 0))),(14,.o (.c (.ptr 2 0))),(15,B false),(16,I sc.length),(17,.o (.c (.ptr 4 0))),(18,I k),(22,.o (.c (.ref 10))),(124,.o (.c (.ref 7)))],[.box [sr l.Rows],.box (wX w (sr w.Flights)),.box zM,.row 1 (els l.Rows),.box (mX (newN l sc seed d ah fs w) (.ref 3) (.ref 5) (.ref 6) .un (.ref 8) (.ref 9) nv nv nv),.row 1 (els (sc.take (k+1))),.row 23 (els (mapR (pAt l sc.length seed d ah fs) (k+1))),.row 1 (els (mapR (fun i=>mapR (mkW w i) sc.length) (k+1))),.row 1 (els (mapR (fun _=>List.replicate sc.length (⟨0,0,0,0,0⟩:TPace)) k)),.row 1 (els (mapR (fun _=>List.replicate sc.length d) k)),.row 1 (els (List.replicate sc.length d))]⟩:St)) (Xw [0,1,2,3,4,5,6,7,8,9,11] (by decide) J ((by rw[hsW]; kernel_rfl)) (.c J (.c J (.c J (.c J (.c J (.c J (.c J (.c J (.c J (.c J (.c J (.c J (.c J (.c J (.nil)))))))))))))))) ?_
  refine Wz [95,16] ?_
  refine AWP.pre (st':=(⟨144,[(1,L sc),(2,I seed),(3,I d),(4,I ah),(5,L fs),(7,.o (.c (.ptr 0 0))),(13,.o (.c (.ptr 1 0))),(14,.o (.c (.ptr 2 0))),(15,B false),(16,I sc.length),(17,.o (.c (.ptr 4 0))),(18,I k),(22,.o (.c (.ref 10)))],[.box [sr l.Rows],.box (wX w (sr w.Flights)),.box zM,.row 1 (els l.Rows),.box (mX (newN l sc seed d ah fs w) (.ref 3) (.ref 5) (.ref 6) (.ref 7) (.ref 8) (.ref 9) nv nv nv),.row 1 (els (sc.take (k+1))),.row 23 (els (mapR (pAt l sc.length seed d ah fs) (k+1))),.row 1 (els (mapR (fun i=>mapR (mkW w i) sc.length) (k+1))),.row 1 (els (mapR (fun _=>List.replicate sc.length (⟨0,0,0,0,0⟩:TPace)) k)),.row 1 (els (mapR (fun _=>List.replicate sc.length d) k)),.row 1 (els (List.replicate sc.length d))]⟩:St)) ?_ (Xw [0,1,2,3,4,5,6,7,8,9,10] (by decide) J ((by kernel_rfl)) (.c J (.c J (.c J (.c J (.c J (.c J (.c J (.c J (.c J (.c J (.c J (.c J (.c J (.nil)))))))))))))))
  refine Xd u8_37 [[],[126],[],[128],[128,129],[126,127,128,129,130],[126,127,128,129,130,131],[126,127,128,129,130,131,132]] [[128,129,130],[128,129,130],[126,127],[126,127],[126,127],[],[],[]] J ?_;refine Wz [32,8,233,184,30] ?_;refine AL.weak (st':=(⟨144,[(1,L sc),(2,I seed),(3,I d),(4,I ah),(5,L fs),(7,.o (.c (.ptr 0 0))),(13,.o (.c (.ptr 1 0))),(14,.o (.c (.ptr 2 0))),(15,B false),(16,I sc.length),(17,.o (.c (.ptr 4 0))),(18,I k),(22,.o (.c (.ref 10))),(127,.o (.c (.ref 8))),(130,.o (.c (.sb 12 1 1)))],[.box [sr l.Rows],.box (wX w (sr w.Flights)),.box zM,.row 1 (els l.Rows),.box (mX (newN l sc seed d ah fs w) (.ref 3) (.ref 5) (.ref 6) (.ref 7) (.ref 8) (.ref 9) nv nv nv),.row 1 (els (sc.take (k+1))),.row 23 (els (mapR (pAt l sc.length seed d ah fs) (k+1))),.row 1 (els (mapR (fun i=>mapR (mkW w i) sc.length) (k+1))),.row 1 (els (mapR (fun _=>List.replicate sc.length (⟨0,0,0,0,0⟩:TPace)) k)),.row 1 (els (mapR (fun _=>List.replicate sc.length d) k)),.row 1 (els (List.replicate sc.length d)),.row 5 (List.replicate sc.length ([Value.int .i64 0,Value.int .i64 0,Value.int .i64 0,Value.int .i64 0,Value.int .i64 0].map (zT 1))),.box [.ref 11]]⟩:St)) (Xw [0,1,2,3,4,5,6,7,8,9,10,11,12] (by decide) J ((by kernel_rfl)) (.c J (.c J (.c J (.c J (.c J (.c J (.c J (.c J (.c J (.c J (.c J (.c J (.c J (.c J (.c J (.nil))))))))))))))))) ?_;refine Xp J J J J J J J J J J J J J J (by omega) (by omega) ?_
  refine AL.weak (st':=(⟨144,[(1,L sc),(2,I seed),(3,I d),(4,I ah),(5,L fs),(7,.o (.c (.ptr 0 0))),(13,.o (.c (.ptr 1 0))),(14,.o (.c (.ptr 2 0))),(15,B false),(16,I sc.length),(17,.o (.c (.ptr 4 0))),(18,I k),(22,.o (.c (.ref 10))),(131,.o (.c (.ref 8)))],[.box [sr l.Rows],.box (wX w (sr w.Flights)),.box zM,.row 1 (els l.Rows),.box (mX (newN l sc seed d ah fs w) (.ref 3) (.ref 5) (.ref 6) (.ref 7) .un (.ref 9) nv nv nv),.row 1 (els (sc.take (k+1))),.row 23 (els (mapR (pAt l sc.length seed d ah fs) (k+1))),.row 1 (els (mapR (fun i=>mapR (mkW w i) sc.length) (k+1))),.row 1 (els (mapR (fun _=>List.replicate sc.length (⟨0,0,0,0,0⟩:TPace)) (k+1))),.row 1 (els (mapR (fun _=>List.replicate sc.length d) k)),.row 1 (els (List.replicate sc.length d))]⟩:St)) (Xw [0,1,2,3,4,5,6,7,8,9,10] (by decide) J ((by rw[hsQ,zpaces]; kernel_rfl)) (.c J (.c J (.c J (.c J (.c J (.c J (.c J (.c J (.c J (.c J (.c J (.c J (.c J (.c J (.nil)))))))))))))))) ?_
  refine Wz [95,100,13,0,107] ?_;refine AL.weak (st':=(⟨144,[(1,L sc),(2,I seed),(3,I d),(4,I ah),(5,L fs),(7,.o (.c (.ptr 0 0))),(13,.o (.c (.ptr 1 0))),(14,.o (.c (.ptr 2 0))),(15,B false),(16,I sc.length),(17,.o (.c (.ptr 4 0))),(18,I k),(134,.o (.c (.ref 9))),(136,.o (.c (.sb 11 1 1)))],[.box [sr l.Rows],.box (wX w (sr w.Flights)),.box zM,.row 1 (els l.Rows),.box (mX (newN l sc seed d ah fs w) (.ref 3) (.ref 5) (.ref 6) (.ref 7) (.ref 8) (.ref 9) nv nv nv),.row 1 (els (sc.take (k+1))),.row 23 (els (mapR (pAt l sc.length seed d ah fs) (k+1))),.row 1 (els (mapR (fun i=>mapR (mkW w i) sc.length) (k+1))),.row 1 (els (mapR (fun _=>List.replicate sc.length (⟨0,0,0,0,0⟩:TPace)) (k+1))),.row 1 (els (mapR (fun _=>List.replicate sc.length d) k)),.row 1 (els (List.replicate sc.length d)),.box [.ref 10]]⟩:St)) (Xw [0,1,2,3,4,5,6,7,8,9,10,11] (by decide) J ((by kernel_rfl)) (.c J (.c J (.c J (.c J (.c J (.c J (.c J (.c J (.c J (.c J (.c J (.c J (.c J (.c J (.nil)))))))))))))))) ?_;refine Xp J J J J J J J J J J J J J J (by omega) (by omega) ?_
  refine AL.weak (st':=(⟨144,[(1,L sc),(2,I seed),(3,I d),(4,I ah),(5,L fs),(7,.o (.c (.ptr 0 0))),(13,.o (.c (.ptr 1 0))),(14,.o (.c (.ptr 2 0))),(15,B false),(16,I sc.length),(17,.o (.c (.ptr 4 0))),(18,I k),(137,.o (.c (.ref 9)))],[.box [sr l.Rows],.box (wX w (sr w.Flights)),.box zM,.row 1 (els l.Rows),.box (mX (newN l sc seed d ah fs w) (.ref 3) (.ref 5) (.ref 6) (.ref 7) (.ref 8) .un nv nv nv),.row 1 (els (sc.take (k+1))),.row 23 (els (mapR (pAt l sc.length seed d ah fs) (k+1))),.row 1 (els (mapR (fun i=>mapR (mkW w i) sc.length) (k+1))),.row 1 (els (mapR (fun _=>List.replicate sc.length (⟨0,0,0,0,0⟩:TPace)) (k+1))),.row 1 (els (mapR (fun _=>List.replicate sc.length d) (k+1)))]⟩:St)) (Xw [0,1,2,3,4,5,6,7,8,9] (by decide) J ((by rw[hsA]; kernel_rfl)) (.c J (.c J (.c J (.c J (.c J (.c J (.c J (.c J (.c J (.c J (.c J (.c J (.c J (.nil))))))))))))))) ?_
  refine Wz [185,137] ?_
  exact⟨sc.length-(k+1),by omega,_,⟨k+1,by omega,trivial,J⟩,Xv [0,1,2,3,4,5,6,7,8,9] (by kernel_rfl)⟩
 have f3:decide ((k:Int)<(sc.length:Int))=false:=Gqa (by omega)
 have hkn:k=sc.length:=by omega
 rw[hkn] at f3 ⊢
 rw[List.take_length]
 refine AWP.pre ?_ (Wk.nilbox (p:=4) (i:=9) 6 J J)
 refine AWP.pre ?_ (Wk.nilbox (p:=4) (i:=10) 10 J J)
 refine AWP.pre ?_ (Wk.nilbox (p:=4) (i:=11) 2 J J)
 refine Wz [28,73,68,112,38] ?_;refine AL.weak (st':=(⟨144,[(14,.o (.c (.ptr 2 0))),(15,B false),(17,.o (.c (.ptr 4 0))),(139,.o (.ag (mX (newN l sc seed d ah fs w) (.ref 3) (.ref 5) (.ref 6) (.ref 7) (.ref 8) (.ref 9) (.ref 10) (.ref 11) (.ref 12))))],[.box [sr l.Rows],.box (wX w (sr w.Flights)),.box zM,.row 1 (els l.Rows),.box (mX (newN l sc seed d ah fs w) (.ref 3) (.ref 5) (.ref 6) (.ref 7) (.ref 8) (.ref 9) (.ref 10) (.ref 11) (.ref 12)),.row 1 (els sc),.row 23 (els (mapR (pAt l sc.length seed d ah fs) sc.length)),.row 1 (els (mapR (fun i=>mapR (mkW w i) sc.length) sc.length)),.row 1 (els (mapR (fun _=>List.replicate sc.length (⟨0,0,0,0,0⟩:TPace)) sc.length)),.row 1 (els (mapR (fun _=>List.replicate sc.length d) sc.length)),.row 6 [],.row 10 [],.row 2 []]⟩:St)) (Xw [0,1,2,3,4,5,6,7,8,9,10,11,12] (by decide) J ((by kernel_rfl)) (.c J (.c J (.c J (.c J (.nil)))))) ?_
 cases hm:matchOk (newN l sc seed d ah fs w) with
 |false =>
  rw[hm] at cM
  refine zx (Qj J J (cM) J) J ?_;refine AL.weak (st':=(⟨144,[(14,.o (.c (.ptr 0 0))),(15,B false),(140,B false)],[.box zM]⟩:St)) (Xw [2] (by decide) J ((by kernel_rfl)) (.c J (.c J (.c J (.nil))))) ?_;refine Wz [5,101,7,115,110,109,47] ?_
  exact Xh (cs:=zM) J J J J J (Xu (v' := .tu [.ag (mC zMt 1),.c (bv false)]) [1,1,23,1,1,1,6,10,2] [1,2,3,4,5,6,7,8,9] (by kernel_rfl) (by kernel_rfl) (by decide) J (by kernel_rfl) (by kernel_rfl))
 |true =>
  rw[hm] at cM
  refine zx (Qj J J (cM) J) J ?_;refine Wz [53,40,110,46] ?_
  exact Xh J J J J J (Xt [3,5,6,7,8,9,10,11,12] (by decide) J J J)
end
section
open Go.RowKit

theorem sz_FlightS (xs:List TFlight) (left:Int) (hg:Enc.gd xs) (h0:0≤left) (h1:left≤1048576):Con Tryz.prog 55 [] [al xs,ai left] [] (I (szr (Enc.wt xs) left)):=by
 have hlen:=X6 xs
 have hx:=hg.1
 have hw:Enc.wt xs=xs.length+wts xs:=rfl
 refine Con.of Tryz.func55 J Tryz.ntmps55 J (fun E => ?_)
 refine Wz [33,10,21,97,98,12] ?_
 refine Q8 J (fun h => ?_) (fun h => ?_)
 ·refine Wz [35] ?_
  have h2:=Gqc h
  exact Xi J J (Xt [] (by decide) J J (Xl (by rw[Z5 (by omega)])))
 have h2:¬(left-((els xs).length:Int)<0):=Gqg h
 refine Wz [11,39] ?_
 refine Xe (fun m st=>∃ k:Nat,k+m=xs.length∧(((xs.length:Int)+wts (xs.take k)≤left))∧st=(⟨_,[(0,L xs),(1,I (left-(xs.length+wts (xs.take k)))),(5,I k)],[]⟩:St)) (xs.length) ⟨(fun k:Nat=>(⟨_,[(0,L xs),(1,I (left-(xs.length+wts (xs.take k)))),(5,I k)],[]⟩:St)) 0,⟨0,by omega,by simp[wts]; omega,J⟩,Xw [] (by decide) J (by kernel_rfl) (.c J (.cons (Xl (by simp[els,wts])) (.c J (.nil))))⟩ ?_
 rintro m_A _ ⟨k,hk_A,hp_A,rfl⟩
 refine Wz [23,12] ?_
 refine Q8 J (fun h => ?_) (fun h => ?_)
 ·have h3:k<xs.length:=by have:=Gqc h; omega
  have hat:=X5 h3
  have hstep:=wts_take xs k h3
  have hle:=wts_take_le xs (k+1)
  have hc:=sz_Flight xs[k] (left-((xs.length:Int)+wts (xs.take k))) (hg.2 _ (Gqf h3)) (by omega) (by omega)
  by_cases h4:left-((xs.length:Int)+wts (xs.take k))<Enc.wt xs[k]
  ·rw[Z5 h4] at hc
   have hb:decide ((-1:Int)<0)=true:=rfl
   refine Wz [9,10,89,0] ?_;refine zx (Qj J J (hc) J) J ?_;refine Wz [3,4,67,74] ?_
   exact Xi J J (Xt [] (by decide) J J (Xl (by rw[Z5 (by omega)])))
  ·rw[Z6 (by omega)] at hc
   have hb:decide (left-((xs.length:Int)+wts (xs.take k))-Enc.wt xs[k]<0)=false:=Gqa (by omega)
   refine Wz [9,10,89,0] ?_;refine zx (Qj J J (hc) J) J ?_;refine Wz [3,4,67,57] ?_
   exact⟨xs.length-(k+1),by omega,(fun k:Nat=>(⟨_,[(0,L xs),(1,I (left-(xs.length+wts (xs.take k)))),(5,I k)],[]⟩:St)) (k+1),⟨k+1,by omega,by omega,J⟩,Xw [] (by decide) J (by kernel_rfl) (.c J (.cons (Xl (by rw[hstep]; omega)) (.c J (.nil))))⟩
 ·have h3:¬((k:Int)<(els xs).length):=Gqg h
  have hk:wts (xs.take k)=wts xs:=by rw[Gqk (by omega)]
  refine Wz [43] ?_
  exact Xi J J (Xt [] (by decide) J J (Xl (by rw[Z6 (by omega)]; omega)))
def zFlight:List T := [.v (.int .i64 0),.v (.string ⟨#[]⟩)]
theorem to_FlightS (xs:List TFlight) (hg:Enc.wt xs≤1048576):Con Tryz.prog 63 [] [al xs] [.row 2 (els xs)] (.o (.c (.ref 0))):=by
 have hlen:=X6 xs
 have hw:Enc.wt xs=xs.length+wts xs:=rfl
 refine Con.of Tryz.func63 J Tryz.ntmps63 J (fun E => ?_)
 refine Wz [33,4,21,220,3,39] ?_;refine Xe (fun m st=>∃ k:Nat,k+m=xs.length∧(True)∧st=(⟨_,[(0,L xs),(3,.o (.c (.ref 0))),(4,I k)],[.row 2 (part xs zFlight k)]⟩:St)) (xs.length) ⟨(fun k:Nat=>(⟨_,[(0,L xs),(3,.o (.c (.ref 0))),(4,I k)],[.row 2 (part xs zFlight k)]⟩:St)) 0,⟨0,by omega,trivial,J⟩,Xw [0] (by decide) J (Zy (part_zero xs _)) (.c J (.c J (.c J (.nil))))⟩ ?_
 rintro m_A _ ⟨k,hk_A,hp_A,rfl⟩
 refine Wz [23,12] ?_
 refine Q8 J (fun h => ?_) (fun h => ?_)
 ·have h3:k<xs.length:=by have:=Gqc h; omega
  have hat:=X5 h3
  have hz:=part_at xs zFlight h3
  have hpl:(k:Int)<(part xs zFlight k).length:=by rw[part_len xs _ (by omega)]; omega
  have hwt:Enc.wt xs[k]≤wts xs:=wts_le xs _ (Gqf h3)
  have hc:=to_Flight xs[k] (by omega)
  refine Wz [9,92,144,89] ?_;refine M1 (Y8 J J (hc) J J J) J J ?_;refine zx (Q2 J J J J J (by omega) (by assumption)) J ?_;refine Xb J J J J J J J J J J (by assumption) J J ?_;refine Wz [137] ?_
  exact⟨xs.length-(k+1),by omega,(fun k:Nat=>(⟨_,[(0,L xs),(3,.o (.c (.ref 0))),(4,I k)],[.row 2 (part xs zFlight k)]⟩:St)) (k+1),⟨k+1,by omega,trivial,J⟩,Xw [0] (by decide) J (Zy (part_set xs zFlight h3 _ (by rfl) (by rfl)).symm) (.c J (.c J (.c J (.nil))))⟩
 ·have h3:¬((k:Int)<(els xs).length):=Gqg h
  refine Wz [43] ?_
  exact Xi J J (Xt [0] (by decide) J (Zy (part_all xs _ (by omega)).symm) J)
theorem eq_FlightS (xs ys:List TFlight) (hn:Enc.gd xs):Con Tryz.prog 78 [] [al xs,al ys] [] (B (decide (xs=ys))):=by
 have hn1:=hn.1
 have hlx:=X6 xs
 have hly:=X6 ys
 by_cases hl:xs.length=ys.length
 ·have hb:decide (((els xs).length:Int)≠((els ys).length:Int))=false:=by rw[hlx,hly,hl]; simp
  refine Con.of Tryz.func78 J Tryz.ntmps78 J (fun E => ?_)
  refine Wz [79,62,26,39] ?_;refine Xe (fun m st=>∃ k:Nat,k+m=xs.length∧(xs.take k=ys.take k)∧st=(⟨_,[(0,L xs),(1,L ys),(5,I k)],[]⟩:St)) (xs.length) ⟨_,⟨0,by omega,by simp,J⟩,Xv [] (by kernel_rfl)⟩ ?_
  rintro m_A _ ⟨k,hk_A,hp_A,rfl⟩
  refine Wz [23,12] ?_
  refine Q8 J (fun h => ?_) (fun h => ?_)
  ·have h3:k<xs.length:=by have:=Gqc h; omega
   have h4:k<ys.length:=by omega
   have hat:=X5 h3
   have hat2:=X5 h4
   have hc:=eq_Flight xs[k] ys[k] (hn.2 _ (Gqf h3))
   by_cases he:xs[k]=ys[k]
   ·rw[Gqb he] at hc
    refine Wz [45,103,54,54] ?_;refine DR.s (Qj J J (hc) J) J J ?_;refine Wz [87,57] ?_
    exact⟨xs.length-(k+1),by omega,_,⟨k+1,by omega,Yd h3 h4 hp_A he,J⟩,Xv [] (by kernel_rfl)⟩
   ·rw[Gqa he] at hc
    refine Wz [45,103,54,54] ?_;refine DR.s (Qj J J (hc) J) J J ?_;refine Wz [87,74] ?_
    exact Xi J J (Xt [] (by decide) J J (Xf (eq_ne h3 h4 he).symm))
  ·have h3:¬((k:Int)<(els xs).length):=Gqg h
   refine Wz [94] ?_
   exact Xi J J (Xt [] (by decide) J J (Xf (Yb (by omega) hl hp_A).symm))
 ·have hb:decide (((els xs).length:Int)≠((els ys).length:Int))=true:=by rw[hlx,hly]; simp; omega
  refine Con.of Tryz.func78 J Tryz.ntmps78 J (fun E => ?_)
  refine Wz [79,18] ?_
  exact Xi J J (Xt [] (by decide) J J (Xf (Yc hl).symm))
theorem eq_PaceS (xs ys:List TPace) (hn:Enc.gd xs):Con Tryz.prog 168 [] [al xs,al ys] [] (B (decide (xs=ys))):=by
 have hn1:=hn.1
 have hlx:=X6 xs
 have hly:=X6 ys
 by_cases hl:xs.length=ys.length
 ·have hb:decide (((els xs).length:Int)≠((els ys).length:Int))=false:=by rw[hlx,hly,hl]; simp
  refine Con.of Tryz.func168 J Tryz.ntmps168 J (fun E => ?_)
  refine Wz [79,62,26,39] ?_;refine Xe (fun m st=>∃ k:Nat,k+m=xs.length∧(xs.take k=ys.take k)∧st=(⟨_,[(0,L xs),(1,L ys),(5,I k)],[]⟩:St)) (xs.length) ⟨_,⟨0,by omega,by simp,J⟩,Xv [] (by kernel_rfl)⟩ ?_
  rintro m_A _ ⟨k,hk_A,hp_A,rfl⟩
  refine Wz [23,12] ?_
  refine Q8 J (fun h => ?_) (fun h => ?_)
  ·have h3:k<xs.length:=by have:=Gqc h; omega
   have h4:k<ys.length:=by omega
   have hat:=X5 h3
   have hat2:=X5 h4
   have hc:=eq_Pace xs[k] ys[k] (hn.2 _ (Gqf h3))
   by_cases he:xs[k]=ys[k]
   ·rw[Gqb he] at hc
    refine Wz [45,103,54,54] ?_;refine DR.s (Qj J J (hc) J) J J ?_;refine Wz [87,57] ?_
    exact⟨xs.length-(k+1),by omega,_,⟨k+1,by omega,Yd h3 h4 hp_A he,J⟩,Xv [] (by kernel_rfl)⟩
   ·rw[Gqa he] at hc
    refine Wz [45,103,54,54] ?_;refine DR.s (Qj J J (hc) J) J J ?_;refine Wz [87,74] ?_
    exact Xi J J (Xt [] (by decide) J J (Xf (eq_ne h3 h4 he).symm))
  ·have h3:¬((k:Int)<(els xs).length):=Gqg h
   refine Wz [94] ?_
   exact Xi J J (Xt [] (by decide) J J (Xf (Yb (by omega) hl hp_A).symm))
 ·have hb:decide (((els xs).length:Int)≠((els ys).length:Int))=true:=by rw[hlx,hly]; simp; omega
  refine Con.of Tryz.func168 J Tryz.ntmps168 J (fun E => ?_)
  refine Wz [79,18] ?_
  exact Xi J J (Xt [] (by decide) J J (Xf (Yc hl).symm))
theorem eq_AlarmS (xs ys:List TAlarm) (hn:Enc.gd xs):Con Tryz.prog 74 [] [al xs,al ys] [] (B (decide (xs=ys))):=by
 have hn1:=hn.1
 have hlx:=X6 xs
 have hly:=X6 ys
 by_cases hl:xs.length=ys.length
 ·have hb:decide (((els xs).length:Int)≠((els ys).length:Int))=false:=by rw[hlx,hly,hl]; simp
  refine Con.of Tryz.func74 J Tryz.ntmps74 J (fun E => ?_)
  refine Wz [79,62,26,39] ?_;refine Xe (fun m st=>∃ k:Nat,k+m=xs.length∧(xs.take k=ys.take k)∧st=(⟨_,[(0,L xs),(1,L ys),(5,I k)],[]⟩:St)) (xs.length) ⟨_,⟨0,by omega,by simp,J⟩,Xv [] (by kernel_rfl)⟩ ?_
  rintro m_A _ ⟨k,hk_A,hp_A,rfl⟩
  refine Wz [23,12] ?_
  refine Q8 J (fun h => ?_) (fun h => ?_)
  ·have h3:k<xs.length:=by have:=Gqc h; omega
   have h4:k<ys.length:=by omega
   have hat:=X5 h3
   have hat2:=X5 h4
   have hc:=eq_Alarm xs[k] ys[k] (hn.2 _ (Gqf h3))
   by_cases he:xs[k]=ys[k]
   ·rw[Gqb he] at hc
    refine Wz [45,103,54,54] ?_;refine DR.s (Qj J J (hc) J) J J ?_;refine Wz [87,57] ?_
    exact⟨xs.length-(k+1),by omega,_,⟨k+1,by omega,Yd h3 h4 hp_A he,J⟩,Xv [] (by kernel_rfl)⟩
   ·rw[Gqa he] at hc
    refine Wz [45,103,54,54] ?_;refine DR.s (Qj J J (hc) J) J J ?_;refine Wz [87,74] ?_
    exact Xi J J (Xt [] (by decide) J J (Xf (eq_ne h3 h4 he).symm))
  ·have h3:¬((k:Int)<(els xs).length):=Gqg h
   refine Wz [94] ?_
   exact Xi J J (Xt [] (by decide) J J (Xf (Yb (by omega) hl hp_A).symm))
 ·have hb:decide (((els xs).length:Int)≠((els ys).length:Int))=true:=by rw[hlx,hly]; simp; omega
  refine Con.of Tryz.func74 J Tryz.ntmps74 J (fun E => ?_)
  refine Wz [79,18] ?_
  exact Xi J J (Xt [] (by decide) J J (Xf (Yc hl).symm))
theorem eq_SpectatorS (xs ys:List TSpectator) (hn:Enc.gd xs):Con Tryz.prog 72 [] [al xs,al ys] [] (B (decide (xs=ys))):=by
 have hn1:=hn.1
 have hlx:=X6 xs
 have hly:=X6 ys
 by_cases hl:xs.length=ys.length
 ·have hb:decide (((els xs).length:Int)≠((els ys).length:Int))=false:=by rw[hlx,hly,hl]; simp
  refine Con.of Tryz.func72 J Tryz.ntmps72 J (fun E => ?_)
  refine Wz [79,62,26,39] ?_;refine Xe (fun m st=>∃ k:Nat,k+m=xs.length∧(xs.take k=ys.take k)∧st=(⟨_,[(0,L xs),(1,L ys),(5,I k)],[]⟩:St)) (xs.length) ⟨_,⟨0,by omega,by simp,J⟩,Xv [] (by kernel_rfl)⟩ ?_
  rintro m_A _ ⟨k,hk_A,hp_A,rfl⟩
  refine Wz [23,12] ?_
  refine Q8 J (fun h => ?_) (fun h => ?_)
  ·have h3:k<xs.length:=by have:=Gqc h; omega
   have h4:k<ys.length:=by omega
   have hat:=X5 h3
   have hat2:=X5 h4
   have hc:=eq_Spectator xs[k] ys[k] (hn.2 _ (Gqf h3))
   by_cases he:xs[k]=ys[k]
   ·rw[Gqb he] at hc
    refine Wz [45,103,54,54] ?_;refine DR.s (Qj J J (hc) J) J J ?_;refine Wz [87,57] ?_
    exact⟨xs.length-(k+1),by omega,_,⟨k+1,by omega,Yd h3 h4 hp_A he,J⟩,Xv [] (by kernel_rfl)⟩
   ·rw[Gqa he] at hc
    refine Wz [45,103,54,54] ?_;refine DR.s (Qj J J (hc) J) J J ?_;refine Wz [87,74] ?_
    exact Xi J J (Xt [] (by decide) J J (Xf (eq_ne h3 h4 he).symm))
  ·have h3:¬((k:Int)<(els xs).length):=Gqg h
   refine Wz [94] ?_
   exact Xi J J (Xt [] (by decide) J J (Xf (Yb (by omega) hl hp_A).symm))
 ·have hb:decide (((els xs).length:Int)≠((els ys).length:Int))=true:=by rw[hlx,hly]; simp; omega
  refine Con.of Tryz.func72 J Tryz.ntmps72 J (fun E => ?_)
  refine Wz [79,18] ?_
  exact Xi J J (Xt [] (by decide) J J (Xf (Yc hl).symm))
theorem sz_Wire (x:TWire) (left:Int) (hg:Enc.gd x) (h0:0≤left) (h1:left≤1048576):Con Tryz.prog 12 [] [ag x,ai left] [] (I (szr (Enc.wt x) left)):=by
 obtain⟨g_Seed,g_Delay,g_Jitter,g_Loss,g_Copies,g_Damage,g_Now,g_Flights,g_Sent,g_Lost⟩:=hg
 have hw:Enc.wt x=Enc.wt x.Flights:=rfl
 have hm1:decide ((-1:Int)<0)=true:=rfl
 have hc_Flights:=sz_FlightS x.Flights (left) g_Flights (by omega) (by omega)
 by_cases n_Flights:left<Enc.wt x.Flights
 ·rw[Z5 n_Flights] at hc_Flights
  refine Con.of Tryz.func12 J Tryz.ntmps12 J (fun E => ?_)
  refine Wz [58,36] ?_;refine zx (Qj J J (hc_Flights) J) J ?_;refine Wz [189,37] ?_
  exact Xi J J (Xt [] (by decide) J J (Xl (by rw[Z5 (by omega)])))
 rw[Z6 (by omega)] at hc_Flights
 have hb_Flights:decide (left-Enc.wt x.Flights<0)=false:=Gqa (by omega)
 refine Con.of Tryz.func12 J Tryz.ntmps12 J (fun E => ?_)
 refine Wz [58,36] ?_;refine zx (Qj J J (hc_Flights) J) J ?_;refine Wz [59,173] ?_
 exact Xi J J (Xt [] (by decide) J J (Xl (by rw[Z6 (by omega)]; omega)))
theorem to_Wire (x:TWire) (hg:Enc.wt x≤1048576):Con Tryz.prog 17 [] [ag x] (ownO (Enc.e x)) (.o (.ag (ownV 0 (Enc.e x)))):=by
 have hw:Enc.wt x=Enc.wt x.Flights:=rfl
 refine Con.of Tryz.func17 J Tryz.ntmps17 J (fun E => ?_)
 refine Wz [113,22,2,7,22,2,24,95,24,95,24,95,24,95,24,95,24,95,24,95,24] ?_;refine M1 (Y8 J J (to_FlightS x.Flights (by omega)) J J J) J J ?_;refine Wz [95,24,95,24,95,40,49,116,117] ?_
 exact E_cell J J J J (Xt [3] (by decide) J J J)
theorem eq_Wire (x y:TWire) (hg:Enc.gd x):Con Tryz.prog 23 [] [ag x,ag y] [] (B (decide (x=y))):=by
 obtain⟨g_Seed,g_Delay,g_Jitter,g_Loss,g_Copies,g_Damage,g_Now,g_Flights,g_Sent,g_Lost⟩:=hg
 by_cases e_Seed:¬x.Seed=y.Seed
 ·have hk:decide (x.Seed≠y.Seed)=true:=by simp[e_Seed]
  refine Con.of Tryz.func23 J Tryz.ntmps23 J (fun E => ?_)
  refine Wz [19,18] ?_
  exact Xi J J (Xt [] (by decide) J J (Xf (Gqa fun e=>e_Seed (by rw[e])).symm))
 have e_Seed:=Classical.not_not.1 e_Seed
 have k_Seed:decide (x.Seed≠y.Seed)=false:=by simp[e_Seed]
 by_cases e_Delay:¬x.Delay=y.Delay
 ·have hk:decide (x.Delay≠y.Delay)=true:=by simp[e_Delay]
  refine Con.of Tryz.func23 J Tryz.ntmps23 J (fun E => ?_)
  refine Wz [19,78,18] ?_
  exact Xi J J (Xt [] (by decide) J J (Xf (Gqa fun e=>e_Delay (by rw[e])).symm))
 have e_Delay:=Classical.not_not.1 e_Delay
 have k_Delay:decide (x.Delay≠y.Delay)=false:=by simp[e_Delay]
 by_cases e_Jitter:¬x.Jitter=y.Jitter
 ·have hk:decide (x.Jitter≠y.Jitter)=true:=by simp[e_Jitter]
  refine Con.of Tryz.func23 J Tryz.ntmps23 J (fun E => ?_)
  refine Wz [19,85,18] ?_
  exact Xi J J (Xt [] (by decide) J J (Xf (Gqa fun e=>e_Jitter (by rw[e])).symm))
 have e_Jitter:=Classical.not_not.1 e_Jitter
 have k_Jitter:decide (x.Jitter≠y.Jitter)=false:=by simp[e_Jitter]
 by_cases e_Loss:¬x.Loss=y.Loss
 ·have hk:decide (x.Loss≠y.Loss)=true:=by simp[e_Loss]
  refine Con.of Tryz.func23 J Tryz.ntmps23 J (fun E => ?_)
  refine Wz [19,85,78,18] ?_
  exact Xi J J (Xt [] (by decide) J J (Xf (Gqa fun e=>e_Loss (by rw[e])).symm))
 have e_Loss:=Classical.not_not.1 e_Loss
 have k_Loss:decide (x.Loss≠y.Loss)=false:=by simp[e_Loss]
 by_cases e_Copies:¬x.Copies=y.Copies
 ·have hk:decide (x.Copies≠y.Copies)=true:=by simp[e_Copies]
  refine Con.of Tryz.func23 J Tryz.ntmps23 J (fun E => ?_)
  refine Wz [19,99,18] ?_
  exact Xi J J (Xt [] (by decide) J J (Xf (Gqa fun e=>e_Copies (by rw[e])).symm))
 have e_Copies:=Classical.not_not.1 e_Copies
 have k_Copies:decide (x.Copies≠y.Copies)=false:=by simp[e_Copies]
 by_cases e_Damage:¬x.Damage=y.Damage
 ·have hk:decide (x.Damage≠y.Damage)=true:=by simp[e_Damage]
  refine Con.of Tryz.func23 J Tryz.ntmps23 J (fun E => ?_)
  refine Wz [19,99,78,18] ?_
  exact Xi J J (Xt [] (by decide) J J (Xf (Gqa fun e=>e_Damage (by rw[e])).symm))
 have e_Damage:=Classical.not_not.1 e_Damage
 have k_Damage:decide (x.Damage≠y.Damage)=false:=by simp[e_Damage]
 by_cases e_Now:¬x.Now=y.Now
 ·have hk:decide (x.Now≠y.Now)=true:=by simp[e_Now]
  refine Con.of Tryz.func23 J Tryz.ntmps23 J (fun E => ?_)
  refine Wz [19,99,85,18] ?_
  exact Xi J J (Xt [] (by decide) J J (Xf (Gqa fun e=>e_Now (by rw[e])).symm))
 have e_Now:=Classical.not_not.1 e_Now
 have k_Now:decide (x.Now≠y.Now)=false:=by simp[e_Now]
 by_cases e_Flights:¬x.Flights=y.Flights
 ·have hc:=eq_FlightS x.Flights y.Flights g_Flights
  rw[Gqa e_Flights] at hc
  refine Con.of Tryz.func23 J Tryz.ntmps23 J (fun E => ?_)
  refine Wz [19,99,85,78] ?_;refine zx (Qj J J (hc) J) J ?_;refine Wz [5,37] ?_
  exact Xi J J (Xt [] (by decide) J J (Xf (Gqa fun e=>e_Flights (by rw[e])).symm))
 have e_Flights:=Classical.not_not.1 e_Flights
 have hc_Flights:=eq_FlightS x.Flights y.Flights g_Flights
 rw[Gqb e_Flights] at hc_Flights
 by_cases e_Sent:¬x.Sent=y.Sent
 ·have hk:decide (x.Sent≠y.Sent)=true:=by simp[e_Sent]
  refine Con.of Tryz.func23 J Tryz.ntmps23 J (fun E => ?_)
  refine Wz [19,99,85,78] ?_;refine zx (Qj J J (hc_Flights) J) J ?_;refine Wz [6,18] ?_
  exact Xi J J (Xt [] (by decide) J J (Xf (Gqa fun e=>e_Sent (by rw[e])).symm))
 have e_Sent:=Classical.not_not.1 e_Sent
 have k_Sent:decide (x.Sent≠y.Sent)=false:=by simp[e_Sent]
 by_cases e_Lost:¬x.Lost=y.Lost
 ·have hk:decide (x.Lost≠y.Lost)=true:=by simp[e_Lost]
  refine Con.of Tryz.func23 J Tryz.ntmps23 J (fun E => ?_)
  refine Wz [19,99,85,78] ?_;refine zx (Qj J J (hc_Flights) J) J ?_;refine Wz [6,78,18] ?_
  exact Xi J J (Xt [] (by decide) J J (Xf (Gqa fun e=>e_Lost (by rw[e])).symm))
 have e_Lost:=Classical.not_not.1 e_Lost
 have k_Lost:decide (x.Lost≠y.Lost)=false:=by simp[e_Lost]
 refine Con.of Tryz.func23 J Tryz.ntmps23 J (fun E => ?_)
 refine Wz [19,99,85,78] ?_;refine zx (Qj J J (hc_Flights) J) J ?_;refine Wz [6,78,62,26,138] ?_
 exact Xi J J (Xt [] (by decide) J J (Xf (Gqb (TWire.same e_Seed e_Delay e_Jitter e_Loss e_Copies e_Damage e_Now e_Flights e_Sent e_Lost)).symm))
theorem eq_WireS (xs ys:List TWire) (hn:Enc.gd xs):Con Tryz.prog 73 [] [al xs,al ys] [] (B (decide (xs=ys))):=by
 have hn1:=hn.1
 have hlx:=X6 xs
 have hly:=X6 ys
 by_cases hl:xs.length=ys.length
 ·have hb:decide (((els xs).length:Int)≠((els ys).length:Int))=false:=by rw[hlx,hly,hl]; simp
  refine Con.of Tryz.func73 J Tryz.ntmps73 J (fun E => ?_)
  refine Wz [79,62,26,39] ?_;refine Xe (fun m st=>∃ k:Nat,k+m=xs.length∧(xs.take k=ys.take k)∧st=(⟨_,[(0,L xs),(1,L ys),(5,I k)],[]⟩:St)) (xs.length) ⟨_,⟨0,by omega,by simp,J⟩,Xv [] (by kernel_rfl)⟩ ?_
  rintro m_A _ ⟨k,hk_A,hp_A,rfl⟩
  refine Wz [23,12] ?_
  refine Q8 J (fun h => ?_) (fun h => ?_)
  ·have h3:k<xs.length:=by have:=Gqc h; omega
   have h4:k<ys.length:=by omega
   have hat:=X5 h3
   have hat2:=X5 h4
   have hc:=eq_Wire xs[k] ys[k] (hn.2 _ (Gqf h3))
   by_cases he:xs[k]=ys[k]
   ·rw[Gqb he] at hc
    refine Wz [45,103,54,54] ?_;refine DR.s (Qj J J (hc) J) J J ?_;refine Wz [87,57] ?_
    exact⟨xs.length-(k+1),by omega,_,⟨k+1,by omega,Yd h3 h4 hp_A he,J⟩,Xv [] (by kernel_rfl)⟩
   ·rw[Gqa he] at hc
    refine Wz [45,103,54,54] ?_;refine DR.s (Qj J J (hc) J) J J ?_;refine Wz [87,74] ?_
    exact Xi J J (Xt [] (by decide) J J (Xf (eq_ne h3 h4 he).symm))
  ·have h3:¬((k:Int)<(els xs).length):=Gqg h
   refine Wz [94] ?_
   exact Xi J J (Xt [] (by decide) J J (Xf (Yb (by omega) hl hp_A).symm))
 ·have hb:decide (((els xs).length:Int)≠((els ys).length:Int))=true:=by rw[hlx,hly]; simp; omega
  refine Con.of Tryz.func73 J Tryz.ntmps73 J (fun E => ?_)
  refine Wz [79,18] ?_
  exact Xi J J (Xt [] (by decide) J J (Xf (Yc hl).symm))
theorem eq_WireSS (xs ys:List (List TWire)) (hn:Enc.gd xs):Con Tryz.prog 70 [] [al xs,al ys] [] (B (decide (xs=ys))):=by
 have hn1:=hn.1
 have hlx:=X6 xs
 have hly:=X6 ys
 by_cases hl:xs.length=ys.length
 ·have hb:decide (((els xs).length:Int)≠((els ys).length:Int))=false:=by rw[hlx,hly,hl]; simp
  refine Con.of Tryz.func70 J Tryz.ntmps70 J (fun E => ?_)
  refine Wz [79,62,26,39] ?_;refine Xe (fun m st=>∃ k:Nat,k+m=xs.length∧(xs.take k=ys.take k)∧st=(⟨_,[(0,L xs),(1,L ys),(5,I k)],[]⟩:St)) (xs.length) ⟨_,⟨0,by omega,by simp,J⟩,Xv [] (by kernel_rfl)⟩ ?_
  rintro m_A _ ⟨k,hk_A,hp_A,rfl⟩
  refine Wz [23,12] ?_
  refine Q8 J (fun h => ?_) (fun h => ?_)
  ·have h3:k<xs.length:=by have:=Gqc h; omega
   have h4:k<ys.length:=by omega
   have hat:=X5 h3
   have hat2:=X5 h4
   have hc:=eq_WireS xs[k] ys[k] (hn.2 _ (Gqf h3))
   by_cases he:xs[k]=ys[k]
   ·rw[Gqb he] at hc
    refine Wz [45,103,93,34,93,34] ?_;refine DR.s (Qj J J (hc) J) J J ?_;refine Wz [87,57] ?_
    exact⟨xs.length-(k+1),by omega,_,⟨k+1,by omega,Yd h3 h4 hp_A he,J⟩,Xv [] (by kernel_rfl)⟩
   ·rw[Gqa he] at hc
    refine Wz [45,103,93,34,93,34] ?_;refine DR.s (Qj J J (hc) J) J J ?_;refine Wz [87,74] ?_
    exact Xi J J (Xt [] (by decide) J J (Xf (eq_ne h3 h4 he).symm))
  ·have h3:¬((k:Int)<(els xs).length):=Gqg h
   refine Wz [94] ?_
   exact Xi J J (Xt [] (by decide) J J (Xf (Yb (by omega) hl hp_A).symm))
 ·have hb:decide (((els xs).length:Int)≠((els ys).length:Int))=true:=by rw[hlx,hly]; simp; omega
  refine Con.of Tryz.func70 J Tryz.ntmps70 J (fun E => ?_)
  refine Wz [79,18] ?_
  exact Xi J J (Xt [] (by decide) J J (Xf (Yc hl).symm))
theorem eq_PaceSS (xs ys:List (List TPace)) (hn:Enc.gd xs):Con Tryz.prog 71 [] [al xs,al ys] [] (B (decide (xs=ys))):=by
 have hn1:=hn.1
 have hlx:=X6 xs
 have hly:=X6 ys
 by_cases hl:xs.length=ys.length
 ·have hb:decide (((els xs).length:Int)≠((els ys).length:Int))=false:=by rw[hlx,hly,hl]; simp
  refine Con.of Tryz.func71 J Tryz.ntmps71 J (fun E => ?_)
  refine Wz [79,62,26,39] ?_;refine Xe (fun m st=>∃ k:Nat,k+m=xs.length∧(xs.take k=ys.take k)∧st=(⟨_,[(0,L xs),(1,L ys),(5,I k)],[]⟩:St)) (xs.length) ⟨_,⟨0,by omega,by simp,J⟩,Xv [] (by kernel_rfl)⟩ ?_
  rintro m_A _ ⟨k,hk_A,hp_A,rfl⟩
  refine Wz [23,12] ?_
  refine Q8 J (fun h => ?_) (fun h => ?_)
  ·have h3:k<xs.length:=by have:=Gqc h; omega
   have h4:k<ys.length:=by omega
   have hat:=X5 h3
   have hat2:=X5 h4
   have hc:=eq_PaceS xs[k] ys[k] (hn.2 _ (Gqf h3))
   by_cases he:xs[k]=ys[k]
   ·rw[Gqb he] at hc
    refine Wz [45,103,93,34,93,34] ?_;refine DR.s (Qj J J (hc) J) J J ?_;refine Wz [87,57] ?_
    exact⟨xs.length-(k+1),by omega,_,⟨k+1,by omega,Yd h3 h4 hp_A he,J⟩,Xv [] (by kernel_rfl)⟩
   ·rw[Gqa he] at hc
    refine Wz [45,103,93,34,93,34] ?_;refine DR.s (Qj J J (hc) J) J J ?_;refine Wz [87,74] ?_
    exact Xi J J (Xt [] (by decide) J J (Xf (eq_ne h3 h4 he).symm))
  ·have h3:¬((k:Int)<(els xs).length):=Gqg h
   refine Wz [94] ?_
   exact Xi J J (Xt [] (by decide) J J (Xf (Yb (by omega) hl hp_A).symm))
 ·have hb:decide (((els xs).length:Int)≠((els ys).length:Int))=true:=by rw[hlx,hly]; simp; omega
  refine Con.of Tryz.func71 J Tryz.ntmps71 J (fun E => ?_)
  refine Wz [79,18] ?_
  exact Xi J J (Xt [] (by decide) J J (Xf (Yc hl).symm))
end
end Go.Proofs.YtoecjaohdnoenaaGreat
