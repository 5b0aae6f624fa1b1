/-
  Rules, data and contracts of functions: part 39 of the proof.
  Conditions: those that each theorem names.
-/
import Derived.ChangeKeysEq
import Derived.Test.YtpmacgnmlmmojaaGreatDoorDDRBRowk37
set_option linter.unusedSimpArgs false
set_option linter.unusedVariables false
set_option maxRecDepth 8000
set_option maxHeartbeats 8000000
namespace Go.Proofs.YtpmacgnmlmmojaaGreatDoor
section
open Go.RowKit

class TyInts (P:Program) (t:TypeId) (n:outParam Nat):Prop where
 u:P.underlying t=some (.struct (P.fieldsOf t))
 held:P.stoodInHeld t=false
 guard:P.eqGuardType P.depth t=false
 fs : ((P.fieldsOf t).toList.map fun f => (f.name == "_", f.offset, (match P.underlying f.type with | some (.int .i64) => true | _ => false), P.cellsOf f.type)) = (List.range n).map fun i => (false, i, true, 1)
section
variable {P:Program} {ops:Array Oper} {o:Oper} {st:St} {m n:Nat} {t t':TypeId} {y z:Operand} {ps qs:List Nat} {cs ds:List V1} {xs ys:List Int} {b:Bool}
end
instance:TyInts Tryz.prog 168 9:=⟨by kernel_rfl,by kernel_rfl,by kernel_rfl,by kernel_rfl⟩
end
section
open Go.RowKit
end
section
open Go.RowKit
end
section
open Go.RowKit

theorem split_len (l:List UInt8):(l.takeWhile zeroB).length+((l.dropWhile zeroB).takeWhile someB).length+((l.dropWhile zeroB).dropWhile someB).length=l.length:=by
 have h1:=congrArg List.length (List.takeWhile_append_dropWhile (p:=zeroB) (l:=l))
 have h2:=congrArg List.length (List.takeWhile_append_dropWhile (p:=someB) (l:=l.dropWhile zeroB))
 rw[Gqe] at h1 h2
 omega
theorem packZ_len:∀ (n:Nat) (l:List UInt8),l.length≤n→(packZ l).length≤13*l.length
 |0,l,h=>by
  have:l = []:=List.eq_nil_of_length_eq_zero (by omega)
  subst this
  rw[packZ_nil]
  simp
 |n+1,[],h=>by rw[packZ_nil]; simp
 |n+1,x::r,h=>by
  have h1:=packZ_ne x r
  have h2:=split_len (x::r)
  have h3:=Zd (((x::r).takeWhile zeroB).length:Nat)
  have h4:=Zd ((((x::r).dropWhile zeroB).takeWhile someB).length:Nat)
  have h5:=packZ_len n (((x::r).dropWhile zeroB).dropWhile someB) (by omega)
  rw[packZ]
  simp only[Gqe]
  omega
def deltaT (a b:ByteArray):ByteArray:=bs (encVar b.size)++bs (packZ (xorText a b).data.toList)
theorem Y4 (a b:ByteArray):(deltaT a b).size≤6+13*b.size:=by
 have h1:=Zd (b.size:Int)
 have h2:=packZ_len _ (xorText a b).data.toList (Gqf _)
 have h3:(xorText a b).data.toList.length=b.size:=by
  have:=Vv a b
  have h4:b.data.toList.length=b.size:=by simp
  show ((xorL a b).toArray).toList.length=b.size
  simp
  omega
 rw[deltaT,ByteArray.size_append]
 show ((encVar b.size).toArray).size+((packZ (xorText a b).data.toList).toArray).size≤_
 simp
 omega
theorem I_DeltaText (a b:ByteArray) (ha:a.size≤1048576) (hb:b.size≤1048576):Con Tryz.prog 48 [] [astr a,astr b] [] (S (deltaT a b)):=by
 have c1:=Xs b.size
 have c2:=I_XorText a b (by omega) (by omega)
 have hx:(xorText a b).size=b.size:=by
  have:=Vv a b
  have h4:b.data.toList.length=b.size:=by simp
  show ((xorL a b).toArray).size=b.size
  simp
  omega
 have c3:=I_PackZeros (xorText a b) (by omega)
 have hsz:=Y4 a b
 rw[deltaT,ByteArray.size_append] at hsz
 rw[deltaT]
 refine Con.of Tryz.func48 J Tryz.ntmps48 J (fun E => ?_)
 refine Wz [36,10,143] ?_;refine zx (Qj J J (c1) J) J ?_;refine Wz [144] ?_;refine zx (Qj J J (c2) J) J ?_;refine zx (Qj J J (c3) J) J ?_;refine Wz [210,19] ?_
 exact Gq J (Gr [] J J J)
theorem S_DeltaText (a b:ByteArray) (ha:a.size≤1048576) (hb:b.size≤1048576):Con Tryz.prog 232 [] [astr a,astr b] [] (S (deltaT a b)):=by
 have c1:=X8 b.size
 have c2:=S_XorText a b (by omega) (by omega)
 have hx:(xorText a b).size=b.size:=by
  have:=Vv a b
  have h4:b.data.toList.length=b.size:=by simp
  show ((xorL a b).toArray).size=b.size
  simp
  omega
 have c3:=S_PackZeros (xorText a b) (by omega)
 have hsz:=Y4 a b
 rw[deltaT,ByteArray.size_append] at hsz
 rw[deltaT]
 refine Con.of Tryz.func232 J Tryz.ntmps232 J (fun E => ?_)
 refine Wz [36,10,143] ?_;refine zx (Qj J J (c1) J) J ?_;refine Wz [144] ?_;refine zx (Qj J J (c2) J) J ?_;refine zx (Qj J J (c3) J) J ?_;refine Wz [210,19] ?_
 exact Gq J (Gr [] J J J)
end
section
open Go.RowKit

noncomputable def addOne (r:TReplay) (row:List Int) (last w:TWorld):TReplay :=
 ⟨r.Level,r.Players,r.Seed,r.Every,r.Rows ++ [row],if ((r.Rows.length:Int)+1)%r.Every=0 then r.Keys ++ [deltaT (worldBytes last) (worldBytes (stepW w row))] else r.Keys⟩
noncomputable def addTo (r:TReplay) (row:List Int):Option TWorld→Option TWorld→TReplay×Bool
 |some last,some w=>if replayOk (addOne r row last w)=true then (addOne r row last w,true) else (r,false)
 |_,_=>(r,false)
noncomputable def addRow (r:TReplay) (row:List Int):TReplay×Bool:=addTo r row (keyAt r ((r.Keys.length:Int)-1)) (seekM r r.Rows.length)
theorem addTo_n (r:TReplay) (row:List Int) (x:Option TWorld):addTo r row none x=(r,false):=rfl
theorem addTo_s (r:TReplay) (row:List Int) (x:Option TWorld):addTo r row x none=(r,false):=by cases x <;> rfl
theorem addTo_b (r:TReplay) (row:List Int) (last w:TWorld):addTo r row (some last) (some w)=if replayOk (addOne r row last w)=true then (addOne r row last w,true) else (r,false):=rfl
section
variable {r:TReplay} {row:List Int} {last w:TWorld}
theorem add_key (h:keyAt r ((r.Keys.length:Int)-1)=none):addRow r row=(r,false):=by
 unfold addRow
 rw[h]
 exact addTo_n _ _ _
theorem add_seek (h:seekM r r.Rows.length=none):addRow r row=(r,false):=by
 unfold addRow
 rw[h]
 exact addTo_s _ _ _
theorem add_bad (h:replayOk r=false):addRow r row=(r,false):=add_key (keyAt_bad (fun q=>by rw[q.1] at h; cases h))
theorem add_no (h1:keyAt r ((r.Keys.length:Int)-1)=some last) (h2:seekM r r.Rows.length=some w) (h:replayOk (addOne r row last w)=false):addRow r row=(r,false):=by
 unfold addRow
 rw[h1,h2,addTo_b]
 exact if_neg (by rw[h]; exact Gx0)
theorem add_yes (h1:keyAt r ((r.Keys.length:Int)-1)=some last) (h2:seekM r r.Rows.length=some w) (h:replayOk (addOne r row last w)=true):addRow r row=(addOne r row last w,true):=by
 unfold addRow
 rw[h1,h2,addTo_b]
 exact if_pos h
theorem add_not (h:∀ last w,replayOk (addOne r row last w)=false):addRow r row=(r,false):=by
 unfold addRow
 cases keyAt r ((r.Keys.length:Int)-1) with
 |none=>exact addTo_n _ _ _
 | some last =>
  cases seekM r r.Rows.length with
  |none=>exact addTo_s _ _ _
  |some w =>
   rw[addTo_b]
   exact if_neg (by rw[h]; exact Gx0)
theorem add_full (h:400≤r.Rows.length):addRow r row=(r,false):=add_not fun last w=>by
 rw[←Gx6]
 intro q
 unfold replayOk at q
 simp only[Gqg,decide_eq_true_eq] at q
 have:=q.1.1.2
 simp only[addOne,Gqe,List.length_singleton] at this
 omega
theorem add_row (h:rowOk row r.Players=false):addRow r row=(r,false):=add_not fun last w=>by
 rw[←Gx6]
 intro q
 unfold replayOk at q
 simp only[Gqg] at q
 have:=Gqk.1 q.1.2 row (by simp[addOne])
 simp only[addOne] at this
 rw[h] at this
 cases this
end
theorem add_gd {r:TReplay} {row:List Int} {last w:TWorld} (hg:Enc.gd r) (gr:Enc.gd row) (h1:r.Keys.length≤1048576) (h3:r.Rows.length≤1048576):Enc.gd (addOne r row last w):=by
 obtain⟨g_Level,g_Players,g_Seed,g_Every,g_Rows,g_Keys⟩:=hg
 refine⟨g_Level,g_Players,g_Seed,g_Every,⟨?_,fun x hx => ?_⟩,?_⟩
 ·simp only[addOne,Gqe,List.length_singleton]; omega
 ·rcases Gqm.1 hx with h | h
  ·exact g_Rows.2 x h
  ·rw[Gq7] at h; subst h; exact gr
 ·simp only[addOne]
  split
  ·refine⟨by rw[Gqe,List.length_singleton]; omega,fun x hx => ?_⟩
   rcases Gqm.1 hx with h | h
   ·exact g_Keys.2 x h
   ·rw[Gq7] at h
    subst h
    have h5:=Y4 (worldBytes last) (worldBytes (stepW w row))
    have h6:=Yx (stepW w row)
    show (deltaT _ _).size≤9223372036854775807
    omega
  ·exact g_Keys
theorem rows_tot:∀ {xs:List (List Int)},tot xs≤1048576→∀ x∈xs,x.length≤1048576
 | [],_,x,hx=>by cases hx
 |y::ys,h,x,hx=>by
  have h2:tot (y::ys)=y.length+tot ys:=by simp[tot]
  rcases List.mem_cons.1 hx with e | e
  ·subst e; omega
  ·exact rows_tot (xs:=ys) (by omega) x e
theorem rw_3 {a b c:Ob} {t:List Ob} {k:Nat} {x y:List (List T)} (h:x=y):a::b::c::Ob.row k x::t=a::b::c::Ob.row k y::t:=by rw[h]
theorem rw_4 {a b c d:Ob} {t:List Ob} {k:Nat} {x y:List (List T)} (h:x=y):a::b::c::d::Ob.row k x::t=a::b::c::d::Ob.row k y::t:=by rw[h]
theorem I_AddRow (r:TReplay) (row:List Int) (hg:Enc.gd r) (gr:Enc.gd row) (ir:RepIn r) (hrow:row.length≤1048576) (hks:∀ x∈r.Keys,x.size≤1048576):Con Tryz.prog 77 [] [ag r,al row] (ownO (Enc.e (addRow r row).1)) (.tu [.ag (ownV 0 (Enc.e (addRow r row).1)),.c (bv (addRow r row).2)]):=by
 have cr:=Xv r hg
 have hlr:=Y9 r.Rows
 have hlk:=Y9 r.Keys
 have hrt:=rows_tot ir.h4
 have cc:=I_copyReplay r hg ir.h1 ir.h2 ir.h3 hrt
 have crow:=I_rowOk row r.Players gr
 have hkl:=ir.h2
 have hrl:=ir.h3
 cases ho:replayOk r with
 |false =>
  rw[ho] at cr
  rw[add_bad ho]
  refine Con.of Tryz.func77 J Tryz.ntmps77 J (fun E => ?_)
  refine Wz [51,11,6] ?_;refine V6 (Kh J J (cc) J J J) J ?_;refine Wz [75,102] ?_;refine zx (Qj J J (cr) J) J ?_;refine Wz [16,20,9,20,56,15,6,152] ?_
  exact G4 J J (Gr [2,3,4] J J J)
 |true =>
 rw[ho] at cr
 by_cases hf:400≤r.Rows.length
 ·have f1:decide (((els r.Rows).length:Int)≥400)=true:=Gqb (by omega)
  rw[add_full hf]
  refine Con.of Tryz.func77 J Tryz.ntmps77 J (fun E => ?_)
  refine Wz [51,11,6] ?_;refine V6 (Kh J J (cc) J J J) J ?_;refine Wz [75,102] ?_;refine zx (Qj J J (cr) J) J ?_;refine Wz [16,27,21,3,132,7,20,56,15,6,152] ?_
  exact G4 J J (Gr [2,3,4] J J J)
 have f1:decide (((els r.Rows).length:Int)≥400)=false:=Gqa (by omega)
 cases hro:rowOk row r.Players with
 |false =>
  rw[hro] at crow
  rw[add_row hro]
  refine Con.of Tryz.func77 J Tryz.ntmps77 J (fun E => ?_)
  refine Wz [51,11,6] ?_;refine V6 (Kh J J (cc) J J J) J ?_;refine Wz [75,102] ?_;refine zx (Qj J J (cr) J) J ?_;refine Wz [16,27,21,3,132,7,8,59] ?_;refine zx (Qj J J (crow) J) J ?_;refine Wz [83,15,6,152] ?_
  exact G4 J J (Gr [2,3,4] J J J)
 |true =>
 rw[hro] at crow
 have ck:=I_KeyAt r (((els r.Keys).length:Int)-1) hg ⟨by omega,by omega⟩ ir hks
 have cse:=I_SeekReplay r ((els r.Rows).length:Int) hg ⟨by omega,by omega⟩ ir hks
 have ik:=keyAt_in (k:=((els r.Keys).length:Int)-1) ir
 have is_:=seek_in (t:=((els r.Rows).length:Int)) ir
 rw[hlk] at ik
 rw[hlr] at is_
 rw[show keyAt r (((els r.Keys).length:Int)-1)=keyAt r ((r.Keys.length:Int)-1) by rw[hlk]] at ck
 rw[show seekM r ((els r.Rows).length:Int)=seekM r (r.Rows.length:Int) by rw[hlr]] at cse
 have cci:=I_copyInts row hrow
 refine Con.of Tryz.func77 J Tryz.ntmps77 J (fun E => ?_)
 refine Wz [51,11,6] ?_;refine V6 (Kh J J (cc) J J J) J ?_;refine Wz [75,102] ?_;refine zx (Qj J J (cr) J) J ?_;refine Wz [16,27,21,3,132,7,8,59] ?_;refine zx (Qj J J (crow) J) J ?_;refine Wz [83,38,6,30,21,71] ?_;refine AL.weak (st':=(⟨_,[(1,L row),(2,.o (.c (.ptr 0 0))),(4,.o (.c (.ptr 1 0))),(6,.o (.c (.ptr 5 0))),(30,.o (.ag ((Enc.e r).map (V1.rd [])))),(34,I (((els r.Keys).length:Int)-1))],[.box ((Enc.e r).map (V1.rd [])),.box [nilV,jn 0,jn 0,jn 0,nilV,nilV],.row 1 (els r.Level.Rows),.row 1 (els r.Rows),.row 1 (els r.Keys),.box [.ref 2,jn r.Players,jn r.Seed,jn r.Every,.ref 3,.ref 4]]⟩:St)) (Gs [0,1,2,3,4,5]) ?_
 clear crow f1
 cases hk:keyAt r ((r.Keys.length:Int)-1) with
 |none =>
  rw[hk] at ck
  rw[add_key hk]
  refine V6 (Kh J J (ck) J J J) J ?_;refine Wz [117,15,6,152] ?_
  exact G4 J J (Gr [2,3,4] J J J)
 |some last =>
 rw[hk] at ck ik
 have wl:=I_WorldBytes last ik.gd
 refine V6 (Kh J J (ck) J J J) J ?_;refine Wz [117,38,6,30,21] ?_;refine AL.weak (st':=(⟨_,[(1,L row),(2,.o (.c (.ptr 0 0))),(4,.o (.c (.ptr 1 0))),(6,.o (.c (.ptr 5 0))),(7,.o (.c (.ptr 9 0))),(42,.o (.ag ((Enc.e r).map (V1.rd [])))),(45,I ((els r.Rows).length:Int))],[.box ((Enc.e r).map (V1.rd [])),.box [nilV,jn 0,jn 0,jn 0,nilV,nilV],.row 1 (els r.Level.Rows),.row 1 (els r.Rows),.row 1 (els r.Keys),.box [.ref 2,jn r.Players,jn r.Seed,jn r.Every,.ref 3,.ref 4],.row 1 (els last.Level.Rows),.row 1 (els last.Scores),.row 9 (els last.Bodies),.box [.ref 6,jn last.Tick,jn last.Seed,.ref 7,.ref 8]]⟩:St)) (Gs [0,1,2,3,4,5,6,7,8,9]) ?_
 clear ck
 cases hs:seekM r (r.Rows.length:Int) with
 |none =>
  rw[hs] at cse
  rw[add_seek hs]
  refine V6 (Kh J J (cse) J J J) J ?_;refine Wz [117,15,6,152] ?_
  exact G4 J J (Gr [2,3,4] J J J)
 |some w =>
 rw[hs] at cse is_
 have iw:WorIn w:=is_
 refine V6 (Kh J J (cse) J J J) J ?_;refine Wz [117,97,72] ?_
 refine AWP.pre (st':=(⟨_,[(1,L row),(2,.o (.c (.ptr 0 0))),(4,.o (.c (.ptr 1 0))),(6,.o (.c (.ptr 5 0))),(7,.o (.c (.ptr 9 0))),(9,.o (.c (.ptr 13 0)))],[.box ((Enc.e r).map (V1.rd [])),.box [nilV,jn 0,jn 0,jn 0,nilV,nilV],.row 1 (els r.Level.Rows),.row 1 (els r.Rows),.row 1 (els r.Keys),.box [.ref 2,jn r.Players,jn r.Seed,jn r.Every,.ref 3,.ref 4],.row 1 (els last.Level.Rows),.row 1 (els last.Scores),.row 9 (els last.Bodies),.box [.ref 6,jn last.Tick,jn last.Seed,.ref 7,.ref 8],.row 1 (els w.Level.Rows),.row 1 (els w.Scores),.row 9 (els w.Bodies),.box [.ref 10,jn w.Tick,jn w.Seed,.ref 11,.ref 12]]⟩:St)) ?_ (Gs [0,1,2,3,4,5,6,7,8,9,10,11,12,13])
 clear cse
 refine Xh [[],[0],[],[2],[2,3],(u9 5),(u9 6),(u9 7)] [[],[52],[],[54],[54,55],[52,53,54,55,56],[52,53,54,55,56,57],[52,53,54,55,56,57,58]] [[54,55,56],[54,55,56],[52,53],[52,53],[52,53],[],[],[]] J ?_;refine Wz [66,4] ?_;refine Vx (Kh J J (cci) J J J) J ?_;refine Wz [181,17] ?_;refine AL.weak (st':=(⟨_,[(1,L row),(2,.o (.c (.ptr 0 0))),(4,.o (.c (.ptr 1 0))),(6,.o (.c (.ptr 5 0))),(7,.o (.c (.ptr 9 0))),(9,.o (.c (.ptr 13 0))),(53,.o (.c (.ref 3))),(56,.o (.c (.sb 15 1 1)))],[.box ((Enc.e r).map (V1.rd [])),.box [nilV,jn 0,jn 0,jn 0,nilV,nilV],.row 1 (els r.Level.Rows),.row 1 (els r.Rows),.row 1 (els r.Keys),.box [.ref 2,jn r.Players,jn r.Seed,jn r.Every,.ref 3,.ref 4],.row 1 (els last.Level.Rows),.row 1 (els last.Scores),.row 9 (els last.Bodies),.box [.ref 6,jn last.Tick,jn last.Seed,.ref 7,.ref 8],.row 1 (els w.Level.Rows),.row 1 (els w.Scores),.row 9 (els w.Bodies),.box [.ref 10,jn w.Tick,jn w.Seed,.ref 11,.ref 12],.row 1 (els row),.box [.ref 14]]⟩:St)) (Gs [0,1,2,3,4,5,6,7,8,9,10,11,12,13,14,15]) ?_;refine Wz [108,103,39,14,98,30] ?_
 refine AL.weak (st':=(⟨_,[(1,L row),(2,.o (.c (.ptr 0 0))),(4,.o (.c (.ptr 1 0))),(6,.o (.c (.ptr 5 0))),(7,.o (.c (.ptr 9 0))),(9,.o (.c (.ptr 13 0))),(61,I ((r.Rows.length:Int)+1)),(63,I r.Every)],[.box ((Enc.e r).map (V1.rd [])),.box [nilV,jn 0,jn 0,jn 0,nilV,nilV],.row 1 (els r.Level.Rows),.row 1 (els (r.Rows ++ [row])),.row 1 (els r.Keys),.box [.ref 2,jn r.Players,jn r.Seed,jn r.Every,.ref 3,.ref 4],.row 1 (els last.Level.Rows),.row 1 (els last.Scores),.row 9 (els last.Bodies),.box [.ref 6,jn last.Tick,jn last.Seed,.ref 7,.ref 8],.row 1 (els w.Level.Rows),.row 1 (els w.Scores),.row 9 (els w.Bodies),.box [.ref 10,jn w.Tick,jn w.Seed,.ref 11,.ref 12]]⟩:St)) (Yg [0,1,2,3,4,5,6,7,8,9,10,11,12,13] (by decide) J ((by exact rw_3 (by rw[Y6]; rfl))) (.c J (.c J (.c J (.c J (.c J (.c J (.cons (Xz (by rw[Gqe,List.length_singleton]; omega)) (.c J (.nil)))))))))) ?_
 obtain⟨he1,he2⟩:=(rok ho).e
 have gdy:=add_gd (last:=last) (w:=w) hg gr hkl hrl
 by_cases hq:((r.Rows.length:Int)+1)%r.Every=0
 case neg =>
  have f3:decide (((r.Rows.length:Int)+1)%r.Every=0)=false:=Gqa hq
  have hy:addOne r row last w=⟨r.Level,r.Players,r.Seed,r.Every,r.Rows ++ [row],r.Keys⟩:=by rw[addOne,if_neg hq]
  rw[hy] at gdy
  have cy:=Xv _ gdy
  refine Wz [111,13,97,72,6] ?_;refine AL.weak (st':=(⟨_,[(1,L row),(2,.o (.c (.ptr 0 0))),(4,.o (.c (.ptr 1 0))),(6,.o (.c (.ptr 5 0))),(79,.o (.ag [.ref 2,jn r.Players,jn r.Seed,jn r.Every,.ref 3,.ref 4]))],[.box ((Enc.e r).map (V1.rd [])),.box [nilV,jn 0,jn 0,jn 0,nilV,nilV],.row 1 (els r.Level.Rows),.row 1 (els (r.Rows ++ [row])),.row 1 (els r.Keys),.box [.ref 2,jn r.Players,jn r.Seed,jn r.Every,.ref 3,.ref 4]]⟩:St)) (Gs [0,1,2,3,4,5]) ?_
  cases hok:replayOk (⟨r.Level,r.Players,r.Seed,r.Every,r.Rows ++ [row],r.Keys⟩:TReplay) with
  |true =>
   rw[hok] at cy
   rw[add_yes hk hs (by rw[hy]; exact hok),hy]
   refine zx (Qj J J (cy) J) J ?_;refine Wz [16,38,6,115] ?_
   exact G4 J J (Gr [2,3,4] J J J)
  |false =>
   rw[hok] at cy
   rw[add_no hk hs (by rw[hy]; exact hok)]
   refine zx (Qj J J (cy) J) J ?_;refine Wz [16,15,6] ?_;refine V6 (Kh J J (cc) J J J) J ?_;refine Wz [152] ?_
   exact G4 J J (Gr [6,7,8] J J J)
 have f3:decide (((r.Rows.length:Int)+1)%r.Every=0)=true:=Gqb hq
 have cst:=I_StepWorld w row iw.gd gr iw.h1 iw.h2 iw.h3
 have hlv:=Vh w row
 have hy:addOne r row last w=⟨r.Level,r.Players,r.Seed,r.Every,r.Rows ++ [row],r.Keys ++ [deltaT (worldBytes last) (worldBytes (stepW w row))]⟩:=by rw[addOne,if_pos hq]
 rw[hy] at gdy
 have cy:=Xv _ gdy
 have wz:=I_WorldBytes (stepW w row) (Vg iw.gd).1
 have hb1:=Yx last
 have hb2:=Yx (stepW w row)
 have cd:=I_DeltaText (worldBytes last) (worldBytes (stepW w row)) (by omega) (by omega)
 rw[←hlv] at cst
 generalize stepW w row=z at cst hy gdy cy wz cd hb2
 obtain⟨D,hD⟩:∃ D,D=deltaT (worldBytes last) (worldBytes z):=⟨_,rfl⟩
 rw[←hD] at hy gdy cy cd
 refine Wz [111,13,15,6,0] ?_;refine V6 (Kh J J (cst) J J J) J ?_;refine Wz [138] ?_
 refine AWP.pre (st':=(⟨_,[(1,L row),(2,.o (.c (.ptr 0 0))),(4,.o (.c (.ptr 1 0))),(6,.o (.c (.ptr 5 0))),(7,.o (.c (.ptr 9 0))),(9,.o (.c (.ptr 13 0)))],[.box ((Enc.e r).map (V1.rd [])),.box [nilV,jn 0,jn 0,jn 0,nilV,nilV],.row 1 (els r.Level.Rows),.row 1 (els (r.Rows ++ [row])),.row 1 (els r.Keys),.box [.ref 2,jn r.Players,jn r.Seed,jn r.Every,.ref 3,.ref 4],.row 1 (els last.Level.Rows),.row 1 (els last.Scores),.row 9 (els last.Bodies),.box [.ref 6,jn last.Tick,jn last.Seed,.ref 7,.ref 8],.row 1 (els z.Level.Rows),.row 1 (els z.Scores),.row 9 (els z.Bodies),.box [.ref 10,jn z.Tick,jn z.Seed,.ref 11,.ref 12]]⟩:St)) ?_ (Gs [0,1,2,3,4,5,6,7,8,9,14,15,16,13])
 refine Xh [[],[0],[],[2],[],[2,3,4],[2,3,4,5],[2,3,4,5,6],(u9 8),(u9 9),(u9 10)] [[],[69],[],[71],[],[71,72,73],[71,72,73,74],[71,72,73,74,75],[69,70,71,72,73,74,75,76],[69,70,71,72,73,74,75,76,77],[69,70,71,72,73,74,75,76,77,78]] [[71,72,73,74,75,76],[71,72,73,74,75,76],[69,70,73],[69,70,73],[69,70,71,72],[69,70],[69,70],[69,70],[],[],[]] J ?_;refine Wz [66,99] ?_;refine Vx (Qj J J (wl) J) J ?_;refine Vx (Qu J J J J J J) J ?_;refine Vx (Qj J J (wz) J) J ?_;refine Vx (Qj J J (cd) J) J ?_;refine Wz [181,17] ?_;refine AL.weak (st':=(⟨_,[(1,L row),(2,.o (.c (.ptr 0 0))),(4,.o (.c (.ptr 1 0))),(6,.o (.c (.ptr 5 0))),(70,.o (.c (.ref 4))),(76,.o (.c (.sb 6 1 1)))],[.box ((Enc.e r).map (V1.rd [])),.box [nilV,jn 0,jn 0,jn 0,nilV,nilV],.row 1 (els r.Level.Rows),.row 1 (els (r.Rows ++ [row])),.row 1 (els r.Keys),.box [.ref 2,jn r.Players,jn r.Seed,jn r.Every,.ref 3,.ref 4],.box [.rd [] (.v (.string D))]]⟩:St)) (Gs [0,1,2,3,4,5,14]) ?_;refine Wz [108,103,39,6] ?_
 refine AL.weak (st':=(⟨_,[(1,L row),(2,.o (.c (.ptr 0 0))),(4,.o (.c (.ptr 1 0))),(6,.o (.c (.ptr 5 0))),(79,.o (.ag [.ref 2,jn r.Players,jn r.Seed,jn r.Every,.ref 3,.ref 4]))],[.box ((Enc.e r).map (V1.rd [])),.box [nilV,jn 0,jn 0,jn 0,nilV,nilV],.row 1 (els r.Level.Rows),.row 1 (els (r.Rows ++ [row])),.row 1 (els (r.Keys ++ [D])),.box [.ref 2,jn r.Players,jn r.Seed,jn r.Every,.ref 3,.ref 4]]⟩:St)) (Yg [0,1,2,3,4,5] (by decide) J ((by exact rw_4 (by rw[Y6]; rfl))) (.c J (.c J (.c J (.c J (.c J (.nil))))))) ?_
 cases hok:replayOk (⟨r.Level,r.Players,r.Seed,r.Every,r.Rows ++ [row],(r.Keys ++ [D])⟩:TReplay) with
 |true =>
  rw[hok] at cy
  rw[add_yes hk hs (by rw[hy]; exact hok),hy]
  refine zx (Qj J J (cy) J) J ?_;refine Wz [16,38,6,115] ?_
  exact G4 J J (Gr [2,3,4] J J J)
 |false =>
  rw[hok] at cy
  rw[add_no hk hs (by rw[hy]; exact hok)]
  refine zx (Qj J J (cy) J) J ?_;refine Wz [16,15,6] ?_;refine V6 (Kh J J (cc) J J J) J ?_;refine Wz [152] ?_
  exact G4 J J (Gr [6,7,8] J J J)
end
section
open Go.RowKit

theorem S_AddRow (r:TReplay) (row:List Int) (hg:Enc.gd r) (gr:Enc.gd row) (ir:RepIn r) (hrow:row.length≤1048576) (hks:∀ x∈r.Keys,x.size≤1048576):Con Tryz.prog 207 [] [ag r,al row] (ownO (Enc.e (addRow r row).1)) (.tu [.ag (ownV 0 (Enc.e (addRow r row).1)),.c (bv (addRow r row).2)]):=by
 have hlr:=Y9 r.Rows
 have hlk:=Y9 r.Keys
 have hrt:=rows_tot ir.h4
 have cc:=S_copyReplayE r hg ir.h1 ir.h2 ir.h3 hrt
 have hkl:=ir.h2
 have hrl:=ir.h3
 have ck:=S_KeyAt r (((els r.Keys).length:Int)-1) hg ⟨by omega,by omega⟩ ir hks
 have cse:=S_SeekReplay r ((els r.Rows).length:Int) hg ⟨by omega,by omega⟩ ir hks
 have ik:=keyAt_in (k:=((els r.Keys).length:Int)-1) ir
 have is_:=seek_in (t:=((els r.Rows).length:Int)) ir
 rw[hlk] at ik
 rw[hlr] at is_
 rw[show keyAt r (((els r.Keys).length:Int)-1)=keyAt r ((r.Keys.length:Int)-1) by rw[hlk]] at ck
 rw[show seekM r ((els r.Rows).length:Int)=seekM r (r.Rows.length:Int) by rw[hlr]] at cse
 cases hs:seekM r (r.Rows.length:Int) with
 |none =>
  rw[hs] at cse
  rw[add_seek hs]
  generalize rwW (keyAt r ((r.Keys.length:Int)-1))=lw at ck
  generalize rwB (keyAt r ((r.Keys.length:Int)-1))=lb at ck
  refine Con.of Tryz.func207 J Tryz.ntmps207 J (fun E => ?_)
  refine Wz [51,11,6] ?_;refine V6 (Kh J J (cc) J J J) J ?_;refine Wz [75,14,21,11,6,0] ?_;refine V6 (Kh J J (cse) J J J) J ?_;refine Wz [228,11,6,30,21,71] ?_;refine V6 (Kh J J (ck) J J J) J ?_;refine Wz [117,91,9,15,6,152] ?_
  exact G4 J J (Gr [2,3,4] J J J)
 |some w =>
 rw[hs] at cse is_
 have iw:WorIn w:=is_
 refine Con.of Tryz.func207 J Tryz.ntmps207 J (fun E => ?_)
 refine Wz [51,11,6] ?_;refine V6 (Kh J J (cc) J J J) J ?_;refine Wz [75,14,21,11,6,0] ?_;refine V6 (Kh J J (cse) J J J) J ?_;refine Wz [228,11,6,30,21,71] ?_;refine AL.weak (st':=(⟨_,[(1,L row),(2,.o (.c (.ptr 0 0))),(4,.o (.c (.ptr 1 0))),(6,.o (.c (.ptr 5 0))),(7,I ((els r.Rows).length:Int)),(8,.o (.c (.ptr 9 0))),(9,B true),(24,.o (.ag ((Enc.e r).map (V1.rd [])))),(28,I (((els r.Keys).length:Int)-1))],[.box ((Enc.e r).map (V1.rd [])),.box [nilV,jn 0,jn 0,jn 0,nilV,nilV],.row 1 (els r.Level.Rows),.row 1 (els r.Rows),.row 1 (els r.Keys),.box [.ref 2,jn r.Players,jn r.Seed,jn r.Every,.ref 3,.ref 4],.row 1 (els w.Level.Rows),.row 1 (els w.Scores),.row 9 (els w.Bodies),.box [.ref 6,jn w.Tick,jn w.Seed,.ref 7,.ref 8]]⟩:St)) (Gs [0,1,2,3,4,5,6,7,8,9]) ?_
 clear cse
 cases hk:keyAt r ((r.Keys.length:Int)-1) with
 |none =>
  rw[hk] at ck
  rw[add_key hk]
  refine V6 (Kh J J (ck) J J J) J ?_;refine Wz [117,8,265,15,6,152] ?_
  exact G4 J J (Gr [2,3,4] J J J)
 |some last =>
 rw[hk] at ck ik
 have ho:replayOk r=true:=by
  cases h:replayOk r with
  |true=>rfl
  |false=>rw[keyAt_bad (fun q=>by rw[q.1] at h; cases h)] at hk; cases hk
 have wl:=Ya last ik.gd
 refine V6 (Kh J J (ck) J J J) J ?_;refine Wz [117,8,265,97,72] ?_
 refine AWP.pre (st':=(⟨_,[(1,L row),(2,.o (.c (.ptr 0 0))),(4,.o (.c (.ptr 1 0))),(6,.o (.c (.ptr 5 0))),(7,I ((els r.Rows).length:Int)),(8,.o (.c (.ptr 9 0))),(10,.o (.c (.ptr 13 0)))],[.box ((Enc.e r).map (V1.rd [])),.box [nilV,jn 0,jn 0,jn 0,nilV,nilV],.row 1 (els r.Level.Rows),.row 1 (els r.Rows),.row 1 (els r.Keys),.box [.ref 2,jn r.Players,jn r.Seed,jn r.Every,.ref 3,.ref 4],.row 1 (els w.Level.Rows),.row 1 (els w.Scores),.row 9 (els w.Bodies),.box [.ref 6,jn w.Tick,jn w.Seed,.ref 7,.ref 8],.row 1 (els last.Level.Rows),.row 1 (els last.Scores),.row 9 (els last.Bodies),.box [.ref 10,jn last.Tick,jn last.Seed,.ref 11,.ref 12]]⟩:St)) ?_ (Gs [0,1,2,3,4,5,6,7,8,9,10,11,12,13])
 clear ck
 have hlrow:=Y9 row
 by_cases hnil:els row = []
 ·have hrn:row = []:=by cases row with
   |nil=>rfl
   |cons a b=>simp[els] at hnil
  refine Xh u8_13 u8_53 u8_54 J ?_;refine Wz [66,263,4] ?_;refine Vx (q_appz1 J J J J hnil J J) J ?_;refine Wz [181,17] ?_;refine AL.weak (Wk.sbrow (q:=14) (es := []) J J (Gqq J)) ?_;refine Wz [108,60,25,35,30] ?_
  refine AL.weak (st':=(⟨_,[(1,L row),(2,.o (.c (.ptr 0 0))),(4,.o (.c (.ptr 1 0))),(6,.o (.c (.ptr 5 0))),(7,I ((els r.Rows).length:Int)),(8,.o (.c (.ptr 9 0))),(10,.o (.c (.ptr 13 0))),(48,I (((els r.Rows).length:Int)+1)),(50,I r.Every)],[.box ((Enc.e r).map (V1.rd [])),.box [nilV,jn 0,jn 0,jn 0,nilV,nilV],.row 1 (els r.Level.Rows),.row 1 (els (r.Rows ++ [row])),.row 1 (els r.Keys),.box [.ref 2,jn r.Players,jn r.Seed,jn r.Every,.ref 3,.ref 4],.row 1 (els w.Level.Rows),.row 1 (els w.Scores),.row 9 (els w.Bodies),.box [.ref 6,jn w.Tick,jn w.Seed,.ref 7,.ref 8],.row 1 (els last.Level.Rows),.row 1 (els last.Scores),.row 9 (els last.Bodies),.box [.ref 10,jn last.Tick,jn last.Seed,.ref 11,.ref 12]]⟩:St)) (by rw[hrn,Y6]; exact Gs [0,1,2,3,4,5,6,7,8,9,10,11,12,13]) ?_
  obtain⟨he1,he2⟩:=(rok ho).e
  have gdy:=add_gd (last:=last) (w:=w) hg gr hkl hrl
  have hln:((els r.Rows).length:Int)+1=(r.Rows.length:Int)+1:=by rw[hlr]
  by_cases hq:((r.Rows.length:Int)+1)%r.Every=0
  case neg =>
   have f3:decide ((((els r.Rows).length:Int)+1)%r.Every=0)=false:=Gqa (by rw[hln]; exact hq)
   have hy:addOne r row last w=⟨r.Level,r.Players,r.Seed,r.Every,r.Rows ++ [row],r.Keys⟩:=by rw[addOne,if_neg hq]
   rw[hy] at gdy
   have cy:=X9 _ gdy
   refine Wz [111,13,97,72,6] ?_;refine AL.weak (st':=(⟨_,[(1,L row),(2,.o (.c (.ptr 0 0))),(4,.o (.c (.ptr 1 0))),(6,.o (.c (.ptr 5 0))),(7,I ((els r.Rows).length:Int)),(65,.o (.ag [.ref 2,jn r.Players,jn r.Seed,jn r.Every,.ref 3,.ref 4]))],[.box ((Enc.e r).map (V1.rd [])),.box [nilV,jn 0,jn 0,jn 0,nilV,nilV],.row 1 (els r.Level.Rows),.row 1 (els (r.Rows ++ [row])),.row 1 (els r.Keys),.box [.ref 2,jn r.Players,jn r.Seed,jn r.Every,.ref 3,.ref 4]]⟩:St)) (Gs [0,1,2,3,4,5]) ?_
   cases hok:replayOk (⟨r.Level,r.Players,r.Seed,r.Every,r.Rows ++ [row],r.Keys⟩:TReplay) with
   |true =>
    rw[hok] at cy
    rw[add_yes hk hs (by rw[hy]; exact hok),hy]
    refine zx (Qj J J (cy) J) J ?_;refine Wz [16,38,6,115] ?_
    exact G4 J J (Gr [2,3,4] J J J)
   |false =>
    rw[hok] at cy
    rw[add_no hk hs (by rw[hy]; exact hok)]
    refine zx (Qj J J (cy) J) J ?_;refine Wz [16,15,6] ?_;refine V6 (Kh J J (cc) J J J) J ?_;refine Wz [152] ?_
    exact G4 J J (Gr [6,7,8] J J J)
  have f3:decide ((((els r.Rows).length:Int)+1)%r.Every=0)=true:=Gqb (by rw[hln]; exact hq)
  have cst:=S_StepWorld w row iw.gd gr iw.h1 iw.h2 iw.h3
  have hlv:=Vh w row
  have hy:addOne r row last w=⟨r.Level,r.Players,r.Seed,r.Every,r.Rows ++ [row],r.Keys ++ [deltaT (worldBytes last) (worldBytes (stepW w row))]⟩:=by rw[addOne,if_pos hq]
  rw[hy] at gdy
  have cy:=X9 _ gdy
  have wz:=Ya (stepW w row) (Vg iw.gd).1
  have hb1:=Yx last
  have hb2:=Yx (stepW w row)
  have cd:=S_DeltaText (worldBytes last) (worldBytes (stepW w row)) (by omega) (by omega)
  rw[←hlv] at cst
  generalize stepW w row=z at cst hy gdy cy wz cd hb2
  obtain⟨D,hD⟩:∃ D,D=deltaT (worldBytes last) (worldBytes z):=⟨_,rfl⟩
  rw[←hD] at hy gdy cy cd
  refine Wz [111,13,15] ?_
  refine AWP.pre (st':=(⟨_,[(1,L row),(2,.o (.c (.ptr 0 0))),(4,.o (.c (.ptr 1 0))),(6,.o (.c (.ptr 5 0))),(7,I ((els r.Rows).length:Int)),(8,.o (.c (.ptr 9 0))),(10,.o (.c (.ptr 13 0)))],[.box ((Enc.e r).map (V1.rd [])),.box [nilV,jn 0,jn 0,jn 0,nilV,nilV],.row 1 (els r.Level.Rows),.row 1 (els (r.Rows ++ [row])),.row 1 (els r.Keys),.box [.ref 2,jn r.Players,jn r.Seed,jn r.Every,.ref 3,.ref 4],.row 1 (els w.Level.Rows),.row 1 (els w.Scores),.row 9 (els w.Bodies),.box [.ref 6,jn w.Tick,jn w.Seed,.ref 7,.ref 8],.row 1 (els last.Level.Rows),.row 1 (els last.Scores),.row 9 (els last.Bodies),.box [.ref 10,jn last.Tick,jn last.Seed,.ref 11,.ref 12]]⟩:St)) ?_ (Gs [0,1,2,3,4,5,6,7,8,9,10,11,12,13])
  refine Xh u8_55 u8_56 u8_57 J ?_;refine Wz [66,99] ?_;refine Vx (Qj J J (wl) J) J ?_;refine Wz [99,4] ?_;refine Vx (Kh J J (cst) J J J) J ?_;refine Vx (Qj J J (wz) J) J ?_;refine Vx (Qj J J (cd) J) J ?_;refine Wz [181,17] ?_;refine AL.weak (st':=(⟨_,[(1,L row),(2,.o (.c (.ptr 0 0))),(4,.o (.c (.ptr 1 0))),(6,.o (.c (.ptr 5 0))),(7,I ((els r.Rows).length:Int)),(54,.o (.c (.ref 4))),(62,.o (.c (.sb 6 1 1)))],[.box ((Enc.e r).map (V1.rd [])),.box [nilV,jn 0,jn 0,jn 0,nilV,nilV],.row 1 (els r.Level.Rows),.row 1 (els (r.Rows ++ [row])),.row 1 (els r.Keys),.box [.ref 2,jn r.Players,jn r.Seed,jn r.Every,.ref 3,.ref 4],.box [.rd [] (.v (.string D))]]⟩:St)) (Gs [0,1,2,3,4,5,17]) ?_;refine Wz [108,103,39,6] ?_
  refine AL.weak (st':=(⟨_,[(1,L row),(2,.o (.c (.ptr 0 0))),(4,.o (.c (.ptr 1 0))),(6,.o (.c (.ptr 5 0))),(7,I ((els r.Rows).length:Int)),(65,.o (.ag [.ref 2,jn r.Players,jn r.Seed,jn r.Every,.ref 3,.ref 4]))],[.box ((Enc.e r).map (V1.rd [])),.box [nilV,jn 0,jn 0,jn 0,nilV,nilV],.row 1 (els r.Level.Rows),.row 1 (els (r.Rows ++ [row])),.row 1 (els (r.Keys ++ [D])),.box [.ref 2,jn r.Players,jn r.Seed,jn r.Every,.ref 3,.ref 4]]⟩:St)) (Yg [0,1,2,3,4,5] (by decide) J ((by exact rw_4 (by rw[Y6]; rfl))) (.c J (.c J (.c J (.c J (.c J (.c J (.nil)))))))) ?_
  cases hok:replayOk (⟨r.Level,r.Players,r.Seed,r.Every,r.Rows ++ [row],(r.Keys ++ [D])⟩:TReplay) with
  |true =>
   rw[hok] at cy
   rw[add_yes hk hs (by rw[hy]; exact hok),hy]
   refine zx (Qj J J (cy) J) J ?_;refine Wz [16,38,6,115] ?_
   exact G4 J J (Gr [2,3,4] J J J)
  |false =>
   rw[hok] at cy
   rw[add_no hk hs (by rw[hy]; exact hok)]
   refine zx (Qj J J (cy) J) J ?_;refine Wz [16,15,6] ?_;refine V6 (Kh J J (cc) J J J) J ?_;refine Wz [152] ?_
   exact G4 J J (Gr [6,7,8] J J J)
 ·have hpos:0<(els row).length:=by
   rcases Nat.eq_zero_or_pos (els row).length with h | h
   ·exact absurd (List.eq_nil_of_length_eq_zero h) hnil
   ·exact h
  refine Xh u8_13 u8_53 u8_54 J ?_;refine Wz [66,263,4] ?_;refine Vx (q_appz J J J J J J (Za _) (els_k _) hpos (by omega) (by omega)) J ?_;refine Wz [181,17,108,60,25,35,30] ?_
  refine AL.weak (st':=(⟨_,[(1,L row),(2,.o (.c (.ptr 0 0))),(4,.o (.c (.ptr 1 0))),(6,.o (.c (.ptr 5 0))),(7,I ((els r.Rows).length:Int)),(8,.o (.c (.ptr 9 0))),(10,.o (.c (.ptr 13 0))),(48,I (((els r.Rows).length:Int)+1)),(50,I r.Every)],[.box ((Enc.e r).map (V1.rd [])),.box [nilV,jn 0,jn 0,jn 0,nilV,nilV],.row 1 (els r.Level.Rows),.row 1 (els (r.Rows ++ [row])),.row 1 (els r.Keys),.box [.ref 2,jn r.Players,jn r.Seed,jn r.Every,.ref 3,.ref 4],.row 1 (els w.Level.Rows),.row 1 (els w.Scores),.row 9 (els w.Bodies),.box [.ref 6,jn w.Tick,jn w.Seed,.ref 7,.ref 8],.row 1 (els last.Level.Rows),.row 1 (els last.Scores),.row 9 (els last.Bodies),.box [.ref 10,jn last.Tick,jn last.Seed,.ref 11,.ref 12]]⟩:St)) (by rw[Y6]; exact Gs [0,1,2,3,4,5,6,7,8,9,10,11,12,13]) ?_
  obtain⟨he1,he2⟩:=(rok ho).e
  have gdy:=add_gd (last:=last) (w:=w) hg gr hkl hrl
  have hln:((els r.Rows).length:Int)+1=(r.Rows.length:Int)+1:=by rw[hlr]
  by_cases hq:((r.Rows.length:Int)+1)%r.Every=0
  case neg =>
   have f3:decide ((((els r.Rows).length:Int)+1)%r.Every=0)=false:=Gqa (by rw[hln]; exact hq)
   have hy:addOne r row last w=⟨r.Level,r.Players,r.Seed,r.Every,r.Rows ++ [row],r.Keys⟩:=by rw[addOne,if_neg hq]
   rw[hy] at gdy
   have cy:=X9 _ gdy
   refine Wz [111,13,97,72,6] ?_;refine AL.weak (st':=(⟨_,[(1,L row),(2,.o (.c (.ptr 0 0))),(4,.o (.c (.ptr 1 0))),(6,.o (.c (.ptr 5 0))),(7,I ((els r.Rows).length:Int)),(65,.o (.ag [.ref 2,jn r.Players,jn r.Seed,jn r.Every,.ref 3,.ref 4]))],[.box ((Enc.e r).map (V1.rd [])),.box [nilV,jn 0,jn 0,jn 0,nilV,nilV],.row 1 (els r.Level.Rows),.row 1 (els (r.Rows ++ [row])),.row 1 (els r.Keys),.box [.ref 2,jn r.Players,jn r.Seed,jn r.Every,.ref 3,.ref 4]]⟩:St)) (Gs [0,1,2,3,4,5]) ?_
   cases hok:replayOk (⟨r.Level,r.Players,r.Seed,r.Every,r.Rows ++ [row],r.Keys⟩:TReplay) with
   |true =>
    rw[hok] at cy
    rw[add_yes hk hs (by rw[hy]; exact hok),hy]
    refine zx (Qj J J (cy) J) J ?_;refine Wz [16,38,6,115] ?_
    exact G4 J J (Gr [2,3,4] J J J)
   |false =>
    rw[hok] at cy
    rw[add_no hk hs (by rw[hy]; exact hok)]
    refine zx (Qj J J (cy) J) J ?_;refine Wz [16,15,6] ?_;refine V6 (Kh J J (cc) J J J) J ?_;refine Wz [152] ?_
    exact G4 J J (Gr [6,7,8] J J J)
  have f3:decide ((((els r.Rows).length:Int)+1)%r.Every=0)=true:=Gqb (by rw[hln]; exact hq)
  have cst:=S_StepWorld w row iw.gd gr iw.h1 iw.h2 iw.h3
  have hlv:=Vh w row
  have hy:addOne r row last w=⟨r.Level,r.Players,r.Seed,r.Every,r.Rows ++ [row],r.Keys ++ [deltaT (worldBytes last) (worldBytes (stepW w row))]⟩:=by rw[addOne,if_pos hq]
  rw[hy] at gdy
  have cy:=X9 _ gdy
  have wz:=Ya (stepW w row) (Vg iw.gd).1
  have hb1:=Yx last
  have hb2:=Yx (stepW w row)
  have cd:=S_DeltaText (worldBytes last) (worldBytes (stepW w row)) (by omega) (by omega)
  rw[←hlv] at cst
  generalize stepW w row=z at cst hy gdy cy wz cd hb2
  obtain⟨D,hD⟩:∃ D,D=deltaT (worldBytes last) (worldBytes z):=⟨_,rfl⟩
  rw[←hD] at hy gdy cy cd
  refine Wz [111,13,15] ?_
  refine AWP.pre (st':=(⟨_,[(1,L row),(2,.o (.c (.ptr 0 0))),(4,.o (.c (.ptr 1 0))),(6,.o (.c (.ptr 5 0))),(7,I ((els r.Rows).length:Int)),(8,.o (.c (.ptr 9 0))),(10,.o (.c (.ptr 13 0)))],[.box ((Enc.e r).map (V1.rd [])),.box [nilV,jn 0,jn 0,jn 0,nilV,nilV],.row 1 (els r.Level.Rows),.row 1 (els (r.Rows ++ [row])),.row 1 (els r.Keys),.box [.ref 2,jn r.Players,jn r.Seed,jn r.Every,.ref 3,.ref 4],.row 1 (els w.Level.Rows),.row 1 (els w.Scores),.row 9 (els w.Bodies),.box [.ref 6,jn w.Tick,jn w.Seed,.ref 7,.ref 8],.row 1 (els last.Level.Rows),.row 1 (els last.Scores),.row 9 (els last.Bodies),.box [.ref 10,jn last.Tick,jn last.Seed,.ref 11,.ref 12]]⟩:St)) ?_ (Gs [0,1,2,3,4,5,6,7,8,9,10,11,12,13])
  refine Xh u8_55 u8_56 u8_57 J ?_;refine Wz [66,99] ?_;refine Vx (Qj J J (wl) J) J ?_;refine Wz [99,4] ?_;refine Vx (Kh J J (cst) J J J) J ?_;refine Vx (Qj J J (wz) J) J ?_;refine Vx (Qj J J (cd) J) J ?_;refine Wz [181,17] ?_;refine AL.weak (st':=(⟨_,[(1,L row),(2,.o (.c (.ptr 0 0))),(4,.o (.c (.ptr 1 0))),(6,.o (.c (.ptr 5 0))),(7,I ((els r.Rows).length:Int)),(54,.o (.c (.ref 4))),(62,.o (.c (.sb 6 1 1)))],[.box ((Enc.e r).map (V1.rd [])),.box [nilV,jn 0,jn 0,jn 0,nilV,nilV],.row 1 (els r.Level.Rows),.row 1 (els (r.Rows ++ [row])),.row 1 (els r.Keys),.box [.ref 2,jn r.Players,jn r.Seed,jn r.Every,.ref 3,.ref 4],.box [.rd [] (.v (.string D))]]⟩:St)) (Gs [0,1,2,3,4,5,17]) ?_;refine Wz [108,103,39,6] ?_
  refine AL.weak (st':=(⟨_,[(1,L row),(2,.o (.c (.ptr 0 0))),(4,.o (.c (.ptr 1 0))),(6,.o (.c (.ptr 5 0))),(7,I ((els r.Rows).length:Int)),(65,.o (.ag [.ref 2,jn r.Players,jn r.Seed,jn r.Every,.ref 3,.ref 4]))],[.box ((Enc.e r).map (V1.rd [])),.box [nilV,jn 0,jn 0,jn 0,nilV,nilV],.row 1 (els r.Level.Rows),.row 1 (els (r.Rows ++ [row])),.row 1 (els (r.Keys ++ [D])),.box [.ref 2,jn r.Players,jn r.Seed,jn r.Every,.ref 3,.ref 4]]⟩:St)) (Yg [0,1,2,3,4,5] (by decide) J ((by exact rw_4 (by rw[Y6]; rfl))) (.c J (.c J (.c J (.c J (.c J (.c J (.nil)))))))) ?_
  cases hok:replayOk (⟨r.Level,r.Players,r.Seed,r.Every,r.Rows ++ [row],(r.Keys ++ [D])⟩:TReplay) with
  |true =>
   rw[hok] at cy
   rw[add_yes hk hs (by rw[hy]; exact hok),hy]
   refine zx (Qj J J (cy) J) J ?_;refine Wz [16,38,6,115] ?_
   exact G4 J J (Gr [2,3,4] J J J)
  |false =>
   rw[hok] at cy
   rw[add_no hk hs (by rw[hy]; exact hok)]
   refine zx (Qj J J (cy) J) J ?_;refine Wz [16,15,6] ?_;refine V6 (Kh J J (cc) J J J) J ?_;refine Wz [152] ?_
   exact G4 J J (Gr [6,7,8] J J J)
end
section
open Go.RowKit

theorem tot_le4:∀ (xs:List (List Int)),(∀ x∈xs,x.length≤4)→tot xs≤4*xs.length
 | [],_=>by simp[tot]
 |y::ys,h=>by
  have h1:=tot_le4 ys fun x hx=>h x (by simp[hx])
  have h2:tot (y::ys)=y.length+tot ys:=by simp[tot]
  have h3:=h y (by simp)
  simp only[Gqt]
  omega
theorem ok_in {y:TReplay} (gy:Enc.gd y) (h1:y.Level.Rows.length≤1048576) (h:replayOk y=true):RepIn y:=by
 have hr:=rok h
 unfold replayOk at h
 simp only[Gqg,decide_eq_true_eq,Zn] at h
 obtain⟨⟨⟨⟨⟨⟨_,h2⟩,_⟩,_⟩,h5⟩,h6⟩,_⟩:=h
 have h7:=tot_le4 y.Rows fun x hx=>by
  have h8:=Gqk.1 h6 x hx
  rw[rowOk,Gqg,decide_eq_true_eq] at h8
  omega
 exact⟨gy,h1,Gq8 hr.k (by decide),Gq8 h5 (by decide),by omega⟩
def KeysIn (y:TReplay):Prop:=∀ s∈y.Keys,s.size≤1048576
theorem add_both {x:TReplay} {row:List Int} (ix:RepIn x) (gr:Enc.gd row) (hk:KeysIn x):RepIn (addRow x row).1∧KeysIn (addRow x row).1:=by
 have hbad:∀ p:TReplay×Bool,p=(x,false)→RepIn p.1∧KeysIn p.1:=fun p hp=>by rw[hp]; exact⟨ix,hk⟩
 cases h1:keyAt x ((x.Keys.length:Int)-1) with
 |none=>exact hbad _ (add_key h1)
 | some last =>
  cases hs:seekM x x.Rows.length with
  |none=>exact hbad _ (add_seek hs)
  | some w =>
   cases ho:replayOk (addOne x row last w) with
   |false=>exact hbad _ (add_no h1 hs ho)
   | true =>
    rw[add_yes h1 hs ho]
    refine⟨ok_in (add_gd ix.gd gr ix.h2 ix.h3) ix.h1 ho,fun s hm => ?_⟩
    simp only[addOne] at hm
    split at hm
    ·rcases Gqm.1 hm with h | h
     ·exact hk s h
     ·rw[Gq7] at h
      subst h
      have h5:=Y4 (worldBytes last) (worldBytes (stepW w row))
      have h6:=Yx (stepW w row)
      omega
    ·exact hk s hm
noncomputable def addsG (r:TReplay) (rows:List (List Int)):Nat→Option TReplay
 |0=>some r
 | k+1=>match addsG r rows k with
  |none=>none
  |some x=>match rows[k]? with
   |none=>some x
   |some row=>if (addRow x row).2=true then some (addRow x row).1 else none
theorem adds_go {r x:TReplay} {rows:List (List Int)} {row:List Int} {k:Nat} (h:addsG r rows k=some x) (hr:rows[k]? = some row) (hb:(addRow x row).2=true):addsG r rows (k+1)=some (addRow x row).1:=by
 rw[addsG,h]
 simp only[hr]
 exact if_pos hb
theorem adds_no {r x:TReplay} {rows:List (List Int)} {row:List Int} {k:Nat} (h:addsG r rows k=some x) (hr:rows[k]? = some row) (hb:(addRow x row).2=false):∀ {n:Nat},k<n→addsG r rows n=none
 | n+1,hlt=>by
  rcases Gqp k n with h1 | h1
  ·rw[addsG,adds_no h hr hb h1]
  ·have:k=n:=by omega
   subst this
   rw[addsG,h]
   simp only[hr]
   exact if_neg (by rw[hb]; exact Gx0)
noncomputable def addsM (r:TReplay) (rows:List (List Int)):TReplay×Bool:=match addsG r rows rows.length with
 |none=>(r,false)
 |some x=>(x,true)
theorem adds_F {r:TReplay} {rows:List (List Int)} (h:addsG r rows rows.length=none):addsM r rows=(r,false):=by rw[addsM,h]
theorem adds_T {r x:TReplay} {rows:List (List Int)} (h:addsG r rows rows.length=some x):addsM r rows=(x,true):=by rw[addsM,h]
theorem I_AddRows (r:TReplay) (rows:List (List Int)) (gr:Enc.gd rows) (ir:RepIn r) (hw:∀ row∈rows,row.length≤1048576) (hks:KeysIn r):Con Tryz.prog 24 [] [ag r,al rows] (ownO (Enc.e (addsM r rows).1)) (.tu [.ag (ownV 0 (Enc.e (addsM r rows).1)),.c (bv (addsM r rows).2)]):=by
 have cc:=I_copyReplay r ir.gd ir.h1 ir.h2 ir.h3 (rows_tot ir.h4)
 have hlr:=Y9 rows
 have hlg:=gr.1
 refine Con.of Tryz.func24 J Tryz.ntmps24 J (fun E => ?_)
 refine Wz [51,11,6] ?_;refine V6 (Kh J J (cc) J J J) J ?_;refine Wz [75,25,21,131,33] ?_
 refine AWP.pre (st':=(⟨_,[(1,L rows),(2,.o (.c (.ptr 0 0))),(4,.o (.c (.ptr 1 0))),(6,.o (.c (.ptr 2 0))),(13,L rows),(14,I (els rows).length),(15,I 0)],[.box ((Enc.e r).map (V1.rd [])),.box [nilV,jn 0,jn 0,jn 0,nilV,nilV],.box [.ref 3,jn r.Players,jn r.Seed,jn r.Every,.ref 4,.ref 5],.row 1 (els r.Level.Rows),.row 1 (els r.Rows),.row 1 (els r.Keys)]⟩:St)) ?_ (Gs [0,1,5,2,3,4])
 refine Xi (fun m st=>∃ (k:Nat) (x:TReplay),k+m=rows.length∧(addsG r rows k=some x∧RepIn x∧KeysIn x)∧st=(⟨_,[(1,L rows),(2,.o (.c (.ptr 0 0))),(4,.o (.c (.ptr 1 0))),(6,.o (.c (.ptr 2 0))),(13,L rows),(14,I (els rows).length),(15,I k)],[.box ((Enc.e r).map (V1.rd [])),.box [nilV,jn 0,jn 0,jn 0,nilV,nilV],.box [.ref 3,jn x.Players,jn x.Seed,jn x.Every,.ref 4,.ref 5],.row 1 (els x.Level.Rows),.row 1 (els x.Rows),.row 1 (els x.Keys)]⟩:St)) (rows.length) ⟨_,⟨0,r,by omega,⟨J,ir,hks⟩,J⟩,Gs [0,1,2,3,4,5]⟩ ?_
 rintro m_A _ ⟨k,x,hk_A,hp_A,rfl⟩
 obtain⟨hx,ix,kx⟩:=hp_A
 by_cases hlt:k<rows.length
 ·have hb0:decide ((k:Int)<(els rows).length)=true:=Gqb (by omega)
  obtain⟨row,hr⟩:=Vf hlt
  have hm:=Gqu hr
  have her:=Zb hr
  have ca:=I_AddRow x row ix.gd (gr.2 row hm) ix (hw row hm) kx
  have hin:=add_both ix (gr.2 row hm) kx
  cases hb:(addRow x row).2 with
  |false =>
   rw[hb] at ca
   rw[adds_F (adds_no hx hr hb hlt)]
   generalize (addRow x row).1=z at ca
   refine Wz [1,5,39,65,26,1,49,11,6,0] ?_;refine V6 (Kh J J (ca) J J J) J ?_;refine Wz [117,15,6] ?_;refine V6 (Kh J J (cc) J J J) J ?_;refine Wz [170,85,53] ?_
   exact G4 J J (Gr [10,11,12] J J J)
  |true =>
   have hgo:=adds_go hx hr hb
   rw[hb] at ca
   generalize (addRow x row).1=z at ca hin hgo
   refine Wz [1,5,39,65,26,1,49,11,6,0] ?_;refine V6 (Kh J J (ca) J J J) J ?_;refine Wz [117,38,128,48,170,74,64] ?_
   exact⟨rows.length-(k+1),by omega,_,⟨k+1,z,by omega,⟨hgo,hin.1,hin.2⟩,J⟩,Gs [0,1,2,6,7,8]⟩
 ·have hb0:decide ((k:Int)<(els rows).length)=false:=Gqa (by omega)
  have hk:k=rows.length:=by omega
  rw[hk] at hx
  rw[adds_T hx]
  refine Wz [1,5,39,175,40,6,115] ?_
  exact G4 J J (Gr [3,4,5] J J J)
theorem S_AddRows (r:TReplay) (rows:List (List Int)) (gr:Enc.gd rows) (ir:RepIn r) (hw:∀ row∈rows,row.length≤1048576) (hks:KeysIn r):Con Tryz.prog 145 [] [ag r,al rows] (ownO (Enc.e (addsM r rows).1)) (.tu [.ag (ownV 0 (Enc.e (addsM r rows).1)),.c (bv (addsM r rows).2)]):=by
 have cc:=S_copyReplayE r ir.gd ir.h1 ir.h2 ir.h3 (rows_tot ir.h4)
 have hlr:=Y9 rows
 have hlg:=gr.1
 refine Con.of Tryz.func145 J Tryz.ntmps145 J (fun E => ?_)
 refine Wz [51,11,6] ?_;refine V6 (Kh J J (cc) J J J) J ?_;refine Wz [75,12,63] ?_
 refine AWP.pre (st':=(⟨_,[(1,L rows),(2,.o (.c (.ptr 0 0))),(4,.o (.c (.ptr 1 0))),(6,.o (.c (.ptr 2 0))),(7,I 0)],[.box ((Enc.e r).map (V1.rd [])),.box [nilV,jn 0,jn 0,jn 0,nilV,nilV],.box [.ref 3,jn r.Players,jn r.Seed,jn r.Every,.ref 4,.ref 5],.row 1 (els r.Level.Rows),.row 1 (els r.Rows),.row 1 (els r.Keys)]⟩:St)) ?_ (Gs [0,1,5,2,3,4])
 refine Xi (fun m st=>∃ (k:Nat) (x:TReplay),k+m=rows.length∧(addsG r rows k=some x∧RepIn x∧KeysIn x)∧st=(⟨_,[(1,L rows),(2,.o (.c (.ptr 0 0))),(4,.o (.c (.ptr 1 0))),(6,.o (.c (.ptr 2 0))),(7,I k)],[.box ((Enc.e r).map (V1.rd [])),.box [nilV,jn 0,jn 0,jn 0,nilV,nilV],.box [.ref 3,jn x.Players,jn x.Seed,jn x.Every,.ref 4,.ref 5],.row 1 (els x.Level.Rows),.row 1 (els x.Rows),.row 1 (els x.Keys)]⟩:St)) (rows.length) ⟨_,⟨0,r,by omega,⟨J,ir,hks⟩,J⟩,Gs [0,1,2,3,4,5]⟩ ?_
 rintro m_A _ ⟨k,x,hk_A,hp_A,rfl⟩
 obtain⟨hx,ix,kx⟩:=hp_A
 by_cases hlt:k<rows.length
 ·have hb0:decide ((k:Int)<(els rows).length)=true:=Gqb (by omega)
  obtain⟨row,hr⟩:=Vf hlt
  have hm:=Gqu hr
  have her:=Zb hr
  have ca:=S_AddRow x row ix.gd (gr.2 row hm) ix (hw row hm) kx
  have hin:=add_both ix (gr.2 row hm) kx
  cases hb:(addRow x row).2 with
  |false =>
   rw[hb] at ca
   rw[adds_F (adds_no hx hr hb hlt)]
   generalize (addRow x row).1=z at ca
   refine Wz [24,21,57,26,12] ?_;refine Xh u8_58 u8_59 u8_60 J ?_;refine Wz [99,29,121] ?_;refine Vx (Kh J J (ca) J J J) J ?_;refine Wz [185,122,122,184,17,170,130,15,6] ?_;refine V6 (Kh J J (cc) J J J) J ?_;refine Wz [170,85,53] ?_
   exact G4 J J (Gr [10,11,12] J J J)
  |true =>
   have hgo:=adds_go hx hr hb
   rw[hb] at ca
   generalize (addRow x row).1=z at ca hin hgo
   refine Wz [24,21,57,26,12] ?_;refine Xh u8_58 u8_59 u8_60 J ?_;refine Wz [99,29,121] ?_;refine Vx (Kh J J (ca) J J J) J ?_;refine Wz [185,122,122,184,17,170,130,38,128,48,170,74,43] ?_
   exact⟨rows.length-(k+1),by omega,_,⟨k+1,z,by omega,⟨hgo,hin.1,hin.2⟩,J⟩,Gs [0,1,2,6,7,8]⟩
 ·have hb0:decide ((k:Int)<(els rows).length)=false:=Gqa (by omega)
  have hk:k=rows.length:=by omega
  rw[hk] at hx
  rw[adds_T hx]
  refine Wz [24,21,5,61,6,115] ?_
  exact G4 J J (Gr [3,4,5] J J J)
end
end Go.Proofs.YtpmacgnmlmmojaaGreatDoor
