/-
  How the laws count, copy, compare and mark slices of faults. No statement of the program is proved here.
  Conditions: lists of at most 2^20 elements.
-/
import Derived.Test.YtoecjaohdnoenaaGreatDDNewMRowk26
import Derived.Test.YtoecjaohdnoenaaGreatDDNewMRowk27
set_option linter.unusedVariables false
set_option linter.unusedSimpArgs false
set_option maxRecDepth 8000
set_option maxHeartbeats 8000000
namespace Go.Proofs.YtoecjaohdnoenaaGreat
section
open Go.RowKit

theorem wts_fault:∀ xs:List TFault,wts xs=0
 | []=>rfl
 |x::xs=>by simp[wts,wts_fault xs,Enc.wt]
theorem sz_FaultS (xs:List TFault) (left:Int) (hg:Enc.gd xs) (h0:0≤left) (h1:left≤1048576):Con Tryz.prog 11 [] [al xs,ai left] [] (I (szr (Enc.wt xs) left)):=by
 have hlen:=X6 xs
 have hx:=hg.1
 have hw:Enc.wt xs=xs.length:=by simp[Enc.wt,wts_fault]
 refine Con.of Tryz.func11 J Tryz.ntmps11 J (fun E => ?_)
 refine Wz [33,10,21,97,98,12] ?_
 refine Q8 J (fun h => ?_) (fun h => ?_)
 ·refine Wz [35] ?_
  have h2:=Gqc (p:=_) (by simpa using h)
  exact Xi J J (Xt [] (by decide) J J (Xl (by rw[Z5 (by omega)])))
 ·refine Wz [11,4,3] ?_
  refine Wz [116,117] ?_
  have h2:=Gqg h
  exact Xi J J (Xt [] (by decide) J J (Xl (by rw[Z6 (by omega)]; omega)))
def zFault:List T := [.v (.int .i64 0),.v (.int .i64 0),.v (.int .i64 0)]
theorem to_FaultS (xs:List TFault) (hg:Enc.wt xs≤1048576):Con Tryz.prog 16 [] [al xs] [.row 3 (els xs)] (.o (.c (.ref 0))):=by
 have hlen:=X6 xs
 have hw:Enc.wt xs=xs.length+wts xs:=rfl
 have hw2:=wts_fault xs
 refine Con.of Tryz.func16 J Tryz.ntmps16 J (fun E => ?_)
 refine Wz [33,4,21,220,3,39] ?_;refine Xe (fun m st=>∃ k:Nat,k+m=xs.length∧(True)∧st=(⟨_,[(0,L xs),(3,.o (.c (.ref 0))),(4,I k)],[.row 3 (part xs zFault k)]⟩:St)) (xs.length) ⟨(fun k:Nat=>(⟨_,[(0,L xs),(3,.o (.c (.ref 0))),(4,I k)],[.row 3 (part xs zFault k)]⟩:St)) 0,⟨0,by omega,trivial,J⟩,Xw [0] (by decide) J (Zy (part_zero xs _)) (.c J (.c J (.c J (.nil))))⟩ ?_
 rintro m_A _ ⟨k,hk_A,hp_A,rfl⟩
 refine Wz [23,12] ?_
 refine Q8 J (fun h => ?_) (fun h => ?_)
 ·have h3:k<xs.length:=by have:=Gqc h; omega
  have hat:=X5 h3
  have hz:=part_at xs zFault h3
  have hpl:(k:Int)<(part xs zFault k).length:=by rw[part_len xs _ (by omega)]; omega
  have hc:=to_Fault xs[k] (by show (0:Nat)≤_; omega)
  refine Wz [9,92,144,89] ?_;refine M1 (Y8 J J (hc) J J J) J J ?_;refine zx (Q2 J J J J J (by omega) (by assumption)) J ?_;refine Xb J J J J J J J J J J (by assumption) J J ?_;refine Wz [137] ?_
  exact⟨xs.length-(k+1),by omega,(fun k:Nat=>(⟨_,[(0,L xs),(3,.o (.c (.ref 0))),(4,I k)],[.row 3 (part xs zFault k)]⟩:St)) (k+1),⟨k+1,by omega,trivial,J⟩,Xw [0] (by decide) J (Zy (part_set xs zFault h3 _ (by rfl) (by rfl)).symm) (.c J (.c J (.c J (.nil))))⟩
 ·have h3:¬((k:Int)<(els xs).length):=Gqg h
  refine Wz [43] ?_
  exact Xi J J (Xt [0] (by decide) J (Zy (part_all xs _ (by omega)).symm) J)
theorem eq_FaultS (xs ys:List TFault) (hn:Enc.gd xs):Con Tryz.prog 22 [] [al xs,al ys] [] (B (decide (xs=ys))):=by
 have hn1:=hn.1
 have hlx:=X6 xs
 have hly:=X6 ys
 by_cases hl:xs.length=ys.length
 ·have hb:decide (((els xs).length:Int)≠((els ys).length:Int))=false:=by rw[hlx,hly,hl]; simp
  refine Con.of Tryz.func22 J Tryz.ntmps22 J (fun E => ?_)
  refine Wz [79,62,26,39] ?_;refine Xe (fun m st=>∃ k:Nat,k+m=xs.length∧(xs.take k=ys.take k)∧st=(⟨_,[(0,L xs),(1,L ys),(5,I k)],[]⟩:St)) (xs.length) ⟨_,⟨0,by omega,by simp,J⟩,Xv [] (by kernel_rfl)⟩ ?_
  rintro m_A _ ⟨k,hk_A,hp_A,rfl⟩
  refine Wz [23,12] ?_
  refine Q8 J (fun h => ?_) (fun h => ?_)
  ·have h3:k<xs.length:=by have:=Gqc h; omega
   have h4:k<ys.length:=by omega
   have hat:=X5 h3
   have hat2:=X5 h4
   have hc:=eq_Fault xs[k] ys[k] (hn.2 _ (Gqf h3))
   by_cases he:xs[k]=ys[k]
   ·rw[Gqb he] at hc
    refine Wz [45,103,54,54] ?_;refine DR.s (Qj J J (hc) J) J J ?_;refine Wz [87,57] ?_
    exact⟨xs.length-(k+1),by omega,_,⟨k+1,by omega,Yd h3 h4 hp_A he,J⟩,Xv [] (by kernel_rfl)⟩
   ·rw[Gqa he] at hc
    refine Wz [45,103,54,54] ?_;refine DR.s (Qj J J (hc) J) J J ?_;refine Wz [87,74] ?_
    exact Xi J J (Xt [] (by decide) J J (Xf (eq_ne h3 h4 he).symm))
  ·have h3:¬((k:Int)<(els xs).length):=Gqg h
   refine Wz [94] ?_
   exact Xi J J (Xt [] (by decide) J J (Xf (Yb (by omega) hl hp_A).symm))
 ·have hb:decide (((els xs).length:Int)≠((els ys).length:Int))=true:=by rw[hlx,hly]; simp; omega
  refine Con.of Tryz.func22 J Tryz.ntmps22 J (fun E => ?_)
  refine Wz [79,18] ?_
  exact Xi J J (Xt [] (by decide) J J (Xf (Yc hl).symm))
theorem L_mkFaultS (xs:List (TFault)) (k:Int) (g:Enc.gd xs) (h0:0<k) (hb:nkEs (els xs) k≤1073741823):Con Tryz.prog 26 [.row 3 (els xs),.gh 0 (.c (.ref 0))] [.c (.ref 0),ai k] [.row 3 (mkEs (els xs) k),.gh 0 (.c (.ref 0))] (I (nkEs (els xs) k)):=by
 have hn:=X6 xs
 have hn1:=g.1
 refine Con.of Tryz.func26 J Tryz.ntmps26 J (fun E => ?_)
 refine Wz [69] ?_;refine Xe (fun m st=>∃ i:Nat,i+m=xs.length∧(True)∧st=(⟨34,[(0,.o (.c (.ref 0))),(1,I (nkEs ((els xs).take i) k)),(5,I i)],[.row 3 (mkEs ((els xs).take i) k++(els xs).drop i),.gh 0 (.c (.ref 0))]⟩:St)) (xs.length) ⟨_,⟨0,by omega,trivial,J⟩,Xv [0,1] (by kernel_rfl)⟩ ?_
 rintro m_A _ ⟨i,hk_A,hp_A,rfl⟩
 have hl2:=Yt (es:=els xs) (i:=i) k
 by_cases h3:i<xs.length
 ·have hat:(els xs)[i]? = some (Enc.e xs[i]):=X5 h3
  have hg:=g.2 _ (Gqf h3)
  have hl:=Int.le_trans (Yw hat k) hb
  have hi:=Yx ((els xs).take i) k
  have hend:=Yr hat k
  have hnx:=Yy hat k
  have hq:=mt_lt hat k
  have hse:=Yv hat k
  rw[hse]
  generalize mkEs ((els xs).take i) k++(els xs).drop i=R at hq hend hl2 ⊢
  generalize nkEs ((els xs).take i) k=K at hl hi hend hnx ⊢
  have hq:(i:Int).toNat<R.length:=hq
  have e1:nkE (Enc.e xs[i]) K=(((K+1)+1)+1):=by kernel_rfl
  have e2:mkE (Enc.e xs[i]) K = [.v (.int .i64 K),.v (.int .i64 (K+1)),.v (.int .i64 ((K+1)+1))]:=by kernel_rfl
  rw[e1] at hl hnx
  rw[e2] at hend
  clear e1 e2
  have hco:Enc.e xs[i] = [.v (.int .i64 xs[i].Tick),.v (.int .i64 xs[i].Player),.v (.int .i64 xs[i].Add)]:=by kernel_rfl
  generalize hcs:([.v (.int .i64 K),.v (.int .i64 (K+1)),.v (.int .i64 ((K+1)+1))]:List T)=cs at hend
  generalize hds:([.v (.int .i64 xs[i].Tick),.v (.int .i64 xs[i].Player),.v (.int .i64 xs[i].Add)]:List T)=ds at hco
  rw[hco,show ds=pm cs ds 0 from rfl]
  have hdl:3=ds.length:=by rw[←hds]; rfl
  have hlc:cs.length=ds.length:=by rw[←hcs,←hds]; rfl
  have u0:cs[0]? = some (.v (.int .i64 K)):=by rw[←hcs]; rfl
  have u1:cs[1]? = some (.v (.int .i64 (K+1))):=by rw[←hcs]; rfl
  have u2:cs[2]? = some (.v (.int .i64 ((K+1)+1))):=by rw[←hcs]; rfl
  have f3:decide ((i:Int)<((R.set i (pm cs ds 0)).length:Int))=true:=Gqb (by rw[Gq2]; omega)
  clear hcs hds hse
  refine Wz [90,83,66] ?_;refine AL.weak (st':=(⟨34,[(0,.o (.c (.ref 0))),(1,I K),(5,I i)],[.row 3 (R.set i (pm cs ds 1)),.gh 0 (.c (.ref 0))]⟩:St)) (Xw [0,1] (by decide) J ((by kernel_rfl)) (.c J (.c J (.c J (.nil))))) ?_;refine Wz [61,66] ?_;refine AL.weak (st':=(⟨34,[(0,.o (.c (.ref 0))),(1,I (K+1)),(5,I i)],[.row 3 (R.set i (pm cs ds 2)),.gh 0 (.c (.ref 0))]⟩:St)) (Xw [0,1] (by decide) J ((by kernel_rfl)) (.c J (.c J (.c J (.nil))))) ?_;refine Wz [61,66] ?_;refine AL.weak (st':=(⟨34,[(0,.o (.c (.ref 0))),(1,I ((K+1)+1)),(5,I i)],[.row 3 (R.set i (pm cs ds 3)),.gh 0 (.c (.ref 0))]⟩:St)) (Xw [0,1] (by decide) J ((by kernel_rfl)) (.c J (.c J (.c J (.nil))))) ?_;refine Wz [2,75,14,56] ?_
  replace hend:=hend.trans (congrArg (R.set i) (show cs=pm cs ds 3 by rw[pm,Gqk (show cs.length≤3 by rw[hlc,←hdl]; exact Gqi _),List.drop_of_length_le (by rw[←hdl]; exact Gqi _),Gqy]))
  exact⟨xs.length-(i+1),by omega,(fun i:Nat=>(⟨34,[(0,.o (.c (.ref 0))),(1,I (nkEs ((els xs).take i) k)),(5,I i)],[.row 3 (mkEs ((els xs).take i) k++(els xs).drop i),.gh 0 (.c (.ref 0))]⟩:St)) (i+1),⟨i+1,by omega,trivial,J⟩,Xw [0,1] (by decide) J ((by rw[hend]; rfl)) (.c J (.cons (Xl hnx.symm) (.c J (.nil))))⟩
 ·have f3:decide ((i:Int)<((mkEs ((els xs).take i) k++(els xs).drop i).length:Int))=false:=Gqa (by omega)
  have hk:=Gqk (show (els xs).length≤i by omega)
  have he:=Ys (show (els xs).length≤i by omega) k
  refine Wz [90,73,43] ?_
  exact Xi J J (Xt [0,1] (by decide) J (row2 he.symm) (Xl (by rw[hk])))
end
end Go.Proofs.YtoecjaohdnoenaaGreat
