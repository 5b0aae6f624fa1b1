/-
  Rules, data and contracts of functions: part 31 of the proof.
  Conditions: those that each theorem names.
-/
import Derived.Test.YtfklmiijhcajdaaGreatDDTellRowk19
set_option linter.unusedVariables false
set_option linter.unusedSimpArgs false
set_option maxRecDepth 8000
set_option maxHeartbeats 8000000
namespace Go.Proofs.YtfklmiijhcajdaaGreat
section
open Go.RowKit

theorem wts_pace:∀ xs:List TPace,wts xs=0
 | []=>rfl
 |x::xs=>by simp[wts,wts_pace xs,Enc.wt]
theorem sz_PaceS (xs:List TPace) (left:Int) (hg:Enc.gd xs) (h0:0≤left) (h1:left≤1048576):Con Tryz.prog 113 [] [al xs,ai left] [] (I (szr (Enc.wt xs) left)):=by
 have hlen:=Yi xs
 have hx:=hg.1
 have hw:Enc.wt xs=xs.length:=by simp[Enc.wt,wts_pace]
 refine Con.of Tryz.func113 J Tryz.ntmps113 J (fun E => ?_)
 refine Wz [12,9,14,84,73,38] ?_
 refine Xb J (fun h => ?_) (fun h => ?_)
 ·refine Wz [39] ?_
  have h2:=Gqc (p:=_) (by simpa using h)
  exact Xl J J (X1 [] Aqc J J (Xq (by rw[Kq Aqa])))
 ·refine Wz [15,10,2] ?_
  refine Wz [49] ?_
  have h2:=Gqd h
  exact Xl J J (X1 [] Aqc J J (Xq (by rw[Kr Aqa]; omega)))
theorem sz_FlightS (xs:List TFlight) (left:Int) (hg:Enc.gd xs) (h0:0≤left) (h1:left≤1048576):Con Tryz.prog 211 [] [al xs,ai left] [] (I (szr (Enc.wt xs) left)):=by
 have hlen:=Yi xs
 have hx:=hg.1
 have hw:Enc.wt xs=xs.length+wts xs:=rfl
 refine Con.of Tryz.func211 J Tryz.ntmps211 J (fun E => ?_)
 refine Wz [12,9,14,84,73,38] ?_
 refine Xb J (fun h => ?_) (fun h => ?_)
 ·refine Wz [39] ?_
  have h2:=Gqc h
  exact Xl J J (X1 [] Aqc J J (Xq (by rw[Kq Aqa])))
 have h2:¬(left-((els xs).length:Int)<0):=Gqd h
 refine Wz [15,11] ?_
 refine Xh (fun m st=>∃ k:Nat,k+m=xs.length∧(((xs.length:Int)+wts (xs.take k)≤left))∧st=(⟨_,[(0,L xs),(1,I (left-(xs.length+wts (xs.take k)))),(5,I k)],[]⟩:St)) (xs.length) ⟨(fun k:Nat=>(⟨_,[(0,L xs),(1,I (left-(xs.length+wts (xs.take k)))),(5,I k)],[]⟩:St)) 0,⟨0,Aqa,by simp[wts]; omega,J⟩,X4 [] Aqc J Aqb (.c J (.cons (Xq (by simp[els,wts])) (.c J (.nil))))⟩ ?_
 rintro m_A _ ⟨k,hk_A,hp_A,rfl⟩
 refine Wz [59] ?_
 refine Xb J (fun h => ?_) (fun h => ?_)
 ·have h3:k<xs.length:=by have:=Gqc h; omega
  have hat:=Yg h3
  have hstep:=Ky xs k h3
  have hle:=Kz xs (k+1)
  have hc:=sz_Flight xs[k] (left-((xs.length:Int)+wts (xs.take k))) (hg.2 _ (Gqe h3)) Aqa Aqa 
  by_cases h4:left-((xs.length:Int)+wts (xs.take k))<Enc.wt xs[k]
  ·rw[Kq h4] at hc
   have hb:decide ((-1:Int)<0)=true:=rfl
   refine Wz [7,9,46,0] ?_;refine zx (Qj J J (hc) J) J ?_;refine Wz [40,177,54] ?_
   exact Xl J J (X1 [] Aqc J J (Xq (by rw[Kq Aqa])))
  ·rw[Kr Aqa] at hc
   have hb:decide (left-((xs.length:Int)+wts (xs.take k))-Enc.wt xs[k]<0)=false:=Gqa Aqa 
   refine Wz [7,9,46,0] ?_;refine zx (Qj J J (hc) J) J ?_;refine Wz [40,44,62] ?_
   exact⟨xs.length-(k+1),Aqa,(fun k:Nat=>(⟨_,[(0,L xs),(1,I (left-(xs.length+wts (xs.take k)))),(5,I k)],[]⟩:St)) (k+1),⟨k+1,Aqa,Aqa,J⟩,X4 [] Aqc J Aqb (.c J (.cons (Xq (by rw[hstep]; omega)) (.c J (.nil))))⟩
 ·have h3:¬((k:Int)<(els xs).length):=Gqd h
  have hk:wts (xs.take k)=wts xs:=by rw[Gqh Aqa]
  refine Wz [31] ?_
  exact Xl J J (X1 [] Aqc J J (Xq (by rw[Kr Aqa]; omega)))
def zFlight:List T := [.v (.int .i64 0),.v (.string ⟨#[]⟩)]
theorem to_FlightS (xs:List TFlight) (hg:Enc.wt xs≤1048576):Con Tryz.prog 228 [] [al xs] [.row 2 (els xs)] (Aqg 0):=by
 have hlen:=Yi xs
 have hw:Enc.wt xs=xs.length+wts xs:=rfl
 refine Con.of Tryz.func228 J Tryz.ntmps228 J (fun E => ?_)
 refine Wz [12,10,14,214,2,11] ?_;refine Xh (fun m st=>∃ k:Nat,k+m=xs.length∧(True)∧st=(⟨_,[(0,L xs),(3,Aqg 0),(4,I k)],[.row 2 (part xs zFlight k)]⟩:St)) (xs.length) ⟨(fun k:Nat=>(⟨_,[(0,L xs),(3,Aqg 0),(4,I k)],[.row 2 (part xs zFlight k)]⟩:St)) 0,⟨0,Aqa,trivial,J⟩,X4 [0] Aqc J (Kj (Zk xs _)) (.c J (.c J (.c J (.nil))))⟩ ?_
 rintro m_A _ ⟨k,hk_A,hp_A,rfl⟩
 refine Wz [59] ?_
 refine Xb J (fun h => ?_) (fun h => ?_)
 ·have h3:k<xs.length:=by have:=Gqc h; omega
  have hat:=Yg h3
  have hz:=Zh xs zFlight h3
  have hpl:(k:Int)<(part xs zFlight k).length:=by rw[Zi xs _ Aqa]; omega
  have hwt:Enc.wt xs[k]≤wts xs:=Kx xs _ (Gqe h3)
  have hc:=to_Flight xs[k] Aqa 
  refine Wz [7,63,127,46] ?_;refine M1 (Zs J J (hc) J J J) J J ?_;refine Wz [163,188,99] ?_
  exact⟨xs.length-(k+1),Aqa,(fun k:Nat=>(⟨_,[(0,L xs),(3,Aqg 0),(4,I k)],[.row 2 (part xs zFlight k)]⟩:St)) (k+1),⟨k+1,Aqa,trivial,J⟩,X4 [0] Aqc J (Kj (Zj xs zFlight h3 _ (by rfl) (by rfl)).symm) (.c J (.c J (.c J (.nil))))⟩
 ·have h3:¬((k:Int)<(els xs).length):=Gqd h
  refine Wz [31] ?_
  exact Xl J J (X1 [0] Aqc J (Kj (Zg xs _ Aqa).symm) J)
theorem eq_FlightS (xs ys:List TFlight) (hn:Enc.gd xs):Con Tryz.prog 247 [] [al xs,al ys] [] (B (decide (xs=ys))):=by
 have hn1:=hn.1
 have hlx:=Yi xs
 have hly:=Yi ys
 by_cases hl:xs.length=ys.length
 ·have hb:decide (((els xs).length:Int)≠((els ys).length:Int))=false:=by rw[hlx,hly,hl]; simp
  refine Con.of Tryz.func247 J Tryz.ntmps247 J (fun E => ?_)
  refine Wz [105,14,118,33,11] ?_;refine Xh (fun m st=>∃ k:Nat,k+m=xs.length∧(xs.take k=ys.take k)∧st=(⟨_,[(0,L xs),(1,L ys),(5,I k)],[]⟩:St)) (xs.length) ⟨_,⟨0,Aqa,Aqd,J⟩,X3 [] Aqb⟩ ?_
  rintro m_A _ ⟨k,hk_A,hp_A,rfl⟩
  refine Wz [59] ?_
  refine Xb J (fun h => ?_) (fun h => ?_)
  ·have h3:k<xs.length:=by have:=Gqc h; omega
   have h4:k<ys.length:=Aqa
   have hat:=Yg h3
   have hat2:=Yg h4
   have hc:=eq_Flight xs[k] ys[k] (hn.2 _ (Gqe h3))
   by_cases he:xs[k]=ys[k]
   ·rw[Gqb he] at hc
    refine Wz [88,128,95,95] ?_;refine DR.s (Qj J J (hc) J) J J ?_;refine Wz [74,13,81,62] ?_
    exact⟨xs.length-(k+1),Aqa,_,⟨k+1,Aqa,Yp h3 h4 hp_A he,J⟩,X3 [] Aqb⟩
   ·rw[Gqa he] at hc
    refine Wz [88,128,95,95] ?_;refine DR.s (Qj J J (hc) J) J J ?_;refine Wz [74,13,24,54] ?_
    exact Xl J J (X1 [] Aqc J J (Xi (eq_ne h3 h4 he).symm))
  ·have h3:¬((k:Int)<(els xs).length):=Gqd h
   refine Wz [20,67] ?_
   exact Xl J J (X1 [] Aqc J J (Xi (Yn Aqa hl hp_A).symm))
 ·have hb:decide (((els xs).length:Int)≠((els ys).length:Int))=true:=by rw[hlx,hly]; simp; omega
  refine Con.of Tryz.func247 J Tryz.ntmps247 J (fun E => ?_)
  refine Wz [105,14,41] ?_
  exact Xl J J (X1 [] Aqc J J (Xi (Yo hl).symm))
def zPace:List T := [.v (.int .i64 0),.v (.int .i64 0),.v (.int .i64 0),.v (.int .i64 0),.v (.int .i64 0)]
theorem to_PaceS (xs:List TPace) (hg:Enc.wt xs≤1048576):Con Tryz.prog 128 [] [al xs] [.row 5 (els xs)] (Aqg 0):=by
 have hlen:=Yi xs
 have hw:Enc.wt xs=xs.length+wts xs:=rfl
 have hw2:=wts_pace xs
 refine Con.of Tryz.func128 J Tryz.ntmps128 J (fun E => ?_)
 refine Wz [12,10,14,214,2,11] ?_;refine Xh (fun m st=>∃ k:Nat,k+m=xs.length∧(True)∧st=(⟨_,[(0,L xs),(3,Aqg 0),(4,I k)],[.row 5 (part xs zPace k)]⟩:St)) (xs.length) ⟨(fun k:Nat=>(⟨_,[(0,L xs),(3,Aqg 0),(4,I k)],[.row 5 (part xs zPace k)]⟩:St)) 0,⟨0,Aqa,trivial,J⟩,X4 [0] Aqc J (Kj (Zk xs _)) (.c J (.c J (.c J (.nil))))⟩ ?_
 rintro m_A _ ⟨k,hk_A,hp_A,rfl⟩
 refine Wz [59] ?_
 refine Xb J (fun h => ?_) (fun h => ?_)
 ·have h3:k<xs.length:=by have:=Gqc h; omega
  have hat:=Yg h3
  have hz:=Zh xs zPace h3
  have hpl:(k:Int)<(part xs zPace k).length:=by rw[Zi xs _ Aqa]; omega
  have hc:=to_Pace xs[k] (by show (0:Nat)≤_; omega)
  refine Wz [7,63,127,46] ?_;refine M1 (Zs J J (hc) J J J) J J ?_;refine Wz [163,188,99] ?_
  exact⟨xs.length-(k+1),Aqa,(fun k:Nat=>(⟨_,[(0,L xs),(3,Aqg 0),(4,I k)],[.row 5 (part xs zPace k)]⟩:St)) (k+1),⟨k+1,Aqa,trivial,J⟩,X4 [0] Aqc J (Kj (Zj xs zPace h3 _ (by rfl) (by rfl)).symm) (.c J (.c J (.c J (.nil))))⟩
 ·have h3:¬((k:Int)<(els xs).length):=Gqd h
  refine Wz [31] ?_
  exact Xl J J (X1 [0] Aqc J (Kj (Zg xs _ Aqa).symm) J)
theorem eq_PaceS (xs ys:List TPace) (hn:Enc.gd xs):Con Tryz.prog 146 [] [al xs,al ys] [] (B (decide (xs=ys))):=by
 have hn1:=hn.1
 have hlx:=Yi xs
 have hly:=Yi ys
 by_cases hl:xs.length=ys.length
 ·have hb:decide (((els xs).length:Int)≠((els ys).length:Int))=false:=by rw[hlx,hly,hl]; simp
  refine Con.of Tryz.func146 J Tryz.ntmps146 J (fun E => ?_)
  refine Wz [105,14,118,33,11] ?_;refine Xh (fun m st=>∃ k:Nat,k+m=xs.length∧(xs.take k=ys.take k)∧st=(⟨_,[(0,L xs),(1,L ys),(5,I k)],[]⟩:St)) (xs.length) ⟨_,⟨0,Aqa,Aqd,J⟩,X3 [] Aqb⟩ ?_
  rintro m_A _ ⟨k,hk_A,hp_A,rfl⟩
  refine Wz [59] ?_
  refine Xb J (fun h => ?_) (fun h => ?_)
  ·have h3:k<xs.length:=by have:=Gqc h; omega
   have h4:k<ys.length:=Aqa
   have hat:=Yg h3
   have hat2:=Yg h4
   have hc:=eq_Pace xs[k] ys[k] (hn.2 _ (Gqe h3))
   by_cases he:xs[k]=ys[k]
   ·rw[Gqb he] at hc
    refine Wz [88,128,95,95] ?_;refine DR.s (Qj J J (hc) J) J J ?_;refine Wz [74,13,81,62] ?_
    exact⟨xs.length-(k+1),Aqa,_,⟨k+1,Aqa,Yp h3 h4 hp_A he,J⟩,X3 [] Aqb⟩
   ·rw[Gqa he] at hc
    refine Wz [88,128,95,95] ?_;refine DR.s (Qj J J (hc) J) J J ?_;refine Wz [74,13,24,54] ?_
    exact Xl J J (X1 [] Aqc J J (Xi (eq_ne h3 h4 he).symm))
  ·have h3:¬((k:Int)<(els xs).length):=Gqd h
   refine Wz [20,67] ?_
   exact Xl J J (X1 [] Aqc J J (Xi (Yn Aqa hl hp_A).symm))
 ·have hb:decide (((els xs).length:Int)≠((els ys).length:Int))=true:=by rw[hlx,hly]; simp; omega
  refine Con.of Tryz.func146 J Tryz.ntmps146 J (fun E => ?_)
  refine Wz [105,14,41] ?_
  exact Xl J J (X1 [] Aqc J J (Xi (Yo hl).symm))
theorem sz_AlarmS (xs:List TAlarm) (left:Int) (hg:Enc.gd xs) (h0:0≤left) (h1:left≤1048576):Con Tryz.prog 43 [] [al xs,ai left] [] (I (szr (Enc.wt xs) left)):=by
 have hlen:=Yi xs
 have hx:=hg.1
 have hw:Enc.wt xs=xs.length+wts xs:=rfl
 refine Con.of Tryz.func43 J Tryz.ntmps43 J (fun E => ?_)
 refine Wz [12,9,14,84,73,38] ?_
 refine Xb J (fun h => ?_) (fun h => ?_)
 ·refine Wz [39] ?_
  have h2:=Gqc h
  exact Xl J J (X1 [] Aqc J J (Xq (by rw[Kq Aqa])))
 have h2:¬(left-((els xs).length:Int)<0):=Gqd h
 refine Wz [15,11] ?_
 refine Xh (fun m st=>∃ k:Nat,k+m=xs.length∧(((xs.length:Int)+wts (xs.take k)≤left))∧st=(⟨_,[(0,L xs),(1,I (left-(xs.length+wts (xs.take k)))),(5,I k)],[]⟩:St)) (xs.length) ⟨(fun k:Nat=>(⟨_,[(0,L xs),(1,I (left-(xs.length+wts (xs.take k)))),(5,I k)],[]⟩:St)) 0,⟨0,Aqa,by simp[wts]; omega,J⟩,X4 [] Aqc J Aqb (.c J (.cons (Xq (by simp[els,wts])) (.c J (.nil))))⟩ ?_
 rintro m_A _ ⟨k,hk_A,hp_A,rfl⟩
 refine Wz [59] ?_
 refine Xb J (fun h => ?_) (fun h => ?_)
 ·have h3:k<xs.length:=by have:=Gqc h; omega
  have hat:=Yg h3
  have hstep:=Ky xs k h3
  have hle:=Kz xs (k+1)
  have hc:=sz_Alarm xs[k] (left-((xs.length:Int)+wts (xs.take k))) (hg.2 _ (Gqe h3)) Aqa Aqa 
  by_cases h4:left-((xs.length:Int)+wts (xs.take k))<Enc.wt xs[k]
  ·rw[Kq h4] at hc
   have hb:decide ((-1:Int)<0)=true:=rfl
   refine Wz [7,9,46,0] ?_;refine zx (Qj J J (hc) J) J ?_;refine Wz [40,177,54] ?_
   exact Xl J J (X1 [] Aqc J J (Xq (by rw[Kq Aqa])))
  ·rw[Kr Aqa] at hc
   have hb:decide (left-((xs.length:Int)+wts (xs.take k))-Enc.wt xs[k]<0)=false:=Gqa Aqa 
   refine Wz [7,9,46,0] ?_;refine zx (Qj J J (hc) J) J ?_;refine Wz [40,44,62] ?_
   exact⟨xs.length-(k+1),Aqa,(fun k:Nat=>(⟨_,[(0,L xs),(1,I (left-(xs.length+wts (xs.take k)))),(5,I k)],[]⟩:St)) (k+1),⟨k+1,Aqa,Aqa,J⟩,X4 [] Aqc J Aqb (.c J (.cons (Xq (by rw[hstep]; omega)) (.c J (.nil))))⟩
 ·have h3:¬((k:Int)<(els xs).length):=Gqd h
  have hk:wts (xs.take k)=wts xs:=by rw[Gqh Aqa]
  refine Wz [31] ?_
  exact Xl J J (X1 [] Aqc J J (Xq (by rw[Kr Aqa]; omega)))
def zAlarm:List T := [.v (.int .i64 0),.sl 1 []]
theorem to_AlarmS (xs:List TAlarm) (hg:Enc.wt xs≤1048576):Con Tryz.prog 54 [] [al xs] [.row 2 (els xs)] (Aqg 0):=by
 have hlen:=Yi xs
 have hw:Enc.wt xs=xs.length+wts xs:=rfl
 refine Con.of Tryz.func54 J Tryz.ntmps54 J (fun E => ?_)
 refine Wz [12,10,14,229,2,11] ?_;refine Xh (fun m st=>∃ k:Nat,k+m=xs.length∧(True)∧st=(⟨_,[(0,L xs),(3,Aqg 0),(4,I k)],[.row 2 (part xs zAlarm k)]⟩:St)) (xs.length) ⟨(fun k:Nat=>(⟨_,[(0,L xs),(3,Aqg 0),(4,I k)],[.row 2 (part xs zAlarm k)]⟩:St)) 0,⟨0,Aqa,trivial,J⟩,X4 [0] Aqc J (Kj (Zk xs _)) (.c J (.c J (.c J (.nil))))⟩ ?_
 rintro m_A _ ⟨k,hk_A,hp_A,rfl⟩
 refine Wz [59] ?_
 refine Xb J (fun h => ?_) (fun h => ?_)
 ·have h3:k<xs.length:=by have:=Gqc h; omega
  have hat:=Yg h3
  have hz:=Zh xs zAlarm h3
  have hpl:(k:Int)<(part xs zAlarm k).length:=by rw[Zi xs _ Aqa]; omega
  have hwt:Enc.wt xs[k]≤wts xs:=Kx xs _ (Gqe h3)
  have hc:=to_Alarm xs[k] Aqa 
  refine Wz [7,63,127,46] ?_;refine M1 (Zs J J (hc) J J J) J J ?_;refine Wz [163,188,99] ?_
  exact⟨xs.length-(k+1),Aqa,(fun k:Nat=>(⟨_,[(0,L xs),(3,Aqg 0),(4,I k)],[.row 2 (part xs zAlarm k)]⟩:St)) (k+1),⟨k+1,Aqa,trivial,J⟩,X4 [0] Aqc J (Kj (Zj xs zAlarm h3 _ (by rfl) (by rfl)).symm) (.c J (.c J (.c J (.nil))))⟩
 ·have h3:¬((k:Int)<(els xs).length):=Gqd h
  refine Wz [31] ?_
  exact Xl J J (X1 [0] Aqc J (Kj (Zg xs _ Aqa).symm) J)
theorem eq_AlarmS (xs ys:List TAlarm) (hn:Enc.gd xs):Con Tryz.prog 66 [] [al xs,al ys] [] (B (decide (xs=ys))):=by
 have hn1:=hn.1
 have hlx:=Yi xs
 have hly:=Yi ys
 by_cases hl:xs.length=ys.length
 ·have hb:decide (((els xs).length:Int)≠((els ys).length:Int))=false:=by rw[hlx,hly,hl]; simp
  refine Con.of Tryz.func66 J Tryz.ntmps66 J (fun E => ?_)
  refine Wz [105,14,118,33,11] ?_;refine Xh (fun m st=>∃ k:Nat,k+m=xs.length∧(xs.take k=ys.take k)∧st=(⟨_,[(0,L xs),(1,L ys),(5,I k)],[]⟩:St)) (xs.length) ⟨_,⟨0,Aqa,Aqd,J⟩,X3 [] Aqb⟩ ?_
  rintro m_A _ ⟨k,hk_A,hp_A,rfl⟩
  refine Wz [59] ?_
  refine Xb J (fun h => ?_) (fun h => ?_)
  ·have h3:k<xs.length:=by have:=Gqc h; omega
   have h4:k<ys.length:=Aqa
   have hat:=Yg h3
   have hat2:=Yg h4
   have hc:=eq_Alarm xs[k] ys[k] (hn.2 _ (Gqe h3))
   by_cases he:xs[k]=ys[k]
   ·rw[Gqb he] at hc
    refine Wz [88,128,95,95] ?_;refine DR.s (Qj J J (hc) J) J J ?_;refine Wz [74,13,81,62] ?_
    exact⟨xs.length-(k+1),Aqa,_,⟨k+1,Aqa,Yp h3 h4 hp_A he,J⟩,X3 [] Aqb⟩
   ·rw[Gqa he] at hc
    refine Wz [88,128,95,95] ?_;refine DR.s (Qj J J (hc) J) J J ?_;refine Wz [74,13,24,54] ?_
    exact Xl J J (X1 [] Aqc J J (Xi (eq_ne h3 h4 he).symm))
  ·have h3:¬((k:Int)<(els xs).length):=Gqd h
   refine Wz [20,67] ?_
   exact Xl J J (X1 [] Aqc J J (Xi (Yn Aqa hl hp_A).symm))
 ·have hb:decide (((els xs).length:Int)≠((els ys).length:Int))=true:=by rw[hlx,hly]; simp; omega
  refine Con.of Tryz.func66 J Tryz.ntmps66 J (fun E => ?_)
  refine Wz [105,14,41] ?_
  exact Xl J J (X1 [] Aqc J J (Xi (Yo hl).symm))
theorem sz_SpectatorS (xs:List TSpectator) (left:Int) (hg:Enc.gd xs) (h0:0≤left) (h1:left≤1048576):Con Tryz.prog 41 [] [al xs,ai left] [] (I (szr (Enc.wt xs) left)):=by
 have hlen:=Yi xs
 have hx:=hg.1
 have hw:Enc.wt xs=xs.length+wts xs:=rfl
 refine Con.of Tryz.func41 J Tryz.ntmps41 J (fun E => ?_)
 refine Wz [12,9,14,84,73,38] ?_
 refine Xb J (fun h => ?_) (fun h => ?_)
 ·refine Wz [39] ?_
  have h2:=Gqc h
  exact Xl J J (X1 [] Aqc J J (Xq (by rw[Kq Aqa])))
 have h2:¬(left-((els xs).length:Int)<0):=Gqd h
 refine Wz [15,11] ?_
 refine Xh (fun m st=>∃ k:Nat,k+m=xs.length∧(((xs.length:Int)+wts (xs.take k)≤left))∧st=(⟨_,[(0,L xs),(1,I (left-(xs.length+wts (xs.take k)))),(5,I k)],[]⟩:St)) (xs.length) ⟨(fun k:Nat=>(⟨_,[(0,L xs),(1,I (left-(xs.length+wts (xs.take k)))),(5,I k)],[]⟩:St)) 0,⟨0,Aqa,by simp[wts]; omega,J⟩,X4 [] Aqc J Aqb (.c J (.cons (Xq (by simp[els,wts])) (.c J (.nil))))⟩ ?_
 rintro m_A _ ⟨k,hk_A,hp_A,rfl⟩
 refine Wz [59] ?_
 refine Xb J (fun h => ?_) (fun h => ?_)
 ·have h3:k<xs.length:=by have:=Gqc h; omega
  have hat:=Yg h3
  have hstep:=Ky xs k h3
  have hle:=Kz xs (k+1)
  have hc:=sz_Spectator xs[k] (left-((xs.length:Int)+wts (xs.take k))) (hg.2 _ (Gqe h3)) Aqa Aqa 
  by_cases h4:left-((xs.length:Int)+wts (xs.take k))<Enc.wt xs[k]
  ·rw[Kq h4] at hc
   have hb:decide ((-1:Int)<0)=true:=rfl
   refine Wz [7,9,46,0] ?_;refine zx (Qj J J (hc) J) J ?_;refine Wz [40,177,54] ?_
   exact Xl J J (X1 [] Aqc J J (Xq (by rw[Kq Aqa])))
  ·rw[Kr Aqa] at hc
   have hb:decide (left-((xs.length:Int)+wts (xs.take k))-Enc.wt xs[k]<0)=false:=Gqa Aqa 
   refine Wz [7,9,46,0] ?_;refine zx (Qj J J (hc) J) J ?_;refine Wz [40,44,62] ?_
   exact⟨xs.length-(k+1),Aqa,(fun k:Nat=>(⟨_,[(0,L xs),(1,I (left-(xs.length+wts (xs.take k)))),(5,I k)],[]⟩:St)) (k+1),⟨k+1,Aqa,Aqa,J⟩,X4 [] Aqc J Aqb (.c J (.cons (Xq (by rw[hstep]; omega)) (.c J (.nil))))⟩
 ·have h3:¬((k:Int)<(els xs).length):=Gqd h
  have hk:wts (xs.take k)=wts xs:=by rw[Gqh Aqa]
  refine Wz [31] ?_
  exact Xl J J (X1 [] Aqc J J (Xq (by rw[Kr Aqa]; omega)))
def zSpectator:List T := [.sl 1 [],.v (.int .i64 0),.v (.int .i64 0),.sl 1 [],.sl 1 [],.v (.int .i64 0)]
theorem to_SpectatorS (xs:List TSpectator) (hg:Enc.wt xs≤1048576):Con Tryz.prog 52 [] [al xs] [.row 6 (els xs)] (Aqg 0):=by
 have hlen:=Yi xs
 have hw:Enc.wt xs=xs.length+wts xs:=rfl
 refine Con.of Tryz.func52 J Tryz.ntmps52 J (fun E => ?_)
 refine Wz [12,10,14,229,2,11] ?_;refine Xh (fun m st=>∃ k:Nat,k+m=xs.length∧(True)∧st=(⟨_,[(0,L xs),(3,Aqg 0),(4,I k)],[.row 6 (part xs zSpectator k)]⟩:St)) (xs.length) ⟨(fun k:Nat=>(⟨_,[(0,L xs),(3,Aqg 0),(4,I k)],[.row 6 (part xs zSpectator k)]⟩:St)) 0,⟨0,Aqa,trivial,J⟩,X4 [0] Aqc J (Kj (Zk xs _)) (.c J (.c J (.c J (.nil))))⟩ ?_
 rintro m_A _ ⟨k,hk_A,hp_A,rfl⟩
 refine Wz [59] ?_
 refine Xb J (fun h => ?_) (fun h => ?_)
 ·have h3:k<xs.length:=by have:=Gqc h; omega
  have hat:=Yg h3
  have hz:=Zh xs zSpectator h3
  have hpl:(k:Int)<(part xs zSpectator k).length:=by rw[Zi xs _ Aqa]; omega
  have hwt:Enc.wt xs[k]≤wts xs:=Kx xs _ (Gqe h3)
  have hc:=to_Spectator xs[k] Aqa 
  refine Wz [7,63,127,46] ?_;refine M1 (Zs J J (hc) J J J) J J ?_;refine Wz [163,188,99] ?_
  exact⟨xs.length-(k+1),Aqa,(fun k:Nat=>(⟨_,[(0,L xs),(3,Aqg 0),(4,I k)],[.row 6 (part xs zSpectator k)]⟩:St)) (k+1),⟨k+1,Aqa,trivial,J⟩,X4 [0] Aqc J (Kj (Zj xs zSpectator h3 _ (by rfl) (by rfl)).symm) (.c J (.c J (.c J (.nil))))⟩
 ·have h3:¬((k:Int)<(els xs).length):=Gqd h
  refine Wz [31] ?_
  exact Xl J J (X1 [0] Aqc J (Kj (Zg xs _ Aqa).symm) J)
theorem eq_SpectatorS (xs ys:List TSpectator) (hn:Enc.gd xs):Con Tryz.prog 64 [] [al xs,al ys] [] (B (decide (xs=ys))):=by
 have hn1:=hn.1
 have hlx:=Yi xs
 have hly:=Yi ys
 by_cases hl:xs.length=ys.length
 ·have hb:decide (((els xs).length:Int)≠((els ys).length:Int))=false:=by rw[hlx,hly,hl]; simp
  refine Con.of Tryz.func64 J Tryz.ntmps64 J (fun E => ?_)
  refine Wz [105,14,118,33,11] ?_;refine Xh (fun m st=>∃ k:Nat,k+m=xs.length∧(xs.take k=ys.take k)∧st=(⟨_,[(0,L xs),(1,L ys),(5,I k)],[]⟩:St)) (xs.length) ⟨_,⟨0,Aqa,Aqd,J⟩,X3 [] Aqb⟩ ?_
  rintro m_A _ ⟨k,hk_A,hp_A,rfl⟩
  refine Wz [59] ?_
  refine Xb J (fun h => ?_) (fun h => ?_)
  ·have h3:k<xs.length:=by have:=Gqc h; omega
   have h4:k<ys.length:=Aqa
   have hat:=Yg h3
   have hat2:=Yg h4
   have hc:=eq_Spectator xs[k] ys[k] (hn.2 _ (Gqe h3))
   by_cases he:xs[k]=ys[k]
   ·rw[Gqb he] at hc
    refine Wz [88,128,95,95] ?_;refine DR.s (Qj J J (hc) J) J J ?_;refine Wz [74,13,81,62] ?_
    exact⟨xs.length-(k+1),Aqa,_,⟨k+1,Aqa,Yp h3 h4 hp_A he,J⟩,X3 [] Aqb⟩
   ·rw[Gqa he] at hc
    refine Wz [88,128,95,95] ?_;refine DR.s (Qj J J (hc) J) J J ?_;refine Wz [74,13,24,54] ?_
    exact Xl J J (X1 [] Aqc J J (Xi (eq_ne h3 h4 he).symm))
  ·have h3:¬((k:Int)<(els xs).length):=Gqd h
   refine Wz [20,67] ?_
   exact Xl J J (X1 [] Aqc J J (Xi (Yn Aqa hl hp_A).symm))
 ·have hb:decide (((els xs).length:Int)≠((els ys).length:Int))=true:=by rw[hlx,hly]; simp; omega
  refine Con.of Tryz.func64 J Tryz.ntmps64 J (fun E => ?_)
  refine Wz [105,14,41] ?_
  exact Xl J J (X1 [] Aqc J J (Xi (Yo hl).symm))
theorem sz_Wire (x:TWire) (left:Int) (hg:Enc.gd x) (h0:0≤left) (h1:left≤1048576):Con Tryz.prog 115 [] [ag x,ai left] [] (I (szr (Enc.wt x) left)):=by
 obtain⟨g_Seed,g_Delay,g_Jitter,g_Loss,g_Copies,g_Damage,g_Now,g_Flights,g_Sent,g_Lost⟩:=hg
 have hw:Enc.wt x=Enc.wt x.Flights:=rfl
 have hm1:decide ((-1:Int)<0)=true:=rfl
 have hc_Flights:=sz_FlightS x.Flights (left) g_Flights Aqa Aqa 
 by_cases n_Flights:left<Enc.wt x.Flights
 ·rw[Kq n_Flights] at hc_Flights
  refine Con.of Tryz.func115 J Tryz.ntmps115 J (fun E => ?_)
  refine Wz [21,75] ?_;refine zx (Qj J J (hc_Flights) J) J ?_;refine Wz [119,26] ?_
  exact Xl J J (X1 [] Aqc J J (Xq (by rw[Kq Aqa])))
 rw[Kr Aqa] at hc_Flights
 have hb_Flights:decide (left-Enc.wt x.Flights<0)=false:=Gqa Aqa 
 refine Con.of Tryz.func115 J Tryz.ntmps115 J (fun E => ?_)
 refine Wz [21,75] ?_;refine zx (Qj J J (hc_Flights) J) J ?_;refine Wz [83,164] ?_
 exact Xl J J (X1 [] Aqc J J (Xq (by rw[Kr Aqa]; omega)))
theorem to_Wire (x:TWire) (hg:Enc.wt x≤1048576):Con Tryz.prog 130 [] [ag x] (ownO (Enc.e x)) (.o (.ag (ownV 0 (Enc.e x)))):=by
 have hw:Enc.wt x=Enc.wt x.Flights:=rfl
 refine Con.of Tryz.func130 J Tryz.ntmps130 J (fun E => ?_)
 refine Wz [76,52,3,52,23,45,45,45,45,45,45,45] ?_;refine M1 (Zs J J (to_FlightS x.Flights Aqa) J J J) J J ?_;refine Wz [45,45,30,100,49] ?_
 exact Xk J J J J (X1 [3] Aqc J J J)
theorem eq_Wire (x y:TWire) (hg:Enc.gd x):Con Tryz.prog 148 [] [ag x,ag y] [] (B (decide (x=y))):=by
 obtain⟨g_Seed,g_Delay,g_Jitter,g_Loss,g_Copies,g_Damage,g_Now,g_Flights,g_Sent,g_Lost⟩:=hg
 by_cases e_Seed:¬x.Seed=y.Seed
 ·have hk:decide (x.Seed≠y.Seed)=true:=by simp[e_Seed]
  refine Con.of Tryz.func148 J Tryz.ntmps148 J (fun E => ?_)
  refine Wz [42,41] ?_
  exact Xl J J (X1 [] Aqc J J (Xi (Gqa fun e=>e_Seed (by rw[e])).symm))
 have e_Seed:=Classical.not_not.1 e_Seed
 have k_Seed:decide (x.Seed≠y.Seed)=false:=by simp[e_Seed]
 by_cases e_Delay:¬x.Delay=y.Delay
 ·have hk:decide (x.Delay≠y.Delay)=true:=by simp[e_Delay]
  refine Con.of Tryz.func148 J Tryz.ntmps148 J (fun E => ?_)
  refine Wz [42,108,41] ?_
  exact Xl J J (X1 [] Aqc J J (Xi (Gqa fun e=>e_Delay (by rw[e])).symm))
 have e_Delay:=Classical.not_not.1 e_Delay
 have k_Delay:decide (x.Delay≠y.Delay)=false:=by simp[e_Delay]
 by_cases e_Jitter:¬x.Jitter=y.Jitter
 ·have hk:decide (x.Jitter≠y.Jitter)=true:=by simp[e_Jitter]
  refine Con.of Tryz.func148 J Tryz.ntmps148 J (fun E => ?_)
  refine Wz [42,115,41] ?_
  exact Xl J J (X1 [] Aqc J J (Xi (Gqa fun e=>e_Jitter (by rw[e])).symm))
 have e_Jitter:=Classical.not_not.1 e_Jitter
 have k_Jitter:decide (x.Jitter≠y.Jitter)=false:=by simp[e_Jitter]
 by_cases e_Loss:¬x.Loss=y.Loss
 ·have hk:decide (x.Loss≠y.Loss)=true:=by simp[e_Loss]
  refine Con.of Tryz.func148 J Tryz.ntmps148 J (fun E => ?_)
  refine Wz [42,115,108,41] ?_
  exact Xl J J (X1 [] Aqc J J (Xi (Gqa fun e=>e_Loss (by rw[e])).symm))
 have e_Loss:=Classical.not_not.1 e_Loss
 have k_Loss:decide (x.Loss≠y.Loss)=false:=by simp[e_Loss]
 by_cases e_Copies:¬x.Copies=y.Copies
 ·have hk:decide (x.Copies≠y.Copies)=true:=by simp[e_Copies]
  refine Con.of Tryz.func148 J Tryz.ntmps148 J (fun E => ?_)
  refine Wz [42,122,41] ?_
  exact Xl J J (X1 [] Aqc J J (Xi (Gqa fun e=>e_Copies (by rw[e])).symm))
 have e_Copies:=Classical.not_not.1 e_Copies
 have k_Copies:decide (x.Copies≠y.Copies)=false:=by simp[e_Copies]
 by_cases e_Damage:¬x.Damage=y.Damage
 ·have hk:decide (x.Damage≠y.Damage)=true:=by simp[e_Damage]
  refine Con.of Tryz.func148 J Tryz.ntmps148 J (fun E => ?_)
  refine Wz [42,122,108,41] ?_
  exact Xl J J (X1 [] Aqc J J (Xi (Gqa fun e=>e_Damage (by rw[e])).symm))
 have e_Damage:=Classical.not_not.1 e_Damage
 have k_Damage:decide (x.Damage≠y.Damage)=false:=by simp[e_Damage]
 by_cases e_Now:¬x.Now=y.Now
 ·have hk:decide (x.Now≠y.Now)=true:=by simp[e_Now]
  refine Con.of Tryz.func148 J Tryz.ntmps148 J (fun E => ?_)
  refine Wz [42,122,115,41] ?_
  exact Xl J J (X1 [] Aqc J J (Xi (Gqa fun e=>e_Now (by rw[e])).symm))
 have e_Now:=Classical.not_not.1 e_Now
 have k_Now:decide (x.Now≠y.Now)=false:=by simp[e_Now]
 by_cases e_Flights:¬x.Flights=y.Flights
 ·have hc:=eq_FlightS x.Flights y.Flights g_Flights
  rw[Gqa e_Flights] at hc
  refine Con.of Tryz.func148 J Tryz.ntmps148 J (fun E => ?_)
  refine Wz [42,122,115,108] ?_;refine zx (Qj J J (hc) J) J ?_;refine Wz [5,26] ?_
  exact Xl J J (X1 [] Aqc J J (Xi (Gqa fun e=>e_Flights (by rw[e])).symm))
 have e_Flights:=Classical.not_not.1 e_Flights
 have hc_Flights:=eq_FlightS x.Flights y.Flights g_Flights
 rw[Gqb e_Flights] at hc_Flights
 by_cases e_Sent:¬x.Sent=y.Sent
 ·have hk:decide (x.Sent≠y.Sent)=true:=by simp[e_Sent]
  refine Con.of Tryz.func148 J Tryz.ntmps148 J (fun E => ?_)
  refine Wz [42,122,115,108] ?_;refine zx (Qj J J (hc_Flights) J) J ?_;refine Wz [16,41] ?_
  exact Xl J J (X1 [] Aqc J J (Xi (Gqa fun e=>e_Sent (by rw[e])).symm))
 have e_Sent:=Classical.not_not.1 e_Sent
 have k_Sent:decide (x.Sent≠y.Sent)=false:=by simp[e_Sent]
 by_cases e_Lost:¬x.Lost=y.Lost
 ·have hk:decide (x.Lost≠y.Lost)=true:=by simp[e_Lost]
  refine Con.of Tryz.func148 J Tryz.ntmps148 J (fun E => ?_)
  refine Wz [42,122,115,108] ?_;refine zx (Qj J J (hc_Flights) J) J ?_;refine Wz [16,108,41] ?_
  exact Xl J J (X1 [] Aqc J J (Xi (Gqa fun e=>e_Lost (by rw[e])).symm))
 have e_Lost:=Classical.not_not.1 e_Lost
 have k_Lost:decide (x.Lost≠y.Lost)=false:=by simp[e_Lost]
 refine Con.of Tryz.func148 J Tryz.ntmps148 J (fun E => ?_)
 refine Wz [42,122,115,108] ?_;refine zx (Qj J J (hc_Flights) J) J ?_;refine Wz [16,108,118,33,67] ?_
 exact Xl J J (X1 [] Aqc J J (Xi (Gqb (TWire.same e_Seed e_Delay e_Jitter e_Loss e_Copies e_Damage e_Now e_Flights e_Sent e_Lost)).symm))
theorem sz_WireS (xs:List TWire) (left:Int) (hg:Enc.gd xs) (h0:0≤left) (h1:left≤1048576):Con Tryz.prog 42 [] [al xs,ai left] [] (I (szr (Enc.wt xs) left)):=by
 have hlen:=Yi xs
 have hx:=hg.1
 have hw:Enc.wt xs=xs.length+wts xs:=rfl
 refine Con.of Tryz.func42 J Tryz.ntmps42 J (fun E => ?_)
 refine Wz [12,9,14,84,73,38] ?_
 refine Xb J (fun h => ?_) (fun h => ?_)
 ·refine Wz [39] ?_
  have h2:=Gqc h
  exact Xl J J (X1 [] Aqc J J (Xq (by rw[Kq Aqa])))
 have h2:¬(left-((els xs).length:Int)<0):=Gqd h
 refine Wz [15,11] ?_
 refine Xh (fun m st=>∃ k:Nat,k+m=xs.length∧(((xs.length:Int)+wts (xs.take k)≤left))∧st=(⟨_,[(0,L xs),(1,I (left-(xs.length+wts (xs.take k)))),(5,I k)],[]⟩:St)) (xs.length) ⟨(fun k:Nat=>(⟨_,[(0,L xs),(1,I (left-(xs.length+wts (xs.take k)))),(5,I k)],[]⟩:St)) 0,⟨0,Aqa,by simp[wts]; omega,J⟩,X4 [] Aqc J Aqb (.c J (.cons (Xq (by simp[els,wts])) (.c J (.nil))))⟩ ?_
 rintro m_A _ ⟨k,hk_A,hp_A,rfl⟩
 refine Wz [59] ?_
 refine Xb J (fun h => ?_) (fun h => ?_)
 ·have h3:k<xs.length:=by have:=Gqc h; omega
  have hat:=Yg h3
  have hstep:=Ky xs k h3
  have hle:=Kz xs (k+1)
  have hc:=sz_Wire xs[k] (left-((xs.length:Int)+wts (xs.take k))) (hg.2 _ (Gqe h3)) Aqa Aqa 
  by_cases h4:left-((xs.length:Int)+wts (xs.take k))<Enc.wt xs[k]
  ·rw[Kq h4] at hc
   have hb:decide ((-1:Int)<0)=true:=rfl
   refine Wz [7,9,46,0] ?_;refine zx (Qj J J (hc) J) J ?_;refine Wz [40,177,54] ?_
   exact Xl J J (X1 [] Aqc J J (Xq (by rw[Kq Aqa])))
  ·rw[Kr Aqa] at hc
   have hb:decide (left-((xs.length:Int)+wts (xs.take k))-Enc.wt xs[k]<0)=false:=Gqa Aqa 
   refine Wz [7,9,46,0] ?_;refine zx (Qj J J (hc) J) J ?_;refine Wz [40,44,62] ?_
   exact⟨xs.length-(k+1),Aqa,(fun k:Nat=>(⟨_,[(0,L xs),(1,I (left-(xs.length+wts (xs.take k)))),(5,I k)],[]⟩:St)) (k+1),⟨k+1,Aqa,Aqa,J⟩,X4 [] Aqc J Aqb (.c J (.cons (Xq (by rw[hstep]; omega)) (.c J (.nil))))⟩
 ·have h3:¬((k:Int)<(els xs).length):=Gqd h
  have hk:wts (xs.take k)=wts xs:=by rw[Gqh Aqa]
  refine Wz [31] ?_
  exact Xl J J (X1 [] Aqc J J (Xq (by rw[Kr Aqa]; omega)))
def zWire:List T := [.v (.int .i64 0),.v (.int .i64 0),.v (.int .i64 0),.v (.int .i64 0),.v (.int .i64 0),.v (.int .i64 0),.v (.int .i64 0),.sl 2 [],.v (.int .i64 0),.v (.int .i64 0)]
theorem to_WireS (xs:List TWire) (hg:Enc.wt xs≤1048576):Con Tryz.prog 53 [] [al xs] [.row 10 (els xs)] (Aqg 0):=by
 have hlen:=Yi xs
 have hw:Enc.wt xs=xs.length+wts xs:=rfl
 refine Con.of Tryz.func53 J Tryz.ntmps53 J (fun E => ?_)
 refine Wz [12,10,14] ?_;refine M1 (Ka 2 J J J J Aqa Aqa Aqa J Aqc) J J ?_;refine Wz [2,11] ?_;refine Xh (fun m st=>∃ k:Nat,k+m=xs.length∧(True)∧st=(⟨_,[(0,L xs),(3,Aqg 0),(4,I k)],[.row 10 (part xs zWire k)]⟩:St)) (xs.length) ⟨(fun k:Nat=>(⟨_,[(0,L xs),(3,Aqg 0),(4,I k)],[.row 10 (part xs zWire k)]⟩:St)) 0,⟨0,Aqa,trivial,J⟩,X4 [0] Aqc J (Kj (Zk xs _)) (.c J (.c J (.c J (.nil))))⟩ ?_
 rintro m_A _ ⟨k,hk_A,hp_A,rfl⟩
 refine Wz [59] ?_
 refine Xb J (fun h => ?_) (fun h => ?_)
 ·have h3:k<xs.length:=by have:=Gqc h; omega
  have hat:=Yg h3
  have hz:=Zh xs zWire h3
  have hpl:(k:Int)<(part xs zWire k).length:=by rw[Zi xs _ Aqa]; omega
  have hwt:Enc.wt xs[k]≤wts xs:=Kx xs _ (Gqe h3)
  have hc:=to_Wire xs[k] Aqa 
  refine Wz [7,63,127,46] ?_;refine M1 (Zs J J (hc) J J J) J J ?_;refine Wz [163,188,99] ?_
  exact⟨xs.length-(k+1),Aqa,(fun k:Nat=>(⟨_,[(0,L xs),(3,Aqg 0),(4,I k)],[.row 10 (part xs zWire k)]⟩:St)) (k+1),⟨k+1,Aqa,trivial,J⟩,X4 [0] Aqc J (Kj (Zj xs zWire h3 _ (by rfl) (by rfl)).symm) (.c J (.c J (.c J (.nil))))⟩
 ·have h3:¬((k:Int)<(els xs).length):=Gqd h
  refine Wz [31] ?_
  exact Xl J J (X1 [0] Aqc J (Kj (Zg xs _ Aqa).symm) J)
theorem eq_WireS (xs ys:List TWire) (hn:Enc.gd xs):Con Tryz.prog 65 [] [al xs,al ys] [] (B (decide (xs=ys))):=by
 have hn1:=hn.1
 have hlx:=Yi xs
 have hly:=Yi ys
 by_cases hl:xs.length=ys.length
 ·have hb:decide (((els xs).length:Int)≠((els ys).length:Int))=false:=by rw[hlx,hly,hl]; simp
  refine Con.of Tryz.func65 J Tryz.ntmps65 J (fun E => ?_)
  refine Wz [105,14,118,33,11] ?_;refine Xh (fun m st=>∃ k:Nat,k+m=xs.length∧(xs.take k=ys.take k)∧st=(⟨_,[(0,L xs),(1,L ys),(5,I k)],[]⟩:St)) (xs.length) ⟨_,⟨0,Aqa,Aqd,J⟩,X3 [] Aqb⟩ ?_
  rintro m_A _ ⟨k,hk_A,hp_A,rfl⟩
  refine Wz [59] ?_
  refine Xb J (fun h => ?_) (fun h => ?_)
  ·have h3:k<xs.length:=by have:=Gqc h; omega
   have h4:k<ys.length:=Aqa
   have hat:=Yg h3
   have hat2:=Yg h4
   have hc:=eq_Wire xs[k] ys[k] (hn.2 _ (Gqe h3))
   by_cases he:xs[k]=ys[k]
   ·rw[Gqb he] at hc
    refine Wz [88,128,95,95] ?_;refine DR.s (Qj J J (hc) J) J J ?_;refine Wz [74,13,81,62] ?_
    exact⟨xs.length-(k+1),Aqa,_,⟨k+1,Aqa,Yp h3 h4 hp_A he,J⟩,X3 [] Aqb⟩
   ·rw[Gqa he] at hc
    refine Wz [88,128,95,95] ?_;refine DR.s (Qj J J (hc) J) J J ?_;refine Wz [74,13,24,54] ?_
    exact Xl J J (X1 [] Aqc J J (Xi (eq_ne h3 h4 he).symm))
  ·have h3:¬((k:Int)<(els xs).length):=Gqd h
   refine Wz [20,67] ?_
   exact Xl J J (X1 [] Aqc J J (Xi (Yn Aqa hl hp_A).symm))
 ·have hb:decide (((els xs).length:Int)≠((els ys).length:Int))=true:=by rw[hlx,hly]; simp; omega
  refine Con.of Tryz.func65 J Tryz.ntmps65 J (fun E => ?_)
  refine Wz [105,14,41] ?_
  exact Xl J J (X1 [] Aqc J J (Xi (Yo hl).symm))
theorem sz_WireSS (xs:List (List TWire)) (left:Int) (hg:Enc.gd xs) (h0:0≤left) (h1:left≤1048576):Con Tryz.prog 39 [] [al xs,ai left] [] (I (szr (Enc.wt xs) left)):=by
 have hlen:=Yi xs
 have hx:=hg.1
 have hw:Enc.wt xs=xs.length+wts xs:=rfl
 refine Con.of Tryz.func39 J Tryz.ntmps39 J (fun E => ?_)
 refine Wz [12,9,14,84,73,38] ?_
 refine Xb J (fun h => ?_) (fun h => ?_)
 ·refine Wz [39] ?_
  have h2:=Gqc h
  exact Xl J J (X1 [] Aqc J J (Xq (by rw[Kq Aqa])))
 have h2:¬(left-((els xs).length:Int)<0):=Gqd h
 refine Wz [15,11] ?_
 refine Xh (fun m st=>∃ k:Nat,k+m=xs.length∧(((xs.length:Int)+wts (xs.take k)≤left))∧st=(⟨_,[(0,L xs),(1,I (left-(xs.length+wts (xs.take k)))),(5,I k)],[]⟩:St)) (xs.length) ⟨(fun k:Nat=>(⟨_,[(0,L xs),(1,I (left-(xs.length+wts (xs.take k)))),(5,I k)],[]⟩:St)) 0,⟨0,Aqa,by simp[wts]; omega,J⟩,X4 [] Aqc J Aqb (.c J (.cons (Xq (by simp[els,wts])) (.c J (.nil))))⟩ ?_
 rintro m_A _ ⟨k,hk_A,hp_A,rfl⟩
 refine Wz [59] ?_
 refine Xb J (fun h => ?_) (fun h => ?_)
 ·have h3:k<xs.length:=by have:=Gqc h; omega
  have hat:=Yg h3
  have hstep:=Ky xs k h3
  have hle:=Kz xs (k+1)
  have hc:=sz_WireS xs[k] (left-((xs.length:Int)+wts (xs.take k))) (hg.2 _ (Gqe h3)) Aqa Aqa 
  by_cases h4:left-((xs.length:Int)+wts (xs.take k))<Enc.wt xs[k]
  ·rw[Kq h4] at hc
   have hb:decide ((-1:Int)<0)=true:=rfl
   refine Wz [7,9,133,114] ?_;refine zx (Qj J J (hc) J) J ?_;refine Wz [40,177,54] ?_
   exact Xl J J (X1 [] Aqc J J (Xq (by rw[Kq Aqa])))
  ·rw[Kr Aqa] at hc
   have hb:decide (left-((xs.length:Int)+wts (xs.take k))-Enc.wt xs[k]<0)=false:=Gqa Aqa 
   refine Wz [7,9,133,114] ?_;refine zx (Qj J J (hc) J) J ?_;refine Wz [40,44,62] ?_
   exact⟨xs.length-(k+1),Aqa,(fun k:Nat=>(⟨_,[(0,L xs),(1,I (left-(xs.length+wts (xs.take k)))),(5,I k)],[]⟩:St)) (k+1),⟨k+1,Aqa,Aqa,J⟩,X4 [] Aqc J Aqb (.c J (.cons (Xq (by rw[hstep]; omega)) (.c J (.nil))))⟩
 ·have h3:¬((k:Int)<(els xs).length):=Gqd h
  have hk:wts (xs.take k)=wts xs:=by rw[Gqh Aqa]
  refine Wz [31] ?_
  exact Xl J J (X1 [] Aqc J J (Xq (by rw[Kr Aqa]; omega)))
theorem to_WireSS (xs:List (List TWire)) (hg:Enc.wt xs≤1048576):Con Tryz.prog 50 [] [al xs] [.row 1 (els xs)] (Aqg 0):=by
 have hlen:=Yi xs
 have hw:Enc.wt xs=xs.length+wts xs:=rfl
 refine Con.of Tryz.func50 J Tryz.ntmps50 J (fun E => ?_)
 refine Wz [12,10,14] ?_;refine M1 (Ka 10 J J J J Aqa Aqa Aqa J Aqc) J J ?_;refine Wz [2,11] ?_;refine Xh (fun m st=>∃ k:Nat,k+m=xs.length∧(True)∧st=(⟨_,[(0,L xs),(3,Aqg 0),(4,I k)],[.row 1 (part xs [.sl 10 []] k)]⟩:St)) (xs.length) ⟨(fun k:Nat=>(⟨_,[(0,L xs),(3,Aqg 0),(4,I k)],[.row 1 (part xs [.sl 10 []] k)]⟩:St)) 0,⟨0,Aqa,trivial,J⟩,X4 [0] Aqc J (Kj (Zk xs _)) (.c J (.c J (.c J (.nil))))⟩ ?_
 rintro m_A _ ⟨k,hk_A,hp_A,rfl⟩
 refine Wz [59] ?_
 refine Xb J (fun h => ?_) (fun h => ?_)
 ·have h3:k<xs.length:=by have:=Gqc h; omega
  have hat:=Yg h3
  have hz:=Zh xs [.sl 10 []] h3
  have hpl:(k:Int)<(part xs [.sl 10 []] k).length:=by rw[Zi xs _ Aqa]; omega
  have hwt:Enc.wt xs[k]≤wts xs:=Kx xs _ (Gqe h3)
  have hc:=to_WireS xs[k] Aqa 
  refine Wz [7,63,127,80] ?_;refine M1 (Zs J J (hc) J J J) J J ?_;refine Wz [163,204,99] ?_
  exact⟨xs.length-(k+1),Aqa,(fun k:Nat=>(⟨_,[(0,L xs),(3,Aqg 0),(4,I k)],[.row 1 (part xs [.sl 10 []] k)]⟩:St)) (k+1),⟨k+1,Aqa,trivial,J⟩,X4 [0] Aqc J (Kj (Zj xs [.sl 10 []] h3 _ (by rfl) (by rfl)).symm) (.c J (.c J (.c J (.nil))))⟩
 ·have h3:¬((k:Int)<(els xs).length):=Gqd h
  refine Wz [31] ?_
  exact Xl J J (X1 [0] Aqc J (Kj (Zg xs _ Aqa).symm) J)
theorem eq_WireSS (xs ys:List (List TWire)) (hn:Enc.gd xs):Con Tryz.prog 62 [] [al xs,al ys] [] (B (decide (xs=ys))):=by
 have hn1:=hn.1
 have hlx:=Yi xs
 have hly:=Yi ys
 by_cases hl:xs.length=ys.length
 ·have hb:decide (((els xs).length:Int)≠((els ys).length:Int))=false:=by rw[hlx,hly,hl]; simp
  refine Con.of Tryz.func62 J Tryz.ntmps62 J (fun E => ?_)
  refine Wz [105,14,118,33,11] ?_;refine Xh (fun m st=>∃ k:Nat,k+m=xs.length∧(xs.take k=ys.take k)∧st=(⟨_,[(0,L xs),(1,L ys),(5,I k)],[]⟩:St)) (xs.length) ⟨_,⟨0,Aqa,Aqd,J⟩,X3 [] Aqb⟩ ?_
  rintro m_A _ ⟨k,hk_A,hp_A,rfl⟩
  refine Wz [59] ?_
  refine Xb J (fun h => ?_) (fun h => ?_)
  ·have h3:k<xs.length:=by have:=Gqc h; omega
   have h4:k<ys.length:=Aqa
   have hat:=Yg h3
   have hat2:=Yg h4
   have hc:=eq_WireS xs[k] ys[k] (hn.2 _ (Gqe h3))
   by_cases he:xs[k]=ys[k]
   ·rw[Gqb he] at hc
    refine Wz [88,128,120,29,120,29] ?_;refine DR.s (Qj J J (hc) J) J J ?_;refine Wz [74,13,81,62] ?_
    exact⟨xs.length-(k+1),Aqa,_,⟨k+1,Aqa,Yp h3 h4 hp_A he,J⟩,X3 [] Aqb⟩
   ·rw[Gqa he] at hc
    refine Wz [88,128,120,29,120,29] ?_;refine DR.s (Qj J J (hc) J) J J ?_;refine Wz [74,13,24,54] ?_
    exact Xl J J (X1 [] Aqc J J (Xi (eq_ne h3 h4 he).symm))
  ·have h3:¬((k:Int)<(els xs).length):=Gqd h
   refine Wz [20,67] ?_
   exact Xl J J (X1 [] Aqc J J (Xi (Yn Aqa hl hp_A).symm))
 ·have hb:decide (((els xs).length:Int)≠((els ys).length:Int))=true:=by rw[hlx,hly]; simp; omega
  refine Con.of Tryz.func62 J Tryz.ntmps62 J (fun E => ?_)
  refine Wz [105,14,41] ?_
  exact Xl J J (X1 [] Aqc J J (Xi (Yo hl).symm))
theorem sz_PaceSS (xs:List (List TPace)) (left:Int) (hg:Enc.gd xs) (h0:0≤left) (h1:left≤1048576):Con Tryz.prog 40 [] [al xs,ai left] [] (I (szr (Enc.wt xs) left)):=by
 have hlen:=Yi xs
 have hx:=hg.1
 have hw:Enc.wt xs=xs.length+wts xs:=rfl
 refine Con.of Tryz.func40 J Tryz.ntmps40 J (fun E => ?_)
 refine Wz [12,9,14,84,73,38] ?_
 refine Xb J (fun h => ?_) (fun h => ?_)
 ·refine Wz [39] ?_
  have h2:=Gqc h
  exact Xl J J (X1 [] Aqc J J (Xq (by rw[Kq Aqa])))
 have h2:¬(left-((els xs).length:Int)<0):=Gqd h
 refine Wz [15,11] ?_
 refine Xh (fun m st=>∃ k:Nat,k+m=xs.length∧(((xs.length:Int)+wts (xs.take k)≤left))∧st=(⟨_,[(0,L xs),(1,I (left-(xs.length+wts (xs.take k)))),(5,I k)],[]⟩:St)) (xs.length) ⟨(fun k:Nat=>(⟨_,[(0,L xs),(1,I (left-(xs.length+wts (xs.take k)))),(5,I k)],[]⟩:St)) 0,⟨0,Aqa,by simp[wts]; omega,J⟩,X4 [] Aqc J Aqb (.c J (.cons (Xq (by simp[els,wts])) (.c J (.nil))))⟩ ?_
 rintro m_A _ ⟨k,hk_A,hp_A,rfl⟩
 refine Wz [59] ?_
 refine Xb J (fun h => ?_) (fun h => ?_)
 ·have h3:k<xs.length:=by have:=Gqc h; omega
  have hat:=Yg h3
  have hstep:=Ky xs k h3
  have hle:=Kz xs (k+1)
  have hc:=sz_PaceS xs[k] (left-((xs.length:Int)+wts (xs.take k))) (hg.2 _ (Gqe h3)) Aqa Aqa 
  by_cases h4:left-((xs.length:Int)+wts (xs.take k))<Enc.wt xs[k]
  ·rw[Kq h4] at hc
   have hb:decide ((-1:Int)<0)=true:=rfl
   refine Wz [7,9,133,114] ?_;refine zx (Qj J J (hc) J) J ?_;refine Wz [40,177,54] ?_
   exact Xl J J (X1 [] Aqc J J (Xq (by rw[Kq Aqa])))
  ·rw[Kr Aqa] at hc
   have hb:decide (left-((xs.length:Int)+wts (xs.take k))-Enc.wt xs[k]<0)=false:=Gqa Aqa 
   refine Wz [7,9,133,114] ?_;refine zx (Qj J J (hc) J) J ?_;refine Wz [40,44,62] ?_
   exact⟨xs.length-(k+1),Aqa,(fun k:Nat=>(⟨_,[(0,L xs),(1,I (left-(xs.length+wts (xs.take k)))),(5,I k)],[]⟩:St)) (k+1),⟨k+1,Aqa,Aqa,J⟩,X4 [] Aqc J Aqb (.c J (.cons (Xq (by rw[hstep]; omega)) (.c J (.nil))))⟩
 ·have h3:¬((k:Int)<(els xs).length):=Gqd h
  have hk:wts (xs.take k)=wts xs:=by rw[Gqh Aqa]
  refine Wz [31] ?_
  exact Xl J J (X1 [] Aqc J J (Xq (by rw[Kr Aqa]; omega)))
theorem to_PaceSS (xs:List (List TPace)) (hg:Enc.wt xs≤1048576):Con Tryz.prog 51 [] [al xs] [.row 1 (els xs)] (Aqg 0):=by
 have hlen:=Yi xs
 have hw:Enc.wt xs=xs.length+wts xs:=rfl
 refine Con.of Tryz.func51 J Tryz.ntmps51 J (fun E => ?_)
 refine Wz [12,10,14] ?_;refine M1 (Ka 5 J J J J Aqa Aqa Aqa J Aqc) J J ?_;refine Wz [2,11] ?_;refine Xh (fun m st=>∃ k:Nat,k+m=xs.length∧(True)∧st=(⟨_,[(0,L xs),(3,Aqg 0),(4,I k)],[.row 1 (part xs [.sl 5 []] k)]⟩:St)) (xs.length) ⟨(fun k:Nat=>(⟨_,[(0,L xs),(3,Aqg 0),(4,I k)],[.row 1 (part xs [.sl 5 []] k)]⟩:St)) 0,⟨0,Aqa,trivial,J⟩,X4 [0] Aqc J (Kj (Zk xs _)) (.c J (.c J (.c J (.nil))))⟩ ?_
 rintro m_A _ ⟨k,hk_A,hp_A,rfl⟩
 refine Wz [59] ?_
 refine Xb J (fun h => ?_) (fun h => ?_)
 ·have h3:k<xs.length:=by have:=Gqc h; omega
  have hat:=Yg h3
  have hz:=Zh xs [.sl 5 []] h3
  have hpl:(k:Int)<(part xs [.sl 5 []] k).length:=by rw[Zi xs _ Aqa]; omega
  have hwt:Enc.wt xs[k]≤wts xs:=Kx xs _ (Gqe h3)
  have hc:=to_PaceS xs[k] Aqa 
  refine Wz [7,63,127,80] ?_;refine M1 (Zs J J (hc) J J J) J J ?_;refine Wz [163,204,99] ?_
  exact⟨xs.length-(k+1),Aqa,(fun k:Nat=>(⟨_,[(0,L xs),(3,Aqg 0),(4,I k)],[.row 1 (part xs [.sl 5 []] k)]⟩:St)) (k+1),⟨k+1,Aqa,trivial,J⟩,X4 [0] Aqc J (Kj (Zj xs [.sl 5 []] h3 _ (by rfl) (by rfl)).symm) (.c J (.c J (.c J (.nil))))⟩
 ·have h3:¬((k:Int)<(els xs).length):=Gqd h
  refine Wz [31] ?_
  exact Xl J J (X1 [0] Aqc J (Kj (Zg xs _ Aqa).symm) J)
theorem eq_PaceSS (xs ys:List (List TPace)) (hn:Enc.gd xs):Con Tryz.prog 63 [] [al xs,al ys] [] (B (decide (xs=ys))):=by
 have hn1:=hn.1
 have hlx:=Yi xs
 have hly:=Yi ys
 by_cases hl:xs.length=ys.length
 ·have hb:decide (((els xs).length:Int)≠((els ys).length:Int))=false:=by rw[hlx,hly,hl]; simp
  refine Con.of Tryz.func63 J Tryz.ntmps63 J (fun E => ?_)
  refine Wz [105,14,118,33,11] ?_;refine Xh (fun m st=>∃ k:Nat,k+m=xs.length∧(xs.take k=ys.take k)∧st=(⟨_,[(0,L xs),(1,L ys),(5,I k)],[]⟩:St)) (xs.length) ⟨_,⟨0,Aqa,Aqd,J⟩,X3 [] Aqb⟩ ?_
  rintro m_A _ ⟨k,hk_A,hp_A,rfl⟩
  refine Wz [59] ?_
  refine Xb J (fun h => ?_) (fun h => ?_)
  ·have h3:k<xs.length:=by have:=Gqc h; omega
   have h4:k<ys.length:=Aqa
   have hat:=Yg h3
   have hat2:=Yg h4
   have hc:=eq_PaceS xs[k] ys[k] (hn.2 _ (Gqe h3))
   by_cases he:xs[k]=ys[k]
   ·rw[Gqb he] at hc
    refine Wz [88,128,120,29,120,29] ?_;refine DR.s (Qj J J (hc) J) J J ?_;refine Wz [74,13,81,62] ?_
    exact⟨xs.length-(k+1),Aqa,_,⟨k+1,Aqa,Yp h3 h4 hp_A he,J⟩,X3 [] Aqb⟩
   ·rw[Gqa he] at hc
    refine Wz [88,128,120,29,120,29] ?_;refine DR.s (Qj J J (hc) J) J J ?_;refine Wz [74,13,24,54] ?_
    exact Xl J J (X1 [] Aqc J J (Xi (eq_ne h3 h4 he).symm))
  ·have h3:¬((k:Int)<(els xs).length):=Gqd h
   refine Wz [20,67] ?_
   exact Xl J J (X1 [] Aqc J J (Xi (Yn Aqa hl hp_A).symm))
 ·have hb:decide (((els xs).length:Int)≠((els ys).length:Int))=true:=by rw[hlx,hly]; simp; omega
  refine Con.of Tryz.func63 J Tryz.ntmps63 J (fun E => ?_)
  refine Wz [105,14,41] ?_
  exact Xl J J (X1 [] Aqc J J (Xi (Yo hl).symm))
end
section
open Go.RowKit

theorem sz_PeerS (xs:List TPeer) (left:Int) (hg:Enc.gd xs) (h0:0≤left) (h1:left≤1048576):Con Tryz.prog 38 [] [al xs,ai left] [] (I (szr (Enc.wt xs) left)):=by
 have hlen:=Yi xs
 have hx:=hg.1
 have hw:Enc.wt xs=xs.length+wts xs:=rfl
 refine Con.of Tryz.func38 J Tryz.ntmps38 J (fun E => ?_)
 refine Wz [12,9,14,84,73,38] ?_
 refine Xb J (fun h => ?_) (fun h => ?_)
 ·refine Wz [39] ?_
  have h2:=Gqc h
  exact Xl J J (X1 [] Aqc J J (Xq (by rw[Kq Aqa])))
 have h2:¬(left-((els xs).length:Int)<0):=Gqd h
 refine Wz [15,11] ?_
 refine Xh (fun m st=>∃ k:Nat,k+m=xs.length∧(((xs.length:Int)+wts (xs.take k)≤left))∧st=(⟨_,[(0,L xs),(1,I (left-(xs.length+wts (xs.take k)))),(5,I k)],[]⟩:St)) (xs.length) ⟨(fun k:Nat=>(⟨_,[(0,L xs),(1,I (left-(xs.length+wts (xs.take k)))),(5,I k)],[]⟩:St)) 0,⟨0,Aqa,by simp[wts]; omega,J⟩,X4 [] Aqc J Aqb (.c J (.cons (Xq (by simp[els,wts])) (.c J (.nil))))⟩ ?_
 rintro m_A _ ⟨k,hk_A,hp_A,rfl⟩
 refine Wz [59] ?_
 refine Xb J (fun h => ?_) (fun h => ?_)
 ·have h3:k<xs.length:=by have:=Gqc h; omega
  have hat:=Yg h3
  have hstep:=Ky xs k h3
  have hle:=Kz xs (k+1)
  have hc:=sz_Peer xs[k] (left-((xs.length:Int)+wts (xs.take k))) (hg.2 _ (Gqe h3)) Aqa Aqa 
  by_cases h4:left-((xs.length:Int)+wts (xs.take k))<Enc.wt xs[k]
  ·rw[Kq h4] at hc
   have hb:decide ((-1:Int)<0)=true:=rfl
   refine Wz [7,9,46,0] ?_;refine zx (Qj J J (hc) J) J ?_;refine Wz [40,177,54] ?_
   exact Xl J J (X1 [] Aqc J J (Xq (by rw[Kq Aqa])))
  ·rw[Kr Aqa] at hc
   have hb:decide (left-((xs.length:Int)+wts (xs.take k))-Enc.wt xs[k]<0)=false:=Gqa Aqa 
   refine Wz [7,9,46,0] ?_;refine zx (Qj J J (hc) J) J ?_;refine Wz [40,44,62] ?_
   exact⟨xs.length-(k+1),Aqa,(fun k:Nat=>(⟨_,[(0,L xs),(1,I (left-(xs.length+wts (xs.take k)))),(5,I k)],[]⟩:St)) (k+1),⟨k+1,Aqa,Aqa,J⟩,X4 [] Aqc J Aqb (.c J (.cons (Xq (by rw[hstep]; omega)) (.c J (.nil))))⟩
 ·have h3:¬((k:Int)<(els xs).length):=Gqd h
  have hk:wts (xs.take k)=wts xs:=by rw[Gqh Aqa]
  refine Wz [31] ?_
  exact Xl J J (X1 [] Aqc J J (Xq (by rw[Kr Aqa]; omega)))
def zPeer:List T := [.v (.int .i64 0),.v (.int .i64 0),.v (.int .i64 0),.v (.int .i64 0),.sl 1 [],.sl 1 [],.v (.int .i64 0),.v (.int .i64 0),.sl 1 [],.sl 1 [],.sl 1 [],.v (.int .i64 0),.v (.int .i64 0),.sl 1 [],.sl 1 [],.sl 1 [],.sl 1 [],.sl 1 [],.v (.int .i64 0),.v (.int .i64 0),.v (.int .i64 0),.v (.int .i64 0),.v (.int .i64 0)]
theorem to_PeerS (xs:List TPeer) (hg:Enc.wt xs≤1048576):Con Tryz.prog 49 [] [al xs] [.row 23 (els xs)] (Aqg 0):=by
 have hlen:=Yi xs
 have hw:Enc.wt xs=xs.length+wts xs:=rfl
 refine Con.of Tryz.func49 J Tryz.ntmps49 J (fun E => ?_)
 refine Wz [12,10,14,229,2,11] ?_;refine Xh (fun m st=>∃ k:Nat,k+m=xs.length∧(True)∧st=(⟨_,[(0,L xs),(3,Aqg 0),(4,I k)],[.row 23 (part xs zPeer k)]⟩:St)) (xs.length) ⟨(fun k:Nat=>(⟨_,[(0,L xs),(3,Aqg 0),(4,I k)],[.row 23 (part xs zPeer k)]⟩:St)) 0,⟨0,Aqa,trivial,J⟩,X4 [0] Aqc J (Kj (Zk xs _)) (.c J (.c J (.c J (.nil))))⟩ ?_
 rintro m_A _ ⟨k,hk_A,hp_A,rfl⟩
 refine Wz [59] ?_
 refine Xb J (fun h => ?_) (fun h => ?_)
 ·have h3:k<xs.length:=by have:=Gqc h; omega
  have hat:=Yg h3
  have hz:=Zh xs zPeer h3
  have hpl:(k:Int)<(part xs zPeer k).length:=by rw[Zi xs _ Aqa]; omega
  have hwt:Enc.wt xs[k]≤wts xs:=Kx xs _ (Gqe h3)
  have hc:=to_Peer xs[k] Aqa 
  refine Wz [7,63,127,46] ?_;refine M1 (Zs J J (hc) J J J) J J ?_;refine Wz [163,188,99] ?_
  exact⟨xs.length-(k+1),Aqa,(fun k:Nat=>(⟨_,[(0,L xs),(3,Aqg 0),(4,I k)],[.row 23 (part xs zPeer k)]⟩:St)) (k+1),⟨k+1,Aqa,trivial,J⟩,X4 [0] Aqc J (Kj (Zj xs zPeer h3 _ (by rfl) (by rfl)).symm) (.c J (.c J (.c J (.nil))))⟩
 ·have h3:¬((k:Int)<(els xs).length):=Gqd h
  refine Wz [31] ?_
  exact Xl J J (X1 [0] Aqc J (Kj (Zg xs _ Aqa).symm) J)
theorem eq_PeerS (xs ys:List TPeer) (hn:Enc.gd xs):Con Tryz.prog 61 [] [al xs,al ys] [] (B (decide (xs=ys))):=by
 have hn1:=hn.1
 have hlx:=Yi xs
 have hly:=Yi ys
 by_cases hl:xs.length=ys.length
 ·have hb:decide (((els xs).length:Int)≠((els ys).length:Int))=false:=by rw[hlx,hly,hl]; simp
  refine Con.of Tryz.func61 J Tryz.ntmps61 J (fun E => ?_)
  refine Wz [105,14,118,33,11] ?_;refine Xh (fun m st=>∃ k:Nat,k+m=xs.length∧(xs.take k=ys.take k)∧st=(⟨_,[(0,L xs),(1,L ys),(5,I k)],[]⟩:St)) (xs.length) ⟨_,⟨0,Aqa,Aqd,J⟩,X3 [] Aqb⟩ ?_
  rintro m_A _ ⟨k,hk_A,hp_A,rfl⟩
  refine Wz [59] ?_
  refine Xb J (fun h => ?_) (fun h => ?_)
  ·have h3:k<xs.length:=by have:=Gqc h; omega
   have h4:k<ys.length:=Aqa
   have hat:=Yg h3
   have hat2:=Yg h4
   have hc:=eq_Peer xs[k] ys[k] (hn.2 _ (Gqe h3))
   by_cases he:xs[k]=ys[k]
   ·rw[Gqb he] at hc
    refine Wz [88,128,95,95] ?_;refine DR.s (Qj J J (hc) J) J J ?_;refine Wz [74,13,81,62] ?_
    exact⟨xs.length-(k+1),Aqa,_,⟨k+1,Aqa,Yp h3 h4 hp_A he,J⟩,X3 [] Aqb⟩
   ·rw[Gqa he] at hc
    refine Wz [88,128,95,95] ?_;refine DR.s (Qj J J (hc) J) J J ?_;refine Wz [74,13,24,54] ?_
    exact Xl J J (X1 [] Aqc J J (Xi (eq_ne h3 h4 he).symm))
  ·have h3:¬((k:Int)<(els xs).length):=Gqd h
   refine Wz [20,67] ?_
   exact Xl J J (X1 [] Aqc J J (Xi (Yn Aqa hl hp_A).symm))
 ·have hb:decide (((els xs).length:Int)≠((els ys).length:Int))=true:=by rw[hlx,hly]; simp; omega
  refine Con.of Tryz.func61 J Tryz.ntmps61 J (fun E => ?_)
  refine Wz [105,14,41] ?_
  exact Xl J J (X1 [] Aqc J J (Xi (Yo hl).symm))
end
end Go.Proofs.YtfklmiijhcajdaaGreat
