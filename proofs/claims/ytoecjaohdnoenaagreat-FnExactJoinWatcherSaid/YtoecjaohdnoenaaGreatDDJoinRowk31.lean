/-
  Rules, data and contracts of functions: part 32 of the proof.
  Conditions: those that each theorem names.
-/
import Derived.Test.YtoecjaohdnoenaaGreatDDJoinRowk17
set_option linter.unusedVariables false
set_option linter.unusedSimpArgs false
set_option maxRecDepth 8000
set_option maxHeartbeats 8000000
namespace Go.Proofs.YtoecjaohdnoenaaGreat
section
open Go.RowKit

theorem wts_pace:∀ xs:List TPace,wts xs=0
 | []=>rfl
 |x::xs=>by simp[wts,wts_pace xs,Enc.wt]
theorem sz_PaceS (xs:List TPace) (left:Int) (hg:Enc.gd xs) (h0:0≤left) (h1:left≤1048576):Con Tryz.prog 204 [] [al xs,ai left] [] (I (szr (Enc.wt xs) left)):=by
 have hlen:=Yf xs
 have hx:=hg.1
 have hw:Enc.wt xs=xs.length:=by simp[Enc.wt,wts_pace]
 refine Con.of Tryz.func204 J Tryz.ntmps204 J (fun E => ?_)
 refine Wz [1,5,7,14,74,46,38] ?_
 refine Q9 J (fun h => ?_) (fun h => ?_)
 ·refine Wz [35] ?_
  have h2:=Gqc (p:=_) (by simpa using h)
  exact Xk J J (Xw [] (by decide) J J (Xn (by rw[Kl (by omega)])))
 ·refine Wz [64,9,5] ?_
  refine Wz [99] ?_
  have h2:=Gqe h
  exact Xk J J (Xw [] (by decide) J J (Xn (by rw[Km (by omega)]; omega)))
theorem sz_FlightS (xs:List TFlight) (left:Int) (hg:Enc.gd xs) (h0:0≤left) (h1:left≤1048576):Con Tryz.prog 55 [] [al xs,ai left] [] (I (szr (Enc.wt xs) left)):=by
 have hlen:=Yf xs
 have hx:=hg.1
 have hw:Enc.wt xs=xs.length+wts xs:=rfl
 refine Con.of Tryz.func55 J Tryz.ntmps55 J (fun E => ?_)
 refine Wz [1,5,7,14,74,46,38] ?_
 refine Q9 J (fun h => ?_) (fun h => ?_)
 ·refine Wz [35] ?_
  have h2:=Gqc h
  exact Xk J J (Xw [] (by decide) J J (Xn (by rw[Kl (by omega)])))
 have h2:¬(left-((els xs).length:Int)<0):=Gqe h
 refine Wz [48,44] ?_
 refine Xf (fun m st=>∃ k:Nat,k+m=xs.length∧(((xs.length:Int)+wts (xs.take k)≤left))∧st=(⟨_,[(0,L xs),(1,I (left-(xs.length+wts (xs.take k)))),(5,I k)],[]⟩:St)) (xs.length) ⟨(fun k:Nat=>(⟨_,[(0,L xs),(1,I (left-(xs.length+wts (xs.take k)))),(5,I k)],[]⟩:St)) 0,⟨0,by omega,by simp[wts]; omega,J⟩,Xz [] (by decide) J (by kernel_rfl) (.c J (.cons (Xn (by simp[els,wts])) (.c J (.nil))))⟩ ?_
 rintro m_A _ ⟨k,hk_A,hp_A,rfl⟩
 refine Wz [57] ?_
 refine Q9 J (fun h => ?_) (fun h => ?_)
 ·have h3:k<xs.length:=by have:=Gqc h; omega
  have hat:=Yc h3
  have hstep:=Kv xs k h3
  have hle:=Kw xs (k+1)
  have hc:=sz_Flight xs[k] (left-((xs.length:Int)+wts (xs.take k))) (hg.2 _ (Gqd h3)) (by omega) (by omega)
  by_cases h4:left-((xs.length:Int)+wts (xs.take k))<Enc.wt xs[k]
  ·rw[Kl h4] at hc
   have hb:decide ((-1:Int)<0)=true:=rfl
   refine Wz [6,7,37,0] ?_;refine zx (Qj J J (hc) J) J ?_;refine Wz [19,170,51] ?_
   exact Xk J J (Xw [] (by decide) J J (Xn (by rw[Kl (by omega)])))
  ·rw[Km (by omega)] at hc
   have hb:decide (left-((xs.length:Int)+wts (xs.take k))-Enc.wt xs[k]<0)=false:=Gqa (by omega)
   refine Wz [6,7,37,0] ?_;refine zx (Qj J J (hc) J) J ?_;refine Wz [19,32,58] ?_
   exact⟨xs.length-(k+1),by omega,(fun k:Nat=>(⟨_,[(0,L xs),(1,I (left-(xs.length+wts (xs.take k)))),(5,I k)],[]⟩:St)) (k+1),⟨k+1,by omega,by omega,J⟩,Xz [] (by decide) J (by kernel_rfl) (.c J (.cons (Xn (by rw[hstep]; omega)) (.c J (.nil))))⟩
 ·have h3:¬((k:Int)<(els xs).length):=Gqe h
  have hk:wts (xs.take k)=wts xs:=by rw[Gqh (by omega)]
  refine Wz [27] ?_
  exact Xk J J (Xw [] (by decide) J J (Xn (by rw[Km (by omega)]; omega)))
def zFlight:List T := [.v (.int .i64 0),.v (.string ⟨#[]⟩)]
theorem to_FlightS (xs:List TFlight) (hg:Enc.wt xs≤1048576):Con Tryz.prog 63 [] [al xs] [.row 2 (els xs)] (.o (.c (.ref 0))):=by
 have hlen:=Yf xs
 have hw:Enc.wt xs=xs.length+wts xs:=rfl
 refine Con.of Tryz.func63 J Tryz.ntmps63 J (fun E => ?_)
 refine Wz [1,19,14,219,130] ?_;refine Xf (fun m st=>∃ k:Nat,k+m=xs.length∧(True)∧st=(⟨_,[(0,L xs),(3,.o (.c (.ref 0))),(4,I k)],[.row 2 (part xs zFlight k)]⟩:St)) (xs.length) ⟨(fun k:Nat=>(⟨_,[(0,L xs),(3,.o (.c (.ref 0))),(4,I k)],[.row 2 (part xs zFlight k)]⟩:St)) 0,⟨0,by omega,trivial,J⟩,Xz [0] (by decide) J (Kf (Zd xs _)) (.c J (.c J (.c J (.nil))))⟩ ?_
 rintro m_A _ ⟨k,hk_A,hp_A,rfl⟩
 refine Wz [57] ?_
 refine Q9 J (fun h => ?_) (fun h => ?_)
 ·have h3:k<xs.length:=by have:=Gqc h; omega
  have hat:=Yc h3
  have hz:=Za xs zFlight h3
  have hpl:(k:Int)<(part xs zFlight k).length:=by rw[Zb xs _ (by omega)]; omega
  have hwt:Enc.wt xs[k]≤wts xs:=Ku xs _ (Gqd h3)
  have hc:=to_Flight xs[k] (by omega)
  refine Wz [6,78,131,37] ?_;refine M1 (Zm J J (hc) J J J) J J ?_;refine Wz [165,193,93] ?_
  exact⟨xs.length-(k+1),by omega,(fun k:Nat=>(⟨_,[(0,L xs),(3,.o (.c (.ref 0))),(4,I k)],[.row 2 (part xs zFlight k)]⟩:St)) (k+1),⟨k+1,by omega,trivial,J⟩,Xz [0] (by decide) J (Kf (Zc xs zFlight h3 _ (by rfl) (by rfl)).symm) (.c J (.c J (.c J (.nil))))⟩
 ·have h3:¬((k:Int)<(els xs).length):=Gqe h
  refine Wz [27] ?_
  exact Xk J J (Xw [0] (by decide) J (Kf (Y9 xs _ (by omega)).symm) J)
theorem eq_FlightS (xs ys:List TFlight) (hn:Enc.gd xs):Con Tryz.prog 78 [] [al xs,al ys] [] (B (decide (xs=ys))):=by
 have hn1:=hn.1
 have hlx:=Yf xs
 have hly:=Yf ys
 by_cases hl:xs.length=ys.length
 ·have hb:decide (((els xs).length:Int)≠((els ys).length:Int))=false:=by rw[hlx,hly,hl]; simp
  refine Con.of Tryz.func78 J Tryz.ntmps78 J (fun E => ?_)
  refine Wz [100,14,83,39,44] ?_;refine Xf (fun m st=>∃ k:Nat,k+m=xs.length∧(xs.take k=ys.take k)∧st=(⟨_,[(0,L xs),(1,L ys),(5,I k)],[]⟩:St)) (xs.length) ⟨_,⟨0,by omega,by simp,J⟩,Xy [] (by kernel_rfl)⟩ ?_
  rintro m_A _ ⟨k,hk_A,hp_A,rfl⟩
  refine Wz [57] ?_
  refine Q9 J (fun h => ?_) (fun h => ?_)
  ·have h3:k<xs.length:=by have:=Gqc h; omega
   have h4:k<ys.length:=by omega
   have hat:=Yc h3
   have hat2:=Yc h4
   have hc:=eq_Flight xs[k] ys[k] (hn.2 _ (Gqd h3))
   by_cases he:xs[k]=ys[k]
   ·rw[Gqb he] at hc
    refine Wz [84,132,90,90] ?_;refine DR.s (Qj J J (hc) J) J J ?_;refine Wz [65,12,79,58] ?_
    exact⟨xs.length-(k+1),by omega,_,⟨k+1,by omega,Ym h3 h4 hp_A he,J⟩,Xy [] (by kernel_rfl)⟩
   ·rw[Gqa he] at hc
    refine Wz [84,132,90,90] ?_;refine DR.s (Qj J J (hc) J) J J ?_;refine Wz [65,12,17,51] ?_
    exact Xk J J (Xw [] (by decide) J J (Xg (eq_ne h3 h4 he).symm))
  ·have h3:¬((k:Int)<(els xs).length):=Gqe h
   refine Wz [16,61] ?_
   exact Xk J J (Xw [] (by decide) J J (Xg (Yk (by omega) hl hp_A).symm))
 ·have hb:decide (((els xs).length:Int)≠((els ys).length:Int))=true:=by rw[hlx,hly]; simp; omega
  refine Con.of Tryz.func78 J Tryz.ntmps78 J (fun E => ?_)
  refine Wz [100,14,33] ?_
  exact Xk J J (Xw [] (by decide) J J (Xg (Yl hl).symm))
def zPace:List T := [.v (.int .i64 0),.v (.int .i64 0),.v (.int .i64 0),.v (.int .i64 0),.v (.int .i64 0)]
theorem to_PaceS (xs:List TPace) (hg:Enc.wt xs≤1048576):Con Tryz.prog 208 [] [al xs] [.row 5 (els xs)] (.o (.c (.ref 0))):=by
 have hlen:=Yf xs
 have hw:Enc.wt xs=xs.length+wts xs:=rfl
 have hw2:=wts_pace xs
 refine Con.of Tryz.func208 J Tryz.ntmps208 J (fun E => ?_)
 refine Wz [1,19,14,219,130] ?_;refine Xf (fun m st=>∃ k:Nat,k+m=xs.length∧(True)∧st=(⟨_,[(0,L xs),(3,.o (.c (.ref 0))),(4,I k)],[.row 5 (part xs zPace k)]⟩:St)) (xs.length) ⟨(fun k:Nat=>(⟨_,[(0,L xs),(3,.o (.c (.ref 0))),(4,I k)],[.row 5 (part xs zPace k)]⟩:St)) 0,⟨0,by omega,trivial,J⟩,Xz [0] (by decide) J (Kf (Zd xs _)) (.c J (.c J (.c J (.nil))))⟩ ?_
 rintro m_A _ ⟨k,hk_A,hp_A,rfl⟩
 refine Wz [57] ?_
 refine Q9 J (fun h => ?_) (fun h => ?_)
 ·have h3:k<xs.length:=by have:=Gqc h; omega
  have hat:=Yc h3
  have hz:=Za xs zPace h3
  have hpl:(k:Int)<(part xs zPace k).length:=by rw[Zb xs _ (by omega)]; omega
  have hc:=to_Pace xs[k] (by show (0:Nat)≤_; omega)
  refine Wz [6,78,131,37] ?_;refine M1 (Zm J J (hc) J J J) J J ?_;refine Wz [165,193,93] ?_
  exact⟨xs.length-(k+1),by omega,(fun k:Nat=>(⟨_,[(0,L xs),(3,.o (.c (.ref 0))),(4,I k)],[.row 5 (part xs zPace k)]⟩:St)) (k+1),⟨k+1,by omega,trivial,J⟩,Xz [0] (by decide) J (Kf (Zc xs zPace h3 _ (by rfl) (by rfl)).symm) (.c J (.c J (.c J (.nil))))⟩
 ·have h3:¬((k:Int)<(els xs).length):=Gqe h
  refine Wz [27] ?_
  exact Xk J J (Xw [0] (by decide) J (Kf (Y9 xs _ (by omega)).symm) J)
theorem eq_PaceS (xs ys:List TPace) (hn:Enc.gd xs):Con Tryz.prog 168 [] [al xs,al ys] [] (B (decide (xs=ys))):=by
 have hn1:=hn.1
 have hlx:=Yf xs
 have hly:=Yf ys
 by_cases hl:xs.length=ys.length
 ·have hb:decide (((els xs).length:Int)≠((els ys).length:Int))=false:=by rw[hlx,hly,hl]; simp
  refine Con.of Tryz.func168 J Tryz.ntmps168 J (fun E => ?_)
  refine Wz [100,14,83,39,44] ?_;refine Xf (fun m st=>∃ k:Nat,k+m=xs.length∧(xs.take k=ys.take k)∧st=(⟨_,[(0,L xs),(1,L ys),(5,I k)],[]⟩:St)) (xs.length) ⟨_,⟨0,by omega,by simp,J⟩,Xy [] (by kernel_rfl)⟩ ?_
  rintro m_A _ ⟨k,hk_A,hp_A,rfl⟩
  refine Wz [57] ?_
  refine Q9 J (fun h => ?_) (fun h => ?_)
  ·have h3:k<xs.length:=by have:=Gqc h; omega
   have h4:k<ys.length:=by omega
   have hat:=Yc h3
   have hat2:=Yc h4
   have hc:=eq_Pace xs[k] ys[k] (hn.2 _ (Gqd h3))
   by_cases he:xs[k]=ys[k]
   ·rw[Gqb he] at hc
    refine Wz [84,132,90,90] ?_;refine DR.s (Qj J J (hc) J) J J ?_;refine Wz [65,12,79,58] ?_
    exact⟨xs.length-(k+1),by omega,_,⟨k+1,by omega,Ym h3 h4 hp_A he,J⟩,Xy [] (by kernel_rfl)⟩
   ·rw[Gqa he] at hc
    refine Wz [84,132,90,90] ?_;refine DR.s (Qj J J (hc) J) J J ?_;refine Wz [65,12,17,51] ?_
    exact Xk J J (Xw [] (by decide) J J (Xg (eq_ne h3 h4 he).symm))
  ·have h3:¬((k:Int)<(els xs).length):=Gqe h
   refine Wz [16,61] ?_
   exact Xk J J (Xw [] (by decide) J J (Xg (Yk (by omega) hl hp_A).symm))
 ·have hb:decide (((els xs).length:Int)≠((els ys).length:Int))=true:=by rw[hlx,hly]; simp; omega
  refine Con.of Tryz.func168 J Tryz.ntmps168 J (fun E => ?_)
  refine Wz [100,14,33] ?_
  exact Xk J J (Xw [] (by decide) J J (Xg (Yl hl).symm))
theorem sz_AlarmS (xs:List TAlarm) (left:Int) (hg:Enc.gd xs) (h0:0≤left) (h1:left≤1048576):Con Tryz.prog 120 [] [al xs,ai left] [] (I (szr (Enc.wt xs) left)):=by
 have hlen:=Yf xs
 have hx:=hg.1
 have hw:Enc.wt xs=xs.length+wts xs:=rfl
 refine Con.of Tryz.func120 J Tryz.ntmps120 J (fun E => ?_)
 refine Wz [1,5,7,14,74,46,38] ?_
 refine Q9 J (fun h => ?_) (fun h => ?_)
 ·refine Wz [35] ?_
  have h2:=Gqc h
  exact Xk J J (Xw [] (by decide) J J (Xn (by rw[Kl (by omega)])))
 have h2:¬(left-((els xs).length:Int)<0):=Gqe h
 refine Wz [48,44] ?_
 refine Xf (fun m st=>∃ k:Nat,k+m=xs.length∧(((xs.length:Int)+wts (xs.take k)≤left))∧st=(⟨_,[(0,L xs),(1,I (left-(xs.length+wts (xs.take k)))),(5,I k)],[]⟩:St)) (xs.length) ⟨(fun k:Nat=>(⟨_,[(0,L xs),(1,I (left-(xs.length+wts (xs.take k)))),(5,I k)],[]⟩:St)) 0,⟨0,by omega,by simp[wts]; omega,J⟩,Xz [] (by decide) J (by kernel_rfl) (.c J (.cons (Xn (by simp[els,wts])) (.c J (.nil))))⟩ ?_
 rintro m_A _ ⟨k,hk_A,hp_A,rfl⟩
 refine Wz [57] ?_
 refine Q9 J (fun h => ?_) (fun h => ?_)
 ·have h3:k<xs.length:=by have:=Gqc h; omega
  have hat:=Yc h3
  have hstep:=Kv xs k h3
  have hle:=Kw xs (k+1)
  have hc:=sz_Alarm xs[k] (left-((xs.length:Int)+wts (xs.take k))) (hg.2 _ (Gqd h3)) (by omega) (by omega)
  by_cases h4:left-((xs.length:Int)+wts (xs.take k))<Enc.wt xs[k]
  ·rw[Kl h4] at hc
   have hb:decide ((-1:Int)<0)=true:=rfl
   refine Wz [6,7,37,0] ?_;refine zx (Qj J J (hc) J) J ?_;refine Wz [19,170,51] ?_
   exact Xk J J (Xw [] (by decide) J J (Xn (by rw[Kl (by omega)])))
  ·rw[Km (by omega)] at hc
   have hb:decide (left-((xs.length:Int)+wts (xs.take k))-Enc.wt xs[k]<0)=false:=Gqa (by omega)
   refine Wz [6,7,37,0] ?_;refine zx (Qj J J (hc) J) J ?_;refine Wz [19,32,58] ?_
   exact⟨xs.length-(k+1),by omega,(fun k:Nat=>(⟨_,[(0,L xs),(1,I (left-(xs.length+wts (xs.take k)))),(5,I k)],[]⟩:St)) (k+1),⟨k+1,by omega,by omega,J⟩,Xz [] (by decide) J (by kernel_rfl) (.c J (.cons (Xn (by rw[hstep]; omega)) (.c J (.nil))))⟩
 ·have h3:¬((k:Int)<(els xs).length):=Gqe h
  have hk:wts (xs.take k)=wts xs:=by rw[Gqh (by omega)]
  refine Wz [27] ?_
  exact Xk J J (Xw [] (by decide) J J (Xn (by rw[Km (by omega)]; omega)))
def zAlarm:List T := [.v (.int .i64 0),.sl 1 []]
theorem to_AlarmS (xs:List TAlarm) (hg:Enc.wt xs≤1048576):Con Tryz.prog 128 [] [al xs] [.row 2 (els xs)] (.o (.c (.ref 0))):=by
 have hlen:=Yf xs
 have hw:Enc.wt xs=xs.length+wts xs:=rfl
 refine Con.of Tryz.func128 J Tryz.ntmps128 J (fun E => ?_)
 refine Wz [1,19,14,232,130] ?_;refine Xf (fun m st=>∃ k:Nat,k+m=xs.length∧(True)∧st=(⟨_,[(0,L xs),(3,.o (.c (.ref 0))),(4,I k)],[.row 2 (part xs zAlarm k)]⟩:St)) (xs.length) ⟨(fun k:Nat=>(⟨_,[(0,L xs),(3,.o (.c (.ref 0))),(4,I k)],[.row 2 (part xs zAlarm k)]⟩:St)) 0,⟨0,by omega,trivial,J⟩,Xz [0] (by decide) J (Kf (Zd xs _)) (.c J (.c J (.c J (.nil))))⟩ ?_
 rintro m_A _ ⟨k,hk_A,hp_A,rfl⟩
 refine Wz [57] ?_
 refine Q9 J (fun h => ?_) (fun h => ?_)
 ·have h3:k<xs.length:=by have:=Gqc h; omega
  have hat:=Yc h3
  have hz:=Za xs zAlarm h3
  have hpl:(k:Int)<(part xs zAlarm k).length:=by rw[Zb xs _ (by omega)]; omega
  have hwt:Enc.wt xs[k]≤wts xs:=Ku xs _ (Gqd h3)
  have hc:=to_Alarm xs[k] (by omega)
  refine Wz [6,78,131,37] ?_;refine M1 (Zm J J (hc) J J J) J J ?_;refine Wz [165,193,93] ?_
  exact⟨xs.length-(k+1),by omega,(fun k:Nat=>(⟨_,[(0,L xs),(3,.o (.c (.ref 0))),(4,I k)],[.row 2 (part xs zAlarm k)]⟩:St)) (k+1),⟨k+1,by omega,trivial,J⟩,Xz [0] (by decide) J (Kf (Zc xs zAlarm h3 _ (by rfl) (by rfl)).symm) (.c J (.c J (.c J (.nil))))⟩
 ·have h3:¬((k:Int)<(els xs).length):=Gqe h
  refine Wz [27] ?_
  exact Xk J J (Xw [0] (by decide) J (Kf (Y9 xs _ (by omega)).symm) J)
theorem eq_AlarmS (xs ys:List TAlarm) (hn:Enc.gd xs):Con Tryz.prog 74 [] [al xs,al ys] [] (B (decide (xs=ys))):=by
 have hn1:=hn.1
 have hlx:=Yf xs
 have hly:=Yf ys
 by_cases hl:xs.length=ys.length
 ·have hb:decide (((els xs).length:Int)≠((els ys).length:Int))=false:=by rw[hlx,hly,hl]; simp
  refine Con.of Tryz.func74 J Tryz.ntmps74 J (fun E => ?_)
  refine Wz [100,14,83,39,44] ?_;refine Xf (fun m st=>∃ k:Nat,k+m=xs.length∧(xs.take k=ys.take k)∧st=(⟨_,[(0,L xs),(1,L ys),(5,I k)],[]⟩:St)) (xs.length) ⟨_,⟨0,by omega,by simp,J⟩,Xy [] (by kernel_rfl)⟩ ?_
  rintro m_A _ ⟨k,hk_A,hp_A,rfl⟩
  refine Wz [57] ?_
  refine Q9 J (fun h => ?_) (fun h => ?_)
  ·have h3:k<xs.length:=by have:=Gqc h; omega
   have h4:k<ys.length:=by omega
   have hat:=Yc h3
   have hat2:=Yc h4
   have hc:=eq_Alarm xs[k] ys[k] (hn.2 _ (Gqd h3))
   by_cases he:xs[k]=ys[k]
   ·rw[Gqb he] at hc
    refine Wz [84,132,90,90] ?_;refine DR.s (Qj J J (hc) J) J J ?_;refine Wz [65,12,79,58] ?_
    exact⟨xs.length-(k+1),by omega,_,⟨k+1,by omega,Ym h3 h4 hp_A he,J⟩,Xy [] (by kernel_rfl)⟩
   ·rw[Gqa he] at hc
    refine Wz [84,132,90,90] ?_;refine DR.s (Qj J J (hc) J) J J ?_;refine Wz [65,12,17,51] ?_
    exact Xk J J (Xw [] (by decide) J J (Xg (eq_ne h3 h4 he).symm))
  ·have h3:¬((k:Int)<(els xs).length):=Gqe h
   refine Wz [16,61] ?_
   exact Xk J J (Xw [] (by decide) J J (Xg (Yk (by omega) hl hp_A).symm))
 ·have hb:decide (((els xs).length:Int)≠((els ys).length:Int))=true:=by rw[hlx,hly]; simp; omega
  refine Con.of Tryz.func74 J Tryz.ntmps74 J (fun E => ?_)
  refine Wz [100,14,33] ?_
  exact Xk J J (Xw [] (by decide) J J (Xg (Yl hl).symm))
theorem sz_SpectatorS (xs:List TSpectator) (left:Int) (hg:Enc.gd xs) (h0:0≤left) (h1:left≤1048576):Con Tryz.prog 118 [] [al xs,ai left] [] (I (szr (Enc.wt xs) left)):=by
 have hlen:=Yf xs
 have hx:=hg.1
 have hw:Enc.wt xs=xs.length+wts xs:=rfl
 refine Con.of Tryz.func118 J Tryz.ntmps118 J (fun E => ?_)
 refine Wz [1,5,7,14,74,46,38] ?_
 refine Q9 J (fun h => ?_) (fun h => ?_)
 ·refine Wz [35] ?_
  have h2:=Gqc h
  exact Xk J J (Xw [] (by decide) J J (Xn (by rw[Kl (by omega)])))
 have h2:¬(left-((els xs).length:Int)<0):=Gqe h
 refine Wz [48,44] ?_
 refine Xf (fun m st=>∃ k:Nat,k+m=xs.length∧(((xs.length:Int)+wts (xs.take k)≤left))∧st=(⟨_,[(0,L xs),(1,I (left-(xs.length+wts (xs.take k)))),(5,I k)],[]⟩:St)) (xs.length) ⟨(fun k:Nat=>(⟨_,[(0,L xs),(1,I (left-(xs.length+wts (xs.take k)))),(5,I k)],[]⟩:St)) 0,⟨0,by omega,by simp[wts]; omega,J⟩,Xz [] (by decide) J (by kernel_rfl) (.c J (.cons (Xn (by simp[els,wts])) (.c J (.nil))))⟩ ?_
 rintro m_A _ ⟨k,hk_A,hp_A,rfl⟩
 refine Wz [57] ?_
 refine Q9 J (fun h => ?_) (fun h => ?_)
 ·have h3:k<xs.length:=by have:=Gqc h; omega
  have hat:=Yc h3
  have hstep:=Kv xs k h3
  have hle:=Kw xs (k+1)
  have hc:=sz_Spectator xs[k] (left-((xs.length:Int)+wts (xs.take k))) (hg.2 _ (Gqd h3)) (by omega) (by omega)
  by_cases h4:left-((xs.length:Int)+wts (xs.take k))<Enc.wt xs[k]
  ·rw[Kl h4] at hc
   have hb:decide ((-1:Int)<0)=true:=rfl
   refine Wz [6,7,37,0] ?_;refine zx (Qj J J (hc) J) J ?_;refine Wz [19,170,51] ?_
   exact Xk J J (Xw [] (by decide) J J (Xn (by rw[Kl (by omega)])))
  ·rw[Km (by omega)] at hc
   have hb:decide (left-((xs.length:Int)+wts (xs.take k))-Enc.wt xs[k]<0)=false:=Gqa (by omega)
   refine Wz [6,7,37,0] ?_;refine zx (Qj J J (hc) J) J ?_;refine Wz [19,32,58] ?_
   exact⟨xs.length-(k+1),by omega,(fun k:Nat=>(⟨_,[(0,L xs),(1,I (left-(xs.length+wts (xs.take k)))),(5,I k)],[]⟩:St)) (k+1),⟨k+1,by omega,by omega,J⟩,Xz [] (by decide) J (by kernel_rfl) (.c J (.cons (Xn (by rw[hstep]; omega)) (.c J (.nil))))⟩
 ·have h3:¬((k:Int)<(els xs).length):=Gqe h
  have hk:wts (xs.take k)=wts xs:=by rw[Gqh (by omega)]
  refine Wz [27] ?_
  exact Xk J J (Xw [] (by decide) J J (Xn (by rw[Km (by omega)]; omega)))
def zSpectator:List T := [.sl 1 [],.v (.int .i64 0),.v (.int .i64 0),.sl 1 [],.sl 1 [],.v (.int .i64 0)]
theorem to_SpectatorS (xs:List TSpectator) (hg:Enc.wt xs≤1048576):Con Tryz.prog 126 [] [al xs] [.row 6 (els xs)] (.o (.c (.ref 0))):=by
 have hlen:=Yf xs
 have hw:Enc.wt xs=xs.length+wts xs:=rfl
 refine Con.of Tryz.func126 J Tryz.ntmps126 J (fun E => ?_)
 refine Wz [1,19,14,232,130] ?_;refine Xf (fun m st=>∃ k:Nat,k+m=xs.length∧(True)∧st=(⟨_,[(0,L xs),(3,.o (.c (.ref 0))),(4,I k)],[.row 6 (part xs zSpectator k)]⟩:St)) (xs.length) ⟨(fun k:Nat=>(⟨_,[(0,L xs),(3,.o (.c (.ref 0))),(4,I k)],[.row 6 (part xs zSpectator k)]⟩:St)) 0,⟨0,by omega,trivial,J⟩,Xz [0] (by decide) J (Kf (Zd xs _)) (.c J (.c J (.c J (.nil))))⟩ ?_
 rintro m_A _ ⟨k,hk_A,hp_A,rfl⟩
 refine Wz [57] ?_
 refine Q9 J (fun h => ?_) (fun h => ?_)
 ·have h3:k<xs.length:=by have:=Gqc h; omega
  have hat:=Yc h3
  have hz:=Za xs zSpectator h3
  have hpl:(k:Int)<(part xs zSpectator k).length:=by rw[Zb xs _ (by omega)]; omega
  have hwt:Enc.wt xs[k]≤wts xs:=Ku xs _ (Gqd h3)
  have hc:=to_Spectator xs[k] (by omega)
  refine Wz [6,78,131,37] ?_;refine M1 (Zm J J (hc) J J J) J J ?_;refine Wz [165,193,93] ?_
  exact⟨xs.length-(k+1),by omega,(fun k:Nat=>(⟨_,[(0,L xs),(3,.o (.c (.ref 0))),(4,I k)],[.row 6 (part xs zSpectator k)]⟩:St)) (k+1),⟨k+1,by omega,trivial,J⟩,Xz [0] (by decide) J (Kf (Zc xs zSpectator h3 _ (by rfl) (by rfl)).symm) (.c J (.c J (.c J (.nil))))⟩
 ·have h3:¬((k:Int)<(els xs).length):=Gqe h
  refine Wz [27] ?_
  exact Xk J J (Xw [0] (by decide) J (Kf (Y9 xs _ (by omega)).symm) J)
theorem eq_SpectatorS (xs ys:List TSpectator) (hn:Enc.gd xs):Con Tryz.prog 72 [] [al xs,al ys] [] (B (decide (xs=ys))):=by
 have hn1:=hn.1
 have hlx:=Yf xs
 have hly:=Yf ys
 by_cases hl:xs.length=ys.length
 ·have hb:decide (((els xs).length:Int)≠((els ys).length:Int))=false:=by rw[hlx,hly,hl]; simp
  refine Con.of Tryz.func72 J Tryz.ntmps72 J (fun E => ?_)
  refine Wz [100,14,83,39,44] ?_;refine Xf (fun m st=>∃ k:Nat,k+m=xs.length∧(xs.take k=ys.take k)∧st=(⟨_,[(0,L xs),(1,L ys),(5,I k)],[]⟩:St)) (xs.length) ⟨_,⟨0,by omega,by simp,J⟩,Xy [] (by kernel_rfl)⟩ ?_
  rintro m_A _ ⟨k,hk_A,hp_A,rfl⟩
  refine Wz [57] ?_
  refine Q9 J (fun h => ?_) (fun h => ?_)
  ·have h3:k<xs.length:=by have:=Gqc h; omega
   have h4:k<ys.length:=by omega
   have hat:=Yc h3
   have hat2:=Yc h4
   have hc:=eq_Spectator xs[k] ys[k] (hn.2 _ (Gqd h3))
   by_cases he:xs[k]=ys[k]
   ·rw[Gqb he] at hc
    refine Wz [84,132,90,90] ?_;refine DR.s (Qj J J (hc) J) J J ?_;refine Wz [65,12,79,58] ?_
    exact⟨xs.length-(k+1),by omega,_,⟨k+1,by omega,Ym h3 h4 hp_A he,J⟩,Xy [] (by kernel_rfl)⟩
   ·rw[Gqa he] at hc
    refine Wz [84,132,90,90] ?_;refine DR.s (Qj J J (hc) J) J J ?_;refine Wz [65,12,17,51] ?_
    exact Xk J J (Xw [] (by decide) J J (Xg (eq_ne h3 h4 he).symm))
  ·have h3:¬((k:Int)<(els xs).length):=Gqe h
   refine Wz [16,61] ?_
   exact Xk J J (Xw [] (by decide) J J (Xg (Yk (by omega) hl hp_A).symm))
 ·have hb:decide (((els xs).length:Int)≠((els ys).length:Int))=true:=by rw[hlx,hly]; simp; omega
  refine Con.of Tryz.func72 J Tryz.ntmps72 J (fun E => ?_)
  refine Wz [100,14,33] ?_
  exact Xk J J (Xw [] (by decide) J J (Xg (Yl hl).symm))
theorem sz_Wire (x:TWire) (left:Int) (hg:Enc.gd x) (h0:0≤left) (h1:left≤1048576):Con Tryz.prog 12 [] [ag x,ai left] [] (I (szr (Enc.wt x) left)):=by
 obtain⟨g_Seed,g_Delay,g_Jitter,g_Loss,g_Copies,g_Damage,g_Now,g_Flights,g_Sent,g_Lost⟩:=hg
 have hw:Enc.wt x=Enc.wt x.Flights:=rfl
 have hm1:decide ((-1:Int)<0)=true:=rfl
 have hc_Flights:=sz_FlightS x.Flights (left) g_Flights (by omega) (by omega)
 by_cases n_Flights:left<Enc.wt x.Flights
 ·rw[Kl n_Flights] at hc_Flights
  refine Con.of Tryz.func12 J Tryz.ntmps12 J (fun E => ?_)
  refine Wz [47,71] ?_;refine zx (Qj J J (hc_Flights) J) J ?_;refine Wz [80,23] ?_
  exact Xk J J (Xw [] (by decide) J J (Xn (by rw[Kl (by omega)])))
 rw[Km (by omega)] at hc_Flights
 have hb_Flights:decide (left-Enc.wt x.Flights<0)=false:=Gqa (by omega)
 refine Con.of Tryz.func12 J Tryz.ntmps12 J (fun E => ?_)
 refine Wz [47,71] ?_;refine zx (Qj J J (hc_Flights) J) J ?_;refine Wz [101,166] ?_
 exact Xk J J (Xw [] (by decide) J J (Xn (by rw[Km (by omega)]; omega)))
theorem to_Wire (x:TWire) (hg:Enc.wt x≤1048576):Con Tryz.prog 17 [] [ag x] (ownO (Enc.e x)) (.o (.ag (ownV 0 (Enc.e x)))):=by
 have hw:Enc.wt x=Enc.wt x.Flights:=rfl
 refine Con.of Tryz.func17 J Tryz.ntmps17 J (fun E => ?_)
 refine Wz [85,4,1,40,4,41,42,42,42,42,42,42,42] ?_;refine M1 (Zm J J (to_FlightS x.Flights (by omega)) J J J) J J ?_;refine Wz [42,42,86,45,30,99] ?_
 exact Xi J J J J (Xw [3] (by decide) J J J)
theorem eq_Wire (x y:TWire) (hg:Enc.gd x):Con Tryz.prog 23 [] [ag x,ag y] [] (B (decide (x=y))):=by
 obtain⟨g_Seed,g_Delay,g_Jitter,g_Loss,g_Copies,g_Damage,g_Now,g_Flights,g_Sent,g_Lost⟩:=hg
 by_cases e_Seed:¬x.Seed=y.Seed
 ·have hk:decide (x.Seed≠y.Seed)=true:=by simp[e_Seed]
  refine Con.of Tryz.func23 J Tryz.ntmps23 J (fun E => ?_)
  refine Wz [34,33] ?_
  exact Xk J J (Xw [] (by decide) J J (Xg (Gqa fun e=>e_Seed (by rw[e])).symm))
 have e_Seed:=Classical.not_not.1 e_Seed
 have k_Seed:decide (x.Seed≠y.Seed)=false:=by simp[e_Seed]
 by_cases e_Delay:¬x.Delay=y.Delay
 ·have hk:decide (x.Delay≠y.Delay)=true:=by simp[e_Delay]
  refine Con.of Tryz.func23 J Tryz.ntmps23 J (fun E => ?_)
  refine Wz [34,107,33] ?_
  exact Xk J J (Xw [] (by decide) J J (Xg (Gqa fun e=>e_Delay (by rw[e])).symm))
 have e_Delay:=Classical.not_not.1 e_Delay
 have k_Delay:decide (x.Delay≠y.Delay)=false:=by simp[e_Delay]
 by_cases e_Jitter:¬x.Jitter=y.Jitter
 ·have hk:decide (x.Jitter≠y.Jitter)=true:=by simp[e_Jitter]
  refine Con.of Tryz.func23 J Tryz.ntmps23 J (fun E => ?_)
  refine Wz [34,114,33] ?_
  exact Xk J J (Xw [] (by decide) J J (Xg (Gqa fun e=>e_Jitter (by rw[e])).symm))
 have e_Jitter:=Classical.not_not.1 e_Jitter
 have k_Jitter:decide (x.Jitter≠y.Jitter)=false:=by simp[e_Jitter]
 by_cases e_Loss:¬x.Loss=y.Loss
 ·have hk:decide (x.Loss≠y.Loss)=true:=by simp[e_Loss]
  refine Con.of Tryz.func23 J Tryz.ntmps23 J (fun E => ?_)
  refine Wz [34,114,107,33] ?_
  exact Xk J J (Xw [] (by decide) J J (Xg (Gqa fun e=>e_Loss (by rw[e])).symm))
 have e_Loss:=Classical.not_not.1 e_Loss
 have k_Loss:decide (x.Loss≠y.Loss)=false:=by simp[e_Loss]
 by_cases e_Copies:¬x.Copies=y.Copies
 ·have hk:decide (x.Copies≠y.Copies)=true:=by simp[e_Copies]
  refine Con.of Tryz.func23 J Tryz.ntmps23 J (fun E => ?_)
  refine Wz [34,121,33] ?_
  exact Xk J J (Xw [] (by decide) J J (Xg (Gqa fun e=>e_Copies (by rw[e])).symm))
 have e_Copies:=Classical.not_not.1 e_Copies
 have k_Copies:decide (x.Copies≠y.Copies)=false:=by simp[e_Copies]
 by_cases e_Damage:¬x.Damage=y.Damage
 ·have hk:decide (x.Damage≠y.Damage)=true:=by simp[e_Damage]
  refine Con.of Tryz.func23 J Tryz.ntmps23 J (fun E => ?_)
  refine Wz [34,121,107,33] ?_
  exact Xk J J (Xw [] (by decide) J J (Xg (Gqa fun e=>e_Damage (by rw[e])).symm))
 have e_Damage:=Classical.not_not.1 e_Damage
 have k_Damage:decide (x.Damage≠y.Damage)=false:=by simp[e_Damage]
 by_cases e_Now:¬x.Now=y.Now
 ·have hk:decide (x.Now≠y.Now)=true:=by simp[e_Now]
  refine Con.of Tryz.func23 J Tryz.ntmps23 J (fun E => ?_)
  refine Wz [34,121,114,33] ?_
  exact Xk J J (Xw [] (by decide) J J (Xg (Gqa fun e=>e_Now (by rw[e])).symm))
 have e_Now:=Classical.not_not.1 e_Now
 have k_Now:decide (x.Now≠y.Now)=false:=by simp[e_Now]
 by_cases e_Flights:¬x.Flights=y.Flights
 ·have hc:=eq_FlightS x.Flights y.Flights g_Flights
  rw[Gqa e_Flights] at hc
  refine Con.of Tryz.func23 J Tryz.ntmps23 J (fun E => ?_)
  refine Wz [34,121,114,107] ?_;refine zx (Qj J J (hc) J) J ?_;refine Wz [3,23] ?_
  exact Xk J J (Xw [] (by decide) J J (Xg (Gqa fun e=>e_Flights (by rw[e])).symm))
 have e_Flights:=Classical.not_not.1 e_Flights
 have hc_Flights:=eq_FlightS x.Flights y.Flights g_Flights
 rw[Gqb e_Flights] at hc_Flights
 by_cases e_Sent:¬x.Sent=y.Sent
 ·have hk:decide (x.Sent≠y.Sent)=true:=by simp[e_Sent]
  refine Con.of Tryz.func23 J Tryz.ntmps23 J (fun E => ?_)
  refine Wz [34,121,114,107] ?_;refine zx (Qj J J (hc_Flights) J) J ?_;refine Wz [10,33] ?_
  exact Xk J J (Xw [] (by decide) J J (Xg (Gqa fun e=>e_Sent (by rw[e])).symm))
 have e_Sent:=Classical.not_not.1 e_Sent
 have k_Sent:decide (x.Sent≠y.Sent)=false:=by simp[e_Sent]
 by_cases e_Lost:¬x.Lost=y.Lost
 ·have hk:decide (x.Lost≠y.Lost)=true:=by simp[e_Lost]
  refine Con.of Tryz.func23 J Tryz.ntmps23 J (fun E => ?_)
  refine Wz [34,121,114,107] ?_;refine zx (Qj J J (hc_Flights) J) J ?_;refine Wz [10,107,33] ?_
  exact Xk J J (Xw [] (by decide) J J (Xg (Gqa fun e=>e_Lost (by rw[e])).symm))
 have e_Lost:=Classical.not_not.1 e_Lost
 have k_Lost:decide (x.Lost≠y.Lost)=false:=by simp[e_Lost]
 refine Con.of Tryz.func23 J Tryz.ntmps23 J (fun E => ?_)
 refine Wz [34,121,114,107] ?_;refine zx (Qj J J (hc_Flights) J) J ?_;refine Wz [10,107,83,54,61] ?_
 exact Xk J J (Xw [] (by decide) J J (Xg (Gqb (TWire.same e_Seed e_Delay e_Jitter e_Loss e_Copies e_Damage e_Now e_Flights e_Sent e_Lost)).symm))
theorem sz_WireS (xs:List TWire) (left:Int) (hg:Enc.gd xs) (h0:0≤left) (h1:left≤1048576):Con Tryz.prog 119 [] [al xs,ai left] [] (I (szr (Enc.wt xs) left)):=by
 have hlen:=Yf xs
 have hx:=hg.1
 have hw:Enc.wt xs=xs.length+wts xs:=rfl
 refine Con.of Tryz.func119 J Tryz.ntmps119 J (fun E => ?_)
 refine Wz [1,5,7,14,74,46,38] ?_
 refine Q9 J (fun h => ?_) (fun h => ?_)
 ·refine Wz [35] ?_
  have h2:=Gqc h
  exact Xk J J (Xw [] (by decide) J J (Xn (by rw[Kl (by omega)])))
 have h2:¬(left-((els xs).length:Int)<0):=Gqe h
 refine Wz [48,44] ?_
 refine Xf (fun m st=>∃ k:Nat,k+m=xs.length∧(((xs.length:Int)+wts (xs.take k)≤left))∧st=(⟨_,[(0,L xs),(1,I (left-(xs.length+wts (xs.take k)))),(5,I k)],[]⟩:St)) (xs.length) ⟨(fun k:Nat=>(⟨_,[(0,L xs),(1,I (left-(xs.length+wts (xs.take k)))),(5,I k)],[]⟩:St)) 0,⟨0,by omega,by simp[wts]; omega,J⟩,Xz [] (by decide) J (by kernel_rfl) (.c J (.cons (Xn (by simp[els,wts])) (.c J (.nil))))⟩ ?_
 rintro m_A _ ⟨k,hk_A,hp_A,rfl⟩
 refine Wz [57] ?_
 refine Q9 J (fun h => ?_) (fun h => ?_)
 ·have h3:k<xs.length:=by have:=Gqc h; omega
  have hat:=Yc h3
  have hstep:=Kv xs k h3
  have hle:=Kw xs (k+1)
  have hc:=sz_Wire xs[k] (left-((xs.length:Int)+wts (xs.take k))) (hg.2 _ (Gqd h3)) (by omega) (by omega)
  by_cases h4:left-((xs.length:Int)+wts (xs.take k))<Enc.wt xs[k]
  ·rw[Kl h4] at hc
   have hb:decide ((-1:Int)<0)=true:=rfl
   refine Wz [6,7,37,0] ?_;refine zx (Qj J J (hc) J) J ?_;refine Wz [19,170,51] ?_
   exact Xk J J (Xw [] (by decide) J J (Xn (by rw[Kl (by omega)])))
  ·rw[Km (by omega)] at hc
   have hb:decide (left-((xs.length:Int)+wts (xs.take k))-Enc.wt xs[k]<0)=false:=Gqa (by omega)
   refine Wz [6,7,37,0] ?_;refine zx (Qj J J (hc) J) J ?_;refine Wz [19,32,58] ?_
   exact⟨xs.length-(k+1),by omega,(fun k:Nat=>(⟨_,[(0,L xs),(1,I (left-(xs.length+wts (xs.take k)))),(5,I k)],[]⟩:St)) (k+1),⟨k+1,by omega,by omega,J⟩,Xz [] (by decide) J (by kernel_rfl) (.c J (.cons (Xn (by rw[hstep]; omega)) (.c J (.nil))))⟩
 ·have h3:¬((k:Int)<(els xs).length):=Gqe h
  have hk:wts (xs.take k)=wts xs:=by rw[Gqh (by omega)]
  refine Wz [27] ?_
  exact Xk J J (Xw [] (by decide) J J (Xn (by rw[Km (by omega)]; omega)))
def zWire:List T := [.v (.int .i64 0),.v (.int .i64 0),.v (.int .i64 0),.v (.int .i64 0),.v (.int .i64 0),.v (.int .i64 0),.v (.int .i64 0),.sl 2 [],.v (.int .i64 0),.v (.int .i64 0)]
theorem to_WireS (xs:List TWire) (hg:Enc.wt xs≤1048576):Con Tryz.prog 127 [] [al xs] [.row 10 (els xs)] (.o (.c (.ref 0))):=by
 have hlen:=Yf xs
 have hw:Enc.wt xs=xs.length+wts xs:=rfl
 refine Con.of Tryz.func127 J Tryz.ntmps127 J (fun E => ?_)
 refine Wz [1,19,14] ?_;refine M1 (Z3 2 J J J J (by omega) (by omega) (by omega) J (by decide)) J J ?_;refine Wz [130] ?_;refine Xf (fun m st=>∃ k:Nat,k+m=xs.length∧(True)∧st=(⟨_,[(0,L xs),(3,.o (.c (.ref 0))),(4,I k)],[.row 10 (part xs zWire k)]⟩:St)) (xs.length) ⟨(fun k:Nat=>(⟨_,[(0,L xs),(3,.o (.c (.ref 0))),(4,I k)],[.row 10 (part xs zWire k)]⟩:St)) 0,⟨0,by omega,trivial,J⟩,Xz [0] (by decide) J (Kf (Zd xs _)) (.c J (.c J (.c J (.nil))))⟩ ?_
 rintro m_A _ ⟨k,hk_A,hp_A,rfl⟩
 refine Wz [57] ?_
 refine Q9 J (fun h => ?_) (fun h => ?_)
 ·have h3:k<xs.length:=by have:=Gqc h; omega
  have hat:=Yc h3
  have hz:=Za xs zWire h3
  have hpl:(k:Int)<(part xs zWire k).length:=by rw[Zb xs _ (by omega)]; omega
  have hwt:Enc.wt xs[k]≤wts xs:=Ku xs _ (Gqd h3)
  have hc:=to_Wire xs[k] (by omega)
  refine Wz [6,78,131,37] ?_;refine M1 (Zm J J (hc) J J J) J J ?_;refine Wz [165,193,93] ?_
  exact⟨xs.length-(k+1),by omega,(fun k:Nat=>(⟨_,[(0,L xs),(3,.o (.c (.ref 0))),(4,I k)],[.row 10 (part xs zWire k)]⟩:St)) (k+1),⟨k+1,by omega,trivial,J⟩,Xz [0] (by decide) J (Kf (Zc xs zWire h3 _ (by rfl) (by rfl)).symm) (.c J (.c J (.c J (.nil))))⟩
 ·have h3:¬((k:Int)<(els xs).length):=Gqe h
  refine Wz [27] ?_
  exact Xk J J (Xw [0] (by decide) J (Kf (Y9 xs _ (by omega)).symm) J)
theorem eq_WireS (xs ys:List TWire) (hn:Enc.gd xs):Con Tryz.prog 73 [] [al xs,al ys] [] (B (decide (xs=ys))):=by
 have hn1:=hn.1
 have hlx:=Yf xs
 have hly:=Yf ys
 by_cases hl:xs.length=ys.length
 ·have hb:decide (((els xs).length:Int)≠((els ys).length:Int))=false:=by rw[hlx,hly,hl]; simp
  refine Con.of Tryz.func73 J Tryz.ntmps73 J (fun E => ?_)
  refine Wz [100,14,83,39,44] ?_;refine Xf (fun m st=>∃ k:Nat,k+m=xs.length∧(xs.take k=ys.take k)∧st=(⟨_,[(0,L xs),(1,L ys),(5,I k)],[]⟩:St)) (xs.length) ⟨_,⟨0,by omega,by simp,J⟩,Xy [] (by kernel_rfl)⟩ ?_
  rintro m_A _ ⟨k,hk_A,hp_A,rfl⟩
  refine Wz [57] ?_
  refine Q9 J (fun h => ?_) (fun h => ?_)
  ·have h3:k<xs.length:=by have:=Gqc h; omega
   have h4:k<ys.length:=by omega
   have hat:=Yc h3
   have hat2:=Yc h4
   have hc:=eq_Wire xs[k] ys[k] (hn.2 _ (Gqd h3))
   by_cases he:xs[k]=ys[k]
   ·rw[Gqb he] at hc
    refine Wz [84,132,90,90] ?_;refine DR.s (Qj J J (hc) J) J J ?_;refine Wz [65,12,79,58] ?_
    exact⟨xs.length-(k+1),by omega,_,⟨k+1,by omega,Ym h3 h4 hp_A he,J⟩,Xy [] (by kernel_rfl)⟩
   ·rw[Gqa he] at hc
    refine Wz [84,132,90,90] ?_;refine DR.s (Qj J J (hc) J) J J ?_;refine Wz [65,12,17,51] ?_
    exact Xk J J (Xw [] (by decide) J J (Xg (eq_ne h3 h4 he).symm))
  ·have h3:¬((k:Int)<(els xs).length):=Gqe h
   refine Wz [16,61] ?_
   exact Xk J J (Xw [] (by decide) J J (Xg (Yk (by omega) hl hp_A).symm))
 ·have hb:decide (((els xs).length:Int)≠((els ys).length:Int))=true:=by rw[hlx,hly]; simp; omega
  refine Con.of Tryz.func73 J Tryz.ntmps73 J (fun E => ?_)
  refine Wz [100,14,33] ?_
  exact Xk J J (Xw [] (by decide) J J (Xg (Yl hl).symm))
theorem sz_WireSS (xs:List (List TWire)) (left:Int) (hg:Enc.gd xs) (h0:0≤left) (h1:left≤1048576):Con Tryz.prog 116 [] [al xs,ai left] [] (I (szr (Enc.wt xs) left)):=by
 have hlen:=Yf xs
 have hx:=hg.1
 have hw:Enc.wt xs=xs.length+wts xs:=rfl
 refine Con.of Tryz.func116 J Tryz.ntmps116 J (fun E => ?_)
 refine Wz [1,5,7,14,74,46,38] ?_
 refine Q9 J (fun h => ?_) (fun h => ?_)
 ·refine Wz [35] ?_
  have h2:=Gqc h
  exact Xk J J (Xw [] (by decide) J J (Xn (by rw[Kl (by omega)])))
 have h2:¬(left-((els xs).length:Int)<0):=Gqe h
 refine Wz [48,44] ?_
 refine Xf (fun m st=>∃ k:Nat,k+m=xs.length∧(((xs.length:Int)+wts (xs.take k)≤left))∧st=(⟨_,[(0,L xs),(1,I (left-(xs.length+wts (xs.take k)))),(5,I k)],[]⟩:St)) (xs.length) ⟨(fun k:Nat=>(⟨_,[(0,L xs),(1,I (left-(xs.length+wts (xs.take k)))),(5,I k)],[]⟩:St)) 0,⟨0,by omega,by simp[wts]; omega,J⟩,Xz [] (by decide) J (by kernel_rfl) (.c J (.cons (Xn (by simp[els,wts])) (.c J (.nil))))⟩ ?_
 rintro m_A _ ⟨k,hk_A,hp_A,rfl⟩
 refine Wz [57] ?_
 refine Q9 J (fun h => ?_) (fun h => ?_)
 ·have h3:k<xs.length:=by have:=Gqc h; omega
  have hat:=Yc h3
  have hstep:=Kv xs k h3
  have hle:=Kw xs (k+1)
  have hc:=sz_WireS xs[k] (left-((xs.length:Int)+wts (xs.take k))) (hg.2 _ (Gqd h3)) (by omega) (by omega)
  by_cases h4:left-((xs.length:Int)+wts (xs.take k))<Enc.wt xs[k]
  ·rw[Kl h4] at hc
   have hb:decide ((-1:Int)<0)=true:=rfl
   refine Wz [6,7,148,117] ?_;refine zx (Qj J J (hc) J) J ?_;refine Wz [19,170,51] ?_
   exact Xk J J (Xw [] (by decide) J J (Xn (by rw[Kl (by omega)])))
  ·rw[Km (by omega)] at hc
   have hb:decide (left-((xs.length:Int)+wts (xs.take k))-Enc.wt xs[k]<0)=false:=Gqa (by omega)
   refine Wz [6,7,148,117] ?_;refine zx (Qj J J (hc) J) J ?_;refine Wz [19,32,58] ?_
   exact⟨xs.length-(k+1),by omega,(fun k:Nat=>(⟨_,[(0,L xs),(1,I (left-(xs.length+wts (xs.take k)))),(5,I k)],[]⟩:St)) (k+1),⟨k+1,by omega,by omega,J⟩,Xz [] (by decide) J (by kernel_rfl) (.c J (.cons (Xn (by rw[hstep]; omega)) (.c J (.nil))))⟩
 ·have h3:¬((k:Int)<(els xs).length):=Gqe h
  have hk:wts (xs.take k)=wts xs:=by rw[Gqh (by omega)]
  refine Wz [27] ?_
  exact Xk J J (Xw [] (by decide) J J (Xn (by rw[Km (by omega)]; omega)))
theorem to_WireSS (xs:List (List TWire)) (hg:Enc.wt xs≤1048576):Con Tryz.prog 124 [] [al xs] [.row 1 (els xs)] (.o (.c (.ref 0))):=by
 have hlen:=Yf xs
 have hw:Enc.wt xs=xs.length+wts xs:=rfl
 refine Con.of Tryz.func124 J Tryz.ntmps124 J (fun E => ?_)
 refine Wz [1,19,14] ?_;refine M1 (Z3 10 J J J J (by omega) (by omega) (by omega) J (by decide)) J J ?_;refine Wz [130] ?_;refine Xf (fun m st=>∃ k:Nat,k+m=xs.length∧(True)∧st=(⟨_,[(0,L xs),(3,.o (.c (.ref 0))),(4,I k)],[.row 1 (part xs [.sl 10 []] k)]⟩:St)) (xs.length) ⟨(fun k:Nat=>(⟨_,[(0,L xs),(3,.o (.c (.ref 0))),(4,I k)],[.row 1 (part xs [.sl 10 []] k)]⟩:St)) 0,⟨0,by omega,trivial,J⟩,Xz [0] (by decide) J (Kf (Zd xs _)) (.c J (.c J (.c J (.nil))))⟩ ?_
 rintro m_A _ ⟨k,hk_A,hp_A,rfl⟩
 refine Wz [57] ?_
 refine Q9 J (fun h => ?_) (fun h => ?_)
 ·have h3:k<xs.length:=by have:=Gqc h; omega
  have hat:=Yc h3
  have hz:=Za xs [.sl 10 []] h3
  have hpl:(k:Int)<(part xs [.sl 10 []] k).length:=by rw[Zb xs _ (by omega)]; omega
  have hwt:Enc.wt xs[k]≤wts xs:=Ku xs _ (Gqd h3)
  have hc:=to_WireS xs[k] (by omega)
  refine Wz [6,78,131,92] ?_;refine M1 (Zm J J (hc) J J J) J J ?_;refine Wz [165,231,93] ?_
  exact⟨xs.length-(k+1),by omega,(fun k:Nat=>(⟨_,[(0,L xs),(3,.o (.c (.ref 0))),(4,I k)],[.row 1 (part xs [.sl 10 []] k)]⟩:St)) (k+1),⟨k+1,by omega,trivial,J⟩,Xz [0] (by decide) J (Kf (Zc xs [.sl 10 []] h3 _ (by rfl) (by rfl)).symm) (.c J (.c J (.c J (.nil))))⟩
 ·have h3:¬((k:Int)<(els xs).length):=Gqe h
  refine Wz [27] ?_
  exact Xk J J (Xw [0] (by decide) J (Kf (Y9 xs _ (by omega)).symm) J)
theorem eq_WireSS (xs ys:List (List TWire)) (hn:Enc.gd xs):Con Tryz.prog 70 [] [al xs,al ys] [] (B (decide (xs=ys))):=by
 have hn1:=hn.1
 have hlx:=Yf xs
 have hly:=Yf ys
 by_cases hl:xs.length=ys.length
 ·have hb:decide (((els xs).length:Int)≠((els ys).length:Int))=false:=by rw[hlx,hly,hl]; simp
  refine Con.of Tryz.func70 J Tryz.ntmps70 J (fun E => ?_)
  refine Wz [100,14,83,39,44] ?_;refine Xf (fun m st=>∃ k:Nat,k+m=xs.length∧(xs.take k=ys.take k)∧st=(⟨_,[(0,L xs),(1,L ys),(5,I k)],[]⟩:St)) (xs.length) ⟨_,⟨0,by omega,by simp,J⟩,Xy [] (by kernel_rfl)⟩ ?_
  rintro m_A _ ⟨k,hk_A,hp_A,rfl⟩
  refine Wz [57] ?_
  refine Q9 J (fun h => ?_) (fun h => ?_)
  ·have h3:k<xs.length:=by have:=Gqc h; omega
   have h4:k<ys.length:=by omega
   have hat:=Yc h3
   have hat2:=Yc h4
   have hc:=eq_WireS xs[k] ys[k] (hn.2 _ (Gqd h3))
   by_cases he:xs[k]=ys[k]
   ·rw[Gqb he] at hc
    refine Wz [84,132,120,21,120,21] ?_;refine DR.s (Qj J J (hc) J) J J ?_;refine Wz [65,12,79,58] ?_
    exact⟨xs.length-(k+1),by omega,_,⟨k+1,by omega,Ym h3 h4 hp_A he,J⟩,Xy [] (by kernel_rfl)⟩
   ·rw[Gqa he] at hc
    refine Wz [84,132,120,21,120,21] ?_;refine DR.s (Qj J J (hc) J) J J ?_;refine Wz [65,12,17,51] ?_
    exact Xk J J (Xw [] (by decide) J J (Xg (eq_ne h3 h4 he).symm))
  ·have h3:¬((k:Int)<(els xs).length):=Gqe h
   refine Wz [16,61] ?_
   exact Xk J J (Xw [] (by decide) J J (Xg (Yk (by omega) hl hp_A).symm))
 ·have hb:decide (((els xs).length:Int)≠((els ys).length:Int))=true:=by rw[hlx,hly]; simp; omega
  refine Con.of Tryz.func70 J Tryz.ntmps70 J (fun E => ?_)
  refine Wz [100,14,33] ?_
  exact Xk J J (Xw [] (by decide) J J (Xg (Yl hl).symm))
theorem sz_PaceSS (xs:List (List TPace)) (left:Int) (hg:Enc.gd xs) (h0:0≤left) (h1:left≤1048576):Con Tryz.prog 117 [] [al xs,ai left] [] (I (szr (Enc.wt xs) left)):=by
 have hlen:=Yf xs
 have hx:=hg.1
 have hw:Enc.wt xs=xs.length+wts xs:=rfl
 refine Con.of Tryz.func117 J Tryz.ntmps117 J (fun E => ?_)
 refine Wz [1,5,7,14,74,46,38] ?_
 refine Q9 J (fun h => ?_) (fun h => ?_)
 ·refine Wz [35] ?_
  have h2:=Gqc h
  exact Xk J J (Xw [] (by decide) J J (Xn (by rw[Kl (by omega)])))
 have h2:¬(left-((els xs).length:Int)<0):=Gqe h
 refine Wz [48,44] ?_
 refine Xf (fun m st=>∃ k:Nat,k+m=xs.length∧(((xs.length:Int)+wts (xs.take k)≤left))∧st=(⟨_,[(0,L xs),(1,I (left-(xs.length+wts (xs.take k)))),(5,I k)],[]⟩:St)) (xs.length) ⟨(fun k:Nat=>(⟨_,[(0,L xs),(1,I (left-(xs.length+wts (xs.take k)))),(5,I k)],[]⟩:St)) 0,⟨0,by omega,by simp[wts]; omega,J⟩,Xz [] (by decide) J (by kernel_rfl) (.c J (.cons (Xn (by simp[els,wts])) (.c J (.nil))))⟩ ?_
 rintro m_A _ ⟨k,hk_A,hp_A,rfl⟩
 refine Wz [57] ?_
 refine Q9 J (fun h => ?_) (fun h => ?_)
 ·have h3:k<xs.length:=by have:=Gqc h; omega
  have hat:=Yc h3
  have hstep:=Kv xs k h3
  have hle:=Kw xs (k+1)
  have hc:=sz_PaceS xs[k] (left-((xs.length:Int)+wts (xs.take k))) (hg.2 _ (Gqd h3)) (by omega) (by omega)
  by_cases h4:left-((xs.length:Int)+wts (xs.take k))<Enc.wt xs[k]
  ·rw[Kl h4] at hc
   have hb:decide ((-1:Int)<0)=true:=rfl
   refine Wz [6,7,148,117] ?_;refine zx (Qj J J (hc) J) J ?_;refine Wz [19,170,51] ?_
   exact Xk J J (Xw [] (by decide) J J (Xn (by rw[Kl (by omega)])))
  ·rw[Km (by omega)] at hc
   have hb:decide (left-((xs.length:Int)+wts (xs.take k))-Enc.wt xs[k]<0)=false:=Gqa (by omega)
   refine Wz [6,7,148,117] ?_;refine zx (Qj J J (hc) J) J ?_;refine Wz [19,32,58] ?_
   exact⟨xs.length-(k+1),by omega,(fun k:Nat=>(⟨_,[(0,L xs),(1,I (left-(xs.length+wts (xs.take k)))),(5,I k)],[]⟩:St)) (k+1),⟨k+1,by omega,by omega,J⟩,Xz [] (by decide) J (by kernel_rfl) (.c J (.cons (Xn (by rw[hstep]; omega)) (.c J (.nil))))⟩
 ·have h3:¬((k:Int)<(els xs).length):=Gqe h
  have hk:wts (xs.take k)=wts xs:=by rw[Gqh (by omega)]
  refine Wz [27] ?_
  exact Xk J J (Xw [] (by decide) J J (Xn (by rw[Km (by omega)]; omega)))
theorem to_PaceSS (xs:List (List TPace)) (hg:Enc.wt xs≤1048576):Con Tryz.prog 125 [] [al xs] [.row 1 (els xs)] (.o (.c (.ref 0))):=by
 have hlen:=Yf xs
 have hw:Enc.wt xs=xs.length+wts xs:=rfl
 refine Con.of Tryz.func125 J Tryz.ntmps125 J (fun E => ?_)
 refine Wz [1,19,14] ?_;refine M1 (Z3 5 J J J J (by omega) (by omega) (by omega) J (by decide)) J J ?_;refine Wz [130] ?_;refine Xf (fun m st=>∃ k:Nat,k+m=xs.length∧(True)∧st=(⟨_,[(0,L xs),(3,.o (.c (.ref 0))),(4,I k)],[.row 1 (part xs [.sl 5 []] k)]⟩:St)) (xs.length) ⟨(fun k:Nat=>(⟨_,[(0,L xs),(3,.o (.c (.ref 0))),(4,I k)],[.row 1 (part xs [.sl 5 []] k)]⟩:St)) 0,⟨0,by omega,trivial,J⟩,Xz [0] (by decide) J (Kf (Zd xs _)) (.c J (.c J (.c J (.nil))))⟩ ?_
 rintro m_A _ ⟨k,hk_A,hp_A,rfl⟩
 refine Wz [57] ?_
 refine Q9 J (fun h => ?_) (fun h => ?_)
 ·have h3:k<xs.length:=by have:=Gqc h; omega
  have hat:=Yc h3
  have hz:=Za xs [.sl 5 []] h3
  have hpl:(k:Int)<(part xs [.sl 5 []] k).length:=by rw[Zb xs _ (by omega)]; omega
  have hwt:Enc.wt xs[k]≤wts xs:=Ku xs _ (Gqd h3)
  have hc:=to_PaceS xs[k] (by omega)
  refine Wz [6,78,131,92] ?_;refine M1 (Zm J J (hc) J J J) J J ?_;refine Wz [165,231,93] ?_
  exact⟨xs.length-(k+1),by omega,(fun k:Nat=>(⟨_,[(0,L xs),(3,.o (.c (.ref 0))),(4,I k)],[.row 1 (part xs [.sl 5 []] k)]⟩:St)) (k+1),⟨k+1,by omega,trivial,J⟩,Xz [0] (by decide) J (Kf (Zc xs [.sl 5 []] h3 _ (by rfl) (by rfl)).symm) (.c J (.c J (.c J (.nil))))⟩
 ·have h3:¬((k:Int)<(els xs).length):=Gqe h
  refine Wz [27] ?_
  exact Xk J J (Xw [0] (by decide) J (Kf (Y9 xs _ (by omega)).symm) J)
theorem eq_PaceSS (xs ys:List (List TPace)) (hn:Enc.gd xs):Con Tryz.prog 71 [] [al xs,al ys] [] (B (decide (xs=ys))):=by
 have hn1:=hn.1
 have hlx:=Yf xs
 have hly:=Yf ys
 by_cases hl:xs.length=ys.length
 ·have hb:decide (((els xs).length:Int)≠((els ys).length:Int))=false:=by rw[hlx,hly,hl]; simp
  refine Con.of Tryz.func71 J Tryz.ntmps71 J (fun E => ?_)
  refine Wz [100,14,83,39,44] ?_;refine Xf (fun m st=>∃ k:Nat,k+m=xs.length∧(xs.take k=ys.take k)∧st=(⟨_,[(0,L xs),(1,L ys),(5,I k)],[]⟩:St)) (xs.length) ⟨_,⟨0,by omega,by simp,J⟩,Xy [] (by kernel_rfl)⟩ ?_
  rintro m_A _ ⟨k,hk_A,hp_A,rfl⟩
  refine Wz [57] ?_
  refine Q9 J (fun h => ?_) (fun h => ?_)
  ·have h3:k<xs.length:=by have:=Gqc h; omega
   have h4:k<ys.length:=by omega
   have hat:=Yc h3
   have hat2:=Yc h4
   have hc:=eq_PaceS xs[k] ys[k] (hn.2 _ (Gqd h3))
   by_cases he:xs[k]=ys[k]
   ·rw[Gqb he] at hc
    refine Wz [84,132,120,21,120,21] ?_;refine DR.s (Qj J J (hc) J) J J ?_;refine Wz [65,12,79,58] ?_
    exact⟨xs.length-(k+1),by omega,_,⟨k+1,by omega,Ym h3 h4 hp_A he,J⟩,Xy [] (by kernel_rfl)⟩
   ·rw[Gqa he] at hc
    refine Wz [84,132,120,21,120,21] ?_;refine DR.s (Qj J J (hc) J) J J ?_;refine Wz [65,12,17,51] ?_
    exact Xk J J (Xw [] (by decide) J J (Xg (eq_ne h3 h4 he).symm))
  ·have h3:¬((k:Int)<(els xs).length):=Gqe h
   refine Wz [16,61] ?_
   exact Xk J J (Xw [] (by decide) J J (Xg (Yk (by omega) hl hp_A).symm))
 ·have hb:decide (((els xs).length:Int)≠((els ys).length:Int))=true:=by rw[hlx,hly]; simp; omega
  refine Con.of Tryz.func71 J Tryz.ntmps71 J (fun E => ?_)
  refine Wz [100,14,33] ?_
  exact Xk J J (Xw [] (by decide) J J (Xg (Yl hl).symm))
end
section
open Go.RowKit

theorem sz_PeerS (xs:List TPeer) (left:Int) (hg:Enc.gd xs) (h0:0≤left) (h1:left≤1048576):Con Tryz.prog 115 [] [al xs,ai left] [] (I (szr (Enc.wt xs) left)):=by
 have hlen:=Yf xs
 have hx:=hg.1
 have hw:Enc.wt xs=xs.length+wts xs:=rfl
 refine Con.of Tryz.func115 J Tryz.ntmps115 J (fun E => ?_)
 refine Wz [1,5,7,14,74,46,38] ?_
 refine Q9 J (fun h => ?_) (fun h => ?_)
 ·refine Wz [35] ?_
  have h2:=Gqc h
  exact Xk J J (Xw [] (by decide) J J (Xn (by rw[Kl (by omega)])))
 have h2:¬(left-((els xs).length:Int)<0):=Gqe h
 refine Wz [48,44] ?_
 refine Xf (fun m st=>∃ k:Nat,k+m=xs.length∧(((xs.length:Int)+wts (xs.take k)≤left))∧st=(⟨_,[(0,L xs),(1,I (left-(xs.length+wts (xs.take k)))),(5,I k)],[]⟩:St)) (xs.length) ⟨(fun k:Nat=>(⟨_,[(0,L xs),(1,I (left-(xs.length+wts (xs.take k)))),(5,I k)],[]⟩:St)) 0,⟨0,by omega,by simp[wts]; omega,J⟩,Xz [] (by decide) J (by kernel_rfl) (.c J (.cons (Xn (by simp[els,wts])) (.c J (.nil))))⟩ ?_
 rintro m_A _ ⟨k,hk_A,hp_A,rfl⟩
 refine Wz [57] ?_
 refine Q9 J (fun h => ?_) (fun h => ?_)
 ·have h3:k<xs.length:=by have:=Gqc h; omega
  have hat:=Yc h3
  have hstep:=Kv xs k h3
  have hle:=Kw xs (k+1)
  have hc:=sz_Peer xs[k] (left-((xs.length:Int)+wts (xs.take k))) (hg.2 _ (Gqd h3)) (by omega) (by omega)
  by_cases h4:left-((xs.length:Int)+wts (xs.take k))<Enc.wt xs[k]
  ·rw[Kl h4] at hc
   have hb:decide ((-1:Int)<0)=true:=rfl
   refine Wz [6,7,37,0] ?_;refine zx (Qj J J (hc) J) J ?_;refine Wz [19,170,51] ?_
   exact Xk J J (Xw [] (by decide) J J (Xn (by rw[Kl (by omega)])))
  ·rw[Km (by omega)] at hc
   have hb:decide (left-((xs.length:Int)+wts (xs.take k))-Enc.wt xs[k]<0)=false:=Gqa (by omega)
   refine Wz [6,7,37,0] ?_;refine zx (Qj J J (hc) J) J ?_;refine Wz [19,32,58] ?_
   exact⟨xs.length-(k+1),by omega,(fun k:Nat=>(⟨_,[(0,L xs),(1,I (left-(xs.length+wts (xs.take k)))),(5,I k)],[]⟩:St)) (k+1),⟨k+1,by omega,by omega,J⟩,Xz [] (by decide) J (by kernel_rfl) (.c J (.cons (Xn (by rw[hstep]; omega)) (.c J (.nil))))⟩
 ·have h3:¬((k:Int)<(els xs).length):=Gqe h
  have hk:wts (xs.take k)=wts xs:=by rw[Gqh (by omega)]
  refine Wz [27] ?_
  exact Xk J J (Xw [] (by decide) J J (Xn (by rw[Km (by omega)]; omega)))
def zPeer:List T := [.v (.int .i64 0),.v (.int .i64 0),.v (.int .i64 0),.v (.int .i64 0),.sl 1 [],.sl 1 [],.v (.int .i64 0),.v (.int .i64 0),.sl 1 [],.sl 1 [],.sl 1 [],.v (.int .i64 0),.v (.int .i64 0),.sl 1 [],.sl 1 [],.sl 1 [],.sl 1 [],.sl 1 [],.v (.int .i64 0),.v (.int .i64 0),.v (.int .i64 0),.v (.int .i64 0),.v (.int .i64 0)]
theorem to_PeerS (xs:List TPeer) (hg:Enc.wt xs≤1048576):Con Tryz.prog 123 [] [al xs] [.row 23 (els xs)] (.o (.c (.ref 0))):=by
 have hlen:=Yf xs
 have hw:Enc.wt xs=xs.length+wts xs:=rfl
 refine Con.of Tryz.func123 J Tryz.ntmps123 J (fun E => ?_)
 refine Wz [1,19,14,232,130] ?_;refine Xf (fun m st=>∃ k:Nat,k+m=xs.length∧(True)∧st=(⟨_,[(0,L xs),(3,.o (.c (.ref 0))),(4,I k)],[.row 23 (part xs zPeer k)]⟩:St)) (xs.length) ⟨(fun k:Nat=>(⟨_,[(0,L xs),(3,.o (.c (.ref 0))),(4,I k)],[.row 23 (part xs zPeer k)]⟩:St)) 0,⟨0,by omega,trivial,J⟩,Xz [0] (by decide) J (Kf (Zd xs _)) (.c J (.c J (.c J (.nil))))⟩ ?_
 rintro m_A _ ⟨k,hk_A,hp_A,rfl⟩
 refine Wz [57] ?_
 refine Q9 J (fun h => ?_) (fun h => ?_)
 ·have h3:k<xs.length:=by have:=Gqc h; omega
  have hat:=Yc h3
  have hz:=Za xs zPeer h3
  have hpl:(k:Int)<(part xs zPeer k).length:=by rw[Zb xs _ (by omega)]; omega
  have hwt:Enc.wt xs[k]≤wts xs:=Ku xs _ (Gqd h3)
  have hc:=to_Peer xs[k] (by omega)
  refine Wz [6,78,131,37] ?_;refine M1 (Zm J J (hc) J J J) J J ?_;refine Wz [165,193,93] ?_
  exact⟨xs.length-(k+1),by omega,(fun k:Nat=>(⟨_,[(0,L xs),(3,.o (.c (.ref 0))),(4,I k)],[.row 23 (part xs zPeer k)]⟩:St)) (k+1),⟨k+1,by omega,trivial,J⟩,Xz [0] (by decide) J (Kf (Zc xs zPeer h3 _ (by rfl) (by rfl)).symm) (.c J (.c J (.c J (.nil))))⟩
 ·have h3:¬((k:Int)<(els xs).length):=Gqe h
  refine Wz [27] ?_
  exact Xk J J (Xw [0] (by decide) J (Kf (Y9 xs _ (by omega)).symm) J)
theorem eq_PeerS (xs ys:List TPeer) (hn:Enc.gd xs):Con Tryz.prog 69 [] [al xs,al ys] [] (B (decide (xs=ys))):=by
 have hn1:=hn.1
 have hlx:=Yf xs
 have hly:=Yf ys
 by_cases hl:xs.length=ys.length
 ·have hb:decide (((els xs).length:Int)≠((els ys).length:Int))=false:=by rw[hlx,hly,hl]; simp
  refine Con.of Tryz.func69 J Tryz.ntmps69 J (fun E => ?_)
  refine Wz [100,14,83,39,44] ?_;refine Xf (fun m st=>∃ k:Nat,k+m=xs.length∧(xs.take k=ys.take k)∧st=(⟨_,[(0,L xs),(1,L ys),(5,I k)],[]⟩:St)) (xs.length) ⟨_,⟨0,by omega,by simp,J⟩,Xy [] (by kernel_rfl)⟩ ?_
  rintro m_A _ ⟨k,hk_A,hp_A,rfl⟩
  refine Wz [57] ?_
  refine Q9 J (fun h => ?_) (fun h => ?_)
  ·have h3:k<xs.length:=by have:=Gqc h; omega
   have h4:k<ys.length:=by omega
   have hat:=Yc h3
   have hat2:=Yc h4
   have hc:=eq_Peer xs[k] ys[k] (hn.2 _ (Gqd h3))
   by_cases he:xs[k]=ys[k]
   ·rw[Gqb he] at hc
    refine Wz [84,132,90,90] ?_;refine DR.s (Qj J J (hc) J) J J ?_;refine Wz [65,12,79,58] ?_
    exact⟨xs.length-(k+1),by omega,_,⟨k+1,by omega,Ym h3 h4 hp_A he,J⟩,Xy [] (by kernel_rfl)⟩
   ·rw[Gqa he] at hc
    refine Wz [84,132,90,90] ?_;refine DR.s (Qj J J (hc) J) J J ?_;refine Wz [65,12,17,51] ?_
    exact Xk J J (Xw [] (by decide) J J (Xg (eq_ne h3 h4 he).symm))
  ·have h3:¬((k:Int)<(els xs).length):=Gqe h
   refine Wz [16,61] ?_
   exact Xk J J (Xw [] (by decide) J J (Xg (Yk (by omega) hl hp_A).symm))
 ·have hb:decide (((els xs).length:Int)≠((els ys).length:Int))=true:=by rw[hlx,hly]; simp; omega
  refine Con.of Tryz.func69 J Tryz.ntmps69 J (fun E => ?_)
  refine Wz [100,14,33] ?_
  exact Xk J J (Xw [] (by decide) J J (Xg (Yl hl).symm))
end
end Go.Proofs.YtoecjaohdnoenaaGreat
