/-
  What the laws read back of a match, and what they write into a whole one.
  Conditions: numbers below 2^30.
-/
import Derived.Test.YtfklmiijhcajdaaGreatDDTellRowk22
import Derived.Test.YtfklmiijhcajdaaGreatDDTellRowk26
set_option linter.unusedSimpArgs false
set_option linter.unusedVariables false
set_option maxRecDepth 8000
set_option maxHeartbeats 8000000
namespace Go.Proofs.YtfklmiijhcajdaaGreat
section
open Go.RowKit

theorem Xs (xs:List (ByteArray)) (k:Int) (g:Enc.gd xs) (h0:0<k) (hb:nkEs (els xs) k≤1073741823):Con Tryz.prog 157 [] [.c (.rd [] (.sl 1 (mkEs (els xs) k))),ai k] [] (I (nkEs (els xs) k)):=by
 have hn:=Yi xs
 have hn1:=g.1
 have hm:=Y7 (els xs) k
 refine Con.of Tryz.func157 J Tryz.ntmps157 J (fun E => ?_)
 refine Wz [12,11] ?_;refine Xh (fun m st=>∃ i:Nat,i+m=xs.length∧(True)∧st=(⟨_,[(0,.o (.c (.rd [] (.sl 1 (mkEs (els xs) k))))),(1,I (nkEs ((els xs).take i) k)),(5,I i)],[]⟩:St)) (xs.length) ⟨_,⟨0,Aqa,trivial,J⟩,X3 [] Aqb⟩ ?_
 rintro m_A _ ⟨i,hk_A,hp_A,rfl⟩
 by_cases h3:i<xs.length
 ·have f3:decide ((i:Int)<((mkEs (els xs) k).length:Int))=true:=Gqb Aqa 
  have hat:(els xs)[i]? = some (Enc.e xs[i]):=Yg h3
  have hg:=g.2 _ (Gqe h3)
  have hl:=Int.le_trans (Za hat k) hb
  have hi:=Zb ((els xs).take i) k
  have hnx:=Zc hat k
  have hma:=mt_at hat k
  generalize nkEs ((els xs).take i) k=K at hl hi hnx hma ⊢
  have e1:nkE (Enc.e xs[i]) K=(K+1):=Aqb
  have e2:mkE (Enc.e xs[i]) K = [.v (.string (mtext K))]:=Aqb
  rw[e1] at hl hnx
  rw[e2] at hma
  clear e1 e2
  replace hma:(mkEs (els xs) k)[(i:Int).toNat]? = some [.v (.string (mtext K))]:=hma
  have hne:decide (mtext K≠mtext K)=false:=Aqd
  refine Wz [112,82,17,17] ?_;refine Xg [[],[],[0,1],[0,1,2],[],[4],(u9 6)] [[],[],[12,13],[12,13,14],[],[16],[12,13,14,15,16,17]] [[13,16,17],[12,16,17],[16,17],[16,17],[12,13,14,15],[12,13,14,15],[]] J ?_;refine Wz [120,29,4] ?_;refine DR.s (Qj J J (Xt K Aqa) J) J J ?_;refine Wz [187,13,33,94,18,87] ?_
  exact⟨xs.length-(i+1),Aqa,(fun i:Nat=>(⟨_,[(0,.o (.c (.rd [] (.sl 1 (mkEs (els xs) k))))),(1,I (nkEs ((els xs).take i) k)),(5,I i)],[]⟩:St)) (i+1),⟨i+1,Aqa,trivial,J⟩,X4 [] Aqc J Aqb (.c J (.cons (Xq hnx.symm) (.c J (.nil))))⟩
 ·have f3:decide ((i:Int)<((mkEs (els xs) k).length:Int))=false:=Gqa Aqa 
  have hk:=Gqh (show (els xs).length≤i by omega)
  refine Wz [112,44,31] ?_
  exact Xl J J (X1 [] Aqc J J (Xq (by rw[hk])))
theorem L_hdIntS (xs:List (Int)) (k:Int) (g:Enc.gd xs) (h0:0<k) (hb:nkEs (els xs) k≤1073741823):Con Tryz.prog 158 [] [.c (.rd [] (.sl 1 (mkEs (els xs) k))),ai k] [] (I (nkEs (els xs) k)):=by
 have hn:=Yi xs
 have hn1:=g.1
 have hm:=Y7 (els xs) k
 refine Con.of Tryz.func158 J Tryz.ntmps158 J (fun E => ?_)
 refine Wz [12,11] ?_;refine Xh (fun m st=>∃ i:Nat,i+m=xs.length∧(True)∧st=(⟨_,[(0,.o (.c (.rd [] (.sl 1 (mkEs (els xs) k))))),(1,I (nkEs ((els xs).take i) k)),(5,I i)],[]⟩:St)) (xs.length) ⟨_,⟨0,Aqa,trivial,J⟩,X3 [] Aqb⟩ ?_
 rintro m_A _ ⟨i,hk_A,hp_A,rfl⟩
 by_cases h3:i<xs.length
 ·have f3:decide ((i:Int)<((mkEs (els xs) k).length:Int))=true:=Gqb Aqa 
  have hat:(els xs)[i]? = some (Enc.e xs[i]):=Yg h3
  have hg:=g.2 _ (Gqe h3)
  have hl:=Int.le_trans (Za hat k) hb
  have hi:=Zb ((els xs).take i) k
  have hnx:=Zc hat k
  have hma:=mt_at hat k
  generalize nkEs ((els xs).take i) k=K at hl hi hnx hma ⊢
  have e1:nkE (Enc.e xs[i]) K=(K+1):=Aqb
  have e2:mkE (Enc.e xs[i]) K = [.v (.int .i64 K)]:=Aqb
  rw[e1] at hl hnx
  rw[e2] at hma
  clear e1 e2
  replace hma:(mkEs (els xs) k)[(i:Int).toNat]? = some [.v (.int .i64 K)]:=hma
  refine Wz [112,82,43,133,228,94,18,87] ?_
  exact⟨xs.length-(i+1),Aqa,(fun i:Nat=>(⟨_,[(0,.o (.c (.rd [] (.sl 1 (mkEs (els xs) k))))),(1,I (nkEs ((els xs).take i) k)),(5,I i)],[]⟩:St)) (i+1),⟨i+1,Aqa,trivial,J⟩,X4 [] Aqc J Aqb (.c J (.cons (Xq hnx.symm) (.c J (.nil))))⟩
 ·have f3:decide ((i:Int)<((mkEs (els xs) k).length:Int))=false:=Gqa Aqa 
  have hk:=Gqh (show (els xs).length≤i by omega)
  refine Wz [112,44,31] ?_
  exact Xl J J (X1 [] Aqc J J (Xq (by rw[hk])))
theorem L_hdBodyS (xs:List (TBody)) (k:Int) (g:Enc.gd xs) (h0:0<k) (hb:nkEs (els xs) k≤1073741823):Con Tryz.prog 160 [] [.c (.rd [] (.sl 9 (mkEs (els xs) k))),ai k] [] (I (nkEs (els xs) k)):=by
 have hn:=Yi xs
 have hn1:=g.1
 have hm:=Y7 (els xs) k
 refine Con.of Tryz.func160 J Tryz.ntmps160 J (fun E => ?_)
 refine Wz [12,11] ?_;refine Xh (fun m st=>∃ i:Nat,i+m=xs.length∧(True)∧st=(⟨_,[(0,.o (.c (.rd [] (.sl 9 (mkEs (els xs) k))))),(1,I (nkEs ((els xs).take i) k)),(5,I i)],[]⟩:St)) (xs.length) ⟨_,⟨0,Aqa,trivial,J⟩,X3 [] Aqb⟩ ?_
 rintro m_A _ ⟨i,hk_A,hp_A,rfl⟩
 by_cases h3:i<xs.length
 ·have f3:decide ((i:Int)<((mkEs (els xs) k).length:Int))=true:=Gqb Aqa 
  have hat:(els xs)[i]? = some (Enc.e xs[i]):=Yg h3
  have hg:=g.2 _ (Gqe h3)
  have hl:=Int.le_trans (Za hat k) hb
  have hi:=Zb ((els xs).take i) k
  have hnx:=Zc hat k
  have hma:=mt_at hat k
  generalize nkEs ((els xs).take i) k=K at hl hi hnx hma ⊢
  have e1:nkE (Enc.e xs[i]) K=(((((((((K+1)+1)+1)+1)+1)+1)+1)+1)+1):=Aqb
  have e2:mkE (Enc.e xs[i]) K = [.v (.int .i64 K),.v (.int .i64 (K+1)),.v (.int .i64 ((K+1)+1)),.v (.int .i64 (((K+1)+1)+1)),.v (.int .i64 ((((K+1)+1)+1)+1)),.v (.int .i64 (((((K+1)+1)+1)+1)+1)),.v (.int .i64 ((((((K+1)+1)+1)+1)+1)+1)),.v (.int .i64 (((((((K+1)+1)+1)+1)+1)+1)+1)),.v (.int .i64 ((((((((K+1)+1)+1)+1)+1)+1)+1)+1))]:=Aqb
  rw[e1] at hl hnx
  rw[e2] at hma
  clear e1 e2
  replace hma:(mkEs (els xs) k)[(i:Int).toNat]? = some [.v (.int .i64 K),.v (.int .i64 (K+1)),.v (.int .i64 ((K+1)+1)),.v (.int .i64 (((K+1)+1)+1)),.v (.int .i64 ((((K+1)+1)+1)+1)),.v (.int .i64 (((((K+1)+1)+1)+1)+1)),.v (.int .i64 ((((((K+1)+1)+1)+1)+1)+1)),.v (.int .i64 (((((((K+1)+1)+1)+1)+1)+1)+1)),.v (.int .i64 ((((((((K+1)+1)+1)+1)+1)+1)+1)+1))]:=hma
  refine Wz [112,82,79,93,79,93,79,93,79,93,79,93,79,93,79,93,79,93,79,228,94,18,87] ?_
  exact⟨xs.length-(i+1),Aqa,(fun i:Nat=>(⟨_,[(0,.o (.c (.rd [] (.sl 9 (mkEs (els xs) k))))),(1,I (nkEs ((els xs).take i) k)),(5,I i)],[]⟩:St)) (i+1),⟨i+1,Aqa,trivial,J⟩,X4 [] Aqc J Aqb (.c J (.cons (Xq hnx.symm) (.c J (.nil))))⟩
 ·have f3:decide ((i:Int)<((mkEs (els xs) k).length:Int))=false:=Gqa Aqa 
  have hk:=Gqh (show (els xs).length≤i by omega)
  refine Wz [112,44,31] ?_
  exact Xl J J (X1 [] Aqc J J (Xq (by rw[hk])))
theorem L_hdIntSS (xs:List (List Int)) (k:Int) (g:Enc.gd xs) (h0:0<k) (hb:nkEs (els xs) k≤1073741823):Con Tryz.prog 76 [] [.c (.rd [] (.sl 1 (mkEs (els xs) k))),ai k] [] (I (nkEs (els xs) k)):=by
 have hn:=Yi xs
 have hn1:=g.1
 have hm:=Y7 (els xs) k
 refine Con.of Tryz.func76 J Tryz.ntmps76 J (fun E => ?_)
 refine Wz [12,11] ?_;refine Xh (fun m st=>∃ i:Nat,i+m=xs.length∧(True)∧st=(⟨_,[(0,.o (.c (.rd [] (.sl 1 (mkEs (els xs) k))))),(1,I (nkEs ((els xs).take i) k)),(5,I i)],[]⟩:St)) (xs.length) ⟨_,⟨0,Aqa,trivial,J⟩,X3 [] Aqb⟩ ?_
 rintro m_A _ ⟨i,hk_A,hp_A,rfl⟩
 by_cases h3:i<xs.length
 ·have f3:decide ((i:Int)<((mkEs (els xs) k).length:Int))=true:=Gqb Aqa 
  have hat:(els xs)[i]? = some (Enc.e xs[i]):=Yg h3
  have hg:=g.2 _ (Gqe h3)
  have hl:=Int.le_trans (Za hat k) hb
  have hi:=Zb ((els xs).take i) k
  have hnx:=Zc hat k
  have hma:=mt_at hat k
  generalize nkEs ((els xs).take i) k=K at hl hi hnx hma ⊢
  have e1:nkE (Enc.e xs[i]) K=(nkEs (els xs[i]) K):=Aqb
  have e2:mkE (Enc.e xs[i]) K = [.sl 1 (mkEs (els xs[i]) K)]:=Aqb
  rw[e1] at hl hnx
  rw[e2] at hma
  clear e1 e2
  have m1:=Zb (els xs[i]) K
  generalize h1:nkEs (els xs[i]) K=K1 at m1 hl hnx hma
  have c1:=L_hdIntS xs[i] K hg Aqa Aqa 
  rw[h1] at c1
  have n1:decide (K1<0)=false:=Gqa Aqa 
  replace hma:(mkEs (els xs) k)[(i:Int).toNat]? = some [.sl 1 (mkEs (els xs[i]) K)]:=hma
  refine Wz [112,82,9,133,114] ?_;refine zx (Qj J J (c1) J) J ?_;refine Wz [40,44,62] ?_
  exact⟨xs.length-(i+1),Aqa,(fun i:Nat=>(⟨_,[(0,.o (.c (.rd [] (.sl 1 (mkEs (els xs) k))))),(1,I (nkEs ((els xs).take i) k)),(5,I i)],[]⟩:St)) (i+1),⟨i+1,Aqa,trivial,J⟩,X4 [] Aqc J Aqb (.c J (.cons (Xq hnx.symm) (.c J (.nil))))⟩
 ·have f3:decide ((i:Int)<((mkEs (els xs) k).length:Int))=false:=Gqa Aqa 
  have hk:=Gqh (show (els xs).length≤i by omega)
  refine Wz [112,44,31] ?_
  exact Xl J J (X1 [] Aqc J J (Xq (by rw[hk])))
theorem L_hdTrackS (xs:List (TTrack)) (k:Int) (g:Enc.gd xs) (h0:0<k) (hb:nkEs (els xs) k≤1073741823):Con Tryz.prog 159 [] [.c (.rd [] (.sl 1 (mkEs (els xs) k))),ai k] [] (I (nkEs (els xs) k)):=by
 have hn:=Yi xs
 have hn1:=g.1
 have hm:=Y7 (els xs) k
 refine Con.of Tryz.func159 J Tryz.ntmps159 J (fun E => ?_)
 refine Wz [12,11] ?_;refine Xh (fun m st=>∃ i:Nat,i+m=xs.length∧(True)∧st=(⟨_,[(0,.o (.c (.rd [] (.sl 1 (mkEs (els xs) k))))),(1,I (nkEs ((els xs).take i) k)),(5,I i)],[]⟩:St)) (xs.length) ⟨_,⟨0,Aqa,trivial,J⟩,X3 [] Aqb⟩ ?_
 rintro m_A _ ⟨i,hk_A,hp_A,rfl⟩
 by_cases h3:i<xs.length
 ·have f3:decide ((i:Int)<((mkEs (els xs) k).length:Int))=true:=Gqb Aqa 
  have hat:(els xs)[i]? = some (Enc.e xs[i]):=Yg h3
  have hg:=g.2 _ (Gqe h3)
  have hl:=Int.le_trans (Za hat k) hb
  have hi:=Zb ((els xs).take i) k
  have hnx:=Zc hat k
  have hma:=mt_at hat k
  generalize nkEs ((els xs).take i) k=K at hl hi hnx hma ⊢
  have e1:nkE (Enc.e xs[i]) K=(nkEs (els xs[i].Inputs) K):=Aqb
  have e2:mkE (Enc.e xs[i]) K = [.sl 1 (mkEs (els xs[i].Inputs) K)]:=Aqb
  rw[e1] at hl hnx
  rw[e2] at hma
  clear e1 e2
  have m1:=Zb (els xs[i].Inputs) K
  generalize h1:nkEs (els xs[i].Inputs) K=K1 at m1 hl hnx hma
  have c1:=L_hdIntS xs[i].Inputs K hg Aqa Aqa 
  rw[h1] at c1
  have n1:decide (K1<0)=false:=Gqa Aqa 
  replace hma:(mkEs (els xs) k)[(i:Int).toNat]? = some [.sl 1 (mkEs (els xs[i].Inputs) K)]:=hma
  refine Wz [112,82,9,130,114] ?_;refine zx (Qj J J (c1) J) J ?_;refine Wz [40,44,62] ?_
  exact⟨xs.length-(i+1),Aqa,(fun i:Nat=>(⟨_,[(0,.o (.c (.rd [] (.sl 1 (mkEs (els xs) k))))),(1,I (nkEs ((els xs).take i) k)),(5,I i)],[]⟩:St)) (i+1),⟨i+1,Aqa,trivial,J⟩,X4 [] Aqc J Aqb (.c J (.cons (Xq hnx.symm) (.c J (.nil))))⟩
 ·have f3:decide ((i:Int)<((mkEs (els xs) k).length:Int))=false:=Gqa Aqa 
  have hk:=Gqh (show (els xs).length≤i by omega)
  refine Wz [112,44,31] ?_
  exact Xl J J (X1 [] Aqc J J (Xq (by rw[hk])))
theorem L_hdSaveS (xs:List (TSave)) (k:Int) (g:Enc.gd xs) (h0:0<k) (hb:nkEs (els xs) k≤1073741823):Con Tryz.prog 161 [] [.c (.rd [] (.sl 2 (mkEs (els xs) k))),ai k] [] (I (nkEs (els xs) k)):=by
 have hn:=Yi xs
 have hn1:=g.1
 have hm:=Y7 (els xs) k
 refine Con.of Tryz.func161 J Tryz.ntmps161 J (fun E => ?_)
 refine Wz [12,11] ?_;refine Xh (fun m st=>∃ i:Nat,i+m=xs.length∧(True)∧st=(⟨_,[(0,.o (.c (.rd [] (.sl 2 (mkEs (els xs) k))))),(1,I (nkEs ((els xs).take i) k)),(5,I i)],[]⟩:St)) (xs.length) ⟨_,⟨0,Aqa,trivial,J⟩,X3 [] Aqb⟩ ?_
 rintro m_A _ ⟨i,hk_A,hp_A,rfl⟩
 by_cases h3:i<xs.length
 ·have f3:decide ((i:Int)<((mkEs (els xs) k).length:Int))=true:=Gqb Aqa 
  have hat:(els xs)[i]? = some (Enc.e xs[i]):=Yg h3
  have hg:=g.2 _ (Gqe h3)
  have hl:=Int.le_trans (Za hat k) hb
  have hi:=Zb ((els xs).take i) k
  have hnx:=Zc hat k
  have hma:=mt_at hat k
  generalize nkEs ((els xs).take i) k=K at hl hi hnx hma ⊢
  have e1:nkE (Enc.e xs[i]) K=((K+1)+1):=Aqb
  have e2:mkE (Enc.e xs[i]) K = [.v (.int .i64 K),.v (.string (mtext (K+1)))]:=Aqb
  rw[e1] at hl hnx
  rw[e2] at hma
  clear e1 e2
  replace hma:(mkEs (els xs) k)[(i:Int).toNat]? = some [.v (.int .i64 K),.v (.string (mtext (K+1)))]:=hma
  have hne:decide (mtext (K+1)≠mtext (K+1))=false:=Aqd
  refine Wz [112,82,79,93,17,17] ?_;refine Xg u8_56 u8_57 u8_58 J ?_;refine Wz [120,173,29,4] ?_;refine DR.s (Qj J J (Xt (K+1) Aqa) J) J J ?_;refine Wz [187,13,33,94,18,87] ?_
  exact⟨xs.length-(i+1),Aqa,(fun i:Nat=>(⟨_,[(0,.o (.c (.rd [] (.sl 2 (mkEs (els xs) k))))),(1,I (nkEs ((els xs).take i) k)),(5,I i)],[]⟩:St)) (i+1),⟨i+1,Aqa,trivial,J⟩,X4 [] Aqc J Aqb (.c J (.cons (Xq hnx.symm) (.c J (.nil))))⟩
 ·have f3:decide ((i:Int)<((mkEs (els xs) k).length:Int))=false:=Gqa Aqa 
  have hk:=Gqh (show (els xs).length≤i by omega)
  refine Wz [112,44,31] ?_
  exact Xl J J (X1 [] Aqc J J (Xq (by rw[hk])))
theorem L_hdPeerS (xs:List (TPeer)) (k:Int) (g:Enc.gd xs) (h0:0<k) (hb:nkEs (els xs) k≤1073741823):Con Tryz.prog 77 [] [.c (.rd [] (.sl 23 (mkEs (els xs) k))),ai k] [] (I (nkEs (els xs) k)):=by
 have hn:=Yi xs
 have hn1:=g.1
 have hm:=Y7 (els xs) k
 refine Con.of Tryz.func77 J Tryz.ntmps77 J (fun E => ?_)
 refine Wz [12,11] ?_;refine Xh (fun m st=>∃ i:Nat,i+m=xs.length∧(True)∧st=(⟨_,[(0,.o (.c (.rd [] (.sl 23 (mkEs (els xs) k))))),(1,I (nkEs ((els xs).take i) k)),(5,I i)],[]⟩:St)) (xs.length) ⟨_,⟨0,Aqa,trivial,J⟩,X3 [] Aqb⟩ ?_
 rintro m_A _ ⟨i,hk_A,hp_A,rfl⟩
 by_cases h3:i<xs.length
 ·have f3:decide ((i:Int)<((mkEs (els xs) k).length:Int))=true:=Gqb Aqa 
  have hat:(els xs)[i]? = some (Enc.e xs[i]):=Yg h3
  have hg:=g.2 _ (Gqe h3)
  have hl:=Int.le_trans (Za hat k) hb
  have hi:=Zb ((els xs).take i) k
  have hnx:=Zc hat k
  have hma:=mt_at hat k
  generalize nkEs ((els xs).take i) k=K at hl hi hnx hma ⊢
  have e1:nkE (Enc.e xs[i]) K=((((((nkEs (els xs[i].Sums) (nkEs (els xs[i].Saves) (nkEs (els xs[i].Used) (nkEs (els xs[i].Now.Bodies) (nkEs (els xs[i].Now.Scores) (((nkEs (els xs[i].Now.Level.Rows) (nkEs (els xs[i].Base.Bodies) (nkEs (els xs[i].Base.Scores) (((nkEs (els xs[i].Base.Level.Rows) (nkEs (els xs[i].Tracks) ((((K+1)+1)+1)+1)))+1)+1))))+1)+1))))))+1)+1)+1)+1)+1):=Aqb
  have e2:mkE (Enc.e xs[i]) K = [.v (.int .i64 K),.v (.int .i64 (K+1)),.v (.int .i64 ((K+1)+1)),.v (.int .i64 (((K+1)+1)+1)),.sl 1 (mkEs (els xs[i].Tracks) ((((K+1)+1)+1)+1)),.sl 1 (mkEs (els xs[i].Base.Level.Rows) (nkEs (els xs[i].Tracks) ((((K+1)+1)+1)+1))),.v (.int .i64 (nkEs (els xs[i].Base.Level.Rows) (nkEs (els xs[i].Tracks) ((((K+1)+1)+1)+1)))),.v (.int .i64 ((nkEs (els xs[i].Base.Level.Rows) (nkEs (els xs[i].Tracks) ((((K+1)+1)+1)+1)))+1)),.sl 1 (mkEs (els xs[i].Base.Scores) (((nkEs (els xs[i].Base.Level.Rows) (nkEs (els xs[i].Tracks) ((((K+1)+1)+1)+1)))+1)+1)),.sl 9 (mkEs (els xs[i].Base.Bodies) (nkEs (els xs[i].Base.Scores) (((nkEs (els xs[i].Base.Level.Rows) (nkEs (els xs[i].Tracks) ((((K+1)+1)+1)+1)))+1)+1))),.sl 1 (mkEs (els xs[i].Now.Level.Rows) (nkEs (els xs[i].Base.Bodies) (nkEs (els xs[i].Base.Scores) (((nkEs (els xs[i].Base.Level.Rows) (nkEs (els xs[i].Tracks) ((((K+1)+1)+1)+1)))+1)+1)))),.v (.int .i64 (nkEs (els xs[i].Now.Level.Rows) (nkEs (els xs[i].Base.Bodies) (nkEs (els xs[i].Base.Scores) (((nkEs (els xs[i].Base.Level.Rows) (nkEs (els xs[i].Tracks) ((((K+1)+1)+1)+1)))+1)+1))))),.v (.int .i64 ((nkEs (els xs[i].Now.Level.Rows) (nkEs (els xs[i].Base.Bodies) (nkEs (els xs[i].Base.Scores) (((nkEs (els xs[i].Base.Level.Rows) (nkEs (els xs[i].Tracks) ((((K+1)+1)+1)+1)))+1)+1))))+1)),.sl 1 (mkEs (els xs[i].Now.Scores) (((nkEs (els xs[i].Now.Level.Rows) (nkEs (els xs[i].Base.Bodies) (nkEs (els xs[i].Base.Scores) (((nkEs (els xs[i].Base.Level.Rows) (nkEs (els xs[i].Tracks) ((((K+1)+1)+1)+1)))+1)+1))))+1)+1)),.sl 9 (mkEs (els xs[i].Now.Bodies) (nkEs (els xs[i].Now.Scores) (((nkEs (els xs[i].Now.Level.Rows) (nkEs (els xs[i].Base.Bodies) (nkEs (els xs[i].Base.Scores) (((nkEs (els xs[i].Base.Level.Rows) (nkEs (els xs[i].Tracks) ((((K+1)+1)+1)+1)))+1)+1))))+1)+1))),.sl 1 (mkEs (els xs[i].Used) (nkEs (els xs[i].Now.Bodies) (nkEs (els xs[i].Now.Scores) (((nkEs (els xs[i].Now.Level.Rows) (nkEs (els xs[i].Base.Bodies) (nkEs (els xs[i].Base.Scores) (((nkEs (els xs[i].Base.Level.Rows) (nkEs (els xs[i].Tracks) ((((K+1)+1)+1)+1)))+1)+1))))+1)+1)))),.sl 2 (mkEs (els xs[i].Saves) (nkEs (els xs[i].Used) (nkEs (els xs[i].Now.Bodies) (nkEs (els xs[i].Now.Scores) (((nkEs (els xs[i].Now.Level.Rows) (nkEs (els xs[i].Base.Bodies) (nkEs (els xs[i].Base.Scores) (((nkEs (els xs[i].Base.Level.Rows) (nkEs (els xs[i].Tracks) ((((K+1)+1)+1)+1)))+1)+1))))+1)+1))))),.sl 1 (mkEs (els xs[i].Sums) (nkEs (els xs[i].Saves) (nkEs (els xs[i].Used) (nkEs (els xs[i].Now.Bodies) (nkEs (els xs[i].Now.Scores) (((nkEs (els xs[i].Now.Level.Rows) (nkEs (els xs[i].Base.Bodies) (nkEs (els xs[i].Base.Scores) (((nkEs (els xs[i].Base.Level.Rows) (nkEs (els xs[i].Tracks) ((((K+1)+1)+1)+1)))+1)+1))))+1)+1)))))),.v (.int .i64 (nkEs (els xs[i].Sums) (nkEs (els xs[i].Saves) (nkEs (els xs[i].Used) (nkEs (els xs[i].Now.Bodies) (nkEs (els xs[i].Now.Scores) (((nkEs (els xs[i].Now.Level.Rows) (nkEs (els xs[i].Base.Bodies) (nkEs (els xs[i].Base.Scores) (((nkEs (els xs[i].Base.Level.Rows) (nkEs (els xs[i].Tracks) ((((K+1)+1)+1)+1)))+1)+1))))+1)+1))))))),.v (.int .i64 ((nkEs (els xs[i].Sums) (nkEs (els xs[i].Saves) (nkEs (els xs[i].Used) (nkEs (els xs[i].Now.Bodies) (nkEs (els xs[i].Now.Scores) (((nkEs (els xs[i].Now.Level.Rows) (nkEs (els xs[i].Base.Bodies) (nkEs (els xs[i].Base.Scores) (((nkEs (els xs[i].Base.Level.Rows) (nkEs (els xs[i].Tracks) ((((K+1)+1)+1)+1)))+1)+1))))+1)+1))))))+1)),.v (.int .i64 (((nkEs (els xs[i].Sums) (nkEs (els xs[i].Saves) (nkEs (els xs[i].Used) (nkEs (els xs[i].Now.Bodies) (nkEs (els xs[i].Now.Scores) (((nkEs (els xs[i].Now.Level.Rows) (nkEs (els xs[i].Base.Bodies) (nkEs (els xs[i].Base.Scores) (((nkEs (els xs[i].Base.Level.Rows) (nkEs (els xs[i].Tracks) ((((K+1)+1)+1)+1)))+1)+1))))+1)+1))))))+1)+1)),.v (.int .i64 ((((nkEs (els xs[i].Sums) (nkEs (els xs[i].Saves) (nkEs (els xs[i].Used) (nkEs (els xs[i].Now.Bodies) (nkEs (els xs[i].Now.Scores) (((nkEs (els xs[i].Now.Level.Rows) (nkEs (els xs[i].Base.Bodies) (nkEs (els xs[i].Base.Scores) (((nkEs (els xs[i].Base.Level.Rows) (nkEs (els xs[i].Tracks) ((((K+1)+1)+1)+1)))+1)+1))))+1)+1))))))+1)+1)+1)),.v (.int .i64 (((((nkEs (els xs[i].Sums) (nkEs (els xs[i].Saves) (nkEs (els xs[i].Used) (nkEs (els xs[i].Now.Bodies) (nkEs (els xs[i].Now.Scores) (((nkEs (els xs[i].Now.Level.Rows) (nkEs (els xs[i].Base.Bodies) (nkEs (els xs[i].Base.Scores) (((nkEs (els xs[i].Base.Level.Rows) (nkEs (els xs[i].Tracks) ((((K+1)+1)+1)+1)))+1)+1))))+1)+1))))))+1)+1)+1)+1))]:=Aqb
  rw[e1] at hl hnx
  rw[e2] at hma
  clear e1 e2
  have m1:=Zb (els xs[i].Tracks) ((((K+1)+1)+1)+1)
  generalize h1:nkEs (els xs[i].Tracks) ((((K+1)+1)+1)+1)=K1 at m1 hl hnx hma
  have m2:=Zb (els xs[i].Base.Level.Rows) K1
  generalize h2:nkEs (els xs[i].Base.Level.Rows) K1=K2 at m2 hl hnx hma
  have m3:=Zb (els xs[i].Base.Scores) ((K2+1)+1)
  generalize h3:nkEs (els xs[i].Base.Scores) ((K2+1)+1)=K3 at m3 hl hnx hma
  have m4:=Zb (els xs[i].Base.Bodies) K3
  generalize h4:nkEs (els xs[i].Base.Bodies) K3=K4 at m4 hl hnx hma
  have m5:=Zb (els xs[i].Now.Level.Rows) K4
  generalize h5:nkEs (els xs[i].Now.Level.Rows) K4=K5 at m5 hl hnx hma
  have m6:=Zb (els xs[i].Now.Scores) ((K5+1)+1)
  generalize h6:nkEs (els xs[i].Now.Scores) ((K5+1)+1)=K6 at m6 hl hnx hma
  have m7:=Zb (els xs[i].Now.Bodies) K6
  generalize h7:nkEs (els xs[i].Now.Bodies) K6=K7 at m7 hl hnx hma
  have m8:=Zb (els xs[i].Used) K7
  generalize h8:nkEs (els xs[i].Used) K7=K8 at m8 hl hnx hma
  have m9:=Zb (els xs[i].Saves) K8
  generalize h9:nkEs (els xs[i].Saves) K8=K9 at m9 hl hnx hma
  have m10:=Zb (els xs[i].Sums) K9
  generalize h10:nkEs (els xs[i].Sums) K9=K10 at m10 hl hnx hma
  have c1:=L_hdTrackS xs[i].Tracks ((((K+1)+1)+1)+1) hg.2.2.2.2.1 Aqa Aqa 
  rw[h1] at c1
  have n1:decide (K1<0)=false:=Gqa Aqa 
  have c2:=Xs xs[i].Base.Level.Rows K1 hg.2.2.2.2.2.1.1 Aqa Aqa 
  rw[h2] at c2
  have n2:decide (K2<0)=false:=Gqa Aqa 
  have c3:=L_hdIntS xs[i].Base.Scores ((K2+1)+1) hg.2.2.2.2.2.1.2.2.2.1 Aqa Aqa 
  rw[h3] at c3
  have n3:decide (K3<0)=false:=Gqa Aqa 
  have c4:=L_hdBodyS xs[i].Base.Bodies K3 hg.2.2.2.2.2.1.2.2.2.2 Aqa Aqa 
  rw[h4] at c4
  have n4:decide (K4<0)=false:=Gqa Aqa 
  have c5:=Xs xs[i].Now.Level.Rows K4 hg.2.2.2.2.2.2.1.1 Aqa Aqa 
  rw[h5] at c5
  have n5:decide (K5<0)=false:=Gqa Aqa 
  have c6:=L_hdIntS xs[i].Now.Scores ((K5+1)+1) hg.2.2.2.2.2.2.1.2.2.2.1 Aqa Aqa 
  rw[h6] at c6
  have n6:decide (K6<0)=false:=Gqa Aqa 
  have c7:=L_hdBodyS xs[i].Now.Bodies K6 hg.2.2.2.2.2.2.1.2.2.2.2 Aqa Aqa 
  rw[h7] at c7
  have n7:decide (K7<0)=false:=Gqa Aqa 
  have c8:=L_hdIntSS xs[i].Used K7 hg.2.2.2.2.2.2.2.1 Aqa Aqa 
  rw[h8] at c8
  have n8:decide (K8<0)=false:=Gqa Aqa 
  have c9:=L_hdSaveS xs[i].Saves K8 hg.2.2.2.2.2.2.2.2.1 Aqa Aqa 
  rw[h9] at c9
  have n9:decide (K9<0)=false:=Gqa Aqa 
  have c10:=L_hdIntS xs[i].Sums K9 hg.2.2.2.2.2.2.2.2.2.1 Aqa Aqa 
  rw[h10] at c10
  have n10:decide (K10<0)=false:=Gqa Aqa 
  replace hma:(mkEs (els xs) k)[(i:Int).toNat]? = some [.v (.int .i64 K),.v (.int .i64 (K+1)),.v (.int .i64 ((K+1)+1)),.v (.int .i64 (((K+1)+1)+1)),.sl 1 (mkEs (els xs[i].Tracks) ((((K+1)+1)+1)+1)),.sl 1 (mkEs (els xs[i].Base.Level.Rows) K1),.v (.int .i64 K2),.v (.int .i64 (K2+1)),.sl 1 (mkEs (els xs[i].Base.Scores) ((K2+1)+1)),.sl 9 (mkEs (els xs[i].Base.Bodies) K3),.sl 1 (mkEs (els xs[i].Now.Level.Rows) K4),.v (.int .i64 K5),.v (.int .i64 (K5+1)),.sl 1 (mkEs (els xs[i].Now.Scores) ((K5+1)+1)),.sl 9 (mkEs (els xs[i].Now.Bodies) K6),.sl 1 (mkEs (els xs[i].Used) K7),.sl 2 (mkEs (els xs[i].Saves) K8),.sl 1 (mkEs (els xs[i].Sums) K9),.v (.int .i64 K10),.v (.int .i64 (K10+1)),.v (.int .i64 ((K10+1)+1)),.v (.int .i64 (((K10+1)+1)+1)),.v (.int .i64 ((((K10+1)+1)+1)+1))]:=hma
  refine Wz [112,82,79,93,79,93,79,93,79,93,9,130,114] ?_;refine zx (Qj J J (c1) J) J ?_;refine Wz [83,9,130,137,137,114] ?_;refine zx (Qj J J (c2) J) J ?_;refine Wz [83,79,137,93,79,137,93,9,130,137,114] ?_;refine zx (Qj J J (c3) J) J ?_;refine Wz [83,9,130,137,114] ?_;refine zx (Qj J J (c4) J) J ?_;refine Wz [83,9,130,137,137,114] ?_;refine zx (Qj J J (c5) J) J ?_;refine Wz [83,79,137,93,79,137,93,9,130,137,114] ?_;refine zx (Qj J J (c6) J) J ?_;refine Wz [83,9,130,137,114] ?_;refine zx (Qj J J (c7) J) J ?_;refine Wz [83,9,130,114] ?_;refine zx (Qj J J (c8) J) J ?_;refine Wz [83,9,130,114] ?_;refine zx (Qj J J (c9) J) J ?_;refine Wz [83,9,130,114] ?_;refine zx (Qj J J (c10) J) J ?_;refine Wz [83,79,137,93,79,137,93,79,137,93,79,93,79,228,94,18,87] ?_
  exact⟨xs.length-(i+1),Aqa,(fun i:Nat=>(⟨_,[(0,.o (.c (.rd [] (.sl 23 (mkEs (els xs) k))))),(1,I (nkEs ((els xs).take i) k)),(5,I i)],[]⟩:St)) (i+1),⟨i+1,Aqa,trivial,J⟩,X4 [] Aqc J Aqb (.c J (.cons (Xq hnx.symm) (.c J (.nil))))⟩
 ·have f3:decide ((i:Int)<((mkEs (els xs) k).length:Int))=false:=Gqa Aqa 
  have hk:=Gqh (show (els xs).length≤i by omega)
  refine Wz [112,44,31] ?_
  exact Xl J J (X1 [] Aqc J J (Xq (by rw[hk])))
theorem L_hdFlightS (xs:List (TFlight)) (k:Int) (g:Enc.gd xs) (h0:0<k) (hb:nkEs (els xs) k≤1073741823):Con Tryz.prog 163 [] [.c (.rd [] (.sl 2 (mkEs (els xs) k))),ai k] [] (I (nkEs (els xs) k)):=by
 have hn:=Yi xs
 have hn1:=g.1
 have hm:=Y7 (els xs) k
 refine Con.of Tryz.func163 J Tryz.ntmps163 J (fun E => ?_)
 refine Wz [12,11] ?_;refine Xh (fun m st=>∃ i:Nat,i+m=xs.length∧(True)∧st=(⟨_,[(0,.o (.c (.rd [] (.sl 2 (mkEs (els xs) k))))),(1,I (nkEs ((els xs).take i) k)),(5,I i)],[]⟩:St)) (xs.length) ⟨_,⟨0,Aqa,trivial,J⟩,X3 [] Aqb⟩ ?_
 rintro m_A _ ⟨i,hk_A,hp_A,rfl⟩
 by_cases h3:i<xs.length
 ·have f3:decide ((i:Int)<((mkEs (els xs) k).length:Int))=true:=Gqb Aqa 
  have hat:(els xs)[i]? = some (Enc.e xs[i]):=Yg h3
  have hg:=g.2 _ (Gqe h3)
  have hl:=Int.le_trans (Za hat k) hb
  have hi:=Zb ((els xs).take i) k
  have hnx:=Zc hat k
  have hma:=mt_at hat k
  generalize nkEs ((els xs).take i) k=K at hl hi hnx hma ⊢
  have e1:nkE (Enc.e xs[i]) K=((K+1)+1):=Aqb
  have e2:mkE (Enc.e xs[i]) K = [.v (.int .i64 K),.v (.string (mtext (K+1)))]:=Aqb
  rw[e1] at hl hnx
  rw[e2] at hma
  clear e1 e2
  replace hma:(mkEs (els xs) k)[(i:Int).toNat]? = some [.v (.int .i64 K),.v (.string (mtext (K+1)))]:=hma
  have hne:decide (mtext (K+1)≠mtext (K+1))=false:=Aqd
  refine Wz [112,82,79,93,17,17] ?_;refine Xg u8_56 u8_57 u8_58 J ?_;refine Wz [120,173,29,4] ?_;refine DR.s (Qj J J (Xt (K+1) Aqa) J) J J ?_;refine Wz [187,13,33,94,18,87] ?_
  exact⟨xs.length-(i+1),Aqa,(fun i:Nat=>(⟨_,[(0,.o (.c (.rd [] (.sl 2 (mkEs (els xs) k))))),(1,I (nkEs ((els xs).take i) k)),(5,I i)],[]⟩:St)) (i+1),⟨i+1,Aqa,trivial,J⟩,X4 [] Aqc J Aqb (.c J (.cons (Xq hnx.symm) (.c J (.nil))))⟩
 ·have f3:decide ((i:Int)<((mkEs (els xs) k).length:Int))=false:=Gqa Aqa 
  have hk:=Gqh (show (els xs).length≤i by omega)
  refine Wz [112,44,31] ?_
  exact Xl J J (X1 [] Aqc J J (Xq (by rw[hk])))
theorem L_hdWireS (xs:List (TWire)) (k:Int) (g:Enc.gd xs) (h0:0<k) (hb:nkEs (els xs) k≤1073741823):Con Tryz.prog 81 [] [.c (.rd [] (.sl 10 (mkEs (els xs) k))),ai k] [] (I (nkEs (els xs) k)):=by
 have hn:=Yi xs
 have hn1:=g.1
 have hm:=Y7 (els xs) k
 refine Con.of Tryz.func81 J Tryz.ntmps81 J (fun E => ?_)
 refine Wz [12,11] ?_;refine Xh (fun m st=>∃ i:Nat,i+m=xs.length∧(True)∧st=(⟨_,[(0,.o (.c (.rd [] (.sl 10 (mkEs (els xs) k))))),(1,I (nkEs ((els xs).take i) k)),(5,I i)],[]⟩:St)) (xs.length) ⟨_,⟨0,Aqa,trivial,J⟩,X3 [] Aqb⟩ ?_
 rintro m_A _ ⟨i,hk_A,hp_A,rfl⟩
 by_cases h3:i<xs.length
 ·have f3:decide ((i:Int)<((mkEs (els xs) k).length:Int))=true:=Gqb Aqa 
  have hat:(els xs)[i]? = some (Enc.e xs[i]):=Yg h3
  have hg:=g.2 _ (Gqe h3)
  have hl:=Int.le_trans (Za hat k) hb
  have hi:=Zb ((els xs).take i) k
  have hnx:=Zc hat k
  have hma:=mt_at hat k
  generalize nkEs ((els xs).take i) k=K at hl hi hnx hma ⊢
  have e1:nkE (Enc.e xs[i]) K=(((nkEs (els xs[i].Flights) (((((((K+1)+1)+1)+1)+1)+1)+1))+1)+1):=Aqb
  have e2:mkE (Enc.e xs[i]) K = [.v (.int .i64 K),.v (.int .i64 (K+1)),.v (.int .i64 ((K+1)+1)),.v (.int .i64 (((K+1)+1)+1)),.v (.int .i64 ((((K+1)+1)+1)+1)),.v (.int .i64 (((((K+1)+1)+1)+1)+1)),.v (.int .i64 ((((((K+1)+1)+1)+1)+1)+1)),.sl 2 (mkEs (els xs[i].Flights) (((((((K+1)+1)+1)+1)+1)+1)+1)),.v (.int .i64 (nkEs (els xs[i].Flights) (((((((K+1)+1)+1)+1)+1)+1)+1))),.v (.int .i64 ((nkEs (els xs[i].Flights) (((((((K+1)+1)+1)+1)+1)+1)+1))+1))]:=Aqb
  rw[e1] at hl hnx
  rw[e2] at hma
  clear e1 e2
  have m1:=Zb (els xs[i].Flights) (((((((K+1)+1)+1)+1)+1)+1)+1)
  generalize h1:nkEs (els xs[i].Flights) (((((((K+1)+1)+1)+1)+1)+1)+1)=K1 at m1 hl hnx hma
  have c1:=L_hdFlightS xs[i].Flights (((((((K+1)+1)+1)+1)+1)+1)+1) hg.2.2.2.2.2.2.2.1 Aqa Aqa 
  rw[h1] at c1
  have n1:decide (K1<0)=false:=Gqa Aqa 
  replace hma:(mkEs (els xs) k)[(i:Int).toNat]? = some [.v (.int .i64 K),.v (.int .i64 (K+1)),.v (.int .i64 ((K+1)+1)),.v (.int .i64 (((K+1)+1)+1)),.v (.int .i64 ((((K+1)+1)+1)+1)),.v (.int .i64 (((((K+1)+1)+1)+1)+1)),.v (.int .i64 ((((((K+1)+1)+1)+1)+1)+1)),.sl 2 (mkEs (els xs[i].Flights) (((((((K+1)+1)+1)+1)+1)+1)+1)),.v (.int .i64 K1),.v (.int .i64 (K1+1))]:=hma
  refine Wz [112,82,79,93,79,93,79,93,79,93,79,93,79,93,79,93,9,130,114] ?_;refine zx (Qj J J (c1) J) J ?_;refine Wz [83,79,93,79,228,94,18,87] ?_
  exact⟨xs.length-(i+1),Aqa,(fun i:Nat=>(⟨_,[(0,.o (.c (.rd [] (.sl 10 (mkEs (els xs) k))))),(1,I (nkEs ((els xs).take i) k)),(5,I i)],[]⟩:St)) (i+1),⟨i+1,Aqa,trivial,J⟩,X4 [] Aqc J Aqb (.c J (.cons (Xq hnx.symm) (.c J (.nil))))⟩
 ·have f3:decide ((i:Int)<((mkEs (els xs) k).length:Int))=false:=Gqa Aqa 
  have hk:=Gqh (show (els xs).length≤i by omega)
  refine Wz [112,44,31] ?_
  exact Xl J J (X1 [] Aqc J J (Xq (by rw[hk])))
theorem L_hdWireSS (xs:List (List TWire)) (k:Int) (g:Enc.gd xs) (h0:0<k) (hb:nkEs (els xs) k≤1073741823):Con Tryz.prog 78 [] [.c (.rd [] (.sl 1 (mkEs (els xs) k))),ai k] [] (I (nkEs (els xs) k)):=by
 have hn:=Yi xs
 have hn1:=g.1
 have hm:=Y7 (els xs) k
 refine Con.of Tryz.func78 J Tryz.ntmps78 J (fun E => ?_)
 refine Wz [12,11] ?_;refine Xh (fun m st=>∃ i:Nat,i+m=xs.length∧(True)∧st=(⟨_,[(0,.o (.c (.rd [] (.sl 1 (mkEs (els xs) k))))),(1,I (nkEs ((els xs).take i) k)),(5,I i)],[]⟩:St)) (xs.length) ⟨_,⟨0,Aqa,trivial,J⟩,X3 [] Aqb⟩ ?_
 rintro m_A _ ⟨i,hk_A,hp_A,rfl⟩
 by_cases h3:i<xs.length
 ·have f3:decide ((i:Int)<((mkEs (els xs) k).length:Int))=true:=Gqb Aqa 
  have hat:(els xs)[i]? = some (Enc.e xs[i]):=Yg h3
  have hg:=g.2 _ (Gqe h3)
  have hl:=Int.le_trans (Za hat k) hb
  have hi:=Zb ((els xs).take i) k
  have hnx:=Zc hat k
  have hma:=mt_at hat k
  generalize nkEs ((els xs).take i) k=K at hl hi hnx hma ⊢
  have e1:nkE (Enc.e xs[i]) K=(nkEs (els xs[i]) K):=Aqb
  have e2:mkE (Enc.e xs[i]) K = [.sl 10 (mkEs (els xs[i]) K)]:=Aqb
  rw[e1] at hl hnx
  rw[e2] at hma
  clear e1 e2
  have m1:=Zb (els xs[i]) K
  generalize h1:nkEs (els xs[i]) K=K1 at m1 hl hnx hma
  have c1:=L_hdWireS xs[i] K hg Aqa Aqa 
  rw[h1] at c1
  have n1:decide (K1<0)=false:=Gqa Aqa 
  replace hma:(mkEs (els xs) k)[(i:Int).toNat]? = some [.sl 10 (mkEs (els xs[i]) K)]:=hma
  refine Wz [112,82,9,133,114] ?_;refine zx (Qj J J (c1) J) J ?_;refine Wz [40,44,62] ?_
  exact⟨xs.length-(i+1),Aqa,(fun i:Nat=>(⟨_,[(0,.o (.c (.rd [] (.sl 1 (mkEs (els xs) k))))),(1,I (nkEs ((els xs).take i) k)),(5,I i)],[]⟩:St)) (i+1),⟨i+1,Aqa,trivial,J⟩,X4 [] Aqc J Aqb (.c J (.cons (Xq hnx.symm) (.c J (.nil))))⟩
 ·have f3:decide ((i:Int)<((mkEs (els xs) k).length:Int))=false:=Gqa Aqa 
  have hk:=Gqh (show (els xs).length≤i by omega)
  refine Wz [112,44,31] ?_
  exact Xl J J (X1 [] Aqc J J (Xq (by rw[hk])))
theorem L_hdPaceS (xs:List (TPace)) (k:Int) (g:Enc.gd xs) (h0:0<k) (hb:nkEs (els xs) k≤1073741823):Con Tryz.prog 162 [] [.c (.rd [] (.sl 5 (mkEs (els xs) k))),ai k] [] (I (nkEs (els xs) k)):=by
 have hn:=Yi xs
 have hn1:=g.1
 have hm:=Y7 (els xs) k
 refine Con.of Tryz.func162 J Tryz.ntmps162 J (fun E => ?_)
 refine Wz [12,11] ?_;refine Xh (fun m st=>∃ i:Nat,i+m=xs.length∧(True)∧st=(⟨_,[(0,.o (.c (.rd [] (.sl 5 (mkEs (els xs) k))))),(1,I (nkEs ((els xs).take i) k)),(5,I i)],[]⟩:St)) (xs.length) ⟨_,⟨0,Aqa,trivial,J⟩,X3 [] Aqb⟩ ?_
 rintro m_A _ ⟨i,hk_A,hp_A,rfl⟩
 by_cases h3:i<xs.length
 ·have f3:decide ((i:Int)<((mkEs (els xs) k).length:Int))=true:=Gqb Aqa 
  have hat:(els xs)[i]? = some (Enc.e xs[i]):=Yg h3
  have hg:=g.2 _ (Gqe h3)
  have hl:=Int.le_trans (Za hat k) hb
  have hi:=Zb ((els xs).take i) k
  have hnx:=Zc hat k
  have hma:=mt_at hat k
  generalize nkEs ((els xs).take i) k=K at hl hi hnx hma ⊢
  have e1:nkE (Enc.e xs[i]) K=(((((K+1)+1)+1)+1)+1):=Aqb
  have e2:mkE (Enc.e xs[i]) K = [.v (.int .i64 K),.v (.int .i64 (K+1)),.v (.int .i64 ((K+1)+1)),.v (.int .i64 (((K+1)+1)+1)),.v (.int .i64 ((((K+1)+1)+1)+1))]:=Aqb
  rw[e1] at hl hnx
  rw[e2] at hma
  clear e1 e2
  replace hma:(mkEs (els xs) k)[(i:Int).toNat]? = some [.v (.int .i64 K),.v (.int .i64 (K+1)),.v (.int .i64 ((K+1)+1)),.v (.int .i64 (((K+1)+1)+1)),.v (.int .i64 ((((K+1)+1)+1)+1))]:=hma
  refine Wz [112,82,79,93,79,93,79,93,79,93,79,228,94,18,87] ?_
  exact⟨xs.length-(i+1),Aqa,(fun i:Nat=>(⟨_,[(0,.o (.c (.rd [] (.sl 5 (mkEs (els xs) k))))),(1,I (nkEs ((els xs).take i) k)),(5,I i)],[]⟩:St)) (i+1),⟨i+1,Aqa,trivial,J⟩,X4 [] Aqc J Aqb (.c J (.cons (Xq hnx.symm) (.c J (.nil))))⟩
 ·have f3:decide ((i:Int)<((mkEs (els xs) k).length:Int))=false:=Gqa Aqa 
  have hk:=Gqh (show (els xs).length≤i by omega)
  refine Wz [112,44,31] ?_
  exact Xl J J (X1 [] Aqc J J (Xq (by rw[hk])))
theorem L_hdPaceSS (xs:List (List TPace)) (k:Int) (g:Enc.gd xs) (h0:0<k) (hb:nkEs (els xs) k≤1073741823):Con Tryz.prog 79 [] [.c (.rd [] (.sl 1 (mkEs (els xs) k))),ai k] [] (I (nkEs (els xs) k)):=by
 have hn:=Yi xs
 have hn1:=g.1
 have hm:=Y7 (els xs) k
 refine Con.of Tryz.func79 J Tryz.ntmps79 J (fun E => ?_)
 refine Wz [12,11] ?_;refine Xh (fun m st=>∃ i:Nat,i+m=xs.length∧(True)∧st=(⟨_,[(0,.o (.c (.rd [] (.sl 1 (mkEs (els xs) k))))),(1,I (nkEs ((els xs).take i) k)),(5,I i)],[]⟩:St)) (xs.length) ⟨_,⟨0,Aqa,trivial,J⟩,X3 [] Aqb⟩ ?_
 rintro m_A _ ⟨i,hk_A,hp_A,rfl⟩
 by_cases h3:i<xs.length
 ·have f3:decide ((i:Int)<((mkEs (els xs) k).length:Int))=true:=Gqb Aqa 
  have hat:(els xs)[i]? = some (Enc.e xs[i]):=Yg h3
  have hg:=g.2 _ (Gqe h3)
  have hl:=Int.le_trans (Za hat k) hb
  have hi:=Zb ((els xs).take i) k
  have hnx:=Zc hat k
  have hma:=mt_at hat k
  generalize nkEs ((els xs).take i) k=K at hl hi hnx hma ⊢
  have e1:nkE (Enc.e xs[i]) K=(nkEs (els xs[i]) K):=Aqb
  have e2:mkE (Enc.e xs[i]) K = [.sl 5 (mkEs (els xs[i]) K)]:=Aqb
  rw[e1] at hl hnx
  rw[e2] at hma
  clear e1 e2
  have m1:=Zb (els xs[i]) K
  generalize h1:nkEs (els xs[i]) K=K1 at m1 hl hnx hma
  have c1:=L_hdPaceS xs[i] K hg Aqa Aqa 
  rw[h1] at c1
  have n1:decide (K1<0)=false:=Gqa Aqa 
  replace hma:(mkEs (els xs) k)[(i:Int).toNat]? = some [.sl 5 (mkEs (els xs[i]) K)]:=hma
  refine Wz [112,82,9,133,114] ?_;refine zx (Qj J J (c1) J) J ?_;refine Wz [40,44,62] ?_
  exact⟨xs.length-(i+1),Aqa,(fun i:Nat=>(⟨_,[(0,.o (.c (.rd [] (.sl 1 (mkEs (els xs) k))))),(1,I (nkEs ((els xs).take i) k)),(5,I i)],[]⟩:St)) (i+1),⟨i+1,Aqa,trivial,J⟩,X4 [] Aqc J Aqb (.c J (.cons (Xq hnx.symm) (.c J (.nil))))⟩
 ·have f3:decide ((i:Int)<((mkEs (els xs) k).length:Int))=false:=Gqa Aqa 
  have hk:=Gqh (show (els xs).length≤i by omega)
  refine Wz [112,44,31] ?_
  exact Xl J J (X1 [] Aqc J J (Xq (by rw[hk])))
theorem L_hdSpectatorS (xs:List (TSpectator)) (k:Int) (g:Enc.gd xs) (h0:0<k) (hb:nkEs (els xs) k≤1073741823):Con Tryz.prog 80 [] [.c (.rd [] (.sl 6 (mkEs (els xs) k))),ai k] [] (I (nkEs (els xs) k)):=by
 have hn:=Yi xs
 have hn1:=g.1
 have hm:=Y7 (els xs) k
 refine Con.of Tryz.func80 J Tryz.ntmps80 J (fun E => ?_)
 refine Wz [12,11] ?_;refine Xh (fun m st=>∃ i:Nat,i+m=xs.length∧(True)∧st=(⟨_,[(0,.o (.c (.rd [] (.sl 6 (mkEs (els xs) k))))),(1,I (nkEs ((els xs).take i) k)),(5,I i)],[]⟩:St)) (xs.length) ⟨_,⟨0,Aqa,trivial,J⟩,X3 [] Aqb⟩ ?_
 rintro m_A _ ⟨i,hk_A,hp_A,rfl⟩
 by_cases h3:i<xs.length
 ·have f3:decide ((i:Int)<((mkEs (els xs) k).length:Int))=true:=Gqb Aqa 
  have hat:(els xs)[i]? = some (Enc.e xs[i]):=Yg h3
  have hg:=g.2 _ (Gqe h3)
  have hl:=Int.le_trans (Za hat k) hb
  have hi:=Zb ((els xs).take i) k
  have hnx:=Zc hat k
  have hma:=mt_at hat k
  generalize nkEs ((els xs).take i) k=K at hl hi hnx hma ⊢
  have e1:nkE (Enc.e xs[i]) K=((nkEs (els xs[i].World.Bodies) (nkEs (els xs[i].World.Scores) (((nkEs (els xs[i].World.Level.Rows) K)+1)+1)))+1):=Aqb
  have e2:mkE (Enc.e xs[i]) K = [.sl 1 (mkEs (els xs[i].World.Level.Rows) K),.v (.int .i64 (nkEs (els xs[i].World.Level.Rows) K)),.v (.int .i64 ((nkEs (els xs[i].World.Level.Rows) K)+1)),.sl 1 (mkEs (els xs[i].World.Scores) (((nkEs (els xs[i].World.Level.Rows) K)+1)+1)),.sl 9 (mkEs (els xs[i].World.Bodies) (nkEs (els xs[i].World.Scores) (((nkEs (els xs[i].World.Level.Rows) K)+1)+1))),.v (.int .i64 (nkEs (els xs[i].World.Bodies) (nkEs (els xs[i].World.Scores) (((nkEs (els xs[i].World.Level.Rows) K)+1)+1))))]:=Aqb
  rw[e1] at hl hnx
  rw[e2] at hma
  clear e1 e2
  have m1:=Zb (els xs[i].World.Level.Rows) K
  generalize h1:nkEs (els xs[i].World.Level.Rows) K=K1 at m1 hl hnx hma
  have m2:=Zb (els xs[i].World.Scores) ((K1+1)+1)
  generalize h2:nkEs (els xs[i].World.Scores) ((K1+1)+1)=K2 at m2 hl hnx hma
  have m3:=Zb (els xs[i].World.Bodies) K2
  generalize h3:nkEs (els xs[i].World.Bodies) K2=K3 at m3 hl hnx hma
  have c1:=Xs xs[i].World.Level.Rows K hg.1.1 Aqa Aqa 
  rw[h1] at c1
  have n1:decide (K1<0)=false:=Gqa Aqa 
  have c2:=L_hdIntS xs[i].World.Scores ((K1+1)+1) hg.1.2.2.2.1 Aqa Aqa 
  rw[h2] at c2
  have n2:decide (K2<0)=false:=Gqa Aqa 
  have c3:=L_hdBodyS xs[i].World.Bodies K2 hg.1.2.2.2.2 Aqa Aqa 
  rw[h3] at c3
  have n3:decide (K3<0)=false:=Gqa Aqa 
  replace hma:(mkEs (els xs) k)[(i:Int).toNat]? = some [.sl 1 (mkEs (els xs[i].World.Level.Rows) K),.v (.int .i64 K1),.v (.int .i64 (K1+1)),.sl 1 (mkEs (els xs[i].World.Scores) ((K1+1)+1)),.sl 9 (mkEs (els xs[i].World.Bodies) K2),.v (.int .i64 K3)]:=hma
  refine Wz [112,82,9,130,137,137,114] ?_;refine zx (Qj J J (c1) J) J ?_;refine Wz [83,79,137,93,79,137,93,9,130,137,114] ?_;refine zx (Qj J J (c2) J) J ?_;refine Wz [83,9,130,137,114] ?_;refine zx (Qj J J (c3) J) J ?_;refine Wz [83,79,228,94,18,87] ?_
  exact⟨xs.length-(i+1),Aqa,(fun i:Nat=>(⟨_,[(0,.o (.c (.rd [] (.sl 6 (mkEs (els xs) k))))),(1,I (nkEs ((els xs).take i) k)),(5,I i)],[]⟩:St)) (i+1),⟨i+1,Aqa,trivial,J⟩,X4 [] Aqc J Aqb (.c J (.cons (Xq hnx.symm) (.c J (.nil))))⟩
 ·have f3:decide ((i:Int)<((mkEs (els xs) k).length:Int))=false:=Gqa Aqa 
  have hk:=Gqh (show (els xs).length≤i by omega)
  refine Wz [112,44,31] ?_
  exact Xl J J (X1 [] Aqc J J (Xq (by rw[hk])))
theorem L_hdAlarmS (xs:List (TAlarm)) (k:Int) (g:Enc.gd xs) (h0:0<k) (hb:nkEs (els xs) k≤1073741823):Con Tryz.prog 82 [] [.c (.rd [] (.sl 2 (mkEs (els xs) k))),ai k] [] (I (nkEs (els xs) k)):=by
 have hn:=Yi xs
 have hn1:=g.1
 have hm:=Y7 (els xs) k
 refine Con.of Tryz.func82 J Tryz.ntmps82 J (fun E => ?_)
 refine Wz [12,11] ?_;refine Xh (fun m st=>∃ i:Nat,i+m=xs.length∧(True)∧st=(⟨_,[(0,.o (.c (.rd [] (.sl 2 (mkEs (els xs) k))))),(1,I (nkEs ((els xs).take i) k)),(5,I i)],[]⟩:St)) (xs.length) ⟨_,⟨0,Aqa,trivial,J⟩,X3 [] Aqb⟩ ?_
 rintro m_A _ ⟨i,hk_A,hp_A,rfl⟩
 by_cases h3:i<xs.length
 ·have f3:decide ((i:Int)<((mkEs (els xs) k).length:Int))=true:=Gqb Aqa 
  have hat:(els xs)[i]? = some (Enc.e xs[i]):=Yg h3
  have hg:=g.2 _ (Gqe h3)
  have hl:=Int.le_trans (Za hat k) hb
  have hi:=Zb ((els xs).take i) k
  have hnx:=Zc hat k
  have hma:=mt_at hat k
  generalize nkEs ((els xs).take i) k=K at hl hi hnx hma ⊢
  have e1:nkE (Enc.e xs[i]) K=(nkEs (els xs[i].Parts) (K+1)):=Aqb
  have e2:mkE (Enc.e xs[i]) K = [.v (.int .i64 K),.sl 1 (mkEs (els xs[i].Parts) (K+1))]:=Aqb
  rw[e1] at hl hnx
  rw[e2] at hma
  clear e1 e2
  have m1:=Zb (els xs[i].Parts) (K+1)
  generalize h1:nkEs (els xs[i].Parts) (K+1)=K1 at m1 hl hnx hma
  have c1:=Xs xs[i].Parts (K+1) hg.2 Aqa Aqa 
  rw[h1] at c1
  have n1:decide (K1<0)=false:=Gqa Aqa 
  replace hma:(mkEs (els xs) k)[(i:Int).toNat]? = some [.v (.int .i64 K),.sl 1 (mkEs (els xs[i].Parts) (K+1))]:=hma
  refine Wz [112,82,79,93,9,130,114] ?_;refine zx (Qj J J (c1) J) J ?_;refine Wz [40,44,62] ?_
  exact⟨xs.length-(i+1),Aqa,(fun i:Nat=>(⟨_,[(0,.o (.c (.rd [] (.sl 2 (mkEs (els xs) k))))),(1,I (nkEs ((els xs).take i) k)),(5,I i)],[]⟩:St)) (i+1),⟨i+1,Aqa,trivial,J⟩,X4 [] Aqc J Aqb (.c J (.cons (Xq hnx.symm) (.c J (.nil))))⟩
 ·have f3:decide ((i:Int)<((mkEs (els xs) k).length:Int))=false:=Gqa Aqa 
  have hk:=Gqh (show (els xs).length≤i by omega)
  refine Wz [112,44,31] ?_
  exact Xl J J (X1 [] Aqc J J (Xq (by rw[hk])))
class Mkb (α:Type) [Enc α]:Prop where
 b:∀ (x:α) (k:Int),nkE (Enc.e x) k≤k+23+23*(Enc.wt x:Nat)
theorem Y3 {α:Type} [Enc α] [Mkb α]:∀ (xs:List α) (k:Int),nkEs (els xs) k≤k+23*(xs.length:Nat)+23*(wts xs:Nat)
 | [],k=>by simp[els,nkEs,wts]
 |x::xs,k=>by
  have h1:=Mkb.b x k
  have h2:=Y3 xs (nkE (Enc.e x) k)
  show nkEs (els xs) (nkE (Enc.e x) k)≤_
  simp only[Gq3,wts]
  omega
instance {α:Type} [Enc α] [Mkb α]:Mkb (List α):=⟨fun x k=>by
 have b1:=Y3 x k
 have w1:Enc.wt x=x.length+wts x:=rfl
 show nkEs (els x) k≤_
 omega⟩
instance:Mkb ByteArray:=⟨fun x k=>by
 show k+1≤_
 omega⟩
instance:Mkb Int:=⟨fun x k=>by
 show k+1≤_
 omega⟩
instance:Mkb TBody:=⟨fun x k=>by
 show k+1+1+1+1+1+1+1+1+1≤_
 omega⟩
instance:Mkb TTrack:=⟨fun x k=>by
 have b1:=Y3 x.Inputs (k)
 have w1:Enc.wt x.Inputs=x.Inputs.length+wts x.Inputs:=rfl
 have v0:Enc.wt x=Enc.wt x.Inputs:=rfl
 show nkEs (els x.Inputs) (k)≤_
 omega⟩
instance:Mkb TSave:=⟨fun x k=>by
 show k+1+1≤_
 omega⟩
instance:Mkb TPeer:=⟨fun x k=>by
 have b1:=Y3 x.Tracks (k+1+1+1+1)
 have b2:=Y3 x.Base.Level.Rows (nkEs (els x.Tracks) (k+1+1+1+1))
 have b3:=Y3 x.Base.Scores (nkEs (els x.Base.Level.Rows) (nkEs (els x.Tracks) (k+1+1+1+1))+1+1)
 have b4:=Y3 x.Base.Bodies (nkEs (els x.Base.Scores) (nkEs (els x.Base.Level.Rows) (nkEs (els x.Tracks) (k+1+1+1+1))+1+1))
 have b5:=Y3 x.Now.Level.Rows (nkEs (els x.Base.Bodies) (nkEs (els x.Base.Scores) (nkEs (els x.Base.Level.Rows) (nkEs (els x.Tracks) (k+1+1+1+1))+1+1)))
 have b6:=Y3 x.Now.Scores (nkEs (els x.Now.Level.Rows) (nkEs (els x.Base.Bodies) (nkEs (els x.Base.Scores) (nkEs (els x.Base.Level.Rows) (nkEs (els x.Tracks) (k+1+1+1+1))+1+1)))+1+1)
 have b7:=Y3 x.Now.Bodies (nkEs (els x.Now.Scores) (nkEs (els x.Now.Level.Rows) (nkEs (els x.Base.Bodies) (nkEs (els x.Base.Scores) (nkEs (els x.Base.Level.Rows) (nkEs (els x.Tracks) (k+1+1+1+1))+1+1)))+1+1))
 have b8:=Y3 x.Used (nkEs (els x.Now.Bodies) (nkEs (els x.Now.Scores) (nkEs (els x.Now.Level.Rows) (nkEs (els x.Base.Bodies) (nkEs (els x.Base.Scores) (nkEs (els x.Base.Level.Rows) (nkEs (els x.Tracks) (k+1+1+1+1))+1+1)))+1+1)))
 have b9:=Y3 x.Saves (nkEs (els x.Used) (nkEs (els x.Now.Bodies) (nkEs (els x.Now.Scores) (nkEs (els x.Now.Level.Rows) (nkEs (els x.Base.Bodies) (nkEs (els x.Base.Scores) (nkEs (els x.Base.Level.Rows) (nkEs (els x.Tracks) (k+1+1+1+1))+1+1)))+1+1))))
 have b10:=Y3 x.Sums (nkEs (els x.Saves) (nkEs (els x.Used) (nkEs (els x.Now.Bodies) (nkEs (els x.Now.Scores) (nkEs (els x.Now.Level.Rows) (nkEs (els x.Base.Bodies) (nkEs (els x.Base.Scores) (nkEs (els x.Base.Level.Rows) (nkEs (els x.Tracks) (k+1+1+1+1))+1+1)))+1+1)))))
 have w1:Enc.wt x.Tracks=x.Tracks.length+wts x.Tracks:=rfl
 have w2:Enc.wt x.Base.Level.Rows=x.Base.Level.Rows.length+wts x.Base.Level.Rows:=rfl
 have w3:Enc.wt x.Base.Scores=x.Base.Scores.length+wts x.Base.Scores:=rfl
 have w4:Enc.wt x.Base.Bodies=x.Base.Bodies.length+wts x.Base.Bodies:=rfl
 have w5:Enc.wt x.Now.Level.Rows=x.Now.Level.Rows.length+wts x.Now.Level.Rows:=rfl
 have w6:Enc.wt x.Now.Scores=x.Now.Scores.length+wts x.Now.Scores:=rfl
 have w7:Enc.wt x.Now.Bodies=x.Now.Bodies.length+wts x.Now.Bodies:=rfl
 have w8:Enc.wt x.Used=x.Used.length+wts x.Used:=rfl
 have w9:Enc.wt x.Saves=x.Saves.length+wts x.Saves:=rfl
 have w10:Enc.wt x.Sums=x.Sums.length+wts x.Sums:=rfl
 have v0:Enc.wt x=Enc.wt x.Tracks+Enc.wt x.Base+Enc.wt x.Now+Enc.wt x.Used+Enc.wt x.Saves+Enc.wt x.Sums+Enc.wt x.Fault:=rfl
 have v1:Enc.wt x.Base=Enc.wt x.Base.Level.Rows+Enc.wt x.Base.Scores+Enc.wt x.Base.Bodies:=rfl
 have v2:Enc.wt x.Now=Enc.wt x.Now.Level.Rows+Enc.wt x.Now.Scores+Enc.wt x.Now.Bodies:=rfl
 show nkEs (els x.Sums) (nkEs (els x.Saves) (nkEs (els x.Used) (nkEs (els x.Now.Bodies) (nkEs (els x.Now.Scores) (nkEs (els x.Now.Level.Rows) (nkEs (els x.Base.Bodies) (nkEs (els x.Base.Scores) (nkEs (els x.Base.Level.Rows) (nkEs (els x.Tracks) (k+1+1+1+1))+1+1)))+1+1)))))+1+1+1+1+1≤_
 omega⟩
instance:Mkb TFlight:=⟨fun x k=>by
 show k+1+1≤_
 omega⟩
instance:Mkb TWire:=⟨fun x k=>by
 have b1:=Y3 x.Flights (k+1+1+1+1+1+1+1)
 have w1:Enc.wt x.Flights=x.Flights.length+wts x.Flights:=rfl
 have v0:Enc.wt x=Enc.wt x.Flights:=rfl
 show nkEs (els x.Flights) (k+1+1+1+1+1+1+1)+1+1≤_
 omega⟩
instance:Mkb TPace:=⟨fun x k=>by
 show k+1+1+1+1+1≤_
 omega⟩
instance:Mkb TSpectator:=⟨fun x k=>by
 have b1:=Y3 x.World.Level.Rows (k)
 have b2:=Y3 x.World.Scores (nkEs (els x.World.Level.Rows) (k)+1+1)
 have b3:=Y3 x.World.Bodies (nkEs (els x.World.Scores) (nkEs (els x.World.Level.Rows) (k)+1+1))
 have w1:Enc.wt x.World.Level.Rows=x.World.Level.Rows.length+wts x.World.Level.Rows:=rfl
 have w2:Enc.wt x.World.Scores=x.World.Scores.length+wts x.World.Scores:=rfl
 have w3:Enc.wt x.World.Bodies=x.World.Bodies.length+wts x.World.Bodies:=rfl
 have v0:Enc.wt x=Enc.wt x.World:=rfl
 have v1:Enc.wt x.World=Enc.wt x.World.Level.Rows+Enc.wt x.World.Scores+Enc.wt x.World.Bodies:=rfl
 show nkEs (els x.World.Bodies) (nkEs (els x.World.Scores) (nkEs (els x.World.Level.Rows) (k)+1+1))+1≤_
 omega⟩
instance:Mkb TAlarm:=⟨fun x k=>by
 have b1:=Y3 x.Parts (k+1)
 have w1:Enc.wt x.Parts=x.Parts.length+wts x.Parts:=rfl
 have v0:Enc.wt x=Enc.wt x.Parts:=rfl
 show nkEs (els x.Parts) (k+1)≤_
 omega⟩
def n1M (x:TMatch) (k:Int):Int:=nkEs (els x.Level.Rows) k
def n2M (x:TMatch) (k:Int):Int:=nkEs (els x.Scripts) (n1M x k)
def n3M (x:TMatch) (k:Int):Int:=nkEs (els x.Peers) (n2M x k)
def n4M (x:TMatch) (k:Int):Int:=nkEs (els x.Wires) (n3M x k)
def n5M (x:TMatch) (k:Int):Int:=nkEs (els x.Paces) (n4M x k)
def n6M (x:TMatch) (k:Int):Int:=nkEs (els x.Acks) (n5M x k)
def n7M (x:TMatch) (k:Int):Int:=nkEs (els x.Watchers) (n6M x k)
def n8M (x:TMatch) (k:Int):Int:=nkEs (els x.Lines) (n7M x k)
def n9M (x:TMatch) (k:Int):Int:=nkEs (els x.Alarms) (n8M x k)
@[reducible] def mM (x:TMatch) (k:Int) (l:List Ob):List Ob := .row 1 (mkEs (els x.Level.Rows) k) :: .row 1 (mkEs (els x.Scripts) (n1M x k)) :: .row 23 (mkEs (els x.Peers) (n2M x k)) :: .row 1 (mkEs (els x.Wires) (n3M x k)) :: .row 1 (mkEs (els x.Paces) (n4M x k)) :: .row 1 (mkEs (els x.Acks) (n5M x k)) :: .row 6 (mkEs (els x.Watchers) (n6M x k)) :: .row 10 (mkEs (els x.Lines) (n7M x k)) :: .row 2 (mkEs (els x.Alarms) (n8M x k))::l
@[reducible] def mH (x:TMatch) (k:Int):List V1:=mX x (.rd [] (.sl 1 (mkEs (els x.Level.Rows) k))) (.rd [] (.sl 1 (mkEs (els x.Scripts) (n1M x k)))) (.rd [] (.sl 23 (mkEs (els x.Peers) (n2M x k)))) (.rd [] (.sl 1 (mkEs (els x.Wires) (n3M x k)))) (.rd [] (.sl 1 (mkEs (els x.Paces) (n4M x k)))) (.rd [] (.sl 1 (mkEs (els x.Acks) (n5M x k)))) (.rd [] (.sl 6 (mkEs (els x.Watchers) (n6M x k)))) (.rd [] (.sl 10 (mkEs (els x.Lines) (n7M x k)))) (.rd [] (.sl 2 (mkEs (els x.Alarms) (n8M x k))))
theorem nM_le (x:TMatch) (k:Int):k≤n9M x k∧n9M x k≤k+23*(Enc.wt x:Nat):=by
 have a0:=Zb (els x.Level.Rows) k
 have b0:=Y3 x.Level.Rows k
 rw[show nkEs (els x.Level.Rows) k=n1M x k from rfl] at a0 b0
 have w0:Enc.wt x.Level.Rows=x.Level.Rows.length+wts x.Level.Rows:=rfl
 have a1:=Zb (els x.Scripts) (n1M x k)
 have b1:=Y3 x.Scripts (n1M x k)
 rw[show nkEs (els x.Scripts) (n1M x k)=n2M x k from rfl] at a1 b1
 have w1:Enc.wt x.Scripts=x.Scripts.length+wts x.Scripts:=rfl
 have a2:=Zb (els x.Peers) (n2M x k)
 have b2:=Y3 x.Peers (n2M x k)
 rw[show nkEs (els x.Peers) (n2M x k)=n3M x k from rfl] at a2 b2
 have w2:Enc.wt x.Peers=x.Peers.length+wts x.Peers:=rfl
 have a3:=Zb (els x.Wires) (n3M x k)
 have b3:=Y3 x.Wires (n3M x k)
 rw[show nkEs (els x.Wires) (n3M x k)=n4M x k from rfl] at a3 b3
 have w3:Enc.wt x.Wires=x.Wires.length+wts x.Wires:=rfl
 have a4:=Zb (els x.Paces) (n4M x k)
 have b4:=Y3 x.Paces (n4M x k)
 rw[show nkEs (els x.Paces) (n4M x k)=n5M x k from rfl] at a4 b4
 have w4:Enc.wt x.Paces=x.Paces.length+wts x.Paces:=rfl
 have a5:=Zb (els x.Acks) (n5M x k)
 have b5:=Y3 x.Acks (n5M x k)
 rw[show nkEs (els x.Acks) (n5M x k)=n6M x k from rfl] at a5 b5
 have w5:Enc.wt x.Acks=x.Acks.length+wts x.Acks:=rfl
 have a6:=Zb (els x.Watchers) (n6M x k)
 have b6:=Y3 x.Watchers (n6M x k)
 rw[show nkEs (els x.Watchers) (n6M x k)=n7M x k from rfl] at a6 b6
 have w6:Enc.wt x.Watchers=x.Watchers.length+wts x.Watchers:=rfl
 have a7:=Zb (els x.Lines) (n7M x k)
 have b7:=Y3 x.Lines (n7M x k)
 rw[show nkEs (els x.Lines) (n7M x k)=n8M x k from rfl] at a7 b7
 have w7:Enc.wt x.Lines=x.Lines.length+wts x.Lines:=rfl
 have a8:=Zb (els x.Alarms) (n8M x k)
 have b8:=Y3 x.Alarms (n8M x k)
 rw[show nkEs (els x.Alarms) (n8M x k)=n9M x k from rfl] at a8 b8
 have w8:Enc.wt x.Alarms=x.Alarms.length+wts x.Alarms:=rfl
 have hw:Enc.wt x=Enc.wt x.Level.Rows+Enc.wt x.Scripts+Enc.wt x.Peers+Enc.wt x.Wires+Enc.wt x.Paces+Enc.wt x.Acks+Enc.wt x.Watchers+Enc.wt x.Lines+Enc.wt x.Alarms:=rfl
 omega
theorem L_mkLevel (xs:List ByteArray) (k:Int) (g:Enc.gd xs) (h0:0<k) (hb:nkEs (els xs) k≤1073741823):Con Tryz.prog 67 [.row 1 (els xs),.gh 0 (.ag [.ref 0])] [.ag [.ref 0],ai k] [.row 1 (mkEs (els xs) k),.gh 0 (.ag [.ref 0])] (I (nkEs (els xs) k)):=by
 refine Con.of Tryz.func67 J Tryz.ntmps67 J (fun E => ?_)
 refine Wz [21,75] ?_;refine Xd (lo := [_]) (gs := [(0,.c (.ref 0))]) (lo' := [_]) (new := []) [0] [(0,0,.ref 0)] (Xu xs k g h0 hb) J J J J J J J J J J J J J J J J J ?_;refine Wz [2,164] ?_
 exact Xl J J (X1 [0,1] Aqc J J J)
theorem L_hdLevel (xs:List ByteArray) (k:Int) (g:Enc.gd xs) (h0:0<k) (hb:nkEs (els xs) k≤1073741823):Con Tryz.prog 75 [] [.ag [.rd [] (.sl 1 (mkEs (els xs) k))],ai k] [] (I (nkEs (els xs) k)):=by
 have hk:=Zb (els xs) k
 have hn:decide (nkEs (els xs) k<0)=false:=Gqa Aqa 
 refine Con.of Tryz.func75 J Tryz.ntmps75 J (fun E => ?_)
 refine Wz [21,75] ?_;refine zx (Qj J J (Xs xs k g h0 hb) J) J ?_;refine Wz [83,164] ?_
 exact Xl J J (X1 [] Aqc J J J)
theorem L_mkMatch (x:TMatch) (k:Int) (g:Enc.gd x) (h0:0<k) (hb:n9M x k≤1073741823):Con Tryz.prog 19 (mR x [.gh 0 (.ag (mC x 0))]) [.ag (mC x 0),ai k] (mM x k [.gh 0 (.ag (mC x 0))]) (I (n9M x k)):=by
 obtain⟨gL,_,_,gS,gP,gW,gPa,gA,_,gWa,gLi,gAl,_⟩:=g
 have a0:=Zb (els x.Level.Rows) k
 rw[show nkEs (els x.Level.Rows) k=n1M x k from rfl] at a0
 have a1:=Zb (els x.Scripts) (n1M x k)
 rw[show nkEs (els x.Scripts) (n1M x k)=n2M x k from rfl] at a1
 have a2:=Zb (els x.Peers) (n2M x k)
 rw[show nkEs (els x.Peers) (n2M x k)=n3M x k from rfl] at a2
 have a3:=Zb (els x.Wires) (n3M x k)
 rw[show nkEs (els x.Wires) (n3M x k)=n4M x k from rfl] at a3
 have a4:=Zb (els x.Paces) (n4M x k)
 rw[show nkEs (els x.Paces) (n4M x k)=n5M x k from rfl] at a4
 have a5:=Zb (els x.Acks) (n5M x k)
 rw[show nkEs (els x.Acks) (n5M x k)=n6M x k from rfl] at a5
 have a6:=Zb (els x.Watchers) (n6M x k)
 rw[show nkEs (els x.Watchers) (n6M x k)=n7M x k from rfl] at a6
 have a7:=Zb (els x.Lines) (n7M x k)
 rw[show nkEs (els x.Lines) (n7M x k)=n8M x k from rfl] at a7
 have a8:=Zb (els x.Alarms) (n8M x k)
 rw[show nkEs (els x.Alarms) (n8M x k)=n9M x k from rfl] at a8
 have c0:=L_mkLevel x.Level.Rows k gL Aqa (show n1M x k≤_ by omega)
 rw[show nkEs (els x.Level.Rows) k=n1M x k from rfl] at c0
 have c1:=L_mkIntSS x.Scripts (n1M x k) gS Aqa (show n2M x k≤_ by omega)
 rw[show nkEs (els x.Scripts) (n1M x k)=n2M x k from rfl] at c1
 have c2:=L_mkPeerS x.Peers (n2M x k) gP Aqa (show n3M x k≤_ by omega)
 rw[show nkEs (els x.Peers) (n2M x k)=n3M x k from rfl] at c2
 have c3:=L_mkWireSS x.Wires (n3M x k) gW Aqa (show n4M x k≤_ by omega)
 rw[show nkEs (els x.Wires) (n3M x k)=n4M x k from rfl] at c3
 have c4:=L_mkPaceSS x.Paces (n4M x k) gPa Aqa (show n5M x k≤_ by omega)
 rw[show nkEs (els x.Paces) (n4M x k)=n5M x k from rfl] at c4
 have c5:=L_mkIntSS x.Acks (n5M x k) gA Aqa (show n6M x k≤_ by omega)
 rw[show nkEs (els x.Acks) (n5M x k)=n6M x k from rfl] at c5
 have c6:=L_mkSpectatorS x.Watchers (n6M x k) gWa Aqa (show n7M x k≤_ by omega)
 rw[show nkEs (els x.Watchers) (n6M x k)=n7M x k from rfl] at c6
 have c7:=L_mkWireS x.Lines (n7M x k) gLi Aqa (show n8M x k≤_ by omega)
 rw[show nkEs (els x.Lines) (n7M x k)=n8M x k from rfl] at c7
 have c8:=L_mkAlarmS x.Alarms (n8M x k) gAl Aqa (show n9M x k≤_ by omega)
 rw[show nkEs (els x.Alarms) (n8M x k)=n9M x k from rfl] at c8
 refine Con.of Tryz.func19 J Tryz.ntmps19 J (fun E => ?_)
 refine Wz [21,101] ?_;refine Xd (lo := [_]) (gs := [(0,.ag [.ref 0])]) (lo' := [_]) (new := []) [0] [(0,0,.ref 0)] (c0) J J J J J J J J J J J J J J J J J ?_;refine AL.weak (st':=(⟨42,[(2,Aqf 10),(8,I (n1M x k))],[.row 1 (mkEs (els x.Level.Rows) k),.row 1 (els x.Scripts),.row 23 (els x.Peers),.row 1 (els x.Wires),.row 1 (els x.Paces),.row 1 (els x.Acks),.row 6 (els x.Watchers),.row 10 (els x.Lines),.row 2 (els x.Alarms),.gh 0 (.ag (mC x 0)),.box (mC x 0)]⟩:St)) (X4 [0,1,2,3,4,5,6,7,8,9,10] Aqc J ( Aqb) (.c J (.c J (.nil)))) ?_;refine Wz [2,75] ?_;refine Xd (lo := [_]) (gs := [(0,.c (.ref 0))]) (lo' := [_]) (new := []) [1] [(0,0,.ref 0)] (c1) J J J J J J J J J J J J J J J J J ?_;refine AL.weak (st':=(⟨42,[(2,Aqf 10),(12,I (n2M x k))],[.row 1 (mkEs (els x.Level.Rows) k),.row 1 (mkEs (els x.Scripts) (n1M x k)),.row 23 (els x.Peers),.row 1 (els x.Wires),.row 1 (els x.Paces),.row 1 (els x.Acks),.row 6 (els x.Watchers),.row 10 (els x.Lines),.row 2 (els x.Alarms),.gh 0 (.ag (mC x 0)),.box (mC x 0)]⟩:St)) (X4 [0,1,2,3,4,5,6,7,8,9,10] Aqc J ( Aqb) (.c J (.c J (.nil)))) ?_;refine Wz [2,75] ?_;refine Xd (lo := [_]) (gs := [(0,.c (.ref 0))]) (lo' := [_]) (new := []) [2] [(0,0,.ref 0)] (c2) J J J J J J J J J J J J J J J J J ?_;refine AL.weak (st':=(⟨42,[(2,Aqf 10),(16,I (n3M x k))],[.row 1 (mkEs (els x.Level.Rows) k),.row 1 (mkEs (els x.Scripts) (n1M x k)),.row 23 (mkEs (els x.Peers) (n2M x k)),.row 1 (els x.Wires),.row 1 (els x.Paces),.row 1 (els x.Acks),.row 6 (els x.Watchers),.row 10 (els x.Lines),.row 2 (els x.Alarms),.gh 0 (.ag (mC x 0)),.box (mC x 0)]⟩:St)) (X4 [0,1,2,3,4,5,6,7,8,9,10] Aqc J ( Aqb) (.c J (.c J (.nil)))) ?_;refine Wz [2,75] ?_;refine Xd (lo := [_]) (gs := [(0,.c (.ref 0))]) (lo' := [_]) (new := []) [3] [(0,0,.ref 0)] (c3) J J J J J J J J J J J J J J J J J ?_;refine AL.weak (st':=(⟨42,[(2,Aqf 10),(20,I (n4M x k))],[.row 1 (mkEs (els x.Level.Rows) k),.row 1 (mkEs (els x.Scripts) (n1M x k)),.row 23 (mkEs (els x.Peers) (n2M x k)),.row 1 (mkEs (els x.Wires) (n3M x k)),.row 1 (els x.Paces),.row 1 (els x.Acks),.row 6 (els x.Watchers),.row 10 (els x.Lines),.row 2 (els x.Alarms),.gh 0 (.ag (mC x 0)),.box (mC x 0)]⟩:St)) (X4 [0,1,2,3,4,5,6,7,8,9,10] Aqc J ( Aqb) (.c J (.c J (.nil)))) ?_;refine Wz [2,75] ?_;refine Xd (lo := [_]) (gs := [(0,.c (.ref 0))]) (lo' := [_]) (new := []) [4] [(0,0,.ref 0)] (c4) J J J J J J J J J J J J J J J J J ?_;refine AL.weak (st':=(⟨42,[(2,Aqf 10),(24,I (n5M x k))],[.row 1 (mkEs (els x.Level.Rows) k),.row 1 (mkEs (els x.Scripts) (n1M x k)),.row 23 (mkEs (els x.Peers) (n2M x k)),.row 1 (mkEs (els x.Wires) (n3M x k)),.row 1 (mkEs (els x.Paces) (n4M x k)),.row 1 (els x.Acks),.row 6 (els x.Watchers),.row 10 (els x.Lines),.row 2 (els x.Alarms),.gh 0 (.ag (mC x 0)),.box (mC x 0)]⟩:St)) (X4 [0,1,2,3,4,5,6,7,8,9,10] Aqc J ( Aqb) (.c J (.c J (.nil)))) ?_;refine Wz [2,75] ?_;refine Xd (lo := [_]) (gs := [(0,.c (.ref 0))]) (lo' := [_]) (new := []) [5] [(0,0,.ref 0)] (c5) J J J J J J J J J J J J J J J J J ?_;refine AL.weak (st':=(⟨42,[(2,Aqf 10),(28,I (n6M x k))],[.row 1 (mkEs (els x.Level.Rows) k),.row 1 (mkEs (els x.Scripts) (n1M x k)),.row 23 (mkEs (els x.Peers) (n2M x k)),.row 1 (mkEs (els x.Wires) (n3M x k)),.row 1 (mkEs (els x.Paces) (n4M x k)),.row 1 (mkEs (els x.Acks) (n5M x k)),.row 6 (els x.Watchers),.row 10 (els x.Lines),.row 2 (els x.Alarms),.gh 0 (.ag (mC x 0)),.box (mC x 0)]⟩:St)) (X4 [0,1,2,3,4,5,6,7,8,9,10] Aqc J ( Aqb) (.c J (.c J (.nil)))) ?_;refine Wz [2,75] ?_;refine Xd (lo := [_]) (gs := [(0,.c (.ref 0))]) (lo' := [_]) (new := []) [6] [(0,0,.ref 0)] (c6) J J J J J J J J J J J J J J J J J ?_;refine AL.weak (st':=(⟨42,[(2,Aqf 10),(32,I (n7M x k))],[.row 1 (mkEs (els x.Level.Rows) k),.row 1 (mkEs (els x.Scripts) (n1M x k)),.row 23 (mkEs (els x.Peers) (n2M x k)),.row 1 (mkEs (els x.Wires) (n3M x k)),.row 1 (mkEs (els x.Paces) (n4M x k)),.row 1 (mkEs (els x.Acks) (n5M x k)),.row 6 (mkEs (els x.Watchers) (n6M x k)),.row 10 (els x.Lines),.row 2 (els x.Alarms),.gh 0 (.ag (mC x 0)),.box (mC x 0)]⟩:St)) (X4 [0,1,2,3,4,5,6,7,8,9,10] Aqc J ( Aqb) (.c J (.c J (.nil)))) ?_;refine Wz [2,75] ?_;refine Xd (lo := [_]) (gs := [(0,.c (.ref 0))]) (lo' := [_]) (new := []) [7] [(0,0,.ref 0)] (c7) J J J J J J J J J J J J J J J J J ?_;refine AL.weak (st':=(⟨42,[(2,Aqf 10),(36,I (n8M x k))],[.row 1 (mkEs (els x.Level.Rows) k),.row 1 (mkEs (els x.Scripts) (n1M x k)),.row 23 (mkEs (els x.Peers) (n2M x k)),.row 1 (mkEs (els x.Wires) (n3M x k)),.row 1 (mkEs (els x.Paces) (n4M x k)),.row 1 (mkEs (els x.Acks) (n5M x k)),.row 6 (mkEs (els x.Watchers) (n6M x k)),.row 10 (mkEs (els x.Lines) (n7M x k)),.row 2 (els x.Alarms),.gh 0 (.ag (mC x 0)),.box (mC x 0)]⟩:St)) (X4 [0,1,2,3,4,5,6,7,8,9,10] Aqc J ( Aqb) (.c J (.c J (.nil)))) ?_;refine Wz [2,75] ?_;refine Xd (lo := [_]) (gs := [(0,.c (.ref 0))]) (lo' := [_]) (new := []) [8] [(0,0,.ref 0)] (c8) J J J J J J J J J J J J J J J J J ?_;refine AL.weak (st':=(⟨42,[(2,Aqf 10),(40,I (n9M x k))],[.row 1 (mkEs (els x.Level.Rows) k),.row 1 (mkEs (els x.Scripts) (n1M x k)),.row 23 (mkEs (els x.Peers) (n2M x k)),.row 1 (mkEs (els x.Wires) (n3M x k)),.row 1 (mkEs (els x.Paces) (n4M x k)),.row 1 (mkEs (els x.Acks) (n5M x k)),.row 6 (mkEs (els x.Watchers) (n6M x k)),.row 10 (mkEs (els x.Lines) (n7M x k)),.row 2 (mkEs (els x.Alarms) (n8M x k)),.gh 0 (.ag (mC x 0)),.box (mC x 0)]⟩:St)) (X4 [0,1,2,3,4,5,6,7,8,9,10] Aqc J ( Aqb) (.c J (.c J (.nil)))) ?_;refine Wz [2,164] ?_
 exact Xl J J (X1 [0,1,2,3,4,5,6,7,8,9] Aqc J J J)
theorem L_hdMatch (x:TMatch) (k:Int) (g:Enc.gd x) (h0:0<k) (hb:n9M x k≤1073741823):Con Tryz.prog 20 [] [.ag (mH x k),ai k] [] (I (n9M x k)):=by
 obtain⟨gL,_,_,gS,gP,gW,gPa,gA,_,gWa,gLi,gAl,_⟩:=g
 have a0:=Zb (els x.Level.Rows) k
 rw[show nkEs (els x.Level.Rows) k=n1M x k from rfl] at a0
 have a1:=Zb (els x.Scripts) (n1M x k)
 rw[show nkEs (els x.Scripts) (n1M x k)=n2M x k from rfl] at a1
 have a2:=Zb (els x.Peers) (n2M x k)
 rw[show nkEs (els x.Peers) (n2M x k)=n3M x k from rfl] at a2
 have a3:=Zb (els x.Wires) (n3M x k)
 rw[show nkEs (els x.Wires) (n3M x k)=n4M x k from rfl] at a3
 have a4:=Zb (els x.Paces) (n4M x k)
 rw[show nkEs (els x.Paces) (n4M x k)=n5M x k from rfl] at a4
 have a5:=Zb (els x.Acks) (n5M x k)
 rw[show nkEs (els x.Acks) (n5M x k)=n6M x k from rfl] at a5
 have a6:=Zb (els x.Watchers) (n6M x k)
 rw[show nkEs (els x.Watchers) (n6M x k)=n7M x k from rfl] at a6
 have a7:=Zb (els x.Lines) (n7M x k)
 rw[show nkEs (els x.Lines) (n7M x k)=n8M x k from rfl] at a7
 have a8:=Zb (els x.Alarms) (n8M x k)
 rw[show nkEs (els x.Alarms) (n8M x k)=n9M x k from rfl] at a8
 have c0:=L_hdLevel x.Level.Rows k gL Aqa (show n1M x k≤_ by omega)
 rw[show nkEs (els x.Level.Rows) k=n1M x k from rfl] at c0
 have f0:decide (n1M x k<0)=false:=Gqa Aqa 
 have c1:=L_hdIntSS x.Scripts (n1M x k) gS Aqa (show n2M x k≤_ by omega)
 rw[show nkEs (els x.Scripts) (n1M x k)=n2M x k from rfl] at c1
 have f1:decide (n2M x k<0)=false:=Gqa Aqa 
 have c2:=L_hdPeerS x.Peers (n2M x k) gP Aqa (show n3M x k≤_ by omega)
 rw[show nkEs (els x.Peers) (n2M x k)=n3M x k from rfl] at c2
 have f2:decide (n3M x k<0)=false:=Gqa Aqa 
 have c3:=L_hdWireSS x.Wires (n3M x k) gW Aqa (show n4M x k≤_ by omega)
 rw[show nkEs (els x.Wires) (n3M x k)=n4M x k from rfl] at c3
 have f3:decide (n4M x k<0)=false:=Gqa Aqa 
 have c4:=L_hdPaceSS x.Paces (n4M x k) gPa Aqa (show n5M x k≤_ by omega)
 rw[show nkEs (els x.Paces) (n4M x k)=n5M x k from rfl] at c4
 have f4:decide (n5M x k<0)=false:=Gqa Aqa 
 have c5:=L_hdIntSS x.Acks (n5M x k) gA Aqa (show n6M x k≤_ by omega)
 rw[show nkEs (els x.Acks) (n5M x k)=n6M x k from rfl] at c5
 have f5:decide (n6M x k<0)=false:=Gqa Aqa 
 have c6:=L_hdSpectatorS x.Watchers (n6M x k) gWa Aqa (show n7M x k≤_ by omega)
 rw[show nkEs (els x.Watchers) (n6M x k)=n7M x k from rfl] at c6
 have f6:decide (n7M x k<0)=false:=Gqa Aqa 
 have c7:=L_hdWireS x.Lines (n7M x k) gLi Aqa (show n8M x k≤_ by omega)
 rw[show nkEs (els x.Lines) (n7M x k)=n8M x k from rfl] at c7
 have f7:decide (n8M x k<0)=false:=Gqa Aqa 
 have c8:=L_hdAlarmS x.Alarms (n8M x k) gAl Aqa (show n9M x k≤_ by omega)
 rw[show nkEs (els x.Alarms) (n8M x k)=n9M x k from rfl] at c8
 have f8:decide (n9M x k<0)=false:=Gqa Aqa 
 refine Con.of Tryz.func20 J Tryz.ntmps20 J (fun E => ?_)
 refine Wz [21,101] ?_;refine zx (Qj J J (c0) J) J ?_;refine Wz [27] ?_;refine zx (Qj J J (c1) J) J ?_;refine Wz [27] ?_;refine zx (Qj J J (c2) J) J ?_;refine Wz [27] ?_;refine zx (Qj J J (c3) J) J ?_;refine Wz [27] ?_;refine zx (Qj J J (c4) J) J ?_;refine Wz [27] ?_;refine zx (Qj J J (c5) J) J ?_;refine Wz [27] ?_;refine zx (Qj J J (c6) J) J ?_;refine Wz [27] ?_;refine zx (Qj J J (c7) J) J ?_;refine Wz [27] ?_;refine zx (Qj J J (c8) J) J ?_;refine Wz [83,164] ?_
 exact Xl J J (X1 [] Aqc J J J)
end
end Go.Proofs.YtfklmiijhcajdaaGreat
