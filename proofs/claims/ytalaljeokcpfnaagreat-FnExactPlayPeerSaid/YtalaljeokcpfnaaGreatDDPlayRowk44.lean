/-
  What the laws read back of a match, and what they write into a whole one.
  Conditions: numbers below 2^30.
-/
import Derived.Test.YtalaljeokcpfnaaGreatDDPlayRowk31
import Derived.Test.YtalaljeokcpfnaaGreatDDPlayRowk34
set_option linter.unusedSimpArgs false
set_option linter.unusedVariables false
set_option maxRecDepth 8000
set_option maxHeartbeats 8000000
namespace Go.Proofs.YtalaljeokcpfnaaGreat
section
open Tryz
open Go.RowKit

theorem X3 (xs:List (ByteArray)) (k:Int) (g:Enc.gd xs) (h0:0<k) (hb:nkEs (els xs) k≤1073741823):Co 118 [] [.c (.rd [] (.sl 1 (mkEs (els xs) k))),ai k] [] (I (nkEs (els xs) k)):=by
 have hn:=Y7 xs
 have hn1:=g.1
 have hm:=Zx (els xs) k
 refine Con.o func118 ntmps118 fun E=>?_;refine Wz [23,107] ?_;refine A_lt xs.length (fun i => [(0,.o (.c (.rd [] (.sl 1 (mkEs (els xs) k))))),(1,I (nkEs ((els xs).take i) k)),(5,I i)]) (fun i => []) (Yj [] Aqb) ?_
 intro m_A i hk_A
 by_cases h3:i<xs.length
 ·have f3:decide ((i:Int)<((mkEs (els xs) k).length:Int))=true:=Gqb Aqa 
  have hat:(els xs)[i]? = some (Enc.e xs[i]):=Y4 h3
  have hg:=g.2 _ (Gqe h3)
  have hl:=Int.le_trans (Z0 hat k) hb
  have hi:=Z1 ((els xs).take i) k
  have hnx:=Z3 hat k
  have hma:=mt_at hat k
  generalize nkEs ((els xs).take i) k=K at hl hi hnx hma ⊢
  replace hma:(mkEs (els xs) k)[(i:Int).toNat]? = some (mkE (Enc.e xs[i]) K):=hma
  have hco:Enc.e xs[i] = [.v (.string xs[i])]:=Aqb
  rw[hco] at hl hnx hma
  simp only[mkE,nkE,mkT,nkT] at hl hnx hma
  have hne:decide (mtext K≠mtext K)=false:=Aqd
  refine Wz [147,77,4,4] ?_;refine Xi [[],[],[0,1],[0,1,2],[],[4],(u9 6)] (tt [[],[],[12,2],[12,3],[],[16,1],[12,6]]) (tt [[13,1,16,2],[12,1,16,2],[16,2],[16,2],[12,4],[12,4],[]]) J ?_;refine Wz [35,64,17] ?_;refine Uq (Qj J J (X4 K Aqa) J) J ?_;refine Wz [230,12,28,27,13,110] ?_
  exact Bzm
 ·have f3:decide ((i:Int)<((mkEs (els xs) k).length:Int))=false:=Gqa Aqa 
  have hk:=Gqj (show (els xs).length≤i by omega)
  refine Wz [147,92,74] ?_
  exact Bzq
theorem L_hdIntS (xs:List (Int)) (k:Int) (g:Enc.gd xs) (h0:0<k) (hb:nkEs (els xs) k≤1073741823):Co 119 [] [.c (.rd [] (.sl 1 (mkEs (els xs) k))),ai k] [] (I (nkEs (els xs) k)):=by
 have hn:=Y7 xs
 have hn1:=g.1
 have hm:=Zx (els xs) k
 refine Con.o func119 ntmps119 fun E=>?_;refine Wz [23,107] ?_;refine A_lt xs.length (fun i => [(0,.o (.c (.rd [] (.sl 1 (mkEs (els xs) k))))),(1,I (nkEs ((els xs).take i) k)),(5,I i)]) (fun i => []) (Yj [] Aqb) ?_
 intro m_A i hk_A
 by_cases h3:i<xs.length
 ·have f3:decide ((i:Int)<((mkEs (els xs) k).length:Int))=true:=Gqb Aqa 
  have hat:(els xs)[i]? = some (Enc.e xs[i]):=Y4 h3
  have hg:=g.2 _ (Gqe h3)
  have hl:=Int.le_trans (Z0 hat k) hb
  have hi:=Z1 ((els xs).take i) k
  have hnx:=Z3 hat k
  have hma:=mt_at hat k
  generalize nkEs ((els xs).take i) k=K at hl hi hnx hma ⊢
  replace hma:(mkEs (els xs) k)[(i:Int).toNat]? = some (mkE (Enc.e xs[i]) K):=hma
  have hco:Enc.e xs[i] = [.v (.int .i64 xs[i])]:=Aqb
  rw[hco] at hl hnx hma
  simp only[mkE,nkE,mkT,nkT] at hl hnx hma
  refine Wz [147,77,15,158,48,124,28,27,13,110] ?_
  exact Bzm
 ·have f3:decide ((i:Int)<((mkEs (els xs) k).length:Int))=false:=Gqa Aqa 
  have hk:=Gqj (show (els xs).length≤i by omega)
  refine Wz [147,92,74] ?_
  exact Bzq
theorem L_hdBodyS (xs:List (TBody)) (k:Int) (g:Enc.gd xs) (h0:0<k) (hb:nkEs (els xs) k≤1073741823):Co 121 [] [.c (.rd [] (.sl 9 (mkEs (els xs) k))),ai k] [] (I (nkEs (els xs) k)):=by
 have hn:=Y7 xs
 have hn1:=g.1
 have hm:=Zx (els xs) k
 refine Con.o func121 ntmps121 fun E=>?_;refine Wz [23,107] ?_;refine A_lt xs.length (fun i => [(0,.o (.c (.rd [] (.sl 9 (mkEs (els xs) k))))),(1,I (nkEs ((els xs).take i) k)),(5,I i)]) (fun i => []) (Yj [] Aqb) ?_
 intro m_A i hk_A
 by_cases h3:i<xs.length
 ·have f3:decide ((i:Int)<((mkEs (els xs) k).length:Int))=true:=Gqb Aqa 
  have hat:(els xs)[i]? = some (Enc.e xs[i]):=Y4 h3
  have hg:=g.2 _ (Gqe h3)
  have hl:=Int.le_trans (Z0 hat k) hb
  have hi:=Z1 ((els xs).take i) k
  have hnx:=Z3 hat k
  have hma:=mt_at hat k
  generalize nkEs ((els xs).take i) k=K at hl hi hnx hma ⊢
  replace hma:(mkEs (els xs) k)[(i:Int).toNat]? = some (mkE (Enc.e xs[i]) K):=hma
  have hco:Enc.e xs[i] = [.v (.int .i64 xs[i].Kind),.v (.int .i64 xs[i].Owner),.v (.int .i64 xs[i].X),.v (.int .i64 xs[i].Y),.v (.int .i64 xs[i].VX),.v (.int .i64 xs[i].VY),.v (.int .i64 xs[i].Aim),.v (.int .i64 xs[i].Life),.v (.int .i64 xs[i].Timer)]:=Aqb
  rw[hco] at hl hnx hma
  simp only[mkE,nkE,mkT,nkT] at hl hnx hma
  refine Wz [147,77,15,63,48,124,97,13,40,0,63,48,124,97,13,40,0,63,48,124,97,13,40,0,63,48,124,97,13,40,0,63,48,124,97,13,40,0,63,48,124,97,13,40,0,63,48,124,97,13,40,0,63,48,124,97,13,40,0,63,48,124,28,27,13,110] ?_
  exact Bzm
 ·have f3:decide ((i:Int)<((mkEs (els xs) k).length:Int))=false:=Gqa Aqa 
  have hk:=Gqj (show (els xs).length≤i by omega)
  refine Wz [147,92,74] ?_
  exact Bzq
theorem L_hdIntSS (xs:List (List Int)) (k:Int) (g:Enc.gd xs) (h0:0<k) (hb:nkEs (els xs) k≤1073741823):Co 51 [] [.c (.rd [] (.sl 1 (mkEs (els xs) k))),ai k] [] (I (nkEs (els xs) k)):=by
 have va_:=@func51; have vb_:=@ntmps51; let vc_:=1; have vd_:=@L_hdIntS; exact Bqt
theorem L_hdTrackS (xs:List (TTrack)) (k:Int) (g:Enc.gd xs) (h0:0<k) (hb:nkEs (els xs) k≤1073741823):Co 120 [] [.c (.rd [] (.sl 1 (mkEs (els xs) k))),ai k] [] (I (nkEs (els xs) k)):=by
 have hn:=Y7 xs
 have hn1:=g.1
 have hm:=Zx (els xs) k
 refine Con.o func120 ntmps120 fun E=>?_;refine Wz [23,107] ?_;refine A_lt xs.length (fun i => [(0,.o (.c (.rd [] (.sl 1 (mkEs (els xs) k))))),(1,I (nkEs ((els xs).take i) k)),(5,I i)]) (fun i => []) (Yj [] Aqb) ?_
 intro m_A i hk_A
 by_cases h3:i<xs.length
 ·have f3:decide ((i:Int)<((mkEs (els xs) k).length:Int))=true:=Gqb Aqa 
  have hat:(els xs)[i]? = some (Enc.e xs[i]):=Y4 h3
  have hg:=g.2 _ (Gqe h3)
  have hl:=Int.le_trans (Z0 hat k) hb
  have hi:=Z1 ((els xs).take i) k
  have hnx:=Z3 hat k
  have hma:=mt_at hat k
  generalize nkEs ((els xs).take i) k=K at hl hi hnx hma ⊢
  replace hma:(mkEs (els xs) k)[(i:Int).toNat]? = some (mkE (Enc.e xs[i]) K):=hma
  have hco:Enc.e xs[i] = [.sl 1 (els xs[i].Inputs)]:=Aqb
  rw[hco] at hl hnx hma
  simp only[mkE,nkE,mkT,nkT] at hl hnx hma
  obtain⟨K1,h1,m1⟩:=gK (els xs[i].Inputs) (K)
  simp only[h1] at hl hnx hma
  have c1:=L_hdIntS xs[i].Inputs K hg Aqa Aqa 
  rw[h1] at c1
  have n1:decide (K1<0)=false:=Gqa Aqa 
  refine Wz [147,77,10,63,48] ?_;refine kc0 c1 ?_;refine Wz [44,19,81] ?_
  exact Bzm
 ·have f3:decide ((i:Int)<((mkEs (els xs) k).length:Int))=false:=Gqa Aqa 
  have hk:=Gqj (show (els xs).length≤i by omega)
  refine Wz [147,92,74] ?_
  exact Bzq
theorem L_hdSaveS (xs:List (TSave)) (k:Int) (g:Enc.gd xs) (h0:0<k) (hb:nkEs (els xs) k≤1073741823):Co 122 [] [.c (.rd [] (.sl 2 (mkEs (els xs) k))),ai k] [] (I (nkEs (els xs) k)):=by
 have hn:=Y7 xs
 have hn1:=g.1
 have hm:=Zx (els xs) k
 refine Con.o func122 ntmps122 fun E=>?_;refine Wz [23,107] ?_;refine A_lt xs.length (fun i => [(0,.o (.c (.rd [] (.sl 2 (mkEs (els xs) k))))),(1,I (nkEs ((els xs).take i) k)),(5,I i)]) (fun i => []) (Yj [] Aqb) ?_
 intro m_A i hk_A
 by_cases h3:i<xs.length
 ·have f3:decide ((i:Int)<((mkEs (els xs) k).length:Int))=true:=Gqb Aqa 
  have hat:(els xs)[i]? = some (Enc.e xs[i]):=Y4 h3
  have hg:=g.2 _ (Gqe h3)
  have hl:=Int.le_trans (Z0 hat k) hb
  have hi:=Z1 ((els xs).take i) k
  have hnx:=Z3 hat k
  have hma:=mt_at hat k
  generalize nkEs ((els xs).take i) k=K at hl hi hnx hma ⊢
  replace hma:(mkEs (els xs) k)[(i:Int).toNat]? = some (mkE (Enc.e xs[i]) K):=hma
  have hco:Enc.e xs[i] = [.v (.int .i64 xs[i].Tick),.v (.string xs[i].Delta)]:=Aqb
  rw[hco] at hl hnx hma
  simp only[mkE,nkE,mkT,nkT] at hl hnx hma
  have hne:decide (mtext (K+1)≠mtext (K+1))=false:=Aqd
  refine Wz [147,77,15,63,48,124,97,49,4,4] ?_;refine Xi u8_108 u8_109 u8_110 J ?_;refine Wz [35,132,192,201,17] ?_;refine Uq (Qj J J (X4 (K+1) Aqa) J) J ?_;refine Wz [230,12,28,27,13,110] ?_
  exact Bzm
 ·have f3:decide ((i:Int)<((mkEs (els xs) k).length:Int))=false:=Gqa Aqa 
  have hk:=Gqj (show (els xs).length≤i by omega)
  refine Wz [147,92,74] ?_
  exact Bzq
theorem L_hdPeerS (xs:List (TPeer)) (k:Int) (g:Enc.gd xs) (h0:0<k) (hb:nkEs (els xs) k≤1073741823):Co 52 [] [.c (.rd [] (.sl 23 (mkEs (els xs) k))),ai k] [] (I (nkEs (els xs) k)):=by
 have hn:=Y7 xs
 have hn1:=g.1
 have hm:=Zx (els xs) k
 refine Con.o func52 ntmps52 fun E=>?_;refine Wz [23,107] ?_;refine A_lt xs.length (fun i => [(0,.o (.c (.rd [] (.sl 23 (mkEs (els xs) k))))),(1,I (nkEs ((els xs).take i) k)),(5,I i)]) (fun i => []) (Yj [] Aqb) ?_
 intro m_A i hk_A
 by_cases h3:i<xs.length
 ·have f3:decide ((i:Int)<((mkEs (els xs) k).length:Int))=true:=Gqb Aqa 
  have hat:(els xs)[i]? = some (Enc.e xs[i]):=Y4 h3
  have hg:=g.2 _ (Gqe h3)
  have hl:=Int.le_trans (Z0 hat k) hb
  have hi:=Z1 ((els xs).take i) k
  have hnx:=Z3 hat k
  have hma:=mt_at hat k
  generalize nkEs ((els xs).take i) k=K at hl hi hnx hma ⊢
  replace hma:(mkEs (els xs) k)[(i:Int).toNat]? = some (mkE (Enc.e xs[i]) K):=hma
  have hco:Enc.e xs[i] = [.v (.int .i64 xs[i].Me),.v (.int .i64 xs[i].Delay),.v (.int .i64 xs[i].Ahead),.v (.int .i64 xs[i].Seed),.sl 1 (els xs[i].Tracks),.sl 1 (els xs[i].Base.Level.Rows),.v (.int .i64 xs[i].Base.Tick),.v (.int .i64 xs[i].Base.Seed),.sl 1 (els xs[i].Base.Scores),.sl 9 (els xs[i].Base.Bodies),.sl 1 (els xs[i].Now.Level.Rows),.v (.int .i64 xs[i].Now.Tick),.v (.int .i64 xs[i].Now.Seed),.sl 1 (els xs[i].Now.Scores),.sl 9 (els xs[i].Now.Bodies),.sl 1 (els xs[i].Used),.sl 2 (els xs[i].Saves),.sl 1 (els xs[i].Sums),.v (.int .i64 xs[i].Fault.Tick),.v (.int .i64 xs[i].Fault.Player),.v (.int .i64 xs[i].Fault.Add),.v (.int .i64 xs[i].Rolls),.v (.int .i64 xs[i].Again)]:=Aqb
  rw[hco] at hl hnx hma
  simp only[mkE,nkE,mkT,nkT] at hl hnx hma
  obtain⟨K1,h1,m1⟩:=gK (els xs[i].Tracks) (((((K+1)+1)+1)+1))
  obtain⟨K2,h2,m2⟩:=gK (els xs[i].Base.Level.Rows) (K1)
  obtain⟨K3,h3,m3⟩:=gK (els xs[i].Base.Scores) (((K2+1)+1))
  obtain⟨K4,h4,m4⟩:=gK (els xs[i].Base.Bodies) (K3)
  obtain⟨K5,h5,m5⟩:=gK (els xs[i].Now.Level.Rows) (K4)
  obtain⟨K6,h6,m6⟩:=gK (els xs[i].Now.Scores) (((K5+1)+1))
  obtain⟨K7,h7,m7⟩:=gK (els xs[i].Now.Bodies) (K6)
  obtain⟨K8,h8,m8⟩:=gK (els xs[i].Used) (K7)
  obtain⟨K9,h9,m9⟩:=gK (els xs[i].Saves) (K8)
  obtain⟨K10,h10,m10⟩:=gK (els xs[i].Sums) (K9)
  simp only[h1,h2,h3,h4,h5,h6,h7,h8,h9,h10] at hl hnx hma
  have c1:=L_hdTrackS xs[i].Tracks ((((K+1)+1)+1)+1) hg.2.2.2.2.1 Aqa Aqa 
  rw[h1] at c1
  have n1:decide (K1<0)=false:=Gqa Aqa 
  have c2:=X3 xs[i].Base.Level.Rows K1 hg.2.2.2.2.2.1.1 Aqa Aqa 
  rw[h2] at c2
  have n2:decide (K2<0)=false:=Gqa Aqa 
  have c3:=L_hdIntS xs[i].Base.Scores ((K2+1)+1) hg.2.2.2.2.2.1.2.2.2.1 Aqa Aqa 
  rw[h3] at c3
  have n3:decide (K3<0)=false:=Gqa Aqa 
  have c4:=L_hdBodyS xs[i].Base.Bodies K3 hg.2.2.2.2.2.1.2.2.2.2 Aqa Aqa 
  rw[h4] at c4
  have n4:decide (K4<0)=false:=Gqa Aqa 
  have c5:=X3 xs[i].Now.Level.Rows K4 hg.2.2.2.2.2.2.1.1 Aqa Aqa 
  rw[h5] at c5
  have n5:decide (K5<0)=false:=Gqa Aqa 
  have c6:=L_hdIntS xs[i].Now.Scores ((K5+1)+1) hg.2.2.2.2.2.2.1.2.2.2.1 Aqa Aqa 
  rw[h6] at c6
  have n6:decide (K6<0)=false:=Gqa Aqa 
  have c7:=L_hdBodyS xs[i].Now.Bodies K6 hg.2.2.2.2.2.2.1.2.2.2.2 Aqa Aqa 
  rw[h7] at c7
  have n7:decide (K7<0)=false:=Gqa Aqa 
  have c8:=L_hdIntSS xs[i].Used K7 hg.2.2.2.2.2.2.2.1 Aqa Aqa 
  rw[h8] at c8
  have n8:decide (K8<0)=false:=Gqa Aqa 
  have c9:=L_hdSaveS xs[i].Saves K8 hg.2.2.2.2.2.2.2.2.1 Aqa Aqa 
  rw[h9] at c9
  have n9:decide (K9<0)=false:=Gqa Aqa 
  have c10:=L_hdIntS xs[i].Sums K9 hg.2.2.2.2.2.2.2.2.2.1 Aqa Aqa 
  rw[h10] at c10
  have n10:decide (K10<0)=false:=Gqa Aqa 
  refine Wz [147,77,15,63,48,124,97,13,40,0,63,48,124,97,13,40,0,63,48,124,97,13,40,0,63,48,124,97,49,10,63,48] ?_;refine kc0 c1 ?_;refine Wz [126,10,63,175,175,48] ?_;refine kc0 c2 ?_;refine Wz [126,15,63,175,48,124,97,13,40,0,63,175,48,124,97,49,10,63,175,48] ?_;refine kc0 c3 ?_;refine Wz [126,10,63,175,48] ?_;refine kc0 c4 ?_;refine Wz [126,10,63,175,175,48] ?_;refine kc0 c5 ?_;refine Wz [126,15,63,175,48,124,97,13,40,0,63,175,48,124,97,49,10,63,175,48] ?_;refine kc0 c6 ?_;refine Wz [126,10,63,175,48] ?_;refine kc0 c7 ?_;refine Wz [126,10,63,48] ?_;refine kc0 c8 ?_;refine Wz [126,10,63,48] ?_;refine kc0 c9 ?_;refine Wz [126,10,63,48] ?_;refine kc0 c10 ?_;refine Wz [126,15,63,175,48,124,97,13,40,0,63,175,48,124,97,13,40,0,63,175,48,124,97,13,40,0,63,48,124,97,13,40,0,63,48,124,28,27,13,110] ?_
  exact Bzm
 ·have f3:decide ((i:Int)<((mkEs (els xs) k).length:Int))=false:=Gqa Aqa 
  have hk:=Gqj (show (els xs).length≤i by omega)
  refine Wz [147,92,74] ?_
  exact Bzq
theorem L_hdFlightS (xs:List (TFlight)) (k:Int) (g:Enc.gd xs) (h0:0<k) (hb:nkEs (els xs) k≤1073741823):Co 124 [] [.c (.rd [] (.sl 2 (mkEs (els xs) k))),ai k] [] (I (nkEs (els xs) k)):=by
 have hn:=Y7 xs
 have hn1:=g.1
 have hm:=Zx (els xs) k
 refine Con.o func124 ntmps124 fun E=>?_;refine Wz [23,107] ?_;refine A_lt xs.length (fun i => [(0,.o (.c (.rd [] (.sl 2 (mkEs (els xs) k))))),(1,I (nkEs ((els xs).take i) k)),(5,I i)]) (fun i => []) (Yj [] Aqb) ?_
 intro m_A i hk_A
 by_cases h3:i<xs.length
 ·have f3:decide ((i:Int)<((mkEs (els xs) k).length:Int))=true:=Gqb Aqa 
  have hat:(els xs)[i]? = some (Enc.e xs[i]):=Y4 h3
  have hg:=g.2 _ (Gqe h3)
  have hl:=Int.le_trans (Z0 hat k) hb
  have hi:=Z1 ((els xs).take i) k
  have hnx:=Z3 hat k
  have hma:=mt_at hat k
  generalize nkEs ((els xs).take i) k=K at hl hi hnx hma ⊢
  replace hma:(mkEs (els xs) k)[(i:Int).toNat]? = some (mkE (Enc.e xs[i]) K):=hma
  have hco:Enc.e xs[i] = [.v (.int .i64 xs[i].At),.v (.string xs[i].Data)]:=Aqb
  rw[hco] at hl hnx hma
  simp only[mkE,nkE,mkT,nkT] at hl hnx hma
  have hne:decide (mtext (K+1)≠mtext (K+1))=false:=Aqd
  refine Wz [147,77,15,63,48,124,97,49,4,4] ?_;refine Xi u8_108 u8_109 u8_110 J ?_;refine Wz [35,132,192,201,17] ?_;refine Uq (Qj J J (X4 (K+1) Aqa) J) J ?_;refine Wz [230,12,28,27,13,110] ?_
  exact Bzm
 ·have f3:decide ((i:Int)<((mkEs (els xs) k).length:Int))=false:=Gqa Aqa 
  have hk:=Gqj (show (els xs).length≤i by omega)
  refine Wz [147,92,74] ?_
  exact Bzq
theorem L_hdWireS (xs:List (TWire)) (k:Int) (g:Enc.gd xs) (h0:0<k) (hb:nkEs (els xs) k≤1073741823):Co 56 [] [.c (.rd [] (.sl 10 (mkEs (els xs) k))),ai k] [] (I (nkEs (els xs) k)):=by
 have hn:=Y7 xs
 have hn1:=g.1
 have hm:=Zx (els xs) k
 refine Con.o func56 ntmps56 fun E=>?_;refine Wz [23,107] ?_;refine A_lt xs.length (fun i => [(0,.o (.c (.rd [] (.sl 10 (mkEs (els xs) k))))),(1,I (nkEs ((els xs).take i) k)),(5,I i)]) (fun i => []) (Yj [] Aqb) ?_
 intro m_A i hk_A
 by_cases h3:i<xs.length
 ·have f3:decide ((i:Int)<((mkEs (els xs) k).length:Int))=true:=Gqb Aqa 
  have hat:(els xs)[i]? = some (Enc.e xs[i]):=Y4 h3
  have hg:=g.2 _ (Gqe h3)
  have hl:=Int.le_trans (Z0 hat k) hb
  have hi:=Z1 ((els xs).take i) k
  have hnx:=Z3 hat k
  have hma:=mt_at hat k
  generalize nkEs ((els xs).take i) k=K at hl hi hnx hma ⊢
  replace hma:(mkEs (els xs) k)[(i:Int).toNat]? = some (mkE (Enc.e xs[i]) K):=hma
  have hco:Enc.e xs[i] = [.v (.int .i64 xs[i].Seed),.v (.int .i64 xs[i].Delay),.v (.int .i64 xs[i].Jitter),.v (.int .i64 xs[i].Loss),.v (.int .i64 xs[i].Copies),.v (.int .i64 xs[i].Damage),.v (.int .i64 xs[i].Now),.sl 2 (els xs[i].Flights),.v (.int .i64 xs[i].Sent),.v (.int .i64 xs[i].Lost)]:=Aqb
  rw[hco] at hl hnx hma
  simp only[mkE,nkE,mkT,nkT] at hl hnx hma
  obtain⟨K1,h1,m1⟩:=gK (els xs[i].Flights) ((((((((K+1)+1)+1)+1)+1)+1)+1))
  simp only[h1] at hl hnx hma
  have c1:=L_hdFlightS xs[i].Flights (((((((K+1)+1)+1)+1)+1)+1)+1) hg.2.2.2.2.2.2.2.1 Aqa Aqa 
  rw[h1] at c1
  have n1:decide (K1<0)=false:=Gqa Aqa 
  refine Wz [147,77,15,63,48,124,97,13,40,0,63,48,124,97,13,40,0,63,48,124,97,13,40,0,63,48,124,97,13,40,0,63,48,124,97,13,40,0,63,48,124,97,13,40,0,63,48,124,97,49,10,63,48] ?_;refine kc0 c1 ?_;refine Wz [126,15,63,48,124,97,13,40,0,63,48,124,28,27,13,110] ?_
  exact Bzm
 ·have f3:decide ((i:Int)<((mkEs (els xs) k).length:Int))=false:=Gqa Aqa 
  have hk:=Gqj (show (els xs).length≤i by omega)
  refine Wz [147,92,74] ?_
  exact Bzq
theorem L_hdWireSS (xs:List (List TWire)) (k:Int) (g:Enc.gd xs) (h0:0<k) (hb:nkEs (els xs) k≤1073741823):Co 53 [] [.c (.rd [] (.sl 1 (mkEs (els xs) k))),ai k] [] (I (nkEs (els xs) k)):=by
 have va_:=@func53; have vb_:=@ntmps53; let vc_:=10; have vd_:=@L_hdWireS; exact Bqt
theorem L_hdPaceS (xs:List (TPace)) (k:Int) (g:Enc.gd xs) (h0:0<k) (hb:nkEs (els xs) k≤1073741823):Co 123 [] [.c (.rd [] (.sl 5 (mkEs (els xs) k))),ai k] [] (I (nkEs (els xs) k)):=by
 have hn:=Y7 xs
 have hn1:=g.1
 have hm:=Zx (els xs) k
 refine Con.o func123 ntmps123 fun E=>?_;refine Wz [23,107] ?_;refine A_lt xs.length (fun i => [(0,.o (.c (.rd [] (.sl 5 (mkEs (els xs) k))))),(1,I (nkEs ((els xs).take i) k)),(5,I i)]) (fun i => []) (Yj [] Aqb) ?_
 intro m_A i hk_A
 by_cases h3:i<xs.length
 ·have f3:decide ((i:Int)<((mkEs (els xs) k).length:Int))=true:=Gqb Aqa 
  have hat:(els xs)[i]? = some (Enc.e xs[i]):=Y4 h3
  have hg:=g.2 _ (Gqe h3)
  have hl:=Int.le_trans (Z0 hat k) hb
  have hi:=Z1 ((els xs).take i) k
  have hnx:=Z3 hat k
  have hma:=mt_at hat k
  generalize nkEs ((els xs).take i) k=K at hl hi hnx hma ⊢
  replace hma:(mkEs (els xs) k)[(i:Int).toNat]? = some (mkE (Enc.e xs[i]) K):=hma
  have hco:Enc.e xs[i] = [.v (.int .i64 xs[i].Newest),.v (.int .i64 xs[i].Their),.v (.int .i64 xs[i].At),.v (.int .i64 xs[i].Trip),.v (.int .i64 xs[i].Samples)]:=Aqb
  rw[hco] at hl hnx hma
  simp only[mkE,nkE,mkT,nkT] at hl hnx hma
  refine Wz [147,77,15,63,48,124,97,13,40,0,63,48,124,97,13,40,0,63,48,124,97,13,40,0,63,48,124,97,13,40,0,63,48,124,28,27,13,110] ?_
  exact Bzm
 ·have f3:decide ((i:Int)<((mkEs (els xs) k).length:Int))=false:=Gqa Aqa 
  have hk:=Gqj (show (els xs).length≤i by omega)
  refine Wz [147,92,74] ?_
  exact Bzq
theorem L_hdPaceSS (xs:List (List TPace)) (k:Int) (g:Enc.gd xs) (h0:0<k) (hb:nkEs (els xs) k≤1073741823):Co 54 [] [.c (.rd [] (.sl 1 (mkEs (els xs) k))),ai k] [] (I (nkEs (els xs) k)):=by
 have va_:=@func54; have vb_:=@ntmps54; let vc_:=5; have vd_:=@L_hdPaceS; exact Bqt
theorem L_hdSpectatorS (xs:List (TSpectator)) (k:Int) (g:Enc.gd xs) (h0:0<k) (hb:nkEs (els xs) k≤1073741823):Co 55 [] [.c (.rd [] (.sl 6 (mkEs (els xs) k))),ai k] [] (I (nkEs (els xs) k)):=by
 have hn:=Y7 xs
 have hn1:=g.1
 have hm:=Zx (els xs) k
 refine Con.o func55 ntmps55 fun E=>?_;refine Wz [23,107] ?_;refine A_lt xs.length (fun i => [(0,.o (.c (.rd [] (.sl 6 (mkEs (els xs) k))))),(1,I (nkEs ((els xs).take i) k)),(5,I i)]) (fun i => []) (Yj [] Aqb) ?_
 intro m_A i hk_A
 by_cases h3:i<xs.length
 ·have f3:decide ((i:Int)<((mkEs (els xs) k).length:Int))=true:=Gqb Aqa 
  have hat:(els xs)[i]? = some (Enc.e xs[i]):=Y4 h3
  have hg:=g.2 _ (Gqe h3)
  have hl:=Int.le_trans (Z0 hat k) hb
  have hi:=Z1 ((els xs).take i) k
  have hnx:=Z3 hat k
  have hma:=mt_at hat k
  generalize nkEs ((els xs).take i) k=K at hl hi hnx hma ⊢
  replace hma:(mkEs (els xs) k)[(i:Int).toNat]? = some (mkE (Enc.e xs[i]) K):=hma
  have hco:Enc.e xs[i] = [.sl 1 (els xs[i].World.Level.Rows),.v (.int .i64 xs[i].World.Tick),.v (.int .i64 xs[i].World.Seed),.sl 1 (els xs[i].World.Scores),.sl 9 (els xs[i].World.Bodies),.v (.int .i64 xs[i].Gaps)]:=Aqb
  rw[hco] at hl hnx hma
  simp only[mkE,nkE,mkT,nkT] at hl hnx hma
  obtain⟨K1,h1,m1⟩:=gK (els xs[i].World.Level.Rows) (K)
  obtain⟨K2,h2,m2⟩:=gK (els xs[i].World.Scores) (((K1+1)+1))
  obtain⟨K3,h3,m3⟩:=gK (els xs[i].World.Bodies) (K2)
  simp only[h1,h2,h3] at hl hnx hma
  have c1:=X3 xs[i].World.Level.Rows K hg.1.1 Aqa Aqa 
  rw[h1] at c1
  have n1:decide (K1<0)=false:=Gqa Aqa 
  have c2:=L_hdIntS xs[i].World.Scores ((K1+1)+1) hg.1.2.2.2.1 Aqa Aqa 
  rw[h2] at c2
  have n2:decide (K2<0)=false:=Gqa Aqa 
  have c3:=L_hdBodyS xs[i].World.Bodies K2 hg.1.2.2.2.2 Aqa Aqa 
  rw[h3] at c3
  have n3:decide (K3<0)=false:=Gqa Aqa 
  refine Wz [147,77,10,63,175,175,48] ?_;refine kc0 c1 ?_;refine Wz [126,15,63,175,48,124,97,13,40,0,63,175,48,124,97,49,10,63,175,48] ?_;refine kc0 c2 ?_;refine Wz [126,10,63,175,48] ?_;refine kc0 c3 ?_;refine Wz [126,15,63,48,124,28,27,13,110] ?_
  exact Bzm
 ·have f3:decide ((i:Int)<((mkEs (els xs) k).length:Int))=false:=Gqa Aqa 
  have hk:=Gqj (show (els xs).length≤i by omega)
  refine Wz [147,92,74] ?_
  exact Bzq
theorem L_hdAlarmS (xs:List (TAlarm)) (k:Int) (g:Enc.gd xs) (h0:0<k) (hb:nkEs (els xs) k≤1073741823):Co 57 [] [.c (.rd [] (.sl 2 (mkEs (els xs) k))),ai k] [] (I (nkEs (els xs) k)):=by
 have hn:=Y7 xs
 have hn1:=g.1
 have hm:=Zx (els xs) k
 refine Con.o func57 ntmps57 fun E=>?_;refine Wz [23,107] ?_;refine A_lt xs.length (fun i => [(0,.o (.c (.rd [] (.sl 2 (mkEs (els xs) k))))),(1,I (nkEs ((els xs).take i) k)),(5,I i)]) (fun i => []) (Yj [] Aqb) ?_
 intro m_A i hk_A
 by_cases h3:i<xs.length
 ·have f3:decide ((i:Int)<((mkEs (els xs) k).length:Int))=true:=Gqb Aqa 
  have hat:(els xs)[i]? = some (Enc.e xs[i]):=Y4 h3
  have hg:=g.2 _ (Gqe h3)
  have hl:=Int.le_trans (Z0 hat k) hb
  have hi:=Z1 ((els xs).take i) k
  have hnx:=Z3 hat k
  have hma:=mt_at hat k
  generalize nkEs ((els xs).take i) k=K at hl hi hnx hma ⊢
  replace hma:(mkEs (els xs) k)[(i:Int).toNat]? = some (mkE (Enc.e xs[i]) K):=hma
  have hco:Enc.e xs[i] = [.v (.int .i64 xs[i].Tick),.sl 1 (els xs[i].Parts)]:=Aqb
  rw[hco] at hl hnx hma
  simp only[mkE,nkE,mkT,nkT] at hl hnx hma
  obtain⟨K1,h1,m1⟩:=gK (els xs[i].Parts) ((K+1))
  simp only[h1] at hl hnx hma
  have c1:=X3 xs[i].Parts (K+1) hg.2 Aqa Aqa 
  rw[h1] at c1
  have n1:decide (K1<0)=false:=Gqa Aqa 
  refine Wz [147,77,15,63,48,124,97,49,10,63,48] ?_;refine kc0 c1 ?_;refine Wz [44,19,81] ?_
  exact Bzm
 ·have f3:decide ((i:Int)<((mkEs (els xs) k).length:Int))=false:=Gqa Aqa 
  have hk:=Gqj (show (els xs).length≤i by omega)
  refine Wz [147,92,74] ?_
  exact Bzq
class Mkb (α:Type) [Enc α]:Prop where
 b:∀ (x:α) (k:Int),nkE (Enc.e x) k≤k+23+23*(Enc.wt x:Nat)
theorem Zt {α:Type} [Enc α] [Mkb α]:∀ (xs:List α) (k:Int),nkEs (els xs) k≤k+23*(xs.length:Nat)+23*(wts xs:Nat)
 | [],k=>by simp[els,nkEs,wts]
 |x::xs,k=>by
  have h1:=Mkb.b x k
  have h2:=Zt xs (nkE (Enc.e x) k)
  show nkEs (els xs) (nkE (Enc.e x) k)≤_
  simp only[Gqw,wts]
  omega
instance {α:Type} [Enc α] [Mkb α]:Mkb (List α):=⟨fun x k=>by
 have b1:=Zt x k
 have w1:Enc.wt x=x.length+wts x:=rfl
 show nkEs (els x) k≤_
 omega⟩
instance:Mkb ByteArray:=⟨fun x k=>by
 show k+1≤_
 omega⟩
instance:Mkb Int:=⟨fun x k=>by
 show k+1≤_
 omega⟩
instance:Mkb TBody:=⟨fun x k=>by
 show k+1+1+1+1+1+1+1+1+1≤_
 omega⟩
instance:Mkb TTrack:=⟨fun x k=>by
 have b1:=Zt x.Inputs (k)
 have w1:Enc.wt x.Inputs=x.Inputs.length+wts x.Inputs:=rfl
 have v0:Enc.wt x=Enc.wt x.Inputs:=rfl
 show nkEs (els x.Inputs) (k)≤_
 omega⟩
instance:Mkb TSave:=⟨fun x k=>by
 show k+1+1≤_
 omega⟩
instance:Mkb TPeer:=⟨fun x k=>by
 have b1:=Zt x.Tracks (k+1+1+1+1)
 have b2:=Zt x.Base.Level.Rows (nkEs (els x.Tracks) (k+1+1+1+1))
 have b3:=Zt x.Base.Scores (nkEs (els x.Base.Level.Rows) (nkEs (els x.Tracks) (k+1+1+1+1))+1+1)
 have b4:=Zt x.Base.Bodies (nkEs (els x.Base.Scores) (nkEs (els x.Base.Level.Rows) (nkEs (els x.Tracks) (k+1+1+1+1))+1+1))
 have b5:=Zt x.Now.Level.Rows (nkEs (els x.Base.Bodies) (nkEs (els x.Base.Scores) (nkEs (els x.Base.Level.Rows) (nkEs (els x.Tracks) (k+1+1+1+1))+1+1)))
 have b6:=Zt x.Now.Scores (nkEs (els x.Now.Level.Rows) (nkEs (els x.Base.Bodies) (nkEs (els x.Base.Scores) (nkEs (els x.Base.Level.Rows) (nkEs (els x.Tracks) (k+1+1+1+1))+1+1)))+1+1)
 have b7:=Zt x.Now.Bodies (nkEs (els x.Now.Scores) (nkEs (els x.Now.Level.Rows) (nkEs (els x.Base.Bodies) (nkEs (els x.Base.Scores) (nkEs (els x.Base.Level.Rows) (nkEs (els x.Tracks) (k+1+1+1+1))+1+1)))+1+1))
 have b8:=Zt x.Used (nkEs (els x.Now.Bodies) (nkEs (els x.Now.Scores) (nkEs (els x.Now.Level.Rows) (nkEs (els x.Base.Bodies) (nkEs (els x.Base.Scores) (nkEs (els x.Base.Level.Rows) (nkEs (els x.Tracks) (k+1+1+1+1))+1+1)))+1+1)))
 have b9:=Zt x.Saves (nkEs (els x.Used) (nkEs (els x.Now.Bodies) (nkEs (els x.Now.Scores) (nkEs (els x.Now.Level.Rows) (nkEs (els x.Base.Bodies) (nkEs (els x.Base.Scores) (nkEs (els x.Base.Level.Rows) (nkEs (els x.Tracks) (k+1+1+1+1))+1+1)))+1+1))))
 have b10:=Zt x.Sums (nkEs (els x.Saves) (nkEs (els x.Used) (nkEs (els x.Now.Bodies) (nkEs (els x.Now.Scores) (nkEs (els x.Now.Level.Rows) (nkEs (els x.Base.Bodies) (nkEs (els x.Base.Scores) (nkEs (els x.Base.Level.Rows) (nkEs (els x.Tracks) (k+1+1+1+1))+1+1)))+1+1)))))
 have w1:Enc.wt x.Tracks=x.Tracks.length+wts x.Tracks:=rfl
 have w2:Enc.wt x.Base.Level.Rows=x.Base.Level.Rows.length+wts x.Base.Level.Rows:=rfl
 have w3:Enc.wt x.Base.Scores=x.Base.Scores.length+wts x.Base.Scores:=rfl
 have w4:Enc.wt x.Base.Bodies=x.Base.Bodies.length+wts x.Base.Bodies:=rfl
 have w5:Enc.wt x.Now.Level.Rows=x.Now.Level.Rows.length+wts x.Now.Level.Rows:=rfl
 have w6:Enc.wt x.Now.Scores=x.Now.Scores.length+wts x.Now.Scores:=rfl
 have w7:Enc.wt x.Now.Bodies=x.Now.Bodies.length+wts x.Now.Bodies:=rfl
 have w8:Enc.wt x.Used=x.Used.length+wts x.Used:=rfl
 have w9:Enc.wt x.Saves=x.Saves.length+wts x.Saves:=rfl
 have w10:Enc.wt x.Sums=x.Sums.length+wts x.Sums:=rfl
 have v0:Enc.wt x=Enc.wt x.Tracks+Enc.wt x.Base+Enc.wt x.Now+Enc.wt x.Used+Enc.wt x.Saves+Enc.wt x.Sums+Enc.wt x.Fault:=rfl
 have v1:Enc.wt x.Base=Enc.wt x.Base.Level.Rows+Enc.wt x.Base.Scores+Enc.wt x.Base.Bodies:=rfl
 have v2:Enc.wt x.Now=Enc.wt x.Now.Level.Rows+Enc.wt x.Now.Scores+Enc.wt x.Now.Bodies:=rfl
 show nkEs (els x.Sums) (nkEs (els x.Saves) (nkEs (els x.Used) (nkEs (els x.Now.Bodies) (nkEs (els x.Now.Scores) (nkEs (els x.Now.Level.Rows) (nkEs (els x.Base.Bodies) (nkEs (els x.Base.Scores) (nkEs (els x.Base.Level.Rows) (nkEs (els x.Tracks) (k+1+1+1+1))+1+1)))+1+1)))))+1+1+1+1+1≤_
 omega⟩
instance:Mkb TFlight:=⟨fun x k=>by
 show k+1+1≤_
 omega⟩
instance:Mkb TWire:=⟨fun x k=>by
 have b1:=Zt x.Flights (k+1+1+1+1+1+1+1)
 have w1:Enc.wt x.Flights=x.Flights.length+wts x.Flights:=rfl
 have v0:Enc.wt x=Enc.wt x.Flights:=rfl
 show nkEs (els x.Flights) (k+1+1+1+1+1+1+1)+1+1≤_
 omega⟩
instance:Mkb TPace:=⟨fun x k=>by
 show k+1+1+1+1+1≤_
 omega⟩
instance:Mkb TSpectator:=⟨fun x k=>by
 have b1:=Zt x.World.Level.Rows (k)
 have b2:=Zt x.World.Scores (nkEs (els x.World.Level.Rows) (k)+1+1)
 have b3:=Zt x.World.Bodies (nkEs (els x.World.Scores) (nkEs (els x.World.Level.Rows) (k)+1+1))
 have w1:Enc.wt x.World.Level.Rows=x.World.Level.Rows.length+wts x.World.Level.Rows:=rfl
 have w2:Enc.wt x.World.Scores=x.World.Scores.length+wts x.World.Scores:=rfl
 have w3:Enc.wt x.World.Bodies=x.World.Bodies.length+wts x.World.Bodies:=rfl
 have v0:Enc.wt x=Enc.wt x.World:=rfl
 have v1:Enc.wt x.World=Enc.wt x.World.Level.Rows+Enc.wt x.World.Scores+Enc.wt x.World.Bodies:=rfl
 show nkEs (els x.World.Bodies) (nkEs (els x.World.Scores) (nkEs (els x.World.Level.Rows) (k)+1+1))+1≤_
 omega⟩
instance:Mkb TAlarm:=⟨fun x k=>by
 have b1:=Zt x.Parts (k+1)
 have w1:Enc.wt x.Parts=x.Parts.length+wts x.Parts:=rfl
 have v0:Enc.wt x=Enc.wt x.Parts:=rfl
 show nkEs (els x.Parts) (k+1)≤_
 omega⟩
def n1M (x:TMatch) (k:Int):Int:=nkEs (els x.Level.Rows) k
def n2M (x:TMatch) (k:Int):Int:=nkEs (els x.Scripts) (n1M x k)
def n3M (x:TMatch) (k:Int):Int:=nkEs (els x.Peers) (n2M x k)
def n4M (x:TMatch) (k:Int):Int:=nkEs (els x.Wires) (n3M x k)
def n5M (x:TMatch) (k:Int):Int:=nkEs (els x.Paces) (n4M x k)
def n6M (x:TMatch) (k:Int):Int:=nkEs (els x.Acks) (n5M x k)
def n7M (x:TMatch) (k:Int):Int:=nkEs (els x.Watchers) (n6M x k)
def n8M (x:TMatch) (k:Int):Int:=nkEs (els x.Lines) (n7M x k)
def n9M (x:TMatch) (k:Int):Int:=nkEs (els x.Alarms) (n8M x k)
@[reducible] def mM (x:TMatch) (k:Int) (l:List Ob):List Ob := .row 1 (mkEs (els x.Level.Rows) k) :: .row 1 (mkEs (els x.Scripts) (n1M x k)) :: .row 23 (mkEs (els x.Peers) (n2M x k)) :: .row 1 (mkEs (els x.Wires) (n3M x k)) :: .row 1 (mkEs (els x.Paces) (n4M x k)) :: .row 1 (mkEs (els x.Acks) (n5M x k)) :: .row 6 (mkEs (els x.Watchers) (n6M x k)) :: .row 10 (mkEs (els x.Lines) (n7M x k)) :: .row 2 (mkEs (els x.Alarms) (n8M x k))::l
@[reducible] def mH (x:TMatch) (k:Int):List V1:=mX x (.rd [] (.sl 1 (mkEs (els x.Level.Rows) k))) (.rd [] (.sl 1 (mkEs (els x.Scripts) (n1M x k)))) (.rd [] (.sl 23 (mkEs (els x.Peers) (n2M x k)))) (.rd [] (.sl 1 (mkEs (els x.Wires) (n3M x k)))) (.rd [] (.sl 1 (mkEs (els x.Paces) (n4M x k)))) (.rd [] (.sl 1 (mkEs (els x.Acks) (n5M x k)))) (.rd [] (.sl 6 (mkEs (els x.Watchers) (n6M x k)))) (.rd [] (.sl 10 (mkEs (els x.Lines) (n7M x k)))) (.rd [] (.sl 2 (mkEs (els x.Alarms) (n8M x k))))
theorem nM_le (x:TMatch) (k:Int):k≤n9M x k∧n9M x k≤k+23*(Enc.wt x:Nat):=by
 have a0:=Z1 (els x.Level.Rows) k
 have b0:=Zt x.Level.Rows k
 rw[show nkEs (els x.Level.Rows) k=n1M x k from rfl] at a0 b0
 have w0:Enc.wt x.Level.Rows=x.Level.Rows.length+wts x.Level.Rows:=rfl
 have a1:=Z1 (els x.Scripts) (n1M x k)
 have b1:=Zt x.Scripts (n1M x k)
 rw[show nkEs (els x.Scripts) (n1M x k)=n2M x k from rfl] at a1 b1
 have w1:Enc.wt x.Scripts=x.Scripts.length+wts x.Scripts:=rfl
 have a2:=Z1 (els x.Peers) (n2M x k)
 have b2:=Zt x.Peers (n2M x k)
 rw[show nkEs (els x.Peers) (n2M x k)=n3M x k from rfl] at a2 b2
 have w2:Enc.wt x.Peers=x.Peers.length+wts x.Peers:=rfl
 have a3:=Z1 (els x.Wires) (n3M x k)
 have b3:=Zt x.Wires (n3M x k)
 rw[show nkEs (els x.Wires) (n3M x k)=n4M x k from rfl] at a3 b3
 have w3:Enc.wt x.Wires=x.Wires.length+wts x.Wires:=rfl
 have a4:=Z1 (els x.Paces) (n4M x k)
 have b4:=Zt x.Paces (n4M x k)
 rw[show nkEs (els x.Paces) (n4M x k)=n5M x k from rfl] at a4 b4
 have w4:Enc.wt x.Paces=x.Paces.length+wts x.Paces:=rfl
 have a5:=Z1 (els x.Acks) (n5M x k)
 have b5:=Zt x.Acks (n5M x k)
 rw[show nkEs (els x.Acks) (n5M x k)=n6M x k from rfl] at a5 b5
 have w5:Enc.wt x.Acks=x.Acks.length+wts x.Acks:=rfl
 have a6:=Z1 (els x.Watchers) (n6M x k)
 have b6:=Zt x.Watchers (n6M x k)
 rw[show nkEs (els x.Watchers) (n6M x k)=n7M x k from rfl] at a6 b6
 have w6:Enc.wt x.Watchers=x.Watchers.length+wts x.Watchers:=rfl
 have a7:=Z1 (els x.Lines) (n7M x k)
 have b7:=Zt x.Lines (n7M x k)
 rw[show nkEs (els x.Lines) (n7M x k)=n8M x k from rfl] at a7 b7
 have w7:Enc.wt x.Lines=x.Lines.length+wts x.Lines:=rfl
 have a8:=Z1 (els x.Alarms) (n8M x k)
 have b8:=Zt x.Alarms (n8M x k)
 rw[show nkEs (els x.Alarms) (n8M x k)=n9M x k from rfl] at a8 b8
 have w8:Enc.wt x.Alarms=x.Alarms.length+wts x.Alarms:=rfl
 have hw:Enc.wt x=Enc.wt x.Level.Rows+Enc.wt x.Scripts+Enc.wt x.Peers+Enc.wt x.Wires+Enc.wt x.Paces+Enc.wt x.Acks+Enc.wt x.Watchers+Enc.wt x.Lines+Enc.wt x.Alarms:=rfl
 omega
theorem L_mkLevel (xs:List ByteArray) (k:Int) (g:Enc.gd xs) (h0:0<k) (hb:nkEs (els xs) k≤1073741823):Co 42 [.row 1 (els xs),.gh 0 (.ag [Aqk 0])] [.ag [Aqk 0],ai k] [.row 1 (mkEs (els xs) k),.gh 0 (.ag [Aqk 0])] (I (nkEs (els xs) k)):=by
 refine Con.o func42 ntmps42 fun E=>?_;refine Wz [96,65] ?_;refine Xd (lo := [_]) (gs := [(0,.c (Aqk 0))]) (lo' := [_]) (new := []) [0] [(0,0,Aqk 0)] (X5 xs k g h0 hb) J J J J J J J J J J J J J J J J J ?_;refine Wz [44,36] ?_
 exact E_w [0,1] J J
theorem L_hdLevel (xs:List ByteArray) (k:Int) (g:Enc.gd xs) (h0:0<k) (hb:nkEs (els xs) k≤1073741823):Co 50 [] [.ag [.rd [] (.sl 1 (mkEs (els xs) k))],ai k] [] (I (nkEs (els xs) k)):=by
 have hk:=Z1 (els xs) k
 have hn:decide (nkEs (els xs) k<0)=false:=Gqa Aqa 
 refine Con.o func50 ntmps50 fun E=>?_;refine Wz [96,65] ?_;refine kc0 (X3 xs k g h0 hb) ?_;refine Wz [126,11,36] ?_
 exact Bzh
theorem L_mkMatch (x:TMatch) (k:Int) (g:Enc.gd x) (h0:0<k) (hb:n9M x k≤1073741823):Co 9 (mR x [.gh 0 (.ag (mC x 0))]) [.ag (mC x 0),ai k] (mM x k [.gh 0 (.ag (mC x 0))]) (I (n9M x k)):=by
 obtain⟨gL,_,_,gS,gP,gW,gPa,gA,_,gWa,gLi,gAl,_⟩:=g
 have a0:=Z1 (els x.Level.Rows) k
 rw[show nkEs (els x.Level.Rows) k=n1M x k from rfl] at a0
 have a1:=Z1 (els x.Scripts) (n1M x k)
 rw[show nkEs (els x.Scripts) (n1M x k)=n2M x k from rfl] at a1
 have a2:=Z1 (els x.Peers) (n2M x k)
 rw[show nkEs (els x.Peers) (n2M x k)=n3M x k from rfl] at a2
 have a3:=Z1 (els x.Wires) (n3M x k)
 rw[show nkEs (els x.Wires) (n3M x k)=n4M x k from rfl] at a3
 have a4:=Z1 (els x.Paces) (n4M x k)
 rw[show nkEs (els x.Paces) (n4M x k)=n5M x k from rfl] at a4
 have a5:=Z1 (els x.Acks) (n5M x k)
 rw[show nkEs (els x.Acks) (n5M x k)=n6M x k from rfl] at a5
 have a6:=Z1 (els x.Watchers) (n6M x k)
 rw[show nkEs (els x.Watchers) (n6M x k)=n7M x k from rfl] at a6
 have a7:=Z1 (els x.Lines) (n7M x k)
 rw[show nkEs (els x.Lines) (n7M x k)=n8M x k from rfl] at a7
 have a8:=Z1 (els x.Alarms) (n8M x k)
 rw[show nkEs (els x.Alarms) (n8M x k)=n9M x k from rfl] at a8
 have c0:=L_mkLevel x.Level.Rows k gL Aqa (show n1M x k≤_ by omega)
 rw[show nkEs (els x.Level.Rows) k=n1M x k from rfl] at c0
 have c1:=L_mkIntSS x.Scripts (n1M x k) gS Aqa (show n2M x k≤_ by omega)
 rw[show nkEs (els x.Scripts) (n1M x k)=n2M x k from rfl] at c1
 have c2:=L_mkPeerS x.Peers (n2M x k) gP Aqa (show n3M x k≤_ by omega)
 rw[show nkEs (els x.Peers) (n2M x k)=n3M x k from rfl] at c2
 have c3:=L_mkWireSS x.Wires (n3M x k) gW Aqa (show n4M x k≤_ by omega)
 rw[show nkEs (els x.Wires) (n3M x k)=n4M x k from rfl] at c3
 have c4:=L_mkPaceSS x.Paces (n4M x k) gPa Aqa (show n5M x k≤_ by omega)
 rw[show nkEs (els x.Paces) (n4M x k)=n5M x k from rfl] at c4
 have c5:=L_mkIntSS x.Acks (n5M x k) gA Aqa (show n6M x k≤_ by omega)
 rw[show nkEs (els x.Acks) (n5M x k)=n6M x k from rfl] at c5
 have c6:=L_mkSpectatorS x.Watchers (n6M x k) gWa Aqa (show n7M x k≤_ by omega)
 rw[show nkEs (els x.Watchers) (n6M x k)=n7M x k from rfl] at c6
 have c7:=L_mkWireS x.Lines (n7M x k) gLi Aqa (show n8M x k≤_ by omega)
 rw[show nkEs (els x.Lines) (n7M x k)=n8M x k from rfl] at c7
 have c8:=L_mkAlarmS x.Alarms (n8M x k) gAl Aqa (show n9M x k≤_ by omega)
 rw[show nkEs (els x.Alarms) (n8M x k)=n9M x k from rfl] at c8
 refine Con.o func9 ntmps9 fun E=>?_;refine Wz [96,56,0] ?_;refine Xd (lo := [_]) (gs := [(0,.ag [Aqk 0])]) (lo' := [_]) (new := []) [0] [(0,0,Aqk 0)] (c0) J J J J J J J J J J J J J J J J J ?_;refine AL.kp [2,11,8,0] [] 11 [(10,.box (mC x 0))] ?_;refine Wz [8,65] ?_;refine Xd (lo := [_]) (gs := [(0,.c (Aqk 0))]) (lo' := [_]) (new := []) [1] [(0,0,Aqk 0)] (c1) J J J J J J J J J J J J J J J J J ?_;refine AL.kp [2,11,12,0] [] 11 [(10,.box (mC x 0))] ?_;refine Wz [8,65] ?_;refine Xd (lo := [_]) (gs := [(0,.c (Aqk 0))]) (lo' := [_]) (new := []) [2] [(0,0,Aqk 0)] (c2) J J J J J J J J J J J J J J J J J ?_;refine AL.kp [2,11,16,0] [] 11 [(10,.box (mC x 0))] ?_;refine Wz [8,65] ?_;refine Xd (lo := [_]) (gs := [(0,.c (Aqk 0))]) (lo' := [_]) (new := []) [3] [(0,0,Aqk 0)] (c3) J J J J J J J J J J J J J J J J J ?_;refine AL.kp [2,11,20,0] [] 11 [(10,.box (mC x 0))] ?_;refine Wz [8,65] ?_;refine Xd (lo := [_]) (gs := [(0,.c (Aqk 0))]) (lo' := [_]) (new := []) [4] [(0,0,Aqk 0)] (c4) J J J J J J J J J J J J J J J J J ?_;refine AL.kp [2,11,24,0] [] 11 [(10,.box (mC x 0))] ?_;refine Wz [8,65] ?_;refine Xd (lo := [_]) (gs := [(0,.c (Aqk 0))]) (lo' := [_]) (new := []) [5] [(0,0,Aqk 0)] (c5) J J J J J J J J J J J J J J J J J ?_;refine AL.kp [2,11,28,0] [] 11 [(10,.box (mC x 0))] ?_;refine Wz [8,65] ?_;refine Xd (lo := [_]) (gs := [(0,.c (Aqk 0))]) (lo' := [_]) (new := []) [6] [(0,0,Aqk 0)] (c6) J J J J J J J J J J J J J J J J J ?_;refine AL.kp [2,11,32,0] [] 11 [(10,.box (mC x 0))] ?_;refine Wz [8,65] ?_;refine Xd (lo := [_]) (gs := [(0,.c (Aqk 0))]) (lo' := [_]) (new := []) [7] [(0,0,Aqk 0)] (c7) J J J J J J J J J J J J J J J J J ?_;refine AL.kp [2,11,36,0] [] 11 [(10,.box (mC x 0))] ?_;refine Wz [8,65] ?_;refine Xd (lo := [_]) (gs := [(0,.c (Aqk 0))]) (lo' := [_]) (new := []) [8] [(0,0,Aqk 0)] (c8) J J J J J J J J J J J J J J J J J ?_;refine AL.kp [2,11,40,0] [] 11 [(10,.box (mC x 0))] ?_;refine Wz [44,36] ?_
 exact E_w [0,1,2,3,4,5,6,7,8,9] J J
theorem L_hdMatch (x:TMatch) (k:Int) (g:Enc.gd x) (h0:0<k) (hb:n9M x k≤1073741823):Co 10 [] [.ag (mH x k),ai k] [] (I (n9M x k)):=by
 obtain⟨gL,_,_,gS,gP,gW,gPa,gA,_,gWa,gLi,gAl,_⟩:=g
 have a0:=Z1 (els x.Level.Rows) k
 rw[show nkEs (els x.Level.Rows) k=n1M x k from rfl] at a0
 have a1:=Z1 (els x.Scripts) (n1M x k)
 rw[show nkEs (els x.Scripts) (n1M x k)=n2M x k from rfl] at a1
 have a2:=Z1 (els x.Peers) (n2M x k)
 rw[show nkEs (els x.Peers) (n2M x k)=n3M x k from rfl] at a2
 have a3:=Z1 (els x.Wires) (n3M x k)
 rw[show nkEs (els x.Wires) (n3M x k)=n4M x k from rfl] at a3
 have a4:=Z1 (els x.Paces) (n4M x k)
 rw[show nkEs (els x.Paces) (n4M x k)=n5M x k from rfl] at a4
 have a5:=Z1 (els x.Acks) (n5M x k)
 rw[show nkEs (els x.Acks) (n5M x k)=n6M x k from rfl] at a5
 have a6:=Z1 (els x.Watchers) (n6M x k)
 rw[show nkEs (els x.Watchers) (n6M x k)=n7M x k from rfl] at a6
 have a7:=Z1 (els x.Lines) (n7M x k)
 rw[show nkEs (els x.Lines) (n7M x k)=n8M x k from rfl] at a7
 have a8:=Z1 (els x.Alarms) (n8M x k)
 rw[show nkEs (els x.Alarms) (n8M x k)=n9M x k from rfl] at a8
 have c0:=L_hdLevel x.Level.Rows k gL Aqa (show n1M x k≤_ by omega)
 rw[show nkEs (els x.Level.Rows) k=n1M x k from rfl] at c0
 have f0:decide (n1M x k<0)=false:=Gqa Aqa 
 have c1:=L_hdIntSS x.Scripts (n1M x k) gS Aqa (show n2M x k≤_ by omega)
 rw[show nkEs (els x.Scripts) (n1M x k)=n2M x k from rfl] at c1
 have f1:decide (n2M x k<0)=false:=Gqa Aqa 
 have c2:=L_hdPeerS x.Peers (n2M x k) gP Aqa (show n3M x k≤_ by omega)
 rw[show nkEs (els x.Peers) (n2M x k)=n3M x k from rfl] at c2
 have f2:decide (n3M x k<0)=false:=Gqa Aqa 
 have c3:=L_hdWireSS x.Wires (n3M x k) gW Aqa (show n4M x k≤_ by omega)
 rw[show nkEs (els x.Wires) (n3M x k)=n4M x k from rfl] at c3
 have f3:decide (n4M x k<0)=false:=Gqa Aqa 
 have c4:=L_hdPaceSS x.Paces (n4M x k) gPa Aqa (show n5M x k≤_ by omega)
 rw[show nkEs (els x.Paces) (n4M x k)=n5M x k from rfl] at c4
 have f4:decide (n5M x k<0)=false:=Gqa Aqa 
 have c5:=L_hdIntSS x.Acks (n5M x k) gA Aqa (show n6M x k≤_ by omega)
 rw[show nkEs (els x.Acks) (n5M x k)=n6M x k from rfl] at c5
 have f5:decide (n6M x k<0)=false:=Gqa Aqa 
 have c6:=L_hdSpectatorS x.Watchers (n6M x k) gWa Aqa (show n7M x k≤_ by omega)
 rw[show nkEs (els x.Watchers) (n6M x k)=n7M x k from rfl] at c6
 have f6:decide (n7M x k<0)=false:=Gqa Aqa 
 have c7:=L_hdWireS x.Lines (n7M x k) gLi Aqa (show n8M x k≤_ by omega)
 rw[show nkEs (els x.Lines) (n7M x k)=n8M x k from rfl] at c7
 have f7:decide (n8M x k<0)=false:=Gqa Aqa 
 have c8:=L_hdAlarmS x.Alarms (n8M x k) gAl Aqa (show n9M x k≤_ by omega)
 rw[show nkEs (els x.Alarms) (n8M x k)=n9M x k from rfl] at c8
 have f8:decide (n9M x k<0)=false:=Gqa Aqa 
 refine Con.o func10 ntmps10 fun E=>?_;refine Wz [96,56,0] ?_;refine kc0 c0 ?_;refine Wz [70] ?_;refine kc0 c1 ?_;refine Wz [70] ?_;refine kc0 c2 ?_;refine Wz [70] ?_;refine kc0 c3 ?_;refine Wz [70] ?_;refine kc0 c4 ?_;refine Wz [70] ?_;refine kc0 c5 ?_;refine Wz [70] ?_;refine kc0 c6 ?_;refine Wz [70] ?_;refine kc0 c7 ?_;refine Wz [70] ?_;refine kc0 c8 ?_;refine Wz [126,11,36] ?_
 exact Bzh
end
end Go.Proofs.YtalaljeokcpfnaaGreat
