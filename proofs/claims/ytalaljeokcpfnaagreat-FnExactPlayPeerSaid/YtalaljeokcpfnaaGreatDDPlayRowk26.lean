/-
  Rules, data and contracts of functions: part 27 of the proof.
  Conditions: those that each theorem names.
-/
import Derived.Test.YtalaljeokcpfnaaGreatDDPlayRowk25
set_option linter.unusedSimpArgs false
set_option linter.unusedVariables false
set_option maxRecDepth 8000
set_option maxHeartbeats 8000000
namespace Go.Proofs.YtalaljeokcpfnaaGreat
section
open Tryz
open Go.RowKit

def metC (bs:List TBody) (b:TBody) (o:Int) (k:Nat):Bool:=match bs[k]? with
 |none=>false
 |some p=>(decide ((k:Int)≠o)&&decide (0<p.Life))&&meetM p b
def metF (bs:List TBody) (b:TBody) (o:Int):Nat→Option Nat
 |0=>none
 |n+1=>match metF bs b o n with
  |some k=>some k
  |none=>if metC bs b o n=true then some n else none
def metI (bs:List TBody) (b:TBody) (o:Int) (n:Nat):Int:=match metF bs b o n with
 |some k=>k
 |none => -1
section
variable {bs:List TBody} {b p:TBody} {o:Int} {k n:Nat}
theorem metC_at (h:bs[k]? = some p):metC bs b o k=((decide ((k:Int)≠o)&&decide (0<p.Life))&&meetM p b):=by rw[metC,h]
theorem metF_no (h:metF bs b o k=none) (hc:metC bs b o k=false):metF bs b o (k+1)=none:=by rw[metF,h]; simp[hc]
theorem metF_hit (h:metF bs b o k=none) (hc:metC bs b o k=true):∀ {n:Nat},k<n→metF bs b o n=some k
 | n+1,hlt=>by
  rcases Gqr k n with h1 | h1
  ·rw[metF,metF_hit h hc h1]
  ·have:k=n:=Aqa
   subst this
   rw[metF,h]; simp[hc]
theorem metF_lt:∀ {n:Nat},metF bs b o n=some k→k<n∧metC bs b o k=true
 |0,h=>by cases h
 | n+1,h=>by
  rw[metF] at h
  cases hm:metF bs b o n with
  |some j =>
   rw[hm] at h
   cases h
   have:=metF_lt hm
   exact⟨Aqa,this.2⟩
  |none =>
   rw[hm] at h
   simp only at h
   split at h
   ·cases h; rename_i hc; exact⟨Aqa,hc⟩
   ·cases h
theorem metC_life (h:metC bs b o k=true):∃ p,bs[k]? = some p∧0<p.Life∧(k:Int)≠o∧meetM p b=true:=by
 unfold metC at h
 split at h
 ·cases h
 ·rename_i p hp
  simp only[Gqh,decide_eq_true_eq] at h
  exact⟨p,hp,h.1.2,h.1.1,h.2⟩
end
theorem Za {α:Type} [Enc α] {xs:List α} {i:Nat} {x:α} (h:xs[i]? = some x):(els xs)[(i:Int).toNat]? = some (Enc.e x):=by simp[els,h]
theorem Ua {α:Type} {xs:List α} {i:Nat} (h:i<xs.length):∃ x,xs[i]? = some x:=⟨xs[i],Gqg h⟩
theorem I_playerMet (w:TWorld) (b:TBody) (o:Int) (hn:w.Scores.length≤w.Bodies.length) (h4:w.Scores.length≤4) (hp:∀ k p,k<w.Scores.length→w.Bodies[k]? = some p→Placed p) (hb:Placed b):Co 266 [.box [Aqk 1,jn w.Tick,jn w.Seed,Aqk 2,Aqk 3],.row 1 (els w.Level.Rows),.row 1 (els w.Scores),.row 9 (els w.Bodies),.gh 0 (.c (.ptr 0 0)),.gh 6 (.c (Aqk 3))] [.c (.ptr 0 0),ag b,ai o] [.box [Aqk 1,jn w.Tick,jn w.Seed,Aqk 2,Aqk 3],.row 1 (els w.Level.Rows),.row 1 (els w.Scores),.row 9 (els w.Bodies),.gh 0 (.c (.ptr 0 0)),.gh 6 (.c (Aqk 3))] (I (metI w.Bodies b o w.Scores.length)):=by
 have hls:=Y7 w.Scores
 have hlb:=Y7 w.Bodies
 refine Con.o func266 ntmps266 fun E=>?_;refine Wz [43,40,61,31,33,138,34] ?_;refine A_lp w.Scores.length (fun k=>metF w.Bodies b o k=none) (fun k => [(0,Aqf 0),(2,I o),(4,Aqf 6),(12,I (els w.Scores).length),(13,I k)]) (fun k => [.box [Aqk 1,jn w.Tick,jn w.Seed,Aqk 2,Aqk 3],.row 1 (els w.Level.Rows),.row 1 (els w.Scores),.row 9 (els w.Bodies),.gh 0 (.c (.ptr 0 0)),.gh 6 (.c (Aqk 3)),.box (Aqi b)]) J (Yj [0,1,2,3,4,5,6] Aqb) ?_
 intro m_A k hk_A hp_A
 by_cases hlt:k<w.Scores.length
 ·have hb0:decide ((k:Int)<(els w.Scores).length)=true:=Gqb Aqa 
  obtain⟨p,hp1⟩:=Ua (xs:=w.Bodies) (i:=k) Aqa 
  have he:=Za hp1
  have cm:=I_BodiesMeet p b (hp k p hlt hp1) hb
  have hc:=metC_at (b:=b) (o:=o) hp1
  by_cases h1:(k:Int)=o
  ·have f1:decide ((k:Int)≠o)=false:=Gqa (fun q=>q h1)
   refine Wz [3,19,1,4,117,9,11,16] ?_;refine Xi u8_38 u8_39 u8_40 J ?_;refine Wz [35,176,118,127,188,84,118,127,188,84,12,151,104] ?_
   exact .n (k+1) (metF_no hp_A (by rw[hc,f1]; rfl)) (Yj [0,1,2,3,4,5,6] Aqb)
  have f1:decide ((k:Int)≠o)=true:=Gqb h1
  by_cases h2:0<p.Life
  ·have f2:decide (0<p.Life)=true:=Gqb h2
   cases h3:meetM p b with
   |false =>
    rw[h3] at cm
    refine Wz [3,19,1,4,117,9,11,16] ?_;refine Xi u8_38 u8_39 u8_40 J ?_;refine Wz [35,176,17,62,203,24,62,178,231,200,274,88,17,62,203,24,62,178] ?_;refine Uq (Qt.yes J J J (Q6 J J J J Aqe J J)) J (Uq (Qt.yes J J J (Qu J J J J J J)) J ?_);refine Uq (Qt.yes J J J (Qj J J (cm) J)) J ?_;refine Wz [88,12,151,104] ?_
    exact .n (k+1) (metF_no hp_A (by rw[hc,h3,Gxk])) (Yj [0,1,2,3,4,5,6] Aqb)
   |true =>
    rw[h3] at cm
    refine Wz [3,19,1,4,117,9,11,16] ?_;refine Xi u8_38 u8_39 u8_40 J ?_;refine Wz [35,176,17,62,203,24,62,178,231,200,274,88,17,62,203,24,62,178] ?_;refine Uq (Qt.yes J J J (Q6 J J J J Aqe J J)) J (Uq (Qt.yes J J J (Qu J J J J J J)) J ?_);refine Uq (Qt.yes J J J (Qj J J (cm) J)) J ?_;refine Wz [88,12,32,11,155,57] ?_
    exact E_w [0,1,2,3,4,5] J (X0 (by rw[metI,metF_hit hp_A (by rw[hc,f1,f2,h3]; rfl) hlt]))
  ·have f2:decide (0<p.Life)=false:=Gqa h2
   refine Wz [3,19,1,4,117,9,11,16] ?_;refine Xi u8_38 u8_39 u8_40 J ?_;refine Wz [35,176,17,62,203,24,62,178,231,200,274,88,118,127,188,84,12,151,104] ?_
   exact .n (k+1) (metF_no hp_A (by rw[hc,f2,Gxk,Bool.false_and])) (Yj [0,1,2,3,4,5,6] Aqb)
 ·have hb0:decide ((k:Int)<(els w.Scores).length)=false:=Gqa Aqa 
  have hk:k=w.Scores.length:=Aqa
  refine Wz [3,19,1,4,90,30,101] ?_
  exact E_w [0,1,2,3,4,5] J (X0 (by rw[metI,←hk,hp_A]))
theorem S_l02Meets (w:TWorld) (b:TBody) (o:Int) (hn:w.Scores.length≤w.Bodies.length) (h4:w.Scores.length≤4) (hp:∀ k p,k<w.Scores.length→w.Bodies[k]? = some p→Placed p) (hb:Placed b):Co 270 [.box [Aqk 1,jn w.Tick,jn w.Seed,Aqk 2,Aqk 3],.row 1 (els w.Level.Rows),.row 1 (els w.Scores),.row 9 (els w.Bodies),.gh 0 (.c (.ptr 0 0)),.gh 6 (.c (Aqk 3))] [.c (.ptr 0 0),ag b,ai o] [.box [Aqk 1,jn w.Tick,jn w.Seed,Aqk 2,Aqk 3],.row 1 (els w.Level.Rows),.row 1 (els w.Scores),.row 9 (els w.Bodies),.gh 0 (.c (.ptr 0 0)),.gh 6 (.c (Aqk 3))] (I (metI w.Bodies b o w.Scores.length)):=by
 have hls:=Y7 w.Scores
 have hlb:=Y7 w.Bodies
 refine Con.o func270 ntmps270 fun E=>?_;refine Wz [43,16,51] ?_;refine A_lp w.Scores.length (fun k=>metF w.Bodies b o k=none) (fun k => [(0,Aqf 0),(2,I o),(4,Aqf 6),(7,I k)]) (fun k => [.box [Aqk 1,jn w.Tick,jn w.Seed,Aqk 2,Aqk 3],.row 1 (els w.Level.Rows),.row 1 (els w.Scores),.row 9 (els w.Bodies),.gh 0 (.c (.ptr 0 0)),.gh 6 (.c (Aqk 3)),.box (Aqi b)]) J (Yj [0,1,2,3,4,5,6] Aqb) ?_
 intro m_A k hk_A hp_A
 by_cases hlt:k<w.Scores.length
 ·have hb0:decide ((k:Int)<(els w.Scores).length)=true:=Gqb Aqa 
  obtain⟨p,hp1⟩:=Ua (xs:=w.Bodies) (i:=k) Aqa 
  have he:=Za hp1
  have cm:=S_BodiesMeet p b (hp k p hlt hp1) hb
  have hc:=metC_at (b:=b) (o:=o) hp1
  by_cases h1:(k:Int)=o
  ·have f1:decide ((k:Int)≠o)=false:=Gqa (fun q=>q h1)
   refine Wz [15,61,31,33,77,4] ?_;refine Xi u8_38 u8_41 u8_42 J ?_;refine Wz [35,176,118,127,188,84,118,127,188,84,12,81] ?_
   exact .n (k+1) (metF_no hp_A (by rw[hc,f1]; rfl)) (Yj [0,1,2,3,4,5,6] Aqb)
  have f1:decide ((k:Int)≠o)=true:=Gqb h1
  by_cases h2:0<p.Life
  ·have f2:decide (0<p.Life)=true:=Gqb h2
   cases h3:meetM p b with
   |false =>
    rw[h3] at cm
    refine Wz [15,61,31,33,77,4] ?_;refine Xi u8_38 u8_41 u8_42 J ?_;refine Wz [35,176,17,62,203,24,62,178,231,200,274,88,17,62,203,24,62,178] ?_;refine Uq (Qt.yes J J J (Q6 J J J J Aqe J J)) J (Uq (Qt.yes J J J (Qu J J J J J J)) J ?_);refine Uq (Qt.yes J J J (Qj J J (cm) J)) J ?_;refine Wz [88,12,81] ?_
    exact .n (k+1) (metF_no hp_A (by rw[hc,h3,Gxk])) (Yj [0,1,2,3,4,5,6] Aqb)
   |true =>
    rw[h3] at cm
    refine Wz [15,61,31,33,77,4] ?_;refine Xi u8_38 u8_41 u8_42 J ?_;refine Wz [35,176,17,62,203,24,62,178,231,200,274,88,17,62,203,24,62,178] ?_;refine Uq (Qt.yes J J J (Q6 J J J J Aqe J J)) J (Uq (Qt.yes J J J (Qu J J J J J J)) J ?_);refine Uq (Qt.yes J J J (Qj J J (cm) J)) J ?_;refine Wz [88,12,32,11,155,57] ?_
    exact E_w [0,1,2,3,4,5] J (X0 (by rw[metI,metF_hit hp_A (by rw[hc,f1,f2,h3]; rfl) hlt]))
  ·have f2:decide (0<p.Life)=false:=Gqa h2
   refine Wz [15,61,31,33,77,4] ?_;refine Xi u8_38 u8_41 u8_42 J ?_;refine Wz [35,176,17,62,203,24,62,178,231,200,274,88,118,127,188,84,12,81] ?_
   exact .n (k+1) (metF_no hp_A (by rw[hc,f2,Gxk,Bool.false_and])) (Yj [0,1,2,3,4,5,6] Aqb)
 ·have hb0:decide ((k:Int)<(els w.Scores).length)=false:=Gqa Aqa 
  have hk:k=w.Scores.length:=Aqa
  refine Wz [15,61,31,33,92,30,101] ?_
  exact E_w [0,1,2,3,4,5] J (X0 (by rw[metI,←hk,hp_A]))
def addM (ss:List Int) (k:Nat):List Int:=match ss[k]? with
 |none=>ss
 |some s=>ss.set k (min (s+1) 1000000)
theorem addM_at {ss:List Int} {k:Nat} {s:Int} (h:ss[k]? = some s):addM ss k=ss.set k (min (s+1) 1000000):=by rw[addM,h]
theorem addM_els {ss:List Int} {k:Nat} {s:Int} (h:ss[k]? = some s):els (addM ss k)=(els ss).set (k:Int).toNat (splice (Enc.e s) 0 [.v (.int .i64 (min (s+1) 1000000))]):=by
 rw[addM_at h,Y9]; rfl
theorem addM_same {ss:List Int} {k:Nat} {s:Int} (h:ss[k]? = some s) (hs:¬s<1000000) (h1:s≤1000000):addM ss k=ss:=by
 rw[addM_at h,show min (s+1) 1000000=s by omega]
 obtain⟨hk,rfl⟩:=Gqo.1 h
 exact List.set_getElem_self hk
theorem I_addScore (w:TWorld) (k:Nat) (s:Int) (hs:w.Scores[k]? = some s) (h0:0≤s∧s≤1000000):Co 267 [.box [Aqk 1,jn w.Tick,jn w.Seed,Aqk 2,Aqk 3],.row 1 (els w.Level.Rows),.row 1 (els w.Scores),.row 9 (els w.Bodies),.gh 0 (.c (.ptr 0 0)),.gh 5 (.c (Aqk 3))] [.c (.ptr 0 0),ai k] [.box [Aqk 1,jn w.Tick,jn w.Seed,Aqk 2,Aqk 3],.row 1 (els w.Level.Rows),.row 1 (els (addM w.Scores k)),.row 9 (els w.Bodies),.gh 0 (.c (.ptr 0 0)),.gh 5 (.c (Aqk 3))] (.tu []):=by
 have hls:=Y7 w.Scores
 have hk:=Zj hs
 have he:=Za hs
 by_cases h1:s<1000000
 ·have f1:decide (s<1000000)=true:=Gqb h1
  rw[addM_els hs,show min (s+1) 1000000=s+1 by omega]
  refine Con.o func267 ntmps267 fun E=>?_;refine Wz [11,61,68,106,146,157,27,61,68,106,146,13,106,170,53,220] ?_
  exact Xo J (Yh [0,1,2,3,4,5] Aqc J J J)
 ·have f1:decide (s<1000000)=false:=Gqa h1
  rw[addM_same hs h1 h0.2]
  refine Con.o func267 ntmps267 fun E=>?_;refine Wz [11,61,68,106,146,19,151,220] ?_
  exact Xo J (Yh [0,1,2,3,4,5] Aqc J J J)
theorem S_l02Point (w:TWorld) (k:Nat) (s:Int) (hs:w.Scores[k]? = some s) (h0:0≤s∧s≤1000000):Co 271 [.box [Aqk 1,jn w.Tick,jn w.Seed,Aqk 2,Aqk 3],.row 1 (els w.Level.Rows),.row 1 (els w.Scores),.row 9 (els w.Bodies),.gh 0 (.c (.ptr 0 0)),.gh 5 (.c (Aqk 3))] [.c (.ptr 0 0),ai k] [.box [Aqk 1,jn w.Tick,jn w.Seed,Aqk 2,Aqk 3],.row 1 (els w.Level.Rows),.row 1 (els (addM w.Scores k)),.row 9 (els w.Bodies),.gh 0 (.c (.ptr 0 0)),.gh 5 (.c (Aqk 3))] (.tu []):=by
 have hls:=Y7 w.Scores
 have hk:=Zj hs
 have he:=Za hs
 rw[addM_els hs]
 refine Con.o func271 ntmps271 fun E=>?_
 skip
 refine Xi (tt [[],[0,1],[0,2],[0,3],[],[],[5,1],[5,2],[5,3],[],[5,5],[5,6],[5,7],[5,8],[0,14],[0,15]]) (tt [[],[4,1],[4,2],[4,3],[],[],[9,1],[9,2],[9,3],[],[9,5],[9,6],[9,7],[9,8],[4,14],[4,15]]) (tt [[8,10],[8,10],[8,10],[8,10],[4,4,9,9],[4,5,13,1],[4,5,13,1],[4,5,13,1],[4,5,13,1],[4,9],[4,5],[4,5],[4,5],[4,5],[],[],[0,1,4,1]]) J ?_;refine Wz [17,128,37,35,128,67,129,163,187] ?_;refine Uq (q_min J J J J) J ?_;refine Wz [129,12,170,53,220] ?_
 exact Xo J (Yh [0,1,2,3,4,5] Aqc J J J)
end
section
open Tryz
open Go.RowKit

theorem colSp_len (row:ByteArray) (r:Nat):∀ n,(colSp row r n).length≤n
 |0=>Gqi _
 |n+1=>by have:=colSp_len row r n; rw[colSp]; split <;> simp <;> omega
theorem rowSp_len {rows:List ByteArray} {w:Nat} (hw:∀ (r:Nat) (hr:r<rows.length),(rows[r]).size=w):∀ n,(rowSp rows n).length≤n*w
 |0=>by simp[rowSp]
 | n+1=>by
  have h:=rowSp_len hw n
  rw[rowSp]
  cases hr:rows[n]? with
  |none=>simp only; rw[Nat.add_mul]; omega
  |some row =>
   obtain⟨h1,h2⟩:=Gqo.1 hr
   have h3:=colSp_len row n row.size
   have h4:row.size=w:=by rw[←h2]; exact hw n h1
   simp only[Gql]
   rw[Nat.add_mul]
   omega
def spotsM (l:TLevel):List (List Int):=rowSp l.Rows l.Rows.length
theorem spots_len {l:TLevel} (hl:levelOk l=true):(spotsM l).length≤240:=by
 obtain⟨l3,l12,w,w4,w20,hw⟩:=Zp hl
 have h:=rowSp_len hw l.Rows.length
 have h2:l.Rows.length*w≤12*20:=Nat.mul_le_mul l12 w20
 unfold spotsM
 omega
theorem colSp_at {row:ByteArray} {r:Nat}:∀ {n:Nat} {s:List Int},s∈colSp row r n→∃ c:Nat,c<n∧byteAt row c=111∧s = [(c:Int)*16+4,(r:Int)*16+4]
 |0,s,h=>by simp[colSp] at h
 | n+1,s,h=>by
  rw[colSp] at h
  split at h
  ·rename_i hb
   rcases Gqs.1 h with h | h
   ·obtain⟨c,h1,h2⟩:=colSp_at h; exact⟨c,Aqa,h2⟩
   ·exact⟨n,Aqa,hb,by simpa using h⟩
  ·obtain⟨c,h1,h2⟩:=colSp_at h; exact⟨c,Aqa,h2⟩
theorem rowSp_at {rows:List ByteArray}:∀ {n:Nat} {s:List Int},s∈rowSp rows n→∃ (r c:Nat) (row:ByteArray),r<n∧rows[r]? = some row∧c<row.size∧byteAt row c=111∧s = [(c:Int)*16+4,(r:Int)*16+4]
 |0,s,h=>by simp[rowSp] at h
 | n+1,s,h=>by
  rw[rowSp] at h
  cases hr:rows[n]? with
  |none=>rw[hr] at h; obtain⟨r,c,row,h1,h2⟩:=rowSp_at h; exact⟨r,c,row,Aqa,h2⟩
  |some row =>
   rw[hr] at h
   rcases Gqs.1 h with h | h
   ·obtain⟨r,c,row,h1,h2⟩:=rowSp_at h; exact⟨r,c,row,Aqa,h2⟩
   ·obtain⟨c,h1,h2⟩:=colSp_at h; exact⟨n,c,row,Aqa,hr,h1,h2⟩
theorem sp_hit {row:ByteArray} {r c:Nat} {A:List (List Int)} {x y:Int} (h:byteAt row c=111) (hx:x=(c:Int)*16+4) (hy:y=(r:Int)*16+4):els (A++colSp row r (c+1))=els (A++colSp row r c) ++ [[.sl 1 (els [x,y])]]:=by
 rw[colSp,if_pos h,←Gqz,Y3,hx,hy]; rfl
theorem sp_skip {row:ByteArray} {r c:Nat} (h:¬byteAt row c=111):colSp row r (c+1)=colSp row r c:=by rw[colSp,if_neg h]
theorem sp_row {rows:List ByteArray} {row:ByteArray} {r:Nat} (h:rows[r]? = some row):rowSp rows (r+1)=rowSp rows r++colSp row r row.size:=by rw[rowSp,h]
theorem row2w {a:Ob} {k:Nat} {x y:List (List T)} (h:x=y) : [a,Ob.row k x] = [a,Ob.row k y]:=by rw[h]
theorem I_SpotsOf (l:TLevel) (hg:Enc.gd l) (hl:levelOk l=true):Co 245 [] [ag l] [.row 1 (els (spotsM l))] (Aqg 0):=by
 have hc:=Xv l hg
 rw[hl] at hc
 have hlr:=Y7 l.Rows
 obtain⟨l3,l12,w,w4,w20,hw⟩:=Zp hl
 have hrl:=rowSp_len hw
 refine Con.o func245 ntmps245 fun E=>?_;refine Wz [43,16,7] ?_;refine kc0 hc ?_;refine Wz [6,28,23,4,109,138,34] ?_
 refine AWP.pre ?_ (W_nil 3 1 J)
 refine A_lt l.Rows.length (fun r => [(1,Aqf 0),(3,Aqg 1),(11,L l.Rows),(12,I (els l.Rows).length),(13,I r)]) (fun r => [.box (Aqi l),.row 1 (els (rowSp l.Rows r))]) (Yj [0,1] Aqb) ?_
 intro m_A r hk_A
 by_cases h3:r<l.Rows.length
 ·have hb0:decide ((r:Int)<(els l.Rows).length)=true:=Gqb Aqa 
  have hat:=Y4 h3
  have hwr:=hw r h3
  have hrow:=Gqg h3
  generalize l.Rows[r]=row at hat hwr hrow
  have hr1:=hrl r
  have hr2:r*w≤12*20:=Nat.mul_le_mul Aqa w20
  refine Wz [3,19,1,4,117,9,11,100,26,8,51] ?_;refine A_lt row.size (fun c => [(1,Aqf 0),(3,Aqg 1),(4,I r),(5,S row),(6,I c),(11,L l.Rows),(12,I (els l.Rows).length),(13,I r)]) (fun c => [.box (Aqi l),.row 1 (els (rowSp l.Rows r++colSp row r c))]) (Yk [0,1] Aqc J (row2w (by rw[colSp,Gqy])) (.c J (.c J (.c J (.c J (.c J (.c J (.c J (.c J (.nil)))))))))) ?_
  intro m_D c hk_D
  have hcl:=colSp_len row r c
  have hel:=Y7 (rowSp l.Rows r++colSp row r c)
  rw[Gql] at hel
  by_cases h4:c<row.size
  ·have hb1:decide ((c:Int)<row.size)=true:=Gqb Aqa 
   have hbt:=Yy row c
   have hbt2:=Yy row (c:Int).toNat
   by_cases ho:byteAt row c=111
   ·have hb2:decide (byteAt row (c:Int).toNat=111)=true:=Gqb ho
    refine Wz [15,38,77,10,168,282,32,27,0,144,13,0,144,13,116] ?_;refine AL.weak (Wk.sbrow (q:=2) (es:=els [(c:Int)*16+4,(r:Int)*16+4]) J J (Gqx J)) ?_;refine Wz [116,122,110] ?_
    exact .t (c+1) (Yk [0,1] Aqc J (row2w (sp_hit ho Aqa Aqa)) (.c J (.c J (.c J (.c J (.c J (.c J (.c J (.c J (.nil))))))))))
   ·have hb2:decide (byteAt row (c:Int).toNat=111)=false:=Gqa ho
    refine Wz [15,38,77,10,172,20,81] ?_
    exact .t (c+1) (by rw[sp_skip ho]; exact Yj [0,1] Aqb)
  ·have hb1:decide ((c:Int)<row.size)=false:=Gqa Aqa 
   have hk:c=row.size:=Aqa
   refine Wz [15,38,92,180,181,104] ?_
   exact .t (r+1) (by rw[sp_row hrow,hk]; exact Yj [0,1] Aqb)
 ·have hb0:decide ((r:Int)<(els l.Rows).length)=false:=Gqa Aqa 
  have hk:r=l.Rows.length:=Aqa
  refine Wz [3,19,1,4,90,74] ?_
  exact Xp J J (Yh [1] Aqc J (by rw[spotsM,←hk]; rfl) J)
theorem S_SpotsOf (l:TLevel) (hg:Enc.gd l) (hl:levelOk l=true):Co 257 [] [ag l] [.row 1 (els (spotsM l))] (Aqg 0):=by
 have hc:=S_LevelOk l hg
 rw[hl] at hc
 have hlr:=Y7 l.Rows
 obtain⟨l3,l12,w,w4,w20,hw⟩:=Zp hl
 have hrl:=rowSp_len hw
 refine Con.o func257 ntmps257 fun E=>?_;refine Wz [96,3,184,16,51] ?_;refine A_lt l.Rows.length (fun r => [(1,Aqf 0),(3,Aqg 1),(4,I r)]) (fun r => [.box (Aqi l),.row 1 (els (rowSp l.Rows r))]) (Yj [0,1] Aqb) ?_
 intro m_A r hk_A
 by_cases h3:r<l.Rows.length
 ·have hb0:decide ((r:Int)<(els l.Rows).length)=true:=Gqb Aqa 
  have hat:=Y4 h3
  have hwr:=hw r h3
  have hrow:=Gqg h3
  generalize l.Rows[r]=row at hat hwr hrow
  have hr1:=hrl r
  have hr2:r*w≤12*20:=Nat.mul_le_mul Aqa w20
  refine Wz [41,105,19,21,85,2] ?_;refine kc0 hc ?_;refine Wz [83,9,51] ?_;refine A_lt row.size (fun c => [(1,Aqf 0),(3,Aqg 1),(4,I r),(5,I c)]) (fun c => [.box (Aqi l),.row 1 (els (rowSp l.Rows r++colSp row r c))]) (Yk [0,1] Aqc J (row2w (by rw[colSp,Gqy])) (.c J (.c J (.c J (.c J (.nil)))))) ?_
  intro m_D c hk_D
  have hcl:=colSp_len row r c
  have hel:=Y7 (rowSp l.Rows r++colSp row r c)
  rw[Gql] at hel
  by_cases h4:c<row.size
  ·have hb1:decide ((c:Int)<row.size)=true:=Gqb Aqa 
   have hbt:=Yy row c
   have hbt2:=Yy row (c:Int).toNat
   by_cases ho:byteAt row c=111
   ·have hb2:decide (byteAt row (c:Int).toNat=111)=true:=Gqb ho
    refine Wz [41,68,100,38,77,65,158,48,168,282,32,27,0,144,13,0,144,13,116] ?_;refine AL.weak (Wk.sbrow (q:=2) (es:=els [16*(c:Int)+4,16*(r:Int)+4]) J J (Gqx J)) ?_;refine Wz [116,122,110] ?_
    exact .t (c+1) (Yk [0,1] Aqc J (row2w (sp_hit ho Aqa Aqa)) (.c J (.c J (.c J (.c J (.nil))))))
   ·have hb2:decide (byteAt row (c:Int).toNat=111)=false:=Gqa ho
    refine Wz [41,68,100,38,77,65,158,48,172,20,81] ?_
    exact .t (c+1) (by rw[sp_skip ho]; exact Yj [0,1] Aqb)
  ·have hb1:decide ((c:Int)<row.size)=false:=Gqa Aqa 
   have hk:c=row.size:=Aqa
   refine Wz [41,68,100,38,92,180,181,226] ?_
   exact .t (r+1) (by rw[sp_row hrow,hk]; exact Yj [0,1] Aqb)
 ·have hb0:decide ((r:Int)<(els l.Rows).length)=false:=Gqa Aqa 
  have hk:r=l.Rows.length:=Aqa
  refine Wz [41,105,19,0,87,5,165,74] ?_
  exact Xp J J (Yh [1] Aqc J (by rw[spotsM,←hk]; rfl) J)
end
section
open Go.RowKit

def tick1 (b:TBody):TBody:=⟨b.Kind,b.Owner,b.X,b.Y,b.VX,b.VY,b.Aim,b.Life,b.Timer-1⟩
noncomputable def plOne (l:TLevel) (i:Int) (k:Nat) (bs:List TBody) (b:TBody):List TBody :=
 if b.Life=0 then bs.set k (if b.Timer-1=0 then fresh l k else tick1 b)
 else if (steer l b i).2=true∧bs.length<24 then bs.set k (steer l b i).1 ++ [shotOf (steer l b i).1] else bs.set k (steer l b i).1
noncomputable def plM (l:TLevel) (row:List Int) (bs:List TBody):Nat→List TBody
 |0=>bs
 |k+1=>match (plM l row bs k)[k]? with
  |none=>plM l row bs k
  |some b=>plOne l (row.getD k 0) k (plM l row bs k) b
structure BM (l:TLevel) (n:Nat) (b:TBody):Prop where
 k:0≤b.Kind∧b.Kind≤2
 o:0≤b.Owner∧b.Owner<n
 p:solidM l b.X b.Y (sizeOf b.Kind)=false
 vx : -15≤b.VX∧b.VX≤15
 vy : -15≤b.VY∧b.VY≤15
 f:0≤b.Life∧b.Life≤3
structure LM (l:TLevel) (n:Nat) (bs:List TBody):Prop where
 len:n≤bs.length∧bs.length≤24
 at_:∀ k b,bs[k]? = some b→BM l n b∧(b.Kind=0↔k<n)
structure PlI (l:TLevel) (n k:Nat) (b:TBody):Prop where
 kd:b.Kind=0
 ow:b.Owner=k
 am:b.Aim=1∨b.Aim = -1
 tm:0≤b.Timer∧b.Timer≤20
 dd:b.Life=0→1≤b.Timer
 bm:bodyM l (b.Owner+1) b=true
theorem body_facts {l:TLevel} {n k:Nat} {b:TBody} (h:bodyAt l n k b=true):BM l n b∧(b.Kind=0↔k<n)∧(0≤b.Timer∧b.Timer≤25)∧(k<n→PlI l n k b):=by
 unfold bodyAt at h
 rw[Gqh] at h
 obtain⟨h1,h2⟩:=h
 have h1':=h1
 simp only[bodyM,Gqh,Gq6,Zm] at h1
 obtain⟨hk,ho,hp,hvx,hvy,ht⟩:=h1
 have hbm:bodyM l (b.Owner+1) b=true:=by
  simp only[bodyM,Gqh,Gq6,Zm]
  exact⟨hk,⟨ho.1,Aqa⟩,hp,hvx,hvy,ht⟩
 unfold tailM at ht
 by_cases hkn:k<n
 ·rw[if_pos hkn,decide_eq_true_eq] at h2
  rw[if_pos h2.1,Gqh,Gqh,decide_eq_true_eq,Zm] at ht
  obtain⟨⟨ha,hf⟩,htm⟩:=ht
  have htt:(0≤b.Timer∧b.Timer≤20)∧(b.Life=0→1≤b.Timer):=by
   split at htm
   ·have:=Zm.1 htm; exact⟨Aqa,fun _=>this.1⟩
   ·have:=Zm.1 htm; exact⟨Aqa,fun h=>absurd h Aqe⟩
  exact⟨⟨hk,⟨ho.1,Aqa⟩,hp,hvx,hvy,hf⟩,⟨fun _=>hkn,fun _=>h2.1⟩,Aqa,fun _=>⟨h2.1,h2.2,ha,htt.1,htt.2,hbm⟩⟩
 ·rw[if_neg hkn,decide_eq_true_eq] at h2
  rw[if_neg h2] at ht
  have htt:(0≤b.Life∧b.Life≤3)∧(0≤b.Timer∧b.Timer≤25):=by
   split at ht
   ·rw[Gqh,decide_eq_true_eq,Zm] at ht; omega
   ·rw[decide_eq_true_eq] at ht; omega
  exact⟨⟨hk,⟨ho.1,Aqa⟩,hp,hvx,hvy,htt.1⟩,⟨fun h=>absurd h h2,fun h=>absurd h hkn⟩,htt.2,fun h=>absurd h hkn⟩
theorem LM.set {l:TLevel} {n k:Nat} {bs:List TBody} {b b':TBody} (h:LM l n bs) (hb:bs[k]? = some b) (h1:BM l n b') (h2:b'.Kind=b.Kind):LM l n (bs.set k b'):=by
 refine⟨by rw[Gqu]; exact h.len,fun j c hc=>?_⟩
 rw[List.getElem?_set] at hc
 split at hc
 ·rename_i e
  subst e
  split at hc
  ·cases hc; exact⟨h1,by rw[h2]; exact (h.at_ _ _ hb).2⟩
  ·cases hc
 ·exact h.at_ _ _ hc
theorem LM.app {l:TLevel} {n:Nat} {bs:List TBody} {c:TBody} (h:LM l n bs) (hl:bs.length<24) (h1:BM l n c) (h2:c.Kind≠0):LM l n (bs ++ [c]):=by
 have:=h.len
 refine⟨by rw[Gql]; simp; omega,fun j d hd=>?_⟩
 rw[List.getElem?_append] at hd
 split at hd
 ·exact h.at_ _ _ hd
 ·rename_i hj
  have hj2:=Zj hd
  simp only[List.length_singleton] at hj2
  have:j=bs.length:=Aqa
  subst this
  simp only[Gx8,Gxf,Option.some.injEq] at hd
  subst hd
  exact⟨h1,fun h=>absurd h h2,fun h=>by omega⟩
theorem shot_free {l:TLevel} {x y:Int} (h:solidM l x y 12=false):solidM l (x+4) (y+4) 4=false:=by
 refine solidM_F fun ⟨r,c,h1,h2,h3,h4,hw⟩ => ?_
 have:hits l x y 12:=⟨r,c,Aqa,Aqa,Aqa,Aqa,hw⟩
 rw[V8 this] at h
 cases h
theorem steer_aim {l:TLevel} {b:TBody} {i:Int} (h:b.Aim=1∨b.Aim = -1):(steer l b i).1.Aim=1∨(steer l b i).1.Aim = -1:=by
 simp only[steer]
 split
 ·exact .inr rfl
 ·split
  ·exact .inl rfl
  ·exact h
theorem steer_time {l:TLevel} {b:TBody} {i:Int} (h:0≤b.Timer∧b.Timer≤20):0≤(steer l b i).1.Timer∧(steer l b i).1.Timer≤20:=by
 simp only[steer]
 split
 ·omega
 ·split <;> omega
theorem BM.steer {l:TLevel} {n:Nat} {b:TBody} (h:BM l n b) (i:Int):BM l n (steer l b i).1:=by
 obtain⟨hk,ho,hp,hvx,hvy,hf⟩:=h
 refine⟨hk,ho,hp,?_,?_,hf⟩
 ·simp only[Go.Proofs.YtalaljeokcpfnaaGreat.steer]
  split
  ·omega
  ·split <;> omega
 ·simp only[Go.Proofs.YtalaljeokcpfnaaGreat.steer]
  split
  ·omega
  ·rw[Int.min_def]; split <;> omega
theorem BM.shot {l:TLevel} {n:Nat} {b:TBody} (h:BM l n b) (hk:b.Kind=0) (ha:b.Aim=1∨b.Aim = -1):BM l n (shotOf b) :=
 ⟨by simp[shotOf],h.o,by have:=h.p; rw[hk] at this; exact shot_free this,by simp only[shotOf]; omega,by simp[shotOf],by simp[shotOf]⟩
theorem BM.fresh {l:TLevel} (hl:levelOk l=true) {n k:Nat} (hk:k<n) (hn:n≤4):BM l n (fresh l k):=by
 obtain⟨h1,h2,h3⟩:=fresh_free hl (p:=(k:Int)) ⟨Aqa,Aqa⟩
 exact⟨by simp[Go.Proofs.YtalaljeokcpfnaaGreat.fresh],by simp only[Go.Proofs.YtalaljeokcpfnaaGreat.fresh]; omega,h1,by simp[Go.Proofs.YtalaljeokcpfnaaGreat.fresh],by simp[Go.Proofs.YtalaljeokcpfnaaGreat.fresh],by simp[Go.Proofs.YtalaljeokcpfnaaGreat.fresh]⟩
theorem BM.placed {l:TLevel} (hl:levelOk l=true) {n:Nat} {b:TBody} (h:BM l n b):Placed b∧(b.X≤400∧b.Y≤400):=by
 have hs:=size_pos h.k
 have:=Kg hl ⟨Aqa,Aqa⟩ h.p
 exact⟨⟨h.k,Aqa,Aqa⟩,Aqa⟩
structure P1 (l:TLevel) (n:Nat) (bs0 bs:List TBody) (k:Nat):Prop where
 lm:LM l n bs
 old:∀ j,k≤j→j<n→bs[j]? = bs0[j]?
 tm:∀ b∈bs,0≤b.Timer∧b.Timer≤25
theorem P1.start {l:TLevel} {n:Nat} {bs:List TBody} (h1:n≤bs.length∧bs.length≤24) (h:bodiesOk l n bs):P1 l n bs bs 0:=by
 have hat:∀ k b,bs[k]? = some b→bodyAt l n k b=true:=fun k b hb=>by
  obtain⟨h2,rfl⟩:=Gqo.1 hb
  exact h k h2
 refine⟨⟨h1,fun k b hb=>?_⟩,fun _ _ _=>rfl,fun b hb=>?_⟩
 ·have:=body_facts (hat k b hb); exact⟨this.1,this.2.1⟩
 ·obtain⟨k,hk⟩:=List.getElem?_of_mem hb
  exact (body_facts (hat k b hk)).2.2.1
theorem old_at {l:TLevel} {n k:Nat} {bs:List TBody} {b:TBody} (h:bodiesOk l n bs) (hb:bs[k]? = some b) (hk:k<n):PlI l n k b:=by
 obtain⟨h2,rfl⟩:=Gqo.1 hb
 exact (body_facts (h k h2)).2.2.2 hk
section
variable {l:TLevel} {n k:Nat} {bs0 bs:List TBody} {b b':TBody}
theorem P1.set (h:P1 l n bs0 bs k) (hb:bs[k]? = some b) (h1:BM l n b') (h2:b'.Kind=b.Kind) (ht:0≤b'.Timer∧b'.Timer≤25):P1 l n bs0 (bs.set k b') (k+1) :=
 ⟨h.lm.set hb h1 h2,fun j hj hn=>by rw[Gxa Aqa]; exact h.old j Aqa hn,fun c hc=>by
  rcases Gxv hc with h3 | h3
  ·exact h.tm c h3
  ·subst h3; exact ht⟩
theorem P1.app (h:P1 l n bs0 bs k) (hl:bs.length<24) {c:TBody} (h1:BM l n c) (h2:c.Kind≠0) (ht:0≤c.Timer∧c.Timer≤25):P1 l n bs0 (bs ++ [c]) k :=
 ⟨h.lm.app hl h1 h2,fun j hj hn=>by have:=h.lm.len; rw[Gq2 Aqa]; exact h.old j hj hn,fun d hd=>by
  rcases Gqs.1 hd with h3 | h3
  ·exact h.tm d h3
  ·rw[Gxd] at h3; subst h3; exact ht⟩
end
theorem P1.one {l:TLevel} (hl:levelOk l=true) {n k:Nat} (hn:n≤4) {bs0 bs:List TBody} {b:TBody} (h:P1 l n bs0 bs k) (hk:k<n) (hb:bs[k]? = some b) (hI:PlI l n k b) (i:Int):P1 l n bs0 (plOne l i k bs b) (k+1):=by
 have hB:=(h.lm.at_ k b hb).1
 unfold plOne
 split
 ·split
  ·exact h.set hb (BM.fresh hl hk hn) (by rw[hI.kd]; rfl) (by simp[fresh])
  ·rename_i hf ht
   have:=hI.dd hf
   have:=hI.tm
   exact h.set hb ⟨hB.k,hB.o,hB.p,hB.vx,hB.vy,hB.f⟩ J (by simp only[tick1]; omega)
 ·have hs:=steer_time (l:=l) (i:=i) hI.tm
  have h1:=h.set hb (hB.steer i) (by rfl) ⟨hs.1,Aqa⟩
  split
  ·rename_i hc
   exact h1.app (by rw[Gqu]; exact hc.2) ((hB.steer i).shot hI.kd (steer_aim hI.am)) (by simp[shotOf]) (by simp[shotOf])
  ·exact h1
theorem P1.all {l:TLevel} (hl:levelOk l=true) {n:Nat} (hn:n≤4) {bs:List TBody} (h1:n≤bs.length∧bs.length≤24) (h:bodiesOk l n bs) (row:List Int):∀ k,k≤n→P1 l n bs (plM l row bs k) k
 |0,_=>P1.start h1 h
 |k+1,hk=>by
  have hp:=P1.all hl hn h1 h row k Aqa 
  have hlk:k<(plM l row bs k).length:=by have:=hp.lm.len; omega
  obtain⟨b,hb⟩:=Ua hlk
  have ho:=hp.old k (Gqi _) Aqa 
  rw[plM,hb]
  exact hp.one hl hn Aqa hb (old_at h (by rw[←ho]; exact hb) Aqa) _

/-! ### Moving -/
noncomputable def mvOne (l:TLevel) (b:TBody):Option TBody :=
 if b.Kind=0∧0<b.Life then some (moveM l b).1
 else if b.Kind=1 then if (moveM l b).2=true∨b.Timer-1=0 then none else some (tick1 (moveM l b).1)
 else some b
noncomputable def mvM (l:TLevel) (bs:List TBody):List TBody:=bs.filterMap (mvOne l)
theorem BM.move {l:TLevel} {n:Nat} {b:TBody} (h:BM l n b):BM l n (moveM l b).1:=by
 obtain⟨hk,ho,hp,hvx,hvy,hf⟩:=h
 have h1:solidM l (moveX l b).1 b.Y (sizeOf b.Kind)=false:=V7 (hit:=fun x=>solidM l x b.Y (sizeOf b.Kind)) _ _ hp
 have h2:solidM l (moveX l b).1 (moveY l b).1 (sizeOf b.Kind)=false:=V7 (hit:=fun y=>solidM l (moveX l b).1 y (sizeOf b.Kind)) _ _ h1
 refine⟨hk,ho,h2,?_,?_,hf⟩
 ·simp only[moveM]; split <;> omega
 ·simp only[moveM]; split <;> omega
theorem mvOne_ok {l:TLevel} {n:Nat} {b c:TBody} (h:BM l n b) (hc:mvOne l b=some c):BM l n c∧c.Kind=b.Kind:=by
 unfold mvOne at hc
 split at hc
 ·cases hc; exact⟨h.move,rfl⟩
 ·split at hc
  ·split at hc
   ·cases hc
   ·cases hc
    have:=h.move
    exact⟨⟨this.k,this.o,this.p,this.vx,this.vy,this.f⟩,J⟩
  ·cases hc; exact⟨h,rfl⟩
theorem mvOne_pl {l:TLevel} {b:TBody} (h:b.Kind=0):∃ c,mvOne l b=some c:=by
 unfold mvOne
 split
 ·exact⟨_,rfl⟩
 ·rw[if_neg Aqa]; exact⟨_,rfl⟩
theorem fmap_len {α β:Type} {f:α→Option β}:∀ (xs:List α),(∀ x∈xs,∃ y,f x=some y)→(xs.filterMap f).length=xs.length
 | [],_=>rfl
 |x::xs,h=>by
  obtain⟨y,hy⟩:=h x Aqd 
  rw[List.filterMap_cons,hy]
  simp only[Gqw]
  rw[fmap_len xs fun z hz=>h z (by simp[hz])]
theorem LM.move {l:TLevel} {n:Nat} {bs:List TBody} (h:LM l n bs):LM l n (mvM l bs):=by
 have hlen:=h.len
 have hA:∀ a∈bs.take n,BM l n a∧a.Kind=0:=fun a ha=>by
  obtain⟨j,hj⟩:=List.getElem?_of_mem ha
  rw[Gxh] at hj
  split at hj
  ·have:=h.at_ _ _ hj; exact⟨this.1,this.2.2 Aqe⟩
  ·cases hj
 have hB:∀ a∈bs.drop n,BM l n a∧a.Kind≠0:=fun a ha=>by
  obtain⟨j,hj⟩:=List.getElem?_of_mem ha
  rw[Gq7] at hj
  have:=h.at_ _ _ hj
  exact⟨this.1,fun e=>by have:=this.2.1 e; omega⟩
 have hs:mvM l bs=(bs.take n).filterMap (mvOne l)++(bs.drop n).filterMap (mvOne l):=by
  rw[mvM,←List.filterMap_append,Gxq]
 have hl1:((bs.take n).filterMap (mvOne l)).length=n:=by
  rw[fmap_len _ fun a ha=>mvOne_pl (hA a ha).2,Gq4]; omega
 have hl2:=List.length_filterMap_le (mvOne l) (bs.drop n)
 rw[Gq9] at hl2
 rw[hs]
 refine⟨by rw[Gql,hl1]; omega,fun k b hb=>?_⟩
 rw[List.getElem?_append,hl1] at hb
 split at hb
 ·obtain⟨a,ha,hab⟩:=List.mem_filterMap.1 (Gqn hb)
  have h1:=hA a ha
  have h2:=mvOne_ok h1.1 hab
  exact⟨h2.1,fun _=>by assumption,fun _=>by rw[h2.2,h1.2]⟩
 ·obtain⟨a,ha,hab⟩:=List.mem_filterMap.1 (Gqn hb)
  have h1:=hB a ha
  have h2:=mvOne_ok h1.1 hab
  exact⟨h2.1,fun e=>absurd (by rw[←h2.2]; exact e) h1.2,fun e=>absurd e Aqe⟩
theorem mv_next {l:TLevel} {bs:List TBody} {k:Nat} {b:TBody} (h:bs[k]? = some b):(bs.take (k+1)).filterMap (mvOne l)=(bs.take k).filterMap (mvOne l)++(mvOne l b).toList:=by
 obtain⟨hk,rfl⟩:=Gqo.1 h
 rw[Gxb hk,List.filterMap_append]
 congr 1
end
end Go.Proofs.YtalaljeokcpfnaaGreat
