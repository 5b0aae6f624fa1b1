/-
  Rules, data and contracts of functions: part 22 of the proof.
  Conditions: those that each theorem names.
-/
import Derived.Test.YtoecjaohdnoenaaGreatDDJoinRowk19
import Derived.Test.YtoecjaohdnoenaaGreatDDJoinRowk20
set_option linter.unusedSimpArgs false
set_option linter.unusedVariables false
set_option maxRecDepth 8000
set_option maxHeartbeats 8000000
namespace Go.Proofs.YtoecjaohdnoenaaGreat
section
open Go.RowKit

theorem W_pre {st st':St} {f:List (Nat×V)→St} (h:Wk st st') (k:∃ l,Wk st' (f l)):∃ l,Wk st (f l):=k.imp fun _ hl=>h.trans hl
theorem row2b {k:Nat} {o:Ob} {a b:List (List T)} (h:a=b) : [o,Ob.row k a] = [o,Ob.row k b]:=by rw[h]
def bodyInts (b:TBody):List Int := [b.Kind,b.Owner,b.X,b.Y,b.VX,b.VY,b.Aim,b.Life,b.Timer]
def worldInts (w:TWorld):List Int:=([w.Tick,w.Seed,(w.Scores.length:Int)]++w.Scores)++w.Bodies.flatMap bodyInts
noncomputable def worldBytes (w:TWorld):ByteArray:=if worldOk w=true then packInts (worldInts w) else ⟨#[]⟩
theorem Yb {α:Type} [Enc α] (xs ys:List α):els (xs++ys)=els xs++els ys:=List.map_append
theorem flat_snoc {bs:List TBody} {k:Nat} (h:k<bs.length):(bs.take (k+1)).flatMap bodyInts=(bs.take k).flatMap bodyInts++bodyInts bs[k]:=by
 rw[Gxn h,List.flatMap_append]
 simp
theorem flat_len (bs:List TBody):∀ k,k≤bs.length→((bs.take k).flatMap bodyInts).length=9*k
 |0,_=>by simp
 |k+1,h=>by
  rw[flat_snoc (by omega),Gqr,flat_len bs k (by omega)]
  simp[bodyInts]
  omega
theorem flat_gd {bs:List TBody} (hg:∀ b∈bs,Enc.gd b):∀ x∈bs.flatMap bodyInts,I64 x:=fun x hx=>by
 obtain⟨b,hb,hx⟩:=List.mem_flatMap.1 hx
 obtain⟨b1,b2,b3,b4,b5,b6,b7,b8,b9⟩:=hg b hb
 simp only[bodyInts,List.mem_cons,Gxs,or_false] at hx
 rcases hx with rfl | rfl | rfl | rfl | rfl | rfl | rfl | rfl | rfl <;> assumption
theorem I_bodyInts (b:TBody):Con Tryz.prog 261 [] [ag b] [.row 1 (els (bodyInts b))] (.o (.c (.ref 0))):=by
 refine Con.of Tryz.func261 J Tryz.ntmps261 J (fun E => ?_)
 refine Wz [47,1,184,184,184,184,18,136,52] ?_
 exact Xk J J (W_pre (Wk.sbrow (q:=1) J J (Gqw J)) (Xw [1] (by decide) J J J))
theorem I_WorldBytes (x:TWorld) (hg:Enc.gd x):Con Tryz.prog 222 [] [ag x] [] (S (worldBytes x)):=by
 have hc:=I_WorldOk x hg
 obtain⟨gL,gT,gS,gSc,gB⟩:=hg
 cases ho:worldOk x with
 |false =>
  rw[ho] at hc
  rw[show worldBytes x=⟨#[]⟩ by rw[worldBytes,ho]; exact if_neg (by decide)]
  refine Con.of Tryz.func222 J Tryz.ntmps222 J (fun E => ?_)
  refine Wz [124,36,53] ?_;refine zx (Qj J J (hc) J) J ?_;refine Wz [3,23] ?_
  exact Xk J J (Xw [] (by decide) J J J)
 | true =>
  rw[ho] at hc
  rw[show worldBytes x=packInts (worldInts x) by rw[worldBytes,ho]; exact if_pos rfl]
  obtain⟨_,_,_,hn,_,hb,_⟩:=Kr ho
  have hls:=Yf x.Scores
  have hlb:=Yf x.Bodies
  refine Con.of Tryz.func222 J Tryz.ntmps222 J (fun E => ?_)
  refine Wz [124,36,53] ?_;refine zx (Qj J J (hc) J) J ?_;refine Wz [3,54,1,184,67,136,19,18] ?_
  have hl3:(els [x.Tick,x.Seed,((els x.Scores).length:Int)]).length=3:=rfl
  refine AL.weak (Wk.sbrow (q:=1) (es:=els [x.Tick,x.Seed,((els x.Scores).length:Int)]) J J (Gqw J)) ?_;refine AL.weak (st':=(⟨_,[(1,.o (.c (.ptr 0 0))),(17,.o (.c (.ref 1))),(19,L x.Scores)],[.box ((Enc.e x).map (V1.rd [])),.row 1 (els [x.Tick,x.Seed,((els x.Scores).length:Int)])]⟩:St)) (Xy [0,1] (by kernel_rfl)) ?_;refine M_app J J J J J J J J J J (Yg _) (Ye _) (by omega) (by omega) ?_;refine Wz [36,18,123,102] ?_
  have hini:els (([x.Tick,x.Seed,(x.Scores.length:Int)]++x.Scores)++(x.Bodies.take 0).flatMap bodyInts)=els [x.Tick,x.Seed,((els x.Scores).length:Int)]++els x.Scores:=by rw[List.take_zero,List.flatMap_nil,Gqz,Yb,hls]
  refine Xf (fun m st=>∃ k:Nat,k+m=x.Bodies.length∧(True)∧st=(⟨_,[(1,.o (.c (.ptr 0 0))),(3,.o (.c (.ref 1))),(22,L x.Bodies),(23,I (els x.Bodies).length),(24,I k)],[.box ((Enc.e x).map (V1.rd [])),.row 1 (els (([x.Tick,x.Seed,(x.Scores.length:Int)]++x.Scores)++(x.Bodies.take k).flatMap bodyInts))]⟩:St)) (x.Bodies.length) ⟨(fun k:Nat=>(⟨_,[(1,.o (.c (.ptr 0 0))),(3,.o (.c (.ref 1))),(22,L x.Bodies),(23,I (els x.Bodies).length),(24,I k)],[.box ((Enc.e x).map (V1.rd [])),.row 1 (els (([x.Tick,x.Seed,(x.Scores.length:Int)]++x.Scores)++(x.Bodies.take k).flatMap bodyInts))]⟩:St)) 0,⟨0,by omega,trivial,J⟩,Xz [0,1] (by decide) J (row2b hini) (.c J (.c J (.c J (.c J (.c J (.nil))))))⟩ ?_
  rintro m_A _ ⟨k,hk_A,hp_A,rfl⟩
  have hla:=Yf (([x.Tick,x.Seed,(x.Scores.length:Int)]++x.Scores)++(x.Bodies.take k).flatMap bodyInts)
  have hfl:=flat_len x.Bodies k (by omega)
  have hlc:(([x.Tick,x.Seed,(x.Scores.length:Int)]++x.Scores)++(x.Bodies.take k).flatMap bodyInts).length=3+x.Scores.length+9*k:=by
   rw[Gqr,Gqr,hfl]; rfl
  refine Wz [1,38,20] ?_
  refine Q9 J (fun h => ?_) (fun h => ?_)
  ·have h3:k<x.Bodies.length:=by have:=Gqc h; omega
   have hat:=Yc h3
   have hlb9:(els (bodyInts x.Bodies[k])).length=9:=rfl
   refine Wz [6,1,37,40,30,106,53] ?_;refine M1 (Zm J J (I_bodyInts x.Bodies[k]) J J J) J J ?_;refine M_app J J J J J J J J J J (Yg _) (Ye _) (by omega) (by omega) ?_;refine Wz [149,127,59,75,8,0,4] ?_
   exact⟨x.Bodies.length-(k+1),by omega,(fun k:Nat=>(⟨_,[(1,.o (.c (.ptr 0 0))),(3,.o (.c (.ref 1))),(22,L x.Bodies),(23,I (els x.Bodies).length),(24,I k)],[.box ((Enc.e x).map (V1.rd [])),.row 1 (els (([x.Tick,x.Seed,(x.Scores.length:Int)]++x.Scores)++(x.Bodies.take k).flatMap bodyInts))]⟩:St)) (k+1),⟨k+1,by omega,trivial,J⟩,Xz [0,1] (by decide) J (row2b (by rw[flat_snoc h3,←Gq9,Yb _ (bodyInts x.Bodies[k])])) (.c J (.c J (.c J (.c J (.c J (.nil))))))⟩
  ·have h3:¬k<x.Bodies.length:=by have:=Gqe h; omega
   have hk:x.Bodies.take k=x.Bodies:=Gqh (by omega)
   rw[hk] at hlc hla ⊢
   have hgi:Enc.gd (([x.Tick,x.Seed,(x.Scores.length:Int)]++x.Scores)++x.Bodies.flatMap bodyInts):=⟨by omega,fun y hy=>by
    rcases Gqs.1 hy with hy | hy
    ·rcases Gqs.1 hy with hy | hy
     ·simp only[List.mem_cons,Gxs,or_false] at hy
      rcases hy with rfl | rfl | rfl
      ·exact gT
      ·exact gS
      ·exact⟨by omega,by omega⟩
     ·exact gSc.2 y hy
    ·exact flat_gd gB.2 y hy⟩
   have hp:=I_PackInts (([x.Tick,x.Seed,(x.Scores.length:Int)]++x.Scores)++x.Bodies.flatMap bodyInts) hgi (by omega)
   refine Wz [16,9] ?_;refine zx (Qj J J (hp) J) J ?_;refine Wz [52] ?_
   exact Xk J J (Xw [] (by decide) J J J)
theorem S_WorldBytes (x:TWorld) (hg:Enc.gd x):Con Tryz.prog 220 [] [ag x] [] (S (worldBytes x)):=by
 have hc:=S_WorldOk x hg
 obtain⟨gL,gT,gS,gSc,gB⟩:=hg
 cases ho:worldOk x with
 |false =>
  rw[ho] at hc
  rw[show worldBytes x=⟨#[]⟩ by rw[worldBytes,ho]; exact if_neg (by decide)]
  refine Con.of Tryz.func220 J Tryz.ntmps220 J (fun E => ?_)
  refine Wz [124,36,53] ?_;refine zx (Qj J J (hc) J) J ?_;refine Wz [3,23] ?_
  exact Xk J J (Xw [] (by decide) J J J)
 | true =>
  rw[ho] at hc
  rw[show worldBytes x=packInts (worldInts x) by rw[worldBytes,ho]; exact if_pos rfl]
  obtain⟨_,_,_,hn,_,hb,_⟩:=Kr ho
  have hls:=Yf x.Scores
  have hlb:=Yf x.Bodies
  refine Con.of Tryz.func220 J Tryz.ntmps220 J (fun E => ?_)
  refine Wz [124,36,53] ?_;refine zx (Qj J J (hc) J) J ?_;refine Wz [3,54,1,184,67,136,18] ?_
  have hl3:(els [x.Tick,x.Seed,((els x.Scores).length:Int)]).length=3:=rfl
  refine AL.weak (Wk.sbrow (q:=1) (es:=els [x.Tick,x.Seed,((els x.Scores).length:Int)]) J J (Gqw J)) ?_;refine AL.weak (st':=(⟨_,[(1,.o (.c (.ptr 0 0))),(16,.o (.c (.ref 1))),(18,L x.Scores)],[.box ((Enc.e x).map (V1.rd [])),.row 1 (els [x.Tick,x.Seed,((els x.Scores).length:Int)])]⟩:St)) (Xy [0,1] (by kernel_rfl)) ?_;refine M_app J J J J J J J J J J (Yg _) (Ye _) (by omega) (by omega) ?_;refine Wz [130] ?_
  have hini:els (([x.Tick,x.Seed,(x.Scores.length:Int)]++x.Scores)++(x.Bodies.take 0).flatMap bodyInts)=els [x.Tick,x.Seed,((els x.Scores).length:Int)]++els x.Scores:=by rw[List.take_zero,List.flatMap_nil,Gqz,Yb,hls]
  refine Xf (fun m st=>∃ k:Nat,k+m=x.Bodies.length∧(True)∧st=(⟨_,[(1,.o (.c (.ptr 0 0))),(3,.o (.c (.ref 1))),(4,I k)],[.box ((Enc.e x).map (V1.rd [])),.row 1 (els (([x.Tick,x.Seed,(x.Scores.length:Int)]++x.Scores)++(x.Bodies.take k).flatMap bodyInts))]⟩:St)) (x.Bodies.length) ⟨(fun k:Nat=>(⟨_,[(1,.o (.c (.ptr 0 0))),(3,.o (.c (.ref 1))),(4,I k)],[.box ((Enc.e x).map (V1.rd [])),.row 1 (els (([x.Tick,x.Seed,(x.Scores.length:Int)]++x.Scores)++(x.Bodies.take k).flatMap bodyInts))]⟩:St)) 0,⟨0,by omega,trivial,J⟩,Xz [0,1] (by decide) J (row2b hini) (.c J (.c J (.c J (.nil))))⟩ ?_
  rintro m_A _ ⟨k,hk_A,hp_A,rfl⟩
  have hla:=Yf (([x.Tick,x.Seed,(x.Scores.length:Int)]++x.Scores)++(x.Bodies.take k).flatMap bodyInts)
  have hfl:=flat_len x.Bodies k (by omega)
  have hlc:(([x.Tick,x.Seed,(x.Scores.length:Int)]++x.Scores)++(x.Bodies.take k).flatMap bodyInts).length=3+x.Scores.length+9*k:=by
   rw[Gqr,Gqr,hfl]; rfl
  refine Wz [69,67,38] ?_
  refine Q9 J (fun h => ?_) (fun h => ?_)
  ·have h3:k<x.Bodies.length:=by have:=Gqc h; omega
   have hat:=Yc h3
   have hlb9:(els (bodyInts x.Bodies[k])).length=9:=rfl
   refine Wz [6,71,37,40,30,106,184,184,184,184,18,136,200,76] ?_
   exact⟨x.Bodies.length-(k+1),by omega,(fun k:Nat=>(⟨_,[(1,.o (.c (.ptr 0 0))),(3,.o (.c (.ref 1))),(4,I k)],[.box ((Enc.e x).map (V1.rd [])),.row 1 (els (([x.Tick,x.Seed,(x.Scores.length:Int)]++x.Scores)++(x.Bodies.take k).flatMap bodyInts))]⟩:St)) (k+1),⟨k+1,by omega,trivial,J⟩,Xz [0,1] (by decide) J (row2b (by rw[flat_snoc h3,←Gq9,Yb _ (bodyInts x.Bodies[k])]; rfl)) (.c J (.c J (.c J (.nil))))⟩
  ·have h3:¬k<x.Bodies.length:=by have:=Gqe h; omega
   have hk:x.Bodies.take k=x.Bodies:=Gqh (by omega)
   rw[hk] at hlc hla ⊢
   have hgi:Enc.gd (([x.Tick,x.Seed,(x.Scores.length:Int)]++x.Scores)++x.Bodies.flatMap bodyInts):=⟨by omega,fun y hy=>by
    rcases Gqs.1 hy with hy | hy
    ·rcases Gqs.1 hy with hy | hy
     ·simp only[List.mem_cons,Gxs,or_false] at hy
      rcases hy with rfl | rfl | rfl
      ·exact gT
      ·exact gS
      ·exact⟨by omega,by omega⟩
     ·exact gSc.2 y hy
    ·exact flat_gd gB.2 y hy⟩
   have hp:=S_PackInts (([x.Tick,x.Seed,(x.Scores.length:Int)]++x.Scores)++x.Bodies.flatMap bodyInts) hgi (by omega)
   refine Wz [16,9] ?_;refine zx (Qj J J (hp) J) J ?_;refine Wz [52] ?_
   exact Xk J J (Xw [] (by decide) J J J)
end
section
open Go.RowKit

theorem dvGo_some (s:ByteArray) (q:Nat):∀ (f k:Nat) (n m:Int) (j:Nat),0≤n→dvGo s q n k f=some (m,j)→0≤m∧m≤1099511627775∧k<j∧j≤k+f∧q+j≤s.size:=by
 intro f
 induction f with
 |zero=>intro k n m j _ h; simp[dvGo] at h
 | succ f ih =>
  intro k n m j h0 h
  have hb:=byteAt_lt s (q+k)
  rw[dvGo] at h
  have hp:(0:Int)≤byteAt s (q+k)%128*2 ^ (7*k):=Int.mul_nonneg (by omega) (Int.le_of_lt (Int.pow_pos (by omega)))
  split at h
  ·split at h
   ·have:=ih (k+1) _ m j (by omega) h
    omega
   ·split at h
    ·cases h
    ·simp only[Option.some.injEq,Prod.mk.injEq] at h
     obtain⟨rfl,rfl⟩:=h
     omega
  ·cases h
theorem Ya {s:ByteArray} {p m:Int} {j:Nat} (h:decVar s p=some (m,j)):0≤p∧0≤m∧m≤1099511627775∧1≤j∧j≤6∧p+j≤s.size:=by
 unfold decVar at h
 split at h
 ·have:=dvGo_some s p.toNat 6 0 0 m j (by omega) h
  omega
 ·cases h
theorem q_quoN {P:Program} {ops:Array Oper} {o:Oper} {st:St} {n:Nat} {t t':TypeId} {y z:Operand} {ps qs:List Nat} {i j r:Int} (ho:o.op = .binOp .quo t y z t') (hg:o.guard=none) (hy:st.ev y = .o (.c (.rd ps (.v (.int .i64 i))))) (hz:st.ev z = .o (.c (.rd qs (.v (.int .i64 j)))))
  (hr:i.tdiv j=r) (hb : -9223372036854775808≤i∧i≤9223372036854775807∧1≤j):Qt P ops o st (I r) [] n :=
 hr▸Zg ho hg hy hz fun w=>by
  have:j≠0:=by omega
  simp[binOp,Op.intDiv,this,IntWalk.i64_quo' _ _ hb]
def signed (n:Int):Int:=if 0≤n∧n≤1099511627775 then (if n%2=0 then n/2 else -((n+1)/2)) else 0
theorem signed_gd (n:Int):I64 (signed n):=by
 unfold signed
 split
 ·split <;> exact⟨by omega,by omega⟩
 ·exact⟨by omega,by omega⟩
theorem neg_tdiv {n:Int} (h:0≤n):(-(n+1)).tdiv 2 = -((n+1)/2):=by
 rw[Int.neg_tdiv,Int.tdiv_eq_ediv_of_nonneg (by omega)]
theorem I_Signed (n:Int) (hn:I64 n):Con Tryz.prog 295 [] [ai n] [] (I (signed n)):=by
 obtain⟨hn1,hn2⟩:=hn
 refine Con.of Tryz.func295 J Tryz.ntmps295 J (fun E => ?_)
 refine Wz [138,153,0,95,213,43] ?_
 refine Q9 J (fun h => ?_) (fun h => ?_)
 ·simp only[Gqo,decide_eq_true_eq] at h
  refine Wz [35] ?_
  exact Xk J J (Xw [] (by decide) J J (Xn (by rw[signed,if_neg (by omega)])))
 simp only[Gql,decide_eq_false_iff_not] at h
 have hv:=neg_tdiv (n:=n) (by omega)
 refine Wz [48,0,211,174,4] ?_
 refine Q9 J (fun h1 => ?_) (fun h1 => ?_)
 ·have h1:=Gqc h1
  refine Wz [9,173,72,31] ?_
  exact Xk J J (Xw [] (by decide) J J (Xn (by rw[signed,if_pos (by omega),if_pos (by omega)])))
 ·have h1:=Gqe h1
  refine Wz [64,9,8] ?_;refine zx (q_neg J J J (by omega)) J (zx (q_quoN J J J J (by assumption) (by omega)) J ?_);refine Wz [52] ?_
  exact Xk J J (Xw [] (by decide) J J (Xn (by rw[signed,if_pos (by omega),if_neg (by omega)])))
theorem S_Signed (n:Int) (hn:I64 n):Con Tryz.prog 292 [] [ai n] [] (I (signed n)):=by
 obtain⟨hn1,hn2⟩:=hn
 refine Con.of Tryz.func292 J Tryz.ntmps292 J (fun E => ?_)
 refine Wz [138] ?_;refine zx (Qj J J (Xv n 0 1099511627775) J) J ?_;refine Wz [3,4] ?_
 refine Q9 J (fun h => ?_) (fun h => ?_)
 ·have h:¬(0≤n∧n≤1099511627775):=by rw[←Yu]; simpa using h
  refine Wz [35] ?_
  exact Xk J J (Xw [] (by decide) J J (Xn (by rw[signed,if_neg h])))
 have h:0≤n∧n≤1099511627775:=by rw[←Yu]; simpa using h
 have hv:=neg_tdiv (n:=n) (by omega)
 have hm:n.toNat &&& (1:Int).toNat=n.toNat%2:=Gxt n.toNat 1
 refine Wz [48,0] ?_;refine zx (q_bandK J J J J (by assumption) (by omega)) J ?_;refine Wz [174,4] ?_
 refine Q9 J (fun h1 => ?_) (fun h1 => ?_)
 ·have h1:=Gqc h1
  refine Wz [9,8] ?_;refine zx (q_neg J J J (by omega)) J (zx (q_quoN J J J J (by assumption) (by omega)) J ?_);refine Wz [72,31] ?_
  exact Xk J J (Xw [] (by decide) J J (Xn (by rw[signed,if_pos (by omega),if_neg (by omega)])))
 ·have h1:=Gqe h1
  refine Wz [64,9,173,52] ?_
  exact Xk J J (Xw [] (by decide) J J (Xn (by rw[signed,if_pos (by omega),if_pos (by omega)])))
/-! ### Lists -/
def uiGo (s:ByteArray) (p:Nat):Nat→Nat→Option (List Int×Nat)
 |0,pos=>some ([],pos)
 |c+1,pos=>match decVar s ((p:Int)+(pos:Int)) with
  |none=>none
  |some (v,m)=>(uiGo s p c (pos+m)).map fun r=>(signed v::r.1,r.2)
def unpackInts (s:ByteArray) (p:Int):Option (List Int×Nat):=match decVar s p with
 |none=>none
 |some (n,k)=>uiGo s p.toNat n.toNat k
@[reducible] def uiO:Option (List Int×Nat)→List Ob
 |none => [.row 1 []]
 |some (l,_) => [.row 1 (els l)]
@[reducible] def uiR:Option (List Int×Nat)→V
 |none => .tu [.c (.ref 0),.c (jn 0),.c (bv false)]
 |some (_,k) => .tu [.c (.ref 0),.c (jn k),.c (bv true)]
theorem uiGo_some (s:ByteArray) (p:Nat):∀ (c pos:Nat) (l:List Int) (j:Nat),uiGo s p c pos=some (l,j)→l.length=c∧pos+c≤j∧(0<c→p+j≤s.size)∧(∀ x∈l,I64 x):=by
 intro c
 induction c with
 |zero =>
  intro pos l j h
  simp only[uiGo,Option.some.injEq,Prod.mk.injEq] at h
  obtain⟨rfl,rfl⟩:=h
  exact⟨J,by omega,fun h=>by omega,fun x hx=>by simp at hx⟩
 | succ c ih =>
  intro pos l j h
  rw[uiGo] at h
  split at h
  ·cases h
  ·rename_i v m hd
   obtain⟨r,h1,h2⟩:=Option.map_eq_some_iff.1 h
   simp only[Prod.mk.injEq] at h2
   obtain⟨rfl,rfl⟩:=h2
   have hm:=Ya hd
   obtain⟨a1,a2,a3,a4⟩:=ih (pos+m) r.1 r.2 h1
   refine⟨by simp[a1],by omega,fun _ => ?_,fun x hx => ?_⟩
   ·by_cases hc:0<c
    ·exact a3 hc
    ·have:c=0:=by omega
     subst this
     simp only[uiGo,Option.some.injEq] at h1
     rw[←h1]
     show p+(pos+m)≤s.size
     omega
   ·rcases List.mem_cons.1 hx with rfl | hx
    ·exact signed_gd v
    ·exact a4 x hx
theorem Kn {s:ByteArray} {p:Int} {l:List Int} {j:Nat} (h:unpackInts s p=some (l,j)):0≤p∧1≤j∧p+j≤s.size∧(l.length:Int)+1≤j∧(∀ x∈l,I64 x):=by
 unfold unpackInts at h
 split at h
 ·cases h
 ·rename_i n k hd
  have hm:=Ya hd
  obtain⟨a1,a2,a3,a4⟩:=uiGo_some s _ _ _ _ _ h
  refine⟨hm.1,by omega,?_,by omega,a4⟩
  by_cases hn:0<n.toNat
  ·have:=a3 hn; omega
  ·have h0:n.toNat=0:=by omega
   rw[h0] at h
   simp only[uiGo,Option.some.injEq,Prod.mk.injEq] at h
   omega
theorem els_snocI (acc:List Int) (v:Int):els (acc ++ [v])=els acc ++ [[.v (.int .i64 v)]]:=by simp[els,Enc.e]
theorem I_UnpackInts (s:ByteArray) (p:Int) (hs:s.size≤1099511627776) (hp:I64 p):Con Tryz.prog 259 [] [astr s,ai p] (uiO (unpackInts s p)) (uiR (unpackInts s p)):=by
 have hd:=I_DecodeVarint s p hs hp
 cases hv:decVar s p with
 |none =>
  rw[hv] at hd
  rw[show unpackInts s p=none by rw[unpackInts,hv]]
  refine Con.of Tryz.func259 J Tryz.ntmps259 J (fun E => ?_)
  refine Wz [1,60,5,7,244,134,135,155,60,46,3,0,91,91,28,17,1,60,72,31] ?_
  exact Xl J J J J (Xx [1] [0] J J (by decide) J J J)
 | some r =>
  obtain⟨n,k0⟩:=r
  rw[hv] at hd
  have hm:=Ya hv
  obtain⟨q,rfl⟩:∃ q:Nat,p=q:=⟨p.toNat,by omega⟩
  obtain⟨c,rfl⟩:∃ c:Nat,n=c:=⟨n.toNat,by omega⟩
  rw[show unpackInts s q=uiGo s q c k0 by rw[unpackInts,hv]; rfl]
  by_cases hbig:(s.size:Int)-q-k0<c
  ·have hb:decide ((s.size:Int)-q-k0<c)=true:=Gqb hbig
   have hno:uiGo s q c k0=none:=by
    cases ho:uiGo s q c k0 with
    |none=>rfl
    |some r =>
     have:=uiGo_some s q c k0 r.1 r.2 ho
     omega
   rw[hno]
   refine Con.of Tryz.func259 J Tryz.ntmps259 J (fun E => ?_)
   refine Wz [1,60,5,7,244,134,135,155,60,46,3,22,26,126,2,26,74,2,26,74,2,190,15,17,1,60,72,31] ?_
   exact Xl J J J J (Xx [1] [0] J J (by decide) J J J)
  have hb:decide ((s.size:Int)-q-k0<c)=false:=Gqa hbig
  refine Con.of Tryz.func259 J Tryz.ntmps259 J (fun E => ?_)
  refine Wz [1,60,5,7,244,134,135,155,60,46,3,22,26,126,2,26,74,2,26,74,2,190,15,54,9] ?_;refine M1 (q_makec 1 J J J J (by omega) (by omega) (by omega) (by omega) J (by simp)) J J ?_;refine Wz [130] ?_;refine Xf (fun m__ st=>∃ (k:Nat) (pos:Nat) (acc:List Int),c-k=m__∧(k≤c∧acc.length=k∧q+pos+(c-k)≤s.size+(c-k)∧q+pos≤s.size∧(uiGo s q (c-k) pos).map (fun r=>(acc++r.1,r.2))=uiGo s q c k0)∧st=(⟨_,[(0,S s),(1,I q),(7,I c),(8,I pos),(10,.o (.c (.ref 0))),(11,I k)],[.row 1 (els acc)]⟩:St)) _ ⟨_,⟨0,k0,[],J,⟨by omega,J,by omega,by omega,by simp⟩,J⟩,Xy [0] (by kernel_rfl)⟩ ?_
  rintro m_A _ ⟨k,pos,acc,hk_A,hp_A,rfl⟩
  obtain⟨hkc,hacc,_,hpos,hgo⟩:=hp_A
  have hla:=Yf acc
  rw[←hgo]
  refine Wz [25,38] ?_
  refine Q9 J (fun h => ?_) (fun h => ?_)
  ·have hlt:k<c:=by have:=Gqc h; omega
   have hd2:=I_DecodeVarint s ((q:Int)+(pos:Int)) hs ⟨by omega,by omega⟩
   obtain⟨f,hf⟩:∃ f,c-k=f+1:=⟨c-k-1,by omega⟩
   rw[hf]
   cases hv2:decVar s ((q:Int)+(pos:Int)) with
   |none =>
    rw[hv2] at hd2
    rw[show uiGo s q (f+1) pos=none by rw[uiGo,hv2]]
    refine Wz [6,157,8] ?_;refine M1 (Zm J J (hd2) J J J) J J ?_;refine Wz [134,135,155,60,46,3,17,1,60,72,82,139,31] ?_
    exact Xl J J J J (Xx [1] [1] J J (by decide) J J J)
   |some r =>
    obtain⟨v,m⟩:=r
    rw[hv2] at hd2
    have hm2:=Ya hv2
    have hsg:=I_Signed v ⟨by omega,by omega⟩
    refine Wz [6,157,8] ?_;refine M1 (Zm J J (hd2) J J J) J J ?_;refine Wz [134,135,155,60,46,3,54,7] ?_;refine zx (Qj J J (hsg) J) J ?_;refine Wz [136,200,5,78,8,76] ?_
    refine⟨_,(by omega),(fun (k:Nat) (pos:Nat) (acc:List Int)=>(⟨_,[(0,S s),(1,I q),(7,I c),(8,I pos),(10,.o (.c (.ref 0))),(11,I k)],[.row 1 (els acc)]⟩:St)) (k+1) (pos+m) (acc ++ [signed v]),⟨k+1,pos+m,acc ++ [signed v],J,⟨by omega,by simp[hacc],by omega,by omega,by rw[uiGo,hv2,show c-(k+1)=f by omega]; simp[Option.map_map]; rfl⟩,J⟩,Xz [0] (by decide) J (Kf (els_snocI acc _)) (.c J (.c J (.c J (.c J (.c J (.c J (.nil)))))))⟩
  ·have hkk:k=c:=by have:=Gqe h; omega
   subst hkk
   rw[show uiGo s q (k-k) pos=some ([],pos) by rw[Gxr]; rfl]
   refine Wz [16,7,60,52] ?_
   exact Xl J J J J (Xw [0] (by decide) J (Kf (by simp)) J)
theorem S_UnpackInts (s:ByteArray) (p:Int) (hs:s.size≤1099511627776) (hp:I64 p):Con Tryz.prog 257 [] [astr s,ai p] (uiO (unpackInts s p)) (uiR (unpackInts s p)):=by
 have hd:=S_DecodeVarint s p hs hp
 have h00:([]:List (List T)).length=0:=rfl
 cases hv:decVar s p with
 |none =>
  rw[hv] at hd
  rw[show unpackInts s p=none by rw[unpackInts,hv]]
  have hb0:decide ((0:Int)<0)=false:=rfl
  refine Con.of Tryz.func257 J Tryz.ntmps257 J (fun E => ?_)
  refine Wz [1,60,5,7,244,134,135,155,60,5,1,159,130] ?_;refine Xf (fun m st=>∃ k:Nat,k+m=1∧(k=0)∧st=(⟨_,[(7,I 0),(9,B false),(11,I k)],[]⟩:St)) (1) ⟨_,⟨0,by omega,J,J⟩,Xy [] (by kernel_rfl)⟩ ?_
  rintro m_A _ ⟨k,hk_A,hp_A,rfl⟩
  subst hp_A
  refine Wz [25,108,0,104,15,79,16,69,3,17,1,159,60,72,31] ?_
  exact Xl J J J J (Xw [0] (by decide) J J J)
 | some r =>
  obtain⟨n,k0⟩:=r
  rw[hv] at hd
  have hm:=Ya hv
  obtain⟨q,rfl⟩:∃ q:Nat,p=q:=⟨p.toNat,by omega⟩
  obtain⟨c,rfl⟩:∃ c:Nat,n=c:=⟨n.toNat,by omega⟩
  rw[show unpackInts s q=uiGo s q c k0 by rw[unpackInts,hv]; rfl]
  refine Con.of Tryz.func257 J Tryz.ntmps257 J (fun E => ?_)
  refine Wz [1,60,5,7,244,134,135,155,60,5,1,159,130] ?_;refine Xf (fun m__ st=>∃ (k:Nat) (pos:Nat) (acc:List Int) (ok:Bool),c+1-k=m__∧(k≤c+1∧acc.length=k∧k≤s.size+1∧(ok=true→k≤c∧k+1≤pos∧q+pos≤s.size∧(uiGo s q (c-k) pos).map (fun r=>(acc++r.1,r.2))=uiGo s q c k0)∧(ok=false→uiGo s q c k0=none)∧pos≤s.size)∧st=(⟨_,[(0,S s),(1,I q),(7,I c),(8,I pos),(9,B ok),(10,.o (.c (.ref 0))),(11,I k)],[.row 1 (els acc)]⟩:St)) _ ⟨_,⟨0,k0,[],true,J,⟨by omega,J,by omega,fun _=>⟨by omega,by omega,by omega,by simp⟩,fun e=>(by cases e),by omega⟩,J⟩,Xy [0] (by kernel_rfl)⟩ ?_
  rintro m_A _ ⟨k,pos,acc,ok,hk_A,hp_A,rfl⟩
  obtain⟨hkc,hacc,hks,hok,hno,hps⟩:=hp_A
  have hla:=Yf acc
  cases ok with
  | false =>
   rw[hno rfl]
   by_cases hlt:(k:Int)<c
   ·have hb:decide ((k:Int)<c)=true:=Gqb hlt
    refine Wz [25,108,26,0,28,79,16,69,3,17,1,159,60,72,31] ?_
    exact Xl J J J J (Xw [1] (by decide) J J J)
   ·have hb:decide ((k:Int)<c)=false:=Gqa hlt
    refine Wz [25,108,0,104,15,79,16,69,3,17,1,159,60,72,31] ?_
    exact Xl J J J J (Xw [1] (by decide) J J J)
  | true =>
   obtain⟨hkc2,hkp,hpos,hgo⟩:=hok rfl
   rw[←hgo]
   by_cases hlt:(k:Int)<c
   ·have hb:decide ((k:Int)<c)=true:=Gqb hlt
    have hd2:=S_DecodeVarint s ((q:Int)+(pos:Int)) hs ⟨by omega,by omega⟩
    obtain⟨f,hf⟩:∃ f,c-k=f+1:=⟨c-k-1,by omega⟩
    rw[hf]
    cases hv2:decVar s ((q:Int)+(pos:Int)) with
    |none =>
     rw[hv2] at hd2
     rw[show uiGo s q (f+1) pos=none by rw[uiGo,hv2]]
     have hsg:=S_Signed 0 ⟨by omega,by omega⟩
     refine Wz [25,108,26,0,28,17,6,157,8] ?_;refine M1 (Zm J J (hd2) J J J) J J ?_;refine Wz [134,135,155,60,19,5,7,253,78] ?_;refine zx (Qj J J (hsg) J) J ?_;refine Wz [136,200,76] ?_
     refine⟨_,(by omega),(fun (k:Nat) (pos:Nat) (acc:List Int) (ok:Bool)=>(⟨_,[(0,S s),(1,I q),(7,I c),(8,I pos),(9,B ok),(10,.o (.c (.ref 0))),(11,I k)],[.row 1 (els acc)]⟩:St)) (k+1) (pos) (acc ++ [signed 0]) (false),⟨k+1,pos,acc ++ [signed 0],false,J,⟨by omega,by simp[hacc],by omega,fun e=>(by cases e),fun _=>rfl,hps⟩,J⟩,Xz [0] (by decide) J (Kf (els_snocI acc _)) (.c J (.c J (.c J (.c J (.c J (.c J (.c J (.nil))))))))⟩
    |some r =>
     obtain⟨v,m⟩:=r
     rw[hv2] at hd2
     have hm2:=Ya hv2
     have hsg:=S_Signed v ⟨by omega,by omega⟩
     refine Wz [25,108,26,0,28,17,6,157,8] ?_;refine M1 (Zm J J (hd2) J J J) J J ?_;refine Wz [134,135,155,60,19,5,7,253,78] ?_;refine zx (Qj J J (hsg) J) J ?_;refine Wz [136,200,76] ?_
     refine⟨_,(by omega),(fun (k:Nat) (pos:Nat) (acc:List Int) (ok:Bool)=>(⟨_,[(0,S s),(1,I q),(7,I c),(8,I pos),(9,B ok),(10,.o (.c (.ref 0))),(11,I k)],[.row 1 (els acc)]⟩:St)) (k+1) (pos+m) (acc ++ [signed v]) (true),⟨k+1,pos+m,acc ++ [signed v],true,J,⟨by omega,by simp[hacc],by omega,fun _=>⟨by omega,by omega,by omega,by rw[uiGo,hv2,show c-(k+1)=f by omega]; simp[Option.map_map]; rfl⟩,fun e=>(by cases e),by omega⟩,J⟩,Xz [0] (by decide) J (Kf (els_snocI acc _)) (.c J (.c J (.c J (.c J (.c J (.c J (.c J (.nil))))))))⟩
   ·have hb:decide ((k:Int)<c)=false:=Gqa hlt
    have hkk:k=c:=by omega
    subst hkk
    rw[show uiGo s q (k-k) pos=some ([],pos) by rw[Gxr]; rfl]
    refine Wz [25,108,0,104,15,79,16,69,3,54,7,60,52] ?_
    exact Xl J J J J (Xw [0] (by decide) J (Kf (by simp)) J)
/-! ### Texts -/
def unpackText (s:ByteArray) (p:Int):Option (ByteArray×Nat):=match decVar s p with
 |none=>none
 |some (n,k)=>if (s.size:Int)-p-k<n then none else some (s.extract (p+k).toNat (p+k+n).toNat,k+n.toNat)
end
section
open Go.RowKit

theorem S_inputsOk (xs:List Int) (hn:Enc.gd xs):Con Tryz.prog 224 [] [al xs] [] (B (inOk xs)):=by
 have hn1:=hn.1
 have hlx:=Yf xs
 refine Con.of Tryz.func224 J Tryz.ntmps224 J (fun E => ?_)
 refine Wz [103] ?_;refine Xf (fun m st=>∃ k:Nat,k+m=xs.length∧((xs.take k).all (fun n=>inR n 0 15)=true)∧st=(⟨_,[(0,L xs),(3,I k)],[]⟩:St)) (xs.length) ⟨_,⟨0,by omega,by simp,J⟩,Xy [] (by kernel_rfl)⟩ ?_
 rintro m_A _ ⟨k,hk_A,hp_A,rfl⟩
 refine Wz [57] ?_
 refine Q9 J (fun h => ?_) (fun h => ?_)
 ·have h3:k<xs.length:=by have:=Gqc h; omega
  have hat:=Yc h3
  refine Wz [6,7,92] ?_;refine zx (Qj J J (Xv xs[k] 0 15) J) J ?_;refine Wz [3,4] ?_
  refine Q9 J (fun h4 => ?_) (fun h4 => ?_)
  ·refine Wz [66,182] ?_
   refine Wz [31] ?_
   exact Xk J J (Xw [] (by decide) J J (Xg (all_no h3 (by simpa using h4)).symm))
  ·refine Wz [128,266,8] ?_
   refine Wz [5] ?_
   exact⟨xs.length-(k+1),by omega,_,⟨k+1,by omega,X3 hp_A h3 (by simpa using h4),J⟩,Xy [] (by kernel_rfl)⟩
 ·have h3:¬((k:Int)<(els xs).length):=Gqe h
  refine Wz [16,61] ?_
  exact Xk J J (Xw [] (by decide) J J (Xg (X1 hp_A (by omega)).symm))
end
section
open Go.RowKit
end
section
open Go.RowKit
end
section
open Go.RowKit
end
section
open Go.RowKit

/-! ### Numbers -/
theorem bytesL_len {s:ByteArray} {q k:Nat} (h:q+k≤s.size):(bytesL s q k).length=k:=by
 have:s.data.toList.length=s.size:=by simp
 simp[bytesL]; omega
theorem dvGo_canon (s:ByteArray) (q:Nat):∀ (f k:Nat) (m:Int) (j:Nat),q+k≤s.size→(∀ a∈bytesL s q k,128≤a.toNat)→dvGo s q (dval (bytesL s q k):Nat) k f=some (m,j)→encVar m=bytesL s q j:=by
 intro f
 induction f with
 |zero=>intro k m j _ _ h; simp[dvGo] at h
 | succ f ih =>
  intro k m j hqk hall h
  have hlen:=bytesL_len hqk
  rw[dvGo] at h
  split at h
  ·rename_i hlt
   obtain⟨b,hb,hcb⟩:=bytesL_succ hlt
   have hval:(dval (bytesL s q k):Int)+byteAt s (q+k)%128*2 ^ (7*k)=((dval (bytesL s q (k+1)):Nat):Int):=by
    rw[hb,dval_snoc,hlen,hcb]
    push_cast
    rfl
   rw[hval] at h
   split at h
   ·rename_i h128
    refine ih (k+1) m j (by omega) (fun a ha => ?_) h
    rw[hb] at ha
    rcases Gqs.1 ha with ha | ha
    ·exact hall a ha
    ·simp only[List.mem_singleton] at ha
     rw[ha]; omega
   ·rename_i h128
    split at h
    ·cases h
    ·rename_i hbad
     simp only[Option.some.injEq,Prod.mk.injEq] at h
     obtain⟨rfl,rfl⟩:=h
     have hcan:=canon (b:=b) (by omega) (bytesL s q k) hall
     have hnil:bytesL s q k = []↔k=0:=by rw[←List.length_eq_zero_iff,hlen]
     rw[←hb,hnil] at hcan
     rw[encVar,if_pos (by omega),show ((dval (bytesL s q (k+1)):Nat):Int).toNat=dval (bytesL s q (k+1)) by omega]
     exact hcan.2 (by omega)
  ·cases h
theorem decVar_canon {s:ByteArray} {p m:Int} {j:Nat} (h:decVar s p=some (m,j)):encVar m=bytesL s p.toNat j:=by
 unfold decVar at h
 split at h
 ·exact dvGo_canon s p.toNat 6 0 m j (by omega) (by simp[bytesL]) (by simpa[bytesL,dval] using h)
 ·cases h
theorem signless_signed {u:Int} (h:0≤u∧u≤1099511627775):signless (signed u)=u:=by
 unfold signed
 rw[if_pos h]
 split
 ·rw[signless,if_pos (by omega),if_pos (by omega)]; omega
 ·rw[signless,if_pos (by omega),if_neg (by omega)]; omega
/-! ### Lists -/
theorem bytesL_app {s:ByteArray} {q j k:Nat}:bytesL s q j++bytesL s (q+j) k=bytesL s q (j+k):=by
 unfold bytesL
 rw[←List.drop_drop,List.take_add]
def packB (l:List Int):List UInt8:=l.flatMap fun x=>encVar (signless x)
theorem uiGo_canon (s:ByteArray) (p:Nat):∀ (c pos:Nat) (l:List Int) (j:Nat),uiGo s p c pos=some (l,j)→pos≤j∧packB l=bytesL s (p+pos) (j-pos)∧∀ x∈l,0≤signless x:=by
 intro c
 induction c with
 |zero =>
  intro pos l j h
  simp only[uiGo,Option.some.injEq,Prod.mk.injEq] at h
  obtain⟨rfl,rfl⟩:=h
  exact⟨Gqj _,by simp[packB,bytesL],fun x hx=>by simp at hx⟩
 | succ c ih =>
  intro pos l j h
  rw[uiGo] at h
  split at h
  ·cases h
  ·rename_i v m hd
   obtain⟨r,h1,h2⟩:=Option.map_eq_some_iff.1 h
   simp only[Prod.mk.injEq] at h2
   obtain⟨rfl,rfl⟩:=h2
   have hm:=Ya hd
   have hcn:=decVar_canon hd
   obtain⟨a1,a2,a3⟩:=ih (pos+m) r.1 r.2 h1
   have hsg:=signless_signed (u:=v) (by omega)
   refine⟨by omega,?_,fun x hx => ?_⟩
   ·rw[packB,List.flatMap_cons,hsg,hcn,show ((p:Int)+(pos:Int)).toNat=p+pos by omega]
    show bytesL s (p+pos) m++packB r.1=_
    rw[a2,show p+(pos+m)=p+pos+m by omega,bytesL_app]
    congr 1
    omega
   ·rcases List.mem_cons.1 hx with rfl | hx
    ·rw[hsg]; omega
    ·exact a3 x hx
theorem unpackInts_canon {s:ByteArray} {p:Int} {l:List Int} {j:Nat} (h:unpackInts s p=some (l,j)):packInts l=bs (bytesL s p.toNat j):=by
 unfold unpackInts at h
 split at h
 ·cases h
 ·rename_i n k hd
  have hm:=Ya hd
  have hcn:=decVar_canon hd
  obtain⟨a1,a2,a3⟩:=uiGo_canon s _ _ _ _ _ h
  obtain⟨b1,b2,b3,b4⟩:=uiGo_some s _ _ _ _ _ h
  have hall:(l.all fun x=>decide (0≤signless x))=true:=Gqn.2 fun x hx=>Gqb (a3 x hx)
  rw[packInts,if_pos hall,packK,List.take_length,show (l.length:Int)=n by omega,hcn]
  show bs (bytesL s p.toNat k++packB l)=_
  rw[a2,bytesL_app]
  congr 2
  omega
/-! ### Texts -/
/-! ### Columns -/
/-! ### DecodeStream -/
theorem bytesL_all (s:ByteArray) (k:Nat) (h:k≤s.size):bs (bytesL s 0 k)=s↔k=s.size:=by
 constructor
 ·intro e
  have:=congrArg ByteArray.size e
  rw[X8,bytesL_len (by omega)] at this
  exact this
 ·intro e
  subst e
  unfold bytesL
  rw[List.drop_zero,show s.size=s.data.toList.length by simp,List.take_length,bs_of]
end
section
open Go.RowKit

theorem Clone_ints (xs:List Int) (hne:0<xs.length) (hL:xs.length≤1099511627776):Con Tryz.prog 260 [] [al xs] [.row 1 (els xs)] (.o (.c (.ref 0))):=by
 have hlx:=Yf xs
 have hlp:0<(els xs).length:=by omega
 refine Con.of Tryz.func260 J Tryz.ntmps260 J (fun E => ?_)
 have h00:([]:List (List T)).length=0:=rfl
 refine Wz [138] ?_;refine zx (q_slnil J J J J hlp) J ?_;refine Wz [54,1,159,0] ?_;refine M_app J J J J J J J J J J (Yg _) (Ye _) (by omega) (by omega) ?_;refine Wz [52] ?_
 exact Xk J J (Xw [0] (by decide) J J J)
@[reducible] def jv (n:Int):V1 := .rd [] (.v (.int .i64 n))
def bodyOf (l:List Int):TBody:=⟨l.getD 0 0,l.getD 1 0,l.getD 2 0,l.getD 3 0,l.getD 4 0,l.getD 5 0,l.getD 6 0,l.getD 7 0,l.getD 8 0⟩
def bodiesOf (l:List Int) (n:Nat):List TBody:=(List.range n).map fun k=>bodyOf (l.drop (9*k))
def zeroWorld:TWorld:=⟨⟨[]⟩,0,0,[],[]⟩
def worldOf (lv:TLevel) (l:List Int):TWorld:=⟨lv,l.getD 0 0,l.getD 1 0,(l.drop 3).take (l.getD 2 0).toNat,bodiesOf (l.drop (3+(l.getD 2 0).toNat)) ((l.length-3-(l.getD 2 0).toNat)/9)⟩
def formOk (l:List Int):Prop:=3≤l.length∧(1≤l.getD 2 0∧l.getD 2 0≤4)∧3+l.getD 2 0≤l.length∧((l.length:Int)-3-l.getD 2 0)%9=0
noncomputable def readWorld (lv:TLevel) (s:ByteArray):Option TWorld:=match unpackInts s 0 with
 |none=>none
 |some (l,pos)=>@ite _ (pos=s.size∧formOk l∧worldOk (worldOf lv l)=true) (Classical.propDecidable _) (some (worldOf lv l)) none
theorem Kb {lv:TLevel} {s:ByteArray} (h:unpackInts s 0=none):readWorld lv s=none:=by rw[readWorld,h]
theorem Kc {lv:TLevel} {s:ByteArray} {l:List Int} {pos:Nat} (h:unpackInts s 0=some (l,pos)) (hp:pos=s.size∧formOk l∧worldOk (worldOf lv l)=true):readWorld lv s=some (worldOf lv l):=by
 rw[readWorld,h]
 exact @if_pos _ (Classical.propDecidable _) hp _ _ _
theorem Ka {lv:TLevel} {s:ByteArray} {l:List Int} {pos:Nat} (h:unpackInts s 0=some (l,pos)) (hp:¬(pos=s.size∧formOk l∧worldOk (worldOf lv l)=true)):readWorld lv s=none:=by
 rw[readWorld,h]
 exact @if_neg _ (Classical.propDecidable _) hp _ _ _
@[reducible] def rwW (r:Option TWorld):TWorld:=r.getD zeroWorld
@[reducible] def rwB (r:Option TWorld):Bool:=r.isSome
theorem X7 (l:List Int) (n:Nat):(bodiesOf l n).length=n:=by simp[bodiesOf]
theorem bodiesOf_snoc (l:List Int) (n:Nat):bodiesOf l (n+1)=bodiesOf l n ++ [bodyOf (l.drop (9*n))]:=by
 rw[bodiesOf,List.range_succ,List.map_append]
 rfl
theorem bodyOf_ints {l:List Int} (h:9≤l.length):bodyInts (bodyOf l)=l.take 9:=by
 match l,h with
 |a::b::c::d::e::f::g::i::j::r,_=>rfl
theorem bodiesOf_ints:∀ (n:Nat) (l:List Int),9*n≤l.length→(bodiesOf l n).flatMap bodyInts=l.take (9*n)
 |0,l,_=>by simp[bodiesOf]
 |n+1,l,h=>by
  rw[bodiesOf_snoc,List.flatMap_append,bodiesOf_ints n l (by omega),List.flatMap_singleton,bodyOf_ints (by simp; omega),Nat.mul_succ,List.take_add]
theorem bodyOf_gd {l:List Int} (h:∀ x∈l,I64 x):Enc.gd (bodyOf l):=by
 have hd:∀ i,I64 (l.getD i 0):=fun i=>by
  rw[Gqf]
  cases hi:l[i]? with
  |none=>exact⟨by decide,by decide⟩
  |some x=>exact h x (Gqu hi)
 exact⟨hd 0,hd 1,hd 2,hd 3,hd 4,hd 5,hd 6,hd 7,hd 8⟩
theorem worldOf_gd {lv:TLevel} {l:List Int} (hlv:Enc.gd lv) (h:∀ x∈l,I64 x) (hL:l.length≤1099511627776):Enc.gd (worldOf lv l):=by
 have hd:∀ i,I64 (l.getD i 0):=fun i=>by
  rw[Gqf]
  cases hi:l[i]? with
  |none=>exact⟨by decide,by decide⟩
  |some x=>exact h x (Gqu hi)
 refine⟨hlv,hd 0,hd 1,⟨?_,fun x hx=>h x (List.mem_of_mem_drop (List.mem_of_mem_take hx))⟩,⟨?_,fun b hb => ?_⟩⟩
 ·show ((l.drop 3).take (l.getD 2 0).toNat).length≤_
  simp; omega
 ·show (bodiesOf _ _).length≤_
  rw[X7]
  have:(l.length-3-(l.getD 2 0).toNat)/9≤l.length:=by omega
  omega
 ·obtain⟨k,hk,rfl⟩:=Gqt.1 (show b∈(List.range _).map _ from hb)
  exact bodyOf_gd fun x hx=>h x (List.mem_of_mem_drop (List.mem_of_mem_drop hx))
theorem worldOf_ints {lv:TLevel} {l:List Int} (h:formOk l):worldInts (worldOf lv l)=l:=by
 obtain⟨h3,h4,h5,h6⟩:=h
 obtain⟨p,hp⟩:∃ p:Nat,l.getD 2 0=p:=⟨(l.getD 2 0).toNat,by omega⟩
 match l,h3 with
 | a::b::c::r,_ =>
  have hc:c=p:=by simpa using hp
  subst hc
  simp only[Gq4] at h5 h6
  simp only[List.getD_cons_succ,List.getD_cons_zero] at h4 h5 h6
  have hl:((r.take p).length:Int)=p:=by simp; omega
  show ([a,b,((((a::b::(p:Int)::r).drop 3).take ((p:Int)).toNat).length:Int)]++((a::b::(p:Int)::r).drop 3).take ((p:Int)).toNat)++(bodiesOf ((a::b::(p:Int)::r).drop (3+((p:Int)).toNat)) (((a::b::(p:Int)::r).length-3-((p:Int)).toNat)/9)).flatMap bodyInts=_
  rw[Int.toNat_natCast]
  have hdr:(a::b::(p:Int)::r).drop (3+p)=r.drop p:=by
   rw[←List.drop_drop]; rfl
  have hd3:(a::b::(p:Int)::r).drop 3=r:=rfl
  have hlen:(a::b::(p:Int)::r).length-3-p=(r.drop p).length:=by simp
  have h9:9*((r.drop p).length/9)=(r.drop p).length:=by
   have:(r.drop p).length=r.length-p:=by simp
   omega
  rw[hdr,hd3,hlen,bodiesOf_ints _ _ (by omega),h9,List.take_length,hl]
  simp
theorem row7 {a b c d e f:Ob} {k:Nat} {x y:List (List T)} (h:x=y) : [a,b,c,d,e,f,Ob.row k x] = [a,b,c,d,e,f,Ob.row k y]:=by rw[h]
theorem rdE {ps:List Nat} {k:Nat} {a b:List (List T)} (h:a=b):V.o (.c (.rd ps (.sl k a)))=V.o (.c (.rd ps (.sl k b))):=by rw[h]
theorem els_takeE2 {α:Type} [Enc α] (xs:List α) (n:Nat):els (xs.take n)=(els xs).take n:=List.map_take
theorem els_dropE {α:Type} [Enc α] (xs:List α) (n:Nat):els (xs.drop n)=(els xs).drop n:=List.map_drop
theorem X9 {rest:List Int} {m:Nat} (h:9*m+9≤rest.length) {j:Nat} (hj:j<9) (a b:Int) (ha:a=9*m+9) (hb:b=9*m) (i:Int) (hi:i=j):(((els rest).take a.toNat).drop b.toNat)[i.toNat]? = some [.v (.int .i64 ((rest.drop (9*m)).getD j 0))]:=by
 subst ha hb hi
 rw[show ((9:Int)*(m:Int)+9).toNat=9*m+9 by omega,show ((9:Int)*(m:Int)).toNat=9*m by omega,Int.toNat_natCast,Gxg,Gxc,if_pos (by omega),Gqf,Gxg,els,Gqi,Gqg (by omega)]
 rfl
theorem Yd {l:List Int} {j:Nat} (h:j<l.length) (i:Int) (hi:i=j):(els l)[i.toNat]? = some [.v (.int .i64 (l.getD j 0))]:=by
 subst hi
 rw[Int.toNat_natCast,Gqf,els,Gqi,Gqg h]
 rfl
end
section
open Go.RowKit

theorem Yh {α:Type} [Enc α] {xs:List α} {k:Nat} (h:k<xs.length):els (xs.take (k+1))=els (xs.take k) ++ [Enc.e xs[k]]:=by
 rw[Gxn h]
 exact List.map_append
theorem I_copyInts (xs:List Int) (hL:xs.length≤1048576):Con Tryz.prog 160 [] [al xs] [.row 1 (els xs)] (.o (.c (.ref 0))):=by
 have hlx:=Yf xs
 refine Con.of Tryz.func160 J Tryz.ntmps160 J (fun E => ?_)
 refine Wz [1,19] ?_;refine M_appnil J J J J J J J J (Yg _) (Ye _) (by omega) (by omega) ?_;refine Wz [52] ?_
 exact Xk J J (Xw [0] (by decide) J J J)
theorem I_copyRows (xs:List (List Int)) (hg:Enc.gd xs) (hL:xs.length≤1048576) (hr:∀ r∈xs,r.length≤1048576):Con Tryz.prog 66 [] [al xs] [.row 1 (els xs)] (.o (.c (.ref 0))):=by
 have hlx:=Yf xs
 refine Con.of Tryz.func66 J Tryz.ntmps66 J (fun E => ?_)
 refine Wz [1,5,100,102] ?_
 refine AWP.pre ?_ (W_nil 3 1 J)
 refine Xf (fun m st=>∃ k:Nat,k+m=xs.length∧(True)∧st=(⟨_,[(3,.o (.c (.ref 0))),(6,L xs),(7,I (els xs).length),(8,I k)],[.row 1 (els (xs.take k))]⟩:St)) (xs.length) ⟨_,⟨0,by omega,trivial,J⟩,Xy [0] (by kernel_rfl)⟩ ?_
 rintro m_A _ ⟨k,hk_A,hp_A,rfl⟩
 have hl2:(els (xs.take k)).length=k:=by rw[Yf]; simp; omega
 refine Wz [1,38,20] ?_
 refine Q9 J (fun h => ?_) (fun h => ?_)
 ·have h3:k<xs.length:=by have:=Gqc h; omega
  have hat:=Yc h3
  refine Wz [6,1,92,5,78] ?_;refine M1 (Zm J J (I_copyInts xs[k] (hr _ (Gqd h3))) J J J) J J ?_;refine Wz [136,125,149,127,59,75,8,0,4] ?_
  exact⟨xs.length-(k+1),by omega,(fun k:Nat=>(⟨_,[(3,.o (.c (.ref 0))),(6,L xs),(7,I (els xs).length),(8,I k)],[.row 1 (els (xs.take k))]⟩:St)) (k+1),⟨k+1,by omega,trivial,J⟩,Xz [0] (by decide) J (Kf (Yh h3)) (.c J (.c J (.c J (.c J (.nil)))))⟩
 ·have h3:¬((k:Int)<(els xs).length):=Gqe h
  have hk:xs.take k=xs:=Gqh (by omega)
  refine Wz [27] ?_
  exact Xk J J (Xw [0] (by decide) J (Kf (by rw[hk])) J)
section
variable {P:Program} {ops:Array Oper} {o:Oper} {st:St} {m:Nat} {t e:TypeId} {y z:Operand} {zs:List Value} {by_:Nat}
theorem q_appz0 {ps:List Nat} {q kk:Nat} [hm:TyMake P t e zs by_] (ho:o.op = .call { callee := .builtin .append,args:=#[y,z],argTypes:=#[t,t] }) (hg:o.guard=none) (hy:st.ev y = .o (.c (.sb q 0 kk))) (hz:st.ev z = .o (.c (.rd ps (.sl kk [])))) (hkz:kk=zs.length) (hz0:zs.isEmpty=false):Qt P ops o st (.o (.c (.sb q 0 kk))) [] m :=
 .pure hg fun a w H F hr=>by
  have hzn:zs ≠ []:=by intro e; rw[e] at hz0; cases hz0
  subst hkz
  obtain⟨g,tt,vs,b1,b2,b3,b4⟩:=hr.v1 hy
  have h7:=src_any (P:=P) (t:=t) (e:=e) (by_:=by_) (kk:=zs.length) hr rfl hzn (hr.v1 hz) (es' := []) rfl (fun e he=>by simp at he) (fun e he=>by simp at he)
  obtain⟨i,hi,hzz⟩:=Option.map_eq_some_iff.1 hm.info
  simp only[Prod.mk.injEq] at hzz
  have h8:Src P i.size t (a.eval z) 0 [] w:=by rw[hzz.2.1]; simpa[flatV] using h7
  refine⟨a.eval y,Yn ho ?_,hr.v1 hy⟩
  rw[b4]
  exact run_append_room_src (P:=P) w t t o.type e i hm.slice hi g 0 0 0 (a.eval z) 0 [] h8 (Gqj _) (by simp) (by simp)
end
end
section
open Go.RowKit
end
section
open Go.RowKit

def colF (q:Int→Bool) (row:ByteArray):Nat→Option Nat
 |0=>none
 |c+1=>match colF q row c with
  |some x=>some x
  |none=>if q (byteAt row c)=true then some c else none
def tileF (q:Int→Bool) (rows:List ByteArray):Nat→Option (Nat×Nat)
 |0=>none
 | r+1=>match tileF q rows r with
  |some x=>some x
  |none=>match rows[r]? with
   |none=>none
   |some row=>(colF q row row.size).map fun c=>(r,c)
def isOpen (t:Int):Bool:=decide (t≠35)
def isDig (p:Int) (t:Int):Bool:=decide (t=49+p)
def spX:Option (Nat×Nat)→Int
 |none => -1
 |some (_,c)=>16*c+2
def spY:Option (Nat×Nat)→Int
 |none => -1
 |some (r,_)=>16*r+2
def startT (l:TLevel) (p:Int):Option (Nat×Nat):=match tileF (isDig p) l.Rows l.Rows.length with
 |some x=>some x
 |none=>tileF isOpen l.Rows l.Rows.length
theorem colF_some {q:Int→Bool} {row:ByteArray}:∀ {n c:Nat},colF q row n=some c→c<n∧q (byteAt row c)=true
 |0,c,h=>by cases h
 | n+1,c,h=>by
  rw[colF] at h
  cases h1:colF q row n with
  |some x=>rw[h1] at h; cases h; have:=colF_some h1; exact⟨by omega,this.2⟩
  |none =>
   rw[h1] at h
   by_cases h2:q (byteAt row n)=true
   ·rw[if_pos h2] at h; cases h; exact⟨by omega,h2⟩
   ·rw[if_neg h2] at h; cases h
theorem colF_none {q:Int→Bool} {row:ByteArray}:∀ {n:Nat},colF q row n=none→∀ c,c<n→q (byteAt row c)=false
 |0,h,c,hc=>by omega
 | n+1,h,c,hc=>by
  rw[colF] at h
  cases h1:colF q row n with
  |some x=>rw[h1] at h; cases h
  | none =>
   rw[h1] at h
   by_cases h2:q (byteAt row n)=true
   ·rw[if_pos h2] at h; cases h
   ·by_cases e:c=n
    ·subst e; simpa using h2
    ·exact colF_none h1 c (by omega)
theorem tileF_some {q:Int→Bool} {rows:List ByteArray}:∀ {n r c:Nat},tileF q rows n=some (r,c)→∃ h:r<rows.length,r<n∧c<rows[r].size∧q (byteAt rows[r] c)=true
 |0,r,c,h=>by cases h
 | n+1,r,c,h=>by
  rw[tileF] at h
  cases h1:tileF q rows n with
  |some x=>rw[h1] at h; cases h; obtain⟨a,b,d⟩:=tileF_some h1; exact⟨a,by omega,d⟩
  | none =>
   rw[h1] at h
   cases h2:rows[n]? with
   |none=>rw[h2] at h; cases h
   |some row =>
    rw[h2] at h
    simp only[Option.map_eq_some_iff,Prod.mk.injEq] at h
    obtain⟨c',h3,rfl,rfl⟩:=h
    have hn:=(Gqm.1 h2).1
    have he:=(Gqm.1 h2).2
    have:=colF_some h3
    exact⟨hn,by omega,by rw[he]; exact this.1,by rw[he]; exact this.2⟩
theorem tileF_none {q:Int→Bool} {rows:List ByteArray}:∀ {n:Nat},tileF q rows n=none→∀ r (h:r<rows.length),r<n→∀ c,c<rows[r].size→q (byteAt rows[r] c)=false
 |0,h,r,hr,hn,c,hc=>by omega
 | n+1,h,r,hr,hn,c,hc=>by
  rw[tileF] at h
  cases h1:tileF q rows n with
  |some x=>rw[h1] at h; cases h
  | none =>
   rw[h1] at h
   by_cases e:r=n
   ·subst e
    rw[Gqg hr] at h
    simp only[Option.map_eq_none_iff] at h
    exact colF_none h c hc
   ·exact tileF_none h1 r hr (by omega) c hc
theorem tileM_open {e:Bool} {t:Int} {s s':Seen×Bool} (h:tileM e t s=some s') (ho:s'.2=true):s.2=true∨t≠35:=by
 by_cases ht:t=35
 ·rw[tileM,if_pos ht] at h; cases h; exact .inl ho
 ·exact .inr ht
theorem cols_open {row:ByteArray} {er:Bool} {w:Nat} {s:Seen×Bool}:∀ {n:Nat} {s':Seen×Bool},colsM row er w s n=some s'→s'.2=true→s.2=true∨∃ c,c<n∧byteAt row c≠35
 |0,s',h,ho=>by cases h; exact .inl ho
 | n+1,s',h,ho=>by
  rw[colsM] at h
  cases h1:colsM row er w s n with
  |none=>rw[h1] at h; cases h
  | some s1 =>
   rw[h1] at h
   rcases tileM_open h ho with h2 | h2
   ·rcases cols_open h1 h2 with h3 | ⟨c,hc,h3⟩
    ·exact .inl h3
    ·exact .inr ⟨c,by omega,h3⟩
   ·exact .inr ⟨n,by omega,h2⟩
theorem rows_open {rows:List ByteArray} {w:Nat}:∀ {n:Nat} {s:Seen×Bool},rowsM rows w n=some s→s.2=true→∃ r c,∃ h:r<rows.length,r<n∧c<rows[r].size∧byteAt rows[r] c≠35
 |0,s,h,ho=>by cases h; cases ho
 | n+1,s,h,ho=>by
  rw[rowsM] at h
  cases h1:rowsM rows w n with
  |none=>rw[h1] at h; cases h
  | some s1 =>
   rw[h1] at h
   cases h2:rows[n]? with
   |none=>rw[h2] at h; cases h
   | some row =>
    rw[h2] at h
    simp only at h
    split at h
    ·rename_i hw
     have hn:=(Gqm.1 h2).1
     have he:=(Gqm.1 h2).2
     rcases cols_open h ho with h3 | ⟨c,hc,h3⟩
     ·obtain⟨r,c,a,b,d⟩:=rows_open h1 h3
      exact⟨r,c,a,by omega,d⟩
     ·exact⟨n,c,hn,by omega,by rw[he]; omega,by rw[he]; exact h3⟩
    ·cases h
theorem level_open {l:TLevel} (h:levelOk l=true):∃ r c,∃ h:r<l.Rows.length,c<(l.Rows[r]).size∧byteAt (l.Rows[r]) c≠35:=by
 unfold levelOk at h
 simp only[Gqk] at h
 obtain⟨_,h5⟩:=h
 split at h5
 ·rename_i s hs
  obtain⟨r,c,a,b,d⟩:=rows_open hs h5
  exact⟨r,c,a,d⟩
 ·cases h5
theorem start_some {l:TLevel} (hl:levelOk l=true) {p:Int} (hp:0≤p∧p≤3):∃ r c,startT l p=some (r,c)∧∃ h:r<l.Rows.length,c<(l.Rows[r]).size∧byteAt (l.Rows[r]) c≠35:=by
 unfold startT
 cases h1:tileF (isDig p) l.Rows l.Rows.length with
 |some x =>
  obtain⟨r,c⟩:=x
  obtain⟨a,b,d,e⟩:=tileF_some h1
  refine⟨r,c,J,a,d,?_⟩
  have:=Gqc e
  omega
 | none =>
  cases h2:tileF isOpen l.Rows l.Rows.length with
  |some x =>
   obtain⟨r,c⟩:=x
   obtain⟨a,b,d,e⟩:=tileF_some h2
   exact⟨r,c,J,a,d,Gqc e⟩
  |none =>
   obtain⟨r,c,a,d,e⟩:=level_open hl
   have:=tileF_none h2 r a a c d
   exact absurd e (Gqe this)
def fresh (l:TLevel) (p:Int):TBody:=⟨0,p,spX (startT l p),spY (startT l p),0,0,1,3,0⟩
theorem fresh_free {l:TLevel} (hl:levelOk l=true) {p:Int} (hp:0≤p∧p≤3):solidM l (fresh l p).X (fresh l p).Y 12=false∧(0≤(fresh l p).X∧(fresh l p).X≤400)∧(0≤(fresh l p).Y∧(fresh l p).Y≤400):=by
 obtain⟨r,c,h1,hr,hc,hb⟩:=start_some hl hp
 obtain⟨l3,l12,w,w4,w20,hw⟩:=level_facts hl
 have hwr:=hw r hr
 rw[fresh,h1]
 refine⟨solidM_F ?_,by simp only[spX]; omega,by simp only[spY]; omega⟩
 rintro⟨r',c',a1,a2,a3,a4,hwall⟩
 simp only[spX,spY] at a1 a2 a3 a4
 have e1:r'=r:=by omega
 have e2:c'=c:=by omega
 subst e1 e2
 exact no_wall hr hc hb hwall
def newWorld (l:TLevel) (n:Nat) (seed:Int):TWorld:=⟨l,0,seed,List.replicate n 0,(List.range n).map fun (k:Nat)=>fresh l (k:Int)⟩
theorem flat_length (bs:List TBody):(bs.flatMap bodyInts).length=9*bs.length:=by
 have:=flat_len bs bs.length (Gqj _)
 rwa[List.take_length] at this
end
section
open Go.RowKit

def pressed (i k:Int):Bool:=decide (((i.toNat &&& k.toNat:Nat):Int)≠0)
noncomputable def steer (l:TLevel) (b:TBody) (i:Int):TBody×Bool :=
 (⟨b.Kind,b.Owner,b.X,b.Y,
  if (pressed i 1 && !pressed i 2)=true then -3 else if (pressed i 2 && !pressed i 1)=true then 3 else 0,
  if (pressed i 4&&solidM l b.X (b.Y+1) 12)=true then -9 else min (b.VY+1) 8,
  if (pressed i 1 && !pressed i 2)=true then -1 else if (pressed i 2 && !pressed i 1)=true then 1 else b.Aim,
  b.Life,
  if (pressed i 8&&decide ((if 0<b.Timer then b.Timer-1 else b.Timer)=0))=true then 12 else (if 0<b.Timer then b.Timer-1 else b.Timer)⟩,
  pressed i 8&&decide ((if 0<b.Timer then b.Timer-1 else b.Timer)=0))
def slide (hit:Int→Bool) (step:Int):Nat→Int→Int×Bool
 |0,x=>(x,false)
 |n+1,x=>if hit (x+step)=true then (x,true) else slide hit step n (x+step)
def dirOf (v:Int):Int:=if v<0 then -1 else 1
noncomputable def moveX (l:TLevel) (b:TBody):Int×Bool:=slide (fun x=>solidM l x b.Y (sizeOf b.Kind)) (dirOf b.VX) b.VX.natAbs b.X
noncomputable def moveY (l:TLevel) (b:TBody):Int×Bool:=slide (fun y=>solidM l (moveX l b).1 y (sizeOf b.Kind)) (dirOf b.VY) b.VY.natAbs b.Y
noncomputable def moveM (l:TLevel) (b:TBody):TBody×Bool :=
 (⟨b.Kind,b.Owner,(moveX l b).1,(moveY l b).1,if (moveX l b).2=true then 0 else b.VX,if (moveY l b).2=true then 0 else b.VY,b.Aim,b.Life,b.Timer⟩,(moveX l b).2 || (moveY l b).2)
def shotOf (b:TBody):TBody:=⟨1,b.Owner,b.X+4,b.Y+4,6*b.Aim,0,0,0,25⟩
def meetM (a b:TBody):Bool :=
 ((decide (a.X<b.X+sizeOf b.Kind)&&decide (b.X<a.X+sizeOf a.Kind))&&decide (a.Y<b.Y+sizeOf b.Kind))&&decide (b.Y<a.Y+sizeOf a.Kind)
structure Placed (b:TBody):Prop where
 k:0≤b.Kind∧b.Kind≤2
 x:0≤b.X∧b.X≤1000
 y:0≤b.Y∧b.Y≤1000
end
section
open Go.RowKit

section
variable {P:Program} {E:Env} {ops:Array Oper} {o:Oper} {st:St} {n:Nat} {y:Operand}
end
structure Mid (st':St) (e:Exit) (st:St):Prop where
 h:e = .normal∧Wk st st'
section
variable {P:Program} {E:Env} {st st':St}
theorem Mid.n (h:Wk st st'):Mid st' .normal st:=⟨rfl,h⟩
end
end
section
open Go.RowKit
end
section
open Go.RowKit
end
section
open Go.RowKit
end
section
open Go.RowKit
end
section
open Go.RowKit

theorem slide_free {hit:Int→Bool} {step:Int}:∀ (n:Nat) (x:Int),hit x=false→hit (slide hit step n x).1=false
 |0,x,h=>h
 |n+1,x,h=>by
  rw[slide]
  split
  ·exact h
  ·exact slide_free n (x+step) (by rename_i q; simpa using q)
section
variable {P:Program} {E:Env} {st st':St}
end
end
end Go.Proofs.YtoecjaohdnoenaaGreat
