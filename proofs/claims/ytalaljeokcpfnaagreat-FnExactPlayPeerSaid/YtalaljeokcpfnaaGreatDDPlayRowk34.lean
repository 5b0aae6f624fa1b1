/-
  What the laws write into the slices of a match, and what they read back.
  Conditions: numbers below 2^30.
-/
import Derived.Test.YtalaljeokcpfnaaGreatDDPlayRowk20
set_option linter.unusedSimpArgs false
set_option linter.unusedVariables false
set_option maxRecDepth 8000
set_option maxHeartbeats 8000000
namespace Go.Proofs.YtalaljeokcpfnaaGreat
section
open Tryz
open Go.RowKit

mutual
def nkT:T→Int→Int
 | .sl _ es,k=>nkEs es k
 | .v _,k=>k+1
 |_,k=>k
def nkE:List T→Int→Int
 | [],k=>k
 |t::ts,k=>nkE ts (nkT t k)
def nkEs:List (List T)→Int→Int
 | [],k=>k
 |e::es,k=>nkEs es (nkE e k)
end
mutual
def mkT:T→Int→T
 | .sl n es,k => .sl n (mkEs es k)
 | .v (.string _),k => .v (.string (mtext k))
 | .v (.int .i64 _),k => .v (.int .i64 k)
 |t,_=>t
def mkE:List T→Int→List T
 | [],_ => []
 |t::ts,k=>mkT t k::mkE ts (nkT t k)
def mkEs:List (List T)→Int→List (List T)
 | [],_ => []
 |e::es,k=>mkE e k::mkEs es (nkE e k)
end
mutual
theorem nk_monoT:∀ (t:T) (k:Int),k≤nkT t k
 | .sl _ es,k=>Z1 es k
 | .v _,k=>by simp only[nkT]; omega
 | .un,k=>Int.le_refl k
theorem nk_monoE:∀ (e:List T) (k:Int),k≤nkE e k
 | [],k=>Int.le_refl k
 |t::ts,k=>Int.le_trans (nk_monoT t k) (nk_monoE ts _)
theorem Z1:∀ (es:List (List T)) (k:Int),k≤nkEs es k
 | [],k=>Int.le_refl k
 |e::es,k=>Int.le_trans (nk_monoE e k) (Z1 es _)
end
theorem nk_app:∀ (l r:List (List T)) (k:Int),nkEs (l++r) k=nkEs r (nkEs l k)
 | [],r,k=>rfl
 |e::l,r,k=>nk_app l r (nkE e k)
theorem mt_app:∀ (l r:List (List T)) (k:Int),mkEs (l++r) k=mkEs l k++mkEs r (nkEs l k)
 | [],r,k=>rfl
 |e::l,r,k=>congrArg (mkE e k::·) (mt_app l r (nkE e k))
theorem Zx:∀ (es:List (List T)) (k:Int),(mkEs es k).length=es.length
 | [],k=>rfl
 |e::es,k=>congrArg (· + 1) (Zx es (nkE e k))
section
variable {es:List (List T)} {i:Nat} {e:List T} (h:es[i]? = some e) (k:Int)
include h
theorem tk_next:es.take (i+1)=es.take i ++ [e]:=by rw[List.take_add_one,h]; rfl
theorem Z3:nkEs (es.take (i+1)) k=nkE e (nkEs (es.take i) k):=by rw[tk_next h,nk_app]; rfl
theorem Z0:nkE e (nkEs (es.take i) k)≤nkEs es k:=by
 rw[←Z3 h]
 conv=>rhs; rw[←Gxq (i+1) es,nk_app]
 exact Z1 _ _
theorem Zu:mkEs (es.take (i+1)) k++es.drop (i+1)=(mkEs (es.take i) k++es.drop i).set i (mkE e (nkEs (es.take i) k)):=by
 obtain⟨hi,rfl⟩:=Gqo.1 h
 have hl:(mkEs (es.take i) k).length=i:=by rw[Zx]; simp; omega
 rw[tk_next h,mt_app,List.set_append_right _ _ Aqa,show i-(mkEs (es.take i) k).length=0 by omega,Gxr hi,List.set_cons_zero,Gqz]
 rfl
theorem Zy:mkEs (es.take i) k++es.drop i=(mkEs (es.take i) k++es.drop i).set i e:=by
 obtain⟨hi,rfl⟩:=Gqo.1 h
 have hl:(mkEs (es.take i) k).length=i:=by rw[Zx]; simp; omega
 rw[List.set_append_right _ _ Aqa,show i-(mkEs (es.take i) k).length=0 by omega,Gxr hi,List.set_cons_zero]
theorem mt_lt:i<(mkEs (es.take i) k++es.drop i).length:=by
 obtain⟨hi,rfl⟩:=Gqo.1 h
 simp only[Gql,Zx,Gq4,Gq9]
 omega
theorem mt_at:(mkEs es k)[i]? = some (mkE e (nkEs (es.take i) k)):=by
 obtain⟨hi,rfl⟩:=Gqo.1 h
 have hl:(mkEs (es.take i) k).length=i:=by rw[Zx]; simp; omega
 conv=>lhs; rw[←Gxq i es,mt_app,Gxr hi]
 rw[Gq3 Aqa,show i-(mkEs (es.take i) k).length=0 by omega]
 rfl
end
theorem gK (es:List (List T)) (k:Int):∃ K,nkEs es k=K∧k≤K:=⟨_,rfl,Z1 es k⟩
theorem gS {A B:List (List T)} {i:Nat} {c:List T} (h:A=B.set i c):∃ cs,cs=c∧A=B.set i cs:=⟨c,rfl,h⟩
theorem Zv {es:List (List T)} {i:Nat} (h:es.length≤i) (k:Int):mkEs (es.take i) k++es.drop i=mkEs es k:=by rw[Gqj h,List.drop_of_length_le h,Gqy]
theorem Zw {es:List (List T)} {i:Nat} (k:Int):(mkEs (es.take i) k++es.drop i).length=es.length:=by
 simp only[Gql,Zx,Gq4,Gq9]
 omega
section
variable {P:Program} {E:Env} {ops:Array Oper} {o:Oper} {n m:Nat} {ts:List (Nat×V)} {obs:List Ob} {rest:List Oper} {Q:Exit→St→Prop} {t:TypeId} {y z:Operand} {qs:List Nat} {p kk i j:Nat} {es:List (List T)} {e:List T}
theorem Ki {et:TypeId} {zs:List Value} {by_:Nat} {k:IntKind} {a:Int} [hm:TyMake P t et zs by_] (ho:o.op = .indexAddr t y z) (hg:o.guard=none) (hy:St.ev ⟨n,ts,obs⟩ y = .o (.c (.ref p))) (hz:St.ev ⟨n,ts,obs⟩ z = .o (.c (.rd qs (.v (.int k a))))) (hp:obs[p]? = some (.row kk (es.set a.toNat e))) (h0:0≤a) (hq:a.toNat<es.length) :
  Qt P ops o ⟨n,ts,obs⟩ (.o (.c (.el p zs.length a.toNat 0))) [] m:=Q3 ho hg hy hz hp h0 Bxc
def pm (cs es:List T) (j:Nat):List T:=cs.take j++es.drop j
theorem pm_len {cs ds:List T} (h:cs.length=ds.length):(pm cs ds j).length=ds.length:=by simp[pm]; omega
theorem pm_at {cs ds:List T} {x:T} (h:cs.length=ds.length) (hx:ds[j]? = some x):(pm cs ds j)[j]? = some x:=by
 have hj:=Zj hx
 have hl:(cs.take j).length=j:=Bqz
 rw[pm,Gq3 Aqa,Gq7,hl,show j+(j-j)=j by omega,hx]
theorem pm_set {cs ds:List T} {u:T} (h:cs.length=ds.length) (hu:cs[j]? = some u):splice (pm cs ds j) j [u]=pm cs ds (j+1):=by
 have hj:=Zj hu
 have hl:(cs.take j).length=j:=Bqz
 obtain⟨_,rfl⟩:=Gqo.1 hu
 rw[splice,pm,pm,List.take_append_of_le_length Aqa,Gqj Aqa,Gxb hj]
 congr 1
 rw[List.drop_append,List.drop_of_length_le Bqz,List.nil_append,List.drop_drop,hl]
 congr 1
 simp only[Gqw,List.length_nil]
 omega
section
variable {cs ds:List T} (hl:cs.length=ds.length)
theorem Ya {c:V1} {u:T} {rs:List Nat} [TyOne P t] (ho:o.op = .store t y z) (hg:o.guard=none) (hd:o.dst=none) (hy:St.ev ⟨n,ts,obs⟩ y = .o (.c (.el p kk i j))) (hz:St.ev ⟨n,ts,obs⟩ z = .o (.c c)) (hp:obs[p]? = some (.row kk (es.set i (pm cs ds j)))) (hu:tkT obs c=u) (hrs:tkR c=rs)
  (hok:tkOk obs c=true) (hq:i<es.length) (hl:cs.length=ds.length) (hj:cs[j]? = some u) (hnd:nodupB (p::rs)=true)
  (h:AL P E ops Q rest ⟨n,ts.map fun e=>(e.1,e.2.kille p rs),gone ((obs.map (Ob.kille p rs)).set p (.row kk (es.set i (pm cs ds (j+1))))) rs⟩):AL P E ops Q (o::rest) ⟨n,ts,obs⟩ :=
 Xh ho hg hd hy hz hp hu hrs hok (Gxg hq) (by rw[pm_len hl]; exact Nat.ble_eq_true_of_le (by have:=Zj hj; omega)) hnd (by rw[List.set_set,pm_set hl hj]; exact h)
theorem Va {x:T} [TyOne P t] (ho:o.op = .load t y) (hg:o.guard=none) (hy:St.ev ⟨n,ts,obs⟩ y = .o (.c (.el p kk i j))) (hp:obs[p]? = some (.row kk (es.set i (pm cs ds j)))) (hq:i<es.length) (hl:cs.length=ds.length) (hx:ds[j]? = some x):Qt P ops o ⟨n,ts,obs⟩ (.o (.c (.le p kk i j))) [] m:=q_lee ho hg hy hp (Gxg hq) (pm_at hl hx)
theorem X9 {d k':Nat} {f:FuncId} [hf:FunOk P f] {ass':Array Operand} {tys:Array TypeId} {y0:Operand} {ys:List Operand} {args':List V2} {es0 es1:List (List T)} {wv:Value} {ps:List Nat}
  (hc:Con P f [.row k' es0,.gh 0 (.c (Aqk 0))] (.c (Aqk 0)::args') [.row k' es1,.gh 0 (.c (Aqk 0))] (.o (.c (.rd ps (.v wv))))) (ho:o.op = .call { callee := .value (.func f),args:=ass',argTypes:=tys }) (hg:o.guard=none) (hd:o.dst=some d) (hld:Nat.blt d n=true) (has:ass'.toList=y0::ys)
  (hy:St.ev ⟨n,ts,obs⟩ y0 = .o (.c (.le p kk i j))) (hp:obs[p]? = some (.row kk (es.set i (pm cs ds j)))) (ha:ys.map (fun y=>lendx obs p (St.ev ⟨n,ts,obs⟩ y))=args') (hq:i<es.length) (hl:cs.length=ds.length) (hx:ds[j]? = some (.sl k' es0)) (hu:cs[j]? = some (.sl k' es1))
  (h:AL P E ops Q rest ⟨n,(d,.o (.c (.rd [] (.v wv))))::(ts.map fun e=>(e.1,e.2.mapk (V1.killw [p] [p]))),(obs.map (Ob.mapk (V1.killw [p] [p]))).set p (.row kk (es.set i (pm cs ds (j+1))))⟩):AL P E ops Q (o::rest) ⟨n,ts,obs⟩ :=
 M_inner hc ho hg hd hld has hy hp ha (Gxg hq) (pm_at hl hx) (by rw[List.set_set,pm_set hl hu]; exact h)
end
end
theorem X5 (xs:List (ByteArray)) (k:Int) (g:Enc.gd xs) (h0:0<k) (hb:nkEs (els xs) k≤1073741823):Co 111 [.row 1 (els xs),.gh 0 (.c (Aqk 0))] [.c (Aqk 0),ai k] [.row 1 (mkEs (els xs) k),.gh 0 (.c (Aqk 0))] (I (nkEs (els xs) k)):=by
 have hn:=Y7 xs
 have hn1:=g.1
 refine Con.o func111 ntmps111 fun E=>?_;refine Wz [23,107] ?_;refine A_lt xs.length (fun i => [(0,Aqg 0),(1,I (nkEs ((els xs).take i) k)),(5,I i)]) (fun i => [.row 1 (mkEs ((els xs).take i) k++(els xs).drop i),.gh 0 (.c (Aqk 0))]) (Yj [0,1] Aqb) ?_
 intro m_A i hk_A
 have hl2:=Zw (es:=els xs) (i:=i) k
 by_cases h3:i<xs.length
 ·have hat:(els xs)[i]? = some (Enc.e xs[i]):=Y4 h3
  have hg:=g.2 _ (Gqe h3)
  have hl:=Int.le_trans (Z0 hat k) hb
  have hi:=Z1 ((els xs).take i) k
  have hend:=Zu hat k
  have hnx:=Z3 hat k
  have hq:=mt_lt hat k
  have hse:=Zy hat k
  rw[hse]
  generalize mkEs ((els xs).take i) k++(els xs).drop i=R at hq hend hl2 ⊢
  generalize nkEs ((els xs).take i) k=K at hl hi hend hnx ⊢
  have hq:(i:Int).toNat<R.length:=hq
  have hco:Enc.e xs[i] = [.v (.string xs[i])]:=Aqb
  rw[hco] at hl hnx hend
  simp only[mkE,nkE,mkT,nkT] at hl hnx hend
  obtain⟨cs,hcs,hend⟩:=gS hend
  generalize hds:Enc.e xs[i]=ds
  rw[show ds=pm cs ds 0 from rfl]
  have hdl:1=ds.length:=Bq1
  have hlc:cs.length=ds.length:=Bxf
  have u0:cs[0]? = some (.v (.string (mtext K))):=Bqw
  have f3:decide ((i:Int)<((R.set i (pm cs ds 0)).length:Int))=true:=Gqb Bxc
  clear hcs hds hse
  refine Wz [15,33,77,50] ?_;refine zx (Qj J J (X4 _ Aqa) J) J ?_;refine Wz [297,119] ?_;refine AL.kp [1,0,5,0] [(0,Aqg 0)] 2 [(0,.row 1 (R.set i (pm cs ds 1)))] ?_;refine Wz [1,27,13,110] ?_
  replace hend:=hend.trans (congrArg (R.set i) (show cs=pm cs ds 1 by rw[pm,Gqj (show cs.length≤1 by rw[hlc,←hdl]; exact Gqi _),List.drop_of_length_le Bxg,Gqy]))
  exact .t (i+1) (Yk [0,1] Aqc J (Bxh) (.c J (.cons (X0 hnx.symm) (.c J (.nil)))))
 ·have f3:decide ((i:Int)<((mkEs ((els xs).take i) k++(els xs).drop i).length:Int))=false:=Gqa Aqa 
  have hk:=Gqj (show (els xs).length≤i by omega)
  have he:=Zv (show (els xs).length≤i by omega) k
  refine Wz [15,33,92,74] ?_
  exact Bzo
theorem L_mkIntS (xs:List (Int)) (k:Int) (g:Enc.gd xs) (h0:0<k) (hb:nkEs (els xs) k≤1073741823):Co 112 [.row 1 (els xs),.gh 0 (.c (Aqk 0))] [.c (Aqk 0),ai k] [.row 1 (mkEs (els xs) k),.gh 0 (.c (Aqk 0))] (I (nkEs (els xs) k)):=by
 have hn:=Y7 xs
 have hn1:=g.1
 refine Con.o func112 ntmps112 fun E=>?_;refine Wz [23,107] ?_;refine A_lt xs.length (fun i => [(0,Aqg 0),(1,I (nkEs ((els xs).take i) k)),(5,I i)]) (fun i => [.row 1 (mkEs ((els xs).take i) k++(els xs).drop i),.gh 0 (.c (Aqk 0))]) (Yj [0,1] Aqb) ?_
 intro m_A i hk_A
 have hl2:=Zw (es:=els xs) (i:=i) k
 by_cases h3:i<xs.length
 ·have hat:(els xs)[i]? = some (Enc.e xs[i]):=Y4 h3
  have hg:=g.2 _ (Gqe h3)
  have hl:=Int.le_trans (Z0 hat k) hb
  have hi:=Z1 ((els xs).take i) k
  have hend:=Zu hat k
  have hnx:=Z3 hat k
  have hq:=mt_lt hat k
  have hse:=Zy hat k
  rw[hse]
  generalize mkEs ((els xs).take i) k++(els xs).drop i=R at hq hend hl2 ⊢
  generalize nkEs ((els xs).take i) k=K at hl hi hend hnx ⊢
  have hq:(i:Int).toNat<R.length:=hq
  have hco:Enc.e xs[i] = [.v (.int .i64 xs[i])]:=Aqb
  rw[hco] at hl hnx hend
  simp only[mkE,nkE,mkT,nkT] at hl hnx hend
  obtain⟨cs,hcs,hend⟩:=gS hend
  generalize hds:Enc.e xs[i]=ds
  rw[show ds=pm cs ds 0 from rfl]
  have hdl:1=ds.length:=Bq1
  have hlc:cs.length=ds.length:=Bxf
  have u0:cs[0]? = some (.v (.int .i64 K)):=Bqw
  have f3:decide ((i:Int)<((R.set i (pm cs ds 0)).length:Int))=true:=Gqb Bxc
  clear hcs hds hse
  refine Wz [15,33,77,50,297,119] ?_;refine AL.kp [1,0,5,0] [(0,Aqg 0)] 2 [(0,.row 1 (R.set i (pm cs ds 1)))] ?_;refine Wz [1,27,13,110] ?_
  replace hend:=hend.trans (congrArg (R.set i) (show cs=pm cs ds 1 by rw[pm,Gqj (show cs.length≤1 by rw[hlc,←hdl]; exact Gqi _),List.drop_of_length_le Bxg,Gqy]))
  exact .t (i+1) (Yk [0,1] Aqc J (Bxh) (.c J (.cons (X0 hnx.symm) (.c J (.nil)))))
 ·have f3:decide ((i:Int)<((mkEs ((els xs).take i) k++(els xs).drop i).length:Int))=false:=Gqa Aqa 
  have hk:=Gqj (show (els xs).length≤i by omega)
  have he:=Zv (show (els xs).length≤i by omega) k
  refine Wz [15,33,92,74] ?_
  exact Bzo
theorem L_mkBodyS (xs:List (TBody)) (k:Int) (g:Enc.gd xs) (h0:0<k) (hb:nkEs (els xs) k≤1073741823):Co 114 [.row 9 (els xs),.gh 0 (.c (Aqk 0))] [.c (Aqk 0),ai k] [.row 9 (mkEs (els xs) k),.gh 0 (.c (Aqk 0))] (I (nkEs (els xs) k)):=by
 have hn:=Y7 xs
 have hn1:=g.1
 refine Con.o func114 ntmps114 fun E=>?_;refine Wz [23,107] ?_;refine A_lt xs.length (fun i => [(0,Aqg 0),(1,I (nkEs ((els xs).take i) k)),(5,I i)]) (fun i => [.row 9 (mkEs ((els xs).take i) k++(els xs).drop i),.gh 0 (.c (Aqk 0))]) (Yj [0,1] Aqb) ?_
 intro m_A i hk_A
 have hl2:=Zw (es:=els xs) (i:=i) k
 by_cases h3:i<xs.length
 ·have hat:(els xs)[i]? = some (Enc.e xs[i]):=Y4 h3
  have hg:=g.2 _ (Gqe h3)
  have hl:=Int.le_trans (Z0 hat k) hb
  have hi:=Z1 ((els xs).take i) k
  have hend:=Zu hat k
  have hnx:=Z3 hat k
  have hq:=mt_lt hat k
  have hse:=Zy hat k
  rw[hse]
  generalize mkEs ((els xs).take i) k++(els xs).drop i=R at hq hend hl2 ⊢
  generalize nkEs ((els xs).take i) k=K at hl hi hend hnx ⊢
  have hq:(i:Int).toNat<R.length:=hq
  have hco:Enc.e xs[i] = [.v (.int .i64 xs[i].Kind),.v (.int .i64 xs[i].Owner),.v (.int .i64 xs[i].X),.v (.int .i64 xs[i].Y),.v (.int .i64 xs[i].VX),.v (.int .i64 xs[i].VY),.v (.int .i64 xs[i].Aim),.v (.int .i64 xs[i].Life),.v (.int .i64 xs[i].Timer)]:=Aqb
  rw[hco] at hl hnx hend
  simp only[mkE,nkE,mkT,nkT] at hl hnx hend
  obtain⟨cs,hcs,hend⟩:=gS hend
  generalize hds:Enc.e xs[i]=ds
  rw[show ds=pm cs ds 0 from rfl]
  have hdl:9=ds.length:=Bq1
  have hlc:cs.length=ds.length:=Bxf
  have u0:cs[0]? = some (.v (.int .i64 K)):=Bqw
  have u1:cs[1]? = some (.v (.int .i64 (K+1))):=Bqw
  have u2:cs[2]? = some (.v (.int .i64 ((K+1)+1))):=Bqw
  have u3:cs[3]? = some (.v (.int .i64 (((K+1)+1)+1))):=Bqw
  have u4:cs[4]? = some (.v (.int .i64 ((((K+1)+1)+1)+1))):=Bqw
  have u5:cs[5]? = some (.v (.int .i64 (((((K+1)+1)+1)+1)+1))):=Bqw
  have u6:cs[6]? = some (.v (.int .i64 ((((((K+1)+1)+1)+1)+1)+1))):=Bqw
  have u7:cs[7]? = some (.v (.int .i64 (((((((K+1)+1)+1)+1)+1)+1)+1))):=Bqw
  have u8:cs[8]? = some (.v (.int .i64 ((((((((K+1)+1)+1)+1)+1)+1)+1)+1))):=Bqw
  have f3:decide ((i:Int)<((R.set i (pm cs ds 0)).length:Int))=true:=Gqb Bxc
  clear hcs hds hse
  refine Wz [15,33,77,50,86,119] ?_;refine AL.kp [1,0,5,0] [(0,Aqg 0)] 2 [(0,.row 9 (R.set i (pm cs ds 1)))] ?_;refine Wz [113,49,50,86,119] ?_;refine AL.kp [1,0,5,0] [(0,Aqg 0)] 2 [(0,.row 9 (R.set i (pm cs ds 2)))] ?_;refine Wz [113,49,50,86,119] ?_;refine AL.kp [1,0,5,0] [(0,Aqg 0)] 2 [(0,.row 9 (R.set i (pm cs ds 3)))] ?_;refine Wz [113,49,50,86,119] ?_;refine AL.kp [1,0,5,0] [(0,Aqg 0)] 2 [(0,.row 9 (R.set i (pm cs ds 4)))] ?_;refine Wz [113,49,50,86,119] ?_;refine AL.kp [1,0,5,0] [(0,Aqg 0)] 2 [(0,.row 9 (R.set i (pm cs ds 5)))] ?_;refine Wz [113,49,50,86,119] ?_;refine AL.kp [1,0,5,0] [(0,Aqg 0)] 2 [(0,.row 9 (R.set i (pm cs ds 6)))] ?_;refine Wz [113,49,50,86,119] ?_;refine AL.kp [1,0,5,0] [(0,Aqg 0)] 2 [(0,.row 9 (R.set i (pm cs ds 7)))] ?_;refine Wz [113,49,50,86,119] ?_;refine AL.kp [1,0,5,0] [(0,Aqg 0)] 2 [(0,.row 9 (R.set i (pm cs ds 8)))] ?_;refine Wz [113,49,50,86,119] ?_;refine AL.kp [1,0,5,0] [(0,Aqg 0)] 2 [(0,.row 9 (R.set i (pm cs ds 9)))] ?_;refine Wz [1,27,13,110] ?_
  replace hend:=hend.trans (congrArg (R.set i) (show cs=pm cs ds 9 by rw[pm,Gqj (show cs.length≤9 by rw[hlc,←hdl]; exact Gqi _),List.drop_of_length_le Bxg,Gqy]))
  exact .t (i+1) (Yk [0,1] Aqc J (Bxh) (.c J (.cons (X0 hnx.symm) (.c J (.nil)))))
 ·have f3:decide ((i:Int)<((mkEs ((els xs).take i) k++(els xs).drop i).length:Int))=false:=Gqa Aqa 
  have hk:=Gqj (show (els xs).length≤i by omega)
  have he:=Zv (show (els xs).length≤i by omega) k
  refine Wz [15,33,92,74] ?_
  exact Bzo
theorem L_mkIntSS (xs:List (List Int)) (k:Int) (g:Enc.gd xs) (h0:0<k) (hb:nkEs (els xs) k≤1073741823):Co 43 [.row 1 (els xs),.gh 0 (.c (Aqk 0))] [.c (Aqk 0),ai k] [.row 1 (mkEs (els xs) k),.gh 0 (.c (Aqk 0))] (I (nkEs (els xs) k)):=by
 have va_:=@func43; have vb_:=@ntmps43; let vc_:=1; have vd_:=@L_mkIntS; exact Bqp
theorem L_mkTrackS (xs:List (TTrack)) (k:Int) (g:Enc.gd xs) (h0:0<k) (hb:nkEs (els xs) k≤1073741823):Co 113 [.row 1 (els xs),.gh 0 (.c (Aqk 0))] [.c (Aqk 0),ai k] [.row 1 (mkEs (els xs) k),.gh 0 (.c (Aqk 0))] (I (nkEs (els xs) k)):=by
 have hn:=Y7 xs
 have hn1:=g.1
 refine Con.o func113 ntmps113 fun E=>?_;refine Wz [23,107] ?_;refine A_lt xs.length (fun i => [(0,Aqg 0),(1,I (nkEs ((els xs).take i) k)),(5,I i)]) (fun i => [.row 1 (mkEs ((els xs).take i) k++(els xs).drop i),.gh 0 (.c (Aqk 0))]) (Yj [0,1] Aqb) ?_
 intro m_A i hk_A
 have hl2:=Zw (es:=els xs) (i:=i) k
 by_cases h3:i<xs.length
 ·have hat:(els xs)[i]? = some (Enc.e xs[i]):=Y4 h3
  have hg:=g.2 _ (Gqe h3)
  have hl:=Int.le_trans (Z0 hat k) hb
  have hi:=Z1 ((els xs).take i) k
  have hend:=Zu hat k
  have hnx:=Z3 hat k
  have hq:=mt_lt hat k
  have hse:=Zy hat k
  rw[hse]
  generalize mkEs ((els xs).take i) k++(els xs).drop i=R at hq hend hl2 ⊢
  generalize nkEs ((els xs).take i) k=K at hl hi hend hnx ⊢
  have hq:(i:Int).toNat<R.length:=hq
  have hco:Enc.e xs[i] = [.sl 1 (els xs[i].Inputs)]:=Aqb
  rw[hco] at hl hnx hend
  simp only[mkE,nkE,mkT,nkT] at hl hnx hend
  obtain⟨K1,h1,m1⟩:=gK (els xs[i].Inputs) (K)
  simp only[h1] at hl hnx hend
  have c1:=L_mkIntS xs[i].Inputs K hg Aqa Aqa 
  rw[h1] at c1
  obtain⟨cs,hcs,hend⟩:=gS hend
  generalize hds:Enc.e xs[i]=ds
  rw[show ds=pm cs ds 0 from rfl]
  have hdl:1=ds.length:=Bq1
  have hlc:cs.length=ds.length:=Bxf
  have u0:cs[0]? = some (.sl 1 (mkEs (els xs[i].Inputs) K)):=Bqw
  have d0:ds[0]? = some (.sl 1 (els xs[i].Inputs)):=Bq1
  have f3:decide ((i:Int)<((R.set i (pm cs ds 0)).length:Int))=true:=Gqb Bxc
  clear hcs hds hse
  refine Wz [15,33,77,27,0,86,185,0] ?_;refine X9 c1 J J J J J J J J Aqe Aqe Aqe Aqe  (z1 J ?_);refine AL.kp [1,0,5,0] [(0,Aqg 0)] 2 [(0,.row 1 (R.set i (pm cs ds 1)))] ?_;refine Wz [130] ?_
  replace hend:=hend.trans (congrArg (R.set i) (show cs=pm cs ds 1 by rw[pm,Gqj (show cs.length≤1 by rw[hlc,←hdl]; exact Gqi _),List.drop_of_length_le Bxg,Gqy]))
  exact .t (i+1) (Yk [0,1] Aqc J (Bxh) (.c J (.cons (X0 hnx.symm) (.c J (.nil)))))
 ·have f3:decide ((i:Int)<((mkEs ((els xs).take i) k++(els xs).drop i).length:Int))=false:=Gqa Aqa 
  have hk:=Gqj (show (els xs).length≤i by omega)
  have he:=Zv (show (els xs).length≤i by omega) k
  refine Wz [15,33,92,74] ?_
  exact Bzo
theorem L_mkSaveS (xs:List (TSave)) (k:Int) (g:Enc.gd xs) (h0:0<k) (hb:nkEs (els xs) k≤1073741823):Co 115 [.row 2 (els xs),.gh 0 (.c (Aqk 0))] [.c (Aqk 0),ai k] [.row 2 (mkEs (els xs) k),.gh 0 (.c (Aqk 0))] (I (nkEs (els xs) k)):=by
 have hn:=Y7 xs
 have hn1:=g.1
 refine Con.o func115 ntmps115 fun E=>?_;refine Wz [23,107] ?_;refine A_lt xs.length (fun i => [(0,Aqg 0),(1,I (nkEs ((els xs).take i) k)),(5,I i)]) (fun i => [.row 2 (mkEs ((els xs).take i) k++(els xs).drop i),.gh 0 (.c (Aqk 0))]) (Yj [0,1] Aqb) ?_
 intro m_A i hk_A
 have hl2:=Zw (es:=els xs) (i:=i) k
 by_cases h3:i<xs.length
 ·have hat:(els xs)[i]? = some (Enc.e xs[i]):=Y4 h3
  have hg:=g.2 _ (Gqe h3)
  have hl:=Int.le_trans (Z0 hat k) hb
  have hi:=Z1 ((els xs).take i) k
  have hend:=Zu hat k
  have hnx:=Z3 hat k
  have hq:=mt_lt hat k
  have hse:=Zy hat k
  rw[hse]
  generalize mkEs ((els xs).take i) k++(els xs).drop i=R at hq hend hl2 ⊢
  generalize nkEs ((els xs).take i) k=K at hl hi hend hnx ⊢
  have hq:(i:Int).toNat<R.length:=hq
  have hco:Enc.e xs[i] = [.v (.int .i64 xs[i].Tick),.v (.string xs[i].Delta)]:=Aqb
  rw[hco] at hl hnx hend
  simp only[mkE,nkE,mkT,nkT] at hl hnx hend
  obtain⟨cs,hcs,hend⟩:=gS hend
  generalize hds:Enc.e xs[i]=ds
  rw[show ds=pm cs ds 0 from rfl]
  have hdl:2=ds.length:=Bq1
  have hlc:cs.length=ds.length:=Bxf
  have u0:cs[0]? = some (.v (.int .i64 K)):=Bqw
  have u1:cs[1]? = some (.v (.string (mtext (K+1)))):=Bqw
  have f3:decide ((i:Int)<((R.set i (pm cs ds 0)).length:Int))=true:=Gqb Bxc
  clear hcs hds hse
  refine Wz [15,33,77,50,86,119] ?_;refine AL.kp [1,0,5,0] [(0,Aqg 0)] 2 [(0,.row 2 (R.set i (pm cs ds 1)))] ?_;refine Wz [113,49,50] ?_;refine zx (Qj J J (X4 _ Aqa) J) J ?_;refine Wz [86,119] ?_;refine AL.kp [1,0,5,0] [(0,Aqg 0)] 2 [(0,.row 2 (R.set i (pm cs ds 2)))] ?_;refine Wz [1,27,13,110] ?_
  replace hend:=hend.trans (congrArg (R.set i) (show cs=pm cs ds 2 by rw[pm,Gqj (show cs.length≤2 by rw[hlc,←hdl]; exact Gqi _),List.drop_of_length_le Bxg,Gqy]))
  exact .t (i+1) (Yk [0,1] Aqc J (Bxh) (.c J (.cons (X0 hnx.symm) (.c J (.nil)))))
 ·have f3:decide ((i:Int)<((mkEs ((els xs).take i) k++(els xs).drop i).length:Int))=false:=Gqa Aqa 
  have hk:=Gqj (show (els xs).length≤i by omega)
  have he:=Zv (show (els xs).length≤i by omega) k
  refine Wz [15,33,92,74] ?_
  exact Bzo
theorem L_mkPeerS (xs:List (TPeer)) (k:Int) (g:Enc.gd xs) (h0:0<k) (hb:nkEs (els xs) k≤1073741823):Co 44 [.row 23 (els xs),.gh 0 (.c (Aqk 0))] [.c (Aqk 0),ai k] [.row 23 (mkEs (els xs) k),.gh 0 (.c (Aqk 0))] (I (nkEs (els xs) k)):=by
 have hn:=Y7 xs
 have hn1:=g.1
 refine Con.o func44 ntmps44 fun E=>?_;refine Wz [23,107] ?_;refine A_lt xs.length (fun i => [(0,Aqg 0),(1,I (nkEs ((els xs).take i) k)),(5,I i)]) (fun i => [.row 23 (mkEs ((els xs).take i) k++(els xs).drop i),.gh 0 (.c (Aqk 0))]) (Yj [0,1] Aqb) ?_
 intro m_A i hk_A
 have hl2:=Zw (es:=els xs) (i:=i) k
 by_cases h3:i<xs.length
 ·have hat:(els xs)[i]? = some (Enc.e xs[i]):=Y4 h3
  have hg:=g.2 _ (Gqe h3)
  have hl:=Int.le_trans (Z0 hat k) hb
  have hi:=Z1 ((els xs).take i) k
  have hend:=Zu hat k
  have hnx:=Z3 hat k
  have hq:=mt_lt hat k
  have hse:=Zy hat k
  rw[hse]
  generalize mkEs ((els xs).take i) k++(els xs).drop i=R at hq hend hl2 ⊢
  generalize nkEs ((els xs).take i) k=K at hl hi hend hnx ⊢
  have hq:(i:Int).toNat<R.length:=hq
  have hco:Enc.e xs[i] = [.v (.int .i64 xs[i].Me),.v (.int .i64 xs[i].Delay),.v (.int .i64 xs[i].Ahead),.v (.int .i64 xs[i].Seed),.sl 1 (els xs[i].Tracks),.sl 1 (els xs[i].Base.Level.Rows),.v (.int .i64 xs[i].Base.Tick),.v (.int .i64 xs[i].Base.Seed),.sl 1 (els xs[i].Base.Scores),.sl 9 (els xs[i].Base.Bodies),.sl 1 (els xs[i].Now.Level.Rows),.v (.int .i64 xs[i].Now.Tick),.v (.int .i64 xs[i].Now.Seed),.sl 1 (els xs[i].Now.Scores),.sl 9 (els xs[i].Now.Bodies),.sl 1 (els xs[i].Used),.sl 2 (els xs[i].Saves),.sl 1 (els xs[i].Sums),.v (.int .i64 xs[i].Fault.Tick),.v (.int .i64 xs[i].Fault.Player),.v (.int .i64 xs[i].Fault.Add),.v (.int .i64 xs[i].Rolls),.v (.int .i64 xs[i].Again)]:=Aqb
  rw[hco] at hl hnx hend
  simp only[mkE,nkE,mkT,nkT] at hl hnx hend
  obtain⟨K1,h1,m1⟩:=gK (els xs[i].Tracks) (((((K+1)+1)+1)+1))
  obtain⟨K2,h2,m2⟩:=gK (els xs[i].Base.Level.Rows) (K1)
  obtain⟨K3,h3,m3⟩:=gK (els xs[i].Base.Scores) (((K2+1)+1))
  obtain⟨K4,h4,m4⟩:=gK (els xs[i].Base.Bodies) (K3)
  obtain⟨K5,h5,m5⟩:=gK (els xs[i].Now.Level.Rows) (K4)
  obtain⟨K6,h6,m6⟩:=gK (els xs[i].Now.Scores) (((K5+1)+1))
  obtain⟨K7,h7,m7⟩:=gK (els xs[i].Now.Bodies) (K6)
  obtain⟨K8,h8,m8⟩:=gK (els xs[i].Used) (K7)
  obtain⟨K9,h9,m9⟩:=gK (els xs[i].Saves) (K8)
  obtain⟨K10,h10,m10⟩:=gK (els xs[i].Sums) (K9)
  simp only[h1,h2,h3,h4,h5,h6,h7,h8,h9,h10] at hl hnx hend
  have c1:=L_mkTrackS xs[i].Tracks ((((K+1)+1)+1)+1) hg.2.2.2.2.1 Aqa Aqa 
  rw[h1] at c1
  have c2:=X5 xs[i].Base.Level.Rows K1 hg.2.2.2.2.2.1.1 Aqa Aqa 
  rw[h2] at c2
  have c3:=L_mkIntS xs[i].Base.Scores ((K2+1)+1) hg.2.2.2.2.2.1.2.2.2.1 Aqa Aqa 
  rw[h3] at c3
  have c4:=L_mkBodyS xs[i].Base.Bodies K3 hg.2.2.2.2.2.1.2.2.2.2 Aqa Aqa 
  rw[h4] at c4
  have c5:=X5 xs[i].Now.Level.Rows K4 hg.2.2.2.2.2.2.1.1 Aqa Aqa 
  rw[h5] at c5
  have c6:=L_mkIntS xs[i].Now.Scores ((K5+1)+1) hg.2.2.2.2.2.2.1.2.2.2.1 Aqa Aqa 
  rw[h6] at c6
  have c7:=L_mkBodyS xs[i].Now.Bodies K6 hg.2.2.2.2.2.2.1.2.2.2.2 Aqa Aqa 
  rw[h7] at c7
  have c8:=L_mkIntSS xs[i].Used K7 hg.2.2.2.2.2.2.2.1 Aqa Aqa 
  rw[h8] at c8
  have c9:=L_mkSaveS xs[i].Saves K8 hg.2.2.2.2.2.2.2.2.1 Aqa Aqa 
  rw[h9] at c9
  have c10:=L_mkIntS xs[i].Sums K9 hg.2.2.2.2.2.2.2.2.2.1 Aqa Aqa 
  rw[h10] at c10
  obtain⟨cs,hcs,hend⟩:=gS hend
  generalize hds:Enc.e xs[i]=ds
  rw[show ds=pm cs ds 0 from rfl]
  have hdl:23=ds.length:=Bq1
  have hlc:cs.length=ds.length:=Bxf
  have u0:cs[0]? = some (.v (.int .i64 K)):=Bqw
  have u1:cs[1]? = some (.v (.int .i64 (K+1))):=Bqw
  have u2:cs[2]? = some (.v (.int .i64 ((K+1)+1))):=Bqw
  have u3:cs[3]? = some (.v (.int .i64 (((K+1)+1)+1))):=Bqw
  have u4:cs[4]? = some (.sl 1 (mkEs (els xs[i].Tracks) ((((K+1)+1)+1)+1))):=Bqw
  have d4:ds[4]? = some (.sl 1 (els xs[i].Tracks)):=Bq1
  have u5:cs[5]? = some (.sl 1 (mkEs (els xs[i].Base.Level.Rows) K1)):=Bqw
  have d5:ds[5]? = some (.sl 1 (els xs[i].Base.Level.Rows)):=Bq1
  have u6:cs[6]? = some (.v (.int .i64 K2)):=Bqw
  have u7:cs[7]? = some (.v (.int .i64 (K2+1))):=Bqw
  have u8:cs[8]? = some (.sl 1 (mkEs (els xs[i].Base.Scores) ((K2+1)+1))):=Bqw
  have d8:ds[8]? = some (.sl 1 (els xs[i].Base.Scores)):=Bq1
  have u9:cs[9]? = some (.sl 9 (mkEs (els xs[i].Base.Bodies) K3)):=Bqw
  have d9:ds[9]? = some (.sl 9 (els xs[i].Base.Bodies)):=Bq1
  have u10:cs[10]? = some (.sl 1 (mkEs (els xs[i].Now.Level.Rows) K4)):=Bqw
  have d10:ds[10]? = some (.sl 1 (els xs[i].Now.Level.Rows)):=Bq1
  have u11:cs[11]? = some (.v (.int .i64 K5)):=Bqw
  have u12:cs[12]? = some (.v (.int .i64 (K5+1))):=Bqw
  have u13:cs[13]? = some (.sl 1 (mkEs (els xs[i].Now.Scores) ((K5+1)+1))):=Bqw
  have d13:ds[13]? = some (.sl 1 (els xs[i].Now.Scores)):=Bq1
  have u14:cs[14]? = some (.sl 9 (mkEs (els xs[i].Now.Bodies) K6)):=Bqw
  have d14:ds[14]? = some (.sl 9 (els xs[i].Now.Bodies)):=Bq1
  have u15:cs[15]? = some (.sl 1 (mkEs (els xs[i].Used) K7)):=Bqw
  have d15:ds[15]? = some (.sl 1 (els xs[i].Used)):=Bq1
  have u16:cs[16]? = some (.sl 2 (mkEs (els xs[i].Saves) K8)):=Bqw
  have d16:ds[16]? = some (.sl 2 (els xs[i].Saves)):=Bq1
  have u17:cs[17]? = some (.sl 1 (mkEs (els xs[i].Sums) K9)):=Bqw
  have d17:ds[17]? = some (.sl 1 (els xs[i].Sums)):=Bq1
  have u18:cs[18]? = some (.v (.int .i64 K10)):=Bqw
  have u19:cs[19]? = some (.v (.int .i64 (K10+1))):=Bqw
  have u20:cs[20]? = some (.v (.int .i64 ((K10+1)+1))):=Bqw
  have u21:cs[21]? = some (.v (.int .i64 (((K10+1)+1)+1))):=Bqw
  have u22:cs[22]? = some (.v (.int .i64 ((((K10+1)+1)+1)+1))):=Bqw
  have f3:decide ((i:Int)<((R.set i (pm cs ds 0)).length:Int))=true:=Gqb Bxc
  clear hcs hds hse
  refine Wz [15,33,77,50,86,119] ?_;refine AL.kp [1,0,5,0] [(0,Aqg 0)] 2 [(0,.row 23 (R.set i (pm cs ds 1)))] ?_;refine Wz [113,49,50,86,119] ?_;refine AL.kp [1,0,5,0] [(0,Aqg 0)] 2 [(0,.row 23 (R.set i (pm cs ds 2)))] ?_;refine Wz [113,49,50,86,119] ?_;refine AL.kp [1,0,5,0] [(0,Aqg 0)] 2 [(0,.row 23 (R.set i (pm cs ds 3)))] ?_;refine Wz [113,49,50,86,119] ?_;refine AL.kp [1,0,5,0] [(0,Aqg 0)] 2 [(0,.row 23 (R.set i (pm cs ds 4)))] ?_;refine Wz [113,49,10,86,185,0] ?_;refine X9 c1 J J J J J J J J Aqe Aqe Aqe Aqe  (z1 J ?_);refine AL.kp [1,0,5,0] [(0,Aqg 0)] 2 [(0,.row 23 (R.set i (pm cs ds 5)))] ?_;refine Wz [1,10,86,123,123,185,0] ?_;refine X9 c2 J J J J J J J J Aqe Aqe Aqe Aqe  (z1 J ?_);refine AL.kp [1,0,5,0] [(0,Aqg 0)] 2 [(0,.row 23 (R.set i (pm cs ds 6)))] ?_;refine Wz [1,50,86,123,119] ?_;refine AL.kp [1,0,5,0] [(0,Aqg 0)] 2 [(0,.row 23 (R.set i (pm cs ds 7)))] ?_;refine Wz [113,49,50,86,123,119] ?_;refine AL.kp [1,0,5,0] [(0,Aqg 0)] 2 [(0,.row 23 (R.set i (pm cs ds 8)))] ?_;refine Wz [113,49,10,86,123,185,0] ?_;refine X9 c3 J J J J J J J J Aqe Aqe Aqe Aqe  (z1 J ?_);refine AL.kp [1,0,5,0] [(0,Aqg 0)] 2 [(0,.row 23 (R.set i (pm cs ds 9)))] ?_;refine Wz [1,10,86,123,185,0] ?_;refine X9 c4 J J J J J J J J Aqe Aqe Aqe Aqe  (z1 J ?_);refine AL.kp [1,0,5,0] [(0,Aqg 0)] 2 [(0,.row 23 (R.set i (pm cs ds 10)))] ?_;refine Wz [1,10,86,123,123,185,0] ?_;refine X9 c5 J J J J J J J J Aqe Aqe Aqe Aqe  (z1 J ?_);refine AL.kp [1,0,5,0] [(0,Aqg 0)] 2 [(0,.row 23 (R.set i (pm cs ds 11)))] ?_;refine Wz [1,50,86,123,119] ?_;refine AL.kp [1,0,5,0] [(0,Aqg 0)] 2 [(0,.row 23 (R.set i (pm cs ds 12)))] ?_;refine Wz [113,49,50,86,123,119] ?_;refine AL.kp [1,0,5,0] [(0,Aqg 0)] 2 [(0,.row 23 (R.set i (pm cs ds 13)))] ?_;refine Wz [113,49,10,86,123,185,0] ?_;refine X9 c6 J J J J J J J J Aqe Aqe Aqe Aqe  (z1 J ?_);refine AL.kp [1,0,5,0] [(0,Aqg 0)] 2 [(0,.row 23 (R.set i (pm cs ds 14)))] ?_;refine Wz [1,10,86,123,185,0] ?_;refine X9 c7 J J J J J J J J Aqe Aqe Aqe Aqe  (z1 J ?_);refine AL.kp [1,0,5,0] [(0,Aqg 0)] 2 [(0,.row 23 (R.set i (pm cs ds 15)))] ?_;refine Wz [1,10,86,185,0] ?_;refine X9 c8 J J J J J J J J Aqe Aqe Aqe Aqe  (z1 J ?_);refine AL.kp [1,0,5,0] [(0,Aqg 0)] 2 [(0,.row 23 (R.set i (pm cs ds 16)))] ?_;refine Wz [1,10,86,185,0] ?_;refine X9 c9 J J J J J J J J Aqe Aqe Aqe Aqe  (z1 J ?_);refine AL.kp [1,0,5,0] [(0,Aqg 0)] 2 [(0,.row 23 (R.set i (pm cs ds 17)))] ?_;refine Wz [1,10,86,185,0] ?_;refine X9 c10 J J J J J J J J Aqe Aqe Aqe Aqe  (z1 J ?_);refine AL.kp [1,0,5,0] [(0,Aqg 0)] 2 [(0,.row 23 (R.set i (pm cs ds 18)))] ?_;refine Wz [1,50,86,123,119] ?_;refine AL.kp [1,0,5,0] [(0,Aqg 0)] 2 [(0,.row 23 (R.set i (pm cs ds 19)))] ?_;refine Wz [113,49,50,86,123,119] ?_;refine AL.kp [1,0,5,0] [(0,Aqg 0)] 2 [(0,.row 23 (R.set i (pm cs ds 20)))] ?_;refine Wz [113,49,50,86,123,119] ?_;refine AL.kp [1,0,5,0] [(0,Aqg 0)] 2 [(0,.row 23 (R.set i (pm cs ds 21)))] ?_;refine Wz [113,49,50,86,119] ?_;refine AL.kp [1,0,5,0] [(0,Aqg 0)] 2 [(0,.row 23 (R.set i (pm cs ds 22)))] ?_;refine Wz [113,49,50,86,119] ?_;refine AL.kp [1,0,5,0] [(0,Aqg 0)] 2 [(0,.row 23 (R.set i (pm cs ds 23)))] ?_;refine Wz [1,27,13,110] ?_
  replace hend:=hend.trans (congrArg (R.set i) (show cs=pm cs ds 23 by rw[pm,Gqj (show cs.length≤23 by rw[hlc,←hdl]; exact Gqi _),List.drop_of_length_le Bxg,Gqy]))
  exact .t (i+1) (Yk [0,1] Aqc J (Bxh) (.c J (.cons (X0 hnx.symm) (.c J (.nil)))))
 ·have f3:decide ((i:Int)<((mkEs ((els xs).take i) k++(els xs).drop i).length:Int))=false:=Gqa Aqa 
  have hk:=Gqj (show (els xs).length≤i by omega)
  have he:=Zv (show (els xs).length≤i by omega) k
  refine Wz [15,33,92,74] ?_
  exact Bzo
theorem L_mkFlightS (xs:List (TFlight)) (k:Int) (g:Enc.gd xs) (h0:0<k) (hb:nkEs (els xs) k≤1073741823):Co 117 [.row 2 (els xs),.gh 0 (.c (Aqk 0))] [.c (Aqk 0),ai k] [.row 2 (mkEs (els xs) k),.gh 0 (.c (Aqk 0))] (I (nkEs (els xs) k)):=by
 have hn:=Y7 xs
 have hn1:=g.1
 refine Con.o func117 ntmps117 fun E=>?_;refine Wz [23,107] ?_;refine A_lt xs.length (fun i => [(0,Aqg 0),(1,I (nkEs ((els xs).take i) k)),(5,I i)]) (fun i => [.row 2 (mkEs ((els xs).take i) k++(els xs).drop i),.gh 0 (.c (Aqk 0))]) (Yj [0,1] Aqb) ?_
 intro m_A i hk_A
 have hl2:=Zw (es:=els xs) (i:=i) k
 by_cases h3:i<xs.length
 ·have hat:(els xs)[i]? = some (Enc.e xs[i]):=Y4 h3
  have hg:=g.2 _ (Gqe h3)
  have hl:=Int.le_trans (Z0 hat k) hb
  have hi:=Z1 ((els xs).take i) k
  have hend:=Zu hat k
  have hnx:=Z3 hat k
  have hq:=mt_lt hat k
  have hse:=Zy hat k
  rw[hse]
  generalize mkEs ((els xs).take i) k++(els xs).drop i=R at hq hend hl2 ⊢
  generalize nkEs ((els xs).take i) k=K at hl hi hend hnx ⊢
  have hq:(i:Int).toNat<R.length:=hq
  have hco:Enc.e xs[i] = [.v (.int .i64 xs[i].At),.v (.string xs[i].Data)]:=Aqb
  rw[hco] at hl hnx hend
  simp only[mkE,nkE,mkT,nkT] at hl hnx hend
  obtain⟨cs,hcs,hend⟩:=gS hend
  generalize hds:Enc.e xs[i]=ds
  rw[show ds=pm cs ds 0 from rfl]
  have hdl:2=ds.length:=Bq1
  have hlc:cs.length=ds.length:=Bxf
  have u0:cs[0]? = some (.v (.int .i64 K)):=Bqw
  have u1:cs[1]? = some (.v (.string (mtext (K+1)))):=Bqw
  have f3:decide ((i:Int)<((R.set i (pm cs ds 0)).length:Int))=true:=Gqb Bxc
  clear hcs hds hse
  refine Wz [15,33,77,50,86,119] ?_;refine AL.kp [1,0,5,0] [(0,Aqg 0)] 2 [(0,.row 2 (R.set i (pm cs ds 1)))] ?_;refine Wz [113,49,50] ?_;refine zx (Qj J J (X4 _ Aqa) J) J ?_;refine Wz [86,119] ?_;refine AL.kp [1,0,5,0] [(0,Aqg 0)] 2 [(0,.row 2 (R.set i (pm cs ds 2)))] ?_;refine Wz [1,27,13,110] ?_
  replace hend:=hend.trans (congrArg (R.set i) (show cs=pm cs ds 2 by rw[pm,Gqj (show cs.length≤2 by rw[hlc,←hdl]; exact Gqi _),List.drop_of_length_le Bxg,Gqy]))
  exact .t (i+1) (Yk [0,1] Aqc J (Bxh) (.c J (.cons (X0 hnx.symm) (.c J (.nil)))))
 ·have f3:decide ((i:Int)<((mkEs ((els xs).take i) k++(els xs).drop i).length:Int))=false:=Gqa Aqa 
  have hk:=Gqj (show (els xs).length≤i by omega)
  have he:=Zv (show (els xs).length≤i by omega) k
  refine Wz [15,33,92,74] ?_
  exact Bzo
theorem L_mkWireS (xs:List (TWire)) (k:Int) (g:Enc.gd xs) (h0:0<k) (hb:nkEs (els xs) k≤1073741823):Co 48 [.row 10 (els xs),.gh 0 (.c (Aqk 0))] [.c (Aqk 0),ai k] [.row 10 (mkEs (els xs) k),.gh 0 (.c (Aqk 0))] (I (nkEs (els xs) k)):=by
 have hn:=Y7 xs
 have hn1:=g.1
 refine Con.o func48 ntmps48 fun E=>?_;refine Wz [23,107] ?_;refine A_lt xs.length (fun i => [(0,Aqg 0),(1,I (nkEs ((els xs).take i) k)),(5,I i)]) (fun i => [.row 10 (mkEs ((els xs).take i) k++(els xs).drop i),.gh 0 (.c (Aqk 0))]) (Yj [0,1] Aqb) ?_
 intro m_A i hk_A
 have hl2:=Zw (es:=els xs) (i:=i) k
 by_cases h3:i<xs.length
 ·have hat:(els xs)[i]? = some (Enc.e xs[i]):=Y4 h3
  have hg:=g.2 _ (Gqe h3)
  have hl:=Int.le_trans (Z0 hat k) hb
  have hi:=Z1 ((els xs).take i) k
  have hend:=Zu hat k
  have hnx:=Z3 hat k
  have hq:=mt_lt hat k
  have hse:=Zy hat k
  rw[hse]
  generalize mkEs ((els xs).take i) k++(els xs).drop i=R at hq hend hl2 ⊢
  generalize nkEs ((els xs).take i) k=K at hl hi hend hnx ⊢
  have hq:(i:Int).toNat<R.length:=hq
  have hco:Enc.e xs[i] = [.v (.int .i64 xs[i].Seed),.v (.int .i64 xs[i].Delay),.v (.int .i64 xs[i].Jitter),.v (.int .i64 xs[i].Loss),.v (.int .i64 xs[i].Copies),.v (.int .i64 xs[i].Damage),.v (.int .i64 xs[i].Now),.sl 2 (els xs[i].Flights),.v (.int .i64 xs[i].Sent),.v (.int .i64 xs[i].Lost)]:=Aqb
  rw[hco] at hl hnx hend
  simp only[mkE,nkE,mkT,nkT] at hl hnx hend
  obtain⟨K1,h1,m1⟩:=gK (els xs[i].Flights) ((((((((K+1)+1)+1)+1)+1)+1)+1))
  simp only[h1] at hl hnx hend
  have c1:=L_mkFlightS xs[i].Flights (((((((K+1)+1)+1)+1)+1)+1)+1) hg.2.2.2.2.2.2.2.1 Aqa Aqa 
  rw[h1] at c1
  obtain⟨cs,hcs,hend⟩:=gS hend
  generalize hds:Enc.e xs[i]=ds
  rw[show ds=pm cs ds 0 from rfl]
  have hdl:10=ds.length:=Bq1
  have hlc:cs.length=ds.length:=Bxf
  have u0:cs[0]? = some (.v (.int .i64 K)):=Bqw
  have u1:cs[1]? = some (.v (.int .i64 (K+1))):=Bqw
  have u2:cs[2]? = some (.v (.int .i64 ((K+1)+1))):=Bqw
  have u3:cs[3]? = some (.v (.int .i64 (((K+1)+1)+1))):=Bqw
  have u4:cs[4]? = some (.v (.int .i64 ((((K+1)+1)+1)+1))):=Bqw
  have u5:cs[5]? = some (.v (.int .i64 (((((K+1)+1)+1)+1)+1))):=Bqw
  have u6:cs[6]? = some (.v (.int .i64 ((((((K+1)+1)+1)+1)+1)+1))):=Bqw
  have u7:cs[7]? = some (.sl 2 (mkEs (els xs[i].Flights) (((((((K+1)+1)+1)+1)+1)+1)+1))):=Bqw
  have d7:ds[7]? = some (.sl 2 (els xs[i].Flights)):=Bq1
  have u8:cs[8]? = some (.v (.int .i64 K1)):=Bqw
  have u9:cs[9]? = some (.v (.int .i64 (K1+1))):=Bqw
  have f3:decide ((i:Int)<((R.set i (pm cs ds 0)).length:Int))=true:=Gqb Bxc
  clear hcs hds hse
  refine Wz [15,33,77,50,86,119] ?_;refine AL.kp [1,0,5,0] [(0,Aqg 0)] 2 [(0,.row 10 (R.set i (pm cs ds 1)))] ?_;refine Wz [113,49,50,86,119] ?_;refine AL.kp [1,0,5,0] [(0,Aqg 0)] 2 [(0,.row 10 (R.set i (pm cs ds 2)))] ?_;refine Wz [113,49,50,86,119] ?_;refine AL.kp [1,0,5,0] [(0,Aqg 0)] 2 [(0,.row 10 (R.set i (pm cs ds 3)))] ?_;refine Wz [113,49,50,86,119] ?_;refine AL.kp [1,0,5,0] [(0,Aqg 0)] 2 [(0,.row 10 (R.set i (pm cs ds 4)))] ?_;refine Wz [113,49,50,86,119] ?_;refine AL.kp [1,0,5,0] [(0,Aqg 0)] 2 [(0,.row 10 (R.set i (pm cs ds 5)))] ?_;refine Wz [113,49,50,86,119] ?_;refine AL.kp [1,0,5,0] [(0,Aqg 0)] 2 [(0,.row 10 (R.set i (pm cs ds 6)))] ?_;refine Wz [113,49,50,86,119] ?_;refine AL.kp [1,0,5,0] [(0,Aqg 0)] 2 [(0,.row 10 (R.set i (pm cs ds 7)))] ?_;refine Wz [113,49,10,86,185,0] ?_;refine X9 c1 J J J J J J J J Aqe Aqe Aqe Aqe  (z1 J ?_);refine AL.kp [1,0,5,0] [(0,Aqg 0)] 2 [(0,.row 10 (R.set i (pm cs ds 8)))] ?_;refine Wz [1,50,86,119] ?_;refine AL.kp [1,0,5,0] [(0,Aqg 0)] 2 [(0,.row 10 (R.set i (pm cs ds 9)))] ?_;refine Wz [113,49,50,86,119] ?_;refine AL.kp [1,0,5,0] [(0,Aqg 0)] 2 [(0,.row 10 (R.set i (pm cs ds 10)))] ?_;refine Wz [1,27,13,110] ?_
  replace hend:=hend.trans (congrArg (R.set i) (show cs=pm cs ds 10 by rw[pm,Gqj (show cs.length≤10 by rw[hlc,←hdl]; exact Gqi _),List.drop_of_length_le Bxg,Gqy]))
  exact .t (i+1) (Yk [0,1] Aqc J (Bxh) (.c J (.cons (X0 hnx.symm) (.c J (.nil)))))
 ·have f3:decide ((i:Int)<((mkEs ((els xs).take i) k++(els xs).drop i).length:Int))=false:=Gqa Aqa 
  have hk:=Gqj (show (els xs).length≤i by omega)
  have he:=Zv (show (els xs).length≤i by omega) k
  refine Wz [15,33,92,74] ?_
  exact Bzo
theorem L_mkWireSS (xs:List (List TWire)) (k:Int) (g:Enc.gd xs) (h0:0<k) (hb:nkEs (els xs) k≤1073741823):Co 45 [.row 1 (els xs),.gh 0 (.c (Aqk 0))] [.c (Aqk 0),ai k] [.row 1 (mkEs (els xs) k),.gh 0 (.c (Aqk 0))] (I (nkEs (els xs) k)):=by
 have va_:=@func45; have vb_:=@ntmps45; let vc_:=10; have vd_:=@L_mkWireS; exact Bqp
theorem L_mkPaceS (xs:List (TPace)) (k:Int) (g:Enc.gd xs) (h0:0<k) (hb:nkEs (els xs) k≤1073741823):Co 116 [.row 5 (els xs),.gh 0 (.c (Aqk 0))] [.c (Aqk 0),ai k] [.row 5 (mkEs (els xs) k),.gh 0 (.c (Aqk 0))] (I (nkEs (els xs) k)):=by
 have hn:=Y7 xs
 have hn1:=g.1
 refine Con.o func116 ntmps116 fun E=>?_;refine Wz [23,107] ?_;refine A_lt xs.length (fun i => [(0,Aqg 0),(1,I (nkEs ((els xs).take i) k)),(5,I i)]) (fun i => [.row 5 (mkEs ((els xs).take i) k++(els xs).drop i),.gh 0 (.c (Aqk 0))]) (Yj [0,1] Aqb) ?_
 intro m_A i hk_A
 have hl2:=Zw (es:=els xs) (i:=i) k
 by_cases h3:i<xs.length
 ·have hat:(els xs)[i]? = some (Enc.e xs[i]):=Y4 h3
  have hg:=g.2 _ (Gqe h3)
  have hl:=Int.le_trans (Z0 hat k) hb
  have hi:=Z1 ((els xs).take i) k
  have hend:=Zu hat k
  have hnx:=Z3 hat k
  have hq:=mt_lt hat k
  have hse:=Zy hat k
  rw[hse]
  generalize mkEs ((els xs).take i) k++(els xs).drop i=R at hq hend hl2 ⊢
  generalize nkEs ((els xs).take i) k=K at hl hi hend hnx ⊢
  have hq:(i:Int).toNat<R.length:=hq
  have hco:Enc.e xs[i] = [.v (.int .i64 xs[i].Newest),.v (.int .i64 xs[i].Their),.v (.int .i64 xs[i].At),.v (.int .i64 xs[i].Trip),.v (.int .i64 xs[i].Samples)]:=Aqb
  rw[hco] at hl hnx hend
  simp only[mkE,nkE,mkT,nkT] at hl hnx hend
  obtain⟨cs,hcs,hend⟩:=gS hend
  generalize hds:Enc.e xs[i]=ds
  rw[show ds=pm cs ds 0 from rfl]
  have hdl:5=ds.length:=Bq1
  have hlc:cs.length=ds.length:=Bxf
  have u0:cs[0]? = some (.v (.int .i64 K)):=Bqw
  have u1:cs[1]? = some (.v (.int .i64 (K+1))):=Bqw
  have u2:cs[2]? = some (.v (.int .i64 ((K+1)+1))):=Bqw
  have u3:cs[3]? = some (.v (.int .i64 (((K+1)+1)+1))):=Bqw
  have u4:cs[4]? = some (.v (.int .i64 ((((K+1)+1)+1)+1))):=Bqw
  have f3:decide ((i:Int)<((R.set i (pm cs ds 0)).length:Int))=true:=Gqb Bxc
  clear hcs hds hse
  refine Wz [15,33,77,50,86,119] ?_;refine AL.kp [1,0,5,0] [(0,Aqg 0)] 2 [(0,.row 5 (R.set i (pm cs ds 1)))] ?_;refine Wz [113,49,50,86,119] ?_;refine AL.kp [1,0,5,0] [(0,Aqg 0)] 2 [(0,.row 5 (R.set i (pm cs ds 2)))] ?_;refine Wz [113,49,50,86,119] ?_;refine AL.kp [1,0,5,0] [(0,Aqg 0)] 2 [(0,.row 5 (R.set i (pm cs ds 3)))] ?_;refine Wz [113,49,50,86,119] ?_;refine AL.kp [1,0,5,0] [(0,Aqg 0)] 2 [(0,.row 5 (R.set i (pm cs ds 4)))] ?_;refine Wz [113,49,50,86,119] ?_;refine AL.kp [1,0,5,0] [(0,Aqg 0)] 2 [(0,.row 5 (R.set i (pm cs ds 5)))] ?_;refine Wz [1,27,13,110] ?_
  replace hend:=hend.trans (congrArg (R.set i) (show cs=pm cs ds 5 by rw[pm,Gqj (show cs.length≤5 by rw[hlc,←hdl]; exact Gqi _),List.drop_of_length_le Bxg,Gqy]))
  exact .t (i+1) (Yk [0,1] Aqc J (Bxh) (.c J (.cons (X0 hnx.symm) (.c J (.nil)))))
 ·have f3:decide ((i:Int)<((mkEs ((els xs).take i) k++(els xs).drop i).length:Int))=false:=Gqa Aqa 
  have hk:=Gqj (show (els xs).length≤i by omega)
  have he:=Zv (show (els xs).length≤i by omega) k
  refine Wz [15,33,92,74] ?_
  exact Bzo
theorem L_mkPaceSS (xs:List (List TPace)) (k:Int) (g:Enc.gd xs) (h0:0<k) (hb:nkEs (els xs) k≤1073741823):Co 46 [.row 1 (els xs),.gh 0 (.c (Aqk 0))] [.c (Aqk 0),ai k] [.row 1 (mkEs (els xs) k),.gh 0 (.c (Aqk 0))] (I (nkEs (els xs) k)):=by
 have va_:=@func46; have vb_:=@ntmps46; let vc_:=5; have vd_:=@L_mkPaceS; exact Bqp
theorem L_mkSpectatorS (xs:List (TSpectator)) (k:Int) (g:Enc.gd xs) (h0:0<k) (hb:nkEs (els xs) k≤1073741823):Co 47 [.row 6 (els xs),.gh 0 (.c (Aqk 0))] [.c (Aqk 0),ai k] [.row 6 (mkEs (els xs) k),.gh 0 (.c (Aqk 0))] (I (nkEs (els xs) k)):=by
 have hn:=Y7 xs
 have hn1:=g.1
 refine Con.o func47 ntmps47 fun E=>?_;refine Wz [23,107] ?_;refine A_lt xs.length (fun i => [(0,Aqg 0),(1,I (nkEs ((els xs).take i) k)),(5,I i)]) (fun i => [.row 6 (mkEs ((els xs).take i) k++(els xs).drop i),.gh 0 (.c (Aqk 0))]) (Yj [0,1] Aqb) ?_
 intro m_A i hk_A
 have hl2:=Zw (es:=els xs) (i:=i) k
 by_cases h3:i<xs.length
 ·have hat:(els xs)[i]? = some (Enc.e xs[i]):=Y4 h3
  have hg:=g.2 _ (Gqe h3)
  have hl:=Int.le_trans (Z0 hat k) hb
  have hi:=Z1 ((els xs).take i) k
  have hend:=Zu hat k
  have hnx:=Z3 hat k
  have hq:=mt_lt hat k
  have hse:=Zy hat k
  rw[hse]
  generalize mkEs ((els xs).take i) k++(els xs).drop i=R at hq hend hl2 ⊢
  generalize nkEs ((els xs).take i) k=K at hl hi hend hnx ⊢
  have hq:(i:Int).toNat<R.length:=hq
  have hco:Enc.e xs[i] = [.sl 1 (els xs[i].World.Level.Rows),.v (.int .i64 xs[i].World.Tick),.v (.int .i64 xs[i].World.Seed),.sl 1 (els xs[i].World.Scores),.sl 9 (els xs[i].World.Bodies),.v (.int .i64 xs[i].Gaps)]:=Aqb
  rw[hco] at hl hnx hend
  simp only[mkE,nkE,mkT,nkT] at hl hnx hend
  obtain⟨K1,h1,m1⟩:=gK (els xs[i].World.Level.Rows) (K)
  obtain⟨K2,h2,m2⟩:=gK (els xs[i].World.Scores) (((K1+1)+1))
  obtain⟨K3,h3,m3⟩:=gK (els xs[i].World.Bodies) (K2)
  simp only[h1,h2,h3] at hl hnx hend
  have c1:=X5 xs[i].World.Level.Rows K hg.1.1 Aqa Aqa 
  rw[h1] at c1
  have c2:=L_mkIntS xs[i].World.Scores ((K1+1)+1) hg.1.2.2.2.1 Aqa Aqa 
  rw[h2] at c2
  have c3:=L_mkBodyS xs[i].World.Bodies K2 hg.1.2.2.2.2 Aqa Aqa 
  rw[h3] at c3
  obtain⟨cs,hcs,hend⟩:=gS hend
  generalize hds:Enc.e xs[i]=ds
  rw[show ds=pm cs ds 0 from rfl]
  have hdl:6=ds.length:=Bq1
  have hlc:cs.length=ds.length:=Bxf
  have u0:cs[0]? = some (.sl 1 (mkEs (els xs[i].World.Level.Rows) K)):=Bqw
  have d0:ds[0]? = some (.sl 1 (els xs[i].World.Level.Rows)):=Bq1
  have u1:cs[1]? = some (.v (.int .i64 K1)):=Bqw
  have u2:cs[2]? = some (.v (.int .i64 (K1+1))):=Bqw
  have u3:cs[3]? = some (.sl 1 (mkEs (els xs[i].World.Scores) ((K1+1)+1))):=Bqw
  have d3:ds[3]? = some (.sl 1 (els xs[i].World.Scores)):=Bq1
  have u4:cs[4]? = some (.sl 9 (mkEs (els xs[i].World.Bodies) K2)):=Bqw
  have d4:ds[4]? = some (.sl 9 (els xs[i].World.Bodies)):=Bq1
  have u5:cs[5]? = some (.v (.int .i64 K3)):=Bqw
  have f3:decide ((i:Int)<((R.set i (pm cs ds 0)).length:Int))=true:=Gqb Bxc
  clear hcs hds hse
  refine Wz [15,33,77,10,86,123,123,185,0] ?_;refine X9 c1 J J J J J J J J Aqe Aqe Aqe Aqe  (z1 J ?_);refine AL.kp [1,0,5,0] [(0,Aqg 0)] 2 [(0,.row 6 (R.set i (pm cs ds 1)))] ?_;refine Wz [1,50,86,123,119] ?_;refine AL.kp [1,0,5,0] [(0,Aqg 0)] 2 [(0,.row 6 (R.set i (pm cs ds 2)))] ?_;refine Wz [113,49,50,86,123,119] ?_;refine AL.kp [1,0,5,0] [(0,Aqg 0)] 2 [(0,.row 6 (R.set i (pm cs ds 3)))] ?_;refine Wz [113,49,10,86,123,185,0] ?_;refine X9 c2 J J J J J J J J Aqe Aqe Aqe Aqe  (z1 J ?_);refine AL.kp [1,0,5,0] [(0,Aqg 0)] 2 [(0,.row 6 (R.set i (pm cs ds 4)))] ?_;refine Wz [1,10,86,123,185,0] ?_;refine X9 c3 J J J J J J J J Aqe Aqe Aqe Aqe  (z1 J ?_);refine AL.kp [1,0,5,0] [(0,Aqg 0)] 2 [(0,.row 6 (R.set i (pm cs ds 5)))] ?_;refine Wz [1,50,86,119] ?_;refine AL.kp [1,0,5,0] [(0,Aqg 0)] 2 [(0,.row 6 (R.set i (pm cs ds 6)))] ?_;refine Wz [1,27,13,110] ?_
  replace hend:=hend.trans (congrArg (R.set i) (show cs=pm cs ds 6 by rw[pm,Gqj (show cs.length≤6 by rw[hlc,←hdl]; exact Gqi _),List.drop_of_length_le Bxg,Gqy]))
  exact .t (i+1) (Yk [0,1] Aqc J (Bxh) (.c J (.cons (X0 hnx.symm) (.c J (.nil)))))
 ·have f3:decide ((i:Int)<((mkEs ((els xs).take i) k++(els xs).drop i).length:Int))=false:=Gqa Aqa 
  have hk:=Gqj (show (els xs).length≤i by omega)
  have he:=Zv (show (els xs).length≤i by omega) k
  refine Wz [15,33,92,74] ?_
  exact Bzo
theorem L_mkAlarmS (xs:List (TAlarm)) (k:Int) (g:Enc.gd xs) (h0:0<k) (hb:nkEs (els xs) k≤1073741823):Co 49 [.row 2 (els xs),.gh 0 (.c (Aqk 0))] [.c (Aqk 0),ai k] [.row 2 (mkEs (els xs) k),.gh 0 (.c (Aqk 0))] (I (nkEs (els xs) k)):=by
 have hn:=Y7 xs
 have hn1:=g.1
 refine Con.o func49 ntmps49 fun E=>?_;refine Wz [23,107] ?_;refine A_lt xs.length (fun i => [(0,Aqg 0),(1,I (nkEs ((els xs).take i) k)),(5,I i)]) (fun i => [.row 2 (mkEs ((els xs).take i) k++(els xs).drop i),.gh 0 (.c (Aqk 0))]) (Yj [0,1] Aqb) ?_
 intro m_A i hk_A
 have hl2:=Zw (es:=els xs) (i:=i) k
 by_cases h3:i<xs.length
 ·have hat:(els xs)[i]? = some (Enc.e xs[i]):=Y4 h3
  have hg:=g.2 _ (Gqe h3)
  have hl:=Int.le_trans (Z0 hat k) hb
  have hi:=Z1 ((els xs).take i) k
  have hend:=Zu hat k
  have hnx:=Z3 hat k
  have hq:=mt_lt hat k
  have hse:=Zy hat k
  rw[hse]
  generalize mkEs ((els xs).take i) k++(els xs).drop i=R at hq hend hl2 ⊢
  generalize nkEs ((els xs).take i) k=K at hl hi hend hnx ⊢
  have hq:(i:Int).toNat<R.length:=hq
  have hco:Enc.e xs[i] = [.v (.int .i64 xs[i].Tick),.sl 1 (els xs[i].Parts)]:=Aqb
  rw[hco] at hl hnx hend
  simp only[mkE,nkE,mkT,nkT] at hl hnx hend
  obtain⟨K1,h1,m1⟩:=gK (els xs[i].Parts) ((K+1))
  simp only[h1] at hl hnx hend
  have c1:=X5 xs[i].Parts (K+1) hg.2 Aqa Aqa 
  rw[h1] at c1
  obtain⟨cs,hcs,hend⟩:=gS hend
  generalize hds:Enc.e xs[i]=ds
  rw[show ds=pm cs ds 0 from rfl]
  have hdl:2=ds.length:=Bq1
  have hlc:cs.length=ds.length:=Bxf
  have u0:cs[0]? = some (.v (.int .i64 K)):=Bqw
  have u1:cs[1]? = some (.sl 1 (mkEs (els xs[i].Parts) (K+1))):=Bqw
  have d1:ds[1]? = some (.sl 1 (els xs[i].Parts)):=Bq1
  have f3:decide ((i:Int)<((R.set i (pm cs ds 0)).length:Int))=true:=Gqb Bxc
  clear hcs hds hse
  refine Wz [15,33,77,50,86,119] ?_;refine AL.kp [1,0,5,0] [(0,Aqg 0)] 2 [(0,.row 2 (R.set i (pm cs ds 1)))] ?_;refine Wz [113,49,27,0,86,185,0] ?_;refine X9 c1 J J J J J J J J Aqe Aqe Aqe Aqe  (z1 J ?_);refine AL.kp [1,0,5,0] [(0,Aqg 0)] 2 [(0,.row 2 (R.set i (pm cs ds 2)))] ?_;refine Wz [130] ?_
  replace hend:=hend.trans (congrArg (R.set i) (show cs=pm cs ds 2 by rw[pm,Gqj (show cs.length≤2 by rw[hlc,←hdl]; exact Gqi _),List.drop_of_length_le Bxg,Gqy]))
  exact .t (i+1) (Yk [0,1] Aqc J (Bxh) (.c J (.cons (X0 hnx.symm) (.c J (.nil)))))
 ·have f3:decide ((i:Int)<((mkEs ((els xs).take i) k++(els xs).drop i).length:Int))=false:=Gqa Aqa 
  have hk:=Gqj (show (els xs).length≤i by omega)
  have he:=Zv (show (els xs).length≤i by omega) k
  refine Wz [15,33,92,74] ?_
  exact Bzo
end
end Go.Proofs.YtalaljeokcpfnaaGreat
