/-
  What the laws write into the slices of a match, and what they read back.
  Conditions: numbers below 2^30.
-/
import Derived.Test.YtfklmiijhcajdaaGreatDDTellRowk19
set_option linter.unusedSimpArgs false
set_option linter.unusedVariables false
set_option maxRecDepth 8000
set_option maxHeartbeats 8000000
namespace Go.Proofs.YtfklmiijhcajdaaGreat
section
open Go.RowKit

mutual
def nkT:T→Int→Int
 | .sl _ es,k=>nkEs es k
 | .v _,k=>k+1
 |_,k=>k
def nkE:List T→Int→Int
 | [],k=>k
 |t::ts,k=>nkE ts (nkT t k)
def nkEs:List (List T)→Int→Int
 | [],k=>k
 |e::es,k=>nkEs es (nkE e k)
end
mutual
def mkT:T→Int→T
 | .sl n es,k => .sl n (mkEs es k)
 | .v (.string _),k => .v (.string (mtext k))
 | .v (.int .i64 _),k => .v (.int .i64 k)
 |t,_=>t
def mkE:List T→Int→List T
 | [],_ => []
 |t::ts,k=>mkT t k::mkE ts (nkT t k)
def mkEs:List (List T)→Int→List (List T)
 | [],_ => []
 |e::es,k=>mkE e k::mkEs es (nkE e k)
end
mutual
theorem nk_monoT:∀ (t:T) (k:Int),k≤nkT t k
 | .sl _ es,k=>Zb es k
 | .v _,k=>by simp only[nkT]; omega
 | .un,k=>Int.le_refl k
theorem nk_monoE:∀ (e:List T) (k:Int),k≤nkE e k
 | [],k=>Int.le_refl k
 |t::ts,k=>Int.le_trans (nk_monoT t k) (nk_monoE ts _)
theorem Zb:∀ (es:List (List T)) (k:Int),k≤nkEs es k
 | [],k=>Int.le_refl k
 |e::es,k=>Int.le_trans (nk_monoE e k) (Zb es _)
end
theorem nk_app:∀ (l r:List (List T)) (k:Int),nkEs (l++r) k=nkEs r (nkEs l k)
 | [],r,k=>rfl
 |e::l,r,k=>nk_app l r (nkE e k)
theorem mt_app:∀ (l r:List (List T)) (k:Int),mkEs (l++r) k=mkEs l k++mkEs r (nkEs l k)
 | [],r,k=>rfl
 |e::l,r,k=>congrArg (mkE e k::·) (mt_app l r (nkE e k))
theorem Y7:∀ (es:List (List T)) (k:Int),(mkEs es k).length=es.length
 | [],k=>rfl
 |e::es,k=>congrArg (· + 1) (Y7 es (nkE e k))
section
variable {es:List (List T)} {i:Nat} {e:List T} (h:es[i]? = some e) (k:Int)
include h
theorem tk_next:es.take (i+1)=es.take i ++ [e]:=by rw[List.take_add_one,h]; rfl
theorem Zc:nkEs (es.take (i+1)) k=nkE e (nkEs (es.take i) k):=by rw[tk_next h,nk_app]; rfl
theorem Za:nkE e (nkEs (es.take i) k)≤nkEs es k:=by
 rw[←Zc h]
 conv=>rhs; rw[←Gxg (i+1) es,nk_app]
 exact Zb _ _
theorem Y4:mkEs (es.take (i+1)) k++es.drop (i+1)=(mkEs (es.take i) k++es.drop i).set i (mkE e (nkEs (es.take i) k)):=by
 obtain⟨hi,rfl⟩:=Gqo.1 h
 have hl:(mkEs (es.take i) k).length=i:=by rw[Y7]; simp; omega
 rw[tk_next h,mt_app,List.set_append_right _ _ Aqa,show i-(mkEs (es.take i) k).length=0 by omega,Gxm hi,List.set_cons_zero,Gq5]
 rfl
theorem Y8:mkEs (es.take i) k++es.drop i=(mkEs (es.take i) k++es.drop i).set i e:=by
 obtain⟨hi,rfl⟩:=Gqo.1 h
 have hl:(mkEs (es.take i) k).length=i:=by rw[Y7]; simp; omega
 rw[List.set_append_right _ _ Aqa,show i-(mkEs (es.take i) k).length=0 by omega,Gxm hi,List.set_cons_zero]
theorem mt_lt:i<(mkEs (es.take i) k++es.drop i).length:=by
 obtain⟨hi,rfl⟩:=Gqo.1 h
 simp only[Gqp,Y7,Gq4,List.length_drop]
 omega
theorem mt_at:(mkEs es k)[i]? = some (mkE e (nkEs (es.take i) k)):=by
 obtain⟨hi,rfl⟩:=Gqo.1 h
 have hl:(mkEs (es.take i) k).length=i:=by rw[Y7]; simp; omega
 conv=>lhs; rw[←Gxg i es,mt_app,Gxm hi]
 rw[Gqy Aqa,show i-(mkEs (es.take i) k).length=0 by omega]
 rfl
end
theorem Y5 {es:List (List T)} {i:Nat} (h:es.length≤i) (k:Int):mkEs (es.take i) k++es.drop i=mkEs es k:=by rw[Gqh h,List.drop_of_length_le h,Gq1]
theorem Y6 {es:List (List T)} {i:Nat} (k:Int):(mkEs (es.take i) k++es.drop i).length=es.length:=by
 simp only[Gqp,Y7,Gq4,List.length_drop]
 omega
section
variable {P:Program} {E:Env} {ops:Array Oper} {o:Oper} {n m:Nat} {ts:List (Nat×V)} {obs:List Ob} {rest:List Oper} {Q:Exit→St→Prop} {t:TypeId} {y z:Operand} {qs:List Nat} {p kk i j:Nat} {es:List (List T)} {e:List T}
theorem Zn {et:TypeId} {zs:List Value} {by_:Nat} {k:IntKind} {a:Int} [hm:TyMake P t et zs by_] (ho:o.op = .indexAddr t y z) (hg:o.guard=none) (hy:St.ev ⟨n,ts,obs⟩ y = .o (.c (.ref p))) (hz:St.ev ⟨n,ts,obs⟩ z = .o (.c (.rd qs (.v (.int k a))))) (hp:obs[p]? = some (.row kk (es.set a.toNat e))) (h0:0≤a) (hq:a.toNat<es.length) :
  Qt P ops o ⟨n,ts,obs⟩ (.o (.c (.el p zs.length a.toNat 0))) [] m:=Q3 ho hg hy hz hp h0 (by rw[Gqx]; omega)
def pm (cs es:List T) (j:Nat):List T:=cs.take j++es.drop j
theorem pm_len {cs ds:List T} (h:cs.length=ds.length):(pm cs ds j).length=ds.length:=by simp[pm]; omega
theorem pm_at {cs ds:List T} {x:T} (h:cs.length=ds.length) (hx:ds[j]? = some x):(pm cs ds j)[j]? = some x:=by
 have hj:=Yu hx
 have hl:(cs.take j).length=j:=by simp; omega
 rw[pm,Gqy Aqa,Gxh,hl,show j+(j-j)=j by omega,hx]
theorem pm_set {cs ds:List T} {u:T} (h:cs.length=ds.length) (hu:cs[j]? = some u):splice (pm cs ds j) j [u]=pm cs ds (j+1):=by
 have hj:=Yu hu
 have hl:(cs.take j).length=j:=by simp; omega
 obtain⟨_,rfl⟩:=Gqo.1 hu
 rw[splice,pm,pm,List.take_append_of_le_length Aqa,Gqh Aqa,Gxk hj]
 congr 1
 rw[List.drop_append,List.drop_of_length_le (by simp; omega),List.nil_append,List.drop_drop,hl]
 congr 1
 simp only[Gq3,List.length_nil]
 omega
section
variable {cs ds:List T} (hl:cs.length=ds.length)
theorem Xx {c:V1} {u:T} {rs:List Nat} [TyOne P t] (ho:o.op = .store t y z) (hg:o.guard=none) (hd:o.dst=none) (hy:St.ev ⟨n,ts,obs⟩ y = .o (.c (.el p kk i j))) (hz:St.ev ⟨n,ts,obs⟩ z = .o (.c c)) (hp:obs[p]? = some (.row kk (es.set i (pm cs ds j)))) (hu:tkT obs c=u) (hrs:tkR c=rs)
  (hok:tkOk obs c=true) (hq:i<es.length) (hl:cs.length=ds.length) (hj:cs[j]? = some u) (hnd:nodupB (p::rs)=true)
  (h:AL P E ops Q rest ⟨n,ts.map fun e=>(e.1,e.2.kille p rs),gone ((obs.map (Ob.kille p rs)).set p (.row kk (es.set i (pm cs ds (j+1))))) rs⟩):AL P E ops Q (o::rest) ⟨n,ts,obs⟩ :=
 Xf ho hg hd hy hz hp hu hrs hok (List.getElem?_set_self hq) (by rw[pm_len hl]; exact Nat.ble_eq_true_of_le (by have:=Yu hj; omega)) hnd (by rw[List.set_set,pm_set hl hj]; exact h)
theorem Z1 {x:T} [TyOne P t] (ho:o.op = .load t y) (hg:o.guard=none) (hy:St.ev ⟨n,ts,obs⟩ y = .o (.c (.el p kk i j))) (hp:obs[p]? = some (.row kk (es.set i (pm cs ds j)))) (hq:i<es.length) (hl:cs.length=ds.length) (hx:ds[j]? = some x):Qt P ops o ⟨n,ts,obs⟩ (.o (.c (.le p kk i j))) [] m:=q_lee ho hg hy hp (List.getElem?_set_self hq) (pm_at hl hx)
theorem Xw {d k':Nat} {f:FuncId} [hf:FunOk P f] {ass':Array Operand} {tys:Array TypeId} {y0:Operand} {ys:List Operand} {args':List V2} {es0 es1:List (List T)} {wv:Value} {ps:List Nat}
  (hc:Con P f [.row k' es0,.gh 0 (.c (.ref 0))] (.c (.ref 0)::args') [.row k' es1,.gh 0 (.c (.ref 0))] (.o (.c (.rd ps (.v wv))))) (ho:o.op = .call { callee := .value (.func f),args:=ass',argTypes:=tys }) (hg:o.guard=none) (hd:o.dst=some d) (hld:Nat.blt d n=true) (has:ass'.toList=y0::ys)
  (hy:St.ev ⟨n,ts,obs⟩ y0 = .o (.c (.le p kk i j))) (hp:obs[p]? = some (.row kk (es.set i (pm cs ds j)))) (ha:ys.map (fun y=>lendx obs p (St.ev ⟨n,ts,obs⟩ y))=args') (hq:i<es.length) (hl:cs.length=ds.length) (hx:ds[j]? = some (.sl k' es0)) (hu:cs[j]? = some (.sl k' es1))
  (h:AL P E ops Q rest ⟨n,(d,.o (.c (.rd [] (.v wv))))::(ts.map fun e=>(e.1,e.2.mapk (V1.killw [p] [p]))),(obs.map (Ob.mapk (V1.killw [p] [p]))).set p (.row kk (es.set i (pm cs ds (j+1))))⟩):AL P E ops Q (o::rest) ⟨n,ts,obs⟩ :=
 M_inner hc ho hg hd hld has hy hp ha (List.getElem?_set_self hq) (pm_at hl hx) (by rw[List.set_set,pm_set hl hu]; exact h)
end
end
theorem Xu (xs:List (ByteArray)) (k:Int) (g:Enc.gd xs) (h0:0<k) (hb:nkEs (els xs) k≤1073741823):Con Tryz.prog 150 [.row 1 (els xs),.gh 0 (.c (.ref 0))] [.c (.ref 0),ai k] [.row 1 (mkEs (els xs) k),.gh 0 (.c (.ref 0))] (I (nkEs (els xs) k)):=by
 have hn:=Yi xs
 have hn1:=g.1
 refine Con.of Tryz.func150 J Tryz.ntmps150 J (fun E => ?_)
 refine Wz [12,11] ?_;refine Xh (fun m st=>∃ i:Nat,i+m=xs.length∧(True)∧st=(⟨20,[(0,Aqg 0),(1,I (nkEs ((els xs).take i) k)),(5,I i)],[.row 1 (mkEs ((els xs).take i) k++(els xs).drop i),.gh 0 (.c (.ref 0))]⟩:St)) (xs.length) ⟨_,⟨0,Aqa,trivial,J⟩,X3 [0,1] Aqb⟩ ?_
 rintro m_A _ ⟨i,hk_A,hp_A,rfl⟩
 have hl2:=Y6 (es:=els xs) (i:=i) k
 by_cases h3:i<xs.length
 ·have hat:(els xs)[i]? = some (Enc.e xs[i]):=Yg h3
  have hg:=g.2 _ (Gqe h3)
  have hl:=Int.le_trans (Za hat k) hb
  have hi:=Zb ((els xs).take i) k
  have hend:=Y4 hat k
  have hnx:=Zc hat k
  have hq:=mt_lt hat k
  have hse:=Y8 hat k
  rw[hse]
  generalize mkEs ((els xs).take i) k++(els xs).drop i=R at hq hend hl2 ⊢
  generalize nkEs ((els xs).take i) k=K at hl hi hend hnx ⊢
  have hq:(i:Int).toNat<R.length:=hq
  have e1:nkE (Enc.e xs[i]) K=(K+1):=Aqb
  have e2:mkE (Enc.e xs[i]) K = [.v (.string (mtext K))]:=Aqb
  rw[e1] at hl hnx
  rw[e2] at hend
  clear e1 e2
  have hco:Enc.e xs[i] = [.v (.string xs[i])]:=Aqb
  generalize hcs:([.v (.string (mtext K))]:List T)=cs at hend
  generalize hds:([.v (.string xs[i])]:List T)=ds at hco
  rw[hco,show ds=pm cs ds 0 from rfl]
  have hdl:1=ds.length:=by rw[←hds]; rfl
  have hlc:cs.length=ds.length:=by rw[←hcs,←hds]; rfl
  have u0:cs[0]? = some (.v (.string (mtext K))):=by rw[←hcs]; rfl
  have f3:decide ((i:Int)<((R.set i (pm cs ds 0)).length:Int))=true:=Gqb (by rw[Gqx]; omega)
  clear hcs hds hse
  refine Wz [43,113,82,169] ?_;refine zx (Qj J J (Xt _ Aqa) J) J ?_;refine Wz [239,61] ?_;refine AL.weak (st':=(⟨20,[(0,Aqg 0),(1,I K),(5,I i)],[.row 1 (R.set i (pm cs ds 1)),.gh 0 (.c (.ref 0))]⟩:St)) (X4 [0,1] Aqc J ( Aqb) (.c J (.c J (.c J (.nil))))) ?_;refine Wz [6,94,18,87] ?_
  replace hend:=hend.trans (congrArg (R.set i) (show cs=pm cs ds 1 by rw[pm,Gqh (show cs.length≤1 by rw[hlc,←hdl]; exact Gqk _),List.drop_of_length_le (by rw[←hdl]; exact Gqk _),Gq1]))
  exact⟨xs.length-(i+1),Aqa,(fun i:Nat=>(⟨20,[(0,Aqg 0),(1,I (nkEs ((els xs).take i) k)),(5,I i)],[.row 1 (mkEs ((els xs).take i) k++(els xs).drop i),.gh 0 (.c (.ref 0))]⟩:St)) (i+1),⟨i+1,Aqa,trivial,J⟩,X4 [0,1] Aqc J ((by rw[hend]; rfl)) (.c J (.cons (Xq hnx.symm) (.c J (.nil))))⟩
 ·have f3:decide ((i:Int)<((mkEs ((els xs).take i) k++(els xs).drop i).length:Int))=false:=Gqa Aqa 
  have hk:=Gqh (show (els xs).length≤i by omega)
  have he:=Y5 (show (els xs).length≤i by omega) k
  refine Wz [43,113,44,31] ?_
  exact Xl J J (X1 [0,1] Aqc J (row2 he.symm) (Xq (by rw[hk])))
theorem L_mkIntS (xs:List (Int)) (k:Int) (g:Enc.gd xs) (h0:0<k) (hb:nkEs (els xs) k≤1073741823):Con Tryz.prog 151 [.row 1 (els xs),.gh 0 (.c (.ref 0))] [.c (.ref 0),ai k] [.row 1 (mkEs (els xs) k),.gh 0 (.c (.ref 0))] (I (nkEs (els xs) k)):=by
 have hn:=Yi xs
 have hn1:=g.1
 refine Con.of Tryz.func151 J Tryz.ntmps151 J (fun E => ?_)
 refine Wz [12,11] ?_;refine Xh (fun m st=>∃ i:Nat,i+m=xs.length∧(True)∧st=(⟨19,[(0,Aqg 0),(1,I (nkEs ((els xs).take i) k)),(5,I i)],[.row 1 (mkEs ((els xs).take i) k++(els xs).drop i),.gh 0 (.c (.ref 0))]⟩:St)) (xs.length) ⟨_,⟨0,Aqa,trivial,J⟩,X3 [0,1] Aqb⟩ ?_
 rintro m_A _ ⟨i,hk_A,hp_A,rfl⟩
 have hl2:=Y6 (es:=els xs) (i:=i) k
 by_cases h3:i<xs.length
 ·have hat:(els xs)[i]? = some (Enc.e xs[i]):=Yg h3
  have hg:=g.2 _ (Gqe h3)
  have hl:=Int.le_trans (Za hat k) hb
  have hi:=Zb ((els xs).take i) k
  have hend:=Y4 hat k
  have hnx:=Zc hat k
  have hq:=mt_lt hat k
  have hse:=Y8 hat k
  rw[hse]
  generalize mkEs ((els xs).take i) k++(els xs).drop i=R at hq hend hl2 ⊢
  generalize nkEs ((els xs).take i) k=K at hl hi hend hnx ⊢
  have hq:(i:Int).toNat<R.length:=hq
  have e1:nkE (Enc.e xs[i]) K=(K+1):=Aqb
  have e2:mkE (Enc.e xs[i]) K = [.v (.int .i64 K)]:=Aqb
  rw[e1] at hl hnx
  rw[e2] at hend
  clear e1 e2
  have hco:Enc.e xs[i] = [.v (.int .i64 xs[i])]:=Aqb
  generalize hcs:([.v (.int .i64 K)]:List T)=cs at hend
  generalize hds:([.v (.int .i64 xs[i])]:List T)=ds at hco
  rw[hco,show ds=pm cs ds 0 from rfl]
  have hdl:1=ds.length:=by rw[←hds]; rfl
  have hlc:cs.length=ds.length:=by rw[←hcs,←hds]; rfl
  have u0:cs[0]? = some (.v (.int .i64 K)):=by rw[←hcs]; rfl
  have f3:decide ((i:Int)<((R.set i (pm cs ds 0)).length:Int))=true:=Gqb (by rw[Gqx]; omega)
  clear hcs hds hse
  refine Wz [43,113,82,169,239,61] ?_;refine AL.weak (st':=(⟨19,[(0,Aqg 0),(1,I K),(5,I i)],[.row 1 (R.set i (pm cs ds 1)),.gh 0 (.c (.ref 0))]⟩:St)) (X4 [0,1] Aqc J ( Aqb) (.c J (.c J (.c J (.nil))))) ?_;refine Wz [6,94,18,87] ?_
  replace hend:=hend.trans (congrArg (R.set i) (show cs=pm cs ds 1 by rw[pm,Gqh (show cs.length≤1 by rw[hlc,←hdl]; exact Gqk _),List.drop_of_length_le (by rw[←hdl]; exact Gqk _),Gq1]))
  exact⟨xs.length-(i+1),Aqa,(fun i:Nat=>(⟨19,[(0,Aqg 0),(1,I (nkEs ((els xs).take i) k)),(5,I i)],[.row 1 (mkEs ((els xs).take i) k++(els xs).drop i),.gh 0 (.c (.ref 0))]⟩:St)) (i+1),⟨i+1,Aqa,trivial,J⟩,X4 [0,1] Aqc J ((by rw[hend]; rfl)) (.c J (.cons (Xq hnx.symm) (.c J (.nil))))⟩
 ·have f3:decide ((i:Int)<((mkEs ((els xs).take i) k++(els xs).drop i).length:Int))=false:=Gqa Aqa 
  have hk:=Gqh (show (els xs).length≤i by omega)
  have he:=Y5 (show (els xs).length≤i by omega) k
  refine Wz [43,113,44,31] ?_
  exact Xl J J (X1 [0,1] Aqc J (row2 he.symm) (Xq (by rw[hk])))
theorem L_mkBodyS (xs:List (TBody)) (k:Int) (g:Enc.gd xs) (h0:0<k) (hb:nkEs (els xs) k≤1073741823):Con Tryz.prog 153 [.row 9 (els xs),.gh 0 (.c (.ref 0))] [.c (.ref 0),ai k] [.row 9 (mkEs (els xs) k),.gh 0 (.c (.ref 0))] (I (nkEs (els xs) k)):=by
 have hn:=Yi xs
 have hn1:=g.1
 refine Con.of Tryz.func153 J Tryz.ntmps153 J (fun E => ?_)
 refine Wz [12,11] ?_;refine Xh (fun m st=>∃ i:Nat,i+m=xs.length∧(True)∧st=(⟨76,[(0,Aqg 0),(1,I (nkEs ((els xs).take i) k)),(5,I i)],[.row 9 (mkEs ((els xs).take i) k++(els xs).drop i),.gh 0 (.c (.ref 0))]⟩:St)) (xs.length) ⟨_,⟨0,Aqa,trivial,J⟩,X3 [0,1] Aqb⟩ ?_
 rintro m_A _ ⟨i,hk_A,hp_A,rfl⟩
 have hl2:=Y6 (es:=els xs) (i:=i) k
 by_cases h3:i<xs.length
 ·have hat:(els xs)[i]? = some (Enc.e xs[i]):=Yg h3
  have hg:=g.2 _ (Gqe h3)
  have hl:=Int.le_trans (Za hat k) hb
  have hi:=Zb ((els xs).take i) k
  have hend:=Y4 hat k
  have hnx:=Zc hat k
  have hq:=mt_lt hat k
  have hse:=Y8 hat k
  rw[hse]
  generalize mkEs ((els xs).take i) k++(els xs).drop i=R at hq hend hl2 ⊢
  generalize nkEs ((els xs).take i) k=K at hl hi hend hnx ⊢
  have hq:(i:Int).toNat<R.length:=hq
  have e1:nkE (Enc.e xs[i]) K=(((((((((K+1)+1)+1)+1)+1)+1)+1)+1)+1):=Aqb
  have e2:mkE (Enc.e xs[i]) K = [.v (.int .i64 K),.v (.int .i64 (K+1)),.v (.int .i64 ((K+1)+1)),.v (.int .i64 (((K+1)+1)+1)),.v (.int .i64 ((((K+1)+1)+1)+1)),.v (.int .i64 (((((K+1)+1)+1)+1)+1)),.v (.int .i64 ((((((K+1)+1)+1)+1)+1)+1)),.v (.int .i64 (((((((K+1)+1)+1)+1)+1)+1)+1)),.v (.int .i64 ((((((((K+1)+1)+1)+1)+1)+1)+1)+1))]:=Aqb
  rw[e1] at hl hnx
  rw[e2] at hend
  clear e1 e2
  have hco:Enc.e xs[i] = [.v (.int .i64 xs[i].Kind),.v (.int .i64 xs[i].Owner),.v (.int .i64 xs[i].X),.v (.int .i64 xs[i].Y),.v (.int .i64 xs[i].VX),.v (.int .i64 xs[i].VY),.v (.int .i64 xs[i].Aim),.v (.int .i64 xs[i].Life),.v (.int .i64 xs[i].Timer)]:=Aqb
  generalize hcs:([.v (.int .i64 K),.v (.int .i64 (K+1)),.v (.int .i64 ((K+1)+1)),.v (.int .i64 (((K+1)+1)+1)),.v (.int .i64 ((((K+1)+1)+1)+1)),.v (.int .i64 (((((K+1)+1)+1)+1)+1)),.v (.int .i64 ((((((K+1)+1)+1)+1)+1)+1)),.v (.int .i64 (((((((K+1)+1)+1)+1)+1)+1)+1)),.v (.int .i64 ((((((((K+1)+1)+1)+1)+1)+1)+1)+1))]:List T)=cs at hend
  generalize hds:([.v (.int .i64 xs[i].Kind),.v (.int .i64 xs[i].Owner),.v (.int .i64 xs[i].X),.v (.int .i64 xs[i].Y),.v (.int .i64 xs[i].VX),.v (.int .i64 xs[i].VY),.v (.int .i64 xs[i].Aim),.v (.int .i64 xs[i].Life),.v (.int .i64 xs[i].Timer)]:List T)=ds at hco
  rw[hco,show ds=pm cs ds 0 from rfl]
  have hdl:9=ds.length:=by rw[←hds]; rfl
  have hlc:cs.length=ds.length:=by rw[←hcs,←hds]; rfl
  have u0:cs[0]? = some (.v (.int .i64 K)):=by rw[←hcs]; rfl
  have u1:cs[1]? = some (.v (.int .i64 (K+1))):=by rw[←hcs]; rfl
  have u2:cs[2]? = some (.v (.int .i64 ((K+1)+1))):=by rw[←hcs]; rfl
  have u3:cs[3]? = some (.v (.int .i64 (((K+1)+1)+1))):=by rw[←hcs]; rfl
  have u4:cs[4]? = some (.v (.int .i64 ((((K+1)+1)+1)+1))):=by rw[←hcs]; rfl
  have u5:cs[5]? = some (.v (.int .i64 (((((K+1)+1)+1)+1)+1))):=by rw[←hcs]; rfl
  have u6:cs[6]? = some (.v (.int .i64 ((((((K+1)+1)+1)+1)+1)+1))):=by rw[←hcs]; rfl
  have u7:cs[7]? = some (.v (.int .i64 (((((((K+1)+1)+1)+1)+1)+1)+1))):=by rw[←hcs]; rfl
  have u8:cs[8]? = some (.v (.int .i64 ((((((((K+1)+1)+1)+1)+1)+1)+1)+1))):=by rw[←hcs]; rfl
  have f3:decide ((i:Int)<((R.set i (pm cs ds 0)).length:Int))=true:=Gqb (by rw[Gqx]; omega)
  clear hcs hds hse
  refine Wz [43,113,82,78,61] ?_;refine AL.weak (st':=(⟨76,[(0,Aqg 0),(1,I K),(5,I i)],[.row 9 (R.set i (pm cs ds 1)),.gh 0 (.c (.ref 0))]⟩:St)) (X4 [0,1] Aqc J ( Aqb) (.c J (.c J (.c J (.nil))))) ?_;refine Wz [92,78,61] ?_;refine AL.weak (st':=(⟨76,[(0,Aqg 0),(1,I (K+1)),(5,I i)],[.row 9 (R.set i (pm cs ds 2)),.gh 0 (.c (.ref 0))]⟩:St)) (X4 [0,1] Aqc J ( Aqb) (.c J (.c J (.c J (.nil))))) ?_;refine Wz [92,78,61] ?_;refine AL.weak (st':=(⟨76,[(0,Aqg 0),(1,I ((K+1)+1)),(5,I i)],[.row 9 (R.set i (pm cs ds 3)),.gh 0 (.c (.ref 0))]⟩:St)) (X4 [0,1] Aqc J ( Aqb) (.c J (.c J (.c J (.nil))))) ?_;refine Wz [92,78,61] ?_;refine AL.weak (st':=(⟨76,[(0,Aqg 0),(1,I (((K+1)+1)+1)),(5,I i)],[.row 9 (R.set i (pm cs ds 4)),.gh 0 (.c (.ref 0))]⟩:St)) (X4 [0,1] Aqc J ( Aqb) (.c J (.c J (.c J (.nil))))) ?_;refine Wz [92,78,61] ?_;refine AL.weak (st':=(⟨76,[(0,Aqg 0),(1,I ((((K+1)+1)+1)+1)),(5,I i)],[.row 9 (R.set i (pm cs ds 5)),.gh 0 (.c (.ref 0))]⟩:St)) (X4 [0,1] Aqc J ( Aqb) (.c J (.c J (.c J (.nil))))) ?_;refine Wz [92,78,61] ?_;refine AL.weak (st':=(⟨76,[(0,Aqg 0),(1,I (((((K+1)+1)+1)+1)+1)),(5,I i)],[.row 9 (R.set i (pm cs ds 6)),.gh 0 (.c (.ref 0))]⟩:St)) (X4 [0,1] Aqc J ( Aqb) (.c J (.c J (.c J (.nil))))) ?_;refine Wz [92,78,61] ?_;refine AL.weak (st':=(⟨76,[(0,Aqg 0),(1,I ((((((K+1)+1)+1)+1)+1)+1)),(5,I i)],[.row 9 (R.set i (pm cs ds 7)),.gh 0 (.c (.ref 0))]⟩:St)) (X4 [0,1] Aqc J ( Aqb) (.c J (.c J (.c J (.nil))))) ?_;refine Wz [92,78,61] ?_;refine AL.weak (st':=(⟨76,[(0,Aqg 0),(1,I (((((((K+1)+1)+1)+1)+1)+1)+1)),(5,I i)],[.row 9 (R.set i (pm cs ds 8)),.gh 0 (.c (.ref 0))]⟩:St)) (X4 [0,1] Aqc J ( Aqb) (.c J (.c J (.c J (.nil))))) ?_;refine Wz [92,78,61] ?_;refine AL.weak (st':=(⟨76,[(0,Aqg 0),(1,I ((((((((K+1)+1)+1)+1)+1)+1)+1)+1)),(5,I i)],[.row 9 (R.set i (pm cs ds 9)),.gh 0 (.c (.ref 0))]⟩:St)) (X4 [0,1] Aqc J ( Aqb) (.c J (.c J (.c J (.nil))))) ?_;refine Wz [6,94,18,87] ?_
  replace hend:=hend.trans (congrArg (R.set i) (show cs=pm cs ds 9 by rw[pm,Gqh (show cs.length≤9 by rw[hlc,←hdl]; exact Gqk _),List.drop_of_length_le (by rw[←hdl]; exact Gqk _),Gq1]))
  exact⟨xs.length-(i+1),Aqa,(fun i:Nat=>(⟨76,[(0,Aqg 0),(1,I (nkEs ((els xs).take i) k)),(5,I i)],[.row 9 (mkEs ((els xs).take i) k++(els xs).drop i),.gh 0 (.c (.ref 0))]⟩:St)) (i+1),⟨i+1,Aqa,trivial,J⟩,X4 [0,1] Aqc J ((by rw[hend]; rfl)) (.c J (.cons (Xq hnx.symm) (.c J (.nil))))⟩
 ·have f3:decide ((i:Int)<((mkEs ((els xs).take i) k++(els xs).drop i).length:Int))=false:=Gqa Aqa 
  have hk:=Gqh (show (els xs).length≤i by omega)
  have he:=Y5 (show (els xs).length≤i by omega) k
  refine Wz [43,113,44,31] ?_
  exact Xl J J (X1 [0,1] Aqc J (row2 he.symm) (Xq (by rw[hk])))
theorem L_mkIntSS (xs:List (List Int)) (k:Int) (g:Enc.gd xs) (h0:0<k) (hb:nkEs (els xs) k≤1073741823):Con Tryz.prog 68 [.row 1 (els xs),.gh 0 (.c (.ref 0))] [.c (.ref 0),ai k] [.row 1 (mkEs (els xs) k),.gh 0 (.c (.ref 0))] (I (nkEs (els xs) k)):=by
 have hn:=Yi xs
 have hn1:=g.1
 refine Con.of Tryz.func68 J Tryz.ntmps68 J (fun E => ?_)
 refine Wz [12,11] ?_;refine Xh (fun m st=>∃ i:Nat,i+m=xs.length∧(True)∧st=(⟨19,[(0,Aqg 0),(1,I (nkEs ((els xs).take i) k)),(5,I i)],[.row 1 (mkEs ((els xs).take i) k++(els xs).drop i),.gh 0 (.c (.ref 0))]⟩:St)) (xs.length) ⟨_,⟨0,Aqa,trivial,J⟩,X3 [0,1] Aqb⟩ ?_
 rintro m_A _ ⟨i,hk_A,hp_A,rfl⟩
 have hl2:=Y6 (es:=els xs) (i:=i) k
 by_cases h3:i<xs.length
 ·have hat:(els xs)[i]? = some (Enc.e xs[i]):=Yg h3
  have hg:=g.2 _ (Gqe h3)
  have hl:=Int.le_trans (Za hat k) hb
  have hi:=Zb ((els xs).take i) k
  have hend:=Y4 hat k
  have hnx:=Zc hat k
  have hq:=mt_lt hat k
  have hse:=Y8 hat k
  rw[hse]
  generalize mkEs ((els xs).take i) k++(els xs).drop i=R at hq hend hl2 ⊢
  generalize nkEs ((els xs).take i) k=K at hl hi hend hnx ⊢
  have hq:(i:Int).toNat<R.length:=hq
  have e1:nkE (Enc.e xs[i]) K=(nkEs (els xs[i]) K):=Aqb
  have e2:mkE (Enc.e xs[i]) K = [.sl 1 (mkEs (els xs[i]) K)]:=Aqb
  rw[e1] at hl hnx
  rw[e2] at hend
  clear e1 e2
  have m1:=Zb (els xs[i]) K
  generalize h1:nkEs (els xs[i]) K=K1 at m1 hl hnx hend
  have c1:=L_mkIntS xs[i] K hg Aqa Aqa 
  rw[h1] at c1
  have hco:Enc.e xs[i] = [.sl 1 (els xs[i])]:=Aqb
  generalize hcs:([.sl 1 (mkEs (els xs[i]) K)]:List T)=cs at hend
  generalize hds:([.sl 1 (els xs[i])]:List T)=ds at hco
  rw[hco,show ds=pm cs ds 0 from rfl]
  have hdl:1=ds.length:=by rw[←hds]; rfl
  have hlc:cs.length=ds.length:=by rw[←hcs,←hds]; rfl
  have u0:cs[0]? = some (.sl 1 (mkEs (els xs[i]) K)):=by rw[←hcs]; rfl
  have d0:ds[0]? = some (.sl 1 (els xs[i])):=by rw[←hds]; rfl
  have f3:decide ((i:Int)<((R.set i (pm cs ds 0)).length:Int))=true:=Gqb (by rw[Gqx]; omega)
  clear hcs hds hse
  refine Wz [43,113,82,63,239,148,0] ?_;refine Xw c1 J J J J J J J J Aqe Aqe Aqe Aqe  (z1 J ?_);refine AL.weak (st':=(⟨19,[(0,Aqg 0),(1,I K1),(5,I i)],[.row 1 (R.set i (pm cs ds 1)),.gh 0 (.c (.ref 0))]⟩:St)) (X4 [0,1] Aqc J ( Aqb) (.c J (.c J (.c J (.nil))))) ?_;refine Wz [99] ?_
  replace hend:=hend.trans (congrArg (R.set i) (show cs=pm cs ds 1 by rw[pm,Gqh (show cs.length≤1 by rw[hlc,←hdl]; exact Gqk _),List.drop_of_length_le (by rw[←hdl]; exact Gqk _),Gq1]))
  exact⟨xs.length-(i+1),Aqa,(fun i:Nat=>(⟨19,[(0,Aqg 0),(1,I (nkEs ((els xs).take i) k)),(5,I i)],[.row 1 (mkEs ((els xs).take i) k++(els xs).drop i),.gh 0 (.c (.ref 0))]⟩:St)) (i+1),⟨i+1,Aqa,trivial,J⟩,X4 [0,1] Aqc J ((by rw[hend]; rfl)) (.c J (.cons (Xq hnx.symm) (.c J (.nil))))⟩
 ·have f3:decide ((i:Int)<((mkEs ((els xs).take i) k++(els xs).drop i).length:Int))=false:=Gqa Aqa 
  have hk:=Gqh (show (els xs).length≤i by omega)
  have he:=Y5 (show (els xs).length≤i by omega) k
  refine Wz [43,113,44,31] ?_
  exact Xl J J (X1 [0,1] Aqc J (row2 he.symm) (Xq (by rw[hk])))
theorem L_mkTrackS (xs:List (TTrack)) (k:Int) (g:Enc.gd xs) (h0:0<k) (hb:nkEs (els xs) k≤1073741823):Con Tryz.prog 152 [.row 1 (els xs),.gh 0 (.c (.ref 0))] [.c (.ref 0),ai k] [.row 1 (mkEs (els xs) k),.gh 0 (.c (.ref 0))] (I (nkEs (els xs) k)):=by
 have hn:=Yi xs
 have hn1:=g.1
 refine Con.of Tryz.func152 J Tryz.ntmps152 J (fun E => ?_)
 refine Wz [12,11] ?_;refine Xh (fun m st=>∃ i:Nat,i+m=xs.length∧(True)∧st=(⟨20,[(0,Aqg 0),(1,I (nkEs ((els xs).take i) k)),(5,I i)],[.row 1 (mkEs ((els xs).take i) k++(els xs).drop i),.gh 0 (.c (.ref 0))]⟩:St)) (xs.length) ⟨_,⟨0,Aqa,trivial,J⟩,X3 [0,1] Aqb⟩ ?_
 rintro m_A _ ⟨i,hk_A,hp_A,rfl⟩
 have hl2:=Y6 (es:=els xs) (i:=i) k
 by_cases h3:i<xs.length
 ·have hat:(els xs)[i]? = some (Enc.e xs[i]):=Yg h3
  have hg:=g.2 _ (Gqe h3)
  have hl:=Int.le_trans (Za hat k) hb
  have hi:=Zb ((els xs).take i) k
  have hend:=Y4 hat k
  have hnx:=Zc hat k
  have hq:=mt_lt hat k
  have hse:=Y8 hat k
  rw[hse]
  generalize mkEs ((els xs).take i) k++(els xs).drop i=R at hq hend hl2 ⊢
  generalize nkEs ((els xs).take i) k=K at hl hi hend hnx ⊢
  have hq:(i:Int).toNat<R.length:=hq
  have e1:nkE (Enc.e xs[i]) K=(nkEs (els xs[i].Inputs) K):=Aqb
  have e2:mkE (Enc.e xs[i]) K = [.sl 1 (mkEs (els xs[i].Inputs) K)]:=Aqb
  rw[e1] at hl hnx
  rw[e2] at hend
  clear e1 e2
  have m1:=Zb (els xs[i].Inputs) K
  generalize h1:nkEs (els xs[i].Inputs) K=K1 at m1 hl hnx hend
  have c1:=L_mkIntS xs[i].Inputs K hg Aqa Aqa 
  rw[h1] at c1
  have hco:Enc.e xs[i] = [.sl 1 (els xs[i].Inputs)]:=Aqb
  generalize hcs:([.sl 1 (mkEs (els xs[i].Inputs) K)]:List T)=cs at hend
  generalize hds:([.sl 1 (els xs[i].Inputs)]:List T)=ds at hco
  rw[hco,show ds=pm cs ds 0 from rfl]
  have hdl:1=ds.length:=by rw[←hds]; rfl
  have hlc:cs.length=ds.length:=by rw[←hcs,←hds]; rfl
  have u0:cs[0]? = some (.sl 1 (mkEs (els xs[i].Inputs) K)):=by rw[←hcs]; rfl
  have d0:ds[0]? = some (.sl 1 (els xs[i].Inputs)):=by rw[←hds]; rfl
  have f3:decide ((i:Int)<((R.set i (pm cs ds 0)).length:Int))=true:=Gqb (by rw[Gqx]; omega)
  clear hcs hds hse
  refine Wz [43,113,82,63,150,148,0] ?_;refine Xw c1 J J J J J J J J Aqe Aqe Aqe Aqe  (z1 J ?_);refine AL.weak (st':=(⟨20,[(0,Aqg 0),(1,I K1),(5,I i)],[.row 1 (R.set i (pm cs ds 1)),.gh 0 (.c (.ref 0))]⟩:St)) (X4 [0,1] Aqc J ( Aqb) (.c J (.c J (.c J (.nil))))) ?_;refine Wz [99] ?_
  replace hend:=hend.trans (congrArg (R.set i) (show cs=pm cs ds 1 by rw[pm,Gqh (show cs.length≤1 by rw[hlc,←hdl]; exact Gqk _),List.drop_of_length_le (by rw[←hdl]; exact Gqk _),Gq1]))
  exact⟨xs.length-(i+1),Aqa,(fun i:Nat=>(⟨20,[(0,Aqg 0),(1,I (nkEs ((els xs).take i) k)),(5,I i)],[.row 1 (mkEs ((els xs).take i) k++(els xs).drop i),.gh 0 (.c (.ref 0))]⟩:St)) (i+1),⟨i+1,Aqa,trivial,J⟩,X4 [0,1] Aqc J ((by rw[hend]; rfl)) (.c J (.cons (Xq hnx.symm) (.c J (.nil))))⟩
 ·have f3:decide ((i:Int)<((mkEs ((els xs).take i) k++(els xs).drop i).length:Int))=false:=Gqa Aqa 
  have hk:=Gqh (show (els xs).length≤i by omega)
  have he:=Y5 (show (els xs).length≤i by omega) k
  refine Wz [43,113,44,31] ?_
  exact Xl J J (X1 [0,1] Aqc J (row2 he.symm) (Xq (by rw[hk])))
theorem L_mkSaveS (xs:List (TSave)) (k:Int) (g:Enc.gd xs) (h0:0<k) (hb:nkEs (els xs) k≤1073741823):Con Tryz.prog 154 [.row 2 (els xs),.gh 0 (.c (.ref 0))] [.c (.ref 0),ai k] [.row 2 (mkEs (els xs) k),.gh 0 (.c (.ref 0))] (I (nkEs (els xs) k)):=by
 have hn:=Yi xs
 have hn1:=g.1
 refine Con.of Tryz.func154 J Tryz.ntmps154 J (fun E => ?_)
 refine Wz [12,11] ?_;refine Xh (fun m st=>∃ i:Nat,i+m=xs.length∧(True)∧st=(⟨28,[(0,Aqg 0),(1,I (nkEs ((els xs).take i) k)),(5,I i)],[.row 2 (mkEs ((els xs).take i) k++(els xs).drop i),.gh 0 (.c (.ref 0))]⟩:St)) (xs.length) ⟨_,⟨0,Aqa,trivial,J⟩,X3 [0,1] Aqb⟩ ?_
 rintro m_A _ ⟨i,hk_A,hp_A,rfl⟩
 have hl2:=Y6 (es:=els xs) (i:=i) k
 by_cases h3:i<xs.length
 ·have hat:(els xs)[i]? = some (Enc.e xs[i]):=Yg h3
  have hg:=g.2 _ (Gqe h3)
  have hl:=Int.le_trans (Za hat k) hb
  have hi:=Zb ((els xs).take i) k
  have hend:=Y4 hat k
  have hnx:=Zc hat k
  have hq:=mt_lt hat k
  have hse:=Y8 hat k
  rw[hse]
  generalize mkEs ((els xs).take i) k++(els xs).drop i=R at hq hend hl2 ⊢
  generalize nkEs ((els xs).take i) k=K at hl hi hend hnx ⊢
  have hq:(i:Int).toNat<R.length:=hq
  have e1:nkE (Enc.e xs[i]) K=((K+1)+1):=Aqb
  have e2:mkE (Enc.e xs[i]) K = [.v (.int .i64 K),.v (.string (mtext (K+1)))]:=Aqb
  rw[e1] at hl hnx
  rw[e2] at hend
  clear e1 e2
  have hco:Enc.e xs[i] = [.v (.int .i64 xs[i].Tick),.v (.string xs[i].Delta)]:=Aqb
  generalize hcs:([.v (.int .i64 K),.v (.string (mtext (K+1)))]:List T)=cs at hend
  generalize hds:([.v (.int .i64 xs[i].Tick),.v (.string xs[i].Delta)]:List T)=ds at hco
  rw[hco,show ds=pm cs ds 0 from rfl]
  have hdl:2=ds.length:=by rw[←hds]; rfl
  have hlc:cs.length=ds.length:=by rw[←hcs,←hds]; rfl
  have u0:cs[0]? = some (.v (.int .i64 K)):=by rw[←hcs]; rfl
  have u1:cs[1]? = some (.v (.string (mtext (K+1)))):=by rw[←hcs]; rfl
  have f3:decide ((i:Int)<((R.set i (pm cs ds 0)).length:Int))=true:=Gqb (by rw[Gqx]; omega)
  clear hcs hds hse
  refine Wz [43,113,82,78,61] ?_;refine AL.weak (st':=(⟨28,[(0,Aqg 0),(1,I K),(5,I i)],[.row 2 (R.set i (pm cs ds 1)),.gh 0 (.c (.ref 0))]⟩:St)) (X4 [0,1] Aqc J ( Aqb) (.c J (.c J (.c J (.nil))))) ?_;refine Wz [92,169] ?_;refine zx (Qj J J (Xt _ Aqa) J) J ?_;refine Wz [150,61] ?_;refine AL.weak (st':=(⟨28,[(0,Aqg 0),(1,I (K+1)),(5,I i)],[.row 2 (R.set i (pm cs ds 2)),.gh 0 (.c (.ref 0))]⟩:St)) (X4 [0,1] Aqc J ( Aqb) (.c J (.c J (.c J (.nil))))) ?_;refine Wz [6,94,18,87] ?_
  replace hend:=hend.trans (congrArg (R.set i) (show cs=pm cs ds 2 by rw[pm,Gqh (show cs.length≤2 by rw[hlc,←hdl]; exact Gqk _),List.drop_of_length_le (by rw[←hdl]; exact Gqk _),Gq1]))
  exact⟨xs.length-(i+1),Aqa,(fun i:Nat=>(⟨28,[(0,Aqg 0),(1,I (nkEs ((els xs).take i) k)),(5,I i)],[.row 2 (mkEs ((els xs).take i) k++(els xs).drop i),.gh 0 (.c (.ref 0))]⟩:St)) (i+1),⟨i+1,Aqa,trivial,J⟩,X4 [0,1] Aqc J ((by rw[hend]; rfl)) (.c J (.cons (Xq hnx.symm) (.c J (.nil))))⟩
 ·have f3:decide ((i:Int)<((mkEs ((els xs).take i) k++(els xs).drop i).length:Int))=false:=Gqa Aqa 
  have hk:=Gqh (show (els xs).length≤i by omega)
  have he:=Y5 (show (els xs).length≤i by omega) k
  refine Wz [43,113,44,31] ?_
  exact Xl J J (X1 [0,1] Aqc J (row2 he.symm) (Xq (by rw[hk])))
theorem L_mkPeerS (xs:List (TPeer)) (k:Int) (g:Enc.gd xs) (h0:0<k) (hb:nkEs (els xs) k≤1073741823):Con Tryz.prog 69 [.row 23 (els xs),.gh 0 (.c (.ref 0))] [.c (.ref 0),ai k] [.row 23 (mkEs (els xs) k),.gh 0 (.c (.ref 0))] (I (nkEs (els xs) k)):=by
 have hn:=Yi xs
 have hn1:=g.1
 refine Con.of Tryz.func69 J Tryz.ntmps69 J (fun E => ?_)
 refine Wz [12,11] ?_;refine Xh (fun m st=>∃ i:Nat,i+m=xs.length∧(True)∧st=(⟨189,[(0,Aqg 0),(1,I (nkEs ((els xs).take i) k)),(5,I i)],[.row 23 (mkEs ((els xs).take i) k++(els xs).drop i),.gh 0 (.c (.ref 0))]⟩:St)) (xs.length) ⟨_,⟨0,Aqa,trivial,J⟩,X3 [0,1] Aqb⟩ ?_
 rintro m_A _ ⟨i,hk_A,hp_A,rfl⟩
 have hl2:=Y6 (es:=els xs) (i:=i) k
 by_cases h3:i<xs.length
 ·have hat:(els xs)[i]? = some (Enc.e xs[i]):=Yg h3
  have hg:=g.2 _ (Gqe h3)
  have hl:=Int.le_trans (Za hat k) hb
  have hi:=Zb ((els xs).take i) k
  have hend:=Y4 hat k
  have hnx:=Zc hat k
  have hq:=mt_lt hat k
  have hse:=Y8 hat k
  rw[hse]
  generalize mkEs ((els xs).take i) k++(els xs).drop i=R at hq hend hl2 ⊢
  generalize nkEs ((els xs).take i) k=K at hl hi hend hnx ⊢
  have hq:(i:Int).toNat<R.length:=hq
  have e1:nkE (Enc.e xs[i]) K=((((((nkEs (els xs[i].Sums) (nkEs (els xs[i].Saves) (nkEs (els xs[i].Used) (nkEs (els xs[i].Now.Bodies) (nkEs (els xs[i].Now.Scores) (((nkEs (els xs[i].Now.Level.Rows) (nkEs (els xs[i].Base.Bodies) (nkEs (els xs[i].Base.Scores) (((nkEs (els xs[i].Base.Level.Rows) (nkEs (els xs[i].Tracks) ((((K+1)+1)+1)+1)))+1)+1))))+1)+1))))))+1)+1)+1)+1)+1):=Aqb
  have e2:mkE (Enc.e xs[i]) K = [.v (.int .i64 K),.v (.int .i64 (K+1)),.v (.int .i64 ((K+1)+1)),.v (.int .i64 (((K+1)+1)+1)),.sl 1 (mkEs (els xs[i].Tracks) ((((K+1)+1)+1)+1)),.sl 1 (mkEs (els xs[i].Base.Level.Rows) (nkEs (els xs[i].Tracks) ((((K+1)+1)+1)+1))),.v (.int .i64 (nkEs (els xs[i].Base.Level.Rows) (nkEs (els xs[i].Tracks) ((((K+1)+1)+1)+1)))),.v (.int .i64 ((nkEs (els xs[i].Base.Level.Rows) (nkEs (els xs[i].Tracks) ((((K+1)+1)+1)+1)))+1)),.sl 1 (mkEs (els xs[i].Base.Scores) (((nkEs (els xs[i].Base.Level.Rows) (nkEs (els xs[i].Tracks) ((((K+1)+1)+1)+1)))+1)+1)),.sl 9 (mkEs (els xs[i].Base.Bodies) (nkEs (els xs[i].Base.Scores) (((nkEs (els xs[i].Base.Level.Rows) (nkEs (els xs[i].Tracks) ((((K+1)+1)+1)+1)))+1)+1))),.sl 1 (mkEs (els xs[i].Now.Level.Rows) (nkEs (els xs[i].Base.Bodies) (nkEs (els xs[i].Base.Scores) (((nkEs (els xs[i].Base.Level.Rows) (nkEs (els xs[i].Tracks) ((((K+1)+1)+1)+1)))+1)+1)))),.v (.int .i64 (nkEs (els xs[i].Now.Level.Rows) (nkEs (els xs[i].Base.Bodies) (nkEs (els xs[i].Base.Scores) (((nkEs (els xs[i].Base.Level.Rows) (nkEs (els xs[i].Tracks) ((((K+1)+1)+1)+1)))+1)+1))))),.v (.int .i64 ((nkEs (els xs[i].Now.Level.Rows) (nkEs (els xs[i].Base.Bodies) (nkEs (els xs[i].Base.Scores) (((nkEs (els xs[i].Base.Level.Rows) (nkEs (els xs[i].Tracks) ((((K+1)+1)+1)+1)))+1)+1))))+1)),.sl 1 (mkEs (els xs[i].Now.Scores) (((nkEs (els xs[i].Now.Level.Rows) (nkEs (els xs[i].Base.Bodies) (nkEs (els xs[i].Base.Scores) (((nkEs (els xs[i].Base.Level.Rows) (nkEs (els xs[i].Tracks) ((((K+1)+1)+1)+1)))+1)+1))))+1)+1)),.sl 9 (mkEs (els xs[i].Now.Bodies) (nkEs (els xs[i].Now.Scores) (((nkEs (els xs[i].Now.Level.Rows) (nkEs (els xs[i].Base.Bodies) (nkEs (els xs[i].Base.Scores) (((nkEs (els xs[i].Base.Level.Rows) (nkEs (els xs[i].Tracks) ((((K+1)+1)+1)+1)))+1)+1))))+1)+1))),.sl 1 (mkEs (els xs[i].Used) (nkEs (els xs[i].Now.Bodies) (nkEs (els xs[i].Now.Scores) (((nkEs (els xs[i].Now.Level.Rows) (nkEs (els xs[i].Base.Bodies) (nkEs (els xs[i].Base.Scores) (((nkEs (els xs[i].Base.Level.Rows) (nkEs (els xs[i].Tracks) ((((K+1)+1)+1)+1)))+1)+1))))+1)+1)))),.sl 2 (mkEs (els xs[i].Saves) (nkEs (els xs[i].Used) (nkEs (els xs[i].Now.Bodies) (nkEs (els xs[i].Now.Scores) (((nkEs (els xs[i].Now.Level.Rows) (nkEs (els xs[i].Base.Bodies) (nkEs (els xs[i].Base.Scores) (((nkEs (els xs[i].Base.Level.Rows) (nkEs (els xs[i].Tracks) ((((K+1)+1)+1)+1)))+1)+1))))+1)+1))))),.sl 1 (mkEs (els xs[i].Sums) (nkEs (els xs[i].Saves) (nkEs (els xs[i].Used) (nkEs (els xs[i].Now.Bodies) (nkEs (els xs[i].Now.Scores) (((nkEs (els xs[i].Now.Level.Rows) (nkEs (els xs[i].Base.Bodies) (nkEs (els xs[i].Base.Scores) (((nkEs (els xs[i].Base.Level.Rows) (nkEs (els xs[i].Tracks) ((((K+1)+1)+1)+1)))+1)+1))))+1)+1)))))),.v (.int .i64 (nkEs (els xs[i].Sums) (nkEs (els xs[i].Saves) (nkEs (els xs[i].Used) (nkEs (els xs[i].Now.Bodies) (nkEs (els xs[i].Now.Scores) (((nkEs (els xs[i].Now.Level.Rows) (nkEs (els xs[i].Base.Bodies) (nkEs (els xs[i].Base.Scores) (((nkEs (els xs[i].Base.Level.Rows) (nkEs (els xs[i].Tracks) ((((K+1)+1)+1)+1)))+1)+1))))+1)+1))))))),.v (.int .i64 ((nkEs (els xs[i].Sums) (nkEs (els xs[i].Saves) (nkEs (els xs[i].Used) (nkEs (els xs[i].Now.Bodies) (nkEs (els xs[i].Now.Scores) (((nkEs (els xs[i].Now.Level.Rows) (nkEs (els xs[i].Base.Bodies) (nkEs (els xs[i].Base.Scores) (((nkEs (els xs[i].Base.Level.Rows) (nkEs (els xs[i].Tracks) ((((K+1)+1)+1)+1)))+1)+1))))+1)+1))))))+1)),.v (.int .i64 (((nkEs (els xs[i].Sums) (nkEs (els xs[i].Saves) (nkEs (els xs[i].Used) (nkEs (els xs[i].Now.Bodies) (nkEs (els xs[i].Now.Scores) (((nkEs (els xs[i].Now.Level.Rows) (nkEs (els xs[i].Base.Bodies) (nkEs (els xs[i].Base.Scores) (((nkEs (els xs[i].Base.Level.Rows) (nkEs (els xs[i].Tracks) ((((K+1)+1)+1)+1)))+1)+1))))+1)+1))))))+1)+1)),.v (.int .i64 ((((nkEs (els xs[i].Sums) (nkEs (els xs[i].Saves) (nkEs (els xs[i].Used) (nkEs (els xs[i].Now.Bodies) (nkEs (els xs[i].Now.Scores) (((nkEs (els xs[i].Now.Level.Rows) (nkEs (els xs[i].Base.Bodies) (nkEs (els xs[i].Base.Scores) (((nkEs (els xs[i].Base.Level.Rows) (nkEs (els xs[i].Tracks) ((((K+1)+1)+1)+1)))+1)+1))))+1)+1))))))+1)+1)+1)),.v (.int .i64 (((((nkEs (els xs[i].Sums) (nkEs (els xs[i].Saves) (nkEs (els xs[i].Used) (nkEs (els xs[i].Now.Bodies) (nkEs (els xs[i].Now.Scores) (((nkEs (els xs[i].Now.Level.Rows) (nkEs (els xs[i].Base.Bodies) (nkEs (els xs[i].Base.Scores) (((nkEs (els xs[i].Base.Level.Rows) (nkEs (els xs[i].Tracks) ((((K+1)+1)+1)+1)))+1)+1))))+1)+1))))))+1)+1)+1)+1))]:=Aqb
  rw[e1] at hl hnx
  rw[e2] at hend
  clear e1 e2
  have m1:=Zb (els xs[i].Tracks) ((((K+1)+1)+1)+1)
  generalize h1:nkEs (els xs[i].Tracks) ((((K+1)+1)+1)+1)=K1 at m1 hl hnx hend
  have m2:=Zb (els xs[i].Base.Level.Rows) K1
  generalize h2:nkEs (els xs[i].Base.Level.Rows) K1=K2 at m2 hl hnx hend
  have m3:=Zb (els xs[i].Base.Scores) ((K2+1)+1)
  generalize h3:nkEs (els xs[i].Base.Scores) ((K2+1)+1)=K3 at m3 hl hnx hend
  have m4:=Zb (els xs[i].Base.Bodies) K3
  generalize h4:nkEs (els xs[i].Base.Bodies) K3=K4 at m4 hl hnx hend
  have m5:=Zb (els xs[i].Now.Level.Rows) K4
  generalize h5:nkEs (els xs[i].Now.Level.Rows) K4=K5 at m5 hl hnx hend
  have m6:=Zb (els xs[i].Now.Scores) ((K5+1)+1)
  generalize h6:nkEs (els xs[i].Now.Scores) ((K5+1)+1)=K6 at m6 hl hnx hend
  have m7:=Zb (els xs[i].Now.Bodies) K6
  generalize h7:nkEs (els xs[i].Now.Bodies) K6=K7 at m7 hl hnx hend
  have m8:=Zb (els xs[i].Used) K7
  generalize h8:nkEs (els xs[i].Used) K7=K8 at m8 hl hnx hend
  have m9:=Zb (els xs[i].Saves) K8
  generalize h9:nkEs (els xs[i].Saves) K8=K9 at m9 hl hnx hend
  have m10:=Zb (els xs[i].Sums) K9
  generalize h10:nkEs (els xs[i].Sums) K9=K10 at m10 hl hnx hend
  have c1:=L_mkTrackS xs[i].Tracks ((((K+1)+1)+1)+1) hg.2.2.2.2.1 Aqa Aqa 
  rw[h1] at c1
  have c2:=Xu xs[i].Base.Level.Rows K1 hg.2.2.2.2.2.1.1 Aqa Aqa 
  rw[h2] at c2
  have c3:=L_mkIntS xs[i].Base.Scores ((K2+1)+1) hg.2.2.2.2.2.1.2.2.2.1 Aqa Aqa 
  rw[h3] at c3
  have c4:=L_mkBodyS xs[i].Base.Bodies K3 hg.2.2.2.2.2.1.2.2.2.2 Aqa Aqa 
  rw[h4] at c4
  have c5:=Xu xs[i].Now.Level.Rows K4 hg.2.2.2.2.2.2.1.1 Aqa Aqa 
  rw[h5] at c5
  have c6:=L_mkIntS xs[i].Now.Scores ((K5+1)+1) hg.2.2.2.2.2.2.1.2.2.2.1 Aqa Aqa 
  rw[h6] at c6
  have c7:=L_mkBodyS xs[i].Now.Bodies K6 hg.2.2.2.2.2.2.1.2.2.2.2 Aqa Aqa 
  rw[h7] at c7
  have c8:=L_mkIntSS xs[i].Used K7 hg.2.2.2.2.2.2.2.1 Aqa Aqa 
  rw[h8] at c8
  have c9:=L_mkSaveS xs[i].Saves K8 hg.2.2.2.2.2.2.2.2.1 Aqa Aqa 
  rw[h9] at c9
  have c10:=L_mkIntS xs[i].Sums K9 hg.2.2.2.2.2.2.2.2.2.1 Aqa Aqa 
  rw[h10] at c10
  have hco:Enc.e xs[i] = [.v (.int .i64 xs[i].Me),.v (.int .i64 xs[i].Delay),.v (.int .i64 xs[i].Ahead),.v (.int .i64 xs[i].Seed),.sl 1 (els xs[i].Tracks),.sl 1 (els xs[i].Base.Level.Rows),.v (.int .i64 xs[i].Base.Tick),.v (.int .i64 xs[i].Base.Seed),.sl 1 (els xs[i].Base.Scores),.sl 9 (els xs[i].Base.Bodies),.sl 1 (els xs[i].Now.Level.Rows),.v (.int .i64 xs[i].Now.Tick),.v (.int .i64 xs[i].Now.Seed),.sl 1 (els xs[i].Now.Scores),.sl 9 (els xs[i].Now.Bodies),.sl 1 (els xs[i].Used),.sl 2 (els xs[i].Saves),.sl 1 (els xs[i].Sums),.v (.int .i64 xs[i].Fault.Tick),.v (.int .i64 xs[i].Fault.Player),.v (.int .i64 xs[i].Fault.Add),.v (.int .i64 xs[i].Rolls),.v (.int .i64 xs[i].Again)]:=Aqb
  generalize hcs:([.v (.int .i64 K),.v (.int .i64 (K+1)),.v (.int .i64 ((K+1)+1)),.v (.int .i64 (((K+1)+1)+1)),.sl 1 (mkEs (els xs[i].Tracks) ((((K+1)+1)+1)+1)),.sl 1 (mkEs (els xs[i].Base.Level.Rows) K1),.v (.int .i64 K2),.v (.int .i64 (K2+1)),.sl 1 (mkEs (els xs[i].Base.Scores) ((K2+1)+1)),.sl 9 (mkEs (els xs[i].Base.Bodies) K3),.sl 1 (mkEs (els xs[i].Now.Level.Rows) K4),.v (.int .i64 K5),.v (.int .i64 (K5+1)),.sl 1 (mkEs (els xs[i].Now.Scores) ((K5+1)+1)),.sl 9 (mkEs (els xs[i].Now.Bodies) K6),.sl 1 (mkEs (els xs[i].Used) K7),.sl 2 (mkEs (els xs[i].Saves) K8),.sl 1 (mkEs (els xs[i].Sums) K9),.v (.int .i64 K10),.v (.int .i64 (K10+1)),.v (.int .i64 ((K10+1)+1)),.v (.int .i64 (((K10+1)+1)+1)),.v (.int .i64 ((((K10+1)+1)+1)+1))]:List T)=cs at hend
  generalize hds:([.v (.int .i64 xs[i].Me),.v (.int .i64 xs[i].Delay),.v (.int .i64 xs[i].Ahead),.v (.int .i64 xs[i].Seed),.sl 1 (els xs[i].Tracks),.sl 1 (els xs[i].Base.Level.Rows),.v (.int .i64 xs[i].Base.Tick),.v (.int .i64 xs[i].Base.Seed),.sl 1 (els xs[i].Base.Scores),.sl 9 (els xs[i].Base.Bodies),.sl 1 (els xs[i].Now.Level.Rows),.v (.int .i64 xs[i].Now.Tick),.v (.int .i64 xs[i].Now.Seed),.sl 1 (els xs[i].Now.Scores),.sl 9 (els xs[i].Now.Bodies),.sl 1 (els xs[i].Used),.sl 2 (els xs[i].Saves),.sl 1 (els xs[i].Sums),.v (.int .i64 xs[i].Fault.Tick),.v (.int .i64 xs[i].Fault.Player),.v (.int .i64 xs[i].Fault.Add),.v (.int .i64 xs[i].Rolls),.v (.int .i64 xs[i].Again)]:List T)=ds at hco
  rw[hco,show ds=pm cs ds 0 from rfl]
  have hdl:23=ds.length:=by rw[←hds]; rfl
  have hlc:cs.length=ds.length:=by rw[←hcs,←hds]; rfl
  have u0:cs[0]? = some (.v (.int .i64 K)):=by rw[←hcs]; rfl
  have u1:cs[1]? = some (.v (.int .i64 (K+1))):=by rw[←hcs]; rfl
  have u2:cs[2]? = some (.v (.int .i64 ((K+1)+1))):=by rw[←hcs]; rfl
  have u3:cs[3]? = some (.v (.int .i64 (((K+1)+1)+1))):=by rw[←hcs]; rfl
  have u4:cs[4]? = some (.sl 1 (mkEs (els xs[i].Tracks) ((((K+1)+1)+1)+1))):=by rw[←hcs]; rfl
  have d4:ds[4]? = some (.sl 1 (els xs[i].Tracks)):=by rw[←hds]; rfl
  have u5:cs[5]? = some (.sl 1 (mkEs (els xs[i].Base.Level.Rows) K1)):=by rw[←hcs]; rfl
  have d5:ds[5]? = some (.sl 1 (els xs[i].Base.Level.Rows)):=by rw[←hds]; rfl
  have u6:cs[6]? = some (.v (.int .i64 K2)):=by rw[←hcs]; rfl
  have u7:cs[7]? = some (.v (.int .i64 (K2+1))):=by rw[←hcs]; rfl
  have u8:cs[8]? = some (.sl 1 (mkEs (els xs[i].Base.Scores) ((K2+1)+1))):=by rw[←hcs]; rfl
  have d8:ds[8]? = some (.sl 1 (els xs[i].Base.Scores)):=by rw[←hds]; rfl
  have u9:cs[9]? = some (.sl 9 (mkEs (els xs[i].Base.Bodies) K3)):=by rw[←hcs]; rfl
  have d9:ds[9]? = some (.sl 9 (els xs[i].Base.Bodies)):=by rw[←hds]; rfl
  have u10:cs[10]? = some (.sl 1 (mkEs (els xs[i].Now.Level.Rows) K4)):=by rw[←hcs]; rfl
  have d10:ds[10]? = some (.sl 1 (els xs[i].Now.Level.Rows)):=by rw[←hds]; rfl
  have u11:cs[11]? = some (.v (.int .i64 K5)):=by rw[←hcs]; rfl
  have u12:cs[12]? = some (.v (.int .i64 (K5+1))):=by rw[←hcs]; rfl
  have u13:cs[13]? = some (.sl 1 (mkEs (els xs[i].Now.Scores) ((K5+1)+1))):=by rw[←hcs]; rfl
  have d13:ds[13]? = some (.sl 1 (els xs[i].Now.Scores)):=by rw[←hds]; rfl
  have u14:cs[14]? = some (.sl 9 (mkEs (els xs[i].Now.Bodies) K6)):=by rw[←hcs]; rfl
  have d14:ds[14]? = some (.sl 9 (els xs[i].Now.Bodies)):=by rw[←hds]; rfl
  have u15:cs[15]? = some (.sl 1 (mkEs (els xs[i].Used) K7)):=by rw[←hcs]; rfl
  have d15:ds[15]? = some (.sl 1 (els xs[i].Used)):=by rw[←hds]; rfl
  have u16:cs[16]? = some (.sl 2 (mkEs (els xs[i].Saves) K8)):=by rw[←hcs]; rfl
  have d16:ds[16]? = some (.sl 2 (els xs[i].Saves)):=by rw[←hds]; rfl
  have u17:cs[17]? = some (.sl 1 (mkEs (els xs[i].Sums) K9)):=by rw[←hcs]; rfl
  have d17:ds[17]? = some (.sl 1 (els xs[i].Sums)):=by rw[←hds]; rfl
  have u18:cs[18]? = some (.v (.int .i64 K10)):=by rw[←hcs]; rfl
  have u19:cs[19]? = some (.v (.int .i64 (K10+1))):=by rw[←hcs]; rfl
  have u20:cs[20]? = some (.v (.int .i64 ((K10+1)+1))):=by rw[←hcs]; rfl
  have u21:cs[21]? = some (.v (.int .i64 (((K10+1)+1)+1))):=by rw[←hcs]; rfl
  have u22:cs[22]? = some (.v (.int .i64 ((((K10+1)+1)+1)+1))):=by rw[←hcs]; rfl
  have f3:decide ((i:Int)<((R.set i (pm cs ds 0)).length:Int))=true:=Gqb (by rw[Gqx]; omega)
  clear hcs hds hse
  refine Wz [43,113,82,78,61] ?_;refine AL.weak (st':=(⟨189,[(0,Aqg 0),(1,I K),(5,I i)],[.row 23 (R.set i (pm cs ds 1)),.gh 0 (.c (.ref 0))]⟩:St)) (X4 [0,1] Aqc J ( Aqb) (.c J (.c J (.c J (.nil))))) ?_;refine Wz [92,78,61] ?_;refine AL.weak (st':=(⟨189,[(0,Aqg 0),(1,I (K+1)),(5,I i)],[.row 23 (R.set i (pm cs ds 2)),.gh 0 (.c (.ref 0))]⟩:St)) (X4 [0,1] Aqc J ( Aqb) (.c J (.c J (.c J (.nil))))) ?_;refine Wz [92,78,61] ?_;refine AL.weak (st':=(⟨189,[(0,Aqg 0),(1,I ((K+1)+1)),(5,I i)],[.row 23 (R.set i (pm cs ds 3)),.gh 0 (.c (.ref 0))]⟩:St)) (X4 [0,1] Aqc J ( Aqb) (.c J (.c J (.c J (.nil))))) ?_;refine Wz [92,78,61] ?_;refine AL.weak (st':=(⟨189,[(0,Aqg 0),(1,I (((K+1)+1)+1)),(5,I i)],[.row 23 (R.set i (pm cs ds 4)),.gh 0 (.c (.ref 0))]⟩:St)) (X4 [0,1] Aqc J ( Aqb) (.c J (.c J (.c J (.nil))))) ?_;refine Wz [92,9,150,148,0] ?_;refine Xw c1 J J J J J J J J Aqe Aqe Aqe Aqe  (z1 J ?_);refine AL.weak (st':=(⟨189,[(0,Aqg 0),(1,I K1),(5,I i)],[.row 23 (R.set i (pm cs ds 5)),.gh 0 (.c (.ref 0))]⟩:St)) (X4 [0,1] Aqc J ( Aqb) (.c J (.c J (.c J (.nil))))) ?_;refine Wz [6,9,150,143,143,148,0] ?_;refine Xw c2 J J J J J J J J Aqe Aqe Aqe Aqe  (z1 J ?_);refine AL.weak (st':=(⟨189,[(0,Aqg 0),(1,I K2),(5,I i)],[.row 23 (R.set i (pm cs ds 6)),.gh 0 (.c (.ref 0))]⟩:St)) (X4 [0,1] Aqc J ( Aqb) (.c J (.c J (.c J (.nil))))) ?_;refine Wz [6,78,143,61] ?_;refine AL.weak (st':=(⟨189,[(0,Aqg 0),(1,I K2),(5,I i)],[.row 23 (R.set i (pm cs ds 7)),.gh 0 (.c (.ref 0))]⟩:St)) (X4 [0,1] Aqc J ( Aqb) (.c J (.c J (.c J (.nil))))) ?_;refine Wz [92,78,143,61] ?_;refine AL.weak (st':=(⟨189,[(0,Aqg 0),(1,I (K2+1)),(5,I i)],[.row 23 (R.set i (pm cs ds 8)),.gh 0 (.c (.ref 0))]⟩:St)) (X4 [0,1] Aqc J ( Aqb) (.c J (.c J (.c J (.nil))))) ?_;refine Wz [92,9,150,143,148,0] ?_;refine Xw c3 J J J J J J J J Aqe Aqe Aqe Aqe  (z1 J ?_);refine AL.weak (st':=(⟨189,[(0,Aqg 0),(1,I K3),(5,I i)],[.row 23 (R.set i (pm cs ds 9)),.gh 0 (.c (.ref 0))]⟩:St)) (X4 [0,1] Aqc J ( Aqb) (.c J (.c J (.c J (.nil))))) ?_;refine Wz [6,9,150,143,148,0] ?_;refine Xw c4 J J J J J J J J Aqe Aqe Aqe Aqe  (z1 J ?_);refine AL.weak (st':=(⟨189,[(0,Aqg 0),(1,I K4),(5,I i)],[.row 23 (R.set i (pm cs ds 10)),.gh 0 (.c (.ref 0))]⟩:St)) (X4 [0,1] Aqc J ( Aqb) (.c J (.c J (.c J (.nil))))) ?_;refine Wz [6,9,150,143,143,148,0] ?_;refine Xw c5 J J J J J J J J Aqe Aqe Aqe Aqe  (z1 J ?_);refine AL.weak (st':=(⟨189,[(0,Aqg 0),(1,I K5),(5,I i)],[.row 23 (R.set i (pm cs ds 11)),.gh 0 (.c (.ref 0))]⟩:St)) (X4 [0,1] Aqc J ( Aqb) (.c J (.c J (.c J (.nil))))) ?_;refine Wz [6,78,143,61] ?_;refine AL.weak (st':=(⟨189,[(0,Aqg 0),(1,I K5),(5,I i)],[.row 23 (R.set i (pm cs ds 12)),.gh 0 (.c (.ref 0))]⟩:St)) (X4 [0,1] Aqc J ( Aqb) (.c J (.c J (.c J (.nil))))) ?_;refine Wz [92,78,143,61] ?_;refine AL.weak (st':=(⟨189,[(0,Aqg 0),(1,I (K5+1)),(5,I i)],[.row 23 (R.set i (pm cs ds 13)),.gh 0 (.c (.ref 0))]⟩:St)) (X4 [0,1] Aqc J ( Aqb) (.c J (.c J (.c J (.nil))))) ?_;refine Wz [92,9,150,143,148,0] ?_;refine Xw c6 J J J J J J J J Aqe Aqe Aqe Aqe  (z1 J ?_);refine AL.weak (st':=(⟨189,[(0,Aqg 0),(1,I K6),(5,I i)],[.row 23 (R.set i (pm cs ds 14)),.gh 0 (.c (.ref 0))]⟩:St)) (X4 [0,1] Aqc J ( Aqb) (.c J (.c J (.c J (.nil))))) ?_;refine Wz [6,9,150,143,148,0] ?_;refine Xw c7 J J J J J J J J Aqe Aqe Aqe Aqe  (z1 J ?_);refine AL.weak (st':=(⟨189,[(0,Aqg 0),(1,I K7),(5,I i)],[.row 23 (R.set i (pm cs ds 15)),.gh 0 (.c (.ref 0))]⟩:St)) (X4 [0,1] Aqc J ( Aqb) (.c J (.c J (.c J (.nil))))) ?_;refine Wz [6,9,150,148,0] ?_;refine Xw c8 J J J J J J J J Aqe Aqe Aqe Aqe  (z1 J ?_);refine AL.weak (st':=(⟨189,[(0,Aqg 0),(1,I K8),(5,I i)],[.row 23 (R.set i (pm cs ds 16)),.gh 0 (.c (.ref 0))]⟩:St)) (X4 [0,1] Aqc J ( Aqb) (.c J (.c J (.c J (.nil))))) ?_;refine Wz [6,9,150,148,0] ?_;refine Xw c9 J J J J J J J J Aqe Aqe Aqe Aqe  (z1 J ?_);refine AL.weak (st':=(⟨189,[(0,Aqg 0),(1,I K9),(5,I i)],[.row 23 (R.set i (pm cs ds 17)),.gh 0 (.c (.ref 0))]⟩:St)) (X4 [0,1] Aqc J ( Aqb) (.c J (.c J (.c J (.nil))))) ?_;refine Wz [6,9,150,148,0] ?_;refine Xw c10 J J J J J J J J Aqe Aqe Aqe Aqe  (z1 J ?_);refine AL.weak (st':=(⟨189,[(0,Aqg 0),(1,I K10),(5,I i)],[.row 23 (R.set i (pm cs ds 18)),.gh 0 (.c (.ref 0))]⟩:St)) (X4 [0,1] Aqc J ( Aqb) (.c J (.c J (.c J (.nil))))) ?_;refine Wz [6,78,143,61] ?_;refine AL.weak (st':=(⟨189,[(0,Aqg 0),(1,I K10),(5,I i)],[.row 23 (R.set i (pm cs ds 19)),.gh 0 (.c (.ref 0))]⟩:St)) (X4 [0,1] Aqc J ( Aqb) (.c J (.c J (.c J (.nil))))) ?_;refine Wz [92,78,143,61] ?_;refine AL.weak (st':=(⟨189,[(0,Aqg 0),(1,I (K10+1)),(5,I i)],[.row 23 (R.set i (pm cs ds 20)),.gh 0 (.c (.ref 0))]⟩:St)) (X4 [0,1] Aqc J ( Aqb) (.c J (.c J (.c J (.nil))))) ?_;refine Wz [92,78,143,61] ?_;refine AL.weak (st':=(⟨189,[(0,Aqg 0),(1,I ((K10+1)+1)),(5,I i)],[.row 23 (R.set i (pm cs ds 21)),.gh 0 (.c (.ref 0))]⟩:St)) (X4 [0,1] Aqc J ( Aqb) (.c J (.c J (.c J (.nil))))) ?_;refine Wz [92,78,61] ?_;refine AL.weak (st':=(⟨189,[(0,Aqg 0),(1,I (((K10+1)+1)+1)),(5,I i)],[.row 23 (R.set i (pm cs ds 22)),.gh 0 (.c (.ref 0))]⟩:St)) (X4 [0,1] Aqc J ( Aqb) (.c J (.c J (.c J (.nil))))) ?_;refine Wz [92,78,61] ?_;refine AL.weak (st':=(⟨189,[(0,Aqg 0),(1,I ((((K10+1)+1)+1)+1)),(5,I i)],[.row 23 (R.set i (pm cs ds 23)),.gh 0 (.c (.ref 0))]⟩:St)) (X4 [0,1] Aqc J ( Aqb) (.c J (.c J (.c J (.nil))))) ?_;refine Wz [6,94,18,87] ?_
  replace hend:=hend.trans (congrArg (R.set i) (show cs=pm cs ds 23 by rw[pm,Gqh (show cs.length≤23 by rw[hlc,←hdl]; exact Gqk _),List.drop_of_length_le (by rw[←hdl]; exact Gqk _),Gq1]))
  exact⟨xs.length-(i+1),Aqa,(fun i:Nat=>(⟨189,[(0,Aqg 0),(1,I (nkEs ((els xs).take i) k)),(5,I i)],[.row 23 (mkEs ((els xs).take i) k++(els xs).drop i),.gh 0 (.c (.ref 0))]⟩:St)) (i+1),⟨i+1,Aqa,trivial,J⟩,X4 [0,1] Aqc J ((by rw[hend]; rfl)) (.c J (.cons (Xq hnx.symm) (.c J (.nil))))⟩
 ·have f3:decide ((i:Int)<((mkEs ((els xs).take i) k++(els xs).drop i).length:Int))=false:=Gqa Aqa 
  have hk:=Gqh (show (els xs).length≤i by omega)
  have he:=Y5 (show (els xs).length≤i by omega) k
  refine Wz [43,113,44,31] ?_
  exact Xl J J (X1 [0,1] Aqc J (row2 he.symm) (Xq (by rw[hk])))
theorem L_mkFlightS (xs:List (TFlight)) (k:Int) (g:Enc.gd xs) (h0:0<k) (hb:nkEs (els xs) k≤1073741823):Con Tryz.prog 156 [.row 2 (els xs),.gh 0 (.c (.ref 0))] [.c (.ref 0),ai k] [.row 2 (mkEs (els xs) k),.gh 0 (.c (.ref 0))] (I (nkEs (els xs) k)):=by
 have hn:=Yi xs
 have hn1:=g.1
 refine Con.of Tryz.func156 J Tryz.ntmps156 J (fun E => ?_)
 refine Wz [12,11] ?_;refine Xh (fun m st=>∃ i:Nat,i+m=xs.length∧(True)∧st=(⟨28,[(0,Aqg 0),(1,I (nkEs ((els xs).take i) k)),(5,I i)],[.row 2 (mkEs ((els xs).take i) k++(els xs).drop i),.gh 0 (.c (.ref 0))]⟩:St)) (xs.length) ⟨_,⟨0,Aqa,trivial,J⟩,X3 [0,1] Aqb⟩ ?_
 rintro m_A _ ⟨i,hk_A,hp_A,rfl⟩
 have hl2:=Y6 (es:=els xs) (i:=i) k
 by_cases h3:i<xs.length
 ·have hat:(els xs)[i]? = some (Enc.e xs[i]):=Yg h3
  have hg:=g.2 _ (Gqe h3)
  have hl:=Int.le_trans (Za hat k) hb
  have hi:=Zb ((els xs).take i) k
  have hend:=Y4 hat k
  have hnx:=Zc hat k
  have hq:=mt_lt hat k
  have hse:=Y8 hat k
  rw[hse]
  generalize mkEs ((els xs).take i) k++(els xs).drop i=R at hq hend hl2 ⊢
  generalize nkEs ((els xs).take i) k=K at hl hi hend hnx ⊢
  have hq:(i:Int).toNat<R.length:=hq
  have e1:nkE (Enc.e xs[i]) K=((K+1)+1):=Aqb
  have e2:mkE (Enc.e xs[i]) K = [.v (.int .i64 K),.v (.string (mtext (K+1)))]:=Aqb
  rw[e1] at hl hnx
  rw[e2] at hend
  clear e1 e2
  have hco:Enc.e xs[i] = [.v (.int .i64 xs[i].At),.v (.string xs[i].Data)]:=Aqb
  generalize hcs:([.v (.int .i64 K),.v (.string (mtext (K+1)))]:List T)=cs at hend
  generalize hds:([.v (.int .i64 xs[i].At),.v (.string xs[i].Data)]:List T)=ds at hco
  rw[hco,show ds=pm cs ds 0 from rfl]
  have hdl:2=ds.length:=by rw[←hds]; rfl
  have hlc:cs.length=ds.length:=by rw[←hcs,←hds]; rfl
  have u0:cs[0]? = some (.v (.int .i64 K)):=by rw[←hcs]; rfl
  have u1:cs[1]? = some (.v (.string (mtext (K+1)))):=by rw[←hcs]; rfl
  have f3:decide ((i:Int)<((R.set i (pm cs ds 0)).length:Int))=true:=Gqb (by rw[Gqx]; omega)
  clear hcs hds hse
  refine Wz [43,113,82,78,61] ?_;refine AL.weak (st':=(⟨28,[(0,Aqg 0),(1,I K),(5,I i)],[.row 2 (R.set i (pm cs ds 1)),.gh 0 (.c (.ref 0))]⟩:St)) (X4 [0,1] Aqc J ( Aqb) (.c J (.c J (.c J (.nil))))) ?_;refine Wz [92,169] ?_;refine zx (Qj J J (Xt _ Aqa) J) J ?_;refine Wz [150,61] ?_;refine AL.weak (st':=(⟨28,[(0,Aqg 0),(1,I (K+1)),(5,I i)],[.row 2 (R.set i (pm cs ds 2)),.gh 0 (.c (.ref 0))]⟩:St)) (X4 [0,1] Aqc J ( Aqb) (.c J (.c J (.c J (.nil))))) ?_;refine Wz [6,94,18,87] ?_
  replace hend:=hend.trans (congrArg (R.set i) (show cs=pm cs ds 2 by rw[pm,Gqh (show cs.length≤2 by rw[hlc,←hdl]; exact Gqk _),List.drop_of_length_le (by rw[←hdl]; exact Gqk _),Gq1]))
  exact⟨xs.length-(i+1),Aqa,(fun i:Nat=>(⟨28,[(0,Aqg 0),(1,I (nkEs ((els xs).take i) k)),(5,I i)],[.row 2 (mkEs ((els xs).take i) k++(els xs).drop i),.gh 0 (.c (.ref 0))]⟩:St)) (i+1),⟨i+1,Aqa,trivial,J⟩,X4 [0,1] Aqc J ((by rw[hend]; rfl)) (.c J (.cons (Xq hnx.symm) (.c J (.nil))))⟩
 ·have f3:decide ((i:Int)<((mkEs ((els xs).take i) k++(els xs).drop i).length:Int))=false:=Gqa Aqa 
  have hk:=Gqh (show (els xs).length≤i by omega)
  have he:=Y5 (show (els xs).length≤i by omega) k
  refine Wz [43,113,44,31] ?_
  exact Xl J J (X1 [0,1] Aqc J (row2 he.symm) (Xq (by rw[hk])))
theorem L_mkWireS (xs:List (TWire)) (k:Int) (g:Enc.gd xs) (h0:0<k) (hb:nkEs (els xs) k≤1073741823):Con Tryz.prog 73 [.row 10 (els xs),.gh 0 (.c (.ref 0))] [.c (.ref 0),ai k] [.row 10 (mkEs (els xs) k),.gh 0 (.c (.ref 0))] (I (nkEs (els xs) k)):=by
 have hn:=Yi xs
 have hn1:=g.1
 refine Con.of Tryz.func73 J Tryz.ntmps73 J (fun E => ?_)
 refine Wz [12,11] ?_;refine Xh (fun m st=>∃ i:Nat,i+m=xs.length∧(True)∧st=(⟨83,[(0,Aqg 0),(1,I (nkEs ((els xs).take i) k)),(5,I i)],[.row 10 (mkEs ((els xs).take i) k++(els xs).drop i),.gh 0 (.c (.ref 0))]⟩:St)) (xs.length) ⟨_,⟨0,Aqa,trivial,J⟩,X3 [0,1] Aqb⟩ ?_
 rintro m_A _ ⟨i,hk_A,hp_A,rfl⟩
 have hl2:=Y6 (es:=els xs) (i:=i) k
 by_cases h3:i<xs.length
 ·have hat:(els xs)[i]? = some (Enc.e xs[i]):=Yg h3
  have hg:=g.2 _ (Gqe h3)
  have hl:=Int.le_trans (Za hat k) hb
  have hi:=Zb ((els xs).take i) k
  have hend:=Y4 hat k
  have hnx:=Zc hat k
  have hq:=mt_lt hat k
  have hse:=Y8 hat k
  rw[hse]
  generalize mkEs ((els xs).take i) k++(els xs).drop i=R at hq hend hl2 ⊢
  generalize nkEs ((els xs).take i) k=K at hl hi hend hnx ⊢
  have hq:(i:Int).toNat<R.length:=hq
  have e1:nkE (Enc.e xs[i]) K=(((nkEs (els xs[i].Flights) (((((((K+1)+1)+1)+1)+1)+1)+1))+1)+1):=Aqb
  have e2:mkE (Enc.e xs[i]) K = [.v (.int .i64 K),.v (.int .i64 (K+1)),.v (.int .i64 ((K+1)+1)),.v (.int .i64 (((K+1)+1)+1)),.v (.int .i64 ((((K+1)+1)+1)+1)),.v (.int .i64 (((((K+1)+1)+1)+1)+1)),.v (.int .i64 ((((((K+1)+1)+1)+1)+1)+1)),.sl 2 (mkEs (els xs[i].Flights) (((((((K+1)+1)+1)+1)+1)+1)+1)),.v (.int .i64 (nkEs (els xs[i].Flights) (((((((K+1)+1)+1)+1)+1)+1)+1))),.v (.int .i64 ((nkEs (els xs[i].Flights) (((((((K+1)+1)+1)+1)+1)+1)+1))+1))]:=Aqb
  rw[e1] at hl hnx
  rw[e2] at hend
  clear e1 e2
  have m1:=Zb (els xs[i].Flights) (((((((K+1)+1)+1)+1)+1)+1)+1)
  generalize h1:nkEs (els xs[i].Flights) (((((((K+1)+1)+1)+1)+1)+1)+1)=K1 at m1 hl hnx hend
  have c1:=L_mkFlightS xs[i].Flights (((((((K+1)+1)+1)+1)+1)+1)+1) hg.2.2.2.2.2.2.2.1 Aqa Aqa 
  rw[h1] at c1
  have hco:Enc.e xs[i] = [.v (.int .i64 xs[i].Seed),.v (.int .i64 xs[i].Delay),.v (.int .i64 xs[i].Jitter),.v (.int .i64 xs[i].Loss),.v (.int .i64 xs[i].Copies),.v (.int .i64 xs[i].Damage),.v (.int .i64 xs[i].Now),.sl 2 (els xs[i].Flights),.v (.int .i64 xs[i].Sent),.v (.int .i64 xs[i].Lost)]:=Aqb
  generalize hcs:([.v (.int .i64 K),.v (.int .i64 (K+1)),.v (.int .i64 ((K+1)+1)),.v (.int .i64 (((K+1)+1)+1)),.v (.int .i64 ((((K+1)+1)+1)+1)),.v (.int .i64 (((((K+1)+1)+1)+1)+1)),.v (.int .i64 ((((((K+1)+1)+1)+1)+1)+1)),.sl 2 (mkEs (els xs[i].Flights) (((((((K+1)+1)+1)+1)+1)+1)+1)),.v (.int .i64 K1),.v (.int .i64 (K1+1))]:List T)=cs at hend
  generalize hds:([.v (.int .i64 xs[i].Seed),.v (.int .i64 xs[i].Delay),.v (.int .i64 xs[i].Jitter),.v (.int .i64 xs[i].Loss),.v (.int .i64 xs[i].Copies),.v (.int .i64 xs[i].Damage),.v (.int .i64 xs[i].Now),.sl 2 (els xs[i].Flights),.v (.int .i64 xs[i].Sent),.v (.int .i64 xs[i].Lost)]:List T)=ds at hco
  rw[hco,show ds=pm cs ds 0 from rfl]
  have hdl:10=ds.length:=by rw[←hds]; rfl
  have hlc:cs.length=ds.length:=by rw[←hcs,←hds]; rfl
  have u0:cs[0]? = some (.v (.int .i64 K)):=by rw[←hcs]; rfl
  have u1:cs[1]? = some (.v (.int .i64 (K+1))):=by rw[←hcs]; rfl
  have u2:cs[2]? = some (.v (.int .i64 ((K+1)+1))):=by rw[←hcs]; rfl
  have u3:cs[3]? = some (.v (.int .i64 (((K+1)+1)+1))):=by rw[←hcs]; rfl
  have u4:cs[4]? = some (.v (.int .i64 ((((K+1)+1)+1)+1))):=by rw[←hcs]; rfl
  have u5:cs[5]? = some (.v (.int .i64 (((((K+1)+1)+1)+1)+1))):=by rw[←hcs]; rfl
  have u6:cs[6]? = some (.v (.int .i64 ((((((K+1)+1)+1)+1)+1)+1))):=by rw[←hcs]; rfl
  have u7:cs[7]? = some (.sl 2 (mkEs (els xs[i].Flights) (((((((K+1)+1)+1)+1)+1)+1)+1))):=by rw[←hcs]; rfl
  have d7:ds[7]? = some (.sl 2 (els xs[i].Flights)):=by rw[←hds]; rfl
  have u8:cs[8]? = some (.v (.int .i64 K1)):=by rw[←hcs]; rfl
  have u9:cs[9]? = some (.v (.int .i64 (K1+1))):=by rw[←hcs]; rfl
  have f3:decide ((i:Int)<((R.set i (pm cs ds 0)).length:Int))=true:=Gqb (by rw[Gqx]; omega)
  clear hcs hds hse
  refine Wz [43,113,82,78,61] ?_;refine AL.weak (st':=(⟨83,[(0,Aqg 0),(1,I K),(5,I i)],[.row 10 (R.set i (pm cs ds 1)),.gh 0 (.c (.ref 0))]⟩:St)) (X4 [0,1] Aqc J ( Aqb) (.c J (.c J (.c J (.nil))))) ?_;refine Wz [92,78,61] ?_;refine AL.weak (st':=(⟨83,[(0,Aqg 0),(1,I (K+1)),(5,I i)],[.row 10 (R.set i (pm cs ds 2)),.gh 0 (.c (.ref 0))]⟩:St)) (X4 [0,1] Aqc J ( Aqb) (.c J (.c J (.c J (.nil))))) ?_;refine Wz [92,78,61] ?_;refine AL.weak (st':=(⟨83,[(0,Aqg 0),(1,I ((K+1)+1)),(5,I i)],[.row 10 (R.set i (pm cs ds 3)),.gh 0 (.c (.ref 0))]⟩:St)) (X4 [0,1] Aqc J ( Aqb) (.c J (.c J (.c J (.nil))))) ?_;refine Wz [92,78,61] ?_;refine AL.weak (st':=(⟨83,[(0,Aqg 0),(1,I (((K+1)+1)+1)),(5,I i)],[.row 10 (R.set i (pm cs ds 4)),.gh 0 (.c (.ref 0))]⟩:St)) (X4 [0,1] Aqc J ( Aqb) (.c J (.c J (.c J (.nil))))) ?_;refine Wz [92,78,61] ?_;refine AL.weak (st':=(⟨83,[(0,Aqg 0),(1,I ((((K+1)+1)+1)+1)),(5,I i)],[.row 10 (R.set i (pm cs ds 5)),.gh 0 (.c (.ref 0))]⟩:St)) (X4 [0,1] Aqc J ( Aqb) (.c J (.c J (.c J (.nil))))) ?_;refine Wz [92,78,61] ?_;refine AL.weak (st':=(⟨83,[(0,Aqg 0),(1,I (((((K+1)+1)+1)+1)+1)),(5,I i)],[.row 10 (R.set i (pm cs ds 6)),.gh 0 (.c (.ref 0))]⟩:St)) (X4 [0,1] Aqc J ( Aqb) (.c J (.c J (.c J (.nil))))) ?_;refine Wz [92,78,61] ?_;refine AL.weak (st':=(⟨83,[(0,Aqg 0),(1,I ((((((K+1)+1)+1)+1)+1)+1)),(5,I i)],[.row 10 (R.set i (pm cs ds 7)),.gh 0 (.c (.ref 0))]⟩:St)) (X4 [0,1] Aqc J ( Aqb) (.c J (.c J (.c J (.nil))))) ?_;refine Wz [92,9,150,148,0] ?_;refine Xw c1 J J J J J J J J Aqe Aqe Aqe Aqe  (z1 J ?_);refine AL.weak (st':=(⟨83,[(0,Aqg 0),(1,I K1),(5,I i)],[.row 10 (R.set i (pm cs ds 8)),.gh 0 (.c (.ref 0))]⟩:St)) (X4 [0,1] Aqc J ( Aqb) (.c J (.c J (.c J (.nil))))) ?_;refine Wz [6,78,61] ?_;refine AL.weak (st':=(⟨83,[(0,Aqg 0),(1,I K1),(5,I i)],[.row 10 (R.set i (pm cs ds 9)),.gh 0 (.c (.ref 0))]⟩:St)) (X4 [0,1] Aqc J ( Aqb) (.c J (.c J (.c J (.nil))))) ?_;refine Wz [92,78,61] ?_;refine AL.weak (st':=(⟨83,[(0,Aqg 0),(1,I (K1+1)),(5,I i)],[.row 10 (R.set i (pm cs ds 10)),.gh 0 (.c (.ref 0))]⟩:St)) (X4 [0,1] Aqc J ( Aqb) (.c J (.c J (.c J (.nil))))) ?_;refine Wz [6,94,18,87] ?_
  replace hend:=hend.trans (congrArg (R.set i) (show cs=pm cs ds 10 by rw[pm,Gqh (show cs.length≤10 by rw[hlc,←hdl]; exact Gqk _),List.drop_of_length_le (by rw[←hdl]; exact Gqk _),Gq1]))
  exact⟨xs.length-(i+1),Aqa,(fun i:Nat=>(⟨83,[(0,Aqg 0),(1,I (nkEs ((els xs).take i) k)),(5,I i)],[.row 10 (mkEs ((els xs).take i) k++(els xs).drop i),.gh 0 (.c (.ref 0))]⟩:St)) (i+1),⟨i+1,Aqa,trivial,J⟩,X4 [0,1] Aqc J ((by rw[hend]; rfl)) (.c J (.cons (Xq hnx.symm) (.c J (.nil))))⟩
 ·have f3:decide ((i:Int)<((mkEs ((els xs).take i) k++(els xs).drop i).length:Int))=false:=Gqa Aqa 
  have hk:=Gqh (show (els xs).length≤i by omega)
  have he:=Y5 (show (els xs).length≤i by omega) k
  refine Wz [43,113,44,31] ?_
  exact Xl J J (X1 [0,1] Aqc J (row2 he.symm) (Xq (by rw[hk])))
theorem L_mkWireSS (xs:List (List TWire)) (k:Int) (g:Enc.gd xs) (h0:0<k) (hb:nkEs (els xs) k≤1073741823):Con Tryz.prog 70 [.row 1 (els xs),.gh 0 (.c (.ref 0))] [.c (.ref 0),ai k] [.row 1 (mkEs (els xs) k),.gh 0 (.c (.ref 0))] (I (nkEs (els xs) k)):=by
 have hn:=Yi xs
 have hn1:=g.1
 refine Con.of Tryz.func70 J Tryz.ntmps70 J (fun E => ?_)
 refine Wz [12,11] ?_;refine Xh (fun m st=>∃ i:Nat,i+m=xs.length∧(True)∧st=(⟨19,[(0,Aqg 0),(1,I (nkEs ((els xs).take i) k)),(5,I i)],[.row 1 (mkEs ((els xs).take i) k++(els xs).drop i),.gh 0 (.c (.ref 0))]⟩:St)) (xs.length) ⟨_,⟨0,Aqa,trivial,J⟩,X3 [0,1] Aqb⟩ ?_
 rintro m_A _ ⟨i,hk_A,hp_A,rfl⟩
 have hl2:=Y6 (es:=els xs) (i:=i) k
 by_cases h3:i<xs.length
 ·have hat:(els xs)[i]? = some (Enc.e xs[i]):=Yg h3
  have hg:=g.2 _ (Gqe h3)
  have hl:=Int.le_trans (Za hat k) hb
  have hi:=Zb ((els xs).take i) k
  have hend:=Y4 hat k
  have hnx:=Zc hat k
  have hq:=mt_lt hat k
  have hse:=Y8 hat k
  rw[hse]
  generalize mkEs ((els xs).take i) k++(els xs).drop i=R at hq hend hl2 ⊢
  generalize nkEs ((els xs).take i) k=K at hl hi hend hnx ⊢
  have hq:(i:Int).toNat<R.length:=hq
  have e1:nkE (Enc.e xs[i]) K=(nkEs (els xs[i]) K):=Aqb
  have e2:mkE (Enc.e xs[i]) K = [.sl 10 (mkEs (els xs[i]) K)]:=Aqb
  rw[e1] at hl hnx
  rw[e2] at hend
  clear e1 e2
  have m1:=Zb (els xs[i]) K
  generalize h1:nkEs (els xs[i]) K=K1 at m1 hl hnx hend
  have c1:=L_mkWireS xs[i] K hg Aqa Aqa 
  rw[h1] at c1
  have hco:Enc.e xs[i] = [.sl 10 (els xs[i])]:=Aqb
  generalize hcs:([.sl 10 (mkEs (els xs[i]) K)]:List T)=cs at hend
  generalize hds:([.sl 10 (els xs[i])]:List T)=ds at hco
  rw[hco,show ds=pm cs ds 0 from rfl]
  have hdl:1=ds.length:=by rw[←hds]; rfl
  have hlc:cs.length=ds.length:=by rw[←hcs,←hds]; rfl
  have u0:cs[0]? = some (.sl 10 (mkEs (els xs[i]) K)):=by rw[←hcs]; rfl
  have d0:ds[0]? = some (.sl 10 (els xs[i])):=by rw[←hds]; rfl
  have f3:decide ((i:Int)<((R.set i (pm cs ds 0)).length:Int))=true:=Gqb (by rw[Gqx]; omega)
  clear hcs hds hse
  refine Wz [43,113,82,63,239,148,0] ?_;refine Xw c1 J J J J J J J J Aqe Aqe Aqe Aqe  (z1 J ?_);refine AL.weak (st':=(⟨19,[(0,Aqg 0),(1,I K1),(5,I i)],[.row 1 (R.set i (pm cs ds 1)),.gh 0 (.c (.ref 0))]⟩:St)) (X4 [0,1] Aqc J ( Aqb) (.c J (.c J (.c J (.nil))))) ?_;refine Wz [99] ?_
  replace hend:=hend.trans (congrArg (R.set i) (show cs=pm cs ds 1 by rw[pm,Gqh (show cs.length≤1 by rw[hlc,←hdl]; exact Gqk _),List.drop_of_length_le (by rw[←hdl]; exact Gqk _),Gq1]))
  exact⟨xs.length-(i+1),Aqa,(fun i:Nat=>(⟨19,[(0,Aqg 0),(1,I (nkEs ((els xs).take i) k)),(5,I i)],[.row 1 (mkEs ((els xs).take i) k++(els xs).drop i),.gh 0 (.c (.ref 0))]⟩:St)) (i+1),⟨i+1,Aqa,trivial,J⟩,X4 [0,1] Aqc J ((by rw[hend]; rfl)) (.c J (.cons (Xq hnx.symm) (.c J (.nil))))⟩
 ·have f3:decide ((i:Int)<((mkEs ((els xs).take i) k++(els xs).drop i).length:Int))=false:=Gqa Aqa 
  have hk:=Gqh (show (els xs).length≤i by omega)
  have he:=Y5 (show (els xs).length≤i by omega) k
  refine Wz [43,113,44,31] ?_
  exact Xl J J (X1 [0,1] Aqc J (row2 he.symm) (Xq (by rw[hk])))
theorem L_mkPaceS (xs:List (TPace)) (k:Int) (g:Enc.gd xs) (h0:0<k) (hb:nkEs (els xs) k≤1073741823):Con Tryz.prog 155 [.row 5 (els xs),.gh 0 (.c (.ref 0))] [.c (.ref 0),ai k] [.row 5 (mkEs (els xs) k),.gh 0 (.c (.ref 0))] (I (nkEs (els xs) k)):=by
 have hn:=Yi xs
 have hn1:=g.1
 refine Con.of Tryz.func155 J Tryz.ntmps155 J (fun E => ?_)
 refine Wz [12,11] ?_;refine Xh (fun m st=>∃ i:Nat,i+m=xs.length∧(True)∧st=(⟨48,[(0,Aqg 0),(1,I (nkEs ((els xs).take i) k)),(5,I i)],[.row 5 (mkEs ((els xs).take i) k++(els xs).drop i),.gh 0 (.c (.ref 0))]⟩:St)) (xs.length) ⟨_,⟨0,Aqa,trivial,J⟩,X3 [0,1] Aqb⟩ ?_
 rintro m_A _ ⟨i,hk_A,hp_A,rfl⟩
 have hl2:=Y6 (es:=els xs) (i:=i) k
 by_cases h3:i<xs.length
 ·have hat:(els xs)[i]? = some (Enc.e xs[i]):=Yg h3
  have hg:=g.2 _ (Gqe h3)
  have hl:=Int.le_trans (Za hat k) hb
  have hi:=Zb ((els xs).take i) k
  have hend:=Y4 hat k
  have hnx:=Zc hat k
  have hq:=mt_lt hat k
  have hse:=Y8 hat k
  rw[hse]
  generalize mkEs ((els xs).take i) k++(els xs).drop i=R at hq hend hl2 ⊢
  generalize nkEs ((els xs).take i) k=K at hl hi hend hnx ⊢
  have hq:(i:Int).toNat<R.length:=hq
  have e1:nkE (Enc.e xs[i]) K=(((((K+1)+1)+1)+1)+1):=Aqb
  have e2:mkE (Enc.e xs[i]) K = [.v (.int .i64 K),.v (.int .i64 (K+1)),.v (.int .i64 ((K+1)+1)),.v (.int .i64 (((K+1)+1)+1)),.v (.int .i64 ((((K+1)+1)+1)+1))]:=Aqb
  rw[e1] at hl hnx
  rw[e2] at hend
  clear e1 e2
  have hco:Enc.e xs[i] = [.v (.int .i64 xs[i].Newest),.v (.int .i64 xs[i].Their),.v (.int .i64 xs[i].At),.v (.int .i64 xs[i].Trip),.v (.int .i64 xs[i].Samples)]:=Aqb
  generalize hcs:([.v (.int .i64 K),.v (.int .i64 (K+1)),.v (.int .i64 ((K+1)+1)),.v (.int .i64 (((K+1)+1)+1)),.v (.int .i64 ((((K+1)+1)+1)+1))]:List T)=cs at hend
  generalize hds:([.v (.int .i64 xs[i].Newest),.v (.int .i64 xs[i].Their),.v (.int .i64 xs[i].At),.v (.int .i64 xs[i].Trip),.v (.int .i64 xs[i].Samples)]:List T)=ds at hco
  rw[hco,show ds=pm cs ds 0 from rfl]
  have hdl:5=ds.length:=by rw[←hds]; rfl
  have hlc:cs.length=ds.length:=by rw[←hcs,←hds]; rfl
  have u0:cs[0]? = some (.v (.int .i64 K)):=by rw[←hcs]; rfl
  have u1:cs[1]? = some (.v (.int .i64 (K+1))):=by rw[←hcs]; rfl
  have u2:cs[2]? = some (.v (.int .i64 ((K+1)+1))):=by rw[←hcs]; rfl
  have u3:cs[3]? = some (.v (.int .i64 (((K+1)+1)+1))):=by rw[←hcs]; rfl
  have u4:cs[4]? = some (.v (.int .i64 ((((K+1)+1)+1)+1))):=by rw[←hcs]; rfl
  have f3:decide ((i:Int)<((R.set i (pm cs ds 0)).length:Int))=true:=Gqb (by rw[Gqx]; omega)
  clear hcs hds hse
  refine Wz [43,113,82,78,61] ?_;refine AL.weak (st':=(⟨48,[(0,Aqg 0),(1,I K),(5,I i)],[.row 5 (R.set i (pm cs ds 1)),.gh 0 (.c (.ref 0))]⟩:St)) (X4 [0,1] Aqc J ( Aqb) (.c J (.c J (.c J (.nil))))) ?_;refine Wz [92,78,61] ?_;refine AL.weak (st':=(⟨48,[(0,Aqg 0),(1,I (K+1)),(5,I i)],[.row 5 (R.set i (pm cs ds 2)),.gh 0 (.c (.ref 0))]⟩:St)) (X4 [0,1] Aqc J ( Aqb) (.c J (.c J (.c J (.nil))))) ?_;refine Wz [92,78,61] ?_;refine AL.weak (st':=(⟨48,[(0,Aqg 0),(1,I ((K+1)+1)),(5,I i)],[.row 5 (R.set i (pm cs ds 3)),.gh 0 (.c (.ref 0))]⟩:St)) (X4 [0,1] Aqc J ( Aqb) (.c J (.c J (.c J (.nil))))) ?_;refine Wz [92,78,61] ?_;refine AL.weak (st':=(⟨48,[(0,Aqg 0),(1,I (((K+1)+1)+1)),(5,I i)],[.row 5 (R.set i (pm cs ds 4)),.gh 0 (.c (.ref 0))]⟩:St)) (X4 [0,1] Aqc J ( Aqb) (.c J (.c J (.c J (.nil))))) ?_;refine Wz [92,78,61] ?_;refine AL.weak (st':=(⟨48,[(0,Aqg 0),(1,I ((((K+1)+1)+1)+1)),(5,I i)],[.row 5 (R.set i (pm cs ds 5)),.gh 0 (.c (.ref 0))]⟩:St)) (X4 [0,1] Aqc J ( Aqb) (.c J (.c J (.c J (.nil))))) ?_;refine Wz [6,94,18,87] ?_
  replace hend:=hend.trans (congrArg (R.set i) (show cs=pm cs ds 5 by rw[pm,Gqh (show cs.length≤5 by rw[hlc,←hdl]; exact Gqk _),List.drop_of_length_le (by rw[←hdl]; exact Gqk _),Gq1]))
  exact⟨xs.length-(i+1),Aqa,(fun i:Nat=>(⟨48,[(0,Aqg 0),(1,I (nkEs ((els xs).take i) k)),(5,I i)],[.row 5 (mkEs ((els xs).take i) k++(els xs).drop i),.gh 0 (.c (.ref 0))]⟩:St)) (i+1),⟨i+1,Aqa,trivial,J⟩,X4 [0,1] Aqc J ((by rw[hend]; rfl)) (.c J (.cons (Xq hnx.symm) (.c J (.nil))))⟩
 ·have f3:decide ((i:Int)<((mkEs ((els xs).take i) k++(els xs).drop i).length:Int))=false:=Gqa Aqa 
  have hk:=Gqh (show (els xs).length≤i by omega)
  have he:=Y5 (show (els xs).length≤i by omega) k
  refine Wz [43,113,44,31] ?_
  exact Xl J J (X1 [0,1] Aqc J (row2 he.symm) (Xq (by rw[hk])))
theorem L_mkPaceSS (xs:List (List TPace)) (k:Int) (g:Enc.gd xs) (h0:0<k) (hb:nkEs (els xs) k≤1073741823):Con Tryz.prog 71 [.row 1 (els xs),.gh 0 (.c (.ref 0))] [.c (.ref 0),ai k] [.row 1 (mkEs (els xs) k),.gh 0 (.c (.ref 0))] (I (nkEs (els xs) k)):=by
 have hn:=Yi xs
 have hn1:=g.1
 refine Con.of Tryz.func71 J Tryz.ntmps71 J (fun E => ?_)
 refine Wz [12,11] ?_;refine Xh (fun m st=>∃ i:Nat,i+m=xs.length∧(True)∧st=(⟨19,[(0,Aqg 0),(1,I (nkEs ((els xs).take i) k)),(5,I i)],[.row 1 (mkEs ((els xs).take i) k++(els xs).drop i),.gh 0 (.c (.ref 0))]⟩:St)) (xs.length) ⟨_,⟨0,Aqa,trivial,J⟩,X3 [0,1] Aqb⟩ ?_
 rintro m_A _ ⟨i,hk_A,hp_A,rfl⟩
 have hl2:=Y6 (es:=els xs) (i:=i) k
 by_cases h3:i<xs.length
 ·have hat:(els xs)[i]? = some (Enc.e xs[i]):=Yg h3
  have hg:=g.2 _ (Gqe h3)
  have hl:=Int.le_trans (Za hat k) hb
  have hi:=Zb ((els xs).take i) k
  have hend:=Y4 hat k
  have hnx:=Zc hat k
  have hq:=mt_lt hat k
  have hse:=Y8 hat k
  rw[hse]
  generalize mkEs ((els xs).take i) k++(els xs).drop i=R at hq hend hl2 ⊢
  generalize nkEs ((els xs).take i) k=K at hl hi hend hnx ⊢
  have hq:(i:Int).toNat<R.length:=hq
  have e1:nkE (Enc.e xs[i]) K=(nkEs (els xs[i]) K):=Aqb
  have e2:mkE (Enc.e xs[i]) K = [.sl 5 (mkEs (els xs[i]) K)]:=Aqb
  rw[e1] at hl hnx
  rw[e2] at hend
  clear e1 e2
  have m1:=Zb (els xs[i]) K
  generalize h1:nkEs (els xs[i]) K=K1 at m1 hl hnx hend
  have c1:=L_mkPaceS xs[i] K hg Aqa Aqa 
  rw[h1] at c1
  have hco:Enc.e xs[i] = [.sl 5 (els xs[i])]:=Aqb
  generalize hcs:([.sl 5 (mkEs (els xs[i]) K)]:List T)=cs at hend
  generalize hds:([.sl 5 (els xs[i])]:List T)=ds at hco
  rw[hco,show ds=pm cs ds 0 from rfl]
  have hdl:1=ds.length:=by rw[←hds]; rfl
  have hlc:cs.length=ds.length:=by rw[←hcs,←hds]; rfl
  have u0:cs[0]? = some (.sl 5 (mkEs (els xs[i]) K)):=by rw[←hcs]; rfl
  have d0:ds[0]? = some (.sl 5 (els xs[i])):=by rw[←hds]; rfl
  have f3:decide ((i:Int)<((R.set i (pm cs ds 0)).length:Int))=true:=Gqb (by rw[Gqx]; omega)
  clear hcs hds hse
  refine Wz [43,113,82,63,239,148,0] ?_;refine Xw c1 J J J J J J J J Aqe Aqe Aqe Aqe  (z1 J ?_);refine AL.weak (st':=(⟨19,[(0,Aqg 0),(1,I K1),(5,I i)],[.row 1 (R.set i (pm cs ds 1)),.gh 0 (.c (.ref 0))]⟩:St)) (X4 [0,1] Aqc J ( Aqb) (.c J (.c J (.c J (.nil))))) ?_;refine Wz [99] ?_
  replace hend:=hend.trans (congrArg (R.set i) (show cs=pm cs ds 1 by rw[pm,Gqh (show cs.length≤1 by rw[hlc,←hdl]; exact Gqk _),List.drop_of_length_le (by rw[←hdl]; exact Gqk _),Gq1]))
  exact⟨xs.length-(i+1),Aqa,(fun i:Nat=>(⟨19,[(0,Aqg 0),(1,I (nkEs ((els xs).take i) k)),(5,I i)],[.row 1 (mkEs ((els xs).take i) k++(els xs).drop i),.gh 0 (.c (.ref 0))]⟩:St)) (i+1),⟨i+1,Aqa,trivial,J⟩,X4 [0,1] Aqc J ((by rw[hend]; rfl)) (.c J (.cons (Xq hnx.symm) (.c J (.nil))))⟩
 ·have f3:decide ((i:Int)<((mkEs ((els xs).take i) k++(els xs).drop i).length:Int))=false:=Gqa Aqa 
  have hk:=Gqh (show (els xs).length≤i by omega)
  have he:=Y5 (show (els xs).length≤i by omega) k
  refine Wz [43,113,44,31] ?_
  exact Xl J J (X1 [0,1] Aqc J (row2 he.symm) (Xq (by rw[hk])))
theorem L_mkSpectatorS (xs:List (TSpectator)) (k:Int) (g:Enc.gd xs) (h0:0<k) (hb:nkEs (els xs) k≤1073741823):Con Tryz.prog 72 [.row 6 (els xs),.gh 0 (.c (.ref 0))] [.c (.ref 0),ai k] [.row 6 (mkEs (els xs) k),.gh 0 (.c (.ref 0))] (I (nkEs (els xs) k)):=by
 have hn:=Yi xs
 have hn1:=g.1
 refine Con.of Tryz.func72 J Tryz.ntmps72 J (fun E => ?_)
 refine Wz [12,11] ?_;refine Xh (fun m st=>∃ i:Nat,i+m=xs.length∧(True)∧st=(⟨61,[(0,Aqg 0),(1,I (nkEs ((els xs).take i) k)),(5,I i)],[.row 6 (mkEs ((els xs).take i) k++(els xs).drop i),.gh 0 (.c (.ref 0))]⟩:St)) (xs.length) ⟨_,⟨0,Aqa,trivial,J⟩,X3 [0,1] Aqb⟩ ?_
 rintro m_A _ ⟨i,hk_A,hp_A,rfl⟩
 have hl2:=Y6 (es:=els xs) (i:=i) k
 by_cases h3:i<xs.length
 ·have hat:(els xs)[i]? = some (Enc.e xs[i]):=Yg h3
  have hg:=g.2 _ (Gqe h3)
  have hl:=Int.le_trans (Za hat k) hb
  have hi:=Zb ((els xs).take i) k
  have hend:=Y4 hat k
  have hnx:=Zc hat k
  have hq:=mt_lt hat k
  have hse:=Y8 hat k
  rw[hse]
  generalize mkEs ((els xs).take i) k++(els xs).drop i=R at hq hend hl2 ⊢
  generalize nkEs ((els xs).take i) k=K at hl hi hend hnx ⊢
  have hq:(i:Int).toNat<R.length:=hq
  have e1:nkE (Enc.e xs[i]) K=((nkEs (els xs[i].World.Bodies) (nkEs (els xs[i].World.Scores) (((nkEs (els xs[i].World.Level.Rows) K)+1)+1)))+1):=Aqb
  have e2:mkE (Enc.e xs[i]) K = [.sl 1 (mkEs (els xs[i].World.Level.Rows) K),.v (.int .i64 (nkEs (els xs[i].World.Level.Rows) K)),.v (.int .i64 ((nkEs (els xs[i].World.Level.Rows) K)+1)),.sl 1 (mkEs (els xs[i].World.Scores) (((nkEs (els xs[i].World.Level.Rows) K)+1)+1)),.sl 9 (mkEs (els xs[i].World.Bodies) (nkEs (els xs[i].World.Scores) (((nkEs (els xs[i].World.Level.Rows) K)+1)+1))),.v (.int .i64 (nkEs (els xs[i].World.Bodies) (nkEs (els xs[i].World.Scores) (((nkEs (els xs[i].World.Level.Rows) K)+1)+1))))]:=Aqb
  rw[e1] at hl hnx
  rw[e2] at hend
  clear e1 e2
  have m1:=Zb (els xs[i].World.Level.Rows) K
  generalize h1:nkEs (els xs[i].World.Level.Rows) K=K1 at m1 hl hnx hend
  have m2:=Zb (els xs[i].World.Scores) ((K1+1)+1)
  generalize h2:nkEs (els xs[i].World.Scores) ((K1+1)+1)=K2 at m2 hl hnx hend
  have m3:=Zb (els xs[i].World.Bodies) K2
  generalize h3:nkEs (els xs[i].World.Bodies) K2=K3 at m3 hl hnx hend
  have c1:=Xu xs[i].World.Level.Rows K hg.1.1 Aqa Aqa 
  rw[h1] at c1
  have c2:=L_mkIntS xs[i].World.Scores ((K1+1)+1) hg.1.2.2.2.1 Aqa Aqa 
  rw[h2] at c2
  have c3:=L_mkBodyS xs[i].World.Bodies K2 hg.1.2.2.2.2 Aqa Aqa 
  rw[h3] at c3
  have hco:Enc.e xs[i] = [.sl 1 (els xs[i].World.Level.Rows),.v (.int .i64 xs[i].World.Tick),.v (.int .i64 xs[i].World.Seed),.sl 1 (els xs[i].World.Scores),.sl 9 (els xs[i].World.Bodies),.v (.int .i64 xs[i].Gaps)]:=Aqb
  generalize hcs:([.sl 1 (mkEs (els xs[i].World.Level.Rows) K),.v (.int .i64 K1),.v (.int .i64 (K1+1)),.sl 1 (mkEs (els xs[i].World.Scores) ((K1+1)+1)),.sl 9 (mkEs (els xs[i].World.Bodies) K2),.v (.int .i64 K3)]:List T)=cs at hend
  generalize hds:([.sl 1 (els xs[i].World.Level.Rows),.v (.int .i64 xs[i].World.Tick),.v (.int .i64 xs[i].World.Seed),.sl 1 (els xs[i].World.Scores),.sl 9 (els xs[i].World.Bodies),.v (.int .i64 xs[i].Gaps)]:List T)=ds at hco
  rw[hco,show ds=pm cs ds 0 from rfl]
  have hdl:6=ds.length:=by rw[←hds]; rfl
  have hlc:cs.length=ds.length:=by rw[←hcs,←hds]; rfl
  have u0:cs[0]? = some (.sl 1 (mkEs (els xs[i].World.Level.Rows) K)):=by rw[←hcs]; rfl
  have d0:ds[0]? = some (.sl 1 (els xs[i].World.Level.Rows)):=by rw[←hds]; rfl
  have u1:cs[1]? = some (.v (.int .i64 K1)):=by rw[←hcs]; rfl
  have u2:cs[2]? = some (.v (.int .i64 (K1+1))):=by rw[←hcs]; rfl
  have u3:cs[3]? = some (.sl 1 (mkEs (els xs[i].World.Scores) ((K1+1)+1))):=by rw[←hcs]; rfl
  have d3:ds[3]? = some (.sl 1 (els xs[i].World.Scores)):=by rw[←hds]; rfl
  have u4:cs[4]? = some (.sl 9 (mkEs (els xs[i].World.Bodies) K2)):=by rw[←hcs]; rfl
  have d4:ds[4]? = some (.sl 9 (els xs[i].World.Bodies)):=by rw[←hds]; rfl
  have u5:cs[5]? = some (.v (.int .i64 K3)):=by rw[←hcs]; rfl
  have f3:decide ((i:Int)<((R.set i (pm cs ds 0)).length:Int))=true:=Gqb (by rw[Gqx]; omega)
  clear hcs hds hse
  refine Wz [43,113,82,9,150,143,143,148,0] ?_;refine Xw c1 J J J J J J J J Aqe Aqe Aqe Aqe  (z1 J ?_);refine AL.weak (st':=(⟨61,[(0,Aqg 0),(1,I K1),(5,I i)],[.row 6 (R.set i (pm cs ds 1)),.gh 0 (.c (.ref 0))]⟩:St)) (X4 [0,1] Aqc J ( Aqb) (.c J (.c J (.c J (.nil))))) ?_;refine Wz [6,78,143,61] ?_;refine AL.weak (st':=(⟨61,[(0,Aqg 0),(1,I K1),(5,I i)],[.row 6 (R.set i (pm cs ds 2)),.gh 0 (.c (.ref 0))]⟩:St)) (X4 [0,1] Aqc J ( Aqb) (.c J (.c J (.c J (.nil))))) ?_;refine Wz [92,78,143,61] ?_;refine AL.weak (st':=(⟨61,[(0,Aqg 0),(1,I (K1+1)),(5,I i)],[.row 6 (R.set i (pm cs ds 3)),.gh 0 (.c (.ref 0))]⟩:St)) (X4 [0,1] Aqc J ( Aqb) (.c J (.c J (.c J (.nil))))) ?_;refine Wz [92,9,150,143,148,0] ?_;refine Xw c2 J J J J J J J J Aqe Aqe Aqe Aqe  (z1 J ?_);refine AL.weak (st':=(⟨61,[(0,Aqg 0),(1,I K2),(5,I i)],[.row 6 (R.set i (pm cs ds 4)),.gh 0 (.c (.ref 0))]⟩:St)) (X4 [0,1] Aqc J ( Aqb) (.c J (.c J (.c J (.nil))))) ?_;refine Wz [6,9,150,143,148,0] ?_;refine Xw c3 J J J J J J J J Aqe Aqe Aqe Aqe  (z1 J ?_);refine AL.weak (st':=(⟨61,[(0,Aqg 0),(1,I K3),(5,I i)],[.row 6 (R.set i (pm cs ds 5)),.gh 0 (.c (.ref 0))]⟩:St)) (X4 [0,1] Aqc J ( Aqb) (.c J (.c J (.c J (.nil))))) ?_;refine Wz [6,78,61] ?_;refine AL.weak (st':=(⟨61,[(0,Aqg 0),(1,I K3),(5,I i)],[.row 6 (R.set i (pm cs ds 6)),.gh 0 (.c (.ref 0))]⟩:St)) (X4 [0,1] Aqc J ( Aqb) (.c J (.c J (.c J (.nil))))) ?_;refine Wz [6,94,18,87] ?_
  replace hend:=hend.trans (congrArg (R.set i) (show cs=pm cs ds 6 by rw[pm,Gqh (show cs.length≤6 by rw[hlc,←hdl]; exact Gqk _),List.drop_of_length_le (by rw[←hdl]; exact Gqk _),Gq1]))
  exact⟨xs.length-(i+1),Aqa,(fun i:Nat=>(⟨61,[(0,Aqg 0),(1,I (nkEs ((els xs).take i) k)),(5,I i)],[.row 6 (mkEs ((els xs).take i) k++(els xs).drop i),.gh 0 (.c (.ref 0))]⟩:St)) (i+1),⟨i+1,Aqa,trivial,J⟩,X4 [0,1] Aqc J ((by rw[hend]; rfl)) (.c J (.cons (Xq hnx.symm) (.c J (.nil))))⟩
 ·have f3:decide ((i:Int)<((mkEs ((els xs).take i) k++(els xs).drop i).length:Int))=false:=Gqa Aqa 
  have hk:=Gqh (show (els xs).length≤i by omega)
  have he:=Y5 (show (els xs).length≤i by omega) k
  refine Wz [43,113,44,31] ?_
  exact Xl J J (X1 [0,1] Aqc J (row2 he.symm) (Xq (by rw[hk])))
theorem L_mkAlarmS (xs:List (TAlarm)) (k:Int) (g:Enc.gd xs) (h0:0<k) (hb:nkEs (els xs) k≤1073741823):Con Tryz.prog 74 [.row 2 (els xs),.gh 0 (.c (.ref 0))] [.c (.ref 0),ai k] [.row 2 (mkEs (els xs) k),.gh 0 (.c (.ref 0))] (I (nkEs (els xs) k)):=by
 have hn:=Yi xs
 have hn1:=g.1
 refine Con.of Tryz.func74 J Tryz.ntmps74 J (fun E => ?_)
 refine Wz [12,11] ?_;refine Xh (fun m st=>∃ i:Nat,i+m=xs.length∧(True)∧st=(⟨27,[(0,Aqg 0),(1,I (nkEs ((els xs).take i) k)),(5,I i)],[.row 2 (mkEs ((els xs).take i) k++(els xs).drop i),.gh 0 (.c (.ref 0))]⟩:St)) (xs.length) ⟨_,⟨0,Aqa,trivial,J⟩,X3 [0,1] Aqb⟩ ?_
 rintro m_A _ ⟨i,hk_A,hp_A,rfl⟩
 have hl2:=Y6 (es:=els xs) (i:=i) k
 by_cases h3:i<xs.length
 ·have hat:(els xs)[i]? = some (Enc.e xs[i]):=Yg h3
  have hg:=g.2 _ (Gqe h3)
  have hl:=Int.le_trans (Za hat k) hb
  have hi:=Zb ((els xs).take i) k
  have hend:=Y4 hat k
  have hnx:=Zc hat k
  have hq:=mt_lt hat k
  have hse:=Y8 hat k
  rw[hse]
  generalize mkEs ((els xs).take i) k++(els xs).drop i=R at hq hend hl2 ⊢
  generalize nkEs ((els xs).take i) k=K at hl hi hend hnx ⊢
  have hq:(i:Int).toNat<R.length:=hq
  have e1:nkE (Enc.e xs[i]) K=(nkEs (els xs[i].Parts) (K+1)):=Aqb
  have e2:mkE (Enc.e xs[i]) K = [.v (.int .i64 K),.sl 1 (mkEs (els xs[i].Parts) (K+1))]:=Aqb
  rw[e1] at hl hnx
  rw[e2] at hend
  clear e1 e2
  have m1:=Zb (els xs[i].Parts) (K+1)
  generalize h1:nkEs (els xs[i].Parts) (K+1)=K1 at m1 hl hnx hend
  have c1:=Xu xs[i].Parts (K+1) hg.2 Aqa Aqa 
  rw[h1] at c1
  have hco:Enc.e xs[i] = [.v (.int .i64 xs[i].Tick),.sl 1 (els xs[i].Parts)]:=Aqb
  generalize hcs:([.v (.int .i64 K),.sl 1 (mkEs (els xs[i].Parts) (K+1))]:List T)=cs at hend
  generalize hds:([.v (.int .i64 xs[i].Tick),.sl 1 (els xs[i].Parts)]:List T)=ds at hco
  rw[hco,show ds=pm cs ds 0 from rfl]
  have hdl:2=ds.length:=by rw[←hds]; rfl
  have hlc:cs.length=ds.length:=by rw[←hcs,←hds]; rfl
  have u0:cs[0]? = some (.v (.int .i64 K)):=by rw[←hcs]; rfl
  have u1:cs[1]? = some (.sl 1 (mkEs (els xs[i].Parts) (K+1))):=by rw[←hcs]; rfl
  have d1:ds[1]? = some (.sl 1 (els xs[i].Parts)):=by rw[←hds]; rfl
  have f3:decide ((i:Int)<((R.set i (pm cs ds 0)).length:Int))=true:=Gqb (by rw[Gqx]; omega)
  clear hcs hds hse
  refine Wz [43,113,82,78,61] ?_;refine AL.weak (st':=(⟨27,[(0,Aqg 0),(1,I K),(5,I i)],[.row 2 (R.set i (pm cs ds 1)),.gh 0 (.c (.ref 0))]⟩:St)) (X4 [0,1] Aqc J ( Aqb) (.c J (.c J (.c J (.nil))))) ?_;refine Wz [92,63,150,148,0] ?_;refine Xw c1 J J J J J J J J Aqe Aqe Aqe Aqe  (z1 J ?_);refine AL.weak (st':=(⟨27,[(0,Aqg 0),(1,I K1),(5,I i)],[.row 2 (R.set i (pm cs ds 2)),.gh 0 (.c (.ref 0))]⟩:St)) (X4 [0,1] Aqc J ( Aqb) (.c J (.c J (.c J (.nil))))) ?_;refine Wz [99] ?_
  replace hend:=hend.trans (congrArg (R.set i) (show cs=pm cs ds 2 by rw[pm,Gqh (show cs.length≤2 by rw[hlc,←hdl]; exact Gqk _),List.drop_of_length_le (by rw[←hdl]; exact Gqk _),Gq1]))
  exact⟨xs.length-(i+1),Aqa,(fun i:Nat=>(⟨27,[(0,Aqg 0),(1,I (nkEs ((els xs).take i) k)),(5,I i)],[.row 2 (mkEs ((els xs).take i) k++(els xs).drop i),.gh 0 (.c (.ref 0))]⟩:St)) (i+1),⟨i+1,Aqa,trivial,J⟩,X4 [0,1] Aqc J ((by rw[hend]; rfl)) (.c J (.cons (Xq hnx.symm) (.c J (.nil))))⟩
 ·have f3:decide ((i:Int)<((mkEs ((els xs).take i) k++(els xs).drop i).length:Int))=false:=Gqa Aqa 
  have hk:=Gqh (show (els xs).length≤i by omega)
  have he:=Y5 (show (els xs).length≤i by omega) k
  refine Wz [43,113,44,31] ?_
  exact Xl J J (X1 [0,1] Aqc J (row2 he.symm) (Xq (by rw[hk])))
end
end Go.Proofs.YtfklmiijhcajdaaGreat
