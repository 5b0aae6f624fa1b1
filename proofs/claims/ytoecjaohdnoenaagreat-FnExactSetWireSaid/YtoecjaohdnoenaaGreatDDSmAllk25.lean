/-
  Rules, data and contracts of functions: part 26 of the proof.
  Conditions: those that each theorem names.
-/
import Derived.Test.YtoecjaohdnoenaaGreatDDSmAllk23
import Derived.Test.YtoecjaohdnoenaaGreatDDSmAllk24
set_option linter.unusedSimpArgs false
set_option linter.unusedVariables false
set_option maxRecDepth 8000
set_option maxHeartbeats 8000000
namespace Go.Proofs.YtoecjaohdnoenaaGreat
section
open Go.RowKit

section
variable {P:Program} {E:Env} {ops:Array Oper} {o:Oper} {n:Nat} {ts:List (Nat×V)} {obs:List Ob} {rest:List Oper} {Q:Exit→St→Prop} {t:TypeId} {y z:Operand} {p kk i j:Nat} {es:List (List T)} {e:List T}
theorem Xr {c:V1} {u:T} {rs:List Nat} [TyOne P t] (ho:o.op = .store t y z) (hg:o.guard=none) (hd:o.dst=none) (hy:St.ev ⟨n,ts,obs⟩ y = .o (.c (.el p kk i j))) (hz:St.ev ⟨n,ts,obs⟩ z = .o (.c c)) (hp:obs[p]? = some (.row kk (es.set i e))) (hu:tkT obs c=u) (hrs:tkR c=rs)
  (hok:tkOk obs c=true) (hq:i<es.length) (hj:Nat.ble (j+1) e.length=true) (hnd:nodupB (p::rs)=true)
  (h:AL P E ops Q rest ⟨n,ts.map fun e=>(e.1,e.2.kille p rs),gone ((obs.map (Ob.kille p rs)).set p (.row kk (es.set i (splice e j [u])))) rs⟩):AL P E ops Q (o::rest) ⟨n,ts,obs⟩ :=
 Xc ho hg hd hy hz hp hu hrs hok (Gq8 hq) hj hnd (by rw[List.set_set]; exact h)
end
def prg {α:Type} (f:α→α) (xs:List α) (k:Nat):List α:=(xs.take k).map f++xs.drop k
theorem prg_len {α:Type} {f:α→α} {xs:List α} {k:Nat}:(prg f xs k).length=xs.length:=by simp[prg]; omega
theorem prg_0 {α:Type} {f:α→α} {xs:List α}:prg f xs 0=xs:=by simp[prg]
theorem prg_end {α:Type} {f:α→α} {xs:List α} {k:Nat} (h:xs.length≤k):prg f xs k=xs.map f:=by rw[prg,Gqh h,List.drop_of_length_le h,Gqy]
theorem prg_at {α:Type} {f:α→α} {xs:List α} {k:Nat} (h:k<xs.length):(prg f xs k)[k]? = some xs[k]:=by
 rw[prg,Gqr (by simp; omega)]
 have e:((xs.take k).map f).length=k:=by simp; omega
 rw[e,Nat.sub_self,List.getElem?_drop,Nat.add_zero,Gqg h]
theorem prg_set {α:Type} {f:α→α} {xs:List α} {k:Nat} (h:k<xs.length):prg f xs (k+1)=(prg f xs k).set k (f xs[k]):=by
 have e:((xs.take k).map f).length=k:=by simp; omega
 rw[prg,prg,List.set_append_right _ _ (by omega),e,Nat.sub_self,Gxe h,List.set_cons_zero,Gxn h,List.map_append,Gxb]
 rfl
theorem els_prg {α:Type} [Enc α] {f:α→α} {xs:List α} {k:Nat}:(els (prg f xs k)).length=xs.length:=by rw[X6,prg_len]
theorem els_pat {α:Type} [Enc α] {f:α→α} {xs:List α} {k:Nat} (h:k<xs.length):(els (prg f xs k))[k]? = some (Enc.e xs[k]):=by
 rw[els,Gqi,prg_at h]; rfl
theorem els_pset {α:Type} [Enc α] {f:α→α} {xs:List α} {k:Nat} (h:k<xs.length):els (prg f xs (k+1))=(els (prg f xs k)).set k (Enc.e (f xs[k])):=by rw[prg_set h,els_set]
theorem els_pself {α:Type} [Enc α] {f:α→α} {xs:List α} {k:Nat} (h:k<xs.length):els (prg f xs k)=(els (prg f xs k)).set k (Enc.e xs[k]):=by
 have h1:=els_pat (f:=f) h
 obtain⟨h2,h3⟩:=Gqn.1 h1
 rw[←h3,List.set_getElem_self]
def mendW (w:TWire):TWire:={ w with Delay:=1,Jitter:=0,Loss:=0,Damage:=0 }
def mendS (x:TMatch):TMatch:={ x with Wires:=x.Wires.map (List.map mendW),Lines:=x.Lines.map mendW }
noncomputable def mendM (x:TMatch):TMatch:=if matchOk x=true then mendS x else x
theorem I_mend (es:List (List T)) (j:Nat) (w:TWire) (hj:j<es.length):Con Tryz.prog 132 [.row 10 (es.set j (Enc.e w)),.gh 1 (.c (.ref 0))] [.c (.el 0 10 j 0)] [.row 10 (es.set j (Enc.e (mendW w))),.gh 1 (.c (.ref 0))] (.tu []):=by
 refine Con.of Tryz.func132 J Tryz.ntmps132 J (fun E => ?_)
 refine Wz [8,149,83,150,1,8,149,83,150,1,8,149,83,150,1,16,0,149,83,150,118] ?_;refine F_n ?_
 exact E_none J (Xt [0,1] (by decide) J J J)
theorem I_MendWires (x:TMatch) (h:MatchIn x):Con Tryz.prog 44 [] [ag x] (mR (mendM x) []) (.o (.ag (mC (mendM x) 0))):=by
 have cM:=I_copyMatch x h
 have cO:=I_MatchOk x h.gd
 have eW:=X6 x.Wires
 have eK:=X6 x.Lines
 obtain⟨lW,wW⟩:=Yl h.le.W
 obtain⟨lK,_⟩:=Yl h.le.K
 refine Con.of Tryz.func44 J Tryz.ntmps44 J (fun E => ?_)
 refine Wz [101,60,25] ?_;refine M1 (Za J J (cM) J J J) J J ?_;refine Wz [56,22,156,71] ?_;refine AL.weak (st':=(⟨51,[(1,.o (.c (.ptr 0 0))),(2,.o (.c (.ptr 1 0))),(3,.o (.c (.ptr 11 0))),(9,.o (.ag (mD x)))],[.box (mD x),.box zM,.row 1 (els x.Level.Rows),.row 1 (els x.Scripts),.row 23 (els x.Peers),.row 1 (els x.Wires),.row 1 (els x.Paces),.row 1 (els x.Acks),.row 6 (els x.Watchers),.row 10 (els x.Lines),.row 2 (els x.Alarms),.box (mC x 2)]⟩:St)) (Xv [0,1,2,3,4,5,6,7,8,9,10,11] (by decide) J ((by kernel_rfl)) (.c J (.c J (.c J (.c J (.nil)))))) ?_
 rw[mendM]
 cases hm:matchOk x with
 |false =>
  rw[hm] at cO
  refine zx (Qj J J (cO) J) J ?_;refine Wz [10,42,25,22,166,107] ?_
  exact Xh J J J J (Xt [2,3,4,5,6,7,8,9,10] (by decide) J J J)
 | true =>
  rw[hm] at cO
  refine zx (Qj J J (cO) J) J ?_;refine Wz [85,32,77,0,80] ?_
  refine Xe (fun m st=>∃ k:Nat,k+m=x.Wires.length∧(True)∧st=(⟨51,[(1,.o (.c (.ptr 0 0))),(2,.o (.c (.ptr 1 0))),(3,.o (.c (.ptr 11 0))),(15,I (els x.Wires).length),(16,I k)],[.box (mD x),.box zM,.row 1 (els x.Level.Rows),.row 1 (els x.Scripts),.row 23 (els x.Peers),.row 1 (els (prg (List.map mendW) x.Wires k)),.row 1 (els x.Paces),.row 1 (els x.Acks),.row 6 (els x.Watchers),.row 10 (els x.Lines),.row 2 (els x.Alarms),.box (mC x 2)]⟩:St)) (x.Wires.length) ⟨(fun k:Nat=>(⟨51,[(1,.o (.c (.ptr 0 0))),(2,.o (.c (.ptr 1 0))),(3,.o (.c (.ptr 11 0))),(15,I (els x.Wires).length),(16,I k)],[.box (mD x),.box zM,.row 1 (els x.Level.Rows),.row 1 (els x.Scripts),.row 23 (els x.Peers),.row 1 (els (prg (List.map mendW) x.Wires k)),.row 1 (els x.Paces),.row 1 (els x.Acks),.row 6 (els x.Watchers),.row 10 (els x.Lines),.row 2 (els x.Alarms),.box (mC x 2)]⟩:St)) 0,⟨0,by omega,trivial,J⟩,Xv [0,1,2,3,4,5,6,7,8,9,10,11] (by decide) J ((by rw[prg_0]; rfl)) (.c J (.c J (.c J (.c J (.c J (.nil))))))⟩ ?_
  rintro m_A _ ⟨k,hk_A,hp_A,rfl⟩
  have hl2:=els_prg (f:=List.map mendW) (xs:=x.Wires) (k:=k)
  by_cases h3:k<x.Wires.length
  ·have f3:decide ((k:Int)<((els x.Wires).length:Int))=true:=Gqb (by omega)
   have hat:=els_pat (f:=List.map mendW) h3
   have hsn:=els_pset (f:=List.map mendW) h3
   have lu:=(Yl (wW _ (Gqd h3))).1
   generalize x.Wires[k]=u at hat hsn lu
   have eu:=X6 u
   generalize els (prg (List.map mendW) x.Wires k)=W at hl2 hat hsn ⊢
   replace hsn:els (prg (List.map mendW) x.Wires (k+1))=(W.set k [.un]).set k (Enc.e (List.map mendW u)):=by rw[List.set_set]; exact hsn
   refine AWP.pre ?_ (Wk.splitl (p:=5) (i:=k) (j:=0) (k':=10) (es0:=els u) J hat J (by repeat' (first | exact trivial | exact⟨J,J,J⟩ | refine And.intro ?_ ?_)) (by repeat' (first | exact trivial | exact⟨J,J,J⟩ | refine And.intro ?_ ?_)))
   refine AWP.pre (st':=(⟨51,[(1,.o (.c (.ptr 0 0))),(2,.o (.c (.ptr 1 0))),(3,.o (.c (.ptr 11 0))),(15,I (els x.Wires).length),(16,I k)],[.box (mD x),.box zM,.row 1 (els x.Level.Rows),.row 1 (els x.Scripts),.row 23 (els x.Peers),.row 1 (W.set k [.un]),.row 1 (els x.Paces),.row 1 (els x.Acks),.row 6 (els x.Watchers),.row 10 (els x.Lines),.row 2 (els x.Alarms),.box (mC x 2),.row 10 (els u),.lk (.le 5 1 k 0) (.ref 12)]⟩:St)) ?_ (Xv [0,1,2,3,4,5,6,7,8,9,10,11,12,13] (by decide) J ((by kernel_rfl)) (.c J (.c J (.c J (.c J (.c J (.nil)))))))
   have hl3:(W.set k [.un]).length=x.Wires.length:=by rw[Gqs]; exact hl2
   have hat2:(W.set k [.un])[k]? = some [.un]:=Gq8 (by omega)
   refine Wz [4,119,1,17,120,5,8,7,54,258,259,77,0,80] ?_
   refine Xe (fun m st=>∃ j:Nat,j+m=u.length∧(True)∧st=(⟨51,[(1,.o (.c (.ptr 0 0))),(2,.o (.c (.ptr 1 0))),(3,.o (.c (.ptr 11 0))),(15,I (els x.Wires).length),(16,I k),(4,I k),(24,I (els u).length),(25,I j)],[.box (mD x),.box zM,.row 1 (els x.Level.Rows),.row 1 (els x.Scripts),.row 23 (els x.Peers),.row 1 (W.set k [.un]),.row 1 (els x.Paces),.row 1 (els x.Acks),.row 6 (els x.Watchers),.row 10 (els x.Lines),.row 2 (els x.Alarms),.box (mC x 2),.row 10 (els (prg mendW u j)),.lk (.le 5 1 k 0) (.ref 12)]⟩:St)) (u.length) ⟨(fun j:Nat=>(⟨51,[(1,.o (.c (.ptr 0 0))),(2,.o (.c (.ptr 1 0))),(3,.o (.c (.ptr 11 0))),(15,I (els x.Wires).length),(16,I k),(4,I k),(24,I (els u).length),(25,I j)],[.box (mD x),.box zM,.row 1 (els x.Level.Rows),.row 1 (els x.Scripts),.row 23 (els x.Peers),.row 1 (W.set k [.un]),.row 1 (els x.Paces),.row 1 (els x.Acks),.row 6 (els x.Watchers),.row 10 (els x.Lines),.row 2 (els x.Alarms),.box (mC x 2),.row 10 (els (prg mendW u j)),.lk (.le 5 1 k 0) (.ref 12)]⟩:St)) 0,⟨0,by omega,trivial,J⟩,Xv [0,1,2,3,4,5,6,7,8,9,10,11,12,13] (by decide) J ((by rw[prg_0]; rfl)) (.c J (.c J (.c J (.c J (.c J (.c J (.c J (.c J (.nil)))))))))⟩ ?_
   rintro m_J _ ⟨j,hk_J,hp_J,rfl⟩
   have hl4:=els_prg (f:=mendW) (xs:=u) (k:=j)
   by_cases h5:j<u.length
   ·have f5:decide ((j:Int)<((els u).length:Int))=true:=Gqb (by omega)
    have hsn2:=els_pset (f:=mendW) h5
    have hse:=els_pself (f:=mendW) h5
    generalize u[j]=v at hsn2 hse
    rw[hse]
    generalize els (prg mendW u j)=U at hl4 hsn2 ⊢
    have hjU:j<U.length:=by omega
    have hq2:(j:Int).toNat<U.length:=hjU
    have cm:=I_mend U j v hjU
    clear hse
    refine Wz [4,119,1,17,120,5,8,7,16,14,0,258,259,0,164] ?_;refine Xa (lo := [_]) (gs := [(1,.c (.ref 0))]) (lo' := [_]) (new := []) [12] [(0,0,.ref 0)] (cm) J J J J J J J J J J J J J J J J J ?_;refine Wz [118,94,36,0,1] ?_
    exact⟨u.length-(j+1),by omega,_,⟨j+1,by omega,trivial,J⟩,(by rw[hsn2]; exact Xu [0,1,2,3,4,5,6,7,8,9,10,11,12,13] (by kernel_rfl))⟩
   have f5:decide ((j:Int)<((els u).length:Int))=false:=Gqa (by omega)
   rw[prg_end (f:=mendW) (show u.length≤j by omega)]
   refine AWP.pre ?_ (Wk.join (p:=5) (i:=k) (j:=0) (N:=12) (L:=13) J hat2 J J J J)
   refine Wz [4,119,1,17,193,182,94,36,0,1] ?_
   exact⟨x.Wires.length-(k+1),by omega,_,⟨k+1,by omega,trivial,J⟩,(by rw[hsn]; exact Xu [0,1,2,3,4,5,6,7,8,9,10,11] (by kernel_rfl))⟩
  have f3:decide ((k:Int)<((els x.Wires).length:Int))=false:=Gqa (by omega)
  rw[prg_end (f:=List.map mendW) (show x.Wires.length≤k by omega)]
  refine Wz [4,119,1,17,193,20,32,77,0,80] ?_
  refine Xe (fun m st=>∃ k:Nat,k+m=x.Lines.length∧(True)∧st=(⟨51,[(1,.o (.c (.ptr 0 0))),(2,.o (.c (.ptr 1 0))),(3,.o (.c (.ptr 11 0))),(40,I (els x.Lines).length),(41,I k)],[.box (mD x),.box zM,.row 1 (els x.Level.Rows),.row 1 (els x.Scripts),.row 23 (els x.Peers),.row 1 (els (x.Wires.map (List.map mendW))),.row 1 (els x.Paces),.row 1 (els x.Acks),.row 6 (els x.Watchers),.row 10 (els (prg mendW x.Lines k)),.row 2 (els x.Alarms),.box (mC x 2)]⟩:St)) (x.Lines.length) ⟨(fun k:Nat=>(⟨51,[(1,.o (.c (.ptr 0 0))),(2,.o (.c (.ptr 1 0))),(3,.o (.c (.ptr 11 0))),(40,I (els x.Lines).length),(41,I k)],[.box (mD x),.box zM,.row 1 (els x.Level.Rows),.row 1 (els x.Scripts),.row 23 (els x.Peers),.row 1 (els (x.Wires.map (List.map mendW))),.row 1 (els x.Paces),.row 1 (els x.Acks),.row 6 (els x.Watchers),.row 10 (els (prg mendW x.Lines k)),.row 2 (els x.Alarms),.box (mC x 2)]⟩:St)) 0,⟨0,by omega,trivial,J⟩,Xv [0,1,2,3,4,5,6,7,8,9,10,11] (by decide) J ((by rw[prg_0]; rfl)) (.c J (.c J (.c J (.c J (.c J (.nil))))))⟩ ?_
  rintro m_B _ ⟨k,hk_B,hp_B,rfl⟩
  have hl4:=els_prg (f:=mendW) (xs:=x.Lines) (k:=k)
  by_cases h5:k<x.Lines.length
  ·have f5:decide ((k:Int)<((els x.Lines).length:Int))=true:=Gqb (by omega)
   have hsn2:=els_pset (f:=mendW) h5
   have hse:=els_pself (f:=mendW) h5
   generalize x.Lines[k]=v at hsn2 hse
   rw[hse]
   generalize els (prg mendW x.Lines k)=U at hl4 hsn2 ⊢
   have hjU:k<U.length:=by omega
   have hq2:(k:Int).toNat<U.length:=hjU
   have cm:=I_mend U k v hjU
   clear hse
   refine Wz [4,119,1,17,120,5,8,7,16,14,0,164] ?_;refine Xa (lo := [_]) (gs := [(1,.c (.ref 0))]) (lo' := [_]) (new := []) [9] [(0,0,.ref 0)] (cm) J J J J J J J J J J J J J J J J J ?_;refine Wz [118,94,36,0,1] ?_
   exact⟨x.Lines.length-(k+1),by omega,_,⟨k+1,by omega,trivial,J⟩,(by rw[hsn2]; exact Xu [0,1,2,3,4,5,6,7,8,9,10,11] (by kernel_rfl))⟩
  have f5:decide ((k:Int)<((els x.Lines).length:Int))=false:=Gqa (by omega)
  rw[prg_end (f:=mendW) (show x.Lines.length≤k by omega)]
  refine Wz [4,119,1,17,193,20,25,22,68] ?_
  exact Xh J J J J (Xt [2,3,4,5,6,7,8,9,10] (by decide) J J J)
theorem S_l08Mend:∀ us:List Value,us.length=10→(∀ u∈us,u.oneCell'=true)→Con Tryz.prog 131 [] [.ag (us.map fun u => .rd [] (.v u))] [] (.o (.ag (zipT us [none,some (.int .i64 1),some (.int .i64 0),some (.int .i64 0),none,some (.int .i64 0),none,none,none,none])))
 | [a,b,c,d,e,f,g,h,i,j],_,_=>by
  refine Con.of Tryz.func131 J Tryz.ntmps131 J (fun E => ?_)
  refine Wz [101,60,4,75,4,75,4,75,4,75,25,22,68] ?_
  exact Xh J J J J (Xt [] (by decide) J J J)
theorem S_MendWires (x:TMatch) (h:MatchIn x):Con Tryz.prog 43 [] [ag x] (mR (mendM x) []) (.o (.ag (mC (mendM x) 0))):=by
 have cM:=S_l08Copy x h
 have cO:=S_MatchOk x h.gd
 have eW:=X6 x.Wires
 have eK:=X6 x.Lines
 obtain⟨lW,wW⟩:=Yl h.le.W
 obtain⟨lK,_⟩:=Yl h.le.K
 refine Con.of Tryz.func43 J Tryz.ntmps43 J (fun E => ?_)
 refine Wz [101,60,25] ?_;refine M1 (Za J J (cM) J J J) J J ?_;refine Wz [56,22,156,71] ?_;refine AL.weak (st':=(⟨64,[(1,.o (.c (.ptr 0 0))),(2,.o (.c (.ptr 1 0))),(3,.o (.c (.ptr 11 0))),(9,.o (.ag (mD x)))],[.box (mD x),.box zM,.row 1 (els x.Level.Rows),.row 1 (els x.Scripts),.row 23 (els x.Peers),.row 1 (els x.Wires),.row 1 (els x.Paces),.row 1 (els x.Acks),.row 6 (els x.Watchers),.row 10 (els x.Lines),.row 2 (els x.Alarms),.box (mC x 2)]⟩:St)) (Xv [0,1,2,3,4,5,6,7,8,9,10,11] (by decide) J ((by kernel_rfl)) (.c J (.c J (.c J (.c J (.nil)))))) ?_
 rw[mendM]
 cases hm:matchOk x with
 |false =>
  rw[hm] at cO
  refine zx (Qj J J (cO) J) J ?_;refine Wz [10,42,25,22,166,107] ?_
  exact Xh J J J J (Xt [2,3,4,5,6,7,8,9,10] (by decide) J J J)
 | true =>
  rw[hm] at cO
  refine zx (Qj J J (cO) J) J ?_;refine Wz [85,23] ?_
  refine Xe (fun m st=>∃ k:Nat,k+m=x.Wires.length∧(True)∧st=(⟨64,[(1,.o (.c (.ptr 0 0))),(2,.o (.c (.ptr 1 0))),(3,.o (.c (.ptr 11 0))),(4,I k)],[.box (mD x),.box zM,.row 1 (els x.Level.Rows),.row 1 (els x.Scripts),.row 23 (els x.Peers),.row 1 (els (prg (List.map mendW) x.Wires k)),.row 1 (els x.Paces),.row 1 (els x.Acks),.row 6 (els x.Watchers),.row 10 (els x.Lines),.row 2 (els x.Alarms),.box (mC x 2)]⟩:St)) (x.Wires.length) ⟨(fun k:Nat=>(⟨64,[(1,.o (.c (.ptr 0 0))),(2,.o (.c (.ptr 1 0))),(3,.o (.c (.ptr 11 0))),(4,I k)],[.box (mD x),.box zM,.row 1 (els x.Level.Rows),.row 1 (els x.Scripts),.row 23 (els x.Peers),.row 1 (els (prg (List.map mendW) x.Wires k)),.row 1 (els x.Paces),.row 1 (els x.Acks),.row 6 (els x.Watchers),.row 10 (els x.Lines),.row 2 (els x.Alarms),.box (mC x 2)]⟩:St)) 0,⟨0,by omega,trivial,J⟩,Xv [0,1,2,3,4,5,6,7,8,9,10,11] (by decide) J ((by rw[prg_0]; rfl)) (.c J (.c J (.c J (.c J (.nil)))))⟩ ?_
  rintro m_A _ ⟨k,hk_A,hp_A,rfl⟩
  have hl2:=els_prg (f:=List.map mendW) (xs:=x.Wires) (k:=k)
  by_cases h3:k<x.Wires.length
  ·have f3:decide ((k:Int)<((els (prg (List.map mendW) x.Wires k)).length:Int))=true:=Gqb (by omega)
   have hat:=els_pat (f:=List.map mendW) h3
   have hsn:=els_pset (f:=List.map mendW) h3
   have lu:=(Yl (wW _ (Gqd h3))).1
   generalize x.Wires[k]=u at hat hsn lu
   have eu:=X6 u
   generalize els (prg (List.map mendW) x.Wires k)=W at hl2 hat hsn f3 ⊢
   replace hsn:els (prg (List.map mendW) x.Wires (k+1))=(W.set k [.un]).set k (Enc.e (List.map mendW u)):=by rw[List.set_set]; exact hsn
   refine Wz [63,14,77,59,28,179] ?_
   refine AWP.pre ?_ (Wk.splitl (p:=5) (i:=k) (j:=0) (k':=10) (es0:=els u) J hat J (by repeat' (first | exact trivial | exact⟨J,J,J⟩ | refine And.intro ?_ ?_)) (by repeat' (first | exact trivial | exact⟨J,J,J⟩ | refine And.intro ?_ ?_)))
   have hl3:(W.set k [.un]).length=x.Wires.length:=by rw[Gqs]; exact hl2
   have hat2:(W.set k [.un])[k]? = some [.un]:=Gq8 (by omega)
   refine Xe (fun m st=>∃ j:Nat,j+m=u.length∧(True)∧st=(⟨64,[(1,.o (.c (.ptr 0 0))),(2,.o (.c (.ptr 1 0))),(3,.o (.c (.ptr 11 0))),(4,I k),(5,I j)],[.box (mD x),.box zM,.row 1 (els x.Level.Rows),.row 1 (els x.Scripts),.row 23 (els x.Peers),.row 1 (W.set k [.un]),.row 1 (els x.Paces),.row 1 (els x.Acks),.row 6 (els x.Watchers),.row 10 (els x.Lines),.row 2 (els x.Alarms),.box (mC x 2),.row 10 (els (prg mendW u j)),.lk (.le 5 1 k 0) (.ref 12)]⟩:St)) (u.length) ⟨(fun j:Nat=>(⟨64,[(1,.o (.c (.ptr 0 0))),(2,.o (.c (.ptr 1 0))),(3,.o (.c (.ptr 11 0))),(4,I k),(5,I j)],[.box (mD x),.box zM,.row 1 (els x.Level.Rows),.row 1 (els x.Scripts),.row 23 (els x.Peers),.row 1 (W.set k [.un]),.row 1 (els x.Paces),.row 1 (els x.Acks),.row 6 (els x.Watchers),.row 10 (els x.Lines),.row 2 (els x.Alarms),.box (mC x 2),.row 10 (els (prg mendW u j)),.lk (.le 5 1 k 0) (.ref 12)]⟩:St)) 0,⟨0,by omega,trivial,J⟩,Xv [0,1,2,3,4,5,6,7,8,9,10,11,12,13] (by decide) J ((by rw[prg_0]; rfl)) (.c J (.c J (.c J (.c J (.c J (.nil))))))⟩ ?_
   rintro m_J _ ⟨j,hk_J,hp_J,rfl⟩
   have hl4:=els_prg (f:=mendW) (xs:=u) (k:=j)
   refine Wz [63,14,0,258,259,77,40] ?_
   refine Q8 J (fun h5 => ?_) (fun h5 => ?_)
   ·have h5:j<u.length:=by have:=Gqc h5; omega
    have hv:=els_pat (f:=mendW) h5
    have hsn2:=els_pset (f:=mendW) h5
    generalize u[j]=v at hsn2 hv
    generalize els (prg mendW u j)=U at hl4 hsn2 hv ⊢
    have hv2:(U.set j (splice (Enc.e v) 7 [.un]))[j]? = some (splice (Enc.e v) 7 [.un]):=Gq8 (by omega)
    refine Wz [5] ?_
    refine AWP.pre (st':=(⟨64,[(1,.o (.c (.ptr 0 0))),(2,.o (.c (.ptr 1 0))),(3,.o (.c (.ptr 11 0))),(4,I k),(5,I j)],[.box (mD x),.box zM,.row 1 (els x.Level.Rows),.row 1 (els x.Scripts),.row 23 (els x.Peers),.row 1 (W.set k [.un]),.row 1 (els x.Paces),.row 1 (els x.Acks),.row 6 (els x.Watchers),.row 10 (els x.Lines),.row 2 (els x.Alarms),.box (mC x 2),.row 10 U,.lk (.le 5 1 k 0) (.ref 12)]⟩:St)) ?_ (Xv [0,1,2,3,4,5,6,7,8,9,10,11,12,13] (by decide) J ((by kernel_rfl)) (.c J (.c J (.c J (.c J (.c J (.nil)))))))
    refine Xd [[],[0],[],[0,1,2],(u9 4),[],[],[6],[],[6,7,8],[6,7,8,9],[],[6,7,8,9,10,11],[6,7,8,9,10,11,12],[6,7,8,9,10,11,12,13],(u9 15),(u9 16)] [[],[30],[],[30,31,32],[30,31,32,33],[],[],[36],[],[36,37,38],[36,37,38,39],[],[36,37,38,39,40,41],[36,37,38,39,40,41,42],[36,37,38,39,40,41,42,43],[30,31,32,33,34,35,36,37,38,39,40,41,42,43,44],[30,31,32,33,34,35,36,37,38,39,40,41,42,43,44,45]] [[32,35,36,37,38,39,40,41,42,43,44],[32,35,36,37,38,39,40,41,42,43,44],[30,31,35,36,37,38,39,40,41,42,43,44],[35,36,37,38,39,40,41,42,43,44],[35,36,37,38,39,40,41,42,43,44],[30,31,32,33,34,36,37,38,39,40,41,42,43,44],[30,31,32,33,34,35,38,41],[30,31,32,33,34,35,38,41],[30,31,32,33,34,35,36,37,41],[30,31,32,33,34,35,41],[30,31,32,33,34,35,41],[30,31,32,33,34,35,36,37,38,39,40],[30,31,32,33,34,35],[30,31,32,33,34,35],[30,31,32,33,34,35],[],[]] J ?_;refine Wz [12,15,207] ?_;refine DR.s (q_lel 13 J J J J) J J ?_;refine Wz [15,12,15,207] ?_;refine DR.s (q_lel 13 J J J J) J J ?_;refine Wz [15,207] ?_;refine DR.s (q_leL J J J J hv J J) J J ?_;refine DR.s (q_callT _ J J J J J S_l08Mend J) J J ?_;refine Wz [207,11] ?_;refine AL.weak (st':=(⟨64,[(1,.o (.c (.ptr 0 0))),(2,.o (.c (.ptr 1 0))),(3,.o (.c (.ptr 11 0))),(4,I k),(5,I j),(44,.o (.ag [jn v.Seed,jn 1,jn 0,jn 0,jn v.Copies,jn 0,jn v.Now,.le 12 10 j 7,jn v.Sent,jn v.Lost])),(45,.o (.c (.el 12 10 j 0)))],[.box (mD x),.box zM,.row 1 (els x.Level.Rows),.row 1 (els x.Scripts),.row 23 (els x.Peers),.row 1 (W.set k [.un]),.row 1 (els x.Paces),.row 1 (els x.Acks),.row 6 (els x.Watchers),.row 10 (els x.Lines),.row 2 (els x.Alarms),.box (mC x 2),.row 10 U,.lk (.le 5 1 k 0) (.ref 12)]⟩:St)) (Xv [0,1,2,3,4,5,6,7,8,9,10,11,12,13] (by decide) J ((by kernel_rfl)) (.c J (.c J (.c J (.c J (.c J (.c J (.c J (.nil))))))))) ?_
    refine AL.weak (Wk.splitl (p:=12) (i:=j) (j:=7) (k':=2) (es0:=els v.Flights) J hv J (by repeat' (first | exact trivial | exact⟨J,J,J⟩ | refine And.intro ?_ ?_)) (by repeat' (first | exact trivial | exact⟨J,J,J⟩ | refine And.intro ?_ ?_))) ?_
    refine AL.weak (st':=(⟨64,[(1,.o (.c (.ptr 0 0))),(2,.o (.c (.ptr 1 0))),(3,.o (.c (.ptr 11 0))),(4,I k),(5,I j),(44,.o (.ag [jn v.Seed,jn 1,jn 0,jn 0,jn v.Copies,jn 0,jn v.Now,.ref 14,jn v.Sent,jn v.Lost])),(45,.o (.c (.el 12 10 j 0)))],[.box (mD x),.box zM,.row 1 (els x.Level.Rows),.row 1 (els x.Scripts),.row 23 (els x.Peers),.row 1 (W.set k [.un]),.row 1 (els x.Paces),.row 1 (els x.Acks),.row 6 (els x.Watchers),.row 10 (els x.Lines),.row 2 (els x.Alarms),.box (mC x 2),.row 10 (U.set j (splice (Enc.e v) 7 [.un])),.lk (.le 5 1 k 0) (.ref 12),.row 2 (els v.Flights)]⟩:St)) (Xv [0,1,2,3,4,5,6,7,8,9,10,11,12,13,14] (by decide) J ((by kernel_rfl)) (.c J (.c J (.c J (.c J (.c J (.c J (.c J (.nil))))))))) ?_;refine Xb J J J J J J J J J J hv2 J J ?_
    refine AL.weak (st':=(⟨64,[(1,.o (.c (.ptr 0 0))),(2,.o (.c (.ptr 1 0))),(3,.o (.c (.ptr 11 0))),(4,I k),(5,I j)],[.box (mD x),.box zM,.row 1 (els x.Level.Rows),.row 1 (els x.Scripts),.row 23 (els x.Peers),.row 1 (W.set k [.un]),.row 1 (els x.Paces),.row 1 (els x.Acks),.row 6 (els x.Watchers),.row 10 (els x.Lines),.row 2 (els x.Alarms),.box (mC x 2),.row 10 (U.set j (Enc.e (mendW v))),.lk (.le 5 1 k 0) (.ref 12)]⟩:St)) (by rw[List.set_set]; exact Xu [0,1,2,3,4,5,6,7,8,9,10,11,12,13] (by kernel_rfl)) ?_
    refine Wz [78] ?_
    exact⟨u.length-(j+1),by omega,_,⟨j+1,by omega,trivial,J⟩,(by rw[hsn2]; exact Xu [0,1,2,3,4,5,6,7,8,9,10,11,12,13] (by kernel_rfl))⟩
   have h5:¬j<u.length:=by have:=Gqe h5; omega
   refine AWP.pre (st':=(⟨64,[(1,.o (.c (.ptr 0 0))),(2,.o (.c (.ptr 1 0))),(3,.o (.c (.ptr 11 0))),(4,I k)],[.box (mD x),.box zM,.row 1 (els x.Level.Rows),.row 1 (els x.Scripts),.row 23 (els x.Peers),.row 1 (W.set k [.un]),.row 1 (els x.Paces),.row 1 (els x.Acks),.row 6 (els x.Watchers),.row 10 (els x.Lines),.row 2 (els x.Alarms),.box (mC x 2),.row 10 (els (prg mendW u j)),.lk (.le 5 1 k 0) (.ref 12)]⟩:St)) ?_ (Xv [0,1,2,3,4,5,6,7,8,9,10,11,12,13] (by decide) J ((by kernel_rfl)) (.c J (.c J (.c J (.c J (.nil))))))
   rw[prg_end (f:=mendW) (show u.length≤j by omega)]
   refine AWP.pre ?_ (Wk.join (p:=5) (i:=k) (j:=0) (N:=12) (L:=13) J hat2 J J J J)
   refine Wz [182,200] ?_
   exact⟨x.Wires.length-(k+1),by omega,_,⟨k+1,by omega,trivial,J⟩,(by rw[hsn]; exact Xu [0,1,2,3,4,5,6,7,8,9,10,11] (by kernel_rfl))⟩
  have f3:decide ((k:Int)<((els (prg (List.map mendW) x.Wires k)).length:Int))=false:=Gqa (by omega)
  rw[prg_end (f:=List.map mendW) (show x.Wires.length≤k by omega)] at f3 ⊢
  refine Wz [63,14,77,31,20,23] ?_
  refine Xe (fun m st=>∃ k:Nat,k+m=x.Lines.length∧(True)∧st=(⟨64,[(1,.o (.c (.ptr 0 0))),(2,.o (.c (.ptr 1 0))),(3,.o (.c (.ptr 11 0))),(6,I k)],[.box (mD x),.box zM,.row 1 (els x.Level.Rows),.row 1 (els x.Scripts),.row 23 (els x.Peers),.row 1 (els (x.Wires.map (List.map mendW))),.row 1 (els x.Paces),.row 1 (els x.Acks),.row 6 (els x.Watchers),.row 10 (els (prg mendW x.Lines k)),.row 2 (els x.Alarms),.box (mC x 2)]⟩:St)) (x.Lines.length) ⟨(fun k:Nat=>(⟨64,[(1,.o (.c (.ptr 0 0))),(2,.o (.c (.ptr 1 0))),(3,.o (.c (.ptr 11 0))),(6,I k)],[.box (mD x),.box zM,.row 1 (els x.Level.Rows),.row 1 (els x.Scripts),.row 23 (els x.Peers),.row 1 (els (x.Wires.map (List.map mendW))),.row 1 (els x.Paces),.row 1 (els x.Acks),.row 6 (els x.Watchers),.row 10 (els (prg mendW x.Lines k)),.row 2 (els x.Alarms),.box (mC x 2)]⟩:St)) 0,⟨0,by omega,trivial,J⟩,Xv [0,1,2,3,4,5,6,7,8,9,10,11] (by decide) J ((by rw[prg_0]; rfl)) (.c J (.c J (.c J (.c J (.nil)))))⟩ ?_
  rintro m_B _ ⟨k,hk_B,hp_B,rfl⟩
  have hl4:=els_prg (f:=mendW) (xs:=x.Lines) (k:=k)
  by_cases h5:k<x.Lines.length
  ·have f5:decide ((k:Int)<((els (prg mendW x.Lines k)).length:Int))=true:=Gqb (by omega)
   have hv:=els_pat (f:=mendW) h5
   have hsn2:=els_pset (f:=mendW) h5
   generalize x.Lines[k]=v at hsn2 hv
   generalize els (prg mendW x.Lines k)=U at hl4 hsn2 f5 hv ⊢
   have hv2:(U.set k (splice (Enc.e v) 7 [.un]))[k]? = some (splice (Enc.e v) 7 [.un]):=Gq8 (by omega)
   refine Wz [63,14,77,59] ?_
   refine AWP.pre (st':=(⟨64,[(1,.o (.c (.ptr 0 0))),(2,.o (.c (.ptr 1 0))),(3,.o (.c (.ptr 11 0))),(6,I k)],[.box (mD x),.box zM,.row 1 (els x.Level.Rows),.row 1 (els x.Scripts),.row 23 (els x.Peers),.row 1 (els (x.Wires.map (List.map mendW))),.row 1 (els x.Paces),.row 1 (els x.Acks),.row 6 (els x.Watchers),.row 10 U,.row 2 (els x.Alarms),.box (mC x 2)]⟩:St)) ?_ (Xv [0,1,2,3,4,5,6,7,8,9,10,11] (by decide) J ((by kernel_rfl)) (.c J (.c J (.c J (.c J (.nil))))))
   refine Xd [[],[0],[],[],[3],[],[3,4,5],[3,4,5,6],[3,4,5,6,7],(u9 9),(u9 10)] [[],[53],[],[],[56],[],[56,57,58],[56,57,58,59],[56,57,58,59,60],[53,54,55,56,57,58,59,60,61],[53,54,55,56,57,58,59,60,61,62]] [[55,56,57,58,59,60,61],[55,56,57,58,59,60,61],[53,54,56,57,58,59,60,61],[53,54,55,58],[53,54,55,58],[53,54,55,56,57],[53,54,55],[53,54,55],[53,54,55],[],[]] J ?_;refine Wz [12,15,12,15,207] ?_;refine DR.s (q_leL J J J J hv J J) J J ?_;refine DR.s (q_callT _ J J J J J S_l08Mend J) J J ?_;refine Wz [207,11] ?_;refine AL.weak (st':=(⟨64,[(1,.o (.c (.ptr 0 0))),(2,.o (.c (.ptr 1 0))),(3,.o (.c (.ptr 11 0))),(6,I k),(61,.o (.ag [jn v.Seed,jn 1,jn 0,jn 0,jn v.Copies,jn 0,jn v.Now,.le 9 10 k 7,jn v.Sent,jn v.Lost])),(62,.o (.c (.el 9 10 k 0)))],[.box (mD x),.box zM,.row 1 (els x.Level.Rows),.row 1 (els x.Scripts),.row 23 (els x.Peers),.row 1 (els (x.Wires.map (List.map mendW))),.row 1 (els x.Paces),.row 1 (els x.Acks),.row 6 (els x.Watchers),.row 10 U,.row 2 (els x.Alarms),.box (mC x 2)]⟩:St)) (Xv [0,1,2,3,4,5,6,7,8,9,10,11] (by decide) J ((by kernel_rfl)) (.c J (.c J (.c J (.c J (.c J (.c J (.nil)))))))) ?_
   refine AL.weak (Wk.splitl (p:=9) (i:=k) (j:=7) (k':=2) (es0:=els v.Flights) J hv J (by repeat' (first | exact trivial | exact⟨J,J,J⟩ | refine And.intro ?_ ?_)) (by repeat' (first | exact trivial | exact⟨J,J,J⟩ | refine And.intro ?_ ?_))) ?_
   refine AL.weak (st':=(⟨64,[(1,.o (.c (.ptr 0 0))),(2,.o (.c (.ptr 1 0))),(3,.o (.c (.ptr 11 0))),(6,I k),(61,.o (.ag [jn v.Seed,jn 1,jn 0,jn 0,jn v.Copies,jn 0,jn v.Now,.ref 12,jn v.Sent,jn v.Lost])),(62,.o (.c (.el 9 10 k 0)))],[.box (mD x),.box zM,.row 1 (els x.Level.Rows),.row 1 (els x.Scripts),.row 23 (els x.Peers),.row 1 (els (x.Wires.map (List.map mendW))),.row 1 (els x.Paces),.row 1 (els x.Acks),.row 6 (els x.Watchers),.row 10 (U.set k (splice (Enc.e v) 7 [.un])),.row 2 (els x.Alarms),.box (mC x 2),.row 2 (els v.Flights)]⟩:St)) (Xv [0,1,2,3,4,5,6,7,8,9,10,11,12] (by decide) J ((by kernel_rfl)) (.c J (.c J (.c J (.c J (.c J (.c J (.nil)))))))) ?_;refine Xb J J J J J J J J J J hv2 J J ?_
   refine AL.weak (st':=(⟨64,[(1,.o (.c (.ptr 0 0))),(2,.o (.c (.ptr 1 0))),(3,.o (.c (.ptr 11 0))),(6,I k)],[.box (mD x),.box zM,.row 1 (els x.Level.Rows),.row 1 (els x.Scripts),.row 23 (els x.Peers),.row 1 (els (x.Wires.map (List.map mendW))),.row 1 (els x.Paces),.row 1 (els x.Acks),.row 6 (els x.Watchers),.row 10 (U.set k (Enc.e (mendW v))),.row 2 (els x.Alarms),.box (mC x 2)]⟩:St)) (by rw[List.set_set]; exact Xu [0,1,2,3,4,5,6,7,8,9,10,11] (by kernel_rfl)) ?_
   refine Wz [78] ?_
   exact⟨x.Lines.length-(k+1),by omega,_,⟨k+1,by omega,trivial,J⟩,(by rw[hsn2]; exact Xu [0,1,2,3,4,5,6,7,8,9,10,11] (by kernel_rfl))⟩
  have f5:decide ((k:Int)<((els (prg mendW x.Lines k)).length:Int))=false:=Gqa (by omega)
  rw[prg_end (f:=mendW) (show x.Lines.length≤k by omega)] at f5 ⊢
  refine Wz [63,14,77,31,20,25,22,68] ?_
  exact Xh J J J J (Xt [2,3,4,5,6,7,8,9,10] (by decide) J J J)
end
section
open Go.RowKit

theorem els_self {α:Type} [Enc α] {xs:List α} {k:Nat} (h:k<xs.length):els xs=(els xs).set k (Enc.e xs[k]):=by
 have h1:=X4 h
 obtain⟨h2,h3⟩:=Gqn.1 h1
 rw[←h3]
 exact (List.set_getElem_self h2).symm
def twB (x:TMatch) (i j:Int):Bool:=decide (i≠j)&&(decide (0≤i)&&(decide (0≤j)&&(decide (i<x.Peers.length)&&decide (j<x.Peers.length))))
theorem twB_iff {x:TMatch} {i j:Int}:twB x i j=true↔i≠j∧0≤i∧0≤j∧i<x.Peers.length∧j<x.Peers.length:=by simp[twB]
def setF (v w:TWire):TWire:={ v with Delay:=w.Delay,Jitter:=w.Jitter,Loss:=w.Loss,Copies:=w.Copies,Damage:=w.Damage }
noncomputable def setB (x:TMatch) (i j:Int) (w:TWire):Bool:=matchOk x&&wireOk w&&twB x i j
def wirS (W:List (List TWire)) (a b:Nat) (w:TWire):List (List TWire):=W.set a ((W.getD a []).set b (setF (((W.getD a []).getD b ⟨0,0,0,0,0,0,0,[],0,0⟩)) w))
noncomputable def setV (x:TMatch) (i j:Int) (w:TWire):TMatch:=if setB x i j w=true then { x with Wires:=wirS x.Wires i.toNat j.toNat w } else x
theorem I_two (x:TMatch) (i j:Int) (hg:Enc.gd x):Con Tryz.prog 130 [] [ag x,ai i,ai j] [] (B (twB x i j)):=by
 have eP:=X6 x.Peers
 refine Con.of Tryz.func130 J Tryz.ntmps130 J (fun E => ?_)
 refine Wz [19,9,143,0,133] ?_;refine zx (Qt.grdT J J J (.hit .stop) (fun hgrd=>q_geq J J J J)) J ?_;refine Wz [39,0,133] ?_;refine zx (Qt.grdT J J J (.hit .stop) (fun hgrd=>q_geq J J J J)) J ?_;refine Wz [39,0,133,234,235,236] ?_;refine zx (Qt.grdT J J J (.hit (.hit (.hit (.hit .stop)))) (fun hgrd=>Zm J J J J)) J ?_;refine Wz [39,0,133,234,235,236] ?_;refine zx (Qt.grdT J J J (.hit (.hit (.hit (.hit .stop)))) (fun hgrd=>Zm J J J J)) J ?_;refine Wz [39,110] ?_
 exact Xi J J (Xt [] (by decide) J J (Xf (by rw[twB,eP]; simp only[ne_eq,decide_not,ge_iff_le,Bool.and_assoc])))
theorem S_two (x:TMatch) (i j:Int) (hg:Enc.gd x):Con Tryz.prog 122 [] [ag x,ai i,ai j] [] (B (matchOk x&&twB x i j)):=by
 have eP:=X6 x.Peers
 have lP:=hg.2.2.2.2.1.1
 have cO:=S_MatchOk x hg
 have c1:=Xs i 0 ((els x.Peers).length-1)
 have c2:=Xs j 0 ((els x.Peers).length-1)
 refine Con.of Tryz.func122 J Tryz.ntmps122 J (fun E => ?_)
 refine Wz [19,25] ?_;refine zx (Qj J J (cO) J) J ?_;refine Wz [0,133,234,235,236] ?_;refine zx (Qt.grdT J J J (.hit (.hit (.hit (.hit .stop)))) (fun hgrd=>Q9 J J J J (by omega))) J ?_;refine zx (Qt.grdT J J J (.hit (.hit (.hit (.hit (.hit .stop))))) (fun hgrd=>Qj J J (c1) J)) J ?_;refine Wz [39,0,133,234,235,236] ?_;refine zx (Qt.grdT J J J (.hit (.hit (.hit (.hit .stop)))) (fun hgrd=>Q9 J J J J (by omega))) J ?_;refine zx (Qt.grdT J J J (.hit (.hit (.hit (.hit (.hit .stop))))) (fun hgrd=>Qj J J (c2) J)) J ?_;refine Wz [39,0,133,239,244,39,110] ?_
 exact Xi J J (Xt [] (by decide) J J (Xf (by
  rw[Bool.and_assoc,Bool.and_assoc]
  congr 1
  rw[Bool.eq_iff_iff,twB_iff]
  simp only[Gqk,Yk,decide_eq_true_eq,eP]
  omega)))
theorem setB_iff {x:TMatch} {i j:Int} {w:TWire}:setB x i j w=true↔matchOk x=true∧wireOk w=true∧twB x i j=true:=by simp[setB,and_assoc]
theorem els_at' {α:Type} [Enc α] {xs:List α} {k:Nat} {u:α} (h:xs[k]? = some u):(els xs)[k]? = some (Enc.e u):=by rw[els,Gqi,h]; rfl
theorem els_self' {α:Type} [Enc α] {xs:List α} {k:Nat} {u:α} (h:xs[k]? = some u):els xs=(els xs).set k (Enc.e u):=by
 obtain⟨h1,rfl⟩:=Gqn.1 h
 exact els_self h1
theorem els_setL {u:List TWire} {b:Nat} {v:TWire}:Enc.e (u.set b v) = [T.sl 10 ((els u).set b (Enc.e v))]:=by rw[←els_set]; rfl
theorem set_at {x:TMatch} {i j:Int} (hm:matchOk x=true) (h:twB x i j=true) (w:TWire):∃ a:Nat,i=a∧∃ b:Nat,j=b∧∃ u v,x.Wires[a]? = some u∧u[b]? = some v∧wirS x.Wires i.toNat j.toNat w=x.Wires.set a (u.set b (setF v w)):=by
 obtain⟨h1,h2,h3,h4,h5⟩:=twB_iff.1 h
 have hM:MatchP x:=dS hm
 obtain⟨_,_,_,hP,hL,_⟩:=hM
 obtain⟨a,rfl⟩:∃ a:Nat,i=a:=⟨i.toNat,by omega⟩
 obtain⟨b,rfl⟩:∃ b:Nat,j=b:=⟨j.toNat,by omega⟩
 obtain⟨⟨l1,l2,l3⟩,hr⟩:=hL
 have ha:a<x.Wires.length:=by omega
 have hb:b<x.Wires[a].length:=by
  have:=((hr a (by omega)).1 _ _ _ (Gqg ha) (Gqg (by omega)) (Gqg (by omega))).1
  omega
 refine⟨a,J,b,J,x.Wires[a],x.Wires[a][b],Gqg ha,Gqg hb,?_⟩
 rw[wirS,Int.toNat_natCast,Int.toNat_natCast]
 have e1:x.Wires.getD a []=x.Wires[a]:=by rw[Gqf,Gqg ha]; rfl
 rw[e1]
 have e2:x.Wires[a].getD b ⟨0,0,0,0,0,0,0,[],0,0⟩=x.Wires[a][b]:=by rw[Gqf,Gqg hb]; rfl
 rw[e2]
theorem I_SetWire (x:TMatch) (i j:Int) (w:TWire) (h:MatchIn x) (gw:Enc.gd w):Con Tryz.prog 42 [] [ag x,ai i,ai j,ag w] (mR (setV x i j w) []) (.tu [.ag (mC (setV x i j w) 0),.c (bv (setB x i j w))]):=by
 have cM:=I_copyMatch x h
 have cW:=I_WireOk w gw
 have cO:=I_MatchOk x h.gd
 have cT:=I_two x i j h.gd
 refine Con.of Tryz.func42 J Tryz.ntmps42 J (fun E => ?_)
 refine Wz [264,56,7,25] ?_;refine AL.weak (st':=(⟨63,[(1,I i),(2,I j),(4,.o (.c (.ptr 0 0))),(7,.o (.c (.ptr 1 0))),(8,.o (.c (.ptr 2 0))),(9,B false),(12,.o (.ag (mD x)))],[.box (mD x),.box (wX w (sr w.Flights)),.box zM]⟩:St)) (Xv [0,1,2] (by decide) J ((by kernel_rfl)) (.c J (.c J (.c J (.c J (.c J (.c J (.c J (.nil))))))))) ?_;refine M1 (Za J J (cM) J J J) J J ?_;refine Wz [56,22,156,71] ?_;refine AL.weak (st':=(⟨63,[(1,I i),(2,I j),(4,.o (.c (.ptr 0 0))),(7,.o (.c (.ptr 1 0))),(8,.o (.c (.ptr 2 0))),(9,B false),(10,.o (.c (.ptr 12 0))),(14,.o (.ag (mD x)))],[.box (mD x),.box (wX w (sr w.Flights)),.box zM,.row 1 (els x.Level.Rows),.row 1 (els x.Scripts),.row 23 (els x.Peers),.row 1 (els x.Wires),.row 1 (els x.Paces),.row 1 (els x.Acks),.row 6 (els x.Watchers),.row 10 (els x.Lines),.row 2 (els x.Alarms),.box (mC x 3)]⟩:St)) (Xv [0,1,2,3,4,5,6,7,8,9,10,11,12] (by decide) J ((by kernel_rfl)) (.c J (.c J (.c J (.c J (.c J (.c J (.c J (.c J (.nil)))))))))) ?_
 cases hb:setB x i j w with
 | false =>
  rw[show setV x i j w=x by rw[setV,hb]; rfl]
  refine zx (Qj J J (cO) J) J ?_;refine Wz [10,0,175] ?_;refine zx (Qt.grdF J J J (.hit .stop) (fun hgrd=>Qj J J (cW) J)) J ?_;refine Wz [152,91,0,175,199,140] ?_;refine zx (Qt.grdF J J J (.hit (.hit (.hit .stop))) (fun hgrd=>Qj J J (cT) J)) J ?_;refine Wz [203,44] ?_
  refine Q8 J (fun h1 => ?_) (fun h1 => ?_)
  ·refine Wz [25,136,138] ?_
   refine Wz [1,166,107] ?_
   exact E_cellt J J J J J (Xt [3,4,5,6,7,8,9,10,11] (by decide) J J J)
  ·exfalso
   simp only[Gql,Gqt] at h1; rw[setB,h1.1.1,h1.1.2,h1.2] at hb; cases hb
 | true =>
  rw[show setV x i j w={ x with Wires:=wirS x.Wires i.toNat j.toNat w } by rw[setV,hb]; rfl]
  obtain⟨hm,hw1,h2⟩:=setB_iff.1 hb
  obtain⟨a,ha,b,hb2,u,v,hu,hv,hs⟩:=set_at hm h2 w
  rw[hs]
  have hau:=els_at' hu
  have eu:=X6 u
  refine zx (Qj J J (cO) J) J ?_;refine Wz [10,0,175] ?_;refine zx (Qt.grdF J J J (.hit .stop) (fun hgrd=>Qj J J (cW) J)) J ?_;refine Wz [152,91,0,175,199,140] ?_;refine zx (Qt.grdF J J J (.hit (.hit (.hit .stop))) (fun hgrd=>Qj J J (cT) J)) J ?_;refine Wz [203,44] ?_
  refine Q8 J (fun h1 => ?_) (fun h1 => ?_)
  ·exfalso
   rw[hm,hw1,h2] at h1; cases h1
  refine AWP.pre (st':=(⟨63,[(1,I i),(2,I j),(4,.o (.c (.ptr 0 0))),(7,.o (.c (.ptr 1 0))),(8,.o (.c (.ptr 2 0))),(9,B false),(10,.o (.c (.ptr 12 0)))],[.box (mD x),.box (wX w (sr w.Flights)),.box zM,.row 1 (els x.Level.Rows),.row 1 (els x.Scripts),.row 23 (els x.Peers),.row 1 (els x.Wires),.row 1 (els x.Paces),.row 1 (els x.Acks),.row 6 (els x.Watchers),.row 10 (els x.Lines),.row 2 (els x.Alarms),.box (mC x 3)]⟩:St)) ?_ (Xv [0,1,2,3,4,5,6,7,8,9,10,11,12] (by decide) J ((by kernel_rfl)) (.c J (.c J (.c J (.c J (.c J (.c J (.c J (.nil)))))))))
  have hlu:=els_self' hv
  refine AWP.pre ?_ (Wk.splitl (p:=6) (i:=a) (j:=0) (k':=10) (es0:=els u) J hau J (by repeat' (first | exact trivial | exact⟨J,J,J⟩ | refine And.intro ?_ ?_)) (by repeat' (first | exact trivial | exact⟨J,J,J⟩ | refine And.intro ?_ ?_)))
  refine AWP.pre (st':=(⟨63,[(1,I i),(2,I j),(4,.o (.c (.ptr 0 0))),(7,.o (.c (.ptr 1 0))),(8,.o (.c (.ptr 2 0))),(9,B false),(10,.o (.c (.ptr 12 0)))],[.box (mD x),.box (wX w (sr w.Flights)),.box zM,.row 1 (els x.Level.Rows),.row 1 (els x.Scripts),.row 23 (els x.Peers),.row 1 ((els x.Wires).set a [.un]),.row 1 (els x.Paces),.row 1 (els x.Acks),.row 6 (els x.Watchers),.row 10 (els x.Lines),.row 2 (els x.Alarms),.box (mC x 3),.row 10 ((els u).set b (Enc.e v)),.lk (.le 6 1 a 0) (.ref 13)]⟩:St)) ?_ (by rw[←hlu]; exact Xu [0,1,2,3,4,5,6,7,8,9,10,11,12,13,14] (by kernel_rfl))
  have hla:a<(els x.Wires).length:=Yh hau
  have hla1:a<((els x.Wires).set a [.un]).length:=by rw[Gqs]; exact hla
  have hat2:((els x.Wires).set a [.un])[a]? = some [.un]:=Gq8 hla
  have hbU:b<(els u).length:=by have:=Yh hv; omega
  have hq2:(b:Int).toNat<(els u).length:=hbU
  subst ha hb2
  refine Wz [13,54,164] ?_;refine zx (q_lel 14 J J J J) J ?_;refine Wz [0,164,74,14,149,83,150] ?_;refine AL.weak (st':=(⟨63,[(1,I a),(2,I b),(4,.o (.c (.ptr 0 0))),(7,.o (.c (.ptr 1 0))),(8,.o (.c (.ptr 2 0))),(9,B false),(10,.o (.c (.ptr 12 0))),(11,.o (.c (.el 13 10 b 0)))],[.box (mD x),.box (wX w (sr w.Flights)),.box zM,.row 1 (els x.Level.Rows),.row 1 (els x.Scripts),.row 23 (els x.Peers),.row 1 ((els x.Wires).set a [.un]),.row 1 (els x.Paces),.row 1 (els x.Acks),.row 6 (els x.Watchers),.row 10 (els x.Lines),.row 2 (els x.Alarms),.box (mC x 3),.row 10 ((els u).set b (Enc.e ({ v with Delay:=w.Delay }:TWire))),.lk (.le 6 1 a 0) (.ref 13)]⟩:St)) (Xv [0,1,2,3,4,5,6,7,8,9,10,11,12,13,14] (by decide) J ((by kernel_rfl)) (.c J (.c J (.c J (.c J (.c J (.c J (.c J (.c J (.nil)))))))))) ?_;refine Wz [1,8,14,149,83,150] ?_;refine AL.weak (st':=(⟨63,[(1,I a),(2,I b),(4,.o (.c (.ptr 0 0))),(7,.o (.c (.ptr 1 0))),(8,.o (.c (.ptr 2 0))),(9,B false),(10,.o (.c (.ptr 12 0))),(11,.o (.c (.el 13 10 b 0)))],[.box (mD x),.box (wX w (sr w.Flights)),.box zM,.row 1 (els x.Level.Rows),.row 1 (els x.Scripts),.row 23 (els x.Peers),.row 1 ((els x.Wires).set a [.un]),.row 1 (els x.Paces),.row 1 (els x.Acks),.row 6 (els x.Watchers),.row 10 (els x.Lines),.row 2 (els x.Alarms),.box (mC x 3),.row 10 ((els u).set b (Enc.e ({ v with Delay:=w.Delay,Jitter:=w.Jitter }:TWire))),.lk (.le 6 1 a 0) (.ref 13)]⟩:St)) (Xv [0,1,2,3,4,5,6,7,8,9,10,11,12,13,14] (by decide) J ((by kernel_rfl)) (.c J (.c J (.c J (.c J (.c J (.c J (.c J (.c J (.nil)))))))))) ?_;refine Wz [1,8,14,149,83,150] ?_;refine AL.weak (st':=(⟨63,[(1,I a),(2,I b),(4,.o (.c (.ptr 0 0))),(7,.o (.c (.ptr 1 0))),(8,.o (.c (.ptr 2 0))),(9,B false),(10,.o (.c (.ptr 12 0))),(11,.o (.c (.el 13 10 b 0)))],[.box (mD x),.box (wX w (sr w.Flights)),.box zM,.row 1 (els x.Level.Rows),.row 1 (els x.Scripts),.row 23 (els x.Peers),.row 1 ((els x.Wires).set a [.un]),.row 1 (els x.Paces),.row 1 (els x.Acks),.row 6 (els x.Watchers),.row 10 (els x.Lines),.row 2 (els x.Alarms),.box (mC x 3),.row 10 ((els u).set b (Enc.e ({ v with Delay:=w.Delay,Jitter:=w.Jitter,Loss:=w.Loss }:TWire))),.lk (.le 6 1 a 0) (.ref 13)]⟩:St)) (Xv [0,1,2,3,4,5,6,7,8,9,10,11,12,13,14] (by decide) J ((by kernel_rfl)) (.c J (.c J (.c J (.c J (.c J (.c J (.c J (.c J (.nil)))))))))) ?_;refine Wz [1,8,14,149,83,150] ?_;refine AL.weak (st':=(⟨63,[(1,I a),(2,I b),(4,.o (.c (.ptr 0 0))),(7,.o (.c (.ptr 1 0))),(8,.o (.c (.ptr 2 0))),(9,B false),(10,.o (.c (.ptr 12 0))),(11,.o (.c (.el 13 10 b 0)))],[.box (mD x),.box (wX w (sr w.Flights)),.box zM,.row 1 (els x.Level.Rows),.row 1 (els x.Scripts),.row 23 (els x.Peers),.row 1 ((els x.Wires).set a [.un]),.row 1 (els x.Paces),.row 1 (els x.Acks),.row 6 (els x.Watchers),.row 10 (els x.Lines),.row 2 (els x.Alarms),.box (mC x 3),.row 10 ((els u).set b (Enc.e ({ v with Delay:=w.Delay,Jitter:=w.Jitter,Loss:=w.Loss,Copies:=w.Copies }:TWire))),.lk (.le 6 1 a 0) (.ref 13)]⟩:St)) (Xv [0,1,2,3,4,5,6,7,8,9,10,11,12,13,14] (by decide) J ((by kernel_rfl)) (.c J (.c J (.c J (.c J (.c J (.c J (.c J (.c J (.nil)))))))))) ?_;refine Wz [1,8,14,149,83,150] ?_;refine AL.weak (st':=(⟨63,[(1,I a),(2,I b),(4,.o (.c (.ptr 0 0))),(7,.o (.c (.ptr 1 0))),(8,.o (.c (.ptr 2 0))),(9,B false),(10,.o (.c (.ptr 12 0))),(11,.o (.c (.el 13 10 b 0)))],[.box (mD x),.box (wX w (sr w.Flights)),.box zM,.row 1 (els x.Level.Rows),.row 1 (els x.Scripts),.row 23 (els x.Peers),.row 1 ((els x.Wires).set a [.un]),.row 1 (els x.Paces),.row 1 (els x.Acks),.row 6 (els x.Watchers),.row 10 (els x.Lines),.row 2 (els x.Alarms),.box (mC x 3),.row 10 ((els u).set b (Enc.e ({ v with Delay:=w.Delay,Jitter:=w.Jitter,Loss:=w.Loss,Copies:=w.Copies,Damage:=w.Damage }:TWire))),.lk (.le 6 1 a 0) (.ref 13)]⟩:St)) (Xv [0,1,2,3,4,5,6,7,8,9,10,11,12,13,14] (by decide) J ((by kernel_rfl)) (.c J (.c J (.c J (.c J (.c J (.c J (.c J (.c J (.nil)))))))))) ?_;refine AL.weak (Wk.join (p:=6) (i:=a) (j:=0) (N:=13) (L:=14) J hat2 J J J J) ?_
  refine AL.weak (st':=(⟨63,[(1,I a),(2,I b),(4,.o (.c (.ptr 0 0))),(7,.o (.c (.ptr 1 0))),(8,.o (.c (.ptr 2 0))),(9,B false),(10,.o (.c (.ptr 12 0)))],[.box (mD x),.box (wX w (sr w.Flights)),.box zM,.row 1 (els x.Level.Rows),.row 1 (els x.Scripts),.row 23 (els x.Peers),.row 1 (els (x.Wires.set a (u.set b (setF v w)))),.row 1 (els x.Paces),.row 1 (els x.Acks),.row 6 (els x.Watchers),.row 10 (els x.Lines),.row 2 (els x.Alarms),.box (mC x 3)]⟩:St)) (by rw[List.set_set,els_set,els_setL]; exact Xu [0,1,2,3,4,5,6,7,8,9,10,11,12] (by kernel_rfl)) ?_
  refine Wz [1,25,136,110] ?_
  exact E_cellt J J J J J (Xt [3,4,5,6,7,8,9,10,11] (by decide) J J J)
theorem S_SetWire (x:TMatch) (i j:Int) (w:TWire) (h:MatchIn x) (gw:Enc.gd w):Con Tryz.prog 40 [] [ag x,ai i,ai j,ag w] (mR (setV x i j w) []) (.tu [.ag (mC (setV x i j w) 0),.c (bv (setB x i j w))]):=by
 have cM:=S_l08Copy x h
 have cW:=S_WireOk w gw
 have cT:=S_two x i j h.gd
 refine Con.of Tryz.func40 J Tryz.ntmps40 J (fun E => ?_)
 refine Wz [264,56,7,25] ?_;refine AL.weak (st':=(⟨58,[(1,I i),(2,I j),(4,.o (.c (.ptr 0 0))),(7,.o (.c (.ptr 1 0))),(8,.o (.c (.ptr 2 0))),(9,B false),(12,.o (.ag (mD x)))],[.box (mD x),.box (wX w (sr w.Flights)),.box zM]⟩:St)) (Xv [0,1,2] (by decide) J ((by kernel_rfl)) (.c J (.c J (.c J (.c J (.c J (.c J (.c J (.nil))))))))) ?_;refine M1 (Za J J (cM) J J J) J J ?_;refine Wz [56,22,156,71,41] ?_;refine AL.weak (st':=(⟨58,[(1,I i),(2,I j),(4,.o (.c (.ptr 0 0))),(7,.o (.c (.ptr 1 0))),(8,.o (.c (.ptr 2 0))),(9,B false),(10,.o (.c (.ptr 12 0))),(14,.o (.ag (mD x))),(15,I i),(16,I j)],[.box (mD x),.box (wX w (sr w.Flights)),.box zM,.row 1 (els x.Level.Rows),.row 1 (els x.Scripts),.row 23 (els x.Peers),.row 1 (els x.Wires),.row 1 (els x.Paces),.row 1 (els x.Acks),.row 6 (els x.Watchers),.row 10 (els x.Lines),.row 2 (els x.Alarms),.box (mC x 3)]⟩:St)) (Xv [0,1,2,3,4,5,6,7,8,9,10,11,12] (by decide) J ((by kernel_rfl)) (.c J (.c J (.c J (.c J (.c J (.c J (.c J (.c J (.c J (.c J (.nil)))))))))))) ?_
 cases hb:setB x i j w with
 | false =>
  rw[show setV x i j w=x by rw[setV,hb]; rfl]
  refine zx (Qj J J (cT) J) J ?_;refine Wz [10,0,175] ?_;refine zx (Qt.grdF J J J (.hit .stop) (fun hgrd=>Qj J J (cW) J)) J ?_;refine Wz [152,44] ?_
  refine Q8 J (fun h1 => ?_) (fun h1 => ?_)
  ·refine Wz [25,136,138] ?_
   refine Wz [1,166,107] ?_
   exact E_cellt J J J J J (Xt [3,4,5,6,7,8,9,10,11] (by decide) J J J)
  ·exfalso
   simp only[Gql,Gqt,Gqk] at h1; rw[setB,h1.1.1,h1.1.2,h1.2] at hb; cases hb
 | true =>
  rw[show setV x i j w={ x with Wires:=wirS x.Wires i.toNat j.toNat w } by rw[setV,hb]; rfl]
  obtain⟨hm,hw1,h2⟩:=setB_iff.1 hb
  obtain⟨a,ha,b,hb2,u,v,hu,hv,hs⟩:=set_at hm h2 w
  rw[hs]
  have hau:=els_at' hu
  have eu:=X6 u
  refine zx (Qj J J (cT) J) J ?_;refine Wz [10,0,175] ?_;refine zx (Qt.grdF J J J (.hit .stop) (fun hgrd=>Qj J J (cW) J)) J ?_;refine Wz [152,44] ?_
  refine Q8 J (fun h1 => ?_) (fun h1 => ?_)
  ·exfalso
   rw[hm,hw1,h2] at h1; cases h1
  refine AWP.pre (st':=(⟨58,[(1,I i),(2,I j),(4,.o (.c (.ptr 0 0))),(7,.o (.c (.ptr 1 0))),(8,.o (.c (.ptr 2 0))),(9,B false),(10,.o (.c (.ptr 12 0)))],[.box (mD x),.box (wX w (sr w.Flights)),.box zM,.row 1 (els x.Level.Rows),.row 1 (els x.Scripts),.row 23 (els x.Peers),.row 1 (els x.Wires),.row 1 (els x.Paces),.row 1 (els x.Acks),.row 6 (els x.Watchers),.row 10 (els x.Lines),.row 2 (els x.Alarms),.box (mC x 3)]⟩:St)) ?_ (Xv [0,1,2,3,4,5,6,7,8,9,10,11,12] (by decide) J ((by kernel_rfl)) (.c J (.c J (.c J (.c J (.c J (.c J (.c J (.nil)))))))))
  have hlu:=els_self' hv
  refine AWP.pre ?_ (Wk.splitl (p:=6) (i:=a) (j:=0) (k':=10) (es0:=els u) J hau J (by repeat' (first | exact trivial | exact⟨J,J,J⟩ | refine And.intro ?_ ?_)) (by repeat' (first | exact trivial | exact⟨J,J,J⟩ | refine And.intro ?_ ?_)))
  refine AWP.pre (st':=(⟨58,[(1,I i),(2,I j),(4,.o (.c (.ptr 0 0))),(7,.o (.c (.ptr 1 0))),(8,.o (.c (.ptr 2 0))),(9,B false),(10,.o (.c (.ptr 12 0)))],[.box (mD x),.box (wX w (sr w.Flights)),.box zM,.row 1 (els x.Level.Rows),.row 1 (els x.Scripts),.row 23 (els x.Peers),.row 1 ((els x.Wires).set a [.un]),.row 1 (els x.Paces),.row 1 (els x.Acks),.row 6 (els x.Watchers),.row 10 (els x.Lines),.row 2 (els x.Alarms),.box (mC x 3),.row 10 ((els u).set b (Enc.e v)),.lk (.le 6 1 a 0) (.ref 13)]⟩:St)) ?_ (by rw[←hlu]; exact Xu [0,1,2,3,4,5,6,7,8,9,10,11,12,13,14] (by kernel_rfl))
  have hla:a<(els x.Wires).length:=Yh hau
  have hla1:a<((els x.Wires).set a [.un]).length:=by rw[Gqs]; exact hla
  have hat2:((els x.Wires).set a [.un])[a]? = some [.un]:=Gq8 hla
  have hbU:b<(els u).length:=by have:=Yh hv; omega
  have hq2:(b:Int).toNat<(els u).length:=hbU
  subst ha hb2
  refine Wz [13,54,164] ?_;refine zx (q_lel 14 J J J J) J ?_;refine Wz [0,164,74,14,149,83,150] ?_;refine AL.weak (st':=(⟨58,[(1,I a),(2,I b),(4,.o (.c (.ptr 0 0))),(7,.o (.c (.ptr 1 0))),(8,.o (.c (.ptr 2 0))),(9,B false),(10,.o (.c (.ptr 12 0))),(11,.o (.c (.el 13 10 b 0)))],[.box (mD x),.box (wX w (sr w.Flights)),.box zM,.row 1 (els x.Level.Rows),.row 1 (els x.Scripts),.row 23 (els x.Peers),.row 1 ((els x.Wires).set a [.un]),.row 1 (els x.Paces),.row 1 (els x.Acks),.row 6 (els x.Watchers),.row 10 (els x.Lines),.row 2 (els x.Alarms),.box (mC x 3),.row 10 ((els u).set b (Enc.e ({ v with Delay:=w.Delay }:TWire))),.lk (.le 6 1 a 0) (.ref 13)]⟩:St)) (Xv [0,1,2,3,4,5,6,7,8,9,10,11,12,13,14] (by decide) J ((by kernel_rfl)) (.c J (.c J (.c J (.c J (.c J (.c J (.c J (.c J (.nil)))))))))) ?_;refine Wz [1,8,14,149,83,150] ?_;refine AL.weak (st':=(⟨58,[(1,I a),(2,I b),(4,.o (.c (.ptr 0 0))),(7,.o (.c (.ptr 1 0))),(8,.o (.c (.ptr 2 0))),(9,B false),(10,.o (.c (.ptr 12 0))),(11,.o (.c (.el 13 10 b 0)))],[.box (mD x),.box (wX w (sr w.Flights)),.box zM,.row 1 (els x.Level.Rows),.row 1 (els x.Scripts),.row 23 (els x.Peers),.row 1 ((els x.Wires).set a [.un]),.row 1 (els x.Paces),.row 1 (els x.Acks),.row 6 (els x.Watchers),.row 10 (els x.Lines),.row 2 (els x.Alarms),.box (mC x 3),.row 10 ((els u).set b (Enc.e ({ v with Delay:=w.Delay,Jitter:=w.Jitter }:TWire))),.lk (.le 6 1 a 0) (.ref 13)]⟩:St)) (Xv [0,1,2,3,4,5,6,7,8,9,10,11,12,13,14] (by decide) J ((by kernel_rfl)) (.c J (.c J (.c J (.c J (.c J (.c J (.c J (.c J (.nil)))))))))) ?_;refine Wz [1,8,14,149,83,150] ?_;refine AL.weak (st':=(⟨58,[(1,I a),(2,I b),(4,.o (.c (.ptr 0 0))),(7,.o (.c (.ptr 1 0))),(8,.o (.c (.ptr 2 0))),(9,B false),(10,.o (.c (.ptr 12 0))),(11,.o (.c (.el 13 10 b 0)))],[.box (mD x),.box (wX w (sr w.Flights)),.box zM,.row 1 (els x.Level.Rows),.row 1 (els x.Scripts),.row 23 (els x.Peers),.row 1 ((els x.Wires).set a [.un]),.row 1 (els x.Paces),.row 1 (els x.Acks),.row 6 (els x.Watchers),.row 10 (els x.Lines),.row 2 (els x.Alarms),.box (mC x 3),.row 10 ((els u).set b (Enc.e ({ v with Delay:=w.Delay,Jitter:=w.Jitter,Loss:=w.Loss }:TWire))),.lk (.le 6 1 a 0) (.ref 13)]⟩:St)) (Xv [0,1,2,3,4,5,6,7,8,9,10,11,12,13,14] (by decide) J ((by kernel_rfl)) (.c J (.c J (.c J (.c J (.c J (.c J (.c J (.c J (.nil)))))))))) ?_;refine Wz [1,8,14,149,83,150] ?_;refine AL.weak (st':=(⟨58,[(1,I a),(2,I b),(4,.o (.c (.ptr 0 0))),(7,.o (.c (.ptr 1 0))),(8,.o (.c (.ptr 2 0))),(9,B false),(10,.o (.c (.ptr 12 0))),(11,.o (.c (.el 13 10 b 0)))],[.box (mD x),.box (wX w (sr w.Flights)),.box zM,.row 1 (els x.Level.Rows),.row 1 (els x.Scripts),.row 23 (els x.Peers),.row 1 ((els x.Wires).set a [.un]),.row 1 (els x.Paces),.row 1 (els x.Acks),.row 6 (els x.Watchers),.row 10 (els x.Lines),.row 2 (els x.Alarms),.box (mC x 3),.row 10 ((els u).set b (Enc.e ({ v with Delay:=w.Delay,Jitter:=w.Jitter,Loss:=w.Loss,Copies:=w.Copies }:TWire))),.lk (.le 6 1 a 0) (.ref 13)]⟩:St)) (Xv [0,1,2,3,4,5,6,7,8,9,10,11,12,13,14] (by decide) J ((by kernel_rfl)) (.c J (.c J (.c J (.c J (.c J (.c J (.c J (.c J (.nil)))))))))) ?_;refine Wz [1,8,14,149,83,150] ?_;refine AL.weak (st':=(⟨58,[(1,I a),(2,I b),(4,.o (.c (.ptr 0 0))),(7,.o (.c (.ptr 1 0))),(8,.o (.c (.ptr 2 0))),(9,B false),(10,.o (.c (.ptr 12 0))),(11,.o (.c (.el 13 10 b 0)))],[.box (mD x),.box (wX w (sr w.Flights)),.box zM,.row 1 (els x.Level.Rows),.row 1 (els x.Scripts),.row 23 (els x.Peers),.row 1 ((els x.Wires).set a [.un]),.row 1 (els x.Paces),.row 1 (els x.Acks),.row 6 (els x.Watchers),.row 10 (els x.Lines),.row 2 (els x.Alarms),.box (mC x 3),.row 10 ((els u).set b (Enc.e ({ v with Delay:=w.Delay,Jitter:=w.Jitter,Loss:=w.Loss,Copies:=w.Copies,Damage:=w.Damage }:TWire))),.lk (.le 6 1 a 0) (.ref 13)]⟩:St)) (Xv [0,1,2,3,4,5,6,7,8,9,10,11,12,13,14] (by decide) J ((by kernel_rfl)) (.c J (.c J (.c J (.c J (.c J (.c J (.c J (.c J (.nil)))))))))) ?_;refine AL.weak (Wk.join (p:=6) (i:=a) (j:=0) (N:=13) (L:=14) J hat2 J J J J) ?_
  refine AL.weak (st':=(⟨58,[(1,I a),(2,I b),(4,.o (.c (.ptr 0 0))),(7,.o (.c (.ptr 1 0))),(8,.o (.c (.ptr 2 0))),(9,B false),(10,.o (.c (.ptr 12 0)))],[.box (mD x),.box (wX w (sr w.Flights)),.box zM,.row 1 (els x.Level.Rows),.row 1 (els x.Scripts),.row 23 (els x.Peers),.row 1 (els (x.Wires.set a (u.set b (setF v w)))),.row 1 (els x.Paces),.row 1 (els x.Acks),.row 6 (els x.Watchers),.row 10 (els x.Lines),.row 2 (els x.Alarms),.box (mC x 3)]⟩:St)) (by rw[List.set_set,els_set,els_setL]; exact Xu [0,1,2,3,4,5,6,7,8,9,10,11,12] (by kernel_rfl)) ?_
  refine Wz [1,25,136,110] ?_
  exact E_cellt J J J J J (Xt [3,4,5,6,7,8,9,10,11] (by decide) J J J)
end
end Go.Proofs.YtoecjaohdnoenaaGreat
