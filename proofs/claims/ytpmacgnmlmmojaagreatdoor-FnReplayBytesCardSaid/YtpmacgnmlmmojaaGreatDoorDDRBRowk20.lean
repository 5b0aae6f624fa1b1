/-
  Rules, data and contracts of functions: part 21 of the proof.
  Conditions: those that each theorem names.
-/
import Derived.Test.YtpmacgnmlmmojaaGreatDoorDDRBRowk13
import Derived.Test.YtpmacgnmlmmojaaGreatDoorDDRBRowk19
set_option linter.unusedSimpArgs false
set_option linter.unusedVariables false
set_option maxRecDepth 8000
set_option maxHeartbeats 8000000
namespace Go.Proofs.YtpmacgnmlmmojaaGreatDoor
section
open Go.RowKit

theorem str_cells {w:World} {G:Nat→Prop} {xs:List ByteArray} {v:Value} (h:RO w G (sl xs) v):(xs = []∧∃ A c,v = .slice A 0 c)∨∃ b o c,v = .slice (some ⟨b,o,none⟩) xs.length c∧b<w.heap.size∧xs.length≤c∧∀ (j:Nat) x,xs[j]? = some x→w.cell? ⟨b,o+j,none⟩=some (.string x):=by
 have hl:=Y9 xs
 obtain⟨A,c,hv,hc,hm⟩:=RO.form h
 rw[hl] at hv hc
 cases xs with
 |nil=>exact .inl ⟨rfl,A,c,hv⟩
 |cons x xs =>
  refine .inr ?_
  obtain⟨b,o,c',hv',_,hp,hk,hcell⟩:=RO.at_ h (i:=0) (e:=Enc.e x) rfl
  rw[hv] at hv'
  simp only[Value.slice.injEq] at hv'
  obtain⟨hA,_,rfl⟩:=hv'
  obtain⟨u,hu,_⟩:=hcell 0 (.v (.string x)) rfl
  refine⟨b,o,c,by rw[hv,hA],World.block_lt_of_cell? w _ hu,hc,fun j y hj => ?_⟩
  have hje:(els (x::xs))[j]? = some (Enc.e y):=by simp only[els,Gqh,hj,Gqy]
  obtain⟨b2,o2,c2,hv2,_,_,_,hcell2⟩:=RO.at_ h hje
  rw[hv] at hv2
  simp only[Value.slice.injEq] at hv2
  obtain⟨hA2,_,_⟩:=hv2
  rw[hA] at hA2
  simp only[Option.some.injEq,Addr.mk.injEq] at hA2
  obtain⟨rfl,rfl,_⟩:=hA2
  obtain⟨u2,hu2,hr2⟩:=hcell2 0 (.v (.string y)) rfl
  obtain⟨rfl,_⟩:=RO.plain hr2
  have hk1:(Enc.k ByteArray)=1:=rfl
  rw[hk1] at hu2
  simpa using hu2
def joinB (xs:List ByteArray) (sep:ByteArray):ByteArray:=⟨(Lib.join (xs.map (·.data.toList)) sep.data.toList).toArray⟩
theorem I_Join (xs:List ByteArray) (sep:ByteArray) (h1:xs.length≤140737488355328) (h2:(Lib.join (xs.map (·.data.toList)) sep.data.toList).length≤140737488355328):Con Tryz.prog 147 [] [al xs,astr sep] [] (S (joinB xs sep)):=by
 refine Con.kit J fun w H F vs hok hnil hlen hargs => ?_
 match vs,hlen with
 | [v,u],_ =>
  have h3:=hargs 0 _ v J J
  have h4:=hargs 1 _ u J J
  obtain⟨rfl,_⟩:u = .string sep∧_:=RO.plain h4
  rcases str_cells h3 with ⟨rfl,A,c,rfl⟩ | ⟨b,o,c,rfl,hb,hc,hcell⟩
  ·exact (Tryz.strings_Join_none A c sep w).mono fun e w' ⟨he,hw⟩=>⟨he,hw▸Below.refl _ _⟩
  ·exact Tryz.strings_Join b o c xs sep w hcell hb h1 hc h2
def joinG (xs:List ByteArray) (sep:ByteArray):Nat→ByteArray
 |0=>⟨#[]⟩
 |k+1=>(if 0<k then joinG xs sep k++sep else joinG xs sep k)++(xs.getD k ⟨#[]⟩)
theorem joinG_list (xs:List ByteArray) (sep:ByteArray):∀ k,k≤xs.length→(joinG xs sep k).data.toList=Lib.join ((xs.map (·.data.toList)).take k) sep.data.toList
 |0,_=>rfl
 | k+1,h=>by
  have ih:=joinG_list xs sep k (by omega)
  have hk:k<xs.length:=by omega
  have hx:(xs.map (·.data.toList))[k]? = some xs[k].data.toList:=by rw[Gqh,Gqd hk]; rfl
  have hd:xs.getD k ⟨#[]⟩=xs[k]:=by simp[Gqc,hk]
  cases k with
  |zero =>
   rw[joinG,if_neg (by omega),hd,Gxo,Gxx,ih,List.take_add_one,hx]
   simp[Lib.join,List.intercalate]
  | succ j =>
   obtain⟨x,r,hr⟩:∃ x r,xs.map (·.data.toList)=x::r:=by
    cases hm:xs.map (·.data.toList) with
    |nil=>rw[hm] at hx; simp at hx
    |cons x r=>exact⟨x,r,rfl⟩
   rw[hr] at ih hx ⊢
   rw[joinG,if_pos (by omega),hd,Gxo,Gxx,Gxo,Gxx,ih,List.take_succ_cons,Lib.join_cons,List.take_succ_cons,Lib.join_cons,Lib.joinTail_take_succ sep.data.toList r j xs[j+1].data.toList (by simpa using hx)]
   simp[Gqn]
theorem joinG_all (xs:List ByteArray) (sep:ByteArray):joinG xs sep xs.length=joinB xs sep:=by
 have h:=joinG_list xs sep xs.length (Gqf _)
 rw[Gxk (by simp)] at h
 rw[joinB,←h]
theorem joinG_size (xs:List ByteArray) (sep:ByteArray):∀ k,k≤xs.length→(joinG xs sep k).size≤wts (xs.take k)+sep.size*k
 |0,_=>by show (0:Nat)≤_; omega
 |k+1,h=>by
  have ih:=joinG_size xs sep k (by omega)
  have hw:=wts_take xs k (by omega)
  have hd:xs.getD k ⟨#[]⟩=xs[k]'(by omega):=by simp[Gqc,show k<xs.length by omega]
  have hws:Enc.wt (xs[k]'(by omega))=(xs[k]'(by omega)).size:=rfl
  rw[joinG,Yy,hd,hw,hws,Nat.mul_succ]
  split
  ·rw[Yy]; omega
  ·omega
theorem joinB_size (xs:List ByteArray) (sep:ByteArray):(joinB xs sep).size≤wts xs+sep.size*xs.length:=by
 have h:=joinG_size xs sep xs.length (Gqf _)
 rw[joinG_all,Gxk (Gqf _)] at h
 exact h
theorem joinB_len (xs:List ByteArray) (sep:ByteArray):(Lib.join (xs.map (·.data.toList)) sep.data.toList).length=(joinB xs sep).size:=by simp[joinB,ByteArray.size]
end
section
open Go.RowKit

def varN (n:Nat):List UInt8:=if n<128 then [UInt8.ofNat n] else UInt8.ofNat (n%128+128)::varN (n/128)
termination_by n
decreasing_by omega
def encVar (n:Int):List UInt8:=if 0≤n∧n≤1099511627775 then varN n.toNat else []
theorem Vo {n:Nat} (h:n<128):varN n = [UInt8.ofNat n]:=by rw[varN,if_pos h]
theorem varN_big {n:Nat} (h:¬n<128):varN n=UInt8.ofNat (n%128+128)::varN (n/128):=by rw[varN,if_neg h]
theorem varN_len (n:Nat):1≤(varN n).length∧(varN n).length≤n+1:=by
 induction n using Nat.strongRecOn with
 | ind n ih =>
  by_cases h:n<128
  ·rw[Vo h]; simp
  ·rw[varN_big h]
   have:=ih (n/128) (by omega)
   simp only[Gqt]
   omega
theorem varN_step {acc:List UInt8} {m:Nat} {l:List UInt8} (h:acc++varN m=l) (hm:¬m<128) {x:UInt8} (hx:x=UInt8.ofNat (m%128+128)):(acc ++ [x])++varN (m/128)=l:=by
 rw[←h,varN_big hm,hx]; simp
theorem varN_end {acc:List UInt8} {m:Nat} {l:List UInt8} (h:acc++varN m=l) (hm:m<128) {x:UInt8} (hx:x=UInt8.ofNat m):acc ++ [x]=l:=by
 rw[←h,Vo hm,hx]

theorem Xs (n:Int):Con Tryz.prog 130 [] [ai n] [] (S (bs (encVar n))):=by
 refine Con.of Tryz.func130 J Tryz.ntmps130 J (fun E => ?_)
 refine Wz [94,100,89,220,110] ?_
 refine Xb J (fun h => ?_) (fun h => ?_)
 ·simp only[Gqs,decide_eq_true_eq] at h
  refine Wz [1,31] ?_
  exact Gq J (Gr [] J J (S_eq (by rw[encVar,if_neg (by omega)])))
 simp only[Gqv,decide_eq_false_iff_not] at h
 have he:encVar n=varN n.toNat:=by rw[encVar,if_pos (by omega)]
 rw[he]
 refine Wz [54,36,12,33] ?_
 refine AWP.pre ?_ (W_nil 3 1 J)
 refine Xi (fun m__ st=>∃ (m:Nat) (acc:List UInt8),m=m__∧(acc++varN m=varN n.toNat∧acc.length+m≤1099511627775)∧st=(⟨_,[(0,I m),(3,.o (.c (.ref 0)))],[.row 1 (bE acc)]⟩:St)) _ ⟨(fun (m:Nat) (acc:List UInt8)=>(⟨_,[(0,I m),(3,.o (.c (.ref 0)))],[.row 1 (bE acc)]⟩:St)) (n.toNat) ([]),⟨n.toNat,[],J,⟨J,by simp <;> omega⟩,J⟩,Gp [0] J (.cons (Xz (by omega)) (.c J (.nil)))⟩ ?_
 rintro m_A _ ⟨m,acc,hk_A,hp_A,rfl⟩
 refine Wz [25,209,2] ?_
 refine Xb J (fun h5 => ?_) (fun h5 => ?_)
 ·have h5:¬m<128:=by have:=Gqi h5; omega
  have hl:=Ym acc
  refine Wz [124,37,111,35,187,45,148,11,22,155,127] ?_
  refine⟨_,(by omega),(fun (m:Nat) (acc:List UInt8)=>(⟨_,[(0,I m),(3,.o (.c (.ref 0)))],[.row 1 (bE acc)]⟩:St)) (m/128) (acc ++ [UInt8.ofNat ((m:Int)%128+128).toNat]),⟨m/128,acc ++ [UInt8.ofNat ((m:Int)%128+128).toNat],J,⟨varN_step hp_A.1 h5 (by congr 1 <;> omega),by have:=hp_A.2; simp <;> omega⟩,J⟩,Yg [0] (by decide) J (K7 (bE_snoc _ _ (by omega)).symm) (.cons (Xz (by omega)) (.c J (.nil)))⟩
 ·have h5:m<128:=by have:=Gqj h5; omega
  have hl:=Ym acc
  have hb:=hp_A.2
  refine Wz [40,37,187,45,148,32,194,19] ?_
  exact Gq J (Gr [] J J (S_eq (congrArg bs (varN_end hp_A.1 h5 (by congr 1)))))
theorem X8 (n:Int):Con Tryz.prog 248 [] [ai n] [] (S (bs (encVar n))):=by
 refine Con.of Tryz.func248 J Tryz.ntmps248 J (fun E => ?_)
 refine Wz [94] ?_;refine zx (Qj J J (S_in n 0 1099511627775) J) J ?_;refine Wz [16,2] ?_
 refine Xb J (fun h => ?_) (fun h => ?_)
 ·have h:¬(0≤n∧n≤1099511627775):=by rw[←Zn]; simpa using h
  refine Wz [1,31] ?_
  exact Gq J (Gr [] J J (S_eq (by rw[encVar,if_neg h])))
 have h:0≤n∧n≤1099511627775:=by rw[←Zn]; simpa using h
 have he:encVar n=varN n.toNat:=by rw[encVar,if_pos h]
 rw[he]
 refine Wz [54,1,179,23,33] ?_
 refine Xi (fun m__ st=>∃ (m:Nat) (acc:List UInt8),m=m__∧(acc++varN m=varN n.toNat∧acc.length+m≤1099511627775)∧st=(⟨_,[(0,I m),(3,.o (.c (.ref 0)))],[.row 1 (bE acc)]⟩:St)) _ ⟨(fun (m:Nat) (acc:List UInt8)=>(⟨_,[(0,I m),(3,.o (.c (.ref 0)))],[.row 1 (bE acc)]⟩:St)) (n.toNat) ([]),⟨n.toNat,[],J,⟨J,by simp <;> omega⟩,J⟩,Gp [0] J (.cons (Xz (by omega)) (.c J (.nil)))⟩ ?_
 rintro m_A _ ⟨m,acc,hk_A,hp_A,rfl⟩
 refine Wz [25,248,2] ?_
 refine Xb J (fun h5 => ?_) (fun h5 => ?_)
 ·have h5:¬m<128:=by have:=Gqi h5; omega
  have hl:=Ym acc
  have hb:=hp_A.2
  have hb1:(m:Int).toNat &&& (127:Int).toNat=m%128:=Gzg m 7
  have hb2:((m%128:Nat):Int).toNat ||| (128:Int).toNat=m%128+128:=by
   have:=Nat.two_pow_add_eq_or_of_lt (i:=7) (b:=m%128) (by omega) 1
   rw[Nat.or_comm]
   show 128 ||| m%128=_
   rw[←this]; omega
  have hb3:(m:Int)/2 ^ (7:Int).toNat=(m/128:Nat):=by
   show (m:Int)/128=_
   omega
  refine Wz [124,37] ?_;refine zx (q_bandK J J J J (by assumption) (by omega)) J ?_;refine Wz [266,187,45,148,11,22] ?_;refine zx (q_shrK J J J J (by assumption) ⟨by omega,by omega,by decide⟩) J ?_;refine Wz [127] ?_
  refine⟨_,(by omega),(fun (m:Nat) (acc:List UInt8)=>(⟨_,[(0,I m),(3,.o (.c (.ref 0)))],[.row 1 (bE acc)]⟩:St)) (m/128) (acc ++ [UInt8.ofNat ((m%128+128:Nat):Int).toNat]),⟨m/128,acc ++ [UInt8.ofNat ((m%128+128:Nat):Int).toNat],J,⟨varN_step hp_A.1 h5 (by congr 1),by simp <;> omega⟩,J⟩,Yg [0] (by decide) J (K7 (bE_snoc _ _ (by omega)).symm) (.c J (.c J (.nil)))⟩
 ·have h5:m<128:=by have:=Gqj h5; omega
  have hl:=Ym acc
  have hb:=hp_A.2
  refine Wz [40,37,187,45,148,194,19] ?_
  exact Gq J (Gr [] J J (S_eq (congrArg bs (varN_end hp_A.1 h5 (by congr 1)))))

theorem varN_pow:∀ (j n:Nat),n<128 ^ (j+1)→(varN n).length≤j+1
 |0,n,h=>by rw[Vo (by omega)]; simp
 | j+1,n,h=>by
  by_cases hn:n<128
  ·rw[Vo hn]; simp
  ·rw[varN_big hn,Gqt]
   have:=varN_pow j (n/128) (by rw[Nat.pow_succ] at h; omega)
   omega
theorem Zd (n:Int):(encVar n).length≤6:=by
 unfold encVar
 split
 ·exact varN_pow 5 _ (by omega)
 ·simp
def signless (n:Int):Int:=if -549755813888≤n∧n≤549755813887 then (if 0≤n then 2*n else -2*n-1) else -1
theorem I_Signless (n:Int) (hn:I64 n):Con Tryz.prog 148 [] [ai n] [] (I (signless n)):=by
 obtain⟨hn1,hn2⟩:=hn
 refine Con.of Tryz.func148 J Tryz.ntmps148 J (fun E => ?_)
 refine Wz [94,100,89,220,110] ?_
 refine Xb J (fun h => ?_) (fun h => ?_)
 ·simp only[Gqs,decide_eq_true_eq] at h
  refine Wz [1,31] ?_
  exact Gq J (Gr [] J J (Xz (by rw[signless,if_neg (by omega)])))
 simp only[Gqv,decide_eq_false_iff_not] at h
 refine Wz [54,25,209,2] ?_
 refine Xb J (fun h1 => ?_) (fun h1 => ?_)
 ·have h1:=Gqi h1
  refine Wz [10,67,31] ?_
  exact Gq J (Gr [] J J (Xz (by rw[signless,if_pos (by omega),if_pos (by omega)])))
 ·have h1:=Gqj h1
  refine Wz [54,10,67,71,19] ?_
  exact Gq J (Gr [] J J (Xz (by rw[signless,if_pos (by omega),if_neg (by omega)])))
theorem S_Signless (n:Int) (hn:I64 n):Con Tryz.prog 272 [] [ai n] [] (I (signless n)):=by
 obtain⟨hn1,hn2⟩:=hn
 refine Con.of Tryz.func272 J Tryz.ntmps272 J (fun E => ?_)
 refine Wz [94] ?_;refine zx (Qj J J (S_in n (-549755813888) 549755813887) J) J ?_;refine Wz [16,2] ?_
 refine Xb J (fun h => ?_) (fun h => ?_)
 ·have h:¬(-549755813888≤n∧n≤549755813887):=by rw[←Zn]; simpa using h
  refine Wz [1,31] ?_
  exact Gq J (Gr [] J J (Xz (by rw[signless,if_neg (by omega)])))
 have h : -549755813888≤n∧n≤549755813887:=by rw[←Zn]; simpa using h
 refine Wz [54,25,209,2] ?_
 refine Xb J (fun h1 => ?_) (fun h1 => ?_)
 ·have h1:=Gqi h1
  refine Wz [10,67,31] ?_
  exact Gq J (Gr [] J J (Xz (by rw[signless,if_pos (by omega),if_pos (by omega)])))
 ·have h1:=Gqj h1
  refine Wz [54,10,67,71,19] ?_
  exact Gq J (Gr [] J J (Xz (by rw[signless,if_pos (by omega),if_neg (by omega)])))
def packText (s:ByteArray):ByteArray:=bs (encVar s.size)++s
theorem Z4 (s:ByteArray):(packText s).size≤s.size+6:=by
 unfold packText
 rw[Yy,Ys]
 have:=Zd s.size
 omega
theorem Xu (s:ByteArray) (hs:s.size≤1099511627776):Con Tryz.prog 64 [] [astr s] [] (S (packText s)):=by
 have h1:=Ys (encVar s.size)
 have h2:=Zd s.size
 refine Con.of Tryz.func64 J Tryz.ntmps64 J (fun E => ?_)
 refine Wz [36,10,143] ?_;refine zx (Qj J J (Xs s.size) J) J ?_;refine Wz [0,210,19] ?_
 exact Gq J (Gr [] J J J)
theorem S_PackText (s:ByteArray) (hs:s.size≤1099511627776):Con Tryz.prog 271 [] [astr s] [] (S (packText s)):=by
 have h1:=Ys (encVar s.size)
 have h2:=Zd s.size
 refine Con.of Tryz.func271 J Tryz.ntmps271 J (fun E => ?_)
 refine Wz [36,10,143] ?_;refine zx (Qj J J (X8 s.size) J) J ?_;refine Wz [0,210,19] ?_
 exact Gq J (Gr [] J J J)
def packK (xs:List Int) (k:Nat):List UInt8:=encVar xs.length++(xs.take k).flatMap fun x=>encVar (signless x)
def packInts (xs:List Int):ByteArray:=if xs.all (fun x=>decide (0≤signless x)) then bs (packK xs xs.length) else bs []
theorem packK_succ {xs:List Int} {k:Nat} (h:k<xs.length):packK xs (k+1)=packK xs k++encVar (signless xs[k]):=by
 unfold packK
 rw[Gxd h,List.flatMap_append,Gqn]
 simp
theorem packK_len (xs:List Int):∀ k,k≤xs.length→(packK xs k).length≤6*k+6
 |0,_=>by simp[packK]; exact Zd _
 |k+1,h=>by
  rw[packK_succ (by omega),Gqe]
  have:=packK_len xs k (by omega)
  have:=Zd (signless xs[k])
  omega
theorem packInts_size (xs:List Int):(packInts xs).size≤6*xs.length+6:=by
 unfold packInts
 split
 ·rw[Ys]; exact packK_len xs _ (Gqf _)
 ·rw[Ys]; simp
theorem I_PackInts (xs:List Int) (hg:Enc.gd xs) (hL:xs.length≤1073741824):Con Tryz.prog 66 [] [al xs] [] (S (packInts xs)):=by
 have hlx:=Y9 xs
 have h1:=Ys (encVar (els xs).length)
 have h2:=Zd (els xs).length
 refine Con.of Tryz.func66 J Tryz.ntmps66 J (fun E => ?_)
 refine Wz [36,10,21] ?_;refine zx (Qj J J (Xs (els xs).length) J) J ?_;refine Wz [288,52,21,131,33] ?_
 refine Xi (fun m st=>∃ k:Nat,k+m=xs.length∧((xs.take k).all (fun x=>decide (0≤signless x))=true)∧st=(⟨_,[(3,.o (.c (.ref 0))),(11,L xs),(12,I (els xs).length),(13,I k)],[.row 1 (bE (packK xs k))]⟩:St)) (xs.length) ⟨(fun k:Nat=>(⟨_,[(3,.o (.c (.ref 0))),(11,L xs),(12,I (els xs).length),(13,I k)],[.row 1 (bE (packK xs k))]⟩:St)) 0,⟨0,by omega,by simp,J⟩,Yg [0] (by decide) J (K7 (by rw[Yr,hlx]; simp[packK])) (.c J (.c J (.c J (.c J (.nil)))))⟩ ?_
 rintro m_A _ ⟨k,hk_A,hp_A,rfl⟩
 refine Wz [1,100,39] ?_
 refine Xb J (fun h => ?_) (fun h => ?_)
 ·have h3:k<xs.length:=by have:=Gqi h; omega
  have hat:=Y7 h3
  have hb1:=Ym (packK xs k)
  have hb2:=packK_len xs k (by omega)
  have hb3:=Ys (encVar (signless xs[k]))
  have hb4:=Zd (signless xs[k])
  refine Wz [26,1,49,32] ?_;refine zx (Qj J J (I_Signless xs[k] (hg.2 _ (Gql h3))) J) J ?_;refine Wz [52,119] ?_
  refine Xb J (fun h4 => ?_) (fun h4 => ?_)
  ·refine Wz [1,85,211,211] ?_
   refine Wz [133,73] ?_
   exact Gq J (Gr [] J J (S_eq (by rw[packInts,all_no h3 (by simpa using h4)]; rfl)))
  ·refine Wz [54,22,0] ?_
   refine zx (Qj J J (Xs (signless xs[k])) J) J ?_;refine Wz [221,127,64] ?_
   exact⟨xs.length-(k+1),by omega,_,⟨k+1,by omega,Yj hp_A h3 (by simpa using h4),J⟩,(by rw[Yr,Yl,packK_succ h3]; exact Gs [0])⟩
 ·have h3:¬((k:Int)<(els xs).length):=Gqj h
  have hk:k=xs.length:=by omega
  refine Wz [40,10,194,19] ?_
  exact Gq J (Gr [] J J (S_eq (by rw[packInts,all_end hp_A (by omega),hk]; rfl)))
theorem S_PackInts (xs:List Int) (hg:Enc.gd xs) (hL:xs.length≤1073741824):Con Tryz.prog 251 [] [al xs] [] (S (packInts xs)):=by
 have hlx:=Y9 xs
 refine Con.of Tryz.func251 J Tryz.ntmps251 J (fun E => ?_)
 refine Wz [36,10,21] ?_;refine zx (Qj J J (X8 (els xs).length) J) J ?_;refine Wz [23,63] ?_
 refine Xi (fun m st=>∃ k:Nat,k+m=xs.length∧((xs.take k).all (fun x=>decide (0≤signless x))=true)∧st=(⟨_,[(0,L xs),(3,S (bs (packK xs k))),(4,I k)],[]⟩:St)) (xs.length) ⟨(fun k:Nat=>(⟨_,[(0,L xs),(3,S (bs (packK xs k))),(4,I k)],[]⟩:St)) 0,⟨0,by omega,by simp,J⟩,Gp [] J (.c J (.cons (S_eq (by rw[hlx]; simp[packK])) (.c J (.nil))))⟩ ?_
 rintro m_A _ ⟨k,hk_A,hp_A,rfl⟩
 refine Wz [24,21,119] ?_
 refine Xb J (fun h => ?_) (fun h => ?_)
 ·have h3:k<xs.length:=by have:=Gqi h; omega
  have hat:=Y7 h3
  have hb1:=Ys (packK xs k)
  have hb2:=packK_len xs k (by omega)
  have hb3:=Ys (encVar (signless xs[k]))
  have hb4:=Zd (signless xs[k])
  have hc:=S_Signless xs[k] (hg.2 _ (Gql h3))
  refine Wz [26,24,49] ?_;refine zx (Qj J J (hc) J) J ?_;refine Wz [119] ?_
  refine Xb J (fun h4 => ?_) (fun h4 => ?_)
  ·refine Wz [1,85,211,211] ?_
   refine Wz [133,73] ?_
   exact Gq J (Gr [] J J (S_eq (by rw[packInts,all_no h3 (by simpa using h4)]; rfl)))
  ·refine Wz [54,22,144] ?_
   refine Wz [49] ?_;refine zx (Qj J J (hc) J) J ?_;refine zx (Qj J J (X8 (signless xs[k])) J) J ?_;refine Wz [210,105] ?_
   exact⟨xs.length-(k+1),by omega,(fun k:Nat=>(⟨_,[(0,L xs),(3,S (bs (packK xs k))),(4,I k)],[]⟩:St)) (k+1),⟨k+1,by omega,Yj hp_A h3 (by simpa using h4),J⟩,Gp [] J (.c J (.cons (S_eq (by rw[Yq,packK_succ h3])) (.c J (.nil))))⟩
 ·have h3:¬((k:Int)<(els xs).length):=Gqj h
  have hk:k=xs.length:=by omega
  refine Wz [40,10,19] ?_
  exact Gq J (Gr [] J J (S_eq (by rw[packInts,all_end hp_A (by omega),hk]; rfl)))

def sumA (s:ByteArray):Nat→Int
 |0=>0
 |k+1=>(sumA s k+byteAt s k)%65521
def sumB (s:ByteArray):Nat→Int
 |0=>0
 |k+1=>(sumB s k+byteAt s k*(((k:Int)+1)%65521))%65521
def checksum (s:ByteArray):Int:=sumA s s.size+65536*sumB s s.size
theorem sumA_lt (s:ByteArray):∀ k,0≤sumA s k∧sumA s k<65521
 |0=>by simp[sumA]
 |k+1=>by simp only[sumA]; omega
theorem sumB_lt (s:ByteArray):∀ k,0≤sumB s k∧sumB s k<65521
 |0=>by simp[sumB]
 |k+1=>by simp only[sumB]; omega
theorem checksum_lt (s:ByteArray):0≤checksum s∧checksum s<4294967296:=by
 have:=sumA_lt s s.size
 have:=sumB_lt s s.size
 unfold checksum
 omega
theorem I_Checksum (s:ByteArray) (hs:s.size≤1099511627776):Con Tryz.prog 120 [] [astr s] [] (I (checksum s)):=by
 refine Con.of Tryz.func120 J Tryz.ntmps120 J (fun E => ?_)
 refine Wz [36,36,36,12,63] ?_;refine Xi (fun m st=>∃ k:Nat,k+m=s.size∧(True)∧st=(⟨_,[(0,S s),(3,I (sumA s k)),(4,I (sumB s k)),(5,I k)],[]⟩:St)) (s.size) ⟨_,⟨0,by omega,trivial,J⟩,Gs []⟩ ?_
 rintro m_A _ ⟨k,hk_A,hp_A,rfl⟩
 refine Wz [50,119] ?_
 refine Xb J (fun h => ?_) (fun h => ?_)
 ·have h3:k<s.size:=by have:=Gqi h; omega
  have hb1:=sumA_lt s k
  have hb2:=sumB_lt s k
  obtain⟨t,ht⟩:∃ t,byteAt s (k:Int).toNat=t:=⟨_,rfl⟩
  have htb:0≤t∧t≤255:=ht▸Yu _ _
  have hmul:0≤t*(((k:Int)+1)%65521)∧t*(((k:Int)+1)%65521)≤255*65520:=by
   have h5:0≤((k:Int)+1)%65521∧((k:Int)+1)%65521≤65520:=by omega
   exact⟨Int.mul_nonneg htb.1 h5.1,Int.mul_le_mul htb.2 h5.2 h5.1 (by omega)⟩
  have e1:sumA s (k+1)=(sumA s k+t)%65521:=by rw[sumA,←ht]; rfl
  have e2:sumB s (k+1)=(sumB s k+t*(((k:Int)+1)%65521))%65521:=by rw[sumB,←ht]; rfl
  refine Wz [123,0,139,166,35,111,11,22,144,139,166,46,111,67,35,111,105] ?_
  exact⟨s.size-(k+1),by omega,(fun k:Nat=>(⟨_,[(0,S s),(3,I (sumA s k)),(4,I (sumB s k)),(5,I k)],[]⟩:St)) (k+1),⟨k+1,by omega,trivial,J⟩,Gp [] J (.c J (.cons (Xz e1.symm) (.cons (Xz e2.symm) (.c J (.nil)))))⟩
 ·have h3:¬((k:Int)<s.size):=Gqj h
  have hk:k=s.size:=by omega
  have hb1:=sumA_lt s k
  have hb2:=sumB_lt s k
  refine Wz [40,37,67,35,19] ?_
  exact Gq J (Gr [] J J (Xz (by rw[checksum,hk])))

def seal4 (x:Int):List UInt8 := [UInt8.ofNat (x%256).toNat,UInt8.ofNat (x/256%256).toNat,UInt8.ofNat (x/65536%256).toNat,UInt8.ofNat (x/16777216%256).toNat]
def sealText (s:ByteArray):ByteArray:=bs (seal4 (checksum s))++s
theorem sealText_size (s:ByteArray):(sealText s).size=s.size+4:=by
 unfold sealText
 rw[Yy,Ys]
 simp[seal4]
 omega
theorem I_SealText (s:ByteArray) (hs:s.size≤1099511627776):Con Tryz.prog 68 [] [astr s] [] (S (sealText s)):=by
 obtain⟨x,hx⟩:∃ x,checksum s=x:=⟨_,rfl⟩
 have h1:=checksum_lt s
 have hc:=I_Checksum s hs
 rw[hx] at h1 hc
 refine Con.of Tryz.func68 J Tryz.ntmps68 J (fun E => ?_)
 refine Wz [36,10] ?_;refine zx (Qj J J (hc) J) J ?_;refine Wz [32,111,32,155,32,111,187,0,155,187,0,111,187,0,155,187,45,32] ?_;refine zx (q_bstrb J J J J J) J (z0 J ?_)
 refine M0 (q_cat J J J J (by simp only[Ys,Yy,Gqt,List.length_nil,Gqe]; omega)) J J ?_
 refine Wz [19] ?_
 exact Gq J (Gr [] J J (S_eq (by
  rw[sealText,hx,seal4]
  have e1:x%65536%256=x%256:=by omega
  have e2:x%65536/256=x/256%256:=by omega
  have e3:x/65536/256=x/16777216%256:=by omega
  rw[e1,e2,e3])))
end
section
open Go.RowKit

def packRuns (xs:List Int):List UInt8:=match xs with
 | [] => []
 |x::r=>encVar (x+16*((r.takeWhile (· == x)).length+1:Nat))++packRuns (r.drop (r.takeWhile (· == x)).length)
termination_by xs.length
decreasing_by simp; omega
theorem tw_len {xs:List Int} {x:Int}:∀ {n:Nat},(∀ j,j<n→xs[j]? = some x)→(∀ y,xs[n]? = some y→y≠x)→(xs.takeWhile (· == x)).length=n:=by
 induction xs with
 |nil =>
  intro n h1 h2
  cases n with
  |zero=>rfl
  |succ n=>have:=h1 0 (by omega); simp at this
 | cons a xs ih =>
  intro n h1 h2
  cases n with
  |zero =>
   have:=h2 a (by simp)
   rw[List.takeWhile_cons]
   simp[this]
  |succ n =>
   have h0:=h1 0 (by omega)
   simp at h0
   subst h0
   rw[List.takeWhile_cons]
   simp
   exact ih (fun j hj=>by have:=h1 (j+1) (by omega); simpa using this) fun y hy=>h2 y (by simpa using hy)
theorem runs_step {xs:List Int} {s i:Nat} (hs:s<i) (hl:s<xs.length) (hi:i≤xs.length) (hall:∀ j,s≤j→j<i→xs[j]? = some xs[s]) (hstop:∀ y,xs[i]? = some y→y≠xs[s]):packRuns (xs.drop s)=encVar (xs[s]+16*((i:Int)-(s:Int)))++packRuns (xs.drop i):=by
 rw[Gza hl,packRuns]
 have h1:((xs.drop (s+1)).takeWhile (· == xs[s])).length=i-(s+1):=tw_len (fun j hj=>by rw[Gq5]; exact hall _ (by omega) (by omega)) fun y hy=>by rw[Gq5,show s+1+(i-(s+1))=i by omega] at hy; exact hstop y hy
 rw[h1,Gxn,show s+1+(i-(s+1))=i by omega,show ((i-(s+1)+1:Nat):Int)=(i:Int)-s by omega]
theorem run_next {xs:List Int} {i j:Nat} {x:Int} (h:∀ q,i≤q→q<j→xs[q]? = some x) (hj:j<xs.length) (he:xs[j]=x):∀ q,i≤q→q<j+1→xs[q]? = some x:=fun q h1 h2=>by
 rcases Gqp q j with h3 | h3
 ·exact h q h1 h3
 ·have:q=j:=by omega
  subst this
  rw[Gqd hj,he]
def packTrack (xs:List Int):ByteArray:=if xs.length≤400∧inOk xs=true then bs (packRuns xs) else bs []
theorem packRuns_len (n:Nat):∀ xs:List Int,xs.length≤n→(packRuns xs).length≤6*n:=by
 induction n with
 |zero=>intro xs h; have:=List.eq_nil_of_length_eq_zero (by omega:xs.length=0); subst this; simp[packRuns]
 | succ n ih =>
  intro xs h
  cases xs with
  |nil=>simp[packRuns]
  |cons x r =>
   rw[packRuns,Gqe]
   have h1:=Zd (x+16*((r.takeWhile (· == x)).length+1:Nat))
   have h2:=ih (r.drop (r.takeWhile (· == x)).length) (by simp at h ⊢; omega)
   omega
theorem Z5 (xs:List Int):(packTrack xs).size≤2400:=by
 unfold packTrack
 split
 ·rename_i h
  rw[Ys]
  have:=packRuns_len 400 xs h.1
  omega
 ·rw[Ys]; simp
theorem inOk_at {xs:List Int} (h:inOk xs=true) {k:Nat} (hk:k<xs.length):0≤xs[k]∧xs[k]≤15:=Zn.1 (Gqk.1 h _ (Gql hk))

theorem I_PackTrack (xs:List Int) (hn:Enc.gd xs):Con Tryz.prog 149 [] [al xs] [] (S (packTrack xs)):=by
 have hlx:=Y9 xs
 refine Con.of Tryz.func149 J Tryz.ntmps149 J (fun E => ?_)
 refine Wz [94,21,248,89] ?_;refine zx (Uk J (.hit .stop) (fun hgrd=>Qj J J (I_inputsOk xs hn) J)) J ?_;refine Wz [249,110] ?_
 refine Xb J (fun h => ?_) (fun h => ?_)
 ·rw[hlx] at h
  refine Wz [1,31] ?_
  exact Xo rfl rfl (Gr [] rfl rfl (S_eq (by rw[packTrack,if_neg (by simp only[Gqs,decide_eq_true_eq,Gq9] at h; rintro⟨h1,h2⟩; rcases h with h | h <;> first | omega | simp[h2] at h)])))
 rw[hlx] at h
 have h:xs.length≤400∧inOk xs=true:=by
  simp only[Gqv,decide_eq_false_iff_not,Gxr] at h
  exact⟨by omega,h.2⟩
 rw[packTrack,if_pos h]
 refine Wz [54,36,12,63] ?_
 refine AWP.pre ?_ (W_nil 3 1 J)
 refine Xi (fun m__ st=>∃ (i:Nat) (acc:List UInt8),xs.length-i=m__∧(acc++packRuns (xs.drop i)=packRuns xs∧i≤xs.length∧acc.length≤6*i)∧st=(⟨_,[(0,L xs),(3,.o (.c (.ref 0))),(4,I i)],[.row 1 (bE acc)]⟩:St)) _ ⟨_,⟨0,[],J,by simp,J⟩,Gs [0]⟩ ?_
 rintro m_A _ ⟨i,acc,hk_A,hp_A,rfl⟩
 refine Wz [24,21,119] ?_
 refine Xb J (fun h5 => ?_) (fun h5 => ?_)
 ·have h5:i<xs.length:=by have:=Gqi h5; omega
  obtain⟨hp1,hp2,hp3⟩:=hp_A
  have hb:=Ym acc
  have hat:=Y7 h5
  have hx:=inOk_at h.2 h5
  refine Wz [124,10,23,33] ?_;refine Xi (fun m__ st=>∃ (j:Nat),xs.length-j=m__∧(i≤j∧j≤xs.length∧(∀ q,i≤q→q<j→xs[q]? = some xs[i]))∧st=(⟨_,[(0,L xs),(3,.o (.c (.ref 0))),(4,I j),(5,I i)],[.row 1 (bE acc)]⟩:St)) _ ⟨_,⟨i,J,⟨Gqf _,by omega,fun q h1 h2=>by omega⟩,J⟩,Gs [0]⟩ ?_
  rintro m_D _ ⟨j,hk_D,hp_D,rfl⟩
  obtain⟨hd1,hd2,hd3⟩:=hp_D
  have hij:i<j→xs.length-j<xs.length-i:=fun h=>by omega
  by_cases hj:j<xs.length
  ·have hat2:=Y7 hj
   have f1:decide ((j:Int)<((els xs).length:Int))=true:=Gqb (by omega)
   by_cases he:xs[j]=xs[i]
   ·have f2:decide (xs[j]=xs[i])=true:=Gqb he
    refine Wz [12,12,289,29,197,222,4,47,47,202,203,47,47,202,203,223,112,17,15,124,22,35,127] ?_
    refine⟨_,(by omega),_,⟨j+1,J,⟨by omega,by omega,fun q h1 h2=>run_next hd3 hj he q h1 h2⟩,J⟩,Gs [0]⟩
   ·have f2:decide (xs[j]=xs[i])=false:=Gqa he
    have hlt:i<j:=by
     rcases Gqp i j with h1 | h1
     ·exact h1
     ·exact absurd (by congr 1 <;> omega) he
    have hst:=runs_step hlt h5 hd2 hd3 (fun y hy=>by rw[Gqd hj] at hy; cases hy; exact he)
    have hb2:=Ys (encVar (xs[i]+16*((j:Int)-(i:Int))))
    have hb3:=Zd (xs[i]+16*((j:Int)-(i:Int)))
    refine Wz [12,12,289,29,197,222,4,47,47,202,203,47,47,202,203,223,112,17,61,22,144,49,144,71,67,35] ?_;refine zx (Qj J J (Xs (xs[i]+16*((j:Int)-(i:Int)))) J) J ?_;refine Wz [221,127] ?_
    refine⟨_,(by omega),_,⟨j,acc++encVar (xs[i]+16*((j:Int)-(i:Int))),J,⟨by rw[←hp1,hst,Gqn],hd2,by rw[Gqe]; omega⟩,J⟩,(by rw[Yr,Yl]; exact Gs [0])⟩
  ·have f1:decide ((j:Int)<((els xs).length:Int))=false:=Gqa (by omega)
   have hst:=runs_step (show i<j by omega) h5 hd2 hd3 (fun y hy=>by rw[List.getElem?_eq_none (by omega)] at hy; cases hy)
   have hb2:=Ys (encVar (xs[i]+16*((j:Int)-(i:Int))))
   have hb3:=Zd (xs[i]+16*((j:Int)-(i:Int)))
   refine Wz [12,12,289,29,197,222,4,80,80,188,101,17,61,22,144,49,144,71,67,35] ?_;refine zx (Qj J J (Xs (xs[i]+16*((j:Int)-(i:Int)))) J) J ?_;refine Wz [221,127] ?_
   refine⟨_,(by omega),_,⟨j,acc++encVar (xs[i]+16*((j:Int)-(i:Int))),J,⟨by rw[←hp1,hst,Gqn],hd2,by rw[Gqe]; omega⟩,J⟩,(by rw[Yr,Yl]; exact Gs [0])⟩
 ·have h5:i=xs.length:=by have:=Gqj h5; omega
  refine Wz [40,10,194,19] ?_
  exact Gq J (Gr [] J J (S_eq (congrArg bs (by rw[←hp_A.1,h5]; simp[packRuns]))))
end
section
open Go.RowKit

def colM (rows:List (List Int)) (p:Nat):List Int:=rows.map fun r=>r.getD p 0
def colsB (rows:List (List Int)):Nat→ByteArray
 |0=>bs []
 |p+1=>colsB rows p++packText (packTrack (colM rows p))
theorem colsB_size (rows:List (List Int)):∀ p,(colsB rows p).size≤2406*p
 |0=>by simp[colsB,Ys]
 |p+1=>by
  rw[colsB,Yy]
  have h1:=colsB_size rows p
  have h2:=Z4 (packTrack (colM rows p))
  have h3:=Z5 (colM rows p)
  omega
theorem Y0 (rows:List (List Int)) (p:Nat):(colM rows p).length=rows.length:=by simp[colM]
theorem colM_gd {rows:List (List Int)} (hg:Enc.gd rows) (p:Nat):Enc.gd (colM rows p):=by
 refine⟨by rw[Y0]; exact hg.1,fun x hx => ?_⟩
 obtain⟨r,h1,rfl⟩:=Gqr.1 hx
 rw[Gqc]
 cases h:r[p]? with
 |none=>exact⟨by decide,by decide⟩
 |some y=>exact (hg.2 r h1).2 y (Gqu h)
theorem colM_next {rows:List (List Int)} {p k:Nat} (hk:k<rows.length) (hp:p<rows[k].length):els (colM (rows.take k) p) ++ [[.v (.int .i64 rows[k][p])]]=els (colM (rows.take (k+1)) p):=by
 have h1:rows[k].getD p 0=rows[k][p]:=by simp[Gqc,hp]
 rw[Gxd hk]
 unfold colM els
 rw[List.map_append,List.map_append,List.map_cons,List.map_nil,List.map_cons,List.map_nil,h1]
 rfl
theorem I_packColumns (rows:List (List Int)) (p:Nat) (hg:Enc.gd rows) (hL:rows.length≤400) (hp4:p≤4) (hall:∀ r∈rows,r.length=p):Con Tryz.prog 67 [] [al rows,ai p] [] (S (colsB rows p)):=by
 have hlx:=Y9 rows
 refine Con.of Tryz.func67 J Tryz.ntmps67 J (fun E => ?_)
 refine Wz [36,36,12,63] ?_;refine Xi (fun m st=>∃ q:Nat,q+m=p∧(True)∧st=(⟨_,[(0,L rows),(1,I p),(5,S (colsB rows q)),(6,I q)],[]⟩:St)) (p) ⟨_,⟨0,by omega,trivial,J⟩,Gs []⟩ ?_
 rintro m_A _ ⟨q,hk_A,hp_A,rfl⟩
 refine Wz [24,119] ?_
 refine Xb J (fun h => ?_) (fun h => ?_)
 ·have hq:q<p:=by have:=Gqi h; omega
  refine Wz [26,94,21,131,33] ?_
  refine AWP.pre ?_ (W_nil 7 1 J)
  skip
  refine Xi (fun m st=>∃ k:Nat,k+m=rows.length∧(True)∧st=(⟨_,[(0,L rows),(1,I p),(5,S (colsB rows q)),(6,I q),(7,.o (.c (.ref 0))),(15,L rows),(16,I (els rows).length),(17,I k)],[.row 1 (els (colM (rows.take k) q))]⟩:St)) (rows.length) ⟨_,⟨0,by omega,trivial,J⟩,Gs [0]⟩ ?_
  rintro m_D _ ⟨k,hk_D,hp_D,rfl⟩
  refine Wz [1,100,39] ?_
  refine Xb J (fun h => ?_) (fun h => ?_)
  ·have h3:k<rows.length:=by have:=Gqi h; omega
   have hat:=Y7 h3
   have hp:=hall _ (Gql h3)
   have hat2:=Y7 (show q<rows[k].length by omega)
   have hlc:(els (colM (rows.take k) q)).length=k:=by rw[Y9,Y0]; simp; omega
   refine Wz [26,1,49,11,22,144,49,45,148,127,64] ?_
   exact⟨rows.length-(k+1),by omega,(fun k:Nat=>(⟨_,[(0,L rows),(1,I p),(5,S (colsB rows q)),(6,I q),(7,.o (.c (.ref 0))),(15,L rows),(16,I (els rows).length),(17,I k)],[.row 1 (els (colM (rows.take k) q))]⟩:St)) (k+1),⟨k+1,by omega,trivial,J⟩,Yg [0] (by decide) J (K7 (colM_next h3 (by omega)).symm) (.c J (.c J (.c J (.c J (.c J (.c J (.c J (.c J (.nil)))))))))⟩
  ·have h3:¬((k:Int)<(els rows).length):=Gqj h
   have hk:rows.take k=rows:=Gxk (by omega)
   have hs1:=colsB_size rows q
   have hs2:=Z5 (colM rows q)
   have hs3:=Z4 (packTrack (colM rows q))
   rw[hk]
   refine Wz [40,22,0] ?_;refine zx (Qj J J (I_PackTrack (colM rows q) (colM_gd hg q)) J) J ?_;refine zx (Qj J J (Xu (packTrack (colM rows q)) (by omega)) J) J ?_;refine Wz [210,105] ?_
   exact⟨p-(q+1),by omega,_,⟨q+1,by omega,trivial,J⟩,Gs []⟩
 ·have hq:q=p:=by have:=Gqj h; omega
  refine Wz [40,10,19] ?_
  exact Gq J (Gr [] J J (S_eq (by rw[hq])))

theorem app_nil (s:ByteArray):s++bs []=s:=by
 apply ByteArray.ext
 rw[Gxo]
 simp[bs]
end
section
open Go.RowKit

abbrev Seen:=Bool×Bool×Bool×Bool
def tileM (e:Bool) (t:Int) (s:Seen×Bool):Option (Seen×Bool) :=
 if t=35 then some s else if e then none else
 if t=49 then (if s.1.1 then none else some ((true,s.1.2),true)) else
 if t=50 then (if s.1.2.1 then none else some ((s.1.1,true,s.1.2.2),true)) else
 if t=51 then (if s.1.2.2.1 then none else some ((s.1.1,s.1.2.1,true,s.1.2.2.2),true)) else
 if t=52 then (if s.1.2.2.2 then none else some ((s.1.1,s.1.2.1,s.1.2.2.1,true),true)) else
 if t=111∨t=46 then some (s.1,true) else none
def colsM (row:ByteArray) (er:Bool) (w:Nat) (s:Seen×Bool):Nat→Option (Seen×Bool)
 |0=>some s
 |c+1=>match colsM row er w s c with
  |none=>none
  |some s'=>tileM (er || decide (c=0) || decide (c+1=w)) (byteAt row c) s'
def rowsM (rows:List ByteArray) (w:Nat):Nat→Option (Seen×Bool)
 |0=>some ((false,false,false,false),false)
 | r+1=>match rowsM rows w r with
  |none=>none
  |some s=>match rows[r]? with
   |none=>none
   |some row=>if row.size=w then colsM row (decide (r=0) || decide (r+1=rows.length)) w s w else none
def widthM (rows:List ByteArray):Nat:=match rows[0]? with
 |some row=>row.size
 |none=>0
def levelOk (l:TLevel):Bool:=decide (3≤l.Rows.length)&&decide (l.Rows.length≤12)&&decide (4≤widthM l.Rows)&&decide (widthM l.Rows≤20)&&match rowsM l.Rows (widthM l.Rows) l.Rows.length with
 |some s=>s.2
 |none=>false

@[reducible] def vb (b:Bool):V1 := .rd [] (.v (.bool b))
section
variable {rows:List ByteArray} {row:ByteArray} {w k c:Nat} {s s':Seen×Bool} {er:Bool}
theorem rows_none {n:Nat} (h:rowsM rows w k=none) (hk:k≤n):rowsM rows w n=none:=by
 induction n with
 | zero => have:k=0:=by omega
           subst this; exact h
 | succ n ih =>
  rcases Gqp n k with h1 | h1
  ·have:k=n+1:=by omega
   subst this; exact h
  ·simp[rowsM,ih h1]
theorem cols_none {n:Nat} (h:colsM row er w s c=none) (hc:c≤n):colsM row er w s n=none:=by
 induction n with
 | zero => have:c=0:=by omega
           subst this; exact h
 | succ n ih =>
  rcases Gqp n c with h1 | h1
  ·have:c=n+1:=by omega
   subst this; exact h
  ·simp[colsM,ih h1]
theorem rows_next (h:rowsM rows w k=some s) (hk:k<rows.length) (hw:rows[k].size=w):rowsM rows w (k+1)=colsM rows[k] (decide (k=0) || decide (k+1=rows.length)) w s w:=by
 rw[rowsM,h]
 simp[Gqd hk,hw]
theorem rows_bad (hk:k<rows.length) (hw:rows[k].size≠w):rowsM rows w (k+1)=none:=by
 rw[rowsM]
 cases rowsM rows w k with
 |none=>rfl
 |some s=>simp[Gqd hk,hw]
theorem cols_next (h:colsM row er w s c=some s'):colsM row er w s (c+1)=tileM (er || decide (c=0) || decide (c+1=w)) (byteAt row c) s':=by
 rw[colsM,h]
theorem level_no {l:TLevel} (hk:k<l.Rows.length) (hw:widthM l.Rows=w) (h:rowsM l.Rows w (k+1)=none):levelOk l=false:=by
 unfold levelOk
 rw[hw,rows_none h (by omega)]
 simp
theorem width_at (h:0<rows.length):widthM rows=rows[0].size:=by simp[widthM,Gqd h]
end
end
section
open Go.RowKit

theorem Xt (x:TLevel) (hg:Enc.gd x):Con Tryz.prog 117 [] [ag x] [] (B (levelOk x)):=by
 obtain⟨rows⟩:=x
 have hn:Enc.gd rows:=hg
 have hn1:=hn.1
 have hlx:=Y9 rows
 refine Con.of Tryz.func117 J Tryz.ntmps117 J (fun E => ?_)
 refine Wz [55,23,14,21,100,0,140,141,250,251,110] ?_
 refine Xb J (fun h => ?_) (fun h => ?_)
 ·simp only[Gqs,decide_eq_true_eq] at h
  refine Wz [1,31] ?_
  exact Gq J (Gr [] J J (Xj (by simp[levelOk]; omega)))
 simp only[Gqv,decide_eq_false_iff_not] at h
 have h0:0<rows.length:=by omega
 have hat0:(els rows)[(0:Int).toNat]? = some (Enc.e rows[0]):=Y7 h0
 have hw:=width_at h0
 refine Wz [54,14,49,143,52,100,89,220,110] ?_
 refine Xb J (fun h1 => ?_) (fun h1 => ?_)
 ·simp only[Gqs,decide_eq_true_eq] at h1
  refine Wz [1,31] ?_
  exact Gq J (Gr [] J J (Xj (by simp[levelOk]; omega)))
 simp only[Gqv,decide_eq_false_iff_not] at h1
 obtain⟨w,hw'⟩:∃ w,w=rows[0].size:=⟨_,rfl⟩
 rw[←hw'] at hw h1
 refine Wz [54,1,90,2,36,12,14,21,131,33] ?_;refine Xi (fun m st=>∃ (k:Nat) (s:Seen×Bool),k+m=rows.length∧(rowsM rows w k=some s)∧st=(⟨_,[(1,.o (.c (.ptr 0 0))),(3,I w),(4,.o (.c (.ptr 1 0))),(5,B s.2),(33,L rows),(34,I (els rows).length),(35,I k)],[.box [.rd [] (sl rows)],.box [vb false,vb s.1.1,vb s.1.2.1,vb s.1.2.2.1,vb s.1.2.2.2]]⟩:St)) (rows.length) ⟨(fun (k:Nat) (s:Seen×Bool)=>(⟨_,[(1,.o (.c (.ptr 0 0))),(3,I w),(4,.o (.c (.ptr 1 0))),(5,B s.2),(33,L rows),(34,I (els rows).length),(35,I k)],[.box [.rd [] (sl rows)],.box [vb false,vb s.1.1,vb s.1.2.1,vb s.1.2.2.1,vb s.1.2.2.2]]⟩:St)) 0 (((false,false,false,false),false)),⟨0,((false,false,false,false),false),by omega,J,J⟩,Gp [0,1] J (.c J (.cons (Xz (by omega)) (.c J (.c J (.c J (.c J (.c J (.nil))))))))⟩ ?_
 rintro m_A _ ⟨k,s,hk_A,hp_A,rfl⟩
 refine Wz [1,100,39] ?_
 refine Xb J (fun h => ?_) (fun h => ?_)
 ·have h3:k<rows.length:=by have:=Gqi h; omega
  have hat:=Y7 h3
  have hgk:rows[k].size≤9223372036854775807:=hn.2 _ (Gql h3)
  refine Wz [77,49,34,52,143,0,149,2] ?_
  refine Xb J (fun h4 => ?_) (fun h4 => ?_)
  ·have h4:¬rows[k].size=w:=by have:=Gqi h4; omega
   refine Wz [1,85,53] ?_
   exact Gq J (Gr [] J J (Xj (level_no (l:=⟨rows⟩) h3 hw (rows_bad h3 h4)).symm))
  have h4:rows[k].size=w:=by have:=Gqj h4; omega
  have hrn:=rows_next hp_A h3 h4
  obtain⟨er,her⟩:∃ er,er=(decide (k=0) || decide (k+1=rows.length)):=⟨_,rfl⟩
  rw[←her] at hrn
  refine Wz [54,63] ?_;refine Xi (fun m st=>∃ (c:Nat) (u:Seen×Bool),c+m=w∧(colsM rows[k] er w s c=some u)∧st=(⟨_,[(1,.o (.c (.ptr 0 0))),(3,I w),(4,.o (.c (.ptr 1 0))),(5,B u.2),(6,I k),(7,S rows[k]),(8,I c),(33,L rows),(34,I (els rows).length),(35,I k)],[.box [.rd [] (sl rows)],.box [vb false,vb u.1.1,vb u.1.2.1,vb u.1.2.2.1,vb u.1.2.2.2]]⟩:St)) (w) ⟨_,⟨0,s,by omega,J,J⟩,Gs [0,1]⟩ ?_
  rintro m_D _ ⟨c,u,hk_D,hp_D,rfl⟩
  refine Wz [24,119] ?_
  refine Xb J (fun h5 => ?_) (fun h5 => ?_)
  ·have h5:c<w:=by have:=Gqi h5; omega
   have hcn:=cols_next hp_D
   obtain⟨t,ht⟩:∃ t,byteAt rows[k] (c:Int).toNat=t:=⟨_,rfl⟩
   rw[show byteAt rows[k] c=t from ht] at hcn
   have htb:0≤t∧t≤255:=ht▸Yu _ _
   obtain⟨⟨sa,sb,sc,sd⟩,so⟩:=u
   obtain⟨e,he⟩:∃ e,e=(er || decide (c=0) || decide (c+1=w)):=⟨_,rfl⟩
   rw[←he] at hcn
   refine Wz [123,139,32,186,89,230,231,232,290] ?_;refine zx (Uk J (.hit (.hit (.hit (.hit (.hit .stop))))) (fun hgrd=>Kj J J J J)) J ?_;refine Wz [120,89] ?_;refine zx (Uk J (.hit .stop) (fun hgrd=>Kj J J J J)) J ?_;refine Wz [120,89,252] ?_;refine zx (Uk J (.hit (.hit .stop)) (fun hgrd=>Xc J J J J (by omega))) J ?_;refine zx (Uk J (.hit (.hit (.hit .stop))) (fun hgrd=>Kj J J J J)) J ?_;refine Wz [120,52,0,154,267,84,2] ?_
   have hee:(decide ((k:Int)=0) || decide ((k:Int)=((els rows).length:Int)-1) || decide ((c:Int)=0) || decide ((c:Int)=(w:Int)-1))=e:=by
    rw[he,her,hlx]
    have g1:decide ((k:Int)=0)=decide (k=0):=by simp
    have g2:decide ((k:Int)=(rows.length:Int)-1)=decide (k+1=rows.length):=decide_eq_decide.2 (by omega)
    have g3:decide ((c:Int)=0)=decide (c=0):=by simp
    have g4:decide ((c:Int)=(w:Int)-1)=decide (c+1=w):=decide_eq_decide.2 (by omega)
    rw[g1,g2,g3,g4]
   clear he her
   have hbad:colsM rows[k] er w s (c+1)=none→levelOk ⟨rows⟩=false:=fun hc=>level_no (l:=⟨rows⟩) h3 hw (hrn.trans (cols_none hc (by omega)))
   refine Xb J (fun h6 => ?_) (fun h6 => ?_)
   ·rw[hee] at h6
    simp only[Gqg,decide_eq_true_eq] at h6
    refine Wz [1,85,142,133,53] ?_
    exact Gq J (Gr [] J J (Xj (hbad (hcn.trans (by simp[tileM,h6]))).symm))
   rw[hee] at h6
   have h7:t=35∨e=false:=by
    simp only[Gxu,decide_eq_false_iff_not,Classical.not_not] at h6
    exact h6.symm
   clear h6 hee
   refine AWP.pre (st':=(⟨_,[(1,.o (.c (.ptr 0 0))),(3,I w),(4,.o (.c (.ptr 1 0))),(5,B so),(6,I k),(7,S rows[k]),(8,I c),(9,VI .u8 t),(33,L rows),(34,I (els rows).length),(35,I k)],[.box [.rd [] (sl rows)],.box [vb false,vb sa,vb sb,vb sc,vb sd]]⟩:St)) ?_ (Gs [0,1])
   rcases h7 with rfl | h7
   ·refine Wz [77] ?_
    refine Wz [291,91,7,92,10,198,91,7,91,7,92,158,10,198,62,43] ?_
    exact⟨w-(c+1),by omega,_,⟨c+1,((sa,sb,sc,sd),so),by omega,hcn.trans (by simp[tileM]),J⟩,Gs [0,1]⟩
   subst h7
   rcases (by omega:t=35∨t=49∨t=50∨t=51∨t=52∨t=111∨t=46∨(t≠35∧t≠49∧t≠50∧t≠51∧t≠52∧t≠111∧t≠46)) with rfl | rfl | rfl | rfl | rfl | rfl | rfl | ht7
   ·refine Wz [77] ?_
    refine Wz [291,91,7,92,10,198,91,7,91,7,92,158,10,198,62,43] ?_
    exact⟨w-(c+1),by omega,_,⟨c+1,((sa,sb,sc,sd),so),by omega,hcn.trans (by simp[tileM]),J⟩,Gs [0,1]⟩
   ·refine Wz [77] ?_
    refine Wz [199,8,212,9,11,65,25,171,213,160,2] ?_
    refine Xb J (fun h8 => ?_) (fun h8 => ?_)
    ·have h8:sa=true:=h8
     subst h8
     refine Wz [1,85,134,142,133,53] ?_
     exact Gq J (Gr [] J J (Xj (hbad (hcn.trans (by simp[tileM]))).symm))
    ·have h8:sa=false:=h8
     subst h8
     refine Wz [54,22,171,213,180,74,10,161,15,128,105] ?_
     exact⟨w-(c+1),by omega,_,⟨c+1,((true,sb,sc,sd),true),by omega,hcn.trans (by simp[tileM]),J⟩,Gs [0,1]⟩
   ·refine Wz [77] ?_
    refine Wz [199,8,212,9,11,65,25,171,213,160,2] ?_
    refine Xb J (fun h8 => ?_) (fun h8 => ?_)
    ·have h8:sb=true:=h8
     subst h8
     refine Wz [1,85,134,142,133,53] ?_
     exact Gq J (Gr [] J J (Xj (hbad (hcn.trans (by simp[tileM]))).symm))
    ·have h8:sb=false:=h8
     subst h8
     refine Wz [54,22,171,213,180,74,10,161,15,128,105] ?_
     exact⟨w-(c+1),by omega,_,⟨c+1,((sa,true,sc,sd),true),by omega,hcn.trans (by simp[tileM]),J⟩,Gs [0,1]⟩
   ·refine Wz [77] ?_
    refine Wz [199,8,212,9,11,65,25,171,213,160,2] ?_
    refine Xb J (fun h8 => ?_) (fun h8 => ?_)
    ·have h8:sc=true:=h8
     subst h8
     refine Wz [1,85,134,142,133,53] ?_
     exact Gq J (Gr [] J J (Xj (hbad (hcn.trans (by simp[tileM]))).symm))
    ·have h8:sc=false:=h8
     subst h8
     refine Wz [54,22,171,213,180,74,10,161,15,128,105] ?_
     exact⟨w-(c+1),by omega,_,⟨c+1,((sa,sb,true,sd),true),by omega,hcn.trans (by simp[tileM]),J⟩,Gs [0,1]⟩
   ·refine Wz [77] ?_
    refine Wz [199,8,212,9,11,65,25,171,213,160,2] ?_
    refine Xb J (fun h8 => ?_) (fun h8 => ?_)
    ·have h8:sd=true:=h8
     subst h8
     refine Wz [1,85,134,142,133,53] ?_
     exact Gq J (Gr [] J J (Xj (hbad (hcn.trans (by simp[tileM]))).symm))
    ·have h8:sd=false:=h8
     subst h8
     refine Wz [54,22,171,213,180,74,10,161,15,128,105] ?_
     exact⟨w-(c+1),by omega,_,⟨c+1,((sa,sb,sc,true),true),by omega,hcn.trans (by simp[tileM]),J⟩,Gs [0,1]⟩
   ·refine Wz [77] ?_
    refine Wz [199,8] ?_;refine zx (Ks (b:=false) J J J J (by decide)) J ?_;refine Wz [9,92,10,161,8,198,9,91,7,92,158,10,161,15,128,105] ?_
    exact⟨w-(c+1),by omega,_,⟨c+1,((sa,sb,sc,sd),true),by omega,hcn.trans (by simp[tileM]),J⟩,Gs [0,1]⟩
   ·refine Wz [77] ?_
    refine Wz [291,91,7,92,10,161,8,161,9,8,198,9,92,158,10,161,15,128,105] ?_
    exact⟨w-(c+1),by omega,_,⟨c+1,((sa,sb,sc,sd),true),by omega,hcn.trans (by simp[tileM]),J⟩,Gs [0,1]⟩
   ·refine Wz [77,209] ?_
    refine Wz [0,154] ?_;refine zx (Qt.grdT J J J (.hit .stop) (fun hgrd=>q_leq J J J J)) J ?_;refine Wz [84,11] ?_
    refine Xb J (fun h8 => ?_) (fun h8 => ?_)
    ·simp only[Gqg,decide_eq_true_eq] at h8
     omega
    refine Wz [10,149,0,154,267,84,0,154,267,84,11] ?_
    refine Xb J (fun h9 => ?_) (fun h9 => ?_)
    ·refine Wz [1,88,134,211] ?_
     refine Wz [134,133,53] ?_
     exact Gq J (Gr [] J J (Xj (hbad (hcn.trans (by simp[tileM,ht7]))).symm))
    ·simp only[Gxu,decide_eq_false_iff_not,Classical.not_not] at h9
     omega
  ·have h5:c=w:=by have:=Gqj h5; omega
   rw[h5] at hp_D
   rw[hp_D] at hrn
   refine Wz [162,163,204,64] ?_
   exact⟨rows.length-(k+1),by omega,_,⟨k+1,u,by omega,hrn,J⟩,Gs [0,1]⟩
 ·have h3:¬((k:Int)<(els rows).length):=Gqj h
  have hk:k=rows.length:=by omega
  subst hk
  refine Wz [40,10,19] ?_
  exact Gq J (Gr [] J J (Xj (by
   unfold levelOk
   rw[hw,hp_A]
   have:3≤rows.length∧rows.length≤12∧4≤w∧w≤20:=by omega
   simp[this])))
end
end Go.Proofs.YtpmacgnmlmmojaaGreatDoor
