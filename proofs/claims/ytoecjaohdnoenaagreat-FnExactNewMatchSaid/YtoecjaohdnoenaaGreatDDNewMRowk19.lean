/-
  Rules, data and contracts of functions: part 20 of the proof.
  Conditions: those that each theorem names.
-/
import Derived.Test.YtoecjaohdnoenaaGreatDDNewMRowk18
set_option linter.unusedSimpArgs false
set_option linter.unusedVariables false
set_option maxRecDepth 8000
set_option maxHeartbeats 8000000
namespace Go.Proofs.YtoecjaohdnoenaaGreat
section
open Go.RowKit

def varN (n:Nat):List UInt8:=if n<128 then [UInt8.ofNat n] else UInt8.ofNat (n%128+128)::varN (n/128)
termination_by n
decreasing_by omega
def encVar (n:Int):List UInt8:=if 0≤n∧n≤1099511627775 then varN n.toNat else []
theorem varN_small {n:Nat} (h:n<128):varN n = [UInt8.ofNat n]:=by rw[varN,if_pos h]
theorem varN_big {n:Nat} (h:¬n<128):varN n=UInt8.ofNat (n%128+128)::varN (n/128):=by rw[varN,if_neg h]
theorem varN_step {acc:List UInt8} {m:Nat} {l:List UInt8} (h:acc++varN m=l) (hm:¬m<128) {x:UInt8} (hx:x=UInt8.ofNat (m%128+128)):(acc ++ [x])++varN (m/128)=l:=by
 rw[←h,varN_big hm,hx]; simp
theorem varN_end {acc:List UInt8} {m:Nat} {l:List UInt8} (h:acc++varN m=l) (hm:m<128) {x:UInt8} (hx:x=UInt8.ofNat m):acc ++ [x]=l:=by
 rw[←h,varN_small hm,hx]

theorem I_EncodeVarint (n:Int):Con Tryz.prog 274 [] [ai n] [] (S (bs (encVar n))):=by
 refine Con.of Tryz.func274 J Tryz.ntmps274 J (fun E => ?_)
 refine Wz [129,152,0,70,191,25] ?_
 refine Q8 J (fun h => ?_) (fun h => ?_)
 ·simp only[Gqo,decide_eq_true_eq] at h
  refine Wz [35] ?_
  exact Xi J J (Xt [] (by decide) J J (S_eq (by rw[encVar,if_neg (by omega)])))
 simp only[Gql,decide_eq_false_iff_not] at h
 have he:encVar n=varN n.toNat:=by rw[encVar,if_pos (by omega)]
 rw[he]
 refine Wz [11,33,16,50] ?_
 refine AWP.pre ?_ (W_nil 3 1 J)
 refine Xe (fun m__ st=>∃ (m:Nat) (acc:List UInt8),m=m__∧(acc++varN m=varN n.toNat∧acc.length+m≤1099511627775)∧st=(⟨_,[(0,I m),(3,.o (.c (.ref 0)))],[.row 1 (bE acc)]⟩:St)) _ ⟨(fun (m:Nat) (acc:List UInt8)=>(⟨_,[(0,I m),(3,.o (.c (.ref 0)))],[.row 1 (bE acc)]⟩:St)) (n.toNat) ([]),⟨n.toNat,[],J,⟨J,by simp <;> omega⟩,J⟩,Xw [0] (by decide) J (by kernel_rfl) (.cons (Xl (by omega)) (.c J (.nil)))⟩ ?_
 rintro m_A _ ⟨m,acc,hk_A,hp_A,rfl⟩
 refine Wz [111,190,2] ?_
 refine Q8 J (fun h5 => ?_) (fun h5 => ?_)
 ·have h5:¬m<128:=by have:=Gqc h5; omega
  have hl:=X1 acc
  refine Wz [11,50,10,161,14,166,107,201,3,75,162,96,134,60] ?_
  refine⟨_,(by omega),(fun (m:Nat) (acc:List UInt8)=>(⟨_,[(0,I m),(3,.o (.c (.ref 0)))],[.row 1 (bE acc)]⟩:St)) (m/128) (acc ++ [UInt8.ofNat ((m:Int)%128+128).toNat]),⟨m/128,acc ++ [UInt8.ofNat ((m:Int)%128+128).toNat],J,⟨varN_step hp_A.1 h5 (by congr 1 <;> omega),by have:=hp_A.2; simp <;> omega⟩,J⟩,Xw [0] (by decide) J (Zy (bE_snoc _ _ (by omega)).symm) (.cons (Xl (by omega)) (.c J (.nil)))⟩
 ·have h5:m<128:=by have:=Gqg h5; omega
  have hl:=X1 acc
  have hb:=hp_A.2
  refine Wz [68,10,166,107,201,3,4,244,46] ?_
  exact Xi J J (Xt [] (by decide) J J (S_eq (congrArg bs (varN_end hp_A.1 h5 (by congr 1)))))
theorem S_EncodeVarint (n:Int):Con Tryz.prog 267 [] [ai n] [] (S (bs (encVar n))):=by
 refine Con.of Tryz.func267 J Tryz.ntmps267 J (fun E => ?_)
 refine Wz [129] ?_;refine zx (Qj J J (Xs n 0 1099511627775) J) J ?_;refine Wz [5,2] ?_
 refine Q8 J (fun h => ?_) (fun h => ?_)
 ·have h:¬(0≤n∧n≤1099511627775):=by rw[←Yk]; simpa using h
  refine Wz [35] ?_
  exact Xi J J (Xt [] (by decide) J J (S_eq (by rw[encVar,if_neg h])))
 have h:0≤n∧n≤1099511627775:=by rw[←Yk]; simpa using h
 have he:encVar n=varN n.toNat:=by rw[encVar,if_pos h]
 rw[he]
 refine Wz [11,7,202,3,16,50] ?_
 refine Xe (fun m__ st=>∃ (m:Nat) (acc:List UInt8),m=m__∧(acc++varN m=varN n.toNat∧acc.length+m≤1099511627775)∧st=(⟨_,[(0,I m),(3,.o (.c (.ref 0)))],[.row 1 (bE acc)]⟩:St)) _ ⟨(fun (m:Nat) (acc:List UInt8)=>(⟨_,[(0,I m),(3,.o (.c (.ref 0)))],[.row 1 (bE acc)]⟩:St)) (n.toNat) ([]),⟨n.toNat,[],J,⟨J,by simp <;> omega⟩,J⟩,Xw [0] (by decide) J (by kernel_rfl) (.cons (Xl (by omega)) (.c J (.nil)))⟩ ?_
 rintro m_A _ ⟨m,acc,hk_A,hp_A,rfl⟩
 refine Wz [111,212,2] ?_
 refine Q8 J (fun h5 => ?_) (fun h5 => ?_)
 ·have h5:¬m<128:=by have:=Gqc h5; omega
  have hl:=X1 acc
  have hb:=hp_A.2
  have hb1:(m:Int).toNat &&& (127:Int).toNat=m%128:=Nat.and_two_pow_sub_one_eq_mod m 7
  have hb2:((m%128:Nat):Int).toNat ||| (128:Int).toNat=m%128+128:=by
   have:=Nat.two_pow_add_eq_or_of_lt (i:=7) (b:=m%128) (by omega) 1
   rw[Nat.or_comm]
   show 128 ||| m%128=_
   rw[←this]; omega
  have hb3:(m:Int)/2 ^ (7:Int).toNat=(m/128:Nat):=by
   show (m:Int)/128=_
   omega
  refine Wz [11,50,10] ?_;refine zx (q_bandK J J J J (by assumption) (by omega)) J (zx (q_borK J J J J (by assumption) (by omega)) J ?_);refine Wz [166,107,201,3,75] ?_;refine zx (q_shrK J J J J (by assumption) ⟨by omega,by omega,by decide⟩) J ?_;refine Wz [96,134,60] ?_
  refine⟨_,(by omega),(fun (m:Nat) (acc:List UInt8)=>(⟨_,[(0,I m),(3,.o (.c (.ref 0)))],[.row 1 (bE acc)]⟩:St)) (m/128) (acc ++ [UInt8.ofNat ((m%128+128:Nat):Int).toNat]),⟨m/128,acc ++ [UInt8.ofNat ((m%128+128:Nat):Int).toNat],J,⟨varN_step hp_A.1 h5 (by congr 1),by simp <;> omega⟩,J⟩,Xw [0] (by decide) J (Zy (bE_snoc _ _ (by omega)).symm) (.c J (.c J (.nil)))⟩
 ·have h5:m<128:=by have:=Gqg h5; omega
  have hl:=X1 acc
  have hb:=hp_A.2
  refine Wz [68,10,166,107,201,244,46] ?_
  exact Xi J J (Xt [] (by decide) J J (S_eq (congrArg bs (varN_end hp_A.1 h5 (by congr 1)))))

theorem varN_pow:∀ (j n:Nat),n<128 ^ (j+1)→(varN n).length≤j+1
 |0,n,h=>by rw[varN_small (by omega)]; simp
 | j+1,n,h=>by
  by_cases hn:n<128
  ·rw[varN_small hn]; simp
  ·rw[varN_big hn,Gq7]
   have:=varN_pow j (n/128) (by rw[Nat.pow_succ] at h; omega)
   omega
theorem Ya (n:Int):(encVar n).length≤6:=by
 unfold encVar
 split
 ·exact varN_pow 5 _ (by omega)
 ·simp
def signless (n:Int):Int:=if -549755813888≤n∧n≤549755813887 then (if 0≤n then 2*n else -2*n-1) else -1
theorem I_Signless (n:Int) (hn:I64 n):Con Tryz.prog 296 [] [ai n] [] (I (signless n)):=by
 obtain⟨hn1,hn2⟩:=hn
 refine Con.of Tryz.func296 J Tryz.ntmps296 J (fun E => ?_)
 refine Wz [129,152,0,70,191,25] ?_
 refine Q8 J (fun h => ?_) (fun h => ?_)
 ·simp only[Gqo,decide_eq_true_eq] at h
  refine Wz [35] ?_
  exact Xi J J (Xt [] (by decide) J J (Xl (by rw[signless,if_neg (by omega)])))
 simp only[Gql,decide_eq_false_iff_not] at h
 refine Wz [11,111,190,2] ?_
 refine Q8 J (fun h1 => ?_) (fun h1 => ?_)
 ·have h1:=Gqc h1
  refine Wz [4,114,109,47] ?_
  exact Xi J J (Xt [] (by decide) J J (Xl (by rw[signless,if_pos (by omega),if_pos (by omega)])))
 ·have h1:=Gqg h1
  refine Wz [11,4,114,97,46] ?_
  exact Xi J J (Xt [] (by decide) J J (Xl (by rw[signless,if_pos (by omega),if_neg (by omega)])))
theorem S_Signless (n:Int) (hn:I64 n):Con Tryz.prog 293 [] [ai n] [] (I (signless n)):=by
 obtain⟨hn1,hn2⟩:=hn
 refine Con.of Tryz.func293 J Tryz.ntmps293 J (fun E => ?_)
 refine Wz [129] ?_;refine zx (Qj J J (Xs n (-549755813888) 549755813887) J) J ?_;refine Wz [5,2] ?_
 refine Q8 J (fun h => ?_) (fun h => ?_)
 ·have h:¬(-549755813888≤n∧n≤549755813887):=by rw[←Yk]; simpa using h
  refine Wz [35] ?_
  exact Xi J J (Xt [] (by decide) J J (Xl (by rw[signless,if_neg (by omega)])))
 have h : -549755813888≤n∧n≤549755813887:=by rw[←Yk]; simpa using h
 refine Wz [11,111,190,2] ?_
 refine Q8 J (fun h1 => ?_) (fun h1 => ?_)
 ·have h1:=Gqc h1
  refine Wz [4,114,109,47] ?_
  exact Xi J J (Xt [] (by decide) J J (Xl (by rw[signless,if_pos (by omega),if_pos (by omega)])))
 ·have h1:=Gqg h1
  refine Wz [11,4,114,97,46] ?_
  exact Xi J J (Xt [] (by decide) J J (Xl (by rw[signless,if_pos (by omega),if_neg (by omega)])))
def packK (xs:List Int) (k:Nat):List UInt8:=encVar xs.length++(xs.take k).flatMap fun x=>encVar (signless x)
def packInts (xs:List Int):ByteArray:=if xs.all (fun x=>decide (0≤signless x)) then bs (packK xs xs.length) else bs []
theorem packK_succ {xs:List Int} {k:Nat} (h:k<xs.length):packK xs (k+1)=packK xs k++encVar (signless xs[k]):=by
 unfold packK
 rw[Gxm h,List.flatMap_append,Gq9]
 simp
theorem packK_len (xs:List Int):∀ k,k≤xs.length→(packK xs k).length≤6*k+6
 |0,_=>by simp[packK]; exact Ya _
 |k+1,h=>by
  rw[packK_succ (by omega),Gqu]
  have:=packK_len xs k (by omega)
  have:=Ya (signless xs[k])
  omega
theorem packInts_size (xs:List Int):(packInts xs).size≤6*xs.length+6:=by
 unfold packInts
 split
 ·rw[X3]; exact packK_len xs _ (Gqi _)
 ·rw[X3]; simp
theorem I_PackInts (xs:List Int) (hg:Enc.gd xs) (hL:xs.length≤1073741824):Con Tryz.prog 262 [] [al xs] [] (S (packInts xs)):=by
 have hlx:=X6 xs
 have h1:=X3 (encVar (els xs).length)
 have h2:=Ya (els xs).length
 refine Con.of Tryz.func262 J Tryz.ntmps262 J (fun E => ?_)
 refine Wz [33,4,21] ?_;refine zx (Qj J J (I_EncodeVarint (els xs).length) J) J ?_;refine M1 (q_strb J J J (by omega)) J J ?_;refine Wz [98,104,2,50] ?_
 refine Xe (fun m st=>∃ k:Nat,k+m=xs.length∧((xs.take k).all (fun x=>decide (0≤signless x))=true)∧st=(⟨_,[(3,.o (.c (.ref 0))),(11,L xs),(12,I (els xs).length),(13,I k)],[.row 1 (bE (packK xs k))]⟩:St)) (xs.length) ⟨(fun k:Nat=>(⟨_,[(3,.o (.c (.ref 0))),(11,L xs),(12,I (els xs).length),(13,I k)],[.row 1 (bE (packK xs k))]⟩:St)) 0,⟨0,by omega,by simp,J⟩,Xw [0] (by decide) J (Zy (by rw[bs_list,hlx]; simp[packK])) (.c J (.c J (.c J (.c J (.nil)))))⟩ ?_
 rintro m_A _ ⟨k,hk_A,hp_A,rfl⟩
 refine Wz [7,12,16] ?_
 refine Q8 J (fun h => ?_) (fun h => ?_)
 ·have h3:k<xs.length:=by have:=Gqc h; omega
  have hat:=X5 h3
  have hb1:=X1 (packK xs k)
  have hb2:=packK_len xs k (by omega)
  have hb3:=X3 (encVar (signless xs[k]))
  have hb4:=Ya (signless xs[k])
  refine Wz [9,7,84,3,4] ?_;refine zx (Qj J J (I_Signless xs[k] (hg.2 _ (Gqf h3))) J) J ?_;refine Wz [98,12] ?_
  refine Q8 J (fun h4 => ?_) (fun h4 => ?_)
  ·refine Wz [55,63,177,177] ?_
   refine Wz [153,47] ?_
   exact Xi J J (Xt [] (by decide) J J (S_eq (by rw[packInts,all_no h3 (by simpa using h4)]; rfl)))
  ·refine Wz [11,92] ?_
   refine zx (Qj J J (I_EncodeVarint (signless xs[k])) J) J ?_;refine M_appstr J J J J J J J (by omega) (by omega) ?_;refine Wz [96,134,60,100,14,0,2] ?_
   exact⟨xs.length-(k+1),by omega,_,⟨k+1,by omega,Xz hp_A h3 (by simpa using h4),J⟩,(by rw[bs_list,bE_app,packK_succ h3]; exact Xv [0] (by kernel_rfl))⟩
 ·have h3:¬((k:Int)<(els xs).length):=Gqg h
  have hk:k=xs.length:=by omega
  refine Wz [68,4,244,46] ?_
  exact Xi J J (Xt [] (by decide) J J (S_eq (by rw[packInts,Xy hp_A (by omega),hk]; rfl)))
theorem S_PackInts (xs:List Int) (hg:Enc.gd xs) (hL:xs.length≤1073741824):Con Tryz.prog 258 [] [al xs] [] (S (packInts xs)):=by
 have hlx:=X6 xs
 refine Con.of Tryz.func258 J Tryz.ntmps258 J (fun E => ?_)
 refine Wz [33,4,21] ?_;refine zx (Qj J J (S_EncodeVarint (els xs).length) J) J ?_;refine Wz [3,39] ?_
 refine Xe (fun m st=>∃ k:Nat,k+m=xs.length∧((xs.take k).all (fun x=>decide (0≤signless x))=true)∧st=(⟨_,[(0,L xs),(3,S (bs (packK xs k))),(4,I k)],[]⟩:St)) (xs.length) ⟨(fun k:Nat=>(⟨_,[(0,L xs),(3,S (bs (packK xs k))),(4,I k)],[]⟩:St)) 0,⟨0,by omega,by simp,J⟩,Xw [] (by decide) J (by kernel_rfl) (.c J (.cons (S_eq (by rw[hlx]; simp[packK])) (.c J (.nil))))⟩ ?_
 rintro m_A _ ⟨k,hk_A,hp_A,rfl⟩
 refine Wz [23,12] ?_
 refine Q8 J (fun h => ?_) (fun h => ?_)
 ·have h3:k<xs.length:=by have:=Gqc h; omega
  have hat:=X5 h3
  have hb1:=X3 (packK xs k)
  have hb2:=packK_len xs k (by omega)
  have hb3:=X3 (encVar (signless xs[k]))
  have hb4:=Ya (signless xs[k])
  have hc:=S_Signless xs[k] (hg.2 _ (Gqf h3))
  refine Wz [9,28,84] ?_;refine zx (Qj J J (hc) J) J ?_;refine Wz [12] ?_
  refine Q8 J (fun h4 => ?_) (fun h4 => ?_)
  ·refine Wz [55,63,177,177] ?_
   refine Wz [153,47] ?_
   exact Xi J J (Xt [] (by decide) J J (S_eq (by rw[packInts,all_no h3 (by simpa using h4)]; rfl)))
  ·refine Wz [11,92,0] ?_
   refine Wz [84] ?_;refine zx (Qj J J (hc) J) J ?_;refine zx (Qj J J (S_EncodeVarint (signless xs[k])) J) J ?_;refine zx (q_cat J J J J (by omega)) J ?_;refine Wz [56] ?_
   exact⟨xs.length-(k+1),by omega,(fun k:Nat=>(⟨_,[(0,L xs),(3,S (bs (packK xs k))),(4,I k)],[]⟩:St)) (k+1),⟨k+1,by omega,Xz hp_A h3 (by simpa using h4),J⟩,Xw [] (by decide) J (by kernel_rfl) (.c J (.cons (S_eq (by rw[bs_app,packK_succ h3])) (.c J (.nil))))⟩
 ·have h3:¬((k:Int)<(els xs).length):=Gqg h
  have hk:k=xs.length:=by omega
  refine Wz [43] ?_
  exact Xi J J (Xt [] (by decide) J J (S_eq (by rw[packInts,Xy hp_A (by omega),hk]; rfl)))

def sumA (s:ByteArray):Nat→Int
 |0=>0
 |k+1=>(sumA s k+byteAt s k)%65521
def sumB (s:ByteArray):Nat→Int
 |0=>0
 |k+1=>(sumB s k+byteAt s k*(((k:Int)+1)%65521))%65521
def checksum (s:ByteArray):Int:=sumA s s.size+65536*sumB s s.size
theorem sumA_lt (s:ByteArray):∀ k,0≤sumA s k∧sumA s k<65521
 |0=>by simp[sumA]
 |k+1=>by simp only[sumA]; omega
theorem sumB_lt (s:ByteArray):∀ k,0≤sumB s k∧sumB s k<65521
 |0=>by simp[sumB]
 |k+1=>by simp only[sumB]; omega
theorem I_Checksum (s:ByteArray) (hs:s.size≤1099511627776):Con Tryz.prog 227 [] [astr s] [] (I (checksum s)):=by
 refine Con.of Tryz.func227 J Tryz.ntmps227 J (fun E => ?_)
 refine Wz [33,33,69] ?_;refine Xe (fun m st=>∃ k:Nat,k+m=s.size∧(True)∧st=(⟨_,[(0,S s),(3,I (sumA s k)),(4,I (sumB s k)),(5,I k)],[]⟩:St)) (s.size) ⟨_,⟨0,by omega,trivial,J⟩,Xv [] (by kernel_rfl)⟩ ?_
 rintro m_A _ ⟨k,hk_A,hp_A,rfl⟩
 refine Wz [28,136,12] ?_
 refine Q8 J (fun h => ?_) (fun h => ?_)
 ·have h3:k<s.size:=by have:=Gqc h; omega
  have hb1:=sumA_lt s k
  have hb2:=sumB_lt s k
  obtain⟨t,ht⟩:∃ t,byteAt s (k:Int).toNat=t:=⟨_,rfl⟩
  have htb:0≤t∧t≤255:=ht▸X4 _ _
  have hmul:0≤t*(((k:Int)+1)%65521)∧t*(((k:Int)+1)%65521)≤255*65520:=by
   have h5:0≤((k:Int)+1)%65521∧((k:Int)+1)%65521≤65520:=by omega
   exact⟨Int.mul_nonneg htb.1 h5.1,Int.mul_le_mul htb.2 h5.2 h5.1 (by omega)⟩
  have e1:sumA s (k+1)=(sumA s k+t)%65521:=by rw[sumA,←ht]; rfl
  have e2:sumB s (k+1)=(sumB s k+t*(((k:Int)+1)%65521))%65521:=by rw[sumB,←ht]; rfl
  refine Wz [9,156,192,159,14,161,3,92,0,192,159,0,14,161,114,14,161,56] ?_
  exact⟨s.size-(k+1),by omega,(fun k:Nat=>(⟨_,[(0,S s),(3,I (sumA s k)),(4,I (sumB s k)),(5,I k)],[]⟩:St)) (k+1),⟨k+1,by omega,trivial,J⟩,Xw [] (by decide) J (by kernel_rfl) (.c J (.cons (Xl e1.symm) (.cons (Xl e2.symm) (.c J (.nil)))))⟩
 ·have h3:¬((k:Int)<s.size):=Gqg h
  have hk:k=s.size:=by omega
  have hb1:=sumA_lt s k
  have hb2:=sumB_lt s k
  refine Wz [68,10,114,171,116,117] ?_
  exact Xi J J (Xt [] (by decide) J J (Xl (by rw[checksum,hk])))
theorem S_Checksum (s:ByteArray) (hs:s.size≤1099511627776):Con Tryz.prog 223 [] [astr s] [] (I (checksum s)):=by
 refine Con.of Tryz.func223 J Tryz.ntmps223 J (fun E => ?_)
 refine Wz [33,33,69] ?_;refine Xe (fun m st=>∃ k:Nat,k+m=s.size∧(True)∧st=(⟨_,[(0,S s),(3,I (sumA s k)),(4,I (sumB s k)),(5,I k)],[]⟩:St)) (s.size) ⟨_,⟨0,by omega,trivial,J⟩,Xv [] (by kernel_rfl)⟩ ?_
 rintro m_A _ ⟨k,hk_A,hp_A,rfl⟩
 refine Wz [28,136,12] ?_
 refine Q8 J (fun h => ?_) (fun h => ?_)
 ·have h3:k<s.size:=by have:=Gqc h; omega
  have hb1:=sumA_lt s k
  have hb2:=sumB_lt s k
  obtain⟨t,ht⟩:∃ t,byteAt s (k:Int).toNat=t:=⟨_,rfl⟩
  have htb:0≤t∧t≤255:=ht▸X4 _ _
  have hmul:0≤t*(((k:Int)+1)%65521)∧t*(((k:Int)+1)%65521)≤255*65520:=by
   have h5:0≤((k:Int)+1)%65521∧((k:Int)+1)%65521≤65520:=by omega
   exact⟨Int.mul_nonneg htb.1 h5.1,Int.mul_le_mul htb.2 h5.2 h5.1 (by omega)⟩
  have e1:sumA s (k+1)=(sumA s k+t)%65521:=by rw[sumA,←ht]; rfl
  have e2:sumB s (k+1)=(sumB s k+t*(((k:Int)+1)%65521))%65521:=by rw[sumB,←ht]; rfl
  refine Wz [9,156,192,159,14,161,3,92,0,192,159,0,14,161,114,14,161,56] ?_
  exact⟨s.size-(k+1),by omega,(fun k:Nat=>(⟨_,[(0,S s),(3,I (sumA s k)),(4,I (sumB s k)),(5,I k)],[]⟩:St)) (k+1),⟨k+1,by omega,trivial,J⟩,Xw [] (by decide) J (by kernel_rfl) (.c J (.cons (Xl e1.symm) (.cons (Xl e2.symm) (.c J (.nil)))))⟩
 ·have h3:¬((k:Int)<s.size):=Gqg h
  have hk:k=s.size:=by omega
  have hb1:=sumA_lt s k
  have hb2:=sumB_lt s k
  refine Wz [68,10,114,171,116,117] ?_
  exact Xi J J (Xt [] (by decide) J J (Xl (by rw[checksum,hk])))
end
section
open Go.RowKit

theorem W_pre {st st':St} {f:List (Nat×V)→St} (h:Wk st st') (k:∃ l,Wk st' (f l)):∃ l,Wk st (f l):=k.imp fun _ hl=>h.trans hl
theorem row2b {k:Nat} {o:Ob} {a b:List (List T)} (h:a=b) : [o,Ob.row k a] = [o,Ob.row k b]:=by rw[h]
def bodyInts (b:TBody):List Int := [b.Kind,b.Owner,b.X,b.Y,b.VX,b.VY,b.Aim,b.Life,b.Timer]
def worldInts (w:TWorld):List Int:=([w.Tick,w.Seed,(w.Scores.length:Int)]++w.Scores)++w.Bodies.flatMap bodyInts
noncomputable def worldBytes (w:TWorld):ByteArray:=if worldOk w=true then packInts (worldInts w) else ⟨#[]⟩
theorem els_app {α:Type} [Enc α] (xs ys:List α):els (xs++ys)=els xs++els ys:=List.map_append
theorem flat_snoc {bs:List TBody} {k:Nat} (h:k<bs.length):(bs.take (k+1)).flatMap bodyInts=(bs.take k).flatMap bodyInts++bodyInts bs[k]:=by
 rw[Gxm h,List.flatMap_append]
 simp
theorem flat_len (bs:List TBody):∀ k,k≤bs.length→((bs.take k).flatMap bodyInts).length=9*k
 |0,_=>by simp
 |k+1,h=>by
  rw[flat_snoc (by omega),Gqu,flat_len bs k (by omega)]
  simp[bodyInts]
  omega
theorem flat_gd {bs:List TBody} (hg:∀ b∈bs,Enc.gd b):∀ x∈bs.flatMap bodyInts,I64 x:=fun x hx=>by
 obtain⟨b,hb,hx⟩:=List.mem_flatMap.1 hx
 obtain⟨b1,b2,b3,b4,b5,b6,b7,b8,b9⟩:=hg b hb
 simp only[bodyInts,List.mem_cons,Gxq,or_false] at hx
 rcases hx with rfl | rfl | rfl | rfl | rfl | rfl | rfl | rfl | rfl <;> assumption
theorem I_bodyInts (b:TBody):Con Tryz.prog 261 [] [ag b] [.row 1 (els (bodyInts b))] (.o (.c (.ref 0))):=by
 refine Con.of Tryz.func261 J Tryz.ntmps261 J (fun E => ?_)
 refine Wz [58,24,13,13,13,13,13,13,13,13,107,46] ?_
 exact Xi J J (W_pre (Wk.sbrow (q:=1) J J (Gqt J)) (Xt [1] (by decide) J J J))
theorem I_WorldBytes (x:TWorld) (hg:Enc.gd x):Con Tryz.prog 222 [] [ag x] [] (S (worldBytes x)):=by
 have hc:=I_WorldOk x hg
 obtain⟨gL,gT,gS,gSc,gB⟩:=hg
 cases ho:worldOk x with
 |false =>
  rw[ho] at hc
  rw[show worldBytes x=⟨#[]⟩ by rw[worldBytes,ho]; exact if_neg (by decide)]
  refine Con.of Tryz.func222 J Tryz.ntmps222 J (fun E => ?_)
  refine Wz [58,112,38] ?_;refine zx (Qj J J (hc) J) J ?_;refine Wz [5,37] ?_
  exact Xi J J (Xt [] (by decide) J J J)
 | true =>
  rw[ho] at hc
  rw[show worldBytes x=packInts (worldInts x) by rw[worldBytes,ho]; exact if_pos rfl]
  obtain⟨_,_,_,hn,_,hb,_⟩:=Ka ho
  have hls:=X6 x.Scores
  have hlb:=X6 x.Bodies
  refine Con.of Tryz.func222 J Tryz.ntmps222 J (fun E => ?_)
  refine Wz [58,112,38] ?_;refine zx (Qj J J (hc) J) J ?_;refine Wz [53,24,13,13,21,107,3,4,13] ?_
  have hl3:(els [x.Tick,x.Seed,((els x.Scores).length:Int)]).length=3:=rfl
  refine AL.weak (Wk.sbrow (q:=1) (es:=els [x.Tick,x.Seed,((els x.Scores).length:Int)]) J J (Gqt J)) ?_;refine AL.weak (st':=(⟨_,[(1,.o (.c (.ptr 0 0))),(17,.o (.c (.ref 1))),(19,L x.Scores)],[.box ((Enc.e x).map (V1.rd [])),.row 1 (els [x.Tick,x.Seed,((els x.Scores).length:Int)])]⟩:St)) (Xv [0,1] (by kernel_rfl)) ?_;refine M_app J J J J J J J J J J (X8 _) (els_k _) (by omega) (by omega) ?_;refine Wz [3,27,104,2,50] ?_
  have hini:els (([x.Tick,x.Seed,(x.Scores.length:Int)]++x.Scores)++(x.Bodies.take 0).flatMap bodyInts)=els [x.Tick,x.Seed,((els x.Scores).length:Int)]++els x.Scores:=by rw[List.take_zero,List.flatMap_nil,Gqy,els_app,hls]
  refine Xe (fun m st=>∃ k:Nat,k+m=x.Bodies.length∧(True)∧st=(⟨_,[(1,.o (.c (.ptr 0 0))),(3,.o (.c (.ref 1))),(22,L x.Bodies),(23,I (els x.Bodies).length),(24,I k)],[.box ((Enc.e x).map (V1.rd [])),.row 1 (els (([x.Tick,x.Seed,(x.Scores.length:Int)]++x.Scores)++(x.Bodies.take k).flatMap bodyInts))]⟩:St)) (x.Bodies.length) ⟨(fun k:Nat=>(⟨_,[(1,.o (.c (.ptr 0 0))),(3,.o (.c (.ref 1))),(22,L x.Bodies),(23,I (els x.Bodies).length),(24,I k)],[.box ((Enc.e x).map (V1.rd [])),.row 1 (els (([x.Tick,x.Seed,(x.Scores.length:Int)]++x.Scores)++(x.Bodies.take k).flatMap bodyInts))]⟩:St)) 0,⟨0,by omega,trivial,J⟩,Xw [0,1] (by decide) J (row2b hini) (.c J (.c J (.c J (.c J (.c J (.nil))))))⟩ ?_
  rintro m_A _ ⟨k,hk_A,hp_A,rfl⟩
  have hla:=X6 (([x.Tick,x.Seed,(x.Scores.length:Int)]++x.Scores)++(x.Bodies.take k).flatMap bodyInts)
  have hfl:=flat_len x.Bodies k (by omega)
  have hlc:(([x.Tick,x.Seed,(x.Scores.length:Int)]++x.Scores)++(x.Bodies.take k).flatMap bodyInts).length=3+x.Scores.length+9*k:=by
   rw[Gqu,Gqu,hfl]; rfl
  refine Wz [7,12,16] ?_
  refine Q8 J (fun h => ?_) (fun h => ?_)
  ·have h3:k<x.Bodies.length:=by have:=Gqc h; omega
   have hat:=X5 h3
   have hlb9:(els (bodyInts x.Bodies[k])).length=9:=rfl
   refine Wz [9,7,89,22,49,75,38] ?_;refine M1 (Y8 J J (I_bodyInts x.Bodies[k]) J J J) J J ?_;refine M_app J J J J J J J J J J (X8 _) (els_k _) (by omega) (by omega) ?_;refine Wz [96,134,60,100,14,0,2] ?_
   exact⟨x.Bodies.length-(k+1),by omega,(fun k:Nat=>(⟨_,[(1,.o (.c (.ptr 0 0))),(3,.o (.c (.ref 1))),(22,L x.Bodies),(23,I (els x.Bodies).length),(24,I k)],[.box ((Enc.e x).map (V1.rd [])),.row 1 (els (([x.Tick,x.Seed,(x.Scores.length:Int)]++x.Scores)++(x.Bodies.take k).flatMap bodyInts))]⟩:St)) (k+1),⟨k+1,by omega,trivial,J⟩,Xw [0,1] (by decide) J (row2b (by rw[flat_snoc h3,←Gq9,els_app _ (bodyInts x.Bodies[k])])) (.c J (.c J (.c J (.c J (.c J (.nil))))))⟩
  ·have h3:¬k<x.Bodies.length:=by have:=Gqg h; omega
   have hk:x.Bodies.take k=x.Bodies:=Gqk (by omega)
   rw[hk] at hlc hla ⊢
   have hgi:Enc.gd (([x.Tick,x.Seed,(x.Scores.length:Int)]++x.Scores)++x.Bodies.flatMap bodyInts):=⟨by omega,fun y hy=>by
    rcases Gqw.1 hy with hy | hy
    ·rcases Gqw.1 hy with hy | hy
     ·simp only[List.mem_cons,Gxq,or_false] at hy
      rcases hy with rfl | rfl | rfl
      ·exact gT
      ·exact gS
      ·exact⟨by omega,by omega⟩
     ·exact gSc.2 y hy
    ·exact flat_gd gB.2 y hy⟩
   have hp:=I_PackInts (([x.Tick,x.Seed,(x.Scores.length:Int)]++x.Scores)++x.Bodies.flatMap bodyInts) hgi (by omega)
   refine Wz [68,4] ?_;refine zx (Qj J J (hp) J) J ?_;refine Wz [46] ?_
   exact Xi J J (Xt [] (by decide) J J J)
theorem S_WorldBytes (x:TWorld) (hg:Enc.gd x):Con Tryz.prog 220 [] [ag x] [] (S (worldBytes x)):=by
 have hc:=S_WorldOk x hg
 obtain⟨gL,gT,gS,gSc,gB⟩:=hg
 cases ho:worldOk x with
 |false =>
  rw[ho] at hc
  rw[show worldBytes x=⟨#[]⟩ by rw[worldBytes,ho]; exact if_neg (by decide)]
  refine Con.of Tryz.func220 J Tryz.ntmps220 J (fun E => ?_)
  refine Wz [58,112,38] ?_;refine zx (Qj J J (hc) J) J ?_;refine Wz [5,37] ?_
  exact Xi J J (Xt [] (by decide) J J J)
 | true =>
  rw[ho] at hc
  rw[show worldBytes x=packInts (worldInts x) by rw[worldBytes,ho]; exact if_pos rfl]
  obtain⟨_,_,_,hn,_,hb,_⟩:=Ka ho
  have hls:=X6 x.Scores
  have hlb:=X6 x.Bodies
  refine Con.of Tryz.func220 J Tryz.ntmps220 J (fun E => ?_)
  refine Wz [58,112,38] ?_;refine zx (Qj J J (hc) J) J ?_;refine Wz [53,24,13,13,21,107,13] ?_
  have hl3:(els [x.Tick,x.Seed,((els x.Scores).length:Int)]).length=3:=rfl
  refine AL.weak (Wk.sbrow (q:=1) (es:=els [x.Tick,x.Seed,((els x.Scores).length:Int)]) J J (Gqt J)) ?_;refine AL.weak (st':=(⟨_,[(1,.o (.c (.ptr 0 0))),(16,.o (.c (.ref 1))),(18,L x.Scores)],[.box ((Enc.e x).map (V1.rd [])),.row 1 (els [x.Tick,x.Seed,((els x.Scores).length:Int)])]⟩:St)) (Xv [0,1] (by kernel_rfl)) ?_;refine M_app J J J J J J J J J J (X8 _) (els_k _) (by omega) (by omega) ?_;refine Wz [3,39] ?_
  have hini:els (([x.Tick,x.Seed,(x.Scores.length:Int)]++x.Scores)++(x.Bodies.take 0).flatMap bodyInts)=els [x.Tick,x.Seed,((els x.Scores).length:Int)]++els x.Scores:=by rw[List.take_zero,List.flatMap_nil,Gqy,els_app,hls]
  refine Xe (fun m st=>∃ k:Nat,k+m=x.Bodies.length∧(True)∧st=(⟨_,[(1,.o (.c (.ptr 0 0))),(3,.o (.c (.ref 1))),(4,I k)],[.box ((Enc.e x).map (V1.rd [])),.row 1 (els (([x.Tick,x.Seed,(x.Scores.length:Int)]++x.Scores)++(x.Bodies.take k).flatMap bodyInts))]⟩:St)) (x.Bodies.length) ⟨(fun k:Nat=>(⟨_,[(1,.o (.c (.ptr 0 0))),(3,.o (.c (.ref 1))),(4,I k)],[.box ((Enc.e x).map (V1.rd [])),.row 1 (els (([x.Tick,x.Seed,(x.Scores.length:Int)]++x.Scores)++(x.Bodies.take k).flatMap bodyInts))]⟩:St)) 0,⟨0,by omega,trivial,J⟩,Xw [0,1] (by decide) J (row2b hini) (.c J (.c J (.c J (.nil))))⟩ ?_
  rintro m_A _ ⟨k,hk_A,hp_A,rfl⟩
  have hla:=X6 (([x.Tick,x.Seed,(x.Scores.length:Int)]++x.Scores)++(x.Bodies.take k).flatMap bodyInts)
  have hfl:=flat_len x.Bodies k (by omega)
  have hlc:(([x.Tick,x.Seed,(x.Scores.length:Int)]++x.Scores)++(x.Bodies.take k).flatMap bodyInts).length=3+x.Scores.length+9*k:=by
   rw[Gqu,Gqu,hfl]; rfl
  refine Wz [111,13,21,12] ?_
  refine Q8 J (fun h => ?_) (fun h => ?_)
  ·have h3:k<x.Bodies.length:=by have:=Gqc h; omega
   have hat:=X5 h3
   have hlb9:(els (bodyInts x.Bodies[k])).length=9:=rfl
   refine Wz [9,36,89,22,49,75,13,13,13,13,13,13,13,13,13,107,201,56] ?_
   exact⟨x.Bodies.length-(k+1),by omega,(fun k:Nat=>(⟨_,[(1,.o (.c (.ptr 0 0))),(3,.o (.c (.ref 1))),(4,I k)],[.box ((Enc.e x).map (V1.rd [])),.row 1 (els (([x.Tick,x.Seed,(x.Scores.length:Int)]++x.Scores)++(x.Bodies.take k).flatMap bodyInts))]⟩:St)) (k+1),⟨k+1,by omega,trivial,J⟩,Xw [0,1] (by decide) J (row2b (by rw[flat_snoc h3,←Gq9,els_app _ (bodyInts x.Bodies[k])]; rfl)) (.c J (.c J (.c J (.nil))))⟩
  ·have h3:¬k<x.Bodies.length:=by have:=Gqg h; omega
   have hk:x.Bodies.take k=x.Bodies:=Gqk (by omega)
   rw[hk] at hlc hla ⊢
   have hgi:Enc.gd (([x.Tick,x.Seed,(x.Scores.length:Int)]++x.Scores)++x.Bodies.flatMap bodyInts):=⟨by omega,fun y hy=>by
    rcases Gqw.1 hy with hy | hy
    ·rcases Gqw.1 hy with hy | hy
     ·simp only[List.mem_cons,Gxq,or_false] at hy
      rcases hy with rfl | rfl | rfl
      ·exact gT
      ·exact gS
      ·exact⟨by omega,by omega⟩
     ·exact gSc.2 y hy
    ·exact flat_gd gB.2 y hy⟩
   have hp:=S_PackInts (([x.Tick,x.Seed,(x.Scores.length:Int)]++x.Scores)++x.Bodies.flatMap bodyInts) hgi (by omega)
   refine Wz [68,4] ?_;refine zx (Qj J J (hp) J) J ?_;refine Wz [46] ?_
   exact Xi J J (Xt [] (by decide) J J J)
end
section
open Go.RowKit

def dvGo (s:ByteArray) (p:Nat) (n:Int) (k:Nat):Nat→Option (Int×Nat)
 |0=>none
 | f+1=>if p+k<s.size then
   (if 128≤byteAt s (p+k) then dvGo s p (n+byteAt s (p+k)%128*2 ^ (7*k)) (k+1) f
    else if (byteAt s (p+k)=0∧0<k)∨1099511627775<n+byteAt s (p+k)%128*2 ^ (7*k) then none
    else some (n+byteAt s (p+k)%128*2 ^ (7*k),k+1)) else none
def decVar (s:ByteArray) (p:Int):Option (Int×Nat):=if 0≤p∧p<s.size then dvGo s p.toNat 0 0 6 else none
@[reducible] def bv (b:Bool):V1 := .rd [] (.v (.bool b))
@[reducible] def jn (n:Int):V1 := .rd [] (.v (.int .i64 n))
end
section
open Go.RowKit

def signed (n:Int):Int:=if 0≤n∧n≤1099511627775 then (if n%2=0 then n/2 else -((n+1)/2)) else 0
/-! ### Lists -/
/-! ### Texts -/
def unpackText (s:ByteArray) (p:Int):Option (ByteArray×Nat):=match decVar s p with
 |none=>none
 |some (n,k)=>if (s.size:Int)-p-k<n then none else some (s.extract (p+k).toNat (p+k+n).toNat,k+n.toNat)
end
section
open Go.RowKit

theorem S_inputsOk (xs:List Int) (hn:Enc.gd xs):Con Tryz.prog 224 [] [al xs] [] (B (inOk xs)):=by
 have hn1:=hn.1
 have hlx:=X6 xs
 refine Con.of Tryz.func224 J Tryz.ntmps224 J (fun E => ?_)
 refine Wz [69] ?_;refine Xe (fun m st=>∃ k:Nat,k+m=xs.length∧((xs.take k).all (fun n=>inR n 0 15)=true)∧st=(⟨_,[(0,L xs),(3,I k)],[]⟩:St)) (xs.length) ⟨_,⟨0,by omega,by simp,J⟩,Xv [] (by kernel_rfl)⟩ ?_
 rintro m_A _ ⟨k,hk_A,hp_A,rfl⟩
 refine Wz [23,12] ?_
 refine Q8 J (fun h => ?_) (fun h => ?_)
 ·have h3:k<xs.length:=by have:=Gqc h; omega
  have hat:=X5 h3
  refine Wz [9,10,84] ?_;refine zx (Qj J J (Xs xs[k] 0 15) J) J ?_;refine Wz [5,2] ?_
  refine Q8 J (fun h4 => ?_) (fun h4 => ?_)
  ·refine Wz [55,151] ?_
   refine Wz [47] ?_
   exact Xi J J (Xt [] (by decide) J J (Xf (all_no h3 (by simpa using h4)).symm))
  ·refine Wz [124,241,14] ?_
   refine Wz [3] ?_
   exact⟨xs.length-(k+1),by omega,_,⟨k+1,by omega,Xz hp_A h3 (by simpa using h4),J⟩,Xv [] (by kernel_rfl)⟩
 ·have h3:¬((k:Int)<(els xs).length):=Gqg h
  refine Wz [94] ?_
  exact Xi J J (Xt [] (by decide) J J (Xf (Xy hp_A (by omega)).symm))
end
section
open Go.RowKit
end
section
open Go.RowKit
end
section
open Go.RowKit
end
section
open Go.RowKit

/-! ### Numbers -/
/-! ### Lists -/
/-! ### Texts -/
/-! ### Columns -/
/-! ### DecodeStream -/
end
section
open Go.RowKit
end
section
open Go.RowKit

inductive Den1:V1→V1→Prop
 |same (x:V1):Den1 x x
 |nil (qs:List Nat) (k:Nat):Den1 (.rd qs (.v (.slice none 0 0))) (.rd qs (.sl k []))
inductive DenL:List V1→List V1→Prop
 |nil:DenL [] []
 |cons {x y:V1} {xs ys:List V1} (h:Den1 x y) (t:DenL xs ys):DenL (x::xs) (y::ys)
inductive Den2:V2→V2→Prop
 |same (x:V2):Den2 x x
 |ag {xs ys:List V1} (h:DenL xs ys):Den2 (.ag xs) (.ag ys)
inductive DenA:List V2→List V2→Prop
 |nil:DenA [] []
 |cons {x y:V2} {xs ys:List V2} (h:Den2 x y) (t:DenA xs ys):DenA (x::xs) (y::ys)
section
variable {w:World} {H:Hs} {F:Nat→Prop}
theorem Den1.r {x y:V1} (h:Den1 x y) {v:Value} (hx:R1 w H F x v):R1 w H F y v:=by
 cases h with
 |same=>exact hx
 |nil qs k=>obtain⟨rfl,_⟩:=RO.plain hx; exact .nil _ _ _ (by simp)
theorem DenL.r:∀ {xs ys:List V1},DenL xs ys→xs.length=ys.length∧∀ (i:Nat) (y:V1),ys[i]? = some y→∃ x,xs[i]? = some x∧Den1 x y
 |_,_,.nil=>⟨rfl,fun i y h=>by simp at h⟩
 |_,_,.cons (x:=x) h t=>by
  obtain⟨h1,h2⟩:=DenL.r t
  refine⟨by simp[h1],fun i y hy => ?_⟩
  cases i with
  |zero=>simp at hy; subst hy; exact⟨x,rfl,h⟩
  |succ i=>simpa using h2 i y (by simpa using hy)
theorem Den2.r {x y:V2} (h:Den2 x y) {v:Value} (hx:R2 w H F x v):R2 w H F y v:=by
 cases h with
 |same=>exact hx
 |ag h =>
  obtain⟨h1,h2⟩:=h.r
  obtain⟨us,e,hl,hr⟩:=hx
  refine⟨us,e,by omega,fun i y u h3 h4 => ?_⟩
  obtain⟨x,h5,h6⟩:=h2 i y h3
  exact h6.r (hr i x u h5 h4)
theorem DenA.r:∀ {xs ys:List V2},DenA xs ys→xs.length=ys.length∧∀ (i:Nat) (y:V2),ys[i]? = some y→∃ x,xs[i]? = some x∧Den2 x y
 |_,_,.nil=>⟨rfl,fun i y h=>by simp at h⟩
 |_,_,.cons (x:=x) h t=>by
  obtain⟨h1,h2⟩:=DenA.r t
  refine⟨by simp[h1],fun i y hy => ?_⟩
  cases i with
  |zero=>simp at hy; subst hy; exact⟨x,rfl,h⟩
  |succ i=>simpa using h2 i y (by simpa using hy)
end
def nilV:V1 := .rd [] (.v (.slice none 0 0))
theorem I_copyLevel (x:TLevel) (hg:Enc.gd x) (hL:x.Rows.length≤1048576):Con Tryz.prog 65 [] [ag x] [.row 1 (els x.Rows)] (.o (.ag [.ref 0])):=by
 have hlx:=X6 x.Rows
 have hg1:=hg.1
 refine Con.of Tryz.func65 J Tryz.ntmps65 J (fun E => ?_)
 refine Wz [113,22,2,24] ?_;refine M_appnil J J J J J J J J (X8 _) (els_k _) (by omega) (by omega) ?_;refine Wz [115,49,116,117] ?_
 exact E_cell J J J J (Xt [2] (by decide) J J J)
theorem S_copyLevel (x:TLevel) (hg:Enc.gd x) (hL:x.Rows.length≤1048576):Con Tryz.prog 56 [] [ag x] [.row 1 (els x.Rows)] (.o (.ag [.ref 0])):=by
 have hlx:=X6 x.Rows
 have hg1:=hg.1
 have h00:([]:List (List T)).length=0:=rfl
 refine Con.of Tryz.func56 J Tryz.ntmps56 J (fun E => ?_)
 refine Wz [113,22,2,7,202,13] ?_;refine M_app J J J J J J J J J J (X8 _) (els_k _) (by omega) (by omega) ?_;refine Wz [115,49,116,117] ?_
 exact E_cell J J J J (Xt [2] (by decide) J J J)
end
section
open Go.RowKit

def zeroWorld:TWorld:=⟨⟨[]⟩,0,0,[],[]⟩
end
section
open Go.RowKit
end
section
open Go.RowKit

def colF (q:Int→Bool) (row:ByteArray):Nat→Option Nat
 |0=>none
 |c+1=>match colF q row c with
  |some x=>some x
  |none=>if q (byteAt row c)=true then some c else none
def tileF (q:Int→Bool) (rows:List ByteArray):Nat→Option (Nat×Nat)
 |0=>none
 | r+1=>match tileF q rows r with
  |some x=>some x
  |none=>match rows[r]? with
   |none=>none
   |some row=>(colF q row row.size).map fun c=>(r,c)
def isOpen (t:Int):Bool:=decide (t≠35)
def isDig (p:Int) (t:Int):Bool:=decide (t=49+p)
def spX:Option (Nat×Nat)→Int
 |none => -1
 |some (_,c)=>16*c+2
def spY:Option (Nat×Nat)→Int
 |none => -1
 |some (r,_)=>16*r+2
def startT (l:TLevel) (p:Int):Option (Nat×Nat):=match tileF (isDig p) l.Rows l.Rows.length with
 |some x=>some x
 |none=>tileF isOpen l.Rows l.Rows.length
theorem colF_some {q:Int→Bool} {row:ByteArray}:∀ {n c:Nat},colF q row n=some c→c<n∧q (byteAt row c)=true
 |0,c,h=>by cases h
 | n+1,c,h=>by
  rw[colF] at h
  cases h1:colF q row n with
  |some x=>rw[h1] at h; cases h; have:=colF_some h1; exact⟨by omega,this.2⟩
  |none =>
   rw[h1] at h
   by_cases h2:q (byteAt row n)=true
   ·rw[if_pos h2] at h; cases h; exact⟨by omega,h2⟩
   ·rw[if_neg h2] at h; cases h
theorem colF_none {q:Int→Bool} {row:ByteArray}:∀ {n:Nat},colF q row n=none→∀ c,c<n→q (byteAt row c)=false
 |0,h,c,hc=>by omega
 | n+1,h,c,hc=>by
  rw[colF] at h
  cases h1:colF q row n with
  |some x=>rw[h1] at h; cases h
  | none =>
   rw[h1] at h
   by_cases h2:q (byteAt row n)=true
   ·rw[if_pos h2] at h; cases h
   ·by_cases e:c=n
    ·subst e; simpa using h2
    ·exact colF_none h1 c (by omega)
theorem tileF_some {q:Int→Bool} {rows:List ByteArray}:∀ {n r c:Nat},tileF q rows n=some (r,c)→∃ h:r<rows.length,r<n∧c<rows[r].size∧q (byteAt rows[r] c)=true
 |0,r,c,h=>by cases h
 | n+1,r,c,h=>by
  rw[tileF] at h
  cases h1:tileF q rows n with
  |some x=>rw[h1] at h; cases h; obtain⟨a,b,d⟩:=tileF_some h1; exact⟨a,by omega,d⟩
  | none =>
   rw[h1] at h
   cases h2:rows[n]? with
   |none=>rw[h2] at h; cases h
   |some row =>
    rw[h2] at h
    simp only[Option.map_eq_some_iff,Prod.mk.injEq] at h
    obtain⟨c',h3,rfl,rfl⟩:=h
    have hn:=(Gqn.1 h2).1
    have he:=(Gqn.1 h2).2
    have:=colF_some h3
    exact⟨hn,by omega,by rw[he]; exact this.1,by rw[he]; exact this.2⟩
theorem tileF_none {q:Int→Bool} {rows:List ByteArray}:∀ {n:Nat},tileF q rows n=none→∀ r (h:r<rows.length),r<n→∀ c,c<rows[r].size→q (byteAt rows[r] c)=false
 |0,h,r,hr,hn,c,hc=>by omega
 | n+1,h,r,hr,hn,c,hc=>by
  rw[tileF] at h
  cases h1:tileF q rows n with
  |some x=>rw[h1] at h; cases h
  | none =>
   rw[h1] at h
   by_cases e:r=n
   ·subst e
    rw[Gqe hr] at h
    simp only[Option.map_eq_none_iff] at h
    exact colF_none h c hc
   ·exact tileF_none h1 r hr (by omega) c hc
theorem tileM_open {e:Bool} {t:Int} {s s':Seen×Bool} (h:tileM e t s=some s') (ho:s'.2=true):s.2=true∨t≠35:=by
 by_cases ht:t=35
 ·rw[tileM,if_pos ht] at h; cases h; exact .inl ho
 ·exact .inr ht
theorem cols_open {row:ByteArray} {er:Bool} {w:Nat} {s:Seen×Bool}:∀ {n:Nat} {s':Seen×Bool},colsM row er w s n=some s'→s'.2=true→s.2=true∨∃ c,c<n∧byteAt row c≠35
 |0,s',h,ho=>by cases h; exact .inl ho
 | n+1,s',h,ho=>by
  rw[colsM] at h
  cases h1:colsM row er w s n with
  |none=>rw[h1] at h; cases h
  | some s1 =>
   rw[h1] at h
   rcases tileM_open h ho with h2 | h2
   ·rcases cols_open h1 h2 with h3 | ⟨c,hc,h3⟩
    ·exact .inl h3
    ·exact .inr ⟨c,by omega,h3⟩
   ·exact .inr ⟨n,by omega,h2⟩
theorem rows_open {rows:List ByteArray} {w:Nat}:∀ {n:Nat} {s:Seen×Bool},rowsM rows w n=some s→s.2=true→∃ r c,∃ h:r<rows.length,r<n∧c<rows[r].size∧byteAt rows[r] c≠35
 |0,s,h,ho=>by cases h; cases ho
 | n+1,s,h,ho=>by
  rw[rowsM] at h
  cases h1:rowsM rows w n with
  |none=>rw[h1] at h; cases h
  | some s1 =>
   rw[h1] at h
   cases h2:rows[n]? with
   |none=>rw[h2] at h; cases h
   | some row =>
    rw[h2] at h
    simp only at h
    split at h
    ·rename_i hw
     have hn:=(Gqn.1 h2).1
     have he:=(Gqn.1 h2).2
     rcases cols_open h ho with h3 | ⟨c,hc,h3⟩
     ·obtain⟨r,c,a,b,d⟩:=rows_open h1 h3
      exact⟨r,c,a,by omega,d⟩
     ·exact⟨n,c,hn,by omega,by rw[he]; omega,by rw[he]; exact h3⟩
    ·cases h
theorem level_open {l:TLevel} (h:levelOk l=true):∃ r c,∃ h:r<l.Rows.length,c<(l.Rows[r]).size∧byteAt (l.Rows[r]) c≠35:=by
 unfold levelOk at h
 simp only[Gqj] at h
 obtain⟨_,h5⟩:=h
 split at h5
 ·rename_i s hs
  obtain⟨r,c,a,b,d⟩:=rows_open hs h5
  exact⟨r,c,a,d⟩
 ·cases h5
theorem start_some {l:TLevel} (hl:levelOk l=true) {p:Int} (hp:0≤p∧p≤3):∃ r c,startT l p=some (r,c)∧∃ h:r<l.Rows.length,c<(l.Rows[r]).size∧byteAt (l.Rows[r]) c≠35:=by
 unfold startT
 cases h1:tileF (isDig p) l.Rows l.Rows.length with
 |some x =>
  obtain⟨r,c⟩:=x
  obtain⟨a,b,d,e⟩:=tileF_some h1
  refine⟨r,c,J,a,d,?_⟩
  have:=Gqc e
  omega
 | none =>
  cases h2:tileF isOpen l.Rows l.Rows.length with
  |some x =>
   obtain⟨r,c⟩:=x
   obtain⟨a,b,d,e⟩:=tileF_some h2
   exact⟨r,c,J,a,d,Gqc e⟩
  |none =>
   obtain⟨r,c,a,d,e⟩:=level_open hl
   have:=tileF_none h2 r a a c d
   exact absurd e (Gqg this)
def openF (rows:List ByteArray) (row:ByteArray) (r c:Nat):Option (Nat×Nat):=match tileF isOpen rows r with
 |some x=>some x
 |none=>(colF isOpen row c).map fun c=>(r,c)
theorem openF_zero {rows:List ByteArray} {row:ByteArray} {r:Nat}:openF rows row r 0=tileF isOpen rows r:=by
 unfold openF
 cases tileF isOpen rows r <;> rfl
theorem openF_end {rows:List ByteArray} {row:ByteArray} {r:Nat} (h:rows[r]? = some row):openF rows row r row.size=tileF isOpen rows (r+1):=by
 rw[openF,tileF,h]
theorem Y0 {rows:List ByteArray} {row:ByteArray} {r c:Nat} {x:Nat×Nat} (h:openF rows row r c=some x):openF rows row r (c+1)=some x:=by
 unfold openF at h ⊢
 cases h1:tileF isOpen rows r with
 |some y=>rw[h1] at h; exact h
 |none =>
  rw[h1] at h
  simp only[Option.map_eq_some_iff] at h ⊢
  obtain⟨a,h2,h3⟩:=h
  exact⟨a,by rw[colF,h2],h3⟩
theorem Y1 {rows:List ByteArray} {row:ByteArray} {r c:Nat} (h:openF rows row r c=none):openF rows row r (c+1)=if byteAt row c=35 then none else some (r,c):=by
 unfold openF at h ⊢
 cases h1:tileF isOpen rows r with
 |some y=>rw[h1] at h; cases h
 |none =>
  rw[h1] at h
  simp only[Option.map_eq_none_iff] at h
  simp only[colF,h]
  by_cases h2:byteAt row c=35
  ·rw[if_pos h2,if_neg (show ¬isOpen (byteAt row c)=true from fun q=>Gqc q h2)]; rfl
  ·rw[if_neg h2,if_pos (show isOpen (byteAt row c)=true from Gqb h2)]; rfl
theorem colF_step {q:Int→Bool} {row:ByteArray} {c:Nat} (h:colF q row c=none) (hq:q (byteAt row c)=false):colF q row (c+1)=none:=by rw[colF,h]; simp[hq]
theorem colF_hit {q:Int→Bool} {row:ByteArray} {c:Nat} (h:colF q row c=none) (hq:q (byteAt row c)=true):∀ {n:Nat},c<n→colF q row n=some c
 |0,hn=>by omega
 |n+1,hn=>by
  rw[colF]
  by_cases e:c=n
  ·subst e; rw[h]; simp[hq]
  ·rw[colF_hit h hq (by omega)]
theorem tileF_step {q:Int→Bool} {rows:List ByteArray} {row:ByteArray} {r:Nat} (h:tileF q rows r=none) (hr:rows[r]? = some row) (hc:colF q row row.size=none):tileF q rows (r+1)=none:=by rw[tileF,h,hr]; simp[hc]
theorem tileF_hit {q:Int→Bool} {rows:List ByteArray} {row:ByteArray} {r c:Nat} (h:tileF q rows r=none) (hr:rows[r]? = some row) (hc:colF q row row.size=some c):∀ {n:Nat},r<n→tileF q rows n=some (r,c)
 |0,hn=>by omega
 |n+1,hn=>by
  rw[tileF]
  by_cases e:r=n
  ·subst e; rw[h,hr]; simp[hc]
  ·rw[tileF_hit h hr hc (by omega)]
theorem start_dig {l:TLevel} {p:Int} {row:ByteArray} {r c:Nat} (h:tileF (isDig p) l.Rows r=none) (hr:l.Rows[r]? = some row) (hc:colF (isDig p) row c=none) (hcs:c<row.size) (hb:byteAt row c=49+p):startT l p=some (r,c):=by
 have h1:=colF_hit hc (show isDig p (byteAt row c)=true from Gqb hb) hcs
 rw[startT,tileF_hit h hr h1 (Gqn.1 hr).1]
theorem start_open {l:TLevel} {p:Int} {n:Nat} (h:tileF (isDig p) l.Rows n=none) (hn:n=l.Rows.length):startT l p=tileF isOpen l.Rows n:=by
 subst hn
 rw[startT,h]
theorem spX_neg {o:Option (Nat×Nat)}:spX o<0↔o=none:=by
 cases o with
 |none=>simp[spX]
 |some x=>obtain⟨r,c⟩:=x; simp[spX]; omega
def fresh (l:TLevel) (p:Int):TBody:=⟨0,p,spX (startT l p),spY (startT l p),0,0,1,3,0⟩
theorem fresh_free {l:TLevel} (hl:levelOk l=true) {p:Int} (hp:0≤p∧p≤3):solidM l (fresh l p).X (fresh l p).Y 12=false∧(0≤(fresh l p).X∧(fresh l p).X≤400)∧(0≤(fresh l p).Y∧(fresh l p).Y≤400):=by
 obtain⟨r,c,h1,hr,hc,hb⟩:=start_some hl hp
 obtain⟨l3,l12,w,w4,w20,hw⟩:=Yl hl
 have hwr:=hw r hr
 rw[fresh,h1]
 refine⟨solidM_F ?_,by simp only[spX]; omega,by simp only[spY]; omega⟩
 rintro⟨r',c',a1,a2,a3,a4,hwall⟩
 simp only[spX,spY] at a1 a2 a3 a4
 have e1:r'=r:=by omega
 have e2:c'=c:=by omega
 subst e1 e2
 exact no_wall hr hc hb hwall
def newWorld (l:TLevel) (n:Nat) (seed:Int):TWorld:=⟨l,0,seed,List.replicate n 0,(List.range n).map fun (k:Nat)=>fresh l (k:Int)⟩
theorem newWorld_ok {l:TLevel} {n:Nat} {seed:Int} (hl:levelOk l=true) (hn:1≤n∧n≤4) (hs:inR seed 0 65535=true):worldOk (newWorld l n seed)=true:=by
 refine worldOk_T ⟨hl,J,hs,by simpa[newWorld] using hn,?_,by simp[newWorld]; omega,?_⟩
 ·simp only[newWorld,scoresOk,List.all_replicate]
  simp[inR]
 ·intro k hk
  have hk4:k<n:=by simpa[newWorld] using hk
  have hlen:(newWorld l n seed).Scores.length=n:=by simp[newWorld]
  have hb:(newWorld l n seed).Bodies[k]=fresh l k:=by simp[newWorld]
  rw[hlen,hb]
  obtain⟨h1,h2,h3⟩:=fresh_free hl (p:=(k:Int)) (by omega)
  show bodyAt l n k (fresh l k)=true
  rw[bodyAt,if_pos hk4,Gqj]
  refine⟨?_,Gqb ⟨J,J⟩⟩
  rw[bodyM,show sizeOf (fresh l k).Kind=12 from rfl,h1]
  have e1:inR (fresh l (k:Int)).Kind 0 2=true:=rfl
  have e2:inR (fresh l (k:Int)).Owner 0 ((n:Int)-1)=true:=Yk.2 ⟨by show (0:Int)≤k; omega,by show (k:Int)≤n-1; omega⟩
  have e3:inR (fresh l (k:Int)).VX (-15) 15=true:=rfl
  have e4:inR (fresh l (k:Int)).VY (-15) 15=true:=rfl
  have e5:tailM (fresh l (k:Int))=true:=rfl
  rw[e1,e2,e3,e4,e5]
  rfl
theorem flat_length (bs:List TBody):(bs.flatMap bodyInts).length=9*bs.length:=by
 have:=flat_len bs bs.length (Gqi _)
 rwa[List.take_length] at this
end
end Go.Proofs.YtoecjaohdnoenaaGreat
